import Derived.Test.YtiaeldibklcobaaZRPx12
namespace Go.Proofs.Ytiaeldibklcobaa.eZ
open Go.RowKit Go.Proofs.YtiaeldibklcobaaW.bL Go.Proofs.YtiaeldibklcobaaW.fV Go.Proofs.YtiaeldibklcobaaW.iZ
set_option maxHeartbeats 8000000
set_option maxRecDepth 100000
attribute [local go_sem] kL kM lX lY jC jD kN kP
set_option linter.unusedVariables false
set_option linter.unusedSimpArgs false
mutual
def bH.l0 : Nat → List (iJ) → Int → Int → Int → Int → ByteArray → Int → List (Xg) → Option (ByteArray × Int × (List (Xg)) × (List (Qf)) × (List (Cg)) × Int × Int × Int × Int)
 | 0, _, _, _, _, _, _, _, _ => none
 | k + 1, x1000, jK, kE, jE, kF, xP, xQ, wK => (eX.f x1000 jK kE jE kF (⟨#[105, 109, 112, 111, 114, 116]⟩ : ByteArray)).bind fun Tc => (if Tc.1 = true then ((mD.f x1000 Tc.2.1 Tc.2.2.1 Tc.2.2.2.1 Tc.2.2.2.2).bind fun VR => ((gG.f x1000 VR.2.1 VR.2.2.1 VR.2.2.2.1 VR.2.2.2.2).bind fun VS => (if wK.length < 5864062014805 then ((dI.f x1000 VS.2.1 VS.2.2.1 VS.2.2.2.1 VS.2.2.2.2 (⟨#[59]⟩ : ByteArray)).bind fun Td => (bH.l0 k x1000 Td.1 Td.2.1 Td.2.2.1 Td.2.2.2 xP xQ (wK ++ [(⟨VS.1, VR.1⟩ : Xg)]))) else (none)))) else (bH.l1 k x1000 Tc.2.1 Tc.2.2.1 Tc.2.2.2.1 Tc.2.2.2.2 xP xQ wK ([] : List (Qf)) ([] : List (Cg))))
def bH.l1 : Nat → List (iJ) → Int → Int → Int → Int → ByteArray → Int → List (Xg) → List (Qf) → List (Cg) → Option (ByteArray × Int × (List (Xg)) × (List (Qf)) × (List (Cg)) × Int × Int × Int × Int)
 | 0, _, _, _, _, _, _, _, _, _, _ => none
 | k + 1, x1000, jK, kE, jE, kF, xP, xQ, wK, Cx, Cy => if jE = 0 then (if 0 ≤ jK then (if jK < (x1000.length : Int) then (bH.j2 k (((cK x1000 jK).f0) != 0) x1000 jK kE jE kF xP xQ wK Cx Cy) else (none)) else (none)) else (bH.j2 k false x1000 jK kE jE kF xP xQ wK Cx Cy)
def bH.j2 : Nat → Bool → List (iJ) → Int → Int → Int → Int → ByteArray → Int → List (Xg) → List (Qf) → List (Cg) → Option (ByteArray × Int × (List (Xg)) × (List (Qf)) × (List (Cg)) × Int × Int × Int × Int)
 | 0, _, _, _, _, _, _, _, _, _, _, _ => none
 | k + 1, x45, x1000, jK, kE, jE, kF, xP, xQ, wK, Cx, Cy => if x45 = true then ((eX.f x1000 jK kE jE kF (⟨#[118, 97, 114]⟩ : ByteArray)).bind fun Te => (if Te.1 = true then ((eB.f k x1000 Te.2.1 Te.2.2.1 Te.2.2.2.1 Te.2.2.2.2).bind fun Yg => (if Cx.length < 2932031007402 then (bH.l1 k x1000 Yg.2.2.2.2.1 Yg.2.2.2.2.2.1 Yg.2.2.2.2.2.2.1 Yg.2.2.2.2.2.2.2 xP xQ wK (Cx ++ [(⟨Yg.1, Yg.2.1, Yg.2.2.1, Yg.2.2.2.1⟩ : Qf)]) Cy) else (none))) else ((eX.f x1000 Te.2.1 Te.2.2.1 Te.2.2.2.1 Te.2.2.2.2 (⟨#[112, 114, 111, 99]⟩ : ByteArray)).bind fun Tf => (if Tf.1 = true then ((dW.f k x1000 Tf.2.1 Tf.2.2.1 Tf.2.2.2.1 Tf.2.2.2.2).bind fun Gq => (if Cy.length < 1034834473200 then (bH.l1 k x1000 Gq.2.2.2.2.2.2.2.2.1 Gq.2.2.2.2.2.2.2.2.2.1 Gq.2.2.2.2.2.2.2.2.2.2.1 Gq.2.2.2.2.2.2.2.2.2.2.2 xP xQ wK Cx (Cy ++ [(⟨Gq.1, Gq.2.1, Gq.2.2.1, Gq.2.2.2.1, Gq.2.2.2.2.1, Gq.2.2.2.2.2.1, Gq.2.2.2.2.2.2.1, Gq.2.2.2.2.2.2.2.1⟩ : Cg)])) else (none))) else ((jP.f x1000 Tf.2.1 Tf.2.2.1 Tf.2.2.2.1 Tf.2.2.2.2 11).bind fun je => (bH.l1 k x1000 je.1 je.2.1 je.2.2.1 je.2.2.2 xP xQ wK Cx Cy)))))) else (some (xP, xQ, wK, Cx, Cy, jK, kE, jE, kF))
end
def bH.f (k : Nat) (aK : List (iJ)) (aX : Int) (bM : Int) (bN : Int) (bQ : Int) : Option (ByteArray × Int × (List (Xg)) × (List (Qf)) × (List (Cg)) × Int × Int × Int × Int) := (dI.f aK aX bM bN bQ (⟨#[109, 111, 100, 117, 108, 101]⟩ : ByteArray)).bind fun Tg => ((mD.f aK Tg.1 Tg.2.1 Tg.2.2.1 Tg.2.2.2).bind fun Iy => ((gG.f aK Iy.2.1 Iy.2.2.1 Iy.2.2.2.1 Iy.2.2.2.2).bind fun Iz => ((dI.f aK Iz.2.1 Iz.2.2.1 Iz.2.2.2.1 Iz.2.2.2.2 (⟨#[59]⟩ : ByteArray)).bind fun Ti => (bH.l0 k aK Ti.1 Ti.2.1 Ti.2.2.1 Ti.2.2.2 Iz.1 Iy.1 ([] : List (Xg))))))
theorem bH.fT : ∀ k, (∀ y0 y1 y2 y3 y4 y5 y6 y7, bV (bH.l0 k y0 y1 y2 y3 y4 y5 y6 y7) (bH.l0 (k + 1) y0 y1 y2 y3 y4 y5 y6 y7)) ∧ (∀ y0 y1 y2 y3 y4 y5 y6 y7 y8 y9, bV (bH.l1 k y0 y1 y2 y3 y4 y5 y6 y7 y8 y9) (bH.l1 (k + 1) y0 y1 y2 y3 y4 y5 y6 y7 y8 y9)) ∧ (∀ y0 y1 y2 y3 y4 y5 y6 y7 y8 y9 uL, bV (bH.j2 k y0 y1 y2 y3 y4 y5 y6 y7 y8 y9 uL) (bH.j2 (k + 1) y0 y1 y2 y3 y4 y5 y6 y7 y8 y9 uL))
 | 0 => ⟨fun _ _ _ _ _ _ _ _ r h => by simp [bH.l0] at h, fun _ _ _ _ _ _ _ _ _ _ r h => by simp [bH.l1] at h, fun _ _ _ _ _ _ _ _ _ _ _ r h => by simp [bH.j2] at h⟩
 | k + 1 => by
  obtain ⟨nV, ih1, ih2⟩ := bH.fT k
  refine ⟨?_, ?_, ?_⟩
  ·
   intro y0 y1 y2 y3 y4 y5 y6 y7
   unfold bH.l0
   repeat' with_reducible first | apply nV | apply ih1 | apply ih2 | apply dW.mono | apply eB.mono | exact bV.refl _ | exact bV.none _ | refine bV.ite ?_ ?_ | refine bV.bind ?_ (fun _ => ?_)
  ·
   intro y0 y1 y2 y3 y4 y5 y6 y7 y8 y9
   unfold bH.l1
   repeat' with_reducible first | apply nV | apply ih1 | apply ih2 | apply dW.mono | apply eB.mono | exact bV.refl _ | exact bV.none _ | refine bV.ite ?_ ?_ | refine bV.bind ?_ (fun _ => ?_)
  ·
   intro y0 y1 y2 y3 y4 y5 y6 y7 y8 y9 uL
   unfold bH.j2
   repeat' with_reducible first | apply nV | apply ih1 | apply ih2 | apply dW.mono | apply eB.mono | exact bV.refl _ | exact bV.none _ | refine bV.ite ?_ ?_ | refine bV.bind ?_ (fun _ => ?_)
theorem bH.mono : ∀ a0 a1 a2 a3 a4 k, bV (bH.f k a0 a1 a2 a3 a4) (bH.f (k + 1) a0 a1 a2 a3 a4) := by
 intro a0 a1 a2 a3 a4 k
 obtain ⟨nV, ih1, ih2⟩ := bH.fT k
 unfold bH.f
 repeat' with_reducible first | apply nV | apply ih1 | apply ih2 | apply dW.mono | apply eB.mono | exact bV.refl _ | exact bV.none _ | refine bV.ite ?_ ?_ | refine bV.bind ?_ (fun _ => ?_)
def bH.T5 : Bool × List (List Nat × List Nat) := (true, [([], []), ([0], [0]), ([], []), ([2], [2]), ([], []), ([4, 3], [4]), ([3, 5], [3, 5]), ([6], [6]), ([1, 7, 5], [1, 7]), ([0, 1, 2, 3, 4, 5, 6, 7, 8], []), ([9, 8, 8, 0, 1, 2, 3, 4, 5, 6, 7, 8], [8, 9])])
def bH.B5 : List Nat := [0, 1, 0, 4, 0, 28, 60, 124, 255, 511, 1023]
theorem bH.aCn : oL .any (opsOf Try.f17 5) = bH.T5 := by kernel_rfl
theorem bH.VT : kH bH.T5.2 bH.B5 = true := by kernel_rfl
def bH.T7 : Bool × List (List Nat × List Nat) := (true, [([], []), ([0], [0]), ([1], [1]), ([2], [2]), ([3], [3]), ([4], [4]), ([5], [5]), ([6, 5], [5, 6]), ([7, 5], [5, 7]), ([8, 5], [5, 8]), ([5], [5]), ([10, 5], [5, 10]), ([11, 5], [5, 11]), ([12, 5], [5, 12]), ([9, 13, 5], [5, 9, 13]), ([14, 5], [5, 14]), ([15, 5], [5, 15]), ([16, 5], [5, 16]), ([5, 17], [5, 17])])
def bH.B7 : List Nat := [0, 1, 3, 7, 15, 31, 63, 127, 255, 511, 63, 1087, 3135, 7231, 16383, 32767, 65535, 131071, 262143]
theorem bH.aWF : oL .any (opsOf Try.f17 7) = bH.T7 := by kernel_rfl
theorem bH.aKG : kH bH.T7.2 bH.B7 = true := by kernel_rfl
def bH.T9 : Bool × List (List Nat × List Nat) := (true, [([], []), ([0], [0]), ([], []), ([2], [2]), ([3], [3]), ([1, 4, 3], [1, 4]), ([0, 1, 2, 3, 4, 5], []), ([6, 5, 5, 0, 1, 2, 3, 4, 5], [5, 6])])
def bH.B9 : List Nat := [0, 1, 0, 4, 12, 31, 63, 127]
theorem bH.aCo : oL .any (opsOf Try.f17 9) = bH.T9 := by kernel_rfl
theorem bH.VU : kH bH.T9.2 bH.B9 = true := by kernel_rfl
def bH.T11 : Bool × List (List Nat × List Nat) := (true, [([], []), ([0], [0]), ([], []), ([2], [2]), ([3], [3]), ([1, 4, 3], [1, 4]), ([0, 1, 2, 3, 4, 5], []), ([6, 5, 5, 0, 1, 2, 3, 4, 5], [5, 6])])
def bH.B11 : List Nat := [0, 1, 0, 4, 12, 31, 63, 127]
theorem bH.VV : oL .any (opsOf Try.f17 11) = bH.T11 := by kernel_rfl
theorem bH.EH : kH bH.T11.2 bH.B11 = true := by kernel_rfl
theorem bH.calls (k : Nat) (g : Nat) (aK : List (iJ)) (aX : Int) (bM : Int) (bN : Int) (bQ : Int) (r1 : ByteArray) (r2 : Int) (r3 : List (Xg)) (r4 : List (Qf)) (r5 : List (Cg)) (r6 : Int) (r7 : Int) (r8 : Int) (r9 : Int) (w0 w : World) (hI : aH w0 w g aK aX bM bN bQ) (hB : Below w0.heap.size w0 w) (h : bH.f k aK aX bM bN bQ = some (r1, r2, r3, r4, r5, r6, r7, r8, r9)) :
  Calls Try.prog 17 #[.pointer (some ⟨g, 0, none⟩)] w fun e w' => ∃ v2_ v3_ v4_ : Value, e = .returned (.agg #[.string r1, .int .i64 r2, v2_, v3_, v4_]) ∧ Kd.R Yq 87 w' w.heap.size (fun _ => True) v2_ r3 ∧ Kd.R Xh 49 w' w.heap.size (fun _ => True) v3_ r4 ∧ Kd.R Vo 38 w' w.heap.size (fun _ => True) v4_ r5 ∧ aH w0 w' g aK r6 r7 r8 r9 ∧ Below w0.heap.size w0 w' ∧ aU w w' g none := by
 have VW := Try.underlying31
 have bQs := Try.underlying87
 have HI0 := za hI
 have HK := za (aU.refl w g none)
 have HL := za hB.size
 clear hI
 have HW0 := za hB.size
 have HB := za hB
 clear hB
 have H : ((dI.f aK aX bM bN bQ (⟨#[109, 111, 100, 117, 108, 101]⟩ : ByteArray)).bind fun Tg => ((mD.f aK Tg.1 Tg.2.1 Tg.2.2.1 Tg.2.2.2).bind fun Iy => ((gG.f aK Iy.2.1 Iy.2.2.1 Iy.2.2.2.1 Iy.2.2.2.2).bind fun Iz => ((dI.f aK Iz.2.1 Iz.2.2.1 Iz.2.2.2.1 Iz.2.2.2.2 (⟨#[59]⟩ : ByteArray)).bind fun Ti => (bH.l0 k aK Ti.1 Ti.2.1 Ti.2.2.1 Ti.2.2.2 Iz.1 Iy.1 ([] : List (Xg))))))) = some (r1, r2, r3, r4, r5, r6, r7, r8, r9) := h
 clear h
 replace H := jT H
 obtain ⟨⟨aWG, aWH, aWI, aWJ⟩, A2, H⟩ := H
 (try dsimp only at H)
 replace H := jT H
 obtain ⟨⟨Ov, aWK, aWL, aWM, aWN⟩, A3, H⟩ := H
 (try dsimp only at H)
 replace H := jT H
 obtain ⟨⟨Ow, aIg, aIh, aIi, aIj⟩, A4, H⟩ := H
 (try dsimp only at H)
 replace H := jT H
 obtain ⟨⟨aWO, aWP, aWQ, aWR⟩, A5, H⟩ := H
 (try dsimp only at H)
 have H' := za H
 clear H
 go_enter Try.func17, Try.ntmps17
 go_wp2_with (first | ((with_reducible refine bO (N := 2) rfl ?_); refine bZ ?hg (N := 2) ?hd (cs := #[.string (⟨#[]⟩ : ByteArray), .int .i64 0, .slice none 0 0, .slice none 0 0, .slice none 0 0]) (t := 31) ?hr ?_; (case hd => rfl); (case hg => rfl); (case hr => exact jA); intro xY hg w6 gP hb; replace HB := za (aM qJ hb); have iB := za (gP); have aJr := za ((by rw [hg]; exact (eG (w := w) (g := g) (row := none) vN) : w.heap.size ≤ xY)); have aJs := za ((Nat.le_trans HW0.out (by rw [hg]; exact (eG (w := w) (g := g) (row := none) vN) : w.heap.size ≤ xY) : w0.heap.size ≤ xY)); replace HK := za (aU.trans vN (aU.of_below hb g none) (.inl rfl)); have NI := za ((by rw [hg]; exact Nat.ne_of_lt (aH.lt (show aH w0 _ g aK aX bM bN bQ from mZ)) : g ≠ xY)); have sS := za ((by rw [hg]; exact Nat.ne_of_gt (aH.lt (show aH w0 _ g aK aX bM bN bQ from mZ)) : xY ≠ g)); replace HI0 := za (aH.below mZ hb); clear hb gP hg) | ((with_reducible refine zg 27 rfl ?_); refine kZ (some 5) Try.func27 #[.pointer (some ⟨g, 0, none⟩), .string (⟨#[109, 111, 100, 117, 108, 101]⟩ : ByteArray)] ?_; refine (dI.calls g aK aX bM bN bQ (⟨#[109, 111, 100, 117, 108, 101]⟩ : ByteArray) aWG aWH aWI aWJ w0 _ pz aEF A2.out).mono ?_; rintro e w7 ⟨rfl, hi, hb, hk⟩; refine ⟨_, rfl, ?_⟩; replace iB := nE hk (zb iB.out) sS; replace HK := sN qb hk; replace HB := za (hb); replace HI0 := za (hi)) | ((with_reducible refine zg 28 rfl ?_); refine kZ (some 7) Try.func28 #[.pointer (some ⟨g, 0, none⟩)] ?_; refine (mD.calls g aK aWG aWH aWI aWJ Ov aWK aWL aWM aWN w0 _ pz aEF A3.out).mono ?_; rintro e w8 ⟨rfl, hi, hb, hk⟩; refine ⟨_, rfl, ?_⟩; replace iB := nE hk (zb iB.out) sS; replace HK := sN qb hk; replace HB := za (hb); replace HI0 := za (hi)) | ((with_reducible refine zg 29 rfl ?_); refine kZ (some 9) Try.func29 #[.pointer (some ⟨g, 0, none⟩)] ?_; refine (gG.calls g aK aWK aWL aWM aWN Ow aIg aIh aIi aIj w0 _ pz aEF A4.out).mono ?_; rintro e w9 ⟨rfl, hi, hb, hk⟩; refine ⟨_, rfl, ?_⟩; replace iB := nE hk (zb iB.out) sS; replace HK := sN qb hk; replace HB := za (hb); replace HI0 := za (hi)) | ((with_reducible refine bO (N := 3) rfl ?_); refine bZ ?hg (N := 3) ?hd (cs := #[.string (⟨#[]⟩ : ByteArray), .int .i64 0, .slice none 0 0, .slice none 0 0, .slice none 0 0]) (t := 31) ?hr ?_; (case hd => rfl); (case hg => rfl); (case hr => exact jA); intro oI hg w10 gP hb; replace HB := za (aM aEF hb); have dL := za (gP); have aPo := za ((by rw [hg]; exact (eG (w := w) (g := g) (row := none) qb) : w.heap.size ≤ oI)); have aPp := za ((Nat.le_trans HW0.out (by rw [hg]; exact (eG (w := w) (g := g) (row := none) qb) : w.heap.size ≤ oI) : w0.heap.size ≤ oI)); replace HK := za (aU.trans qb (aU.of_below hb g none) (.inl rfl)); have uD := za ((by rw [hg]; exact Nat.ne_of_lt (gB (g := xY) (zb iB.out)) : xY ≠ oI)); have Ep := za ((by rw [hg]; exact Nat.ne_of_gt (gB (g := xY) (zb iB.out)) : oI ≠ xY)); replace iB := za (aY (g := xY) (zb iB.out) hb); have NJ := za ((by rw [hg]; exact Nat.ne_of_lt (aH.lt (show aH w0 _ g aK aIg aIh aIi aIj from pz)) : g ≠ oI)); have uV := za ((by rw [hg]; exact Nat.ne_of_gt (aH.lt (show aH w0 _ g aK aIg aIh aIi aIj from pz)) : oI ≠ g)); replace HI0 := za (aH.below pz hb); clear hb gP hg; have aU0 := Ep.out; have aU1 := uD.out; have aU2 := uV.out; have aU3 := NJ.out; obtain ⟨NY, NZ, OA, OB, OC⟩ := Zj dL.out; obtain ⟨iy, OD, OE, OG⟩ := zf4 dL.out; have OH := aD dL.out 4) | ((with_reducible refine zg 27 rfl ?_); refine kZ (some 12) Try.func27 #[.pointer (some ⟨g, 0, none⟩), .string (⟨#[59]⟩ : ByteArray)] ?_; refine (dI.calls g aK aIg aIh aIi aIj (⟨#[59]⟩ : ByteArray) aWO aWP aWQ aWR w0 _ Dw Br A5.out).mono ?_; rintro e w14 ⟨rfl, hi, hb, hk⟩; refine ⟨_, rfl, ?_⟩; replace iB := nE hk (zF5 iB.out uD.out) sS; replace dL := nE hk (zP5 dL.out) uV; replace HK := sN wQ hk; replace HB := za (hb); replace HI0 := za (hi)))
 (try simp only [Act.put, List.setIfInBounds_toArray, List.set_cons_zero, List.set_cons_succ])
 go_loopg [] k (fun kq w' => ∃ (iE : Int) (iF : Int) (iG : Int) (iH : Int) (pG : List (Xg)) (u888002 : Value), aG (bH.l0 kq aK iE iF iG iH Ow Ov pG = some (r1, r2, r3, r4, r5, r6, r7, r8, r9)) ∧ aG (kq ≤ k) ∧ aG (Kd.R Yq 87 w' w.heap.size (fun _ => True) u888002 pG) ∧ aG (w'.heap[xY]? = some (.cells #[.string (⟨#[]⟩ : ByteArray), .int .i64 0, (.slice none 0 0), (.slice none 0 0), (.slice none 0 0)] 31 (0, 0))) ∧ aG (w'.heap[oI]? = some (.cells #[.string Ow, .int .i64 Ov, u888002, (.slice none 0 0), (.slice none 0 0)] 31 (0, 0))) ∧ aG (aH w0 w' g aK iE iF iG iH) ∧ aG (aU w w' g none) ∧ aG (Below w0.heap.size w0 w'))
 case atStart => exact ⟨(aWO), (aWP), (aWQ), (aWR), (([] : List (Xg))), (.slice none 0 0), H', ⟨Nat.le_refl _⟩, ⟨vJ⟩, ⟨qg⟩, ⟨qh⟩, ⟨Dw⟩, ⟨wQ⟩, ⟨Br⟩⟩
 case round =>
  clear H'
  obtain ⟨iE, iF, iG, iH, pG, u888002, HA, lH, dZ, iB, dL, HI0, HK, HB⟩ := hrel
  cases gk with
  | zero => exact absurd HA.out (by simp [bH.l0])
  | succ k1 =>
   have H := HA.out
   clear HA
   simp only [bH.l0] at H
   replace H := jT H
   obtain ⟨⟨bKX, aIk, aIl, aIm, aIn⟩, A15, H⟩ := H
   (try dsimp only at H)
   have aWS := za H
   clear H
   go_upto_if 14 with (first | ((with_reducible refine zg 30 rfl ?_); refine kZ (some 14) Try.func30 #[.pointer (some ⟨g, 0, none⟩), .string (⟨#[105, 109, 112, 111, 114, 116]⟩ : ByteArray)] ?_; refine (eX.calls g aK iE iF iG iH (⟨#[105, 109, 112, 111, 114, 116]⟩ : ByteArray) bKX aIk aIl aIm aIn w0 _ Dw Br A15.out).mono ?_; rintro e L_ ⟨rfl, hi, hb, hk⟩; refine ⟨_, rfl, ?_⟩; replace dZ := za (Kd.aQ (Kd.fC (aH.apart (show aH w0 _ g aK iE iF iG iH from Dw) (zr dZ.out) (by decide)) hk (fun _ h => h.2)) (fun _ h => h.1)); replace iB := nE hk (zb iB.out) sS; replace dL := nE hk (zb dL.out) uV; replace HK := sN wQ hk; replace HB := za (hb); replace HI0 := za (hi)))
   (try simp only [Act.put, List.setIfInBounds_toArray, List.set_cons_zero, List.set_cons_succ])
   have H := aWS.out
   clear aWS
   replace H := Bq H
   rcases H with ⟨rfl, H⟩ | ⟨rfl, H⟩
   ·
    replace H := jT H
    obtain ⟨⟨aCp, aNB, aNC, aND, aNE⟩, qz, H⟩ := H
    (try dsimp only at H)
    replace H := jT H
    obtain ⟨⟨aCq, aIo, aIp, aIq, aIr⟩, A20, H⟩ := H
    (try dsimp only at H)
    revert H; refine IP fun aWT H => ?_
    obtain ⟨aIs, VY⟩ : ∃ y_ : List (Xg), y_ = (pG ++ [(⟨aCq, aCp⟩ : Xg)]) := ⟨_, rfl⟩
    replace H : ((dI.f aK aIo aIp aIq aIr (⟨#[59]⟩ : ByteArray)).bind fun Td => (bH.l0 k1 aK Td.1 Td.2.1 Td.2.2.1 Td.2.2.2 Ow Ov aIs)) = some (r1, r2, r3, r4, r5, r6, r7, r8, r9) := by first | (rw [VY]; with_reducible exact H) | (have lS := (Option.bind_some _ _).symm.trans H; rw [VY]; with_reducible exact lS) | (have lS := (Option.bind_some _ _).symm.trans H; with_reducible exact lS) | with_reducible exact H | (rw [VY]; exact H) | exact H
    have aWU := za VY
    clear VY
    replace H := jT H
    obtain ⟨⟨aWV, aWW, aWX, aWY⟩, qp, H⟩ := H
    (try dsimp only at H)
    have H' := za H
    clear H
    try go_wp2
    replace dZ := Ao dZ
    replace iB := za (dE iB.out)
    replace dL := za (dE dL.out)
    replace HI0 := za (aH.drew HI0.out)
    replace HK := za (iY HK.out)
    replace HB := za (bK HB.out)
    refine lW (n := 11) (S := fun w' => w'.cell? ⟨oI, 0, none⟩ = some (.string Ow) ∧ w'.cell? ⟨oI, 1, none⟩ = some (.int .i64 Ov) ∧ w'.cell? ⟨oI, 2, none⟩ = some (u888002) ∧ w'.cell? ⟨oI, 3, none⟩ = some (.slice none 0 0) ∧ w'.cell? ⟨oI, 4, none⟩ = some (.slice none 0 0)) (ds := [10]) #[false, false, false, false, false, false, false, false, false, false, false] dU rfl rfl ⟨(aA dL.out 0).trans rfl, (aA dL.out 1).trans rfl, (aA dL.out 2).trans rfl, (aA dL.out 3).trans rfl, (aA dL.out 4).trans rfl⟩ (fun hHeld => ?_); refine gX bH.aCn bH.VT (fun dB qB => ?_)
    generalize L_.drew = w23 at dZ iB dL HI0 HK HB hHeld ⊢
    refine gV 0 (some 15) dB ?_
    refine gV 2 (some 17) dB ?_
    refine gV 4 (some 19) dB ?_
    refine vP 1 (some 16) dB qB hHeld ?_
    refine Cn 3 (some 18) dB (fun K hK => ?_)
    refine wT Try.func28 dU rfl #[.pointer (some ⟨g, 0, none⟩)] (by rfl) rfl rfl Fb ?_
    with_reducible refine (mD.calls g aK aIk aIl aIm aIn aCp aNB aNC aND aNE w0 _ ?side1 ?side2 qz.out).mono ?_
    (case side1 => exact Dw)
    (case side2 => exact Br)
    rintro e w24 ⟨rfl, hi, hb, hk⟩
    refine ⟨_, rfl, ?_⟩
    replace dZ := za (Kd.aQ (Kd.fC (aH.apart (show aH w0 _ g aK aIk aIl aIm aIn from Dw) (zr dZ.out) (by decide)) hk (fun _ h => h.2)) (fun _ h => h.1))
    replace iB := nE hk (zb iB.out) sS
    replace dL := nE hk (zb dL.out) uV
    replace HK := sN wQ hk
    replace HB := za (hb)
    replace HI0 := za (hi)
    refine hK.out _ _ ⟨(aA dL.out 0).trans rfl, (aA dL.out 1).trans rfl, (aA dL.out 2).trans rfl, (aA dL.out 3).trans rfl, (aA dL.out 4).trans rfl⟩ (fun hHeld => ?_)
    clear hK K
    refine jS (a' := ?_) ?_ ?_
    rotate_left
    ·
     show Act.put _ (some 18) _ = _
     simp only [Act.put, List.setIfInBounds_toArray, List.set_cons_zero, List.set_cons_succ, dO, dQ]
     rfl
    refine Cn 5 (some 20) dB (fun K hK => ?_)
    refine wT Try.func29 dU rfl #[.pointer (some ⟨g, 0, none⟩)] (by rfl) rfl rfl Fb ?_
    with_reducible refine (gG.calls g aK aNB aNC aND aNE aCq aIo aIp aIq aIr w0 _ ?side1 ?side2 A20.out).mono ?_
    (case side1 => exact Dw)
    (case side2 => exact Br)
    rintro e w25 ⟨rfl, hi, hb, hk⟩
    refine ⟨_, rfl, ?_⟩
    replace dZ := za (Kd.aQ (Kd.fC (aH.apart (show aH w0 _ g aK aNB aNC aND aNE from Dw) (zr dZ.out) (by decide)) hk (fun _ h => h.2)) (fun _ h => h.1))
    replace iB := nE hk (zb iB.out) sS
    replace dL := nE hk (zb dL.out) uV
    replace HK := sN wQ hk
    replace HB := za (hb)
    replace HI0 := za (hi)
    refine hK.out _ _ ⟨(aA dL.out 0).trans rfl, (aA dL.out 1).trans rfl, (aA dL.out 2).trans rfl, (aA dL.out 3).trans rfl, (aA dL.out 4).trans rfl⟩ (fun hHeld => ?_)
    clear hK K
    refine jS (a' := ?_) ?_ ?_
    rotate_left
    ·
     show Act.put _ (some 20) _ = _
     simp only [Act.put, List.setIfInBounds_toArray, List.set_cons_zero, List.set_cons_succ, dO, dQ]
     rfl
    refine gV 6 (some 21) dB ?_
    refine Cn 7 (some 22) dB (fun K hK => ?_)
    refine Vw (w1 := ?_) (v := ?_) (by rfl) rfl ?_ ?_
    rotate_left 2
    ·
     go_simp
     constructor
     ·
      rfl
     ·
      rfl
    refine hK.out _ _ ⟨(aA (bX dL.out _) 0).trans rfl, (aA (bX dL.out _) 1).trans rfl, (aA (bX dL.out _) 2).trans rfl, (aA (bX dL.out _) 3).trans rfl, (aA (bX dL.out _) 4).trans rfl⟩ (fun hHeld => ?_)
    clear hK K
    refine jS (a' := ?_) ?_ ?_
    rotate_left
    ·
     show Act.put _ (some 22) _ = _
     simp only [Act.put, List.setIfInBounds_toArray, List.set_cons_zero, List.set_cons_succ, dO, dQ]
     rfl
    refine Cn 8 (some 23) dB (fun K hK => ?_)
    refine Kd.nO Yq w.heap.size (by rfl) (.tmp 16) (.tmp 22) 27 87 (.agg #[(.string ⟨#[]⟩), (.int .i64 0)]) 24 rfl Try.underlying27 aLj rfl (by decide) (by omega) u888002 pG (⟨aCq, aCp⟩ : Xg) [.string aCq, .int .i64 aCp] (fun _ => True) (fun _ => False) rfl rfl ?aP (fun _ hk => hk.elim) ?aF ?aO (Below.refl _ _) ?aS ?aL ?_
    (case aP => exact aEw _ _ _ (⟨aCq, aCp⟩ : Xg))
    (case aF => exact (fun _ _ => trivial))
    (case aO => exact (zr dZ.out))
    (case aS => exact (eG (w := w) (g := g) (row := none) wQ))
    (case aL => have := aWT.out; omega)
    intro bQt w26 ho hb hg hat
    rw [← aWU.out] at ho
    replace iB := za (eD (g := xY) (zb iB.out) hg (Kd.nA dZ.out iB.out (by decide)))
    replace dL := za (eD (g := oI) (zb dL.out) hg (Kd.nA dZ.out dL.out (by decide)))
    replace HB := za (rR Br HL.out hb)
    replace HI0 := za (aH.grown Dw hg (aH.own_ne HI0.out dZ.out (by decide)))
    replace HK := za (aU.trans wQ (aU.mV hg g) (Kd.Fj dZ.out))
    have jf := za (ho)
    clear dZ
    clear ho hb hg hat
    obtain ⟨aIt, aIu, J5⟩ := Kd.bJ jf.out
    (first | subst J5 | (injection J5 with wU Gu wV; have Gv := wU.symm; have Gw := wV.symm; clear wU Gu wV; subst Gv; subst Gw))
    refine hK.out _ _ ⟨(aA dL.out 0).trans rfl, (aA dL.out 1).trans rfl, (aA dL.out 2).trans rfl, (aA dL.out 3).trans rfl, (aA dL.out 4).trans rfl⟩ (fun hHeld => ?_)
    clear hK K
    refine jS (a' := ?_) ?_ ?_
    rotate_left
    ·
     show Act.put _ (some 23) _ = _
     simp only [Act.put, List.setIfInBounds_toArray, List.set_cons_zero, List.set_cons_succ, dO, dQ]
     rfl
    refine gV 9 (some 24) dB ?_
    refine Mo (i := 10) (N := none) #[true, true, true, true, true, true, true, true, true, true, true] rfl rfl (Ad dB.out dU) (by decide) (fun K hK => ?_)
    have bI4 : w26.cell? ⟨oI, 2, none⟩ = some (u888002) := (aA dL.out 2).trans rfl
    have aRq := aD dL.out 2
    have aFv := uD.out
    have aFw := Ep.out
    refine Cb (w1 := ?_) (by rfl) rfl ?_ ?_
    rotate_left
    ·
     go_simp
     rfl
    refine hK.out _ _ ?_
    clear hK K
    refine pO (jX dB.out dU) ?_
    try go_wp2_with (first | ((with_reducible refine zg 27 rfl ?_); refine kZ (some 26) Try.func27 #[.pointer (some ⟨g, 0, none⟩), .string (⟨#[59]⟩ : ByteArray)] ?_; refine (dI.calls g aK aIo aIp aIq aIr (⟨#[59]⟩ : ByteArray) aWV aWW aWX aWY w0 _ Dw Br qp.out).mono ?_; rintro e w29 ⟨rfl, hi, hb, hk⟩; refine ⟨_, rfl, ?_⟩; replace iB := nE hk (Vp iB.out uD.out) sS; replace jf := za (Kd.aQ (Kd.fC (aH.apart (show aH w0 _ g aK aIo aIp aIq aIr from Dw) (by (with_reducible repeat (first | apply Kd.bC | apply Kd.bF | apply Kd.bP)); exact (Kd.aQ (RL (Kd.dS jf.out dL.out (by decide)) (fun _ hk => hk.2)) (fun _ h_ => h_.1))) (by decide)) hk (fun _ h => h.2)) (fun _ h => h.1)); replace dL := za (aU.blk hk (g' := oI) (o := .cells #[.string Ow, .int .i64 Ov, .slice aIt aIs.length aIu, .slice none 0 0, .slice none 0 0] 31 (0, 0)) (aPR dL.out) uV.out (by simp)); replace HK := sN wQ hk; replace HB := za (hb); replace HI0 := za (hi)))
    go_roundg k1
    case measure => have := lH.out; omega
    case rel => exact ⟨(aWV), (aWW), (aWX), (aWY), (aIs), (.slice aIt aIs.length aIu), H', ⟨by have := lH.out; omega⟩, ⟨by (with_reducible repeat (first | apply Kd.bC | apply Kd.bF | apply Kd.bP)); exact jf.out⟩, ⟨qg⟩, ⟨qh⟩, ⟨Dw⟩, ⟨wQ⟩, ⟨Br⟩⟩
   ·
    have H' := za H
    clear H
    go_wp2
    go_loopg [] k1 (fun kq w' => ∃ (iM : Int) (lM : Int) (lN : Int) (lQ : Int) (qY : List (Qf)) (qZ : List (Cg)) (u888003 : Value) (u888004 : Value), aG (bH.l1 kq aK iM lM lN lQ Ow Ov pG qY qZ = some (r1, r2, r3, r4, r5, r6, r7, r8, r9)) ∧ aG (kq ≤ k1) ∧ aG (Kd.R Yq 87 w' w.heap.size (fun _ => True) u888002 pG) ∧ aG (Kd.R Xh 49 w' w.heap.size (fun _ => True) u888003 qY) ∧ aG (Kd.R Vo 38 w' w.heap.size (fun _ => True) u888004 qZ) ∧ aG (w'.heap[xY]? = some (.cells #[.string (⟨#[]⟩ : ByteArray), .int .i64 0, (.slice none 0 0), (.slice none 0 0), (.slice none 0 0)] 31 (0, 0))) ∧ aG (w'.heap[oI]? = some (.cells #[.string Ow, .int .i64 Ov, u888002, u888003, u888004] 31 (0, 0))) ∧ aG (aH w0 w' g aK iM lM lN lQ) ∧ aG (aU w w' g none) ∧ aG (Below w0.heap.size w0 w'))
    case atStart => exact ⟨(aIk), (aIl), (aIm), (aIn), (([] : List (Qf))), (([] : List (Cg))), (.slice none 0 0), (.slice none 0 0), H', ⟨Nat.le_refl _⟩, ⟨U0⟩, ⟨vJ⟩, ⟨vJ⟩, ⟨qg⟩, ⟨qh⟩, ⟨Dw⟩, ⟨wQ⟩, ⟨Br⟩⟩
    case round =>
     clear H'
     obtain ⟨iM, lM, lN, lQ, qY, qZ, u888003, u888004, HA, Rv, dZ, fP, fF, iB, dL, HI0, HK, HB⟩ := hrel
     cases gk with
     | zero => exact absurd HA.out (by simp [bH.l1])
     | succ k2 =>
      have H := HA.out
      clear HA
      simp only [bH.l1] at H
      have aNF := za H
      clear H
      go_upto_region 7 with (fail)
      go_cut [45] (fun v45 wc => ∃ (kq : Nat) (J6 : Bool), v45 = .bool J6 ∧ aG (bH.j2 kq J6 aK iM lM lN lQ Ow Ov pG qY qZ = some (r1, r2, r3, r4, r5, r6, r7, r8, r9)) ∧ aG (kq ≤ k2) ∧ aG (Kd.R Yq 87 wc w.heap.size (fun _ => True) u888002 pG) ∧ aG (Kd.R Xh 49 wc w.heap.size (fun _ => True) u888003 qY) ∧ aG (Kd.R Vo 38 wc w.heap.size (fun _ => True) u888004 qZ) ∧ aG (wc.heap[xY]? = some (.cells #[.string (⟨#[]⟩ : ByteArray), .int .i64 0, (.slice none 0 0), (.slice none 0 0), (.slice none 0 0)] 31 (0, 0))) ∧ aG (wc.heap[oI]? = some (.cells #[.string Ow, .int .i64 Ov, u888002, u888003, u888004] 31 (0, 0))) ∧ aG (aH w0 wc g aK iM lM lN lQ) ∧ aG (aU w wc g none) ∧ aG (Below w0.heap.size w0 wc))
      case first =>
       have H := aNF.out
       clear aNF
       revert H; refine oW (fun Qj TH H => ?_) (fun c31 Qj TH H => ?_)
       ·
        (first | rw [Qj] | (simp only [dO, dQ]; rw [Qj]) | skip)
        revert H; refine yX fun aJY H => ?_
        revert H; refine yX fun aP3 H => ?_
        have H' := za H
        clear H
        try go_wp2
        replace dZ := Ao dZ
        replace fP := Ao fP
        replace fF := Ao fF
        replace iB := za (dE iB.out)
        replace dL := za (dE dL.out)
        replace HI0 := za (aH.drew HI0.out)
        replace HK := za (iY HK.out)
        replace HB := za (bK HB.out)
        obtain ⟨aFC, f_, xV, aBb, g_⟩ := HI0.out
        have aCr := fI xV
        have aCs := fJ xV
        have aCt := fK xV
        have aCu := fM xV
        have aCv := fG xV
        clear xV aBb
        have aNG : 0 ≤ (iM : Int) := of_decide_eq_true iL
        have aNH : iM < (aK.length : Int) := of_decide_eq_true iL
        obtain ⟨LX, bKY, Tj, Tk, Tm⟩ := Hr g_ iM aNG aNH
        have bFH := Tm
        have bFI := Tk
        have bFJ := Tj
        cases bKY
        replace Tj := bR HB.out Tj
        replace Tk := bR HB.out Tk
        replace Tm := bR HB.out Tm
        replace aNG := eq_true aNG
        replace aNH := eq_true aNH
        refine lW (n := 19) (S := fun w' => w'.cell? ⟨g, 0, none⟩ = some (.slice (some LX) aK.length f_) ∧ w'.cell? ⟨g, 1, none⟩ = some (.int .i64 iM) ∧ w'.cell? ⟨g, 2, none⟩ = some (.int .i64 lM) ∧ w'.cell? ⟨g, 3, none⟩ = some (.int .i64 lN) ∧ w'.cell? ⟨g, 4, none⟩ = some (.int .i64 lQ) ∧ w'.cell? (LX.add ((iM).toNat * 3)) = some (.int .i64 ((cK aK iM).f0)) ∧ w'.cell? ⟨(LX.add ((iM).toNat * 3)).block, (LX.add ((iM).toNat * 3)).off + 1, none⟩ = some (.string ((cK aK iM).f1)) ∧ w'.cell? ⟨(LX.add ((iM).toNat * 3)).block, (LX.add ((iM).toNat * 3)).off + 2, none⟩ = some (.int .i64 ((cK aK iM).f2))) (ds := []) #[false, false, false, false, false, false, false, false, false, false, false, false, false, false, false, false, false, false, false] dU rfl rfl ⟨aCr, aCs, aCt, aCu, aCv, Tj, Tk, Tm⟩ (fun hHeld => ?_); refine gX bH.aWF bH.aKG (fun dB qB => ?_)
        generalize wr.drew = w34 at dZ fP fF iB dL HI0 HK HB aCr aCs aCt aCu aCv Tj Tk Tm hHeld ⊢
        refine gV 0 (some 27) dB ?_
        refine gV 1 (some 28) dB ?_
        refine gV 2 (some 29) dB ?_
        refine vP 3 (some 30) dB qB hHeld ?_
        refine gV 4 (some 31) dB ?_
        refine gV 5 (some 32) dB ?_
        refine gV 6 (some 33) dB ?_
        refine gV 7 (some 34) dB ?_
        refine gV 8 (some 35) dB ?_
        refine gV 10 (some 37) dB ?_
        refine gV 11 (some 38) dB ?_
        refine gV 12 (some 39) dB ?_
        refine vP 9 (some 36) dB qB hHeld ?_
        refine vP 13 (some 40) dB qB hHeld ?_
        refine gV 14 (some 41) dB ?_
        refine gV 15 (some 42) dB ?_
        refine vP 16 (some 43) dB qB hHeld ?_
        refine gV 17 (some 44) dB ?_
        refine gV 18 (some 45) dB ?_
        refine pO (jX dB.out dU) ?_
        try go_wp2
        go_meet
        case rel => exact ⟨_, ((((cK aK iM).f0) != 0)), jG, H', ⟨by have := lH.out; have := Rv.out; first | omega | exact Nat.le_refl _⟩, ⟨U0⟩, ⟨aAm⟩, ⟨aAn⟩, ⟨qg⟩, ⟨qh⟩, ⟨Dw⟩, ⟨wQ⟩, ⟨Br⟩⟩
       ·
        (first | rw [Qj] | (simp only [dO, dQ]; rw [Qj]) | skip)
        have H' := za H
        clear H
        try go_wp2
        replace dZ := Ao dZ
        replace fP := Ao fP
        replace fF := Ao fF
        replace iB := za (dE iB.out)
        replace dL := za (dE dL.out)
        replace HI0 := za (aH.drew HI0.out)
        replace HK := za (iY HK.out)
        replace HB := za (bK HB.out)
        obtain ⟨aIv, aIw, LY, aWZ, bFK⟩ := HI0.out
        have aCw := fI LY
        have aCx := fJ LY
        have aCy := fK LY
        have aCz := fM LY
        have aCA := fG LY
        clear LY aWZ
        refine lW (n := 19) (S := fun w' => w'.cell? ⟨g, 0, none⟩ = some (.slice aIv aK.length aIw) ∧ w'.cell? ⟨g, 1, none⟩ = some (.int .i64 iM) ∧ w'.cell? ⟨g, 2, none⟩ = some (.int .i64 lM) ∧ w'.cell? ⟨g, 3, none⟩ = some (.int .i64 lN) ∧ w'.cell? ⟨g, 4, none⟩ = some (.int .i64 lQ)) (ds := []) #[false, false, false, false, false, false, false, false, false, false, false, false, false, false, false, false, false, false, false] dU rfl rfl ⟨aCw, aCx, aCy, aCz, aCA⟩ (fun hHeld => ?_); refine gX bH.aWF bH.aKG (fun dB qB => ?_)
        generalize wr.drew = w36 at dZ fP fF iB dL HI0 HK HB aCw aCx aCy aCz aCA hHeld ⊢
        refine gV 0 (some 27) dB ?_
        refine gV 1 (some 28) dB ?_
        refine gV 2 (some 29) dB ?_
        refine vP 3 (some 30) dB qB hHeld ?_
        refine gV 4 (some 31) dB ?_
        refine gV 5 (some 32) dB ?_
        refine De 6 (some 33) dB ?_
        refine De 7 (some 34) dB ?_
        refine De 8 (some 35) dB ?_
        refine De 9 (some 36) dB ?_
        refine De 10 (some 37) dB ?_
        refine De 11 (some 38) dB ?_
        refine De 12 (some 39) dB ?_
        refine De 13 (some 40) dB ?_
        refine De 14 (some 41) dB ?_
        refine De 15 (some 42) dB ?_
        refine De 16 (some 43) dB ?_
        refine De 17 (some 44) dB ?_
        refine gV 18 (some 45) dB ?_
        refine pO (jX dB.out dU) ?_
        try go_wp2
        go_meet
        case rel => exact ⟨_, (false), jG, H', ⟨by have := lH.out; have := Rv.out; first | omega | exact Nat.le_refl _⟩, ⟨U0⟩, ⟨aAm⟩, ⟨aAn⟩, ⟨qg⟩, ⟨qh⟩, ⟨Dw⟩, ⟨wQ⟩, ⟨Br⟩⟩
      case rest =>
       clear aNF
       obtain ⟨kq, J6, rfl, HA, bSM, dZ, fP, fF, iB, dL, HI0, HK, HB⟩ := hcut
       cases kq with
       | zero => exact absurd HA.out (by simp [bH.j2])
       | succ J7 =>
        have H := HA.out
        clear HA
        simp only [bH.j2] at H
        replace H := Bq H
        rcases H with ⟨rfl, H⟩ | ⟨rfl, H⟩
        ·
         replace H := jT H
         obtain ⟨⟨bKZ, QF, QG, QH, QI⟩, A39, H⟩ := H
         (try dsimp only at H)
         have aW0 := za H
         clear H
         go_upto_if 47 with (first | ((with_reducible refine zg 30 rfl ?_); refine kZ (some 47) Try.func30 #[.pointer (some ⟨g, 0, none⟩), .string (⟨#[118, 97, 114]⟩ : ByteArray)] ?_; refine (eX.calls g aK iM lM lN lQ (⟨#[118, 97, 114]⟩ : ByteArray) bKZ QF QG QH QI w0 _ Dw Br A39.out).mono ?_; rintro e w41 ⟨rfl, hi, hb, hk⟩; refine ⟨_, rfl, ?_⟩; replace dZ := za (Kd.aQ (Kd.fC (aH.apart (show aH w0 _ g aK iM lM lN lQ from Dw) (zr dZ.out) (by decide)) hk (fun _ h => h.2)) (fun _ h => h.1)); replace fP := za (Kd.aQ (Kd.fC (aH.apart (show aH w0 _ g aK iM lM lN lQ from Dw) (zr fP.out) (by decide)) hk (fun _ h => h.2)) (fun _ h => h.1)); replace fF := za (Kd.aQ (Kd.fC (aH.apart (show aH w0 _ g aK iM lM lN lQ from Dw) (zr fF.out) (by decide)) hk (fun _ h => h.2)) (fun _ h => h.1)); replace iB := nE hk (zb iB.out) sS; replace dL := nE hk (zb dL.out) uV; replace HK := sN wQ hk; replace HB := za (hb); replace HI0 := za (hi)))
         (try simp only [Act.put, List.setIfInBounds_toArray, List.set_cons_zero, List.set_cons_succ])
         have H := aW0.out
         clear aW0
         replace H := Bq H
         rcases H with ⟨rfl, H⟩ | ⟨rfl, H⟩
         ·
          replace H := jT H
          obtain ⟨⟨aCB, aCC, aCD, aCE, aNI, aNJ, aNK, aNL⟩, A43, H⟩ := H
          (try dsimp only at H)
          revert H; refine IP fun aAG H => ?_
          obtain ⟨aNM, VZ⟩ : ∃ y_ : List (Qf), y_ = (qY ++ [(⟨aCB, aCC, aCD, aCE⟩ : Qf)]) := ⟨_, rfl⟩
          replace H : (bH.l1 J7 aK aNI aNJ aNK aNL Ow Ov pG aNM qZ) = some (r1, r2, r3, r4, r5, r6, r7, r8, r9) := by first | (rw [VZ]; with_reducible exact H) | (have lS := (Option.bind_some _ _).symm.trans H; rw [VZ]; with_reducible exact lS) | (have lS := (Option.bind_some _ _).symm.trans H; with_reducible exact lS) | with_reducible exact H | (rw [VZ]; exact H) | exact H
          have aW1 := za VZ
          clear VZ
          have H' := za H
          clear H
          try go_wp2
          replace dZ := Ao dZ
          replace fP := Ao fP
          replace fF := Ao fF
          replace iB := za (dE iB.out)
          replace dL := za (dE dL.out)
          replace HI0 := za (aH.drew HI0.out)
          replace HK := za (iY HK.out)
          replace HB := za (bK HB.out)
          refine lW (n := 8) (S := fun w' => w'.cell? ⟨oI, 0, none⟩ = some (.string Ow) ∧ w'.cell? ⟨oI, 1, none⟩ = some (.int .i64 Ov) ∧ w'.cell? ⟨oI, 2, none⟩ = some (u888002) ∧ w'.cell? ⟨oI, 3, none⟩ = some (u888003) ∧ w'.cell? ⟨oI, 4, none⟩ = some (u888004)) (ds := [7]) #[false, false, false, false, false, false, false, false] dU rfl rfl ⟨(aA dL.out 0).trans rfl, (aA dL.out 1).trans rfl, (aA dL.out 2).trans rfl, (aA dL.out 3).trans rfl, (aA dL.out 4).trans rfl⟩ (fun hHeld => ?_); refine gX bH.aCo bH.VU (fun dB qB => ?_)
          generalize w41.drew = w45 at dZ fP fF iB dL HI0 HK HB hHeld ⊢
          refine gV 0 (some 48) dB ?_
          refine gV 2 (some 50) dB ?_
          refine vP 1 (some 49) dB qB hHeld ?_
          refine Cn 3 (some 51) dB (fun K hK => ?_)
          refine wT Try.func31 dU rfl #[.pointer (some ⟨g, 0, none⟩)] (by rfl) rfl rfl Fb ?_
          with_reducible refine (eB.calls J7 g aK QF QG QH QI aCB aCC aCD aCE aNI aNJ aNK aNL w0 _ ?side1 ?side2 A43.out).mono ?_
          (case side1 => exact Dw)
          (case side2 => exact Br)
          rintro e w46 ⟨rfl, hi, hb, hk⟩
          refine ⟨_, rfl, ?_⟩
          replace dZ := za (Kd.aQ (Kd.fC (aH.apart (show aH w0 _ g aK QF QG QH QI from Dw) (zr dZ.out) (by decide)) hk (fun _ h => h.2)) (fun _ h => h.1))
          replace fP := za (Kd.aQ (Kd.fC (aH.apart (show aH w0 _ g aK QF QG QH QI from Dw) (zr fP.out) (by decide)) hk (fun _ h => h.2)) (fun _ h => h.1))
          replace fF := za (Kd.aQ (Kd.fC (aH.apart (show aH w0 _ g aK QF QG QH QI from Dw) (zr fF.out) (by decide)) hk (fun _ h => h.2)) (fun _ h => h.1))
          replace iB := nE hk (zb iB.out) sS
          replace dL := nE hk (zb dL.out) uV
          replace HK := sN wQ hk
          replace HB := za (hb)
          replace HI0 := za (hi)
          refine hK.out _ _ ⟨(aA dL.out 0).trans rfl, (aA dL.out 1).trans rfl, (aA dL.out 2).trans rfl, (aA dL.out 3).trans rfl, (aA dL.out 4).trans rfl⟩ (fun hHeld => ?_)
          clear hK K
          refine jS (a' := ?_) ?_ ?_
          rotate_left
          ·
           show Act.put _ (some 51) _ = _
           simp only [Act.put, List.setIfInBounds_toArray, List.set_cons_zero, List.set_cons_succ, dO, dQ]
           rfl
          refine Cn 4 (some 52) dB (fun K hK => ?_)
          refine Vw (w1 := ?_) (v := ?_) (by rfl) rfl ?_ ?_
          rotate_left 2
          ·
           go_simp
           constructor
           ·
            rfl
           ·
            rfl
          refine hK.out _ _ ⟨(aA (bX dL.out _) 0).trans rfl, (aA (bX dL.out _) 1).trans rfl, (aA (bX dL.out _) 2).trans rfl, (aA (bX dL.out _) 3).trans rfl, (aA (bX dL.out _) 4).trans rfl⟩ (fun hHeld => ?_)
          clear hK K
          refine jS (a' := ?_) ?_ ?_
          rotate_left
          ·
           show Act.put _ (some 52) _ = _
           simp only [Act.put, List.setIfInBounds_toArray, List.set_cons_zero, List.set_cons_succ, dO, dQ]
           rfl
          refine Cn 5 (some 53) dB (fun K hK => ?_)
          refine Kd.nO Xh w.heap.size (by rfl) (.tmp 49) (.tmp 52) 28 49 (.agg #[(.string ⟨#[]⟩), (.string ⟨#[]⟩), (.int .i64 0), (.int .i64 0)]) 48 rfl Try.underlying28 aLh rfl (by decide) (by omega) u888003 qY (⟨aCB, aCC, aCD, aCE⟩ : Qf) [.string aCB, .string aCC, .int .i64 aCD, .int .i64 aCE] (fun _ => True) (fun _ => False) rfl rfl ?aP (fun _ hk => hk.elim) ?aF ?aO (Below.refl _ _) ?aS ?aL ?_
          (case aP => exact aEx _ _ _ (⟨aCB, aCC, aCD, aCE⟩ : Qf))
          (case aF => exact (fun _ _ => trivial))
          (case aO => exact (zr fP.out))
          (case aS => exact (eG (w := w) (g := g) (row := none) wQ))
          (case aL => have := aAG.out; omega)
          intro bQu w47 ho hb hg hat
          rw [← aW1.out] at ho
          replace dZ := za (Kd.Pz (zr dZ.out) (Kd.oG (zr fP.out)) (by decide) hg)
          replace fF := za (Kd.Pz (zr fF.out) (Kd.oG (zr fP.out)) (by decide) hg)
          replace iB := za (eD (g := xY) (zb iB.out) hg (Kd.nA fP.out iB.out (by decide)))
          replace dL := za (eD (g := oI) (zb dL.out) hg (Kd.nA fP.out dL.out (by decide)))
          replace HB := za (rR Br HL.out hb)
          replace HI0 := za (aH.grown Dw hg (aH.own_ne HI0.out fP.out (by decide)))
          replace HK := za (aU.trans wQ (aU.mV hg g) (Kd.Fj fP.out))
          have aKH := za (ho)
          clear fP
          clear ho hb hg hat
          obtain ⟨bK0, bK1, aW2⟩ := Kd.bJ aKH.out
          (first | subst aW2 | (injection aW2 with wU Gu wV; have Gv := wU.symm; have Gw := wV.symm; clear wU Gu wV; subst Gv; subst Gw))
          refine hK.out _ _ ⟨(aA dL.out 0).trans rfl, (aA dL.out 1).trans rfl, (aA dL.out 2).trans rfl, (aA dL.out 3).trans rfl, (aA dL.out 4).trans rfl⟩ (fun hHeld => ?_)
          clear hK K
          refine jS (a' := ?_) ?_ ?_
          rotate_left
          ·
           show Act.put _ (some 53) _ = _
           simp only [Act.put, List.setIfInBounds_toArray, List.set_cons_zero, List.set_cons_succ, dO, dQ]
           rfl
          refine gV 6 (some 54) dB ?_
          refine Mo (i := 7) (N := none) #[true, true, true, true, true, true, true, true] rfl rfl (Ad dB.out dU) (by decide) (fun K hK => ?_)
          have bQv : w47.cell? ⟨oI, 3, none⟩ = some (u888003) := (aA dL.out 3).trans rfl
          have bOz := aD dL.out 3
          have bFL := uD.out
          have bFM := Ep.out
          refine Cb (w1 := ?_) (by rfl) rfl ?_ ?_
          rotate_left
          ·
           go_simp
           rfl
          refine hK.out _ _ ?_
          clear hK K
          refine pO (jX dB.out dU) ?_
          try go_wp2
          go_roundg J7
          case measure => have := lH.out; have := Rv.out; have := bSM.out; omega
          case rel => exact ⟨(aNI), (aNJ), (aNK), (aNL), (aNM), (qZ), (.slice bK0 aNM.length bK1), (u888004), H', ⟨by have := lH.out; have := Rv.out; have := bSM.out; omega⟩, ⟨aJz⟩, ⟨by (with_reducible repeat (first | apply Kd.bC | apply Kd.bF | apply Kd.bP)); exact Kd.aQ (RL (Kd.dS aKH.out dL.out (by decide)) (fun _ hk => hk.2)) (fun _ hk => trivial)⟩, ⟨by (with_reducible repeat (first | apply Kd.bC | apply Kd.bF | apply Kd.bP)); exact Kd.aQ (RL (Kd.dS fF.out dL.out (by decide)) (fun _ hk => hk.2)) (fun _ hk => trivial)⟩, ⟨Vp iB.out uD.out⟩, ⟨aPS dL.out⟩, ⟨Dw⟩, ⟨wQ⟩, ⟨Br⟩⟩
         ·
          replace H := jT H
          obtain ⟨⟨bK2, QJ, QK, QL, QM⟩, A50, H⟩ := H
          (try dsimp only at H)
          have aBm := za H
          clear H
          go_upto_if 56 with (first | ((with_reducible refine zg 30 rfl ?_); refine kZ (some 56) Try.func30 #[.pointer (some ⟨g, 0, none⟩), .string (⟨#[112, 114, 111, 99]⟩ : ByteArray)] ?_; refine (eX.calls g aK QF QG QH QI (⟨#[112, 114, 111, 99]⟩ : ByteArray) bK2 QJ QK QL QM w0 _ Dw Br A50.out).mono ?_; rintro e w52 ⟨rfl, hi, hb, hk⟩; refine ⟨_, rfl, ?_⟩; replace dZ := za (Kd.aQ (Kd.fC (aH.apart (show aH w0 _ g aK QF QG QH QI from Dw) (zr dZ.out) (by decide)) hk (fun _ h => h.2)) (fun _ h => h.1)); replace fP := za (Kd.aQ (Kd.fC (aH.apart (show aH w0 _ g aK QF QG QH QI from Dw) (zr fP.out) (by decide)) hk (fun _ h => h.2)) (fun _ h => h.1)); replace fF := za (Kd.aQ (Kd.fC (aH.apart (show aH w0 _ g aK QF QG QH QI from Dw) (zr fF.out) (by decide)) hk (fun _ h => h.2)) (fun _ h => h.1)); replace iB := nE hk (zb iB.out) sS; replace dL := nE hk (zb dL.out) uV; replace HK := sN wQ hk; replace HB := za (hb); replace HI0 := za (hi)))
          (try simp only [Act.put, List.setIfInBounds_toArray, List.set_cons_zero, List.set_cons_succ])
          have H := aBm.out
          clear aBm
          replace H := Bq H
          rcases H with ⟨rfl, H⟩ | ⟨rfl, H⟩
          ·
           replace H := jT H
           obtain ⟨⟨aCF, aCG, aCH, aCI, aCJ, aCK, aCL, aCM, aNN, aNO, aNP, aNQ⟩, A54, H⟩ := H
           (try dsimp only at H)
           revert H; refine IP fun aW3 H => ?_
           obtain ⟨aNR, WA⟩ : ∃ y_ : List (Cg), y_ = (qZ ++ [(⟨aCF, aCG, aCH, aCI, aCJ, aCK, aCL, aCM⟩ : Cg)]) := ⟨_, rfl⟩
           replace H : (bH.l1 J7 aK aNN aNO aNP aNQ Ow Ov pG qY aNR) = some (r1, r2, r3, r4, r5, r6, r7, r8, r9) := by first | (rw [WA]; with_reducible exact H) | (have lS := (Option.bind_some _ _).symm.trans H; rw [WA]; with_reducible exact lS) | (have lS := (Option.bind_some _ _).symm.trans H; with_reducible exact lS) | with_reducible exact H | (rw [WA]; exact H) | exact H
           have aW4 := za WA
           clear WA
           have H' := za H
           clear H
           try go_wp2
           replace dZ := Ao dZ
           replace fP := Ao fP
           replace fF := Ao fF
           replace iB := za (dE iB.out)
           replace dL := za (dE dL.out)
           replace HI0 := za (aH.drew HI0.out)
           replace HK := za (iY HK.out)
           replace HB := za (bK HB.out)
           refine lW (n := 8) (S := fun w' => w'.cell? ⟨oI, 0, none⟩ = some (.string Ow) ∧ w'.cell? ⟨oI, 1, none⟩ = some (.int .i64 Ov) ∧ w'.cell? ⟨oI, 2, none⟩ = some (u888002) ∧ w'.cell? ⟨oI, 3, none⟩ = some (u888003) ∧ w'.cell? ⟨oI, 4, none⟩ = some (u888004)) (ds := [7]) #[false, false, false, false, false, false, false, false] dU rfl rfl ⟨(aA dL.out 0).trans rfl, (aA dL.out 1).trans rfl, (aA dL.out 2).trans rfl, (aA dL.out 3).trans rfl, (aA dL.out 4).trans rfl⟩ (fun hHeld => ?_); refine gX bH.VV bH.EH (fun dB qB => ?_)
           generalize w52.drew = vL at dZ fP fF iB dL HI0 HK HB hHeld ⊢
           refine gV 0 (some 57) dB ?_
           refine gV 2 (some 59) dB ?_
           refine vP 1 (some 58) dB qB hHeld ?_
           refine Cn 3 (some 60) dB (fun K hK => ?_)
           refine wT Try.func32 dU rfl #[.pointer (some ⟨g, 0, none⟩)] (by rfl) rfl rfl Fb ?_
           with_reducible refine (dW.calls J7 g aK QJ QK QL QM aCF aCG aCH aCI aCJ aCK aCL aCM aNN aNO aNP aNQ w0 _ ?side1 ?side2 A54.out).mono ?_
           (case side1 => exact Dw)
           (case side2 => exact Br)
           rintro e w57 ⟨bQw, bQx, bQy, rfl, ho0, ho1, ho2, hi, hb, hk⟩
           refine ⟨_, rfl, ?_⟩
           replace dZ := za (Kd.aQ (Kd.fC (aH.apart (show aH w0 _ g aK QJ QK QL QM from Dw) (zr dZ.out) (by decide)) hk (fun _ h => h.2)) (fun _ h => h.1))
           replace fP := za (Kd.aQ (Kd.fC (aH.apart (show aH w0 _ g aK QJ QK QL QM from Dw) (zr fP.out) (by decide)) hk (fun _ h => h.2)) (fun _ h => h.1))
           replace fF := za (Kd.aQ (Kd.uI (Kd.uI (Kd.uI (Kd.yg (aH.apart (show aH w0 _ g aK QJ QK QL QM from Dw) (zr fF.out) (by decide)) hk) (Kd.iV ho0)) (Kd.iV ho1)) (Kd.iV ho2)) (fun _ h_ => h_.1))
           replace iB := nE hk (zb iB.out) sS
           replace dL := nE hk (zb dL.out) uV
           have aCN := za (Kd.eU ho0 (eG (w := w) (g := g) (row := none) wQ))
           have aCO := za (Kd.eU ho1 (eG (w := w) (g := g) (row := none) wQ))
           have aCP := za (Kd.eU ho2 (eG (w := w) (g := g) (row := none) wQ))
           replace HK := sN wQ hk
           replace HB := za (hb)
           replace HI0 := za (hi)
           obtain ⟨bK3, bK4, aW5⟩ := Kd.bJ aCN.out
           (first | subst aW5 | (injection aW5 with wU Gu wV; have Gv := wU.symm; have Gw := wV.symm; clear wU Gu wV; subst Gv; subst Gw))
           obtain ⟨bK5, bK6, aW6⟩ := Kd.bJ aCO.out
           (first | subst aW6 | (injection aW6 with wU Gu wV; have Gv := wU.symm; have Gw := wV.symm; clear wU Gu wV; subst Gv; subst Gw))
           obtain ⟨qG, pU, aCQ⟩ := Kd.bJ aCP.out
           (first | subst aCQ | (injection aCQ with wU Gu wV; have Gv := wU.symm; have Gw := wV.symm; clear wU Gu wV; subst Gv; subst Gw))
           refine hK.out _ _ ⟨(aA dL.out 0).trans rfl, (aA dL.out 1).trans rfl, (aA dL.out 2).trans rfl, (aA dL.out 3).trans rfl, (aA dL.out 4).trans rfl⟩ (fun hHeld => ?_)
           clear hK K
           refine jS (a' := ?_) ?_ ?_
           rotate_left
           ·
            show Act.put _ (some 60) _ = _
            simp only [Act.put, List.setIfInBounds_toArray, List.set_cons_zero, List.set_cons_succ, dO, dQ]
            rfl
           refine Cn 4 (some 61) dB (fun K hK => ?_)
           refine Vw (w1 := ?_) (v := ?_) (by rfl) rfl ?_ ?_
           rotate_left 2
           ·
            go_simp
            constructor
            ·
             rfl
            ·
             rfl
           refine hK.out _ _ ⟨(aA (bX dL.out _) 0).trans rfl, (aA (bX dL.out _) 1).trans rfl, (aA (bX dL.out _) 2).trans rfl, (aA (bX dL.out _) 3).trans rfl, (aA (bX dL.out _) 4).trans rfl⟩ (fun hHeld => ?_)
           clear hK K
           refine jS (a' := ?_) ?_ ?_
           rotate_left
           ·
            show Act.put _ (some 61) _ = _
            simp only [Act.put, List.setIfInBounds_toArray, List.set_cons_zero, List.set_cons_succ, dO, dQ]
            rfl
           refine Cn 5 (some 62) dB (fun K hK => ?_)
           refine Kd.nO Vo w.heap.size (by rfl) (.tmp 58) (.tmp 61) 29 38 (.agg #[(.string ⟨#[]⟩), (.slice none 0 0), (.bool false), (.string ⟨#[]⟩), (.string ⟨#[]⟩), (.slice none 0 0), (.slice none 0 0), (.int .i64 0)]) 136 rfl Try.underlying29 aLg rfl (by decide) (by omega) u888004 qZ (⟨aCF, aCG, aCH, aCI, aCJ, aCK, aCL, aCM⟩ : Cg) [.string aCF, .slice bK3 aCG.length bK4, .bool aCH, .string aCI, .string aCJ, .slice bK5 aCK.length bK6, .slice qG aCL.length pU, .int .i64 aCM] (fun _ => True) (fun k_ => ((fun _ => True)) k_ ∧ some k_ ≠ (u888004 : Value).ownBlock) rfl rfl ?aP (fun _ hk => hk) ?aF ?aO (Below.refl _ _) ?aS ?aL ?_
           (case aP => exact aEy _ _ _ (⟨aCF, aCG, aCH, aCI, aCJ, aCK, aCL, aCM⟩ : Cg) (Kd.aQ (Kd.pK (aCN.out) (Kd.oG fF.out) (by decide)) (fun k_ hk => ⟨trivial, hk.2⟩)) (Kd.aQ (Kd.pK (aCO.out) (Kd.oG fF.out) (by decide)) (fun k_ hk => ⟨trivial, hk.2⟩)) (Kd.aQ (Kd.pK (aCP.out) (Kd.oG fF.out) (by decide)) (fun k_ hk => ⟨trivial, hk.2⟩)))
           (case aF => exact (fun _ _ => trivial))
           (case aO => exact (by (with_reducible repeat (first | apply Kd.bC | apply Kd.bF | apply Kd.bP)); exact Kd.aQ fF.out (fun _ hk => trivial)))
           (case aS => exact (eG (w := w) (g := g) (row := none) wQ))
           (case aL => have := aW3.out; omega)
           intro bQz w58 ho hb hg hat
           rw [← aW4.out] at ho
           replace dZ := za (Kd.Pz (zr dZ.out) (Kd.oG (zr fF.out)) (by decide) hg)
           replace fP := za (Kd.Pz (zr fP.out) (Kd.oG (zr fF.out)) (by decide) hg)
           replace iB := za (eD (g := xY) (zb iB.out) hg (Kd.nA fF.out iB.out (by decide)))
           replace dL := za (eD (g := oI) (zb dL.out) hg (Kd.nA fF.out dL.out (by decide)))
           replace HB := za (rR Br HL.out hb)
           replace HI0 := za (aH.grown Dw hg (aH.own_ne HI0.out fF.out (by decide)))
           replace HK := za (aU.trans wQ (aU.mV hg g) (Kd.Fj fF.out))
           have aKI := za (ho)
           clear fF aCN aCO aCP
           clear ho hb hg hat
           obtain ⟨bK7, bK8, aW7⟩ := Kd.bJ aKI.out
           (first | subst aW7 | (injection aW7 with wU Gu wV; have Gv := wU.symm; have Gw := wV.symm; clear wU Gu wV; subst Gv; subst Gw))
           refine hK.out _ _ ⟨(aA dL.out 0).trans rfl, (aA dL.out 1).trans rfl, (aA dL.out 2).trans rfl, (aA dL.out 3).trans rfl, (aA dL.out 4).trans rfl⟩ (fun hHeld => ?_)
           clear hK K
           refine jS (a' := ?_) ?_ ?_
           rotate_left
           ·
            show Act.put _ (some 62) _ = _
            simp only [Act.put, List.setIfInBounds_toArray, List.set_cons_zero, List.set_cons_succ, dO, dQ]
            rfl
           refine gV 6 (some 63) dB ?_
           refine Mo (i := 7) (N := none) #[true, true, true, true, true, true, true, true] rfl rfl (Ad dB.out dU) (by decide) (fun K hK => ?_)
           have bK9 : w58.cell? ⟨oI, 4, none⟩ = some (u888004) := (aA dL.out 4).trans rfl
           have aW8 := aD dL.out 4
           have aIx := uD.out
           have aIy := Ep.out
           refine Cb (w1 := ?_) (by rfl) rfl ?_ ?_
           rotate_left
           ·
            go_simp
            rfl
           refine hK.out _ _ ?_
           clear hK K
           refine pO (jX dB.out dU) ?_
           try go_wp2
           go_roundg J7
           case measure => have := lH.out; have := Rv.out; have := bSM.out; omega
           case rel => exact ⟨(aNN), (aNO), (aNP), (aNQ), (qY), (aNR), (u888003), (.slice bK7 aNR.length bK8), H', ⟨by have := lH.out; have := Rv.out; have := bSM.out; omega⟩, ⟨aJz⟩, ⟨by (with_reducible repeat (first | apply Kd.bC | apply Kd.bF | apply Kd.bP)); exact Kd.aQ (RL (Kd.dS fP.out dL.out (by decide)) (fun _ hk => hk.2)) (fun _ hk => trivial)⟩, ⟨by (with_reducible repeat (first | apply Kd.bC | apply Kd.bF | apply Kd.bP)); exact Kd.aQ (RL (Kd.dS aKI.out dL.out (by decide)) (fun _ hk => hk.2)) (fun _ hk => trivial)⟩, ⟨Vp iB.out uD.out⟩, ⟨aPT dL.out⟩, ⟨Dw⟩, ⟨wQ⟩, ⟨Br⟩⟩
          ·
           replace H := jT H
           obtain ⟨⟨aW9, aXa, aXb, aXc⟩, A64, H⟩ := H
           (try dsimp only at H)
           have H' := za H
           clear H
           go_wp2_with (first | ((with_reducible refine zg 33 rfl ?_); refine kZ (some 65) Try.func33 #[.pointer (some ⟨g, 0, none⟩), .int .i64 11] ?_; refine (jP.calls g aK QJ QK QL QM 11 aW9 aXa aXb aXc w0 _ Dw Br A64.out).mono ?_; rintro e w65 ⟨rfl, hi, hb, hk⟩; refine ⟨_, rfl, ?_⟩; replace dZ := za (Kd.aQ (Kd.fC (aH.apart (show aH w0 _ g aK QJ QK QL QM from Dw) (zr dZ.out) (by decide)) hk (fun _ h => h.2)) (fun _ h => h.1)); replace fP := za (Kd.aQ (Kd.fC (aH.apart (show aH w0 _ g aK QJ QK QL QM from Dw) (zr fP.out) (by decide)) hk (fun _ h => h.2)) (fun _ h => h.1)); replace fF := za (Kd.aQ (Kd.fC (aH.apart (show aH w0 _ g aK QJ QK QL QM from Dw) (zr fF.out) (by decide)) hk (fun _ h => h.2)) (fun _ h => h.1)); replace iB := nE hk (zb iB.out) sS; replace dL := nE hk (zb dL.out) uV; replace HK := sN wQ hk; replace HB := za (hb); replace HI0 := za (hi)))
           go_roundg J7
           case measure => have := lH.out; have := Rv.out; have := bSM.out; omega
           case rel => exact ⟨(aW9), (aXa), (aXb), (aXc), (qY), (qZ), (u888003), (u888004), H', ⟨by have := lH.out; have := Rv.out; have := bSM.out; omega⟩, ⟨U0⟩, ⟨aAm⟩, ⟨aAn⟩, ⟨qg⟩, ⟨qh⟩, ⟨Dw⟩, ⟨wQ⟩, ⟨Br⟩⟩
        ·
         simp only [Option.some.injEq, Prod.mk.injEq] at H
         obtain ⟨rfl, rfl, rfl, rfl, rfl, rfl, rfl, rfl, rfl⟩ := H
         have aVj := Ep.out
         have aVk := uD.out
         have bOA := uV.out
         have bOB := NJ.out
         obtain ⟨aGu, aGv, aGw, aGx, aGy⟩ := Zj dL.out
         obtain ⟨bFN, aGz, aGA, aGB, aGC⟩ := JC dL.out
         have aRF := sS.out
         have aRG := NI.out
         obtain ⟨bFO, bFP, bFQ, bFR, bFS⟩ := Zj iB.out
         obtain ⟨bFT, bFU, bFV, bFW, bFX⟩ := JC iB.out
         obtain ⟨bLa, bLb, bLc⟩ := Kd.bJ dZ.out
         subst bLc
         obtain ⟨bLd, bLe, bLf⟩ := Kd.bJ fP.out
         subst bLf
         obtain ⟨bLg, bLh, bLi⟩ := Kd.bJ fF.out
         subst bLi
         go_wp2
         refine bodyPost_ret (results_cell_row rfl _ _ xY 31 #[.string Ow, .int .i64 Ov, .slice bLa pG.length bLb, .slice bLd qY.length bLe, .slice bLg qZ.length bLh] (0, 0) _ rfl (zP5 iB.out) Try.underlying31 rfl dU) rfl ?_
         exact ⟨_, _, _, jR, by (with_reducible repeat (first | apply Kd.bC | apply Kd.bF | apply Kd.bP)); exact Kd.aQ (Qg (Kd.dS dZ.out iB.out (by decide)) (fun _ hk => hk.2)) (fun _ hk => trivial), by (with_reducible repeat (first | apply Kd.bC | apply Kd.bF | apply Kd.bP)); exact Kd.aQ (Qg (Kd.dS fP.out iB.out (by decide)) (fun _ hk => hk.2)) (fun _ hk => trivial), by (with_reducible repeat (first | apply Kd.bC | apply Kd.bF | apply Kd.bP)); exact Kd.aQ (Qg (Kd.dS fF.out iB.out (by decide)) (fun _ hk => hk.2)) (fun _ hk => trivial), Dw, Br, wQ⟩
end Go.Proofs.Ytiaeldibklcobaa.eZ
