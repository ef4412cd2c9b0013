import Derived.Test.YtiaeldibklcobaaZRPx5
namespace Go.Proofs.Ytiaeldibklcobaa.eZ
open Go.RowKit Go.Proofs.YtiaeldibklcobaaW.bL Go.Proofs.YtiaeldibklcobaaW.fV Go.Proofs.YtiaeldibklcobaaW.iZ
set_option maxHeartbeats 8000000
set_option maxRecDepth 100000
attribute [local go_sem] kL kM lX lY jC jD kN kP
set_option linter.unusedVariables false
set_option linter.unusedSimpArgs false
def eB.j0 : Nat → Bool → Bool → List (iJ) → Int → Int → Int → Int → ByteArray → ByteArray → Int → Int → Int → ByteArray → Int → Option (ByteArray × ByteArray × Int × Int × Int × Int × Int × Int)
 | 0, _, _, _, _, _, _, _, _, _, _, _, _, _, _ => none
 | k + 1, x4, x39, x1000, jK, kE, jE, kF, OT, OU, aFs, OV, bAL, aFt, bAM => if x39 = true then ((jP.f x1000 jK kE jE kF 11).bind fun Z9 => (some (OT, OU, aFs, OV, Z9.1, Z9.2.1, Z9.2.2.1, Z9.2.2.2))) else ((kS.f k aFt).bind fun t198 => (if x4 = true then ((dI.f x1000 (wrap64 (jK + 1)) kE jE kF (⟨#[59]⟩ : ByteArray)).bind fun a_ => (some (OT, OU, wrap64 (-t198), OV, a_.1, a_.2.1, a_.2.2.1, a_.2.2.2))) else ((dI.f x1000 (wrap64 (jK + 1)) kE jE kF (⟨#[59]⟩ : ByteArray)).bind fun b_ => (some (OT, OU, t198, OV, b_.1, b_.2.1, b_.2.2.1, b_.2.2.2)))))
def eB.f (k : Nat) (aK : List (iJ)) (aX : Int) (bM : Int) (bN : Int) (bQ : Int) : Option (ByteArray × ByteArray × Int × Int × Int × Int × Int × Int) := (mD.f aK aX bM bN bQ).bind fun Eb => ((gG.f aK Eb.2.1 Eb.2.2.1 Eb.2.2.2.1 Eb.2.2.2.2).bind fun Ec => ((dI.f aK Ec.2.1 Ec.2.2.1 Ec.2.2.2.1 Ec.2.2.2.2 (⟨#[58]⟩ : ByteArray)).bind fun Qz => ((gG.f aK Qz.1 Qz.2.1 Qz.2.2.1 Qz.2.2.2).bind fun Ed => ((dI.f aK Ed.2.1 Ed.2.2.1 Ed.2.2.2.1 Ed.2.2.2.2 (⟨#[61]⟩ : ByteArray)).bind fun Ra => ((eX.f aK Ra.1 Ra.2.1 Ra.2.2.1 Ra.2.2.2 (⟨#[45]⟩ : ByteArray)).bind fun lI => (if 0 ≤ lI.2.1 then (if lI.2.1 < (aK.length : Int) then (if lI.2.2.2.1 = 0 then (eB.j0 k lI.1 (((cK aK lI.2.1).f0) != 2) aK lI.2.1 lI.2.2.1 lI.2.2.2.1 lI.2.2.2.2 Ec.1 Ed.1 0 Eb.1 ((cK aK lI.2.1).f0) ((cK aK lI.2.1).f1) ((cK aK lI.2.1).f2)) else (eB.j0 k lI.1 true aK lI.2.1 lI.2.2.1 lI.2.2.2.1 lI.2.2.2.2 Ec.1 Ed.1 0 Eb.1 ((cK aK lI.2.1).f0) ((cK aK lI.2.1).f1) ((cK aK lI.2.1).f2))) else (none)) else (none)))))))
theorem eB.fT : ∀ k, (∀ y0 y1 y2 y3 y4 y5 y6 y7 y8 y9 uL zX OW y13, bV (eB.j0 k y0 y1 y2 y3 y4 y5 y6 y7 y8 y9 uL zX OW y13) (eB.j0 (k + 1) y0 y1 y2 y3 y4 y5 y6 y7 y8 y9 uL zX OW y13))
 | 0 => fun _ _ _ _ _ _ _ _ _ _ _ _ _ _ r h => by simp [eB.j0] at h
 | k + 1 => by
  have nV := eB.fT k
  ·
   intro y0 y1 y2 y3 y4 y5 y6 y7 y8 y9 uL zX OW y13
   unfold eB.j0
   repeat' with_reducible first | apply nV | apply kS.mono | exact bV.refl _ | exact bV.none _ | refine bV.ite ?_ ?_ | refine bV.bind ?_ (fun _ => ?_)
theorem eB.mono : ∀ a0 a1 a2 a3 a4 k, bV (eB.f k a0 a1 a2 a3 a4) (eB.f (k + 1) a0 a1 a2 a3 a4) := by
 intro a0 a1 a2 a3 a4 k
 have nV := eB.fT k
 unfold eB.f
 repeat' with_reducible first | apply nV | apply kS.mono | exact bV.refl _ | exact bV.none _ | refine bV.ite ?_ ?_ | refine bV.bind ?_ (fun _ => ?_)
def eB.T6 : Bool × List (List Nat × List Nat) := (true, [([], []), ([0], [0]), ([1], [1]), ([2], [2]), ([], []), ([4], [4]), ([5], [5]), ([6], [6]), ([3, 7], [3, 7]), ([8], [8]), ([], []), ([10, 9, 0, 1, 2, 3, 4, 5, 6, 7, 8, 9, 10], [9, 10])])
def eB.B6 : List Nat := [0, 1, 3, 7, 0, 16, 48, 112, 255, 511, 0, 2047]
theorem eB.bI1 : oL .any (opsOf Try.f31 6) = eB.T6 := by kernel_rfl
theorem eB.aRn : kH eB.T6.2 eB.B6 = true := by kernel_rfl
theorem eB.calls (k : Nat) (g : Nat) (aK : List (iJ)) (aX : Int) (bM : Int) (bN : Int) (bQ : Int) (r1 : ByteArray) (r2 : ByteArray) (r3 : Int) (r4 : Int) (r5 : Int) (r6 : Int) (r7 : Int) (r8 : Int) (w0 w : World) (hI : aH w0 w g aK aX bM bN bQ) (hB : Below w0.heap.size w0 w) (h : eB.f k aK aX bM bN bQ = some (r1, r2, r3, r4, r5, r6, r7, r8)) :
  Calls Try.prog 31 #[.pointer (some ⟨g, 0, none⟩)] w fun e w' => e = .returned (.agg #[.string r1, .string r2, .int .i64 r3, .int .i64 r4]) ∧ aH w0 w' g aK r5 r6 r7 r8 ∧ Below w0.heap.size w0 w' ∧ aU w w' g none := by
 have bI2 := Try.underlying49
 have aES := Try.underlying81
 have HI0 := za hI
 have HK := za (aU.refl w g none)
 have HL := za hB.size
 clear hI
 have HW0 := za hB.size
 have HB := za hB
 clear hB
 have H : ((mD.f aK aX bM bN bQ).bind fun Eb => ((gG.f aK Eb.2.1 Eb.2.2.1 Eb.2.2.2.1 Eb.2.2.2.2).bind fun Ec => ((dI.f aK Ec.2.1 Ec.2.2.1 Ec.2.2.2.1 Ec.2.2.2.2 (⟨#[58]⟩ : ByteArray)).bind fun Qz => ((gG.f aK Qz.1 Qz.2.1 Qz.2.2.1 Qz.2.2.2).bind fun Ed => ((dI.f aK Ed.2.1 Ed.2.2.1 Ed.2.2.2.1 Ed.2.2.2.2 (⟨#[61]⟩ : ByteArray)).bind fun Ra => ((eX.f aK Ra.1 Ra.2.1 Ra.2.2.1 Ra.2.2.2 (⟨#[45]⟩ : ByteArray)).bind fun lI => (if 0 ≤ lI.2.1 then (if lI.2.1 < (aK.length : Int) then (if lI.2.2.2.1 = 0 then (eB.j0 k lI.1 (((cK aK lI.2.1).f0) != 2) aK lI.2.1 lI.2.2.1 lI.2.2.2.1 lI.2.2.2.2 Ec.1 Ed.1 0 Eb.1 ((cK aK lI.2.1).f0) ((cK aK lI.2.1).f1) ((cK aK lI.2.1).f2)) else (eB.j0 k lI.1 true aK lI.2.1 lI.2.2.1 lI.2.2.2.1 lI.2.2.2.2 Ec.1 Ed.1 0 Eb.1 ((cK aK lI.2.1).f0) ((cK aK lI.2.1).f1) ((cK aK lI.2.1).f2))) else (none)) else (none)))))))) = some (r1, r2, r3, r4, r5, r6, r7, r8) := h
 clear h
 replace H := jT H
 obtain ⟨⟨t163, t164, t165, t166, t167⟩, A2, H⟩ := H
 (try dsimp only at H)
 replace H := jT H
 obtain ⟨⟨t168, t169, t170, t171, t172⟩, A3, H⟩ := H
 (try dsimp only at H)
 replace H := jT H
 obtain ⟨⟨t174, t175, t176, t177⟩, A4, H⟩ := H
 (try dsimp only at H)
 replace H := jT H
 obtain ⟨⟨t178, t179, t180, t181, t182⟩, A5, H⟩ := H
 (try dsimp only at H)
 replace H := jT H
 obtain ⟨⟨t183, t184, t185, t186⟩, A6, H⟩ := H
 (try dsimp only at H)
 replace H := jT H
 obtain ⟨⟨t187, t188, t189, t190, t191⟩, A7, H⟩ := H
 (try dsimp only at H)
 revert H; refine yX fun oZ H => ?_
 revert H; refine zd fun c9 H => ?_
 have Ga : decide (t188 < (aK.length : Int)) = true := decide_eq_true c9
 clear c9
 have OX := za H
 clear H
 go_enter Try.func31, Try.ntmps31
 try go_wp2_with (first | ((with_reducible refine bO (N := 2) rfl ?_); refine bZ ?hg (N := 2) ?hd (cs := #[.string (⟨#[]⟩ : ByteArray), .string (⟨#[]⟩ : ByteArray), .int .i64 0, .int .i64 0]) (t := 49) ?hr ?_; (case hd => rfl); (case hg => rfl); (case hr => exact jA); intro vY hg OY gP hb; replace HB := za (aM qJ hb); have kX := za (gP); have zq := za ((by rw [hg]; exact (eG (w := w) (g := g) (row := none) vN) : w.heap.size ≤ vY)); have zo := za ((Nat.le_trans HW0.out (by rw [hg]; exact (eG (w := w) (g := g) (row := none) vN) : w.heap.size ≤ vY) : w0.heap.size ≤ vY)); replace HK := za (aU.trans vN (aU.of_below hb g none) (.inl rfl)); have Mc := za ((by rw [hg]; exact Nat.ne_of_lt (aH.lt (show aH w0 _ g aK aX bM bN bQ from mZ)) : g ≠ vY)); have sO := za ((by rw [hg]; exact Nat.ne_of_gt (aH.lt (show aH w0 _ g aK aX bM bN bQ from mZ)) : vY ≠ g)); replace HI0 := za (aH.below mZ hb); clear hb gP hg) | ((with_reducible refine zg 28 rfl ?_); refine kZ (some 7) Try.func28 #[.pointer (some ⟨g, 0, none⟩)] ?_; refine (mD.calls g aK aX bM bN bQ t163 t164 t165 t166 t167 w0 _ zw aLu A2.out).mono ?_; rintro e Mk ⟨rfl, hi, hb, hk⟩; refine ⟨_, rfl, ?_⟩; replace kX := nE hk (zb kX.out) sO; replace HK := sN o7 hk; replace HB := za (hb); replace HI0 := za (hi)) | ((with_reducible refine zg 29 rfl ?_); refine kZ (some 9) Try.func29 #[.pointer (some ⟨g, 0, none⟩)] ?_; refine (gG.calls g aK t164 t165 t166 t167 t168 t169 t170 t171 t172 w0 _ zw aLu A3.out).mono ?_; rintro e ZW ⟨rfl, hi, hb, hk⟩; refine ⟨_, rfl, ?_⟩; replace kX := nE hk (zb kX.out) sO; replace HK := sN o7 hk; replace HB := za (hb); replace HI0 := za (hi)) | ((with_reducible refine bO (N := 3) rfl ?_); refine bZ ?hg (N := 3) ?hd (cs := #[.string (⟨#[]⟩ : ByteArray), .string (⟨#[]⟩ : ByteArray), .int .i64 0, .int .i64 0]) (t := 49) ?hr ?_; (case hd => rfl); (case hg => rfl); (case hr => exact jA); intro zA hg w14 gP hb; replace HB := za (aM aLu hb); have lJ := za (gP); have aJw := za ((by rw [hg]; exact (eG (w := w) (g := g) (row := none) o7) : w.heap.size ≤ zA)); have aJv := za ((Nat.le_trans HW0.out (by rw [hg]; exact (eG (w := w) (g := g) (row := none) o7) : w.heap.size ≤ zA) : w0.heap.size ≤ zA)); replace HK := za (aU.trans o7 (aU.of_below hb g none) (.inl rfl)); have tY := za ((by rw [hg]; exact Nat.ne_of_lt (gB (g := vY) (zb kX.out)) : vY ≠ zA)); have Ee := za ((by rw [hg]; exact Nat.ne_of_gt (gB (g := vY) (zb kX.out)) : zA ≠ vY)); replace kX := za (aY (g := vY) (zb kX.out) hb); have Fy := za ((by rw [hg]; exact Nat.ne_of_lt (aH.lt (show aH w0 _ g aK t169 t170 t171 t172 from zw)) : g ≠ zA)); have sP := za ((by rw [hg]; exact Nat.ne_of_gt (aH.lt (show aH w0 _ g aK t169 t170 t171 t172 from zw)) : zA ≠ g)); replace HI0 := za (aH.below zw hb); clear hb gP hg; have aKk := Ee.out; have aKl := tY.out; have aRo := sP.out; have aRp := Fy.out; obtain ⟨OI, OJ, OL, OM⟩ := zc4 lJ.out; obtain ⟨aFu, OO, OP⟩ := Xk lJ.out; have OQ := aD lJ.out 3) | ((with_reducible refine zg 27 rfl ?_); refine kZ (some 12) Try.func27 #[.pointer (some ⟨g, 0, none⟩), .string (⟨#[58]⟩ : ByteArray)] ?_; refine (dI.calls g aK t169 t170 t171 t172 (⟨#[58]⟩ : ByteArray) t174 t175 t176 t177 w0 _ F4 zy A4.out).mono ?_; rintro e w18 ⟨rfl, hi, hb, hk⟩; refine ⟨_, rfl, ?_⟩; replace kX := nE hk (zF4 kX.out tY.out) sO; replace lJ := nE hk (zP4 lJ.out) sP; replace HK := sN F7 hk; replace HB := za (hb); replace HI0 := za (hi)) | ((with_reducible refine zg 29 rfl ?_); refine kZ (some 14) Try.func29 #[.pointer (some ⟨g, 0, none⟩)] ?_; refine (gG.calls g aK t174 t175 t176 t177 t178 t179 t180 t181 t182 w0 _ F4 zy A5.out).mono ?_; rintro e w19 ⟨rfl, hi, hb, hk⟩; refine ⟨_, rfl, ?_⟩; replace kX := nE hk (zb kX.out) sO; replace lJ := nE hk (zb lJ.out) sP; replace HK := sN F7 hk; replace HB := za (hb); replace HI0 := za (hi); (try clear hb hk hi); obtain ⟨aE6, aE7, aE8, bAN⟩ := zc4 lJ.out; obtain ⟨aE9, aFa, aFb⟩ := Xk lJ.out; have bAO := aD lJ.out 3) | ((with_reducible refine zg 27 rfl ?_); refine kZ (some 17) Try.func27 #[.pointer (some ⟨g, 0, none⟩), .string (⟨#[61]⟩ : ByteArray)] ?_; refine (dI.calls g aK t179 t180 t181 t182 (⟨#[61]⟩ : ByteArray) t183 t184 t185 t186 w0 _ F4 zy A6.out).mono ?_; rintro e w21 ⟨rfl, hi, hb, hk⟩; refine ⟨_, rfl, ?_⟩; replace kX := nE hk (Vp kX.out tY.out) sO; replace lJ := za (aU.blk hk (g' := zA) (o := .cells #[.string t168, .string t178, .int .i64 0, .int .i64 t163] 49 (0, 0)) (aPP lJ.out) sP.out (by simp)); replace HK := sN F7 hk; replace HB := za (hb); replace HI0 := za (hi)) | ((with_reducible refine zg 30 rfl ?_); refine kZ (some 19) Try.func30 #[.pointer (some ⟨g, 0, none⟩), .string (⟨#[45]⟩ : ByteArray)] ?_; refine (eX.calls g aK t183 t184 t185 t186 (⟨#[45]⟩ : ByteArray) t187 t188 t189 t190 t191 w0 _ F4 zy A7.out).mono ?_; rintro e w22 ⟨rfl, hi, hb, hk⟩; refine ⟨_, rfl, ?_⟩; replace kX := nE hk (zb kX.out) sO; replace lJ := nE hk (zb lJ.out) sP; replace HK := sN F7 hk; replace HB := za (hb); replace HI0 := za (hi)))
 replace kX := za (dE kX.out)
 replace lJ := za (dE lJ.out)
 replace HI0 := za (aH.drew HI0.out)
 replace HK := za (iY HK.out)
 replace HB := za (bK HB.out)
 obtain ⟨Y6, NQ, qI, TT, NR⟩ := HI0.out
 have aA5 := fI qI
 have aA6 := fJ qI
 have aA7 := fK qI
 have aA8 := fM qI
 have aA9 := fG qI
 clear qI TT
 have aLT : 0 ≤ (t188 : Int) := of_decide_eq_true iL
 have aLU : t188 < (aK.length : Int) := of_decide_eq_true iL
 obtain ⟨KQ, bI3, Rb, Rc, Re⟩ := Hr NR t188 aLT aLU
 have bAP := Re
 have bAQ := Rc
 have bAR := Rb
 cases bI3
 replace Rb := bR HB.out Rb
 replace Rc := bR HB.out Rc
 replace Re := bR HB.out Re
 replace aLT := eq_true aLT
 replace aLU := eq_true aLU
 refine lW (n := 12) (S := fun w' => w'.cell? ⟨g, 0, none⟩ = some (.slice (some KQ) aK.length NQ) ∧ w'.cell? ⟨g, 1, none⟩ = some (.int .i64 t188) ∧ w'.cell? ⟨g, 2, none⟩ = some (.int .i64 t189) ∧ w'.cell? ⟨g, 3, none⟩ = some (.int .i64 t190) ∧ w'.cell? ⟨g, 4, none⟩ = some (.int .i64 t191) ∧ w'.cell? (KQ.add ((t188).toNat * 3)) = some (.int .i64 ((cK aK t188).f0)) ∧ w'.cell? ⟨(KQ.add ((t188).toNat * 3)).block, (KQ.add ((t188).toNat * 3)).off + 1, none⟩ = some (.string ((cK aK t188).f1)) ∧ w'.cell? ⟨(KQ.add ((t188).toNat * 3)).block, (KQ.add ((t188).toNat * 3)).off + 2, none⟩ = some (.int .i64 ((cK aK t188).f2))) (ds := [11]) #[false, false, false, false, false, false, false, false, false, false, false, false] dU rfl rfl ⟨aA5, aA6, aA7, aA8, aA9, Rb, Rc, Re⟩ (fun hHeld => ?_); refine gX eB.bI1 eB.aRn (fun dB qB => ?_)
 generalize w22.drew = w23 at kX lJ HI0 HK HB Rb Rc Re aA5 aA6 aA7 aA8 aA9 hHeld ⊢
 refine gV 0 (some 20) dB ?_
 refine gV 1 (some 21) dB ?_
 refine gV 2 (some 22) dB ?_
 refine gV 4 (some 24) dB ?_
 refine gV 5 (some 25) dB ?_
 refine gV 6 (some 26) dB ?_
 refine vP 3 (some 23) dB qB hHeld ?_
 refine vP 7 (some 27) dB qB hHeld ?_
 refine gV 8 (some 28) dB ?_
 refine vP 9 (some 29) dB qB hHeld ?_
 refine Cn 10 (some 5) dB (fun K hK => ?_)
 refine uM ?hg (N := 5) ?hd (cs := #[.int .i64 0, .string (⟨#[]⟩ : ByteArray), .int .i64 0]) (t := 81) ?hr ?_; (case hd => rfl); (case hg => rfl); (case hr => exact jA)
 intro Ef hg w25 gP hb
 have Om := zH8 hb hHeld
 replace HB := za (aM zy hb)
 have vZ := za (gP)
 have aPt := za ((by rw [hg]; exact (eG (w := w) (g := g) (row := none) F7) : w.heap.size ≤ Ef))
 have aPs := za ((Nat.le_trans HW0.out (by rw [hg]; exact (eG (w := w) (g := g) (row := none) F7) : w.heap.size ≤ Ef) : w0.heap.size ≤ Ef))
 replace HK := za (aU.trans F7 (aU.of_below hb g none) (.inl rfl))
 have rY := za ((by rw [hg]; exact Nat.ne_of_lt (gB (g := vY) (zb kX.out)) : vY ≠ Ef))
 have vF := za ((by rw [hg]; exact Nat.ne_of_gt (gB (g := vY) (zb kX.out)) : Ef ≠ vY))
 replace kX := za (aY (g := vY) (zb kX.out) hb)
 have rZ := za ((by rw [hg]; exact Nat.ne_of_lt (gB (g := zA) (zb lJ.out)) : zA ≠ Ef))
 have sD := za ((by rw [hg]; exact Nat.ne_of_gt (gB (g := zA) (zb lJ.out)) : Ef ≠ zA))
 replace lJ := za (aY (g := zA) (zb lJ.out) hb)
 have NL := za ((by rw [hg]; exact Nat.ne_of_lt (aH.lt (show aH w0 _ g aK t188 t189 t190 t191 from F4)) : g ≠ Ef))
 have Gb := za ((by rw [hg]; exact Nat.ne_of_gt (aH.lt (show aH w0 _ g aK t188 t189 t190 t191 from F4)) : Ef ≠ g))
 replace HI0 := za (aH.below F4 hb)
 clear hb gP hg
 refine hK.out _ _ Om (fun hHeld => ?_)
 clear hK K
 refine jS (a' := ?_) ?_ ?_
 rotate_left
 ·
  show Act.put _ (some 5) _ = _
  simp only [Act.put, List.setIfInBounds_toArray, List.set_cons_zero, List.set_cons_succ, dO, dQ]
  rfl
 refine Mo (i := 11) (N := none) #[true, true, true, true, true, true, true, true, true, true, true, true] rfl rfl (Ad dB.out dU) (by decide) (fun K hK => ?_)
 have bPK : w25.cell? ⟨Ef, 0, none⟩ = some (.int .i64 0) := (aA vZ.out 0).trans rfl
 have bNY := aD vZ.out 0
 have bAS := rY.out
 have bAT := rZ.out
 have bAU := vF.out
 have bAV := sD.out
 have bPL : w25.cell? ⟨Ef, 1, none⟩ = some (.string (⟨#[]⟩ : ByteArray)) := (aA vZ.out 1).trans rfl
 have bNZ := aD vZ.out 1
 have bAW := rY.out
 have bAX := rZ.out
 have bAY := vF.out
 have bAZ := sD.out
 have bI4 : w25.cell? ⟨Ef, 2, none⟩ = some (.int .i64 0) := (aA vZ.out 2).trans rfl
 have aRq := aD vZ.out 2
 have aFv := rY.out
 have bA0 := rZ.out
 have aFw := vF.out
 have bA1 := sD.out
 refine Cb (w1 := ?_) (by rfl) rfl ?_ ?_
 rotate_left
 ·
  go_simp
  rfl
 refine hK.out _ _ ?_
 clear hK K
 refine pO (jX dB.out dU) ?_
 go_upto_region 7 with (fail)
 go_cut [39] (fun v39 wc => ∃ (kq : Nat) (aBa : Bool), v39 = .bool aBa ∧ aG (eB.j0 kq t187 aBa aK t188 t189 t190 t191 t168 t178 0 t163 ((cK aK t188).f0) ((cK aK t188).f1) ((cK aK t188).f2) = some (r1, r2, r3, r4, r5, r6, r7, r8)) ∧ aG (kq ≤ k) ∧ aG (wc.heap[vY]? = some (.cells #[.string (⟨#[]⟩ : ByteArray), .string (⟨#[]⟩ : ByteArray), .int .i64 0, .int .i64 0] 49 (0, 0))) ∧ aG (wc.heap[zA]? = some (.cells #[.string t168, .string t178, .int .i64 0, .int .i64 t163] 49 (0, 0))) ∧ aG (wc.heap[Ef]? = some (.cells #[.int .i64 ((cK aK t188).f0), .string ((cK aK t188).f1), .int .i64 ((cK aK t188).f2)] 81 (0, 0))) ∧ aG (aH w0 wc g aK t188 t189 t190 t191) ∧ aG (aU w wc g none) ∧ aG (Below w0.heap.size w0 wc))
 case first =>
  have H := OX.out
  clear OX
  revert H; refine oW (fun vV U7 H => ?_) (fun c29 vV U7 H => ?_)
  ·
   (first | rw [vV] | (simp only [dO, dQ]; rw [vV]) | skip)
   have H' := za H
   clear H
   obtain ⟨bA2, bA3, Mv, aRr, bA4⟩ := HI0.out
   have aFx := fI Mv
   have aFy := fJ Mv
   have aFz := fK Mv
   have bA5 := fM Mv
   have bA6 := fG Mv
   have aFA := aD Mv 1
   have aFB := aD Mv 2
   have bA7 := aD Mv 3
   have bA8 := aD Mv 4
   clear Mv aRr
   have aKr := vF.out
   have aKs := rY.out
   have aKt := sD.out
   have aKu := rZ.out
   have aKv := Gb.out
   have aKw := NL.out
   obtain ⟨OZ, PD, PE⟩ := Zi vZ.out
   obtain ⟨d_, PG, PH⟩ := Xk vZ.out
   go_wp2
   go_meet
   case rel => exact ⟨_, ((((cK aK t188).f0) != 2)), jG, H', ⟨Cm⟩, ⟨zF3 kX.out rY.out⟩, ⟨zF3 lJ.out rZ.out⟩, ⟨zP3 vZ.out⟩, ⟨SL⟩, ⟨SQ⟩, ⟨SN⟩⟩
  ·
   (first | rw [vV] | (simp only [dO, dQ]; rw [vV]) | skip)
   have H' := za H
   clear H
   obtain ⟨aFC, f_, xV, aBb, g_⟩ := HI0.out
   have bA9 := fI xV
   have bBa := fJ xV
   have bBb := fK xV
   have bBc := fM xV
   have bBd := fG xV
   have bBe := aD xV 1
   have bBf := aD xV 2
   have bBg := aD xV 3
   have bBh := aD xV 4
   clear xV aBb
   go_wp2
   go_meet
   case rel => exact ⟨_, (true), jG, H', ⟨Cm⟩, ⟨zF3 kX.out rY.out⟩, ⟨zF3 lJ.out rZ.out⟩, ⟨zP3 vZ.out⟩, ⟨SL⟩, ⟨SQ⟩, ⟨SN⟩⟩
 case rest =>
  clear OX
  obtain ⟨kq, aBa, rfl, HA, HJ9, kX, lJ, vZ, HI0, HK, HB⟩ := hcut
  cases kq with
  | zero => exact absurd HA.out (by simp [eB.j0])
  | succ kj9 =>
   have H := HA.out
   clear HA
   simp only [eB.j0] at H
   replace H := Bq H
   rcases H with ⟨rfl, H⟩ | ⟨rfl, H⟩
   ·
    replace H := jT H
    obtain ⟨⟨t194, t195, t196, t197⟩, A37, H⟩ := H
    (try dsimp only at H)
    simp only [Option.some.injEq, Prod.mk.injEq] at H
    obtain ⟨rfl, rfl, rfl, rfl, rfl, rfl, rfl, rfl⟩ := H
    go_wp2_with (first | ((with_reducible refine zg 33 rfl ?_); refine kZ (some 41) Try.func33 #[.pointer (some ⟨g, 0, none⟩), .int .i64 11] ?_; refine (jP.calls g aK t188 t189 t190 t191 11 t194 t195 t196 t197 w0 _ SL SN A37.out).mono ?_; rintro e w38 ⟨rfl, hi, hb, hk⟩; refine ⟨_, rfl, ?_⟩; replace kX := nE hk (zb kX.out) sO; replace lJ := nE hk (zb lJ.out) sP; replace vZ := nE hk (zb vZ.out) Gb; replace HK := sN SQ hk; replace HB := za (hb); replace HI0 := za (hi); (try clear hb hk hi); have bN0 := Ee.out; have bN1 := tY.out; have aRs := rZ.out; have aRt := sD.out; have aRu := sP.out; have aRv := Fy.out; obtain ⟨l_, m_, n_, aFD⟩ := zc4 lJ.out; obtain ⟨o_, p_, r_, aFE⟩ := zf4 lJ.out; have aRw := rY.out; have aRx := vF.out; have bN2 := sO.out; have bN3 := Mc.out; obtain ⟨bBi, bBj, bBk, bBl⟩ := zc4 kX.out; obtain ⟨bBm, bBn, bBo⟩ := Xk kX.out; have bBp := aD kX.out 3))
    refine bodyPost_ret (results_cell_row rfl _ _ vY 49 #[.string t168, .string t178, .int .i64 0, .int .i64 t163] (0, 0) _ rfl (zP4 kX.out) Try.underlying49 rfl dU) rfl ?_
    exact ⟨jR, SL, SN, SQ⟩
   ·
    replace H := jT H
    obtain ⟨t198, A46, H⟩ := H
    (try dsimp only at H)
    have bSJ := za H
    clear H
    obtain ⟨bBq, bBr, Mw, aRy, bBs⟩ := HI0.out
    have aFF := fI Mw
    have aFG := fJ Mw
    have aFH := fK Mw
    have bBt := fM Mw
    have bBu := fG Mw
    have aFI := aD Mw 1
    have aFJ := aD Mw 2
    have bBv := aD Mw 3
    have bBw := aD Mw 4
    clear Mw aRy
    have bN4 := vF.out
    have bN5 := rY.out
    have bN6 := sD.out
    have bN7 := rZ.out
    have bN8 := Gb.out
    have bN9 := NL.out
    obtain ⟨bBx, bBy, bBz⟩ := Zi vZ.out
    obtain ⟨bBA, bBB, bBC⟩ := Xk vZ.out
    go_upto_if 54 with (first | ((with_reducible refine zg 36 rfl ?_); refine kZ (some 52) Try.func36 #[.string ((cK aK t188).f1)] ?_; refine (kS.calls kj9 ((cK aK t188).f1) t198 _ A46.out).mono ?_; rintro e w' ⟨rfl, ⟨nd, rfl⟩⟩; refine ⟨_, rfl, ?_⟩; have aBc := Ee.out; have aBd := tY.out; have bOa := sP.out; have bOb := Fy.out; obtain ⟨bBD, bBE, bBF, bBG⟩ := zc4 lJ.out; obtain ⟨bBH, bBI, bBJ⟩ := Xk lJ.out; have bBK := aD lJ.out 3))
    (try simp only [Act.put, List.setIfInBounds_toArray, List.set_cons_zero, List.set_cons_succ])
    have H := bSJ.out
    clear bSJ
    replace H := Bq H
    rcases H with ⟨rfl, H⟩ | ⟨rfl, H⟩
    ·
     replace H := jT H
     obtain ⟨⟨t199, t200, t201, t202⟩, A57, H⟩ := H
     (try dsimp only at H)
     simp only [Option.some.injEq, Prod.mk.injEq] at H
     obtain ⟨rfl, rfl, rfl, rfl, rfl, rfl, rfl, rfl⟩ := H
     have bOc := Ee.out
     have bOd := tY.out
     have aRz := rZ.out
     have aRA := sD.out
     have aRB := sP.out
     have aRC := Fy.out
     obtain ⟨t_, u_, v_, w_⟩ := zc4 lJ.out
     obtain ⟨aFK, x_, z_, A_⟩ := zf4 lJ.out
     go_wp2_with (first | ((with_reducible refine zg 27 rfl ?_); refine kZ (some 60) Try.func27 #[.pointer (some ⟨g, 0, none⟩), .string (⟨#[59]⟩ : ByteArray)] ?_; refine (dI.calls g aK (wrap64 (t188 + 1)) t189 t190 t191 (⟨#[59]⟩ : ByteArray) t199 t200 t201 t202 w0 _ SL SN A57.out).mono ?_; rintro e w62 ⟨rfl, hi, hb, hk⟩; refine ⟨_, rfl, ?_⟩; replace kX := nE hk (zF2 (Vp kX.out sO.out) tY.out) sO; replace lJ := za (aU.blk hk (g' := zA) (o := .cells #[.string t168, .string t178, .int .i64 (wrap64 (-t198)), .int .i64 t163] 49 (0, 0)) (aER (Vp lJ.out sP.out)) sP.out (by simp)); replace vZ := nE hk (zF2 (Vp vZ.out Gb.out) sD.out) Gb; replace HK := sN SQ hk; replace HB := za (hb); replace HI0 := za (hi); (try clear hb hk hi); obtain ⟨aFL, aFM, aFN, aFO⟩ := zc4 lJ.out; obtain ⟨aFP, aFQ, aFR, aFS⟩ := zf4 lJ.out; have aRD := rY.out; have aRE := vF.out; have aKx := sO.out; have aKy := Mc.out; obtain ⟨aFT, aFU, aFV, aFW⟩ := zc4 kX.out; obtain ⟨aFX, aFY, aFZ⟩ := Xk kX.out; have aF0 := aD kX.out 3))
     refine bodyPost_ret (results_cell_row rfl _ _ vY 49 #[.string t168, .string t178, .int .i64 (wrap64 (-t198)), .int .i64 t163] (0, 0) _ rfl (zP4 kX.out) Try.underlying49 rfl dU) rfl ?_
     exact ⟨jR, SL, SN, SQ⟩
    ·
     replace H := jT H
     obtain ⟨⟨t203, t204, t205, t206⟩, A67, H⟩ := H
     (try dsimp only at H)
     simp only [Option.some.injEq, Prod.mk.injEq] at H
     obtain ⟨rfl, rfl, rfl, rfl, rfl, rfl, rfl, rfl⟩ := H
     go_wp2_with (first | ((with_reducible refine zg 27 rfl ?_); refine kZ (some 60) Try.func27 #[.pointer (some ⟨g, 0, none⟩), .string (⟨#[59]⟩ : ByteArray)] ?_; refine (dI.calls g aK (wrap64 (t188 + 1)) t189 t190 t191 (⟨#[59]⟩ : ByteArray) t203 t204 t205 t206 w0 _ SL SN A67.out).mono ?_; rintro e w68 ⟨rfl, hi, hb, hk⟩; refine ⟨_, rfl, ?_⟩; replace kX := nE hk (Vp (Vp kX.out sO.out) tY.out) sO; replace lJ := za (aU.blk hk (g' := zA) (o := .cells #[.string t168, .string t178, .int .i64 t198, .int .i64 t163] 49 (0, 0)) (aPQ (Vp lJ.out sP.out)) sP.out (by simp)); replace vZ := nE hk (Vp (Vp vZ.out Gb.out) sD.out) Gb; replace HK := sN SQ hk; replace HB := za (hb); replace HI0 := za (hi); (try clear hb hk hi); have aRF := Ee.out; have aRG := tY.out; have aRH := rZ.out; have aRI := sD.out; have aRJ := sP.out; have aRK := Fy.out; obtain ⟨aF1, aF2, aF3, aF4⟩ := zc4 lJ.out; obtain ⟨aF5, aF6, aF7, aF8⟩ := zf4 lJ.out; have aRL := rY.out; have aRM := vF.out; have bOe := sO.out; have bOf := Mc.out; obtain ⟨bBL, bBM, bBN, bBO⟩ := zc4 kX.out; obtain ⟨bBP, bBQ, bBR⟩ := Xk kX.out; have bBS := aD kX.out 3))
     refine bodyPost_ret (results_cell_row rfl _ _ vY 49 #[.string t168, .string t178, .int .i64 t198, .int .i64 t163] (0, 0) _ rfl (zP4 kX.out) Try.underlying49 rfl dU) rfl ?_
     exact ⟨jR, SL, SN, SQ⟩
def gW.j0 : Nat → ByteArray → Bool → List (iJ) → Int → Int → Int → Int → Option (Int × Int × Int × Int)
 | 0, _, _, _, _, _, _, _ => none
 | k + 1, x1, x13, x1000, jK, kE, jE, kF => if x13 = true then ((jP.f x1000 jK kE jE kF 12).bind fun B_ => ((dI.f x1000 B_.1 B_.2.1 B_.2.2.1 B_.2.2.2 x1).bind fun C_ => (some (C_.1, wrap64 (C_.2.1 + 1), C_.2.2.1, C_.2.2.2)))) else ((dI.f x1000 jK kE jE kF x1).bind fun D_ => (some (D_.1, wrap64 (D_.2.1 + 1), D_.2.2.1, D_.2.2.2)))
def gW.f (k : Nat) (aK : List (iJ)) (aX : Int) (bM : Int) (bN : Int) (bQ : Int) (a1 : ByteArray) : Option (Int × Int × Int × Int) := (nN.f aK aX bM bN bQ a1).bind fun uS => (if uS.1 = true then (gW.j0 k a1 (decide (uS.2.2.1 ≥ 40)) aK uS.2.1 uS.2.2.1 uS.2.2.2.1 uS.2.2.2.2) else (gW.j0 k a1 false aK uS.2.1 uS.2.2.1 uS.2.2.2.1 uS.2.2.2.2))
theorem gW.fT : ∀ k, (∀ y0 y1 y2 y3 y4 y5 y6, bV (gW.j0 k y0 y1 y2 y3 y4 y5 y6) (gW.j0 (k + 1) y0 y1 y2 y3 y4 y5 y6))
 | 0 => fun _ _ _ _ _ _ _ r h => by simp [gW.j0] at h
 | k + 1 => by
  have nV := gW.fT k
  ·
   intro y0 y1 y2 y3 y4 y5 y6
   unfold gW.j0
   repeat' with_reducible first | apply nV | exact bV.refl _ | exact bV.none _ | refine bV.ite ?_ ?_ | refine bV.bind ?_ (fun _ => ?_)
theorem gW.mono : ∀ a0 a1 a2 a3 a4 a5 k, bV (gW.f k a0 a1 a2 a3 a4 a5) (gW.f (k + 1) a0 a1 a2 a3 a4 a5) := by
 intro a0 a1 a2 a3 a4 a5 k
 have nV := gW.fT k
 unfold gW.f
 repeat' with_reducible first | apply nV | exact bV.refl _ | exact bV.none _ | refine bV.ite ?_ ?_ | refine bV.bind ?_ (fun _ => ?_)
theorem gW.calls (k : Nat) (g : Nat) (aK : List (iJ)) (aX : Int) (bM : Int) (bN : Int) (bQ : Int) (a1 : ByteArray) (r1 : Int) (r2 : Int) (r3 : Int) (r4 : Int) (w0 w : World) (hI : aH w0 w g aK aX bM bN bQ) (hB : Below w0.heap.size w0 w) (h : gW.f k aK aX bM bN bQ a1 = some (r1, r2, r3, r4)) :
  Calls Try.prog 43 #[.pointer (some ⟨g, 0, none⟩), .string a1] w fun e w' => e = .returned (.tuple #[]) ∧ aH w0 w' g aK r1 r2 r3 r4 ∧ Below w0.heap.size w0 w' ∧ aU w w' g none := by
 have HI0 := za hI
 have HK := za (aU.refl w g none)
 have HL := za hB.size
 clear hI
 have HW0 := za hB.size
 have HB := za hB
 clear hB
 have H : ((nN.f aK aX bM bN bQ a1).bind fun uS => (if uS.1 = true then (gW.j0 k a1 (decide (uS.2.2.1 ≥ 40)) aK uS.2.1 uS.2.2.1 uS.2.2.2.1 uS.2.2.2.2) else (gW.j0 k a1 false aK uS.2.1 uS.2.2.1 uS.2.2.2.1 uS.2.2.2.2))) = some (r1, r2, r3, r4) := h
 clear h
 have Zk := za H
 clear H
 go_enter Try.func43, Try.ntmps43
 go_upto_region 0 with (fail)
 go_cut [13] (fun v13 wc => ∃ (kq : Nat) (aBe : Bool) (iM : Int) (lM : Int) (lN : Int) (lQ : Int), v13 = .bool aBe ∧ aG (gW.j0 kq a1 aBe aK iM lM lN lQ = some (r1, r2, r3, r4)) ∧ aG (kq ≤ k) ∧ aG (aH w0 wc g aK iM lM lN lQ) ∧ aG (aU w wc g none) ∧ aG (Below w0.heap.size w0 wc))
 case first =>
  have H := Zk.out
  clear Zk
  replace H := jT H
  obtain ⟨⟨t207, t208, t209, t210, t211⟩, A4, H⟩ := H
  (try dsimp only at H)
  replace H := Bq H
  rcases H with ⟨rfl, H⟩ | ⟨rfl, H⟩
  ·
   have H' := za H
   clear H
   go_wp2_with (first | ((with_reducible refine zg 35 rfl ?_); refine kZ (some 6) Try.func35 #[.pointer (some ⟨g, 0, none⟩), .string a1] ?_; refine (nN.calls g aK aX bM bN bQ a1 true t208 t209 t210 t211 w0 _ mZ qJ A4.out).mono ?_; rintro e w6 ⟨rfl, hi, hb, hk⟩; refine ⟨_, rfl, ?_⟩; replace HK := sN vN hk; replace HB := za (hb); replace HI0 := za (hi); (try clear hb hk hi); obtain ⟨CY, Wi, lT, CZ, Wj⟩ := HI0.out; have Wl := fI lT; have Wm := fJ lT; have Wn := fK lT; have DC := fM lT; have DD := fG lT; have Wo := aD lT 1; have Wp := aD lT 2; have DF := aD lT 3; have DI := aD lT 4; clear lT CZ))
   go_meet
   case rel => exact ⟨_, (decide (t209 ≥ 40)), (t208), (t209), (t210), (t211), jG, H', ⟨Cm⟩, ⟨mZ⟩, ⟨vN⟩, ⟨qJ⟩⟩
  ·
   have H' := za H
   clear H
   go_wp2_with (first | ((with_reducible refine zg 35 rfl ?_); refine kZ (some 6) Try.func35 #[.pointer (some ⟨g, 0, none⟩), .string a1] ?_; refine (nN.calls g aK aX bM bN bQ a1 false t208 t209 t210 t211 w0 _ mZ qJ A4.out).mono ?_; rintro e w8 ⟨rfl, hi, hb, hk⟩; refine ⟨_, rfl, ?_⟩; replace HK := sN vN hk; replace HB := za (hb); replace HI0 := za (hi)))
   go_meet
   case rel => exact ⟨_, (false), (t208), (t209), (t210), (t211), jG, H', ⟨Cm⟩, ⟨mZ⟩, ⟨vN⟩, ⟨qJ⟩⟩
 case rest =>
  clear Zk
  obtain ⟨kq, aBe, iM, lM, lN, lQ, rfl, HA, HJ2, HI0, HK, HB⟩ := hcut
  cases kq with
  | zero => exact absurd HA.out (by simp [gW.j0])
  | succ kj2 =>
   have H := HA.out
   clear HA
   simp only [gW.j0] at H
   replace H := Bq H
   rcases H with ⟨rfl, H⟩ | ⟨rfl, H⟩
   ·
    replace H := jT H
    obtain ⟨⟨t212, t213, t214, t215⟩, qR, H⟩ := H
    (try dsimp only at H)
    replace H := jT H
    obtain ⟨⟨t216, t217, t218, t219⟩, sM, H⟩ := H
    (try dsimp only at H)
    simp only [Option.some.injEq, Prod.mk.injEq] at H
    obtain ⟨rfl, rfl, rfl, rfl⟩ := H
    go_wp2_with (first | ((with_reducible refine zg 33 rfl ?_); refine kZ (some 15) Try.func33 #[.pointer (some ⟨g, 0, none⟩), .int .i64 12] ?_; refine (jP.calls g aK iM lM lN lQ 12 t212 t213 t214 t215 w0 _ mZ qJ qR.out).mono ?_; rintro e Mk ⟨rfl, hi, hb, hk⟩; refine ⟨_, rfl, ?_⟩; replace HK := sN vN hk; replace HB := za (hb); replace HI0 := za (hi)) | ((with_reducible refine zg 27 rfl ?_); refine kZ (some 18) Try.func27 #[.pointer (some ⟨g, 0, none⟩), .string a1] ?_; refine (dI.calls g aK t212 t213 t214 t215 a1 t216 t217 t218 t219 w0 _ mZ qJ sM.out).mono ?_; rintro e ZW ⟨rfl, hi, hb, hk⟩; refine ⟨_, rfl, ?_⟩; replace HK := sN vN hk; replace HB := za (hb); replace HI0 := za (hi); (try clear hb hk hi); obtain ⟨aEW, aEX, uO, aAL, aEY⟩ := HI0.out; have U9 := fI uO; have V3 := fJ uO; have V4 := fK uO; have aEZ := fM uO; have aE0 := fG uO; have V5 := aD uO 1; have V6 := aD uO 2; have aE1 := aD uO 3; have aE2 := aD uO 4; clear uO aAL))
    first | go_end0 | ((try simp only [Exit.inBlock, Exit.then]); refine bodyPost_ret (results_none rfl _ _ _) rfl ?_)
    exact ⟨jR, mZ, qJ, vN⟩
   ·
    replace H := jT H
    obtain ⟨⟨t220, t221, t222, t223⟩, A15, H⟩ := H
    (try dsimp only at H)
    simp only [Option.some.injEq, Prod.mk.injEq] at H
    obtain ⟨rfl, rfl, rfl, rfl⟩ := H
    go_wp2_with (first | ((with_reducible refine zg 27 rfl ?_); refine kZ (some 18) Try.func27 #[.pointer (some ⟨g, 0, none⟩), .string a1] ?_; refine (dI.calls g aK iM lM lN lQ a1 t220 t221 t222 t223 w0 _ mZ qJ A15.out).mono ?_; rintro e w16 ⟨rfl, hi, hb, hk⟩; refine ⟨_, rfl, ?_⟩; replace HK := sN vN hk; replace HB := za (hb); replace HI0 := za (hi); (try clear hb hk hi); obtain ⟨aFp, aFq, uR, aA4, aFr⟩ := HI0.out; have OI := fI uR; have OJ := fJ uR; have OL := fK uR; have OM := fM uR; have Z7 := fG uR; have OO := aD uR 1; have OP := aD uR 2; have OQ := aD uR 3; have Z8 := aD uR 4; clear uR aA4))
    first | go_end0 | ((try simp only [Exit.inBlock, Exit.then]); refine bodyPost_ret (results_none rfl _ _ _) rfl ?_)
    exact ⟨jR, mZ, qJ, vN⟩
def rX.f (aK : List (iJ)) (aX : Int) (bM : Int) (bN : Int) (bQ : Int) : Option (ByteArray × ByteArray × Int × Int × Int × Int) := (gG.f aK aX bM bN bQ).bind fun Eg => ((eX.f aK Eg.2.1 Eg.2.2.1 Eg.2.2.2.1 Eg.2.2.2.2 (⟨#[46]⟩ : ByteArray)).bind fun wB => (if wB.1 = true then ((gG.f aK wB.2.1 wB.2.2.1 wB.2.2.2.1 wB.2.2.2.2).bind fun Ib => (some (Eg.1, Ib.1, Ib.2.1, Ib.2.2.1, Ib.2.2.2.1, Ib.2.2.2.2))) else (some ((⟨#[]⟩ : ByteArray), Eg.1, wB.2.1, wB.2.2.1, wB.2.2.2.1, wB.2.2.2.2))))
theorem rX.calls (g : Nat) (aK : List (iJ)) (aX : Int) (bM : Int) (bN : Int) (bQ : Int) (r1 : ByteArray) (r2 : ByteArray) (r3 : Int) (r4 : Int) (r5 : Int) (r6 : Int) (w0 w : World) (hI : aH w0 w g aK aX bM bN bQ) (hB : Below w0.heap.size w0 w) (h : rX.f aK aX bM bN bQ = some (r1, r2, r3, r4, r5, r6)) :
  Calls Try.prog 48 #[.pointer (some ⟨g, 0, none⟩)] w fun e w' => e = .returned (.tuple #[.string r1, .string r2]) ∧ aH w0 w' g aK r3 r4 r5 r6 ∧ Below w0.heap.size w0 w' ∧ aU w w' g none := by
 have HI0 := za hI
 have HK := za (aU.refl w g none)
 have HL := za hB.size
 clear hI
 have HW0 := za hB.size
 have HB := za hB
 clear hB
 have H : ((gG.f aK aX bM bN bQ).bind fun Eg => ((eX.f aK Eg.2.1 Eg.2.2.1 Eg.2.2.2.1 Eg.2.2.2.2 (⟨#[46]⟩ : ByteArray)).bind fun wB => (if wB.1 = true then ((gG.f aK wB.2.1 wB.2.2.1 wB.2.2.2.1 wB.2.2.2.2).bind fun Ib => (some (Eg.1, Ib.1, Ib.2.1, Ib.2.2.1, Ib.2.2.2.1, Ib.2.2.2.2))) else (some ((⟨#[]⟩ : ByteArray), Eg.1, wB.2.1, wB.2.2.1, wB.2.2.2.1, wB.2.2.2.2))))) = some (r1, r2, r3, r4, r5, r6) := h
 clear h
 replace H := jT H
 obtain ⟨⟨t224, t225, t226, t227, t228⟩, A2, H⟩ := H
 (try dsimp only at H)
 replace H := jT H
 obtain ⟨⟨t229, t230, t231, t232, t233⟩, A3, H⟩ := H
 (try dsimp only at H)
 have JD := za H
 clear H
 go_enter Try.func48, Try.ntmps48
 go_upto_if 8 with (first | ((with_reducible refine zg 29 rfl ?_); refine kZ (some 6) Try.func29 #[.pointer (some ⟨g, 0, none⟩)] ?_; refine (gG.calls g aK aX bM bN bQ t224 t225 t226 t227 t228 w0 _ mZ qJ A2.out).mono ?_; rintro e w5 ⟨rfl, hi, hb, hk⟩; refine ⟨_, rfl, ?_⟩; replace HK := sN vN hk; replace HB := za (hb); replace HI0 := za (hi)) | ((with_reducible refine zg 30 rfl ?_); refine kZ (some 8) Try.func30 #[.pointer (some ⟨g, 0, none⟩), .string (⟨#[46]⟩ : ByteArray)] ?_; refine (eX.calls g aK t225 t226 t227 t228 (⟨#[46]⟩ : ByteArray) t229 t230 t231 t232 t233 w0 _ mZ qJ A3.out).mono ?_; rintro e w6 ⟨rfl, hi, hb, hk⟩; refine ⟨_, rfl, ?_⟩; replace HK := sN vN hk; replace HB := za (hb); replace HI0 := za (hi)))
 have H := JD.out
 clear JD
 replace H := Bq H
 rcases H with ⟨rfl, H⟩ | ⟨rfl, H⟩
 ·
  replace H := jT H
  obtain ⟨⟨t234, t235, t236, t237, t238⟩, A8, H⟩ := H
  (try dsimp only at H)
  simp only [Option.some.injEq, Prod.mk.injEq] at H
  obtain ⟨rfl, rfl, rfl, rfl, rfl, rfl⟩ := H
  go_wp2_with (first | ((with_reducible refine zg 29 rfl ?_); refine kZ (some 11) Try.func29 #[.pointer (some ⟨g, 0, none⟩)] ?_; refine (gG.calls g aK t230 t231 t232 t233 t234 t235 t236 t237 t238 w0 _ mZ qJ A8.out).mono ?_; rintro e w9 ⟨rfl, hi, hb, hk⟩; refine ⟨_, rfl, ?_⟩; replace HK := sN vN hk; replace HB := za (hb); replace HI0 := za (hi)))
  go_ret2
  exact ⟨jR, mZ, qJ, vN⟩
 ·
  simp only [Option.some.injEq, Prod.mk.injEq] at H
  obtain ⟨rfl, rfl, rfl, rfl, rfl, rfl⟩ := H
  go_wp2
  go_ret2
  exact ⟨jR, mZ, qJ, vN⟩
def wC.f (l0 : List (dP)) (a1 : Int) (a2 : Int) (a3 : Int) : Option ((List (dP))) := if l0.length < 1954687338268 then (some (l0 ++ [(⟨a2, 0, (⟨#[]⟩ : ByteArray), (⟨#[]⟩ : ByteArray), a1, wrap64 ((l0.length : Int) - 1), a3⟩ : dP)])) else (none)
theorem wC.calls (P0_ : Nat → Prop) (dK : Value) (l0 : List (dP)) (a1 : Int) (a2 : Int) (a3 : Int) (r : List (dP)) (w0 w : World) (hB : Below w0.heap.size w0 w) (ho0 : Kd.R gU 112 w w0.heap.size P0_ dK l0) (h : wC.f l0 a1 a2 a3 = some r) :
  Calls Try.prog 57 #[dK, .int .i64 a1, .int .i64 a2, .int .i64 a3] w fun e w' => ∃ lZ : Value, e = .returned (lZ) ∧ Kd.R gU 112 w' w0.heap.size (fun k_ => (P0_ k_ ∨ w.heap.size ≤ k_)) lZ r ∧ Below w0.heap.size w0 w' ∧ Kept w w' (fun k_ => P0_ k_) := by
 have aRN := Try.underlying112
 have HO0 := za (show Kd.R gU 112 w w0.heap.size (fun k_ => (P0_ k_ ∨ w.heap.size ≤ k_)) dK l0 from Kd.aQ ho0 (fun k_ hk => (.inl hk)))
 have HK := za (Kept.refl w (fun k_ => P0_ k_))
 have HW0 := za hB.size
 have HB := za hB
 clear hB
 have H : (if l0.length < 1954687338268 then (some (l0 ++ [(⟨a2, 0, (⟨#[]⟩ : ByteArray), (⟨#[]⟩ : ByteArray), a1, wrap64 ((l0.length : Int) - 1), a3⟩ : dP)])) else (none)) = some r := h
 clear h
 revert H; refine IP fun bI5 H => ?_
 obtain ⟨bI6, TU⟩ : ∃ y_ : List (dP), y_ = (l0 ++ [(⟨a2, 0, (⟨#[]⟩ : ByteArray), (⟨#[]⟩ : ByteArray), a1, wrap64 ((l0.length : Int) - 1), a3⟩ : dP)]) := ⟨_, rfl⟩
 replace H : (some bI6) = some r := by first | (rw [TU]; with_reducible exact H) | (have lS := (Option.bind_some _ _).symm.trans H; rw [TU]; with_reducible exact lS) | (have lS := (Option.bind_some _ _).symm.trans H; with_reducible exact lS) | with_reducible exact H | (rw [TU]; exact H) | exact H
 have aRO := za TU
 clear TU
 obtain rfl := Option.some.inj H
 obtain ⟨Ao6, co6, eo6⟩ := Kd.bJ HO0.out
 subst eo6
 go_enter Try.func57, Try.ntmps57
 go_wp2_with (first | ((with_reducible refine iK (b := .append) (xs := #[.tmp 9, .tmp 17]) rfl ?_); at_builtin; refine Kd.nP gU (w0 := w0) w0.heap.size rfl (.tmp 9) (.tmp 17) 91 112 (.agg #[(.int .i64 0), (.int .i64 0), (.string ⟨#[]⟩), (.string ⟨#[]⟩), (.int .i64 0), (.int .i64 0), (.int .i64 0)]) 72 rfl Try.underlying91 Qe rfl (by decide) (by omega) (.slice Ao6 l0.length co6) l0 (⟨a2, 0, (⟨#[]⟩ : ByteArray), (⟨#[]⟩ : ByteArray), a1, wrap64 ((l0.length : Int) - 1), a3⟩ : dP) [.int .i64 a2, .int .i64 0, .string (⟨#[]⟩ : ByteArray), .string (⟨#[]⟩ : ByteArray), .int .i64 a1, .int .i64 (wrap64 ((l0.length : Int) - 1)), .int .i64 a3] (fun k_ => (P0_ k_ ∨ w.heap.size ≤ k_)) (fun _ => False) rfl rfl ?aP (fun _ hk => hk.elim) ?aF ?aO ?aB ?aS ?aL ?_; (case aP => exact Ht _ _ _ (⟨a2, 0, (⟨#[]⟩ : ByteArray), (⟨#[]⟩ : ByteArray), a1, wrap64 ((l0.length : Int) - 1), a3⟩ : dP)); (case aB => exact kU); (case aF => exact (fun k_ hk => (.inr (Nat.le_trans (by first | exact HK.out.1 | exact (show Kept w _ (fun k_ => P0_ k_) from aAk).1) hk)))); (case aO => exact (zr HO0.out)); (case aS => exact (aT kU)); (case aL => have := bI5.out; omega); intro bPM w7 ho hb hg hat; rw [← aRO.out] at ho; replace HB := za (hb); replace HK := za (Kept.mV (S := (fun k_ => P0_ k_)) hg aAk (fun k_ e_ => (HO0.out.1 k_ e_))); have aRP := za (ho); clear HO0; clear ho hb hg hat))
 go_ret
 exact ⟨_, jR, by (with_reducible repeat (first | apply Kd.bC | apply Kd.bF | apply Kd.bP)); exact aRP.out, kU, aAk⟩
end Go.Proofs.Ytiaeldibklcobaa.eZ
