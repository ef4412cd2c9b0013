import Derived.Test.YtiaeldibklcobaaZRPx4
namespace Go.Proofs.Ytiaeldibklcobaa.eZ
open Go.RowKit Go.Proofs.YtiaeldibklcobaaW.bL Go.Proofs.YtiaeldibklcobaaW.fV Go.Proofs.YtiaeldibklcobaaW.iZ
set_option maxHeartbeats 8000000
set_option maxRecDepth 100000
attribute [local go_sem] kL kM lX lY jC jD kN kP
set_option linter.unusedVariables false
set_option linter.unusedSimpArgs false
def gG.f (aK : List (iJ)) (aX : Int) (bM : Int) (bN : Int) (bQ : Int) : Option (ByteArray × Int × Int × Int × Int) := if 0 ≤ aX then (if aX < (aK.length : Int) then (if bN = 0 then (if ((cK aK aX).f0) = 1 then (some ((cK aK aX).f1, wrap64 (aX + 1), bM, bN, bQ)) else ((jP.f aK aX bM bN bQ 11).bind fun Qu => (some ((⟨#[]⟩ : ByteArray), Qu.1, Qu.2.1, Qu.2.2.1, Qu.2.2.2)))) else ((jP.f aK aX bM bN bQ 11).bind fun Qv => (some ((⟨#[]⟩ : ByteArray), Qv.1, Qv.2.1, Qv.2.2.1, Qv.2.2.2)))) else (none)) else (none)
def gG.T1 : Bool × List (List Nat × List Nat) := (true, [([], []), ([0], [0]), ([1], [1]), ([2], [2]), ([], []), ([4], [4]), ([5], [5]), ([6], [6]), ([3, 7], [3, 7]), ([8], [8]), ([], []), ([10, 9, 0, 1, 2, 3, 4, 5, 6, 7, 8, 9, 10], [9, 10])])
def gG.B1 : List Nat := [0, 1, 3, 7, 0, 16, 48, 112, 255, 511, 0, 2047]
theorem gG.aAK : oL .any (opsOf Try.f29 1) = gG.T1 := by kernel_rfl
theorem gG.TS : kH gG.T1.2 gG.B1 = true := by kernel_rfl
theorem gG.calls (g : Nat) (aK : List (iJ)) (aX : Int) (bM : Int) (bN : Int) (bQ : Int) (r1 : ByteArray) (r2 : Int) (r3 : Int) (r4 : Int) (r5 : Int) (w0 w : World) (hI : aH w0 w g aK aX bM bN bQ) (hB : Below w0.heap.size w0 w) (h : gG.f aK aX bM bN bQ = some (r1, r2, r3, r4, r5)) :
  Calls Try.prog 29 #[.pointer (some ⟨g, 0, none⟩)] w fun e w' => e = .returned (.string r1) ∧ aH w0 w' g aK r2 r3 r4 r5 ∧ Below w0.heap.size w0 w' ∧ aU w w' g none := by
 have aES := Try.underlying81
 have HI0 := za hI
 have HK := za (aU.refl w g none)
 have HL := za hB.size
 clear hI
 have HW0 := za hB.size
 have HB := za hB
 clear hB
 have H : (if 0 ≤ aX then (if aX < (aK.length : Int) then (if bN = 0 then (if ((cK aK aX).f0) = 1 then (some ((cK aK aX).f1, wrap64 (aX + 1), bM, bN, bQ)) else ((jP.f aK aX bM bN bQ 11).bind fun Qu => (some ((⟨#[]⟩ : ByteArray), Qu.1, Qu.2.1, Qu.2.2.1, Qu.2.2.2)))) else ((jP.f aK aX bM bN bQ 11).bind fun Qv => (some ((⟨#[]⟩ : ByteArray), Qv.1, Qv.2.1, Qv.2.2.1, Qv.2.2.2)))) else (none)) else (none)) = some (r1, r2, r3, r4, r5) := h
 clear h
 revert H; refine zd fun c2 H => ?_
 have Oj : decide (0 ≤ aX) = true := decide_eq_true c2
 clear c2
 revert H; refine zd fun c3 H => ?_
 have Bt : decide (aX < (aK.length : Int)) = true := decide_eq_true c3
 clear c3
 have JD := za H
 clear H
 go_enter Try.func29, Try.ntmps29
 try go_wp2
 replace HI0 := za (aH.drew HI0.out)
 replace HK := za (iY HK.out)
 replace HB := za (bK HB.out)
 obtain ⟨bIZ, aLP, qw, bI0, aLQ⟩ := HI0.out
 have aKm := fI qw
 have aKn := fJ qw
 have aKo := fK qw
 have aKp := fM qw
 have aKq := fG qw
 clear qw bI0
 have aLR : 0 ≤ (aX : Int) := of_decide_eq_true iL
 have aLS : aX < (aK.length : Int) := of_decide_eq_true iL
 obtain ⟨KO, e152, Qw, Qx, Qy⟩ := Hr aLQ aX aLR aLS
 have bAs := Qy
 have bAt := Qx
 have bAu := Qw
 cases e152
 replace Qw := bR HB.out Qw
 replace Qx := bR HB.out Qx
 replace Qy := bR HB.out Qy
 replace aLR := eq_true aLR
 replace aLS := eq_true aLS
 refine lW (n := 12) (S := fun w' => w'.cell? ⟨g, 0, none⟩ = some (.slice (some KO) aK.length aLP) ∧ w'.cell? ⟨g, 1, none⟩ = some (.int .i64 aX) ∧ w'.cell? ⟨g, 2, none⟩ = some (.int .i64 bM) ∧ w'.cell? ⟨g, 3, none⟩ = some (.int .i64 bN) ∧ w'.cell? ⟨g, 4, none⟩ = some (.int .i64 bQ) ∧ w'.cell? (KO.add ((aX).toNat * 3)) = some (.int .i64 ((cK aK aX).f0)) ∧ w'.cell? ⟨(KO.add ((aX).toNat * 3)).block, (KO.add ((aX).toNat * 3)).off + 1, none⟩ = some (.string ((cK aK aX).f1)) ∧ w'.cell? ⟨(KO.add ((aX).toNat * 3)).block, (KO.add ((aX).toNat * 3)).off + 2, none⟩ = some (.int .i64 ((cK aK aX).f2))) (ds := [11]) #[false, false, false, false, false, false, false, false, false, false, false, false] dU rfl rfl ⟨aKm, aKn, aKo, aKp, aKq, Qw, Qx, Qy⟩ (fun hHeld => ?_); refine gX gG.aAK gG.TS (fun dB qB => ?_)
 generalize w.drew = w5 at HI0 HK HB Qw Qx Qy aKm aKn aKo aKp aKq hHeld ⊢
 refine gV 0 (some 4) dB ?_
 refine gV 1 (some 5) dB ?_
 refine gV 2 (some 6) dB ?_
 refine gV 4 (some 8) dB ?_
 refine gV 5 (some 9) dB ?_
 refine gV 6 (some 10) dB ?_
 refine vP 3 (some 7) dB qB hHeld ?_
 refine vP 7 (some 11) dB qB hHeld ?_
 refine gV 8 (some 12) dB ?_
 refine vP 9 (some 13) dB qB hHeld ?_
 refine Cn 10 (some 3) dB (fun K hK => ?_)
 refine uM ?hg (N := 3) ?hd (cs := #[.int .i64 0, .string (⟨#[]⟩ : ByteArray), .int .i64 0]) (t := 81) ?hr ?_; (case hd => rfl); (case hg => rfl); (case hr => exact jA)
 intro Xo hg w7 gP hb
 have Om := zH8 hb hHeld
 replace HB := za (aM qJ hb)
 have Cq := za (gP)
 have aPL := za ((by rw [hg]; exact (eG (w := w) (g := g) (row := none) vN) : w.heap.size ≤ Xo))
 have aPK := za ((Nat.le_trans HW0.out (by rw [hg]; exact (eG (w := w) (g := g) (row := none) vN) : w.heap.size ≤ Xo) : w0.heap.size ≤ Xo))
 replace HK := za (aU.trans vN (aU.of_below hb g none) (.inl rfl))
 have NM := za ((by rw [hg]; exact Nat.ne_of_lt (aH.lt (show aH w0 _ g aK aX bM bN bQ from mZ)) : g ≠ Xo))
 have Zl := za ((by rw [hg]; exact Nat.ne_of_gt (aH.lt (show aH w0 _ g aK aX bM bN bQ from mZ)) : Xo ≠ g))
 replace HI0 := za (aH.below mZ hb)
 clear hb gP hg
 refine hK.out _ _ Om (fun hHeld => ?_)
 clear hK K
 refine jS (a' := ?_) ?_ ?_
 rotate_left
 ·
  show Act.put _ (some 3) _ = _
  simp only [Act.put, List.setIfInBounds_toArray, List.set_cons_zero, List.set_cons_succ, dO, dQ]
  rfl
 refine Mo (i := 11) (N := none) #[true, true, true, true, true, true, true, true, true, true, true, true] rfl rfl (Ad dB.out dU) (by decide) (fun K hK => ?_)
 have JF : w7.cell? ⟨Xo, 0, none⟩ = some (.int .i64 0) := (aA Cq.out 0).trans rfl
 have bPJ := aD Cq.out 0
 have hs9 : w7.cell? ⟨Xo, 1, none⟩ = some (.string (⟨#[]⟩ : ByteArray)) := (aA Cq.out 1).trans rfl
 have bIM := aD Cq.out 1
 have aEV : w7.cell? ⟨Xo, 2, none⟩ = some (.int .i64 0) := (aA Cq.out 2).trans rfl
 have aRd := aD Cq.out 2
 refine Cb (w1 := ?_) (by rfl) rfl ?_ ?_
 rotate_left
 ·
  go_simp
  rfl
 refine hK.out _ _ ?_
 clear hK K
 refine pO (jX dB.out dU) ?_
 go_upto_region 2 with (fail)
 have H := JD.out
 clear JD
 revert H; refine oW (fun Co Xm H => ?_) (fun c11 Co Xm H => ?_)
 ·
  (first | rw [Co] | (simp only [dO, dQ]; rw [Co]) | skip)
  have aRk := za H
  clear H
  obtain ⟨bAv, bAw, Ms, aRl, bAx⟩ := HI0.out
  have NY := fI Ms
  have NZ := fJ Ms
  have OA := fK Ms
  have OB := fM Ms
  have OC := fG Ms
  have OD := aD Ms 1
  have OE := aD Ms 2
  have OG := aD Ms 3
  have OH := aD Ms 4
  clear Ms aRl
  have bNU := Zl.out
  have bNV := NM.out
  obtain ⟨aFj, aFk, aFl⟩ := Zi Cq.out
  obtain ⟨aFm, aFn, aFo⟩ := Xk Cq.out
  go_upto_if 23 with (fail)
  have H := aRk.out
  clear aRk
  revert H; refine oW (fun yY TF H => ?_) (fun c16 yY TF H => ?_)
  ·
   (first | rw [yY] | (simp only [dO, dQ]; rw [yY]) | skip)
   simp only [Option.some.injEq, Prod.mk.injEq] at H
   obtain ⟨rfl, rfl, rfl, rfl, rfl⟩ := H
   obtain ⟨aFp, aFq, uR, aA4, aFr⟩ := HI0.out
   have OI := fI uR
   have OJ := fJ uR
   have OL := fK uR
   have OM := fM uR
   have Z7 := fG uR
   have OO := aD uR 1
   have OP := aD uR 2
   have OQ := aD uR 3
   have Z8 := aD uR 4
   clear uR aA4
   have bNW := Zl.out
   have bNX := NM.out
   obtain ⟨bAy, bAz, bAA⟩ := Zi Cq.out
   obtain ⟨bAB, bAC, bAD⟩ := Xk Cq.out
   go_wp2
   go_ret
   exact ⟨jR, zu, zz, o6⟩
  ·
   (first | rw [yY] | (simp only [dO, dQ]; rw [yY]) | skip)
   replace H := jT H
   obtain ⟨⟨t154, t155, t156, t157⟩, A20, H⟩ := H
   (try dsimp only at H)
   simp only [Option.some.injEq, Prod.mk.injEq] at H
   obtain ⟨rfl, rfl, rfl, rfl, rfl⟩ := H
   go_wp2_with (first | ((with_reducible refine zg 33 rfl ?_); refine kZ (some 25) Try.func33 #[.pointer (some ⟨g, 0, none⟩), .int .i64 11] ?_; refine (jP.calls g aK aX bM bN bQ 11 t154 t155 t156 t157 w0 _ zu zz A20.out).mono ?_; rintro e w21 ⟨rfl, hi, hb, hk⟩; refine ⟨_, rfl, ?_⟩; replace Cq := nE hk (zP3 Cq.out) Zl; replace HK := sN o6 hk; replace HB := za (hb); replace HI0 := za (hi)))
   go_ret
   exact ⟨jR, zu, zz, o6⟩
 ·
  (first | rw [Co] | (simp only [dO, dQ]; rw [Co]) | skip)
  replace H := jT H
  obtain ⟨⟨t158, t159, t160, t161⟩, qp, H⟩ := H
  (try dsimp only at H)
  simp only [Option.some.injEq, Prod.mk.injEq] at H
  obtain ⟨rfl, rfl, rfl, rfl, rfl⟩ := H
  obtain ⟨bAE, bAF, Mt, aRm, bAG⟩ := HI0.out
  have aFc := fI Mt
  have aFd := fJ Mt
  have aFe := fK Mt
  have bAH := fM Mt
  have bAI := fG Mt
  have aFf := aD Mt 1
  have aFg := aD Mt 2
  have bAJ := aD Mt 3
  have bAK := aD Mt 4
  clear Mt aRm
  go_wp2_with (first | ((with_reducible refine zg 33 rfl ?_); refine kZ (some 25) Try.func33 #[.pointer (some ⟨g, 0, none⟩), .int .i64 11] ?_; refine (jP.calls g aK aX bM bN bQ 11 t158 t159 t160 t161 w0 _ zu zz qp.out).mono ?_; rintro e w24 ⟨rfl, hi, hb, hk⟩; refine ⟨_, rfl, ?_⟩; replace Cq := nE hk (zP3 Cq.out) Zl; replace HK := sN o6 hk; replace HB := za (hb); replace HI0 := za (hi)))
  go_ret
  exact ⟨jR, zu, zz, o6⟩
def kS.l0 : Nat → ByteArray → Int → Int → Option (Int)
 | 0, _, _, _ => none
 | k + 1, x0, x3, x4 => if x4 < (x0.size : Int) then (if 0 ≤ x4 then (kS.l0 k x0 (wrap64 ((wrap64 (10 * x3)) + (((bt x0 x4) - 48) % 256))) (wrap64 (x4 + 1))) else (none)) else (some x3)
def kS.f (k : Nat) (a0 : ByteArray) : Option (Int) := kS.l0 k a0 0 0
theorem kS.fT : ∀ k, (∀ y0 y1 y2, bV (kS.l0 k y0 y1 y2) (kS.l0 (k + 1) y0 y1 y2))
 | 0 => fun _ _ _ r h => by simp [kS.l0] at h
 | k + 1 => by
  have nV := kS.fT k
  ·
   intro y0 y1 y2
   unfold kS.l0
   repeat' with_reducible first | apply nV | exact bV.refl _ | exact bV.none _ | refine bV.ite ?_ ?_ | refine bV.bind ?_ (fun _ => ?_)
theorem kS.mono : ∀ a0 k, bV (kS.f k a0) (kS.f (k + 1) a0) := by
 intro a0 k
 have nV := kS.fT k
 unfold kS.f
 repeat' with_reducible first | apply nV | exact bV.refl _ | exact bV.none _ | refine bV.ite ?_ ?_ | refine bV.bind ?_ (fun _ => ?_)
theorem kS.calls (k : Nat) (a0 : ByteArray) (r : Int) (w : World) (h : kS.f k a0 = some r) :
  Calls Try.prog 36 #[.string a0] w fun e w' => e = .returned (.int .i64 r) ∧ mP w w' := by
 have H : (kS.l0 k a0 0 0) = some r := h
 clear h
 have H' := za H
 clear H
 go_enter Try.func36, Try.ntmps36
 go_wp2
 go_loopg [3, 4] k (fun kq v3 v4 w' => ∃ (xU : Int) (dX : Int), v3 = .int .i64 xU ∧ v4 = .int .i64 dX ∧ aG (kS.l0 kq a0 xU dX = some r) ∧ aG (kq ≤ k) ∧ mP w w')
 case atStart => exact ⟨(0), (0), jG, jG, H', ⟨Nat.le_refl _⟩, jY⟩
 case round =>
  clear H'
  obtain ⟨xU, dX, rfl, rfl, HA, lH, ⟨m1, rfl⟩⟩ := hrel
  cases gk with
  | zero => exact absurd HA.out (by simp [kS.l0])
  | succ k1 =>
   have H := HA.out
   clear HA
   simp only [kS.l0] at H
   revert H; refine Dn (fun c2 H => ?_) (fun c2 H => ?_)
   ·
    have Oj := decide_eq_true c2
    clear c2
    revert H; refine yX fun Bt H => ?_
    have H' := za H
    clear H
    have p4 : 0 ≤ (dX : Int) := of_decide_eq_true iL
    have q4 : dX < (a0.size : Int) := of_decide_eq_true iL
    have hx4 := rP a0 dX
    replace p4 := eq_true p4
    replace q4 := eq_true q4
    go_wp2
    go_roundg k1
    case measure => have := lH.out; omega
    case rel => exact ⟨(wrap64 ((wrap64 (10 * xU)) + (((bt a0 dX) - 48) % 256))), (wrap64 (dX + 1)), jG, jG, H', ⟨by have := lH.out; omega⟩, jY⟩
   ·
    have Oj := decide_eq_false c2
    clear c2
    obtain rfl := Option.some.inj H
    go_wp2
    go_ret
    exact ⟨lF, jY⟩
end Go.Proofs.Ytiaeldibklcobaa.eZ
