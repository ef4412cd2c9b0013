import Derived.Test.YtiaeldibklcobaaZRPx1
namespace Go.Proofs.Ytiaeldibklcobaa.eZ
open Go.RowKit Go.Proofs.YtiaeldibklcobaaW.bL Go.Proofs.YtiaeldibklcobaaW.fV Go.Proofs.YtiaeldibklcobaaW.iZ
set_option maxHeartbeats 8000000
set_option maxRecDepth 100000
attribute [local go_sem] kL kM lX lY jC jD kN kP
set_option linter.unusedVariables false
set_option linter.unusedSimpArgs false
attribute [local go_sem high] aYu
def cO.l0 : Nat → List Int → Int → List Int → Int → Option (List Int)
 | 0, _, _, _, _ => none
 | k + 1, x0, x1, x5, x6 => if x6 < x1 then (if x6 < (x0.length : Int) then (if 0 ≤ x6 then (if x6 < (x5.length : Int) then (cO.l0 k x0 x1 (x5.set (x6 : Int).toNat (rd x0 x6)) (wrap64 (x6 + 1))) else (none)) else (none)) else (some x5)) else (some x5)
def cO.f (k : Nat) (l0 : List Int) (a1 : Int) : Option (List Int) := if 0 ≤ a1 then (if (a1 : Int).toNat ≤ 35184372088832 then (cO.l0 k l0 a1 (List.replicate (a1 : Int).toNat 0) 0) else (none)) else (none)
theorem cO.fT : ∀ k, (∀ y0 y1 y2 y3, bV (cO.l0 k y0 y1 y2 y3) (cO.l0 (k + 1) y0 y1 y2 y3))
 | 0 => fun _ _ _ _ r h => by simp [cO.l0] at h
 | k + 1 => by
  have nV := cO.fT k
  ·
   intro y0 y1 y2 y3
   unfold cO.l0
   repeat' with_reducible first | apply nV | exact bV.refl _ | exact bV.none _ | refine bV.ite ?_ ?_ | refine bV.bind ?_ (fun _ => ?_)
theorem cO.mono : ∀ a0 a1 k, bV (cO.f k a0 a1) (cO.f (k + 1) a0 a1) := by
 intro a0 a1 k
 have nV := cO.fT k
 unfold cO.f
 repeat' with_reducible first | apply nV | exact bV.refl _ | exact bV.none _ | refine bV.ite ?_ ?_ | refine bV.bind ?_ (fun _ => ?_)
theorem cO.calls (k : Nat) (A0 : Option Addr) (c0 : Nat) (l0 : List Int) (a1 : Int) (r : List Int) (w : World) (hr0 : Kd.C (Kd.int .i64) w A0 l0.length l0) (hc0 : l0.length ≤ c0) (h : cO.f k l0 a1 = some r) :
  Calls Try.prog 7 #[.slice A0 l0.length c0, .int .i64 a1] w fun e w' => ∃ lZ : Value, e = .returned (lZ) ∧ Kd.R (Kd.int .i64) 3 w' w.heap.size (fun _ => True) lZ r ∧ Below w.heap.size w w' := by
 have Gi := za hr0
 have IQ := za hc0
 clear hr0 hc0
 have HB := za (Below.refl w.heap.size w)
 have H : (if 0 ≤ a1 then (if (a1 : Int).toNat ≤ 35184372088832 then (cO.l0 k l0 a1 (List.replicate (a1 : Int).toNat 0) 0) else (none)) else (none)) = some r := h
 clear h
 revert H; refine zd fun c3 H => ?_
 have Bt := eq_true c3
 have ql : decide (0 ≤ a1) = true := decide_eq_true c3
 clear c3
 revert H; refine zd fun c4 H => ?_
 have wY := eq_true c4
 have TA : decide ((a1 : Int).toNat ≤ 35184372088832) = true := decide_eq_true c4
 clear c4
 obtain ⟨aKR, FO⟩ : ∃ y_ : List Int, y_ = (List.replicate (a1 : Int).toNat 0) := ⟨_, rfl⟩
 replace H : (cO.l0 k l0 a1 aKR 0) = some r := by first | (rw [FO]; with_reducible exact H) | (have lS := (Option.bind_some _ _).symm.trans H; rw [FO]; with_reducible exact lS) | (have lS := (Option.bind_some _ _).symm.trans H; with_reducible exact lS) | with_reducible exact H | (rw [FO]; exact H) | exact H
 have aDG := za FO
 clear FO
 have H' := za H
 clear H
 go_enter Try.func7, Try.ntmps7
 go_wp2_with (first | ((with_reducible refine bO (N := 8) rfl ?_); (try (refine fD (by rfl) ?_; dsimp only)); refine Kd.xu (Kd.int .i64) _ 3 rfl (N := 8) rfl 23 _ _ rfl a1 rfl rfl Try.underlying23 (.int .i64 0) 8 info3 rfl (by decide) (by omega) 0 (ok := fun _ => True) (yO := fun _ => True) rfl (fun _ hk => hk) trivial (of_decide_eq_true iL) (Nat.le_trans (Nat.mul_le_mul_right _ (of_decide_eq_true iL : a1.toNat ≤ 35184372088832)) (by omega)) (Below.refl _ _) (Nat.le_refl _) ?_; intro aYv w5 ho6 hb hg_ Rq; clear hg_ Rq; (first | rw [← aDG.out] at ho6 | (simp only [Int.reduceToNat] at ho6; rw [← aDG.out] at ho6)); have aOU := za (Kd.eU ho6 (aT kU)); replace HB := za (aM kU hb); clear hb ho6))
 go_loopg [6] k (fun kq v6 w' => ∃ (gY : List Int) (fE : Int), v6 = .int .i64 fE ∧ aG (cO.l0 kq l0 a1 gY fE = some r) ∧ aG (kq ≤ k) ∧ aG (Kd.R (Kd.int .i64) 3 w' w.heap.size (fun _ => True) aYv gY) ∧ aG (Below w.heap.size w w'))
 case atStart => exact ⟨(aKR), (0), jG, H', ⟨Nat.le_refl _⟩, ⟨by (with_reducible repeat (first | apply Kd.bC | apply Kd.bF | apply Kd.bP)); exact aOU.out⟩, ⟨kU⟩⟩
 case round =>
  clear H'
  obtain ⟨gY, fE, rfl, HA, lH, rU, HB⟩ := hrel
  cases gk with
  | zero => exact absurd HA.out (by simp [cO.l0])
  | succ k1 =>
   have H := HA.out
   clear HA
   simp only [cO.l0] at H
   revert H; refine Dn (fun c7 H => ?_) (fun c7 H => ?_)
   ·
    have Bu := decide_eq_true c7
    clear c7
    revert H; refine Dn (fun c8 H => ?_) (fun c8 H => ?_)
    ·
     have oZ : decide (fE < (l0.length : Int)) = true := decide_eq_true c8
     clear c8
     revert H; refine yX fun Ga H => ?_
     revert H; refine yX fun xS H => ?_
     obtain ⟨aDH, FP⟩ : ∃ y_ : List Int, y_ = (gY.set (fE : Int).toNat (rd l0 fE)) := ⟨_, rfl⟩
     replace H : (cO.l0 k1 l0 a1 aDH (wrap64 (fE + 1))) = some r := by first | (rw [FP]; with_reducible exact H) | (have lS := (Option.bind_some _ _).symm.trans H; rw [FP]; with_reducible exact lS) | (have lS := (Option.bind_some _ _).symm.trans H; with_reducible exact lS) | with_reducible exact H | (rw [FP]; exact H) | exact H
     have aOV := za FP
     clear FP
     have H' := za H
     clear H
     have aDI : 0 ≤ (fE : Int) := of_decide_eq_true iL
     have aDJ : fE < (l0.length : Int) := of_decide_eq_true iL
     obtain ⟨bMR, aYw, FQ⟩ := Kd.MR Gi.out fE aDI aDJ
     cases aYw
     replace FQ := (HB.out.cell (World.block_lt_of_cell? w _ FQ)).trans FQ
     replace aDI := eq_true aDI
     replace aDJ := eq_true aDJ
     have rf : 0 ≤ (fE : Int) := of_decide_eq_true iL
     have RJ : (fE : Int) < ((gY.length : Int) : Int) := of_decide_eq_true iL
     obtain ⟨aOW, aN5, aC0, aYx, bMS, bRc, aYy⟩ := Kd.Vt rU.out (by omega)
     (first | cases aC0 | (injection aC0 with Dj QV QW; (first | subst Dj | (injection Dj with Dj; subst Dj)); subst QW; clear QV))
     have bMT := za aYx
     have bRd := za aYy
     clear aYx bMS aYy
     obtain ⟨H8, bMU⟩ := Kd.P6 0 rU.out (fE : Int) rf RJ
     replace rf := eq_true rf
     replace RJ := eq_true RJ
     have aOX := Kd.aK7 rU.out (fE : Int) (rd l0 fE)
     go_wp2_with (first | ((with_reducible refine wX (t := 3) (p := 26) rfl ?_); refine vC (t := 3) (p := 26) (v := ?bMV) (w1 := (wr.setCell ⟨aOW, (fE : Int).toNat, none⟩ (.int .i64 (rd l0 fE)))) ?hg ?ho ?hn ?hr ?_; (case ho => rfl); (case hg => rfl); (case hn => rfl); (case hr => exact jA); intro ZW hw; have hg : wr.grownBy ZW (some aOW) := (by rw [hw]; exact aOX.2); have hp_ : Kd.R (Kd.int .i64) 3 ZW w.heap.size (fun _ => True) (.slice (some ⟨aOW, 0, none⟩) gY.length aN5) aDH := (by rw [hw, aOV.out]; exact aOX.1); clear aOX; replace rU := za (hp_); replace HB := za ((by rw [hw]; exact aV (HB.out) bMT.out : Below w.heap.size w ZW)); clear hg hw hp_))
     go_roundg k1
     case measure => have := lH.out; omega
     case rel => exact ⟨(aDH), (wrap64 (fE + 1)), jG, H', ⟨by have := lH.out; omega⟩, ⟨Af⟩, ⟨kU⟩⟩
    ·
     have oZ : decide (fE < (l0.length : Int)) = false := decide_eq_false c8
     clear c8
     obtain rfl := Option.some.inj H
     go_wp2
     go_ret
     exact ⟨_, jR, Af, kU⟩
   ·
    have Bu := decide_eq_false c7
    clear c7
    obtain rfl := Option.some.inj H
    go_wp2
    go_ret
    exact ⟨_, jR, Af, kU⟩
def iR.l0 : Nat → List ByteArray → List ByteArray → Int → Option (Bool)
 | 0, _, _, _ => none
 | k + 1, x0, x1, x5 => if x5 < (x0.length : Int) then (if 0 ≤ x5 then (if x5 < (x1.length : Int) then (if (Dt ByteArray.empty x0 x5).toList = (Dt ByteArray.empty x1 x5).toList then (iR.l0 k x0 x1 (wrap64 (x5 + 1))) else (some false)) else (none)) else (none)) else (some true)
def iR.f (k : Nat) (l0 : List ByteArray) (l1 : List ByteArray) : Option (Bool) := if (l0.length : Int) = (l1.length : Int) then (iR.l0 k l0 l1 0) else (some false)
theorem iR.fT : ∀ k, (∀ y0 y1 y2, bV (iR.l0 k y0 y1 y2) (iR.l0 (k + 1) y0 y1 y2))
 | 0 => fun _ _ _ r h => by simp [iR.l0] at h
 | k + 1 => by
  have nV := iR.fT k
  ·
   intro y0 y1 y2
   unfold iR.l0
   repeat' with_reducible first | apply nV | exact bV.refl _ | exact bV.none _ | refine bV.ite ?_ ?_ | refine bV.bind ?_ (fun _ => ?_)
theorem iR.mono : ∀ a0 a1 k, bV (iR.f k a0 a1) (iR.f (k + 1) a0 a1) := by
 intro a0 a1 k
 have nV := iR.fT k
 unfold iR.f
 repeat' with_reducible first | apply nV | exact bV.refl _ | exact bV.none _ | refine bV.ite ?_ ?_ | refine bV.bind ?_ (fun _ => ?_)
theorem iR.calls (k : Nat) (A0 : Option Addr) (c0 : Nat) (l0 : List ByteArray) (A1 : Option Addr) (c1 : Nat) (l1 : List ByteArray) (r : Bool) (w : World) (hr0 : Kd.C Kd.string w A0 l0.length l0) (hc0 : l0.length ≤ c0) (hr1 : Kd.C Kd.string w A1 l1.length l1) (hc1 : l1.length ≤ c1) (h : iR.f k l0 l1 = some r) :
  Calls Try.prog 9 #[.slice A0 l0.length c0, .slice A1 l1.length c1] w fun e w' => e = .returned (.bool r) ∧ mP w w' := by
 have Gi := za hr0
 have IQ := za hc0
 clear hr0 hc0
 have HR1 := za hr1
 have HC1 := za hc1
 clear hr1 hc1
 have H : (if (l0.length : Int) = (l1.length : Int) then (iR.l0 k l0 l1 0) else (some false)) = some r := h
 clear h
 revert H; refine Dn (fun c3 H => ?_) (fun c3 H => ?_)
 ·
  have Bt := beq_iff_eq.mpr c3
  have ql := bne_eq_false_iff_eq.mpr c3
  have aOY : (l0.length == l1.length) = true := by first | simpa using c3 | (simp at c3 ⊢; omega)
  clear c3
  have H' := za H
  clear H
  go_enter Try.func9, Try.ntmps9
  go_wp2
  repeat (go_quiet (fail); try go_wp2)
  go_loopg [5] k (fun kq v5 w' => ∃ (gY : Int), v5 = .int .i64 gY ∧ aG (iR.l0 kq l0 l1 gY = some r) ∧ aG (kq ≤ k) ∧ mP w w')
  case atStart => exact ⟨(0), jG, H', ⟨Nat.le_refl _⟩, jY⟩
  case round =>
   clear H'
   obtain ⟨gY, rfl, HA, lH, ⟨m1, rfl⟩⟩ := hrel
   cases gk with
   | zero => exact absurd HA.out (by simp [iR.l0])
   | succ k1 =>
    have H := HA.out
    clear HA
    simp only [iR.l0] at H
    revert H; refine Dn (fun c4 H => ?_) (fun c4 H => ?_)
    ·
     have wY := decide_eq_true c4
     clear c4
     revert H; refine yX fun zG H => ?_
     revert H; refine yX fun Mj H => ?_
     have vw := za H
     clear H
     have aDK : 0 ≤ (gY : Int) := of_decide_eq_true iL
     have aDL : gY < (l0.length : Int) := of_decide_eq_true iL
     obtain ⟨bMW, aYz, aYA⟩ := Kd.vB Gi.out gY aDK aDL
     cases aYz
     replace aDK := eq_true aDK
     replace aDL := eq_true aDL
     have aDM : 0 ≤ (gY : Int) := of_decide_eq_true iL
     have aDN : gY < (l1.length : Int) := of_decide_eq_true iL
     obtain ⟨bMX, aYB, aYC⟩ := Kd.vB HR1.out gY aDM aDN
     cases aYB
     replace aDM := eq_true aDM
     replace aDN := eq_true aDN
     go_upto_if 25 with (fail)
     repeat (go_quiet (fail); go_upto_if 25 with (fail))
     have H := vw.out
     clear vw
     revert H; refine oW (fun oZ Hz H => ?_) (fun c8 oZ Hz H => ?_)
     ·
      (first | rw [oZ] | (simp only [dO, dQ]; rw [oZ]) | skip)
      have H' := za H
      clear H
      go_wp2
      repeat (go_quiet (fail); try go_wp2)
      go_roundg k1
      case measure => have := lH.out; omega
      case rel => exact ⟨(wrap64 (gY + 1)), jG, H', ⟨by have := lH.out; omega⟩, jY⟩
     ·
      (first | rw [oZ] | (simp only [dO, dQ]; rw [oZ]) | skip)
      obtain rfl := Option.some.inj H
      go_wp2
      repeat (go_quiet (fail); try go_wp2)
      go_ret
      exact ⟨lF, jY⟩
    ·
     have wY := decide_eq_false c4
     clear c4
     obtain rfl := Option.some.inj H
     go_wp2
     repeat (go_quiet (fail); try go_wp2)
     go_ret
     exact ⟨lF, jY⟩
 ·
  have Bt := beq_eq_false_iff_ne.mpr c3
  have ql := bne_iff_ne.mpr c3
  have aOY : (l0.length == l1.length) = false := by first | simpa using c3 | (simp at c3 ⊢; omega)
  obtain rfl := Option.some.inj H
  go_enter Try.func9, Try.ntmps9
  go_wp2
  repeat (go_quiet (fail); try go_wp2)
  go_ret
  exact ⟨lF, jY⟩
def jN.l0 : Nat → List (gK) → List (gK) → Int → Option (Bool)
 | 0, _, _, _ => none
 | k + 1, x0, x1, x5 => if x5 < (x0.length : Int) then (if 0 ≤ x5 then (if x5 < (x1.length : Int) then (if (!((((aZ x0 x5).f0).toList) == (((aZ x1 x5).f0).toList)) || (!((((aZ x0 x5).f1).toList) == (((aZ x1 x5).f1).toList)) || (!(((aZ x0 x5).f2) == ((aZ x1 x5).f2))))) = true then (some false) else (jN.l0 k x0 x1 (wrap64 (x5 + 1)))) else (none)) else (none)) else (some true)
def jN.f (k : Nat) (l0 : List (gK)) (l1 : List (gK)) : Option (Bool) := if (l0.length : Int) = (l1.length : Int) then (jN.l0 k l0 l1 0) else (some false)
theorem jN.fT : ∀ k, (∀ y0 y1 y2, bV (jN.l0 k y0 y1 y2) (jN.l0 (k + 1) y0 y1 y2))
 | 0 => fun _ _ _ r h => by simp [jN.l0] at h
 | k + 1 => by
  have nV := jN.fT k
  ·
   intro y0 y1 y2
   unfold jN.l0
   repeat' with_reducible first | apply nV | exact bV.refl _ | exact bV.none _ | refine bV.ite ?_ ?_ | refine bV.bind ?_ (fun _ => ?_)
theorem jN.mono : ∀ a0 a1 k, bV (jN.f k a0 a1) (jN.f (k + 1) a0 a1) := by
 intro a0 a1 k
 have nV := jN.fT k
 unfold jN.f
 repeat' with_reducible first | apply nV | exact bV.refl _ | exact bV.none _ | refine bV.ite ?_ ?_ | refine bV.bind ?_ (fun _ => ?_)
theorem jN.calls (k : Nat) (A0 : Option Addr) (c0 : Nat) (l0 : List (gK)) (A1 : Option Addr) (c1 : Nat) (l1 : List (gK)) (r : Bool) (w : World) (hr0 : Kd.C pR w A0 l0.length l0) (hc0 : l0.length ≤ c0) (hr1 : Kd.C pR w A1 l1.length l1) (hc1 : l1.length ≤ c1) (h : jN.f k l0 l1 = some r) :
  Calls Try.prog 10 #[.slice A0 l0.length c0, .slice A1 l1.length c1] w fun e w' => e = .returned (.bool r) ∧ mP w w' := by
 have aCY := Try.underlying51
 have Gi := za hr0
 have IQ := za hc0
 clear hr0 hc0
 have HR1 := za hr1
 have HC1 := za hc1
 clear hr1 hc1
 have H : (if (l0.length : Int) = (l1.length : Int) then (jN.l0 k l0 l1 0) else (some false)) = some r := h
 clear h
 revert H; refine Dn (fun c3 H => ?_) (fun c3 H => ?_)
 ·
  have Bt := beq_iff_eq.mpr c3
  have ql := bne_eq_false_iff_eq.mpr c3
  have aOY : (l0.length == l1.length) = true := by first | simpa using c3 | (simp at c3 ⊢; omega)
  clear c3
  have H' := za H
  clear H
  go_enter Try.func10, Try.ntmps10
  go_wp2
  repeat (go_quiet (fail); try go_wp2)
  go_loopg [5] k (fun kq v5 w' => ∃ (gY : Int), v5 = .int .i64 gY ∧ aG (jN.l0 kq l0 l1 gY = some r) ∧ aG (kq ≤ k) ∧ mP w w')
  case atStart => exact ⟨(0), jG, H', ⟨Nat.le_refl _⟩, jY⟩
  case round =>
   clear H'
   obtain ⟨gY, rfl, HA, lH, ⟨m1, rfl⟩⟩ := hrel
   cases gk with
   | zero => exact absurd HA.out (by simp [jN.l0])
   | succ k1 =>
    have H := HA.out
    clear HA
    simp only [jN.l0] at H
    revert H; refine Dn (fun c4 H => ?_) (fun c4 H => ?_)
    ·
     have wY := decide_eq_true c4
     clear c4
     revert H; refine yX fun zG H => ?_
     revert H; refine yX fun Mj H => ?_
     have vw := za H
     clear H
     have aDO : 0 ≤ (gY : Int) := of_decide_eq_true iL
     have aDP : gY < (l0.length : Int) := of_decide_eq_true iL
     obtain ⟨bMY, aYD, aYE, aYF, aYG⟩ := uW Gi.out gY aDO aDP
     cases aYD
     replace aDO := eq_true aDO
     replace aDP := eq_true aDP
     have aDQ : 0 ≤ (gY : Int) := of_decide_eq_true iL
     have aDR : gY < (l1.length : Int) := of_decide_eq_true iL
     obtain ⟨bMZ, aYH, aYI, aYJ, aYK⟩ := uW HR1.out gY aDQ aDR
     cases aYH
     replace aDQ := eq_true aDQ
     replace aDR := eq_true aDR
     go_upto_if 25 with (fail)
     repeat (go_quiet (fail); go_upto_if 25 with (fail))
     have H := vw.out
     clear vw
     revert H; refine Dn (fun c8 H => ?_) (fun c8 H => ?_)
     ·
      have oZ : (!((((aZ l0 gY).f0).toList) == (((aZ l1 gY).f0).toList)) || (!((((aZ l0 gY).f1).toList) == (((aZ l1 gY).f1).toList)) || (!(((aZ l0 gY).f2) == ((aZ l1 gY).f2))))) = true := c8
      clear c8
      (first | rw [oZ] | (simp only [dO, dQ]; rw [oZ]) | skip)
      obtain rfl := Option.some.inj H
      go_wp2
      repeat (go_quiet (fail); try go_wp2)
      go_ret
      exact ⟨lF, jY⟩
     ·
      have oZ : (!((((aZ l0 gY).f0).toList) == (((aZ l1 gY).f0).toList)) || (!((((aZ l0 gY).f1).toList) == (((aZ l1 gY).f1).toList)) || (!(((aZ l0 gY).f2) == ((aZ l1 gY).f2))))) = false := by simpa using c8
      clear c8
      (first | rw [oZ] | (simp only [dO, dQ]; rw [oZ]) | skip)
      have H' := za H
      clear H
      go_wp2
      repeat (go_quiet (fail); try go_wp2)
      go_roundg k1
      case measure => have := lH.out; omega
      case rel => exact ⟨(wrap64 (gY + 1)), jG, H', ⟨by have := lH.out; omega⟩, jY⟩
    ·
     have wY := decide_eq_false c4
     clear c4
     obtain rfl := Option.some.inj H
     go_wp2
     repeat (go_quiet (fail); try go_wp2)
     go_ret
     exact ⟨lF, jY⟩
 ·
  have Bt := beq_eq_false_iff_ne.mpr c3
  have ql := bne_iff_ne.mpr c3
  have aOY : (l0.length == l1.length) = false := by first | simpa using c3 | (simp at c3 ⊢; omega)
  obtain rfl := Option.some.inj H
  go_enter Try.func10, Try.ntmps10
  go_wp2
  repeat (go_quiet (fail); try go_wp2)
  go_ret
  exact ⟨lF, jY⟩
end Go.Proofs.Ytiaeldibklcobaa.eZ
