import Derived.Test.YtiaeldibklcobaaZRPx19
namespace Go.Proofs.Ytiaeldibklcobaa.eZ
open Go.RowKit Go.Proofs.YtiaeldibklcobaaW.bL Go.Proofs.YtiaeldibklcobaaW.fV Go.Proofs.YtiaeldibklcobaaW.iZ
set_option maxHeartbeats 8000000
set_option maxRecDepth 100000
attribute [local go_sem] kL kM lX lY jC jD kN kP
set_option linter.unusedVariables false
set_option linter.unusedSimpArgs false
mutual
def bA.l0 : Nat → List (nM) → List (gK) → Int → Option ((List (gK)))
 | 0, _, _, _ => none
 | k + 1, x0, x3, x4 => if x4 < (x0.length : Int) then (bA.l1 k x0 x3 x4 0) else (some x3)
def bA.l1 : Nat → List (nM) → List (gK) → Int → Int → Option ((List (gK)))
 | 0, _, _, _, _ => none
 | k + 1, x0, x3, x4, x5 => if 0 ≤ x4 then (if x4 < (x0.length : Int) then (if x5 < (((aJ x0 x4).f3).length : Int) then (if 0 ≤ x5 then (bA.l2 k x0 x3 x4 x5 0 ((aJ x0 x4).f0) ((eF ((aJ x0 x4).f3) x5).f0) ((eF ((aJ x0 x4).f3) x5).f2)) else (none)) else (bA.l0 k x0 x3 (wrap64 (x4 + 1)))) else (none)) else (none)
def bA.j3 : Nat → List (nM) → List (gK) → Int → Int → Int → ByteArray → ByteArray → Int → Option ((List (gK)))
 | 0, _, _, _, _, _, _, _, _ => none
 | k + 1, x0, x3, x4, x5, x8, rC, rD, rE => if x8 < (x3.length : Int) then (if 0 ≤ x8 then ((xE.f rC rD rE ((aZ x3 x8).f0) ((aZ x3 x8).f1) ((aZ x3 x8).f2)).bind fun jr => (bA.j4 k x0 x3 x4 x5 x8 (!jr) rC rD rE)) else (none)) else (bA.j4 k x0 x3 x4 x5 x8 false rC rD rE)
def bA.j4 : Nat → List (nM) → List (gK) → Int → Int → Int → Bool → ByteArray → ByteArray → Int → Option ((List (gK)))
 | 0, _, _, _, _, _, _, _, _, _ => none
 | k + 1, x0, x3, x4, x5, x8, x70, rC, rD, rE => if x70 = true then (bA.l1 k x0 x3 x4 (wrap64 (x5 + 1))) else (if x3.length < 3518437208883 then ((some (x3 ++ [(⟨(⟨#[]⟩ : ByteArray), (⟨#[]⟩ : ByteArray), 0⟩ : gK)] : List (gK))).bind fun Yl => (bA.l3 k x0 Yl x4 x5 x8 (wrap64 ((Yl.length : Int) - 1)) rC rD rE)) else (none))
def bA.l3 : Nat → List (nM) → List (gK) → Int → Int → Int → Int → ByteArray → ByteArray → Int → Option ((List (gK)))
 | 0, _, _, _, _, _, _, _, _, _ => none
 | k + 1, x0, x3, x4, x5, x8, x9, rC, rD, rE => if x9 > x8 then (if 0 ≤ (wrap64 (x9 - 1)) then (if (wrap64 (x9 - 1)) < (x3.length : Int) then (if 0 ≤ x9 then (if x9 < (x3.length : Int) then (bA.l3 k x0 (x3.set (x9 : Int).toNat (⟨(aZ x3 (wrap64 (x9 - 1))).f0, (aZ x3 (wrap64 (x9 - 1))).f1, (aZ x3 (wrap64 (x9 - 1))).f2⟩ : gK)) x4 x5 x8 (wrap64 (x9 - 1)) rC rD rE) else (none)) else (none)) else (none)) else (none)) else (if 0 ≤ x8 then (if x8 < (x3.length : Int) then (bA.l1 k x0 (x3.set (x8 : Int).toNat (⟨rC, rD, rE⟩ : gK)) x4 (wrap64 (x5 + 1))) else (none)) else (none))
def bA.l2 : Nat → List (nM) → List (gK) → Int → Int → Int → ByteArray → ByteArray → Int → Option ((List (gK)))
 | 0, _, _, _, _, _, _, _, _ => none
 | k + 1, x0, x3, x4, x5, x8, rC, rD, rE => if x8 < (x3.length : Int) then (if 0 ≤ x8 then ((xE.f ((aZ x3 x8).f0) ((aZ x3 x8).f1) ((aZ x3 x8).f2) rC rD rE).bind fun aKN => (if aKN = true then (bA.l2 k x0 x3 x4 x5 (wrap64 (x8 + 1)) rC rD rE) else (bA.j3 k x0 x3 x4 x5 x8 rC rD rE))) else (none)) else (bA.j3 k x0 x3 x4 x5 x8 rC rD rE)
end
def bA.f (k : Nat) (l0 : List (nM)) : Option ((List (gK))) := bA.l0 k l0 ([] : List (gK)) 0
theorem bA.fT : ∀ k, (∀ y0 y1 y2, bV (bA.l0 k y0 y1 y2) (bA.l0 (k + 1) y0 y1 y2)) ∧ (∀ y0 y1 y2 y3, bV (bA.l1 k y0 y1 y2 y3) (bA.l1 (k + 1) y0 y1 y2 y3)) ∧ (∀ y0 y1 y2 y3 y4 y5 y6 y7, bV (bA.j3 k y0 y1 y2 y3 y4 y5 y6 y7) (bA.j3 (k + 1) y0 y1 y2 y3 y4 y5 y6 y7)) ∧ (∀ y0 y1 y2 y3 y4 y5 y6 y7 y8, bV (bA.j4 k y0 y1 y2 y3 y4 y5 y6 y7 y8) (bA.j4 (k + 1) y0 y1 y2 y3 y4 y5 y6 y7 y8)) ∧ (∀ y0 y1 y2 y3 y4 y5 y6 y7 y8, bV (bA.l3 k y0 y1 y2 y3 y4 y5 y6 y7 y8) (bA.l3 (k + 1) y0 y1 y2 y3 y4 y5 y6 y7 y8)) ∧ (∀ y0 y1 y2 y3 y4 y5 y6 y7, bV (bA.l2 k y0 y1 y2 y3 y4 y5 y6 y7) (bA.l2 (k + 1) y0 y1 y2 y3 y4 y5 y6 y7))
 | 0 => ⟨fun _ _ _ r h => by simp [bA.l0] at h, fun _ _ _ _ r h => by simp [bA.l1] at h, fun _ _ _ _ _ _ _ _ r h => by simp [bA.j3] at h, fun _ _ _ _ _ _ _ _ _ r h => by simp [bA.j4] at h, fun _ _ _ _ _ _ _ _ _ r h => by simp [bA.l3] at h, fun _ _ _ _ _ _ _ _ r h => by simp [bA.l2] at h⟩
 | k + 1 => by
  obtain ⟨nV, ih1, ih2, ih3, We, Wh⟩ := bA.fT k
  refine ⟨?_, ?_, ?_, ?_, ?_, ?_⟩
  ·
   intro y0 y1 y2
   unfold bA.l0
   repeat' with_reducible first | apply nV | apply ih1 | apply ih2 | apply ih3 | apply We | apply Wh | exact bV.refl _ | exact bV.none _ | refine bV.ite ?_ ?_ | refine bV.bind ?_ (fun _ => ?_)
  ·
   intro y0 y1 y2 y3
   unfold bA.l1
   repeat' with_reducible first | apply nV | apply ih1 | apply ih2 | apply ih3 | apply We | apply Wh | exact bV.refl _ | exact bV.none _ | refine bV.ite ?_ ?_ | refine bV.bind ?_ (fun _ => ?_)
  ·
   intro y0 y1 y2 y3 y4 y5 y6 y7
   unfold bA.j3
   repeat' with_reducible first | apply nV | apply ih1 | apply ih2 | apply ih3 | apply We | apply Wh | exact bV.refl _ | exact bV.none _ | refine bV.ite ?_ ?_ | refine bV.bind ?_ (fun _ => ?_)
  ·
   intro y0 y1 y2 y3 y4 y5 y6 y7 y8
   unfold bA.j4
   repeat' with_reducible first | apply nV | apply ih1 | apply ih2 | apply ih3 | apply We | apply Wh | exact bV.refl _ | exact bV.none _ | refine bV.ite ?_ ?_ | refine bV.bind ?_ (fun _ => ?_)
  ·
   intro y0 y1 y2 y3 y4 y5 y6 y7 y8
   unfold bA.l3
   repeat' with_reducible first | apply nV | apply ih1 | apply ih2 | apply ih3 | apply We | apply Wh | exact bV.refl _ | exact bV.none _ | refine bV.ite ?_ ?_ | refine bV.bind ?_ (fun _ => ?_)
  ·
   intro y0 y1 y2 y3 y4 y5 y6 y7
   unfold bA.l2
   repeat' with_reducible first | apply nV | apply ih1 | apply ih2 | apply ih3 | apply We | apply Wh | exact bV.refl _ | exact bV.none _ | refine bV.ite ?_ ?_ | refine bV.bind ?_ (fun _ => ?_)
theorem bA.mono : ∀ a0 k, bV (bA.f k a0) (bA.f (k + 1) a0) := by
 intro a0 k
 obtain ⟨nV, ih1, ih2, ih3, We, Wh⟩ := bA.fT k
 unfold bA.f
 repeat' with_reducible first | apply nV | apply ih1 | apply ih2 | apply ih3 | apply We | apply Wh | exact bV.refl _ | exact bV.none _ | refine bV.ite ?_ ?_ | refine bV.bind ?_ (fun _ => ?_)
def bA.T9 : Bool × List (List Nat × List Nat) := (true, [([], []), ([], []), ([0, 1], [0, 1]), ([2], [2]), ([3], [3]), ([], []), ([5], [5]), ([], []), ([7], [7]), ([4, 6, 8], [4, 6, 8]), ([], []), ([10, 9, 0, 1, 2, 3, 4, 5, 6, 7, 8, 9, 10], [9, 10])])
def bA.B9 : List Nat := [0, 0, 3, 7, 15, 0, 32, 0, 128, 511, 0, 2047]
theorem bA.aCo : oL .any (opsOf Try.f6 9) = bA.T9 := by kernel_rfl
theorem bA.VU : kH bA.T9.2 bA.B9 = true := by kernel_rfl
def bA.T11 : Bool × List (List Nat × List Nat) := (true, [([], []), ([], []), ([1], [1]), ([0, 2], [0, 2]), ([3], [3]), ([4], [4]), ([4], [4]), ([5, 6, 4], [4, 5, 6]), ([7, 4], [4, 7]), ([4], [4]), ([8, 9, 4, 4], [4, 8, 9]), ([4, 10], [4, 10])])
def bA.B11 : List Nat := [0, 0, 2, 7, 15, 31, 31, 127, 255, 31, 1023, 2047]
theorem bA.VV : oL .any (opsOf Try.f6 11) = bA.T11 := by kernel_rfl
theorem bA.EH : kH bA.T11.2 bA.B11 = true := by kernel_rfl
def bA.T13 : Bool × List (List Nat × List Nat) := (true, [([], []), ([], []), ([1], [1]), ([0, 2], [0, 2]), ([3], [3]), ([4], [4]), ([4], [4]), ([4], [4]), ([6, 7, 4], [4, 6, 7]), ([8, 4], [4, 8]), ([5, 9, 4, 4], [4, 5, 9]), ([10, 4], [4, 10]), ([4, 11], [4, 11])])
def bA.Po : List Nat := [0, 0, 2, 7, 15, 31, 31, 31, 223, 479, 1023, 2047, 4095]
theorem bA.aKO : oL .any (opsOf Try.f6 13) = bA.T13 := by kernel_rfl
theorem bA.aDd : kH bA.T13.2 bA.Po = true := by kernel_rfl
theorem bA.calls (k : Nat) (A0 : Option Addr) (c0 : Nat) (l0 : List (nM)) (r : List (gK)) (w : World) (hr0 : Kd.C k31 w A0 l0.length l0) (hc0 : l0.length ≤ c0) (h : bA.f k l0 = some r) :
  Calls Try.prog 6 #[.slice A0 l0.length c0] w fun e w' => ∃ lZ : Value, e = .returned (lZ) ∧ Kd.R pR 51 w' w.heap.size (fun _ => True) lZ r ∧ Below w.heap.size w w' := by
 have bI2 := Try.underlying49
 have aCY := Try.underlying51
 have Gi := za hr0
 have IQ := za hc0
 clear hr0 hc0
 have HB := za (Below.refl w.heap.size w)
 have H : (bA.l0 k l0 ([] : List (gK)) 0) = some r := h
 clear h
 have H' := za H
 clear H
 go_enter Try.func6, Try.ntmps6
 go_wp2
 go_loopg [3, 4] k (fun kq v3 v4 w' => ∃ (xU : List (gK)) (dX : Int), v4 = .int .i64 dX ∧ aG (bA.l0 kq l0 xU dX = some r) ∧ aG (kq ≤ k) ∧ aG (Kd.R pR 51 w' w.heap.size (fun _ => True) v3 xU) ∧ aG (Below w.heap.size w w'))
 case atStart => exact ⟨(([] : List (gK))), (0), jG, H', ⟨Nat.le_refl _⟩, ⟨vJ⟩, ⟨kU⟩⟩
 case round =>
  clear H'
  obtain ⟨xU, dX, rfl, HA, lH, gT, HB⟩ := hrel
  cases gk with
  | zero => exact absurd HA.out (by simp [bA.l0])
  | succ k1 =>
   have H := HA.out
   clear HA
   simp only [bA.l0] at H
   revert H; refine Dn (fun c2 H => ?_) (fun c2 H => ?_)
   ·
    have Oj := decide_eq_true c2
    clear c2
    have H' := za H
    clear H
    go_wp2
    go_loopg [3, 5] k1 (fun kq v3 v5 w' => ∃ (pX : List (gK)) (iQ : Int), v5 = .int .i64 iQ ∧ aG (bA.l1 kq l0 pX dX iQ = some r) ∧ aG (kq ≤ k1) ∧ aG (Kd.R pR 51 w' w.heap.size (fun _ => True) v3 pX) ∧ aG (Below w.heap.size w w'))
    case atStart => exact ⟨(xU), (0), jG, H', ⟨Nat.le_refl _⟩, ⟨CR⟩, ⟨kU⟩⟩
    case round =>
     clear H'
     obtain ⟨pX, iQ, rfl, HA, Rv, gT, HB⟩ := hrel
     cases gk with
     | zero => exact absurd HA.out (by simp [bA.l1])
     | succ k2 =>
      have H := HA.out
      clear HA
      simp only [bA.l1] at H
      revert H; refine yX fun Bt H => ?_
      revert H; refine yX fun wY H => ?_
      revert H; refine Dn (fun c5 H => ?_) (fun c5 H => ?_)
      ·
       have zG := decide_eq_true c5
       clear c5
       revert H; refine yX fun Mj H => ?_
       have vw := za H
       clear H
       have EW : 0 ≤ (dX : Int) := of_decide_eq_true iL
       have EX : dX < (l0.length : Int) := of_decide_eq_true iL
       obtain ⟨yU, aIM, aIN, aIO, aIP, aIQ, aIR, aDe, Bf, Bg, yG, yH, yI, Jv, Jw, Jy, Jz, Ka, Kb⟩ := Ae Gi.out dX EW EX
       cases aDe
       replace Bf := (HB.out.cell (World.block_lt_of_cell? w _ Bf)).trans Bf
       replace Bg := (HB.out.cell (World.block_lt_of_cell? w _ Bg)).trans Bg
       replace yG := (HB.out.cell (World.block_lt_of_cell? w _ yG)).trans yG
       replace yH := (HB.out.cell (World.block_lt_of_cell? w _ yH)).trans yH
       replace yI := (HB.out.cell (World.block_lt_of_cell? w _ yI)).trans yI
       have aDf := za Jw
       have aDg := za Jv
       clear Jw Jv
       have aDh := za Jz
       have aDi := za Jy
       clear Jz Jy
       have aDj := za Kb
       have aDk := za Ka
       clear Kb Ka
       replace EW := eq_true EW
       replace EX := eq_true EX
       have aDl : 0 ≤ (dX : Int) := of_decide_eq_true iL
       have aDm : dX < (l0.length : Int) := of_decide_eq_true iL
       obtain ⟨aOx, bGW, bGX, bGY, bGZ, bG0, bG1, aX1, EY, EZ, Um, Un, Uo, WW, WX, WY, WZ, XC, XF⟩ := Ae Gi.out dX aDl aDm
       obtain rfl : yU = aOx := (by injection aX1)
       replace EY := (HB.out.cell (World.block_lt_of_cell? w _ EY)).trans EY
       replace EZ := (HB.out.cell (World.block_lt_of_cell? w _ EZ)).trans EZ
       replace Um := (HB.out.cell (World.block_lt_of_cell? w _ Um)).trans Um
       replace Un := (HB.out.cell (World.block_lt_of_cell? w _ Un)).trans Un
       replace Uo := (HB.out.cell (World.block_lt_of_cell? w _ Uo)).trans Uo
       have aX2 := za WX
       have aX3 := za WW
       clear WX WW
       have aDn := za WZ
       have aX4 := za WY
       clear WZ WY
       have aX5 := za XF
       have aX6 := za XC
       clear XF XC
       replace aDl := eq_true aDl
       replace aDm := eq_true aDm
       have Dj := Option.some.inj (yG.symm.trans Um)
       injection Dj with Dj QV QW
       subst Dj
       subst QW
       clear QV
       have Dj := Option.some.inj (yH.symm.trans Un)
       injection Dj with Dj QV QW
       subst Dj
       subst QW
       clear QV
       have Dj := Option.some.inj (yI.symm.trans Uo)
       injection Dj with Dj QV QW
       subst Dj
       subst QW
       clear QV
       have aDo : 0 ≤ (iQ : Int) := of_decide_eq_true iL
       have aDp : iQ < (((aJ l0 dX).f3).length : Int) := of_decide_eq_true iL
       obtain ⟨bMp, aX7, FB, FC, FD, FE⟩ := aLp aDn.out iQ aDo aDp
       cases aX7
       replace FB := (HB.out.cell (World.block_lt_of_cell? w _ FB)).trans FB
       replace FC := (HB.out.cell (World.block_lt_of_cell? w _ FC)).trans FC
       replace FD := (HB.out.cell (World.block_lt_of_cell? w _ FD)).trans FD
       replace FE := (HB.out.cell (World.block_lt_of_cell? w _ FE)).trans FE
       replace aDo := eq_true aDo
       replace aDp := eq_true aDp
       try go_wp2_with (first | ((with_reducible refine bO (N := 6) rfl ?_); refine bZ ?hg (N := 6) ?hd (cs := #[.string (⟨#[]⟩ : ByteArray), .string (⟨#[]⟩ : ByteArray), .int .i64 0, .int .i64 0]) (t := 49) ?hr ?_; (case hd => rfl); (case hg => rfl); (case hr => exact jA); intro jL hg w8 gP hb; replace gT := qF gT hb; have gF := za (gP); have bMq := za ((by rw [hg]; exact (aT kU) : w.heap.size ≤ jL)); have bSQ := za ((by rw [hg]; exact (aT kU) : w.heap.size ≤ jL)); replace HB := za (aM kU hb); clear hb gP hg; obtain ⟨bMr, bMs, bMt, bMu⟩ := zc4 gF.out; obtain ⟨bMv, bMw, bMx⟩ := Xk gF.out; have bMy := aD gF.out 3))
       have Qn : aG (Kd.R pR 51 ((((w8.setCell ⟨jL, 0, none⟩ (.string ((eF ((aJ l0 dX).f3) iQ).f0))).setCell ⟨jL, 1, none⟩ (.string ((eF ((aJ l0 dX).f3) iQ).f1))).setCell ⟨jL, 2, none⟩ (.int .i64 ((eF ((aJ l0 dX).f3) iQ).f2))).setCell ⟨jL, 3, none⟩ (.int .i64 ((eF ((aJ l0 dX).f3) iQ).f3))) w.heap.size (fun _ => True) u3 pX) := ⟨by (with_reducible repeat (first | apply Kd.bC | apply Kd.bF | apply Kd.bP)); exact Kd.aQ (zR4 (Kd.dS gT.out gF.out (by decide)) (fun _ hk => hk.2)) (fun _ hk => trivial)⟩
       have Qo : aG (((((w8.setCell ⟨jL, 0, none⟩ (.string ((eF ((aJ l0 dX).f3) iQ).f0))).setCell ⟨jL, 1, none⟩ (.string ((eF ((aJ l0 dX).f3) iQ).f1))).setCell ⟨jL, 2, none⟩ (.int .i64 ((eF ((aJ l0 dX).f3) iQ).f2))).setCell ⟨jL, 3, none⟩ (.int .i64 ((eF ((aJ l0 dX).f3) iQ).f3))).heap[jL]? = some (.cells #[.string ((eF ((aJ l0 dX).f3) iQ).f0), .string ((eF ((aJ l0 dX).f3) iQ).f1), .int .i64 ((eF ((aJ l0 dX).f3) iQ).f2), .int .i64 ((eF ((aJ l0 dX).f3) iQ).f3)] 49 (0, 0))) := ⟨zP4 gF.out⟩
       have Qp : aG (Below w.heap.size w ((((w8.setCell ⟨jL, 0, none⟩ (.string ((eF ((aJ l0 dX).f3) iQ).f0))).setCell ⟨jL, 1, none⟩ (.string ((eF ((aJ l0 dX).f3) iQ).f1))).setCell ⟨jL, 2, none⟩ (.int .i64 ((eF ((aJ l0 dX).f3) iQ).f2))).setCell ⟨jL, 3, none⟩ (.int .i64 ((eF ((aJ l0 dX).f3) iQ).f3)))) := ⟨aEQ⟩
       generalize ((((w8.setCell ⟨jL, 0, none⟩ (.string ((eF ((aJ l0 dX).f3) iQ).f0))).setCell ⟨jL, 1, none⟩ (.string ((eF ((aJ l0 dX).f3) iQ).f1))).setCell ⟨jL, 2, none⟩ (.int .i64 ((eF ((aJ l0 dX).f3) iQ).f2))).setCell ⟨jL, 3, none⟩ (.int .i64 ((eF ((aJ l0 dX).f3) iQ).f3))) = w10 at Qn Qo Qp ⊢
       have gT := Qn
       have gF := Qo
       have HB := Qp
       clear Qn Qo Qp
       replace gT := Ao gT
       replace gF := za (dE gF.out)
       replace HB := za (bK HB.out)
       have aDq : 0 ≤ (dX : Int) := of_decide_eq_true iL
       have aDr : dX < (l0.length : Int) := of_decide_eq_true iL
       obtain ⟨aOy, aIS, aIT, aIU, aIV, aIW, aIX, aX8, Ke, Kg, Kh, Ki, Kj, XG, XH, XI, XJ, XK, XL⟩ := Ae Gi.out dX aDq aDr
       have yJ := Kj
       have yK := Ki
       have yL := Kh
       have yM := Kg
       have yN := Ke
       obtain rfl : yU = aOy := (by injection aX8)
       replace Ke := (HB.out.cell (World.block_lt_of_cell? w _ Ke)).trans Ke
       replace Kg := (HB.out.cell (World.block_lt_of_cell? w _ Kg)).trans Kg
       replace Kh := (HB.out.cell (World.block_lt_of_cell? w _ Kh)).trans Kh
       replace Ki := (HB.out.cell (World.block_lt_of_cell? w _ Ki)).trans Ki
       replace Kj := (HB.out.cell (World.block_lt_of_cell? w _ Kj)).trans Kj
       have aDs := za XH
       have aX9 := za XG
       clear XH XG
       have aDt := za XJ
       have aYa := za XI
       clear XJ XI
       have aDu := za XL
       have aYb := za XK
       clear XL XK
       replace aDq := eq_true aDq
       replace aDr := eq_true aDr
       refine lW (n := 12) (S := fun w' => w'.cell? ⟨jL, 0, none⟩ = some (.string ((eF ((aJ l0 dX).f3) iQ).f0)) ∧ w'.cell? ⟨jL, 1, none⟩ = some (.string ((eF ((aJ l0 dX).f3) iQ).f1)) ∧ w'.cell? ⟨jL, 2, none⟩ = some (.int .i64 ((eF ((aJ l0 dX).f3) iQ).f2)) ∧ w'.cell? ⟨jL, 3, none⟩ = some (.int .i64 ((eF ((aJ l0 dX).f3) iQ).f3)) ∧ w'.cell? (yU.add ((dX).toNat * 5)) = some (.string ((aJ l0 dX).f0)) ∧ w'.cell? ⟨(yU.add ((dX).toNat * 5)).block, (yU.add ((dX).toNat * 5)).off + 1, none⟩ = some (.int .i64 ((aJ l0 dX).f1)) ∧ w'.cell? ⟨(yU.add ((dX).toNat * 5)).block, (yU.add ((dX).toNat * 5)).off + 2, none⟩ = some (.slice aIS ((aJ l0 dX).f2).length aIT) ∧ w'.cell? ⟨(yU.add ((dX).toNat * 5)).block, (yU.add ((dX).toNat * 5)).off + 3, none⟩ = some (.slice aIU ((aJ l0 dX).f3).length aIV) ∧ w'.cell? ⟨(yU.add ((dX).toNat * 5)).block, (yU.add ((dX).toNat * 5)).off + 4, none⟩ = some (.slice aIW ((aJ l0 dX).f4).length aIX)) (ds := []) #[false, false, false, false, false, false, false, false, false, false, false, false] dU rfl rfl ⟨(aA gF.out 0).trans rfl, (aA gF.out 1).trans rfl, (aA gF.out 2).trans rfl, (aA gF.out 3).trans rfl, ((HB.out.cell (World.block_lt_of_cell? w _ yN)).trans yN), ((HB.out.cell (World.block_lt_of_cell? w _ yM)).trans yM), ((HB.out.cell (World.block_lt_of_cell? w _ yL)).trans yL), ((HB.out.cell (World.block_lt_of_cell? w _ yK)).trans yK), ((HB.out.cell (World.block_lt_of_cell? w _ yJ)).trans yJ)⟩ (fun hHeld => ?_); refine gX bA.aCo bA.VU (fun dB qB => ?_)
       generalize w10.drew = OY at gT gF HB aDs aDt aDu Ke Kg Kh Ki Kj hHeld ⊢
       refine gV 0 (some 34) dB ?_
       refine gV 1 (some 35) dB ?_
       refine gV 2 (some 36) dB ?_
       refine gV 3 (some 37) dB ?_
       refine gV 5 (some 39) dB ?_
       refine gV 7 (some 41) dB ?_
       refine vP 4 (some 38) dB qB hHeld ?_
       refine vP 6 (some 40) dB qB hHeld ?_
       refine vP 8 (some 42) dB qB hHeld ?_
       refine gV 9 (some 43) dB ?_
       refine Cn 10 (some 7) dB (fun K hK => ?_)
       refine uM ?hg (N := 7) ?hd (cs := #[.string (⟨#[]⟩ : ByteArray), .string (⟨#[]⟩ : ByteArray), .int .i64 0]) (t := 51) ?hr ?_; (case hd => rfl); (case hg => rfl); (case hr => exact jA)
       intro jM hg Mk gP hb
       replace gT := za (Kd.iX (Kd.xR (zr gT.out) jM (Nat.le_of_eq hg.symm)) hb)
       have fU := za (gP)
       have rF := za ((by rw [hg]; exact (aT aEQ) : w.heap.size ≤ jM))
       have aLr := za ((by rw [hg]; exact (aT aEQ) : w.heap.size ≤ jM))
       replace HB := za (aM aEQ hb)
       have pY := za ((by rw [hg]; exact Nat.ne_of_lt (gB (g := jL) (zb gF.out)) : jL ≠ jM))
       have Db := za ((by rw [hg]; exact Nat.ne_of_gt (gB (g := jL) (zb gF.out)) : jM ≠ jL))
       replace gF := za (aY (g := jL) (zb gF.out) hb)
       clear hb gP hg
       refine hK.out _ _ ⟨(aA gF.out 0).trans rfl, (aA gF.out 1).trans rfl, (aA gF.out 2).trans rfl, (aA gF.out 3).trans rfl, ((HB.out.cell (World.block_lt_of_cell? w _ yN)).trans yN), ((HB.out.cell (World.block_lt_of_cell? w _ yM)).trans yM), ((HB.out.cell (World.block_lt_of_cell? w _ yL)).trans yL), ((HB.out.cell (World.block_lt_of_cell? w _ yK)).trans yK), ((HB.out.cell (World.block_lt_of_cell? w _ yJ)).trans yJ)⟩ (fun hHeld => ?_)
       clear hK K
       refine jS (a' := ?_) ?_ ?_
       rotate_left
       ·
        show Act.put _ (some 7) _ = _
        simp only [Act.put, List.setIfInBounds_toArray, List.set_cons_zero, List.set_cons_succ, dO, dQ]
        rfl
       refine Cn 11 none dB (fun K hK => ?_)
       have bI8 : Mk.cell? ⟨jM, 0, none⟩ = some (.string (⟨#[]⟩ : ByteArray)) := (aA fU.out 0).trans rfl
       have aRS := aD fU.out 0
       have bG2 := pY.out
       have bG3 := Db.out
       have bI9 : Mk.cell? ⟨jM, 1, none⟩ = some (.string (⟨#[]⟩ : ByteArray)) := (aA fU.out 1).trans rfl
       have aRT := aD fU.out 1
       have bG4 := pY.out
       have bG5 := Db.out
       have bQW : Mk.cell? ⟨jM, 2, none⟩ = some (.int .i64 0) := (aA fU.out 2).trans rfl
       have bO9 := aD fU.out 2
       have bG6 := pY.out
       have bG7 := Db.out
       refine Cb (w1 := ?_) (by rfl) rfl ?_ ?_
       rotate_left
       ·
        go_simp
        rfl
       refine hK.out _ _ ⟨(zA3 pY.out hHeld.1), (zA3 pY.out hHeld.2.1), (zA3 pY.out hHeld.2.2.1), (zA3 pY.out hHeld.2.2.2.1), (zA3 (by first | exact Nat.ne_of_lt (Nat.lt_of_lt_of_le (by have := World.block_lt_of_cell? _ _ yN; first | rwa [add_block] at this | exact this | (rw [add_block] at this; exact Nat.lt_of_lt_of_le this HW0.out)) rF.out) | (rw [add_block]; exact Nat.ne_of_lt (Nat.lt_of_lt_of_le (by have := World.block_lt_of_cell? _ _ yN; first | rwa [add_block] at this | exact this | (rw [add_block] at this; exact Nat.lt_of_lt_of_le this HW0.out)) rF.out)) | (show (Addr.add _ _).block ≠ _; rw [add_block]; exact Nat.ne_of_lt (Nat.lt_of_lt_of_le (by have := World.block_lt_of_cell? _ _ yN; first | rwa [add_block] at this | exact this | (rw [add_block] at this; exact Nat.lt_of_lt_of_le this HW0.out)) rF.out)) | (dsimp only; exact Nat.ne_of_lt (Nat.lt_of_lt_of_le (by have := World.block_lt_of_cell? _ _ yN; first | rwa [add_block] at this | exact this | (rw [add_block] at this; exact Nat.lt_of_lt_of_le this HW0.out)) rF.out))) hHeld.2.2.2.2.1), (zA3 (by first | exact Nat.ne_of_lt (Nat.lt_of_lt_of_le (by have := World.block_lt_of_cell? _ _ yM; first | rwa [add_block] at this | exact this | (rw [add_block] at this; exact Nat.lt_of_lt_of_le this HW0.out)) rF.out) | (rw [add_block]; exact Nat.ne_of_lt (Nat.lt_of_lt_of_le (by have := World.block_lt_of_cell? _ _ yM; first | rwa [add_block] at this | exact this | (rw [add_block] at this; exact Nat.lt_of_lt_of_le this HW0.out)) rF.out)) | (show (Addr.add _ _).block ≠ _; rw [add_block]; exact Nat.ne_of_lt (Nat.lt_of_lt_of_le (by have := World.block_lt_of_cell? _ _ yM; first | rwa [add_block] at this | exact this | (rw [add_block] at this; exact Nat.lt_of_lt_of_le this HW0.out)) rF.out)) | (dsimp only; exact Nat.ne_of_lt (Nat.lt_of_lt_of_le (by have := World.block_lt_of_cell? _ _ yM; first | rwa [add_block] at this | exact this | (rw [add_block] at this; exact Nat.lt_of_lt_of_le this HW0.out)) rF.out))) hHeld.2.2.2.2.2.1), (zA3 (by first | exact Nat.ne_of_lt (Nat.lt_of_lt_of_le (by have := World.block_lt_of_cell? _ _ yL; first | rwa [add_block] at this | exact this | (rw [add_block] at this; exact Nat.lt_of_lt_of_le this HW0.out)) rF.out) | (rw [add_block]; exact Nat.ne_of_lt (Nat.lt_of_lt_of_le (by have := World.block_lt_of_cell? _ _ yL; first | rwa [add_block] at this | exact this | (rw [add_block] at this; exact Nat.lt_of_lt_of_le this HW0.out)) rF.out)) | (show (Addr.add _ _).block ≠ _; rw [add_block]; exact Nat.ne_of_lt (Nat.lt_of_lt_of_le (by have := World.block_lt_of_cell? _ _ yL; first | rwa [add_block] at this | exact this | (rw [add_block] at this; exact Nat.lt_of_lt_of_le this HW0.out)) rF.out)) | (dsimp only; exact Nat.ne_of_lt (Nat.lt_of_lt_of_le (by have := World.block_lt_of_cell? _ _ yL; first | rwa [add_block] at this | exact this | (rw [add_block] at this; exact Nat.lt_of_lt_of_le this HW0.out)) rF.out))) hHeld.2.2.2.2.2.2.1), (zA3 (by first | exact Nat.ne_of_lt (Nat.lt_of_lt_of_le (by have := World.block_lt_of_cell? _ _ yK; first | rwa [add_block] at this | exact this | (rw [add_block] at this; exact Nat.lt_of_lt_of_le this HW0.out)) rF.out) | (rw [add_block]; exact Nat.ne_of_lt (Nat.lt_of_lt_of_le (by have := World.block_lt_of_cell? _ _ yK; first | rwa [add_block] at this | exact this | (rw [add_block] at this; exact Nat.lt_of_lt_of_le this HW0.out)) rF.out)) | (show (Addr.add _ _).block ≠ _; rw [add_block]; exact Nat.ne_of_lt (Nat.lt_of_lt_of_le (by have := World.block_lt_of_cell? _ _ yK; first | rwa [add_block] at this | exact this | (rw [add_block] at this; exact Nat.lt_of_lt_of_le this HW0.out)) rF.out)) | (dsimp only; exact Nat.ne_of_lt (Nat.lt_of_lt_of_le (by have := World.block_lt_of_cell? _ _ yK; first | rwa [add_block] at this | exact this | (rw [add_block] at this; exact Nat.lt_of_lt_of_le this HW0.out)) rF.out))) hHeld.2.2.2.2.2.2.2.1), (zA3 (by first | exact Nat.ne_of_lt (Nat.lt_of_lt_of_le (by have := World.block_lt_of_cell? _ _ yJ; first | rwa [add_block] at this | exact this | (rw [add_block] at this; exact Nat.lt_of_lt_of_le this HW0.out)) rF.out) | (rw [add_block]; exact Nat.ne_of_lt (Nat.lt_of_lt_of_le (by have := World.block_lt_of_cell? _ _ yJ; first | rwa [add_block] at this | exact this | (rw [add_block] at this; exact Nat.lt_of_lt_of_le this HW0.out)) rF.out)) | (show (Addr.add _ _).block ≠ _; rw [add_block]; exact Nat.ne_of_lt (Nat.lt_of_lt_of_le (by have := World.block_lt_of_cell? _ _ yJ; first | rwa [add_block] at this | exact this | (rw [add_block] at this; exact Nat.lt_of_lt_of_le this HW0.out)) rF.out)) | (dsimp only; exact Nat.ne_of_lt (Nat.lt_of_lt_of_le (by have := World.block_lt_of_cell? _ _ yJ; first | rwa [add_block] at this | exact this | (rw [add_block] at this; exact Nat.lt_of_lt_of_le this HW0.out)) rF.out))) hHeld.2.2.2.2.2.2.2.2)⟩ (fun hHeld => ?_)
       clear hK K
       refine pO (jX dB.out dU) ?_
       go_upto_block 4 with (fail)
       go_cut [8] (fun v8 wc => ∃ (kq : Nat) (oP : Int), v8 = .int .i64 oP ∧ aG (bA.j3 kq l0 pX dX iQ oP ((aJ l0 dX).f0) ((eF ((aJ l0 dX).f3) iQ).f0) ((eF ((aJ l0 dX).f3) iQ).f2) = some r) ∧ aG (kq ≤ k2) ∧ aG (Kd.R pR 51 wc w.heap.size (fun k_ => k_ ≠ jM) u3 pX) ∧ aG (wc.heap[jL]? = some (.cells #[.string ((eF ((aJ l0 dX).f3) iQ).f0), .string ((eF ((aJ l0 dX).f3) iQ).f1), .int .i64 ((eF ((aJ l0 dX).f3) iQ).f2), .int .i64 ((eF ((aJ l0 dX).f3) iQ).f3)] 49 (0, 0))) ∧ aG (wc.heap[jM]? = some (.cells #[.string ((aJ l0 dX).f0), .string ((eF ((aJ l0 dX).f3) iQ).f0), .int .i64 ((eF ((aJ l0 dX).f3) iQ).f2)] 51 (0, 0))) ∧ aG (Below w.heap.size w wc))
       case first =>
        have H := vw.out
        clear vw
        have H' := za H
        clear H
        go_wp2
        go_loopg [8] k2 (fun kq v8 w' => ∃ (iP : Int), v8 = .int .i64 iP ∧ aG (bA.l2 kq l0 pX dX iQ iP ((aJ l0 dX).f0) ((eF ((aJ l0 dX).f3) iQ).f0) ((eF ((aJ l0 dX).f3) iQ).f2) = some r) ∧ aG (kq ≤ k2) ∧ aG (Kd.R pR 51 w' w.heap.size (fun k_ => k_ ≠ jM) u3 pX) ∧ aG (w'.heap[jL]? = some (.cells #[.string ((eF ((aJ l0 dX).f3) iQ).f0), .string ((eF ((aJ l0 dX).f3) iQ).f1), .int .i64 ((eF ((aJ l0 dX).f3) iQ).f2), .int .i64 ((eF ((aJ l0 dX).f3) iQ).f3)] 49 (0, 0))) ∧ aG (w'.heap[jM]? = some (.cells #[.string ((aJ l0 dX).f0), .string ((eF ((aJ l0 dX).f3) iQ).f0), .int .i64 ((eF ((aJ l0 dX).f3) iQ).f2)] 51 (0, 0))) ∧ aG (Below w.heap.size w w'))
        case atStart => exact ⟨(0), jG, H', ⟨Nat.le_refl _⟩, ⟨by (with_reducible repeat (first | apply Kd.bC | apply Kd.bF | apply Kd.bP)); exact Kd.aQ (zR3 (Kd.aQ gT.out (fun k_ hk => (⟨hk, hk.2⟩ : _ ∧ k_ ≠ jM))) (fun _ hk => hk.2)) (fun _ hk => hk.1.2)⟩, ⟨zF3 gF.out pY.out⟩, ⟨zP3 fU.out⟩, ⟨Oe⟩⟩
        case round =>
         clear H'
         obtain ⟨iP, rfl, HA, Vq, gT, gF, fU, HB⟩ := hrel
         cases gk with
         | zero => exact absurd HA.out (by simp [bA.l2])
         | succ k3 =>
          have H := HA.out
          clear HA
          simp only [bA.l2] at H
          revert H; refine Dn (fun c16 H => ?_) (fun c16 H => ?_)
          ·
           have yY := decide_eq_true c16
           clear c16
           (first | rw [yY] | (simp only [dO, dQ]; rw [yY]) | skip)
           revert H; refine yX fun KC H => ?_
           replace H := jT H
           obtain ⟨aKN, UF, H⟩ := H
           (try dsimp only at H)
           replace H := Bq H
           rcases H with ⟨rfl, H⟩ | ⟨rfl, H⟩
           ·
            have H' := za H
            clear H
            try go_wp2
            replace gT := Ao gT
            replace gF := za (dE gF.out)
            replace fU := za (dE fU.out)
            replace HB := za (bK HB.out)
            obtain ⟨bQX, bQY, aYc⟩ := Kd.bJ gT.out
            (first | subst aYc | (injection aYc with wU Gu wV; have Gv := wU.symm; have Gw := wV.symm; clear wU Gu wV; subst Gv; subst Gw))
            have FH : 0 ≤ (iP : Int) := of_decide_eq_true iL
            have FI : iP < (pX.length : Int) := of_decide_eq_true iL
            obtain ⟨Bh, aDv, Kk, Kl, Km⟩ := uW (Kd.cZ gT.out).2.2 iP FH FI
            cases aDv
            replace FH := eq_true FH
            replace FI := eq_true FI
            refine lW (n := 12) (S := fun w' => w'.cell? ⟨jM, 0, none⟩ = some (.string ((aJ l0 dX).f0)) ∧ w'.cell? ⟨jM, 1, none⟩ = some (.string ((eF ((aJ l0 dX).f3) iQ).f0)) ∧ w'.cell? ⟨jM, 2, none⟩ = some (.int .i64 ((eF ((aJ l0 dX).f3) iQ).f2)) ∧ w'.cell? (Bh.add ((iP).toNat * 3)) = some (.string ((aZ pX iP).f0)) ∧ w'.cell? ⟨(Bh.add ((iP).toNat * 3)).block, (Bh.add ((iP).toNat * 3)).off + 1, none⟩ = some (.string ((aZ pX iP).f1)) ∧ w'.cell? ⟨(Bh.add ((iP).toNat * 3)).block, (Bh.add ((iP).toNat * 3)).off + 2, none⟩ = some (.int .i64 ((aZ pX iP).f2))) (ds := []) #[false, false, false, false, false, false, false, false, false, false, false, false] dU rfl rfl ⟨(aA fU.out 0).trans rfl, (aA fU.out 1).trans rfl, (aA fU.out 2).trans rfl, Kk, Kl, Km⟩ (fun hHeld => ?_); refine gX bA.VV bA.EH (fun dB qB => ?_)
            generalize wr.drew = w20 at gT gF fU HB Kk Kl Km hHeld ⊢
            refine gV 0 (some 44) dB ?_
            refine gV 1 (some 45) dB ?_
            refine gV 2 (some 46) dB ?_
            refine gV 3 (some 47) dB ?_
            refine gV 4 (some 48) dB ?_
            refine gV 5 (some 49) dB ?_
            refine gV 6 (some 50) dB ?_
            refine gV 7 (some 51) dB ?_
            refine vP 8 (some 52) dB qB hHeld ?_
            refine vP 9 (some 53) dB qB hHeld ?_
            refine Cn 10 (some 54) dB (fun K hK => ?_)
            refine wT Try.func12 dU rfl #[.agg #[.string ((aZ pX iP).f0), .string ((aZ pX iP).f1), .int .i64 ((aZ pX iP).f2)], .agg #[.string ((aJ l0 dX).f0), .string ((eF ((aJ l0 dX).f3) iQ).f0), .int .i64 ((eF ((aJ l0 dX).f3) iQ).f2)]] (by rfl) rfl rfl Fb ?_
            with_reducible refine (xE.calls ((aZ pX iP).f0) ((aZ pX iP).f1) ((aZ pX iP).f2) ((aJ l0 dX).f0) ((eF ((aJ l0 dX).f3) iQ).f0) ((eF ((aJ l0 dX).f3) iQ).f2) true _ UF.out).mono ?_
            rintro e w22 ⟨rfl, hb⟩
            have Om := zH3 hb hHeld.2.2.2
            refine ⟨_, rfl, ?_⟩
            replace gT := qF gT hb
            replace gF := za (aY (g := jL) (zb gF.out) hb)
            replace fU := za (aY (g := jM) (zb fU.out) hb)
            replace HB := za (aM Oe hb)
            refine hK.out _ _ ⟨(aA fU.out 0).trans rfl, (aA fU.out 1).trans rfl, (aA fU.out 2).trans rfl, Om⟩ (fun hHeld => ?_)
            clear hK K
            refine jS (a' := ?_) ?_ ?_
            rotate_left
            ·
             show Act.put _ (some 54) _ = _
             simp only [Act.put, List.setIfInBounds_toArray, List.set_cons_zero, List.set_cons_succ, dO, dQ]
             rfl
            refine gV 11 (some 55) dB ?_
            refine pO (jX dB.out dU) ?_
            try go_wp2
            go_roundg k3
            case measure => have := lH.out; have := Rv.out; have := Vq.out; omega
            case rel => exact ⟨(wrap64 (iP + 1)), jG, H', ⟨by have := lH.out; have := Rv.out; have := Vq.out; omega⟩, ⟨CR⟩, ⟨qd⟩, ⟨qf⟩, ⟨Oe⟩⟩
           ·
            have H' := za H
            clear H
            try go_wp2
            replace gT := Ao gT
            replace gF := za (dE gF.out)
            replace fU := za (dE fU.out)
            replace HB := za (bK HB.out)
            obtain ⟨aNX, aNY, su⟩ := Kd.bJ gT.out
            (first | subst su | (injection su with wU Gu wV; have Gv := wU.symm; have Gw := wV.symm; clear wU Gu wV; subst Gv; subst Gw))
            have FH : 0 ≤ (iP : Int) := of_decide_eq_true iL
            have FI : iP < (pX.length : Int) := of_decide_eq_true iL
            obtain ⟨Bh, aDv, Kk, Kl, Km⟩ := uW (Kd.cZ gT.out).2.2 iP FH FI
            cases aDv
            replace FH := eq_true FH
            replace FI := eq_true FI
            refine lW (n := 12) (S := fun w' => w'.cell? ⟨jM, 0, none⟩ = some (.string ((aJ l0 dX).f0)) ∧ w'.cell? ⟨jM, 1, none⟩ = some (.string ((eF ((aJ l0 dX).f3) iQ).f0)) ∧ w'.cell? ⟨jM, 2, none⟩ = some (.int .i64 ((eF ((aJ l0 dX).f3) iQ).f2)) ∧ w'.cell? (Bh.add ((iP).toNat * 3)) = some (.string ((aZ pX iP).f0)) ∧ w'.cell? ⟨(Bh.add ((iP).toNat * 3)).block, (Bh.add ((iP).toNat * 3)).off + 1, none⟩ = some (.string ((aZ pX iP).f1)) ∧ w'.cell? ⟨(Bh.add ((iP).toNat * 3)).block, (Bh.add ((iP).toNat * 3)).off + 2, none⟩ = some (.int .i64 ((aZ pX iP).f2))) (ds := []) #[false, false, false, false, false, false, false, false, false, false, false, false] dU rfl rfl ⟨(aA fU.out 0).trans rfl, (aA fU.out 1).trans rfl, (aA fU.out 2).trans rfl, Kk, Kl, Km⟩ (fun hHeld => ?_); refine gX bA.VV bA.EH (fun dB qB => ?_)
            generalize wr.drew = w23 at gT gF fU HB Kk Kl Km hHeld ⊢
            refine gV 0 (some 44) dB ?_
            refine gV 1 (some 45) dB ?_
            refine gV 2 (some 46) dB ?_
            refine gV 3 (some 47) dB ?_
            refine gV 4 (some 48) dB ?_
            refine gV 5 (some 49) dB ?_
            refine gV 6 (some 50) dB ?_
            refine gV 7 (some 51) dB ?_
            refine vP 8 (some 52) dB qB hHeld ?_
            refine vP 9 (some 53) dB qB hHeld ?_
            refine Cn 10 (some 54) dB (fun K hK => ?_)
            refine wT Try.func12 dU rfl #[.agg #[.string ((aZ pX iP).f0), .string ((aZ pX iP).f1), .int .i64 ((aZ pX iP).f2)], .agg #[.string ((aJ l0 dX).f0), .string ((eF ((aJ l0 dX).f3) iQ).f0), .int .i64 ((eF ((aJ l0 dX).f3) iQ).f2)]] (by rfl) rfl rfl Fb ?_
            with_reducible refine (xE.calls ((aZ pX iP).f0) ((aZ pX iP).f1) ((aZ pX iP).f2) ((aJ l0 dX).f0) ((eF ((aJ l0 dX).f3) iQ).f0) ((eF ((aJ l0 dX).f3) iQ).f2) false _ UF.out).mono ?_
            rintro e w25 ⟨rfl, hb⟩
            have Om := zH3 hb hHeld.2.2.2
            refine ⟨_, rfl, ?_⟩
            replace gT := qF gT hb
            replace gF := za (aY (g := jL) (zb gF.out) hb)
            replace fU := za (aY (g := jM) (zb fU.out) hb)
            replace HB := za (aM Oe hb)
            refine hK.out _ _ ⟨(aA fU.out 0).trans rfl, (aA fU.out 1).trans rfl, (aA fU.out 2).trans rfl, Om⟩ (fun hHeld => ?_)
            clear hK K
            refine jS (a' := ?_) ?_ ?_
            rotate_left
            ·
             show Act.put _ (some 54) _ = _
             simp only [Act.put, List.setIfInBounds_toArray, List.set_cons_zero, List.set_cons_succ, dO, dQ]
             rfl
            refine gV 11 (some 55) dB ?_
            refine pO (jX dB.out dU) ?_
            try go_wp2
            go_meet
            case rel => exact ⟨_, (iP), jG, H', ⟨by have := lH.out; have := Rv.out; have := Vq.out; first | omega | exact Nat.le_refl _⟩, ⟨CR⟩, ⟨qd⟩, ⟨qf⟩, ⟨Oe⟩⟩
          ·
           have yY := decide_eq_false c16
           clear c16
           (first | rw [yY] | (simp only [dO, dQ]; rw [yY]) | skip)
           have H' := za H
           clear H
           try go_wp2
           replace gT := Ao gT
           replace gF := za (dE gF.out)
           replace fU := za (dE fU.out)
           replace HB := za (bK HB.out)
           obtain ⟨aIt, aIu, J5⟩ := Kd.bJ gT.out
           (first | subst J5 | (injection J5 with wU Gu wV; have Gv := wU.symm; have Gw := wV.symm; clear wU Gu wV; subst Gv; subst Gw))
           refine lW (n := 12) (S := fun w' => True) (ds := []) #[false, false, false, false, false, false, false, false, false, false, false, false] dU rfl rfl trivial (fun hHeld => ?_); refine gX bA.VV bA.EH (fun dB qB => ?_)
           generalize wr.drew = w26 at gT gF fU HB hHeld ⊢
           refine gV 0 (some 44) dB ?_
           refine gV 1 (some 45) dB ?_
           refine gV 2 (some 46) dB ?_
           refine gV 3 (some 47) dB ?_
           refine gV 4 (some 48) dB ?_
           refine De 5 (some 49) dB ?_
           refine De 6 (some 50) dB ?_
           refine De 7 (some 51) dB ?_
           refine De 8 (some 52) dB ?_
           refine De 9 (some 53) dB ?_
           refine De 10 (some 54) dB ?_
           refine gV 11 (some 55) dB ?_
           refine pO (jX dB.out dU) ?_
           try go_wp2
           go_meet
           case rel => exact ⟨_, (iP), jG, H', ⟨by have := lH.out; have := Rv.out; have := Vq.out; first | omega | exact Nat.le_refl _⟩, ⟨CR⟩, ⟨qd⟩, ⟨qf⟩, ⟨Oe⟩⟩
       case rest =>
        clear vw
        obtain ⟨kq, oP, rfl, HA, HJ6, gT, gF, fU, HB⟩ := hcut
        cases kq with
        | zero => exact absurd HA.out (by simp [bA.j3])
        | succ kj6 =>
         have H := HA.out
         clear HA
         simp only [bA.j3] at H
         have aOz := za H
         clear H
         go_upto_region 13 with (fail)
         go_cut [70] (fun v70 wc => ∃ (kq : Nat) (O4 : Bool), v70 = .bool O4 ∧ aG (bA.j4 kq l0 pX dX iQ oP O4 ((aJ l0 dX).f0) ((eF ((aJ l0 dX).f3) iQ).f0) ((eF ((aJ l0 dX).f3) iQ).f2) = some r) ∧ aG (kq ≤ kj6) ∧ aG (Kd.R pR 51 wc w.heap.size (fun k_ => k_ ≠ jM) u3 pX) ∧ aG (wc.heap[jL]? = some (.cells #[.string ((eF ((aJ l0 dX).f3) iQ).f0), .string ((eF ((aJ l0 dX).f3) iQ).f1), .int .i64 ((eF ((aJ l0 dX).f3) iQ).f2), .int .i64 ((eF ((aJ l0 dX).f3) iQ).f3)] 49 (0, 0))) ∧ aG (wc.heap[jM]? = some (.cells #[.string ((aJ l0 dX).f0), .string ((eF ((aJ l0 dX).f3) iQ).f0), .int .i64 ((eF ((aJ l0 dX).f3) iQ).f2)] 51 (0, 0))) ∧ aG (Below w.heap.size w wc))
         case first =>
          have H := aOz.out
          clear aOz
          revert H; refine Dn (fun c29 H => ?_) (fun c29 H => ?_)
          ·
           have vV := decide_eq_true c29
           clear c29
           (first | rw [vV] | (simp only [dO, dQ]; rw [vV]) | skip)
           revert H; refine yX fun U5 H => ?_
           replace H := jT H
           obtain ⟨jr, A31, H⟩ := H
           (try dsimp only at H)
           have H' := za H
           clear H
           try go_wp2
           replace gT := Ao gT
           replace gF := za (dE gF.out)
           replace fU := za (dE fU.out)
           replace HB := za (bK HB.out)
           obtain ⟨bQZ, bQ0, aYd⟩ := Kd.bJ gT.out
           (first | subst aYd | (injection aYd with wU Gu wV; have Gv := wU.symm; have Gw := wV.symm; clear wU Gu wV; subst Gv; subst Gw))
           have aDw : 0 ≤ (oP : Int) := of_decide_eq_true iL
           have aDx : oP < (pX.length : Int) := of_decide_eq_true iL
           obtain ⟨FJ, aYe, XM, XN, XO⟩ := uW (Kd.cZ gT.out).2.2 oP aDw aDx
           cases aYe
           replace aDw := eq_true aDw
           replace aDx := eq_true aDx
           refine lW (n := 13) (S := fun w' => w'.cell? ⟨jM, 0, none⟩ = some (.string ((aJ l0 dX).f0)) ∧ w'.cell? ⟨jM, 1, none⟩ = some (.string ((eF ((aJ l0 dX).f3) iQ).f0)) ∧ w'.cell? ⟨jM, 2, none⟩ = some (.int .i64 ((eF ((aJ l0 dX).f3) iQ).f2)) ∧ w'.cell? (FJ.add ((oP).toNat * 3)) = some (.string ((aZ pX oP).f0)) ∧ w'.cell? ⟨(FJ.add ((oP).toNat * 3)).block, (FJ.add ((oP).toNat * 3)).off + 1, none⟩ = some (.string ((aZ pX oP).f1)) ∧ w'.cell? ⟨(FJ.add ((oP).toNat * 3)).block, (FJ.add ((oP).toNat * 3)).off + 2, none⟩ = some (.int .i64 ((aZ pX oP).f2))) (ds := []) #[false, false, false, false, false, false, false, false, false, false, false, false, false] dU rfl rfl ⟨(aA fU.out 0).trans rfl, (aA fU.out 1).trans rfl, (aA fU.out 2).trans rfl, XM, XN, XO⟩ (fun hHeld => ?_); refine gX bA.aKO bA.aDd (fun dB qB => ?_)
           generalize wc.drew = w32 at gT gF fU HB XM XN XO hHeld ⊢
           refine gV 0 (some 58) dB ?_
           refine gV 1 (some 59) dB ?_
           refine gV 2 (some 60) dB ?_
           refine gV 3 (some 61) dB ?_
           refine gV 4 (some 62) dB ?_
           refine gV 6 (some 64) dB ?_
           refine gV 7 (some 65) dB ?_
           refine gV 8 (some 66) dB ?_
           refine vP 5 (some 63) dB qB hHeld ?_
           refine vP 9 (some 67) dB qB hHeld ?_
           refine Cn 10 (some 68) dB (fun K hK => ?_)
           refine wT Try.func12 dU rfl #[.agg #[.string ((aJ l0 dX).f0), .string ((eF ((aJ l0 dX).f3) iQ).f0), .int .i64 ((eF ((aJ l0 dX).f3) iQ).f2)], .agg #[.string ((aZ pX oP).f0), .string ((aZ pX oP).f1), .int .i64 ((aZ pX oP).f2)]] (by rfl) rfl rfl Fb ?_
           with_reducible refine (xE.calls ((aJ l0 dX).f0) ((eF ((aJ l0 dX).f3) iQ).f0) ((eF ((aJ l0 dX).f3) iQ).f2) ((aZ pX oP).f0) ((aZ pX oP).f1) ((aZ pX oP).f2) jr _ A31.out).mono ?_
           rintro e w34 ⟨rfl, hb⟩
           have Om := zH3 hb hHeld.2.2.2
           refine ⟨_, rfl, ?_⟩
           replace gT := qF gT hb
           replace gF := za (aY (g := jL) (zb gF.out) hb)
           replace fU := za (aY (g := jM) (zb fU.out) hb)
           replace HB := za (aM Oe hb)
           refine hK.out _ _ ⟨(aA fU.out 0).trans rfl, (aA fU.out 1).trans rfl, (aA fU.out 2).trans rfl, Om⟩ (fun hHeld => ?_)
           clear hK K
           refine jS (a' := ?_) ?_ ?_
           rotate_left
           ·
            show Act.put _ (some 68) _ = _
            simp only [Act.put, List.setIfInBounds_toArray, List.set_cons_zero, List.set_cons_succ, dO, dQ]
            rfl
           refine gV 11 (some 69) dB ?_
           refine gV 12 (some 70) dB ?_
           refine pO (jX dB.out dU) ?_
           try go_wp2
           go_meet
           case rel => exact ⟨_, (!jr), jG, H', ⟨by have := lH.out; have := Rv.out; have := HJ6.out; first | omega | exact Nat.le_refl _⟩, ⟨CR⟩, ⟨qd⟩, ⟨qf⟩, ⟨Oe⟩⟩
          ·
           have vV := decide_eq_false c29
           clear c29
           (first | rw [vV] | (simp only [dO, dQ]; rw [vV]) | skip)
           have H' := za H
           clear H
           try go_wp2
           replace gT := Ao gT
           replace gF := za (dE gF.out)
           replace fU := za (dE fU.out)
           replace HB := za (bK HB.out)
           obtain ⟨bQ1, bQ2, aYf⟩ := Kd.bJ gT.out
           (first | subst aYf | (injection aYf with wU Gu wV; have Gv := wU.symm; have Gw := wV.symm; clear wU Gu wV; subst Gv; subst Gw))
           refine lW (n := 13) (S := fun w' => True) (ds := []) #[false, false, false, false, false, false, false, false, false, false, false, false, false] dU rfl rfl trivial (fun hHeld => ?_); refine gX bA.aKO bA.aDd (fun dB qB => ?_)
           generalize wc.drew = w35 at gT gF fU HB hHeld ⊢
           refine gV 0 (some 58) dB ?_
           refine gV 1 (some 59) dB ?_
           refine gV 2 (some 60) dB ?_
           refine gV 3 (some 61) dB ?_
           refine gV 4 (some 62) dB ?_
           refine De 5 (some 63) dB ?_
           refine De 6 (some 64) dB ?_
           refine De 7 (some 65) dB ?_
           refine De 8 (some 66) dB ?_
           refine De 9 (some 67) dB ?_
           refine De 10 (some 68) dB ?_
           refine De 11 (some 69) dB ?_
           refine gV 12 (some 70) dB ?_
           refine pO (jX dB.out dU) ?_
           try go_wp2
           go_meet
           case rel => exact ⟨_, (false), jG, H', ⟨by have := lH.out; have := Rv.out; have := HJ6.out; first | omega | exact Nat.le_refl _⟩, ⟨CR⟩, ⟨qd⟩, ⟨qf⟩, ⟨Oe⟩⟩
         case rest =>
          clear aOz
          obtain ⟨kq, O4, rfl, HA, uu, gT, gF, fU, HB⟩ := hcut
          cases kq with
          | zero => exact absurd HA.out (by simp [bA.j4])
          | succ aIY =>
           have H := HA.out
           clear HA
           simp only [bA.j4] at H
           replace H := Bq H
           rcases H with ⟨rfl, H⟩ | ⟨rfl, H⟩
           ·
            have H' := za H
            clear H
            go_wp2
            go_roundg aIY
            case measure => have := lH.out; have := Rv.out; have := HJ6.out; have := uu.out; omega
            case rel => exact ⟨(pX), (wrap64 (iQ + 1)), jG, H', ⟨by have := lH.out; have := Rv.out; have := HJ6.out; have := uu.out; omega⟩, ⟨aJN⟩, ⟨Oe⟩⟩
           ·
            revert H; refine IP fun aAF H => ?_
            obtain ⟨Yl, FL⟩ : ∃ y_ : List (gK), y_ = (pX ++ [(⟨(⟨#[]⟩ : ByteArray), (⟨#[]⟩ : ByteArray), 0⟩ : gK)]) := ⟨_, rfl⟩
            replace H : (bA.l3 aIY l0 Yl dX iQ oP (wrap64 ((Yl.length : Int) - 1)) ((aJ l0 dX).f0) ((eF ((aJ l0 dX).f3) iQ).f0) ((eF ((aJ l0 dX).f3) iQ).f2)) = some r := by first | (rw [FL]; with_reducible exact H) | (have lS := (Option.bind_some _ _).symm.trans H; rw [FL]; with_reducible exact lS) | (have lS := (Option.bind_some _ _).symm.trans H; with_reducible exact lS) | with_reducible exact H | (rw [FL]; exact H) | exact H
            have aOA := za FL
            clear FL
            have H' := za H
            clear H
            go_wp2_with (first | ((with_reducible refine iK (b := .append) (xs := #[.tmp 71, .tmp 73]) rfl ?_); at_builtin; refine Kd.nP pR (w0 := w) w.heap.size rfl (.tmp 71) (.tmp 73) 33 51 (.agg #[(.string ⟨#[]⟩), (.string ⟨#[]⟩), (.int .i64 0)]) 40 rfl Try.underlying33 CP rfl (by decide) (by omega) u3 pX (⟨(⟨#[]⟩ : ByteArray), (⟨#[]⟩ : ByteArray), 0⟩ : gK) [.string (⟨#[]⟩ : ByteArray), .string (⟨#[]⟩ : ByteArray), .int .i64 0] (fun k_ => k_ ≠ jM) (fun _ => False) rfl rfl ?aP (fun _ hk => hk.elim) ?aF ?aO ?aB ?aS ?aL ?_; (case aP => exact Fw _ _ _ (⟨(⟨#[]⟩ : ByteArray), (⟨#[]⟩ : ByteArray), 0⟩ : gK)); (case aB => exact Oe); (case aF => exact (fun k_ hk => Kd.MS (g := jM) (zb fU.out) k_ hk)); (case aO => exact (zr gT.out)); (case aS => exact (aT Oe)); (case aL => have := aAF.out; omega); intro bPa w39 ho hb hg hat; rw [← aOA.out] at ho; replace gF := za (eD (g := jL) (zb gF.out) hg (Kd.nA gT.out gF.out (by decide))); replace fU := za (eD (g := jM) (zb fU.out) hg (Kd.wW gT.out (fun _ hk => hk))); replace HB := za (hb); have aDy := za (ho); clear gT; clear ho hb hg hat; obtain ⟨zV, wS, aOB⟩ := Kd.bJ aDy.out; subst aOB))
            go_loopg [9] aIY (fun kq v9 w' => ∃ (pE : List (gK)) (vM : Int) (oQ : ByteArray) (oU : ByteArray) (oV : Int), v9 = .int .i64 vM ∧ aG (bA.l3 kq l0 pE dX iQ oP vM oQ oU oV = some r) ∧ aG (kq ≤ aIY) ∧ aG (Kd.R pR 51 w' w.heap.size (fun k_ => k_ ≠ jM) (.slice zV Yl.length wS) pE) ∧ aG (w'.heap[jL]? = some (.cells #[.string ((eF ((aJ l0 dX).f3) iQ).f0), .string ((eF ((aJ l0 dX).f3) iQ).f1), .int .i64 ((eF ((aJ l0 dX).f3) iQ).f2), .int .i64 ((eF ((aJ l0 dX).f3) iQ).f3)] 49 (0, 0))) ∧ aG (w'.heap[jM]? = some (.cells #[.string oQ, .string oU, .int .i64 oV] 51 (0, 0))) ∧ aG (Below w.heap.size w w'))
            case atStart => exact ⟨(Yl), (wrap64 ((Yl.length : Int) - 1)), (((aJ l0 dX).f0)), (((eF ((aJ l0 dX).f3) iQ).f0)), (((eF ((aJ l0 dX).f3) iQ).f2)), jG, H', ⟨Nat.le_refl _⟩, ⟨by (with_reducible repeat (first | apply Kd.bC | apply Kd.bF | apply Kd.bP)); exact aDy.out⟩, ⟨qd⟩, ⟨qf⟩, ⟨Oe⟩⟩
            case round =>
             clear H'
             obtain ⟨pE, vM, oQ, oU, oV, rfl, HA, HK5, gT, gF, fU, HB⟩ := hrel
             have Nv := (Kd.cZ gT.out).1
             rw [Nv] at gT
             (try simp only [Nv])
             (try simp only [Nv] at gF)
             (try simp only [Nv] at fU)
             cases gk with
             | zero => exact absurd HA.out (by simp [bA.l3])
             | succ k5 =>
              have H := HA.out
              clear HA
              simp only [bA.l3] at H
              revert H; refine Dn (fun c41 H => ?_) (fun c41 H => ?_)
              ·
               have aAx : decide (oP < vM) = true := decide_eq_true c41
               clear c41
               obtain ⟨xG, jv⟩ : ∃ j_ : Int, (wrap64 (vM - 1)) = j_ := ⟨_, rfl⟩
               replace H : (if 0 ≤ (xG) then (if (xG) < (pE.length : Int) then (if 0 ≤ vM then (if vM < (pE.length : Int) then (bA.l3 k5 l0 (pE.set (vM : Int).toNat (⟨(aZ pE (xG)).f0, (aZ pE (xG)).f1, (aZ pE (xG)).f2⟩ : gK)) dX iQ oP xG oQ oU oV) else (none)) else (none)) else (none)) else (none)) = some r := by first | (rw [jv] at H; exact H) | (simp only [jv] at H ⊢; exact H)
               have bMz : (IntKind.i64.wrap (vM - 1)) = xG := (dO _).trans jv
               revert H; refine yX fun aJ1 H => ?_
               revert H; refine yX fun aJ2 H => ?_
               revert H; refine yX fun aP9 H => ?_
               revert H; refine yX fun aQa H => ?_
               obtain ⟨aDz, FM⟩ : ∃ y_ : List (gK), y_ = (pE.set (vM : Int).toNat (⟨(aZ pE (xG)).f0, (aZ pE (xG)).f1, (aZ pE (xG)).f2⟩ : gK)) := ⟨_, rfl⟩
               replace H : (bA.l3 k5 l0 aDz dX iQ oP xG oQ oU oV) = some r := by first | (rw [FM]; with_reducible exact H) | (have lS := (Option.bind_some _ _).symm.trans H; rw [FM]; with_reducible exact lS) | (have lS := (Option.bind_some _ _).symm.trans H; with_reducible exact lS) | with_reducible exact H | (rw [FM]; exact H) | exact H
               have aOC := za FM
               clear FM
               have H' := za H
               clear H
               have aDA : 0 ≤ ((xG) : Int) := of_decide_eq_true iL
               have aDB : (xG) < (pE.length : Int) := of_decide_eq_true iL
               obtain ⟨bMA, aYg, aDC, aDD, aDE⟩ := uW (Kd.cZ gT.out).2.2 (xG) aDA aDB
               cases aYg
               replace aDA := eq_true aDA
               replace aDB := eq_true aDB
               have p47 : 0 ≤ (vM : Int) := of_decide_eq_true iL
               have q47 : (vM : Int) < ((pE.length : Int) : Int) := of_decide_eq_true iL
               obtain ⟨Zc, aSo, aGq, aYh, bMB, bQ3, aYi⟩ := Kd.Vt gT.out (by omega)
               (first | cases aGq | (injection aGq with Dj QV QW; (first | subst Dj | (injection Dj with Dj; subst Dj)); subst QW; clear QV))
               have aOD := za aYh
               have bQ4 := za aYi
               clear aYh bMB aYi
               (first | simp only [add_plain] at aDC | skip)
               (first | simp only [add_plain] at aDD | skip)
               (first | simp only [add_plain] at aDE | skip)
               obtain ⟨bQ5, aYj, aYk, jw, jy⟩ := Kd.Oa gT.out z51 (vM : Int) p47 q47
               obtain rfl := zW aYk
               have bMC : wr.cell? ⟨Zc, (vM : Int).toNat * 3, none⟩ = some (.string ((aZ pE vM).f0)) := jw 0 _ rfl
               have bMD : wr.cell? ⟨Zc, (vM : Int).toNat * 3 + 1, none⟩ = some (.string ((aZ pE vM).f1)) := jw 1 _ rfl
               have bME : wr.cell? ⟨Zc, (vM : Int).toNat * 3 + 2, none⟩ = some (.int .i64 ((aZ pE vM).f2)) := jw 2 _ rfl
               have bMF : wr.frozen? ⟨Zc, (vM : Int).toNat * 3, none⟩ = false := jy 0
               have bMG : wr.frozen? ⟨Zc, (vM : Int).toNat * 3 + 1, none⟩ = false := jy 1
               have bMH : wr.frozen? ⟨Zc, (vM : Int).toNat * 3 + 2, none⟩ = false := jy 2
               clear aYj jw jy aYk
               replace p47 := eq_true p47
               replace q47 := eq_true q47
               have aYl := za (show Kd.R pR 51 wr w.heap.size (fun k_ => k_ ≠ jM) (.slice (some ⟨Zc, 0, none⟩) pE.length wS) pE from (zr gT.out))
               obtain ⟨bQ6, aKP, aYm, XP, kg⟩ := Kd.Oa aYl.out z51 (vM : Int) (of_decide_eq_true iL) (by have h_ : (vM : Int) < ((pE.length : Int) : Int) := of_decide_eq_true iL; first | exact h_ | (have e_ := (Kd.cZ gT.out).1; omega) | simpa using h_)
               obtain rfl := zW aYm
               have aOE := Kd.P5 aYl.out (vM : Int) (of_decide_eq_true iL) (by have h_ : (vM : Int) < ((pE.length : Int) : Int) := of_decide_eq_true iL; first | exact h_ | (have e_ := (Kd.cZ gT.out).1; omega) | simpa using h_) (Gz := [.string ((aZ pE (xG)).f0), .string ((aZ pE (xG)).f1), .int .i64 ((aZ pE (xG)).f2)]) (j := 0) aKP XP (show 3 ≤ 3 from by decide) (x' := (⟨(aZ pE (xG)).f0, (aZ pE (xG)).f1, (aZ pE (xG)).f2⟩ : gK)) (Fw _ _ _ (⟨(aZ pE (xG)).f0, (aZ pE (xG)).f1, (aZ pE (xG)).f2⟩ : gK) ) (fun _ hk => hk)
               have aOF := XP 0 _ rfl
               (try simp only [show (pR).sz = 3 from rfl, Nat.mul_one, Nat.add_zero] at aOF)
               have aOG := kg 0
               (try simp only [show (pR).sz = 3 from rfl, Nat.mul_one, Nat.add_zero] at aOG)
               have aOH := XP 1 _ rfl
               (try simp only [show (pR).sz = 3 from rfl, Nat.mul_one, Nat.add_zero] at aOH)
               have aOI := kg 1
               (try simp only [show (pR).sz = 3 from rfl, Nat.mul_one, Nat.add_zero] at aOI)
               have aOJ := XP 2 _ rfl
               (try simp only [show (pR).sz = 3 from rfl, Nat.mul_one, Nat.add_zero] at aOJ)
               have aOK := kg 2
               (try simp only [show (pR).sz = 3 from rfl, Nat.mul_one, Nat.add_zero] at aOK)
               clear aKP XP kg aYm
               go_wp2_with (first | ((with_reducible refine wX (t := 51) (p := 90) rfl ?_); refine vC (t := 51) (p := 90) (v := ?bMI) (w1 := (((wr.setCell ⟨Zc, (vM : Int).toNat * 3, none⟩ (.string ((aZ pE (xG)).f0))).setCell ⟨Zc, (vM : Int).toNat * 3 + 1, none⟩ (.string ((aZ pE (xG)).f1))).setCell ⟨Zc, (vM : Int).toNat * 3 + 2, none⟩ (.int .i64 ((aZ pE (xG)).f2)))) ?hg ?ho ?hn ?hr ?_; (case ho => rfl); (case hg => rfl); (case hn => rfl); (case hr => exact jA); intro w49 hw; have hg : wr.grownBy w49 (some Zc) := (by rw [hw]; exact aOE.2); have hp_ : Kd.R pR 51 w49 w.heap.size (fun k_ => k_ ≠ jM) (.slice (some ⟨Zc, 0, none⟩) pE.length wS) aDz := (by rw [hw, aOC.out]; exact aOE.1); clear aOE; replace gF := za (eD (g := jL) (zb gF.out) hg (Kd.nA gT.out gF.out (by decide))); replace fU := za (eD (g := jM) (zb fU.out) hg (Kd.wW gT.out (fun _ hk => hk))); replace gT := za (hp_); replace HB := za ((by rw [hw]; exact aV (aV (aV (HB.out) aOD.out) aOD.out) aOD.out : Below w.heap.size w w49)); clear hg hw hp_))
               (try simp only [← Nv])
               go_roundg k5
               case measure => have := lH.out; have := Rv.out; have := HJ6.out; have := uu.out; have := HK5.out; omega
               case rel => exact ⟨(aDz), (xG), (oQ), (oU), (oV), (by first | rfl | (simp; done) | (simp only [← jv] <;> (first | rfl | simp)) | (simp [*]; done)), H', ⟨by have := lH.out; have := Rv.out; have := HJ6.out; have := uu.out; have := HK5.out; omega⟩, ⟨by (try simp only [Nv]); (with_reducible repeat (first | apply Kd.bC | apply Kd.bF | apply Kd.bP)); exact gT.out⟩, ⟨by (try simp only [Nv]); (with_reducible repeat (first | refine mK ?_ _ | refine dE ?_ | refine bX ?_ _)); exact gF.out⟩, ⟨by (try simp only [Nv]); (with_reducible repeat (first | refine mK ?_ _ | refine dE ?_ | refine bX ?_ _)); exact fU.out⟩, ⟨Oe⟩⟩
              ·
               have aAx : decide (oP < vM) = false := decide_eq_false c41
               clear c41
               revert H; refine yX fun aJ3 H => ?_
               revert H; refine yX fun aQd H => ?_
               obtain ⟨aDF, FN⟩ : ∃ y_ : List (gK), y_ = (pE.set (oP : Int).toNat (⟨oQ, oU, oV⟩ : gK)) := ⟨_, rfl⟩
               replace H : (bA.l1 k5 l0 aDF dX (wrap64 (iQ + 1))) = some r := by first | (rw [FN]; with_reducible exact H) | (have lS := (Option.bind_some _ _).symm.trans H; rw [FN]; with_reducible exact lS) | (have lS := (Option.bind_some _ _).symm.trans H; with_reducible exact lS) | with_reducible exact H | (rw [FN]; exact H) | exact H
               have aOL := za FN
               clear FN
               have H' := za H
               clear H
               have aBc := Db.out
               have aBd := pY.out
               obtain ⟨V_, W_, X_⟩ := Zi fU.out
               obtain ⟨Y_, Z_, aa⟩ := Xk fU.out
               have p52 : 0 ≤ (oP : Int) := of_decide_eq_true iL
               have q52 : (oP : Int) < ((pE.length : Int) : Int) := of_decide_eq_true iL
               obtain ⟨Zd, bQ7, aYn, aYo, bMJ, bQ8, aYp⟩ := Kd.Vt gT.out (by omega)
               (first | cases aYn | (injection aYn with Dj QV QW; (first | subst Dj | (injection Dj with Dj; subst Dj)); subst QW; clear QV))
               have aOM := za aYo
               have bQ9 := za aYp
               clear aYo bMJ aYp
               obtain ⟨bRa, aYq, aYr, ko, kr⟩ := Kd.Oa gT.out z51 (oP : Int) p52 q52
               obtain rfl := zW aYr
               have bMK : wr.cell? ⟨Zd, (oP : Int).toNat * 3, none⟩ = some (.string ((aZ pE oP).f0)) := ko 0 _ rfl
               have bML : wr.cell? ⟨Zd, (oP : Int).toNat * 3 + 1, none⟩ = some (.string ((aZ pE oP).f1)) := ko 1 _ rfl
               have bMM : wr.cell? ⟨Zd, (oP : Int).toNat * 3 + 2, none⟩ = some (.int .i64 ((aZ pE oP).f2)) := ko 2 _ rfl
               have bMN : wr.frozen? ⟨Zd, (oP : Int).toNat * 3, none⟩ = false := kr 0
               have bMO : wr.frozen? ⟨Zd, (oP : Int).toNat * 3 + 1, none⟩ = false := kr 1
               have bMP : wr.frozen? ⟨Zd, (oP : Int).toNat * 3 + 2, none⟩ = false := kr 2
               clear aYq ko kr aYr
               replace p52 := eq_true p52
               replace q52 := eq_true q52
               have aYs := za (show Kd.R pR 51 wr w.heap.size (fun k_ => k_ ≠ jM) (.slice (some ⟨Zd, 0, none⟩) pE.length wS) pE from (zr gT.out))
               obtain ⟨bRb, aKQ, aYt, XQ, ku⟩ := Kd.Oa aYs.out z51 (oP : Int) (of_decide_eq_true iL) (by have h_ : (oP : Int) < ((pE.length : Int) : Int) := of_decide_eq_true iL; first | exact h_ | (have e_ := (Kd.cZ gT.out).1; omega) | simpa using h_)
               obtain rfl := zW aYt
               have aON := Kd.P5 aYs.out (oP : Int) (of_decide_eq_true iL) (by have h_ : (oP : Int) < ((pE.length : Int) : Int) := of_decide_eq_true iL; first | exact h_ | (have e_ := (Kd.cZ gT.out).1; omega) | simpa using h_) (Gz := [.string oQ, .string oU, .int .i64 oV]) (j := 0) aKQ XQ (show 3 ≤ 3 from by decide) (x' := (⟨oQ, oU, oV⟩ : gK)) (Fw _ _ _ (⟨oQ, oU, oV⟩ : gK) ) (fun _ hk => hk)
               have aOO := XQ 0 _ rfl
               (try simp only [show (pR).sz = 3 from rfl, Nat.mul_one, Nat.add_zero] at aOO)
               have aOP := ku 0
               (try simp only [show (pR).sz = 3 from rfl, Nat.mul_one, Nat.add_zero] at aOP)
               have aOQ := XQ 1 _ rfl
               (try simp only [show (pR).sz = 3 from rfl, Nat.mul_one, Nat.add_zero] at aOQ)
               have aOR := ku 1
               (try simp only [show (pR).sz = 3 from rfl, Nat.mul_one, Nat.add_zero] at aOR)
               have aOS := XQ 2 _ rfl
               (try simp only [show (pR).sz = 3 from rfl, Nat.mul_one, Nat.add_zero] at aOS)
               have aOT := ku 2
               (try simp only [show (pR).sz = 3 from rfl, Nat.mul_one, Nat.add_zero] at aOT)
               clear aKQ XQ ku aYt
               go_wp2_with (first | ((with_reducible refine wX (t := 51) (p := 94) rfl ?_); refine vC (t := 51) (p := 94) (v := ?bMQ) (w1 := (((wr.setCell ⟨Zd, (oP : Int).toNat * 3, none⟩ (.string oQ)).setCell ⟨Zd, (oP : Int).toNat * 3 + 1, none⟩ (.string oU)).setCell ⟨Zd, (oP : Int).toNat * 3 + 2, none⟩ (.int .i64 oV))) ?hg ?ho ?hn ?hr ?_; (case ho => rfl); (case hg => rfl); (case hn => rfl); (case hr => exact jA); intro vL hw; have hg : wr.grownBy vL (some Zd) := (by rw [hw]; exact aON.2); have hp_ : Kd.R pR 51 vL w.heap.size (fun k_ => k_ ≠ jM) (.slice (some ⟨Zd, 0, none⟩) pE.length wS) aDF := (by rw [hw, aOL.out]; exact aON.1); clear aON; replace gF := za (eD (g := jL) (zb gF.out) hg (Kd.nA gT.out gF.out (by decide))); replace fU := za (eD (g := jM) (zb fU.out) hg (Kd.wW gT.out (fun _ hk => hk))); replace gT := za (hp_); replace HB := za ((by rw [hw]; exact aV (aV (aV (HB.out) aOM.out) aOM.out) aOM.out : Below w.heap.size w vL)); clear hg hw hp_))
               (try simp only [← Nv])
               go_roundg k5
               case measure => have := lH.out; have := Rv.out; have := HJ6.out; have := uu.out; have := HK5.out; omega
               case rel => exact ⟨(aDF), (wrap64 (iQ + 1)), jG, H', ⟨by have := lH.out; have := Rv.out; have := HJ6.out; have := uu.out; have := HK5.out; omega⟩, ⟨by (try simp only [Nv]); (with_reducible repeat (first | apply Kd.bC | apply Kd.bF | apply Kd.bP)); exact Kd.aQ gT.out (fun _ hk => trivial)⟩, ⟨Oe⟩⟩
      ·
       have zG := decide_eq_false c5
       clear c5
       have H' := za H
       clear H
       have EW : 0 ≤ (dX : Int) := of_decide_eq_true iL
       have EX : dX < (l0.length : Int) := of_decide_eq_true iL
       obtain ⟨yU, aIM, aIN, aIO, aIP, aIQ, aIR, aDe, Bf, Bg, yG, yH, yI, Jv, Jw, Jy, Jz, Ka, Kb⟩ := Ae Gi.out dX EW EX
       cases aDe
       replace Bf := (HB.out.cell (World.block_lt_of_cell? w _ Bf)).trans Bf
       replace Bg := (HB.out.cell (World.block_lt_of_cell? w _ Bg)).trans Bg
       replace yG := (HB.out.cell (World.block_lt_of_cell? w _ yG)).trans yG
       replace yH := (HB.out.cell (World.block_lt_of_cell? w _ yH)).trans yH
       replace yI := (HB.out.cell (World.block_lt_of_cell? w _ yI)).trans yI
       have aDf := za Jw
       have aDg := za Jv
       clear Jw Jv
       have aDh := za Jz
       have aDi := za Jy
       clear Jz Jy
       have aDj := za Kb
       have aDk := za Ka
       clear Kb Ka
       replace EW := eq_true EW
       replace EX := eq_true EX
       go_wp2
       go_roundg k2
       case measure => have := lH.out; have := Rv.out; omega
       case rel => exact ⟨(pX), (wrap64 (dX + 1)), jG, H', ⟨by have := lH.out; have := Rv.out; omega⟩, ⟨CR⟩, ⟨kU⟩⟩
   ·
    have Oj := decide_eq_false c2
    clear c2
    obtain rfl := Option.some.inj H
    go_wp2
    go_ret
    exact ⟨_, jR, CR, kU⟩
end Go.Proofs.Ytiaeldibklcobaa.eZ
