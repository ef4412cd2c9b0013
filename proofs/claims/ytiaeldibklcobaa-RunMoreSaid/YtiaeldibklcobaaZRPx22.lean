import Derived.Test.YtiaeldibklcobaaZRPx20
import Derived.Test.YtiaeldibklcobaaZRPx21
namespace Go.Proofs.Ytiaeldibklcobaa.eZ
open Go.RowKit Go.Proofs.YtiaeldibklcobaaW.bL Go.Proofs.YtiaeldibklcobaaW.fV Go.Proofs.YtiaeldibklcobaaW.iZ
set_option maxHeartbeats 8000000
set_option maxRecDepth 100000
attribute [local go_sem] kL kM lX lY jC jD kN kP
set_option linter.unusedVariables false
set_option linter.unusedSimpArgs false
theorem bT6 {p : Prop} (h : p := by first | with_reducible exact Kd.pM (Kd.wW iO.out (fun _ hk => hk.2)) | (dsimp only; with_reducible exact Kd.pM (Kd.wW iO.out (fun _ hk => hk.2))) | (rw [add_block]; exact Kd.pM (Kd.wW iO.out (fun _ hk => hk.2))) | (show (Addr.add _ _).block ≠ _; rw [add_block]; exact Kd.pM (Kd.wW iO.out (fun _ hk => hk.2))) | exact Kd.pM (Kd.wW iO.out (fun _ hk => hk.2))) : p := h
theorem bT8 {p : Prop} (h : p := by first | with_reducible exact Kd.pM (by first | exact Kd.nA iO.out dV.out (by decide) | exact (fun e_ => (iO.out.1 _ e_.symm).2 rfl)) | (dsimp only; with_reducible exact Kd.pM (by first | exact Kd.nA iO.out dV.out (by decide) | exact (fun e_ => (iO.out.1 _ e_.symm).2 rfl))) | (rw [add_block]; exact Kd.pM (by first | exact Kd.nA iO.out dV.out (by decide) | exact (fun e_ => (iO.out.1 _ e_.symm).2 rfl))) | (show (Addr.add _ _).block ≠ _; rw [add_block]; exact Kd.pM (by first | exact Kd.nA iO.out dV.out (by decide) | exact (fun e_ => (iO.out.1 _ e_.symm).2 rfl))) | exact Kd.pM (by first | exact Kd.nA iO.out dV.out (by decide) | exact (fun e_ => (iO.out.1 _ e_.symm).2 rfl))) : p := h
theorem bT9 {p : Prop} (h : p := by first | with_reducible exact Kd.pM (by first | exact Kd.nA iO.out fB.out (by decide) | exact (fun e_ => (iO.out.1 _ e_.symm).2 rfl)) | (dsimp only; with_reducible exact Kd.pM (by first | exact Kd.nA iO.out fB.out (by decide) | exact (fun e_ => (iO.out.1 _ e_.symm).2 rfl))) | (rw [add_block]; exact Kd.pM (by first | exact Kd.nA iO.out fB.out (by decide) | exact (fun e_ => (iO.out.1 _ e_.symm).2 rfl))) | (show (Addr.add _ _).block ≠ _; rw [add_block]; exact Kd.pM (by first | exact Kd.nA iO.out fB.out (by decide) | exact (fun e_ => (iO.out.1 _ e_.symm).2 rfl))) | exact Kd.pM (by first | exact Kd.nA iO.out fB.out (by decide) | exact (fun e_ => (iO.out.1 _ e_.symm).2 rfl))) : p := h
theorem bT7 {p : Prop} (h : p := by first | with_reducible exact Kd.pM (Kd.wW vT.out (fun _ hk => hk.2)) | (dsimp only; with_reducible exact Kd.pM (Kd.wW vT.out (fun _ hk => hk.2))) | (rw [add_block]; exact Kd.pM (Kd.wW vT.out (fun _ hk => hk.2))) | (show (Addr.add _ _).block ≠ _; rw [add_block]; exact Kd.pM (Kd.wW vT.out (fun _ hk => hk.2))) | exact Kd.pM (Kd.wW vT.out (fun _ hk => hk.2))) : p := h
mutual
def aI.j0 : Nat → List Int → Int → Int → List (nM) → Bool → Option (Bool)
 | 0, _, _, _, _, _ => none
 | k + 1, x1, x2, x3, x9, x34 => if x34 = true then ((eQ.f k).bind fun aDS => (some aDS)) else ((bA.f k x9).bind fun mI => (if 0 < (x9.length : Int) then (if 0 ≤ (wrap64 ((((aJ x9 0).f4).length : Int) - 1)) then (if (wrap64 ((((aJ x9 0).f4).length : Int) - 1)) < (((aJ x9 0).f4).length : Int) then ((cO.f k x1 (((bE ((aJ x9 0).f4) (wrap64 ((((aJ x9 0).f4).length : Int) - 1))).f1).length : Int)).bind fun qA => ((aC.f k x9 ((aJ x9 0).f0) ((bE ((aJ x9 0).f4) (wrap64 ((((aJ x9 0).f4).length : Int) - 1))).f0) qA mI (Int.tmod (wrap64 (x2)) 1000)).bind fun kW => ((aC.f k x9 ((aJ x9 0).f0) ((bE ((aJ x9 0).f4) (wrap64 ((((aJ x9 0).f4).length : Int) - 1))).f0) qA mI (wrap64 ((Int.tmod (wrap64 (x2)) 1000) + (Int.tmod (wrap64 (x3)) 1000)))).bind fun mJ => (if kW.1 = 3 then (if mJ.1 = 3 then ((eQ.f k).bind fun XT => (some XT)) else (some false)) else (if (kW.2.2.2.1.length : Int) > (mJ.2.2.2.1.length : Int) then (aI.j1 k (Int.tmod (wrap64 (x2)) 1000) (wrap64 ((Int.tmod (wrap64 (x2)) 1000) + (Int.tmod (wrap64 (x3)) 1000))) true kW.1 kW.2.1 kW.2.2.1 kW.2.2.2.1 kW.2.2.2.2 mJ.1 mJ.2.1 mJ.2.2.1 mJ.2.2.2.1 mJ.2.2.2.2) else (if 0 ≤ (kW.2.2.2.1.length : Int) then (if (kW.2.2.2.1.length : Int) ≤ (mJ.2.2.2.1.length : Int) then ((iR.f k kW.2.2.2.1 (mJ.2.2.2.1.take ((kW.2.2.2.1.length : Int) : Int).toNat)).bind fun Ym => (aI.j1 k (Int.tmod (wrap64 (x2)) 1000) (wrap64 ((Int.tmod (wrap64 (x2)) 1000) + (Int.tmod (wrap64 (x3)) 1000))) (!Ym) kW.1 kW.2.1 kW.2.2.1 kW.2.2.2.1 kW.2.2.2.2 mJ.1 mJ.2.1 mJ.2.2.1 mJ.2.2.2.1 mJ.2.2.2.2)) else (none)) else (none))))))) else (none)) else (none)) else (none)))
def aI.j1 : Nat → Int → Int → Bool → Int → List (gK) → Int → List ByteArray → Int → Int → List (gK) → Int → List ByteArray → Int → Option (Bool)
 | 0, _, _, _, _, _, _, _, _, _, _, _, _, _ => none
 | k + 1, x13, x14, x114, XU, aDT, aDU, aDV, XV, aDW, aDX, aDY, aDZ, aD0 => if x114 = true then (some false) else (if XU = 1 then (if aDW = 1 then ((jN.f k aDT aDX).bind fun aKS => (if aKS = true then (if aDU = aDY then ((iR.f k aDV aDZ).bind fun aKT => (if aKT = true then (if aD0 = (wrap64 ((wrap64 (XV + x14)) - x13)) then ((eQ.f k).bind fun aD1 => (some aD1)) else (some false)) else (some false))) else (some false)) else (some false))) else (some false)) else (if XU = 2 then (if XV = 0 then ((eQ.f k).bind fun aD2 => (some aD2)) else (some false)) else (some false)))
end
def aI.f (k : Nat) (l0 : List ByteArray) (l1 : List Int) (a2 : Int) (a3 : Int) : Option (Bool) := (eO.f k l0).bind fun aW => (if (l1.length : Int) > 40 then (aI.j0 k l1 a2 a3 aW true) else (if (aW.length : Int) = 0 then (aI.j0 k l1 a2 a3 aW true) else (if 0 < (aW.length : Int) then (aI.j0 k l1 a2 a3 aW ((((aJ aW 0).f4).length : Int) == 0)) else (none))))
theorem aI.fT : ∀ k, (∀ y0 y1 y2 y3 y4, bV (aI.j0 k y0 y1 y2 y3 y4) (aI.j0 (k + 1) y0 y1 y2 y3 y4)) ∧ (∀ y0 y1 y2 y3 y4 y5 y6 y7 y8 y9 uL zX OW, bV (aI.j1 k y0 y1 y2 y3 y4 y5 y6 y7 y8 y9 uL zX OW) (aI.j1 (k + 1) y0 y1 y2 y3 y4 y5 y6 y7 y8 y9 uL zX OW))
 | 0 => ⟨fun _ _ _ _ _ r h => by simp [aI.j0] at h, fun _ _ _ _ _ _ _ _ _ _ _ _ _ r h => by simp [aI.j1] at h⟩
 | k + 1 => by
  obtain ⟨nV, ih1⟩ := aI.fT k
  refine ⟨?_, ?_⟩
  ·
   intro y0 y1 y2 y3 y4
   unfold aI.j0
   repeat' with_reducible first | apply nV | apply ih1 | apply eO.mono | apply cO.mono | apply eQ.mono | apply iR.mono | apply bA.mono | apply jN.mono | apply aC.mono | exact bV.refl _ | exact bV.none _ | refine bV.ite ?_ ?_ | refine bV.bind ?_ (fun _ => ?_)
  ·
   intro y0 y1 y2 y3 y4 y5 y6 y7 y8 y9 uL zX OW
   unfold aI.j1
   repeat' with_reducible first | apply nV | apply ih1 | apply eO.mono | apply cO.mono | apply eQ.mono | apply iR.mono | apply bA.mono | apply jN.mono | apply aC.mono | exact bV.refl _ | exact bV.none _ | refine bV.ite ?_ ?_ | refine bV.bind ?_ (fun _ => ?_)
theorem aI.mono : ∀ a0 a1 a2 a3 k, bV (aI.f k a0 a1 a2 a3) (aI.f (k + 1) a0 a1 a2 a3) := by
 intro a0 a1 a2 a3 k
 obtain ⟨nV, ih1⟩ := aI.fT k
 unfold aI.f
 repeat' with_reducible first | apply nV | apply ih1 | apply eO.mono | apply cO.mono | apply eQ.mono | apply iR.mono | apply bA.mono | apply jN.mono | apply aC.mono | exact bV.refl _ | exact bV.none _ | refine bV.ite ?_ ?_ | refine bV.bind ?_ (fun _ => ?_)
def aI.T5 : Bool × List (List Nat × List Nat) := (true, [([], []), ([0], [0]), ([1], [1]), ([2], [2]), ([], []), ([4], [4]), ([5], [5]), ([6], [6]), ([7], [7]), ([8], [8]), ([3, 9], [3, 9]), ([10], [10]), ([], []), ([12, 11, 0, 1, 2, 3, 4, 5, 6, 7, 8, 9, 10, 11, 12], [11, 12])])
def aI.B5 : List Nat := [0, 1, 3, 7, 0, 16, 48, 112, 240, 496, 1023, 2047, 0, 8191]
theorem aI.aCn : oL .any (opsOf Try.f3 5) = aI.T5 := by kernel_rfl
theorem aI.VT : kH aI.T5.2 aI.B5 = true := by kernel_rfl
def aI.T8 : Bool × List (List Nat × List Nat) := (true, [([], []), ([], []), ([1], [1]), ([2], [2]), ([3], [3]), ([], []), ([5], [5]), ([], []), ([], []), ([], []), ([0, 4, 6, 7, 8, 9], [0, 4, 6, 7, 8, 9]), ([], []), ([11, 10, 10, 0, 1, 2, 3, 4, 5, 6, 7, 8, 9, 10, 11], [10, 11])])
def aI.B8 : List Nat := [0, 0, 2, 6, 14, 0, 32, 0, 0, 0, 1023, 0, 4095]
theorem aI.aIA : oL .any (opsOf Try.f3 8) = aI.T8 := by kernel_rfl
theorem aI.jg : kH aI.T8.2 aI.B8 = true := by kernel_rfl
def aI.T9 : Bool × List (List Nat × List Nat) := (true, [([], []), ([], []), ([1], [1]), ([2], [2]), ([3], [3]), ([], []), ([5], [5]), ([], []), ([], []), ([], []), ([0, 4, 6, 7, 8, 9], [0, 4, 6, 7, 8, 9]), ([], []), ([11, 10, 10, 0, 1, 2, 3, 4, 5, 6, 7, 8, 9, 10, 11], [10, 11])])
def aI.B9 : List Nat := [0, 0, 2, 6, 14, 0, 32, 0, 0, 0, 1023, 0, 4095]
theorem aI.aCo : oL .any (opsOf Try.f3 9) = aI.T9 := by kernel_rfl
theorem aI.VU : kH aI.T9.2 aI.B9 = true := by kernel_rfl
def aI.T12 : Bool × List (List Nat × List Nat) := (true, [([], []), ([0], [0]), ([1], [1]), ([], []), ([3], [3]), ([4], [4]), ([2, 5], [2, 5]), ([6], [6]), ([7], [7]), ([8, 7], [7, 8]), ([7], [7]), ([10, 7], [7, 10]), ([7], [7]), ([12, 7], [7, 12]), ([13, 7], [7, 13]), ([11, 14, 7], [7, 11, 14]), ([9, 15, 7, 7], [7, 9, 15]), ([16, 7], [7, 16]), ([7, 17], [7, 17])])
def aI.RV : List Nat := [0, 1, 3, 0, 8, 24, 63, 127, 255, 511, 255, 1279, 255, 4351, 12543, 31999, 65535, 131071, 262143]
theorem aI.aKU : oL .any (opsOf Try.f3 12) = aI.T12 := by kernel_rfl
theorem aI.aD3 : kH aI.T12.2 aI.RV = true := by kernel_rfl
theorem aI.calls (k : Nat) (A0 : Option Addr) (c0 : Nat) (l0 : List ByteArray) (A1 : Option Addr) (c1 : Nat) (l1 : List Int) (a2 : Int) (a3 : Int) (r : Bool) (w : World) (RD : aG (r = true)) (hr0 : Kd.C Kd.string w A0 l0.length l0) (hc0 : l0.length ≤ c0) (hr1 : Kd.C (Kd.int .i64) w A1 l1.length l1) (hc1 : l1.length ≤ c1) (h : aI.f k l0 l1 a2 a3 = some r) :
  Calls Try.prog 3 #[.slice A0 l0.length c0, .slice A1 l1.length c1, .int .u16 a2, .int .u16 a3] w fun e w' => e = .returned (.bool r) ∧ Below w.heap.size w w' := by
 have bKl := Try.underlying38
 have bMh := Try.underlying41
 have Gi := za hr0
 have IQ := za hc0
 clear hr0 hc0
 have HR1 := za hr1
 have HC1 := za hc1
 clear hr1 hc1
 have HB := za (Below.refl w.heap.size w)
 have H : ((eO.f k l0).bind fun aW => (if (l1.length : Int) > 40 then (aI.j0 k l1 a2 a3 aW true) else (if (aW.length : Int) = 0 then (aI.j0 k l1 a2 a3 aW true) else (if 0 < (aW.length : Int) then (aI.j0 k l1 a2 a3 aW ((((aJ aW 0).f4).length : Int) == 0)) else (none))))) = some r := h
 clear h
 replace H := jT H
 obtain ⟨aW, A5, H⟩ := H
 (try dsimp only at H)
 have KH := za H
 clear H
 go_enter Try.func3, Try.ntmps3
 go_upto_region 2 with (first | ((with_reducible refine zg 4 rfl ?_); refine kZ (some 18) Try.func4 #[.slice A0 l0.length c0] ?_; refine (eO.calls k _ _ l0 aW _ aAj IQ.out A5.out).mono ?_; rintro e w7 ⟨aYL, rfl, ho0, hb⟩; refine ⟨_, rfl, ?_⟩; have Wd := za (Kd.eU ho0 (aT kU)); replace HB := za (aM kU hb)))
 (try simp only [Act.put, List.setIfInBounds_toArray, List.set_cons_zero, List.set_cons_succ])
 go_cut [34] (fun v34 wc => ∃ (kq : Nat) (aD4 : Bool), v34 = .bool aD4 ∧ aG (aI.j0 kq l1 a2 a3 aW aD4 = some r) ∧ aG (kq ≤ k) ∧ aG (Kd.R k31 31 wc w.heap.size (fun _ => True) aYL aW) ∧ aG (Below w.heap.size w wc))
 case first =>
  have H := KH.out
  clear KH
  revert H; refine Dn (fun c8 H => ?_) (fun c8 H => ?_)
  ·
   have oZ : decide (40 < (l1.length : Int)) = true := decide_eq_true c8
   have Hz : decide (40 < l1.length) = true := decide_eq_true (by omega)
   clear c8
   (first | rw [oZ] | (simp only [dO, dQ]; rw [oZ]) | skip)
   have H' := za H
   clear H
   go_wp2
   go_meet
   case rel => exact ⟨_, (true), jG, H', ⟨Cm⟩, ⟨aAo⟩, ⟨kU⟩⟩
  ·
   have oZ : decide (40 < (l1.length : Int)) = false := decide_eq_false c8
   have Hz : decide (40 < l1.length) = false := decide_eq_false (by omega)
   clear c8
   (first | rw [oZ] | (simp only [dO, dQ]; rw [oZ]) | skip)
   revert H; refine oW (fun Ga CS H => ?_) (fun c9 Ga CS H => ?_)
   ·
    have H' := za H
    clear H
    obtain ⟨O1, O3, aOw⟩ := Kd.bJ Wd.out
    subst aOw
    go_wp2
    go_meet
    case rel => exact ⟨_, (true), jG, H', ⟨Cm⟩, ⟨aAo⟩, ⟨kU⟩⟩
   ·
    have bRe : ¬ (aW = []) := fun h_ => c9 (by rw [h_]; rfl)
    revert H; refine zd fun c11 H => ?_
    have Co := decide_eq_true c11
    have Xm : decide (0 < aW.length) = true := decide_eq_true (by omega)
    clear c11
    have H' := za H
    clear H
    obtain ⟨Ii, Ij, aBw⟩ := Kd.bJ Wd.out
    subst aBw
    have kv : 0 ≤ (0 : Int) := (by omega)
    have ky : 0 < (aW.length : Int) := of_decide_eq_true iL
    obtain ⟨bM0, bG8, bG9, bHa, bHb, bHc, bHd, aYM, FR, FT, Uq, Ur, Us, XW, XX, XY, XZ, YA, YB⟩ := Ae (Kd.cZ Wd.out).2.2 0 kv ky
    cases aYM
    obtain ⟨bM1, aIZ, aI0, BL⟩ := Kd.JX Wd.out z31 0 kv (by first | exact ky | exact of_decide_eq_true iL | (have e_ := (Kd.cZ Wd.out).1; omega))
    obtain ⟨aYN, aYO, aYP, rfl, FU, FV, FW⟩ := Dv aI0
    have Kn := BL 2 _ rfl
    rw [dN _ _ 2 (by omega)] at Kn
    replace Kn := Option.some.inj (Kn.symm.trans Uq)
    rw [Kn] at FU
    have aYQ := za (show Kd.R Yq 87 _ _ _ _ ((aJ aW 0).f2) from FU)
    clear Kn FU
    have Ko := BL 3 _ rfl
    rw [dN _ _ 3 (by omega)] at Ko
    replace Ko := Option.some.inj (Ko.symm.trans Ur)
    rw [Ko] at FV
    have aYR := za (show Kd.R Xh 49 _ _ _ _ ((aJ aW 0).f3) from FV)
    clear Ko FV
    have Kq := BL 4 _ rfl
    rw [dN _ _ 4 (by omega)] at Kq
    replace Kq := Option.some.inj (Kq.symm.trans Us)
    rw [Kq] at FW
    have aYS := za (show Kd.R Vo 38 _ _ _ _ ((aJ aW 0).f4) from FW)
    clear Kq FW
    clear BL aIZ
    have bM2 : (0 < aW.length) = True := eq_true (by omega)
    (try rw [show ((0 : Int)).toNat = 0 from rfl] at FR)
    (try rw [show 0 * 5 = 0 from rfl] at FR)
    (try rw [Addr.add_zero'] at FR)
    (try rw [show ((0 : Int)).toNat = 0 from rfl] at FT)
    (try rw [show 0 * 5 = 0 from rfl] at FT)
    (try rw [Addr.add_zero'] at FT)
    (try rw [show ((0 : Int)).toNat = 0 from rfl] at Uq)
    (try rw [show 0 * 5 = 0 from rfl] at Uq)
    (try rw [Addr.add_zero'] at Uq)
    (try rw [show ((0 : Int)).toNat = 0 from rfl] at Ur)
    (try rw [show 0 * 5 = 0 from rfl] at Ur)
    (try rw [Addr.add_zero'] at Ur)
    (try rw [show ((0 : Int)).toNat = 0 from rfl] at Us)
    (try rw [show 0 * 5 = 0 from rfl] at Us)
    (try rw [Addr.add_zero'] at Us)
    have aYT := za XX
    have aYU := za XW
    clear XX XW
    have aYV := za XZ
    have aYW := za XY
    clear XZ XY
    have aYX := za YB
    have aYY := za YA
    clear YB YA
    replace kv := eq_true kv
    replace ky := eq_true ky
    go_wp2
    go_meet
    case rel => exact ⟨_, (((((aJ aW 0).f4).length : Int) == 0)), jG, H', ⟨Cm⟩, ⟨aAo⟩, ⟨kU⟩⟩
 case rest =>
  clear KH
  obtain ⟨kq, aD4, rfl, HA, Dp, iO, HB⟩ := hcut
  cases kq with
  | zero => exact absurd HA.out (by simp [aI.j0])
  | succ Ia =>
   have H := HA.out
   clear HA
   simp only [aI.j0] at H
   replace H := Bq H
   rcases H with ⟨rfl, H⟩ | ⟨rfl, H⟩
   ·
    replace H := jT H
    obtain ⟨aDS, A14, H⟩ := H
    (try dsimp only at H)
    obtain rfl := Option.some.inj H
    go_wp2_with (first | ((with_reducible refine zg 5 rfl ?_); refine kZ (some 35) Try.func5 #[] ?_; refine (eQ.calls Ia  aDS _ A14.out).mono ?_; rintro e w15 ⟨rfl, hb⟩; refine ⟨_, rfl, ?_⟩; replace HB := za (aM kU hb)))
    go_ret
    exact ⟨jR, kU⟩
   ·
    replace H := jT H
    obtain ⟨mI, RP, H⟩ := H
    (try dsimp only at H)
    revert H; refine zd fun c17 H => ?_
    have KC := decide_eq_true c17
    have V7 : decide (0 < aW.length) = true := decide_eq_true (by omega)
    clear c17
    obtain ⟨eT, KA⟩ : ∃ j_ : Int, (wrap64 ((((aJ aW 0).f4).length : Int) - 1)) = j_ := ⟨_, rfl⟩
    replace H : (if 0 ≤ (eT) then (if (eT) < (((aJ aW 0).f4).length : Int) then ((cO.f Ia l1 (((bE ((aJ aW 0).f4) (eT)).f1).length : Int)).bind fun qA => ((aC.f Ia aW ((aJ aW 0).f0) ((bE ((aJ aW 0).f4) (eT)).f0) qA mI (Int.tmod (wrap64 (a2)) 1000)).bind fun kW => ((aC.f Ia aW ((aJ aW 0).f0) ((bE ((aJ aW 0).f4) (eT)).f0) qA mI (wrap64 ((Int.tmod (wrap64 (a2)) 1000) + (Int.tmod (wrap64 (a3)) 1000)))).bind fun mJ => (if kW.1 = 3 then (if mJ.1 = 3 then ((eQ.f Ia).bind fun XT => (some XT)) else (some false)) else (if (kW.2.2.2.1.length : Int) > (mJ.2.2.2.1.length : Int) then (aI.j1 Ia (Int.tmod (wrap64 (a2)) 1000) (wrap64 ((Int.tmod (wrap64 (a2)) 1000) + (Int.tmod (wrap64 (a3)) 1000))) true kW.1 kW.2.1 kW.2.2.1 kW.2.2.2.1 kW.2.2.2.2 mJ.1 mJ.2.1 mJ.2.2.1 mJ.2.2.2.1 mJ.2.2.2.2) else (if 0 ≤ (kW.2.2.2.1.length : Int) then (if (kW.2.2.2.1.length : Int) ≤ (mJ.2.2.2.1.length : Int) then ((iR.f Ia kW.2.2.2.1 (mJ.2.2.2.1.take ((kW.2.2.2.1.length : Int) : Int).toNat)).bind fun Ym => (aI.j1 Ia (Int.tmod (wrap64 (a2)) 1000) (wrap64 ((Int.tmod (wrap64 (a2)) 1000) + (Int.tmod (wrap64 (a3)) 1000))) (!Ym) kW.1 kW.2.1 kW.2.2.1 kW.2.2.2.1 kW.2.2.2.2 mJ.1 mJ.2.1 mJ.2.2.1 mJ.2.2.2.1 mJ.2.2.2.2)) else (none)) else (none))))))) else (none)) else (none)) = some r := by first | (rw [KA] at H; exact H) | (simp only [KA] at H ⊢; exact H)
    (try rw [KA] at RP)
    have bM3 : (IntKind.i64.wrap ((((aJ aW 0).f4).length : Int) - 1)) = eT := (dO _).trans KA
    revert H; refine yX fun Dz H => ?_
    revert H; refine yX fun aJX H => ?_
    replace H := jT H
    obtain ⟨qA, A21, H⟩ := H
    (try dsimp only at H)
    replace H := jT H
    obtain ⟨⟨uF, kQ, uG, iC, uH⟩, qp, H⟩ := H
    (try dsimp only at H)
    replace H := jT H
    obtain ⟨⟨nW, kG, nX, iT, nY⟩, A23, H⟩ := H
    (try dsimp only at H)
    have aYZ := za H
    clear H
    obtain ⟨aNZ, xZ, aN0⟩ := Kd.bJ iO.out
    subst aN0
    try go_wp2_with (first | ((with_reducible refine zg 6 rfl ?_); refine kZ (some 37) Try.func6 #[.slice aNZ aW.length xZ] ?_; refine (bA.calls Ia _ _ aW mI _ o9 SY RP.out).mono ?_; rintro e w26 ⟨bPb, rfl, ho0, hb⟩; refine ⟨_, rfl, ?_⟩; replace iO := qF iO hb; have gD := za (Kd.eU ho0 (aT kU)); replace HB := za (aM kU hb)))
    replace iO := Ao iO
    replace gD := Ao gD
    replace HB := za (bK HB.out)
    have kz : 0 ≤ (0 : Int) := (by omega)
    have lg : 0 < (aW.length : Int) := of_decide_eq_true iL
    obtain ⟨dM, lh, ll, lq, lu, bHe, bSB, aY0, Kr, Kt, Bi, Bj, Bl, YC, YD, YE, YF, YG, YH⟩ := Ae (Kd.cZ iO.out).2.2 0 kz lg
    cases aY0
    obtain ⟨bM4, aI1, aI2, BM⟩ := Kd.JX iO.out z31 0 kz (by first | exact lg | exact of_decide_eq_true iL | (have e_ := (Kd.cZ iO.out).1; omega))
    obtain ⟨aY1, aY2, aY3, rfl, FX, FY, FZ⟩ := Dv aI2
    have Ku := BM 2 _ rfl
    rw [dN _ _ 2 (by omega)] at Ku
    replace Ku := Option.some.inj (Ku.symm.trans Bi)
    rw [Ku] at FX
    have GA := za (show Kd.R Yq 87 _ _ _ _ ((aJ aW 0).f2) from FX)
    clear Ku FX
    have Kv := BM 3 _ rfl
    rw [dN _ _ 3 (by omega)] at Kv
    replace Kv := Option.some.inj (Kv.symm.trans Bj)
    rw [Kv] at FY
    have GD := za (show Kd.R Xh 49 _ _ _ _ ((aJ aW 0).f3) from FY)
    clear Kv FY
    have Kw := BM 4 _ rfl
    rw [dN _ _ 4 (by omega)] at Kw
    replace Kw := Option.some.inj (Kw.symm.trans Bl)
    rw [Kw] at FZ
    have vT := za (show Kd.R Vo 38 _ _ _ _ ((aJ aW 0).f4) from FZ)
    clear Kw FZ
    clear BM aI1
    have bM5 : (0 < aW.length) = True := eq_true (by omega)
    (try rw [show ((0 : Int)).toNat = 0 from rfl] at Kr)
    (try rw [show 0 * 5 = 0 from rfl] at Kr)
    (try rw [Addr.add_zero'] at Kr)
    (try rw [show ((0 : Int)).toNat = 0 from rfl] at Kt)
    (try rw [show 0 * 5 = 0 from rfl] at Kt)
    (try rw [Addr.add_zero'] at Kt)
    (try rw [show ((0 : Int)).toNat = 0 from rfl] at Bi)
    (try rw [show 0 * 5 = 0 from rfl] at Bi)
    (try rw [Addr.add_zero'] at Bi)
    (try rw [show ((0 : Int)).toNat = 0 from rfl] at Bj)
    (try rw [show 0 * 5 = 0 from rfl] at Bj)
    (try rw [Addr.add_zero'] at Bj)
    (try rw [show ((0 : Int)).toNat = 0 from rfl] at Bl)
    (try rw [show 0 * 5 = 0 from rfl] at Bl)
    (try rw [Addr.add_zero'] at Bl)
    have Ut := za YD
    have aY4 := za YC
    clear YD YC
    have Uu := za YF
    have aY5 := za YE
    clear YF YE
    have Qh := za YH
    have aY6 := za YG
    clear YH YG
    replace kz := eq_true kz
    replace lg := eq_true lg
    have ma : 0 ≤ (0 : Int) := (by omega)
    have mf : 0 < (aW.length : Int) := of_decide_eq_true iL
    obtain ⟨aOZ, bHf, bHg, bHh, bHi, bHj, bHk, aY7, Ky, Kz, Bn, Bo, Bp, YI, YJ, YK, YL, YM, YN⟩ := Ae (Kd.cZ iO.out).2.2 0 ma mf
    obtain rfl : dM = aOZ := (by injection aY7)
    obtain ⟨bM6, aI3, aI4, BN⟩ := Kd.JX iO.out z31 0 ma (by first | exact mf | exact of_decide_eq_true iL | (have e_ := (Kd.cZ iO.out).1; omega))
    obtain ⟨aY8, aY9, aZa, rfl, GG, GH, GI⟩ := Dv aI4
    have La := BN 2 _ rfl
    rw [dN _ _ 2 (by omega)] at La
    replace La := Option.some.inj (La.symm.trans Bn)
    rw [La] at GG
    have GJ := za (show Kd.R Yq 87 _ _ _ _ ((aJ aW 0).f2) from GG)
    clear La GG
    have Lb := BN 3 _ rfl
    rw [dN _ _ 3 (by omega)] at Lb
    replace Lb := Option.some.inj (Lb.symm.trans Bo)
    rw [Lb] at GH
    have GK := za (show Kd.R Xh 49 _ _ _ _ ((aJ aW 0).f3) from GH)
    clear Lb GH
    have Lc := BN 4 _ rfl
    rw [dN _ _ 4 (by omega)] at Lc
    replace Lc := Option.some.inj (Lc.symm.trans Bp)
    rw [Lc] at GI
    have GL := za (show Kd.R Vo 38 _ _ _ _ ((aJ aW 0).f4) from GI)
    clear Lc GI
    clear BN aI3
    have bM7 : (0 < aW.length) = True := eq_true (by omega)
    (try rw [show ((0 : Int)).toNat = 0 from rfl] at Ky)
    (try rw [show 0 * 5 = 0 from rfl] at Ky)
    (try rw [Addr.add_zero'] at Ky)
    (try rw [show ((0 : Int)).toNat = 0 from rfl] at Kz)
    (try rw [show 0 * 5 = 0 from rfl] at Kz)
    (try rw [Addr.add_zero'] at Kz)
    (try rw [show ((0 : Int)).toNat = 0 from rfl] at Bn)
    (try rw [show 0 * 5 = 0 from rfl] at Bn)
    (try rw [Addr.add_zero'] at Bn)
    (try rw [show ((0 : Int)).toNat = 0 from rfl] at Bo)
    (try rw [show 0 * 5 = 0 from rfl] at Bo)
    (try rw [Addr.add_zero'] at Bo)
    (try rw [show ((0 : Int)).toNat = 0 from rfl] at Bp)
    (try rw [show 0 * 5 = 0 from rfl] at Bp)
    (try rw [Addr.add_zero'] at Bp)
    have Uv := za YJ
    have aZb := za YI
    clear YJ YI
    have Uw := za YL
    have aZc := za YK
    clear YL YK
    have Ux := za YN
    have aZd := za YM
    clear YN YM
    replace ma := eq_true ma
    replace mf := eq_true mf
    have Dj := Option.some.inj (Bi.symm.trans Bn)
    injection Dj with Dj QV QW
    subst Dj
    subst QW
    clear QV
    have Dj := Option.some.inj (Bj.symm.trans Bo)
    injection Dj with Dj QV QW
    subst Dj
    subst QW
    clear QV
    have Dj := Option.some.inj (Bl.symm.trans Bp)
    injection Dj with Dj QV QW
    subst Dj
    subst QW
    clear QV
    have mg : 0 ≤ ((eT) : Int) := of_decide_eq_true iL
    have mh : (eT) < (((aJ aW 0).f4).length : Int) := of_decide_eq_true iL
    obtain ⟨tV, sV, sW, sZ, tC, tF, tH, aZe, YO, GM, YP, YQ, YR, GN, GQ, YS, YT, YU, YV, YW, YX, YY⟩ := E9 aJC (eT) mg mh
    cases aZe
    obtain ⟨bM8, aI5, aI6, BP⟩ := Kd.JX vT.out z38 (eT) mg (by first | exact mh | exact of_decide_eq_true iL | (have e_ := (Kd.cZ vT.out).1; omega))
    obtain ⟨aZf, aZg, aZh, rfl, GR, GU, GV⟩ := pg aI6
    have Ld := BP 1 _ rfl
    rw [dN _ _ 1 (by omega)] at Ld
    replace Ld := Option.some.inj (Ld.symm.trans GM)
    rw [Ld] at GR
    have GX := za (show Kd.R ZV 76 _ _ _ _ ((bE ((aJ aW 0).f4) (eT)).f1) from GR)
    clear Ld GR
    have Le := BP 5 _ rfl
    rw [dN _ _ 5 (by omega)] at Le
    replace Le := Option.some.inj (Le.symm.trans GN)
    rw [Le] at GU
    have GY := za (show Kd.R Kd.string 9 _ _ _ _ ((bE ((aJ aW 0).f4) (eT)).f5) from GU)
    clear Le GU
    have Lf := BP 6 _ rfl
    rw [dN _ _ 6 (by omega)] at Lf
    replace Lf := Option.some.inj (Lf.symm.trans GQ)
    rw [Lf] at GV
    have GZ := za (show Kd.R Fv 94 _ _ _ _ ((bE ((aJ aW 0).f4) (eT)).f6) from GV)
    clear Lf GV
    clear BP aI5
    have Uy := za YU
    have aZi := za YT
    clear YU YT
    have Uz := za YW
    have aZj := za YV
    clear YW YV
    have Va := za YY
    have aZk := za YX
    clear YY YX
    replace mg := eq_true mg
    replace mh := eq_true mh
    refine lW (n := 14) (S := fun w' => w'.cell? dM = some (.string ((aJ aW 0).f0)) ∧ w'.cell? ⟨dM.block, dM.off + 1, none⟩ = some (.int .i64 ((aJ aW 0).f1)) ∧ w'.cell? ⟨dM.block, dM.off + 2, none⟩ = some (.slice lh ((aJ aW 0).f2).length ll) ∧ w'.cell? ⟨dM.block, dM.off + 3, none⟩ = some (.slice lq ((aJ aW 0).f3).length lu) ∧ w'.cell? ⟨dM.block, dM.off + 4, none⟩ = some (.slice (some tV) ((aJ aW 0).f4).length bSB) ∧ w'.cell? dM = some (.string ((aJ aW 0).f0)) ∧ w'.cell? ⟨dM.block, dM.off + 1, none⟩ = some (.int .i64 ((aJ aW 0).f1)) ∧ w'.cell? ⟨dM.block, dM.off + 2, none⟩ = some (.slice lh ((aJ aW 0).f2).length ll) ∧ w'.cell? ⟨dM.block, dM.off + 3, none⟩ = some (.slice lq ((aJ aW 0).f3).length lu) ∧ w'.cell? ⟨dM.block, dM.off + 4, none⟩ = some (.slice (some tV) ((aJ aW 0).f4).length bSB) ∧ w'.cell? (tV.add (((eT)).toNat * 8)) = some (.string ((bE ((aJ aW 0).f4) (eT)).f0)) ∧ w'.cell? ⟨(tV.add (((eT)).toNat * 8)).block, (tV.add (((eT)).toNat * 8)).off + 1, none⟩ = some (.slice sV ((bE ((aJ aW 0).f4) (eT)).f1).length sW) ∧ w'.cell? ⟨(tV.add (((eT)).toNat * 8)).block, (tV.add (((eT)).toNat * 8)).off + 2, none⟩ = some (.bool ((bE ((aJ aW 0).f4) (eT)).f2)) ∧ w'.cell? ⟨(tV.add (((eT)).toNat * 8)).block, (tV.add (((eT)).toNat * 8)).off + 3, none⟩ = some (.string ((bE ((aJ aW 0).f4) (eT)).f3)) ∧ w'.cell? ⟨(tV.add (((eT)).toNat * 8)).block, (tV.add (((eT)).toNat * 8)).off + 4, none⟩ = some (.string ((bE ((aJ aW 0).f4) (eT)).f4)) ∧ w'.cell? ⟨(tV.add (((eT)).toNat * 8)).block, (tV.add (((eT)).toNat * 8)).off + 5, none⟩ = some (.slice sZ ((bE ((aJ aW 0).f4) (eT)).f5).length tC) ∧ w'.cell? ⟨(tV.add (((eT)).toNat * 8)).block, (tV.add (((eT)).toNat * 8)).off + 6, none⟩ = some (.slice tF ((bE ((aJ aW 0).f4) (eT)).f6).length tH) ∧ w'.cell? ⟨(tV.add (((eT)).toNat * 8)).block, (tV.add (((eT)).toNat * 8)).off + 7, none⟩ = some (.int .i64 ((bE ((aJ aW 0).f4) (eT)).f7))) (ds := []) #[false, false, false, false, false, false, false, false, false, false, false, false, false, false] dU rfl rfl ⟨Kr, Kt, Bi, Bj, Bl, Ky, Kz, Bn, Bo, Bp, YO, GM, YP, YQ, YR, GN, GQ, YS⟩ (fun hHeld => ?_); refine gX aI.aCn aI.VT (fun dB qB => ?_)
    generalize w26.drew = w27 at iO gD HB GA GD vT GJ GK GL GX GY GZ Ut Uu Qh Uv Uw Ux Uy Uz Va Kr Kt Bi Bj Bl Ky Kz Bn Bo Bp YO GM YP YQ YR GN GQ YS hHeld ⊢
    refine gV 0 (some 38) dB ?_
    refine gV 1 (some 39) dB ?_
    refine gV 2 (some 40) dB ?_
    refine gV 4 (some 42) dB ?_
    refine gV 5 (some 43) dB ?_
    refine gV 6 (some 44) dB ?_
    refine vP 3 (some 41) dB qB hHeld ?_
    refine vP 7 (some 45) dB qB hHeld ?_
    refine gV 8 (some 46) dB ?_
    refine gV 9 (some 47) dB ?_
    refine gV 10 (some 48) dB ?_
    refine vP 11 (some 49) dB qB hHeld ?_
    refine Cn 12 (some 11) dB (fun K hK => ?_)
    refine uM ?hg (N := 11) ?hd (cs := #[.string (⟨#[]⟩ : ByteArray), .slice none 0 0, .bool false, .string (⟨#[]⟩ : ByteArray), .string (⟨#[]⟩ : ByteArray), .slice none 0 0, .slice none 0 0, .int .i64 0]) (t := 38) ?hr ?_; (case hd => rfl); (case hg => rfl); (case hr => exact jA)
    intro bS hg w28 gP hb
    have Om := bIG hb hHeld
    replace iO := za (Kd.iX (Kd.xR (zr iO.out) bS (Nat.le_of_eq hg.symm)) hb)
    replace gD := qF gD hb
    replace GA := qF GA hb
    replace GD := qF GD hb
    replace vT := za (Kd.iX (Kd.xR (zr vT.out) bS (Nat.le_of_eq hg.symm)) hb)
    replace GJ := qF GJ hb
    replace GK := qF GK hb
    replace GL := za (Kd.iX (Kd.xR (zr GL.out) bS (Nat.le_of_eq hg.symm)) hb)
    replace GX := qF GX hb
    replace GY := qF GY hb
    replace GZ := qF GZ hb
    replace Ut := za (Kd.dG (by repeat (first | (with_reducible exact Ut.out) | (with_reducible refine Kd.jV ?_ _) | (with_reducible refine Kd.jW ?_ _) | (with_reducible refine Kd.kR ?_) | exact Ut.out)) hb)
    replace Uu := za (Kd.dG (by repeat (first | (with_reducible exact Uu.out) | (with_reducible refine Kd.jV ?_ _) | (with_reducible refine Kd.jW ?_ _) | (with_reducible refine Kd.kR ?_) | exact Uu.out)) hb)
    replace Qh := za (Kd.dG aJC hb)
    replace Uv := za (Kd.dG (by repeat (first | (with_reducible exact Uv.out) | (with_reducible refine Kd.jV ?_ _) | (with_reducible refine Kd.jW ?_ _) | (with_reducible refine Kd.kR ?_) | exact Uv.out)) hb)
    replace Uw := za (Kd.dG (by repeat (first | (with_reducible exact Uw.out) | (with_reducible refine Kd.jV ?_ _) | (with_reducible refine Kd.jW ?_ _) | (with_reducible refine Kd.kR ?_) | exact Uw.out)) hb)
    replace Ux := za (Kd.dG (by repeat (first | (with_reducible exact Ux.out) | (with_reducible refine Kd.jV ?_ _) | (with_reducible refine Kd.jW ?_ _) | (with_reducible refine Kd.kR ?_) | exact Ux.out)) hb)
    replace Uy := za (Kd.dG (by repeat (first | (with_reducible exact Uy.out) | (with_reducible refine Kd.jV ?_ _) | (with_reducible refine Kd.jW ?_ _) | (with_reducible refine Kd.kR ?_) | exact Uy.out)) hb)
    replace Uz := za (Kd.dG (by repeat (first | (with_reducible exact Uz.out) | (with_reducible refine Kd.jV ?_ _) | (with_reducible refine Kd.jW ?_ _) | (with_reducible refine Kd.kR ?_) | exact Uz.out)) hb)
    replace Va := za (Kd.dG (by repeat (first | (with_reducible exact Va.out) | (with_reducible refine Kd.jV ?_ _) | (with_reducible refine Kd.jW ?_ _) | (with_reducible refine Kd.kR ?_) | exact Va.out)) hb)
    have bG := za (gP)
    have bM9 := za ((by rw [hg]; exact (aT kU) : w.heap.size ≤ bS))
    have F3 := za ((by rw [hg]; exact (aT kU) : w.heap.size ≤ bS))
    replace HB := za (aM kU hb)
    clear hb gP hg
    refine hK.out _ _ Om (fun hHeld => ?_)
    clear hK K
    refine jS (a' := ?_) ?_ ?_
    rotate_left
    ·
     show Act.put _ (some 11) _ = _
     simp only [Act.put, List.setIfInBounds_toArray, List.set_cons_zero, List.set_cons_succ, dO, dQ]
     rfl
    refine Cn 13 none dB (fun K hK => ?_)
    have bRf : w28.cell? ⟨bS, 0, none⟩ = some (.string (⟨#[]⟩ : ByteArray)) := (aA bG.out 0).trans rfl
    have bPc := aD bG.out 0
    have bRg : w28.cell? ⟨bS, 1, none⟩ = some (.slice none 0 0) := (aA bG.out 1).trans rfl
    have bPd := aD bG.out 1
    have bRh : w28.cell? ⟨bS, 2, none⟩ = some (.bool false) := (aA bG.out 2).trans rfl
    have bPe := aD bG.out 2
    have bRi : w28.cell? ⟨bS, 3, none⟩ = some (.string (⟨#[]⟩ : ByteArray)) := (aA bG.out 3).trans rfl
    have bPf := aD bG.out 3
    have bRj : w28.cell? ⟨bS, 4, none⟩ = some (.string (⟨#[]⟩ : ByteArray)) := (aA bG.out 4).trans rfl
    have bPg := aD bG.out 4
    have bRk : w28.cell? ⟨bS, 5, none⟩ = some (.slice none 0 0) := (aA bG.out 5).trans rfl
    have bPh := aD bG.out 5
    have bRl : w28.cell? ⟨bS, 6, none⟩ = some (.slice none 0 0) := (aA bG.out 6).trans rfl
    have bPi := aD bG.out 6
    have bRm : w28.cell? ⟨bS, 7, none⟩ = some (.int .i64 0) := (aA bG.out 7).trans rfl
    have bPj := aD bG.out 7
    refine Cb (w1 := ?_) (by rfl) rfl ?_ ?_
    rotate_left
    ·
     go_simp
     rfl
    refine hK.out _ _ ⟨(RN bT6 hHeld.1), (RN bT6 hHeld.2.1), (RN bT6 hHeld.2.2.1), (RN bT6 hHeld.2.2.2.1), (RN bT6 hHeld.2.2.2.2.1), (RN bT6 hHeld.2.2.2.2.2.1), (RN bT6 hHeld.2.2.2.2.2.2.1), (RN bT6 hHeld.2.2.2.2.2.2.2.1), (RN bT6 hHeld.2.2.2.2.2.2.2.2.1), (RN bT6 hHeld.2.2.2.2.2.2.2.2.2.1), (RN bT7 hHeld.2.2.2.2.2.2.2.2.2.2.1), (RN bT7 hHeld.2.2.2.2.2.2.2.2.2.2.2.1), (RN bT7 hHeld.2.2.2.2.2.2.2.2.2.2.2.2.1), (RN bT7 hHeld.2.2.2.2.2.2.2.2.2.2.2.2.2.1), (RN bT7 hHeld.2.2.2.2.2.2.2.2.2.2.2.2.2.2.1), (RN bT7 hHeld.2.2.2.2.2.2.2.2.2.2.2.2.2.2.2.1), (RN bT7 hHeld.2.2.2.2.2.2.2.2.2.2.2.2.2.2.2.2.1), (RN bT7 hHeld.2.2.2.2.2.2.2.2.2.2.2.2.2.2.2.2.2)⟩ (fun hHeld => ?_)
    clear hK K
    refine pO (jX dB.out dU) ?_
    obtain ⟨bHl, bHm, bHn, bHo, bHp, bHq, bHr, bHs⟩ := qi bG.out
    obtain ⟨bHt, bHu, bHv, bHw, bHx, bHy, bHz, bHA⟩ := zf8 bG.out
    try go_wp2_with (first | ((with_reducible refine zg 7 rfl ?_); refine kZ (some 54) Try.func7 #[.slice A1 l1.length c1, .int .i64 (((bE ((aJ aW 0).f4) (eT)).f1).length : Int)] ?_; refine (cO.calls Ia _ _ l1 (((bE ((aJ aW 0).f4) (eT)).f1).length : Int) qA _ (Kd.dG HR1.out Yt) HC1.out A21.out).mono ?_; rintro e w38 ⟨bPk, rfl, ho0, hb⟩; refine ⟨_, rfl, ?_⟩; replace iO := za (Kd.iX (by (with_reducible repeat (first | apply Kd.bC | apply Kd.bF | apply Kd.bP)); exact (Kd.aQ (zR8 (Kd.aQ iO.out (fun k_ hk => (⟨hk, hk.2⟩ : _ ∧ k_ ≠ bS))) (fun _ hk => hk.2)) (fun _ h_ => h_.1))) hb); replace gD := za (Kd.iX (by (with_reducible repeat (first | apply Kd.bC | apply Kd.bF | apply Kd.bP)); exact (Kd.aQ (zR8 (Kd.dS gD.out bG.out (by decide)) (fun _ hk => hk.2)) (fun _ h_ => h_.1))) hb); have iD := za (Kd.eU ho0 (aT Yt)); replace bG := za (aY (g := bS) (zP8 bG.out) hb); replace HB := za (aM Yt hb); (try clear hb ho0); obtain ⟨HY, IA, bNa⟩ := Kd.bJ iD.out; subst bNa; obtain ⟨zV, wS, aOB⟩ := Kd.bJ gD.out; subst aOB))
    replace iO := Ao iO
    replace gD := Ao gD
    replace iD := Ao iD
    replace bG := za (dE bG.out)
    replace HB := za (bK HB.out)
    have mi : 0 ≤ (0 : Int) := (by omega)
    have mo : 0 < (aW.length : Int) := of_decide_eq_true iL
    obtain ⟨aO0, Vb, Vd, Ve, Vf, Vg, Vh, aZl, Lg, Lh, Eu, Ew, Ex, YZ, ZA, ZB, ZC, ZE, ZF⟩ := Ae (Kd.cZ iO.out).2.2 0 mi mo
    obtain rfl : dM = aO0 := (by injection aZl)
    obtain ⟨bNb, aI7, aI8, BU⟩ := Kd.JX iO.out z31 0 mi (by first | exact mo | exact of_decide_eq_true iL | (have e_ := (Kd.cZ iO.out).1; omega))
    obtain ⟨aZm, aZn, aZo, rfl, IB, IC, IE⟩ := Dv aI8
    have Li := BU 2 _ rfl
    rw [dN _ _ 2 (by omega)] at Li
    replace Li := Option.some.inj (Li.symm.trans Eu)
    rw [Li] at IB
    have tQ := za (show Kd.R Yq 87 _ _ _ _ ((aJ aW 0).f2) from IB)
    clear Li IB
    have Lj := BU 3 _ rfl
    rw [dN _ _ 3 (by omega)] at Lj
    replace Lj := Option.some.inj (Lj.symm.trans Ew)
    rw [Lj] at IC
    have tT := za (show Kd.R Xh 49 _ _ _ _ ((aJ aW 0).f3) from IC)
    clear Lj IC
    have Ll := BU 4 _ rfl
    rw [dN _ _ 4 (by omega)] at Ll
    replace Ll := Option.some.inj (Ll.symm.trans Ex)
    rw [Ll] at IE
    have tL := za (show Kd.R Vo 38 _ _ _ _ ((aJ aW 0).f4) from IE)
    clear Ll IE
    clear BU aI7
    have bNc : (0 < aW.length) = True := eq_true (by omega)
    (try rw [show ((0 : Int)).toNat = 0 from rfl] at Lg)
    (try rw [show 0 * 5 = 0 from rfl] at Lg)
    (try rw [Addr.add_zero'] at Lg)
    (try rw [show ((0 : Int)).toNat = 0 from rfl] at Lh)
    (try rw [show 0 * 5 = 0 from rfl] at Lh)
    (try rw [Addr.add_zero'] at Lh)
    (try rw [show ((0 : Int)).toNat = 0 from rfl] at Eu)
    (try rw [show 0 * 5 = 0 from rfl] at Eu)
    (try rw [Addr.add_zero'] at Eu)
    (try rw [show ((0 : Int)).toNat = 0 from rfl] at Ew)
    (try rw [show 0 * 5 = 0 from rfl] at Ew)
    (try rw [Addr.add_zero'] at Ew)
    (try rw [show ((0 : Int)).toNat = 0 from rfl] at Ex)
    (try rw [show 0 * 5 = 0 from rfl] at Ex)
    (try rw [Addr.add_zero'] at Ex)
    have Ag := za ZA
    have aZp := za YZ
    clear ZA YZ
    have Ah := za ZC
    have aZq := za ZB
    clear ZC ZB
    have Ai := za ZF
    have aZr := za ZE
    clear ZF ZE
    replace mi := eq_true mi
    replace mo := eq_true mo
    refine lW (n := 13) (S := fun w' => w'.cell? ⟨bS, 0, none⟩ = some (.string ((bE ((aJ aW 0).f4) (eT)).f0)) ∧ w'.cell? ⟨bS, 1, none⟩ = some (.slice sV ((bE ((aJ aW 0).f4) (eT)).f1).length sW) ∧ w'.cell? ⟨bS, 2, none⟩ = some (.bool ((bE ((aJ aW 0).f4) (eT)).f2)) ∧ w'.cell? ⟨bS, 3, none⟩ = some (.string ((bE ((aJ aW 0).f4) (eT)).f3)) ∧ w'.cell? ⟨bS, 4, none⟩ = some (.string ((bE ((aJ aW 0).f4) (eT)).f4)) ∧ w'.cell? ⟨bS, 5, none⟩ = some (.slice sZ ((bE ((aJ aW 0).f4) (eT)).f5).length tC) ∧ w'.cell? ⟨bS, 6, none⟩ = some (.slice tF ((bE ((aJ aW 0).f4) (eT)).f6).length tH) ∧ w'.cell? ⟨bS, 7, none⟩ = some (.int .i64 ((bE ((aJ aW 0).f4) (eT)).f7)) ∧ w'.cell? dM = some (.string ((aJ aW 0).f0)) ∧ w'.cell? ⟨dM.block, dM.off + 1, none⟩ = some (.int .i64 ((aJ aW 0).f1)) ∧ w'.cell? ⟨dM.block, dM.off + 2, none⟩ = some (.slice Vb ((aJ aW 0).f2).length Vd) ∧ w'.cell? ⟨dM.block, dM.off + 3, none⟩ = some (.slice Ve ((aJ aW 0).f3).length Vf) ∧ w'.cell? ⟨dM.block, dM.off + 4, none⟩ = some (.slice Vg ((aJ aW 0).f4).length Vh)) (ds := []) #[false, false, false, false, false, false, false, false, false, false, false, false, false] dU rfl rfl ⟨(aA bG.out 0).trans rfl, (aA bG.out 1).trans rfl, (aA bG.out 2).trans rfl, (aA bG.out 3).trans rfl, (aA bG.out 4).trans rfl, (aA bG.out 5).trans rfl, (aA bG.out 6).trans rfl, (aA bG.out 7).trans rfl, Lg, Lh, Eu, Ew, Ex⟩ (fun hHeld => ?_); refine gX aI.aIA aI.jg (fun dB qB => ?_)
    generalize w38.drew = w41 at iO gD iD bG HB tQ tT tL Ag Ah Ai Lg Lh Eu Ew Ex hHeld ⊢
    refine gV 0 (some 65) dB ?_
    refine gV 1 (some 66) dB ?_
    refine gV 2 (some 67) dB ?_
    refine gV 3 (some 68) dB ?_
    refine gV 5 (some 70) dB ?_
    refine gV 7 (some 72) dB ?_
    refine gV 8 (some 73) dB ?_
    refine gV 9 (some 74) dB ?_
    refine vP 4 (some 69) dB qB hHeld ?_
    refine vP 6 (some 71) dB qB hHeld ?_
    refine aJi (σ := Value × Value × Nat) 1 #[true, true, true, true, true, true, true, true, true, true, true, true, false] (fun s_ => [(75, .agg #[.int .i64 uF, s_.1, .int .i64 uG, s_.2.1, .int .i64 uH]), (15, .pointer (some ⟨s_.2.2, 0, none⟩))]) (fun s_ w' => (w'.cell? ⟨bS, 0, none⟩ = some (.string ((bE ((aJ aW 0).f4) (eT)).f0)) ∧ w'.cell? ⟨bS, 1, none⟩ = some (.slice sV ((bE ((aJ aW 0).f4) (eT)).f1).length sW) ∧ w'.cell? ⟨bS, 2, none⟩ = some (.bool ((bE ((aJ aW 0).f4) (eT)).f2)) ∧ w'.cell? ⟨bS, 3, none⟩ = some (.string ((bE ((aJ aW 0).f4) (eT)).f3)) ∧ w'.cell? ⟨bS, 4, none⟩ = some (.string ((bE ((aJ aW 0).f4) (eT)).f4)) ∧ w'.cell? ⟨bS, 5, none⟩ = some (.slice sZ ((bE ((aJ aW 0).f4) (eT)).f5).length tC) ∧ w'.cell? ⟨bS, 6, none⟩ = some (.slice tF ((bE ((aJ aW 0).f4) (eT)).f6).length tH) ∧ w'.cell? ⟨bS, 7, none⟩ = some (.int .i64 ((bE ((aJ aW 0).f4) (eT)).f7)) ∧ w'.cell? dM = some (.string ((aJ aW 0).f0)) ∧ w'.cell? ⟨dM.block, dM.off + 1, none⟩ = some (.int .i64 ((aJ aW 0).f1)) ∧ w'.cell? ⟨dM.block, dM.off + 2, none⟩ = some (.slice Vb ((aJ aW 0).f2).length Vd) ∧ w'.cell? ⟨dM.block, dM.off + 3, none⟩ = some (.slice Ve ((aJ aW 0).f3).length Vf) ∧ w'.cell? ⟨dM.block, dM.off + 4, none⟩ = some (.slice Vg ((aJ aW 0).f4).length Vh)) ∧ (Kd.R Yq 87 w' w.heap.size (fun k_ => some k_ ≠ (.slice (some dM) aW.length xZ : Value).ownBlock ∧ k_ ≠ bS) (.slice Vb ((aJ aW 0).f2).length Vd) ((aJ aW 0).f2)) ∧ (Kd.R Xh 49 w' w.heap.size (fun k_ => some k_ ≠ (.slice (some dM) aW.length xZ : Value).ownBlock ∧ k_ ≠ bS) (.slice Ve ((aJ aW 0).f3).length Vf) ((aJ aW 0).f3)) ∧ (Kd.R Vo 38 w' w.heap.size (fun k_ => some k_ ≠ (s_.2.1 : Value).ownBlock ∧ some k_ ≠ (.slice (some dM) aW.length xZ : Value).ownBlock ∧ k_ ≠ bS) (.slice Vg ((aJ aW 0).f4).length Vh) ((aJ aW 0).f4)) ∧ (Kd.R pR 51 w' w.heap.size (fun k_ => some k_ ≠ (s_.1 : Value).ownBlock) (.slice zV mI.length wS) mI) ∧ (Kd.R (Kd.int .i64) 3 w' w.heap.size (fun _ => True) (.slice HY qA.length IA) qA) ∧ (Kd.R pR 51 w' w.heap.size (fun k_ => some k_ ≠ (.slice zV mI.length wS : Value).ownBlock) s_.1 kQ) ∧ (Kd.R Kd.string 9 w' w.heap.size (fun _ => True) s_.2.1 iC) ∧ (Kd.R k31 31 w' w.heap.size (fun k_ => some k_ ≠ (s_.2.1 : Value).ownBlock ∧ k_ ≠ bS) (.slice (some dM) aW.length xZ) aW) ∧ (w'.heap[bS]? = some (.cells #[.string ((bE ((aJ aW 0).f4) (eT)).f0), .slice sV ((bE ((aJ aW 0).f4) (eT)).f1).length sW, .bool ((bE ((aJ aW 0).f4) (eT)).f2), .string ((bE ((aJ aW 0).f4) (eT)).f3), .string ((bE ((aJ aW 0).f4) (eT)).f4), .slice sZ ((bE ((aJ aW 0).f4) (eT)).f5).length tC, .slice tF ((bE ((aJ aW 0).f4) (eT)).f6).length tH, .int .i64 ((bE ((aJ aW 0).f4) (eT)).f7)] 38 (0, 0))) ∧ (w'.heap[s_.2.2]? = some (.cells #[.int .i64 0, .slice none 0 0, .int .i64 0, .slice none 0 0, .int .i64 0] 41 (0, 0))) ∧ (w.heap.size ≤ s_.2.2) ∧ (w.heap.size ≤ s_.2.2) ∧ (bS ≠ s_.2.2) ∧ (s_.2.2 ≠ bS) ∧ (Below w.heap.size w w')) ?_ ?_
    rotate_left
    ·
     intro ZG
     refine aPf (i := 10) (j := 11) (Ni := some 75) (Nj := some 15) #[true, true, true, true, true, true, true, true, true, true, true, false, false] #[true, true, true, true, true, true, true, true, true, true, false, true, false] rfl rfl rfl rfl (yl dB.out dU) (by decide) (by decide) (fun K hK => ?_) (fun K hK => ?_)
     ·
      skip
      refine wT Try.func8 dU rfl #[.slice (some dM) aW.length xZ, .string ((aJ aW 0).f0), .string ((bE ((aJ aW 0).f4) (eT)).f0), .slice HY qA.length IA, .slice zV mI.length wS, .int .i64 (Int.tmod (wrap64 (a2)) 1000)] (by rfl) rfl rfl aED ?_
      with_reducible refine (aC.calls Ia _ _ aW ((aJ aW 0).f0) ((bE ((aJ aW 0).f4) (eT)).f0) _ _ qA _ _ mI (Int.tmod (wrap64 (a2)) 1000) uF kQ uG iC uH _ ?side1 ?side2 ?side3 ?side4 ?side5 ?side6 qp.out).mono ?_
      (case side1 => exact o9)
      (case side2 => exact SY)
      (case side3 => exact aEO)
      (case side4 => exact (Kd.cZ iD.out).2.1)
      (case side5 => exact aEP)
      (case side6 => exact (Kd.cZ gD.out).2.1)
      rintro e w42 ⟨MN, IG, rfl, ho0, ho1, hb⟩
      have Om := zH5 hb hHeld.2.2.2.2.2.2.2.2
      refine ⟨_, rfl, ?_⟩
      replace iO := za (Kd.mX (zr iO.out) (Kd.iV ho1) hb)
      replace iD := qF iD hb
      replace tQ := qF tQ hb
      replace tT := qF tT hb
      replace tL := za (Kd.mX (zr tL.out) (Kd.iV ho1) hb)
      have kC := za (Kd.eU (Kd.yQ ho0 (Kd.Hg (zr gD.out))) (aT Yt))
      replace gD := za (Kd.mX (zr gD.out) (Kd.iV ho0) hb)
      have jH := za (Kd.eU ho1 (aT Yt))
      replace bG := za (aY (g := bS) (zb bG.out) hb)
      replace Ag := za (Kd.dG aEH hb)
      replace Ah := za (Kd.dG aEI hb)
      replace Ai := za (Kd.dG aEJ hb)
      replace HB := za (aM Yt hb)
      refine hK.out _ _ ⟨(aA bG.out 0).trans rfl, (aA bG.out 1).trans rfl, (aA bG.out 2).trans rfl, (aA bG.out 3).trans rfl, (aA bG.out 4).trans rfl, (aA bG.out 5).trans rfl, (aA bG.out 6).trans rfl, (aA bG.out 7).trans rfl, Om⟩ (fun hHeld => ?_)
      clear hK K
      refine jS (a' := ?_) ?_ ?_
      rotate_left
      ·
       show Act.put _ (some 75) _ = _
       simp only [Act.put, List.setIfInBounds_toArray, List.set_cons_zero, List.set_cons_succ, dO, dQ]
       rfl
      refine Cn 11 (some 15) dB (fun K hK => ?_)
      refine uM ?hg (N := 15) ?hd (cs := #[.int .i64 0, .slice none 0 0, .int .i64 0, .slice none 0 0, .int .i64 0]) (t := 41) ?hr ?_; (case hd => rfl); (case hg => rfl); (case hr => exact jA)
      intro dD hg w43 gP hb
      have Om := zH5 hb hHeld.2.2.2.2.2.2.2.2
      replace iO := qF iO hb
      replace gD := qF gD hb
      replace iD := qF iD hb
      replace tQ := qF tQ hb
      replace tT := qF tT hb
      replace tL := qF tL hb
      replace kC := qF kC hb
      replace jH := qF jH hb
      replace Ag := za (Kd.dG aEH hb)
      replace Ah := za (Kd.dG aEI hb)
      replace Ai := za (Kd.dG aEJ hb)
      have dV := za (gP)
      have RF := za ((by rw [hg]; exact (aT Yt) : w.heap.size ≤ dD))
      have Oh := za ((by rw [hg]; exact (aT Yt) : w.heap.size ≤ dD))
      replace HB := za (aM Yt hb)
      have iU := za ((by rw [hg]; exact Nat.ne_of_lt (gB (g := bS) (zb bG.out)) : bS ≠ dD))
      have oJ := za ((by rw [hg]; exact Nat.ne_of_gt (gB (g := bS) (zb bG.out)) : dD ≠ bS))
      replace bG := za (aY (g := bS) (zb bG.out) hb)
      clear hb gP hg
      refine hK.out _ _ ⟨(aA bG.out 0).trans rfl, (aA bG.out 1).trans rfl, (aA bG.out 2).trans rfl, (aA bG.out 3).trans rfl, (aA bG.out 4).trans rfl, (aA bG.out 5).trans rfl, (aA bG.out 6).trans rfl, (aA bG.out 7).trans rfl, Om⟩ (fun hHeld => ?_)
      clear hK K
      refine jS (a' := ?_) ?_ ?_
      rotate_left
      ·
       show Act.put _ (some 15) _ = _
       simp only [Act.put, List.setIfInBounds_toArray, List.set_cons_zero, List.set_cons_succ, dO, dQ]
       rfl
      exact jS U2 (ZG (MN, IG, dD) _ ⟨hHeld, aPF, aPG, aPB, aJO, (zr iD.out), R3, (zr jH.out), aPI, (zb bG.out), (zb dV.out), RF.out, Oh.out, iU.out, oJ.out, Og⟩)
     ·
      skip
      refine uM ?hg (N := 15) ?hd (cs := #[.int .i64 0, .slice none 0 0, .int .i64 0, .slice none 0 0, .int .i64 0]) (t := 41) ?hr ?_; (case hd => rfl); (case hg => rfl); (case hr => exact jA)
      intro dD hg w42 gP hb
      have Om := zH5 hb hHeld.2.2.2.2.2.2.2.2
      replace iO := qF iO hb
      replace gD := qF gD hb
      replace iD := qF iD hb
      replace tQ := qF tQ hb
      replace tT := qF tT hb
      replace tL := qF tL hb
      replace Ag := za (Kd.dG aEH hb)
      replace Ah := za (Kd.dG aEI hb)
      replace Ai := za (Kd.dG aEJ hb)
      have dV := za (gP)
      have RF := za ((by rw [hg]; exact (aT Yt) : w.heap.size ≤ dD))
      have Oh := za ((by rw [hg]; exact (aT Yt) : w.heap.size ≤ dD))
      replace HB := za (aM Yt hb)
      have iU := za ((by rw [hg]; exact Nat.ne_of_lt (gB (g := bS) (zb bG.out)) : bS ≠ dD))
      have oJ := za ((by rw [hg]; exact Nat.ne_of_gt (gB (g := bS) (zb bG.out)) : dD ≠ bS))
      replace bG := za (aY (g := bS) (zb bG.out) hb)
      clear hb gP hg
      refine hK.out _ _ ⟨(aA bG.out 0).trans rfl, (aA bG.out 1).trans rfl, (aA bG.out 2).trans rfl, (aA bG.out 3).trans rfl, (aA bG.out 4).trans rfl, (aA bG.out 5).trans rfl, (aA bG.out 6).trans rfl, (aA bG.out 7).trans rfl, Om⟩ (fun hHeld => ?_)
      clear hK K
      refine jS (a' := ?_) ?_ ?_
      rotate_left
      ·
       show Act.put _ (some 15) _ = _
       simp only [Act.put, List.setIfInBounds_toArray, List.set_cons_zero, List.set_cons_succ, dO, dQ]
       rfl
      refine Cn 10 (some 75) dB (fun K hK => ?_)
      refine wT Try.func8 dU rfl #[.slice (some dM) aW.length xZ, .string ((aJ aW 0).f0), .string ((bE ((aJ aW 0).f4) (eT)).f0), .slice HY qA.length IA, .slice zV mI.length wS, .int .i64 (Int.tmod (wrap64 (a2)) 1000)] (by rfl) rfl rfl aED ?_
      with_reducible refine (aC.calls Ia _ _ aW ((aJ aW 0).f0) ((bE ((aJ aW 0).f4) (eT)).f0) _ _ qA _ _ mI (Int.tmod (wrap64 (a2)) 1000) uF kQ uG iC uH _ ?side1 ?side2 ?side3 ?side4 ?side5 ?side6 qp.out).mono ?_
      (case side1 => exact o9)
      (case side2 => exact SY)
      (case side3 => exact aEO)
      (case side4 => exact (Kd.cZ iD.out).2.1)
      (case side5 => exact aEP)
      (case side6 => exact (Kd.cZ gD.out).2.1)
      rintro e w43 ⟨MN, IG, rfl, ho0, ho1, hb⟩
      have Om := zH5 hb hHeld.2.2.2.2.2.2.2.2
      refine ⟨_, rfl, ?_⟩
      replace iO := za (Kd.mX (zr iO.out) (Kd.iV ho1) hb)
      replace iD := qF iD hb
      replace tQ := qF tQ hb
      replace tT := qF tT hb
      replace tL := za (Kd.mX (zr tL.out) (Kd.iV ho1) hb)
      have kC := za (Kd.eU (Kd.yQ ho0 (Kd.Hg (zr gD.out))) (aT Og))
      replace gD := za (Kd.mX (zr gD.out) (Kd.iV ho0) hb)
      have jH := za (Kd.eU ho1 (aT Og))
      replace bG := za (aY (g := bS) (zb bG.out) hb)
      replace Ag := za (Kd.dG aEH hb)
      replace Ah := za (Kd.dG aEI hb)
      replace Ai := za (Kd.dG aEJ hb)
      replace dV := za (aY (g := dD) (zb dV.out) hb)
      replace HB := za (aM Og hb)
      refine hK.out _ _ ⟨(aA bG.out 0).trans rfl, (aA bG.out 1).trans rfl, (aA bG.out 2).trans rfl, (aA bG.out 3).trans rfl, (aA bG.out 4).trans rfl, (aA bG.out 5).trans rfl, (aA bG.out 6).trans rfl, (aA bG.out 7).trans rfl, Om⟩ (fun hHeld => ?_)
      clear hK K
      refine jS (a' := ?_) ?_ ?_
      rotate_left
      ·
       show Act.put _ (some 75) _ = _
       simp only [Act.put, List.setIfInBounds_toArray, List.set_cons_zero, List.set_cons_succ, dO, dQ]
       rfl
      exact jS U2 (ZG (MN, IG, dD) _ ⟨hHeld, aPF, aPG, aPB, aJO, (zr iD.out), R3, (zr jH.out), aPI, (zb bG.out), (zb dV.out), RF.out, Oh.out, iU.out, oJ.out, Og⟩)
    rintro ⟨MN, IG, dD⟩ Fe ⟨hS_, h0_, h1_, h2_, h3_, h4_, h5_, h6_, h7_, h8_, h9_, aD5, aD6, aD7, aD8, aD9⟩
    have Qn : aG (Kd.R Yq 87 Fe w.heap.size (fun k_ => some k_ ≠ (.slice (some dM) aW.length xZ : Value).ownBlock ∧ k_ ≠ bS) (.slice Vb ((aJ aW 0).f2).length Vd) ((aJ aW 0).f2)) := ⟨h0_⟩
    have Qo : aG (Kd.R Xh 49 Fe w.heap.size (fun k_ => some k_ ≠ (.slice (some dM) aW.length xZ : Value).ownBlock ∧ k_ ≠ bS) (.slice Ve ((aJ aW 0).f3).length Vf) ((aJ aW 0).f3)) := ⟨h1_⟩
    have Qp : aG (Kd.R Vo 38 Fe w.heap.size (fun k_ => some k_ ≠ (IG : Value).ownBlock ∧ some k_ ≠ (.slice (some dM) aW.length xZ : Value).ownBlock ∧ k_ ≠ bS) (.slice Vg ((aJ aW 0).f4).length Vh) ((aJ aW 0).f4)) := ⟨h2_⟩
    have JG : aG (Kd.R pR 51 Fe w.heap.size (fun k_ => some k_ ≠ (MN : Value).ownBlock) (.slice zV mI.length wS) mI) := ⟨h3_⟩
    have JH : aG (Kd.R (Kd.int .i64) 3 Fe w.heap.size (fun _ => True) (.slice HY qA.length IA) qA) := ⟨h4_⟩
    have ZH : aG (Kd.R pR 51 Fe w.heap.size (fun k_ => some k_ ≠ (.slice zV mI.length wS : Value).ownBlock) MN kQ) := ⟨h5_⟩
    have ZI : aG (Kd.R Kd.string 9 Fe w.heap.size (fun _ => True) IG iC) := ⟨h6_⟩
    have ZJ : aG (Kd.R k31 31 Fe w.heap.size (fun k_ => some k_ ≠ (IG : Value).ownBlock ∧ k_ ≠ bS) (.slice (some dM) aW.length xZ) aW) := ⟨h7_⟩
    have uw : aG (Fe.heap[bS]? = some (.cells #[.string ((bE ((aJ aW 0).f4) (eT)).f0), .slice sV ((bE ((aJ aW 0).f4) (eT)).f1).length sW, .bool ((bE ((aJ aW 0).f4) (eT)).f2), .string ((bE ((aJ aW 0).f4) (eT)).f3), .string ((bE ((aJ aW 0).f4) (eT)).f4), .slice sZ ((bE ((aJ aW 0).f4) (eT)).f5).length tC, .slice tF ((bE ((aJ aW 0).f4) (eT)).f6).length tH, .int .i64 ((bE ((aJ aW 0).f4) (eT)).f7)] 38 (0, 0))) := ⟨h8_⟩
    have uy : aG (Fe.heap[dD]? = some (.cells #[.int .i64 0, .slice none 0 0, .int .i64 0, .slice none 0 0, .int .i64 0] 41 (0, 0))) := ⟨h9_⟩
    have Xd : aG (w.heap.size ≤ dD) := ⟨aD5⟩
    have aEa : aG (w.heap.size ≤ dD) := ⟨aD6⟩
    have aEb : aG (bS ≠ dD) := ⟨aD7⟩
    have aEc : aG (dD ≠ bS) := ⟨aD8⟩
    have aEd : aG (Below w.heap.size w Fe) := ⟨aD9⟩
    clear iO
    clear gD
    clear iD
    clear bG
    clear HB
    clear h0_ h1_ h2_ h3_ h4_ h5_ h6_ h7_ h8_ h9_ aD5 aD6 aD7 aD8 aD9
    have tQ := Qn
    have tT := Qo
    have tL := Qp
    have gD := JG
    have iD := JH
    have kC := ZH
    have jH := ZI
    have iO := ZJ
    have bG := uw
    have dV := uy
    have RF := Xd
    have Oh := aEa
    have iU := aEb
    have oJ := aEc
    have HB := aEd
    clear Qn Qo Qp JG JH ZH ZI ZJ uw uy Xd aEa aEb aEc aEd
    have hHeld : Fe.cell? ⟨bS, 0, none⟩ = some (.string ((bE ((aJ aW 0).f4) (eT)).f0)) ∧ Fe.cell? ⟨bS, 1, none⟩ = some (.slice sV ((bE ((aJ aW 0).f4) (eT)).f1).length sW) ∧ Fe.cell? ⟨bS, 2, none⟩ = some (.bool ((bE ((aJ aW 0).f4) (eT)).f2)) ∧ Fe.cell? ⟨bS, 3, none⟩ = some (.string ((bE ((aJ aW 0).f4) (eT)).f3)) ∧ Fe.cell? ⟨bS, 4, none⟩ = some (.string ((bE ((aJ aW 0).f4) (eT)).f4)) ∧ Fe.cell? ⟨bS, 5, none⟩ = some (.slice sZ ((bE ((aJ aW 0).f4) (eT)).f5).length tC) ∧ Fe.cell? ⟨bS, 6, none⟩ = some (.slice tF ((bE ((aJ aW 0).f4) (eT)).f6).length tH) ∧ Fe.cell? ⟨bS, 7, none⟩ = some (.int .i64 ((bE ((aJ aW 0).f4) (eT)).f7)) ∧ Fe.cell? dM = some (.string ((aJ aW 0).f0)) ∧ Fe.cell? ⟨dM.block, dM.off + 1, none⟩ = some (.int .i64 ((aJ aW 0).f1)) ∧ Fe.cell? ⟨dM.block, dM.off + 2, none⟩ = some (.slice Vb ((aJ aW 0).f2).length Vd) ∧ Fe.cell? ⟨dM.block, dM.off + 3, none⟩ = some (.slice Ve ((aJ aW 0).f3).length Vf) ∧ Fe.cell? ⟨dM.block, dM.off + 4, none⟩ = some (.slice Vg ((aJ aW 0).f4).length Vh) := hS_
    obtain ⟨rJ, rM, aBF⟩ := Kd.bJ kC.out
    (first | subst aBF | (injection aBF with wU Gu wV; have Gv := wU.symm; have Gw := wV.symm; clear wU Gu wV; subst Gv; subst Gw))
    obtain ⟨rG, rH, aZs⟩ := Kd.bJ jH.out
    (first | subst aZs | (injection aZs with wU Gu wV; have Gv := wU.symm; have Gw := wV.symm; clear wU Gu wV; subst Gv; subst Gw))
    refine jS (a' := ?_) ?_ ?_
    rotate_left
    ·
     simp only [Vv, Act.put, List.setIfInBounds_toArray, List.set_cons_zero, List.set_cons_succ]
     rfl
    refine Cn 12 none dB (fun K hK => ?_)
    have bRn : Fe.cell? ⟨dD, 0, none⟩ = some (.int .i64 0) := (aA dV.out 0).trans rfl
    have bPl := aD dV.out 0
    have bHB := iU.out
    have bHC := oJ.out
    have bJQ : Fe.cell? ⟨dD, 1, none⟩ = some (.slice none 0 0) := (aA dV.out 1).trans rfl
    have aUe := aD dV.out 1
    have bHD := iU.out
    have bHE := oJ.out
    have bRo : Fe.cell? ⟨dD, 2, none⟩ = some (.int .i64 0) := (aA dV.out 2).trans rfl
    have bPm := aD dV.out 2
    have bHF := iU.out
    have bHG := oJ.out
    have bRp : Fe.cell? ⟨dD, 3, none⟩ = some (.slice none 0 0) := (aA dV.out 3).trans rfl
    have bPn := aD dV.out 3
    have bHH := iU.out
    have bHI := oJ.out
    have bRq : Fe.cell? ⟨dD, 4, none⟩ = some (.int .i64 0) := (aA dV.out 4).trans rfl
    have bPo := aD dV.out 4
    have bHJ := iU.out
    have bHK := oJ.out
    refine Cb (w1 := ?_) (by rfl) rfl ?_ ?_
    rotate_left
    ·
     go_simp
     rfl
    refine hK.out _ _ ⟨(Xl iU.out hHeld.1), (Xl iU.out hHeld.2.1), (Xl iU.out hHeld.2.2.1), (Xl iU.out hHeld.2.2.2.1), (Xl iU.out hHeld.2.2.2.2.1), (Xl iU.out hHeld.2.2.2.2.2.1), (Xl iU.out hHeld.2.2.2.2.2.2.1), (Xl iU.out hHeld.2.2.2.2.2.2.2.1), (Xl bT8 hHeld.2.2.2.2.2.2.2.2.1), (Xl bT8 hHeld.2.2.2.2.2.2.2.2.2.1), (Xl bT8 hHeld.2.2.2.2.2.2.2.2.2.2.1), (Xl bT8 hHeld.2.2.2.2.2.2.2.2.2.2.2.1), (Xl bT8 hHeld.2.2.2.2.2.2.2.2.2.2.2.2)⟩ (fun hHeld => ?_)
    clear hK K
    refine pO (jX dB.out dU) ?_
    try go_wp2
    have Qn : aG (Kd.R k31 31 (((((Fe.setCell ⟨dD, 0, none⟩ (.int .i64 uF)).setCell ⟨dD, 1, none⟩ (.slice rJ kQ.length rM)).setCell ⟨dD, 2, none⟩ (.int .i64 uG)).setCell ⟨dD, 3, none⟩ (.slice rG iC.length rH)).setCell ⟨dD, 4, none⟩ (.int .i64 uH)) w.heap.size (fun k_ => some k_ ≠ (.slice rG iC.length rH : Value).ownBlock ∧ k_ ≠ bS) (.slice (some dM) aW.length xZ) aW) := ⟨by (with_reducible repeat (first | apply Kd.bC | apply Kd.bF | apply Kd.bP)); exact Kd.aQ (Qg (Kd.dS iO.out dV.out (by decide)) (fun _ hk => hk.2)) (fun _ hk => by first | exact ⟨hk.1.1, hk.1.2⟩ | ((repeat' refine And.intro ?_ ?_) <;> first | exact trivial | exact hk | exact hk.1 | exact hk.2 | exact hk.1.1 | exact hk.1.2 | exact hk.2.1 | exact hk.2.2 | exact hk.1.1.1 | exact hk.1.1.2 | exact hk.1.2.1 | exact hk.1.2.2 | exact hk.2.1.1 | exact hk.2.1.2 | exact hk.2.2.1 | exact hk.2.2.2 | exact hk.1.1.1.1 | exact hk.1.1.1.2 | exact hk.1.1.2.1 | exact hk.1.1.2.2 | exact hk.1.2.1.1 | exact hk.1.2.1.2 | exact hk.1.2.2.1 | exact hk.1.2.2.2 | exact hk.2.1.1.1 | exact hk.2.1.1.2 | exact hk.2.1.2.1 | exact hk.2.1.2.2 | exact hk.2.2.1.1 | exact hk.2.2.1.2 | exact hk.2.2.2.1 | exact hk.2.2.2.2))⟩
    have Qo : aG (Kd.R pR 51 (((((Fe.setCell ⟨dD, 0, none⟩ (.int .i64 uF)).setCell ⟨dD, 1, none⟩ (.slice rJ kQ.length rM)).setCell ⟨dD, 2, none⟩ (.int .i64 uG)).setCell ⟨dD, 3, none⟩ (.slice rG iC.length rH)).setCell ⟨dD, 4, none⟩ (.int .i64 uH)) w.heap.size (fun k_ => some k_ ≠ (.slice rJ kQ.length rM : Value).ownBlock) (.slice zV mI.length wS) mI) := ⟨by (with_reducible repeat (first | apply Kd.bC | apply Kd.bF | apply Kd.bP)); exact Kd.aQ (Qg (Kd.dS gD.out dV.out (by decide)) (fun _ hk => hk.2)) (fun _ hk => hk.1)⟩
    have Qp : aG (Kd.R (Kd.int .i64) 3 (((((Fe.setCell ⟨dD, 0, none⟩ (.int .i64 uF)).setCell ⟨dD, 1, none⟩ (.slice rJ kQ.length rM)).setCell ⟨dD, 2, none⟩ (.int .i64 uG)).setCell ⟨dD, 3, none⟩ (.slice rG iC.length rH)).setCell ⟨dD, 4, none⟩ (.int .i64 uH)) w.heap.size (fun _ => True) (.slice HY qA.length IA) qA) := ⟨by (with_reducible repeat (first | apply Kd.bC | apply Kd.bF | apply Kd.bP)); exact Kd.aQ (Qg (Kd.dS iD.out dV.out (by decide)) (fun _ hk => hk.2)) (fun _ hk => trivial)⟩
    have JG : aG (Kd.R pR 51 (((((Fe.setCell ⟨dD, 0, none⟩ (.int .i64 uF)).setCell ⟨dD, 1, none⟩ (.slice rJ kQ.length rM)).setCell ⟨dD, 2, none⟩ (.int .i64 uG)).setCell ⟨dD, 3, none⟩ (.slice rG iC.length rH)).setCell ⟨dD, 4, none⟩ (.int .i64 uH)) w.heap.size (fun k_ => some k_ ≠ (.slice zV mI.length wS : Value).ownBlock) (.slice rJ kQ.length rM) kQ) := ⟨by (with_reducible repeat (first | apply Kd.bC | apply Kd.bF | apply Kd.bP)); exact Kd.aQ (Qg (Kd.dS kC.out dV.out (by decide)) (fun _ hk => hk.2)) (fun _ hk => hk.1)⟩
    have JH : aG (Kd.R Kd.string 9 (((((Fe.setCell ⟨dD, 0, none⟩ (.int .i64 uF)).setCell ⟨dD, 1, none⟩ (.slice rJ kQ.length rM)).setCell ⟨dD, 2, none⟩ (.int .i64 uG)).setCell ⟨dD, 3, none⟩ (.slice rG iC.length rH)).setCell ⟨dD, 4, none⟩ (.int .i64 uH)) w.heap.size (fun _ => True) (.slice rG iC.length rH) iC) := ⟨by (with_reducible repeat (first | apply Kd.bC | apply Kd.bF | apply Kd.bP)); exact Kd.aQ (Qg (Kd.dS jH.out dV.out (by decide)) (fun _ hk => hk.2)) (fun _ hk => trivial)⟩
    have ZH : aG ((((((Fe.setCell ⟨dD, 0, none⟩ (.int .i64 uF)).setCell ⟨dD, 1, none⟩ (.slice rJ kQ.length rM)).setCell ⟨dD, 2, none⟩ (.int .i64 uG)).setCell ⟨dD, 3, none⟩ (.slice rG iC.length rH)).setCell ⟨dD, 4, none⟩ (.int .i64 uH)).heap[bS]? = some (.cells #[.string ((bE ((aJ aW 0).f4) (eT)).f0), .slice sV ((bE ((aJ aW 0).f4) (eT)).f1).length sW, .bool ((bE ((aJ aW 0).f4) (eT)).f2), .string ((bE ((aJ aW 0).f4) (eT)).f3), .string ((bE ((aJ aW 0).f4) (eT)).f4), .slice sZ ((bE ((aJ aW 0).f4) (eT)).f5).length tC, .slice tF ((bE ((aJ aW 0).f4) (eT)).f6).length tH, .int .i64 ((bE ((aJ aW 0).f4) (eT)).f7)] 38 (0, 0))) := ⟨zF5 bG.out iU.out⟩
    have ZI : aG ((((((Fe.setCell ⟨dD, 0, none⟩ (.int .i64 uF)).setCell ⟨dD, 1, none⟩ (.slice rJ kQ.length rM)).setCell ⟨dD, 2, none⟩ (.int .i64 uG)).setCell ⟨dD, 3, none⟩ (.slice rG iC.length rH)).setCell ⟨dD, 4, none⟩ (.int .i64 uH)).heap[dD]? = some (.cells #[.int .i64 uF, .slice rJ kQ.length rM, .int .i64 uG, .slice rG iC.length rH, .int .i64 uH] 41 (0, 0))) := ⟨zP5 dV.out⟩
    have ZJ : aG (Below w.heap.size w (((((Fe.setCell ⟨dD, 0, none⟩ (.int .i64 uF)).setCell ⟨dD, 1, none⟩ (.slice rJ kQ.length rM)).setCell ⟨dD, 2, none⟩ (.int .i64 uG)).setCell ⟨dD, 3, none⟩ (.slice rG iC.length rH)).setCell ⟨dD, 4, none⟩ (.int .i64 uH))) := ⟨Og⟩
    generalize (((((Fe.setCell ⟨dD, 0, none⟩ (.int .i64 uF)).setCell ⟨dD, 1, none⟩ (.slice rJ kQ.length rM)).setCell ⟨dD, 2, none⟩ (.int .i64 uG)).setCell ⟨dD, 3, none⟩ (.slice rG iC.length rH)).setCell ⟨dD, 4, none⟩ (.int .i64 uH)) = w52 at Qn Qo Qp JG JH ZH ZI ZJ ⊢
    have iO := Qn
    have gD := Qo
    have iD := Qp
    have kC := JG
    have jH := JH
    have bG := ZH
    have dV := ZI
    have HB := ZJ
    clear Qn Qo Qp JG JH ZH ZI ZJ
    replace iO := Ao iO
    replace gD := Ao gD
    replace iD := Ao iD
    replace kC := Ao kC
    replace jH := Ao jH
    replace bG := za (dE bG.out)
    replace dV := za (dE dV.out)
    replace HB := za (bK HB.out)
    have mq : 0 ≤ (0 : Int) := (by omega)
    have mr : 0 < (aW.length : Int) := of_decide_eq_true iL
    obtain ⟨aO1, Vi, Vj, Vk, Vl, Vm, Vn, aZt, Lm, Lp, Ey, Ez, Fa, ZK, ZL, ZM, ZN, ZO, ZP⟩ := Ae (Kd.cZ iO.out).2.2 0 mq mr
    obtain rfl : dM = aO1 := (by injection aZt)
    obtain ⟨bNd, aI9, aJa, BV⟩ := Kd.JX iO.out z31 0 mq (by first | exact mr | exact of_decide_eq_true iL | (have e_ := (Kd.cZ iO.out).1; omega))
    obtain ⟨aZu, aZv, aZw, rfl, II, IJ, IK⟩ := Dv aJa
    have Lr := BV 2 _ rfl
    rw [dN _ _ 2 (by omega)] at Lr
    replace Lr := Option.some.inj (Lr.symm.trans Ey)
    rw [Lr] at II
    have tN := za (show Kd.R Yq 87 _ _ _ _ ((aJ aW 0).f2) from II)
    clear Lr II
    have Ls := BV 3 _ rfl
    rw [dN _ _ 3 (by omega)] at Ls
    replace Ls := Option.some.inj (Ls.symm.trans Ez)
    rw [Ls] at IJ
    have tO := za (show Kd.R Xh 49 _ _ _ _ ((aJ aW 0).f3) from IJ)
    clear Ls IJ
    have Lt := BV 4 _ rfl
    rw [dN _ _ 4 (by omega)] at Lt
    replace Lt := Option.some.inj (Lt.symm.trans Fa)
    rw [Lt] at IK
    have tK := za (show Kd.R Vo 38 _ _ _ _ ((aJ aW 0).f4) from IK)
    clear Lt IK
    clear BV aI9
    have bNe : (0 < aW.length) = True := eq_true (by omega)
    (try rw [show ((0 : Int)).toNat = 0 from rfl] at Lm)
    (try rw [show 0 * 5 = 0 from rfl] at Lm)
    (try rw [Addr.add_zero'] at Lm)
    (try rw [show ((0 : Int)).toNat = 0 from rfl] at Lp)
    (try rw [show 0 * 5 = 0 from rfl] at Lp)
    (try rw [Addr.add_zero'] at Lp)
    (try rw [show ((0 : Int)).toNat = 0 from rfl] at Ey)
    (try rw [show 0 * 5 = 0 from rfl] at Ey)
    (try rw [Addr.add_zero'] at Ey)
    (try rw [show ((0 : Int)).toNat = 0 from rfl] at Ez)
    (try rw [show 0 * 5 = 0 from rfl] at Ez)
    (try rw [Addr.add_zero'] at Ez)
    (try rw [show ((0 : Int)).toNat = 0 from rfl] at Fa)
    (try rw [show 0 * 5 = 0 from rfl] at Fa)
    (try rw [Addr.add_zero'] at Fa)
    have Aj := za ZL
    have aZx := za ZK
    clear ZL ZK
    have Ak := za ZN
    have aZy := za ZM
    clear ZN ZM
    have Al := za ZP
    have aZz := za ZO
    clear ZP ZO
    replace mq := eq_true mq
    replace mr := eq_true mr
    refine lW (n := 13) (S := fun w' => w'.cell? ⟨bS, 0, none⟩ = some (.string ((bE ((aJ aW 0).f4) (eT)).f0)) ∧ w'.cell? ⟨bS, 1, none⟩ = some (.slice sV ((bE ((aJ aW 0).f4) (eT)).f1).length sW) ∧ w'.cell? ⟨bS, 2, none⟩ = some (.bool ((bE ((aJ aW 0).f4) (eT)).f2)) ∧ w'.cell? ⟨bS, 3, none⟩ = some (.string ((bE ((aJ aW 0).f4) (eT)).f3)) ∧ w'.cell? ⟨bS, 4, none⟩ = some (.string ((bE ((aJ aW 0).f4) (eT)).f4)) ∧ w'.cell? ⟨bS, 5, none⟩ = some (.slice sZ ((bE ((aJ aW 0).f4) (eT)).f5).length tC) ∧ w'.cell? ⟨bS, 6, none⟩ = some (.slice tF ((bE ((aJ aW 0).f4) (eT)).f6).length tH) ∧ w'.cell? ⟨bS, 7, none⟩ = some (.int .i64 ((bE ((aJ aW 0).f4) (eT)).f7)) ∧ w'.cell? dM = some (.string ((aJ aW 0).f0)) ∧ w'.cell? ⟨dM.block, dM.off + 1, none⟩ = some (.int .i64 ((aJ aW 0).f1)) ∧ w'.cell? ⟨dM.block, dM.off + 2, none⟩ = some (.slice Vi ((aJ aW 0).f2).length Vj) ∧ w'.cell? ⟨dM.block, dM.off + 3, none⟩ = some (.slice Vk ((aJ aW 0).f3).length Vl) ∧ w'.cell? ⟨dM.block, dM.off + 4, none⟩ = some (.slice Vm ((aJ aW 0).f4).length Vn)) (ds := []) #[false, false, false, false, false, false, false, false, false, false, false, false, false] dU rfl rfl ⟨(aA bG.out 0).trans rfl, (aA bG.out 1).trans rfl, (aA bG.out 2).trans rfl, (aA bG.out 3).trans rfl, (aA bG.out 4).trans rfl, (aA bG.out 5).trans rfl, (aA bG.out 6).trans rfl, (aA bG.out 7).trans rfl, Lm, Lp, Ey, Ez, Fa⟩ (fun hHeld => ?_); refine gX aI.aCo aI.VU (fun dB qB => ?_)
    generalize w52.drew = w53 at iO gD iD kC jH bG dV HB tN tO tK Aj Ak Al Lm Lp Ey Ez Fa hHeld ⊢
    refine gV 0 (some 76) dB ?_
    refine gV 1 (some 77) dB ?_
    refine gV 2 (some 78) dB ?_
    refine gV 3 (some 79) dB ?_
    refine gV 5 (some 81) dB ?_
    refine gV 7 (some 83) dB ?_
    refine gV 8 (some 84) dB ?_
    refine gV 9 (some 85) dB ?_
    refine vP 4 (some 80) dB qB hHeld ?_
    refine vP 6 (some 82) dB qB hHeld ?_
    refine aJi (σ := Value × Value × Nat) 1 #[true, true, true, true, true, true, true, true, true, true, true, true, false] (fun s_ => [(86, .agg #[.int .i64 nW, s_.1, .int .i64 nX, s_.2.1, .int .i64 nY]), (16, .pointer (some ⟨s_.2.2, 0, none⟩))]) (fun s_ w' => (w'.cell? ⟨bS, 0, none⟩ = some (.string ((bE ((aJ aW 0).f4) (eT)).f0)) ∧ w'.cell? ⟨bS, 1, none⟩ = some (.slice sV ((bE ((aJ aW 0).f4) (eT)).f1).length sW) ∧ w'.cell? ⟨bS, 2, none⟩ = some (.bool ((bE ((aJ aW 0).f4) (eT)).f2)) ∧ w'.cell? ⟨bS, 3, none⟩ = some (.string ((bE ((aJ aW 0).f4) (eT)).f3)) ∧ w'.cell? ⟨bS, 4, none⟩ = some (.string ((bE ((aJ aW 0).f4) (eT)).f4)) ∧ w'.cell? ⟨bS, 5, none⟩ = some (.slice sZ ((bE ((aJ aW 0).f4) (eT)).f5).length tC) ∧ w'.cell? ⟨bS, 6, none⟩ = some (.slice tF ((bE ((aJ aW 0).f4) (eT)).f6).length tH) ∧ w'.cell? ⟨bS, 7, none⟩ = some (.int .i64 ((bE ((aJ aW 0).f4) (eT)).f7)) ∧ w'.cell? dM = some (.string ((aJ aW 0).f0)) ∧ w'.cell? ⟨dM.block, dM.off + 1, none⟩ = some (.int .i64 ((aJ aW 0).f1)) ∧ w'.cell? ⟨dM.block, dM.off + 2, none⟩ = some (.slice Vi ((aJ aW 0).f2).length Vj) ∧ w'.cell? ⟨dM.block, dM.off + 3, none⟩ = some (.slice Vk ((aJ aW 0).f3).length Vl) ∧ w'.cell? ⟨dM.block, dM.off + 4, none⟩ = some (.slice Vm ((aJ aW 0).f4).length Vn)) ∧ (Kd.R Yq 87 w' w.heap.size (fun k_ => some k_ ≠ (.slice rG iC.length rH : Value).ownBlock ∧ some k_ ≠ (.slice (some dM) aW.length xZ : Value).ownBlock ∧ k_ ≠ bS) (.slice Vi ((aJ aW 0).f2).length Vj) ((aJ aW 0).f2)) ∧ (Kd.R Xh 49 w' w.heap.size (fun k_ => some k_ ≠ (.slice rG iC.length rH : Value).ownBlock ∧ some k_ ≠ (.slice (some dM) aW.length xZ : Value).ownBlock ∧ k_ ≠ bS) (.slice Vk ((aJ aW 0).f3).length Vl) ((aJ aW 0).f3)) ∧ (Kd.R Vo 38 w' w.heap.size (fun k_ => some k_ ≠ (.slice rG iC.length rH : Value).ownBlock ∧ some k_ ≠ (s_.2.1 : Value).ownBlock ∧ some k_ ≠ (.slice (some dM) aW.length xZ : Value).ownBlock ∧ k_ ≠ bS) (.slice Vm ((aJ aW 0).f4).length Vn) ((aJ aW 0).f4)) ∧ (Kd.R pR 51 w' w.heap.size (fun k_ => some k_ ≠ (.slice rJ kQ.length rM : Value).ownBlock ∧ some k_ ≠ (s_.1 : Value).ownBlock) (.slice zV mI.length wS) mI) ∧ (Kd.R (Kd.int .i64) 3 w' w.heap.size (fun _ => True) (.slice HY qA.length IA) qA) ∧ (Kd.R pR 51 w' w.heap.size (fun k_ => some k_ ≠ (.slice zV mI.length wS : Value).ownBlock ∧ some k_ ≠ (s_.1 : Value).ownBlock) (.slice rJ kQ.length rM) kQ) ∧ (Kd.R Kd.string 9 w' w.heap.size (fun k_ => some k_ ≠ (s_.2.1 : Value).ownBlock) (.slice rG iC.length rH) iC) ∧ (Kd.R pR 51 w' w.heap.size (fun k_ => some k_ ≠ (.slice zV mI.length wS : Value).ownBlock ∧ some k_ ≠ (.slice rJ kQ.length rM : Value).ownBlock) s_.1 kG) ∧ (Kd.R Kd.string 9 w' w.heap.size (fun k_ => some k_ ≠ (.slice rG iC.length rH : Value).ownBlock) s_.2.1 iT) ∧ (Kd.R k31 31 w' w.heap.size (fun k_ => some k_ ≠ (.slice rG iC.length rH : Value).ownBlock ∧ some k_ ≠ (s_.2.1 : Value).ownBlock ∧ k_ ≠ bS) (.slice (some dM) aW.length xZ) aW) ∧ (w'.heap[bS]? = some (.cells #[.string ((bE ((aJ aW 0).f4) (eT)).f0), .slice sV ((bE ((aJ aW 0).f4) (eT)).f1).length sW, .bool ((bE ((aJ aW 0).f4) (eT)).f2), .string ((bE ((aJ aW 0).f4) (eT)).f3), .string ((bE ((aJ aW 0).f4) (eT)).f4), .slice sZ ((bE ((aJ aW 0).f4) (eT)).f5).length tC, .slice tF ((bE ((aJ aW 0).f4) (eT)).f6).length tH, .int .i64 ((bE ((aJ aW 0).f4) (eT)).f7)] 38 (0, 0))) ∧ (w'.heap[dD]? = some (.cells #[.int .i64 uF, .slice rJ kQ.length rM, .int .i64 uG, .slice rG iC.length rH, .int .i64 uH] 41 (0, 0))) ∧ (w'.heap[s_.2.2]? = some (.cells #[.int .i64 0, .slice none 0 0, .int .i64 0, .slice none 0 0, .int .i64 0] 41 (0, 0))) ∧ (w.heap.size ≤ s_.2.2) ∧ (w.heap.size ≤ s_.2.2) ∧ (bS ≠ s_.2.2) ∧ (s_.2.2 ≠ bS) ∧ (dD ≠ s_.2.2) ∧ (s_.2.2 ≠ dD) ∧ (Below w.heap.size w w')) ?_ ?_
    rotate_left
    ·
     intro ZG
     refine aPf (i := 10) (j := 11) (Ni := some 86) (Nj := some 16) #[true, true, true, true, true, true, true, true, true, true, true, false, false] #[true, true, true, true, true, true, true, true, true, true, false, true, false] rfl rfl rfl rfl (yl dB.out dU) (by decide) (by decide) (fun K hK => ?_) (fun K hK => ?_)
     ·
      skip
      refine wT Try.func8 dU rfl #[.slice (some dM) aW.length xZ, .string ((aJ aW 0).f0), .string ((bE ((aJ aW 0).f4) (eT)).f0), .slice HY qA.length IA, .slice zV mI.length wS, .int .i64 (wrap64 ((Int.tmod (wrap64 (a2)) 1000) + (Int.tmod (wrap64 (a3)) 1000)))] (by rfl) rfl rfl aED ?_
      with_reducible refine (aC.calls Ia _ _ aW ((aJ aW 0).f0) ((bE ((aJ aW 0).f4) (eT)).f0) _ _ qA _ _ mI (wrap64 ((Int.tmod (wrap64 (a2)) 1000) + (Int.tmod (wrap64 (a3)) 1000))) nW kG nX iT nY _ ?side1 ?side2 ?side3 ?side4 ?side5 ?side6 A23.out).mono ?_
      (case side1 => exact o9)
      (case side2 => exact SY)
      (case side3 => exact aEO)
      (case side4 => exact (Kd.cZ iD.out).2.1)
      (case side5 => exact aEP)
      (case side6 => exact (Kd.cZ gD.out).2.1)
      rintro e w54 ⟨IL, Yn, rfl, ho0, ho1, hb⟩
      have Om := zH5 hb hHeld.2.2.2.2.2.2.2.2
      refine ⟨_, rfl, ?_⟩
      replace iO := za (Kd.mX (zr iO.out) (Kd.iV ho1) hb)
      replace iD := qF iD hb
      replace tN := qF tN hb
      replace tO := qF tO hb
      replace tK := za (Kd.mX (zr tK.out) (Kd.iV ho1) hb)
      have sG := za (Kd.eU (Kd.yQ (Kd.yQ ho0 (Kd.Hg (zr gD.out))) (Kd.Hg (zr kC.out))) (aT Og))
      replace gD := za (Kd.mX (zr gD.out) (Kd.iV ho0) hb)
      replace kC := za (Kd.mX (zr kC.out) (Kd.iV ho0) hb)
      have qE := za (Kd.eU (Kd.yQ ho1 (Kd.Hg (zr jH.out))) (aT Og))
      replace jH := za (Kd.mX (zr jH.out) (Kd.iV ho1) hb)
      replace bG := za (aY (g := bS) (zb bG.out) hb)
      replace dV := za (aY (g := dD) (zb dV.out) hb)
      replace Aj := za (Kd.dG aEK hb)
      replace Ak := za (Kd.dG aEL hb)
      replace Al := za (Kd.dG aEM hb)
      replace HB := za (aM Og hb)
      refine hK.out _ _ ⟨(aA bG.out 0).trans rfl, (aA bG.out 1).trans rfl, (aA bG.out 2).trans rfl, (aA bG.out 3).trans rfl, (aA bG.out 4).trans rfl, (aA bG.out 5).trans rfl, (aA bG.out 6).trans rfl, (aA bG.out 7).trans rfl, Om⟩ (fun hHeld => ?_)
      clear hK K
      refine jS (a' := ?_) ?_ ?_
      rotate_left
      ·
       show Act.put _ (some 86) _ = _
       simp only [Act.put, List.setIfInBounds_toArray, List.set_cons_zero, List.set_cons_succ, dO, dQ]
       rfl
      refine Cn 11 (some 16) dB (fun K hK => ?_)
      refine uM ?hg (N := 16) ?hd (cs := #[.int .i64 0, .slice none 0 0, .int .i64 0, .slice none 0 0, .int .i64 0]) (t := 41) ?hr ?_; (case hd => rfl); (case hg => rfl); (case hr => exact jA)
      intro bB hg w55 gP hb
      have Om := zH5 hb hHeld.2.2.2.2.2.2.2.2
      replace iO := qF iO hb
      replace gD := qF gD hb
      replace iD := qF iD hb
      replace kC := qF kC hb
      replace jH := qF jH hb
      replace tN := qF tN hb
      replace tO := qF tO hb
      replace tK := qF tK hb
      replace sG := qF sG hb
      replace qE := qF qE hb
      replace Aj := za (Kd.dG aEK hb)
      replace Ak := za (Kd.dG aEL hb)
      replace Al := za (Kd.dG aEM hb)
      have fB := za (gP)
      have RG := za ((by rw [hg]; exact (aT Og) : w.heap.size ≤ bB))
      have Vz := za ((by rw [hg]; exact (aT Og) : w.heap.size ≤ bB))
      replace HB := za (aM Og hb)
      have iI := za ((by rw [hg]; exact Nat.ne_of_lt (gB (g := bS) (zb bG.out)) : bS ≠ bB))
      have oK := za ((by rw [hg]; exact Nat.ne_of_gt (gB (g := bS) (zb bG.out)) : bB ≠ bS))
      replace bG := za (aY (g := bS) (zb bG.out) hb)
      have jI := za ((by rw [hg]; exact Nat.ne_of_lt (gB (g := dD) (zb dV.out)) : dD ≠ bB))
      have kY := za ((by rw [hg]; exact Nat.ne_of_gt (gB (g := dD) (zb dV.out)) : bB ≠ dD))
      replace dV := za (aY (g := dD) (zb dV.out) hb)
      clear hb gP hg
      refine hK.out _ _ ⟨(aA bG.out 0).trans rfl, (aA bG.out 1).trans rfl, (aA bG.out 2).trans rfl, (aA bG.out 3).trans rfl, (aA bG.out 4).trans rfl, (aA bG.out 5).trans rfl, (aA bG.out 6).trans rfl, (aA bG.out 7).trans rfl, Om⟩ (fun hHeld => ?_)
      clear hK K
      refine jS (a' := ?_) ?_ ?_
      rotate_left
      ·
       show Act.put _ (some 16) _ = _
       simp only [Act.put, List.setIfInBounds_toArray, List.set_cons_zero, List.set_cons_succ, dO, dQ]
       rfl
      exact jS U2 (ZG (IL, Yn, bB) _ ⟨hHeld, aPC, aPD, aPA, (zr gD.out), (zr iD.out), (zr kC.out), aJP, aPH, aJQ, aPE, (zb bG.out), (zb dV.out), (zb fB.out), RG.out, Vz.out, iI.out, oK.out, jI.out, kY.out, CQ⟩)
     ·
      skip
      refine uM ?hg (N := 16) ?hd (cs := #[.int .i64 0, .slice none 0 0, .int .i64 0, .slice none 0 0, .int .i64 0]) (t := 41) ?hr ?_; (case hd => rfl); (case hg => rfl); (case hr => exact jA)
      intro bB hg w54 gP hb
      have Om := zH5 hb hHeld.2.2.2.2.2.2.2.2
      replace iO := qF iO hb
      replace gD := qF gD hb
      replace iD := qF iD hb
      replace kC := qF kC hb
      replace jH := qF jH hb
      replace tN := qF tN hb
      replace tO := qF tO hb
      replace tK := qF tK hb
      replace Aj := za (Kd.dG aEK hb)
      replace Ak := za (Kd.dG aEL hb)
      replace Al := za (Kd.dG aEM hb)
      have fB := za (gP)
      have RG := za ((by rw [hg]; exact (aT Og) : w.heap.size ≤ bB))
      have Vz := za ((by rw [hg]; exact (aT Og) : w.heap.size ≤ bB))
      replace HB := za (aM Og hb)
      have iI := za ((by rw [hg]; exact Nat.ne_of_lt (gB (g := bS) (zb bG.out)) : bS ≠ bB))
      have oK := za ((by rw [hg]; exact Nat.ne_of_gt (gB (g := bS) (zb bG.out)) : bB ≠ bS))
      replace bG := za (aY (g := bS) (zb bG.out) hb)
      have jI := za ((by rw [hg]; exact Nat.ne_of_lt (gB (g := dD) (zb dV.out)) : dD ≠ bB))
      have kY := za ((by rw [hg]; exact Nat.ne_of_gt (gB (g := dD) (zb dV.out)) : bB ≠ dD))
      replace dV := za (aY (g := dD) (zb dV.out) hb)
      clear hb gP hg
      refine hK.out _ _ ⟨(aA bG.out 0).trans rfl, (aA bG.out 1).trans rfl, (aA bG.out 2).trans rfl, (aA bG.out 3).trans rfl, (aA bG.out 4).trans rfl, (aA bG.out 5).trans rfl, (aA bG.out 6).trans rfl, (aA bG.out 7).trans rfl, Om⟩ (fun hHeld => ?_)
      clear hK K
      refine jS (a' := ?_) ?_ ?_
      rotate_left
      ·
       show Act.put _ (some 16) _ = _
       simp only [Act.put, List.setIfInBounds_toArray, List.set_cons_zero, List.set_cons_succ, dO, dQ]
       rfl
      refine Cn 10 (some 86) dB (fun K hK => ?_)
      refine wT Try.func8 dU rfl #[.slice (some dM) aW.length xZ, .string ((aJ aW 0).f0), .string ((bE ((aJ aW 0).f4) (eT)).f0), .slice HY qA.length IA, .slice zV mI.length wS, .int .i64 (wrap64 ((Int.tmod (wrap64 (a2)) 1000) + (Int.tmod (wrap64 (a3)) 1000)))] (by rfl) rfl rfl aED ?_
      with_reducible refine (aC.calls Ia _ _ aW ((aJ aW 0).f0) ((bE ((aJ aW 0).f4) (eT)).f0) _ _ qA _ _ mI (wrap64 ((Int.tmod (wrap64 (a2)) 1000) + (Int.tmod (wrap64 (a3)) 1000))) nW kG nX iT nY _ ?side1 ?side2 ?side3 ?side4 ?side5 ?side6 A23.out).mono ?_
      (case side1 => exact o9)
      (case side2 => exact SY)
      (case side3 => exact aEO)
      (case side4 => exact (Kd.cZ iD.out).2.1)
      (case side5 => exact aEP)
      (case side6 => exact (Kd.cZ gD.out).2.1)
      rintro e w55 ⟨IL, Yn, rfl, ho0, ho1, hb⟩
      have Om := zH5 hb hHeld.2.2.2.2.2.2.2.2
      refine ⟨_, rfl, ?_⟩
      replace iO := za (Kd.mX (zr iO.out) (Kd.iV ho1) hb)
      replace iD := qF iD hb
      replace tN := qF tN hb
      replace tO := qF tO hb
      replace tK := za (Kd.mX (zr tK.out) (Kd.iV ho1) hb)
      have sG := za (Kd.eU (Kd.yQ (Kd.yQ ho0 (Kd.Hg (zr gD.out))) (Kd.Hg (zr kC.out))) (aT CQ))
      replace gD := za (Kd.mX (zr gD.out) (Kd.iV ho0) hb)
      replace kC := za (Kd.mX (zr kC.out) (Kd.iV ho0) hb)
      have qE := za (Kd.eU (Kd.yQ ho1 (Kd.Hg (zr jH.out))) (aT CQ))
      replace jH := za (Kd.mX (zr jH.out) (Kd.iV ho1) hb)
      replace bG := za (aY (g := bS) (zb bG.out) hb)
      replace dV := za (aY (g := dD) (zb dV.out) hb)
      replace Aj := za (Kd.dG aEK hb)
      replace Ak := za (Kd.dG aEL hb)
      replace Al := za (Kd.dG aEM hb)
      replace fB := za (aY (g := bB) (zb fB.out) hb)
      replace HB := za (aM CQ hb)
      refine hK.out _ _ ⟨(aA bG.out 0).trans rfl, (aA bG.out 1).trans rfl, (aA bG.out 2).trans rfl, (aA bG.out 3).trans rfl, (aA bG.out 4).trans rfl, (aA bG.out 5).trans rfl, (aA bG.out 6).trans rfl, (aA bG.out 7).trans rfl, Om⟩ (fun hHeld => ?_)
      clear hK K
      refine jS (a' := ?_) ?_ ?_
      rotate_left
      ·
       show Act.put _ (some 86) _ = _
       simp only [Act.put, List.setIfInBounds_toArray, List.set_cons_zero, List.set_cons_succ, dO, dQ]
       rfl
      exact jS U2 (ZG (IL, Yn, bB) _ ⟨hHeld, aPC, aPD, aPA, (zr gD.out), (zr iD.out), (zr kC.out), aJP, aPH, aJQ, aPE, (zb bG.out), (zb dV.out), (zb fB.out), RG.out, Vz.out, iI.out, oK.out, jI.out, kY.out, CQ⟩)
    rintro ⟨IL, Yn, bB⟩ vL ⟨hS_, h0_, h1_, h2_, h3_, h4_, h5_, h6_, h7_, h8_, h9_, aD5, aD6, aD7, aD8, aD9, aZA, aZB, aZC, aZD, aZE⟩
    have Qn : aG (Kd.R Yq 87 vL w.heap.size (fun k_ => some k_ ≠ (.slice rG iC.length rH : Value).ownBlock ∧ some k_ ≠ (.slice (some dM) aW.length xZ : Value).ownBlock ∧ k_ ≠ bS) (.slice Vi ((aJ aW 0).f2).length Vj) ((aJ aW 0).f2)) := ⟨h0_⟩
    have Qo : aG (Kd.R Xh 49 vL w.heap.size (fun k_ => some k_ ≠ (.slice rG iC.length rH : Value).ownBlock ∧ some k_ ≠ (.slice (some dM) aW.length xZ : Value).ownBlock ∧ k_ ≠ bS) (.slice Vk ((aJ aW 0).f3).length Vl) ((aJ aW 0).f3)) := ⟨h1_⟩
    have Qp : aG (Kd.R Vo 38 vL w.heap.size (fun k_ => some k_ ≠ (.slice rG iC.length rH : Value).ownBlock ∧ some k_ ≠ (Yn : Value).ownBlock ∧ some k_ ≠ (.slice (some dM) aW.length xZ : Value).ownBlock ∧ k_ ≠ bS) (.slice Vm ((aJ aW 0).f4).length Vn) ((aJ aW 0).f4)) := ⟨h2_⟩
    have JG : aG (Kd.R pR 51 vL w.heap.size (fun k_ => some k_ ≠ (.slice rJ kQ.length rM : Value).ownBlock ∧ some k_ ≠ (IL : Value).ownBlock) (.slice zV mI.length wS) mI) := ⟨h3_⟩
    have JH : aG (Kd.R (Kd.int .i64) 3 vL w.heap.size (fun _ => True) (.slice HY qA.length IA) qA) := ⟨h4_⟩
    have ZH : aG (Kd.R pR 51 vL w.heap.size (fun k_ => some k_ ≠ (.slice zV mI.length wS : Value).ownBlock ∧ some k_ ≠ (IL : Value).ownBlock) (.slice rJ kQ.length rM) kQ) := ⟨h5_⟩
    have ZI : aG (Kd.R Kd.string 9 vL w.heap.size (fun k_ => some k_ ≠ (Yn : Value).ownBlock) (.slice rG iC.length rH) iC) := ⟨h6_⟩
    have ZJ : aG (Kd.R pR 51 vL w.heap.size (fun k_ => some k_ ≠ (.slice zV mI.length wS : Value).ownBlock ∧ some k_ ≠ (.slice rJ kQ.length rM : Value).ownBlock) IL kG) := ⟨h7_⟩
    have uw : aG (Kd.R Kd.string 9 vL w.heap.size (fun k_ => some k_ ≠ (.slice rG iC.length rH : Value).ownBlock) Yn iT) := ⟨h8_⟩
    have uy : aG (Kd.R k31 31 vL w.heap.size (fun k_ => some k_ ≠ (.slice rG iC.length rH : Value).ownBlock ∧ some k_ ≠ (Yn : Value).ownBlock ∧ k_ ≠ bS) (.slice (some dM) aW.length xZ) aW) := ⟨h9_⟩
    have Xd : aG (vL.heap[bS]? = some (.cells #[.string ((bE ((aJ aW 0).f4) (eT)).f0), .slice sV ((bE ((aJ aW 0).f4) (eT)).f1).length sW, .bool ((bE ((aJ aW 0).f4) (eT)).f2), .string ((bE ((aJ aW 0).f4) (eT)).f3), .string ((bE ((aJ aW 0).f4) (eT)).f4), .slice sZ ((bE ((aJ aW 0).f4) (eT)).f5).length tC, .slice tF ((bE ((aJ aW 0).f4) (eT)).f6).length tH, .int .i64 ((bE ((aJ aW 0).f4) (eT)).f7)] 38 (0, 0))) := ⟨aD5⟩
    have aEa : aG (vL.heap[dD]? = some (.cells #[.int .i64 uF, .slice rJ kQ.length rM, .int .i64 uG, .slice rG iC.length rH, .int .i64 uH] 41 (0, 0))) := ⟨aD6⟩
    have aEb : aG (vL.heap[bB]? = some (.cells #[.int .i64 0, .slice none 0 0, .int .i64 0, .slice none 0 0, .int .i64 0] 41 (0, 0))) := ⟨aD7⟩
    have aEc : aG (w.heap.size ≤ bB) := ⟨aD8⟩
    have aEd : aG (w.heap.size ≤ bB) := ⟨aD9⟩
    have aZF : aG (bS ≠ bB) := ⟨aZA⟩
    have aZG : aG (bB ≠ bS) := ⟨aZB⟩
    have aZH : aG (dD ≠ bB) := ⟨aZC⟩
    have aZI : aG (bB ≠ dD) := ⟨aZD⟩
    have aZJ : aG (Below w.heap.size w vL) := ⟨aZE⟩
    clear iO
    clear gD
    clear iD
    clear kC
    clear jH
    clear bG
    clear dV
    clear HB
    clear h0_ h1_ h2_ h3_ h4_ h5_ h6_ h7_ h8_ h9_ aD5 aD6 aD7 aD8 aD9 aZA aZB aZC aZD aZE
    have tN := Qn
    have tO := Qo
    have tK := Qp
    have gD := JG
    have iD := JH
    have kC := ZH
    have jH := ZI
    have sG := ZJ
    have qE := uw
    have iO := uy
    have bG := Xd
    have dV := aEa
    have fB := aEb
    have RG := aEc
    have Vz := aEd
    have iI := aZF
    have oK := aZG
    have jI := aZH
    have kY := aZI
    have HB := aZJ
    clear Qn Qo Qp JG JH ZH ZI ZJ uw uy Xd aEa aEb aEc aEd aZF aZG aZH aZI aZJ
    have hHeld : vL.cell? ⟨bS, 0, none⟩ = some (.string ((bE ((aJ aW 0).f4) (eT)).f0)) ∧ vL.cell? ⟨bS, 1, none⟩ = some (.slice sV ((bE ((aJ aW 0).f4) (eT)).f1).length sW) ∧ vL.cell? ⟨bS, 2, none⟩ = some (.bool ((bE ((aJ aW 0).f4) (eT)).f2)) ∧ vL.cell? ⟨bS, 3, none⟩ = some (.string ((bE ((aJ aW 0).f4) (eT)).f3)) ∧ vL.cell? ⟨bS, 4, none⟩ = some (.string ((bE ((aJ aW 0).f4) (eT)).f4)) ∧ vL.cell? ⟨bS, 5, none⟩ = some (.slice sZ ((bE ((aJ aW 0).f4) (eT)).f5).length tC) ∧ vL.cell? ⟨bS, 6, none⟩ = some (.slice tF ((bE ((aJ aW 0).f4) (eT)).f6).length tH) ∧ vL.cell? ⟨bS, 7, none⟩ = some (.int .i64 ((bE ((aJ aW 0).f4) (eT)).f7)) ∧ vL.cell? dM = some (.string ((aJ aW 0).f0)) ∧ vL.cell? ⟨dM.block, dM.off + 1, none⟩ = some (.int .i64 ((aJ aW 0).f1)) ∧ vL.cell? ⟨dM.block, dM.off + 2, none⟩ = some (.slice Vi ((aJ aW 0).f2).length Vj) ∧ vL.cell? ⟨dM.block, dM.off + 3, none⟩ = some (.slice Vk ((aJ aW 0).f3).length Vl) ∧ vL.cell? ⟨dM.block, dM.off + 4, none⟩ = some (.slice Vm ((aJ aW 0).f4).length Vn) := hS_
    obtain ⟨qK, qL, aGr⟩ := Kd.bJ sG.out
    (first | subst aGr | (injection aGr with wU Gu wV; have Gv := wU.symm; have Gw := wV.symm; clear wU Gu wV; subst Gv; subst Gw))
    obtain ⟨qG, pU, aCQ⟩ := Kd.bJ qE.out
    (first | subst aCQ | (injection aCQ with wU Gu wV; have Gv := wU.symm; have Gw := wV.symm; clear wU Gu wV; subst Gv; subst Gw))
    refine jS (a' := ?_) ?_ ?_
    rotate_left
    ·
     simp only [Vv, Act.put, List.setIfInBounds_toArray, List.set_cons_zero, List.set_cons_succ]
     rfl
    refine Cn 12 none dB (fun K hK => ?_)
    have bRr : vL.cell? ⟨bB, 0, none⟩ = some (.int .i64 0) := (aA fB.out 0).trans rfl
    have bPp := aD fB.out 0
    have bHL := iI.out
    have bHM := jI.out
    have bHN := oK.out
    have bHO := kY.out
    have bRs : vL.cell? ⟨bB, 1, none⟩ = some (.slice none 0 0) := (aA fB.out 1).trans rfl
    have bPq := aD fB.out 1
    have bHP := iI.out
    have bHQ := jI.out
    have bHR := oK.out
    have bHS := kY.out
    have bRt : vL.cell? ⟨bB, 2, none⟩ = some (.int .i64 0) := (aA fB.out 2).trans rfl
    have bPr := aD fB.out 2
    have bHT := iI.out
    have bHU := jI.out
    have bHV := oK.out
    have bHW := kY.out
    have bRu : vL.cell? ⟨bB, 3, none⟩ = some (.slice none 0 0) := (aA fB.out 3).trans rfl
    have bPs := aD fB.out 3
    have bHX := iI.out
    have bHY := jI.out
    have bHZ := oK.out
    have bH0 := kY.out
    have bK9 : vL.cell? ⟨bB, 4, none⟩ = some (.int .i64 0) := (aA fB.out 4).trans rfl
    have aW8 := aD fB.out 4
    have aIx := iI.out
    have bH1 := jI.out
    have aIy := oK.out
    have bH2 := kY.out
    refine Cb (w1 := ?_) (by rfl) rfl ?_ ?_
    rotate_left
    ·
     go_simp
     rfl
    refine hK.out _ _ ⟨(Xl iI.out hHeld.1), (Xl iI.out hHeld.2.1), (Xl iI.out hHeld.2.2.1), (Xl iI.out hHeld.2.2.2.1), (Xl iI.out hHeld.2.2.2.2.1), (Xl iI.out hHeld.2.2.2.2.2.1), (Xl iI.out hHeld.2.2.2.2.2.2.1), (Xl iI.out hHeld.2.2.2.2.2.2.2.1), (Xl bT9 hHeld.2.2.2.2.2.2.2.2.1), (Xl bT9 hHeld.2.2.2.2.2.2.2.2.2.1), (Xl bT9 hHeld.2.2.2.2.2.2.2.2.2.2.1), (Xl bT9 hHeld.2.2.2.2.2.2.2.2.2.2.2.1), (Xl bT9 hHeld.2.2.2.2.2.2.2.2.2.2.2.2)⟩ (fun hHeld => ?_)
    clear hK K
    refine pO (jX dB.out dU) ?_
    have aRD := oJ.out
    have aRE := iU.out
    have aKx := jI.out
    have aKy := kY.out
    obtain ⟨aFT, aFU, aFV, aFW, bH3⟩ := Zj dV.out
    obtain ⟨aFX, aFY, aFZ, aF0, bH4⟩ := JC dV.out
    go_upto_if 89 with (fail)
    have H := aYZ.out
    clear aYZ
    revert H; refine oW (fun KF aKb H => ?_) (fun c67 KF aKb H => ?_)
    ·
     (first | rw [KF] | (simp only [dO, dQ]; rw [KF]) | skip)
     revert H; refine oW (fun aAA aAB H => ?_) (fun c68 aAA aAB H => ?_)
     ·
      replace H := jT H
      obtain ⟨XT, A69, H⟩ := H
      (try dsimp only at H)
      obtain rfl := Option.some.inj H
      have aRH := oK.out
      have aRI := iI.out
      have aRJ := kY.out
      have aRK := jI.out
      obtain ⟨aF1, aF2, aF3, aF4, bH5⟩ := Zj fB.out
      obtain ⟨aF5, aF6, aF7, aF8, bH6⟩ := JC fB.out
      go_wp2_with (first | ((with_reducible refine gL (f := 5) rfl ?_); (with_reducible refine bO (N := 94) rfl ?_); (refine fD (by rfl) ?_; dsimp only); refine nQ (some 94) rfl rfl Try.func5 dU rfl #[] rfl Fb ?_; (with_reducible refine (eQ.calls Ia  XT _ A69.out).mono ?_); rintro e w73 ⟨rfl, hb⟩; refine ⟨_, rfl, ?_⟩; replace HB := za (aM CQ hb)))
      go_ret
      exact ⟨aAf, CQ⟩
     ·
      exact absurd (RD.out.symm.trans (Option.some.inj H).symm) (by decide)
    ·
     (first | rw [KF] | (simp only [dO, dQ]; rw [KF]) | skip)
     have aO2 := za H
     clear H
     go_upto_region 12 with (fail)
     go_cut [114] (fun bNf wc => ∃ (kq : Nat) (RH : Bool), bNf = .bool RH ∧ aG (aI.j1 kq (Int.tmod (wrap64 (a2)) 1000) (wrap64 ((Int.tmod (wrap64 (a2)) 1000) + (Int.tmod (wrap64 (a3)) 1000))) RH uF kQ uG iC uH nW kG nX iT nY = some r) ∧ aG (kq ≤ Ia) ∧ aG (Kd.R pR 51 wc w.heap.size (fun k_ => some k_ ≠ ((.slice qK kG.length qL) : Value).ownBlock) (.slice rJ kQ.length rM) kQ) ∧ aG (Kd.R Kd.string 9 wc w.heap.size (fun k_ => some k_ ≠ ((.slice qG iT.length pU) : Value).ownBlock) (.slice rG iC.length rH) iC) ∧ aG (Kd.R pR 51 wc w.heap.size (fun k_ => some k_ ≠ ((.slice rJ kQ.length rM) : Value).ownBlock) (.slice qK kG.length qL) kG) ∧ aG (Kd.R Kd.string 9 wc w.heap.size (fun k_ => some k_ ≠ ((.slice rG iC.length rH) : Value).ownBlock) (.slice qG iT.length pU) iT) ∧ aG (wc.heap[dD]? = some (.cells #[.int .i64 uF, (.slice rJ kQ.length rM), .int .i64 uG, (.slice rG iC.length rH), .int .i64 uH] 41 (0, 0))) ∧ aG (wc.heap[bB]? = some (.cells #[.int .i64 nW, (.slice qK kG.length qL), .int .i64 nX, (.slice qG iT.length pU), .int .i64 nY] 41 (0, 0))) ∧ aG (Below w.heap.size w wc))
     case first =>
      have H := aO2.out
      clear aO2
      revert H; refine Dn (fun c75 H => ?_) (fun c75 H => ?_)
      ·
       have Ea : decide ((iT.length : Int) < (iC.length : Int)) = true := decide_eq_true c75
       have U6 : decide (iT.length < iC.length) = true := decide_eq_true (Int.ofNat_lt.mp c75)
       clear c75
       (first | rw [Ea] | (simp only [dO, dQ]; rw [Ea]) | skip)
       have H' := za H
       clear H
       try go_wp2
       have Qn : aG (Kd.R k31 31 (((((vL.setCell ⟨bB, 0, none⟩ (.int .i64 nW)).setCell ⟨bB, 1, none⟩ (.slice qK kG.length qL)).setCell ⟨bB, 2, none⟩ (.int .i64 nX)).setCell ⟨bB, 3, none⟩ (.slice qG iT.length pU)).setCell ⟨bB, 4, none⟩ (.int .i64 nY)) w.heap.size (fun k_ => some k_ ≠ (.slice rG iC.length rH : Value).ownBlock ∧ some k_ ≠ (.slice qG iT.length pU : Value).ownBlock ∧ k_ ≠ bS) (.slice (some dM) aW.length xZ) aW) := ⟨aPv⟩
       have Qo : aG (Kd.R pR 51 (((((vL.setCell ⟨bB, 0, none⟩ (.int .i64 nW)).setCell ⟨bB, 1, none⟩ (.slice qK kG.length qL)).setCell ⟨bB, 2, none⟩ (.int .i64 nX)).setCell ⟨bB, 3, none⟩ (.slice qG iT.length pU)).setCell ⟨bB, 4, none⟩ (.int .i64 nY)) w.heap.size (fun k_ => some k_ ≠ (.slice rJ kQ.length rM : Value).ownBlock ∧ some k_ ≠ (.slice qK kG.length qL : Value).ownBlock) (.slice zV mI.length wS) mI) := ⟨aPw⟩
       have Qp : aG (Kd.R (Kd.int .i64) 3 (((((vL.setCell ⟨bB, 0, none⟩ (.int .i64 nW)).setCell ⟨bB, 1, none⟩ (.slice qK kG.length qL)).setCell ⟨bB, 2, none⟩ (.int .i64 nX)).setCell ⟨bB, 3, none⟩ (.slice qG iT.length pU)).setCell ⟨bB, 4, none⟩ (.int .i64 nY)) w.heap.size (fun _ => True) (.slice HY qA.length IA) qA) := ⟨aJB⟩
       have JG : aG (Kd.R pR 51 (((((vL.setCell ⟨bB, 0, none⟩ (.int .i64 nW)).setCell ⟨bB, 1, none⟩ (.slice qK kG.length qL)).setCell ⟨bB, 2, none⟩ (.int .i64 nX)).setCell ⟨bB, 3, none⟩ (.slice qG iT.length pU)).setCell ⟨bB, 4, none⟩ (.int .i64 nY)) w.heap.size (fun k_ => some k_ ≠ (.slice zV mI.length wS : Value).ownBlock ∧ some k_ ≠ (.slice qK kG.length qL : Value).ownBlock) (.slice rJ kQ.length rM) kQ) := ⟨aPx⟩
       have JH : aG (Kd.R Kd.string 9 (((((vL.setCell ⟨bB, 0, none⟩ (.int .i64 nW)).setCell ⟨bB, 1, none⟩ (.slice qK kG.length qL)).setCell ⟨bB, 2, none⟩ (.int .i64 nX)).setCell ⟨bB, 3, none⟩ (.slice qG iT.length pU)).setCell ⟨bB, 4, none⟩ (.int .i64 nY)) w.heap.size (fun k_ => some k_ ≠ (.slice qG iT.length pU : Value).ownBlock) (.slice rG iC.length rH) iC) := ⟨aJD⟩
       have ZH : aG (Kd.R pR 51 (((((vL.setCell ⟨bB, 0, none⟩ (.int .i64 nW)).setCell ⟨bB, 1, none⟩ (.slice qK kG.length qL)).setCell ⟨bB, 2, none⟩ (.int .i64 nX)).setCell ⟨bB, 3, none⟩ (.slice qG iT.length pU)).setCell ⟨bB, 4, none⟩ (.int .i64 nY)) w.heap.size (fun k_ => some k_ ≠ (.slice zV mI.length wS : Value).ownBlock ∧ some k_ ≠ (.slice rJ kQ.length rM : Value).ownBlock) (.slice qK kG.length qL) kG) := ⟨aPy⟩
       have ZI : aG (Kd.R Kd.string 9 (((((vL.setCell ⟨bB, 0, none⟩ (.int .i64 nW)).setCell ⟨bB, 1, none⟩ (.slice qK kG.length qL)).setCell ⟨bB, 2, none⟩ (.int .i64 nX)).setCell ⟨bB, 3, none⟩ (.slice qG iT.length pU)).setCell ⟨bB, 4, none⟩ (.int .i64 nY)) w.heap.size (fun k_ => some k_ ≠ (.slice rG iC.length rH : Value).ownBlock) (.slice qG iT.length pU) iT) := ⟨aJE⟩
       have ZJ : aG ((((((vL.setCell ⟨bB, 0, none⟩ (.int .i64 nW)).setCell ⟨bB, 1, none⟩ (.slice qK kG.length qL)).setCell ⟨bB, 2, none⟩ (.int .i64 nX)).setCell ⟨bB, 3, none⟩ (.slice qG iT.length pU)).setCell ⟨bB, 4, none⟩ (.int .i64 nY)).heap[bS]? = some (.cells #[.string ((bE ((aJ aW 0).f4) (eT)).f0), .slice sV ((bE ((aJ aW 0).f4) (eT)).f1).length sW, .bool ((bE ((aJ aW 0).f4) (eT)).f2), .string ((bE ((aJ aW 0).f4) (eT)).f3), .string ((bE ((aJ aW 0).f4) (eT)).f4), .slice sZ ((bE ((aJ aW 0).f4) (eT)).f5).length tC, .slice tF ((bE ((aJ aW 0).f4) (eT)).f6).length tH, .int .i64 ((bE ((aJ aW 0).f4) (eT)).f7)] 38 (0, 0))) := ⟨zF5 bG.out iI.out⟩
       have uw : aG ((((((vL.setCell ⟨bB, 0, none⟩ (.int .i64 nW)).setCell ⟨bB, 1, none⟩ (.slice qK kG.length qL)).setCell ⟨bB, 2, none⟩ (.int .i64 nX)).setCell ⟨bB, 3, none⟩ (.slice qG iT.length pU)).setCell ⟨bB, 4, none⟩ (.int .i64 nY)).heap[dD]? = some (.cells #[.int .i64 uF, .slice rJ kQ.length rM, .int .i64 uG, .slice rG iC.length rH, .int .i64 uH] 41 (0, 0))) := ⟨zF5 dV.out jI.out⟩
       have uy : aG ((((((vL.setCell ⟨bB, 0, none⟩ (.int .i64 nW)).setCell ⟨bB, 1, none⟩ (.slice qK kG.length qL)).setCell ⟨bB, 2, none⟩ (.int .i64 nX)).setCell ⟨bB, 3, none⟩ (.slice qG iT.length pU)).setCell ⟨bB, 4, none⟩ (.int .i64 nY)).heap[bB]? = some (.cells #[.int .i64 nW, .slice qK kG.length qL, .int .i64 nX, .slice qG iT.length pU, .int .i64 nY] 41 (0, 0))) := ⟨zP5 fB.out⟩
       have Xd : aG (Below w.heap.size w (((((vL.setCell ⟨bB, 0, none⟩ (.int .i64 nW)).setCell ⟨bB, 1, none⟩ (.slice qK kG.length qL)).setCell ⟨bB, 2, none⟩ (.int .i64 nX)).setCell ⟨bB, 3, none⟩ (.slice qG iT.length pU)).setCell ⟨bB, 4, none⟩ (.int .i64 nY))) := ⟨CQ⟩
       generalize (((((vL.setCell ⟨bB, 0, none⟩ (.int .i64 nW)).setCell ⟨bB, 1, none⟩ (.slice qK kG.length qL)).setCell ⟨bB, 2, none⟩ (.int .i64 nX)).setCell ⟨bB, 3, none⟩ (.slice qG iT.length pU)).setCell ⟨bB, 4, none⟩ (.int .i64 nY)) = w76 at Qn Qo Qp JG JH ZH ZI ZJ uw uy Xd ⊢
       have iO := Qn
       have gD := Qo
       have iD := Qp
       have kC := JG
       have jH := JH
       have sG := ZH
       have qE := ZI
       have bG := ZJ
       have dV := uw
       have fB := uy
       have HB := Xd
       clear Qn Qo Qp JG JH ZH ZI ZJ uw uy Xd
       replace iO := Ao iO
       replace gD := Ao gD
       replace iD := Ao iD
       replace kC := Ao kC
       replace jH := Ao jH
       replace sG := Ao sG
       replace qE := Ao qE
       replace bG := za (dE bG.out)
       replace dV := za (dE dV.out)
       replace fB := za (dE fB.out)
       replace HB := za (bK HB.out)
       refine lW (n := 19) (S := fun w' => w'.cell? ⟨dD, 0, none⟩ = some (.int .i64 uF) ∧ w'.cell? ⟨dD, 1, none⟩ = some (.slice rJ kQ.length rM) ∧ w'.cell? ⟨dD, 2, none⟩ = some (.int .i64 uG) ∧ w'.cell? ⟨dD, 3, none⟩ = some (.slice rG iC.length rH) ∧ w'.cell? ⟨dD, 4, none⟩ = some (.int .i64 uH) ∧ w'.cell? ⟨bB, 0, none⟩ = some (.int .i64 nW) ∧ w'.cell? ⟨bB, 1, none⟩ = some (.slice qK kG.length qL) ∧ w'.cell? ⟨bB, 2, none⟩ = some (.int .i64 nX) ∧ w'.cell? ⟨bB, 3, none⟩ = some (.slice qG iT.length pU) ∧ w'.cell? ⟨bB, 4, none⟩ = some (.int .i64 nY)) (ds := []) #[false, false, false, false, false, false, false, false, false, false, false, false, false, false, false, false, false, false, false] dU rfl rfl ⟨(aA dV.out 0).trans rfl, (aA dV.out 1).trans rfl, (aA dV.out 2).trans rfl, (aA dV.out 3).trans rfl, (aA dV.out 4).trans rfl, (aA fB.out 0).trans rfl, (aA fB.out 1).trans rfl, (aA fB.out 2).trans rfl, (aA fB.out 3).trans rfl, (aA fB.out 4).trans rfl⟩ (fun hHeld => ?_); refine gX aI.aKU aI.aD3 (fun dB qB => ?_)
       generalize w76.drew = w77 at iO gD iD kC jH sG qE bG dV fB HB hHeld ⊢
       refine gV 0 (some 96) dB ?_
       refine gV 3 (some 99) dB ?_
       refine vP 1 (some 97) dB qB hHeld ?_
       refine gV 2 (some 98) dB ?_
       refine vP 4 (some 100) dB qB hHeld ?_
       refine gV 5 (some 101) dB ?_
       refine gV 6 (some 102) dB ?_
       refine gV 7 (some 103) dB ?_
       refine De 8 (some 104) dB ?_
       refine De 9 (some 105) dB ?_
       refine De 10 (some 106) dB ?_
       refine De 11 (some 107) dB ?_
       refine De 12 (some 108) dB ?_
       refine De 13 (some 109) dB ?_
       refine De 14 (some 110) dB ?_
       refine De 15 (some 111) dB ?_
       refine De 16 (some 112) dB ?_
       refine De 17 (some 113) dB ?_
       refine gV 18 (some 114) dB ?_
       refine pO (jX dB.out dU) ?_
       try go_wp2
       go_meet
       case rel => exact ⟨_, (true), jG, H', ⟨by have := Dp.out; first | omega | exact Nat.le_refl _⟩, ⟨R3⟩, ⟨by (with_reducible repeat (first | apply Kd.bC | apply Kd.bF | apply Kd.bP)); exact jH.out⟩, ⟨aJR⟩, ⟨by (with_reducible repeat (first | apply Kd.bC | apply Kd.bF | apply Kd.bP)); exact qE.out⟩, ⟨aJS⟩, ⟨aJT⟩, ⟨CQ⟩⟩
      ·
       have Ea : decide ((iT.length : Int) < (iC.length : Int)) = false := decide_eq_false c75
       have U6 : decide (iT.length < iC.length) = false := decide_eq_false (fun h => c75 (Int.ofNat_lt.mpr h))
       clear c75
       (first | rw [Ea] | (simp only [dO, dQ]; rw [Ea]) | skip)
       revert H; refine yP fun c78 aQu aQv H => ?_
       clear c78
       revert H; refine yP fun c79 aQw aQx H => ?_
       clear c79
       obtain ⟨ZQ, IM⟩ : ∃ y_ : List ByteArray, y_ = (iT.take ((iC.length : Int) : Int).toNat) := ⟨_, rfl⟩
       replace H : ((iR.f Ia iC ZQ).bind fun Ym => (aI.j1 Ia (Int.tmod (wrap64 (a2)) 1000) (wrap64 ((Int.tmod (wrap64 (a2)) 1000) + (Int.tmod (wrap64 (a3)) 1000))) (!Ym) uF kQ uG iC uH nW kG nX iT nY)) = some r := by first | (rw [IM]; with_reducible exact H) | (have lS := (Option.bind_some _ _).symm.trans H; rw [IM]; with_reducible exact lS) | (have lS := (Option.bind_some _ _).symm.trans H; with_reducible exact lS) | with_reducible exact H | (rw [IM]; exact H) | exact H
       have aEe := za IM
       clear IM
       replace H := jT H
       obtain ⟨Ym, A80, H⟩ := H
       (try dsimp only at H)
       have H' := za H
       clear H
       try go_wp2
       have Qn : aG (Kd.R k31 31 (((((vL.setCell ⟨bB, 0, none⟩ (.int .i64 nW)).setCell ⟨bB, 1, none⟩ (.slice qK kG.length qL)).setCell ⟨bB, 2, none⟩ (.int .i64 nX)).setCell ⟨bB, 3, none⟩ (.slice qG iT.length pU)).setCell ⟨bB, 4, none⟩ (.int .i64 nY)) w.heap.size (fun k_ => some k_ ≠ (.slice rG iC.length rH : Value).ownBlock ∧ some k_ ≠ (.slice qG iT.length pU : Value).ownBlock ∧ k_ ≠ bS) (.slice (some dM) aW.length xZ) aW) := ⟨aPv⟩
       have Qo : aG (Kd.R pR 51 (((((vL.setCell ⟨bB, 0, none⟩ (.int .i64 nW)).setCell ⟨bB, 1, none⟩ (.slice qK kG.length qL)).setCell ⟨bB, 2, none⟩ (.int .i64 nX)).setCell ⟨bB, 3, none⟩ (.slice qG iT.length pU)).setCell ⟨bB, 4, none⟩ (.int .i64 nY)) w.heap.size (fun k_ => some k_ ≠ (.slice rJ kQ.length rM : Value).ownBlock ∧ some k_ ≠ (.slice qK kG.length qL : Value).ownBlock) (.slice zV mI.length wS) mI) := ⟨aPw⟩
       have Qp : aG (Kd.R (Kd.int .i64) 3 (((((vL.setCell ⟨bB, 0, none⟩ (.int .i64 nW)).setCell ⟨bB, 1, none⟩ (.slice qK kG.length qL)).setCell ⟨bB, 2, none⟩ (.int .i64 nX)).setCell ⟨bB, 3, none⟩ (.slice qG iT.length pU)).setCell ⟨bB, 4, none⟩ (.int .i64 nY)) w.heap.size (fun _ => True) (.slice HY qA.length IA) qA) := ⟨aJB⟩
       have JG : aG (Kd.R pR 51 (((((vL.setCell ⟨bB, 0, none⟩ (.int .i64 nW)).setCell ⟨bB, 1, none⟩ (.slice qK kG.length qL)).setCell ⟨bB, 2, none⟩ (.int .i64 nX)).setCell ⟨bB, 3, none⟩ (.slice qG iT.length pU)).setCell ⟨bB, 4, none⟩ (.int .i64 nY)) w.heap.size (fun k_ => some k_ ≠ (.slice zV mI.length wS : Value).ownBlock ∧ some k_ ≠ (.slice qK kG.length qL : Value).ownBlock) (.slice rJ kQ.length rM) kQ) := ⟨aPx⟩
       have JH : aG (Kd.R Kd.string 9 (((((vL.setCell ⟨bB, 0, none⟩ (.int .i64 nW)).setCell ⟨bB, 1, none⟩ (.slice qK kG.length qL)).setCell ⟨bB, 2, none⟩ (.int .i64 nX)).setCell ⟨bB, 3, none⟩ (.slice qG iT.length pU)).setCell ⟨bB, 4, none⟩ (.int .i64 nY)) w.heap.size (fun k_ => some k_ ≠ (.slice qG iT.length pU : Value).ownBlock) (.slice rG iC.length rH) iC) := ⟨aJD⟩
       have ZH : aG (Kd.R pR 51 (((((vL.setCell ⟨bB, 0, none⟩ (.int .i64 nW)).setCell ⟨bB, 1, none⟩ (.slice qK kG.length qL)).setCell ⟨bB, 2, none⟩ (.int .i64 nX)).setCell ⟨bB, 3, none⟩ (.slice qG iT.length pU)).setCell ⟨bB, 4, none⟩ (.int .i64 nY)) w.heap.size (fun k_ => some k_ ≠ (.slice zV mI.length wS : Value).ownBlock ∧ some k_ ≠ (.slice rJ kQ.length rM : Value).ownBlock) (.slice qK kG.length qL) kG) := ⟨aPy⟩
       have ZI : aG (Kd.R Kd.string 9 (((((vL.setCell ⟨bB, 0, none⟩ (.int .i64 nW)).setCell ⟨bB, 1, none⟩ (.slice qK kG.length qL)).setCell ⟨bB, 2, none⟩ (.int .i64 nX)).setCell ⟨bB, 3, none⟩ (.slice qG iT.length pU)).setCell ⟨bB, 4, none⟩ (.int .i64 nY)) w.heap.size (fun k_ => some k_ ≠ (.slice rG iC.length rH : Value).ownBlock) (.slice qG iT.length pU) iT) := ⟨aJE⟩
       have ZJ : aG ((((((vL.setCell ⟨bB, 0, none⟩ (.int .i64 nW)).setCell ⟨bB, 1, none⟩ (.slice qK kG.length qL)).setCell ⟨bB, 2, none⟩ (.int .i64 nX)).setCell ⟨bB, 3, none⟩ (.slice qG iT.length pU)).setCell ⟨bB, 4, none⟩ (.int .i64 nY)).heap[bS]? = some (.cells #[.string ((bE ((aJ aW 0).f4) (eT)).f0), .slice sV ((bE ((aJ aW 0).f4) (eT)).f1).length sW, .bool ((bE ((aJ aW 0).f4) (eT)).f2), .string ((bE ((aJ aW 0).f4) (eT)).f3), .string ((bE ((aJ aW 0).f4) (eT)).f4), .slice sZ ((bE ((aJ aW 0).f4) (eT)).f5).length tC, .slice tF ((bE ((aJ aW 0).f4) (eT)).f6).length tH, .int .i64 ((bE ((aJ aW 0).f4) (eT)).f7)] 38 (0, 0))) := ⟨zF5 bG.out iI.out⟩
       have uw : aG ((((((vL.setCell ⟨bB, 0, none⟩ (.int .i64 nW)).setCell ⟨bB, 1, none⟩ (.slice qK kG.length qL)).setCell ⟨bB, 2, none⟩ (.int .i64 nX)).setCell ⟨bB, 3, none⟩ (.slice qG iT.length pU)).setCell ⟨bB, 4, none⟩ (.int .i64 nY)).heap[dD]? = some (.cells #[.int .i64 uF, .slice rJ kQ.length rM, .int .i64 uG, .slice rG iC.length rH, .int .i64 uH] 41 (0, 0))) := ⟨zF5 dV.out jI.out⟩
       have uy : aG ((((((vL.setCell ⟨bB, 0, none⟩ (.int .i64 nW)).setCell ⟨bB, 1, none⟩ (.slice qK kG.length qL)).setCell ⟨bB, 2, none⟩ (.int .i64 nX)).setCell ⟨bB, 3, none⟩ (.slice qG iT.length pU)).setCell ⟨bB, 4, none⟩ (.int .i64 nY)).heap[bB]? = some (.cells #[.int .i64 nW, .slice qK kG.length qL, .int .i64 nX, .slice qG iT.length pU, .int .i64 nY] 41 (0, 0))) := ⟨zP5 fB.out⟩
       have Xd : aG (Below w.heap.size w (((((vL.setCell ⟨bB, 0, none⟩ (.int .i64 nW)).setCell ⟨bB, 1, none⟩ (.slice qK kG.length qL)).setCell ⟨bB, 2, none⟩ (.int .i64 nX)).setCell ⟨bB, 3, none⟩ (.slice qG iT.length pU)).setCell ⟨bB, 4, none⟩ (.int .i64 nY))) := ⟨CQ⟩
       generalize (((((vL.setCell ⟨bB, 0, none⟩ (.int .i64 nW)).setCell ⟨bB, 1, none⟩ (.slice qK kG.length qL)).setCell ⟨bB, 2, none⟩ (.int .i64 nX)).setCell ⟨bB, 3, none⟩ (.slice qG iT.length pU)).setCell ⟨bB, 4, none⟩ (.int .i64 nY)) = w81 at Qn Qo Qp JG JH ZH ZI ZJ uw uy Xd ⊢
       have iO := Qn
       have gD := Qo
       have iD := Qp
       have kC := JG
       have jH := JH
       have sG := ZH
       have qE := ZI
       have bG := ZJ
       have dV := uw
       have fB := uy
       have HB := Xd
       clear Qn Qo Qp JG JH ZH ZI ZJ uw uy Xd
       replace iO := Ao iO
       replace gD := Ao gD
       replace iD := Ao iD
       replace kC := Ao kC
       replace jH := Ao jH
       replace sG := Ao sG
       replace qE := Ao qE
       replace bG := za (dE bG.out)
       replace dV := za (dE dV.out)
       replace fB := za (dE fB.out)
       replace HB := za (bK HB.out)
       have q83 : ((iC.length : Int) : Int) ≤ ((iT.length : Int) : Int) := of_decide_eq_true iL
       obtain ⟨bRv, aKV, _, aZK, _⟩ := info_parts yt
       have ng : iT.length ≤ pU := (Kd.cZ qE.out).2.1
       have aZL : Kd.C Kd.string _ qG iT.length iT := (Kd.cZ qE.out).2.2
       have aO3 := xx (P := Try.prog) 22 9 .i64 Try.underlying22 aKV qG iT.length pU (iC.length : Int) (of_decide_eq_true iL) q83 ng
       have aO4 := Kd.aK4 (m := ((iC.length : Int) : Int).toNat) aZL (by omega)
       have aO5 : ZQ.length = ((iC.length : Int) : Int).toNat := (by rw [aEe.out, List.length_take]; omega)
       rw [← aEe.out] at aO4
       rw [← aO5] at aO3
       have O5 := za aO4
       have aO6 := za (show ZQ.length ≤ pU from by omega)
       clear aO4 aZL ng aKV aZK
       have bRw := za aO5
       clear aO5
       have bRx := za (show ((iC.length : Int) : Int).toNat ≤ iT.length from by omega)
       replace q83 := eq_true q83
       refine lW (n := 19) (S := fun w' => w'.cell? ⟨dD, 0, none⟩ = some (.int .i64 uF) ∧ w'.cell? ⟨dD, 1, none⟩ = some (.slice rJ kQ.length rM) ∧ w'.cell? ⟨dD, 2, none⟩ = some (.int .i64 uG) ∧ w'.cell? ⟨dD, 3, none⟩ = some (.slice rG iC.length rH) ∧ w'.cell? ⟨dD, 4, none⟩ = some (.int .i64 uH) ∧ w'.cell? ⟨bB, 0, none⟩ = some (.int .i64 nW) ∧ w'.cell? ⟨bB, 1, none⟩ = some (.slice qK kG.length qL) ∧ w'.cell? ⟨bB, 2, none⟩ = some (.int .i64 nX) ∧ w'.cell? ⟨bB, 3, none⟩ = some (.slice qG iT.length pU) ∧ w'.cell? ⟨bB, 4, none⟩ = some (.int .i64 nY)) (ds := []) #[false, false, false, false, false, false, false, false, false, false, false, false, false, false, false, false, false, false, false] dU rfl rfl ⟨(aA dV.out 0).trans rfl, (aA dV.out 1).trans rfl, (aA dV.out 2).trans rfl, (aA dV.out 3).trans rfl, (aA dV.out 4).trans rfl, (aA fB.out 0).trans rfl, (aA fB.out 1).trans rfl, (aA fB.out 2).trans rfl, (aA fB.out 3).trans rfl, (aA fB.out 4).trans rfl⟩ (fun hHeld => ?_); refine gX aI.aKU aI.aD3 (fun dB qB => ?_)
       generalize w81.drew = w82 at iO gD iD kC jH sG qE bG dV fB HB O5 hHeld ⊢
       refine gV 0 (some 96) dB ?_
       refine gV 3 (some 99) dB ?_
       refine vP 1 (some 97) dB qB hHeld ?_
       refine gV 2 (some 98) dB ?_
       refine vP 4 (some 100) dB qB hHeld ?_
       refine gV 5 (some 101) dB ?_
       refine gV 6 (some 102) dB ?_
       refine gV 7 (some 103) dB ?_
       refine gV 8 (some 104) dB ?_
       refine gV 10 (some 106) dB ?_
       refine gV 12 (some 108) dB ?_
       refine vP 9 (some 105) dB qB hHeld ?_
       refine vP 11 (some 107) dB qB hHeld ?_
       refine vP 13 (some 109) dB qB hHeld ?_
       refine gV 14 (some 110) dB ?_
       refine gV 15 (some 111) dB ?_
       refine Cn 16 (some 112) dB (fun K hK => ?_)
       refine wT Try.func9 dU rfl #[.slice rG iC.length rH, .slice qG ZQ.length pU] (by rfl) rfl rfl Fb ?_
       with_reducible refine (iR.calls Ia _ _ iC _ _ ZQ Ym _ ?side1 ?side2 ?side3 ?side4 A80.out).mono ?_
       (case side1 => repeat (first | exact (Kd.cZ jH.out).2.2 | (with_reducible refine Kd.jV ?_ _) | (with_reducible refine Kd.jW ?_ _) | (with_reducible refine Kd.kR ?_)))
       (case side2 => exact (Kd.cZ jH.out).2.1)
       (case side3 => repeat (first | exact (by repeat (first | (with_reducible exact O5.out) | (with_reducible refine Kd.jV ?_ _) | (with_reducible refine Kd.jW ?_ _) | (with_reducible refine Kd.kR ?_) | exact O5.out)) | (with_reducible refine Kd.jV ?_ _) | (with_reducible refine Kd.jW ?_ _) | (with_reducible refine Kd.kR ?_)))
       (case side4 => exact aO6.out)
       rintro e w' ⟨rfl, ⟨nd, rfl⟩⟩
       refine ⟨_, rfl, ?_⟩
       refine hK.out _ _ ⟨(aA dV.out 0).trans rfl, (aA dV.out 1).trans rfl, (aA dV.out 2).trans rfl, (aA dV.out 3).trans rfl, (aA dV.out 4).trans rfl, (aA fB.out 0).trans rfl, (aA fB.out 1).trans rfl, (aA fB.out 2).trans rfl, (aA fB.out 3).trans rfl, (aA fB.out 4).trans rfl⟩ (fun hHeld => ?_)
       clear hK K
       refine jS (a' := ?_) ?_ ?_
       rotate_left
       ·
        show Act.put _ (some 112) _ = _
        simp only [Act.put, List.setIfInBounds_toArray, List.set_cons_zero, List.set_cons_succ, dO, dQ]
        rfl
       refine gV 17 (some 113) dB ?_
       refine gV 18 (some 114) dB ?_
       refine pO (jX dB.out dU) ?_
       try go_wp2
       go_meet
       case rel => exact ⟨_, (!Ym), jG, H', ⟨by have := Dp.out; first | omega | exact Nat.le_refl _⟩, ⟨R3⟩, ⟨by (with_reducible repeat (first | apply Kd.bC | apply Kd.bF | apply Kd.bP)); exact jH.out⟩, ⟨aJR⟩, ⟨by (with_reducible repeat (first | apply Kd.bC | apply Kd.bF | apply Kd.bP)); exact qE.out⟩, ⟨aJS⟩, ⟨aJT⟩, ⟨CQ⟩⟩
     case rest =>
      clear aO2
      obtain ⟨kq, RH, rfl, HA, bRy, xH, xI, xJ, xK, dV, fB, HB⟩ := hcut
      cases kq with
      | zero => exact absurd HA.out (by simp [aI.j1])
      | succ aJb =>
       have H := HA.out
       clear HA
       simp only [aI.j1] at H
       replace H := Bq H
       rcases H with ⟨rfl, H⟩ | ⟨rfl, H⟩
       ·
        exact absurd (RD.out.symm.trans (Option.some.inj H).symm) (by decide)
       ·
        have aZM := za H
        clear H
        have bPt := jI.out
        have bPu := kY.out
        obtain ⟨bH7, bH8, bH9, bIa, bIb⟩ := Zj dV.out
        obtain ⟨bIc, bId, bIe, bIf, bIg⟩ := JC dV.out
        go_upto_if 117 with (fail)
        have H := aZM.out
        clear aZM
        revert H; refine oW (fun KI aKe H => ?_) (fun c88 KI aKe H => ?_)
        ·
         (first | rw [KI] | (simp only [dO, dQ]; rw [KI]) | skip)
         revert H; refine oW (fun aZN aZO H => ?_) (fun c89 aZN aZO H => ?_)
         ·
          replace H := jT H
          obtain ⟨aKS, A90, H⟩ := H
          (try dsimp only at H)
          replace H := Bq H
          rcases H with ⟨rfl, H⟩ | ⟨rfl, H⟩
          ·
           revert H; refine oW (fun aAI aAJ H => ?_) (fun c92 aAI aAJ H => ?_)
           ·
            replace H := jT H
            obtain ⟨aKT, A93, H⟩ := H
            (try dsimp only at H)
            replace H := Bq H
            rcases H with ⟨rfl, H⟩ | ⟨rfl, H⟩
            ·
             revert H; refine oW (fun aZP aZQ H => ?_) (fun c95 aZP aZQ H => ?_)
             ·
              replace H := jT H
              obtain ⟨aD1, A96, H⟩ := H
              (try dsimp only at H)
              obtain rfl := Option.some.inj H
              have bPv := kY.out
              have bPw := jI.out
              obtain ⟨bIh, bIi, bIj, bIk, bIl⟩ := Zj fB.out
              obtain ⟨bIm, bIn, bIo, bIp, bIq⟩ := JC fB.out
              obtain ⟨bIr, bIs, bIt, bIu, bIv⟩ := Zj dV.out
              obtain ⟨bIw, bIx, bIy, bIz, bIA⟩ := JC dV.out
              go_wp2_with (first | ((with_reducible refine gL (f := 10) rfl ?_); (with_reducible refine bO (N := 126) rfl ?_); (refine fD (by rfl) ?_; dsimp only); refine nQ (some 126) rfl rfl Try.func10 dU rfl #[.slice rJ kQ.length rM, .slice qK kG.length qL] rfl Fb ?_; (with_reducible refine (jN.calls aJb _ _ kQ _ _ kG true _ ?side1 ?side2 ?side3 ?side4 A90.out).mono ?_); (case side1 => repeat (first | exact (Kd.cZ xH.out).2.2 | (with_reducible refine Kd.jV ?_ _) | (with_reducible refine Kd.jW ?_ _) | (with_reducible refine Kd.kR ?_))); (case side2 => exact (Kd.cZ xH.out).2.1); (case side3 => repeat (first | exact (Kd.cZ xJ.out).2.2 | (with_reducible refine Kd.jV ?_ _) | (with_reducible refine Kd.jW ?_ _) | (with_reducible refine Kd.kR ?_))); (case side4 => exact (Kd.cZ xJ.out).2.1); rintro e w' ⟨rfl, ⟨nd, rfl⟩⟩; refine ⟨_, rfl, ?_⟩) | ((with_reducible refine gL (f := 9) rfl ?_); (with_reducible refine bO (N := 140) rfl ?_); (refine fD (by rfl) ?_; dsimp only); refine nQ (some 140) rfl rfl Try.func9 dU rfl #[.slice rG iC.length rH, .slice qG iT.length pU] rfl Fb ?_; (with_reducible refine (iR.calls aJb _ _ iC _ _ iT true _ ?side1 ?side2 ?side3 ?side4 A93.out).mono ?_); (case side1 => repeat (first | exact (Kd.cZ xI.out).2.2 | (with_reducible refine Kd.jV ?_ _) | (with_reducible refine Kd.jW ?_ _) | (with_reducible refine Kd.kR ?_))); (case side2 => exact (Kd.cZ xI.out).2.1); (case side3 => repeat (first | exact (Kd.cZ xK.out).2.2 | (with_reducible refine Kd.jV ?_ _) | (with_reducible refine Kd.jW ?_ _) | (with_reducible refine Kd.kR ?_))); (case side4 => exact (Kd.cZ xK.out).2.1); rintro e w' ⟨rfl, ⟨nd, rfl⟩⟩; refine ⟨_, rfl, ?_⟩) | ((with_reducible refine gL (f := 5) rfl ?_); (with_reducible refine bO (N := 154) rfl ?_); (refine fD (by rfl) ?_; dsimp only); refine nQ (some 154) rfl rfl Try.func5 dU rfl #[] rfl Fb ?_; (with_reducible refine (eQ.calls aJb  aD1 _ A96.out).mono ?_); rintro e bKE ⟨rfl, hb⟩; refine ⟨_, rfl, ?_⟩; replace HB := za (aM aEG hb)))
              go_ret
              exact ⟨aAf, aEG⟩
             ·
              exact absurd (RD.out.symm.trans (Option.some.inj H).symm) (by decide)
            ·
             exact absurd (RD.out.symm.trans (Option.some.inj H).symm) (by decide)
           ·
            exact absurd (RD.out.symm.trans (Option.some.inj H).symm) (by decide)
          ·
           exact absurd (RD.out.symm.trans (Option.some.inj H).symm) (by decide)
         ·
          exact absurd (RD.out.symm.trans (Option.some.inj H).symm) (by decide)
        ·
         (first | rw [KI] | (simp only [dO, dQ]; rw [KI]) | skip)
         revert H; refine oW (fun aO7 aO8 H => ?_) (fun c101 aO7 aO8 H => ?_)
         ·
          revert H; refine oW (fun aO9 aPa H => ?_) (fun c102 aO9 aPa H => ?_)
          ·
           replace H := jT H
           obtain ⟨aD2, bNg, H⟩ := H
           (try dsimp only at H)
           obtain rfl := Option.some.inj H
           have bNh := jI.out
           have bNi := kY.out
           obtain ⟨aZR, aZS, aZT, aZU, aZV⟩ := Zj dV.out
           obtain ⟨aZW, aZX, aZY, aZZ, aZ0⟩ := JC dV.out
           go_wp2_with (first | ((with_reducible refine gL (f := 5) rfl ?_); (with_reducible refine bO (N := 165) rfl ?_); (refine fD (by rfl) ?_; dsimp only); refine nQ (some 165) rfl rfl Try.func5 dU rfl #[] rfl Fb ?_; (with_reducible refine (eQ.calls aJb  aD2 _ bNg.out).mono ?_); rintro e bRz ⟨rfl, hb⟩; refine ⟨_, rfl, ?_⟩; replace HB := za (aM aEG hb)))
           go_ret
           exact ⟨aAf, aEG⟩
          ·
           exact absurd (RD.out.symm.trans (Option.some.inj H).symm) (by decide)
         ·
          exact absurd (RD.out.symm.trans (Option.some.inj H).symm) (by decide)
def aI.Pure : Prop := ∀ (l0 : List ByteArray) (l1 : List Int) (a2 : Int) (a3 : Int), l0.length * 16 ≤ 140737488351232 → l1.length ≤ maxLen → l1.length * 8 ≤ 140737488351232 → (∀ x ∈ l1, (Lit.int .i64 x).wf = true) → (Lit.int .u16 a2).wf = true → (Lit.int .u16 a3).wf = true → ∃ k, aI.f k l0 l1 a2 a3 = some true
theorem aI.walk (P : aI.Pure) (a0 : Option Addr) (cap0 : Nat) (l0 : List ByteArray) (a1 : Option Addr) (ZR ZT : Nat) (z1 : List Int) (a2 : Int) (a3 : Int) (w : World) (w0 : Kd.C Kd.string w a0 l0.length l0) (c0 : l0.length ≤ cap0) (y0 : l0.length * 16 ≤ 140737488351232) (w1 : (a1 = none ∧ ZR = 0 ∧ ZT = 0 ∧ z1 = []) ∨ ∃ x, a1 = some x ∧ ZR ≤ ZT ∧ ZT ≤ maxLen ∧ z1.length = ZT ∧ (∀ i, i < z1.length → w.cell? (x.add i) = some (.int .i64 (z1.getD i 0))) ∧ ∀ n ∈ z1, (Lit.int .i64 n).wf = true) (y1 : ZR * 8 ≤ 140737488351232) (w2 : (Lit.int .u16 a2).wf = true) (w3 : (Lit.int .u16 a3).wf = true) :
  Calls Try.prog 3 #[.slice a0 l0.length cap0, .slice a1 ZR ZT, .int .u16 a2, .int .u16 a3] w fun e w' => e = .returned (.bool true) ∧ Below w.heap.size w w' := by
 obtain ⟨l1, rfl, hr1, hm1, hw1, hc1⟩ := kJ.aK5 w1
 obtain ⟨k, h⟩ := P l0 l1 a2 a3 y0 hm1 y1 hw1 w2 w3
 refine (aI.calls k _ _ l0 _ _ l1 a2 a3 true w ⟨rfl⟩ w0 c0 (Kd.ZZ (d := (0 : Int)) (h1 := fun _ => rfl) hr1) hc1 h).mono ?_
 rintro e w' ⟨rfl, hd⟩
 exact ⟨rfl, hd⟩
end Go.Proofs.Ytiaeldibklcobaa.eZ
