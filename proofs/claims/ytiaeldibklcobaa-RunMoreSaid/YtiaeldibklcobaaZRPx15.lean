import Derived.Test.YtiaeldibklcobaaZRPx14
namespace Go.Proofs.Ytiaeldibklcobaa.eZ
open Go.RowKit Go.Proofs.YtiaeldibklcobaaW.bL Go.Proofs.YtiaeldibklcobaaW.fV Go.Proofs.YtiaeldibklcobaaW.iZ
set_option maxHeartbeats 8000000
set_option maxRecDepth 100000
attribute [local go_sem] kL kM lX lY jC jD kN kP
set_option linter.unusedVariables false
set_option linter.unusedSimpArgs false
def eP.l0 : Nat → List (gK) → Int → Option (Bool)
 | 0, _, _ => none
 | k + 1, x0, x5 => if x5 > 0 then (if 0 ≤ x5 then (if x5 < (x0.length : Int) then (if 0 ≤ (wrap64 (x5 - 1)) then (if (wrap64 (x5 - 1)) < (x0.length : Int) then ((dR.f k ((aZ x0 x5).f0) ((aZ x0 x5).f1) ((aZ x0 x5).f2) ((aZ x0 (wrap64 (x5 - 1))).f0) ((aZ x0 (wrap64 (x5 - 1))).f1) ((aZ x0 (wrap64 (x5 - 1))).f2)).bind fun K6 => (if K6 < 0 then (some false) else (eP.l0 k x0 (wrap64 (x5 - 1))))) else (none)) else (none)) else (none)) else (none)) else (some true)
def eP.f (k : Nat) (l0 : List (gK))  : Option (Bool) := eP.l0 k l0 (wrap64 ((l0.length : Int) - 1))
theorem eP.fT : ∀ k, (∀ y0 y1, bV (eP.l0 k y0 y1) (eP.l0 (k + 1) y0 y1))
 | 0 => fun _ _ r h => by simp [eP.l0] at h
 | k + 1 => by
  have nV := eP.fT k
  ·
   intro y0 y1
   unfold eP.l0
   repeat' with_reducible first | apply nV | apply dR.mono | exact bV.refl _ | exact bV.none _ | refine bV.ite ?_ ?_ | refine bV.bind ?_ (fun _ => ?_)
theorem eP.mono : ∀ a0 k, bV (eP.f k a0) (eP.f (k + 1) a0) := by
 intro a0 k
 have nV := eP.fT k
 unfold eP.f
 repeat' with_reducible first | apply nV | apply dR.mono | exact bV.refl _ | exact bV.none _ | refine bV.ite ?_ ?_ | refine bV.bind ?_ (fun _ => ?_)
def eP.T4 : Bool × List (List Nat × List Nat) := (true, [([], []), ([], []), ([], []), ([1, 2], [1, 2]), ([3], [3]), ([], []), ([], []), ([6], [6]), ([5, 7], [5, 7]), ([8], [8]), ([0, 4, 9], [0, 4, 9]), ([10], [10])])
def eP.B4 : List Nat := [0, 0, 0, 6, 14, 0, 0, 64, 224, 480, 1023, 2047]
theorem eP.bLX : oL .any (opsOf Try.f60 4) = eP.T4 := by kernel_rfl
theorem eP.aXo : kH eP.T4.2 eP.B4 = true := by kernel_rfl
theorem eP.calls (k : Nat) (A0 : Option Addr) (c0 : Nat) (l0 : List (gK))  (r : Bool) (w : World) (hr0 : Kd.C pR w A0 l0.length l0) (hc0 : l0.length ≤ c0) (h : eP.f k l0 = some r) :
  Calls Try.prog 60 #[.slice A0 l0.length c0, .func (.func 61) #[] #[]] w fun e w' => e = .returned (.bool r) ∧ Below w.heap.size w w' := by
 have aCY := Try.underlying51
 have Gi := za hr0
 have IQ := za hc0
 clear hr0 hc0
 have HB := za (Below.refl w.heap.size w)
 have H : (eP.l0 k l0 (wrap64 ((l0.length : Int) - 1))) = some r := h
 clear h
 have H' := za H
 clear H
 go_enter Try.func60, Try.ntmps60
 go_wp2
 go_loopg [5] k (fun kq v5 w' => ∃ (gY : Int), v5 = .int .i64 gY ∧ aG (eP.l0 kq l0 gY = some r) ∧ aG (kq ≤ k) ∧ aG (Below w.heap.size w w'))
 case atStart => exact ⟨(wrap64 ((l0.length : Int) - 1)), jG, H', ⟨Nat.le_refl _⟩, ⟨kU⟩⟩
 case round =>
  clear H'
  obtain ⟨gY, rfl, HA, lH, HB⟩ := hrel
  cases gk with
  | zero => exact absurd HA.out (by simp [eP.l0])
  | succ k1 =>
   have H := HA.out
   clear HA
   simp only [eP.l0] at H
   revert H; refine Dn (fun c3 H => ?_) (fun c3 H => ?_)
   ·
    have Bt : decide (0 < gY) = true := decide_eq_true c3
    clear c3
    revert H; refine yX fun wY H => ?_
    revert H; refine zd fun c5 H => ?_
    have zG : decide (gY < (l0.length : Int)) = true := decide_eq_true c5
    clear c5
    obtain ⟨yA, JB⟩ : ∃ j_ : Int, (wrap64 (gY - 1)) = j_ := ⟨_, rfl⟩
    replace H : (if 0 ≤ (yA) then (if (yA) < (l0.length : Int) then ((dR.f k1 ((aZ l0 gY).f0) ((aZ l0 gY).f1) ((aZ l0 gY).f2) ((aZ l0 (yA)).f0) ((aZ l0 (yA)).f1) ((aZ l0 (yA)).f2)).bind fun K6 => (if K6 < 0 then (some false) else (eP.l0 k1 l0 yA))) else (none)) else (none)) = some r := by first | (rw [JB] at H; exact H) | (simp only [JB] at H ⊢; exact H)
    have aXp : (IntKind.i64.wrap (gY - 1)) = yA := (dO _).trans JB
    revert H; refine yX fun Bu H => ?_
    revert H; refine yX fun oZ H => ?_
    replace H := jT H
    obtain ⟨K6, A9, H⟩ := H
    (try dsimp only at H)
    have OX := za H
    clear H
    try go_wp2
    replace HB := za (bK HB.out)
    have aN6 : 0 ≤ (gY : Int) := of_decide_eq_true iL
    have aN7 : gY < (l0.length : Int) := of_decide_eq_true iL
    obtain ⟨Jc, bLY, Tp, Tq, Tt⟩ := uW Gi.out gY aN6 aN7
    have AO := Tt
    have AP := Tq
    have AQ := Tp
    cases bLY
    replace Tp := (HB.out.cell (World.block_lt_of_cell? w _ Tp)).trans Tp
    replace Tq := (HB.out.cell (World.block_lt_of_cell? w _ Tq)).trans Tq
    replace Tt := (HB.out.cell (World.block_lt_of_cell? w _ Tt)).trans Tt
    replace aN6 := eq_true aN6
    replace aN7 := eq_true aN7
    have aN8 : 0 ≤ ((yA) : Int) := of_decide_eq_true iL
    have aN9 : (yA) < (l0.length : Int) := of_decide_eq_true iL
    obtain ⟨aXq, bLZ, Tu, Tv, Tw⟩ := uW Gi.out (yA) aN8 aN9
    have AR := Tw
    have AU := Tv
    have AV := Tu
    obtain rfl : Jc = aXq := (by injection bLZ)
    replace Tu := (HB.out.cell (World.block_lt_of_cell? w _ Tu)).trans Tu
    replace Tv := (HB.out.cell (World.block_lt_of_cell? w _ Tv)).trans Tv
    replace Tw := (HB.out.cell (World.block_lt_of_cell? w _ Tw)).trans Tw
    replace aN8 := eq_true aN8
    replace aN9 := eq_true aN9
    refine lW (n := 12) (S := fun w' => w'.cell? (Jc.add ((gY).toNat * 3)) = some (.string ((aZ l0 gY).f0)) ∧ w'.cell? ⟨(Jc.add ((gY).toNat * 3)).block, (Jc.add ((gY).toNat * 3)).off + 1, none⟩ = some (.string ((aZ l0 gY).f1)) ∧ w'.cell? ⟨(Jc.add ((gY).toNat * 3)).block, (Jc.add ((gY).toNat * 3)).off + 2, none⟩ = some (.int .i64 ((aZ l0 gY).f2)) ∧ w'.cell? (Jc.add (((yA)).toNat * 3)) = some (.string ((aZ l0 (yA)).f0)) ∧ w'.cell? ⟨(Jc.add (((yA)).toNat * 3)).block, (Jc.add (((yA)).toNat * 3)).off + 1, none⟩ = some (.string ((aZ l0 (yA)).f1)) ∧ w'.cell? ⟨(Jc.add (((yA)).toNat * 3)).block, (Jc.add (((yA)).toNat * 3)).off + 2, none⟩ = some (.int .i64 ((aZ l0 (yA)).f2))) (ds := []) #[false, false, false, false, false, false, false, false, false, false, false, false] dU rfl rfl ⟨((HB.out.cell (World.block_lt_of_cell? w _ AQ)).trans AQ), ((HB.out.cell (World.block_lt_of_cell? w _ AP)).trans AP), ((HB.out.cell (World.block_lt_of_cell? w _ AO)).trans AO), ((HB.out.cell (World.block_lt_of_cell? w _ AV)).trans AV), ((HB.out.cell (World.block_lt_of_cell? w _ AU)).trans AU), ((HB.out.cell (World.block_lt_of_cell? w _ AR)).trans AR)⟩ (fun hHeld => ?_); refine gX eP.bLX eP.aXo (fun dB qB => ?_)
    generalize wr.drew = OY at HB Tp Tq Tt Tu Tv Tw hHeld ⊢
    refine gV 0 (some 13) dB ?_
    refine gV 1 (some 14) dB ?_
    refine gV 2 (some 15) dB ?_
    refine gV 3 (some 16) dB ?_
    refine gV 5 (some 18) dB ?_
    refine gV 6 (some 19) dB ?_
    refine gV 7 (some 20) dB ?_
    refine gV 8 (some 21) dB ?_
    refine vP 4 (some 17) dB qB hHeld ?_
    refine vP 9 (some 22) dB qB hHeld ?_
    refine Cn 10 (some 23) dB (fun K hK => ?_)
    refine Go.Proofs.YtiaeldibklcobaaFnv.D9 Try.func61 dU rfl #[.agg #[.string ((aZ l0 gY).f0), .string ((aZ l0 gY).f1), .int .i64 ((aZ l0 gY).f2)], .agg #[.string ((aZ l0 (yA)).f0), .string ((aZ l0 (yA)).f1), .int .i64 ((aZ l0 (yA)).f2)]] (by rfl) rfl rfl rfl aJJ ?_
    with_reducible refine (dR.calls k1 ((aZ l0 gY).f0) ((aZ l0 gY).f1) ((aZ l0 gY).f2) ((aZ l0 (yA)).f0) ((aZ l0 (yA)).f1) ((aZ l0 (yA)).f2) K6 _ A9.out).mono ?_
    rintro e Mk ⟨rfl, hb⟩
    refine ⟨_, rfl, ?_⟩
    replace HB := za (aM kU hb)
    refine hK.out _ _ ⟨((HB.out.cell (World.block_lt_of_cell? w _ AQ)).trans AQ), ((HB.out.cell (World.block_lt_of_cell? w _ AP)).trans AP), ((HB.out.cell (World.block_lt_of_cell? w _ AO)).trans AO), ((HB.out.cell (World.block_lt_of_cell? w _ AV)).trans AV), ((HB.out.cell (World.block_lt_of_cell? w _ AU)).trans AU), ((HB.out.cell (World.block_lt_of_cell? w _ AR)).trans AR)⟩ (fun hHeld => ?_)
    clear hK K
    refine jS (a' := ?_) ?_ ?_
    rotate_left
    ·
     show Act.put _ (some 23) _ = _
     simp only [Act.put, List.setIfInBounds_toArray, List.set_cons_zero, List.set_cons_succ, dO, dQ]
     rfl
    refine gV 11 (some 24) dB ?_
    refine pO (jX dB.out dU) ?_
    go_upto_if 24 with (fail)
    have H := OX.out
    clear OX
    revert H; refine Dn (fun c13 H => ?_) (fun c13 H => ?_)
    ·
     have vU : decide (K6 < 0) = true := decide_eq_true c13
     clear c13
     (first | rw [vU] | (simp only [dO, dQ]; rw [vU]) | skip)
     obtain rfl := Option.some.inj H
     go_wp2
     go_ret
     exact ⟨by first | rfl | (simp [vD, vE] <;> rfl) | (simp only [← JB]; first | rfl | (simp [vD, vE] <;> rfl)) | (simp [*, vD, vE] <;> rfl), kU⟩
    ·
     have vU : decide (K6 < 0) = false := decide_eq_false c13
     clear c13
     (first | rw [vU] | (simp only [dO, dQ]; rw [vU]) | skip)
     have H' := za H
     clear H
     go_wp2
     go_roundg k1
     case measure => have := lH.out; omega
     case rel => exact ⟨(yA), aAq, H', ⟨by have := lH.out; omega⟩, ⟨kU⟩⟩
   ·
    have Bt : decide (0 < gY) = false := decide_eq_false c3
    clear c3
    obtain rfl := Option.some.inj H
    go_wp2
    go_ret
    exact ⟨jR, kU⟩
def dA.l0 : Nat → List (gK) → Int → Int → Int → ByteArray → ByteArray → Int → Option (Int × Bool)
 | 0, _, _, _, _, _, _, _ => none
 | k + 1, x0, x8, x9, tX, AX, AY, AZ => if x9 < tX then (if 0 ≤ (wrap64 ((IntKind.u64.wrap (wrap64 (x9 + tX))) / 2)) then (if (wrap64 ((IntKind.u64.wrap (wrap64 (x9 + tX))) / 2)) < (x0.length : Int) then ((dR.f k ((aZ x0 (wrap64 ((IntKind.u64.wrap (wrap64 (x9 + tX))) / 2))).f0) ((aZ x0 (wrap64 ((IntKind.u64.wrap (wrap64 (x9 + tX))) / 2))).f1) ((aZ x0 (wrap64 ((IntKind.u64.wrap (wrap64 (x9 + tX))) / 2))).f2) AX AY AZ).bind fun aC1 => (if aC1 < 0 then (dA.l0 k x0 x8 (wrap64 ((wrap64 ((IntKind.u64.wrap (wrap64 (x9 + tX))) / 2)) + 1)) tX AX AY AZ) else (dA.l0 k x0 x8 x9 (wrap64 ((IntKind.u64.wrap (wrap64 (x9 + tX))) / 2)) AX AY AZ))) else (none)) else (none)) else (if x9 < x8 then (if 0 ≤ x9 then (if x9 < (x0.length : Int) then ((dR.f k ((aZ x0 x9).f0) ((aZ x0 x9).f1) ((aZ x0 x9).f2) AX AY AZ).bind fun aOa => (some (x9, (aOa == 0)))) else (none)) else (none)) else (some (x9, false)))
def dA.f (k : Nat) (l0 : List (gK)) (qW : ByteArray) (mE : ByteArray) (sI : Int)  : Option (Int × Bool) := dA.l0 k l0 (l0.length : Int) 0 (l0.length : Int) qW mE sI
theorem dA.fT : ∀ k, (∀ y0 y1 y2 y3 y4 y5 y6, bV (dA.l0 k y0 y1 y2 y3 y4 y5 y6) (dA.l0 (k + 1) y0 y1 y2 y3 y4 y5 y6))
 | 0 => fun _ _ _ _ _ _ _ r h => by simp [dA.l0] at h
 | k + 1 => by
  have nV := dA.fT k
  ·
   intro y0 y1 y2 y3 y4 y5 y6
   unfold dA.l0
   repeat' with_reducible first | apply nV | apply dR.mono | exact bV.refl _ | exact bV.none _ | refine bV.ite ?_ ?_ | refine bV.bind ?_ (fun _ => ?_)
theorem dA.mono : ∀ a0 a1 a2 a3 k, bV (dA.f k a0 a1 a2 a3) (dA.f (k + 1) a0 a1 a2 a3) := by
 intro a0 a1 a2 a3 k
 have nV := dA.fT k
 unfold dA.f
 repeat' with_reducible first | apply nV | apply dR.mono | exact bV.refl _ | exact bV.none _ | refine bV.ite ?_ ?_ | refine bV.bind ?_ (fun _ => ?_)
def dA.T5 : Bool × List (List Nat × List Nat) := (true, [([], []), ([], []), ([], []), ([1, 2], [1, 2]), ([3], [3]), ([], []), ([0, 4, 5], [0, 4, 5]), ([6], [6])])
def dA.B5 : List Nat := [0, 0, 0, 6, 14, 0, 63, 127]
theorem dA.aCn : oL .any (opsOf Try.f62 5) = dA.T5 := by kernel_rfl
theorem dA.VT : kH dA.T5.2 dA.B5 = true := by kernel_rfl
def dA.T8 : Bool × List (List Nat × List Nat) := (true, [([], []), ([], []), ([], []), ([1, 2], [1, 2]), ([3], [3]), ([4], [4]), ([4], [4]), ([4], [4]), ([6, 7, 4], [4, 6, 7]), ([8, 4], [4, 8]), ([4], [4]), ([5, 9, 10, 4, 4], [4, 5, 9, 10]), ([11, 4], [4, 11]), ([4, 12], [4, 12]), ([0, 11, 0], [0]), ([13, 14, 0, 1, 2, 3, 4, 5, 6, 7, 8, 9, 10, 11, 12, 13, 14], [13])])
def dA.B8 : List Nat := [0, 0, 0, 6, 14, 30, 30, 30, 222, 478, 30, 2046, 4094, 8190, 4095, 32767]
theorem dA.aIA : oL .any (opsOf Try.f62 8) = dA.T8 := by kernel_rfl
theorem dA.jg : kH dA.T8.2 dA.B8 = true := by kernel_rfl
theorem dA.calls (k : Nat) (A0 : Option Addr) (c0 : Nat) (l0 : List (gK)) (qW : ByteArray) (mE : ByteArray) (sI : Int)  (r1 : Int) (r2 : Bool) (w : World) (hr0 : Kd.C pR w A0 l0.length l0) (hc0 : l0.length ≤ c0) (h : dA.f k l0 qW mE sI = some (r1, r2)) :
  Calls Try.prog 62 #[.slice A0 l0.length c0, .agg #[.string qW, .string mE, .int .i64 sI], .func (.func 61) #[] #[]] w fun e w' => e = .returned (.tuple #[.int .i64 r1, .bool r2]) ∧ Below w.heap.size w w' := by
 have aCY := Try.underlying51
 have Gi := za hr0
 have IQ := za hc0
 clear hr0 hc0
 have HB := za (Below.refl w.heap.size w)
 have H : (dA.l0 k l0 (l0.length : Int) 0 (l0.length : Int) qW mE sI) = some (r1, r2) := h
 clear h
 have H' := za H
 clear H
 go_enter Try.func62, Try.ntmps62
 go_wp2_with (first | ((with_reducible refine bO (N := 4) rfl ?_); refine bZ ?hg (N := 4) ?hd (cs := #[.string qW, .string mE, .int .i64 sI]) (t := 51) ?hr ?_; (case hd => rfl); (case hg => rfl); (case hr => exact jA); intro Jd hg w4 gP hb; have qU := za (gP); have bOF := za ((by rw [hg]; exact (aT kU) : w.heap.size ≤ Jd)); have aPJ := za ((by rw [hg]; exact (aT kU) : w.heap.size ≤ Jd)); replace HB := za (aM kU hb); clear hb gP hg))
 go_loopg [9, 10] k (fun kq v9 v10 w' => ∃ (zS : Int) (EL : Int), v9 = .int .i64 zS ∧ v10 = .int .i64 EL ∧ aG (dA.l0 kq l0 (l0.length : Int) zS EL qW mE sI = some (r1, r2)) ∧ aG (kq ≤ k) ∧ aG (w'.heap[Jd]? = some (.cells #[.string qW, .string mE, .int .i64 sI] 51 (0, 0))) ∧ aG (Below w.heap.size w w'))
 case atStart => exact ⟨(0), ((l0.length : Int)), jG, jG, H', ⟨Nat.le_refl _⟩, ⟨aAl⟩, ⟨F8⟩⟩
 case round =>
  clear H'
  obtain ⟨zS, EL, rfl, rfl, HA, lH, qU, HB⟩ := hrel
  cases gk with
  | zero => exact absurd HA.out (by simp [dA.l0])
  | succ k1 =>
   have H := HA.out
   clear HA
   simp only [dA.l0] at H
   revert H; refine Dn (fun c5 H => ?_) (fun c5 H => ?_)
   ·
    have zG := decide_eq_true c5
    clear c5
    obtain ⟨yA, JB⟩ : ∃ j_ : Int, (wrap64 ((IntKind.u64.wrap (wrap64 (zS + EL))) / 2)) = j_ := ⟨_, rfl⟩
    replace H : (if 0 ≤ (yA) then (if (yA) < (l0.length : Int) then ((dR.f k1 ((aZ l0 (yA)).f0) ((aZ l0 (yA)).f1) ((aZ l0 (yA)).f2) qW mE sI).bind fun aC1 => (if aC1 < 0 then (dA.l0 k1 l0 (l0.length : Int) (wrap64 ((yA) + 1)) EL qW mE sI) else (dA.l0 k1 l0 (l0.length : Int) zS yA qW mE sI))) else (none)) else (none)) = some (r1, r2) := by first | (rw [JB] at H; exact H) | (simp only [JB] at H ⊢; exact H)
    have aXp : (IntKind.i64.wrap ((IntKind.u64.wrap (wrap64 (zS + EL))) / 2)) = yA := (dO _).trans JB
    revert H; refine yX fun Bu H => ?_
    revert H; refine yX fun oZ H => ?_
    replace H := jT H
    obtain ⟨aC1, A9, H⟩ := H
    (try dsimp only at H)
    have OX := za H
    clear H
    try go_wp2
    replace qU := za (dE qU.out)
    replace HB := za (bK HB.out)
    have aOb : 0 ≤ ((yA) : Int) := of_decide_eq_true iL
    have aOc : (yA) < (l0.length : Int) := of_decide_eq_true iL
    obtain ⟨WE, bL0, Tx, Ty, Tz⟩ := uW Gi.out (yA) aOb aOc
    have BA := Tz
    have BB := Ty
    have BC := Tx
    cases bL0
    replace Tx := (HB.out.cell (World.block_lt_of_cell? w _ Tx)).trans Tx
    replace Ty := (HB.out.cell (World.block_lt_of_cell? w _ Ty)).trans Ty
    replace Tz := (HB.out.cell (World.block_lt_of_cell? w _ Tz)).trans Tz
    replace aOb := eq_true aOb
    replace aOc := eq_true aOc
    refine lW (n := 8) (S := fun w' => w'.cell? ⟨Jd, 0, none⟩ = some (.string qW) ∧ w'.cell? ⟨Jd, 1, none⟩ = some (.string mE) ∧ w'.cell? ⟨Jd, 2, none⟩ = some (.int .i64 sI) ∧ w'.cell? (WE.add (((yA)).toNat * 3)) = some (.string ((aZ l0 (yA)).f0)) ∧ w'.cell? ⟨(WE.add (((yA)).toNat * 3)).block, (WE.add (((yA)).toNat * 3)).off + 1, none⟩ = some (.string ((aZ l0 (yA)).f1)) ∧ w'.cell? ⟨(WE.add (((yA)).toNat * 3)).block, (WE.add (((yA)).toNat * 3)).off + 2, none⟩ = some (.int .i64 ((aZ l0 (yA)).f2))) (ds := []) #[false, false, false, false, false, false, false, false] dU rfl rfl ⟨(aA qU.out 0).trans rfl, (aA qU.out 1).trans rfl, (aA qU.out 2).trans rfl, ((HB.out.cell (World.block_lt_of_cell? w _ BC)).trans BC), ((HB.out.cell (World.block_lt_of_cell? w _ BB)).trans BB), ((HB.out.cell (World.block_lt_of_cell? w _ BA)).trans BA)⟩ (fun hHeld => ?_); refine gX dA.aCn dA.VT (fun dB qB => ?_)
    generalize wr.drew = OY at qU HB Tx Ty Tz hHeld ⊢
    refine gV 0 (some 24) dB ?_
    refine gV 1 (some 25) dB ?_
    refine gV 2 (some 26) dB ?_
    refine gV 3 (some 27) dB ?_
    refine vP 4 (some 28) dB qB hHeld ?_
    refine vP 5 (some 29) dB qB hHeld ?_
    refine Cn 6 (some 30) dB (fun K hK => ?_)
    refine Go.Proofs.YtiaeldibklcobaaFnv.D9 Try.func61 dU rfl #[.agg #[.string ((aZ l0 (yA)).f0), .string ((aZ l0 (yA)).f1), .int .i64 ((aZ l0 (yA)).f2)], .agg #[.string qW, .string mE, .int .i64 sI]] (by rfl) rfl rfl rfl aJJ ?_
    with_reducible refine (dR.calls k1 ((aZ l0 (yA)).f0) ((aZ l0 (yA)).f1) ((aZ l0 (yA)).f2) qW mE sI aC1 _ A9.out).mono ?_
    rintro e Mk ⟨rfl, hb⟩
    refine ⟨_, rfl, ?_⟩
    replace qU := za (aY (g := Jd) (zb qU.out) hb)
    replace HB := za (aM F8 hb)
    refine hK.out _ _ ⟨(aA qU.out 0).trans rfl, (aA qU.out 1).trans rfl, (aA qU.out 2).trans rfl, ((HB.out.cell (World.block_lt_of_cell? w _ BC)).trans BC), ((HB.out.cell (World.block_lt_of_cell? w _ BB)).trans BB), ((HB.out.cell (World.block_lt_of_cell? w _ BA)).trans BA)⟩ (fun hHeld => ?_)
    clear hK K
    refine jS (a' := ?_) ?_ ?_
    rotate_left
    ·
     show Act.put _ (some 30) _ = _
     simp only [Act.put, List.setIfInBounds_toArray, List.set_cons_zero, List.set_cons_succ, dO, dQ]
     rfl
    refine gV 7 (some 31) dB ?_
    refine pO (jX dB.out dU) ?_
    go_upto_if 31 with (fail)
    have H := OX.out
    clear OX
    revert H; refine Dn (fun c13 H => ?_) (fun c13 H => ?_)
    ·
     have vU := decide_eq_true c13
     clear c13
     (first | rw [vU] | (simp only [dO, dQ]; rw [vU]) | skip)
     have H' := za H
     clear H
     go_wp2
     go_roundg k1
     case measure => have := lH.out; omega
     case rel => exact ⟨(wrap64 ((yA) + 1)), (EL), aAq, jG, H', ⟨by have := lH.out; omega⟩, ⟨aAl⟩, ⟨F8⟩⟩
    ·
     have vU := decide_eq_false c13
     clear c13
     (first | rw [vU] | (simp only [dO, dQ]; rw [vU]) | skip)
     have H' := za H
     clear H
     go_wp2
     go_roundg k1
     case measure => have := lH.out; omega
     case rel => exact ⟨(zS), (yA), jG, aAq, H', ⟨by have := lH.out; omega⟩, ⟨aAl⟩, ⟨F8⟩⟩
   ·
    have zG := decide_eq_false c5
    clear c5
    revert H; refine Dn (fun c14 H => ?_) (fun c14 H => ?_)
    ·
     have U4 := decide_eq_true c14
     clear c14
     revert H; refine yX fun CU H => ?_
     revert H; refine yX fun yY H => ?_
     replace H := jT H
     obtain ⟨aOa, vk, H⟩ := H
     (try dsimp only at H)
     simp only [Option.some.injEq, Prod.mk.injEq] at H
     obtain ⟨rfl, rfl⟩ := H
     try go_wp2
     replace qU := za (dE qU.out)
     replace HB := za (bK HB.out)
     have aOd : 0 ≤ (zS : Int) := of_decide_eq_true iL
     have aOe : zS < (l0.length : Int) := of_decide_eq_true iL
     obtain ⟨WG, bL1, Ua, Ub, Uc⟩ := uW Gi.out zS aOd aOe
     have BD := Uc
     have BG := Ub
     have BH := Ua
     cases bL1
     replace Ua := (HB.out.cell (World.block_lt_of_cell? w _ Ua)).trans Ua
     replace Ub := (HB.out.cell (World.block_lt_of_cell? w _ Ub)).trans Ub
     replace Uc := (HB.out.cell (World.block_lt_of_cell? w _ Uc)).trans Uc
     replace aOd := eq_true aOd
     replace aOe := eq_true aOe
     refine lW (n := 16) (S := fun w' => w'.cell? ⟨Jd, 0, none⟩ = some (.string qW) ∧ w'.cell? ⟨Jd, 1, none⟩ = some (.string mE) ∧ w'.cell? ⟨Jd, 2, none⟩ = some (.int .i64 sI) ∧ w'.cell? (WG.add ((zS).toNat * 3)) = some (.string ((aZ l0 zS).f0)) ∧ w'.cell? ⟨(WG.add ((zS).toNat * 3)).block, (WG.add ((zS).toNat * 3)).off + 1, none⟩ = some (.string ((aZ l0 zS).f1)) ∧ w'.cell? ⟨(WG.add ((zS).toNat * 3)).block, (WG.add ((zS).toNat * 3)).off + 2, none⟩ = some (.int .i64 ((aZ l0 zS).f2))) (ds := []) #[false, false, false, false, false, false, false, false, false, false, false, false, false, false, false, false] dU rfl rfl ⟨(aA qU.out 0).trans rfl, (aA qU.out 1).trans rfl, (aA qU.out 2).trans rfl, ((HB.out.cell (World.block_lt_of_cell? w _ BH)).trans BH), ((HB.out.cell (World.block_lt_of_cell? w _ BG)).trans BG), ((HB.out.cell (World.block_lt_of_cell? w _ BD)).trans BD)⟩ (fun hHeld => ?_); refine gX dA.aIA dA.jg (fun dB qB => ?_)
     generalize wr.drew = w18 at qU HB Ua Ub Uc hHeld ⊢
     refine gV 0 (some 35) dB ?_
     refine gV 1 (some 36) dB ?_
     refine gV 2 (some 37) dB ?_
     refine gV 3 (some 38) dB ?_
     refine gV 4 (some 39) dB ?_
     refine gV 5 (some 40) dB ?_
     refine gV 6 (some 41) dB ?_
     refine gV 7 (some 42) dB ?_
     refine gV 8 (some 43) dB ?_
     refine vP 9 (some 44) dB qB hHeld ?_
     refine vP 10 (some 45) dB qB hHeld ?_
     refine Cn 11 (some 46) dB (fun K hK => ?_)
     refine Go.Proofs.YtiaeldibklcobaaFnv.D9 Try.func61 dU rfl #[.agg #[.string ((aZ l0 zS).f0), .string ((aZ l0 zS).f1), .int .i64 ((aZ l0 zS).f2)], .agg #[.string qW, .string mE, .int .i64 sI]] (by rfl) rfl rfl rfl Fb ?_
     with_reducible refine (dR.calls k1 ((aZ l0 zS).f0) ((aZ l0 zS).f1) ((aZ l0 zS).f2) qW mE sI aOa _ vk.out).mono ?_
     rintro e w19 ⟨rfl, hb⟩
     refine ⟨_, rfl, ?_⟩
     replace qU := za (aY (g := Jd) (zb qU.out) hb)
     replace HB := za (aM F8 hb)
     refine hK.out _ _ ⟨(aA qU.out 0).trans rfl, (aA qU.out 1).trans rfl, (aA qU.out 2).trans rfl, ((HB.out.cell (World.block_lt_of_cell? w _ BH)).trans BH), ((HB.out.cell (World.block_lt_of_cell? w _ BG)).trans BG), ((HB.out.cell (World.block_lt_of_cell? w _ BD)).trans BD)⟩ (fun hHeld => ?_)
     clear hK K
     refine jS (a' := ?_) ?_ ?_
     rotate_left
     ·
      show Act.put _ (some 46) _ = _
      simp only [Act.put, List.setIfInBounds_toArray, List.set_cons_zero, List.set_cons_succ, dO, dQ]
      rfl
     refine gV 12 (some 47) dB ?_
     refine gV 13 (some 48) dB ?_
     refine gV 14 (some 6) dB ?_
     refine gV 15 (some 7) dB ?_
     refine pO (jX dB.out dU) ?_
     try go_wp2
     go_ret2
     exact ⟨jR, F8⟩
    ·
     have U4 := decide_eq_false c14
     clear c14
     simp only [Option.some.injEq, Prod.mk.injEq] at H
     obtain ⟨rfl, rfl⟩ := H
     try go_wp2
     replace qU := za (dE qU.out)
     replace HB := za (bK HB.out)
     refine lW (n := 16) (S := fun w' => True) (ds := []) #[false, false, false, false, false, false, false, false, false, false, false, false, false, false, false, false] dU rfl rfl trivial (fun hHeld => ?_); refine gX dA.aIA dA.jg (fun dB qB => ?_)
     generalize wr.drew = w20 at qU HB hHeld ⊢
     refine gV 0 (some 35) dB ?_
     refine gV 1 (some 36) dB ?_
     refine gV 2 (some 37) dB ?_
     refine gV 3 (some 38) dB ?_
     refine gV 4 (some 39) dB ?_
     refine De 5 (some 40) dB ?_
     refine De 6 (some 41) dB ?_
     refine De 7 (some 42) dB ?_
     refine De 8 (some 43) dB ?_
     refine De 9 (some 44) dB ?_
     refine De 10 (some 45) dB ?_
     refine De 11 (some 46) dB ?_
     refine De 12 (some 47) dB ?_
     refine gV 13 (some 48) dB ?_
     refine gV 14 (some 6) dB ?_
     refine gV 15 (some 7) dB ?_
     refine pO (jX dB.out dU) ?_
     try go_wp2
     go_ret2
     exact ⟨jR, F8⟩
end Go.Proofs.Ytiaeldibklcobaa.eZ
