import Derived.Test.YtiaeldibklcobaaZRPx2
namespace Go.Proofs.Ytiaeldibklcobaa.eZ
open Go.RowKit Go.Proofs.YtiaeldibklcobaaW.bL Go.Proofs.YtiaeldibklcobaaW.fV Go.Proofs.YtiaeldibklcobaaW.iZ
set_option maxHeartbeats 8000000
set_option maxRecDepth 100000
attribute [local go_sem] kL kM lX lY jC jD kN kP
set_option linter.unusedVariables false
set_option linter.unusedSimpArgs false
mutual
def dC.l0 : Nat → ByteArray → List (iJ) → Int → Option ((List (iJ)) × Int × Int)
 | 0, _, _, _ => none
 | k + 1, x0, x5, x6 => if x6 < (x0.size : Int) then (if 0 ≤ x6 then (if (bt x0 x6) = 32 then (dC.j1 k x0 x5 x6 (bt x0 x6) true) else (if (bt x0 x6) = 9 then (dC.j1 k x0 x5 x6 (bt x0 x6) true) else (if (bt x0 x6) = 10 then (dC.j1 k x0 x5 x6 (bt x0 x6) true) else (dC.j1 k x0 x5 x6 (bt x0 x6) ((bt x0 x6) == 13))))) else (none)) else (if x5.length < 4398046511104 then (some ((x5 ++ [(⟨0, (⟨#[]⟩ : ByteArray), (x0.size : Int)⟩ : iJ)]), 0, 0)) else (none))
def dC.j1 : Nat → ByteArray → List (iJ) → Int → Int → Bool → Option ((List (iJ)) × Int × Int)
 | 0, _, _, _, _, _ => none
 | k + 1, x0, x5, x6, x7, x38 => if x38 = true then (dC.l0 k x0 x5 (wrap64 (x6 + 1))) else (if x7 = 35 then (dC.l1 k x0 x5 x6) else ((kD.f x7).bind fun t104 => (if t104 = true then (dC.l2 k x0 x5 x6 x6) else ((qV.f x7).bind fun t114 => (if t114 = true then (dC.l3 k x0 x5 x6 x7 x6) else ((jF.f k x0 x6).bind fun t130 => (if t130.toList = ([] : List UInt8) then (some (([] : List (iJ)), 10, x6)) else (if x5.length < 4398046511104 then (dC.l0 k x0 (x5 ++ [(⟨4, t130, x6⟩ : iJ)]) (wrap64 (x6 + (t130.size : Int)))) else (none)))))))))
def dC.l1 : Nat → ByteArray → List (iJ) → Int → Option ((List (iJ)) × Int × Int)
 | 0, _, _, _ => none
 | k + 1, x0, x5, x6 => if x6 < (x0.size : Int) then (if 0 ≤ x6 then (if (bt x0 x6) = 10 then (dC.l0 k x0 x5 x6) else (dC.l1 k x0 x5 (wrap64 (x6 + 1)))) else (none)) else (dC.l0 k x0 x5 x6)
def dC.j4 : Nat → ByteArray → List (iJ) → Int → Int → Option ((List (iJ)) × Int × Int)
 | 0, _, _, _, _ => none
 | k + 1, x0, x5, x6, x8 => if 0 ≤ x6 then (if x6 ≤ x8 then (if x8 ≤ (x0.size : Int) then ((Ol.f (x0.extract (x6 : Int).toNat (x8 : Int).toNat)).bind fun t107 => (if t107 = true then (if (wrap64 (x8 - x6)) > 20 then (some (([] : List (iJ)), 9, x6)) else (if x5.length < 4398046511104 then (dC.l0 k x0 (x5 ++ [(⟨3, x0.extract (x6 : Int).toNat (x8 : Int).toNat, x6⟩ : iJ)]) x8) else (none))) else (if (wrap64 (x8 - x6)) > 20 then (some (([] : List (iJ)), 9, x6)) else (if x5.length < 4398046511104 then (dC.l0 k x0 (x5 ++ [(⟨1, x0.extract (x6 : Int).toNat (x8 : Int).toNat, x6⟩ : iJ)]) x8) else (none))))) else (none)) else (none)) else (none)
def dC.l2 : Nat → ByteArray → List (iJ) → Int → Int → Option ((List (iJ)) × Int × Int)
 | 0, _, _, _, _ => none
 | k + 1, x0, x5, x6, x8 => if x8 < (x0.size : Int) then (if 0 ≤ x8 then ((kD.f (bt x0 x8)).bind fun t105 => (if t105 = true then (dC.l2 k x0 x5 x6 (wrap64 (x8 + 1))) else ((qV.f (bt x0 x8)).bind fun t106 => (if t106 = true then (dC.l2 k x0 x5 x6 (wrap64 (x8 + 1))) else (if (bt x0 x8) = 95 then (dC.l2 k x0 x5 x6 (wrap64 (x8 + 1))) else (dC.j4 k x0 x5 x6 x8)))))) else (none)) else (dC.j4 k x0 x5 x6 x8)
def dC.j6 : Nat → ByteArray → List (iJ) → Int → Int → Int → Option ((List (iJ)) × Int × Int)
 | 0, _, _, _, _, _ => none
 | k + 1, x0, x5, x6, x7, tX => if (wrap64 (tX - x6)) > 9 then (some (([] : List (iJ)), 9, x6)) else (if (wrap64 (tX - x6)) > 1 then (if x7 = 48 then (some (([] : List (iJ)), 10, x6)) else (if tX < (x0.size : Int) then (if 0 ≤ tX then ((kD.f (bt x0 tX)).bind fun t116 => (if t116 = true then (some (([] : List (iJ)), 10, x6)) else (if (bt x0 tX) = 95 then (some (([] : List (iJ)), 10, x6)) else (if 0 ≤ x6 then (if x6 ≤ tX then (if tX ≤ (x0.size : Int) then (if x5.length < 4398046511104 then (dC.l0 k x0 (x5 ++ [(⟨2, x0.extract (x6 : Int).toNat (tX : Int).toNat, x6⟩ : iJ)]) tX) else (none)) else (none)) else (none)) else (none))))) else (none)) else (if 0 ≤ x6 then (if x6 ≤ tX then (if tX ≤ (x0.size : Int) then (if x5.length < 4398046511104 then (dC.l0 k x0 (x5 ++ [(⟨2, x0.extract (x6 : Int).toNat (tX : Int).toNat, x6⟩ : iJ)]) tX) else (none)) else (none)) else (none)) else (none)))) else (if tX < (x0.size : Int) then (if 0 ≤ tX then ((kD.f (bt x0 tX)).bind fun t123 => (if t123 = true then (some (([] : List (iJ)), 10, x6)) else (if (bt x0 tX) = 95 then (some (([] : List (iJ)), 10, x6)) else (if 0 ≤ x6 then (if x6 ≤ tX then (if tX ≤ (x0.size : Int) then (if x5.length < 4398046511104 then (dC.l0 k x0 (x5 ++ [(⟨2, x0.extract (x6 : Int).toNat (tX : Int).toNat, x6⟩ : iJ)]) tX) else (none)) else (none)) else (none)) else (none))))) else (none)) else (if 0 ≤ x6 then (if x6 ≤ tX then (if tX ≤ (x0.size : Int) then (if x5.length < 4398046511104 then (dC.l0 k x0 (x5 ++ [(⟨2, x0.extract (x6 : Int).toNat (tX : Int).toNat, x6⟩ : iJ)]) tX) else (none)) else (none)) else (none)) else (none))))
def dC.l3 : Nat → ByteArray → List (iJ) → Int → Int → Int → Option ((List (iJ)) × Int × Int)
 | 0, _, _, _, _, _ => none
 | k + 1, x0, x5, x6, x7, tX => if tX < (x0.size : Int) then (if 0 ≤ tX then ((qV.f (bt x0 tX)).bind fun t115 => (if t115 = true then (dC.l3 k x0 x5 x6 x7 (wrap64 (tX + 1))) else (dC.j6 k x0 x5 x6 x7 tX))) else (none)) else (dC.j6 k x0 x5 x6 x7 tX)
end
def dC.f (k : Nat) (a0 : ByteArray) : Option ((List (iJ)) × Int × Int) := if (a0.size : Int) > 8192 then (some (([] : List (iJ)), 9, 8192)) else (dC.l0 k a0 ([] : List (iJ)) 0)
theorem dC.fT : ∀ k, (∀ y0 y1 y2, bV (dC.l0 k y0 y1 y2) (dC.l0 (k + 1) y0 y1 y2)) ∧ (∀ y0 y1 y2 y3 y4, bV (dC.j1 k y0 y1 y2 y3 y4) (dC.j1 (k + 1) y0 y1 y2 y3 y4)) ∧ (∀ y0 y1 y2, bV (dC.l1 k y0 y1 y2) (dC.l1 (k + 1) y0 y1 y2)) ∧ (∀ y0 y1 y2 y3, bV (dC.j4 k y0 y1 y2 y3) (dC.j4 (k + 1) y0 y1 y2 y3)) ∧ (∀ y0 y1 y2 y3, bV (dC.l2 k y0 y1 y2 y3) (dC.l2 (k + 1) y0 y1 y2 y3)) ∧ (∀ y0 y1 y2 y3 y4, bV (dC.j6 k y0 y1 y2 y3 y4) (dC.j6 (k + 1) y0 y1 y2 y3 y4)) ∧ (∀ y0 y1 y2 y3 y4, bV (dC.l3 k y0 y1 y2 y3 y4) (dC.l3 (k + 1) y0 y1 y2 y3 y4))
 | 0 => ⟨fun _ _ _ r h => by simp [dC.l0] at h, fun _ _ _ _ _ r h => by simp [dC.j1] at h, fun _ _ _ r h => by simp [dC.l1] at h, fun _ _ _ _ r h => by simp [dC.j4] at h, fun _ _ _ _ r h => by simp [dC.l2] at h, fun _ _ _ _ _ r h => by simp [dC.j6] at h, fun _ _ _ _ _ r h => by simp [dC.l3] at h⟩
 | k + 1 => by
  obtain ⟨nV, ih1, ih2, ih3, We, Wh, RO⟩ := dC.fT k
  refine ⟨?_, ?_, ?_, ?_, ?_, ?_, ?_⟩
  ·
   intro y0 y1 y2
   unfold dC.l0
   repeat' with_reducible first | apply nV | apply ih1 | apply ih2 | apply ih3 | apply We | apply Wh | apply RO | apply jF.mono | exact bV.refl _ | exact bV.none _ | refine bV.ite ?_ ?_ | refine bV.bind ?_ (fun _ => ?_)
  ·
   intro y0 y1 y2 y3 y4
   unfold dC.j1
   repeat' with_reducible first | apply nV | apply ih1 | apply ih2 | apply ih3 | apply We | apply Wh | apply RO | apply jF.mono | exact bV.refl _ | exact bV.none _ | refine bV.ite ?_ ?_ | refine bV.bind ?_ (fun _ => ?_)
  ·
   intro y0 y1 y2
   unfold dC.l1
   repeat' with_reducible first | apply nV | apply ih1 | apply ih2 | apply ih3 | apply We | apply Wh | apply RO | apply jF.mono | exact bV.refl _ | exact bV.none _ | refine bV.ite ?_ ?_ | refine bV.bind ?_ (fun _ => ?_)
  ·
   intro y0 y1 y2 y3
   unfold dC.j4
   repeat' with_reducible first | apply nV | apply ih1 | apply ih2 | apply ih3 | apply We | apply Wh | apply RO | apply jF.mono | exact bV.refl _ | exact bV.none _ | refine bV.ite ?_ ?_ | refine bV.bind ?_ (fun _ => ?_)
  ·
   intro y0 y1 y2 y3
   unfold dC.l2
   repeat' with_reducible first | apply nV | apply ih1 | apply ih2 | apply ih3 | apply We | apply Wh | apply RO | apply jF.mono | exact bV.refl _ | exact bV.none _ | refine bV.ite ?_ ?_ | refine bV.bind ?_ (fun _ => ?_)
  ·
   intro y0 y1 y2 y3 y4
   unfold dC.j6
   repeat' with_reducible first | apply nV | apply ih1 | apply ih2 | apply ih3 | apply We | apply Wh | apply RO | apply jF.mono | exact bV.refl _ | exact bV.none _ | refine bV.ite ?_ ?_ | refine bV.bind ?_ (fun _ => ?_)
  ·
   intro y0 y1 y2 y3 y4
   unfold dC.l3
   repeat' with_reducible first | apply nV | apply ih1 | apply ih2 | apply ih3 | apply We | apply Wh | apply RO | apply jF.mono | exact bV.refl _ | exact bV.none _ | refine bV.ite ?_ ?_ | refine bV.bind ?_ (fun _ => ?_)
theorem dC.mono : ∀ a0 k, bV (dC.f k a0) (dC.f (k + 1) a0) := by
 intro a0 k
 obtain ⟨nV, ih1, ih2, ih3, We, Wh, RO⟩ := dC.fT k
 unfold dC.f
 repeat' with_reducible first | apply nV | apply ih1 | apply ih2 | apply ih3 | apply We | apply Wh | apply RO | apply jF.mono | exact bV.refl _ | exact bV.none _ | refine bV.ite ?_ ?_ | refine bV.bind ?_ (fun _ => ?_)
theorem dC.calls (k : Nat) (a0 : ByteArray) (r1 : List (iJ)) (r2 : Int) (r3 : Int) (w : World) (h : dC.f k a0 = some (r1, r2, r3)) :
  Calls Try.prog 16 #[.string a0] w fun e w' => ∃ lZ : Value, e = .returned (.tuple #[lZ, .int .i64 r2, .int .i64 r3]) ∧ Kd.R IZ 81 w' w.heap.size (fun _ => True) lZ r1 ∧ Below w.heap.size w w' := by
 have aES := Try.underlying81
 have HB := za (Below.refl w.heap.size w)
 have H : (if (a0.size : Int) > 8192 then (some (([] : List (iJ)), 9, 8192)) else (dC.l0 k a0 ([] : List (iJ)) 0)) = some (r1, r2, r3) := h
 clear h
 revert H; refine Dn (fun c2 H => ?_) (fun c2 H => ?_)
 ·
  have Oj : decide (8192 < (a0.size : Int)) = true := decide_eq_true c2
  have aLA : decide (8192 < a0.size) = true := decide_eq_true (by omega)
  clear c2
  as_aux_lemma =>
   simp only [Option.some.injEq, Prod.mk.injEq] at H
   obtain ⟨rfl, rfl, rfl⟩ := H
   go_enter Try.func16, Try.ntmps16
   go_wp2
   go_ret3
   exact ⟨_, jR, vJ, kU⟩
 ·
  have Oj : decide (8192 < (a0.size : Int)) = false := decide_eq_false c2
  have aLA : decide (8192 < a0.size) = false := decide_eq_false (by omega)
  clear c2
  have H' := za H
  clear H
  go_enter Try.func16, Try.ntmps16
  go_wp2
  go_loopg [5, 6] k (fun kq v5 v6 w' => ∃ (gY : List (iJ)) (fE : Int), v6 = .int .i64 fE ∧ aG (dC.l0 kq a0 gY fE = some (r1, r2, r3)) ∧ aG (kq ≤ k) ∧ aG (Kd.R IZ 81 w' w.heap.size (fun _ => True) v5 gY) ∧ aG (Below w.heap.size w w'))
  case atStart => exact ⟨(([] : List (iJ))), (0), jG, H', ⟨Nat.le_refl _⟩, ⟨vJ⟩, ⟨kU⟩⟩
  case round =>
   clear H'
   obtain ⟨gY, fE, rfl, HA, lH, rU, HB⟩ := hrel
   cases gk with
   | zero => exact absurd HA.out (by simp [dC.l0])
   | succ k1 =>
    have H := HA.out
    clear HA
    simp only [dC.l0] at H
    revert H; refine Dn (fun c3 H => ?_) (fun c3 H => ?_)
    ·
     have Bt := decide_eq_true c3
     clear c3
     revert H; refine yX fun wY H => ?_
     have KH := za H
     clear H
     have p5 : 0 ≤ (fE : Int) := of_decide_eq_true iL
     have q5 : fE < (a0.size : Int) := of_decide_eq_true iL
     have hx5 := rP a0 fE
     replace p5 := eq_true p5
     replace q5 := eq_true q5
     go_upto_region 12 with (fail)
     go_cut [38] (fun v38 wc => ∃ (kq : Nat) (aAE : Bool), v38 = .bool aAE ∧ aG (dC.j1 kq a0 gY fE (bt a0 fE) aAE = some (r1, r2, r3)) ∧ aG (kq ≤ k1) ∧ aG (Kd.R IZ 81 wc w.heap.size (fun _ => True) u5 gY) ∧ aG (Below w.heap.size w wc))
     case first =>
      have H := KH.out
      clear KH
      revert H; refine oW (fun Bu qo H => ?_) (fun c7 Bu qo H => ?_)
      ·
       (first | rw [Bu] | (simp only [dO, dQ]; rw [Bu]) | skip)
       as_aux_lemma =>
        have H' := za H
        clear H
        go_wp2
        go_meet
        case rel => exact ⟨_, (true), jG, H', ⟨by have := lH.out; first | omega | exact Nat.le_refl _⟩, ⟨Af⟩, ⟨kU⟩⟩
      ·
       (first | rw [Bu] | (simp only [dO, dQ]; rw [Bu]) | skip)
       revert H; refine oW (fun oZ Hz H => ?_) (fun c8 oZ Hz H => ?_)
       ·
        as_aux_lemma =>
         have H' := za H
         clear H
         go_wp2
         go_meet
         case rel => exact ⟨_, (true), jG, H', ⟨by have := lH.out; first | omega | exact Nat.le_refl _⟩, ⟨Af⟩, ⟨kU⟩⟩
       ·
        revert H; refine oW (fun Ga CS H => ?_) (fun c9 Ga CS H => ?_)
        ·
         as_aux_lemma =>
          have H' := za H
          clear H
          go_wp2
          go_meet
          case rel => exact ⟨_, (true), jG, H', ⟨by have := lH.out; first | omega | exact Nat.le_refl _⟩, ⟨Af⟩, ⟨kU⟩⟩
        ·
         as_aux_lemma =>
          have H' := za H
          clear H
          go_wp2
          go_meet
          case rel => exact ⟨_, (((bt a0 fE) == 13)), jG, H', ⟨by have := lH.out; first | omega | exact Nat.le_refl _⟩, ⟨Af⟩, ⟨kU⟩⟩
     case rest =>
      clear KH
      obtain ⟨kq, aAE, rfl, HA, Dp, rU, HB⟩ := hcut
      cases kq with
      | zero => exact absurd HA.out (by simp [dC.j1])
      | succ Ia =>
       have H := HA.out
       clear HA
       simp only [dC.j1] at H
       replace H := Bq H
       rcases H with ⟨rfl, H⟩ | ⟨rfl, H⟩
       ·
        as_aux_lemma =>
         have H' := za H
         clear H
         go_wp2
         go_roundg Ia
         case measure => have := lH.out; have := Dp.out; omega
         case rel => exact ⟨(gY), (wrap64 (fE + 1)), jG, H', ⟨by have := lH.out; have := Dp.out; omega⟩, ⟨Af⟩, ⟨kU⟩⟩
       ·
        revert H; refine oW (fun Co Xm H => ?_) (fun c11 Co Xm H => ?_)
        ·
         have H' := za H
         clear H
         go_wp2
         go_loopg [6] Ia (fun kq v6 w' => ∃ (Yu : Int), v6 = .int .i64 Yu ∧ aG (dC.l1 kq a0 gY Yu = some (r1, r2, r3)) ∧ aG (kq ≤ Ia) ∧ aG (Kd.R IZ 81 w' w.heap.size (fun _ => True) u5 gY) ∧ aG (Below w.heap.size w w'))
         case atStart => exact ⟨(fE), jG, H', ⟨Nat.le_refl _⟩, ⟨Af⟩, ⟨kU⟩⟩
         case round =>
          clear H'
          obtain ⟨Yu, rfl, HA, Vq, rU, HB⟩ := hrel
          cases gk with
          | zero => exact absurd HA.out (by simp [dC.l1])
          | succ k3 =>
           have H := HA.out
           clear HA
           simp only [dC.l1] at H
           revert H; refine Dn (fun c12 H => ?_) (fun c12 H => ?_)
           ·
            have Dy := decide_eq_true c12
            clear c12
            revert H; refine yX fun vU H => ?_
            revert H; refine oW (fun CU TE H => ?_) (fun c15 CU TE H => ?_)
            ·
             as_aux_lemma =>
              have H' := za H
              clear H
              have p14 : 0 ≤ (Yu : Int) := of_decide_eq_true iL
              have q14 : Yu < (a0.size : Int) := of_decide_eq_true iL
              have bIH := rP a0 Yu
              replace p14 := eq_true p14
              replace q14 := eq_true q14
              go_wp2
              go_roundg k3
              case measure => have := lH.out; have := Dp.out; have := Vq.out; omega
              case rel => exact ⟨(gY), (Yu), jG, H', ⟨by have := lH.out; have := Dp.out; have := Vq.out; omega⟩, ⟨Af⟩, ⟨kU⟩⟩
            ·
             as_aux_lemma =>
              have H' := za H
              clear H
              have p14 : 0 ≤ (Yu : Int) := of_decide_eq_true iL
              have q14 : Yu < (a0.size : Int) := of_decide_eq_true iL
              have bIH := rP a0 Yu
              replace p14 := eq_true p14
              replace q14 := eq_true q14
              go_wp2
              go_roundg k3
              case measure => have := lH.out; have := Dp.out; have := Vq.out; omega
              case rel => exact ⟨(wrap64 (Yu + 1)), jG, H', ⟨by have := lH.out; have := Dp.out; have := Vq.out; omega⟩, ⟨Af⟩, ⟨kU⟩⟩
           ·
            have Dy := decide_eq_false c12
            clear c12
            as_aux_lemma =>
             have H' := za H
             clear H
             go_wp2
             go_roundg k3
             case measure => have := lH.out; have := Dp.out; have := Vq.out; omega
             case rel => exact ⟨(gY), (Yu), jG, H', ⟨by have := lH.out; have := Dp.out; have := Vq.out; omega⟩, ⟨Af⟩, ⟨kU⟩⟩
        ·
         replace H := jT H
         obtain ⟨t104, RP, H⟩ := H
         (try dsimp only at H)
         replace H := Bq H
         rcases H with ⟨rfl, H⟩ | ⟨rfl, H⟩
         ·
          have aLB := za H
          clear H
          go_upto_block 5 with (first | ((with_reducible refine zg 23 rfl ?_); refine kZ (some 72) Try.func23 #[.int .u8 (bt a0 fE)] ?_; refine (kD.calls (bt a0 fE) true _ RP.out).mono ?_; rintro e w' ⟨rfl, ⟨nd, rfl⟩⟩; refine ⟨_, rfl, ?_⟩))
          (try simp only [Act.put, List.setIfInBounds_toArray, List.set_cons_zero, List.set_cons_succ])
          go_cut [8] (fun v8 wc => ∃ (kq : Nat) (oM : Int), v8 = .int .i64 oM ∧ aG (dC.j4 kq a0 gY fE oM = some (r1, r2, r3)) ∧ aG (kq ≤ Ia) ∧ aG (Kd.R IZ 81 wc w.heap.size (fun _ => True) u5 gY) ∧ aG (Below w.heap.size w wc))
          case first =>
           have H := aLB.out
           clear aLB
           have H' := za H
           clear H
           go_wp2
           go_loopg [8] Ia (fun kq v8 w' => ∃ (iP : Int), v8 = .int .i64 iP ∧ aG (dC.l2 kq a0 gY fE iP = some (r1, r2, r3)) ∧ aG (kq ≤ Ia) ∧ aG (Kd.R IZ 81 w' w.heap.size (fun _ => True) u5 gY) ∧ aG (Below w.heap.size w w'))
           case atStart => exact ⟨(fE), jG, H', ⟨Nat.le_refl _⟩, ⟨Af⟩, ⟨kU⟩⟩
           case round =>
            clear H'
            obtain ⟨iP, rfl, HA, Vq, rU, HB⟩ := hrel
            cases gk with
            | zero => exact absurd HA.out (by simp [dC.l2])
            | succ k3 =>
             have H := HA.out
             clear HA
             simp only [dC.l2] at H
             revert H; refine Dn (fun c19 H => ?_) (fun c19 H => ?_)
             ·
              have Dz := decide_eq_true c19
              clear c19
              (first | rw [Dz] | (simp only [dO, dQ]; rw [Dz]) | skip)
              revert H; refine yX fun aJX H => ?_
              replace H := jT H
              obtain ⟨t105, qp, H⟩ := H
              (try dsimp only at H)
              replace H := Bq H
              rcases H with ⟨rfl, H⟩ | ⟨rfl, H⟩
              ·
               as_aux_lemma =>
                have H' := za H
                clear H
                have p21 : 0 ≤ (iP : Int) := of_decide_eq_true iL
                have q21 : iP < (a0.size : Int) := of_decide_eq_true iL
                have aLC := rP a0 iP
                replace p21 := eq_true p21
                replace q21 := eq_true q21
                go_wp2_with (first | ((with_reducible refine gL (f := 23) rfl ?_); (with_reducible refine bO (N := 82) rfl ?_); (refine fD (by rfl) ?_; dsimp only); refine nQ (some 82) rfl rfl Try.func23 dU rfl #[.int .u8 (bt a0 iP)] rfl Fb ?_; (with_reducible refine (kD.calls (bt a0 iP) true _ qp.out).mono ?_); rintro e w' ⟨rfl, ⟨nd, rfl⟩⟩; refine ⟨_, rfl, ?_⟩))
                go_roundg k3
                case measure => have := lH.out; have := Dp.out; have := Vq.out; omega
                case rel => exact ⟨(wrap64 (iP + 1)), jG, H', ⟨by have := lH.out; have := Dp.out; have := Vq.out; omega⟩, ⟨Af⟩, ⟨kU⟩⟩
              ·
               replace H := jT H
               obtain ⟨t106, A25, H⟩ := H
               (try dsimp only at H)
               replace H := Bq H
               rcases H with ⟨rfl, H⟩ | ⟨rfl, H⟩
               ·
                as_aux_lemma =>
                 have H' := za H
                 clear H
                 have p21 : 0 ≤ (iP : Int) := of_decide_eq_true iL
                 have q21 : iP < (a0.size : Int) := of_decide_eq_true iL
                 have aLC := rP a0 iP
                 replace p21 := eq_true p21
                 replace q21 := eq_true q21
                 go_wp2_with (first | ((with_reducible refine gL (f := 23) rfl ?_); (with_reducible refine bO (N := 82) rfl ?_); (refine fD (by rfl) ?_; dsimp only); refine nQ (some 82) rfl rfl Try.func23 dU rfl #[.int .u8 (bt a0 iP)] rfl Fb ?_; (with_reducible refine (kD.calls (bt a0 iP) false _ qp.out).mono ?_); rintro e w' ⟨rfl, ⟨nd, rfl⟩⟩; refine ⟨_, rfl, ?_⟩; have p24 : 0 ≤ (iP : Int) := of_decide_eq_true iL; have q24 : iP < (a0.size : Int) := of_decide_eq_true iL; have hx24 := rP a0 iP; replace p24 := eq_true p24; replace q24 := eq_true q24) | ((with_reducible refine gL (f := 24) rfl ?_); (with_reducible refine bO (N := 87) rfl ?_); (refine fD (by rfl) ?_; dsimp only); refine nQ (some 87) rfl rfl Try.func24 dU rfl #[.int .u8 (bt a0 iP)] rfl Fb ?_; (with_reducible refine (qV.calls (bt a0 iP) true _ A25.out).mono ?_); rintro e w' ⟨rfl, ⟨nd, rfl⟩⟩; refine ⟨_, rfl, ?_⟩))
                 go_roundg k3
                 case measure => have := lH.out; have := Dp.out; have := Vq.out; omega
                 case rel => exact ⟨(wrap64 (iP + 1)), jG, H', ⟨by have := lH.out; have := Dp.out; have := Vq.out; omega⟩, ⟨Af⟩, ⟨kU⟩⟩
               ·
                revert H; refine oW (fun aAt aAu H => ?_) (fun c28 aAt aAu H => ?_)
                ·
                 as_aux_lemma =>
                  have H' := za H
                  clear H
                  have p21 : 0 ≤ (iP : Int) := of_decide_eq_true iL
                  have q21 : iP < (a0.size : Int) := of_decide_eq_true iL
                  have aLC := rP a0 iP
                  replace p21 := eq_true p21
                  replace q21 := eq_true q21
                  go_wp2_with (first | ((with_reducible refine gL (f := 23) rfl ?_); (with_reducible refine bO (N := 82) rfl ?_); (refine fD (by rfl) ?_; dsimp only); refine nQ (some 82) rfl rfl Try.func23 dU rfl #[.int .u8 (bt a0 iP)] rfl Fb ?_; (with_reducible refine (kD.calls (bt a0 iP) false _ qp.out).mono ?_); rintro e w' ⟨rfl, ⟨nd, rfl⟩⟩; refine ⟨_, rfl, ?_⟩; have p24 : 0 ≤ (iP : Int) := of_decide_eq_true iL; have q24 : iP < (a0.size : Int) := of_decide_eq_true iL; have hx24 := rP a0 iP; replace p24 := eq_true p24; replace q24 := eq_true q24) | ((with_reducible refine gL (f := 24) rfl ?_); (with_reducible refine bO (N := 87) rfl ?_); (refine fD (by rfl) ?_; dsimp only); refine nQ (some 87) rfl rfl Try.func24 dU rfl #[.int .u8 (bt a0 iP)] rfl Fb ?_; (with_reducible refine (qV.calls (bt a0 iP) false _ A25.out).mono ?_); rintro e w' ⟨rfl, ⟨nd, rfl⟩⟩; refine ⟨_, rfl, ?_⟩; have p27 : 0 ≤ (iP : Int) := of_decide_eq_true iL; have q27 : iP < (a0.size : Int) := of_decide_eq_true iL; have hx27 := rP a0 iP; replace p27 := eq_true p27; replace q27 := eq_true q27))
                  go_roundg k3
                  case measure => have := lH.out; have := Dp.out; have := Vq.out; omega
                  case rel => exact ⟨(wrap64 (iP + 1)), jG, H', ⟨by have := lH.out; have := Dp.out; have := Vq.out; omega⟩, ⟨Af⟩, ⟨kU⟩⟩
                ·
                 as_aux_lemma =>
                  have H' := za H
                  clear H
                  have p21 : 0 ≤ (iP : Int) := of_decide_eq_true iL
                  have q21 : iP < (a0.size : Int) := of_decide_eq_true iL
                  have aLC := rP a0 iP
                  replace p21 := eq_true p21
                  replace q21 := eq_true q21
                  go_wp2_with (first | ((with_reducible refine gL (f := 23) rfl ?_); (with_reducible refine bO (N := 82) rfl ?_); (refine fD (by rfl) ?_; dsimp only); refine nQ (some 82) rfl rfl Try.func23 dU rfl #[.int .u8 (bt a0 iP)] rfl Fb ?_; (with_reducible refine (kD.calls (bt a0 iP) false _ qp.out).mono ?_); rintro e w' ⟨rfl, ⟨nd, rfl⟩⟩; refine ⟨_, rfl, ?_⟩; have p24 : 0 ≤ (iP : Int) := of_decide_eq_true iL; have q24 : iP < (a0.size : Int) := of_decide_eq_true iL; have hx24 := rP a0 iP; replace p24 := eq_true p24; replace q24 := eq_true q24) | ((with_reducible refine gL (f := 24) rfl ?_); (with_reducible refine bO (N := 87) rfl ?_); (refine fD (by rfl) ?_; dsimp only); refine nQ (some 87) rfl rfl Try.func24 dU rfl #[.int .u8 (bt a0 iP)] rfl Fb ?_; (with_reducible refine (qV.calls (bt a0 iP) false _ A25.out).mono ?_); rintro e w' ⟨rfl, ⟨nd, rfl⟩⟩; refine ⟨_, rfl, ?_⟩; have p27 : 0 ≤ (iP : Int) := of_decide_eq_true iL; have q27 : iP < (a0.size : Int) := of_decide_eq_true iL; have hx27 := rP a0 iP; replace p27 := eq_true p27; replace q27 := eq_true q27))
                  go_meet
                  case rel => exact ⟨_, (iP), jG, H', ⟨by have := lH.out; have := Dp.out; have := Vq.out; first | omega | exact Nat.le_refl _⟩, ⟨Af⟩, ⟨kU⟩⟩
             ·
              have Dz := decide_eq_false c19
              clear c19
              (first | rw [Dz] | (simp only [dO, dQ]; rw [Dz]) | skip)
              as_aux_lemma =>
               have H' := za H
               clear H
               go_wp2
               go_meet
               case rel => exact ⟨_, (iP), jG, H', ⟨by have := lH.out; have := Dp.out; have := Vq.out; first | omega | exact Nat.le_refl _⟩, ⟨Af⟩, ⟨kU⟩⟩
          case rest =>
           clear aLB
           obtain ⟨kq, oM, rfl, HA, aET, rU, HB⟩ := hcut
           cases kq with
           | zero => exact absurd HA.out (by simp [dC.j4])
           | succ aEU =>
            have H := HA.out
            clear HA
            simp only [dC.j4] at H
            revert H; refine yP fun c29 vV U7 H => ?_
            clear c29
            revert H; refine yP fun c30 U5 aAv H => ?_
            clear c30
            revert H; refine yP fun c31 Qj TH H => ?_
            clear c31
            replace H := jT H
            obtain ⟨t107, A32, H⟩ := H
            (try dsimp only at H)
            replace H := Bq H
            rcases H with ⟨rfl, H⟩ | ⟨rfl, H⟩
            ·
             revert H; refine Dn (fun c34 H => ?_) (fun c34 H => ?_)
             ·
              have aJZ : decide (20 < (wrap64 (oM - fE))) = true := decide_eq_true c34
              clear c34
              as_aux_lemma =>
               simp only [Option.some.injEq, Prod.mk.injEq] at H
               obtain ⟨rfl, rfl, rfl⟩ := H
               go_wp2_with (first | ((with_reducible refine zg 25 rfl ?_); refine kZ (some 102) Try.func25 #[.string (a0.extract (fE : Int).toNat (oM : Int).toNat)] ?_; refine (Ol.calls (a0.extract (fE : Int).toNat (oM : Int).toNat) true _ A32.out).mono ?_; rintro e w' ⟨rfl, ⟨nd, rfl⟩⟩; refine ⟨_, rfl, ?_⟩))
               go_ret3
               exact ⟨_, jR, vJ, kU⟩
             ·
              have aJZ : decide (20 < (wrap64 (oM - fE))) = false := decide_eq_false c34
              clear c34
              have aP4 := eq_true (of_decide_eq_true iL : 0 ≤ fE)
              have aJ0 := eq_true (of_decide_eq_true iL : fE ≤ oM)
              have CV := eq_true (of_decide_eq_true iL : oM ≤ (a0.size : Int))
              revert H; refine IP fun aAF H => ?_
              obtain ⟨aQJ, TI⟩ : ∃ y_ : List (iJ), y_ = (gY ++ [(⟨3, a0.extract (fE : Int).toNat (oM : Int).toNat, fE⟩ : iJ)]) := ⟨_, rfl⟩
              replace H : (dC.l0 aEU a0 aQJ oM) = some (r1, r2, r3) := by first | (rw [TI]; with_reducible exact H) | (have lS := (Option.bind_some _ _).symm.trans H; rw [TI]; with_reducible exact lS) | (have lS := (Option.bind_some _ _).symm.trans H; with_reducible exact lS) | with_reducible exact H | (rw [TI]; exact H) | exact H
              have aQK := za TI
              clear TI
              as_aux_lemma =>
               have H' := za H
               clear H
               go_wp2_with (first | ((with_reducible refine zg 25 rfl ?_); refine kZ (some 102) Try.func25 #[.string (a0.extract (fE : Int).toNat (oM : Int).toNat)] ?_; refine (Ol.calls (a0.extract (fE : Int).toNat (oM : Int).toNat) true _ A32.out).mono ?_; rintro e w' ⟨rfl, ⟨nd, rfl⟩⟩; refine ⟨_, rfl, ?_⟩) | ((with_reducible refine iK (b := .append) (xs := #[.tmp 108, .tmp 116]) rfl ?_); (try (refine fD (by rfl) ?_; dsimp only)); at_builtin; refine Kd.nP IZ (w0 := w) w.heap.size rfl (.tmp 108) (.tmp 116) 61 81 (.agg #[(.int .i64 0), (.string ⟨#[]⟩), (.int .i64 0)]) 32 rfl Try.underlying61 Hq rfl (by decide) (by omega) u5 gY (⟨3, a0.extract (fE : Int).toNat (oM : Int).toNat, fE⟩ : iJ) [.int .i64 3, .string (a0.extract (fE : Int).toNat (oM : Int).toNat), .int .i64 fE] (fun _ => True) (fun _ => False) rfl rfl ?aP (fun _ hk => hk.elim) ?aF ?aO ?aB ?aS ?aL ?_; (case aP => exact Cf _ _ _ (⟨3, a0.extract (fE : Int).toNat (oM : Int).toNat, fE⟩ : iJ)); (case aB => exact kU); (case aF => exact (fun _ _ => trivial)); (case aO => exact (zr rU.out)); (case aS => exact (aT kU)); (case aL => have := aAF.out; omega); intro v109 w39 ho hb hg hat; rw [← aQK.out] at ho; replace HB := za (hb); have aQL := za (ho); clear rU; clear ho hb hg hat))
               go_roundg aEU
               case measure => have := lH.out; have := Dp.out; have := aET.out; omega
               case rel => exact ⟨(aQJ), (oM), jG, H', ⟨by have := lH.out; have := Dp.out; have := aET.out; omega⟩, ⟨by (with_reducible repeat (first | apply Kd.bC | apply Kd.bF | apply Kd.bP)); exact aQL.out⟩, ⟨kU⟩⟩
            ·
             revert H; refine Dn (fun c40 H => ?_) (fun c40 H => ?_)
             ·
              have aAw : decide (20 < (wrap64 (oM - fE))) = true := decide_eq_true c40
              clear c40
              as_aux_lemma =>
               simp only [Option.some.injEq, Prod.mk.injEq] at H
               obtain ⟨rfl, rfl, rfl⟩ := H
               go_wp2_with (first | ((with_reducible refine zg 25 rfl ?_); refine kZ (some 102) Try.func25 #[.string (a0.extract (fE : Int).toNat (oM : Int).toNat)] ?_; refine (Ol.calls (a0.extract (fE : Int).toNat (oM : Int).toNat) false _ A32.out).mono ?_; rintro e w' ⟨rfl, ⟨nd, rfl⟩⟩; refine ⟨_, rfl, ?_⟩))
               go_ret3
               exact ⟨_, jR, vJ, kU⟩
             ·
              have aAw : decide (20 < (wrap64 (oM - fE))) = false := decide_eq_false c40
              clear c40
              have aAx := eq_true (of_decide_eq_true iL : 0 ≤ fE)
              have aP7 := eq_true (of_decide_eq_true iL : fE ≤ oM)
              have aJ1 := eq_true (of_decide_eq_true iL : oM ≤ (a0.size : Int))
              revert H; refine IP fun aAG H => ?_
              obtain ⟨aQM, TJ⟩ : ∃ y_ : List (iJ), y_ = (gY ++ [(⟨1, a0.extract (fE : Int).toNat (oM : Int).toNat, fE⟩ : iJ)]) := ⟨_, rfl⟩
              replace H : (dC.l0 aEU a0 aQM oM) = some (r1, r2, r3) := by first | (rw [TJ]; with_reducible exact H) | (have lS := (Option.bind_some _ _).symm.trans H; rw [TJ]; with_reducible exact lS) | (have lS := (Option.bind_some _ _).symm.trans H; with_reducible exact lS) | with_reducible exact H | (rw [TJ]; exact H) | exact H
              have aQN := za TJ
              clear TJ
              as_aux_lemma =>
               have H' := za H
               clear H
               go_wp2_with (first | ((with_reducible refine zg 25 rfl ?_); refine kZ (some 102) Try.func25 #[.string (a0.extract (fE : Int).toNat (oM : Int).toNat)] ?_; refine (Ol.calls (a0.extract (fE : Int).toNat (oM : Int).toNat) false _ A32.out).mono ?_; rintro e w' ⟨rfl, ⟨nd, rfl⟩⟩; refine ⟨_, rfl, ?_⟩) | ((with_reducible refine iK (b := .append) (xs := #[.tmp 108, .tmp 116]) rfl ?_); (try (refine fD (by rfl) ?_; dsimp only)); at_builtin; refine Kd.nP IZ (w0 := w) w.heap.size rfl (.tmp 108) (.tmp 116) 61 81 (.agg #[(.int .i64 0), (.string ⟨#[]⟩), (.int .i64 0)]) 32 rfl Try.underlying61 Hq rfl (by decide) (by omega) u5 gY (⟨1, a0.extract (fE : Int).toNat (oM : Int).toNat, fE⟩ : iJ) [.int .i64 1, .string (a0.extract (fE : Int).toNat (oM : Int).toNat), .int .i64 fE] (fun _ => True) (fun _ => False) rfl rfl ?aP (fun _ hk => hk.elim) ?aF ?aO ?aB ?aS ?aL ?_; (case aP => exact Cf _ _ _ (⟨1, a0.extract (fE : Int).toNat (oM : Int).toNat, fE⟩ : iJ)); (case aB => exact kU); (case aF => exact (fun _ _ => trivial)); (case aO => exact (zr rU.out)); (case aS => exact (aT kU)); (case aL => have := aAG.out; omega); intro bPB w45 ho hb hg hat; rw [← aQN.out] at ho; replace HB := za (hb); have aQO := za (ho); clear rU; clear ho hb hg hat))
               go_roundg aEU
               case measure => have := lH.out; have := Dp.out; have := aET.out; omega
               case rel => exact ⟨(aQM), (oM), jG, H', ⟨by have := lH.out; have := Dp.out; have := aET.out; omega⟩, ⟨by (with_reducible repeat (first | apply Kd.bC | apply Kd.bF | apply Kd.bP)); exact aQO.out⟩, ⟨kU⟩⟩
         ·
          replace H := jT H
          obtain ⟨t114, A46, H⟩ := H
          (try dsimp only at H)
          replace H := Bq H
          rcases H with ⟨rfl, H⟩ | ⟨rfl, H⟩
          ·
           have aLD := za H
           clear H
           go_upto_block 7 with (first | ((with_reducible refine zg 23 rfl ?_); refine kZ (some 72) Try.func23 #[.int .u8 (bt a0 fE)] ?_; refine (kD.calls (bt a0 fE) false _ RP.out).mono ?_; rintro e w' ⟨rfl, ⟨nd, rfl⟩⟩; refine ⟨_, rfl, ?_⟩) | ((with_reducible refine zg 24 rfl ?_); refine kZ (some 121) Try.func24 #[.int .u8 (bt a0 fE)] ?_; refine (qV.calls (bt a0 fE) true _ A46.out).mono ?_; rintro e w' ⟨rfl, ⟨nd, rfl⟩⟩; refine ⟨_, rfl, ?_⟩))
           (try simp only [Act.put, List.setIfInBounds_toArray, List.set_cons_zero, List.set_cons_succ])
           go_cut [10] (fun v10 wc => ∃ (kq : Nat) (eY : Int), v10 = .int .i64 eY ∧ aG (dC.j6 kq a0 gY fE (bt a0 fE) eY = some (r1, r2, r3)) ∧ aG (kq ≤ Ia) ∧ aG (Kd.R IZ 81 wc w.heap.size (fun _ => True) u5 gY) ∧ aG (Below w.heap.size w wc))
           case first =>
            have H := aLD.out
            clear aLD
            have H' := za H
            clear H
            go_wp2
            go_loopg [10] Ia (fun kq v10 w' => ∃ (yZ : Int), v10 = .int .i64 yZ ∧ aG (dC.l3 kq a0 gY fE (bt a0 fE) yZ = some (r1, r2, r3)) ∧ aG (kq ≤ Ia) ∧ aG (Kd.R IZ 81 w' w.heap.size (fun _ => True) u5 gY) ∧ aG (Below w.heap.size w w'))
            case atStart => exact ⟨(fE), jG, H', ⟨Nat.le_refl _⟩, ⟨Af⟩, ⟨kU⟩⟩
            case round =>
             clear H'
             obtain ⟨yZ, rfl, HA, Vq, rU, HB⟩ := hrel
             cases gk with
             | zero => exact absurd HA.out (by simp [dC.l3])
             | succ k3 =>
              have H := HA.out
              clear HA
              simp only [dC.l3] at H
              revert H; refine Dn (fun c49 H => ?_) (fun c49 H => ?_)
              ·
               have KE := decide_eq_true c49
               clear c49
               (first | rw [KE] | (simp only [dO, dQ]; rw [KE]) | skip)
               revert H; refine yX fun aJ3 H => ?_
               replace H := jT H
               obtain ⟨t115, A52, H⟩ := H
               (try dsimp only at H)
               replace H := Bq H
               rcases H with ⟨rfl, H⟩ | ⟨rfl, H⟩
               ·
                as_aux_lemma =>
                 have H' := za H
                 clear H
                 have p51 : 0 ≤ (yZ : Int) := of_decide_eq_true iL
                 have q51 : yZ < (a0.size : Int) := of_decide_eq_true iL
                 have bII := rP a0 yZ
                 replace p51 := eq_true p51
                 replace q51 := eq_true q51
                 go_wp2_with (first | ((with_reducible refine gL (f := 24) rfl ?_); (with_reducible refine bO (N := 131) rfl ?_); (refine fD (by rfl) ?_; dsimp only); refine nQ (some 131) rfl rfl Try.func24 dU rfl #[.int .u8 (bt a0 yZ)] rfl Fb ?_; (with_reducible refine (qV.calls (bt a0 yZ) true _ A52.out).mono ?_); rintro e w' ⟨rfl, ⟨nd, rfl⟩⟩; refine ⟨_, rfl, ?_⟩))
                 go_roundg k3
                 case measure => have := lH.out; have := Dp.out; have := Vq.out; omega
                 case rel => exact ⟨(wrap64 (yZ + 1)), jG, H', ⟨by have := lH.out; have := Dp.out; have := Vq.out; omega⟩, ⟨Af⟩, ⟨kU⟩⟩
               ·
                as_aux_lemma =>
                 have H' := za H
                 clear H
                 have p51 : 0 ≤ (yZ : Int) := of_decide_eq_true iL
                 have q51 : yZ < (a0.size : Int) := of_decide_eq_true iL
                 have bII := rP a0 yZ
                 replace p51 := eq_true p51
                 replace q51 := eq_true q51
                 go_wp2_with (first | ((with_reducible refine gL (f := 24) rfl ?_); (with_reducible refine bO (N := 131) rfl ?_); (refine fD (by rfl) ?_; dsimp only); refine nQ (some 131) rfl rfl Try.func24 dU rfl #[.int .u8 (bt a0 yZ)] rfl Fb ?_; (with_reducible refine (qV.calls (bt a0 yZ) false _ A52.out).mono ?_); rintro e w' ⟨rfl, ⟨nd, rfl⟩⟩; refine ⟨_, rfl, ?_⟩))
                 go_meet
                 case rel => exact ⟨_, (yZ), jG, H', ⟨by have := lH.out; have := Dp.out; have := Vq.out; first | omega | exact Nat.le_refl _⟩, ⟨Af⟩, ⟨kU⟩⟩
              ·
               have KE := decide_eq_false c49
               clear c49
               (first | rw [KE] | (simp only [dO, dQ]; rw [KE]) | skip)
               as_aux_lemma =>
                have H' := za H
                clear H
                go_wp2
                go_meet
                case rel => exact ⟨_, (yZ), jG, H', ⟨by have := lH.out; have := Dp.out; have := Vq.out; first | omega | exact Nat.le_refl _⟩, ⟨Af⟩, ⟨kU⟩⟩
           case rest =>
            clear aLD
            obtain ⟨kq, eY, rfl, HA, TK, rU, HB⟩ := hcut
            cases kq with
            | zero => exact absurd HA.out (by simp [dC.j6])
            | succ TL =>
             have H := HA.out
             clear HA
             simp only [dC.j6] at H
             revert H; refine Dn (fun c54 H => ?_) (fun c54 H => ?_)
             ·
              have aJ4 : decide (9 < (wrap64 (eY - fE))) = true := decide_eq_true c54
              clear c54
              as_aux_lemma =>
               simp only [Option.some.injEq, Prod.mk.injEq] at H
               obtain ⟨rfl, rfl, rfl⟩ := H
               go_wp2
               go_ret3
               exact ⟨_, jR, vJ, kU⟩
             ·
              have aJ4 : decide (9 < (wrap64 (eY - fE))) = false := decide_eq_false c54
              clear c54
              revert H; refine Dn (fun c55 H => ?_) (fun c55 H => ?_)
              ·
               have aJ5 : decide (1 < (wrap64 (eY - fE))) = true := decide_eq_true c55
               clear c55
               revert H; refine oW (fun aAy aAz H => ?_) (fun c56 aAy aAz H => ?_)
               ·
                as_aux_lemma =>
                 simp only [Option.some.injEq, Prod.mk.injEq] at H
                 obtain ⟨rfl, rfl, rfl⟩ := H
                 go_wp2
                 go_ret3
                 exact ⟨_, jR, vJ, kU⟩
               ·
                revert H; refine Dn (fun c57 H => ?_) (fun c57 H => ?_)
                ·
                 have aJ6 := decide_eq_true c57
                 clear c57
                 revert H; refine yX fun aQg H => ?_
                 replace H := jT H
                 obtain ⟨t116, A60, H⟩ := H
                 (try dsimp only at H)
                 replace H := Bq H
                 rcases H with ⟨rfl, H⟩ | ⟨rfl, H⟩
                 ·
                  as_aux_lemma =>
                   simp only [Option.some.injEq, Prod.mk.injEq] at H
                   obtain ⟨rfl, rfl, rfl⟩ := H
                   have p59 : 0 ≤ (eY : Int) := of_decide_eq_true iL
                   have q59 : eY < (a0.size : Int) := of_decide_eq_true iL
                   have aQP := rP a0 eY
                   replace p59 := eq_true p59
                   replace q59 := eq_true q59
                   go_wp2_with (first | ((with_reducible refine gL (f := 23) rfl ?_); (with_reducible refine bO (N := 157) rfl ?_); (refine fD (by rfl) ?_; dsimp only); refine nQ (some 157) rfl rfl Try.func23 dU rfl #[.int .u8 (bt a0 eY)] rfl Fb ?_; (with_reducible refine (kD.calls (bt a0 eY) true _ A60.out).mono ?_); rintro e w' ⟨rfl, ⟨nd, rfl⟩⟩; refine ⟨_, rfl, ?_⟩))
                   go_ret3
                   exact ⟨_, jR, vJ, kU⟩
                 ·
                  revert H; refine oW (fun aJ7 aJ8 H => ?_) (fun c63 aJ7 aJ8 H => ?_)
                  ·
                   as_aux_lemma =>
                    simp only [Option.some.injEq, Prod.mk.injEq] at H
                    obtain ⟨rfl, rfl, rfl⟩ := H
                    have p59 : 0 ≤ (eY : Int) := of_decide_eq_true iL
                    have q59 : eY < (a0.size : Int) := of_decide_eq_true iL
                    have aQP := rP a0 eY
                    replace p59 := eq_true p59
                    replace q59 := eq_true q59
                    go_wp2_with (first | ((with_reducible refine gL (f := 23) rfl ?_); (with_reducible refine bO (N := 157) rfl ?_); (refine fD (by rfl) ?_; dsimp only); refine nQ (some 157) rfl rfl Try.func23 dU rfl #[.int .u8 (bt a0 eY)] rfl Fb ?_; (with_reducible refine (kD.calls (bt a0 eY) false _ A60.out).mono ?_); rintro e w' ⟨rfl, ⟨nd, rfl⟩⟩; refine ⟨_, rfl, ?_⟩; have p62 : 0 ≤ (eY : Int) := of_decide_eq_true iL; have q62 : eY < (a0.size : Int) := of_decide_eq_true iL; have bIJ := rP a0 eY; replace p62 := eq_true p62; replace q62 := eq_true q62))
                    go_ret3
                    exact ⟨_, jR, vJ, kU⟩
                  ·
                   revert H; refine yP fun c64 aJ9 aKa H => ?_
                   clear c64
                   revert H; refine yP fun c65 CW aKd H => ?_
                   clear c65
                   revert H; refine yP fun c66 aQj aQk H => ?_
                   clear c66
                   revert H; refine IP fun aAH H => ?_
                   obtain ⟨aQQ, TM⟩ : ∃ y_ : List (iJ), y_ = (gY ++ [(⟨2, a0.extract (fE : Int).toNat (eY : Int).toNat, fE⟩ : iJ)]) := ⟨_, rfl⟩
                   replace H : (dC.l0 TL a0 aQQ eY) = some (r1, r2, r3) := by first | (rw [TM]; with_reducible exact H) | (have lS := (Option.bind_some _ _).symm.trans H; rw [TM]; with_reducible exact lS) | (have lS := (Option.bind_some _ _).symm.trans H; with_reducible exact lS) | with_reducible exact H | (rw [TM]; exact H) | exact H
                   have aQR := za TM
                   clear TM
                   as_aux_lemma =>
                    have H' := za H
                    clear H
                    have p59 : 0 ≤ (eY : Int) := of_decide_eq_true iL
                    have q59 : eY < (a0.size : Int) := of_decide_eq_true iL
                    have aQP := rP a0 eY
                    replace p59 := eq_true p59
                    replace q59 := eq_true q59
                    go_wp2_with (first | ((with_reducible refine gL (f := 23) rfl ?_); (with_reducible refine bO (N := 157) rfl ?_); (refine fD (by rfl) ?_; dsimp only); refine nQ (some 157) rfl rfl Try.func23 dU rfl #[.int .u8 (bt a0 eY)] rfl Fb ?_; (with_reducible refine (kD.calls (bt a0 eY) false _ A60.out).mono ?_); rintro e w' ⟨rfl, ⟨nd, rfl⟩⟩; refine ⟨_, rfl, ?_⟩; have p62 : 0 ≤ (eY : Int) := of_decide_eq_true iL; have q62 : eY < (a0.size : Int) := of_decide_eq_true iL; have bIJ := rP a0 eY; replace p62 := eq_true p62; replace q62 := eq_true q62) | ((with_reducible refine iK (b := .append) (xs := #[.tmp 167, .tmp 174]) rfl ?_); (try (refine fD (by rfl) ?_; dsimp only)); at_builtin; refine Kd.nP IZ (w0 := w) w.heap.size rfl (.tmp 167) (.tmp 174) 61 81 (.agg #[(.int .i64 0), (.string ⟨#[]⟩), (.int .i64 0)]) 32 rfl Try.underlying61 Hq rfl (by decide) (by omega) u5 gY (⟨2, a0.extract (fE : Int).toNat (eY : Int).toNat, fE⟩ : iJ) [.int .i64 2, .string (a0.extract (fE : Int).toNat (eY : Int).toNat), .int .i64 fE] (fun _ => True) (fun _ => False) rfl rfl ?aP (fun _ hk => hk.elim) ?aF ?aO ?aB ?aS ?aL ?_; (case aP => exact Cf _ _ _ (⟨2, a0.extract (fE : Int).toNat (eY : Int).toNat, fE⟩ : iJ)); (case aB => exact kU); (case aF => exact (fun _ _ => trivial)); (case aO => exact (zr rU.out)); (case aS => exact (aT kU)); (case aL => have := aAH.out; omega); intro bPC w68 ho hb hg hat; rw [← aQR.out] at ho; replace HB := za (hb); have aQS := za (ho); clear rU; clear ho hb hg hat))
                    go_roundg TL
                    case measure => have := lH.out; have := Dp.out; have := TK.out; omega
                    case rel => exact ⟨(aQQ), (eY), jG, H', ⟨by have := lH.out; have := Dp.out; have := TK.out; omega⟩, ⟨by (with_reducible repeat (first | apply Kd.bC | apply Kd.bF | apply Kd.bP)); exact aQS.out⟩, ⟨kU⟩⟩
                ·
                 have aJ6 := decide_eq_false c57
                 clear c57
                 revert H; refine yP fun c69 aQl bNO H => ?_
                 clear c69
                 revert H; refine yP fun c70 aQm aQn H => ?_
                 clear c70
                 revert H; refine yP fun c71 aQo aQp H => ?_
                 clear c71
                 revert H; refine IP fun aQT H => ?_
                 obtain ⟨aQU, TN⟩ : ∃ y_ : List (iJ), y_ = (gY ++ [(⟨2, a0.extract (fE : Int).toNat (eY : Int).toNat, fE⟩ : iJ)]) := ⟨_, rfl⟩
                 replace H : (dC.l0 TL a0 aQU eY) = some (r1, r2, r3) := by first | (rw [TN]; with_reducible exact H) | (have lS := (Option.bind_some _ _).symm.trans H; rw [TN]; with_reducible exact lS) | (have lS := (Option.bind_some _ _).symm.trans H; with_reducible exact lS) | with_reducible exact H | (rw [TN]; exact H) | exact H
                 have aQV := za TN
                 clear TN
                 as_aux_lemma =>
                  have H' := za H
                  clear H
                  go_wp2_with (first | ((with_reducible refine iK (b := .append) (xs := #[.tmp 167, .tmp 174]) rfl ?_); (try (refine fD (by rfl) ?_; dsimp only)); at_builtin; refine Kd.nP IZ (w0 := w) w.heap.size rfl (.tmp 167) (.tmp 174) 61 81 (.agg #[(.int .i64 0), (.string ⟨#[]⟩), (.int .i64 0)]) 32 rfl Try.underlying61 Hq rfl (by decide) (by omega) u5 gY (⟨2, a0.extract (fE : Int).toNat (eY : Int).toNat, fE⟩ : iJ) [.int .i64 2, .string (a0.extract (fE : Int).toNat (eY : Int).toNat), .int .i64 fE] (fun _ => True) (fun _ => False) rfl rfl ?aP (fun _ hk => hk.elim) ?aF ?aO ?aB ?aS ?aL ?_; (case aP => exact Cf _ _ _ (⟨2, a0.extract (fE : Int).toNat (eY : Int).toNat, fE⟩ : iJ)); (case aB => exact kU); (case aF => exact (fun _ _ => trivial)); (case aO => exact (zr rU.out)); (case aS => exact (aT kU)); (case aL => have := aQT.out; omega); intro bPD w73 ho hb hg hat; rw [← aQV.out] at ho; replace HB := za (hb); have aQW := za (ho); clear rU; clear ho hb hg hat))
                  go_roundg TL
                  case measure => have := lH.out; have := Dp.out; have := TK.out; omega
                  case rel => exact ⟨(aQU), (eY), jG, H', ⟨by have := lH.out; have := Dp.out; have := TK.out; omega⟩, ⟨by (with_reducible repeat (first | apply Kd.bC | apply Kd.bF | apply Kd.bP)); exact aQW.out⟩, ⟨kU⟩⟩
              ·
               have aJ5 : decide (1 < (wrap64 (eY - fE))) = false := decide_eq_false c55
               clear c55
               revert H; refine Dn (fun c74 H => ?_) (fun c74 H => ?_)
               ·
                have aKc := decide_eq_true c74
                clear c74
                revert H; refine yX fun Ea H => ?_
                replace H := jT H
                obtain ⟨t123, A77, H⟩ := H
                (try dsimp only at H)
                replace H := Bq H
                rcases H with ⟨rfl, H⟩ | ⟨rfl, H⟩
                ·
                 as_aux_lemma =>
                  simp only [Option.some.injEq, Prod.mk.injEq] at H
                  obtain ⟨rfl, rfl, rfl⟩ := H
                  have p76 : 0 ≤ (eY : Int) := of_decide_eq_true iL
                  have q76 : eY < (a0.size : Int) := of_decide_eq_true iL
                  have aQX := rP a0 eY
                  replace p76 := eq_true p76
                  replace q76 := eq_true q76
                  go_wp2_with (first | ((with_reducible refine gL (f := 23) rfl ?_); (with_reducible refine bO (N := 157) rfl ?_); (refine fD (by rfl) ?_; dsimp only); refine nQ (some 157) rfl rfl Try.func23 dU rfl #[.int .u8 (bt a0 eY)] rfl Fb ?_; (with_reducible refine (kD.calls (bt a0 eY) true _ A77.out).mono ?_); rintro e w' ⟨rfl, ⟨nd, rfl⟩⟩; refine ⟨_, rfl, ?_⟩))
                  go_ret3
                  exact ⟨_, jR, vJ, kU⟩
                ·
                 revert H; refine oW (fun aAC aAD H => ?_) (fun c80 aAC aAD H => ?_)
                 ·
                  as_aux_lemma =>
                   simp only [Option.some.injEq, Prod.mk.injEq] at H
                   obtain ⟨rfl, rfl, rfl⟩ := H
                   have p76 : 0 ≤ (eY : Int) := of_decide_eq_true iL
                   have q76 : eY < (a0.size : Int) := of_decide_eq_true iL
                   have aQX := rP a0 eY
                   replace p76 := eq_true p76
                   replace q76 := eq_true q76
                   go_wp2_with (first | ((with_reducible refine gL (f := 23) rfl ?_); (with_reducible refine bO (N := 157) rfl ?_); (refine fD (by rfl) ?_; dsimp only); refine nQ (some 157) rfl rfl Try.func23 dU rfl #[.int .u8 (bt a0 eY)] rfl Fb ?_; (with_reducible refine (kD.calls (bt a0 eY) false _ A77.out).mono ?_); rintro e w' ⟨rfl, ⟨nd, rfl⟩⟩; refine ⟨_, rfl, ?_⟩; have p79 : 0 ≤ (eY : Int) := of_decide_eq_true iL; have q79 : eY < (a0.size : Int) := of_decide_eq_true iL; have bIK := rP a0 eY; replace p79 := eq_true p79; replace q79 := eq_true q79))
                   go_ret3
                   exact ⟨_, jR, vJ, kU⟩
                 ·
                  revert H; refine yP fun c81 aQy bNP H => ?_
                  clear c81
                  revert H; refine yP fun c82 aQz aQA H => ?_
                  clear c82
                  revert H; refine yP fun c83 aQB aQC H => ?_
                  clear c83
                  revert H; refine IP fun aQY H => ?_
                  obtain ⟨aQZ, TP⟩ : ∃ y_ : List (iJ), y_ = (gY ++ [(⟨2, a0.extract (fE : Int).toNat (eY : Int).toNat, fE⟩ : iJ)]) := ⟨_, rfl⟩
                  replace H : (dC.l0 TL a0 aQZ eY) = some (r1, r2, r3) := by first | (rw [TP]; with_reducible exact H) | (have lS := (Option.bind_some _ _).symm.trans H; rw [TP]; with_reducible exact lS) | (have lS := (Option.bind_some _ _).symm.trans H; with_reducible exact lS) | with_reducible exact H | (rw [TP]; exact H) | exact H
                  have aQ0 := za TP
                  clear TP
                  as_aux_lemma =>
                   have H' := za H
                   clear H
                   have p76 : 0 ≤ (eY : Int) := of_decide_eq_true iL
                   have q76 : eY < (a0.size : Int) := of_decide_eq_true iL
                   have aQX := rP a0 eY
                   replace p76 := eq_true p76
                   replace q76 := eq_true q76
                   go_wp2_with (first | ((with_reducible refine gL (f := 23) rfl ?_); (with_reducible refine bO (N := 157) rfl ?_); (refine fD (by rfl) ?_; dsimp only); refine nQ (some 157) rfl rfl Try.func23 dU rfl #[.int .u8 (bt a0 eY)] rfl Fb ?_; (with_reducible refine (kD.calls (bt a0 eY) false _ A77.out).mono ?_); rintro e w' ⟨rfl, ⟨nd, rfl⟩⟩; refine ⟨_, rfl, ?_⟩; have p79 : 0 ≤ (eY : Int) := of_decide_eq_true iL; have q79 : eY < (a0.size : Int) := of_decide_eq_true iL; have bIK := rP a0 eY; replace p79 := eq_true p79; replace q79 := eq_true q79) | ((with_reducible refine iK (b := .append) (xs := #[.tmp 167, .tmp 174]) rfl ?_); (try (refine fD (by rfl) ?_; dsimp only)); at_builtin; refine Kd.nP IZ (w0 := w) w.heap.size rfl (.tmp 167) (.tmp 174) 61 81 (.agg #[(.int .i64 0), (.string ⟨#[]⟩), (.int .i64 0)]) 32 rfl Try.underlying61 Hq rfl (by decide) (by omega) u5 gY (⟨2, a0.extract (fE : Int).toNat (eY : Int).toNat, fE⟩ : iJ) [.int .i64 2, .string (a0.extract (fE : Int).toNat (eY : Int).toNat), .int .i64 fE] (fun _ => True) (fun _ => False) rfl rfl ?aP (fun _ hk => hk.elim) ?aF ?aO ?aB ?aS ?aL ?_; (case aP => exact Cf _ _ _ (⟨2, a0.extract (fE : Int).toNat (eY : Int).toNat, fE⟩ : iJ)); (case aB => exact kU); (case aF => exact (fun _ _ => trivial)); (case aO => exact (zr rU.out)); (case aS => exact (aT kU)); (case aL => have := aQY.out; omega); intro bPE w85 ho hb hg hat; rw [← aQ0.out] at ho; replace HB := za (hb); have aQ1 := za (ho); clear rU; clear ho hb hg hat))
                   go_roundg TL
                   case measure => have := lH.out; have := Dp.out; have := TK.out; omega
                   case rel => exact ⟨(aQZ), (eY), jG, H', ⟨by have := lH.out; have := Dp.out; have := TK.out; omega⟩, ⟨by (with_reducible repeat (first | apply Kd.bC | apply Kd.bF | apply Kd.bP)); exact aQ1.out⟩, ⟨kU⟩⟩
               ·
                have aKc := decide_eq_false c74
                clear c74
                revert H; refine yP fun c86 aQF aQG H => ?_
                clear c86
                revert H; refine yP fun c87 aQH aQI H => ?_
                clear c87
                revert H; refine yP fun c88 KI aKe H => ?_
                clear c88
                revert H; refine IP fun aQ2 H => ?_
                obtain ⟨aQ3, TQ⟩ : ∃ y_ : List (iJ), y_ = (gY ++ [(⟨2, a0.extract (fE : Int).toNat (eY : Int).toNat, fE⟩ : iJ)]) := ⟨_, rfl⟩
                replace H : (dC.l0 TL a0 aQ3 eY) = some (r1, r2, r3) := by first | (rw [TQ]; with_reducible exact H) | (have lS := (Option.bind_some _ _).symm.trans H; rw [TQ]; with_reducible exact lS) | (have lS := (Option.bind_some _ _).symm.trans H; with_reducible exact lS) | with_reducible exact H | (rw [TQ]; exact H) | exact H
                have aQ4 := za TQ
                clear TQ
                as_aux_lemma =>
                 have H' := za H
                 clear H
                 go_wp2_with (first | ((with_reducible refine iK (b := .append) (xs := #[.tmp 167, .tmp 174]) rfl ?_); (try (refine fD (by rfl) ?_; dsimp only)); at_builtin; refine Kd.nP IZ (w0 := w) w.heap.size rfl (.tmp 167) (.tmp 174) 61 81 (.agg #[(.int .i64 0), (.string ⟨#[]⟩), (.int .i64 0)]) 32 rfl Try.underlying61 Hq rfl (by decide) (by omega) u5 gY (⟨2, a0.extract (fE : Int).toNat (eY : Int).toNat, fE⟩ : iJ) [.int .i64 2, .string (a0.extract (fE : Int).toNat (eY : Int).toNat), .int .i64 fE] (fun _ => True) (fun _ => False) rfl rfl ?aP (fun _ hk => hk.elim) ?aF ?aO ?aB ?aS ?aL ?_; (case aP => exact Cf _ _ _ (⟨2, a0.extract (fE : Int).toNat (eY : Int).toNat, fE⟩ : iJ)); (case aB => exact kU); (case aF => exact (fun _ _ => trivial)); (case aO => exact (zr rU.out)); (case aS => exact (aT kU)); (case aL => have := aQ2.out; omega); intro bPF w90 ho hb hg hat; rw [← aQ4.out] at ho; replace HB := za (hb); have aQ5 := za (ho); clear rU; clear ho hb hg hat))
                 go_roundg TL
                 case measure => have := lH.out; have := Dp.out; have := TK.out; omega
                 case rel => exact ⟨(aQ3), (eY), jG, H', ⟨by have := lH.out; have := Dp.out; have := TK.out; omega⟩, ⟨by (with_reducible repeat (first | apply Kd.bC | apply Kd.bF | apply Kd.bP)); exact aQ5.out⟩, ⟨kU⟩⟩
          ·
           replace H := jT H
           obtain ⟨t130, A91, H⟩ := H
           (try dsimp only at H)
           revert H; refine oW (fun aAI aAJ H => ?_) (fun c92 aAI aAJ H => ?_)
           ·
            as_aux_lemma =>
             simp only [Option.some.injEq, Prod.mk.injEq] at H
             obtain ⟨rfl, rfl, rfl⟩ := H
             go_wp2_with (first | ((with_reducible refine zg 23 rfl ?_); refine kZ (some 72) Try.func23 #[.int .u8 (bt a0 fE)] ?_; refine (kD.calls (bt a0 fE) false _ RP.out).mono ?_; rintro e w' ⟨rfl, ⟨nd, rfl⟩⟩; refine ⟨_, rfl, ?_⟩) | ((with_reducible refine zg 24 rfl ?_); refine kZ (some 121) Try.func24 #[.int .u8 (bt a0 fE)] ?_; refine (qV.calls (bt a0 fE) false _ A46.out).mono ?_; rintro e w' ⟨rfl, ⟨nd, rfl⟩⟩; refine ⟨_, rfl, ?_⟩) | ((with_reducible refine zg 26 rfl ?_); refine kZ (some 24) Try.func26 #[.string a0, .int .i64 fE] ?_; refine (jF.calls Ia a0 fE t130 _ A91.out).mono ?_; rintro e w' ⟨rfl, ⟨nd, rfl⟩⟩; refine ⟨_, rfl, ?_⟩))
             go_ret3
             exact ⟨_, jR, vJ, kU⟩
           ·
            revert H; refine IP fun aQ6 H => ?_
            obtain ⟨aQ7, TR⟩ : ∃ y_ : List (iJ), y_ = (gY ++ [(⟨4, t130, fE⟩ : iJ)]) := ⟨_, rfl⟩
            replace H : (dC.l0 Ia a0 aQ7 (wrap64 (fE + (t130.size : Int)))) = some (r1, r2, r3) := by first | (rw [TR]; with_reducible exact H) | (have lS := (Option.bind_some _ _).symm.trans H; rw [TR]; with_reducible exact lS) | (have lS := (Option.bind_some _ _).symm.trans H; with_reducible exact lS) | with_reducible exact H | (rw [TR]; exact H) | exact H
            have aQ8 := za TR
            clear TR
            as_aux_lemma =>
             have H' := za H
             clear H
             go_wp2_with (first | ((with_reducible refine zg 23 rfl ?_); refine kZ (some 72) Try.func23 #[.int .u8 (bt a0 fE)] ?_; refine (kD.calls (bt a0 fE) false _ RP.out).mono ?_; rintro e w' ⟨rfl, ⟨nd, rfl⟩⟩; refine ⟨_, rfl, ?_⟩) | ((with_reducible refine zg 24 rfl ?_); refine kZ (some 121) Try.func24 #[.int .u8 (bt a0 fE)] ?_; refine (qV.calls (bt a0 fE) false _ A46.out).mono ?_; rintro e w' ⟨rfl, ⟨nd, rfl⟩⟩; refine ⟨_, rfl, ?_⟩) | ((with_reducible refine zg 26 rfl ?_); refine kZ (some 24) Try.func26 #[.string a0, .int .i64 fE] ?_; refine (jF.calls Ia a0 fE t130 _ A91.out).mono ?_; rintro e w' ⟨rfl, ⟨nd, rfl⟩⟩; refine ⟨_, rfl, ?_⟩) | ((with_reducible refine iK (b := .append) (xs := #[.tmp 28, .tmp 32]) rfl ?_); (try (refine fD (by rfl) ?_; dsimp only)); at_builtin; refine Kd.nP IZ (w0 := w) w.heap.size rfl (.tmp 28) (.tmp 32) 61 81 (.agg #[(.int .i64 0), (.string ⟨#[]⟩), (.int .i64 0)]) 32 rfl Try.underlying61 Hq rfl (by decide) (by omega) u5 gY (⟨4, t130, fE⟩ : iJ) [.int .i64 4, .string t130, .int .i64 fE] (fun _ => True) (fun _ => False) rfl rfl ?aP (fun _ hk => hk.elim) ?aF ?aO ?aB ?aS ?aL ?_; (case aP => exact Cf _ _ _ (⟨4, t130, fE⟩ : iJ)); (case aB => exact kU); (case aF => exact (fun _ _ => trivial)); (case aO => exact (zr rU.out)); (case aS => exact (aT kU)); (case aL => have := aQ6.out; omega); intro bPG w94 ho hb hg hat; rw [← aQ8.out] at ho; replace HB := za (hb); have aQ9 := za (ho); clear rU; clear ho hb hg hat))
             go_roundg Ia
             case measure => have := lH.out; have := Dp.out; omega
             case rel => exact ⟨(aQ7), (wrap64 (fE + (t130.size : Int))), jG, H', ⟨by have := lH.out; have := Dp.out; omega⟩, ⟨by (with_reducible repeat (first | apply Kd.bC | apply Kd.bF | apply Kd.bP)); exact aQ9.out⟩, ⟨kU⟩⟩
    ·
     have Bt := decide_eq_false c3
     clear c3
     revert H; refine IP fun aRa H => ?_
     obtain ⟨y101, hy101⟩ : ∃ y_ : List (iJ), y_ = (gY ++ [(⟨0, (⟨#[]⟩ : ByteArray), (a0.size : Int)⟩ : iJ)]) := ⟨_, rfl⟩
     replace H : (some (y101, 0, 0)) = some (r1, r2, r3) := by first | (rw [hy101]; with_reducible exact H) | (have lS := (Option.bind_some _ _).symm.trans H; rw [hy101]; with_reducible exact lS) | (have lS := (Option.bind_some _ _).symm.trans H; with_reducible exact lS) | with_reducible exact H | (rw [hy101]; exact H) | exact H
     have aRb := za hy101
     clear hy101
     as_aux_lemma =>
      simp only [Option.some.injEq, Prod.mk.injEq] at H
      obtain ⟨rfl, rfl, rfl⟩ := H
      go_wp2_with (first | ((with_reducible refine iK (b := .append) (xs := #[.tmp 177, .tmp 181]) rfl ?_); (try (refine fD (by rfl) ?_; dsimp only)); at_builtin; refine Kd.nP IZ (w0 := w) w.heap.size rfl (.tmp 177) (.tmp 181) 61 81 (.agg #[(.int .i64 0), (.string ⟨#[]⟩), (.int .i64 0)]) 32 rfl Try.underlying61 Hq rfl (by decide) (by omega) u5 gY (⟨0, (⟨#[]⟩ : ByteArray), (a0.size : Int)⟩ : iJ) [.int .i64 0, .string (⟨#[]⟩ : ByteArray), .int .i64 (a0.size : Int)] (fun _ => True) (fun _ => False) rfl rfl ?aP (fun _ hk => hk.elim) ?aF ?aO ?aB ?aS ?aL ?_; (case aP => exact Cf _ _ _ (⟨0, (⟨#[]⟩ : ByteArray), (a0.size : Int)⟩ : iJ)); (case aB => exact kU); (case aF => exact (fun _ _ => trivial)); (case aO => exact (zr rU.out)); (case aS => exact (aT kU)); (case aL => have := aRa.out; omega); intro bPH w96 ho hb hg hat; rw [← aRb.out] at ho; replace HB := za (hb); have aRc := za (ho); clear rU; clear ho hb hg hat))
      go_ret3
      exact ⟨_, jR, by (with_reducible repeat (first | apply Kd.bC | apply Kd.bF | apply Kd.bP)); exact aRc.out, kU⟩
end Go.Proofs.Ytiaeldibklcobaa.eZ
