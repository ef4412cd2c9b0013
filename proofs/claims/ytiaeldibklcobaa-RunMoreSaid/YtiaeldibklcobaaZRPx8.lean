import Derived.Test.YtiaeldibklcobaaZRPx7
namespace Go.Proofs.Ytiaeldibklcobaa.eZ
open Go.RowKit Go.Proofs.YtiaeldibklcobaaW.bL Go.Proofs.YtiaeldibklcobaaW.fV Go.Proofs.YtiaeldibklcobaaW.iZ
set_option maxHeartbeats 8000000
set_option maxRecDepth 100000
attribute [local go_sem] kL kM lX lY jC jD kN kP
set_option linter.unusedVariables false
set_option linter.unusedSimpArgs false
def dY.T3 : Bool × List (List Nat × List Nat) := (true, [([], []), ([0], [0]), ([1], [1]), ([2], [2]), ([], []), ([4], [4]), ([5], [5]), ([6], [6]), ([3, 7], [3, 7]), ([8], [8]), ([], []), ([10, 9, 0, 1, 2, 3, 4, 5, 6, 7, 8, 9, 10], [9, 10])])
def dY.B3 : List Nat := [0, 1, 3, 7, 0, 16, 48, 112, 255, 511, 0, 2047]
theorem dY.bI7 : oL .any (opsOf Try.f68 3) = dY.T3 := by kernel_rfl
theorem dY.aRQ : kH dY.T3.2 dY.B3 = true := by kernel_rfl
def dY.T20 : Bool × List (List Nat × List Nat) := (true, [([], []), ([], []), ([1], [1]), ([2], [2]), ([], []), ([4], [4]), ([3, 5], [3, 5]), ([6], [6]), ([0, 7, 3], [0, 7]), ([8, 8, 0, 1, 2, 3, 4, 5, 6, 7, 8], [8])])
def dY.B20 : List Nat := [0, 0, 2, 6, 0, 16, 62, 126, 255, 511]
theorem dY.aBf : oL .any (opsOf Try.f68 20) = dY.T20 := by kernel_rfl
theorem dY.I1 : kH dY.T20.2 dY.B20 = true := by kernel_rfl
theorem dY.step (k : Nat) (Rm : aG (∀ m, m < k → ∀ (g : Nat) (aK : List (iJ)) (aX : Int) (bM : Int) (bN : Int) (bQ : Int) (gZ : Nat → Prop) (dK : Value) (l1 : List (dP)) (r1 : List (dP)) (r2 : Int) (r3 : Int) (r4 : Int) (r5 : Int) (w0 w : World) (hI : aH w0 w g aK aX bM bN bQ) (hB : Below w0.heap.size w0 w) (ho1 : Kd.R gU 112 w w0.heap.size gZ dK l1) (h : dY.f m aK aX bM bN bQ l1 = some (r1, r2, r3, r4, r5)),
  Calls Try.prog 68 #[.pointer (some ⟨g, 0, none⟩), dK] w fun e w' => ∃ lZ : Value, e = .returned (lZ) ∧ Kd.R gU 112 w' w0.heap.size (fun k_ => (gZ k_ ∨ w.heap.size ≤ k_)) lZ r1 ∧ aH w0 w' g aK r2 r3 r4 r5 ∧ Below w0.heap.size w0 w' ∧ Kept w w' (fun k_ => (gZ k_) ∨ k_ = g))) (K_ : aG (∀ m, m < k → ∀ (g : Nat) (aK : List (iJ)) (aX : Int) (bM : Int) (bN : Int) (bQ : Int) (gZ : Nat → Prop) (dK : Value) (l1 : List (dP)) (r1 : List (dP)) (r2 : Int) (r3 : Int) (r4 : Int) (r5 : Int) (w0 w : World) (hI : aH w0 w g aK aX bM bN bQ) (hB : Below w0.heap.size w0 w) (ho1 : Kd.R gU 112 w w0.heap.size gZ dK l1) (h : fZ.f m aK aX bM bN bQ l1 = some (r1, r2, r3, r4, r5)),
  Calls Try.prog 49 #[.pointer (some ⟨g, 0, none⟩), dK] w fun e w' => ∃ lZ : Value, e = .returned (lZ) ∧ Kd.R gU 112 w' w0.heap.size (fun k_ => (gZ k_ ∨ w.heap.size ≤ k_)) lZ r1 ∧ aH w0 w' g aK r2 r3 r4 r5 ∧ Below w0.heap.size w0 w' ∧ Kept w w' (fun k_ => (gZ k_) ∨ k_ = g))) (UE : aG (∀ m, m < k → ∀ (g : Nat) (aK : List (iJ)) (aX : Int) (bM : Int) (bN : Int) (bQ : Int) (gZ : Nat → Prop) (dK : Value) (l1 : List (dP)) (r1 : List (dP)) (r2 : Int) (r3 : Int) (r4 : Int) (r5 : Int) (w0 w : World) (hI : aH w0 w g aK aX bM bN bQ) (hB : Below w0.heap.size w0 w) (ho1 : Kd.R gU 112 w w0.heap.size gZ dK l1) (h : kT.f m aK aX bM bN bQ l1 = some (r1, r2, r3, r4, r5)),
  Calls Try.prog 56 #[.pointer (some ⟨g, 0, none⟩), dK] w fun e w' => ∃ lZ : Value, e = .returned (lZ) ∧ Kd.R gU 112 w' w0.heap.size (fun k_ => (gZ k_ ∨ w.heap.size ≤ k_)) lZ r1 ∧ aH w0 w' g aK r2 r3 r4 r5 ∧ Below w0.heap.size w0 w' ∧ Kept w w' (fun k_ => (gZ k_) ∨ k_ = g))) (KT : aG (∀ m, m < k → ∀ (g : Nat) (aK : List (iJ)) (aX : Int) (bM : Int) (bN : Int) (bQ : Int) (gZ : Nat → Prop) (dK : Value) (l1 : List (dP)) (r1 : List (dP)) (r2 : Int) (r3 : Int) (r4 : Int) (r5 : Int) (w0 w : World) (hI : aH w0 w g aK aX bM bN bQ) (hB : Below w0.heap.size w0 w) (ho1 : Kd.R gU 112 w w0.heap.size gZ dK l1) (h : iN.f m aK aX bM bN bQ l1 = some (r1, r2, r3, r4, r5)),
  Calls Try.prog 65 #[.pointer (some ⟨g, 0, none⟩), dK] w fun e w' => ∃ lZ : Value, e = .returned (lZ) ∧ Kd.R gU 112 w' w0.heap.size (fun k_ => (gZ k_ ∨ w.heap.size ≤ k_)) lZ r1 ∧ aH w0 w' g aK r2 r3 r4 r5 ∧ Below w0.heap.size w0 w' ∧ Kept w w' (fun k_ => (gZ k_) ∨ k_ = g))) : ∀ (g : Nat) (aK : List (iJ)) (aX : Int) (bM : Int) (bN : Int) (bQ : Int) (gZ : Nat → Prop) (dK : Value) (l1 : List (dP)) (r1 : List (dP)) (r2 : Int) (r3 : Int) (r4 : Int) (r5 : Int) (w0 w : World) (hI : aH w0 w g aK aX bM bN bQ) (hB : Below w0.heap.size w0 w) (ho1 : Kd.R gU 112 w w0.heap.size gZ dK l1) (h : dY.f k aK aX bM bN bQ l1 = some (r1, r2, r3, r4, r5)),
  Calls Try.prog 68 #[.pointer (some ⟨g, 0, none⟩), dK] w fun e w' => ∃ lZ : Value, e = .returned (lZ) ∧ Kd.R gU 112 w' w0.heap.size (fun k_ => (gZ k_ ∨ w.heap.size ≤ k_)) lZ r1 ∧ aH w0 w' g aK r2 r3 r4 r5 ∧ Below w0.heap.size w0 w' ∧ Kept w w' (fun k_ => (gZ k_) ∨ k_ = g) := by
 intro g aK aX bM bN bQ gZ dK l1 r1 r2 r3 r4 r5 w0 w hI hB ho1 h
 cases k with
 | zero => exact absurd h (by simp [dY.f])
 | succ k =>
 simp only [dY.f] at h
 have aES := Try.underlying81
 have aRN := Try.underlying112
 have Oi := za (show Kd.R gU 112 w w0.heap.size (fun k_ => (gZ k_ ∨ w.heap.size ≤ k_)) dK l1 from Kd.aQ ho1 (fun k_ hk => (.inl hk)))
 have HI0 := za hI
 have HL := za hB.size
 clear hI
 have HK := za (Kept.refl w (fun k_ => (gZ k_) ∨ k_ = g))
 have HW0 := za hB.size
 have HB := za hB
 clear hB
 have H : (if bN = 0 then (if 0 ≤ aX then (if aX < (aK.length : Int) then ((nN.f aK aX bM bN bQ (⟨#[45]⟩ : ByteArray)).bind fun wD => (if wD.1 = true then (dY.j0 k l1 true aK wD.2.1 wD.2.2.1 wD.2.2.2.1 wD.2.2.2.2 ((cK aK aX).f0) ((cK aK aX).f1) ((cK aK aX).f2)) else ((nN.f aK wD.2.1 wD.2.2.1 wD.2.2.2.1 wD.2.2.2.2 (⟨#[33]⟩ : ByteArray)).bind fun Ic => (dY.j0 k l1 Ic.1 aK Ic.2.1 Ic.2.2.1 Ic.2.2.2.1 Ic.2.2.2.2 ((cK aK aX).f0) ((cK aK aX).f1) ((cK aK aX).f2))))) else (none)) else (none)) else (some (l1, aX, bM, bN, bQ))) = some (r1, r2, r3, r4, r5) := h
 clear h
 have Zk := za H
 clear H
 obtain ⟨aAN, aAO, uQ, aAP, H7⟩ := HI0.out
 have aAQ := fI uQ
 have aAR := fJ uQ
 have aAS := fK uQ
 have aAT := fM uQ
 have aAU := fG uQ
 have aAV := aD uQ 1
 have aAW := aD uQ 2
 have aAX := aD uQ 3
 have aAY := aD uQ 4
 clear uQ aAP
 go_enter Try.func68, Try.ntmps68
 go_upto_if 13 with (fail)
 have H := Zk.out
 clear Zk
 revert H; refine oW (fun zG TB H => ?_) (fun c5 zG TB H => ?_)
 ·
  (first | rw [zG] | (simp only [dO, dQ]; rw [zG]) | skip)
  revert H; refine yX fun Mj H => ?_
  revert H; refine yX fun Bu H => ?_
  have HC8 := za H
  clear H
  try go_wp2
  replace Oi := Ao Oi
  replace HI0 := za (aH.drew HI0.out)
  replace HK := za (Kept.drew HK.out)
  replace HB := za (bK HB.out)
  obtain ⟨bBT, aGe, KU, aRR, aGf⟩ := HI0.out
  have aBg := fI KU
  have aBh := fJ KU
  have aBi := fK KU
  have aBj := fM KU
  have aBk := fG KU
  clear KU aRR
  have aLW : 0 ≤ (aX : Int) := of_decide_eq_true iL
  have aLX : aX < (aK.length : Int) := of_decide_eq_true iL
  obtain ⟨KV, e242, Rn, Ro, Rp⟩ := Hr aGf aX aLW aLX
  have bBU := Rp
  have bBV := Ro
  have bBW := Rn
  cases e242
  replace Rn := bR HB.out Rn
  replace Ro := bR HB.out Ro
  replace Rp := bR HB.out Rp
  replace aLW := eq_true aLW
  replace aLX := eq_true aLX
  refine lW (n := 12) (S := fun w' => w'.cell? ⟨g, 0, none⟩ = some (.slice (some KV) aK.length aGe) ∧ w'.cell? ⟨g, 1, none⟩ = some (.int .i64 aX) ∧ w'.cell? ⟨g, 2, none⟩ = some (.int .i64 bM) ∧ w'.cell? ⟨g, 3, none⟩ = some (.int .i64 bN) ∧ w'.cell? ⟨g, 4, none⟩ = some (.int .i64 bQ) ∧ w'.cell? (KV.add ((aX).toNat * 3)) = some (.int .i64 ((cK aK aX).f0)) ∧ w'.cell? ⟨(KV.add ((aX).toNat * 3)).block, (KV.add ((aX).toNat * 3)).off + 1, none⟩ = some (.string ((cK aK aX).f1)) ∧ w'.cell? ⟨(KV.add ((aX).toNat * 3)).block, (KV.add ((aX).toNat * 3)).off + 2, none⟩ = some (.int .i64 ((cK aK aX).f2))) (ds := [11]) #[false, false, false, false, false, false, false, false, false, false, false, false] dU rfl rfl ⟨aBg, aBh, aBi, aBj, aBk, Rn, Ro, Rp⟩ (fun hHeld => ?_); refine gX dY.bI7 dY.aRQ (fun dB qB => ?_)
  generalize w.drew = w9 at Oi HI0 HK HB aBg aBh aBi aBj aBk Rn Ro Rp hHeld ⊢
  refine gV 0 (some 15) dB ?_
  refine gV 1 (some 16) dB ?_
  refine gV 2 (some 17) dB ?_
  refine gV 4 (some 19) dB ?_
  refine gV 5 (some 20) dB ?_
  refine gV 6 (some 21) dB ?_
  refine vP 3 (some 18) dB qB hHeld ?_
  refine vP 7 (some 22) dB qB hHeld ?_
  refine gV 8 (some 23) dB ?_
  refine vP 9 (some 24) dB qB hHeld ?_
  refine Cn 10 (some 5) dB (fun K hK => ?_)
  refine uM ?hg (N := 5) ?hd (cs := #[.int .i64 0, .string (⟨#[]⟩ : ByteArray), .int .i64 0]) (t := 81) ?hr ?_; (case hd => rfl); (case hg => rfl); (case hr => exact jA)
  intro zB hg OY gP hb
  have Om := zH8 hb hHeld
  replace Oi := qF Oi hb
  have fQ := za (gP)
  have aJq := za ((by rw [hg]; exact Hy : w.heap.size ≤ zB))
  replace HK := za (Kept.below (S := (fun k_ => (gZ k_) ∨ k_ = g)) Dm hb)
  have aPn := za ((by rw [hg]; exact (aT qJ) : w0.heap.size ≤ zB))
  replace HB := za (aM qJ hb)
  have Fx := za ((by rw [hg]; exact Nat.ne_of_lt (aH.lt (show aH w0 _ g aK aX bM bN bQ from mZ)) : g ≠ zB))
  have mR := za ((by rw [hg]; exact Nat.ne_of_gt (aH.lt (show aH w0 _ g aK aX bM bN bQ from mZ)) : zB ≠ g))
  replace HI0 := za (aH.below mZ hb)
  clear hb gP hg
  refine hK.out _ _ Om (fun hHeld => ?_)
  clear hK K
  refine jS (a' := ?_) ?_ ?_
  rotate_left
  ·
   show Act.put _ (some 5) _ = _
   simp only [Act.put, List.setIfInBounds_toArray, List.set_cons_zero, List.set_cons_succ, dO, dQ]
   rfl
  refine Mo (i := 11) (N := none) #[true, true, true, true, true, true, true, true, true, true, true, true] rfl rfl (Ad dB.out dU) (by decide) (fun K hK => ?_)
  have bIX : OY.cell? ⟨zB, 0, none⟩ = some (.int .i64 0) := (aA fQ.out 0).trans rfl
  have aRj := aD fQ.out 0
  have bI8 : OY.cell? ⟨zB, 1, none⟩ = some (.string (⟨#[]⟩ : ByteArray)) := (aA fQ.out 1).trans rfl
  have aRS := aD fQ.out 1
  have bI9 : OY.cell? ⟨zB, 2, none⟩ = some (.int .i64 0) := (aA fQ.out 2).trans rfl
  have aRT := aD fQ.out 2
  refine Cb (w1 := ?_) (by rfl) rfl ?_ ?_
  rotate_left
  ·
   go_simp
   rfl
  refine hK.out _ _ ?_
  clear hK K
  refine pO (jX dB.out dU) ?_
  go_upto_region 4 with (fail)
  go_cut [25] (fun v25 wc => ∃ (kq : Nat) (aBl : Bool) (zH : Int) (zI : Int) (zJ : Int) (zK : Int), v25 = .bool aBl ∧ aG (dY.j0 kq l1 aBl aK zH zI zJ zK ((cK aK aX).f0) ((cK aK aX).f1) ((cK aK aX).f2) = some (r1, r2, r3, r4, r5)) ∧ aG (kq ≤ k) ∧ aG (Kd.R gU 112 wc w0.heap.size (fun k_ => (gZ k_ ∨ w.heap.size ≤ k_)) dK l1) ∧ aG (wc.heap[zB]? = some (.cells #[.int .i64 ((cK aK aX).f0), .string ((cK aK aX).f1), .int .i64 ((cK aK aX).f2)] 81 (0, 0))) ∧ aG (aH w0 wc g aK zH zI zJ zK) ∧ aG (Kept w wc (fun k_ => (gZ k_) ∨ k_ = g)) ∧ aG (Below w0.heap.size w0 wc))
  case first =>
   have H := HC8.out
   clear HC8
   replace H := jT H
   obtain ⟨⟨t244, t245, t246, t247, t248⟩, A15, H⟩ := H
   (try dsimp only at H)
   replace H := Bq H
   rcases H with ⟨rfl, H⟩ | ⟨rfl, H⟩
   ·
    have H' := za H
    clear H
    go_wp2_with (first | ((with_reducible refine zg 35 rfl ?_); refine kZ (some 27) Try.func35 #[.pointer (some ⟨g, 0, none⟩), .string (⟨#[45]⟩ : ByteArray)] ?_; refine (nN.calls g aK aX bM bN bQ (⟨#[45]⟩ : ByteArray) true t245 t246 t247 t248 w0 _ Hd vI A15.out).mono ?_; rintro e L_ ⟨rfl, hi, hb, hk⟩; refine ⟨_, rfl, ?_⟩; replace Oi := za (Kd.aQ (Kd.fC (aH.apart (show aH w0 _ g aK aX bM bN bQ from Hd) aJG (by decide)) hk (fun _ h => h.2)) (fun _ h => h.1)); replace fQ := nE hk (zP3 fQ.out) mR; replace HK := za (Kept.nT (S := (fun k_ => (gZ k_) ∨ k_ = g)) wP hk (.inl (.inr rfl))); replace HB := za (hb); replace HI0 := za (hi)))
    go_meet
    case rel => exact ⟨_, (true), (t245), (t246), (t247), (t248), jG, H', ⟨Cm⟩, ⟨aAp⟩, ⟨aJU⟩, ⟨Hd⟩, ⟨wP⟩, ⟨vI⟩⟩
   ·
    replace H := jT H
    obtain ⟨⟨t249, aRU, aRV, aRW, aRX⟩, UF, H⟩ := H
    (try dsimp only at H)
    have H' := za H
    clear H
    go_wp2_with (first | ((with_reducible refine zg 35 rfl ?_); refine kZ (some 27) Try.func35 #[.pointer (some ⟨g, 0, none⟩), .string (⟨#[45]⟩ : ByteArray)] ?_; refine (nN.calls g aK aX bM bN bQ (⟨#[45]⟩ : ByteArray) false t245 t246 t247 t248 w0 _ Hd vI A15.out).mono ?_; rintro e w19 ⟨rfl, hi, hb, hk⟩; refine ⟨_, rfl, ?_⟩; replace Oi := za (Kd.aQ (Kd.fC (aH.apart (show aH w0 _ g aK aX bM bN bQ from Hd) aJG (by decide)) hk (fun _ h => h.2)) (fun _ h => h.1)); replace fQ := nE hk (zP3 fQ.out) mR; replace HK := za (Kept.nT (S := (fun k_ => (gZ k_) ∨ k_ = g)) wP hk (.inl (.inr rfl))); replace HB := za (hb); replace HI0 := za (hi)) | ((with_reducible refine gL (f := 35) rfl ?_); (with_reducible refine bO (N := 30) rfl ?_); (refine fD (by rfl) ?_; dsimp only); refine nQ (some 30) rfl rfl Try.func35 dU rfl #[.pointer (some ⟨g, 0, none⟩), .string (⟨#[33]⟩ : ByteArray)] rfl Fb ?_; (with_reducible refine (nN.calls g aK t245 t246 t247 t248 (⟨#[33]⟩ : ByteArray) t249 aRU aRV aRW aRX w0 _ ?side1 ?side2 UF.out).mono ?_); (case side1 => exact Hd); (case side2 => exact vI); rintro e w20 ⟨rfl, hi, hb, hk⟩; refine ⟨_, rfl, ?_⟩; replace Oi := za (Kd.aQ (Kd.fC (aH.apart (show aH w0 _ g aK t245 t246 t247 t248 from Hd) (zr Oi.out) (by decide)) hk (fun _ h => h.2)) (fun _ h => h.1)); replace fQ := nE hk (zb fQ.out) mR; replace HK := za (Kept.nT (S := (fun k_ => (gZ k_) ∨ k_ = g)) wP hk (.inl (.inr rfl))); replace HB := za (hb); replace HI0 := za (hi)))
    go_meet
    case rel => exact ⟨_, (t249), (aRU), (aRV), (aRW), (aRX), jG, H', ⟨Cm⟩, ⟨aAp⟩, ⟨aJU⟩, ⟨Hd⟩, ⟨wP⟩, ⟨vI⟩⟩
  case rest =>
   clear HC8
   obtain ⟨kq, aBl, zH, zI, zJ, zK, rfl, HA, HJ7, iW, fQ, HI0, HK, HB⟩ := hcut
   cases kq with
   | zero => exact absurd HA.out (by simp [dY.j0])
   | succ kj7 =>
    have H := HA.out
    clear HA
    simp only [dY.j0] at H
    replace H := Bq H
    rcases H with ⟨rfl, H⟩ | ⟨rfl, H⟩
    ·
     have UG := za H
     clear H
     have aRY := mR.out
     have aRZ := Fx.out
     obtain ⟨NS, NT, NU⟩ := Zi fQ.out
     obtain ⟨aGg, NV, NW⟩ := Xk fQ.out
     go_upto_if 34 with (fail)
     have H := UG.out
     clear UG
     revert H; refine oW (fun KD aR0 H => ?_) (fun c25 KD aR0 H => ?_)
     ·
      (first | rw [KD] | (simp only [dO, dQ]; rw [KD]) | skip)
      replace H := jT H
      obtain ⟨⟨aR1, aR2, aR3, aR4⟩, A26, H⟩ := H
      (try dsimp only at H)
      replace H := jT H
      obtain ⟨⟨UH, aR5, aR6, aR7, aR8⟩, A27, H⟩ := H
      (try dsimp only at H)
      revert H; refine IP fun aR9 H => ?_
      obtain ⟨bJa, UI⟩ : ∃ y_ : List (dP), y_ = (UH ++ [(⟨4, 0, (⟨#[]⟩ : ByteArray), (⟨#[]⟩ : ByteArray), wrap64 ((UH.length : Int) - 1), (-1), ((cK aK aX).f2)⟩ : dP)]) := ⟨_, rfl⟩
      replace H : (some (bJa, aR5, wrap64 (aR6 - 1), aR7, aR8)) = some (r1, r2, r3, r4, r5) := by first | (rw [UI]; with_reducible exact H) | (have lS := (Option.bind_some _ _).symm.trans H; rw [UI]; with_reducible exact lS) | (have lS := (Option.bind_some _ _).symm.trans H; with_reducible exact lS) | with_reducible exact H | (rw [UI]; exact H) | exact H
      have aSa := za UI
      clear UI
      simp only [Option.some.injEq, Prod.mk.injEq] at H
      obtain ⟨rfl, rfl, rfl, rfl, rfl⟩ := H
      have bOg := mR.out
      have bOh := Fx.out
      obtain ⟨aFx, aFy, aFz⟩ := Zi fQ.out
      obtain ⟨bBX, aFA, aFB⟩ := Xk fQ.out
      go_wp2_with (first | ((with_reducible refine zg 43 rfl ?_); refine kZ (some 38) Try.func43 #[.pointer (some ⟨g, 0, none⟩), .string ((cK aK aX).f1)] ?_; refine (gW.calls kj7 g aK zH zI zJ zK ((cK aK aX).f1) aR1 aR2 aR3 aR4 w0 _ Hd vI A26.out).mono ?_; rintro e w31 ⟨rfl, hi, hb, hk⟩; refine ⟨_, rfl, ?_⟩; replace iW := za (Kd.aQ (Kd.fC (aH.apart (show aH w0 _ g aK zH zI zJ zK from Hd) (zr iW.out) (by decide)) hk (fun _ h => h.2)) (fun _ h => h.1)); replace fQ := nE hk (zb fQ.out) mR; replace HK := za (Kept.nT (S := (fun k_ => (gZ k_) ∨ k_ = g)) wP hk (.inl (.inr rfl))); replace HB := za (hb); replace HI0 := za (hi); (try clear hb hk hi); obtain ⟨aLY, aLZ, bJb⟩ := Kd.bJ iW.out; subst bJb) | ((with_reducible refine zg 68 rfl ?_); refine kZ (some 41) Try.func68 #[.pointer (some ⟨g, 0, none⟩), .slice aLY l1.length aLZ] ?_; refine (Rm.out kj7 (by have := HJ7.out; omega) g aK aR1 aR2 aR3 aR4 (fun k_ => some k_ = (.slice aLY l1.length aLZ : Value).ownBlock) (.slice aLY l1.length aLZ) l1 UH aR5 aR6 aR7 aR8 w0 _ Hd vI Qi A27.out).mono ?_; rintro e w33 ⟨bPN, rfl, ho0, hi, hb, hkp⟩; refine ⟨_, rfl, ?_⟩; replace fQ := za (pQ (zb fQ.out) hkp (fun hs_ => Or.elim hs_ (fun hs_ => (fun e_ => (Kd.nA iW.out fQ.out (by decide)) e_) hs_) (fun e_ => mR.out e_))); replace HI0 := za (hi); have KW := za (Kd.aQ (ok' := fun k_ => (gZ k_ ∨ w.heap.size ≤ k_)) ho0 (fun k_ wZ => Or.elim wZ (fun hs_ => (iW.out.1 k_ (hs_).symm)) (fun Gc => (.inr (Nat.le_trans zt Gc))))); replace HK := za (Kept.sK (S := (fun k_ => (gZ k_) ∨ k_ = g)) wP hkp (fun k_ hs_ => Or.elim hs_ (fun hs_ => (fun e_ => Or.imp_left Or.inl ((iW.out.1 k_ e_.symm))) hs_) (fun e_ => .inl (.inr e_)))); replace HB := za (hb); clear iW; (try clear hb hkp ho0); obtain ⟨bBY, bBZ, Mx, aSb, bB0⟩ := HI0.out; have OZ := fI Mx; have PD := fJ Mx; have PE := fK Mx; have M_ := fM Mx; have N_ := fG Mx; have PG := aD Mx 1; have PH := aD Mx 2; have O_ := aD Mx 3; have P_ := aD Mx 4; clear Mx aSb; obtain ⟨bJc, bJd, bJe⟩ := Kd.bJ KW.out; subst bJe; obtain ⟨PI, PK, PL⟩ := Zi fQ.out; obtain ⟨Q_, PM⟩ := zf2 fQ.out; have PN := aD fQ.out 2) | ((with_reducible refine iK (b := .append) (xs := #[.tmp 49, .tmp 57]) rfl ?_); at_builtin; refine Kd.nP gU (w0 := w0) w0.heap.size rfl (.tmp 49) (.tmp 57) 91 112 (.agg #[(.int .i64 0), (.int .i64 0), (.string ⟨#[]⟩), (.string ⟨#[]⟩), (.int .i64 0), (.int .i64 0), (.int .i64 0)]) 72 rfl Try.underlying91 Qe rfl (by decide) (by omega) (.slice bJc UH.length bJd) UH (⟨4, 0, (⟨#[]⟩ : ByteArray), (⟨#[]⟩ : ByteArray), wrap64 ((UH.length : Int) - 1), (-1), ((cK aK aX).f2)⟩ : dP) [.int .i64 4, .int .i64 0, .string (⟨#[]⟩ : ByteArray), .string (⟨#[]⟩ : ByteArray), .int .i64 (wrap64 ((UH.length : Int) - 1)), .int .i64 (-1), .int .i64 ((cK aK aX).f2)] (fun k_ => (gZ k_ ∨ w.heap.size ≤ k_)) (fun _ => False) rfl jA ?aP (fun _ hk => hk.elim) ?aF ?aO ?aB ?aS ?aL ?_; (case aP => exact Ht _ _ _ (⟨4, 0, (⟨#[]⟩ : ByteArray), (⟨#[]⟩ : ByteArray), wrap64 ((UH.length : Int) - 1), (-1), ((cK aK aX).f2)⟩ : dP)); (case aB => exact vI); (case aF => exact (fun k_ hk => (.inr (Nat.le_trans (show Kept w _ (fun k_ => (gZ k_) ∨ k_ = g) from wP).1 hk)))); (case aO => exact (by (with_reducible repeat (first | apply Kd.bC | apply Kd.bF | apply Kd.bP)); exact Kd.aQ (RL (aH.apart HI0.out KW.out (by decide)) (fun _ hk => hk.2)) (fun _ hk => hk.1))); (case aS => exact (aT vI)); (case aL => have := aR9.out; omega); intro bPO w37 ho hb hg hat; rw [← aSa.out] at ho; replace fQ := za (eD (g := zB) (Vp fQ.out mR.out) hg (Kd.nA KW.out fQ.out (by decide))); replace HI0 := za (aH.grown Hd hg (aH.own_ne HI0.out KW.out (by decide))); replace HB := za (hb); replace HK := za (Kept.mV (S := (fun k_ => (gZ k_) ∨ k_ = g)) hg wP (fun k_ e_ => Or.imp_left Or.inl ((KW.out.1 k_ e_)))); have aSc := za (ho); clear KW; clear ho hb hg hat))
      go_ret
      exact ⟨_, jR, by (with_reducible repeat (first | apply Kd.bC | apply Kd.bF | apply Kd.bP)); exact aSc.out, Hd, vI, wP⟩
     ·
      (first | rw [KD] | (simp only [dO, dQ]; rw [KD]) | skip)
      replace H := jT H
      obtain ⟨⟨aSd, aSe, aSf, aSg⟩, A38, H⟩ := H
      (try dsimp only at H)
      replace H := jT H
      obtain ⟨⟨UJ, aSh, aSi, aSj, aSk⟩, A39, H⟩ := H
      (try dsimp only at H)
      revert H; refine IP fun aSl H => ?_
      obtain ⟨bJf, UK⟩ : ∃ y_ : List (dP), y_ = (UJ ++ [(⟨3, 0, (⟨#[]⟩ : ByteArray), (⟨#[]⟩ : ByteArray), wrap64 ((UJ.length : Int) - 1), (-1), ((cK aK aX).f2)⟩ : dP)]) := ⟨_, rfl⟩
      replace H : (some (bJf, aSh, wrap64 (aSi - 1), aSj, aSk)) = some (r1, r2, r3, r4, r5) := by first | (rw [UK]; with_reducible exact H) | (have lS := (Option.bind_some _ _).symm.trans H; rw [UK]; with_reducible exact lS) | (have lS := (Option.bind_some _ _).symm.trans H; with_reducible exact lS) | with_reducible exact H | (rw [UK]; exact H) | exact H
      have aSm := za UK
      clear UK
      simp only [Option.some.injEq, Prod.mk.injEq] at H
      obtain ⟨rfl, rfl, rfl, rfl, rfl⟩ := H
      have aRu := mR.out
      have aRv := Fx.out
      obtain ⟨l_, m_, n_⟩ := Zi fQ.out
      obtain ⟨o_, p_, r_⟩ := Xk fQ.out
      go_wp2_with (first | ((with_reducible refine zg 43 rfl ?_); refine kZ (some 38) Try.func43 #[.pointer (some ⟨g, 0, none⟩), .string ((cK aK aX).f1)] ?_; refine (gW.calls kj7 g aK zH zI zJ zK ((cK aK aX).f1) aSd aSe aSf aSg w0 _ Hd vI A38.out).mono ?_; rintro e w43 ⟨rfl, hi, hb, hk⟩; refine ⟨_, rfl, ?_⟩; replace iW := za (Kd.aQ (Kd.fC (aH.apart (show aH w0 _ g aK zH zI zJ zK from Hd) (zr iW.out) (by decide)) hk (fun _ h => h.2)) (fun _ h => h.1)); replace fQ := nE hk (zb fQ.out) mR; replace HK := za (Kept.nT (S := (fun k_ => (gZ k_) ∨ k_ = g)) wP hk (.inl (.inr rfl))); replace HB := za (hb); replace HI0 := za (hi); (try clear hb hk hi); obtain ⟨aL0, aL1, bJg⟩ := Kd.bJ iW.out; subst bJg) | ((with_reducible refine zg 68 rfl ?_); refine kZ (some 41) Try.func68 #[.pointer (some ⟨g, 0, none⟩), .slice aL0 l1.length aL1] ?_; refine (Rm.out kj7 (by have := HJ7.out; omega) g aK aSd aSe aSf aSg (fun k_ => some k_ = (.slice aL0 l1.length aL1 : Value).ownBlock) (.slice aL0 l1.length aL1) l1 UJ aSh aSi aSj aSk w0 _ Hd vI Qi A39.out).mono ?_; rintro e w45 ⟨bPP, rfl, ho0, hi, hb, hkp⟩; refine ⟨_, rfl, ?_⟩; replace fQ := za (pQ (zb fQ.out) hkp (fun hs_ => Or.elim hs_ (fun hs_ => (fun e_ => (Kd.nA iW.out fQ.out (by decide)) e_) hs_) (fun e_ => mR.out e_))); replace HI0 := za (hi); have KX := za (Kd.aQ (ok' := fun k_ => (gZ k_ ∨ w.heap.size ≤ k_)) ho0 (fun k_ wZ => Or.elim wZ (fun hs_ => (iW.out.1 k_ (hs_).symm)) (fun Gc => (.inr (Nat.le_trans zt Gc))))); replace HK := za (Kept.sK (S := (fun k_ => (gZ k_) ∨ k_ = g)) wP hkp (fun k_ hs_ => Or.elim hs_ (fun hs_ => (fun e_ => Or.imp_left Or.inl ((iW.out.1 k_ e_.symm))) hs_) (fun e_ => .inl (.inr e_)))); replace HB := za (hb); clear iW; (try clear hb hkp ho0); obtain ⟨bB1, bB2, Na, aSn, bB3⟩ := HI0.out; have aGh := fI Na; have aGi := fJ Na; have aGj := fK Na; have aGk := fM Na; have aGl := fG Na; have aGm := aD Na 1; have aGn := aD Na 2; have aGo := aD Na 3; have aGp := aD Na 4; clear Na aSn; obtain ⟨bJh, aSo, aGq⟩ := Kd.bJ KX.out; subst aGq; obtain ⟨aFF, aFG, aFH⟩ := Zi fQ.out; obtain ⟨bB4, aFI⟩ := zf2 fQ.out; have aFJ := aD fQ.out 2) | ((with_reducible refine iK (b := .append) (xs := #[.tmp 49, .tmp 57]) rfl ?_); at_builtin; refine Kd.nP gU (w0 := w0) w0.heap.size rfl (.tmp 49) (.tmp 57) 91 112 (.agg #[(.int .i64 0), (.int .i64 0), (.string ⟨#[]⟩), (.string ⟨#[]⟩), (.int .i64 0), (.int .i64 0), (.int .i64 0)]) 72 rfl Try.underlying91 Qe rfl (by decide) (by omega) (.slice bJh UJ.length aSo) UJ (⟨3, 0, (⟨#[]⟩ : ByteArray), (⟨#[]⟩ : ByteArray), wrap64 ((UJ.length : Int) - 1), (-1), ((cK aK aX).f2)⟩ : dP) [.int .i64 3, .int .i64 0, .string (⟨#[]⟩ : ByteArray), .string (⟨#[]⟩ : ByteArray), .int .i64 (wrap64 ((UJ.length : Int) - 1)), .int .i64 (-1), .int .i64 ((cK aK aX).f2)] (fun k_ => (gZ k_ ∨ w.heap.size ≤ k_)) (fun _ => False) rfl jA ?aP (fun _ hk => hk.elim) ?aF ?aO ?aB ?aS ?aL ?_; (case aP => exact Ht _ _ _ (⟨3, 0, (⟨#[]⟩ : ByteArray), (⟨#[]⟩ : ByteArray), wrap64 ((UJ.length : Int) - 1), (-1), ((cK aK aX).f2)⟩ : dP)); (case aB => exact vI); (case aF => exact (fun k_ hk => (.inr (Nat.le_trans (show Kept w _ (fun k_ => (gZ k_) ∨ k_ = g) from wP).1 hk)))); (case aO => exact (by (with_reducible repeat (first | apply Kd.bC | apply Kd.bF | apply Kd.bP)); exact Kd.aQ (RL (aH.apart HI0.out KX.out (by decide)) (fun _ hk => hk.2)) (fun _ hk => hk.1))); (case aS => exact (aT vI)); (case aL => have := aSl.out; omega); intro bPQ w49 ho hb hg hat; rw [← aSm.out] at ho; replace fQ := za (eD (g := zB) (Vp fQ.out mR.out) hg (Kd.nA KX.out fQ.out (by decide))); replace HI0 := za (aH.grown Hd hg (aH.own_ne HI0.out KX.out (by decide))); replace HB := za (hb); replace HK := za (Kept.mV (S := (fun k_ => (gZ k_) ∨ k_ = g)) hg wP (fun k_ e_ => Or.imp_left Or.inl ((KX.out.1 k_ e_)))); have aSp := za (ho); clear KX; clear ho hb hg hat))
      go_ret
      exact ⟨_, jR, by (with_reducible repeat (first | apply Kd.bC | apply Kd.bF | apply Kd.bP)); exact aSp.out, Hd, vI, wP⟩
    ·
     replace H := jT H
     obtain ⟨⟨bJi, Oo, PO, PQ, PR⟩, A50, H⟩ := H
     (try dsimp only at H)
     have aBm := za H
     clear H
     go_upto_if 59 with (first | ((with_reducible refine zg 35 rfl ?_); refine kZ (some 61) Try.func35 #[.pointer (some ⟨g, 0, none⟩), .string (⟨#[40]⟩ : ByteArray)] ?_; refine (nN.calls g aK zH zI zJ zK (⟨#[40]⟩ : ByteArray) bJi Oo PO PQ PR w0 _ Hd vI A50.out).mono ?_; rintro e w52 ⟨rfl, hi, hb, hk⟩; refine ⟨_, rfl, ?_⟩; replace iW := za (Kd.aQ (Kd.fC (aH.apart (show aH w0 _ g aK zH zI zJ zK from Hd) (zr iW.out) (by decide)) hk (fun _ h => h.2)) (fun _ h => h.1)); replace fQ := nE hk (zb fQ.out) mR; replace HK := za (Kept.nT (S := (fun k_ => (gZ k_) ∨ k_ = g)) wP hk (.inl (.inr rfl))); replace HB := za (hb); replace HI0 := za (hi)))
     (try simp only [Act.put, List.setIfInBounds_toArray, List.set_cons_zero, List.set_cons_succ])
     have H := aBm.out
     clear aBm
     replace H := Bq H
     rcases H with ⟨rfl, H⟩ | ⟨rfl, H⟩
     ·
      replace H := jT H
      obtain ⟨⟨aSq, aSr, aSs, aSt⟩, A54, H⟩ := H
      (try dsimp only at H)
      replace H := jT H
      obtain ⟨⟨bJj, aL2, aL3, aL4, aL5⟩, A55, H⟩ := H
      (try dsimp only at H)
      replace H := jT H
      obtain ⟨⟨bJk, bJl, bJm, bJn⟩, A56, H⟩ := H
      (try dsimp only at H)
      simp only [Option.some.injEq, Prod.mk.injEq] at H
      obtain ⟨rfl, rfl, rfl, rfl, rfl⟩ := H
      go_wp2_with (first | ((with_reducible refine zg 43 rfl ?_); refine kZ (some 63) Try.func43 #[.pointer (some ⟨g, 0, none⟩), .string (⟨#[40]⟩ : ByteArray)] ?_; refine (gW.calls kj7 g aK Oo PO PQ PR (⟨#[40]⟩ : ByteArray) aSq aSr aSs aSt w0 _ Hd vI A54.out).mono ?_; rintro e w57 ⟨rfl, hi, hb, hk⟩; refine ⟨_, rfl, ?_⟩; replace iW := za (Kd.aQ (Kd.fC (aH.apart (show aH w0 _ g aK Oo PO PQ PR from Hd) (zr iW.out) (by decide)) hk (fun _ h => h.2)) (fun _ h => h.1)); replace fQ := nE hk (zb fQ.out) mR; replace HK := za (Kept.nT (S := (fun k_ => (gZ k_) ∨ k_ = g)) wP hk (.inl (.inr rfl))); replace HB := za (hb); replace HI0 := za (hi); (try clear hb hk hi); obtain ⟨qK, qL, aGr⟩ := Kd.bJ iW.out; subst aGr) | ((with_reducible refine zg 49 rfl ?_); refine kZ (some 66) Try.func49 #[.pointer (some ⟨g, 0, none⟩), .slice qK l1.length qL] ?_; refine (K_.out kj7 (by have := HJ7.out; omega) g aK aSq aSr aSs aSt (fun k_ => some k_ = (.slice qK l1.length qL : Value).ownBlock) (.slice qK l1.length qL) l1 bJj aL2 aL3 aL4 aL5 w0 _ Hd vI Qi A55.out).mono ?_; rintro e w59 ⟨bPR, rfl, ho0, hi, hb, hkp⟩; refine ⟨_, rfl, ?_⟩; replace fQ := za (pQ (zb fQ.out) hkp (fun hs_ => Or.elim hs_ (fun hs_ => (fun e_ => (Kd.nA iW.out fQ.out (by decide)) e_) hs_) (fun e_ => mR.out e_))); replace HI0 := za (hi); have aBn := za (Kd.aQ (ok' := fun k_ => (gZ k_ ∨ w.heap.size ≤ k_)) ho0 (fun k_ wZ => Or.elim wZ (fun hs_ => (iW.out.1 k_ (hs_).symm)) (fun Gc => (.inr (Nat.le_trans zt Gc))))); replace HK := za (Kept.sK (S := (fun k_ => (gZ k_) ∨ k_ = g)) wP hkp (fun k_ hs_ => Or.elim hs_ (fun hs_ => (fun e_ => Or.imp_left Or.inl ((iW.out.1 k_ e_.symm))) hs_) (fun e_ => .inl (.inr e_)))); replace HB := za (hb); clear iW) | ((with_reducible refine zg 27 rfl ?_); refine kZ (some 68) Try.func27 #[.pointer (some ⟨g, 0, none⟩), .string (⟨#[41]⟩ : ByteArray)] ?_; refine (dI.calls g aK aL2 aL3 aL4 aL5 (⟨#[41]⟩ : ByteArray) bJk bJl bJm bJn w0 _ Hd vI A56.out).mono ?_; rintro e w60 ⟨rfl, hi, hb, hk⟩; refine ⟨_, rfl, ?_⟩; replace fQ := nE hk (zb fQ.out) mR; replace aBn := za (Kd.aQ (Kd.fC (aH.apart (show aH w0 _ g aK aL2 aL3 aL4 aL5 from Hd) (zr aBn.out) (by decide)) hk (fun _ h => h.2)) (fun _ h => h.1)); replace HK := za (Kept.nT (S := (fun k_ => (gZ k_) ∨ k_ = g)) wP hk (.inl (.inr rfl))); replace HB := za (hb); replace HI0 := za (hi); (try clear hb hk hi); obtain ⟨bB5, bB6, Nb, aSu, bB7⟩ := HI0.out; have t_ := fI Nb; have u_ := fJ Nb; have v_ := fK Nb; have w_ := fM Nb; have aGs := fG Nb; have x_ := aD Nb 1; have z_ := aD Nb 2; have A_ := aD Nb 3; have aGt := aD Nb 4; clear Nb aSu))
      go_ret
      exact ⟨_, jR, by (with_reducible repeat (first | apply Kd.bC | apply Kd.bF | apply Kd.bP)); exact Kd.aQ (RL (aH.apart HI0.out aBn.out (by decide)) (fun _ hk => hk.2)) (fun _ hk => hk.1), Hd, vI, wP⟩
     ·
      have aBo := za H
      clear H
      have bOi := mR.out
      have bOj := Fx.out
      obtain ⟨bB8, bB9, bCa⟩ := Zi fQ.out
      obtain ⟨bCb, bCc, bCd⟩ := Xk fQ.out
      go_upto_if 77 with (fail)
      have H := aBo.out
      clear aBo
      revert H; refine oW (fun CW aKd H => ?_) (fun c65 CW aKd H => ?_)
      ·
       (first | rw [CW] | (simp only [dO, dQ]; rw [CW]) | skip)
       replace H := jT H
       obtain ⟨H9, A66, H⟩ := H
       (try dsimp only at H)
       revert H; refine IP fun aAH H => ?_
       obtain ⟨bJo, UL⟩ : ∃ y_ : List (dP), y_ = (l1 ++ [(⟨1, H9, (⟨#[]⟩ : ByteArray), (⟨#[]⟩ : ByteArray), (-1), (-1), ((cK aK aX).f2)⟩ : dP)]) := ⟨_, rfl⟩
       replace H : (some (bJo, wrap64 (Oo + 1), PO, PQ, PR)) = some (r1, r2, r3, r4, r5) := by first | (rw [UL]; with_reducible exact H) | (have lS := (Option.bind_some _ _).symm.trans H; rw [UL]; with_reducible exact lS) | (have lS := (Option.bind_some _ _).symm.trans H; with_reducible exact lS) | with_reducible exact H | (rw [UL]; exact H) | exact H
       have aSv := za UL
       clear UL
       simp only [Option.some.injEq, Prod.mk.injEq] at H
       obtain ⟨rfl, rfl, rfl, rfl, rfl⟩ := H
       obtain ⟨bCe, bCf, Nc, aSw, bCg⟩ := HI0.out
       have aGu := fI Nc
       have aGv := fJ Nc
       have aGw := fK Nc
       have aGx := fM Nc
       have aGy := fG Nc
       have aGz := aD Nc 1
       have aGA := aD Nc 2
       have aGB := aD Nc 3
       have aGC := aD Nc 4
       clear Nc aSw
       try go_wp2
       have Qn : aG (Kd.R gU 112 (w52.setCell ⟨g, 1, none⟩ (.int .i64 (wrap64 (Oo + 1)))) w0.heap.size (fun k_ => (gZ k_ ∨ w.heap.size ≤ k_)) dK l1) := ⟨by (with_reducible repeat (first | apply Kd.bC | apply Kd.bF | apply Kd.bP)); exact Kd.aQ (RL (aH.apart HI0.out iW.out (by decide)) (fun _ hk => hk.2)) (fun _ hk => hk.1)⟩
       have Qo : aG ((w52.setCell ⟨g, 1, none⟩ (.int .i64 (wrap64 (Oo + 1)))).heap[zB]? = some (.cells #[.int .i64 ((cK aK aX).f0), .string ((cK aK aX).f1), .int .i64 ((cK aK aX).f2)] 81 (0, 0))) := ⟨Vp fQ.out mR.out⟩
       have Qp : aG (aH w0 (w52.setCell ⟨g, 1, none⟩ (.int .i64 (wrap64 (Oo + 1)))) g aK (wrap64 (Oo + 1)) PO PQ PR) := ⟨Hd⟩
       have JG : aG (Kept w (w52.setCell ⟨g, 1, none⟩ (.int .i64 (wrap64 (Oo + 1)))) (fun k_ => (gZ k_) ∨ k_ = g)) := ⟨wP⟩
       have JH : aG (Below w0.heap.size w0 (w52.setCell ⟨g, 1, none⟩ (.int .i64 (wrap64 (Oo + 1))))) := ⟨vI⟩
       generalize (w52.setCell ⟨g, 1, none⟩ (.int .i64 (wrap64 (Oo + 1)))) = w69 at Qn Qo Qp JG JH ⊢
       have iW := Qn
       have fQ := Qo
       have HI0 := Qp
       have HK := JG
       have HB := JH
       clear Qn Qo Qp JG JH
       replace iW := Ao iW
       replace fQ := za (dE fQ.out)
       replace HI0 := za (aH.drew HI0.out)
       replace HK := za (Kept.drew HK.out)
       replace HB := za (bK HB.out)
       refine lW (n := 10) (S := fun w' => w'.cell? ⟨zB, 0, none⟩ = some (.int .i64 ((cK aK aX).f0)) ∧ w'.cell? ⟨zB, 1, none⟩ = some (.string ((cK aK aX).f1)) ∧ w'.cell? ⟨zB, 2, none⟩ = some (.int .i64 ((cK aK aX).f2))) (ds := []) #[false, false, false, false, false, false, false, false, false, false] dU rfl rfl ⟨(aA fQ.out 0).trans rfl, (aA fQ.out 1).trans rfl, (aA fQ.out 2).trans rfl⟩ (fun hHeld => ?_); refine gX dY.aBf dY.I1 (fun dB qB => ?_)
       generalize w69.drew = w70 at iW fQ HI0 HK HB hHeld ⊢
       refine gV 0 (some 88) dB ?_
       refine gV 1 (some 89) dB ?_
       refine gV 4 (some 92) dB ?_
       refine vP 2 (some 90) dB qB hHeld ?_
       refine vP 5 (some 93) dB qB hHeld ?_
       refine Cn 3 (some 91) dB (fun K hK => ?_)
       refine wT Try.func36 dU rfl #[.string ((cK aK aX).f1)] (by rfl) rfl rfl Fb ?_
       with_reducible refine (kS.calls kj7 ((cK aK aX).f1) H9 _ A66.out).mono ?_
       rintro e w' ⟨rfl, ⟨nd, rfl⟩⟩
       refine ⟨_, rfl, ?_⟩
       refine hK.out _ _ ⟨(aA fQ.out 0).trans rfl, (aA fQ.out 1).trans rfl, (aA fQ.out 2).trans rfl⟩ (fun hHeld => ?_)
       clear hK K
       refine jS (a' := ?_) ?_ ?_
       rotate_left
       ·
        show Act.put _ (some 91) _ = _
        simp only [Act.put, List.setIfInBounds_toArray, List.set_cons_zero, List.set_cons_succ, dO, dQ]
        rfl
       refine gV 6 (some 94) dB ?_
       refine Cn 7 (some 95) dB (fun K hK => ?_)
       refine Vw (w1 := ?_) (v := ?_) (by rfl) rfl ?_ ?_
       rotate_left 2
       ·
        go_simp
        constructor
        ·
         rfl
        ·
         rfl
       refine hK.out _ _ ⟨(aA (bX fQ.out _) 0).trans rfl, (aA (bX fQ.out _) 1).trans rfl, (aA (bX fQ.out _) 2).trans rfl⟩ (fun hHeld => ?_)
       clear hK K
       refine jS (a' := ?_) ?_ ?_
       rotate_left
       ·
        show Act.put _ (some 95) _ = _
        simp only [Act.put, List.setIfInBounds_toArray, List.set_cons_zero, List.set_cons_succ, dO, dQ]
        rfl
       refine Cn 8 (some 96) dB (fun K hK => ?_)
       refine Kd.nO gU (w0 := w0) w0.heap.size (by rfl) (.tmp 88) (.tmp 95) 91 112 (.agg #[(.int .i64 0), (.int .i64 0), (.string ⟨#[]⟩), (.string ⟨#[]⟩), (.int .i64 0), (.int .i64 0), (.int .i64 0)]) 72 rfl Try.underlying91 Qe rfl (by decide) (by omega) dK l1 (⟨1, H9, (⟨#[]⟩ : ByteArray), (⟨#[]⟩ : ByteArray), (-1), (-1), ((cK aK aX).f2)⟩ : dP) [.int .i64 1, .int .i64 H9, .string (⟨#[]⟩ : ByteArray), .string (⟨#[]⟩ : ByteArray), .int .i64 (-1), .int .i64 (-1), .int .i64 ((cK aK aX).f2)] (fun k_ => (gZ k_ ∨ w.heap.size ≤ k_)) (fun _ => False) rfl rfl ?aP (fun _ hk => hk.elim) ?aF ?aO ?aB ?aS ?aL ?_
       (case aP => exact Ht _ _ _ (⟨1, H9, (⟨#[]⟩ : ByteArray), (⟨#[]⟩ : ByteArray), (-1), (-1), ((cK aK aX).f2)⟩ : dP))
       (case aB => exact vI)
       (case aF => exact (fun k_ hk => (.inr (Nat.le_trans zt hk))))
       (case aO => exact (zr iW.out))
       (case aS => exact (aT vI))
       (case aL => have := aAH.out; omega)
       intro bPS w71 ho hb hg hat
       rw [← aSv.out] at ho
       replace fQ := za (eD (g := zB) (zb fQ.out) hg (Kd.nA iW.out fQ.out (by decide)))
       replace HI0 := za (aH.grown Hd hg (aH.own_ne HI0.out iW.out (by decide)))
       replace HB := za (hb)
       replace HK := za (Kept.mV (S := (fun k_ => (gZ k_) ∨ k_ = g)) hg wP (fun k_ e_ => Or.imp_left Or.inl ((iW.out.1 k_ e_))))
       have aSx := za (ho)
       clear iW
       clear ho hb hg hat
       refine hK.out _ _ ⟨(aA fQ.out 0).trans rfl, (aA fQ.out 1).trans rfl, (aA fQ.out 2).trans rfl⟩ (fun hHeld => ?_)
       clear hK K
       refine jS (a' := ?_) ?_ ?_
       rotate_left
       ·
        show Act.put _ (some 96) _ = _
        simp only [Act.put, List.setIfInBounds_toArray, List.set_cons_zero, List.set_cons_succ, dO, dQ]
        rfl
       refine gV 9 (some 4) dB ?_
       refine pO (jX dB.out dU) ?_
       try go_wp2
       go_ret
       exact ⟨_, jR, by (with_reducible repeat (first | apply Kd.bC | apply Kd.bF | apply Kd.bP)); exact aSx.out, Hd, vI, wP⟩
      ·
       (first | rw [CW] | (simp only [dO, dQ]; rw [CW]) | skip)
       have aSy := za H
       clear H
       have aRL := mR.out
       have aRM := Fx.out
       obtain ⟨bCh, bCi, bCj⟩ := Zi fQ.out
       obtain ⟨bCk, bCl, bCm⟩ := Xk fQ.out
       go_upto_if 97 with (fail)
       have H := aSy.out
       clear aSy
       revert H; refine oW (fun Ea U6 H => ?_) (fun c75 Ea U6 H => ?_)
       ·
        (first | rw [Ea] | (simp only [dO, dQ]; rw [Ea]) | skip)
        replace H := jT H
        obtain ⟨⟨aBp, aBq, aSz, aSA, aSB, aSC⟩, A76, H⟩ := H
        (try dsimp only at H)
        revert H; refine IP fun aSD H => ?_
        obtain ⟨bJp, UM⟩ : ∃ y_ : List (dP), y_ = (l1 ++ [(⟨2, 0, aBp, aBq, (-1), (-1), ((cK aK aX).f2)⟩ : dP)]) := ⟨_, rfl⟩
        replace H : (some (bJp, aSz, aSA, aSB, aSC)) = some (r1, r2, r3, r4, r5) := by first | (rw [UM]; with_reducible exact H) | (have lS := (Option.bind_some _ _).symm.trans H; rw [UM]; with_reducible exact lS) | (have lS := (Option.bind_some _ _).symm.trans H; with_reducible exact lS) | with_reducible exact H | (rw [UM]; exact H) | exact H
        have aSE := za UM
        clear UM
        simp only [Option.some.injEq, Prod.mk.injEq] at H
        obtain ⟨rfl, rfl, rfl, rfl, rfl⟩ := H
        go_wp2_with (first | ((with_reducible refine zg 48 rfl ?_); refine kZ (some 103) Try.func48 #[.pointer (some ⟨g, 0, none⟩)] ?_; refine (rX.calls g aK Oo PO PQ PR aBp aBq aSz aSA aSB aSC w0 _ Hd vI A76.out).mono ?_; rintro e w78 ⟨rfl, hi, hb, hk⟩; refine ⟨_, rfl, ?_⟩; replace iW := za (Kd.aQ (Kd.fC (aH.apart (show aH w0 _ g aK Oo PO PQ PR from Hd) (zr iW.out) (by decide)) hk (fun _ h => h.2)) (fun _ h => h.1)); replace fQ := nE hk (zb fQ.out) mR; replace HK := za (Kept.nT (S := (fun k_ => (gZ k_) ∨ k_ = g)) wP hk (.inl (.inr rfl))); replace HB := za (hb); replace HI0 := za (hi); (try clear hb hk hi); have bOk := mR.out; have bOl := Fx.out; obtain ⟨bCn, bCo, bCp⟩ := Zi fQ.out; obtain ⟨bCq, bCr⟩ := zf2 fQ.out; have bCs := aD fQ.out 2) | ((with_reducible refine iK (b := .append) (xs := #[.tmp 106, .tmp 112]) rfl ?_); at_builtin; refine Kd.nP gU (w0 := w0) w0.heap.size rfl (.tmp 106) (.tmp 112) 91 112 (.agg #[(.int .i64 0), (.int .i64 0), (.string ⟨#[]⟩), (.string ⟨#[]⟩), (.int .i64 0), (.int .i64 0), (.int .i64 0)]) 72 rfl Try.underlying91 Qe rfl (by decide) (by omega) dK l1 (⟨2, 0, aBp, aBq, (-1), (-1), ((cK aK aX).f2)⟩ : dP) [.int .i64 2, .int .i64 0, .string aBp, .string aBq, .int .i64 (-1), .int .i64 (-1), .int .i64 ((cK aK aX).f2)] (fun k_ => (gZ k_ ∨ w.heap.size ≤ k_)) (fun _ => False) rfl rfl ?aP (fun _ hk => hk.elim) ?aF ?aO ?aB ?aS ?aL ?_; (case aP => exact Ht _ _ _ (⟨2, 0, aBp, aBq, (-1), (-1), ((cK aK aX).f2)⟩ : dP)); (case aB => exact vI); (case aF => exact (fun k_ hk => (.inr (Nat.le_trans zt hk)))); (case aO => exact (zr iW.out)); (case aS => exact (aT vI)); (case aL => have := aSD.out; omega); intro bPT w81 ho hb hg hat; rw [← aSE.out] at ho; replace fQ := za (eD (g := zB) (zb fQ.out) hg (Kd.nA iW.out fQ.out (by decide))); replace HI0 := za (aH.grown Hd hg (aH.own_ne HI0.out iW.out (by decide))); replace HB := za (hb); replace HK := za (Kept.mV (S := (fun k_ => (gZ k_) ∨ k_ = g)) hg wP (fun k_ e_ => Or.imp_left Or.inl ((iW.out.1 k_ e_)))); have aSF := za (ho); clear iW; clear ho hb hg hat))
        go_ret
        exact ⟨_, jR, by (with_reducible repeat (first | apply Kd.bC | apply Kd.bF | apply Kd.bP)); exact aSF.out, Hd, vI, wP⟩
       ·
        (first | rw [Ea] | (simp only [dO, dQ]; rw [Ea]) | skip)
        replace H := jT H
        obtain ⟨⟨bJq, bJr, bJs, bJt⟩, A82, H⟩ := H
        (try dsimp only at H)
        simp only [Option.some.injEq, Prod.mk.injEq] at H
        obtain ⟨rfl, rfl, rfl, rfl, rfl⟩ := H
        go_wp2_with (first | ((with_reducible refine zg 33 rfl ?_); refine kZ (some 115) Try.func33 #[.pointer (some ⟨g, 0, none⟩), .int .i64 11] ?_; refine (jP.calls g aK Oo PO PQ PR 11 bJq bJr bJs bJt w0 _ Hd vI A82.out).mono ?_; rintro e w83 ⟨rfl, hi, hb, hk⟩; refine ⟨_, rfl, ?_⟩; replace iW := za (Kd.aQ (Kd.fC (aH.apart (show aH w0 _ g aK Oo PO PQ PR from Hd) (zr iW.out) (by decide)) hk (fun _ h => h.2)) (fun _ h => h.1)); replace fQ := nE hk (zb fQ.out) mR; replace HK := za (Kept.nT (S := (fun k_ => (gZ k_) ∨ k_ = g)) wP hk (.inl (.inr rfl))); replace HB := za (hb); replace HI0 := za (hi)))
        go_ret
        exact ⟨_, jR, F9, Hd, vI, wP⟩
 ·
  (first | rw [zG] | (simp only [dO, dQ]; rw [zG]) | skip)
  simp only [Option.some.injEq, Prod.mk.injEq] at H
  obtain ⟨rfl, rfl, rfl, rfl, rfl⟩ := H
  go_wp2
  go_ret
  exact ⟨_, jR, aAp, mZ, qJ, Dm⟩
theorem fZ.step (k : Nat) (Rm : aG (∀ m, m < k → ∀ (g : Nat) (aK : List (iJ)) (aX : Int) (bM : Int) (bN : Int) (bQ : Int) (gZ : Nat → Prop) (dK : Value) (l1 : List (dP)) (r1 : List (dP)) (r2 : Int) (r3 : Int) (r4 : Int) (r5 : Int) (w0 w : World) (hI : aH w0 w g aK aX bM bN bQ) (hB : Below w0.heap.size w0 w) (ho1 : Kd.R gU 112 w w0.heap.size gZ dK l1) (h : dY.f m aK aX bM bN bQ l1 = some (r1, r2, r3, r4, r5)),
  Calls Try.prog 68 #[.pointer (some ⟨g, 0, none⟩), dK] w fun e w' => ∃ lZ : Value, e = .returned (lZ) ∧ Kd.R gU 112 w' w0.heap.size (fun k_ => (gZ k_ ∨ w.heap.size ≤ k_)) lZ r1 ∧ aH w0 w' g aK r2 r3 r4 r5 ∧ Below w0.heap.size w0 w' ∧ Kept w w' (fun k_ => (gZ k_) ∨ k_ = g))) (K_ : aG (∀ m, m < k → ∀ (g : Nat) (aK : List (iJ)) (aX : Int) (bM : Int) (bN : Int) (bQ : Int) (gZ : Nat → Prop) (dK : Value) (l1 : List (dP)) (r1 : List (dP)) (r2 : Int) (r3 : Int) (r4 : Int) (r5 : Int) (w0 w : World) (hI : aH w0 w g aK aX bM bN bQ) (hB : Below w0.heap.size w0 w) (ho1 : Kd.R gU 112 w w0.heap.size gZ dK l1) (h : fZ.f m aK aX bM bN bQ l1 = some (r1, r2, r3, r4, r5)),
  Calls Try.prog 49 #[.pointer (some ⟨g, 0, none⟩), dK] w fun e w' => ∃ lZ : Value, e = .returned (lZ) ∧ Kd.R gU 112 w' w0.heap.size (fun k_ => (gZ k_ ∨ w.heap.size ≤ k_)) lZ r1 ∧ aH w0 w' g aK r2 r3 r4 r5 ∧ Below w0.heap.size w0 w' ∧ Kept w w' (fun k_ => (gZ k_) ∨ k_ = g))) (UE : aG (∀ m, m < k → ∀ (g : Nat) (aK : List (iJ)) (aX : Int) (bM : Int) (bN : Int) (bQ : Int) (gZ : Nat → Prop) (dK : Value) (l1 : List (dP)) (r1 : List (dP)) (r2 : Int) (r3 : Int) (r4 : Int) (r5 : Int) (w0 w : World) (hI : aH w0 w g aK aX bM bN bQ) (hB : Below w0.heap.size w0 w) (ho1 : Kd.R gU 112 w w0.heap.size gZ dK l1) (h : kT.f m aK aX bM bN bQ l1 = some (r1, r2, r3, r4, r5)),
  Calls Try.prog 56 #[.pointer (some ⟨g, 0, none⟩), dK] w fun e w' => ∃ lZ : Value, e = .returned (lZ) ∧ Kd.R gU 112 w' w0.heap.size (fun k_ => (gZ k_ ∨ w.heap.size ≤ k_)) lZ r1 ∧ aH w0 w' g aK r2 r3 r4 r5 ∧ Below w0.heap.size w0 w' ∧ Kept w w' (fun k_ => (gZ k_) ∨ k_ = g))) (KT : aG (∀ m, m < k → ∀ (g : Nat) (aK : List (iJ)) (aX : Int) (bM : Int) (bN : Int) (bQ : Int) (gZ : Nat → Prop) (dK : Value) (l1 : List (dP)) (r1 : List (dP)) (r2 : Int) (r3 : Int) (r4 : Int) (r5 : Int) (w0 w : World) (hI : aH w0 w g aK aX bM bN bQ) (hB : Below w0.heap.size w0 w) (ho1 : Kd.R gU 112 w w0.heap.size gZ dK l1) (h : iN.f m aK aX bM bN bQ l1 = some (r1, r2, r3, r4, r5)),
  Calls Try.prog 65 #[.pointer (some ⟨g, 0, none⟩), dK] w fun e w' => ∃ lZ : Value, e = .returned (lZ) ∧ Kd.R gU 112 w' w0.heap.size (fun k_ => (gZ k_ ∨ w.heap.size ≤ k_)) lZ r1 ∧ aH w0 w' g aK r2 r3 r4 r5 ∧ Below w0.heap.size w0 w' ∧ Kept w w' (fun k_ => (gZ k_) ∨ k_ = g))) : ∀ (g : Nat) (aK : List (iJ)) (aX : Int) (bM : Int) (bN : Int) (bQ : Int) (gZ : Nat → Prop) (dK : Value) (l1 : List (dP)) (r1 : List (dP)) (r2 : Int) (r3 : Int) (r4 : Int) (r5 : Int) (w0 w : World) (hI : aH w0 w g aK aX bM bN bQ) (hB : Below w0.heap.size w0 w) (ho1 : Kd.R gU 112 w w0.heap.size gZ dK l1) (h : fZ.f k aK aX bM bN bQ l1 = some (r1, r2, r3, r4, r5)),
  Calls Try.prog 49 #[.pointer (some ⟨g, 0, none⟩), dK] w fun e w' => ∃ lZ : Value, e = .returned (lZ) ∧ Kd.R gU 112 w' w0.heap.size (fun k_ => (gZ k_ ∨ w.heap.size ≤ k_)) lZ r1 ∧ aH w0 w' g aK r2 r3 r4 r5 ∧ Below w0.heap.size w0 w' ∧ Kept w w' (fun k_ => (gZ k_) ∨ k_ = g) := by
 intro g aK aX bM bN bQ gZ dK l1 r1 r2 r3 r4 r5 w0 w hI hB ho1 h
 cases k with
 | zero => exact absurd h (by simp [fZ.f])
 | succ k =>
 simp only [fZ.f] at h
 have Oi := za (show Kd.R gU 112 w w0.heap.size (fun k_ => (gZ k_ ∨ w.heap.size ≤ k_)) dK l1 from Kd.aQ ho1 (fun k_ hk => (.inl hk)))
 have HI0 := za hI
 have HL := za hB.size
 clear hI
 have HK := za (Kept.refl w (fun k_ => (gZ k_) ∨ k_ = g))
 have HW0 := za hB.size
 have HB := za hB
 clear hB
 have H : ((kT.f k aK aX bM bN bQ l1).bind fun Ie => (fZ.l0 k Ie.1 (([(⟨#[61, 61]⟩ : ByteArray), (⟨#[60]⟩ : ByteArray), (⟨#[60, 61]⟩ : ByteArray)] : List ByteArray)) 0 aK Ie.2.1 Ie.2.2.1 Ie.2.2.2.1 Ie.2.2.2.2)) = some (r1, r2, r3, r4, r5) := h
 clear h
 replace H := jT H
 obtain ⟨⟨JI, aL6, aL7, aL8, aL9⟩, A3, H⟩ := H
 (try dsimp only at H)
 obtain ⟨bSK, UN⟩ : ∃ y_ : List ByteArray, y_ = (([(⟨#[61, 61]⟩ : ByteArray), (⟨#[60]⟩ : ByteArray), (⟨#[60, 61]⟩ : ByteArray)] : List ByteArray)) := ⟨_, rfl⟩
 replace H : (fZ.l0 k JI bSK 0 aK aL6 aL7 aL8 aL9) = some (r1, r2, r3, r4, r5) := by first | (rw [UN]; with_reducible exact H) | (have lS := (Option.bind_some _ _).symm.trans H; rw [UN]; with_reducible exact lS) | (have lS := (Option.bind_some _ _).symm.trans H; with_reducible exact lS) | with_reducible exact H | (rw [UN]; exact H) | exact H
 have aKz := za UN
 clear UN
 have H' := za H
 clear H
 obtain ⟨Ao4, co4, eo4⟩ := Kd.bJ Oi.out
 subst eo4
 go_enter Try.func49, Try.ntmps49
 go_wp2_with (first | ((with_reducible refine zg 56 rfl ?_); refine kZ (some 11) Try.func56 #[.pointer (some ⟨g, 0, none⟩), .slice Ao4 l1.length co4] ?_; refine (UE.out k (by omega) g aK aX bM bN bQ (fun k_ => some k_ = (.slice Ao4 l1.length co4 : Value).ownBlock) (.slice Ao4 l1.length co4) l1 JI aL6 aL7 aL8 aL9 w0 _ mZ qJ (Kd.sJ rfl Oi.out) A3.out).mono ?_; rintro e w5 ⟨bJu, rfl, ho0, hi, hb, hkp⟩; refine ⟨_, rfl, ?_⟩; replace HI0 := za (hi); have aBr := za (Kd.aQ (ok' := fun k_ => (gZ k_ ∨ w.heap.size ≤ k_)) ho0 (fun k_ wZ => Or.elim wZ (fun hs_ => (Oi.out.1 k_ (hs_).symm)) (fun Gc => (.inr (Nat.le_trans Hy Gc))))); replace HK := za (Kept.sK (S := (fun k_ => (gZ k_) ∨ k_ = g)) Dm hkp (fun k_ hs_ => Or.elim hs_ (fun hs_ => (fun e_ => Or.imp_left Or.inl ((Oi.out.1 k_ e_.symm))) hs_) (fun e_ => .inl (.inr e_)))); replace HB := za (hb); clear Oi) | ((with_reducible refine bO (N := 12) rfl ?_); refine Kd.O9 Kd.string _ 9 ?hg (N := 12) ?hd (xs := ([(⟨#[61, 61]⟩ : ByteArray), (⟨#[60]⟩ : ByteArray), (⟨#[60, 61]⟩ : ByteArray)] : List ByteArray)) (inner := [.string (⟨#[61, 61]⟩ : ByteArray), .string (⟨#[60]⟩ : ByteArray), .string (⟨#[60, 61]⟩ : ByteArray)]) (ok := fun _ => True) (yO := fun _ => True) ?hr ?hp (fun _ hk => hk) trivial (Below.refl _ _) (Nat.le_refl _) (by simp) ?_; (case hd => rfl); (case hg => rfl); (case hr => exact jA); (case hp => exact (jB.one (show Kd.M Kd.string _ _ _ (⟨#[61, 61]⟩ : ByteArray) [.string (⟨#[61, 61]⟩ : ByteArray)] from rfl) (jB.one (show Kd.M Kd.string _ _ _ (⟨#[60]⟩ : ByteArray) [.string (⟨#[60]⟩ : ByteArray)] from rfl) (jB.one (show Kd.M Kd.string _ _ _ (⟨#[60, 61]⟩ : ByteArray) [.string (⟨#[60, 61]⟩ : ByteArray)] from rfl) (jB.none _ _))))); intro bJv w6 ho7 hb hg_ Rq; clear hg_ Rq; (first | rw [← aKz.out] at ho7 | (simp only [Int.reduceToNat] at ho7; rw [← aKz.out] at ho7)); replace aBr := qF aBr hb; have aSG := za (Kd.eU (Kd.aLd (M := fun k_ => (gZ k_ ∨ w.heap.size ≤ k_)) ho7 Hy (fun k_ h_ => .inr h_)) (aT qJ)); replace HK := za (Kept.below (S := (fun k_ => (gZ k_) ∨ k_ = g)) Dm hb); replace HB := za (aM qJ hb); replace HI0 := za (aH.below mZ hb); clear hb ho7))
 go_loopg [6] k (fun kq v6 w' => ∃ (fE : Int) (iE : Int) (iF : Int) (iG : Int) (iH : Int), v6 = .int .i64 fE ∧ aG (fZ.l0 kq JI bSK fE aK iE iF iG iH = some (r1, r2, r3, r4, r5)) ∧ aG (kq ≤ k) ∧ aG (Kd.R gU 112 w' w0.heap.size (fun k_ => (gZ k_ ∨ w.heap.size ≤ k_)) bJu JI) ∧ aG (Kd.R Kd.string 9 w' w0.heap.size (fun k_ => (gZ k_ ∨ w.heap.size ≤ k_)) bJv bSK) ∧ aG (aH w0 w' g aK iE iF iG iH) ∧ aG (Kept w w' (fun k_ => (gZ k_) ∨ k_ = g)) ∧ aG (Below w0.heap.size w0 w'))
 case atStart => exact ⟨(0), (aL6), (aL7), (aL8), (aL9), jG, H', ⟨Nat.le_refl _⟩, ⟨by (with_reducible repeat (first | apply Kd.bC | apply Kd.bF | apply Kd.bP)); exact aBr.out⟩, ⟨by (with_reducible repeat (first | apply Kd.bC | apply Kd.bF | apply Kd.bP)); exact Kd.aQ aSG.out (fun _ hk => hk.1)⟩, ⟨mZ⟩, ⟨Dm⟩, ⟨qJ⟩⟩
 case round =>
  clear H'
  obtain ⟨fE, iE, iF, iG, iH, rfl, HA, lH, iW, rU, HI0, HK, HB⟩ := hrel
  cases gk with
  | zero => exact absurd HA.out (by simp [fZ.l0])
  | succ k1 =>
   have H := HA.out
   clear HA
   simp only [fZ.l0] at H
   have HC8 := za H
   clear H
   obtain ⟨Ao9, co9, eo9⟩ := Kd.bJ rU.out
   subst eo9
   go_upto_if 16 with (fail)
   have H := HC8.out
   clear HC8
   revert H; refine Dn (fun c10 H => ?_) (fun c10 H => ?_)
   ·
    have xS := decide_eq_true c10
    clear c10
    (first | rw [xS] | (simp only [dO, dQ]; rw [xS]) | skip)
    replace H := jT H
    obtain ⟨⟨aMa, aGD, aGE, aGF, aGG⟩, sM, H⟩ := H
    (try dsimp only at H)
    revert H; refine yX fun Dy H => ?_
    replace H := jT H
    obtain ⟨⟨bJw, aMb, aMc, aMd, aMe⟩, A13, H⟩ := H
    (try dsimp only at H)
    have aSH := za H
    clear H
    obtain ⟨Yv, Yw, aBs⟩ := Kd.bJ iW.out
    subst aBs
    go_upto_if 29 with (first | ((with_reducible refine zg 28 rfl ?_); refine kZ (some 23) Try.func28 #[.pointer (some ⟨g, 0, none⟩)] ?_; refine (mD.calls g aK iE iF iG iH aMa aGD aGE aGF aGG w0 _ mZ qJ sM.out).mono ?_; rintro e w16 ⟨rfl, hi, hb, hk⟩; refine ⟨_, rfl, ?_⟩; replace iW := za (Kd.aQ (Kd.fC (aH.apart (show aH w0 _ g aK iE iF iG iH from mZ) (zr iW.out) (by decide)) hk (fun _ h => h.2)) (fun _ h => h.1)); replace rU := za (Kd.aQ (Kd.fC (aH.apart (show aH w0 _ g aK iE iF iG iH from mZ) (zr rU.out) (by decide)) hk (fun _ h => h.2)) (fun _ h => h.1)); replace HK := za (Kept.nT (S := (fun k_ => (gZ k_) ∨ k_ = g)) Dm hk (.inl (.inr rfl))); replace HB := za (hb); replace HI0 := za (hi); (try clear hb hk hi); have aMf : 0 ≤ (fE : Int) := of_decide_eq_true iL; have aMg : fE < (bSK.length : Int) := of_decide_eq_true iL; obtain ⟨bOm, e334, bCt⟩ := Kd.vB (Kd.cZ rU.out).2.2 fE aMf aMg; cases e334; replace aMf := eq_true aMf; replace aMg := eq_true aMg) | ((with_reducible refine zg 30 rfl ?_); refine kZ (some 29) Try.func30 #[.pointer (some ⟨g, 0, none⟩), .string (Dt ByteArray.empty bSK fE)] ?_; refine (eX.calls g aK aGD aGE aGF aGG (Dt ByteArray.empty bSK fE) bJw aMb aMc aMd aMe w0 _ mZ qJ A13.out).mono ?_; rintro e L_ ⟨rfl, hi, hb, hk⟩; refine ⟨_, rfl, ?_⟩; replace iW := za (Kd.aQ (Kd.fC (aH.apart (show aH w0 _ g aK aGD aGE aGF aGG from mZ) (zr iW.out) (by decide)) hk (fun _ h => h.2)) (fun _ h => h.1)); replace rU := za (Kd.aQ (Kd.fC (aH.apart (show aH w0 _ g aK aGD aGE aGF aGG from mZ) (zr rU.out) (by decide)) hk (fun _ h => h.2)) (fun _ h => h.1)); replace HK := za (Kept.nT (S := (fun k_ => (gZ k_) ∨ k_ = g)) Dm hk (.inl (.inr rfl))); replace HB := za (hb); replace HI0 := za (hi)))
    (try simp only [Act.put, List.setIfInBounds_toArray, List.set_cons_zero, List.set_cons_succ])
    have H := aSH.out
    clear aSH
    replace H := Bq H
    rcases H with ⟨rfl, H⟩ | ⟨rfl, H⟩
    ·
     replace H := jT H
     obtain ⟨⟨aBt, bJx, bJy, bJz, bJA⟩, qz, H⟩ := H
     (try dsimp only at H)
     replace H := jT H
     obtain ⟨aLV, A20, H⟩ := H
     (try dsimp only at H)
     simp only [Option.some.injEq, Prod.mk.injEq] at H
     obtain ⟨rfl, rfl, rfl, rfl, rfl⟩ := H
     go_wp2_with (first | ((with_reducible refine zg 56 rfl ?_); refine kZ (some 32) Try.func56 #[.pointer (some ⟨g, 0, none⟩), .slice Yv JI.length Yw] ?_; refine (UE.out k1 (by have := lH.out; omega) g aK aMb aMc aMd aMe (fun k_ => some k_ = (.slice Yv JI.length Yw : Value).ownBlock) (.slice Yv JI.length Yw) JI aBt bJx bJy bJz bJA w0 _ mZ qJ Qi qz.out).mono ?_; rintro e w21 ⟨bPU, rfl, ho0, hi, hb, hkp⟩; refine ⟨_, rfl, ?_⟩; replace rU := za (Kd.aQ (ok' := fun k_ => (gZ k_ ∨ w.heap.size ≤ k_)) (Kd.Q6 ((aH.apart HI0.out (Kd.pK rU.out (Kd.oG iW.out) (by decide)) (by decide))) hkp (fun k_ wZ hs_ => Or.elim hs_ (fun hs_ => (wZ.1.2) hs_) (fun e_ => (wZ.2) e_))) (fun k_ wZ => wZ.1.1.1)); replace HI0 := za (hi); have DN := za (Kd.aQ (ok' := fun k_ => (gZ k_ ∨ w.heap.size ≤ k_)) ho0 (fun k_ wZ => Or.elim wZ (fun hs_ => (iW.out.1 k_ (hs_).symm)) (fun Gc => (.inr (Nat.le_trans Hy Gc))))); replace HK := za (Kept.sK (S := (fun k_ => (gZ k_) ∨ k_ = g)) Dm hkp (fun k_ hs_ => Or.elim hs_ (fun hs_ => (fun e_ => Or.imp_left Or.inl ((iW.out.1 k_ e_.symm))) hs_) (fun e_ => .inl (.inr e_)))); replace HB := za (hb); clear iW; (try clear hb hkp ho0); obtain ⟨aMh, aMi, bJB⟩ := Kd.bJ DN.out; subst bJB) | ((with_reducible refine zg 57 rfl ?_); refine kZ (some 37) Try.func57 #[.slice aMh aBt.length aMi, .int .i64 (wrap64 ((JI.length : Int) - 1)), .int .i64 (wrap64 (10 + fE)), .int .i64 aMa] ?_; refine (wC.calls (fun k_ => some k_ = (.slice aMh aBt.length aMi : Value).ownBlock) (.slice aMh aBt.length aMi) aBt (wrap64 ((JI.length : Int) - 1)) (wrap64 (10 + fE)) aMa aLV w0 _ qJ (Kd.sJ rfl DN.out) A20.out).mono ?_; rintro e w23 ⟨bPV, rfl, ho0, hb, hkp⟩; refine ⟨_, rfl, ?_⟩; replace rU := za (Kd.aQ (ok' := fun k_ => (gZ k_ ∨ w.heap.size ≤ k_)) (Kd.Q6 ((Kd.pK rU.out (Kd.oG DN.out) (by decide))) hkp (fun k_ wZ hs_ => (wZ.2) hs_)) (fun k_ wZ => wZ.1.1)); replace HI0 := za (aH.kept mZ hkp (fun hs_ => (fun e_ => (aH.own_ne HI0.out DN.out (by decide)) e_) hs_)); have aSI := za (Kd.aQ (ok' := fun k_ => (gZ k_ ∨ w.heap.size ≤ k_)) ho0 (fun k_ wZ => Or.elim wZ (fun hs_ => (DN.out.1 k_ (hs_).symm)) (fun Gc => (.inr (Nat.le_trans Hy Gc))))); replace HK := za (Kept.sK (S := (fun k_ => (gZ k_) ∨ k_ = g)) Dm hkp (fun k_ hs_ => (fun e_ => Or.imp_left Or.inl ((DN.out.1 k_ e_.symm))) hs_)); replace HB := za (hb); clear DN))
     go_ret
     exact ⟨_, jR, by (with_reducible repeat (first | apply Kd.bC | apply Kd.bF | apply Kd.bP)); exact aSI.out, mZ, qJ, Dm⟩
    ·
     have H' := za H
     clear H
     go_wp2
     go_roundg k1
     case measure => have := lH.out; omega
     case rel => exact ⟨(wrap64 (fE + 1)), (aMb), (aMc), (aMd), (aMe), jG, H', ⟨by have := lH.out; omega⟩, ⟨F9⟩, ⟨Af⟩, ⟨mZ⟩, ⟨Dm⟩, ⟨qJ⟩⟩
   ·
    have xS := decide_eq_false c10
    clear c10
    (first | rw [xS] | (simp only [dO, dQ]; rw [xS]) | skip)
    simp only [Option.some.injEq, Prod.mk.injEq] at H
    obtain ⟨rfl, rfl, rfl, rfl, rfl⟩ := H
    go_wp2
    go_ret
    exact ⟨_, jR, F9, mZ, qJ, Dm⟩
end Go.Proofs.Ytiaeldibklcobaa.eZ
