import Derived.Test.YtiaeldibklcobaaZRPx8
namespace Go.Proofs.Ytiaeldibklcobaa.eZ
open Go.RowKit Go.Proofs.YtiaeldibklcobaaW.bL Go.Proofs.YtiaeldibklcobaaW.fV Go.Proofs.YtiaeldibklcobaaW.iZ
set_option maxHeartbeats 8000000
set_option maxRecDepth 100000
attribute [local go_sem] kL kM lX lY jC jD kN kP
set_option linter.unusedVariables false
set_option linter.unusedSimpArgs false
theorem kT.step (k : Nat) (Rm : aG (∀ m, m < k → ∀ (g : Nat) (aK : List (iJ)) (aX : Int) (bM : Int) (bN : Int) (bQ : Int) (gZ : Nat → Prop) (dK : Value) (l1 : List (dP)) (r1 : List (dP)) (r2 : Int) (r3 : Int) (r4 : Int) (r5 : Int) (w0 w : World) (hI : aH w0 w g aK aX bM bN bQ) (hB : Below w0.heap.size w0 w) (ho1 : Kd.R gU 112 w w0.heap.size gZ dK l1) (h : dY.f m aK aX bM bN bQ l1 = some (r1, r2, r3, r4, r5)),
  Calls Try.prog 68 #[.pointer (some ⟨g, 0, none⟩), dK] w fun e w' => ∃ lZ : Value, e = .returned (lZ) ∧ Kd.R gU 112 w' w0.heap.size (fun k_ => (gZ k_ ∨ w.heap.size ≤ k_)) lZ r1 ∧ aH w0 w' g aK r2 r3 r4 r5 ∧ Below w0.heap.size w0 w' ∧ Kept w w' (fun k_ => (gZ k_) ∨ k_ = g))) (K_ : aG (∀ m, m < k → ∀ (g : Nat) (aK : List (iJ)) (aX : Int) (bM : Int) (bN : Int) (bQ : Int) (gZ : Nat → Prop) (dK : Value) (l1 : List (dP)) (r1 : List (dP)) (r2 : Int) (r3 : Int) (r4 : Int) (r5 : Int) (w0 w : World) (hI : aH w0 w g aK aX bM bN bQ) (hB : Below w0.heap.size w0 w) (ho1 : Kd.R gU 112 w w0.heap.size gZ dK l1) (h : fZ.f m aK aX bM bN bQ l1 = some (r1, r2, r3, r4, r5)),
  Calls Try.prog 49 #[.pointer (some ⟨g, 0, none⟩), dK] w fun e w' => ∃ lZ : Value, e = .returned (lZ) ∧ Kd.R gU 112 w' w0.heap.size (fun k_ => (gZ k_ ∨ w.heap.size ≤ k_)) lZ r1 ∧ aH w0 w' g aK r2 r3 r4 r5 ∧ Below w0.heap.size w0 w' ∧ Kept w w' (fun k_ => (gZ k_) ∨ k_ = g))) (UE : aG (∀ m, m < k → ∀ (g : Nat) (aK : List (iJ)) (aX : Int) (bM : Int) (bN : Int) (bQ : Int) (gZ : Nat → Prop) (dK : Value) (l1 : List (dP)) (r1 : List (dP)) (r2 : Int) (r3 : Int) (r4 : Int) (r5 : Int) (w0 w : World) (hI : aH w0 w g aK aX bM bN bQ) (hB : Below w0.heap.size w0 w) (ho1 : Kd.R gU 112 w w0.heap.size gZ dK l1) (h : kT.f m aK aX bM bN bQ l1 = some (r1, r2, r3, r4, r5)),
  Calls Try.prog 56 #[.pointer (some ⟨g, 0, none⟩), dK] w fun e w' => ∃ lZ : Value, e = .returned (lZ) ∧ Kd.R gU 112 w' w0.heap.size (fun k_ => (gZ k_ ∨ w.heap.size ≤ k_)) lZ r1 ∧ aH w0 w' g aK r2 r3 r4 r5 ∧ Below w0.heap.size w0 w' ∧ Kept w w' (fun k_ => (gZ k_) ∨ k_ = g))) (KT : aG (∀ m, m < k → ∀ (g : Nat) (aK : List (iJ)) (aX : Int) (bM : Int) (bN : Int) (bQ : Int) (gZ : Nat → Prop) (dK : Value) (l1 : List (dP)) (r1 : List (dP)) (r2 : Int) (r3 : Int) (r4 : Int) (r5 : Int) (w0 w : World) (hI : aH w0 w g aK aX bM bN bQ) (hB : Below w0.heap.size w0 w) (ho1 : Kd.R gU 112 w w0.heap.size gZ dK l1) (h : iN.f m aK aX bM bN bQ l1 = some (r1, r2, r3, r4, r5)),
  Calls Try.prog 65 #[.pointer (some ⟨g, 0, none⟩), dK] w fun e w' => ∃ lZ : Value, e = .returned (lZ) ∧ Kd.R gU 112 w' w0.heap.size (fun k_ => (gZ k_ ∨ w.heap.size ≤ k_)) lZ r1 ∧ aH w0 w' g aK r2 r3 r4 r5 ∧ Below w0.heap.size w0 w' ∧ Kept w w' (fun k_ => (gZ k_) ∨ k_ = g))) : ∀ (g : Nat) (aK : List (iJ)) (aX : Int) (bM : Int) (bN : Int) (bQ : Int) (gZ : Nat → Prop) (dK : Value) (l1 : List (dP)) (r1 : List (dP)) (r2 : Int) (r3 : Int) (r4 : Int) (r5 : Int) (w0 w : World) (hI : aH w0 w g aK aX bM bN bQ) (hB : Below w0.heap.size w0 w) (ho1 : Kd.R gU 112 w w0.heap.size gZ dK l1) (h : kT.f k aK aX bM bN bQ l1 = some (r1, r2, r3, r4, r5)),
  Calls Try.prog 56 #[.pointer (some ⟨g, 0, none⟩), dK] w fun e w' => ∃ lZ : Value, e = .returned (lZ) ∧ Kd.R gU 112 w' w0.heap.size (fun k_ => (gZ k_ ∨ w.heap.size ≤ k_)) lZ r1 ∧ aH w0 w' g aK r2 r3 r4 r5 ∧ Below w0.heap.size w0 w' ∧ Kept w w' (fun k_ => (gZ k_) ∨ k_ = g) := by
 intro g aK aX bM bN bQ gZ dK l1 r1 r2 r3 r4 r5 w0 w hI hB ho1 h
 cases k with
 | zero => exact absurd h (by simp [kT.f])
 | succ k =>
 simp only [kT.f] at h
 have Oi := za (show Kd.R gU 112 w w0.heap.size (fun k_ => (gZ k_ ∨ w.heap.size ≤ k_)) dK l1 from Kd.aQ ho1 (fun k_ hk => (.inl hk)))
 have HI0 := za hI
 have HL := za hB.size
 clear hI
 have HK := za (Kept.refl w (fun k_ => (gZ k_) ∨ k_ = g))
 have HW0 := za hB.size
 have HB := za hB
 clear hB
 have H : ((iN.f k aK aX bM bN bQ l1).bind fun Ig => (kT.l0 k Ig.1 aK Ig.2.1 Ig.2.2.1 Ig.2.2.2.1 Ig.2.2.2.2)) = some (r1, r2, r3, r4, r5) := h
 clear h
 replace H := jT H
 obtain ⟨⟨aSJ, aSK, aSL, aSM, aSN⟩, A3, H⟩ := H
 (try dsimp only at H)
 have H' := za H
 clear H
 obtain ⟨Ao4, co4, eo4⟩ := Kd.bJ Oi.out
 subst eo4
 go_enter Try.func56, Try.ntmps56
 go_wp2_with (first | ((with_reducible refine zg 65 rfl ?_); refine kZ (some 9) Try.func65 #[.pointer (some ⟨g, 0, none⟩), .slice Ao4 l1.length co4] ?_; refine (KT.out k (by omega) g aK aX bM bN bQ (fun k_ => some k_ = (.slice Ao4 l1.length co4 : Value).ownBlock) (.slice Ao4 l1.length co4) l1 aSJ aSK aSL aSM aSN w0 _ mZ qJ (Kd.sJ rfl Oi.out) A3.out).mono ?_; rintro e w5 ⟨bPW, rfl, ho0, hi, hb, hkp⟩; refine ⟨_, rfl, ?_⟩; replace HI0 := za (hi); have aSO := za (Kd.aQ (ok' := fun k_ => (gZ k_ ∨ w.heap.size ≤ k_)) ho0 (fun k_ wZ => Or.elim wZ (fun hs_ => (Oi.out.1 k_ (hs_).symm)) (fun Gc => (.inr (Nat.le_trans Hy Gc))))); replace HK := za (Kept.sK (S := (fun k_ => (gZ k_) ∨ k_ = g)) Dm hkp (fun k_ hs_ => Or.elim hs_ (fun hs_ => (fun e_ => Or.imp_left Or.inl ((Oi.out.1 k_ e_.symm))) hs_) (fun e_ => .inl (.inr e_)))); replace HB := za (hb); clear Oi))
 (try simp only [Act.put, List.setIfInBounds_toArray, List.set_cons_zero, List.set_cons_succ])
 go_loopg [1] k (fun kq v1 w' => ∃ (sH : List (dP)) (iE : Int) (iF : Int) (iG : Int) (iH : Int), aG (kT.l0 kq sH aK iE iF iG iH = some (r1, r2, r3, r4, r5)) ∧ aG (kq ≤ k) ∧ aG (Kd.R gU 112 w' w0.heap.size (fun k_ => (gZ k_ ∨ w.heap.size ≤ k_)) v1 sH) ∧ aG (aH w0 w' g aK iE iF iG iH) ∧ aG (Kept w w' (fun k_ => (gZ k_) ∨ k_ = g)) ∧ aG (Below w0.heap.size w0 w'))
 case atStart => exact ⟨(aSJ), (aSK), (aSL), (aSM), (aSN), H', ⟨Nat.le_refl _⟩, ⟨by (with_reducible repeat (first | apply Kd.bC | apply Kd.bF | apply Kd.bP)); exact aSO.out⟩, ⟨mZ⟩, ⟨Dm⟩, ⟨qJ⟩⟩
 case round =>
  clear H'
  obtain ⟨sH, iE, iF, iG, iH, HA, lH, iW, HI0, HK, HB⟩ := hrel
  cases gk with
  | zero => exact absurd HA.out (by simp [kT.l0])
  | succ k1 =>
   have H := HA.out
   clear HA
   simp only [kT.l0] at H
   have KH := za H
   clear H
   obtain ⟨CY, Wi, lT, CZ, Wj⟩ := HI0.out
   have Wl := fI lT
   have Wm := fJ lT
   have Wn := fK lT
   have DC := fM lT
   have DD := fG lT
   have Wo := aD lT 1
   have Wp := aD lT 2
   have DF := aD lT 3
   have DI := aD lT 4
   clear lT CZ
   go_upto_if 14 with (fail)
   have H := KH.out
   clear KH
   revert H; refine oW (fun oZ Hz H => ?_) (fun c8 oZ Hz H => ?_)
   ·
    (first | rw [oZ] | (simp only [dO, dQ]; rw [oZ]) | skip)
    replace H := jT H
    obtain ⟨⟨aBu, aMj, aMk, aMl, aMm⟩, A9, H⟩ := H
    (try dsimp only at H)
    replace H := jT H
    obtain ⟨⟨bJC, aGH, aGI, aGJ, aGK⟩, qR, H⟩ := H
    (try dsimp only at H)
    have aBv := za H
    clear H
    obtain ⟨Ii, Ij, aBw⟩ := Kd.bJ iW.out
    subst aBw
    go_upto_if 21 with (first | ((with_reducible refine zg 28 rfl ?_); refine kZ (some 19) Try.func28 #[.pointer (some ⟨g, 0, none⟩)] ?_; refine (mD.calls g aK iE iF iG iH aBu aMj aMk aMl aMm w0 _ mZ qJ A9.out).mono ?_; rintro e ZW ⟨rfl, hi, hb, hk⟩; refine ⟨_, rfl, ?_⟩; replace iW := za (Kd.aQ (Kd.fC (aH.apart (show aH w0 _ g aK iE iF iG iH from mZ) (zr iW.out) (by decide)) hk (fun _ h => h.2)) (fun _ h => h.1)); replace HK := za (Kept.nT (S := (fun k_ => (gZ k_) ∨ k_ = g)) Dm hk (.inl (.inr rfl))); replace HB := za (hb); replace HI0 := za (hi)) | ((with_reducible refine zg 30 rfl ?_); refine kZ (some 23) Try.func30 #[.pointer (some ⟨g, 0, none⟩), .string (⟨#[43]⟩ : ByteArray)] ?_; refine (eX.calls g aK aMj aMk aMl aMm (⟨#[43]⟩ : ByteArray) bJC aGH aGI aGJ aGK w0 _ mZ qJ qR.out).mono ?_; rintro e w14 ⟨rfl, hi, hb, hk⟩; refine ⟨_, rfl, ?_⟩; replace iW := za (Kd.aQ (Kd.fC (aH.apart (show aH w0 _ g aK aMj aMk aMl aMm from mZ) (zr iW.out) (by decide)) hk (fun _ h => h.2)) (fun _ h => h.1)); replace HK := za (Kept.nT (S := (fun k_ => (gZ k_) ∨ k_ = g)) Dm hk (.inl (.inr rfl))); replace HB := za (hb); replace HI0 := za (hi)))
    (try simp only [Act.put, List.setIfInBounds_toArray, List.set_cons_zero, List.set_cons_succ])
    have H := aBv.out
    clear aBv
    replace H := Bq H
    rcases H with ⟨rfl, H⟩ | ⟨rfl, H⟩
    ·
     replace H := jT H
     obtain ⟨⟨aBx, aSP, aSQ, aSR, aSS⟩, RP, H⟩ := H
     (try dsimp only at H)
     replace H := jT H
     obtain ⟨aF9, vk, H⟩ := H
     (try dsimp only at H)
     have H' := za H
     clear H
     go_wp2_with (first | ((with_reducible refine zg 65 rfl ?_); refine kZ (some 26) Try.func65 #[.pointer (some ⟨g, 0, none⟩), .slice Ii sH.length Ij] ?_; refine (KT.out k1 (by have := lH.out; omega) g aK aGH aGI aGJ aGK (fun k_ => some k_ = (.slice Ii sH.length Ij : Value).ownBlock) (.slice Ii sH.length Ij) sH aBx aSP aSQ aSR aSS w0 _ mZ qJ Qi RP.out).mono ?_; rintro e w18 ⟨bPX, rfl, ho0, hi, hb, hkp⟩; refine ⟨_, rfl, ?_⟩; replace HI0 := za (hi); have KY := za (Kd.aQ (ok' := fun k_ => (gZ k_ ∨ w.heap.size ≤ k_)) ho0 (fun k_ wZ => Or.elim wZ (fun hs_ => (iW.out.1 k_ (hs_).symm)) (fun Gc => (.inr (Nat.le_trans Hy Gc))))); replace HK := za (Kept.sK (S := (fun k_ => (gZ k_) ∨ k_ = g)) Dm hkp (fun k_ hs_ => Or.elim hs_ (fun hs_ => (fun e_ => Or.imp_left Or.inl ((iW.out.1 k_ e_.symm))) hs_) (fun e_ => .inl (.inr e_)))); replace HB := za (hb); clear iW; (try clear hb hkp ho0); obtain ⟨PS, PT, aBy⟩ := Kd.bJ KY.out; subst aBy) | ((with_reducible refine zg 57 rfl ?_); refine kZ (some 29) Try.func57 #[.slice PS aBx.length PT, .int .i64 (wrap64 ((sH.length : Int) - 1)), .int .i64 5, .int .i64 aBu] ?_; refine (wC.calls (fun k_ => some k_ = (.slice PS aBx.length PT : Value).ownBlock) (.slice PS aBx.length PT) aBx (wrap64 ((sH.length : Int) - 1)) 5 aBu aF9 w0 _ qJ (Kd.sJ rfl KY.out) vk.out).mono ?_; rintro e w20 ⟨bPY, rfl, ho0, hb, hkp⟩; refine ⟨_, rfl, ?_⟩; replace HI0 := za (aH.kept mZ hkp (fun hs_ => (fun e_ => (aH.own_ne HI0.out KY.out (by decide)) e_) hs_)); have aST := za (Kd.aQ (ok' := fun k_ => (gZ k_ ∨ w.heap.size ≤ k_)) ho0 (fun k_ wZ => Or.elim wZ (fun hs_ => (KY.out.1 k_ (hs_).symm)) (fun Gc => (.inr (Nat.le_trans Hy Gc))))); replace HK := za (Kept.sK (S := (fun k_ => (gZ k_) ∨ k_ = g)) Dm hkp (fun k_ hs_ => (fun e_ => Or.imp_left Or.inl ((KY.out.1 k_ e_.symm))) hs_)); replace HB := za (hb); clear KY))
     go_roundg k1
     case measure => have := lH.out; omega
     case rel => exact ⟨(aF9), (aSP), (aSQ), (aSR), (aSS), H', ⟨by have := lH.out; omega⟩, ⟨by (with_reducible repeat (first | apply Kd.bC | apply Kd.bF | apply Kd.bP)); exact aST.out⟩, ⟨mZ⟩, ⟨Dm⟩, ⟨qJ⟩⟩
    ·
     replace H := jT H
     obtain ⟨⟨bJD, aSU, aSV, aSW, aSX⟩, A21, H⟩ := H
     (try dsimp only at H)
     have UG := za H
     clear H
     go_upto_if 30 with (first | ((with_reducible refine zg 30 rfl ?_); refine kZ (some 32) Try.func30 #[.pointer (some ⟨g, 0, none⟩), .string (⟨#[45]⟩ : ByteArray)] ?_; refine (eX.calls g aK aGH aGI aGJ aGK (⟨#[45]⟩ : ByteArray) bJD aSU aSV aSW aSX w0 _ mZ qJ A21.out).mono ?_; rintro e w23 ⟨rfl, hi, hb, hk⟩; refine ⟨_, rfl, ?_⟩; replace iW := za (Kd.aQ (Kd.fC (aH.apart (show aH w0 _ g aK aGH aGI aGJ aGK from mZ) (zr iW.out) (by decide)) hk (fun _ h => h.2)) (fun _ h => h.1)); replace HK := za (Kept.nT (S := (fun k_ => (gZ k_) ∨ k_ = g)) Dm hk (.inl (.inr rfl))); replace HB := za (hb); replace HI0 := za (hi)))
     (try simp only [Act.put, List.setIfInBounds_toArray, List.set_cons_zero, List.set_cons_succ])
     have H := UG.out
     clear UG
     replace H := Bq H
     rcases H with ⟨rfl, H⟩ | ⟨rfl, H⟩
     ·
      replace H := jT H
      obtain ⟨⟨aBz, aSY, aSZ, aS0, aS1⟩, A25, H⟩ := H
      (try dsimp only at H)
      replace H := jT H
      obtain ⟨aGa, A26, H⟩ := H
      (try dsimp only at H)
      have H' := za H
      clear H
      go_wp2_with (first | ((with_reducible refine zg 65 rfl ?_); refine kZ (some 35) Try.func65 #[.pointer (some ⟨g, 0, none⟩), .slice Ii sH.length Ij] ?_; refine (KT.out k1 (by have := lH.out; omega) g aK aSU aSV aSW aSX (fun k_ => some k_ = (.slice Ii sH.length Ij : Value).ownBlock) (.slice Ii sH.length Ij) sH aBz aSY aSZ aS0 aS1 w0 _ mZ qJ Qi A25.out).mono ?_; rintro e w27 ⟨bPZ, rfl, ho0, hi, hb, hkp⟩; refine ⟨_, rfl, ?_⟩; replace HI0 := za (hi); have KZ := za (Kd.aQ (ok' := fun k_ => (gZ k_ ∨ w.heap.size ≤ k_)) ho0 (fun k_ wZ => Or.elim wZ (fun hs_ => (iW.out.1 k_ (hs_).symm)) (fun Gc => (.inr (Nat.le_trans Hy Gc))))); replace HK := za (Kept.sK (S := (fun k_ => (gZ k_) ∨ k_ = g)) Dm hkp (fun k_ hs_ => Or.elim hs_ (fun hs_ => (fun e_ => Or.imp_left Or.inl ((iW.out.1 k_ e_.symm))) hs_) (fun e_ => .inl (.inr e_)))); replace HB := za (hb); clear iW; (try clear hb hkp ho0); obtain ⟨UO, UQ, aBA⟩ := Kd.bJ KZ.out; subst aBA) | ((with_reducible refine zg 57 rfl ?_); refine kZ (some 38) Try.func57 #[.slice UO aBz.length UQ, .int .i64 (wrap64 ((sH.length : Int) - 1)), .int .i64 6, .int .i64 aBu] ?_; refine (wC.calls (fun k_ => some k_ = (.slice UO aBz.length UQ : Value).ownBlock) (.slice UO aBz.length UQ) aBz (wrap64 ((sH.length : Int) - 1)) 6 aBu aGa w0 _ qJ (Kd.sJ rfl KZ.out) A26.out).mono ?_; rintro e w29 ⟨bP0, rfl, ho0, hb, hkp⟩; refine ⟨_, rfl, ?_⟩; replace HI0 := za (aH.kept mZ hkp (fun hs_ => (fun e_ => (aH.own_ne HI0.out KZ.out (by decide)) e_) hs_)); have aS2 := za (Kd.aQ (ok' := fun k_ => (gZ k_ ∨ w.heap.size ≤ k_)) ho0 (fun k_ wZ => Or.elim wZ (fun hs_ => (KZ.out.1 k_ (hs_).symm)) (fun Gc => (.inr (Nat.le_trans Hy Gc))))); replace HK := za (Kept.sK (S := (fun k_ => (gZ k_) ∨ k_ = g)) Dm hkp (fun k_ hs_ => (fun e_ => Or.imp_left Or.inl ((KZ.out.1 k_ e_.symm))) hs_)); replace HB := za (hb); clear KZ))
      go_roundg k1
      case measure => have := lH.out; omega
      case rel => exact ⟨(aGa), (aSY), (aSZ), (aS0), (aS1), H', ⟨by have := lH.out; omega⟩, ⟨by (with_reducible repeat (first | apply Kd.bC | apply Kd.bF | apply Kd.bP)); exact aS2.out⟩, ⟨mZ⟩, ⟨Dm⟩, ⟨qJ⟩⟩
     ·
      simp only [Option.some.injEq, Prod.mk.injEq] at H
      obtain ⟨rfl, rfl, rfl, rfl, rfl⟩ := H
      go_wp2
      go_ret
      exact ⟨_, jR, F9, mZ, qJ, Dm⟩
   ·
    (first | rw [oZ] | (simp only [dO, dQ]; rw [oZ]) | skip)
    simp only [Option.some.injEq, Prod.mk.injEq] at H
    obtain ⟨rfl, rfl, rfl, rfl, rfl⟩ := H
    go_wp2
    go_ret
    exact ⟨_, jR, F9, mZ, qJ, Dm⟩
theorem iN.step (k : Nat) (Rm : aG (∀ m, m < k → ∀ (g : Nat) (aK : List (iJ)) (aX : Int) (bM : Int) (bN : Int) (bQ : Int) (gZ : Nat → Prop) (dK : Value) (l1 : List (dP)) (r1 : List (dP)) (r2 : Int) (r3 : Int) (r4 : Int) (r5 : Int) (w0 w : World) (hI : aH w0 w g aK aX bM bN bQ) (hB : Below w0.heap.size w0 w) (ho1 : Kd.R gU 112 w w0.heap.size gZ dK l1) (h : dY.f m aK aX bM bN bQ l1 = some (r1, r2, r3, r4, r5)),
  Calls Try.prog 68 #[.pointer (some ⟨g, 0, none⟩), dK] w fun e w' => ∃ lZ : Value, e = .returned (lZ) ∧ Kd.R gU 112 w' w0.heap.size (fun k_ => (gZ k_ ∨ w.heap.size ≤ k_)) lZ r1 ∧ aH w0 w' g aK r2 r3 r4 r5 ∧ Below w0.heap.size w0 w' ∧ Kept w w' (fun k_ => (gZ k_) ∨ k_ = g))) (K_ : aG (∀ m, m < k → ∀ (g : Nat) (aK : List (iJ)) (aX : Int) (bM : Int) (bN : Int) (bQ : Int) (gZ : Nat → Prop) (dK : Value) (l1 : List (dP)) (r1 : List (dP)) (r2 : Int) (r3 : Int) (r4 : Int) (r5 : Int) (w0 w : World) (hI : aH w0 w g aK aX bM bN bQ) (hB : Below w0.heap.size w0 w) (ho1 : Kd.R gU 112 w w0.heap.size gZ dK l1) (h : fZ.f m aK aX bM bN bQ l1 = some (r1, r2, r3, r4, r5)),
  Calls Try.prog 49 #[.pointer (some ⟨g, 0, none⟩), dK] w fun e w' => ∃ lZ : Value, e = .returned (lZ) ∧ Kd.R gU 112 w' w0.heap.size (fun k_ => (gZ k_ ∨ w.heap.size ≤ k_)) lZ r1 ∧ aH w0 w' g aK r2 r3 r4 r5 ∧ Below w0.heap.size w0 w' ∧ Kept w w' (fun k_ => (gZ k_) ∨ k_ = g))) (UE : aG (∀ m, m < k → ∀ (g : Nat) (aK : List (iJ)) (aX : Int) (bM : Int) (bN : Int) (bQ : Int) (gZ : Nat → Prop) (dK : Value) (l1 : List (dP)) (r1 : List (dP)) (r2 : Int) (r3 : Int) (r4 : Int) (r5 : Int) (w0 w : World) (hI : aH w0 w g aK aX bM bN bQ) (hB : Below w0.heap.size w0 w) (ho1 : Kd.R gU 112 w w0.heap.size gZ dK l1) (h : kT.f m aK aX bM bN bQ l1 = some (r1, r2, r3, r4, r5)),
  Calls Try.prog 56 #[.pointer (some ⟨g, 0, none⟩), dK] w fun e w' => ∃ lZ : Value, e = .returned (lZ) ∧ Kd.R gU 112 w' w0.heap.size (fun k_ => (gZ k_ ∨ w.heap.size ≤ k_)) lZ r1 ∧ aH w0 w' g aK r2 r3 r4 r5 ∧ Below w0.heap.size w0 w' ∧ Kept w w' (fun k_ => (gZ k_) ∨ k_ = g))) (KT : aG (∀ m, m < k → ∀ (g : Nat) (aK : List (iJ)) (aX : Int) (bM : Int) (bN : Int) (bQ : Int) (gZ : Nat → Prop) (dK : Value) (l1 : List (dP)) (r1 : List (dP)) (r2 : Int) (r3 : Int) (r4 : Int) (r5 : Int) (w0 w : World) (hI : aH w0 w g aK aX bM bN bQ) (hB : Below w0.heap.size w0 w) (ho1 : Kd.R gU 112 w w0.heap.size gZ dK l1) (h : iN.f m aK aX bM bN bQ l1 = some (r1, r2, r3, r4, r5)),
  Calls Try.prog 65 #[.pointer (some ⟨g, 0, none⟩), dK] w fun e w' => ∃ lZ : Value, e = .returned (lZ) ∧ Kd.R gU 112 w' w0.heap.size (fun k_ => (gZ k_ ∨ w.heap.size ≤ k_)) lZ r1 ∧ aH w0 w' g aK r2 r3 r4 r5 ∧ Below w0.heap.size w0 w' ∧ Kept w w' (fun k_ => (gZ k_) ∨ k_ = g))) : ∀ (g : Nat) (aK : List (iJ)) (aX : Int) (bM : Int) (bN : Int) (bQ : Int) (gZ : Nat → Prop) (dK : Value) (l1 : List (dP)) (r1 : List (dP)) (r2 : Int) (r3 : Int) (r4 : Int) (r5 : Int) (w0 w : World) (hI : aH w0 w g aK aX bM bN bQ) (hB : Below w0.heap.size w0 w) (ho1 : Kd.R gU 112 w w0.heap.size gZ dK l1) (h : iN.f k aK aX bM bN bQ l1 = some (r1, r2, r3, r4, r5)),
  Calls Try.prog 65 #[.pointer (some ⟨g, 0, none⟩), dK] w fun e w' => ∃ lZ : Value, e = .returned (lZ) ∧ Kd.R gU 112 w' w0.heap.size (fun k_ => (gZ k_ ∨ w.heap.size ≤ k_)) lZ r1 ∧ aH w0 w' g aK r2 r3 r4 r5 ∧ Below w0.heap.size w0 w' ∧ Kept w w' (fun k_ => (gZ k_) ∨ k_ = g) := by
 intro g aK aX bM bN bQ gZ dK l1 r1 r2 r3 r4 r5 w0 w hI hB ho1 h
 cases k with
 | zero => exact absurd h (by simp [iN.f])
 | succ k =>
 simp only [iN.f] at h
 have Oi := za (show Kd.R gU 112 w w0.heap.size (fun k_ => (gZ k_ ∨ w.heap.size ≤ k_)) dK l1 from Kd.aQ ho1 (fun k_ hk => (.inl hk)))
 have HI0 := za hI
 have HL := za hB.size
 clear hI
 have HK := za (Kept.refl w (fun k_ => (gZ k_) ∨ k_ = g))
 have HW0 := za hB.size
 have HB := za hB
 clear hB
 have H : ((dY.f k aK aX bM bN bQ l1).bind fun Ih => (iN.l0 k Ih.1 aK Ih.2.1 Ih.2.2.1 Ih.2.2.2.1 Ih.2.2.2.2)) = some (r1, r2, r3, r4, r5) := h
 clear h
 replace H := jT H
 obtain ⟨⟨aS3, aS4, aS5, aS6, aS7⟩, A3, H⟩ := H
 (try dsimp only at H)
 have H' := za H
 clear H
 obtain ⟨Ao4, co4, eo4⟩ := Kd.bJ Oi.out
 subst eo4
 go_enter Try.func65, Try.ntmps65
 go_wp2_with (first | ((with_reducible refine zg 68 rfl ?_); refine kZ (some 9) Try.func68 #[.pointer (some ⟨g, 0, none⟩), .slice Ao4 l1.length co4] ?_; refine (Rm.out k (by omega) g aK aX bM bN bQ (fun k_ => some k_ = (.slice Ao4 l1.length co4 : Value).ownBlock) (.slice Ao4 l1.length co4) l1 aS3 aS4 aS5 aS6 aS7 w0 _ mZ qJ (Kd.sJ rfl Oi.out) A3.out).mono ?_; rintro e w5 ⟨bP1, rfl, ho0, hi, hb, hkp⟩; refine ⟨_, rfl, ?_⟩; replace HI0 := za (hi); have aS8 := za (Kd.aQ (ok' := fun k_ => (gZ k_ ∨ w.heap.size ≤ k_)) ho0 (fun k_ wZ => Or.elim wZ (fun hs_ => (Oi.out.1 k_ (hs_).symm)) (fun Gc => (.inr (Nat.le_trans Hy Gc))))); replace HK := za (Kept.sK (S := (fun k_ => (gZ k_) ∨ k_ = g)) Dm hkp (fun k_ hs_ => Or.elim hs_ (fun hs_ => (fun e_ => Or.imp_left Or.inl ((Oi.out.1 k_ e_.symm))) hs_) (fun e_ => .inl (.inr e_)))); replace HB := za (hb); clear Oi))
 (try simp only [Act.put, List.setIfInBounds_toArray, List.set_cons_zero, List.set_cons_succ])
 go_loopg [1] k (fun kq v1 w' => ∃ (sH : List (dP)) (iE : Int) (iF : Int) (iG : Int) (iH : Int), aG (iN.l0 kq sH aK iE iF iG iH = some (r1, r2, r3, r4, r5)) ∧ aG (kq ≤ k) ∧ aG (Kd.R gU 112 w' w0.heap.size (fun k_ => (gZ k_ ∨ w.heap.size ≤ k_)) v1 sH) ∧ aG (aH w0 w' g aK iE iF iG iH) ∧ aG (Kept w w' (fun k_ => (gZ k_) ∨ k_ = g)) ∧ aG (Below w0.heap.size w0 w'))
 case atStart => exact ⟨(aS3), (aS4), (aS5), (aS6), (aS7), H', ⟨Nat.le_refl _⟩, ⟨by (with_reducible repeat (first | apply Kd.bC | apply Kd.bF | apply Kd.bP)); exact aS8.out⟩, ⟨mZ⟩, ⟨Dm⟩, ⟨qJ⟩⟩
 case round =>
  clear H'
  obtain ⟨sH, iE, iF, iG, iH, HA, lH, iW, HI0, HK, HB⟩ := hrel
  cases gk with
  | zero => exact absurd HA.out (by simp [iN.l0])
  | succ k1 =>
   have H := HA.out
   clear HA
   simp only [iN.l0] at H
   have KH := za H
   clear H
   obtain ⟨CY, Wi, lT, CZ, Wj⟩ := HI0.out
   have Wl := fI lT
   have Wm := fJ lT
   have Wn := fK lT
   have DC := fM lT
   have DD := fG lT
   have Wo := aD lT 1
   have Wp := aD lT 2
   have DF := aD lT 3
   have DI := aD lT 4
   clear lT CZ
   go_upto_if 14 with (fail)
   have H := KH.out
   clear KH
   revert H; refine oW (fun oZ Hz H => ?_) (fun c8 oZ Hz H => ?_)
   ·
    (first | rw [oZ] | (simp only [dO, dQ]; rw [oZ]) | skip)
    replace H := jT H
    obtain ⟨⟨I4, aMn, aMo, aMp, aMq⟩, A9, H⟩ := H
    (try dsimp only at H)
    replace H := jT H
    obtain ⟨⟨bJE, aGL, aGM, aGN, aGO⟩, qR, H⟩ := H
    (try dsimp only at H)
    have aBv := za H
    clear H
    obtain ⟨Ii, Ij, aBw⟩ := Kd.bJ iW.out
    subst aBw
    go_upto_if 21 with (first | ((with_reducible refine zg 28 rfl ?_); refine kZ (some 19) Try.func28 #[.pointer (some ⟨g, 0, none⟩)] ?_; refine (mD.calls g aK iE iF iG iH I4 aMn aMo aMp aMq w0 _ mZ qJ A9.out).mono ?_; rintro e ZW ⟨rfl, hi, hb, hk⟩; refine ⟨_, rfl, ?_⟩; replace iW := za (Kd.aQ (Kd.fC (aH.apart (show aH w0 _ g aK iE iF iG iH from mZ) (zr iW.out) (by decide)) hk (fun _ h => h.2)) (fun _ h => h.1)); replace HK := za (Kept.nT (S := (fun k_ => (gZ k_) ∨ k_ = g)) Dm hk (.inl (.inr rfl))); replace HB := za (hb); replace HI0 := za (hi)) | ((with_reducible refine zg 30 rfl ?_); refine kZ (some 23) Try.func30 #[.pointer (some ⟨g, 0, none⟩), .string (⟨#[42]⟩ : ByteArray)] ?_; refine (eX.calls g aK aMn aMo aMp aMq (⟨#[42]⟩ : ByteArray) bJE aGL aGM aGN aGO w0 _ mZ qJ qR.out).mono ?_; rintro e w14 ⟨rfl, hi, hb, hk⟩; refine ⟨_, rfl, ?_⟩; replace iW := za (Kd.aQ (Kd.fC (aH.apart (show aH w0 _ g aK aMn aMo aMp aMq from mZ) (zr iW.out) (by decide)) hk (fun _ h => h.2)) (fun _ h => h.1)); replace HK := za (Kept.nT (S := (fun k_ => (gZ k_) ∨ k_ = g)) Dm hk (.inl (.inr rfl))); replace HB := za (hb); replace HI0 := za (hi)))
    (try simp only [Act.put, List.setIfInBounds_toArray, List.set_cons_zero, List.set_cons_succ])
    have H := aBv.out
    clear aBv
    replace H := Bq H
    rcases H with ⟨rfl, H⟩ | ⟨rfl, H⟩
    ·
     replace H := jT H
     obtain ⟨⟨aBB, aS9, aTa, aTb, aTc⟩, RP, H⟩ := H
     (try dsimp only at H)
     replace H := jT H
     obtain ⟨aGb, vk, H⟩ := H
     (try dsimp only at H)
     have H' := za H
     clear H
     go_wp2_with (first | ((with_reducible refine zg 68 rfl ?_); refine kZ (some 26) Try.func68 #[.pointer (some ⟨g, 0, none⟩), .slice Ii sH.length Ij] ?_; refine (Rm.out k1 (by have := lH.out; omega) g aK aGL aGM aGN aGO (fun k_ => some k_ = (.slice Ii sH.length Ij : Value).ownBlock) (.slice Ii sH.length Ij) sH aBB aS9 aTa aTb aTc w0 _ mZ qJ Qi RP.out).mono ?_; rintro e w18 ⟨bP2, rfl, ho0, hi, hb, hkp⟩; refine ⟨_, rfl, ?_⟩; replace HI0 := za (hi); have LB := za (Kd.aQ (ok' := fun k_ => (gZ k_ ∨ w.heap.size ≤ k_)) ho0 (fun k_ wZ => Or.elim wZ (fun hs_ => (iW.out.1 k_ (hs_).symm)) (fun Gc => (.inr (Nat.le_trans Hy Gc))))); replace HK := za (Kept.sK (S := (fun k_ => (gZ k_) ∨ k_ = g)) Dm hkp (fun k_ hs_ => Or.elim hs_ (fun hs_ => (fun e_ => Or.imp_left Or.inl ((iW.out.1 k_ e_.symm))) hs_) (fun e_ => .inl (.inr e_)))); replace HB := za (hb); clear iW; (try clear hb hkp ho0); obtain ⟨PS, PT, aBy⟩ := Kd.bJ LB.out; subst aBy) | ((with_reducible refine zg 57 rfl ?_); refine kZ (some 29) Try.func57 #[.slice PS aBB.length PT, .int .i64 (wrap64 ((sH.length : Int) - 1)), .int .i64 7, .int .i64 I4] ?_; refine (wC.calls (fun k_ => some k_ = (.slice PS aBB.length PT : Value).ownBlock) (.slice PS aBB.length PT) aBB (wrap64 ((sH.length : Int) - 1)) 7 I4 aGb w0 _ qJ (Kd.sJ rfl LB.out) vk.out).mono ?_; rintro e w20 ⟨bP3, rfl, ho0, hb, hkp⟩; refine ⟨_, rfl, ?_⟩; replace HI0 := za (aH.kept mZ hkp (fun hs_ => (fun e_ => (aH.own_ne HI0.out LB.out (by decide)) e_) hs_)); have aTd := za (Kd.aQ (ok' := fun k_ => (gZ k_ ∨ w.heap.size ≤ k_)) ho0 (fun k_ wZ => Or.elim wZ (fun hs_ => (LB.out.1 k_ (hs_).symm)) (fun Gc => (.inr (Nat.le_trans Hy Gc))))); replace HK := za (Kept.sK (S := (fun k_ => (gZ k_) ∨ k_ = g)) Dm hkp (fun k_ hs_ => (fun e_ => Or.imp_left Or.inl ((LB.out.1 k_ e_.symm))) hs_)); replace HB := za (hb); clear LB))
     go_roundg k1
     case measure => have := lH.out; omega
     case rel => exact ⟨(aGb), (aS9), (aTa), (aTb), (aTc), H', ⟨by have := lH.out; omega⟩, ⟨by (with_reducible repeat (first | apply Kd.bC | apply Kd.bF | apply Kd.bP)); exact aTd.out⟩, ⟨mZ⟩, ⟨Dm⟩, ⟨qJ⟩⟩
    ·
     replace H := jT H
     obtain ⟨⟨bJF, aGP, aGQ, aGR, aGS⟩, A21, H⟩ := H
     (try dsimp only at H)
     have UG := za H
     clear H
     go_upto_if 30 with (first | ((with_reducible refine zg 30 rfl ?_); refine kZ (some 32) Try.func30 #[.pointer (some ⟨g, 0, none⟩), .string (⟨#[47]⟩ : ByteArray)] ?_; refine (eX.calls g aK aGL aGM aGN aGO (⟨#[47]⟩ : ByteArray) bJF aGP aGQ aGR aGS w0 _ mZ qJ A21.out).mono ?_; rintro e w23 ⟨rfl, hi, hb, hk⟩; refine ⟨_, rfl, ?_⟩; replace iW := za (Kd.aQ (Kd.fC (aH.apart (show aH w0 _ g aK aGL aGM aGN aGO from mZ) (zr iW.out) (by decide)) hk (fun _ h => h.2)) (fun _ h => h.1)); replace HK := za (Kept.nT (S := (fun k_ => (gZ k_) ∨ k_ = g)) Dm hk (.inl (.inr rfl))); replace HB := za (hb); replace HI0 := za (hi)))
     (try simp only [Act.put, List.setIfInBounds_toArray, List.set_cons_zero, List.set_cons_succ])
     have H := UG.out
     clear UG
     replace H := Bq H
     rcases H with ⟨rfl, H⟩ | ⟨rfl, H⟩
     ·
      replace H := jT H
      obtain ⟨⟨aBC, aTe, aTf, aTg, aTh⟩, A25, H⟩ := H
      (try dsimp only at H)
      replace H := jT H
      obtain ⟨aGc, A26, H⟩ := H
      (try dsimp only at H)
      have H' := za H
      clear H
      go_wp2_with (first | ((with_reducible refine zg 68 rfl ?_); refine kZ (some 35) Try.func68 #[.pointer (some ⟨g, 0, none⟩), .slice Ii sH.length Ij] ?_; refine (Rm.out k1 (by have := lH.out; omega) g aK aGP aGQ aGR aGS (fun k_ => some k_ = (.slice Ii sH.length Ij : Value).ownBlock) (.slice Ii sH.length Ij) sH aBC aTe aTf aTg aTh w0 _ mZ qJ Qi A25.out).mono ?_; rintro e w27 ⟨bP4, rfl, ho0, hi, hb, hkp⟩; refine ⟨_, rfl, ?_⟩; replace HI0 := za (hi); have LC := za (Kd.aQ (ok' := fun k_ => (gZ k_ ∨ w.heap.size ≤ k_)) ho0 (fun k_ wZ => Or.elim wZ (fun hs_ => (iW.out.1 k_ (hs_).symm)) (fun Gc => (.inr (Nat.le_trans Hy Gc))))); replace HK := za (Kept.sK (S := (fun k_ => (gZ k_) ∨ k_ = g)) Dm hkp (fun k_ hs_ => Or.elim hs_ (fun hs_ => (fun e_ => Or.imp_left Or.inl ((iW.out.1 k_ e_.symm))) hs_) (fun e_ => .inl (.inr e_)))); replace HB := za (hb); clear iW; (try clear hb hkp ho0); obtain ⟨UO, UQ, aBA⟩ := Kd.bJ LC.out; subst aBA) | ((with_reducible refine zg 57 rfl ?_); refine kZ (some 38) Try.func57 #[.slice UO aBC.length UQ, .int .i64 (wrap64 ((sH.length : Int) - 1)), .int .i64 8, .int .i64 I4] ?_; refine (wC.calls (fun k_ => some k_ = (.slice UO aBC.length UQ : Value).ownBlock) (.slice UO aBC.length UQ) aBC (wrap64 ((sH.length : Int) - 1)) 8 I4 aGc w0 _ qJ (Kd.sJ rfl LC.out) A26.out).mono ?_; rintro e w29 ⟨bP5, rfl, ho0, hb, hkp⟩; refine ⟨_, rfl, ?_⟩; replace HI0 := za (aH.kept mZ hkp (fun hs_ => (fun e_ => (aH.own_ne HI0.out LC.out (by decide)) e_) hs_)); have aTi := za (Kd.aQ (ok' := fun k_ => (gZ k_ ∨ w.heap.size ≤ k_)) ho0 (fun k_ wZ => Or.elim wZ (fun hs_ => (LC.out.1 k_ (hs_).symm)) (fun Gc => (.inr (Nat.le_trans Hy Gc))))); replace HK := za (Kept.sK (S := (fun k_ => (gZ k_) ∨ k_ = g)) Dm hkp (fun k_ hs_ => (fun e_ => Or.imp_left Or.inl ((LC.out.1 k_ e_.symm))) hs_)); replace HB := za (hb); clear LC))
      go_roundg k1
      case measure => have := lH.out; omega
      case rel => exact ⟨(aGc), (aTe), (aTf), (aTg), (aTh), H', ⟨by have := lH.out; omega⟩, ⟨by (with_reducible repeat (first | apply Kd.bC | apply Kd.bF | apply Kd.bP)); exact aTi.out⟩, ⟨mZ⟩, ⟨Dm⟩, ⟨qJ⟩⟩
     ·
      replace H := jT H
      obtain ⟨⟨bJG, aTj, aTk, aTl, aTm⟩, A30, H⟩ := H
      (try dsimp only at H)
      have aTn := za H
      clear H
      go_upto_if 39 with (first | ((with_reducible refine zg 30 rfl ?_); refine kZ (some 41) Try.func30 #[.pointer (some ⟨g, 0, none⟩), .string (⟨#[37]⟩ : ByteArray)] ?_; refine (eX.calls g aK aGP aGQ aGR aGS (⟨#[37]⟩ : ByteArray) bJG aTj aTk aTl aTm w0 _ mZ qJ A30.out).mono ?_; rintro e w32 ⟨rfl, hi, hb, hk⟩; refine ⟨_, rfl, ?_⟩; replace iW := za (Kd.aQ (Kd.fC (aH.apart (show aH w0 _ g aK aGP aGQ aGR aGS from mZ) (zr iW.out) (by decide)) hk (fun _ h => h.2)) (fun _ h => h.1)); replace HK := za (Kept.nT (S := (fun k_ => (gZ k_) ∨ k_ = g)) Dm hk (.inl (.inr rfl))); replace HB := za (hb); replace HI0 := za (hi)))
      (try simp only [Act.put, List.setIfInBounds_toArray, List.set_cons_zero, List.set_cons_succ])
      have H := aTn.out
      clear aTn
      replace H := Bq H
      rcases H with ⟨rfl, H⟩ | ⟨rfl, H⟩
      ·
       replace H := jT H
       obtain ⟨⟨aBD, aTo, aTp, aTq, aTr⟩, A34, H⟩ := H
       (try dsimp only at H)
       replace H := jT H
       obtain ⟨aGd, A35, H⟩ := H
       (try dsimp only at H)
       have H' := za H
       clear H
       go_wp2_with (first | ((with_reducible refine zg 68 rfl ?_); refine kZ (some 44) Try.func68 #[.pointer (some ⟨g, 0, none⟩), .slice Ii sH.length Ij] ?_; refine (Rm.out k1 (by have := lH.out; omega) g aK aTj aTk aTl aTm (fun k_ => some k_ = (.slice Ii sH.length Ij : Value).ownBlock) (.slice Ii sH.length Ij) sH aBD aTo aTp aTq aTr w0 _ mZ qJ Qi A34.out).mono ?_; rintro e w36 ⟨bP6, rfl, ho0, hi, hb, hkp⟩; refine ⟨_, rfl, ?_⟩; replace HI0 := za (hi); have LD := za (Kd.aQ (ok' := fun k_ => (gZ k_ ∨ w.heap.size ≤ k_)) ho0 (fun k_ wZ => Or.elim wZ (fun hs_ => (iW.out.1 k_ (hs_).symm)) (fun Gc => (.inr (Nat.le_trans Hy Gc))))); replace HK := za (Kept.sK (S := (fun k_ => (gZ k_) ∨ k_ = g)) Dm hkp (fun k_ hs_ => Or.elim hs_ (fun hs_ => (fun e_ => Or.imp_left Or.inl ((iW.out.1 k_ e_.symm))) hs_) (fun e_ => .inl (.inr e_)))); replace HB := za (hb); clear iW; (try clear hb hkp ho0); obtain ⟨aMr, aMs, bJH⟩ := Kd.bJ LD.out; subst bJH) | ((with_reducible refine zg 57 rfl ?_); refine kZ (some 47) Try.func57 #[.slice aMr aBD.length aMs, .int .i64 (wrap64 ((sH.length : Int) - 1)), .int .i64 9, .int .i64 I4] ?_; refine (wC.calls (fun k_ => some k_ = (.slice aMr aBD.length aMs : Value).ownBlock) (.slice aMr aBD.length aMs) aBD (wrap64 ((sH.length : Int) - 1)) 9 I4 aGd w0 _ qJ (Kd.sJ rfl LD.out) A35.out).mono ?_; rintro e w38 ⟨bP7, rfl, ho0, hb, hkp⟩; refine ⟨_, rfl, ?_⟩; replace HI0 := za (aH.kept mZ hkp (fun hs_ => (fun e_ => (aH.own_ne HI0.out LD.out (by decide)) e_) hs_)); have aTs := za (Kd.aQ (ok' := fun k_ => (gZ k_ ∨ w.heap.size ≤ k_)) ho0 (fun k_ wZ => Or.elim wZ (fun hs_ => (LD.out.1 k_ (hs_).symm)) (fun Gc => (.inr (Nat.le_trans Hy Gc))))); replace HK := za (Kept.sK (S := (fun k_ => (gZ k_) ∨ k_ = g)) Dm hkp (fun k_ hs_ => (fun e_ => Or.imp_left Or.inl ((LD.out.1 k_ e_.symm))) hs_)); replace HB := za (hb); clear LD))
       go_roundg k1
       case measure => have := lH.out; omega
       case rel => exact ⟨(aGd), (aTo), (aTp), (aTq), (aTr), H', ⟨by have := lH.out; omega⟩, ⟨by (with_reducible repeat (first | apply Kd.bC | apply Kd.bF | apply Kd.bP)); exact aTs.out⟩, ⟨mZ⟩, ⟨Dm⟩, ⟨qJ⟩⟩
      ·
       simp only [Option.some.injEq, Prod.mk.injEq] at H
       obtain ⟨rfl, rfl, rfl, rfl, rfl⟩ := H
       go_wp2
       go_ret
       exact ⟨_, jR, F9, mZ, qJ, Dm⟩
   ·
    (first | rw [oZ] | (simp only [dO, dQ]; rw [oZ]) | skip)
    simp only [Option.some.injEq, Prod.mk.injEq] at H
    obtain ⟨rfl, rfl, rfl, rfl, rfl⟩ := H
    go_wp2
    go_ret
    exact ⟨_, jR, F9, mZ, qJ, Dm⟩
theorem lD.all (k : Nat) : (∀ (g : Nat) (aK : List (iJ)) (aX : Int) (bM : Int) (bN : Int) (bQ : Int) (gZ : Nat → Prop) (dK : Value) (l1 : List (dP)) (r1 : List (dP)) (r2 : Int) (r3 : Int) (r4 : Int) (r5 : Int) (w0 w : World) (hI : aH w0 w g aK aX bM bN bQ) (hB : Below w0.heap.size w0 w) (ho1 : Kd.R gU 112 w w0.heap.size gZ dK l1) (h : dY.f k aK aX bM bN bQ l1 = some (r1, r2, r3, r4, r5)),
  Calls Try.prog 68 #[.pointer (some ⟨g, 0, none⟩), dK] w fun e w' => ∃ lZ : Value, e = .returned (lZ) ∧ Kd.R gU 112 w' w0.heap.size (fun k_ => (gZ k_ ∨ w.heap.size ≤ k_)) lZ r1 ∧ aH w0 w' g aK r2 r3 r4 r5 ∧ Below w0.heap.size w0 w' ∧ Kept w w' (fun k_ => (gZ k_) ∨ k_ = g)) ∧ (∀ (g : Nat) (aK : List (iJ)) (aX : Int) (bM : Int) (bN : Int) (bQ : Int) (gZ : Nat → Prop) (dK : Value) (l1 : List (dP)) (r1 : List (dP)) (r2 : Int) (r3 : Int) (r4 : Int) (r5 : Int) (w0 w : World) (hI : aH w0 w g aK aX bM bN bQ) (hB : Below w0.heap.size w0 w) (ho1 : Kd.R gU 112 w w0.heap.size gZ dK l1) (h : fZ.f k aK aX bM bN bQ l1 = some (r1, r2, r3, r4, r5)),
  Calls Try.prog 49 #[.pointer (some ⟨g, 0, none⟩), dK] w fun e w' => ∃ lZ : Value, e = .returned (lZ) ∧ Kd.R gU 112 w' w0.heap.size (fun k_ => (gZ k_ ∨ w.heap.size ≤ k_)) lZ r1 ∧ aH w0 w' g aK r2 r3 r4 r5 ∧ Below w0.heap.size w0 w' ∧ Kept w w' (fun k_ => (gZ k_) ∨ k_ = g)) ∧ (∀ (g : Nat) (aK : List (iJ)) (aX : Int) (bM : Int) (bN : Int) (bQ : Int) (gZ : Nat → Prop) (dK : Value) (l1 : List (dP)) (r1 : List (dP)) (r2 : Int) (r3 : Int) (r4 : Int) (r5 : Int) (w0 w : World) (hI : aH w0 w g aK aX bM bN bQ) (hB : Below w0.heap.size w0 w) (ho1 : Kd.R gU 112 w w0.heap.size gZ dK l1) (h : kT.f k aK aX bM bN bQ l1 = some (r1, r2, r3, r4, r5)),
  Calls Try.prog 56 #[.pointer (some ⟨g, 0, none⟩), dK] w fun e w' => ∃ lZ : Value, e = .returned (lZ) ∧ Kd.R gU 112 w' w0.heap.size (fun k_ => (gZ k_ ∨ w.heap.size ≤ k_)) lZ r1 ∧ aH w0 w' g aK r2 r3 r4 r5 ∧ Below w0.heap.size w0 w' ∧ Kept w w' (fun k_ => (gZ k_) ∨ k_ = g)) ∧ (∀ (g : Nat) (aK : List (iJ)) (aX : Int) (bM : Int) (bN : Int) (bQ : Int) (gZ : Nat → Prop) (dK : Value) (l1 : List (dP)) (r1 : List (dP)) (r2 : Int) (r3 : Int) (r4 : Int) (r5 : Int) (w0 w : World) (hI : aH w0 w g aK aX bM bN bQ) (hB : Below w0.heap.size w0 w) (ho1 : Kd.R gU 112 w w0.heap.size gZ dK l1) (h : iN.f k aK aX bM bN bQ l1 = some (r1, r2, r3, r4, r5)),
  Calls Try.prog 65 #[.pointer (some ⟨g, 0, none⟩), dK] w fun e w' => ∃ lZ : Value, e = .returned (lZ) ∧ Kd.R gU 112 w' w0.heap.size (fun k_ => (gZ k_ ∨ w.heap.size ≤ k_)) lZ r1 ∧ aH w0 w' g aK r2 r3 r4 r5 ∧ Below w0.heap.size w0 w' ∧ Kept w w' (fun k_ => (gZ k_) ∨ k_ = g)) := by
 induction k using Nat.strongRecOn with
 | _ k ih => exact ⟨dY.step k ⟨fun m hm => (ih m hm).1⟩ ⟨fun m hm => (ih m hm).2.1⟩ ⟨fun m hm => (ih m hm).2.2.1⟩ ⟨fun m hm => (ih m hm).2.2.2⟩, fZ.step k ⟨fun m hm => (ih m hm).1⟩ ⟨fun m hm => (ih m hm).2.1⟩ ⟨fun m hm => (ih m hm).2.2.1⟩ ⟨fun m hm => (ih m hm).2.2.2⟩, kT.step k ⟨fun m hm => (ih m hm).1⟩ ⟨fun m hm => (ih m hm).2.1⟩ ⟨fun m hm => (ih m hm).2.2.1⟩ ⟨fun m hm => (ih m hm).2.2.2⟩, iN.step k ⟨fun m hm => (ih m hm).1⟩ ⟨fun m hm => (ih m hm).2.1⟩ ⟨fun m hm => (ih m hm).2.2.1⟩ ⟨fun m hm => (ih m hm).2.2.2⟩⟩
theorem dY.calls (k : Nat) : ∀ (g : Nat) (aK : List (iJ)) (aX : Int) (bM : Int) (bN : Int) (bQ : Int) (gZ : Nat → Prop) (dK : Value) (l1 : List (dP)) (r1 : List (dP)) (r2 : Int) (r3 : Int) (r4 : Int) (r5 : Int) (w0 w : World) (hI : aH w0 w g aK aX bM bN bQ) (hB : Below w0.heap.size w0 w) (ho1 : Kd.R gU 112 w w0.heap.size gZ dK l1) (h : dY.f k aK aX bM bN bQ l1 = some (r1, r2, r3, r4, r5)),
  Calls Try.prog 68 #[.pointer (some ⟨g, 0, none⟩), dK] w fun e w' => ∃ lZ : Value, e = .returned (lZ) ∧ Kd.R gU 112 w' w0.heap.size (fun k_ => (gZ k_ ∨ w.heap.size ≤ k_)) lZ r1 ∧ aH w0 w' g aK r2 r3 r4 r5 ∧ Below w0.heap.size w0 w' ∧ Kept w w' (fun k_ => (gZ k_) ∨ k_ = g) := (lD.all k).1
theorem fZ.calls (k : Nat) : ∀ (g : Nat) (aK : List (iJ)) (aX : Int) (bM : Int) (bN : Int) (bQ : Int) (gZ : Nat → Prop) (dK : Value) (l1 : List (dP)) (r1 : List (dP)) (r2 : Int) (r3 : Int) (r4 : Int) (r5 : Int) (w0 w : World) (hI : aH w0 w g aK aX bM bN bQ) (hB : Below w0.heap.size w0 w) (ho1 : Kd.R gU 112 w w0.heap.size gZ dK l1) (h : fZ.f k aK aX bM bN bQ l1 = some (r1, r2, r3, r4, r5)),
  Calls Try.prog 49 #[.pointer (some ⟨g, 0, none⟩), dK] w fun e w' => ∃ lZ : Value, e = .returned (lZ) ∧ Kd.R gU 112 w' w0.heap.size (fun k_ => (gZ k_ ∨ w.heap.size ≤ k_)) lZ r1 ∧ aH w0 w' g aK r2 r3 r4 r5 ∧ Below w0.heap.size w0 w' ∧ Kept w w' (fun k_ => (gZ k_) ∨ k_ = g) := (lD.all k).2.1
theorem kT.calls (k : Nat) : ∀ (g : Nat) (aK : List (iJ)) (aX : Int) (bM : Int) (bN : Int) (bQ : Int) (gZ : Nat → Prop) (dK : Value) (l1 : List (dP)) (r1 : List (dP)) (r2 : Int) (r3 : Int) (r4 : Int) (r5 : Int) (w0 w : World) (hI : aH w0 w g aK aX bM bN bQ) (hB : Below w0.heap.size w0 w) (ho1 : Kd.R gU 112 w w0.heap.size gZ dK l1) (h : kT.f k aK aX bM bN bQ l1 = some (r1, r2, r3, r4, r5)),
  Calls Try.prog 56 #[.pointer (some ⟨g, 0, none⟩), dK] w fun e w' => ∃ lZ : Value, e = .returned (lZ) ∧ Kd.R gU 112 w' w0.heap.size (fun k_ => (gZ k_ ∨ w.heap.size ≤ k_)) lZ r1 ∧ aH w0 w' g aK r2 r3 r4 r5 ∧ Below w0.heap.size w0 w' ∧ Kept w w' (fun k_ => (gZ k_) ∨ k_ = g) := (lD.all k).2.2.1
theorem iN.calls (k : Nat) : ∀ (g : Nat) (aK : List (iJ)) (aX : Int) (bM : Int) (bN : Int) (bQ : Int) (gZ : Nat → Prop) (dK : Value) (l1 : List (dP)) (r1 : List (dP)) (r2 : Int) (r3 : Int) (r4 : Int) (r5 : Int) (w0 w : World) (hI : aH w0 w g aK aX bM bN bQ) (hB : Below w0.heap.size w0 w) (ho1 : Kd.R gU 112 w w0.heap.size gZ dK l1) (h : iN.f k aK aX bM bN bQ l1 = some (r1, r2, r3, r4, r5)),
  Calls Try.prog 65 #[.pointer (some ⟨g, 0, none⟩), dK] w fun e w' => ∃ lZ : Value, e = .returned (lZ) ∧ Kd.R gU 112 w' w0.heap.size (fun k_ => (gZ k_ ∨ w.heap.size ≤ k_)) lZ r1 ∧ aH w0 w' g aK r2 r3 r4 r5 ∧ Below w0.heap.size w0 w' ∧ Kept w w' (fun k_ => (gZ k_) ∨ k_ = g) := (lD.all k).2.2.2
end Go.Proofs.Ytiaeldibklcobaa.eZ
