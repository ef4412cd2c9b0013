import Derived.Test.YtiaeldibklcobaaZRPx18
namespace Go.Proofs.Ytiaeldibklcobaa.eZ
open Go.RowKit Go.Proofs.YtiaeldibklcobaaW.bL Go.Proofs.YtiaeldibklcobaaW.fV Go.Proofs.YtiaeldibklcobaaW.iZ
set_option maxHeartbeats 8000000
set_option maxRecDepth 100000
attribute [local go_sem] kL kM lX lY jC jD kN kP
set_option linter.unusedVariables false
set_option linter.unusedSimpArgs false
def eQ.f (k : Nat)  : Option (Bool) := (gM.f k (⟨#[109, 111, 100, 117, 108, 101, 32, 109, 59, 32, 112, 114, 111, 99, 32, 112, 40, 41, 32, 45, 62, 32, 97, 32, 112, 99, 32, 97, 32, 117, 115, 101, 115, 32, 123, 125, 32, 123, 32, 114, 101, 115, 117, 108, 116, 32, 61, 32, 53, 59, 32, 115, 107, 105, 112, 59, 32, 125]⟩ : ByteArray)).bind fun Bd => ((some (([(⟨Bd.1, Bd.2.1, Bd.2.2.1, Bd.2.2.2.1, Bd.2.2.2.2.1⟩ : nM)] : List (nM)) : List (nM))).bind fun Gr => ((aC.f k Gr (⟨#[109]⟩ : ByteArray) (⟨#[112]⟩ : ByteArray) ([] : List Int) ([] : List (gK)) 1).bind fun ER => ((aC.f k Gr (⟨#[109]⟩ : ByteArray) (⟨#[112]⟩ : ByteArray) ([] : List Int) ([] : List (gK)) 2).bind fun Be => (if ER.1 = 2 then (if Be.1 = 1 then (if Be.2.2.1 = 5 then (some (Be.2.2.2.2 == 0)) else (some false)) else (some false)) else (some false)))))
theorem eQ.mono : ∀ k, bV (eQ.f k ) (eQ.f (k + 1) ) := by
 intro  k
 unfold eQ.f
 repeat' with_reducible first | apply gM.mono | apply aC.mono | exact bV.refl _ | exact bV.none _ | refine bV.ite ?_ ?_ | refine bV.bind ?_ (fun _ => ?_)
theorem eQ.calls (k : Nat)  (r : Bool) (w : World) (h : eQ.f k  = some r) :
  Calls Try.prog 5 #[] w fun e w' => e = .returned (.bool r) ∧ Below w.heap.size w w' := by
 have VW := Try.underlying31
 have bMh := Try.underlying41
 have HB := za (Below.refl w.heap.size w)
 have H : ((gM.f k (⟨#[109, 111, 100, 117, 108, 101, 32, 109, 59, 32, 112, 114, 111, 99, 32, 112, 40, 41, 32, 45, 62, 32, 97, 32, 112, 99, 32, 97, 32, 117, 115, 101, 115, 32, 123, 125, 32, 123, 32, 114, 101, 115, 117, 108, 116, 32, 61, 32, 53, 59, 32, 115, 107, 105, 112, 59, 32, 125]⟩ : ByteArray)).bind fun Bd => ((some (([(⟨Bd.1, Bd.2.1, Bd.2.2.1, Bd.2.2.2.1, Bd.2.2.2.2.1⟩ : nM)] : List (nM)) : List (nM))).bind fun Gr => ((aC.f k Gr (⟨#[109]⟩ : ByteArray) (⟨#[112]⟩ : ByteArray) ([] : List Int) ([] : List (gK)) 1).bind fun ER => ((aC.f k Gr (⟨#[109]⟩ : ByteArray) (⟨#[112]⟩ : ByteArray) ([] : List Int) ([] : List (gK)) 2).bind fun Be => (if ER.1 = 2 then (if Be.1 = 1 then (if Be.2.2.1 = 5 then (some (Be.2.2.2.2 == 0)) else (some false)) else (some false)) else (some false)))))) = some r := h
 clear h
 replace H := jT H
 obtain ⟨⟨Nt, Nu, Es, Et, Gs, aXN, aXO⟩, A1, H⟩ := H
 (try dsimp only at H)
 obtain ⟨Gr, ES⟩ : ∃ y_ : List (nM), y_ = (([(⟨Nt, Nu, Es, Et, Gs⟩ : nM)] : List (nM))) := ⟨_, rfl⟩
 replace H : ((aC.f k Gr (⟨#[109]⟩ : ByteArray) (⟨#[112]⟩ : ByteArray) ([] : List Int) ([] : List (gK)) 1).bind fun ER => ((aC.f k Gr (⟨#[109]⟩ : ByteArray) (⟨#[112]⟩ : ByteArray) ([] : List Int) ([] : List (gK)) 2).bind fun Be => (if ER.1 = 2 then (if Be.1 = 1 then (if Be.2.2.1 = 5 then (some (Be.2.2.2.2 == 0)) else (some false)) else (some false)) else (some false)))) = some r := by first | (rw [ES]; with_reducible exact H) | (have lS := (Option.bind_some _ _).symm.trans H; rw [ES]; with_reducible exact lS) | (have lS := (Option.bind_some _ _).symm.trans H; with_reducible exact lS) | with_reducible exact H | (rw [ES]; exact H) | exact H
 have aDb := za ES
 clear ES
 replace H := jT H
 obtain ⟨⟨aXP, aXQ, aXR, aXS, aXT⟩, A2, H⟩ := H
 (try dsimp only at H)
 replace H := jT H
 obtain ⟨⟨aXU, aXV, aXW, aXX, aXY⟩, A3, H⟩ := H
 (try dsimp only at H)
 have JD := za H
 clear H
 go_enter Try.func5, Try.ntmps5
 go_upto_region 4 with (first | ((with_reducible refine zg 11 rfl ?_); refine kZ (some 8) Try.func11 #[.string (⟨#[109, 111, 100, 117, 108, 101, 32, 109, 59, 32, 112, 114, 111, 99, 32, 112, 40, 41, 32, 45, 62, 32, 97, 32, 112, 99, 32, 97, 32, 117, 115, 101, 115, 32, 123, 125, 32, 123, 32, 114, 101, 115, 117, 108, 116, 32, 61, 32, 53, 59, 32, 115, 107, 105, 112, 59, 32, 125]⟩ : ByteArray)] ?_; refine (gM.calls k (⟨#[109, 111, 100, 117, 108, 101, 32, 109, 59, 32, 112, 114, 111, 99, 32, 112, 40, 41, 32, 45, 62, 32, 97, 32, 112, 99, 32, 97, 32, 117, 115, 101, 115, 32, 123, 125, 32, 123, 32, 114, 101, 115, 117, 108, 116, 32, 61, 32, 53, 59, 32, 115, 107, 105, 112, 59, 32, 125]⟩ : ByteArray) Nt Nu Es Et Gs aXN aXO _ A1.out).mono ?_; rintro e w5 ⟨aXZ, aX0, bOJ, rfl, ho0, ho1, ho2, hb⟩; refine ⟨_, rfl, ?_⟩; have Jn := za (Kd.eU ho0 (aT kU)); have Jo := za (Kd.eU ho1 (aT kU)); have Jp := za (Kd.Q3 (Kd.Fs (ok' := fun k_ => some k_ ≠ (aXZ : Value).ownBlock ∧ some k_ ≠ (aX0 : Value).ownBlock) (Kd.R_N (Kd.jO (Kd.pK (Kd.pK ho2 (Kd.oG ho0) (by decide)) (Kd.oG ho1) (by decide)))) (fun k_ wZ => ⟨wZ.1.1.2, wZ.1.2⟩)) (aT kU)); replace HB := za (aM kU hb)) | ((with_reducible refine bO (N := 1) rfl ?_); refine bZ ?hg (N := 1) ?hd (cs := #[.string (⟨#[]⟩ : ByteArray), .int .i64 0, .slice none 0 0, .slice none 0 0, .slice none 0 0]) (t := 31) ?hr ?_; (case hd => rfl); (case hg => rfl); (case hr => exact jA); intro jJ hg w6 gP hb; replace Jn := qF Jn hb; replace Jo := qF Jo hb; replace Jp := za (Kd.Fu (Kd.CL (by (with_reducible repeat (first | apply Kd.NC | apply Kd.ND | apply Kd.D8)); exact Jp.out) jJ (Nat.le_of_eq hg.symm)) hb); have mQ := za (gP); have bMi := za ((by rw [hg]; exact (aT kU) : w.heap.size ≤ jJ)); have F5 := za ((by rw [hg]; exact (aT kU) : w.heap.size ≤ jJ)); replace HB := za (aM kU hb); clear hb gP hg; obtain ⟨Wl, Wm, Wn, DC, DD⟩ := Zj mQ.out; obtain ⟨aOv, Wo, Wp, DF, DI⟩ := JC mQ.out; obtain ⟨Ao8, co8, eo8⟩ := Kd.bJ Jn.out; subst eo8; obtain ⟨Ao9, co9, eo9⟩ := Kd.bJ Jo.out; subst eo9; obtain ⟨O1, O3, aOw⟩ := Kd.Q4 Jp.out; subst aOw) | ((with_reducible refine wX (t := 31) (p := 1) rfl ?_); refine vC (t := 31) (p := 1) (v := ?bMj) (w1 := (((((w6.setCell ⟨jJ, 0, none⟩ (.string Nt)).setCell ⟨jJ, 1, none⟩ (.int .i64 Nu)).setCell ⟨jJ, 2, none⟩ (.slice Ao8 Es.length co8)).setCell ⟨jJ, 3, none⟩ (.slice Ao9 Et.length co9)).setCell ⟨jJ, 4, none⟩ (.slice O1 Gs.length O3))) ?hg ?ho ?hn ?hr ?_; (case ho => rfl); (case hg => rfl); (case hn => rfl); (case hr => exact jA); intro OY hw; replace Jn : aG (Kd.R Yq 87 OY w.heap.size (fun _ => True) (.slice Ao8 Es.length co8) Es) := ⟨(by rw [hw]; exact (by (with_reducible repeat (first | apply Kd.bC | apply Kd.bF | apply Kd.bP)); exact Kd.aQ (Qg (Kd.dS Jn.out mQ.out (by decide)) (fun _ hk => hk.2)) (fun _ hk => trivial)))⟩; replace Jo : aG (Kd.R Xh 49 OY w.heap.size (fun _ => True) (.slice Ao9 Et.length co9) Et) := ⟨(by rw [hw]; exact (by (with_reducible repeat (first | apply Kd.bC | apply Kd.bF | apply Kd.bP)); exact Kd.aQ (Qg (Kd.dS Jo.out mQ.out (by decide)) (fun _ hk => hk.2)) (fun _ hk => trivial)))⟩; replace Jp : aG (Kd.N Vo 38 OY w.heap.size (fun k_ => some k_ ≠ (.slice Ao8 Es.length co8 : Value).ownBlock ∧ some k_ ≠ (.slice Ao9 Et.length co9 : Value).ownBlock ∧ k_ ≠ jJ) (.slice O1 Gs.length O3) Gs) := ⟨(by rw [hw]; exact (by (with_reducible repeat (first | apply Kd.NC | apply Kd.ND | apply Kd.D8)); exact Kd.Fs (Kd.SF (p := ⟨jJ, 4, none⟩) (Kd.SF (p := ⟨jJ, 3, none⟩) (Kd.SF (p := ⟨jJ, 2, none⟩) (Kd.SF (p := ⟨jJ, 1, none⟩) (Kd.SF (p := ⟨jJ, 0, none⟩) (Kd.Fs Jp.out (fun k_ hk => (⟨hk, hk.2⟩ : _ ∧ k_ ≠ jJ))) (fun _ hk => hk.2) (.string Nt)) (fun _ hk => hk.2) (.int .i64 Nu)) (fun _ hk => hk.2) (.slice Ao8 Es.length co8)) (fun _ hk => hk.2) (.slice Ao9 Et.length co9)) (fun _ hk => hk.2) (.slice O1 Gs.length O3)) (fun _ hk => by first | exact ⟨hk.1.1.1, ⟨hk.1.1.2, hk.1.2⟩⟩ | ((repeat' refine And.intro ?_ ?_) <;> first | exact trivial | exact hk | exact hk.1 | exact hk.2 | exact hk.1.1 | exact hk.1.2 | exact hk.2.1 | exact hk.2.2 | exact hk.1.1.1 | exact hk.1.1.2 | exact hk.1.2.1 | exact hk.1.2.2 | exact hk.2.1.1 | exact hk.2.1.2 | exact hk.2.2.1 | exact hk.2.2.2 | exact hk.1.1.1.1 | exact hk.1.1.1.2 | exact hk.1.1.2.1 | exact hk.1.1.2.2 | exact hk.1.2.1.1 | exact hk.1.2.1.2 | exact hk.1.2.2.1 | exact hk.1.2.2.2 | exact hk.2.1.1.1 | exact hk.2.1.1.2 | exact hk.2.1.2.1 | exact hk.2.1.2.2 | exact hk.2.2.1.1 | exact hk.2.2.1.2 | exact hk.2.2.2.1 | exact hk.2.2.2.2))))⟩; replace mQ : aG (OY.heap[jJ]? = some (.cells #[.string Nt, .int .i64 Nu, .slice Ao8 Es.length co8, .slice Ao9 Et.length co9, .slice O1 Gs.length O3] 31 (0, 0))) := ⟨(by rw [hw]; exact (zP5 mQ.out))⟩; replace HB : aG (Below w.heap.size w OY) := ⟨(by rw [hw]; exact Yr)⟩; clear hw; obtain ⟨dw, dx, dz, aHC, aHD⟩ := Zj mQ.out; obtain ⟨aIL, ed, ek, aHE⟩ := zf4 mQ.out; have aHF := aD mQ.out 4) | ((with_reducible refine bO (N := 13) rfl ?_); refine Kd.aPj k31 _ 31 ?hg (N' := 13) ?hd (xs := ([(⟨Nt, Nu, Es, Et, Gs⟩ : nM)] : List (nM))) (inner := [.string Nt, .int .i64 Nu, .slice Ao8 Es.length co8, .slice Ao9 Et.length co9, .slice O1 Gs.length O3]) (ok := (fun k_ => k_ ≠ jJ)) (yO := (fun k_ => k_ ≠ jJ)) ?hr ?hp (fun _ hk => hk) ((show ∀ k_, OY.heap.size ≤ k_ → (fun k_ => k_ ≠ jJ) k_ from fun k_ hk => Kd.MS (g := jJ) (zb mQ.out) k_ hk) _ (Nat.le_refl _)) (Below.refl _ _) (Nat.le_refl _) (by simp) ?_; (case hd => rfl); (case hg => rfl); (case hr => exact jA); (case hp => exact (jB.c5 (show Kd.FK k31 _ _ (⟨Nt, Nu, Es, Et, Gs⟩ : nM) [.string Nt, .int .i64 Nu, .slice Ao8 Es.length co8, .slice Ao9 Et.length co9, .slice O1 Gs.length O3] from (aEA _ _ (⟨Nt, Nu, Es, Et, Gs⟩ : nM) (Kd.cZ (Kd.aQ (ok' := (fun k_ => k_ ≠ jJ)) (Kd.dS (Jn.out) mQ.out (by decide)) (fun k_ hk => hk.2))).2.1 (Kd.R_F (Kd.aQ (ok' := (fun k_ => k_ ≠ jJ)) (Kd.dS (Jn.out) mQ.out (by decide)) (fun k_ hk => hk.2))) (Kd.cZ (Kd.aQ (ok' := (fun k_ => k_ ≠ jJ)) (Kd.dS (Jo.out) mQ.out (by decide)) (fun k_ hk => hk.2))).2.1 (Kd.R_F (Kd.aQ (ok' := (fun k_ => k_ ≠ jJ)) (Kd.dS (Jo.out) mQ.out (by decide)) (fun k_ hk => hk.2))) (Kd.Ho (Kd.Fs (ok' := (fun k_ => k_ ≠ jJ)) (Jp.out) (fun k_ hk => hk.2.2))).2.1 (Kd.N_F (Kd.Fs (ok' := (fun k_ => k_ ≠ jJ)) (Jp.out) (fun k_ hk => hk.2.2))))) (jB.none _ _))); intro bOK ZW aDc hb hg_ Rq; clear hg_ Rq; (first | rw [← aDb.out] at aDc | (simp only [Int.reduceToNat] at aDc; rw [← aDb.out] at aDc)); have Fz := za (Kd.Q3 aDc (aT Yr)); replace mQ := za (aY (g := jJ) (zb mQ.out) hb); replace HB := za (aM Yr hb); clear Jn Jo Jp; clear hb aDc; obtain ⟨Yv, Yw, aBs⟩ := Kd.Q4 Fz.out; subst aBs) | ((with_reducible refine gL (f := 8) rfl ?_); refine nQ (some 15) rfl rfl Try.func8 dU rfl #[.slice Yv Gr.length Yw, .string (⟨#[109]⟩ : ByteArray), .string (⟨#[112]⟩ : ByteArray), .slice none 0 0, .slice none 0 0, .int .i64 1] rfl Fb ?_; (refine (aC.calls k _ _ Gr (⟨#[109]⟩ : ByteArray) (⟨#[112]⟩ : ByteArray) _ _ ([] : List Int) _ _ ([] : List (gK)) 1 aXP aXQ aXR aXS aXT _ ?side1 ?side2 ?side3 ?side4 ?side5 ?side6 A2.out).mono ?_); (case side1 => exact aJH); (case side2 => exact (Kd.Ho Fz.out).2.1); (case side3 => exact Kd.Pv _ _); (case side4 => exact Nat.le_refl _); (case side5 => exact Kd.Pv _ _); (case side6 => exact Nat.le_refl _); rintro e w16 ⟨bOL, bOM, rfl, ho0, ho1, hb⟩; refine ⟨_, rfl, ?_⟩; replace Fz := za (Kd.Fs (Kd.NF (Kd.NF (Kd.aJk U1 hb) (Kd.iV ho0)) (Kd.iV ho1)) (fun _ h_ => h_.1)); have Jq := za (Kd.eU ho0 (aT Yr)); have Jr := za (Kd.eU ho1 (aT Yr)); replace mQ := za (aY (g := jJ) (zb mQ.out) hb); replace HB := za (aM Yr hb)) | ((with_reducible refine gL (f := 8) rfl ?_); refine nQ (some 17) rfl rfl Try.func8 dU rfl #[.slice Yv Gr.length Yw, .string (⟨#[109]⟩ : ByteArray), .string (⟨#[112]⟩ : ByteArray), .slice none 0 0, .slice none 0 0, .int .i64 2] rfl Fb ?_; (refine (aC.calls k _ _ Gr (⟨#[109]⟩ : ByteArray) (⟨#[112]⟩ : ByteArray) _ _ ([] : List Int) _ _ ([] : List (gK)) 2 aXU aXV aXW aXX aXY _ ?side1 ?side2 ?side3 ?side4 ?side5 ?side6 A3.out).mono ?_); (case side1 => exact aJH); (case side2 => exact (Kd.Ho Fz.out).2.1); (case side3 => exact Kd.Pv _ _); (case side4 => exact Nat.le_refl _); (case side5 => exact Kd.Pv _ _); (case side6 => exact Nat.le_refl _); rintro e L_ ⟨bON, bOO, rfl, ho0, ho1, hb⟩; refine ⟨_, rfl, ?_⟩; replace Fz := za (Kd.Fs (Kd.NF (Kd.NF (Kd.aJk U1 hb) (Kd.iV ho0)) (Kd.iV ho1)) (fun _ h_ => h_.1)); have ET := za (Kd.eU (Kd.yQ ho0 (Kd.Hg (zr Jq.out))) (aT Yr)); replace Jq := za (Kd.mX (zr Jq.out) (Kd.iV ho0) hb); have EU := za (Kd.eU (Kd.yQ ho1 (Kd.Hg (zr Jr.out))) (aT Yr)); replace Jr := za (Kd.mX (zr Jr.out) (Kd.iV ho1) hb); replace mQ := za (aY (g := jJ) (zb mQ.out) hb); replace HB := za (aM Yr hb)) | ((with_reducible refine bO (N := 5) rfl ?_); refine bZ ?hg (N := 5) ?hd (cs := #[.int .i64 0, .slice none 0 0, .int .i64 0, .slice none 0 0, .int .i64 0]) (t := 41) ?hr ?_; (case hd => rfl); (case hg => rfl); (case hr => exact jA); intro Dk hg w18 gP hb; replace Fz := za (Kd.Fu (Kd.CL U1 Dk (Nat.le_of_eq hg.symm)) hb); replace Jq := qF Jq hb; replace Jr := qF Jr hb; replace ET := qF ET hb; replace EU := qF EU hb; have wN := za (gP); have bMk := za ((by rw [hg]; exact (aT Yr) : w.heap.size ≤ Dk)); have o5 := za ((by rw [hg]; exact (aT Yr) : w.heap.size ≤ Dk)); replace HB := za (aM Yr hb); have yC := za ((by rw [hg]; exact Nat.ne_of_lt (gB (g := jJ) (zb mQ.out)) : jJ ≠ Dk)); have yD := za ((by rw [hg]; exact Nat.ne_of_gt (gB (g := jJ) (zb mQ.out)) : Dk ≠ jJ)); replace mQ := za (aY (g := jJ) (zb mQ.out) hb); clear hb gP hg) | ((with_reducible refine bO (N := 6) rfl ?_); refine bZ ?hg (N := 6) ?hd (cs := #[.int .i64 0, .slice none 0 0, .int .i64 0, .slice none 0 0, .int .i64 0]) (t := 41) ?hr ?_; (case hd => rfl); (case hg => rfl); (case hr => exact jA); intro Ph hg w19 gP hb; replace Fz := za (Kd.Fu (Kd.CL U1 Ph (Nat.le_of_eq hg.symm)) hb); replace Jq := qF Jq hb; replace Jr := qF Jr hb; replace ET := qF ET hb; replace EU := qF EU hb; have Js := za (gP); have bMl := za ((by rw [hg]; exact (aT aAc) : w.heap.size ≤ Ph)); have aLs := za ((by rw [hg]; exact (aT aAc) : w.heap.size ≤ Ph)); replace HB := za (aM aAc hb); have Cz := za ((by rw [hg]; exact Nat.ne_of_lt (gB (g := jJ) (zb mQ.out)) : jJ ≠ Ph)); have Da := za ((by rw [hg]; exact Nat.ne_of_gt (gB (g := jJ) (zb mQ.out)) : Ph ≠ jJ)); replace mQ := za (aY (g := jJ) (zb mQ.out) hb); have yE := za ((by rw [hg]; exact Nat.ne_of_lt (gB (g := Dk) (zb wN.out)) : Dk ≠ Ph)); have yF := za ((by rw [hg]; exact Nat.ne_of_gt (gB (g := Dk) (zb wN.out)) : Ph ≠ Dk)); replace wN := za (aY (g := Dk) (zb wN.out) hb); clear hb gP hg; have bOP := yD.out; have bOQ := yC.out; have bOR := yE.out; have bOS := yF.out; obtain ⟨eu, fe, fo, fq, fw⟩ := Zj wN.out; obtain ⟨aIz, gq, gu, gy, gz⟩ := JC wN.out; obtain ⟨aXm, aXn, aNW⟩ := Kd.bJ Jq.out; subst aNW; obtain ⟨aNX, aNY, su⟩ := Kd.bJ Jr.out; subst su; have bOT := Da.out; have bOU := Cz.out; obtain ⟨bGa, bGb, bGc, bGd, bGe⟩ := Zj Js.out; obtain ⟨bGf, bGg, bGh, bGi, bGj⟩ := JC Js.out; obtain ⟨aIt, aIu, J5⟩ := Kd.bJ ET.out; subst J5; obtain ⟨UO, UQ, aBA⟩ := Kd.bJ EU.out; subst aBA))
 have H := JD.out
 clear JD
 revert H; refine oW (fun vV U7 H => ?_) (fun c29 vV U7 H => ?_)
 ·
  (first | rw [vV] | (simp only [dO, dQ]; rw [vV]) | skip)
  revert H; refine oW (fun U5 aAv H => ?_) (fun c30 U5 aAv H => ?_)
  ·
   revert H; refine oW (fun Qj TH H => ?_) (fun c31 Qj TH H => ?_)
   ·
    obtain rfl := Option.some.inj H
    have aKt := yD.out
    have aKu := yC.out
    have aKv := yE.out
    have aKw := yF.out
    obtain ⟨OZ, PD, PE, M_, N_⟩ := Zj wN.out
    obtain ⟨d_, PG, PH, O_, P_⟩ := JC wN.out
    have bOV := Da.out
    have bOW := Cz.out
    obtain ⟨PI, PK, PL, aGV, aGW⟩ := Zj Js.out
    obtain ⟨Q_, PM, PN, aGX, aGY⟩ := JC Js.out
    go_wp2
    go_ret
    exact ⟨jR, aEC⟩
   ·
    obtain rfl := Option.some.inj H
    have aU9 := yD.out
    have aVa := yC.out
    have aVb := yE.out
    have aVc := yF.out
    obtain ⟨aHO, aHP, aHQ, aHR, aHS⟩ := Zj wN.out
    obtain ⟨aHT, aHU, aHV, aHW, aHX⟩ := JC wN.out
    have aRs := Da.out
    have aRt := Cz.out
    obtain ⟨bGk, bGl, bGm, bGn, bGo⟩ := Zj Js.out
    obtain ⟨bGp, bGq, bGr, bGs, bGt⟩ := JC Js.out
    go_wp2
    go_ret
    exact ⟨jR, aEC⟩
  ·
   obtain rfl := Option.some.inj H
   have bOX := yD.out
   have bOY := yC.out
   have aRw := yE.out
   have aRx := yF.out
   obtain ⟨bGu, bGv, bGw, bGx, bGy⟩ := Zj wN.out
   obtain ⟨bGz, bGA, bGB, bGC, bGD⟩ := JC wN.out
   have bOZ := Da.out
   have bO0 := Cz.out
   obtain ⟨aGh, aGi, aGj, aGk, aGl⟩ := Zj Js.out
   obtain ⟨bGE, aGm, aGn, aGo, aGp⟩ := JC Js.out
   go_wp2
   go_ret
   exact ⟨jR, aEC⟩
 ·
  (first | rw [vV] | (simp only [dO, dQ]; rw [vV]) | skip)
  obtain rfl := Option.some.inj H
  have bO1 := yD.out
  have bO2 := yC.out
  have bO3 := yE.out
  have bO4 := yF.out
  obtain ⟨bGF, bGG, bGH, bGI, bGJ⟩ := Zj wN.out
  obtain ⟨bGK, bGL, bGM, bGN, bGO⟩ := JC wN.out
  go_wp2
  go_ret
  exact ⟨jR, aEC⟩
def xE.f (uJ : ByteArray) (uX : ByteArray) (uK : Int) (qW : ByteArray) (mE : ByteArray) (sI : Int) : Option (Bool) := if uJ.toList = qW.toList then (some (Op.bytesLess uX.toList mE.toList)) else (some (Op.bytesLess uJ.toList qW.toList))
theorem xE.calls (uJ : ByteArray) (uX : ByteArray) (uK : Int) (qW : ByteArray) (mE : ByteArray) (sI : Int) (r : Bool) (w : World) (h : xE.f uJ uX uK qW mE sI = some r) :
  Calls Try.prog 12 #[.agg #[.string uJ, .string uX, .int .i64 uK], .agg #[.string qW, .string mE, .int .i64 sI]] w fun e w' => e = .returned (.bool r) ∧ Below w.heap.size w w' := by
 have aCY := Try.underlying51
 have HB := za (Below.refl w.heap.size w)
 have H : (if uJ.toList = qW.toList then (some (Op.bytesLess uX.toList mE.toList)) else (some (Op.bytesLess uJ.toList qW.toList))) = some r := h
 clear h
 have Zk := za H
 clear H
 go_enter Try.func12, Try.ntmps12
 go_upto_if 9 with (first | ((with_reducible refine bO (N := 2) rfl ?_); refine bZ ?hg (N := 2) ?hd (cs := #[.string uJ, .string uX, .int .i64 uK]) (t := 51) ?hr ?_; (case hd => rfl); (case hg => rfl); (case hr => exact jA); intro Pj hg w4 gP hb; have Dl := za (gP); have bMm := za ((by rw [hg]; exact (aT kU) : w.heap.size ≤ Pj)); have aAh := za ((by rw [hg]; exact (aT kU) : w.heap.size ≤ Pj)); replace HB := za (aM kU hb); clear hb gP hg) | ((with_reducible refine bO (N := 3) rfl ?_); refine bZ ?hg (N := 3) ?hd (cs := #[.string qW, .string mE, .int .i64 sI]) (t := 51) ?hr ?_; (case hd => rfl); (case hg => rfl); (case hr => exact jA); intro RB hg w5 gP hb; have Pk := za (gP); have bMn := za ((by rw [hg]; exact (aT aAg) : w.heap.size ≤ RB)); have aLv := za ((by rw [hg]; exact (aT aAg) : w.heap.size ≤ RB)); replace HB := za (aM aAg hb); have Jt := za ((by rw [hg]; exact Nat.ne_of_lt (gB (g := Pj) (zb Dl.out)) : Pj ≠ RB)); have Ju := za ((by rw [hg]; exact Nat.ne_of_gt (gB (g := Pj) (zb Dl.out)) : RB ≠ Pj)); replace Dl := za (aY (g := Pj) (zb Dl.out) hb); clear hb gP hg; have bQU := Jt.out; have bQV := Ju.out; obtain ⟨Wl, Wm, Wn⟩ := Zi Dl.out; obtain ⟨aOv, Wo, Wp⟩ := Xk Dl.out; obtain ⟨aLG, aLH, aLI⟩ := Zi Pk.out; obtain ⟨bMo, aLJ⟩ := zf2 Pk.out; have aLK := aD Pk.out 2))
 have H := Zk.out
 clear Zk
 revert H; refine oW (fun Ga CS H => ?_) (fun c9 Ga CS H => ?_)
 ·
  (first | rw [Ga] | (simp only [dO, dQ]; rw [Ga]) | skip)
  obtain rfl := Option.some.inj H
  have bO5 := Jt.out
  have bO6 := Ju.out
  obtain ⟨bGP, bGQ, bGR⟩ := Zi Dl.out
  obtain ⟨bGS, bGT, bGU⟩ := Xk Dl.out
  obtain ⟨dw, dx, dz⟩ := Zi Pk.out
  obtain ⟨aIL, ed, ek⟩ := Xk Pk.out
  go_wp2
  go_ret
  exact ⟨jR, aJA⟩
 ·
  (first | rw [Ga] | (simp only [dO, dQ]; rw [Ga]) | skip)
  obtain rfl := Option.some.inj H
  have bO7 := Jt.out
  have bO8 := Ju.out
  obtain ⟨U9, V3, V4⟩ := Zi Dl.out
  obtain ⟨bGV, V5, V6⟩ := Xk Dl.out
  obtain ⟨aFj, aFk, aFl⟩ := Zi Pk.out
  obtain ⟨aFm, aFn, aFo⟩ := Xk Pk.out
  go_wp2
  go_ret
  exact ⟨jR, aJA⟩
end Go.Proofs.Ytiaeldibklcobaa.eZ
