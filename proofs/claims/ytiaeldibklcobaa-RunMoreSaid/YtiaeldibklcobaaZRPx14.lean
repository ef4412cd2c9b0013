import Derived.Test.YtiaeldibklcobaaZRPx3
import Derived.Test.YtiaeldibklcobaaZRPx13
namespace Go.Proofs.Ytiaeldibklcobaa.eZ
open Go.RowKit Go.Proofs.YtiaeldibklcobaaW.bL Go.Proofs.YtiaeldibklcobaaW.fV Go.Proofs.YtiaeldibklcobaaW.iZ
set_option maxHeartbeats 8000000
set_option maxRecDepth 100000
attribute [local go_sem] kL kM lX lY jC jD kN kP
set_option linter.unusedVariables false
set_option linter.unusedSimpArgs false
def gM.f (k : Nat) (a0 : ByteArray) : Option (ByteArray × Int × (List Xg) × (List Qf) × (List Cg) × Int × Int) :=
 (dC.f k a0).bind fun b => if b.2.1 = 0 then ((bH.f k b.1 0 0 0 0).bind fun m => if m.2.2.2.2.2.2.2.1 = 0 then (some (m.1, m.2.1, m.2.2.1, m.2.2.2.1, m.2.2.2.2.1, 0, 0)) else (some ((⟨#[]⟩ : ByteArray), 0, ([] : List Xg), ([] : List Qf), ([] : List Cg), m.2.2.2.2.2.2.2.1, m.2.2.2.2.2.2.2.2))) else (some ((⟨#[]⟩ : ByteArray), 0, ([] : List Xg), ([] : List Qf), ([] : List Cg), b.2.1, b.2.2))
theorem gM.mono : ∀ a0 k, bV (gM.f k a0) (gM.f (k + 1) a0) := by
 intro a0 k
 unfold gM.f
 repeat' with_reducible first | apply dC.mono | apply bH.mono | exact bV.refl _ | exact bV.none _ | refine bV.ite ?_ ?_ | refine bV.bind ?_ (fun _ => ?_)
theorem gM.rz {α : Type} {d : Kd α} {e base g : Nat} {ok : Nat → Prop} {W : World} {v : Value} {xs : List α} (h : d.R e W base ok v xs) (hok : ∀ k, ok k → k ≠ g) (u0 u1 u2 u3 u4 : Value) :
  d.R e (((((W.setCell ⟨g, 0, none⟩ u0).setCell ⟨g, 1, none⟩ u1).setCell ⟨g, 2, none⟩ u2).setCell ⟨g, 3, none⟩ u3).setCell ⟨g, 4, none⟩ u4) base ok v xs :=
 Kd.nL (Kd.nL (Kd.nL (Kd.nL (Kd.nL h hok _) hok _) hok _) hok _) hok _
theorem gM.Au {g : Nat} {w W : World} (h : Below w.heap.size w W) (hg : w.heap.size ≤ g) (u0 u1 u2 u3 u4 : Value) :
  Below w.heap.size w (((((W.setCell ⟨g, 0, none⟩ u0).setCell ⟨g, 1, none⟩ u1).setCell ⟨g, 2, none⟩ u2).setCell ⟨g, 3, none⟩ u3).setCell ⟨g, 4, none⟩ u4) :=
 aV (aV (aV (aV (aV h hg) hg) hg) hg) hg
theorem gM.QN {g : Nat} {W : World} {t : TypeId} {a0 a1 a2 a3 a4 : Value} (h : W.heap[g]? = some (.cells #[a0, a1, a2, a3, a4] t (0, 0))) (u0 u1 u2 u3 u4 : Value) :
  (((((W.setCell ⟨g, 0, none⟩ u0).setCell ⟨g, 1, none⟩ u1).setCell ⟨g, 2, none⟩ u2).setCell ⟨g, 3, none⟩ u3).setCell ⟨g, 4, none⟩ u4).heap[g]? = some (.cells #[u0, u1, u2, u3, u4] t (0, 0)) :=
 bD (bD (bD (bD (bD h 0 u0 rfl) 1 u1 rfl) 2 u2 rfl) 3 u3 rfl) 4 u4 rfl
theorem gM.QO {g g' : Nat} {W : World} {t : TypeId} {cs : Array Value} (h : W.heap[g']? = some (.cells cs t (0, 0))) (hne : g' ≠ g) (u0 u1 u2 u3 u4 : Value) :
  (((((W.setCell ⟨g, 0, none⟩ u0).setCell ⟨g, 1, none⟩ u1).setCell ⟨g, 2, none⟩ u2).setCell ⟨g, 3, none⟩ u3).setCell ⟨g, 4, none⟩ u4).heap[g']? = some (.cells cs t (0, 0)) :=
 dJ (dJ (dJ (dJ (dJ h hne _) hne _) hne _) hne _) hne _
theorem gM.calls (k : Nat) (a0 : ByteArray) (r1 : ByteArray) (r2 : Int) (r3 : List Xg) (r4 : List Qf) (r5 : List Cg) (r6 r7 : Int) (w : World) (h : gM.f k a0 = some (r1, r2, r3, r4, r5, r6, r7)) :
  Calls Try.prog 11 #[.string a0] w fun e w' => ∃ v2_ v3_ v4_ : Value, e = .returned (.tuple #[.agg #[.string r1, .int .i64 r2, v2_, v3_, v4_], .int .i64 r6, .int .i64 r7]) ∧ Kd.R Yq 87 w' w.heap.size (fun _ => True) v2_ r3 ∧ Kd.R Xh 49 w' w.heap.size (fun _ => True) v3_ r4 ∧ Kd.R Vo 38 w' w.heap.size (fun _ => True) v4_ r5 ∧ Below w.heap.size w w' := by
 have aNS := Try.underlying31
 have bLj := Try.underlying66
 unfold gM.f at h
 obtain ⟨⟨l, e1, at1⟩, hl, h⟩ := Option.bind_eq_some_iff.mp h
 dsimp only at h
 have HL := za hl
 clear hl
 by_cases c1 : e1 = 0
 ·
  rw [if_pos c1] at h
  subst c1
  obtain ⟨⟨q1, q2, q3, q4, q5, q6, q7, q8, q9⟩, hm, hh⟩ := Option.bind_eq_some_iff.mp h
  dsimp only at hh
  have HM := za hm
  clear h hm
  by_cases c2 : q8 = 0
  case' pos =>
   rw [if_pos c2] at hh
   simp only [Option.some.injEq, Prod.mk.injEq] at hh
   obtain ⟨rfl, rfl, rfl, rfl, rfl, rfl, rfl⟩ := hh
   have c2b : (q8 != 0) = false := bne_eq_false_iff_eq.mpr c2
  case' neg =>
   rw [if_neg c2] at hh
   simp only [Option.some.injEq, Prod.mk.injEq] at hh
   obtain ⟨rfl, rfl, rfl, rfl, rfl, rfl, rfl⟩ := hh
   have c2b : (q8 != 0) = true := bne_iff_ne.mpr c2
  all_goals (clear c2)
  all_goals
   go_enter Try.func11, Try.ntmps11
   go_wp2_with ((with_reducible refine bO (N := 2) rfl ?_); refine bZ ?hg (N := 2) ?hd (cs := #[.string (⟨#[]⟩ : ByteArray), .int .i64 0, .slice none 0 0, .slice none 0 0, .slice none 0 0]) (t := 31) ?hr ?_; (case hd => rfl); (case hg => rfl); (case hr => exact jA); intro ga hga w1 hba hb1; have HGA := za hga; have HBA := za hba; have HB1 := za hb1; clear hga hba hb1)
   refine (dC.calls k a0 l 0 at1 _ HL.out).mono ?_
   rintro e w2 ⟨v2, rfl, ho2, hb2⟩
   obtain ⟨A2, C2, rfl⟩ := Kd.bJ ho2
   have HO2 := za ho2
   have Ox := za (aY HBA.out hb2)
   have HB2 := za (aM HB1.out hb2)
   have HGE := za (Nat.le_of_eq HGA.out.symm)
   have bLk := za (gB Ox.out)
   clear ho2 hb2 HB1 HBA
   go_wp2_with ((with_reducible refine bO (N := 23) rfl ?_); refine bZ ?hg (N := 23) ?hd (cs := #[.slice A2 l.length C2, .int .i64 0, .int .i64 0, .int .i64 0, .int .i64 0]) (t := 66) ?hr ?_; (case hd => rfl); (case hg => rfl); (case hr => exact jA); intro gr hgr w3 hbr hb3; have HGR := za hgr; have si := za hbr; have HB3 := za hb3; clear hgr hbr hb3)
   refine (bH.calls k gr l 0 0 0 0 q1 q2 q3 q4 q5 q6 q7 q8 q9 w2 _ ⟨A2, C2, si.out, Nat.le_of_eq HGR.out.symm, (Kd.cZ HO2.out).2.2⟩ HB3.out HM.out).mono ?_
   rintro e w4 ⟨x2, x3, x4, rfl, hx2, hx3, hx4, hi, hb4, hk⟩
   have HNE : aG (ga ≠ gr) := ⟨by have h1 := bLk.out; have h2 := HGR.out; omega⟩
   have HLE : aG (w.heap.size ≤ w3.heap.size) := ⟨Nat.le_trans (aT HB2.out) (aT HB3.out)⟩
   have HX2 := za (Kd.eU hx2 HLE.out)
   have HX3 := za (Kd.eU hx3 HLE.out)
   have HX4 := za (Kd.eU hx4 HLE.out)
   obtain ⟨A5, C5, aXd, _, _⟩ := hi
   have aXe := za (aU.blk hk (aY Ox.out HB3.out) HNE.out (by simp))
   have HR4 := za aXd
   have J8 := za (aM HB2.out hb4)
   obtain ⟨B2, D2, e2⟩ := Kd.bJ hx2
   obtain ⟨B3, D3, e3⟩ := Kd.bJ hx3
   obtain ⟨B4, D4, e4⟩ := Kd.bJ hx4
   subst e2 e3 e4
   clear hx2 hx3 hx4 aXd hb4 hk HB3 si HO2 Ox HB2
   go_wp2_with ((with_reducible refine bO (N := 9) rfl ?_); refine bZ ?hg (N := 9) ?hd (cs := #[.string (⟨#[]⟩ : ByteArray), .int .i64 0, .slice none 0 0, .slice none 0 0, .slice none 0 0]) (t := 31) ?hr ?_; (case hd => rfl); (case hg => rfl); (case hr => exact jA); intro gm hgm w5 hbm hb5; have HGM := za hgm; have sj := za hbm; have Bw := za hb5; clear hgm hbm hb5; have HNM : aG (ga ≠ gm ∧ gr ≠ gm) := ⟨by have h1 := HGM.out; have h2 := gB aXe.out; have h3 := gB HR4.out; omega⟩; have hn1 := HNM.out.1; have hn2 := HNM.out.2; have hn3 := HNE.out; have hn4 := Ne.symm HNM.out.1; have hn5 := Ne.symm HNM.out.2; have hn6 := Ne.symm HNE.out; have Oy := za (aY aXe.out Bw.out); have HR5 := za (aY HR4.out Bw.out); have HBB := za (aM J8.out Bw.out); have hc0 := (aA sj.out 0).trans rfl; have hc1 := (aA sj.out 1).trans rfl; have hc2 := (aA sj.out 2).trans rfl; have hc3 := (aA sj.out 3).trans rfl; have hc4 := (aA sj.out 4).trans rfl; have hf0 := aD sj.out 0; have hf1 := aD sj.out 1; have hf2 := aD sj.out 2; have hf3 := aD sj.out 3; have hf4 := aD sj.out 4; have ha0 := (aA Oy.out 0).trans rfl; have ha1 := (aA Oy.out 1).trans rfl; have ha2 := (aA Oy.out 2).trans rfl; have ha3 := (aA Oy.out 3).trans rfl; have ha4 := (aA Oy.out 4).trans rfl; have hg0 := aD Oy.out 0; have hg1 := aD Oy.out 1; have hg2 := aD Oy.out 2; have hg3 := aD Oy.out 3; have hg4 := aD Oy.out 4; have hr3 := (aA HR5.out 3).trans rfl; have hr4 := (aA HR5.out 4).trans rfl)
   try go_region
   try go_wp2
  ·
   refine bodyPost_ret (Hf rfl _ _ ga 31 #[.string (⟨#[]⟩ : ByteArray), .int .i64 0, .slice none 0 0, .slice none 0 0, .slice none 0 0] (0, 0) _ rfl (by (with_reducible repeat (first | refine mK ?_ _ | refine dE ?_)); exact gM.QN (gM.QO Oy.out hn1 _ _ _ _ _) _ _ _ _ _) aNS rfl dU) rfl ?_
   exact ⟨_, _, _, rfl, Kd.mW _ _ _ _ _, Kd.mW _ _ _ _ _, Kd.mW _ _ _ _ _, by (with_reducible repeat (first | apply bW | apply bK)); exact gM.Au (gM.Au HBB.out (by have h1 := HGM.out; have h2 := aT J8.out; omega) _ _ _ _ _) HGE.out _ _ _ _ _⟩
  ·
   refine bodyPost_ret (Hf rfl _ _ ga 31 #[.string q1, .int .i64 q2, .slice B2 q3.length D2, .slice B3 q4.length D3, .slice B4 q5.length D4] (0, 0) _ rfl (gM.QN (gM.QO Oy.out hn1 _ _ _ _ _) _ _ _ _ _) aNS rfl dU) rfl ?_
   exact ⟨_, _, _, rfl, Kd.aQ (gM.rz (gM.rz (Kd.dS (Kd.dS (Kd.iX HX2.out Bw.out) Oy.out (by decide)) sj.out (by decide)) (fun _ hk => hk.2) _ _ _ _ _) (fun _ hk => hk.1.2) _ _ _ _ _) (fun _ _ => trivial), Kd.aQ (gM.rz (gM.rz (Kd.dS (Kd.dS (Kd.iX HX3.out Bw.out) Oy.out (by decide)) sj.out (by decide)) (fun _ hk => hk.2) _ _ _ _ _) (fun _ hk => hk.1.2) _ _ _ _ _) (fun _ _ => trivial), Kd.aQ (gM.rz (gM.rz (Kd.dS (Kd.dS (Kd.iX HX4.out Bw.out) Oy.out (by decide)) sj.out (by decide)) (fun _ hk => hk.2) _ _ _ _ _) (fun _ hk => hk.1.2) _ _ _ _ _) (fun _ _ => trivial), gM.Au (gM.Au HBB.out (by have h1 := HGM.out; have h2 := aT J8.out; omega) _ _ _ _ _) HGE.out _ _ _ _ _⟩
 ·
  rw [if_neg c1] at h
  simp only [Option.some.injEq, Prod.mk.injEq] at h
  obtain ⟨rfl, rfl, rfl, rfl, rfl, rfl, rfl⟩ := h
  have c1b : (e1 != 0) = true := bne_iff_ne.mpr c1
  clear c1
  go_enter Try.func11, Try.ntmps11
  go_wp2_with ((with_reducible refine bO (N := 2) rfl ?_); refine bZ ?hg (N := 2) ?hd (cs := #[.string (⟨#[]⟩ : ByteArray), .int .i64 0, .slice none 0 0, .slice none 0 0, .slice none 0 0]) (t := 31) ?hr ?_; (case hd => rfl); (case hg => rfl); (case hr => exact jA); intro ga hga w1 hba hb1; have HGA := za hga; have HBA := za hba; have HB1 := za hb1; clear hga hba hb1)
  refine (dC.calls k a0 l e1 at1 _ HL.out).mono ?_
  rintro e w2 ⟨v2, rfl, ho2, hb2⟩
  obtain ⟨A2, C2, rfl⟩ := Kd.bJ ho2
  have Ox := za (aY HBA.out hb2)
  have HB2 := za (aM HB1.out hb2)
  have HGE := za (Nat.le_of_eq HGA.out.symm)
  have ha0 := (aA Ox.out 0).trans rfl
  have ha1 := (aA Ox.out 1).trans rfl
  have ha2 := (aA Ox.out 2).trans rfl
  have ha3 := (aA Ox.out 3).trans rfl
  have ha4 := (aA Ox.out 4).trans rfl
  have hg0 := aD Ox.out 0
  have hg1 := aD Ox.out 1
  have hg2 := aD Ox.out 2
  have hg3 := aD Ox.out 3
  have hg4 := aD Ox.out 4
  clear ho2 hb2 HB1 HBA
  go_wp2
  refine bodyPost_ret (Hf rfl _ _ ga 31 #[.string (⟨#[]⟩ : ByteArray), .int .i64 0, .slice none 0 0, .slice none 0 0, .slice none 0 0] (0, 0) _ rfl (gM.QN Ox.out _ _ _ _ _) aNS rfl dU) rfl ?_
  exact ⟨_, _, _, rfl, Kd.mW _ _ _ _ _, Kd.mW _ _ _ _ _, Kd.mW _ _ _ _ _, gM.Au HB2.out HGE.out _ _ _ _ _⟩
mutual
def eO.l0 : Nat → List ByteArray → List (nM) → Int → Option ((List (nM)))
 | 0, _, _, _ => none
 | k + 1, x0, x3, x4 => if x4 < (x0.length : Int) then (eO.j1 k x0 x3 x4 (decide (x4 < 8))) else (eO.j1 k x0 x3 x4 false)
def eO.j1 : Nat → List ByteArray → List (nM) → Int → Bool → Option ((List (nM)))
 | 0, _, _, _, _ => none
 | k + 1, x0, x3, x4, x15 => if x15 = true then (if 0 ≤ x4 then (if x4 < (x0.length : Int) then ((gM.f k (Dt ByteArray.empty x0 x4)).bind fun LZ => (if LZ.2.2.2.2.2.1 = 0 then (if ((Dt ByteArray.empty x0 x4).size : Int) ≤ 1500 then (if x3.length < 1466015503701 then (eO.l0 k x0 (x3 ++ [(⟨LZ.1, LZ.2.1, LZ.2.2.1, LZ.2.2.2.1, LZ.2.2.2.2.1⟩ : nM)]) (wrap64 (x4 + 1))) else (none)) else (eO.l0 k x0 x3 (wrap64 (x4 + 1)))) else (eO.l0 k x0 x3 (wrap64 (x4 + 1))))) else (none)) else (none)) else (some x3)
end
def eO.f (k : Nat) (l0 : List ByteArray) : Option ((List (nM))) := eO.l0 k l0 ([] : List (nM)) 0
theorem eO.fT : ∀ k, (∀ y0 y1 y2, bV (eO.l0 k y0 y1 y2) (eO.l0 (k + 1) y0 y1 y2)) ∧ (∀ y0 y1 y2 y3, bV (eO.j1 k y0 y1 y2 y3) (eO.j1 (k + 1) y0 y1 y2 y3))
 | 0 => ⟨fun _ _ _ r h => by simp [eO.l0] at h, fun _ _ _ _ r h => by simp [eO.j1] at h⟩
 | k + 1 => by
  obtain ⟨nV, ih1⟩ := eO.fT k
  refine ⟨?_, ?_⟩
  ·
   intro y0 y1 y2
   unfold eO.l0
   repeat' with_reducible first | apply nV | apply ih1 | apply gM.mono | exact bV.refl _ | exact bV.none _ | refine bV.ite ?_ ?_ | refine bV.bind ?_ (fun _ => ?_)
  ·
   intro y0 y1 y2 y3
   unfold eO.j1
   repeat' with_reducible first | apply nV | apply ih1 | apply gM.mono | exact bV.refl _ | exact bV.none _ | refine bV.ite ?_ ?_ | refine bV.bind ?_ (fun _ => ?_)
theorem eO.mono : ∀ a0 k, bV (eO.f k a0) (eO.f (k + 1) a0) := by
 intro a0 k
 obtain ⟨nV, ih1⟩ := eO.fT k
 unfold eO.f
 repeat' with_reducible first | apply nV | apply ih1 | apply gM.mono | exact bV.refl _ | exact bV.none _ | refine bV.ite ?_ ?_ | refine bV.bind ?_ (fun _ => ?_)
theorem eO.calls (k : Nat) (A0 : Option Addr) (c0 : Nat) (l0 : List ByteArray) (r : List (nM)) (w : World) (hr0 : Kd.C Kd.string w A0 l0.length l0) (hc0 : l0.length ≤ c0) (h : eO.f k l0 = some r) :
  Calls Try.prog 4 #[.slice A0 l0.length c0] w fun e w' => ∃ lZ : Value, e = .returned (lZ) ∧ Kd.R k31 31 w' w.heap.size (fun _ => True) lZ r ∧ Below w.heap.size w w' := by
 have VW := Try.underlying31
 have Gi := za hr0
 have IQ := za hc0
 clear hr0 hc0
 have HB := za (Below.refl w.heap.size w)
 have H : (eO.l0 k l0 ([] : List (nM)) 0) = some r := h
 clear h
 have H' := za H
 clear H
 go_enter Try.func4, Try.ntmps4
 go_wp2
 go_loopg [3, 4] k (fun kq v3 v4 w' => ∃ (xU : List (nM)) (dX : Int), v4 = .int .i64 dX ∧ aG (eO.l0 kq l0 xU dX = some r) ∧ aG (kq ≤ k) ∧ aG (Kd.R k31 31 w' w.heap.size (fun _ => True) v3 xU) ∧ aG (Below w.heap.size w w'))
 case atStart => exact ⟨(([] : List (nM))), (0), jG, H', ⟨Nat.le_refl _⟩, ⟨vJ⟩, ⟨kU⟩⟩
 case round =>
  clear H'
  obtain ⟨xU, dX, rfl, HA, lH, gT, HB⟩ := hrel
  cases gk with
  | zero => exact absurd HA.out (by simp [eO.l0])
  | succ k1 =>
   have H := HA.out
   clear HA
   simp only [eO.l0] at H
   have QP := za H
   clear H
   go_upto_region 3 with (fail)
   go_cut [15] (fun v15 wc => ∃ (kq : Nat) (aCR : Bool), v15 = .bool aCR ∧ aG (eO.j1 kq l0 xU dX aCR = some r) ∧ aG (kq ≤ k1) ∧ aG (Kd.R k31 31 wc w.heap.size (fun _ => True) u3 xU) ∧ aG (Below w.heap.size w wc))
   case first =>
    have H := QP.out
    clear QP
    revert H; refine Dn (fun c3 H => ?_) (fun c3 H => ?_)
    ·
     have Bt : decide (dX < (l0.length : Int)) = true := decide_eq_true c3
     clear c3
     (first | rw [Bt] | (simp only [dO, dQ]; rw [Bt]) | skip)
     have H' := za H
     clear H
     go_wp2
     go_meet
     case rel => exact ⟨_, (decide (dX < 8)), jG, H', ⟨by have := lH.out; first | omega | exact Nat.le_refl _⟩, ⟨CR⟩, ⟨kU⟩⟩
    ·
     have Bt : decide (dX < (l0.length : Int)) = false := decide_eq_false c3
     clear c3
     (first | rw [Bt] | (simp only [dO, dQ]; rw [Bt]) | skip)
     have H' := za H
     clear H
     go_wp2
     go_meet
     case rel => exact ⟨_, (false), jG, H', ⟨by have := lH.out; first | omega | exact Nat.le_refl _⟩, ⟨CR⟩, ⟨kU⟩⟩
   case rest =>
    clear QP
    obtain ⟨kq, aCR, rfl, HA, HJ1, gT, HB⟩ := hcut
    cases kq with
    | zero => exact absurd HA.out (by simp [eO.j1])
    | succ kj1 =>
     have H := HA.out
     clear HA
     simp only [eO.j1] at H
     replace H := Bq H
     rcases H with ⟨rfl, H⟩ | ⟨rfl, H⟩
     ·
      revert H; refine yX fun zG H => ?_
      revert H; refine zd fun c6 H => ?_
      have Mj : decide (dX < (l0.length : Int)) = true := decide_eq_true c6
      clear c6
      replace H := jT H
      obtain ⟨⟨JL, JM, Wu, Wv, Ww, aNT, aNU⟩, A7, H⟩ := H
      (try dsimp only at H)
      revert H; refine oW (fun oZ Hz H => ?_) (fun c8 oZ Hz H => ?_)
      ·
       revert H; refine Dn (fun c9 H => ?_) (fun c9 H => ?_)
       ·
        have Ga := decide_eq_true c9
        have CS : decide ((Dt ByteArray.empty l0 dX).size ≤ 1500) = true := decide_eq_true (by omega)
        clear c9
        revert H; refine IP fun aXf H => ?_
        obtain ⟨aXg, WB⟩ : ∃ y_ : List (nM), y_ = (xU ++ [(⟨JL, JM, Wu, Wv, Ww⟩ : nM)]) := ⟨_, rfl⟩
        replace H : (eO.l0 kj1 l0 aXg (wrap64 (dX + 1))) = some r := by first | (rw [WB]; with_reducible exact H) | (have lS := (Option.bind_some _ _).symm.trans H; rw [WB]; with_reducible exact lS) | (have lS := (Option.bind_some _ _).symm.trans H; with_reducible exact lS) | with_reducible exact H | (rw [WB]; exact H) | exact H
        have aXh := za WB
        clear WB
        have H' := za H
        clear H
        have EI : 0 ≤ (dX : Int) := of_decide_eq_true iL
        have EJ : dX < (l0.length : Int) := of_decide_eq_true iL
        obtain ⟨Tn, aCS, wL⟩ := Kd.vB Gi.out dX EI EJ
        cases aCS
        replace wL := (HB.out.cell (World.block_lt_of_cell? w _ wL)).trans wL
        replace EI := eq_true EI
        replace EJ := eq_true EJ
        go_wp2_with (first | ((with_reducible refine zg 11 rfl ?_); refine kZ (some 23) Try.func11 #[.string (Dt ByteArray.empty l0 dX)] ?_; refine (gM.calls kj1 (Dt ByteArray.empty l0 dX) JL JM Wu Wv Ww aNT aNU _ A7.out).mono ?_; rintro e OY ⟨aXi, aXj, aXk, rfl, ho0, ho1, ho2, hb⟩; refine ⟨_, rfl, ?_⟩; replace gT := za (Kd.aQ (Kd.uI (Kd.uI (Kd.uI (Kd.yf (zr gT.out) hb) (Kd.iV ho0)) (Kd.iV ho1)) (Kd.iV ho2)) (fun _ h_ => h_.1)); have Aw := za (Kd.eU ho0 (aT kU)); have Ay := za (Kd.eU ho1 (aT kU)); have Az := za (Kd.eU ho2 (aT kU)); replace HB := za (aM kU hb)) | ((with_reducible refine bO (N := 5) rfl ?_); (try (refine fD (by rfl) ?_; dsimp only)); refine bZ ?hg (N := 5) ?hd (cs := #[.string (⟨#[]⟩ : ByteArray), .int .i64 0, .slice none 0 0, .slice none 0 0, .slice none 0 0]) (t := 31) ?hr ?_; (case hd => rfl); (case hg => rfl); (case hr => exact jA); intro nU hg Mk gP hb; replace gT := za (Kd.iX (Kd.xR (zr gT.out) nU (Nat.le_of_eq hg.symm)) hb); replace Aw := qF Aw hb; replace Ay := qF Ay hb; replace Az := qF Az hb; have uE := za (gP); have EK := za ((by rw [hg]; exact (aT kU) : w.heap.size ≤ nU)); have l7 := za ((by rw [hg]; exact (aT kU) : w.heap.size ≤ nU)); replace HB := za (aM kU hb); clear hb gP hg; obtain ⟨NY, NZ, OA, OB, OC⟩ := Zj uE.out; obtain ⟨iy, OD, OE, OG, OH⟩ := JC uE.out; obtain ⟨aCT, aCU, bLl⟩ := Kd.bJ Aw.out; subst bLl; obtain ⟨Yv, Yw, aBs⟩ := Kd.bJ Ay.out; subst aBs; obtain ⟨aCV, aCW, bLm⟩ := Kd.bJ Az.out; subst bLm) | ((with_reducible refine wX (t := 31) (p := 5) rfl ?_); refine vC (t := 31) (p := 5) (v := ?bLn) (w1 := (((((Mk.setCell ⟨nU, 0, none⟩ (.string JL)).setCell ⟨nU, 1, none⟩ (.int .i64 JM)).setCell ⟨nU, 2, none⟩ (.slice aCT Wu.length aCU)).setCell ⟨nU, 3, none⟩ (.slice Yv Wv.length Yw)).setCell ⟨nU, 4, none⟩ (.slice aCV Ww.length aCW))) ?hg ?ho ?hn ?hr ?_; (case ho => rfl); (case hg => rfl); (case hn => rfl); (case hr => exact jA); intro L_ hw; replace gT : aG (Kd.R k31 31 L_ w.heap.size (fun k_ => some k_ ≠ (.slice aCT Wu.length aCU : Value).ownBlock ∧ some k_ ≠ (.slice Yv Wv.length Yw : Value).ownBlock ∧ some k_ ≠ (.slice aCV Ww.length aCW : Value).ownBlock ∧ k_ ≠ nU) u3 xU) := ⟨(by rw [hw]; exact (by (with_reducible repeat (first | apply Kd.bC | apply Kd.bF | apply Kd.bP)); exact Kd.aQ (Qg (Kd.aQ gT.out (fun k_ hk => (⟨hk, hk.2⟩ : _ ∧ k_ ≠ nU))) (fun _ hk => hk.2)) (fun _ hk => by first | exact ⟨hk.1.1.1.1.2, ⟨hk.1.1.1.2, ⟨hk.1.1.2, hk.1.2⟩⟩⟩ | ((repeat' refine And.intro ?_ ?_) <;> first | exact trivial | exact hk | exact hk.1 | exact hk.2 | exact hk.1.1 | exact hk.1.2 | exact hk.2.1 | exact hk.2.2 | exact hk.1.1.1 | exact hk.1.1.2 | exact hk.1.2.1 | exact hk.1.2.2 | exact hk.2.1.1 | exact hk.2.1.2 | exact hk.2.2.1 | exact hk.2.2.2 | exact hk.1.1.1.1 | exact hk.1.1.1.2 | exact hk.1.1.2.1 | exact hk.1.1.2.2 | exact hk.1.2.1.1 | exact hk.1.2.1.2 | exact hk.1.2.2.1 | exact hk.1.2.2.2 | exact hk.2.1.1.1 | exact hk.2.1.1.2 | exact hk.2.1.2.1 | exact hk.2.1.2.2 | exact hk.2.2.1.1 | exact hk.2.2.1.2 | exact hk.2.2.2.1 | exact hk.2.2.2.2))))⟩; replace Aw : aG (Kd.R Yq 87 L_ w.heap.size (fun _ => True) (.slice aCT Wu.length aCU) Wu) := ⟨(by rw [hw]; exact (by (with_reducible repeat (first | apply Kd.bC | apply Kd.bF | apply Kd.bP)); exact Kd.aQ (Qg (Kd.dS Aw.out uE.out (by decide)) (fun _ hk => hk.2)) (fun _ hk => trivial)))⟩; replace Ay : aG (Kd.R Xh 49 L_ w.heap.size (fun _ => True) (.slice Yv Wv.length Yw) Wv) := ⟨(by rw [hw]; exact (by (with_reducible repeat (first | apply Kd.bC | apply Kd.bF | apply Kd.bP)); exact Kd.aQ (Qg (Kd.dS Ay.out uE.out (by decide)) (fun _ hk => hk.2)) (fun _ hk => trivial)))⟩; replace Az : aG (Kd.R Vo 38 L_ w.heap.size (fun _ => True) (.slice aCV Ww.length aCW) Ww) := ⟨(by rw [hw]; exact (by (with_reducible repeat (first | apply Kd.bC | apply Kd.bF | apply Kd.bP)); exact Kd.aQ (Qg (Kd.dS Az.out uE.out (by decide)) (fun _ hk => hk.2)) (fun _ hk => trivial)))⟩; replace uE : aG (L_.heap[nU]? = some (.cells #[.string JL, .int .i64 JM, .slice aCT Wu.length aCU, .slice Yv Wv.length Yw, .slice aCV Ww.length aCW] 31 (0, 0))) := ⟨(by rw [hw]; exact (zP5 uE.out))⟩; replace HB : aG (Below w.heap.size w L_) := ⟨(by rw [hw]; exact qc)⟩; clear hw; have J9 : 0 ≤ (dX : Int) := of_decide_eq_true iL; have bSu : dX < (l0.length : Int) := of_decide_eq_true iL; obtain ⟨aCX, aNV, mU⟩ := Kd.vB Gi.out dX J9 bSu; obtain rfl : Tn = aCX := (by injection aNV); replace mU := (HB.out.cell (World.block_lt_of_cell? w _ mU)).trans mU; replace J9 := eq_true J9; replace bSu := eq_true bSu; obtain ⟨V8, V9, W9, X4, Y1⟩ := Zj uE.out; obtain ⟨bFY, Y2, Y3, Y4⟩ := zf4 uE.out; have Y5 := aD uE.out 4) | ((with_reducible refine iK (b := .append) (xs := #[.tmp 37, .tmp 39]) rfl ?_); (try (refine fD (by rfl) ?_; dsimp only)); at_builtin; refine Kd.nP k31 (w0 := w) w.heap.size rfl (.tmp 37) (.tmp 39) 25 31 (.agg #[(.string ⟨#[]⟩), (.int .i64 0), (.slice none 0 0), (.slice none 0 0), (.slice none 0 0)]) 96 rfl Try.underlying25 aLf rfl (by decide) (by omega) u3 xU (⟨JL, JM, Wu, Wv, Ww⟩ : nM) [.string JL, .int .i64 JM, .slice aCT Wu.length aCU, .slice Yv Wv.length Yw, .slice aCV Ww.length aCW] (fun k_ => k_ ≠ nU) (fun k_ => ((fun k_ => k_ ≠ nU)) k_ ∧ some k_ ≠ (u3 : Value).ownBlock) rfl rfl ?aP (fun _ hk => hk) ?aF ?aO ?aB ?aS ?aL ?_; (case aP => exact aEz _ _ _ (⟨JL, JM, Wu, Wv, Ww⟩ : nM) (Kd.aQ (Kd.dS (Kd.pK (Aw.out) (Kd.oG gT.out) (by decide)) uE.out (by decide)) (fun k_ hk => ⟨hk.2, hk.1.2⟩)) (Kd.aQ (Kd.dS (Kd.pK (Ay.out) (Kd.oG gT.out) (by decide)) uE.out (by decide)) (fun k_ hk => ⟨hk.2, hk.1.2⟩)) (Kd.aQ (Kd.dS (Kd.pK (Az.out) (Kd.oG gT.out) (by decide)) uE.out (by decide)) (fun k_ hk => ⟨hk.2, hk.1.2⟩))); (case aB => exact qc); (case aF => exact (fun k_ hk => Kd.MS (g := nU) (zb uE.out) k_ hk)); (case aO => exact (by (with_reducible repeat (first | apply Kd.bC | apply Kd.bF | apply Kd.bP)); exact Kd.aQ gT.out (fun _ hk => hk.2.2.2))); (case aS => exact (aT qc)); (case aL => have := aXf.out; omega); intro bQA w19 ho hb hg hat; rw [← aXh.out] at ho; replace uE := za (eD (g := nU) (zb uE.out) hg (Kd.wW gT.out (fun _ hk => hk.2.2.2))); replace HB := za (hb); have aXl := za (ho); clear gT Aw Ay Az; clear ho hb hg hat))
        go_roundg kj1
        case measure => have := lH.out; have := HJ1.out; omega
        case rel => exact ⟨(aXg), (wrap64 (dX + 1)), jG, H', ⟨by have := lH.out; have := HJ1.out; omega⟩, ⟨by (with_reducible repeat (first | apply Kd.bC | apply Kd.bF | apply Kd.bP)); exact Kd.aQ aXl.out (fun _ hk => trivial)⟩, ⟨qc⟩⟩
       ·
        have Ga := decide_eq_false c9
        have CS : decide ((Dt ByteArray.empty l0 dX).size ≤ 1500) = false := decide_eq_false (by omega)
        clear c9
        have H' := za H
        clear H
        have EI : 0 ≤ (dX : Int) := of_decide_eq_true iL
        have EJ : dX < (l0.length : Int) := of_decide_eq_true iL
        obtain ⟨Tn, aCS, wL⟩ := Kd.vB Gi.out dX EI EJ
        cases aCS
        replace wL := (HB.out.cell (World.block_lt_of_cell? w _ wL)).trans wL
        replace EI := eq_true EI
        replace EJ := eq_true EJ
        go_wp2_with (first | ((with_reducible refine zg 11 rfl ?_); refine kZ (some 23) Try.func11 #[.string (Dt ByteArray.empty l0 dX)] ?_; refine (gM.calls kj1 (Dt ByteArray.empty l0 dX) JL JM Wu Wv Ww aNT aNU _ A7.out).mono ?_; rintro e w20 ⟨aXi, aXj, aXk, rfl, ho0, ho1, ho2, hb⟩; refine ⟨_, rfl, ?_⟩; replace gT := za (Kd.aQ (Kd.uI (Kd.uI (Kd.uI (Kd.yf (zr gT.out) hb) (Kd.iV ho0)) (Kd.iV ho1)) (Kd.iV ho2)) (fun _ h_ => h_.1)); have Aw := za (Kd.eU ho0 (aT kU)); have Ay := za (Kd.eU ho1 (aT kU)); have Az := za (Kd.eU ho2 (aT kU)); replace HB := za (aM kU hb)) | ((with_reducible refine bO (N := 5) rfl ?_); (try (refine fD (by rfl) ?_; dsimp only)); refine bZ ?hg (N := 5) ?hd (cs := #[.string (⟨#[]⟩ : ByteArray), .int .i64 0, .slice none 0 0, .slice none 0 0, .slice none 0 0]) (t := 31) ?hr ?_; (case hd => rfl); (case hg => rfl); (case hr => exact jA); intro nU hg w21 gP hb; replace gT := za (Kd.iX (Kd.xR (zr gT.out) nU (Nat.le_of_eq hg.symm)) hb); replace Aw := qF Aw hb; replace Ay := qF Ay hb; replace Az := qF Az hb; have uE := za (gP); have EK := za ((by rw [hg]; exact (aT kU) : w.heap.size ≤ nU)); have l7 := za ((by rw [hg]; exact (aT kU) : w.heap.size ≤ nU)); replace HB := za (aM kU hb); clear hb gP hg; obtain ⟨eu, fe, fo, fq, fw⟩ := Zj uE.out; obtain ⟨aIz, gq, gu, gy, gz⟩ := JC uE.out; obtain ⟨aXm, aXn, aNW⟩ := Kd.bJ Aw.out; subst aNW; obtain ⟨aNX, aNY, su⟩ := Kd.bJ Ay.out; subst su; obtain ⟨aNZ, xZ, aN0⟩ := Kd.bJ Az.out; subst aN0; have J9 : 0 ≤ (dX : Int) := of_decide_eq_true iL; have bSu : dX < (l0.length : Int) := of_decide_eq_true iL; obtain ⟨aCX, aNV, mU⟩ := Kd.vB Gi.out dX J9 bSu; obtain rfl : Tn = aCX := (by injection aNV); have Zw : Tn.block ≠ nU := Nat.ne_of_lt (Nat.lt_of_lt_of_le (by have := World.block_lt_of_cell? _ _ mU; first | rwa [add_block] at this | exact this | (rw [add_block] at this; exact Nat.lt_of_lt_of_le this HW0.out)) EK.out); have Zx : Tn.block ≠ nU := Nat.ne_of_lt (Nat.lt_of_lt_of_le (by have := World.block_lt_of_cell? _ _ mU; first | rwa [add_block] at this | exact this | (rw [add_block] at this; exact Nat.lt_of_lt_of_le this HW0.out)) EK.out); have Zy : Tn.block ≠ nU := Nat.ne_of_lt (Nat.lt_of_lt_of_le (by have := World.block_lt_of_cell? _ _ mU; first | rwa [add_block] at this | exact this | (rw [add_block] at this; exact Nat.lt_of_lt_of_le this HW0.out)) EK.out); have Zz : Tn.block ≠ nU := Nat.ne_of_lt (Nat.lt_of_lt_of_le (by have := World.block_lt_of_cell? _ _ mU; first | rwa [add_block] at this | exact this | (rw [add_block] at this; exact Nat.lt_of_lt_of_le this HW0.out)) EK.out); have AJ : Tn.block ≠ nU := Nat.ne_of_lt (Nat.lt_of_lt_of_le (by have := World.block_lt_of_cell? _ _ mU; first | rwa [add_block] at this | exact this | (rw [add_block] at this; exact Nat.lt_of_lt_of_le this HW0.out)) EK.out); replace mU := (HB.out.cell (World.block_lt_of_cell? w _ mU)).trans mU; replace mU := (cell_far (p := ⟨nU, 0, none⟩) (by first | (rw [add_block]; exact Zw) | (show (Addr.add _ _).block ≠ _; rw [add_block]; exact Zw) | exact Zw) (.string JL)).trans mU; replace mU := (cell_far (p := ⟨nU, 1, none⟩) (by first | (rw [add_block]; exact Zx) | (show (Addr.add _ _).block ≠ _; rw [add_block]; exact Zx) | exact Zx) (.int .i64 JM)).trans mU; replace mU := (cell_far (p := ⟨nU, 2, none⟩) (by first | (rw [add_block]; exact Zy) | (show (Addr.add _ _).block ≠ _; rw [add_block]; exact Zy) | exact Zy) (.slice aXm Wu.length aXn)).trans mU; replace mU := (cell_far (p := ⟨nU, 3, none⟩) (by first | (rw [add_block]; exact Zz) | (show (Addr.add _ _).block ≠ _; rw [add_block]; exact Zz) | exact Zz) (.slice aNX Wv.length aNY)).trans mU; replace mU := (cell_far (p := ⟨nU, 4, none⟩) (by first | (rw [add_block]; exact AJ) | (show (Addr.add _ _).block ≠ _; rw [add_block]; exact AJ) | exact AJ) (.slice aNZ Ww.length xZ)).trans mU; clear Zw; clear Zx; clear Zy; clear Zz; clear AJ; replace J9 := eq_true J9; replace bSu := eq_true bSu))
        go_roundg kj1
        case measure => have := lH.out; have := HJ1.out; omega
        case rel => exact ⟨(xU), (wrap64 (dX + 1)), jG, H', ⟨by have := lH.out; have := HJ1.out; omega⟩, ⟨aJy⟩, ⟨qc⟩⟩
      ·
       have H' := za H
       clear H
       have EI : 0 ≤ (dX : Int) := of_decide_eq_true iL
       have EJ : dX < (l0.length : Int) := of_decide_eq_true iL
       obtain ⟨Tn, aCS, wL⟩ := Kd.vB Gi.out dX EI EJ
       cases aCS
       replace wL := (HB.out.cell (World.block_lt_of_cell? w _ wL)).trans wL
       replace EI := eq_true EI
       replace EJ := eq_true EJ
       go_wp2_with (first | ((with_reducible refine zg 11 rfl ?_); refine kZ (some 23) Try.func11 #[.string (Dt ByteArray.empty l0 dX)] ?_; refine (gM.calls kj1 (Dt ByteArray.empty l0 dX) JL JM Wu Wv Ww aNT aNU _ A7.out).mono ?_; rintro e w26 ⟨aXi, aXj, aXk, rfl, ho0, ho1, ho2, hb⟩; refine ⟨_, rfl, ?_⟩; replace gT := za (Kd.aQ (Kd.uI (Kd.uI (Kd.uI (Kd.yf (zr gT.out) hb) (Kd.iV ho0)) (Kd.iV ho1)) (Kd.iV ho2)) (fun _ h_ => h_.1)); have Aw := za (Kd.eU ho0 (aT kU)); have Ay := za (Kd.eU ho1 (aT kU)); have Az := za (Kd.eU ho2 (aT kU)); replace HB := za (aM kU hb)) | ((with_reducible refine bO (N := 5) rfl ?_); (try (refine fD (by rfl) ?_; dsimp only)); refine bZ ?hg (N := 5) ?hd (cs := #[.string (⟨#[]⟩ : ByteArray), .int .i64 0, .slice none 0 0, .slice none 0 0, .slice none 0 0]) (t := 31) ?hr ?_; (case hd => rfl); (case hg => rfl); (case hr => exact jA); intro nU hg w27 gP hb; replace gT := za (Kd.iX (Kd.xR (zr gT.out) nU (Nat.le_of_eq hg.symm)) hb); replace Aw := qF Aw hb; replace Ay := qF Ay hb; replace Az := qF Az hb; have uE := za (gP); have EK := za ((by rw [hg]; exact (aT kU) : w.heap.size ≤ nU)); have l7 := za ((by rw [hg]; exact (aT kU) : w.heap.size ≤ nU)); replace HB := za (aM kU hb); clear hb gP hg; obtain ⟨bFZ, bF0, bF1, bF2, bF3⟩ := Zj uE.out; obtain ⟨bF4, bF5, bF6, bF7, bF8⟩ := JC uE.out; obtain ⟨bQB, bQC, bLo⟩ := Kd.bJ Aw.out; subst bLo; obtain ⟨bQD, bQE, bLp⟩ := Kd.bJ Ay.out; subst bLp; obtain ⟨bQF, bQG, bLq⟩ := Kd.bJ Az.out; subst bLq))
       go_roundg kj1
       case measure => have := lH.out; have := HJ1.out; omega
       case rel => exact ⟨(xU), (wrap64 (dX + 1)), jG, H', ⟨by have := lH.out; have := HJ1.out; omega⟩, ⟨aJy⟩, ⟨qc⟩⟩
     ·
      obtain rfl := Option.some.inj H
      go_wp2
      go_ret
      exact ⟨_, jR, CR, kU⟩
theorem jU.aN1 (A : Option Addr) (c : Nat) (l : List gK) (w : World) (hr : Kd.C pR w A l.length l) (hc : l.length ≤ c) (hl : l.length < 3518437208883) :
  Calls Try.prog 14 #[.slice A l.length c] w fun e w' => ∃ v : Value, e = .returned v ∧ Kd.R pR 51 w' w.heap.size (fun _ => True) v l ∧ Below w.heap.size w w' := by
 have HR := za hr
 have HC := za hc
 have HL := za hl
 clear hr hc hl
 cases A with
 | none =>
  have h0 : l = [] := by
   have := HR.out.2.2
   cases l with
   | nil => rfl
   | cons x l => obtain ⟨ad, e, _⟩ := this (by simp); cases e
  subst h0
  have hq := fun w => Lib.run_eql_slice_nil (P := Try.prog) w 33 51 none 0 c 0 0 Try.underlying33
  go_enter Try.func14, Try.ntmps14
  go_wp2
  go_ret
  exact ⟨_, rfl, Kd.mW _ _ _ _ _, Below.refl _ _⟩
 | some ad =>
  have hq := fun w => Lib.run_eql_slice_nil (P := Try.prog) w 33 51 (some ad) l.length c 0 0 Try.underlying33
  go_enter Try.func14, Try.ntmps14
  go_wp2_with (first | ((with_reducible refine bO (N := 5) rfl ?_); refine Kd.O9 pR _ 51 ?hg (N := 5) ?hd (xs := ([] : List gK)) (inner := []) (ok := fun _ => True) (yO := fun _ => True) ?hr ?hp (fun _ hk => hk) trivial (Below.refl _ _) (Nat.le_refl _) (by simp) ?_; (case hd => rfl); (case hg => rfl); (case hr => exact jA); (case hp => exact (jB.none _ _)); intro v1 w1 ho hb _ _; have Oi := za ho; have HB1 := za hb; clear ho hb) | ((with_reducible refine iK (b := .append) (xs := #[.tmp 5, .tmp 6]) rfl ?_); at_builtin; refine Kd.IV pR (w0 := w) w.heap.size rfl (.tmp 5) (.tmp 6) 33 51 (.agg #[(.string ⟨#[]⟩), (.string ⟨#[]⟩), (.int .i64 0)]) 40 rfl Try.underlying33 CP rfl (by decide) (by omega) v1 [] l _ _ _ (fun _ => True) (fun _ => False) rfl rfl Oi.out ?aR (fun _ _ h => h) (fun _ h => h.elim) (fun _ _ => trivial) HB1.out (aT HB1.out) ?aL ?_; (case aR => exact Kd.dG HR.out HB1.out); (case aL => have := HL.out; simp; omega); intro v2 w2 ho hb _ _; have HO2 := za ho; have HB2 := za hb; clear ho hb))
  go_ret
  exact ⟨_, rfl, HO2.out, HB2.out⟩
def jU.f (l0 : List gK) : Option (List gK) := if l0.length < 3518437208883 then (some l0) else none
theorem jU.calls (A0 : Option Addr) (c0 : Nat) (l0 : List gK) (r : List gK) (w : World) (hr0 : Kd.C pR w A0 l0.length l0) (hc0 : l0.length ≤ c0) (h : jU.f l0 = some r) :
  Calls Try.prog 14 #[.slice A0 l0.length c0] w fun e w' => ∃ lZ : Value, e = .returned (lZ) ∧ Kd.R pR 51 w' w.heap.size (fun _ => True) lZ r ∧ Below w.heap.size w w' := by
 unfold jU.f at h
 by_cases hl : l0.length < 3518437208883
 ·
  rw [if_pos hl] at h
  cases h
  exact jU.aN1 A0 c0 l0 w hr0 hc0 hl
 ·
  rw [if_neg hl] at h; cases h
def jZ (w0 W : World) (g : Nat) (f0 : List (nM)) (f1 : List (gK)) (f2 : Int) (f3 : List ByteArray) : Prop := ∃ A0 c0, ∃ A1 c1, ∃ A3 c3, W.heap[g]? = some (.cells #[.slice A0 f0.length c0, .slice A1 f1.length c1, .int .i64 f2, .slice A3 f3.length c3] 58 (0, 0)) ∧ w0.heap.size ≤ g ∧ Kd.C k31 w0 A0 f0.length f0 ∧ Kd.C pR w0 A1 f1.length f1 ∧ Kd.C Kd.string w0 A3 f3.length f3
theorem jZ.grown {w0 W : World} {g : Nat} {f0 : List (nM)} {f1 : List (gK)} {f2 : Int} {f3 : List ByteArray} {W1 : World} {row : Option Nat} (h : jZ w0 W g f0 f1 f2 f3) (hw : W.grownBy W1 row) (hne : some g ≠ row) : jZ w0 W1 g f0 f1 f2 f3 := by
 obtain ⟨A0, c0, A1, c1, A3, c3, hb, hg, hr0, hr1, hr3⟩ := h
 exact ⟨A0, c0, A1, c1, A3, c3, eD hb hw hne, hg, hr0, hr1, hr3⟩
theorem jZ.kept {w0 W : World} {g : Nat} {f0 : List (nM)} {f1 : List (gK)} {f2 : Int} {f3 : List ByteArray} {W1 : World} {S : Nat → Prop} (h : jZ w0 W g f0 f1 f2 f3) (hk : Kept W W1 S) (hne : ¬ S g) : jZ w0 W1 g f0 f1 f2 f3 := by
 obtain ⟨A0, c0, A1, c1, A3, c3, hb, hg, hr0, hr1, hr3⟩ := h
 exact ⟨A0, c0, A1, c1, A3, c3, pQ hb hk hne, hg, hr0, hr1, hr3⟩
theorem jZ.below {w0 W : World} {g : Nat} {f0 : List (nM)} {f1 : List (gK)} {f2 : Int} {f3 : List ByteArray} {W1 : World} (h : jZ w0 W g f0 f1 f2 f3) (hw : Below W.heap.size W W1) : jZ w0 W1 g f0 f1 f2 f3 := h.grown (Ab hw none) (by simp)
theorem jZ.alloc {w0 W : World} {g : Nat} {f0 : List (nM)} {f1 : List (gK)} {f2 : Int} {f3 : List ByteArray} (h : jZ w0 W g f0 f1 f2 f3) (o : Obj) : jZ w0 (W.alloc o) g f0 f1 f2 f3 := h.below (bT (Below.refl _ _) o)
theorem jZ.drewN {w0 W : World} {g : Nat} {f0 : List (nM)} {f1 : List (gK)} {f2 : Int} {f3 : List ByteArray} (h : jZ w0 W g f0 f1 f2 f3) (m : Nat) : jZ w0 (W.drewN m) g f0 f1 f2 f3 := h
theorem jZ.drew {w0 W : World} {g : Nat} {f0 : List (nM)} {f1 : List (gK)} {f2 : Int} {f3 : List ByteArray} (h : jZ w0 W g f0 f1 f2 f3) : jZ w0 W.drew g f0 f1 f2 f3 := h
theorem jZ.at_ {w0 W : World} {g : Nat} {f0 : List (nM)} {f1 : List (gK)} {f2 : Int} {f3 : List ByteArray} {w' : World} {m : Nat} (hq : W.drewN m = w') (h : jZ w0 W g f0 f1 f2 f3) : jZ w0 w' g f0 f1 f2 f3 := by subst hq; exact jZ.drewN h m
theorem jZ.apart {w0 W : World} {g : Nat} {f0 : List (nM)} {f1 : List (gK)} {f2 : Int} {f3 : List ByteArray} {α : Type} {d : Kd α} {e : Nat} {base : Nat} {ok : Nat → Prop} {v : Value} {xs : List α} (h : jZ w0 W g f0 f1 f2 f3) (ho : d.R e W base ok v xs) (ht : ∀ q, q ∈ e :: d.E → q ≠ 58) : d.R e W base (fun k => ok k ∧ k ≠ g) v xs := by
 obtain ⟨A0, c0, A1, c1, A3, c3, hb, hg, hr0, hr1, hr3⟩ := h
 exact Kd.dS ho hb ht
theorem jZ.own_ne {w0 W : World} {g : Nat} {f0 : List (nM)} {f1 : List (gK)} {f2 : Int} {f3 : List ByteArray} {α : Type} {d : Kd α} {e : Nat} {base : Nat} {ok : Nat → Prop} {v : Value} {xs : List α} (h : jZ w0 W g f0 f1 f2 f3) (ho : d.R e W base ok v xs) (ht : e ≠ 58) : some g ≠ v.ownBlock := by
 obtain ⟨A0, c0, A1, c1, A3, c3, hb, hg, hr0, hr1, hr3⟩ := h
 exact Kd.nA ho hb ht
theorem jZ.CX {w0 W : World} {g : Nat} {f0 : List (nM)} {f1 : List (gK)} {f2 : Int} {f3 : List ByteArray} {α : Type} {d : Kd α} {e : Nat} {base : Nat} {ok : Nat → Prop} {v : Value} {xs : List α} (h : jZ w0 W g f0 f1 f2 f3) (ho : d.S e W base ok v xs) (ht : ∀ q, q ∈ e :: d.E → q ≠ 58) : d.S e W base (fun k => ok k ∧ k ≠ g) v xs := by
 obtain ⟨A0, c0, A1, c1, A3, c3, hb, hg, hr0, hr1, hr3⟩ := h
 exact Kd.Qd ho hb ht
theorem jZ.U8 {w0 W : World} {g : Nat} {f0 : List (nM)} {f1 : List (gK)} {f2 : Int} {f3 : List ByteArray} {α : Type} {d : Kd α} {e : Nat} {base : Nat} {ok : Nat → Prop} {v : Value} {xs : List α} (h : jZ w0 W g f0 f1 f2 f3) (ho : d.S e W base ok v xs) (ht : e ≠ 58) : some g ≠ v.ownBlock := by
 obtain ⟨A0, c0, A1, c1, A3, c3, hb, hg, hr0, hr1, hr3⟩ := h
 exact Kd.aEl ho hb ht
theorem jZ.lt {w0 W : World} {g : Nat} {f0 : List (nM)} {f1 : List (gK)} {f2 : Int} {f3 : List ByteArray} (h : jZ w0 W g f0 f1 f2 f3) : g < W.heap.size := by
 obtain ⟨A0, c0, A1, c1, A3, c3, hb, hg, hr0, hr1, hr3⟩ := h
 exact gB hb
theorem jZ.ge {w0 W : World} {g : Nat} {f0 : List (nM)} {f1 : List (gK)} {f2 : Int} {f3 : List ByteArray} (h : jZ w0 W g f0 f1 f2 f3) : w0.heap.size ≤ g := by
 obtain ⟨A0, c0, A1, c1, A3, c3, hb, hg, hr0, hr1, hr3⟩ := h
 exact hg
theorem jZ.far {w0 W : World} {g : Nat} {f0 : List (nM)} {f1 : List (gK)} {f2 : Int} {f3 : List ByteArray} {p : Addr} (h : jZ w0 W g f0 f1 f2 f3) (hne : g ≠ p.block) (u : Value) : jZ w0 (W.setCell p u) g f0 f1 f2 f3 := by
 obtain ⟨A0, c0, A1, c1, A3, c3, hb, hg, hr0, hr1, hr3⟩ := h
 exact ⟨A0, c0, A1, c1, A3, c3, dJ hb hne u, hg, hr0, hr1, hr3⟩
theorem MB {W : World} {g : Nat} {A0 : Option Addr} {c0 : Nat} {A1 : Option Addr} {c1 : Nat} {A3 : Option Addr} {c3 : Nat} {f0 : List (nM)} {f1 : List (gK)} {f2 : Int} {f3 : List ByteArray} (h : W.heap[g]? = some (.cells #[.slice A0 f0.length c0, .slice A1 f1.length c1, .int .i64 f2, .slice A3 f3.length c3] 58 (0, 0))) : W.cell? ⟨g, 0, none⟩ = some (.slice A0 f0.length c0) := (aA h 0).trans rfl
theorem MC {W : World} {g : Nat} {A0 : Option Addr} {c0 : Nat} {A1 : Option Addr} {c1 : Nat} {A3 : Option Addr} {c3 : Nat} {f0 : List (nM)} {f1 : List (gK)} {f2 : Int} {f3 : List ByteArray} (h : W.heap[g]? = some (.cells #[.slice A0 f0.length c0, .slice A1 f1.length c1, .int .i64 f2, .slice A3 f3.length c3] 58 (0, 0))) : W.cell? ⟨g, 1, none⟩ = some (.slice A1 f1.length c1) := (aA h 1).trans rfl
theorem ME {W : World} {g : Nat} {A0 : Option Addr} {c0 : Nat} {A1 : Option Addr} {c1 : Nat} {A3 : Option Addr} {c3 : Nat} {f0 : List (nM)} {f1 : List (gK)} {f2 : Int} {f3 : List ByteArray} (h : W.heap[g]? = some (.cells #[.slice A0 f0.length c0, .slice A1 f1.length c1, .int .i64 f2, .slice A3 f3.length c3] 58 (0, 0))) : W.cell? ⟨g, 2, none⟩ = some (.int .i64 f2) := (aA h 2).trans rfl
theorem jZ.yV {w0 W : World} {g : Nat} {f0 : List (nM)} {f1 : List (gK)} {f2 : Int} {f3 : List ByteArray} (h : jZ w0 W g f0 f1 f2 f3) (x : Int) : jZ w0 (W.setCell ⟨g, 2, none⟩ (.int .i64 x)) g f0 f1 x f3 := by
 obtain ⟨A0, c0, A1, c1, A3, c3, hb, hg, hr0, hr1, hr3⟩ := h
 exact ⟨A0, c0, A1, c1, A3, c3, by simpa using Fg hb 2 (.int .i64 x), hg, hr0, hr1, hr3⟩
theorem MF {W : World} {g : Nat} {A0 : Option Addr} {c0 : Nat} {A1 : Option Addr} {c1 : Nat} {A3 : Option Addr} {c3 : Nat} {f0 : List (nM)} {f1 : List (gK)} {f2 : Int} {f3 : List ByteArray} (h : W.heap[g]? = some (.cells #[.slice A0 f0.length c0, .slice A1 f1.length c1, .int .i64 f2, .slice A3 f3.length c3] 58 (0, 0))) : W.cell? ⟨g, 3, none⟩ = some (.slice A3 f3.length c3) := (aA h 3).trans rfl
theorem jZ.new (w0 W : World) (A0 : Option Addr) (c0 : Nat) (A1 : Option Addr) (c1 : Nat) (A3 : Option Addr) (c3 : Nat) (f0 : List (nM)) (f1 : List (gK)) (f2 : Int) (f3 : List ByteArray) (hB : Below w0.heap.size w0 W) (hr0 : Kd.C k31 w0 A0 f0.length f0) (hr1 : Kd.C pR w0 A1 f1.length f1) (hr3 : Kd.C Kd.string w0 A3 f3.length f3) : jZ w0 (W.alloc (.cells #[.slice A0 f0.length c0, .slice A1 f1.length c1, .int .i64 f2, .slice A3 f3.length c3] 58)) W.heap.size f0 f1 f2 f3 := ⟨A0, c0, A1, c1, A3, c3, by simpa using heap_alloc_new W _, hB.size, hr0, hr1, hr3⟩
def Ja.f (aK : List (nM)) (aX : List (gK)) (bM : Int) (bN : List ByteArray) : Option (Bool × Int) := if bM = 0 then (some (false, bM)) else (some (true, wrap64 (bM - 1)))
theorem Ja.calls (g : Nat) (aK : List (nM)) (aX : List (gK)) (bM : Int) (bN : List ByteArray) (r1 : Bool) (r2 : Int) (w0 w : World) (hI : jZ w0 w g aK aX bM bN) (hB : Below w0.heap.size w0 w) (h : Ja.f aK aX bM bN = some (r1, r2)) :
  Calls Try.prog 38 #[.pointer (some ⟨g, 0, none⟩)] w fun e w' => e = .returned (.bool r1) ∧ jZ w0 w' g aK aX r2 bN ∧ Below w0.heap.size w0 w' ∧ aU w w' g none := by
 have HI0 := za hI
 have HK := za (aU.refl w g none)
 have HL := za hB.size
 clear hI
 have HW0 := za hB.size
 have HB := za hB
 clear hB
 have H : (if bM = 0 then (some (false, bM)) else (some (true, wrap64 (bM - 1)))) = some (r1, r2) := h
 clear h
 have QP := za H
 clear H
 obtain ⟨bLr, bLs, bLt, bLu, bLv, bLw, sw, bLx, bLy, bLz, bLA⟩ := HI0.out
 have bLB := MB sw
 have bLC := MC sw
 have bLD := ME sw
 have bLE := MF sw
 have bLF := aD sw 2
 clear sw bLx
 go_enter Try.func38, Try.ntmps38
 go_upto_if 7 with (fail)
 have H := QP.out
 clear QP
 revert H; refine oW (fun wY TA H => ?_) (fun c4 wY TA H => ?_)
 ·
  (first | rw [wY] | (simp only [dO, dQ]; rw [wY]) | skip)
  simp only [Option.some.injEq, Prod.mk.injEq] at H
  obtain ⟨rfl, rfl⟩ := H
  go_wp2
  go_ret
  exact ⟨jR, aJK, aJI, vN⟩
 ·
  (first | rw [wY] | (simp only [dO, dQ]; rw [wY]) | skip)
  simp only [Option.some.injEq, Prod.mk.injEq] at H
  obtain ⟨rfl, rfl⟩ := H
  obtain ⟨bLG, bLH, bLI, bLJ, bLK, bLL, tq, bLM, bLN, bLO, bLP⟩ := HI0.out
  have bLQ := MB tq
  have bLR := MC tq
  have bLS := ME tq
  have bLT := MF tq
  have bLU := aD tq 2
  clear tq bLM
  go_wp2
  go_ret
  exact ⟨jR, aJK, aJI, vN⟩
def gI.l0 : Nat → Int → List Int → Int → Int → Option (Int)
 | 0, _, _, _, _ => none
 | k + 1, x3, x6, x7, x8 => if x8 < x7 then (if 0 ≤ x8 then (if x8 < (x6.length : Int) then (if (rd x6 x8) = x3 then (gI.l0 k x3 x6 x7 (wrap64 (x8 + 1))) else (some (rd x6 x8))) else (none)) else (none)) else (some x3)
def gI.f (k : Nat) (l0 : List Int) : Option (Int) := gI.l0 k 0 l0 (l0.length : Int) 0
theorem gI.fT : ∀ k, (∀ y0 y1 y2 y3, bV (gI.l0 k y0 y1 y2 y3) (gI.l0 (k + 1) y0 y1 y2 y3))
 | 0 => fun _ _ _ _ r h => by simp [gI.l0] at h
 | k + 1 => by
  have nV := gI.fT k
  ·
   intro y0 y1 y2 y3
   unfold gI.l0
   repeat' with_reducible first | apply nV | exact bV.refl _ | exact bV.none _ | refine bV.ite ?_ ?_ | refine bV.bind ?_ (fun _ => ?_)
theorem gI.mono : ∀ a0 k, bV (gI.f k a0) (gI.f (k + 1) a0) := by
 intro a0 k
 have nV := gI.fT k
 unfold gI.f
 repeat' with_reducible first | apply nV | exact bV.refl _ | exact bV.none _ | refine bV.ite ?_ ?_ | refine bV.bind ?_ (fun _ => ?_)
theorem gI.calls (k : Nat) (A0 : Option Addr) (c0 : Nat) (l0 : List Int) (r : Int) (w : World) (hr0 : Kd.C (Kd.int .i64) w A0 l0.length l0) (hc0 : l0.length ≤ c0) (h : gI.f k l0 = some r) :
  Calls Try.prog 66 #[.slice A0 l0.length c0] w fun e w' => e = .returned (.int .i64 r) ∧ mP w w' := by
 have Gi := za hr0
 have IQ := za hc0
 clear hr0 hc0
 have H : (gI.l0 k 0 l0 (l0.length : Int) 0) = some r := h
 clear h
 have H' := za H
 clear H
 go_enter Try.func66, Try.ntmps66
 go_wp2
 go_loopg [8] k (fun kq v8 w' => ∃ (K4 : Int), v8 = .int .i64 K4 ∧ aG (gI.l0 kq 0 l0 (l0.length : Int) K4 = some r) ∧ aG (kq ≤ k) ∧ mP w w')
 case atStart => exact ⟨(0), jG, H', ⟨Nat.le_refl _⟩, jY⟩
 case round =>
  clear H'
  obtain ⟨K4, rfl, HA, lH, ⟨m1, rfl⟩⟩ := hrel
  cases gk with
  | zero => exact absurd HA.out (by simp [gI.l0])
  | succ k1 =>
   have H := HA.out
   clear HA
   simp only [gI.l0] at H
   revert H; refine Dn (fun c2 H => ?_) (fun c2 H => ?_)
   ·
    have Oj := decide_eq_true c2
    clear c2
    revert H; refine yX fun Bt H => ?_
    revert H; refine yX fun wY H => ?_
    have uz := za H
    clear H
    have aN2 : 0 ≤ (K4 : Int) := of_decide_eq_true iL
    have aN3 : K4 < (l0.length : Int) := of_decide_eq_true iL
    obtain ⟨bOC, bLV, bF9⟩ := Kd.MR Gi.out K4 aN2 aN3
    cases bLV
    replace aN2 := eq_true aN2
    replace aN3 := eq_true aN3
    go_upto_if 14 with (fail)
    have H := uz.out
    clear uz
    revert H; refine oW (fun Mj qm H => ?_) (fun c6 Mj qm H => ?_)
    ·
     (first | rw [Mj] | (simp only [dO, dQ]; rw [Mj]) | skip)
     have H' := za H
     clear H
     go_wp2
     go_roundg k1
     case measure => have := lH.out; omega
     case rel => exact ⟨(wrap64 (K4 + 1)), jG, H', ⟨by have := lH.out; omega⟩, jY⟩
    ·
     (first | rw [Mj] | (simp only [dO, dQ]; rw [Mj]) | skip)
     obtain rfl := Option.some.inj H
     go_wp2
     go_ret
     exact ⟨lF, jY⟩
   ·
    have Oj := decide_eq_false c2
    clear c2
    obtain rfl := Option.some.inj H
    go_wp2
    go_ret
    exact ⟨lF, jY⟩
def strings_Compare.f (a0 a1 : ByteArray) : Option Int := some (Lib.compareBytes a0.data.toList a1.data.toList)
theorem strings_Compare.calls (a0 : ByteArray) (a1 : ByteArray) (r : Int) (w : World) (h : strings_Compare.f a0 a1 = some r) :
  Calls Try.prog 67 #[.string a0, .string a1] w fun e w' => e = .returned (.int .i64 r) ∧ mP w w' := by
 cases h
 refine (Try.strings_Compare a0 a1 w).mono ?_
 rintro e w' ⟨rfl, rfl⟩
 exact ⟨rfl, mP.refl _⟩
def dR.f (k : Nat) (uJ : ByteArray) (uX : ByteArray) (uK : Int) (qW : ByteArray) (mE : ByteArray) (sI : Int) : Option (Int) := (strings_Compare.f uJ qW).bind fun JN => ((strings_Compare.f uX mE).bind fun JO => ((gI.f k (([JN, JO] : List Int))).bind fun K5 => (some K5)))
theorem dR.mono : ∀ a0 a1 a2 a3 a4 a5 k, bV (dR.f k a0 a1 a2 a3 a4 a5) (dR.f (k + 1) a0 a1 a2 a3 a4 a5) := by
 intro a0 a1 a2 a3 a4 a5 k
 unfold dR.f
 repeat' with_reducible first | apply gI.mono | exact bV.refl _ | exact bV.none _ | refine bV.ite ?_ ?_ | refine bV.bind ?_ (fun _ => ?_)
def dR.T1 : Bool × List (List Nat × List Nat) := (true, [([], []), ([0], [0]), ([], []), ([2], [2]), ([1, 3], [1, 3]), ([], []), ([5], [5]), ([], []), ([7], [7]), ([6, 8, 4], [6, 8]), ([4, 9], [4, 9]), ([10, 9], [10]), ([11, 11, 0, 1, 2, 3, 4, 5, 6, 7, 8, 9, 10, 11], [11])])
def dR.B1 : List Nat := [0, 1, 0, 4, 15, 0, 32, 0, 128, 511, 1023, 2047, 4095]
theorem dR.aAK : oL .any (opsOf Try.f61 1) = dR.T1 := by kernel_rfl
theorem dR.TS : kH dR.T1.2 dR.B1 = true := by kernel_rfl
theorem dR.calls (k : Nat) (uJ : ByteArray) (uX : ByteArray) (uK : Int) (qW : ByteArray) (mE : ByteArray) (sI : Int) (r : Int) (w : World) (h : dR.f k uJ uX uK qW mE sI = some r) :
  Calls Try.prog 61 #[.agg #[.string uJ, .string uX, .int .i64 uK], .agg #[.string qW, .string mE, .int .i64 sI]] w fun e w' => e = .returned (.int .i64 r) ∧ Below w.heap.size w w' := by
 have aCY := Try.underlying51
 have HB := za (Below.refl w.heap.size w)
 have H : ((strings_Compare.f uJ qW).bind fun JN => ((strings_Compare.f uX mE).bind fun JO => ((gI.f k (([JN, JO] : List Int))).bind fun K5 => (some K5)))) = some r := h
 clear h
 replace H := jT H
 obtain ⟨JN, A3, H⟩ := H
 (try dsimp only at H)
 replace H := jT H
 obtain ⟨JO, A4, H⟩ := H
 (try dsimp only at H)
 obtain ⟨aN4, WC⟩ : ∃ y_ : List Int, y_ = (([JN, JO] : List Int)) := ⟨_, rfl⟩
 replace H : ((gI.f k aN4).bind fun K5 => (some K5)) = some r := by first | (rw [WC]; with_reducible exact H) | (have lS := (Option.bind_some _ _).symm.trans H; rw [WC]; with_reducible exact lS) | (have lS := (Option.bind_some _ _).symm.trans H; with_reducible exact lS) | with_reducible exact H | (rw [WC]; exact H) | exact H
 have aKJ := za WC
 clear WC
 replace H := jT H
 obtain ⟨K5, A5, H⟩ := H
 (try dsimp only at H)
 obtain rfl := Option.some.inj H
 go_enter Try.func61, Try.ntmps61
 try go_wp2_with (first | ((with_reducible refine bO (N := 2) rfl ?_); refine bZ ?hg (N := 2) ?hd (cs := #[.string uJ, .string uX, .int .i64 uK]) (t := 51) ?hr ?_; (case hd => rfl); (case hg => rfl); (case hr => exact jA); intro Jb hg w6 gP hb; have sU := za (gP); have bOD := za ((by rw [hg]; exact (aT kU) : w.heap.size ≤ Jb)); have aJx := za ((by rw [hg]; exact (aT kU) : w.heap.size ≤ Jb)); replace HB := za (aM kU hb); clear hb gP hg) | ((with_reducible refine bO (N := 3) rfl ?_); refine bZ ?hg (N := 3) ?hd (cs := #[.string qW, .string mE, .int .i64 sI]) (t := 51) ?hr ?_; (case hd => rfl); (case hg => rfl); (case hr => exact jA); intro Yh hg w7 gP hb; have vH := za (gP); have bOE := za ((by rw [hg]; exact (aT aAi) : w.heap.size ≤ Yh)); have aPO := za ((by rw [hg]; exact (aT aAi) : w.heap.size ≤ Yh)); replace HB := za (aM aAi hb); have aPb := za ((by rw [hg]; exact Nat.ne_of_lt (gB (g := Jb) (zb sU.out)) : Jb ≠ Yh)); have aPc := za ((by rw [hg]; exact Nat.ne_of_gt (gB (g := Jb) (zb sU.out)) : Yh ≠ Jb)); replace sU := za (aY (g := Jb) (zb sU.out) hb); clear hb gP hg))
 replace sU := za (dE sU.out)
 replace vH := za (dE vH.out)
 replace HB := za (bK HB.out)
 refine lW (n := 13) (S := fun w' => w'.cell? ⟨Jb, 0, none⟩ = some (.string uJ) ∧ w'.cell? ⟨Jb, 1, none⟩ = some (.string uX) ∧ w'.cell? ⟨Jb, 2, none⟩ = some (.int .i64 uK) ∧ w'.cell? ⟨Yh, 0, none⟩ = some (.string qW) ∧ w'.cell? ⟨Yh, 1, none⟩ = some (.string mE) ∧ w'.cell? ⟨Yh, 2, none⟩ = some (.int .i64 sI)) (ds := []) #[false, false, false, false, false, false, false, false, false, false, false, false, false] dU rfl rfl ⟨(aA sU.out 0).trans rfl, (aA sU.out 1).trans rfl, (aA sU.out 2).trans rfl, (aA vH.out 0).trans rfl, (aA vH.out 1).trans rfl, (aA vH.out 2).trans rfl⟩ (fun hHeld => ?_); refine gX dR.aAK dR.TS (fun dB qB => ?_)
 generalize w7.drew = w8 at sU vH HB hHeld ⊢
 refine gV 0 (some 5) dB ?_
 refine gV 2 (some 7) dB ?_
 refine gV 5 (some 10) dB ?_
 refine gV 7 (some 12) dB ?_
 refine vP 1 (some 6) dB qB hHeld ?_
 refine vP 3 (some 8) dB qB hHeld ?_
 refine vP 6 (some 11) dB qB hHeld ?_
 refine vP 8 (some 13) dB qB hHeld ?_
 refine Cn 4 (some 9) dB (fun K hK => ?_)
 refine wT Try.func67 dU rfl #[.string uJ, .string qW] (by rfl) rfl rfl Fb ?_
 with_reducible refine (strings_Compare.calls uJ qW JN _ A3.out).mono ?_
 rintro e w' ⟨rfl, ⟨nd, rfl⟩⟩
 refine ⟨_, rfl, ?_⟩
 refine hK.out _ _ ⟨(aA sU.out 0).trans rfl, (aA sU.out 1).trans rfl, (aA sU.out 2).trans rfl, (aA vH.out 0).trans rfl, (aA vH.out 1).trans rfl, (aA vH.out 2).trans rfl⟩ (fun hHeld => ?_)
 clear hK K
 refine jS (a' := ?_) ?_ ?_
 rotate_left
 ·
  show Act.put _ (some 9) _ = _
  simp only [Act.put, List.setIfInBounds_toArray, List.set_cons_zero, List.set_cons_succ, dO, dQ]
  rfl
 refine Cn 9 (some 14) dB (fun K hK => ?_)
 refine wT Try.func67 dU rfl #[.string uX, .string mE] (by rfl) rfl rfl Fb ?_
 with_reducible refine (strings_Compare.calls uX mE JO _ A4.out).mono ?_
 rintro e w' ⟨rfl, ⟨nd, rfl⟩⟩
 refine ⟨_, rfl, ?_⟩
 refine hK.out _ _ ⟨(aA sU.out 0).trans rfl, (aA sU.out 1).trans rfl, (aA sU.out 2).trans rfl, (aA vH.out 0).trans rfl, (aA vH.out 1).trans rfl, (aA vH.out 2).trans rfl⟩ (fun hHeld => ?_)
 clear hK K
 refine jS (a' := ?_) ?_ ?_
 rotate_left
 ·
  show Act.put _ (some 14) _ = _
  simp only [Act.put, List.setIfInBounds_toArray, List.set_cons_zero, List.set_cons_succ, dO, dQ]
  rfl
 refine Cn 10 (some 15) dB (fun K hK => ?_)
 refine Kd.D5 (Kd.int .i64) _ 3 ?hg (N := 15) ?hd (xs := ([JN, JO] : List Int)) (inner := [.int .i64 JN, .int .i64 JO]) (ok := fun _ => True) (yO := fun _ => True) ?hr ?hp (fun _ hk => hk) trivial (Below.refl _ _) (Nat.le_refl _) (by simp) ?_; (case hd => rfl); (case hg => rfl); (case hr => exact jA); (case hp => exact (jB.one (show Kd.M (Kd.int .i64) _ _ _ JN [.int .i64 JN] from rfl) (jB.one (show Kd.M (Kd.int .i64) _ _ _ JO [.int .i64 JO] from rfl) (jB.none _ _))))
 intro bQH w9 QC hb hg_ Rq
 clear hg_ Rq
 (first | rw [← aKJ.out] at QC | (simp only [Int.reduceToNat] at QC; rw [← aKJ.out] at QC))
 have aCZ := za (Kd.eU QC (aT aAd))
 replace sU := za (aY (g := Jb) (zb sU.out) hb)
 replace vH := za (aY (g := Yh) (zb vH.out) hb)
 replace HB := za (aM aAd hb)
 clear hb QC
 obtain ⟨bLW, aN5, aC0⟩ := Kd.bJ aCZ.out
 (first | subst aC0 | (injection aC0 with wU Gu wV; have Gv := wU.symm; have Gw := wV.symm; clear wU Gu wV; subst Gv; subst Gw))
 refine hK.out _ _ ⟨(aA sU.out 0).trans rfl, (aA sU.out 1).trans rfl, (aA sU.out 2).trans rfl, (aA vH.out 0).trans rfl, (aA vH.out 1).trans rfl, (aA vH.out 2).trans rfl⟩ (fun hHeld => ?_)
 clear hK K
 refine jS (a' := ?_) ?_ ?_
 rotate_left
 ·
  show Act.put _ (some 15) _ = _
  simp only [Act.put, List.setIfInBounds_toArray, List.set_cons_zero, List.set_cons_succ, dO, dQ]
  rfl
 refine Cn 11 (some 16) dB (fun K hK => ?_)
 refine wT Try.func66 dU rfl #[.slice bLW aN4.length aN5] (by rfl) rfl rfl Fb ?_
 with_reducible refine (gI.calls k _ _ aN4 K5 _ ?side1 ?side2 A5.out).mono ?_
 (case side1 => repeat (first | exact (Kd.cZ aCZ.out).2.2 | (with_reducible refine Kd.jV ?_ _) | (with_reducible refine Kd.jW ?_ _) | (with_reducible refine Kd.kR ?_)))
 (case side2 => exact (Kd.cZ aCZ.out).2.1)
 rintro e w' ⟨rfl, ⟨nd, rfl⟩⟩
 refine ⟨_, rfl, ?_⟩
 refine hK.out _ _ ⟨(aA sU.out 0).trans rfl, (aA sU.out 1).trans rfl, (aA sU.out 2).trans rfl, (aA vH.out 0).trans rfl, (aA vH.out 1).trans rfl, (aA vH.out 2).trans rfl⟩ (fun hHeld => ?_)
 clear hK K
 refine jS (a' := ?_) ?_ ?_
 rotate_left
 ·
  show Act.put _ (some 16) _ = _
  simp only [Act.put, List.setIfInBounds_toArray, List.set_cons_zero, List.set_cons_succ, dO, dQ]
  rfl
 refine gV 12 (some 4) dB ?_
 refine pO (jX dB.out dU) ?_
 try go_wp2
 go_ret
 exact ⟨jR, aAd⟩
end Go.Proofs.Ytiaeldibklcobaa.eZ
