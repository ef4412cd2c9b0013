import Derived.Test.YtiaeldibklcobaaZRPx15
namespace Go.Proofs.Ytiaeldibklcobaa.eZ
open Go.RowKit Go.Proofs.YtiaeldibklcobaaW.bL Go.Proofs.YtiaeldibklcobaaW.fV Go.Proofs.YtiaeldibklcobaaW.iZ
set_option maxHeartbeats 8000000
set_option maxRecDepth 100000
attribute [local go_sem] kL kM lX lY jC jD kN kP
set_option linter.unusedVariables false
set_option linter.unusedSimpArgs false
def dF.cmp (x y : gK) : Int := if Lib.compareBytes x.f0.data.toList y.f0.data.toList = 0 then Lib.compareBytes x.f1.data.toList y.f1.data.toList else Lib.compareBytes x.f0.data.toList y.f0.data.toList
theorem dF.aXr (x y : gK) (k : Nat) : dR.f (k + 3) x.f0 x.f1 x.f2 y.f0 y.f1 y.f2 = some (dF.cmp x y) := by
 unfold dR.f strings_Compare.f gI.f dF.cmp
 generalize Lib.compareBytes x.f0.data.toList y.f0.data.toList = a
 generalize Lib.compareBytes x.f1.data.toList y.f1.data.toList = b
 by_cases ha : a = 0
 ·
  subst ha
  by_cases hb : b = 0
  ·
   subst hb
   simp [gI.l0, rd, wrap64]
  ·
   simp [gI.l0, rd, wrap64, hb]
 ·
  simp [gI.l0, rd, wrap64, ha]
theorem dF.tu (x y : gK) (w : World) : Calls Try.prog 61 #[.agg #[.string x.f0, .string x.f1, .int .i64 x.f2], .agg #[.string y.f0, .string y.f1, .int .i64 y.f2]] w fun e w' => e = .returned (.int .i64 (dF.cmp x y)) ∧ Below w.heap.size w w' :=
 dR.calls 3 _ _ _ _ _ _ _ w (dF.aXr x y 0)
theorem dF.clo (x y : gK) (gb : Nat) (w : World) (hb : w.heap[gb]? = some (.cells #[.string y.f0, .string y.f1, .int .i64 y.f2] 51 (0, 0))) :
  Calls Try.prog 64 #[.agg #[.string x.f0, .string x.f1, .int .i64 x.f2], .pointer (some ⟨gb, 0, none⟩)] w fun e w' => e = .returned (.bool (dF.cmp x y == 0)) ∧ Below w.heap.size w w' := by
 have aXs := Try.underlying51
 have HG := za hb
 clear hb
 go_enter Try.func64, Try.ntmps64
 go_wp2_with (first | ((with_reducible refine bO (N := 2) rfl ?_); refine bZ ?hg (N := 2) ?hd (cs := #[.string x.f0, .string x.f1, .int .i64 x.f2]) (t := 51) ?hr ?_; (case hd => rfl); (case hg => rfl); (case hr => exact jA); intro g2 hg w2 gP hb; have BK := za gP; have HB := za hb; have HG2 := za (aY HG.out hb); clear gP hb hg; have c0 := (aA BK.out 0).trans rfl; have c1 := (aA BK.out 1).trans rfl; have c2 := (aA BK.out 2).trans rfl; have d0 := (aA HG2.out 0).trans rfl; have d1 := (aA HG2.out 1).trans rfl; have d2 := (aA HG2.out 2).trans rfl) | (go_at_call 61; refine (dF.tu x y _).mono ?_; rintro e w3 ⟨rfl, hb3⟩; have HB3 := za (aM HB.out hb3); clear hb3 c0 c1 c2 d0 d1 d2))
 go_ret
 exact ⟨rfl, HB3.out⟩
def dF.idx (y : gK) : List gK → Int → Int
 | [], _ => -1
 | c :: t, j => if dF.cmp c y = 0 then j else dF.idx y t (j + 1)
theorem dF.aOf (y : gK) (l : List gK) (x : Int) (h0 : 0 ≤ x) (h1 : x < (l.length : Int)) (j : Int) : dF.idx y (l.drop x.toNat) j = if dF.cmp (aZ l x) y = 0 then j else dF.idx y (l.drop (x + 1).toNat) (j + 1) := by
 have h : x.toNat < l.length := by omega
 rw [List.drop_eq_getElem_cons h, show (x + 1).toNat = x.toNat + 1 by omega]
 simp [dF.idx, aZ, List.getD_eq_getElem?_getD, h]
theorem dF.index (A0 : Option Addr) (c0 : Nat) (l0 : List gK) (y : gK) (gb : Nat) (w : World) (hr : Kd.C pR w A0 l0.length l0) (hc : l0.length ≤ c0) (hl : l0.length ≤ 140737488355328) (hb : w.heap[gb]? = some (.cells #[.string y.f0, .string y.f1, .int .i64 y.f2] 51 (0, 0))) :
  Calls Try.prog 63 #[.slice A0 l0.length c0, .func (.func 64) #[] #[.pointer (some ⟨gb, 0, none⟩)]] w fun e w' => e = .returned (.int .i64 (dF.idx y l0 0)) ∧ Below w.heap.size w w' := by
 have aXs := Try.underlying51
 have HG := za hb
 have HR := za hr
 have HC := za hc
 clear hb hr hc
 go_enter Try.func63, Try.ntmps63
 go_wp2
 go_loopw [8] (fun i wr => ∃ x : Int, i = .int .i64 x ∧ 0 ≤ x ∧ x ≤ (l0.length : Int) ∧ aG (dF.idx y l0 0 = dF.idx y (l0.drop x.toNat) x) ∧ aG (Below w.heap.size w wr)) (fun i _ => l0.length - (intOf i).toNat)
 case atStart => exact ⟨0, rfl, by omega, by omega, ⟨by simp⟩, ⟨Below.refl _ _⟩⟩
 case round =>
  obtain ⟨x, rfl, h0, h1, HI, HB⟩ := hrel
  by_cases hlt : x < (l0.length : Int)
  ·
   have p0 := eq_true h0
   have p1 := eq_true hlt
   obtain ⟨ad, ea, hx0, hx1, hx2⟩ := uW HR.out x h0 hlt
   cases ea
   replace hx0 := (HB.out.cell (World.block_lt_of_cell? w _ hx0)).trans hx0
   replace hx1 := (HB.out.cell (World.block_lt_of_cell? w _ hx1)).trans hx1
   replace hx2 := (HB.out.cell (World.block_lt_of_cell? w _ hx2)).trans hx2
   have HGr := za ((HB.out.block gb (gB HG.out)).trans HG.out)
   have HS := za (dF.aOf y l0 x h0 hlt x)
   by_cases hq : dF.cmp (aZ l0 x) y = 0
   ·
    have hqb : (dF.cmp (aZ l0 x) y == 0) = true := beq_iff_eq.mpr hq
    have HQ := za hq
    clear hq
    go_wp2_with (go_at_call 64; refine (dF.clo (aZ l0 x) y gb _ HGr.out).mono ?_; rintro e w3 ⟨rfl, hb3⟩; have HB3 := za (aM HB.out hb3); clear hb3 hx0 hx1 hx2)
    go_ret
    exact ⟨by rw [HI.out, HS.out, if_pos HQ.out]; rfl, HB3.out⟩
   ·
    have hqb : (dF.cmp (aZ l0 x) y == 0) = false := beq_eq_false_iff_ne.mpr hq
    have HQ := za hq
    clear hq
    go_wp2_with (go_at_call 64; refine (dF.clo (aZ l0 x) y gb _ HGr.out).mono ?_; rintro e w3 ⟨rfl, hb3⟩; have HB3 := za (aM HB.out hb3); clear hb3 hx0 hx1 hx2)
    go_roundw
    case rel => exact ⟨x + 1, by go_num, by omega, by omega, ⟨by rw [HI.out, HS.out, if_neg HQ.out]⟩, HB3⟩
    case measure => simp [intOf]; omega
  ·
   go_wp2
   go_ret
   exact ⟨by rw [HI.out, List.drop_eq_nil_of_le (by omega)]; rfl, HB.out⟩
def dF.f (k : Nat) (l0 : List gK) (a1 a2 : ByteArray) : Option Int := if l0.length ≤ 140737488355328 then ((eP.f k l0).bind fun t => (if t = true then ((dA.f k l0 a1 a2 0).bind fun b => (if b.2 = true then (some b.1) else (some (-1)))) else (some (dF.idx ⟨a1, a2, 0⟩ l0 0)))) else none
theorem dF.mono : ∀ a0 a1 a2 k, bV (dF.f k a0 a1 a2) (dF.f (k + 1) a0 a1 a2) := by
 intro a0 a1 a2 k
 unfold dF.f
 repeat' with_reducible first | apply eP.mono | apply dA.mono | exact bV.refl _ | refine bV.ite ?_ ?_ | refine bV.bind ?_ (fun _ => ?_)
theorem dF.calls (k : Nat) (A0 : Option Addr) (c0 : Nat) (l0 : List gK) (a1 a2 : ByteArray) (r : Int) (w : World) (hr0 : Kd.C pR w A0 l0.length l0) (hc0 : l0.length ≤ c0) (h : dF.f k l0 a1 a2 = some r) :
  Calls Try.prog 55 #[.slice A0 l0.length c0, .string a1, .string a2] w fun e w' => e = .returned (.int .i64 r) ∧ Below w.heap.size w w' := by
 unfold dF.f at h
 by_cases hl : l0.length ≤ 140737488355328
 ·
  rw [if_pos hl] at h
  have aXs := Try.underlying51
  have HR := za hr0
  have HC := za hc0
  have HL := za hl
  clear hr0 hc0 hl
  obtain ⟨t, h1, h⟩ := Option.bind_eq_some_iff.mp h
  have H1 := za h1
  clear h1
  go_enter Try.func55, Try.ntmps55
  go_wp2_with (first | ((with_reducible refine bO (N := 7) rfl ?_); refine bZ ?hg (N := 7) ?hd (cs := #[.string (⟨#[]⟩ : ByteArray), .string (⟨#[]⟩ : ByteArray), .int .i64 0]) (t := 51) ?hr ?_; (case hd => rfl); (case hg => rfl); (case hr => exact jA); intro g2 hg w2 gP hb; have BK := za gP; have HB := za hb; have GW := za (Nat.le_of_eq hg.symm); clear gP hb hg; have q0 := (aA BK.out 0).trans rfl; have q1 := (aA BK.out 1).trans rfl; have q2 := (aA BK.out 2).trans rfl; have f0 := aD BK.out 0; have f1 := aD BK.out 1; have f2 := aD BK.out 2))
  clear q0 q1 q2 f0 f1 f2
  have HB3 := za (aV (g := g2) (j := 2) (v := .int .i64 0) (aV (g := g2) (j := 1) (v := .string a2) (aV (g := g2) (j := 0) (v := .string a1) HB.out GW.out) GW.out) GW.out)
  have BK3 := za (bD (cs' := #[.string a1, .string a2, .int .i64 0]) (bD (cs' := #[.string a1, .string a2, .int .i64 0]) (bD (cs' := #[.string a1, .string (⟨#[]⟩ : ByteArray), .int .i64 0]) BK.out 0 (.string a1) rfl) 1 (.string a2) rfl) 2 (.int .i64 0) rfl)
  refine (eP.calls k A0 c0 l0 t _ (Kd.dG HR.out HB3.out) HC.out H1.out).mono ?_
  rintro e w4 ⟨rfl, hb4⟩
  have J8 := za (aM HB3.out hb4)
  have BK4 := za (aY BK3.out hb4)
  clear hb4 BK3 HB3 HB BK
  have q0 := (aA BK4.out 0).trans rfl
  have q1 := (aA BK4.out 1).trans rfl
  have q2 := (aA BK4.out 2).trans rfl
  cases t with
  | true =>
   rw [if_pos rfl] at h
   obtain ⟨b, h2, h⟩ := Option.bind_eq_some_iff.mp h
   obtain ⟨b1, b2⟩ := b
   have H2 := za h2
   clear h2
   cases b2 with
   | true =>
    rw [if_pos rfl] at h
    obtain rfl := Option.some.inj h
    go_wp2_with (go_at_call 62; refine (dA.calls k A0 c0 l0 a1 a2 0 b1 true _ (Kd.dG HR.out J8.out) HC.out H2.out).mono ?_; rintro e w5 ⟨rfl, hb5⟩; have Bw := za (aM J8.out hb5); clear hb5 q0 q1 q2)
    go_ret
    exact ⟨rfl, Bw.out⟩
   | false =>
    rw [if_neg Bool.false_ne_true] at h
    obtain rfl := Option.some.inj h
    go_wp2_with (go_at_call 62; refine (dA.calls k A0 c0 l0 a1 a2 0 b1 false _ (Kd.dG HR.out J8.out) HC.out H2.out).mono ?_; rintro e w5 ⟨rfl, hb5⟩; have Bw := za (aM J8.out hb5); clear hb5 q0 q1 q2)
    go_ret
    exact ⟨rfl, Bw.out⟩
  | false =>
   rw [if_neg Bool.false_ne_true] at h
   obtain rfl := Option.some.inj h
   go_wp2_with (go_at_call 63; refine (dF.index A0 c0 l0 ⟨a1, a2, 0⟩ g2 _ (Kd.dG HR.out J8.out) HC.out HL.out BK4.out).mono ?_; rintro e w5 ⟨rfl, hb5⟩; have Bw := za (aM J8.out hb5); clear hb5 q0 q1 q2)
   go_ret
   exact ⟨rfl, Bw.out⟩
 ·
  rw [if_neg hl] at h; cases h
def oO.f (k : Nat) (l0 : List (gK)) (a1 : ByteArray) (a2 : ByteArray) : Option (Int × Bool) := (dF.f k l0 a1 a2).bind fun Gx => (if Gx < 0 then (some (0, false)) else (if 0 ≤ Gx then (if Gx < (l0.length : Int) then (some ((aZ l0 Gx).f2, true)) else (none)) else (none)))
theorem oO.mono : ∀ a0 a1 a2 k, bV (oO.f k a0 a1 a2) (oO.f (k + 1) a0 a1 a2) := by
 intro a0 a1 a2 k
 unfold oO.f
 repeat' with_reducible first | apply dF.mono | exact bV.refl _ | exact bV.none _ | refine bV.ite ?_ ?_ | refine bV.bind ?_ (fun _ => ?_)
theorem oO.calls (k : Nat) (A0 : Option Addr) (c0 : Nat) (l0 : List (gK)) (a1 : ByteArray) (a2 : ByteArray) (r1 : Int) (r2 : Bool) (w : World) (hr0 : Kd.C pR w A0 l0.length l0) (hc0 : l0.length ≤ c0) (h : oO.f k l0 a1 a2 = some (r1, r2)) :
  Calls Try.prog 58 #[.slice A0 l0.length c0, .string a1, .string a2] w fun e w' => e = .returned (.tuple #[.int .i64 r1, .bool r2]) ∧ Below w.heap.size w w' := by
 have Gi := za hr0
 have IQ := za hc0
 clear hr0 hc0
 have HB := za (Below.refl w.heap.size w)
 have H : ((dF.f k l0 a1 a2).bind fun Gx => (if Gx < 0 then (some (0, false)) else (if 0 ≤ Gx then (if Gx < (l0.length : Int) then (some ((aZ l0 Gx).f2, true)) else (none)) else (none)))) = some (r1, r2) := h
 clear h
 replace H := jT H
 obtain ⟨Gx, A4, H⟩ := H
 (try dsimp only at H)
 have uz := za H
 clear H
 go_enter Try.func58, Try.ntmps58
 go_upto_if 14 with (first | ((with_reducible refine zg 55 rfl ?_); refine kZ (some 12) Try.func55 #[.slice A0 l0.length c0, .string a1, .string a2] ?_; refine (dF.calls k _ _ l0 a1 a2 Gx _ aAj IQ.out A4.out).mono ?_; rintro e w6 ⟨rfl, hb⟩; refine ⟨_, rfl, ?_⟩; replace HB := za (aM kU hb)))
 have H := uz.out
 clear uz
 revert H; refine Dn (fun c7 H => ?_) (fun c7 H => ?_)
 ·
  have Bu : decide (Gx < 0) = true := decide_eq_true c7
  clear c7
  (first | rw [Bu] | (simp only [dO, dQ]; rw [Bu]) | skip)
  simp only [Option.some.injEq, Prod.mk.injEq] at H
  obtain ⟨rfl, rfl⟩ := H
  go_wp2
  go_ret2
  exact ⟨jR, kU⟩
 ·
  have Bu : decide (Gx < 0) = false := decide_eq_false c7
  clear c7
  (first | rw [Bu] | (simp only [dO, dQ]; rw [Bu]) | skip)
  revert H; refine zd fun c8 H => ?_
  have oZ : decide (0 ≤ Gx) = true := decide_eq_true c8
  clear c8
  revert H; refine zd fun c9 H => ?_
  have Ga : decide (Gx < (l0.length : Int)) = true := decide_eq_true c9
  clear c9
  simp only [Option.some.injEq, Prod.mk.injEq] at H
  obtain ⟨rfl, rfl⟩ := H
  have aOg : 0 ≤ (Gx : Int) := of_decide_eq_true iL
  have aOh : Gx < (l0.length : Int) := of_decide_eq_true iL
  obtain ⟨bOG, bL2, QQ, QR, QS⟩ := uW Gi.out Gx aOg aOh
  cases bL2
  replace QQ := (HB.out.cell (World.block_lt_of_cell? w _ QQ)).trans QQ
  replace QR := (HB.out.cell (World.block_lt_of_cell? w _ QR)).trans QR
  replace QS := (HB.out.cell (World.block_lt_of_cell? w _ QS)).trans QS
  replace aOg := eq_true aOg
  replace aOh := eq_true aOh
  go_wp2
  go_ret2
  exact ⟨jR, kU⟩
section
open Go.Shelf
attribute [local go_sem] Oper.semAt_some
def aN.back (zs : List gK) (k : Nat) : Int × gK := ((zs.length : Int) - 1 - (k : Int), aZ zs ((zs.length : Int) - 1 - (k : Int)))
def aN.upto (zs : List gK) (k : Nat) : List (Int × gK) := (List.range k).map (aN.back zs)
theorem aN.MG (zs : List gK) (k : Nat) : aN.upto zs (k + 1) = aN.upto zs k ++ [aN.back zs k] := by simp [aN.upto, List.range_succ]
theorem aN.WH (zs : List gK) (k : Nat) : (aN.upto zs k).length = k := by simp [aN.upto]
abbrev aN.encs (x : Int × gK) : Array Value := #[.int .i64 x.1, .agg #[.string x.2.f0, .string x.2.f1, .int .i64 x.2.f2]]
theorem aN.aC2 (F : Fence) (n : Nat) (h80 : F.fn 54) (hro : F.round = none) (hn : 1 ≤ n) (l Bs : Nat) (A : Option Addr) (cap : Nat) (zs : List gK) (w0 : World) (hC : Kd.C pR w0 A zs.length zs) (hlen : zs.length ≤ 140737488355328) (J Jx : List (Int × gK) → World → Prop)
  (hY : ∀ pre x W, J pre W → pre.length < zs.length → YieldAt F (n - 1) Try.prog l (aN.encs x) W fun e W' =>
   (e = .returned (.bool true) ∧ J (pre ++ [x]) W' ∧ Below w0.heap.size W W') ∨ (e = .returned (.bool false) ∧ Jx (pre ++ [x]) W'))
  (W : World) (hB0 : Below w0.heap.size w0 W) (aC3 : Bs < w0.heap.size) (hBs : w0.cell? ⟨Bs, 0, none⟩ = some (.slice A zs.length cap)) (h0 : J [] W) :
  CallsIn F n Try.prog 54 #[.func (.yield l) #[] #[], .pointer (some ⟨Bs, 0, none⟩)] W fun e W' => (∃ v, e = .returned v) ∧
   ((∃ ys, ys = aN.upto zs zs.length ∧ J ys W') ∨ (∃ pre, (∃ k, k ≤ zs.length ∧ pre = aN.upto zs k) ∧ Jx pre W')) := by
 have HC := za hC
 have HBs := za hBs
 have hb1 := (hB0.cell (p := ⟨Bs, 0, none⟩) aC3).trans hBs
 have HB0 := za hB0
 clear hC hBs hB0
 refine callsIn_of_wp Try.func54 rfl h80 ?_ hro
 simp only [Try.ntmps54, List.size_toArray, List.length_cons, List.length_nil, Nat.reduceAdd, Nat.reduceSub, Array.replicate_succ, Array.replicate_zero, List.push_toArray, List.append_toArray, List.nil_append, List.cons_append]
 gi_wp2
 clear hb1
 gi_loopw [3] (fun i wr => ∃ (k : Nat) (x : Int), aG (x = (zs.length : Int) - 1 - (k : Int)) ∧ -1 ≤ x ∧ x < (zs.length : Int) ∧ k ≤ zs.length ∧ i = .int .i64 x ∧ J (aN.upto zs k) wr ∧ aG (Below w0.heap.size w0 wr))
  (fun i _ => (intOf i + 1).toNat)
 case atStart => exact ⟨0, _, ⟨by simp⟩, by omega, by omega, Nat.zero_le _, rfl, h0, HB0⟩
 case round =>
  obtain ⟨k, x, HX, hx0, hx1, hk, rfl, hJs, HB⟩ := hrel
  have hbr := (HB.out.cell (p := ⟨Bs, 0, none⟩) aC3).trans HBs.out
  by_cases hlt : 0 ≤ x
  ·
   have hkl : k < zs.length := by have := HX.out; omega
   obtain ⟨ad, ea, e0, e1, e2⟩ := uW HC.out x hlt hx1
   cases ea
   replace e0 := (HB.out.cell (World.block_lt_of_cell? w0 _ e0)).trans e0
   replace e1 := (HB.out.cell (World.block_lt_of_cell? w0 _ e1)).trans e1
   replace e2 := (HB.out.cell (World.block_lt_of_cell? w0 _ e2)).trans e2
   obtain ⟨fn, tmps, assign, body, hy, hR⟩ := hY _ (x, aZ zs x) wr hJs (by rw [aN.WH]; exact hkl)
   have hup : aG (aN.upto zs k ++ [(x, aZ zs x)] = aN.upto zs (k + 1)) := ⟨by rw [aN.MG, aN.back, ← HX.out]⟩
   have p0 := eq_true hlt
   have p1 := eq_true hx1
   gi_wp2
   refine hR.mono ?_
   rintro e W3 (⟨rfl, hJ3, hk3⟩ | ⟨rfl, hJx3⟩)
   ·
    gi_wp2
    go_roundw
    case rel => exact ⟨k + 1, x - 1, ⟨by have := HX.out; omega⟩, by omega, by omega, hkl, by go_num, by rw [hup.out] at hJ3; exact hJ3, ⟨HB.out.trans hk3⟩⟩
    case measure => simp [intOf]; omega
   ·
    gi_wp2
    refine bodyPost_ret (results_none rfl _ _ _) rfl ?_
    exact ⟨⟨_, rfl⟩, .inr ⟨_, ⟨k + 1, hkl, hup.out⟩, hJx3⟩⟩
  ·
   have hke : aG (k = zs.length) := ⟨by have := HX.out; omega⟩
   gi_wp2
   go_end0
   exact ⟨⟨_, rfl⟩, .inl (by rw [← hke.out]; exact hJs)⟩
theorem aN.QT (F : Fence) (n : Nat) (h52 : F.fn 46) (hro : F.round = none) (a : Option Addr) (len cap : Nat) (w : World) :
  CallsIn F n Try.prog 46 #[.slice a len cap] w fun e w' => e = .returned (.func (.func 54) #[] #[.pointer (some ⟨w.heap.size, 0, none⟩)]) ∧ w' = w.alloc (.cells #[.slice a len cap] 33) := by
 refine callsIn_of_wp Try.func46 rfl h52 ?_ hro
 simp only [Try.ntmps46, List.size_toArray, List.length_cons, List.length_nil, Nat.reduceAdd, Nat.reduceSub, Array.replicate_succ, Array.replicate_zero, List.push_toArray, List.append_toArray, List.nil_append, List.cons_append]
 gi_wp2
 go_ret
 exact ⟨rfl, rfl⟩
theorem aN.K7 (F : Fence) (n : Nat) (h80 : F.fn 54) (hro : F.round = none) (hn : 1 ≤ n) (Bs : Nat) (A : Option Addr) (cap : Nat) (zs : List gK) (hlen : zs.length ≤ 140737488355328) (w : World) (hBs : Bs < w.heap.size) (hc : w.cell? ⟨Bs, 0, none⟩ = some (.slice A zs.length cap)) (hC : Kd.C pR w A zs.length zs) :
  SeqStopsK F n Try.prog 54 #[.pointer (some ⟨Bs, 0, none⟩)] aN.encs (Below w.heap.size) (fun ys => ys = aN.upto zs zs.length) (fun pre => ∃ k, k ≤ zs.length ∧ pre = aN.upto zs k) zs.length w := fun l J Jx W hW _ _ hY h0 =>
 aN.aC2 F n h80 hro hn l Bs A cap zs w hC hlen J Jx hY W hW hBs hc h0
def aN.last (s : ByteArray) (zs : List gK) : Nat → Option Int
 | 0 => none
 | k + 1 => if ((aZ zs (k : Int)).f1.toList = s.toList) then some (aZ zs (k : Int)).f2 else aN.last s zs k
theorem aN.MH (s : ByteArray) (zs : List gK) (k : Nat) (hk : k < zs.length) : aN.last s zs (zs.length - k) = if ((aN.back zs k).2.f1.toList = s.toList) then some (aN.back zs k).2.f2 else aN.last s zs (zs.length - (k + 1)) := by
 obtain ⟨d, hd⟩ : ∃ d, zs.length - k = d + 1 := ⟨zs.length - k - 1, by omega⟩
 rw [hd, show zs.length - (k + 1) = d by omega]
 have e : (zs.length : Int) - 1 - (k : Int) = (d : Int) := by omega
 simp only [aN.last, aN.back, e]
def aN.Not (s : ByteArray) (zs : List gK) (pre : List (Int × gK)) : Prop := ∀ k, pre = aN.upto zs k → k ≤ zs.length → aN.last s zs zs.length = aN.last s zs (zs.length - k)
theorem aN.WI (zs : List gK) {k : Nat} {pre : List (Int × gK)} {x : Int × gK} (h : pre ++ [x] = aN.upto zs k) : ∃ j, k = j + 1 ∧ pre = aN.upto zs j ∧ x = aN.back zs j := by
 cases k with
 | zero => simp [aN.upto] at h
 | succ j =>
  rw [aN.MG] at h
  obtain ⟨h1, h2⟩ := List.append_inj' h rfl
  exact ⟨j, rfl, h1, by simpa using h2⟩
theorem aN.Not.nil (s : ByteArray) (zs : List gK) : aN.Not s zs [] := by
 intro k h hk
 cases k with
 | zero => rfl
 | succ k => simp [aN.upto, List.range_succ] at h
theorem aN.Not.step {s : ByteArray} {zs : List gK} {pre : List (Int × gK)} {x : Int × gK} (h : aN.Not s zs pre) (hx : ¬ x.2.f1.toList = s.toList) : aN.Not s zs (pre ++ [x]) := by
 intro k hk hl
 obtain ⟨j, rfl, h1, h2⟩ := aN.WI zs hk
 rw [h j h1 (by omega), aN.MH s zs j (by omega), ← h2, if_neg hx]
theorem aN.Not.found {s : ByteArray} {zs : List gK} {pre : List (Int × gK)} {x : Int × gK} (h : aN.Not s zs pre) (hx : x.2.f1.toList = s.toList) {k : Nat} (hk : pre ++ [x] = aN.upto zs k) (hl : k ≤ zs.length) : aN.last s zs zs.length = some x.2.f2 := by
 obtain ⟨j, rfl, h1, h2⟩ := aN.WI zs hk
 rw [h j h1 (by omega), aN.MH s zs j (by omega), ← h2, if_pos hx]
theorem aN.Not.all {s : ByteArray} {zs : List gK} (h : aN.Not s zs (aN.upto zs zs.length)) : aN.last s zs zs.length = none := by
 rw [h zs.length rfl (Nat.le_refl _), Nat.sub_self]
 rfl
def aN.f (k : Nat) (uJ uX : Int) (uK wR : ByteArray) (Ud Ue Uf : Int) (a1 : ByteArray) (l2 l3 : List gK) : Option Int :=
 if l2.length ≤ 140737488355328 then
  (if uK.toList = ([] : List UInt8) then (if (aN.last wR l2 l2.length).isSome = true then (aN.last wR l2 l2.length) else ((oO.f k l3 a1 wR).bind fun b => (some b.1)))
   else ((oO.f k l3 uK wR).bind fun b => (some b.1)))
 else none
def aN.put (W : World) (x : gK) : World := W.alloc (.cells #[.string x.f0, .string x.f1, .int .i64 x.f2] 51)
theorem aN.Wx (W : World) (x : gK) : KeepsOthers W (aN.put W x) := KeepsOthers.alloc W _
theorem aN.Wy (W : World) (x : gK) : Below W.heap.size W (aN.put W x) := Below.alloc (Below.refl _ W) (Nat.le_refl _) _
theorem aN.QU (W : World) (x : gK) : (aN.put W x).heap[W.heap.size]? = some (.cells #[.string x.f0, .string x.f1, .int .i64 x.f2] 51 (0, 0)) := pJ W _
theorem aN.mono : ∀ a0 a1 a2 a3 a4 a5 a6 a7 a8 a9 k, bV (aN.f k a0 a1 a2 a3 a4 a5 a6 a7 a8 a9) (aN.f (k + 1) a0 a1 a2 a3 a4 a5 a6 a7 a8 a9) := by
 intro a0 a1 a2 a3 a4 a5 a6 a7 a8 a9 k
 unfold aN.f
 repeat' with_reducible first | apply oO.mono | exact bV.refl _ | refine bV.ite ?_ ?_ | refine bV.bind ?_ (fun _ => ?_)
theorem aN.calls (k : Nat) (uJ uX : Int) (uK wR : ByteArray) (Ud Ue Uf : Int) (a1 : ByteArray) (A2 : Option Addr) (c2 : Nat) (l2 : List gK) (A3 : Option Addr) (c3 : Nat) (l3 : List gK) (r : Int) (w : World) (hr2 : Kd.C pR w A2 l2.length l2) (hc2 : l2.length ≤ c2) (hr3 : Kd.C pR w A3 l3.length l3) (hc3 : l3.length ≤ c3) (h : aN.f k uJ uX uK wR Ud Ue Uf a1 l2 l3 = some r) :
  Calls Try.prog 52 #[.agg #[.int .i64 uJ, .int .i64 uX, .string uK, .string wR, .int .i64 Ud, .int .i64 Ue, .int .i64 Uf], .string a1, .slice A2 l2.length c2, .slice A3 l3.length c3] w fun e w' => e = .returned (.int .i64 r) ∧ Below w.heap.size w w' := by
 unfold aN.f at h
 by_cases hl : l2.length ≤ 140737488355328
 case neg => rw [if_neg hl] at h; cases h
 rw [if_pos hl] at h
 have HR2 := za hr2
 have HR3 := za hr3
 have QP := za hc2
 have Zk := za hc3
 have HL := za hl
 clear hr2 hr3 hc2 hc3 hl
 refine (callsIn_wide (n := 3)).1 ?_
 have h33 : Fence.wide.fn 52 := trivial
 have h52 : Fence.wide.fn 46 := trivial
 have h80 : Fence.wide.fn 54 := trivial
 have h26 : Fence.wide.fn 58 := trivial
 have hro : Fence.wide.round = none := rfl
 have h1 : 1 ≤ 3 := by omega
 refine callsIn_of_wp_marks Try.func52 rfl h33 ?_ hro
 simp only [Try.ntmps52, List.size_toArray, List.length_cons, List.length_nil, Nat.reduceAdd, Nat.reduceSub, Array.replicate_succ, Array.replicate_zero, List.push_toArray, List.append_toArray, List.nil_append, List.cons_append]
 by_cases hm : uK.toList = ([] : List UInt8)
 ·
  rw [if_pos hm] at h
  have hmb : uK.toList.isEmpty = true := by rw [hm]; rfl
  have H := za h
  clear h
  gi_wp2_with (gi_at_call 46; refine (aN.QT Fence.wide 2 h52 hro _ _ _ _).mono ?_; rintro e w' ⟨rfl, rfl⟩)
  have hB0 : Below w.heap.size w (((w.alloc (.cells #[.int .i64 uJ, .int .i64 uX, .string uK, .string wR, .int .i64 Ud, .int .i64 Ue, .int .i64 Uf] 112)).alloc (.cells #[.int .i64 0] 3)).alloc (.cells #[.slice A2 l2.length c2] 33)) := (((Below.refl _ w).alloc (Nat.le_refl _) _).alloc (by simp) _).alloc (by simp; omega) _
  have hsz : (((w.alloc (.cells #[.int .i64 uJ, .int .i64 uX, .string uK, .string wR, .int .i64 Ud, .int .i64 Ue, .int .i64 Uf] 112)).alloc (.cells #[.int .i64 0] 3)).alloc (.cells #[.slice A2 l2.length c2] 33)).heap.size = w.heap.size + 3 := by simp
  have b0 : (((w.alloc (.cells #[.int .i64 uJ, .int .i64 uX, .string uK, .string wR, .int .i64 Ud, .int .i64 Ue, .int .i64 Uf] 112)).alloc (.cells #[.int .i64 0] 3)).alloc (.cells #[.slice A2 l2.length c2] 33)).heap[w.heap.size]? = some (.cells #[.int .i64 uJ, .int .i64 uX, .string uK, .string wR, .int .i64 Ud, .int .i64 Ue, .int .i64 Uf] 112 (0, 0)) := by
   rw [Below.heap_alloc _ _ _ (by simp; omega), Below.heap_alloc _ _ _ (by simp)]
   exact pJ w _
  have b1 : Boxed (((w.alloc (.cells #[.int .i64 uJ, .int .i64 uX, .string uK, .string wR, .int .i64 Ud, .int .i64 Ue, .int .i64 Uf] 112)).alloc (.cells #[.int .i64 0] 3)).alloc (.cells #[.slice A2 l2.length c2] 33)) (w.heap.size + 1) 3 (.int .i64 0) := by
   have := (Boxed.new (w.alloc (.cells #[.int .i64 uJ, .int .i64 uX, .string uK, .string wR, .int .i64 Ud, .int .i64 Ue, .int .i64 Uf] 112)) 3 (.int .i64 0)).alloc (.cells #[.slice A2 l2.length c2] 33)
   simpa only [World.size_alloc] using this
  have b2 : Boxed (((w.alloc (.cells #[.int .i64 uJ, .int .i64 uX, .string uK, .string wR, .int .i64 Ud, .int .i64 Ue, .int .i64 Uf] 112)).alloc (.cells #[.int .i64 0] 3)).alloc (.cells #[.slice A2 l2.length c2] 33)) (w.heap.size + 1 + 1) 33 (.slice A2 l2.length c2) := by
   have := Boxed.new ((w.alloc (.cells #[.int .i64 uJ, .int .i64 uX, .string uK, .string wR, .int .i64 Ud, .int .i64 Ue, .int .i64 Uf] 112)).alloc (.cells #[.int .i64 0] 3)) 33 (.slice A2 l2.length c2)
   simpa only [World.size_alloc] using this
  obtain ⟨W0, hW0⟩ : ∃ W0, ((w.alloc (.cells #[.int .i64 uJ, .int .i64 uX, .string uK, .string wR, .int .i64 Ud, .int .i64 Ue, .int .i64 Uf] 112)).alloc (.cells #[.int .i64 0] 3)).alloc (.cells #[.slice A2 l2.length c2] 33) = W0 := ⟨_, rfl⟩
  rw [hW0] at hB0 hsz b0 b1 b2 ⊢
  clear hW0
  have q3 : W0.cell? ⟨w.heap.size, 3, none⟩ = some (.string wR) := (aA b0 3).trans rfl
  refine wpIn_rangeFunc_ownH hro h1 (gf := 54) (lb := #[.pointer (some ⟨w.heap.size + 1 + 1, 0, none⟩)]) rfl h80 (enters_of Try.func54 dU rfl)
   (aN.K7 Fence.wide (3 - 1) h80 hro (by omega) (w.heap.size + 1 + 1) A2 c2 l2 HL.out W0 (by omega) b2.cell (Kd.dG HR2.out hB0)) belowK_t (belowK_b (Nat.le_refl _)) (Below.refl _ _) (fun _ => rfl)
   (fun pre W => (aN.Not wR l2 pre ∧ W.cell? ⟨w.heap.size, 3, none⟩ = some (.string wR) ∧ Boxed W (w.heap.size + 1) 3 (.int .i64 0) ∧ W0.heap.size ≤ W.heap.size) ∧ Below w.heap.size w W)
   (fun c pre W => (c = .ret ∧ ∃ vv x, pre = vv ++ [x] ∧ aN.Not wR l2 vv ∧ x.2.f1.toList = wR.toList ∧ Boxed W (w.heap.size + 1) 3 (.int .i64 x.2.f2)) ∧ Below w.heap.size w W)
   (OwnFrom.and (Own.from (fun s A B row hs hg hr => ⟨hs.1, cell_kept hs.2.1 hg hr, boxed_own (w.heap.size + 1) 3 (fun (_ : Unit) => Value.int .i64 0) () A B row hs.2.2.1 hg hr, Nat.le_trans hs.2.2.2 hg.size⟩) _) (ownFrom_below (Nat.le_refl _) (by omega)))
   (fun c => OwnFrom.and (Own.from (fun s A B row hs hg hr => by obtain ⟨hc, vv, x, e1, e2, e3, e4⟩ := hs; exact ⟨hc, vv, x, e1, e2, e3, boxed_own (w.heap.size + 1) 3 (fun (_ : Unit) => Value.int .i64 x.2.f2) () A B row e4 hg hr⟩) _) (ownFrom_below (Nat.le_refl _) (by omega)))
   ⟨⟨aN.Not.nil _ _, q3, b1, Nat.le_refl _⟩, hB0⟩
   (fun x a' W => ∃ Bx, w.heap.size + 1 < Bx ∧ (W.cell? ⟨Bx, 1, none⟩ = some (.string x.2.f1) ∧ W.cell? ⟨Bx, 2, none⟩ = some (.int .i64 x.2.f2)) ∧ a' = { tmps := #[.agg #[.int .i64 uJ, .int .i64 uX, .string uK, .string wR, .int .i64 Ud, .int .i64 Ue, .int .i64 Uf], .string a1, .slice A2 l2.length c2, .slice A3 l3.length c3, .pointer (some ⟨w.heap.size, 0, none⟩), undef, undef, undef, .pointer (some ⟨w.heap.size + 1, 0, none⟩), undef, .pointer (some ⟨Bx, 0, none⟩), undef, undef, .pointer (some ⟨w.heap.size, 2, none⟩), .string uK, .bool true, .slice A2 l2.length c2, .func (.func 54) #[] #[.pointer (some ⟨w.heap.size + 1 + 1, 0, none⟩)], .int .i64 x.1, .agg #[.string x.2.f0, .string x.2.f1, .int .i64 x.2.f2], undef, undef, undef, undef, undef, undef, undef, undef, undef, undef, undef, undef, undef, undef, undef, undef, undef, undef], defers := [] })
   (fun x a' _ X Y row hs hg hr => by obtain ⟨Bx, h1, ⟨h2, h3⟩, h4⟩ := hs; exact ⟨Bx, h1, ⟨cell_kept h2 hg (fun r e => (hr r e).2), cell_kept h3 hg (fun r e => (hr r e).2)⟩, h4⟩)
   ?assign ?body ?done ?stop
  case assign =>
   rintro l pre x W K ⟨⟨hN, hq, hbx, WJ⟩, hB1⟩ hK
   gi_wp2
   have hp := aN.Wy W x.2
   have hc := aN.QU W x.2
   exact hK _ (aN.put W x.2) ((aN.Wx W x.2).from _) (hp.mono WJ) ⟨⟨hN, bR hp hq, (hp.block _ hbx.lt).trans hbx, Nat.le_trans WJ hp.size⟩, aM hB1 hp⟩ ⟨W.heap.size, by omega, ⟨(aA hc 1).trans rfl, (aA hc 2).trans rfl⟩, rfl⟩
  case body =>
   rintro l pre x a' W hl ⟨r, hr⟩ ⟨⟨hN, hq, hbx, WJ⟩, hB1⟩ ⟨Bx, hBx, ⟨g1, g2⟩, rfl⟩ hlt
   have cR := hbx.cell
   have fR := hbx.frozen
   have HN := za hN
   have HB1 := za hB1
   have HBX : aG (Boxed W (w.heap.size + 1) 3 (.int .i64 0)) := ⟨hbx⟩
   clear hN hB1 hbx
   by_cases hx : x.2.f1.toList = wR.toList
   ·
    have hxb : (x.2.f1.toList == wR.toList) = true := beq_iff_eq.mpr hx
    have HX := za hx
    clear hx
    gi_wp2
    exact ⟨(KeepsOthers.setCell _ _ _).from _, ⟨rfl, pre, x, rfl, HN.out, HX.out, HBX.out.set _⟩, HB1.out.setCell (p := ⟨w.heap.size + 1, 0, none⟩) (by simp) _⟩
   ·
    have hxb : (x.2.f1.toList == wR.toList) = false := beq_eq_false_iff_ne.mpr hx
    have HX := za hx
    clear hx
    gi_wp2
    exact ⟨KeepsFrom.refl _ _, Below.refl _ _, ⟨HN.out.step HX.out, hq, HBX.out, WJ⟩, HB1.out⟩
  case done =>
   rintro D ys W hD rfl ⟨⟨hN, hq, hbx, WJ⟩, hB1⟩ hK
   have h := H.out
   rw [hN.all] at h
   rw [if_neg (by simp)] at h
   obtain ⟨⟨g1, g2⟩, hg, h⟩ := Option.bind_eq_some_iff.mp h
   obtain rfl : g1 = r := by simpa using h
   have HG := za hg
   have HB1 := za hB1
   have HBX : aG (Boxed W (w.heap.size + 1) 3 (.int .i64 0)) := ⟨hbx⟩
   have HK := za hK
   clear h hg hN hB1 hbx hK
   gi_wp2_with (gi_at_call 58; refine (callsIn_wide.2 (oO.calls k A3 c3 l3 a1 wR g1 g2 _ (Kd.dG HR3.out HB1.out) Zk.out HG.out)).mono ?_; rintro e w5 ⟨rfl, hb5⟩; have Bw := za (aM HB1.out hb5); have BK5 : aG (Boxed w5 (w.heap.size + 1) 3 (.int .i64 0)) := ⟨aY HBX.out hb5⟩; have HK5 := za (aY HK.out hb5); have c8 := BK5.out.cell; have f8 := BK5.out.frozen; clear hb5)
   have hK' := (KeepsOthers.setCell w5 ⟨w.heap.size + 1, 0, none⟩ (.int .i64 g1)).same D _ HK5.out rfl
   have cs := (BK5.out.set (.int .i64 g1)).cell
   have hc5 := cell_kept cs (grownBy_putObj' _ D (.deferred none)) (fun r e => by cases e; exact ⟨_, hK', rfl⟩)
   refine ⟨by simp, .inl ⟨_, _, rfl, run_takeDeferred hK', ?_⟩⟩
   refine ⟨.int .i64 g1, ?_, rfl, (Bw.out.setCell (p := ⟨w.heap.size + 1, 0, none⟩) (by simp) _).trans (belowK_b (w := w) (Nat.le_refl _) _ D _ _ (by omega) hK' rfl rfl)⟩
   simp [results, Try.f52, go_sem, hc5]
  case stop =>
   rintro D c pre W hD ⟨k', hk', rfl⟩ ⟨⟨rfl, vv, x, e1, e2, e3, hbx⟩, hB⟩ hK
   have h := H.out
   rw [e2.found e3 e1.symm hk', if_pos (by rfl)] at h
   obtain rfl := Option.some.inj h
   have hc5 := cell_kept hbx.cell (grownBy_putObj' _ D (.deferred none)) (fun r e => by cases e; exact ⟨_, hK, rfl⟩)
   clear h
   gi_wp2
   refine ⟨by simp, .inl ⟨_, _, rfl, run_takeDeferred hK, ?_⟩⟩
   refine ⟨.int .i64 x.2.f2, ?_, rfl, hB.trans (belowK_b (w := w) (Nat.le_refl _) W D _ _ (by omega) hK rfl rfl)⟩
   simp [results, Try.f52, go_sem, hc5]
 ·
  rw [if_neg hm] at h
  have hmb : (!uK.toList.isEmpty) = true := by simpa using hm
  have hmc : uK.toList.isEmpty = false := by simpa using hm
  obtain ⟨⟨b1, b2⟩, hg, h⟩ := Option.bind_eq_some_iff.mp h
  obtain rfl : b1 = r := by simpa using h
  have HG := za hg
  clear h hg
  gi_wp2_with (gi_at_call 58; refine (callsIn_wide.2 (oO.calls k A3 c3 l3 uK wR b1 b2 _ (Kd.dG HR3.out (Below.alloc (Below.alloc (Below.refl _ w) (Nat.le_refl _) _) (by simp) _)) Zk.out HG.out)).mono ?_; rintro e w5 ⟨rfl, hb5⟩; have Bw := za (aM (Below.alloc (Below.alloc (Below.refl _ w) (Nat.le_refl _) _) (by simp) _) hb5); have BK5 := za (aY (g := w.heap.size + 1) (o := .cells #[.int .i64 0] 3 (0, 0)) (by have := pJ (w.alloc (.cells #[.int .i64 uJ, .int .i64 uX, .string uK, .string wR, .int .i64 Ud, .int .i64 Ue, .int .i64 Uf] 112 (0, 0))) (.cells #[.int .i64 0] 3 (0, 0)); simpa using this) hb5); have c8 := (aA BK5.out 0).trans rfl; have f8 := aD BK5.out 0; clear hb5)
  have c5 : (w5.setCell ⟨w.heap.size + 1, 0, none⟩ (.int .i64 b1)).cell? ⟨w.heap.size + 1, 0, none⟩ = some (.int .i64 b1) := World.cell?_setCell_same' _ _ _ (by rw [c8]; rfl)
  refine ⟨.int .i64 b1, ?_, rfl, Bw.out.setCell (p := ⟨w.heap.size + 1, 0, none⟩) (by simp) _⟩
  simp [results, Try.f52, go_sem, c5]
end
def mG.f (a0 : Bool) : Option (Int) := if a0 = true then (some 1) else (some 0)
theorem mG.calls (a0 : Bool) (r : Int) (w : World) (h : mG.f a0 = some r) :
  Calls Try.prog 59 #[.bool a0] w fun e w' => e = .returned (.int .i64 r) ∧ mP w w' := by
 have H : (if a0 = true then (some 1) else (some 0)) = some r := h
 clear h
 replace H := Bq H
 rcases H with ⟨rfl, H⟩ | ⟨rfl, H⟩
 ·
  obtain rfl := Option.some.inj H
  go_enter Try.func59, Try.ntmps59
  go_wp2
  go_ret
  exact ⟨lF, jY⟩
 ·
  obtain rfl := Option.some.inj H
  go_enter Try.func59, Try.ntmps59
  go_wp2
  go_ret
  exact ⟨lF, jY⟩
def Ug.f (a0 : Int) (a1 : Int) (a2 : Int) : Option (Int) := if a0 = 5 then (some (wrap64 (a1 + a2))) else (if a0 = 6 then (some (wrap64 (a1 - a2))) else (if a0 = 7 then (some (wrap64 (a1 * a2))) else (if a0 = 8 then (if a2 = 0 then (some 0) else (some (wrap64 (Int.tdiv a1 a2)))) else (if a0 = 9 then (if a2 = 0 then (some 0) else (some (Int.tmod a1 a2))) else (if a0 = 10 then ((mG.f (a1 == a2)).bind fun aC4 => (some aC4)) else (if a0 = 11 then ((mG.f (decide (a1 < a2))).bind fun WK => (some WK)) else (if a0 = 12 then ((mG.f (decide (a1 ≤ a2))).bind fun WL => (some WL)) else (if a0 = 3 then (some (wrap64 (-a1))) else (if a0 = 4 then ((mG.f (a1 == 0)).bind fun WM => (some WM)) else (some 0))))))))))
theorem Ug.calls (a0 : Int) (a1 : Int) (a2 : Int) (r : Int) (w : World) (h : Ug.f a0 a1 a2 = some r) :
  Calls Try.prog 53 #[.int .i64 a0, .int .i64 a1, .int .i64 a2] w fun e w' => e = .returned (.int .i64 r) ∧ mP w w' := by
 have H : (if a0 = 5 then (some (wrap64 (a1 + a2))) else (if a0 = 6 then (some (wrap64 (a1 - a2))) else (if a0 = 7 then (some (wrap64 (a1 * a2))) else (if a0 = 8 then (if a2 = 0 then (some 0) else (some (wrap64 (Int.tdiv a1 a2)))) else (if a0 = 9 then (if a2 = 0 then (some 0) else (some (Int.tmod a1 a2))) else (if a0 = 10 then ((mG.f (a1 == a2)).bind fun aC4 => (some aC4)) else (if a0 = 11 then ((mG.f (decide (a1 < a2))).bind fun WK => (some WK)) else (if a0 = 12 then ((mG.f (decide (a1 ≤ a2))).bind fun WL => (some WL)) else (if a0 = 3 then (some (wrap64 (-a1))) else (if a0 = 4 then ((mG.f (a1 == 0)).bind fun WM => (some WM)) else (some 0))))))))))) = some r := h
 clear h
 revert H; refine oW (fun wY TA H => ?_) (fun c4 wY TA H => ?_)
 ·
  obtain rfl := Option.some.inj H
  go_enter Try.func53, Try.ntmps53
  go_wp2
  go_ret
  exact ⟨lF, jY⟩
 ·
  revert H; refine oW (fun zG TB H => ?_) (fun c5 zG TB H => ?_)
  ·
   obtain rfl := Option.some.inj H
   go_enter Try.func53, Try.ntmps53
   go_wp2
   go_ret
   exact ⟨lF, jY⟩
  ·
   revert H; refine oW (fun Mj qm H => ?_) (fun c6 Mj qm H => ?_)
   ·
    obtain rfl := Option.some.inj H
    go_enter Try.func53, Try.ntmps53
    go_wp2
    go_ret
    exact ⟨lF, jY⟩
   ·
    revert H; refine oW (fun Bu qo H => ?_) (fun c7 Bu qo H => ?_)
    ·
     revert H; refine oW (fun oZ Hz H => ?_) (fun c8 oZ Hz H => ?_)
     ·
      obtain rfl := Option.some.inj H
      go_enter Try.func53, Try.ntmps53
      go_wp2
      go_ret
      exact ⟨lF, jY⟩
     ·
      obtain rfl := Option.some.inj H
      go_enter Try.func53, Try.ntmps53
      go_wp2
      go_ret
      exact ⟨lF, jY⟩
    ·
     revert H; refine oW (fun Ga CS H => ?_) (fun c9 Ga CS H => ?_)
     ·
      revert H; refine oW (fun xS aAs H => ?_) (fun c10 xS aAs H => ?_)
      ·
       obtain rfl := Option.some.inj H
       go_enter Try.func53, Try.ntmps53
       go_wp2
       go_ret
       exact ⟨lF, jY⟩
      ·
       obtain rfl := Option.some.inj H
       go_enter Try.func53, Try.ntmps53
       go_wp2
       go_ret
       exact ⟨lF, jY⟩
     ·
      revert H; refine oW (fun Co Xm H => ?_) (fun c11 Co Xm H => ?_)
      ·
       replace H := jT H
       obtain ⟨aC4, A12, H⟩ := H
       (try dsimp only at H)
       obtain rfl := Option.some.inj H
       go_enter Try.func53, Try.ntmps53
       go_wp2_with (first | ((with_reducible refine zg 59 rfl ?_); refine kZ (some 42) Try.func59 #[.bool (a1 == a2)] ?_; refine (mG.calls (a1 == a2) aC4 _ A12.out).mono ?_; rintro e w' ⟨rfl, ⟨nd, rfl⟩⟩; refine ⟨_, rfl, ?_⟩))
       go_ret
       exact ⟨lF, jY⟩
      ·
       revert H; refine oW (fun vU TD H => ?_) (fun c13 vU TD H => ?_)
       ·
        replace H := jT H
        obtain ⟨WK, A14, H⟩ := H
        (try dsimp only at H)
        obtain rfl := Option.some.inj H
        go_enter Try.func53, Try.ntmps53
        go_wp2_with (first | ((with_reducible refine zg 59 rfl ?_); refine kZ (some 48) Try.func59 #[.bool (decide (a1 < a2))] ?_; refine (mG.calls (decide (a1 < a2)) WK _ A14.out).mono ?_; rintro e w' ⟨rfl, ⟨nd, rfl⟩⟩; refine ⟨_, rfl, ?_⟩))
        go_ret
        exact ⟨lF, jY⟩
       ·
        revert H; refine oW (fun CU TE H => ?_) (fun c15 CU TE H => ?_)
        ·
         replace H := jT H
         obtain ⟨WL, RP, H⟩ := H
         (try dsimp only at H)
         obtain rfl := Option.some.inj H
         go_enter Try.func53, Try.ntmps53
         go_wp2_with (first | ((with_reducible refine zg 59 rfl ?_); refine kZ (some 54) Try.func59 #[.bool (decide (a1 ≤ a2))] ?_; refine (mG.calls (decide (a1 ≤ a2)) WL _ RP.out).mono ?_; rintro e w' ⟨rfl, ⟨nd, rfl⟩⟩; refine ⟨_, rfl, ?_⟩))
         go_ret
         exact ⟨lF, jY⟩
        ·
         revert H; refine oW (fun KC V7 H => ?_) (fun c17 KC V7 H => ?_)
         ·
          obtain rfl := Option.some.inj H
          go_enter Try.func53, Try.ntmps53
          go_wp2
          go_ret
          exact ⟨lF, jY⟩
         ·
          revert H; refine oW (fun aJW aXt H => ?_) (fun c18 aJW aXt H => ?_)
          ·
           replace H := jT H
           obtain ⟨WM, qz, H⟩ := H
           (try dsimp only at H)
           obtain rfl := Option.some.inj H
           go_enter Try.func53, Try.ntmps53
           go_wp2_with (first | ((with_reducible refine zg 59 rfl ?_); refine kZ (some 63) Try.func59 #[.bool (a1 == 0)] ?_; refine (mG.calls (a1 == 0) WM _ qz.out).mono ?_; rintro e w' ⟨rfl, ⟨nd, rfl⟩⟩; refine ⟨_, rfl, ?_⟩))
           go_ret
           exact ⟨lF, jY⟩
          ·
           obtain rfl := Option.some.inj H
           go_enter Try.func53, Try.ntmps53
           go_wp2
           go_ret
           exact ⟨lF, jY⟩
end Go.Proofs.Ytiaeldibklcobaa.eZ
