import Derived.Test.YtiaeldibklcobaaZRPx17
namespace Go.Proofs.Ytiaeldibklcobaa.eZ
open Go.RowKit Go.Proofs.YtiaeldibklcobaaW.bL Go.Proofs.YtiaeldibklcobaaW.fV Go.Proofs.YtiaeldibklcobaaW.iZ
set_option maxHeartbeats 8000000
set_option maxRecDepth 100000
attribute [local go_sem] kL kM lX lY jC jD kN kP
set_option linter.unusedVariables false
set_option linter.unusedSimpArgs false
structure aC.ST (w0 W : World) (br bf : Nat) (l : List nM) (AL : Option Addr) (cL : Nat) (mod : ByteArray) (m : List gK) (fu : Int) (tr : List ByteArray) (loc : List gK) (res : Int) (vm vt vx : Value) : Prop where
 hB : Below w0.heap.size w0 W
 hr : W.heap[br]? = some (.cells #[.slice AL l.length cL, vm, .int .i64 fu, vt] 58 (0, 0))
 hf : W.heap[bf]? = some (.cells #[.string mod, vx, .int .i64 res] 74 (0, 0))
 hm : pR.R 51 W w0.heap.size (fun k => some k ≠ vx.ownBlock) vm m
 ht : Kd.string.R 9 W w0.heap.size (fun _ => True) vt tr
 hx : pR.R 51 W w0.heap.size (fun _ => True) vx loc
 gr : w0.heap.size ≤ br
 gf : w0.heap.size ≤ bf
section
variable {w0 W W' : World} {br bf : Nat} {l : List nM} {AL : Option Addr} {cL : Nat} {mod : ByteArray} {m m' : List gK} {fu zT : Int} {tr yT : List ByteArray} {loc loc' : List gK} {res rA : Int} {vm vt vx vQ xC Er : Value}
theorem aC.ST.ne (x : aC.ST w0 W br bf l AL cL mod m fu tr loc res vm vt vx) : br ≠ bf := nZ x.hr x.hf (by decide)
theorem aC.ST.sz (x : aC.ST w0 W br bf l AL cL mod m fu tr loc res vm vt vx) : w0.heap.size ≤ W.heap.size := aT x.hB
theorem aC.ST.below (x : aC.ST w0 W br bf l AL cL mod m fu tr loc res vm vt vx) (hb : Below W.heap.size W W') : aC.ST w0 W' br bf l AL cL mod m fu tr loc res vm vt vx :=
 ⟨Ff x.hB x.sz hb, aY x.hr hb, aY x.hf hb, Kd.iX x.hm hb, Kd.iX x.ht hb, Kd.iX x.hx hb, x.gr, x.gf⟩
theorem aC.ST.drewN (x : aC.ST w0 W br bf l AL cL mod m fu tr loc res vm vt vx) (n : Nat) : aC.ST w0 (W.drewN n) br bf l AL cL mod m fu tr loc res vm vt vx := x.below (bW (Below.refl _ _) n)
theorem aC.ST.aOq (x : aC.ST w0 W br bf l AL cL mod m fu tr loc res vm vt vx) (j : Nat) (u : Value) (h : (W.setCell ⟨br, j, none⟩ u).heap[br]? = some (.cells #[.slice AL l.length cL, vm, .int .i64 zT, vt] 58 (0, 0))) : aC.ST w0 (W.setCell ⟨br, j, none⟩ u) br bf l AL cL mod m zT tr loc res vm vt vx :=
 ⟨aV x.hB x.gr, h, dJ x.hf (Ne.symm x.ne) u, Kd.qP x.hm x.hr (by decide) j u, Kd.qP x.ht x.hr (by decide) j u, Kd.qP x.hx x.hr (by decide) j u, x.gr, x.gf⟩
theorem aC.ST.fuel (x : aC.ST w0 W br bf l AL cL mod m fu tr loc res vm vt vx) (y : Int) : aC.ST w0 (W.setCell ⟨br, 2, none⟩ (.int .i64 y)) br bf l AL cL mod m y tr loc res vm vt vx := x.aOq 2 _ (bD x.hr 2 _ rfl)
theorem aC.ST.result (x : aC.ST w0 W br bf l AL cL mod m fu tr loc res vm vt vx) (y : Int) : aC.ST w0 (W.setCell ⟨bf, 2, none⟩ (.int .i64 y)) br bf l AL cL mod m fu tr loc y vm vt vx :=
 ⟨aV x.hB x.gf, dJ x.hr x.ne _, bD x.hf 2 _ rfl, Kd.qP x.hm x.hf (by decide) 2 _, Kd.qP x.ht x.hf (by decide) 2 _, Kd.qP x.hx x.hf (by decide) 2 _, x.gr, x.gf⟩
theorem aC.ST.cr (x : aC.ST w0 W br bf l AL cL mod m fu tr loc res vm vt vx) : W.cell? ⟨br, 0, none⟩ = some (.slice AL l.length cL) ∧ W.cell? ⟨br, 1, none⟩ = some vm ∧ W.cell? ⟨br, 2, none⟩ = some (.int .i64 fu) ∧ W.cell? ⟨br, 3, none⟩ = some vt ∧ W.frozen? ⟨br, 1, none⟩ = false ∧ W.frozen? ⟨br, 2, none⟩ = false ∧ W.frozen? ⟨br, 3, none⟩ = false :=
 ⟨(aA x.hr 0).trans rfl, (aA x.hr 1).trans rfl, (aA x.hr 2).trans rfl, (aA x.hr 3).trans rfl, aD x.hr 1, aD x.hr 2, aD x.hr 3⟩
theorem aC.ST.cf (x : aC.ST w0 W br bf l AL cL mod m fu tr loc res vm vt vx) : W.cell? ⟨bf, 0, none⟩ = some (.string mod) ∧ W.cell? ⟨bf, 1, none⟩ = some vx ∧ W.cell? ⟨bf, 2, none⟩ = some (.int .i64 res) ∧ W.frozen? ⟨bf, 1, none⟩ = false ∧ W.frozen? ⟨bf, 2, none⟩ = false :=
 ⟨(aA x.hf 0).trans rfl, (aA x.hf 1).trans rfl, (aA x.hf 2).trans rfl, aD x.hf 1, aD x.hf 2⟩
theorem aC.aXD (x : aC.ST w0 W br bf l AL cL mod m 0 tr loc res vm vt vx) :
  Calls Try.prog 38 #[.pointer (some ⟨br, 0, none⟩)] W fun e w' => e = .returned (.bool false) ∧ W = w' := by
 obtain ⟨c0, c1, c2, c3, f1, f2, f3⟩ := x.cr
 clear x
 go_enter Try.func38, Try.ntmps38
 go_wp2
 go_ret
 exact ⟨rfl, rfl⟩
theorem aC.Za (x : aC.ST w0 W br bf l AL cL mod m fu tr loc res vm vt vx) (h : ¬ fu = 0) :
  Calls Try.prog 38 #[.pointer (some ⟨br, 0, none⟩)] W fun e w' => e = .returned (.bool true) ∧ aC.ST w0 w' br bf l AL cL mod m (wrap64 (fu - 1)) tr loc res vm vt vx ∧ aU W w' br none := by
 have X0 := za x
 obtain ⟨c0, c1, c2, c3, f1, f2, f3⟩ := x.cr
 have hb : (fu == 0) = false := beq_eq_false_iff_ne.mpr h
 clear x h
 go_enter Try.func38, Try.ntmps38
 go_wp2
 go_ret
 exact ⟨rfl, X0.out.fuel _, (aU.refl _ _ _).Nw _ _⟩
theorem aC.pW (k : Nat) (x : aC.ST w0 W br bf l AL cL mod m fu tr loc res vm vt vx) (A : Option Addr) (c : Nat) (E : List dP) (v : Int) (hE : gU.C W A E.length E) (hc : E.length ≤ c) (h : bI.f k E ((E.length : Int) - 1) mod loc m = some v) :
  Calls Try.prog 39 #[.pointer (some ⟨br, 0, none⟩), .pointer (some ⟨bf, 0, none⟩), .slice A E.length c] W fun e w' => e = .returned (.int .i64 v) ∧ aC.ST w0 w' br bf l AL cL mod m fu tr loc res vm vt vx ∧ Below W.heap.size W w' := by
 have X0 := za x
 obtain ⟨Am, cm, em, hcm, hM⟩ := Kd.Pq x.hm
 obtain ⟨Ax, cx, ex, hcx, hX⟩ := Kd.Pq x.hx
 subst em ex
 obtain ⟨c0, c1, c2, c3, f1, f2, f3⟩ := x.cr
 obtain ⟨d0, d1, d2, g1, g2⟩ := x.cf
 have HE := za hE
 have HC := za hc
 have HM := za hM
 have HX := za hX
 have HCM := za hcm
 have HCX := za hcx
 have H := za h
 have hmx := Kd.Pw hE
 have hw : IntKind.i64.wrap ((E.length : Int) - 1) = (E.length : Int) - 1 := by rw [IntKind.wrap_i64]; omega
 clear x hE hc hM hX hcm hcx h hmx
 go_enter Try.func39, Try.ntmps39
 go_wp2
 go_still_tail 16, dU
 change wpList _ _ _ _ _ W.drew
 go_wp2_with (go_at_call 45; refine (bI.calls k _ _ E _ _ _ _ loc _ _ m v _ (Kd.kR HE.out) HC.out (Kd.kR HX.out) HCX.out (Kd.kR HM.out) HCM.out H.out).mono ?_; rintro e w2 ⟨rfl, hb⟩; have HB := za hb; clear hb c0 c1 c2 c3 f1 f2 f3 d0 d1 d2 g1 g2)
 go_ret
 have hb : Below W.heap.size W w2 := Ff (gN (Below.refl _ _)) (Nat.le_refl _) HB.out
 exact ⟨rfl, X0.out.below hb, hb⟩
end
section
def aC.Gy (y : ByteArray) : List nM → Int → Int
 | [], _ => -1
 | c :: t, j => if c.f0.toList = y.toList then j else aC.Gy y t (j + 1)
def aC.Oz (y : ByteArray) : List Cg → Int → Int
 | [], _ => -1
 | c :: t, j => if c.f0.toList = y.toList then j else aC.Oz y t (j + 1)
theorem aC.aIB (y : ByteArray) (l : List nM) (x : Int) (h0 : 0 ≤ x) (h1 : x < (l.length : Int)) (j : Int) : aC.Gy y (l.drop x.toNat) j = if (aJ l x).f0.toList = y.toList then j else aC.Gy y (l.drop (x + 1).toNat) (j + 1) := by
 have h : x.toNat < l.length := by omega
 rw [List.drop_eq_getElem_cons h, show (x + 1).toNat = x.toNat + 1 by omega]
 simp [aC.Gy, aJ, List.getD_eq_getElem?_getD, h]
theorem aC.aIC (y : ByteArray) (l : List Cg) (x : Int) (h0 : 0 ≤ x) (h1 : x < (l.length : Int)) (j : Int) : aC.Oz y (l.drop x.toNat) j = if (bE l x).f0.toList = y.toList then j else aC.Oz y (l.drop (x + 1).toNat) (j + 1) := by
 have h : x.toNat < l.length := by omega
 rw [List.drop_eq_getElem_cons h, show (x + 1).toNat = x.toNat + 1 by omega]
 simp [aC.Oz, bE, List.getD_eq_getElem?_getD, h]
theorem aC.aID (y : ByteArray) (l : List nM) : ∀ j : Int, 0 ≤ j → aC.Gy y l j < 0 ∨ (j ≤ aC.Gy y l j ∧ aC.Gy y l j < j + (l.length : Int)) := by
 induction l with
 | nil => intro j _; left; show (-1 : Int) < 0; omega
 | cons c t ih =>
  intro j hj
  unfold aC.Gy
  split
  ·
   right; simp; omega
  ·
   rcases ih (j + 1) (by omega) with h | ⟨h1, h2⟩
   ·
    exact .inl h
   ·
    right; simp at h2 ⊢; omega
theorem aC.aIE (y : ByteArray) (l : List Cg) : ∀ j : Int, 0 ≤ j → aC.Oz y l j < 0 ∨ (j ≤ aC.Oz y l j ∧ aC.Oz y l j < j + (l.length : Int)) := by
 induction l with
 | nil => intro j _; left; show (-1 : Int) < 0; omega
 | cons c t ih =>
  intro j hj
  unfold aC.Oz
  split
  ·
   right; simp; omega
  ·
   rcases ih (j + 1) (by omega) with h | ⟨h1, h2⟩
   ·
    exact .inl h
   ·
    right; simp at h2 ⊢; omega
theorem aC.Yi (x : nM) (y : ByteArray) (v2 v3 v4 : Value) (gb : Nat) (w : World) (hb : w.heap[gb]? = some (.cells #[.string y] 9 (0, 0))) :
  Calls Try.prog 19 #[.agg #[.string x.f0, .int .i64 x.f1, v2, v3, v4], .pointer (some ⟨gb, 0, none⟩)] w fun e w' => e = .returned (.bool (x.f0.toList == y.toList)) ∧ Below w.heap.size w w' := by
 have aXE := Try.underlying31
 have HG := za hb
 clear hb
 go_enter Try.func19, Try.ntmps19
 go_wp2_with (first | ((with_reducible refine bO (N := 2) rfl ?_); refine bZ ?hg (N := 2) ?hd (cs := #[.string x.f0, .int .i64 x.f1, v2, v3, v4]) (t := 31) ?hr ?_; (case hd => rfl); (case hg => rfl); (case hr => exact jA); intro g2 hg w2 gP hb; have BK := za gP; have HB := za hb; have HG2 := za (aY HG.out hb); clear gP hb hg; have c0 := (aA BK.out 0).trans rfl; have d0 := (aA HG2.out 0).trans rfl))
 go_ret
 exact ⟨rfl, HB.out⟩
theorem aC.Yj (x : Cg) (y : ByteArray) (v1 v5 v6 : Value) (gb : Nat) (w : World) (hb : w.heap[gb]? = some (.cells #[.string y] 9 (0, 0))) :
  Calls Try.prog 21 #[.agg #[.string x.f0, v1, .bool x.f2, .string x.f3, .string x.f4, v5, v6, .int .i64 x.f7], .pointer (some ⟨gb, 0, none⟩)] w fun e w' => e = .returned (.bool (x.f0.toList == y.toList)) ∧ Below w.heap.size w w' := by
 have QX := Try.underlying38
 have HG := za hb
 clear hb
 go_enter Try.func21, Try.ntmps21
 go_wp2_with (first | ((with_reducible refine bO (N := 2) rfl ?_); refine bZ ?hg (N := 2) ?hd (cs := #[.string x.f0, v1, .bool x.f2, .string x.f3, .string x.f4, v5, v6, .int .i64 x.f7]) (t := 38) ?hr ?_; (case hd => rfl); (case hg => rfl); (case hr => exact jA); intro g2 hg w2 gP hb; have BK := za gP; have HB := za hb; have HG2 := za (aY HG.out hb); clear gP hb hg; have c0 := (aA BK.out 0).trans rfl; have d0 := (aA HG2.out 0).trans rfl))
 go_ret
 exact ⟨rfl, HB.out⟩
theorem aC.K8 (A0 : Option Addr) (c0 : Nat) (l0 : List nM) (y : ByteArray) (gb : Nat) (w : World) (hr : k31.C w A0 l0.length l0) (hc : l0.length ≤ c0) (hb : w.heap[gb]? = some (.cells #[.string y] 9 (0, 0))) :
  Calls Try.prog 18 #[.slice A0 l0.length c0, .func (.func 19) #[] #[.pointer (some ⟨gb, 0, none⟩)]] w fun e w' => e = .returned (.int .i64 (aC.Gy y l0 0)) ∧ Below w.heap.size w w' := by
 have aXE := Try.underlying31
 have HG := za hb
 have HR := za hr
 have HC := za hc
 have hl := Kd.Pw hr
 clear hb hr hc
 go_enter Try.func18, Try.ntmps18
 go_wp2
 go_loopw [8] (fun i wr => ∃ x : Int, i = .int .i64 x ∧ 0 ≤ x ∧ x ≤ (l0.length : Int) ∧ aG (aC.Gy y l0 0 = aC.Gy y (l0.drop x.toNat) x) ∧ aG (Below w.heap.size w wr)) (fun i _ => l0.length - (intOf i).toNat)
 case atStart => exact ⟨0, rfl, by omega, by omega, ⟨by simp⟩, ⟨Below.refl _ _⟩⟩
 case round =>
  obtain ⟨x, rfl, h0, h1, HI, HB⟩ := hrel
  by_cases hlt : x < (l0.length : Int)
  ·
   have p0 := eq_true h0
   have p1 := eq_true hlt
   obtain ⟨ad, A2, c2, A3, c3, A4, c4, ea, hx0, hx1, hx2, hx3, hx4, _⟩ := Ae HR.out x h0 hlt
   cases ea
   replace hx0 := (HB.out.cell (World.block_lt_of_cell? w _ hx0)).trans hx0
   replace hx1 := (HB.out.cell (World.block_lt_of_cell? w _ hx1)).trans hx1
   replace hx2 := (HB.out.cell (World.block_lt_of_cell? w _ hx2)).trans hx2
   replace hx3 := (HB.out.cell (World.block_lt_of_cell? w _ hx3)).trans hx3
   replace hx4 := (HB.out.cell (World.block_lt_of_cell? w _ hx4)).trans hx4
   have HGr := za ((HB.out.block gb (gB HG.out)).trans HG.out)
   have HS := za (aC.aIB y l0 x h0 hlt x)
   by_cases hq : (aJ l0 x).f0.toList = y.toList
   ·
    have hqb : ((aJ l0 x).f0.toList == y.toList) = true := beq_iff_eq.mpr hq
    have HQ := za hq
    clear hq
    go_wp2_with (go_at_call 19; refine (aC.Yi (aJ l0 x) y _ _ _ gb _ HGr.out).mono ?_; rintro e w3 ⟨rfl, hb3⟩; have HB3 := za (aM HB.out hb3); clear hb3 hx0 hx1 hx2 hx3 hx4)
    go_ret
    exact ⟨by rw [HI.out, HS.out, if_pos HQ.out]; rfl, HB3.out⟩
   ·
    have hqb : ((aJ l0 x).f0.toList == y.toList) = false := beq_eq_false_iff_ne.mpr hq
    have HQ := za hq
    clear hq
    go_wp2_with (go_at_call 19; refine (aC.Yi (aJ l0 x) y _ _ _ gb _ HGr.out).mono ?_; rintro e w3 ⟨rfl, hb3⟩; have HB3 := za (aM HB.out hb3); clear hb3 hx0 hx1 hx2 hx3 hx4)
    go_roundw
    case rel => exact ⟨x + 1, by go_num, by omega, by omega, ⟨by rw [HI.out, HS.out, if_neg HQ.out]⟩, HB3⟩
    case measure => simp [intOf]; omega
  ·
   go_wp2
   go_ret
   exact ⟨by rw [HI.out, List.drop_eq_nil_of_le (by omega)]; rfl, HB.out⟩
theorem aC.Pb (A0 : Option Addr) (c0 : Nat) (l0 : List Cg) (y : ByteArray) (gb : Nat) (w : World) (hr : Vo.C w A0 l0.length l0) (hc : l0.length ≤ c0) (hb : w.heap[gb]? = some (.cells #[.string y] 9 (0, 0))) :
  Calls Try.prog 20 #[.slice A0 l0.length c0, .func (.func 21) #[] #[.pointer (some ⟨gb, 0, none⟩)]] w fun e w' => e = .returned (.int .i64 (aC.Oz y l0 0)) ∧ Below w.heap.size w w' := by
 have QX := Try.underlying38
 have HG := za hb
 have HR := za hr
 have HC := za hc
 have hl := Kd.Pw hr
 clear hb hr hc
 go_enter Try.func20, Try.ntmps20
 go_wp2
 go_loopw [8] (fun i wr => ∃ x : Int, i = .int .i64 x ∧ 0 ≤ x ∧ x ≤ (l0.length : Int) ∧ aG (aC.Oz y l0 0 = aC.Oz y (l0.drop x.toNat) x) ∧ aG (Below w.heap.size w wr)) (fun i _ => l0.length - (intOf i).toNat)
 case atStart => exact ⟨0, rfl, by omega, by omega, ⟨by simp⟩, ⟨Below.refl _ _⟩⟩
 case round =>
  obtain ⟨x, rfl, h0, h1, HI, HB⟩ := hrel
  by_cases hlt : x < (l0.length : Int)
  ·
   have p0 := eq_true h0
   have p1 := eq_true hlt
   obtain ⟨ad, A1, c1, A5, c5, A6, c6, ea, hx0, hx1, hx2, hx3, hx4, hx5, hx6, hx7, _⟩ := E9 HR.out x h0 hlt
   cases ea
   replace hx0 := (HB.out.cell (World.block_lt_of_cell? w _ hx0)).trans hx0
   replace hx1 := (HB.out.cell (World.block_lt_of_cell? w _ hx1)).trans hx1
   replace hx2 := (HB.out.cell (World.block_lt_of_cell? w _ hx2)).trans hx2
   replace hx3 := (HB.out.cell (World.block_lt_of_cell? w _ hx3)).trans hx3
   replace hx4 := (HB.out.cell (World.block_lt_of_cell? w _ hx4)).trans hx4
   replace hx5 := (HB.out.cell (World.block_lt_of_cell? w _ hx5)).trans hx5
   replace hx6 := (HB.out.cell (World.block_lt_of_cell? w _ hx6)).trans hx6
   replace hx7 := (HB.out.cell (World.block_lt_of_cell? w _ hx7)).trans hx7
   have HGr := za ((HB.out.block gb (gB HG.out)).trans HG.out)
   have HS := za (aC.aIC y l0 x h0 hlt x)
   by_cases hq : (bE l0 x).f0.toList = y.toList
   ·
    have hqb : ((bE l0 x).f0.toList == y.toList) = true := beq_iff_eq.mpr hq
    have HQ := za hq
    clear hq
    go_wp2_with (go_at_call 21; refine (aC.Yj (bE l0 x) y _ _ _ gb _ HGr.out).mono ?_; rintro e w3 ⟨rfl, hb3⟩; have HB3 := za (aM HB.out hb3); clear hb3 hx0 hx1 hx2 hx3 hx4 hx5 hx6 hx7)
    go_ret
    exact ⟨by rw [HI.out, HS.out, if_pos HQ.out]; rfl, HB3.out⟩
   ·
    have hqb : ((bE l0 x).f0.toList == y.toList) = false := beq_eq_false_iff_ne.mpr hq
    have HQ := za hq
    clear hq
    go_wp2_with (go_at_call 21; refine (aC.Yj (bE l0 x) y _ _ _ gb _ HGr.out).mono ?_; rintro e w3 ⟨rfl, hb3⟩; have HB3 := za (aM HB.out hb3); clear hb3 hx0 hx1 hx2 hx3 hx4 hx5 hx6 hx7)
    go_roundw
    case rel => exact ⟨x + 1, by go_num, by omega, by omega, ⟨by rw [HI.out, HS.out, if_neg HQ.out]⟩, HB3⟩
    case measure => simp [intOf]; omega
  ·
   go_wp2
   go_ret
   exact ⟨by rw [HI.out, List.drop_eq_nil_of_le (by omega)]; rfl, HB.out⟩
end
section
def aC.find (l : List nM) (mod proc : ByteArray) (args : Int) : Cg × Bool :=
 if aC.Gy mod l 0 < 0 then (z38, false)
 else if aC.Oz proc (aJ l (aC.Gy mod l 0)).f4 0 < 0 then (z38, false)
 else if ((bE (aJ l (aC.Gy mod l 0)).f4 (aC.Oz proc (aJ l (aC.Gy mod l 0)).f4 0)).f1.length : Int) = args then (bE (aJ l (aC.Gy mod l 0)).f4 (aC.Oz proc (aJ l (aC.Gy mod l 0)).f4 0), true)
 else (z38, false)
structure aC.PV (w : World) (p : Cg) (A1 : Option Addr) (c1 : Nat) (A5 : Option Addr) (c5 : Nat) (A6 : Option Addr) (c6 : Nat) : Prop where
 l1 : p.f1.length ≤ c1
 g1 : ZV.C w A1 p.f1.length p.f1
 l5 : p.f5.length ≤ c5
 g5 : Kd.string.C w A5 p.f5.length p.f5
 l6 : p.f6.length ≤ c6
 g6 : Fv.C w A6 p.f6.length p.f6
theorem aC.PV.below {w w' : World} {p : Cg} {A1 A5 A6 : Option Addr} {c1 c5 c6 : Nat} (x : aC.PV w p A1 c1 A5 c5 A6 c6) (hb : Below w.heap.size w w') : aC.PV w' p A1 c1 A5 c5 A6 c6 :=
 ⟨x.l1, Kd.dG x.g1 hb, x.l5, Kd.dG x.g5 hb, x.l6, Kd.dG x.g6 hb⟩
theorem aC.PV.zero (w : World) : aC.PV w z38 none 0 none 0 none 0 := ⟨Nat.le_refl _, Kd.Pv _ _, Nat.le_refl _, Kd.Pv _ _, Nat.le_refl _, Kd.Pv _ _⟩
abbrev aC.vz (p : Cg) (A1 : Option Addr) (c1 : Nat) (A5 : Option Addr) (c5 : Nat) (A6 : Option Addr) (c6 : Nat) : Array Value := #[.string p.f0, .slice A1 p.f1.length c1, .bool p.f2, .string p.f3, .string p.f4, .slice A5 p.f5.length c5, .slice A6 p.f6.length c6, .int .i64 p.f7]
theorem aC.ug {g : Nat} {W : World} {t : TypeId} {a0 a1 a2 a3 a4 a5 a6 a7 : Value} (h : W.heap[g]? = some (.cells #[a0, a1, a2, a3, a4, a5, a6, a7] t (0, 0))) (u0 u1 u2 u3 u4 u5 u6 u7 : Value) :
  ((((((((W.setCell ⟨g, 0, none⟩ u0).setCell ⟨g, 1, none⟩ u1).setCell ⟨g, 2, none⟩ u2).setCell ⟨g, 3, none⟩ u3).setCell ⟨g, 4, none⟩ u4).setCell ⟨g, 5, none⟩ u5).setCell ⟨g, 6, none⟩ u6).setCell ⟨g, 7, none⟩ u7).heap[g]? = some (.cells #[u0, u1, u2, u3, u4, u5, u6, u7] t (0, 0)) := by
 have z0 : (W.setCell ⟨g, 0, none⟩ u0).heap[g]? = some (.cells #[u0, a1, a2, a3, a4, a5, a6, a7] t (0, 0)) := bD h 0 u0 rfl
 have z1 : ((W.setCell ⟨g, 0, none⟩ u0).setCell ⟨g, 1, none⟩ u1).heap[g]? = some (.cells #[u0, u1, a2, a3, a4, a5, a6, a7] t (0, 0)) := bD z0 1 u1 rfl
 have z2 : (((W.setCell ⟨g, 0, none⟩ u0).setCell ⟨g, 1, none⟩ u1).setCell ⟨g, 2, none⟩ u2).heap[g]? = some (.cells #[u0, u1, u2, a3, a4, a5, a6, a7] t (0, 0)) := bD z1 2 u2 rfl
 have z3 : ((((W.setCell ⟨g, 0, none⟩ u0).setCell ⟨g, 1, none⟩ u1).setCell ⟨g, 2, none⟩ u2).setCell ⟨g, 3, none⟩ u3).heap[g]? = some (.cells #[u0, u1, u2, u3, a4, a5, a6, a7] t (0, 0)) := bD z2 3 u3 rfl
 have z4 : (((((W.setCell ⟨g, 0, none⟩ u0).setCell ⟨g, 1, none⟩ u1).setCell ⟨g, 2, none⟩ u2).setCell ⟨g, 3, none⟩ u3).setCell ⟨g, 4, none⟩ u4).heap[g]? = some (.cells #[u0, u1, u2, u3, u4, a5, a6, a7] t (0, 0)) := bD z3 4 u4 rfl
 have z5 : ((((((W.setCell ⟨g, 0, none⟩ u0).setCell ⟨g, 1, none⟩ u1).setCell ⟨g, 2, none⟩ u2).setCell ⟨g, 3, none⟩ u3).setCell ⟨g, 4, none⟩ u4).setCell ⟨g, 5, none⟩ u5).heap[g]? = some (.cells #[u0, u1, u2, u3, u4, u5, a6, a7] t (0, 0)) := bD z4 5 u5 rfl
 have z6 : (((((((W.setCell ⟨g, 0, none⟩ u0).setCell ⟨g, 1, none⟩ u1).setCell ⟨g, 2, none⟩ u2).setCell ⟨g, 3, none⟩ u3).setCell ⟨g, 4, none⟩ u4).setCell ⟨g, 5, none⟩ u5).setCell ⟨g, 6, none⟩ u6).heap[g]? = some (.cells #[u0, u1, u2, u3, u4, u5, u6, a7] t (0, 0)) := bD z5 6 u6 rfl
 have z7 : ((((((((W.setCell ⟨g, 0, none⟩ u0).setCell ⟨g, 1, none⟩ u1).setCell ⟨g, 2, none⟩ u2).setCell ⟨g, 3, none⟩ u3).setCell ⟨g, 4, none⟩ u4).setCell ⟨g, 5, none⟩ u5).setCell ⟨g, 6, none⟩ u6).setCell ⟨g, 7, none⟩ u7).heap[g]? = some (.cells #[u0, u1, u2, u3, u4, u5, u6, u7] t (0, 0)) := bD z6 7 u7 rfl
 exact z7
theorem aC.rV {g : Nat} {w W : World} (h : Below w.heap.size w W) (hg : w.heap.size ≤ g) (u0 u1 u2 u3 u4 u5 u6 u7 : Value) :
  Below w.heap.size w ((((((((W.setCell ⟨g, 0, none⟩ u0).setCell ⟨g, 1, none⟩ u1).setCell ⟨g, 2, none⟩ u2).setCell ⟨g, 3, none⟩ u3).setCell ⟨g, 4, none⟩ u4).setCell ⟨g, 5, none⟩ u5).setCell ⟨g, 6, none⟩ u6).setCell ⟨g, 7, none⟩ u7) :=
 aV (aV (aV (aV (aV (aV (aV (aV h hg) hg) hg) hg) hg) hg) hg) hg
theorem aC.xD (AL : Option Addr) (cL : Nat) (l : List nM) (mod proc : ByteArray) (n : Nat) (p : Cg) (b : Bool) (w0 w : World) (hr : k31.C w0 AL l.length l) (hB0 : Below w0.heap.size w0 w) (hc : l.length ≤ cL) (h : aC.find l mod proc (n : Int) = (p, b)) :
  Calls Try.prog 13 #[.slice AL l.length cL, .string mod, .string proc, .int .i64 (n : Int)] w fun e w' => ∃ A1 c1 A5 c5 A6 c6, e = .returned (.tuple #[.agg (aC.vz p A1 c1 A5 c5 A6 c6), .bool b]) ∧ aC.PV w0 p A1 c1 A5 c5 A6 c6 ∧ Below w.heap.size w w' := by
 have aXE := Try.underlying31
 have QX := Try.underlying38
 have HR := za hr
 have HB0 := za hB0
 have HC := za hc
 have H := za h
 clear hr hB0 hc h
 go_enter Try.func13, Try.ntmps13
 go_wp2_with (first | ((with_reducible refine bO (N := 5) rfl ?_); refine bZ ?hg (N := 5) ?hd (cs := #[.string mod]) (t := 9) ?hr ?_; (case hd => rfl); (case hg => rfl); (case hr => exact jA); intro b5 hg5 w5 hx5 hb5; have B5 := za hx5; have Bw := za hb5; have G5 := za hg5; clear hx5 hb5 hg5) | ((with_reducible refine bO (N := 6) rfl ?_); refine bZ ?hg (N := 6) ?hd (cs := #[.string proc]) (t := 9) ?hr ?_; (case hd => rfl); (case hg => rfl); (case hr => exact jA); intro b6 hg6 w6 hx6 hb6; have B6 := za hx6; have HB6 := za hb6; have G6 := za hg6; clear hx6 hb6 hg6) | ((with_reducible refine bO (N := 8) rfl ?_); refine bZ ?hg (N := 8) ?hd (cs := #[.string (⟨#[]⟩ : ByteArray), .slice none 0 0, .bool false, .string (⟨#[]⟩ : ByteArray), .string (⟨#[]⟩ : ByteArray), .slice none 0 0, .slice none 0 0, .int .i64 0]) (t := 38) ?hr ?_; (case hd => rfl); (case hg => rfl); (case hr => exact jA); intro b8 hg8 w8 Yk hb8; have B8 := za Yk; have HB8 := za hb8; have G8 := za hg8; clear Yk hb8 hg8))
 have aOr := za (aM (aM Bw.out HB6.out) HB8.out)
 have B5' := za (aY (aY B5.out HB6.out) HB8.out)
 have B6' := za (aY B6.out HB8.out)
 have G8' : aG (w.heap.size ≤ b8) := ⟨by have h1 := G8.out; have h2 := aT Bw.out; have h3 := aT HB6.out; omega⟩
 clear Bw HB6 HB8 B5 B6 G5 G6 G8
 refine (aC.K8 AL cL l mod b5 _ (Kd.dG HR.out (aM HB0.out aOr.out)) HC.out B5'.out).mono ?_
 rintro e w9 ⟨rfl, hb9⟩
 have jl := za (aM aOr.out hb9)
 have B69 := za (aY B6'.out hb9)
 have MI := za (aY B8.out hb9)
 clear hb9 aOr B5' B6' B8
 have hil := aC.aID mod l 0 (Int.le_refl 0)
 have hmx := Kd.Pw HR.out
 generalize hi : aC.Gy mod l 0 = i at *
 have HI := za hi
 clear hi
 have c0 := (aA MI.out 0).trans rfl
 have c1 := (aA MI.out 1).trans rfl
 have c2 := (aA MI.out 2).trans rfl
 have c3 := (aA MI.out 3).trans rfl
 have c4 := (aA MI.out 4).trans rfl
 have c5 := (aA MI.out 5).trans rfl
 have c6 := (aA MI.out 6).trans rfl
 have c7 := (aA MI.out 7).trans rfl
 have f0 := aD MI.out 0
 have f1 := aD MI.out 1
 have f2 := aD MI.out 2
 have f3 := aD MI.out 3
 have f4 := aD MI.out 4
 have f5 := aD MI.out 5
 have f6 := aD MI.out 6
 have f7 := aD MI.out 7
 by_cases hneg : i < 0
 ·
  have hb : decide (i < 0) = true := decide_eq_true hneg
  have HN := za hneg
  clear hneg hil hmx
  go_wp2
  refine bodyPost_ret (Fh rfl _ _ b8 38 #[.string (⟨#[]⟩ : ByteArray), .slice none 0 0, .bool false, .string (⟨#[]⟩ : ByteArray), .string (⟨#[]⟩ : ByteArray), .slice none 0 0, .slice none 0 0, .int .i64 0] (0, 0) _ rfl (aC.ug MI.out _ _ _ _ _ _ _ _) QX rfl dU) rfl ?_
  have h := H.out
  unfold aC.find at h
  rw [HI.out, if_pos HN.out] at h
  cases h
  exact ⟨none, 0, none, 0, none, 0, rfl, aC.PV.zero w0, aC.rV jl.out G8'.out _ _ _ _ _ _ _ _⟩
 ·
  have hb : decide (i < 0) = false := decide_eq_false hneg
  have HN := za hneg
  have h0 : 0 ≤ i := by omega
  have h1 : i < (l.length : Int) := by omega
  have p0 := eq_true h0
  have p1 := eq_true h1
  obtain ⟨ad, A2, k2, A3, k3, A4, k4, ea, _, _, _, _, e4, _, _, _, _, aC.lp, gp⟩ := Ae HR.out i h0 h1
  cases ea
  have e4' := ((aM HB0.out jl.out).cell (World.block_lt_of_cell? w0 _ e4)).trans e4
  have GP := za gp
  have LP := za aC.lp
  have E4 := za e4
  clear hneg gp aC.lp e4
  generalize hM : aJ l i = M at *
  have HMd := za hM
  clear hM
  have hkl := aC.aIE proc M.f4 0 (Int.le_refl 0)
  have hmp := Kd.Pw GP.out
  generalize hk : aC.Oz proc M.f4 0 = k at *
  have HK := za hk
  clear hk hil
  by_cases hkn : k < 0
  ·
   have hbk : decide (k < 0) = true := decide_eq_true hkn
   have KN := za hkn
   clear hkn hkl hmp
   go_wp2_with (go_at_call 20; refine (aC.Pb _ _ M.f4 proc b6 _ (Kd.dG GP.out (aM HB0.out jl.out)) LP.out B69.out).mono ?_; rintro e w10 ⟨rfl, EN⟩; rw [HK.out]; have Jg := za (aM jl.out EN); have nR := za (aY MI.out EN); clear EN e4' c0 c1 c2 c3 c4 c5 c6 c7 f0 f1 f2 f3 f4 f5 f6 f7; have e4' := ((aM HB0.out Jg.out).cell (World.block_lt_of_cell? w0 _ E4.out)).trans E4.out; have c0 := (aA nR.out 0).trans rfl; have c1 := (aA nR.out 1).trans rfl; have c2 := (aA nR.out 2).trans rfl; have c3 := (aA nR.out 3).trans rfl; have c4 := (aA nR.out 4).trans rfl; have c5 := (aA nR.out 5).trans rfl; have c6 := (aA nR.out 6).trans rfl; have c7 := (aA nR.out 7).trans rfl; have f0 := aD nR.out 0; have f1 := aD nR.out 1; have f2 := aD nR.out 2; have f3 := aD nR.out 3; have f4 := aD nR.out 4; have f5 := aD nR.out 5; have f6 := aD nR.out 6; have f7 := aD nR.out 7)
   refine bodyPost_ret (Fh rfl _ _ b8 38 #[.string (⟨#[]⟩ : ByteArray), .slice none 0 0, .bool false, .string (⟨#[]⟩ : ByteArray), .string (⟨#[]⟩ : ByteArray), .slice none 0 0, .slice none 0 0, .int .i64 0] (0, 0) _ rfl (aC.ug nR.out _ _ _ _ _ _ _ _) QX rfl dU) rfl ?_
   have h := H.out
   unfold aC.find at h
   rw [HI.out, if_neg (Int.not_lt.2 HN.out), HMd.out, HK.out, if_pos KN.out] at h
   cases h
   exact ⟨none, 0, none, 0, none, 0, rfl, aC.PV.zero w0, aC.rV Jg.out G8'.out _ _ _ _ _ _ _ _⟩
  ·
   have hbk : decide (k < 0) = false := decide_eq_false hkn
   have KN := za hkn
   have k0 : 0 ≤ k := by omega
   have k1 : k < (M.f4.length : Int) := by omega
   have q0 := eq_true k0
   have q1 := eq_true k1
   obtain ⟨ad2, A1, d1, A5, d5, A6, d6, ea2, g0, g1, g2, g3, g4, g5, g6, g7, l1, r1, l5, r5, l6, r6⟩ := E9 GP.out k k0 k1
   cases ea2
   generalize hP : bE M.f4 k = P at *
   have HP := za hP
   have PVV : aG (aC.PV w0 P A1 d1 A5 d5 A6 d6) := ⟨⟨l1, r1, l5, r5, l6, r6⟩⟩
   have G0 := za g0
   have G1 := za g1
   have G2 := za g2
   have G3 := za g3
   have G4 := za g4
   have G5 := za g5
   have G6 := za g6
   have G7 := za g7
   clear hP l1 r1 l5 r5 l6 r6 hkn hkl g0 g1 g2 g3 g4 g5 g6 g7
   by_cases hn : (P.f1.length : Int) = (n : Int)
   ·
    have hnb : ((P.f1.length : Int) == (n : Int)) = true := beq_iff_eq.mpr hn
    have bMc : ((P.f1.length : Int) != (n : Int)) = false := bne_eq_false_iff_eq.mpr hn
    have HNN := za hn
    clear hn
    go_wp2_with (go_at_call 20; refine (aC.Pb _ _ M.f4 proc b6 _ (Kd.dG GP.out (aM HB0.out jl.out)) LP.out B69.out).mono ?_; rintro e w10 ⟨rfl, EN⟩; rw [HK.out]; have Jg := za (aM jl.out EN); have nR := za (aY MI.out EN); clear EN e4' c0 c1 c2 c3 c4 c5 c6 c7 f0 f1 f2 f3 f4 f5 f6 f7; have e4' := ((aM HB0.out Jg.out).cell (World.block_lt_of_cell? w0 _ E4.out)).trans E4.out; have c0 := (aA nR.out 0).trans rfl; have c1 := (aA nR.out 1).trans rfl; have c2 := (aA nR.out 2).trans rfl; have c3 := (aA nR.out 3).trans rfl; have c4 := (aA nR.out 4).trans rfl; have c5 := (aA nR.out 5).trans rfl; have c6 := (aA nR.out 6).trans rfl; have c7 := (aA nR.out 7).trans rfl; have f0 := aD nR.out 0; have f1 := aD nR.out 1; have f2 := aD nR.out 2; have f3 := aD nR.out 3; have f4 := aD nR.out 4; have f5 := aD nR.out 5; have f6 := aD nR.out 6; have f7 := aD nR.out 7; have g0 := ((aM HB0.out Jg.out).cell (World.block_lt_of_cell? w0 _ G0.out)).trans G0.out; have g1 := ((aM HB0.out Jg.out).cell (World.block_lt_of_cell? w0 _ G1.out)).trans G1.out; have g2 := ((aM HB0.out Jg.out).cell (World.block_lt_of_cell? w0 _ G2.out)).trans G2.out; have g3 := ((aM HB0.out Jg.out).cell (World.block_lt_of_cell? w0 _ G3.out)).trans G3.out; have g4 := ((aM HB0.out Jg.out).cell (World.block_lt_of_cell? w0 _ G4.out)).trans G4.out; have g5 := ((aM HB0.out Jg.out).cell (World.block_lt_of_cell? w0 _ G5.out)).trans G5.out; have g6 := ((aM HB0.out Jg.out).cell (World.block_lt_of_cell? w0 _ G6.out)).trans G6.out; have g7 := ((aM HB0.out Jg.out).cell (World.block_lt_of_cell? w0 _ G7.out)).trans G7.out)
    refine bodyPost_ret (Fh rfl _ _ b8 38 (aC.vz P A1 d1 A5 d5 A6 d6) (0, 0) _ rfl (aC.ug nR.out _ _ _ _ _ _ _ _) QX rfl dU) rfl ?_
    have h := H.out
    unfold aC.find at h
    rw [HI.out, if_neg (Int.not_lt.2 HN.out), HMd.out, HK.out, if_neg (Int.not_lt.2 KN.out), HP.out, if_pos HNN.out] at h
    cases h
    exact ⟨A1, d1, A5, d5, A6, d6, rfl, PVV.out, aC.rV Jg.out G8'.out _ _ _ _ _ _ _ _⟩
   ·
    have hnb : ((P.f1.length : Int) == (n : Int)) = false := beq_eq_false_iff_ne.mpr hn
    have bMc : ((P.f1.length : Int) != (n : Int)) = true := bne_iff_ne.mpr hn
    have HNN := za hn
    clear hn
    go_wp2_with (go_at_call 20; refine (aC.Pb _ _ M.f4 proc b6 _ (Kd.dG GP.out (aM HB0.out jl.out)) LP.out B69.out).mono ?_; rintro e w10 ⟨rfl, EN⟩; rw [HK.out]; have Jg := za (aM jl.out EN); have nR := za (aY MI.out EN); clear EN e4' c0 c1 c2 c3 c4 c5 c6 c7 f0 f1 f2 f3 f4 f5 f6 f7; have e4' := ((aM HB0.out Jg.out).cell (World.block_lt_of_cell? w0 _ E4.out)).trans E4.out; have c0 := (aA nR.out 0).trans rfl; have c1 := (aA nR.out 1).trans rfl; have c2 := (aA nR.out 2).trans rfl; have c3 := (aA nR.out 3).trans rfl; have c4 := (aA nR.out 4).trans rfl; have c5 := (aA nR.out 5).trans rfl; have c6 := (aA nR.out 6).trans rfl; have c7 := (aA nR.out 7).trans rfl; have f0 := aD nR.out 0; have f1 := aD nR.out 1; have f2 := aD nR.out 2; have f3 := aD nR.out 3; have f4 := aD nR.out 4; have f5 := aD nR.out 5; have f6 := aD nR.out 6; have f7 := aD nR.out 7; have g1 := ((aM HB0.out Jg.out).cell (World.block_lt_of_cell? w0 _ G1.out)).trans G1.out)
    refine bodyPost_ret (Fh rfl _ _ b8 38 #[.string (⟨#[]⟩ : ByteArray), .slice none 0 0, .bool false, .string (⟨#[]⟩ : ByteArray), .string (⟨#[]⟩ : ByteArray), .slice none 0 0, .slice none 0 0, .int .i64 0] (0, 0) _ rfl (aC.ug nR.out _ _ _ _ _ _ _ _) QX rfl dU) rfl ?_
    have h := H.out
    unfold aC.find at h
    rw [HI.out, if_neg (Int.not_lt.2 HN.out), HMd.out, HK.out, if_neg (Int.not_lt.2 KN.out), HP.out, if_neg HNN.out] at h
    cases h
    exact ⟨none, 0, none, 0, none, 0, rfl, aC.PV.zero w0, aC.rV Jg.out G8'.out _ _ _ _ _ _ _ _⟩
end
structure aC.SV (w : World) (s : mO) (A8 : Option Addr) (c8 : Nat) (A9 : Option Addr) (c9 : Nat) (qR : Option Addr) (c10 : Nat) (sM : Option Addr) (c11 : Nat) : Prop where
 l8 : s.f8.length ≤ c8
 g8 : gU.C w A8 s.f8.length s.f8
 l9 : s.f9.length ≤ c9
 g9 : (Kd.slice 112 gU).C w A9 s.f9.length s.f9
 l10 : s.f10.length ≤ c10
 g10 : Fv.C w qR s.f10.length s.f10
 l11 : s.f11.length ≤ c11
 g11 : Fv.C w sM s.f11.length s.f11
structure aC.Stp (W W' : World) (br bf : Nat) (vm vt vx vQ xC Er : Value) : Prop where
 k : Kept W W' (fun k => k = br ∨ k = bf ∨ vt.ownBlock = some k ∨ vx.ownBlock = some k)
 m : ∀ k, vQ.ownBlock = some k → vm.ownBlock = some k ∨ W.heap.size ≤ k
 t : ∀ k, xC.ownBlock = some k → vt.ownBlock = some k ∨ W.heap.size ≤ k
 x : ∀ k, Er.ownBlock = some k → vx.ownBlock = some k ∨ W.heap.size ≤ k
section
section
variable {w0 W W' W2 : World} {br bf : Nat} {vm vt vx vQ xC Er jm jo uh : Value}
theorem aC.Stp.refl (W : World) (br bf : Nat) (vm vt vx : Value) : aC.Stp W W br bf vm vt vx vm vt vx := ⟨Kept.refl _ _, fun _ h => .inl h, fun _ h => .inl h, fun _ h => .inl h⟩
theorem aC.Stp.of_below (h : Below W.heap.size W W') : aC.Stp W W' br bf vm vt vx vm vt vx := ⟨Kept.of_below h _, fun _ h => .inl h, fun _ h => .inl h, fun _ h => .inl h⟩
theorem aC.Stp.trans (h : aC.Stp W W' br bf vm vt vx vQ xC Er) (g : aC.Stp W' W2 br bf vQ xC Er jm jo uh) : aC.Stp W W2 br bf vm vt vx jm jo uh :=
 ⟨h.k.sK g.k (fun k hk => by
   rcases hk with e | e | e | e
   ·
    exact .inl (.inl e)
   ·
    exact .inl (.inr (.inl e))
   ·
    exact (h.t k e).elim (fun z => .inl (.inr (.inr (.inl z)))) .inr
   ·
    exact (h.x k e).elim (fun z => .inl (.inr (.inr (.inr z)))) .inr),
  fun k e => (g.m k e).elim (h.m k) (fun z => .inr (Nat.le_trans h.k.1 z)),
  fun k e => (g.t k e).elim (h.t k) (fun z => .inr (Nat.le_trans h.k.1 z)),
  fun k e => (g.x k e).elim (h.x k) (fun z => .inr (Nat.le_trans h.k.1 z))⟩
theorem aC.Stp.below (h : aC.Stp W W' br bf vm vt vx vQ xC Er) (hb : Below W'.heap.size W' W2) : aC.Stp W W2 br bf vm vt vx vQ xC Er := h.trans (aC.Stp.of_below hb)
theorem aC.Stp.keep (h : aC.Stp W W' br bf vm vt vx vQ xC Er) (hk : aU W' W2 br none) : aC.Stp W W2 br bf vm vt vx vQ xC Er := ⟨h.k.nT hk (.inl (.inl rfl)), h.m, h.t, h.x⟩
theorem aC.Stp.bMd {A : Option Addr} {N n c : Nat} (h : aC.Stp W W' br bf vm vt vx vQ xC (.slice A N c)) : aC.Stp W W' br bf vm vt vx vQ xC (.slice A n c) := ⟨h.k, h.m, h.t, fun k e => h.x k (by cases A <;> exact e)⟩
theorem aC.Stp.aOq (h : aC.Stp W W' br bf vm vt vx vQ xC Er) (j : Nat) (u : Value) : aC.Stp W (W'.setCell ⟨br, j, none⟩ u) br bf vm vt vx vQ xC Er := ⟨h.k.setCell (.inl (.inl rfl)) u, h.m, h.t, h.x⟩
theorem aC.Stp.aXF (h : aC.Stp W W' br bf vm vt vx vQ xC Er) (j : Nat) (u : Value) : aC.Stp W (W'.setCell ⟨bf, j, none⟩ u) br bf vm vt vx vQ xC Er := ⟨h.k.setCell (.inl (.inr (.inl rfl))) u, h.m, h.t, h.x⟩
theorem aC.Stp.mem (h : aC.Stp W W' br bf vm vt vx vQ xC Er) {u : Value} (hu : ∀ k, u.ownBlock = some k → W.heap.size ≤ k) : aC.Stp W (W'.setCell ⟨br, 1, none⟩ u) br bf vm vt vx u xC Er := ⟨h.k.setCell (.inl (.inl rfl)) u, fun k e => .inr (hu k e), h.t, h.x⟩
end
abbrev aC.Wz (s : mO) (A8 : Option Addr) (c8 : Nat) (A9 : Option Addr) (c9 : Nat) (qR : Option Addr) (c10 : Nat) (sM : Option Addr) (c11 : Nat) : Array Value := #[.int .i64 s.f0, .int .i64 s.f1, .string s.f2, .string s.f3, .string s.f4, .bool s.f5, .string s.f6, .string s.f7, .slice A8 s.f8.length c8, .slice A9 s.f9.length c9, .slice qR s.f10.length c10, .slice sM s.f11.length c11]
abbrev aC.RT := List gK × Int × List ByteArray × List gK × Int
def aC.Xa (w0 : World) (br bf : Nat) (l : List nM) (AL : Option Addr) (cL : Nat) (mod : ByteArray) (f : mO → aC.RT → Option (Bool × aC.RT)) : Prop :=
 ∀ (s : mO) (W : World) (m m' : List gK) (fu zT : Int) (tr yT : List ByteArray) (loc loc' : List gK) (res rA : Int) (vm vt vx : Value) (b : Bool) (A8 : Option Addr) (c8 : Nat) (A9 : Option Addr) (c9 : Nat) (qR : Option Addr) (c10 : Nat) (sM : Option Addr) (c11 : Nat),
  aC.ST w0 W br bf l AL cL mod m fu tr loc res vm vt vx → aC.SV w0 s A8 c8 A9 c9 qR c10 sM c11 → f s (m, fu, tr, loc, res) = some (b, m', zT, yT, loc', rA) →
  Calls Try.prog 34 #[.pointer (some ⟨br, 0, none⟩), .pointer (some ⟨bf, 0, none⟩), .agg (aC.Wz s A8 c8 A9 c9 qR c10 sM c11)] W fun e w' => ∃ vQ xC Er, e = .returned (.bool b) ∧ aC.ST w0 w' br bf l AL cL mod m' zT yT loc' rA vQ xC Er ∧ aC.Stp W w' br bf vm vt vx vQ xC Er
end
section
def aC.blk (f : mO → aC.RT → Option (Bool × aC.RT)) (n : Nat) : List mO → aC.RT → Option (Bool × aC.RT)
 | [], st => if n ≤ st.2.2.2.1.length then some (true, st.1, st.2.1, st.2.2.1, st.2.2.2.1.take n, st.2.2.2.2) else none
 | s :: t, st => (f s st).bind fun q => if q.1 = true then aC.blk f n t q.2 else some (false, q.2)
theorem aC.BI {g : Nat} {w W : World} (h : Below w.heap.size w W) (hg : w.heap.size ≤ g) (u0 u1 u2 u3 u4 u5 u6 u7 u8 u9 u10 u11 : Value) :
  Below w.heap.size w ((((((((((((W.setCell ⟨g, 0, none⟩ (u0)).setCell ⟨g, 1, none⟩ (u1)).setCell ⟨g, 2, none⟩ (u2)).setCell ⟨g, 3, none⟩ (u3)).setCell ⟨g, 4, none⟩ (u4)).setCell ⟨g, 5, none⟩ (u5)).setCell ⟨g, 6, none⟩ (u6)).setCell ⟨g, 7, none⟩ (u7)).setCell ⟨g, 8, none⟩ (u8)).setCell ⟨g, 9, none⟩ (u9)).setCell ⟨g, 10, none⟩ (u10)).setCell ⟨g, 11, none⟩ (u11)) :=
 aV (aV (aV (aV (aV (aV (aV (aV (aV (aV (aV (aV h hg) hg) hg) hg) hg) hg) hg) hg) hg) hg) hg) hg
theorem aC.drop_at (l : List mO) (x : Int) (h0 : 0 ≤ x) (h1 : x < (l.length : Int)) : l.drop x.toNat = nD l x :: l.drop (x + 1).toNat := by
 have h : x.toNat < l.length := by omega
 rw [List.drop_eq_getElem_cons h, show (x + 1).toNat = x.toNat + 1 by omega]
 simp [nD, List.getD_eq_getElem?_getD, h]
theorem aC.ST.cut {w0 W : World} {br bf : Nat} {l : List nM} {AL : Option Addr} {cL : Nat} {mod : ByteArray} {m : List gK} {fu : Int} {tr : List ByteArray} {loc : List gK} {res : Int} {vm vt : Value} {A : Option Addr} {N c : Nat} (x : aC.ST w0 W br bf l AL cL mod m fu tr loc res vm vt (.slice A N c)) (n : Nat) (hn : n ≤ loc.length) :
  aC.ST w0 (W.setCell ⟨bf, 1, none⟩ (.slice A n c)) br bf l AL cL mod m fu tr (loc.take n) res vm vt (.slice A n c) :=
 have hb : (Value.slice A N c).ownBlock = (Value.slice A n c).ownBlock := by cases A <;> rfl
 ⟨aV x.hB x.gf, dJ x.hr x.ne _, bD x.hf 1 _ rfl, Kd.qP (by rw [← hb]; exact x.hm) x.hf (by decide) 1 _, Kd.qP x.ht x.hf (by decide) 1 _, Kd.qP (Kd.aK1 x.hx hn) x.hf (by decide) 1 _, x.gr, x.gf⟩
def aC.aIF (w0 : World) (br bf : Nat) (l : List nM) (AL : Option Addr) (cL : Nat) (mod : ByteArray) (f : mO → aC.RT → Option (Bool × aC.RT)) : Prop :=
 ∀ (B : List mO) (AB : Option Addr) (cB : Nat) (W : World) (m m' : List gK) (fu zT : Int) (tr yT : List ByteArray) (loc loc' : List gK) (res rA : Int) (vm vt vx : Value) (b : Bool),
  aC.ST w0 W br bf l AL cL mod m fu tr loc res vm vt vx → Fv.C w0 AB B.length B → aC.blk f loc.length B (m, fu, tr, loc, res) = some (b, m', zT, yT, loc', rA) →
  Calls Try.prog 22 #[.pointer (some ⟨br, 0, none⟩), .pointer (some ⟨bf, 0, none⟩), .slice AB B.length cB] W fun e w' => ∃ vQ xC Er, e = .returned (.bool b) ∧ aC.ST w0 w' br bf l AL cL mod m' zT yT loc' rA vQ xC Er ∧ aC.Stp W w' br bf vm vt vx vQ xC Er
theorem aC.yB (w0 : World) (br bf : Nat) (l : List nM) (AL : Option Addr) (cL : Nat) (mod : ByteArray) (f : mO → aC.RT → Option (Bool × aC.RT)) (hf : aC.Xa w0 br bf l AL cL mod f) : aC.aIF w0 br bf l AL cL mod f := by
 intro B AB cB W m m' fu zT tr yT loc loc' res rA vm vt vx b x hB h
 have aOs := Try.underlying94
 have X0 := za x
 have HB := za hB
 have H := za h
 have HF := za hf
 have hmB := Kd.Pw hB
 obtain ⟨d0, d1, d2, g1, g2⟩ := x.cf
 obtain ⟨Ax, cx, ex⟩ := Kd.bJ x.hx
 subst ex
 have hmx := Kd.Pw (Kd.cZ x.hx).2.2
 obtain ⟨N0, hN0⟩ : ∃ N0, N0 = loc.length := ⟨_, rfl⟩
 have HN := za hN0
 rw [← hN0] at d1 hmx
 clear x hB h hf hN0
 go_enter Try.func22, Try.ntmps22
 go_wp2
 clear d0 d1 d2 g1 g2
 go_loopw [17] (fun i wr => ∃ (x : Int) (m1 : List gK) (fu1 : Int) (tr1 : List ByteArray) (Uh : List gK) (QY : Int) (vm1 vt1 vx1 : Value), i = .int .i64 x ∧ 0 ≤ x ∧ x ≤ (B.length : Int) ∧ aG (aC.blk f N0 (B.drop x.toNat) (m1, fu1, tr1, Uh, QY) = some (b, m', zT, yT, loc', rA)) ∧ aG (aC.ST w0 wr br bf l AL cL mod m1 fu1 tr1 Uh QY vm1 vt1 vx1) ∧ aG (aC.Stp W wr br bf vm vt (.slice Ax loc.length cx) vm1 vt1 vx1)) (fun i _ => B.length - (intOf i).toNat)
 case atStart => exact ⟨0, m, fu, tr, loc, res, vm, vt, _, rfl, by omega, by omega, ⟨by rw [HN.out]; exact H.out⟩, X0, ⟨aC.Stp.refl _ _ _ _ _ _⟩⟩
 case round =>
  obtain ⟨x, m1, fu1, tr1, Uh, QY, vm1, vt1, vx1, rfl, h0, h1, HI, XR, SR⟩ := hrel
  by_cases hlt : x < (B.length : Int)
  ·
   have p0 := eq_true h0
   have p1 := eq_true hlt
   have hI := HI.out
   rw [aC.drop_at B x h0 hlt] at hI
   unfold aC.blk at hI
   obtain ⟨⟨b2, m2, Zb, Xb, Jh, Xc⟩, hs, hJ⟩ := Option.bind_eq_some_iff.mp hI
   dsimp only at hJ
   clear hI
   obtain ⟨ad, A8, c8, A9, c9, qR, c10, sM, c11, ea, hx0, hx1, hx2, hx3, hx4, hx5, hx6, hx7, Yk, hx9, WO, aC6, l8, q8, l9, q9, l10, Q8, l11, RJ⟩ := aLn HB.out x h0 hlt
   cases ea
   generalize hsd : nD B x = s at *
   have Y : aG (aC.SV w0 s A8 c8 A9 c9 qR c10 sM c11) := ⟨⟨l8, q8, l9, q9, l10, Q8, l11, RJ⟩⟩
   have HS := za hs
   have HI2 := za hJ
   clear hs hJ l8 q8 l9 q9 l10 Q8 l11 RJ hsd
   replace hx0 := (XR.out.hB.cell (World.block_lt_of_cell? w0 _ hx0)).trans hx0
   replace hx1 := (XR.out.hB.cell (World.block_lt_of_cell? w0 _ hx1)).trans hx1
   replace hx2 := (XR.out.hB.cell (World.block_lt_of_cell? w0 _ hx2)).trans hx2
   replace hx3 := (XR.out.hB.cell (World.block_lt_of_cell? w0 _ hx3)).trans hx3
   replace hx4 := (XR.out.hB.cell (World.block_lt_of_cell? w0 _ hx4)).trans hx4
   replace hx5 := (XR.out.hB.cell (World.block_lt_of_cell? w0 _ hx5)).trans hx5
   replace hx6 := (XR.out.hB.cell (World.block_lt_of_cell? w0 _ hx6)).trans hx6
   replace hx7 := (XR.out.hB.cell (World.block_lt_of_cell? w0 _ hx7)).trans hx7
   replace Yk := (XR.out.hB.cell (World.block_lt_of_cell? w0 _ Yk)).trans Yk
   replace hx9 := (XR.out.hB.cell (World.block_lt_of_cell? w0 _ hx9)).trans hx9
   replace WO := (XR.out.hB.cell (World.block_lt_of_cell? w0 _ WO)).trans WO
   replace aC6 := (XR.out.hB.cell (World.block_lt_of_cell? w0 _ aC6)).trans aC6
   cases b2 with
   | false =>
    have hI := HI2.out
    rw [if_neg Bool.false_ne_true] at hI
    simp only [Option.some.injEq, Prod.mk.injEq] at hI
    obtain ⟨rfl, rfl, rfl, rfl, rfl, rfl⟩ := hI
    go_wp2_with (first | ((with_reducible refine bO (N := 9) rfl ?_); refine bZ ?hg (N := 9) ?hd (cs := #[.int .i64 0, .int .i64 0, .string (⟨#[]⟩ : ByteArray), .string (⟨#[]⟩ : ByteArray), .string (⟨#[]⟩ : ByteArray), .bool false, .string (⟨#[]⟩ : ByteArray), .string (⟨#[]⟩ : ByteArray), .slice none 0 0, .slice none 0 0, .slice none 0 0, .slice none 0 0]) (t := 94) ?hr ?_; (case hd => rfl); (case hg => rfl); (case hr => exact jA); intro b9 hg9 w9 oF hb9; have jl := za hb9; have G9 := za (Nat.le_of_eq hg9.symm); have k0 := (aA oF 0).trans rfl; have j0 := aD oF 0; have k1 := (aA oF 1).trans rfl; have j1 := aD oF 1; have k2 := (aA oF 2).trans rfl; have j2 := aD oF 2; have k3 := (aA oF 3).trans rfl; have j3 := aD oF 3; have k4 := (aA oF 4).trans rfl; have j4 := aD oF 4; have k5 := (aA oF 5).trans rfl; have j5 := aD oF 5; have k6 := (aA oF 6).trans rfl; have j6 := aD oF 6; have k7 := (aA oF 7).trans rfl; have j7 := aD oF 7; have k8 := (aA oF 8).trans rfl; have j8 := aD oF 8; have k9 := (aA oF 9).trans rfl; have j9 := aD oF 9; have k10 := (aA oF 10).trans rfl; have j10 := aD oF 10; have k11 := (aA oF 11).trans rfl; have j11 := aD oF 11; clear oF hb9 hg9) | (go_at_call 34; refine (HF.out s _ m1 m2 fu1 Zb tr1 Xb Uh Jh QY Xc vm1 vt1 vx1 false A8 c8 A9 c9 qR c10 sM c11 (XR.out.below (aC.BI jl.out G9.out _ _ _ _ _ _ _ _ _ _ _ _)) Y.out HS.out).mono ?_; rintro e w10 ⟨jm, jo, uh, rfl, hx, hs⟩; have X10 := za hx; have S10 := za ((SR.out.below (aC.BI jl.out G9.out _ _ _ _ _ _ _ _ _ _ _ _)).trans hs); clear hx hs hx0 hx1 hx2 hx3 hx4 hx5 hx6 hx7 Yk hx9 WO aC6 k0 j0 k1 j1 k2 j2 k3 j3 k4 j4 k5 j5 k6 j6 k7 j7 k8 j8 k9 j9 k10 j10 k11 j11))
    go_ret
    exact ⟨_, _, _, rfl, X10.out, S10.out⟩
   | true =>
    have hI := HI2.out
    rw [if_pos rfl] at hI
    have HI3 := za hI
    clear hI
    go_wp2_with (first | ((with_reducible refine bO (N := 9) rfl ?_); refine bZ ?hg (N := 9) ?hd (cs := #[.int .i64 0, .int .i64 0, .string (⟨#[]⟩ : ByteArray), .string (⟨#[]⟩ : ByteArray), .string (⟨#[]⟩ : ByteArray), .bool false, .string (⟨#[]⟩ : ByteArray), .string (⟨#[]⟩ : ByteArray), .slice none 0 0, .slice none 0 0, .slice none 0 0, .slice none 0 0]) (t := 94) ?hr ?_; (case hd => rfl); (case hg => rfl); (case hr => exact jA); intro b9 hg9 w9 oF hb9; have jl := za hb9; have G9 := za (Nat.le_of_eq hg9.symm); have k0 := (aA oF 0).trans rfl; have j0 := aD oF 0; have k1 := (aA oF 1).trans rfl; have j1 := aD oF 1; have k2 := (aA oF 2).trans rfl; have j2 := aD oF 2; have k3 := (aA oF 3).trans rfl; have j3 := aD oF 3; have k4 := (aA oF 4).trans rfl; have j4 := aD oF 4; have k5 := (aA oF 5).trans rfl; have j5 := aD oF 5; have k6 := (aA oF 6).trans rfl; have j6 := aD oF 6; have k7 := (aA oF 7).trans rfl; have j7 := aD oF 7; have k8 := (aA oF 8).trans rfl; have j8 := aD oF 8; have k9 := (aA oF 9).trans rfl; have j9 := aD oF 9; have k10 := (aA oF 10).trans rfl; have j10 := aD oF 10; have k11 := (aA oF 11).trans rfl; have j11 := aD oF 11; clear oF hb9 hg9) | (go_at_call 34; refine (HF.out s _ m1 m2 fu1 Zb tr1 Xb Uh Jh QY Xc vm1 vt1 vx1 true A8 c8 A9 c9 qR c10 sM c11 (XR.out.below (aC.BI jl.out G9.out _ _ _ _ _ _ _ _ _ _ _ _)) Y.out HS.out).mono ?_; rintro e w10 ⟨jm, jo, uh, rfl, hx, hs⟩; have X10 := za hx; have S10 := za ((SR.out.below (aC.BI jl.out G9.out _ _ _ _ _ _ _ _ _ _ _ _)).trans hs); clear hx hs hx0 hx1 hx2 hx3 hx4 hx5 hx6 hx7 Yk hx9 WO aC6 k0 j0 k1 j1 k2 j2 k3 j3 k4 j4 k5 j5 k6 j6 k7 j7 k8 j8 k9 j9 k10 j10 k11 j11))
    go_roundw
    case rel => exact ⟨x + 1, m2, Zb, Xb, Jh, Xc, jm, jo, uh, by go_num, by omega, by omega, HI3, X10, S10⟩
    case measure => simp [intOf]; omega
  ·
   have hI := HI.out
   rw [List.drop_eq_nil_of_le (by omega)] at hI
   unfold aC.blk at hI
   dsimp only at hI
   by_cases hn : N0 ≤ Uh.length
   case neg => rw [if_neg hn] at hI; cases hI
   rw [if_pos hn] at hI
   simp only [Option.some.injEq, Prod.mk.injEq] at hI
   obtain ⟨rfl, rfl, rfl, rfl, rfl, rfl⟩ := hI
   obtain ⟨A1, k1, e1⟩ := Kd.bJ XR.out.hx
   subst e1
   have hk1 := (Kd.cZ XR.out.hx).2.1
   have hn1 : (N0 : Int) ≤ (Uh.length : Int) := by omega
   have hn2 : (0 : Int) ≤ (N0 : Int) := by omega
   have hn3 : (N0 : Int) ≤ (k1 : Int) := by omega
   obtain ⟨i0, hi0, _, hsz, _⟩ := info_parts CP
   have hcut := xx (P := Try.prog) 33 51 .i64 Try.underlying33 hi0 A1 Uh.length k1 (N0 : Int) hn2 hn1 hk1
   rw [show ((N0 : Int)).toNat = N0 from by omega] at hcut
   obtain ⟨d0, d1, d2, g1, g2⟩ := XR.out.cf
   have HNN := za hn
   clear hn hi0 hsz
   go_wp2
   go_ret
   exact ⟨rfl, _, _, _, XR.out.cut N0 HNN.out, (SR.out.aXF 1 _).bMd⟩
end
section
open Go.Shelf
attribute [local go_sem] Oper.semAt_some
section
abbrev aC.QZ (zs : List gK) (x : Fin zs.length) : Array Value := aN.encs (aN.back zs x.val)
theorem aC.aXG (F : Fence) (n : Nat) (h80 : F.fn 54) (hro : F.round = none) (hn : 1 ≤ n) (l Bs : Nat) (A : Option Addr) (cap : Nat) (zs : List gK) (w0 : World) (hC : Kd.C pR w0 A zs.length zs) (hlen : zs.length ≤ 140737488355328) (J Jx : List (Fin zs.length) → World → Prop)
  (hY : ∀ pre x W, J pre W → pre.length < zs.length → YieldAt F (n - 1) Try.prog l (aC.QZ zs x) W fun e W' =>
   (e = .returned (.bool true) ∧ J (pre ++ [x]) W' ∧ Below w0.heap.size W W') ∨ (e = .returned (.bool false) ∧ Jx (pre ++ [x]) W'))
  (W : World) (hB0 : Below w0.heap.size w0 W) (aC3 : Bs < w0.heap.size) (hBs : w0.cell? ⟨Bs, 0, none⟩ = some (.slice A zs.length cap)) (h0 : J [] W) :
  CallsIn F n Try.prog 54 #[.func (.yield l) #[] #[], .pointer (some ⟨Bs, 0, none⟩)] W fun e W' => (∃ v, e = .returned v) ∧
   ((∃ ys, ys.map (·.val) = List.range zs.length ∧ J ys W') ∨ (∃ pre, (∃ k, pre.map (·.val) = List.range (k + 1)) ∧ Jx pre W')) := by
 have HC := za hC
 have HBs := za hBs
 have hb1 := (hB0.cell (p := ⟨Bs, 0, none⟩) aC3).trans hBs
 have HB0 := za hB0
 clear hC hBs hB0
 refine callsIn_of_wp Try.func54 rfl h80 ?_ hro
 simp only [Try.ntmps54, List.size_toArray, List.length_cons, List.length_nil, Nat.reduceAdd, Nat.reduceSub, Array.replicate_succ, Array.replicate_zero, List.push_toArray, List.append_toArray, List.nil_append, List.cons_append]
 gi_wp2
 clear hb1
 gi_loopw [3] (fun i wr => ∃ (k : Nat) (x : Int) (pre : List (Fin zs.length)), aG (x = (zs.length : Int) - 1 - (k : Int)) ∧ -1 ≤ x ∧ x < (zs.length : Int) ∧ k ≤ zs.length ∧ i = .int .i64 x ∧ pre.map (·.val) = List.range k ∧ J pre wr ∧ aG (Below w0.heap.size w0 wr))
  (fun i _ => (intOf i + 1).toNat)
 case atStart => exact ⟨0, _, [], ⟨by simp⟩, by omega, by omega, Nat.zero_le _, rfl, rfl, h0, HB0⟩
 case round =>
  obtain ⟨k, x, pre, HX, hx0, hx1, hk, rfl, hpl, hJs, HB⟩ := hrel
  have hbr := (HB.out.cell (p := ⟨Bs, 0, none⟩) aC3).trans HBs.out
  by_cases hlt : 0 ≤ x
  ·
   have hkl : k < zs.length := by have := HX.out; omega
   obtain ⟨ad, ea, e0, e1, e2⟩ := uW HC.out x hlt hx1
   cases ea
   replace e0 := (HB.out.cell (World.block_lt_of_cell? w0 _ e0)).trans e0
   replace e1 := (HB.out.cell (World.block_lt_of_cell? w0 _ e1)).trans e1
   replace e2 := (HB.out.cell (World.block_lt_of_cell? w0 _ e2)).trans e2
   have hpn : pre.length = k := by have h := congrArg List.length hpl; simpa using h
   have hY1 := hY pre ⟨k, hkl⟩ wr hJs (by omega)
   have hbk : aC.QZ zs ⟨k, hkl⟩ = aN.encs (x, aZ zs x) := by unfold aC.QZ aN.back; rw [← HX.out]
   rw [hbk] at hY1
   obtain ⟨fn, tmps, assign, aC.body, hy, hR⟩ := hY1
   have p0 := eq_true hlt
   have p1 := eq_true hx1
   have HPL := za hpl
   have HPX : aG ((pre ++ [(⟨k, hkl⟩ : Fin zs.length)]).map (·.val) = List.range (k + 1)) := ⟨by rw [List.map_append, hpl, List.range_succ]; rfl⟩
   clear hpl hpn hbk
   gi_wp2
   refine hR.mono ?_
   rintro e W3 (⟨rfl, hJ3, hk3⟩ | ⟨rfl, hJx3⟩)
   ·
    gi_wp2
    go_roundw
    case rel => exact ⟨k + 1, x - 1, _, ⟨by have := HX.out; omega⟩, by omega, by omega, hkl, by go_num, HPX.out, hJ3, ⟨HB.out.trans hk3⟩⟩
    case measure => simp [intOf]; omega
   ·
    gi_wp2
    refine bodyPost_ret (results_none rfl _ _ _) rfl ?_
    exact ⟨⟨_, rfl⟩, .inr ⟨_, ⟨k, HPX.out⟩, hJx3⟩⟩
  ·
   gi_wp2
   go_end0
   have hkn : k = zs.length := by have := HX.out; omega
   subst hkn
   exact ⟨⟨_, rfl⟩, .inl ⟨_, hpl, hJs⟩⟩
theorem aC.WQ (F : Fence) (n : Nat) (h80 : F.fn 54) (hro : F.round = none) (hn : 1 ≤ n) (Bs : Nat) (A : Option Addr) (cap : Nat) (zs : List gK) (hlen : zs.length ≤ 140737488355328) (w : World) (hBs : Bs < w.heap.size) (hc : w.cell? ⟨Bs, 0, none⟩ = some (.slice A zs.length cap)) (hC : Kd.C pR w A zs.length zs) :
  SeqStopsK F n Try.prog 54 #[.pointer (some ⟨Bs, 0, none⟩)] (aC.QZ zs) (Below w.heap.size) (fun ys => ys.map (·.val) = List.range zs.length) (fun pre => ∃ k, pre.map (·.val) = List.range (k + 1)) zs.length w := fun l J Jx W hW _ _ hY h0 =>
 aC.aXG F n h80 hro hn l Bs A cap zs w hC hlen J Jx hY W hW hBs hc h0
end
end
section
open Go.Shelf
attribute [local go_sem] Oper.semAt_some
section
theorem aC.ST.own {w0 W W' : World} {br bf : Nat} {l : List nM} {AL : Option Addr} {cL : Nat} {mod : ByteArray} {m : List gK} {fu : Int} {tr : List ByteArray} {loc : List gK} {res : Int} {vm vt vx : Value} {row : Option Nat} (x : aC.ST w0 W br bf l AL cL mod m fu tr loc res vm vt vx) (hg : W.grownBy W' row) (hr : ∀ r, row = some r → w0.heap.size ≤ r ∧ ∃ o : Obj, W.heap[r]? = some o ∧ o.isCells = false) : aC.ST w0 W' br bf l AL cL mod m fu tr loc res vm vt vx :=
 have hn : ∀ {g : Nat} {t : TypeId} {cs : Array Value} {p : Nat × Nat}, W.heap[g]? = some (.cells cs t p) → some g ≠ row := fun h e => by obtain ⟨_, o, ho, hc⟩ := hr _ e.symm; rw [h] at ho; injection ho with ho; rw [← ho] at hc; cases hc
 ⟨vR x.hB _ x.sz hg (fun k e => (hr k e).1), eD x.hr hg (hn x.hr), eD x.hf hg (hn x.hf),
  Kd.aQ (Kd.Ca (Kd.jO x.hm) hg (fun k hk => by obtain ⟨_, _, _, q, _, cs, hc⟩ := hk; exact hn hc)) (fun _ hk => hk.1),
  Kd.aQ (Kd.Ca (Kd.jO x.ht) hg (fun k hk => by obtain ⟨_, _, _, q, _, cs, hc⟩ := hk; exact hn hc)) (fun _ hk => hk.1),
  Kd.aQ (Kd.Ca (Kd.jO x.hx) hg (fun k hk => by obtain ⟨_, _, _, q, _, cs, hc⟩ := hk; exact hn hc)) (fun _ hk => hk.1), x.gr, x.gf⟩
theorem aC.Stp.own {W W' W2 : World} {br bf : Nat} {vm vt vx vQ xC Er : Value} {row : Option Nat} (h : aC.Stp W W' br bf vm vt vx vQ xC Er) (hg : W'.grownBy W2 row) (hr : ∀ r, row = some r → W.heap.size ≤ r) : aC.Stp W W2 br bf vm vt vx vQ xC Er :=
 ⟨Kept.mV hg h.k (fun k e => .inr (hr k e)), h.m, h.t, h.x⟩
theorem aC.Ns {F : Fence} {n : Nat} {P : Program} {md : Region.Mode} {ops : Array Oper} {Q : Exit → Act → World → Prop} (l : Nat) (hnd : (ops.toList.all fun o => match o.op with | .defer _ => false | _ => true) = true) : ∀ (fuel : Nat) (listed : Array Bool) (a : Act) (w : World), F.round = none → wpAnyIn F n P md ops Q fuel listed a w → wpAnyIn (F.inRound l) n P md ops Q fuel listed a w
 | 0, _, _, _, _, h => h
 | fuel + 1, listed, a, w, hro, h => ⟨h.1, fun i hi => by
  have h2 := wpOpIn_mono (fun a w h => aC.Ns l hnd fuel _ a w hro h) (h.2 i hi)
  unfold wpOpIn at h2 ⊢
  cases ho : ops[i]? with
  | none => rw [ho] at h2; exact h2
  | some o =>
   rw [ho] at h2
   dsimp only at h2 ⊢
   have hd : ∀ c, o.op ≠ .defer c := fun c e => by
    have hm : o ∈ ops.toList := by
     obtain ⟨hlt, he⟩ := Array.getElem?_eq_some_iff.1 ho
     rw [← he]; simp
    have h3 := List.all_eq_true.1 hnd o hm
    rw [e] at h3
    cases h3
   by_cases hw : Region.wanted o (yielded ops a.tmps) = true
   ·
    rw [if_pos hw] at h2 ⊢
    refine ⟨h2.1, ?_⟩
    have h4 := h2.2
    rw [Oper.semAt_eq _ _ _ hd] at h4 ⊢
    generalize (execOp a.eval o).run P w = r at h4 ⊢
    cases r with
    | ok x w' => cases x <;> exact h4
    | halt x w' => cases x <;> exact h4
   ·
    rw [if_neg hw] at h2 ⊢
    exact h2⟩
def aC.aIG (loc : List gK) (i : Int) (v : Int) : List gK := loc.set i.toNat ⟨(aZ loc i).f0, (aZ loc i).f1, v⟩
def aC.zU (name : ByteArray) (loc : List gK) (v : Int) : Nat → Option (List gK)
 | 0 => none
 | n + 1 => if (aZ loc (n : Int)).f1.toList = name.toList then some (aC.aIG loc (n : Int) v) else aC.zU name loc v n
theorem aC.Ui {name : ByteArray} {loc Jh : List gK} {v : Int} : ∀ {n : Nat}, aC.zU name loc v n = some Jh → ∃ j : Nat, j < n ∧ (aZ loc (j : Int)).f1.toList = name.toList ∧ Jh = aC.aIG loc (j : Int) v ∧ ∀ i : Nat, j < i → i < n → ¬ (aZ loc (i : Int)).f1.toList = name.toList
 | 0, h => by cases h
 | n + 1, h => by
  unfold aC.zU at h
  by_cases e : (aZ loc (n : Int)).f1.toList = name.toList
  ·
   rw [if_pos e] at h
   injection h with h
   exact ⟨n, by omega, e, h.symm, fun i h1 h2 => by omega⟩
  ·
   rw [if_neg e] at h
   obtain ⟨j, h1, h2, h3, h4⟩ := aC.Ui h
   exact ⟨j, by omega, h2, h3, fun i g1 g2 => by
    by_cases hi : i = n
    ·
     rw [hi]; exact e
    ·
     exact h4 i g1 (by omega)⟩
theorem aC.ST.loc {w0 W : World} {br bf : Nat} {l : List nM} {AL : Option Addr} {cL : Nat} {mod : ByteArray} {m : List gK} {fu : Int} {tr : List ByteArray} {loc : List gK} {res : Int} {vm vt : Value} {A : Option Addr} {N c : Nat} (x : aC.ST w0 W br bf l AL cL mod m fu tr loc res vm vt (.slice A N c)) (i : Int) (h0 : 0 ≤ i) (h1 : i < (loc.length : Int)) (v : Int) :
  ∃ ad, A = some ad ∧ W.cell? ⟨(ad.add (i.toNat * 3)).block, (ad.add (i.toNat * 3)).off + 2, none⟩ = some (.int .i64 (aZ loc i).f2) ∧ W.frozen? ⟨(ad.add (i.toNat * 3)).block, (ad.add (i.toNat * 3)).off + 2, none⟩ = false ∧
   aC.ST w0 (W.setCell ⟨(ad.add (i.toNat * 3)).block, (ad.add (i.toNat * 3)).off + 2, none⟩ (.int .i64 v)) br bf l AL cL mod m fu tr (aC.aIG loc i v) res vm vt (.slice A N c) ∧ aC.Stp W (W.setCell ⟨(ad.add (i.toNat * 3)).block, (ad.add (i.toNat * 3)).off + 2, none⟩ (.int .i64 v)) br bf vm vt (.slice A N c) vm vt (.slice A N c) := by
 obtain ⟨hn, hnc, hC⟩ := Kd.cZ x.hx
 obtain ⟨g, cap, ev, hbg, hgl, cells, hcs⟩ := Kd.Vt x.hx (by omega)
 injection ev with eA eN ec
 subst eA
 obtain ⟨ad, ea, e0, e1, e2⟩ := uW hC i h0 (by omega)
 injection ea with ea
 subst ea
 have ep : (⟨((⟨g, 0, none⟩ : Addr).add (i.toNat * 3)).block, ((⟨g, 0, none⟩ : Addr).add (i.toNat * 3)).off + 2, none⟩ : Addr) = ⟨g, i.toNat * 3 + 2, none⟩ := by
  unfold Addr.add
  by_cases hi : i.toNat * 3 = 0 <;> simp [hi]
 have ep0 : ((⟨g, 0, none⟩ : Addr).add (i.toNat * 3)) = ⟨g, i.toNat * 3, none⟩ := by
  unfold Addr.add
  by_cases hi : i.toNat * 3 = 0 <;> simp [hi]
 rw [ep0] at e0 e1 e2
 dsimp only at e0 e1 e2
 obtain ⟨hR, hg⟩ := Kd.P5 (Gz := [.int .i64 v]) (j := 2) (x' := ⟨(aZ loc i).f0, (aZ loc i).f1, v⟩) (yO := fun _ => False) x.hx i h0 (by omega) (c := [.string (aZ loc i).f0, .string (aZ loc i).f1, .int .i64 (aZ loc i).f2]) rfl (fun j u hj => by
   match j, hj with
   | 0, hj => injection hj with hj; rw [← hj]; exact e0
   | 1, hj => injection hj with hj; rw [← hj]; exact e1
   | 2, hj => injection hj with hj; rw [← hj]; exact e2
   | j + 3, hj => simp at hj) (Nat.le_refl 3) (Fw _ _ _ (⟨(aZ loc i).f0, (aZ loc i).f1, v⟩ : gK)) (fun _ hk => hk.elim)
 change pR.R 51 (W.setCell ⟨g, i.toNat * 3 + 2, none⟩ (.int .i64 v)) _ _ _ _ at hR
 change W.grownBy (W.setCell ⟨g, i.toNat * 3 + 2, none⟩ (.int .i64 v)) (some g) at hg
 refine ⟨_, rfl, ?_, ?_, ?_, ?_⟩
 ·
  rw [ep]; exact e2
 ·
  rw [ep]; exact aD hcs _
 ·
  rw [ep]
  exact ⟨aV x.hB hbg, eD x.hr hg (Kd.nA x.hx x.hr (by decide)), eD x.hf hg (Kd.nA x.hx x.hf (by decide)), Kd.aQ (Kd.Ca (Kd.jO x.hm) hg (fun _ hk => hk.1)) (fun _ hk => hk.1), Kd.Nz x.ht x.hx (by decide) hg, hR, x.gr, x.gf⟩
 ·
  rw [ep]
  exact ⟨(Kept.refl _ _).setCell (.inl (.inr (.inr (.inr rfl)))) _, fun _ h => .inl h, fun _ h => .inl h, fun _ h => .inl h⟩
end
end
section
open Go.Shelf
attribute [local go_sem] Oper.semAt_some
section
theorem aC.ui {w0 w : World} {br bf : Nat} {l : List nM} {AL : Option Addr} {cL : Nat} {fm mod name : ByteArray} {v : Int} {m : List gK} {fu : Int} {tr : List ByteArray} {loc loc' : List gK} {res : Int} {vm vt vx : Value}
  (x : aC.ST w0 w br bf l AL cL fm m fu tr loc res vm vt vx) (hm : mod.toList = ([] : List UInt8)) (hl : loc.length ≤ 140737488355328) (h : aC.zU name loc v loc.length = some loc') :
  Calls Try.prog 40 #[.pointer (some ⟨br, 0, none⟩), .pointer (some ⟨bf, 0, none⟩), .string mod, .string name, .int .i64 v] w fun e w' => ∃ e0, e = .returned e0 ∧ aC.ST w0 w' br bf l AL cL fm m fu tr loc' res vm vt vx ∧ aC.Stp w w' br bf vm vt vx vm vt vx := by
 have X0 := za x
 obtain ⟨Ax, cx, ex⟩ := Kd.bJ x.hx
 subst ex
 have HX := za (Kd.cZ x.hx).2.2
 obtain ⟨d0, d1, d2, g1, g2⟩ := x.cf
 clear x
 refine (callsIn_wide (n := 3)).1 ?_
 have hB3 : Below w.heap.size w (((w.alloc (.cells #[.pointer (some ⟨bf, 0, none⟩)] 72)).alloc (.cells #[.string name] 9)).alloc (.cells #[.int .i64 v] 3)) := (((Below.refl _ w).alloc (Nat.le_refl _) _).alloc (by simp) _).alloc (by simp; omega) _
 have e1 := bR hB3 d1
 have HB3 := za hB3
 clear hB3
 have hF : Fence.wide.fn 40 := trivial
 have h52 : Fence.wide.fn 46 := trivial
 have h80 : Fence.wide.fn 54 := trivial
 have hro : Fence.wide.round = none := rfl
 have h1 : 1 ≤ 3 := by omega
 refine callsIn_of_wp_marks Try.func40 rfl hF ?_ hro
 simp only [Try.ntmps40, List.size_toArray, List.length_cons, List.length_nil, Nat.reduceAdd, Nat.reduceSub, Array.replicate_succ, Array.replicate_zero, List.push_toArray, List.append_toArray, List.nil_append, List.cons_append]
 ·
  have hmb : mod.toList.isEmpty = true := by rw [hm]; rfl
  have H := za (aC.Ui h)
  have HL := za hl
  clear h hm hl
  gi_wp2_with (gi_at_call 46; refine (aN.QT Fence.wide 2 h52 hro _ _ _ _).mono ?_; rintro e w' ⟨rfl, rfl⟩)
  have hB0 : Below w.heap.size w ((((w.alloc (.cells #[.pointer (some ⟨bf, 0, none⟩)] 72)).alloc (.cells #[.string name] 9)).alloc (.cells #[.int .i64 v] 3)).alloc (.cells #[.slice Ax loc.length cx] 33)) := HB3.out.alloc (by simp; omega) _
  have hsz : ((((w.alloc (.cells #[.pointer (some ⟨bf, 0, none⟩)] 72)).alloc (.cells #[.string name] 9)).alloc (.cells #[.int .i64 v] 3)).alloc (.cells #[.slice Ax loc.length cx] 33)).heap.size = w.heap.size + 4 := by simp
  have q6 : ((((w.alloc (.cells #[.pointer (some ⟨bf, 0, none⟩)] 72)).alloc (.cells #[.string name] 9)).alloc (.cells #[.int .i64 v] 3)).alloc (.cells #[.slice Ax loc.length cx] 33)).cell? ⟨w.heap.size, 0, none⟩ = some (.pointer (some ⟨bf, 0, none⟩)) := (aA (bX (bX (bX (pJ w (.cells #[.pointer (some ⟨bf, 0, none⟩)] 72)) _) _) _) 0).trans rfl
  have q8 : ((((w.alloc (.cells #[.pointer (some ⟨bf, 0, none⟩)] 72)).alloc (.cells #[.string name] 9)).alloc (.cells #[.int .i64 v] 3)).alloc (.cells #[.slice Ax loc.length cx] 33)).cell? ⟨w.heap.size + 1, 0, none⟩ = some (.string name) := (aA (bX (bX (by have := pJ (w.alloc (.cells #[.pointer (some ⟨bf, 0, none⟩)] 72)) (.cells #[.string name] 9); simpa using this) _) _) 0).trans rfl
  have q9 : ((((w.alloc (.cells #[.pointer (some ⟨bf, 0, none⟩)] 72)).alloc (.cells #[.string name] 9)).alloc (.cells #[.int .i64 v] 3)).alloc (.cells #[.slice Ax loc.length cx] 33)).cell? ⟨w.heap.size + 1 + 1, 0, none⟩ = some (.int .i64 v) := (aA (bX (by have := pJ ((w.alloc (.cells #[.pointer (some ⟨bf, 0, none⟩)] 72)).alloc (.cells #[.string name] 9)) (.cells #[.int .i64 v] 3); simpa using this) _) 0).trans rfl
  have b3 : Boxed ((((w.alloc (.cells #[.pointer (some ⟨bf, 0, none⟩)] 72)).alloc (.cells #[.string name] 9)).alloc (.cells #[.int .i64 v] 3)).alloc (.cells #[.slice Ax loc.length cx] 33)) (w.heap.size + 1 + 1 + 1) 33 (.slice Ax loc.length cx) := by
   have := Boxed.new (((w.alloc (.cells #[.pointer (some ⟨bf, 0, none⟩)] 72)).alloc (.cells #[.string name] 9)).alloc (.cells #[.int .i64 v] 3)) 33 (.slice Ax loc.length cx)
   simpa only [World.size_alloc] using this
  obtain ⟨W0, hW0⟩ : ∃ W0, (((w.alloc (.cells #[.pointer (some ⟨bf, 0, none⟩)] 72)).alloc (.cells #[.string name] 9)).alloc (.cells #[.int .i64 v] 3)).alloc (.cells #[.slice Ax loc.length cx] 33) = W0 := ⟨_, rfl⟩
  rw [hW0] at hB0 hsz q6 q8 q9 b3 ⊢
  clear hW0 e1 d0 d1 d2 g1 g2
  refine wpIn_rangeFunc_ownH hro h1 (gf := 54) (lb := #[.pointer (some ⟨w.heap.size + 1 + 1 + 1, 0, none⟩)]) rfl h80 (enters_of Try.func54 dU rfl)
   (aC.WQ Fence.wide (3 - 1) h80 hro (by omega) (w.heap.size + 1 + 1 + 1) Ax cx loc HL.out W0 (by omega) b3.cell (Kd.dG HX.out hB0)) belowK_t (belowK_b (Nat.le_refl _)) (Below.refl _ _) (fun _ => rfl)
   (fun pre W => (aG (∀ y ∈ pre, ¬ (aN.back loc y.val).2.f1.toList = name.toList) ∧ W.cell? ⟨w.heap.size, 0, none⟩ = some (.pointer (some ⟨bf, 0, none⟩)) ∧ W.cell? ⟨w.heap.size + 1, 0, none⟩ = some (.string name) ∧ W.cell? ⟨w.heap.size + 1 + 1, 0, none⟩ = some (.int .i64 v) ∧ W0.heap.size ≤ W.heap.size) ∧ Below w.heap.size w W)
   (fun c pre W => c = .ret ∧ ∃ vv x, pre = vv ++ [x] ∧ (∀ y ∈ vv, ¬ (aN.back loc y.val).2.f1.toList = name.toList) ∧ (aN.back loc x.val).2.f1.toList = name.toList ∧ aC.ST w0 W br bf l AL cL fm m fu tr (aC.aIG loc (aN.back loc x.val).1 v) res vm vt (.slice Ax loc.length cx) ∧ aC.Stp w W br bf vm vt (.slice Ax loc.length cx) vm vt (.slice Ax loc.length cx))
   (OwnFrom.and (Own.from (fun s A B row hs hg hr => ⟨hs.1, cell_kept hs.2.1 hg hr, cell_kept hs.2.2.1 hg hr, cell_kept hs.2.2.2.1 hg hr, Nat.le_trans hs.2.2.2.2 hg.size⟩) _) (ownFrom_below (Nat.le_refl _) (by omega)))
   (fun c s A B row hs hg hr => by obtain ⟨hc, vv, x, e1, e2, e3, e4, e5⟩ := hs; exact ⟨hc, vv, x, e1, e2, e3, e4.own hg (fun r e => ⟨Nat.le_trans X0.out.sz (by have := (hr r e).1; omega), (hr r e).2⟩), e5.own hg (fun r e => by have := (hr r e).1; omega)⟩)
   ⟨⟨⟨fun _ h => by cases h⟩, q6, q8, q9, Nat.le_refl _⟩, hB0⟩
   (fun x a' W => ∃ Bx, w.heap.size + 2 < Bx ∧ (W.cell? ⟨Bx, 1, none⟩ = some (.string (aN.back loc x.val).2.f1)) ∧ a' = { tmps := #[.pointer (some ⟨br, 0, none⟩), .pointer (some ⟨bf, 0, none⟩), .string mod, .string name, .int .i64 v, undef, .pointer (some ⟨w.heap.size, 0, none⟩), undef, .pointer (some ⟨w.heap.size + 1, 0, none⟩), .pointer (some ⟨w.heap.size + 1 + 1, 0, none⟩), .int .i64 (aN.back loc x.val).1, .pointer (some ⟨Bx, 0, none⟩), .string mod, .bool true, .pointer (some ⟨bf, 0, none⟩), .pointer (some ⟨bf, 0, none⟩), .pointer (some ⟨bf, 1, none⟩), .slice Ax loc.length cx, .func (.func 54) #[] #[.pointer (some ⟨w.heap.size + 1 + 1 + 1, 0, none⟩)], .int .i64 (aN.back loc x.val).1, .agg #[.string (aN.back loc x.val).2.f0, .string (aN.back loc x.val).2.f1, .int .i64 (aN.back loc x.val).2.f2], undef, undef, undef, undef, undef, undef, undef, undef, undef, undef, undef, undef, undef, undef, undef, undef, undef, undef, undef, undef, undef, undef, undef, undef, undef, undef, undef, undef, undef, undef], defers := [] })
   (fun x a' _ X Y row hs hg hr => by obtain ⟨Bx, h1, h2, h4⟩ := hs; exact ⟨Bx, h1, cell_kept h2 hg (fun r e => (hr r e).2), h4⟩)
   ?assign ?aC.body ?done ?stop
  case assign =>
   rintro l pre x W K ⟨⟨hN, hq6, hq8, hq9, WJ⟩, hB1⟩ hK
   gi_wp2
   have hp := aN.Wy W (aN.back loc x.val).2
   have hc := aN.QU W (aN.back loc x.val).2
   exact hK _ (aN.put W (aN.back loc x.val).2) ((aN.Wx W _).from _) (hp.mono WJ) ⟨⟨hN, bR hp hq6, bR hp hq8, bR hp hq9, Nat.le_trans WJ hp.size⟩, aM hB1 hp⟩ ⟨W.heap.size, by omega, (aA hc 1).trans rfl, rfl⟩
  case aC.body =>
   rintro l pre x a' W hl ⟨r, hr⟩ ⟨⟨hN, hq6, hq8, hq9, WJ⟩, hB1⟩ ⟨Bx, hBx, g1, rfl⟩ hlt
   have HN := za hN.out
   have HB1 := za hB1
   clear hB1 hN
   by_cases hx : (aN.back loc x.val).2.f1.toList = name.toList
   ·
    have hxb : ((aN.back loc x.val).2.f1.toList == name.toList) = true := beq_iff_eq.mpr hx
    have HXX := za hx
    clear hx
    have XB := X0.out.below HB1.out
    have hq1 : W.cell? ⟨bf, 1, none⟩ = some (.slice Ax loc.length cx) := (aA XB.hf 1).trans rfl
    have i0 : 0 ≤ (aN.back loc x.val).1 := by have := x.isLt; show 0 ≤ (loc.length : Int) - 1 - (x.val : Int); omega
    have i1 : (aN.back loc x.val).1 < (loc.length : Int) := by have := x.isLt; show (loc.length : Int) - 1 - (x.val : Int) < _; omega
    obtain ⟨ad, ea, ec, ef, eST, eSt⟩ := XB.loc _ i0 i1 v
    cases ea
    have EST := za (eST.below (gN (Below.refl _ _)))
    have ESt := za (((aC.Stp.of_below HB1.out).trans eSt).below (gN (Below.refl _ _)))
    have p0 := eq_true i0
    have p1 := eq_true i1
    clear eST eSt XB
    gi_wp2
    refine wpIn_region_any dU (aC.Ns _ dU _ _ _ _ rfl ?_)
    change wpAnyIn _ _ _ _ _ _ 9 #[false, false, false, false, false, false, false, false, false] _ (W.drew)
    have bQN : W.drew.cell? ⟨w.heap.size, 0, none⟩ = some (.pointer (some ⟨bf, 0, none⟩)) := hq6
    have bQO : W.drew.cell? ⟨w.heap.size + 1 + 1, 0, none⟩ = some (.int .i64 v) := hq9
    have bQP : W.drew.cell? ⟨bf, 1, none⟩ = some (.slice (some ad) loc.length cx) := hq1
    change W.drew.cell? _ = _ at ec
    change W.drew.frozen? _ = _ at ef
    refine wpAnyIn_take (i := 4) (v := .int .i64 (aN.back loc x.val).1) rfl rfl dU dU dU (fun _ _ _ h => h) ⟨.inl ⟨rfl, fun _ => rfl⟩, fun _ => rfl⟩ ?_
    simp only [Act.put, List.setIfInBounds_toArray, List.set_cons_zero, List.set_cons_succ]
    refine wpAnyIn_ready (rs := [0, 5]) dU (by simp) (AllReadyIn.cons rfl (fun K hK => ?_) (AllReadyIn.cons rfl (fun K hK => ?_) AllReadyIn.nil))
    ·
     go_simp
     refine hK _ _ ?_
     clear hK K
     refine wpAnyIn_take (i := 1) (v := .pointer (some ⟨bf, 0, none⟩)) rfl rfl dU dU dU (fun _ _ _ h => h) ⟨.inl ⟨rfl, fun _ => rfl⟩, fun _ => rfl⟩ ?_; simp only [Act.put, List.setIfInBounds_toArray, List.set_cons_zero, List.set_cons_succ]
     refine wpAnyIn_take (i := 2) (v := .pointer (some ⟨bf, 1, none⟩)) rfl rfl dU dU dU (fun _ _ _ h => h) ⟨.inl ⟨rfl, fun _ => rfl⟩, fun _ => rfl⟩ ?_; simp only [Act.put, List.setIfInBounds_toArray, List.set_cons_zero, List.set_cons_succ]
     refine wpAnyIn_ready (rs := [3, 5]) dU (by simp) (AllReadyIn.cons rfl (fun K hK => ?_) (AllReadyIn.cons rfl (fun K hK => ?_) AllReadyIn.nil))
     ·
      go_simp
      refine hK _ _ ?_
      clear hK K
      refine wpAnyIn_ready (rs := [5]) dU (by simp) (AllReadyIn.cons rfl (fun K hK => ?_) AllReadyIn.nil); go_simp; refine hK _ _ ?_; clear hK K
      refine wpAnyIn_ready (rs := [6]) dU (by simp) (AllReadyIn.cons rfl (fun K hK => ?_) AllReadyIn.nil); go_simp; refine hK _ _ ?_; clear hK K
      refine wpAnyIn_ready (rs := [7]) dU (by simp) (AllReadyIn.cons rfl (fun K hK => ?_) AllReadyIn.nil); go_simp; refine hK _ _ ?_; clear hK K
      refine wpAnyIn_ready (rs := [8]) dU (by simp) (AllReadyIn.cons rfl (fun K hK => ?_) AllReadyIn.nil); go_simp; refine hK _ _ ?_; clear hK K
      refine wpAnyIn_done dU ?_ 0
      gi_wp2
      exact ⟨⟨(KeepsOthers.setCell W _ _).size, fun k o _ hk ho => (KeepsOthers.setCell W _ _).same k o hk ho⟩, rfl, pre, x, rfl, HN.out, HXX.out, EST.out, ESt.out⟩
     ·
      go_simp
      refine hK _ _ ?_
      clear hK K
      refine wpAnyIn_ready (rs := [3]) dU (by simp) (AllReadyIn.cons rfl (fun K hK => ?_) AllReadyIn.nil); go_simp; refine hK _ _ ?_; clear hK K
      refine wpAnyIn_ready (rs := [6]) dU (by simp) (AllReadyIn.cons rfl (fun K hK => ?_) AllReadyIn.nil); go_simp; refine hK _ _ ?_; clear hK K
      refine wpAnyIn_ready (rs := [7]) dU (by simp) (AllReadyIn.cons rfl (fun K hK => ?_) AllReadyIn.nil); go_simp; refine hK _ _ ?_; clear hK K
      refine wpAnyIn_ready (rs := [8]) dU (by simp) (AllReadyIn.cons rfl (fun K hK => ?_) AllReadyIn.nil); go_simp; refine hK _ _ ?_; clear hK K
      refine wpAnyIn_done dU ?_ 0
      gi_wp2
      exact ⟨⟨(KeepsOthers.setCell W _ _).size, fun k o _ hk ho => (KeepsOthers.setCell W _ _).same k o hk ho⟩, rfl, pre, x, rfl, HN.out, HXX.out, EST.out, ESt.out⟩
    ·
     go_simp
     refine hK _ _ ?_
     clear hK K
     refine wpAnyIn_ready (rs := [0]) dU (by simp) (AllReadyIn.cons rfl (fun K hK => ?_) AllReadyIn.nil); go_simp; refine hK _ _ ?_; clear hK K
     refine wpAnyIn_ready (rs := [1]) dU (by simp) (AllReadyIn.cons rfl (fun K hK => ?_) AllReadyIn.nil); go_simp; refine hK _ _ ?_; clear hK K
     refine wpAnyIn_ready (rs := [2]) dU (by simp) (AllReadyIn.cons rfl (fun K hK => ?_) AllReadyIn.nil); go_simp; refine hK _ _ ?_; clear hK K
     refine wpAnyIn_ready (rs := [3]) dU (by simp) (AllReadyIn.cons rfl (fun K hK => ?_) AllReadyIn.nil); go_simp; refine hK _ _ ?_; clear hK K
     refine wpAnyIn_ready (rs := [6]) dU (by simp) (AllReadyIn.cons rfl (fun K hK => ?_) AllReadyIn.nil); go_simp; refine hK _ _ ?_; clear hK K
     refine wpAnyIn_ready (rs := [7]) dU (by simp) (AllReadyIn.cons rfl (fun K hK => ?_) AllReadyIn.nil); go_simp; refine hK _ _ ?_; clear hK K
     refine wpAnyIn_ready (rs := [8]) dU (by simp) (AllReadyIn.cons rfl (fun K hK => ?_) AllReadyIn.nil); go_simp; refine hK _ _ ?_; clear hK K
     refine wpAnyIn_done dU ?_ 0
     gi_wp2
     exact ⟨⟨(KeepsOthers.setCell W _ _).size, fun k o _ hk ho => (KeepsOthers.setCell W _ _).same k o hk ho⟩, rfl, pre, x, rfl, HN.out, HXX.out, EST.out, ESt.out⟩
   ·
    have hxb : ((aN.back loc x.val).2.f1.toList == name.toList) = false := beq_eq_false_iff_ne.mpr hx
    have HXX := za hx
    clear hx
    gi_wp2
    exact ⟨KeepsFrom.refl _ _, Below.refl _ _, ⟨⟨fun y hy => by rcases List.mem_append.1 hy with h | h; exact HN.out y h; rw [List.mem_singleton.1 h]; exact HXX.out⟩, hq6, hq8, hq9, WJ⟩, HB1.out⟩
  case done =>
   rintro D ys W hD hys ⟨⟨hN, hq6, hq8, hq9, WJ⟩, hB1⟩ hK
   obtain ⟨j, j1, j2, _, _⟩ := H.out
   have hm : loc.length - 1 - j ∈ ys.map (·.val) := by rw [hys]; exact List.mem_range.2 (by omega)
   obtain ⟨y, hy, hyv⟩ := List.mem_map.1 hm
   refine absurd j2 ?_
   have h1 := hN.out y hy
   unfold aN.back at h1
   dsimp only at h1 hyv
   rw [hyv, show ((loc.length : Int) - 1 - ((loc.length - 1 - j : Nat) : Int)) = (j : Int) by omega] at h1
   exact h1
  case stop =>
   rintro D c pre W hD ⟨k, hk⟩ ⟨rfl, vv, x, rfl, e2, e3, e4, e5⟩ hK
   obtain ⟨j, j1, j2, j3, j4⟩ := H.out
   have hlen := congrArg List.length hk
   rw [List.map_append, List.range_succ] at hk
   obtain ⟨hk1, hk2⟩ := List.append_inj' hk rfl
   have hxk : x.val = k := by simpa using hk2
   have hxl := x.isLt
   have hj : (aN.back loc x.val).1 = (j : Int) := by
    have h1 : ¬ j > loc.length - 1 - x.val := fun h => by
     have hm : loc.length - 1 - j ∈ vv.map (·.val) := by rw [hk1]; exact List.mem_range.2 (by omega)
     obtain ⟨y, hy, hyv⟩ := List.mem_map.1 hm
     have h1 := e2 y hy
     unfold aN.back at h1
     dsimp only at h1 hyv
     rw [hyv, show ((loc.length : Int) - 1 - ((loc.length - 1 - j : Nat) : Int)) = (j : Int) by omega] at h1
     exact h1 j2
    have h2 : ¬ j < loc.length - 1 - x.val := fun h => by
     refine j4 (loc.length - 1 - x.val) h (by omega) ?_
     unfold aN.back at e3
     dsimp only at e3
     rw [show (((loc.length - 1 - x.val : Nat)) : Int) = (loc.length : Int) - 1 - (x.val : Int) by omega]
     exact e3
    show (loc.length : Int) - 1 - (x.val : Int) = _
    omega
   rw [hj, ← j3] at e4
   have E4 := za e4
   have E5 := za e5
   have HK := za hK
   have HDW : aG (w.heap.size ≤ D) := ⟨by omega⟩
   clear e2 e3 e4 e5 hj j2 j3 j4 hk hk1 hk2 hlen hK
   gi_wp2
   refine ⟨by simp, .inl ⟨_, _, rfl, run_takeDeferred HK.out, ?_⟩⟩
   refine ⟨.tuple #[], ?_, .tuple #[], rfl, E4.out.own (grownBy_putObj' _ D _) (fun r e => by cases e; exact ⟨Nat.le_trans X0.out.sz HDW.out, _, HK.out, rfl⟩), E5.out.own (grownBy_putObj' _ D _) (fun r e => by cases e; exact HDW.out)⟩
   simp [results, Try.f40, go_sem]
end
end
section
open Go.Shelf
attribute [local go_sem] Oper.semAt_some
section
theorem aC.MJ (s : ByteArray) (zs : List gK) : ∀ n : Nat, ¬ (aN.last s zs n).isSome = true → ∀ j : Nat, j < n → ¬ (aZ zs (j : Int)).f1.toList = s.toList
 | 0, _, j, hj => absurd hj (Nat.not_lt_zero j)
 | n + 1, h, j, hj => by
  unfold aN.last at h
  by_cases e : (aZ zs (n : Int)).f1.toList = s.toList
  ·
   rw [if_pos e] at h
   exact absurd rfl h
  ·
   rw [if_neg e] at h
   by_cases hjn : j = n
   ·
    rw [hjn]; exact e
   ·
    exact aC.MJ s zs n h j (by omega)
theorem aC.aC7 (s : ByteArray) (zs : List gK) (h : ¬ (aN.last s zs zs.length).isSome = true) (x : Fin zs.length) : ¬ (aN.back zs x.val).2.f1.toList = s.toList := by
 have hx := x.isLt
 have h1 := aC.MJ s zs zs.length h (zs.length - 1 - x.val) (by omega)
 have e : (zs.length : Int) - 1 - (x.val : Int) = ((zs.length - 1 - x.val : Nat) : Int) := by omega
 unfold aN.back
 rw [e]
 exact h1
theorem aC.ST.aOt {w0 W : World} {br bf D : Nat} {l : List nM} {AL : Option Addr} {cL : Nat} {mod : ByteArray} {m : List gK} {fu : Int} {tr : List ByteArray} {loc : List gK} {res : Int} {vm vt vx : Value} {o : Obj} (x : aC.ST w0 W br bf l AL cL mod m fu tr loc res vm vt vx) (hD : W.heap[D]? = some o) (ho : o.isCells = false) (hge : w0.heap.size ≤ D) (o' : Obj) : aC.ST w0 (W.putObj D o') br bf l AL cL mod m fu tr loc res vm vt vx :=
 have hg := grownBy_putObj' W D o'
 have hn : ∀ {g : Nat} {t : TypeId} {cs : Array Value}, W.heap[g]? = some (.cells cs t (0, 0)) → some g ≠ some D := fun h e => by injection e with e; rw [e, hD] at h; injection h with h; rw [h] at ho; cases ho
 ⟨vR x.hB _ x.sz hg (fun k e => by injection e with e; omega), eD x.hr hg (hn x.hr), eD x.hf hg (hn x.hf),
  Kd.aQ (Kd.Ca (Kd.jO x.hm) hg (fun k hk => by obtain ⟨_, _, _, q, _, cs, hc⟩ := hk; exact hn hc)) (fun _ hk => hk.1),
  Kd.aQ (Kd.Ca (Kd.jO x.ht) hg (fun k hk => by obtain ⟨_, _, _, q, _, cs, hc⟩ := hk; exact hn hc)) (fun _ hk => hk.1),
  Kd.aQ (Kd.Ca (Kd.jO x.hx) hg (fun k hk => by obtain ⟨_, _, _, q, _, cs, hc⟩ := hk; exact hn hc)) (fun _ hk => hk.1), x.gr, x.gf⟩
theorem aC.Stp.aOt {W W' : World} {br bf D : Nat} {vm vt vx vQ xC Er : Value} (h : aC.Stp W W' br bf vm vt vx vQ xC Er) (hge : W.heap.size ≤ D) (o' : Obj) : aC.Stp W (W'.putObj D o') br bf vm vt vx vQ xC Er :=
 ⟨Kept.mV (grownBy_putObj' W' D o') h.k (fun k e => by injection e with e; exact .inr (by omega)), h.m, h.t, h.x⟩
theorem aC.ST.mem {w0 W w1 : World} {br bf : Nat} {l : List nM} {AL : Option Addr} {cL : Nat} {mod : ByteArray} {m m2 : List gK} {fu : Int} {tr : List ByteArray} {loc : List gK} {res : Int} {vm vt vx v1 : Value} (x : aC.ST w0 W br bf l AL cL mod m fu tr loc res vm vt vx) (hb : Below W.heap.size W w1) (ho : pR.R 51 w1 W.heap.size (fun _ => True) v1 m2) :
  aC.ST w0 (w1.setCell ⟨br, 1, none⟩ v1) br bf l AL cL mod m2 fu tr loc res v1 vt vx :=
 have y := x.below hb
 have hm := Kd.eU (Kd.aQ (Kd.jO ho) (ok' := fun k => some k ≠ vx.ownBlock) (fun k hk e => by have h1 := Kd.Hg x.hx k e.symm; have h2 := hk.2.1; omega)) x.sz
 ⟨aV y.hB y.gr, bD y.hr 1 _ rfl, dJ y.hf (Ne.symm y.ne) _, Kd.qP hm y.hr (by decide) 1 _, Kd.qP y.ht y.hr (by decide) 1 _, Kd.qP y.hx y.hr (by decide) 1 _, y.gr, y.gf⟩
def aC.Ji (k : Nat) (mod name : ByteArray) (v : Int) (st : aC.RT) : Option aC.RT := (qH.f k st.1 mod name v).bind fun q => some (q.1, st.2)
def aC.aIH (k : Nat) (fm mod name : ByteArray) (v : Int) (st : aC.RT) : Option aC.RT :=
 if mod.toList = ([] : List UInt8) then (if st.2.2.2.1.length ≤ 140737488355328 then (if (aN.last name st.2.2.2.1 st.2.2.2.1.length).isSome = true then none else aC.Ji k fm name v st) else none)
 else aC.Ji k mod name v st
theorem aC.aII (k : Nat) {w0 w : World} {br bf : Nat} {l : List nM} {AL : Option Addr} {cL : Nat} {fm mod name : ByteArray} {v : Int} {m m' : List gK} {fu zT : Int} {tr yT : List ByteArray} {loc loc' : List gK} {res rA : Int} {vm vt vx : Value}
  (x : aC.ST w0 w br bf l AL cL fm m fu tr loc res vm vt vx) (h : aC.aIH k fm mod name v (m, fu, tr, loc, res) = some (m', zT, yT, loc', rA)) :
  Calls Try.prog 40 #[.pointer (some ⟨br, 0, none⟩), .pointer (some ⟨bf, 0, none⟩), .string mod, .string name, .int .i64 v] w fun e w' => ∃ e0 vQ, e = .returned e0 ∧ aC.ST w0 w' br bf l AL cL fm m' zT yT loc' rA vQ vt vx ∧ aC.Stp w w' br bf vm vt vx vQ vt vx := by
 unfold aC.aIH at h
 dsimp only at h
 have X0 := za x
 obtain ⟨Ax, cx, ex⟩ := Kd.bJ x.hx
 obtain ⟨Am, cm, em⟩ := Kd.bJ x.hm
 subst ex em
 have HX := za (Kd.cZ x.hx).2.2
 obtain ⟨d0, d1, d2, g1, g2⟩ := x.cf
 clear x
 refine (callsIn_wide (n := 3)).1 ?_
 have hB3 : Below w.heap.size w (((w.alloc (.cells #[.pointer (some ⟨bf, 0, none⟩)] 72)).alloc (.cells #[.string name] 9)).alloc (.cells #[.int .i64 v] 3)) := (((Below.refl _ w).alloc (Nat.le_refl _) _).alloc (by simp) _).alloc (by simp; omega) _
 have e1 := bR hB3 d1
 have HB3 := za hB3
 clear hB3
 have hF : Fence.wide.fn 40 := trivial
 have h52 : Fence.wide.fn 46 := trivial
 have h80 : Fence.wide.fn 54 := trivial
 have hS : Fence.wide.fn 47 := trivial
 have hro : Fence.wide.round = none := rfl
 have h1 : 1 ≤ 3 := by omega
 refine callsIn_of_wp_marks Try.func40 rfl hF ?_ hro
 simp only [Try.ntmps40, List.size_toArray, List.length_cons, List.length_nil, Nat.reduceAdd, Nat.reduceSub, Array.replicate_succ, Array.replicate_zero, List.push_toArray, List.append_toArray, List.nil_append, List.cons_append]
 by_cases hm : mod.toList = ([] : List UInt8)
 ·
  rw [if_pos hm] at h
  have hmb : mod.toList.isEmpty = true := by rw [hm]; rfl
  have H := za h
  clear h hm
  by_cases hl : loc.length ≤ 140737488355328
  case neg => have h := H.out; rw [if_neg hl] at h; cases h
  by_cases hla : (aN.last name loc loc.length).isSome = true
  case pos => have h := H.out; rw [if_pos hl, if_pos hla] at h; cases h
  have h := H.out
  rw [if_pos hl, if_neg hla] at h
  unfold aC.Ji at h
  obtain ⟨⟨q1, q2⟩, hq, h⟩ := Option.bind_eq_some_iff.mp h
  simp only [Option.some.injEq, Prod.mk.injEq] at h
  obtain ⟨rfl, rfl, rfl, rfl, rfl⟩ := h
  dsimp only at hq
  have HQ := za hq
  have bMe := za (aC.aC7 name loc hla)
  have HL := za hl
  clear hq hl hla H
  gi_wp2_with (gi_at_call 46; refine (aN.QT Fence.wide 2 h52 hro _ _ _ _).mono ?_; rintro e w' ⟨rfl, rfl⟩)
  have hB0 : Below w.heap.size w ((((w.alloc (.cells #[.pointer (some ⟨bf, 0, none⟩)] 72)).alloc (.cells #[.string name] 9)).alloc (.cells #[.int .i64 v] 3)).alloc (.cells #[.slice Ax loc.length cx] 33)) := HB3.out.alloc (by simp; omega) _
  have hsz : ((((w.alloc (.cells #[.pointer (some ⟨bf, 0, none⟩)] 72)).alloc (.cells #[.string name] 9)).alloc (.cells #[.int .i64 v] 3)).alloc (.cells #[.slice Ax loc.length cx] 33)).heap.size = w.heap.size + 4 := by simp
  have q6 : ((((w.alloc (.cells #[.pointer (some ⟨bf, 0, none⟩)] 72)).alloc (.cells #[.string name] 9)).alloc (.cells #[.int .i64 v] 3)).alloc (.cells #[.slice Ax loc.length cx] 33)).cell? ⟨w.heap.size, 0, none⟩ = some (.pointer (some ⟨bf, 0, none⟩)) := (aA (bX (bX (bX (pJ w (.cells #[.pointer (some ⟨bf, 0, none⟩)] 72)) _) _) _) 0).trans rfl
  have q8 : ((((w.alloc (.cells #[.pointer (some ⟨bf, 0, none⟩)] 72)).alloc (.cells #[.string name] 9)).alloc (.cells #[.int .i64 v] 3)).alloc (.cells #[.slice Ax loc.length cx] 33)).cell? ⟨w.heap.size + 1, 0, none⟩ = some (.string name) := (aA (bX (bX (by have := pJ (w.alloc (.cells #[.pointer (some ⟨bf, 0, none⟩)] 72)) (.cells #[.string name] 9); simpa using this) _) _) 0).trans rfl
  have q9 : ((((w.alloc (.cells #[.pointer (some ⟨bf, 0, none⟩)] 72)).alloc (.cells #[.string name] 9)).alloc (.cells #[.int .i64 v] 3)).alloc (.cells #[.slice Ax loc.length cx] 33)).cell? ⟨w.heap.size + 1 + 1, 0, none⟩ = some (.int .i64 v) := (aA (bX (by have := pJ ((w.alloc (.cells #[.pointer (some ⟨bf, 0, none⟩)] 72)).alloc (.cells #[.string name] 9)) (.cells #[.int .i64 v] 3); simpa using this) _) 0).trans rfl
  have b3 : Boxed ((((w.alloc (.cells #[.pointer (some ⟨bf, 0, none⟩)] 72)).alloc (.cells #[.string name] 9)).alloc (.cells #[.int .i64 v] 3)).alloc (.cells #[.slice Ax loc.length cx] 33)) (w.heap.size + 1 + 1 + 1) 33 (.slice Ax loc.length cx) := by
   have := Boxed.new (((w.alloc (.cells #[.pointer (some ⟨bf, 0, none⟩)] 72)).alloc (.cells #[.string name] 9)).alloc (.cells #[.int .i64 v] 3)) 33 (.slice Ax loc.length cx)
   simpa only [World.size_alloc] using this
  obtain ⟨W0, hW0⟩ : ∃ W0, (((w.alloc (.cells #[.pointer (some ⟨bf, 0, none⟩)] 72)).alloc (.cells #[.string name] 9)).alloc (.cells #[.int .i64 v] 3)).alloc (.cells #[.slice Ax loc.length cx] 33) = W0 := ⟨_, rfl⟩
  rw [hW0] at hB0 hsz q6 q8 q9 b3 ⊢
  clear hW0 e1 d1 d2 g1 g2
  refine wpIn_rangeFunc_ownH hro h1 (gf := 54) (lb := #[.pointer (some ⟨w.heap.size + 1 + 1 + 1, 0, none⟩)]) rfl h80 (enters_of Try.func54 dU rfl)
   (aC.WQ Fence.wide (3 - 1) h80 hro (by omega) (w.heap.size + 1 + 1 + 1) Ax cx loc HL.out W0 (by omega) b3.cell (Kd.dG HX.out hB0)) belowK_t (belowK_b (Nat.le_refl _)) (Below.refl _ _) (fun _ => rfl)
   (fun pre W => (W.cell? ⟨w.heap.size, 0, none⟩ = some (.pointer (some ⟨bf, 0, none⟩)) ∧ W.cell? ⟨w.heap.size + 1, 0, none⟩ = some (.string name) ∧ W.cell? ⟨w.heap.size + 1 + 1, 0, none⟩ = some (.int .i64 v) ∧ W0.heap.size ≤ W.heap.size) ∧ Below w.heap.size w W)
   (fun c pre W => False)
   (OwnFrom.and (Own.from (fun s A B row hs hg hr => ⟨cell_kept hs.1 hg hr, cell_kept hs.2.1 hg hr, cell_kept hs.2.2.1 hg hr, Nat.le_trans hs.2.2.2 hg.size⟩) _) (ownFrom_below (Nat.le_refl _) (by omega)))
   (fun c => Own.from (fun s A B row hs hg hr => hs) _)
   ⟨⟨q6, q8, q9, Nat.le_refl _⟩, hB0⟩
   (fun x a' W => ∃ Bx, w.heap.size + 2 < Bx ∧ (W.cell? ⟨Bx, 1, none⟩ = some (.string (aN.back loc x.val).2.f1)) ∧ a' = { tmps := #[.pointer (some ⟨br, 0, none⟩), .pointer (some ⟨bf, 0, none⟩), .string mod, .string name, .int .i64 v, undef, .pointer (some ⟨w.heap.size, 0, none⟩), undef, .pointer (some ⟨w.heap.size + 1, 0, none⟩), .pointer (some ⟨w.heap.size + 1 + 1, 0, none⟩), .int .i64 (aN.back loc x.val).1, .pointer (some ⟨Bx, 0, none⟩), .string mod, .bool true, .pointer (some ⟨bf, 0, none⟩), .pointer (some ⟨bf, 0, none⟩), .pointer (some ⟨bf, 1, none⟩), .slice Ax loc.length cx, .func (.func 54) #[] #[.pointer (some ⟨w.heap.size + 1 + 1 + 1, 0, none⟩)], .int .i64 (aN.back loc x.val).1, .agg #[.string (aN.back loc x.val).2.f0, .string (aN.back loc x.val).2.f1, .int .i64 (aN.back loc x.val).2.f2], undef, undef, undef, undef, undef, undef, undef, undef, undef, undef, undef, undef, undef, undef, undef, undef, undef, undef, undef, undef, undef, undef, undef, undef, undef, undef, undef, undef, undef, undef], defers := [] })
   (fun x a' _ X Y row hs hg hr => by obtain ⟨Bx, h1, h2, h4⟩ := hs; exact ⟨Bx, h1, cell_kept h2 hg (fun r e => (hr r e).2), h4⟩)
   ?assign ?aC.body ?done ?stop
  case assign =>
   rintro l pre x W K ⟨⟨hq6, hq8, hq9, WJ⟩, hB1⟩ hK
   gi_wp2
   have hp := aN.Wy W (aN.back loc x.val).2
   have hc := aN.QU W (aN.back loc x.val).2
   exact hK _ (aN.put W (aN.back loc x.val).2) ((aN.Wx W _).from _) (hp.mono WJ) ⟨⟨bR hp hq6, bR hp hq8, bR hp hq9, Nat.le_trans WJ hp.size⟩, aM hB1 hp⟩ ⟨W.heap.size, by omega, (aA hc 1).trans rfl, rfl⟩
  case aC.body =>
   rintro l pre x a' W hl ⟨r, hr⟩ ⟨⟨hq6, hq8, hq9, WJ⟩, hB1⟩ ⟨Bx, hBx, g1, rfl⟩ hlt
   have hxb : ((aN.back loc x.val).2.f1.toList == name.toList) = false := beq_eq_false_iff_ne.mpr (bMe.out x)
   have HB1 := za hB1
   clear hB1
   gi_wp2
   exact ⟨KeepsFrom.refl _ _, Below.refl _ _, ⟨hq6, hq8, hq9, WJ⟩, HB1.out⟩
  case stop =>
   rintro D c pre W hD _ hF hK
   exact hF.elim
  case done =>
   rintro D ys W hD _ ⟨⟨hq6, hq8, hq9, WJ⟩, hB1⟩ hK
   have d0' := (hB1.cell (World.block_lt_of_cell? w _ d0)).trans d0
   have HK := za hK
   have X3 := za (X0.out.below hB1)
   have S3 : aG (aC.Stp w W br bf (.slice Am m.length cm) vt (.slice Ax loc.length cx) (.slice Am m.length cm) vt (.slice Ax loc.length cx)) := ⟨aC.Stp.of_below hB1⟩
   have cr : W.cell? ⟨br, 1, none⟩ = some (.slice Am m.length cm) := X3.out.cr.2.1
   have HM := za (Kd.cZ X3.out.hm).2.2
   have HCM := za (Kd.cZ X3.out.hm).2.1
   have HDW : aG (w.heap.size ≤ D) := ⟨by omega⟩
   clear hB1 hK d0 hB0 b3 q6 q8 q9 hsz
   gi_wp2
   refine wpIn_wide.2 ?_
   refine wp_region_noPanic ?_
   go_region_law (first | (go_simp; go_at_call 47; refine (qH.calls k _ _ m fm name v q1 q2 _ (Kd.kR HM.out) HCM.out HQ.out).mono ?_; rintro e w5 ⟨v5, rfl, ho, hb5⟩; obtain ⟨A5, k5, e5⟩ := Kd.bJ ho; subst e5; have XD := X3.out.below (W' := W.drew) (gN (Below.refl _ _)); have X5 := za (XD.mem hb5 ho); have S5 := za (((S3.out.below (W2 := W.drew) (gN (Below.refl _ _))).below hb5).mem (u := .slice A5 q1.length k5) (fun k e => Nat.le_trans S3.out.k.1 (Kd.iV ho k e))); have fb := aD (aY XD.hr hb5) 1; have cb := (aA (aY XD.hr hb5) 1).trans rfl; have HK5 := za ((KeepsOthers.setCell w5 ⟨br, 1, none⟩ (.slice A5 q1.length k5)).same D _ (aY (dE HK.out) hb5) rfl); clear ho hb5 XD))
   all_goals (refine ⟨by simp, .inl ⟨_, _, rfl, run_takeDeferred HK5.out, ?_⟩⟩)
   all_goals (refine ⟨.tuple #[], ?_, .tuple #[], _, rfl, X5.out.aOt HK5.out rfl (Nat.le_trans X0.out.sz HDW.out) _, S5.out.aOt HDW.out _⟩)
   all_goals (simp [results, Try.f40, go_sem])
 ·
  rw [if_neg hm] at h
  unfold aC.Ji at h
  dsimp only at h
  have hmb : (!mod.toList.isEmpty) = true := by simpa using hm
  have hmc : mod.toList.isEmpty = false := by simpa using hm
  obtain ⟨⟨q1, q2⟩, hq, h⟩ := Option.bind_eq_some_iff.mp h
  simp only [Option.some.injEq, Prod.mk.injEq] at h
  obtain ⟨rfl, rfl, rfl, rfl, rfl⟩ := h
  have HQ := za hq
  clear hq hm
  gi_wp2
  refine wpIn_wide.2 ?_
  have X3 := za (X0.out.below HB3.out)
  have c8 : (((w.alloc (.cells #[.pointer (some ⟨bf, 0, none⟩)] 72)).alloc (.cells #[.string name] 9)).alloc (.cells #[.int .i64 v] 3)).cell? ⟨w.heap.size + 1, 0, none⟩ = some (.string name) := (aA (bX (by have := pJ (w.alloc (.cells #[.pointer (some ⟨bf, 0, none⟩)] 72)) (.cells #[.string name] 9); simpa using this) _) 0).trans rfl
  have c9 : (((w.alloc (.cells #[.pointer (some ⟨bf, 0, none⟩)] 72)).alloc (.cells #[.string name] 9)).alloc (.cells #[.int .i64 v] 3)).cell? ⟨w.heap.size + 1 + 1, 0, none⟩ = some (.int .i64 v) := (aA (by have := pJ ((w.alloc (.cells #[.pointer (some ⟨bf, 0, none⟩)] 72)).alloc (.cells #[.string name] 9)) (.cells #[.int .i64 v] 3); simpa using this) 0).trans rfl
  have cr : (((w.alloc (.cells #[.pointer (some ⟨bf, 0, none⟩)] 72)).alloc (.cells #[.string name] 9)).alloc (.cells #[.int .i64 v] 3)).cell? ⟨br, 1, none⟩ = some (.slice Am m.length cm) := X3.out.cr.2.1
  have S3 : aG (aC.Stp w (((w.alloc (.cells #[.pointer (some ⟨bf, 0, none⟩)] 72)).alloc (.cells #[.string name] 9)).alloc (.cells #[.int .i64 v] 3)) br bf (.slice Am m.length cm) vt (.slice Ax loc.length cx) (.slice Am m.length cm) vt (.slice Ax loc.length cx)) := ⟨aC.Stp.of_below HB3.out⟩
  generalize ((w.alloc (.cells #[.pointer (some ⟨bf, 0, none⟩)] 72)).alloc (.cells #[.string name] 9)).alloc (.cells #[.int .i64 v] 3) = ws at *
  have HM := za (Kd.cZ X3.out.hm).2.2
  have HCM := za (Kd.cZ X3.out.hm).2.1
  clear e1 HX d0 d1 d2 g1 g2
  refine wp_region_noPanic ?_
  go_region_law (first | (go_simp; go_at_call 47; refine (qH.calls k _ _ m mod name v q1 q2 _ (Kd.kR HM.out) HCM.out HQ.out).mono ?_; rintro e w5 ⟨v5, rfl, ho, hb5⟩; obtain ⟨A5, k5, e5⟩ := Kd.bJ ho; subst e5; have XD := X3.out.below (W' := ws.drew) (gN (Below.refl _ _)); have X5 := za (XD.mem hb5 ho); have S5 := za (((S3.out.below (W2 := ws.drew) (gN (Below.refl _ _))).below hb5).mem (u := .slice A5 q1.length k5) (fun k e => Nat.le_trans S3.out.k.1 (Kd.iV ho k e))); have fb := aD (aY XD.hr hb5) 1; have cb := (aA (aY XD.hr hb5) 1).trans rfl; clear ho hb5 XD))
  all_goals (refine ⟨.tuple #[], ?_, .tuple #[], _, rfl, X5.out, S5.out⟩; simp [results, Try.f40, go_sem])
end
end
section
def aC.WR (k : Nat) (fm mod name : ByteArray) (v : Int) (st : aC.RT) : Option aC.RT :=
 if mod.toList = ([] : List UInt8) then (if st.2.2.2.1.length ≤ 140737488355328 then (match aC.zU name st.2.2.2.1 v st.2.2.2.1.length with | some loc => some (st.1, st.2.1, st.2.2.1, loc, st.2.2.2.2) | none => aC.Ji k fm name v st) else none)
 else aC.Ji k mod name v st
theorem aC.Uj {name : ByteArray} {loc : List gK} {v : Int} : ∀ {n : Nat}, aC.zU name loc v n = none → ¬ (aN.last name loc n).isSome = true
 | 0, _ => by simp [aN.last]
 | n + 1, h => by
  unfold aC.zU at h
  unfold aN.last
  by_cases e : (aZ loc (n : Int)).f1.toList = name.toList
  ·
   rw [if_pos e] at h; cases h
  ·
   rw [if_neg e] at h ⊢
   exact aC.Uj h
theorem aC.MK (k : Nat) {w0 w : World} {br bf : Nat} {l : List nM} {AL : Option Addr} {cL : Nat} {fm mod name : ByteArray} {v : Int} {m m' : List gK} {fu zT : Int} {tr yT : List ByteArray} {loc loc' : List gK} {res rA : Int} {vm vt vx : Value}
  (x : aC.ST w0 w br bf l AL cL fm m fu tr loc res vm vt vx) (h : aC.WR k fm mod name v (m, fu, tr, loc, res) = some (m', zT, yT, loc', rA)) :
  Calls Try.prog 40 #[.pointer (some ⟨br, 0, none⟩), .pointer (some ⟨bf, 0, none⟩), .string mod, .string name, .int .i64 v] w fun e w' => ∃ e0 vQ, e = .returned e0 ∧ aC.ST w0 w' br bf l AL cL fm m' zT yT loc' rA vQ vt vx ∧ aC.Stp w w' br bf vm vt vx vQ vt vx := by
 have mem : aC.aIH k fm mod name v (m, fu, tr, loc, res) = some (m', zT, yT, loc', rA) → _ := fun h => aC.aII k x h
 unfold aC.aIH at mem
 unfold aC.WR at h
 dsimp only at h mem
 by_cases hm : mod.toList = ([] : List UInt8)
 ·
  rw [if_pos hm] at h
  by_cases hl : loc.length ≤ 140737488355328
  ·
   rw [if_pos hl] at h
   cases hs : aC.zU name loc v loc.length with
   | some Jh =>
    rw [hs] at h
    simp only [Option.some.injEq, Prod.mk.injEq] at h
    obtain ⟨rfl, rfl, rfl, rfl, rfl⟩ := h
    exact (aC.ui x hm hl hs).mono (fun e w' ⟨e0, h1, h2, h3⟩ => ⟨e0, _, h1, h2, h3⟩)
   | none =>
    rw [hs] at h
    exact mem (by rw [if_pos hm, if_pos hl, if_neg (aC.Uj hs)]; exact h)
  ·
   rw [if_neg hl] at h; cases h
 ·
  rw [if_neg hm] at h
  exact mem (by rw [if_neg hm]; exact h)
end
def aC.RA (st : aC.RT) : aC.RT := (st.1, wrap64 (st.2.1 - 1), st.2.2)
section
theorem aC.EO {w0 W : World} {br bf : Nat} {l : List nM} {AL : Option Addr} {cL : Nat} {mod : ByteArray} {m : List gK} {fu : Int} {tr : List ByteArray} {loc : List gK} {res : Int} {vm vt vx : Value} {b5 : Nat} {cs : Array Value} (x : aC.ST w0 W br bf l AL cL mod m fu tr loc res vm vt vx) (h : W.heap[b5]? = some (.cells cs 94 (0, 0))) : ¬ (b5 = br ∨ b5 = bf ∨ vt.ownBlock = some b5 ∨ vx.ownBlock = some b5) := by
 rintro (e | e | e | e)
 ·
  exact nZ h x.hr (by decide) e
 ·
  exact nZ h x.hf (by decide) e
 ·
  exact Kd.nA x.ht h (by decide) e.symm
 ·
  exact Kd.nA x.hx h (by decide) e.symm
def aC.lp (f : mO → aC.RT → Option (Bool × aC.RT)) (ev : aC.RT → Option Int) (B : List mO) : Nat → aC.RT → Option (Bool × aC.RT)
 | 0, _ => none
 | j + 1, st => if st.2.1 = 0 then some (false, st) else (ev (RA st)).bind fun v => if v = 0 then some (true, RA st) else (aC.blk f st.2.2.2.1.length B (RA st)).bind fun q => if q.1 = true then aC.lp f ev B j q.2 else some (false, q.2)
def aC.WS (w0 W wr : World) (br bf b5 : Nat) (l : List nM) (AL : Option Addr) (cL : Nat) (mod : ByteArray) (f : mO → aC.RT → Option (Bool × aC.RT)) (ev : aC.RT → Option Int) (B : List mO) (cs : Array Value) (vm0 vt0 vx0 : Value) (r : Bool × aC.RT) (j : Nat) : Prop :=
 ∃ (m : List gK) (fu : Int) (tr : List ByteArray) (loc : List gK) (res : Int) (vm vt vx : Value), aC.lp f ev B j (m, fu, tr, loc, res) = some r ∧ aC.ST w0 wr br bf l AL cL mod m fu tr loc res vm vt vx ∧ aC.Stp W wr br bf vm0 vt0 vx0 vm vt vx ∧ wr.heap[b5]? = some (.cells cs 94 (0, 0))
theorem aC.least {P : Nat → Prop} (h : ∃ j, P j) : ∃ j, P j ∧ ∀ i, P i → j ≤ i := by
 obtain ⟨j, hj⟩ := h
 induction j using Nat.strongRecOn with
 | ind j ih =>
  by_cases e : ∃ i, i < j ∧ P i
  ·
   obtain ⟨i, hi, hp⟩ := e
   exact ih i hi hp
  ·
   exact ⟨j, hj, fun i hp => Nat.le_of_not_lt fun hi => e ⟨i, hi, hp⟩⟩
theorem aC.K9 {P : Nat → Prop} (h : ∃ j, P j) : P (Classical.epsilon fun j => P j ∧ ∀ i, P i → j ≤ i) := (Classical.epsilon_spec (aC.least h)).1
theorem aC.least_le {P : Nat → Prop} {i : Nat} (h : P i) : (Classical.epsilon fun j => P j ∧ ∀ i, P i → j ≤ i) ≤ i := (Classical.epsilon_spec (aC.least ⟨i, h⟩)).2 i h
theorem aC.L6 (k : Nat) (w0 : World) (br bf : Nat) (l : List nM) (AL : Option Addr) (cL : Nat) (mod : ByteArray) (f : mO → aC.RT → Option (Bool × aC.RT)) (hf : aC.Xa w0 br bf l AL cL mod f) (s : mO) (W : World) (m m' : List gK) (fu zT : Int) (tr yT : List ByteArray) (loc loc' : List gK) (res rA : Int) (vm vt vx : Value) (b : Bool) (A8 : Option Addr) (c8 : Nat) (A9 : Option Addr) (c9 : Nat) (qR : Option Addr) (c10 : Nat) (sM : Option Addr) (c11 : Nat) (j : Nat)
  (x : aC.ST w0 W br bf l AL cL mod m fu tr loc res vm vt vx) (y : aC.SV w0 s A8 c8 A9 c9 qR c10 sM c11) (h : aC.lp f (fun st => bI.f k s.f8 ((s.f8.length : Int) - 1) mod st.2.2.2.1 st.1) s.f10 j (m, fu, tr, loc, res) = some (b, m', zT, yT, loc', rA)) :
  Calls Try.prog 41 #[.pointer (some ⟨br, 0, none⟩), .pointer (some ⟨bf, 0, none⟩), .agg (aC.Wz s A8 c8 A9 c9 qR c10 sM c11)] W fun e w' => ∃ vQ xC Er, e = .returned (.bool b) ∧ aC.ST w0 w' br bf l AL cL mod m' zT yT loc' rA vQ xC Er ∧ aC.Stp W w' br bf vm vt vx vQ xC Er := by
 have aOs := Try.underlying94
 have X0 := za x
 have Y0 := za y
 have H0 := za h
 have HF := za hf
 clear x y h hf
 go_enter Try.func41, Try.ntmps41
 have B5 : aG ((W.alloc (.cells (aC.Wz s A8 c8 A9 c9 qR c10 sM c11) 94)).heap[W.heap.size]? = some (.cells (aC.Wz s A8 c8 A9 c9 qR c10 sM c11) 94 (0, 0))) := ⟨pJ W _⟩
 have Bw : aG (Below W.heap.size W (W.alloc (.cells (aC.Wz s A8 c8 A9 c9 qR c10 sM c11) 94))) := ⟨bT (Below.refl _ _) _⟩
 go_wp2
 go_step3
 go_wp2
 go_step3
 go_wp2
 go_loopw [7] (fun i wr => ∃ j, aC.WS w0 W wr br bf W.heap.size l AL cL mod f (fun st => bI.f k s.f8 ((s.f8.length : Int) - 1) mod st.2.2.2.1 st.1) s.f10 (aC.Wz s A8 c8 A9 c9 qR c10 sM c11) vm vt vx (b, m', zT, yT, loc', rA) j) (fun i wr => Classical.epsilon fun j => aC.WS w0 W wr br bf W.heap.size l AL cL mod f (fun st => bI.f k s.f8 ((s.f8.length : Int) - 1) mod st.2.2.2.1 st.1) s.f10 (aC.Wz s A8 c8 A9 c9 qR c10 sM c11) vm vt vx (b, m', zT, yT, loc', rA) j ∧ ∀ i, aC.WS w0 W wr br bf W.heap.size l AL cL mod f (fun st => bI.f k s.f8 ((s.f8.length : Int) - 1) mod st.2.2.2.1 st.1) s.f10 (aC.Wz s A8 c8 A9 c9 qR c10 sM c11) vm vt vx (b, m', zT, yT, loc', rA) i → j ≤ i)
 case atStart => exact ⟨j, m, fu, tr, loc, res, vm, vt, vx, H0.out, X0.out.below Bw.out, aC.Stp.of_below Bw.out, B5.out⟩
 case round =>
  have hs := aC.K9 hrel
  obtain ⟨J, hJ⟩ : ∃ J, J = (Classical.epsilon fun j => aC.WS w0 W wr br bf W.heap.size l AL cL mod f (fun st => bI.f k s.f8 ((s.f8.length : Int) - 1) mod st.2.2.2.1 st.1) s.f10 (aC.Wz s A8 c8 A9 c9 qR c10 sM c11) vm vt vx (b, m', zT, yT, loc', rA) j ∧ ∀ i, aC.WS w0 W wr br bf W.heap.size l AL cL mod f (fun st => bI.f k s.f8 ((s.f8.length : Int) - 1) mod st.2.2.2.1 st.1) s.f10 (aC.Wz s A8 c8 A9 c9 qR c10 sM c11) vm vt vx (b, m', zT, yT, loc', rA) i → j ≤ i) := ⟨_, rfl⟩
  rw [← hJ] at hs
  have HJ := za hJ
  clear hJ hrel
  obtain ⟨m1, fu1, tr1, Uh, QY, vm1, vt1, vx1, hl, hx, hst, hb5⟩ := hs
  have XR := za hx
  have SR := za hst
  have BR := za hb5
  clear hx hst hb5
  cases J with
  | zero => cases hl
  | succ J =>
   unfold aC.lp at hl
   dsimp only at hl
   by_cases hfu : fu1 = 0
   ·
    rw [if_pos hfu] at hl
    simp only [Option.some.injEq, Prod.mk.injEq] at hl
    obtain ⟨rfl, rfl, rfl, rfl, rfl, rfl⟩ := hl
    subst hfu
    go_wp2_with (go_at_call 38; refine (aC.aXD XR.out).mono ?_; rintro e w6 ⟨rfl, rfl⟩)
    simp only [Exit.noGoto_ret]
    go_ret
    exact ⟨_, _, _, rfl, XR.out, SR.out⟩
   ·
    rw [if_neg hfu] at hl
    have HFU := za hfu
    clear hfu
    obtain ⟨v, hv, hl⟩ := Option.bind_eq_some_iff.mp hl
    have HV : aG (bI.f k s.f8 ((s.f8.length : Int) - 1) mod Uh m1 = some v) := ⟨hv⟩
    clear hv
    by_cases hv0 : v = 0
    ·
     rw [if_pos hv0] at hl
     simp only [Option.some.injEq, Prod.mk.injEq, RA] at hl
     obtain ⟨rfl, rfl, rfl, rfl, rfl, rfl⟩ := hl
     subst hv0
     go_wp2_with (first | (go_at_call 38; refine (aC.Za XR.out HFU.out).mono ?_; rintro e w6 ⟨rfl, hx6, Ba⟩; have X6 := za hx6; have B6 := za (aU.blk Ba BR.out (nZ BR.out XR.out.hr (by decide)) (by simp)); have S6 := za (SR.out.keep Ba); clear hx6 Ba; have e8 : w6.cell? ⟨W.heap.size, 8, none⟩ = some (.slice A8 s.f8.length c8) := (aA B6.out 8).trans rfl) | (go_at_call 39; refine (aC.pW k X6.out _ _ s.f8 0 (Kd.dG Y0.out.g8 X6.out.hB) Y0.out.l8 HV.out).mono ?_; rintro e w7 ⟨rfl, hx7, He⟩; have X7 := za hx7; have S7 := za (S6.out.below He); have B7 := za (aY B6.out He); clear hx7 He e8; have e10 : w7.cell? ⟨W.heap.size, 10, none⟩ = some (.slice qR s.f10.length c10) := (aA B7.out 10).trans rfl))
     simp only [Exit.noGoto_ret]
     go_ret
     exact ⟨_, _, _, rfl, X7.out, S7.out⟩
    ·
     rw [if_neg hv0] at hl
     have hvb : (v == 0) = false := beq_eq_false_iff_ne.mpr hv0
     obtain ⟨⟨b2, m2, Zb, Xb, Jh, Xc⟩, hbk, hl⟩ := Option.bind_eq_some_iff.mp hl
     dsimp only at hl
     have HBk : aG (aC.blk f Uh.length s.f10 (m1, wrap64 (fu1 - 1), tr1, Uh, QY) = some (b2, m2, Zb, Xb, Jh, Xc)) := ⟨hbk⟩
     have HL := za hl
     clear hbk hl hv0
     cases b2 with
     | false =>
      have hl := HL.out
      rw [if_neg Bool.false_ne_true] at hl
      simp only [Option.some.injEq, Prod.mk.injEq] at hl
      obtain ⟨rfl, rfl, rfl, rfl, rfl, rfl⟩ := hl
      go_wp2_with (first | (go_at_call 38; refine (aC.Za XR.out HFU.out).mono ?_; rintro e w6 ⟨rfl, hx6, Ba⟩; have X6 := za hx6; have B6 := za (aU.blk Ba BR.out (nZ BR.out XR.out.hr (by decide)) (by simp)); have S6 := za (SR.out.keep Ba); clear hx6 Ba; have e8 : w6.cell? ⟨W.heap.size, 8, none⟩ = some (.slice A8 s.f8.length c8) := (aA B6.out 8).trans rfl) | (go_at_call 39; refine (aC.pW k X6.out _ _ s.f8 v (Kd.dG Y0.out.g8 X6.out.hB) Y0.out.l8 HV.out).mono ?_; rintro e w7 ⟨rfl, hx7, He⟩; have X7 := za hx7; have S7 := za (S6.out.below He); have B7 := za (aY B6.out He); clear hx7 He e8; have e10 : w7.cell? ⟨W.heap.size, 10, none⟩ = some (.slice qR s.f10.length c10) := (aA B7.out 10).trans rfl) | (go_at_call 22; refine (aC.yB w0 br bf l AL cL mod f HF.out s.f10 qR c10 w7 m1 m2 (wrap64 (fu1 - 1)) Zb tr1 Xb Uh Jh QY Xc vm1 vt1 vx1 false X7.out Y0.out.g10 HBk.out).mono ?_; rintro e w8 ⟨jm, jo, uh, rfl, Yk, JF⟩; have X8 := za Yk; have S8 := za (S7.out.trans JF); have B8 := za (pQ B7.out JF.k (aC.EO X7.out B7.out)); clear Yk JF e10))
      simp only [Exit.noGoto_ret]
      go_ret
      exact ⟨_, _, _, rfl, X8.out, S8.out⟩
     | true =>
      have hl := HL.out
      rw [if_pos rfl] at hl
      have HL2 := za hl
      clear hl
      go_wp2_with (first | (go_at_call 38; refine (aC.Za XR.out HFU.out).mono ?_; rintro e w6 ⟨rfl, hx6, Ba⟩; have X6 := za hx6; have B6 := za (aU.blk Ba BR.out (nZ BR.out XR.out.hr (by decide)) (by simp)); have S6 := za (SR.out.keep Ba); clear hx6 Ba; have e8 : w6.cell? ⟨W.heap.size, 8, none⟩ = some (.slice A8 s.f8.length c8) := (aA B6.out 8).trans rfl) | (go_at_call 39; refine (aC.pW k X6.out _ _ s.f8 v (Kd.dG Y0.out.g8 X6.out.hB) Y0.out.l8 HV.out).mono ?_; rintro e w7 ⟨rfl, hx7, He⟩; have X7 := za hx7; have S7 := za (S6.out.below He); have B7 := za (aY B6.out He); clear hx7 He e8; have e10 : w7.cell? ⟨W.heap.size, 10, none⟩ = some (.slice qR s.f10.length c10) := (aA B7.out 10).trans rfl) | (go_at_call 22; refine (aC.yB w0 br bf l AL cL mod f HF.out s.f10 qR c10 w7 m1 m2 (wrap64 (fu1 - 1)) Zb tr1 Xb Uh Jh QY Xc vm1 vt1 vx1 true X7.out Y0.out.g10 HBk.out).mono ?_; rintro e w8 ⟨jm, jo, uh, rfl, Yk, JF⟩; have X8 := za Yk; have S8 := za (S7.out.trans JF); have B8 := za (pQ B7.out JF.k (aC.EO X7.out B7.out)); clear Yk JF e10))
      go_roundw
      case rel => exact ⟨J, m2, Zb, Xb, Jh, Xc, jm, jo, uh, HL2.out, X8.out, S8.out, B8.out⟩
      case measure =>
       rw [← HJ.out]
       exact Nat.lt_succ_of_le (aC.least_le ⟨m2, Zb, Xb, Jh, Xc, jm, jo, uh, HL2.out, X8.out, S8.out, B8.out⟩)
end
structure aC.RU (w0 W : World) (br : Nat) (l : List nM) (AL : Option Addr) (cL : Nat) (m : List gK) (fu : Int) (tr : List ByteArray) (vm vt : Value) : Prop where
 hB : Below w0.heap.size w0 W
 hr : W.heap[br]? = some (.cells #[.slice AL l.length cL, vm, .int .i64 fu, vt] 58 (0, 0))
 hm : pR.R 51 W w0.heap.size (fun _ => True) vm m
 ht : Kd.string.R 9 W w0.heap.size (fun _ => True) vt tr
 gr : w0.heap.size ≤ br
section
section
variable {w0 W W' w1 : World} {br bf : Nat} {l : List nM} {AL : Option Addr} {cL : Nat} {mod : ByteArray} {m m' : List gK} {fu zT : Int} {tr yT : List ByteArray} {loc loc' : List gK} {res rA : Int} {vm vt vx vQ xC Er v1 : Value}
theorem aC.ST.ru (x : aC.ST w0 W br bf l AL cL mod m fu tr loc res vm vt vx) : aC.RU w0 W br l AL cL m fu tr vm vt := ⟨x.hB, x.hr, Kd.aQ x.hm (fun _ _ => trivial), x.ht, x.gr⟩
theorem aC.RU.below (x : aC.RU w0 W br l AL cL m fu tr vm vt) (hb : Below W.heap.size W W') : aC.RU w0 W' br l AL cL m fu tr vm vt :=
 ⟨Ff x.hB (aT x.hB) hb, aY x.hr hb, Kd.iX x.hm hb, Kd.iX x.ht hb, x.gr⟩
theorem aC.RU.frame (x : aC.RU w0 W br l AL cL m fu tr vm vt) (hf : W.heap[bf]? = some (.cells #[.string mod, .slice none 0 0, .int .i64 0] 74 (0, 0))) (gf : w0.heap.size ≤ bf) : aC.ST w0 W br bf l AL cL mod m fu tr [] 0 vm vt (.slice none 0 0) :=
 ⟨x.hB, x.hr, hf, Kd.aQ x.hm (fun _ _ => by simp [Value.ownBlock]), x.ht, Kd.mW _ _ _ _ _, x.gr, gf⟩
theorem aC.ST.app (x : aC.ST w0 W br bf l AL cL mod m fu tr loc res vm vt vx) (h1 : pR.R 51 w1 w0.heap.size (fun _ => True) v1 loc') (hB1 : Below w0.heap.size w0 w1) (hg : W.grownBy w1 vx.ownBlock) (hat : v1.ownBlock = vx.ownBlock ∨ ∃ b, v1.ownBlock = some b ∧ W.heap.size ≤ b) :
  aC.ST w0 (w1.setCell ⟨bf, 1, none⟩ v1) br bf l AL cL mod m fu tr loc' res vm vt v1 :=
 have hr1 := eD x.hr hg (Kd.nA x.hx x.hr (by decide))
 have hf1 := eD x.hf hg (Kd.nA x.hx x.hf (by decide))
 have hm1 := Kd.aQ (Kd.Ca (Kd.jO x.hm) hg (fun _ hk => hk.1)) (ok' := fun k => some k ≠ v1.ownBlock) (fun k hk => by
  rcases hat with e | ⟨b, e, hb⟩
  ·
   rw [e]; exact hk.1
  ·
   rw [e]; intro z; injection z with z; have := hk.2.2.1; omega)
 ⟨aV hB1 x.gf, dJ hr1 x.ne _, bD hf1 1 _ rfl, Kd.qP hm1 hf1 (by decide) 1 _, Kd.qP (Kd.Nz x.ht x.hx (by decide) hg) hf1 (by decide) 1 _, Kd.qP h1 hf1 (by decide) 1 _, x.gr, x.gf⟩
theorem aC.L8 {v : Value} {n s : Nat} (h : ∀ k, v.ownBlock = some k → n ≤ k) (hle : n ≤ s) (hat : v1.ownBlock = v.ownBlock ∨ ∃ b, v1.ownBlock = some b ∧ s ≤ b) : ∀ k, v1.ownBlock = some k → n ≤ k := by
 intro k hk
 rcases hat with e | ⟨b, e, hb⟩
 ·
  exact h k (by rw [← e]; exact hk)
 ·
  rw [e] at hk
  injection hk with hk
  omega
theorem aC.L9 {g : Nat} {w W : World} (h : Below w.heap.size w W) (hg : w.heap.size ≤ g) (u0 u1 u2 : Value) : Below w.heap.size w (((W.setCell ⟨g, 0, none⟩ u0).setCell ⟨g, 1, none⟩ u1).setCell ⟨g, 2, none⟩ u2) := aV (aV (aV h hg) hg) hg
end
def aC.Pf (ps : List Ha) (args : List Int) : List gK := List.zipWith (fun p a => (⟨(⟨#[]⟩ : ByteArray), p.f0, a⟩ : gK)) ps args
theorem aC.aIJ (ps : List Ha) (args : List Int) (x : Int) (h0 : 0 ≤ x) (h1 : x < (ps.length : Int)) (h2 : ps.length = args.length) : (aC.Pf ps args).take (x + 1).toNat = (aC.Pf ps args).take x.toNat ++ [⟨(⟨#[]⟩ : ByteArray), (Vy ps x).f0, rd args x⟩] := by
 have a1 : x.toNat < ps.length := by omega
 have a2 : x.toNat < args.length := by omega
 have a3 : x.toNat < (aC.Pf ps args).length := by simp [aC.Pf]; omega
 rw [show (x + 1).toNat = x.toNat + 1 by omega, List.take_succ_eq_append_getElem a3]
 simp [aC.Pf, Vy, rd, List.getD_eq_getElem?_getD, a1, a2]
def aC.body (f : mO → aC.RT → Option (Bool × aC.RT)) (p : Cg) (args : List Int) (m : List gK) (fu : Int) (tr : List ByteArray) : Option (Int × Bool × List gK × Int × List ByteArray) :=
 if p.f1.length < 3518437208000 then (aC.blk f p.f1.length p.f6 (m, fu, tr, aC.Pf p.f1 args, 0)).bind fun q => some (q.2.2.2.2.2, q.1, q.2.1, q.2.2.1, q.2.2.2.1) else none
theorem aC.Gg (w0 : World) (br : Nat) (l : List nM) (AL : Option Addr) (cL : Nat) (mod : ByteArray) (f : mO → aC.RT → Option (Bool × aC.RT)) (hf : ∀ bf, aC.Xa w0 br bf l AL cL mod f)
  (p : Cg) (A1 : Option Addr) (c1 : Nat) (A5 : Option Addr) (c5 : Nat) (A6 : Option Addr) (c6 : Nat) (args : List Int) (AA : Option Addr) (cA : Nat) (W : World) (m m' : List gK) (fu zT : Int) (tr yT : List ByteArray) (res : Int) (b : Bool) (vm vt : Value)
  (x : aC.RU w0 W br l AL cL m fu tr vm vt) (y : aC.PV w0 p A1 c1 A5 c5 A6 c6) (hA : (Kd.int .i64).C W AA args.length args) (hn : p.f1.length = args.length) (h : aC.body f p args m fu tr = some (res, b, m', zT, yT)) :
  Calls Try.prog 15 #[.pointer (some ⟨br, 0, none⟩), .string mod, .agg (aC.vz p A1 c1 A5 c5 A6 c6), .slice AA args.length cA] W fun e w' => ∃ vQ xC, e = .returned (.tuple #[.int .i64 res, .bool b]) ∧ aC.RU w0 w' br l AL cL m' zT yT vQ xC ∧ Kept W w' (fun k => k = br ∨ vt.ownBlock = some k) ∧ (∀ k, xC.ownBlock = some k → vt.ownBlock = some k ∨ W.heap.size ≤ k) ∧ (∀ k, vQ.ownBlock = some k → vm.ownBlock = some k ∨ W.heap.size ≤ k) := by
 have QX := Try.underlying38
 have bLj := Try.underlying74
 have bOI := Try.underlying76
 unfold aC.body at h
 by_cases hpl : p.f1.length < 3518437208000
 case neg => rw [if_neg hpl] at h; cases h
 rw [if_pos hpl] at h
 obtain ⟨⟨b2, m2, Zb, Xb, Jh, Xc⟩, hb2, h⟩ := Option.bind_eq_some_iff.mp h
 simp only [Option.some.injEq, Prod.mk.injEq] at h
 obtain ⟨rfl, rfl, rfl, rfl, rfl⟩ := h
 have X0 := za x
 have Y0 := za y
 have HA := za hA
 have HN := za hn
 have HF := za hf
 have HP := za hpl
 have HQ := za hb2
 clear x y hA hf h hb2 hn hpl
 go_enter Try.func15, Try.ntmps15
 go_wp2_with (first | ((with_reducible refine bO (N := 6) rfl ?_); refine bZ ?hg (N := 6) ?hd (cs := aC.vz p A1 c1 A5 c5 A6 c6) (t := 38) ?hr ?_; (case hd => rfl); (case hg => rfl); (case hr => exact jA); intro b6 hg6 w6 hx6 hb6; have HB6 := za hb6; have B6 := za hx6; clear hx6 hb6 hg6) | ((with_reducible refine bO (N := 16) rfl ?_); refine bZ ?hg (N := 16) ?hd (cs := #[.string mod, .slice none 0 0, .int .i64 0]) (t := 74) ?hr ?_; (case hd => rfl); (case hg => rfl); (case hr => exact jA); intro bf hgf wf hxf hbf; have HBF := za (aM HB6.out hbf); have BF := za hxf; have GF := za (Nat.le_trans (aT HB6.out) (Nat.le_of_eq hgf.symm)); have B6F := za (aY B6.out hbf); have e1 : wf.cell? ⟨b6, 1, none⟩ = some (.slice A1 p.f1.length c1) := (aA B6F.out 1).trans rfl; clear hxf hbf hgf))
 have EF := za e1
 clear e1
 have hmP := Kd.Pw Y0.out.g1
 go_loopw [20] (fun i wr => ∃ (x : Int) (vx : Value), i = .int .i64 x ∧ 0 ≤ x ∧ x ≤ (p.f1.length : Int) ∧ aG (aC.ST w0 wr br bf l AL cL mod m fu tr ((aC.Pf p.f1 args).take x.toNat) 0 vm vt vx) ∧ aG (Below W.heap.size W wr) ∧ aG (∀ k, vx.ownBlock = some k → W.heap.size ≤ k) ∧ aG (wr.heap[b6]? = some (.cells (aC.vz p A1 c1 A5 c5 A6 c6) 38 (0, 0)))) (fun i _ => p.f1.length - (intOf i).toNat)
 case atStart => exact ⟨0, _, rfl, by omega, by omega, ⟨(X0.out.below HBF.out).frame BF.out (Nat.le_trans (aT X0.out.hB) GF.out)⟩, HBF, ⟨fun k hk => by simp [Value.ownBlock] at hk⟩, B6F⟩
 case round =>
  obtain ⟨x, vx, rfl, h0, h1, XR, si, HVX, B6R⟩ := hrel
  by_cases hlt : x < (p.f1.length : Int)
  ·
   have p0 := eq_true h0
   have p1 := eq_true hlt
   have p2 : (x < (args.length : Int)) = True := eq_true (by have := HN.out; omega)
   obtain ⟨ad, ea, hx0, hx1, hx2⟩ := aLo Y0.out.g1 x h0 hlt
   obtain ⟨ax, eax, hax⟩ := Kd.MR HA.out x h0 (by have := HN.out; omega)
   cases ea
   cases eax
   have HLA := za (aC.aIJ p.f1 args x h0 hlt HN.out)
   generalize hP : Vy p.f1 x = P at *
   replace hx0 := (XR.out.hB.cell (World.block_lt_of_cell? w0 _ hx0)).trans hx0
   replace hx1 := (XR.out.hB.cell (World.block_lt_of_cell? w0 _ hx1)).trans hx1
   replace hx2 := (XR.out.hB.cell (World.block_lt_of_cell? w0 _ hx2)).trans hx2
   have HAX := za hax
   clear hax hP
   go_wp2_with (((with_reducible refine bO (N := 12) rfl ?_); refine bZ ?hg (N := 12) ?hd (cs := #[.string (⟨#[]⟩ : ByteArray), .string (⟨#[]⟩ : ByteArray), .int .i64 0]) (t := 76) ?hr ?_; (case hd => rfl); (case hg => rfl); (case hr => exact jA); intro b12 aXH Mk WT aXI; have Bz := za aXI; have RV := za WT; have wh := za (Nat.le_of_eq aXH.symm); have k0 := (aA WT 0).trans rfl; have k1 := (aA WT 1).trans rfl; have k2 := (aA WT 2).trans rfl; have j0 := aD WT 0; have j1 := aD WT 1; have j2 := aD WT 2; clear WT aXI aXH))
   clear hx0 hx1 hx2 k0 k1 k2 j0 j1 j2
   have XS : aG (aC.ST w0 (((Mk.setCell ⟨b12, 0, none⟩ (.string P.f0)).setCell ⟨b12, 1, none⟩ (.string P.f1)).setCell ⟨b12, 2, none⟩ (.int .i64 P.f2)) br bf l AL cL mod m fu tr ((aC.Pf p.f1 args).take x.toNat) 0 vm vt vx) := ⟨XR.out.below (aC.L9 Bz.out wh.out _ _ _)⟩
   have HBS : aG (Below W.heap.size W (((Mk.setCell ⟨b12, 0, none⟩ (.string P.f0)).setCell ⟨b12, 1, none⟩ (.string P.f1)).setCell ⟨b12, 2, none⟩ (.int .i64 P.f2))) := ⟨aM si.out (aC.L9 Bz.out wh.out _ _ _)⟩
   have BS : aG ((((Mk.setCell ⟨b12, 0, none⟩ (.string P.f0)).setCell ⟨b12, 1, none⟩ (.string P.f1)).setCell ⟨b12, 2, none⟩ (.int .i64 P.f2)).heap[b12]? = some (.cells #[.string P.f0, .string P.f1, .int .i64 P.f2] 76 (0, 0))) := ⟨bD (bD (bD RV.out 0 _ rfl) 1 _ rfl) 2 _ rfl⟩
   have B6S : aG ((((Mk.setCell ⟨b12, 0, none⟩ (.string P.f0)).setCell ⟨b12, 1, none⟩ (.string P.f1)).setCell ⟨b12, 2, none⟩ (.int .i64 P.f2)).heap[b6]? = some (.cells (aC.vz p (some ad) c1 A5 c5 A6 c6) 38 (0, 0))) := ⟨aY B6R.out (aC.L9 Bz.out wh.out _ _ _)⟩
   generalize ((Mk.setCell ⟨b12, 0, none⟩ (.string P.f0)).setCell ⟨b12, 1, none⟩ (.string P.f1)).setCell ⟨b12, 2, none⟩ (.int .i64 P.f2) = ws at *
   obtain ⟨Ax, cx, ex⟩ := Kd.bJ XS.out.hx
   subst ex
   obtain ⟨d0, d1, d2, g1, g2⟩ := XS.out.cf
   have e0 : ws.cell? ⟨b12, 0, none⟩ = some (.string P.f0) := (aA BS.out 0).trans rfl
   have ea : ws.cell? (ax.add x.toNat) = some (.int .i64 (rd args x)) := (HBS.out.cell (World.block_lt_of_cell? W _ HAX.out)).trans HAX.out
   have hxl : ((aC.Pf p.f1 args).take x.toNat).length ≤ 3518437208000 := by have := HP.out; simp [aC.Pf]; omega
   generalize hxs : (aC.Pf p.f1 args).take x.toNat = xs at *
   generalize hys : (aC.Pf p.f1 args).take (x + 1).toNat = ys at *
   have HYS := za hys
   have HXL := za hxl
   clear hxl hxs hys
   have da1 : ∀ o, (ws.alloc o).cell? ⟨bf, 1, none⟩ = some (.slice Ax xs.length cx) := fun o => bR (bT (Below.refl _ _) o) d1
   have da2 : ∀ o, (ws.alloc o).cell? ⟨b12, 0, none⟩ = some (.string P.f0) := fun o => bR (bT (Below.refl _ _) o) e0
   have da3 : ∀ o, (ws.alloc o).cell? (ax.add x.toNat) = some (.int .i64 (rd args x)) := fun o => bR (bT (Below.refl _ _) o) ea
   go_region_law (first | (refine Kd.nO pR (w0 := w0) (W := ws.drew) w0.heap.size (by rfl) (.tmp 29) (.tmp 37) 33 51 (.agg #[(.string ⟨#[]⟩), (.string ⟨#[]⟩), (.int .i64 0)]) 40 rfl Try.underlying33 CP rfl (by decide) (by omega) _ xs (⟨(⟨#[]⟩ : ByteArray), P.f0, rd args x⟩ : gK) [.string (⟨#[]⟩ : ByteArray), .string P.f0, .int .i64 (rd args x)] (fun _ => True) (fun _ => False) rfl rfl ?aP (fun _ hk => hk.elim) ?aF ?aO ?aB ?aS ?aL ?_; (case aP => exact Fw _ _ _ (⟨(⟨#[]⟩ : ByteArray), P.f0, rd args x⟩ : gK)); (case aF => exact fun _ _ => trivial); (case aO => exact Kd.bP XS.out.hx); (case aB => exact gN XS.out.hB); (case aS => exact XS.out.sz); (case aL => have := HXL.out; omega); intro v1 w1 ho hb hg hat; rw [← HLA.out] at ho; obtain ⟨A9, c9, e9⟩ := Kd.bJ ho; subst e9; have XS1 := za ((XS.out.below (gN (Below.refl _ _))).app ho hb hg hat); have bMf := za (aV (g := bf) (j := 1) (v := .slice A9 ys.length c9) (vR (gN HBS.out) _ (aT (gN HBS.out)) hg (fun k hk => HVX.out k hk)) GF.out); have XD := XS.out.below (W' := ws.drew) (gN (Below.refl _ _)); have f1 := aD (eD XD.hf hg (Kd.nA XD.hx XD.hf (by decide))) 1; have d1 := (aA (eD XD.hf hg (Kd.nA XD.hx XD.hf (by decide))) 1).trans rfl; have B6W := za (dJ (eD (dE B6S.out) hg (Kd.nA XD.hx (dE B6S.out) (by decide))) (p := ⟨bf, 1, none⟩) (nZ B6S.out XS.out.hf (by decide)) (.slice A9 ys.length c9)); have HV1 := za (aC.L8 HVX.out (aT HBS.out) hat); clear ho hb hg hat XD d0 d2 g1 g2 e0 ea))
   all_goals go_wp2
   all_goals go_roundw
   all_goals (first | exact ⟨x + 1, _, by go_num, by omega, by omega, ⟨by rw [HYS.out]; exact XS1.out⟩, bMf, HV1, B6W⟩ | (simp [intOf]; omega))
  ·
   have e6 : wr.cell? ⟨b6, 6, none⟩ = some (.slice A6 p.f6.length c6) := (aA B6R.out 6).trans rfl
   have hxe : aG (x = (p.f1.length : Int)) := ⟨by omega⟩
   have hlen : (aC.Pf p.f1 args).length = p.f1.length := by have := HN.out; simp [aC.Pf]; omega
   have XE : aG (aC.ST w0 wr br bf l AL cL mod m fu tr (aC.Pf p.f1 args) 0 vm vt vx) := ⟨by have h := XR.out; rw [hxe.out, List.take_of_length_le (by omega)] at h; exact h⟩
   have HQ2 := HQ.out
   rw [← hlen] at HQ2
   have HQ3 := za HQ2
   clear HQ2 hlen XR
   go_wp2_with ((go_at_call 22; refine (aC.yB w0 br bf l AL cL mod f (HF.out bf) p.f6 A6 c6 wr m m2 fu Zb tr Xb _ Jh 0 Xc vm vt vx b2 XE.out Y0.out.g6 HQ3.out).mono ?_; rintro e w7 ⟨jm, jo, uh, rfl, hx7, hs7⟩; have X7 := za hx7; have KP : aG (Kept W w7 (fun k => k = br ∨ vt.ownBlock = some k)) := ⟨(Kept.of_below si.out _).sK hs7.k (fun k hk => by rcases hk with h | h | h | h; exact .inl (.inl h); exact .inr (by rw [h]; exact GF.out); exact .inl (.inr h); exact .inr (HVX.out k h))⟩; have HT : aG (∀ k, jo.ownBlock = some k → vt.ownBlock = some k ∨ W.heap.size ≤ k) := ⟨fun k hk => (hs7.t k hk).elim .inl (fun z => .inr (Nat.le_trans (aT si.out) z))⟩; have HMW : aG (∀ k, jm.ownBlock = some k → vm.ownBlock = some k ∨ W.heap.size ≤ k) := ⟨fun k hk => (hs7.m k hk).elim .inl (fun z => .inr (Nat.le_trans (aT si.out) z))⟩; clear hx7 hs7 e6; obtain ⟨d0, d1, d2, g1, g2⟩ := X7.out.cf))
   go_ret2
   exact ⟨_, _, rfl, X7.out.ru, KP.out, HT.out, HMW.out⟩
end
section
theorem aC.aC8 {α : Type} {d : Kd α} {e : Nat} {w : World} {base : Nat} {ok ok' : Nat → Prop} {v : Value} {xs : List α} (hE : d.E = []) (h : d.R e w base ok v xs) (hk : ∀ k, v.ownBlock = some k → ok' k) : d.R e w base ok' v xs := by
 obtain ⟨h0, inner, ho, hr⟩ := h
 exact ⟨hk, inner, ho, hr.Dr (fun _ _ hp => d.kK (fun k hk => by obtain ⟨_, _, _, q, hq, _⟩ := hk; rw [hE] at hq; cases hq) (d.lU hp))⟩
theorem aC.ST.back {w0 W W' : World} {br bf : Nat} {l : List nM} {AL : Option Addr} {cL : Nat} {mod : ByteArray} {m m' : List gK} {fu zT : Int} {tr yT : List ByteArray} {loc : List gK} {res : Int} {vm vt vx vQ xC : Value} (x : aC.ST w0 W br bf l AL cL mod m fu tr loc res vm vt vx) (u : aC.RU w0 W' br l AL cL m' zT yT vQ xC) (hk : Kept W W' (fun k => k = br ∨ vt.ownBlock = some k)) (hm : ∀ k, vQ.ownBlock = some k → vm.ownBlock = some k ∨ W.heap.size ≤ k) : aC.ST w0 W' br bf l AL cL mod m' zT yT loc res vQ xC vx :=
 ⟨u.hB, u.hr, pQ x.hf hk (fun z => z.elim (Ne.symm x.ne) (fun e => Kd.nA x.ht x.hf (by decide) e.symm)),
  aC.aC8 rfl u.hm (fun k e z => (hm k e).elim (fun h => x.hm.1 k h z) (fun h => by have := Kd.Hg x.hx k z.symm; omega)), u.ht,
  Kd.aQ (Kd.yc (Kd.jO x.hx) hk (fun k hk e => by
   obtain ⟨_, _, _, q, hq, cs, hc⟩ := hk
   rcases e with e | e
   ·
    subst e
    rw [x.hr] at hc
    injection hc with hc
    injection hc with _ ht _
    subst ht
    revert hq
    decide
   ·
    obtain ⟨cs2, hc2⟩ := Kd.oG x.ht k e
    rw [hc2] at hc
    injection hc with hc
    injection hc with _ ht _
    subst ht
    revert hq
    decide)) (fun _ h => h.1), x.gr, x.gf⟩
theorem aC.ST.ints {w0 W w1 : World} {br bf : Nat} {l : List nM} {AL : Option Addr} {cL : Nat} {mod : ByteArray} {m : List gK} {fu : Int} {tr : List ByteArray} {loc : List gK} {res : Int} {vm vt vx : Value} {base : Nat} {u : Value} {ys : List Int} (x : aC.ST w0 W br bf l AL cL mod m fu tr loc res vm vt vx) (h : (Kd.int .i64).R 3 W base (fun _ => True) u ys) (hb : w0.heap.size ≤ base) (hg : W.grownBy w1 u.ownBlock) : aC.ST w0 w1 br bf l AL cL mod m fu tr loc res vm vt vx :=
 ⟨vR x.hB _ x.sz hg (fun k e => Nat.le_trans hb (Kd.iV h k e)), eD x.hr hg (Kd.nA h x.hr (by decide)), eD x.hf hg (Kd.nA h x.hf (by decide)), Kd.Nz x.hm h (by decide) hg, Kd.Nz x.ht h (by decide) hg, Kd.Nz x.hx h (by decide) hg, x.gr, x.gf⟩
def aC.Gh (xs : List (List dP)) (i : Int) : List dP := xs.getD i.toNat ([] : List dP)
theorem aC.aIK {w : World} {A : Option Addr} {n : Nat} {xs : List (List dP)} (h : Kd.C (Kd.slice 112 gU) w A n xs) (i : Int) (h0 : 0 ≤ i) (h1 : i < n) : ∃ ad A0 c0, A = some ad ∧ w.cell? (ad.add i.toNat) = some (.slice A0 (aC.Gh xs i).length c0) ∧ (aC.Gh xs i).length ≤ c0 ∧ gU.C w A0 (aC.Gh xs i).length (aC.Gh xs i) := by
 obtain ⟨ad, c, e, _, hK, hc0⟩ := Kd.Ps h ([] : List dP) i h0 h1
 have hc : ∀ j u, c[j]? = some u → w.cell? (ad.add (i.toNat * 1 + j)) = some u := hc0
 obtain ⟨A0, c0, rfl, l0, g0⟩ := hK
 exact ⟨ad, A0, c0, e, by have hq := hc 0 _ rfl; rwa [Nat.mul_one, Nat.add_zero] at hq, l0, g0⟩
def aC.evs (g : List dP → Option Int) : List (List dP) → Option (List Int)
 | [] => some []
 | a :: t => (g a).bind fun v => (aC.evs g t).bind fun vs => some (v :: vs)
theorem aC.uj (l : List (List dP)) (x : Int) (h0 : 0 ≤ x) (h1 : x < (l.length : Int)) : l.drop x.toNat = aC.Gh l x :: l.drop (x + 1).toNat := by
 have h : x.toNat < l.length := by omega
 rw [List.drop_eq_getElem_cons h, show (x + 1).toNat = x.toNat + 1 by omega]
 simp [aC.Gh, List.getD_eq_getElem?_getD, h]
def aC.call (f : ByteArray → mO → aC.RT → Option (Bool × aC.RT)) (k : Nat) (l : List nM) (mod : ByteArray) (s : mO) (st : aC.RT) : Option (Bool × aC.RT) :=
 if s.f9.length < 3518437208000 then
  (aC.evs (fun a => bI.f k a ((a.length : Int) - 1) mod st.2.2.2.1 st.1) s.f9).bind fun args =>
   if (aC.find l (if s.f6.toList = ([] : List UInt8) then mod else s.f6) s.f7 (args.length : Int)).2 = true then
    (aC.body (f (if s.f6.toList = ([] : List UInt8) then mod else s.f6)) (aC.find l (if s.f6.toList = ([] : List UInt8) then mod else s.f6) s.f7 (args.length : Int)).1 args st.1 st.2.1 st.2.2.1).bind fun q =>
     if q.2.1 = true then (if s.f5 = true then (aC.WR k mod s.f2 s.f3 q.1 (q.2.2.1, q.2.2.2.1, q.2.2.2.2, st.2.2.2)).bind fun st2 => some (true, st2) else some (true, q.2.2.1, q.2.2.2.1, q.2.2.2.2, st.2.2.2))
     else some (false, q.2.2.1, q.2.2.2.1, q.2.2.2.2, st.2.2.2)
   else some (true, st)
 else none
theorem aC.Uk {l : List nM} {mod proc : ByteArray} {n : Int} {p : Cg} (h : aC.find l mod proc n = (p, true)) : (p.f1.length : Int) = n := by
 unfold aC.find at h
 split at h
 ·
  cases h
 ·
  split at h
  ·
   cases h
  ·
   split at h
   ·
    rename_i e
    cases h
    exact e
   ·
    cases h
theorem aC.M0 (w0 : World) (br : Nat) (l : List nM) (AL : Option Addr) (cL : Nat) (hL : k31.C w0 AL l.length l) (hcL : l.length ≤ cL) (k : Nat) (f : ByteArray → mO → aC.RT → Option (Bool × aC.RT)) (hf : ∀ md bf, aC.Xa w0 br bf l AL cL md (f md)) (bf : Nat) (mod : ByteArray)
  (s : mO) (W : World) (m m' : List gK) (fu zT : Int) (tr yT : List ByteArray) (loc loc' : List gK) (res rA : Int) (vm vt vx : Value) (b : Bool) (A8 : Option Addr) (c8 : Nat) (A9 : Option Addr) (c9 : Nat) (qR : Option Addr) (c10 : Nat) (sM : Option Addr) (c11 : Nat)
  (x : aC.ST w0 W br bf l AL cL mod m fu tr loc res vm vt vx) (y : aC.SV w0 s A8 c8 A9 c9 qR c10 sM c11) (h : aC.call f k l mod s (m, fu, tr, loc, res) = some (b, m', zT, yT, loc', rA)) :
  Calls Try.prog 42 #[.pointer (some ⟨br, 0, none⟩), .pointer (some ⟨bf, 0, none⟩), .agg (aC.Wz s A8 c8 A9 c9 qR c10 sM c11)] W fun e w' => ∃ vQ xC, e = .returned (.bool b) ∧ aC.ST w0 w' br bf l AL cL mod m' zT yT loc' rA vQ xC vx ∧ aC.Stp W w' br bf vm vt vx vQ xC vx := by
 have aOs := Try.underlying94
 have QX := Try.underlying38
 unfold aC.call at h
 by_cases hsl : s.f9.length < 3518437208000
 case neg => rw [if_neg hsl] at h; cases h
 rw [if_pos hsl] at h
 obtain ⟨args, hev, h⟩ := Option.bind_eq_some_iff.mp h
 obtain ⟨md, hmd, hmb⟩ : ∃ md, (if s.f6.toList = ([] : List UInt8) then mod else s.f6) = md ∧ ((s.f6.toList.isEmpty = true ∧ md = mod) ∨ (s.f6.toList.isEmpty = false ∧ md = s.f6)) := by
  by_cases e : s.f6.toList = ([] : List UInt8)
  ·
   exact ⟨_, if_pos e, .inl ⟨by rw [e]; rfl, rfl⟩⟩
  ·
   exact ⟨_, if_neg e, .inr ⟨by simpa using e, rfl⟩⟩
 rw [hmd] at h
 obtain ⟨p, bb, hf0⟩ : ∃ p b, aC.find l md s.f7 (args.length : Int) = (p, b) := ⟨_, _, rfl⟩
 rw [hf0] at h
 dsimp only at h
 have X0 := za x
 have Y0 := za y
 have HL := za hL
 have HF := za hf
 have HE := za hev
 have HFD := za hf0
 have HH := za h
 have HSL := za hsl
 have HMB := za hmb
 clear x y hL hf hev hf0 h hsl hmd hmb
 go_enter Try.func42, Try.ntmps42
 go_wp2_with (((with_reducible refine bO (N := 5) rfl ?_); refine bZ ?hg (N := 5) ?hd (cs := aC.Wz s A8 c8 A9 c9 qR c10 sM c11) (t := 94) ?hr ?_; (case hd => rfl); (case hg => rfl); (case hr => exact jA); intro b5 hg5 w5 hx5 hb5; have X5 := za (X0.out.below hb5); have Bw := za hb5; have B5 := za hx5; have e9 : w5.cell? ⟨b5, 9, none⟩ = some (.slice A9 s.f9.length c9) := (aA hx5 9).trans rfl; clear hx5 hb5 hg5))
 clear e9
 have wm := Kd.Pw Y0.out.g9
 go_loopw [7, 18] (fun u i wr => ∃ (x : Int) (ys zs : List Int), i = .int .i64 x ∧ 0 ≤ x ∧ x ≤ (s.f9.length : Int) ∧ aG (aC.evs (fun a => bI.f k a ((a.length : Int) - 1) mod loc m) (s.f9.drop x.toNat) = some zs ∧ ys ++ zs = args ∧ ys.length = x.toNat) ∧ aG ((Kd.int .i64).R 3 wr W.heap.size (fun _ => True) u ys) ∧ aG (aC.ST w0 wr br bf l AL cL mod m fu tr loc res vm vt vx) ∧ aG (Below W.heap.size W wr) ∧ aG (wr.heap[b5]? = some (.cells (aC.Wz s A8 c8 A9 c9 qR c10 sM c11) 94 (0, 0)))) (fun _ i _ => s.f9.length - (intOf i).toNat)
 case atStart => exact ⟨0, [], args, rfl, by omega, by omega, ⟨HE.out, rfl, rfl⟩, ⟨Kd.mW _ _ _ _ _⟩, X5, Bw, B5⟩
 case round =>
  obtain ⟨x, ys, zs, rfl, h0, h1, HI, HR, XR, si, BR⟩ := hrel
  by_cases hlt : x < (s.f9.length : Int)
  ·
   have p0 := eq_true h0
   have p1 := eq_true hlt
   obtain ⟨ad, Aa, ca, ea, hxa, la, qa⟩ := aC.aIK Y0.out.g9 x h0 hlt
   cases ea
   obtain ⟨hev, hyz, hyl⟩ := HI.out
   rw [aC.uj s.f9 x h0 hlt] at hev
   unfold aC.evs at hev
   obtain ⟨v1, hv1, hev⟩ := Option.bind_eq_some_iff.mp hev
   obtain ⟨vs, hvs, hev⟩ := Option.bind_eq_some_iff.mp hev
   injection hev with hev
   subst hev
   generalize aC.Gh s.f9 x = E at *
   have QA := za qa
   have LA := za la
   have HV := za hv1
   have HJ : aG (aC.evs (fun a => bI.f k a ((a.length : Int) - 1) mod loc m) (s.f9.drop (x + 1).toNat) = some vs ∧ (ys ++ [v1]) ++ vs = args ∧ (ys ++ [v1]).length = (x + 1).toNat) := ⟨hvs, by rw [List.append_assoc]; exact hyz, by rw [List.length_append, hyl]; simp; omega⟩
   have HYL := za hyl
   replace hxa := (XR.out.hB.cell (World.block_lt_of_cell? w0 _ hxa)).trans hxa
   clear hv1 hvs hyz hyl qa la HI
   go_wp2_with (first | (go_at_call 39; refine (aC.pW k XR.out _ _ E v1 (Kd.dG QA.out XR.out.hB) LA.out HV.out).mono ?_; rintro e w7 ⟨rfl, hx7, He⟩; have X7 := za hx7; have HB7 := za (aM si.out He); have B7 := za (aY BR.out He); have R7 := za (Kd.iX HR.out He); clear hx7 He hxa) | ((with_reducible refine iK (b := .append) (xs := #[.tmp 22, .tmp 27]) rfl ?_); at_builtin; refine Kd.nP (Kd.int .i64) (w0 := W) W.heap.size rfl (.tmp 22) (.tmp 27) 23 3 (.int .i64 0) 8 rfl Try.underlying23 info3 rfl (by decide) (by omega) _ ys v1 [.int .i64 v1] (fun _ => True) (fun _ => False) rfl rfl ?aP (fun _ hk => hk.elim) ?aF ?aO ?aB ?aS ?aL ?_; (case aP => exact rfl); (case aF => exact fun _ _ => trivial); (case aO => exact R7.out); (case aB => exact HB7.out); (case aS => exact aT HB7.out); (case aL => have := HYL.out; have := HSL.out; omega); intro u8 w8 ho hb hg hat; have R8 := za ho; have HB8 := za hb; have HG8 := za hg; clear ho hb hg hat))
   have X8 := za (X7.out.ints R7.out X0.out.sz HG8.out)
   have B8 := za (eD B7.out HG8.out (Kd.nA R7.out B7.out (by decide)))
   go_roundw
   case rel => exact ⟨x + 1, _, vs, by go_num, by omega, by omega, HJ, R8, X8, HB8, B8⟩
   case measure => simp [intOf]; omega
  ·
   obtain ⟨hev, hyz, hyl⟩ := HI.out
   rw [List.drop_eq_nil_of_le (by omega)] at hev
   injection hev with hev
   subst hev
   rw [List.append_nil] at hyz
   subst hyz
   have e6 : wr.cell? ⟨b5, 6, none⟩ = some (.string s.f6) := (aA BR.out 6).trans rfl
   have e7 : wr.cell? ⟨b5, 7, none⟩ = some (.string s.f7) := (aA BR.out 7).trans rfl
   have er : wr.cell? ⟨br, 0, none⟩ = some (.slice AL l.length cL) := XR.out.cr.1
   have ef : wr.cell? ⟨bf, 0, none⟩ = some (.string mod) := XR.out.cf.1
   obtain ⟨Aa, ca, ea⟩ := Kd.bJ HR.out
   subst ea
   have HC := za (Kd.cZ HR.out).2.2
   clear HI hyl
   rcases HMB.out with ⟨hb, rfl⟩ | ⟨hb, rfl⟩
   all_goals clear HMB
   all_goals have nr := World.new_ne wr _ er
   all_goals have n7 := World.new_ne wr _ e7
   all_goals go_wp2
   all_goals (go_region_held3 (fun w' => w'.cell? ⟨br, 0, none⟩ = some (.slice AL l.length cL) ∧ w'.cell? ⟨b5, 7, none⟩ = some (.string s.f7)) (first | go_keep) ((first | (go_at_call 13; refine (aC.xD AL cL l _ s.f7 ys.length p bb w0 wr.drew HL.out (gN XR.out.hB) hcL HFD.out).mono ?_; rintro e w2 ⟨A1, k1, A5, k5, A6, k6, rfl, hp, hb2⟩; have HPV := za hp; have HB2 : aG (Below wr.heap.size wr w2) := ⟨aM (gN (Below.refl _ _)) hb2⟩; have er2 := bR HB2.out er; have e72 := bR HB2.out e7; have nr2 := World.new_ne w2 _ er2; have n72 := World.new_ne w2 _ e72; clear hp hb2) | (go_at_call 13; refine (aC.xD AL cL l _ s.f7 ys.length p bb w0 (wr.drew.alloc (.cells #[.string (⟨#[]⟩ : ByteArray), .slice none 0 0, .bool false, .string (⟨#[]⟩ : ByteArray), .string (⟨#[]⟩ : ByteArray), .slice none 0 0, .slice none 0 0, .int .i64 0] 38)) HL.out (bT (gN XR.out.hB) _) hcL HFD.out).mono ?_; rintro e w2 ⟨A1, k1, A5, k5, A6, k6, rfl, hp, hb2⟩; have HPV := za hp; have HB2 : aG (Below wr.heap.size wr w2) := ⟨aM (bT (gN (Below.refl _ _)) _) hb2⟩; have er2 := bR HB2.out er; have e72 := bR HB2.out e7; have nr2 := World.new_ne w2 _ er2; have n72 := World.new_ne w2 _ e72; have BK : w2.heap[wr.heap.size]? = some (Obj.cells #[.string (⟨#[]⟩ : ByteArray), .slice none 0 0, .bool false, .string (⟨#[]⟩ : ByteArray), .string (⟨#[]⟩ : ByteArray), .slice none 0 0, .slice none 0 0, .int .i64 0] 38 (0, 0)) := aY (pJ wr.drew (.cells #[.string (⟨#[]⟩ : ByteArray), .slice none 0 0, .bool false, .string (⟨#[]⟩ : ByteArray), .string (⟨#[]⟩ : ByteArray), .slice none 0 0, .slice none 0 0, .int .i64 0] 38)) hb2; have BKA := za BK; have kk0 : w2.cell? ⟨wr.heap.size, 0, none⟩ = _ := (aA BK 0).trans rfl; have jj0 : w2.frozen? ⟨wr.heap.size, 0, none⟩ = false := aD BK 0; have kk1 : w2.cell? ⟨wr.heap.size, 1, none⟩ = _ := (aA BK 1).trans rfl; have jj1 : w2.frozen? ⟨wr.heap.size, 1, none⟩ = false := aD BK 1; have kk2 : w2.cell? ⟨wr.heap.size, 2, none⟩ = _ := (aA BK 2).trans rfl; have jj2 : w2.frozen? ⟨wr.heap.size, 2, none⟩ = false := aD BK 2; have kk3 : w2.cell? ⟨wr.heap.size, 3, none⟩ = _ := (aA BK 3).trans rfl; have jj3 : w2.frozen? ⟨wr.heap.size, 3, none⟩ = false := aD BK 3; have kk4 : w2.cell? ⟨wr.heap.size, 4, none⟩ = _ := (aA BK 4).trans rfl; have jj4 : w2.frozen? ⟨wr.heap.size, 4, none⟩ = false := aD BK 4; have kk5 : w2.cell? ⟨wr.heap.size, 5, none⟩ = _ := (aA BK 5).trans rfl; have jj5 : w2.frozen? ⟨wr.heap.size, 5, none⟩ = false := aD BK 5; have kk6 : w2.cell? ⟨wr.heap.size, 6, none⟩ = _ := (aA BK 6).trans rfl; have jj6 : w2.frozen? ⟨wr.heap.size, 6, none⟩ = false := aD BK 6; have kk7 : w2.cell? ⟨wr.heap.size, 7, none⟩ = _ := (aA BK 7).trans rfl; have jj7 : w2.frozen? ⟨wr.heap.size, 7, none⟩ = false := aD BK 7; clear hp hb2 BK))))
   all_goals (first | (have BQ : aG (((((((((w2.setCell ⟨wr.heap.size, 0, none⟩ (.string p.f0)).setCell ⟨wr.heap.size, 1, none⟩ (.slice A1 p.f1.length k1)).setCell ⟨wr.heap.size, 2, none⟩ (.bool p.f2)).setCell ⟨wr.heap.size, 3, none⟩ (.string p.f3)).setCell ⟨wr.heap.size, 4, none⟩ (.string p.f4)).setCell ⟨wr.heap.size, 5, none⟩ (.slice A5 p.f5.length k5)).setCell ⟨wr.heap.size, 6, none⟩ (.slice A6 p.f6.length k6)).setCell ⟨wr.heap.size, 7, none⟩ (.int .i64 p.f7)).heap[wr.heap.size]? = some (.cells (aC.vz p A1 k1 A5 k5 A6 k6) 38 (0, 0))) := ⟨aC.ug BKA.out _ _ _ _ _ _ _ _⟩; have HQ : aG (Below wr.heap.size wr ((((((((w2.setCell ⟨wr.heap.size, 0, none⟩ (.string p.f0)).setCell ⟨wr.heap.size, 1, none⟩ (.slice A1 p.f1.length k1)).setCell ⟨wr.heap.size, 2, none⟩ (.bool p.f2)).setCell ⟨wr.heap.size, 3, none⟩ (.string p.f3)).setCell ⟨wr.heap.size, 4, none⟩ (.string p.f4)).setCell ⟨wr.heap.size, 5, none⟩ (.slice A5 p.f5.length k5)).setCell ⟨wr.heap.size, 6, none⟩ (.slice A6 p.f6.length k6)).setCell ⟨wr.heap.size, 7, none⟩ (.int .i64 p.f7))) := ⟨aC.rV HB2.out (Nat.le_refl _) _ _ _ _ _ _ _ _⟩; generalize ((((((((w2.setCell ⟨wr.heap.size, 0, none⟩ (.string p.f0)).setCell ⟨wr.heap.size, 1, none⟩ (.slice A1 p.f1.length k1)).setCell ⟨wr.heap.size, 2, none⟩ (.bool p.f2)).setCell ⟨wr.heap.size, 3, none⟩ (.string p.f3)).setCell ⟨wr.heap.size, 4, none⟩ (.string p.f4)).setCell ⟨wr.heap.size, 5, none⟩ (.slice A5 p.f5.length k5)).setCell ⟨wr.heap.size, 6, none⟩ (.slice A6 p.f6.length k6)).setCell ⟨wr.heap.size, 7, none⟩ (.int .i64 p.f7)) = wq at *; clear BKA) | (have BQ : aG ((w2.alloc (.cells (aC.vz p A1 k1 A5 k5 A6 k6) 38)).heap[w2.heap.size]? = some (.cells (aC.vz p A1 k1 A5 k5 A6 k6) 38 (0, 0))) := ⟨pJ w2 _⟩; have HQ : aG (Below wr.heap.size wr (w2.alloc (.cells (aC.vz p A1 k1 A5 k5 A6 k6) 38))) := ⟨bT HB2.out _⟩; change Exit.then _ _ _ _ (w2.alloc (.cells (aC.vz p A1 k1 A5 k5 A6 k6) 38)); generalize w2.alloc (.cells (aC.vz p A1 k1 A5 k5 A6 k6) 38) = wq at *))
   all_goals cases bb with
   | false =>
    have h := HH.out
    rw [if_neg Bool.false_ne_true] at h
    simp only [Option.some.injEq, Prod.mk.injEq] at h
    obtain ⟨rfl, rfl, rfl, rfl, rfl, rfl⟩ := h
    go_wp2
    go_ret
    exact ⟨_, _, rfl, XR.out.below HQ.out, aC.Stp.of_below (aM si.out HQ.out)⟩
   | true =>
    have h := HH.out
    rw [if_pos rfl] at h
    obtain ⟨⟨v, b2, m2, Zb, Xb⟩, hbd, h⟩ := Option.bind_eq_some_iff.mp h
    dsimp only at h
    have HBD := za hbd
    have H2 := za h
    clear hbd h HH
    have q0 := (aA BQ.out 0).trans rfl; have q1 := (aA BQ.out 1).trans rfl; have q2 := (aA BQ.out 2).trans rfl; have q3 := (aA BQ.out 3).trans rfl; have q4 := (aA BQ.out 4).trans rfl; have q5 := (aA BQ.out 5).trans rfl; have q6 := (aA BQ.out 6).trans rfl; have q7 := (aA BQ.out 7).trans rfl
    cases b2 with
    | false =>
     have h := H2.out
     rw [if_neg Bool.false_ne_true] at h
     simp only [Option.some.injEq, Prod.mk.injEq] at h
     obtain ⟨rfl, rfl, rfl, rfl, rfl, rfl⟩ := h
     go_wp2_with (go_at_call 15; refine (aC.Gg w0 br l AL cL _ (f _) (fun bf => HF.out _ bf) p A1 k1 A5 k5 A6 k6 ys _ _ wq m m2 fu Zb tr Xb v false vm vt (XR.out.below HQ.out).ru HPV.out (Kd.dG HC.out HQ.out) (by have := aC.Uk HFD.out; omega) HBD.out).mono ?_; rintro e w9 ⟨vm9, vt9, rfl, hu9, uk, ht9, wm⟩; have X9 := za ((XR.out.below HQ.out).back hu9 uk wm); have S9 : aG (aC.Stp W w9 br bf vm vt vx vm9 vt9 vx) := ⟨(aC.Stp.of_below (aM si.out HQ.out)).trans ⟨uk.mono (fun k h => h.elim .inl (fun z => .inr (.inr (.inl z)))), wm, ht9, fun _ h => .inl h⟩⟩; clear hu9 uk ht9 wm q0 q1 q2 q3 q4 q5 q6 q7)
     go_ret
     exact ⟨_, _, rfl, X9.out, S9.out⟩
    | true =>
     have h := H2.out
     rw [if_pos rfl] at h
     by_cases h5 : s.f5 = true
     ·
      rw [if_pos h5] at h
      obtain ⟨⟨m3, fu3, tr3, bQQ, bQR⟩, hset, h⟩ := Option.bind_eq_some_iff.mp h
      simp only [Option.some.injEq, Prod.mk.injEq] at h
      obtain ⟨rfl, rfl, rfl, rfl, rfl, rfl⟩ := h
      have HST := za hset
      have H5 := za h5
      clear hset h5
      go_wp2_with (first | (go_at_call 15; refine (aC.Gg w0 br l AL cL _ (f _) (fun bf => HF.out _ bf) p A1 k1 A5 k5 A6 k6 ys _ _ wq m m2 fu Zb tr Xb v true vm vt (XR.out.below HQ.out).ru HPV.out (Kd.dG HC.out HQ.out) (by have := aC.Uk HFD.out; omega) HBD.out).mono ?_; rintro e w9 ⟨vm9, vt9, rfl, hu9, uk, ht9, wm⟩; have X9 := za ((XR.out.below HQ.out).back hu9 uk wm); have B9 := pQ (aY BR.out HQ.out) uk (fun z => z.elim (nZ BR.out XR.out.hr (by decide)) (fun e => Kd.nA XR.out.ht BR.out (by decide) e.symm)); have s5 : w9.cell? ⟨b5, 5, none⟩ = some (.bool true) := (aA B9 5).trans (by show some (Value.bool s.f5) = _; rw [H5.out]); have s2 : w9.cell? ⟨b5, 2, none⟩ = some (.string s.f2) := (aA B9 2).trans rfl; have s3 : w9.cell? ⟨b5, 3, none⟩ = some (.string s.f3) := (aA B9 3).trans rfl; clear B9; have S9 : aG (aC.Stp W w9 br bf vm vt vx vm9 vt9 vx) := ⟨(aC.Stp.of_below (aM si.out HQ.out)).trans ⟨uk.mono (fun k h => h.elim .inl (fun z => .inr (.inr (.inl z)))), wm, ht9, fun _ h => .inl h⟩⟩; clear hu9 uk ht9 wm q0 q1 q2 q3 q4 q5 q6 q7) | (go_at_call 40; refine (aC.MK k X9.out HST.out).mono ?_; rintro e w10 ⟨e0, bQS, rfl, WO, aEV⟩; have X10 := za WO; have S10 := za (S9.out.trans aEV); clear WO aEV))
      go_ret
      exact ⟨_, _, rfl, X10.out, S10.out⟩
     ·
      rw [if_neg h5] at h
      simp only [Option.some.injEq, Prod.mk.injEq] at h
      obtain ⟨rfl, rfl, rfl, rfl, rfl, rfl⟩ := h
      have H5 : aG (s.f5 = false) := ⟨by simpa using h5⟩
      clear h5
      go_wp2_with (go_at_call 15; refine (aC.Gg w0 br l AL cL _ (f _) (fun bf => HF.out _ bf) p A1 k1 A5 k5 A6 k6 ys _ _ wq m m2 fu Zb tr Xb v true vm vt (XR.out.below HQ.out).ru HPV.out (Kd.dG HC.out HQ.out) (by have := aC.Uk HFD.out; omega) HBD.out).mono ?_; rintro e w9 ⟨vm9, vt9, rfl, hu9, uk, ht9, wm⟩; have X9 := za ((XR.out.below HQ.out).back hu9 uk wm); have B9 := pQ (aY BR.out HQ.out) uk (fun z => z.elim (nZ BR.out XR.out.hr (by decide)) (fun e => Kd.nA XR.out.ht BR.out (by decide) e.symm)); have s5 : w9.cell? ⟨b5, 5, none⟩ = some (.bool false) := (aA B9 5).trans (by show some (Value.bool s.f5) = _; rw [H5.out]); clear B9; have S9 : aG (aC.Stp W w9 br bf vm vt vx vm9 vt9 vx) := ⟨(aC.Stp.of_below (aM si.out HQ.out)).trans ⟨uk.mono (fun k h => h.elim .inl (fun z => .inr (.inr (.inl z)))), wm, ht9, fun _ h => .inl h⟩⟩; clear hu9 uk ht9 wm q0 q1 q2 q3 q4 q5 q6 q7)
      go_ret
      exact ⟨_, _, rfl, X9.out, S9.out⟩
end
section
theorem aC.ST.trc {w0 W w1 : World} {br bf : Nat} {l : List nM} {AL : Option Addr} {cL : Nat} {mod : ByteArray} {m : List gK} {fu : Int} {tr yT : List ByteArray} {loc : List gK} {res : Int} {vm vt vx v1 : Value} (x : aC.ST w0 W br bf l AL cL mod m fu tr loc res vm vt vx) (h1 : Kd.string.R 9 w1 w0.heap.size (fun _ => True) v1 yT) (hB1 : Below w0.heap.size w0 w1) (hg : W.grownBy w1 vt.ownBlock) :
  aC.ST w0 (w1.setCell ⟨br, 3, none⟩ v1) br bf l AL cL mod m fu yT loc res vm v1 vx :=
 have hr1 := eD x.hr hg (Kd.nA x.ht x.hr (by decide))
 have hf1 := eD x.hf hg (Kd.nA x.ht x.hf (by decide))
 ⟨aV hB1 x.gr, bD hr1 3 _ rfl, dJ hf1 (Ne.symm x.ne) _, Kd.qP (Kd.Nz x.hm x.ht (by decide) hg) hr1 (by decide) 3 _, Kd.qP h1 hr1 (by decide) 3 _, Kd.qP (Kd.Nz x.hx x.ht (by decide) hg) hr1 (by decide) 3 _, x.gr, x.gf⟩
theorem aC.Stp.trc {W W' w1 : World} {br bf : Nat} {vm vt vx vQ xC Er v1 : Value} (h : aC.Stp W W' br bf vm vt vx vQ xC Er) (hg : W'.grownBy w1 xC.ownBlock) (hat : v1.ownBlock = xC.ownBlock ∨ ∃ b, v1.ownBlock = some b ∧ W'.heap.size ≤ b) : aC.Stp W w1 br bf vm vt vx vQ v1 Er :=
 ⟨Kept.mV hg h.k (fun k e => (h.t k e).elim (fun z => .inl (.inr (.inr (.inl z)))) .inr), h.m,
  fun k e => by
   rcases hat with e1 | ⟨b, e1, hb⟩
   ·
    exact h.t k (by rw [← e1]; exact e)
   ·
    rw [e1] at e
    injection e with e
    have := h.k.1
    right
    omega,
  h.x⟩
theorem aC.Stp.app {W W' w1 : World} {br bf : Nat} {vm vt vx vQ xC Er v1 : Value} (h : aC.Stp W W' br bf vm vt vx vQ xC Er) (hg : W'.grownBy w1 Er.ownBlock) (hat : v1.ownBlock = Er.ownBlock ∨ ∃ b, v1.ownBlock = some b ∧ W'.heap.size ≤ b) (j : Nat) (u : Value) : aC.Stp W (w1.setCell ⟨bf, j, none⟩ u) br bf vm vt vx vQ xC v1 :=
 ⟨(Kept.mV hg h.k (fun k e => (h.x k e).elim (fun z => .inl (.inr (.inr (.inr z)))) .inr)).setCell (.inl (.inr (.inl rfl))) u, h.m, h.t,
  fun k e => by
   rcases hat with e1 | ⟨b, e1, hb⟩
   ·
    exact h.x k (by rw [← e1]; exact e)
   ·
    rw [e1] at e
    injection e with e
    have := h.k.1
    right
    omega⟩
theorem aC.call4 {w0 : World} {br : Nat} {l : List nM} {AL : Option Addr} {cL : Nat} (hL : k31.C w0 AL l.length l) (hcL : l.length ≤ cL) {k : Nat} {f : ByteArray → mO → aC.RT → Option (Bool × aC.RT)} (hf : ∀ md bf, aC.Xa w0 br bf l AL cL md (f md)) {bf : Nat} {mod : ByteArray} {s : mO} {W : World} {m m' : List gK} {fu zT : Int} {tr yT : List ByteArray} {loc loc' : List gK} {res rA : Int} {vm vt vx : Value} {b : Bool} {A8 A9 qR sM : Option Addr} {c8 c9 c10 c11 : Nat} (H : s.f0 = 4)
  (x : aC.ST w0 W br bf l AL cL mod m fu tr loc res vm vt vx) (y : aC.SV w0 s A8 c8 A9 c9 qR c10 sM c11) (h : aC.call f k l mod s (m, fu, tr, loc, res) = some (b, m', zT, yT, loc', rA)) :
  Calls Try.prog 42 #[.pointer (some ⟨br, 0, none⟩), .pointer (some ⟨bf, 0, none⟩), .agg #[.int .i64 4, .int .i64 s.f1, .string s.f2, .string s.f3, .string s.f4, .bool s.f5, .string s.f6, .string s.f7, .slice A8 s.f8.length c8, .slice A9 s.f9.length c9, .slice qR s.f10.length c10, .slice sM s.f11.length c11]] W fun e w' => ∃ vQ xC, e = .returned (.bool b) ∧ aC.ST w0 w' br bf l AL cL mod m' zT yT loc' rA vQ xC vx ∧ aC.Stp W w' br bf vm vt vx vQ xC vx := by
 have e : aC.Wz s A8 c8 A9 c9 qR c10 sM c11 = #[.int .i64 4, .int .i64 s.f1, .string s.f2, .string s.f3, .string s.f4, .bool s.f5, .string s.f6, .string s.f7, .slice A8 s.f8.length c8, .slice A9 s.f9.length c9, .slice qR s.f10.length c10, .slice sM s.f11.length c11] := by
  unfold aC.Wz
  rw [H]
 rw [← e]
 exact aC.M0 w0 br l AL cL hL hcL k f hf bf mod s W m m' fu zT tr yT loc loc' res rA vm vt vx b A8 c8 A9 c9 qR c10 sM c11 x y h
def aC.stmt (l : List nM) : Nat → ByteArray → mO → aC.RT → Option (Bool × aC.RT)
 | 0, _, _, _ => none
 | k + 1, mod, s, st =>
  if st.2.1 = 0 then some (false, st)
  else if s.f0 = 1 then (if st.2.2.2.1.length < 3518437208000 then (bI.f k s.f8 ((s.f8.length : Int) - 1) mod st.2.2.2.1 st.1).bind fun v => some (true, st.1, wrap64 (st.2.1 - 1), st.2.2.1, st.2.2.2.1 ++ [⟨(⟨#[]⟩ : ByteArray), s.f3, v⟩], st.2.2.2.2) else none)
  else if s.f0 = 2 then (bI.f k s.f8 ((s.f8.length : Int) - 1) mod st.2.2.2.1 st.1).bind fun v => (aC.WR k mod s.f2 s.f3 v (RA st)).bind fun st2 => some (true, st2)
  else if s.f0 = 3 then (bI.f k s.f8 ((s.f8.length : Int) - 1) mod st.2.2.2.1 st.1).bind fun v => some (true, st.1, wrap64 (st.2.1 - 1), st.2.2.1, st.2.2.2.1, v)
  else if s.f0 = 4 then aC.call (aC.stmt l k) k l mod s (RA st)
  else if s.f0 = 5 then (bI.f k s.f8 ((s.f8.length : Int) - 1) mod st.2.2.2.1 st.1).bind fun v => if v = 0 then aC.blk (aC.stmt l k mod) st.2.2.2.1.length s.f11 (RA st) else aC.blk (aC.stmt l k mod) st.2.2.2.1.length s.f10 (RA st)
  else if s.f0 = 6 then aC.lp (aC.stmt l k mod) (fun st => (bI.f k s.f8 ((s.f8.length : Int) - 1) mod st.2.2.2.1 st.1)) s.f10 k (RA st)
  else if s.f0 = 7 then (if st.2.2.1.length < 8796093022000 then some (true, st.1, wrap64 (st.2.1 - 1), st.2.2.1 ++ [s.f3], st.2.2.2) else none)
  else some (true, st.1, wrap64 (st.2.1 - 1), st.2.2.1, st.2.2.2.1, st.2.2.2.2)
theorem aC.M3 (w0 : World) (br : Nat) (l : List nM) (AL : Option Addr) (cL : Nat) (hL : k31.C w0 AL l.length l) (hcL : l.length ≤ cL) : ∀ (k : Nat) (mod : ByteArray) (bf : Nat), aC.Xa w0 br bf l AL cL mod (aC.stmt l k mod) := by
 intro k
 induction k with
 | zero => intro mod bf s W m m' fu zT tr yT loc loc' res rA vm vt vx b A8 c8 A9 c9 qR c10 sM c11 x y h; cases h
 | succ k ih =>
 have IH := za ih
 clear ih
 intro mod bf s W m m' fu zT tr yT loc loc' res rA vm vt vx b A8 c8 A9 c9 qR c10 sM c11 x y h
 have HL := za hL
 clear hL
 have aOs := Try.underlying94
 have X0 := za x
 have Y0 := za y
 clear x y
 unfold aC.stmt at h
 dsimp only at h
 by_cases hfu : fu = 0
 ·
  rw [if_pos hfu] at h
  simp only [Option.some.injEq, Prod.mk.injEq] at h
  obtain ⟨rfl, rfl, rfl, rfl, rfl, rfl⟩ := h
  subst hfu
  go_enter Try.func34, Try.ntmps34
  go_wp2_with (first | ((with_reducible refine bO (N := 5) rfl ?_); refine bZ ?hg (N := 5) ?hd (cs := aC.Wz s A8 c8 A9 c9 qR c10 sM c11) (t := 94) ?hr ?_; (case hd => rfl); (case hg => rfl); (case hr => exact jA); intro b5 hg5 w5 hx5 hb5; have X5 := za (X0.out.below hb5); have Bw := za hb5; have B5 := za hx5; clear hx5 hb5 hg5) | (go_at_call 38; refine (aC.aXD X5.out).mono ?_; rintro e w6 ⟨rfl, rfl⟩))
  go_ret
  exact ⟨_, _, _, rfl, X5.out, aC.Stp.of_below Bw.out⟩
 rw [if_neg hfu] at h
 have HF := za hfu
 clear hfu
 by_cases h3 : s.f0 = 1
 ·
  rw [if_pos h3] at h
  by_cases hll : loc.length < 3518437208000
  case neg => rw [if_neg hll] at h; cases h
  rw [if_pos hll] at h
  obtain ⟨v, hv, h⟩ := Option.bind_eq_some_iff.mp h
  have HV : aG (bI.f k s.f8 ((s.f8.length : Int) - 1) mod loc m = some v) := ⟨hv⟩
  have H3 := za h3
  have HLL := za hll
  clear hv h3 hll
  simp only [Option.some.injEq, Prod.mk.injEq] at h
  obtain ⟨rfl, rfl, rfl, rfl, hlo, rfl⟩ := h
  have HLO := za hlo.symm
  clear hlo
  obtain ⟨Ax, cx, ex⟩ := Kd.bJ X0.out.hx
  subst ex
  go_enter Try.func34, Try.ntmps34
  go_wp2_with (first | ((with_reducible refine bO (N := 5) rfl ?_); refine bZ ?hg (N := 5) ?hd (cs := aC.Wz s A8 c8 A9 c9 qR c10 sM c11) (t := 94) ?hr ?_; (case hd => rfl); (case hg => rfl); (case hr => exact jA); intro b5 hg5 w5 hx5 hb5; have X5 := za (X0.out.below hb5); have Bw := za hb5; have B5 := za hx5; clear hx5 hb5 hg5) | (go_at_call 38; refine (aC.Za X5.out HF.out).mono ?_; rintro e w6 ⟨rfl, hx6, Ba⟩; have X6 := za hx6; have B6 := za (aU.blk Ba B5.out (nZ B5.out X5.out.hr (by decide)) (by simp)); have S6 : aG (aC.Stp W w6 br bf vm vt (.slice Ax loc.length cx) vm vt (.slice Ax loc.length cx)) := ⟨(aC.Stp.of_below Bw.out).keep Ba⟩; clear hx6 Ba; have e0 : w6.cell? ⟨b5, 0, none⟩ = some (.int .i64 1) := (aA B6.out 0).trans Xi; have e3 : w6.cell? ⟨b5, 3, none⟩ = some (.string s.f3) := (aA B6.out 3).trans rfl; have e8 : w6.cell? ⟨b5, 8, none⟩ = some (.slice A8 s.f8.length c8) := (aA B6.out 8).trans rfl; have XD6 := za (X6.out.below (W' := w6.drew) (gN (Below.refl _ _))); have SD6 := za (S6.out.below (W2 := w6.drew) (gN (Below.refl _ _))); have BD6 := za (dE B6.out); have d1 : w6.cell? ⟨bf, 1, none⟩ = some (.slice Ax loc.length cx) := (aA X6.out.hf 1).trans rfl))
  go_region_law (first | (go_simp; go_at_call 39; refine (aC.pW k (XD6.out) _ _ s.f8 v (Kd.dG Y0.out.g8 XD6.out.hB) Y0.out.l8 HV.out).mono ?_; rintro e w7 ⟨rfl, hx7, He⟩; have X7 := za hx7; have S7 := za (SD6.out.below He); have B7 := za (aY BD6.out He); clear d1; have d1 : w7.cell? ⟨bf, 1, none⟩ = some (.slice Ax loc.length cx) := (aA X7.out.hf 1).trans rfl; have e3 : w7.cell? ⟨b5, 3, none⟩ = some (.string s.f3) := (aA B7.out 3).trans rfl; have e8 : w7.cell? ⟨b5, 8, none⟩ = some (.slice A8 s.f8.length c8) := (aA B7.out 8).trans rfl; have d1a : ∀ o, (w7.alloc o).cell? ⟨bf, 1, none⟩ = some (.slice Ax loc.length cx) := fun o => bR (bT (Below.refl _ _) o) d1; clear hx7 He) | (refine Kd.nO pR (w0 := w0) (W := w7) w0.heap.size (by rfl) (.tmp 18) (.tmp 27) 33 51 (.agg #[(.string ⟨#[]⟩), (.string ⟨#[]⟩), (.int .i64 0)]) 40 rfl Try.underlying33 CP rfl (by decide) (by omega) _ loc (⟨(⟨#[]⟩ : ByteArray), s.f3, v⟩ : gK) [.string (⟨#[]⟩ : ByteArray), .string s.f3, .int .i64 v] (fun _ => True) (fun _ => False) rfl rfl ?aP (fun _ hk => hk.elim) ?aF ?aO ?aB ?aS ?aL ?_; (case aP => exact Fw _ _ _ (⟨(⟨#[]⟩ : ByteArray), s.f3, v⟩ : gK)); (case aF => exact fun _ _ => trivial); (case aO => exact X7.out.hx); (case aB => exact X7.out.hB); (case aS => exact X7.out.sz); (case aL => have := HLL.out; omega); intro v1 w1 ho hb hg hat; obtain ⟨A9', k9, e9⟩ := Kd.bJ ho; subst e9; have X8 := za (X7.out.app ho hb hg hat); have S8 := za (S7.out.app hg hat 1 (.slice A9' (loc ++ [(⟨(⟨#[]⟩ : ByteArray), s.f3, v⟩ : gK)]).length k9)); have hln : (loc ++ [(⟨(⟨#[]⟩ : ByteArray), s.f3, v⟩ : gK)]).length = loc.length + 1 := (by simp); rw [hln] at X8 S8; clear hln; have hf1 := eD X7.out.hf hg (Kd.nA X7.out.hx X7.out.hf (by decide)); have f1 := aD hf1 1; have d1b := (aA hf1 1).trans rfl; have B8 := za (eD B7.out hg (Kd.nA X7.out.hx B7.out (by decide))); have e3b : w1.cell? ⟨b5, 3, none⟩ = some (.string s.f3) := (aA B8.out 3).trans rfl; have e8b : w1.cell? ⟨b5, 8, none⟩ = some (.slice A8 s.f8.length c8) := (aA B8.out 8).trans rfl; have nb : b5 ≠ bf := nZ B7.out X7.out.hf (by decide); clear ho hb hg hat hf1))
  all_goals go_wp2
  all_goals go_ret
  all_goals exact ⟨_, _, _, rfl, by rw [HLO.out]; exact X8.out, S8.out⟩
 rw [if_neg h3] at h
 have N1 := za h3
 clear h3
 by_cases h3 : s.f0 = 2
 ·
  rw [if_pos h3] at h
  obtain ⟨v, hv, h⟩ := Option.bind_eq_some_iff.mp h
  have HV : aG (bI.f k s.f8 ((s.f8.length : Int) - 1) mod loc m = some v) := ⟨hv⟩
  have H3 := za h3
  clear hv h3
  obtain ⟨⟨m2, Zb, Xb, Jh, Xc⟩, hs, h⟩ := Option.bind_eq_some_iff.mp h
  simp only [Option.some.injEq, Prod.mk.injEq] at h
  obtain ⟨rfl, rfl, rfl, rfl, rfl, rfl⟩ := h
  have HS : aG (aC.WR k mod s.f2 s.f3 v (m, wrap64 (fu - 1), tr, loc, res) = some (m2, Zb, Xb, Jh, Xc)) := ⟨hs⟩
  clear hs
  go_enter Try.func34, Try.ntmps34
  go_wp2_with (first | ((with_reducible refine bO (N := 5) rfl ?_); refine bZ ?hg (N := 5) ?hd (cs := aC.Wz s A8 c8 A9 c9 qR c10 sM c11) (t := 94) ?hr ?_; (case hd => rfl); (case hg => rfl); (case hr => exact jA); intro b5 hg5 w5 hx5 hb5; have X5 := za (X0.out.below hb5); have Bw := za hb5; have B5 := za hx5; clear hx5 hb5 hg5) | (go_at_call 38; refine (aC.Za X5.out HF.out).mono ?_; rintro e w6 ⟨rfl, hx6, Ba⟩; have X6 := za hx6; have B6 := za (aU.blk Ba B5.out (nZ B5.out X5.out.hr (by decide)) (by simp)); have S6 : aG (aC.Stp W w6 br bf vm vt vx vm vt vx) := ⟨(aC.Stp.of_below Bw.out).keep Ba⟩; clear hx6 Ba; have e0 : w6.cell? ⟨b5, 0, none⟩ = some (.int .i64 2) := (aA B6.out 0).trans Xi; have e2 : w6.cell? ⟨b5, 2, none⟩ = some (.string s.f2) := (aA B6.out 2).trans rfl; have e3 : w6.cell? ⟨b5, 3, none⟩ = some (.string s.f3) := (aA B6.out 3).trans rfl; have e8 : w6.cell? ⟨b5, 8, none⟩ = some (.slice A8 s.f8.length c8) := (aA B6.out 8).trans rfl; have XD6 := za (X6.out.below (W' := w6.drew) (gN (Below.refl _ _))); have SD6 := za (S6.out.below (W2 := w6.drew) (gN (Below.refl _ _))); have BD6 := za (dE B6.out)))
  go_region_held3 (fun w' => w'.cell? ⟨b5, 2, none⟩ = some (.string s.f2) ∧ w'.cell? ⟨b5, 3, none⟩ = some (.string s.f3) ∧ w'.cell? ⟨b5, 8, none⟩ = some (.slice A8 s.f8.length c8)) (first | go_keep | (exact ⟨(aA B8.out 2).trans rfl, (aA B8.out 3).trans rfl, (aA B8.out 8).trans rfl⟩) | (exact ⟨(aA B7.out 2).trans rfl, (aA B7.out 3).trans rfl, (aA B7.out 8).trans rfl⟩)) ((first | (go_at_call 39; refine (aC.pW k (XD6.out) _ _ s.f8 v (Kd.dG Y0.out.g8 XD6.out.hB) Y0.out.l8 HV.out).mono ?_; rintro e w7 ⟨rfl, hx7, He⟩; have X7 := za hx7; have S7 := za (SD6.out.below He); have B7 := za (aY BD6.out He); clear hx7 He) | (go_at_call 40; refine (aC.MK k X7.out HS.out).mono ?_; rintro e w8 ⟨e0, vm8, rfl, Yk, JF⟩; have X8 := za Yk; have S8 := za (S7.out.trans JF); have B8 := za (pQ B7.out JF.k (aC.EO X7.out B7.out)); clear Yk JF)))
  go_wp2
  go_ret
  exact ⟨_, _, _, rfl, X8.out, S8.out⟩
 rw [if_neg h3] at h
 have N2 := za h3
 clear h3
 by_cases h3 : s.f0 = 3
 ·
  rw [if_pos h3] at h
  obtain ⟨v, hv, h⟩ := Option.bind_eq_some_iff.mp h
  have HV : aG (bI.f k s.f8 ((s.f8.length : Int) - 1) mod loc m = some v) := ⟨hv⟩
  have H3 := za h3
  clear hv h3
  simp only [Option.some.injEq, Prod.mk.injEq] at h
  obtain ⟨rfl, rfl, rfl, rfl, rfl, rfl⟩ := h
  go_enter Try.func34, Try.ntmps34
  go_wp2_with (first | ((with_reducible refine bO (N := 5) rfl ?_); refine bZ ?hg (N := 5) ?hd (cs := aC.Wz s A8 c8 A9 c9 qR c10 sM c11) (t := 94) ?hr ?_; (case hd => rfl); (case hg => rfl); (case hr => exact jA); intro b5 hg5 w5 hx5 hb5; have X5 := za (X0.out.below hb5); have Bw := za hb5; have B5 := za hx5; clear hx5 hb5 hg5) | (go_at_call 38; refine (aC.Za X5.out HF.out).mono ?_; rintro e w6 ⟨rfl, hx6, Ba⟩; have X6 := za hx6; have B6 := za (aU.blk Ba B5.out (nZ B5.out X5.out.hr (by decide)) (by simp)); have S6 : aG (aC.Stp W w6 br bf vm vt vx vm vt vx) := ⟨(aC.Stp.of_below Bw.out).keep Ba⟩; clear hx6 Ba; have e0 : w6.cell? ⟨b5, 0, none⟩ = some (.int .i64 3) := (aA B6.out 0).trans Xi; have e8 : w6.cell? ⟨b5, 8, none⟩ = some (.slice A8 s.f8.length c8) := (aA B6.out 8).trans rfl) | (go_at_call 39; refine (aC.pW k X6.out _ _ s.f8 v (Kd.dG Y0.out.g8 X6.out.hB) Y0.out.l8 HV.out).mono ?_; rintro e w7 ⟨rfl, hx7, He⟩; have X7 := za hx7; have S7 := za (S6.out.below He); have B7 := za (aY B6.out He); clear hx7 He e0 e8; obtain ⟨d0, d1, d2, g1, g2⟩ := X7.out.cf))
  go_ret
  exact ⟨_, _, _, rfl, X7.out.result v, S7.out.aXF 2 _⟩
 rw [if_neg h3] at h
 have N3 := za h3
 clear h3
 by_cases h3 : s.f0 = 4
 ·
  rw [if_pos h3] at h
  have HK : aG (aC.call (aC.stmt l k) k l mod s (m, wrap64 (fu - 1), tr, loc, res) = some (b, m', zT, yT, loc', rA)) := ⟨h⟩
  have H3 := za h3
  clear h h3
  go_enter Try.func34, Try.ntmps34
  go_wp2_with (first | ((with_reducible refine bO (N := 5) rfl ?_); refine bZ ?hg (N := 5) ?hd (cs := aC.Wz s A8 c8 A9 c9 qR c10 sM c11) (t := 94) ?hr ?_; (case hd => rfl); (case hg => rfl); (case hr => exact jA); intro b5 hg5 w5 hx5 hb5; have X5 := za (X0.out.below hb5); have Bw := za hb5; have B5 := za hx5; clear hx5 hb5 hg5) | (go_at_call 38; refine (aC.Za X5.out HF.out).mono ?_; rintro e w6 ⟨rfl, hx6, Ba⟩; have X6 := za hx6; have B6 := za (aU.blk Ba B5.out (nZ B5.out X5.out.hr (by decide)) (by simp)); have S6 : aG (aC.Stp W w6 br bf vm vt vx vm vt vx) := ⟨(aC.Stp.of_below Bw.out).keep Ba⟩; clear hx6 Ba; have e0 : w6.cell? ⟨b5, 0, none⟩ = some (.int .i64 4) := (aA B6.out 0).trans Xi; have e1 : w6.cell? ⟨b5, 1, none⟩ = some (.int .i64 s.f1) := (aA B6.out 1).trans rfl; have e2 : w6.cell? ⟨b5, 2, none⟩ = some (.string s.f2) := (aA B6.out 2).trans rfl; have e3 : w6.cell? ⟨b5, 3, none⟩ = some (.string s.f3) := (aA B6.out 3).trans rfl; have e4 : w6.cell? ⟨b5, 4, none⟩ = some (.string s.f4) := (aA B6.out 4).trans rfl; have e5 : w6.cell? ⟨b5, 5, none⟩ = some (.bool s.f5) := (aA B6.out 5).trans rfl; have e6 : w6.cell? ⟨b5, 6, none⟩ = some (.string s.f6) := (aA B6.out 6).trans rfl; have e7 : w6.cell? ⟨b5, 7, none⟩ = some (.string s.f7) := (aA B6.out 7).trans rfl; have e8 : w6.cell? ⟨b5, 8, none⟩ = some (.slice A8 s.f8.length c8) := (aA B6.out 8).trans rfl; have e9 : w6.cell? ⟨b5, 9, none⟩ = some (.slice A9 s.f9.length c9) := (aA B6.out 9).trans rfl; have e10 : w6.cell? ⟨b5, 10, none⟩ = some (.slice qR s.f10.length c10) := (aA B6.out 10).trans rfl; have e11 : w6.cell? ⟨b5, 11, none⟩ = some (.slice sM s.f11.length c11) := (aA B6.out 11).trans rfl) | (go_at_call 42; refine (aC.call4 HL.out hcL IH.out H3.out X6.out Y0.out HK.out).mono ?_; rintro e w7 ⟨vm7, vt7, rfl, hx7, hs7⟩; have X7 := za hx7; have S7 := za (S6.out.trans hs7); clear hx7 hs7))
  go_ret
  exact ⟨_, _, _, rfl, X7.out, S7.out⟩
 rw [if_neg h3] at h
 have N4 := za h3
 clear h3
 by_cases h3 : s.f0 = 5
 ·
  rw [if_pos h3] at h
  obtain ⟨v, hv, h⟩ := Option.bind_eq_some_iff.mp h
  have HV : aG (bI.f k s.f8 ((s.f8.length : Int) - 1) mod loc m = some v) := ⟨hv⟩
  have H3 := za h3
  clear hv h3
  by_cases hv0 : v = 0
  ·
   rw [if_pos hv0] at h
   subst hv0
   have HBk : aG (aC.blk (aC.stmt l k mod) loc.length s.f11 (m, wrap64 (fu - 1), tr, loc, res) = some (b, m', zT, yT, loc', rA)) := ⟨h⟩
   clear h
   go_enter Try.func34, Try.ntmps34
   go_wp2_with (first | ((with_reducible refine bO (N := 5) rfl ?_); refine bZ ?hg (N := 5) ?hd (cs := aC.Wz s A8 c8 A9 c9 qR c10 sM c11) (t := 94) ?hr ?_; (case hd => rfl); (case hg => rfl); (case hr => exact jA); intro b5 hg5 w5 hx5 hb5; have X5 := za (X0.out.below hb5); have Bw := za hb5; have B5 := za hx5; clear hx5 hb5 hg5) | (go_at_call 38; refine (aC.Za X5.out HF.out).mono ?_; rintro e w6 ⟨rfl, hx6, Ba⟩; have X6 := za hx6; have B6 := za (aU.blk Ba B5.out (nZ B5.out X5.out.hr (by decide)) (by simp)); have S6 : aG (aC.Stp W w6 br bf vm vt vx vm vt vx) := ⟨(aC.Stp.of_below Bw.out).keep Ba⟩; clear hx6 Ba; have e0 : w6.cell? ⟨b5, 0, none⟩ = some (.int .i64 5) := (aA B6.out 0).trans Xi; have e8 : w6.cell? ⟨b5, 8, none⟩ = some (.slice A8 s.f8.length c8) := (aA B6.out 8).trans rfl) | (go_at_call 39; refine (aC.pW k X6.out _ _ s.f8 0 (Kd.dG Y0.out.g8 X6.out.hB) Y0.out.l8 HV.out).mono ?_; rintro e w7 ⟨rfl, hx7, He⟩; have X7 := za hx7; have S7 := za (S6.out.below He); have B7 := za (aY B6.out He); clear hx7 He e0 e8; have e11 : w7.cell? ⟨b5, 11, none⟩ = some (.slice sM s.f11.length c11) := (aA B7.out 11).trans rfl) | (go_at_call 22; refine (aC.yB w0 br bf l AL cL mod (aC.stmt l k mod) (IH.out mod bf) s.f11 sM c11 _ m m' (wrap64 (fu - 1)) zT tr yT loc loc' res rA vm vt vx b X7.out Y0.out.g11 HBk.out).mono ?_; rintro e w8 ⟨jm, jo, uh, rfl, Yk, JF⟩; have X8 := za Yk; have S8 := za (S7.out.trans JF); clear Yk JF))
   go_ret
   exact ⟨_, _, _, rfl, X8.out, S8.out⟩
  ·
   rw [if_neg hv0] at h
   have hvb : (v != 0) = true := bne_iff_ne.mpr hv0
   have hvc : (v == 0) = false := beq_eq_false_iff_ne.mpr hv0
   have HBk : aG (aC.blk (aC.stmt l k mod) loc.length s.f10 (m, wrap64 (fu - 1), tr, loc, res) = some (b, m', zT, yT, loc', rA)) := ⟨h⟩
   clear h hv0
   go_enter Try.func34, Try.ntmps34
   go_wp2_with (first | ((with_reducible refine bO (N := 5) rfl ?_); refine bZ ?hg (N := 5) ?hd (cs := aC.Wz s A8 c8 A9 c9 qR c10 sM c11) (t := 94) ?hr ?_; (case hd => rfl); (case hg => rfl); (case hr => exact jA); intro b5 hg5 w5 hx5 hb5; have X5 := za (X0.out.below hb5); have Bw := za hb5; have B5 := za hx5; clear hx5 hb5 hg5) | (go_at_call 38; refine (aC.Za X5.out HF.out).mono ?_; rintro e w6 ⟨rfl, hx6, Ba⟩; have X6 := za hx6; have B6 := za (aU.blk Ba B5.out (nZ B5.out X5.out.hr (by decide)) (by simp)); have S6 : aG (aC.Stp W w6 br bf vm vt vx vm vt vx) := ⟨(aC.Stp.of_below Bw.out).keep Ba⟩; clear hx6 Ba; have e0 : w6.cell? ⟨b5, 0, none⟩ = some (.int .i64 5) := (aA B6.out 0).trans Xi; have e8 : w6.cell? ⟨b5, 8, none⟩ = some (.slice A8 s.f8.length c8) := (aA B6.out 8).trans rfl) | (go_at_call 39; refine (aC.pW k X6.out _ _ s.f8 v (Kd.dG Y0.out.g8 X6.out.hB) Y0.out.l8 HV.out).mono ?_; rintro e w7 ⟨rfl, hx7, He⟩; have X7 := za hx7; have S7 := za (S6.out.below He); have B7 := za (aY B6.out He); clear hx7 He e0 e8; have e10 : w7.cell? ⟨b5, 10, none⟩ = some (.slice qR s.f10.length c10) := (aA B7.out 10).trans rfl) | (go_at_call 22; refine (aC.yB w0 br bf l AL cL mod (aC.stmt l k mod) (IH.out mod bf) s.f10 qR c10 _ m m' (wrap64 (fu - 1)) zT tr yT loc loc' res rA vm vt vx b X7.out Y0.out.g10 HBk.out).mono ?_; rintro e w8 ⟨jm, jo, uh, rfl, Yk, JF⟩; have X8 := za Yk; have S8 := za (S7.out.trans JF); clear Yk JF))
   go_ret
   exact ⟨_, _, _, rfl, X8.out, S8.out⟩
 rw [if_neg h3] at h
 have N5 := za h3
 clear h3
 by_cases h3 : s.f0 = 6
 ·
  rw [if_pos h3] at h
  have H3 := za h3
  have HLp : aG (aC.lp (aC.stmt l k mod) (fun st => bI.f k s.f8 ((s.f8.length : Int) - 1) mod st.2.2.2.1 st.1) s.f10 k (m, wrap64 (fu - 1), tr, loc, res) = some (b, m', zT, yT, loc', rA)) := ⟨h⟩
  clear h h3
  have HZ : ∀ w6, aC.ST w0 w6 br bf l AL cL mod m (wrap64 (fu - 1)) tr loc res vm vt vx → Calls Try.prog 41 #[.pointer (some ⟨br, 0, none⟩), .pointer (some ⟨bf, 0, none⟩), .agg #[.int .i64 6, .int .i64 s.f1, .string s.f2, .string s.f3, .string s.f4, .bool s.f5, .string s.f6, .string s.f7, .slice A8 s.f8.length c8, .slice A9 s.f9.length c9, .slice qR s.f10.length c10, .slice sM s.f11.length c11]] w6 fun e w' => ∃ vQ xC Er, e = .returned (.bool b) ∧ aC.ST w0 w' br bf l AL cL mod m' zT yT loc' rA vQ xC Er ∧ aC.Stp w6 w' br bf vm vt vx vQ xC Er := fun w6 x6 => by
   have z := aC.L6 k w0 br bf l AL cL mod (aC.stmt l k mod) (IH.out mod bf) s w6 m m' (wrap64 (fu - 1)) zT tr yT loc loc' res rA vm vt vx b A8 c8 A9 c9 qR c10 sM c11 k x6 Y0.out HLp.out
   rw [show aC.Wz s A8 c8 A9 c9 qR c10 sM c11 = #[.int .i64 6, .int .i64 s.f1, .string s.f2, .string s.f3, .string s.f4, .bool s.f5, .string s.f6, .string s.f7, .slice A8 s.f8.length c8, .slice A9 s.f9.length c9, .slice qR s.f10.length c10, .slice sM s.f11.length c11] from by unfold aC.Wz; rw [H3.out]] at z
   exact z
  have HZA := za HZ
  clear HZ
  go_enter Try.func34, Try.ntmps34
  go_wp2_with (first | ((with_reducible refine bO (N := 5) rfl ?_); refine bZ ?hg (N := 5) ?hd (cs := aC.Wz s A8 c8 A9 c9 qR c10 sM c11) (t := 94) ?hr ?_; (case hd => rfl); (case hg => rfl); (case hr => exact jA); intro b5 hg5 w5 hx5 hb5; have X5 := za (X0.out.below hb5); have Bw := za hb5; have B5 := za hx5; clear hx5 hb5 hg5) | (go_at_call 38; refine (aC.Za X5.out HF.out).mono ?_; rintro e w6 ⟨rfl, hx6, Ba⟩; have X6 := za hx6; have B6 := za (aU.blk Ba B5.out (nZ B5.out X5.out.hr (by decide)) (by simp)); have S6 : aG (aC.Stp W w6 br bf vm vt vx vm vt vx) := ⟨(aC.Stp.of_below Bw.out).keep Ba⟩; clear hx6 Ba; have e0 : w6.cell? ⟨b5, 0, none⟩ = some (.int .i64 6) := (aA B6.out 0).trans Xi; have e1 : w6.cell? ⟨b5, 1, none⟩ = some (.int .i64 s.f1) := (aA B6.out 1).trans rfl; have e2 : w6.cell? ⟨b5, 2, none⟩ = some (.string s.f2) := (aA B6.out 2).trans rfl; have e3 : w6.cell? ⟨b5, 3, none⟩ = some (.string s.f3) := (aA B6.out 3).trans rfl; have e4 : w6.cell? ⟨b5, 4, none⟩ = some (.string s.f4) := (aA B6.out 4).trans rfl; have e5 : w6.cell? ⟨b5, 5, none⟩ = some (.bool s.f5) := (aA B6.out 5).trans rfl; have e6 : w6.cell? ⟨b5, 6, none⟩ = some (.string s.f6) := (aA B6.out 6).trans rfl; have e7 : w6.cell? ⟨b5, 7, none⟩ = some (.string s.f7) := (aA B6.out 7).trans rfl; have e8 : w6.cell? ⟨b5, 8, none⟩ = some (.slice A8 s.f8.length c8) := (aA B6.out 8).trans rfl; have e9 : w6.cell? ⟨b5, 9, none⟩ = some (.slice A9 s.f9.length c9) := (aA B6.out 9).trans rfl; have e10 : w6.cell? ⟨b5, 10, none⟩ = some (.slice qR s.f10.length c10) := (aA B6.out 10).trans rfl; have e11 : w6.cell? ⟨b5, 11, none⟩ = some (.slice sM s.f11.length c11) := (aA B6.out 11).trans rfl) | (go_at_call 41; refine (HZA.out _ X6.out).mono ?_; rintro e w8 ⟨jm, jo, uh, rfl, Yk, JF⟩; have X8 := za Yk; have S8 := za (S6.out.trans JF); clear Yk JF e0 e1 e2 e3 e4 e5 e6 e7 e8 e9 e10 e11))
  go_ret
  exact ⟨_, _, _, rfl, X8.out, S8.out⟩
 rw [if_neg h3] at h
 have N6 := za h3
 clear h3
 by_cases h3 : s.f0 = 7
 ·
  rw [if_pos h3] at h
  by_cases htl : tr.length < 8796093022000
  case neg => rw [if_neg htl] at h; cases h
  rw [if_pos htl] at h
  simp only [Option.some.injEq, Prod.mk.injEq] at h
  obtain ⟨rfl, rfl, rfl, htr, rfl, rfl⟩ := h
  have HTR := za htr.symm
  clear htr
  have H3 := za h3
  have HTL := za htl
  clear h3 htl
  go_enter Try.func34, Try.ntmps34
  go_wp2_with (first | ((with_reducible refine bO (N := 5) rfl ?_); refine bZ ?hg (N := 5) ?hd (cs := aC.Wz s A8 c8 A9 c9 qR c10 sM c11) (t := 94) ?hr ?_; (case hd => rfl); (case hg => rfl); (case hr => exact jA); intro b5 hg5 w5 hx5 hb5; have X5 := za (X0.out.below hb5); have Bw := za hb5; have B5 := za hx5; clear hx5 hb5 hg5) | (go_at_call 38; refine (aC.Za X5.out HF.out).mono ?_; rintro e w6 ⟨rfl, hx6, Ba⟩; have X6 := za hx6; have B6 := za (aU.blk Ba B5.out (nZ B5.out X5.out.hr (by decide)) (by simp)); have S6 : aG (aC.Stp W w6 br bf vm vt vx vm vt vx) := ⟨(aC.Stp.of_below Bw.out).keep Ba⟩; clear hx6 Ba; have e0 : w6.cell? ⟨b5, 0, none⟩ = some (.int .i64 7) := (aA B6.out 0).trans Xi; have e3 : w6.cell? ⟨b5, 3, none⟩ = some (.string s.f3) := (aA B6.out 3).trans rfl))
  obtain ⟨At, ct, et⟩ := Kd.bJ X6.out.ht
  subst et
  clear e0
  have r3 : w6.cell? ⟨br, 3, none⟩ = some (.slice At tr.length ct) := X6.out.cr.2.2.2.1
  have ra : ∀ o, (w6.alloc o).cell? ⟨br, 3, none⟩ = some (.slice At tr.length ct) := fun o => bR (bT (Below.refl _ _) o) r3
  have rb : ∀ o, (w6.alloc o).cell? ⟨b5, 3, none⟩ = some (.string s.f3) := fun o => bR (bT (Below.refl _ _) o) e3
  go_region_law (first | (refine Kd.nO Kd.string (w0 := w0) (W := w6.drew) w0.heap.size (by rfl) (.tmp 85) (.tmp 88) 22 9 (.string ⟨#[]⟩) 16 rfl Try.underlying22 yt rfl (by decide) (by omega) _ tr s.f3 [.string s.f3] (fun _ => True) (fun _ => False) rfl rfl ?aP (fun _ hk => hk.elim) ?aF ?aO ?aB ?aS ?aL ?_; (case aP => exact rfl); (case aF => exact fun _ _ => trivial); (case aO => exact Kd.bP X6.out.ht); (case aB => exact gN X6.out.hB); (case aS => exact X6.out.sz); (case aL => have := HTL.out; omega); intro v1 w1 ho hb hg hat; rw [← HTR.out] at ho; obtain ⟨A9', k9, e9⟩ := Kd.bJ ho; subst e9; have XD := X6.out.below (W' := w6.drew) (gN (Below.refl _ _)); have X8 := za (XD.trc ho hb hg); have S8 := za (((S6.out.below (W2 := w6.drew) (gN (Below.refl _ _))).trc hg hat).aOq 3 (.slice A9' yT.length k9)); have f3 := aD (eD XD.hr hg (Kd.nA XD.ht XD.hr (by decide))) 3; have d3 := (aA (eD XD.hr hg (Kd.nA XD.ht XD.hr (by decide))) 3).trans rfl; clear ho hb hg hat XD r3 e3))
  all_goals go_wp2
  all_goals go_ret
  all_goals exact ⟨_, _, _, rfl, X8.out, S8.out⟩
 rw [if_neg h3] at h
 have N7 := za h3
 clear h3
 simp only [Option.some.injEq, Prod.mk.injEq] at h
 obtain ⟨rfl, rfl, rfl, rfl, rfl, rfl⟩ := h
 have m1 : (s.f0 == 1) = false := beq_eq_false_iff_ne.mpr N1.out
 have m2 : (s.f0 == 2) = false := beq_eq_false_iff_ne.mpr N2.out
 have m3 : (s.f0 == 3) = false := beq_eq_false_iff_ne.mpr N3.out
 have m4 : (s.f0 == 4) = false := beq_eq_false_iff_ne.mpr N4.out
 have m5 : (s.f0 == 5) = false := beq_eq_false_iff_ne.mpr N5.out
 have m6 : (s.f0 == 6) = false := beq_eq_false_iff_ne.mpr N6.out
 have m7 : (s.f0 == 7) = false := beq_eq_false_iff_ne.mpr N7.out
 go_enter Try.func34, Try.ntmps34
 go_wp2_with (first | ((with_reducible refine bO (N := 5) rfl ?_); refine bZ ?hg (N := 5) ?hd (cs := aC.Wz s A8 c8 A9 c9 qR c10 sM c11) (t := 94) ?hr ?_; (case hd => rfl); (case hg => rfl); (case hr => exact jA); intro b5 hg5 w5 hx5 hb5; have X5 := za (X0.out.below hb5); have Bw := za hb5; have B5 := za hx5; clear hx5 hb5 hg5) | (go_at_call 38; refine (aC.Za X5.out HF.out).mono ?_; rintro e w6 ⟨rfl, hx6, Ba⟩; have X6 := za hx6; have B6 := za (aU.blk Ba B5.out (nZ B5.out X5.out.hr (by decide)) (by simp)); have S6 : aG (aC.Stp W w6 br bf vm vt vx vm vt vx) := ⟨(aC.Stp.of_below Bw.out).keep Ba⟩; clear hx6 Ba; have e0 : w6.cell? ⟨b5, 0, none⟩ = some (.int .i64 s.f0) := (aA B6.out 0).trans rfl))
 go_ret
 exact ⟨_, _, _, rfl, X6.out, S6.out⟩
end
section
theorem aC.QN {g : Nat} {W : World} {t : TypeId} {a0 a1 a2 a3 a4 : Value} (h : W.heap[g]? = some (.cells #[a0, a1, a2, a3, a4] t (0, 0))) (u0 u1 u2 u3 u4 : Value) :
  (((((W.setCell ⟨g, 0, none⟩ u0).setCell ⟨g, 1, none⟩ u1).setCell ⟨g, 2, none⟩ u2).setCell ⟨g, 3, none⟩ u3).setCell ⟨g, 4, none⟩ u4).heap[g]? = some (.cells #[u0, u1, u2, u3, u4] t (0, 0)) :=
 bD (bD (bD (bD (bD h 0 u0 rfl) 1 u1 rfl) 2 u2 rfl) 3 u3 rfl) 4 u4 rfl
theorem aC.Au {g : Nat} {w W : World} (h : Below w.heap.size w W) (hg : w.heap.size ≤ g) (u0 u1 u2 u3 u4 : Value) : Below w.heap.size w (((((W.setCell ⟨g, 0, none⟩ u0).setCell ⟨g, 1, none⟩ u1).setCell ⟨g, 2, none⟩ u2).setCell ⟨g, 3, none⟩ u3).setCell ⟨g, 4, none⟩ u4) :=
 aV (aV (aV (aV (aV h hg) hg) hg) hg) hg
theorem aC.Bb {α : Type} {d : Kd α} {e base g : Nat} {ok : Nat → Prop} {W : World} {v : Value} {xs : List α} {t : Nat} {a0 a1 a2 a3 a4 : Value} (h : d.R e W base ok v xs) (hb : W.heap[g]? = some (.cells #[a0, a1, a2, a3, a4] t (0, 0))) (ht : ∀ q, q ∈ e :: d.E → q ≠ t) (u0 u1 u2 u3 u4 : Value) : d.R e (((((W.setCell ⟨g, 0, none⟩ u0).setCell ⟨g, 1, none⟩ u1).setCell ⟨g, 2, none⟩ u2).setCell ⟨g, 3, none⟩ u3).setCell ⟨g, 4, none⟩ u4) base ok v xs := by
 have z0 := bD hb 0 u0 rfl
 have z1 := bD z0 1 u1 rfl
 have z2 := bD z1 2 u2 rfl
 have z3 := bD z2 3 u3 rfl
 exact Kd.qP (Kd.qP (Kd.qP (Kd.qP (Kd.qP h hb ht 0 u0) z0 ht 1 u1) z1 ht 2 u2) z2 ht 3 u3) z3 ht 4 u4
theorem aC.BJ {g g' : Nat} {W : World} {t : Nat} {cs : Array Value} (h : W.heap[g']? = some (.cells cs t (0, 0))) (hne : g' ≠ g) (u0 u1 u2 u3 u4 u5 u6 u7 : Value) : ((((((((W.setCell ⟨g, 0, none⟩ u0).setCell ⟨g, 1, none⟩ u1).setCell ⟨g, 2, none⟩ u2).setCell ⟨g, 3, none⟩ u3).setCell ⟨g, 4, none⟩ u4).setCell ⟨g, 5, none⟩ u5).setCell ⟨g, 6, none⟩ u6).setCell ⟨g, 7, none⟩ u7).heap[g']? = some (.cells cs t (0, 0)) :=
 dJ (dJ (dJ (dJ (dJ (dJ (dJ (dJ h hne _) hne _) hne _) hne _) hne _) hne _) hne _) hne _
theorem aC.QO {g g' : Nat} {W : World} {t : Nat} {cs : Array Value} (h : W.heap[g']? = some (.cells cs t (0, 0))) (hne : g' ≠ g) (u0 u1 u2 u3 u4 : Value) : (((((W.setCell ⟨g, 0, none⟩ u0).setCell ⟨g, 1, none⟩ u1).setCell ⟨g, 2, none⟩ u2).setCell ⟨g, 3, none⟩ u3).setCell ⟨g, 4, none⟩ u4).heap[g']? = some (.cells cs t (0, 0)) :=
 dJ (dJ (dJ (dJ (dJ h hne _) hne _) hne _) hne _) hne _
def aC.f (k : Nat) (l : List nM) (mod proc : ByteArray) (args : List Int) (m : List gK) (fuel : Int) : Option (Int × List gK × Int × List ByteArray × Int) :=
 if (aC.find l mod proc (args.length : Int)).2 = false then (jU.f m).bind fun m1 => some (3, m1, 0, [], 0)
 else if fuel < 0 then (jU.f m).bind fun m1 => some (3, m1, 0, [], 0)
 else if 20000 < fuel then (jU.f m).bind fun m1 => some (3, m1, 0, [], 0)
 else (jU.f m).bind fun m1 => (aC.body (aC.stmt l k mod) (aC.find l mod proc (args.length : Int)).1 args m1 fuel []).bind fun r => if r.2.1 = true then some (1, r.2.2.1, r.1, r.2.2.2.2, r.2.2.2.1) else some (2, r.2.2.1, 0, r.2.2.2.2, r.2.2.2.1)
theorem aC.Jj {f g : mO → aC.RT → Option (Bool × aC.RT)} (h : ∀ s st, bV (f s st) (g s st)) (n : Nat) : ∀ (l : List mO) (st : aC.RT), bV (aC.blk f n l st) (aC.blk g n l st)
 | [], st => bV.refl _
 | s :: t, st => by
  unfold aC.blk
  exact bV.bind (h s st) (fun q => bV.ite (aC.Jj h n t q.2) (bV.refl _))
theorem aC.jq {f g : mO → aC.RT → Option (Bool × aC.RT)} (h : ∀ s st, bV (f s st) (g s st)) {ev ew : aC.RT → Option Int} (he : ∀ st, bV (ev st) (ew st)) (B : List mO) : ∀ (j : Nat) (st : aC.RT), bV (aC.lp f ev B j st) (aC.lp g ew B (j + 1) st)
 | 0, st => bV.none _
 | j + 1, st => by
  unfold aC.lp
  exact bV.ite (bV.refl _) (bV.bind (he _) (fun v => bV.ite (bV.refl _) (bV.bind (aC.Jj h _ _ _) (fun q => bV.ite (aC.jq h he B j q.2) (bV.refl _)))))
theorem aC.ML (k : Nat) (fm mod name : ByteArray) (v : Int) (st : aC.RT) : bV (aC.WR k fm mod name v st) (aC.WR (k + 1) fm mod name v st) := by
 have hm : ∀ md, bV (aC.Ji k md name v st) (aC.Ji (k + 1) md name v st) := fun md => bV.bind (qH.mono _ _ _ _ _) (fun _ => bV.refl _)
 unfold aC.WR
 refine bV.ite (bV.ite ?_ (bV.refl _)) (hm _)
 cases aC.zU name st.2.2.2.1 v st.2.2.2.1.length with
 | some _ => exact bV.refl _
 | none => exact hm _
theorem aC.WU {g g' : List dP → Option Int} (h : ∀ a, bV (g a) (g' a)) : ∀ l, bV (aC.evs g l) (aC.evs g' l)
 | [] => bV.refl _
 | a :: t => by
  unfold aC.evs
  exact bV.bind (h a) (fun v => bV.bind (aC.WU h t) (fun _ => bV.refl _))
theorem aC.MM {f g : mO → aC.RT → Option (Bool × aC.RT)} (h : ∀ s st, bV (f s st) (g s st)) (p : Cg) (args : List Int) (m : List gK) (fu : Int) (tr : List ByteArray) : bV (aC.body f p args m fu tr) (aC.body g p args m fu tr) := by
 unfold aC.body
 exact bV.ite (bV.bind (aC.Jj h _ _ _) (fun _ => bV.refl _)) (bV.refl _)
theorem aC.um {f g : ByteArray → mO → aC.RT → Option (Bool × aC.RT)} (h : ∀ md s st, bV (f md s st) (g md s st)) (k : Nat) (l : List nM) (mod : ByteArray) (s : mO) (st : aC.RT) : bV (aC.call f k l mod s st) (aC.call g (k + 1) l mod s st) := by
 unfold aC.call
 exact bV.ite (bV.bind (aC.WU (fun a => bI.mono _ _ _ _ _ _) _) (fun args => bV.ite (bV.bind (aC.MM (h _) _ _ _ _ _) (fun q => bV.ite (bV.ite (bV.bind (aC.ML k _ _ _ _ _) (fun _ => bV.refl _)) (bV.refl _)) (bV.refl _))) (bV.refl _))) (bV.refl _)
theorem aC.uo (l : List nM) : ∀ (k : Nat) (mod : ByteArray) (s : mO) (st : aC.RT), bV (aC.stmt l k mod s st) (aC.stmt l (k + 1) mod s st) := by
 intro k
 induction k with
 | zero => intro mod s st; exact bV.none _
 | succ k ih =>
  intro mod s st
  have he : ∀ st : aC.RT, bV (bI.f k s.f8 ((s.f8.length : Int) - 1) mod st.2.2.2.1 st.1) (bI.f (k + 1) s.f8 ((s.f8.length : Int) - 1) mod st.2.2.2.1 st.1) := fun st => bI.mono _ _ _ _ _ _
  rw [aC.stmt, aC.stmt]
  exact bV.ite (bV.refl _) (bV.ite (bV.ite (bV.bind (he st) (fun _ => bV.refl _)) (bV.refl _)) (bV.ite (bV.bind (he st) (fun v => bV.bind (aC.ML k _ _ _ _ _) (fun _ => bV.refl _))) (bV.ite (bV.bind (he st) (fun _ => bV.refl _)) (bV.ite (aC.um ih k l mod s _) (bV.ite (bV.bind (he st) (fun v => bV.ite (aC.Jj (ih mod) _ _ _) (aC.Jj (ih mod) _ _ _))) (bV.ite (aC.jq (ih mod) he _ _ _) (bV.refl _)))))))
theorem aC.mono : ∀ a0 a1 a2 a3 a4 a5 k, bV (aC.f k a0 a1 a2 a3 a4 a5) (aC.f (k + 1) a0 a1 a2 a3 a4 a5) := by
 intro a0 a1 a2 a3 a4 a5 k
 exact bV.ite (bV.refl _) (bV.ite (bV.refl _) (bV.ite (bV.refl _) (bV.bind (bV.refl _) (fun m1 => bV.bind (aC.MM (fun s st => aC.uo _ k _ s st) _ _ _ _ _) (fun _ => bV.refl _)))))
theorem aC.calls (k : Nat) (A0 : Option Addr) (c0 : Nat) (l0 : List nM) (a1 a2 : ByteArray) (A3 : Option Addr) (c3 : Nat) (l3 : List Int) (A4 : Option Addr) (c4 : Nat) (l4 : List gK) (a5 : Int) (r1 : Int) (r2 : List gK) (r3 : Int) (r4 : List ByteArray) (r5 : Int) (w : World) (hr0 : k31.C w A0 l0.length l0) (hc0 : l0.length ≤ c0) (hr3 : (Kd.int .i64).C w A3 l3.length l3) (hc3 : l3.length ≤ c3) (hr4 : pR.C w A4 l4.length l4) (hc4 : l4.length ≤ c4) (h : aC.f k l0 a1 a2 l3 l4 a5 = some (r1, r2, r3, r4, r5)) :
  Calls Try.prog 8 #[.slice A0 l0.length c0, .string a1, .string a2, .slice A3 l3.length c3, .slice A4 l4.length c4, .int .i64 a5] w fun e w' => ∃ v1_ v3_ : Value, e = .returned (.agg #[.int .i64 r1, v1_, .int .i64 r3, v3_, .int .i64 r5]) ∧ pR.R 51 w' w.heap.size (fun _ => True) v1_ r2 ∧ Kd.string.R 9 w' w.heap.size (fun _ => True) v3_ r4 ∧ Below w.heap.size w w' := by
 have VW := Try.underlying41
 have QX := Try.underlying38
 have bQT := Try.underlying58
 have Gi := za hr0
 have IQ := za hc0
 have HR3 := za hr3
 have HR4 := za hr4
 have JD := za hc4
 clear hr0 hc0 hr3 hr4 hc4 hc3
 unfold aC.f at h
 obtain ⟨p, b, hf⟩ : ∃ p b, aC.find l0 a1 a2 (l3.length : Int) = (p, b) := ⟨_, _, rfl⟩
 rw [hf] at h
 dsimp only at h
 have HF := za hf
 clear hf
 cases b with
 | false =>
  rw [if_pos rfl] at h
  obtain ⟨m1, hm1, h⟩ := Option.bind_eq_some_iff.mp h
  simp only [Option.some.injEq, Prod.mk.injEq] at h
  obtain ⟨rfl, rfl, rfl, rfl, rfl⟩ := h
  have HM1 := za hm1
  clear hm1
  go_enter Try.func8, Try.ntmps8
  go_wp2_with (first | ((with_reducible refine bO (N := 12) rfl ?_); refine bZ ?hg (N := 12) ?hd (cs := #[.int .i64 0, .slice none 0 0, .int .i64 0, .slice none 0 0, .int .i64 0]) (t := 41) ?hr ?_; (case hd => rfl); (case hg => rfl); (case hr => exact jA); intro b12 Jk Mk Jl Jm; have Bz := za Jm; have RV := za Jl; have wh := za (Nat.le_of_eq Jk.symm); clear Jl Jm Jk) | (go_at_call 13; refine (aC.xD A0 c0 l0 a1 a2 l3.length p false Mk _ (Kd.dG Gi.out Bz.out) (Below.refl _ _) IQ.out HF.out).mono ?_; rintro e w2 ⟨A1, k1, A5, k5, A6, k6, rfl, hp, hb2⟩; have HPV := za hp; have HB2 := za (aM Bz.out hb2); have QP := za hb2; have B2 := za (aY RV.out hb2); clear hp hb2) | ((with_reducible refine bO (N := 13) rfl ?_); refine bZ ?hg (N := 13) ?hd (cs := #[.string (⟨#[]⟩ : ByteArray), .slice none 0 0, .bool false, .string (⟨#[]⟩ : ByteArray), .string (⟨#[]⟩ : ByteArray), .slice none 0 0, .slice none 0 0, .int .i64 0]) (t := 38) ?hr ?_; (case hd => rfl); (case hg => rfl); (case hr => exact jA); intro b13 Bc ZW gJ wM; have Pg := za (aM HB2.out wM); have Po := za gJ; have M4 := za (Nat.le_trans (aT HB2.out) (Nat.le_of_eq Bc.symm)); have aC9 := za (aM QP.out wM); have aDa := za (Nat.le_trans (aT QP.out) (Nat.le_of_eq Bc.symm)); have EP := za (aY B2.out wM); have N13 := za (nZ EP.out gJ (by decide)); have kk0 := (aA gJ 0).trans rfl; have M5 := aD gJ 0; have kk1 := (aA gJ 1).trans rfl; have M6 := aD gJ 1; have kk2 := (aA gJ 2).trans rfl; have M7 := aD gJ 2; have kk3 := (aA gJ 3).trans rfl; have M8 := aD gJ 3; have kk4 := (aA gJ 4).trans rfl; have M9 := aD gJ 4; have kk5 := (aA gJ 5).trans rfl; have N8 := aD gJ 5; have kk6 := (aA gJ 6).trans rfl; have N9 := aD gJ 6; have kk7 := (aA gJ 7).trans rfl; have O0 := aD gJ 7; clear gJ wM Bc) | (go_at_call 14; refine (jU.calls A4 c4 l4 m1 _ (Kd.dG HR4.out (aC.rV Pg.out M4.out _ _ _ _ _ _ _ _)) JD.out HM1.out).mono ?_; rintro e w3 ⟨v, rfl, ho, hb3⟩; obtain ⟨Av, cv, ev⟩ := Kd.bJ ho; subst ev; have HB3 := za (aM (aC.rV Pg.out M4.out _ _ _ _ _ _ _ _) hb3); have HO := za (Kd.eU ho (aT (aC.rV Pg.out M4.out _ _ _ _ _ _ _ _))); have rO := za (aY (aC.BJ EP.out N13.out _ _ _ _ _ _ _ _) hb3); have q0 := (aA rO.out 0).trans rfl; have fq0 := aD rO.out 0; have q1 := (aA rO.out 1).trans rfl; have fq1 := aD rO.out 1; have q2 := (aA rO.out 2).trans rfl; have fq2 := aD rO.out 2; have q3 := (aA rO.out 3).trans rfl; have fq3 := aD rO.out 3; have q4 := (aA rO.out 4).trans rfl; have fq4 := aD rO.out 4; clear ho hb3 kk0 M5 kk1 M6 kk2 M7 kk3 M8 kk4 M9 kk5 N8 kk6 N9 kk7 O0))
  refine bodyPost_ret (results_cell_row rfl _ _ b12 41 #[.int .i64 3, .slice Av m1.length cv, .int .i64 0, .slice none 0 0, .int .i64 0] (0, 0) _ rfl (aC.QN rO.out _ _ _ _ _) VW rfl dU) rfl ?_
  exact ⟨_, _, rfl, aC.Bb HO.out rO.out (by decide) _ _ _ _ _, Kd.mW _ _ _ _ _, aC.Au HB3.out wh.out _ _ _ _ _⟩
 | true =>
  rw [if_neg (by decide)] at h
  by_cases h0 : a5 < 0
  ·
   rw [if_pos h0] at h
   obtain ⟨m1, hm1, h⟩ := Option.bind_eq_some_iff.mp h
   simp only [Option.some.injEq, Prod.mk.injEq] at h
   obtain ⟨rfl, rfl, rfl, rfl, rfl⟩ := h
   have HM1 := za hm1
   have hb0 : decide (a5 < 0) = true := decide_eq_true h0
   clear hm1 h0
   go_enter Try.func8, Try.ntmps8
   go_wp2_with (first | ((with_reducible refine bO (N := 12) rfl ?_); refine bZ ?hg (N := 12) ?hd (cs := #[.int .i64 0, .slice none 0 0, .int .i64 0, .slice none 0 0, .int .i64 0]) (t := 41) ?hr ?_; (case hd => rfl); (case hg => rfl); (case hr => exact jA); intro b12 Jk Mk Jl Jm; have Bz := za Jm; have RV := za Jl; have wh := za (Nat.le_of_eq Jk.symm); clear Jl Jm Jk) | (go_at_call 13; refine (aC.xD A0 c0 l0 a1 a2 l3.length p true Mk _ (Kd.dG Gi.out Bz.out) (Below.refl _ _) IQ.out HF.out).mono ?_; rintro e w2 ⟨A1, k1, A5, k5, A6, k6, rfl, hp, hb2⟩; have HPV := za hp; have HB2 := za (aM Bz.out hb2); have QP := za hb2; have B2 := za (aY RV.out hb2); clear hp hb2) | ((with_reducible refine bO (N := 13) rfl ?_); refine bZ ?hg (N := 13) ?hd (cs := #[.string (⟨#[]⟩ : ByteArray), .slice none 0 0, .bool false, .string (⟨#[]⟩ : ByteArray), .string (⟨#[]⟩ : ByteArray), .slice none 0 0, .slice none 0 0, .int .i64 0]) (t := 38) ?hr ?_; (case hd => rfl); (case hg => rfl); (case hr => exact jA); intro b13 Bc ZW gJ wM; have Pg := za (aM HB2.out wM); have Po := za gJ; have M4 := za (Nat.le_trans (aT HB2.out) (Nat.le_of_eq Bc.symm)); have aC9 := za (aM QP.out wM); have aDa := za (Nat.le_trans (aT QP.out) (Nat.le_of_eq Bc.symm)); have EP := za (aY B2.out wM); have N13 := za (nZ EP.out gJ (by decide)); have kk0 := (aA gJ 0).trans rfl; have M5 := aD gJ 0; have kk1 := (aA gJ 1).trans rfl; have M6 := aD gJ 1; have kk2 := (aA gJ 2).trans rfl; have M7 := aD gJ 2; have kk3 := (aA gJ 3).trans rfl; have M8 := aD gJ 3; have kk4 := (aA gJ 4).trans rfl; have M9 := aD gJ 4; have kk5 := (aA gJ 5).trans rfl; have N8 := aD gJ 5; have kk6 := (aA gJ 6).trans rfl; have N9 := aD gJ 6; have kk7 := (aA gJ 7).trans rfl; have O0 := aD gJ 7; clear gJ wM Bc) | (go_at_call 14; refine (jU.calls A4 c4 l4 m1 _ (Kd.dG HR4.out (aC.rV Pg.out M4.out _ _ _ _ _ _ _ _)) JD.out HM1.out).mono ?_; rintro e w3 ⟨v, rfl, ho, hb3⟩; obtain ⟨Av, cv, ev⟩ := Kd.bJ ho; subst ev; have HB3 := za (aM (aC.rV Pg.out M4.out _ _ _ _ _ _ _ _) hb3); have HO := za (Kd.eU ho (aT (aC.rV Pg.out M4.out _ _ _ _ _ _ _ _))); have rO := za (aY (aC.BJ EP.out N13.out _ _ _ _ _ _ _ _) hb3); have q0 := (aA rO.out 0).trans rfl; have fq0 := aD rO.out 0; have q1 := (aA rO.out 1).trans rfl; have fq1 := aD rO.out 1; have q2 := (aA rO.out 2).trans rfl; have fq2 := aD rO.out 2; have q3 := (aA rO.out 3).trans rfl; have fq3 := aD rO.out 3; have q4 := (aA rO.out 4).trans rfl; have fq4 := aD rO.out 4; clear ho hb3 kk0 M5 kk1 M6 kk2 M7 kk3 M8 kk4 M9 kk5 N8 kk6 N9 kk7 O0))
   refine bodyPost_ret (results_cell_row rfl _ _ b12 41 #[.int .i64 3, .slice Av m1.length cv, .int .i64 0, .slice none 0 0, .int .i64 0] (0, 0) _ rfl (aC.QN rO.out _ _ _ _ _) VW rfl dU) rfl ?_
   exact ⟨_, _, rfl, aC.Bb HO.out rO.out (by decide) _ _ _ _ _, Kd.mW _ _ _ _ _, aC.Au HB3.out wh.out _ _ _ _ _⟩
  ·
   rw [if_neg h0] at h
   have hb0 : decide (a5 < 0) = false := decide_eq_false h0
   by_cases h1 : 20000 < a5
   ·
    rw [if_pos h1] at h
    obtain ⟨m1, hm1, h⟩ := Option.bind_eq_some_iff.mp h
    simp only [Option.some.injEq, Prod.mk.injEq] at h
    obtain ⟨rfl, rfl, rfl, rfl, rfl⟩ := h
    have HM1 := za hm1
    have hb1 : decide (20000 < a5) = true := decide_eq_true h1
    clear hm1 h0 h1
    go_enter Try.func8, Try.ntmps8
    go_wp2_with (first | ((with_reducible refine bO (N := 12) rfl ?_); refine bZ ?hg (N := 12) ?hd (cs := #[.int .i64 0, .slice none 0 0, .int .i64 0, .slice none 0 0, .int .i64 0]) (t := 41) ?hr ?_; (case hd => rfl); (case hg => rfl); (case hr => exact jA); intro b12 Jk Mk Jl Jm; have Bz := za Jm; have RV := za Jl; have wh := za (Nat.le_of_eq Jk.symm); clear Jl Jm Jk) | (go_at_call 13; refine (aC.xD A0 c0 l0 a1 a2 l3.length p true Mk _ (Kd.dG Gi.out Bz.out) (Below.refl _ _) IQ.out HF.out).mono ?_; rintro e w2 ⟨A1, k1, A5, k5, A6, k6, rfl, hp, hb2⟩; have HPV := za hp; have HB2 := za (aM Bz.out hb2); have QP := za hb2; have B2 := za (aY RV.out hb2); clear hp hb2) | ((with_reducible refine bO (N := 13) rfl ?_); refine bZ ?hg (N := 13) ?hd (cs := #[.string (⟨#[]⟩ : ByteArray), .slice none 0 0, .bool false, .string (⟨#[]⟩ : ByteArray), .string (⟨#[]⟩ : ByteArray), .slice none 0 0, .slice none 0 0, .int .i64 0]) (t := 38) ?hr ?_; (case hd => rfl); (case hg => rfl); (case hr => exact jA); intro b13 Bc ZW gJ wM; have Pg := za (aM HB2.out wM); have Po := za gJ; have M4 := za (Nat.le_trans (aT HB2.out) (Nat.le_of_eq Bc.symm)); have aC9 := za (aM QP.out wM); have aDa := za (Nat.le_trans (aT QP.out) (Nat.le_of_eq Bc.symm)); have EP := za (aY B2.out wM); have N13 := za (nZ EP.out gJ (by decide)); have kk0 := (aA gJ 0).trans rfl; have M5 := aD gJ 0; have kk1 := (aA gJ 1).trans rfl; have M6 := aD gJ 1; have kk2 := (aA gJ 2).trans rfl; have M7 := aD gJ 2; have kk3 := (aA gJ 3).trans rfl; have M8 := aD gJ 3; have kk4 := (aA gJ 4).trans rfl; have M9 := aD gJ 4; have kk5 := (aA gJ 5).trans rfl; have N8 := aD gJ 5; have kk6 := (aA gJ 6).trans rfl; have N9 := aD gJ 6; have kk7 := (aA gJ 7).trans rfl; have O0 := aD gJ 7; clear gJ wM Bc) | (go_at_call 14; refine (jU.calls A4 c4 l4 m1 _ (Kd.dG HR4.out (aC.rV Pg.out M4.out _ _ _ _ _ _ _ _)) JD.out HM1.out).mono ?_; rintro e w3 ⟨v, rfl, ho, hb3⟩; obtain ⟨Av, cv, ev⟩ := Kd.bJ ho; subst ev; have HB3 := za (aM (aC.rV Pg.out M4.out _ _ _ _ _ _ _ _) hb3); have HO := za (Kd.eU ho (aT (aC.rV Pg.out M4.out _ _ _ _ _ _ _ _))); have rO := za (aY (aC.BJ EP.out N13.out _ _ _ _ _ _ _ _) hb3); have q0 := (aA rO.out 0).trans rfl; have fq0 := aD rO.out 0; have q1 := (aA rO.out 1).trans rfl; have fq1 := aD rO.out 1; have q2 := (aA rO.out 2).trans rfl; have fq2 := aD rO.out 2; have q3 := (aA rO.out 3).trans rfl; have fq3 := aD rO.out 3; have q4 := (aA rO.out 4).trans rfl; have fq4 := aD rO.out 4; clear ho hb3 kk0 M5 kk1 M6 kk2 M7 kk3 M8 kk4 M9 kk5 N8 kk6 N9 kk7 O0))
    refine bodyPost_ret (results_cell_row rfl _ _ b12 41 #[.int .i64 3, .slice Av m1.length cv, .int .i64 0, .slice none 0 0, .int .i64 0] (0, 0) _ rfl (aC.QN rO.out _ _ _ _ _) VW rfl dU) rfl ?_
    exact ⟨_, _, rfl, aC.Bb HO.out rO.out (by decide) _ _ _ _ _, Kd.mW _ _ _ _ _, aC.Au HB3.out wh.out _ _ _ _ _⟩
   ·
    rw [if_neg h1] at h
    obtain ⟨m1, hm1, h⟩ := Option.bind_eq_some_iff.mp h
    obtain ⟨⟨res, b2, m2, Zb, Xb⟩, hbd, h⟩ := Option.bind_eq_some_iff.mp h
    dsimp only at h
    have HM1 := za hm1
    have HBD := za hbd
    have H := za h
    have hb1 : decide (20000 < a5) = false := decide_eq_false h1
    clear hm1 h0 h1 hbd h
    go_enter Try.func8, Try.ntmps8
    go_wp2_with (first | ((with_reducible refine bO (N := 12) rfl ?_); refine bZ ?hg (N := 12) ?hd (cs := #[.int .i64 0, .slice none 0 0, .int .i64 0, .slice none 0 0, .int .i64 0]) (t := 41) ?hr ?_; (case hd => rfl); (case hg => rfl); (case hr => exact jA); intro b12 Jk Mk Jl Jm; have Bz := za Jm; have RV := za Jl; have wh := za (Nat.le_of_eq Jk.symm); clear Jl Jm Jk) | (go_at_call 13; refine (aC.xD A0 c0 l0 a1 a2 l3.length p true Mk _ (Kd.dG Gi.out Bz.out) (Below.refl _ _) IQ.out HF.out).mono ?_; rintro e w2 ⟨A1, k1, A5, k5, A6, k6, rfl, hp, hb2⟩; have HPV := za hp; have HB2 := za (aM Bz.out hb2); have QP := za hb2; have B2 := za (aY RV.out hb2); clear hp hb2) | ((with_reducible refine bO (N := 13) rfl ?_); refine bZ ?hg (N := 13) ?hd (cs := #[.string (⟨#[]⟩ : ByteArray), .slice none 0 0, .bool false, .string (⟨#[]⟩ : ByteArray), .string (⟨#[]⟩ : ByteArray), .slice none 0 0, .slice none 0 0, .int .i64 0]) (t := 38) ?hr ?_; (case hd => rfl); (case hg => rfl); (case hr => exact jA); intro b13 Bc ZW gJ wM; have Pg := za (aM HB2.out wM); have Po := za gJ; have M4 := za (Nat.le_trans (aT HB2.out) (Nat.le_of_eq Bc.symm)); have aC9 := za (aM QP.out wM); have aDa := za (Nat.le_trans (aT QP.out) (Nat.le_of_eq Bc.symm)); have EP := za (aY B2.out wM); have N13 := za (nZ EP.out gJ (by decide)); have kk0 := (aA gJ 0).trans rfl; have M5 := aD gJ 0; have kk1 := (aA gJ 1).trans rfl; have M6 := aD gJ 1; have kk2 := (aA gJ 2).trans rfl; have M7 := aD gJ 2; have kk3 := (aA gJ 3).trans rfl; have M8 := aD gJ 3; have kk4 := (aA gJ 4).trans rfl; have M9 := aD gJ 4; have kk5 := (aA gJ 5).trans rfl; have N8 := aD gJ 5; have kk6 := (aA gJ 6).trans rfl; have N9 := aD gJ 6; have kk7 := (aA gJ 7).trans rfl; have O0 := aD gJ 7; clear gJ wM Bc) | (go_at_call 14; refine (jU.calls A4 c4 l4 m1 _ (Kd.dG HR4.out (aC.rV Pg.out M4.out _ _ _ _ _ _ _ _)) JD.out HM1.out).mono ?_; rintro e w3 ⟨v, rfl, ho, hb3⟩; obtain ⟨Av, cv, ev⟩ := Kd.bJ ho; subst ev; have HB3 := za (aM (aC.rV Pg.out M4.out _ _ _ _ _ _ _ _) hb3); have HO := za (Kd.eU ho (aT (aC.rV Pg.out M4.out _ _ _ _ _ _ _ _))); have rO := za (aY (aC.BJ EP.out N13.out _ _ _ _ _ _ _ _) hb3); have Zk := za (aM (aC.rV aC9.out aDa.out _ _ _ _ _ _ _ _) hb3); have HOC := za (Kd.eU ho (aT (aC.rV aC9.out aDa.out _ _ _ _ _ _ _ _))); have bMg := za (aY (aC.ug Po.out _ _ _ _ _ _ _ _) hb3); clear ho hb3 kk0 M5 kk1 M6 kk2 M7 kk3 M8 kk4 M9 kk5 N8 kk6 N9 kk7 O0) | ((with_reducible refine bO (N := 46) rfl ?_); refine bZ ?hg (N := 46) ?hd (cs := #[.slice A0 l0.length c0, .slice Av m1.length cv, .int .i64 a5, .slice none 0 0]) (t := 58) ?hr ?_; (case hd => rfl); (case hg => rfl); (case hr => exact jA); intro br aXJ w4 aXK uq; have J8 := za (aM HB3.out uq); have RX : aG (aC.RU Mk w4 br l0 A0 c0 m1 a5 [] (.slice Av m1.length cv) (.slice none 0 0)) := ⟨⟨aM Zk.out uq, aXK, Kd.iX HOC.out uq, Kd.mW _ _ _ _ _, Nat.le_trans (aT Zk.out) (Nat.le_of_eq aXJ.symm)⟩⟩; have aXL := za (aY rO.out uq); have WV := za (aY bMg.out uq); have p0 := (aA WV.out 0).trans rfl; have p1 := (aA WV.out 1).trans rfl; have p2 := (aA WV.out 2).trans rfl; have p3 := (aA WV.out 3).trans rfl; have p4 := (aA WV.out 4).trans rfl; have p5 := (aA WV.out 5).trans rfl; have p6 := (aA WV.out 6).trans rfl; have p7 := (aA WV.out 7).trans rfl; clear aXK uq aXJ) | (go_at_call 15; refine (aC.Gg Mk br l0 A0 c0 a1 (aC.stmt l0 k a1) (fun bf => aC.M3 Mk br l0 A0 c0 (Kd.dG Gi.out Bz.out) IQ.out k a1 bf) p A1 k1 A5 k5 A6 k6 l3 A3 c3 _ m1 m2 a5 Zb [] Xb res b2 _ _ RX.out HPV.out (Kd.dG HR3.out J8.out) (by have := aC.Uk HF.out; omega) HBD.out).mono ?_; rintro e w5 ⟨vm, vt, rfl, hx, hk, hn, _⟩; have R5 := za hx; have aXM := za (pQ aXL.out hk (fun z => by rcases z with z | z; exact nZ aXL.out RX.out.hr (by decide) z; simp [Value.ownBlock] at z)); clear hx hk hn p0 p1 p2 p3 p4 p5 p6 p7))
    obtain ⟨Am, cm, em⟩ := Kd.bJ R5.out.hm
    obtain ⟨At, ct, et⟩ := Kd.bJ R5.out.ht
    subst em et
    have c1 : w5.cell? ⟨br, 1, none⟩ = some (.slice Am m2.length cm) := (aA R5.out.hr 1).trans rfl
    have c2 : w5.cell? ⟨br, 2, none⟩ = some (.int .i64 Zb) := (aA R5.out.hr 2).trans rfl
    have c3 : w5.cell? ⟨br, 3, none⟩ = some (.slice At Xb.length ct) := (aA R5.out.hr 3).trans rfl
    go_region_held3 (fun w' => w'.cell? ⟨br, 1, none⟩ = some (.slice Am m2.length cm) ∧ w'.cell? ⟨br, 2, none⟩ = some (.int .i64 Zb) ∧ w'.cell? ⟨br, 3, none⟩ = some (.slice At Xb.length ct)) (first | go_keep) ((first | fail))
    have hle : Mk.heap.size ≤ w5.heap.size := aT R5.out.hB
    obtain ⟨b18, aOu⟩ : ∃ b18, b18 = w5.heap.size := ⟨_, rfl⟩
    obtain ⟨ws, hws⟩ : ∃ ws, ws = (w5.alloc (Obj.cells #[.int .i64 1, .slice Am m2.length cm, .int .i64 res, .slice At Xb.length ct, .int .i64 Zb] 41)).drew := ⟨_, rfl⟩
    have BO : aG (ws.heap[b18]? = some (.cells #[.int .i64 1, .slice Am m2.length cm, .int .i64 res, .slice At Xb.length ct, .int .i64 Zb] 41 (0, 0))) := ⟨by rw [hws, aOu]; exact dE (pJ w5 _)⟩
    have Ul : aG (ws.heap[b12]? = some (.cells #[.int .i64 0, .slice none 0 0, .int .i64 0, .slice none 0 0, .int .i64 0] 41 (0, 0))) := ⟨by rw [hws]; exact dE (bX aXM.out _)⟩
    have NO : aG (b12 ≠ b18) := ⟨by have h1 := gB aXM.out; omega⟩
    have RM : aG (pR.R 51 ws Mk.heap.size (fun _ => True) (.slice Am m2.length cm) m2) := ⟨by rw [hws]; exact Kd.bP (Kd.bC R5.out.hm _)⟩
    have RT2 : aG (Kd.string.R 9 ws Mk.heap.size (fun _ => True) (.slice At Xb.length ct) Xb) := ⟨by rw [hws]; exact Kd.bP (Kd.bC R5.out.ht _)⟩
    have HBW : aG (Below w.heap.size w ws) := ⟨by rw [hws]; exact aM Bz.out (gN (bT R5.out.hB _))⟩
    have GO : aG (w.heap.size ≤ b18) := ⟨by have h1 := aT Bz.out; omega⟩
    rw [← hws, ← aOu]
    clear hws aOu hle c1 c2 c3
    have hne1 := NO.out
    have hne2 := Ne.symm NO.out
    have o0 := (aA BO.out 0).trans rfl
    have fo0 := aD BO.out 0
    have q0 := (aA Ul.out 0).trans rfl
    have fq0 := aD Ul.out 0
    have o1 := (aA BO.out 1).trans rfl
    have fo1 := aD BO.out 1
    have q1 := (aA Ul.out 1).trans rfl
    have fq1 := aD Ul.out 1
    have o2 := (aA BO.out 2).trans rfl
    have fo2 := aD BO.out 2
    have q2 := (aA Ul.out 2).trans rfl
    have fq2 := aD Ul.out 2
    have o3 := (aA BO.out 3).trans rfl
    have fo3 := aD BO.out 3
    have q3 := (aA Ul.out 3).trans rfl
    have fq3 := aD Ul.out 3
    have o4 := (aA BO.out 4).trans rfl
    have fo4 := aD BO.out 4
    have q4 := (aA Ul.out 4).trans rfl
    have fq4 := aD Ul.out 4
    cases b2 with
    | true =>
     have h := H.out
     rw [if_pos rfl] at h
     simp only [Option.some.injEq, Prod.mk.injEq] at h
     obtain ⟨rfl, rfl, rfl, rfl, rfl⟩ := h
     go_wp2
     refine bodyPost_ret (results_cell_row rfl _ _ b12 41 #[.int .i64 1, .slice Am m2.length cm, .int .i64 res, .slice At Xb.length ct, .int .i64 Zb] (0, 0) _ rfl (aC.QN Ul.out _ _ _ _ _) VW rfl dU) rfl ?_
     exact ⟨_, _, rfl, Kd.eU (aC.Bb RM.out Ul.out (by decide) _ _ _ _ _) (aT Bz.out), Kd.eU (aC.Bb RT2.out Ul.out (by decide) _ _ _ _ _) (aT Bz.out), aC.Au HBW.out wh.out _ _ _ _ _⟩
    | false =>
     have h := H.out
     rw [if_neg Bool.false_ne_true] at h
     simp only [Option.some.injEq, Prod.mk.injEq] at h
     obtain ⟨rfl, rfl, rfl, rfl, rfl⟩ := h
     go_wp2
     have z0 := bD BO.out 0 (.int .i64 2) rfl
     have y0 := dJ Ul.out (p := ⟨b18, 0, none⟩) hne1 (.int .i64 2)
     have y1 := dJ y0 (p := ⟨b18, 2, none⟩) hne1 (.int .i64 0)
     refine bodyPost_ret (results_cell_row rfl _ _ b12 41 #[.int .i64 2, .slice Am m2.length cm, .int .i64 0, .slice At Xb.length ct, .int .i64 Zb] (0, 0) _ rfl (aC.QN y1 _ _ _ _ _) VW rfl dU) rfl ?_
     exact ⟨_, _, rfl, Kd.eU (aC.Bb (Kd.qP (Kd.qP RM.out BO.out (by decide) 0 _) z0 (by decide) 2 _) y1 (by decide) _ _ _ _ _) (aT Bz.out), Kd.eU (aC.Bb (Kd.qP (Kd.qP RT2.out BO.out (by decide) 0 _) z0 (by decide) 2 _) y1 (by decide) _ _ _ _ _) (aT Bz.out), aC.Au (aV (aV HBW.out GO.out) GO.out) wh.out _ _ _ _ _⟩
end
end Go.Proofs.Ytiaeldibklcobaa.eZ
