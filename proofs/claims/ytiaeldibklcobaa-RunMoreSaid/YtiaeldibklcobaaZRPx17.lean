import Derived.Test.YtiaeldibklcobaaZRPx16
namespace Go.Proofs.Ytiaeldibklcobaa.eZ
open Go.RowKit Go.Proofs.YtiaeldibklcobaaW.bL Go.Proofs.YtiaeldibklcobaaW.fV Go.Proofs.YtiaeldibklcobaaW.iZ
set_option maxHeartbeats 8000000
set_option maxRecDepth 100000
attribute [local go_sem] kL kM lX lY jC jD kN kP
set_option linter.unusedVariables false
set_option linter.unusedSimpArgs false
def bI.kid (vs : List Int) (i k : Int) : Int := if k < 0 then 0 else if k ≥ i then 0 else rd vs k
structure bI.VX (w W : World) (bs n cap b11 : Nat) (vs : List Int) : Prop where
 ho : Kd.R (Kd.int .i64) 3 W w.heap.size (fun _ => True) (.slice (some ⟨bs, 0, none⟩) n cap) vs
 h11 : W.heap[b11]? = some (.cells #[.slice (some ⟨bs, 0, none⟩) n cap] 23 (0, 0))
 hB : Below w.heap.size w W
 g11 : w.heap.size ≤ b11
namespace bI
variable {w W W' : World} {bs n cap b11 b12 : Nat} {vs : List Int} {i : Int}
theorem VX.ne (x : VX w W bs n cap b11 vs) : bs ≠ b11 := by
 have h := Kd.nA x.ho x.h11 (by decide)
 simpa [Value.ownBlock, eq_comm] using h
theorem VX.below (x : VX w W bs n cap b11 vs) (hb : Below W.heap.size W W') : VX w W' bs n cap b11 vs := ⟨Kd.iX x.ho hb, aY x.h11 hb, aM x.hB hb, x.g11⟩
theorem VX.lt (x : VX w W bs n cap b11 vs) : bs < W.heap.size ∧ b11 < W.heap.size ∧ w.heap.size ≤ W.heap.size := ⟨Kd.Hg x.ho bs rfl, gB x.h11, x.hB.size⟩
theorem VX.far (x : VX w W bs n cap b11 vs) {g j : Nat} (h1 : bs ≠ g) (h2 : b11 ≠ g) (h3 : w.heap.size ≤ g) (u : Value) : VX w (W.setCell ⟨g, j, none⟩ u) bs n cap b11 vs :=
 ⟨Kd.aQ (Kd.nL (p := ⟨g, j, none⟩) (Kd.sJ rfl x.ho) (fun k hk => by
  have : some k = some bs := hk
  cases this
  exact h1) u) (fun _ _ => trivial), dJ x.h11 h2 u, aV x.hB h3, x.g11⟩
theorem VX.cell (x : VX w W bs n cap b11 vs) (k : Int) (h0 : 0 ≤ k) (h1 : k < n) : W.cell? ⟨bs, k.toNat, none⟩ = some (.int .i64 (rd vs k)) := by
 obtain ⟨ad, e, h⟩ := Kd.MR (Kd.cZ x.ho).2.2 k h0 (by rw [← (Kd.cZ x.ho).1]; exact h1)
 cases e
 simpa [add_plain] using h
theorem VX.put (x : VX w W bs n cap b11 vs) (k v : Int) : VX w (W.setCell ⟨bs, k.toNat, none⟩ (.int .i64 v)) bs n cap b11 (vs.set k.toNat v) :=
 ⟨Kd.aK6 (h1 := fun _ => rfl) (enc := Value.int .i64) x.ho k v, dJ x.h11 (Ne.symm x.ne) _, aV x.hB (Kd.iV x.ho bs rfl), x.g11⟩
theorem VX.drewN (x : VX w W bs n cap b11 vs) (m : Nat) : VX w (W.drewN m) bs n cap b11 vs := ⟨x.ho, x.h11, bW x.hB m, x.g11⟩
theorem VX.drew (x : VX w W bs n cap b11 vs) : VX w W.drew bs n cap b11 vs := ⟨x.ho, x.h11, x.hB.drew, x.g11⟩
def lay (w4 : World) (b12 b13 : Nat) (x : Int) (n : dP) : World := ((((((((w4.setCell ⟨b12, 0, none⟩ (.int .i64 x)).setCell ⟨b13, 0, none⟩ (.int .i64 n.f0)).setCell ⟨b13, 1, none⟩ (.int .i64 n.f1)).setCell ⟨b13, 2, none⟩ (.string n.f2)).setCell ⟨b13, 3, none⟩ (.string n.f3)).setCell ⟨b13, 4, none⟩ (.int .i64 n.f4)).setCell ⟨b13, 5, none⟩ (.int .i64 n.f5)).setCell ⟨b13, 6, none⟩ (.int .i64 n.f6))
theorem aOi {w4 : World} {b12 b13 : Nat} {x : Int} {n : dP} (h13 : w4.heap[b13]? = some (.cells #[.int .i64 0, .int .i64 0, .string (⟨#[]⟩ : ByteArray), .string (⟨#[]⟩ : ByteArray), .int .i64 0, .int .i64 0, .int .i64 0] 112 (0, 0))) (hne : b13 ≠ b12) : (lay w4 b12 b13 x n).heap[b13]? = some (.cells #[.int .i64 n.f0, .int .i64 n.f1, .string n.f2, .string n.f3, .int .i64 n.f4, .int .i64 n.f5, .int .i64 n.f6] 112 (0, 0)) :=
 (bD (cs' := #[.int .i64 n.f0, .int .i64 n.f1, .string n.f2, .string n.f3, .int .i64 n.f4, .int .i64 n.f5, .int .i64 n.f6]) (bD (cs' := #[.int .i64 n.f0, .int .i64 n.f1, .string n.f2, .string n.f3, .int .i64 n.f4, .int .i64 n.f5, .int .i64 0]) (bD (cs' := #[.int .i64 n.f0, .int .i64 n.f1, .string n.f2, .string n.f3, .int .i64 n.f4, .int .i64 0, .int .i64 0]) (bD (cs' := #[.int .i64 n.f0, .int .i64 n.f1, .string n.f2, .string n.f3, .int .i64 0, .int .i64 0, .int .i64 0]) (bD (cs' := #[.int .i64 n.f0, .int .i64 n.f1, .string n.f2, .string (⟨#[]⟩ : ByteArray), .int .i64 0, .int .i64 0, .int .i64 0]) (bD (cs' := #[.int .i64 n.f0, .int .i64 n.f1, .string (⟨#[]⟩ : ByteArray), .string (⟨#[]⟩ : ByteArray), .int .i64 0, .int .i64 0, .int .i64 0]) (bD (cs' := #[.int .i64 n.f0, .int .i64 0, .string (⟨#[]⟩ : ByteArray), .string (⟨#[]⟩ : ByteArray), .int .i64 0, .int .i64 0, .int .i64 0]) (dJ h13 (p := ⟨b12, 0, none⟩) hne _) 0 (.int .i64 n.f0) rfl) 1 (.int .i64 n.f1) rfl) 2 (.string n.f2) rfl) 3 (.string n.f3) rfl) 4 (.int .i64 n.f4) rfl) 5 (.int .i64 n.f5) rfl) 6 (.int .i64 n.f6) rfl)
theorem aOj {w4 : World} {b12 b13 : Nat} {x : Int} {n : dP} (h12 : w4.heap[b12]? = some (.cells #[.int .i64 0] 3 (0, 0))) (hne : b13 ≠ b12) : (lay w4 b12 b13 x n).heap[b12]? = some (.cells #[.int .i64 x] 3 (0, 0)) :=
 (dJ (dJ (dJ (dJ (dJ (dJ (dJ (bD h12 0 (.int .i64 x) rfl) (p := ⟨b13, 0, none⟩) (Ne.symm hne) _) (p := ⟨b13, 1, none⟩) (Ne.symm hne) _) (p := ⟨b13, 2, none⟩) (Ne.symm hne) _) (p := ⟨b13, 3, none⟩) (Ne.symm hne) _) (p := ⟨b13, 4, none⟩) (Ne.symm hne) _) (p := ⟨b13, 5, none⟩) (Ne.symm hne) _) (p := ⟨b13, 6, none⟩) (Ne.symm hne) _)
theorem VX.lay {w4 : World} {b13 : Nat} {x : Int} {nd : dP} (h : VX w w4 bs n cap b11 vs) (a1 : bs ≠ b12) (a2 : b11 ≠ b12) (a3 : w.heap.size ≤ b12) (c1 : bs ≠ b13) (c2 : b11 ≠ b13) (c3 : w.heap.size ≤ b13) : VX w (lay w4 b12 b13 x nd) bs n cap b11 vs :=
 ((((((((h.far a1 a2 a3 _).far c1 c2 c3 _).far c1 c2 c3 _).far c1 c2 c3 _).far c1 c2 c3 _).far c1 c2 c3 _).far c1 c2 c3 _).far c1 c2 c3 _)
theorem VX.cells (x : VX w W bs n cap b11 vs) (k : Int) (h0 : 0 ≤ k) (h1 : k < n) : W.cell? ⟨bs, k.toNat, none⟩ = some (.int .i64 (rd vs k)) ∧ W.frozen? ⟨bs, k.toNat, none⟩ = false := ⟨x.cell k h0 h1, (Kd.P6 (h1 := fun _ => rfl) (enc := Value.int .i64) (0 : Int) x.ho k h0 h1).2⟩
theorem uf (k : Int) (x : VX w W bs n cap b11 vs) (h12 : W.heap[b12]? = some (.cells #[.int .i64 i] 3 (0, 0))) (hi : i ≤ n) :
  Calls Try.prog 51 #[.int .i64 k, .pointer (some ⟨b12, 0, none⟩), .pointer (some ⟨b11, 0, none⟩)] W fun e w' => e = .returned (.int .i64 (kid vs i k)) ∧ W = w' := by
 have c12 : W.cell? ⟨b12, 0, none⟩ = some (.int .i64 i) := (aA h12 0).trans rfl
 have c11 : W.cell? ⟨b11, 0, none⟩ = some (.slice (some ⟨bs, 0, none⟩) n cap) := (aA x.h11 0).trans rfl
 have X0 := za x
 clear x h12
 by_cases h0 : k < 0
 ·
  have hk : kid vs i k = 0 := by unfold kid; rw [if_pos h0]
  have HK := za hk
  clear hk
  have hb : decide (k < 0) = true := decide_eq_true h0
  go_enter Try.func51, Try.ntmps51
  go_wp2
  go_ret
  exact ⟨by rw [HK.out]; rfl, rfl⟩
 ·
  have hb : decide (k < 0) = false := decide_eq_false h0
  by_cases h1 : k ≥ i
  ·
   have hk : kid vs i k = 0 := by unfold kid; rw [if_neg h0, if_pos h1]
   have HK := za hk
   clear hk
   have hc : decide (i ≤ k) = true := decide_eq_true h1
   go_enter Try.func51, Try.ntmps51
   go_wp2
   go_ret
   exact ⟨by rw [HK.out]; rfl, rfl⟩
  ·
   have hk : kid vs i k = rd vs k := by unfold kid; rw [if_neg h0, if_neg h1]
   have HK := za hk
   clear hk
   have hc : decide (i ≤ k) = false := decide_eq_false h1
   have p0 : (0 ≤ k) = True := eq_true (by omega)
   have p1 : (k < (n : Int)) = True := eq_true (by omega)
   have cc := X0.out.cell k (by omega) (by omega)
   go_enter Try.func51, Try.ntmps51
   go_wp2
   go_ret
   exact ⟨by rw [HK.out]; rfl, rfl⟩
end bI
def bI.node (k : Nat) (vs : List Int) (i : Int) (n : dP) (a2 : ByteArray) (l3 l4 : List gK) : Option Int :=
 if n.f0 = 1 then (some n.f1) else (if n.f0 = 2 then (aN.f k n.f0 n.f1 n.f2 n.f3 n.f4 n.f5 n.f6 a2 l3 l4) else (Ug.f n.f0 (bI.kid vs i n.f4) (bI.kid vs i n.f5)))
def bI.l0 : Nat → List dP → Int → ByteArray → List gK → List gK → List Int → Int → Option Int
 | 0, _, _, _, _, _, _, _ => none
 | k + 1, l0, a1, a2, l3, l4, vs, i => if i < a1 + 1 then ((bI.node k vs i (gQ l0 i) a2 l3 l4).bind fun v => (bI.l0 k l0 a1 a2 l3 l4 (vs.set i.toNat v) (i + 1))) else (some (rd vs a1))
def bI.f (k : Nat) (l0 : List dP) (a1 : Int) (a2 : ByteArray) (l3 l4 : List gK) : Option Int :=
 if a1 < 0 then (some 0) else (if a1 ≥ (l0.length : Int) then (some 0) else (if l0.length ≤ 35184372088832 then (bI.l0 k l0 a1 a2 l3 l4 (List.replicate (a1 + 1).toNat 0) 0) else none))
theorem bI.node.mono : ∀ a0 a1 a2 a3 a4 a5 k, bV (bI.node k a0 a1 a2 a3 a4 a5) (bI.node (k + 1) a0 a1 a2 a3 a4 a5) := by
 intro a0 a1 a2 a3 a4 a5 k
 unfold bI.node
 repeat' with_reducible first | apply aN.mono | exact bV.refl _ | refine bV.ite ?_ ?_
theorem bI.fT : ∀ k, (∀ y0 y1 y2 y3 y4 y5 y6, bV (bI.l0 k y0 y1 y2 y3 y4 y5 y6) (bI.l0 (k + 1) y0 y1 y2 y3 y4 y5 y6))
 | 0 => fun _ _ _ _ _ _ _ r h => by simp [bI.l0] at h
 | k + 1 => by
  have nV := bI.fT k
  ·
   intro y0 y1 y2 y3 y4 y5 y6
   unfold bI.l0
   repeat' with_reducible first | apply nV | apply bI.node.mono | exact bV.refl _ | exact bV.none _ | refine bV.ite ?_ ?_ | refine bV.bind ?_ (fun _ => ?_)
theorem bI.mono : ∀ a0 a1 a2 a3 a4 k, bV (bI.f k a0 a1 a2 a3 a4) (bI.f (k + 1) a0 a1 a2 a3 a4) := by
 intro a0 a1 a2 a3 a4 k
 have nV := bI.fT k
 unfold bI.f
 repeat' with_reducible first | apply nV | apply bI.node.mono | exact bV.refl _ | exact bV.none _ | refine bV.ite ?_ ?_ | refine bV.bind ?_ (fun _ => ?_)
theorem bI.calls (k : Nat) (A0 : Option Addr) (c0 : Nat) (l0 : List dP) (a1 : Int) (a2 : ByteArray) (A3 : Option Addr) (c3 : Nat) (l3 : List gK) (A4 : Option Addr) (c4 : Nat) (l4 : List gK) (r : Int) (w : World) (hr0 : Kd.C gU w A0 l0.length l0) (hc0 : l0.length ≤ c0) (hr3 : Kd.C pR w A3 l3.length l3) (hc3 : l3.length ≤ c3) (hr4 : Kd.C pR w A4 l4.length l4) (hc4 : l4.length ≤ c4) (h : bI.f k l0 a1 a2 l3 l4 = some r) :
  Calls Try.prog 45 #[.slice A0 l0.length c0, .int .i64 a1, .string a2, .slice A3 l3.length c3, .slice A4 l4.length c4] w fun e w' => e = .returned (.int .i64 r) ∧ Below w.heap.size w w' := by
 have bQI := Try.underlying112
 have Gi := za hr0
 have HR3 := za hr3
 have HR4 := za hr4
 have IQ := za hc0
 have Zk := za hc3
 have JD := za hc4
 clear hr0 hr3 hr4 hc0 hc3 hc4
 unfold bI.f at h
 by_cases h0 : a1 < 0
 ·
  rw [if_pos h0] at h
  obtain rfl := Option.some.inj h
  have hb : decide (a1 < 0) = true := decide_eq_true h0
  go_enter Try.func45, Try.ntmps45
  go_wp2
  go_ret
  exact ⟨rfl, Below.refl _ _⟩
 rw [if_neg h0] at h
 have hb0 : decide (a1 < 0) = false := decide_eq_false h0
 by_cases h1 : a1 ≥ (l0.length : Int)
 ·
  rw [if_pos h1] at h
  obtain rfl := Option.some.inj h
  have hb : decide ((l0.length : Int) ≤ a1) = true := decide_eq_true h1
  go_enter Try.func45, Try.ntmps45
  go_wp2
  go_ret
  exact ⟨rfl, Below.refl _ _⟩
 rw [if_neg h1] at h
 have hb1 : decide ((l0.length : Int) ≤ a1) = false := decide_eq_false h1
 by_cases h2 : l0.length ≤ 35184372088832
 case neg => rw [if_neg h2] at h; cases h
 rw [if_pos h2] at h
 have H := za h
 have hp0 : 0 ≤ a1 := by omega
 have hp1 : a1 < (l0.length : Int) := by omega
 have hp2 : a1 + 1 ≤ (l0.length : Int) := by omega
 have hp3 : (l0.length : Int) ≤ 35184372088832 := by omega
 clear h h0 h1
 have hp4 : a1 + 1 ≤ (c0 : Int) := by have := IQ.out; omega
 have hq := eq_true hp0
 obtain ⟨RS, hvs⟩ : ∃ RS, RS = List.replicate (a1 + 1).toNat (0 : Int) := ⟨_, rfl⟩
 have HV := za hvs
 have hv1 : a1 + 1 ≤ (RS.length : Int) := by rw [hvs, List.length_replicate]; omega
 have hv2 : (RS.length : Int) ≤ a1 + 1 := by rw [hvs, List.length_replicate]; omega
 clear hvs
 have HV2 : aG (0 < RS.length) := ⟨by omega⟩
 have hmax : max (a1 + 1) 0 = a1 + 1 := by omega
 go_enter Try.func45, Try.ntmps45
 go_wp2_with (first | ((with_reducible refine bO (N := 25) rfl ?_); refine Kd.xu (Kd.int .i64) _ 3 rfl (N := 25) rfl 23 _ _ rfl (a1 + 1) rfl rfl Try.underlying23 (.int .i64 0) 8 info3 rfl (by decide) (by omega) 0 (ok := fun _ => True) (yO := fun _ => True) rfl (fun _ hk => hk) trivial (by omega) (by omega) (Below.refl _ _) (Nat.le_refl _) ?_; intro v1 w1 ho hb hg_ Rq; clear hg_ Rq; rw [← HV.out] at ho; obtain ⟨bs, cap, rfl, hbs, hbl, _⟩ := Kd.Vt ho HV2.out; have HO := za ho; have HB := za hb; clear ho hb hbs hbl) | ((with_reducible refine bO (N := 11) rfl ?_); refine bZ ?hg (N := 11) ?hd (cs := #[.slice none 0 0]) (t := 23) ?hr ?_; (case hd => rfl); (case hg => rfl); (case hr => exact jA); intro b11 hg w2 gP hb; have BK := za gP; have HB2 := za hb; have GW := za hg; clear gP hb hg; have q0 := (aA BK.out 0).trans rfl; have f0 := aD BK.out 0))
 clear q0 f0
 have X0 : aG (bI.VX w (w2.setCell ⟨b11, 0, none⟩ (.slice (some ⟨bs, 0, none⟩) RS.length cap)) bs RS.length cap b11 RS) := by
  have hlt := Kd.Hg HO.out bs rfl
  have hne : bs ≠ b11 := by rw [GW.out]; omega
  refine ⟨?_, bD BK.out 0 _ rfl, aV (aM HB.out HB2.out) (by rw [GW.out]; exact HB.out.size), by rw [GW.out]; exact HB.out.size⟩
  refine Kd.aQ (RL (Kd.sJ rfl (Kd.iX HO.out HB2.out)) (fun k hk => ?_)) (fun _ _ => trivial)
  have : some k = some bs := hk
  cases this
  exact hne
 rw [← HV.out] at H
 generalize w2.setCell ⟨b11, 0, none⟩ (.slice (some ⟨bs, 0, none⟩) RS.length cap) = W2 at X0 ⊢
 clear BK HB HB2 GW HO HV HV2
 go_loopw [31] (fun i W => ∃ (kq : Nat) (vs : List Int) (x : Int), i = .int .i64 x ∧ 0 ≤ x ∧ x ≤ a1 + 1 ∧ aG (bI.l0 kq l0 a1 a2 l3 l4 vs x = some r) ∧ aG (bI.VX w W bs RS.length cap b11 vs)) (fun i _ => (a1 + 1 - intOf i).toNat)
 case atStart => exact ⟨k, RS, 0, rfl, by omega, by omega, H, X0⟩
 case round =>
  clear X0 H
  obtain ⟨kq, vs, x, rfl, hx0, hx1, HA, X0⟩ := hrel
  cases kq with
  | zero => exact absurd HA.out (by simp [bI.l0])
  | succ kj =>
  have H := HA.out
  clear HA
  simp only [bI.l0] at H
  by_cases hlt : x < a1 + 1
  ·
   rw [if_pos hlt] at H
   obtain ⟨v, hv, H⟩ := Option.bind_eq_some_iff.mp H
   have HV := za hv
   have HN := za H
   clear hv H
   have hxl : x < (l0.length : Int) := by omega
   obtain ⟨ad, ea, e0, e1, e2, e3, e4, e5, e6⟩ := aEt Gi.out x hx0 hxl
   cases ea
   replace e0 := (X0.out.hB.cell (World.block_lt_of_cell? w _ e0)).trans e0
   replace e1 := (X0.out.hB.cell (World.block_lt_of_cell? w _ e1)).trans e1
   replace e2 := (X0.out.hB.cell (World.block_lt_of_cell? w _ e2)).trans e2
   replace e3 := (X0.out.hB.cell (World.block_lt_of_cell? w _ e3)).trans e3
   replace e4 := (X0.out.hB.cell (World.block_lt_of_cell? w _ e4)).trans e4
   replace e5 := (X0.out.hB.cell (World.block_lt_of_cell? w _ e5)).trans e5
   replace e6 := (X0.out.hB.cell (World.block_lt_of_cell? w _ e6)).trans e6
   have p0 := eq_true hx0
   have p1 : (x < ((a1 + 1).toNat : Int)) = True := eq_true (by omega)
   go_upto_region 7 with (first | ((with_reducible refine bO (N := 12) rfl ?_); refine bZ ?hg (N := 12) ?hd (cs := #[.int .i64 0]) (t := 3) ?hr ?_; (case hd => rfl); (case hg => rfl); (case hr => exact jA); intro b12 hg w3 gP hb; have aXu := za gP; have HB3 := za hb; have aOk := za hg; clear gP hb hg) | ((with_reducible refine bO (N := 13) rfl ?_); refine bZ ?hg (N := 13) ?hd (cs := #[.int .i64 0, .int .i64 0, .string (⟨#[]⟩ : ByteArray), .string (⟨#[]⟩ : ByteArray), .int .i64 0, .int .i64 0, .int .i64 0]) (t := 112) ?hr ?_; (case hd => rfl); (case hg => rfl); (case hr => exact jA); intro b13 hg w4 gP hb; have Je := za gP; have J8 := za hb; have aOl := za hg; have WN := za (aY aXu.out hb); clear gP hb hg; have u0 := (aA WN.out 0).trans rfl; have g0 := aD WN.out 0; have n1 : b12 ≠ b13 := nZ WN.out Je.out (by decide); have n2 := Ne.symm n1; have t0 := (aA Je.out 0).trans rfl; have t1 := (aA Je.out 1).trans rfl; have t2 := (aA Je.out 2).trans rfl; have t3 := (aA Je.out 3).trans rfl; have t4 := (aA Je.out 4).trans rfl; have t5 := (aA Je.out 5).trans rfl; have t6 := (aA Je.out 6).trans rfl; have k0 := aD Je.out 0; have k1 := aD Je.out 1; have k2 := aD Je.out 2; have kk3 := aD Je.out 3; have k4 := aD Je.out 4; have k5 := aD Je.out 5; have k6 := aD Je.out 6))
   clear e0 e1 e2 e3 e4 e5 e6 u0 g0 t0 t1 t2 t3 t4 t5 t6 k0 k1 k2 kk3 k4 k5 k6
   have Po := za (bI.aOi (x := x) (n := gQ l0 x) Je.out n2)
   have RV := za (bI.aOj (x := x) (n := gQ l0 x) WN.out n2)
   have X5 : aG (bI.VX w (bI.lay w4 b12 b13 x (gQ l0 x)) bs RS.length cap b11 vs) := by
    have l0_ := X0.out.lt
    have l1_ := HB3.out.size
    have l2_ := aOk.out
    have l3_ := aOl.out
    exact ⟨((X0.out.below HB3.out).below J8.out).lay (by omega) (by omega) (by omega) (by omega) (by omega) (by omega)⟩
   have D12 : aG (bs ≠ b12) := ⟨by have l0_ := X0.out.lt; have l2_ := aOk.out; omega⟩
   have jh : aG (bs ≠ b13) := ⟨by have l0_ := X0.out.lt; have l1_ := HB3.out.size; have l3_ := aOl.out; omega⟩
   show Code.wp Try.prog _ _ _ (bI.lay w4 b12 b13 x (gQ l0 x))
   generalize bI.lay w4 b12 b13 x (gQ l0 x) = W5 at Po RV X5 ⊢
   clear aXu WN Je HB3 J8 aOk aOl X0
   have m0 := (aA Po.out 0).trans rfl
   have m1 := (aA Po.out 1).trans rfl
   have m2 := (aA Po.out 2).trans rfl
   have m3 := (aA Po.out 3).trans rfl
   have m4 := (aA Po.out 4).trans rfl
   have m5 := (aA Po.out 5).trans rfl
   have m6 := (aA Po.out 6).trans rfl
   have m12 := (aA RV.out 0).trans rfl
   have m11 := (aA X5.out.h11 0).trans rfl
   have hxn : x < (RS.length : Int) := by omega
   obtain ⟨s1, s2⟩ := X5.out.cells x hx0 hxn
   have p2 := eq_true hxn
   by_cases hk1 : (gQ l0 x).f0 = 1
   ·
    have hkb : ((gQ l0 x).f0 == 1) = true := beq_iff_eq.mpr hk1
    have hve : aG ((gQ l0 x).f1 = v) := ⟨by have := HV.out; unfold bI.node at this; rw [if_pos hk1] at this; exact Option.some.inj this⟩
    clear hk1
    go_wp2
    go_roundw
    case rel => exact ⟨kj, _, x + 1, by go_num, by omega, by omega, HN, ⟨by rw [← hve.out]; exact X5.out.put x _⟩⟩
    case measure => simp [intOf]; omega
   have hkb : ((gQ l0 x).f0 == 1) = false := beq_eq_false_iff_ne.mpr hk1
   by_cases hk2 : (gQ l0 x).f0 = 2
   ·
    have hkc : ((gQ l0 x).f0 == 2) = true := beq_iff_eq.mpr hk2
    have hve : aG (aN.f kj (gQ l0 x).f0 (gQ l0 x).f1 (gQ l0 x).f2 (gQ l0 x).f3 (gQ l0 x).f4 (gQ l0 x).f5 (gQ l0 x).f6 a2 l3 l4 = some v) := ⟨by have := HV.out; unfold bI.node at this; rw [if_neg hk1, if_pos hk2] at this; exact this⟩
    clear hk1 hk2
    go_wp2
    go_region_held3 (fun w' => w'.cell? ⟨b11, 0, none⟩ = some (.slice (some ⟨bs, 0, none⟩) RS.length cap) ∧ w'.cell? ⟨b12, 0, none⟩ = some (.int .i64 x) ∧ w'.cell? ⟨b13, 0, none⟩ = some (.int .i64 (gQ l0 x).f0) ∧ w'.cell? ⟨b13, 1, none⟩ = some (.int .i64 (gQ l0 x).f1) ∧ w'.cell? ⟨b13, 2, none⟩ = some (.string (gQ l0 x).f2) ∧ w'.cell? ⟨b13, 3, none⟩ = some (.string (gQ l0 x).f3) ∧ w'.cell? ⟨b13, 4, none⟩ = some (.int .i64 (gQ l0 x).f4) ∧ w'.cell? ⟨b13, 5, none⟩ = some (.int .i64 (gQ l0 x).f5) ∧ w'.cell? ⟨b13, 6, none⟩ = some (.int .i64 (gQ l0 x).f6)) (first | go_keep | (exact ⟨(aA (X6.out.put x v).h11 0).trans rfl, (aA (dJ C12.out (p := ⟨bs, x.toNat, none⟩) (Ne.symm D12.out) _) 0).trans rfl, (aA (dJ PX.out (p := ⟨bs, x.toNat, none⟩) (Ne.symm jh.out) _) 0).trans rfl, (aA (dJ PX.out (p := ⟨bs, x.toNat, none⟩) (Ne.symm jh.out) _) 1).trans rfl, (aA (dJ PX.out (p := ⟨bs, x.toNat, none⟩) (Ne.symm jh.out) _) 2).trans rfl, (aA (dJ PX.out (p := ⟨bs, x.toNat, none⟩) (Ne.symm jh.out) _) 3).trans rfl, (aA (dJ PX.out (p := ⟨bs, x.toNat, none⟩) (Ne.symm jh.out) _) 4).trans rfl, (aA (dJ PX.out (p := ⟨bs, x.toNat, none⟩) (Ne.symm jh.out) _) 5).trans rfl, (aA (dJ PX.out (p := ⟨bs, x.toNat, none⟩) (Ne.symm jh.out) _) 6).trans rfl⟩) | (exact ⟨(aA X6.out.h11 0).trans rfl, (aA C12.out 0).trans rfl, (aA PX.out 0).trans rfl, (aA PX.out 1).trans rfl, (aA PX.out 2).trans rfl, (aA PX.out 3).trans rfl, (aA PX.out 4).trans rfl, (aA PX.out 5).trans rfl, (aA PX.out 6).trans rfl⟩)) ((go_at_call 52; refine (aN.calls kj _ _ _ _ _ _ _ a2 A3 c3 l3 A4 c4 l4 v _ (Kd.dG HR3.out (by first | exact X5.out.hB | exact X5.out.drew.hB | exact (X5.out.drewN _).hB)) Zk.out (Kd.dG HR4.out (by first | exact X5.out.hB | exact X5.out.drew.hB | exact (X5.out.drewN _).hB)) JD.out hve.out).mono ?_; rintro e w6 ⟨rfl, hb6⟩; have X6 := za (X5.out.drew.below hb6); have PX := za (aY (dE Po.out) hb6); have C12 := za (aY (dE RV.out) hb6); obtain ⟨s1', s2'⟩ := X6.out.cells x hx0 hxn))
    all_goals
     go_wp2
     go_roundw
     case rel => exact ⟨kj, _, x + 1, by go_num, by omega, by omega, HN, ⟨X6.out.put x v⟩⟩
     case measure => simp [intOf]; omega
   ·
    have hkc : ((gQ l0 x).f0 == 2) = false := beq_eq_false_iff_ne.mpr hk2
    have hve : aG (Ug.f (gQ l0 x).f0 (bI.kid vs x (gQ l0 x).f4) (bI.kid vs x (gQ l0 x).f5) = some v) := ⟨by have := HV.out; unfold bI.node at this; rw [if_neg hk1, if_neg hk2] at this; exact this⟩
    clear hk1 hk2
    have hxv : x ≤ (RS.length : Int) := by omega
    go_wp2
    go_region_held3 (fun w' => w'.cell? ⟨b11, 0, none⟩ = some (.slice (some ⟨bs, 0, none⟩) RS.length cap) ∧ w'.cell? ⟨b12, 0, none⟩ = some (.int .i64 x) ∧ w'.cell? ⟨b13, 0, none⟩ = some (.int .i64 (gQ l0 x).f0) ∧ w'.cell? ⟨b13, 1, none⟩ = some (.int .i64 (gQ l0 x).f1) ∧ w'.cell? ⟨b13, 2, none⟩ = some (.string (gQ l0 x).f2) ∧ w'.cell? ⟨b13, 3, none⟩ = some (.string (gQ l0 x).f3) ∧ w'.cell? ⟨b13, 4, none⟩ = some (.int .i64 (gQ l0 x).f4) ∧ w'.cell? ⟨b13, 5, none⟩ = some (.int .i64 (gQ l0 x).f5) ∧ w'.cell? ⟨b13, 6, none⟩ = some (.int .i64 (gQ l0 x).f6)) (first | go_keep | (exact ⟨(aA (X5.out.h11) 0).trans rfl, (aA RV.out 0).trans rfl, (aA Po.out 0).trans rfl, (aA Po.out 1).trans rfl, (aA Po.out 2).trans rfl, (aA Po.out 3).trans rfl, (aA Po.out 4).trans rfl, (aA Po.out 5).trans rfl, (aA Po.out 6).trans rfl⟩) | (exact ⟨(aA (X5.out.put x v).h11 0).trans rfl, (aA (dJ RV.out (p := ⟨bs, x.toNat, none⟩) (Ne.symm D12.out) (.int .i64 v)) 0).trans rfl, (aA (dJ Po.out (p := ⟨bs, x.toNat, none⟩) (Ne.symm jh.out) (.int .i64 v)) 0).trans rfl, (aA (dJ Po.out (p := ⟨bs, x.toNat, none⟩) (Ne.symm jh.out) (.int .i64 v)) 1).trans rfl, (aA (dJ Po.out (p := ⟨bs, x.toNat, none⟩) (Ne.symm jh.out) (.int .i64 v)) 2).trans rfl, (aA (dJ Po.out (p := ⟨bs, x.toNat, none⟩) (Ne.symm jh.out) (.int .i64 v)) 3).trans rfl, (aA (dJ Po.out (p := ⟨bs, x.toNat, none⟩) (Ne.symm jh.out) (.int .i64 v)) 4).trans rfl, (aA (dJ Po.out (p := ⟨bs, x.toNat, none⟩) (Ne.symm jh.out) (.int .i64 v)) 5).trans rfl, (aA (dJ Po.out (p := ⟨bs, x.toNat, none⟩) (Ne.symm jh.out) (.int .i64 v)) 6).trans rfl⟩)) (first | (go_at_call 51; refine (bI.uf _ X5.out.drew (dE RV.out) hxv).mono ?_; rintro e w6 ⟨rfl, rfl⟩) | (go_at_call 53; refine (Ug.calls _ _ _ v _ hve.out).mono ?_; rintro e w6 ⟨rfl, ⟨nd, rfl⟩⟩))
    all_goals
     go_wp2
     go_roundw
     case rel => exact ⟨kj, _, x + 1, by go_num, by omega, by omega, HN, ⟨by first | exact (X5.out.drewN _).put x v | exact (X5.out.drew.drewN _).put x v⟩⟩
     case measure => simp [intOf]; omega
  ·
   rw [if_neg hlt] at H
   obtain rfl := Option.some.inj H
   have hxe : a1 + 1 ≤ x := by omega
   have hbb : decide (x < a1 + 1) = false := decide_eq_false hlt
   have hxn : a1 < (RS.length : Int) := by omega
   obtain ⟨s1, s2⟩ := X0.out.cells a1 hp0 hxn
   have p2 := eq_true hxn
   have m11 := (aA X0.out.h11 0).trans rfl
   go_wp2
   go_ret
   exact ⟨rfl, X0.out.hB⟩
def qH.f (k : Nat) (l0 : List (gK)) (a1 : ByteArray) (a2 : ByteArray) (a3 : Int) : Option ((List (gK)) × Bool) := (dF.f k l0 a1 a2).bind fun mH => ((jU.f l0).bind fun pV => (if mH < 0 then (some (pV, false)) else (if 0 ≤ mH then (if mH < (pV.length : Int) then (some ((pV.set (mH : Int).toNat (⟨(aZ pV mH).f0, (aZ pV mH).f1, a3⟩ : gK)), true)) else (none)) else (none))))
theorem qH.mono : ∀ a0 a1 a2 a3 k, bV (qH.f k a0 a1 a2 a3) (qH.f (k + 1) a0 a1 a2 a3) := by
 intro a0 a1 a2 a3 k
 unfold qH.f
 repeat' with_reducible first | apply dF.mono | exact bV.refl _ | exact bV.none _ | refine bV.ite ?_ ?_ | refine bV.bind ?_ (fun _ => ?_)
theorem qH.calls (k : Nat) (A0 : Option Addr) (c0 : Nat) (l0 : List (gK)) (a1 : ByteArray) (a2 : ByteArray) (a3 : Int) (r1 : List (gK)) (r2 : Bool) (w : World) (hr0 : Kd.C pR w A0 l0.length l0) (hc0 : l0.length ≤ c0) (h : qH.f k l0 a1 a2 a3 = some (r1, r2)) :
  Calls Try.prog 47 #[.slice A0 l0.length c0, .string a1, .string a2, .int .i64 a3] w fun e w' => ∃ lZ : Value, e = .returned (.tuple #[lZ, .bool r2]) ∧ Kd.R pR 51 w' w.heap.size (fun _ => True) lZ r1 ∧ Below w.heap.size w w' := by
 have Gi := za hr0
 have IQ := za hc0
 clear hr0 hc0
 have HB := za (Below.refl w.heap.size w)
 have H : ((dF.f k l0 a1 a2).bind fun mH => ((jU.f l0).bind fun pV => (if mH < 0 then (some (pV, false)) else (if 0 ≤ mH then (if mH < (pV.length : Int) then (some ((pV.set (mH : Int).toNat (⟨(aZ pV mH).f0, (aZ pV mH).f1, a3⟩ : gK)), true)) else (none)) else (none))))) = some (r1, r2) := h
 clear h
 replace H := jT H
 obtain ⟨mH, A5, H⟩ := H
 (try dsimp only at H)
 replace H := jT H
 obtain ⟨pV, A6, H⟩ := H
 (try dsimp only at H)
 have vw := za H
 clear H
 go_enter Try.func47, Try.ntmps47
 go_upto_if 19 with (first | ((with_reducible refine zg 55 rfl ?_); refine kZ (some 15) Try.func55 #[.slice A0 l0.length c0, .string a1, .string a2] ?_; refine (dF.calls k _ _ l0 a1 a2 mH _ aAj IQ.out A5.out).mono ?_; rintro e w8 ⟨rfl, hb⟩; refine ⟨_, rfl, ?_⟩; replace HB := za (aM kU hb)) | ((with_reducible refine gL (f := 14) rfl ?_); refine nQ (some 17) rfl rfl Try.func14 dU rfl #[.slice A0 l0.length c0] rfl Fb ?_; (with_reducible refine (jU.calls _ _ l0 pV _ ?side1 ?side2 A6.out).mono ?_); (case side1 => repeat (first | exact (Kd.dG Gi.out HB.out) | (with_reducible refine Kd.jV ?_ _) | (with_reducible refine Kd.jW ?_ _) | (with_reducible refine Kd.kR ?_))); (case side2 => exact IQ.out); rintro e w9 ⟨bOH, rfl, ho0, hb⟩; refine ⟨_, rfl, ?_⟩; have Jf := za (Kd.eU ho0 (aT kU)); replace HB := za (aM kU hb)))
 have H := vw.out
 clear vw
 revert H; refine Dn (fun c10 H => ?_) (fun c10 H => ?_)
 ·
  have xS := decide_eq_true c10
  clear c10
  (first | rw [xS] | (simp only [dO, dQ]; rw [xS]) | skip)
  simp only [Option.some.injEq, Prod.mk.injEq] at H
  obtain ⟨rfl, rfl⟩ := H
  go_wp2
  go_ret2
  exact ⟨_, jR, by (with_reducible repeat (first | apply Kd.bC | apply Kd.bF | apply Kd.bP)); exact Jf.out, kU⟩
 ·
  have xS := decide_eq_false c10
  clear c10
  (first | rw [xS] | (simp only [dO, dQ]; rw [xS]) | skip)
  revert H; refine yX fun Co H => ?_
  revert H; refine yX fun Dy H => ?_
  obtain ⟨aKK, EM⟩ : ∃ y_ : List (gK), y_ = (pV.set (mH : Int).toNat (⟨(aZ pV mH).f0, (aZ pV mH).f1, a3⟩ : gK)) := ⟨_, rfl⟩
  replace H : (some (aKK, true)) = some (r1, r2) := by first | (rw [EM]; with_reducible exact H) | (have lS := (Option.bind_some _ _).symm.trans H; rw [EM]; with_reducible exact lS) | (have lS := (Option.bind_some _ _).symm.trans H; with_reducible exact lS) | with_reducible exact H | (rw [EM]; exact H) | exact H
  have aOm := za EM
  clear EM
  simp only [Option.some.injEq, Prod.mk.injEq] at H
  obtain ⟨rfl, rfl⟩ := H
  have p13 : 0 ≤ (mH : Int) := of_decide_eq_true iL
  have q13 : (mH : Int) < ((pV.length : Int) : Int) := of_decide_eq_true iL
  obtain ⟨JP, aXv, aXw, aXx, bL3, bQJ, aXy⟩ := Kd.Vt Jf.out (by omega)
  (first | cases aXw | (injection aXw with Dj QV QW; (first | subst Dj | (injection Dj with Dj; subst Dj)); subst QW; clear QV))
  have bL4 := za aXx
  have bQK := za aXy
  clear aXx bL3 aXy
  obtain ⟨bQL, aXz, aXA, ji, jk⟩ := Kd.Oa Jf.out z51 (mH : Int) p13 q13
  obtain rfl := zW aXA
  have bL5 : w9.cell? ⟨JP, (mH : Int).toNat * 3, none⟩ = some (.string ((aZ pV mH).f0)) := ji 0 _ rfl
  have bL6 : w9.cell? ⟨JP, (mH : Int).toNat * 3 + 1, none⟩ = some (.string ((aZ pV mH).f1)) := ji 1 _ rfl
  have bL7 : w9.cell? ⟨JP, (mH : Int).toNat * 3 + 2, none⟩ = some (.int .i64 ((aZ pV mH).f2)) := ji 2 _ rfl
  have bL8 : w9.frozen? ⟨JP, (mH : Int).toNat * 3, none⟩ = false := jk 0
  have bL9 : w9.frozen? ⟨JP, (mH : Int).toNat * 3 + 1, none⟩ = false := jk 1
  have bMa : w9.frozen? ⟨JP, (mH : Int).toNat * 3 + 2, none⟩ = false := jk 2
  clear aXz ji jk aXA
  replace p13 := eq_true p13
  replace q13 := eq_true q13
  have aXB := za (show Kd.R pR 51 w9 w.heap.size (fun _ => True) (.slice (some ⟨JP, 0, none⟩) pV.length aXv) pV from (zr Jf.out))
  obtain ⟨bQM, aKL, aXC, aC5, aKM⟩ := Kd.Oa aXB.out z51 (mH : Int) (of_decide_eq_true iL) (by have h_ : (mH : Int) < ((pV.length : Int) : Int) := of_decide_eq_true iL; first | exact h_ | (have e_ := (Kd.cZ Jf.out).1; omega) | simpa using h_)
  obtain rfl := zW aXC
  have aOn := Kd.P5 aXB.out (mH : Int) (of_decide_eq_true iL) (by have h_ : (mH : Int) < ((pV.length : Int) : Int) := of_decide_eq_true iL; first | exact h_ | (have e_ := (Kd.cZ Jf.out).1; omega) | simpa using h_) (Gz := [.int .i64 a3]) (j := 2) aKL aC5 (show 3 ≤ 3 from by decide) (x' := (⟨(aZ pV mH).f0, (aZ pV mH).f1, a3⟩ : gK)) (Fw _ _ _ (⟨(aZ pV mH).f0, (aZ pV mH).f1, a3⟩ : gK) ) (fun _ hk => hk)
  have aOo := aC5 2 _ rfl
  (try simp only [show (pR).sz = 3 from rfl, Nat.mul_one, Nat.add_zero] at aOo)
  have aOp := aKM 2
  (try simp only [show (pR).sz = 3 from rfl, Nat.mul_one, Nat.add_zero] at aOp)
  clear aKL aC5 aKM aXC
  go_wp2_with (first | ((with_reducible refine wX (t := 3) (p := 25) rfl ?_); refine vC (t := 3) (p := 25) (v := ?bMb) (w1 := (w9.setCell ⟨JP, (mH : Int).toNat * 3 + 2, none⟩ (.int .i64 a3))) ?hg ?ho ?hn ?hr ?_; (case ho => rfl); (case hg => rfl); (case hn => rfl); (case hr => exact jA); intro w15 hw; have hg : w9.grownBy w15 (some JP) := (by rw [hw]; exact aOn.2); have hp_ : Kd.R pR 51 w15 w.heap.size (fun _ => True) (.slice (some ⟨JP, 0, none⟩) pV.length aXv) aKK := (by rw [hw, aOm.out]; exact aOn.1); clear aOn; replace Jf := za (hp_); replace HB := za ((by rw [hw]; exact aV (HB.out) bL4.out : Below w.heap.size w w15)); clear hg hw hp_))
  go_ret2
  exact ⟨_, jR, by (with_reducible repeat (first | apply Kd.bC | apply Kd.bF | apply Kd.bP)); exact Jf.out, kU⟩
end Go.Proofs.Ytiaeldibklcobaa.eZ
