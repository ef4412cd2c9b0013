import Derived.Test.YtiaeldibklcobaaZRPx0
namespace Go.Proofs.Ytiaeldibklcobaa.eZ
open Go.RowKit Go.Proofs.YtiaeldibklcobaaW.bL Go.Proofs.YtiaeldibklcobaaW.fV Go.Proofs.YtiaeldibklcobaaW.iZ
set_option maxHeartbeats 8000000
set_option maxRecDepth 100000
attribute [local go_sem] kL kM lX lY jC jD kN kP
set_option linter.unusedVariables false
set_option linter.unusedSimpArgs false
def aH (w0 W : World) (g : Nat) (f0 : List (iJ)) (f1 : Int) (f2 : Int) (f3 : Int) (f4 : Int) : Prop := ∃ A0 c0, W.heap[g]? = some (.cells #[.slice A0 f0.length c0, .int .i64 f1, .int .i64 f2, .int .i64 f3, .int .i64 f4] 66 (0, 0)) ∧ w0.heap.size ≤ g ∧ Kd.C IZ w0 A0 f0.length f0
theorem aH.grown {w0 W : World} {g : Nat} {f0 : List (iJ)} {f1 : Int} {f2 : Int} {f3 : Int} {f4 : Int} {W1 : World} {row : Option Nat} (h : aH w0 W g f0 f1 f2 f3 f4) (hw : W.grownBy W1 row) (hne : some g ≠ row) : aH w0 W1 g f0 f1 f2 f3 f4 := by
 obtain ⟨A0, c0, hb, hg, hr0⟩ := h
 exact ⟨A0, c0, eD hb hw hne, hg, hr0⟩
theorem aH.kept {w0 W : World} {g : Nat} {f0 : List (iJ)} {f1 : Int} {f2 : Int} {f3 : Int} {f4 : Int} {W1 : World} {S : Nat → Prop} (h : aH w0 W g f0 f1 f2 f3 f4) (hk : Kept W W1 S) (hne : ¬ S g) : aH w0 W1 g f0 f1 f2 f3 f4 := by
 obtain ⟨A0, c0, hb, hg, hr0⟩ := h
 exact ⟨A0, c0, pQ hb hk hne, hg, hr0⟩
theorem aH.below {w0 W : World} {g : Nat} {f0 : List (iJ)} {f1 : Int} {f2 : Int} {f3 : Int} {f4 : Int} {W1 : World} (h : aH w0 W g f0 f1 f2 f3 f4) (hw : Below W.heap.size W W1) : aH w0 W1 g f0 f1 f2 f3 f4 := h.grown (Ab hw none) (by simp)
theorem aH.alloc {w0 W : World} {g : Nat} {f0 : List (iJ)} {f1 : Int} {f2 : Int} {f3 : Int} {f4 : Int} (h : aH w0 W g f0 f1 f2 f3 f4) (o : Obj) : aH w0 (W.alloc o) g f0 f1 f2 f3 f4 := h.below (bT (Below.refl _ _) o)
theorem aH.drewN {w0 W : World} {g : Nat} {f0 : List (iJ)} {f1 : Int} {f2 : Int} {f3 : Int} {f4 : Int} (h : aH w0 W g f0 f1 f2 f3 f4) (m : Nat) : aH w0 (W.drewN m) g f0 f1 f2 f3 f4 := h
theorem aH.drew {w0 W : World} {g : Nat} {f0 : List (iJ)} {f1 : Int} {f2 : Int} {f3 : Int} {f4 : Int} (h : aH w0 W g f0 f1 f2 f3 f4) : aH w0 W.drew g f0 f1 f2 f3 f4 := h
theorem aH.at_ {w0 W : World} {g : Nat} {f0 : List (iJ)} {f1 : Int} {f2 : Int} {f3 : Int} {f4 : Int} {w' : World} {m : Nat} (hq : W.drewN m = w') (h : aH w0 W g f0 f1 f2 f3 f4) : aH w0 w' g f0 f1 f2 f3 f4 := by subst hq; exact aH.drewN h m
theorem aH.apart {w0 W : World} {g : Nat} {f0 : List (iJ)} {f1 : Int} {f2 : Int} {f3 : Int} {f4 : Int} {α : Type} {d : Kd α} {e : Nat} {base : Nat} {ok : Nat → Prop} {v : Value} {xs : List α} (h : aH w0 W g f0 f1 f2 f3 f4) (ho : d.R e W base ok v xs) (ht : ∀ q, q ∈ e :: d.E → q ≠ 66) : d.R e W base (fun k => ok k ∧ k ≠ g) v xs := by
 obtain ⟨A0, c0, hb, hg, hr0⟩ := h
 exact Kd.dS ho hb ht
theorem aH.own_ne {w0 W : World} {g : Nat} {f0 : List (iJ)} {f1 : Int} {f2 : Int} {f3 : Int} {f4 : Int} {α : Type} {d : Kd α} {e : Nat} {base : Nat} {ok : Nat → Prop} {v : Value} {xs : List α} (h : aH w0 W g f0 f1 f2 f3 f4) (ho : d.R e W base ok v xs) (ht : e ≠ 66) : some g ≠ v.ownBlock := by
 obtain ⟨A0, c0, hb, hg, hr0⟩ := h
 exact Kd.nA ho hb ht
theorem aH.CX {w0 W : World} {g : Nat} {f0 : List (iJ)} {f1 : Int} {f2 : Int} {f3 : Int} {f4 : Int} {α : Type} {d : Kd α} {e : Nat} {base : Nat} {ok : Nat → Prop} {v : Value} {xs : List α} (h : aH w0 W g f0 f1 f2 f3 f4) (ho : d.S e W base ok v xs) (ht : ∀ q, q ∈ e :: d.E → q ≠ 66) : d.S e W base (fun k => ok k ∧ k ≠ g) v xs := by
 obtain ⟨A0, c0, hb, hg, hr0⟩ := h
 exact Kd.Qd ho hb ht
theorem aH.U8 {w0 W : World} {g : Nat} {f0 : List (iJ)} {f1 : Int} {f2 : Int} {f3 : Int} {f4 : Int} {α : Type} {d : Kd α} {e : Nat} {base : Nat} {ok : Nat → Prop} {v : Value} {xs : List α} (h : aH w0 W g f0 f1 f2 f3 f4) (ho : d.S e W base ok v xs) (ht : e ≠ 66) : some g ≠ v.ownBlock := by
 obtain ⟨A0, c0, hb, hg, hr0⟩ := h
 exact Kd.aEl ho hb ht
theorem aH.lt {w0 W : World} {g : Nat} {f0 : List (iJ)} {f1 : Int} {f2 : Int} {f3 : Int} {f4 : Int} (h : aH w0 W g f0 f1 f2 f3 f4) : g < W.heap.size := by
 obtain ⟨A0, c0, hb, hg, hr0⟩ := h
 exact gB hb
theorem aH.ge {w0 W : World} {g : Nat} {f0 : List (iJ)} {f1 : Int} {f2 : Int} {f3 : Int} {f4 : Int} (h : aH w0 W g f0 f1 f2 f3 f4) : w0.heap.size ≤ g := by
 obtain ⟨A0, c0, hb, hg, hr0⟩ := h
 exact hg
theorem aH.far {w0 W : World} {g : Nat} {f0 : List (iJ)} {f1 : Int} {f2 : Int} {f3 : Int} {f4 : Int} {p : Addr} (h : aH w0 W g f0 f1 f2 f3 f4) (hne : g ≠ p.block) (u : Value) : aH w0 (W.setCell p u) g f0 f1 f2 f3 f4 := by
 obtain ⟨A0, c0, hb, hg, hr0⟩ := h
 exact ⟨A0, c0, dJ hb hne u, hg, hr0⟩
theorem fI {W : World} {g : Nat} {A0 : Option Addr} {c0 : Nat} {f0 : List (iJ)} {f1 : Int} {f2 : Int} {f3 : Int} {f4 : Int} (h : W.heap[g]? = some (.cells #[.slice A0 f0.length c0, .int .i64 f1, .int .i64 f2, .int .i64 f3, .int .i64 f4] 66 (0, 0))) : W.cell? ⟨g, 0, none⟩ = some (.slice A0 f0.length c0) := (aA h 0).trans rfl
theorem fJ {W : World} {g : Nat} {A0 : Option Addr} {c0 : Nat} {f0 : List (iJ)} {f1 : Int} {f2 : Int} {f3 : Int} {f4 : Int} (h : W.heap[g]? = some (.cells #[.slice A0 f0.length c0, .int .i64 f1, .int .i64 f2, .int .i64 f3, .int .i64 f4] 66 (0, 0))) : W.cell? ⟨g, 1, none⟩ = some (.int .i64 f1) := (aA h 1).trans rfl
theorem aH.Ch {w0 W : World} {g : Nat} {f0 : List (iJ)} {f1 : Int} {f2 : Int} {f3 : Int} {f4 : Int} (h : aH w0 W g f0 f1 f2 f3 f4) (x : Int) : aH w0 (W.setCell ⟨g, 1, none⟩ (.int .i64 x)) g f0 x f2 f3 f4 := by
 obtain ⟨A0, c0, hb, hg, hr0⟩ := h
 exact ⟨A0, c0, by simpa using Fg hb 1 (.int .i64 x), hg, hr0⟩
theorem fK {W : World} {g : Nat} {A0 : Option Addr} {c0 : Nat} {f0 : List (iJ)} {f1 : Int} {f2 : Int} {f3 : Int} {f4 : Int} (h : W.heap[g]? = some (.cells #[.slice A0 f0.length c0, .int .i64 f1, .int .i64 f2, .int .i64 f3, .int .i64 f4] 66 (0, 0))) : W.cell? ⟨g, 2, none⟩ = some (.int .i64 f2) := (aA h 2).trans rfl
theorem aH.yV {w0 W : World} {g : Nat} {f0 : List (iJ)} {f1 : Int} {f2 : Int} {f3 : Int} {f4 : Int} (h : aH w0 W g f0 f1 f2 f3 f4) (x : Int) : aH w0 (W.setCell ⟨g, 2, none⟩ (.int .i64 x)) g f0 f1 x f3 f4 := by
 obtain ⟨A0, c0, hb, hg, hr0⟩ := h
 exact ⟨A0, c0, by simpa using Fg hb 2 (.int .i64 x), hg, hr0⟩
theorem fM {W : World} {g : Nat} {A0 : Option Addr} {c0 : Nat} {f0 : List (iJ)} {f1 : Int} {f2 : Int} {f3 : Int} {f4 : Int} (h : W.heap[g]? = some (.cells #[.slice A0 f0.length c0, .int .i64 f1, .int .i64 f2, .int .i64 f3, .int .i64 f4] 66 (0, 0))) : W.cell? ⟨g, 3, none⟩ = some (.int .i64 f3) := (aA h 3).trans rfl
theorem aH.Ci {w0 W : World} {g : Nat} {f0 : List (iJ)} {f1 : Int} {f2 : Int} {f3 : Int} {f4 : Int} (h : aH w0 W g f0 f1 f2 f3 f4) (x : Int) : aH w0 (W.setCell ⟨g, 3, none⟩ (.int .i64 x)) g f0 f1 f2 x f4 := by
 obtain ⟨A0, c0, hb, hg, hr0⟩ := h
 exact ⟨A0, c0, by simpa using Fg hb 3 (.int .i64 x), hg, hr0⟩
theorem fG {W : World} {g : Nat} {A0 : Option Addr} {c0 : Nat} {f0 : List (iJ)} {f1 : Int} {f2 : Int} {f3 : Int} {f4 : Int} (h : W.heap[g]? = some (.cells #[.slice A0 f0.length c0, .int .i64 f1, .int .i64 f2, .int .i64 f3, .int .i64 f4] 66 (0, 0))) : W.cell? ⟨g, 4, none⟩ = some (.int .i64 f4) := (aA h 4).trans rfl
theorem aH.Cj {w0 W : World} {g : Nat} {f0 : List (iJ)} {f1 : Int} {f2 : Int} {f3 : Int} {f4 : Int} (h : aH w0 W g f0 f1 f2 f3 f4) (x : Int) : aH w0 (W.setCell ⟨g, 4, none⟩ (.int .i64 x)) g f0 f1 f2 f3 x := by
 obtain ⟨A0, c0, hb, hg, hr0⟩ := h
 exact ⟨A0, c0, by simpa using Fg hb 4 (.int .i64 x), hg, hr0⟩
theorem aH.new (w0 W : World) (A0 : Option Addr) (c0 : Nat) (f0 : List (iJ)) (f1 : Int) (f2 : Int) (f3 : Int) (f4 : Int) (hB : Below w0.heap.size w0 W) (hr0 : Kd.C IZ w0 A0 f0.length f0) : aH w0 (W.alloc (.cells #[.slice A0 f0.length c0, .int .i64 f1, .int .i64 f2, .int .i64 f3, .int .i64 f4] 66)) W.heap.size f0 f1 f2 f3 f4 := ⟨A0, c0, by simpa using heap_alloc_new W _, hB.size, hr0⟩
def nN.f (aK : List (iJ)) (aX : Int) (bM : Int) (bN : Int) (bQ : Int) (a1 : ByteArray) : Option (Bool × Int × Int × Int × Int) := if 0 ≤ aX then (if aX < (aK.length : Int) then (if bN = 0 then (if ((cK aK aX).f0) = 4 then (some ((((cK aK aX).f1).toList == a1.toList), aX, bM, bN, bQ)) else (if ((cK aK aX).f0) = 3 then (some ((((cK aK aX).f1).toList == a1.toList), aX, bM, bN, bQ)) else (some (false, aX, bM, bN, bQ)))) else (some (false, aX, bM, bN, bQ))) else (none)) else (none)
def nN.T1 : Bool × List (List Nat × List Nat) := (true, [([], []), ([0], [0]), ([1], [1]), ([2], [2]), ([], []), ([4], [4]), ([5], [5]), ([6], [6]), ([3, 7], [3, 7]), ([8], [8]), ([], []), ([10, 9, 0, 1, 2, 3, 4, 5, 6, 7, 8, 9, 10], [9, 10])])
def nN.B1 : List Nat := [0, 1, 3, 7, 0, 16, 48, 112, 255, 511, 0, 2047]
theorem nN.aAK : oL .any (opsOf Try.f35 1) = nN.T1 := by kernel_rfl
theorem nN.TS : kH nN.T1.2 nN.B1 = true := by kernel_rfl
theorem nN.calls (g : Nat) (aK : List (iJ)) (aX : Int) (bM : Int) (bN : Int) (bQ : Int) (a1 : ByteArray) (r1 : Bool) (r2 : Int) (r3 : Int) (r4 : Int) (r5 : Int) (w0 w : World) (hI : aH w0 w g aK aX bM bN bQ) (hB : Below w0.heap.size w0 w) (h : nN.f aK aX bM bN bQ a1 = some (r1, r2, r3, r4, r5)) :
  Calls Try.prog 35 #[.pointer (some ⟨g, 0, none⟩), .string a1] w fun e w' => e = .returned (.bool r1) ∧ aH w0 w' g aK r2 r3 r4 r5 ∧ Below w0.heap.size w0 w' ∧ aU w w' g none := by
 have aES := Try.underlying81
 have HI0 := za hI
 have HK := za (aU.refl w g none)
 have HL := za hB.size
 clear hI
 have HW0 := za hB.size
 have HB := za hB
 clear hB
 have H : (if 0 ≤ aX then (if aX < (aK.length : Int) then (if bN = 0 then (if ((cK aK aX).f0) = 4 then (some ((((cK aK aX).f1).toList == a1.toList), aX, bM, bN, bQ)) else (if ((cK aK aX).f0) = 3 then (some ((((cK aK aX).f1).toList == a1.toList), aX, bM, bN, bQ)) else (some (false, aX, bM, bN, bQ)))) else (some (false, aX, bM, bN, bQ))) else (none)) else (none)) = some (r1, r2, r3, r4, r5) := h
 clear h
 revert H; refine zd fun c3 H => ?_
 have Bt : decide (0 ≤ aX) = true := decide_eq_true c3
 clear c3
 revert H; refine yX fun wY H => ?_
 have uz := za H
 clear H
 go_enter Try.func35, Try.ntmps35
 try go_wp2
 replace HI0 := za (aH.drew HI0.out)
 replace HK := za (iY HK.out)
 replace HB := za (bK HB.out)
 obtain ⟨CY, Wi, lT, CZ, Wj⟩ := HI0.out
 have aKf := fI lT
 have aKg := fJ lT
 have aKh := fK lT
 have aKi := fM lT
 have aKj := fG lT
 clear lT CZ
 have aLE : 0 ≤ (aX : Int) := of_decide_eq_true iL
 have aLF : aX < (aK.length : Int) := of_decide_eq_true iL
 obtain ⟨KJ, bIL, Qk, Ql, Qm⟩ := Hr Wj aX aLE aLF
 have aZ2 := Qm
 have aZ3 := Ql
 have aZ4 := Qk
 cases bIL
 replace Qk := bR HB.out Qk
 replace Ql := bR HB.out Ql
 replace Qm := bR HB.out Qm
 replace aLE := eq_true aLE
 replace aLF := eq_true aLF
 refine lW (n := 12) (S := fun w' => w'.cell? ⟨g, 0, none⟩ = some (.slice (some KJ) aK.length Wi) ∧ w'.cell? ⟨g, 1, none⟩ = some (.int .i64 aX) ∧ w'.cell? ⟨g, 2, none⟩ = some (.int .i64 bM) ∧ w'.cell? ⟨g, 3, none⟩ = some (.int .i64 bN) ∧ w'.cell? ⟨g, 4, none⟩ = some (.int .i64 bQ) ∧ w'.cell? (KJ.add ((aX).toNat * 3)) = some (.int .i64 ((cK aK aX).f0)) ∧ w'.cell? ⟨(KJ.add ((aX).toNat * 3)).block, (KJ.add ((aX).toNat * 3)).off + 1, none⟩ = some (.string ((cK aK aX).f1)) ∧ w'.cell? ⟨(KJ.add ((aX).toNat * 3)).block, (KJ.add ((aX).toNat * 3)).off + 2, none⟩ = some (.int .i64 ((cK aK aX).f2))) (ds := [11]) #[false, false, false, false, false, false, false, false, false, false, false, false] dU rfl rfl ⟨aKf, aKg, aKh, aKi, aKj, Qk, Ql, Qm⟩ (fun hHeld => ?_); refine gX nN.aAK nN.TS (fun dB qB => ?_)
 generalize w.drew = w6 at HI0 HK HB Qk Ql Qm aKf aKg aKh aKi aKj hHeld ⊢
 refine gV 0 (some 6) dB ?_
 refine gV 1 (some 7) dB ?_
 refine gV 2 (some 8) dB ?_
 refine gV 4 (some 10) dB ?_
 refine gV 5 (some 11) dB ?_
 refine gV 6 (some 12) dB ?_
 refine vP 3 (some 9) dB qB hHeld ?_
 refine vP 7 (some 13) dB qB hHeld ?_
 refine gV 8 (some 14) dB ?_
 refine vP 9 (some 15) dB qB hHeld ?_
 refine Cn 10 (some 5) dB (fun K hK => ?_)
 refine uM ?hg (N := 5) ?hd (cs := #[.int .i64 0, .string (⟨#[]⟩ : ByteArray), .int .i64 0]) (t := 81) ?hr ?_; (case hd => rfl); (case hg => rfl); (case hr => exact jA)
 intro Xn hg w8 gP hb
 have Om := zH8 hb hHeld
 replace HB := za (aM qJ hb)
 have Gj := za (gP)
 have aPN := za ((by rw [hg]; exact (eG (w := w) (g := g) (row := none) vN) : w.heap.size ≤ Xn))
 have aPM := za ((Nat.le_trans HW0.out (by rw [hg]; exact (eG (w := w) (g := g) (row := none) vN) : w.heap.size ≤ Xn) : w0.heap.size ≤ Xn))
 replace HK := za (aU.trans vN (aU.of_below hb g none) (.inl rfl))
 have Zh := za ((by rw [hg]; exact Nat.ne_of_lt (aH.lt (show aH w0 _ g aK aX bM bN bQ from mZ)) : g ≠ Xn))
 have NP := za ((by rw [hg]; exact Nat.ne_of_gt (aH.lt (show aH w0 _ g aK aX bM bN bQ from mZ)) : Xn ≠ g))
 replace HI0 := za (aH.below mZ hb)
 clear hb gP hg
 refine hK.out _ _ Om (fun hHeld => ?_)
 clear hK K
 refine jS (a' := ?_) ?_ ?_
 rotate_left
 ·
  show Act.put _ (some 5) _ = _
  simp only [Act.put, List.setIfInBounds_toArray, List.set_cons_zero, List.set_cons_succ, dO, dQ]
  rfl
 refine Mo (i := 11) (N := none) #[true, true, true, true, true, true, true, true, true, true, true, true] rfl rfl (Ad dB.out dU) (by decide) (fun K hK => ?_)
 have hs9 : w8.cell? ⟨Xn, 0, none⟩ = some (.int .i64 0) := (aA Gj.out 0).trans rfl
 have bIM := aD Gj.out 0
 have aEV : w8.cell? ⟨Xn, 1, none⟩ = some (.string (⟨#[]⟩ : ByteArray)) := (aA Gj.out 1).trans rfl
 have aRd := aD Gj.out 1
 have bPI : w8.cell? ⟨Xn, 2, none⟩ = some (.int .i64 0) := (aA Gj.out 2).trans rfl
 have bNQ := aD Gj.out 2
 refine Cb (w1 := ?_) (by rfl) rfl ?_ ?_
 rotate_left
 ·
  go_simp
  rfl
 refine hK.out _ _ ?_
 clear hK K
 refine pO (jX dB.out dU) ?_
 go_upto_region 2 with (fail)
 have H := uz.out
 clear uz
 revert H; refine oW (fun Dy TC H => ?_) (fun c12 Dy TC H => ?_)
 ·
  (first | rw [Dy] | (simp only [dO, dQ]; rw [Dy]) | skip)
  revert H; refine oW (fun vU TD H => ?_) (fun c13 vU TD H => ?_)
  ·
   simp only [Option.some.injEq, Prod.mk.injEq] at H
   obtain ⟨rfl, rfl, rfl, rfl, rfl⟩ := H
   obtain ⟨aEW, aEX, uO, aAL, aEY⟩ := HI0.out
   have U9 := fI uO
   have V3 := fJ uO
   have V4 := fK uO
   have aEZ := fM uO
   have aE0 := fG uO
   have V5 := aD uO 1
   have V6 := aD uO 2
   have aE1 := aD uO 3
   have aE2 := aD uO 4
   clear uO aAL
   have aKk := NP.out
   have aKl := Zh.out
   obtain ⟨aZ5, aZ6, aZ7⟩ := Zi Gj.out
   obtain ⟨aZ8, aZ9, bAa⟩ := Xk Gj.out
   go_wp2
   go_ret
   exact ⟨jR, aEB, aEE, aEN⟩
  ·
   revert H; refine oW (fun KC V7 H => ?_) (fun c17 KC V7 H => ?_)
   ·
    simp only [Option.some.injEq, Prod.mk.injEq] at H
    obtain ⟨rfl, rfl, rfl, rfl, rfl⟩ := H
    obtain ⟨aE3, aE4, uP, aAM, aE5⟩ := HI0.out
    have V8 := fI uP
    have V9 := fJ uP
    have W9 := fK uP
    have X4 := fM uP
    have Y1 := fG uP
    have Y2 := aD uP 1
    have Y3 := aD uP 2
    have Y4 := aD uP 3
    have Y5 := aD uP 4
    clear uP aAM
    have bNR := NP.out
    have bNS := Zh.out
    obtain ⟨aE6, aE7, aE8⟩ := Zi Gj.out
    obtain ⟨aE9, aFa, aFb⟩ := Xk Gj.out
    go_wp2
    go_ret
    exact ⟨jR, aEB, aEE, aEN⟩
   ·
    simp only [Option.some.injEq, Prod.mk.injEq] at H
    obtain ⟨rfl, rfl, rfl, rfl, rfl⟩ := H
    obtain ⟨bAb, bAc, Mr, aRe, bAd⟩ := HI0.out
    have bAe := fI Mr
    have bAf := fJ Mr
    have bAg := fK Mr
    have bAh := fM Mr
    have bAi := fG Mr
    have bAj := aD Mr 1
    have bAk := aD Mr 2
    have bAl := aD Mr 3
    have bAm := aD Mr 4
    clear Mr aRe
    have aRf := NP.out
    have aRg := Zh.out
    obtain ⟨aFc, aFd, aFe⟩ := Zi Gj.out
    obtain ⟨bAn, aFf, aFg⟩ := Xk Gj.out
    go_wp2
    go_ret
    exact ⟨jR, aEB, aEE, aEN⟩
 ·
  (first | rw [Dy] | (simp only [dO, dQ]; rw [Dy]) | skip)
  simp only [Option.some.injEq, Prod.mk.injEq] at H
  obtain ⟨rfl, rfl, rfl, rfl, rfl⟩ := H
  obtain ⟨Y6, NQ, qI, TT, NR⟩ := HI0.out
  have NS := fI qI
  have NT := fJ qI
  have NU := fK qI
  have Y7 := fM qI
  have Y8 := fG qI
  have NV := aD qI 1
  have NW := aD qI 2
  have Y9 := aD qI 3
  have Z0 := aD qI 4
  clear qI TT
  go_wp2
  go_ret
  exact ⟨jR, aEB, aEE, aEN⟩
def eX.f (aK : List (iJ)) (aX : Int) (bM : Int) (bN : Int) (bQ : Int) (a1 : ByteArray) : Option (Bool × Int × Int × Int × Int) := (nN.f aK aX bM bN bQ a1).bind fun vW => (if vW.1 = true then (some (true, wrap64 (vW.2.1 + 1), vW.2.2.1, vW.2.2.2.1, vW.2.2.2.2)) else (some (false, vW.2.1, vW.2.2.1, vW.2.2.2.1, vW.2.2.2.2)))
theorem eX.calls (g : Nat) (aK : List (iJ)) (aX : Int) (bM : Int) (bN : Int) (bQ : Int) (a1 : ByteArray) (r1 : Bool) (r2 : Int) (r3 : Int) (r4 : Int) (r5 : Int) (w0 w : World) (hI : aH w0 w g aK aX bM bN bQ) (hB : Below w0.heap.size w0 w) (h : eX.f aK aX bM bN bQ a1 = some (r1, r2, r3, r4, r5)) :
  Calls Try.prog 30 #[.pointer (some ⟨g, 0, none⟩), .string a1] w fun e w' => e = .returned (.bool r1) ∧ aH w0 w' g aK r2 r3 r4 r5 ∧ Below w0.heap.size w0 w' ∧ aU w w' g none := by
 have HI0 := za hI
 have HK := za (aU.refl w g none)
 have HL := za hB.size
 clear hI
 have HW0 := za hB.size
 have HB := za hB
 clear hB
 have H : ((nN.f aK aX bM bN bQ a1).bind fun vW => (if vW.1 = true then (some (true, wrap64 (vW.2.1 + 1), vW.2.2.1, vW.2.2.2.1, vW.2.2.2.2)) else (some (false, vW.2.1, vW.2.2.1, vW.2.2.2.1, vW.2.2.2.2)))) = some (r1, r2, r3, r4, r5) := h
 clear h
 replace H := jT H
 obtain ⟨⟨t136, t137, t138, t139, t140⟩, A3, H⟩ := H
 (try dsimp only at H)
 have JD := za H
 clear H
 go_enter Try.func30, Try.ntmps30
 go_upto_if 8 with (first | ((with_reducible refine zg 35 rfl ?_); refine kZ (some 7) Try.func35 #[.pointer (some ⟨g, 0, none⟩), .string a1] ?_; refine (nN.calls g aK aX bM bN bQ a1 t136 t137 t138 t139 t140 w0 _ mZ qJ A3.out).mono ?_; rintro e w5 ⟨rfl, hi, hb, hk⟩; refine ⟨_, rfl, ?_⟩; replace HK := sN vN hk; replace HB := za (hb); replace HI0 := za (hi)))
 have H := JD.out
 clear JD
 replace H := Bq H
 rcases H with ⟨rfl, H⟩ | ⟨rfl, H⟩
 ·
  simp only [Option.some.injEq, Prod.mk.injEq] at H
  obtain ⟨rfl, rfl, rfl, rfl, rfl⟩ := H
  obtain ⟨CY, Wi, lT, CZ, Wj⟩ := HI0.out
  have Wl := fI lT
  have Wm := fJ lT
  have Wn := fK lT
  have DC := fM lT
  have DD := fG lT
  have Wo := aD lT 1
  have Wp := aD lT 2
  have DF := aD lT 3
  have DI := aD lT 4
  clear lT CZ
  go_wp2
  go_ret
  exact ⟨jR, mZ, qJ, vN⟩
 ·
  simp only [Option.some.injEq, Prod.mk.injEq] at H
  obtain ⟨rfl, rfl, rfl, rfl, rfl⟩ := H
  go_wp2
  go_ret
  exact ⟨jR, mZ, qJ, vN⟩
def jP.f (aK : List (iJ)) (aX : Int) (bM : Int) (bN : Int) (bQ : Int) (a1 : Int) : Option (Int × Int × Int × Int) := if bN = 0 then (if 0 ≤ aX then (if aX < (aK.length : Int) then (some (aX, bM, a1, (cK aK aX).f2)) else (none)) else (none)) else (some (aX, bM, bN, bQ))
def jP.T2 : Bool × List (List Nat × List Nat) := (true, [([], []), ([], []), ([1], [1]), ([2], [2]), ([3], [3]), ([], []), ([5], [5]), ([6], [6]), ([7], [7]), ([4, 8], [4, 8]), ([9], [9]), ([10], [10]), ([0, 0, 1, 2, 3, 4, 5, 6, 7, 8, 9, 10, 11], [0]), ([12, 0, 1, 2, 3, 4, 5, 6, 7, 8, 9, 10, 11], [12]), ([13, 11, 0, 1, 2, 3, 4, 5, 6, 7, 8, 9, 10, 11], [11, 13])])
def jP.B2 : List Nat := [0, 0, 2, 6, 14, 0, 32, 96, 224, 510, 1022, 2046, 4095, 8191, 16383]
theorem jP.bIN : oL .any (opsOf Try.f33 2) = jP.T2 := by kernel_rfl
theorem jP.aRh : kH jP.T2.2 jP.B2 = true := by kernel_rfl
theorem jP.calls (g : Nat) (aK : List (iJ)) (aX : Int) (bM : Int) (bN : Int) (bQ : Int) (a1 : Int) (r1 : Int) (r2 : Int) (r3 : Int) (r4 : Int) (w0 w : World) (hI : aH w0 w g aK aX bM bN bQ) (hB : Below w0.heap.size w0 w) (h : jP.f aK aX bM bN bQ a1 = some (r1, r2, r3, r4)) :
  Calls Try.prog 33 #[.pointer (some ⟨g, 0, none⟩), .int .i64 a1] w fun e w' => e = .returned (.tuple #[]) ∧ aH w0 w' g aK r1 r2 r3 r4 ∧ Below w0.heap.size w0 w' ∧ aU w w' g none := by
 have HI0 := za hI
 have HK := za (aU.refl w g none)
 have HL := za hB.size
 clear hI
 have HW0 := za hB.size
 have HB := za hB
 clear hB
 have H : (if bN = 0 then (if 0 ≤ aX then (if aX < (aK.length : Int) then (some (aX, bM, a1, (cK aK aX).f2)) else (none)) else (none)) else (some (aX, bM, bN, bQ))) = some (r1, r2, r3, r4) := h
 clear h
 have Zk := za H
 clear H
 obtain ⟨aAN, aAO, uQ, aAP, H7⟩ := HI0.out
 have aAQ := fI uQ
 have aAR := fJ uQ
 have aAS := fK uQ
 have aAT := fM uQ
 have aAU := fG uQ
 have aAV := aD uQ 1
 have aAW := aD uQ 2
 have aAX := aD uQ 3
 have aAY := aD uQ 4
 clear uQ aAP
 go_enter Try.func33, Try.ntmps33
 go_upto_if 8 with (fail)
 have H := Zk.out
 clear Zk
 revert H; refine oW (fun zG TB H => ?_) (fun c5 zG TB H => ?_)
 ·
  (first | rw [zG] | (simp only [dO, dQ]; rw [zG]) | skip)
  revert H; refine zd fun c6 H => ?_
  have Mj : decide (0 ≤ aX) = true := decide_eq_true c6
  clear c6
  revert H; refine yX fun Bu H => ?_
  simp only [Option.some.injEq, Prod.mk.injEq] at H
  obtain ⟨rfl, rfl, rfl, rfl⟩ := H
  obtain ⟨bIO, bIP, JE, bIQ, bIR⟩ := HI0.out
  have aLG := fI JE
  have aLH := fJ JE
  have aLI := fK JE
  have bIS := fM JE
  have bIT := fG JE
  have aLJ := aD JE 1
  have aLK := aD JE 2
  have bIU := aD JE 3
  have bIV := aD JE 4
  clear JE bIQ
  try go_wp2
  have Qn : aG (aH w0 (w.setCell ⟨g, 3, none⟩ (.int .i64 a1)) g aK aX bM a1 bQ) := ⟨mZ⟩
  have Qo : aG (aU w (w.setCell ⟨g, 3, none⟩ (.int .i64 a1)) g none) := ⟨vN⟩
  have Qp : aG (Below w0.heap.size w0 (w.setCell ⟨g, 3, none⟩ (.int .i64 a1))) := ⟨qJ⟩
  generalize (w.setCell ⟨g, 3, none⟩ (.int .i64 a1)) = w9 at Qn Qo Qp ⊢
  have HI0 := Qn
  have HK := Qo
  have HB := Qp
  clear Qn Qo Qp
  replace HI0 := za (aH.drew HI0.out)
  replace HK := za (iY HK.out)
  replace HB := za (bK HB.out)
  obtain ⟨bAo, aFh, KL, aRi, aFi⟩ := HI0.out
  have H8 := fI KL
  have aAZ := fJ KL
  have aA0 := fK KL
  have aA1 := fM KL
  have aA2 := fG KL
  clear KL aRi
  have aLL : 0 ≤ (aX : Int) := of_decide_eq_true iL
  have aLM : aX < (aK.length : Int) := of_decide_eq_true iL
  obtain ⟨KM, bIW, Qq, Qr, Qs⟩ := Hr aFi aX aLL aLM
  have bAp := Qs
  have bAq := Qr
  have bAr := Qq
  cases bIW
  replace Qq := bR HB.out Qq
  replace Qr := bR HB.out Qr
  replace Qs := bR HB.out Qs
  replace aLL := eq_true aLL
  replace aLM := eq_true aLM
  refine lW (n := 15) (S := fun w' => w'.cell? ⟨g, 0, none⟩ = some (.slice (some KM) aK.length aFh) ∧ w'.cell? ⟨g, 1, none⟩ = some (.int .i64 aX) ∧ w'.cell? ⟨g, 2, none⟩ = some (.int .i64 bM) ∧ w'.cell? ⟨g, 3, none⟩ = some (.int .i64 a1) ∧ w'.cell? ⟨g, 4, none⟩ = some (.int .i64 bQ) ∧ w'.cell? (KM.add ((aX).toNat * 3)) = some (.int .i64 ((cK aK aX).f0)) ∧ w'.cell? ⟨(KM.add ((aX).toNat * 3)).block, (KM.add ((aX).toNat * 3)).off + 1, none⟩ = some (.string ((cK aK aX).f1)) ∧ w'.cell? ⟨(KM.add ((aX).toNat * 3)).block, (KM.add ((aX).toNat * 3)).off + 2, none⟩ = some (.int .i64 ((cK aK aX).f2))) (ds := [14]) #[false, false, false, false, false, false, false, false, false, false, false, false, false, false, false] dU rfl rfl ⟨H8, aAZ, aA0, aA1, aA2, Qq, Qr, Qs⟩ (fun hHeld => ?_); refine gX jP.bIN jP.aRh (fun dB qB => ?_)
  generalize w9.drew = w10 at HI0 HK HB H8 aAZ aA0 aA1 aA2 Qq Qr Qs hHeld ⊢
  refine gV 0 (some 13) dB ?_
  refine gV 1 (some 14) dB ?_
  refine gV 2 (some 15) dB ?_
  refine gV 3 (some 16) dB ?_
  refine gV 5 (some 18) dB ?_
  refine gV 6 (some 19) dB ?_
  refine gV 7 (some 20) dB ?_
  refine vP 4 (some 17) dB qB hHeld ?_
  refine vP 8 (some 21) dB qB hHeld ?_
  refine gV 9 (some 22) dB ?_
  refine gV 10 (some 23) dB ?_
  refine vP 11 (some 24) dB qB hHeld ?_
  refine gV 12 (some 25) dB ?_
  refine gV 13 (some 26) dB ?_
  refine Mo (i := 14) (N := none) #[true, true, true, true, true, true, true, true, true, true, true, true, true, true, true] rfl rfl (Ad dB.out dU) (by decide) (fun K hK => ?_)
  obtain ⟨_, _, aA3, _, _⟩ := HI0.out
  have bIX := fG aA3
  have aRj := aD aA3 4
  clear aA3
  refine Cb (w1 := ?_) (by rfl) rfl ?_ ?_
  rotate_left
  ·
   go_simp
   rfl
  refine hK.out _ _ ?_
  clear hK K
  refine pO (jX dB.out dU) ?_
  try go_wp2
  first | go_end0 | ((try simp only [Exit.inBlock, Exit.then]); refine bodyPost_ret (results_none rfl _ _ _) rfl ?_)
  exact ⟨jR, mZ, qJ, vN⟩
 ·
  (first | rw [zG] | (simp only [dO, dQ]; rw [zG]) | skip)
  simp only [Option.some.injEq, Prod.mk.injEq] at H
  obtain ⟨rfl, rfl, rfl, rfl⟩ := H
  go_wp2
  first | go_end0 | ((try simp only [Exit.inBlock, Exit.then]); refine bodyPost_ret (results_none rfl _ _ _) rfl ?_)
  exact ⟨jR, mZ, qJ, vN⟩
def dI.f (aK : List (iJ)) (aX : Int) (bM : Int) (bN : Int) (bQ : Int) (a1 : ByteArray) : Option (Int × Int × Int × Int) := (eX.f aK aX bM bN bQ a1).bind fun vX => (if vX.1 = true then (some (vX.2.1, vX.2.2.1, vX.2.2.2.1, vX.2.2.2.2)) else ((jP.f aK vX.2.1 vX.2.2.1 vX.2.2.2.1 vX.2.2.2.2 11).bind fun Qt => (some (Qt.1, Qt.2.1, Qt.2.2.1, Qt.2.2.2))))
theorem dI.calls (g : Nat) (aK : List (iJ)) (aX : Int) (bM : Int) (bN : Int) (bQ : Int) (a1 : ByteArray) (r1 : Int) (r2 : Int) (r3 : Int) (r4 : Int) (w0 w : World) (hI : aH w0 w g aK aX bM bN bQ) (hB : Below w0.heap.size w0 w) (h : dI.f aK aX bM bN bQ a1 = some (r1, r2, r3, r4)) :
  Calls Try.prog 27 #[.pointer (some ⟨g, 0, none⟩), .string a1] w fun e w' => e = .returned (.tuple #[]) ∧ aH w0 w' g aK r1 r2 r3 r4 ∧ Below w0.heap.size w0 w' ∧ aU w w' g none := by
 have HI0 := za hI
 have HK := za (aU.refl w g none)
 have HL := za hB.size
 clear hI
 have HW0 := za hB.size
 have HB := za hB
 clear hB
 have H : ((eX.f aK aX bM bN bQ a1).bind fun vX => (if vX.1 = true then (some (vX.2.1, vX.2.2.1, vX.2.2.2.1, vX.2.2.2.2)) else ((jP.f aK vX.2.1 vX.2.2.1 vX.2.2.2.1 vX.2.2.2.2 11).bind fun Qt => (some (Qt.1, Qt.2.1, Qt.2.2.1, Qt.2.2.2))))) = some (r1, r2, r3, r4) := h
 clear h
 replace H := jT H
 obtain ⟨⟨t142, t143, t144, t145, t146⟩, A3, H⟩ := H
 (try dsimp only at H)
 have JD := za H
 clear H
 go_enter Try.func27, Try.ntmps27
 go_upto_if 7 with (first | ((with_reducible refine zg 30 rfl ?_); refine kZ (some 6) Try.func30 #[.pointer (some ⟨g, 0, none⟩), .string a1] ?_; refine (eX.calls g aK aX bM bN bQ a1 t142 t143 t144 t145 t146 w0 _ mZ qJ A3.out).mono ?_; rintro e w5 ⟨rfl, hi, hb, hk⟩; refine ⟨_, rfl, ?_⟩; replace HK := sN vN hk; replace HB := za (hb); replace HI0 := za (hi)))
 have H := JD.out
 clear JD
 replace H := Bq H
 rcases H with ⟨rfl, H⟩ | ⟨rfl, H⟩
 ·
  simp only [Option.some.injEq, Prod.mk.injEq] at H
  obtain ⟨rfl, rfl, rfl, rfl⟩ := H
  go_wp2
  first | go_end0 | ((try simp only [Exit.inBlock, Exit.then]); refine bodyPost_ret (results_none rfl _ _ _) rfl ?_)
  exact ⟨jR, mZ, qJ, vN⟩
 ·
  replace H := jT H
  obtain ⟨⟨t147, t148, t149, t150⟩, A7, H⟩ := H
  (try dsimp only at H)
  simp only [Option.some.injEq, Prod.mk.injEq] at H
  obtain ⟨rfl, rfl, rfl, rfl⟩ := H
  go_wp2_with (first | ((with_reducible refine zg 33 rfl ?_); refine kZ (some 9) Try.func33 #[.pointer (some ⟨g, 0, none⟩), .int .i64 11] ?_; refine (jP.calls g aK t143 t144 t145 t146 11 t147 t148 t149 t150 w0 _ mZ qJ A7.out).mono ?_; rintro e w8 ⟨rfl, hi, hb, hk⟩; refine ⟨_, rfl, ?_⟩; replace HK := sN vN hk; replace HB := za (hb); replace HI0 := za (hi)))
  first | go_end0 | ((try simp only [Exit.inBlock, Exit.then]); refine bodyPost_ret (results_none rfl _ _ _) rfl ?_)
  exact ⟨jR, mZ, qJ, vN⟩
def mD.f (aK : List (iJ)) (aX : Int) (bM : Int) (bN : Int) (bQ : Int) : Option (Int × Int × Int × Int × Int) := if 0 ≤ aX then (if aX < (aK.length : Int) then (some ((cK aK aX).f2, aX, bM, bN, bQ)) else (none)) else (none)
theorem mD.calls (g : Nat) (aK : List (iJ)) (aX : Int) (bM : Int) (bN : Int) (bQ : Int) (r1 : Int) (r2 : Int) (r3 : Int) (r4 : Int) (r5 : Int) (w0 w : World) (hI : aH w0 w g aK aX bM bN bQ) (hB : Below w0.heap.size w0 w) (h : mD.f aK aX bM bN bQ = some (r1, r2, r3, r4, r5)) :
  Calls Try.prog 28 #[.pointer (some ⟨g, 0, none⟩)] w fun e w' => e = .returned (.int .i64 r1) ∧ aH w0 w' g aK r2 r3 r4 r5 ∧ Below w0.heap.size w0 w' ∧ aU w w' g none := by
 have HI0 := za hI
 have HK := za (aU.refl w g none)
 have HL := za hB.size
 clear hI
 have HW0 := za hB.size
 have HB := za hB
 clear hB
 have H : (if 0 ≤ aX then (if aX < (aK.length : Int) then (some ((cK aK aX).f2, aX, bM, bN, bQ)) else (none)) else (none)) = some (r1, r2, r3, r4, r5) := h
 clear h
 revert H; refine yX fun Oj H => ?_
 revert H; refine yX fun Bt H => ?_
 simp only [Option.some.injEq, Prod.mk.injEq] at H
 obtain ⟨rfl, rfl, rfl, rfl, rfl⟩ := H
 obtain ⟨aAN, aAO, uQ, aAP, H7⟩ := HI0.out
 have aAQ := fI uQ
 have aAR := fJ uQ
 have aAS := fK uQ
 have aAT := fM uQ
 have aAU := fG uQ
 have aAV := aD uQ 1
 have aAW := aD uQ 2
 have aAX := aD uQ 3
 have aAY := aD uQ 4
 clear uQ aAP
 have aLN : 0 ≤ (aX : Int) := of_decide_eq_true iL
 have aLO : aX < (aK.length : Int) := of_decide_eq_true iL
 obtain ⟨bNT, bIY, Z4, Z5, Z6⟩ := Hr H7 aX aLN aLO
 cases bIY
 replace Z4 := bR HB.out Z4
 replace Z5 := bR HB.out Z5
 replace Z6 := bR HB.out Z6
 replace aLN := eq_true aLN
 replace aLO := eq_true aLO
 go_enter Try.func28, Try.ntmps28
 go_wp2
 repeat (go_quiet (fail); try go_wp2)
 go_ret
 exact ⟨jR, mZ, qJ, vN⟩
end Go.Proofs.Ytiaeldibklcobaa.eZ
