import Derived.Test.YtcjnhnnfoadklaaZRCx9
namespace Go.Proofs.Ytcjnhnnfoadklaa.QRunCounts
open Go.RowKit Go.Proofs.YtcjnhnnfoadklaaW.PrintWords Go.Proofs.YtcjnhnnfoadklaaW.PrintLast Go.Proofs.YtcjnhnnfoadklaaW.PrintMore
attribute [local go_sem] max2_int min2_int max_two min_two max_three min_three max_four min_four
set_option linter.unusedVariables false
set_option linter.unusedSimpArgs false
def rr_qname.f (s0_0 : List (S110)) (s0_1 : Int) (s0_2 : Int) (s0_3 : Int) (s0_4 : Int) : Option (ByteArray × ByteArray × Int × Int × Int × Int) := (rr_name.f s0_0 s0_1 s0_2 s0_3 s0_4).bind fun bt220 => ((rr_take.f s0_0 bt220.2.1 bt220.2.2.1 bt220.2.2.2.1 bt220.2.2.2.2 (⟨#[46]⟩ : ByteArray)).bind fun bt225 => (if bt225.1 = true then (none) else (some ((⟨#[]⟩ : ByteArray), bt220.1, bt225.2.1, bt225.2.2.1, bt225.2.2.2.1, bt225.2.2.2.2))))
set_option maxHeartbeats 8000000 in
set_option maxRecDepth 100000 in
theorem rr_qname.calls (g : Nat) (s0_0 : List (S110)) (s0_1 : Int) (s0_2 : Int) (s0_3 : Int) (s0_4 : Int) (r1 : ByteArray) (r2 : ByteArray) (r3 : Int) (r4 : Int) (r5 : Int) (r6 : Int) (w0 w : World) (hI : IsS83 w0 w g s0_0 s0_1 s0_2 s0_3 s0_4) (hB : Below w0.heap.size w0 w) (h : rr_qname.f s0_0 s0_1 s0_2 s0_3 s0_4 = some (r1, r2, r3, r4, r5, r6)) :
  Calls Try.prog 72 #[.pointer (some ⟨g, 0, none⟩)] w fun e w' => e = .returned (.tuple #[.string r1, .string r2]) ∧ IsS83 w0 w' g s0_0 r3 r4 r5 r6 ∧ Below w0.heap.size w0 w' ∧ KeepBut w w' g none := by
 have HI0 := za hI
 have HK := za (KeepBut.refl w g none)
 have HL := za hB.size
 clear hI
 have HW0 := za hB.size
 have HB := za hB
 clear hB
 have H : ((rr_name.f s0_0 s0_1 s0_2 s0_3 s0_4).bind fun bt220 => ((rr_take.f s0_0 bt220.2.1 bt220.2.2.1 bt220.2.2.2.1 bt220.2.2.2.2 (⟨#[46]⟩ : ByteArray)).bind fun bt225 => (if bt225.1 = true then (none) else (some ((⟨#[]⟩ : ByteArray), bt220.1, bt225.2.1, bt225.2.2.1, bt225.2.2.2.1, bt225.2.2.2.2))))) = some (r1, r2, r3, r4, r5, r6) := h
 clear h
 replace H := Option.bind_eq_some_iff.mp H
 obtain ⟨⟨t220, t221, t222, t223, t224⟩, A20, H⟩ := H
 (try dsimp only at H)
 have A2 := za A20
 clear A20
 replace H := Option.bind_eq_some_iff.mp H
 obtain ⟨⟨t225, t226, t227, t228, t229⟩, A30, H⟩ := H
 (try dsimp only at H)
 have A3 := za A30
 clear A30
 by_cases c4 : t225 = true
 ·
  subst c4
  rw [if_pos rfl] at H
  exact absurd H (by simp)
 ·
  replace c4 := Bool.eq_false_iff.mpr c4
  subst c4
  rw [if_neg (show ¬ (false = true) by decide)] at H
  simp only [Option.some.injEq, Prod.mk.injEq] at H
  obtain ⟨rfl, rfl, rfl, rfl, rfl, rfl⟩ := H
  go_enter Try.func72, Try.ntmps72
  go_wp2_with (first | ((with_reducible refine gate_callee (f := 47) rfl ?_); refine goesL_ (some 6) rfl rfl Try.func47 zq12 rfl #[.pointer (some ⟨g, 0, none⟩)] rfl zq1 ?_; (with_reducible refine (rr_name.calls g s0_0 s0_1 s0_2 s0_3 s0_4 t220 t221 t222 t223 t224 w0 _ ?side1 ?side2 A2.out).mono ?_); (case side1 => exact zq0); (case side2 => exact zq3); rintro e w5 ⟨rfl, hi, hb, hk⟩; refine ⟨_, rfl, ?_⟩; replace HK := za (KeepBut.trans zq5 hk (.inl rfl)); replace HB := za (hb); replace HI0 := za (hi); (try clear hb hk hi)) | ((with_reducible refine gate_callee (f := 48) rfl ?_); refine goesL_ (some 8) rfl rfl Try.func48 zq12 rfl #[.pointer (some ⟨g, 0, none⟩), .string (⟨#[46]⟩ : ByteArray)] rfl zq1 ?_; (with_reducible refine (rr_take.calls g s0_0 t221 t222 t223 t224 (⟨#[46]⟩ : ByteArray) false t226 t227 t228 t229 w0 _ ?side1 ?side2 A3.out).mono ?_); (case side1 => exact zq0); (case side2 => exact zq3); rintro e w6 ⟨rfl, hi, hb, hk⟩; refine ⟨_, rfl, ?_⟩; replace HK := za (KeepBut.trans zq5 hk (.inl rfl)); replace HB := za (hb); replace HI0 := za (hi); (try clear hb hk hi)))
  go_ret2
  exact ⟨zq14, zq0, zq3, zq5⟩
def ra_two.f (l0 : List (S140)) (a1 : Int) (a2 : Int) (a3 : Int) : Option ((List (S140))) := if l0.length < 1954687338268 then (some (l0 ++ [(⟨a2, 0, (⟨#[]⟩ : ByteArray), (⟨#[]⟩ : ByteArray), a1, wrap64 ((l0.length : Int) - 1), a3⟩ : S140)])) else (none)
set_option maxHeartbeats 8000000 in
set_option maxRecDepth 100000 in
theorem ra_two.calls (P0_ : Nat → Prop) (u9000_ : Value) (l0 : List (S140)) (a1 : Int) (a2 : Int) (a3 : Int) (r : List (S140)) (w0 w : World) (hB : Below w0.heap.size w0 w) (ho0 : Kd.R k140 140 w w0.heap.size P0_ u9000_ l0) (h : ra_two.f l0 a1 a2 a3 = some r) :
  Calls Try.prog 83 #[u9000_, .int .i64 a1, .int .i64 a2, .int .i64 a3] w fun e w' => ∃ v0_ : Value, e = .returned (v0_) ∧ Kd.R k140 140 w' w0.heap.size (fun k_ => (P0_ k_ ∨ w.heap.size ≤ k_)) v0_ r ∧ Below w0.heap.size w0 w' ∧ Kept w w' (fun k_ => P0_ k_) := by
 have hu140 := Try.underlying140
 have HO0 := za (show Kd.R k140 140 w w0.heap.size (fun k_ => (P0_ k_ ∨ w.heap.size ≤ k_)) u9000_ l0 from Kd.R_mono ho0 (fun k_ hk => (.inl hk)))
 have HK := za (Kept.refl w (fun k_ => P0_ k_))
 have HW0 := za hB.size
 have HB := za hB
 clear hB
 have H : (if l0.length < 1954687338268 then (some (l0 ++ [(⟨a2, 0, (⟨#[]⟩ : ByteArray), (⟨#[]⟩ : ByteArray), a1, wrap64 ((l0.length : Int) - 1), a3⟩ : S140)])) else (none)) = some r := h
 clear h
 by_cases c5 : l0.length < 1954687338268
 ·
  rw [if_pos c5] at H
  have LMc5 := za c5
  clear c5
  obtain ⟨y230, hy230⟩ : ∃ y_ : List (S140), y_ = (l0 ++ [(⟨a2, 0, (⟨#[]⟩ : ByteArray), (⟨#[]⟩ : ByteArray), a1, wrap64 ((l0.length : Int) - 1), a3⟩ : S140)]) := ⟨_, rfl⟩
  replace H : (some y230) = some r := by first | (rw [hy230]; with_reducible exact H) | (have H2_ := (Option.bind_some _ _).symm.trans H; rw [hy230]; with_reducible exact H2_) | (have H2_ := (Option.bind_some _ _).symm.trans H; with_reducible exact H2_) | with_reducible exact H | (rw [hy230]; exact H) | exact H
  have Ny230 := za hy230
  clear hy230
  obtain rfl := Option.some.inj H
  obtain ⟨Ao6, co6, eo6⟩ := Kd.R_slice HO0.out
  subst eo6
  go_enter Try.func83, Try.ntmps83
  go_wp2_with (first | ((with_reducible refine gate_builtin (b := .append) (xs := #[.tmp 9, .tmp 17]) rfl ?_); at_builtin; refine Kd.R_append k140 (w0 := w0) w0.heap.size rfl (.tmp 9) (.tmp 17) 88 140 (.agg #[(.int .i64 0), (.int .i64 0), (.string ⟨#[]⟩), (.string ⟨#[]⟩), (.int .i64 0), (.int .i64 0), (.int .i64 0)]) 72 rfl Try.underlying88 info140 rfl (by decide) (by omega) (.slice Ao6 l0.length co6) l0 (⟨a2, 0, (⟨#[]⟩ : ByteArray), (⟨#[]⟩ : ByteArray), a1, wrap64 ((l0.length : Int) - 1), a3⟩ : S140) [.int .i64 a2, .int .i64 0, .string (⟨#[]⟩ : ByteArray), .string (⟨#[]⟩ : ByteArray), .int .i64 a1, .int .i64 (wrap64 ((l0.length : Int) - 1)), .int .i64 a3] (fun k_ => (P0_ k_ ∨ w.heap.size ≤ k_)) (fun _ => False) rfl rfl ?aP (fun _ hk => hk.elim) ?aF ?aO ?aB ?aS ?aL ?_; (case aP => exact k140_mkM _ _ _ (⟨a2, 0, (⟨#[]⟩ : ByteArray), (⟨#[]⟩ : ByteArray), a1, wrap64 ((l0.length : Int) - 1), a3⟩ : S140)); (case aB => exact zq2); (case aF => exact (fun k_ hk => (.inr (Nat.le_trans (by first | exact HK.out.1 | exact (show Kept w _ (fun k_ => P0_ k_) from zq79).1) hk)))); (case aO => exact (zr HO0.out)); (case aS => exact (below_size zq2)); (case aL => have := LMc5.out; omega); intro v231 w7 ho hb hg hat; rw [← Ny230.out] at ho; replace HB := za (hb); replace HK := za (Kept.of_grown (S := (fun k_ => P0_ k_)) hg zq79 (fun k_ e_ => (HO0.out.1 k_ e_))); have HO232 := za (ho); clear HO0; clear ho hb hg hat))
  go_ret
  exact ⟨_, zq14, by (with_reducible repeat (first | apply Kd.R_alloc | apply Kd.R_drewN | apply Kd.R_drew)); exact HO232.out, zq2, zq79⟩
 ·
  rw [if_neg c5] at H
  exact absurd H (by simp)
def rr_unary.j0 : Nat → List (S140) → Bool → List (S110) → Int → Int → Int → Int → Int → ByteArray → Int → Option ((List (S140)) × Int × Int × Int × Int)
 | 0, _, _, _, _, _, _, _, _, _, _ => none
 | k + 1, x1, x25, x1000, x1001, x1002, x1003, x1004, x235000, x235001, x235002 => if x25 = true then (none) else ((rr_is.f x1000 x1001 x1002 x1003 x1004 (⟨#[40]⟩ : ByteArray)).bind fun bt245 => (if bt245.1 = true then (none) else (if x235000 = 2 then ((ra_num.f k x235001).bind fun t250 => (if x1.length < 1954687338268 then (some ((x1 ++ [(⟨1, t250, (⟨#[]⟩ : ByteArray), (⟨#[]⟩ : ByteArray), (-1), (-1), x235002⟩ : S140)]), wrap64 (bt245.2.1 + 1), bt245.2.2.1, bt245.2.2.2.1, bt245.2.2.2.2)) else (none))) else (if x235000 = 1 then ((rr_qname.f x1000 bt245.2.1 bt245.2.2.1 bt245.2.2.2.1 bt245.2.2.2.2).bind fun bt254 => (if x1.length < 1954687338268 then (some ((x1 ++ [(⟨2, 0, bt254.1, bt254.2.1, (-1), (-1), x235002⟩ : S140)]), bt254.2.2.1, bt254.2.2.2.1, bt254.2.2.2.2.1, bt254.2.2.2.2.2)) else (none))) else (none)))))
def rr_unary.f (k : Nat) (s0_0 : List (S110)) (s0_1 : Int) (s0_2 : Int) (s0_3 : Int) (s0_4 : Int) (l1 : List (S140)) : Option ((List (S140)) × Int × Int × Int × Int) := if s0_3 = 0 then (if 0 ≤ s0_1 then (if s0_1 < (s0_0.length : Int) then ((rr_is.f s0_0 s0_1 s0_2 s0_3 s0_4 (⟨#[45]⟩ : ByteArray)).bind fun bt235 => (if bt235.1 = true then (rr_unary.j0 k l1 true s0_0 bt235.2.1 bt235.2.2.1 bt235.2.2.2.1 bt235.2.2.2.2 ((rd_T110 s0_0 s0_1).f0) ((rd_T110 s0_0 s0_1).f1) ((rd_T110 s0_0 s0_1).f2)) else ((rr_is.f s0_0 bt235.2.1 bt235.2.2.1 bt235.2.2.2.1 bt235.2.2.2.2 (⟨#[33]⟩ : ByteArray)).bind fun bt240 => (rr_unary.j0 k l1 bt240.1 s0_0 bt240.2.1 bt240.2.2.1 bt240.2.2.2.1 bt240.2.2.2.2 ((rd_T110 s0_0 s0_1).f0) ((rd_T110 s0_0 s0_1).f1) ((rd_T110 s0_0 s0_1).f2))))) else (none)) else (none)) else (none)
theorem rr_unary.mono_l : ∀ k, (∀ y0 y1 y2 y3 y4 y5 y6 y7 y8 y9, LeO (rr_unary.j0 k y0 y1 y2 y3 y4 y5 y6 y7 y8 y9) (rr_unary.j0 (k + 1) y0 y1 y2 y3 y4 y5 y6 y7 y8 y9))
 | 0 => fun _ _ _ _ _ _ _ _ _ _ r h => by simp [rr_unary.j0] at h
 | k + 1 => by
  have ih0 := rr_unary.mono_l k
  ·
   intro y0 y1 y2 y3 y4 y5 y6 y7 y8 y9
   unfold rr_unary.j0
   repeat' with_reducible first | apply ih0 | apply ra_num.mono | exact LeO.refl _ | exact LeO.none _ | refine LeO.ite ?_ ?_ | refine LeO.bind ?_ (fun _ => ?_)
theorem rr_unary.mono : ∀ a0 a1 a2 a3 a4 a5 k, LeO (rr_unary.f k a0 a1 a2 a3 a4 a5) (rr_unary.f (k + 1) a0 a1 a2 a3 a4 a5) := by
 intro a0 a1 a2 a3 a4 a5 k
 have ih0 := rr_unary.mono_l k
 unfold rr_unary.f
 repeat' with_reducible first | apply ih0 | apply ra_num.mono | exact LeO.refl _ | exact LeO.none _ | refine LeO.ite ?_ ?_ | refine LeO.bind ?_ (fun _ => ?_)
def rr_unary.T3 : Bool × List (List Nat × List Nat) := (true, [([], []), ([0], [0]), ([1], [1]), ([2], [2]), ([], []), ([4], [4]), ([5], [5]), ([6], [6]), ([3, 7], [3, 7]), ([8], [8]), ([], []), ([10, 9, 0, 1, 2, 3, 4, 5, 6, 7, 8, 9, 10], [9, 10])])
def rr_unary.B3 : List Nat := [0, 1, 3, 7, 0, 16, 48, 112, 255, 511, 0, 2047]
theorem rr_unary.tab3 : rtab .any (opsOf Try.f95 3) = rr_unary.T3 := by kernel_rfl
theorem rr_unary.bits3 : waitsOk rr_unary.T3.2 rr_unary.B3 = true := by kernel_rfl
def rr_unary.T20 : Bool × List (List Nat × List Nat) := (true, [([], []), ([], []), ([1], [1]), ([2], [2]), ([], []), ([4], [4]), ([3, 5], [3, 5]), ([6], [6]), ([0, 7, 3], [0, 7]), ([8, 8, 0, 1, 2, 3, 4, 5, 6, 7, 8], [8])])
def rr_unary.B20 : List Nat := [0, 0, 2, 6, 0, 16, 62, 126, 255, 511]
theorem rr_unary.tab20 : rtab .any (opsOf Try.f95 20) = rr_unary.T20 := by kernel_rfl
theorem rr_unary.bits20 : waitsOk rr_unary.T20.2 rr_unary.B20 = true := by kernel_rfl
set_option maxHeartbeats 8000000 in
set_option maxRecDepth 100000 in
theorem rr_unary.calls (k : Nat) (g : Nat) (s0_0 : List (S110)) (s0_1 : Int) (s0_2 : Int) (s0_3 : Int) (s0_4 : Int) (P1_ : Nat → Prop) (u9000_ : Value) (l1 : List (S140)) (r1 : List (S140)) (r2 : Int) (r3 : Int) (r4 : Int) (r5 : Int) (w0 w : World) (hI : IsS83 w0 w g s0_0 s0_1 s0_2 s0_3 s0_4) (hB : Below w0.heap.size w0 w) (ho1 : Kd.R k140 140 w w0.heap.size P1_ u9000_ l1) (h : rr_unary.f k s0_0 s0_1 s0_2 s0_3 s0_4 l1 = some (r1, r2, r3, r4, r5)) :
  Calls Try.prog 95 #[.pointer (some ⟨g, 0, none⟩), u9000_] w fun e w' => ∃ v0_ : Value, e = .returned (v0_) ∧ Kd.R k140 140 w' w0.heap.size (fun k_ => (P1_ k_ ∨ w.heap.size ≤ k_)) v0_ r1 ∧ IsS83 w0 w' g s0_0 r2 r3 r4 r5 ∧ Below w0.heap.size w0 w' ∧ Kept w w' (fun k_ => (P1_ k_) ∨ k_ = g) := by
 have hu110 := Try.underlying110
 have hu140 := Try.underlying140
 have HO1 := za (show Kd.R k140 140 w w0.heap.size (fun k_ => (P1_ k_ ∨ w.heap.size ≤ k_)) u9000_ l1 from Kd.R_mono ho1 (fun k_ hk => (.inl hk)))
 have HI0 := za hI
 have HL := za hB.size
 clear hI
 have HK := za (Kept.refl w (fun k_ => (P1_ k_) ∨ k_ = g))
 have HW0 := za hB.size
 have HB := za hB
 clear hB
 have H : (if s0_3 = 0 then (if 0 ≤ s0_1 then (if s0_1 < (s0_0.length : Int) then ((rr_is.f s0_0 s0_1 s0_2 s0_3 s0_4 (⟨#[45]⟩ : ByteArray)).bind fun bt235 => (if bt235.1 = true then (rr_unary.j0 k l1 true s0_0 bt235.2.1 bt235.2.2.1 bt235.2.2.2.1 bt235.2.2.2.2 ((rd_T110 s0_0 s0_1).f0) ((rd_T110 s0_0 s0_1).f1) ((rd_T110 s0_0 s0_1).f2)) else ((rr_is.f s0_0 bt235.2.1 bt235.2.2.1 bt235.2.2.2.1 bt235.2.2.2.2 (⟨#[33]⟩ : ByteArray)).bind fun bt240 => (rr_unary.j0 k l1 bt240.1 s0_0 bt240.2.1 bt240.2.2.1 bt240.2.2.2.1 bt240.2.2.2.2 ((rd_T110 s0_0 s0_1).f0) ((rd_T110 s0_0 s0_1).f1) ((rd_T110 s0_0 s0_1).f2))))) else (none)) else (none)) else (none)) = some (r1, r2, r3, r4, r5) := h
 clear h
 by_cases c3 : s0_3 = 0
 ·
  rw [if_pos c3] at H
  have c3b0 := beq_iff_eq.mpr c3
  have c3b1 := bne_eq_false_iff_eq.mpr c3
  clear c3
  by_cases c4 : 0 ≤ s0_1
  ·
   rw [if_pos c4] at H
   have c4b0 := decide_eq_true c4
   clear c4
   by_cases c5 : s0_1 < (s0_0.length : Int)
   ·
    rw [if_pos c5] at H
    have c5b0 := decide_eq_true c5
    clear c5
    have HC6 := za H
    clear H
    obtain ⟨ASz7_0, cSz7_0, HGz7, hgz7, HSz7_0⟩ := HI0.out
    have hcz7_0 := cellS83_0 HGz7
    have hcz7_1 := cellS83_1 HGz7
    have hcz7_2 := cellS83_2 HGz7
    have hcz7_3 := cellS83_3 HGz7
    have hcz7_4 := cellS83_4 HGz7
    have hfz7_1 := blk_frozen HGz7 1
    have hfz7_2 := blk_frozen HGz7 2
    have hfz7_3 := blk_frozen HGz7 3
    have hfz7_4 := blk_frozen HGz7 4
    clear HGz7 hgz7
    go_enter Try.func95, Try.ntmps95
    try go_wp2
    replace HO1 := za (Kd.R_drew HO1.out)
    replace HI0 := za (IsS83.drew HI0.out)
    replace HK := za (Kept.drew HK.out)
    replace HB := za (below_drew1 HB.out)
    obtain ⟨ASz9_0, cSz9_0, HGz9, hgz9, HSz9_0⟩ := HI0.out
    have hx9_0 := cellS83_0 HGz9
    have hx9_1 := cellS83_1 HGz9
    have hx9_2 := cellS83_2 HGz9
    have hx9_3 := cellS83_3 HGz9
    have hx9_4 := cellS83_4 HGz9
    clear HGz9 hgz9
    have p233 : 0 ≤ (s0_1 : Int) := of_decide_eq_true zq6
    have q233 : s0_1 < (s0_0.length : Int) := of_decide_eq_true zq6
    obtain ⟨ad233, e233, hx233_0, hx233_1, hx233_2⟩ := at_T110 HSz9_0 s0_1 p233 q233
    have hw233_2 := hx233_2
    have hw233_1 := hx233_1
    have hw233_0 := hx233_0
    cases e233
    replace hx233_0 := pw_cell_below HB.out hx233_0
    replace hx233_1 := pw_cell_below HB.out hx233_1
    replace hx233_2 := pw_cell_below HB.out hx233_2
    replace p233 := eq_true p233
    replace q233 := eq_true q233
    refine start_ (n := 12) (S := fun w' => w'.cell? ⟨g, 0, none⟩ = some (.slice (some ad233) s0_0.length cSz9_0) ∧ w'.cell? ⟨g, 1, none⟩ = some (.int .i64 s0_1) ∧ w'.cell? ⟨g, 2, none⟩ = some (.int .i64 s0_2) ∧ w'.cell? ⟨g, 3, none⟩ = some (.int .i64 s0_3) ∧ w'.cell? ⟨g, 4, none⟩ = some (.int .i64 s0_4) ∧ w'.cell? (ad233.add ((s0_1).toNat * 3)) = some (.int .i64 ((rd_T110 s0_0 s0_1).f0)) ∧ w'.cell? ⟨(ad233.add ((s0_1).toNat * 3)).block, (ad233.add ((s0_1).toNat * 3)).off + 1, none⟩ = some (.string ((rd_T110 s0_0 s0_1).f1)) ∧ w'.cell? ⟨(ad233.add ((s0_1).toNat * 3)).block, (ad233.add ((s0_1).toNat * 3)).off + 2, none⟩ = some (.int .i64 ((rd_T110 s0_0 s0_1).f2))) (ds := [11]) #[false, false, false, false, false, false, false, false, false, false, false, false] zq12 rfl rfl ⟨hx9_0, hx9_1, hx9_2, hx9_3, hx9_4, hx233_0, hx233_1, hx233_2⟩ (fun hHeld => ?_); refine with_tabW rr_unary.tab3 rr_unary.bits3 (fun HT_ HW_ => ?_)
    generalize w.drew = w8 at HO1 HI0 HK HB hx233_0 hx233_1 hx233_2 hx9_0 hx9_1 hx9_2 hx9_3 hx9_4 hHeld ⊢
    refine pure_ (i := 0) (N := some 15) #[true, false, false, false, false, false, false, false, false, false, false, false] rfl rfl (any_of HT_.out zq12) (fun _ _ _ h => h) (Or.inl ⟨by rfl, zpv⟩) zpw ?_
    refine pure_ (i := 1) (N := some 16) #[true, true, false, false, false, false, false, false, false, false, false, false] rfl rfl (any_of HT_.out zq12) (fun _ _ _ h => h) (Or.inl ⟨by rfl, zpv⟩) zpw ?_
    refine pure_ (i := 2) (N := some 17) #[true, true, true, false, false, false, false, false, false, false, false, false] rfl rfl (any_of HT_.out zq12) (fun _ _ _ h => h) (Or.inl ⟨by rfl, zpv⟩) zpw ?_
    refine pure_ (i := 4) (N := some 19) #[true, true, true, false, true, false, false, false, false, false, false, false] rfl rfl (any_of HT_.out zq12) (fun _ _ _ h => h) (Or.inl ⟨by rfl, zpv⟩) zpw ?_
    refine pure_ (i := 5) (N := some 20) #[true, true, true, false, true, true, false, false, false, false, false, false] rfl rfl (any_of HT_.out zq12) (fun _ _ _ h => h) (Or.inl ⟨by rfl, zpv⟩) zpw ?_
    refine pure_ (i := 6) (N := some 21) #[true, true, true, false, true, true, true, false, false, false, false, false] rfl rfl (any_of HT_.out zq12) (fun _ _ _ h => h) (Or.inl ⟨by rfl, zpv⟩) zpw ?_
    refine take_ (i := 3) (N := some 18) (v := ?_) (a' := ?_) #[true, true, true, true, true, true, true, false, false, false, false, false] rfl rfl (take_ofW HT_.out HW_.out zq12) (fun _ _ _ h => h) (Or.inl ⟨by rfl, ?_⟩) hHeld ?_ ?_
    rotate_left
    ·
     rintro w' ⟨s0, s1, s2, s3, s4, s5, s6, s7⟩
     go_simp
     with_reducible rfl
    rotate_left
    ·
     simp only [Act.put, List.setIfInBounds_toArray, List.set_cons_zero, List.set_cons_succ, i64_w, i32_w]
     rfl
    refine take_ (i := 7) (N := some 22) (v := ?_) (a' := ?_) #[true, true, true, true, true, true, true, true, false, false, false, false] rfl rfl (take_ofW HT_.out HW_.out zq12) (fun _ _ _ h => h) (Or.inl ⟨by rfl, ?_⟩) hHeld ?_ ?_
    rotate_left
    ·
     rintro w' ⟨s0, s1, s2, s3, s4, s5, s6, s7⟩
     go_simp
     with_reducible rfl
    rotate_left
    ·
     simp only [Act.put, List.setIfInBounds_toArray, List.set_cons_zero, List.set_cons_succ, i64_w, i32_w]
     rfl
    refine pure_ (i := 8) (N := some 23) #[true, true, true, true, true, true, true, true, true, false, false, false] rfl rfl (any_of HT_.out zq12) (fun _ _ _ h => h) (Or.inl ⟨by rfl, zpv⟩) zpw ?_
    refine take_ (i := 9) (N := some 24) (v := ?_) (a' := ?_) #[true, true, true, true, true, true, true, true, true, true, false, false] rfl rfl (take_ofW HT_.out HW_.out zq12) (fun _ _ _ h => h) (Or.inl ⟨by rfl, ?_⟩) hHeld ?_ ?_
    rotate_left
    ·
     rintro w' ⟨s0, s1, s2, s3, s4, s5, s6, s7⟩
     go_simp
     with_reducible rfl
    rotate_left
    ·
     simp only [Act.put, List.setIfInBounds_toArray, List.set_cons_zero, List.set_cons_succ, i64_w, i32_w]
     rfl
    refine one_ (i := 10) (N := some 5) #[true, true, true, true, true, true, true, true, true, true, true, false] rfl rfl (one_of HT_.out zq12) (by decide) (fun K hK => ?_)
    refine box_step ?hg (N := 5) ?hd (cs := #[.int .i64 0, .string (⟨#[]⟩ : ByteArray), .int .i64 0]) (t := 110) ?hr ?_; (case hd => rfl); (case hg => rfl); (case hr => exact zq17)
    intro gb234 hg w10 hbox hb
    have HS0_ := (hb.cell (World.block_lt_of_cell? _ _ (hHeld.1))).trans (hHeld.1)
    have HS1_ := (hb.cell (World.block_lt_of_cell? _ _ (hHeld.2.1))).trans (hHeld.2.1)
    have HS2_ := (hb.cell (World.block_lt_of_cell? _ _ (hHeld.2.2.1))).trans (hHeld.2.2.1)
    have HS3_ := (hb.cell (World.block_lt_of_cell? _ _ (hHeld.2.2.2.1))).trans (hHeld.2.2.2.1)
    have HS4_ := (hb.cell (World.block_lt_of_cell? _ _ (hHeld.2.2.2.2.1))).trans (hHeld.2.2.2.2.1)
    have HS5_ := (hb.cell (World.block_lt_of_cell? _ _ (hHeld.2.2.2.2.2.1))).trans (hHeld.2.2.2.2.2.1)
    have HS6_ := (hb.cell (World.block_lt_of_cell? _ _ (hHeld.2.2.2.2.2.2.1))).trans (hHeld.2.2.2.2.2.2.1)
    have HS7_ := (hb.cell (World.block_lt_of_cell? _ _ (hHeld.2.2.2.2.2.2.2))).trans (hHeld.2.2.2.2.2.2.2)
    replace HO1 := za (Kd.R_below (zr HO1.out) hb)
    have BK234 := za (hbox)
    have GW234 := za ((by rw [hg]; exact zq25 : w.heap.size ≤ gb234))
    replace HK := za (Kept.below (S := (fun k_ => (P1_ k_) ∨ k_ = g)) zq11 hb)
    have GE234 := za ((by rw [hg]; exact (below_size zq3) : w0.heap.size ≤ gb234))
    replace HB := za (below_step zq3 hb)
    have NB0_234 := za ((by rw [hg]; exact Nat.ne_of_lt (IsS83.lt (show IsS83 w0 _ g s0_0 s0_1 s0_2 s0_3 s0_4 from zq0)) : g ≠ gb234))
    have NB234_0 := za ((by rw [hg]; exact Nat.ne_of_gt (IsS83.lt (show IsS83 w0 _ g s0_0 s0_1 s0_2 s0_3 s0_4 from zq0)) : gb234 ≠ g))
    replace HI0 := za (IsS83.below zq0 hb)
    clear hb hbox hg
    refine hK.out _ _ ⟨HS0_, HS1_, HS2_, HS3_, HS4_, HS5_, HS6_, HS7_⟩ (fun hHeld => ?_)
    clear hK K
    refine norm_ (a' := ?_) ?_ ?_
    rotate_left
    ·
     show Act.put _ (some 5) _ = _
     simp only [Act.put, List.setIfInBounds_toArray, List.set_cons_zero, List.set_cons_succ, i64_w, i32_w]
     rfl
    refine last_ (i := 11) (N := none) #[true, true, true, true, true, true, true, true, true, true, true, true] rfl rfl (one_of HT_.out zq12) (by decide) (fun K hK => ?_)
    have hs11 : w10.cell? ⟨gb234, 0, none⟩ = some (.int .i64 0) := (blk_cell BK234.out 0).trans rfl
    have hfs11 := blk_frozen BK234.out 0
    have hs12 : w10.cell? ⟨gb234, 1, none⟩ = some (.string (⟨#[]⟩ : ByteArray)) := (blk_cell BK234.out 1).trans rfl
    have hfs12 := blk_frozen BK234.out 1
    have hs13 : w10.cell? ⟨gb234, 2, none⟩ = some (.int .i64 0) := (blk_cell BK234.out 2).trans rfl
    have hfs13 := blk_frozen BK234.out 2
    refine skip_ (w1 := ?_) (by rfl) rfl ?_ ?_
    rotate_left
    ·
     go_simp
     rfl
    refine hK.out _ _ ?_
    clear hK K
    refine done_ (done_of HT_.out zq12) ?_
    go_upto_region 4 with (fail)
    go_cut [25] (fun v25 wc => ∃ (kq : Nat) (x25_5 : Bool) (x1001_5 : Int) (x1002_5 : Int) (x1003_5 : Int) (x1004_5 : Int), v25 = .bool x25_5 ∧ Aside0 (rr_unary.j0 kq l1 x25_5 s0_0 x1001_5 x1002_5 x1003_5 x1004_5 ((rd_T110 s0_0 s0_1).f0) ((rd_T110 s0_0 s0_1).f1) ((rd_T110 s0_0 s0_1).f2) = some (r1, r2, r3, r4, r5)) ∧ Aside0 (kq ≤ k) ∧ Aside0 (Kd.R k140 140 wc w0.heap.size (fun k_ => (P1_ k_ ∨ w.heap.size ≤ k_)) u9000_ l1) ∧ Aside0 (wc.heap[gb234]? = some (.cells #[.int .i64 ((rd_T110 s0_0 s0_1).f0), .string ((rd_T110 s0_0 s0_1).f1), .int .i64 ((rd_T110 s0_0 s0_1).f2)] 110 (0, 0))) ∧ Aside0 (IsS83 w0 wc g s0_0 x1001_5 x1002_5 x1003_5 x1004_5) ∧ Aside0 (Kept w wc (fun k_ => (P1_ k_) ∨ k_ = g)) ∧ Aside0 (Below w0.heap.size w0 wc))
    case first =>
     have H := HC6.out
     clear HC6
     replace H := Option.bind_eq_some_iff.mp H
     obtain ⟨⟨t235, t236, t237, t238, t239⟩, A140, H⟩ := H
     (try dsimp only at H)
     have A14 := za A140
     clear A140
     by_cases c15 : t235 = true
     ·
      subst c15
      rw [if_pos rfl] at H
      have H' := za H
      clear H
      go_wp2_with (first | ((with_reducible refine gate_callee (f := 54) rfl ?_); refine goesL_ (some 27) rfl rfl Try.func54 zq12 rfl #[.pointer (some ⟨g, 0, none⟩), .string (⟨#[45]⟩ : ByteArray)] rfl zq1 ?_; (with_reducible refine (rr_is.calls g s0_0 s0_1 s0_2 s0_3 s0_4 (⟨#[45]⟩ : ByteArray) true t236 t237 t238 t239 w0 _ ?side1 ?side2 A14.out).mono ?_); (case side1 => exact zq13); (case side2 => exact zq22); rintro e w16 ⟨rfl, hi, hb, hk⟩; refine ⟨_, rfl, ?_⟩; replace HO1 := za (Kd.R_mono (Kd.R_keep (IsS83.apart (show IsS83 w0 _ g s0_0 s0_1 s0_2 s0_3 s0_4 from zq13) (by (with_reducible repeat (first | apply Kd.R_alloc | apply Kd.R_drewN | apply Kd.R_drew)); exact (Kd.R_mono (Kd.R_far (p := ⟨gb234, 2, none⟩) (Kd.R_far (p := ⟨gb234, 1, none⟩) (Kd.R_far (p := ⟨gb234, 0, none⟩) (Kd.R_types HO1.out BK234.out (by decide)) (fun _ hk => hk.2) (.int .i64 ((rd_T110 s0_0 s0_1).f0))) (fun _ hk => hk.2) (.string ((rd_T110 s0_0 s0_1).f1))) (fun _ hk => hk.2) (.int .i64 ((rd_T110 s0_0 s0_1).f2))) (fun _ h_ => h_.1))) (by decide)) hk (fun _ h => h.2)) (fun _ h => h.1)); replace BK234 := za (KeepBut.blk hk (g' := gb234) (o := .cells #[.int .i64 ((rd_T110 s0_0 s0_1).f0), .string ((rd_T110 s0_0 s0_1).f1), .int .i64 ((rd_T110 s0_0 s0_1).f2)] 110 (0, 0)) (by (with_reducible repeat (first | refine blk_drewN ?_ _ | refine blk_drew ?_ | refine blk_alloc ?_ _)); refine blk_put (cs := #[.int .i64 ((rd_T110 s0_0 s0_1).f0), .string ((rd_T110 s0_0 s0_1).f1), .int .i64 0]) ?_ 2 _ rfl; (with_reducible repeat (first | refine blk_drewN ?_ _ | refine blk_drew ?_ | refine blk_alloc ?_ _)); refine blk_put (cs := #[.int .i64 ((rd_T110 s0_0 s0_1).f0), .string (⟨#[]⟩ : ByteArray), .int .i64 0]) ?_ 1 _ rfl; (with_reducible repeat (first | refine blk_drewN ?_ _ | refine blk_drew ?_ | refine blk_alloc ?_ _)); refine blk_put (cs := #[.int .i64 0, .string (⟨#[]⟩ : ByteArray), .int .i64 0]) ?_ 0 _ rfl; (with_reducible repeat (first | refine blk_drewN ?_ _ | refine blk_drew ?_ | refine blk_alloc ?_ _)); exact BK234.out) NB234_0.out (by simp)); replace HK := za (Kept.of_keep (S := (fun k_ => (P1_ k_) ∨ k_ = g)) zq21 hk (.inl (.inr rfl))); replace HB := za (hb); replace HI0 := za (hi); (try clear hb hk hi)))
      go_meet
      case rel => exact ⟨_, (true), (t236), (t237), (t238), (t239), zq16, H', ⟨zq83⟩, ⟨by (with_reducible repeat (first | apply Kd.R_alloc | apply Kd.R_drewN | apply Kd.R_drew)); exact HO1.out⟩, ⟨zq93⟩, ⟨zq13⟩, ⟨zq21⟩, ⟨zq22⟩⟩
     ·
      replace c15 := Bool.eq_false_iff.mpr c15
      subst c15
      rw [if_neg (show ¬ (false = true) by decide)] at H
      replace H := Option.bind_eq_some_iff.mp H
      obtain ⟨⟨t240, t241, t242, t243, t244⟩, A170, H⟩ := H
      (try dsimp only at H)
      have A17 := za A170
      clear A170
      have H' := za H
      clear H
      go_wp2_with (first | ((with_reducible refine gate_callee (f := 54) rfl ?_); refine goesL_ (some 27) rfl rfl Try.func54 zq12 rfl #[.pointer (some ⟨g, 0, none⟩), .string (⟨#[45]⟩ : ByteArray)] rfl zq1 ?_; (with_reducible refine (rr_is.calls g s0_0 s0_1 s0_2 s0_3 s0_4 (⟨#[45]⟩ : ByteArray) false t236 t237 t238 t239 w0 _ ?side1 ?side2 A14.out).mono ?_); (case side1 => exact zq13); (case side2 => exact zq22); rintro e w18 ⟨rfl, hi, hb, hk⟩; refine ⟨_, rfl, ?_⟩; replace HO1 := za (Kd.R_mono (Kd.R_keep (IsS83.apart (show IsS83 w0 _ g s0_0 s0_1 s0_2 s0_3 s0_4 from zq13) (by (with_reducible repeat (first | apply Kd.R_alloc | apply Kd.R_drewN | apply Kd.R_drew)); exact (Kd.R_mono (Kd.R_far (p := ⟨gb234, 2, none⟩) (Kd.R_far (p := ⟨gb234, 1, none⟩) (Kd.R_far (p := ⟨gb234, 0, none⟩) (Kd.R_types HO1.out BK234.out (by decide)) (fun _ hk => hk.2) (.int .i64 ((rd_T110 s0_0 s0_1).f0))) (fun _ hk => hk.2) (.string ((rd_T110 s0_0 s0_1).f1))) (fun _ hk => hk.2) (.int .i64 ((rd_T110 s0_0 s0_1).f2))) (fun _ h_ => h_.1))) (by decide)) hk (fun _ h => h.2)) (fun _ h => h.1)); replace BK234 := za (KeepBut.blk hk (g' := gb234) (o := .cells #[.int .i64 ((rd_T110 s0_0 s0_1).f0), .string ((rd_T110 s0_0 s0_1).f1), .int .i64 ((rd_T110 s0_0 s0_1).f2)] 110 (0, 0)) (by (with_reducible repeat (first | refine blk_drewN ?_ _ | refine blk_drew ?_ | refine blk_alloc ?_ _)); refine blk_put (cs := #[.int .i64 ((rd_T110 s0_0 s0_1).f0), .string ((rd_T110 s0_0 s0_1).f1), .int .i64 0]) ?_ 2 _ rfl; (with_reducible repeat (first | refine blk_drewN ?_ _ | refine blk_drew ?_ | refine blk_alloc ?_ _)); refine blk_put (cs := #[.int .i64 ((rd_T110 s0_0 s0_1).f0), .string (⟨#[]⟩ : ByteArray), .int .i64 0]) ?_ 1 _ rfl; (with_reducible repeat (first | refine blk_drewN ?_ _ | refine blk_drew ?_ | refine blk_alloc ?_ _)); refine blk_put (cs := #[.int .i64 0, .string (⟨#[]⟩ : ByteArray), .int .i64 0]) ?_ 0 _ rfl; (with_reducible repeat (first | refine blk_drewN ?_ _ | refine blk_drew ?_ | refine blk_alloc ?_ _)); exact BK234.out) NB234_0.out (by simp)); replace HK := za (Kept.of_keep (S := (fun k_ => (P1_ k_) ∨ k_ = g)) zq21 hk (.inl (.inr rfl))); replace HB := za (hb); replace HI0 := za (hi); (try clear hb hk hi)) | ((with_reducible refine gate_callee (f := 54) rfl ?_); (with_reducible refine gate_dst (N := 30) rfl ?_); (refine gate_guard (by rfl) ?_; dsimp only); refine goesL_ (some 30) rfl rfl Try.func54 zq12 rfl #[.pointer (some ⟨g, 0, none⟩), .string (⟨#[33]⟩ : ByteArray)] rfl zq1 ?_; (with_reducible refine (rr_is.calls g s0_0 t236 t237 t238 t239 (⟨#[33]⟩ : ByteArray) t240 t241 t242 t243 t244 w0 _ ?side1 ?side2 A17.out).mono ?_); (case side1 => exact zq13); (case side2 => exact zq22); rintro e w19 ⟨rfl, hi, hb, hk⟩; refine ⟨_, rfl, ?_⟩; replace HO1 := za (Kd.R_mono (Kd.R_keep (IsS83.apart (show IsS83 w0 _ g s0_0 t236 t237 t238 t239 from zq13) (zr HO1.out) (by decide)) hk (fun _ h => h.2)) (fun _ h => h.1)); replace BK234 := za (KeepBut.blk hk (g' := gb234) (zb BK234.out) NB234_0.out (by simp)); replace HK := za (Kept.of_keep (S := (fun k_ => (P1_ k_) ∨ k_ = g)) zq21 hk (.inl (.inr rfl))); replace HB := za (hb); replace HI0 := za (hi); (try clear hb hk hi)))
      go_meet
      case rel => exact ⟨_, (t240), (t241), (t242), (t243), (t244), zq16, H', ⟨zq83⟩, ⟨by (with_reducible repeat (first | apply Kd.R_alloc | apply Kd.R_drewN | apply Kd.R_drew)); exact HO1.out⟩, ⟨zq93⟩, ⟨zq13⟩, ⟨zq21⟩, ⟨zq22⟩⟩
    case rest =>
     clear HC6
     obtain ⟨kq, x25_5, x1001_5, x1002_5, x1003_5, x1004_5, rfl, HA, HJ5, HO_1, BK234, HI0, HK, HB⟩ := hcut
     cases kq with
     | zero => exact absurd HA.out (by simp [rr_unary.j0])
     | succ kj5 =>
      have H := HA.out
      clear HA
      simp only [rr_unary.j0] at H
      by_cases c20 : x25_5 = true
      ·
       subst c20
       rw [if_pos rfl] at H
       exact absurd H (by simp)
      ·
       replace c20 := Bool.eq_false_iff.mpr c20
       subst c20
       rw [if_neg (show ¬ (false = true) by decide)] at H
       replace H := Option.bind_eq_some_iff.mp H
       obtain ⟨⟨t245, t246, t247, t248, t249⟩, A210, H⟩ := H
       (try dsimp only at H)
       have A21 := za A210
       clear A210
       by_cases c22 : t245 = true
       ·
        subst c22
        rw [if_pos rfl] at H
        exact absurd H (by simp)
       ·
        replace c22 := Bool.eq_false_iff.mpr c22
        subst c22
        rw [if_neg (show ¬ (false = true) by decide)] at H
        by_cases c23 : ((rd_T110 s0_0 s0_1).f0) = 2
        ·
         rw [if_pos c23] at H
         have c23b0 := beq_iff_eq.mpr c23
         have c23b1 := bne_eq_false_iff_eq.mpr c23
         clear c23
         replace H := Option.bind_eq_some_iff.mp H
         obtain ⟨t250, A240, H⟩ := H
         (try dsimp only at H)
         have A24 := za A240
         clear A240
         by_cases c25 : l1.length < 1954687338268
         ·
          rw [if_pos c25] at H
          have LMc25 := za c25
          clear c25
          obtain ⟨y251, hy251⟩ : ∃ y_ : List (S140), y_ = (l1 ++ [(⟨1, t250, (⟨#[]⟩ : ByteArray), (⟨#[]⟩ : ByteArray), (-1), (-1), ((rd_T110 s0_0 s0_1).f2)⟩ : S140)]) := ⟨_, rfl⟩
          replace H : (some (y251, wrap64 (t246 + 1), t247, t248, t249)) = some (r1, r2, r3, r4, r5) := by first | (rw [hy251]; with_reducible exact H) | (have H2_ := (Option.bind_some _ _).symm.trans H; rw [hy251]; with_reducible exact H2_) | (have H2_ := (Option.bind_some _ _).symm.trans H; with_reducible exact H2_) | with_reducible exact H | (rw [hy251]; exact H) | exact H
          have Ny251 := za hy251
          clear hy251
          simp only [Option.some.injEq, Prod.mk.injEq] at H
          obtain ⟨rfl, rfl, rfl, rfl, rfl⟩ := H
          try go_wp2_with (first | ((with_reducible refine gate_callee (f := 54) rfl ?_); refine goesL_ (some 61) rfl rfl Try.func54 zq12 rfl #[.pointer (some ⟨g, 0, none⟩), .string (⟨#[40]⟩ : ByteArray)] rfl zq1 ?_; (with_reducible refine (rr_is.calls g s0_0 x1001_5 x1002_5 x1003_5 x1004_5 (⟨#[40]⟩ : ByteArray) false t246 t247 t248 t249 w0 _ ?side1 ?side2 A21.out).mono ?_); (case side1 => exact zq13); (case side2 => exact zq22); rintro e w26 ⟨rfl, hi, hb, hk⟩; refine ⟨_, rfl, ?_⟩; replace HO_1 := za (Kd.R_mono (Kd.R_keep (IsS83.apart (show IsS83 w0 _ g s0_0 x1001_5 x1002_5 x1003_5 x1004_5 from zq13) (zr HO_1.out) (by decide)) hk (fun _ h => h.2)) (fun _ h => h.1)); replace BK234 := za (KeepBut.blk hk (g' := gb234) (zb BK234.out) NB234_0.out (by simp)); replace HK := za (Kept.of_keep (S := (fun k_ => (P1_ k_) ∨ k_ = g)) zq21 hk (.inl (.inr rfl))); replace HB := za (hb); replace HI0 := za (hi); (try clear hb hk hi); have hnb27 := NB234_0.out; have hnc27 := NB0_234.out; obtain ⟨hcz28_0, hcz28_1, hcz28_2⟩ := zc3 BK234.out; obtain ⟨hfz28_0, hfz28_1, hfz28_2⟩ := zf3 BK234.out; obtain ⟨ASz29_0, cSz29_0, HGz29, hgz29, HSz29_0⟩ := HI0.out; have hcz29_0 := cellS83_0 HGz29; have hcz29_1 := cellS83_1 HGz29; have hcz29_2 := cellS83_2 HGz29; have hcz29_3 := cellS83_3 HGz29; have hcz29_4 := cellS83_4 HGz29; have hfz29_1 := blk_frozen HGz29 1; have hfz29_2 := blk_frozen HGz29 2; have hfz29_3 := blk_frozen HGz29 3; have hfz29_4 := blk_frozen HGz29 4; clear HGz29 hgz29))
          have n0_ : Aside0 (Kd.R k140 140 (w26.setCell ⟨g, 1, none⟩ (.int .i64 (wrap64 (t246 + 1)))) w0.heap.size (fun k_ => (P1_ k_ ∨ w.heap.size ≤ k_)) u9000_ l1) := ⟨by (with_reducible repeat (first | apply Kd.R_alloc | apply Kd.R_drewN | apply Kd.R_drew)); exact Kd.R_mono (Kd.R_far (p := ⟨g, 1, none⟩) (IsS83.apart HI0.out HO_1.out (by decide)) (fun _ hk => hk.2) (.int .i64 (wrap64 (t246 + 1)))) (fun _ hk => hk.1)⟩
          have n1_ : Aside0 ((w26.setCell ⟨g, 1, none⟩ (.int .i64 (wrap64 (t246 + 1)))).heap[gb234]? = some (.cells #[.int .i64 ((rd_T110 s0_0 s0_1).f0), .string ((rd_T110 s0_0 s0_1).f1), .int .i64 ((rd_T110 s0_0 s0_1).f2)] 110 (0, 0))) := ⟨by (with_reducible repeat (first | refine blk_drewN ?_ _ | refine blk_drew ?_ | refine blk_alloc ?_ _)); refine blk_far ?_ NB234_0.out _; (with_reducible repeat (first | refine blk_drewN ?_ _ | refine blk_drew ?_ | refine blk_alloc ?_ _)); exact BK234.out⟩
          have n2_ : Aside0 (IsS83 w0 (w26.setCell ⟨g, 1, none⟩ (.int .i64 (wrap64 (t246 + 1)))) g s0_0 (wrap64 (t246 + 1)) t247 t248 t249) := ⟨zq13⟩
          have n3_ : Aside0 (Kept w (w26.setCell ⟨g, 1, none⟩ (.int .i64 (wrap64 (t246 + 1)))) (fun k_ => (P1_ k_) ∨ k_ = g)) := ⟨zq21⟩
          have n4_ : Aside0 (Below w0.heap.size w0 (w26.setCell ⟨g, 1, none⟩ (.int .i64 (wrap64 (t246 + 1))))) := ⟨zq22⟩
          generalize (w26.setCell ⟨g, 1, none⟩ (.int .i64 (wrap64 (t246 + 1)))) = w30 at n0_ n1_ n2_ n3_ n4_ ⊢
          have HO_1 := n0_
          have BK234 := n1_
          have HI0 := n2_
          have HK := n3_
          have HB := n4_
          clear n0_ n1_ n2_ n3_ n4_
          replace HO_1 := za (Kd.R_drew HO_1.out)
          replace BK234 := za (blk_drew BK234.out)
          replace HI0 := za (IsS83.drew HI0.out)
          replace HK := za (Kept.drew HK.out)
          replace HB := za (below_drew1 HB.out)
          refine start_ (n := 10) (S := fun w' => w'.cell? ⟨gb234, 0, none⟩ = some (.int .i64 ((rd_T110 s0_0 s0_1).f0)) ∧ w'.cell? ⟨gb234, 1, none⟩ = some (.string ((rd_T110 s0_0 s0_1).f1)) ∧ w'.cell? ⟨gb234, 2, none⟩ = some (.int .i64 ((rd_T110 s0_0 s0_1).f2))) (ds := []) #[false, false, false, false, false, false, false, false, false, false] zq12 rfl rfl ⟨(blk_cell BK234.out 0).trans rfl, (blk_cell BK234.out 1).trans rfl, (blk_cell BK234.out 2).trans rfl⟩ (fun hHeld => ?_); refine with_tabW rr_unary.tab20 rr_unary.bits20 (fun HT_ HW_ => ?_)
          generalize w30.drew = w31 at HO_1 BK234 HI0 HK HB hHeld ⊢
          refine pure_ (i := 0) (N := some 88) #[true, false, false, false, false, false, false, false, false, false] rfl rfl (any_of HT_.out zq12) (fun _ _ _ h => h) (Or.inl ⟨by rfl, zpv⟩) zpw ?_
          refine pure_ (i := 1) (N := some 89) #[true, true, false, false, false, false, false, false, false, false] rfl rfl (any_of HT_.out zq12) (fun _ _ _ h => h) (Or.inl ⟨by rfl, zpv⟩) zpw ?_
          refine pure_ (i := 4) (N := some 92) #[true, true, false, false, true, false, false, false, false, false] rfl rfl (any_of HT_.out zq12) (fun _ _ _ h => h) (Or.inl ⟨by rfl, zpv⟩) zpw ?_
          refine take_ (i := 2) (N := some 90) (v := ?_) (a' := ?_) #[true, true, true, false, true, false, false, false, false, false] rfl rfl (take_ofW HT_.out HW_.out zq12) (fun _ _ _ h => h) (Or.inl ⟨by rfl, ?_⟩) hHeld ?_ ?_
          rotate_left
          ·
           rintro w' ⟨s0, s1, s2⟩
           go_simp
           with_reducible rfl
          rotate_left
          ·
           simp only [Act.put, List.setIfInBounds_toArray, List.set_cons_zero, List.set_cons_succ, i64_w, i32_w]
           rfl
          refine take_ (i := 5) (N := some 93) (v := ?_) (a' := ?_) #[true, true, true, false, true, true, false, false, false, false] rfl rfl (take_ofW HT_.out HW_.out zq12) (fun _ _ _ h => h) (Or.inl ⟨by rfl, ?_⟩) hHeld ?_ ?_
          rotate_left
          ·
           rintro w' ⟨s0, s1, s2⟩
           go_simp
           with_reducible rfl
          rotate_left
          ·
           simp only [Act.put, List.setIfInBounds_toArray, List.set_cons_zero, List.set_cons_succ, i64_w, i32_w]
           rfl
          refine one_ (i := 3) (N := some 91) #[true, true, true, true, true, true, false, false, false, false] rfl rfl (one_of HT_.out zq12) (by decide) (fun K hK => ?_)
          refine goes_ Try.func55 zq12 rfl #[.string ((rd_T110 s0_0 s0_1).f1)] (by rfl) rfl rfl zq1 ?_
          with_reducible refine (ra_num.calls kj5 ((rd_T110 s0_0 s0_1).f1) t250 _ A24.out).mono ?_
          rintro e w' ⟨rfl, ⟨nd, rfl⟩⟩
          refine ⟨_, rfl, ?_⟩
          refine hK.out _ _ ⟨(blk_cell BK234.out 0).trans rfl, (blk_cell BK234.out 1).trans rfl, (blk_cell BK234.out 2).trans rfl⟩ (fun hHeld => ?_)
          clear hK K
          refine norm_ (a' := ?_) ?_ ?_
          rotate_left
          ·
           show Act.put _ (some 91) _ = _
           simp only [Act.put, List.setIfInBounds_toArray, List.set_cons_zero, List.set_cons_succ, i64_w, i32_w]
           rfl
          refine pure_ (i := 6) (N := some 94) #[true, true, true, true, true, true, true, false, false, false] rfl rfl (any_of HT_.out zq12) (fun _ _ _ h => h) (Or.inl ⟨by rfl, zpv⟩) zpw ?_
          refine one_ (i := 7) (N := some 95) #[true, true, true, true, true, true, true, true, false, false] rfl rfl (one_of HT_.out zq12) (by decide) (fun K hK => ?_)
          refine value_ (w1 := ?_) (v := ?_) (by rfl) rfl ?_ ?_
          rotate_left 2
          ·
           go_simp
           constructor
           ·
            rfl
           ·
            rfl
          refine hK.out _ _ ⟨(blk_cell (blk_alloc BK234.out _) 0).trans rfl, (blk_cell (blk_alloc BK234.out _) 1).trans rfl, (blk_cell (blk_alloc BK234.out _) 2).trans rfl⟩ (fun hHeld => ?_)
          clear hK K
          refine norm_ (a' := ?_) ?_ ?_
          rotate_left
          ·
           show Act.put _ (some 95) _ = _
           simp only [Act.put, List.setIfInBounds_toArray, List.set_cons_zero, List.set_cons_succ, i64_w, i32_w]
           rfl
          refine one_ (i := 8) (N := some 96) #[true, true, true, true, true, true, true, true, true, false] rfl rfl (one_of HT_.out zq12) (by decide) (fun K hK => ?_)
          refine Kd.R_append_step k140 (w0 := w0) w0.heap.size (by rfl) (.tmp 88) (.tmp 95) 88 140 (.agg #[(.int .i64 0), (.int .i64 0), (.string ⟨#[]⟩), (.string ⟨#[]⟩), (.int .i64 0), (.int .i64 0), (.int .i64 0)]) 72 rfl Try.underlying88 info140 rfl (by decide) (by omega) u9000_ l1 (⟨1, t250, (⟨#[]⟩ : ByteArray), (⟨#[]⟩ : ByteArray), (-1), (-1), ((rd_T110 s0_0 s0_1).f2)⟩ : S140) [.int .i64 1, .int .i64 t250, .string (⟨#[]⟩ : ByteArray), .string (⟨#[]⟩ : ByteArray), .int .i64 (-1), .int .i64 (-1), .int .i64 ((rd_T110 s0_0 s0_1).f2)] (fun k_ => (P1_ k_ ∨ w.heap.size ≤ k_)) (fun _ => False) rfl rfl ?aP (fun _ hk => hk.elim) ?aF ?aO ?aB ?aS ?aL ?_
          (case aP => exact k140_mkM _ _ _ (⟨1, t250, (⟨#[]⟩ : ByteArray), (⟨#[]⟩ : ByteArray), (-1), (-1), ((rd_T110 s0_0 s0_1).f2)⟩ : S140))
          (case aB => exact zq22)
          (case aF => exact (fun k_ hk => (.inr (Nat.le_trans zq69 hk))))
          (case aO => exact (zr HO_1.out))
          (case aS => exact (below_size zq22))
          (case aL => have := LMc25.out; omega)
          intro v252 w32 ho hb hg hat
          rw [← Ny251.out] at ho
          replace BK234 := za (blk_grown (g := gb234) (zb BK234.out) hg (Kd.R_ne HO_1.out BK234.out (by decide)))
          replace HI0 := za (IsS83.grown zq13 hg (IsS83.own_ne HI0.out HO_1.out (by decide)))
          replace HB := za (hb)
          replace HK := za (Kept.of_grown (S := (fun k_ => (P1_ k_) ∨ k_ = g)) hg zq21 (fun k_ e_ => Or.imp_left Or.inl ((HO_1.out.1 k_ e_))))
          have HO253 := za (ho)
          clear HO_1
          clear ho hb hg hat
          refine hK.out _ _ ⟨(blk_cell BK234.out 0).trans rfl, (blk_cell BK234.out 1).trans rfl, (blk_cell BK234.out 2).trans rfl⟩ (fun hHeld => ?_)
          clear hK K
          refine norm_ (a' := ?_) ?_ ?_
          rotate_left
          ·
           show Act.put _ (some 96) _ = _
           simp only [Act.put, List.setIfInBounds_toArray, List.set_cons_zero, List.set_cons_succ, i64_w, i32_w]
           rfl
          refine pure_ (i := 9) (N := some 4) #[true, true, true, true, true, true, true, true, true, true] rfl rfl (any_of HT_.out zq12) (fun _ _ _ h => h) (Or.inl ⟨by rfl, zpv⟩) zpw ?_
          refine done_ (done_of HT_.out zq12) ?_
          try go_wp2
          go_ret
          exact ⟨_, zq14, by (with_reducible repeat (first | apply Kd.R_alloc | apply Kd.R_drewN | apply Kd.R_drew)); exact HO253.out, zq13, zq22, zq21⟩
         ·
          rw [if_neg c25] at H
          exact absurd H (by simp)
        ·
         rw [if_neg c23] at H
         have c23b0 := beq_eq_false_iff_ne.mpr c23
         have c23b1 := bne_iff_ne.mpr c23
         by_cases c33 : ((rd_T110 s0_0 s0_1).f0) = 1
         ·
          rw [if_pos c33] at H
          have c33b0 := beq_iff_eq.mpr c33
          have c33b1 := bne_eq_false_iff_eq.mpr c33
          clear c33
          replace H := Option.bind_eq_some_iff.mp H
          obtain ⟨⟨t254, t255, t256, t257, t258, t259⟩, A340, H⟩ := H
          (try dsimp only at H)
          have A34 := za A340
          clear A340
          by_cases c35 : l1.length < 1954687338268
          ·
           rw [if_pos c35] at H
           have LMc35 := za c35
           clear c35
           obtain ⟨y260, hy260⟩ : ∃ y_ : List (S140), y_ = (l1 ++ [(⟨2, 0, t254, t255, (-1), (-1), ((rd_T110 s0_0 s0_1).f2)⟩ : S140)]) := ⟨_, rfl⟩
           replace H : (some (y260, t256, t257, t258, t259)) = some (r1, r2, r3, r4, r5) := by first | (rw [hy260]; with_reducible exact H) | (have H2_ := (Option.bind_some _ _).symm.trans H; rw [hy260]; with_reducible exact H2_) | (have H2_ := (Option.bind_some _ _).symm.trans H; with_reducible exact H2_) | with_reducible exact H | (rw [hy260]; exact H) | exact H
           have Ny260 := za hy260
           clear hy260
           simp only [Option.some.injEq, Prod.mk.injEq] at H
           obtain ⟨rfl, rfl, rfl, rfl, rfl⟩ := H
           go_wp2_with (first | ((with_reducible refine gate_callee (f := 54) rfl ?_); refine goesL_ (some 61) rfl rfl Try.func54 zq12 rfl #[.pointer (some ⟨g, 0, none⟩), .string (⟨#[40]⟩ : ByteArray)] rfl zq1 ?_; (with_reducible refine (rr_is.calls g s0_0 x1001_5 x1002_5 x1003_5 x1004_5 (⟨#[40]⟩ : ByteArray) false t246 t247 t248 t249 w0 _ ?side1 ?side2 A21.out).mono ?_); (case side1 => exact zq13); (case side2 => exact zq22); rintro e w36 ⟨rfl, hi, hb, hk⟩; refine ⟨_, rfl, ?_⟩; replace HO_1 := za (Kd.R_mono (Kd.R_keep (IsS83.apart (show IsS83 w0 _ g s0_0 x1001_5 x1002_5 x1003_5 x1004_5 from zq13) (zr HO_1.out) (by decide)) hk (fun _ h => h.2)) (fun _ h => h.1)); replace BK234 := za (KeepBut.blk hk (g' := gb234) (zb BK234.out) NB234_0.out (by simp)); replace HK := za (Kept.of_keep (S := (fun k_ => (P1_ k_) ∨ k_ = g)) zq21 hk (.inl (.inr rfl))); replace HB := za (hb); replace HI0 := za (hi); (try clear hb hk hi); have hnb37 := NB234_0.out; have hnc37 := NB0_234.out; obtain ⟨hcz38_0, hcz38_1, hcz38_2⟩ := zc3 BK234.out; obtain ⟨hfz38_0, hfz38_1⟩ := zf2 BK234.out; have hfz38_2 := blk_frozen BK234.out 2) | ((with_reducible refine gate_callee (f := 72) rfl ?_); refine goesL_ (some 103) rfl rfl Try.func72 zq12 rfl #[.pointer (some ⟨g, 0, none⟩)] rfl zq1 ?_; (with_reducible refine (rr_qname.calls g s0_0 t246 t247 t248 t249 t254 t255 t256 t257 t258 t259 w0 _ ?side1 ?side2 A34.out).mono ?_); (case side1 => exact zq13); (case side2 => exact zq22); rintro e w39 ⟨rfl, hi, hb, hk⟩; refine ⟨_, rfl, ?_⟩; replace HO_1 := za (Kd.R_mono (Kd.R_keep (IsS83.apart (show IsS83 w0 _ g s0_0 t246 t247 t248 t249 from zq13) (zr HO_1.out) (by decide)) hk (fun _ h => h.2)) (fun _ h => h.1)); replace BK234 := za (KeepBut.blk hk (g' := gb234) (zb BK234.out) NB234_0.out (by simp)); replace HK := za (Kept.of_keep (S := (fun k_ => (P1_ k_) ∨ k_ = g)) zq21 hk (.inl (.inr rfl))); replace HB := za (hb); replace HI0 := za (hi); (try clear hb hk hi); obtain ⟨hcz40_0, hcz40_1, hcz40_2⟩ := zc3 BK234.out; obtain ⟨hfz40_0, hfz40_1⟩ := zf2 BK234.out; have hfz40_2 := blk_frozen BK234.out 2) | ((with_reducible refine gate_builtin (b := .append) (xs := #[.tmp 106, .tmp 112]) rfl ?_); at_builtin; refine Kd.R_append k140 (w0 := w0) w0.heap.size rfl (.tmp 106) (.tmp 112) 88 140 (.agg #[(.int .i64 0), (.int .i64 0), (.string ⟨#[]⟩), (.string ⟨#[]⟩), (.int .i64 0), (.int .i64 0), (.int .i64 0)]) 72 rfl Try.underlying88 info140 rfl (by decide) (by omega) u9000_ l1 (⟨2, 0, t254, t255, (-1), (-1), ((rd_T110 s0_0 s0_1).f2)⟩ : S140) [.int .i64 2, .int .i64 0, .string t254, .string t255, .int .i64 (-1), .int .i64 (-1), .int .i64 ((rd_T110 s0_0 s0_1).f2)] (fun k_ => (P1_ k_ ∨ w.heap.size ≤ k_)) (fun _ => False) rfl rfl ?aP (fun _ hk => hk.elim) ?aF ?aO ?aB ?aS ?aL ?_; (case aP => exact k140_mkM _ _ _ (⟨2, 0, t254, t255, (-1), (-1), ((rd_T110 s0_0 s0_1).f2)⟩ : S140)); (case aB => exact zq22); (case aF => exact (fun k_ hk => (.inr (Nat.le_trans zq69 hk)))); (case aO => exact (zr HO_1.out)); (case aS => exact (below_size zq22)); (case aL => have := LMc35.out; omega); intro v261 w41 ho hb hg hat; rw [← Ny260.out] at ho; replace BK234 := za (blk_grown (g := gb234) (zb BK234.out) hg (Kd.R_ne HO_1.out BK234.out (by decide))); replace HI0 := za (IsS83.grown zq13 hg (IsS83.own_ne HI0.out HO_1.out (by decide))); replace HB := za (hb); replace HK := za (Kept.of_grown (S := (fun k_ => (P1_ k_) ∨ k_ = g)) hg zq21 (fun k_ e_ => Or.imp_left Or.inl ((HO_1.out.1 k_ e_)))); have HO262 := za (ho); clear HO_1; clear ho hb hg hat))
           go_ret
           exact ⟨_, zq14, by (with_reducible repeat (first | apply Kd.R_alloc | apply Kd.R_drewN | apply Kd.R_drew)); exact HO262.out, zq13, zq22, zq21⟩
          ·
           rw [if_neg c35] at H
           exact absurd H (by simp)
         ·
          rw [if_neg c33] at H
          exact absurd H (by simp)
   ·
    rw [if_neg c5] at H
    exact absurd H (by simp)
  ·
   rw [if_neg c4] at H
   exact absurd H (by simp)
 ·
  rw [if_neg c3] at H
  exact absurd H (by simp)
def rr_term.l0 : Nat → List (S140) → List (S110) → Int → Int → Int → Int → Option ((List (S140)) × Int × Int × Int × Int)
 | 0, _, _, _, _, _, _ => none
 | k + 1, x1, x1000, x1001, x1002, x1003, x1004 => if x1003 = 0 then ((rr_here.f x1000 x1001 x1002 x1003 x1004).bind fun bt270 => ((rr_take.f x1000 bt270.2.1 bt270.2.2.1 bt270.2.2.2.1 bt270.2.2.2.2 (⟨#[42]⟩ : ByteArray)).bind fun bt275 => (if bt275.1 = true then (none) else ((rr_take.f x1000 bt275.2.1 bt275.2.2.1 bt275.2.2.2.1 bt275.2.2.2.2 (⟨#[47]⟩ : ByteArray)).bind fun bt280 => (if bt280.1 = true then (none) else ((rr_take.f x1000 bt280.2.1 bt280.2.2.1 bt280.2.2.2.1 bt280.2.2.2.2 (⟨#[37]⟩ : ByteArray)).bind fun bt285 => (if bt285.1 = true then (none) else (some (x1, bt285.2.1, bt285.2.2.1, bt285.2.2.2.1, bt285.2.2.2.2))))))))) else (none)
def rr_term.f (k : Nat) (s0_0 : List (S110)) (s0_1 : Int) (s0_2 : Int) (s0_3 : Int) (s0_4 : Int) (l1 : List (S140)) : Option ((List (S140)) × Int × Int × Int × Int) := (rr_unary.f k s0_0 s0_1 s0_2 s0_3 s0_4 l1).bind fun bt263 => (rr_term.l0 k bt263.1 s0_0 bt263.2.1 bt263.2.2.1 bt263.2.2.2.1 bt263.2.2.2.2)
theorem rr_term.mono_l : ∀ k, (∀ y0 y1 y2 y3 y4 y5, LeO (rr_term.l0 k y0 y1 y2 y3 y4 y5) (rr_term.l0 (k + 1) y0 y1 y2 y3 y4 y5))
 | 0 => fun _ _ _ _ _ _ r h => by simp [rr_term.l0] at h
 | k + 1 => by
  have ih0 := rr_term.mono_l k
  ·
   intro y0 y1 y2 y3 y4 y5
   unfold rr_term.l0
   repeat' with_reducible first | apply ih0 | apply rr_unary.mono | exact LeO.refl _ | exact LeO.none _ | refine LeO.ite ?_ ?_ | refine LeO.bind ?_ (fun _ => ?_)
theorem rr_term.mono : ∀ a0 a1 a2 a3 a4 a5 k, LeO (rr_term.f k a0 a1 a2 a3 a4 a5) (rr_term.f (k + 1) a0 a1 a2 a3 a4 a5) := by
 intro a0 a1 a2 a3 a4 a5 k
 have ih0 := rr_term.mono_l k
 unfold rr_term.f
 repeat' with_reducible first | apply ih0 | apply rr_unary.mono | exact LeO.refl _ | exact LeO.none _ | refine LeO.ite ?_ ?_ | refine LeO.bind ?_ (fun _ => ?_)
set_option maxHeartbeats 8000000 in
set_option maxRecDepth 100000 in
theorem rr_term.calls (k : Nat) (g : Nat) (s0_0 : List (S110)) (s0_1 : Int) (s0_2 : Int) (s0_3 : Int) (s0_4 : Int) (P1_ : Nat → Prop) (u9000_ : Value) (l1 : List (S140)) (r1 : List (S140)) (r2 : Int) (r3 : Int) (r4 : Int) (r5 : Int) (w0 w : World) (hI : IsS83 w0 w g s0_0 s0_1 s0_2 s0_3 s0_4) (hB : Below w0.heap.size w0 w) (ho1 : Kd.R k140 140 w w0.heap.size P1_ u9000_ l1) (h : rr_term.f k s0_0 s0_1 s0_2 s0_3 s0_4 l1 = some (r1, r2, r3, r4, r5)) :
  Calls Try.prog 92 #[.pointer (some ⟨g, 0, none⟩), u9000_] w fun e w' => ∃ v0_ : Value, e = .returned (v0_) ∧ Kd.R k140 140 w' w0.heap.size (fun k_ => (P1_ k_ ∨ w.heap.size ≤ k_)) v0_ r1 ∧ IsS83 w0 w' g s0_0 r2 r3 r4 r5 ∧ Below w0.heap.size w0 w' ∧ Kept w w' (fun k_ => (P1_ k_) ∨ k_ = g) := by
 have HO1 := za (show Kd.R k140 140 w w0.heap.size (fun k_ => (P1_ k_ ∨ w.heap.size ≤ k_)) u9000_ l1 from Kd.R_mono ho1 (fun k_ hk => (.inl hk)))
 have HI0 := za hI
 have HL := za hB.size
 clear hI
 have HK := za (Kept.refl w (fun k_ => (P1_ k_) ∨ k_ = g))
 have HW0 := za hB.size
 have HB := za hB
 clear hB
 have H : ((rr_unary.f k s0_0 s0_1 s0_2 s0_3 s0_4 l1).bind fun bt263 => (rr_term.l0 k bt263.1 s0_0 bt263.2.1 bt263.2.2.1 bt263.2.2.2.1 bt263.2.2.2.2)) = some (r1, r2, r3, r4, r5) := h
 clear h
 replace H := Option.bind_eq_some_iff.mp H
 obtain ⟨⟨t263, t266, t267, t268, t269⟩, A30, H⟩ := H
 (try dsimp only at H)
 have A3 := za A30
 clear A30
 have H' := za H
 clear H
 obtain ⟨Ao4, co4, eo4⟩ := Kd.R_slice HO1.out
 subst eo4
 go_enter Try.func92, Try.ntmps92
 go_wp2_with (first | ((with_reducible refine gate_callee (f := 95) rfl ?_); refine goesL_ (some 9) rfl rfl Try.func95 zq12 rfl #[.pointer (some ⟨g, 0, none⟩), .slice Ao4 l1.length co4] rfl zq1 ?_; (with_reducible refine (rr_unary.calls k g s0_0 s0_1 s0_2 s0_3 s0_4 (fun k_ => some k_ = (.slice Ao4 l1.length co4 : Value).ownBlock) (.slice Ao4 l1.length co4) l1 t263 t266 t267 t268 t269 w0 _ ?side1 ?side2 ?side3 A3.out).mono ?_); (case side1 => exact zq0); (case side2 => exact zq3); (case side3 => exact Kd.R_tight rfl HO1.out); rintro e w5 ⟨v264, rfl, ho0, hi, hb, hkp⟩; refine ⟨_, rfl, ?_⟩; replace HI0 := za (hi); have HO265 := za (Kd.R_mono (ok' := fun k_ => (P1_ k_ ∨ w.heap.size ≤ k_)) ho0 (fun k_ hk_ => Or.elim hk_ (fun hs_ => (HO1.out.1 k_ (hs_).symm)) (fun hn_ => (.inr (Nat.le_trans zq25 hn_))))); replace HK := za (Kept.then_ (S := (fun k_ => (P1_ k_) ∨ k_ = g)) zq11 hkp (fun k_ hs_ => Or.elim hs_ (fun hs_ => (fun e_ => Or.imp_left Or.inl ((HO1.out.1 k_ e_.symm))) hs_) (fun e_ => .inl (.inr e_)))); replace HB := za (hb); clear HO1; (try clear hb hkp ho0)))
 (try simp only [Act.put, List.setIfInBounds_toArray, List.set_cons_zero, List.set_cons_succ])
 go_loopg [1] k (fun kq v1 w' => ∃ (x1_1 : List (S140)) (x1001_1 : Int) (x1002_1 : Int) (x1003_1 : Int) (x1004_1 : Int), Aside0 (rr_term.l0 kq x1_1 s0_0 x1001_1 x1002_1 x1003_1 x1004_1 = some (r1, r2, r3, r4, r5)) ∧ Aside0 (kq ≤ k) ∧ Aside0 (Kd.R k140 140 w' w0.heap.size (fun k_ => (P1_ k_ ∨ w.heap.size ≤ k_)) v1 x1_1) ∧ Aside0 (IsS83 w0 w' g s0_0 x1001_1 x1002_1 x1003_1 x1004_1) ∧ Aside0 (Kept w w' (fun k_ => (P1_ k_) ∨ k_ = g)) ∧ Aside0 (Below w0.heap.size w0 w'))
 case atStart => exact ⟨(t263), (t266), (t267), (t268), (t269), H', ⟨Nat.le_refl _⟩, ⟨by (with_reducible repeat (first | apply Kd.R_alloc | apply Kd.R_drewN | apply Kd.R_drew)); exact HO265.out⟩, ⟨zq0⟩, ⟨zq11⟩, ⟨zq3⟩⟩
 case round =>
  clear H'
  obtain ⟨x1_1, x1001_1, x1002_1, x1003_1, x1004_1, HA, HK1, HO_1, HI0, HK, HB⟩ := hrel
  cases gk with
  | zero => exact absurd HA.out (by simp [rr_term.l0])
  | succ k1 =>
   have H := HA.out
   clear HA
   simp only [rr_term.l0] at H
   by_cases c6 : x1003_1 = 0
   ·
    rw [if_pos c6] at H
    have c6b0 := beq_iff_eq.mpr c6
    have c6b1 := bne_eq_false_iff_eq.mpr c6
    clear c6
    replace H := Option.bind_eq_some_iff.mp H
    obtain ⟨⟨t270, t271, t272, t273, t274⟩, A70, H⟩ := H
    (try dsimp only at H)
    have A7 := za A70
    clear A70
    replace H := Option.bind_eq_some_iff.mp H
    obtain ⟨⟨t275, t276, t277, t278, t279⟩, A80, H⟩ := H
    (try dsimp only at H)
    have A8 := za A80
    clear A80
    by_cases c9 : t275 = true
    ·
     subst c9
     rw [if_pos rfl] at H
     exact absurd H (by simp)
    ·
     replace c9 := Bool.eq_false_iff.mpr c9
     subst c9
     rw [if_neg (show ¬ (false = true) by decide)] at H
     replace H := Option.bind_eq_some_iff.mp H
     obtain ⟨⟨t280, t281, t282, t283, t284⟩, A100, H⟩ := H
     (try dsimp only at H)
     have A10 := za A100
     clear A100
     by_cases c11 : t280 = true
     ·
      subst c11
      rw [if_pos rfl] at H
      exact absurd H (by simp)
     ·
      replace c11 := Bool.eq_false_iff.mpr c11
      subst c11
      rw [if_neg (show ¬ (false = true) by decide)] at H
      replace H := Option.bind_eq_some_iff.mp H
      obtain ⟨⟨t285, t286, t287, t288, t289⟩, A120, H⟩ := H
      (try dsimp only at H)
      have A12 := za A120
      clear A120
      by_cases c13 : t285 = true
      ·
       subst c13
       rw [if_pos rfl] at H
       exact absurd H (by simp)
      ·
       replace c13 := Bool.eq_false_iff.mpr c13
       subst c13
       rw [if_neg (show ¬ (false = true) by decide)] at H
       simp only [Option.some.injEq, Prod.mk.injEq] at H
       obtain ⟨rfl, rfl, rfl, rfl, rfl⟩ := H
       obtain ⟨ASz14_0, cSz14_0, HGz14, hgz14, HSz14_0⟩ := HI0.out
       have hcz14_0 := cellS83_0 HGz14
       have hcz14_1 := cellS83_1 HGz14
       have hcz14_2 := cellS83_2 HGz14
       have hcz14_3 := cellS83_3 HGz14
       have hcz14_4 := cellS83_4 HGz14
       have hfz14_1 := blk_frozen HGz14 1
       have hfz14_2 := blk_frozen HGz14 2
       have hfz14_3 := blk_frozen HGz14 3
       have hfz14_4 := blk_frozen HGz14 4
       clear HGz14 hgz14
       obtain ⟨Ao15, co15, eo15⟩ := Kd.R_slice HO_1.out
       subst eo15
       go_wp2_with (first | ((with_reducible refine gate_callee (f := 46) rfl ?_); refine goesL_ (some 19) rfl rfl Try.func46 zq12 rfl #[.pointer (some ⟨g, 0, none⟩)] rfl zq1 ?_; (with_reducible refine (rr_here.calls g s0_0 x1001_1 x1002_1 x1003_1 x1004_1 t270 t271 t272 t273 t274 w0 _ ?side1 ?side2 A7.out).mono ?_); (case side1 => exact zq0); (case side2 => exact zq3); rintro e w16 ⟨rfl, hi, hb, hk⟩; refine ⟨_, rfl, ?_⟩; replace HO_1 := za (Kd.R_mono (Kd.R_keep (IsS83.apart (show IsS83 w0 _ g s0_0 x1001_1 x1002_1 x1003_1 x1004_1 from zq0) (zr HO_1.out) (by decide)) hk (fun _ h => h.2)) (fun _ h => h.1)); replace HK := za (Kept.of_keep (S := (fun k_ => (P1_ k_) ∨ k_ = g)) zq11 hk (.inl (.inr rfl))); replace HB := za (hb); replace HI0 := za (hi); (try clear hb hk hi)) | ((with_reducible refine gate_callee (f := 48) rfl ?_); refine goesL_ (some 23) rfl rfl Try.func48 zq12 rfl #[.pointer (some ⟨g, 0, none⟩), .string (⟨#[42]⟩ : ByteArray)] rfl zq1 ?_; (with_reducible refine (rr_take.calls g s0_0 t271 t272 t273 t274 (⟨#[42]⟩ : ByteArray) false t276 t277 t278 t279 w0 _ ?side1 ?side2 A8.out).mono ?_); (case side1 => exact zq0); (case side2 => exact zq3); rintro e w17 ⟨rfl, hi, hb, hk⟩; refine ⟨_, rfl, ?_⟩; replace HO_1 := za (Kd.R_mono (Kd.R_keep (IsS83.apart (show IsS83 w0 _ g s0_0 t271 t272 t273 t274 from zq0) (zr HO_1.out) (by decide)) hk (fun _ h => h.2)) (fun _ h => h.1)); replace HK := za (Kept.of_keep (S := (fun k_ => (P1_ k_) ∨ k_ = g)) zq11 hk (.inl (.inr rfl))); replace HB := za (hb); replace HI0 := za (hi); (try clear hb hk hi)) | ((with_reducible refine gate_callee (f := 48) rfl ?_); refine goesL_ (some 32) rfl rfl Try.func48 zq12 rfl #[.pointer (some ⟨g, 0, none⟩), .string (⟨#[47]⟩ : ByteArray)] rfl zq1 ?_; (with_reducible refine (rr_take.calls g s0_0 t276 t277 t278 t279 (⟨#[47]⟩ : ByteArray) false t281 t282 t283 t284 w0 _ ?side1 ?side2 A10.out).mono ?_); (case side1 => exact zq0); (case side2 => exact zq3); rintro e w18 ⟨rfl, hi, hb, hk⟩; refine ⟨_, rfl, ?_⟩; replace HO_1 := za (Kd.R_mono (Kd.R_keep (IsS83.apart (show IsS83 w0 _ g s0_0 t276 t277 t278 t279 from zq0) (zr HO_1.out) (by decide)) hk (fun _ h => h.2)) (fun _ h => h.1)); replace HK := za (Kept.of_keep (S := (fun k_ => (P1_ k_) ∨ k_ = g)) zq11 hk (.inl (.inr rfl))); replace HB := za (hb); replace HI0 := za (hi); (try clear hb hk hi)) | ((with_reducible refine gate_callee (f := 48) rfl ?_); refine goesL_ (some 41) rfl rfl Try.func48 zq12 rfl #[.pointer (some ⟨g, 0, none⟩), .string (⟨#[37]⟩ : ByteArray)] rfl zq1 ?_; (with_reducible refine (rr_take.calls g s0_0 t281 t282 t283 t284 (⟨#[37]⟩ : ByteArray) false t286 t287 t288 t289 w0 _ ?side1 ?side2 A12.out).mono ?_); (case side1 => exact zq0); (case side2 => exact zq3); rintro e w19 ⟨rfl, hi, hb, hk⟩; refine ⟨_, rfl, ?_⟩; replace HO_1 := za (Kd.R_mono (Kd.R_keep (IsS83.apart (show IsS83 w0 _ g s0_0 t281 t282 t283 t284 from zq0) (zr HO_1.out) (by decide)) hk (fun _ h => h.2)) (fun _ h => h.1)); replace HK := za (Kept.of_keep (S := (fun k_ => (P1_ k_) ∨ k_ = g)) zq11 hk (.inl (.inr rfl))); replace HB := za (hb); replace HI0 := za (hi); (try clear hb hk hi)))
       go_ret
       exact ⟨_, zq14, zq77, zq0, zq3, zq11⟩
   ·
    rw [if_neg c6] at H
    exact absurd H (by simp)
end Go.Proofs.Ytcjnhnnfoadklaa.QRunCounts
