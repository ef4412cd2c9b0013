import Derived.Test.YtcjnhnnfoadklaaZRBx9
namespace Go.Proofs.Ytcjnhnnfoadklaa.QRunBranches
open Go.RowKit Go.Proofs.YtcjnhnnfoadklaaW.PrintWords Go.Proofs.YtcjnhnnfoadklaaW.PrintLast Go.Proofs.YtcjnhnnfoadklaaW.PrintMore
attribute [local go_sem] max2_int min2_int max_two min_two max_three min_three max_four min_four
set_option linter.unusedVariables false
set_option linter.unusedSimpArgs false
def rr_qname.f (s0_0 : List (S110)) (s0_1 : Int) (s0_2 : Int) (s0_3 : Int) (s0_4 : Int) : Option (ByteArray × ByteArray × Int × Int × Int × Int) := (rr_name.f s0_0 s0_1 s0_2 s0_3 s0_4).bind fun bt221 => ((rr_take.f s0_0 bt221.2.1 bt221.2.2.1 bt221.2.2.2.1 bt221.2.2.2.2 (⟨#[46]⟩ : ByteArray)).bind fun bt226 => (if bt226.1 = true then (none) else (some ((⟨#[]⟩ : ByteArray), bt221.1, bt226.2.1, bt226.2.2.1, bt226.2.2.2.1, bt226.2.2.2.2))))
set_option maxHeartbeats 8000000 in
set_option maxRecDepth 100000 in
theorem rr_qname.calls (g : Nat) (s0_0 : List (S110)) (s0_1 : Int) (s0_2 : Int) (s0_3 : Int) (s0_4 : Int) (r1 : ByteArray) (r2 : ByteArray) (r3 : Int) (r4 : Int) (r5 : Int) (r6 : Int) (w0 w : World) (hI : IsS83 w0 w g s0_0 s0_1 s0_2 s0_3 s0_4) (hB : Below w0.heap.size w0 w) (h : rr_qname.f s0_0 s0_1 s0_2 s0_3 s0_4 = some (r1, r2, r3, r4, r5, r6)) :
  Calls Try.prog 72 #[.pointer (some ⟨g, 0, none⟩)] w fun e w' => e = .returned (.tuple #[.string r1, .string r2]) ∧ IsS83 w0 w' g s0_0 r3 r4 r5 r6 ∧ Below w0.heap.size w0 w' ∧ KeepBut w w' g none := by
 have HI0 := za hI
 have HK := za (KeepBut.refl w g none)
 have HL := za hB.size
 clear hI
 have HW0 := za hB.size
 have HB := za hB
 clear hB
 have H : ((rr_name.f s0_0 s0_1 s0_2 s0_3 s0_4).bind fun bt221 => ((rr_take.f s0_0 bt221.2.1 bt221.2.2.1 bt221.2.2.2.1 bt221.2.2.2.2 (⟨#[46]⟩ : ByteArray)).bind fun bt226 => (if bt226.1 = true then (none) else (some ((⟨#[]⟩ : ByteArray), bt221.1, bt226.2.1, bt226.2.2.1, bt226.2.2.2.1, bt226.2.2.2.2))))) = some (r1, r2, r3, r4, r5, r6) := h
 clear h
 replace H := Option.bind_eq_some_iff.mp H
 obtain ⟨⟨t221, t222, t223, t224, t225⟩, A20, H⟩ := H
 (try dsimp only at H)
 have A2 := za A20
 clear A20
 replace H := Option.bind_eq_some_iff.mp H
 obtain ⟨⟨t226, t227, t228, t229, t230⟩, A30, H⟩ := H
 (try dsimp only at H)
 have A3 := za A30
 clear A30
 by_cases c4 : t226 = true
 ·
  subst c4
  rw [if_pos rfl] at H
  exact absurd H (by simp)
 ·
  replace c4 := Bool.eq_false_iff.mpr c4
  subst c4
  rw [if_neg (show ¬ (false = true) by decide)] at H
  simp only [Option.some.injEq, Prod.mk.injEq] at H
  obtain ⟨rfl, rfl, rfl, rfl, rfl, rfl⟩ := H
  go_enter Try.func72, Try.ntmps72
  go_wp2_with (first | ((with_reducible refine gate_callee (f := 47) rfl ?_); refine goesL_ (some 6) rfl rfl Try.func47 zq13 rfl #[.pointer (some ⟨g, 0, none⟩)] rfl zq2 ?_; (with_reducible refine (rr_name.calls g s0_0 s0_1 s0_2 s0_3 s0_4 t221 t222 t223 t224 t225 w0 _ ?side1 ?side2 A2.out).mono ?_); (case side1 => exact zq0); (case side2 => exact zq4); rintro e w5 ⟨rfl, hi, hb, hk⟩; refine ⟨_, rfl, ?_⟩; replace HK := za (KeepBut.trans zq7 hk (.inl rfl)); replace HB := za (hb); replace HI0 := za (hi); (try clear hb hk hi)) | ((with_reducible refine gate_callee (f := 48) rfl ?_); refine goesL_ (some 8) rfl rfl Try.func48 zq13 rfl #[.pointer (some ⟨g, 0, none⟩), .string (⟨#[46]⟩ : ByteArray)] rfl zq2 ?_; (with_reducible refine (rr_take.calls g s0_0 t222 t223 t224 t225 (⟨#[46]⟩ : ByteArray) false t227 t228 t229 t230 w0 _ ?side1 ?side2 A3.out).mono ?_); (case side1 => exact zq0); (case side2 => exact zq4); rintro e w6 ⟨rfl, hi, hb, hk⟩; refine ⟨_, rfl, ?_⟩; replace HK := za (KeepBut.trans zq7 hk (.inl rfl)); replace HB := za (hb); replace HI0 := za (hi); (try clear hb hk hi)))
  go_ret2
  exact ⟨zq16, zq0, zq4, zq7⟩
def ra_two.f (l0 : List (S140)) (a1 : Int) (a2 : Int) (a3 : Int) : Option ((List (S140))) := if l0.length < 1954687338268 then (some (l0 ++ [(⟨a2, 0, (⟨#[]⟩ : ByteArray), (⟨#[]⟩ : ByteArray), a1, wrap64 ((l0.length : Int) - 1), a3⟩ : S140)])) else (none)
set_option maxHeartbeats 8000000 in
set_option maxRecDepth 100000 in
theorem ra_two.calls (P0_ : Nat → Prop) (u9000_ : Value) (l0 : List (S140)) (a1 : Int) (a2 : Int) (a3 : Int) (r : List (S140)) (w0 w : World) (hB : Below w0.heap.size w0 w) (ho0 : Kd.R k140 140 w w0.heap.size P0_ u9000_ l0) (h : ra_two.f l0 a1 a2 a3 = some r) :
  Calls Try.prog 83 #[u9000_, .int .i64 a1, .int .i64 a2, .int .i64 a3] w fun e w' => ∃ v0_ : Value, e = .returned (v0_) ∧ Kd.R k140 140 w' w0.heap.size (fun k_ => (P0_ k_ ∨ w.heap.size ≤ k_)) v0_ r ∧ Below w0.heap.size w0 w' ∧ Kept w w' (fun k_ => P0_ k_) := by
 have hu140 := Try.underlying140
 have HO0 := za (show Kd.R k140 140 w w0.heap.size (fun k_ => (P0_ k_ ∨ w.heap.size ≤ k_)) u9000_ l0 from Kd.R_mono ho0 (fun k_ hk => (.inl hk)))
 have HK := za (Kept.refl w (fun k_ => P0_ k_))
 have HW0 := za hB.size
 have HB := za hB
 clear hB
 have H : (if l0.length < 1954687338268 then (some (l0 ++ [(⟨a2, 0, (⟨#[]⟩ : ByteArray), (⟨#[]⟩ : ByteArray), a1, wrap64 ((l0.length : Int) - 1), a3⟩ : S140)])) else (none)) = some r := h
 clear h
 by_cases c5 : l0.length < 1954687338268
 ·
  rw [if_pos c5] at H
  have LMc5 := za c5
  clear c5
  obtain ⟨y231, hy231⟩ : ∃ y_ : List (S140), y_ = (l0 ++ [(⟨a2, 0, (⟨#[]⟩ : ByteArray), (⟨#[]⟩ : ByteArray), a1, wrap64 ((l0.length : Int) - 1), a3⟩ : S140)]) := ⟨_, rfl⟩
  replace H : (some y231) = some r := by first | (rw [hy231]; with_reducible exact H) | (have H2_ := (Option.bind_some _ _).symm.trans H; rw [hy231]; with_reducible exact H2_) | (have H2_ := (Option.bind_some _ _).symm.trans H; with_reducible exact H2_) | with_reducible exact H | (rw [hy231]; exact H) | exact H
  have Ny231 := za hy231
  clear hy231
  obtain rfl := Option.some.inj H
  obtain ⟨Ao6, co6, eo6⟩ := Kd.R_slice HO0.out
  subst eo6
  go_enter Try.func83, Try.ntmps83
  go_wp2_with (first | ((with_reducible refine gate_builtin (b := .append) (xs := #[.tmp 9, .tmp 17]) rfl ?_); at_builtin; refine Kd.R_append k140 (w0 := w0) w0.heap.size rfl (.tmp 9) (.tmp 17) 88 140 (.agg #[(.int .i64 0), (.int .i64 0), (.string ⟨#[]⟩), (.string ⟨#[]⟩), (.int .i64 0), (.int .i64 0), (.int .i64 0)]) 72 rfl Try.underlying88 info140 rfl (by decide) (by omega) (.slice Ao6 l0.length co6) l0 (⟨a2, 0, (⟨#[]⟩ : ByteArray), (⟨#[]⟩ : ByteArray), a1, wrap64 ((l0.length : Int) - 1), a3⟩ : S140) [.int .i64 a2, .int .i64 0, .string (⟨#[]⟩ : ByteArray), .string (⟨#[]⟩ : ByteArray), .int .i64 a1, .int .i64 (wrap64 ((l0.length : Int) - 1)), .int .i64 a3] (fun k_ => (P0_ k_ ∨ w.heap.size ≤ k_)) (fun _ => False) rfl rfl ?aP (fun _ hk => hk.elim) ?aF ?aO ?aB ?aS ?aL ?_; (case aP => exact k140_mkM _ _ _ (⟨a2, 0, (⟨#[]⟩ : ByteArray), (⟨#[]⟩ : ByteArray), a1, wrap64 ((l0.length : Int) - 1), a3⟩ : S140)); (case aB => exact zq3); (case aF => exact (fun k_ hk => (.inr (Nat.le_trans (by first | exact HK.out.1 | exact (show Kept w _ (fun k_ => P0_ k_) from zq95).1) hk)))); (case aO => exact (zr HO0.out)); (case aS => exact (below_size zq3)); (case aL => have := LMc5.out; omega); intro v232 w7 ho hb hg hat; rw [← Ny231.out] at ho; replace HB := za (hb); replace HK := za (Kept.of_grown (S := (fun k_ => P0_ k_)) hg zq95 (fun k_ e_ => (HO0.out.1 k_ e_))); have HO233 := za (ho); clear HO0; clear ho hb hg hat))
  go_ret
  exact ⟨_, zq16, by (with_reducible repeat (first | apply Kd.R_alloc | apply Kd.R_drewN | apply Kd.R_drew)); exact HO233.out, zq3, zq95⟩
 ·
  rw [if_neg c5] at H
  exact absurd H (by simp)
mutual
def rr_unary.j0 : Nat → List (S140) → Bool → List (S110) → Int → Int → Int → Int → Int → ByteArray → Int → Option ((List (S140)) × Int × Int × Int × Int)
 | 0, _, _, _, _, _, _, _, _, _, _ => none
 | k + 1, x1, x25, x1000, x1001, x1002, x1003, x1004, x236000, x236001, x236002 => if x25 = true then (if x236001.toList = ([33] : List UInt8) then ((rr_open.f k x1000 x1001 x1002 x1003 x1004 x236001).bind fun bt246 => ((rr_unary.f k x1000 bt246.1 bt246.2.1 bt246.2.2.1 bt246.2.2.2 x1).bind fun bt250 => (if bt250.1.length < 1954687338268 then (some ((bt250.1 ++ [(⟨4, 0, (⟨#[]⟩ : ByteArray), (⟨#[]⟩ : ByteArray), wrap64 ((bt250.1.length : Int) - 1), (-1), x236002⟩ : S140)]), bt250.2.1, wrap64 (bt250.2.2.1 - 1), bt250.2.2.2.1, bt250.2.2.2.2)) else (none)))) else (none)) else ((rr_is.f x1000 x1001 x1002 x1003 x1004 (⟨#[40]⟩ : ByteArray)).bind fun bt260 => (if bt260.1 = true then (none) else (if x236000 = 2 then ((ra_num.f k x236001).bind fun t265 => (if x1.length < 1954687338268 then (some ((x1 ++ [(⟨1, t265, (⟨#[]⟩ : ByteArray), (⟨#[]⟩ : ByteArray), (-1), (-1), x236002⟩ : S140)]), wrap64 (bt260.2.1 + 1), bt260.2.2.1, bt260.2.2.2.1, bt260.2.2.2.2)) else (none))) else (if x236000 = 1 then ((rr_qname.f x1000 bt260.2.1 bt260.2.2.1 bt260.2.2.2.1 bt260.2.2.2.2).bind fun bt269 => (if x1.length < 1954687338268 then (some ((x1 ++ [(⟨2, 0, bt269.1, bt269.2.1, (-1), (-1), x236002⟩ : S140)]), bt269.2.2.1, bt269.2.2.2.1, bt269.2.2.2.2.1, bt269.2.2.2.2.2)) else (none))) else (none)))))
def rr_unary.f : Nat → List (S110) → Int → Int → Int → Int → List (S140) → Option ((List (S140)) × Int × Int × Int × Int)
 | 0, _, _, _, _, _, _ => none
 | k + 1, s0_0, s0_1, s0_2, s0_3, s0_4, l1 => if s0_3 = 0 then (if 0 ≤ s0_1 then (if s0_1 < (s0_0.length : Int) then ((rr_is.f s0_0 s0_1 s0_2 s0_3 s0_4 (⟨#[45]⟩ : ByteArray)).bind fun bt236 => (if bt236.1 = true then (rr_unary.j0 k l1 true s0_0 bt236.2.1 bt236.2.2.1 bt236.2.2.2.1 bt236.2.2.2.2 ((rd_T110 s0_0 s0_1).f0) ((rd_T110 s0_0 s0_1).f1) ((rd_T110 s0_0 s0_1).f2)) else ((rr_is.f s0_0 bt236.2.1 bt236.2.2.1 bt236.2.2.2.1 bt236.2.2.2.2 (⟨#[33]⟩ : ByteArray)).bind fun bt241 => (rr_unary.j0 k l1 bt241.1 s0_0 bt241.2.1 bt241.2.2.1 bt241.2.2.2.1 bt241.2.2.2.2 ((rd_T110 s0_0 s0_1).f0) ((rd_T110 s0_0 s0_1).f1) ((rd_T110 s0_0 s0_1).f2))))) else (none)) else (none)) else (none)
end
theorem rr_unary.mono_l : ∀ k, (∀ y0 y1 y2 y3 y4 y5, LeO (rr_unary.f k y0 y1 y2 y3 y4 y5) (rr_unary.f (k + 1) y0 y1 y2 y3 y4 y5)) ∧ (∀ y0 y1 y2 y3 y4 y5 y6 y7 y8 y9, LeO (rr_unary.j0 k y0 y1 y2 y3 y4 y5 y6 y7 y8 y9) (rr_unary.j0 (k + 1) y0 y1 y2 y3 y4 y5 y6 y7 y8 y9))
 | 0 => ⟨fun _ _ _ _ _ _ r h => by simp [rr_unary.f] at h, fun _ _ _ _ _ _ _ _ _ _ r h => by simp [rr_unary.j0] at h⟩
 | k + 1 => by
  obtain ⟨ih0, ih1⟩ := rr_unary.mono_l k
  refine ⟨?_, ?_⟩
  ·
   intro y0 y1 y2 y3 y4 y5
   unfold rr_unary.f
   repeat' with_reducible first | apply ih0 | apply ih1 | apply ra_num.mono | apply rr_open.mono | exact LeO.refl _ | exact LeO.none _ | refine LeO.ite ?_ ?_ | refine LeO.bind ?_ (fun _ => ?_)
  ·
   intro y0 y1 y2 y3 y4 y5 y6 y7 y8 y9
   unfold rr_unary.j0
   repeat' with_reducible first | apply ih0 | apply ih1 | apply ra_num.mono | apply rr_open.mono | exact LeO.refl _ | exact LeO.none _ | refine LeO.ite ?_ ?_ | refine LeO.bind ?_ (fun _ => ?_)
theorem rr_unary.mono : ∀ a0 a1 a2 a3 a4 a5 k, LeO (rr_unary.f k a0 a1 a2 a3 a4 a5) (rr_unary.f (k + 1) a0 a1 a2 a3 a4 a5) := by
 intro a0 a1 a2 a3 a4 a5 k
 obtain ⟨ih0, ih1⟩ := rr_unary.mono_l k
 exact ih0 a0 a1 a2 a3 a4 a5
def rr_unary.T3 : Bool × List (List Nat × List Nat) := (true, [([], []), ([0], [0]), ([1], [1]), ([2], [2]), ([], []), ([4], [4]), ([5], [5]), ([6], [6]), ([3, 7], [3, 7]), ([8], [8]), ([], []), ([10, 9, 0, 1, 2, 3, 4, 5, 6, 7, 8, 9, 10], [9, 10])])
def rr_unary.B3 : List Nat := [0, 1, 3, 7, 0, 16, 48, 112, 255, 511, 0, 2047]
theorem rr_unary.tab3 : rtab .any (opsOf Try.f95 3) = rr_unary.T3 := by kernel_rfl
theorem rr_unary.bits3 : waitsOk rr_unary.T3.2 rr_unary.B3 = true := by kernel_rfl
def rr_unary.T20 : Bool × List (List Nat × List Nat) := (true, [([], []), ([], []), ([1], [1]), ([2], [2]), ([], []), ([4], [4]), ([3, 5], [3, 5]), ([6], [6]), ([0, 7, 3], [0, 7]), ([8, 8, 0, 1, 2, 3, 4, 5, 6, 7, 8], [8])])
def rr_unary.B20 : List Nat := [0, 0, 2, 6, 0, 16, 62, 126, 255, 511]
theorem rr_unary.tab20 : rtab .any (opsOf Try.f95 20) = rr_unary.T20 := by kernel_rfl
theorem rr_unary.bits20 : waitsOk rr_unary.T20.2 rr_unary.B20 = true := by kernel_rfl
set_option maxHeartbeats 8000000 in
set_option maxRecDepth 100000 in
theorem rr_unary.calls (k : Nat) : ∀ (g : Nat) (s0_0 : List (S110)) (s0_1 : Int) (s0_2 : Int) (s0_3 : Int) (s0_4 : Int) (P1_ : Nat → Prop) (u9000_ : Value) (l1 : List (S140)) (r1 : List (S140)) (r2 : Int) (r3 : Int) (r4 : Int) (r5 : Int) (w0 w : World) (hI : IsS83 w0 w g s0_0 s0_1 s0_2 s0_3 s0_4) (hB : Below w0.heap.size w0 w) (ho1 : Kd.R k140 140 w w0.heap.size P1_ u9000_ l1) (h : rr_unary.f k s0_0 s0_1 s0_2 s0_3 s0_4 l1 = some (r1, r2, r3, r4, r5)),
  Calls Try.prog 95 #[.pointer (some ⟨g, 0, none⟩), u9000_] w fun e w' => ∃ v0_ : Value, e = .returned (v0_) ∧ Kd.R k140 140 w' w0.heap.size (fun k_ => (P1_ k_ ∨ w.heap.size ≤ k_)) v0_ r1 ∧ IsS83 w0 w' g s0_0 r2 r3 r4 r5 ∧ Below w0.heap.size w0 w' ∧ Kept w w' (fun k_ => (P1_ k_) ∨ k_ = g) := by
 induction k using Nat.strongRecOn with
 | _ k ih =>
 intro g s0_0 s0_1 s0_2 s0_3 s0_4 P1_ u9000_ l1 r1 r2 r3 r4 r5 w0 w hI hB ho1 h
 cases k with
 | zero => exact absurd h (by simp [rr_unary.f])
 | succ k =>
 simp only [rr_unary.f] at h
 have hu110 := Try.underlying110
 have hu140 := Try.underlying140
 have HO1 := za (show Kd.R k140 140 w w0.heap.size (fun k_ => (P1_ k_ ∨ w.heap.size ≤ k_)) u9000_ l1 from Kd.R_mono ho1 (fun k_ hk => (.inl hk)))
 have HI0 := za hI
 have HL := za hB.size
 clear hI
 have HK := za (Kept.refl w (fun k_ => (P1_ k_) ∨ k_ = g))
 have HW0 := za hB.size
 have HB := za hB
 clear hB
 have H : (if s0_3 = 0 then (if 0 ≤ s0_1 then (if s0_1 < (s0_0.length : Int) then ((rr_is.f s0_0 s0_1 s0_2 s0_3 s0_4 (⟨#[45]⟩ : ByteArray)).bind fun bt236 => (if bt236.1 = true then (rr_unary.j0 k l1 true s0_0 bt236.2.1 bt236.2.2.1 bt236.2.2.2.1 bt236.2.2.2.2 ((rd_T110 s0_0 s0_1).f0) ((rd_T110 s0_0 s0_1).f1) ((rd_T110 s0_0 s0_1).f2)) else ((rr_is.f s0_0 bt236.2.1 bt236.2.2.1 bt236.2.2.2.1 bt236.2.2.2.2 (⟨#[33]⟩ : ByteArray)).bind fun bt241 => (rr_unary.j0 k l1 bt241.1 s0_0 bt241.2.1 bt241.2.2.1 bt241.2.2.2.1 bt241.2.2.2.2 ((rd_T110 s0_0 s0_1).f0) ((rd_T110 s0_0 s0_1).f1) ((rd_T110 s0_0 s0_1).f2))))) else (none)) else (none)) else (none)) = some (r1, r2, r3, r4, r5) := h
 clear h
 by_cases c3 : s0_3 = 0
 ·
  rw [if_pos c3] at H
  have c3b0 := beq_iff_eq.mpr c3
  have c3b1 := bne_eq_false_iff_eq.mpr c3
  clear c3
  by_cases c4 : 0 ≤ s0_1
  ·
   rw [if_pos c4] at H
   have c4b0 := decide_eq_true c4
   clear c4
   by_cases c5 : s0_1 < (s0_0.length : Int)
   ·
    rw [if_pos c5] at H
    have c5b0 := decide_eq_true c5
    clear c5
    have HC6 := za H
    clear H
    obtain ⟨ASz7_0, cSz7_0, HGz7, hgz7, HSz7_0⟩ := HI0.out
    have hcz7_0 := cellS83_0 HGz7
    have hcz7_1 := cellS83_1 HGz7
    have hcz7_2 := cellS83_2 HGz7
    have hcz7_3 := cellS83_3 HGz7
    have hcz7_4 := cellS83_4 HGz7
    have hfz7_1 := blk_frozen HGz7 1
    have hfz7_2 := blk_frozen HGz7 2
    have hfz7_3 := blk_frozen HGz7 3
    have hfz7_4 := blk_frozen HGz7 4
    clear HGz7 hgz7
    go_enter Try.func95, Try.ntmps95
    try go_wp2
    replace HO1 := za (Kd.R_drew HO1.out)
    replace HI0 := za (IsS83.drew HI0.out)
    replace HK := za (Kept.drew HK.out)
    replace HB := za (below_drew1 HB.out)
    obtain ⟨ASz9_0, cSz9_0, HGz9, hgz9, HSz9_0⟩ := HI0.out
    have hx9_0 := cellS83_0 HGz9
    have hx9_1 := cellS83_1 HGz9
    have hx9_2 := cellS83_2 HGz9
    have hx9_3 := cellS83_3 HGz9
    have hx9_4 := cellS83_4 HGz9
    clear HGz9 hgz9
    have p234 : 0 ≤ (s0_1 : Int) := of_decide_eq_true zq10
    have q234 : s0_1 < (s0_0.length : Int) := of_decide_eq_true zq10
    obtain ⟨ad234, e234, hx234_0, hx234_1, hx234_2⟩ := at_T110 HSz9_0 s0_1 p234 q234
    have hw234_2 := hx234_2
    have hw234_1 := hx234_1
    have hw234_0 := hx234_0
    cases e234
    replace hx234_0 := pw_cell_below HB.out hx234_0
    replace hx234_1 := pw_cell_below HB.out hx234_1
    replace hx234_2 := pw_cell_below HB.out hx234_2
    replace p234 := eq_true p234
    replace q234 := eq_true q234
    refine start_ (n := 12) (S := fun w' => w'.cell? ⟨g, 0, none⟩ = some (.slice (some ad234) s0_0.length cSz9_0) ∧ w'.cell? ⟨g, 1, none⟩ = some (.int .i64 s0_1) ∧ w'.cell? ⟨g, 2, none⟩ = some (.int .i64 s0_2) ∧ w'.cell? ⟨g, 3, none⟩ = some (.int .i64 s0_3) ∧ w'.cell? ⟨g, 4, none⟩ = some (.int .i64 s0_4) ∧ w'.cell? (ad234.add ((s0_1).toNat * 3)) = some (.int .i64 ((rd_T110 s0_0 s0_1).f0)) ∧ w'.cell? ⟨(ad234.add ((s0_1).toNat * 3)).block, (ad234.add ((s0_1).toNat * 3)).off + 1, none⟩ = some (.string ((rd_T110 s0_0 s0_1).f1)) ∧ w'.cell? ⟨(ad234.add ((s0_1).toNat * 3)).block, (ad234.add ((s0_1).toNat * 3)).off + 2, none⟩ = some (.int .i64 ((rd_T110 s0_0 s0_1).f2))) (ds := [11]) #[false, false, false, false, false, false, false, false, false, false, false, false] zq13 rfl rfl ⟨hx9_0, hx9_1, hx9_2, hx9_3, hx9_4, hx234_0, hx234_1, hx234_2⟩ (fun hHeld => ?_); refine with_tabW rr_unary.tab3 rr_unary.bits3 (fun HT_ HW_ => ?_)
    generalize w.drew = w8 at HO1 HI0 HK HB hx234_0 hx234_1 hx234_2 hx9_0 hx9_1 hx9_2 hx9_3 hx9_4 hHeld ⊢
    refine pure_ (i := 0) (N := some 15) #[true, false, false, false, false, false, false, false, false, false, false, false] rfl rfl (any_of HT_.out zq13) (fun _ _ _ h => h) (Or.inl ⟨by rfl, zpv⟩) zpw ?_
    refine pure_ (i := 1) (N := some 16) #[true, true, false, false, false, false, false, false, false, false, false, false] rfl rfl (any_of HT_.out zq13) (fun _ _ _ h => h) (Or.inl ⟨by rfl, zpv⟩) zpw ?_
    refine pure_ (i := 2) (N := some 17) #[true, true, true, false, false, false, false, false, false, false, false, false] rfl rfl (any_of HT_.out zq13) (fun _ _ _ h => h) (Or.inl ⟨by rfl, zpv⟩) zpw ?_
    refine pure_ (i := 4) (N := some 19) #[true, true, true, false, true, false, false, false, false, false, false, false] rfl rfl (any_of HT_.out zq13) (fun _ _ _ h => h) (Or.inl ⟨by rfl, zpv⟩) zpw ?_
    refine pure_ (i := 5) (N := some 20) #[true, true, true, false, true, true, false, false, false, false, false, false] rfl rfl (any_of HT_.out zq13) (fun _ _ _ h => h) (Or.inl ⟨by rfl, zpv⟩) zpw ?_
    refine pure_ (i := 6) (N := some 21) #[true, true, true, false, true, true, true, false, false, false, false, false] rfl rfl (any_of HT_.out zq13) (fun _ _ _ h => h) (Or.inl ⟨by rfl, zpv⟩) zpw ?_
    refine take_ (i := 3) (N := some 18) (v := ?_) (a' := ?_) #[true, true, true, true, true, true, true, false, false, false, false, false] rfl rfl (take_ofW HT_.out HW_.out zq13) (fun _ _ _ h => h) (Or.inl ⟨by rfl, ?_⟩) hHeld ?_ ?_
    rotate_left
    ·
     rintro w' ⟨s0, s1, s2, s3, s4, s5, s6, s7⟩
     go_simp
     with_reducible rfl
    rotate_left
    ·
     simp only [Act.put, List.setIfInBounds_toArray, List.set_cons_zero, List.set_cons_succ, i64_w, i32_w]
     rfl
    refine take_ (i := 7) (N := some 22) (v := ?_) (a' := ?_) #[true, true, true, true, true, true, true, true, false, false, false, false] rfl rfl (take_ofW HT_.out HW_.out zq13) (fun _ _ _ h => h) (Or.inl ⟨by rfl, ?_⟩) hHeld ?_ ?_
    rotate_left
    ·
     rintro w' ⟨s0, s1, s2, s3, s4, s5, s6, s7⟩
     go_simp
     with_reducible rfl
    rotate_left
    ·
     simp only [Act.put, List.setIfInBounds_toArray, List.set_cons_zero, List.set_cons_succ, i64_w, i32_w]
     rfl
    refine pure_ (i := 8) (N := some 23) #[true, true, true, true, true, true, true, true, true, false, false, false] rfl rfl (any_of HT_.out zq13) (fun _ _ _ h => h) (Or.inl ⟨by rfl, zpv⟩) zpw ?_
    refine take_ (i := 9) (N := some 24) (v := ?_) (a' := ?_) #[true, true, true, true, true, true, true, true, true, true, false, false] rfl rfl (take_ofW HT_.out HW_.out zq13) (fun _ _ _ h => h) (Or.inl ⟨by rfl, ?_⟩) hHeld ?_ ?_
    rotate_left
    ·
     rintro w' ⟨s0, s1, s2, s3, s4, s5, s6, s7⟩
     go_simp
     with_reducible rfl
    rotate_left
    ·
     simp only [Act.put, List.setIfInBounds_toArray, List.set_cons_zero, List.set_cons_succ, i64_w, i32_w]
     rfl
    refine one_ (i := 10) (N := some 5) #[true, true, true, true, true, true, true, true, true, true, true, false] rfl rfl (one_of HT_.out zq13) (by decide) (fun K hK => ?_)
    refine box_step ?hg (N := 5) ?hd (cs := #[.int .i64 0, .string (⟨#[]⟩ : ByteArray), .int .i64 0]) (t := 110) ?hr ?_; (case hd => rfl); (case hg => rfl); (case hr => exact zq19)
    intro gb235 hg w10 hbox hb
    have HS0_ := (hb.cell (World.block_lt_of_cell? _ _ (hHeld.1))).trans (hHeld.1)
    have HS1_ := (hb.cell (World.block_lt_of_cell? _ _ (hHeld.2.1))).trans (hHeld.2.1)
    have HS2_ := (hb.cell (World.block_lt_of_cell? _ _ (hHeld.2.2.1))).trans (hHeld.2.2.1)
    have HS3_ := (hb.cell (World.block_lt_of_cell? _ _ (hHeld.2.2.2.1))).trans (hHeld.2.2.2.1)
    have HS4_ := (hb.cell (World.block_lt_of_cell? _ _ (hHeld.2.2.2.2.1))).trans (hHeld.2.2.2.2.1)
    have HS5_ := (hb.cell (World.block_lt_of_cell? _ _ (hHeld.2.2.2.2.2.1))).trans (hHeld.2.2.2.2.2.1)
    have HS6_ := (hb.cell (World.block_lt_of_cell? _ _ (hHeld.2.2.2.2.2.2.1))).trans (hHeld.2.2.2.2.2.2.1)
    have HS7_ := (hb.cell (World.block_lt_of_cell? _ _ (hHeld.2.2.2.2.2.2.2))).trans (hHeld.2.2.2.2.2.2.2)
    replace HO1 := za (Kd.R_below (zr HO1.out) hb)
    have BK235 := za (hbox)
    have GW235 := za ((by rw [hg]; exact zq35 : w.heap.size ≤ gb235))
    replace HK := za (Kept.below (S := (fun k_ => (P1_ k_) ∨ k_ = g)) zq14 hb)
    have GE235 := za ((by rw [hg]; exact (below_size zq4) : w0.heap.size ≤ gb235))
    replace HB := za (below_step zq4 hb)
    have NB0_235 := za ((by rw [hg]; exact Nat.ne_of_lt (IsS83.lt (show IsS83 w0 _ g s0_0 s0_1 s0_2 s0_3 s0_4 from zq0)) : g ≠ gb235))
    have NB235_0 := za ((by rw [hg]; exact Nat.ne_of_gt (IsS83.lt (show IsS83 w0 _ g s0_0 s0_1 s0_2 s0_3 s0_4 from zq0)) : gb235 ≠ g))
    replace HI0 := za (IsS83.below zq0 hb)
    clear hb hbox hg
    refine hK.out _ _ ⟨HS0_, HS1_, HS2_, HS3_, HS4_, HS5_, HS6_, HS7_⟩ (fun hHeld => ?_)
    clear hK K
    refine norm_ (a' := ?_) ?_ ?_
    rotate_left
    ·
     show Act.put _ (some 5) _ = _
     simp only [Act.put, List.setIfInBounds_toArray, List.set_cons_zero, List.set_cons_succ, i64_w, i32_w]
     rfl
    refine last_ (i := 11) (N := none) #[true, true, true, true, true, true, true, true, true, true, true, true] rfl rfl (one_of HT_.out zq13) (by decide) (fun K hK => ?_)
    have hs11 : w10.cell? ⟨gb235, 0, none⟩ = some (.int .i64 0) := (blk_cell BK235.out 0).trans rfl
    have hfs11 := blk_frozen BK235.out 0
    have hs12 : w10.cell? ⟨gb235, 1, none⟩ = some (.string (⟨#[]⟩ : ByteArray)) := (blk_cell BK235.out 1).trans rfl
    have hfs12 := blk_frozen BK235.out 1
    have hs13 : w10.cell? ⟨gb235, 2, none⟩ = some (.int .i64 0) := (blk_cell BK235.out 2).trans rfl
    have hfs13 := blk_frozen BK235.out 2
    refine skip_ (w1 := ?_) (by rfl) rfl ?_ ?_
    rotate_left
    ·
     go_simp
     rfl
    refine hK.out _ _ ?_
    clear hK K
    refine done_ (done_of HT_.out zq13) ?_
    go_upto_region 4 with (fail)
    go_cut [25] (fun v25 wc => ∃ (kq : Nat) (x25_5 : Bool) (x1001_5 : Int) (x1002_5 : Int) (x1003_5 : Int) (x1004_5 : Int), v25 = .bool x25_5 ∧ Aside0 (rr_unary.j0 kq l1 x25_5 s0_0 x1001_5 x1002_5 x1003_5 x1004_5 ((rd_T110 s0_0 s0_1).f0) ((rd_T110 s0_0 s0_1).f1) ((rd_T110 s0_0 s0_1).f2) = some (r1, r2, r3, r4, r5)) ∧ Aside0 (kq ≤ k) ∧ Aside0 (Kd.R k140 140 wc w0.heap.size (fun k_ => (P1_ k_ ∨ w.heap.size ≤ k_)) u9000_ l1) ∧ Aside0 (wc.heap[gb235]? = some (.cells #[.int .i64 ((rd_T110 s0_0 s0_1).f0), .string ((rd_T110 s0_0 s0_1).f1), .int .i64 ((rd_T110 s0_0 s0_1).f2)] 110 (0, 0))) ∧ Aside0 (IsS83 w0 wc g s0_0 x1001_5 x1002_5 x1003_5 x1004_5) ∧ Aside0 (Kept w wc (fun k_ => (P1_ k_) ∨ k_ = g)) ∧ Aside0 (Below w0.heap.size w0 wc))
    case first =>
     have H := HC6.out
     clear HC6
     replace H := Option.bind_eq_some_iff.mp H
     obtain ⟨⟨t236, t237, t238, t239, t240⟩, A140, H⟩ := H
     (try dsimp only at H)
     have A14 := za A140
     clear A140
     by_cases c15 : t236 = true
     ·
      subst c15
      rw [if_pos rfl] at H
      have H' := za H
      clear H
      go_wp2_with (first | ((with_reducible refine gate_callee (f := 54) rfl ?_); refine goesL_ (some 27) rfl rfl Try.func54 zq13 rfl #[.pointer (some ⟨g, 0, none⟩), .string (⟨#[45]⟩ : ByteArray)] rfl zq2 ?_; (with_reducible refine (rr_is.calls g s0_0 s0_1 s0_2 s0_3 s0_4 (⟨#[45]⟩ : ByteArray) true t237 t238 t239 t240 w0 _ ?side1 ?side2 A14.out).mono ?_); (case side1 => exact zq12); (case side2 => exact zq20); rintro e w16 ⟨rfl, hi, hb, hk⟩; refine ⟨_, rfl, ?_⟩; replace HO1 := za (Kd.R_mono (Kd.R_keep (IsS83.apart (show IsS83 w0 _ g s0_0 s0_1 s0_2 s0_3 s0_4 from zq12) (by (with_reducible repeat (first | apply Kd.R_alloc | apply Kd.R_drewN | apply Kd.R_drew)); exact (Kd.R_mono (Kd.R_far (p := ⟨gb235, 2, none⟩) (Kd.R_far (p := ⟨gb235, 1, none⟩) (Kd.R_far (p := ⟨gb235, 0, none⟩) (Kd.R_types HO1.out BK235.out (by decide)) (fun _ hk => hk.2) (.int .i64 ((rd_T110 s0_0 s0_1).f0))) (fun _ hk => hk.2) (.string ((rd_T110 s0_0 s0_1).f1))) (fun _ hk => hk.2) (.int .i64 ((rd_T110 s0_0 s0_1).f2))) (fun _ h_ => h_.1))) (by decide)) hk (fun _ h => h.2)) (fun _ h => h.1)); replace BK235 := za (KeepBut.blk hk (g' := gb235) (o := .cells #[.int .i64 ((rd_T110 s0_0 s0_1).f0), .string ((rd_T110 s0_0 s0_1).f1), .int .i64 ((rd_T110 s0_0 s0_1).f2)] 110 (0, 0)) (by (with_reducible repeat (first | refine blk_drewN ?_ _ | refine blk_drew ?_ | refine blk_alloc ?_ _)); refine blk_put (cs := #[.int .i64 ((rd_T110 s0_0 s0_1).f0), .string ((rd_T110 s0_0 s0_1).f1), .int .i64 0]) ?_ 2 _ rfl; (with_reducible repeat (first | refine blk_drewN ?_ _ | refine blk_drew ?_ | refine blk_alloc ?_ _)); refine blk_put (cs := #[.int .i64 ((rd_T110 s0_0 s0_1).f0), .string (⟨#[]⟩ : ByteArray), .int .i64 0]) ?_ 1 _ rfl; (with_reducible repeat (first | refine blk_drewN ?_ _ | refine blk_drew ?_ | refine blk_alloc ?_ _)); refine blk_put (cs := #[.int .i64 0, .string (⟨#[]⟩ : ByteArray), .int .i64 0]) ?_ 0 _ rfl; (with_reducible repeat (first | refine blk_drewN ?_ _ | refine blk_drew ?_ | refine blk_alloc ?_ _)); exact BK235.out) NB235_0.out (by simp)); replace HK := za (Kept.of_keep (S := (fun k_ => (P1_ k_) ∨ k_ = g)) zq17 hk (.inl (.inr rfl))); replace HB := za (hb); replace HI0 := za (hi); (try clear hb hk hi)))
      go_meet
      case rel => exact ⟨_, (true), (t237), (t238), (t239), (t240), zq22, H', ⟨zq119⟩, ⟨by (with_reducible repeat (first | apply Kd.R_alloc | apply Kd.R_drewN | apply Kd.R_drew)); exact HO1.out⟩, ⟨zq127⟩, ⟨zq12⟩, ⟨zq17⟩, ⟨zq20⟩⟩
     ·
      replace c15 := Bool.eq_false_iff.mpr c15
      subst c15
      rw [if_neg (show ¬ (false = true) by decide)] at H
      replace H := Option.bind_eq_some_iff.mp H
      obtain ⟨⟨t241, t242, t243, t244, t245⟩, A170, H⟩ := H
      (try dsimp only at H)
      have A17 := za A170
      clear A170
      have H' := za H
      clear H
      go_wp2_with (first | ((with_reducible refine gate_callee (f := 54) rfl ?_); refine goesL_ (some 27) rfl rfl Try.func54 zq13 rfl #[.pointer (some ⟨g, 0, none⟩), .string (⟨#[45]⟩ : ByteArray)] rfl zq2 ?_; (with_reducible refine (rr_is.calls g s0_0 s0_1 s0_2 s0_3 s0_4 (⟨#[45]⟩ : ByteArray) false t237 t238 t239 t240 w0 _ ?side1 ?side2 A14.out).mono ?_); (case side1 => exact zq12); (case side2 => exact zq20); rintro e w18 ⟨rfl, hi, hb, hk⟩; refine ⟨_, rfl, ?_⟩; replace HO1 := za (Kd.R_mono (Kd.R_keep (IsS83.apart (show IsS83 w0 _ g s0_0 s0_1 s0_2 s0_3 s0_4 from zq12) (by (with_reducible repeat (first | apply Kd.R_alloc | apply Kd.R_drewN | apply Kd.R_drew)); exact (Kd.R_mono (Kd.R_far (p := ⟨gb235, 2, none⟩) (Kd.R_far (p := ⟨gb235, 1, none⟩) (Kd.R_far (p := ⟨gb235, 0, none⟩) (Kd.R_types HO1.out BK235.out (by decide)) (fun _ hk => hk.2) (.int .i64 ((rd_T110 s0_0 s0_1).f0))) (fun _ hk => hk.2) (.string ((rd_T110 s0_0 s0_1).f1))) (fun _ hk => hk.2) (.int .i64 ((rd_T110 s0_0 s0_1).f2))) (fun _ h_ => h_.1))) (by decide)) hk (fun _ h => h.2)) (fun _ h => h.1)); replace BK235 := za (KeepBut.blk hk (g' := gb235) (o := .cells #[.int .i64 ((rd_T110 s0_0 s0_1).f0), .string ((rd_T110 s0_0 s0_1).f1), .int .i64 ((rd_T110 s0_0 s0_1).f2)] 110 (0, 0)) (by (with_reducible repeat (first | refine blk_drewN ?_ _ | refine blk_drew ?_ | refine blk_alloc ?_ _)); refine blk_put (cs := #[.int .i64 ((rd_T110 s0_0 s0_1).f0), .string ((rd_T110 s0_0 s0_1).f1), .int .i64 0]) ?_ 2 _ rfl; (with_reducible repeat (first | refine blk_drewN ?_ _ | refine blk_drew ?_ | refine blk_alloc ?_ _)); refine blk_put (cs := #[.int .i64 ((rd_T110 s0_0 s0_1).f0), .string (⟨#[]⟩ : ByteArray), .int .i64 0]) ?_ 1 _ rfl; (with_reducible repeat (first | refine blk_drewN ?_ _ | refine blk_drew ?_ | refine blk_alloc ?_ _)); refine blk_put (cs := #[.int .i64 0, .string (⟨#[]⟩ : ByteArray), .int .i64 0]) ?_ 0 _ rfl; (with_reducible repeat (first | refine blk_drewN ?_ _ | refine blk_drew ?_ | refine blk_alloc ?_ _)); exact BK235.out) NB235_0.out (by simp)); replace HK := za (Kept.of_keep (S := (fun k_ => (P1_ k_) ∨ k_ = g)) zq17 hk (.inl (.inr rfl))); replace HB := za (hb); replace HI0 := za (hi); (try clear hb hk hi)) | ((with_reducible refine gate_callee (f := 54) rfl ?_); (with_reducible refine gate_dst (N := 30) rfl ?_); (refine gate_guard (by rfl) ?_; dsimp only); refine goesL_ (some 30) rfl rfl Try.func54 zq13 rfl #[.pointer (some ⟨g, 0, none⟩), .string (⟨#[33]⟩ : ByteArray)] rfl zq2 ?_; (with_reducible refine (rr_is.calls g s0_0 t237 t238 t239 t240 (⟨#[33]⟩ : ByteArray) t241 t242 t243 t244 t245 w0 _ ?side1 ?side2 A17.out).mono ?_); (case side1 => exact zq12); (case side2 => exact zq20); rintro e w19 ⟨rfl, hi, hb, hk⟩; refine ⟨_, rfl, ?_⟩; replace HO1 := za (Kd.R_mono (Kd.R_keep (IsS83.apart (show IsS83 w0 _ g s0_0 t237 t238 t239 t240 from zq12) (zr HO1.out) (by decide)) hk (fun _ h => h.2)) (fun _ h => h.1)); replace BK235 := za (KeepBut.blk hk (g' := gb235) (zb BK235.out) NB235_0.out (by simp)); replace HK := za (Kept.of_keep (S := (fun k_ => (P1_ k_) ∨ k_ = g)) zq17 hk (.inl (.inr rfl))); replace HB := za (hb); replace HI0 := za (hi); (try clear hb hk hi)))
      go_meet
      case rel => exact ⟨_, (t241), (t242), (t243), (t244), (t245), zq22, H', ⟨zq119⟩, ⟨by (with_reducible repeat (first | apply Kd.R_alloc | apply Kd.R_drewN | apply Kd.R_drew)); exact HO1.out⟩, ⟨zq127⟩, ⟨zq12⟩, ⟨zq17⟩, ⟨zq20⟩⟩
    case rest =>
     clear HC6
     obtain ⟨kq, x25_5, x1001_5, x1002_5, x1003_5, x1004_5, rfl, HA, HJ5, HO_1, BK235, HI0, HK, HB⟩ := hcut
     cases kq with
     | zero => exact absurd HA.out (by simp [rr_unary.j0])
     | succ kj5 =>
      have H := HA.out
      clear HA
      simp only [rr_unary.j0] at H
      by_cases c20 : x25_5 = true
      ·
       subst c20
       rw [if_pos rfl] at H
       by_cases c21 : ((rd_T110 s0_0 s0_1).f1).toList = ([33] : List UInt8)
       ·
        rw [if_pos c21] at H
        have c21b0 := beq_iff_eq.mpr c21
        have c21b1 := bne_eq_false_iff_eq.mpr c21
        clear c21
        replace H := Option.bind_eq_some_iff.mp H
        obtain ⟨⟨t246, t247, t248, t249⟩, A220, H⟩ := H
        (try dsimp only at H)
        have A22 := za A220
        clear A220
        replace H := Option.bind_eq_some_iff.mp H
        obtain ⟨⟨t250, t253, t254, t255, t256⟩, A230, H⟩ := H
        (try dsimp only at H)
        have A23 := za A230
        clear A230
        by_cases c24 : t250.length < 1954687338268
        ·
         rw [if_pos c24] at H
         have LMc24 := za c24
         clear c24
         obtain ⟨y257, hy257⟩ : ∃ y_ : List (S140), y_ = (t250 ++ [(⟨4, 0, (⟨#[]⟩ : ByteArray), (⟨#[]⟩ : ByteArray), wrap64 ((t250.length : Int) - 1), (-1), ((rd_T110 s0_0 s0_1).f2)⟩ : S140)]) := ⟨_, rfl⟩
         replace H : (some (y257, t253, wrap64 (t254 - 1), t255, t256)) = some (r1, r2, r3, r4, r5) := by first | (rw [hy257]; with_reducible exact H) | (have H2_ := (Option.bind_some _ _).symm.trans H; rw [hy257]; with_reducible exact H2_) | (have H2_ := (Option.bind_some _ _).symm.trans H; with_reducible exact H2_) | with_reducible exact H | (rw [hy257]; exact H) | exact H
         have Ny257 := za hy257
         clear hy257
         simp only [Option.some.injEq, Prod.mk.injEq] at H
         obtain ⟨rfl, rfl, rfl, rfl, rfl⟩ := H
         have hnb25 := NB235_0.out
         have hnc25 := NB0_235.out
         obtain ⟨hcz26_0, hcz26_1, hcz26_2⟩ := zc3 BK235.out
         obtain ⟨hfz26_0, hfz26_1, hfz26_2⟩ := zf3 BK235.out
         go_wp2_with (first | ((with_reducible refine gate_callee (f := 66) rfl ?_); refine goesL_ (some 38) rfl rfl Try.func66 zq13 rfl #[.pointer (some ⟨g, 0, none⟩), .string ((rd_T110 s0_0 s0_1).f1)] rfl zq2 ?_; (with_reducible refine (rr_open.calls kj5 g s0_0 x1001_5 x1002_5 x1003_5 x1004_5 ((rd_T110 s0_0 s0_1).f1) t246 t247 t248 t249 w0 _ ?side1 ?side2 A22.out).mono ?_); (case side1 => exact zq12); (case side2 => exact zq20); rintro e w27 ⟨rfl, hi, hb, hk⟩; refine ⟨_, rfl, ?_⟩; replace HO_1 := za (Kd.R_mono (Kd.R_keep (IsS83.apart (show IsS83 w0 _ g s0_0 x1001_5 x1002_5 x1003_5 x1004_5 from zq12) (zr HO_1.out) (by decide)) hk (fun _ h => h.2)) (fun _ h => h.1)); replace BK235 := za (KeepBut.blk hk (g' := gb235) (zb BK235.out) NB235_0.out (by simp)); replace HK := za (Kept.of_keep (S := (fun k_ => (P1_ k_) ∨ k_ = g)) zq17 hk (.inl (.inr rfl))); replace HB := za (hb); replace HI0 := za (hi); (try clear hb hk hi); obtain ⟨Ao28, co28, eo28⟩ := Kd.R_slice HO_1.out; subst eo28) | ((with_reducible refine gate_callee (f := 95) rfl ?_); refine goesL_ (some 41) rfl rfl Try.func95 zq13 rfl #[.pointer (some ⟨g, 0, none⟩), .slice Ao28 l1.length co28] rfl zq2 ?_; (with_reducible refine (ih kj5 (by have := HJ5.out; omega) g s0_0 t246 t247 t248 t249 (fun k_ => some k_ = (.slice Ao28 l1.length co28 : Value).ownBlock) (.slice Ao28 l1.length co28) l1 t250 t253 t254 t255 t256 w0 _ ?side1 ?side2 ?side3 A23.out).mono ?_); (case side1 => exact zq12); (case side2 => exact zq20); (case side3 => exact Kd.R_tight rfl HO_1.out); rintro e w29 ⟨v251, rfl, ho0, hi, hb, hkp⟩; refine ⟨_, rfl, ?_⟩; replace BK235 := za (blk_kept (zb BK235.out) hkp (fun hs_ => Or.elim hs_ (fun hs_ => (fun e_ => (Kd.R_ne HO_1.out BK235.out (by decide)) e_) hs_) (fun e_ => NB235_0.out e_))); replace HI0 := za (hi); have HO252 := za (Kd.R_mono (ok' := fun k_ => (P1_ k_ ∨ w.heap.size ≤ k_)) ho0 (fun k_ hk_ => Or.elim hk_ (fun hs_ => (HO_1.out.1 k_ (hs_).symm)) (fun hn_ => (.inr (Nat.le_trans zq64 hn_))))); replace HK := za (Kept.then_ (S := (fun k_ => (P1_ k_) ∨ k_ = g)) zq17 hkp (fun k_ hs_ => Or.elim hs_ (fun hs_ => (fun e_ => Or.imp_left Or.inl ((HO_1.out.1 k_ e_.symm))) hs_) (fun e_ => .inl (.inr e_)))); replace HB := za (hb); clear HO_1; (try clear hb hkp ho0); obtain ⟨ASz30_0, cSz30_0, HGz30, hgz30, HSz30_0⟩ := HI0.out; have hcz30_0 := cellS83_0 HGz30; have hcz30_1 := cellS83_1 HGz30; have hcz30_2 := cellS83_2 HGz30; have hcz30_3 := cellS83_3 HGz30; have hcz30_4 := cellS83_4 HGz30; have hfz30_1 := blk_frozen HGz30 1; have hfz30_2 := blk_frozen HGz30 2; have hfz30_3 := blk_frozen HGz30 3; have hfz30_4 := blk_frozen HGz30 4; clear HGz30 hgz30; obtain ⟨Ao31, co31, eo31⟩ := Kd.R_slice HO252.out; subst eo31; obtain ⟨hcz32_0, hcz32_1, hcz32_2⟩ := zc3 BK235.out; obtain ⟨hfz32_0, hfz32_1⟩ := zf2 BK235.out; have hfz32_2 := blk_frozen BK235.out 2) | ((with_reducible refine gate_builtin (b := .append) (xs := #[.tmp 49, .tmp 57]) rfl ?_); at_builtin; refine Kd.R_append k140 (w0 := w0) w0.heap.size rfl (.tmp 49) (.tmp 57) 88 140 (.agg #[(.int .i64 0), (.int .i64 0), (.string ⟨#[]⟩), (.string ⟨#[]⟩), (.int .i64 0), (.int .i64 0), (.int .i64 0)]) 72 rfl Try.underlying88 info140 rfl (by decide) (by omega) (.slice Ao31 t250.length co31) t250 (⟨4, 0, (⟨#[]⟩ : ByteArray), (⟨#[]⟩ : ByteArray), wrap64 ((t250.length : Int) - 1), (-1), ((rd_T110 s0_0 s0_1).f2)⟩ : S140) [.int .i64 4, .int .i64 0, .string (⟨#[]⟩ : ByteArray), .string (⟨#[]⟩ : ByteArray), .int .i64 (wrap64 ((t250.length : Int) - 1)), .int .i64 (-1), .int .i64 ((rd_T110 s0_0 s0_1).f2)] (fun k_ => (P1_ k_ ∨ w.heap.size ≤ k_)) (fun _ => False) rfl zq19 ?aP (fun _ hk => hk.elim) ?aF ?aO ?aB ?aS ?aL ?_; (case aP => exact k140_mkM _ _ _ (⟨4, 0, (⟨#[]⟩ : ByteArray), (⟨#[]⟩ : ByteArray), wrap64 ((t250.length : Int) - 1), (-1), ((rd_T110 s0_0 s0_1).f2)⟩ : S140)); (case aB => exact zq20); (case aF => exact (fun k_ hk => (.inr (Nat.le_trans (show Kept w _ (fun k_ => (P1_ k_) ∨ k_ = g) from zq17).1 hk)))); (case aO => exact (by (with_reducible repeat (first | apply Kd.R_alloc | apply Kd.R_drewN | apply Kd.R_drew)); exact Kd.R_mono (Kd.R_far (p := ⟨g, 2, none⟩) (IsS83.apart HI0.out HO252.out (by decide)) (fun _ hk => hk.2) (.int .i64 (wrap64 (t254 - 1)))) (fun _ hk => hk.1))); (case aS => exact (below_size zq20)); (case aL => have := LMc24.out; omega); intro v258 w33 ho hb hg hat; rw [← Ny257.out] at ho; replace BK235 := za (blk_grown (g := gb235) (o := .cells #[.int .i64 ((rd_T110 s0_0 s0_1).f0), .string ((rd_T110 s0_0 s0_1).f1), .int .i64 ((rd_T110 s0_0 s0_1).f2)] 110 (0, 0)) zq87 hg (Kd.R_ne HO252.out BK235.out (by decide))); replace HI0 := za (IsS83.grown zq12 hg (IsS83.own_ne HI0.out HO252.out (by decide))); replace HB := za (hb); replace HK := za (Kept.of_grown (S := (fun k_ => (P1_ k_) ∨ k_ = g)) hg zq17 (fun k_ e_ => Or.imp_left Or.inl ((HO252.out.1 k_ e_)))); have HO259 := za (ho); clear HO252; clear ho hb hg hat))
         go_ret
         exact ⟨_, zq16, by (with_reducible repeat (first | apply Kd.R_alloc | apply Kd.R_drewN | apply Kd.R_drew)); exact HO259.out, zq12, zq20, zq17⟩
        ·
         rw [if_neg c24] at H
         exact absurd H (by simp)
       ·
        rw [if_neg c21] at H
        exact absurd H (by simp)
      ·
       replace c20 := Bool.eq_false_iff.mpr c20
       subst c20
       rw [if_neg (show ¬ (false = true) by decide)] at H
       replace H := Option.bind_eq_some_iff.mp H
       obtain ⟨⟨t260, t261, t262, t263, t264⟩, A340, H⟩ := H
       (try dsimp only at H)
       have A34 := za A340
       clear A340
       by_cases c35 : t260 = true
       ·
        subst c35
        rw [if_pos rfl] at H
        exact absurd H (by simp)
       ·
        replace c35 := Bool.eq_false_iff.mpr c35
        subst c35
        rw [if_neg (show ¬ (false = true) by decide)] at H
        by_cases c36 : ((rd_T110 s0_0 s0_1).f0) = 2
        ·
         rw [if_pos c36] at H
         have c36b0 := beq_iff_eq.mpr c36
         have c36b1 := bne_eq_false_iff_eq.mpr c36
         clear c36
         replace H := Option.bind_eq_some_iff.mp H
         obtain ⟨t265, A370, H⟩ := H
         (try dsimp only at H)
         have A37 := za A370
         clear A370
         by_cases c38 : l1.length < 1954687338268
         ·
          rw [if_pos c38] at H
          have LMc38 := za c38
          clear c38
          obtain ⟨y266, hy266⟩ : ∃ y_ : List (S140), y_ = (l1 ++ [(⟨1, t265, (⟨#[]⟩ : ByteArray), (⟨#[]⟩ : ByteArray), (-1), (-1), ((rd_T110 s0_0 s0_1).f2)⟩ : S140)]) := ⟨_, rfl⟩
          replace H : (some (y266, wrap64 (t261 + 1), t262, t263, t264)) = some (r1, r2, r3, r4, r5) := by first | (rw [hy266]; with_reducible exact H) | (have H2_ := (Option.bind_some _ _).symm.trans H; rw [hy266]; with_reducible exact H2_) | (have H2_ := (Option.bind_some _ _).symm.trans H; with_reducible exact H2_) | with_reducible exact H | (rw [hy266]; exact H) | exact H
          have Ny266 := za hy266
          clear hy266
          simp only [Option.some.injEq, Prod.mk.injEq] at H
          obtain ⟨rfl, rfl, rfl, rfl, rfl⟩ := H
          try go_wp2_with (first | ((with_reducible refine gate_callee (f := 54) rfl ?_); refine goesL_ (some 61) rfl rfl Try.func54 zq13 rfl #[.pointer (some ⟨g, 0, none⟩), .string (⟨#[40]⟩ : ByteArray)] rfl zq2 ?_; (with_reducible refine (rr_is.calls g s0_0 x1001_5 x1002_5 x1003_5 x1004_5 (⟨#[40]⟩ : ByteArray) false t261 t262 t263 t264 w0 _ ?side1 ?side2 A34.out).mono ?_); (case side1 => exact zq12); (case side2 => exact zq20); rintro e w39 ⟨rfl, hi, hb, hk⟩; refine ⟨_, rfl, ?_⟩; replace HO_1 := za (Kd.R_mono (Kd.R_keep (IsS83.apart (show IsS83 w0 _ g s0_0 x1001_5 x1002_5 x1003_5 x1004_5 from zq12) (zr HO_1.out) (by decide)) hk (fun _ h => h.2)) (fun _ h => h.1)); replace BK235 := za (KeepBut.blk hk (g' := gb235) (zb BK235.out) NB235_0.out (by simp)); replace HK := za (Kept.of_keep (S := (fun k_ => (P1_ k_) ∨ k_ = g)) zq17 hk (.inl (.inr rfl))); replace HB := za (hb); replace HI0 := za (hi); (try clear hb hk hi); have hnb40 := NB235_0.out; have hnc40 := NB0_235.out; obtain ⟨hcz41_0, hcz41_1, hcz41_2⟩ := zc3 BK235.out; obtain ⟨hfz41_0, hfz41_1, hfz41_2⟩ := zf3 BK235.out; obtain ⟨ASz42_0, cSz42_0, HGz42, hgz42, HSz42_0⟩ := HI0.out; have hcz42_0 := cellS83_0 HGz42; have hcz42_1 := cellS83_1 HGz42; have hcz42_2 := cellS83_2 HGz42; have hcz42_3 := cellS83_3 HGz42; have hcz42_4 := cellS83_4 HGz42; have hfz42_1 := blk_frozen HGz42 1; have hfz42_2 := blk_frozen HGz42 2; have hfz42_3 := blk_frozen HGz42 3; have hfz42_4 := blk_frozen HGz42 4; clear HGz42 hgz42))
          have n0_ : Aside0 (Kd.R k140 140 (w39.setCell ⟨g, 1, none⟩ (.int .i64 (wrap64 (t261 + 1)))) w0.heap.size (fun k_ => (P1_ k_ ∨ w.heap.size ≤ k_)) u9000_ l1) := ⟨by (with_reducible repeat (first | apply Kd.R_alloc | apply Kd.R_drewN | apply Kd.R_drew)); exact Kd.R_mono (Kd.R_far (p := ⟨g, 1, none⟩) (IsS83.apart HI0.out HO_1.out (by decide)) (fun _ hk => hk.2) (.int .i64 (wrap64 (t261 + 1)))) (fun _ hk => hk.1)⟩
          have n1_ : Aside0 ((w39.setCell ⟨g, 1, none⟩ (.int .i64 (wrap64 (t261 + 1)))).heap[gb235]? = some (.cells #[.int .i64 ((rd_T110 s0_0 s0_1).f0), .string ((rd_T110 s0_0 s0_1).f1), .int .i64 ((rd_T110 s0_0 s0_1).f2)] 110 (0, 0))) := ⟨zq87⟩
          have n2_ : Aside0 (IsS83 w0 (w39.setCell ⟨g, 1, none⟩ (.int .i64 (wrap64 (t261 + 1)))) g s0_0 (wrap64 (t261 + 1)) t262 t263 t264) := ⟨zq12⟩
          have n3_ : Aside0 (Kept w (w39.setCell ⟨g, 1, none⟩ (.int .i64 (wrap64 (t261 + 1)))) (fun k_ => (P1_ k_) ∨ k_ = g)) := ⟨zq17⟩
          have n4_ : Aside0 (Below w0.heap.size w0 (w39.setCell ⟨g, 1, none⟩ (.int .i64 (wrap64 (t261 + 1))))) := ⟨zq20⟩
          generalize (w39.setCell ⟨g, 1, none⟩ (.int .i64 (wrap64 (t261 + 1)))) = w43 at n0_ n1_ n2_ n3_ n4_ ⊢
          have HO_1 := n0_
          have BK235 := n1_
          have HI0 := n2_
          have HK := n3_
          have HB := n4_
          clear n0_ n1_ n2_ n3_ n4_
          replace HO_1 := za (Kd.R_drew HO_1.out)
          replace BK235 := za (blk_drew BK235.out)
          replace HI0 := za (IsS83.drew HI0.out)
          replace HK := za (Kept.drew HK.out)
          replace HB := za (below_drew1 HB.out)
          refine start_ (n := 10) (S := fun w' => w'.cell? ⟨gb235, 0, none⟩ = some (.int .i64 ((rd_T110 s0_0 s0_1).f0)) ∧ w'.cell? ⟨gb235, 1, none⟩ = some (.string ((rd_T110 s0_0 s0_1).f1)) ∧ w'.cell? ⟨gb235, 2, none⟩ = some (.int .i64 ((rd_T110 s0_0 s0_1).f2))) (ds := []) #[false, false, false, false, false, false, false, false, false, false] zq13 rfl rfl ⟨(blk_cell BK235.out 0).trans rfl, (blk_cell BK235.out 1).trans rfl, (blk_cell BK235.out 2).trans rfl⟩ (fun hHeld => ?_); refine with_tabW rr_unary.tab20 rr_unary.bits20 (fun HT_ HW_ => ?_)
          generalize w43.drew = w44 at HO_1 BK235 HI0 HK HB hHeld ⊢
          refine pure_ (i := 0) (N := some 88) #[true, false, false, false, false, false, false, false, false, false] rfl rfl (any_of HT_.out zq13) (fun _ _ _ h => h) (Or.inl ⟨by rfl, zpv⟩) zpw ?_
          refine pure_ (i := 1) (N := some 89) #[true, true, false, false, false, false, false, false, false, false] rfl rfl (any_of HT_.out zq13) (fun _ _ _ h => h) (Or.inl ⟨by rfl, zpv⟩) zpw ?_
          refine pure_ (i := 4) (N := some 92) #[true, true, false, false, true, false, false, false, false, false] rfl rfl (any_of HT_.out zq13) (fun _ _ _ h => h) (Or.inl ⟨by rfl, zpv⟩) zpw ?_
          refine take_ (i := 2) (N := some 90) (v := ?_) (a' := ?_) #[true, true, true, false, true, false, false, false, false, false] rfl rfl (take_ofW HT_.out HW_.out zq13) (fun _ _ _ h => h) (Or.inl ⟨by rfl, ?_⟩) hHeld ?_ ?_
          rotate_left
          ·
           rintro w' ⟨s0, s1, s2⟩
           go_simp
           with_reducible rfl
          rotate_left
          ·
           simp only [Act.put, List.setIfInBounds_toArray, List.set_cons_zero, List.set_cons_succ, i64_w, i32_w]
           rfl
          refine take_ (i := 5) (N := some 93) (v := ?_) (a' := ?_) #[true, true, true, false, true, true, false, false, false, false] rfl rfl (take_ofW HT_.out HW_.out zq13) (fun _ _ _ h => h) (Or.inl ⟨by rfl, ?_⟩) hHeld ?_ ?_
          rotate_left
          ·
           rintro w' ⟨s0, s1, s2⟩
           go_simp
           with_reducible rfl
          rotate_left
          ·
           simp only [Act.put, List.setIfInBounds_toArray, List.set_cons_zero, List.set_cons_succ, i64_w, i32_w]
           rfl
          refine one_ (i := 3) (N := some 91) #[true, true, true, true, true, true, false, false, false, false] rfl rfl (one_of HT_.out zq13) (by decide) (fun K hK => ?_)
          refine goes_ Try.func55 zq13 rfl #[.string ((rd_T110 s0_0 s0_1).f1)] (by rfl) rfl rfl zq2 ?_
          with_reducible refine (ra_num.calls kj5 ((rd_T110 s0_0 s0_1).f1) t265 _ A37.out).mono ?_
          rintro e w' ⟨rfl, ⟨nd, rfl⟩⟩
          refine ⟨_, rfl, ?_⟩
          refine hK.out _ _ ⟨(blk_cell BK235.out 0).trans rfl, (blk_cell BK235.out 1).trans rfl, (blk_cell BK235.out 2).trans rfl⟩ (fun hHeld => ?_)
          clear hK K
          refine norm_ (a' := ?_) ?_ ?_
          rotate_left
          ·
           show Act.put _ (some 91) _ = _
           simp only [Act.put, List.setIfInBounds_toArray, List.set_cons_zero, List.set_cons_succ, i64_w, i32_w]
           rfl
          refine pure_ (i := 6) (N := some 94) #[true, true, true, true, true, true, true, false, false, false] rfl rfl (any_of HT_.out zq13) (fun _ _ _ h => h) (Or.inl ⟨by rfl, zpv⟩) zpw ?_
          refine one_ (i := 7) (N := some 95) #[true, true, true, true, true, true, true, true, false, false] rfl rfl (one_of HT_.out zq13) (by decide) (fun K hK => ?_)
          refine value_ (w1 := ?_) (v := ?_) (by rfl) rfl ?_ ?_
          rotate_left 2
          ·
           go_simp
           constructor
           ·
            rfl
           ·
            rfl
          refine hK.out _ _ ⟨(blk_cell (blk_alloc BK235.out _) 0).trans rfl, (blk_cell (blk_alloc BK235.out _) 1).trans rfl, (blk_cell (blk_alloc BK235.out _) 2).trans rfl⟩ (fun hHeld => ?_)
          clear hK K
          refine norm_ (a' := ?_) ?_ ?_
          rotate_left
          ·
           show Act.put _ (some 95) _ = _
           simp only [Act.put, List.setIfInBounds_toArray, List.set_cons_zero, List.set_cons_succ, i64_w, i32_w]
           rfl
          refine one_ (i := 8) (N := some 96) #[true, true, true, true, true, true, true, true, true, false] rfl rfl (one_of HT_.out zq13) (by decide) (fun K hK => ?_)
          refine Kd.R_append_step k140 (w0 := w0) w0.heap.size (by rfl) (.tmp 88) (.tmp 95) 88 140 (.agg #[(.int .i64 0), (.int .i64 0), (.string ⟨#[]⟩), (.string ⟨#[]⟩), (.int .i64 0), (.int .i64 0), (.int .i64 0)]) 72 rfl Try.underlying88 info140 rfl (by decide) (by omega) u9000_ l1 (⟨1, t265, (⟨#[]⟩ : ByteArray), (⟨#[]⟩ : ByteArray), (-1), (-1), ((rd_T110 s0_0 s0_1).f2)⟩ : S140) [.int .i64 1, .int .i64 t265, .string (⟨#[]⟩ : ByteArray), .string (⟨#[]⟩ : ByteArray), .int .i64 (-1), .int .i64 (-1), .int .i64 ((rd_T110 s0_0 s0_1).f2)] (fun k_ => (P1_ k_ ∨ w.heap.size ≤ k_)) (fun _ => False) rfl rfl ?aP (fun _ hk => hk.elim) ?aF ?aO ?aB ?aS ?aL ?_
          (case aP => exact k140_mkM _ _ _ (⟨1, t265, (⟨#[]⟩ : ByteArray), (⟨#[]⟩ : ByteArray), (-1), (-1), ((rd_T110 s0_0 s0_1).f2)⟩ : S140))
          (case aB => exact zq20)
          (case aF => exact (fun k_ hk => (.inr (Nat.le_trans zq64 hk))))
          (case aO => exact (zr HO_1.out))
          (case aS => exact (below_size zq20))
          (case aL => have := LMc38.out; omega)
          intro v267 w45 ho hb hg hat
          rw [← Ny266.out] at ho
          replace BK235 := za (blk_grown (g := gb235) (zb BK235.out) hg (Kd.R_ne HO_1.out BK235.out (by decide)))
          replace HI0 := za (IsS83.grown zq12 hg (IsS83.own_ne HI0.out HO_1.out (by decide)))
          replace HB := za (hb)
          replace HK := za (Kept.of_grown (S := (fun k_ => (P1_ k_) ∨ k_ = g)) hg zq17 (fun k_ e_ => Or.imp_left Or.inl ((HO_1.out.1 k_ e_))))
          have HO268 := za (ho)
          clear HO_1
          clear ho hb hg hat
          refine hK.out _ _ ⟨(blk_cell BK235.out 0).trans rfl, (blk_cell BK235.out 1).trans rfl, (blk_cell BK235.out 2).trans rfl⟩ (fun hHeld => ?_)
          clear hK K
          refine norm_ (a' := ?_) ?_ ?_
          rotate_left
          ·
           show Act.put _ (some 96) _ = _
           simp only [Act.put, List.setIfInBounds_toArray, List.set_cons_zero, List.set_cons_succ, i64_w, i32_w]
           rfl
          refine pure_ (i := 9) (N := some 4) #[true, true, true, true, true, true, true, true, true, true] rfl rfl (any_of HT_.out zq13) (fun _ _ _ h => h) (Or.inl ⟨by rfl, zpv⟩) zpw ?_
          refine done_ (done_of HT_.out zq13) ?_
          try go_wp2
          go_ret
          exact ⟨_, zq16, by (with_reducible repeat (first | apply Kd.R_alloc | apply Kd.R_drewN | apply Kd.R_drew)); exact HO268.out, zq12, zq20, zq17⟩
         ·
          rw [if_neg c38] at H
          exact absurd H (by simp)
        ·
         rw [if_neg c36] at H
         have c36b0 := beq_eq_false_iff_ne.mpr c36
         have c36b1 := bne_iff_ne.mpr c36
         by_cases c46 : ((rd_T110 s0_0 s0_1).f0) = 1
         ·
          rw [if_pos c46] at H
          have c46b0 := beq_iff_eq.mpr c46
          have c46b1 := bne_eq_false_iff_eq.mpr c46
          clear c46
          replace H := Option.bind_eq_some_iff.mp H
          obtain ⟨⟨t269, t270, t271, t272, t273, t274⟩, A470, H⟩ := H
          (try dsimp only at H)
          have A47 := za A470
          clear A470
          by_cases c48 : l1.length < 1954687338268
          ·
           rw [if_pos c48] at H
           have LMc48 := za c48
           clear c48
           obtain ⟨y275, hy275⟩ : ∃ y_ : List (S140), y_ = (l1 ++ [(⟨2, 0, t269, t270, (-1), (-1), ((rd_T110 s0_0 s0_1).f2)⟩ : S140)]) := ⟨_, rfl⟩
           replace H : (some (y275, t271, t272, t273, t274)) = some (r1, r2, r3, r4, r5) := by first | (rw [hy275]; with_reducible exact H) | (have H2_ := (Option.bind_some _ _).symm.trans H; rw [hy275]; with_reducible exact H2_) | (have H2_ := (Option.bind_some _ _).symm.trans H; with_reducible exact H2_) | with_reducible exact H | (rw [hy275]; exact H) | exact H
           have Ny275 := za hy275
           clear hy275
           simp only [Option.some.injEq, Prod.mk.injEq] at H
           obtain ⟨rfl, rfl, rfl, rfl, rfl⟩ := H
           go_wp2_with (first | ((with_reducible refine gate_callee (f := 54) rfl ?_); refine goesL_ (some 61) rfl rfl Try.func54 zq13 rfl #[.pointer (some ⟨g, 0, none⟩), .string (⟨#[40]⟩ : ByteArray)] rfl zq2 ?_; (with_reducible refine (rr_is.calls g s0_0 x1001_5 x1002_5 x1003_5 x1004_5 (⟨#[40]⟩ : ByteArray) false t261 t262 t263 t264 w0 _ ?side1 ?side2 A34.out).mono ?_); (case side1 => exact zq12); (case side2 => exact zq20); rintro e w49 ⟨rfl, hi, hb, hk⟩; refine ⟨_, rfl, ?_⟩; replace HO_1 := za (Kd.R_mono (Kd.R_keep (IsS83.apart (show IsS83 w0 _ g s0_0 x1001_5 x1002_5 x1003_5 x1004_5 from zq12) (zr HO_1.out) (by decide)) hk (fun _ h => h.2)) (fun _ h => h.1)); replace BK235 := za (KeepBut.blk hk (g' := gb235) (zb BK235.out) NB235_0.out (by simp)); replace HK := za (Kept.of_keep (S := (fun k_ => (P1_ k_) ∨ k_ = g)) zq17 hk (.inl (.inr rfl))); replace HB := za (hb); replace HI0 := za (hi); (try clear hb hk hi); have hnb50 := NB235_0.out; have hnc50 := NB0_235.out; obtain ⟨hcz51_0, hcz51_1, hcz51_2⟩ := zc3 BK235.out; obtain ⟨hfz51_0, hfz51_1⟩ := zf2 BK235.out; have hfz51_2 := blk_frozen BK235.out 2) | ((with_reducible refine gate_callee (f := 72) rfl ?_); refine goesL_ (some 103) rfl rfl Try.func72 zq13 rfl #[.pointer (some ⟨g, 0, none⟩)] rfl zq2 ?_; (with_reducible refine (rr_qname.calls g s0_0 t261 t262 t263 t264 t269 t270 t271 t272 t273 t274 w0 _ ?side1 ?side2 A47.out).mono ?_); (case side1 => exact zq12); (case side2 => exact zq20); rintro e w52 ⟨rfl, hi, hb, hk⟩; refine ⟨_, rfl, ?_⟩; replace HO_1 := za (Kd.R_mono (Kd.R_keep (IsS83.apart (show IsS83 w0 _ g s0_0 t261 t262 t263 t264 from zq12) (zr HO_1.out) (by decide)) hk (fun _ h => h.2)) (fun _ h => h.1)); replace BK235 := za (KeepBut.blk hk (g' := gb235) (zb BK235.out) NB235_0.out (by simp)); replace HK := za (Kept.of_keep (S := (fun k_ => (P1_ k_) ∨ k_ = g)) zq17 hk (.inl (.inr rfl))); replace HB := za (hb); replace HI0 := za (hi); (try clear hb hk hi); obtain ⟨hcz53_0, hcz53_1, hcz53_2⟩ := zc3 BK235.out; obtain ⟨hfz53_0, hfz53_1⟩ := zf2 BK235.out; have hfz53_2 := blk_frozen BK235.out 2) | ((with_reducible refine gate_builtin (b := .append) (xs := #[.tmp 106, .tmp 112]) rfl ?_); at_builtin; refine Kd.R_append k140 (w0 := w0) w0.heap.size rfl (.tmp 106) (.tmp 112) 88 140 (.agg #[(.int .i64 0), (.int .i64 0), (.string ⟨#[]⟩), (.string ⟨#[]⟩), (.int .i64 0), (.int .i64 0), (.int .i64 0)]) 72 rfl Try.underlying88 info140 rfl (by decide) (by omega) u9000_ l1 (⟨2, 0, t269, t270, (-1), (-1), ((rd_T110 s0_0 s0_1).f2)⟩ : S140) [.int .i64 2, .int .i64 0, .string t269, .string t270, .int .i64 (-1), .int .i64 (-1), .int .i64 ((rd_T110 s0_0 s0_1).f2)] (fun k_ => (P1_ k_ ∨ w.heap.size ≤ k_)) (fun _ => False) rfl rfl ?aP (fun _ hk => hk.elim) ?aF ?aO ?aB ?aS ?aL ?_; (case aP => exact k140_mkM _ _ _ (⟨2, 0, t269, t270, (-1), (-1), ((rd_T110 s0_0 s0_1).f2)⟩ : S140)); (case aB => exact zq20); (case aF => exact (fun k_ hk => (.inr (Nat.le_trans zq64 hk)))); (case aO => exact (zr HO_1.out)); (case aS => exact (below_size zq20)); (case aL => have := LMc48.out; omega); intro v276 w54 ho hb hg hat; rw [← Ny275.out] at ho; replace BK235 := za (blk_grown (g := gb235) (zb BK235.out) hg (Kd.R_ne HO_1.out BK235.out (by decide))); replace HI0 := za (IsS83.grown zq12 hg (IsS83.own_ne HI0.out HO_1.out (by decide))); replace HB := za (hb); replace HK := za (Kept.of_grown (S := (fun k_ => (P1_ k_) ∨ k_ = g)) hg zq17 (fun k_ e_ => Or.imp_left Or.inl ((HO_1.out.1 k_ e_)))); have HO277 := za (ho); clear HO_1; clear ho hb hg hat))
           go_ret
           exact ⟨_, zq16, by (with_reducible repeat (first | apply Kd.R_alloc | apply Kd.R_drewN | apply Kd.R_drew)); exact HO277.out, zq12, zq20, zq17⟩
          ·
           rw [if_neg c48] at H
           exact absurd H (by simp)
         ·
          rw [if_neg c46] at H
          exact absurd H (by simp)
   ·
    rw [if_neg c5] at H
    exact absurd H (by simp)
  ·
   rw [if_neg c4] at H
   exact absurd H (by simp)
 ·
  rw [if_neg c3] at H
  exact absurd H (by simp)
def rr_term.l0 : Nat → List (S140) → List (S110) → Int → Int → Int → Int → Option ((List (S140)) × Int × Int × Int × Int)
 | 0, _, _, _, _, _, _ => none
 | k + 1, x1, x1000, x1001, x1002, x1003, x1004 => if x1003 = 0 then ((rr_here.f x1000 x1001 x1002 x1003 x1004).bind fun bt285 => ((rr_take.f x1000 bt285.2.1 bt285.2.2.1 bt285.2.2.2.1 bt285.2.2.2.2 (⟨#[42]⟩ : ByteArray)).bind fun bt290 => (if bt290.1 = true then (none) else ((rr_take.f x1000 bt290.2.1 bt290.2.2.1 bt290.2.2.2.1 bt290.2.2.2.2 (⟨#[47]⟩ : ByteArray)).bind fun bt295 => (if bt295.1 = true then (none) else ((rr_take.f x1000 bt295.2.1 bt295.2.2.1 bt295.2.2.2.1 bt295.2.2.2.2 (⟨#[37]⟩ : ByteArray)).bind fun bt300 => (if bt300.1 = true then (none) else (some (x1, bt300.2.1, bt300.2.2.1, bt300.2.2.2.1, bt300.2.2.2.2))))))))) else (none)
def rr_term.f (k : Nat) (s0_0 : List (S110)) (s0_1 : Int) (s0_2 : Int) (s0_3 : Int) (s0_4 : Int) (l1 : List (S140)) : Option ((List (S140)) × Int × Int × Int × Int) := (rr_unary.f k s0_0 s0_1 s0_2 s0_3 s0_4 l1).bind fun bt278 => (rr_term.l0 k bt278.1 s0_0 bt278.2.1 bt278.2.2.1 bt278.2.2.2.1 bt278.2.2.2.2)
theorem rr_term.mono_l : ∀ k, (∀ y0 y1 y2 y3 y4 y5, LeO (rr_term.l0 k y0 y1 y2 y3 y4 y5) (rr_term.l0 (k + 1) y0 y1 y2 y3 y4 y5))
 | 0 => fun _ _ _ _ _ _ r h => by simp [rr_term.l0] at h
 | k + 1 => by
  have ih0 := rr_term.mono_l k
  ·
   intro y0 y1 y2 y3 y4 y5
   unfold rr_term.l0
   repeat' with_reducible first | apply ih0 | apply rr_unary.mono | exact LeO.refl _ | exact LeO.none _ | refine LeO.ite ?_ ?_ | refine LeO.bind ?_ (fun _ => ?_)
theorem rr_term.mono : ∀ a0 a1 a2 a3 a4 a5 k, LeO (rr_term.f k a0 a1 a2 a3 a4 a5) (rr_term.f (k + 1) a0 a1 a2 a3 a4 a5) := by
 intro a0 a1 a2 a3 a4 a5 k
 have ih0 := rr_term.mono_l k
 unfold rr_term.f
 repeat' with_reducible first | apply ih0 | apply rr_unary.mono | exact LeO.refl _ | exact LeO.none _ | refine LeO.ite ?_ ?_ | refine LeO.bind ?_ (fun _ => ?_)
set_option maxHeartbeats 8000000 in
set_option maxRecDepth 100000 in
theorem rr_term.calls (k : Nat) (g : Nat) (s0_0 : List (S110)) (s0_1 : Int) (s0_2 : Int) (s0_3 : Int) (s0_4 : Int) (P1_ : Nat → Prop) (u9000_ : Value) (l1 : List (S140)) (r1 : List (S140)) (r2 : Int) (r3 : Int) (r4 : Int) (r5 : Int) (w0 w : World) (hI : IsS83 w0 w g s0_0 s0_1 s0_2 s0_3 s0_4) (hB : Below w0.heap.size w0 w) (ho1 : Kd.R k140 140 w w0.heap.size P1_ u9000_ l1) (h : rr_term.f k s0_0 s0_1 s0_2 s0_3 s0_4 l1 = some (r1, r2, r3, r4, r5)) :
  Calls Try.prog 92 #[.pointer (some ⟨g, 0, none⟩), u9000_] w fun e w' => ∃ v0_ : Value, e = .returned (v0_) ∧ Kd.R k140 140 w' w0.heap.size (fun k_ => (P1_ k_ ∨ w.heap.size ≤ k_)) v0_ r1 ∧ IsS83 w0 w' g s0_0 r2 r3 r4 r5 ∧ Below w0.heap.size w0 w' ∧ Kept w w' (fun k_ => (P1_ k_) ∨ k_ = g) := by
 have HO1 := za (show Kd.R k140 140 w w0.heap.size (fun k_ => (P1_ k_ ∨ w.heap.size ≤ k_)) u9000_ l1 from Kd.R_mono ho1 (fun k_ hk => (.inl hk)))
 have HI0 := za hI
 have HL := za hB.size
 clear hI
 have HK := za (Kept.refl w (fun k_ => (P1_ k_) ∨ k_ = g))
 have HW0 := za hB.size
 have HB := za hB
 clear hB
 have H : ((rr_unary.f k s0_0 s0_1 s0_2 s0_3 s0_4 l1).bind fun bt278 => (rr_term.l0 k bt278.1 s0_0 bt278.2.1 bt278.2.2.1 bt278.2.2.2.1 bt278.2.2.2.2)) = some (r1, r2, r3, r4, r5) := h
 clear h
 replace H := Option.bind_eq_some_iff.mp H
 obtain ⟨⟨t278, t281, t282, t283, t284⟩, A30, H⟩ := H
 (try dsimp only at H)
 have A3 := za A30
 clear A30
 have H' := za H
 clear H
 obtain ⟨Ao4, co4, eo4⟩ := Kd.R_slice HO1.out
 subst eo4
 go_enter Try.func92, Try.ntmps92
 go_wp2_with (first | ((with_reducible refine gate_callee (f := 95) rfl ?_); refine goesL_ (some 9) rfl rfl Try.func95 zq13 rfl #[.pointer (some ⟨g, 0, none⟩), .slice Ao4 l1.length co4] rfl zq2 ?_; (with_reducible refine (rr_unary.calls k g s0_0 s0_1 s0_2 s0_3 s0_4 (fun k_ => some k_ = (.slice Ao4 l1.length co4 : Value).ownBlock) (.slice Ao4 l1.length co4) l1 t278 t281 t282 t283 t284 w0 _ ?side1 ?side2 ?side3 A3.out).mono ?_); (case side1 => exact zq0); (case side2 => exact zq4); (case side3 => exact Kd.R_tight rfl HO1.out); rintro e w5 ⟨v279, rfl, ho0, hi, hb, hkp⟩; refine ⟨_, rfl, ?_⟩; replace HI0 := za (hi); have HO280 := za (Kd.R_mono (ok' := fun k_ => (P1_ k_ ∨ w.heap.size ≤ k_)) ho0 (fun k_ hk_ => Or.elim hk_ (fun hs_ => (HO1.out.1 k_ (hs_).symm)) (fun hn_ => (.inr (Nat.le_trans zq35 hn_))))); replace HK := za (Kept.then_ (S := (fun k_ => (P1_ k_) ∨ k_ = g)) zq14 hkp (fun k_ hs_ => Or.elim hs_ (fun hs_ => (fun e_ => Or.imp_left Or.inl ((HO1.out.1 k_ e_.symm))) hs_) (fun e_ => .inl (.inr e_)))); replace HB := za (hb); clear HO1; (try clear hb hkp ho0)))
 (try simp only [Act.put, List.setIfInBounds_toArray, List.set_cons_zero, List.set_cons_succ])
 go_loopg [1] k (fun kq v1 w' => ∃ (x1_1 : List (S140)) (x1001_1 : Int) (x1002_1 : Int) (x1003_1 : Int) (x1004_1 : Int), Aside0 (rr_term.l0 kq x1_1 s0_0 x1001_1 x1002_1 x1003_1 x1004_1 = some (r1, r2, r3, r4, r5)) ∧ Aside0 (kq ≤ k) ∧ Aside0 (Kd.R k140 140 w' w0.heap.size (fun k_ => (P1_ k_ ∨ w.heap.size ≤ k_)) v1 x1_1) ∧ Aside0 (IsS83 w0 w' g s0_0 x1001_1 x1002_1 x1003_1 x1004_1) ∧ Aside0 (Kept w w' (fun k_ => (P1_ k_) ∨ k_ = g)) ∧ Aside0 (Below w0.heap.size w0 w'))
 case atStart => exact ⟨(t278), (t281), (t282), (t283), (t284), H', ⟨Nat.le_refl _⟩, ⟨by (with_reducible repeat (first | apply Kd.R_alloc | apply Kd.R_drewN | apply Kd.R_drew)); exact HO280.out⟩, ⟨zq0⟩, ⟨zq14⟩, ⟨zq4⟩⟩
 case round =>
  clear H'
  obtain ⟨x1_1, x1001_1, x1002_1, x1003_1, x1004_1, HA, HK1, HO_1, HI0, HK, HB⟩ := hrel
  cases gk with
  | zero => exact absurd HA.out (by simp [rr_term.l0])
  | succ k1 =>
   have H := HA.out
   clear HA
   simp only [rr_term.l0] at H
   by_cases c6 : x1003_1 = 0
   ·
    rw [if_pos c6] at H
    have c6b0 := beq_iff_eq.mpr c6
    have c6b1 := bne_eq_false_iff_eq.mpr c6
    clear c6
    replace H := Option.bind_eq_some_iff.mp H
    obtain ⟨⟨t285, t286, t287, t288, t289⟩, A70, H⟩ := H
    (try dsimp only at H)
    have A7 := za A70
    clear A70
    replace H := Option.bind_eq_some_iff.mp H
    obtain ⟨⟨t290, t291, t292, t293, t294⟩, A80, H⟩ := H
    (try dsimp only at H)
    have A8 := za A80
    clear A80
    by_cases c9 : t290 = true
    ·
     subst c9
     rw [if_pos rfl] at H
     exact absurd H (by simp)
    ·
     replace c9 := Bool.eq_false_iff.mpr c9
     subst c9
     rw [if_neg (show ¬ (false = true) by decide)] at H
     replace H := Option.bind_eq_some_iff.mp H
     obtain ⟨⟨t295, t296, t297, t298, t299⟩, A100, H⟩ := H
     (try dsimp only at H)
     have A10 := za A100
     clear A100
     by_cases c11 : t295 = true
     ·
      subst c11
      rw [if_pos rfl] at H
      exact absurd H (by simp)
     ·
      replace c11 := Bool.eq_false_iff.mpr c11
      subst c11
      rw [if_neg (show ¬ (false = true) by decide)] at H
      replace H := Option.bind_eq_some_iff.mp H
      obtain ⟨⟨t300, t301, t302, t303, t304⟩, A120, H⟩ := H
      (try dsimp only at H)
      have A12 := za A120
      clear A120
      by_cases c13 : t300 = true
      ·
       subst c13
       rw [if_pos rfl] at H
       exact absurd H (by simp)
      ·
       replace c13 := Bool.eq_false_iff.mpr c13
       subst c13
       rw [if_neg (show ¬ (false = true) by decide)] at H
       simp only [Option.some.injEq, Prod.mk.injEq] at H
       obtain ⟨rfl, rfl, rfl, rfl, rfl⟩ := H
       obtain ⟨ASz14_0, cSz14_0, HGz14, hgz14, HSz14_0⟩ := HI0.out
       have hcz14_0 := cellS83_0 HGz14
       have hcz14_1 := cellS83_1 HGz14
       have hcz14_2 := cellS83_2 HGz14
       have hcz14_3 := cellS83_3 HGz14
       have hcz14_4 := cellS83_4 HGz14
       have hfz14_1 := blk_frozen HGz14 1
       have hfz14_2 := blk_frozen HGz14 2
       have hfz14_3 := blk_frozen HGz14 3
       have hfz14_4 := blk_frozen HGz14 4
       clear HGz14 hgz14
       obtain ⟨Ao15, co15, eo15⟩ := Kd.R_slice HO_1.out
       subst eo15
       go_wp2_with (first | ((with_reducible refine gate_callee (f := 46) rfl ?_); refine goesL_ (some 19) rfl rfl Try.func46 zq13 rfl #[.pointer (some ⟨g, 0, none⟩)] rfl zq2 ?_; (with_reducible refine (rr_here.calls g s0_0 x1001_1 x1002_1 x1003_1 x1004_1 t285 t286 t287 t288 t289 w0 _ ?side1 ?side2 A7.out).mono ?_); (case side1 => exact zq0); (case side2 => exact zq4); rintro e w16 ⟨rfl, hi, hb, hk⟩; refine ⟨_, rfl, ?_⟩; replace HO_1 := za (Kd.R_mono (Kd.R_keep (IsS83.apart (show IsS83 w0 _ g s0_0 x1001_1 x1002_1 x1003_1 x1004_1 from zq0) (zr HO_1.out) (by decide)) hk (fun _ h => h.2)) (fun _ h => h.1)); replace HK := za (Kept.of_keep (S := (fun k_ => (P1_ k_) ∨ k_ = g)) zq14 hk (.inl (.inr rfl))); replace HB := za (hb); replace HI0 := za (hi); (try clear hb hk hi)) | ((with_reducible refine gate_callee (f := 48) rfl ?_); refine goesL_ (some 23) rfl rfl Try.func48 zq13 rfl #[.pointer (some ⟨g, 0, none⟩), .string (⟨#[42]⟩ : ByteArray)] rfl zq2 ?_; (with_reducible refine (rr_take.calls g s0_0 t286 t287 t288 t289 (⟨#[42]⟩ : ByteArray) false t291 t292 t293 t294 w0 _ ?side1 ?side2 A8.out).mono ?_); (case side1 => exact zq0); (case side2 => exact zq4); rintro e w17 ⟨rfl, hi, hb, hk⟩; refine ⟨_, rfl, ?_⟩; replace HO_1 := za (Kd.R_mono (Kd.R_keep (IsS83.apart (show IsS83 w0 _ g s0_0 t286 t287 t288 t289 from zq0) (zr HO_1.out) (by decide)) hk (fun _ h => h.2)) (fun _ h => h.1)); replace HK := za (Kept.of_keep (S := (fun k_ => (P1_ k_) ∨ k_ = g)) zq14 hk (.inl (.inr rfl))); replace HB := za (hb); replace HI0 := za (hi); (try clear hb hk hi)) | ((with_reducible refine gate_callee (f := 48) rfl ?_); refine goesL_ (some 32) rfl rfl Try.func48 zq13 rfl #[.pointer (some ⟨g, 0, none⟩), .string (⟨#[47]⟩ : ByteArray)] rfl zq2 ?_; (with_reducible refine (rr_take.calls g s0_0 t291 t292 t293 t294 (⟨#[47]⟩ : ByteArray) false t296 t297 t298 t299 w0 _ ?side1 ?side2 A10.out).mono ?_); (case side1 => exact zq0); (case side2 => exact zq4); rintro e w18 ⟨rfl, hi, hb, hk⟩; refine ⟨_, rfl, ?_⟩; replace HO_1 := za (Kd.R_mono (Kd.R_keep (IsS83.apart (show IsS83 w0 _ g s0_0 t291 t292 t293 t294 from zq0) (zr HO_1.out) (by decide)) hk (fun _ h => h.2)) (fun _ h => h.1)); replace HK := za (Kept.of_keep (S := (fun k_ => (P1_ k_) ∨ k_ = g)) zq14 hk (.inl (.inr rfl))); replace HB := za (hb); replace HI0 := za (hi); (try clear hb hk hi)) | ((with_reducible refine gate_callee (f := 48) rfl ?_); refine goesL_ (some 41) rfl rfl Try.func48 zq13 rfl #[.pointer (some ⟨g, 0, none⟩), .string (⟨#[37]⟩ : ByteArray)] rfl zq2 ?_; (with_reducible refine (rr_take.calls g s0_0 t296 t297 t298 t299 (⟨#[37]⟩ : ByteArray) false t301 t302 t303 t304 w0 _ ?side1 ?side2 A12.out).mono ?_); (case side1 => exact zq0); (case side2 => exact zq4); rintro e w19 ⟨rfl, hi, hb, hk⟩; refine ⟨_, rfl, ?_⟩; replace HO_1 := za (Kd.R_mono (Kd.R_keep (IsS83.apart (show IsS83 w0 _ g s0_0 t296 t297 t298 t299 from zq0) (zr HO_1.out) (by decide)) hk (fun _ h => h.2)) (fun _ h => h.1)); replace HK := za (Kept.of_keep (S := (fun k_ => (P1_ k_) ∨ k_ = g)) zq14 hk (.inl (.inr rfl))); replace HB := za (hb); replace HI0 := za (hi); (try clear hb hk hi)))
       go_ret
       exact ⟨_, zq16, zq93, zq0, zq4, zq14⟩
   ·
    rw [if_neg c6] at H
    exact absurd H (by simp)
end Go.Proofs.Ytcjnhnnfoadklaa.QRunBranches
