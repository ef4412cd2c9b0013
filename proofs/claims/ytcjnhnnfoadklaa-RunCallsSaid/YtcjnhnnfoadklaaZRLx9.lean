import Derived.Test.YtcjnhnnfoadklaaZRLx8
namespace Go.Proofs.Ytcjnhnnfoadklaa.QRunCalls
open Go.RowKit Go.Proofs.YtcjnhnnfoadklaaW.PrintWords Go.Proofs.YtcjnhnnfoadklaaW.PrintLast Go.Proofs.YtcjnhnnfoadklaaW.PrintMore
attribute [local go_sem] max2_int min2_int max_two min_two max_three min_three max_four min_four
set_option linter.unusedVariables false
set_option linter.unusedSimpArgs false
def ra_num.l0 : Nat → ByteArray → Int → Int → Option (Int)
 | 0, _, _, _ => none
 | k + 1, x0, x3, x4 => if x4 < (x0.size : Int) then (if 0 ≤ x4 then (ra_num.l0 k x0 (wrap64 ((wrap64 (10 * x3)) + (((bt x0 x4) - 48) % 256))) (wrap64 (x4 + 1))) else (none)) else (some x3)
def ra_num.f (k : Nat) (a0 : ByteArray) : Option (Int) := ra_num.l0 k a0 0 0
theorem ra_num.mono_l : ∀ k, (∀ y0 y1 y2, LeO (ra_num.l0 k y0 y1 y2) (ra_num.l0 (k + 1) y0 y1 y2))
 | 0 => fun _ _ _ r h => by simp [ra_num.l0] at h
 | k + 1 => by
  have ih0 := ra_num.mono_l k
  ·
   intro y0 y1 y2
   unfold ra_num.l0
   repeat' with_reducible first | apply ih0 | exact LeO.refl _ | exact LeO.none _ | refine LeO.ite ?_ ?_ | refine LeO.bind ?_ (fun _ => ?_)
theorem ra_num.mono : ∀ a0 k, LeO (ra_num.f k a0) (ra_num.f (k + 1) a0) := by
 intro a0 k
 have ih0 := ra_num.mono_l k
 unfold ra_num.f
 repeat' with_reducible first | apply ih0 | exact LeO.refl _ | exact LeO.none _ | refine LeO.ite ?_ ?_ | refine LeO.bind ?_ (fun _ => ?_)
set_option maxHeartbeats 8000000 in
set_option maxRecDepth 100000 in
theorem ra_num.calls (k : Nat) (a0 : ByteArray) (r : Int) (w : World) (h : ra_num.f k a0 = some r) :
  Calls Try.prog 55 #[.string a0] w fun e w' => e = .returned (.int .i64 r) ∧ Drawn0 w w' := by
 have H : (ra_num.l0 k a0 0 0) = some r := h
 clear h
 have H' := za H
 clear H
 go_enter Try.func55, Try.ntmps55
 go_wp2
 go_loopg [3, 4] k (fun kq v3 v4 w' => ∃ (x3_1 : Int) (x4_1 : Int), v3 = .int .i64 x3_1 ∧ v4 = .int .i64 x4_1 ∧ Aside0 (ra_num.l0 kq a0 x3_1 x4_1 = some r) ∧ Aside0 (kq ≤ k) ∧ Drawn0 w w')
 case atStart => exact ⟨(0), (0), zq26, zq26, H', ⟨Nat.le_refl _⟩, zq28⟩
 case round =>
  clear H'
  obtain ⟨x3_1, x4_1, rfl, rfl, HA, HK1, ⟨m1, rfl⟩⟩ := hrel
  cases gk with
  | zero => exact absurd HA.out (by simp [ra_num.l0])
  | succ k1 =>
   have H := HA.out
   clear HA
   simp only [ra_num.l0] at H
   by_cases c2 : x4_1 < (a0.size : Int)
   ·
    rw [if_pos c2] at H
    have c2b0 := decide_eq_true c2
    clear c2
    by_cases c3 : 0 ≤ x4_1
    ·
     rw [if_pos c3] at H
     have c3b0 : decide (0 ≤ x4_1) = true := decide_eq_true c3
     clear c3
     have H' := za H
     clear H
     have p4 : 0 ≤ (x4_1 : Int) := of_decide_eq_true zq9
     have q4 : x4_1 < (a0.size : Int) := of_decide_eq_true zq9
     have hx4 := bt_at a0 x4_1
     replace p4 := eq_true p4
     replace q4 := eq_true q4
     go_wp2
     go_roundg k1
     case measure => have := HK1.out; omega
     case rel => exact ⟨(wrap64 ((wrap64 (10 * x3_1)) + (((bt a0 x4_1) - 48) % 256))), (wrap64 (x4_1 + 1)), zq26, zq26, H', ⟨by have := HK1.out; omega⟩, zq28⟩
    ·
     rw [if_neg c3] at H
     exact absurd H (by simp)
   ·
    rw [if_neg c2] at H
    have c2b0 := decide_eq_false c2
    clear c2
    obtain rfl := Option.some.inj H
    go_wp2
    go_ret
    exact ⟨zq32, zq28⟩
def rr_unary.j0 : Nat → List (S140) → Bool → List (S110) → Int → Int → Int → Int → Int → ByteArray → Int → Option ((List (S140)) × Int × Int × Int × Int)
 | 0, _, _, _, _, _, _, _, _, _, _ => none
 | k + 1, x1, x25, x1000, x1001, x1002, x1003, x1004, x203000, x203001, x203002 => if x25 = true then (none) else ((rr_is.f x1000 x1001 x1002 x1003 x1004 (⟨#[40]⟩ : ByteArray)).bind fun bt213 => (if bt213.1 = true then (none) else (if x203000 = 2 then ((ra_num.f k x203001).bind fun t218 => (if x1.length < 1954687338268 then (some ((x1 ++ [(⟨1, t218, (⟨#[]⟩ : ByteArray), (⟨#[]⟩ : ByteArray), (-1), (-1), x203002⟩ : S140)]), wrap64 (bt213.2.1 + 1), bt213.2.2.1, bt213.2.2.2.1, bt213.2.2.2.2)) else (none))) else (if x203000 = 1 then ((rr_qname.f x1000 bt213.2.1 bt213.2.2.1 bt213.2.2.2.1 bt213.2.2.2.2).bind fun bt222 => (if x1.length < 1954687338268 then (some ((x1 ++ [(⟨2, 0, bt222.1, bt222.2.1, (-1), (-1), x203002⟩ : S140)]), bt222.2.2.1, bt222.2.2.2.1, bt222.2.2.2.2.1, bt222.2.2.2.2.2)) else (none))) else (none)))))
def rr_unary.f (k : Nat) (s0_0 : List (S110)) (s0_1 : Int) (s0_2 : Int) (s0_3 : Int) (s0_4 : Int) (l1 : List (S140)) : Option ((List (S140)) × Int × Int × Int × Int) := if s0_3 = 0 then (if 0 ≤ s0_1 then (if s0_1 < (s0_0.length : Int) then ((rr_is.f s0_0 s0_1 s0_2 s0_3 s0_4 (⟨#[45]⟩ : ByteArray)).bind fun bt203 => (if bt203.1 = true then (rr_unary.j0 k l1 true s0_0 bt203.2.1 bt203.2.2.1 bt203.2.2.2.1 bt203.2.2.2.2 ((rd_T110 s0_0 s0_1).f0) ((rd_T110 s0_0 s0_1).f1) ((rd_T110 s0_0 s0_1).f2)) else ((rr_is.f s0_0 bt203.2.1 bt203.2.2.1 bt203.2.2.2.1 bt203.2.2.2.2 (⟨#[33]⟩ : ByteArray)).bind fun bt208 => (rr_unary.j0 k l1 bt208.1 s0_0 bt208.2.1 bt208.2.2.1 bt208.2.2.2.1 bt208.2.2.2.2 ((rd_T110 s0_0 s0_1).f0) ((rd_T110 s0_0 s0_1).f1) ((rd_T110 s0_0 s0_1).f2))))) else (none)) else (none)) else (none)
theorem rr_unary.mono_l : ∀ k, (∀ y0 y1 y2 y3 y4 y5 y6 y7 y8 y9, LeO (rr_unary.j0 k y0 y1 y2 y3 y4 y5 y6 y7 y8 y9) (rr_unary.j0 (k + 1) y0 y1 y2 y3 y4 y5 y6 y7 y8 y9))
 | 0 => fun _ _ _ _ _ _ _ _ _ _ r h => by simp [rr_unary.j0] at h
 | k + 1 => by
  have ih0 := rr_unary.mono_l k
  ·
   intro y0 y1 y2 y3 y4 y5 y6 y7 y8 y9
   unfold rr_unary.j0
   repeat' with_reducible first | apply ih0 | apply ra_num.mono | exact LeO.refl _ | exact LeO.none _ | refine LeO.ite ?_ ?_ | refine LeO.bind ?_ (fun _ => ?_)
theorem rr_unary.mono : ∀ a0 a1 a2 a3 a4 a5 k, LeO (rr_unary.f k a0 a1 a2 a3 a4 a5) (rr_unary.f (k + 1) a0 a1 a2 a3 a4 a5) := by
 intro a0 a1 a2 a3 a4 a5 k
 have ih0 := rr_unary.mono_l k
 unfold rr_unary.f
 repeat' with_reducible first | apply ih0 | apply ra_num.mono | exact LeO.refl _ | exact LeO.none _ | refine LeO.ite ?_ ?_ | refine LeO.bind ?_ (fun _ => ?_)
def rr_unary.T3 : Bool × List (List Nat × List Nat) := (true, [([], []), ([0], [0]), ([1], [1]), ([2], [2]), ([], []), ([4], [4]), ([5], [5]), ([6], [6]), ([3, 7], [3, 7]), ([8], [8]), ([], []), ([10, 9, 0, 1, 2, 3, 4, 5, 6, 7, 8, 9, 10], [9, 10])])
def rr_unary.B3 : List Nat := [0, 1, 3, 7, 0, 16, 48, 112, 255, 511, 0, 2047]
theorem rr_unary.tab3 : rtab .any (opsOf Try.f95 3) = rr_unary.T3 := by kernel_rfl
theorem rr_unary.bits3 : waitsOk rr_unary.T3.2 rr_unary.B3 = true := by kernel_rfl
def rr_unary.T20 : Bool × List (List Nat × List Nat) := (true, [([], []), ([], []), ([1], [1]), ([2], [2]), ([], []), ([4], [4]), ([3, 5], [3, 5]), ([6], [6]), ([0, 7, 3], [0, 7]), ([8, 8, 0, 1, 2, 3, 4, 5, 6, 7, 8], [8])])
def rr_unary.B20 : List Nat := [0, 0, 2, 6, 0, 16, 62, 126, 255, 511]
theorem rr_unary.tab20 : rtab .any (opsOf Try.f95 20) = rr_unary.T20 := by kernel_rfl
theorem rr_unary.bits20 : waitsOk rr_unary.T20.2 rr_unary.B20 = true := by kernel_rfl
set_option maxHeartbeats 8000000 in
set_option maxRecDepth 100000 in
theorem rr_unary.calls (k : Nat) (g : Nat) (s0_0 : List (S110)) (s0_1 : Int) (s0_2 : Int) (s0_3 : Int) (s0_4 : Int) (P1_ : Nat → Prop) (u9000_ : Value) (l1 : List (S140)) (r1 : List (S140)) (r2 : Int) (r3 : Int) (r4 : Int) (r5 : Int) (w0 w : World) (hI : IsS83 w0 w g s0_0 s0_1 s0_2 s0_3 s0_4) (hB : Below w0.heap.size w0 w) (ho1 : Kd.R k140 140 w w0.heap.size P1_ u9000_ l1) (h : rr_unary.f k s0_0 s0_1 s0_2 s0_3 s0_4 l1 = some (r1, r2, r3, r4, r5)) :
  Calls Try.prog 95 #[.pointer (some ⟨g, 0, none⟩), u9000_] w fun e w' => ∃ v0_ : Value, e = .returned (v0_) ∧ Kd.R k140 140 w' w0.heap.size (fun k_ => (P1_ k_ ∨ w.heap.size ≤ k_)) v0_ r1 ∧ IsS83 w0 w' g s0_0 r2 r3 r4 r5 ∧ Below w0.heap.size w0 w' ∧ Kept w w' (fun k_ => (P1_ k_) ∨ k_ = g) := by
 have hu110 := Try.underlying110
 have hu140 := Try.underlying140
 have HO1 := za (show Kd.R k140 140 w w0.heap.size (fun k_ => (P1_ k_ ∨ w.heap.size ≤ k_)) u9000_ l1 from Kd.R_mono ho1 (fun k_ hk => (.inl hk)))
 have HI0 := za hI
 have HL := za hB.size
 clear hI
 have HK := za (Kept.refl w (fun k_ => (P1_ k_) ∨ k_ = g))
 have HW0 := za hB.size
 have HB := za hB
 clear hB
 have H : (if s0_3 = 0 then (if 0 ≤ s0_1 then (if s0_1 < (s0_0.length : Int) then ((rr_is.f s0_0 s0_1 s0_2 s0_3 s0_4 (⟨#[45]⟩ : ByteArray)).bind fun bt203 => (if bt203.1 = true then (rr_unary.j0 k l1 true s0_0 bt203.2.1 bt203.2.2.1 bt203.2.2.2.1 bt203.2.2.2.2 ((rd_T110 s0_0 s0_1).f0) ((rd_T110 s0_0 s0_1).f1) ((rd_T110 s0_0 s0_1).f2)) else ((rr_is.f s0_0 bt203.2.1 bt203.2.2.1 bt203.2.2.2.1 bt203.2.2.2.2 (⟨#[33]⟩ : ByteArray)).bind fun bt208 => (rr_unary.j0 k l1 bt208.1 s0_0 bt208.2.1 bt208.2.2.1 bt208.2.2.2.1 bt208.2.2.2.2 ((rd_T110 s0_0 s0_1).f0) ((rd_T110 s0_0 s0_1).f1) ((rd_T110 s0_0 s0_1).f2))))) else (none)) else (none)) else (none)) = some (r1, r2, r3, r4, r5) := h
 clear h
 by_cases c3 : s0_3 = 0
 ·
  rw [if_pos c3] at H
  have c3b0 := beq_iff_eq.mpr c3
  have c3b1 := bne_eq_false_iff_eq.mpr c3
  clear c3
  by_cases c4 : 0 ≤ s0_1
  ·
   rw [if_pos c4] at H
   have c4b0 := decide_eq_true c4
   clear c4
   by_cases c5 : s0_1 < (s0_0.length : Int)
   ·
    rw [if_pos c5] at H
    have c5b0 := decide_eq_true c5
    clear c5
    have HC6 := za H
    clear H
    obtain ⟨ASz7_0, cSz7_0, HGz7, hgz7, HSz7_0⟩ := HI0.out
    have hcz7_0 := cellS83_0 HGz7
    have hcz7_1 := cellS83_1 HGz7
    have hcz7_2 := cellS83_2 HGz7
    have hcz7_3 := cellS83_3 HGz7
    have hcz7_4 := cellS83_4 HGz7
    have hfz7_1 := blk_frozen HGz7 1
    have hfz7_2 := blk_frozen HGz7 2
    have hfz7_3 := blk_frozen HGz7 3
    have hfz7_4 := blk_frozen HGz7 4
    clear HGz7 hgz7
    go_enter Try.func95, Try.ntmps95
    try go_wp2
    replace HO1 := za (Kd.R_drew HO1.out)
    replace HI0 := za (IsS83.drew HI0.out)
    replace HK := za (Kept.drew HK.out)
    replace HB := za (below_drew1 HB.out)
    obtain ⟨ASz9_0, cSz9_0, HGz9, hgz9, HSz9_0⟩ := HI0.out
    have hx9_0 := cellS83_0 HGz9
    have hx9_1 := cellS83_1 HGz9
    have hx9_2 := cellS83_2 HGz9
    have hx9_3 := cellS83_3 HGz9
    have hx9_4 := cellS83_4 HGz9
    clear HGz9 hgz9
    have p201 : 0 ≤ (s0_1 : Int) := of_decide_eq_true zq9
    have q201 : s0_1 < (s0_0.length : Int) := of_decide_eq_true zq9
    obtain ⟨ad201, e201, hx201_0, hx201_1, hx201_2⟩ := at_T110 HSz9_0 s0_1 p201 q201
    have hw201_2 := hx201_2
    have hw201_1 := hx201_1
    have hw201_0 := hx201_0
    cases e201
    replace hx201_0 := pw_cell_below HB.out hx201_0
    replace hx201_1 := pw_cell_below HB.out hx201_1
    replace hx201_2 := pw_cell_below HB.out hx201_2
    replace p201 := eq_true p201
    replace q201 := eq_true q201
    refine start_ (n := 12) (S := fun w' => w'.cell? ⟨g, 0, none⟩ = some (.slice (some ad201) s0_0.length cSz9_0) ∧ w'.cell? ⟨g, 1, none⟩ = some (.int .i64 s0_1) ∧ w'.cell? ⟨g, 2, none⟩ = some (.int .i64 s0_2) ∧ w'.cell? ⟨g, 3, none⟩ = some (.int .i64 s0_3) ∧ w'.cell? ⟨g, 4, none⟩ = some (.int .i64 s0_4) ∧ w'.cell? (ad201.add ((s0_1).toNat * 3)) = some (.int .i64 ((rd_T110 s0_0 s0_1).f0)) ∧ w'.cell? ⟨(ad201.add ((s0_1).toNat * 3)).block, (ad201.add ((s0_1).toNat * 3)).off + 1, none⟩ = some (.string ((rd_T110 s0_0 s0_1).f1)) ∧ w'.cell? ⟨(ad201.add ((s0_1).toNat * 3)).block, (ad201.add ((s0_1).toNat * 3)).off + 2, none⟩ = some (.int .i64 ((rd_T110 s0_0 s0_1).f2))) (ds := [11]) #[false, false, false, false, false, false, false, false, false, false, false, false] zq13 rfl rfl ⟨hx9_0, hx9_1, hx9_2, hx9_3, hx9_4, hx201_0, hx201_1, hx201_2⟩ (fun hHeld => ?_); refine with_tabW rr_unary.tab3 rr_unary.bits3 (fun HT_ HW_ => ?_)
    generalize w.drew = w8 at HO1 HI0 HK HB hx201_0 hx201_1 hx201_2 hx9_0 hx9_1 hx9_2 hx9_3 hx9_4 hHeld ⊢
    refine pure_ (i := 0) (N := some 15) #[true, false, false, false, false, false, false, false, false, false, false, false] rfl rfl (any_of HT_.out zq13) (fun _ _ _ h => h) (Or.inl ⟨by rfl, zpv⟩) zpw ?_
    refine pure_ (i := 1) (N := some 16) #[true, true, false, false, false, false, false, false, false, false, false, false] rfl rfl (any_of HT_.out zq13) (fun _ _ _ h => h) (Or.inl ⟨by rfl, zpv⟩) zpw ?_
    refine pure_ (i := 2) (N := some 17) #[true, true, true, false, false, false, false, false, false, false, false, false] rfl rfl (any_of HT_.out zq13) (fun _ _ _ h => h) (Or.inl ⟨by rfl, zpv⟩) zpw ?_
    refine pure_ (i := 4) (N := some 19) #[true, true, true, false, true, false, false, false, false, false, false, false] rfl rfl (any_of HT_.out zq13) (fun _ _ _ h => h) (Or.inl ⟨by rfl, zpv⟩) zpw ?_
    refine pure_ (i := 5) (N := some 20) #[true, true, true, false, true, true, false, false, false, false, false, false] rfl rfl (any_of HT_.out zq13) (fun _ _ _ h => h) (Or.inl ⟨by rfl, zpv⟩) zpw ?_
    refine pure_ (i := 6) (N := some 21) #[true, true, true, false, true, true, true, false, false, false, false, false] rfl rfl (any_of HT_.out zq13) (fun _ _ _ h => h) (Or.inl ⟨by rfl, zpv⟩) zpw ?_
    refine take_ (i := 3) (N := some 18) (v := ?_) (a' := ?_) #[true, true, true, true, true, true, true, false, false, false, false, false] rfl rfl (take_ofW HT_.out HW_.out zq13) (fun _ _ _ h => h) (Or.inl ⟨by rfl, ?_⟩) hHeld ?_ ?_
    rotate_left
    ·
     rintro w' ⟨s0, s1, s2, s3, s4, s5, s6, s7⟩
     go_simp
     with_reducible rfl
    rotate_left
    ·
     simp only [Act.put, List.setIfInBounds_toArray, List.set_cons_zero, List.set_cons_succ, i64_w, i32_w]
     rfl
    refine take_ (i := 7) (N := some 22) (v := ?_) (a' := ?_) #[true, true, true, true, true, true, true, true, false, false, false, false] rfl rfl (take_ofW HT_.out HW_.out zq13) (fun _ _ _ h => h) (Or.inl ⟨by rfl, ?_⟩) hHeld ?_ ?_
    rotate_left
    ·
     rintro w' ⟨s0, s1, s2, s3, s4, s5, s6, s7⟩
     go_simp
     with_reducible rfl
    rotate_left
    ·
     simp only [Act.put, List.setIfInBounds_toArray, List.set_cons_zero, List.set_cons_succ, i64_w, i32_w]
     rfl
    refine pure_ (i := 8) (N := some 23) #[true, true, true, true, true, true, true, true, true, false, false, false] rfl rfl (any_of HT_.out zq13) (fun _ _ _ h => h) (Or.inl ⟨by rfl, zpv⟩) zpw ?_
    refine take_ (i := 9) (N := some 24) (v := ?_) (a' := ?_) #[true, true, true, true, true, true, true, true, true, true, false, false] rfl rfl (take_ofW HT_.out HW_.out zq13) (fun _ _ _ h => h) (Or.inl ⟨by rfl, ?_⟩) hHeld ?_ ?_
    rotate_left
    ·
     rintro w' ⟨s0, s1, s2, s3, s4, s5, s6, s7⟩
     go_simp
     with_reducible rfl
    rotate_left
    ·
     simp only [Act.put, List.setIfInBounds_toArray, List.set_cons_zero, List.set_cons_succ, i64_w, i32_w]
     rfl
    refine one_ (i := 10) (N := some 5) #[true, true, true, true, true, true, true, true, true, true, true, false] rfl rfl (one_of HT_.out zq13) (by decide) (fun K hK => ?_)
    refine box_step ?hg (N := 5) ?hd (cs := #[.int .i64 0, .string (⟨#[]⟩ : ByteArray), .int .i64 0]) (t := 110) ?hr ?_; (case hd => rfl); (case hg => rfl); (case hr => exact zq21)
    intro gb202 hg w10 hbox hb
    have HS0_ := (hb.cell (World.block_lt_of_cell? _ _ (hHeld.1))).trans (hHeld.1)
    have HS1_ := (hb.cell (World.block_lt_of_cell? _ _ (hHeld.2.1))).trans (hHeld.2.1)
    have HS2_ := (hb.cell (World.block_lt_of_cell? _ _ (hHeld.2.2.1))).trans (hHeld.2.2.1)
    have HS3_ := (hb.cell (World.block_lt_of_cell? _ _ (hHeld.2.2.2.1))).trans (hHeld.2.2.2.1)
    have HS4_ := (hb.cell (World.block_lt_of_cell? _ _ (hHeld.2.2.2.2.1))).trans (hHeld.2.2.2.2.1)
    have HS5_ := (hb.cell (World.block_lt_of_cell? _ _ (hHeld.2.2.2.2.2.1))).trans (hHeld.2.2.2.2.2.1)
    have HS6_ := (hb.cell (World.block_lt_of_cell? _ _ (hHeld.2.2.2.2.2.2.1))).trans (hHeld.2.2.2.2.2.2.1)
    have HS7_ := (hb.cell (World.block_lt_of_cell? _ _ (hHeld.2.2.2.2.2.2.2))).trans (hHeld.2.2.2.2.2.2.2)
    replace HO1 := za (Kd.R_below (zr HO1.out) hb)
    have BK202 := za (hbox)
    have GW202 := za ((by rw [hg]; exact zq25 : w.heap.size ≤ gb202))
    replace HK := za (Kept.below (S := (fun k_ => (P1_ k_) ∨ k_ = g)) zq7 hb)
    have GE202 := za ((by rw [hg]; exact (below_size zq2) : w0.heap.size ≤ gb202))
    replace HB := za (below_step zq2 hb)
    have NB0_202 := za ((by rw [hg]; exact Nat.ne_of_lt (IsS83.lt (show IsS83 w0 _ g s0_0 s0_1 s0_2 s0_3 s0_4 from zq0)) : g ≠ gb202))
    have NB202_0 := za ((by rw [hg]; exact Nat.ne_of_gt (IsS83.lt (show IsS83 w0 _ g s0_0 s0_1 s0_2 s0_3 s0_4 from zq0)) : gb202 ≠ g))
    replace HI0 := za (IsS83.below zq0 hb)
    clear hb hbox hg
    refine hK.out _ _ ⟨HS0_, HS1_, HS2_, HS3_, HS4_, HS5_, HS6_, HS7_⟩ (fun hHeld => ?_)
    clear hK K
    refine norm_ (a' := ?_) ?_ ?_
    rotate_left
    ·
     show Act.put _ (some 5) _ = _
     simp only [Act.put, List.setIfInBounds_toArray, List.set_cons_zero, List.set_cons_succ, i64_w, i32_w]
     rfl
    refine last_ (i := 11) (N := none) #[true, true, true, true, true, true, true, true, true, true, true, true] rfl rfl (one_of HT_.out zq13) (by decide) (fun K hK => ?_)
    have hs11 : w10.cell? ⟨gb202, 0, none⟩ = some (.int .i64 0) := (blk_cell BK202.out 0).trans rfl
    have hfs11 := blk_frozen BK202.out 0
    have hs12 : w10.cell? ⟨gb202, 1, none⟩ = some (.string (⟨#[]⟩ : ByteArray)) := (blk_cell BK202.out 1).trans rfl
    have hfs12 := blk_frozen BK202.out 1
    have hs13 : w10.cell? ⟨gb202, 2, none⟩ = some (.int .i64 0) := (blk_cell BK202.out 2).trans rfl
    have hfs13 := blk_frozen BK202.out 2
    refine skip_ (w1 := ?_) (by rfl) rfl ?_ ?_
    rotate_left
    ·
     go_simp
     rfl
    refine hK.out _ _ ?_
    clear hK K
    refine done_ (done_of HT_.out zq13) ?_
    go_upto_region 4 with (fail)
    go_cut [25] (fun v25 wc => ∃ (kq : Nat) (x25_5 : Bool) (x1001_5 : Int) (x1002_5 : Int) (x1003_5 : Int) (x1004_5 : Int), v25 = .bool x25_5 ∧ Aside0 (rr_unary.j0 kq l1 x25_5 s0_0 x1001_5 x1002_5 x1003_5 x1004_5 ((rd_T110 s0_0 s0_1).f0) ((rd_T110 s0_0 s0_1).f1) ((rd_T110 s0_0 s0_1).f2) = some (r1, r2, r3, r4, r5)) ∧ Aside0 (kq ≤ k) ∧ Aside0 (Kd.R k140 140 wc w0.heap.size (fun k_ => (P1_ k_ ∨ w.heap.size ≤ k_)) u9000_ l1) ∧ Aside0 (wc.heap[gb202]? = some (.cells #[.int .i64 ((rd_T110 s0_0 s0_1).f0), .string ((rd_T110 s0_0 s0_1).f1), .int .i64 ((rd_T110 s0_0 s0_1).f2)] 110 (0, 0))) ∧ Aside0 (IsS83 w0 wc g s0_0 x1001_5 x1002_5 x1003_5 x1004_5) ∧ Aside0 (Kept w wc (fun k_ => (P1_ k_) ∨ k_ = g)) ∧ Aside0 (Below w0.heap.size w0 wc))
    case first =>
     have H := HC6.out
     clear HC6
     replace H := Option.bind_eq_some_iff.mp H
     obtain ⟨⟨t203, t204, t205, t206, t207⟩, A140, H⟩ := H
     (try dsimp only at H)
     have A14 := za A140
     clear A140
     by_cases c15 : t203 = true
     ·
      subst c15
      rw [if_pos rfl] at H
      have H' := za H
      clear H
      go_wp2_with (first | ((with_reducible refine gate_callee (f := 54) rfl ?_); refine goesL_ (some 27) rfl rfl Try.func54 zq13 rfl #[.pointer (some ⟨g, 0, none⟩), .string (⟨#[45]⟩ : ByteArray)] rfl zq1 ?_; (with_reducible refine (rr_is.calls g s0_0 s0_1 s0_2 s0_3 s0_4 (⟨#[45]⟩ : ByteArray) true t204 t205 t206 t207 w0 _ ?side1 ?side2 A14.out).mono ?_); (case side1 => exact zq16); (case side2 => exact zq23); rintro e w16 ⟨rfl, hi, hb, hk⟩; refine ⟨_, rfl, ?_⟩; replace HO1 := za (Kd.R_mono (Kd.R_keep (IsS83.apart (show IsS83 w0 _ g s0_0 s0_1 s0_2 s0_3 s0_4 from zq16) (by (with_reducible repeat (first | apply Kd.R_alloc | apply Kd.R_drewN | apply Kd.R_drew)); exact (Kd.R_mono (Kd.R_far (p := ⟨gb202, 2, none⟩) (Kd.R_far (p := ⟨gb202, 1, none⟩) (Kd.R_far (p := ⟨gb202, 0, none⟩) (Kd.R_types HO1.out BK202.out (by decide)) (fun _ hk => hk.2) (.int .i64 ((rd_T110 s0_0 s0_1).f0))) (fun _ hk => hk.2) (.string ((rd_T110 s0_0 s0_1).f1))) (fun _ hk => hk.2) (.int .i64 ((rd_T110 s0_0 s0_1).f2))) (fun _ h_ => h_.1))) (by decide)) hk (fun _ h => h.2)) (fun _ h => h.1)); replace BK202 := za (KeepBut.blk hk (g' := gb202) (o := .cells #[.int .i64 ((rd_T110 s0_0 s0_1).f0), .string ((rd_T110 s0_0 s0_1).f1), .int .i64 ((rd_T110 s0_0 s0_1).f2)] 110 (0, 0)) (by (with_reducible repeat (first | refine blk_drewN ?_ _ | refine blk_drew ?_ | refine blk_alloc ?_ _)); refine blk_put (cs := #[.int .i64 ((rd_T110 s0_0 s0_1).f0), .string ((rd_T110 s0_0 s0_1).f1), .int .i64 0]) ?_ 2 _ rfl; (with_reducible repeat (first | refine blk_drewN ?_ _ | refine blk_drew ?_ | refine blk_alloc ?_ _)); refine blk_put (cs := #[.int .i64 ((rd_T110 s0_0 s0_1).f0), .string (⟨#[]⟩ : ByteArray), .int .i64 0]) ?_ 1 _ rfl; (with_reducible repeat (first | refine blk_drewN ?_ _ | refine blk_drew ?_ | refine blk_alloc ?_ _)); refine blk_put (cs := #[.int .i64 0, .string (⟨#[]⟩ : ByteArray), .int .i64 0]) ?_ 0 _ rfl; (with_reducible repeat (first | refine blk_drewN ?_ _ | refine blk_drew ?_ | refine blk_alloc ?_ _)); exact BK202.out) NB202_0.out (by simp)); replace HK := za (Kept.of_keep (S := (fun k_ => (P1_ k_) ∨ k_ = g)) zq22 hk (.inl (.inr rfl))); replace HB := za (hb); replace HI0 := za (hi); (try clear hb hk hi)))
      go_meet
      case rel => exact ⟨_, (true), (t204), (t205), (t206), (t207), zq26, H', ⟨zq88⟩, ⟨by (with_reducible repeat (first | apply Kd.R_alloc | apply Kd.R_drewN | apply Kd.R_drew)); exact HO1.out⟩, ⟨zq89⟩, ⟨zq16⟩, ⟨zq22⟩, ⟨zq23⟩⟩
     ·
      replace c15 := Bool.eq_false_iff.mpr c15
      subst c15
      rw [if_neg (show ¬ (false = true) by decide)] at H
      replace H := Option.bind_eq_some_iff.mp H
      obtain ⟨⟨t208, t209, t210, t211, t212⟩, A170, H⟩ := H
      (try dsimp only at H)
      have A17 := za A170
      clear A170
      have H' := za H
      clear H
      go_wp2_with (first | ((with_reducible refine gate_callee (f := 54) rfl ?_); refine goesL_ (some 27) rfl rfl Try.func54 zq13 rfl #[.pointer (some ⟨g, 0, none⟩), .string (⟨#[45]⟩ : ByteArray)] rfl zq1 ?_; (with_reducible refine (rr_is.calls g s0_0 s0_1 s0_2 s0_3 s0_4 (⟨#[45]⟩ : ByteArray) false t204 t205 t206 t207 w0 _ ?side1 ?side2 A14.out).mono ?_); (case side1 => exact zq16); (case side2 => exact zq23); rintro e w18 ⟨rfl, hi, hb, hk⟩; refine ⟨_, rfl, ?_⟩; replace HO1 := za (Kd.R_mono (Kd.R_keep (IsS83.apart (show IsS83 w0 _ g s0_0 s0_1 s0_2 s0_3 s0_4 from zq16) (by (with_reducible repeat (first | apply Kd.R_alloc | apply Kd.R_drewN | apply Kd.R_drew)); exact (Kd.R_mono (Kd.R_far (p := ⟨gb202, 2, none⟩) (Kd.R_far (p := ⟨gb202, 1, none⟩) (Kd.R_far (p := ⟨gb202, 0, none⟩) (Kd.R_types HO1.out BK202.out (by decide)) (fun _ hk => hk.2) (.int .i64 ((rd_T110 s0_0 s0_1).f0))) (fun _ hk => hk.2) (.string ((rd_T110 s0_0 s0_1).f1))) (fun _ hk => hk.2) (.int .i64 ((rd_T110 s0_0 s0_1).f2))) (fun _ h_ => h_.1))) (by decide)) hk (fun _ h => h.2)) (fun _ h => h.1)); replace BK202 := za (KeepBut.blk hk (g' := gb202) (o := .cells #[.int .i64 ((rd_T110 s0_0 s0_1).f0), .string ((rd_T110 s0_0 s0_1).f1), .int .i64 ((rd_T110 s0_0 s0_1).f2)] 110 (0, 0)) (by (with_reducible repeat (first | refine blk_drewN ?_ _ | refine blk_drew ?_ | refine blk_alloc ?_ _)); refine blk_put (cs := #[.int .i64 ((rd_T110 s0_0 s0_1).f0), .string ((rd_T110 s0_0 s0_1).f1), .int .i64 0]) ?_ 2 _ rfl; (with_reducible repeat (first | refine blk_drewN ?_ _ | refine blk_drew ?_ | refine blk_alloc ?_ _)); refine blk_put (cs := #[.int .i64 ((rd_T110 s0_0 s0_1).f0), .string (⟨#[]⟩ : ByteArray), .int .i64 0]) ?_ 1 _ rfl; (with_reducible repeat (first | refine blk_drewN ?_ _ | refine blk_drew ?_ | refine blk_alloc ?_ _)); refine blk_put (cs := #[.int .i64 0, .string (⟨#[]⟩ : ByteArray), .int .i64 0]) ?_ 0 _ rfl; (with_reducible repeat (first | refine blk_drewN ?_ _ | refine blk_drew ?_ | refine blk_alloc ?_ _)); exact BK202.out) NB202_0.out (by simp)); replace HK := za (Kept.of_keep (S := (fun k_ => (P1_ k_) ∨ k_ = g)) zq22 hk (.inl (.inr rfl))); replace HB := za (hb); replace HI0 := za (hi); (try clear hb hk hi)) | ((with_reducible refine gate_callee (f := 54) rfl ?_); (with_reducible refine gate_dst (N := 30) rfl ?_); (refine gate_guard (by rfl) ?_; dsimp only); refine goesL_ (some 30) rfl rfl Try.func54 zq13 rfl #[.pointer (some ⟨g, 0, none⟩), .string (⟨#[33]⟩ : ByteArray)] rfl zq1 ?_; (with_reducible refine (rr_is.calls g s0_0 t204 t205 t206 t207 (⟨#[33]⟩ : ByteArray) t208 t209 t210 t211 t212 w0 _ ?side1 ?side2 A17.out).mono ?_); (case side1 => exact zq16); (case side2 => exact zq23); rintro e w19 ⟨rfl, hi, hb, hk⟩; refine ⟨_, rfl, ?_⟩; replace HO1 := za (Kd.R_mono (Kd.R_keep (IsS83.apart (show IsS83 w0 _ g s0_0 t204 t205 t206 t207 from zq16) (zr HO1.out) (by decide)) hk (fun _ h => h.2)) (fun _ h => h.1)); replace BK202 := za (KeepBut.blk hk (g' := gb202) (zb BK202.out) NB202_0.out (by simp)); replace HK := za (Kept.of_keep (S := (fun k_ => (P1_ k_) ∨ k_ = g)) zq22 hk (.inl (.inr rfl))); replace HB := za (hb); replace HI0 := za (hi); (try clear hb hk hi)))
      go_meet
      case rel => exact ⟨_, (t208), (t209), (t210), (t211), (t212), zq26, H', ⟨zq88⟩, ⟨by (with_reducible repeat (first | apply Kd.R_alloc | apply Kd.R_drewN | apply Kd.R_drew)); exact HO1.out⟩, ⟨zq89⟩, ⟨zq16⟩, ⟨zq22⟩, ⟨zq23⟩⟩
    case rest =>
     clear HC6
     obtain ⟨kq, x25_5, x1001_5, x1002_5, x1003_5, x1004_5, rfl, HA, HJ5, HO_1, BK202, HI0, HK, HB⟩ := hcut
     cases kq with
     | zero => exact absurd HA.out (by simp [rr_unary.j0])
     | succ kj5 =>
      have H := HA.out
      clear HA
      simp only [rr_unary.j0] at H
      by_cases c20 : x25_5 = true
      ·
       subst c20
       rw [if_pos rfl] at H
       exact absurd H (by simp)
      ·
       replace c20 := Bool.eq_false_iff.mpr c20
       subst c20
       rw [if_neg (show ¬ (false = true) by decide)] at H
       replace H := Option.bind_eq_some_iff.mp H
       obtain ⟨⟨t213, t214, t215, t216, t217⟩, A210, H⟩ := H
       (try dsimp only at H)
       have A21 := za A210
       clear A210
       by_cases c22 : t213 = true
       ·
        subst c22
        rw [if_pos rfl] at H
        exact absurd H (by simp)
       ·
        replace c22 := Bool.eq_false_iff.mpr c22
        subst c22
        rw [if_neg (show ¬ (false = true) by decide)] at H
        by_cases c23 : ((rd_T110 s0_0 s0_1).f0) = 2
        ·
         rw [if_pos c23] at H
         have c23b0 := beq_iff_eq.mpr c23
         have c23b1 := bne_eq_false_iff_eq.mpr c23
         clear c23
         replace H := Option.bind_eq_some_iff.mp H
         obtain ⟨t218, A240, H⟩ := H
         (try dsimp only at H)
         have A24 := za A240
         clear A240
         by_cases c25 : l1.length < 1954687338268
         ·
          rw [if_pos c25] at H
          have LMc25 := za c25
          clear c25
          obtain ⟨y219, hy219⟩ : ∃ y_ : List (S140), y_ = (l1 ++ [(⟨1, t218, (⟨#[]⟩ : ByteArray), (⟨#[]⟩ : ByteArray), (-1), (-1), ((rd_T110 s0_0 s0_1).f2)⟩ : S140)]) := ⟨_, rfl⟩
          replace H : (some (y219, wrap64 (t214 + 1), t215, t216, t217)) = some (r1, r2, r3, r4, r5) := by first | (rw [hy219]; with_reducible exact H) | (have H2_ := (Option.bind_some _ _).symm.trans H; rw [hy219]; with_reducible exact H2_) | (have H2_ := (Option.bind_some _ _).symm.trans H; with_reducible exact H2_) | with_reducible exact H | (rw [hy219]; exact H) | exact H
          have Ny219 := za hy219
          clear hy219
          simp only [Option.some.injEq, Prod.mk.injEq] at H
          obtain ⟨rfl, rfl, rfl, rfl, rfl⟩ := H
          try go_wp2_with (first | ((with_reducible refine gate_callee (f := 54) rfl ?_); refine goesL_ (some 61) rfl rfl Try.func54 zq13 rfl #[.pointer (some ⟨g, 0, none⟩), .string (⟨#[40]⟩ : ByteArray)] rfl zq1 ?_; (with_reducible refine (rr_is.calls g s0_0 x1001_5 x1002_5 x1003_5 x1004_5 (⟨#[40]⟩ : ByteArray) false t214 t215 t216 t217 w0 _ ?side1 ?side2 A21.out).mono ?_); (case side1 => exact zq16); (case side2 => exact zq23); rintro e w26 ⟨rfl, hi, hb, hk⟩; refine ⟨_, rfl, ?_⟩; replace HO_1 := za (Kd.R_mono (Kd.R_keep (IsS83.apart (show IsS83 w0 _ g s0_0 x1001_5 x1002_5 x1003_5 x1004_5 from zq16) (zr HO_1.out) (by decide)) hk (fun _ h => h.2)) (fun _ h => h.1)); replace BK202 := za (KeepBut.blk hk (g' := gb202) (zb BK202.out) NB202_0.out (by simp)); replace HK := za (Kept.of_keep (S := (fun k_ => (P1_ k_) ∨ k_ = g)) zq22 hk (.inl (.inr rfl))); replace HB := za (hb); replace HI0 := za (hi); (try clear hb hk hi); have hnb27 := NB202_0.out; have hnc27 := NB0_202.out; obtain ⟨hcz28_0, hcz28_1, hcz28_2⟩ := zc3 BK202.out; obtain ⟨hfz28_0, hfz28_1, hfz28_2⟩ := zf3 BK202.out; obtain ⟨ASz29_0, cSz29_0, HGz29, hgz29, HSz29_0⟩ := HI0.out; have hcz29_0 := cellS83_0 HGz29; have hcz29_1 := cellS83_1 HGz29; have hcz29_2 := cellS83_2 HGz29; have hcz29_3 := cellS83_3 HGz29; have hcz29_4 := cellS83_4 HGz29; have hfz29_1 := blk_frozen HGz29 1; have hfz29_2 := blk_frozen HGz29 2; have hfz29_3 := blk_frozen HGz29 3; have hfz29_4 := blk_frozen HGz29 4; clear HGz29 hgz29))
          have n0_ : Aside0 (Kd.R k140 140 (w26.setCell ⟨g, 1, none⟩ (.int .i64 (wrap64 (t214 + 1)))) w0.heap.size (fun k_ => (P1_ k_ ∨ w.heap.size ≤ k_)) u9000_ l1) := ⟨by (with_reducible repeat (first | apply Kd.R_alloc | apply Kd.R_drewN | apply Kd.R_drew)); exact Kd.R_mono (Kd.R_far (p := ⟨g, 1, none⟩) (IsS83.apart HI0.out HO_1.out (by decide)) (fun _ hk => hk.2) (.int .i64 (wrap64 (t214 + 1)))) (fun _ hk => hk.1)⟩
          have n1_ : Aside0 ((w26.setCell ⟨g, 1, none⟩ (.int .i64 (wrap64 (t214 + 1)))).heap[gb202]? = some (.cells #[.int .i64 ((rd_T110 s0_0 s0_1).f0), .string ((rd_T110 s0_0 s0_1).f1), .int .i64 ((rd_T110 s0_0 s0_1).f2)] 110 (0, 0))) := ⟨by (with_reducible repeat (first | refine blk_drewN ?_ _ | refine blk_drew ?_ | refine blk_alloc ?_ _)); refine blk_far ?_ NB202_0.out _; (with_reducible repeat (first | refine blk_drewN ?_ _ | refine blk_drew ?_ | refine blk_alloc ?_ _)); exact BK202.out⟩
          have n2_ : Aside0 (IsS83 w0 (w26.setCell ⟨g, 1, none⟩ (.int .i64 (wrap64 (t214 + 1)))) g s0_0 (wrap64 (t214 + 1)) t215 t216 t217) := ⟨zq16⟩
          have n3_ : Aside0 (Kept w (w26.setCell ⟨g, 1, none⟩ (.int .i64 (wrap64 (t214 + 1)))) (fun k_ => (P1_ k_) ∨ k_ = g)) := ⟨zq22⟩
          have n4_ : Aside0 (Below w0.heap.size w0 (w26.setCell ⟨g, 1, none⟩ (.int .i64 (wrap64 (t214 + 1))))) := ⟨zq23⟩
          generalize (w26.setCell ⟨g, 1, none⟩ (.int .i64 (wrap64 (t214 + 1)))) = w30 at n0_ n1_ n2_ n3_ n4_ ⊢
          have HO_1 := n0_
          have BK202 := n1_
          have HI0 := n2_
          have HK := n3_
          have HB := n4_
          clear n0_ n1_ n2_ n3_ n4_
          replace HO_1 := za (Kd.R_drew HO_1.out)
          replace BK202 := za (blk_drew BK202.out)
          replace HI0 := za (IsS83.drew HI0.out)
          replace HK := za (Kept.drew HK.out)
          replace HB := za (below_drew1 HB.out)
          refine start_ (n := 10) (S := fun w' => w'.cell? ⟨gb202, 0, none⟩ = some (.int .i64 ((rd_T110 s0_0 s0_1).f0)) ∧ w'.cell? ⟨gb202, 1, none⟩ = some (.string ((rd_T110 s0_0 s0_1).f1)) ∧ w'.cell? ⟨gb202, 2, none⟩ = some (.int .i64 ((rd_T110 s0_0 s0_1).f2))) (ds := []) #[false, false, false, false, false, false, false, false, false, false] zq13 rfl rfl ⟨(blk_cell BK202.out 0).trans rfl, (blk_cell BK202.out 1).trans rfl, (blk_cell BK202.out 2).trans rfl⟩ (fun hHeld => ?_); refine with_tabW rr_unary.tab20 rr_unary.bits20 (fun HT_ HW_ => ?_)
          generalize w30.drew = w31 at HO_1 BK202 HI0 HK HB hHeld ⊢
          refine pure_ (i := 0) (N := some 88) #[true, false, false, false, false, false, false, false, false, false] rfl rfl (any_of HT_.out zq13) (fun _ _ _ h => h) (Or.inl ⟨by rfl, zpv⟩) zpw ?_
          refine pure_ (i := 1) (N := some 89) #[true, true, false, false, false, false, false, false, false, false] rfl rfl (any_of HT_.out zq13) (fun _ _ _ h => h) (Or.inl ⟨by rfl, zpv⟩) zpw ?_
          refine pure_ (i := 4) (N := some 92) #[true, true, false, false, true, false, false, false, false, false] rfl rfl (any_of HT_.out zq13) (fun _ _ _ h => h) (Or.inl ⟨by rfl, zpv⟩) zpw ?_
          refine take_ (i := 2) (N := some 90) (v := ?_) (a' := ?_) #[true, true, true, false, true, false, false, false, false, false] rfl rfl (take_ofW HT_.out HW_.out zq13) (fun _ _ _ h => h) (Or.inl ⟨by rfl, ?_⟩) hHeld ?_ ?_
          rotate_left
          ·
           rintro w' ⟨s0, s1, s2⟩
           go_simp
           with_reducible rfl
          rotate_left
          ·
           simp only [Act.put, List.setIfInBounds_toArray, List.set_cons_zero, List.set_cons_succ, i64_w, i32_w]
           rfl
          refine take_ (i := 5) (N := some 93) (v := ?_) (a' := ?_) #[true, true, true, false, true, true, false, false, false, false] rfl rfl (take_ofW HT_.out HW_.out zq13) (fun _ _ _ h => h) (Or.inl ⟨by rfl, ?_⟩) hHeld ?_ ?_
          rotate_left
          ·
           rintro w' ⟨s0, s1, s2⟩
           go_simp
           with_reducible rfl
          rotate_left
          ·
           simp only [Act.put, List.setIfInBounds_toArray, List.set_cons_zero, List.set_cons_succ, i64_w, i32_w]
           rfl
          refine one_ (i := 3) (N := some 91) #[true, true, true, true, true, true, false, false, false, false] rfl rfl (one_of HT_.out zq13) (by decide) (fun K hK => ?_)
          refine goes_ Try.func55 zq13 rfl #[.string ((rd_T110 s0_0 s0_1).f1)] (by rfl) rfl rfl zq1 ?_
          with_reducible refine (ra_num.calls kj5 ((rd_T110 s0_0 s0_1).f1) t218 _ A24.out).mono ?_
          rintro e w' ⟨rfl, ⟨nd, rfl⟩⟩
          refine ⟨_, rfl, ?_⟩
          refine hK.out _ _ ⟨(blk_cell BK202.out 0).trans rfl, (blk_cell BK202.out 1).trans rfl, (blk_cell BK202.out 2).trans rfl⟩ (fun hHeld => ?_)
          clear hK K
          refine norm_ (a' := ?_) ?_ ?_
          rotate_left
          ·
           show Act.put _ (some 91) _ = _
           simp only [Act.put, List.setIfInBounds_toArray, List.set_cons_zero, List.set_cons_succ, i64_w, i32_w]
           rfl
          refine pure_ (i := 6) (N := some 94) #[true, true, true, true, true, true, true, false, false, false] rfl rfl (any_of HT_.out zq13) (fun _ _ _ h => h) (Or.inl ⟨by rfl, zpv⟩) zpw ?_
          refine one_ (i := 7) (N := some 95) #[true, true, true, true, true, true, true, true, false, false] rfl rfl (one_of HT_.out zq13) (by decide) (fun K hK => ?_)
          refine value_ (w1 := ?_) (v := ?_) (by rfl) rfl ?_ ?_
          rotate_left 2
          ·
           go_simp
           constructor
           ·
            rfl
           ·
            rfl
          refine hK.out _ _ ⟨(blk_cell (blk_alloc BK202.out _) 0).trans rfl, (blk_cell (blk_alloc BK202.out _) 1).trans rfl, (blk_cell (blk_alloc BK202.out _) 2).trans rfl⟩ (fun hHeld => ?_)
          clear hK K
          refine norm_ (a' := ?_) ?_ ?_
          rotate_left
          ·
           show Act.put _ (some 95) _ = _
           simp only [Act.put, List.setIfInBounds_toArray, List.set_cons_zero, List.set_cons_succ, i64_w, i32_w]
           rfl
          refine one_ (i := 8) (N := some 96) #[true, true, true, true, true, true, true, true, true, false] rfl rfl (one_of HT_.out zq13) (by decide) (fun K hK => ?_)
          refine Kd.R_append_step k140 (w0 := w0) w0.heap.size (by rfl) (.tmp 88) (.tmp 95) 88 140 (.agg #[(.int .i64 0), (.int .i64 0), (.string ⟨#[]⟩), (.string ⟨#[]⟩), (.int .i64 0), (.int .i64 0), (.int .i64 0)]) 72 rfl Try.underlying88 info140 rfl (by decide) (by omega) u9000_ l1 (⟨1, t218, (⟨#[]⟩ : ByteArray), (⟨#[]⟩ : ByteArray), (-1), (-1), ((rd_T110 s0_0 s0_1).f2)⟩ : S140) [.int .i64 1, .int .i64 t218, .string (⟨#[]⟩ : ByteArray), .string (⟨#[]⟩ : ByteArray), .int .i64 (-1), .int .i64 (-1), .int .i64 ((rd_T110 s0_0 s0_1).f2)] (fun k_ => (P1_ k_ ∨ w.heap.size ≤ k_)) (fun _ => False) rfl rfl ?aP (fun _ hk => hk.elim) ?aF ?aO ?aB ?aS ?aL ?_
          (case aP => exact k140_mkM _ _ _ (⟨1, t218, (⟨#[]⟩ : ByteArray), (⟨#[]⟩ : ByteArray), (-1), (-1), ((rd_T110 s0_0 s0_1).f2)⟩ : S140))
          (case aB => exact zq23)
          (case aF => exact (fun k_ hk => (.inr (Nat.le_trans zq58 hk))))
          (case aO => exact (zr HO_1.out))
          (case aS => exact (below_size zq23))
          (case aL => have := LMc25.out; omega)
          intro v220 w32 ho hb hg hat
          rw [← Ny219.out] at ho
          replace BK202 := za (blk_grown (g := gb202) (zb BK202.out) hg (Kd.R_ne HO_1.out BK202.out (by decide)))
          replace HI0 := za (IsS83.grown zq16 hg (IsS83.own_ne HI0.out HO_1.out (by decide)))
          replace HB := za (hb)
          replace HK := za (Kept.of_grown (S := (fun k_ => (P1_ k_) ∨ k_ = g)) hg zq22 (fun k_ e_ => Or.imp_left Or.inl ((HO_1.out.1 k_ e_))))
          have HO221 := za (ho)
          clear HO_1
          clear ho hb hg hat
          refine hK.out _ _ ⟨(blk_cell BK202.out 0).trans rfl, (blk_cell BK202.out 1).trans rfl, (blk_cell BK202.out 2).trans rfl⟩ (fun hHeld => ?_)
          clear hK K
          refine norm_ (a' := ?_) ?_ ?_
          rotate_left
          ·
           show Act.put _ (some 96) _ = _
           simp only [Act.put, List.setIfInBounds_toArray, List.set_cons_zero, List.set_cons_succ, i64_w, i32_w]
           rfl
          refine pure_ (i := 9) (N := some 4) #[true, true, true, true, true, true, true, true, true, true] rfl rfl (any_of HT_.out zq13) (fun _ _ _ h => h) (Or.inl ⟨by rfl, zpv⟩) zpw ?_
          refine done_ (done_of HT_.out zq13) ?_
          try go_wp2
          go_ret
          exact ⟨_, zq19, by (with_reducible repeat (first | apply Kd.R_alloc | apply Kd.R_drewN | apply Kd.R_drew)); exact HO221.out, zq16, zq23, zq22⟩
         ·
          rw [if_neg c25] at H
          exact absurd H (by simp)
        ·
         rw [if_neg c23] at H
         have c23b0 := beq_eq_false_iff_ne.mpr c23
         have c23b1 := bne_iff_ne.mpr c23
         by_cases c33 : ((rd_T110 s0_0 s0_1).f0) = 1
         ·
          rw [if_pos c33] at H
          have c33b0 := beq_iff_eq.mpr c33
          have c33b1 := bne_eq_false_iff_eq.mpr c33
          clear c33
          replace H := Option.bind_eq_some_iff.mp H
          obtain ⟨⟨t222, t223, t224, t225, t226, t227⟩, A340, H⟩ := H
          (try dsimp only at H)
          have A34 := za A340
          clear A340
          by_cases c35 : l1.length < 1954687338268
          ·
           rw [if_pos c35] at H
           have LMc35 := za c35
           clear c35
           obtain ⟨y228, hy228⟩ : ∃ y_ : List (S140), y_ = (l1 ++ [(⟨2, 0, t222, t223, (-1), (-1), ((rd_T110 s0_0 s0_1).f2)⟩ : S140)]) := ⟨_, rfl⟩
           replace H : (some (y228, t224, t225, t226, t227)) = some (r1, r2, r3, r4, r5) := by first | (rw [hy228]; with_reducible exact H) | (have H2_ := (Option.bind_some _ _).symm.trans H; rw [hy228]; with_reducible exact H2_) | (have H2_ := (Option.bind_some _ _).symm.trans H; with_reducible exact H2_) | with_reducible exact H | (rw [hy228]; exact H) | exact H
           have Ny228 := za hy228
           clear hy228
           simp only [Option.some.injEq, Prod.mk.injEq] at H
           obtain ⟨rfl, rfl, rfl, rfl, rfl⟩ := H
           go_wp2_with (first | ((with_reducible refine gate_callee (f := 54) rfl ?_); refine goesL_ (some 61) rfl rfl Try.func54 zq13 rfl #[.pointer (some ⟨g, 0, none⟩), .string (⟨#[40]⟩ : ByteArray)] rfl zq1 ?_; (with_reducible refine (rr_is.calls g s0_0 x1001_5 x1002_5 x1003_5 x1004_5 (⟨#[40]⟩ : ByteArray) false t214 t215 t216 t217 w0 _ ?side1 ?side2 A21.out).mono ?_); (case side1 => exact zq16); (case side2 => exact zq23); rintro e w36 ⟨rfl, hi, hb, hk⟩; refine ⟨_, rfl, ?_⟩; replace HO_1 := za (Kd.R_mono (Kd.R_keep (IsS83.apart (show IsS83 w0 _ g s0_0 x1001_5 x1002_5 x1003_5 x1004_5 from zq16) (zr HO_1.out) (by decide)) hk (fun _ h => h.2)) (fun _ h => h.1)); replace BK202 := za (KeepBut.blk hk (g' := gb202) (zb BK202.out) NB202_0.out (by simp)); replace HK := za (Kept.of_keep (S := (fun k_ => (P1_ k_) ∨ k_ = g)) zq22 hk (.inl (.inr rfl))); replace HB := za (hb); replace HI0 := za (hi); (try clear hb hk hi); have hnb37 := NB202_0.out; have hnc37 := NB0_202.out; obtain ⟨hcz38_0, hcz38_1, hcz38_2⟩ := zc3 BK202.out; obtain ⟨hfz38_0, hfz38_1⟩ := zf2 BK202.out; have hfz38_2 := blk_frozen BK202.out 2) | ((with_reducible refine gate_callee (f := 72) rfl ?_); refine goesL_ (some 103) rfl rfl Try.func72 zq13 rfl #[.pointer (some ⟨g, 0, none⟩)] rfl zq1 ?_; (with_reducible refine (rr_qname.calls g s0_0 t214 t215 t216 t217 t222 t223 t224 t225 t226 t227 w0 _ ?side1 ?side2 A34.out).mono ?_); (case side1 => exact zq16); (case side2 => exact zq23); rintro e w39 ⟨rfl, hi, hb, hk⟩; refine ⟨_, rfl, ?_⟩; replace HO_1 := za (Kd.R_mono (Kd.R_keep (IsS83.apart (show IsS83 w0 _ g s0_0 t214 t215 t216 t217 from zq16) (zr HO_1.out) (by decide)) hk (fun _ h => h.2)) (fun _ h => h.1)); replace BK202 := za (KeepBut.blk hk (g' := gb202) (zb BK202.out) NB202_0.out (by simp)); replace HK := za (Kept.of_keep (S := (fun k_ => (P1_ k_) ∨ k_ = g)) zq22 hk (.inl (.inr rfl))); replace HB := za (hb); replace HI0 := za (hi); (try clear hb hk hi); obtain ⟨hcz40_0, hcz40_1, hcz40_2⟩ := zc3 BK202.out; obtain ⟨hfz40_0, hfz40_1⟩ := zf2 BK202.out; have hfz40_2 := blk_frozen BK202.out 2) | ((with_reducible refine gate_builtin (b := .append) (xs := #[.tmp 106, .tmp 112]) rfl ?_); at_builtin; refine Kd.R_append k140 (w0 := w0) w0.heap.size rfl (.tmp 106) (.tmp 112) 88 140 (.agg #[(.int .i64 0), (.int .i64 0), (.string ⟨#[]⟩), (.string ⟨#[]⟩), (.int .i64 0), (.int .i64 0), (.int .i64 0)]) 72 rfl Try.underlying88 info140 rfl (by decide) (by omega) u9000_ l1 (⟨2, 0, t222, t223, (-1), (-1), ((rd_T110 s0_0 s0_1).f2)⟩ : S140) [.int .i64 2, .int .i64 0, .string t222, .string t223, .int .i64 (-1), .int .i64 (-1), .int .i64 ((rd_T110 s0_0 s0_1).f2)] (fun k_ => (P1_ k_ ∨ w.heap.size ≤ k_)) (fun _ => False) rfl rfl ?aP (fun _ hk => hk.elim) ?aF ?aO ?aB ?aS ?aL ?_; (case aP => exact k140_mkM _ _ _ (⟨2, 0, t222, t223, (-1), (-1), ((rd_T110 s0_0 s0_1).f2)⟩ : S140)); (case aB => exact zq23); (case aF => exact (fun k_ hk => (.inr (Nat.le_trans zq58 hk)))); (case aO => exact (zr HO_1.out)); (case aS => exact (below_size zq23)); (case aL => have := LMc35.out; omega); intro v229 w41 ho hb hg hat; rw [← Ny228.out] at ho; replace BK202 := za (blk_grown (g := gb202) (zb BK202.out) hg (Kd.R_ne HO_1.out BK202.out (by decide))); replace HI0 := za (IsS83.grown zq16 hg (IsS83.own_ne HI0.out HO_1.out (by decide))); replace HB := za (hb); replace HK := za (Kept.of_grown (S := (fun k_ => (P1_ k_) ∨ k_ = g)) hg zq22 (fun k_ e_ => Or.imp_left Or.inl ((HO_1.out.1 k_ e_)))); have HO230 := za (ho); clear HO_1; clear ho hb hg hat))
           go_ret
           exact ⟨_, zq19, by (with_reducible repeat (first | apply Kd.R_alloc | apply Kd.R_drewN | apply Kd.R_drew)); exact HO230.out, zq16, zq23, zq22⟩
          ·
           rw [if_neg c35] at H
           exact absurd H (by simp)
         ·
          rw [if_neg c33] at H
          exact absurd H (by simp)
   ·
    rw [if_neg c5] at H
    exact absurd H (by simp)
  ·
   rw [if_neg c4] at H
   exact absurd H (by simp)
 ·
  rw [if_neg c3] at H
  exact absurd H (by simp)
def rr_term.l0 : Nat → List (S140) → List (S110) → Int → Int → Int → Int → Option ((List (S140)) × Int × Int × Int × Int)
 | 0, _, _, _, _, _, _ => none
 | k + 1, x1, x1000, x1001, x1002, x1003, x1004 => if x1003 = 0 then ((rr_here.f x1000 x1001 x1002 x1003 x1004).bind fun bt238 => ((rr_take.f x1000 bt238.2.1 bt238.2.2.1 bt238.2.2.2.1 bt238.2.2.2.2 (⟨#[42]⟩ : ByteArray)).bind fun bt243 => (if bt243.1 = true then ((rr_unary.f k x1000 bt243.2.1 bt243.2.2.1 bt243.2.2.2.1 bt243.2.2.2.2 x1).bind fun bt248 => ((ra_two.f bt248.1 (wrap64 ((x1.length : Int) - 1)) 7 bt238.1).bind fun t255 => (rr_term.l0 k t255 x1000 bt248.2.1 bt248.2.2.1 bt248.2.2.2.1 bt248.2.2.2.2))) else ((rr_take.f x1000 bt243.2.1 bt243.2.2.1 bt243.2.2.2.1 bt243.2.2.2.2 (⟨#[47]⟩ : ByteArray)).bind fun bt258 => (if bt258.1 = true then (none) else ((rr_take.f x1000 bt258.2.1 bt258.2.2.1 bt258.2.2.2.1 bt258.2.2.2.2 (⟨#[37]⟩ : ByteArray)).bind fun bt263 => (if bt263.1 = true then (none) else (some (x1, bt263.2.1, bt263.2.2.1, bt263.2.2.2.1, bt263.2.2.2.2))))))))) else (none)
def rr_term.f (k : Nat) (s0_0 : List (S110)) (s0_1 : Int) (s0_2 : Int) (s0_3 : Int) (s0_4 : Int) (l1 : List (S140)) : Option ((List (S140)) × Int × Int × Int × Int) := (rr_unary.f k s0_0 s0_1 s0_2 s0_3 s0_4 l1).bind fun bt231 => (rr_term.l0 k bt231.1 s0_0 bt231.2.1 bt231.2.2.1 bt231.2.2.2.1 bt231.2.2.2.2)
theorem rr_term.mono_l : ∀ k, (∀ y0 y1 y2 y3 y4 y5, LeO (rr_term.l0 k y0 y1 y2 y3 y4 y5) (rr_term.l0 (k + 1) y0 y1 y2 y3 y4 y5))
 | 0 => fun _ _ _ _ _ _ r h => by simp [rr_term.l0] at h
 | k + 1 => by
  have ih0 := rr_term.mono_l k
  ·
   intro y0 y1 y2 y3 y4 y5
   unfold rr_term.l0
   repeat' with_reducible first | apply ih0 | apply rr_unary.mono | exact LeO.refl _ | exact LeO.none _ | refine LeO.ite ?_ ?_ | refine LeO.bind ?_ (fun _ => ?_)
theorem rr_term.mono : ∀ a0 a1 a2 a3 a4 a5 k, LeO (rr_term.f k a0 a1 a2 a3 a4 a5) (rr_term.f (k + 1) a0 a1 a2 a3 a4 a5) := by
 intro a0 a1 a2 a3 a4 a5 k
 have ih0 := rr_term.mono_l k
 unfold rr_term.f
 repeat' with_reducible first | apply ih0 | apply rr_unary.mono | exact LeO.refl _ | exact LeO.none _ | refine LeO.ite ?_ ?_ | refine LeO.bind ?_ (fun _ => ?_)
set_option maxHeartbeats 8000000 in
set_option maxRecDepth 100000 in
theorem rr_term.calls (k : Nat) (g : Nat) (s0_0 : List (S110)) (s0_1 : Int) (s0_2 : Int) (s0_3 : Int) (s0_4 : Int) (P1_ : Nat → Prop) (u9000_ : Value) (l1 : List (S140)) (r1 : List (S140)) (r2 : Int) (r3 : Int) (r4 : Int) (r5 : Int) (w0 w : World) (hI : IsS83 w0 w g s0_0 s0_1 s0_2 s0_3 s0_4) (hB : Below w0.heap.size w0 w) (ho1 : Kd.R k140 140 w w0.heap.size P1_ u9000_ l1) (h : rr_term.f k s0_0 s0_1 s0_2 s0_3 s0_4 l1 = some (r1, r2, r3, r4, r5)) :
  Calls Try.prog 92 #[.pointer (some ⟨g, 0, none⟩), u9000_] w fun e w' => ∃ v0_ : Value, e = .returned (v0_) ∧ Kd.R k140 140 w' w0.heap.size (fun k_ => (P1_ k_ ∨ w.heap.size ≤ k_)) v0_ r1 ∧ IsS83 w0 w' g s0_0 r2 r3 r4 r5 ∧ Below w0.heap.size w0 w' ∧ Kept w w' (fun k_ => (P1_ k_) ∨ k_ = g) := by
 have HO1 := za (show Kd.R k140 140 w w0.heap.size (fun k_ => (P1_ k_ ∨ w.heap.size ≤ k_)) u9000_ l1 from Kd.R_mono ho1 (fun k_ hk => (.inl hk)))
 have HI0 := za hI
 have HL := za hB.size
 clear hI
 have HK := za (Kept.refl w (fun k_ => (P1_ k_) ∨ k_ = g))
 have HW0 := za hB.size
 have HB := za hB
 clear hB
 have H : ((rr_unary.f k s0_0 s0_1 s0_2 s0_3 s0_4 l1).bind fun bt231 => (rr_term.l0 k bt231.1 s0_0 bt231.2.1 bt231.2.2.1 bt231.2.2.2.1 bt231.2.2.2.2)) = some (r1, r2, r3, r4, r5) := h
 clear h
 replace H := Option.bind_eq_some_iff.mp H
 obtain ⟨⟨t231, t234, t235, t236, t237⟩, A30, H⟩ := H
 (try dsimp only at H)
 have A3 := za A30
 clear A30
 have H' := za H
 clear H
 obtain ⟨Ao4, co4, eo4⟩ := Kd.R_slice HO1.out
 subst eo4
 go_enter Try.func92, Try.ntmps92
 go_wp2_with (first | ((with_reducible refine gate_callee (f := 95) rfl ?_); refine goesL_ (some 9) rfl rfl Try.func95 zq13 rfl #[.pointer (some ⟨g, 0, none⟩), .slice Ao4 l1.length co4] rfl zq1 ?_; (with_reducible refine (rr_unary.calls k g s0_0 s0_1 s0_2 s0_3 s0_4 (fun k_ => some k_ = (.slice Ao4 l1.length co4 : Value).ownBlock) (.slice Ao4 l1.length co4) l1 t231 t234 t235 t236 t237 w0 _ ?side1 ?side2 ?side3 A3.out).mono ?_); (case side1 => exact zq0); (case side2 => exact zq2); (case side3 => exact Kd.R_tight rfl HO1.out); rintro e w5 ⟨v232, rfl, ho0, hi, hb, hkp⟩; refine ⟨_, rfl, ?_⟩; replace HI0 := za (hi); have HO233 := za (Kd.R_mono (ok' := fun k_ => (P1_ k_ ∨ w.heap.size ≤ k_)) ho0 (fun k_ hk_ => Or.elim hk_ (fun hs_ => (HO1.out.1 k_ (hs_).symm)) (fun hn_ => (.inr (Nat.le_trans zq25 hn_))))); replace HK := za (Kept.then_ (S := (fun k_ => (P1_ k_) ∨ k_ = g)) zq7 hkp (fun k_ hs_ => Or.elim hs_ (fun hs_ => (fun e_ => Or.imp_left Or.inl ((HO1.out.1 k_ e_.symm))) hs_) (fun e_ => .inl (.inr e_)))); replace HB := za (hb); clear HO1; (try clear hb hkp ho0)))
 (try simp only [Act.put, List.setIfInBounds_toArray, List.set_cons_zero, List.set_cons_succ])
 go_loopg [1] k (fun kq v1 w' => ∃ (x1_1 : List (S140)) (x1001_1 : Int) (x1002_1 : Int) (x1003_1 : Int) (x1004_1 : Int), Aside0 (rr_term.l0 kq x1_1 s0_0 x1001_1 x1002_1 x1003_1 x1004_1 = some (r1, r2, r3, r4, r5)) ∧ Aside0 (kq ≤ k) ∧ Aside0 (Kd.R k140 140 w' w0.heap.size (fun k_ => (P1_ k_ ∨ w.heap.size ≤ k_)) v1 x1_1) ∧ Aside0 (IsS83 w0 w' g s0_0 x1001_1 x1002_1 x1003_1 x1004_1) ∧ Aside0 (Kept w w' (fun k_ => (P1_ k_) ∨ k_ = g)) ∧ Aside0 (Below w0.heap.size w0 w'))
 case atStart => exact ⟨(t231), (t234), (t235), (t236), (t237), H', ⟨Nat.le_refl _⟩, ⟨by (with_reducible repeat (first | apply Kd.R_alloc | apply Kd.R_drewN | apply Kd.R_drew)); exact HO233.out⟩, ⟨zq0⟩, ⟨zq7⟩, ⟨zq2⟩⟩
 case round =>
  clear H'
  obtain ⟨x1_1, x1001_1, x1002_1, x1003_1, x1004_1, HA, HK1, HO_1, HI0, HK, HB⟩ := hrel
  cases gk with
  | zero => exact absurd HA.out (by simp [rr_term.l0])
  | succ k1 =>
   have H := HA.out
   clear HA
   simp only [rr_term.l0] at H
   by_cases c6 : x1003_1 = 0
   ·
    rw [if_pos c6] at H
    have c6b0 := beq_iff_eq.mpr c6
    have c6b1 := bne_eq_false_iff_eq.mpr c6
    clear c6
    replace H := Option.bind_eq_some_iff.mp H
    obtain ⟨⟨t238, t239, t240, t241, t242⟩, A70, H⟩ := H
    (try dsimp only at H)
    have A7 := za A70
    clear A70
    replace H := Option.bind_eq_some_iff.mp H
    obtain ⟨⟨t243, t244, t245, t246, t247⟩, A80, H⟩ := H
    (try dsimp only at H)
    have A8 := za A80
    clear A80
    by_cases c9 : t243 = true
    ·
     subst c9
     rw [if_pos rfl] at H
     replace H := Option.bind_eq_some_iff.mp H
     obtain ⟨⟨t248, t251, t252, t253, t254⟩, A100, H⟩ := H
     (try dsimp only at H)
     have A10 := za A100
     clear A100
     replace H := Option.bind_eq_some_iff.mp H
     obtain ⟨t255, A110, H⟩ := H
     (try dsimp only at H)
     have A11 := za A110
     clear A110
     have H' := za H
     clear H
     obtain ⟨ASz12_0, cSz12_0, HGz12, hgz12, HSz12_0⟩ := HI0.out
     have hcz12_0 := cellS83_0 HGz12
     have hcz12_1 := cellS83_1 HGz12
     have hcz12_2 := cellS83_2 HGz12
     have hcz12_3 := cellS83_3 HGz12
     have hcz12_4 := cellS83_4 HGz12
     have hfz12_1 := blk_frozen HGz12 1
     have hfz12_2 := blk_frozen HGz12 2
     have hfz12_3 := blk_frozen HGz12 3
     have hfz12_4 := blk_frozen HGz12 4
     clear HGz12 hgz12
     obtain ⟨Ao13, co13, eo13⟩ := Kd.R_slice HO_1.out
     subst eo13
     go_wp2_with (first | ((with_reducible refine gate_callee (f := 46) rfl ?_); refine goesL_ (some 19) rfl rfl Try.func46 zq13 rfl #[.pointer (some ⟨g, 0, none⟩)] rfl zq1 ?_; (with_reducible refine (rr_here.calls g s0_0 x1001_1 x1002_1 x1003_1 x1004_1 t238 t239 t240 t241 t242 w0 _ ?side1 ?side2 A7.out).mono ?_); (case side1 => exact zq0); (case side2 => exact zq2); rintro e w14 ⟨rfl, hi, hb, hk⟩; refine ⟨_, rfl, ?_⟩; replace HO_1 := za (Kd.R_mono (Kd.R_keep (IsS83.apart (show IsS83 w0 _ g s0_0 x1001_1 x1002_1 x1003_1 x1004_1 from zq0) (zr HO_1.out) (by decide)) hk (fun _ h => h.2)) (fun _ h => h.1)); replace HK := za (Kept.of_keep (S := (fun k_ => (P1_ k_) ∨ k_ = g)) zq7 hk (.inl (.inr rfl))); replace HB := za (hb); replace HI0 := za (hi); (try clear hb hk hi)) | ((with_reducible refine gate_callee (f := 48) rfl ?_); refine goesL_ (some 23) rfl rfl Try.func48 zq13 rfl #[.pointer (some ⟨g, 0, none⟩), .string (⟨#[42]⟩ : ByteArray)] rfl zq1 ?_; (with_reducible refine (rr_take.calls g s0_0 t239 t240 t241 t242 (⟨#[42]⟩ : ByteArray) true t244 t245 t246 t247 w0 _ ?side1 ?side2 A8.out).mono ?_); (case side1 => exact zq0); (case side2 => exact zq2); rintro e w15 ⟨rfl, hi, hb, hk⟩; refine ⟨_, rfl, ?_⟩; replace HO_1 := za (Kd.R_mono (Kd.R_keep (IsS83.apart (show IsS83 w0 _ g s0_0 t239 t240 t241 t242 from zq0) (zr HO_1.out) (by decide)) hk (fun _ h => h.2)) (fun _ h => h.1)); replace HK := za (Kept.of_keep (S := (fun k_ => (P1_ k_) ∨ k_ = g)) zq7 hk (.inl (.inr rfl))); replace HB := za (hb); replace HI0 := za (hi); (try clear hb hk hi)) | ((with_reducible refine gate_callee (f := 95) rfl ?_); refine goesL_ (some 26) rfl rfl Try.func95 zq13 rfl #[.pointer (some ⟨g, 0, none⟩), .slice Ao13 x1_1.length co13] rfl zq1 ?_; (with_reducible refine (rr_unary.calls k1 g s0_0 t244 t245 t246 t247 (fun k_ => some k_ = (.slice Ao13 x1_1.length co13 : Value).ownBlock) (.slice Ao13 x1_1.length co13) x1_1 t248 t251 t252 t253 t254 w0 _ ?side1 ?side2 ?side3 A10.out).mono ?_); (case side1 => exact zq0); (case side2 => exact zq2); (case side3 => exact Kd.R_tight rfl HO_1.out); rintro e w16 ⟨v249, rfl, ho0, hi, hb, hkp⟩; refine ⟨_, rfl, ?_⟩; replace HI0 := za (hi); have HO250 := za (Kd.R_mono (ok' := fun k_ => (P1_ k_ ∨ w.heap.size ≤ k_)) ho0 (fun k_ hk_ => Or.elim hk_ (fun hs_ => (HO_1.out.1 k_ (hs_).symm)) (fun hn_ => (.inr (Nat.le_trans zq25 hn_))))); replace HK := za (Kept.then_ (S := (fun k_ => (P1_ k_) ∨ k_ = g)) zq7 hkp (fun k_ hs_ => Or.elim hs_ (fun hs_ => (fun e_ => Or.imp_left Or.inl ((HO_1.out.1 k_ e_.symm))) hs_) (fun e_ => .inl (.inr e_)))); replace HB := za (hb); clear HO_1; (try clear hb hkp ho0); obtain ⟨Ao17, co17, eo17⟩ := Kd.R_slice HO250.out; subst eo17) | ((with_reducible refine gate_callee (f := 83) rfl ?_); refine goesL_ (some 29) rfl rfl Try.func83 zq13 rfl #[.slice Ao17 t248.length co17, .int .i64 (wrap64 ((x1_1.length : Int) - 1)), .int .i64 7, .int .i64 t238] rfl zq1 ?_; (with_reducible refine (ra_two.calls (fun k_ => some k_ = (.slice Ao17 t248.length co17 : Value).ownBlock) (.slice Ao17 t248.length co17) t248 (wrap64 ((x1_1.length : Int) - 1)) 7 t238 t255 w0 _ ?side1 ?side2 A11.out).mono ?_); (case side1 => exact zq2); (case side2 => exact Kd.R_tight rfl HO250.out); rintro e w18 ⟨v256, rfl, ho0, hb, hkp⟩; refine ⟨_, rfl, ?_⟩; replace HI0 := za (IsS83.kept zq0 hkp (fun hs_ => (fun e_ => (IsS83.own_ne HI0.out HO250.out (by decide)) e_) hs_)); have HO257 := za (Kd.R_mono (ok' := fun k_ => (P1_ k_ ∨ w.heap.size ≤ k_)) ho0 (fun k_ hk_ => Or.elim hk_ (fun hs_ => (HO250.out.1 k_ (hs_).symm)) (fun hn_ => (.inr (Nat.le_trans zq25 hn_))))); replace HK := za (Kept.then_ (S := (fun k_ => (P1_ k_) ∨ k_ = g)) zq7 hkp (fun k_ hs_ => (fun e_ => Or.imp_left Or.inl ((HO250.out.1 k_ e_.symm))) hs_)); replace HB := za (hb); clear HO250; (try clear hb hkp ho0)))
     go_roundg k1
     case measure => have := HK1.out; omega
     case rel => exact ⟨(t255), (t251), (t252), (t253), (t254), H', ⟨by have := HK1.out; omega⟩, ⟨by (with_reducible repeat (first | apply Kd.R_alloc | apply Kd.R_drewN | apply Kd.R_drew)); exact HO257.out⟩, ⟨zq0⟩, ⟨zq7⟩, ⟨zq2⟩⟩
    ·
     replace c9 := Bool.eq_false_iff.mpr c9
     subst c9
     rw [if_neg (show ¬ (false = true) by decide)] at H
     replace H := Option.bind_eq_some_iff.mp H
     obtain ⟨⟨t258, t259, t260, t261, t262⟩, A190, H⟩ := H
     (try dsimp only at H)
     have A19 := za A190
     clear A190
     by_cases c20 : t258 = true
     ·
      subst c20
      rw [if_pos rfl] at H
      exact absurd H (by simp)
     ·
      replace c20 := Bool.eq_false_iff.mpr c20
      subst c20
      rw [if_neg (show ¬ (false = true) by decide)] at H
      replace H := Option.bind_eq_some_iff.mp H
      obtain ⟨⟨t263, t264, t265, t266, t267⟩, A210, H⟩ := H
      (try dsimp only at H)
      have A21 := za A210
      clear A210
      by_cases c22 : t263 = true
      ·
       subst c22
       rw [if_pos rfl] at H
       exact absurd H (by simp)
      ·
       replace c22 := Bool.eq_false_iff.mpr c22
       subst c22
       rw [if_neg (show ¬ (false = true) by decide)] at H
       simp only [Option.some.injEq, Prod.mk.injEq] at H
       obtain ⟨rfl, rfl, rfl, rfl, rfl⟩ := H
       obtain ⟨ASz23_0, cSz23_0, HGz23, hgz23, HSz23_0⟩ := HI0.out
       have hcz23_0 := cellS83_0 HGz23
       have hcz23_1 := cellS83_1 HGz23
       have hcz23_2 := cellS83_2 HGz23
       have hcz23_3 := cellS83_3 HGz23
       have hcz23_4 := cellS83_4 HGz23
       have hfz23_1 := blk_frozen HGz23 1
       have hfz23_2 := blk_frozen HGz23 2
       have hfz23_3 := blk_frozen HGz23 3
       have hfz23_4 := blk_frozen HGz23 4
       clear HGz23 hgz23
       obtain ⟨Ao24, co24, eo24⟩ := Kd.R_slice HO_1.out
       subst eo24
       go_wp2_with (first | ((with_reducible refine gate_callee (f := 46) rfl ?_); refine goesL_ (some 19) rfl rfl Try.func46 zq13 rfl #[.pointer (some ⟨g, 0, none⟩)] rfl zq1 ?_; (with_reducible refine (rr_here.calls g s0_0 x1001_1 x1002_1 x1003_1 x1004_1 t238 t239 t240 t241 t242 w0 _ ?side1 ?side2 A7.out).mono ?_); (case side1 => exact zq0); (case side2 => exact zq2); rintro e w25 ⟨rfl, hi, hb, hk⟩; refine ⟨_, rfl, ?_⟩; replace HO_1 := za (Kd.R_mono (Kd.R_keep (IsS83.apart (show IsS83 w0 _ g s0_0 x1001_1 x1002_1 x1003_1 x1004_1 from zq0) (zr HO_1.out) (by decide)) hk (fun _ h => h.2)) (fun _ h => h.1)); replace HK := za (Kept.of_keep (S := (fun k_ => (P1_ k_) ∨ k_ = g)) zq7 hk (.inl (.inr rfl))); replace HB := za (hb); replace HI0 := za (hi); (try clear hb hk hi)) | ((with_reducible refine gate_callee (f := 48) rfl ?_); refine goesL_ (some 23) rfl rfl Try.func48 zq13 rfl #[.pointer (some ⟨g, 0, none⟩), .string (⟨#[42]⟩ : ByteArray)] rfl zq1 ?_; (with_reducible refine (rr_take.calls g s0_0 t239 t240 t241 t242 (⟨#[42]⟩ : ByteArray) false t244 t245 t246 t247 w0 _ ?side1 ?side2 A8.out).mono ?_); (case side1 => exact zq0); (case side2 => exact zq2); rintro e w26 ⟨rfl, hi, hb, hk⟩; refine ⟨_, rfl, ?_⟩; replace HO_1 := za (Kd.R_mono (Kd.R_keep (IsS83.apart (show IsS83 w0 _ g s0_0 t239 t240 t241 t242 from zq0) (zr HO_1.out) (by decide)) hk (fun _ h => h.2)) (fun _ h => h.1)); replace HK := za (Kept.of_keep (S := (fun k_ => (P1_ k_) ∨ k_ = g)) zq7 hk (.inl (.inr rfl))); replace HB := za (hb); replace HI0 := za (hi); (try clear hb hk hi)) | ((with_reducible refine gate_callee (f := 48) rfl ?_); refine goesL_ (some 32) rfl rfl Try.func48 zq13 rfl #[.pointer (some ⟨g, 0, none⟩), .string (⟨#[47]⟩ : ByteArray)] rfl zq1 ?_; (with_reducible refine (rr_take.calls g s0_0 t244 t245 t246 t247 (⟨#[47]⟩ : ByteArray) false t259 t260 t261 t262 w0 _ ?side1 ?side2 A19.out).mono ?_); (case side1 => exact zq0); (case side2 => exact zq2); rintro e w27 ⟨rfl, hi, hb, hk⟩; refine ⟨_, rfl, ?_⟩; replace HO_1 := za (Kd.R_mono (Kd.R_keep (IsS83.apart (show IsS83 w0 _ g s0_0 t244 t245 t246 t247 from zq0) (zr HO_1.out) (by decide)) hk (fun _ h => h.2)) (fun _ h => h.1)); replace HK := za (Kept.of_keep (S := (fun k_ => (P1_ k_) ∨ k_ = g)) zq7 hk (.inl (.inr rfl))); replace HB := za (hb); replace HI0 := za (hi); (try clear hb hk hi)) | ((with_reducible refine gate_callee (f := 48) rfl ?_); refine goesL_ (some 41) rfl rfl Try.func48 zq13 rfl #[.pointer (some ⟨g, 0, none⟩), .string (⟨#[37]⟩ : ByteArray)] rfl zq1 ?_; (with_reducible refine (rr_take.calls g s0_0 t259 t260 t261 t262 (⟨#[37]⟩ : ByteArray) false t264 t265 t266 t267 w0 _ ?side1 ?side2 A21.out).mono ?_); (case side1 => exact zq0); (case side2 => exact zq2); rintro e w28 ⟨rfl, hi, hb, hk⟩; refine ⟨_, rfl, ?_⟩; replace HO_1 := za (Kd.R_mono (Kd.R_keep (IsS83.apart (show IsS83 w0 _ g s0_0 t259 t260 t261 t262 from zq0) (zr HO_1.out) (by decide)) hk (fun _ h => h.2)) (fun _ h => h.1)); replace HK := za (Kept.of_keep (S := (fun k_ => (P1_ k_) ∨ k_ = g)) zq7 hk (.inl (.inr rfl))); replace HB := za (hb); replace HI0 := za (hi); (try clear hb hk hi)))
       go_ret
       exact ⟨_, zq19, zq73, zq0, zq2, zq7⟩
   ·
    rw [if_neg c6] at H
    exact absurd H (by simp)
end Go.Proofs.Ytcjnhnnfoadklaa.QRunCalls
