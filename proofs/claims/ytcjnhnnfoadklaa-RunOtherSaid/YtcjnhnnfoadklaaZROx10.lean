import Derived.Test.YtcjnhnnfoadklaaZROx9
namespace Go.Proofs.Ytcjnhnnfoadklaa.QRunOther
open Go.RowKit Go.Proofs.YtcjnhnnfoadklaaW.PrintWords Go.Proofs.YtcjnhnnfoadklaaW.PrintLast Go.Proofs.YtcjnhnnfoadklaaW.PrintMore
attribute [local go_sem] max2_int min2_int max_two min_two max_three min_three max_four min_four
set_option linter.unusedVariables false
set_option linter.unusedSimpArgs false
def rr_take.f (s0_0 : List (S110)) (s0_1 : Int) (s0_2 : Int) (s0_3 : Int) (s0_4 : Int) (a1 : ByteArray) : Option (Bool × Int × Int × Int × Int) := (rr_is.f s0_0 s0_1 s0_2 s0_3 s0_4 a1).bind fun bt164 => (if bt164.1 = true then (some (true, wrap64 (bt164.2.1 + 1), bt164.2.2.1, bt164.2.2.2.1, bt164.2.2.2.2)) else (some (false, bt164.2.1, bt164.2.2.1, bt164.2.2.2.1, bt164.2.2.2.2)))
set_option maxHeartbeats 8000000 in
set_option maxRecDepth 100000 in
theorem rr_take.calls (g : Nat) (s0_0 : List (S110)) (s0_1 : Int) (s0_2 : Int) (s0_3 : Int) (s0_4 : Int) (a1 : ByteArray) (r1 : Bool) (r2 : Int) (r3 : Int) (r4 : Int) (r5 : Int) (w0 w : World) (hI : IsS83 w0 w g s0_0 s0_1 s0_2 s0_3 s0_4) (hB : Below w0.heap.size w0 w) (h : rr_take.f s0_0 s0_1 s0_2 s0_3 s0_4 a1 = some (r1, r2, r3, r4, r5)) :
  Calls Try.prog 48 #[.pointer (some ⟨g, 0, none⟩), .string a1] w fun e w' => e = .returned (.bool r1) ∧ IsS83 w0 w' g s0_0 r2 r3 r4 r5 ∧ Below w0.heap.size w0 w' ∧ KeepBut w w' g none := by
 have HI0 := za hI
 have HK := za (KeepBut.refl w g none)
 have HL := za hB.size
 clear hI
 have HW0 := za hB.size
 have HB := za hB
 clear hB
 have H : ((rr_is.f s0_0 s0_1 s0_2 s0_3 s0_4 a1).bind fun bt164 => (if bt164.1 = true then (some (true, wrap64 (bt164.2.1 + 1), bt164.2.2.1, bt164.2.2.2.1, bt164.2.2.2.2)) else (some (false, bt164.2.1, bt164.2.2.1, bt164.2.2.2.1, bt164.2.2.2.2)))) = some (r1, r2, r3, r4, r5) := h
 clear h
 replace H := Option.bind_eq_some_iff.mp H
 obtain ⟨⟨t164, t165, t166, t167, t168⟩, A30, H⟩ := H
 (try dsimp only at H)
 have A3 := za A30
 clear A30
 by_cases c4 : t164 = true
 ·
  subst c4
  rw [if_pos rfl] at H
  simp only [Option.some.injEq, Prod.mk.injEq] at H
  obtain ⟨rfl, rfl, rfl, rfl, rfl⟩ := H
  go_enter Try.func48, Try.ntmps48
  go_wp2_with (first | ((with_reducible refine gate_callee (f := 54) rfl ?_); refine goesL_ (some 7) rfl rfl Try.func54 zq16 rfl #[.pointer (some ⟨g, 0, none⟩), .string a1] rfl zq1 ?_; (with_reducible refine (rr_is.calls g s0_0 s0_1 s0_2 s0_3 s0_4 a1 true t165 t166 t167 t168 w0 _ ?side1 ?side2 A3.out).mono ?_); (case side1 => exact zq0); (case side2 => exact zq5); rintro e w5 ⟨rfl, hi, hb, hk⟩; refine ⟨_, rfl, ?_⟩; replace HK := za (KeepBut.trans zq6 hk (.inl rfl)); replace HB := za (hb); replace HI0 := za (hi); (try clear hb hk hi); obtain ⟨ASz6_0, cSz6_0, HGz6, hgz6, HSz6_0⟩ := HI0.out; have hcz6_0 := cellS83_0 HGz6; have hcz6_1 := cellS83_1 HGz6; have hcz6_2 := cellS83_2 HGz6; have hcz6_3 := cellS83_3 HGz6; have hcz6_4 := cellS83_4 HGz6; have hfz6_1 := blk_frozen HGz6 1; have hfz6_2 := blk_frozen HGz6 2; have hfz6_3 := blk_frozen HGz6 3; have hfz6_4 := blk_frozen HGz6 4; clear HGz6 hgz6))
  go_ret
  exact ⟨zq19, zq0, zq5, zq6⟩
 ·
  replace c4 := Bool.eq_false_iff.mpr c4
  subst c4
  rw [if_neg (show ¬ (false = true) by decide)] at H
  simp only [Option.some.injEq, Prod.mk.injEq] at H
  obtain ⟨rfl, rfl, rfl, rfl, rfl⟩ := H
  go_enter Try.func48, Try.ntmps48
  go_wp2_with (first | ((with_reducible refine gate_callee (f := 54) rfl ?_); refine goesL_ (some 7) rfl rfl Try.func54 zq16 rfl #[.pointer (some ⟨g, 0, none⟩), .string a1] rfl zq1 ?_; (with_reducible refine (rr_is.calls g s0_0 s0_1 s0_2 s0_3 s0_4 a1 false t165 t166 t167 t168 w0 _ ?side1 ?side2 A3.out).mono ?_); (case side1 => exact zq0); (case side2 => exact zq5); rintro e w7 ⟨rfl, hi, hb, hk⟩; refine ⟨_, rfl, ?_⟩; replace HK := za (KeepBut.trans zq6 hk (.inl rfl)); replace HB := za (hb); replace HI0 := za (hi); (try clear hb hk hi)))
  go_ret
  exact ⟨zq19, zq0, zq5, zq6⟩
def rr_want.f (s0_0 : List (S110)) (s0_1 : Int) (s0_2 : Int) (s0_3 : Int) (s0_4 : Int) (a1 : ByteArray) : Option (Int × Int × Int × Int) := (rr_take.f s0_0 s0_1 s0_2 s0_3 s0_4 a1).bind fun bt169 => (if bt169.1 = true then (some (bt169.2.1, bt169.2.2.1, bt169.2.2.2.1, bt169.2.2.2.2)) else (none))
set_option maxHeartbeats 8000000 in
set_option maxRecDepth 100000 in
theorem rr_want.calls (g : Nat) (s0_0 : List (S110)) (s0_1 : Int) (s0_2 : Int) (s0_3 : Int) (s0_4 : Int) (a1 : ByteArray) (r1 : Int) (r2 : Int) (r3 : Int) (r4 : Int) (w0 w : World) (hI : IsS83 w0 w g s0_0 s0_1 s0_2 s0_3 s0_4) (hB : Below w0.heap.size w0 w) (h : rr_want.f s0_0 s0_1 s0_2 s0_3 s0_4 a1 = some (r1, r2, r3, r4)) :
  Calls Try.prog 45 #[.pointer (some ⟨g, 0, none⟩), .string a1] w fun e w' => e = .returned (.tuple #[]) ∧ IsS83 w0 w' g s0_0 r1 r2 r3 r4 ∧ Below w0.heap.size w0 w' ∧ KeepBut w w' g none := by
 have HI0 := za hI
 have HK := za (KeepBut.refl w g none)
 have HL := za hB.size
 clear hI
 have HW0 := za hB.size
 have HB := za hB
 clear hB
 have H : ((rr_take.f s0_0 s0_1 s0_2 s0_3 s0_4 a1).bind fun bt169 => (if bt169.1 = true then (some (bt169.2.1, bt169.2.2.1, bt169.2.2.2.1, bt169.2.2.2.2)) else (none))) = some (r1, r2, r3, r4) := h
 clear h
 replace H := Option.bind_eq_some_iff.mp H
 obtain ⟨⟨t169, t170, t171, t172, t173⟩, A30, H⟩ := H
 (try dsimp only at H)
 have A3 := za A30
 clear A30
 by_cases c4 : t169 = true
 ·
  subst c4
  rw [if_pos rfl] at H
  simp only [Option.some.injEq, Prod.mk.injEq] at H
  obtain ⟨rfl, rfl, rfl, rfl⟩ := H
  go_enter Try.func45, Try.ntmps45
  go_wp2_with (first | ((with_reducible refine gate_callee (f := 48) rfl ?_); refine goesL_ (some 6) rfl rfl Try.func48 zq16 rfl #[.pointer (some ⟨g, 0, none⟩), .string a1] rfl zq1 ?_; (with_reducible refine (rr_take.calls g s0_0 s0_1 s0_2 s0_3 s0_4 a1 true t170 t171 t172 t173 w0 _ ?side1 ?side2 A3.out).mono ?_); (case side1 => exact zq0); (case side2 => exact zq5); rintro e w5 ⟨rfl, hi, hb, hk⟩; refine ⟨_, rfl, ?_⟩; replace HK := za (KeepBut.trans zq6 hk (.inl rfl)); replace HB := za (hb); replace HI0 := za (hi); (try clear hb hk hi)))
  first | go_end0 | ((try simp only [Exit.inBlock, Exit.then]); refine bodyPost_ret (results_none rfl _ _ _) rfl ?_)
  exact ⟨zq19, zq0, zq5, zq6⟩
 ·
  replace c4 := Bool.eq_false_iff.mpr c4
  subst c4
  rw [if_neg (show ¬ (false = true) by decide)] at H
  exact absurd H (by simp)
def rr_here.f (s0_0 : List (S110)) (s0_1 : Int) (s0_2 : Int) (s0_3 : Int) (s0_4 : Int) : Option (Int × Int × Int × Int × Int) := if 0 ≤ s0_1 then (if s0_1 < (s0_0.length : Int) then (some ((rd_T110 s0_0 s0_1).f2, s0_1, s0_2, s0_3, s0_4)) else (none)) else (none)
set_option maxHeartbeats 8000000 in
set_option maxRecDepth 100000 in
theorem rr_here.calls (g : Nat) (s0_0 : List (S110)) (s0_1 : Int) (s0_2 : Int) (s0_3 : Int) (s0_4 : Int) (r1 : Int) (r2 : Int) (r3 : Int) (r4 : Int) (r5 : Int) (w0 w : World) (hI : IsS83 w0 w g s0_0 s0_1 s0_2 s0_3 s0_4) (hB : Below w0.heap.size w0 w) (h : rr_here.f s0_0 s0_1 s0_2 s0_3 s0_4 = some (r1, r2, r3, r4, r5)) :
  Calls Try.prog 46 #[.pointer (some ⟨g, 0, none⟩)] w fun e w' => e = .returned (.int .i64 r1) ∧ IsS83 w0 w' g s0_0 r2 r3 r4 r5 ∧ Below w0.heap.size w0 w' ∧ KeepBut w w' g none := by
 have HI0 := za hI
 have HK := za (KeepBut.refl w g none)
 have HL := za hB.size
 clear hI
 have HW0 := za hB.size
 have HB := za hB
 clear hB
 have H : (if 0 ≤ s0_1 then (if s0_1 < (s0_0.length : Int) then (some ((rd_T110 s0_0 s0_1).f2, s0_1, s0_2, s0_3, s0_4)) else (none)) else (none)) = some (r1, r2, r3, r4, r5) := h
 clear h
 by_cases c2 : 0 ≤ s0_1
 ·
  rw [if_pos c2] at H
  have c2b0 : decide (0 ≤ s0_1) = true := decide_eq_true c2
  clear c2
  by_cases c3 : s0_1 < (s0_0.length : Int)
  ·
   rw [if_pos c3] at H
   have c3b0 : decide (s0_1 < (s0_0.length : Int)) = true := decide_eq_true c3
   clear c3
   simp only [Option.some.injEq, Prod.mk.injEq] at H
   obtain ⟨rfl, rfl, rfl, rfl, rfl⟩ := H
   obtain ⟨ASz4_0, cSz4_0, HGz4, hgz4, HSz4_0⟩ := HI0.out
   have hcz4_0 := cellS83_0 HGz4
   have hcz4_1 := cellS83_1 HGz4
   have hcz4_2 := cellS83_2 HGz4
   have hcz4_3 := cellS83_3 HGz4
   have hcz4_4 := cellS83_4 HGz4
   have hfz4_1 := blk_frozen HGz4 1
   have hfz4_2 := blk_frozen HGz4 2
   have hfz4_3 := blk_frozen HGz4 3
   have hfz4_4 := blk_frozen HGz4 4
   clear HGz4 hgz4
   have p174 : 0 ≤ (s0_1 : Int) := of_decide_eq_true zq9
   have q174 : s0_1 < (s0_0.length : Int) := of_decide_eq_true zq9
   obtain ⟨ad174, e174, hx174_0, hx174_1, hx174_2⟩ := at_T110 HSz4_0 s0_1 p174 q174
   cases e174
   replace hx174_0 := pw_cell_below HB.out hx174_0
   replace hx174_1 := pw_cell_below HB.out hx174_1
   replace hx174_2 := pw_cell_below HB.out hx174_2
   replace p174 := eq_true p174
   replace q174 := eq_true q174
   go_enter Try.func46, Try.ntmps46
   go_wp2
   repeat (go_quiet (fail); try go_wp2)
   go_ret
   exact ⟨zq19, zq0, zq5, zq6⟩
  ·
   rw [if_neg c3] at H
   exact absurd H (by simp)
 ·
  rw [if_neg c2] at H
  exact absurd H (by simp)
def rr_name.f (s0_0 : List (S110)) (s0_1 : Int) (s0_2 : Int) (s0_3 : Int) (s0_4 : Int) : Option (ByteArray × Int × Int × Int × Int) := if 0 ≤ s0_1 then (if s0_1 < (s0_0.length : Int) then (if s0_3 = 0 then (if ((rd_T110 s0_0 s0_1).f0) = 1 then (some ((rd_T110 s0_0 s0_1).f1, wrap64 (s0_1 + 1), s0_2, s0_3, s0_4)) else (none)) else (none)) else (none)) else (none)
def rr_name.T1 : Bool × List (List Nat × List Nat) := (true, [([], []), ([0], [0]), ([1], [1]), ([2], [2]), ([], []), ([4], [4]), ([5], [5]), ([6], [6]), ([3, 7], [3, 7]), ([8], [8]), ([], []), ([10, 9, 0, 1, 2, 3, 4, 5, 6, 7, 8, 9, 10], [9, 10])])
def rr_name.B1 : List Nat := [0, 1, 3, 7, 0, 16, 48, 112, 255, 511, 0, 2047]
theorem rr_name.tab1 : rtab .any (opsOf Try.f47 1) = rr_name.T1 := by kernel_rfl
theorem rr_name.bits1 : waitsOk rr_name.T1.2 rr_name.B1 = true := by kernel_rfl
set_option maxHeartbeats 8000000 in
set_option maxRecDepth 100000 in
theorem rr_name.calls (g : Nat) (s0_0 : List (S110)) (s0_1 : Int) (s0_2 : Int) (s0_3 : Int) (s0_4 : Int) (r1 : ByteArray) (r2 : Int) (r3 : Int) (r4 : Int) (r5 : Int) (w0 w : World) (hI : IsS83 w0 w g s0_0 s0_1 s0_2 s0_3 s0_4) (hB : Below w0.heap.size w0 w) (h : rr_name.f s0_0 s0_1 s0_2 s0_3 s0_4 = some (r1, r2, r3, r4, r5)) :
  Calls Try.prog 47 #[.pointer (some ⟨g, 0, none⟩)] w fun e w' => e = .returned (.string r1) ∧ IsS83 w0 w' g s0_0 r2 r3 r4 r5 ∧ Below w0.heap.size w0 w' ∧ KeepBut w w' g none := by
 have hu110 := Try.underlying110
 have HI0 := za hI
 have HK := za (KeepBut.refl w g none)
 have HL := za hB.size
 clear hI
 have HW0 := za hB.size
 have HB := za hB
 clear hB
 have H : (if 0 ≤ s0_1 then (if s0_1 < (s0_0.length : Int) then (if s0_3 = 0 then (if ((rd_T110 s0_0 s0_1).f0) = 1 then (some ((rd_T110 s0_0 s0_1).f1, wrap64 (s0_1 + 1), s0_2, s0_3, s0_4)) else (none)) else (none)) else (none)) else (none)) = some (r1, r2, r3, r4, r5) := h
 clear h
 by_cases c2 : 0 ≤ s0_1
 ·
  rw [if_pos c2] at H
  have c2b0 : decide (0 ≤ s0_1) = true := decide_eq_true c2
  clear c2
  by_cases c3 : s0_1 < (s0_0.length : Int)
  ·
   rw [if_pos c3] at H
   have c3b0 : decide (s0_1 < (s0_0.length : Int)) = true := decide_eq_true c3
   clear c3
   by_cases c4 : s0_3 = 0
   ·
    rw [if_pos c4] at H
    have c4b0 := beq_iff_eq.mpr c4
    have c4b1 := bne_eq_false_iff_eq.mpr c4
    clear c4
    by_cases c5 : ((rd_T110 s0_0 s0_1).f0) = 1
    ·
     rw [if_pos c5] at H
     have c5b0 := beq_iff_eq.mpr c5
     have c5b1 := bne_eq_false_iff_eq.mpr c5
     clear c5
     simp only [Option.some.injEq, Prod.mk.injEq] at H
     obtain ⟨rfl, rfl, rfl, rfl, rfl⟩ := H
     go_enter Try.func47, Try.ntmps47
     try go_wp2
     replace HI0 := za (IsS83.drew HI0.out)
     replace HK := za (keep_drew HK.out)
     replace HB := za (below_drew1 HB.out)
     obtain ⟨ASz7_0, cSz7_0, HGz7, hgz7, HSz7_0⟩ := HI0.out
     have hx7_0 := cellS83_0 HGz7
     have hx7_1 := cellS83_1 HGz7
     have hx7_2 := cellS83_2 HGz7
     have hx7_3 := cellS83_3 HGz7
     have hx7_4 := cellS83_4 HGz7
     clear HGz7 hgz7
     have p175 : 0 ≤ (s0_1 : Int) := of_decide_eq_true zq9
     have q175 : s0_1 < (s0_0.length : Int) := of_decide_eq_true zq9
     obtain ⟨ad175, e175, hx175_0, hx175_1, hx175_2⟩ := at_T110 HSz7_0 s0_1 p175 q175
     have hw175_2 := hx175_2
     have hw175_1 := hx175_1
     have hw175_0 := hx175_0
     cases e175
     replace hx175_0 := pw_cell_below HB.out hx175_0
     replace hx175_1 := pw_cell_below HB.out hx175_1
     replace hx175_2 := pw_cell_below HB.out hx175_2
     replace p175 := eq_true p175
     replace q175 := eq_true q175
     refine start_ (n := 12) (S := fun w' => w'.cell? ⟨g, 0, none⟩ = some (.slice (some ad175) s0_0.length cSz7_0) ∧ w'.cell? ⟨g, 1, none⟩ = some (.int .i64 s0_1) ∧ w'.cell? ⟨g, 2, none⟩ = some (.int .i64 s0_2) ∧ w'.cell? ⟨g, 3, none⟩ = some (.int .i64 s0_3) ∧ w'.cell? ⟨g, 4, none⟩ = some (.int .i64 s0_4) ∧ w'.cell? (ad175.add ((s0_1).toNat * 3)) = some (.int .i64 ((rd_T110 s0_0 s0_1).f0)) ∧ w'.cell? ⟨(ad175.add ((s0_1).toNat * 3)).block, (ad175.add ((s0_1).toNat * 3)).off + 1, none⟩ = some (.string ((rd_T110 s0_0 s0_1).f1)) ∧ w'.cell? ⟨(ad175.add ((s0_1).toNat * 3)).block, (ad175.add ((s0_1).toNat * 3)).off + 2, none⟩ = some (.int .i64 ((rd_T110 s0_0 s0_1).f2))) (ds := [11]) #[false, false, false, false, false, false, false, false, false, false, false, false] zq16 rfl rfl ⟨hx7_0, hx7_1, hx7_2, hx7_3, hx7_4, hx175_0, hx175_1, hx175_2⟩ (fun hHeld => ?_); refine with_tabW rr_name.tab1 rr_name.bits1 (fun HT_ HW_ => ?_)
     generalize w.drew = w6 at HI0 HK HB hx175_0 hx175_1 hx175_2 hx7_0 hx7_1 hx7_2 hx7_3 hx7_4 hHeld ⊢
     refine pure_ (i := 0) (N := some 4) #[true, false, false, false, false, false, false, false, false, false, false, false] rfl rfl (any_of HT_.out zq16) (fun _ _ _ h => h) (Or.inl ⟨by rfl, zpv⟩) zpw ?_
     refine pure_ (i := 1) (N := some 5) #[true, true, false, false, false, false, false, false, false, false, false, false] rfl rfl (any_of HT_.out zq16) (fun _ _ _ h => h) (Or.inl ⟨by rfl, zpv⟩) zpw ?_
     refine pure_ (i := 2) (N := some 6) #[true, true, true, false, false, false, false, false, false, false, false, false] rfl rfl (any_of HT_.out zq16) (fun _ _ _ h => h) (Or.inl ⟨by rfl, zpv⟩) zpw ?_
     refine pure_ (i := 4) (N := some 8) #[true, true, true, false, true, false, false, false, false, false, false, false] rfl rfl (any_of HT_.out zq16) (fun _ _ _ h => h) (Or.inl ⟨by rfl, zpv⟩) zpw ?_
     refine pure_ (i := 5) (N := some 9) #[true, true, true, false, true, true, false, false, false, false, false, false] rfl rfl (any_of HT_.out zq16) (fun _ _ _ h => h) (Or.inl ⟨by rfl, zpv⟩) zpw ?_
     refine pure_ (i := 6) (N := some 10) #[true, true, true, false, true, true, true, false, false, false, false, false] rfl rfl (any_of HT_.out zq16) (fun _ _ _ h => h) (Or.inl ⟨by rfl, zpv⟩) zpw ?_
     refine take_ (i := 3) (N := some 7) (v := ?_) (a' := ?_) #[true, true, true, true, true, true, true, false, false, false, false, false] rfl rfl (take_ofW HT_.out HW_.out zq16) (fun _ _ _ h => h) (Or.inl ⟨by rfl, ?_⟩) hHeld ?_ ?_
     rotate_left
     ·
      rintro w' ⟨s0, s1, s2, s3, s4, s5, s6, s7⟩
      go_simp
      with_reducible rfl
     rotate_left
     ·
      simp only [Act.put, List.setIfInBounds_toArray, List.set_cons_zero, List.set_cons_succ, i64_w, i32_w]
      rfl
     refine take_ (i := 7) (N := some 11) (v := ?_) (a' := ?_) #[true, true, true, true, true, true, true, true, false, false, false, false] rfl rfl (take_ofW HT_.out HW_.out zq16) (fun _ _ _ h => h) (Or.inl ⟨by rfl, ?_⟩) hHeld ?_ ?_
     rotate_left
     ·
      rintro w' ⟨s0, s1, s2, s3, s4, s5, s6, s7⟩
      go_simp
      with_reducible rfl
     rotate_left
     ·
      simp only [Act.put, List.setIfInBounds_toArray, List.set_cons_zero, List.set_cons_succ, i64_w, i32_w]
      rfl
     refine pure_ (i := 8) (N := some 12) #[true, true, true, true, true, true, true, true, true, false, false, false] rfl rfl (any_of HT_.out zq16) (fun _ _ _ h => h) (Or.inl ⟨by rfl, zpv⟩) zpw ?_
     refine take_ (i := 9) (N := some 13) (v := ?_) (a' := ?_) #[true, true, true, true, true, true, true, true, true, true, false, false] rfl rfl (take_ofW HT_.out HW_.out zq16) (fun _ _ _ h => h) (Or.inl ⟨by rfl, ?_⟩) hHeld ?_ ?_
     rotate_left
     ·
      rintro w' ⟨s0, s1, s2, s3, s4, s5, s6, s7⟩
      go_simp
      with_reducible rfl
     rotate_left
     ·
      simp only [Act.put, List.setIfInBounds_toArray, List.set_cons_zero, List.set_cons_succ, i64_w, i32_w]
      rfl
     refine one_ (i := 10) (N := some 3) #[true, true, true, true, true, true, true, true, true, true, true, false] rfl rfl (one_of HT_.out zq16) (by decide) (fun K hK => ?_)
     refine box_step ?hg (N := 3) ?hd (cs := #[.int .i64 0, .string (⟨#[]⟩ : ByteArray), .int .i64 0]) (t := 110) ?hr ?_; (case hd => rfl); (case hg => rfl); (case hr => exact zq17)
     intro gb176 hg w8 hbox hb
     have HS0_ := (hb.cell (World.block_lt_of_cell? _ _ (hHeld.1))).trans (hHeld.1)
     have HS1_ := (hb.cell (World.block_lt_of_cell? _ _ (hHeld.2.1))).trans (hHeld.2.1)
     have HS2_ := (hb.cell (World.block_lt_of_cell? _ _ (hHeld.2.2.1))).trans (hHeld.2.2.1)
     have HS3_ := (hb.cell (World.block_lt_of_cell? _ _ (hHeld.2.2.2.1))).trans (hHeld.2.2.2.1)
     have HS4_ := (hb.cell (World.block_lt_of_cell? _ _ (hHeld.2.2.2.2.1))).trans (hHeld.2.2.2.2.1)
     have HS5_ := (hb.cell (World.block_lt_of_cell? _ _ (hHeld.2.2.2.2.2.1))).trans (hHeld.2.2.2.2.2.1)
     have HS6_ := (hb.cell (World.block_lt_of_cell? _ _ (hHeld.2.2.2.2.2.2.1))).trans (hHeld.2.2.2.2.2.2.1)
     have HS7_ := (hb.cell (World.block_lt_of_cell? _ _ (hHeld.2.2.2.2.2.2.2))).trans (hHeld.2.2.2.2.2.2.2)
     replace HB := za (below_step zq5 hb)
     have BK176 := za (hbox)
     have GW176 := za ((by rw [hg]; exact (keep_size (w := w) (g := g) (row := none) zq6) : w.heap.size ≤ gb176))
     have GE176 := za ((Nat.le_trans HW0.out (by rw [hg]; exact (keep_size (w := w) (g := g) (row := none) zq6) : w.heap.size ≤ gb176) : w0.heap.size ≤ gb176))
     replace HK := za (KeepBut.trans zq6 (KeepBut.of_below hb g none) (.inl rfl))
     have NB0_176 := za ((by rw [hg]; exact Nat.ne_of_lt (IsS83.lt (show IsS83 w0 _ g s0_0 s0_1 s0_2 s0_3 s0_4 from zq0)) : g ≠ gb176))
     have NB176_0 := za ((by rw [hg]; exact Nat.ne_of_gt (IsS83.lt (show IsS83 w0 _ g s0_0 s0_1 s0_2 s0_3 s0_4 from zq0)) : gb176 ≠ g))
     replace HI0 := za (IsS83.below zq0 hb)
     clear hb hbox hg
     refine hK.out _ _ ⟨HS0_, HS1_, HS2_, HS3_, HS4_, HS5_, HS6_, HS7_⟩ (fun hHeld => ?_)
     clear hK K
     refine norm_ (a' := ?_) ?_ ?_
     rotate_left
     ·
      show Act.put _ (some 3) _ = _
      simp only [Act.put, List.setIfInBounds_toArray, List.set_cons_zero, List.set_cons_succ, i64_w, i32_w]
      rfl
     refine last_ (i := 11) (N := none) #[true, true, true, true, true, true, true, true, true, true, true, true] rfl rfl (one_of HT_.out zq16) (by decide) (fun K hK => ?_)
     have hs9 : w8.cell? ⟨gb176, 0, none⟩ = some (.int .i64 0) := (blk_cell BK176.out 0).trans rfl
     have hfs9 := blk_frozen BK176.out 0
     have hs10 : w8.cell? ⟨gb176, 1, none⟩ = some (.string (⟨#[]⟩ : ByteArray)) := (blk_cell BK176.out 1).trans rfl
     have hfs10 := blk_frozen BK176.out 1
     have hs11 : w8.cell? ⟨gb176, 2, none⟩ = some (.int .i64 0) := (blk_cell BK176.out 2).trans rfl
     have hfs11 := blk_frozen BK176.out 2
     refine skip_ (w1 := ?_) (by rfl) rfl ?_ ?_
     rotate_left
     ·
      go_simp
      rfl
     refine hK.out _ _ ?_
     clear hK K
     refine done_ (done_of HT_.out zq16) ?_
     obtain ⟨ASz12_0, cSz12_0, HGz12, hgz12, HSz12_0⟩ := HI0.out
     have hcz12_0 := cellS83_0 HGz12
     have hcz12_1 := cellS83_1 HGz12
     have hcz12_2 := cellS83_2 HGz12
     have hcz12_3 := cellS83_3 HGz12
     have hcz12_4 := cellS83_4 HGz12
     have hfz12_1 := blk_frozen HGz12 1
     have hfz12_2 := blk_frozen HGz12 2
     have hfz12_3 := blk_frozen HGz12 3
     have hfz12_4 := blk_frozen HGz12 4
     clear HGz12 hgz12
     have hnb13 := NB176_0.out
     have hnc13 := NB0_176.out
     obtain ⟨hcz14_0, hcz14_1, hcz14_2⟩ := zc3 BK176.out
     obtain ⟨hfz14_0, hfz14_1, hfz14_2⟩ := zf3 BK176.out
     try go_wp2
     go_ret
     exact ⟨zq19, by repeat (first | (with_reducible first | exact HI0.out | apply IsS83.alloc | apply IsS83.drewN | apply IsS83.drew | apply IsS83.set_1 | apply IsS83.set_2 | apply IsS83.set_3 | apply IsS83.set_4 | apply IsS83.far (hne := NB0_176.out)) | exact HI0.out), by repeat (first | (with_reducible first | exact HB.out | apply below_alloc | apply pw_below_drewN | apply below_drew1 | refine below_set ?_ (IsS83.ge HI0.out) | refine below_set ?_ GE176.out) | exact HB.out), by repeat (first | (with_reducible first | exact HK.out | apply KeepBut.set_ | apply keep_drewN | apply keep_drew | apply keep_alloc | refine keep_far ?_ GW176.out _) | exact HK.out)⟩
    ·
     rw [if_neg c5] at H
     exact absurd H (by simp)
   ·
    rw [if_neg c4] at H
    exact absurd H (by simp)
  ·
   rw [if_neg c3] at H
   exact absurd H (by simp)
 ·
  rw [if_neg c2] at H
  exact absurd H (by simp)
def rr_open.j0 : Nat → ByteArray → Bool → List (S110) → Int → Int → Int → Int → Option (Int × Int × Int × Int)
 | 0, _, _, _, _, _, _, _ => none
 | k + 1, x1, x13, x1000, x1001, x1002, x1003, x1004 => if x13 = true then (none) else ((rr_want.f x1000 x1001 x1002 x1003 x1004 x1).bind fun bt182 => (some (bt182.1, wrap64 (bt182.2.1 + 1), bt182.2.2.1, bt182.2.2.2)))
def rr_open.f (k : Nat) (s0_0 : List (S110)) (s0_1 : Int) (s0_2 : Int) (s0_3 : Int) (s0_4 : Int) (a1 : ByteArray) : Option (Int × Int × Int × Int) := (rr_is.f s0_0 s0_1 s0_2 s0_3 s0_4 a1).bind fun bt177 => (if bt177.1 = true then (rr_open.j0 k a1 (decide (bt177.2.2.1 ≥ 40)) s0_0 bt177.2.1 bt177.2.2.1 bt177.2.2.2.1 bt177.2.2.2.2) else (rr_open.j0 k a1 false s0_0 bt177.2.1 bt177.2.2.1 bt177.2.2.2.1 bt177.2.2.2.2))
theorem rr_open.mono_l : ∀ k, (∀ y0 y1 y2 y3 y4 y5 y6, LeO (rr_open.j0 k y0 y1 y2 y3 y4 y5 y6) (rr_open.j0 (k + 1) y0 y1 y2 y3 y4 y5 y6))
 | 0 => fun _ _ _ _ _ _ _ r h => by simp [rr_open.j0] at h
 | k + 1 => by
  have ih0 := rr_open.mono_l k
  ·
   intro y0 y1 y2 y3 y4 y5 y6
   unfold rr_open.j0
   repeat' with_reducible first | apply ih0 | exact LeO.refl _ | exact LeO.none _ | refine LeO.ite ?_ ?_ | refine LeO.bind ?_ (fun _ => ?_)
theorem rr_open.mono : ∀ a0 a1 a2 a3 a4 a5 k, LeO (rr_open.f k a0 a1 a2 a3 a4 a5) (rr_open.f (k + 1) a0 a1 a2 a3 a4 a5) := by
 intro a0 a1 a2 a3 a4 a5 k
 have ih0 := rr_open.mono_l k
 unfold rr_open.f
 repeat' with_reducible first | apply ih0 | exact LeO.refl _ | exact LeO.none _ | refine LeO.ite ?_ ?_ | refine LeO.bind ?_ (fun _ => ?_)
set_option maxHeartbeats 8000000 in
set_option maxRecDepth 100000 in
theorem rr_open.calls (k : Nat) (g : Nat) (s0_0 : List (S110)) (s0_1 : Int) (s0_2 : Int) (s0_3 : Int) (s0_4 : Int) (a1 : ByteArray) (r1 : Int) (r2 : Int) (r3 : Int) (r4 : Int) (w0 w : World) (hI : IsS83 w0 w g s0_0 s0_1 s0_2 s0_3 s0_4) (hB : Below w0.heap.size w0 w) (h : rr_open.f k s0_0 s0_1 s0_2 s0_3 s0_4 a1 = some (r1, r2, r3, r4)) :
  Calls Try.prog 66 #[.pointer (some ⟨g, 0, none⟩), .string a1] w fun e w' => e = .returned (.tuple #[]) ∧ IsS83 w0 w' g s0_0 r1 r2 r3 r4 ∧ Below w0.heap.size w0 w' ∧ KeepBut w w' g none := by
 have HI0 := za hI
 have HK := za (KeepBut.refl w g none)
 have HL := za hB.size
 clear hI
 have HW0 := za hB.size
 have HB := za hB
 clear hB
 have H : ((rr_is.f s0_0 s0_1 s0_2 s0_3 s0_4 a1).bind fun bt177 => (if bt177.1 = true then (rr_open.j0 k a1 (decide (bt177.2.2.1 ≥ 40)) s0_0 bt177.2.1 bt177.2.2.1 bt177.2.2.2.1 bt177.2.2.2.2) else (rr_open.j0 k a1 false s0_0 bt177.2.1 bt177.2.2.1 bt177.2.2.2.1 bt177.2.2.2.2))) = some (r1, r2, r3, r4) := h
 clear h
 have HC3 := za H
 clear H
 go_enter Try.func66, Try.ntmps66
 go_upto_region 0 with (fail)
 go_cut [13] (fun v13 wc => ∃ (kq : Nat) (x13_2 : Bool) (x1001_2 : Int) (x1002_2 : Int) (x1003_2 : Int) (x1004_2 : Int), v13 = .bool x13_2 ∧ Aside0 (rr_open.j0 kq a1 x13_2 s0_0 x1001_2 x1002_2 x1003_2 x1004_2 = some (r1, r2, r3, r4)) ∧ Aside0 (kq ≤ k) ∧ Aside0 (IsS83 w0 wc g s0_0 x1001_2 x1002_2 x1003_2 x1004_2) ∧ Aside0 (KeepBut w wc g none) ∧ Aside0 (Below w0.heap.size w0 wc))
 case first =>
  have H := HC3.out
  clear HC3
  replace H := Option.bind_eq_some_iff.mp H
  obtain ⟨⟨t177, t178, t179, t180, t181⟩, A40, H⟩ := H
  (try dsimp only at H)
  have A4 := za A40
  clear A40
  by_cases c5 : t177 = true
  ·
   subst c5
   rw [if_pos rfl] at H
   have H' := za H
   clear H
   go_wp2_with (first | ((with_reducible refine gate_callee (f := 54) rfl ?_); refine goesL_ (some 6) rfl rfl Try.func54 zq16 rfl #[.pointer (some ⟨g, 0, none⟩), .string a1] rfl zq1 ?_; (with_reducible refine (rr_is.calls g s0_0 s0_1 s0_2 s0_3 s0_4 a1 true t178 t179 t180 t181 w0 _ ?side1 ?side2 A4.out).mono ?_); (case side1 => exact zq0); (case side2 => exact zq5); rintro e w6 ⟨rfl, hi, hb, hk⟩; refine ⟨_, rfl, ?_⟩; replace HK := za (KeepBut.trans zq6 hk (.inl rfl)); replace HB := za (hb); replace HI0 := za (hi); (try clear hb hk hi); obtain ⟨ASz7_0, cSz7_0, HGz7, hgz7, HSz7_0⟩ := HI0.out; have hcz7_0 := cellS83_0 HGz7; have hcz7_1 := cellS83_1 HGz7; have hcz7_2 := cellS83_2 HGz7; have hcz7_3 := cellS83_3 HGz7; have hcz7_4 := cellS83_4 HGz7; have hfz7_1 := blk_frozen HGz7 1; have hfz7_2 := blk_frozen HGz7 2; have hfz7_3 := blk_frozen HGz7 3; have hfz7_4 := blk_frozen HGz7 4; clear HGz7 hgz7))
   go_meet
   case rel => exact ⟨_, (decide (t179 ≥ 40)), (t178), (t179), (t180), (t181), zq21, H', ⟨zq86⟩, ⟨zq0⟩, ⟨zq6⟩, ⟨zq5⟩⟩
  ·
   replace c5 := Bool.eq_false_iff.mpr c5
   subst c5
   rw [if_neg (show ¬ (false = true) by decide)] at H
   have H' := za H
   clear H
   go_wp2_with (first | ((with_reducible refine gate_callee (f := 54) rfl ?_); refine goesL_ (some 6) rfl rfl Try.func54 zq16 rfl #[.pointer (some ⟨g, 0, none⟩), .string a1] rfl zq1 ?_; (with_reducible refine (rr_is.calls g s0_0 s0_1 s0_2 s0_3 s0_4 a1 false t178 t179 t180 t181 w0 _ ?side1 ?side2 A4.out).mono ?_); (case side1 => exact zq0); (case side2 => exact zq5); rintro e w8 ⟨rfl, hi, hb, hk⟩; refine ⟨_, rfl, ?_⟩; replace HK := za (KeepBut.trans zq6 hk (.inl rfl)); replace HB := za (hb); replace HI0 := za (hi); (try clear hb hk hi)))
   go_meet
   case rel => exact ⟨_, (false), (t178), (t179), (t180), (t181), zq21, H', ⟨zq86⟩, ⟨zq0⟩, ⟨zq6⟩, ⟨zq5⟩⟩
 case rest =>
  clear HC3
  obtain ⟨kq, x13_2, x1001_2, x1002_2, x1003_2, x1004_2, rfl, HA, HJ2, HI0, HK, HB⟩ := hcut
  cases kq with
  | zero => exact absurd HA.out (by simp [rr_open.j0])
  | succ kj2 =>
   have H := HA.out
   clear HA
   simp only [rr_open.j0] at H
   by_cases c9 : x13_2 = true
   ·
    subst c9
    rw [if_pos rfl] at H
    exact absurd H (by simp)
   ·
    replace c9 := Bool.eq_false_iff.mpr c9
    subst c9
    rw [if_neg (show ¬ (false = true) by decide)] at H
    replace H := Option.bind_eq_some_iff.mp H
    obtain ⟨⟨t182, t183, t184, t185⟩, A100, H⟩ := H
    (try dsimp only at H)
    have A10 := za A100
    clear A100
    simp only [Option.some.injEq, Prod.mk.injEq] at H
    obtain ⟨rfl, rfl, rfl, rfl⟩ := H
    go_wp2_with (first | ((with_reducible refine gate_callee (f := 45) rfl ?_); refine goesL_ (some 18) rfl rfl Try.func45 zq16 rfl #[.pointer (some ⟨g, 0, none⟩), .string a1] rfl zq1 ?_; (with_reducible refine (rr_want.calls g s0_0 x1001_2 x1002_2 x1003_2 x1004_2 a1 t182 t183 t184 t185 w0 _ ?side1 ?side2 A10.out).mono ?_); (case side1 => exact zq0); (case side2 => exact zq5); rintro e w11 ⟨rfl, hi, hb, hk⟩; refine ⟨_, rfl, ?_⟩; replace HK := za (KeepBut.trans zq6 hk (.inl rfl)); replace HB := za (hb); replace HI0 := za (hi); (try clear hb hk hi); obtain ⟨ASz12_0, cSz12_0, HGz12, hgz12, HSz12_0⟩ := HI0.out; have hcz12_0 := cellS83_0 HGz12; have hcz12_1 := cellS83_1 HGz12; have hcz12_2 := cellS83_2 HGz12; have hcz12_3 := cellS83_3 HGz12; have hcz12_4 := cellS83_4 HGz12; have hfz12_1 := blk_frozen HGz12 1; have hfz12_2 := blk_frozen HGz12 2; have hfz12_3 := blk_frozen HGz12 3; have hfz12_4 := blk_frozen HGz12 4; clear HGz12 hgz12))
    first | go_end0 | ((try simp only [Exit.inBlock, Exit.then]); refine bodyPost_ret (results_none rfl _ _ _) rfl ?_)
    exact ⟨zq19, zq0, zq5, zq6⟩
def rr_fail.f (s0_0 : List (S110)) (s0_1 : Int) (s0_2 : Int) (s0_3 : Int) (s0_4 : Int) (a1 : Int) : Option (Int × Int × Int × Int) := if s0_3 = 0 then (if 0 ≤ s0_1 then (if s0_1 < (s0_0.length : Int) then (some (s0_1, s0_2, a1, (rd_T110 s0_0 s0_1).f2)) else (none)) else (none)) else (some (s0_1, s0_2, s0_3, s0_4))
def rr_fail.T2 : Bool × List (List Nat × List Nat) := (true, [([], []), ([], []), ([1], [1]), ([2], [2]), ([3], [3]), ([], []), ([5], [5]), ([6], [6]), ([7], [7]), ([4, 8], [4, 8]), ([9], [9]), ([10], [10]), ([0, 0, 1, 2, 3, 4, 5, 6, 7, 8, 9, 10, 11], [0]), ([12, 0, 1, 2, 3, 4, 5, 6, 7, 8, 9, 10, 11], [12]), ([13, 11, 0, 1, 2, 3, 4, 5, 6, 7, 8, 9, 10, 11], [11, 13])])
def rr_fail.B2 : List Nat := [0, 0, 2, 6, 14, 0, 32, 96, 224, 510, 1022, 2046, 4095, 8191, 16383]
theorem rr_fail.tab2 : rtab .any (opsOf Try.f51 2) = rr_fail.T2 := by kernel_rfl
theorem rr_fail.bits2 : waitsOk rr_fail.T2.2 rr_fail.B2 = true := by kernel_rfl
set_option maxHeartbeats 8000000 in
set_option maxRecDepth 100000 in
theorem rr_fail.calls (g : Nat) (s0_0 : List (S110)) (s0_1 : Int) (s0_2 : Int) (s0_3 : Int) (s0_4 : Int) (a1 : Int) (r1 : Int) (r2 : Int) (r3 : Int) (r4 : Int) (w0 w : World) (hI : IsS83 w0 w g s0_0 s0_1 s0_2 s0_3 s0_4) (hB : Below w0.heap.size w0 w) (h : rr_fail.f s0_0 s0_1 s0_2 s0_3 s0_4 a1 = some (r1, r2, r3, r4)) :
  Calls Try.prog 51 #[.pointer (some ⟨g, 0, none⟩), .int .i64 a1] w fun e w' => e = .returned (.tuple #[]) ∧ IsS83 w0 w' g s0_0 r1 r2 r3 r4 ∧ Below w0.heap.size w0 w' ∧ KeepBut w w' g none := by
 have HI0 := za hI
 have HK := za (KeepBut.refl w g none)
 have HL := za hB.size
 clear hI
 have HW0 := za hB.size
 have HB := za hB
 clear hB
 have H : (if s0_3 = 0 then (if 0 ≤ s0_1 then (if s0_1 < (s0_0.length : Int) then (some (s0_1, s0_2, a1, (rd_T110 s0_0 s0_1).f2)) else (none)) else (none)) else (some (s0_1, s0_2, s0_3, s0_4))) = some (r1, r2, r3, r4) := h
 clear h
 by_cases c3 : s0_3 = 0
 ·
  rw [if_pos c3] at H
  have c3b0 := beq_iff_eq.mpr c3
  have c3b1 := bne_eq_false_iff_eq.mpr c3
  clear c3
  by_cases c4 : 0 ≤ s0_1
  ·
   rw [if_pos c4] at H
   have c4b0 := decide_eq_true c4
   clear c4
   by_cases c5 : s0_1 < (s0_0.length : Int)
   ·
    rw [if_pos c5] at H
    have c5b0 := decide_eq_true c5
    clear c5
    simp only [Option.some.injEq, Prod.mk.injEq] at H
    obtain ⟨rfl, rfl, rfl, rfl⟩ := H
    obtain ⟨ASz6_0, cSz6_0, HGz6, hgz6, HSz6_0⟩ := HI0.out
    have hcz6_0 := cellS83_0 HGz6
    have hcz6_1 := cellS83_1 HGz6
    have hcz6_2 := cellS83_2 HGz6
    have hcz6_3 := cellS83_3 HGz6
    have hcz6_4 := cellS83_4 HGz6
    have hfz6_1 := blk_frozen HGz6 1
    have hfz6_2 := blk_frozen HGz6 2
    have hfz6_3 := blk_frozen HGz6 3
    have hfz6_4 := blk_frozen HGz6 4
    clear HGz6 hgz6
    go_enter Try.func51, Try.ntmps51
    try go_wp2
    have n0_ : Aside0 (IsS83 w0 (w.setCell ⟨g, 3, none⟩ (.int .i64 a1)) g s0_0 s0_1 s0_2 a1 s0_4) := ⟨zq0⟩
    have n1_ : Aside0 (KeepBut w (w.setCell ⟨g, 3, none⟩ (.int .i64 a1)) g none) := ⟨zq6⟩
    have n2_ : Aside0 (Below w0.heap.size w0 (w.setCell ⟨g, 3, none⟩ (.int .i64 a1))) := ⟨zq5⟩
    generalize (w.setCell ⟨g, 3, none⟩ (.int .i64 a1)) = w7 at n0_ n1_ n2_ ⊢
    have HI0 := n0_
    have HK := n1_
    have HB := n2_
    clear n0_ n1_ n2_
    replace HI0 := za (IsS83.drew HI0.out)
    replace HK := za (keep_drew HK.out)
    replace HB := za (below_drew1 HB.out)
    obtain ⟨ASz9_0, cSz9_0, HGz9, hgz9, HSz9_0⟩ := HI0.out
    have hx9_0 := cellS83_0 HGz9
    have hx9_1 := cellS83_1 HGz9
    have hx9_2 := cellS83_2 HGz9
    have hx9_3 := cellS83_3 HGz9
    have hx9_4 := cellS83_4 HGz9
    clear HGz9 hgz9
    have p186 : 0 ≤ (s0_1 : Int) := of_decide_eq_true zq9
    have q186 : s0_1 < (s0_0.length : Int) := of_decide_eq_true zq9
    obtain ⟨ad186, e186, hx186_0, hx186_1, hx186_2⟩ := at_T110 HSz9_0 s0_1 p186 q186
    have hw186_2 := hx186_2
    have hw186_1 := hx186_1
    have hw186_0 := hx186_0
    cases e186
    replace hx186_0 := pw_cell_below HB.out hx186_0
    replace hx186_1 := pw_cell_below HB.out hx186_1
    replace hx186_2 := pw_cell_below HB.out hx186_2
    replace p186 := eq_true p186
    replace q186 := eq_true q186
    refine start_ (n := 15) (S := fun w' => w'.cell? ⟨g, 0, none⟩ = some (.slice (some ad186) s0_0.length cSz9_0) ∧ w'.cell? ⟨g, 1, none⟩ = some (.int .i64 s0_1) ∧ w'.cell? ⟨g, 2, none⟩ = some (.int .i64 s0_2) ∧ w'.cell? ⟨g, 3, none⟩ = some (.int .i64 a1) ∧ w'.cell? ⟨g, 4, none⟩ = some (.int .i64 s0_4) ∧ w'.cell? (ad186.add ((s0_1).toNat * 3)) = some (.int .i64 ((rd_T110 s0_0 s0_1).f0)) ∧ w'.cell? ⟨(ad186.add ((s0_1).toNat * 3)).block, (ad186.add ((s0_1).toNat * 3)).off + 1, none⟩ = some (.string ((rd_T110 s0_0 s0_1).f1)) ∧ w'.cell? ⟨(ad186.add ((s0_1).toNat * 3)).block, (ad186.add ((s0_1).toNat * 3)).off + 2, none⟩ = some (.int .i64 ((rd_T110 s0_0 s0_1).f2))) (ds := [14]) #[false, false, false, false, false, false, false, false, false, false, false, false, false, false, false] zq16 rfl rfl ⟨hx9_0, hx9_1, hx9_2, hx9_3, hx9_4, hx186_0, hx186_1, hx186_2⟩ (fun hHeld => ?_); refine with_tabW rr_fail.tab2 rr_fail.bits2 (fun HT_ HW_ => ?_)
    generalize w7.drew = w8 at HI0 HK HB hx186_0 hx186_1 hx186_2 hx9_0 hx9_1 hx9_2 hx9_3 hx9_4 hHeld ⊢
    refine pure_ (i := 0) (N := some 13) #[true, false, false, false, false, false, false, false, false, false, false, false, false, false, false] rfl rfl (any_of HT_.out zq16) (fun _ _ _ h => h) (Or.inl ⟨by rfl, zpv⟩) zpw ?_
    refine pure_ (i := 1) (N := some 14) #[true, true, false, false, false, false, false, false, false, false, false, false, false, false, false] rfl rfl (any_of HT_.out zq16) (fun _ _ _ h => h) (Or.inl ⟨by rfl, zpv⟩) zpw ?_
    refine pure_ (i := 2) (N := some 15) #[true, true, true, false, false, false, false, false, false, false, false, false, false, false, false] rfl rfl (any_of HT_.out zq16) (fun _ _ _ h => h) (Or.inl ⟨by rfl, zpv⟩) zpw ?_
    refine pure_ (i := 3) (N := some 16) #[true, true, true, true, false, false, false, false, false, false, false, false, false, false, false] rfl rfl (any_of HT_.out zq16) (fun _ _ _ h => h) (Or.inl ⟨by rfl, zpv⟩) zpw ?_
    refine pure_ (i := 5) (N := some 18) #[true, true, true, true, false, true, false, false, false, false, false, false, false, false, false] rfl rfl (any_of HT_.out zq16) (fun _ _ _ h => h) (Or.inl ⟨by rfl, zpv⟩) zpw ?_
    refine pure_ (i := 6) (N := some 19) #[true, true, true, true, false, true, true, false, false, false, false, false, false, false, false] rfl rfl (any_of HT_.out zq16) (fun _ _ _ h => h) (Or.inl ⟨by rfl, zpv⟩) zpw ?_
    refine pure_ (i := 7) (N := some 20) #[true, true, true, true, false, true, true, true, false, false, false, false, false, false, false] rfl rfl (any_of HT_.out zq16) (fun _ _ _ h => h) (Or.inl ⟨by rfl, zpv⟩) zpw ?_
    refine take_ (i := 4) (N := some 17) (v := ?_) (a' := ?_) #[true, true, true, true, true, true, true, true, false, false, false, false, false, false, false] rfl rfl (take_ofW HT_.out HW_.out zq16) (fun _ _ _ h => h) (Or.inl ⟨by rfl, ?_⟩) hHeld ?_ ?_
    rotate_left
    ·
     rintro w' ⟨s0, s1, s2, s3, s4, s5, s6, s7⟩
     go_simp
     with_reducible rfl
    rotate_left
    ·
     simp only [Act.put, List.setIfInBounds_toArray, List.set_cons_zero, List.set_cons_succ, i64_w, i32_w]
     rfl
    refine take_ (i := 8) (N := some 21) (v := ?_) (a' := ?_) #[true, true, true, true, true, true, true, true, true, false, false, false, false, false, false] rfl rfl (take_ofW HT_.out HW_.out zq16) (fun _ _ _ h => h) (Or.inl ⟨by rfl, ?_⟩) hHeld ?_ ?_
    rotate_left
    ·
     rintro w' ⟨s0, s1, s2, s3, s4, s5, s6, s7⟩
     go_simp
     with_reducible rfl
    rotate_left
    ·
     simp only [Act.put, List.setIfInBounds_toArray, List.set_cons_zero, List.set_cons_succ, i64_w, i32_w]
     rfl
    refine pure_ (i := 9) (N := some 22) #[true, true, true, true, true, true, true, true, true, true, false, false, false, false, false] rfl rfl (any_of HT_.out zq16) (fun _ _ _ h => h) (Or.inl ⟨by rfl, zpv⟩) zpw ?_
    refine pure_ (i := 10) (N := some 23) #[true, true, true, true, true, true, true, true, true, true, true, false, false, false, false] rfl rfl (any_of HT_.out zq16) (fun _ _ _ h => h) (Or.inl ⟨by rfl, zpv⟩) zpw ?_
    refine take_ (i := 11) (N := some 24) (v := ?_) (a' := ?_) #[true, true, true, true, true, true, true, true, true, true, true, true, false, false, false] rfl rfl (take_ofW HT_.out HW_.out zq16) (fun _ _ _ h => h) (Or.inl ⟨by rfl, ?_⟩) hHeld ?_ ?_
    rotate_left
    ·
     rintro w' ⟨s0, s1, s2, s3, s4, s5, s6, s7⟩
     go_simp
     with_reducible rfl
    rotate_left
    ·
     simp only [Act.put, List.setIfInBounds_toArray, List.set_cons_zero, List.set_cons_succ, i64_w, i32_w]
     rfl
    refine pure_ (i := 12) (N := some 25) #[true, true, true, true, true, true, true, true, true, true, true, true, true, false, false] rfl rfl (any_of HT_.out zq16) (fun _ _ _ h => h) (Or.inl ⟨by rfl, zpv⟩) zpw ?_
    refine pure_ (i := 13) (N := some 26) #[true, true, true, true, true, true, true, true, true, true, true, true, true, true, false] rfl rfl (any_of HT_.out zq16) (fun _ _ _ h => h) (Or.inl ⟨by rfl, zpv⟩) zpw ?_
    refine last_ (i := 14) (N := none) #[true, true, true, true, true, true, true, true, true, true, true, true, true, true, true] rfl rfl (one_of HT_.out zq16) (by decide) (fun K hK => ?_)
    obtain ⟨_, _, HGs10, _, _⟩ := HI0.out
    have hs10 := cellS83_4 HGs10
    have hfs10 := blk_frozen HGs10 4
    clear HGs10
    refine skip_ (w1 := ?_) (by rfl) rfl ?_ ?_
    rotate_left
    ·
     go_simp
     rfl
    refine hK.out _ _ ?_
    clear hK K
    refine done_ (done_of HT_.out zq16) ?_
    try go_wp2
    first | go_end0 | ((try simp only [Exit.inBlock, Exit.then]); refine bodyPost_ret (results_none rfl _ _ _) rfl ?_)
    exact ⟨zq19, zq0, zq5, zq6⟩
   ·
    rw [if_neg c5] at H
    exact absurd H (by simp)
  ·
   rw [if_neg c4] at H
   exact absurd H (by simp)
 ·
  rw [if_neg c3] at H
  have c3b0 := beq_eq_false_iff_ne.mpr c3
  have c3b1 := bne_iff_ne.mpr c3
  simp only [Option.some.injEq, Prod.mk.injEq] at H
  obtain ⟨rfl, rfl, rfl, rfl⟩ := H
  obtain ⟨ASz11_0, cSz11_0, HGz11, hgz11, HSz11_0⟩ := HI0.out
  have hcz11_0 := cellS83_0 HGz11
  have hcz11_1 := cellS83_1 HGz11
  have hcz11_2 := cellS83_2 HGz11
  have hcz11_3 := cellS83_3 HGz11
  have hcz11_4 := cellS83_4 HGz11
  have hfz11_1 := blk_frozen HGz11 1
  have hfz11_2 := blk_frozen HGz11 2
  have hfz11_3 := blk_frozen HGz11 3
  have hfz11_4 := blk_frozen HGz11 4
  clear HGz11 hgz11
  go_enter Try.func51, Try.ntmps51
  go_wp2
  first | go_end0 | ((try simp only [Exit.inBlock, Exit.then]); refine bodyPost_ret (results_none rfl _ _ _) rfl ?_)
  exact ⟨zq19, zq0, zq5, zq6⟩
def ra_num.l0 : Nat → ByteArray → Int → Int → Option (Int)
 | 0, _, _, _ => none
 | k + 1, x0, x3, x4 => if x4 < (x0.size : Int) then (if 0 ≤ x4 then (ra_num.l0 k x0 (wrap64 ((wrap64 (10 * x3)) + (((bt x0 x4) - 48) % 256))) (wrap64 (x4 + 1))) else (none)) else (some x3)
def ra_num.f (k : Nat) (a0 : ByteArray) : Option (Int) := ra_num.l0 k a0 0 0
theorem ra_num.mono_l : ∀ k, (∀ y0 y1 y2, LeO (ra_num.l0 k y0 y1 y2) (ra_num.l0 (k + 1) y0 y1 y2))
 | 0 => fun _ _ _ r h => by simp [ra_num.l0] at h
 | k + 1 => by
  have ih0 := ra_num.mono_l k
  ·
   intro y0 y1 y2
   unfold ra_num.l0
   repeat' with_reducible first | apply ih0 | exact LeO.refl _ | exact LeO.none _ | refine LeO.ite ?_ ?_ | refine LeO.bind ?_ (fun _ => ?_)
theorem ra_num.mono : ∀ a0 k, LeO (ra_num.f k a0) (ra_num.f (k + 1) a0) := by
 intro a0 k
 have ih0 := ra_num.mono_l k
 unfold ra_num.f
 repeat' with_reducible first | apply ih0 | exact LeO.refl _ | exact LeO.none _ | refine LeO.ite ?_ ?_ | refine LeO.bind ?_ (fun _ => ?_)
set_option maxHeartbeats 8000000 in
set_option maxRecDepth 100000 in
theorem ra_num.calls (k : Nat) (a0 : ByteArray) (r : Int) (w : World) (h : ra_num.f k a0 = some r) :
  Calls Try.prog 55 #[.string a0] w fun e w' => e = .returned (.int .i64 r) ∧ Drawn0 w w' := by
 have H : (ra_num.l0 k a0 0 0) = some r := h
 clear h
 have H' := za H
 clear H
 go_enter Try.func55, Try.ntmps55
 go_wp2
 go_loopg [3, 4] k (fun kq v3 v4 w' => ∃ (x3_1 : Int) (x4_1 : Int), v3 = .int .i64 x3_1 ∧ v4 = .int .i64 x4_1 ∧ Aside0 (ra_num.l0 kq a0 x3_1 x4_1 = some r) ∧ Aside0 (kq ≤ k) ∧ Drawn0 w w')
 case atStart => exact ⟨(0), (0), zq21, zq21, H', ⟨Nat.le_refl _⟩, zq18⟩
 case round =>
  clear H'
  obtain ⟨x3_1, x4_1, rfl, rfl, HA, HK1, ⟨m1, rfl⟩⟩ := hrel
  cases gk with
  | zero => exact absurd HA.out (by simp [ra_num.l0])
  | succ k1 =>
   have H := HA.out
   clear HA
   simp only [ra_num.l0] at H
   by_cases c2 : x4_1 < (a0.size : Int)
   ·
    rw [if_pos c2] at H
    have c2b0 := decide_eq_true c2
    clear c2
    by_cases c3 : 0 ≤ x4_1
    ·
     rw [if_pos c3] at H
     have c3b0 := decide_eq_true c3
     clear c3
     have H' := za H
     clear H
     have p4 : 0 ≤ (x4_1 : Int) := of_decide_eq_true zq9
     have q4 : x4_1 < (a0.size : Int) := of_decide_eq_true zq9
     have hx4 := bt_at a0 x4_1
     replace p4 := eq_true p4
     replace q4 := eq_true q4
     go_wp2
     go_roundg k1
     case measure => have := HK1.out; omega
     case rel => exact ⟨(wrap64 ((wrap64 (10 * x3_1)) + (((bt a0 x4_1) - 48) % 256))), (wrap64 (x4_1 + 1)), zq21, zq21, H', ⟨by have := HK1.out; omega⟩, zq18⟩
    ·
     rw [if_neg c3] at H
     exact absurd H (by simp)
   ·
    rw [if_neg c2] at H
    have c2b0 := decide_eq_false c2
    clear c2
    obtain rfl := Option.some.inj H
    go_wp2
    go_ret
    exact ⟨zq28, zq18⟩
end Go.Proofs.Ytcjnhnnfoadklaa.QRunOther
