import Derived.Test.YtcjnhnnfoadklaaZRLx7
namespace Go.Proofs.Ytcjnhnnfoadklaa.QRunCalls
open Go.RowKit Go.Proofs.YtcjnhnnfoadklaaW.PrintWords Go.Proofs.YtcjnhnnfoadklaaW.PrintLast Go.Proofs.YtcjnhnnfoadklaaW.PrintMore
attribute [local go_sem] max2_int min2_int max_two min_two max_three min_three max_four min_four
set_option linter.unusedVariables false
set_option linter.unusedSimpArgs false
def rr_take.f (s0_0 : List (S110)) (s0_1 : Int) (s0_2 : Int) (s0_3 : Int) (s0_4 : Int) (a1 : ByteArray) : Option (Bool × Int × Int × Int × Int) := (rr_is.f s0_0 s0_1 s0_2 s0_3 s0_4 a1).bind fun bt160 => (if bt160.1 = true then (some (true, wrap64 (bt160.2.1 + 1), bt160.2.2.1, bt160.2.2.2.1, bt160.2.2.2.2)) else (some (false, bt160.2.1, bt160.2.2.1, bt160.2.2.2.1, bt160.2.2.2.2)))
set_option maxHeartbeats 8000000 in
set_option maxRecDepth 100000 in
theorem rr_take.calls (g : Nat) (s0_0 : List (S110)) (s0_1 : Int) (s0_2 : Int) (s0_3 : Int) (s0_4 : Int) (a1 : ByteArray) (r1 : Bool) (r2 : Int) (r3 : Int) (r4 : Int) (r5 : Int) (w0 w : World) (hI : IsS83 w0 w g s0_0 s0_1 s0_2 s0_3 s0_4) (hB : Below w0.heap.size w0 w) (h : rr_take.f s0_0 s0_1 s0_2 s0_3 s0_4 a1 = some (r1, r2, r3, r4, r5)) :
  Calls Try.prog 48 #[.pointer (some ⟨g, 0, none⟩), .string a1] w fun e w' => e = .returned (.bool r1) ∧ IsS83 w0 w' g s0_0 r2 r3 r4 r5 ∧ Below w0.heap.size w0 w' ∧ KeepBut w w' g none := by
 have HI0 := za hI
 have HK := za (KeepBut.refl w g none)
 have HL := za hB.size
 clear hI
 have HW0 := za hB.size
 have HB := za hB
 clear hB
 have H : ((rr_is.f s0_0 s0_1 s0_2 s0_3 s0_4 a1).bind fun bt160 => (if bt160.1 = true then (some (true, wrap64 (bt160.2.1 + 1), bt160.2.2.1, bt160.2.2.2.1, bt160.2.2.2.2)) else (some (false, bt160.2.1, bt160.2.2.1, bt160.2.2.2.1, bt160.2.2.2.2)))) = some (r1, r2, r3, r4, r5) := h
 clear h
 replace H := Option.bind_eq_some_iff.mp H
 obtain ⟨⟨t160, t161, t162, t163, t164⟩, A30, H⟩ := H
 (try dsimp only at H)
 have A3 := za A30
 clear A30
 by_cases c4 : t160 = true
 ·
  subst c4
  rw [if_pos rfl] at H
  simp only [Option.some.injEq, Prod.mk.injEq] at H
  obtain ⟨rfl, rfl, rfl, rfl, rfl⟩ := H
  go_enter Try.func48, Try.ntmps48
  go_wp2_with (first | ((with_reducible refine gate_callee (f := 54) rfl ?_); refine goesL_ (some 7) rfl rfl Try.func54 zq13 rfl #[.pointer (some ⟨g, 0, none⟩), .string a1] rfl zq1 ?_; (with_reducible refine (rr_is.calls g s0_0 s0_1 s0_2 s0_3 s0_4 a1 true t161 t162 t163 t164 w0 _ ?side1 ?side2 A3.out).mono ?_); (case side1 => exact zq0); (case side2 => exact zq2); rintro e w5 ⟨rfl, hi, hb, hk⟩; refine ⟨_, rfl, ?_⟩; replace HK := za (KeepBut.trans zq5 hk (.inl rfl)); replace HB := za (hb); replace HI0 := za (hi); (try clear hb hk hi); obtain ⟨ASz6_0, cSz6_0, HGz6, hgz6, HSz6_0⟩ := HI0.out; have hcz6_0 := cellS83_0 HGz6; have hcz6_1 := cellS83_1 HGz6; have hcz6_2 := cellS83_2 HGz6; have hcz6_3 := cellS83_3 HGz6; have hcz6_4 := cellS83_4 HGz6; have hfz6_1 := blk_frozen HGz6 1; have hfz6_2 := blk_frozen HGz6 2; have hfz6_3 := blk_frozen HGz6 3; have hfz6_4 := blk_frozen HGz6 4; clear HGz6 hgz6))
  go_ret
  exact ⟨zq19, zq0, zq2, zq5⟩
 ·
  replace c4 := Bool.eq_false_iff.mpr c4
  subst c4
  rw [if_neg (show ¬ (false = true) by decide)] at H
  simp only [Option.some.injEq, Prod.mk.injEq] at H
  obtain ⟨rfl, rfl, rfl, rfl, rfl⟩ := H
  go_enter Try.func48, Try.ntmps48
  go_wp2_with (first | ((with_reducible refine gate_callee (f := 54) rfl ?_); refine goesL_ (some 7) rfl rfl Try.func54 zq13 rfl #[.pointer (some ⟨g, 0, none⟩), .string a1] rfl zq1 ?_; (with_reducible refine (rr_is.calls g s0_0 s0_1 s0_2 s0_3 s0_4 a1 false t161 t162 t163 t164 w0 _ ?side1 ?side2 A3.out).mono ?_); (case side1 => exact zq0); (case side2 => exact zq2); rintro e w7 ⟨rfl, hi, hb, hk⟩; refine ⟨_, rfl, ?_⟩; replace HK := za (KeepBut.trans zq5 hk (.inl rfl)); replace HB := za (hb); replace HI0 := za (hi); (try clear hb hk hi)))
  go_ret
  exact ⟨zq19, zq0, zq2, zq5⟩
def rr_want.f (s0_0 : List (S110)) (s0_1 : Int) (s0_2 : Int) (s0_3 : Int) (s0_4 : Int) (a1 : ByteArray) : Option (Int × Int × Int × Int) := (rr_take.f s0_0 s0_1 s0_2 s0_3 s0_4 a1).bind fun bt165 => (if bt165.1 = true then (some (bt165.2.1, bt165.2.2.1, bt165.2.2.2.1, bt165.2.2.2.2)) else (none))
set_option maxHeartbeats 8000000 in
set_option maxRecDepth 100000 in
theorem rr_want.calls (g : Nat) (s0_0 : List (S110)) (s0_1 : Int) (s0_2 : Int) (s0_3 : Int) (s0_4 : Int) (a1 : ByteArray) (r1 : Int) (r2 : Int) (r3 : Int) (r4 : Int) (w0 w : World) (hI : IsS83 w0 w g s0_0 s0_1 s0_2 s0_3 s0_4) (hB : Below w0.heap.size w0 w) (h : rr_want.f s0_0 s0_1 s0_2 s0_3 s0_4 a1 = some (r1, r2, r3, r4)) :
  Calls Try.prog 45 #[.pointer (some ⟨g, 0, none⟩), .string a1] w fun e w' => e = .returned (.tuple #[]) ∧ IsS83 w0 w' g s0_0 r1 r2 r3 r4 ∧ Below w0.heap.size w0 w' ∧ KeepBut w w' g none := by
 have HI0 := za hI
 have HK := za (KeepBut.refl w g none)
 have HL := za hB.size
 clear hI
 have HW0 := za hB.size
 have HB := za hB
 clear hB
 have H : ((rr_take.f s0_0 s0_1 s0_2 s0_3 s0_4 a1).bind fun bt165 => (if bt165.1 = true then (some (bt165.2.1, bt165.2.2.1, bt165.2.2.2.1, bt165.2.2.2.2)) else (none))) = some (r1, r2, r3, r4) := h
 clear h
 replace H := Option.bind_eq_some_iff.mp H
 obtain ⟨⟨t165, t166, t167, t168, t169⟩, A30, H⟩ := H
 (try dsimp only at H)
 have A3 := za A30
 clear A30
 by_cases c4 : t165 = true
 ·
  subst c4
  rw [if_pos rfl] at H
  simp only [Option.some.injEq, Prod.mk.injEq] at H
  obtain ⟨rfl, rfl, rfl, rfl⟩ := H
  go_enter Try.func45, Try.ntmps45
  go_wp2_with (first | ((with_reducible refine gate_callee (f := 48) rfl ?_); refine goesL_ (some 6) rfl rfl Try.func48 zq13 rfl #[.pointer (some ⟨g, 0, none⟩), .string a1] rfl zq1 ?_; (with_reducible refine (rr_take.calls g s0_0 s0_1 s0_2 s0_3 s0_4 a1 true t166 t167 t168 t169 w0 _ ?side1 ?side2 A3.out).mono ?_); (case side1 => exact zq0); (case side2 => exact zq2); rintro e w5 ⟨rfl, hi, hb, hk⟩; refine ⟨_, rfl, ?_⟩; replace HK := za (KeepBut.trans zq5 hk (.inl rfl)); replace HB := za (hb); replace HI0 := za (hi); (try clear hb hk hi)))
  first | go_end0 | ((try simp only [Exit.inBlock, Exit.then]); refine bodyPost_ret (results_none rfl _ _ _) rfl ?_)
  exact ⟨zq19, zq0, zq2, zq5⟩
 ·
  replace c4 := Bool.eq_false_iff.mpr c4
  subst c4
  rw [if_neg (show ¬ (false = true) by decide)] at H
  exact absurd H (by simp)
def rr_here.f (s0_0 : List (S110)) (s0_1 : Int) (s0_2 : Int) (s0_3 : Int) (s0_4 : Int) : Option (Int × Int × Int × Int × Int) := if 0 ≤ s0_1 then (if s0_1 < (s0_0.length : Int) then (some ((rd_T110 s0_0 s0_1).f2, s0_1, s0_2, s0_3, s0_4)) else (none)) else (none)
set_option maxHeartbeats 8000000 in
set_option maxRecDepth 100000 in
theorem rr_here.calls (g : Nat) (s0_0 : List (S110)) (s0_1 : Int) (s0_2 : Int) (s0_3 : Int) (s0_4 : Int) (r1 : Int) (r2 : Int) (r3 : Int) (r4 : Int) (r5 : Int) (w0 w : World) (hI : IsS83 w0 w g s0_0 s0_1 s0_2 s0_3 s0_4) (hB : Below w0.heap.size w0 w) (h : rr_here.f s0_0 s0_1 s0_2 s0_3 s0_4 = some (r1, r2, r3, r4, r5)) :
  Calls Try.prog 46 #[.pointer (some ⟨g, 0, none⟩)] w fun e w' => e = .returned (.int .i64 r1) ∧ IsS83 w0 w' g s0_0 r2 r3 r4 r5 ∧ Below w0.heap.size w0 w' ∧ KeepBut w w' g none := by
 have HI0 := za hI
 have HK := za (KeepBut.refl w g none)
 have HL := za hB.size
 clear hI
 have HW0 := za hB.size
 have HB := za hB
 clear hB
 have H : (if 0 ≤ s0_1 then (if s0_1 < (s0_0.length : Int) then (some ((rd_T110 s0_0 s0_1).f2, s0_1, s0_2, s0_3, s0_4)) else (none)) else (none)) = some (r1, r2, r3, r4, r5) := h
 clear h
 by_cases c2 : 0 ≤ s0_1
 ·
  rw [if_pos c2] at H
  have c2b0 := decide_eq_true c2
  clear c2
  by_cases c3 : s0_1 < (s0_0.length : Int)
  ·
   rw [if_pos c3] at H
   have c3b0 : decide (s0_1 < (s0_0.length : Int)) = true := decide_eq_true c3
   clear c3
   simp only [Option.some.injEq, Prod.mk.injEq] at H
   obtain ⟨rfl, rfl, rfl, rfl, rfl⟩ := H
   obtain ⟨ASz4_0, cSz4_0, HGz4, hgz4, HSz4_0⟩ := HI0.out
   have hcz4_0 := cellS83_0 HGz4
   have hcz4_1 := cellS83_1 HGz4
   have hcz4_2 := cellS83_2 HGz4
   have hcz4_3 := cellS83_3 HGz4
   have hcz4_4 := cellS83_4 HGz4
   have hfz4_1 := blk_frozen HGz4 1
   have hfz4_2 := blk_frozen HGz4 2
   have hfz4_3 := blk_frozen HGz4 3
   have hfz4_4 := blk_frozen HGz4 4
   clear HGz4 hgz4
   have p170 : 0 ≤ (s0_1 : Int) := of_decide_eq_true zq9
   have q170 : s0_1 < (s0_0.length : Int) := of_decide_eq_true zq9
   obtain ⟨ad170, e170, hx170_0, hx170_1, hx170_2⟩ := at_T110 HSz4_0 s0_1 p170 q170
   cases e170
   replace hx170_0 := pw_cell_below HB.out hx170_0
   replace hx170_1 := pw_cell_below HB.out hx170_1
   replace hx170_2 := pw_cell_below HB.out hx170_2
   replace p170 := eq_true p170
   replace q170 := eq_true q170
   go_enter Try.func46, Try.ntmps46
   go_wp2
   repeat (go_quiet (fail); try go_wp2)
   go_ret
   exact ⟨zq19, zq0, zq2, zq5⟩
  ·
   rw [if_neg c3] at H
   exact absurd H (by simp)
 ·
  rw [if_neg c2] at H
  exact absurd H (by simp)
def rr_name.f (s0_0 : List (S110)) (s0_1 : Int) (s0_2 : Int) (s0_3 : Int) (s0_4 : Int) : Option (ByteArray × Int × Int × Int × Int) := if 0 ≤ s0_1 then (if s0_1 < (s0_0.length : Int) then (if s0_3 = 0 then (if ((rd_T110 s0_0 s0_1).f0) = 1 then (some ((rd_T110 s0_0 s0_1).f1, wrap64 (s0_1 + 1), s0_2, s0_3, s0_4)) else (none)) else (none)) else (none)) else (none)
def rr_name.T1 : Bool × List (List Nat × List Nat) := (true, [([], []), ([0], [0]), ([1], [1]), ([2], [2]), ([], []), ([4], [4]), ([5], [5]), ([6], [6]), ([3, 7], [3, 7]), ([8], [8]), ([], []), ([10, 9, 0, 1, 2, 3, 4, 5, 6, 7, 8, 9, 10], [9, 10])])
def rr_name.B1 : List Nat := [0, 1, 3, 7, 0, 16, 48, 112, 255, 511, 0, 2047]
theorem rr_name.tab1 : rtab .any (opsOf Try.f47 1) = rr_name.T1 := by kernel_rfl
theorem rr_name.bits1 : waitsOk rr_name.T1.2 rr_name.B1 = true := by kernel_rfl
set_option maxHeartbeats 8000000 in
set_option maxRecDepth 100000 in
theorem rr_name.calls (g : Nat) (s0_0 : List (S110)) (s0_1 : Int) (s0_2 : Int) (s0_3 : Int) (s0_4 : Int) (r1 : ByteArray) (r2 : Int) (r3 : Int) (r4 : Int) (r5 : Int) (w0 w : World) (hI : IsS83 w0 w g s0_0 s0_1 s0_2 s0_3 s0_4) (hB : Below w0.heap.size w0 w) (h : rr_name.f s0_0 s0_1 s0_2 s0_3 s0_4 = some (r1, r2, r3, r4, r5)) :
  Calls Try.prog 47 #[.pointer (some ⟨g, 0, none⟩)] w fun e w' => e = .returned (.string r1) ∧ IsS83 w0 w' g s0_0 r2 r3 r4 r5 ∧ Below w0.heap.size w0 w' ∧ KeepBut w w' g none := by
 have hu110 := Try.underlying110
 have HI0 := za hI
 have HK := za (KeepBut.refl w g none)
 have HL := za hB.size
 clear hI
 have HW0 := za hB.size
 have HB := za hB
 clear hB
 have H : (if 0 ≤ s0_1 then (if s0_1 < (s0_0.length : Int) then (if s0_3 = 0 then (if ((rd_T110 s0_0 s0_1).f0) = 1 then (some ((rd_T110 s0_0 s0_1).f1, wrap64 (s0_1 + 1), s0_2, s0_3, s0_4)) else (none)) else (none)) else (none)) else (none)) = some (r1, r2, r3, r4, r5) := h
 clear h
 by_cases c2 : 0 ≤ s0_1
 ·
  rw [if_pos c2] at H
  have c2b0 := decide_eq_true c2
  clear c2
  by_cases c3 : s0_1 < (s0_0.length : Int)
  ·
   rw [if_pos c3] at H
   have c3b0 : decide (s0_1 < (s0_0.length : Int)) = true := decide_eq_true c3
   clear c3
   by_cases c4 : s0_3 = 0
   ·
    rw [if_pos c4] at H
    have c4b0 := beq_iff_eq.mpr c4
    have c4b1 := bne_eq_false_iff_eq.mpr c4
    clear c4
    by_cases c5 : ((rd_T110 s0_0 s0_1).f0) = 1
    ·
     rw [if_pos c5] at H
     have c5b0 := beq_iff_eq.mpr c5
     have c5b1 := bne_eq_false_iff_eq.mpr c5
     clear c5
     simp only [Option.some.injEq, Prod.mk.injEq] at H
     obtain ⟨rfl, rfl, rfl, rfl, rfl⟩ := H
     go_enter Try.func47, Try.ntmps47
     try go_wp2
     replace HI0 := za (IsS83.drew HI0.out)
     replace HK := za (keep_drew HK.out)
     replace HB := za (below_drew1 HB.out)
     obtain ⟨ASz7_0, cSz7_0, HGz7, hgz7, HSz7_0⟩ := HI0.out
     have hx7_0 := cellS83_0 HGz7
     have hx7_1 := cellS83_1 HGz7
     have hx7_2 := cellS83_2 HGz7
     have hx7_3 := cellS83_3 HGz7
     have hx7_4 := cellS83_4 HGz7
     clear HGz7 hgz7
     have p171 : 0 ≤ (s0_1 : Int) := of_decide_eq_true zq9
     have q171 : s0_1 < (s0_0.length : Int) := of_decide_eq_true zq9
     obtain ⟨ad171, e171, hx171_0, hx171_1, hx171_2⟩ := at_T110 HSz7_0 s0_1 p171 q171
     have hw171_2 := hx171_2
     have hw171_1 := hx171_1
     have hw171_0 := hx171_0
     cases e171
     replace hx171_0 := pw_cell_below HB.out hx171_0
     replace hx171_1 := pw_cell_below HB.out hx171_1
     replace hx171_2 := pw_cell_below HB.out hx171_2
     replace p171 := eq_true p171
     replace q171 := eq_true q171
     refine start_ (n := 12) (S := fun w' => w'.cell? ⟨g, 0, none⟩ = some (.slice (some ad171) s0_0.length cSz7_0) ∧ w'.cell? ⟨g, 1, none⟩ = some (.int .i64 s0_1) ∧ w'.cell? ⟨g, 2, none⟩ = some (.int .i64 s0_2) ∧ w'.cell? ⟨g, 3, none⟩ = some (.int .i64 s0_3) ∧ w'.cell? ⟨g, 4, none⟩ = some (.int .i64 s0_4) ∧ w'.cell? (ad171.add ((s0_1).toNat * 3)) = some (.int .i64 ((rd_T110 s0_0 s0_1).f0)) ∧ w'.cell? ⟨(ad171.add ((s0_1).toNat * 3)).block, (ad171.add ((s0_1).toNat * 3)).off + 1, none⟩ = some (.string ((rd_T110 s0_0 s0_1).f1)) ∧ w'.cell? ⟨(ad171.add ((s0_1).toNat * 3)).block, (ad171.add ((s0_1).toNat * 3)).off + 2, none⟩ = some (.int .i64 ((rd_T110 s0_0 s0_1).f2))) (ds := [11]) #[false, false, false, false, false, false, false, false, false, false, false, false] zq13 rfl rfl ⟨hx7_0, hx7_1, hx7_2, hx7_3, hx7_4, hx171_0, hx171_1, hx171_2⟩ (fun hHeld => ?_); refine with_tabW rr_name.tab1 rr_name.bits1 (fun HT_ HW_ => ?_)
     generalize w.drew = w6 at HI0 HK HB hx171_0 hx171_1 hx171_2 hx7_0 hx7_1 hx7_2 hx7_3 hx7_4 hHeld ⊢
     refine pure_ (i := 0) (N := some 4) #[true, false, false, false, false, false, false, false, false, false, false, false] rfl rfl (any_of HT_.out zq13) (fun _ _ _ h => h) (Or.inl ⟨by rfl, zpv⟩) zpw ?_
     refine pure_ (i := 1) (N := some 5) #[true, true, false, false, false, false, false, false, false, false, false, false] rfl rfl (any_of HT_.out zq13) (fun _ _ _ h => h) (Or.inl ⟨by rfl, zpv⟩) zpw ?_
     refine pure_ (i := 2) (N := some 6) #[true, true, true, false, false, false, false, false, false, false, false, false] rfl rfl (any_of HT_.out zq13) (fun _ _ _ h => h) (Or.inl ⟨by rfl, zpv⟩) zpw ?_
     refine pure_ (i := 4) (N := some 8) #[true, true, true, false, true, false, false, false, false, false, false, false] rfl rfl (any_of HT_.out zq13) (fun _ _ _ h => h) (Or.inl ⟨by rfl, zpv⟩) zpw ?_
     refine pure_ (i := 5) (N := some 9) #[true, true, true, false, true, true, false, false, false, false, false, false] rfl rfl (any_of HT_.out zq13) (fun _ _ _ h => h) (Or.inl ⟨by rfl, zpv⟩) zpw ?_
     refine pure_ (i := 6) (N := some 10) #[true, true, true, false, true, true, true, false, false, false, false, false] rfl rfl (any_of HT_.out zq13) (fun _ _ _ h => h) (Or.inl ⟨by rfl, zpv⟩) zpw ?_
     refine take_ (i := 3) (N := some 7) (v := ?_) (a' := ?_) #[true, true, true, true, true, true, true, false, false, false, false, false] rfl rfl (take_ofW HT_.out HW_.out zq13) (fun _ _ _ h => h) (Or.inl ⟨by rfl, ?_⟩) hHeld ?_ ?_
     rotate_left
     ·
      rintro w' ⟨s0, s1, s2, s3, s4, s5, s6, s7⟩
      go_simp
      with_reducible rfl
     rotate_left
     ·
      simp only [Act.put, List.setIfInBounds_toArray, List.set_cons_zero, List.set_cons_succ, i64_w, i32_w]
      rfl
     refine take_ (i := 7) (N := some 11) (v := ?_) (a' := ?_) #[true, true, true, true, true, true, true, true, false, false, false, false] rfl rfl (take_ofW HT_.out HW_.out zq13) (fun _ _ _ h => h) (Or.inl ⟨by rfl, ?_⟩) hHeld ?_ ?_
     rotate_left
     ·
      rintro w' ⟨s0, s1, s2, s3, s4, s5, s6, s7⟩
      go_simp
      with_reducible rfl
     rotate_left
     ·
      simp only [Act.put, List.setIfInBounds_toArray, List.set_cons_zero, List.set_cons_succ, i64_w, i32_w]
      rfl
     refine pure_ (i := 8) (N := some 12) #[true, true, true, true, true, true, true, true, true, false, false, false] rfl rfl (any_of HT_.out zq13) (fun _ _ _ h => h) (Or.inl ⟨by rfl, zpv⟩) zpw ?_
     refine take_ (i := 9) (N := some 13) (v := ?_) (a' := ?_) #[true, true, true, true, true, true, true, true, true, true, false, false] rfl rfl (take_ofW HT_.out HW_.out zq13) (fun _ _ _ h => h) (Or.inl ⟨by rfl, ?_⟩) hHeld ?_ ?_
     rotate_left
     ·
      rintro w' ⟨s0, s1, s2, s3, s4, s5, s6, s7⟩
      go_simp
      with_reducible rfl
     rotate_left
     ·
      simp only [Act.put, List.setIfInBounds_toArray, List.set_cons_zero, List.set_cons_succ, i64_w, i32_w]
      rfl
     refine one_ (i := 10) (N := some 3) #[true, true, true, true, true, true, true, true, true, true, true, false] rfl rfl (one_of HT_.out zq13) (by decide) (fun K hK => ?_)
     refine box_step ?hg (N := 3) ?hd (cs := #[.int .i64 0, .string (⟨#[]⟩ : ByteArray), .int .i64 0]) (t := 110) ?hr ?_; (case hd => rfl); (case hg => rfl); (case hr => exact zq21)
     intro gb172 hg w8 hbox hb
     have HS0_ := (hb.cell (World.block_lt_of_cell? _ _ (hHeld.1))).trans (hHeld.1)
     have HS1_ := (hb.cell (World.block_lt_of_cell? _ _ (hHeld.2.1))).trans (hHeld.2.1)
     have HS2_ := (hb.cell (World.block_lt_of_cell? _ _ (hHeld.2.2.1))).trans (hHeld.2.2.1)
     have HS3_ := (hb.cell (World.block_lt_of_cell? _ _ (hHeld.2.2.2.1))).trans (hHeld.2.2.2.1)
     have HS4_ := (hb.cell (World.block_lt_of_cell? _ _ (hHeld.2.2.2.2.1))).trans (hHeld.2.2.2.2.1)
     have HS5_ := (hb.cell (World.block_lt_of_cell? _ _ (hHeld.2.2.2.2.2.1))).trans (hHeld.2.2.2.2.2.1)
     have HS6_ := (hb.cell (World.block_lt_of_cell? _ _ (hHeld.2.2.2.2.2.2.1))).trans (hHeld.2.2.2.2.2.2.1)
     have HS7_ := (hb.cell (World.block_lt_of_cell? _ _ (hHeld.2.2.2.2.2.2.2))).trans (hHeld.2.2.2.2.2.2.2)
     replace HB := za (below_step zq2 hb)
     have BK172 := za (hbox)
     have GW172 := za ((by rw [hg]; exact (keep_size (w := w) (g := g) (row := none) zq5) : w.heap.size ≤ gb172))
     have GE172 := za ((Nat.le_trans HW0.out (by rw [hg]; exact (keep_size (w := w) (g := g) (row := none) zq5) : w.heap.size ≤ gb172) : w0.heap.size ≤ gb172))
     replace HK := za (KeepBut.trans zq5 (KeepBut.of_below hb g none) (.inl rfl))
     have NB0_172 := za ((by rw [hg]; exact Nat.ne_of_lt (IsS83.lt (show IsS83 w0 _ g s0_0 s0_1 s0_2 s0_3 s0_4 from zq0)) : g ≠ gb172))
     have NB172_0 := za ((by rw [hg]; exact Nat.ne_of_gt (IsS83.lt (show IsS83 w0 _ g s0_0 s0_1 s0_2 s0_3 s0_4 from zq0)) : gb172 ≠ g))
     replace HI0 := za (IsS83.below zq0 hb)
     clear hb hbox hg
     refine hK.out _ _ ⟨HS0_, HS1_, HS2_, HS3_, HS4_, HS5_, HS6_, HS7_⟩ (fun hHeld => ?_)
     clear hK K
     refine norm_ (a' := ?_) ?_ ?_
     rotate_left
     ·
      show Act.put _ (some 3) _ = _
      simp only [Act.put, List.setIfInBounds_toArray, List.set_cons_zero, List.set_cons_succ, i64_w, i32_w]
      rfl
     refine last_ (i := 11) (N := none) #[true, true, true, true, true, true, true, true, true, true, true, true] rfl rfl (one_of HT_.out zq13) (by decide) (fun K hK => ?_)
     have hs9 : w8.cell? ⟨gb172, 0, none⟩ = some (.int .i64 0) := (blk_cell BK172.out 0).trans rfl
     have hfs9 := blk_frozen BK172.out 0
     have hs10 : w8.cell? ⟨gb172, 1, none⟩ = some (.string (⟨#[]⟩ : ByteArray)) := (blk_cell BK172.out 1).trans rfl
     have hfs10 := blk_frozen BK172.out 1
     have hs11 : w8.cell? ⟨gb172, 2, none⟩ = some (.int .i64 0) := (blk_cell BK172.out 2).trans rfl
     have hfs11 := blk_frozen BK172.out 2
     refine skip_ (w1 := ?_) (by rfl) rfl ?_ ?_
     rotate_left
     ·
      go_simp
      rfl
     refine hK.out _ _ ?_
     clear hK K
     refine done_ (done_of HT_.out zq13) ?_
     obtain ⟨ASz12_0, cSz12_0, HGz12, hgz12, HSz12_0⟩ := HI0.out
     have hcz12_0 := cellS83_0 HGz12
     have hcz12_1 := cellS83_1 HGz12
     have hcz12_2 := cellS83_2 HGz12
     have hcz12_3 := cellS83_3 HGz12
     have hcz12_4 := cellS83_4 HGz12
     have hfz12_1 := blk_frozen HGz12 1
     have hfz12_2 := blk_frozen HGz12 2
     have hfz12_3 := blk_frozen HGz12 3
     have hfz12_4 := blk_frozen HGz12 4
     clear HGz12 hgz12
     have hnb13 := NB172_0.out
     have hnc13 := NB0_172.out
     obtain ⟨hcz14_0, hcz14_1, hcz14_2⟩ := zc3 BK172.out
     obtain ⟨hfz14_0, hfz14_1, hfz14_2⟩ := zf3 BK172.out
     try go_wp2
     go_ret
     exact ⟨zq19, by repeat (first | (with_reducible first | exact HI0.out | apply IsS83.alloc | apply IsS83.drewN | apply IsS83.drew | apply IsS83.set_1 | apply IsS83.set_2 | apply IsS83.set_3 | apply IsS83.set_4 | apply IsS83.far (hne := NB0_172.out)) | exact HI0.out), by repeat (first | (with_reducible first | exact HB.out | apply below_alloc | apply pw_below_drewN | apply below_drew1 | refine below_set ?_ (IsS83.ge HI0.out) | refine below_set ?_ GE172.out) | exact HB.out), by repeat (first | (with_reducible first | exact HK.out | apply KeepBut.set_ | apply keep_drewN | apply keep_drew | apply keep_alloc | refine keep_far ?_ GW172.out _) | exact HK.out)⟩
    ·
     rw [if_neg c5] at H
     exact absurd H (by simp)
   ·
    rw [if_neg c4] at H
    exact absurd H (by simp)
  ·
   rw [if_neg c3] at H
   exact absurd H (by simp)
 ·
  rw [if_neg c2] at H
  exact absurd H (by simp)
def rr_open.j0 : Nat → ByteArray → Bool → List (S110) → Int → Int → Int → Int → Option (Int × Int × Int × Int)
 | 0, _, _, _, _, _, _, _ => none
 | k + 1, x1, x13, x1000, x1001, x1002, x1003, x1004 => if x13 = true then (none) else ((rr_want.f x1000 x1001 x1002 x1003 x1004 x1).bind fun bt178 => (some (bt178.1, wrap64 (bt178.2.1 + 1), bt178.2.2.1, bt178.2.2.2)))
def rr_open.f (k : Nat) (s0_0 : List (S110)) (s0_1 : Int) (s0_2 : Int) (s0_3 : Int) (s0_4 : Int) (a1 : ByteArray) : Option (Int × Int × Int × Int) := (rr_is.f s0_0 s0_1 s0_2 s0_3 s0_4 a1).bind fun bt173 => (if bt173.1 = true then (rr_open.j0 k a1 (decide (bt173.2.2.1 ≥ 40)) s0_0 bt173.2.1 bt173.2.2.1 bt173.2.2.2.1 bt173.2.2.2.2) else (rr_open.j0 k a1 false s0_0 bt173.2.1 bt173.2.2.1 bt173.2.2.2.1 bt173.2.2.2.2))
theorem rr_open.mono_l : ∀ k, (∀ y0 y1 y2 y3 y4 y5 y6, LeO (rr_open.j0 k y0 y1 y2 y3 y4 y5 y6) (rr_open.j0 (k + 1) y0 y1 y2 y3 y4 y5 y6))
 | 0 => fun _ _ _ _ _ _ _ r h => by simp [rr_open.j0] at h
 | k + 1 => by
  have ih0 := rr_open.mono_l k
  ·
   intro y0 y1 y2 y3 y4 y5 y6
   unfold rr_open.j0
   repeat' with_reducible first | apply ih0 | exact LeO.refl _ | exact LeO.none _ | refine LeO.ite ?_ ?_ | refine LeO.bind ?_ (fun _ => ?_)
theorem rr_open.mono : ∀ a0 a1 a2 a3 a4 a5 k, LeO (rr_open.f k a0 a1 a2 a3 a4 a5) (rr_open.f (k + 1) a0 a1 a2 a3 a4 a5) := by
 intro a0 a1 a2 a3 a4 a5 k
 have ih0 := rr_open.mono_l k
 unfold rr_open.f
 repeat' with_reducible first | apply ih0 | exact LeO.refl _ | exact LeO.none _ | refine LeO.ite ?_ ?_ | refine LeO.bind ?_ (fun _ => ?_)
set_option maxHeartbeats 8000000 in
set_option maxRecDepth 100000 in
theorem rr_open.calls (k : Nat) (g : Nat) (s0_0 : List (S110)) (s0_1 : Int) (s0_2 : Int) (s0_3 : Int) (s0_4 : Int) (a1 : ByteArray) (r1 : Int) (r2 : Int) (r3 : Int) (r4 : Int) (w0 w : World) (hI : IsS83 w0 w g s0_0 s0_1 s0_2 s0_3 s0_4) (hB : Below w0.heap.size w0 w) (h : rr_open.f k s0_0 s0_1 s0_2 s0_3 s0_4 a1 = some (r1, r2, r3, r4)) :
  Calls Try.prog 66 #[.pointer (some ⟨g, 0, none⟩), .string a1] w fun e w' => e = .returned (.tuple #[]) ∧ IsS83 w0 w' g s0_0 r1 r2 r3 r4 ∧ Below w0.heap.size w0 w' ∧ KeepBut w w' g none := by
 have HI0 := za hI
 have HK := za (KeepBut.refl w g none)
 have HL := za hB.size
 clear hI
 have HW0 := za hB.size
 have HB := za hB
 clear hB
 have H : ((rr_is.f s0_0 s0_1 s0_2 s0_3 s0_4 a1).bind fun bt173 => (if bt173.1 = true then (rr_open.j0 k a1 (decide (bt173.2.2.1 ≥ 40)) s0_0 bt173.2.1 bt173.2.2.1 bt173.2.2.2.1 bt173.2.2.2.2) else (rr_open.j0 k a1 false s0_0 bt173.2.1 bt173.2.2.1 bt173.2.2.2.1 bt173.2.2.2.2))) = some (r1, r2, r3, r4) := h
 clear h
 have HC3 := za H
 clear H
 go_enter Try.func66, Try.ntmps66
 go_upto_region 0 with (fail)
 go_cut [13] (fun v13 wc => ∃ (kq : Nat) (x13_2 : Bool) (x1001_2 : Int) (x1002_2 : Int) (x1003_2 : Int) (x1004_2 : Int), v13 = .bool x13_2 ∧ Aside0 (rr_open.j0 kq a1 x13_2 s0_0 x1001_2 x1002_2 x1003_2 x1004_2 = some (r1, r2, r3, r4)) ∧ Aside0 (kq ≤ k) ∧ Aside0 (IsS83 w0 wc g s0_0 x1001_2 x1002_2 x1003_2 x1004_2) ∧ Aside0 (KeepBut w wc g none) ∧ Aside0 (Below w0.heap.size w0 wc))
 case first =>
  have H := HC3.out
  clear HC3
  replace H := Option.bind_eq_some_iff.mp H
  obtain ⟨⟨t173, t174, t175, t176, t177⟩, A40, H⟩ := H
  (try dsimp only at H)
  have A4 := za A40
  clear A40
  by_cases c5 : t173 = true
  ·
   subst c5
   rw [if_pos rfl] at H
   have H' := za H
   clear H
   go_wp2_with (first | ((with_reducible refine gate_callee (f := 54) rfl ?_); refine goesL_ (some 6) rfl rfl Try.func54 zq13 rfl #[.pointer (some ⟨g, 0, none⟩), .string a1] rfl zq1 ?_; (with_reducible refine (rr_is.calls g s0_0 s0_1 s0_2 s0_3 s0_4 a1 true t174 t175 t176 t177 w0 _ ?side1 ?side2 A4.out).mono ?_); (case side1 => exact zq0); (case side2 => exact zq2); rintro e w6 ⟨rfl, hi, hb, hk⟩; refine ⟨_, rfl, ?_⟩; replace HK := za (KeepBut.trans zq5 hk (.inl rfl)); replace HB := za (hb); replace HI0 := za (hi); (try clear hb hk hi); obtain ⟨ASz7_0, cSz7_0, HGz7, hgz7, HSz7_0⟩ := HI0.out; have hcz7_0 := cellS83_0 HGz7; have hcz7_1 := cellS83_1 HGz7; have hcz7_2 := cellS83_2 HGz7; have hcz7_3 := cellS83_3 HGz7; have hcz7_4 := cellS83_4 HGz7; have hfz7_1 := blk_frozen HGz7 1; have hfz7_2 := blk_frozen HGz7 2; have hfz7_3 := blk_frozen HGz7 3; have hfz7_4 := blk_frozen HGz7 4; clear HGz7 hgz7))
   go_meet
   case rel => exact ⟨_, (decide (t175 ≥ 40)), (t174), (t175), (t176), (t177), zq26, H', ⟨zq88⟩, ⟨zq0⟩, ⟨zq5⟩, ⟨zq2⟩⟩
  ·
   replace c5 := Bool.eq_false_iff.mpr c5
   subst c5
   rw [if_neg (show ¬ (false = true) by decide)] at H
   have H' := za H
   clear H
   go_wp2_with (first | ((with_reducible refine gate_callee (f := 54) rfl ?_); refine goesL_ (some 6) rfl rfl Try.func54 zq13 rfl #[.pointer (some ⟨g, 0, none⟩), .string a1] rfl zq1 ?_; (with_reducible refine (rr_is.calls g s0_0 s0_1 s0_2 s0_3 s0_4 a1 false t174 t175 t176 t177 w0 _ ?side1 ?side2 A4.out).mono ?_); (case side1 => exact zq0); (case side2 => exact zq2); rintro e w8 ⟨rfl, hi, hb, hk⟩; refine ⟨_, rfl, ?_⟩; replace HK := za (KeepBut.trans zq5 hk (.inl rfl)); replace HB := za (hb); replace HI0 := za (hi); (try clear hb hk hi)))
   go_meet
   case rel => exact ⟨_, (false), (t174), (t175), (t176), (t177), zq26, H', ⟨zq88⟩, ⟨zq0⟩, ⟨zq5⟩, ⟨zq2⟩⟩
 case rest =>
  clear HC3
  obtain ⟨kq, x13_2, x1001_2, x1002_2, x1003_2, x1004_2, rfl, HA, HJ2, HI0, HK, HB⟩ := hcut
  cases kq with
  | zero => exact absurd HA.out (by simp [rr_open.j0])
  | succ kj2 =>
   have H := HA.out
   clear HA
   simp only [rr_open.j0] at H
   by_cases c9 : x13_2 = true
   ·
    subst c9
    rw [if_pos rfl] at H
    exact absurd H (by simp)
   ·
    replace c9 := Bool.eq_false_iff.mpr c9
    subst c9
    rw [if_neg (show ¬ (false = true) by decide)] at H
    replace H := Option.bind_eq_some_iff.mp H
    obtain ⟨⟨t178, t179, t180, t181⟩, A100, H⟩ := H
    (try dsimp only at H)
    have A10 := za A100
    clear A100
    simp only [Option.some.injEq, Prod.mk.injEq] at H
    obtain ⟨rfl, rfl, rfl, rfl⟩ := H
    go_wp2_with (first | ((with_reducible refine gate_callee (f := 45) rfl ?_); refine goesL_ (some 18) rfl rfl Try.func45 zq13 rfl #[.pointer (some ⟨g, 0, none⟩), .string a1] rfl zq1 ?_; (with_reducible refine (rr_want.calls g s0_0 x1001_2 x1002_2 x1003_2 x1004_2 a1 t178 t179 t180 t181 w0 _ ?side1 ?side2 A10.out).mono ?_); (case side1 => exact zq0); (case side2 => exact zq2); rintro e w11 ⟨rfl, hi, hb, hk⟩; refine ⟨_, rfl, ?_⟩; replace HK := za (KeepBut.trans zq5 hk (.inl rfl)); replace HB := za (hb); replace HI0 := za (hi); (try clear hb hk hi); obtain ⟨ASz12_0, cSz12_0, HGz12, hgz12, HSz12_0⟩ := HI0.out; have hcz12_0 := cellS83_0 HGz12; have hcz12_1 := cellS83_1 HGz12; have hcz12_2 := cellS83_2 HGz12; have hcz12_3 := cellS83_3 HGz12; have hcz12_4 := cellS83_4 HGz12; have hfz12_1 := blk_frozen HGz12 1; have hfz12_2 := blk_frozen HGz12 2; have hfz12_3 := blk_frozen HGz12 3; have hfz12_4 := blk_frozen HGz12 4; clear HGz12 hgz12))
    first | go_end0 | ((try simp only [Exit.inBlock, Exit.then]); refine bodyPost_ret (results_none rfl _ _ _) rfl ?_)
    exact ⟨zq19, zq0, zq2, zq5⟩
def rr_fail.f (s0_0 : List (S110)) (s0_1 : Int) (s0_2 : Int) (s0_3 : Int) (s0_4 : Int) (a1 : Int) : Option (Int × Int × Int × Int) := if s0_3 = 0 then (if 0 ≤ s0_1 then (if s0_1 < (s0_0.length : Int) then (some (s0_1, s0_2, a1, (rd_T110 s0_0 s0_1).f2)) else (none)) else (none)) else (some (s0_1, s0_2, s0_3, s0_4))
def rr_fail.T2 : Bool × List (List Nat × List Nat) := (true, [([], []), ([], []), ([1], [1]), ([2], [2]), ([3], [3]), ([], []), ([5], [5]), ([6], [6]), ([7], [7]), ([4, 8], [4, 8]), ([9], [9]), ([10], [10]), ([0, 0, 1, 2, 3, 4, 5, 6, 7, 8, 9, 10, 11], [0]), ([12, 0, 1, 2, 3, 4, 5, 6, 7, 8, 9, 10, 11], [12]), ([13, 11, 0, 1, 2, 3, 4, 5, 6, 7, 8, 9, 10, 11], [11, 13])])
def rr_fail.B2 : List Nat := [0, 0, 2, 6, 14, 0, 32, 96, 224, 510, 1022, 2046, 4095, 8191, 16383]
theorem rr_fail.tab2 : rtab .any (opsOf Try.f51 2) = rr_fail.T2 := by kernel_rfl
theorem rr_fail.bits2 : waitsOk rr_fail.T2.2 rr_fail.B2 = true := by kernel_rfl
set_option maxHeartbeats 8000000 in
set_option maxRecDepth 100000 in
theorem rr_fail.calls (g : Nat) (s0_0 : List (S110)) (s0_1 : Int) (s0_2 : Int) (s0_3 : Int) (s0_4 : Int) (a1 : Int) (r1 : Int) (r2 : Int) (r3 : Int) (r4 : Int) (w0 w : World) (hI : IsS83 w0 w g s0_0 s0_1 s0_2 s0_3 s0_4) (hB : Below w0.heap.size w0 w) (h : rr_fail.f s0_0 s0_1 s0_2 s0_3 s0_4 a1 = some (r1, r2, r3, r4)) :
  Calls Try.prog 51 #[.pointer (some ⟨g, 0, none⟩), .int .i64 a1] w fun e w' => e = .returned (.tuple #[]) ∧ IsS83 w0 w' g s0_0 r1 r2 r3 r4 ∧ Below w0.heap.size w0 w' ∧ KeepBut w w' g none := by
 have HI0 := za hI
 have HK := za (KeepBut.refl w g none)
 have HL := za hB.size
 clear hI
 have HW0 := za hB.size
 have HB := za hB
 clear hB
 have H : (if s0_3 = 0 then (if 0 ≤ s0_1 then (if s0_1 < (s0_0.length : Int) then (some (s0_1, s0_2, a1, (rd_T110 s0_0 s0_1).f2)) else (none)) else (none)) else (some (s0_1, s0_2, s0_3, s0_4))) = some (r1, r2, r3, r4) := h
 clear h
 by_cases c3 : s0_3 = 0
 ·
  rw [if_pos c3] at H
  have c3b0 := beq_iff_eq.mpr c3
  have c3b1 := bne_eq_false_iff_eq.mpr c3
  clear c3
  by_cases c4 : 0 ≤ s0_1
  ·
   rw [if_pos c4] at H
   have c4b0 : decide (0 ≤ s0_1) = true := decide_eq_true c4
   clear c4
   by_cases c5 : s0_1 < (s0_0.length : Int)
   ·
    rw [if_pos c5] at H
    have c5b0 : decide (s0_1 < (s0_0.length : Int)) = true := decide_eq_true c5
    clear c5
    simp only [Option.some.injEq, Prod.mk.injEq] at H
    obtain ⟨rfl, rfl, rfl, rfl⟩ := H
    obtain ⟨ASz6_0, cSz6_0, HGz6, hgz6, HSz6_0⟩ := HI0.out
    have hcz6_0 := cellS83_0 HGz6
    have hcz6_1 := cellS83_1 HGz6
    have hcz6_2 := cellS83_2 HGz6
    have hcz6_3 := cellS83_3 HGz6
    have hcz6_4 := cellS83_4 HGz6
    have hfz6_1 := blk_frozen HGz6 1
    have hfz6_2 := blk_frozen HGz6 2
    have hfz6_3 := blk_frozen HGz6 3
    have hfz6_4 := blk_frozen HGz6 4
    clear HGz6 hgz6
    go_enter Try.func51, Try.ntmps51
    try go_wp2
    have n0_ : Aside0 (IsS83 w0 (w.setCell ⟨g, 3, none⟩ (.int .i64 a1)) g s0_0 s0_1 s0_2 a1 s0_4) := ⟨zq0⟩
    have n1_ : Aside0 (KeepBut w (w.setCell ⟨g, 3, none⟩ (.int .i64 a1)) g none) := ⟨zq5⟩
    have n2_ : Aside0 (Below w0.heap.size w0 (w.setCell ⟨g, 3, none⟩ (.int .i64 a1))) := ⟨zq2⟩
    generalize (w.setCell ⟨g, 3, none⟩ (.int .i64 a1)) = w7 at n0_ n1_ n2_ ⊢
    have HI0 := n0_
    have HK := n1_
    have HB := n2_
    clear n0_ n1_ n2_
    replace HI0 := za (IsS83.drew HI0.out)
    replace HK := za (keep_drew HK.out)
    replace HB := za (below_drew1 HB.out)
    obtain ⟨ASz9_0, cSz9_0, HGz9, hgz9, HSz9_0⟩ := HI0.out
    have hx9_0 := cellS83_0 HGz9
    have hx9_1 := cellS83_1 HGz9
    have hx9_2 := cellS83_2 HGz9
    have hx9_3 := cellS83_3 HGz9
    have hx9_4 := cellS83_4 HGz9
    clear HGz9 hgz9
    have p182 : 0 ≤ (s0_1 : Int) := of_decide_eq_true zq9
    have q182 : s0_1 < (s0_0.length : Int) := of_decide_eq_true zq9
    obtain ⟨ad182, e182, hx182_0, hx182_1, hx182_2⟩ := at_T110 HSz9_0 s0_1 p182 q182
    have hw182_2 := hx182_2
    have hw182_1 := hx182_1
    have hw182_0 := hx182_0
    cases e182
    replace hx182_0 := pw_cell_below HB.out hx182_0
    replace hx182_1 := pw_cell_below HB.out hx182_1
    replace hx182_2 := pw_cell_below HB.out hx182_2
    replace p182 := eq_true p182
    replace q182 := eq_true q182
    refine start_ (n := 15) (S := fun w' => w'.cell? ⟨g, 0, none⟩ = some (.slice (some ad182) s0_0.length cSz9_0) ∧ w'.cell? ⟨g, 1, none⟩ = some (.int .i64 s0_1) ∧ w'.cell? ⟨g, 2, none⟩ = some (.int .i64 s0_2) ∧ w'.cell? ⟨g, 3, none⟩ = some (.int .i64 a1) ∧ w'.cell? ⟨g, 4, none⟩ = some (.int .i64 s0_4) ∧ w'.cell? (ad182.add ((s0_1).toNat * 3)) = some (.int .i64 ((rd_T110 s0_0 s0_1).f0)) ∧ w'.cell? ⟨(ad182.add ((s0_1).toNat * 3)).block, (ad182.add ((s0_1).toNat * 3)).off + 1, none⟩ = some (.string ((rd_T110 s0_0 s0_1).f1)) ∧ w'.cell? ⟨(ad182.add ((s0_1).toNat * 3)).block, (ad182.add ((s0_1).toNat * 3)).off + 2, none⟩ = some (.int .i64 ((rd_T110 s0_0 s0_1).f2))) (ds := [14]) #[false, false, false, false, false, false, false, false, false, false, false, false, false, false, false] zq13 rfl rfl ⟨hx9_0, hx9_1, hx9_2, hx9_3, hx9_4, hx182_0, hx182_1, hx182_2⟩ (fun hHeld => ?_); refine with_tabW rr_fail.tab2 rr_fail.bits2 (fun HT_ HW_ => ?_)
    generalize w7.drew = w8 at HI0 HK HB hx182_0 hx182_1 hx182_2 hx9_0 hx9_1 hx9_2 hx9_3 hx9_4 hHeld ⊢
    refine pure_ (i := 0) (N := some 13) #[true, false, false, false, false, false, false, false, false, false, false, false, false, false, false] rfl rfl (any_of HT_.out zq13) (fun _ _ _ h => h) (Or.inl ⟨by rfl, zpv⟩) zpw ?_
    refine pure_ (i := 1) (N := some 14) #[true, true, false, false, false, false, false, false, false, false, false, false, false, false, false] rfl rfl (any_of HT_.out zq13) (fun _ _ _ h => h) (Or.inl ⟨by rfl, zpv⟩) zpw ?_
    refine pure_ (i := 2) (N := some 15) #[true, true, true, false, false, false, false, false, false, false, false, false, false, false, false] rfl rfl (any_of HT_.out zq13) (fun _ _ _ h => h) (Or.inl ⟨by rfl, zpv⟩) zpw ?_
    refine pure_ (i := 3) (N := some 16) #[true, true, true, true, false, false, false, false, false, false, false, false, false, false, false] rfl rfl (any_of HT_.out zq13) (fun _ _ _ h => h) (Or.inl ⟨by rfl, zpv⟩) zpw ?_
    refine pure_ (i := 5) (N := some 18) #[true, true, true, true, false, true, false, false, false, false, false, false, false, false, false] rfl rfl (any_of HT_.out zq13) (fun _ _ _ h => h) (Or.inl ⟨by rfl, zpv⟩) zpw ?_
    refine pure_ (i := 6) (N := some 19) #[true, true, true, true, false, true, true, false, false, false, false, false, false, false, false] rfl rfl (any_of HT_.out zq13) (fun _ _ _ h => h) (Or.inl ⟨by rfl, zpv⟩) zpw ?_
    refine pure_ (i := 7) (N := some 20) #[true, true, true, true, false, true, true, true, false, false, false, false, false, false, false] rfl rfl (any_of HT_.out zq13) (fun _ _ _ h => h) (Or.inl ⟨by rfl, zpv⟩) zpw ?_
    refine take_ (i := 4) (N := some 17) (v := ?_) (a' := ?_) #[true, true, true, true, true, true, true, true, false, false, false, false, false, false, false] rfl rfl (take_ofW HT_.out HW_.out zq13) (fun _ _ _ h => h) (Or.inl ⟨by rfl, ?_⟩) hHeld ?_ ?_
    rotate_left
    ·
     rintro w' ⟨s0, s1, s2, s3, s4, s5, s6, s7⟩
     go_simp
     with_reducible rfl
    rotate_left
    ·
     simp only [Act.put, List.setIfInBounds_toArray, List.set_cons_zero, List.set_cons_succ, i64_w, i32_w]
     rfl
    refine take_ (i := 8) (N := some 21) (v := ?_) (a' := ?_) #[true, true, true, true, true, true, true, true, true, false, false, false, false, false, false] rfl rfl (take_ofW HT_.out HW_.out zq13) (fun _ _ _ h => h) (Or.inl ⟨by rfl, ?_⟩) hHeld ?_ ?_
    rotate_left
    ·
     rintro w' ⟨s0, s1, s2, s3, s4, s5, s6, s7⟩
     go_simp
     with_reducible rfl
    rotate_left
    ·
     simp only [Act.put, List.setIfInBounds_toArray, List.set_cons_zero, List.set_cons_succ, i64_w, i32_w]
     rfl
    refine pure_ (i := 9) (N := some 22) #[true, true, true, true, true, true, true, true, true, true, false, false, false, false, false] rfl rfl (any_of HT_.out zq13) (fun _ _ _ h => h) (Or.inl ⟨by rfl, zpv⟩) zpw ?_
    refine pure_ (i := 10) (N := some 23) #[true, true, true, true, true, true, true, true, true, true, true, false, false, false, false] rfl rfl (any_of HT_.out zq13) (fun _ _ _ h => h) (Or.inl ⟨by rfl, zpv⟩) zpw ?_
    refine take_ (i := 11) (N := some 24) (v := ?_) (a' := ?_) #[true, true, true, true, true, true, true, true, true, true, true, true, false, false, false] rfl rfl (take_ofW HT_.out HW_.out zq13) (fun _ _ _ h => h) (Or.inl ⟨by rfl, ?_⟩) hHeld ?_ ?_
    rotate_left
    ·
     rintro w' ⟨s0, s1, s2, s3, s4, s5, s6, s7⟩
     go_simp
     with_reducible rfl
    rotate_left
    ·
     simp only [Act.put, List.setIfInBounds_toArray, List.set_cons_zero, List.set_cons_succ, i64_w, i32_w]
     rfl
    refine pure_ (i := 12) (N := some 25) #[true, true, true, true, true, true, true, true, true, true, true, true, true, false, false] rfl rfl (any_of HT_.out zq13) (fun _ _ _ h => h) (Or.inl ⟨by rfl, zpv⟩) zpw ?_
    refine pure_ (i := 13) (N := some 26) #[true, true, true, true, true, true, true, true, true, true, true, true, true, true, false] rfl rfl (any_of HT_.out zq13) (fun _ _ _ h => h) (Or.inl ⟨by rfl, zpv⟩) zpw ?_
    refine last_ (i := 14) (N := none) #[true, true, true, true, true, true, true, true, true, true, true, true, true, true, true] rfl rfl (one_of HT_.out zq13) (by decide) (fun K hK => ?_)
    obtain ⟨_, _, HGs10, _, _⟩ := HI0.out
    have hs10 := cellS83_4 HGs10
    have hfs10 := blk_frozen HGs10 4
    clear HGs10
    refine skip_ (w1 := ?_) (by rfl) rfl ?_ ?_
    rotate_left
    ·
     go_simp
     rfl
    refine hK.out _ _ ?_
    clear hK K
    refine done_ (done_of HT_.out zq13) ?_
    try go_wp2
    first | go_end0 | ((try simp only [Exit.inBlock, Exit.then]); refine bodyPost_ret (results_none rfl _ _ _) rfl ?_)
    exact ⟨zq19, zq0, zq2, zq5⟩
   ·
    rw [if_neg c5] at H
    exact absurd H (by simp)
  ·
   rw [if_neg c4] at H
   exact absurd H (by simp)
 ·
  rw [if_neg c3] at H
  have c3b0 := beq_eq_false_iff_ne.mpr c3
  have c3b1 := bne_iff_ne.mpr c3
  simp only [Option.some.injEq, Prod.mk.injEq] at H
  obtain ⟨rfl, rfl, rfl, rfl⟩ := H
  obtain ⟨ASz11_0, cSz11_0, HGz11, hgz11, HSz11_0⟩ := HI0.out
  have hcz11_0 := cellS83_0 HGz11
  have hcz11_1 := cellS83_1 HGz11
  have hcz11_2 := cellS83_2 HGz11
  have hcz11_3 := cellS83_3 HGz11
  have hcz11_4 := cellS83_4 HGz11
  have hfz11_1 := blk_frozen HGz11 1
  have hfz11_2 := blk_frozen HGz11 2
  have hfz11_3 := blk_frozen HGz11 3
  have hfz11_4 := blk_frozen HGz11 4
  clear HGz11 hgz11
  go_enter Try.func51, Try.ntmps51
  go_wp2
  first | go_end0 | ((try simp only [Exit.inBlock, Exit.then]); refine bodyPost_ret (results_none rfl _ _ _) rfl ?_)
  exact ⟨zq19, zq0, zq2, zq5⟩
def rr_qname.f (s0_0 : List (S110)) (s0_1 : Int) (s0_2 : Int) (s0_3 : Int) (s0_4 : Int) : Option (ByteArray × ByteArray × Int × Int × Int × Int) := (rr_name.f s0_0 s0_1 s0_2 s0_3 s0_4).bind fun bt183 => ((rr_take.f s0_0 bt183.2.1 bt183.2.2.1 bt183.2.2.2.1 bt183.2.2.2.2 (⟨#[46]⟩ : ByteArray)).bind fun bt188 => (if bt188.1 = true then ((rr_name.f s0_0 bt188.2.1 bt188.2.2.1 bt188.2.2.2.1 bt188.2.2.2.2).bind fun bt193 => (some (bt183.1, bt193.1, bt193.2.1, bt193.2.2.1, bt193.2.2.2.1, bt193.2.2.2.2))) else (some ((⟨#[]⟩ : ByteArray), bt183.1, bt188.2.1, bt188.2.2.1, bt188.2.2.2.1, bt188.2.2.2.2))))
set_option maxHeartbeats 8000000 in
set_option maxRecDepth 100000 in
theorem rr_qname.calls (g : Nat) (s0_0 : List (S110)) (s0_1 : Int) (s0_2 : Int) (s0_3 : Int) (s0_4 : Int) (r1 : ByteArray) (r2 : ByteArray) (r3 : Int) (r4 : Int) (r5 : Int) (r6 : Int) (w0 w : World) (hI : IsS83 w0 w g s0_0 s0_1 s0_2 s0_3 s0_4) (hB : Below w0.heap.size w0 w) (h : rr_qname.f s0_0 s0_1 s0_2 s0_3 s0_4 = some (r1, r2, r3, r4, r5, r6)) :
  Calls Try.prog 72 #[.pointer (some ⟨g, 0, none⟩)] w fun e w' => e = .returned (.tuple #[.string r1, .string r2]) ∧ IsS83 w0 w' g s0_0 r3 r4 r5 r6 ∧ Below w0.heap.size w0 w' ∧ KeepBut w w' g none := by
 have HI0 := za hI
 have HK := za (KeepBut.refl w g none)
 have HL := za hB.size
 clear hI
 have HW0 := za hB.size
 have HB := za hB
 clear hB
 have H : ((rr_name.f s0_0 s0_1 s0_2 s0_3 s0_4).bind fun bt183 => ((rr_take.f s0_0 bt183.2.1 bt183.2.2.1 bt183.2.2.2.1 bt183.2.2.2.2 (⟨#[46]⟩ : ByteArray)).bind fun bt188 => (if bt188.1 = true then ((rr_name.f s0_0 bt188.2.1 bt188.2.2.1 bt188.2.2.2.1 bt188.2.2.2.2).bind fun bt193 => (some (bt183.1, bt193.1, bt193.2.1, bt193.2.2.1, bt193.2.2.2.1, bt193.2.2.2.2))) else (some ((⟨#[]⟩ : ByteArray), bt183.1, bt188.2.1, bt188.2.2.1, bt188.2.2.2.1, bt188.2.2.2.2))))) = some (r1, r2, r3, r4, r5, r6) := h
 clear h
 replace H := Option.bind_eq_some_iff.mp H
 obtain ⟨⟨t183, t184, t185, t186, t187⟩, A20, H⟩ := H
 (try dsimp only at H)
 have A2 := za A20
 clear A20
 replace H := Option.bind_eq_some_iff.mp H
 obtain ⟨⟨t188, t189, t190, t191, t192⟩, A30, H⟩ := H
 (try dsimp only at H)
 have A3 := za A30
 clear A30
 by_cases c4 : t188 = true
 ·
  subst c4
  rw [if_pos rfl] at H
  replace H := Option.bind_eq_some_iff.mp H
  obtain ⟨⟨t193, t194, t195, t196, t197⟩, A50, H⟩ := H
  (try dsimp only at H)
  have A5 := za A50
  clear A50
  simp only [Option.some.injEq, Prod.mk.injEq] at H
  obtain ⟨rfl, rfl, rfl, rfl, rfl, rfl⟩ := H
  go_enter Try.func72, Try.ntmps72
  go_wp2_with (first | ((with_reducible refine gate_callee (f := 47) rfl ?_); refine goesL_ (some 6) rfl rfl Try.func47 zq13 rfl #[.pointer (some ⟨g, 0, none⟩)] rfl zq1 ?_; (with_reducible refine (rr_name.calls g s0_0 s0_1 s0_2 s0_3 s0_4 t183 t184 t185 t186 t187 w0 _ ?side1 ?side2 A2.out).mono ?_); (case side1 => exact zq0); (case side2 => exact zq2); rintro e w6 ⟨rfl, hi, hb, hk⟩; refine ⟨_, rfl, ?_⟩; replace HK := za (KeepBut.trans zq5 hk (.inl rfl)); replace HB := za (hb); replace HI0 := za (hi); (try clear hb hk hi)) | ((with_reducible refine gate_callee (f := 48) rfl ?_); refine goesL_ (some 8) rfl rfl Try.func48 zq13 rfl #[.pointer (some ⟨g, 0, none⟩), .string (⟨#[46]⟩ : ByteArray)] rfl zq1 ?_; (with_reducible refine (rr_take.calls g s0_0 t184 t185 t186 t187 (⟨#[46]⟩ : ByteArray) true t189 t190 t191 t192 w0 _ ?side1 ?side2 A3.out).mono ?_); (case side1 => exact zq0); (case side2 => exact zq2); rintro e w7 ⟨rfl, hi, hb, hk⟩; refine ⟨_, rfl, ?_⟩; replace HK := za (KeepBut.trans zq5 hk (.inl rfl)); replace HB := za (hb); replace HI0 := za (hi); (try clear hb hk hi)) | ((with_reducible refine gate_callee (f := 47) rfl ?_); refine goesL_ (some 11) rfl rfl Try.func47 zq13 rfl #[.pointer (some ⟨g, 0, none⟩)] rfl zq1 ?_; (with_reducible refine (rr_name.calls g s0_0 t189 t190 t191 t192 t193 t194 t195 t196 t197 w0 _ ?side1 ?side2 A5.out).mono ?_); (case side1 => exact zq0); (case side2 => exact zq2); rintro e w8 ⟨rfl, hi, hb, hk⟩; refine ⟨_, rfl, ?_⟩; replace HK := za (KeepBut.trans zq5 hk (.inl rfl)); replace HB := za (hb); replace HI0 := za (hi); (try clear hb hk hi)))
  go_ret2
  exact ⟨zq19, zq0, zq2, zq5⟩
 ·
  replace c4 := Bool.eq_false_iff.mpr c4
  subst c4
  rw [if_neg (show ¬ (false = true) by decide)] at H
  simp only [Option.some.injEq, Prod.mk.injEq] at H
  obtain ⟨rfl, rfl, rfl, rfl, rfl, rfl⟩ := H
  go_enter Try.func72, Try.ntmps72
  go_wp2_with (first | ((with_reducible refine gate_callee (f := 47) rfl ?_); refine goesL_ (some 6) rfl rfl Try.func47 zq13 rfl #[.pointer (some ⟨g, 0, none⟩)] rfl zq1 ?_; (with_reducible refine (rr_name.calls g s0_0 s0_1 s0_2 s0_3 s0_4 t183 t184 t185 t186 t187 w0 _ ?side1 ?side2 A2.out).mono ?_); (case side1 => exact zq0); (case side2 => exact zq2); rintro e w9 ⟨rfl, hi, hb, hk⟩; refine ⟨_, rfl, ?_⟩; replace HK := za (KeepBut.trans zq5 hk (.inl rfl)); replace HB := za (hb); replace HI0 := za (hi); (try clear hb hk hi)) | ((with_reducible refine gate_callee (f := 48) rfl ?_); refine goesL_ (some 8) rfl rfl Try.func48 zq13 rfl #[.pointer (some ⟨g, 0, none⟩), .string (⟨#[46]⟩ : ByteArray)] rfl zq1 ?_; (with_reducible refine (rr_take.calls g s0_0 t184 t185 t186 t187 (⟨#[46]⟩ : ByteArray) false t189 t190 t191 t192 w0 _ ?side1 ?side2 A3.out).mono ?_); (case side1 => exact zq0); (case side2 => exact zq2); rintro e w10 ⟨rfl, hi, hb, hk⟩; refine ⟨_, rfl, ?_⟩; replace HK := za (KeepBut.trans zq5 hk (.inl rfl)); replace HB := za (hb); replace HI0 := za (hi); (try clear hb hk hi)))
  go_ret2
  exact ⟨zq19, zq0, zq2, zq5⟩
def ra_two.f (l0 : List (S140)) (a1 : Int) (a2 : Int) (a3 : Int) : Option ((List (S140))) := if l0.length < 1954687338268 then (some (l0 ++ [(⟨a2, 0, (⟨#[]⟩ : ByteArray), (⟨#[]⟩ : ByteArray), a1, wrap64 ((l0.length : Int) - 1), a3⟩ : S140)])) else (none)
set_option maxHeartbeats 8000000 in
set_option maxRecDepth 100000 in
theorem ra_two.calls (P0_ : Nat → Prop) (u9000_ : Value) (l0 : List (S140)) (a1 : Int) (a2 : Int) (a3 : Int) (r : List (S140)) (w0 w : World) (hB : Below w0.heap.size w0 w) (ho0 : Kd.R k140 140 w w0.heap.size P0_ u9000_ l0) (h : ra_two.f l0 a1 a2 a3 = some r) :
  Calls Try.prog 83 #[u9000_, .int .i64 a1, .int .i64 a2, .int .i64 a3] w fun e w' => ∃ v0_ : Value, e = .returned (v0_) ∧ Kd.R k140 140 w' w0.heap.size (fun k_ => (P0_ k_ ∨ w.heap.size ≤ k_)) v0_ r ∧ Below w0.heap.size w0 w' ∧ Kept w w' (fun k_ => P0_ k_) := by
 have hu140 := Try.underlying140
 have HO0 := za (show Kd.R k140 140 w w0.heap.size (fun k_ => (P0_ k_ ∨ w.heap.size ≤ k_)) u9000_ l0 from Kd.R_mono ho0 (fun k_ hk => (.inl hk)))
 have HK := za (Kept.refl w (fun k_ => P0_ k_))
 have HW0 := za hB.size
 have HB := za hB
 clear hB
 have H : (if l0.length < 1954687338268 then (some (l0 ++ [(⟨a2, 0, (⟨#[]⟩ : ByteArray), (⟨#[]⟩ : ByteArray), a1, wrap64 ((l0.length : Int) - 1), a3⟩ : S140)])) else (none)) = some r := h
 clear h
 by_cases c5 : l0.length < 1954687338268
 ·
  rw [if_pos c5] at H
  have LMc5 := za c5
  clear c5
  obtain ⟨y198, hy198⟩ : ∃ y_ : List (S140), y_ = (l0 ++ [(⟨a2, 0, (⟨#[]⟩ : ByteArray), (⟨#[]⟩ : ByteArray), a1, wrap64 ((l0.length : Int) - 1), a3⟩ : S140)]) := ⟨_, rfl⟩
  replace H : (some y198) = some r := by first | (rw [hy198]; with_reducible exact H) | (have H2_ := (Option.bind_some _ _).symm.trans H; rw [hy198]; with_reducible exact H2_) | (have H2_ := (Option.bind_some _ _).symm.trans H; with_reducible exact H2_) | with_reducible exact H | (rw [hy198]; exact H) | exact H
  have Ny198 := za hy198
  clear hy198
  obtain rfl := Option.some.inj H
  obtain ⟨Ao6, co6, eo6⟩ := Kd.R_slice HO0.out
  subst eo6
  go_enter Try.func83, Try.ntmps83
  go_wp2_with (first | ((with_reducible refine gate_builtin (b := .append) (xs := #[.tmp 9, .tmp 17]) rfl ?_); at_builtin; refine Kd.R_append k140 (w0 := w0) w0.heap.size rfl (.tmp 9) (.tmp 17) 88 140 (.agg #[(.int .i64 0), (.int .i64 0), (.string ⟨#[]⟩), (.string ⟨#[]⟩), (.int .i64 0), (.int .i64 0), (.int .i64 0)]) 72 rfl Try.underlying88 info140 rfl (by decide) (by omega) (.slice Ao6 l0.length co6) l0 (⟨a2, 0, (⟨#[]⟩ : ByteArray), (⟨#[]⟩ : ByteArray), a1, wrap64 ((l0.length : Int) - 1), a3⟩ : S140) [.int .i64 a2, .int .i64 0, .string (⟨#[]⟩ : ByteArray), .string (⟨#[]⟩ : ByteArray), .int .i64 a1, .int .i64 (wrap64 ((l0.length : Int) - 1)), .int .i64 a3] (fun k_ => (P0_ k_ ∨ w.heap.size ≤ k_)) (fun _ => False) rfl rfl ?aP (fun _ hk => hk.elim) ?aF ?aO ?aB ?aS ?aL ?_; (case aP => exact k140_mkM _ _ _ (⟨a2, 0, (⟨#[]⟩ : ByteArray), (⟨#[]⟩ : ByteArray), a1, wrap64 ((l0.length : Int) - 1), a3⟩ : S140)); (case aB => exact zq3); (case aF => exact (fun k_ hk => (.inr (Nat.le_trans (by first | exact HK.out.1 | exact (show Kept w _ (fun k_ => P0_ k_) from zq74).1) hk)))); (case aO => exact (zr HO0.out)); (case aS => exact (below_size zq3)); (case aL => have := LMc5.out; omega); intro v199 w7 ho hb hg hat; rw [← Ny198.out] at ho; replace HB := za (hb); replace HK := za (Kept.of_grown (S := (fun k_ => P0_ k_)) hg zq74 (fun k_ e_ => (HO0.out.1 k_ e_))); have HO200 := za (ho); clear HO0; clear ho hb hg hat))
  go_ret
  exact ⟨_, zq19, by (with_reducible repeat (first | apply Kd.R_alloc | apply Kd.R_drewN | apply Kd.R_drew)); exact HO200.out, zq3, zq74⟩
 ·
  rw [if_neg c5] at H
  exact absurd H (by simp)
end Go.Proofs.Ytcjnhnnfoadklaa.QRunCalls
