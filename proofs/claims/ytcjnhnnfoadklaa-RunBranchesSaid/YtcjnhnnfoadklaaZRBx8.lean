import Derived.Test.YtcjnhnnfoadklaaZRBx7
namespace Go.Proofs.Ytcjnhnnfoadklaa.QRunBranches
open Go.RowKit Go.Proofs.YtcjnhnnfoadklaaW.PrintWords Go.Proofs.YtcjnhnnfoadklaaW.PrintLast Go.Proofs.YtcjnhnnfoadklaaW.PrintMore
attribute [local go_sem] max2_int min2_int max_two min_two max_three min_three max_four min_four
set_option linter.unusedVariables false
set_option linter.unusedSimpArgs false
def rr_take.f (s0_0 : List (S110)) (s0_1 : Int) (s0_2 : Int) (s0_3 : Int) (s0_4 : Int) (a1 : ByteArray) : Option (Bool × Int × Int × Int × Int) := (rr_is.f s0_0 s0_1 s0_2 s0_3 s0_4 a1).bind fun bt161 => (if bt161.1 = true then (some (true, wrap64 (bt161.2.1 + 1), bt161.2.2.1, bt161.2.2.2.1, bt161.2.2.2.2)) else (some (false, bt161.2.1, bt161.2.2.1, bt161.2.2.2.1, bt161.2.2.2.2)))
set_option maxHeartbeats 8000000 in
set_option maxRecDepth 100000 in
theorem rr_take.calls (g : Nat) (s0_0 : List (S110)) (s0_1 : Int) (s0_2 : Int) (s0_3 : Int) (s0_4 : Int) (a1 : ByteArray) (r1 : Bool) (r2 : Int) (r3 : Int) (r4 : Int) (r5 : Int) (w0 w : World) (hI : IsS83 w0 w g s0_0 s0_1 s0_2 s0_3 s0_4) (hB : Below w0.heap.size w0 w) (h : rr_take.f s0_0 s0_1 s0_2 s0_3 s0_4 a1 = some (r1, r2, r3, r4, r5)) :
  Calls Try.prog 48 #[.pointer (some ⟨g, 0, none⟩), .string a1] w fun e w' => e = .returned (.bool r1) ∧ IsS83 w0 w' g s0_0 r2 r3 r4 r5 ∧ Below w0.heap.size w0 w' ∧ KeepBut w w' g none := by
 have HI0 := za hI
 have HK := za (KeepBut.refl w g none)
 have HL := za hB.size
 clear hI
 have HW0 := za hB.size
 have HB := za hB
 clear hB
 have H : ((rr_is.f s0_0 s0_1 s0_2 s0_3 s0_4 a1).bind fun bt161 => (if bt161.1 = true then (some (true, wrap64 (bt161.2.1 + 1), bt161.2.2.1, bt161.2.2.2.1, bt161.2.2.2.2)) else (some (false, bt161.2.1, bt161.2.2.1, bt161.2.2.2.1, bt161.2.2.2.2)))) = some (r1, r2, r3, r4, r5) := h
 clear h
 replace H := Option.bind_eq_some_iff.mp H
 obtain ⟨⟨t161, t162, t163, t164, t165⟩, A30, H⟩ := H
 (try dsimp only at H)
 have A3 := za A30
 clear A30
 by_cases c4 : t161 = true
 ·
  subst c4
  rw [if_pos rfl] at H
  simp only [Option.some.injEq, Prod.mk.injEq] at H
  obtain ⟨rfl, rfl, rfl, rfl, rfl⟩ := H
  go_enter Try.func48, Try.ntmps48
  go_wp2_with (first | ((with_reducible refine gate_callee (f := 54) rfl ?_); refine goesL_ (some 7) rfl rfl Try.func54 zq13 rfl #[.pointer (some ⟨g, 0, none⟩), .string a1] rfl zq2 ?_; (with_reducible refine (rr_is.calls g s0_0 s0_1 s0_2 s0_3 s0_4 a1 true t162 t163 t164 t165 w0 _ ?side1 ?side2 A3.out).mono ?_); (case side1 => exact zq0); (case side2 => exact zq4); rintro e w5 ⟨rfl, hi, hb, hk⟩; refine ⟨_, rfl, ?_⟩; replace HK := za (KeepBut.trans zq7 hk (.inl rfl)); replace HB := za (hb); replace HI0 := za (hi); (try clear hb hk hi); obtain ⟨ASz6_0, cSz6_0, HGz6, hgz6, HSz6_0⟩ := HI0.out; have hcz6_0 := cellS83_0 HGz6; have hcz6_1 := cellS83_1 HGz6; have hcz6_2 := cellS83_2 HGz6; have hcz6_3 := cellS83_3 HGz6; have hcz6_4 := cellS83_4 HGz6; have hfz6_1 := blk_frozen HGz6 1; have hfz6_2 := blk_frozen HGz6 2; have hfz6_3 := blk_frozen HGz6 3; have hfz6_4 := blk_frozen HGz6 4; clear HGz6 hgz6))
  go_ret
  exact ⟨zq16, zq0, zq4, zq7⟩
 ·
  replace c4 := Bool.eq_false_iff.mpr c4
  subst c4
  rw [if_neg (show ¬ (false = true) by decide)] at H
  simp only [Option.some.injEq, Prod.mk.injEq] at H
  obtain ⟨rfl, rfl, rfl, rfl, rfl⟩ := H
  go_enter Try.func48, Try.ntmps48
  go_wp2_with (first | ((with_reducible refine gate_callee (f := 54) rfl ?_); refine goesL_ (some 7) rfl rfl Try.func54 zq13 rfl #[.pointer (some ⟨g, 0, none⟩), .string a1] rfl zq2 ?_; (with_reducible refine (rr_is.calls g s0_0 s0_1 s0_2 s0_3 s0_4 a1 false t162 t163 t164 t165 w0 _ ?side1 ?side2 A3.out).mono ?_); (case side1 => exact zq0); (case side2 => exact zq4); rintro e w7 ⟨rfl, hi, hb, hk⟩; refine ⟨_, rfl, ?_⟩; replace HK := za (KeepBut.trans zq7 hk (.inl rfl)); replace HB := za (hb); replace HI0 := za (hi); (try clear hb hk hi)))
  go_ret
  exact ⟨zq16, zq0, zq4, zq7⟩
def rr_want.f (s0_0 : List (S110)) (s0_1 : Int) (s0_2 : Int) (s0_3 : Int) (s0_4 : Int) (a1 : ByteArray) : Option (Int × Int × Int × Int) := (rr_take.f s0_0 s0_1 s0_2 s0_3 s0_4 a1).bind fun bt166 => (if bt166.1 = true then (some (bt166.2.1, bt166.2.2.1, bt166.2.2.2.1, bt166.2.2.2.2)) else (none))
set_option maxHeartbeats 8000000 in
set_option maxRecDepth 100000 in
theorem rr_want.calls (g : Nat) (s0_0 : List (S110)) (s0_1 : Int) (s0_2 : Int) (s0_3 : Int) (s0_4 : Int) (a1 : ByteArray) (r1 : Int) (r2 : Int) (r3 : Int) (r4 : Int) (w0 w : World) (hI : IsS83 w0 w g s0_0 s0_1 s0_2 s0_3 s0_4) (hB : Below w0.heap.size w0 w) (h : rr_want.f s0_0 s0_1 s0_2 s0_3 s0_4 a1 = some (r1, r2, r3, r4)) :
  Calls Try.prog 45 #[.pointer (some ⟨g, 0, none⟩), .string a1] w fun e w' => e = .returned (.tuple #[]) ∧ IsS83 w0 w' g s0_0 r1 r2 r3 r4 ∧ Below w0.heap.size w0 w' ∧ KeepBut w w' g none := by
 have HI0 := za hI
 have HK := za (KeepBut.refl w g none)
 have HL := za hB.size
 clear hI
 have HW0 := za hB.size
 have HB := za hB
 clear hB
 have H : ((rr_take.f s0_0 s0_1 s0_2 s0_3 s0_4 a1).bind fun bt166 => (if bt166.1 = true then (some (bt166.2.1, bt166.2.2.1, bt166.2.2.2.1, bt166.2.2.2.2)) else (none))) = some (r1, r2, r3, r4) := h
 clear h
 replace H := Option.bind_eq_some_iff.mp H
 obtain ⟨⟨t166, t167, t168, t169, t170⟩, A30, H⟩ := H
 (try dsimp only at H)
 have A3 := za A30
 clear A30
 by_cases c4 : t166 = true
 ·
  subst c4
  rw [if_pos rfl] at H
  simp only [Option.some.injEq, Prod.mk.injEq] at H
  obtain ⟨rfl, rfl, rfl, rfl⟩ := H
  go_enter Try.func45, Try.ntmps45
  go_wp2_with (first | ((with_reducible refine gate_callee (f := 48) rfl ?_); refine goesL_ (some 6) rfl rfl Try.func48 zq13 rfl #[.pointer (some ⟨g, 0, none⟩), .string a1] rfl zq2 ?_; (with_reducible refine (rr_take.calls g s0_0 s0_1 s0_2 s0_3 s0_4 a1 true t167 t168 t169 t170 w0 _ ?side1 ?side2 A3.out).mono ?_); (case side1 => exact zq0); (case side2 => exact zq4); rintro e w5 ⟨rfl, hi, hb, hk⟩; refine ⟨_, rfl, ?_⟩; replace HK := za (KeepBut.trans zq7 hk (.inl rfl)); replace HB := za (hb); replace HI0 := za (hi); (try clear hb hk hi)))
  first | go_end0 | ((try simp only [Exit.inBlock, Exit.then]); refine bodyPost_ret (results_none rfl _ _ _) rfl ?_)
  exact ⟨zq16, zq0, zq4, zq7⟩
 ·
  replace c4 := Bool.eq_false_iff.mpr c4
  subst c4
  rw [if_neg (show ¬ (false = true) by decide)] at H
  exact absurd H (by simp)
def rr_here.f (s0_0 : List (S110)) (s0_1 : Int) (s0_2 : Int) (s0_3 : Int) (s0_4 : Int) : Option (Int × Int × Int × Int × Int) := if 0 ≤ s0_1 then (if s0_1 < (s0_0.length : Int) then (some ((rd_T110 s0_0 s0_1).f2, s0_1, s0_2, s0_3, s0_4)) else (none)) else (none)
set_option maxHeartbeats 8000000 in
set_option maxRecDepth 100000 in
theorem rr_here.calls (g : Nat) (s0_0 : List (S110)) (s0_1 : Int) (s0_2 : Int) (s0_3 : Int) (s0_4 : Int) (r1 : Int) (r2 : Int) (r3 : Int) (r4 : Int) (r5 : Int) (w0 w : World) (hI : IsS83 w0 w g s0_0 s0_1 s0_2 s0_3 s0_4) (hB : Below w0.heap.size w0 w) (h : rr_here.f s0_0 s0_1 s0_2 s0_3 s0_4 = some (r1, r2, r3, r4, r5)) :
  Calls Try.prog 46 #[.pointer (some ⟨g, 0, none⟩)] w fun e w' => e = .returned (.int .i64 r1) ∧ IsS83 w0 w' g s0_0 r2 r3 r4 r5 ∧ Below w0.heap.size w0 w' ∧ KeepBut w w' g none := by
 have HI0 := za hI
 have HK := za (KeepBut.refl w g none)
 have HL := za hB.size
 clear hI
 have HW0 := za hB.size
 have HB := za hB
 clear hB
 have H : (if 0 ≤ s0_1 then (if s0_1 < (s0_0.length : Int) then (some ((rd_T110 s0_0 s0_1).f2, s0_1, s0_2, s0_3, s0_4)) else (none)) else (none)) = some (r1, r2, r3, r4, r5) := h
 clear h
 by_cases c2 : 0 ≤ s0_1
 ·
  rw [if_pos c2] at H
  have c2b0 : decide (0 ≤ s0_1) = true := decide_eq_true c2
  clear c2
  by_cases c3 : s0_1 < (s0_0.length : Int)
  ·
   rw [if_pos c3] at H
   have c3b0 : decide (s0_1 < (s0_0.length : Int)) = true := decide_eq_true c3
   clear c3
   simp only [Option.some.injEq, Prod.mk.injEq] at H
   obtain ⟨rfl, rfl, rfl, rfl, rfl⟩ := H
   obtain ⟨ASz4_0, cSz4_0, HGz4, hgz4, HSz4_0⟩ := HI0.out
   have hcz4_0 := cellS83_0 HGz4
   have hcz4_1 := cellS83_1 HGz4
   have hcz4_2 := cellS83_2 HGz4
   have hcz4_3 := cellS83_3 HGz4
   have hcz4_4 := cellS83_4 HGz4
   have hfz4_1 := blk_frozen HGz4 1
   have hfz4_2 := blk_frozen HGz4 2
   have hfz4_3 := blk_frozen HGz4 3
   have hfz4_4 := blk_frozen HGz4 4
   clear HGz4 hgz4
   have p171 : 0 ≤ (s0_1 : Int) := of_decide_eq_true zq10
   have q171 : s0_1 < (s0_0.length : Int) := of_decide_eq_true zq10
   obtain ⟨ad171, e171, hx171_0, hx171_1, hx171_2⟩ := at_T110 HSz4_0 s0_1 p171 q171
   cases e171
   replace hx171_0 := pw_cell_below HB.out hx171_0
   replace hx171_1 := pw_cell_below HB.out hx171_1
   replace hx171_2 := pw_cell_below HB.out hx171_2
   replace p171 := eq_true p171
   replace q171 := eq_true q171
   go_enter Try.func46, Try.ntmps46
   go_wp2
   repeat (go_quiet (fail); try go_wp2)
   go_ret
   exact ⟨zq16, zq0, zq4, zq7⟩
  ·
   rw [if_neg c3] at H
   exact absurd H (by simp)
 ·
  rw [if_neg c2] at H
  exact absurd H (by simp)
def rr_name.f (s0_0 : List (S110)) (s0_1 : Int) (s0_2 : Int) (s0_3 : Int) (s0_4 : Int) : Option (ByteArray × Int × Int × Int × Int) := if 0 ≤ s0_1 then (if s0_1 < (s0_0.length : Int) then (if s0_3 = 0 then (if ((rd_T110 s0_0 s0_1).f0) = 1 then (some ((rd_T110 s0_0 s0_1).f1, wrap64 (s0_1 + 1), s0_2, s0_3, s0_4)) else (none)) else (none)) else (none)) else (none)
def rr_name.T1 : Bool × List (List Nat × List Nat) := (true, [([], []), ([0], [0]), ([1], [1]), ([2], [2]), ([], []), ([4], [4]), ([5], [5]), ([6], [6]), ([3, 7], [3, 7]), ([8], [8]), ([], []), ([10, 9, 0, 1, 2, 3, 4, 5, 6, 7, 8, 9, 10], [9, 10])])
def rr_name.B1 : List Nat := [0, 1, 3, 7, 0, 16, 48, 112, 255, 511, 0, 2047]
theorem rr_name.tab1 : rtab .any (opsOf Try.f47 1) = rr_name.T1 := by kernel_rfl
theorem rr_name.bits1 : waitsOk rr_name.T1.2 rr_name.B1 = true := by kernel_rfl
set_option maxHeartbeats 8000000 in
set_option maxRecDepth 100000 in
theorem rr_name.calls (g : Nat) (s0_0 : List (S110)) (s0_1 : Int) (s0_2 : Int) (s0_3 : Int) (s0_4 : Int) (r1 : ByteArray) (r2 : Int) (r3 : Int) (r4 : Int) (r5 : Int) (w0 w : World) (hI : IsS83 w0 w g s0_0 s0_1 s0_2 s0_3 s0_4) (hB : Below w0.heap.size w0 w) (h : rr_name.f s0_0 s0_1 s0_2 s0_3 s0_4 = some (r1, r2, r3, r4, r5)) :
  Calls Try.prog 47 #[.pointer (some ⟨g, 0, none⟩)] w fun e w' => e = .returned (.string r1) ∧ IsS83 w0 w' g s0_0 r2 r3 r4 r5 ∧ Below w0.heap.size w0 w' ∧ KeepBut w w' g none := by
 have hu110 := Try.underlying110
 have HI0 := za hI
 have HK := za (KeepBut.refl w g none)
 have HL := za hB.size
 clear hI
 have HW0 := za hB.size
 have HB := za hB
 clear hB
 have H : (if 0 ≤ s0_1 then (if s0_1 < (s0_0.length : Int) then (if s0_3 = 0 then (if ((rd_T110 s0_0 s0_1).f0) = 1 then (some ((rd_T110 s0_0 s0_1).f1, wrap64 (s0_1 + 1), s0_2, s0_3, s0_4)) else (none)) else (none)) else (none)) else (none)) = some (r1, r2, r3, r4, r5) := h
 clear h
 by_cases c2 : 0 ≤ s0_1
 ·
  rw [if_pos c2] at H
  have c2b0 : decide (0 ≤ s0_1) = true := decide_eq_true c2
  clear c2
  by_cases c3 : s0_1 < (s0_0.length : Int)
  ·
   rw [if_pos c3] at H
   have c3b0 : decide (s0_1 < (s0_0.length : Int)) = true := decide_eq_true c3
   clear c3
   by_cases c4 : s0_3 = 0
   ·
    rw [if_pos c4] at H
    have c4b0 := beq_iff_eq.mpr c4
    have c4b1 := bne_eq_false_iff_eq.mpr c4
    clear c4
    by_cases c5 : ((rd_T110 s0_0 s0_1).f0) = 1
    ·
     rw [if_pos c5] at H
     have c5b0 := beq_iff_eq.mpr c5
     have c5b1 := bne_eq_false_iff_eq.mpr c5
     clear c5
     simp only [Option.some.injEq, Prod.mk.injEq] at H
     obtain ⟨rfl, rfl, rfl, rfl, rfl⟩ := H
     go_enter Try.func47, Try.ntmps47
     try go_wp2
     replace HI0 := za (IsS83.drew HI0.out)
     replace HK := za (keep_drew HK.out)
     replace HB := za (below_drew1 HB.out)
     obtain ⟨ASz7_0, cSz7_0, HGz7, hgz7, HSz7_0⟩ := HI0.out
     have hx7_0 := cellS83_0 HGz7
     have hx7_1 := cellS83_1 HGz7
     have hx7_2 := cellS83_2 HGz7
     have hx7_3 := cellS83_3 HGz7
     have hx7_4 := cellS83_4 HGz7
     clear HGz7 hgz7
     have p172 : 0 ≤ (s0_1 : Int) := of_decide_eq_true zq10
     have q172 : s0_1 < (s0_0.length : Int) := of_decide_eq_true zq10
     obtain ⟨ad172, e172, hx172_0, hx172_1, hx172_2⟩ := at_T110 HSz7_0 s0_1 p172 q172
     have hw172_2 := hx172_2
     have hw172_1 := hx172_1
     have hw172_0 := hx172_0
     cases e172
     replace hx172_0 := pw_cell_below HB.out hx172_0
     replace hx172_1 := pw_cell_below HB.out hx172_1
     replace hx172_2 := pw_cell_below HB.out hx172_2
     replace p172 := eq_true p172
     replace q172 := eq_true q172
     refine start_ (n := 12) (S := fun w' => w'.cell? ⟨g, 0, none⟩ = some (.slice (some ad172) s0_0.length cSz7_0) ∧ w'.cell? ⟨g, 1, none⟩ = some (.int .i64 s0_1) ∧ w'.cell? ⟨g, 2, none⟩ = some (.int .i64 s0_2) ∧ w'.cell? ⟨g, 3, none⟩ = some (.int .i64 s0_3) ∧ w'.cell? ⟨g, 4, none⟩ = some (.int .i64 s0_4) ∧ w'.cell? (ad172.add ((s0_1).toNat * 3)) = some (.int .i64 ((rd_T110 s0_0 s0_1).f0)) ∧ w'.cell? ⟨(ad172.add ((s0_1).toNat * 3)).block, (ad172.add ((s0_1).toNat * 3)).off + 1, none⟩ = some (.string ((rd_T110 s0_0 s0_1).f1)) ∧ w'.cell? ⟨(ad172.add ((s0_1).toNat * 3)).block, (ad172.add ((s0_1).toNat * 3)).off + 2, none⟩ = some (.int .i64 ((rd_T110 s0_0 s0_1).f2))) (ds := [11]) #[false, false, false, false, false, false, false, false, false, false, false, false] zq13 rfl rfl ⟨hx7_0, hx7_1, hx7_2, hx7_3, hx7_4, hx172_0, hx172_1, hx172_2⟩ (fun hHeld => ?_); refine with_tabW rr_name.tab1 rr_name.bits1 (fun HT_ HW_ => ?_)
     generalize w.drew = w6 at HI0 HK HB hx172_0 hx172_1 hx172_2 hx7_0 hx7_1 hx7_2 hx7_3 hx7_4 hHeld ⊢
     refine pure_ (i := 0) (N := some 4) #[true, false, false, false, false, false, false, false, false, false, false, false] rfl rfl (any_of HT_.out zq13) (fun _ _ _ h => h) (Or.inl ⟨by rfl, zpv⟩) zpw ?_
     refine pure_ (i := 1) (N := some 5) #[true, true, false, false, false, false, false, false, false, false, false, false] rfl rfl (any_of HT_.out zq13) (fun _ _ _ h => h) (Or.inl ⟨by rfl, zpv⟩) zpw ?_
     refine pure_ (i := 2) (N := some 6) #[true, true, true, false, false, false, false, false, false, false, false, false] rfl rfl (any_of HT_.out zq13) (fun _ _ _ h => h) (Or.inl ⟨by rfl, zpv⟩) zpw ?_
     refine pure_ (i := 4) (N := some 8) #[true, true, true, false, true, false, false, false, false, false, false, false] rfl rfl (any_of HT_.out zq13) (fun _ _ _ h => h) (Or.inl ⟨by rfl, zpv⟩) zpw ?_
     refine pure_ (i := 5) (N := some 9) #[true, true, true, false, true, true, false, false, false, false, false, false] rfl rfl (any_of HT_.out zq13) (fun _ _ _ h => h) (Or.inl ⟨by rfl, zpv⟩) zpw ?_
     refine pure_ (i := 6) (N := some 10) #[true, true, true, false, true, true, true, false, false, false, false, false] rfl rfl (any_of HT_.out zq13) (fun _ _ _ h => h) (Or.inl ⟨by rfl, zpv⟩) zpw ?_
     refine take_ (i := 3) (N := some 7) (v := ?_) (a' := ?_) #[true, true, true, true, true, true, true, false, false, false, false, false] rfl rfl (take_ofW HT_.out HW_.out zq13) (fun _ _ _ h => h) (Or.inl ⟨by rfl, ?_⟩) hHeld ?_ ?_
     rotate_left
     ·
      rintro w' ⟨s0, s1, s2, s3, s4, s5, s6, s7⟩
      go_simp
      with_reducible rfl
     rotate_left
     ·
      simp only [Act.put, List.setIfInBounds_toArray, List.set_cons_zero, List.set_cons_succ, i64_w, i32_w]
      rfl
     refine take_ (i := 7) (N := some 11) (v := ?_) (a' := ?_) #[true, true, true, true, true, true, true, true, false, false, false, false] rfl rfl (take_ofW HT_.out HW_.out zq13) (fun _ _ _ h => h) (Or.inl ⟨by rfl, ?_⟩) hHeld ?_ ?_
     rotate_left
     ·
      rintro w' ⟨s0, s1, s2, s3, s4, s5, s6, s7⟩
      go_simp
      with_reducible rfl
     rotate_left
     ·
      simp only [Act.put, List.setIfInBounds_toArray, List.set_cons_zero, List.set_cons_succ, i64_w, i32_w]
      rfl
     refine pure_ (i := 8) (N := some 12) #[true, true, true, true, true, true, true, true, true, false, false, false] rfl rfl (any_of HT_.out zq13) (fun _ _ _ h => h) (Or.inl ⟨by rfl, zpv⟩) zpw ?_
     refine take_ (i := 9) (N := some 13) (v := ?_) (a' := ?_) #[true, true, true, true, true, true, true, true, true, true, false, false] rfl rfl (take_ofW HT_.out HW_.out zq13) (fun _ _ _ h => h) (Or.inl ⟨by rfl, ?_⟩) hHeld ?_ ?_
     rotate_left
     ·
      rintro w' ⟨s0, s1, s2, s3, s4, s5, s6, s7⟩
      go_simp
      with_reducible rfl
     rotate_left
     ·
      simp only [Act.put, List.setIfInBounds_toArray, List.set_cons_zero, List.set_cons_succ, i64_w, i32_w]
      rfl
     refine one_ (i := 10) (N := some 3) #[true, true, true, true, true, true, true, true, true, true, true, false] rfl rfl (one_of HT_.out zq13) (by decide) (fun K hK => ?_)
     refine box_step ?hg (N := 3) ?hd (cs := #[.int .i64 0, .string (⟨#[]⟩ : ByteArray), .int .i64 0]) (t := 110) ?hr ?_; (case hd => rfl); (case hg => rfl); (case hr => exact zq19)
     intro gb173 hg w8 hbox hb
     have HS0_ := (hb.cell (World.block_lt_of_cell? _ _ (hHeld.1))).trans (hHeld.1)
     have HS1_ := (hb.cell (World.block_lt_of_cell? _ _ (hHeld.2.1))).trans (hHeld.2.1)
     have HS2_ := (hb.cell (World.block_lt_of_cell? _ _ (hHeld.2.2.1))).trans (hHeld.2.2.1)
     have HS3_ := (hb.cell (World.block_lt_of_cell? _ _ (hHeld.2.2.2.1))).trans (hHeld.2.2.2.1)
     have HS4_ := (hb.cell (World.block_lt_of_cell? _ _ (hHeld.2.2.2.2.1))).trans (hHeld.2.2.2.2.1)
     have HS5_ := (hb.cell (World.block_lt_of_cell? _ _ (hHeld.2.2.2.2.2.1))).trans (hHeld.2.2.2.2.2.1)
     have HS6_ := (hb.cell (World.block_lt_of_cell? _ _ (hHeld.2.2.2.2.2.2.1))).trans (hHeld.2.2.2.2.2.2.1)
     have HS7_ := (hb.cell (World.block_lt_of_cell? _ _ (hHeld.2.2.2.2.2.2.2))).trans (hHeld.2.2.2.2.2.2.2)
     replace HB := za (below_step zq4 hb)
     have BK173 := za (hbox)
     have GW173 := za ((by rw [hg]; exact (keep_size (w := w) (g := g) (row := none) zq7) : w.heap.size ≤ gb173))
     have GE173 := za ((Nat.le_trans HW0.out (by rw [hg]; exact (keep_size (w := w) (g := g) (row := none) zq7) : w.heap.size ≤ gb173) : w0.heap.size ≤ gb173))
     replace HK := za (KeepBut.trans zq7 (KeepBut.of_below hb g none) (.inl rfl))
     have NB0_173 := za ((by rw [hg]; exact Nat.ne_of_lt (IsS83.lt (show IsS83 w0 _ g s0_0 s0_1 s0_2 s0_3 s0_4 from zq0)) : g ≠ gb173))
     have NB173_0 := za ((by rw [hg]; exact Nat.ne_of_gt (IsS83.lt (show IsS83 w0 _ g s0_0 s0_1 s0_2 s0_3 s0_4 from zq0)) : gb173 ≠ g))
     replace HI0 := za (IsS83.below zq0 hb)
     clear hb hbox hg
     refine hK.out _ _ ⟨HS0_, HS1_, HS2_, HS3_, HS4_, HS5_, HS6_, HS7_⟩ (fun hHeld => ?_)
     clear hK K
     refine norm_ (a' := ?_) ?_ ?_
     rotate_left
     ·
      show Act.put _ (some 3) _ = _
      simp only [Act.put, List.setIfInBounds_toArray, List.set_cons_zero, List.set_cons_succ, i64_w, i32_w]
      rfl
     refine last_ (i := 11) (N := none) #[true, true, true, true, true, true, true, true, true, true, true, true] rfl rfl (one_of HT_.out zq13) (by decide) (fun K hK => ?_)
     have hs9 : w8.cell? ⟨gb173, 0, none⟩ = some (.int .i64 0) := (blk_cell BK173.out 0).trans rfl
     have hfs9 := blk_frozen BK173.out 0
     have hs10 : w8.cell? ⟨gb173, 1, none⟩ = some (.string (⟨#[]⟩ : ByteArray)) := (blk_cell BK173.out 1).trans rfl
     have hfs10 := blk_frozen BK173.out 1
     have hs11 : w8.cell? ⟨gb173, 2, none⟩ = some (.int .i64 0) := (blk_cell BK173.out 2).trans rfl
     have hfs11 := blk_frozen BK173.out 2
     refine skip_ (w1 := ?_) (by rfl) rfl ?_ ?_
     rotate_left
     ·
      go_simp
      rfl
     refine hK.out _ _ ?_
     clear hK K
     refine done_ (done_of HT_.out zq13) ?_
     obtain ⟨ASz12_0, cSz12_0, HGz12, hgz12, HSz12_0⟩ := HI0.out
     have hcz12_0 := cellS83_0 HGz12
     have hcz12_1 := cellS83_1 HGz12
     have hcz12_2 := cellS83_2 HGz12
     have hcz12_3 := cellS83_3 HGz12
     have hcz12_4 := cellS83_4 HGz12
     have hfz12_1 := blk_frozen HGz12 1
     have hfz12_2 := blk_frozen HGz12 2
     have hfz12_3 := blk_frozen HGz12 3
     have hfz12_4 := blk_frozen HGz12 4
     clear HGz12 hgz12
     have hnb13 := NB173_0.out
     have hnc13 := NB0_173.out
     obtain ⟨hcz14_0, hcz14_1, hcz14_2⟩ := zc3 BK173.out
     obtain ⟨hfz14_0, hfz14_1, hfz14_2⟩ := zf3 BK173.out
     try go_wp2
     go_ret
     exact ⟨zq16, by repeat (first | (with_reducible first | exact HI0.out | apply IsS83.alloc | apply IsS83.drewN | apply IsS83.drew | apply IsS83.set_1 | apply IsS83.set_2 | apply IsS83.set_3 | apply IsS83.set_4 | apply IsS83.far (hne := NB0_173.out)) | exact HI0.out), by repeat (first | (with_reducible first | exact HB.out | apply below_alloc | apply pw_below_drewN | apply below_drew1 | refine below_set ?_ (IsS83.ge HI0.out) | refine below_set ?_ GE173.out) | exact HB.out), by repeat (first | (with_reducible first | exact HK.out | apply KeepBut.set_ | apply keep_drewN | apply keep_drew | apply keep_alloc | refine keep_far ?_ GW173.out _) | exact HK.out)⟩
    ·
     rw [if_neg c5] at H
     exact absurd H (by simp)
   ·
    rw [if_neg c4] at H
    exact absurd H (by simp)
  ·
   rw [if_neg c3] at H
   exact absurd H (by simp)
 ·
  rw [if_neg c2] at H
  exact absurd H (by simp)
def ra_num.l0 : Nat → ByteArray → Int → Int → Option (Int)
 | 0, _, _, _ => none
 | k + 1, x0, x3, x4 => if x4 < (x0.size : Int) then (if 0 ≤ x4 then (ra_num.l0 k x0 (wrap64 ((wrap64 (10 * x3)) + (((bt x0 x4) - 48) % 256))) (wrap64 (x4 + 1))) else (none)) else (some x3)
def ra_num.f (k : Nat) (a0 : ByteArray) : Option (Int) := ra_num.l0 k a0 0 0
theorem ra_num.mono_l : ∀ k, (∀ y0 y1 y2, LeO (ra_num.l0 k y0 y1 y2) (ra_num.l0 (k + 1) y0 y1 y2))
 | 0 => fun _ _ _ r h => by simp [ra_num.l0] at h
 | k + 1 => by
  have ih0 := ra_num.mono_l k
  ·
   intro y0 y1 y2
   unfold ra_num.l0
   repeat' with_reducible first | apply ih0 | exact LeO.refl _ | exact LeO.none _ | refine LeO.ite ?_ ?_ | refine LeO.bind ?_ (fun _ => ?_)
theorem ra_num.mono : ∀ a0 k, LeO (ra_num.f k a0) (ra_num.f (k + 1) a0) := by
 intro a0 k
 have ih0 := ra_num.mono_l k
 unfold ra_num.f
 repeat' with_reducible first | apply ih0 | exact LeO.refl _ | exact LeO.none _ | refine LeO.ite ?_ ?_ | refine LeO.bind ?_ (fun _ => ?_)
set_option maxHeartbeats 8000000 in
set_option maxRecDepth 100000 in
theorem ra_num.calls (k : Nat) (a0 : ByteArray) (r : Int) (w : World) (h : ra_num.f k a0 = some r) :
  Calls Try.prog 55 #[.string a0] w fun e w' => e = .returned (.int .i64 r) ∧ Drawn0 w w' := by
 have H : (ra_num.l0 k a0 0 0) = some r := h
 clear h
 have H' := za H
 clear H
 go_enter Try.func55, Try.ntmps55
 go_wp2
 go_loopg [3, 4] k (fun kq v3 v4 w' => ∃ (x3_1 : Int) (x4_1 : Int), v3 = .int .i64 x3_1 ∧ v4 = .int .i64 x4_1 ∧ Aside0 (ra_num.l0 kq a0 x3_1 x4_1 = some r) ∧ Aside0 (kq ≤ k) ∧ Drawn0 w w')
 case atStart => exact ⟨(0), (0), zq22, zq22, H', ⟨Nat.le_refl _⟩, zq25⟩
 case round =>
  clear H'
  obtain ⟨x3_1, x4_1, rfl, rfl, HA, HK1, ⟨m1, rfl⟩⟩ := hrel
  cases gk with
  | zero => exact absurd HA.out (by simp [ra_num.l0])
  | succ k1 =>
   have H := HA.out
   clear HA
   simp only [ra_num.l0] at H
   by_cases c2 : x4_1 < (a0.size : Int)
   ·
    rw [if_pos c2] at H
    have c2b0 := decide_eq_true c2
    clear c2
    by_cases c3 : 0 ≤ x4_1
    ·
     rw [if_pos c3] at H
     have c3b0 := decide_eq_true c3
     clear c3
     have H' := za H
     clear H
     have p4 : 0 ≤ (x4_1 : Int) := of_decide_eq_true zq10
     have q4 : x4_1 < (a0.size : Int) := of_decide_eq_true zq10
     have hx4 := bt_at a0 x4_1
     replace p4 := eq_true p4
     replace q4 := eq_true q4
     go_wp2
     go_roundg k1
     case measure => have := HK1.out; omega
     case rel => exact ⟨(wrap64 ((wrap64 (10 * x3_1)) + (((bt a0 x4_1) - 48) % 256))), (wrap64 (x4_1 + 1)), zq22, zq22, H', ⟨by have := HK1.out; omega⟩, zq25⟩
    ·
     rw [if_neg c3] at H
     exact absurd H (by simp)
   ·
    rw [if_neg c2] at H
    have c2b0 := decide_eq_false c2
    clear c2
    obtain rfl := Option.some.inj H
    go_wp2
    go_ret
    exact ⟨zq34, zq25⟩
end Go.Proofs.Ytcjnhnnfoadklaa.QRunBranches
