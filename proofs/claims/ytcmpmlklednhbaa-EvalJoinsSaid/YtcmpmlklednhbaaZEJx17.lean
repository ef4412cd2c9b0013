import Derived.Test.YtcmpmlklednhbaaZEJx16
namespace Go.Proofs.Ytcmpmlklednhbaa.QEvalJoins
open Go.RowKit Go.Proofs.YtcmpmlklednhbaaW.PrintWords Go.Proofs.YtcmpmlklednhbaaW.PrintLast Go.Proofs.YtcmpmlklednhbaaW.PrintMore
set_option maxHeartbeats 8000000
set_option maxRecDepth 100000
attribute [local go_sem] max2_int min2_int max_two min_two max_three min_three max_four min_four
set_option linter.unusedVariables false
set_option linter.unusedSimpArgs false
def api_Cell_33.l0 : Nat → List (S63) → Int → Option (Bool)
 | 0, _, _ => none
 | k + 1, x0, x5 => if x5 > 0 then (if 0 ≤ x5 then (if x5 < (x0.length : Int) then (if 0 ≤ (wrap64 (x5 - 1)) then (if (wrap64 (x5 - 1)) < (x0.length : Int) then ((memory_compare.f k ((rd_T63 x0 x5).f0) ((rd_T63 x0 x5).f1) ((rd_T63 x0 x5).f2) ((rd_T63 x0 (wrap64 (x5 - 1))).f0) ((rd_T63 x0 (wrap64 (x5 - 1))).f1) ((rd_T63 x0 (wrap64 (x5 - 1))).f2)).bind fun t995 => (if t995 < 0 then (some false) else (api_Cell_33.l0 k x0 (wrap64 (x5 - 1))))) else (none)) else (none)) else (none)) else (none)) else (some true)
def api_Cell_33.f (k : Nat) (l0 : List (S63))  : Option (Bool) := api_Cell_33.l0 k l0 (wrap64 ((l0.length : Int) - 1))
theorem api_Cell_33.mono_l : ∀ k, (∀ y0 y1, LeO (api_Cell_33.l0 k y0 y1) (api_Cell_33.l0 (k + 1) y0 y1))
 | 0 => fun _ _ r h => by simp [api_Cell_33.l0] at h
 | k + 1 => by
  have ih0 := api_Cell_33.mono_l k
  ·
   intro y0 y1
   unfold api_Cell_33.l0
   repeat' with_reducible first | apply ih0 | apply memory_compare.mono | exact LeO.refl _ | exact LeO.none _ | refine LeO.ite ?_ ?_ | refine LeO.bind ?_ (fun _ => ?_)
theorem api_Cell_33.mono : ∀ a0 k, LeO (api_Cell_33.f k a0) (api_Cell_33.f (k + 1) a0) := by
 intro a0 k
 have ih0 := api_Cell_33.mono_l k
 unfold api_Cell_33.f
 repeat' with_reducible first | apply ih0 | apply memory_compare.mono | exact LeO.refl _ | exact LeO.none _ | refine LeO.ite ?_ ?_ | refine LeO.bind ?_ (fun _ => ?_)
def api_Cell_33.T4 : Bool × List (List Nat × List Nat) := (true, [([], []), ([], []), ([], []), ([1, 2], [1, 2]), ([3], [3]), ([], []), ([], []), ([6], [6]), ([5, 7], [5, 7]), ([8], [8]), ([0, 4, 9], [0, 4, 9]), ([10], [10])])
def api_Cell_33.B4 : List Nat := [0, 0, 0, 6, 14, 0, 0, 64, 224, 480, 1023, 2047]
theorem api_Cell_33.tab4 : rtab .any (opsOf Try.f33 4) = api_Cell_33.T4 := by kernel_rfl
theorem api_Cell_33.bits4 : waitsOk api_Cell_33.T4.2 api_Cell_33.B4 = true := by kernel_rfl
theorem api_Cell_33.calls (k : Nat) (A0 : Option Addr) (c0 : Nat) (l0 : List (S63))  (r : Bool) (w : World) (hr0 : Kd.C k63 w A0 l0.length l0) (hc0 : l0.length ≤ c0) (h : api_Cell_33.f k l0 = some r) :
  Calls Try.prog 33 #[.slice A0 l0.length c0, .func (.func 34) #[] #[]] w fun e w' => e = .returned (.bool r) ∧ Below w.heap.size w w' := by
 have hu63 := Try.underlying63
 have HR0 := za hr0
 have HC0 := za hc0
 clear hr0 hc0
 have HB := za (Below.refl w.heap.size w)
 have H : (api_Cell_33.l0 k l0 (wrap64 ((l0.length : Int) - 1))) = some r := h
 clear h
 have H' := za H
 clear H
 go_enter Try.func33, Try.ntmps33
 go_wp2
 go_loopg [5] k (fun kq v5 w' => ∃ (x5_1 : Int), v5 = .int .i64 x5_1 ∧ Aside0 (api_Cell_33.l0 kq l0 x5_1 = some r) ∧ Aside0 (kq ≤ k) ∧ Aside0 (Below w.heap.size w w'))
 case atStart => exact ⟨(wrap64 ((l0.length : Int) - 1)), zq29, H', ⟨Nat.le_refl _⟩, ⟨zq4⟩⟩
 case round =>
  clear H'
  obtain ⟨x5_1, rfl, HA, HK1, HB⟩ := hrel
  cases gk with
  | zero => exact absurd HA.out (by simp [api_Cell_33.l0])
  | succ k1 =>
   have H := HA.out
   clear HA
   simp only [api_Cell_33.l0] at H
   by_cases c3 : x5_1 > 0
   ·
    rw [if_pos c3] at H
    have c3b0 : decide (0 < x5_1) = true := decide_eq_true c3
    clear c3
    by_cases c4 : 0 ≤ x5_1
    ·
     rw [if_pos c4] at H
     have c4b0 := decide_eq_true c4
     clear c4
     by_cases c5 : x5_1 < (l0.length : Int)
     ·
      rw [if_pos c5] at H
      have c5b0 := decide_eq_true c5
      clear c5
      obtain ⟨ji6, hji6⟩ : ∃ j_ : Int, (wrap64 (x5_1 - 1)) = j_ := ⟨_, rfl⟩
      replace H : (if 0 ≤ (ji6) then (if (ji6) < (l0.length : Int) then ((memory_compare.f k1 ((rd_T63 l0 x5_1).f0) ((rd_T63 l0 x5_1).f1) ((rd_T63 l0 x5_1).f2) ((rd_T63 l0 (ji6)).f0) ((rd_T63 l0 (ji6)).f1) ((rd_T63 l0 (ji6)).f2)).bind fun t995 => (if t995 < 0 then (some false) else (api_Cell_33.l0 k1 l0 ji6))) else (none)) else (none)) = some r := by first | (rw [hji6] at H; exact H) | (simp only [hji6] at H ⊢; exact H)
      have hji6w : (IntKind.i64.wrap (x5_1 - 1)) = ji6 := (i64_w _).trans hji6
      by_cases c7 : 0 ≤ (ji6)
      ·
       rw [if_pos c7] at H
       have c7b0 := decide_eq_true c7
       clear c7
       by_cases c8 : (ji6) < (l0.length : Int)
       ·
        rw [if_pos c8] at H
        have c8b0 := decide_eq_true c8
        clear c8
        replace H := Option.bind_eq_some_iff.mp H
        obtain ⟨t995, A90, H⟩ := H
        (try dsimp only at H)
        have A9 := za A90
        clear A90
        by_cases c10 : t995 < 0
        ·
         rw [if_pos c10] at H
         have c10b0 := decide_eq_true c10
         clear c10
         obtain rfl := Option.some.inj H
         try go_wp2
         replace HB := za (below_drew1 HB.out)
         have p993 : 0 ≤ (x5_1 : Int) := of_decide_eq_true zq11
         have q993 : x5_1 < (l0.length : Int) := of_decide_eq_true zq11
         obtain ⟨ad993, e993, hx993_0, hx993_1, hx993_2⟩ := at_T63 HR0.out x5_1 p993 q993
         have hw993_2 := hx993_2
         have hw993_1 := hx993_1
         have hw993_0 := hx993_0
         cases e993
         replace hx993_0 := (HB.out.cell (World.block_lt_of_cell? w _ hx993_0)).trans hx993_0
         replace hx993_1 := (HB.out.cell (World.block_lt_of_cell? w _ hx993_1)).trans hx993_1
         replace hx993_2 := (HB.out.cell (World.block_lt_of_cell? w _ hx993_2)).trans hx993_2
         replace p993 := eq_true p993
         replace q993 := eq_true q993
         have p994 : 0 ≤ ((ji6) : Int) := of_decide_eq_true zq11
         have q994 : (ji6) < (l0.length : Int) := of_decide_eq_true zq11
         obtain ⟨ad994, e994, hx994_0, hx994_1, hx994_2⟩ := at_T63 HR0.out (ji6) p994 q994
         have hw994_2 := hx994_2
         have hw994_1 := hx994_1
         have hw994_0 := hx994_0
         obtain rfl : ad993 = ad994 := (by injection e994)
         replace hx994_0 := (HB.out.cell (World.block_lt_of_cell? w _ hx994_0)).trans hx994_0
         replace hx994_1 := (HB.out.cell (World.block_lt_of_cell? w _ hx994_1)).trans hx994_1
         replace hx994_2 := (HB.out.cell (World.block_lt_of_cell? w _ hx994_2)).trans hx994_2
         replace p994 := eq_true p994
         replace q994 := eq_true q994
         refine start_ (n := 12) (S := fun w' => w'.cell? (ad993.add ((x5_1).toNat * 3)) = some (.string ((rd_T63 l0 x5_1).f0)) ∧ w'.cell? ⟨(ad993.add ((x5_1).toNat * 3)).block, (ad993.add ((x5_1).toNat * 3)).off + 1, none⟩ = some (.string ((rd_T63 l0 x5_1).f1)) ∧ w'.cell? ⟨(ad993.add ((x5_1).toNat * 3)).block, (ad993.add ((x5_1).toNat * 3)).off + 2, none⟩ = some (.int .i64 ((rd_T63 l0 x5_1).f2)) ∧ w'.cell? (ad993.add (((ji6)).toNat * 3)) = some (.string ((rd_T63 l0 (ji6)).f0)) ∧ w'.cell? ⟨(ad993.add (((ji6)).toNat * 3)).block, (ad993.add (((ji6)).toNat * 3)).off + 1, none⟩ = some (.string ((rd_T63 l0 (ji6)).f1)) ∧ w'.cell? ⟨(ad993.add (((ji6)).toNat * 3)).block, (ad993.add (((ji6)).toNat * 3)).off + 2, none⟩ = some (.int .i64 ((rd_T63 l0 (ji6)).f2))) (ds := []) #[false, false, false, false, false, false, false, false, false, false, false, false] zq18 rfl rfl ⟨((HB.out.cell (World.block_lt_of_cell? w _ hw993_0)).trans hw993_0), ((HB.out.cell (World.block_lt_of_cell? w _ hw993_1)).trans hw993_1), ((HB.out.cell (World.block_lt_of_cell? w _ hw993_2)).trans hw993_2), ((HB.out.cell (World.block_lt_of_cell? w _ hw994_0)).trans hw994_0), ((HB.out.cell (World.block_lt_of_cell? w _ hw994_1)).trans hw994_1), ((HB.out.cell (World.block_lt_of_cell? w _ hw994_2)).trans hw994_2)⟩ (fun hHeld => ?_); refine with_tabW api_Cell_33.tab4 api_Cell_33.bits4 (fun HT_ HW_ => ?_)
         generalize wr.drew = w11 at HB hx993_0 hx993_1 hx993_2 hx994_0 hx994_1 hx994_2 hHeld ⊢
         refine pure_ (i := 0) (N := some 13) #[true, false, false, false, false, false, false, false, false, false, false, false] rfl rfl (any_of HT_.out zq18) (fun _ _ _ h => h) (Or.inl ⟨by rfl, zpv⟩) zpw ?_
         refine pure_ (i := 1) (N := some 14) #[true, true, false, false, false, false, false, false, false, false, false, false] rfl rfl (any_of HT_.out zq18) (fun _ _ _ h => h) (Or.inl ⟨by rfl, zpv⟩) zpw ?_
         refine pure_ (i := 2) (N := some 15) #[true, true, true, false, false, false, false, false, false, false, false, false] rfl rfl (any_of HT_.out zq18) (fun _ _ _ h => h) (Or.inl ⟨by rfl, zpv⟩) zpw ?_
         refine pure_ (i := 3) (N := some 16) #[true, true, true, true, false, false, false, false, false, false, false, false] rfl rfl (any_of HT_.out zq18) (fun _ _ _ h => h) (Or.inl ⟨by rfl, zpv⟩) zpw ?_
         refine pure_ (i := 5) (N := some 18) #[true, true, true, true, false, true, false, false, false, false, false, false] rfl rfl (any_of HT_.out zq18) (fun _ _ _ h => h) (Or.inl ⟨by rfl, zpv⟩) zpw ?_
         refine pure_ (i := 6) (N := some 19) #[true, true, true, true, false, true, true, false, false, false, false, false] rfl rfl (any_of HT_.out zq18) (fun _ _ _ h => h) (Or.inl ⟨by rfl, zpv⟩) zpw ?_
         refine pure_ (i := 7) (N := some 20) #[true, true, true, true, false, true, true, true, false, false, false, false] rfl rfl (any_of HT_.out zq18) (fun _ _ _ h => h) (Or.inl ⟨by rfl, zpv⟩) zpw ?_
         refine pure_ (i := 8) (N := some 21) #[true, true, true, true, false, true, true, true, true, false, false, false] rfl rfl (any_of HT_.out zq18) (fun _ _ _ h => h) (Or.inl ⟨by rfl, zpv⟩) zpw ?_
         refine take_ (i := 4) (N := some 17) (v := ?_) (a' := ?_) #[true, true, true, true, true, true, true, true, true, false, false, false] rfl rfl (take_ofW HT_.out HW_.out zq18) (fun _ _ _ h => h) (Or.inl ⟨by rfl, ?_⟩) hHeld ?_ ?_
         rotate_left
         ·
          rintro w' ⟨s0, s1, s2, s3, s4, s5⟩
          go_simp
          with_reducible rfl
         rotate_left
         ·
          simp only [Act.put, List.setIfInBounds_toArray, List.set_cons_zero, List.set_cons_succ, i64_w, i32_w]
          rfl
         refine take_ (i := 9) (N := some 22) (v := ?_) (a' := ?_) #[true, true, true, true, true, true, true, true, true, true, false, false] rfl rfl (take_ofW HT_.out HW_.out zq18) (fun _ _ _ h => h) (Or.inl ⟨by rfl, ?_⟩) hHeld ?_ ?_
         rotate_left
         ·
          rintro w' ⟨s0, s1, s2, s3, s4, s5⟩
          go_simp
          with_reducible rfl
         rotate_left
         ·
          simp only [Act.put, List.setIfInBounds_toArray, List.set_cons_zero, List.set_cons_succ, i64_w, i32_w]
          rfl
         refine one_ (i := 10) (N := some 23) #[true, true, true, true, true, true, true, true, true, true, true, false] rfl rfl (one_of HT_.out zq18) (by decide) (fun K hK => ?_)
         refine Go.Proofs.YtcmpmlklednhbaaFnv.goesV_ Try.func34 zq18 rfl #[.agg #[.string ((rd_T63 l0 x5_1).f0), .string ((rd_T63 l0 x5_1).f1), .int .i64 ((rd_T63 l0 x5_1).f2)], .agg #[.string ((rd_T63 l0 (ji6)).f0), .string ((rd_T63 l0 (ji6)).f1), .int .i64 ((rd_T63 l0 (ji6)).f2)]] (by rfl) rfl rfl rfl zq74 ?_
         with_reducible refine (memory_compare.calls k1 ((rd_T63 l0 x5_1).f0) ((rd_T63 l0 x5_1).f1) ((rd_T63 l0 x5_1).f2) ((rd_T63 l0 (ji6)).f0) ((rd_T63 l0 (ji6)).f1) ((rd_T63 l0 (ji6)).f2) t995 _ A9.out).mono ?_
         rintro e w12 ⟨rfl, hb⟩
         refine ⟨_, rfl, ?_⟩
         replace HB := za (below_step zq4 hb)
         refine hK.out _ _ ⟨((HB.out.cell (World.block_lt_of_cell? w _ hw993_0)).trans hw993_0), ((HB.out.cell (World.block_lt_of_cell? w _ hw993_1)).trans hw993_1), ((HB.out.cell (World.block_lt_of_cell? w _ hw993_2)).trans hw993_2), ((HB.out.cell (World.block_lt_of_cell? w _ hw994_0)).trans hw994_0), ((HB.out.cell (World.block_lt_of_cell? w _ hw994_1)).trans hw994_1), ((HB.out.cell (World.block_lt_of_cell? w _ hw994_2)).trans hw994_2)⟩ (fun hHeld => ?_)
         clear hK K
         refine norm_ (a' := ?_) ?_ ?_
         rotate_left
         ·
          show Act.put _ (some 23) _ = _
          simp only [Act.put, List.setIfInBounds_toArray, List.set_cons_zero, List.set_cons_succ, i64_w, i32_w]
          rfl
         refine pure_ (i := 11) (N := some 24) #[true, true, true, true, true, true, true, true, true, true, true, true] rfl rfl (any_of HT_.out zq18) (fun _ _ _ h => h) (Or.inl ⟨by rfl, zpv⟩) zpw ?_
         refine done_ (done_of HT_.out zq18) ?_
         try go_wp2
         go_ret
         exact ⟨by first | rfl | (simp [errW_none, errW_some] <;> rfl) | (simp only [← hji6]; first | rfl | (simp [errW_none, errW_some] <;> rfl)) | (simp [*, errW_none, errW_some] <;> rfl), zq4⟩
        ·
         rw [if_neg c10] at H
         have c10b0 := decide_eq_false c10
         clear c10
         have H' := za H
         clear H
         try go_wp2
         replace HB := za (below_drew1 HB.out)
         have p993 : 0 ≤ (x5_1 : Int) := of_decide_eq_true zq11
         have q993 : x5_1 < (l0.length : Int) := of_decide_eq_true zq11
         obtain ⟨ad993, e993, hx993_0, hx993_1, hx993_2⟩ := at_T63 HR0.out x5_1 p993 q993
         have hw993_2 := hx993_2
         have hw993_1 := hx993_1
         have hw993_0 := hx993_0
         cases e993
         replace hx993_0 := (HB.out.cell (World.block_lt_of_cell? w _ hx993_0)).trans hx993_0
         replace hx993_1 := (HB.out.cell (World.block_lt_of_cell? w _ hx993_1)).trans hx993_1
         replace hx993_2 := (HB.out.cell (World.block_lt_of_cell? w _ hx993_2)).trans hx993_2
         replace p993 := eq_true p993
         replace q993 := eq_true q993
         have p994 : 0 ≤ ((ji6) : Int) := of_decide_eq_true zq11
         have q994 : (ji6) < (l0.length : Int) := of_decide_eq_true zq11
         obtain ⟨ad994, e994, hx994_0, hx994_1, hx994_2⟩ := at_T63 HR0.out (ji6) p994 q994
         have hw994_2 := hx994_2
         have hw994_1 := hx994_1
         have hw994_0 := hx994_0
         obtain rfl : ad993 = ad994 := (by injection e994)
         replace hx994_0 := (HB.out.cell (World.block_lt_of_cell? w _ hx994_0)).trans hx994_0
         replace hx994_1 := (HB.out.cell (World.block_lt_of_cell? w _ hx994_1)).trans hx994_1
         replace hx994_2 := (HB.out.cell (World.block_lt_of_cell? w _ hx994_2)).trans hx994_2
         replace p994 := eq_true p994
         replace q994 := eq_true q994
         refine start_ (n := 12) (S := fun w' => w'.cell? (ad993.add ((x5_1).toNat * 3)) = some (.string ((rd_T63 l0 x5_1).f0)) ∧ w'.cell? ⟨(ad993.add ((x5_1).toNat * 3)).block, (ad993.add ((x5_1).toNat * 3)).off + 1, none⟩ = some (.string ((rd_T63 l0 x5_1).f1)) ∧ w'.cell? ⟨(ad993.add ((x5_1).toNat * 3)).block, (ad993.add ((x5_1).toNat * 3)).off + 2, none⟩ = some (.int .i64 ((rd_T63 l0 x5_1).f2)) ∧ w'.cell? (ad993.add (((ji6)).toNat * 3)) = some (.string ((rd_T63 l0 (ji6)).f0)) ∧ w'.cell? ⟨(ad993.add (((ji6)).toNat * 3)).block, (ad993.add (((ji6)).toNat * 3)).off + 1, none⟩ = some (.string ((rd_T63 l0 (ji6)).f1)) ∧ w'.cell? ⟨(ad993.add (((ji6)).toNat * 3)).block, (ad993.add (((ji6)).toNat * 3)).off + 2, none⟩ = some (.int .i64 ((rd_T63 l0 (ji6)).f2))) (ds := []) #[false, false, false, false, false, false, false, false, false, false, false, false] zq18 rfl rfl ⟨((HB.out.cell (World.block_lt_of_cell? w _ hw993_0)).trans hw993_0), ((HB.out.cell (World.block_lt_of_cell? w _ hw993_1)).trans hw993_1), ((HB.out.cell (World.block_lt_of_cell? w _ hw993_2)).trans hw993_2), ((HB.out.cell (World.block_lt_of_cell? w _ hw994_0)).trans hw994_0), ((HB.out.cell (World.block_lt_of_cell? w _ hw994_1)).trans hw994_1), ((HB.out.cell (World.block_lt_of_cell? w _ hw994_2)).trans hw994_2)⟩ (fun hHeld => ?_); refine with_tabW api_Cell_33.tab4 api_Cell_33.bits4 (fun HT_ HW_ => ?_)
         generalize wr.drew = w13 at HB hx993_0 hx993_1 hx993_2 hx994_0 hx994_1 hx994_2 hHeld ⊢
         refine pure_ (i := 0) (N := some 13) #[true, false, false, false, false, false, false, false, false, false, false, false] rfl rfl (any_of HT_.out zq18) (fun _ _ _ h => h) (Or.inl ⟨by rfl, zpv⟩) zpw ?_
         refine pure_ (i := 1) (N := some 14) #[true, true, false, false, false, false, false, false, false, false, false, false] rfl rfl (any_of HT_.out zq18) (fun _ _ _ h => h) (Or.inl ⟨by rfl, zpv⟩) zpw ?_
         refine pure_ (i := 2) (N := some 15) #[true, true, true, false, false, false, false, false, false, false, false, false] rfl rfl (any_of HT_.out zq18) (fun _ _ _ h => h) (Or.inl ⟨by rfl, zpv⟩) zpw ?_
         refine pure_ (i := 3) (N := some 16) #[true, true, true, true, false, false, false, false, false, false, false, false] rfl rfl (any_of HT_.out zq18) (fun _ _ _ h => h) (Or.inl ⟨by rfl, zpv⟩) zpw ?_
         refine pure_ (i := 5) (N := some 18) #[true, true, true, true, false, true, false, false, false, false, false, false] rfl rfl (any_of HT_.out zq18) (fun _ _ _ h => h) (Or.inl ⟨by rfl, zpv⟩) zpw ?_
         refine pure_ (i := 6) (N := some 19) #[true, true, true, true, false, true, true, false, false, false, false, false] rfl rfl (any_of HT_.out zq18) (fun _ _ _ h => h) (Or.inl ⟨by rfl, zpv⟩) zpw ?_
         refine pure_ (i := 7) (N := some 20) #[true, true, true, true, false, true, true, true, false, false, false, false] rfl rfl (any_of HT_.out zq18) (fun _ _ _ h => h) (Or.inl ⟨by rfl, zpv⟩) zpw ?_
         refine pure_ (i := 8) (N := some 21) #[true, true, true, true, false, true, true, true, true, false, false, false] rfl rfl (any_of HT_.out zq18) (fun _ _ _ h => h) (Or.inl ⟨by rfl, zpv⟩) zpw ?_
         refine take_ (i := 4) (N := some 17) (v := ?_) (a' := ?_) #[true, true, true, true, true, true, true, true, true, false, false, false] rfl rfl (take_ofW HT_.out HW_.out zq18) (fun _ _ _ h => h) (Or.inl ⟨by rfl, ?_⟩) hHeld ?_ ?_
         rotate_left
         ·
          rintro w' ⟨s0, s1, s2, s3, s4, s5⟩
          go_simp
          with_reducible rfl
         rotate_left
         ·
          simp only [Act.put, List.setIfInBounds_toArray, List.set_cons_zero, List.set_cons_succ, i64_w, i32_w]
          rfl
         refine take_ (i := 9) (N := some 22) (v := ?_) (a' := ?_) #[true, true, true, true, true, true, true, true, true, true, false, false] rfl rfl (take_ofW HT_.out HW_.out zq18) (fun _ _ _ h => h) (Or.inl ⟨by rfl, ?_⟩) hHeld ?_ ?_
         rotate_left
         ·
          rintro w' ⟨s0, s1, s2, s3, s4, s5⟩
          go_simp
          with_reducible rfl
         rotate_left
         ·
          simp only [Act.put, List.setIfInBounds_toArray, List.set_cons_zero, List.set_cons_succ, i64_w, i32_w]
          rfl
         refine one_ (i := 10) (N := some 23) #[true, true, true, true, true, true, true, true, true, true, true, false] rfl rfl (one_of HT_.out zq18) (by decide) (fun K hK => ?_)
         refine Go.Proofs.YtcmpmlklednhbaaFnv.goesV_ Try.func34 zq18 rfl #[.agg #[.string ((rd_T63 l0 x5_1).f0), .string ((rd_T63 l0 x5_1).f1), .int .i64 ((rd_T63 l0 x5_1).f2)], .agg #[.string ((rd_T63 l0 (ji6)).f0), .string ((rd_T63 l0 (ji6)).f1), .int .i64 ((rd_T63 l0 (ji6)).f2)]] (by rfl) rfl rfl rfl zq74 ?_
         with_reducible refine (memory_compare.calls k1 ((rd_T63 l0 x5_1).f0) ((rd_T63 l0 x5_1).f1) ((rd_T63 l0 x5_1).f2) ((rd_T63 l0 (ji6)).f0) ((rd_T63 l0 (ji6)).f1) ((rd_T63 l0 (ji6)).f2) t995 _ A9.out).mono ?_
         rintro e w14 ⟨rfl, hb⟩
         refine ⟨_, rfl, ?_⟩
         replace HB := za (below_step zq4 hb)
         refine hK.out _ _ ⟨((HB.out.cell (World.block_lt_of_cell? w _ hw993_0)).trans hw993_0), ((HB.out.cell (World.block_lt_of_cell? w _ hw993_1)).trans hw993_1), ((HB.out.cell (World.block_lt_of_cell? w _ hw993_2)).trans hw993_2), ((HB.out.cell (World.block_lt_of_cell? w _ hw994_0)).trans hw994_0), ((HB.out.cell (World.block_lt_of_cell? w _ hw994_1)).trans hw994_1), ((HB.out.cell (World.block_lt_of_cell? w _ hw994_2)).trans hw994_2)⟩ (fun hHeld => ?_)
         clear hK K
         refine norm_ (a' := ?_) ?_ ?_
         rotate_left
         ·
          show Act.put _ (some 23) _ = _
          simp only [Act.put, List.setIfInBounds_toArray, List.set_cons_zero, List.set_cons_succ, i64_w, i32_w]
          rfl
         refine pure_ (i := 11) (N := some 24) #[true, true, true, true, true, true, true, true, true, true, true, true] rfl rfl (any_of HT_.out zq18) (fun _ _ _ h => h) (Or.inl ⟨by rfl, zpv⟩) zpw ?_
         refine done_ (done_of HT_.out zq18) ?_
         try go_wp2
         go_roundg k1
         case measure => have := HK1.out; omega
         case rel => exact ⟨(ji6), zq98, H', ⟨by have := HK1.out; omega⟩, ⟨zq4⟩⟩
       ·
        rw [if_neg c8] at H
        exact absurd H (by simp)
      ·
       rw [if_neg c7] at H
       exact absurd H (by simp)
     ·
      rw [if_neg c5] at H
      exact absurd H (by simp)
    ·
     rw [if_neg c4] at H
     exact absurd H (by simp)
   ·
    rw [if_neg c3] at H
    have c3b0 : decide (0 < x5_1) = false := decide_eq_false c3
    clear c3
    obtain rfl := Option.some.inj H
    go_wp2
    go_ret
    exact ⟨zq16, zq4⟩
end Go.Proofs.Ytcmpmlklednhbaa.QEvalJoins
