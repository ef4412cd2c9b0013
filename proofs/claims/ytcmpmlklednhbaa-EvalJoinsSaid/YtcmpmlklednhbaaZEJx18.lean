import Derived.Test.YtcmpmlklednhbaaZEJx17
namespace Go.Proofs.Ytcmpmlklednhbaa.QEvalJoins
open Go.RowKit Go.Proofs.YtcmpmlklednhbaaW.PrintWords Go.Proofs.YtcmpmlklednhbaaW.PrintLast Go.Proofs.YtcmpmlklednhbaaW.PrintMore
set_option maxHeartbeats 8000000
set_option maxRecDepth 100000
attribute [local go_sem] max2_int min2_int max_two min_two max_three min_three max_four min_four
set_option linter.unusedVariables false
set_option linter.unusedSimpArgs false
def api_Cell_35.l0 : Nat → List (S63) → Int → Int → Int → ByteArray → ByteArray → Int → Option (Int × Bool)
 | 0, _, _, _, _, _, _, _ => none
 | k + 1, x0, x8, x9, x10, x997000, x997001, x997002 => if x9 < x10 then (if 0 ≤ (wrap64 ((IntKind.u64.wrap (wrap64 (x9 + x10))) / 2)) then (if (wrap64 ((IntKind.u64.wrap (wrap64 (x9 + x10))) / 2)) < (x0.length : Int) then ((memory_compare.f k ((rd_T63 x0 (wrap64 ((IntKind.u64.wrap (wrap64 (x9 + x10))) / 2))).f0) ((rd_T63 x0 (wrap64 ((IntKind.u64.wrap (wrap64 (x9 + x10))) / 2))).f1) ((rd_T63 x0 (wrap64 ((IntKind.u64.wrap (wrap64 (x9 + x10))) / 2))).f2) x997000 x997001 x997002).bind fun t998 => (if t998 < 0 then (api_Cell_35.l0 k x0 x8 (wrap64 ((wrap64 ((IntKind.u64.wrap (wrap64 (x9 + x10))) / 2)) + 1)) x10 x997000 x997001 x997002) else (api_Cell_35.l0 k x0 x8 x9 (wrap64 ((IntKind.u64.wrap (wrap64 (x9 + x10))) / 2)) x997000 x997001 x997002))) else (none)) else (none)) else (if x9 < x8 then (if 0 ≤ x9 then (if x9 < (x0.length : Int) then ((memory_compare.f k ((rd_T63 x0 x9).f0) ((rd_T63 x0 x9).f1) ((rd_T63 x0 x9).f2) x997000 x997001 x997002).bind fun t1000 => (some (x9, (t1000 == 0)))) else (none)) else (none)) else (some (x9, false)))
def api_Cell_35.f (k : Nat) (l0 : List (S63)) (a1_0 : ByteArray) (a1_1 : ByteArray) (a1_2 : Int)  : Option (Int × Bool) := api_Cell_35.l0 k l0 (l0.length : Int) 0 (l0.length : Int) a1_0 a1_1 a1_2
theorem api_Cell_35.mono_l : ∀ k, (∀ y0 y1 y2 y3 y4 y5 y6, LeO (api_Cell_35.l0 k y0 y1 y2 y3 y4 y5 y6) (api_Cell_35.l0 (k + 1) y0 y1 y2 y3 y4 y5 y6))
 | 0 => fun _ _ _ _ _ _ _ r h => by simp [api_Cell_35.l0] at h
 | k + 1 => by
  have ih0 := api_Cell_35.mono_l k
  ·
   intro y0 y1 y2 y3 y4 y5 y6
   unfold api_Cell_35.l0
   repeat' with_reducible first | apply ih0 | apply memory_compare.mono | exact LeO.refl _ | exact LeO.none _ | refine LeO.ite ?_ ?_ | refine LeO.bind ?_ (fun _ => ?_)
theorem api_Cell_35.mono : ∀ a0 a1 a2 a3 k, LeO (api_Cell_35.f k a0 a1 a2 a3) (api_Cell_35.f (k + 1) a0 a1 a2 a3) := by
 intro a0 a1 a2 a3 k
 have ih0 := api_Cell_35.mono_l k
 unfold api_Cell_35.f
 repeat' with_reducible first | apply ih0 | apply memory_compare.mono | exact LeO.refl _ | exact LeO.none _ | refine LeO.ite ?_ ?_ | refine LeO.bind ?_ (fun _ => ?_)
def api_Cell_35.T5 : Bool × List (List Nat × List Nat) := (true, [([], []), ([], []), ([], []), ([1, 2], [1, 2]), ([3], [3]), ([], []), ([0, 4, 5], [0, 4, 5]), ([6], [6])])
def api_Cell_35.B5 : List Nat := [0, 0, 0, 6, 14, 0, 63, 127]
theorem api_Cell_35.tab5 : rtab .any (opsOf Try.f35 5) = api_Cell_35.T5 := by kernel_rfl
theorem api_Cell_35.bits5 : waitsOk api_Cell_35.T5.2 api_Cell_35.B5 = true := by kernel_rfl
def api_Cell_35.T8 : Bool × List (List Nat × List Nat) := (true, [([], []), ([], []), ([], []), ([1, 2], [1, 2]), ([3], [3]), ([4], [4]), ([4], [4]), ([4], [4]), ([6, 7, 4], [4, 6, 7]), ([8, 4], [4, 8]), ([4], [4]), ([5, 9, 10, 4, 4], [4, 5, 9, 10]), ([11, 4], [4, 11]), ([4, 12], [4, 12]), ([0, 11, 0], [0]), ([13, 14, 0, 1, 2, 3, 4, 5, 6, 7, 8, 9, 10, 11, 12, 13, 14], [13])])
def api_Cell_35.B8 : List Nat := [0, 0, 0, 6, 14, 30, 30, 30, 222, 478, 30, 2046, 4094, 8190, 4095, 32767]
theorem api_Cell_35.tab8 : rtab .any (opsOf Try.f35 8) = api_Cell_35.T8 := by kernel_rfl
theorem api_Cell_35.bits8 : waitsOk api_Cell_35.T8.2 api_Cell_35.B8 = true := by kernel_rfl
theorem api_Cell_35.calls (k : Nat) (A0 : Option Addr) (c0 : Nat) (l0 : List (S63)) (a1_0 : ByteArray) (a1_1 : ByteArray) (a1_2 : Int)  (r1 : Int) (r2 : Bool) (w : World) (hr0 : Kd.C k63 w A0 l0.length l0) (hc0 : l0.length ≤ c0) (h : api_Cell_35.f k l0 a1_0 a1_1 a1_2 = some (r1, r2)) :
  Calls Try.prog 35 #[.slice A0 l0.length c0, .agg #[.string a1_0, .string a1_1, .int .i64 a1_2], .func (.func 34) #[] #[]] w fun e w' => e = .returned (.tuple #[.int .i64 r1, .bool r2]) ∧ Below w.heap.size w w' := by
 have hu63 := Try.underlying63
 have HR0 := za hr0
 have HC0 := za hc0
 clear hr0 hc0
 have HB := za (Below.refl w.heap.size w)
 have H : (api_Cell_35.l0 k l0 (l0.length : Int) 0 (l0.length : Int) a1_0 a1_1 a1_2) = some (r1, r2) := h
 clear h
 have H' := za H
 clear H
 go_enter Try.func35, Try.ntmps35
 go_wp2_with (first | ((with_reducible refine gate_dst (N := 4) rfl ?_); refine box_event ?hg (N := 4) ?hd (cs := #[.string a1_0, .string a1_1, .int .i64 a1_2]) (t := 63) ?hr ?_; (case hd => rfl); (case hg => rfl); (case hr => exact zq39); intro gb996 hg w4 hbox hb; have BK996 := za (hbox); have GW996 := za ((by rw [hg]; exact (below_size zq4) : w.heap.size ≤ gb996)); have GE996 := za ((by rw [hg]; exact (below_size zq4) : w.heap.size ≤ gb996)); replace HB := za (below_step zq4 hb); clear hb hbox hg))
 go_loopg [9, 10] k (fun kq v9 v10 w' => ∃ (x9_1 : Int) (x10_1 : Int), v9 = .int .i64 x9_1 ∧ v10 = .int .i64 x10_1 ∧ Aside0 (api_Cell_35.l0 kq l0 (l0.length : Int) x9_1 x10_1 a1_0 a1_1 a1_2 = some (r1, r2)) ∧ Aside0 (kq ≤ k) ∧ Aside0 (w'.heap[gb996]? = some (.cells #[.string a1_0, .string a1_1, .int .i64 a1_2] 63 (0, 0))) ∧ Aside0 (Below w.heap.size w w'))
 case atStart => exact ⟨(0), ((l0.length : Int)), zq29, zq29, H', ⟨Nat.le_refl _⟩, ⟨zq89⟩, ⟨zq44⟩⟩
 case round =>
  clear H'
  obtain ⟨x9_1, x10_1, rfl, rfl, HA, HK1, BK996, HB⟩ := hrel
  cases gk with
  | zero => exact absurd HA.out (by simp [api_Cell_35.l0])
  | succ k1 =>
   have H := HA.out
   clear HA
   simp only [api_Cell_35.l0] at H
   by_cases c5 : x9_1 < x10_1
   ·
    rw [if_pos c5] at H
    have c5b0 : decide (x9_1 < x10_1) = true := decide_eq_true c5
    clear c5
    obtain ⟨ji6, hji6⟩ : ∃ j_ : Int, (wrap64 ((IntKind.u64.wrap (wrap64 (x9_1 + x10_1))) / 2)) = j_ := ⟨_, rfl⟩
    replace H : (if 0 ≤ (ji6) then (if (ji6) < (l0.length : Int) then ((memory_compare.f k1 ((rd_T63 l0 (ji6)).f0) ((rd_T63 l0 (ji6)).f1) ((rd_T63 l0 (ji6)).f2) a1_0 a1_1 a1_2).bind fun t998 => (if t998 < 0 then (api_Cell_35.l0 k1 l0 (l0.length : Int) (wrap64 ((ji6) + 1)) x10_1 a1_0 a1_1 a1_2) else (api_Cell_35.l0 k1 l0 (l0.length : Int) x9_1 ji6 a1_0 a1_1 a1_2))) else (none)) else (none)) = some (r1, r2) := by first | (rw [hji6] at H; exact H) | (simp only [hji6] at H ⊢; exact H)
    have hji6w : (IntKind.i64.wrap ((IntKind.u64.wrap (wrap64 (x9_1 + x10_1))) / 2)) = ji6 := (i64_w _).trans hji6
    by_cases c7 : 0 ≤ (ji6)
    ·
     rw [if_pos c7] at H
     have c7b0 : decide (0 ≤ (ji6)) = true := decide_eq_true c7
     clear c7
     by_cases c8 : (ji6) < (l0.length : Int)
     ·
      rw [if_pos c8] at H
      have c8b0 : decide ((ji6) < (l0.length : Int)) = true := decide_eq_true c8
      clear c8
      replace H := Option.bind_eq_some_iff.mp H
      obtain ⟨t998, A90, H⟩ := H
      (try dsimp only at H)
      have A9 := za A90
      clear A90
      by_cases c10 : t998 < 0
      ·
       rw [if_pos c10] at H
       have c10b0 := decide_eq_true c10
       clear c10
       have H' := za H
       clear H
       try go_wp2
       replace BK996 := za (blk_drew BK996.out)
       replace HB := za (below_drew1 HB.out)
       have p997 : 0 ≤ ((ji6) : Int) := of_decide_eq_true zq11
       have q997 : (ji6) < (l0.length : Int) := of_decide_eq_true zq11
       obtain ⟨ad997, e997, hx997_0, hx997_1, hx997_2⟩ := at_T63 HR0.out (ji6) p997 q997
       have hw997_2 := hx997_2
       have hw997_1 := hx997_1
       have hw997_0 := hx997_0
       cases e997
       replace hx997_0 := (HB.out.cell (World.block_lt_of_cell? w _ hx997_0)).trans hx997_0
       replace hx997_1 := (HB.out.cell (World.block_lt_of_cell? w _ hx997_1)).trans hx997_1
       replace hx997_2 := (HB.out.cell (World.block_lt_of_cell? w _ hx997_2)).trans hx997_2
       replace p997 := eq_true p997
       replace q997 := eq_true q997
       refine start_ (n := 8) (S := fun w' => w'.cell? ⟨gb996, 0, none⟩ = some (.string a1_0) ∧ w'.cell? ⟨gb996, 1, none⟩ = some (.string a1_1) ∧ w'.cell? ⟨gb996, 2, none⟩ = some (.int .i64 a1_2) ∧ w'.cell? (ad997.add (((ji6)).toNat * 3)) = some (.string ((rd_T63 l0 (ji6)).f0)) ∧ w'.cell? ⟨(ad997.add (((ji6)).toNat * 3)).block, (ad997.add (((ji6)).toNat * 3)).off + 1, none⟩ = some (.string ((rd_T63 l0 (ji6)).f1)) ∧ w'.cell? ⟨(ad997.add (((ji6)).toNat * 3)).block, (ad997.add (((ji6)).toNat * 3)).off + 2, none⟩ = some (.int .i64 ((rd_T63 l0 (ji6)).f2))) (ds := []) #[false, false, false, false, false, false, false, false] zq18 rfl rfl ⟨(blk_cell BK996.out 0).trans rfl, (blk_cell BK996.out 1).trans rfl, (blk_cell BK996.out 2).trans rfl, ((HB.out.cell (World.block_lt_of_cell? w _ hw997_0)).trans hw997_0), ((HB.out.cell (World.block_lt_of_cell? w _ hw997_1)).trans hw997_1), ((HB.out.cell (World.block_lt_of_cell? w _ hw997_2)).trans hw997_2)⟩ (fun hHeld => ?_); refine with_tabW api_Cell_35.tab5 api_Cell_35.bits5 (fun HT_ HW_ => ?_)
       generalize wr.drew = w11 at BK996 HB hx997_0 hx997_1 hx997_2 hHeld ⊢
       refine pure_ (i := 0) (N := some 24) #[true, false, false, false, false, false, false, false] rfl rfl (any_of HT_.out zq18) (fun _ _ _ h => h) (Or.inl ⟨by rfl, zpv⟩) zpw ?_
       refine pure_ (i := 1) (N := some 25) #[true, true, false, false, false, false, false, false] rfl rfl (any_of HT_.out zq18) (fun _ _ _ h => h) (Or.inl ⟨by rfl, zpv⟩) zpw ?_
       refine pure_ (i := 2) (N := some 26) #[true, true, true, false, false, false, false, false] rfl rfl (any_of HT_.out zq18) (fun _ _ _ h => h) (Or.inl ⟨by rfl, zpv⟩) zpw ?_
       refine pure_ (i := 3) (N := some 27) #[true, true, true, true, false, false, false, false] rfl rfl (any_of HT_.out zq18) (fun _ _ _ h => h) (Or.inl ⟨by rfl, zpv⟩) zpw ?_
       refine take_ (i := 4) (N := some 28) (v := ?_) (a' := ?_) #[true, true, true, true, true, false, false, false] rfl rfl (take_ofW HT_.out HW_.out zq18) (fun _ _ _ h => h) (Or.inl ⟨by rfl, ?_⟩) hHeld ?_ ?_
       rotate_left
       ·
        rintro w' ⟨s0, s1, s2, s3, s4, s5⟩
        go_simp
        with_reducible rfl
       rotate_left
       ·
        simp only [Act.put, List.setIfInBounds_toArray, List.set_cons_zero, List.set_cons_succ, i64_w, i32_w]
        rfl
       refine take_ (i := 5) (N := some 29) (v := ?_) (a' := ?_) #[true, true, true, true, true, true, false, false] rfl rfl (take_ofW HT_.out HW_.out zq18) (fun _ _ _ h => h) (Or.inl ⟨by rfl, ?_⟩) hHeld ?_ ?_
       rotate_left
       ·
        rintro w' ⟨s0, s1, s2, s3, s4, s5⟩
        go_simp
        with_reducible rfl
       rotate_left
       ·
        simp only [Act.put, List.setIfInBounds_toArray, List.set_cons_zero, List.set_cons_succ, i64_w, i32_w]
        rfl
       refine one_ (i := 6) (N := some 30) #[true, true, true, true, true, true, true, false] rfl rfl (one_of HT_.out zq18) (by decide) (fun K hK => ?_)
       refine Go.Proofs.YtcmpmlklednhbaaFnv.goesV_ Try.func34 zq18 rfl #[.agg #[.string ((rd_T63 l0 (ji6)).f0), .string ((rd_T63 l0 (ji6)).f1), .int .i64 ((rd_T63 l0 (ji6)).f2)], .agg #[.string a1_0, .string a1_1, .int .i64 a1_2]] (by rfl) rfl rfl rfl zq74 ?_
       with_reducible refine (memory_compare.calls k1 ((rd_T63 l0 (ji6)).f0) ((rd_T63 l0 (ji6)).f1) ((rd_T63 l0 (ji6)).f2) a1_0 a1_1 a1_2 t998 _ A9.out).mono ?_
       rintro e w12 ⟨rfl, hb⟩
       refine ⟨_, rfl, ?_⟩
       replace BK996 := za (blk_below (g := gb996) (zb BK996.out) hb)
       replace HB := za (below_step zq44 hb)
       refine hK.out _ _ ⟨(blk_cell BK996.out 0).trans rfl, (blk_cell BK996.out 1).trans rfl, (blk_cell BK996.out 2).trans rfl, ((HB.out.cell (World.block_lt_of_cell? w _ hw997_0)).trans hw997_0), ((HB.out.cell (World.block_lt_of_cell? w _ hw997_1)).trans hw997_1), ((HB.out.cell (World.block_lt_of_cell? w _ hw997_2)).trans hw997_2)⟩ (fun hHeld => ?_)
       clear hK K
       refine norm_ (a' := ?_) ?_ ?_
       rotate_left
       ·
        show Act.put _ (some 30) _ = _
        simp only [Act.put, List.setIfInBounds_toArray, List.set_cons_zero, List.set_cons_succ, i64_w, i32_w]
        rfl
       refine pure_ (i := 7) (N := some 31) #[true, true, true, true, true, true, true, true] rfl rfl (any_of HT_.out zq18) (fun _ _ _ h => h) (Or.inl ⟨by rfl, zpv⟩) zpw ?_
       refine done_ (done_of HT_.out zq18) ?_
       try go_wp2
       go_roundg k1
       case measure => have := HK1.out; omega
       case rel => exact ⟨(wrap64 ((ji6) + 1)), (x10_1), zq98, zq29, H', ⟨by have := HK1.out; omega⟩, ⟨zq89⟩, ⟨zq44⟩⟩
      ·
       rw [if_neg c10] at H
       have c10b0 := decide_eq_false c10
       clear c10
       have H' := za H
       clear H
       try go_wp2
       replace BK996 := za (blk_drew BK996.out)
       replace HB := za (below_drew1 HB.out)
       have p997 : 0 ≤ ((ji6) : Int) := of_decide_eq_true zq11
       have q997 : (ji6) < (l0.length : Int) := of_decide_eq_true zq11
       obtain ⟨ad997, e997, hx997_0, hx997_1, hx997_2⟩ := at_T63 HR0.out (ji6) p997 q997
       have hw997_2 := hx997_2
       have hw997_1 := hx997_1
       have hw997_0 := hx997_0
       cases e997
       replace hx997_0 := (HB.out.cell (World.block_lt_of_cell? w _ hx997_0)).trans hx997_0
       replace hx997_1 := (HB.out.cell (World.block_lt_of_cell? w _ hx997_1)).trans hx997_1
       replace hx997_2 := (HB.out.cell (World.block_lt_of_cell? w _ hx997_2)).trans hx997_2
       replace p997 := eq_true p997
       replace q997 := eq_true q997
       refine start_ (n := 8) (S := fun w' => w'.cell? ⟨gb996, 0, none⟩ = some (.string a1_0) ∧ w'.cell? ⟨gb996, 1, none⟩ = some (.string a1_1) ∧ w'.cell? ⟨gb996, 2, none⟩ = some (.int .i64 a1_2) ∧ w'.cell? (ad997.add (((ji6)).toNat * 3)) = some (.string ((rd_T63 l0 (ji6)).f0)) ∧ w'.cell? ⟨(ad997.add (((ji6)).toNat * 3)).block, (ad997.add (((ji6)).toNat * 3)).off + 1, none⟩ = some (.string ((rd_T63 l0 (ji6)).f1)) ∧ w'.cell? ⟨(ad997.add (((ji6)).toNat * 3)).block, (ad997.add (((ji6)).toNat * 3)).off + 2, none⟩ = some (.int .i64 ((rd_T63 l0 (ji6)).f2))) (ds := []) #[false, false, false, false, false, false, false, false] zq18 rfl rfl ⟨(blk_cell BK996.out 0).trans rfl, (blk_cell BK996.out 1).trans rfl, (blk_cell BK996.out 2).trans rfl, ((HB.out.cell (World.block_lt_of_cell? w _ hw997_0)).trans hw997_0), ((HB.out.cell (World.block_lt_of_cell? w _ hw997_1)).trans hw997_1), ((HB.out.cell (World.block_lt_of_cell? w _ hw997_2)).trans hw997_2)⟩ (fun hHeld => ?_); refine with_tabW api_Cell_35.tab5 api_Cell_35.bits5 (fun HT_ HW_ => ?_)
       generalize wr.drew = w13 at BK996 HB hx997_0 hx997_1 hx997_2 hHeld ⊢
       refine pure_ (i := 0) (N := some 24) #[true, false, false, false, false, false, false, false] rfl rfl (any_of HT_.out zq18) (fun _ _ _ h => h) (Or.inl ⟨by rfl, zpv⟩) zpw ?_
       refine pure_ (i := 1) (N := some 25) #[true, true, false, false, false, false, false, false] rfl rfl (any_of HT_.out zq18) (fun _ _ _ h => h) (Or.inl ⟨by rfl, zpv⟩) zpw ?_
       refine pure_ (i := 2) (N := some 26) #[true, true, true, false, false, false, false, false] rfl rfl (any_of HT_.out zq18) (fun _ _ _ h => h) (Or.inl ⟨by rfl, zpv⟩) zpw ?_
       refine pure_ (i := 3) (N := some 27) #[true, true, true, true, false, false, false, false] rfl rfl (any_of HT_.out zq18) (fun _ _ _ h => h) (Or.inl ⟨by rfl, zpv⟩) zpw ?_
       refine take_ (i := 4) (N := some 28) (v := ?_) (a' := ?_) #[true, true, true, true, true, false, false, false] rfl rfl (take_ofW HT_.out HW_.out zq18) (fun _ _ _ h => h) (Or.inl ⟨by rfl, ?_⟩) hHeld ?_ ?_
       rotate_left
       ·
        rintro w' ⟨s0, s1, s2, s3, s4, s5⟩
        go_simp
        with_reducible rfl
       rotate_left
       ·
        simp only [Act.put, List.setIfInBounds_toArray, List.set_cons_zero, List.set_cons_succ, i64_w, i32_w]
        rfl
       refine take_ (i := 5) (N := some 29) (v := ?_) (a' := ?_) #[true, true, true, true, true, true, false, false] rfl rfl (take_ofW HT_.out HW_.out zq18) (fun _ _ _ h => h) (Or.inl ⟨by rfl, ?_⟩) hHeld ?_ ?_
       rotate_left
       ·
        rintro w' ⟨s0, s1, s2, s3, s4, s5⟩
        go_simp
        with_reducible rfl
       rotate_left
       ·
        simp only [Act.put, List.setIfInBounds_toArray, List.set_cons_zero, List.set_cons_succ, i64_w, i32_w]
        rfl
       refine one_ (i := 6) (N := some 30) #[true, true, true, true, true, true, true, false] rfl rfl (one_of HT_.out zq18) (by decide) (fun K hK => ?_)
       refine Go.Proofs.YtcmpmlklednhbaaFnv.goesV_ Try.func34 zq18 rfl #[.agg #[.string ((rd_T63 l0 (ji6)).f0), .string ((rd_T63 l0 (ji6)).f1), .int .i64 ((rd_T63 l0 (ji6)).f2)], .agg #[.string a1_0, .string a1_1, .int .i64 a1_2]] (by rfl) rfl rfl rfl zq74 ?_
       with_reducible refine (memory_compare.calls k1 ((rd_T63 l0 (ji6)).f0) ((rd_T63 l0 (ji6)).f1) ((rd_T63 l0 (ji6)).f2) a1_0 a1_1 a1_2 t998 _ A9.out).mono ?_
       rintro e w14 ⟨rfl, hb⟩
       refine ⟨_, rfl, ?_⟩
       replace BK996 := za (blk_below (g := gb996) (zb BK996.out) hb)
       replace HB := za (below_step zq44 hb)
       refine hK.out _ _ ⟨(blk_cell BK996.out 0).trans rfl, (blk_cell BK996.out 1).trans rfl, (blk_cell BK996.out 2).trans rfl, ((HB.out.cell (World.block_lt_of_cell? w _ hw997_0)).trans hw997_0), ((HB.out.cell (World.block_lt_of_cell? w _ hw997_1)).trans hw997_1), ((HB.out.cell (World.block_lt_of_cell? w _ hw997_2)).trans hw997_2)⟩ (fun hHeld => ?_)
       clear hK K
       refine norm_ (a' := ?_) ?_ ?_
       rotate_left
       ·
        show Act.put _ (some 30) _ = _
        simp only [Act.put, List.setIfInBounds_toArray, List.set_cons_zero, List.set_cons_succ, i64_w, i32_w]
        rfl
       refine pure_ (i := 7) (N := some 31) #[true, true, true, true, true, true, true, true] rfl rfl (any_of HT_.out zq18) (fun _ _ _ h => h) (Or.inl ⟨by rfl, zpv⟩) zpw ?_
       refine done_ (done_of HT_.out zq18) ?_
       try go_wp2
       go_roundg k1
       case measure => have := HK1.out; omega
       case rel => exact ⟨(x9_1), (ji6), zq29, zq98, H', ⟨by have := HK1.out; omega⟩, ⟨zq89⟩, ⟨zq44⟩⟩
     ·
      rw [if_neg c8] at H
      exact absurd H (by simp)
    ·
     rw [if_neg c7] at H
     exact absurd H (by simp)
   ·
    rw [if_neg c5] at H
    have c5b0 : decide (x9_1 < x10_1) = false := decide_eq_false c5
    clear c5
    by_cases c15 : x9_1 < (l0.length : Int)
    ·
     rw [if_pos c15] at H
     have c15b0 := decide_eq_true c15
     clear c15
     by_cases c16 : 0 ≤ x9_1
     ·
      rw [if_pos c16] at H
      have c16b0 := decide_eq_true c16
      clear c16
      by_cases c17 : x9_1 < (l0.length : Int)
      ·
       rw [if_pos c17] at H
       have c17b0 := decide_eq_true c17
       clear c17
       replace H := Option.bind_eq_some_iff.mp H
       obtain ⟨t1000, A180, H⟩ := H
       (try dsimp only at H)
       have A18 := za A180
       clear A180
       simp only [Option.some.injEq, Prod.mk.injEq] at H
       obtain ⟨rfl, rfl⟩ := H
       try go_wp2
       replace BK996 := za (blk_drew BK996.out)
       replace HB := za (below_drew1 HB.out)
       have p999 : 0 ≤ (x9_1 : Int) := of_decide_eq_true zq11
       have q999 : x9_1 < (l0.length : Int) := of_decide_eq_true zq11
       obtain ⟨ad999, e999, hx999_0, hx999_1, hx999_2⟩ := at_T63 HR0.out x9_1 p999 q999
       have hw999_2 := hx999_2
       have hw999_1 := hx999_1
       have hw999_0 := hx999_0
       cases e999
       replace hx999_0 := (HB.out.cell (World.block_lt_of_cell? w _ hx999_0)).trans hx999_0
       replace hx999_1 := (HB.out.cell (World.block_lt_of_cell? w _ hx999_1)).trans hx999_1
       replace hx999_2 := (HB.out.cell (World.block_lt_of_cell? w _ hx999_2)).trans hx999_2
       replace p999 := eq_true p999
       replace q999 := eq_true q999
       refine start_ (n := 16) (S := fun w' => w'.cell? ⟨gb996, 0, none⟩ = some (.string a1_0) ∧ w'.cell? ⟨gb996, 1, none⟩ = some (.string a1_1) ∧ w'.cell? ⟨gb996, 2, none⟩ = some (.int .i64 a1_2) ∧ w'.cell? (ad999.add ((x9_1).toNat * 3)) = some (.string ((rd_T63 l0 x9_1).f0)) ∧ w'.cell? ⟨(ad999.add ((x9_1).toNat * 3)).block, (ad999.add ((x9_1).toNat * 3)).off + 1, none⟩ = some (.string ((rd_T63 l0 x9_1).f1)) ∧ w'.cell? ⟨(ad999.add ((x9_1).toNat * 3)).block, (ad999.add ((x9_1).toNat * 3)).off + 2, none⟩ = some (.int .i64 ((rd_T63 l0 x9_1).f2))) (ds := []) #[false, false, false, false, false, false, false, false, false, false, false, false, false, false, false, false] zq18 rfl rfl ⟨(blk_cell BK996.out 0).trans rfl, (blk_cell BK996.out 1).trans rfl, (blk_cell BK996.out 2).trans rfl, ((HB.out.cell (World.block_lt_of_cell? w _ hw999_0)).trans hw999_0), ((HB.out.cell (World.block_lt_of_cell? w _ hw999_1)).trans hw999_1), ((HB.out.cell (World.block_lt_of_cell? w _ hw999_2)).trans hw999_2)⟩ (fun hHeld => ?_); refine with_tabW api_Cell_35.tab8 api_Cell_35.bits8 (fun HT_ HW_ => ?_)
       generalize wr.drew = w19 at BK996 HB hx999_0 hx999_1 hx999_2 hHeld ⊢
       refine pure_ (i := 0) (N := some 35) #[true, false, false, false, false, false, false, false, false, false, false, false, false, false, false, false] rfl rfl (any_of HT_.out zq18) (fun _ _ _ h => h) (Or.inl ⟨by rfl, zpv⟩) zpw ?_
       refine pure_ (i := 1) (N := some 36) #[true, true, false, false, false, false, false, false, false, false, false, false, false, false, false, false] rfl rfl (any_of HT_.out zq18) (fun _ _ _ h => h) (Or.inl ⟨by rfl, zpv⟩) zpw ?_
       refine pure_ (i := 2) (N := some 37) #[true, true, true, false, false, false, false, false, false, false, false, false, false, false, false, false] rfl rfl (any_of HT_.out zq18) (fun _ _ _ h => h) (Or.inl ⟨by rfl, zpv⟩) zpw ?_
       refine pure_ (i := 3) (N := some 38) #[true, true, true, true, false, false, false, false, false, false, false, false, false, false, false, false] rfl rfl (any_of HT_.out zq18) (fun _ _ _ h => h) (Or.inl ⟨by rfl, zpv⟩) zpw ?_
       refine pure_ (i := 4) (N := some 39) #[true, true, true, true, true, false, false, false, false, false, false, false, false, false, false, false] rfl rfl (any_of HT_.out zq18) (fun _ _ _ h => h) (Or.inl ⟨by rfl, zpv⟩) zpw ?_
       refine pure_ (i := 5) (N := some 40) #[true, true, true, true, true, true, false, false, false, false, false, false, false, false, false, false] rfl rfl (any_of HT_.out zq18) (fun _ _ _ h => h) (Or.inl ⟨by rfl, zpv⟩) zpw ?_
       refine pure_ (i := 6) (N := some 41) #[true, true, true, true, true, true, true, false, false, false, false, false, false, false, false, false] rfl rfl (any_of HT_.out zq18) (fun _ _ _ h => h) (Or.inl ⟨by rfl, zpv⟩) zpw ?_
       refine pure_ (i := 7) (N := some 42) #[true, true, true, true, true, true, true, true, false, false, false, false, false, false, false, false] rfl rfl (any_of HT_.out zq18) (fun _ _ _ h => h) (Or.inl ⟨by rfl, zpv⟩) zpw ?_
       refine pure_ (i := 8) (N := some 43) #[true, true, true, true, true, true, true, true, true, false, false, false, false, false, false, false] rfl rfl (any_of HT_.out zq18) (fun _ _ _ h => h) (Or.inl ⟨by rfl, zpv⟩) zpw ?_
       refine take_ (i := 9) (N := some 44) (v := ?_) (a' := ?_) #[true, true, true, true, true, true, true, true, true, true, false, false, false, false, false, false] rfl rfl (take_ofW HT_.out HW_.out zq18) (fun _ _ _ h => h) (Or.inl ⟨by rfl, ?_⟩) hHeld ?_ ?_
       rotate_left
       ·
        rintro w' ⟨s0, s1, s2, s3, s4, s5⟩
        go_simp
        with_reducible rfl
       rotate_left
       ·
        simp only [Act.put, List.setIfInBounds_toArray, List.set_cons_zero, List.set_cons_succ, i64_w, i32_w]
        rfl
       refine take_ (i := 10) (N := some 45) (v := ?_) (a' := ?_) #[true, true, true, true, true, true, true, true, true, true, true, false, false, false, false, false] rfl rfl (take_ofW HT_.out HW_.out zq18) (fun _ _ _ h => h) (Or.inl ⟨by rfl, ?_⟩) hHeld ?_ ?_
       rotate_left
       ·
        rintro w' ⟨s0, s1, s2, s3, s4, s5⟩
        go_simp
        with_reducible rfl
       rotate_left
       ·
        simp only [Act.put, List.setIfInBounds_toArray, List.set_cons_zero, List.set_cons_succ, i64_w, i32_w]
        rfl
       refine one_ (i := 11) (N := some 46) #[true, true, true, true, true, true, true, true, true, true, true, true, false, false, false, false] rfl rfl (one_of HT_.out zq18) (by decide) (fun K hK => ?_)
       refine Go.Proofs.YtcmpmlklednhbaaFnv.goesV_ Try.func34 zq18 rfl #[.agg #[.string ((rd_T63 l0 x9_1).f0), .string ((rd_T63 l0 x9_1).f1), .int .i64 ((rd_T63 l0 x9_1).f2)], .agg #[.string a1_0, .string a1_1, .int .i64 a1_2]] (by rfl) rfl rfl rfl zq1 ?_
       with_reducible refine (memory_compare.calls k1 ((rd_T63 l0 x9_1).f0) ((rd_T63 l0 x9_1).f1) ((rd_T63 l0 x9_1).f2) a1_0 a1_1 a1_2 t1000 _ A18.out).mono ?_
       rintro e w20 ⟨rfl, hb⟩
       refine ⟨_, rfl, ?_⟩
       replace BK996 := za (blk_below (g := gb996) (zb BK996.out) hb)
       replace HB := za (below_step zq44 hb)
       refine hK.out _ _ ⟨(blk_cell BK996.out 0).trans rfl, (blk_cell BK996.out 1).trans rfl, (blk_cell BK996.out 2).trans rfl, ((HB.out.cell (World.block_lt_of_cell? w _ hw999_0)).trans hw999_0), ((HB.out.cell (World.block_lt_of_cell? w _ hw999_1)).trans hw999_1), ((HB.out.cell (World.block_lt_of_cell? w _ hw999_2)).trans hw999_2)⟩ (fun hHeld => ?_)
       clear hK K
       refine norm_ (a' := ?_) ?_ ?_
       rotate_left
       ·
        show Act.put _ (some 46) _ = _
        simp only [Act.put, List.setIfInBounds_toArray, List.set_cons_zero, List.set_cons_succ, i64_w, i32_w]
        rfl
       refine pure_ (i := 12) (N := some 47) #[true, true, true, true, true, true, true, true, true, true, true, true, true, false, false, false] rfl rfl (any_of HT_.out zq18) (fun _ _ _ h => h) (Or.inl ⟨by rfl, zpv⟩) zpw ?_
       refine pure_ (i := 13) (N := some 48) #[true, true, true, true, true, true, true, true, true, true, true, true, true, true, false, false] rfl rfl (any_of HT_.out zq18) (fun _ _ _ h => h) (Or.inl ⟨by rfl, zpv⟩) zpw ?_
       refine pure_ (i := 14) (N := some 6) #[true, true, true, true, true, true, true, true, true, true, true, true, true, true, true, false] rfl rfl (any_of HT_.out zq18) (fun _ _ _ h => h) (Or.inl ⟨by rfl, zpv⟩) zpw ?_
       refine pure_ (i := 15) (N := some 7) #[true, true, true, true, true, true, true, true, true, true, true, true, true, true, true, true] rfl rfl (any_of HT_.out zq18) (fun _ _ _ h => h) (Or.inl ⟨by rfl, zpv⟩) zpw ?_
       refine done_ (done_of HT_.out zq18) ?_
       try go_wp2
       go_ret2
       exact ⟨zq16, zq44⟩
      ·
       rw [if_neg c17] at H
       exact absurd H (by simp)
     ·
      rw [if_neg c16] at H
      exact absurd H (by simp)
    ·
     rw [if_neg c15] at H
     have c15b0 := decide_eq_false c15
     clear c15
     simp only [Option.some.injEq, Prod.mk.injEq] at H
     obtain ⟨rfl, rfl⟩ := H
     try go_wp2
     replace BK996 := za (blk_drew BK996.out)
     replace HB := za (below_drew1 HB.out)
     refine start_ (n := 16) (S := fun w' => True) (ds := []) #[false, false, false, false, false, false, false, false, false, false, false, false, false, false, false, false] zq18 rfl rfl trivial (fun hHeld => ?_); refine with_tabW api_Cell_35.tab8 api_Cell_35.bits8 (fun HT_ HW_ => ?_)
     generalize wr.drew = w21 at BK996 HB hHeld ⊢
     refine pure_ (i := 0) (N := some 35) #[true, false, false, false, false, false, false, false, false, false, false, false, false, false, false, false] rfl rfl (any_of HT_.out zq18) (fun _ _ _ h => h) (Or.inl ⟨by rfl, zpv⟩) zpw ?_
     refine pure_ (i := 1) (N := some 36) #[true, true, false, false, false, false, false, false, false, false, false, false, false, false, false, false] rfl rfl (any_of HT_.out zq18) (fun _ _ _ h => h) (Or.inl ⟨by rfl, zpv⟩) zpw ?_
     refine pure_ (i := 2) (N := some 37) #[true, true, true, false, false, false, false, false, false, false, false, false, false, false, false, false] rfl rfl (any_of HT_.out zq18) (fun _ _ _ h => h) (Or.inl ⟨by rfl, zpv⟩) zpw ?_
     refine pure_ (i := 3) (N := some 38) #[true, true, true, true, false, false, false, false, false, false, false, false, false, false, false, false] rfl rfl (any_of HT_.out zq18) (fun _ _ _ h => h) (Or.inl ⟨by rfl, zpv⟩) zpw ?_
     refine pure_ (i := 4) (N := some 39) #[true, true, true, true, true, false, false, false, false, false, false, false, false, false, false, false] rfl rfl (any_of HT_.out zq18) (fun _ _ _ h => h) (Or.inl ⟨by rfl, zpv⟩) zpw ?_
     refine pure_ (i := 5) (N := some 40) (v := undef) (a' := ?_) #[true, true, true, true, true, true, false, false, false, false, false, false, false, false, false, false] rfl rfl (any_of HT_.out zq18) (fun _ _ _ h => h) (Or.inr ⟨by rfl, rfl⟩) ?_ ?_
     rotate_left
     ·
      simp only [Act.put, List.setIfInBounds_toArray, List.set_cons_zero, List.set_cons_succ, i64_w, i32_w]
      rfl
     refine pure_ (i := 6) (N := some 41) (v := undef) (a' := ?_) #[true, true, true, true, true, true, true, false, false, false, false, false, false, false, false, false] rfl rfl (any_of HT_.out zq18) (fun _ _ _ h => h) (Or.inr ⟨by rfl, rfl⟩) ?_ ?_
     rotate_left
     ·
      simp only [Act.put, List.setIfInBounds_toArray, List.set_cons_zero, List.set_cons_succ, i64_w, i32_w]
      rfl
     refine pure_ (i := 7) (N := some 42) (v := undef) (a' := ?_) #[true, true, true, true, true, true, true, true, false, false, false, false, false, false, false, false] rfl rfl (any_of HT_.out zq18) (fun _ _ _ h => h) (Or.inr ⟨by rfl, rfl⟩) ?_ ?_
     rotate_left
     ·
      simp only [Act.put, List.setIfInBounds_toArray, List.set_cons_zero, List.set_cons_succ, i64_w, i32_w]
      rfl
     refine pure_ (i := 8) (N := some 43) (v := undef) (a' := ?_) #[true, true, true, true, true, true, true, true, true, false, false, false, false, false, false, false] rfl rfl (any_of HT_.out zq18) (fun _ _ _ h => h) (Or.inr ⟨by rfl, rfl⟩) ?_ ?_
     rotate_left
     ·
      simp only [Act.put, List.setIfInBounds_toArray, List.set_cons_zero, List.set_cons_succ, i64_w, i32_w]
      rfl
     refine pure_ (i := 9) (N := some 44) (v := undef) (a' := ?_) #[true, true, true, true, true, true, true, true, true, true, false, false, false, false, false, false] rfl rfl (any_of HT_.out zq18) (fun _ _ _ h => h) (Or.inr ⟨by rfl, rfl⟩) ?_ ?_
     rotate_left
     ·
      simp only [Act.put, List.setIfInBounds_toArray, List.set_cons_zero, List.set_cons_succ, i64_w, i32_w]
      rfl
     refine pure_ (i := 10) (N := some 45) (v := undef) (a' := ?_) #[true, true, true, true, true, true, true, true, true, true, true, false, false, false, false, false] rfl rfl (any_of HT_.out zq18) (fun _ _ _ h => h) (Or.inr ⟨by rfl, rfl⟩) ?_ ?_
     rotate_left
     ·
      simp only [Act.put, List.setIfInBounds_toArray, List.set_cons_zero, List.set_cons_succ, i64_w, i32_w]
      rfl
     refine pure_ (i := 11) (N := some 46) (v := undef) (a' := ?_) #[true, true, true, true, true, true, true, true, true, true, true, true, false, false, false, false] rfl rfl (any_of HT_.out zq18) (fun _ _ _ h => h) (Or.inr ⟨by rfl, rfl⟩) ?_ ?_
     rotate_left
     ·
      simp only [Act.put, List.setIfInBounds_toArray, List.set_cons_zero, List.set_cons_succ, i64_w, i32_w]
      rfl
     refine pure_ (i := 12) (N := some 47) (v := undef) (a' := ?_) #[true, true, true, true, true, true, true, true, true, true, true, true, true, false, false, false] rfl rfl (any_of HT_.out zq18) (fun _ _ _ h => h) (Or.inr ⟨by rfl, rfl⟩) ?_ ?_
     rotate_left
     ·
      simp only [Act.put, List.setIfInBounds_toArray, List.set_cons_zero, List.set_cons_succ, i64_w, i32_w]
      rfl
     refine pure_ (i := 13) (N := some 48) #[true, true, true, true, true, true, true, true, true, true, true, true, true, true, false, false] rfl rfl (any_of HT_.out zq18) (fun _ _ _ h => h) (Or.inl ⟨by rfl, zpv⟩) zpw ?_
     refine pure_ (i := 14) (N := some 6) #[true, true, true, true, true, true, true, true, true, true, true, true, true, true, true, false] rfl rfl (any_of HT_.out zq18) (fun _ _ _ h => h) (Or.inl ⟨by rfl, zpv⟩) zpw ?_
     refine pure_ (i := 15) (N := some 7) #[true, true, true, true, true, true, true, true, true, true, true, true, true, true, true, true] rfl rfl (any_of HT_.out zq18) (fun _ _ _ h => h) (Or.inl ⟨by rfl, zpv⟩) zpw ?_
     refine done_ (done_of HT_.out zq18) ?_
     try go_wp2
     go_ret2
     exact ⟨zq16, zq44⟩
def memory_find.cmp (x y : S63) : Int := if Lib.compareBytes x.f0.data.toList y.f0.data.toList = 0 then Lib.compareBytes x.f1.data.toList y.f1.data.toList else Lib.compareBytes x.f0.data.toList y.f0.data.toList
theorem memory_find.cmp_f (x y : S63) (k : Nat) : memory_compare.f (k + 3) x.f0 x.f1 x.f2 y.f0 y.f1 y.f2 = some (memory_find.cmp x y) := by
 unfold memory_compare.f strings_Compare.f cmp_Or_int.f memory_find.cmp
 generalize Lib.compareBytes x.f0.data.toList y.f0.data.toList = a
 generalize Lib.compareBytes x.f1.data.toList y.f1.data.toList = b
 by_cases ha : a = 0
 ·
  subst ha
  by_cases hb : b = 0
  ·
   subst hb
   simp [cmp_Or_int.l0, rd, wrap64]
  ·
   simp [cmp_Or_int.l0, rd, wrap64, hb]
 ·
  simp [cmp_Or_int.l0, rd, wrap64, ha]
theorem memory_find.cmp_calls (x y : S63) (w : World) : Calls Try.prog 34 #[.agg #[.string x.f0, .string x.f1, .int .i64 x.f2], .agg #[.string y.f0, .string y.f1, .int .i64 y.f2]] w fun e w' => e = .returned (.int .i64 (memory_find.cmp x y)) ∧ Below w.heap.size w w' :=
 memory_compare.calls 3 _ _ _ _ _ _ _ w (memory_find.cmp_f x y 0)
theorem memory_find.clo (x y : S63) (gb : Nat) (w : World) (hb : w.heap[gb]? = some (.cells #[.string y.f0, .string y.f1, .int .i64 y.f2] 63 (0, 0))) :
  Calls Try.prog 37 #[.agg #[.string x.f0, .string x.f1, .int .i64 x.f2], .pointer (some ⟨gb, 0, none⟩)] w fun e w' => e = .returned (.bool (memory_find.cmp x y == 0)) ∧ Below w.heap.size w w' := by
 have hu32 := Try.underlying63
 have HG := za hb
 clear hb
 go_enter Try.func37, Try.ntmps37
 go_wp2_with (first | ((with_reducible refine gate_dst (N := 2) rfl ?_); refine box_event ?hg (N := 2) ?hd (cs := #[.string x.f0, .string x.f1, .int .i64 x.f2]) (t := 63) ?hr ?_; (case hd => rfl); (case hg => rfl); (case hr => exact zq39); intro g2 hg w2 hbox hb; have BK := za hbox; have HB := za hb; have HG2 := za (blk_below HG.out hb); clear hbox hb hg; have c0 := (blk_cell BK.out 0).trans rfl; have c1 := (blk_cell BK.out 1).trans rfl; have c2 := (blk_cell BK.out 2).trans rfl; have d0 := (blk_cell HG2.out 0).trans rfl; have d1 := (blk_cell HG2.out 1).trans rfl; have d2 := (blk_cell HG2.out 2).trans rfl) | (go_at_call 34; refine (memory_find.cmp_calls x y _).mono ?_; rintro e w3 ⟨rfl, hb3⟩; have HB3 := za (below_step HB.out hb3); clear hb3 c0 c1 c2 d0 d1 d2))
 go_ret
 exact ⟨rfl, HB3.out⟩
def memory_find.idx (y : S63) : List S63 → Int → Int
 | [], _ => -1
 | c :: t, j => if memory_find.cmp c y = 0 then j else memory_find.idx y t (j + 1)
theorem memory_find.idx_at (y : S63) (l : List S63) (x : Int) (h0 : 0 ≤ x) (h1 : x < (l.length : Int)) (j : Int) : memory_find.idx y (l.drop x.toNat) j = if memory_find.cmp (rd_T63 l x) y = 0 then j else memory_find.idx y (l.drop (x + 1).toNat) (j + 1) := by
 have h : x.toNat < l.length := by omega
 rw [List.drop_eq_getElem_cons h, show (x + 1).toNat = x.toNat + 1 by omega]
 simp [memory_find.idx, rd_T63, List.getD_eq_getElem?_getD, h]
theorem memory_find.index (A0 : Option Addr) (c0 : Nat) (l0 : List S63) (y : S63) (gb : Nat) (w : World) (hr : Kd.C k63 w A0 l0.length l0) (hc : l0.length ≤ c0) (hl : l0.length ≤ 140737488355328) (hb : w.heap[gb]? = some (.cells #[.string y.f0, .string y.f1, .int .i64 y.f2] 63 (0, 0))) :
  Calls Try.prog 36 #[.slice A0 l0.length c0, .func (.func 37) #[] #[.pointer (some ⟨gb, 0, none⟩)]] w fun e w' => e = .returned (.int .i64 (memory_find.idx y l0 0)) ∧ Below w.heap.size w w' := by
 have hu32 := Try.underlying63
 have HG := za hb
 have HR := za hr
 have HC := za hc
 clear hb hr hc
 go_enter Try.func36, Try.ntmps36
 go_wp2
 go_loopw [8] (fun i wr => ∃ x : Int, i = .int .i64 x ∧ 0 ≤ x ∧ x ≤ (l0.length : Int) ∧ Aside0 (memory_find.idx y l0 0 = memory_find.idx y (l0.drop x.toNat) x) ∧ Aside0 (Below w.heap.size w wr)) (fun i _ => l0.length - (intOf i).toNat)
 case atStart => exact ⟨0, rfl, by omega, by omega, ⟨by simp⟩, ⟨Below.refl _ _⟩⟩
 case round =>
  obtain ⟨x, rfl, h0, h1, HI, HB⟩ := hrel
  by_cases hlt : x < (l0.length : Int)
  ·
   have p0 := eq_true h0
   have p1 := eq_true hlt
   obtain ⟨ad, ea, hx0, hx1, hx2⟩ := at_T63 HR.out x h0 hlt
   cases ea
   replace hx0 := (HB.out.cell (World.block_lt_of_cell? w _ hx0)).trans hx0
   replace hx1 := (HB.out.cell (World.block_lt_of_cell? w _ hx1)).trans hx1
   replace hx2 := (HB.out.cell (World.block_lt_of_cell? w _ hx2)).trans hx2
   have HGr := za ((HB.out.block gb (blk_lt HG.out)).trans HG.out)
   have HS := za (memory_find.idx_at y l0 x h0 hlt x)
   by_cases hq : memory_find.cmp (rd_T63 l0 x) y = 0
   ·
    have hqb : (memory_find.cmp (rd_T63 l0 x) y == 0) = true := beq_iff_eq.mpr hq
    have HQ := za hq
    clear hq
    go_wp2_with (go_at_call 37; refine (memory_find.clo (rd_T63 l0 x) y gb _ HGr.out).mono ?_; rintro e w3 ⟨rfl, hb3⟩; have HB3 := za (below_step HB.out hb3); clear hb3 hx0 hx1 hx2)
    go_ret
    exact ⟨by rw [HI.out, HS.out, if_pos HQ.out]; rfl, HB3.out⟩
   ·
    have hqb : (memory_find.cmp (rd_T63 l0 x) y == 0) = false := beq_eq_false_iff_ne.mpr hq
    have HQ := za hq
    clear hq
    go_wp2_with (go_at_call 37; refine (memory_find.clo (rd_T63 l0 x) y gb _ HGr.out).mono ?_; rintro e w3 ⟨rfl, hb3⟩; have HB3 := za (below_step HB.out hb3); clear hb3 hx0 hx1 hx2)
    go_roundw
    case rel => exact ⟨x + 1, by go_num, by omega, by omega, ⟨by rw [HI.out, HS.out, if_neg HQ.out]⟩, HB3⟩
    case measure => simp [intOf]; omega
  ·
   go_wp2
   go_ret
   exact ⟨by rw [HI.out, List.drop_eq_nil_of_le (by omega)]; rfl, HB.out⟩
def memory_find.f (k : Nat) (l0 : List S63) (a1 a2 : ByteArray) : Option Int := if l0.length ≤ 140737488355328 then ((api_Cell_33.f k l0).bind fun t => (if t = true then ((api_Cell_35.f k l0 a1 a2 0).bind fun b => (if b.2 = true then (some b.1) else (some (-1)))) else (some (memory_find.idx ⟨a1, a2, 0⟩ l0 0)))) else none
theorem memory_find.mono : ∀ a0 a1 a2 k, LeO (memory_find.f k a0 a1 a2) (memory_find.f (k + 1) a0 a1 a2) := by
 intro a0 a1 a2 k
 unfold memory_find.f
 repeat' with_reducible first | apply api_Cell_33.mono | apply api_Cell_35.mono | exact LeO.refl _ | refine LeO.ite ?_ ?_ | refine LeO.bind ?_ (fun _ => ?_)
theorem memory_find.calls (k : Nat) (A0 : Option Addr) (c0 : Nat) (l0 : List S63) (a1 a2 : ByteArray) (r : Int) (w : World) (hr0 : Kd.C k63 w A0 l0.length l0) (hc0 : l0.length ≤ c0) (h : memory_find.f k l0 a1 a2 = some r) :
  Calls Try.prog 29 #[.slice A0 l0.length c0, .string a1, .string a2] w fun e w' => e = .returned (.int .i64 r) ∧ Below w.heap.size w w' := by
 unfold memory_find.f at h
 by_cases hl : l0.length ≤ 140737488355328
 ·
  rw [if_pos hl] at h
  have hu32 := Try.underlying63
  have HR := za hr0
  have HC := za hc0
  have HL := za hl
  clear hr0 hc0 hl
  obtain ⟨t, h1, h⟩ := Option.bind_eq_some_iff.mp h
  have H1 := za h1
  clear h1
  go_enter Try.func29, Try.ntmps29
  go_wp2_with (first | ((with_reducible refine gate_dst (N := 7) rfl ?_); refine box_event ?hg (N := 7) ?hd (cs := #[.string (⟨#[]⟩ : ByteArray), .string (⟨#[]⟩ : ByteArray), .int .i64 0]) (t := 63) ?hr ?_; (case hd => rfl); (case hg => rfl); (case hr => exact zq39); intro g2 hg w2 hbox hb; have BK := za hbox; have HB := za hb; have GW := za (Nat.le_of_eq hg.symm); clear hbox hb hg; have q0 := (blk_cell BK.out 0).trans rfl; have q1 := (blk_cell BK.out 1).trans rfl; have q2 := (blk_cell BK.out 2).trans rfl; have f0 := blk_frozen BK.out 0; have f1 := blk_frozen BK.out 1; have f2 := blk_frozen BK.out 2))
  clear q0 q1 q2 f0 f1 f2
  have HB3 := za (below_set (g := g2) (j := 2) (v := .int .i64 0) (below_set (g := g2) (j := 1) (v := .string a2) (below_set (g := g2) (j := 0) (v := .string a1) HB.out GW.out) GW.out) GW.out)
  have BK3 := za (blk_put (cs' := #[.string a1, .string a2, .int .i64 0]) (blk_put (cs' := #[.string a1, .string a2, .int .i64 0]) (blk_put (cs' := #[.string a1, .string (⟨#[]⟩ : ByteArray), .int .i64 0]) BK.out 0 (.string a1) rfl) 1 (.string a2) rfl) 2 (.int .i64 0) rfl)
  refine (api_Cell_33.calls k A0 c0 l0 t _ (Kd.C_below HR.out HB3.out) HC.out H1.out).mono ?_
  rintro e w4 ⟨rfl, hb4⟩
  have HB4 := za (below_step HB3.out hb4)
  have BK4 := za (blk_below BK3.out hb4)
  clear hb4 BK3 HB3 HB BK
  have q0 := (blk_cell BK4.out 0).trans rfl
  have q1 := (blk_cell BK4.out 1).trans rfl
  have q2 := (blk_cell BK4.out 2).trans rfl
  cases t with
  | true =>
   rw [if_pos rfl] at h
   obtain ⟨b, h2, h⟩ := Option.bind_eq_some_iff.mp h
   obtain ⟨b1, b2⟩ := b
   have H2 := za h2
   clear h2
   cases b2 with
   | true =>
    rw [if_pos rfl] at h
    obtain rfl := Option.some.inj h
    go_wp2_with (go_at_call 35; refine (api_Cell_35.calls k A0 c0 l0 a1 a2 0 b1 true _ (Kd.C_below HR.out HB4.out) HC.out H2.out).mono ?_; rintro e w5 ⟨rfl, hb5⟩; have HB5 := za (below_step HB4.out hb5); clear hb5 q0 q1 q2)
    go_ret
    exact ⟨rfl, HB5.out⟩
   | false =>
    rw [if_neg Bool.false_ne_true] at h
    obtain rfl := Option.some.inj h
    go_wp2_with (go_at_call 35; refine (api_Cell_35.calls k A0 c0 l0 a1 a2 0 b1 false _ (Kd.C_below HR.out HB4.out) HC.out H2.out).mono ?_; rintro e w5 ⟨rfl, hb5⟩; have HB5 := za (below_step HB4.out hb5); clear hb5 q0 q1 q2)
    go_ret
    exact ⟨rfl, HB5.out⟩
  | false =>
   rw [if_neg Bool.false_ne_true] at h
   obtain rfl := Option.some.inj h
   go_wp2_with (go_at_call 36; refine (memory_find.index A0 c0 l0 ⟨a1, a2, 0⟩ g2 _ (Kd.C_below HR.out HB4.out) HC.out HL.out BK4.out).mono ?_; rintro e w5 ⟨rfl, hb5⟩; have HB5 := za (below_step HB4.out hb5); clear hb5 q0 q1 q2)
   go_ret
   exact ⟨rfl, HB5.out⟩
 ·
  rw [if_neg hl] at h; cases h
def memory_Get.f (k : Nat) (l0 : List (S63)) (a1 : ByteArray) (a2 : ByteArray) : Option (Int × Bool) := (memory_find.f k l0 a1 a2).bind fun t1001 => (if t1001 < 0 then (some (0, false)) else (if 0 ≤ t1001 then (if t1001 < (l0.length : Int) then (some ((rd_T63 l0 t1001).f2, true)) else (none)) else (none)))
theorem memory_Get.mono : ∀ a0 a1 a2 k, LeO (memory_Get.f k a0 a1 a2) (memory_Get.f (k + 1) a0 a1 a2) := by
 intro a0 a1 a2 k
 unfold memory_Get.f
 repeat' with_reducible first | apply memory_find.mono | exact LeO.refl _ | exact LeO.none _ | refine LeO.ite ?_ ?_ | refine LeO.bind ?_ (fun _ => ?_)
theorem memory_Get.calls (k : Nat) (A0 : Option Addr) (c0 : Nat) (l0 : List (S63)) (a1 : ByteArray) (a2 : ByteArray) (r1 : Int) (r2 : Bool) (w : World) (hr0 : Kd.C k63 w A0 l0.length l0) (hc0 : l0.length ≤ c0) (h : memory_Get.f k l0 a1 a2 = some (r1, r2)) :
  Calls Try.prog 16 #[.slice A0 l0.length c0, .string a1, .string a2] w fun e w' => e = .returned (.tuple #[.int .i64 r1, .bool r2]) ∧ Below w.heap.size w w' := by
 have HR0 := za hr0
 have HC0 := za hc0
 clear hr0 hc0
 have HB := za (Below.refl w.heap.size w)
 have H : ((memory_find.f k l0 a1 a2).bind fun t1001 => (if t1001 < 0 then (some (0, false)) else (if 0 ≤ t1001 then (if t1001 < (l0.length : Int) then (some ((rd_T63 l0 t1001).f2, true)) else (none)) else (none)))) = some (r1, r2) := h
 clear h
 replace H := Option.bind_eq_some_iff.mp H
 obtain ⟨t1001, A40, H⟩ := H
 (try dsimp only at H)
 have A4 := za A40
 clear A40
 by_cases c5 : t1001 < 0
 ·
  rw [if_pos c5] at H
  have c5b0 := decide_eq_true c5
  clear c5
  simp only [Option.some.injEq, Prod.mk.injEq] at H
  obtain ⟨rfl, rfl⟩ := H
  go_enter Try.func16, Try.ntmps16
  go_wp2_with (first | ((with_reducible refine gate_callee (f := 29) rfl ?_); refine goesL_ (some 12) rfl rfl Try.func29 zq18 rfl #[.slice A0 l0.length c0, .string a1, .string a2] rfl zq1 ?_; (with_reducible refine (memory_find.calls k _ _ l0 a1 a2 t1001 _ ?side1 ?side2 A4.out).mono ?_); (case side1 => exact zq96); (case side2 => exact HC0.out); rintro e w6 ⟨rfl, hb⟩; refine ⟨_, rfl, ?_⟩; replace HB := za (below_step zq4 hb)))
  go_ret2
  exact ⟨zq16, zq4⟩
 ·
  rw [if_neg c5] at H
  have c5b0 := decide_eq_false c5
  clear c5
  by_cases c7 : 0 ≤ t1001
  ·
   rw [if_pos c7] at H
   have c7b0 := decide_eq_true c7
   clear c7
   by_cases c8 : t1001 < (l0.length : Int)
   ·
    rw [if_pos c8] at H
    have c8b0 := decide_eq_true c8
    clear c8
    simp only [Option.some.injEq, Prod.mk.injEq] at H
    obtain ⟨rfl, rfl⟩ := H
    go_enter Try.func16, Try.ntmps16
    go_wp2_with (first | ((with_reducible refine gate_callee (f := 29) rfl ?_); refine goesL_ (some 12) rfl rfl Try.func29 zq18 rfl #[.slice A0 l0.length c0, .string a1, .string a2] rfl zq1 ?_; (with_reducible refine (memory_find.calls k _ _ l0 a1 a2 t1001 _ ?side1 ?side2 A4.out).mono ?_); (case side1 => exact zq96); (case side2 => exact HC0.out); rintro e w9 ⟨rfl, hb⟩; refine ⟨_, rfl, ?_⟩; replace HB := za (below_step zq4 hb); (try clear hb); have p1002 : 0 ≤ (t1001 : Int) := of_decide_eq_true zq11; have q1002 : t1001 < (l0.length : Int) := of_decide_eq_true zq11; obtain ⟨ad1002, e1002, hx1002_0, hx1002_1, hx1002_2⟩ := at_T63 HR0.out t1001 p1002 q1002; cases e1002; replace hx1002_0 := (HB.out.cell (World.block_lt_of_cell? w _ hx1002_0)).trans hx1002_0; replace hx1002_1 := (HB.out.cell (World.block_lt_of_cell? w _ hx1002_1)).trans hx1002_1; replace hx1002_2 := (HB.out.cell (World.block_lt_of_cell? w _ hx1002_2)).trans hx1002_2; replace p1002 := eq_true p1002; replace q1002 := eq_true q1002))
    go_ret2
    exact ⟨zq16, zq4⟩
   ·
    rw [if_neg c8] at H
    exact absurd H (by simp)
  ·
   rw [if_neg c7] at H
   exact absurd H (by simp)
end Go.Proofs.Ytcmpmlklednhbaa.QEvalJoins
