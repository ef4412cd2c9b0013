import Derived.Test.YtcmpmlklednhbaaZEJx0
namespace Go.Proofs.Ytcmpmlklednhbaa.QEvalJoins
open Go.RowKit Go.Proofs.YtcmpmlklednhbaaW.PrintWords Go.Proofs.YtcmpmlklednhbaaW.PrintLast Go.Proofs.YtcmpmlklednhbaaW.PrintMore
set_option maxHeartbeats 8000000
set_option maxRecDepth 100000
attribute [local go_sem] max2_int min2_int max_two min_two max_three min_three max_four min_four
set_option linter.unusedVariables false
set_option linter.unusedSimpArgs false
def IsS57 (w0 W : World) (g : Nat) (f0 : List (S69)) (f1 : Int) (f2 : Int) (f3 : Int) (f4 : Int) : Prop := ∃ A0 c0, W.heap[g]? = some (.cells #[.slice A0 f0.length c0, .int .i64 f1, .int .i64 f2, .int .i64 f3, .int .i64 f4] 57 (0, 0)) ∧ w0.heap.size ≤ g ∧ Kd.C k69 w0 A0 f0.length f0
theorem IsS57.grown {w0 W : World} {g : Nat} {f0 : List (S69)} {f1 : Int} {f2 : Int} {f3 : Int} {f4 : Int} {W1 : World} {row : Option Nat} (h : IsS57 w0 W g f0 f1 f2 f3 f4) (hw : W.grownBy W1 row) (hne : some g ≠ row) : IsS57 w0 W1 g f0 f1 f2 f3 f4 := by
 obtain ⟨A0, c0, hb, hg, hr0⟩ := h
 exact ⟨A0, c0, blk_grown hb hw hne, hg, hr0⟩
theorem IsS57.kept {w0 W : World} {g : Nat} {f0 : List (S69)} {f1 : Int} {f2 : Int} {f3 : Int} {f4 : Int} {W1 : World} {S : Nat → Prop} (h : IsS57 w0 W g f0 f1 f2 f3 f4) (hk : Kept W W1 S) (hne : ¬ S g) : IsS57 w0 W1 g f0 f1 f2 f3 f4 := by
 obtain ⟨A0, c0, hb, hg, hr0⟩ := h
 exact ⟨A0, c0, blk_kept hb hk hne, hg, hr0⟩
theorem IsS57.below {w0 W : World} {g : Nat} {f0 : List (S69)} {f1 : Int} {f2 : Int} {f3 : Int} {f4 : Int} {W1 : World} (h : IsS57 w0 W g f0 f1 f2 f3 f4) (hw : Below W.heap.size W W1) : IsS57 w0 W1 g f0 f1 f2 f3 f4 := h.grown (grown_of_below hw none) (by simp)
theorem IsS57.alloc {w0 W : World} {g : Nat} {f0 : List (S69)} {f1 : Int} {f2 : Int} {f3 : Int} {f4 : Int} (h : IsS57 w0 W g f0 f1 f2 f3 f4) (o : Obj) : IsS57 w0 (W.alloc o) g f0 f1 f2 f3 f4 := h.below (below_alloc (Below.refl _ _) o)
theorem IsS57.drewN {w0 W : World} {g : Nat} {f0 : List (S69)} {f1 : Int} {f2 : Int} {f3 : Int} {f4 : Int} (h : IsS57 w0 W g f0 f1 f2 f3 f4) (m : Nat) : IsS57 w0 (W.drewN m) g f0 f1 f2 f3 f4 := h
theorem IsS57.drew {w0 W : World} {g : Nat} {f0 : List (S69)} {f1 : Int} {f2 : Int} {f3 : Int} {f4 : Int} (h : IsS57 w0 W g f0 f1 f2 f3 f4) : IsS57 w0 W.drew g f0 f1 f2 f3 f4 := h
theorem IsS57.at_ {w0 W : World} {g : Nat} {f0 : List (S69)} {f1 : Int} {f2 : Int} {f3 : Int} {f4 : Int} {w' : World} {m : Nat} (hq : W.drewN m = w') (h : IsS57 w0 W g f0 f1 f2 f3 f4) : IsS57 w0 w' g f0 f1 f2 f3 f4 := by subst hq; exact IsS57.drewN h m
theorem IsS57.apart {w0 W : World} {g : Nat} {f0 : List (S69)} {f1 : Int} {f2 : Int} {f3 : Int} {f4 : Int} {α : Type} {d : Kd α} {e : Nat} {base : Nat} {ok : Nat → Prop} {v : Value} {xs : List α} (h : IsS57 w0 W g f0 f1 f2 f3 f4) (ho : d.R e W base ok v xs) (ht : ∀ q, q ∈ e :: d.E → q ≠ 57) : d.R e W base (fun k => ok k ∧ k ≠ g) v xs := by
 obtain ⟨A0, c0, hb, hg, hr0⟩ := h
 exact Kd.R_types ho hb ht
theorem IsS57.own_ne {w0 W : World} {g : Nat} {f0 : List (S69)} {f1 : Int} {f2 : Int} {f3 : Int} {f4 : Int} {α : Type} {d : Kd α} {e : Nat} {base : Nat} {ok : Nat → Prop} {v : Value} {xs : List α} (h : IsS57 w0 W g f0 f1 f2 f3 f4) (ho : d.R e W base ok v xs) (ht : e ≠ 57) : some g ≠ v.ownBlock := by
 obtain ⟨A0, c0, hb, hg, hr0⟩ := h
 exact Kd.R_ne ho hb ht
theorem IsS57.apartS {w0 W : World} {g : Nat} {f0 : List (S69)} {f1 : Int} {f2 : Int} {f3 : Int} {f4 : Int} {α : Type} {d : Kd α} {e : Nat} {base : Nat} {ok : Nat → Prop} {v : Value} {xs : List α} (h : IsS57 w0 W g f0 f1 f2 f3 f4) (ho : d.S e W base ok v xs) (ht : ∀ q, q ∈ e :: d.E → q ≠ 57) : d.S e W base (fun k => ok k ∧ k ≠ g) v xs := by
 obtain ⟨A0, c0, hb, hg, hr0⟩ := h
 exact Kd.S_types ho hb ht
theorem IsS57.own_neS {w0 W : World} {g : Nat} {f0 : List (S69)} {f1 : Int} {f2 : Int} {f3 : Int} {f4 : Int} {α : Type} {d : Kd α} {e : Nat} {base : Nat} {ok : Nat → Prop} {v : Value} {xs : List α} (h : IsS57 w0 W g f0 f1 f2 f3 f4) (ho : d.S e W base ok v xs) (ht : e ≠ 57) : some g ≠ v.ownBlock := by
 obtain ⟨A0, c0, hb, hg, hr0⟩ := h
 exact Kd.S_ne ho hb ht
theorem IsS57.lt {w0 W : World} {g : Nat} {f0 : List (S69)} {f1 : Int} {f2 : Int} {f3 : Int} {f4 : Int} (h : IsS57 w0 W g f0 f1 f2 f3 f4) : g < W.heap.size := by
 obtain ⟨A0, c0, hb, hg, hr0⟩ := h
 exact blk_lt hb
theorem IsS57.ge {w0 W : World} {g : Nat} {f0 : List (S69)} {f1 : Int} {f2 : Int} {f3 : Int} {f4 : Int} (h : IsS57 w0 W g f0 f1 f2 f3 f4) : w0.heap.size ≤ g := by
 obtain ⟨A0, c0, hb, hg, hr0⟩ := h
 exact hg
theorem IsS57.far {w0 W : World} {g : Nat} {f0 : List (S69)} {f1 : Int} {f2 : Int} {f3 : Int} {f4 : Int} {p : Addr} (h : IsS57 w0 W g f0 f1 f2 f3 f4) (hne : g ≠ p.block) (u : Value) : IsS57 w0 (W.setCell p u) g f0 f1 f2 f3 f4 := by
 obtain ⟨A0, c0, hb, hg, hr0⟩ := h
 exact ⟨A0, c0, blk_far hb hne u, hg, hr0⟩
theorem cellS57_0 {W : World} {g : Nat} {A0 : Option Addr} {c0 : Nat} {f0 : List (S69)} {f1 : Int} {f2 : Int} {f3 : Int} {f4 : Int} (h : W.heap[g]? = some (.cells #[.slice A0 f0.length c0, .int .i64 f1, .int .i64 f2, .int .i64 f3, .int .i64 f4] 57 (0, 0))) : W.cell? ⟨g, 0, none⟩ = some (.slice A0 f0.length c0) := (blk_cell h 0).trans rfl
theorem cellS57_1 {W : World} {g : Nat} {A0 : Option Addr} {c0 : Nat} {f0 : List (S69)} {f1 : Int} {f2 : Int} {f3 : Int} {f4 : Int} (h : W.heap[g]? = some (.cells #[.slice A0 f0.length c0, .int .i64 f1, .int .i64 f2, .int .i64 f3, .int .i64 f4] 57 (0, 0))) : W.cell? ⟨g, 1, none⟩ = some (.int .i64 f1) := (blk_cell h 1).trans rfl
theorem IsS57.set_1 {w0 W : World} {g : Nat} {f0 : List (S69)} {f1 : Int} {f2 : Int} {f3 : Int} {f4 : Int} (h : IsS57 w0 W g f0 f1 f2 f3 f4) (x : Int) : IsS57 w0 (W.setCell ⟨g, 1, none⟩ (.int .i64 x)) g f0 x f2 f3 f4 := by
 obtain ⟨A0, c0, hb, hg, hr0⟩ := h
 exact ⟨A0, c0, by simpa using blk_set hb 1 (.int .i64 x), hg, hr0⟩
theorem cellS57_2 {W : World} {g : Nat} {A0 : Option Addr} {c0 : Nat} {f0 : List (S69)} {f1 : Int} {f2 : Int} {f3 : Int} {f4 : Int} (h : W.heap[g]? = some (.cells #[.slice A0 f0.length c0, .int .i64 f1, .int .i64 f2, .int .i64 f3, .int .i64 f4] 57 (0, 0))) : W.cell? ⟨g, 2, none⟩ = some (.int .i64 f2) := (blk_cell h 2).trans rfl
theorem IsS57.set_2 {w0 W : World} {g : Nat} {f0 : List (S69)} {f1 : Int} {f2 : Int} {f3 : Int} {f4 : Int} (h : IsS57 w0 W g f0 f1 f2 f3 f4) (x : Int) : IsS57 w0 (W.setCell ⟨g, 2, none⟩ (.int .i64 x)) g f0 f1 x f3 f4 := by
 obtain ⟨A0, c0, hb, hg, hr0⟩ := h
 exact ⟨A0, c0, by simpa using blk_set hb 2 (.int .i64 x), hg, hr0⟩
theorem cellS57_3 {W : World} {g : Nat} {A0 : Option Addr} {c0 : Nat} {f0 : List (S69)} {f1 : Int} {f2 : Int} {f3 : Int} {f4 : Int} (h : W.heap[g]? = some (.cells #[.slice A0 f0.length c0, .int .i64 f1, .int .i64 f2, .int .i64 f3, .int .i64 f4] 57 (0, 0))) : W.cell? ⟨g, 3, none⟩ = some (.int .i64 f3) := (blk_cell h 3).trans rfl
theorem IsS57.set_3 {w0 W : World} {g : Nat} {f0 : List (S69)} {f1 : Int} {f2 : Int} {f3 : Int} {f4 : Int} (h : IsS57 w0 W g f0 f1 f2 f3 f4) (x : Int) : IsS57 w0 (W.setCell ⟨g, 3, none⟩ (.int .i64 x)) g f0 f1 f2 x f4 := by
 obtain ⟨A0, c0, hb, hg, hr0⟩ := h
 exact ⟨A0, c0, by simpa using blk_set hb 3 (.int .i64 x), hg, hr0⟩
theorem cellS57_4 {W : World} {g : Nat} {A0 : Option Addr} {c0 : Nat} {f0 : List (S69)} {f1 : Int} {f2 : Int} {f3 : Int} {f4 : Int} (h : W.heap[g]? = some (.cells #[.slice A0 f0.length c0, .int .i64 f1, .int .i64 f2, .int .i64 f3, .int .i64 f4] 57 (0, 0))) : W.cell? ⟨g, 4, none⟩ = some (.int .i64 f4) := (blk_cell h 4).trans rfl
theorem IsS57.set_4 {w0 W : World} {g : Nat} {f0 : List (S69)} {f1 : Int} {f2 : Int} {f3 : Int} {f4 : Int} (h : IsS57 w0 W g f0 f1 f2 f3 f4) (x : Int) : IsS57 w0 (W.setCell ⟨g, 4, none⟩ (.int .i64 x)) g f0 f1 f2 f3 x := by
 obtain ⟨A0, c0, hb, hg, hr0⟩ := h
 exact ⟨A0, c0, by simpa using blk_set hb 4 (.int .i64 x), hg, hr0⟩
theorem IsS57.new (w0 W : World) (A0 : Option Addr) (c0 : Nat) (f0 : List (S69)) (f1 : Int) (f2 : Int) (f3 : Int) (f4 : Int) (hB : Below w0.heap.size w0 W) (hr0 : Kd.C k69 w0 A0 f0.length f0) : IsS57 w0 (W.alloc (.cells #[.slice A0 f0.length c0, .int .i64 f1, .int .i64 f2, .int .i64 f3, .int .i64 f4] 57)) W.heap.size f0 f1 f2 f3 f4 := ⟨A0, c0, by simpa using heap_alloc_new W _, hB.size, hr0⟩
def rr_is.f (s0_0 : List (S69)) (s0_1 : Int) (s0_2 : Int) (s0_3 : Int) (s0_4 : Int) (a1 : ByteArray) : Option (Bool × Int × Int × Int × Int) := if 0 ≤ s0_1 then (if s0_1 < (s0_0.length : Int) then (if s0_3 = 0 then (if ((rd_T69 s0_0 s0_1).f0) = 4 then (some ((((rd_T69 s0_0 s0_1).f1).toList == a1.toList), s0_1, s0_2, s0_3, s0_4)) else (if ((rd_T69 s0_0 s0_1).f0) = 3 then (some ((((rd_T69 s0_0 s0_1).f1).toList == a1.toList), s0_1, s0_2, s0_3, s0_4)) else (some (false, s0_1, s0_2, s0_3, s0_4)))) else (some (false, s0_1, s0_2, s0_3, s0_4))) else (none)) else (none)
def rr_is.T1 : Bool × List (List Nat × List Nat) := (true, [([], []), ([0], [0]), ([1], [1]), ([2], [2]), ([], []), ([4], [4]), ([5], [5]), ([6], [6]), ([3, 7], [3, 7]), ([8], [8]), ([], []), ([10, 9, 0, 1, 2, 3, 4, 5, 6, 7, 8, 9, 10], [9, 10])])
def rr_is.B1 : List Nat := [0, 1, 3, 7, 0, 16, 48, 112, 255, 511, 0, 2047]
theorem rr_is.tab1 : rtab .any (opsOf Try.f30 1) = rr_is.T1 := by kernel_rfl
theorem rr_is.bits1 : waitsOk rr_is.T1.2 rr_is.B1 = true := by kernel_rfl
theorem rr_is.calls (g : Nat) (s0_0 : List (S69)) (s0_1 : Int) (s0_2 : Int) (s0_3 : Int) (s0_4 : Int) (a1 : ByteArray) (r1 : Bool) (r2 : Int) (r3 : Int) (r4 : Int) (r5 : Int) (w0 w : World) (hI : IsS57 w0 w g s0_0 s0_1 s0_2 s0_3 s0_4) (hB : Below w0.heap.size w0 w) (h : rr_is.f s0_0 s0_1 s0_2 s0_3 s0_4 a1 = some (r1, r2, r3, r4, r5)) :
  Calls Try.prog 30 #[.pointer (some ⟨g, 0, none⟩), .string a1] w fun e w' => e = .returned (.bool r1) ∧ IsS57 w0 w' g s0_0 r2 r3 r4 r5 ∧ Below w0.heap.size w0 w' ∧ KeepBut w w' g none := by
 have hu69 := Try.underlying69
 have HI0 := za hI
 have HK := za (KeepBut.refl w g none)
 have HL := za hB.size
 clear hI
 have HW0 := za hB.size
 have HB := za hB
 clear hB
 have H : (if 0 ≤ s0_1 then (if s0_1 < (s0_0.length : Int) then (if s0_3 = 0 then (if ((rd_T69 s0_0 s0_1).f0) = 4 then (some ((((rd_T69 s0_0 s0_1).f1).toList == a1.toList), s0_1, s0_2, s0_3, s0_4)) else (if ((rd_T69 s0_0 s0_1).f0) = 3 then (some ((((rd_T69 s0_0 s0_1).f1).toList == a1.toList), s0_1, s0_2, s0_3, s0_4)) else (some (false, s0_1, s0_2, s0_3, s0_4)))) else (some (false, s0_1, s0_2, s0_3, s0_4))) else (none)) else (none)) = some (r1, r2, r3, r4, r5) := h
 clear h
 by_cases c3 : 0 ≤ s0_1
 ·
  rw [if_pos c3] at H
  have c3b0 := decide_eq_true c3
  clear c3
  by_cases c4 : s0_1 < (s0_0.length : Int)
  ·
   rw [if_pos c4] at H
   have c4b0 := decide_eq_true c4
   clear c4
   by_cases c5 : s0_3 = 0
   ·
    rw [if_pos c5] at H
    have c5b0 := beq_iff_eq.mpr c5
    have c5b1 := bne_eq_false_iff_eq.mpr c5
    clear c5
    by_cases c6 : ((rd_T69 s0_0 s0_1).f0) = 4
    ·
     rw [if_pos c6] at H
     have c6b0 := beq_iff_eq.mpr c6
     have c6b1 := bne_eq_false_iff_eq.mpr c6
     clear c6
     simp only [Option.some.injEq, Prod.mk.injEq] at H
     obtain ⟨rfl, rfl, rfl, rfl, rfl⟩ := H
     go_enter Try.func30, Try.ntmps30
     try go_wp2
     replace HI0 := za (IsS57.drew HI0.out)
     replace HK := za (keep_drew HK.out)
     replace HB := za (below_drew1 HB.out)
     obtain ⟨ASz8_0, cSz8_0, HGz8, hgz8, HSz8_0⟩ := HI0.out
     have hx8_0 := cellS57_0 HGz8
     have hx8_1 := cellS57_1 HGz8
     have hx8_2 := cellS57_2 HGz8
     have hx8_3 := cellS57_3 HGz8
     have hx8_4 := cellS57_4 HGz8
     clear HGz8 hgz8
     have p134 : 0 ≤ (s0_1 : Int) := of_decide_eq_true zq11
     have q134 : s0_1 < (s0_0.length : Int) := of_decide_eq_true zq11
     obtain ⟨ad134, e134, hx134_0, hx134_1, hx134_2⟩ := at_T69 HSz8_0 s0_1 p134 q134
     have hw134_2 := hx134_2
     have hw134_1 := hx134_1
     have hw134_0 := hx134_0
     cases e134
     replace hx134_0 := pw_cell_below HB.out hx134_0
     replace hx134_1 := pw_cell_below HB.out hx134_1
     replace hx134_2 := pw_cell_below HB.out hx134_2
     replace p134 := eq_true p134
     replace q134 := eq_true q134
     refine start_ (n := 12) (S := fun w' => w'.cell? ⟨g, 0, none⟩ = some (.slice (some ad134) s0_0.length cSz8_0) ∧ w'.cell? ⟨g, 1, none⟩ = some (.int .i64 s0_1) ∧ w'.cell? ⟨g, 2, none⟩ = some (.int .i64 s0_2) ∧ w'.cell? ⟨g, 3, none⟩ = some (.int .i64 s0_3) ∧ w'.cell? ⟨g, 4, none⟩ = some (.int .i64 s0_4) ∧ w'.cell? (ad134.add ((s0_1).toNat * 3)) = some (.int .i64 ((rd_T69 s0_0 s0_1).f0)) ∧ w'.cell? ⟨(ad134.add ((s0_1).toNat * 3)).block, (ad134.add ((s0_1).toNat * 3)).off + 1, none⟩ = some (.string ((rd_T69 s0_0 s0_1).f1)) ∧ w'.cell? ⟨(ad134.add ((s0_1).toNat * 3)).block, (ad134.add ((s0_1).toNat * 3)).off + 2, none⟩ = some (.int .i64 ((rd_T69 s0_0 s0_1).f2))) (ds := [11]) #[false, false, false, false, false, false, false, false, false, false, false, false] zq18 rfl rfl ⟨hx8_0, hx8_1, hx8_2, hx8_3, hx8_4, hx134_0, hx134_1, hx134_2⟩ (fun hHeld => ?_); refine with_tabW rr_is.tab1 rr_is.bits1 (fun HT_ HW_ => ?_)
     generalize w.drew = w7 at HI0 HK HB hx134_0 hx134_1 hx134_2 hx8_0 hx8_1 hx8_2 hx8_3 hx8_4 hHeld ⊢
     refine pure_ (i := 0) (N := some 6) #[true, false, false, false, false, false, false, false, false, false, false, false] rfl rfl (any_of HT_.out zq18) (fun _ _ _ h => h) (Or.inl ⟨by rfl, zpv⟩) zpw ?_
     refine pure_ (i := 1) (N := some 7) #[true, true, false, false, false, false, false, false, false, false, false, false] rfl rfl (any_of HT_.out zq18) (fun _ _ _ h => h) (Or.inl ⟨by rfl, zpv⟩) zpw ?_
     refine pure_ (i := 2) (N := some 8) #[true, true, true, false, false, false, false, false, false, false, false, false] rfl rfl (any_of HT_.out zq18) (fun _ _ _ h => h) (Or.inl ⟨by rfl, zpv⟩) zpw ?_
     refine pure_ (i := 4) (N := some 10) #[true, true, true, false, true, false, false, false, false, false, false, false] rfl rfl (any_of HT_.out zq18) (fun _ _ _ h => h) (Or.inl ⟨by rfl, zpv⟩) zpw ?_
     refine pure_ (i := 5) (N := some 11) #[true, true, true, false, true, true, false, false, false, false, false, false] rfl rfl (any_of HT_.out zq18) (fun _ _ _ h => h) (Or.inl ⟨by rfl, zpv⟩) zpw ?_
     refine pure_ (i := 6) (N := some 12) #[true, true, true, false, true, true, true, false, false, false, false, false] rfl rfl (any_of HT_.out zq18) (fun _ _ _ h => h) (Or.inl ⟨by rfl, zpv⟩) zpw ?_
     refine take_ (i := 3) (N := some 9) (v := ?_) (a' := ?_) #[true, true, true, true, true, true, true, false, false, false, false, false] rfl rfl (take_ofW HT_.out HW_.out zq18) (fun _ _ _ h => h) (Or.inl ⟨by rfl, ?_⟩) hHeld ?_ ?_
     rotate_left
     ·
      rintro w' ⟨s0, s1, s2, s3, s4, s5, s6, s7⟩
      go_simp
      with_reducible rfl
     rotate_left
     ·
      simp only [Act.put, List.setIfInBounds_toArray, List.set_cons_zero, List.set_cons_succ, i64_w, i32_w]
      rfl
     refine take_ (i := 7) (N := some 13) (v := ?_) (a' := ?_) #[true, true, true, true, true, true, true, true, false, false, false, false] rfl rfl (take_ofW HT_.out HW_.out zq18) (fun _ _ _ h => h) (Or.inl ⟨by rfl, ?_⟩) hHeld ?_ ?_
     rotate_left
     ·
      rintro w' ⟨s0, s1, s2, s3, s4, s5, s6, s7⟩
      go_simp
      with_reducible rfl
     rotate_left
     ·
      simp only [Act.put, List.setIfInBounds_toArray, List.set_cons_zero, List.set_cons_succ, i64_w, i32_w]
      rfl
     refine pure_ (i := 8) (N := some 14) #[true, true, true, true, true, true, true, true, true, false, false, false] rfl rfl (any_of HT_.out zq18) (fun _ _ _ h => h) (Or.inl ⟨by rfl, zpv⟩) zpw ?_
     refine take_ (i := 9) (N := some 15) (v := ?_) (a' := ?_) #[true, true, true, true, true, true, true, true, true, true, false, false] rfl rfl (take_ofW HT_.out HW_.out zq18) (fun _ _ _ h => h) (Or.inl ⟨by rfl, ?_⟩) hHeld ?_ ?_
     rotate_left
     ·
      rintro w' ⟨s0, s1, s2, s3, s4, s5, s6, s7⟩
      go_simp
      with_reducible rfl
     rotate_left
     ·
      simp only [Act.put, List.setIfInBounds_toArray, List.set_cons_zero, List.set_cons_succ, i64_w, i32_w]
      rfl
     refine one_ (i := 10) (N := some 5) #[true, true, true, true, true, true, true, true, true, true, true, false] rfl rfl (one_of HT_.out zq18) (by decide) (fun K hK => ?_)
     refine box_step ?hg (N := 5) ?hd (cs := #[.int .i64 0, .string (⟨#[]⟩ : ByteArray), .int .i64 0]) (t := 69) ?hr ?_; (case hd => rfl); (case hg => rfl); (case hr => exact zq39)
     intro gb135 hg w9 hbox hb
     have HS0_ := (hb.cell (World.block_lt_of_cell? _ _ (hHeld.1))).trans (hHeld.1)
     have HS1_ := (hb.cell (World.block_lt_of_cell? _ _ (hHeld.2.1))).trans (hHeld.2.1)
     have HS2_ := (hb.cell (World.block_lt_of_cell? _ _ (hHeld.2.2.1))).trans (hHeld.2.2.1)
     have HS3_ := (hb.cell (World.block_lt_of_cell? _ _ (hHeld.2.2.2.1))).trans (hHeld.2.2.2.1)
     have HS4_ := (hb.cell (World.block_lt_of_cell? _ _ (hHeld.2.2.2.2.1))).trans (hHeld.2.2.2.2.1)
     have HS5_ := (hb.cell (World.block_lt_of_cell? _ _ (hHeld.2.2.2.2.2.1))).trans (hHeld.2.2.2.2.2.1)
     have HS6_ := (hb.cell (World.block_lt_of_cell? _ _ (hHeld.2.2.2.2.2.2.1))).trans (hHeld.2.2.2.2.2.2.1)
     have HS7_ := (hb.cell (World.block_lt_of_cell? _ _ (hHeld.2.2.2.2.2.2.2))).trans (hHeld.2.2.2.2.2.2.2)
     replace HB := za (below_step zq3 hb)
     have BK135 := za (hbox)
     have GW135 := za ((by rw [hg]; exact (keep_size (w := w) (g := g) (row := none) zq7) : w.heap.size ≤ gb135))
     have GE135 := za ((Nat.le_trans HW0.out (by rw [hg]; exact (keep_size (w := w) (g := g) (row := none) zq7) : w.heap.size ≤ gb135) : w0.heap.size ≤ gb135))
     replace HK := za (KeepBut.trans zq7 (KeepBut.of_below hb g none) (.inl rfl))
     have NB0_135 := za ((by rw [hg]; exact Nat.ne_of_lt (IsS57.lt (show IsS57 w0 _ g s0_0 s0_1 s0_2 s0_3 s0_4 from zq0)) : g ≠ gb135))
     have NB135_0 := za ((by rw [hg]; exact Nat.ne_of_gt (IsS57.lt (show IsS57 w0 _ g s0_0 s0_1 s0_2 s0_3 s0_4 from zq0)) : gb135 ≠ g))
     replace HI0 := za (IsS57.below zq0 hb)
     clear hb hbox hg
     refine hK.out _ _ ⟨HS0_, HS1_, HS2_, HS3_, HS4_, HS5_, HS6_, HS7_⟩ (fun hHeld => ?_)
     clear hK K
     refine norm_ (a' := ?_) ?_ ?_
     rotate_left
     ·
      show Act.put _ (some 5) _ = _
      simp only [Act.put, List.setIfInBounds_toArray, List.set_cons_zero, List.set_cons_succ, i64_w, i32_w]
      rfl
     refine last_ (i := 11) (N := none) #[true, true, true, true, true, true, true, true, true, true, true, true] rfl rfl (one_of HT_.out zq18) (by decide) (fun K hK => ?_)
     have hs10 : w9.cell? ⟨gb135, 0, none⟩ = some (.int .i64 0) := (blk_cell BK135.out 0).trans rfl
     have hfs10 := blk_frozen BK135.out 0
     have hs11 : w9.cell? ⟨gb135, 1, none⟩ = some (.string (⟨#[]⟩ : ByteArray)) := (blk_cell BK135.out 1).trans rfl
     have hfs11 := blk_frozen BK135.out 1
     have hs12 : w9.cell? ⟨gb135, 2, none⟩ = some (.int .i64 0) := (blk_cell BK135.out 2).trans rfl
     have hfs12 := blk_frozen BK135.out 2
     refine skip_ (w1 := ?_) (by rfl) rfl ?_ ?_
     rotate_left
     ·
      go_simp
      rfl
     refine hK.out _ _ ?_
     clear hK K
     refine done_ (done_of HT_.out zq18) ?_
     obtain ⟨ASz13_0, cSz13_0, HGz13, hgz13, HSz13_0⟩ := HI0.out
     have hcz13_0 := cellS57_0 HGz13
     have hcz13_1 := cellS57_1 HGz13
     have hcz13_2 := cellS57_2 HGz13
     have hcz13_3 := cellS57_3 HGz13
     have hcz13_4 := cellS57_4 HGz13
     have hfz13_1 := blk_frozen HGz13 1
     have hfz13_2 := blk_frozen HGz13 2
     have hfz13_3 := blk_frozen HGz13 3
     have hfz13_4 := blk_frozen HGz13 4
     clear HGz13 hgz13
     have hnb14 := NB135_0.out
     have hnc14 := NB0_135.out
     obtain ⟨hcz15_0, hcz15_1, hcz15_2⟩ := zc3 BK135.out
     obtain ⟨hfz15_0, hfz15_1, hfz15_2⟩ := zf3 BK135.out
     try go_wp2
     go_ret
     exact ⟨zq16, zq55, zq61, zq69⟩
    ·
     rw [if_neg c6] at H
     have c6b0 := beq_eq_false_iff_ne.mpr c6
     have c6b1 := bne_iff_ne.mpr c6
     by_cases c16 : ((rd_T69 s0_0 s0_1).f0) = 3
     ·
      rw [if_pos c16] at H
      have c16b0 := beq_iff_eq.mpr c16
      have c16b1 := bne_eq_false_iff_eq.mpr c16
      clear c16
      simp only [Option.some.injEq, Prod.mk.injEq] at H
      obtain ⟨rfl, rfl, rfl, rfl, rfl⟩ := H
      go_enter Try.func30, Try.ntmps30
      try go_wp2
      replace HI0 := za (IsS57.drew HI0.out)
      replace HK := za (keep_drew HK.out)
      replace HB := za (below_drew1 HB.out)
      obtain ⟨ASz18_0, cSz18_0, HGz18, hgz18, HSz18_0⟩ := HI0.out
      have hx18_0 := cellS57_0 HGz18
      have hx18_1 := cellS57_1 HGz18
      have hx18_2 := cellS57_2 HGz18
      have hx18_3 := cellS57_3 HGz18
      have hx18_4 := cellS57_4 HGz18
      clear HGz18 hgz18
      have p134 : 0 ≤ (s0_1 : Int) := of_decide_eq_true zq11
      have q134 : s0_1 < (s0_0.length : Int) := of_decide_eq_true zq11
      obtain ⟨ad134, e134, hx134_0, hx134_1, hx134_2⟩ := at_T69 HSz18_0 s0_1 p134 q134
      have hw134_2 := hx134_2
      have hw134_1 := hx134_1
      have hw134_0 := hx134_0
      cases e134
      replace hx134_0 := pw_cell_below HB.out hx134_0
      replace hx134_1 := pw_cell_below HB.out hx134_1
      replace hx134_2 := pw_cell_below HB.out hx134_2
      replace p134 := eq_true p134
      replace q134 := eq_true q134
      refine start_ (n := 12) (S := fun w' => w'.cell? ⟨g, 0, none⟩ = some (.slice (some ad134) s0_0.length cSz18_0) ∧ w'.cell? ⟨g, 1, none⟩ = some (.int .i64 s0_1) ∧ w'.cell? ⟨g, 2, none⟩ = some (.int .i64 s0_2) ∧ w'.cell? ⟨g, 3, none⟩ = some (.int .i64 s0_3) ∧ w'.cell? ⟨g, 4, none⟩ = some (.int .i64 s0_4) ∧ w'.cell? (ad134.add ((s0_1).toNat * 3)) = some (.int .i64 ((rd_T69 s0_0 s0_1).f0)) ∧ w'.cell? ⟨(ad134.add ((s0_1).toNat * 3)).block, (ad134.add ((s0_1).toNat * 3)).off + 1, none⟩ = some (.string ((rd_T69 s0_0 s0_1).f1)) ∧ w'.cell? ⟨(ad134.add ((s0_1).toNat * 3)).block, (ad134.add ((s0_1).toNat * 3)).off + 2, none⟩ = some (.int .i64 ((rd_T69 s0_0 s0_1).f2))) (ds := [11]) #[false, false, false, false, false, false, false, false, false, false, false, false] zq18 rfl rfl ⟨hx18_0, hx18_1, hx18_2, hx18_3, hx18_4, hx134_0, hx134_1, hx134_2⟩ (fun hHeld => ?_); refine with_tabW rr_is.tab1 rr_is.bits1 (fun HT_ HW_ => ?_)
      generalize w.drew = w17 at HI0 HK HB hx134_0 hx134_1 hx134_2 hx18_0 hx18_1 hx18_2 hx18_3 hx18_4 hHeld ⊢
      refine pure_ (i := 0) (N := some 6) #[true, false, false, false, false, false, false, false, false, false, false, false] rfl rfl (any_of HT_.out zq18) (fun _ _ _ h => h) (Or.inl ⟨by rfl, zpv⟩) zpw ?_
      refine pure_ (i := 1) (N := some 7) #[true, true, false, false, false, false, false, false, false, false, false, false] rfl rfl (any_of HT_.out zq18) (fun _ _ _ h => h) (Or.inl ⟨by rfl, zpv⟩) zpw ?_
      refine pure_ (i := 2) (N := some 8) #[true, true, true, false, false, false, false, false, false, false, false, false] rfl rfl (any_of HT_.out zq18) (fun _ _ _ h => h) (Or.inl ⟨by rfl, zpv⟩) zpw ?_
      refine pure_ (i := 4) (N := some 10) #[true, true, true, false, true, false, false, false, false, false, false, false] rfl rfl (any_of HT_.out zq18) (fun _ _ _ h => h) (Or.inl ⟨by rfl, zpv⟩) zpw ?_
      refine pure_ (i := 5) (N := some 11) #[true, true, true, false, true, true, false, false, false, false, false, false] rfl rfl (any_of HT_.out zq18) (fun _ _ _ h => h) (Or.inl ⟨by rfl, zpv⟩) zpw ?_
      refine pure_ (i := 6) (N := some 12) #[true, true, true, false, true, true, true, false, false, false, false, false] rfl rfl (any_of HT_.out zq18) (fun _ _ _ h => h) (Or.inl ⟨by rfl, zpv⟩) zpw ?_
      refine take_ (i := 3) (N := some 9) (v := ?_) (a' := ?_) #[true, true, true, true, true, true, true, false, false, false, false, false] rfl rfl (take_ofW HT_.out HW_.out zq18) (fun _ _ _ h => h) (Or.inl ⟨by rfl, ?_⟩) hHeld ?_ ?_
      rotate_left
      ·
       rintro w' ⟨s0, s1, s2, s3, s4, s5, s6, s7⟩
       go_simp
       with_reducible rfl
      rotate_left
      ·
       simp only [Act.put, List.setIfInBounds_toArray, List.set_cons_zero, List.set_cons_succ, i64_w, i32_w]
       rfl
      refine take_ (i := 7) (N := some 13) (v := ?_) (a' := ?_) #[true, true, true, true, true, true, true, true, false, false, false, false] rfl rfl (take_ofW HT_.out HW_.out zq18) (fun _ _ _ h => h) (Or.inl ⟨by rfl, ?_⟩) hHeld ?_ ?_
      rotate_left
      ·
       rintro w' ⟨s0, s1, s2, s3, s4, s5, s6, s7⟩
       go_simp
       with_reducible rfl
      rotate_left
      ·
       simp only [Act.put, List.setIfInBounds_toArray, List.set_cons_zero, List.set_cons_succ, i64_w, i32_w]
       rfl
      refine pure_ (i := 8) (N := some 14) #[true, true, true, true, true, true, true, true, true, false, false, false] rfl rfl (any_of HT_.out zq18) (fun _ _ _ h => h) (Or.inl ⟨by rfl, zpv⟩) zpw ?_
      refine take_ (i := 9) (N := some 15) (v := ?_) (a' := ?_) #[true, true, true, true, true, true, true, true, true, true, false, false] rfl rfl (take_ofW HT_.out HW_.out zq18) (fun _ _ _ h => h) (Or.inl ⟨by rfl, ?_⟩) hHeld ?_ ?_
      rotate_left
      ·
       rintro w' ⟨s0, s1, s2, s3, s4, s5, s6, s7⟩
       go_simp
       with_reducible rfl
      rotate_left
      ·
       simp only [Act.put, List.setIfInBounds_toArray, List.set_cons_zero, List.set_cons_succ, i64_w, i32_w]
       rfl
      refine one_ (i := 10) (N := some 5) #[true, true, true, true, true, true, true, true, true, true, true, false] rfl rfl (one_of HT_.out zq18) (by decide) (fun K hK => ?_)
      refine box_step ?hg (N := 5) ?hd (cs := #[.int .i64 0, .string (⟨#[]⟩ : ByteArray), .int .i64 0]) (t := 69) ?hr ?_; (case hd => rfl); (case hg => rfl); (case hr => exact zq39)
      intro gb135 hg w19 hbox hb
      have HS0_ := (hb.cell (World.block_lt_of_cell? _ _ (hHeld.1))).trans (hHeld.1)
      have HS1_ := (hb.cell (World.block_lt_of_cell? _ _ (hHeld.2.1))).trans (hHeld.2.1)
      have HS2_ := (hb.cell (World.block_lt_of_cell? _ _ (hHeld.2.2.1))).trans (hHeld.2.2.1)
      have HS3_ := (hb.cell (World.block_lt_of_cell? _ _ (hHeld.2.2.2.1))).trans (hHeld.2.2.2.1)
      have HS4_ := (hb.cell (World.block_lt_of_cell? _ _ (hHeld.2.2.2.2.1))).trans (hHeld.2.2.2.2.1)
      have HS5_ := (hb.cell (World.block_lt_of_cell? _ _ (hHeld.2.2.2.2.2.1))).trans (hHeld.2.2.2.2.2.1)
      have HS6_ := (hb.cell (World.block_lt_of_cell? _ _ (hHeld.2.2.2.2.2.2.1))).trans (hHeld.2.2.2.2.2.2.1)
      have HS7_ := (hb.cell (World.block_lt_of_cell? _ _ (hHeld.2.2.2.2.2.2.2))).trans (hHeld.2.2.2.2.2.2.2)
      replace HB := za (below_step zq3 hb)
      have BK135 := za (hbox)
      have GW135 := za ((by rw [hg]; exact (keep_size (w := w) (g := g) (row := none) zq7) : w.heap.size ≤ gb135))
      have GE135 := za ((Nat.le_trans HW0.out (by rw [hg]; exact (keep_size (w := w) (g := g) (row := none) zq7) : w.heap.size ≤ gb135) : w0.heap.size ≤ gb135))
      replace HK := za (KeepBut.trans zq7 (KeepBut.of_below hb g none) (.inl rfl))
      have NB0_135 := za ((by rw [hg]; exact Nat.ne_of_lt (IsS57.lt (show IsS57 w0 _ g s0_0 s0_1 s0_2 s0_3 s0_4 from zq0)) : g ≠ gb135))
      have NB135_0 := za ((by rw [hg]; exact Nat.ne_of_gt (IsS57.lt (show IsS57 w0 _ g s0_0 s0_1 s0_2 s0_3 s0_4 from zq0)) : gb135 ≠ g))
      replace HI0 := za (IsS57.below zq0 hb)
      clear hb hbox hg
      refine hK.out _ _ ⟨HS0_, HS1_, HS2_, HS3_, HS4_, HS5_, HS6_, HS7_⟩ (fun hHeld => ?_)
      clear hK K
      refine norm_ (a' := ?_) ?_ ?_
      rotate_left
      ·
       show Act.put _ (some 5) _ = _
       simp only [Act.put, List.setIfInBounds_toArray, List.set_cons_zero, List.set_cons_succ, i64_w, i32_w]
       rfl
      refine last_ (i := 11) (N := none) #[true, true, true, true, true, true, true, true, true, true, true, true] rfl rfl (one_of HT_.out zq18) (by decide) (fun K hK => ?_)
      have hs20 : w19.cell? ⟨gb135, 0, none⟩ = some (.int .i64 0) := (blk_cell BK135.out 0).trans rfl
      have hfs20 := blk_frozen BK135.out 0
      have hs21 : w19.cell? ⟨gb135, 1, none⟩ = some (.string (⟨#[]⟩ : ByteArray)) := (blk_cell BK135.out 1).trans rfl
      have hfs21 := blk_frozen BK135.out 1
      have hs22 : w19.cell? ⟨gb135, 2, none⟩ = some (.int .i64 0) := (blk_cell BK135.out 2).trans rfl
      have hfs22 := blk_frozen BK135.out 2
      refine skip_ (w1 := ?_) (by rfl) rfl ?_ ?_
      rotate_left
      ·
       go_simp
       rfl
      refine hK.out _ _ ?_
      clear hK K
      refine done_ (done_of HT_.out zq18) ?_
      obtain ⟨ASz23_0, cSz23_0, HGz23, hgz23, HSz23_0⟩ := HI0.out
      have hcz23_0 := cellS57_0 HGz23
      have hcz23_1 := cellS57_1 HGz23
      have hcz23_2 := cellS57_2 HGz23
      have hcz23_3 := cellS57_3 HGz23
      have hcz23_4 := cellS57_4 HGz23
      have hfz23_1 := blk_frozen HGz23 1
      have hfz23_2 := blk_frozen HGz23 2
      have hfz23_3 := blk_frozen HGz23 3
      have hfz23_4 := blk_frozen HGz23 4
      clear HGz23 hgz23
      have hnb24 := NB135_0.out
      have hnc24 := NB0_135.out
      obtain ⟨hcz25_0, hcz25_1, hcz25_2⟩ := zc3 BK135.out
      obtain ⟨hfz25_0, hfz25_1, hfz25_2⟩ := zf3 BK135.out
      try go_wp2
      go_ret
      exact ⟨zq16, zq55, zq61, zq69⟩
     ·
      rw [if_neg c16] at H
      have c16b0 := beq_eq_false_iff_ne.mpr c16
      have c16b1 := bne_iff_ne.mpr c16
      simp only [Option.some.injEq, Prod.mk.injEq] at H
      obtain ⟨rfl, rfl, rfl, rfl, rfl⟩ := H
      go_enter Try.func30, Try.ntmps30
      try go_wp2
      replace HI0 := za (IsS57.drew HI0.out)
      replace HK := za (keep_drew HK.out)
      replace HB := za (below_drew1 HB.out)
      obtain ⟨ASz27_0, cSz27_0, HGz27, hgz27, HSz27_0⟩ := HI0.out
      have hx27_0 := cellS57_0 HGz27
      have hx27_1 := cellS57_1 HGz27
      have hx27_2 := cellS57_2 HGz27
      have hx27_3 := cellS57_3 HGz27
      have hx27_4 := cellS57_4 HGz27
      clear HGz27 hgz27
      have p134 : 0 ≤ (s0_1 : Int) := of_decide_eq_true zq11
      have q134 : s0_1 < (s0_0.length : Int) := of_decide_eq_true zq11
      obtain ⟨ad134, e134, hx134_0, hx134_1, hx134_2⟩ := at_T69 HSz27_0 s0_1 p134 q134
      have hw134_2 := hx134_2
      have hw134_1 := hx134_1
      have hw134_0 := hx134_0
      cases e134
      replace hx134_0 := pw_cell_below HB.out hx134_0
      replace hx134_1 := pw_cell_below HB.out hx134_1
      replace hx134_2 := pw_cell_below HB.out hx134_2
      replace p134 := eq_true p134
      replace q134 := eq_true q134
      refine start_ (n := 12) (S := fun w' => w'.cell? ⟨g, 0, none⟩ = some (.slice (some ad134) s0_0.length cSz27_0) ∧ w'.cell? ⟨g, 1, none⟩ = some (.int .i64 s0_1) ∧ w'.cell? ⟨g, 2, none⟩ = some (.int .i64 s0_2) ∧ w'.cell? ⟨g, 3, none⟩ = some (.int .i64 s0_3) ∧ w'.cell? ⟨g, 4, none⟩ = some (.int .i64 s0_4) ∧ w'.cell? (ad134.add ((s0_1).toNat * 3)) = some (.int .i64 ((rd_T69 s0_0 s0_1).f0)) ∧ w'.cell? ⟨(ad134.add ((s0_1).toNat * 3)).block, (ad134.add ((s0_1).toNat * 3)).off + 1, none⟩ = some (.string ((rd_T69 s0_0 s0_1).f1)) ∧ w'.cell? ⟨(ad134.add ((s0_1).toNat * 3)).block, (ad134.add ((s0_1).toNat * 3)).off + 2, none⟩ = some (.int .i64 ((rd_T69 s0_0 s0_1).f2))) (ds := [11]) #[false, false, false, false, false, false, false, false, false, false, false, false] zq18 rfl rfl ⟨hx27_0, hx27_1, hx27_2, hx27_3, hx27_4, hx134_0, hx134_1, hx134_2⟩ (fun hHeld => ?_); refine with_tabW rr_is.tab1 rr_is.bits1 (fun HT_ HW_ => ?_)
      generalize w.drew = w26 at HI0 HK HB hx134_0 hx134_1 hx134_2 hx27_0 hx27_1 hx27_2 hx27_3 hx27_4 hHeld ⊢
      refine pure_ (i := 0) (N := some 6) #[true, false, false, false, false, false, false, false, false, false, false, false] rfl rfl (any_of HT_.out zq18) (fun _ _ _ h => h) (Or.inl ⟨by rfl, zpv⟩) zpw ?_
      refine pure_ (i := 1) (N := some 7) #[true, true, false, false, false, false, false, false, false, false, false, false] rfl rfl (any_of HT_.out zq18) (fun _ _ _ h => h) (Or.inl ⟨by rfl, zpv⟩) zpw ?_
      refine pure_ (i := 2) (N := some 8) #[true, true, true, false, false, false, false, false, false, false, false, false] rfl rfl (any_of HT_.out zq18) (fun _ _ _ h => h) (Or.inl ⟨by rfl, zpv⟩) zpw ?_
      refine pure_ (i := 4) (N := some 10) #[true, true, true, false, true, false, false, false, false, false, false, false] rfl rfl (any_of HT_.out zq18) (fun _ _ _ h => h) (Or.inl ⟨by rfl, zpv⟩) zpw ?_
      refine pure_ (i := 5) (N := some 11) #[true, true, true, false, true, true, false, false, false, false, false, false] rfl rfl (any_of HT_.out zq18) (fun _ _ _ h => h) (Or.inl ⟨by rfl, zpv⟩) zpw ?_
      refine pure_ (i := 6) (N := some 12) #[true, true, true, false, true, true, true, false, false, false, false, false] rfl rfl (any_of HT_.out zq18) (fun _ _ _ h => h) (Or.inl ⟨by rfl, zpv⟩) zpw ?_
      refine take_ (i := 3) (N := some 9) (v := ?_) (a' := ?_) #[true, true, true, true, true, true, true, false, false, false, false, false] rfl rfl (take_ofW HT_.out HW_.out zq18) (fun _ _ _ h => h) (Or.inl ⟨by rfl, ?_⟩) hHeld ?_ ?_
      rotate_left
      ·
       rintro w' ⟨s0, s1, s2, s3, s4, s5, s6, s7⟩
       go_simp
       with_reducible rfl
      rotate_left
      ·
       simp only [Act.put, List.setIfInBounds_toArray, List.set_cons_zero, List.set_cons_succ, i64_w, i32_w]
       rfl
      refine take_ (i := 7) (N := some 13) (v := ?_) (a' := ?_) #[true, true, true, true, true, true, true, true, false, false, false, false] rfl rfl (take_ofW HT_.out HW_.out zq18) (fun _ _ _ h => h) (Or.inl ⟨by rfl, ?_⟩) hHeld ?_ ?_
      rotate_left
      ·
       rintro w' ⟨s0, s1, s2, s3, s4, s5, s6, s7⟩
       go_simp
       with_reducible rfl
      rotate_left
      ·
       simp only [Act.put, List.setIfInBounds_toArray, List.set_cons_zero, List.set_cons_succ, i64_w, i32_w]
       rfl
      refine pure_ (i := 8) (N := some 14) #[true, true, true, true, true, true, true, true, true, false, false, false] rfl rfl (any_of HT_.out zq18) (fun _ _ _ h => h) (Or.inl ⟨by rfl, zpv⟩) zpw ?_
      refine take_ (i := 9) (N := some 15) (v := ?_) (a' := ?_) #[true, true, true, true, true, true, true, true, true, true, false, false] rfl rfl (take_ofW HT_.out HW_.out zq18) (fun _ _ _ h => h) (Or.inl ⟨by rfl, ?_⟩) hHeld ?_ ?_
      rotate_left
      ·
       rintro w' ⟨s0, s1, s2, s3, s4, s5, s6, s7⟩
       go_simp
       with_reducible rfl
      rotate_left
      ·
       simp only [Act.put, List.setIfInBounds_toArray, List.set_cons_zero, List.set_cons_succ, i64_w, i32_w]
       rfl
      refine one_ (i := 10) (N := some 5) #[true, true, true, true, true, true, true, true, true, true, true, false] rfl rfl (one_of HT_.out zq18) (by decide) (fun K hK => ?_)
      refine box_step ?hg (N := 5) ?hd (cs := #[.int .i64 0, .string (⟨#[]⟩ : ByteArray), .int .i64 0]) (t := 69) ?hr ?_; (case hd => rfl); (case hg => rfl); (case hr => exact zq39)
      intro gb135 hg w28 hbox hb
      have HS0_ := (hb.cell (World.block_lt_of_cell? _ _ (hHeld.1))).trans (hHeld.1)
      have HS1_ := (hb.cell (World.block_lt_of_cell? _ _ (hHeld.2.1))).trans (hHeld.2.1)
      have HS2_ := (hb.cell (World.block_lt_of_cell? _ _ (hHeld.2.2.1))).trans (hHeld.2.2.1)
      have HS3_ := (hb.cell (World.block_lt_of_cell? _ _ (hHeld.2.2.2.1))).trans (hHeld.2.2.2.1)
      have HS4_ := (hb.cell (World.block_lt_of_cell? _ _ (hHeld.2.2.2.2.1))).trans (hHeld.2.2.2.2.1)
      have HS5_ := (hb.cell (World.block_lt_of_cell? _ _ (hHeld.2.2.2.2.2.1))).trans (hHeld.2.2.2.2.2.1)
      have HS6_ := (hb.cell (World.block_lt_of_cell? _ _ (hHeld.2.2.2.2.2.2.1))).trans (hHeld.2.2.2.2.2.2.1)
      have HS7_ := (hb.cell (World.block_lt_of_cell? _ _ (hHeld.2.2.2.2.2.2.2))).trans (hHeld.2.2.2.2.2.2.2)
      replace HB := za (below_step zq3 hb)
      have BK135 := za (hbox)
      have GW135 := za ((by rw [hg]; exact (keep_size (w := w) (g := g) (row := none) zq7) : w.heap.size ≤ gb135))
      have GE135 := za ((Nat.le_trans HW0.out (by rw [hg]; exact (keep_size (w := w) (g := g) (row := none) zq7) : w.heap.size ≤ gb135) : w0.heap.size ≤ gb135))
      replace HK := za (KeepBut.trans zq7 (KeepBut.of_below hb g none) (.inl rfl))
      have NB0_135 := za ((by rw [hg]; exact Nat.ne_of_lt (IsS57.lt (show IsS57 w0 _ g s0_0 s0_1 s0_2 s0_3 s0_4 from zq0)) : g ≠ gb135))
      have NB135_0 := za ((by rw [hg]; exact Nat.ne_of_gt (IsS57.lt (show IsS57 w0 _ g s0_0 s0_1 s0_2 s0_3 s0_4 from zq0)) : gb135 ≠ g))
      replace HI0 := za (IsS57.below zq0 hb)
      clear hb hbox hg
      refine hK.out _ _ ⟨HS0_, HS1_, HS2_, HS3_, HS4_, HS5_, HS6_, HS7_⟩ (fun hHeld => ?_)
      clear hK K
      refine norm_ (a' := ?_) ?_ ?_
      rotate_left
      ·
       show Act.put _ (some 5) _ = _
       simp only [Act.put, List.setIfInBounds_toArray, List.set_cons_zero, List.set_cons_succ, i64_w, i32_w]
       rfl
      refine last_ (i := 11) (N := none) #[true, true, true, true, true, true, true, true, true, true, true, true] rfl rfl (one_of HT_.out zq18) (by decide) (fun K hK => ?_)
      have hs29 : w28.cell? ⟨gb135, 0, none⟩ = some (.int .i64 0) := (blk_cell BK135.out 0).trans rfl
      have hfs29 := blk_frozen BK135.out 0
      have hs30 : w28.cell? ⟨gb135, 1, none⟩ = some (.string (⟨#[]⟩ : ByteArray)) := (blk_cell BK135.out 1).trans rfl
      have hfs30 := blk_frozen BK135.out 1
      have hs31 : w28.cell? ⟨gb135, 2, none⟩ = some (.int .i64 0) := (blk_cell BK135.out 2).trans rfl
      have hfs31 := blk_frozen BK135.out 2
      refine skip_ (w1 := ?_) (by rfl) rfl ?_ ?_
      rotate_left
      ·
       go_simp
       rfl
      refine hK.out _ _ ?_
      clear hK K
      refine done_ (done_of HT_.out zq18) ?_
      obtain ⟨ASz32_0, cSz32_0, HGz32, hgz32, HSz32_0⟩ := HI0.out
      have hcz32_0 := cellS57_0 HGz32
      have hcz32_1 := cellS57_1 HGz32
      have hcz32_2 := cellS57_2 HGz32
      have hcz32_3 := cellS57_3 HGz32
      have hcz32_4 := cellS57_4 HGz32
      have hfz32_1 := blk_frozen HGz32 1
      have hfz32_2 := blk_frozen HGz32 2
      have hfz32_3 := blk_frozen HGz32 3
      have hfz32_4 := blk_frozen HGz32 4
      clear HGz32 hgz32
      have hnb33 := NB135_0.out
      have hnc33 := NB0_135.out
      obtain ⟨hcz34_0, hcz34_1, hcz34_2⟩ := zc3 BK135.out
      obtain ⟨hfz34_0, hfz34_1, hfz34_2⟩ := zf3 BK135.out
      try go_wp2
      go_ret
      exact ⟨zq16, zq55, zq61, zq69⟩
   ·
    rw [if_neg c5] at H
    have c5b0 := beq_eq_false_iff_ne.mpr c5
    have c5b1 := bne_iff_ne.mpr c5
    simp only [Option.some.injEq, Prod.mk.injEq] at H
    obtain ⟨rfl, rfl, rfl, rfl, rfl⟩ := H
    go_enter Try.func30, Try.ntmps30
    try go_wp2
    replace HI0 := za (IsS57.drew HI0.out)
    replace HK := za (keep_drew HK.out)
    replace HB := za (below_drew1 HB.out)
    obtain ⟨ASz36_0, cSz36_0, HGz36, hgz36, HSz36_0⟩ := HI0.out
    have hx36_0 := cellS57_0 HGz36
    have hx36_1 := cellS57_1 HGz36
    have hx36_2 := cellS57_2 HGz36
    have hx36_3 := cellS57_3 HGz36
    have hx36_4 := cellS57_4 HGz36
    clear HGz36 hgz36
    have p134 : 0 ≤ (s0_1 : Int) := of_decide_eq_true zq11
    have q134 : s0_1 < (s0_0.length : Int) := of_decide_eq_true zq11
    obtain ⟨ad134, e134, hx134_0, hx134_1, hx134_2⟩ := at_T69 HSz36_0 s0_1 p134 q134
    have hw134_2 := hx134_2
    have hw134_1 := hx134_1
    have hw134_0 := hx134_0
    cases e134
    replace hx134_0 := pw_cell_below HB.out hx134_0
    replace hx134_1 := pw_cell_below HB.out hx134_1
    replace hx134_2 := pw_cell_below HB.out hx134_2
    replace p134 := eq_true p134
    replace q134 := eq_true q134
    refine start_ (n := 12) (S := fun w' => w'.cell? ⟨g, 0, none⟩ = some (.slice (some ad134) s0_0.length cSz36_0) ∧ w'.cell? ⟨g, 1, none⟩ = some (.int .i64 s0_1) ∧ w'.cell? ⟨g, 2, none⟩ = some (.int .i64 s0_2) ∧ w'.cell? ⟨g, 3, none⟩ = some (.int .i64 s0_3) ∧ w'.cell? ⟨g, 4, none⟩ = some (.int .i64 s0_4) ∧ w'.cell? (ad134.add ((s0_1).toNat * 3)) = some (.int .i64 ((rd_T69 s0_0 s0_1).f0)) ∧ w'.cell? ⟨(ad134.add ((s0_1).toNat * 3)).block, (ad134.add ((s0_1).toNat * 3)).off + 1, none⟩ = some (.string ((rd_T69 s0_0 s0_1).f1)) ∧ w'.cell? ⟨(ad134.add ((s0_1).toNat * 3)).block, (ad134.add ((s0_1).toNat * 3)).off + 2, none⟩ = some (.int .i64 ((rd_T69 s0_0 s0_1).f2))) (ds := [11]) #[false, false, false, false, false, false, false, false, false, false, false, false] zq18 rfl rfl ⟨hx36_0, hx36_1, hx36_2, hx36_3, hx36_4, hx134_0, hx134_1, hx134_2⟩ (fun hHeld => ?_); refine with_tabW rr_is.tab1 rr_is.bits1 (fun HT_ HW_ => ?_)
    generalize w.drew = w35 at HI0 HK HB hx134_0 hx134_1 hx134_2 hx36_0 hx36_1 hx36_2 hx36_3 hx36_4 hHeld ⊢
    refine pure_ (i := 0) (N := some 6) #[true, false, false, false, false, false, false, false, false, false, false, false] rfl rfl (any_of HT_.out zq18) (fun _ _ _ h => h) (Or.inl ⟨by rfl, zpv⟩) zpw ?_
    refine pure_ (i := 1) (N := some 7) #[true, true, false, false, false, false, false, false, false, false, false, false] rfl rfl (any_of HT_.out zq18) (fun _ _ _ h => h) (Or.inl ⟨by rfl, zpv⟩) zpw ?_
    refine pure_ (i := 2) (N := some 8) #[true, true, true, false, false, false, false, false, false, false, false, false] rfl rfl (any_of HT_.out zq18) (fun _ _ _ h => h) (Or.inl ⟨by rfl, zpv⟩) zpw ?_
    refine pure_ (i := 4) (N := some 10) #[true, true, true, false, true, false, false, false, false, false, false, false] rfl rfl (any_of HT_.out zq18) (fun _ _ _ h => h) (Or.inl ⟨by rfl, zpv⟩) zpw ?_
    refine pure_ (i := 5) (N := some 11) #[true, true, true, false, true, true, false, false, false, false, false, false] rfl rfl (any_of HT_.out zq18) (fun _ _ _ h => h) (Or.inl ⟨by rfl, zpv⟩) zpw ?_
    refine pure_ (i := 6) (N := some 12) #[true, true, true, false, true, true, true, false, false, false, false, false] rfl rfl (any_of HT_.out zq18) (fun _ _ _ h => h) (Or.inl ⟨by rfl, zpv⟩) zpw ?_
    refine take_ (i := 3) (N := some 9) (v := ?_) (a' := ?_) #[true, true, true, true, true, true, true, false, false, false, false, false] rfl rfl (take_ofW HT_.out HW_.out zq18) (fun _ _ _ h => h) (Or.inl ⟨by rfl, ?_⟩) hHeld ?_ ?_
    rotate_left
    ·
     rintro w' ⟨s0, s1, s2, s3, s4, s5, s6, s7⟩
     go_simp
     with_reducible rfl
    rotate_left
    ·
     simp only [Act.put, List.setIfInBounds_toArray, List.set_cons_zero, List.set_cons_succ, i64_w, i32_w]
     rfl
    refine take_ (i := 7) (N := some 13) (v := ?_) (a' := ?_) #[true, true, true, true, true, true, true, true, false, false, false, false] rfl rfl (take_ofW HT_.out HW_.out zq18) (fun _ _ _ h => h) (Or.inl ⟨by rfl, ?_⟩) hHeld ?_ ?_
    rotate_left
    ·
     rintro w' ⟨s0, s1, s2, s3, s4, s5, s6, s7⟩
     go_simp
     with_reducible rfl
    rotate_left
    ·
     simp only [Act.put, List.setIfInBounds_toArray, List.set_cons_zero, List.set_cons_succ, i64_w, i32_w]
     rfl
    refine pure_ (i := 8) (N := some 14) #[true, true, true, true, true, true, true, true, true, false, false, false] rfl rfl (any_of HT_.out zq18) (fun _ _ _ h => h) (Or.inl ⟨by rfl, zpv⟩) zpw ?_
    refine take_ (i := 9) (N := some 15) (v := ?_) (a' := ?_) #[true, true, true, true, true, true, true, true, true, true, false, false] rfl rfl (take_ofW HT_.out HW_.out zq18) (fun _ _ _ h => h) (Or.inl ⟨by rfl, ?_⟩) hHeld ?_ ?_
    rotate_left
    ·
     rintro w' ⟨s0, s1, s2, s3, s4, s5, s6, s7⟩
     go_simp
     with_reducible rfl
    rotate_left
    ·
     simp only [Act.put, List.setIfInBounds_toArray, List.set_cons_zero, List.set_cons_succ, i64_w, i32_w]
     rfl
    refine one_ (i := 10) (N := some 5) #[true, true, true, true, true, true, true, true, true, true, true, false] rfl rfl (one_of HT_.out zq18) (by decide) (fun K hK => ?_)
    refine box_step ?hg (N := 5) ?hd (cs := #[.int .i64 0, .string (⟨#[]⟩ : ByteArray), .int .i64 0]) (t := 69) ?hr ?_; (case hd => rfl); (case hg => rfl); (case hr => exact zq39)
    intro gb135 hg w37 hbox hb
    have HS0_ := (hb.cell (World.block_lt_of_cell? _ _ (hHeld.1))).trans (hHeld.1)
    have HS1_ := (hb.cell (World.block_lt_of_cell? _ _ (hHeld.2.1))).trans (hHeld.2.1)
    have HS2_ := (hb.cell (World.block_lt_of_cell? _ _ (hHeld.2.2.1))).trans (hHeld.2.2.1)
    have HS3_ := (hb.cell (World.block_lt_of_cell? _ _ (hHeld.2.2.2.1))).trans (hHeld.2.2.2.1)
    have HS4_ := (hb.cell (World.block_lt_of_cell? _ _ (hHeld.2.2.2.2.1))).trans (hHeld.2.2.2.2.1)
    have HS5_ := (hb.cell (World.block_lt_of_cell? _ _ (hHeld.2.2.2.2.2.1))).trans (hHeld.2.2.2.2.2.1)
    have HS6_ := (hb.cell (World.block_lt_of_cell? _ _ (hHeld.2.2.2.2.2.2.1))).trans (hHeld.2.2.2.2.2.2.1)
    have HS7_ := (hb.cell (World.block_lt_of_cell? _ _ (hHeld.2.2.2.2.2.2.2))).trans (hHeld.2.2.2.2.2.2.2)
    replace HB := za (below_step zq3 hb)
    have BK135 := za (hbox)
    have GW135 := za ((by rw [hg]; exact (keep_size (w := w) (g := g) (row := none) zq7) : w.heap.size ≤ gb135))
    have GE135 := za ((Nat.le_trans HW0.out (by rw [hg]; exact (keep_size (w := w) (g := g) (row := none) zq7) : w.heap.size ≤ gb135) : w0.heap.size ≤ gb135))
    replace HK := za (KeepBut.trans zq7 (KeepBut.of_below hb g none) (.inl rfl))
    have NB0_135 := za ((by rw [hg]; exact Nat.ne_of_lt (IsS57.lt (show IsS57 w0 _ g s0_0 s0_1 s0_2 s0_3 s0_4 from zq0)) : g ≠ gb135))
    have NB135_0 := za ((by rw [hg]; exact Nat.ne_of_gt (IsS57.lt (show IsS57 w0 _ g s0_0 s0_1 s0_2 s0_3 s0_4 from zq0)) : gb135 ≠ g))
    replace HI0 := za (IsS57.below zq0 hb)
    clear hb hbox hg
    refine hK.out _ _ ⟨HS0_, HS1_, HS2_, HS3_, HS4_, HS5_, HS6_, HS7_⟩ (fun hHeld => ?_)
    clear hK K
    refine norm_ (a' := ?_) ?_ ?_
    rotate_left
    ·
     show Act.put _ (some 5) _ = _
     simp only [Act.put, List.setIfInBounds_toArray, List.set_cons_zero, List.set_cons_succ, i64_w, i32_w]
     rfl
    refine last_ (i := 11) (N := none) #[true, true, true, true, true, true, true, true, true, true, true, true] rfl rfl (one_of HT_.out zq18) (by decide) (fun K hK => ?_)
    have hs38 : w37.cell? ⟨gb135, 0, none⟩ = some (.int .i64 0) := (blk_cell BK135.out 0).trans rfl
    have hfs38 := blk_frozen BK135.out 0
    have hs39 : w37.cell? ⟨gb135, 1, none⟩ = some (.string (⟨#[]⟩ : ByteArray)) := (blk_cell BK135.out 1).trans rfl
    have hfs39 := blk_frozen BK135.out 1
    have hs40 : w37.cell? ⟨gb135, 2, none⟩ = some (.int .i64 0) := (blk_cell BK135.out 2).trans rfl
    have hfs40 := blk_frozen BK135.out 2
    refine skip_ (w1 := ?_) (by rfl) rfl ?_ ?_
    rotate_left
    ·
     go_simp
     rfl
    refine hK.out _ _ ?_
    clear hK K
    refine done_ (done_of HT_.out zq18) ?_
    obtain ⟨ASz41_0, cSz41_0, HGz41, hgz41, HSz41_0⟩ := HI0.out
    have hcz41_0 := cellS57_0 HGz41
    have hcz41_1 := cellS57_1 HGz41
    have hcz41_2 := cellS57_2 HGz41
    have hcz41_3 := cellS57_3 HGz41
    have hcz41_4 := cellS57_4 HGz41
    have hfz41_1 := blk_frozen HGz41 1
    have hfz41_2 := blk_frozen HGz41 2
    have hfz41_3 := blk_frozen HGz41 3
    have hfz41_4 := blk_frozen HGz41 4
    clear HGz41 hgz41
    try go_wp2
    go_ret
    exact ⟨zq16, zq55, zq61, zq69⟩
  ·
   rw [if_neg c4] at H
   exact absurd H (by simp)
 ·
  rw [if_neg c3] at H
  exact absurd H (by simp)
end Go.Proofs.Ytcmpmlklednhbaa.QEvalJoins
