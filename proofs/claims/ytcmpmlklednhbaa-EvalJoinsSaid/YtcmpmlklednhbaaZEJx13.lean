import Derived.Test.YtcmpmlklednhbaaZEJx12
namespace Go.Proofs.Ytcmpmlklednhbaa.QEvalJoins
open Go.RowKit Go.Proofs.YtcmpmlklednhbaaW.PrintWords Go.Proofs.YtcmpmlklednhbaaW.PrintLast Go.Proofs.YtcmpmlklednhbaaW.PrintMore
set_option maxHeartbeats 8000000
set_option maxRecDepth 100000
attribute [local go_sem] max2_int min2_int max_two min_two max_three min_three max_four min_four
set_option linter.unusedVariables false
set_option linter.unusedSimpArgs false
theorem rr_block.step (k : Nat) (IH39_ : Aside0 (∀ m, m < k → ∀ (g : Nat) (s0_0 : List (S69)) (s0_1 : Int) (s0_2 : Int) (s0_3 : Int) (s0_4 : Int) (r1 : Int) (r2 : Int) (r3 : ByteArray) (r4 : ByteArray) (r5 : ByteArray) (r6 : Bool) (r7 : ByteArray) (r8 : ByteArray) (r9 : List (S48)) (r10 : List (List (S48))) (r11 : List (S45)) (r12 : List (S45)) (r13 : Int) (r14 : Int) (r15 : Int) (r16 : Int) (w0 w : World) (hI : IsS57 w0 w g s0_0 s0_1 s0_2 s0_3 s0_4) (hB : Below w0.heap.size w0 w) (h : rr_stmt.f m s0_0 s0_1 s0_2 s0_3 s0_4 = some (r1, r2, r3, r4, r5, r6, r7, r8, r9, r10, r11, r12, r13, r14, r15, r16)),
  Calls Try.prog 39 #[.pointer (some ⟨g, 0, none⟩)] w fun e w' => ∃ v8_ v9_ v10_ v11_ : Value, e = .returned (.agg #[.int .i64 r1, .int .i64 r2, .string r3, .string r4, .string r5, .bool r6, .string r7, .string r8, v8_, v9_, v10_, v11_]) ∧ Kd.R k48 48 w' w.heap.size (fun _ => True) v8_ r9 ∧ Kd.S (Kd.slice 48 k48) 23 w' w.heap.size (fun k_ => some k_ ≠ (v8_ : Value).ownBlock) v9_ r10 ∧ Kd.R k45 45 w' w.heap.size (fun k_ => some k_ ≠ (v8_ : Value).ownBlock ∧ some k_ ≠ (v9_ : Value).ownBlock ∧ some k_ ≠ (v11_ : Value).ownBlock) v10_ r11 ∧ Kd.R k45 45 w' w.heap.size (fun k_ => some k_ ≠ (v8_ : Value).ownBlock ∧ some k_ ≠ (v9_ : Value).ownBlock ∧ some k_ ≠ (v10_ : Value).ownBlock) v11_ r12 ∧ IsS57 w0 w' g s0_0 r13 r14 r15 r16 ∧ Below w0.heap.size w0 w' ∧ KeepBut w w' g none)) (IH32_ : Aside0 (∀ m, m < k → ∀ (g : Nat) (s0_0 : List (S69)) (s0_1 : Int) (s0_2 : Int) (s0_3 : Int) (s0_4 : Int) (r1 : List (S45)) (r2 : Int) (r3 : Int) (r4 : Int) (r5 : Int) (w0 w : World) (hI : IsS57 w0 w g s0_0 s0_1 s0_2 s0_3 s0_4) (hB : Below w0.heap.size w0 w) (h : rr_block.f m s0_0 s0_1 s0_2 s0_3 s0_4 = some (r1, r2, r3, r4, r5)),
  Calls Try.prog 32 #[.pointer (some ⟨g, 0, none⟩)] w fun e w' => ∃ v0_ : Value, e = .returned (v0_) ∧ Kd.R k45 45 w' w.heap.size (fun _ => True) v0_ r1 ∧ IsS57 w0 w' g s0_0 r2 r3 r4 r5 ∧ Below w0.heap.size w0 w' ∧ KeepBut w w' g none)) : ∀ (g : Nat) (s0_0 : List (S69)) (s0_1 : Int) (s0_2 : Int) (s0_3 : Int) (s0_4 : Int) (r1 : List (S45)) (r2 : Int) (r3 : Int) (r4 : Int) (r5 : Int) (w0 w : World) (hI : IsS57 w0 w g s0_0 s0_1 s0_2 s0_3 s0_4) (hB : Below w0.heap.size w0 w) (h : rr_block.f k s0_0 s0_1 s0_2 s0_3 s0_4 = some (r1, r2, r3, r4, r5)),
  Calls Try.prog 32 #[.pointer (some ⟨g, 0, none⟩)] w fun e w' => ∃ v0_ : Value, e = .returned (v0_) ∧ Kd.R k45 45 w' w.heap.size (fun _ => True) v0_ r1 ∧ IsS57 w0 w' g s0_0 r2 r3 r4 r5 ∧ Below w0.heap.size w0 w' ∧ KeepBut w w' g none := by
 intro g s0_0 s0_1 s0_2 s0_3 s0_4 r1 r2 r3 r4 r5 w0 w hI hB h
 cases k with
 | zero => exact absurd h (by simp [rr_block.f])
 | succ k =>
 simp only [rr_block.f] at h
 have HI0 := za hI
 have HK := za (KeepBut.refl w g none)
 have HL := za hB.size
 clear hI
 have HW0 := za hB.size
 have HB := za hB
 clear hB
 have H : ((rr_open.f k s0_0 s0_1 s0_2 s0_3 s0_4 (⟨#[123]⟩ : ByteArray)).bind fun bt697 => (rr_block.l0 k ([] : List (S45)) s0_0 bt697.1 bt697.2.1 bt697.2.2.1 bt697.2.2.2)) = some (r1, r2, r3, r4, r5) := h
 clear h
 replace H := Option.bind_eq_some_iff.mp H
 obtain ⟨⟨t697, t698, t699, t700⟩, A20, H⟩ := H
 (try dsimp only at H)
 have A2 := za A20
 clear A20
 have H' := za H
 clear H
 go_enter Try.func32, Try.ntmps32
 go_wp2_with (first | ((with_reducible refine gate_callee (f := 38) rfl ?_); refine goesL_ (some 5) rfl rfl Try.func38 zq18 rfl #[.pointer (some ⟨g, 0, none⟩), .string (⟨#[123]⟩ : ByteArray)] rfl zq1 ?_; (with_reducible refine (rr_open.calls k g s0_0 s0_1 s0_2 s0_3 s0_4 (⟨#[123]⟩ : ByteArray) t697 t698 t699 t700 w0 _ ?side1 ?side2 A2.out).mono ?_); (case side1 => exact zq0); (case side2 => exact zq3); rintro e w3 ⟨rfl, hi, hb, hk⟩; refine ⟨_, rfl, ?_⟩; replace HK := za (KeepBut.trans zq7 hk (.inl rfl)); replace HB := za (hb); replace HI0 := za (hi)))
 (try simp only [Act.put, List.setIfInBounds_toArray, List.set_cons_zero, List.set_cons_succ])
 go_loopg [3] k (fun kq v3 w' => ∃ (x3_1 : List (S45)) (x1001_1 : Int) (x1002_1 : Int) (x1003_1 : Int) (x1004_1 : Int), Aside0 (rr_block.l0 kq x3_1 s0_0 x1001_1 x1002_1 x1003_1 x1004_1 = some (r1, r2, r3, r4, r5)) ∧ Aside0 (kq ≤ k) ∧ Aside0 (Kd.R k45 45 w' w.heap.size (fun _ => True) v3 x3_1) ∧ Aside0 (IsS57 w0 w' g s0_0 x1001_1 x1002_1 x1003_1 x1004_1) ∧ Aside0 (KeepBut w w' g none) ∧ Aside0 (Below w0.heap.size w0 w'))
 case atStart => exact ⟨(([] : List (S45))), (t697), (t698), (t699), (t700), H', ⟨Nat.le_refl _⟩, ⟨zq22⟩, ⟨zq0⟩, ⟨zq7⟩, ⟨zq3⟩⟩
 case round =>
  clear H'
  obtain ⟨x3_1, x1001_1, x1002_1, x1003_1, x1004_1, HA, HK1, HO_3, HI0, HK, HB⟩ := hrel
  cases gk with
  | zero => exact absurd HA.out (by simp [rr_block.l0])
  | succ k1 =>
   have H := HA.out
   clear HA
   simp only [rr_block.l0] at H
   by_cases c4 : x1003_1 = 0
   ·
    rw [if_pos c4] at H
    have c4b0 := beq_iff_eq.mpr c4
    have c4b1 := bne_eq_false_iff_eq.mpr c4
    clear c4
    replace H := Option.bind_eq_some_iff.mp H
    obtain ⟨⟨t701, t702, t703, t704, t705⟩, A50, H⟩ := H
    (try dsimp only at H)
    have A5 := za A50
    clear A50
    by_cases c6 : t701 = true
    ·
     subst c6
     rw [if_pos rfl] at H
     replace H := Option.bind_eq_some_iff.mp H
     obtain ⟨⟨t706, t707, t708, t709⟩, A70, H⟩ := H
     (try dsimp only at H)
     have A7 := za A70
     clear A70
     simp only [Option.some.injEq, Prod.mk.injEq] at H
     obtain ⟨rfl, rfl, rfl, rfl, rfl⟩ := H
     obtain ⟨ASz8_0, cSz8_0, HGz8, hgz8, HSz8_0⟩ := HI0.out
     have hcz8_0 := cellS57_0 HGz8
     have hcz8_1 := cellS57_1 HGz8
     have hcz8_2 := cellS57_2 HGz8
     have hcz8_3 := cellS57_3 HGz8
     have hcz8_4 := cellS57_4 HGz8
     have hfz8_1 := blk_frozen HGz8 1
     have hfz8_2 := blk_frozen HGz8 2
     have hfz8_3 := blk_frozen HGz8 3
     have hfz8_4 := blk_frozen HGz8 4
     clear HGz8 hgz8
     go_wp2_with (first | ((with_reducible refine gate_callee (f := 30) rfl ?_); (with_reducible refine gate_dst (N := 13) rfl ?_); (refine gate_guard (by rfl) ?_; dsimp only); refine goesL_ (some 13) rfl rfl Try.func30 zq18 rfl #[.pointer (some ⟨g, 0, none⟩), .string (⟨#[125]⟩ : ByteArray)] rfl zq1 ?_; (with_reducible refine (rr_is.calls g s0_0 x1001_1 x1002_1 x1003_1 x1004_1 (⟨#[125]⟩ : ByteArray) true t702 t703 t704 t705 w0 _ ?side1 ?side2 A5.out).mono ?_); (case side1 => exact zq0); (case side2 => exact zq3); rintro e w9 ⟨rfl, hi, hb, hk⟩; refine ⟨_, rfl, ?_⟩; replace HO_3 := za (Kd.R_mono (Kd.R_keep (IsS57.apart (show IsS57 w0 _ g s0_0 x1001_1 x1002_1 x1003_1 x1004_1 from zq0) (zr HO_3.out) (by decide)) hk (fun _ h => h.2)) (fun _ h => h.1)); replace HK := za (KeepBut.trans zq7 hk (.inl rfl)); replace HB := za (hb); replace HI0 := za (hi)) | ((with_reducible refine gate_callee (f := 21) rfl ?_); refine goesL_ (some 22) rfl rfl Try.func21 zq18 rfl #[.pointer (some ⟨g, 0, none⟩), .string (⟨#[125]⟩ : ByteArray)] rfl zq1 ?_; (with_reducible refine (rr_want.calls g s0_0 t702 t703 t704 t705 (⟨#[125]⟩ : ByteArray) t706 t707 t708 t709 w0 _ ?side1 ?side2 A7.out).mono ?_); (case side1 => exact zq0); (case side2 => exact zq3); rintro e w10 ⟨rfl, hi, hb, hk⟩; refine ⟨_, rfl, ?_⟩; replace HO_3 := za (Kd.R_mono (Kd.R_keep (IsS57.apart (show IsS57 w0 _ g s0_0 t702 t703 t704 t705 from zq0) (zr HO_3.out) (by decide)) hk (fun _ h => h.2)) (fun _ h => h.1)); replace HK := za (KeepBut.trans zq7 hk (.inl rfl)); replace HB := za (hb); replace HI0 := za (hi); (try clear hb hk hi); obtain ⟨ASz11_0, cSz11_0, HGz11, hgz11, HSz11_0⟩ := HI0.out; have hcz11_0 := cellS57_0 HGz11; have hcz11_1 := cellS57_1 HGz11; have hcz11_2 := cellS57_2 HGz11; have hcz11_3 := cellS57_3 HGz11; have hcz11_4 := cellS57_4 HGz11; have hfz11_1 := blk_frozen HGz11 1; have hfz11_2 := blk_frozen HGz11 2; have hfz11_3 := blk_frozen HGz11 3; have hfz11_4 := blk_frozen HGz11 4; clear HGz11 hgz11))
     go_ret
     exact ⟨_, zq16, by (with_reducible repeat (first | apply Kd.R_alloc | apply Kd.R_drewN | apply Kd.R_drew)); exact Kd.R_mono (Kd.R_far (p := ⟨g, 2, none⟩) (IsS57.apart HI0.out HO_3.out (by decide)) (fun _ hk => hk.2) (.int .i64 (wrap64 (t707 - 1)))) (fun _ hk => trivial), zq0, zq3, zq7⟩
    ·
     replace c6 := Bool.eq_false_iff.mpr c6
     subst c6
     rw [if_neg (show ¬ (false = true) by decide)] at H
     replace H := Option.bind_eq_some_iff.mp H
     obtain ⟨⟨t710, t711, t712, t713, t714, t715, t716, t717, t718, t721, t724, t727, t730, t731, t732, t733⟩, A120, H⟩ := H
     (try dsimp only at H)
     have A12 := za A120
     clear A120
     by_cases c13 : x3_1.length < 703687441776
     ·
      rw [if_pos c13] at H
      have LMc13 := za c13
      clear c13
      obtain ⟨y734, hy734⟩ : ∃ y_ : List (S45), y_ = (x3_1 ++ [(⟨t710, t711, t712, t713, t714, t715, t716, t717, t718, t721, t724, t727⟩ : S45)]) := ⟨_, rfl⟩
      replace H : (rr_block.l0 k1 y734 s0_0 t730 t731 t732 t733) = some (r1, r2, r3, r4, r5) := by first | (rw [hy734]; with_reducible exact H) | (have H2_ := (Option.bind_some _ _).symm.trans H; rw [hy734]; with_reducible exact H2_) | (have H2_ := (Option.bind_some _ _).symm.trans H; with_reducible exact H2_) | with_reducible exact H | (rw [hy734]; exact H) | exact H
      have Ny734 := za hy734
      clear hy734
      have H' := za H
      clear H
      obtain ⟨ASz14_0, cSz14_0, HGz14, hgz14, HSz14_0⟩ := HI0.out
      have hcz14_0 := cellS57_0 HGz14
      have hcz14_1 := cellS57_1 HGz14
      have hcz14_2 := cellS57_2 HGz14
      have hcz14_3 := cellS57_3 HGz14
      have hcz14_4 := cellS57_4 HGz14
      have hfz14_1 := blk_frozen HGz14 1
      have hfz14_2 := blk_frozen HGz14 2
      have hfz14_3 := blk_frozen HGz14 3
      have hfz14_4 := blk_frozen HGz14 4
      clear HGz14 hgz14
      go_wp2_with (first | ((with_reducible refine gate_callee (f := 30) rfl ?_); (with_reducible refine gate_dst (N := 13) rfl ?_); (refine gate_guard (by rfl) ?_; dsimp only); refine goesL_ (some 13) rfl rfl Try.func30 zq18 rfl #[.pointer (some ⟨g, 0, none⟩), .string (⟨#[125]⟩ : ByteArray)] rfl zq1 ?_; (with_reducible refine (rr_is.calls g s0_0 x1001_1 x1002_1 x1003_1 x1004_1 (⟨#[125]⟩ : ByteArray) false t702 t703 t704 t705 w0 _ ?side1 ?side2 A5.out).mono ?_); (case side1 => exact zq0); (case side2 => exact zq3); rintro e w15 ⟨rfl, hi, hb, hk⟩; refine ⟨_, rfl, ?_⟩; replace HO_3 := za (Kd.R_mono (Kd.R_keep (IsS57.apart (show IsS57 w0 _ g s0_0 x1001_1 x1002_1 x1003_1 x1004_1 from zq0) (zr HO_3.out) (by decide)) hk (fun _ h => h.2)) (fun _ h => h.1)); replace HK := za (KeepBut.trans zq7 hk (.inl rfl)); replace HB := za (hb); replace HI0 := za (hi)) | ((with_reducible refine gate_callee (f := 39) rfl ?_); refine goesL_ (some 18) rfl rfl Try.func39 zq18 rfl #[.pointer (some ⟨g, 0, none⟩)] rfl zq1 ?_; (with_reducible refine (IH39_.out k1 (by have := HK1.out; omega) g s0_0 t702 t703 t704 t705 t710 t711 t712 t713 t714 t715 t716 t717 t718 t721 t724 t727 t730 t731 t732 t733 w0 _ ?side1 ?side2 A12.out).mono ?_); (case side1 => exact zq0); (case side2 => exact zq3); rintro e w16 ⟨v719, v722, v725, v728, rfl, ho0, ho1, ho2, ho3, hi, hb, hk⟩; refine ⟨_, rfl, ?_⟩; have HO720 := za (Kd.R_lower ho0 (keep_size (w := w) (g := g) (row := none) zq7)); have HO723 := za (Kd.S_lower ho1 (keep_size (w := w) (g := g) (row := none) zq7)); have HO726 := za (Kd.R_lower (Kd.R_new' ho2 (Kd.R_lt (zr HO_3.out))) (keep_size (w := w) (g := g) (row := none) zq7)); have HO729 := za (Kd.R_lower (Kd.R_new' ho3 (Kd.R_lt (zr HO_3.out))) (keep_size (w := w) (g := g) (row := none) zq7)); replace HO_3 := za (Kd.R_mono (Kd.R_told (Kd.R_told (Kd.R_told (Kd.R_told (Kd.R_oldK (IsS57.apart (show IsS57 w0 _ g s0_0 t702 t703 t704 t705 from zq0) (zr HO_3.out) (by decide)) hk) (Kd.R_base ho0)) (Kd.S_base ho1)) (Kd.R_base ho2)) (Kd.R_base ho3)) (fun _ h_ => h_.1)); replace HK := za (KeepBut.trans zq7 hk (.inl rfl)); replace HB := za (hb); replace HI0 := za (hi); (try clear hb hk hi ho0 ho1 ho2 ho3); obtain ⟨Ao18, co18, eo18⟩ := Kd.R_slice HO720.out; subst eo18; obtain ⟨Ao19, co19, eo19⟩ := Kd.S_slice HO723.out; subst eo19; obtain ⟨Ao20, co20, eo20⟩ := Kd.R_slice HO726.out; subst eo20; obtain ⟨Ao21, co21, eo21⟩ := Kd.R_slice HO729.out; subst eo21) | ((with_reducible refine gate_builtin (b := .append) (xs := #[.tmp 16, .tmp 19]) rfl ?_); at_builtin; refine Kd.R_append k45 w.heap.size rfl (.tmp 16) (.tmp 19) 40 45 (.agg #[(.int .i64 0), (.int .i64 0), (.string ⟨#[]⟩), (.string ⟨#[]⟩), (.string ⟨#[]⟩), (.bool false), (.string ⟨#[]⟩), (.string ⟨#[]⟩), (.slice none 0 0), (.slice none 0 0), (.slice none 0 0), (.slice none 0 0)]) 200 rfl Try.underlying40 info45 rfl (by decide) (by omega) u3 x3_1 (⟨t710, t711, t712, t713, t714, t715, t716, t717, t718, t721, t724, t727⟩ : S45) [.int .i64 t710, .int .i64 t711, .string t712, .string t713, .string t714, .bool t715, .string t716, .string t717, .slice Ao18 t718.length co18, .slice Ao19 t721.length co19, .slice Ao20 t724.length co20, .slice Ao21 t727.length co21] (fun _ => True) (fun k_ => ((fun _ => True)) k_ ∧ some k_ ≠ (u3 : Value).ownBlock) rfl rfl ?aP (fun _ hk => hk) ?aF ?aO (Below.refl _ _) ?aS ?aL ?_; (case aP => exact k45_mkM _ _ _ (⟨t710, t711, t712, t713, t714, t715, t716, t717, t718, t721, t724, t727⟩ : S45) (Kd.R_mono (Kd.R_apart' (HO720.out) (Kd.R_typed HO_3.out) (by decide)) (fun k_ hk => ⟨trivial, hk.2⟩)) (Kd.R_mono (Kd.R_apart' ((Kd.S_R HO723.out)) (Kd.R_typed HO_3.out) (by decide)) (fun k_ hk => ⟨trivial, hk.2⟩)) (Kd.R_mono (HO726.out) (fun k_ hk => ⟨trivial, hk.2⟩)) (Kd.R_mono (HO729.out) (fun k_ hk => ⟨trivial, hk.2⟩))); (case aF => exact (fun _ _ => trivial)); (case aO => exact (by (with_reducible repeat (first | apply Kd.R_alloc | apply Kd.R_drewN | apply Kd.R_drew)); exact Kd.R_mono HO_3.out (fun _ hk => trivial))); (case aS => exact (keep_size (w := w) (g := g) (row := none) zq7)); (case aL => have := LMc13.out; omega); intro v735 w17 ho hb hg hat; rw [← Ny734.out] at ho; replace HB := za (below_weaken zq3 HL.out hb); replace HI0 := za (IsS57.grown zq0 hg (IsS57.own_ne HI0.out HO_3.out (by decide))); replace HK := za (KeepBut.trans zq7 (KeepBut.of_grown hg g) (Kd.R_base2 HO_3.out)); have HO736 := za (ho); clear HO_3 HO720 HO723 HO726 HO729; clear ho hb hg hat))
      go_roundg k1
      case measure => have := HK1.out; omega
      case rel => exact ⟨(y734), (t730), (t731), (t732), (t733), H', ⟨by have := HK1.out; omega⟩, ⟨by (with_reducible repeat (first | apply Kd.R_alloc | apply Kd.R_drewN | apply Kd.R_drew)); exact HO736.out⟩, ⟨zq0⟩, ⟨zq7⟩, ⟨zq3⟩⟩
     ·
      rw [if_neg c13] at H
      exact absurd H (by simp)
   ·
    rw [if_neg c4] at H
    have c4b0 := beq_eq_false_iff_ne.mpr c4
    have c4b1 := bne_iff_ne.mpr c4
    replace H := Option.bind_eq_some_iff.mp H
    obtain ⟨⟨t737, t738, t739, t740⟩, A220, H⟩ := H
    (try dsimp only at H)
    have A22 := za A220
    clear A220
    simp only [Option.some.injEq, Prod.mk.injEq] at H
    obtain ⟨rfl, rfl, rfl, rfl, rfl⟩ := H
    obtain ⟨ASz23_0, cSz23_0, HGz23, hgz23, HSz23_0⟩ := HI0.out
    have hcz23_0 := cellS57_0 HGz23
    have hcz23_1 := cellS57_1 HGz23
    have hcz23_2 := cellS57_2 HGz23
    have hcz23_3 := cellS57_3 HGz23
    have hcz23_4 := cellS57_4 HGz23
    have hfz23_1 := blk_frozen HGz23 1
    have hfz23_2 := blk_frozen HGz23 2
    have hfz23_3 := blk_frozen HGz23 3
    have hfz23_4 := blk_frozen HGz23 4
    clear HGz23 hgz23
    go_wp2_with (first | ((with_reducible refine gate_callee (f := 21) rfl ?_); refine goesL_ (some 22) rfl rfl Try.func21 zq18 rfl #[.pointer (some ⟨g, 0, none⟩), .string (⟨#[125]⟩ : ByteArray)] rfl zq1 ?_; (with_reducible refine (rr_want.calls g s0_0 x1001_1 x1002_1 x1003_1 x1004_1 (⟨#[125]⟩ : ByteArray) t737 t738 t739 t740 w0 _ ?side1 ?side2 A22.out).mono ?_); (case side1 => exact zq0); (case side2 => exact zq3); rintro e w24 ⟨rfl, hi, hb, hk⟩; refine ⟨_, rfl, ?_⟩; replace HO_3 := za (Kd.R_mono (Kd.R_keep (IsS57.apart (show IsS57 w0 _ g s0_0 x1001_1 x1002_1 x1003_1 x1004_1 from zq0) (zr HO_3.out) (by decide)) hk (fun _ h => h.2)) (fun _ h => h.1)); replace HK := za (KeepBut.trans zq7 hk (.inl rfl)); replace HB := za (hb); replace HI0 := za (hi); (try clear hb hk hi); obtain ⟨ASz25_0, cSz25_0, HGz25, hgz25, HSz25_0⟩ := HI0.out; have hcz25_0 := cellS57_0 HGz25; have hcz25_1 := cellS57_1 HGz25; have hcz25_2 := cellS57_2 HGz25; have hcz25_3 := cellS57_3 HGz25; have hcz25_4 := cellS57_4 HGz25; have hfz25_1 := blk_frozen HGz25 1; have hfz25_2 := blk_frozen HGz25 2; have hfz25_3 := blk_frozen HGz25 3; have hfz25_4 := blk_frozen HGz25 4; clear HGz25 hgz25))
    go_ret
    exact ⟨_, zq16, by (with_reducible repeat (first | apply Kd.R_alloc | apply Kd.R_drewN | apply Kd.R_drew)); exact Kd.R_mono (Kd.R_far (p := ⟨g, 2, none⟩) (IsS57.apart HI0.out HO_3.out (by decide)) (fun _ hk => hk.2) (.int .i64 (wrap64 (t738 - 1)))) (fun _ hk => trivial), zq0, zq3, zq7⟩
theorem rr_stmt_group.all (k : Nat) : (∀ (g : Nat) (s0_0 : List (S69)) (s0_1 : Int) (s0_2 : Int) (s0_3 : Int) (s0_4 : Int) (r1 : Int) (r2 : Int) (r3 : ByteArray) (r4 : ByteArray) (r5 : ByteArray) (r6 : Bool) (r7 : ByteArray) (r8 : ByteArray) (r9 : List (S48)) (r10 : List (List (S48))) (r11 : List (S45)) (r12 : List (S45)) (r13 : Int) (r14 : Int) (r15 : Int) (r16 : Int) (w0 w : World) (hI : IsS57 w0 w g s0_0 s0_1 s0_2 s0_3 s0_4) (hB : Below w0.heap.size w0 w) (h : rr_stmt.f k s0_0 s0_1 s0_2 s0_3 s0_4 = some (r1, r2, r3, r4, r5, r6, r7, r8, r9, r10, r11, r12, r13, r14, r15, r16)),
  Calls Try.prog 39 #[.pointer (some ⟨g, 0, none⟩)] w fun e w' => ∃ v8_ v9_ v10_ v11_ : Value, e = .returned (.agg #[.int .i64 r1, .int .i64 r2, .string r3, .string r4, .string r5, .bool r6, .string r7, .string r8, v8_, v9_, v10_, v11_]) ∧ Kd.R k48 48 w' w.heap.size (fun _ => True) v8_ r9 ∧ Kd.S (Kd.slice 48 k48) 23 w' w.heap.size (fun k_ => some k_ ≠ (v8_ : Value).ownBlock) v9_ r10 ∧ Kd.R k45 45 w' w.heap.size (fun k_ => some k_ ≠ (v8_ : Value).ownBlock ∧ some k_ ≠ (v9_ : Value).ownBlock ∧ some k_ ≠ (v11_ : Value).ownBlock) v10_ r11 ∧ Kd.R k45 45 w' w.heap.size (fun k_ => some k_ ≠ (v8_ : Value).ownBlock ∧ some k_ ≠ (v9_ : Value).ownBlock ∧ some k_ ≠ (v10_ : Value).ownBlock) v11_ r12 ∧ IsS57 w0 w' g s0_0 r13 r14 r15 r16 ∧ Below w0.heap.size w0 w' ∧ KeepBut w w' g none) ∧ (∀ (g : Nat) (s0_0 : List (S69)) (s0_1 : Int) (s0_2 : Int) (s0_3 : Int) (s0_4 : Int) (r1 : List (S45)) (r2 : Int) (r3 : Int) (r4 : Int) (r5 : Int) (w0 w : World) (hI : IsS57 w0 w g s0_0 s0_1 s0_2 s0_3 s0_4) (hB : Below w0.heap.size w0 w) (h : rr_block.f k s0_0 s0_1 s0_2 s0_3 s0_4 = some (r1, r2, r3, r4, r5)),
  Calls Try.prog 32 #[.pointer (some ⟨g, 0, none⟩)] w fun e w' => ∃ v0_ : Value, e = .returned (v0_) ∧ Kd.R k45 45 w' w.heap.size (fun _ => True) v0_ r1 ∧ IsS57 w0 w' g s0_0 r2 r3 r4 r5 ∧ Below w0.heap.size w0 w' ∧ KeepBut w w' g none) := by
 induction k using Nat.strongRecOn with
 | _ k ih => exact ⟨rr_stmt.step k ⟨fun m hm => (ih m hm).1⟩ ⟨fun m hm => (ih m hm).2⟩, rr_block.step k ⟨fun m hm => (ih m hm).1⟩ ⟨fun m hm => (ih m hm).2⟩⟩
theorem rr_stmt.calls (k : Nat) : ∀ (g : Nat) (s0_0 : List (S69)) (s0_1 : Int) (s0_2 : Int) (s0_3 : Int) (s0_4 : Int) (r1 : Int) (r2 : Int) (r3 : ByteArray) (r4 : ByteArray) (r5 : ByteArray) (r6 : Bool) (r7 : ByteArray) (r8 : ByteArray) (r9 : List (S48)) (r10 : List (List (S48))) (r11 : List (S45)) (r12 : List (S45)) (r13 : Int) (r14 : Int) (r15 : Int) (r16 : Int) (w0 w : World) (hI : IsS57 w0 w g s0_0 s0_1 s0_2 s0_3 s0_4) (hB : Below w0.heap.size w0 w) (h : rr_stmt.f k s0_0 s0_1 s0_2 s0_3 s0_4 = some (r1, r2, r3, r4, r5, r6, r7, r8, r9, r10, r11, r12, r13, r14, r15, r16)),
  Calls Try.prog 39 #[.pointer (some ⟨g, 0, none⟩)] w fun e w' => ∃ v8_ v9_ v10_ v11_ : Value, e = .returned (.agg #[.int .i64 r1, .int .i64 r2, .string r3, .string r4, .string r5, .bool r6, .string r7, .string r8, v8_, v9_, v10_, v11_]) ∧ Kd.R k48 48 w' w.heap.size (fun _ => True) v8_ r9 ∧ Kd.S (Kd.slice 48 k48) 23 w' w.heap.size (fun k_ => some k_ ≠ (v8_ : Value).ownBlock) v9_ r10 ∧ Kd.R k45 45 w' w.heap.size (fun k_ => some k_ ≠ (v8_ : Value).ownBlock ∧ some k_ ≠ (v9_ : Value).ownBlock ∧ some k_ ≠ (v11_ : Value).ownBlock) v10_ r11 ∧ Kd.R k45 45 w' w.heap.size (fun k_ => some k_ ≠ (v8_ : Value).ownBlock ∧ some k_ ≠ (v9_ : Value).ownBlock ∧ some k_ ≠ (v10_ : Value).ownBlock) v11_ r12 ∧ IsS57 w0 w' g s0_0 r13 r14 r15 r16 ∧ Below w0.heap.size w0 w' ∧ KeepBut w w' g none := (rr_stmt_group.all k).1
theorem rr_block.calls (k : Nat) : ∀ (g : Nat) (s0_0 : List (S69)) (s0_1 : Int) (s0_2 : Int) (s0_3 : Int) (s0_4 : Int) (r1 : List (S45)) (r2 : Int) (r3 : Int) (r4 : Int) (r5 : Int) (w0 w : World) (hI : IsS57 w0 w g s0_0 s0_1 s0_2 s0_3 s0_4) (hB : Below w0.heap.size w0 w) (h : rr_block.f k s0_0 s0_1 s0_2 s0_3 s0_4 = some (r1, r2, r3, r4, r5)),
  Calls Try.prog 32 #[.pointer (some ⟨g, 0, none⟩)] w fun e w' => ∃ v0_ : Value, e = .returned (v0_) ∧ Kd.R k45 45 w' w.heap.size (fun _ => True) v0_ r1 ∧ IsS57 w0 w' g s0_0 r2 r3 r4 r5 ∧ Below w0.heap.size w0 w' ∧ KeepBut w w' g none := (rr_stmt_group.all k).2
end Go.Proofs.Ytcmpmlklednhbaa.QEvalJoins
