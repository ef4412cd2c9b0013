import Derived.Test.YtkhalpeiifdfiaaZMOQMemoryOrdersx0
import Derived.Test.YtkhalpeiifdfiaaZMOQMemoryOrdersx5
import Derived.Test.YtkhalpeiifdfiaaZMOQMemoryOrdersx6
namespace Go.Proofs.Ytkhalpeiifdfiaa.QMemoryOrders
open Go.RowKit Go.Proofs.YtkhalpeiifdfiaaW.PrintWords Go.Proofs.YtkhalpeiifdfiaaW.PrintLast Go.Proofs.YtkhalpeiifdfiaaW.PrintMore
attribute [local go_sem] max2_int min2_int max_two min_two max_three min_three max_four min_four
set_option linter.unusedVariables false
set_option linter.unusedSimpArgs false
def aquiferref11_reader_variable.j0 : Nat → Bool → Bool → List (S122) → Int → Int → Int → Int → ByteArray → ByteArray → Int → Int → Int → ByteArray → Int → Option (ByteArray × ByteArray × Int × Int × Int × Int × Int × Int)
  | 0, _, _, _, _, _, _, _, _, _, _, _, _, _, _ => none
  | k + 1, x4, x39, x1000, x1001, x1002, x1003, x1004, x185000, x185001, x185002, x185003, x205000, x205001, x205002 => if x39 = true then (none) else ((aquiferref11_num.f k x205001).bind fun t205 => (if x4 = true then (none) else ((aquiferref11_reader_want.f x1000 (wrap64 (x1001 + 1)) x1002 x1003 x1004 (⟨#[59]⟩ : ByteArray)).bind fun bt206 => (some (x185000, x185001, t205, x185003, bt206.1, bt206.2.1, bt206.2.2.1, bt206.2.2.2)))))
def aquiferref11_reader_variable.f (k : Nat) (s0_0 : List (S122)) (s0_1 : Int) (s0_2 : Int) (s0_3 : Int) (s0_4 : Int) : Option (ByteArray × ByteArray × Int × Int × Int × Int × Int × Int) := (aquiferref11_reader_here.f s0_0 s0_1 s0_2 s0_3 s0_4).bind fun bt174 => ((aquiferref11_reader_name.f s0_0 bt174.2.1 bt174.2.2.1 bt174.2.2.2.1 bt174.2.2.2.2).bind fun bt179 => ((aquiferref11_reader_want.f s0_0 bt179.2.1 bt179.2.2.1 bt179.2.2.2.1 bt179.2.2.2.2 (⟨#[58]⟩ : ByteArray)).bind fun bt185 => ((aquiferref11_reader_name.f s0_0 bt185.1 bt185.2.1 bt185.2.2.1 bt185.2.2.2).bind fun bt189 => ((aquiferref11_reader_want.f s0_0 bt189.2.1 bt189.2.2.1 bt189.2.2.2.1 bt189.2.2.2.2 (⟨#[61]⟩ : ByteArray)).bind fun bt194 => ((aquiferref11_reader_take.f s0_0 bt194.1 bt194.2.1 bt194.2.2.1 bt194.2.2.2 (⟨#[45]⟩ : ByteArray)).bind fun bt198 => (if 0 ≤ bt198.2.1 then (if bt198.2.1 < (s0_0.length : Int) then (if bt198.2.2.2.1 = 0 then (aquiferref11_reader_variable.j0 k bt198.1 (((rd_T122 s0_0 bt198.2.1).f0) != 2) s0_0 bt198.2.1 bt198.2.2.1 bt198.2.2.2.1 bt198.2.2.2.2 bt179.1 bt189.1 0 bt174.1 ((rd_T122 s0_0 bt198.2.1).f0) ((rd_T122 s0_0 bt198.2.1).f1) ((rd_T122 s0_0 bt198.2.1).f2)) else (aquiferref11_reader_variable.j0 k bt198.1 true s0_0 bt198.2.1 bt198.2.2.1 bt198.2.2.2.1 bt198.2.2.2.2 bt179.1 bt189.1 0 bt174.1 ((rd_T122 s0_0 bt198.2.1).f0) ((rd_T122 s0_0 bt198.2.1).f1) ((rd_T122 s0_0 bt198.2.1).f2))) else (none)) else (none)))))))
theorem aquiferref11_reader_variable.mono_l : ∀ k, (∀ y0 y1 y2 y3 y4 y5 y6 y7 y8 y9 y10 y11 y12 y13, LeO (aquiferref11_reader_variable.j0 k y0 y1 y2 y3 y4 y5 y6 y7 y8 y9 y10 y11 y12 y13) (aquiferref11_reader_variable.j0 (k + 1) y0 y1 y2 y3 y4 y5 y6 y7 y8 y9 y10 y11 y12 y13))
  | 0 => fun _ _ _ _ _ _ _ _ _ _ _ _ _ _ r h => by simp [aquiferref11_reader_variable.j0] at h
  | k + 1 => by
    have ih0 := aquiferref11_reader_variable.mono_l k
    · intro y0 y1 y2 y3 y4 y5 y6 y7 y8 y9 y10 y11 y12 y13
      unfold aquiferref11_reader_variable.j0
      repeat' first
      | (with_reducible exact ih0 _ _ _ _ _ _ _ _ _ _ _ _ _ _)
      | (with_reducible exact aquiferref11_num.mono _ _)
      | (with_reducible exact LeO.refl _)
      | (with_reducible exact LeO.none _)
      | (with_reducible refine LeO.ite ?_ ?_)
      | (with_reducible refine LeO.bind ?_ (fun _ => ?_))
      | exact ih0 _ _ _ _ _ _ _ _ _ _ _ _ _ _
      | exact aquiferref11_num.mono _ _
      | exact LeO.none _
      | refine LeO.ite ?_ ?_
      | refine LeO.bind ?_ (fun _ => ?_)
theorem aquiferref11_reader_variable.mono : ∀ a0 a1 a2 a3 a4 k, LeO (aquiferref11_reader_variable.f k a0 a1 a2 a3 a4) (aquiferref11_reader_variable.f (k + 1) a0 a1 a2 a3 a4) := by
  intro a0 a1 a2 a3 a4 k
  have ih0 := aquiferref11_reader_variable.mono_l k
  unfold aquiferref11_reader_variable.f
  repeat' first
      | (with_reducible exact ih0 _ _ _ _ _ _ _ _ _ _ _ _ _ _)
      | (with_reducible exact aquiferref11_num.mono _ _)
      | (with_reducible exact LeO.refl _)
      | (with_reducible exact LeO.none _)
      | (with_reducible refine LeO.ite ?_ ?_)
      | (with_reducible refine LeO.bind ?_ (fun _ => ?_))
      | exact ih0 _ _ _ _ _ _ _ _ _ _ _ _ _ _
      | exact aquiferref11_num.mono _ _
      | exact LeO.none _
      | refine LeO.ite ?_ ?_
      | refine LeO.bind ?_ (fun _ => ?_)
def aquiferref11_reader_variable.T6 : Bool × List (List Nat × List Nat) := (true, [([], []), ([0], [0]), ([1], [1]), ([2], [2]), ([], []), ([4], [4]), ([5], [5]), ([6], [6]), ([3, 7], [3, 7]), ([8], [8]), ([], []), ([10, 9, 0, 1, 2, 3, 4, 5, 6, 7, 8, 9, 10], [9, 10])])
def aquiferref11_reader_variable.B6 : List Nat := [0, 1, 3, 7, 0, 16, 48, 112, 255, 511, 0, 2047]
theorem aquiferref11_reader_variable.tab6 : rtab .any (opsOf Try.f77 6) = aquiferref11_reader_variable.T6 := by kernel_rfl
theorem aquiferref11_reader_variable.bits6 : waitsOk aquiferref11_reader_variable.T6.2 aquiferref11_reader_variable.B6 = true := by kernel_rfl
set_option maxHeartbeats 8000000 in
set_option maxRecDepth 100000 in
theorem aquiferref11_reader_variable.calls (k : Nat) (g : Nat) (s0_0 : List (S122)) (s0_1 : Int) (s0_2 : Int) (s0_3 : Int) (s0_4 : Int) (r1 : ByteArray) (r2 : ByteArray) (r3 : Int) (r4 : Int) (r5 : Int) (r6 : Int) (r7 : Int) (r8 : Int) (w0 w : World) (hI : IsS98 w0 w g s0_0 s0_1 s0_2 s0_3 s0_4) (hB : Below w0.heap.size w0 w) (h : aquiferref11_reader_variable.f k s0_0 s0_1 s0_2 s0_3 s0_4 = some (r1, r2, r3, r4, r5, r6, r7, r8)) :
    Calls Try.prog 77 #[.pointer (some ⟨g, 0, none⟩)] w fun e w' => e = .returned (.agg #[.string r1, .string r2, .int .i64 r3, .int .i64 r4]) ∧ IsS98 w0 w' g s0_0 r5 r6 r7 r8 ∧ Below w0.heap.size w0 w' ∧ KeepBut w w' g none := by
  have hu81 := Try.underlying81
  have hu122 := Try.underlying122
  have HI0 := Aside0.mk hI
  have HK := Aside0.mk (KeepBut.refl w g none)
  have HL := Aside0.mk hB.size
  clear hI
  have HW0 := Aside0.mk hB.size
  have HB := Aside0.mk hB
  clear hB
  have H : ((aquiferref11_reader_here.f s0_0 s0_1 s0_2 s0_3 s0_4).bind fun bt174 => ((aquiferref11_reader_name.f s0_0 bt174.2.1 bt174.2.2.1 bt174.2.2.2.1 bt174.2.2.2.2).bind fun bt179 => ((aquiferref11_reader_want.f s0_0 bt179.2.1 bt179.2.2.1 bt179.2.2.2.1 bt179.2.2.2.2 (⟨#[58]⟩ : ByteArray)).bind fun bt185 => ((aquiferref11_reader_name.f s0_0 bt185.1 bt185.2.1 bt185.2.2.1 bt185.2.2.2).bind fun bt189 => ((aquiferref11_reader_want.f s0_0 bt189.2.1 bt189.2.2.1 bt189.2.2.2.1 bt189.2.2.2.2 (⟨#[61]⟩ : ByteArray)).bind fun bt194 => ((aquiferref11_reader_take.f s0_0 bt194.1 bt194.2.1 bt194.2.2.1 bt194.2.2.2 (⟨#[45]⟩ : ByteArray)).bind fun bt198 => (if 0 ≤ bt198.2.1 then (if bt198.2.1 < (s0_0.length : Int) then (if bt198.2.2.2.1 = 0 then (aquiferref11_reader_variable.j0 k bt198.1 (((rd_T122 s0_0 bt198.2.1).f0) != 2) s0_0 bt198.2.1 bt198.2.2.1 bt198.2.2.2.1 bt198.2.2.2.2 bt179.1 bt189.1 0 bt174.1 ((rd_T122 s0_0 bt198.2.1).f0) ((rd_T122 s0_0 bt198.2.1).f1) ((rd_T122 s0_0 bt198.2.1).f2)) else (aquiferref11_reader_variable.j0 k bt198.1 true s0_0 bt198.2.1 bt198.2.2.1 bt198.2.2.2.1 bt198.2.2.2.2 bt179.1 bt189.1 0 bt174.1 ((rd_T122 s0_0 bt198.2.1).f0) ((rd_T122 s0_0 bt198.2.1).f1) ((rd_T122 s0_0 bt198.2.1).f2))) else (none)) else (none)))))))) = some (r1, r2, r3, r4, r5, r6, r7, r8) := h
  clear h
  replace H := Option.bind_eq_some_iff.mp H
  obtain ⟨⟨t174, t175, t176, t177, t178⟩, A20, H⟩ := H
  replace H : ((aquiferref11_reader_name.f s0_0 t175 t176 t177 t178).bind fun bt179 => ((aquiferref11_reader_want.f s0_0 bt179.2.1 bt179.2.2.1 bt179.2.2.2.1 bt179.2.2.2.2 (⟨#[58]⟩ : ByteArray)).bind fun bt185 => ((aquiferref11_reader_name.f s0_0 bt185.1 bt185.2.1 bt185.2.2.1 bt185.2.2.2).bind fun bt189 => ((aquiferref11_reader_want.f s0_0 bt189.2.1 bt189.2.2.1 bt189.2.2.2.1 bt189.2.2.2.2 (⟨#[61]⟩ : ByteArray)).bind fun bt194 => ((aquiferref11_reader_take.f s0_0 bt194.1 bt194.2.1 bt194.2.2.1 bt194.2.2.2 (⟨#[45]⟩ : ByteArray)).bind fun bt198 => (if 0 ≤ bt198.2.1 then (if bt198.2.1 < (s0_0.length : Int) then (if bt198.2.2.2.1 = 0 then (aquiferref11_reader_variable.j0 k bt198.1 (((rd_T122 s0_0 bt198.2.1).f0) != 2) s0_0 bt198.2.1 bt198.2.2.1 bt198.2.2.2.1 bt198.2.2.2.2 bt179.1 bt189.1 0 t174 ((rd_T122 s0_0 bt198.2.1).f0) ((rd_T122 s0_0 bt198.2.1).f1) ((rd_T122 s0_0 bt198.2.1).f2)) else (aquiferref11_reader_variable.j0 k bt198.1 true s0_0 bt198.2.1 bt198.2.2.1 bt198.2.2.2.1 bt198.2.2.2.2 bt179.1 bt189.1 0 t174 ((rd_T122 s0_0 bt198.2.1).f0) ((rd_T122 s0_0 bt198.2.1).f1) ((rd_T122 s0_0 bt198.2.1).f2))) else (none)) else (none))))))) = some (r1, r2, r3, r4, r5, r6, r7, r8) := H
  have A2 := Aside0.mk A20
  clear A20
  replace H := Option.bind_eq_some_iff.mp H
  obtain ⟨⟨t179, t180, t181, t182, t183⟩, A30, H⟩ := H
  replace H : ((aquiferref11_reader_want.f s0_0 t180 t181 t182 t183 (⟨#[58]⟩ : ByteArray)).bind fun bt185 => ((aquiferref11_reader_name.f s0_0 bt185.1 bt185.2.1 bt185.2.2.1 bt185.2.2.2).bind fun bt189 => ((aquiferref11_reader_want.f s0_0 bt189.2.1 bt189.2.2.1 bt189.2.2.2.1 bt189.2.2.2.2 (⟨#[61]⟩ : ByteArray)).bind fun bt194 => ((aquiferref11_reader_take.f s0_0 bt194.1 bt194.2.1 bt194.2.2.1 bt194.2.2.2 (⟨#[45]⟩ : ByteArray)).bind fun bt198 => (if 0 ≤ bt198.2.1 then (if bt198.2.1 < (s0_0.length : Int) then (if bt198.2.2.2.1 = 0 then (aquiferref11_reader_variable.j0 k bt198.1 (((rd_T122 s0_0 bt198.2.1).f0) != 2) s0_0 bt198.2.1 bt198.2.2.1 bt198.2.2.2.1 bt198.2.2.2.2 t179 bt189.1 0 t174 ((rd_T122 s0_0 bt198.2.1).f0) ((rd_T122 s0_0 bt198.2.1).f1) ((rd_T122 s0_0 bt198.2.1).f2)) else (aquiferref11_reader_variable.j0 k bt198.1 true s0_0 bt198.2.1 bt198.2.2.1 bt198.2.2.2.1 bt198.2.2.2.2 t179 bt189.1 0 t174 ((rd_T122 s0_0 bt198.2.1).f0) ((rd_T122 s0_0 bt198.2.1).f1) ((rd_T122 s0_0 bt198.2.1).f2))) else (none)) else (none)))))) = some (r1, r2, r3, r4, r5, r6, r7, r8) := H
  have A3 := Aside0.mk A30
  clear A30
  replace H := Option.bind_eq_some_iff.mp H
  obtain ⟨⟨t185, t186, t187, t188⟩, A40, H⟩ := H
  replace H : ((aquiferref11_reader_name.f s0_0 t185 t186 t187 t188).bind fun bt189 => ((aquiferref11_reader_want.f s0_0 bt189.2.1 bt189.2.2.1 bt189.2.2.2.1 bt189.2.2.2.2 (⟨#[61]⟩ : ByteArray)).bind fun bt194 => ((aquiferref11_reader_take.f s0_0 bt194.1 bt194.2.1 bt194.2.2.1 bt194.2.2.2 (⟨#[45]⟩ : ByteArray)).bind fun bt198 => (if 0 ≤ bt198.2.1 then (if bt198.2.1 < (s0_0.length : Int) then (if bt198.2.2.2.1 = 0 then (aquiferref11_reader_variable.j0 k bt198.1 (((rd_T122 s0_0 bt198.2.1).f0) != 2) s0_0 bt198.2.1 bt198.2.2.1 bt198.2.2.2.1 bt198.2.2.2.2 t179 bt189.1 0 t174 ((rd_T122 s0_0 bt198.2.1).f0) ((rd_T122 s0_0 bt198.2.1).f1) ((rd_T122 s0_0 bt198.2.1).f2)) else (aquiferref11_reader_variable.j0 k bt198.1 true s0_0 bt198.2.1 bt198.2.2.1 bt198.2.2.2.1 bt198.2.2.2.2 t179 bt189.1 0 t174 ((rd_T122 s0_0 bt198.2.1).f0) ((rd_T122 s0_0 bt198.2.1).f1) ((rd_T122 s0_0 bt198.2.1).f2))) else (none)) else (none))))) = some (r1, r2, r3, r4, r5, r6, r7, r8) := H
  have A4 := Aside0.mk A40
  clear A40
  replace H := Option.bind_eq_some_iff.mp H
  obtain ⟨⟨t189, t190, t191, t192, t193⟩, A50, H⟩ := H
  replace H : ((aquiferref11_reader_want.f s0_0 t190 t191 t192 t193 (⟨#[61]⟩ : ByteArray)).bind fun bt194 => ((aquiferref11_reader_take.f s0_0 bt194.1 bt194.2.1 bt194.2.2.1 bt194.2.2.2 (⟨#[45]⟩ : ByteArray)).bind fun bt198 => (if 0 ≤ bt198.2.1 then (if bt198.2.1 < (s0_0.length : Int) then (if bt198.2.2.2.1 = 0 then (aquiferref11_reader_variable.j0 k bt198.1 (((rd_T122 s0_0 bt198.2.1).f0) != 2) s0_0 bt198.2.1 bt198.2.2.1 bt198.2.2.2.1 bt198.2.2.2.2 t179 t189 0 t174 ((rd_T122 s0_0 bt198.2.1).f0) ((rd_T122 s0_0 bt198.2.1).f1) ((rd_T122 s0_0 bt198.2.1).f2)) else (aquiferref11_reader_variable.j0 k bt198.1 true s0_0 bt198.2.1 bt198.2.2.1 bt198.2.2.2.1 bt198.2.2.2.2 t179 t189 0 t174 ((rd_T122 s0_0 bt198.2.1).f0) ((rd_T122 s0_0 bt198.2.1).f1) ((rd_T122 s0_0 bt198.2.1).f2))) else (none)) else (none)))) = some (r1, r2, r3, r4, r5, r6, r7, r8) := H
  have A5 := Aside0.mk A50
  clear A50
  replace H := Option.bind_eq_some_iff.mp H
  obtain ⟨⟨t194, t195, t196, t197⟩, A60, H⟩ := H
  replace H : ((aquiferref11_reader_take.f s0_0 t194 t195 t196 t197 (⟨#[45]⟩ : ByteArray)).bind fun bt198 => (if 0 ≤ bt198.2.1 then (if bt198.2.1 < (s0_0.length : Int) then (if bt198.2.2.2.1 = 0 then (aquiferref11_reader_variable.j0 k bt198.1 (((rd_T122 s0_0 bt198.2.1).f0) != 2) s0_0 bt198.2.1 bt198.2.2.1 bt198.2.2.2.1 bt198.2.2.2.2 t179 t189 0 t174 ((rd_T122 s0_0 bt198.2.1).f0) ((rd_T122 s0_0 bt198.2.1).f1) ((rd_T122 s0_0 bt198.2.1).f2)) else (aquiferref11_reader_variable.j0 k bt198.1 true s0_0 bt198.2.1 bt198.2.2.1 bt198.2.2.2.1 bt198.2.2.2.2 t179 t189 0 t174 ((rd_T122 s0_0 bt198.2.1).f0) ((rd_T122 s0_0 bt198.2.1).f1) ((rd_T122 s0_0 bt198.2.1).f2))) else (none)) else (none))) = some (r1, r2, r3, r4, r5, r6, r7, r8) := H
  have A6 := Aside0.mk A60
  clear A60
  replace H := Option.bind_eq_some_iff.mp H
  obtain ⟨⟨t198, t199, t200, t201, t202⟩, A70, H⟩ := H
  replace H : (if 0 ≤ t199 then (if t199 < (s0_0.length : Int) then (if t201 = 0 then (aquiferref11_reader_variable.j0 k t198 (((rd_T122 s0_0 t199).f0) != 2) s0_0 t199 t200 t201 t202 t179 t189 0 t174 ((rd_T122 s0_0 t199).f0) ((rd_T122 s0_0 t199).f1) ((rd_T122 s0_0 t199).f2)) else (aquiferref11_reader_variable.j0 k t198 true s0_0 t199 t200 t201 t202 t179 t189 0 t174 ((rd_T122 s0_0 t199).f0) ((rd_T122 s0_0 t199).f1) ((rd_T122 s0_0 t199).f2))) else (none)) else (none)) = some (r1, r2, r3, r4, r5, r6, r7, r8) := H
  have A7 := Aside0.mk A70
  clear A70
  by_cases c8 : 0 ≤ t199
  · rw [if_pos c8] at H
    have c8b0 : decide (0 ≤ t199) = true := decide_eq_true c8
    clear c8
    by_cases c9 : t199 < (s0_0.length : Int)
    · rw [if_pos c9] at H
      have c9b0 : decide (t199 < (s0_0.length : Int)) = true := decide_eq_true c9
      clear c9
      have HC10 := Aside0.mk H
      clear H
      go_enter Try.func77, Try.ntmps77
      try go_wp2_with (first | ((with_reducible refine gate_dst (N := 2) rfl ?_); refine box_event ?hg (N := 2) ?hd (cs := #[.string (⟨#[]⟩ : ByteArray), .string (⟨#[]⟩ : ByteArray), .int .i64 0, .int .i64 0]) (t := 81) ?hr ?_; (case hd => rfl); (case hg => rfl); (case hr => first | (go_simp; done) | (go_simp; rfl)); intro gb173 hg w11 hbox hb; have n0_ := Aside0.mk (IsS98.below (by repeat (first | (with_reducible first | exact HI0.out | apply IsS98.alloc | apply IsS98.drewN | apply IsS98.drew | apply IsS98.set_1 | apply IsS98.set_2 | apply IsS98.set_3 | apply IsS98.set_4) | exact HI0.out)) hb); have n1_ := Aside0.mk (KeepBut.trans (by repeat (first | (with_reducible first | exact HK.out | apply KeepBut.set_ | apply keep_drewN | apply keep_drew | apply keep_alloc) | exact HK.out)) (KeepBut.of_below hb g none) (.inl rfl)); have n2_ := Aside0.mk (below_step (by repeat (first | (with_reducible first | exact HB.out | apply below_alloc | apply pw_below_drewN | apply below_drew1 | refine below_set ?_ (IsS98.ge HI0.out)) | exact HB.out)) hb); have n3_ := Aside0.mk (hbox); have n4_ := Aside0.mk ((by rw [hg]; exact (keep_size (w := w) (g := g) (row := none) (by repeat (first | (with_reducible first | exact HK.out | apply KeepBut.set_ | apply keep_drewN | apply keep_drew | apply keep_alloc) | exact HK.out))) : w.heap.size ≤ gb173)); have n5_ := Aside0.mk ((Nat.le_trans HW0.out (by rw [hg]; exact (keep_size (w := w) (g := g) (row := none) (by repeat (first | (with_reducible first | exact HK.out | apply KeepBut.set_ | apply keep_drewN | apply keep_drew | apply keep_alloc) | exact HK.out))) : w.heap.size ≤ gb173) : w0.heap.size ≤ gb173)); have n6_ := Aside0.mk ((by rw [hg]; exact Nat.ne_of_lt (IsS98.lt (show IsS98 w0 _ g s0_0 s0_1 s0_2 s0_3 s0_4 from by repeat (first | (with_reducible first | exact HI0.out | apply IsS98.alloc | apply IsS98.drewN | apply IsS98.drew | apply IsS98.set_1 | apply IsS98.set_2 | apply IsS98.set_3 | apply IsS98.set_4) | exact HI0.out))) : g ≠ gb173)); have n7_ := Aside0.mk ((by rw [hg]; exact Nat.ne_of_gt (IsS98.lt (show IsS98 w0 _ g s0_0 s0_1 s0_2 s0_3 s0_4 from by repeat (first | (with_reducible first | exact HI0.out | apply IsS98.alloc | apply IsS98.drewN | apply IsS98.drew | apply IsS98.set_1 | apply IsS98.set_2 | apply IsS98.set_3 | apply IsS98.set_4) | exact HI0.out))) : gb173 ≠ g)); clear HI0; clear HK; clear HB; have HI0 := n0_; have HK := n1_; have HB := n2_; have BK173 := n3_; have GW173 := n4_; have GE173 := n5_; have NB0_173 := n6_; have NB173_0 := n7_; clear n0_ n1_ n2_ n3_ n4_ n5_ n6_ n7_; clear hb hbox hg) | ((with_reducible refine gate_callee (f := 74) rfl ?_); refine goesL_ (some 7) rfl rfl Try.func74 (by kernel_rfl) rfl #[.pointer (some ⟨g, 0, none⟩)] rfl (by (try simp only [List.map_toArray, List.map_cons, List.map_nil]); first | done | rfl | (simp only [List.length_drop, List.length_take]; rfl)) ?_; (with_reducible refine (aquiferref11_reader_here.calls g s0_0 s0_1 s0_2 s0_3 s0_4 t174 t175 t176 t177 t178 w0 _ ?side1 ?side2 A2.out).mono ?_); (case side1 => repeat (first | (with_reducible first | exact HI0.out | apply IsS98.alloc | apply IsS98.drewN | apply IsS98.drew | apply IsS98.set_1 | apply IsS98.set_2 | apply IsS98.set_3 | apply IsS98.set_4 | apply IsS98.far (hne := NB0_173.out)) | exact HI0.out)); (case side2 => repeat (first | (with_reducible first | exact HB.out | apply below_alloc | apply pw_below_drewN | apply below_drew1 | refine below_set ?_ (IsS98.ge HI0.out) | refine below_set ?_ GE173.out) | exact HB.out)); rintro e w12 ⟨rfl, hi, hb, hk⟩; refine ⟨_, rfl, ?_⟩; have n0_ := Aside0.mk (KeepBut.blk hk (g' := gb173) (o := .cells #[.string (⟨#[]⟩ : ByteArray), .string (⟨#[]⟩ : ByteArray), .int .i64 0, .int .i64 0] 81 (0, 0)) (by (with_reducible repeat (first | refine blk_drewN ?_ _ | refine blk_drew ?_ | refine blk_alloc ?_ _)); exact BK173.out) NB173_0.out (by simp)); have n1_ := Aside0.mk (KeepBut.trans (by repeat (first | (with_reducible first | exact HK.out | apply KeepBut.set_ | apply keep_drewN | apply keep_drew | apply keep_alloc | refine keep_far ?_ GW173.out _) | exact HK.out)) hk (.inl rfl)); have n2_ := Aside0.mk (hb); have n3_ := Aside0.mk (hi); clear BK173; clear HK; clear HB; clear HI0; have BK173 := n0_; have HK := n1_; have HB := n2_; have HI0 := n3_; clear n0_ n1_ n2_ n3_; (try clear hb); (try clear hb2); (try clear hk); (try clear hi)) | ((with_reducible refine gate_callee (f := 75) rfl ?_); refine goesL_ (some 9) rfl rfl Try.func75 (by kernel_rfl) rfl #[.pointer (some ⟨g, 0, none⟩)] rfl (by (try simp only [List.map_toArray, List.map_cons, List.map_nil]); first | done | rfl | (simp only [List.length_drop, List.length_take]; rfl)) ?_; (with_reducible refine (aquiferref11_reader_name.calls g s0_0 t175 t176 t177 t178 t179 t180 t181 t182 t183 w0 _ ?side1 ?side2 A3.out).mono ?_); (case side1 => repeat (first | (with_reducible first | exact HI0.out | apply IsS98.alloc | apply IsS98.drewN | apply IsS98.drew | apply IsS98.set_1 | apply IsS98.set_2 | apply IsS98.set_3 | apply IsS98.set_4 | apply IsS98.far (hne := NB0_173.out)) | exact HI0.out)); (case side2 => repeat (first | (with_reducible first | exact HB.out | apply below_alloc | apply pw_below_drewN | apply below_drew1 | refine below_set ?_ (IsS98.ge HI0.out) | refine below_set ?_ GE173.out) | exact HB.out)); rintro e w13 ⟨rfl, hi, hb, hk⟩; refine ⟨_, rfl, ?_⟩; have n0_ := Aside0.mk (KeepBut.blk hk (g' := gb173) (o := .cells #[.string (⟨#[]⟩ : ByteArray), .string (⟨#[]⟩ : ByteArray), .int .i64 0, .int .i64 0] 81 (0, 0)) (by (with_reducible repeat (first | refine blk_drewN ?_ _ | refine blk_drew ?_ | refine blk_alloc ?_ _)); exact BK173.out) NB173_0.out (by simp)); have n1_ := Aside0.mk (KeepBut.trans (by repeat (first | (with_reducible first | exact HK.out | apply KeepBut.set_ | apply keep_drewN | apply keep_drew | apply keep_alloc | refine keep_far ?_ GW173.out _) | exact HK.out)) hk (.inl rfl)); have n2_ := Aside0.mk (hb); have n3_ := Aside0.mk (hi); clear BK173; clear HK; clear HB; clear HI0; have BK173 := n0_; have HK := n1_; have HB := n2_; have HI0 := n3_; clear n0_ n1_ n2_ n3_; (try clear hb); (try clear hb2); (try clear hk); (try clear hi)) | ((with_reducible refine gate_dst (N := 3) rfl ?_); refine box_event ?hg (N := 3) ?hd (cs := #[.string (⟨#[]⟩ : ByteArray), .string (⟨#[]⟩ : ByteArray), .int .i64 0, .int .i64 0]) (t := 81) ?hr ?_; (case hd => rfl); (case hg => rfl); (case hr => first | (go_simp; done) | (go_simp; rfl)); intro gb184 hg w14 hbox hb; have n0_ := Aside0.mk (IsS98.below (by repeat (first | (with_reducible first | exact HI0.out | apply IsS98.alloc | apply IsS98.drewN | apply IsS98.drew | apply IsS98.set_1 | apply IsS98.set_2 | apply IsS98.set_3 | apply IsS98.set_4 | apply IsS98.far (hne := NB0_173.out)) | exact HI0.out)) hb); have n1_ := Aside0.mk (blk_below (g := gb173) (o := .cells #[.string (⟨#[]⟩ : ByteArray), .string (⟨#[]⟩ : ByteArray), .int .i64 0, .int .i64 0] 81 (0, 0)) (by (with_reducible repeat (first | refine blk_drewN ?_ _ | refine blk_drew ?_ | refine blk_alloc ?_ _)); exact BK173.out) hb); have n2_ := Aside0.mk (KeepBut.trans (by repeat (first | (with_reducible first | exact HK.out | apply KeepBut.set_ | apply keep_drewN | apply keep_drew | apply keep_alloc | refine keep_far ?_ GW173.out _) | exact HK.out)) (KeepBut.of_below hb g none) (.inl rfl)); have n3_ := Aside0.mk (below_step (by repeat (first | (with_reducible first | exact HB.out | apply below_alloc | apply pw_below_drewN | apply below_drew1 | refine below_set ?_ (IsS98.ge HI0.out) | refine below_set ?_ GE173.out) | exact HB.out)) hb); have n4_ := Aside0.mk (hbox); have n5_ := Aside0.mk ((by rw [hg]; exact (keep_size (w := w) (g := g) (row := none) (by repeat (first | (with_reducible first | exact HK.out | apply KeepBut.set_ | apply keep_drewN | apply keep_drew | apply keep_alloc | refine keep_far ?_ GW173.out _) | exact HK.out))) : w.heap.size ≤ gb184)); have n6_ := Aside0.mk ((Nat.le_trans HW0.out (by rw [hg]; exact (keep_size (w := w) (g := g) (row := none) (by repeat (first | (with_reducible first | exact HK.out | apply KeepBut.set_ | apply keep_drewN | apply keep_drew | apply keep_alloc | refine keep_far ?_ GW173.out _) | exact HK.out))) : w.heap.size ≤ gb184) : w0.heap.size ≤ gb184)); have n7_ := Aside0.mk ((by rw [hg]; exact Nat.ne_of_lt (blk_lt (g := gb173) (o := .cells #[.string (⟨#[]⟩ : ByteArray), .string (⟨#[]⟩ : ByteArray), .int .i64 0, .int .i64 0] 81 (0, 0)) (by (with_reducible repeat (first | refine blk_drewN ?_ _ | refine blk_drew ?_ | refine blk_alloc ?_ _)); exact BK173.out)) : gb173 ≠ gb184)); have n8_ := Aside0.mk ((by rw [hg]; exact Nat.ne_of_gt (blk_lt (g := gb173) (o := .cells #[.string (⟨#[]⟩ : ByteArray), .string (⟨#[]⟩ : ByteArray), .int .i64 0, .int .i64 0] 81 (0, 0)) (by (with_reducible repeat (first | refine blk_drewN ?_ _ | refine blk_drew ?_ | refine blk_alloc ?_ _)); exact BK173.out)) : gb184 ≠ gb173)); have n9_ := Aside0.mk ((by rw [hg]; exact Nat.ne_of_lt (IsS98.lt (show IsS98 w0 _ g s0_0 t180 t181 t182 t183 from by repeat (first | (with_reducible first | exact HI0.out | apply IsS98.alloc | apply IsS98.drewN | apply IsS98.drew | apply IsS98.set_1 | apply IsS98.set_2 | apply IsS98.set_3 | apply IsS98.set_4 | apply IsS98.far (hne := NB0_173.out)) | exact HI0.out))) : g ≠ gb184)); have n10_ := Aside0.mk ((by rw [hg]; exact Nat.ne_of_gt (IsS98.lt (show IsS98 w0 _ g s0_0 t180 t181 t182 t183 from by repeat (first | (with_reducible first | exact HI0.out | apply IsS98.alloc | apply IsS98.drewN | apply IsS98.drew | apply IsS98.set_1 | apply IsS98.set_2 | apply IsS98.set_3 | apply IsS98.set_4 | apply IsS98.far (hne := NB0_173.out)) | exact HI0.out))) : gb184 ≠ g)); clear HI0; clear BK173; clear HK; clear HB; have HI0 := n0_; have BK173 := n1_; have HK := n2_; have HB := n3_; have BK184 := n4_; have GW184 := n5_; have GE184 := n6_; have NB173_184 := n7_; have NB184_173 := n8_; have NB0_184 := n9_; have NB184_0 := n10_; clear n0_ n1_ n2_ n3_ n4_ n5_ n6_ n7_ n8_ n9_ n10_; clear hb hbox hg; have hnb15 := NB184_173.out; have hnc15 := NB173_184.out; have hnb16 := NB184_0.out; have hnc16 := NB0_184.out; have hcz17_0 : w14.cell? ⟨gb184, 0, none⟩ = some (.string (⟨#[]⟩ : ByteArray)) := (blk_cell BK184.out 0).trans rfl; have hcz17_1 : w14.cell? ⟨gb184, 1, none⟩ = some (.string (⟨#[]⟩ : ByteArray)) := (blk_cell BK184.out 1).trans rfl; have hcz17_2 : w14.cell? ⟨gb184, 2, none⟩ = some (.int .i64 0) := (blk_cell BK184.out 2).trans rfl; have hcz17_3 : w14.cell? ⟨gb184, 3, none⟩ = some (.int .i64 0) := (blk_cell BK184.out 3).trans rfl; have hfz17_0 := blk_frozen BK184.out 0; have hfz17_1 := blk_frozen BK184.out 1; have hfz17_2 := blk_frozen BK184.out 2; have hfz17_3 := blk_frozen BK184.out 3) | ((with_reducible refine gate_callee (f := 73) rfl ?_); refine goesL_ (some 12) rfl rfl Try.func73 (by kernel_rfl) rfl #[.pointer (some ⟨g, 0, none⟩), .string (⟨#[58]⟩ : ByteArray)] rfl (by (try simp only [List.map_toArray, List.map_cons, List.map_nil]); first | done | rfl | (simp only [List.length_drop, List.length_take]; rfl)) ?_; (with_reducible refine (aquiferref11_reader_want.calls g s0_0 t180 t181 t182 t183 (⟨#[58]⟩ : ByteArray) t185 t186 t187 t188 w0 _ ?side1 ?side2 A4.out).mono ?_); (case side1 => repeat (first | (with_reducible first | exact HI0.out | apply IsS98.alloc | apply IsS98.drewN | apply IsS98.drew | apply IsS98.set_1 | apply IsS98.set_2 | apply IsS98.set_3 | apply IsS98.set_4 | apply IsS98.far (hne := NB0_173.out) | apply IsS98.far (hne := NB0_184.out)) | exact HI0.out)); (case side2 => repeat (first | (with_reducible first | exact HB.out | apply below_alloc | apply pw_below_drewN | apply below_drew1 | refine below_set ?_ (IsS98.ge HI0.out) | refine below_set ?_ GE173.out | refine below_set ?_ GE184.out) | exact HB.out)); rintro e w18 ⟨rfl, hi, hb, hk⟩; refine ⟨_, rfl, ?_⟩; have n0_ := Aside0.mk (KeepBut.blk hk (g' := gb173) (o := .cells #[.string (⟨#[]⟩ : ByteArray), .string (⟨#[]⟩ : ByteArray), .int .i64 0, .int .i64 0] 81 (0, 0)) (by (with_reducible repeat (first | refine blk_drewN ?_ _ | refine blk_drew ?_ | refine blk_alloc ?_ _)); refine blk_far ?_ NB173_184.out _; (with_reducible repeat (first | refine blk_drewN ?_ _ | refine blk_drew ?_ | refine blk_alloc ?_ _)); refine blk_far ?_ NB173_184.out _; (with_reducible repeat (first | refine blk_drewN ?_ _ | refine blk_drew ?_ | refine blk_alloc ?_ _)); refine blk_far ?_ NB173_184.out _; (with_reducible repeat (first | refine blk_drewN ?_ _ | refine blk_drew ?_ | refine blk_alloc ?_ _)); refine blk_far ?_ NB173_184.out _; (with_reducible repeat (first | refine blk_drewN ?_ _ | refine blk_drew ?_ | refine blk_alloc ?_ _)); exact BK173.out) NB173_0.out (by simp)); have n1_ := Aside0.mk (KeepBut.blk hk (g' := gb184) (o := .cells #[.string t179, .string (⟨#[]⟩ : ByteArray), .int .i64 0, .int .i64 t174] 81 (0, 0)) (by (with_reducible repeat (first | refine blk_drewN ?_ _ | refine blk_drew ?_ | refine blk_alloc ?_ _)); refine blk_put (cs := #[.string t179, .string (⟨#[]⟩ : ByteArray), .int .i64 0, .int .i64 0]) ?_ 3 _ rfl; (with_reducible repeat (first | refine blk_drewN ?_ _ | refine blk_drew ?_ | refine blk_alloc ?_ _)); refine blk_put (cs := #[.string t179, .string (⟨#[]⟩ : ByteArray), .int .i64 0, .int .i64 0]) ?_ 2 _ rfl; (with_reducible repeat (first | refine blk_drewN ?_ _ | refine blk_drew ?_ | refine blk_alloc ?_ _)); refine blk_put (cs := #[.string t179, .string (⟨#[]⟩ : ByteArray), .int .i64 0, .int .i64 0]) ?_ 1 _ rfl; (with_reducible repeat (first | refine blk_drewN ?_ _ | refine blk_drew ?_ | refine blk_alloc ?_ _)); refine blk_put (cs := #[.string (⟨#[]⟩ : ByteArray), .string (⟨#[]⟩ : ByteArray), .int .i64 0, .int .i64 0]) ?_ 0 _ rfl; (with_reducible repeat (first | refine blk_drewN ?_ _ | refine blk_drew ?_ | refine blk_alloc ?_ _)); exact BK184.out) NB184_0.out (by simp)); have n2_ := Aside0.mk (KeepBut.trans (by repeat (first | (with_reducible first | exact HK.out | apply KeepBut.set_ | apply keep_drewN | apply keep_drew | apply keep_alloc | refine keep_far ?_ GW173.out _ | refine keep_far ?_ GW184.out _) | exact HK.out)) hk (.inl rfl)); have n3_ := Aside0.mk (hb); have n4_ := Aside0.mk (hi); clear BK173; clear BK184; clear HK; clear HB; clear HI0; have BK173 := n0_; have BK184 := n1_; have HK := n2_; have HB := n3_; have HI0 := n4_; clear n0_ n1_ n2_ n3_ n4_; (try clear hb); (try clear hb2); (try clear hk); (try clear hi)) | ((with_reducible refine gate_callee (f := 75) rfl ?_); refine goesL_ (some 14) rfl rfl Try.func75 (by kernel_rfl) rfl #[.pointer (some ⟨g, 0, none⟩)] rfl (by (try simp only [List.map_toArray, List.map_cons, List.map_nil]); first | done | rfl | (simp only [List.length_drop, List.length_take]; rfl)) ?_; (with_reducible refine (aquiferref11_reader_name.calls g s0_0 t185 t186 t187 t188 t189 t190 t191 t192 t193 w0 _ ?side1 ?side2 A5.out).mono ?_); (case side1 => repeat (first | (with_reducible first | exact HI0.out | apply IsS98.alloc | apply IsS98.drewN | apply IsS98.drew | apply IsS98.set_1 | apply IsS98.set_2 | apply IsS98.set_3 | apply IsS98.set_4 | apply IsS98.far (hne := NB0_173.out) | apply IsS98.far (hne := NB0_184.out)) | exact HI0.out)); (case side2 => repeat (first | (with_reducible first | exact HB.out | apply below_alloc | apply pw_below_drewN | apply below_drew1 | refine below_set ?_ (IsS98.ge HI0.out) | refine below_set ?_ GE173.out | refine below_set ?_ GE184.out) | exact HB.out)); rintro e w19 ⟨rfl, hi, hb, hk⟩; refine ⟨_, rfl, ?_⟩; have n0_ := Aside0.mk (KeepBut.blk hk (g' := gb173) (o := .cells #[.string (⟨#[]⟩ : ByteArray), .string (⟨#[]⟩ : ByteArray), .int .i64 0, .int .i64 0] 81 (0, 0)) (by (with_reducible repeat (first | refine blk_drewN ?_ _ | refine blk_drew ?_ | refine blk_alloc ?_ _)); exact BK173.out) NB173_0.out (by simp)); have n1_ := Aside0.mk (KeepBut.blk hk (g' := gb184) (o := .cells #[.string t179, .string (⟨#[]⟩ : ByteArray), .int .i64 0, .int .i64 t174] 81 (0, 0)) (by (with_reducible repeat (first | refine blk_drewN ?_ _ | refine blk_drew ?_ | refine blk_alloc ?_ _)); exact BK184.out) NB184_0.out (by simp)); have n2_ := Aside0.mk (KeepBut.trans (by repeat (first | (with_reducible first | exact HK.out | apply KeepBut.set_ | apply keep_drewN | apply keep_drew | apply keep_alloc | refine keep_far ?_ GW173.out _ | refine keep_far ?_ GW184.out _) | exact HK.out)) hk (.inl rfl)); have n3_ := Aside0.mk (hb); have n4_ := Aside0.mk (hi); clear BK173; clear BK184; clear HK; clear HB; clear HI0; have BK173 := n0_; have BK184 := n1_; have HK := n2_; have HB := n3_; have HI0 := n4_; clear n0_ n1_ n2_ n3_ n4_; (try clear hb); (try clear hb2); (try clear hk); (try clear hi); have hcz20_0 : w19.cell? ⟨gb184, 0, none⟩ = some (.string t179) := (blk_cell BK184.out 0).trans rfl; have hcz20_1 : w19.cell? ⟨gb184, 1, none⟩ = some (.string (⟨#[]⟩ : ByteArray)) := (blk_cell BK184.out 1).trans rfl; have hcz20_2 : w19.cell? ⟨gb184, 2, none⟩ = some (.int .i64 0) := (blk_cell BK184.out 2).trans rfl; have hcz20_3 : w19.cell? ⟨gb184, 3, none⟩ = some (.int .i64 t174) := (blk_cell BK184.out 3).trans rfl; have hfz20_0 := blk_frozen BK184.out 0; have hfz20_1 := blk_frozen BK184.out 1; have hfz20_2 := blk_frozen BK184.out 2; have hfz20_3 := blk_frozen BK184.out 3) | ((with_reducible refine gate_callee (f := 73) rfl ?_); refine goesL_ (some 17) rfl rfl Try.func73 (by kernel_rfl) rfl #[.pointer (some ⟨g, 0, none⟩), .string (⟨#[61]⟩ : ByteArray)] rfl (by (try simp only [List.map_toArray, List.map_cons, List.map_nil]); first | done | rfl | (simp only [List.length_drop, List.length_take]; rfl)) ?_; (with_reducible refine (aquiferref11_reader_want.calls g s0_0 t190 t191 t192 t193 (⟨#[61]⟩ : ByteArray) t194 t195 t196 t197 w0 _ ?side1 ?side2 A6.out).mono ?_); (case side1 => repeat (first | (with_reducible first | exact HI0.out | apply IsS98.alloc | apply IsS98.drewN | apply IsS98.drew | apply IsS98.set_1 | apply IsS98.set_2 | apply IsS98.set_3 | apply IsS98.set_4 | apply IsS98.far (hne := NB0_173.out) | apply IsS98.far (hne := NB0_184.out)) | exact HI0.out)); (case side2 => repeat (first | (with_reducible first | exact HB.out | apply below_alloc | apply pw_below_drewN | apply below_drew1 | refine below_set ?_ (IsS98.ge HI0.out) | refine below_set ?_ GE173.out | refine below_set ?_ GE184.out) | exact HB.out)); rintro e w21 ⟨rfl, hi, hb, hk⟩; refine ⟨_, rfl, ?_⟩; have n0_ := Aside0.mk (KeepBut.blk hk (g' := gb173) (o := .cells #[.string (⟨#[]⟩ : ByteArray), .string (⟨#[]⟩ : ByteArray), .int .i64 0, .int .i64 0] 81 (0, 0)) (by (with_reducible repeat (first | refine blk_drewN ?_ _ | refine blk_drew ?_ | refine blk_alloc ?_ _)); refine blk_far ?_ NB173_184.out _; (with_reducible repeat (first | refine blk_drewN ?_ _ | refine blk_drew ?_ | refine blk_alloc ?_ _)); exact BK173.out) NB173_0.out (by simp)); have n1_ := Aside0.mk (KeepBut.blk hk (g' := gb184) (o := .cells #[.string t179, .string t189, .int .i64 0, .int .i64 t174] 81 (0, 0)) (by (with_reducible repeat (first | refine blk_drewN ?_ _ | refine blk_drew ?_ | refine blk_alloc ?_ _)); refine blk_put (cs := #[.string t179, .string (⟨#[]⟩ : ByteArray), .int .i64 0, .int .i64 t174]) ?_ 1 _ rfl; (with_reducible repeat (first | refine blk_drewN ?_ _ | refine blk_drew ?_ | refine blk_alloc ?_ _)); exact BK184.out) NB184_0.out (by simp)); have n2_ := Aside0.mk (KeepBut.trans (by repeat (first | (with_reducible first | exact HK.out | apply KeepBut.set_ | apply keep_drewN | apply keep_drew | apply keep_alloc | refine keep_far ?_ GW173.out _ | refine keep_far ?_ GW184.out _) | exact HK.out)) hk (.inl rfl)); have n3_ := Aside0.mk (hb); have n4_ := Aside0.mk (hi); clear BK173; clear BK184; clear HK; clear HB; clear HI0; have BK173 := n0_; have BK184 := n1_; have HK := n2_; have HB := n3_; have HI0 := n4_; clear n0_ n1_ n2_ n3_ n4_; (try clear hb); (try clear hb2); (try clear hk); (try clear hi)) | ((with_reducible refine gate_callee (f := 76) rfl ?_); refine goesL_ (some 19) rfl rfl Try.func76 (by kernel_rfl) rfl #[.pointer (some ⟨g, 0, none⟩), .string (⟨#[45]⟩ : ByteArray)] rfl (by (try simp only [List.map_toArray, List.map_cons, List.map_nil]); first | done | rfl | (simp only [List.length_drop, List.length_take]; rfl)) ?_; (with_reducible refine (aquiferref11_reader_take.calls g s0_0 t194 t195 t196 t197 (⟨#[45]⟩ : ByteArray) t198 t199 t200 t201 t202 w0 _ ?side1 ?side2 A7.out).mono ?_); (case side1 => repeat (first | (with_reducible first | exact HI0.out | apply IsS98.alloc | apply IsS98.drewN | apply IsS98.drew | apply IsS98.set_1 | apply IsS98.set_2 | apply IsS98.set_3 | apply IsS98.set_4 | apply IsS98.far (hne := NB0_173.out) | apply IsS98.far (hne := NB0_184.out)) | exact HI0.out)); (case side2 => repeat (first | (with_reducible first | exact HB.out | apply below_alloc | apply pw_below_drewN | apply below_drew1 | refine below_set ?_ (IsS98.ge HI0.out) | refine below_set ?_ GE173.out | refine below_set ?_ GE184.out) | exact HB.out)); rintro e w22 ⟨rfl, hi, hb, hk⟩; refine ⟨_, rfl, ?_⟩; have n0_ := Aside0.mk (KeepBut.blk hk (g' := gb173) (o := .cells #[.string (⟨#[]⟩ : ByteArray), .string (⟨#[]⟩ : ByteArray), .int .i64 0, .int .i64 0] 81 (0, 0)) (by (with_reducible repeat (first | refine blk_drewN ?_ _ | refine blk_drew ?_ | refine blk_alloc ?_ _)); exact BK173.out) NB173_0.out (by simp)); have n1_ := Aside0.mk (KeepBut.blk hk (g' := gb184) (o := .cells #[.string t179, .string t189, .int .i64 0, .int .i64 t174] 81 (0, 0)) (by (with_reducible repeat (first | refine blk_drewN ?_ _ | refine blk_drew ?_ | refine blk_alloc ?_ _)); exact BK184.out) NB184_0.out (by simp)); have n2_ := Aside0.mk (KeepBut.trans (by repeat (first | (with_reducible first | exact HK.out | apply KeepBut.set_ | apply keep_drewN | apply keep_drew | apply keep_alloc | refine keep_far ?_ GW173.out _ | refine keep_far ?_ GW184.out _) | exact HK.out)) hk (.inl rfl)); have n3_ := Aside0.mk (hb); have n4_ := Aside0.mk (hi); clear BK173; clear BK184; clear HK; clear HB; clear HI0; have BK173 := n0_; have BK184 := n1_; have HK := n2_; have HB := n3_; have HI0 := n4_; clear n0_ n1_ n2_ n3_ n4_; (try clear hb); (try clear hb2); (try clear hk); (try clear hi)))
      have n0_ := Aside0.mk (blk_drew BK173.out)
      have n1_ := Aside0.mk (blk_drew BK184.out)
      have n2_ := Aside0.mk (IsS98.drew HI0.out)
      have n3_ := Aside0.mk (keep_drew HK.out)
      have n4_ := Aside0.mk (below_drew1 HB.out)
      clear BK173
      clear BK184
      clear HI0
      clear HK
      clear HB
      have BK173 := n0_
      have BK184 := n1_
      have HI0 := n2_
      have HK := n3_
      have HB := n4_
      clear n0_ n1_ n2_ n3_ n4_
      obtain ⟨ASz24_0, cSz24_0, HGz24, hgz24, HSz24_0⟩ := HI0.out
      have hx24_0 := cellS98_0 HGz24
      have hx24_1 := cellS98_1 HGz24
      have hx24_2 := cellS98_2 HGz24
      have hx24_3 := cellS98_3 HGz24
      have hx24_4 := cellS98_4 HGz24
      clear HGz24 hgz24
      have p203 : 0 ≤ (t199 : Int) := of_decide_eq_true (by first | (with_reducible assumption) | assumption)
      have q203 : t199 < (s0_0.length : Int) := of_decide_eq_true (by first | (with_reducible assumption) | assumption)
      obtain ⟨ad203, e203, hx203_0, hx203_1, hx203_2⟩ := at_T122 HSz24_0 t199 p203 q203
      have hw203_2 := hx203_2
      have hw203_1 := hx203_1
      have hw203_0 := hx203_0
      cases e203
      replace hx203_0 := pw_cell_below HB.out hx203_0
      replace hx203_1 := pw_cell_below HB.out hx203_1
      replace hx203_2 := pw_cell_below HB.out hx203_2
      replace p203 := eq_true p203
      replace q203 := eq_true q203
      refine start_ (n := 12) (S := fun w' => w'.cell? ⟨g, 0, none⟩ = some (.slice (some ad203) s0_0.length cSz24_0) ∧ w'.cell? ⟨g, 1, none⟩ = some (.int .i64 t199) ∧ w'.cell? ⟨g, 2, none⟩ = some (.int .i64 t200) ∧ w'.cell? ⟨g, 3, none⟩ = some (.int .i64 t201) ∧ w'.cell? ⟨g, 4, none⟩ = some (.int .i64 t202) ∧ w'.cell? (ad203.add ((t199).toNat * 3)) = some (.int .i64 ((rd_T122 s0_0 t199).f0)) ∧ w'.cell? ⟨(ad203.add ((t199).toNat * 3)).block, (ad203.add ((t199).toNat * 3)).off + 1, none⟩ = some (.string ((rd_T122 s0_0 t199).f1)) ∧ w'.cell? ⟨(ad203.add ((t199).toNat * 3)).block, (ad203.add ((t199).toNat * 3)).off + 2, none⟩ = some (.int .i64 ((rd_T122 s0_0 t199).f2))) (ds := [11]) #[false, false, false, false, false, false, false, false, false, false, false, false] (by kernel_rfl) rfl rfl ⟨hx24_0, hx24_1, hx24_2, hx24_3, hx24_4, hx203_0, hx203_1, hx203_2⟩ (fun hHeld => ?_); refine with_tabW aquiferref11_reader_variable.tab6 aquiferref11_reader_variable.bits6 (fun HT_ HW_ => ?_)
      generalize w22.drew = w23 at BK173 BK184 HI0 HK HB hx203_0 hx203_1 hx203_2 hx24_0 hx24_1 hx24_2 hx24_3 hx24_4 hHeld ⊢
      refine pure_ (i := 0) (N := some 20) (v := ?_) (a' := ?_) #[true, false, false, false, false, false, false, false, false, false, false, false] rfl rfl (any_of HT_.out (by kernel_rfl)) (fun _ _ _ h => h) (Or.inl ⟨by rfl, ?_⟩) ?_ ?_
      rotate_left
      · intro w'
        go_simp
        with_reducible rfl
      rotate_left
      · simp only [Act.put, List.setIfInBounds_toArray, List.set_cons_zero, List.set_cons_succ, i64_w, i32_w]
        rfl
      refine pure_ (i := 1) (N := some 21) (v := ?_) (a' := ?_) #[true, true, false, false, false, false, false, false, false, false, false, false] rfl rfl (any_of HT_.out (by kernel_rfl)) (fun _ _ _ h => h) (Or.inl ⟨by rfl, ?_⟩) ?_ ?_
      rotate_left
      · intro w'
        go_simp
        with_reducible rfl
      rotate_left
      · simp only [Act.put, List.setIfInBounds_toArray, List.set_cons_zero, List.set_cons_succ, i64_w, i32_w]
        rfl
      refine pure_ (i := 2) (N := some 22) (v := ?_) (a' := ?_) #[true, true, true, false, false, false, false, false, false, false, false, false] rfl rfl (any_of HT_.out (by kernel_rfl)) (fun _ _ _ h => h) (Or.inl ⟨by rfl, ?_⟩) ?_ ?_
      rotate_left
      · intro w'
        go_simp
        with_reducible rfl
      rotate_left
      · simp only [Act.put, List.setIfInBounds_toArray, List.set_cons_zero, List.set_cons_succ, i64_w, i32_w]
        rfl
      refine pure_ (i := 4) (N := some 24) (v := ?_) (a' := ?_) #[true, true, true, false, true, false, false, false, false, false, false, false] rfl rfl (any_of HT_.out (by kernel_rfl)) (fun _ _ _ h => h) (Or.inl ⟨by rfl, ?_⟩) ?_ ?_
      rotate_left
      · intro w'
        go_simp
        with_reducible rfl
      rotate_left
      · simp only [Act.put, List.setIfInBounds_toArray, List.set_cons_zero, List.set_cons_succ, i64_w, i32_w]
        rfl
      refine pure_ (i := 5) (N := some 25) (v := ?_) (a' := ?_) #[true, true, true, false, true, true, false, false, false, false, false, false] rfl rfl (any_of HT_.out (by kernel_rfl)) (fun _ _ _ h => h) (Or.inl ⟨by rfl, ?_⟩) ?_ ?_
      rotate_left
      · intro w'
        go_simp
        with_reducible rfl
      rotate_left
      · simp only [Act.put, List.setIfInBounds_toArray, List.set_cons_zero, List.set_cons_succ, i64_w, i32_w]
        rfl
      refine pure_ (i := 6) (N := some 26) (v := ?_) (a' := ?_) #[true, true, true, false, true, true, true, false, false, false, false, false] rfl rfl (any_of HT_.out (by kernel_rfl)) (fun _ _ _ h => h) (Or.inl ⟨by rfl, ?_⟩) ?_ ?_
      rotate_left
      · intro w'
        go_simp
        with_reducible rfl
      rotate_left
      · simp only [Act.put, List.setIfInBounds_toArray, List.set_cons_zero, List.set_cons_succ, i64_w, i32_w]
        rfl
      refine take_ (i := 3) (N := some 23) (v := ?_) (a' := ?_) #[true, true, true, true, true, true, true, false, false, false, false, false] rfl rfl (take_ofW HT_.out HW_.out (by kernel_rfl)) (fun _ _ _ h => h) (Or.inl ⟨by rfl, ?_⟩) hHeld ?_ ?_
      rotate_left
      · rintro w' ⟨s0, s1, s2, s3, s4, s5, s6, s7⟩
        go_simp
        with_reducible rfl
      rotate_left
      · simp only [Act.put, List.setIfInBounds_toArray, List.set_cons_zero, List.set_cons_succ, i64_w, i32_w]
        rfl
      refine take_ (i := 7) (N := some 27) (v := ?_) (a' := ?_) #[true, true, true, true, true, true, true, true, false, false, false, false] rfl rfl (take_ofW HT_.out HW_.out (by kernel_rfl)) (fun _ _ _ h => h) (Or.inl ⟨by rfl, ?_⟩) hHeld ?_ ?_
      rotate_left
      · rintro w' ⟨s0, s1, s2, s3, s4, s5, s6, s7⟩
        go_simp
        with_reducible rfl
      rotate_left
      · simp only [Act.put, List.setIfInBounds_toArray, List.set_cons_zero, List.set_cons_succ, i64_w, i32_w]
        rfl
      refine pure_ (i := 8) (N := some 28) (v := ?_) (a' := ?_) #[true, true, true, true, true, true, true, true, true, false, false, false] rfl rfl (any_of HT_.out (by kernel_rfl)) (fun _ _ _ h => h) (Or.inl ⟨by rfl, ?_⟩) ?_ ?_
      rotate_left
      · intro w'
        go_simp
        with_reducible rfl
      rotate_left
      · simp only [Act.put, List.setIfInBounds_toArray, List.set_cons_zero, List.set_cons_succ, i64_w, i32_w]
        rfl
      refine take_ (i := 9) (N := some 29) (v := ?_) (a' := ?_) #[true, true, true, true, true, true, true, true, true, true, false, false] rfl rfl (take_ofW HT_.out HW_.out (by kernel_rfl)) (fun _ _ _ h => h) (Or.inl ⟨by rfl, ?_⟩) hHeld ?_ ?_
      rotate_left
      · rintro w' ⟨s0, s1, s2, s3, s4, s5, s6, s7⟩
        go_simp
        with_reducible rfl
      rotate_left
      · simp only [Act.put, List.setIfInBounds_toArray, List.set_cons_zero, List.set_cons_succ, i64_w, i32_w]
        rfl
      refine one_ (i := 10) (N := some 5) #[true, true, true, true, true, true, true, true, true, true, true, false] rfl rfl (one_of HT_.out (by kernel_rfl)) (by decide) (fun K hK => ?_)
      refine box_step ?hg (N := 5) ?hd (cs := #[.int .i64 0, .string (⟨#[]⟩ : ByteArray), .int .i64 0]) (t := 122) ?hr ?_; (case hd => rfl); (case hg => rfl); (case hr => first | (go_simp; done) | (go_simp; rfl))
      intro gb204 hg w25 hbox hb
      have HS0_ := (hb.cell (World.block_lt_of_cell? _ _ (hHeld.1))).trans (hHeld.1)
      have HS1_ := (hb.cell (World.block_lt_of_cell? _ _ (hHeld.2.1))).trans (hHeld.2.1)
      have HS2_ := (hb.cell (World.block_lt_of_cell? _ _ (hHeld.2.2.1))).trans (hHeld.2.2.1)
      have HS3_ := (hb.cell (World.block_lt_of_cell? _ _ (hHeld.2.2.2.1))).trans (hHeld.2.2.2.1)
      have HS4_ := (hb.cell (World.block_lt_of_cell? _ _ (hHeld.2.2.2.2.1))).trans (hHeld.2.2.2.2.1)
      have HS5_ := (hb.cell (World.block_lt_of_cell? _ _ (hHeld.2.2.2.2.2.1))).trans (hHeld.2.2.2.2.2.1)
      have HS6_ := (hb.cell (World.block_lt_of_cell? _ _ (hHeld.2.2.2.2.2.2.1))).trans (hHeld.2.2.2.2.2.2.1)
      have HS7_ := (hb.cell (World.block_lt_of_cell? _ _ (hHeld.2.2.2.2.2.2.2))).trans (hHeld.2.2.2.2.2.2.2)
      have n0_ := Aside0.mk (IsS98.below (by repeat (first | (with_reducible first | exact HI0.out | apply IsS98.alloc | apply IsS98.drewN | apply IsS98.drew | apply IsS98.set_1 | apply IsS98.set_2 | apply IsS98.set_3 | apply IsS98.set_4 | apply IsS98.far (hne := NB0_173.out) | apply IsS98.far (hne := NB0_184.out)) | exact HI0.out)) hb)
      have n1_ := Aside0.mk (blk_below (g := gb173) (o := .cells #[.string (⟨#[]⟩ : ByteArray), .string (⟨#[]⟩ : ByteArray), .int .i64 0, .int .i64 0] 81 (0, 0)) (by (with_reducible repeat (first | refine blk_drewN ?_ _ | refine blk_drew ?_ | refine blk_alloc ?_ _)); exact BK173.out) hb)
      have n2_ := Aside0.mk (blk_below (g := gb184) (o := .cells #[.string t179, .string t189, .int .i64 0, .int .i64 t174] 81 (0, 0)) (by (with_reducible repeat (first | refine blk_drewN ?_ _ | refine blk_drew ?_ | refine blk_alloc ?_ _)); exact BK184.out) hb)
      have n3_ := Aside0.mk (KeepBut.trans (by repeat (first | (with_reducible first | exact HK.out | apply KeepBut.set_ | apply keep_drewN | apply keep_drew | apply keep_alloc | refine keep_far ?_ GW173.out _ | refine keep_far ?_ GW184.out _) | exact HK.out)) (KeepBut.of_below hb g none) (.inl rfl))
      have n4_ := Aside0.mk (below_step (by repeat (first | (with_reducible first | exact HB.out | apply below_alloc | apply pw_below_drewN | apply below_drew1 | refine below_set ?_ (IsS98.ge HI0.out) | refine below_set ?_ GE173.out | refine below_set ?_ GE184.out) | exact HB.out)) hb)
      have n5_ := Aside0.mk (hbox)
      have n6_ := Aside0.mk ((by rw [hg]; exact (keep_size (w := w) (g := g) (row := none) (by repeat (first | (with_reducible first | exact HK.out | apply KeepBut.set_ | apply keep_drewN | apply keep_drew | apply keep_alloc | refine keep_far ?_ GW173.out _ | refine keep_far ?_ GW184.out _) | exact HK.out))) : w.heap.size ≤ gb204))
      have n7_ := Aside0.mk ((Nat.le_trans HW0.out (by rw [hg]; exact (keep_size (w := w) (g := g) (row := none) (by repeat (first | (with_reducible first | exact HK.out | apply KeepBut.set_ | apply keep_drewN | apply keep_drew | apply keep_alloc | refine keep_far ?_ GW173.out _ | refine keep_far ?_ GW184.out _) | exact HK.out))) : w.heap.size ≤ gb204) : w0.heap.size ≤ gb204))
      have n8_ := Aside0.mk ((by rw [hg]; exact Nat.ne_of_lt (blk_lt (g := gb173) (o := .cells #[.string (⟨#[]⟩ : ByteArray), .string (⟨#[]⟩ : ByteArray), .int .i64 0, .int .i64 0] 81 (0, 0)) (by (with_reducible repeat (first | refine blk_drewN ?_ _ | refine blk_drew ?_ | refine blk_alloc ?_ _)); exact BK173.out)) : gb173 ≠ gb204))
      have n9_ := Aside0.mk ((by rw [hg]; exact Nat.ne_of_gt (blk_lt (g := gb173) (o := .cells #[.string (⟨#[]⟩ : ByteArray), .string (⟨#[]⟩ : ByteArray), .int .i64 0, .int .i64 0] 81 (0, 0)) (by (with_reducible repeat (first | refine blk_drewN ?_ _ | refine blk_drew ?_ | refine blk_alloc ?_ _)); exact BK173.out)) : gb204 ≠ gb173))
      have n10_ := Aside0.mk ((by rw [hg]; exact Nat.ne_of_lt (blk_lt (g := gb184) (o := .cells #[.string t179, .string t189, .int .i64 0, .int .i64 t174] 81 (0, 0)) (by (with_reducible repeat (first | refine blk_drewN ?_ _ | refine blk_drew ?_ | refine blk_alloc ?_ _)); exact BK184.out)) : gb184 ≠ gb204))
      have n11_ := Aside0.mk ((by rw [hg]; exact Nat.ne_of_gt (blk_lt (g := gb184) (o := .cells #[.string t179, .string t189, .int .i64 0, .int .i64 t174] 81 (0, 0)) (by (with_reducible repeat (first | refine blk_drewN ?_ _ | refine blk_drew ?_ | refine blk_alloc ?_ _)); exact BK184.out)) : gb204 ≠ gb184))
      have n12_ := Aside0.mk ((by rw [hg]; exact Nat.ne_of_lt (IsS98.lt (show IsS98 w0 _ g s0_0 t199 t200 t201 t202 from by repeat (first | (with_reducible first | exact HI0.out | apply IsS98.alloc | apply IsS98.drewN | apply IsS98.drew | apply IsS98.set_1 | apply IsS98.set_2 | apply IsS98.set_3 | apply IsS98.set_4 | apply IsS98.far (hne := NB0_173.out) | apply IsS98.far (hne := NB0_184.out)) | exact HI0.out))) : g ≠ gb204))
      have n13_ := Aside0.mk ((by rw [hg]; exact Nat.ne_of_gt (IsS98.lt (show IsS98 w0 _ g s0_0 t199 t200 t201 t202 from by repeat (first | (with_reducible first | exact HI0.out | apply IsS98.alloc | apply IsS98.drewN | apply IsS98.drew | apply IsS98.set_1 | apply IsS98.set_2 | apply IsS98.set_3 | apply IsS98.set_4 | apply IsS98.far (hne := NB0_173.out) | apply IsS98.far (hne := NB0_184.out)) | exact HI0.out))) : gb204 ≠ g))
      clear HI0
      clear BK173
      clear BK184
      clear HK
      clear HB
      have HI0 := n0_
      have BK173 := n1_
      have BK184 := n2_
      have HK := n3_
      have HB := n4_
      have BK204 := n5_
      have GW204 := n6_
      have GE204 := n7_
      have NB173_204 := n8_
      have NB204_173 := n9_
      have NB184_204 := n10_
      have NB204_184 := n11_
      have NB0_204 := n12_
      have NB204_0 := n13_
      clear n0_ n1_ n2_ n3_ n4_ n5_ n6_ n7_ n8_ n9_ n10_ n11_ n12_ n13_
      clear hb hbox hg
      refine hK.out _ _ ⟨HS0_, HS1_, HS2_, HS3_, HS4_, HS5_, HS6_, HS7_⟩ (fun hHeld => ?_)
      clear hK K
      refine norm_ (a' := ?_) ?_ ?_
      rotate_left
      · show Act.put _ (some 5) _ = _
        simp only [Act.put, List.setIfInBounds_toArray, List.set_cons_zero, List.set_cons_succ, i64_w, i32_w]
        rfl
      refine last_ (i := 11) (N := none) #[true, true, true, true, true, true, true, true, true, true, true, true] rfl rfl (one_of HT_.out (by kernel_rfl)) (by decide) (fun K hK => ?_)
      have hs26 : w25.cell? ⟨gb204, 0, none⟩ = some (.int .i64 0) := (blk_cell BK204.out 0).trans rfl
      have hfs26 := blk_frozen BK204.out 0
      have hns26_0 := NB173_204.out
      have hns26_1 := NB184_204.out
      have hms26_0 := NB204_173.out
      have hms26_1 := NB204_184.out
      have hs27 : w25.cell? ⟨gb204, 1, none⟩ = some (.string (⟨#[]⟩ : ByteArray)) := (blk_cell BK204.out 1).trans rfl
      have hfs27 := blk_frozen BK204.out 1
      have hns27_0 := NB173_204.out
      have hns27_1 := NB184_204.out
      have hms27_0 := NB204_173.out
      have hms27_1 := NB204_184.out
      have hs28 : w25.cell? ⟨gb204, 2, none⟩ = some (.int .i64 0) := (blk_cell BK204.out 2).trans rfl
      have hfs28 := blk_frozen BK204.out 2
      have hns28_0 := NB173_204.out
      have hns28_1 := NB184_204.out
      have hms28_0 := NB204_173.out
      have hms28_1 := NB204_184.out
      refine skip_ (w1 := ?_) (by rfl) rfl ?_ ?_
      rotate_left
      · go_simp
        rfl
      refine hK.out _ _ ?_
      clear hK K
      refine done_ (done_of HT_.out (by kernel_rfl)) ?_
      go_upto_region 7 with (fail)
      go_cut [39] (fun v39 wc => ∃ (kq : Nat) (x39_9 : Bool), v39 = .bool x39_9 ∧ Aside0 (aquiferref11_reader_variable.j0 kq t198 x39_9 s0_0 t199 t200 t201 t202 t179 t189 0 t174 ((rd_T122 s0_0 t199).f0) ((rd_T122 s0_0 t199).f1) ((rd_T122 s0_0 t199).f2) = some (r1, r2, r3, r4, r5, r6, r7, r8)) ∧ Aside0 (kq ≤ k) ∧ Aside0 (wc.heap[gb173]? = some (.cells #[.string (⟨#[]⟩ : ByteArray), .string (⟨#[]⟩ : ByteArray), .int .i64 0, .int .i64 0] 81 (0, 0))) ∧ Aside0 (wc.heap[gb184]? = some (.cells #[.string t179, .string t189, .int .i64 0, .int .i64 t174] 81 (0, 0))) ∧ Aside0 (wc.heap[gb204]? = some (.cells #[.int .i64 ((rd_T122 s0_0 t199).f0), .string ((rd_T122 s0_0 t199).f1), .int .i64 ((rd_T122 s0_0 t199).f2)] 122 (0, 0))) ∧ Aside0 (IsS98 w0 wc g s0_0 t199 t200 t201 t202) ∧ Aside0 (KeepBut w wc g none) ∧ Aside0 (Below w0.heap.size w0 wc))
      case first =>
        have H := HC10.out
        clear HC10
        by_cases c29 : t201 = 0
        · rw [if_pos c29] at H
          have c29b0 : (t201 == 0) = true := beq_iff_eq.mpr c29
          have c29b1 : (t201 != 0) = false := bne_eq_false_iff_eq.mpr c29
          clear c29
          (first | rw [c29b0] | (simp only [i64_w, i32_w]; rw [c29b0]) | skip)
          have H' := Aside0.mk H
          clear H
          obtain ⟨ASz30_0, cSz30_0, HGz30, hgz30, HSz30_0⟩ := HI0.out
          have hcz30_0 := cellS98_0 HGz30
          have hcz30_1 := cellS98_1 HGz30
          have hcz30_2 := cellS98_2 HGz30
          have hcz30_3 := cellS98_3 HGz30
          have hcz30_4 := cellS98_4 HGz30
          have hfz30_1 := blk_frozen HGz30 1
          have hfz30_2 := blk_frozen HGz30 2
          have hfz30_3 := blk_frozen HGz30 3
          have hfz30_4 := blk_frozen HGz30 4
          clear HGz30 hgz30
          have hnb31 := NB204_173.out
          have hnc31 := NB173_204.out
          have hnb32 := NB204_184.out
          have hnc32 := NB184_204.out
          have hnb33 := NB204_0.out
          have hnc33 := NB0_204.out
          have hcz34_0 : w25.cell? ⟨gb204, 0, none⟩ = some (.int .i64 0) := (blk_cell BK204.out 0).trans rfl
          have hcz34_1 : w25.cell? ⟨gb204, 1, none⟩ = some (.string (⟨#[]⟩ : ByteArray)) := (blk_cell BK204.out 1).trans rfl
          have hcz34_2 : w25.cell? ⟨gb204, 2, none⟩ = some (.int .i64 0) := (blk_cell BK204.out 2).trans rfl
          have hfz34_0 := blk_frozen BK204.out 0
          have hfz34_1 := blk_frozen BK204.out 1
          have hfz34_2 := blk_frozen BK204.out 2
          go_wp2
          go_meet
          case rel => exact ⟨_, ((((rd_T122 s0_0 t199).f0) != 2)), (by first | rfl | (simp; done) | (simp [bne]; done) | (simp [*]; done)), H', ⟨by first | omega | exact Nat.le_refl _⟩, ⟨by (with_reducible repeat (first | refine blk_drewN ?_ _ | refine blk_drew ?_ | refine blk_alloc ?_ _)); refine blk_far ?_ NB173_204.out _; (with_reducible repeat (first | refine blk_drewN ?_ _ | refine blk_drew ?_ | refine blk_alloc ?_ _)); refine blk_far ?_ NB173_204.out _; (with_reducible repeat (first | refine blk_drewN ?_ _ | refine blk_drew ?_ | refine blk_alloc ?_ _)); refine blk_far ?_ NB173_204.out _; (with_reducible repeat (first | refine blk_drewN ?_ _ | refine blk_drew ?_ | refine blk_alloc ?_ _)); exact BK173.out⟩, ⟨by (with_reducible repeat (first | refine blk_drewN ?_ _ | refine blk_drew ?_ | refine blk_alloc ?_ _)); refine blk_far ?_ NB184_204.out _; (with_reducible repeat (first | refine blk_drewN ?_ _ | refine blk_drew ?_ | refine blk_alloc ?_ _)); refine blk_far ?_ NB184_204.out _; (with_reducible repeat (first | refine blk_drewN ?_ _ | refine blk_drew ?_ | refine blk_alloc ?_ _)); refine blk_far ?_ NB184_204.out _; (with_reducible repeat (first | refine blk_drewN ?_ _ | refine blk_drew ?_ | refine blk_alloc ?_ _)); exact BK184.out⟩, ⟨by (with_reducible repeat (first | refine blk_drewN ?_ _ | refine blk_drew ?_ | refine blk_alloc ?_ _)); refine blk_put (cs := #[.int .i64 ((rd_T122 s0_0 t199).f0), .string ((rd_T122 s0_0 t199).f1), .int .i64 0]) ?_ 2 _ rfl; (with_reducible repeat (first | refine blk_drewN ?_ _ | refine blk_drew ?_ | refine blk_alloc ?_ _)); refine blk_put (cs := #[.int .i64 ((rd_T122 s0_0 t199).f0), .string (⟨#[]⟩ : ByteArray), .int .i64 0]) ?_ 1 _ rfl; (with_reducible repeat (first | refine blk_drewN ?_ _ | refine blk_drew ?_ | refine blk_alloc ?_ _)); refine blk_put (cs := #[.int .i64 0, .string (⟨#[]⟩ : ByteArray), .int .i64 0]) ?_ 0 _ rfl; (with_reducible repeat (first | refine blk_drewN ?_ _ | refine blk_drew ?_ | refine blk_alloc ?_ _)); exact BK204.out⟩, ⟨by repeat (first | (with_reducible first | exact HI0.out | apply IsS98.alloc | apply IsS98.drewN | apply IsS98.drew | apply IsS98.set_1 | apply IsS98.set_2 | apply IsS98.set_3 | apply IsS98.set_4 | apply IsS98.far (hne := NB0_173.out) | apply IsS98.far (hne := NB0_184.out) | apply IsS98.far (hne := NB0_204.out)) | exact HI0.out)⟩, ⟨by repeat (first | (with_reducible first | exact HK.out | apply KeepBut.set_ | apply keep_drewN | apply keep_drew | apply keep_alloc | refine keep_far ?_ GW173.out _ | refine keep_far ?_ GW184.out _ | refine keep_far ?_ GW204.out _) | exact HK.out)⟩, ⟨by repeat (first | (with_reducible first | exact HB.out | apply below_alloc | apply pw_below_drewN | apply below_drew1 | refine below_set ?_ (IsS98.ge HI0.out) | refine below_set ?_ GE173.out | refine below_set ?_ GE184.out | refine below_set ?_ GE204.out) | exact HB.out)⟩⟩
        · rw [if_neg c29] at H
          have c29b0 : (t201 == 0) = false := beq_eq_false_iff_ne.mpr c29
          have c29b1 : (t201 != 0) = true := bne_iff_ne.mpr c29
          (first | rw [c29b0] | (simp only [i64_w, i32_w]; rw [c29b0]) | skip)
          have H' := Aside0.mk H
          clear H
          obtain ⟨ASz35_0, cSz35_0, HGz35, hgz35, HSz35_0⟩ := HI0.out
          have hcz35_0 := cellS98_0 HGz35
          have hcz35_1 := cellS98_1 HGz35
          have hcz35_2 := cellS98_2 HGz35
          have hcz35_3 := cellS98_3 HGz35
          have hcz35_4 := cellS98_4 HGz35
          have hfz35_1 := blk_frozen HGz35 1
          have hfz35_2 := blk_frozen HGz35 2
          have hfz35_3 := blk_frozen HGz35 3
          have hfz35_4 := blk_frozen HGz35 4
          clear HGz35 hgz35
          go_wp2
          go_meet
          case rel => exact ⟨_, (true), (by first | rfl | (simp; done) | (simp [bne]; done) | (simp [*]; done)), H', ⟨by first | omega | exact Nat.le_refl _⟩, ⟨by (with_reducible repeat (first | refine blk_drewN ?_ _ | refine blk_drew ?_ | refine blk_alloc ?_ _)); refine blk_far ?_ NB173_204.out _; (with_reducible repeat (first | refine blk_drewN ?_ _ | refine blk_drew ?_ | refine blk_alloc ?_ _)); refine blk_far ?_ NB173_204.out _; (with_reducible repeat (first | refine blk_drewN ?_ _ | refine blk_drew ?_ | refine blk_alloc ?_ _)); refine blk_far ?_ NB173_204.out _; (with_reducible repeat (first | refine blk_drewN ?_ _ | refine blk_drew ?_ | refine blk_alloc ?_ _)); exact BK173.out⟩, ⟨by (with_reducible repeat (first | refine blk_drewN ?_ _ | refine blk_drew ?_ | refine blk_alloc ?_ _)); refine blk_far ?_ NB184_204.out _; (with_reducible repeat (first | refine blk_drewN ?_ _ | refine blk_drew ?_ | refine blk_alloc ?_ _)); refine blk_far ?_ NB184_204.out _; (with_reducible repeat (first | refine blk_drewN ?_ _ | refine blk_drew ?_ | refine blk_alloc ?_ _)); refine blk_far ?_ NB184_204.out _; (with_reducible repeat (first | refine blk_drewN ?_ _ | refine blk_drew ?_ | refine blk_alloc ?_ _)); exact BK184.out⟩, ⟨by (with_reducible repeat (first | refine blk_drewN ?_ _ | refine blk_drew ?_ | refine blk_alloc ?_ _)); refine blk_put (cs := #[.int .i64 ((rd_T122 s0_0 t199).f0), .string ((rd_T122 s0_0 t199).f1), .int .i64 0]) ?_ 2 _ rfl; (with_reducible repeat (first | refine blk_drewN ?_ _ | refine blk_drew ?_ | refine blk_alloc ?_ _)); refine blk_put (cs := #[.int .i64 ((rd_T122 s0_0 t199).f0), .string (⟨#[]⟩ : ByteArray), .int .i64 0]) ?_ 1 _ rfl; (with_reducible repeat (first | refine blk_drewN ?_ _ | refine blk_drew ?_ | refine blk_alloc ?_ _)); refine blk_put (cs := #[.int .i64 0, .string (⟨#[]⟩ : ByteArray), .int .i64 0]) ?_ 0 _ rfl; (with_reducible repeat (first | refine blk_drewN ?_ _ | refine blk_drew ?_ | refine blk_alloc ?_ _)); exact BK204.out⟩, ⟨by repeat (first | (with_reducible first | exact HI0.out | apply IsS98.alloc | apply IsS98.drewN | apply IsS98.drew | apply IsS98.set_1 | apply IsS98.set_2 | apply IsS98.set_3 | apply IsS98.set_4 | apply IsS98.far (hne := NB0_173.out) | apply IsS98.far (hne := NB0_184.out) | apply IsS98.far (hne := NB0_204.out)) | exact HI0.out)⟩, ⟨by repeat (first | (with_reducible first | exact HK.out | apply KeepBut.set_ | apply keep_drewN | apply keep_drew | apply keep_alloc | refine keep_far ?_ GW173.out _ | refine keep_far ?_ GW184.out _ | refine keep_far ?_ GW204.out _) | exact HK.out)⟩, ⟨by repeat (first | (with_reducible first | exact HB.out | apply below_alloc | apply pw_below_drewN | apply below_drew1 | refine below_set ?_ (IsS98.ge HI0.out) | refine below_set ?_ GE173.out | refine below_set ?_ GE184.out | refine below_set ?_ GE204.out) | exact HB.out)⟩⟩
      case rest =>
        clear HC10
        try clear c1
        try clear c2
        try clear p2
        try clear q2
        try clear hx2
        try clear c3
        try clear c7
        try clear c8
        try clear c8b0
        try clear c9
        try clear c9b0
        try clear c15
        try clear c16
        try clear p20
        try clear q20
        try clear hx20
        try clear hx24
        try clear c29
        try clear c29b0
        try clear c29b1
        try clear c31
        try clear c32
        try clear c33
        try clear hcz17_0
        try clear hcz17_1
        try clear hcz17_2
        try clear hcz17_3
        try clear hcz20_0
        try clear hcz20_1
        try clear hcz20_2
        try clear hcz20_3
        try clear hcz30_0
        try clear hcz30_1
        try clear hcz30_2
        try clear hcz30_3
        try clear hcz30_4
        try clear hcz34_0
        try clear hcz34_1
        try clear hcz34_2
        try clear hcz35_0
        try clear hcz35_1
        try clear hcz35_2
        try clear hcz35_3
        try clear hcz35_4
        try clear hfz17_0
        try clear hfz17_1
        try clear hfz17_2
        try clear hfz17_3
        try clear hfz20_0
        try clear hfz20_1
        try clear hfz20_2
        try clear hfz20_3
        try clear hfz30_1
        try clear hfz30_2
        try clear hfz30_3
        try clear hfz30_4
        try clear hfz34_0
        try clear hfz34_1
        try clear hfz34_2
        try clear hfz35_1
        try clear hfz35_2
        try clear hfz35_3
        try clear hfz35_4
        try clear hx203_0
        try clear hx203_1
        try clear hx203_2
        try clear hx24_0
        try clear hx24_1
        try clear hx24_2
        try clear hx24_3
        try clear hx24_4
        try clear p203
        try clear q203
        obtain ⟨kq, x39_9, rfl, HA, HJ9, BK173, BK184, BK204, HI0, HK, HB⟩ := hcut
        cases kq with
        | zero => exact absurd HA.out (by simp [aquiferref11_reader_variable.j0])
        | succ kj9 =>
          have H := HA.out
          clear HA
          simp only [aquiferref11_reader_variable.j0] at H
          by_cases c36 : x39_9 = true
          · subst c36
            have H1 : (none) = some (r1, r2, r3, r4, r5, r6, r7, r8) := by rw [if_pos rfl] at H; exact H
            clear H
            have H := H1
            clear H1
            exact absurd H (by simp)
          · replace c36 := Bool.eq_false_iff.mpr c36
            subst c36
            have H1 : ((aquiferref11_num.f kj9 ((rd_T122 s0_0 t199).f1)).bind fun t205 => (if t198 = true then (none) else ((aquiferref11_reader_want.f s0_0 (wrap64 (t199 + 1)) t200 t201 t202 (⟨#[59]⟩ : ByteArray)).bind fun bt206 => (some (t179, t189, t205, t174, bt206.1, bt206.2.1, bt206.2.2.1, bt206.2.2.2))))) = some (r1, r2, r3, r4, r5, r6, r7, r8) := by rw [if_neg (show ¬ (false = true) by decide)] at H; exact H
            clear H
            have H := H1
            clear H1
            replace H := Option.bind_eq_some_iff.mp H
            obtain ⟨t205, A370, H⟩ := H
            replace H : (if t198 = true then (none) else ((aquiferref11_reader_want.f s0_0 (wrap64 (t199 + 1)) t200 t201 t202 (⟨#[59]⟩ : ByteArray)).bind fun bt206 => (some (t179, t189, t205, t174, bt206.1, bt206.2.1, bt206.2.2.1, bt206.2.2.2)))) = some (r1, r2, r3, r4, r5, r6, r7, r8) := H
            have A37 := Aside0.mk A370
            clear A370
            by_cases c38 : t198 = true
            · subst c38
              have H1 : (none) = some (r1, r2, r3, r4, r5, r6, r7, r8) := by rw [if_pos rfl] at H; exact H
              clear H
              have H := H1
              clear H1
              exact absurd H (by simp)
            · replace c38 := Bool.eq_false_iff.mpr c38
              subst c38
              have H1 : ((aquiferref11_reader_want.f s0_0 (wrap64 (t199 + 1)) t200 t201 t202 (⟨#[59]⟩ : ByteArray)).bind fun bt206 => (some (t179, t189, t205, t174, bt206.1, bt206.2.1, bt206.2.2.1, bt206.2.2.2))) = some (r1, r2, r3, r4, r5, r6, r7, r8) := by rw [if_neg (show ¬ (false = true) by decide)] at H; exact H
              clear H
              have H := H1
              clear H1
              replace H := Option.bind_eq_some_iff.mp H
              obtain ⟨⟨t206, t207, t208, t209⟩, A390, H⟩ := H
              replace H : (some (t179, t189, t205, t174, t206, t207, t208, t209)) = some (r1, r2, r3, r4, r5, r6, r7, r8) := H
              have A39 := Aside0.mk A390
              clear A390
              simp only [Option.some.injEq, Prod.mk.injEq] at H
              obtain ⟨rfl, rfl, rfl, rfl, rfl, rfl, rfl, rfl⟩ := H
              obtain ⟨ASz40_0, cSz40_0, HGz40, hgz40, HSz40_0⟩ := HI0.out
              have hcz40_0 := cellS98_0 HGz40
              have hcz40_1 := cellS98_1 HGz40
              have hcz40_2 := cellS98_2 HGz40
              have hcz40_3 := cellS98_3 HGz40
              have hcz40_4 := cellS98_4 HGz40
              have hfz40_1 := blk_frozen HGz40 1
              have hfz40_2 := blk_frozen HGz40 2
              have hfz40_3 := blk_frozen HGz40 3
              have hfz40_4 := blk_frozen HGz40 4
              clear HGz40 hgz40
              have hnb41 := NB204_173.out
              have hnc41 := NB173_204.out
              have hnb42 := NB204_184.out
              have hnc42 := NB184_204.out
              have hnb43 := NB204_0.out
              have hnc43 := NB0_204.out
              have hcz44_0 : wc.cell? ⟨gb204, 0, none⟩ = some (.int .i64 ((rd_T122 s0_0 t199).f0)) := (blk_cell BK204.out 0).trans rfl
              have hcz44_1 : wc.cell? ⟨gb204, 1, none⟩ = some (.string ((rd_T122 s0_0 t199).f1)) := (blk_cell BK204.out 1).trans rfl
              have hcz44_2 : wc.cell? ⟨gb204, 2, none⟩ = some (.int .i64 ((rd_T122 s0_0 t199).f2)) := (blk_cell BK204.out 2).trans rfl
              have hfz44_0 := blk_frozen BK204.out 0
              have hfz44_1 := blk_frozen BK204.out 1
              have hfz44_2 := blk_frozen BK204.out 2
              go_wp2_with (first | ((with_reducible refine gate_callee (f := 87) rfl ?_); refine goesL_ (some 52) rfl rfl Try.func87 (by kernel_rfl) rfl #[.string ((rd_T122 s0_0 t199).f1)] rfl (by (try simp only [List.map_toArray, List.map_cons, List.map_nil]); first | done | rfl | (simp only [List.length_drop, List.length_take]; rfl)) ?_; (with_reducible refine (aquiferref11_num.calls kj9 ((rd_T122 s0_0 t199).f1) t205 _ A37.out).mono ?_); rintro e w' ⟨rfl, ⟨nd, rfl⟩⟩; refine ⟨_, rfl, ?_⟩; have hnb45 := NB184_173.out; have hnc45 := NB173_184.out; have hnb46 := NB184_0.out; have hnc46 := NB0_184.out; have hcz47_0 : wc.cell? ⟨gb184, 0, none⟩ = some (.string t179) := (blk_cell BK184.out 0).trans rfl; have hcz47_1 : wc.cell? ⟨gb184, 1, none⟩ = some (.string t189) := (blk_cell BK184.out 1).trans rfl; have hcz47_2 : wc.cell? ⟨gb184, 2, none⟩ = some (.int .i64 0) := (blk_cell BK184.out 2).trans rfl; have hcz47_3 : wc.cell? ⟨gb184, 3, none⟩ = some (.int .i64 t174) := (blk_cell BK184.out 3).trans rfl; have hfz47_0 := blk_frozen BK184.out 0; have hfz47_1 := blk_frozen BK184.out 1; have hfz47_2 := blk_frozen BK184.out 2; have hfz47_3 := blk_frozen BK184.out 3) | ((with_reducible refine gate_callee (f := 73) rfl ?_); refine goesL_ (some 60) rfl rfl Try.func73 (by kernel_rfl) rfl #[.pointer (some ⟨g, 0, none⟩), .string (⟨#[59]⟩ : ByteArray)] rfl (by (try simp only [List.map_toArray, List.map_cons, List.map_nil]); first | done | rfl | (simp only [List.length_drop, List.length_take]; rfl)) ?_; (with_reducible refine (aquiferref11_reader_want.calls g s0_0 (wrap64 (t199 + 1)) t200 t201 t202 (⟨#[59]⟩ : ByteArray) t206 t207 t208 t209 w0 _ ?side1 ?side2 A39.out).mono ?_); (case side1 => repeat (first | (with_reducible first | exact HI0.out | apply IsS98.alloc | apply IsS98.drewN | apply IsS98.drew | apply IsS98.set_1 | apply IsS98.set_2 | apply IsS98.set_3 | apply IsS98.set_4 | apply IsS98.far (hne := NB0_173.out) | apply IsS98.far (hne := NB0_184.out) | apply IsS98.far (hne := NB0_204.out)) | exact HI0.out)); (case side2 => repeat (first | (with_reducible first | exact HB.out | apply below_alloc | apply pw_below_drewN | apply below_drew1 | refine below_set ?_ (IsS98.ge HI0.out) | refine below_set ?_ GE173.out | refine below_set ?_ GE184.out | refine below_set ?_ GE204.out) | exact HB.out)); rintro e w48 ⟨rfl, hi, hb, hk⟩; refine ⟨_, rfl, ?_⟩; have n0_ := Aside0.mk (KeepBut.blk hk (g' := gb173) (o := .cells #[.string (⟨#[]⟩ : ByteArray), .string (⟨#[]⟩ : ByteArray), .int .i64 0, .int .i64 0] 81 (0, 0)) (by (with_reducible repeat (first | refine blk_drewN ?_ _ | refine blk_drew ?_ | refine blk_alloc ?_ _)); refine blk_far ?_ NB173_184.out _; (with_reducible repeat (first | refine blk_drewN ?_ _ | refine blk_drew ?_ | refine blk_alloc ?_ _)); refine blk_far ?_ NB173_0.out _; (with_reducible repeat (first | refine blk_drewN ?_ _ | refine blk_drew ?_ | refine blk_alloc ?_ _)); exact BK173.out) NB173_0.out (by simp)); have n1_ := Aside0.mk (KeepBut.blk hk (g' := gb184) (o := .cells #[.string t179, .string t189, .int .i64 t205, .int .i64 t174] 81 (0, 0)) (by (with_reducible repeat (first | refine blk_drewN ?_ _ | refine blk_drew ?_ | refine blk_alloc ?_ _)); refine blk_put (cs := #[.string t179, .string t189, .int .i64 0, .int .i64 t174]) ?_ 2 _ rfl; (with_reducible repeat (first | refine blk_drewN ?_ _ | refine blk_drew ?_ | refine blk_alloc ?_ _)); refine blk_far ?_ NB184_0.out _; (with_reducible repeat (first | refine blk_drewN ?_ _ | refine blk_drew ?_ | refine blk_alloc ?_ _)); exact BK184.out) NB184_0.out (by simp)); have n2_ := Aside0.mk (KeepBut.blk hk (g' := gb204) (o := .cells #[.int .i64 ((rd_T122 s0_0 t199).f0), .string ((rd_T122 s0_0 t199).f1), .int .i64 ((rd_T122 s0_0 t199).f2)] 122 (0, 0)) (by (with_reducible repeat (first | refine blk_drewN ?_ _ | refine blk_drew ?_ | refine blk_alloc ?_ _)); refine blk_far ?_ NB204_184.out _; (with_reducible repeat (first | refine blk_drewN ?_ _ | refine blk_drew ?_ | refine blk_alloc ?_ _)); refine blk_far ?_ NB204_0.out _; (with_reducible repeat (first | refine blk_drewN ?_ _ | refine blk_drew ?_ | refine blk_alloc ?_ _)); exact BK204.out) NB204_0.out (by simp)); have n3_ := Aside0.mk (KeepBut.trans (by repeat (first | (with_reducible first | exact HK.out | apply KeepBut.set_ | apply keep_drewN | apply keep_drew | apply keep_alloc | refine keep_far ?_ GW173.out _ | refine keep_far ?_ GW184.out _ | refine keep_far ?_ GW204.out _) | exact HK.out)) hk (.inl rfl)); have n4_ := Aside0.mk (hb); have n5_ := Aside0.mk (hi); clear BK173; clear BK184; clear BK204; clear HK; clear HB; clear HI0; have BK173 := n0_; have BK184 := n1_; have BK204 := n2_; have HK := n3_; have HB := n4_; have HI0 := n5_; clear n0_ n1_ n2_ n3_ n4_ n5_; (try clear hb); (try clear hb2); (try clear hk); (try clear hi); have hcz49_0 : w48.cell? ⟨gb184, 0, none⟩ = some (.string t179) := (blk_cell BK184.out 0).trans rfl; have hcz49_1 : w48.cell? ⟨gb184, 1, none⟩ = some (.string t189) := (blk_cell BK184.out 1).trans rfl; have hcz49_2 : w48.cell? ⟨gb184, 2, none⟩ = some (.int .i64 t205) := (blk_cell BK184.out 2).trans rfl; have hcz49_3 : w48.cell? ⟨gb184, 3, none⟩ = some (.int .i64 t174) := (blk_cell BK184.out 3).trans rfl; have hfz49_0 := blk_frozen BK184.out 0; have hfz49_1 := blk_frozen BK184.out 1; have hfz49_2 := blk_frozen BK184.out 2; have hfz49_3 := blk_frozen BK184.out 3; have hnb50 := NB173_0.out; have hnc50 := NB0_173.out; have hcz51_0 : w48.cell? ⟨gb173, 0, none⟩ = some (.string (⟨#[]⟩ : ByteArray)) := (blk_cell BK173.out 0).trans rfl; have hcz51_1 : w48.cell? ⟨gb173, 1, none⟩ = some (.string (⟨#[]⟩ : ByteArray)) := (blk_cell BK173.out 1).trans rfl; have hcz51_2 : w48.cell? ⟨gb173, 2, none⟩ = some (.int .i64 0) := (blk_cell BK173.out 2).trans rfl; have hcz51_3 : w48.cell? ⟨gb173, 3, none⟩ = some (.int .i64 0) := (blk_cell BK173.out 3).trans rfl; have hfz51_0 := blk_frozen BK173.out 0; have hfz51_1 := blk_frozen BK173.out 1; have hfz51_2 := blk_frozen BK173.out 2; have hfz51_3 := blk_frozen BK173.out 3))
              refine bodyPost_ret (results_cell_row rfl _ _ gb173 81 #[.string t179, .string t189, .int .i64 t205, .int .i64 t174] (0, 0) _ rfl (by (with_reducible repeat (first | refine blk_drewN ?_ _ | refine blk_drew ?_ | refine blk_alloc ?_ _)); refine blk_put (cs := #[.string t179, .string t189, .int .i64 t205, .int .i64 0]) ?_ 3 _ rfl; (with_reducible repeat (first | refine blk_drewN ?_ _ | refine blk_drew ?_ | refine blk_alloc ?_ _)); refine blk_put (cs := #[.string t179, .string t189, .int .i64 0, .int .i64 0]) ?_ 2 _ rfl; (with_reducible repeat (first | refine blk_drewN ?_ _ | refine blk_drew ?_ | refine blk_alloc ?_ _)); refine blk_put (cs := #[.string t179, .string (⟨#[]⟩ : ByteArray), .int .i64 0, .int .i64 0]) ?_ 1 _ rfl; (with_reducible repeat (first | refine blk_drewN ?_ _ | refine blk_drew ?_ | refine blk_alloc ?_ _)); refine blk_put (cs := #[.string (⟨#[]⟩ : ByteArray), .string (⟨#[]⟩ : ByteArray), .int .i64 0, .int .i64 0]) ?_ 0 _ rfl; (with_reducible repeat (first | refine blk_drewN ?_ _ | refine blk_drew ?_ | refine blk_alloc ?_ _)); exact BK173.out) Try.underlying81 rfl (by kernel_rfl)) rfl ?_
              exact ⟨by first | rfl | (simp [errW_none, errW_some] <;> rfl) | (simp [*, errW_none, errW_some] <;> rfl), by repeat (first | (with_reducible first | exact HI0.out | apply IsS98.alloc | apply IsS98.drewN | apply IsS98.drew | apply IsS98.set_1 | apply IsS98.set_2 | apply IsS98.set_3 | apply IsS98.set_4 | apply IsS98.far (hne := NB0_173.out) | apply IsS98.far (hne := NB0_184.out) | apply IsS98.far (hne := NB0_204.out)) | exact HI0.out), by repeat (first | (with_reducible first | exact HB.out | apply below_alloc | apply pw_below_drewN | apply below_drew1 | refine below_set ?_ (IsS98.ge HI0.out) | refine below_set ?_ GE173.out | refine below_set ?_ GE184.out | refine below_set ?_ GE204.out) | exact HB.out), by repeat (first | (with_reducible first | exact HK.out | apply KeepBut.set_ | apply keep_drewN | apply keep_drew | apply keep_alloc | refine keep_far ?_ GW173.out _ | refine keep_far ?_ GW184.out _ | refine keep_far ?_ GW204.out _) | exact HK.out)⟩
    · rw [if_neg c9] at H
      exact absurd H (by simp)
  · rw [if_neg c8] at H
    exact absurd H (by simp)
end Go.Proofs.Ytkhalpeiifdfiaa.QMemoryOrders
