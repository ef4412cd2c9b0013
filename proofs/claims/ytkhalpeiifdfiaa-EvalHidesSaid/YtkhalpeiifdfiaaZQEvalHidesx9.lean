import Derived.Test.YtkhalpeiifdfiaaZQEvalHidesx0
import Derived.Test.YtkhalpeiifdfiaaZQEvalHidesx3
import Derived.Test.YtkhalpeiifdfiaaZQEvalHidesx8
namespace Go.Proofs.Ytkhalpeiifdfiaa.QEvalHides
open Go.RowKit Go.Proofs.YtkhalpeiifdfiaaW.PrintWords Go.Proofs.YtkhalpeiifdfiaaW.PrintLast Go.Proofs.YtkhalpeiifdfiaaW.PrintMore
attribute [local go_sem] max2_int min2_int max_two min_two max_three min_three max_four min_four
set_option linter.unusedVariables false
set_option linter.unusedSimpArgs false
def aquiferref11_Parse.f (k : Nat) (a0 : ByteArray) : Option (ByteArray × Int × (List S128) × (List S81) × (List S67) × Int × Int) :=
  (aquiferref11_Lex.f k a0).bind fun b => if b.2.1 = 0 then ((aquiferref11_reader_module.f k b.1 0 0 0 0).bind fun m => if m.2.2.2.2.2.2.2.1 = 0 then (some (m.1, m.2.1, m.2.2.1, m.2.2.2.1, m.2.2.2.2.1, 0, 0)) else (some ((⟨#[]⟩ : ByteArray), 0, ([] : List S128), ([] : List S81), ([] : List S67), m.2.2.2.2.2.2.2.1, m.2.2.2.2.2.2.2.2))) else (some ((⟨#[]⟩ : ByteArray), 0, ([] : List S128), ([] : List S81), ([] : List S67), b.2.1, b.2.2))
theorem aquiferref11_Parse.mono : ∀ a0 k, LeO (aquiferref11_Parse.f k a0) (aquiferref11_Parse.f (k + 1) a0) := by
  intro a0 k
  unfold aquiferref11_Parse.f
  repeat' first
      | (with_reducible exact aquiferref11_Lex.mono _ _)
      | (with_reducible exact aquiferref11_reader_module.mono _ _ _ _ _ _)
      | (with_reducible exact LeO.refl _)
      | (with_reducible exact LeO.none _)
      | (with_reducible refine LeO.ite ?_ ?_)
      | (with_reducible refine LeO.bind ?_ (fun _ => ?_))
      | exact aquiferref11_Lex.mono _ _
      | exact aquiferref11_reader_module.mono _ _ _ _ _ _
      | exact LeO.none _
      | refine LeO.ite ?_ ?_
      | refine LeO.bind ?_ (fun _ => ?_)
theorem aquiferref11_Parse.far5 {α : Type} {d : Kd α} {e base g : Nat} {ok : Nat → Prop} {W : World} {v : Value} {xs : List α} (h : d.R e W base ok v xs) (hok : ∀ k, ok k → k ≠ g) (u0 u1 u2 u3 u4 : Value) :
    d.R e (((((W.setCell ⟨g, 0, none⟩ u0).setCell ⟨g, 1, none⟩ u1).setCell ⟨g, 2, none⟩ u2).setCell ⟨g, 3, none⟩ u3).setCell ⟨g, 4, none⟩ u4) base ok v xs :=
  Kd.R_far (Kd.R_far (Kd.R_far (Kd.R_far (Kd.R_far h hok _) hok _) hok _) hok _) hok _
theorem aquiferref11_Parse.below5 {g : Nat} {w W : World} (h : Below w.heap.size w W) (hg : w.heap.size ≤ g) (u0 u1 u2 u3 u4 : Value) :
    Below w.heap.size w (((((W.setCell ⟨g, 0, none⟩ u0).setCell ⟨g, 1, none⟩ u1).setCell ⟨g, 2, none⟩ u2).setCell ⟨g, 3, none⟩ u3).setCell ⟨g, 4, none⟩ u4) :=
  below_set (below_set (below_set (below_set (below_set h hg) hg) hg) hg) hg
theorem aquiferref11_Parse.blk5 {g : Nat} {W : World} {t : TypeId} {a0 a1 a2 a3 a4 : Value} (h : W.heap[g]? = some (.cells #[a0, a1, a2, a3, a4] t (0, 0))) (u0 u1 u2 u3 u4 : Value) :
    (((((W.setCell ⟨g, 0, none⟩ u0).setCell ⟨g, 1, none⟩ u1).setCell ⟨g, 2, none⟩ u2).setCell ⟨g, 3, none⟩ u3).setCell ⟨g, 4, none⟩ u4).heap[g]? = some (.cells #[u0, u1, u2, u3, u4] t (0, 0)) :=
  blk_put (blk_put (blk_put (blk_put (blk_put h 0 u0 rfl) 1 u1 rfl) 2 u2 rfl) 3 u3 rfl) 4 u4 rfl
theorem aquiferref11_Parse.blkfar5 {g g' : Nat} {W : World} {t : TypeId} {cs : Array Value} (h : W.heap[g']? = some (.cells cs t (0, 0))) (hne : g' ≠ g) (u0 u1 u2 u3 u4 : Value) :
    (((((W.setCell ⟨g, 0, none⟩ u0).setCell ⟨g, 1, none⟩ u1).setCell ⟨g, 2, none⟩ u2).setCell ⟨g, 3, none⟩ u3).setCell ⟨g, 4, none⟩ u4).heap[g']? = some (.cells cs t (0, 0)) :=
  blk_far (blk_far (blk_far (blk_far (blk_far h hne _) hne _) hne _) hne _) hne _
set_option maxHeartbeats 4000000 in
set_option maxRecDepth 100000 in
theorem aquiferref11_Parse.calls (k : Nat) (a0 : ByteArray) (r1 : ByteArray) (r2 : Int) (r3 : List S128) (r4 : List S81) (r5 : List S67) (r6 r7 : Int) (w : World) (h : aquiferref11_Parse.f k a0 = some (r1, r2, r3, r4, r5, r6, r7)) :
    Calls Try.prog 31 #[.string a0] w fun e w' => ∃ v2_ v3_ v4_ : Value, e = .returned (.tuple #[.agg #[.string r1, .int .i64 r2, v2_, v3_, v4_], .int .i64 r6, .int .i64 r7]) ∧ Kd.R k128 128 w' w.heap.size (fun _ => True) v2_ r3 ∧ Kd.R k81 81 w' w.heap.size (fun _ => True) v3_ r4 ∧ Kd.R k67 67 w' w.heap.size (fun _ => True) v4_ r5 ∧ Below w.heap.size w w' := by
  have hu61 := Try.underlying61
  have hu98 := Try.underlying98
  unfold aquiferref11_Parse.f at h
  obtain ⟨⟨l, e1, at1⟩, hl, h⟩ := Option.bind_eq_some_iff.mp h
  dsimp only at h
  have HL := Aside0.mk hl
  clear hl
  by_cases c1 : e1 = 0
  · rw [if_pos c1] at h
    subst c1
    obtain ⟨⟨q1, q2, q3, q4, q5, q6, q7, q8, q9⟩, hm, hh⟩ := Option.bind_eq_some_iff.mp h
    dsimp only at hh
    have HM := Aside0.mk hm
    clear h hm
    by_cases c2 : q8 = 0
    case' pos =>
      rw [if_pos c2] at hh
      simp only [Option.some.injEq, Prod.mk.injEq] at hh
      obtain ⟨rfl, rfl, rfl, rfl, rfl, rfl, rfl⟩ := hh
      have c2b : (q8 != 0) = false := bne_eq_false_iff_eq.mpr c2
    case' neg =>
      rw [if_neg c2] at hh
      simp only [Option.some.injEq, Prod.mk.injEq] at hh
      obtain ⟨rfl, rfl, rfl, rfl, rfl, rfl, rfl⟩ := hh
      have c2b : (q8 != 0) = true := bne_iff_ne.mpr c2
    all_goals (clear c2)
    all_goals
      go_enter Try.func31, Try.ntmps31
      go_wp2_with ((with_reducible refine gate_dst (N := 2) rfl ?_); refine box_event ?hg (N := 2) ?hd (cs := #[.string (⟨#[]⟩ : ByteArray), .int .i64 0, .slice none 0 0, .slice none 0 0, .slice none 0 0]) (t := 61) ?hr ?_; (case hd => rfl); (case hg => rfl); (case hr => first | (go_simp; done) | (go_simp; rfl)); intro ga hga w1 hba hb1; have HGA := Aside0.mk hga; have HBA := Aside0.mk hba; have HB1 := Aside0.mk hb1; clear hga hba hb1)
      refine (aquiferref11_Lex.calls k a0 l 0 at1 _ HL.out).mono ?_
      rintro e w2 ⟨v2, rfl, ho2, hb2⟩
      obtain ⟨A2, C2, rfl⟩ := Kd.R_slice ho2
      have HO2 := Aside0.mk ho2
      have HBA2 := Aside0.mk (blk_below HBA.out hb2)
      have HB2 := Aside0.mk (below_step HB1.out hb2)
      have HGE := Aside0.mk (Nat.le_of_eq HGA.out.symm)
      have HLT2 := Aside0.mk (blk_lt HBA2.out)
      clear ho2 hb2 HB1 HBA
      go_wp2_with ((with_reducible refine gate_dst (N := 23) rfl ?_); refine box_event ?hg (N := 23) ?hd (cs := #[.slice A2 l.length C2, .int .i64 0, .int .i64 0, .int .i64 0, .int .i64 0]) (t := 98) ?hr ?_; (case hd => rfl); (case hg => rfl); (case hr => first | (go_simp; done) | (go_simp; rfl)); intro gr hgr w3 hbr hb3; have HGR := Aside0.mk hgr; have HBR := Aside0.mk hbr; have HB3 := Aside0.mk hb3; clear hgr hbr hb3)
      refine (aquiferref11_reader_module.calls k gr l 0 0 0 0 q1 q2 q3 q4 q5 q6 q7 q8 q9 w2 _ ⟨A2, C2, HBR.out, Nat.le_of_eq HGR.out.symm, (Kd.R_reads' HO2.out).2.2⟩ HB3.out HM.out).mono ?_
      rintro e w4 ⟨x2, x3, x4, rfl, hx2, hx3, hx4, hi, hb4, hk⟩
      have HNE : Aside0 (ga ≠ gr) := ⟨by have h1 := HLT2.out; have h2 := HGR.out; omega⟩
      have HLE : Aside0 (w.heap.size ≤ w3.heap.size) := ⟨Nat.le_trans (below_size HB2.out) (below_size HB3.out)⟩
      have HX2 := Aside0.mk (Kd.R_lower hx2 HLE.out)
      have HX3 := Aside0.mk (Kd.R_lower hx3 HLE.out)
      have HX4 := Aside0.mk (Kd.R_lower hx4 HLE.out)
      obtain ⟨A5, C5, HBR4, _, _⟩ := hi
      have HBA4 := Aside0.mk (KeepBut.blk hk (blk_below HBA2.out HB3.out) HNE.out (by simp))
      have HR4 := Aside0.mk HBR4
      have HB4 := Aside0.mk (below_step HB2.out hb4)
      obtain ⟨B2, D2, e2⟩ := Kd.R_slice hx2
      obtain ⟨B3, D3, e3⟩ := Kd.R_slice hx3
      obtain ⟨B4, D4, e4⟩ := Kd.R_slice hx4
      subst e2 e3 e4
      clear hx2 hx3 hx4 HBR4 hb4 hk HB3 HBR HO2 HBA2 HB2
      go_wp2_with ((with_reducible refine gate_dst (N := 9) rfl ?_); refine box_event ?hg (N := 9) ?hd (cs := #[.string (⟨#[]⟩ : ByteArray), .int .i64 0, .slice none 0 0, .slice none 0 0, .slice none 0 0]) (t := 61) ?hr ?_; (case hd => rfl); (case hg => rfl); (case hr => first | (go_simp; done) | (go_simp; rfl)); intro gm hgm w5 hbm hb5; have HGM := Aside0.mk hgm; have HBM := Aside0.mk hbm; have HB5 := Aside0.mk hb5; clear hgm hbm hb5; have HNM : Aside0 (ga ≠ gm ∧ gr ≠ gm) := ⟨by have h1 := HGM.out; have h2 := blk_lt HBA4.out; have h3 := blk_lt HR4.out; omega⟩; have hn1 := HNM.out.1; have hn2 := HNM.out.2; have hn3 := HNE.out; have hn4 := Ne.symm HNM.out.1; have hn5 := Ne.symm HNM.out.2; have hn6 := Ne.symm HNE.out; have HBA5 := Aside0.mk (blk_below HBA4.out HB5.out); have HR5 := Aside0.mk (blk_below HR4.out HB5.out); have HBB := Aside0.mk (below_step HB4.out HB5.out); have hc0 := (blk_cell HBM.out 0).trans rfl; have hc1 := (blk_cell HBM.out 1).trans rfl; have hc2 := (blk_cell HBM.out 2).trans rfl; have hc3 := (blk_cell HBM.out 3).trans rfl; have hc4 := (blk_cell HBM.out 4).trans rfl; have hf0 := blk_frozen HBM.out 0; have hf1 := blk_frozen HBM.out 1; have hf2 := blk_frozen HBM.out 2; have hf3 := blk_frozen HBM.out 3; have hf4 := blk_frozen HBM.out 4; have ha0 := (blk_cell HBA5.out 0).trans rfl; have ha1 := (blk_cell HBA5.out 1).trans rfl; have ha2 := (blk_cell HBA5.out 2).trans rfl; have ha3 := (blk_cell HBA5.out 3).trans rfl; have ha4 := (blk_cell HBA5.out 4).trans rfl; have hg0 := blk_frozen HBA5.out 0; have hg1 := blk_frozen HBA5.out 1; have hg2 := blk_frozen HBA5.out 2; have hg3 := blk_frozen HBA5.out 3; have hg4 := blk_frozen HBA5.out 4; have hr3 := (blk_cell HR5.out 3).trans rfl; have hr4 := (blk_cell HR5.out 4).trans rfl)
      try go_region
      try go_wp2
    · refine bodyPost_ret (results_ctt rfl _ _ ga 61 #[.string (⟨#[]⟩ : ByteArray), .int .i64 0, .slice none 0 0, .slice none 0 0, .slice none 0 0] (0, 0) _ rfl (by (with_reducible repeat (first | refine blk_drewN ?_ _ | refine blk_drew ?_)); exact aquiferref11_Parse.blk5 (aquiferref11_Parse.blkfar5 HBA5.out hn1 _ _ _ _ _) _ _ _ _ _) hu61 rfl (by kernel_rfl)) rfl ?_
      exact ⟨_, _, _, rfl, Kd.R_nil _ _ _ _ _, Kd.R_nil _ _ _ _ _, Kd.R_nil _ _ _ _ _, by (with_reducible repeat (first | apply pw_below_drewN | apply below_drew1)); exact aquiferref11_Parse.below5 (aquiferref11_Parse.below5 HBB.out (by have h1 := HGM.out; have h2 := below_size HB4.out; omega) _ _ _ _ _) HGE.out _ _ _ _ _⟩
    · refine bodyPost_ret (results_ctt rfl _ _ ga 61 #[.string q1, .int .i64 q2, .slice B2 q3.length D2, .slice B3 q4.length D3, .slice B4 q5.length D4] (0, 0) _ rfl (aquiferref11_Parse.blk5 (aquiferref11_Parse.blkfar5 HBA5.out hn1 _ _ _ _ _) _ _ _ _ _) hu61 rfl (by kernel_rfl)) rfl ?_
      exact ⟨_, _, _, rfl, Kd.R_mono (aquiferref11_Parse.far5 (aquiferref11_Parse.far5 (Kd.R_types (Kd.R_types (Kd.R_below HX2.out HB5.out) HBA5.out (by decide)) HBM.out (by decide)) (fun _ hk => hk.2) _ _ _ _ _) (fun _ hk => hk.1.2) _ _ _ _ _) (fun _ _ => trivial), Kd.R_mono (aquiferref11_Parse.far5 (aquiferref11_Parse.far5 (Kd.R_types (Kd.R_types (Kd.R_below HX3.out HB5.out) HBA5.out (by decide)) HBM.out (by decide)) (fun _ hk => hk.2) _ _ _ _ _) (fun _ hk => hk.1.2) _ _ _ _ _) (fun _ _ => trivial), Kd.R_mono (aquiferref11_Parse.far5 (aquiferref11_Parse.far5 (Kd.R_types (Kd.R_types (Kd.R_below HX4.out HB5.out) HBA5.out (by decide)) HBM.out (by decide)) (fun _ hk => hk.2) _ _ _ _ _) (fun _ hk => hk.1.2) _ _ _ _ _) (fun _ _ => trivial), aquiferref11_Parse.below5 (aquiferref11_Parse.below5 HBB.out (by have h1 := HGM.out; have h2 := below_size HB4.out; omega) _ _ _ _ _) HGE.out _ _ _ _ _⟩
  · rw [if_neg c1] at h
    simp only [Option.some.injEq, Prod.mk.injEq] at h
    obtain ⟨rfl, rfl, rfl, rfl, rfl, rfl, rfl⟩ := h
    have c1b : (e1 != 0) = true := bne_iff_ne.mpr c1
    clear c1
    go_enter Try.func31, Try.ntmps31
    go_wp2_with ((with_reducible refine gate_dst (N := 2) rfl ?_); refine box_event ?hg (N := 2) ?hd (cs := #[.string (⟨#[]⟩ : ByteArray), .int .i64 0, .slice none 0 0, .slice none 0 0, .slice none 0 0]) (t := 61) ?hr ?_; (case hd => rfl); (case hg => rfl); (case hr => first | (go_simp; done) | (go_simp; rfl)); intro ga hga w1 hba hb1; have HGA := Aside0.mk hga; have HBA := Aside0.mk hba; have HB1 := Aside0.mk hb1; clear hga hba hb1)
    refine (aquiferref11_Lex.calls k a0 l e1 at1 _ HL.out).mono ?_
    rintro e w2 ⟨v2, rfl, ho2, hb2⟩
    obtain ⟨A2, C2, rfl⟩ := Kd.R_slice ho2
    have HBA2 := Aside0.mk (blk_below HBA.out hb2)
    have HB2 := Aside0.mk (below_step HB1.out hb2)
    have HGE := Aside0.mk (Nat.le_of_eq HGA.out.symm)
    have ha0 := (blk_cell HBA2.out 0).trans rfl
    have ha1 := (blk_cell HBA2.out 1).trans rfl
    have ha2 := (blk_cell HBA2.out 2).trans rfl
    have ha3 := (blk_cell HBA2.out 3).trans rfl
    have ha4 := (blk_cell HBA2.out 4).trans rfl
    have hg0 := blk_frozen HBA2.out 0
    have hg1 := blk_frozen HBA2.out 1
    have hg2 := blk_frozen HBA2.out 2
    have hg3 := blk_frozen HBA2.out 3
    have hg4 := blk_frozen HBA2.out 4
    clear ho2 hb2 HB1 HBA
    go_wp2
    refine bodyPost_ret (results_ctt rfl _ _ ga 61 #[.string (⟨#[]⟩ : ByteArray), .int .i64 0, .slice none 0 0, .slice none 0 0, .slice none 0 0] (0, 0) _ rfl (aquiferref11_Parse.blk5 HBA2.out _ _ _ _ _) hu61 rfl (by kernel_rfl)) rfl ?_
    exact ⟨_, _, _, rfl, Kd.R_nil _ _ _ _ _, Kd.R_nil _ _ _ _ _, Kd.R_nil _ _ _ _ _, aquiferref11_Parse.below5 HB2.out HGE.out _ _ _ _ _⟩
def aquiferlaw21_Expr.f (k : Nat) (a0 : ByteArray) : Option ((List (S73)) × Bool) := if 43 + a0.size ≤ 9223372036854775807 then (if ((⟨#[109, 111, 100, 117, 108, 101, 32, 109, 59, 32, 112, 114, 111, 99, 32, 112, 40, 41, 32, 112, 99, 32, 97, 32, 117, 115, 101, 115, 32, 123, 125, 32, 123, 32, 114, 101, 115, 117, 108, 116, 32, 61, 32]⟩ : ByteArray) ++ a0).size + 3 ≤ 9223372036854775807 then ((aquiferref11_Parse.f k (((⟨#[109, 111, 100, 117, 108, 101, 32, 109, 59, 32, 112, 114, 111, 99, 32, 112, 40, 41, 32, 112, 99, 32, 97, 32, 117, 115, 101, 115, 32, 123, 125, 32, 123, 32, 114, 101, 115, 117, 108, 116, 32, 61, 32]⟩ : ByteArray) ++ a0) ++ (⟨#[59, 32, 125]⟩ : ByteArray))).bind fun bt465 => (if bt465.2.2.2.2.2.1 = 0 then (if (bt465.2.2.2.2.1.length : Int) = 1 then (if 0 < (bt465.2.2.2.2.1.length : Int) then (if (((rd_T67 bt465.2.2.2.2.1 0).f6).length : Int) = 1 then (if (a0.size : Int) > 600 then (some (([] : List (S73)), false)) else (if 0 < (((rd_T67 bt465.2.2.2.2.1 0).f6).length : Int) then (some ((rd_T70 ((rd_T67 bt465.2.2.2.2.1 0).f6) 0).f8, true)) else (none))) else (some (([] : List (S73)), false))) else (none)) else (some (([] : List (S73)), false))) else (some (([] : List (S73)), false)))) else (none)) else (none)
theorem aquiferlaw21_Expr.mono : ∀ a0 k, LeO (aquiferlaw21_Expr.f k a0) (aquiferlaw21_Expr.f (k + 1) a0) := by
  intro a0 k
  unfold aquiferlaw21_Expr.f
  repeat' first
      | (with_reducible exact aquiferref11_Parse.mono _ _)
      | (with_reducible exact LeO.refl _)
      | (with_reducible exact LeO.none _)
      | (with_reducible refine LeO.ite ?_ ?_)
      | (with_reducible refine LeO.bind ?_ (fun _ => ?_))
      | exact aquiferref11_Parse.mono _ _
      | exact LeO.none _
      | refine LeO.ite ?_ ?_
      | refine LeO.bind ?_ (fun _ => ?_)
set_option maxHeartbeats 8000000 in
set_option maxRecDepth 100000 in
theorem aquiferlaw21_Expr.calls (k : Nat) (a0 : ByteArray) (r1 : List (S73)) (r2 : Bool) (w : World) (h : aquiferlaw21_Expr.f k a0 = some (r1, r2)) :
    Calls Try.prog 11 #[.string a0] w fun e w' => ∃ v0_ : Value, e = .returned (.tuple #[v0_, .bool r2]) ∧ Kd.R k73 73 w' w.heap.size (fun _ => True) v0_ r1 ∧ Below w.heap.size w w' := by
  have hu61 := Try.underlying61
  have HB := Aside0.mk (Below.refl w.heap.size w)
  have H : (if 43 + a0.size ≤ 9223372036854775807 then (if ((⟨#[109, 111, 100, 117, 108, 101, 32, 109, 59, 32, 112, 114, 111, 99, 32, 112, 40, 41, 32, 112, 99, 32, 97, 32, 117, 115, 101, 115, 32, 123, 125, 32, 123, 32, 114, 101, 115, 117, 108, 116, 32, 61, 32]⟩ : ByteArray) ++ a0).size + 3 ≤ 9223372036854775807 then ((aquiferref11_Parse.f k (((⟨#[109, 111, 100, 117, 108, 101, 32, 109, 59, 32, 112, 114, 111, 99, 32, 112, 40, 41, 32, 112, 99, 32, 97, 32, 117, 115, 101, 115, 32, 123, 125, 32, 123, 32, 114, 101, 115, 117, 108, 116, 32, 61, 32]⟩ : ByteArray) ++ a0) ++ (⟨#[59, 32, 125]⟩ : ByteArray))).bind fun bt465 => (if bt465.2.2.2.2.2.1 = 0 then (if (bt465.2.2.2.2.1.length : Int) = 1 then (if 0 < (bt465.2.2.2.2.1.length : Int) then (if (((rd_T67 bt465.2.2.2.2.1 0).f6).length : Int) = 1 then (if (a0.size : Int) > 600 then (some (([] : List (S73)), false)) else (if 0 < (((rd_T67 bt465.2.2.2.2.1 0).f6).length : Int) then (some ((rd_T70 ((rd_T67 bt465.2.2.2.2.1 0).f6) 0).f8, true)) else (none))) else (some (([] : List (S73)), false))) else (none)) else (some (([] : List (S73)), false))) else (some (([] : List (S73)), false)))) else (none)) else (none)) = some (r1, r2) := h
  clear h
  by_cases c2 : 43 + a0.size ≤ 9223372036854775807
  · rw [if_pos c2] at H
    have c2b0 := eq_true c2
    have c2b1 : decide (43 + a0.size ≤ 9223372036854775807) = true := decide_eq_true c2
    try have c2b2 : (9223372036854775807 < 43 + a0.size) = False := eq_false (Nat.not_lt.2 c2)
    by_cases c3 : ((⟨#[109, 111, 100, 117, 108, 101, 32, 109, 59, 32, 112, 114, 111, 99, 32, 112, 40, 41, 32, 112, 99, 32, 97, 32, 117, 115, 101, 115, 32, 123, 125, 32, 123, 32, 114, 101, 115, 117, 108, 116, 32, 61, 32]⟩ : ByteArray) ++ a0).size + 3 ≤ 9223372036854775807
    · rw [if_pos c3] at H
      have c3b0 := eq_true c3
      have c3b1 : decide (((⟨#[109, 111, 100, 117, 108, 101, 32, 109, 59, 32, 112, 114, 111, 99, 32, 112, 40, 41, 32, 112, 99, 32, 97, 32, 117, 115, 101, 115, 32, 123, 125, 32, 123, 32, 114, 101, 115, 117, 108, 116, 32, 61, 32]⟩ : ByteArray) ++ a0).size + 3 ≤ 9223372036854775807) = true := decide_eq_true c3
      try have c3b2 : (9223372036854775807 < ((⟨#[109, 111, 100, 117, 108, 101, 32, 109, 59, 32, 112, 114, 111, 99, 32, 112, 40, 41, 32, 112, 99, 32, 97, 32, 117, 115, 101, 115, 32, 123, 125, 32, 123, 32, 114, 101, 115, 117, 108, 116, 32, 61, 32]⟩ : ByteArray) ++ a0).size + 3) = False := eq_false (Nat.not_lt.2 c3)
      have c3b3 : (9223372036854775807 < 43 + a0.size + 3) = False := by have h_ := c3b2; simp only [ByteArray.size_append] at h_; exact h_
      replace H := Option.bind_eq_some_iff.mp H
      obtain ⟨⟨t465, t466, t467, t470, t473, t476, t477⟩, A40, H⟩ := H
      replace H : (if t476 = 0 then (if (t473.length : Int) = 1 then (if 0 < (t473.length : Int) then (if (((rd_T67 t473 0).f6).length : Int) = 1 then (if (a0.size : Int) > 600 then (some (([] : List (S73)), false)) else (if 0 < (((rd_T67 t473 0).f6).length : Int) then (some ((rd_T70 ((rd_T67 t473 0).f6) 0).f8, true)) else (none))) else (some (([] : List (S73)), false))) else (none)) else (some (([] : List (S73)), false))) else (some (([] : List (S73)), false))) = some (r1, r2) := H
      have A4 := Aside0.mk A40
      clear A40
      by_cases c5 : t476 = 0
      · rw [if_pos c5] at H
        have c5b0 : (t476 == 0) = true := beq_iff_eq.mpr c5
        have c5b1 : (t476 != 0) = false := bne_eq_false_iff_eq.mpr c5
        clear c5
        by_cases c6 : (t473.length : Int) = 1
        · rw [if_pos c6] at H
          have c6b0 : ((t473.length : Int) == 1) = true := beq_iff_eq.mpr c6
          have c6b1 : ((t473.length : Int) != 1) = false := bne_eq_false_iff_eq.mpr c6
          clear c6
          by_cases c7 : 0 < (t473.length : Int)
          · rw [if_pos c7] at H
            have c7b0 : decide (0 < (t473.length : Int)) = true := decide_eq_true c7
            have c7b1 : decide (0 < t473.length) = true := decide_eq_true (by omega)
            clear c7
            by_cases c8 : (((rd_T67 t473 0).f6).length : Int) = 1
            · rw [if_pos c8] at H
              have c8b0 : ((((rd_T67 t473 0).f6).length : Int) == 1) = true := beq_iff_eq.mpr c8
              have c8b1 : ((((rd_T67 t473 0).f6).length : Int) != 1) = false := bne_eq_false_iff_eq.mpr c8
              clear c8
              by_cases c9 : (a0.size : Int) > 600
              · rw [if_pos c9] at H
                have c9b0 : decide (600 < (a0.size : Int)) = true := decide_eq_true c9
                have c9b1 : decide (600 < a0.size) = true := decide_eq_true (by omega)
                clear c9
                simp only [Option.some.injEq, Prod.mk.injEq] at H
                obtain ⟨rfl, rfl⟩ := H
                go_enter Try.func11, Try.ntmps11
                go_wp2_with (first | ((with_reducible refine gate_callee (f := 31) rfl ?_); refine goesL_ (some 11) rfl rfl Try.func31 (by kernel_rfl) rfl #[.string (((⟨#[109, 111, 100, 117, 108, 101, 32, 109, 59, 32, 112, 114, 111, 99, 32, 112, 40, 41, 32, 112, 99, 32, 97, 32, 117, 115, 101, 115, 32, 123, 125, 32, 123, 32, 114, 101, 115, 117, 108, 116, 32, 61, 32]⟩ : ByteArray) ++ a0) ++ (⟨#[59, 32, 125]⟩ : ByteArray))] rfl (by (try simp only [List.map_toArray, List.map_cons, List.map_nil]); first | done | rfl | (simp only [List.length_drop, List.length_take]; rfl)) ?_; (with_reducible refine (aquiferref11_Parse.calls k (((⟨#[109, 111, 100, 117, 108, 101, 32, 109, 59, 32, 112, 114, 111, 99, 32, 112, 40, 41, 32, 112, 99, 32, 97, 32, 117, 115, 101, 115, 32, 123, 125, 32, 123, 32, 114, 101, 115, 117, 108, 116, 32, 61, 32]⟩ : ByteArray) ++ a0) ++ (⟨#[59, 32, 125]⟩ : ByteArray)) t465 t466 t467 t470 t473 t476 t477 _ A4.out).mono ?_); rintro e w10 ⟨v468, v471, v474, rfl, ho0, ho1, ho2, hb⟩; refine ⟨_, rfl, ?_⟩; have n0_ := Aside0.mk (Kd.R_lower ho0 (below_size (by repeat (first | (with_reducible first | exact HB.out | apply below_alloc | apply pw_below_drewN | apply below_drew1) | exact HB.out)))); have n1_ := Aside0.mk (Kd.R_lower ho1 (below_size (by repeat (first | (with_reducible first | exact HB.out | apply below_alloc | apply pw_below_drewN | apply below_drew1) | exact HB.out)))); have n2_ := Aside0.mk (Kd.R_lower ho2 (below_size (by repeat (first | (with_reducible first | exact HB.out | apply below_alloc | apply pw_below_drewN | apply below_drew1) | exact HB.out)))); have n3_ := Aside0.mk (below_step (by repeat (first | (with_reducible first | exact HB.out | apply below_alloc | apply pw_below_drewN | apply below_drew1) | exact HB.out)) hb); clear HB; have HO469 := n0_; have HO472 := n1_; have HO475 := n2_; have HB := n3_; clear n0_ n1_ n2_ n3_; (try clear hb); (try clear hb2); (try clear hk); (try clear hi); (try clear ho0); (try clear ho1); (try clear ho2)) | ((with_reducible refine gate_dst (N := 4) rfl ?_); (try (refine gate_guard (by rfl) ?_; dsimp only)); refine box_event ?hg (N := 4) ?hd (cs := #[.string (⟨#[]⟩ : ByteArray), .int .i64 0, .slice none 0 0, .slice none 0 0, .slice none 0 0]) (t := 61) ?hr ?_; (case hd => rfl); (case hg => rfl); (case hr => first | (go_simp; done) | (go_simp; rfl)); intro gb478 hg w11 hbox hb; have n0_ := Aside0.mk (Kd.R_below (by (with_reducible repeat (first | apply Kd.R_alloc | apply Kd.R_drewN | apply Kd.R_drew)); exact HO469.out) hb); have n1_ := Aside0.mk (Kd.R_below (by (with_reducible repeat (first | apply Kd.R_alloc | apply Kd.R_drewN | apply Kd.R_drew)); exact HO472.out) hb); have n2_ := Aside0.mk (Kd.R_below (by (with_reducible repeat (first | apply Kd.R_alloc | apply Kd.R_drewN | apply Kd.R_drew)); exact HO475.out) hb); have n3_ := Aside0.mk (below_step (by repeat (first | (with_reducible first | exact HB.out | apply below_alloc | apply pw_below_drewN | apply below_drew1) | exact HB.out)) hb); have n4_ := Aside0.mk (hbox); have n5_ := Aside0.mk ((by rw [hg]; exact (below_size (by repeat (first | (with_reducible first | exact HB.out | apply below_alloc | apply pw_below_drewN | apply below_drew1) | exact HB.out))) : w.heap.size ≤ gb478)); have n6_ := Aside0.mk ((by rw [hg]; exact (below_size (by repeat (first | (with_reducible first | exact HB.out | apply below_alloc | apply pw_below_drewN | apply below_drew1) | exact HB.out))) : w.heap.size ≤ gb478)); clear HO469; clear HO472; clear HO475; clear HB; have HO469 := n0_; have HO472 := n1_; have HO475 := n2_; have HB := n3_; have BK478 := n4_; have GW478 := n5_; have GE478 := n6_; clear n0_ n1_ n2_ n3_ n4_ n5_ n6_; clear hb hbox hg; have hcz12_0 : w11.cell? ⟨gb478, 0, none⟩ = some (.string (⟨#[]⟩ : ByteArray)) := (blk_cell BK478.out 0).trans rfl; have hcz12_1 : w11.cell? ⟨gb478, 1, none⟩ = some (.int .i64 0) := (blk_cell BK478.out 1).trans rfl; have hcz12_2 : w11.cell? ⟨gb478, 2, none⟩ = some (.slice none 0 0) := (blk_cell BK478.out 2).trans rfl; have hcz12_3 : w11.cell? ⟨gb478, 3, none⟩ = some (.slice none 0 0) := (blk_cell BK478.out 3).trans rfl; have hcz12_4 : w11.cell? ⟨gb478, 4, none⟩ = some (.slice none 0 0) := (blk_cell BK478.out 4).trans rfl; have hfz12_0 := blk_frozen BK478.out 0; have hfz12_1 := blk_frozen BK478.out 1; have hfz12_2 := blk_frozen BK478.out 2; have hfz12_3 := blk_frozen BK478.out 3; have hfz12_4 := blk_frozen BK478.out 4; obtain ⟨Ao13, co13, eo13⟩ := Kd.R_slice HO469.out; subst eo13; obtain ⟨Ao14, co14, eo14⟩ := Kd.R_slice HO472.out; subst eo14; obtain ⟨Ao15, co15, eo15⟩ := Kd.R_slice HO475.out; subst eo15) | ((with_reducible refine gate_store (t := 61) (p := 4) rfl ?_); refine store_event (t := 61) (p := 4) (v := ?vo_w16) (w1 := (((((w11.setCell ⟨gb478, 0, none⟩ (.string t465)).setCell ⟨gb478, 1, none⟩ (.int .i64 t466)).setCell ⟨gb478, 2, none⟩ (.slice Ao13 t467.length co13)).setCell ⟨gb478, 3, none⟩ (.slice Ao14 t470.length co14)).setCell ⟨gb478, 4, none⟩ (.slice Ao15 t473.length co15))) ?hg ?ho ?hn ?hr ?_; (case ho => rfl); (case hg => rfl); (case hn => rfl); (case hr => first | (go_simp; done) | (go_simp; rfl)); intro w16 hw; have n0_ : Aside0 (Kd.R k128 128 w16 w.heap.size (fun _ => True) (.slice Ao13 t467.length co13) t467) := ⟨(by rw [hw]; exact (by (with_reducible repeat (first | apply Kd.R_alloc | apply Kd.R_drewN | apply Kd.R_drew)); exact Kd.R_mono (Kd.R_far (p := ⟨gb478, 4, none⟩) (Kd.R_far (p := ⟨gb478, 3, none⟩) (Kd.R_far (p := ⟨gb478, 2, none⟩) (Kd.R_far (p := ⟨gb478, 1, none⟩) (Kd.R_far (p := ⟨gb478, 0, none⟩) (Kd.R_types HO469.out BK478.out (by decide)) (fun _ hk => hk.2) (.string t465)) (fun _ hk => hk.2) (.int .i64 t466)) (fun _ hk => hk.2) (.slice Ao13 t467.length co13)) (fun _ hk => hk.2) (.slice Ao14 t470.length co14)) (fun _ hk => hk.2) (.slice Ao15 t473.length co15)) (fun _ hk => trivial)))⟩; have n1_ : Aside0 (Kd.R k81 81 w16 w.heap.size (fun _ => True) (.slice Ao14 t470.length co14) t470) := ⟨(by rw [hw]; exact (by (with_reducible repeat (first | apply Kd.R_alloc | apply Kd.R_drewN | apply Kd.R_drew)); exact Kd.R_mono (Kd.R_far (p := ⟨gb478, 4, none⟩) (Kd.R_far (p := ⟨gb478, 3, none⟩) (Kd.R_far (p := ⟨gb478, 2, none⟩) (Kd.R_far (p := ⟨gb478, 1, none⟩) (Kd.R_far (p := ⟨gb478, 0, none⟩) (Kd.R_types HO472.out BK478.out (by decide)) (fun _ hk => hk.2) (.string t465)) (fun _ hk => hk.2) (.int .i64 t466)) (fun _ hk => hk.2) (.slice Ao13 t467.length co13)) (fun _ hk => hk.2) (.slice Ao14 t470.length co14)) (fun _ hk => hk.2) (.slice Ao15 t473.length co15)) (fun _ hk => trivial)))⟩; have n2_ : Aside0 (Kd.R k67 67 w16 w.heap.size (fun _ => True) (.slice Ao15 t473.length co15) t473) := ⟨(by rw [hw]; exact (by (with_reducible repeat (first | apply Kd.R_alloc | apply Kd.R_drewN | apply Kd.R_drew)); exact Kd.R_mono (Kd.R_far (p := ⟨gb478, 4, none⟩) (Kd.R_far (p := ⟨gb478, 3, none⟩) (Kd.R_far (p := ⟨gb478, 2, none⟩) (Kd.R_far (p := ⟨gb478, 1, none⟩) (Kd.R_far (p := ⟨gb478, 0, none⟩) (Kd.R_types HO475.out BK478.out (by decide)) (fun _ hk => hk.2) (.string t465)) (fun _ hk => hk.2) (.int .i64 t466)) (fun _ hk => hk.2) (.slice Ao13 t467.length co13)) (fun _ hk => hk.2) (.slice Ao14 t470.length co14)) (fun _ hk => hk.2) (.slice Ao15 t473.length co15)) (fun _ hk => trivial)))⟩; have n3_ : Aside0 (w16.heap[gb478]? = some (.cells #[.string t465, .int .i64 t466, .slice Ao13 t467.length co13, .slice Ao14 t470.length co14, .slice Ao15 t473.length co15] 61 (0, 0))) := ⟨(by rw [hw]; exact (by (with_reducible repeat (first | refine blk_drewN ?_ _ | refine blk_drew ?_ | refine blk_alloc ?_ _)); refine blk_put (cs := #[.string t465, .int .i64 t466, .slice Ao13 t467.length co13, .slice Ao14 t470.length co14, .slice none 0 0]) ?_ 4 _ rfl; (with_reducible repeat (first | refine blk_drewN ?_ _ | refine blk_drew ?_ | refine blk_alloc ?_ _)); refine blk_put (cs := #[.string t465, .int .i64 t466, .slice Ao13 t467.length co13, .slice none 0 0, .slice none 0 0]) ?_ 3 _ rfl; (with_reducible repeat (first | refine blk_drewN ?_ _ | refine blk_drew ?_ | refine blk_alloc ?_ _)); refine blk_put (cs := #[.string t465, .int .i64 t466, .slice none 0 0, .slice none 0 0, .slice none 0 0]) ?_ 2 _ rfl; (with_reducible repeat (first | refine blk_drewN ?_ _ | refine blk_drew ?_ | refine blk_alloc ?_ _)); refine blk_put (cs := #[.string t465, .int .i64 0, .slice none 0 0, .slice none 0 0, .slice none 0 0]) ?_ 1 _ rfl; (with_reducible repeat (first | refine blk_drewN ?_ _ | refine blk_drew ?_ | refine blk_alloc ?_ _)); refine blk_put (cs := #[.string (⟨#[]⟩ : ByteArray), .int .i64 0, .slice none 0 0, .slice none 0 0, .slice none 0 0]) ?_ 0 _ rfl; (with_reducible repeat (first | refine blk_drewN ?_ _ | refine blk_drew ?_ | refine blk_alloc ?_ _)); exact BK478.out))⟩; have n4_ : Aside0 (Below w.heap.size w w16) := ⟨(by rw [hw]; exact (by repeat (first | (with_reducible first | exact HB.out | apply below_alloc | apply pw_below_drewN | apply below_drew1 | refine below_set ?_ GE478.out) | exact HB.out)))⟩; clear hw; clear HO469; clear HO472; clear HO475; clear BK478; clear HB; have HO469 := n0_; have HO472 := n1_; have HO475 := n2_; have BK478 := n3_; have HB := n4_; clear n0_ n1_ n2_ n3_ n4_; have hcz17_0 : w16.cell? ⟨gb478, 0, none⟩ = some (.string t465) := (blk_cell BK478.out 0).trans rfl; have hcz17_1 : w16.cell? ⟨gb478, 1, none⟩ = some (.int .i64 t466) := (blk_cell BK478.out 1).trans rfl; have hcz17_2 : w16.cell? ⟨gb478, 2, none⟩ = some (.slice Ao13 t467.length co13) := (blk_cell BK478.out 2).trans rfl; have hcz17_3 : w16.cell? ⟨gb478, 3, none⟩ = some (.slice Ao14 t470.length co14) := (blk_cell BK478.out 3).trans rfl; have hcz17_4 : w16.cell? ⟨gb478, 4, none⟩ = some (.slice Ao15 t473.length co15) := (blk_cell BK478.out 4).trans rfl; have hfz17_0 := blk_frozen BK478.out 0; have hfz17_1 := blk_frozen BK478.out 1; have hfz17_2 := blk_frozen BK478.out 2; have hfz17_3 := blk_frozen BK478.out 3; have hfz17_4 := blk_frozen BK478.out 4; have p479 : 0 ≤ (0 : Int) := (by omega); have q479 : 0 < (t473.length : Int) := of_decide_eq_true (by first | (with_reducible assumption) | assumption); obtain ⟨ad479, A479_1, c479_1, A479_5, c479_5, A479_6, c479_6, e479, hx479_0, hx479_1, hx479_2, hx479_3, hx479_4, hx479_5, hx479_6, hx479_7, hl479_1, hi479_1, hl479_5, hi479_5, hl479_6, hi479_6⟩ := at_T67 (Kd.R_reads' HO475.out).2.2 0 p479 q479; cases e479; obtain ⟨ce479, hce479, hMe479, hcc479⟩ := Kd.R_get HO475.out z67 0 p479 (by first | exact q479 | exact of_decide_eq_true (by first | (with_reducible assumption) | assumption) | (have e_ := (Kd.R_reads' HO475.out).1; omega)); obtain ⟨ve479_1, ve479_5, ve479_6, rfl, ge479_1, ge479_5, ge479_6⟩ := k67_openM hMe479; have hv479_1 := hcc479 1 _ rfl; rw [add_field _ _ 1 (by omega)] at hv479_1; replace hv479_1 := Option.some.inj (hv479_1.symm.trans hx479_1); rw [hv479_1] at ge479_1; have HL479_1 := Aside0.mk (show Kd.R k134 134 _ _ _ _ ((rd_T67 t473 0).f1) from ge479_1); clear hv479_1 ge479_1; have hv479_5 := hcc479 5 _ rfl; rw [add_field _ _ 5 (by omega)] at hv479_5; replace hv479_5 := Option.some.inj (hv479_5.symm.trans hx479_5); rw [hv479_5] at ge479_5; have HL479_5 := Aside0.mk (show Kd.R Kd.string 9 _ _ _ _ ((rd_T67 t473 0).f5) from ge479_5); clear hv479_5 ge479_5; have hv479_6 := hcc479 6 _ rfl; rw [add_field _ _ 6 (by omega)] at hv479_6; replace hv479_6 := Option.some.inj (hv479_6.symm.trans hx479_6); rw [hv479_6] at ge479_6; have HL479_6 := Aside0.mk (show Kd.R k70 70 _ _ _ _ ((rd_T67 t473 0).f6) from ge479_6); clear hv479_6 ge479_6; clear hcc479 hce479; have qi479 : (0 < t473.length) = True := eq_true (by omega); (try rw [show ((0 : Int)).toNat = 0 from rfl] at hx479_0); (try rw [show 0 * 8 = 0 from rfl] at hx479_0); (try rw [Addr.add_zero'] at hx479_0); (try rw [show ((0 : Int)).toNat = 0 from rfl] at hx479_1); (try rw [show 0 * 8 = 0 from rfl] at hx479_1); (try rw [Addr.add_zero'] at hx479_1); (try rw [show ((0 : Int)).toNat = 0 from rfl] at hx479_2); (try rw [show 0 * 8 = 0 from rfl] at hx479_2); (try rw [Addr.add_zero'] at hx479_2); (try rw [show ((0 : Int)).toNat = 0 from rfl] at hx479_3); (try rw [show 0 * 8 = 0 from rfl] at hx479_3); (try rw [Addr.add_zero'] at hx479_3); (try rw [show ((0 : Int)).toNat = 0 from rfl] at hx479_4); (try rw [show 0 * 8 = 0 from rfl] at hx479_4); (try rw [Addr.add_zero'] at hx479_4); (try rw [show ((0 : Int)).toNat = 0 from rfl] at hx479_5); (try rw [show 0 * 8 = 0 from rfl] at hx479_5); (try rw [Addr.add_zero'] at hx479_5); (try rw [show ((0 : Int)).toNat = 0 from rfl] at hx479_6); (try rw [show 0 * 8 = 0 from rfl] at hx479_6); (try rw [Addr.add_zero'] at hx479_6); (try rw [show ((0 : Int)).toNat = 0 from rfl] at hx479_7); (try rw [show 0 * 8 = 0 from rfl] at hx479_7); (try rw [Addr.add_zero'] at hx479_7); have HR479_1 := Aside0.mk hi479_1; have HC479_1 := Aside0.mk hl479_1; clear hi479_1 hl479_1; have HR479_5 := Aside0.mk hi479_5; have HC479_5 := Aside0.mk hl479_5; clear hi479_5 hl479_5; have HR479_6 := Aside0.mk hi479_6; have HC479_6 := Aside0.mk hl479_6; clear hi479_6 hl479_6; replace p479 := eq_true p479; replace q479 := eq_true q479))
                go_ret2
                exact ⟨_, by first | rfl | (simp [errW_none, errW_some] <;> rfl) | (simp [*, errW_none, errW_some] <;> rfl), by first | exact Kd.R_nil _ _ _ _ _ | exact Kd.N_nil _ _ _ _ _ | exact Kd.V_nil _ _ _ _ _ | exact Kd.Q_nil _ _ _ _ _ | exact Kd.S_nil _ _ _ _ _, by repeat (first | (with_reducible first | exact HB.out | apply below_alloc | apply pw_below_drewN | apply below_drew1 | refine below_set ?_ GE478.out) | exact HB.out)⟩
              · rw [if_neg c9] at H
                have c9b0 : decide (600 < (a0.size : Int)) = false := decide_eq_false c9
                have c9b1 : decide (600 < a0.size) = false := decide_eq_false (by omega)
                clear c9
                by_cases c18 : 0 < (((rd_T67 t473 0).f6).length : Int)
                · rw [if_pos c18] at H
                  have c18b0 : decide (0 < (((rd_T67 t473 0).f6).length : Int)) = true := decide_eq_true c18
                  have c18b1 : decide (0 < ((rd_T67 t473 0).f6).length) = true := decide_eq_true (by omega)
                  clear c18
                  simp only [Option.some.injEq, Prod.mk.injEq] at H
                  obtain ⟨rfl, rfl⟩ := H
                  go_enter Try.func11, Try.ntmps11
                  go_wp2_with (first | ((with_reducible refine gate_callee (f := 31) rfl ?_); refine goesL_ (some 11) rfl rfl Try.func31 (by kernel_rfl) rfl #[.string (((⟨#[109, 111, 100, 117, 108, 101, 32, 109, 59, 32, 112, 114, 111, 99, 32, 112, 40, 41, 32, 112, 99, 32, 97, 32, 117, 115, 101, 115, 32, 123, 125, 32, 123, 32, 114, 101, 115, 117, 108, 116, 32, 61, 32]⟩ : ByteArray) ++ a0) ++ (⟨#[59, 32, 125]⟩ : ByteArray))] rfl (by (try simp only [List.map_toArray, List.map_cons, List.map_nil]); first | done | rfl | (simp only [List.length_drop, List.length_take]; rfl)) ?_; (with_reducible refine (aquiferref11_Parse.calls k (((⟨#[109, 111, 100, 117, 108, 101, 32, 109, 59, 32, 112, 114, 111, 99, 32, 112, 40, 41, 32, 112, 99, 32, 97, 32, 117, 115, 101, 115, 32, 123, 125, 32, 123, 32, 114, 101, 115, 117, 108, 116, 32, 61, 32]⟩ : ByteArray) ++ a0) ++ (⟨#[59, 32, 125]⟩ : ByteArray)) t465 t466 t467 t470 t473 t476 t477 _ A4.out).mono ?_); rintro e w19 ⟨v468, v471, v474, rfl, ho0, ho1, ho2, hb⟩; refine ⟨_, rfl, ?_⟩; have n0_ := Aside0.mk (Kd.R_lower ho0 (below_size (by repeat (first | (with_reducible first | exact HB.out | apply below_alloc | apply pw_below_drewN | apply below_drew1) | exact HB.out)))); have n1_ := Aside0.mk (Kd.R_lower ho1 (below_size (by repeat (first | (with_reducible first | exact HB.out | apply below_alloc | apply pw_below_drewN | apply below_drew1) | exact HB.out)))); have n2_ := Aside0.mk (Kd.R_lower ho2 (below_size (by repeat (first | (with_reducible first | exact HB.out | apply below_alloc | apply pw_below_drewN | apply below_drew1) | exact HB.out)))); have n3_ := Aside0.mk (below_step (by repeat (first | (with_reducible first | exact HB.out | apply below_alloc | apply pw_below_drewN | apply below_drew1) | exact HB.out)) hb); clear HB; have HO469 := n0_; have HO472 := n1_; have HO475 := n2_; have HB := n3_; clear n0_ n1_ n2_ n3_; (try clear hb); (try clear hb2); (try clear hk); (try clear hi); (try clear ho0); (try clear ho1); (try clear ho2)) | ((with_reducible refine gate_dst (N := 4) rfl ?_); (try (refine gate_guard (by rfl) ?_; dsimp only)); refine box_event ?hg (N := 4) ?hd (cs := #[.string (⟨#[]⟩ : ByteArray), .int .i64 0, .slice none 0 0, .slice none 0 0, .slice none 0 0]) (t := 61) ?hr ?_; (case hd => rfl); (case hg => rfl); (case hr => first | (go_simp; done) | (go_simp; rfl)); intro gb478 hg w20 hbox hb; have n0_ := Aside0.mk (Kd.R_below (by (with_reducible repeat (first | apply Kd.R_alloc | apply Kd.R_drewN | apply Kd.R_drew)); exact HO469.out) hb); have n1_ := Aside0.mk (Kd.R_below (by (with_reducible repeat (first | apply Kd.R_alloc | apply Kd.R_drewN | apply Kd.R_drew)); exact HO472.out) hb); have n2_ := Aside0.mk (Kd.R_below (by (with_reducible repeat (first | apply Kd.R_alloc | apply Kd.R_drewN | apply Kd.R_drew)); exact HO475.out) hb); have n3_ := Aside0.mk (below_step (by repeat (first | (with_reducible first | exact HB.out | apply below_alloc | apply pw_below_drewN | apply below_drew1) | exact HB.out)) hb); have n4_ := Aside0.mk (hbox); have n5_ := Aside0.mk ((by rw [hg]; exact (below_size (by repeat (first | (with_reducible first | exact HB.out | apply below_alloc | apply pw_below_drewN | apply below_drew1) | exact HB.out))) : w.heap.size ≤ gb478)); have n6_ := Aside0.mk ((by rw [hg]; exact (below_size (by repeat (first | (with_reducible first | exact HB.out | apply below_alloc | apply pw_below_drewN | apply below_drew1) | exact HB.out))) : w.heap.size ≤ gb478)); clear HO469; clear HO472; clear HO475; clear HB; have HO469 := n0_; have HO472 := n1_; have HO475 := n2_; have HB := n3_; have BK478 := n4_; have GW478 := n5_; have GE478 := n6_; clear n0_ n1_ n2_ n3_ n4_ n5_ n6_; clear hb hbox hg; have hcz21_0 : w20.cell? ⟨gb478, 0, none⟩ = some (.string (⟨#[]⟩ : ByteArray)) := (blk_cell BK478.out 0).trans rfl; have hcz21_1 : w20.cell? ⟨gb478, 1, none⟩ = some (.int .i64 0) := (blk_cell BK478.out 1).trans rfl; have hcz21_2 : w20.cell? ⟨gb478, 2, none⟩ = some (.slice none 0 0) := (blk_cell BK478.out 2).trans rfl; have hcz21_3 : w20.cell? ⟨gb478, 3, none⟩ = some (.slice none 0 0) := (blk_cell BK478.out 3).trans rfl; have hcz21_4 : w20.cell? ⟨gb478, 4, none⟩ = some (.slice none 0 0) := (blk_cell BK478.out 4).trans rfl; have hfz21_0 := blk_frozen BK478.out 0; have hfz21_1 := blk_frozen BK478.out 1; have hfz21_2 := blk_frozen BK478.out 2; have hfz21_3 := blk_frozen BK478.out 3; have hfz21_4 := blk_frozen BK478.out 4; obtain ⟨Ao22, co22, eo22⟩ := Kd.R_slice HO469.out; subst eo22; obtain ⟨Ao23, co23, eo23⟩ := Kd.R_slice HO472.out; subst eo23; obtain ⟨Ao24, co24, eo24⟩ := Kd.R_slice HO475.out; subst eo24) | ((with_reducible refine gate_store (t := 61) (p := 4) rfl ?_); refine store_event (t := 61) (p := 4) (v := ?vo_w25) (w1 := (((((w20.setCell ⟨gb478, 0, none⟩ (.string t465)).setCell ⟨gb478, 1, none⟩ (.int .i64 t466)).setCell ⟨gb478, 2, none⟩ (.slice Ao22 t467.length co22)).setCell ⟨gb478, 3, none⟩ (.slice Ao23 t470.length co23)).setCell ⟨gb478, 4, none⟩ (.slice Ao24 t473.length co24))) ?hg ?ho ?hn ?hr ?_; (case ho => rfl); (case hg => rfl); (case hn => rfl); (case hr => first | (go_simp; done) | (go_simp; rfl)); intro w25 hw; have n0_ : Aside0 (Kd.R k128 128 w25 w.heap.size (fun _ => True) (.slice Ao22 t467.length co22) t467) := ⟨(by rw [hw]; exact (by (with_reducible repeat (first | apply Kd.R_alloc | apply Kd.R_drewN | apply Kd.R_drew)); exact Kd.R_mono (Kd.R_far (p := ⟨gb478, 4, none⟩) (Kd.R_far (p := ⟨gb478, 3, none⟩) (Kd.R_far (p := ⟨gb478, 2, none⟩) (Kd.R_far (p := ⟨gb478, 1, none⟩) (Kd.R_far (p := ⟨gb478, 0, none⟩) (Kd.R_types HO469.out BK478.out (by decide)) (fun _ hk => hk.2) (.string t465)) (fun _ hk => hk.2) (.int .i64 t466)) (fun _ hk => hk.2) (.slice Ao22 t467.length co22)) (fun _ hk => hk.2) (.slice Ao23 t470.length co23)) (fun _ hk => hk.2) (.slice Ao24 t473.length co24)) (fun _ hk => trivial)))⟩; have n1_ : Aside0 (Kd.R k81 81 w25 w.heap.size (fun _ => True) (.slice Ao23 t470.length co23) t470) := ⟨(by rw [hw]; exact (by (with_reducible repeat (first | apply Kd.R_alloc | apply Kd.R_drewN | apply Kd.R_drew)); exact Kd.R_mono (Kd.R_far (p := ⟨gb478, 4, none⟩) (Kd.R_far (p := ⟨gb478, 3, none⟩) (Kd.R_far (p := ⟨gb478, 2, none⟩) (Kd.R_far (p := ⟨gb478, 1, none⟩) (Kd.R_far (p := ⟨gb478, 0, none⟩) (Kd.R_types HO472.out BK478.out (by decide)) (fun _ hk => hk.2) (.string t465)) (fun _ hk => hk.2) (.int .i64 t466)) (fun _ hk => hk.2) (.slice Ao22 t467.length co22)) (fun _ hk => hk.2) (.slice Ao23 t470.length co23)) (fun _ hk => hk.2) (.slice Ao24 t473.length co24)) (fun _ hk => trivial)))⟩; have n2_ : Aside0 (Kd.R k67 67 w25 w.heap.size (fun _ => True) (.slice Ao24 t473.length co24) t473) := ⟨(by rw [hw]; exact (by (with_reducible repeat (first | apply Kd.R_alloc | apply Kd.R_drewN | apply Kd.R_drew)); exact Kd.R_mono (Kd.R_far (p := ⟨gb478, 4, none⟩) (Kd.R_far (p := ⟨gb478, 3, none⟩) (Kd.R_far (p := ⟨gb478, 2, none⟩) (Kd.R_far (p := ⟨gb478, 1, none⟩) (Kd.R_far (p := ⟨gb478, 0, none⟩) (Kd.R_types HO475.out BK478.out (by decide)) (fun _ hk => hk.2) (.string t465)) (fun _ hk => hk.2) (.int .i64 t466)) (fun _ hk => hk.2) (.slice Ao22 t467.length co22)) (fun _ hk => hk.2) (.slice Ao23 t470.length co23)) (fun _ hk => hk.2) (.slice Ao24 t473.length co24)) (fun _ hk => trivial)))⟩; have n3_ : Aside0 (w25.heap[gb478]? = some (.cells #[.string t465, .int .i64 t466, .slice Ao22 t467.length co22, .slice Ao23 t470.length co23, .slice Ao24 t473.length co24] 61 (0, 0))) := ⟨(by rw [hw]; exact (by (with_reducible repeat (first | refine blk_drewN ?_ _ | refine blk_drew ?_ | refine blk_alloc ?_ _)); refine blk_put (cs := #[.string t465, .int .i64 t466, .slice Ao22 t467.length co22, .slice Ao23 t470.length co23, .slice none 0 0]) ?_ 4 _ rfl; (with_reducible repeat (first | refine blk_drewN ?_ _ | refine blk_drew ?_ | refine blk_alloc ?_ _)); refine blk_put (cs := #[.string t465, .int .i64 t466, .slice Ao22 t467.length co22, .slice none 0 0, .slice none 0 0]) ?_ 3 _ rfl; (with_reducible repeat (first | refine blk_drewN ?_ _ | refine blk_drew ?_ | refine blk_alloc ?_ _)); refine blk_put (cs := #[.string t465, .int .i64 t466, .slice none 0 0, .slice none 0 0, .slice none 0 0]) ?_ 2 _ rfl; (with_reducible repeat (first | refine blk_drewN ?_ _ | refine blk_drew ?_ | refine blk_alloc ?_ _)); refine blk_put (cs := #[.string t465, .int .i64 0, .slice none 0 0, .slice none 0 0, .slice none 0 0]) ?_ 1 _ rfl; (with_reducible repeat (first | refine blk_drewN ?_ _ | refine blk_drew ?_ | refine blk_alloc ?_ _)); refine blk_put (cs := #[.string (⟨#[]⟩ : ByteArray), .int .i64 0, .slice none 0 0, .slice none 0 0, .slice none 0 0]) ?_ 0 _ rfl; (with_reducible repeat (first | refine blk_drewN ?_ _ | refine blk_drew ?_ | refine blk_alloc ?_ _)); exact BK478.out))⟩; have n4_ : Aside0 (Below w.heap.size w w25) := ⟨(by rw [hw]; exact (by repeat (first | (with_reducible first | exact HB.out | apply below_alloc | apply pw_below_drewN | apply below_drew1 | refine below_set ?_ GE478.out) | exact HB.out)))⟩; clear hw; clear HO469; clear HO472; clear HO475; clear BK478; clear HB; have HO469 := n0_; have HO472 := n1_; have HO475 := n2_; have BK478 := n3_; have HB := n4_; clear n0_ n1_ n2_ n3_ n4_; have hcz26_0 : w25.cell? ⟨gb478, 0, none⟩ = some (.string t465) := (blk_cell BK478.out 0).trans rfl; have hcz26_1 : w25.cell? ⟨gb478, 1, none⟩ = some (.int .i64 t466) := (blk_cell BK478.out 1).trans rfl; have hcz26_2 : w25.cell? ⟨gb478, 2, none⟩ = some (.slice Ao22 t467.length co22) := (blk_cell BK478.out 2).trans rfl; have hcz26_3 : w25.cell? ⟨gb478, 3, none⟩ = some (.slice Ao23 t470.length co23) := (blk_cell BK478.out 3).trans rfl; have hcz26_4 : w25.cell? ⟨gb478, 4, none⟩ = some (.slice Ao24 t473.length co24) := (blk_cell BK478.out 4).trans rfl; have hfz26_0 := blk_frozen BK478.out 0; have hfz26_1 := blk_frozen BK478.out 1; have hfz26_2 := blk_frozen BK478.out 2; have hfz26_3 := blk_frozen BK478.out 3; have hfz26_4 := blk_frozen BK478.out 4; have p479 : 0 ≤ (0 : Int) := (by omega); have q479 : 0 < (t473.length : Int) := of_decide_eq_true (by first | (with_reducible assumption) | assumption); obtain ⟨ad479, A479_1, c479_1, A479_5, c479_5, A479_6, c479_6, e479, hx479_0, hx479_1, hx479_2, hx479_3, hx479_4, hx479_5, hx479_6, hx479_7, hl479_1, hi479_1, hl479_5, hi479_5, hl479_6, hi479_6⟩ := at_T67 (Kd.R_reads' HO475.out).2.2 0 p479 q479; cases e479; obtain ⟨ce479, hce479, hMe479, hcc479⟩ := Kd.R_get HO475.out z67 0 p479 (by first | exact q479 | exact of_decide_eq_true (by first | (with_reducible assumption) | assumption) | (have e_ := (Kd.R_reads' HO475.out).1; omega)); obtain ⟨ve479_1, ve479_5, ve479_6, rfl, ge479_1, ge479_5, ge479_6⟩ := k67_openM hMe479; have hv479_1 := hcc479 1 _ rfl; rw [add_field _ _ 1 (by omega)] at hv479_1; replace hv479_1 := Option.some.inj (hv479_1.symm.trans hx479_1); rw [hv479_1] at ge479_1; have HL479_1 := Aside0.mk (show Kd.R k134 134 _ _ _ _ ((rd_T67 t473 0).f1) from ge479_1); clear hv479_1 ge479_1; have hv479_5 := hcc479 5 _ rfl; rw [add_field _ _ 5 (by omega)] at hv479_5; replace hv479_5 := Option.some.inj (hv479_5.symm.trans hx479_5); rw [hv479_5] at ge479_5; have HL479_5 := Aside0.mk (show Kd.R Kd.string 9 _ _ _ _ ((rd_T67 t473 0).f5) from ge479_5); clear hv479_5 ge479_5; have hv479_6 := hcc479 6 _ rfl; rw [add_field _ _ 6 (by omega)] at hv479_6; replace hv479_6 := Option.some.inj (hv479_6.symm.trans hx479_6); rw [hv479_6] at ge479_6; have HL479_6 := Aside0.mk (show Kd.R k70 70 _ _ _ _ ((rd_T67 t473 0).f6) from ge479_6); clear hv479_6 ge479_6; clear hcc479 hce479; have qi479 : (0 < t473.length) = True := eq_true (by omega); (try rw [show ((0 : Int)).toNat = 0 from rfl] at hx479_0); (try rw [show 0 * 8 = 0 from rfl] at hx479_0); (try rw [Addr.add_zero'] at hx479_0); (try rw [show ((0 : Int)).toNat = 0 from rfl] at hx479_1); (try rw [show 0 * 8 = 0 from rfl] at hx479_1); (try rw [Addr.add_zero'] at hx479_1); (try rw [show ((0 : Int)).toNat = 0 from rfl] at hx479_2); (try rw [show 0 * 8 = 0 from rfl] at hx479_2); (try rw [Addr.add_zero'] at hx479_2); (try rw [show ((0 : Int)).toNat = 0 from rfl] at hx479_3); (try rw [show 0 * 8 = 0 from rfl] at hx479_3); (try rw [Addr.add_zero'] at hx479_3); (try rw [show ((0 : Int)).toNat = 0 from rfl] at hx479_4); (try rw [show 0 * 8 = 0 from rfl] at hx479_4); (try rw [Addr.add_zero'] at hx479_4); (try rw [show ((0 : Int)).toNat = 0 from rfl] at hx479_5); (try rw [show 0 * 8 = 0 from rfl] at hx479_5); (try rw [Addr.add_zero'] at hx479_5); (try rw [show ((0 : Int)).toNat = 0 from rfl] at hx479_6); (try rw [show 0 * 8 = 0 from rfl] at hx479_6); (try rw [Addr.add_zero'] at hx479_6); (try rw [show ((0 : Int)).toNat = 0 from rfl] at hx479_7); (try rw [show 0 * 8 = 0 from rfl] at hx479_7); (try rw [Addr.add_zero'] at hx479_7); have HR479_1 := Aside0.mk hi479_1; have HC479_1 := Aside0.mk hl479_1; clear hi479_1 hl479_1; have HR479_5 := Aside0.mk hi479_5; have HC479_5 := Aside0.mk hl479_5; clear hi479_5 hl479_5; have HR479_6 := Aside0.mk hi479_6; have HC479_6 := Aside0.mk hl479_6; clear hi479_6 hl479_6; replace p479 := eq_true p479; replace q479 := eq_true q479; have p480 : 0 ≤ (0 : Int) := (by omega); have q480 : 0 < (t473.length : Int) := of_decide_eq_true (by first | (with_reducible assumption) | assumption); obtain ⟨ad480, A480_1, c480_1, A480_5, c480_5, A480_6, c480_6, e480, hx480_0, hx480_1, hx480_2, hx480_3, hx480_4, hx480_5, hx480_6, hx480_7, hl480_1, hi480_1, hl480_5, hi480_5, hl480_6, hi480_6⟩ := at_T67 (Kd.R_reads' HO475.out).2.2 0 p480 q480; obtain rfl : ad479 = ad480 := (by injection e480); obtain ⟨ce480, hce480, hMe480, hcc480⟩ := Kd.R_get HO475.out z67 0 p480 (by first | exact q480 | exact of_decide_eq_true (by first | (with_reducible assumption) | assumption) | (have e_ := (Kd.R_reads' HO475.out).1; omega)); obtain ⟨ve480_1, ve480_5, ve480_6, rfl, ge480_1, ge480_5, ge480_6⟩ := k67_openM hMe480; have hv480_1 := hcc480 1 _ rfl; rw [add_field _ _ 1 (by omega)] at hv480_1; replace hv480_1 := Option.some.inj (hv480_1.symm.trans hx480_1); rw [hv480_1] at ge480_1; have HL480_1 := Aside0.mk (show Kd.R k134 134 _ _ _ _ ((rd_T67 t473 0).f1) from ge480_1); clear hv480_1 ge480_1; have hv480_5 := hcc480 5 _ rfl; rw [add_field _ _ 5 (by omega)] at hv480_5; replace hv480_5 := Option.some.inj (hv480_5.symm.trans hx480_5); rw [hv480_5] at ge480_5; have HL480_5 := Aside0.mk (show Kd.R Kd.string 9 _ _ _ _ ((rd_T67 t473 0).f5) from ge480_5); clear hv480_5 ge480_5; have hv480_6 := hcc480 6 _ rfl; rw [add_field _ _ 6 (by omega)] at hv480_6; replace hv480_6 := Option.some.inj (hv480_6.symm.trans hx480_6); rw [hv480_6] at ge480_6; have HL480_6 := Aside0.mk (show Kd.R k70 70 _ _ _ _ ((rd_T67 t473 0).f6) from ge480_6); clear hv480_6 ge480_6; clear hcc480 hce480; have qi480 : (0 < t473.length) = True := eq_true (by omega); (try rw [show ((0 : Int)).toNat = 0 from rfl] at hx480_0); (try rw [show 0 * 8 = 0 from rfl] at hx480_0); (try rw [Addr.add_zero'] at hx480_0); (try rw [show ((0 : Int)).toNat = 0 from rfl] at hx480_1); (try rw [show 0 * 8 = 0 from rfl] at hx480_1); (try rw [Addr.add_zero'] at hx480_1); (try rw [show ((0 : Int)).toNat = 0 from rfl] at hx480_2); (try rw [show 0 * 8 = 0 from rfl] at hx480_2); (try rw [Addr.add_zero'] at hx480_2); (try rw [show ((0 : Int)).toNat = 0 from rfl] at hx480_3); (try rw [show 0 * 8 = 0 from rfl] at hx480_3); (try rw [Addr.add_zero'] at hx480_3); (try rw [show ((0 : Int)).toNat = 0 from rfl] at hx480_4); (try rw [show 0 * 8 = 0 from rfl] at hx480_4); (try rw [Addr.add_zero'] at hx480_4); (try rw [show ((0 : Int)).toNat = 0 from rfl] at hx480_5); (try rw [show 0 * 8 = 0 from rfl] at hx480_5); (try rw [Addr.add_zero'] at hx480_5); (try rw [show ((0 : Int)).toNat = 0 from rfl] at hx480_6); (try rw [show 0 * 8 = 0 from rfl] at hx480_6); (try rw [Addr.add_zero'] at hx480_6); (try rw [show ((0 : Int)).toNat = 0 from rfl] at hx480_7); (try rw [show 0 * 8 = 0 from rfl] at hx480_7); (try rw [Addr.add_zero'] at hx480_7); have HR480_1 := Aside0.mk hi480_1; have HC480_1 := Aside0.mk hl480_1; clear hi480_1 hl480_1; have HR480_5 := Aside0.mk hi480_5; have HC480_5 := Aside0.mk hl480_5; clear hi480_5 hl480_5; have HR480_6 := Aside0.mk hi480_6; have HC480_6 := Aside0.mk hl480_6; clear hi480_6 hl480_6; replace p480 := eq_true p480; replace q480 := eq_true q480; have ea_ := Option.some.inj (hx479_1.symm.trans hx480_1); injection ea_ with ea_ en_ ec_; subst ea_; subst ec_; clear en_; have ea_ := Option.some.inj (hx479_5.symm.trans hx480_5); injection ea_ with ea_ en_ ec_; subst ea_; subst ec_; clear en_; have ea_ := Option.some.inj (hx479_6.symm.trans hx480_6); injection ea_ with ea_ en_ ec_; subst ea_; subst ec_; clear en_; have p481 : 0 ≤ (0 : Int) := (by omega); have q481 : 0 < (((rd_T67 t473 0).f6).length : Int) := of_decide_eq_true (by first | (with_reducible assumption) | assumption); obtain ⟨ad481, A481_8, c481_8, A481_9, c481_9, A481_10, c481_10, A481_11, c481_11, e481, hx481_0, hx481_1, hx481_2, hx481_3, hx481_4, hx481_5, hx481_6, hx481_7, hx481_8, hx481_9, hx481_10, hx481_11, hl481_8, hi481_8, hl481_9, hi481_9, hl481_10, hi481_10, hl481_11, hi481_11⟩ := at_T70 (by repeat (first | (with_reducible exact HR480_6.out) | (with_reducible refine Kd.C_alloc ?_ _) | (with_reducible refine Kd.C_drewN ?_ _) | (with_reducible refine Kd.C_drew ?_) | exact HR480_6.out)) 0 p481 q481; cases e481; obtain ⟨ce481, hce481, hMe481, hcc481⟩ := Kd.R_get HL480_6.out z70 0 p481 (by first | exact q481 | exact of_decide_eq_true (by first | (with_reducible assumption) | assumption) | (have e_ := (Kd.R_reads' HL480_6.out).1; omega)); obtain ⟨ve481_8, ve481_9, ve481_10, ve481_11, rfl, ge481_8, ge481_9, ge481_10, ge481_11⟩ := k70_openM hMe481; have hv481_8 := hcc481 8 _ rfl; rw [add_field _ _ 8 (by omega)] at hv481_8; replace hv481_8 := Option.some.inj (hv481_8.symm.trans hx481_8); rw [hv481_8] at ge481_8; have HL481_8 := Aside0.mk (show Kd.R k73 73 _ _ _ _ ((rd_T70 ((rd_T67 t473 0).f6) 0).f8) from ge481_8); clear hv481_8 ge481_8; have hv481_9 := hcc481 9 _ rfl; rw [add_field _ _ 9 (by omega)] at hv481_9; replace hv481_9 := Option.some.inj (hv481_9.symm.trans hx481_9); rw [hv481_9] at ge481_9; have HL481_9 := Aside0.mk (show Kd.R (Kd.slice 73 k73) 23 _ _ _ _ ((rd_T70 ((rd_T67 t473 0).f6) 0).f9) from ge481_9); clear hv481_9 ge481_9; have hv481_10 := hcc481 10 _ rfl; rw [add_field _ _ 10 (by omega)] at hv481_10; replace hv481_10 := Option.some.inj (hv481_10.symm.trans hx481_10); rw [hv481_10] at ge481_10; have HL481_10 := Aside0.mk (show Kd.R k70 70 _ _ _ _ ((rd_T70 ((rd_T67 t473 0).f6) 0).f10) from ge481_10); clear hv481_10 ge481_10; have hv481_11 := hcc481 11 _ rfl; rw [add_field _ _ 11 (by omega)] at hv481_11; replace hv481_11 := Option.some.inj (hv481_11.symm.trans hx481_11); rw [hv481_11] at ge481_11; have HL481_11 := Aside0.mk (show Kd.R k70 70 _ _ _ _ ((rd_T70 ((rd_T67 t473 0).f6) 0).f11) from ge481_11); clear hv481_11 ge481_11; clear hcc481 hce481; have qi481 : (0 < ((rd_T67 t473 0).f6).length) = True := eq_true (by omega); (try rw [show ((0 : Int)).toNat = 0 from rfl] at hx481_0); (try rw [show 0 * 12 = 0 from rfl] at hx481_0); (try rw [Addr.add_zero'] at hx481_0); (try rw [show ((0 : Int)).toNat = 0 from rfl] at hx481_1); (try rw [show 0 * 12 = 0 from rfl] at hx481_1); (try rw [Addr.add_zero'] at hx481_1); (try rw [show ((0 : Int)).toNat = 0 from rfl] at hx481_2); (try rw [show 0 * 12 = 0 from rfl] at hx481_2); (try rw [Addr.add_zero'] at hx481_2); (try rw [show ((0 : Int)).toNat = 0 from rfl] at hx481_3); (try rw [show 0 * 12 = 0 from rfl] at hx481_3); (try rw [Addr.add_zero'] at hx481_3); (try rw [show ((0 : Int)).toNat = 0 from rfl] at hx481_4); (try rw [show 0 * 12 = 0 from rfl] at hx481_4); (try rw [Addr.add_zero'] at hx481_4); (try rw [show ((0 : Int)).toNat = 0 from rfl] at hx481_5); (try rw [show 0 * 12 = 0 from rfl] at hx481_5); (try rw [Addr.add_zero'] at hx481_5); (try rw [show ((0 : Int)).toNat = 0 from rfl] at hx481_6); (try rw [show 0 * 12 = 0 from rfl] at hx481_6); (try rw [Addr.add_zero'] at hx481_6); (try rw [show ((0 : Int)).toNat = 0 from rfl] at hx481_7); (try rw [show 0 * 12 = 0 from rfl] at hx481_7); (try rw [Addr.add_zero'] at hx481_7); (try rw [show ((0 : Int)).toNat = 0 from rfl] at hx481_8); (try rw [show 0 * 12 = 0 from rfl] at hx481_8); (try rw [Addr.add_zero'] at hx481_8); (try rw [show ((0 : Int)).toNat = 0 from rfl] at hx481_9); (try rw [show 0 * 12 = 0 from rfl] at hx481_9); (try rw [Addr.add_zero'] at hx481_9); (try rw [show ((0 : Int)).toNat = 0 from rfl] at hx481_10); (try rw [show 0 * 12 = 0 from rfl] at hx481_10); (try rw [Addr.add_zero'] at hx481_10); (try rw [show ((0 : Int)).toNat = 0 from rfl] at hx481_11); (try rw [show 0 * 12 = 0 from rfl] at hx481_11); (try rw [Addr.add_zero'] at hx481_11); have HR481_8 := Aside0.mk hi481_8; have HC481_8 := Aside0.mk hl481_8; clear hi481_8 hl481_8; have HR481_9 := Aside0.mk hi481_9; have HC481_9 := Aside0.mk hl481_9; clear hi481_9 hl481_9; have HR481_10 := Aside0.mk hi481_10; have HC481_10 := Aside0.mk hl481_10; clear hi481_10 hl481_10; have HR481_11 := Aside0.mk hi481_11; have HC481_11 := Aside0.mk hl481_11; clear hi481_11 hl481_11; replace p481 := eq_true p481; replace q481 := eq_true q481))
                  go_ret2
                  exact ⟨_, by first | rfl | (simp [errW_none, errW_some] <;> rfl) | (simp [*, errW_none, errW_some] <;> rfl), by (with_reducible repeat (first | apply Kd.R_alloc | apply Kd.R_drewN | apply Kd.R_drew)); exact Kd.R_mono HL481_8.out (fun _ hk => trivial), by repeat (first | (with_reducible first | exact HB.out | apply below_alloc | apply pw_below_drewN | apply below_drew1 | refine below_set ?_ GE478.out) | exact HB.out)⟩
                · rw [if_neg c18] at H
                  exact absurd H (by simp)
            · rw [if_neg c8] at H
              have c8b0 : ((((rd_T67 t473 0).f6).length : Int) == 1) = false := beq_eq_false_iff_ne.mpr c8
              have c8b1 : ((((rd_T67 t473 0).f6).length : Int) != 1) = true := bne_iff_ne.mpr c8
              simp only [Option.some.injEq, Prod.mk.injEq] at H
              obtain ⟨rfl, rfl⟩ := H
              go_enter Try.func11, Try.ntmps11
              go_wp2_with (first | ((with_reducible refine gate_callee (f := 31) rfl ?_); refine goesL_ (some 11) rfl rfl Try.func31 (by kernel_rfl) rfl #[.string (((⟨#[109, 111, 100, 117, 108, 101, 32, 109, 59, 32, 112, 114, 111, 99, 32, 112, 40, 41, 32, 112, 99, 32, 97, 32, 117, 115, 101, 115, 32, 123, 125, 32, 123, 32, 114, 101, 115, 117, 108, 116, 32, 61, 32]⟩ : ByteArray) ++ a0) ++ (⟨#[59, 32, 125]⟩ : ByteArray))] rfl (by (try simp only [List.map_toArray, List.map_cons, List.map_nil]); first | done | rfl | (simp only [List.length_drop, List.length_take]; rfl)) ?_; (with_reducible refine (aquiferref11_Parse.calls k (((⟨#[109, 111, 100, 117, 108, 101, 32, 109, 59, 32, 112, 114, 111, 99, 32, 112, 40, 41, 32, 112, 99, 32, 97, 32, 117, 115, 101, 115, 32, 123, 125, 32, 123, 32, 114, 101, 115, 117, 108, 116, 32, 61, 32]⟩ : ByteArray) ++ a0) ++ (⟨#[59, 32, 125]⟩ : ByteArray)) t465 t466 t467 t470 t473 t476 t477 _ A4.out).mono ?_); rintro e w27 ⟨v468, v471, v474, rfl, ho0, ho1, ho2, hb⟩; refine ⟨_, rfl, ?_⟩; have n0_ := Aside0.mk (Kd.R_lower ho0 (below_size (by repeat (first | (with_reducible first | exact HB.out | apply below_alloc | apply pw_below_drewN | apply below_drew1) | exact HB.out)))); have n1_ := Aside0.mk (Kd.R_lower ho1 (below_size (by repeat (first | (with_reducible first | exact HB.out | apply below_alloc | apply pw_below_drewN | apply below_drew1) | exact HB.out)))); have n2_ := Aside0.mk (Kd.R_lower ho2 (below_size (by repeat (first | (with_reducible first | exact HB.out | apply below_alloc | apply pw_below_drewN | apply below_drew1) | exact HB.out)))); have n3_ := Aside0.mk (below_step (by repeat (first | (with_reducible first | exact HB.out | apply below_alloc | apply pw_below_drewN | apply below_drew1) | exact HB.out)) hb); clear HB; have HO469 := n0_; have HO472 := n1_; have HO475 := n2_; have HB := n3_; clear n0_ n1_ n2_ n3_; (try clear hb); (try clear hb2); (try clear hk); (try clear hi); (try clear ho0); (try clear ho1); (try clear ho2)) | ((with_reducible refine gate_dst (N := 4) rfl ?_); (try (refine gate_guard (by rfl) ?_; dsimp only)); refine box_event ?hg (N := 4) ?hd (cs := #[.string (⟨#[]⟩ : ByteArray), .int .i64 0, .slice none 0 0, .slice none 0 0, .slice none 0 0]) (t := 61) ?hr ?_; (case hd => rfl); (case hg => rfl); (case hr => first | (go_simp; done) | (go_simp; rfl)); intro gb478 hg w28 hbox hb; have n0_ := Aside0.mk (Kd.R_below (by (with_reducible repeat (first | apply Kd.R_alloc | apply Kd.R_drewN | apply Kd.R_drew)); exact HO469.out) hb); have n1_ := Aside0.mk (Kd.R_below (by (with_reducible repeat (first | apply Kd.R_alloc | apply Kd.R_drewN | apply Kd.R_drew)); exact HO472.out) hb); have n2_ := Aside0.mk (Kd.R_below (by (with_reducible repeat (first | apply Kd.R_alloc | apply Kd.R_drewN | apply Kd.R_drew)); exact HO475.out) hb); have n3_ := Aside0.mk (below_step (by repeat (first | (with_reducible first | exact HB.out | apply below_alloc | apply pw_below_drewN | apply below_drew1) | exact HB.out)) hb); have n4_ := Aside0.mk (hbox); have n5_ := Aside0.mk ((by rw [hg]; exact (below_size (by repeat (first | (with_reducible first | exact HB.out | apply below_alloc | apply pw_below_drewN | apply below_drew1) | exact HB.out))) : w.heap.size ≤ gb478)); have n6_ := Aside0.mk ((by rw [hg]; exact (below_size (by repeat (first | (with_reducible first | exact HB.out | apply below_alloc | apply pw_below_drewN | apply below_drew1) | exact HB.out))) : w.heap.size ≤ gb478)); clear HO469; clear HO472; clear HO475; clear HB; have HO469 := n0_; have HO472 := n1_; have HO475 := n2_; have HB := n3_; have BK478 := n4_; have GW478 := n5_; have GE478 := n6_; clear n0_ n1_ n2_ n3_ n4_ n5_ n6_; clear hb hbox hg; have hcz29_0 : w28.cell? ⟨gb478, 0, none⟩ = some (.string (⟨#[]⟩ : ByteArray)) := (blk_cell BK478.out 0).trans rfl; have hcz29_1 : w28.cell? ⟨gb478, 1, none⟩ = some (.int .i64 0) := (blk_cell BK478.out 1).trans rfl; have hcz29_2 : w28.cell? ⟨gb478, 2, none⟩ = some (.slice none 0 0) := (blk_cell BK478.out 2).trans rfl; have hcz29_3 : w28.cell? ⟨gb478, 3, none⟩ = some (.slice none 0 0) := (blk_cell BK478.out 3).trans rfl; have hcz29_4 : w28.cell? ⟨gb478, 4, none⟩ = some (.slice none 0 0) := (blk_cell BK478.out 4).trans rfl; have hfz29_0 := blk_frozen BK478.out 0; have hfz29_1 := blk_frozen BK478.out 1; have hfz29_2 := blk_frozen BK478.out 2; have hfz29_3 := blk_frozen BK478.out 3; have hfz29_4 := blk_frozen BK478.out 4; obtain ⟨Ao30, co30, eo30⟩ := Kd.R_slice HO469.out; subst eo30; obtain ⟨Ao31, co31, eo31⟩ := Kd.R_slice HO472.out; subst eo31; obtain ⟨Ao32, co32, eo32⟩ := Kd.R_slice HO475.out; subst eo32) | ((with_reducible refine gate_store (t := 61) (p := 4) rfl ?_); refine store_event (t := 61) (p := 4) (v := ?vo_w33) (w1 := (((((w28.setCell ⟨gb478, 0, none⟩ (.string t465)).setCell ⟨gb478, 1, none⟩ (.int .i64 t466)).setCell ⟨gb478, 2, none⟩ (.slice Ao30 t467.length co30)).setCell ⟨gb478, 3, none⟩ (.slice Ao31 t470.length co31)).setCell ⟨gb478, 4, none⟩ (.slice Ao32 t473.length co32))) ?hg ?ho ?hn ?hr ?_; (case ho => rfl); (case hg => rfl); (case hn => rfl); (case hr => first | (go_simp; done) | (go_simp; rfl)); intro w33 hw; have n0_ : Aside0 (Kd.R k128 128 w33 w.heap.size (fun _ => True) (.slice Ao30 t467.length co30) t467) := ⟨(by rw [hw]; exact (by (with_reducible repeat (first | apply Kd.R_alloc | apply Kd.R_drewN | apply Kd.R_drew)); exact Kd.R_mono (Kd.R_far (p := ⟨gb478, 4, none⟩) (Kd.R_far (p := ⟨gb478, 3, none⟩) (Kd.R_far (p := ⟨gb478, 2, none⟩) (Kd.R_far (p := ⟨gb478, 1, none⟩) (Kd.R_far (p := ⟨gb478, 0, none⟩) (Kd.R_types HO469.out BK478.out (by decide)) (fun _ hk => hk.2) (.string t465)) (fun _ hk => hk.2) (.int .i64 t466)) (fun _ hk => hk.2) (.slice Ao30 t467.length co30)) (fun _ hk => hk.2) (.slice Ao31 t470.length co31)) (fun _ hk => hk.2) (.slice Ao32 t473.length co32)) (fun _ hk => trivial)))⟩; have n1_ : Aside0 (Kd.R k81 81 w33 w.heap.size (fun _ => True) (.slice Ao31 t470.length co31) t470) := ⟨(by rw [hw]; exact (by (with_reducible repeat (first | apply Kd.R_alloc | apply Kd.R_drewN | apply Kd.R_drew)); exact Kd.R_mono (Kd.R_far (p := ⟨gb478, 4, none⟩) (Kd.R_far (p := ⟨gb478, 3, none⟩) (Kd.R_far (p := ⟨gb478, 2, none⟩) (Kd.R_far (p := ⟨gb478, 1, none⟩) (Kd.R_far (p := ⟨gb478, 0, none⟩) (Kd.R_types HO472.out BK478.out (by decide)) (fun _ hk => hk.2) (.string t465)) (fun _ hk => hk.2) (.int .i64 t466)) (fun _ hk => hk.2) (.slice Ao30 t467.length co30)) (fun _ hk => hk.2) (.slice Ao31 t470.length co31)) (fun _ hk => hk.2) (.slice Ao32 t473.length co32)) (fun _ hk => trivial)))⟩; have n2_ : Aside0 (Kd.R k67 67 w33 w.heap.size (fun _ => True) (.slice Ao32 t473.length co32) t473) := ⟨(by rw [hw]; exact (by (with_reducible repeat (first | apply Kd.R_alloc | apply Kd.R_drewN | apply Kd.R_drew)); exact Kd.R_mono (Kd.R_far (p := ⟨gb478, 4, none⟩) (Kd.R_far (p := ⟨gb478, 3, none⟩) (Kd.R_far (p := ⟨gb478, 2, none⟩) (Kd.R_far (p := ⟨gb478, 1, none⟩) (Kd.R_far (p := ⟨gb478, 0, none⟩) (Kd.R_types HO475.out BK478.out (by decide)) (fun _ hk => hk.2) (.string t465)) (fun _ hk => hk.2) (.int .i64 t466)) (fun _ hk => hk.2) (.slice Ao30 t467.length co30)) (fun _ hk => hk.2) (.slice Ao31 t470.length co31)) (fun _ hk => hk.2) (.slice Ao32 t473.length co32)) (fun _ hk => trivial)))⟩; have n3_ : Aside0 (w33.heap[gb478]? = some (.cells #[.string t465, .int .i64 t466, .slice Ao30 t467.length co30, .slice Ao31 t470.length co31, .slice Ao32 t473.length co32] 61 (0, 0))) := ⟨(by rw [hw]; exact (by (with_reducible repeat (first | refine blk_drewN ?_ _ | refine blk_drew ?_ | refine blk_alloc ?_ _)); refine blk_put (cs := #[.string t465, .int .i64 t466, .slice Ao30 t467.length co30, .slice Ao31 t470.length co31, .slice none 0 0]) ?_ 4 _ rfl; (with_reducible repeat (first | refine blk_drewN ?_ _ | refine blk_drew ?_ | refine blk_alloc ?_ _)); refine blk_put (cs := #[.string t465, .int .i64 t466, .slice Ao30 t467.length co30, .slice none 0 0, .slice none 0 0]) ?_ 3 _ rfl; (with_reducible repeat (first | refine blk_drewN ?_ _ | refine blk_drew ?_ | refine blk_alloc ?_ _)); refine blk_put (cs := #[.string t465, .int .i64 t466, .slice none 0 0, .slice none 0 0, .slice none 0 0]) ?_ 2 _ rfl; (with_reducible repeat (first | refine blk_drewN ?_ _ | refine blk_drew ?_ | refine blk_alloc ?_ _)); refine blk_put (cs := #[.string t465, .int .i64 0, .slice none 0 0, .slice none 0 0, .slice none 0 0]) ?_ 1 _ rfl; (with_reducible repeat (first | refine blk_drewN ?_ _ | refine blk_drew ?_ | refine blk_alloc ?_ _)); refine blk_put (cs := #[.string (⟨#[]⟩ : ByteArray), .int .i64 0, .slice none 0 0, .slice none 0 0, .slice none 0 0]) ?_ 0 _ rfl; (with_reducible repeat (first | refine blk_drewN ?_ _ | refine blk_drew ?_ | refine blk_alloc ?_ _)); exact BK478.out))⟩; have n4_ : Aside0 (Below w.heap.size w w33) := ⟨(by rw [hw]; exact (by repeat (first | (with_reducible first | exact HB.out | apply below_alloc | apply pw_below_drewN | apply below_drew1 | refine below_set ?_ GE478.out) | exact HB.out)))⟩; clear hw; clear HO469; clear HO472; clear HO475; clear BK478; clear HB; have HO469 := n0_; have HO472 := n1_; have HO475 := n2_; have BK478 := n3_; have HB := n4_; clear n0_ n1_ n2_ n3_ n4_; have hcz34_0 : w33.cell? ⟨gb478, 0, none⟩ = some (.string t465) := (blk_cell BK478.out 0).trans rfl; have hcz34_1 : w33.cell? ⟨gb478, 1, none⟩ = some (.int .i64 t466) := (blk_cell BK478.out 1).trans rfl; have hcz34_2 : w33.cell? ⟨gb478, 2, none⟩ = some (.slice Ao30 t467.length co30) := (blk_cell BK478.out 2).trans rfl; have hcz34_3 : w33.cell? ⟨gb478, 3, none⟩ = some (.slice Ao31 t470.length co31) := (blk_cell BK478.out 3).trans rfl; have hcz34_4 : w33.cell? ⟨gb478, 4, none⟩ = some (.slice Ao32 t473.length co32) := (blk_cell BK478.out 4).trans rfl; have hfz34_0 := blk_frozen BK478.out 0; have hfz34_1 := blk_frozen BK478.out 1; have hfz34_2 := blk_frozen BK478.out 2; have hfz34_3 := blk_frozen BK478.out 3; have hfz34_4 := blk_frozen BK478.out 4; have p479 : 0 ≤ (0 : Int) := (by omega); have q479 : 0 < (t473.length : Int) := of_decide_eq_true (by first | (with_reducible assumption) | assumption); obtain ⟨ad479, A479_1, c479_1, A479_5, c479_5, A479_6, c479_6, e479, hx479_0, hx479_1, hx479_2, hx479_3, hx479_4, hx479_5, hx479_6, hx479_7, hl479_1, hi479_1, hl479_5, hi479_5, hl479_6, hi479_6⟩ := at_T67 (Kd.R_reads' HO475.out).2.2 0 p479 q479; cases e479; obtain ⟨ce479, hce479, hMe479, hcc479⟩ := Kd.R_get HO475.out z67 0 p479 (by first | exact q479 | exact of_decide_eq_true (by first | (with_reducible assumption) | assumption) | (have e_ := (Kd.R_reads' HO475.out).1; omega)); obtain ⟨ve479_1, ve479_5, ve479_6, rfl, ge479_1, ge479_5, ge479_6⟩ := k67_openM hMe479; have hv479_1 := hcc479 1 _ rfl; rw [add_field _ _ 1 (by omega)] at hv479_1; replace hv479_1 := Option.some.inj (hv479_1.symm.trans hx479_1); rw [hv479_1] at ge479_1; have HL479_1 := Aside0.mk (show Kd.R k134 134 _ _ _ _ ((rd_T67 t473 0).f1) from ge479_1); clear hv479_1 ge479_1; have hv479_5 := hcc479 5 _ rfl; rw [add_field _ _ 5 (by omega)] at hv479_5; replace hv479_5 := Option.some.inj (hv479_5.symm.trans hx479_5); rw [hv479_5] at ge479_5; have HL479_5 := Aside0.mk (show Kd.R Kd.string 9 _ _ _ _ ((rd_T67 t473 0).f5) from ge479_5); clear hv479_5 ge479_5; have hv479_6 := hcc479 6 _ rfl; rw [add_field _ _ 6 (by omega)] at hv479_6; replace hv479_6 := Option.some.inj (hv479_6.symm.trans hx479_6); rw [hv479_6] at ge479_6; have HL479_6 := Aside0.mk (show Kd.R k70 70 _ _ _ _ ((rd_T67 t473 0).f6) from ge479_6); clear hv479_6 ge479_6; clear hcc479 hce479; have qi479 : (0 < t473.length) = True := eq_true (by omega); (try rw [show ((0 : Int)).toNat = 0 from rfl] at hx479_0); (try rw [show 0 * 8 = 0 from rfl] at hx479_0); (try rw [Addr.add_zero'] at hx479_0); (try rw [show ((0 : Int)).toNat = 0 from rfl] at hx479_1); (try rw [show 0 * 8 = 0 from rfl] at hx479_1); (try rw [Addr.add_zero'] at hx479_1); (try rw [show ((0 : Int)).toNat = 0 from rfl] at hx479_2); (try rw [show 0 * 8 = 0 from rfl] at hx479_2); (try rw [Addr.add_zero'] at hx479_2); (try rw [show ((0 : Int)).toNat = 0 from rfl] at hx479_3); (try rw [show 0 * 8 = 0 from rfl] at hx479_3); (try rw [Addr.add_zero'] at hx479_3); (try rw [show ((0 : Int)).toNat = 0 from rfl] at hx479_4); (try rw [show 0 * 8 = 0 from rfl] at hx479_4); (try rw [Addr.add_zero'] at hx479_4); (try rw [show ((0 : Int)).toNat = 0 from rfl] at hx479_5); (try rw [show 0 * 8 = 0 from rfl] at hx479_5); (try rw [Addr.add_zero'] at hx479_5); (try rw [show ((0 : Int)).toNat = 0 from rfl] at hx479_6); (try rw [show 0 * 8 = 0 from rfl] at hx479_6); (try rw [Addr.add_zero'] at hx479_6); (try rw [show ((0 : Int)).toNat = 0 from rfl] at hx479_7); (try rw [show 0 * 8 = 0 from rfl] at hx479_7); (try rw [Addr.add_zero'] at hx479_7); have HR479_1 := Aside0.mk hi479_1; have HC479_1 := Aside0.mk hl479_1; clear hi479_1 hl479_1; have HR479_5 := Aside0.mk hi479_5; have HC479_5 := Aside0.mk hl479_5; clear hi479_5 hl479_5; have HR479_6 := Aside0.mk hi479_6; have HC479_6 := Aside0.mk hl479_6; clear hi479_6 hl479_6; replace p479 := eq_true p479; replace q479 := eq_true q479))
              go_ret2
              exact ⟨_, by first | rfl | (simp [errW_none, errW_some] <;> rfl) | (simp [*, errW_none, errW_some] <;> rfl), by first | exact Kd.R_nil _ _ _ _ _ | exact Kd.N_nil _ _ _ _ _ | exact Kd.V_nil _ _ _ _ _ | exact Kd.Q_nil _ _ _ _ _ | exact Kd.S_nil _ _ _ _ _, by repeat (first | (with_reducible first | exact HB.out | apply below_alloc | apply pw_below_drewN | apply below_drew1 | refine below_set ?_ GE478.out) | exact HB.out)⟩
          · rw [if_neg c7] at H
            exact absurd H (by simp)
        · rw [if_neg c6] at H
          have c6b0 : ((t473.length : Int) == 1) = false := beq_eq_false_iff_ne.mpr c6
          have c6b1 : ((t473.length : Int) != 1) = true := bne_iff_ne.mpr c6
          simp only [Option.some.injEq, Prod.mk.injEq] at H
          obtain ⟨rfl, rfl⟩ := H
          go_enter Try.func11, Try.ntmps11
          go_wp2_with (first | ((with_reducible refine gate_callee (f := 31) rfl ?_); refine goesL_ (some 11) rfl rfl Try.func31 (by kernel_rfl) rfl #[.string (((⟨#[109, 111, 100, 117, 108, 101, 32, 109, 59, 32, 112, 114, 111, 99, 32, 112, 40, 41, 32, 112, 99, 32, 97, 32, 117, 115, 101, 115, 32, 123, 125, 32, 123, 32, 114, 101, 115, 117, 108, 116, 32, 61, 32]⟩ : ByteArray) ++ a0) ++ (⟨#[59, 32, 125]⟩ : ByteArray))] rfl (by (try simp only [List.map_toArray, List.map_cons, List.map_nil]); first | done | rfl | (simp only [List.length_drop, List.length_take]; rfl)) ?_; (with_reducible refine (aquiferref11_Parse.calls k (((⟨#[109, 111, 100, 117, 108, 101, 32, 109, 59, 32, 112, 114, 111, 99, 32, 112, 40, 41, 32, 112, 99, 32, 97, 32, 117, 115, 101, 115, 32, 123, 125, 32, 123, 32, 114, 101, 115, 117, 108, 116, 32, 61, 32]⟩ : ByteArray) ++ a0) ++ (⟨#[59, 32, 125]⟩ : ByteArray)) t465 t466 t467 t470 t473 t476 t477 _ A4.out).mono ?_); rintro e w35 ⟨v468, v471, v474, rfl, ho0, ho1, ho2, hb⟩; refine ⟨_, rfl, ?_⟩; have n0_ := Aside0.mk (Kd.R_lower ho0 (below_size (by repeat (first | (with_reducible first | exact HB.out | apply below_alloc | apply pw_below_drewN | apply below_drew1) | exact HB.out)))); have n1_ := Aside0.mk (Kd.R_lower ho1 (below_size (by repeat (first | (with_reducible first | exact HB.out | apply below_alloc | apply pw_below_drewN | apply below_drew1) | exact HB.out)))); have n2_ := Aside0.mk (Kd.R_lower ho2 (below_size (by repeat (first | (with_reducible first | exact HB.out | apply below_alloc | apply pw_below_drewN | apply below_drew1) | exact HB.out)))); have n3_ := Aside0.mk (below_step (by repeat (first | (with_reducible first | exact HB.out | apply below_alloc | apply pw_below_drewN | apply below_drew1) | exact HB.out)) hb); clear HB; have HO469 := n0_; have HO472 := n1_; have HO475 := n2_; have HB := n3_; clear n0_ n1_ n2_ n3_; (try clear hb); (try clear hb2); (try clear hk); (try clear hi); (try clear ho0); (try clear ho1); (try clear ho2)) | ((with_reducible refine gate_dst (N := 4) rfl ?_); (try (refine gate_guard (by rfl) ?_; dsimp only)); refine box_event ?hg (N := 4) ?hd (cs := #[.string (⟨#[]⟩ : ByteArray), .int .i64 0, .slice none 0 0, .slice none 0 0, .slice none 0 0]) (t := 61) ?hr ?_; (case hd => rfl); (case hg => rfl); (case hr => first | (go_simp; done) | (go_simp; rfl)); intro gb478 hg w36 hbox hb; have n0_ := Aside0.mk (Kd.R_below (by (with_reducible repeat (first | apply Kd.R_alloc | apply Kd.R_drewN | apply Kd.R_drew)); exact HO469.out) hb); have n1_ := Aside0.mk (Kd.R_below (by (with_reducible repeat (first | apply Kd.R_alloc | apply Kd.R_drewN | apply Kd.R_drew)); exact HO472.out) hb); have n2_ := Aside0.mk (Kd.R_below (by (with_reducible repeat (first | apply Kd.R_alloc | apply Kd.R_drewN | apply Kd.R_drew)); exact HO475.out) hb); have n3_ := Aside0.mk (below_step (by repeat (first | (with_reducible first | exact HB.out | apply below_alloc | apply pw_below_drewN | apply below_drew1) | exact HB.out)) hb); have n4_ := Aside0.mk (hbox); have n5_ := Aside0.mk ((by rw [hg]; exact (below_size (by repeat (first | (with_reducible first | exact HB.out | apply below_alloc | apply pw_below_drewN | apply below_drew1) | exact HB.out))) : w.heap.size ≤ gb478)); have n6_ := Aside0.mk ((by rw [hg]; exact (below_size (by repeat (first | (with_reducible first | exact HB.out | apply below_alloc | apply pw_below_drewN | apply below_drew1) | exact HB.out))) : w.heap.size ≤ gb478)); clear HO469; clear HO472; clear HO475; clear HB; have HO469 := n0_; have HO472 := n1_; have HO475 := n2_; have HB := n3_; have BK478 := n4_; have GW478 := n5_; have GE478 := n6_; clear n0_ n1_ n2_ n3_ n4_ n5_ n6_; clear hb hbox hg; have hcz37_0 : w36.cell? ⟨gb478, 0, none⟩ = some (.string (⟨#[]⟩ : ByteArray)) := (blk_cell BK478.out 0).trans rfl; have hcz37_1 : w36.cell? ⟨gb478, 1, none⟩ = some (.int .i64 0) := (blk_cell BK478.out 1).trans rfl; have hcz37_2 : w36.cell? ⟨gb478, 2, none⟩ = some (.slice none 0 0) := (blk_cell BK478.out 2).trans rfl; have hcz37_3 : w36.cell? ⟨gb478, 3, none⟩ = some (.slice none 0 0) := (blk_cell BK478.out 3).trans rfl; have hcz37_4 : w36.cell? ⟨gb478, 4, none⟩ = some (.slice none 0 0) := (blk_cell BK478.out 4).trans rfl; have hfz37_0 := blk_frozen BK478.out 0; have hfz37_1 := blk_frozen BK478.out 1; have hfz37_2 := blk_frozen BK478.out 2; have hfz37_3 := blk_frozen BK478.out 3; have hfz37_4 := blk_frozen BK478.out 4; obtain ⟨Ao38, co38, eo38⟩ := Kd.R_slice HO469.out; subst eo38; obtain ⟨Ao39, co39, eo39⟩ := Kd.R_slice HO472.out; subst eo39; obtain ⟨Ao40, co40, eo40⟩ := Kd.R_slice HO475.out; subst eo40))
          go_ret2
          exact ⟨_, by first | rfl | (simp [errW_none, errW_some] <;> rfl) | (simp [*, errW_none, errW_some] <;> rfl), by first | exact Kd.R_nil _ _ _ _ _ | exact Kd.N_nil _ _ _ _ _ | exact Kd.V_nil _ _ _ _ _ | exact Kd.Q_nil _ _ _ _ _ | exact Kd.S_nil _ _ _ _ _, by repeat (first | (with_reducible first | exact HB.out | apply below_alloc | apply pw_below_drewN | apply below_drew1 | refine below_set ?_ GE478.out) | exact HB.out)⟩
      · rw [if_neg c5] at H
        have c5b0 : (t476 == 0) = false := beq_eq_false_iff_ne.mpr c5
        have c5b1 : (t476 != 0) = true := bne_iff_ne.mpr c5
        simp only [Option.some.injEq, Prod.mk.injEq] at H
        obtain ⟨rfl, rfl⟩ := H
        go_enter Try.func11, Try.ntmps11
        go_wp2_with (first | ((with_reducible refine gate_callee (f := 31) rfl ?_); refine goesL_ (some 11) rfl rfl Try.func31 (by kernel_rfl) rfl #[.string (((⟨#[109, 111, 100, 117, 108, 101, 32, 109, 59, 32, 112, 114, 111, 99, 32, 112, 40, 41, 32, 112, 99, 32, 97, 32, 117, 115, 101, 115, 32, 123, 125, 32, 123, 32, 114, 101, 115, 117, 108, 116, 32, 61, 32]⟩ : ByteArray) ++ a0) ++ (⟨#[59, 32, 125]⟩ : ByteArray))] rfl (by (try simp only [List.map_toArray, List.map_cons, List.map_nil]); first | done | rfl | (simp only [List.length_drop, List.length_take]; rfl)) ?_; (with_reducible refine (aquiferref11_Parse.calls k (((⟨#[109, 111, 100, 117, 108, 101, 32, 109, 59, 32, 112, 114, 111, 99, 32, 112, 40, 41, 32, 112, 99, 32, 97, 32, 117, 115, 101, 115, 32, 123, 125, 32, 123, 32, 114, 101, 115, 117, 108, 116, 32, 61, 32]⟩ : ByteArray) ++ a0) ++ (⟨#[59, 32, 125]⟩ : ByteArray)) t465 t466 t467 t470 t473 t476 t477 _ A4.out).mono ?_); rintro e w41 ⟨v468, v471, v474, rfl, ho0, ho1, ho2, hb⟩; refine ⟨_, rfl, ?_⟩; have n0_ := Aside0.mk (Kd.R_lower ho0 (below_size (by repeat (first | (with_reducible first | exact HB.out | apply below_alloc | apply pw_below_drewN | apply below_drew1) | exact HB.out)))); have n1_ := Aside0.mk (Kd.R_lower ho1 (below_size (by repeat (first | (with_reducible first | exact HB.out | apply below_alloc | apply pw_below_drewN | apply below_drew1) | exact HB.out)))); have n2_ := Aside0.mk (Kd.R_lower ho2 (below_size (by repeat (first | (with_reducible first | exact HB.out | apply below_alloc | apply pw_below_drewN | apply below_drew1) | exact HB.out)))); have n3_ := Aside0.mk (below_step (by repeat (first | (with_reducible first | exact HB.out | apply below_alloc | apply pw_below_drewN | apply below_drew1) | exact HB.out)) hb); clear HB; have HO469 := n0_; have HO472 := n1_; have HO475 := n2_; have HB := n3_; clear n0_ n1_ n2_ n3_; (try clear hb); (try clear hb2); (try clear hk); (try clear hi); (try clear ho0); (try clear ho1); (try clear ho2)) | ((with_reducible refine gate_dst (N := 4) rfl ?_); (try (refine gate_guard (by rfl) ?_; dsimp only)); refine box_event ?hg (N := 4) ?hd (cs := #[.string (⟨#[]⟩ : ByteArray), .int .i64 0, .slice none 0 0, .slice none 0 0, .slice none 0 0]) (t := 61) ?hr ?_; (case hd => rfl); (case hg => rfl); (case hr => first | (go_simp; done) | (go_simp; rfl)); intro gb478 hg w42 hbox hb; have n0_ := Aside0.mk (Kd.R_below (by (with_reducible repeat (first | apply Kd.R_alloc | apply Kd.R_drewN | apply Kd.R_drew)); exact HO469.out) hb); have n1_ := Aside0.mk (Kd.R_below (by (with_reducible repeat (first | apply Kd.R_alloc | apply Kd.R_drewN | apply Kd.R_drew)); exact HO472.out) hb); have n2_ := Aside0.mk (Kd.R_below (by (with_reducible repeat (first | apply Kd.R_alloc | apply Kd.R_drewN | apply Kd.R_drew)); exact HO475.out) hb); have n3_ := Aside0.mk (below_step (by repeat (first | (with_reducible first | exact HB.out | apply below_alloc | apply pw_below_drewN | apply below_drew1) | exact HB.out)) hb); have n4_ := Aside0.mk (hbox); have n5_ := Aside0.mk ((by rw [hg]; exact (below_size (by repeat (first | (with_reducible first | exact HB.out | apply below_alloc | apply pw_below_drewN | apply below_drew1) | exact HB.out))) : w.heap.size ≤ gb478)); have n6_ := Aside0.mk ((by rw [hg]; exact (below_size (by repeat (first | (with_reducible first | exact HB.out | apply below_alloc | apply pw_below_drewN | apply below_drew1) | exact HB.out))) : w.heap.size ≤ gb478)); clear HO469; clear HO472; clear HO475; clear HB; have HO469 := n0_; have HO472 := n1_; have HO475 := n2_; have HB := n3_; have BK478 := n4_; have GW478 := n5_; have GE478 := n6_; clear n0_ n1_ n2_ n3_ n4_ n5_ n6_; clear hb hbox hg; have hcz43_0 : w42.cell? ⟨gb478, 0, none⟩ = some (.string (⟨#[]⟩ : ByteArray)) := (blk_cell BK478.out 0).trans rfl; have hcz43_1 : w42.cell? ⟨gb478, 1, none⟩ = some (.int .i64 0) := (blk_cell BK478.out 1).trans rfl; have hcz43_2 : w42.cell? ⟨gb478, 2, none⟩ = some (.slice none 0 0) := (blk_cell BK478.out 2).trans rfl; have hcz43_3 : w42.cell? ⟨gb478, 3, none⟩ = some (.slice none 0 0) := (blk_cell BK478.out 3).trans rfl; have hcz43_4 : w42.cell? ⟨gb478, 4, none⟩ = some (.slice none 0 0) := (blk_cell BK478.out 4).trans rfl; have hfz43_0 := blk_frozen BK478.out 0; have hfz43_1 := blk_frozen BK478.out 1; have hfz43_2 := blk_frozen BK478.out 2; have hfz43_3 := blk_frozen BK478.out 3; have hfz43_4 := blk_frozen BK478.out 4; obtain ⟨Ao44, co44, eo44⟩ := Kd.R_slice HO469.out; subst eo44; obtain ⟨Ao45, co45, eo45⟩ := Kd.R_slice HO472.out; subst eo45; obtain ⟨Ao46, co46, eo46⟩ := Kd.R_slice HO475.out; subst eo46))
        go_ret2
        exact ⟨_, by first | rfl | (simp [errW_none, errW_some] <;> rfl) | (simp [*, errW_none, errW_some] <;> rfl), by first | exact Kd.R_nil _ _ _ _ _ | exact Kd.N_nil _ _ _ _ _ | exact Kd.V_nil _ _ _ _ _ | exact Kd.Q_nil _ _ _ _ _ | exact Kd.S_nil _ _ _ _ _, by repeat (first | (with_reducible first | exact HB.out | apply below_alloc | apply pw_below_drewN | apply below_drew1 | refine below_set ?_ GE478.out) | exact HB.out)⟩
    · rw [if_neg c3] at H
      exact absurd H (by simp)
  · rw [if_neg c2] at H
    exact absurd H (by simp)
def eval_truth.f (a0 : Bool) : Option (Int) := if a0 = true then (some 1) else (some 0)
set_option maxHeartbeats 8000000 in
set_option maxRecDepth 100000 in
theorem eval_truth.calls (a0 : Bool) (r : Int) (w : World) (h : eval_truth.f a0 = some r) :
    Calls Try.prog 36 #[.bool a0] w fun e w' => e = .returned (.int .i64 r) ∧ Drawn0 w w' := by
  have H : (if a0 = true then (some 1) else (some 0)) = some r := h
  clear h
  by_cases c2 : a0 = true
  · subst c2
    have H1 : (some 1) = some r := by rw [if_pos rfl] at H; exact H
    clear H
    have H := H1
    clear H1
    obtain rfl := Option.some.inj H
    go_enter Try.func36, Try.ntmps36
    go_wp2
    go_ret
    exact ⟨by first | rfl | (simp; done) | (simp [*]; done), by repeat (first | exact Drawn0.refl _ | apply Drawn0.step)⟩
  · replace c2 := Bool.eq_false_iff.mpr c2
    subst c2
    have H1 : (some 0) = some r := by rw [if_neg (show ¬ (false = true) by decide)] at H; exact H
    clear H
    have H := H1
    clear H1
    obtain rfl := Option.some.inj H
    go_enter Try.func36, Try.ntmps36
    go_wp2
    go_ret
    exact ⟨by first | rfl | (simp; done) | (simp [*]; done), by repeat (first | exact Drawn0.refl _ | apply Drawn0.step)⟩
def eval_Op.f (a0 : Int) (a1 : Int) (a2 : Int) : Option (Int) := if a0 = 5 then (some (wrap64 (a1 + a2))) else (if a0 = 6 then (some (wrap64 (a1 - a2))) else (if a0 = 7 then (some (wrap64 (a1 * a2))) else (if a0 = 8 then (if a2 = 0 then (some 0) else (some (wrap64 (Int.tdiv a1 a2)))) else (if a0 = 9 then (if a2 = 0 then (some 0) else (some (Int.tmod a1 a2))) else (if a0 = 10 then ((eval_truth.f (a1 == a2)).bind fun t482 => (some t482)) else (if a0 = 11 then ((eval_truth.f (decide (a1 < a2))).bind fun t483 => (some t483)) else (if a0 = 12 then ((eval_truth.f (decide (a1 ≤ a2))).bind fun t484 => (some t484)) else (if a0 = 3 then (some (wrap64 (-a1))) else (if a0 = 4 then ((eval_truth.f (a1 == 0)).bind fun t485 => (some t485)) else (some 0))))))))))
set_option maxHeartbeats 8000000 in
set_option maxRecDepth 100000 in
theorem eval_Op.calls (a0 : Int) (a1 : Int) (a2 : Int) (r : Int) (w : World) (h : eval_Op.f a0 a1 a2 = some r) :
    Calls Try.prog 16 #[.int .i64 a0, .int .i64 a1, .int .i64 a2] w fun e w' => e = .returned (.int .i64 r) ∧ Drawn0 w w' := by
  have H : (if a0 = 5 then (some (wrap64 (a1 + a2))) else (if a0 = 6 then (some (wrap64 (a1 - a2))) else (if a0 = 7 then (some (wrap64 (a1 * a2))) else (if a0 = 8 then (if a2 = 0 then (some 0) else (some (wrap64 (Int.tdiv a1 a2)))) else (if a0 = 9 then (if a2 = 0 then (some 0) else (some (Int.tmod a1 a2))) else (if a0 = 10 then ((eval_truth.f (a1 == a2)).bind fun t482 => (some t482)) else (if a0 = 11 then ((eval_truth.f (decide (a1 < a2))).bind fun t483 => (some t483)) else (if a0 = 12 then ((eval_truth.f (decide (a1 ≤ a2))).bind fun t484 => (some t484)) else (if a0 = 3 then (some (wrap64 (-a1))) else (if a0 = 4 then ((eval_truth.f (a1 == 0)).bind fun t485 => (some t485)) else (some 0))))))))))) = some r := h
  clear h
  by_cases c4 : a0 = 5
  · rw [if_pos c4] at H
    have c4b0 : (a0 == 5) = true := beq_iff_eq.mpr c4
    have c4b1 : (a0 != 5) = false := bne_eq_false_iff_eq.mpr c4
    clear c4
    obtain rfl := Option.some.inj H
    go_enter Try.func16, Try.ntmps16
    go_wp2
    go_ret
    exact ⟨by first | rfl | (simp; done) | (simp [*]; done), by repeat (first | exact Drawn0.refl _ | apply Drawn0.step)⟩
  · rw [if_neg c4] at H
    have c4b0 : (a0 == 5) = false := beq_eq_false_iff_ne.mpr c4
    have c4b1 : (a0 != 5) = true := bne_iff_ne.mpr c4
    by_cases c5 : a0 = 6
    · rw [if_pos c5] at H
      have c5b0 : (a0 == 6) = true := beq_iff_eq.mpr c5
      have c5b1 : (a0 != 6) = false := bne_eq_false_iff_eq.mpr c5
      clear c5
      obtain rfl := Option.some.inj H
      go_enter Try.func16, Try.ntmps16
      go_wp2
      go_ret
      exact ⟨by first | rfl | (simp; done) | (simp [*]; done), by repeat (first | exact Drawn0.refl _ | apply Drawn0.step)⟩
    · rw [if_neg c5] at H
      have c5b0 : (a0 == 6) = false := beq_eq_false_iff_ne.mpr c5
      have c5b1 : (a0 != 6) = true := bne_iff_ne.mpr c5
      by_cases c6 : a0 = 7
      · rw [if_pos c6] at H
        have c6b0 : (a0 == 7) = true := beq_iff_eq.mpr c6
        have c6b1 : (a0 != 7) = false := bne_eq_false_iff_eq.mpr c6
        clear c6
        obtain rfl := Option.some.inj H
        go_enter Try.func16, Try.ntmps16
        go_wp2
        go_ret
        exact ⟨by first | rfl | (simp; done) | (simp [*]; done), by repeat (first | exact Drawn0.refl _ | apply Drawn0.step)⟩
      · rw [if_neg c6] at H
        have c6b0 : (a0 == 7) = false := beq_eq_false_iff_ne.mpr c6
        have c6b1 : (a0 != 7) = true := bne_iff_ne.mpr c6
        by_cases c7 : a0 = 8
        · rw [if_pos c7] at H
          have c7b0 : (a0 == 8) = true := beq_iff_eq.mpr c7
          have c7b1 : (a0 != 8) = false := bne_eq_false_iff_eq.mpr c7
          clear c7
          by_cases c8 : a2 = 0
          · rw [if_pos c8] at H
            have c8b0 : (a2 == 0) = true := beq_iff_eq.mpr c8
            have c8b1 : (a2 != 0) = false := bne_eq_false_iff_eq.mpr c8
            clear c8
            obtain rfl := Option.some.inj H
            go_enter Try.func16, Try.ntmps16
            go_wp2
            go_ret
            exact ⟨by first | rfl | (simp; done) | (simp [*]; done), by repeat (first | exact Drawn0.refl _ | apply Drawn0.step)⟩
          · rw [if_neg c8] at H
            have c8b0 : (a2 == 0) = false := beq_eq_false_iff_ne.mpr c8
            have c8b1 : (a2 != 0) = true := bne_iff_ne.mpr c8
            obtain rfl := Option.some.inj H
            go_enter Try.func16, Try.ntmps16
            go_wp2
            go_ret
            exact ⟨by first | rfl | (simp; done) | (simp [*]; done), by repeat (first | exact Drawn0.refl _ | apply Drawn0.step)⟩
        · rw [if_neg c7] at H
          have c7b0 : (a0 == 8) = false := beq_eq_false_iff_ne.mpr c7
          have c7b1 : (a0 != 8) = true := bne_iff_ne.mpr c7
          by_cases c9 : a0 = 9
          · rw [if_pos c9] at H
            have c9b0 : (a0 == 9) = true := beq_iff_eq.mpr c9
            have c9b1 : (a0 != 9) = false := bne_eq_false_iff_eq.mpr c9
            clear c9
            by_cases c10 : a2 = 0
            · rw [if_pos c10] at H
              have c10b0 : (a2 == 0) = true := beq_iff_eq.mpr c10
              have c10b1 : (a2 != 0) = false := bne_eq_false_iff_eq.mpr c10
              clear c10
              obtain rfl := Option.some.inj H
              go_enter Try.func16, Try.ntmps16
              go_wp2
              go_ret
              exact ⟨by first | rfl | (simp; done) | (simp [*]; done), by repeat (first | exact Drawn0.refl _ | apply Drawn0.step)⟩
            · rw [if_neg c10] at H
              have c10b0 : (a2 == 0) = false := beq_eq_false_iff_ne.mpr c10
              have c10b1 : (a2 != 0) = true := bne_iff_ne.mpr c10
              obtain rfl := Option.some.inj H
              go_enter Try.func16, Try.ntmps16
              go_wp2
              go_ret
              exact ⟨by first | rfl | (simp; done) | (simp [*]; done), by repeat (first | exact Drawn0.refl _ | apply Drawn0.step)⟩
          · rw [if_neg c9] at H
            have c9b0 : (a0 == 9) = false := beq_eq_false_iff_ne.mpr c9
            have c9b1 : (a0 != 9) = true := bne_iff_ne.mpr c9
            by_cases c11 : a0 = 10
            · rw [if_pos c11] at H
              have c11b0 : (a0 == 10) = true := beq_iff_eq.mpr c11
              have c11b1 : (a0 != 10) = false := bne_eq_false_iff_eq.mpr c11
              clear c11
              replace H := Option.bind_eq_some_iff.mp H
              obtain ⟨t482, A120, H⟩ := H
              replace H : (some t482) = some r := H
              have A12 := Aside0.mk A120
              clear A120
              obtain rfl := Option.some.inj H
              go_enter Try.func16, Try.ntmps16
              go_wp2_with (first | ((with_reducible refine gate_callee (f := 36) rfl ?_); refine goesL_ (some 42) rfl rfl Try.func36 (by kernel_rfl) rfl #[.bool (a1 == a2)] rfl (by (try simp only [List.map_toArray, List.map_cons, List.map_nil]); first | done | rfl | (simp only [List.length_drop, List.length_take]; rfl)) ?_; (with_reducible refine (eval_truth.calls (a1 == a2) t482 _ A12.out).mono ?_); rintro e w' ⟨rfl, ⟨nd, rfl⟩⟩; refine ⟨_, rfl, ?_⟩))
              go_ret
              exact ⟨by first | rfl | (simp; done) | (simp [*]; done), by repeat (first | exact Drawn0.refl _ | apply Drawn0.step)⟩
            · rw [if_neg c11] at H
              have c11b0 : (a0 == 10) = false := beq_eq_false_iff_ne.mpr c11
              have c11b1 : (a0 != 10) = true := bne_iff_ne.mpr c11
              by_cases c13 : a0 = 11
              · rw [if_pos c13] at H
                have c13b0 : (a0 == 11) = true := beq_iff_eq.mpr c13
                have c13b1 : (a0 != 11) = false := bne_eq_false_iff_eq.mpr c13
                clear c13
                replace H := Option.bind_eq_some_iff.mp H
                obtain ⟨t483, A140, H⟩ := H
                replace H : (some t483) = some r := H
                have A14 := Aside0.mk A140
                clear A140
                obtain rfl := Option.some.inj H
                go_enter Try.func16, Try.ntmps16
                go_wp2_with (first | ((with_reducible refine gate_callee (f := 36) rfl ?_); refine goesL_ (some 48) rfl rfl Try.func36 (by kernel_rfl) rfl #[.bool (decide (a1 < a2))] rfl (by (try simp only [List.map_toArray, List.map_cons, List.map_nil]); first | done | rfl | (simp only [List.length_drop, List.length_take]; rfl)) ?_; (with_reducible refine (eval_truth.calls (decide (a1 < a2)) t483 _ A14.out).mono ?_); rintro e w' ⟨rfl, ⟨nd, rfl⟩⟩; refine ⟨_, rfl, ?_⟩))
                go_ret
                exact ⟨by first | rfl | (simp; done) | (simp [*]; done), by repeat (first | exact Drawn0.refl _ | apply Drawn0.step)⟩
              · rw [if_neg c13] at H
                have c13b0 : (a0 == 11) = false := beq_eq_false_iff_ne.mpr c13
                have c13b1 : (a0 != 11) = true := bne_iff_ne.mpr c13
                by_cases c15 : a0 = 12
                · rw [if_pos c15] at H
                  have c15b0 : (a0 == 12) = true := beq_iff_eq.mpr c15
                  have c15b1 : (a0 != 12) = false := bne_eq_false_iff_eq.mpr c15
                  clear c15
                  replace H := Option.bind_eq_some_iff.mp H
                  obtain ⟨t484, A160, H⟩ := H
                  replace H : (some t484) = some r := H
                  have A16 := Aside0.mk A160
                  clear A160
                  obtain rfl := Option.some.inj H
                  go_enter Try.func16, Try.ntmps16
                  go_wp2_with (first | ((with_reducible refine gate_callee (f := 36) rfl ?_); refine goesL_ (some 54) rfl rfl Try.func36 (by kernel_rfl) rfl #[.bool (decide (a1 ≤ a2))] rfl (by (try simp only [List.map_toArray, List.map_cons, List.map_nil]); first | done | rfl | (simp only [List.length_drop, List.length_take]; rfl)) ?_; (with_reducible refine (eval_truth.calls (decide (a1 ≤ a2)) t484 _ A16.out).mono ?_); rintro e w' ⟨rfl, ⟨nd, rfl⟩⟩; refine ⟨_, rfl, ?_⟩))
                  go_ret
                  exact ⟨by first | rfl | (simp; done) | (simp [*]; done), by repeat (first | exact Drawn0.refl _ | apply Drawn0.step)⟩
                · rw [if_neg c15] at H
                  have c15b0 : (a0 == 12) = false := beq_eq_false_iff_ne.mpr c15
                  have c15b1 : (a0 != 12) = true := bne_iff_ne.mpr c15
                  by_cases c17 : a0 = 3
                  · rw [if_pos c17] at H
                    have c17b0 : (a0 == 3) = true := beq_iff_eq.mpr c17
                    have c17b1 : (a0 != 3) = false := bne_eq_false_iff_eq.mpr c17
                    clear c17
                    obtain rfl := Option.some.inj H
                    go_enter Try.func16, Try.ntmps16
                    go_wp2
                    go_ret
                    exact ⟨by first | rfl | (simp; done) | (simp [*]; done), by repeat (first | exact Drawn0.refl _ | apply Drawn0.step)⟩
                  · rw [if_neg c17] at H
                    have c17b0 : (a0 == 3) = false := beq_eq_false_iff_ne.mpr c17
                    have c17b1 : (a0 != 3) = true := bne_iff_ne.mpr c17
                    by_cases c18 : a0 = 4
                    · rw [if_pos c18] at H
                      have c18b0 : (a0 == 4) = true := beq_iff_eq.mpr c18
                      have c18b1 : (a0 != 4) = false := bne_eq_false_iff_eq.mpr c18
                      clear c18
                      replace H := Option.bind_eq_some_iff.mp H
                      obtain ⟨t485, A190, H⟩ := H
                      replace H : (some t485) = some r := H
                      have A19 := Aside0.mk A190
                      clear A190
                      obtain rfl := Option.some.inj H
                      go_enter Try.func16, Try.ntmps16
                      go_wp2_with (first | ((with_reducible refine gate_callee (f := 36) rfl ?_); refine goesL_ (some 63) rfl rfl Try.func36 (by kernel_rfl) rfl #[.bool (a1 == 0)] rfl (by (try simp only [List.map_toArray, List.map_cons, List.map_nil]); first | done | rfl | (simp only [List.length_drop, List.length_take]; rfl)) ?_; (with_reducible refine (eval_truth.calls (a1 == 0) t485 _ A19.out).mono ?_); rintro e w' ⟨rfl, ⟨nd, rfl⟩⟩; refine ⟨_, rfl, ?_⟩))
                      go_ret
                      exact ⟨by first | rfl | (simp; done) | (simp [*]; done), by repeat (first | exact Drawn0.refl _ | apply Drawn0.step)⟩
                    · rw [if_neg c18] at H
                      have c18b0 : (a0 == 4) = false := beq_eq_false_iff_ne.mpr c18
                      have c18b1 : (a0 != 4) = true := bne_iff_ne.mpr c18
                      obtain rfl := Option.some.inj H
                      go_enter Try.func16, Try.ntmps16
                      go_wp2
                      go_ret
                      exact ⟨by first | rfl | (simp; done) | (simp [*]; done), by repeat (first | exact Drawn0.refl _ | apply Drawn0.step)⟩
def aquiferlaw21_awake.f  : Option (Bool) := (eval_Op.f 8 (-7) 2).bind fun t486 => (if t486 = (-3) then ((eval_Op.f 8 7 0).bind fun t487 => (some (t487 == 0))) else (some false))
set_option maxHeartbeats 8000000 in
set_option maxRecDepth 100000 in
theorem aquiferlaw21_awake.calls  (r : Bool) (w : World) (h : aquiferlaw21_awake.f  = some r) :
    Calls Try.prog 13 #[] w fun e w' => e = .returned (.bool r) ∧ Drawn0 w w' := by
  have H : ((eval_Op.f 8 (-7) 2).bind fun t486 => (if t486 = (-3) then ((eval_Op.f 8 7 0).bind fun t487 => (some (t487 == 0))) else (some false))) = some r := h
  clear h
  replace H := Option.bind_eq_some_iff.mp H
  obtain ⟨t486, A10, H⟩ := H
  replace H : (if t486 = (-3) then ((eval_Op.f 8 7 0).bind fun t487 => (some (t487 == 0))) else (some false)) = some r := H
  have A1 := Aside0.mk A10
  clear A10
  by_cases c2 : t486 = (-3)
  · rw [if_pos c2] at H
    have c2b0 : (t486 == (-3)) = true := beq_iff_eq.mpr c2
    have c2b1 : (t486 != (-3)) = false := bne_eq_false_iff_eq.mpr c2
    clear c2
    replace H := Option.bind_eq_some_iff.mp H
    obtain ⟨t487, A30, H⟩ := H
    replace H : (some (t487 == 0)) = some r := H
    have A3 := Aside0.mk A30
    clear A30
    obtain rfl := Option.some.inj H
    go_enter Try.func13, Try.ntmps13
    go_wp2_with (first | ((with_reducible refine gate_callee (f := 16) rfl ?_); refine goesL_ (some 1) rfl rfl Try.func16 (by kernel_rfl) rfl #[.int .i64 8, .int .i64 (-7), .int .i64 2] rfl (by (try simp only [List.map_toArray, List.map_cons, List.map_nil]); first | done | rfl | (simp only [List.length_drop, List.length_take]; rfl)) ?_; (with_reducible refine (eval_Op.calls 8 (-7) 2 t486 _ A1.out).mono ?_); rintro e w' ⟨rfl, ⟨nd, rfl⟩⟩; refine ⟨_, rfl, ?_⟩) | ((with_reducible refine gate_callee (f := 16) rfl ?_); (with_reducible refine gate_dst (N := 4) rfl ?_); (refine gate_guard (by rfl) ?_; dsimp only); refine goesL_ (some 4) rfl rfl Try.func16 (by kernel_rfl) rfl #[.int .i64 8, .int .i64 7, .int .i64 0] rfl (by (try simp only [List.map_toArray, List.map_cons, List.map_nil]); first | done | rfl | (simp only [List.length_drop, List.length_take]; rfl)) ?_; (with_reducible refine (eval_Op.calls 8 7 0 t487 _ A3.out).mono ?_); rintro e w' ⟨rfl, ⟨nd, rfl⟩⟩; refine ⟨_, rfl, ?_⟩))
    go_ret
    exact ⟨by first | rfl | (simp; done) | (simp [*]; done), by repeat (first | exact Drawn0.refl _ | apply Drawn0.step)⟩
  · rw [if_neg c2] at H
    have c2b0 : (t486 == (-3)) = false := beq_eq_false_iff_ne.mpr c2
    have c2b1 : (t486 != (-3)) = true := bne_iff_ne.mpr c2
    obtain rfl := Option.some.inj H
    go_enter Try.func13, Try.ntmps13
    go_wp2_with (first | ((with_reducible refine gate_callee (f := 16) rfl ?_); refine goesL_ (some 1) rfl rfl Try.func16 (by kernel_rfl) rfl #[.int .i64 8, .int .i64 (-7), .int .i64 2] rfl (by (try simp only [List.map_toArray, List.map_cons, List.map_nil]); first | done | rfl | (simp only [List.length_drop, List.length_take]; rfl)) ?_; (with_reducible refine (eval_Op.calls 8 (-7) 2 t486 _ A1.out).mono ?_); rintro e w' ⟨rfl, ⟨nd, rfl⟩⟩; refine ⟨_, rfl, ?_⟩))
    go_ret
    exact ⟨by first | rfl | (simp; done) | (simp [*]; done), by repeat (first | exact Drawn0.refl _ | apply Drawn0.step)⟩
def cmp_Or_int.l0 : Nat → Int → List Int → Int → Int → Option (Int)
  | 0, _, _, _, _ => none
  | k + 1, x3, x6, x7, x8 => if x8 < x7 then (if 0 ≤ x8 then (if x8 < (x6.length : Int) then (if (rd x6 x8) = x3 then (cmp_Or_int.l0 k x3 x6 x7 (wrap64 (x8 + 1))) else (some (rd x6 x8))) else (none)) else (none)) else (some x3)
def cmp_Or_int.f (k : Nat) (l0 : List Int) : Option (Int) := cmp_Or_int.l0 k 0 l0 (l0.length : Int) 0
theorem cmp_Or_int.mono_l : ∀ k, (∀ y0 y1 y2 y3, LeO (cmp_Or_int.l0 k y0 y1 y2 y3) (cmp_Or_int.l0 (k + 1) y0 y1 y2 y3))
  | 0 => fun _ _ _ _ r h => by simp [cmp_Or_int.l0] at h
  | k + 1 => by
    have ih0 := cmp_Or_int.mono_l k
    · intro y0 y1 y2 y3
      unfold cmp_Or_int.l0
      repeat' first
      | (with_reducible exact ih0 _ _ _ _)
      | (with_reducible exact LeO.refl _)
      | (with_reducible exact LeO.none _)
      | (with_reducible refine LeO.ite ?_ ?_)
      | (with_reducible refine LeO.bind ?_ (fun _ => ?_))
      | exact ih0 _ _ _ _
      | exact LeO.none _
      | refine LeO.ite ?_ ?_
      | refine LeO.bind ?_ (fun _ => ?_)
theorem cmp_Or_int.mono : ∀ a0 k, LeO (cmp_Or_int.f k a0) (cmp_Or_int.f (k + 1) a0) := by
  intro a0 k
  have ih0 := cmp_Or_int.mono_l k
  unfold cmp_Or_int.f
  repeat' first
      | (with_reducible exact ih0 _ _ _ _)
      | (with_reducible exact LeO.refl _)
      | (with_reducible exact LeO.none _)
      | (with_reducible refine LeO.ite ?_ ?_)
      | (with_reducible refine LeO.bind ?_ (fun _ => ?_))
      | exact ih0 _ _ _ _
      | exact LeO.none _
      | refine LeO.ite ?_ ?_
      | refine LeO.bind ?_ (fun _ => ?_)
set_option maxHeartbeats 8000000 in
set_option maxRecDepth 100000 in
theorem cmp_Or_int.calls (k : Nat) (A0 : Option Addr) (c0 : Nat) (l0 : List Int) (r : Int) (w : World) (hr0 : Kd.C (Kd.int .i64) w A0 l0.length l0) (hc0 : l0.length ≤ c0) (h : cmp_Or_int.f k l0 = some r) :
    Calls Try.prog 57 #[.slice A0 l0.length c0] w fun e w' => e = .returned (.int .i64 r) ∧ Drawn0 w w' := by
  have HR0 := Aside0.mk hr0
  have HC0 := Aside0.mk hc0
  clear hr0 hc0
  have H : (cmp_Or_int.l0 k 0 l0 (l0.length : Int) 0) = some r := h
  clear h
  have H' := Aside0.mk H
  clear H
  go_enter Try.func57, Try.ntmps57
  go_wp2
  go_loopg [8] k (fun kq v8 w' => ∃ (x8_1 : Int), v8 = .int .i64 x8_1 ∧ Aside0 (cmp_Or_int.l0 kq 0 l0 (l0.length : Int) x8_1 = some r) ∧ Aside0 (kq ≤ k) ∧ Drawn0 w w')
  case atStart => exact ⟨(0), (by first | rfl | (simp; done) | (simp [bne]; done) | (simp [*]; done)), H', ⟨Nat.le_refl _⟩, by repeat (first | exact Drawn0.refl _ | apply Drawn0.step)⟩
  case round =>
    clear H'
    obtain ⟨x8_1, rfl, HA, HK1, ⟨m1, rfl⟩⟩ := hrel
    cases gk with
    | zero => exact absurd HA.out (by simp [cmp_Or_int.l0])
    | succ k1 =>
      have H := HA.out
      clear HA
      simp only [cmp_Or_int.l0] at H
      by_cases c2 : x8_1 < (l0.length : Int)
      · rw [if_pos c2] at H
        have c2b0 : decide (x8_1 < (l0.length : Int)) = true := decide_eq_true c2
        clear c2
        by_cases c3 : 0 ≤ x8_1
        · rw [if_pos c3] at H
          have c3b0 : decide (0 ≤ x8_1) = true := decide_eq_true c3
          clear c3
          by_cases c4 : x8_1 < (l0.length : Int)
          · rw [if_pos c4] at H
            have c4b0 : decide (x8_1 < (l0.length : Int)) = true := decide_eq_true c4
            clear c4
            by_cases c5 : (rd l0 x8_1) = 0
            · rw [if_pos c5] at H
              have c5b0 : ((rd l0 x8_1) == 0) = true := beq_iff_eq.mpr c5
              have c5b1 : ((rd l0 x8_1) != 0) = false := bne_eq_false_iff_eq.mpr c5
              clear c5
              have H' := Aside0.mk H
              clear H
              have p488 : 0 ≤ (x8_1 : Int) := of_decide_eq_true (by first | (with_reducible assumption) | assumption)
              have q488 : x8_1 < (l0.length : Int) := of_decide_eq_true (by first | (with_reducible assumption) | assumption)
              obtain ⟨ad488, e488, hx488_0⟩ := Kd.at_int HR0.out x8_1 p488 q488
              cases e488
              replace p488 := eq_true p488
              replace q488 := eq_true q488
              go_wp2
              go_roundg k1
              case measure => have := HK1.out; omega
              case rel => exact ⟨(wrap64 (x8_1 + 1)), (by first | rfl | (simp; done) | (simp [bne]; done) | (simp [*]; done)), H', ⟨by have := HK1.out; omega⟩, by repeat (first | exact Drawn0.refl _ | apply Drawn0.step)⟩
            · rw [if_neg c5] at H
              have c5b0 : ((rd l0 x8_1) == 0) = false := beq_eq_false_iff_ne.mpr c5
              have c5b1 : ((rd l0 x8_1) != 0) = true := bne_iff_ne.mpr c5
              obtain rfl := Option.some.inj H
              have p488 : 0 ≤ (x8_1 : Int) := of_decide_eq_true (by first | (with_reducible assumption) | assumption)
              have q488 : x8_1 < (l0.length : Int) := of_decide_eq_true (by first | (with_reducible assumption) | assumption)
              obtain ⟨ad488, e488, hx488_0⟩ := Kd.at_int HR0.out x8_1 p488 q488
              cases e488
              replace p488 := eq_true p488
              replace q488 := eq_true q488
              go_wp2
              go_ret
              exact ⟨by first | rfl | (simp; done) | (simp [*]; done), by repeat (first | exact Drawn0.refl _ | apply Drawn0.step)⟩
          · rw [if_neg c4] at H
            exact absurd H (by simp)
        · rw [if_neg c3] at H
          exact absurd H (by simp)
      · rw [if_neg c2] at H
        have c2b0 : decide (x8_1 < (l0.length : Int)) = false := decide_eq_false c2
        clear c2
        obtain rfl := Option.some.inj H
        go_wp2
        go_ret
        exact ⟨by first | rfl | (simp; done) | (simp [*]; done), by repeat (first | exact Drawn0.refl _ | apply Drawn0.step)⟩
def strings_Compare.f (a0 a1 : ByteArray) : Option Int := some (Lib.compareBytes a0.data.toList a1.data.toList)
theorem strings_Compare.calls (a0 : ByteArray) (a1 : ByteArray) (r : Int) (w : World) (h : strings_Compare.f a0 a1 = some r) :
    Calls Try.prog 58 #[.string a0, .string a1] w fun e w' => e = .returned (.int .i64 r) ∧ Drawn0 w w' := by
  cases h
  refine (Try.strings_Compare a0 a1 w).mono ?_
  rintro e w' ⟨rfl, rfl⟩
  exact ⟨rfl, Drawn0.refl _⟩
def memory_compare.f (k : Nat) (a0_0 : ByteArray) (a0_1 : ByteArray) (a0_2 : Int) (a1_0 : ByteArray) (a1_1 : ByteArray) (a1_2 : Int) : Option (Int) := (strings_Compare.f a0_0 a1_0).bind fun t491 => ((strings_Compare.f a0_1 a1_1).bind fun t492 => ((cmp_Or_int.f k (([t491, t492] : List Int))).bind fun t496 => (some t496)))
theorem memory_compare.mono : ∀ a0 a1 a2 a3 a4 a5 k, LeO (memory_compare.f k a0 a1 a2 a3 a4 a5) (memory_compare.f (k + 1) a0 a1 a2 a3 a4 a5) := by
  intro a0 a1 a2 a3 a4 a5 k
  unfold memory_compare.f
  repeat' first
      | (with_reducible exact cmp_Or_int.mono _ _)
      | (with_reducible exact LeO.refl _)
      | (with_reducible exact LeO.none _)
      | (with_reducible refine LeO.ite ?_ ?_)
      | (with_reducible refine LeO.bind ?_ (fun _ => ?_))
      | exact cmp_Or_int.mono _ _
      | exact LeO.none _
      | refine LeO.ite ?_ ?_
      | refine LeO.bind ?_ (fun _ => ?_)
def memory_compare.T1 : Bool × List (List Nat × List Nat) := (true, [([], []), ([0], [0]), ([], []), ([2], [2]), ([1, 3], [1, 3]), ([], []), ([5], [5]), ([], []), ([7], [7]), ([6, 8, 4], [6, 8]), ([4, 9], [4, 9]), ([10, 9], [10]), ([11, 11, 0, 1, 2, 3, 4, 5, 6, 7, 8, 9, 10, 11], [11])])
def memory_compare.B1 : List Nat := [0, 1, 0, 4, 15, 0, 32, 0, 128, 511, 1023, 2047, 4095]
theorem memory_compare.tab1 : rtab .any (opsOf Try.f39 1) = memory_compare.T1 := by kernel_rfl
theorem memory_compare.bits1 : waitsOk memory_compare.T1.2 memory_compare.B1 = true := by kernel_rfl
set_option maxHeartbeats 8000000 in
set_option maxRecDepth 100000 in
theorem memory_compare.calls (k : Nat) (a0_0 : ByteArray) (a0_1 : ByteArray) (a0_2 : Int) (a1_0 : ByteArray) (a1_1 : ByteArray) (a1_2 : Int) (r : Int) (w : World) (h : memory_compare.f k a0_0 a0_1 a0_2 a1_0 a1_1 a1_2 = some r) :
    Calls Try.prog 39 #[.agg #[.string a0_0, .string a0_1, .int .i64 a0_2], .agg #[.string a1_0, .string a1_1, .int .i64 a1_2]] w fun e w' => e = .returned (.int .i64 r) ∧ Below w.heap.size w w' := by
  have hu32 := Try.underlying32
  have HB := Aside0.mk (Below.refl w.heap.size w)
  have H : ((strings_Compare.f a0_0 a1_0).bind fun t491 => ((strings_Compare.f a0_1 a1_1).bind fun t492 => ((cmp_Or_int.f k (([t491, t492] : List Int))).bind fun t496 => (some t496)))) = some r := h
  clear h
  replace H := Option.bind_eq_some_iff.mp H
  obtain ⟨t491, A30, H⟩ := H
  replace H : ((strings_Compare.f a0_1 a1_1).bind fun t492 => ((cmp_Or_int.f k (([t491, t492] : List Int))).bind fun t496 => (some t496))) = some r := H
  have A3 := Aside0.mk A30
  clear A30
  replace H := Option.bind_eq_some_iff.mp H
  obtain ⟨t492, A40, H⟩ := H
  replace H : ((cmp_Or_int.f k (([t491, t492] : List Int))).bind fun t496 => (some t496)) = some r := H
  have A4 := Aside0.mk A40
  clear A40
  obtain ⟨y493, hy493⟩ : ∃ y_ : List Int, y_ = (([t491, t492] : List Int)) := ⟨_, rfl⟩
  replace H : ((cmp_Or_int.f k y493).bind fun t496 => (some t496)) = some r := by first | (rw [hy493]; with_reducible exact H) | (have H2_ := (Option.bind_some _ _).symm.trans H; rw [hy493]; with_reducible exact H2_) | (have H2_ := (Option.bind_some _ _).symm.trans H; with_reducible exact H2_) | with_reducible exact H | (rw [hy493]; exact H) | exact H
  have Ny493 := Aside0.mk hy493
  clear hy493
  replace H := Option.bind_eq_some_iff.mp H
  obtain ⟨t496, A50, H⟩ := H
  replace H : (some t496) = some r := H
  have A5 := Aside0.mk A50
  clear A50
  obtain rfl := Option.some.inj H
  go_enter Try.func39, Try.ntmps39
  try go_wp2_with (first | ((with_reducible refine gate_dst (N := 2) rfl ?_); refine box_event ?hg (N := 2) ?hd (cs := #[.string a0_0, .string a0_1, .int .i64 a0_2]) (t := 32) ?hr ?_; (case hd => rfl); (case hg => rfl); (case hr => first | (go_simp; done) | (go_simp; rfl)); intro gb489 hg w6 hbox hb; have n0_ := Aside0.mk (below_step (by repeat (first | (with_reducible first | exact HB.out | apply below_alloc | apply pw_below_drewN | apply below_drew1) | exact HB.out)) hb); have n1_ := Aside0.mk (hbox); have n2_ := Aside0.mk ((by rw [hg]; exact (below_size (by repeat (first | (with_reducible first | exact HB.out | apply below_alloc | apply pw_below_drewN | apply below_drew1) | exact HB.out))) : w.heap.size ≤ gb489)); have n3_ := Aside0.mk ((by rw [hg]; exact (below_size (by repeat (first | (with_reducible first | exact HB.out | apply below_alloc | apply pw_below_drewN | apply below_drew1) | exact HB.out))) : w.heap.size ≤ gb489)); clear HB; have HB := n0_; have BK489 := n1_; have GW489 := n2_; have GE489 := n3_; clear n0_ n1_ n2_ n3_; clear hb hbox hg) | ((with_reducible refine gate_dst (N := 3) rfl ?_); refine box_event ?hg (N := 3) ?hd (cs := #[.string a1_0, .string a1_1, .int .i64 a1_2]) (t := 32) ?hr ?_; (case hd => rfl); (case hg => rfl); (case hr => first | (go_simp; done) | (go_simp; rfl)); intro gb490 hg w7 hbox hb; have n0_ := Aside0.mk (blk_below (g := gb489) (o := .cells #[.string a0_0, .string a0_1, .int .i64 a0_2] 32 (0, 0)) (by (with_reducible repeat (first | refine blk_drewN ?_ _ | refine blk_drew ?_ | refine blk_alloc ?_ _)); exact BK489.out) hb); have n1_ := Aside0.mk (below_step (by repeat (first | (with_reducible first | exact HB.out | apply below_alloc | apply pw_below_drewN | apply below_drew1 | refine below_set ?_ GE489.out) | exact HB.out)) hb); have n2_ := Aside0.mk (hbox); have n3_ := Aside0.mk ((by rw [hg]; exact (below_size (by repeat (first | (with_reducible first | exact HB.out | apply below_alloc | apply pw_below_drewN | apply below_drew1 | refine below_set ?_ GE489.out) | exact HB.out))) : w.heap.size ≤ gb490)); have n4_ := Aside0.mk ((by rw [hg]; exact (below_size (by repeat (first | (with_reducible first | exact HB.out | apply below_alloc | apply pw_below_drewN | apply below_drew1 | refine below_set ?_ GE489.out) | exact HB.out))) : w.heap.size ≤ gb490)); have n5_ := Aside0.mk ((by rw [hg]; exact Nat.ne_of_lt (blk_lt (g := gb489) (o := .cells #[.string a0_0, .string a0_1, .int .i64 a0_2] 32 (0, 0)) (by (with_reducible repeat (first | refine blk_drewN ?_ _ | refine blk_drew ?_ | refine blk_alloc ?_ _)); exact BK489.out)) : gb489 ≠ gb490)); have n6_ := Aside0.mk ((by rw [hg]; exact Nat.ne_of_gt (blk_lt (g := gb489) (o := .cells #[.string a0_0, .string a0_1, .int .i64 a0_2] 32 (0, 0)) (by (with_reducible repeat (first | refine blk_drewN ?_ _ | refine blk_drew ?_ | refine blk_alloc ?_ _)); exact BK489.out)) : gb490 ≠ gb489)); clear BK489; clear HB; have BK489 := n0_; have HB := n1_; have BK490 := n2_; have GW490 := n3_; have GE490 := n4_; have NB489_490 := n5_; have NB490_489 := n6_; clear n0_ n1_ n2_ n3_ n4_ n5_ n6_; clear hb hbox hg))
  have n0_ := Aside0.mk (blk_drew BK489.out)
  have n1_ := Aside0.mk (blk_drew BK490.out)
  have n2_ := Aside0.mk (below_drew1 HB.out)
  clear BK489
  clear BK490
  clear HB
  have BK489 := n0_
  have BK490 := n1_
  have HB := n2_
  clear n0_ n1_ n2_
  refine start_ (n := 13) (S := fun w' => w'.cell? ⟨gb489, 0, none⟩ = some (.string a0_0) ∧ w'.cell? ⟨gb489, 1, none⟩ = some (.string a0_1) ∧ w'.cell? ⟨gb489, 2, none⟩ = some (.int .i64 a0_2) ∧ w'.cell? ⟨gb490, 0, none⟩ = some (.string a1_0) ∧ w'.cell? ⟨gb490, 1, none⟩ = some (.string a1_1) ∧ w'.cell? ⟨gb490, 2, none⟩ = some (.int .i64 a1_2)) (ds := []) #[false, false, false, false, false, false, false, false, false, false, false, false, false] (by kernel_rfl) rfl rfl ⟨(blk_cell BK489.out 0).trans rfl, (blk_cell BK489.out 1).trans rfl, (blk_cell BK489.out 2).trans rfl, (blk_cell BK490.out 0).trans rfl, (blk_cell BK490.out 1).trans rfl, (blk_cell BK490.out 2).trans rfl⟩ (fun hHeld => ?_); refine with_tabW memory_compare.tab1 memory_compare.bits1 (fun HT_ HW_ => ?_)
  generalize w7.drew = w8 at BK489 BK490 HB hHeld ⊢
  refine pure_ (i := 0) (N := some 5) (v := ?_) (a' := ?_) #[true, false, false, false, false, false, false, false, false, false, false, false, false] rfl rfl (any_of HT_.out (by kernel_rfl)) (fun _ _ _ h => h) (Or.inl ⟨by rfl, ?_⟩) ?_ ?_
  rotate_left
  · intro w'
    go_simp
    with_reducible rfl
  rotate_left
  · simp only [Act.put, List.setIfInBounds_toArray, List.set_cons_zero, List.set_cons_succ, i64_w, i32_w]
    rfl
  refine pure_ (i := 2) (N := some 7) (v := ?_) (a' := ?_) #[true, false, true, false, false, false, false, false, false, false, false, false, false] rfl rfl (any_of HT_.out (by kernel_rfl)) (fun _ _ _ h => h) (Or.inl ⟨by rfl, ?_⟩) ?_ ?_
  rotate_left
  · intro w'
    go_simp
    with_reducible rfl
  rotate_left
  · simp only [Act.put, List.setIfInBounds_toArray, List.set_cons_zero, List.set_cons_succ, i64_w, i32_w]
    rfl
  refine pure_ (i := 5) (N := some 10) (v := ?_) (a' := ?_) #[true, false, true, false, false, true, false, false, false, false, false, false, false] rfl rfl (any_of HT_.out (by kernel_rfl)) (fun _ _ _ h => h) (Or.inl ⟨by rfl, ?_⟩) ?_ ?_
  rotate_left
  · intro w'
    go_simp
    with_reducible rfl
  rotate_left
  · simp only [Act.put, List.setIfInBounds_toArray, List.set_cons_zero, List.set_cons_succ, i64_w, i32_w]
    rfl
  refine pure_ (i := 7) (N := some 12) (v := ?_) (a' := ?_) #[true, false, true, false, false, true, false, true, false, false, false, false, false] rfl rfl (any_of HT_.out (by kernel_rfl)) (fun _ _ _ h => h) (Or.inl ⟨by rfl, ?_⟩) ?_ ?_
  rotate_left
  · intro w'
    go_simp
    with_reducible rfl
  rotate_left
  · simp only [Act.put, List.setIfInBounds_toArray, List.set_cons_zero, List.set_cons_succ, i64_w, i32_w]
    rfl
  refine take_ (i := 1) (N := some 6) (v := ?_) (a' := ?_) #[true, true, true, false, false, true, false, true, false, false, false, false, false] rfl rfl (take_ofW HT_.out HW_.out (by kernel_rfl)) (fun _ _ _ h => h) (Or.inl ⟨by rfl, ?_⟩) hHeld ?_ ?_
  rotate_left
  · rintro w' ⟨s0, s1, s2, s3, s4, s5⟩
    go_simp
    with_reducible rfl
  rotate_left
  · simp only [Act.put, List.setIfInBounds_toArray, List.set_cons_zero, List.set_cons_succ, i64_w, i32_w]
    rfl
  refine take_ (i := 3) (N := some 8) (v := ?_) (a' := ?_) #[true, true, true, true, false, true, false, true, false, false, false, false, false] rfl rfl (take_ofW HT_.out HW_.out (by kernel_rfl)) (fun _ _ _ h => h) (Or.inl ⟨by rfl, ?_⟩) hHeld ?_ ?_
  rotate_left
  · rintro w' ⟨s0, s1, s2, s3, s4, s5⟩
    go_simp
    with_reducible rfl
  rotate_left
  · simp only [Act.put, List.setIfInBounds_toArray, List.set_cons_zero, List.set_cons_succ, i64_w, i32_w]
    rfl
  refine take_ (i := 6) (N := some 11) (v := ?_) (a' := ?_) #[true, true, true, true, false, true, true, true, false, false, false, false, false] rfl rfl (take_ofW HT_.out HW_.out (by kernel_rfl)) (fun _ _ _ h => h) (Or.inl ⟨by rfl, ?_⟩) hHeld ?_ ?_
  rotate_left
  · rintro w' ⟨s0, s1, s2, s3, s4, s5⟩
    go_simp
    with_reducible rfl
  rotate_left
  · simp only [Act.put, List.setIfInBounds_toArray, List.set_cons_zero, List.set_cons_succ, i64_w, i32_w]
    rfl
  refine take_ (i := 8) (N := some 13) (v := ?_) (a' := ?_) #[true, true, true, true, false, true, true, true, true, false, false, false, false] rfl rfl (take_ofW HT_.out HW_.out (by kernel_rfl)) (fun _ _ _ h => h) (Or.inl ⟨by rfl, ?_⟩) hHeld ?_ ?_
  rotate_left
  · rintro w' ⟨s0, s1, s2, s3, s4, s5⟩
    go_simp
    with_reducible rfl
  rotate_left
  · simp only [Act.put, List.setIfInBounds_toArray, List.set_cons_zero, List.set_cons_succ, i64_w, i32_w]
    rfl
  refine one_ (i := 4) (N := some 9) #[true, true, true, true, true, true, true, true, true, false, false, false, false] rfl rfl (one_of HT_.out (by kernel_rfl)) (by decide) (fun K hK => ?_)
  refine goes_ Try.func58 (by kernel_rfl) rfl #[.string a0_0, .string a1_0] (by rfl) rfl rfl (by (try simp only [List.map_toArray, List.map_cons, List.map_nil]); first | done | rfl | (simp only [List.length_drop, List.length_take]; rfl)) ?_
  with_reducible refine (strings_Compare.calls a0_0 a1_0 t491 _ A3.out).mono ?_
  rintro e w' ⟨rfl, ⟨nd, rfl⟩⟩
  refine ⟨_, rfl, ?_⟩
  refine hK.out _ _ ⟨(blk_cell BK489.out 0).trans rfl, (blk_cell BK489.out 1).trans rfl, (blk_cell BK489.out 2).trans rfl, (blk_cell BK490.out 0).trans rfl, (blk_cell BK490.out 1).trans rfl, (blk_cell BK490.out 2).trans rfl⟩ (fun hHeld => ?_)
  clear hK K
  refine norm_ (a' := ?_) ?_ ?_
  rotate_left
  · show Act.put _ (some 9) _ = _
    simp only [Act.put, List.setIfInBounds_toArray, List.set_cons_zero, List.set_cons_succ, i64_w, i32_w]
    rfl
  refine one_ (i := 9) (N := some 14) #[true, true, true, true, true, true, true, true, true, true, false, false, false] rfl rfl (one_of HT_.out (by kernel_rfl)) (by decide) (fun K hK => ?_)
  refine goes_ Try.func58 (by kernel_rfl) rfl #[.string a0_1, .string a1_1] (by rfl) rfl rfl (by (try simp only [List.map_toArray, List.map_cons, List.map_nil]); first | done | rfl | (simp only [List.length_drop, List.length_take]; rfl)) ?_
  with_reducible refine (strings_Compare.calls a0_1 a1_1 t492 _ A4.out).mono ?_
  rintro e w' ⟨rfl, ⟨nd, rfl⟩⟩
  refine ⟨_, rfl, ?_⟩
  refine hK.out _ _ ⟨(blk_cell BK489.out 0).trans rfl, (blk_cell BK489.out 1).trans rfl, (blk_cell BK489.out 2).trans rfl, (blk_cell BK490.out 0).trans rfl, (blk_cell BK490.out 1).trans rfl, (blk_cell BK490.out 2).trans rfl⟩ (fun hHeld => ?_)
  clear hK K
  refine norm_ (a' := ?_) ?_ ?_
  rotate_left
  · show Act.put _ (some 14) _ = _
    simp only [Act.put, List.setIfInBounds_toArray, List.set_cons_zero, List.set_cons_succ, i64_w, i32_w]
    rfl
  refine one_ (i := 10) (N := some 15) #[true, true, true, true, true, true, true, true, true, true, true, false, false] rfl rfl (one_of HT_.out (by kernel_rfl)) (by decide) (fun K hK => ?_)
  refine Kd.R_lit_step (Kd.int .i64) _ 3 ?hg (N := 15) ?hd (xs := ([t491, t492] : List Int)) (inner := [.int .i64 t491, .int .i64 t492]) (ok := fun _ => True) (okp := fun _ => True) ?hr ?hp (fun _ hk => hk) trivial (Below.refl _ _) (Nat.le_refl _) (by simp) ?_; (case hd => rfl); (case hg => rfl); (case hr => first | (go_simp; done) | (go_simp; rfl)); (case hp => exact (Reps.one (show Kd.M (Kd.int .i64) _ _ _ t491 [.int .i64 t491] from rfl) (Reps.one (show Kd.M (Kd.int .i64) _ _ _ t492 [.int .i64 t492] from rfl) (Reps.none _ _))))
  intro v494 w9 ho10 hb hg_ hnew_
  clear hg_ hnew_
  (first | rw [← Ny493.out] at ho10 | (simp only [Int.reduceToNat] at ho10; rw [← Ny493.out] at ho10))
  have n0_ := Aside0.mk (Kd.R_lower ho10 (below_size (by repeat (first | (with_reducible first | exact HB.out | apply below_alloc | apply pw_below_drewN | apply below_drew1 | refine below_set ?_ GE489.out | refine below_set ?_ GE490.out) | exact HB.out))))
  have n1_ := Aside0.mk (blk_below (g := gb489) (o := .cells #[.string a0_0, .string a0_1, .int .i64 a0_2] 32 (0, 0)) (by (with_reducible repeat (first | refine blk_drewN ?_ _ | refine blk_drew ?_ | refine blk_alloc ?_ _)); exact BK489.out) hb)
  have n2_ := Aside0.mk (blk_below (g := gb490) (o := .cells #[.string a1_0, .string a1_1, .int .i64 a1_2] 32 (0, 0)) (by (with_reducible repeat (first | refine blk_drewN ?_ _ | refine blk_drew ?_ | refine blk_alloc ?_ _)); exact BK490.out) hb)
  have n3_ := Aside0.mk (below_step (by repeat (first | (with_reducible first | exact HB.out | apply below_alloc | apply pw_below_drewN | apply below_drew1 | refine below_set ?_ GE489.out | refine below_set ?_ GE490.out) | exact HB.out)) hb)
  clear BK489
  clear BK490
  clear HB
  have HO495 := n0_
  have BK489 := n1_
  have BK490 := n2_
  have HB := n3_
  clear n0_ n1_ n2_ n3_
  clear hb ho10
  obtain ⟨Ao11, co11, eo11⟩ := Kd.R_slice HO495.out
  (first | subst eo11 | (injection eo11 with f1_ f2_ f3_; have f4_ := f1_.symm; have f5_ := f3_.symm; clear f1_ f2_ f3_; subst f4_; subst f5_))
  refine hK.out _ _ ⟨(blk_cell BK489.out 0).trans rfl, (blk_cell BK489.out 1).trans rfl, (blk_cell BK489.out 2).trans rfl, (blk_cell BK490.out 0).trans rfl, (blk_cell BK490.out 1).trans rfl, (blk_cell BK490.out 2).trans rfl⟩ (fun hHeld => ?_)
  clear hK K
  refine norm_ (a' := ?_) ?_ ?_
  rotate_left
  · show Act.put _ (some 15) _ = _
    simp only [Act.put, List.setIfInBounds_toArray, List.set_cons_zero, List.set_cons_succ, i64_w, i32_w]
    rfl
  refine one_ (i := 11) (N := some 16) #[true, true, true, true, true, true, true, true, true, true, true, true, false] rfl rfl (one_of HT_.out (by kernel_rfl)) (by decide) (fun K hK => ?_)
  refine goes_ Try.func57 (by kernel_rfl) rfl #[.slice Ao11 y493.length co11] (by rfl) rfl rfl (by (try simp only [List.map_toArray, List.map_cons, List.map_nil]); first | done | rfl | (simp only [List.length_drop, List.length_take]; rfl)) ?_
  with_reducible refine (cmp_Or_int.calls k _ _ y493 t496 _ ?side1 ?side2 A5.out).mono ?_
  (case side1 => repeat (first | exact (Kd.R_reads' HO495.out).2.2 | (with_reducible refine Kd.C_alloc ?_ _) | (with_reducible refine Kd.C_drewN ?_ _) | (with_reducible refine Kd.C_drew ?_)))
  (case side2 => exact (Kd.R_reads' HO495.out).2.1)
  rintro e w' ⟨rfl, ⟨nd, rfl⟩⟩
  refine ⟨_, rfl, ?_⟩
  refine hK.out _ _ ⟨(blk_cell BK489.out 0).trans rfl, (blk_cell BK489.out 1).trans rfl, (blk_cell BK489.out 2).trans rfl, (blk_cell BK490.out 0).trans rfl, (blk_cell BK490.out 1).trans rfl, (blk_cell BK490.out 2).trans rfl⟩ (fun hHeld => ?_)
  clear hK K
  refine norm_ (a' := ?_) ?_ ?_
  rotate_left
  · show Act.put _ (some 16) _ = _
    simp only [Act.put, List.setIfInBounds_toArray, List.set_cons_zero, List.set_cons_succ, i64_w, i32_w]
    rfl
  refine pure_ (i := 12) (N := some 4) (v := ?_) (a' := ?_) #[true, true, true, true, true, true, true, true, true, true, true, true, true] rfl rfl (any_of HT_.out (by kernel_rfl)) (fun _ _ _ h => h) (Or.inl ⟨by rfl, ?_⟩) ?_ ?_
  rotate_left
  · intro w'
    go_simp
    with_reducible rfl
  rotate_left
  · simp only [Act.put, List.setIfInBounds_toArray, List.set_cons_zero, List.set_cons_succ, i64_w, i32_w]
    rfl
  refine done_ (done_of HT_.out (by kernel_rfl)) ?_
  try go_wp2
  go_ret
  exact ⟨by first | rfl | (simp [errW_none, errW_some] <;> rfl) | (simp [*, errW_none, errW_some] <;> rfl), by repeat (first | (with_reducible first | exact HB.out | apply below_alloc | apply pw_below_drewN | apply below_drew1 | refine below_set ?_ GE489.out | refine below_set ?_ GE490.out) | exact HB.out)⟩
end Go.Proofs.Ytkhalpeiifdfiaa.QEvalHides
