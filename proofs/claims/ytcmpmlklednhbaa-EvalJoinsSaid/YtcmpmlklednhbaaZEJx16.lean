import Derived.Test.YtcmpmlklednhbaaZEJx3
import Derived.Test.YtcmpmlklednhbaaZEJx15
namespace Go.Proofs.Ytcmpmlklednhbaa.QEvalJoins
open Go.RowKit Go.Proofs.YtcmpmlklednhbaaW.PrintWords Go.Proofs.YtcmpmlklednhbaaW.PrintLast Go.Proofs.YtcmpmlklednhbaaW.PrintMore
set_option maxHeartbeats 8000000
set_option maxRecDepth 100000
attribute [local go_sem] max2_int min2_int max_two min_two max_three min_three max_four min_four
set_option linter.unusedVariables false
set_option linter.unusedSimpArgs false
def ra_Parse.f (k : Nat) (a0 : ByteArray) : Option (ByteArray × Int × (List S75) × (List S77) × (List S42) × Int × Int) :=
 (ra_Lex.f k a0).bind fun b => if b.2.1 = 0 then ((rr_module.f k b.1 0 0 0 0).bind fun m => if m.2.2.2.2.2.2.2.1 = 0 then (some (m.1, m.2.1, m.2.2.1, m.2.2.2.1, m.2.2.2.2.1, 0, 0)) else (some ((⟨#[]⟩ : ByteArray), 0, ([] : List S75), ([] : List S77), ([] : List S42), m.2.2.2.2.2.2.2.1, m.2.2.2.2.2.2.2.2))) else (some ((⟨#[]⟩ : ByteArray), 0, ([] : List S75), ([] : List S77), ([] : List S42), b.2.1, b.2.2))
theorem ra_Parse.mono : ∀ a0 k, LeO (ra_Parse.f k a0) (ra_Parse.f (k + 1) a0) := by
 intro a0 k
 unfold ra_Parse.f
 repeat' with_reducible first | apply ra_Lex.mono | apply rr_module.mono | exact LeO.refl _ | exact LeO.none _ | refine LeO.ite ?_ ?_ | refine LeO.bind ?_ (fun _ => ?_)
theorem ra_Parse.far5 {α : Type} {d : Kd α} {e base g : Nat} {ok : Nat → Prop} {W : World} {v : Value} {xs : List α} (h : d.R e W base ok v xs) (hok : ∀ k, ok k → k ≠ g) (u0 u1 u2 u3 u4 : Value) :
  d.R e (((((W.setCell ⟨g, 0, none⟩ u0).setCell ⟨g, 1, none⟩ u1).setCell ⟨g, 2, none⟩ u2).setCell ⟨g, 3, none⟩ u3).setCell ⟨g, 4, none⟩ u4) base ok v xs :=
 Kd.R_far (Kd.R_far (Kd.R_far (Kd.R_far (Kd.R_far h hok _) hok _) hok _) hok _) hok _
theorem ra_Parse.below5 {g : Nat} {w W : World} (h : Below w.heap.size w W) (hg : w.heap.size ≤ g) (u0 u1 u2 u3 u4 : Value) :
  Below w.heap.size w (((((W.setCell ⟨g, 0, none⟩ u0).setCell ⟨g, 1, none⟩ u1).setCell ⟨g, 2, none⟩ u2).setCell ⟨g, 3, none⟩ u3).setCell ⟨g, 4, none⟩ u4) :=
 below_set (below_set (below_set (below_set (below_set h hg) hg) hg) hg) hg
theorem ra_Parse.blk5 {g : Nat} {W : World} {t : TypeId} {a0 a1 a2 a3 a4 : Value} (h : W.heap[g]? = some (.cells #[a0, a1, a2, a3, a4] t (0, 0))) (u0 u1 u2 u3 u4 : Value) :
  (((((W.setCell ⟨g, 0, none⟩ u0).setCell ⟨g, 1, none⟩ u1).setCell ⟨g, 2, none⟩ u2).setCell ⟨g, 3, none⟩ u3).setCell ⟨g, 4, none⟩ u4).heap[g]? = some (.cells #[u0, u1, u2, u3, u4] t (0, 0)) :=
 blk_put (blk_put (blk_put (blk_put (blk_put h 0 u0 rfl) 1 u1 rfl) 2 u2 rfl) 3 u3 rfl) 4 u4 rfl
theorem ra_Parse.blkfar5 {g g' : Nat} {W : World} {t : TypeId} {cs : Array Value} (h : W.heap[g']? = some (.cells cs t (0, 0))) (hne : g' ≠ g) (u0 u1 u2 u3 u4 : Value) :
  (((((W.setCell ⟨g, 0, none⟩ u0).setCell ⟨g, 1, none⟩ u1).setCell ⟨g, 2, none⟩ u2).setCell ⟨g, 3, none⟩ u3).setCell ⟨g, 4, none⟩ u4).heap[g']? = some (.cells cs t (0, 0)) :=
 blk_far (blk_far (blk_far (blk_far (blk_far h hne _) hne _) hne _) hne _) hne _
theorem ra_Parse.calls (k : Nat) (a0 : ByteArray) (r1 : ByteArray) (r2 : Int) (r3 : List S75) (r4 : List S77) (r5 : List S42) (r6 r7 : Int) (w : World) (h : ra_Parse.f k a0 = some (r1, r2, r3, r4, r5, r6, r7)) :
  Calls Try.prog 9 #[.string a0] w fun e w' => ∃ v2_ v3_ v4_ : Value, e = .returned (.tuple #[.agg #[.string r1, .int .i64 r2, v2_, v3_, v4_], .int .i64 r6, .int .i64 r7]) ∧ Kd.R k75 75 w' w.heap.size (fun _ => True) v2_ r3 ∧ Kd.R k77 77 w' w.heap.size (fun _ => True) v3_ r4 ∧ Kd.R k42 42 w' w.heap.size (fun _ => True) v4_ r5 ∧ Below w.heap.size w w' := by
 have hu61 := Try.underlying36
 have hu98 := Try.underlying57
 unfold ra_Parse.f at h
 obtain ⟨⟨l, e1, at1⟩, hl, h⟩ := Option.bind_eq_some_iff.mp h
 dsimp only at h
 have HL := za hl
 clear hl
 by_cases c1 : e1 = 0
 ·
  rw [if_pos c1] at h
  subst c1
  obtain ⟨⟨q1, q2, q3, q4, q5, q6, q7, q8, q9⟩, hm, hh⟩ := Option.bind_eq_some_iff.mp h
  dsimp only at hh
  have HM := za hm
  clear h hm
  by_cases c2 : q8 = 0
  case' pos =>
   rw [if_pos c2] at hh
   simp only [Option.some.injEq, Prod.mk.injEq] at hh
   obtain ⟨rfl, rfl, rfl, rfl, rfl, rfl, rfl⟩ := hh
   have c2b : (q8 != 0) = false := bne_eq_false_iff_eq.mpr c2
  case' neg =>
   rw [if_neg c2] at hh
   simp only [Option.some.injEq, Prod.mk.injEq] at hh
   obtain ⟨rfl, rfl, rfl, rfl, rfl, rfl, rfl⟩ := hh
   have c2b : (q8 != 0) = true := bne_iff_ne.mpr c2
  all_goals (clear c2)
  all_goals
   go_enter Try.func9, Try.ntmps9
   go_wp2_with ((with_reducible refine gate_dst (N := 2) rfl ?_); refine box_event ?hg (N := 2) ?hd (cs := #[.string (⟨#[]⟩ : ByteArray), .int .i64 0, .slice none 0 0, .slice none 0 0, .slice none 0 0]) (t := 36) ?hr ?_; (case hd => rfl); (case hg => rfl); (case hr => exact zq39); intro ga hga w1 hba hb1; have HGA := za hga; have HBA := za hba; have HB1 := za hb1; clear hga hba hb1)
   refine (ra_Lex.calls k a0 l 0 at1 _ HL.out).mono ?_
   rintro e w2 ⟨v2, rfl, ho2, hb2⟩
   obtain ⟨A2, C2, rfl⟩ := Kd.R_slice ho2
   have HO2 := za ho2
   have HBA2 := za (blk_below HBA.out hb2)
   have HB2 := za (below_step HB1.out hb2)
   have HGE := za (Nat.le_of_eq HGA.out.symm)
   have HLT2 := za (blk_lt HBA2.out)
   clear ho2 hb2 HB1 HBA
   go_wp2_with ((with_reducible refine gate_dst (N := 23) rfl ?_); refine box_event ?hg (N := 23) ?hd (cs := #[.slice A2 l.length C2, .int .i64 0, .int .i64 0, .int .i64 0, .int .i64 0]) (t := 57) ?hr ?_; (case hd => rfl); (case hg => rfl); (case hr => exact zq39); intro gr hgr w3 hbr hb3; have HGR := za hgr; have HBR := za hbr; have HB3 := za hb3; clear hgr hbr hb3)
   refine (rr_module.calls k gr l 0 0 0 0 q1 q2 q3 q4 q5 q6 q7 q8 q9 w2 _ ⟨A2, C2, HBR.out, Nat.le_of_eq HGR.out.symm, (Kd.R_reads' HO2.out).2.2⟩ HB3.out HM.out).mono ?_
   rintro e w4 ⟨x2, x3, x4, rfl, hx2, hx3, hx4, hi, hb4, hk⟩
   have HNE : Aside0 (ga ≠ gr) := ⟨by have h1 := HLT2.out; have h2 := HGR.out; omega⟩
   have HLE : Aside0 (w.heap.size ≤ w3.heap.size) := ⟨Nat.le_trans (below_size HB2.out) (below_size HB3.out)⟩
   have HX2 := za (Kd.R_lower hx2 HLE.out)
   have HX3 := za (Kd.R_lower hx3 HLE.out)
   have HX4 := za (Kd.R_lower hx4 HLE.out)
   obtain ⟨A5, C5, HBR4, _, _⟩ := hi
   have HBA4 := za (KeepBut.blk hk (blk_below HBA2.out HB3.out) HNE.out (by simp))
   have HR4 := za HBR4
   have HB4 := za (below_step HB2.out hb4)
   obtain ⟨B2, D2, e2⟩ := Kd.R_slice hx2
   obtain ⟨B3, D3, e3⟩ := Kd.R_slice hx3
   obtain ⟨B4, D4, e4⟩ := Kd.R_slice hx4
   subst e2 e3 e4
   clear hx2 hx3 hx4 HBR4 hb4 hk HB3 HBR HO2 HBA2 HB2
   go_wp2_with ((with_reducible refine gate_dst (N := 9) rfl ?_); refine box_event ?hg (N := 9) ?hd (cs := #[.string (⟨#[]⟩ : ByteArray), .int .i64 0, .slice none 0 0, .slice none 0 0, .slice none 0 0]) (t := 36) ?hr ?_; (case hd => rfl); (case hg => rfl); (case hr => exact zq39); intro gm hgm w5 hbm hb5; have HGM := za hgm; have HBM := za hbm; have HB5 := za hb5; clear hgm hbm hb5; have HNM : Aside0 (ga ≠ gm ∧ gr ≠ gm) := ⟨by have h1 := HGM.out; have h2 := blk_lt HBA4.out; have h3 := blk_lt HR4.out; omega⟩; have hn1 := HNM.out.1; have hn2 := HNM.out.2; have hn3 := HNE.out; have hn4 := Ne.symm HNM.out.1; have hn5 := Ne.symm HNM.out.2; have hn6 := Ne.symm HNE.out; have HBA5 := za (blk_below HBA4.out HB5.out); have HR5 := za (blk_below HR4.out HB5.out); have HBB := za (below_step HB4.out HB5.out); have hc0 := (blk_cell HBM.out 0).trans rfl; have hc1 := (blk_cell HBM.out 1).trans rfl; have hc2 := (blk_cell HBM.out 2).trans rfl; have hc3 := (blk_cell HBM.out 3).trans rfl; have hc4 := (blk_cell HBM.out 4).trans rfl; have hf0 := blk_frozen HBM.out 0; have hf1 := blk_frozen HBM.out 1; have hf2 := blk_frozen HBM.out 2; have hf3 := blk_frozen HBM.out 3; have hf4 := blk_frozen HBM.out 4; have ha0 := (blk_cell HBA5.out 0).trans rfl; have ha1 := (blk_cell HBA5.out 1).trans rfl; have ha2 := (blk_cell HBA5.out 2).trans rfl; have ha3 := (blk_cell HBA5.out 3).trans rfl; have ha4 := (blk_cell HBA5.out 4).trans rfl; have hg0 := blk_frozen HBA5.out 0; have hg1 := blk_frozen HBA5.out 1; have hg2 := blk_frozen HBA5.out 2; have hg3 := blk_frozen HBA5.out 3; have hg4 := blk_frozen HBA5.out 4; have hr3 := (blk_cell HR5.out 3).trans rfl; have hr4 := (blk_cell HR5.out 4).trans rfl)
   try go_region
   try go_wp2
  ·
   refine bodyPost_ret (results_ctt rfl _ _ ga 36 #[.string (⟨#[]⟩ : ByteArray), .int .i64 0, .slice none 0 0, .slice none 0 0, .slice none 0 0] (0, 0) _ rfl (by (with_reducible repeat (first | refine blk_drewN ?_ _ | refine blk_drew ?_)); exact ra_Parse.blk5 (ra_Parse.blkfar5 HBA5.out hn1 _ _ _ _ _) _ _ _ _ _) hu61 rfl zq18) rfl ?_
   exact ⟨_, _, _, rfl, Kd.R_nil _ _ _ _ _, Kd.R_nil _ _ _ _ _, Kd.R_nil _ _ _ _ _, by (with_reducible repeat (first | apply pw_below_drewN | apply below_drew1)); exact ra_Parse.below5 (ra_Parse.below5 HBB.out (by have h1 := HGM.out; have h2 := below_size HB4.out; omega) _ _ _ _ _) HGE.out _ _ _ _ _⟩
  ·
   refine bodyPost_ret (results_ctt rfl _ _ ga 36 #[.string q1, .int .i64 q2, .slice B2 q3.length D2, .slice B3 q4.length D3, .slice B4 q5.length D4] (0, 0) _ rfl (ra_Parse.blk5 (ra_Parse.blkfar5 HBA5.out hn1 _ _ _ _ _) _ _ _ _ _) hu61 rfl zq18) rfl ?_
   exact ⟨_, _, _, rfl, Kd.R_mono (ra_Parse.far5 (ra_Parse.far5 (Kd.R_types (Kd.R_types (Kd.R_below HX2.out HB5.out) HBA5.out (by decide)) HBM.out (by decide)) (fun _ hk => hk.2) _ _ _ _ _) (fun _ hk => hk.1.2) _ _ _ _ _) (fun _ _ => trivial), Kd.R_mono (ra_Parse.far5 (ra_Parse.far5 (Kd.R_types (Kd.R_types (Kd.R_below HX3.out HB5.out) HBA5.out (by decide)) HBM.out (by decide)) (fun _ hk => hk.2) _ _ _ _ _) (fun _ hk => hk.1.2) _ _ _ _ _) (fun _ _ => trivial), Kd.R_mono (ra_Parse.far5 (ra_Parse.far5 (Kd.R_types (Kd.R_types (Kd.R_below HX4.out HB5.out) HBA5.out (by decide)) HBM.out (by decide)) (fun _ hk => hk.2) _ _ _ _ _) (fun _ hk => hk.1.2) _ _ _ _ _) (fun _ _ => trivial), ra_Parse.below5 (ra_Parse.below5 HBB.out (by have h1 := HGM.out; have h2 := below_size HB4.out; omega) _ _ _ _ _) HGE.out _ _ _ _ _⟩
 ·
  rw [if_neg c1] at h
  simp only [Option.some.injEq, Prod.mk.injEq] at h
  obtain ⟨rfl, rfl, rfl, rfl, rfl, rfl, rfl⟩ := h
  have c1b : (e1 != 0) = true := bne_iff_ne.mpr c1
  clear c1
  go_enter Try.func9, Try.ntmps9
  go_wp2_with ((with_reducible refine gate_dst (N := 2) rfl ?_); refine box_event ?hg (N := 2) ?hd (cs := #[.string (⟨#[]⟩ : ByteArray), .int .i64 0, .slice none 0 0, .slice none 0 0, .slice none 0 0]) (t := 36) ?hr ?_; (case hd => rfl); (case hg => rfl); (case hr => exact zq39); intro ga hga w1 hba hb1; have HGA := za hga; have HBA := za hba; have HB1 := za hb1; clear hga hba hb1)
  refine (ra_Lex.calls k a0 l e1 at1 _ HL.out).mono ?_
  rintro e w2 ⟨v2, rfl, ho2, hb2⟩
  obtain ⟨A2, C2, rfl⟩ := Kd.R_slice ho2
  have HBA2 := za (blk_below HBA.out hb2)
  have HB2 := za (below_step HB1.out hb2)
  have HGE := za (Nat.le_of_eq HGA.out.symm)
  have ha0 := (blk_cell HBA2.out 0).trans rfl
  have ha1 := (blk_cell HBA2.out 1).trans rfl
  have ha2 := (blk_cell HBA2.out 2).trans rfl
  have ha3 := (blk_cell HBA2.out 3).trans rfl
  have ha4 := (blk_cell HBA2.out 4).trans rfl
  have hg0 := blk_frozen HBA2.out 0
  have hg1 := blk_frozen HBA2.out 1
  have hg2 := blk_frozen HBA2.out 2
  have hg3 := blk_frozen HBA2.out 3
  have hg4 := blk_frozen HBA2.out 4
  clear ho2 hb2 HB1 HBA
  go_wp2
  refine bodyPost_ret (results_ctt rfl _ _ ga 36 #[.string (⟨#[]⟩ : ByteArray), .int .i64 0, .slice none 0 0, .slice none 0 0, .slice none 0 0] (0, 0) _ rfl (ra_Parse.blk5 HBA2.out _ _ _ _ _) hu61 rfl zq18) rfl ?_
  exact ⟨_, _, _, rfl, Kd.R_nil _ _ _ _ _, Kd.R_nil _ _ _ _ _, Kd.R_nil _ _ _ _ _, ra_Parse.below5 HB2.out HGE.out _ _ _ _ _⟩
def rl_Expr.f (k : Nat) (a0 : ByteArray) : Option ((List (S48)) × Bool) := if 43 + a0.size ≤ 9223372036854775807 then (if ((⟨#[109, 111, 100, 117, 108, 101, 32, 109, 59, 32, 112, 114, 111, 99, 32, 112, 40, 41, 32, 112, 99, 32, 97, 32, 117, 115, 101, 115, 32, 123, 125, 32, 123, 32, 114, 101, 115, 117, 108, 116, 32, 61, 32]⟩ : ByteArray) ++ a0).size + 3 ≤ 9223372036854775807 then ((ra_Parse.f k (((⟨#[109, 111, 100, 117, 108, 101, 32, 109, 59, 32, 112, 114, 111, 99, 32, 112, 40, 41, 32, 112, 99, 32, 97, 32, 117, 115, 101, 115, 32, 123, 125, 32, 123, 32, 114, 101, 115, 117, 108, 116, 32, 61, 32]⟩ : ByteArray) ++ a0) ++ (⟨#[59, 32, 125]⟩ : ByteArray))).bind fun bt961 => (if bt961.2.2.2.2.2.1 = 0 then (if (bt961.2.2.2.2.1.length : Int) = 1 then (if 0 < (bt961.2.2.2.2.1.length : Int) then (if (((rd_T42 bt961.2.2.2.2.1 0).f6).length : Int) = 1 then (if (a0.size : Int) > 600 then (some (([] : List (S48)), false)) else (if 0 < (((rd_T42 bt961.2.2.2.2.1 0).f6).length : Int) then (some ((rd_T45 ((rd_T42 bt961.2.2.2.2.1 0).f6) 0).f8, true)) else (none))) else (some (([] : List (S48)), false))) else (none)) else (some (([] : List (S48)), false))) else (some (([] : List (S48)), false)))) else (none)) else (none)
theorem rl_Expr.mono : ∀ a0 k, LeO (rl_Expr.f k a0) (rl_Expr.f (k + 1) a0) := by
 intro a0 k
 unfold rl_Expr.f
 repeat' with_reducible first | apply ra_Parse.mono | exact LeO.refl _ | exact LeO.none _ | refine LeO.ite ?_ ?_ | refine LeO.bind ?_ (fun _ => ?_)
theorem rl_Expr.calls (k : Nat) (a0 : ByteArray) (r1 : List (S48)) (r2 : Bool) (w : World) (h : rl_Expr.f k a0 = some (r1, r2)) :
  Calls Try.prog 4 #[.string a0] w fun e w' => ∃ v0_ : Value, e = .returned (.tuple #[v0_, .bool r2]) ∧ Kd.R k48 48 w' w.heap.size (fun _ => True) v0_ r1 ∧ Below w.heap.size w w' := by
 have hu36 := Try.underlying36
 have HB := za (Below.refl w.heap.size w)
 have H : (if 43 + a0.size ≤ 9223372036854775807 then (if ((⟨#[109, 111, 100, 117, 108, 101, 32, 109, 59, 32, 112, 114, 111, 99, 32, 112, 40, 41, 32, 112, 99, 32, 97, 32, 117, 115, 101, 115, 32, 123, 125, 32, 123, 32, 114, 101, 115, 117, 108, 116, 32, 61, 32]⟩ : ByteArray) ++ a0).size + 3 ≤ 9223372036854775807 then ((ra_Parse.f k (((⟨#[109, 111, 100, 117, 108, 101, 32, 109, 59, 32, 112, 114, 111, 99, 32, 112, 40, 41, 32, 112, 99, 32, 97, 32, 117, 115, 101, 115, 32, 123, 125, 32, 123, 32, 114, 101, 115, 117, 108, 116, 32, 61, 32]⟩ : ByteArray) ++ a0) ++ (⟨#[59, 32, 125]⟩ : ByteArray))).bind fun bt961 => (if bt961.2.2.2.2.2.1 = 0 then (if (bt961.2.2.2.2.1.length : Int) = 1 then (if 0 < (bt961.2.2.2.2.1.length : Int) then (if (((rd_T42 bt961.2.2.2.2.1 0).f6).length : Int) = 1 then (if (a0.size : Int) > 600 then (some (([] : List (S48)), false)) else (if 0 < (((rd_T42 bt961.2.2.2.2.1 0).f6).length : Int) then (some ((rd_T45 ((rd_T42 bt961.2.2.2.2.1 0).f6) 0).f8, true)) else (none))) else (some (([] : List (S48)), false))) else (none)) else (some (([] : List (S48)), false))) else (some (([] : List (S48)), false)))) else (none)) else (none)) = some (r1, r2) := h
 clear h
 by_cases c2 : 43 + a0.size ≤ 9223372036854775807
 ·
  rw [if_pos c2] at H
  have c2b0 := eq_true c2
  have c2b1 : decide (43 + a0.size ≤ 9223372036854775807) = true := decide_eq_true c2
  try have c2b2 : (9223372036854775807 < 43 + a0.size) = False := eq_false (Nat.not_lt.2 c2)
  by_cases c3 : ((⟨#[109, 111, 100, 117, 108, 101, 32, 109, 59, 32, 112, 114, 111, 99, 32, 112, 40, 41, 32, 112, 99, 32, 97, 32, 117, 115, 101, 115, 32, 123, 125, 32, 123, 32, 114, 101, 115, 117, 108, 116, 32, 61, 32]⟩ : ByteArray) ++ a0).size + 3 ≤ 9223372036854775807
  ·
   rw [if_pos c3] at H
   have c3b0 := eq_true c3
   have c3b1 : decide (((⟨#[109, 111, 100, 117, 108, 101, 32, 109, 59, 32, 112, 114, 111, 99, 32, 112, 40, 41, 32, 112, 99, 32, 97, 32, 117, 115, 101, 115, 32, 123, 125, 32, 123, 32, 114, 101, 115, 117, 108, 116, 32, 61, 32]⟩ : ByteArray) ++ a0).size + 3 ≤ 9223372036854775807) = true := decide_eq_true c3
   try have c3b2 : (9223372036854775807 < ((⟨#[109, 111, 100, 117, 108, 101, 32, 109, 59, 32, 112, 114, 111, 99, 32, 112, 40, 41, 32, 112, 99, 32, 97, 32, 117, 115, 101, 115, 32, 123, 125, 32, 123, 32, 114, 101, 115, 117, 108, 116, 32, 61, 32]⟩ : ByteArray) ++ a0).size + 3) = False := eq_false (Nat.not_lt.2 c3)
   have c3b3 : (9223372036854775807 < 43 + a0.size + 3) = False := by have h_ := c3b2; simp only [ByteArray.size_append] at h_; exact h_
   replace H := Option.bind_eq_some_iff.mp H
   obtain ⟨⟨t961, t962, t963, t966, t969, t972, t973⟩, A40, H⟩ := H
   (try dsimp only at H)
   have A4 := za A40
   clear A40
   by_cases c5 : t972 = 0
   ·
    rw [if_pos c5] at H
    have c5b0 := beq_iff_eq.mpr c5
    have c5b1 := bne_eq_false_iff_eq.mpr c5
    clear c5
    by_cases c6 : (t969.length : Int) = 1
    ·
     rw [if_pos c6] at H
     have c6b0 := beq_iff_eq.mpr c6
     have c6b1 := bne_eq_false_iff_eq.mpr c6
     clear c6
     by_cases c7 : 0 < (t969.length : Int)
     ·
      rw [if_pos c7] at H
      have c7b0 : decide (0 < (t969.length : Int)) = true := decide_eq_true c7
      have c7b1 : decide (0 < t969.length) = true := decide_eq_true (by omega)
      clear c7
      by_cases c8 : (((rd_T42 t969 0).f6).length : Int) = 1
      ·
       rw [if_pos c8] at H
       have c8b0 := beq_iff_eq.mpr c8
       have c8b1 := bne_eq_false_iff_eq.mpr c8
       clear c8
       by_cases c9 : (a0.size : Int) > 600
       ·
        rw [if_pos c9] at H
        have c9b0 : decide (600 < (a0.size : Int)) = true := decide_eq_true c9
        have c9b1 : decide (600 < a0.size) = true := decide_eq_true (by omega)
        clear c9
        simp only [Option.some.injEq, Prod.mk.injEq] at H
        obtain ⟨rfl, rfl⟩ := H
        go_enter Try.func4, Try.ntmps4
        go_wp2_with (first | ((with_reducible refine gate_callee (f := 9) rfl ?_); refine goesL_ (some 11) rfl rfl Try.func9 zq18 rfl #[.string (((⟨#[109, 111, 100, 117, 108, 101, 32, 109, 59, 32, 112, 114, 111, 99, 32, 112, 40, 41, 32, 112, 99, 32, 97, 32, 117, 115, 101, 115, 32, 123, 125, 32, 123, 32, 114, 101, 115, 117, 108, 116, 32, 61, 32]⟩ : ByteArray) ++ a0) ++ (⟨#[59, 32, 125]⟩ : ByteArray))] rfl zq1 ?_; (with_reducible refine (ra_Parse.calls k (((⟨#[109, 111, 100, 117, 108, 101, 32, 109, 59, 32, 112, 114, 111, 99, 32, 112, 40, 41, 32, 112, 99, 32, 97, 32, 117, 115, 101, 115, 32, 123, 125, 32, 123, 32, 114, 101, 115, 117, 108, 116, 32, 61, 32]⟩ : ByteArray) ++ a0) ++ (⟨#[59, 32, 125]⟩ : ByteArray)) t961 t962 t963 t966 t969 t972 t973 _ A4.out).mono ?_); rintro e w10 ⟨v964, v967, v970, rfl, ho0, ho1, ho2, hb⟩; refine ⟨_, rfl, ?_⟩; have HO965 := za (Kd.R_lower ho0 (below_size zq4)); have HO968 := za (Kd.R_lower ho1 (below_size zq4)); have HO971 := za (Kd.R_lower ho2 (below_size zq4)); replace HB := za (below_step zq4 hb)) | ((with_reducible refine gate_dst (N := 4) rfl ?_); (try (refine gate_guard (by rfl) ?_; dsimp only)); refine box_event ?hg (N := 4) ?hd (cs := #[.string (⟨#[]⟩ : ByteArray), .int .i64 0, .slice none 0 0, .slice none 0 0, .slice none 0 0]) (t := 36) ?hr ?_; (case hd => rfl); (case hg => rfl); (case hr => exact zq39); intro gb974 hg w11 hbox hb; replace HO965 := za (Kd.R_below (zr HO965.out) hb); replace HO968 := za (Kd.R_below (zr HO968.out) hb); replace HO971 := za (Kd.R_below (zr HO971.out) hb); have BK974 := za (hbox); have GW974 := za ((by rw [hg]; exact (below_size zq4) : w.heap.size ≤ gb974)); have GE974 := za ((by rw [hg]; exact (below_size zq4) : w.heap.size ≤ gb974)); replace HB := za (below_step zq4 hb); clear hb hbox hg; obtain ⟨hcz12_0, hcz12_1, hcz12_2, hcz12_3, hcz12_4⟩ := zc5 BK974.out; obtain ⟨hfz12_0, hfz12_1, hfz12_2, hfz12_3, hfz12_4⟩ := zf5 BK974.out; obtain ⟨Ao13, co13, eo13⟩ := Kd.R_slice HO965.out; subst eo13; obtain ⟨Ao14, co14, eo14⟩ := Kd.R_slice HO968.out; subst eo14; obtain ⟨Ao15, co15, eo15⟩ := Kd.R_slice HO971.out; subst eo15) | ((with_reducible refine gate_store (t := 36) (p := 4) rfl ?_); refine store_event (t := 36) (p := 4) (v := ?vo_w16) (w1 := (((((w11.setCell ⟨gb974, 0, none⟩ (.string t961)).setCell ⟨gb974, 1, none⟩ (.int .i64 t962)).setCell ⟨gb974, 2, none⟩ (.slice Ao13 t963.length co13)).setCell ⟨gb974, 3, none⟩ (.slice Ao14 t966.length co14)).setCell ⟨gb974, 4, none⟩ (.slice Ao15 t969.length co15))) ?hg ?ho ?hn ?hr ?_; (case ho => rfl); (case hg => rfl); (case hn => rfl); (case hr => exact zq39); intro w16 hw; replace HO965 : Aside0 (Kd.R k75 75 w16 w.heap.size (fun _ => True) (.slice Ao13 t963.length co13) t963) := ⟨(by rw [hw]; exact (by (with_reducible repeat (first | apply Kd.R_alloc | apply Kd.R_drewN | apply Kd.R_drew)); exact Kd.R_mono (Kd.R_far (p := ⟨gb974, 4, none⟩) (Kd.R_far (p := ⟨gb974, 3, none⟩) (Kd.R_far (p := ⟨gb974, 2, none⟩) (Kd.R_far (p := ⟨gb974, 1, none⟩) (Kd.R_far (p := ⟨gb974, 0, none⟩) (Kd.R_types HO965.out BK974.out (by decide)) (fun _ hk => hk.2) (.string t961)) (fun _ hk => hk.2) (.int .i64 t962)) (fun _ hk => hk.2) (.slice Ao13 t963.length co13)) (fun _ hk => hk.2) (.slice Ao14 t966.length co14)) (fun _ hk => hk.2) (.slice Ao15 t969.length co15)) (fun _ hk => trivial)))⟩; replace HO968 : Aside0 (Kd.R k77 77 w16 w.heap.size (fun _ => True) (.slice Ao14 t966.length co14) t966) := ⟨(by rw [hw]; exact (by (with_reducible repeat (first | apply Kd.R_alloc | apply Kd.R_drewN | apply Kd.R_drew)); exact Kd.R_mono (Kd.R_far (p := ⟨gb974, 4, none⟩) (Kd.R_far (p := ⟨gb974, 3, none⟩) (Kd.R_far (p := ⟨gb974, 2, none⟩) (Kd.R_far (p := ⟨gb974, 1, none⟩) (Kd.R_far (p := ⟨gb974, 0, none⟩) (Kd.R_types HO968.out BK974.out (by decide)) (fun _ hk => hk.2) (.string t961)) (fun _ hk => hk.2) (.int .i64 t962)) (fun _ hk => hk.2) (.slice Ao13 t963.length co13)) (fun _ hk => hk.2) (.slice Ao14 t966.length co14)) (fun _ hk => hk.2) (.slice Ao15 t969.length co15)) (fun _ hk => trivial)))⟩; replace HO971 : Aside0 (Kd.R k42 42 w16 w.heap.size (fun _ => True) (.slice Ao15 t969.length co15) t969) := ⟨(by rw [hw]; exact (by (with_reducible repeat (first | apply Kd.R_alloc | apply Kd.R_drewN | apply Kd.R_drew)); exact Kd.R_mono (Kd.R_far (p := ⟨gb974, 4, none⟩) (Kd.R_far (p := ⟨gb974, 3, none⟩) (Kd.R_far (p := ⟨gb974, 2, none⟩) (Kd.R_far (p := ⟨gb974, 1, none⟩) (Kd.R_far (p := ⟨gb974, 0, none⟩) (Kd.R_types HO971.out BK974.out (by decide)) (fun _ hk => hk.2) (.string t961)) (fun _ hk => hk.2) (.int .i64 t962)) (fun _ hk => hk.2) (.slice Ao13 t963.length co13)) (fun _ hk => hk.2) (.slice Ao14 t966.length co14)) (fun _ hk => hk.2) (.slice Ao15 t969.length co15)) (fun _ hk => trivial)))⟩; replace BK974 : Aside0 (w16.heap[gb974]? = some (.cells #[.string t961, .int .i64 t962, .slice Ao13 t963.length co13, .slice Ao14 t966.length co14, .slice Ao15 t969.length co15] 36 (0, 0))) := ⟨(by rw [hw]; exact (by (with_reducible repeat (first | refine blk_drewN ?_ _ | refine blk_drew ?_ | refine blk_alloc ?_ _)); refine blk_put (cs := #[.string t961, .int .i64 t962, .slice Ao13 t963.length co13, .slice Ao14 t966.length co14, .slice none 0 0]) ?_ 4 _ rfl; (with_reducible repeat (first | refine blk_drewN ?_ _ | refine blk_drew ?_ | refine blk_alloc ?_ _)); refine blk_put (cs := #[.string t961, .int .i64 t962, .slice Ao13 t963.length co13, .slice none 0 0, .slice none 0 0]) ?_ 3 _ rfl; (with_reducible repeat (first | refine blk_drewN ?_ _ | refine blk_drew ?_ | refine blk_alloc ?_ _)); refine blk_put (cs := #[.string t961, .int .i64 t962, .slice none 0 0, .slice none 0 0, .slice none 0 0]) ?_ 2 _ rfl; (with_reducible repeat (first | refine blk_drewN ?_ _ | refine blk_drew ?_ | refine blk_alloc ?_ _)); refine blk_put (cs := #[.string t961, .int .i64 0, .slice none 0 0, .slice none 0 0, .slice none 0 0]) ?_ 1 _ rfl; (with_reducible repeat (first | refine blk_drewN ?_ _ | refine blk_drew ?_ | refine blk_alloc ?_ _)); refine blk_put (cs := #[.string (⟨#[]⟩ : ByteArray), .int .i64 0, .slice none 0 0, .slice none 0 0, .slice none 0 0]) ?_ 0 _ rfl; (with_reducible repeat (first | refine blk_drewN ?_ _ | refine blk_drew ?_ | refine blk_alloc ?_ _)); exact BK974.out))⟩; replace HB : Aside0 (Below w.heap.size w w16) := ⟨(by rw [hw]; exact zq43)⟩; clear hw; obtain ⟨hcz17_0, hcz17_1, hcz17_2, hcz17_3, hcz17_4⟩ := zc5 BK974.out; obtain ⟨hfz17_0, hfz17_1, hfz17_2, hfz17_3, hfz17_4⟩ := zf5 BK974.out; have p975 : 0 ≤ (0 : Int) := (by omega); have q975 : 0 < (t969.length : Int) := of_decide_eq_true zq11; obtain ⟨ad975, A975_1, c975_1, A975_5, c975_5, A975_6, c975_6, e975, hx975_0, hx975_1, hx975_2, hx975_3, hx975_4, hx975_5, hx975_6, hx975_7, hl975_1, hi975_1, hl975_5, hi975_5, hl975_6, hi975_6⟩ := at_T42 (Kd.R_reads' HO971.out).2.2 0 p975 q975; cases e975; obtain ⟨ce975, hce975, hMe975, hcc975⟩ := Kd.R_get HO971.out z42 0 p975 (by first | exact q975 | exact of_decide_eq_true zq11 | (have e_ := (Kd.R_reads' HO971.out).1; omega)); obtain ⟨ve975_1, ve975_5, ve975_6, rfl, ge975_1, ge975_5, ge975_6⟩ := k42_openM hMe975; have hv975_1 := hcc975 1 _ rfl; rw [add_field _ _ 1 (by omega)] at hv975_1; replace hv975_1 := Option.some.inj (hv975_1.symm.trans hx975_1); rw [hv975_1] at ge975_1; have HL975_1 := za (show Kd.R k85 85 _ _ _ _ ((rd_T42 t969 0).f1) from ge975_1); clear hv975_1 ge975_1; have hv975_5 := hcc975 5 _ rfl; rw [add_field _ _ 5 (by omega)] at hv975_5; replace hv975_5 := Option.some.inj (hv975_5.symm.trans hx975_5); rw [hv975_5] at ge975_5; have HL975_5 := za (show Kd.R Kd.string 9 _ _ _ _ ((rd_T42 t969 0).f5) from ge975_5); clear hv975_5 ge975_5; have hv975_6 := hcc975 6 _ rfl; rw [add_field _ _ 6 (by omega)] at hv975_6; replace hv975_6 := Option.some.inj (hv975_6.symm.trans hx975_6); rw [hv975_6] at ge975_6; have HL975_6 := za (show Kd.R k45 45 _ _ _ _ ((rd_T42 t969 0).f6) from ge975_6); clear hv975_6 ge975_6; clear hcc975 hce975; have qi975 : (0 < t969.length) = True := eq_true (by omega); (try rw [show ((0 : Int)).toNat = 0 from rfl] at hx975_0); (try rw [show 0 * 8 = 0 from rfl] at hx975_0); (try rw [Addr.add_zero'] at hx975_0); (try rw [show ((0 : Int)).toNat = 0 from rfl] at hx975_1); (try rw [show 0 * 8 = 0 from rfl] at hx975_1); (try rw [Addr.add_zero'] at hx975_1); (try rw [show ((0 : Int)).toNat = 0 from rfl] at hx975_2); (try rw [show 0 * 8 = 0 from rfl] at hx975_2); (try rw [Addr.add_zero'] at hx975_2); (try rw [show ((0 : Int)).toNat = 0 from rfl] at hx975_3); (try rw [show 0 * 8 = 0 from rfl] at hx975_3); (try rw [Addr.add_zero'] at hx975_3); (try rw [show ((0 : Int)).toNat = 0 from rfl] at hx975_4); (try rw [show 0 * 8 = 0 from rfl] at hx975_4); (try rw [Addr.add_zero'] at hx975_4); (try rw [show ((0 : Int)).toNat = 0 from rfl] at hx975_5); (try rw [show 0 * 8 = 0 from rfl] at hx975_5); (try rw [Addr.add_zero'] at hx975_5); (try rw [show ((0 : Int)).toNat = 0 from rfl] at hx975_6); (try rw [show 0 * 8 = 0 from rfl] at hx975_6); (try rw [Addr.add_zero'] at hx975_6); (try rw [show ((0 : Int)).toNat = 0 from rfl] at hx975_7); (try rw [show 0 * 8 = 0 from rfl] at hx975_7); (try rw [Addr.add_zero'] at hx975_7); have HR975_1 := za hi975_1; have HC975_1 := za hl975_1; clear hi975_1 hl975_1; have HR975_5 := za hi975_5; have HC975_5 := za hl975_5; clear hi975_5 hl975_5; have HR975_6 := za hi975_6; have HC975_6 := za hl975_6; clear hi975_6 hl975_6; replace p975 := eq_true p975; replace q975 := eq_true q975))
        go_ret2
        exact ⟨_, zq16, zq22, zq43⟩
       ·
        rw [if_neg c9] at H
        have c9b0 : decide (600 < (a0.size : Int)) = false := decide_eq_false c9
        have c9b1 : decide (600 < a0.size) = false := decide_eq_false (by omega)
        clear c9
        by_cases c18 : 0 < (((rd_T42 t969 0).f6).length : Int)
        ·
         rw [if_pos c18] at H
         have c18b0 : decide (0 < (((rd_T42 t969 0).f6).length : Int)) = true := decide_eq_true c18
         have c18b1 : decide (0 < ((rd_T42 t969 0).f6).length) = true := decide_eq_true (by omega)
         clear c18
         simp only [Option.some.injEq, Prod.mk.injEq] at H
         obtain ⟨rfl, rfl⟩ := H
         go_enter Try.func4, Try.ntmps4
         go_wp2_with (first | ((with_reducible refine gate_callee (f := 9) rfl ?_); refine goesL_ (some 11) rfl rfl Try.func9 zq18 rfl #[.string (((⟨#[109, 111, 100, 117, 108, 101, 32, 109, 59, 32, 112, 114, 111, 99, 32, 112, 40, 41, 32, 112, 99, 32, 97, 32, 117, 115, 101, 115, 32, 123, 125, 32, 123, 32, 114, 101, 115, 117, 108, 116, 32, 61, 32]⟩ : ByteArray) ++ a0) ++ (⟨#[59, 32, 125]⟩ : ByteArray))] rfl zq1 ?_; (with_reducible refine (ra_Parse.calls k (((⟨#[109, 111, 100, 117, 108, 101, 32, 109, 59, 32, 112, 114, 111, 99, 32, 112, 40, 41, 32, 112, 99, 32, 97, 32, 117, 115, 101, 115, 32, 123, 125, 32, 123, 32, 114, 101, 115, 117, 108, 116, 32, 61, 32]⟩ : ByteArray) ++ a0) ++ (⟨#[59, 32, 125]⟩ : ByteArray)) t961 t962 t963 t966 t969 t972 t973 _ A4.out).mono ?_); rintro e w19 ⟨v964, v967, v970, rfl, ho0, ho1, ho2, hb⟩; refine ⟨_, rfl, ?_⟩; have HO965 := za (Kd.R_lower ho0 (below_size zq4)); have HO968 := za (Kd.R_lower ho1 (below_size zq4)); have HO971 := za (Kd.R_lower ho2 (below_size zq4)); replace HB := za (below_step zq4 hb)) | ((with_reducible refine gate_dst (N := 4) rfl ?_); (try (refine gate_guard (by rfl) ?_; dsimp only)); refine box_event ?hg (N := 4) ?hd (cs := #[.string (⟨#[]⟩ : ByteArray), .int .i64 0, .slice none 0 0, .slice none 0 0, .slice none 0 0]) (t := 36) ?hr ?_; (case hd => rfl); (case hg => rfl); (case hr => exact zq39); intro gb974 hg w20 hbox hb; replace HO965 := za (Kd.R_below (zr HO965.out) hb); replace HO968 := za (Kd.R_below (zr HO968.out) hb); replace HO971 := za (Kd.R_below (zr HO971.out) hb); have BK974 := za (hbox); have GW974 := za ((by rw [hg]; exact (below_size zq4) : w.heap.size ≤ gb974)); have GE974 := za ((by rw [hg]; exact (below_size zq4) : w.heap.size ≤ gb974)); replace HB := za (below_step zq4 hb); clear hb hbox hg; obtain ⟨hcz21_0, hcz21_1, hcz21_2, hcz21_3, hcz21_4⟩ := zc5 BK974.out; obtain ⟨hfz21_0, hfz21_1, hfz21_2, hfz21_3, hfz21_4⟩ := zf5 BK974.out; obtain ⟨Ao22, co22, eo22⟩ := Kd.R_slice HO965.out; subst eo22; obtain ⟨Ao23, co23, eo23⟩ := Kd.R_slice HO968.out; subst eo23; obtain ⟨Ao24, co24, eo24⟩ := Kd.R_slice HO971.out; subst eo24) | ((with_reducible refine gate_store (t := 36) (p := 4) rfl ?_); refine store_event (t := 36) (p := 4) (v := ?vo_w25) (w1 := (((((w20.setCell ⟨gb974, 0, none⟩ (.string t961)).setCell ⟨gb974, 1, none⟩ (.int .i64 t962)).setCell ⟨gb974, 2, none⟩ (.slice Ao22 t963.length co22)).setCell ⟨gb974, 3, none⟩ (.slice Ao23 t966.length co23)).setCell ⟨gb974, 4, none⟩ (.slice Ao24 t969.length co24))) ?hg ?ho ?hn ?hr ?_; (case ho => rfl); (case hg => rfl); (case hn => rfl); (case hr => exact zq39); intro w25 hw; replace HO965 : Aside0 (Kd.R k75 75 w25 w.heap.size (fun _ => True) (.slice Ao22 t963.length co22) t963) := ⟨(by rw [hw]; exact (by (with_reducible repeat (first | apply Kd.R_alloc | apply Kd.R_drewN | apply Kd.R_drew)); exact Kd.R_mono (Kd.R_far (p := ⟨gb974, 4, none⟩) (Kd.R_far (p := ⟨gb974, 3, none⟩) (Kd.R_far (p := ⟨gb974, 2, none⟩) (Kd.R_far (p := ⟨gb974, 1, none⟩) (Kd.R_far (p := ⟨gb974, 0, none⟩) (Kd.R_types HO965.out BK974.out (by decide)) (fun _ hk => hk.2) (.string t961)) (fun _ hk => hk.2) (.int .i64 t962)) (fun _ hk => hk.2) (.slice Ao22 t963.length co22)) (fun _ hk => hk.2) (.slice Ao23 t966.length co23)) (fun _ hk => hk.2) (.slice Ao24 t969.length co24)) (fun _ hk => trivial)))⟩; replace HO968 : Aside0 (Kd.R k77 77 w25 w.heap.size (fun _ => True) (.slice Ao23 t966.length co23) t966) := ⟨(by rw [hw]; exact (by (with_reducible repeat (first | apply Kd.R_alloc | apply Kd.R_drewN | apply Kd.R_drew)); exact Kd.R_mono (Kd.R_far (p := ⟨gb974, 4, none⟩) (Kd.R_far (p := ⟨gb974, 3, none⟩) (Kd.R_far (p := ⟨gb974, 2, none⟩) (Kd.R_far (p := ⟨gb974, 1, none⟩) (Kd.R_far (p := ⟨gb974, 0, none⟩) (Kd.R_types HO968.out BK974.out (by decide)) (fun _ hk => hk.2) (.string t961)) (fun _ hk => hk.2) (.int .i64 t962)) (fun _ hk => hk.2) (.slice Ao22 t963.length co22)) (fun _ hk => hk.2) (.slice Ao23 t966.length co23)) (fun _ hk => hk.2) (.slice Ao24 t969.length co24)) (fun _ hk => trivial)))⟩; replace HO971 : Aside0 (Kd.R k42 42 w25 w.heap.size (fun _ => True) (.slice Ao24 t969.length co24) t969) := ⟨(by rw [hw]; exact (by (with_reducible repeat (first | apply Kd.R_alloc | apply Kd.R_drewN | apply Kd.R_drew)); exact Kd.R_mono (Kd.R_far (p := ⟨gb974, 4, none⟩) (Kd.R_far (p := ⟨gb974, 3, none⟩) (Kd.R_far (p := ⟨gb974, 2, none⟩) (Kd.R_far (p := ⟨gb974, 1, none⟩) (Kd.R_far (p := ⟨gb974, 0, none⟩) (Kd.R_types HO971.out BK974.out (by decide)) (fun _ hk => hk.2) (.string t961)) (fun _ hk => hk.2) (.int .i64 t962)) (fun _ hk => hk.2) (.slice Ao22 t963.length co22)) (fun _ hk => hk.2) (.slice Ao23 t966.length co23)) (fun _ hk => hk.2) (.slice Ao24 t969.length co24)) (fun _ hk => trivial)))⟩; replace BK974 : Aside0 (w25.heap[gb974]? = some (.cells #[.string t961, .int .i64 t962, .slice Ao22 t963.length co22, .slice Ao23 t966.length co23, .slice Ao24 t969.length co24] 36 (0, 0))) := ⟨(by rw [hw]; exact (by (with_reducible repeat (first | refine blk_drewN ?_ _ | refine blk_drew ?_ | refine blk_alloc ?_ _)); refine blk_put (cs := #[.string t961, .int .i64 t962, .slice Ao22 t963.length co22, .slice Ao23 t966.length co23, .slice none 0 0]) ?_ 4 _ rfl; (with_reducible repeat (first | refine blk_drewN ?_ _ | refine blk_drew ?_ | refine blk_alloc ?_ _)); refine blk_put (cs := #[.string t961, .int .i64 t962, .slice Ao22 t963.length co22, .slice none 0 0, .slice none 0 0]) ?_ 3 _ rfl; (with_reducible repeat (first | refine blk_drewN ?_ _ | refine blk_drew ?_ | refine blk_alloc ?_ _)); refine blk_put (cs := #[.string t961, .int .i64 t962, .slice none 0 0, .slice none 0 0, .slice none 0 0]) ?_ 2 _ rfl; (with_reducible repeat (first | refine blk_drewN ?_ _ | refine blk_drew ?_ | refine blk_alloc ?_ _)); refine blk_put (cs := #[.string t961, .int .i64 0, .slice none 0 0, .slice none 0 0, .slice none 0 0]) ?_ 1 _ rfl; (with_reducible repeat (first | refine blk_drewN ?_ _ | refine blk_drew ?_ | refine blk_alloc ?_ _)); refine blk_put (cs := #[.string (⟨#[]⟩ : ByteArray), .int .i64 0, .slice none 0 0, .slice none 0 0, .slice none 0 0]) ?_ 0 _ rfl; (with_reducible repeat (first | refine blk_drewN ?_ _ | refine blk_drew ?_ | refine blk_alloc ?_ _)); exact BK974.out))⟩; replace HB : Aside0 (Below w.heap.size w w25) := ⟨(by rw [hw]; exact zq43)⟩; clear hw; obtain ⟨hcz26_0, hcz26_1, hcz26_2, hcz26_3, hcz26_4⟩ := zc5 BK974.out; obtain ⟨hfz26_0, hfz26_1, hfz26_2, hfz26_3, hfz26_4⟩ := zf5 BK974.out; have p975 : 0 ≤ (0 : Int) := (by omega); have q975 : 0 < (t969.length : Int) := of_decide_eq_true zq11; obtain ⟨ad975, A975_1, c975_1, A975_5, c975_5, A975_6, c975_6, e975, hx975_0, hx975_1, hx975_2, hx975_3, hx975_4, hx975_5, hx975_6, hx975_7, hl975_1, hi975_1, hl975_5, hi975_5, hl975_6, hi975_6⟩ := at_T42 (Kd.R_reads' HO971.out).2.2 0 p975 q975; cases e975; obtain ⟨ce975, hce975, hMe975, hcc975⟩ := Kd.R_get HO971.out z42 0 p975 (by first | exact q975 | exact of_decide_eq_true zq11 | (have e_ := (Kd.R_reads' HO971.out).1; omega)); obtain ⟨ve975_1, ve975_5, ve975_6, rfl, ge975_1, ge975_5, ge975_6⟩ := k42_openM hMe975; have hv975_1 := hcc975 1 _ rfl; rw [add_field _ _ 1 (by omega)] at hv975_1; replace hv975_1 := Option.some.inj (hv975_1.symm.trans hx975_1); rw [hv975_1] at ge975_1; have HL975_1 := za (show Kd.R k85 85 _ _ _ _ ((rd_T42 t969 0).f1) from ge975_1); clear hv975_1 ge975_1; have hv975_5 := hcc975 5 _ rfl; rw [add_field _ _ 5 (by omega)] at hv975_5; replace hv975_5 := Option.some.inj (hv975_5.symm.trans hx975_5); rw [hv975_5] at ge975_5; have HL975_5 := za (show Kd.R Kd.string 9 _ _ _ _ ((rd_T42 t969 0).f5) from ge975_5); clear hv975_5 ge975_5; have hv975_6 := hcc975 6 _ rfl; rw [add_field _ _ 6 (by omega)] at hv975_6; replace hv975_6 := Option.some.inj (hv975_6.symm.trans hx975_6); rw [hv975_6] at ge975_6; have HL975_6 := za (show Kd.R k45 45 _ _ _ _ ((rd_T42 t969 0).f6) from ge975_6); clear hv975_6 ge975_6; clear hcc975 hce975; have qi975 : (0 < t969.length) = True := eq_true (by omega); (try rw [show ((0 : Int)).toNat = 0 from rfl] at hx975_0); (try rw [show 0 * 8 = 0 from rfl] at hx975_0); (try rw [Addr.add_zero'] at hx975_0); (try rw [show ((0 : Int)).toNat = 0 from rfl] at hx975_1); (try rw [show 0 * 8 = 0 from rfl] at hx975_1); (try rw [Addr.add_zero'] at hx975_1); (try rw [show ((0 : Int)).toNat = 0 from rfl] at hx975_2); (try rw [show 0 * 8 = 0 from rfl] at hx975_2); (try rw [Addr.add_zero'] at hx975_2); (try rw [show ((0 : Int)).toNat = 0 from rfl] at hx975_3); (try rw [show 0 * 8 = 0 from rfl] at hx975_3); (try rw [Addr.add_zero'] at hx975_3); (try rw [show ((0 : Int)).toNat = 0 from rfl] at hx975_4); (try rw [show 0 * 8 = 0 from rfl] at hx975_4); (try rw [Addr.add_zero'] at hx975_4); (try rw [show ((0 : Int)).toNat = 0 from rfl] at hx975_5); (try rw [show 0 * 8 = 0 from rfl] at hx975_5); (try rw [Addr.add_zero'] at hx975_5); (try rw [show ((0 : Int)).toNat = 0 from rfl] at hx975_6); (try rw [show 0 * 8 = 0 from rfl] at hx975_6); (try rw [Addr.add_zero'] at hx975_6); (try rw [show ((0 : Int)).toNat = 0 from rfl] at hx975_7); (try rw [show 0 * 8 = 0 from rfl] at hx975_7); (try rw [Addr.add_zero'] at hx975_7); have HR975_1 := za hi975_1; have HC975_1 := za hl975_1; clear hi975_1 hl975_1; have HR975_5 := za hi975_5; have HC975_5 := za hl975_5; clear hi975_5 hl975_5; have HR975_6 := za hi975_6; have HC975_6 := za hl975_6; clear hi975_6 hl975_6; replace p975 := eq_true p975; replace q975 := eq_true q975; have p976 : 0 ≤ (0 : Int) := (by omega); have q976 : 0 < (t969.length : Int) := of_decide_eq_true zq11; obtain ⟨ad976, A976_1, c976_1, A976_5, c976_5, A976_6, c976_6, e976, hx976_0, hx976_1, hx976_2, hx976_3, hx976_4, hx976_5, hx976_6, hx976_7, hl976_1, hi976_1, hl976_5, hi976_5, hl976_6, hi976_6⟩ := at_T42 (Kd.R_reads' HO971.out).2.2 0 p976 q976; obtain rfl : ad975 = ad976 := (by injection e976); obtain ⟨ce976, hce976, hMe976, hcc976⟩ := Kd.R_get HO971.out z42 0 p976 (by first | exact q976 | exact of_decide_eq_true zq11 | (have e_ := (Kd.R_reads' HO971.out).1; omega)); obtain ⟨ve976_1, ve976_5, ve976_6, rfl, ge976_1, ge976_5, ge976_6⟩ := k42_openM hMe976; have hv976_1 := hcc976 1 _ rfl; rw [add_field _ _ 1 (by omega)] at hv976_1; replace hv976_1 := Option.some.inj (hv976_1.symm.trans hx976_1); rw [hv976_1] at ge976_1; have HL976_1 := za (show Kd.R k85 85 _ _ _ _ ((rd_T42 t969 0).f1) from ge976_1); clear hv976_1 ge976_1; have hv976_5 := hcc976 5 _ rfl; rw [add_field _ _ 5 (by omega)] at hv976_5; replace hv976_5 := Option.some.inj (hv976_5.symm.trans hx976_5); rw [hv976_5] at ge976_5; have HL976_5 := za (show Kd.R Kd.string 9 _ _ _ _ ((rd_T42 t969 0).f5) from ge976_5); clear hv976_5 ge976_5; have hv976_6 := hcc976 6 _ rfl; rw [add_field _ _ 6 (by omega)] at hv976_6; replace hv976_6 := Option.some.inj (hv976_6.symm.trans hx976_6); rw [hv976_6] at ge976_6; have HL976_6 := za (show Kd.R k45 45 _ _ _ _ ((rd_T42 t969 0).f6) from ge976_6); clear hv976_6 ge976_6; clear hcc976 hce976; have qi976 : (0 < t969.length) = True := eq_true (by omega); (try rw [show ((0 : Int)).toNat = 0 from rfl] at hx976_0); (try rw [show 0 * 8 = 0 from rfl] at hx976_0); (try rw [Addr.add_zero'] at hx976_0); (try rw [show ((0 : Int)).toNat = 0 from rfl] at hx976_1); (try rw [show 0 * 8 = 0 from rfl] at hx976_1); (try rw [Addr.add_zero'] at hx976_1); (try rw [show ((0 : Int)).toNat = 0 from rfl] at hx976_2); (try rw [show 0 * 8 = 0 from rfl] at hx976_2); (try rw [Addr.add_zero'] at hx976_2); (try rw [show ((0 : Int)).toNat = 0 from rfl] at hx976_3); (try rw [show 0 * 8 = 0 from rfl] at hx976_3); (try rw [Addr.add_zero'] at hx976_3); (try rw [show ((0 : Int)).toNat = 0 from rfl] at hx976_4); (try rw [show 0 * 8 = 0 from rfl] at hx976_4); (try rw [Addr.add_zero'] at hx976_4); (try rw [show ((0 : Int)).toNat = 0 from rfl] at hx976_5); (try rw [show 0 * 8 = 0 from rfl] at hx976_5); (try rw [Addr.add_zero'] at hx976_5); (try rw [show ((0 : Int)).toNat = 0 from rfl] at hx976_6); (try rw [show 0 * 8 = 0 from rfl] at hx976_6); (try rw [Addr.add_zero'] at hx976_6); (try rw [show ((0 : Int)).toNat = 0 from rfl] at hx976_7); (try rw [show 0 * 8 = 0 from rfl] at hx976_7); (try rw [Addr.add_zero'] at hx976_7); have HR976_1 := za hi976_1; have HC976_1 := za hl976_1; clear hi976_1 hl976_1; have HR976_5 := za hi976_5; have HC976_5 := za hl976_5; clear hi976_5 hl976_5; have HR976_6 := za hi976_6; have HC976_6 := za hl976_6; clear hi976_6 hl976_6; replace p976 := eq_true p976; replace q976 := eq_true q976; have ea_ := Option.some.inj (hx975_1.symm.trans hx976_1); injection ea_ with ea_ en_ ec_; subst ea_; subst ec_; clear en_; have ea_ := Option.some.inj (hx975_5.symm.trans hx976_5); injection ea_ with ea_ en_ ec_; subst ea_; subst ec_; clear en_; have ea_ := Option.some.inj (hx975_6.symm.trans hx976_6); injection ea_ with ea_ en_ ec_; subst ea_; subst ec_; clear en_; have p977 : 0 ≤ (0 : Int) := (by omega); have q977 : 0 < (((rd_T42 t969 0).f6).length : Int) := of_decide_eq_true zq11; obtain ⟨ad977, A977_8, c977_8, A977_9, c977_9, A977_10, c977_10, A977_11, c977_11, e977, hx977_0, hx977_1, hx977_2, hx977_3, hx977_4, hx977_5, hx977_6, hx977_7, hx977_8, hx977_9, hx977_10, hx977_11, hl977_8, hi977_8, hl977_9, hi977_9, hl977_10, hi977_10, hl977_11, hi977_11⟩ := at_T45 (by repeat (first | (with_reducible exact HR976_6.out) | (with_reducible refine Kd.C_alloc ?_ _) | (with_reducible refine Kd.C_drewN ?_ _) | (with_reducible refine Kd.C_drew ?_) | exact HR976_6.out)) 0 p977 q977; cases e977; obtain ⟨ce977, hce977, hMe977, hcc977⟩ := Kd.R_get HL976_6.out z45 0 p977 (by first | exact q977 | exact of_decide_eq_true zq11 | (have e_ := (Kd.R_reads' HL976_6.out).1; omega)); obtain ⟨ve977_8, ve977_9, ve977_10, ve977_11, rfl, ge977_8, ge977_9, ge977_10, ge977_11⟩ := k45_openM hMe977; have hv977_8 := hcc977 8 _ rfl; rw [add_field _ _ 8 (by omega)] at hv977_8; replace hv977_8 := Option.some.inj (hv977_8.symm.trans hx977_8); rw [hv977_8] at ge977_8; have HL977_8 := za (show Kd.R k48 48 _ _ _ _ ((rd_T45 ((rd_T42 t969 0).f6) 0).f8) from ge977_8); clear hv977_8 ge977_8; have hv977_9 := hcc977 9 _ rfl; rw [add_field _ _ 9 (by omega)] at hv977_9; replace hv977_9 := Option.some.inj (hv977_9.symm.trans hx977_9); rw [hv977_9] at ge977_9; have HL977_9 := za (show Kd.R (Kd.slice 48 k48) 23 _ _ _ _ ((rd_T45 ((rd_T42 t969 0).f6) 0).f9) from ge977_9); clear hv977_9 ge977_9; have hv977_10 := hcc977 10 _ rfl; rw [add_field _ _ 10 (by omega)] at hv977_10; replace hv977_10 := Option.some.inj (hv977_10.symm.trans hx977_10); rw [hv977_10] at ge977_10; have HL977_10 := za (show Kd.R k45 45 _ _ _ _ ((rd_T45 ((rd_T42 t969 0).f6) 0).f10) from ge977_10); clear hv977_10 ge977_10; have hv977_11 := hcc977 11 _ rfl; rw [add_field _ _ 11 (by omega)] at hv977_11; replace hv977_11 := Option.some.inj (hv977_11.symm.trans hx977_11); rw [hv977_11] at ge977_11; have HL977_11 := za (show Kd.R k45 45 _ _ _ _ ((rd_T45 ((rd_T42 t969 0).f6) 0).f11) from ge977_11); clear hv977_11 ge977_11; clear hcc977 hce977; have qi977 : (0 < ((rd_T42 t969 0).f6).length) = True := eq_true (by omega); (try rw [show ((0 : Int)).toNat = 0 from rfl] at hx977_0); (try rw [show 0 * 12 = 0 from rfl] at hx977_0); (try rw [Addr.add_zero'] at hx977_0); (try rw [show ((0 : Int)).toNat = 0 from rfl] at hx977_1); (try rw [show 0 * 12 = 0 from rfl] at hx977_1); (try rw [Addr.add_zero'] at hx977_1); (try rw [show ((0 : Int)).toNat = 0 from rfl] at hx977_2); (try rw [show 0 * 12 = 0 from rfl] at hx977_2); (try rw [Addr.add_zero'] at hx977_2); (try rw [show ((0 : Int)).toNat = 0 from rfl] at hx977_3); (try rw [show 0 * 12 = 0 from rfl] at hx977_3); (try rw [Addr.add_zero'] at hx977_3); (try rw [show ((0 : Int)).toNat = 0 from rfl] at hx977_4); (try rw [show 0 * 12 = 0 from rfl] at hx977_4); (try rw [Addr.add_zero'] at hx977_4); (try rw [show ((0 : Int)).toNat = 0 from rfl] at hx977_5); (try rw [show 0 * 12 = 0 from rfl] at hx977_5); (try rw [Addr.add_zero'] at hx977_5); (try rw [show ((0 : Int)).toNat = 0 from rfl] at hx977_6); (try rw [show 0 * 12 = 0 from rfl] at hx977_6); (try rw [Addr.add_zero'] at hx977_6); (try rw [show ((0 : Int)).toNat = 0 from rfl] at hx977_7); (try rw [show 0 * 12 = 0 from rfl] at hx977_7); (try rw [Addr.add_zero'] at hx977_7); (try rw [show ((0 : Int)).toNat = 0 from rfl] at hx977_8); (try rw [show 0 * 12 = 0 from rfl] at hx977_8); (try rw [Addr.add_zero'] at hx977_8); (try rw [show ((0 : Int)).toNat = 0 from rfl] at hx977_9); (try rw [show 0 * 12 = 0 from rfl] at hx977_9); (try rw [Addr.add_zero'] at hx977_9); (try rw [show ((0 : Int)).toNat = 0 from rfl] at hx977_10); (try rw [show 0 * 12 = 0 from rfl] at hx977_10); (try rw [Addr.add_zero'] at hx977_10); (try rw [show ((0 : Int)).toNat = 0 from rfl] at hx977_11); (try rw [show 0 * 12 = 0 from rfl] at hx977_11); (try rw [Addr.add_zero'] at hx977_11); have HR977_8 := za hi977_8; have HC977_8 := za hl977_8; clear hi977_8 hl977_8; have HR977_9 := za hi977_9; have HC977_9 := za hl977_9; clear hi977_9 hl977_9; have HR977_10 := za hi977_10; have HC977_10 := za hl977_10; clear hi977_10 hl977_10; have HR977_11 := za hi977_11; have HC977_11 := za hl977_11; clear hi977_11 hl977_11; replace p977 := eq_true p977; replace q977 := eq_true q977))
         go_ret2
         exact ⟨_, zq16, by (with_reducible repeat (first | apply Kd.R_alloc | apply Kd.R_drewN | apply Kd.R_drew)); exact Kd.R_mono HL977_8.out (fun _ hk => trivial), zq43⟩
        ·
         rw [if_neg c18] at H
         exact absurd H (by simp)
      ·
       rw [if_neg c8] at H
       have c8b0 := beq_eq_false_iff_ne.mpr c8
       have c8b1 := bne_iff_ne.mpr c8
       simp only [Option.some.injEq, Prod.mk.injEq] at H
       obtain ⟨rfl, rfl⟩ := H
       go_enter Try.func4, Try.ntmps4
       go_wp2_with (first | ((with_reducible refine gate_callee (f := 9) rfl ?_); refine goesL_ (some 11) rfl rfl Try.func9 zq18 rfl #[.string (((⟨#[109, 111, 100, 117, 108, 101, 32, 109, 59, 32, 112, 114, 111, 99, 32, 112, 40, 41, 32, 112, 99, 32, 97, 32, 117, 115, 101, 115, 32, 123, 125, 32, 123, 32, 114, 101, 115, 117, 108, 116, 32, 61, 32]⟩ : ByteArray) ++ a0) ++ (⟨#[59, 32, 125]⟩ : ByteArray))] rfl zq1 ?_; (with_reducible refine (ra_Parse.calls k (((⟨#[109, 111, 100, 117, 108, 101, 32, 109, 59, 32, 112, 114, 111, 99, 32, 112, 40, 41, 32, 112, 99, 32, 97, 32, 117, 115, 101, 115, 32, 123, 125, 32, 123, 32, 114, 101, 115, 117, 108, 116, 32, 61, 32]⟩ : ByteArray) ++ a0) ++ (⟨#[59, 32, 125]⟩ : ByteArray)) t961 t962 t963 t966 t969 t972 t973 _ A4.out).mono ?_); rintro e w27 ⟨v964, v967, v970, rfl, ho0, ho1, ho2, hb⟩; refine ⟨_, rfl, ?_⟩; have HO965 := za (Kd.R_lower ho0 (below_size zq4)); have HO968 := za (Kd.R_lower ho1 (below_size zq4)); have HO971 := za (Kd.R_lower ho2 (below_size zq4)); replace HB := za (below_step zq4 hb)) | ((with_reducible refine gate_dst (N := 4) rfl ?_); (try (refine gate_guard (by rfl) ?_; dsimp only)); refine box_event ?hg (N := 4) ?hd (cs := #[.string (⟨#[]⟩ : ByteArray), .int .i64 0, .slice none 0 0, .slice none 0 0, .slice none 0 0]) (t := 36) ?hr ?_; (case hd => rfl); (case hg => rfl); (case hr => exact zq39); intro gb974 hg w28 hbox hb; replace HO965 := za (Kd.R_below (zr HO965.out) hb); replace HO968 := za (Kd.R_below (zr HO968.out) hb); replace HO971 := za (Kd.R_below (zr HO971.out) hb); have BK974 := za (hbox); have GW974 := za ((by rw [hg]; exact (below_size zq4) : w.heap.size ≤ gb974)); have GE974 := za ((by rw [hg]; exact (below_size zq4) : w.heap.size ≤ gb974)); replace HB := za (below_step zq4 hb); clear hb hbox hg; obtain ⟨hcz29_0, hcz29_1, hcz29_2, hcz29_3, hcz29_4⟩ := zc5 BK974.out; obtain ⟨hfz29_0, hfz29_1, hfz29_2, hfz29_3, hfz29_4⟩ := zf5 BK974.out; obtain ⟨Ao30, co30, eo30⟩ := Kd.R_slice HO965.out; subst eo30; obtain ⟨Ao31, co31, eo31⟩ := Kd.R_slice HO968.out; subst eo31; obtain ⟨Ao32, co32, eo32⟩ := Kd.R_slice HO971.out; subst eo32) | ((with_reducible refine gate_store (t := 36) (p := 4) rfl ?_); refine store_event (t := 36) (p := 4) (v := ?vo_w33) (w1 := (((((w28.setCell ⟨gb974, 0, none⟩ (.string t961)).setCell ⟨gb974, 1, none⟩ (.int .i64 t962)).setCell ⟨gb974, 2, none⟩ (.slice Ao30 t963.length co30)).setCell ⟨gb974, 3, none⟩ (.slice Ao31 t966.length co31)).setCell ⟨gb974, 4, none⟩ (.slice Ao32 t969.length co32))) ?hg ?ho ?hn ?hr ?_; (case ho => rfl); (case hg => rfl); (case hn => rfl); (case hr => exact zq39); intro w33 hw; replace HO965 : Aside0 (Kd.R k75 75 w33 w.heap.size (fun _ => True) (.slice Ao30 t963.length co30) t963) := ⟨(by rw [hw]; exact (by (with_reducible repeat (first | apply Kd.R_alloc | apply Kd.R_drewN | apply Kd.R_drew)); exact Kd.R_mono (Kd.R_far (p := ⟨gb974, 4, none⟩) (Kd.R_far (p := ⟨gb974, 3, none⟩) (Kd.R_far (p := ⟨gb974, 2, none⟩) (Kd.R_far (p := ⟨gb974, 1, none⟩) (Kd.R_far (p := ⟨gb974, 0, none⟩) (Kd.R_types HO965.out BK974.out (by decide)) (fun _ hk => hk.2) (.string t961)) (fun _ hk => hk.2) (.int .i64 t962)) (fun _ hk => hk.2) (.slice Ao30 t963.length co30)) (fun _ hk => hk.2) (.slice Ao31 t966.length co31)) (fun _ hk => hk.2) (.slice Ao32 t969.length co32)) (fun _ hk => trivial)))⟩; replace HO968 : Aside0 (Kd.R k77 77 w33 w.heap.size (fun _ => True) (.slice Ao31 t966.length co31) t966) := ⟨(by rw [hw]; exact (by (with_reducible repeat (first | apply Kd.R_alloc | apply Kd.R_drewN | apply Kd.R_drew)); exact Kd.R_mono (Kd.R_far (p := ⟨gb974, 4, none⟩) (Kd.R_far (p := ⟨gb974, 3, none⟩) (Kd.R_far (p := ⟨gb974, 2, none⟩) (Kd.R_far (p := ⟨gb974, 1, none⟩) (Kd.R_far (p := ⟨gb974, 0, none⟩) (Kd.R_types HO968.out BK974.out (by decide)) (fun _ hk => hk.2) (.string t961)) (fun _ hk => hk.2) (.int .i64 t962)) (fun _ hk => hk.2) (.slice Ao30 t963.length co30)) (fun _ hk => hk.2) (.slice Ao31 t966.length co31)) (fun _ hk => hk.2) (.slice Ao32 t969.length co32)) (fun _ hk => trivial)))⟩; replace HO971 : Aside0 (Kd.R k42 42 w33 w.heap.size (fun _ => True) (.slice Ao32 t969.length co32) t969) := ⟨(by rw [hw]; exact (by (with_reducible repeat (first | apply Kd.R_alloc | apply Kd.R_drewN | apply Kd.R_drew)); exact Kd.R_mono (Kd.R_far (p := ⟨gb974, 4, none⟩) (Kd.R_far (p := ⟨gb974, 3, none⟩) (Kd.R_far (p := ⟨gb974, 2, none⟩) (Kd.R_far (p := ⟨gb974, 1, none⟩) (Kd.R_far (p := ⟨gb974, 0, none⟩) (Kd.R_types HO971.out BK974.out (by decide)) (fun _ hk => hk.2) (.string t961)) (fun _ hk => hk.2) (.int .i64 t962)) (fun _ hk => hk.2) (.slice Ao30 t963.length co30)) (fun _ hk => hk.2) (.slice Ao31 t966.length co31)) (fun _ hk => hk.2) (.slice Ao32 t969.length co32)) (fun _ hk => trivial)))⟩; replace BK974 : Aside0 (w33.heap[gb974]? = some (.cells #[.string t961, .int .i64 t962, .slice Ao30 t963.length co30, .slice Ao31 t966.length co31, .slice Ao32 t969.length co32] 36 (0, 0))) := ⟨(by rw [hw]; exact (by (with_reducible repeat (first | refine blk_drewN ?_ _ | refine blk_drew ?_ | refine blk_alloc ?_ _)); refine blk_put (cs := #[.string t961, .int .i64 t962, .slice Ao30 t963.length co30, .slice Ao31 t966.length co31, .slice none 0 0]) ?_ 4 _ rfl; (with_reducible repeat (first | refine blk_drewN ?_ _ | refine blk_drew ?_ | refine blk_alloc ?_ _)); refine blk_put (cs := #[.string t961, .int .i64 t962, .slice Ao30 t963.length co30, .slice none 0 0, .slice none 0 0]) ?_ 3 _ rfl; (with_reducible repeat (first | refine blk_drewN ?_ _ | refine blk_drew ?_ | refine blk_alloc ?_ _)); refine blk_put (cs := #[.string t961, .int .i64 t962, .slice none 0 0, .slice none 0 0, .slice none 0 0]) ?_ 2 _ rfl; (with_reducible repeat (first | refine blk_drewN ?_ _ | refine blk_drew ?_ | refine blk_alloc ?_ _)); refine blk_put (cs := #[.string t961, .int .i64 0, .slice none 0 0, .slice none 0 0, .slice none 0 0]) ?_ 1 _ rfl; (with_reducible repeat (first | refine blk_drewN ?_ _ | refine blk_drew ?_ | refine blk_alloc ?_ _)); refine blk_put (cs := #[.string (⟨#[]⟩ : ByteArray), .int .i64 0, .slice none 0 0, .slice none 0 0, .slice none 0 0]) ?_ 0 _ rfl; (with_reducible repeat (first | refine blk_drewN ?_ _ | refine blk_drew ?_ | refine blk_alloc ?_ _)); exact BK974.out))⟩; replace HB : Aside0 (Below w.heap.size w w33) := ⟨(by rw [hw]; exact zq43)⟩; clear hw; obtain ⟨hcz34_0, hcz34_1, hcz34_2, hcz34_3, hcz34_4⟩ := zc5 BK974.out; obtain ⟨hfz34_0, hfz34_1, hfz34_2, hfz34_3, hfz34_4⟩ := zf5 BK974.out; have p975 : 0 ≤ (0 : Int) := (by omega); have q975 : 0 < (t969.length : Int) := of_decide_eq_true zq11; obtain ⟨ad975, A975_1, c975_1, A975_5, c975_5, A975_6, c975_6, e975, hx975_0, hx975_1, hx975_2, hx975_3, hx975_4, hx975_5, hx975_6, hx975_7, hl975_1, hi975_1, hl975_5, hi975_5, hl975_6, hi975_6⟩ := at_T42 (Kd.R_reads' HO971.out).2.2 0 p975 q975; cases e975; obtain ⟨ce975, hce975, hMe975, hcc975⟩ := Kd.R_get HO971.out z42 0 p975 (by first | exact q975 | exact of_decide_eq_true zq11 | (have e_ := (Kd.R_reads' HO971.out).1; omega)); obtain ⟨ve975_1, ve975_5, ve975_6, rfl, ge975_1, ge975_5, ge975_6⟩ := k42_openM hMe975; have hv975_1 := hcc975 1 _ rfl; rw [add_field _ _ 1 (by omega)] at hv975_1; replace hv975_1 := Option.some.inj (hv975_1.symm.trans hx975_1); rw [hv975_1] at ge975_1; have HL975_1 := za (show Kd.R k85 85 _ _ _ _ ((rd_T42 t969 0).f1) from ge975_1); clear hv975_1 ge975_1; have hv975_5 := hcc975 5 _ rfl; rw [add_field _ _ 5 (by omega)] at hv975_5; replace hv975_5 := Option.some.inj (hv975_5.symm.trans hx975_5); rw [hv975_5] at ge975_5; have HL975_5 := za (show Kd.R Kd.string 9 _ _ _ _ ((rd_T42 t969 0).f5) from ge975_5); clear hv975_5 ge975_5; have hv975_6 := hcc975 6 _ rfl; rw [add_field _ _ 6 (by omega)] at hv975_6; replace hv975_6 := Option.some.inj (hv975_6.symm.trans hx975_6); rw [hv975_6] at ge975_6; have HL975_6 := za (show Kd.R k45 45 _ _ _ _ ((rd_T42 t969 0).f6) from ge975_6); clear hv975_6 ge975_6; clear hcc975 hce975; have qi975 : (0 < t969.length) = True := eq_true (by omega); (try rw [show ((0 : Int)).toNat = 0 from rfl] at hx975_0); (try rw [show 0 * 8 = 0 from rfl] at hx975_0); (try rw [Addr.add_zero'] at hx975_0); (try rw [show ((0 : Int)).toNat = 0 from rfl] at hx975_1); (try rw [show 0 * 8 = 0 from rfl] at hx975_1); (try rw [Addr.add_zero'] at hx975_1); (try rw [show ((0 : Int)).toNat = 0 from rfl] at hx975_2); (try rw [show 0 * 8 = 0 from rfl] at hx975_2); (try rw [Addr.add_zero'] at hx975_2); (try rw [show ((0 : Int)).toNat = 0 from rfl] at hx975_3); (try rw [show 0 * 8 = 0 from rfl] at hx975_3); (try rw [Addr.add_zero'] at hx975_3); (try rw [show ((0 : Int)).toNat = 0 from rfl] at hx975_4); (try rw [show 0 * 8 = 0 from rfl] at hx975_4); (try rw [Addr.add_zero'] at hx975_4); (try rw [show ((0 : Int)).toNat = 0 from rfl] at hx975_5); (try rw [show 0 * 8 = 0 from rfl] at hx975_5); (try rw [Addr.add_zero'] at hx975_5); (try rw [show ((0 : Int)).toNat = 0 from rfl] at hx975_6); (try rw [show 0 * 8 = 0 from rfl] at hx975_6); (try rw [Addr.add_zero'] at hx975_6); (try rw [show ((0 : Int)).toNat = 0 from rfl] at hx975_7); (try rw [show 0 * 8 = 0 from rfl] at hx975_7); (try rw [Addr.add_zero'] at hx975_7); have HR975_1 := za hi975_1; have HC975_1 := za hl975_1; clear hi975_1 hl975_1; have HR975_5 := za hi975_5; have HC975_5 := za hl975_5; clear hi975_5 hl975_5; have HR975_6 := za hi975_6; have HC975_6 := za hl975_6; clear hi975_6 hl975_6; replace p975 := eq_true p975; replace q975 := eq_true q975))
       go_ret2
       exact ⟨_, zq16, zq22, zq43⟩
     ·
      rw [if_neg c7] at H
      exact absurd H (by simp)
    ·
     rw [if_neg c6] at H
     have c6b0 := beq_eq_false_iff_ne.mpr c6
     have c6b1 := bne_iff_ne.mpr c6
     simp only [Option.some.injEq, Prod.mk.injEq] at H
     obtain ⟨rfl, rfl⟩ := H
     go_enter Try.func4, Try.ntmps4
     go_wp2_with (first | ((with_reducible refine gate_callee (f := 9) rfl ?_); refine goesL_ (some 11) rfl rfl Try.func9 zq18 rfl #[.string (((⟨#[109, 111, 100, 117, 108, 101, 32, 109, 59, 32, 112, 114, 111, 99, 32, 112, 40, 41, 32, 112, 99, 32, 97, 32, 117, 115, 101, 115, 32, 123, 125, 32, 123, 32, 114, 101, 115, 117, 108, 116, 32, 61, 32]⟩ : ByteArray) ++ a0) ++ (⟨#[59, 32, 125]⟩ : ByteArray))] rfl zq1 ?_; (with_reducible refine (ra_Parse.calls k (((⟨#[109, 111, 100, 117, 108, 101, 32, 109, 59, 32, 112, 114, 111, 99, 32, 112, 40, 41, 32, 112, 99, 32, 97, 32, 117, 115, 101, 115, 32, 123, 125, 32, 123, 32, 114, 101, 115, 117, 108, 116, 32, 61, 32]⟩ : ByteArray) ++ a0) ++ (⟨#[59, 32, 125]⟩ : ByteArray)) t961 t962 t963 t966 t969 t972 t973 _ A4.out).mono ?_); rintro e w35 ⟨v964, v967, v970, rfl, ho0, ho1, ho2, hb⟩; refine ⟨_, rfl, ?_⟩; have HO965 := za (Kd.R_lower ho0 (below_size zq4)); have HO968 := za (Kd.R_lower ho1 (below_size zq4)); have HO971 := za (Kd.R_lower ho2 (below_size zq4)); replace HB := za (below_step zq4 hb)) | ((with_reducible refine gate_dst (N := 4) rfl ?_); (try (refine gate_guard (by rfl) ?_; dsimp only)); refine box_event ?hg (N := 4) ?hd (cs := #[.string (⟨#[]⟩ : ByteArray), .int .i64 0, .slice none 0 0, .slice none 0 0, .slice none 0 0]) (t := 36) ?hr ?_; (case hd => rfl); (case hg => rfl); (case hr => exact zq39); intro gb974 hg w36 hbox hb; replace HO965 := za (Kd.R_below (zr HO965.out) hb); replace HO968 := za (Kd.R_below (zr HO968.out) hb); replace HO971 := za (Kd.R_below (zr HO971.out) hb); have BK974 := za (hbox); have GW974 := za ((by rw [hg]; exact (below_size zq4) : w.heap.size ≤ gb974)); have GE974 := za ((by rw [hg]; exact (below_size zq4) : w.heap.size ≤ gb974)); replace HB := za (below_step zq4 hb); clear hb hbox hg; obtain ⟨hcz37_0, hcz37_1, hcz37_2, hcz37_3, hcz37_4⟩ := zc5 BK974.out; obtain ⟨hfz37_0, hfz37_1, hfz37_2, hfz37_3, hfz37_4⟩ := zf5 BK974.out; obtain ⟨Ao38, co38, eo38⟩ := Kd.R_slice HO965.out; subst eo38; obtain ⟨Ao39, co39, eo39⟩ := Kd.R_slice HO968.out; subst eo39; obtain ⟨Ao40, co40, eo40⟩ := Kd.R_slice HO971.out; subst eo40))
     go_ret2
     exact ⟨_, zq16, zq22, zq43⟩
   ·
    rw [if_neg c5] at H
    have c5b0 := beq_eq_false_iff_ne.mpr c5
    have c5b1 := bne_iff_ne.mpr c5
    simp only [Option.some.injEq, Prod.mk.injEq] at H
    obtain ⟨rfl, rfl⟩ := H
    go_enter Try.func4, Try.ntmps4
    go_wp2_with (first | ((with_reducible refine gate_callee (f := 9) rfl ?_); refine goesL_ (some 11) rfl rfl Try.func9 zq18 rfl #[.string (((⟨#[109, 111, 100, 117, 108, 101, 32, 109, 59, 32, 112, 114, 111, 99, 32, 112, 40, 41, 32, 112, 99, 32, 97, 32, 117, 115, 101, 115, 32, 123, 125, 32, 123, 32, 114, 101, 115, 117, 108, 116, 32, 61, 32]⟩ : ByteArray) ++ a0) ++ (⟨#[59, 32, 125]⟩ : ByteArray))] rfl zq1 ?_; (with_reducible refine (ra_Parse.calls k (((⟨#[109, 111, 100, 117, 108, 101, 32, 109, 59, 32, 112, 114, 111, 99, 32, 112, 40, 41, 32, 112, 99, 32, 97, 32, 117, 115, 101, 115, 32, 123, 125, 32, 123, 32, 114, 101, 115, 117, 108, 116, 32, 61, 32]⟩ : ByteArray) ++ a0) ++ (⟨#[59, 32, 125]⟩ : ByteArray)) t961 t962 t963 t966 t969 t972 t973 _ A4.out).mono ?_); rintro e w41 ⟨v964, v967, v970, rfl, ho0, ho1, ho2, hb⟩; refine ⟨_, rfl, ?_⟩; have HO965 := za (Kd.R_lower ho0 (below_size zq4)); have HO968 := za (Kd.R_lower ho1 (below_size zq4)); have HO971 := za (Kd.R_lower ho2 (below_size zq4)); replace HB := za (below_step zq4 hb)) | ((with_reducible refine gate_dst (N := 4) rfl ?_); (try (refine gate_guard (by rfl) ?_; dsimp only)); refine box_event ?hg (N := 4) ?hd (cs := #[.string (⟨#[]⟩ : ByteArray), .int .i64 0, .slice none 0 0, .slice none 0 0, .slice none 0 0]) (t := 36) ?hr ?_; (case hd => rfl); (case hg => rfl); (case hr => exact zq39); intro gb974 hg w42 hbox hb; replace HO965 := za (Kd.R_below (zr HO965.out) hb); replace HO968 := za (Kd.R_below (zr HO968.out) hb); replace HO971 := za (Kd.R_below (zr HO971.out) hb); have BK974 := za (hbox); have GW974 := za ((by rw [hg]; exact (below_size zq4) : w.heap.size ≤ gb974)); have GE974 := za ((by rw [hg]; exact (below_size zq4) : w.heap.size ≤ gb974)); replace HB := za (below_step zq4 hb); clear hb hbox hg; obtain ⟨hcz43_0, hcz43_1, hcz43_2, hcz43_3, hcz43_4⟩ := zc5 BK974.out; obtain ⟨hfz43_0, hfz43_1, hfz43_2, hfz43_3, hfz43_4⟩ := zf5 BK974.out; obtain ⟨Ao44, co44, eo44⟩ := Kd.R_slice HO965.out; subst eo44; obtain ⟨Ao45, co45, eo45⟩ := Kd.R_slice HO968.out; subst eo45; obtain ⟨Ao46, co46, eo46⟩ := Kd.R_slice HO971.out; subst eo46))
    go_ret2
    exact ⟨_, zq16, zq22, zq43⟩
  ·
   rw [if_neg c3] at H
   exact absurd H (by simp)
 ·
  rw [if_neg c2] at H
  exact absurd H (by simp)
def rl_great.f (l0 : List (S63)) (l1 : List (S63)) : Option (Bool) := if (l0.length : Int) > 60 then (some true) else (some (decide ((l1.length : Int) > 60)))
theorem rl_great.calls (A0 : Option Addr) (c0 : Nat) (l0 : List (S63)) (A1 : Option Addr) (c1 : Nat) (l1 : List (S63)) (r : Bool) (w : World) (hr0 : Kd.C k63 w A0 l0.length l0) (hc0 : l0.length ≤ c0) (hr1 : Kd.C k63 w A1 l1.length l1) (hc1 : l1.length ≤ c1) (h : rl_great.f l0 l1 = some r) :
  Calls Try.prog 5 #[.slice A0 l0.length c0, .slice A1 l1.length c1] w fun e w' => e = .returned (.bool r) ∧ Drawn0 w w' := by
 have HR0 := za hr0
 have HC0 := za hc0
 clear hr0 hc0
 have HR1 := za hr1
 have HC1 := za hc1
 clear hr1 hc1
 have H : (if (l0.length : Int) > 60 then (some true) else (some (decide ((l1.length : Int) > 60)))) = some r := h
 clear h
 by_cases c3 : (l0.length : Int) > 60
 ·
  rw [if_pos c3] at H
  have c3b0 : decide (60 < (l0.length : Int)) = true := decide_eq_true c3
  have c3b1 : decide (60 < l0.length) = true := decide_eq_true (by omega)
  clear c3
  obtain rfl := Option.some.inj H
  go_enter Try.func5, Try.ntmps5
  go_wp2
  go_ret
  exact ⟨zq31, zq28⟩
 ·
  rw [if_neg c3] at H
  have c3b0 : decide (60 < (l0.length : Int)) = false := decide_eq_false c3
  have c3b1 : decide (60 < l0.length) = false := decide_eq_false (by omega)
  clear c3
  obtain rfl := Option.some.inj H
  go_enter Try.func5, Try.ntmps5
  go_wp2
  go_ret
  exact ⟨zq31, zq28⟩
def eval_truth.f (a0 : Bool) : Option (Int) := if a0 = true then (some 1) else (some 0)
theorem eval_truth.calls (a0 : Bool) (r : Int) (w : World) (h : eval_truth.f a0 = some r) :
  Calls Try.prog 12 #[.bool a0] w fun e w' => e = .returned (.int .i64 r) ∧ Drawn0 w w' := by
 have H : (if a0 = true then (some 1) else (some 0)) = some r := h
 clear h
 by_cases c2 : a0 = true
 ·
  subst c2
  rw [if_pos rfl] at H
  obtain rfl := Option.some.inj H
  go_enter Try.func12, Try.ntmps12
  go_wp2
  go_ret
  exact ⟨zq31, zq28⟩
 ·
  replace c2 := Bool.eq_false_iff.mpr c2
  subst c2
  rw [if_neg (show ¬ (false = true) by decide)] at H
  obtain rfl := Option.some.inj H
  go_enter Try.func12, Try.ntmps12
  go_wp2
  go_ret
  exact ⟨zq31, zq28⟩
def eval_Op.f (a0 : Int) (a1 : Int) (a2 : Int) : Option (Int) := if a0 = 5 then (some (wrap64 (a1 + a2))) else (if a0 = 6 then (some (wrap64 (a1 - a2))) else (if a0 = 7 then (some (wrap64 (a1 * a2))) else (if a0 = 8 then (if a2 = 0 then (some 0) else (some (wrap64 (Int.tdiv a1 a2)))) else (if a0 = 9 then (if a2 = 0 then (some 0) else (some (Int.tmod a1 a2))) else (if a0 = 10 then ((eval_truth.f (a1 == a2)).bind fun t978 => (some t978)) else (if a0 = 11 then ((eval_truth.f (decide (a1 < a2))).bind fun t979 => (some t979)) else (if a0 = 12 then ((eval_truth.f (decide (a1 ≤ a2))).bind fun t980 => (some t980)) else (if a0 = 3 then (some (wrap64 (-a1))) else (if a0 = 4 then ((eval_truth.f (a1 == 0)).bind fun t981 => (some t981)) else (some 0))))))))))
theorem eval_Op.calls (a0 : Int) (a1 : Int) (a2 : Int) (r : Int) (w : World) (h : eval_Op.f a0 a1 a2 = some r) :
  Calls Try.prog 8 #[.int .i64 a0, .int .i64 a1, .int .i64 a2] w fun e w' => e = .returned (.int .i64 r) ∧ Drawn0 w w' := by
 have H : (if a0 = 5 then (some (wrap64 (a1 + a2))) else (if a0 = 6 then (some (wrap64 (a1 - a2))) else (if a0 = 7 then (some (wrap64 (a1 * a2))) else (if a0 = 8 then (if a2 = 0 then (some 0) else (some (wrap64 (Int.tdiv a1 a2)))) else (if a0 = 9 then (if a2 = 0 then (some 0) else (some (Int.tmod a1 a2))) else (if a0 = 10 then ((eval_truth.f (a1 == a2)).bind fun t978 => (some t978)) else (if a0 = 11 then ((eval_truth.f (decide (a1 < a2))).bind fun t979 => (some t979)) else (if a0 = 12 then ((eval_truth.f (decide (a1 ≤ a2))).bind fun t980 => (some t980)) else (if a0 = 3 then (some (wrap64 (-a1))) else (if a0 = 4 then ((eval_truth.f (a1 == 0)).bind fun t981 => (some t981)) else (some 0))))))))))) = some r := h
 clear h
 by_cases c4 : a0 = 5
 ·
  rw [if_pos c4] at H
  have c4b0 := beq_iff_eq.mpr c4
  have c4b1 := bne_eq_false_iff_eq.mpr c4
  clear c4
  obtain rfl := Option.some.inj H
  go_enter Try.func8, Try.ntmps8
  go_wp2
  go_ret
  exact ⟨zq31, zq28⟩
 ·
  rw [if_neg c4] at H
  have c4b0 := beq_eq_false_iff_ne.mpr c4
  have c4b1 := bne_iff_ne.mpr c4
  by_cases c5 : a0 = 6
  ·
   rw [if_pos c5] at H
   have c5b0 := beq_iff_eq.mpr c5
   have c5b1 := bne_eq_false_iff_eq.mpr c5
   clear c5
   obtain rfl := Option.some.inj H
   go_enter Try.func8, Try.ntmps8
   go_wp2
   go_ret
   exact ⟨zq31, zq28⟩
  ·
   rw [if_neg c5] at H
   have c5b0 := beq_eq_false_iff_ne.mpr c5
   have c5b1 := bne_iff_ne.mpr c5
   by_cases c6 : a0 = 7
   ·
    rw [if_pos c6] at H
    have c6b0 := beq_iff_eq.mpr c6
    have c6b1 := bne_eq_false_iff_eq.mpr c6
    clear c6
    obtain rfl := Option.some.inj H
    go_enter Try.func8, Try.ntmps8
    go_wp2
    go_ret
    exact ⟨zq31, zq28⟩
   ·
    rw [if_neg c6] at H
    have c6b0 := beq_eq_false_iff_ne.mpr c6
    have c6b1 := bne_iff_ne.mpr c6
    by_cases c7 : a0 = 8
    ·
     rw [if_pos c7] at H
     have c7b0 := beq_iff_eq.mpr c7
     have c7b1 := bne_eq_false_iff_eq.mpr c7
     clear c7
     by_cases c8 : a2 = 0
     ·
      rw [if_pos c8] at H
      have c8b0 := beq_iff_eq.mpr c8
      have c8b1 := bne_eq_false_iff_eq.mpr c8
      clear c8
      obtain rfl := Option.some.inj H
      go_enter Try.func8, Try.ntmps8
      go_wp2
      go_ret
      exact ⟨zq31, zq28⟩
     ·
      rw [if_neg c8] at H
      have c8b0 := beq_eq_false_iff_ne.mpr c8
      have c8b1 := bne_iff_ne.mpr c8
      obtain rfl := Option.some.inj H
      go_enter Try.func8, Try.ntmps8
      go_wp2
      go_ret
      exact ⟨zq31, zq28⟩
    ·
     rw [if_neg c7] at H
     have c7b0 := beq_eq_false_iff_ne.mpr c7
     have c7b1 := bne_iff_ne.mpr c7
     by_cases c9 : a0 = 9
     ·
      rw [if_pos c9] at H
      have c9b0 := beq_iff_eq.mpr c9
      have c9b1 := bne_eq_false_iff_eq.mpr c9
      clear c9
      by_cases c10 : a2 = 0
      ·
       rw [if_pos c10] at H
       have c10b0 := beq_iff_eq.mpr c10
       have c10b1 := bne_eq_false_iff_eq.mpr c10
       clear c10
       obtain rfl := Option.some.inj H
       go_enter Try.func8, Try.ntmps8
       go_wp2
       go_ret
       exact ⟨zq31, zq28⟩
      ·
       rw [if_neg c10] at H
       have c10b0 := beq_eq_false_iff_ne.mpr c10
       have c10b1 := bne_iff_ne.mpr c10
       obtain rfl := Option.some.inj H
       go_enter Try.func8, Try.ntmps8
       go_wp2
       go_ret
       exact ⟨zq31, zq28⟩
     ·
      rw [if_neg c9] at H
      have c9b0 := beq_eq_false_iff_ne.mpr c9
      have c9b1 := bne_iff_ne.mpr c9
      by_cases c11 : a0 = 10
      ·
       rw [if_pos c11] at H
       have c11b0 := beq_iff_eq.mpr c11
       have c11b1 := bne_eq_false_iff_eq.mpr c11
       clear c11
       replace H := Option.bind_eq_some_iff.mp H
       obtain ⟨t978, A120, H⟩ := H
       (try dsimp only at H)
       have A12 := za A120
       clear A120
       obtain rfl := Option.some.inj H
       go_enter Try.func8, Try.ntmps8
       go_wp2_with (first | ((with_reducible refine gate_callee (f := 12) rfl ?_); refine goesL_ (some 42) rfl rfl Try.func12 zq18 rfl #[.bool (a1 == a2)] rfl zq1 ?_; (with_reducible refine (eval_truth.calls (a1 == a2) t978 _ A12.out).mono ?_); rintro e w' ⟨rfl, ⟨nd, rfl⟩⟩; refine ⟨_, rfl, ?_⟩))
       go_ret
       exact ⟨zq31, zq28⟩
      ·
       rw [if_neg c11] at H
       have c11b0 := beq_eq_false_iff_ne.mpr c11
       have c11b1 := bne_iff_ne.mpr c11
       by_cases c13 : a0 = 11
       ·
        rw [if_pos c13] at H
        have c13b0 := beq_iff_eq.mpr c13
        have c13b1 := bne_eq_false_iff_eq.mpr c13
        clear c13
        replace H := Option.bind_eq_some_iff.mp H
        obtain ⟨t979, A140, H⟩ := H
        (try dsimp only at H)
        have A14 := za A140
        clear A140
        obtain rfl := Option.some.inj H
        go_enter Try.func8, Try.ntmps8
        go_wp2_with (first | ((with_reducible refine gate_callee (f := 12) rfl ?_); refine goesL_ (some 48) rfl rfl Try.func12 zq18 rfl #[.bool (decide (a1 < a2))] rfl zq1 ?_; (with_reducible refine (eval_truth.calls (decide (a1 < a2)) t979 _ A14.out).mono ?_); rintro e w' ⟨rfl, ⟨nd, rfl⟩⟩; refine ⟨_, rfl, ?_⟩))
        go_ret
        exact ⟨zq31, zq28⟩
       ·
        rw [if_neg c13] at H
        have c13b0 := beq_eq_false_iff_ne.mpr c13
        have c13b1 := bne_iff_ne.mpr c13
        by_cases c15 : a0 = 12
        ·
         rw [if_pos c15] at H
         have c15b0 := beq_iff_eq.mpr c15
         have c15b1 := bne_eq_false_iff_eq.mpr c15
         clear c15
         replace H := Option.bind_eq_some_iff.mp H
         obtain ⟨t980, A160, H⟩ := H
         (try dsimp only at H)
         have A16 := za A160
         clear A160
         obtain rfl := Option.some.inj H
         go_enter Try.func8, Try.ntmps8
         go_wp2_with (first | ((with_reducible refine gate_callee (f := 12) rfl ?_); refine goesL_ (some 54) rfl rfl Try.func12 zq18 rfl #[.bool (decide (a1 ≤ a2))] rfl zq1 ?_; (with_reducible refine (eval_truth.calls (decide (a1 ≤ a2)) t980 _ A16.out).mono ?_); rintro e w' ⟨rfl, ⟨nd, rfl⟩⟩; refine ⟨_, rfl, ?_⟩))
         go_ret
         exact ⟨zq31, zq28⟩
        ·
         rw [if_neg c15] at H
         have c15b0 := beq_eq_false_iff_ne.mpr c15
         have c15b1 := bne_iff_ne.mpr c15
         by_cases c17 : a0 = 3
         ·
          rw [if_pos c17] at H
          have c17b0 := beq_iff_eq.mpr c17
          have c17b1 := bne_eq_false_iff_eq.mpr c17
          clear c17
          obtain rfl := Option.some.inj H
          go_enter Try.func8, Try.ntmps8
          go_wp2
          go_ret
          exact ⟨zq31, zq28⟩
         ·
          rw [if_neg c17] at H
          have c17b0 := beq_eq_false_iff_ne.mpr c17
          have c17b1 := bne_iff_ne.mpr c17
          by_cases c18 : a0 = 4
          ·
           rw [if_pos c18] at H
           have c18b0 := beq_iff_eq.mpr c18
           have c18b1 := bne_eq_false_iff_eq.mpr c18
           clear c18
           replace H := Option.bind_eq_some_iff.mp H
           obtain ⟨t981, A190, H⟩ := H
           (try dsimp only at H)
           have A19 := za A190
           clear A190
           obtain rfl := Option.some.inj H
           go_enter Try.func8, Try.ntmps8
           go_wp2_with (first | ((with_reducible refine gate_callee (f := 12) rfl ?_); refine goesL_ (some 63) rfl rfl Try.func12 zq18 rfl #[.bool (a1 == 0)] rfl zq1 ?_; (with_reducible refine (eval_truth.calls (a1 == 0) t981 _ A19.out).mono ?_); rintro e w' ⟨rfl, ⟨nd, rfl⟩⟩; refine ⟨_, rfl, ?_⟩))
           go_ret
           exact ⟨zq31, zq28⟩
          ·
           rw [if_neg c18] at H
           have c18b0 := beq_eq_false_iff_ne.mpr c18
           have c18b1 := bne_iff_ne.mpr c18
           obtain rfl := Option.some.inj H
           go_enter Try.func8, Try.ntmps8
           go_wp2
           go_ret
           exact ⟨zq31, zq28⟩
def rl_awake.f  : Option (Bool) := (eval_Op.f 8 (-7) 2).bind fun t982 => (if t982 = (-3) then ((eval_Op.f 8 7 0).bind fun t983 => (some (t983 == 0))) else (some false))
theorem rl_awake.calls  (r : Bool) (w : World) (h : rl_awake.f  = some r) :
  Calls Try.prog 6 #[] w fun e w' => e = .returned (.bool r) ∧ Drawn0 w w' := by
 have H : ((eval_Op.f 8 (-7) 2).bind fun t982 => (if t982 = (-3) then ((eval_Op.f 8 7 0).bind fun t983 => (some (t983 == 0))) else (some false))) = some r := h
 clear h
 replace H := Option.bind_eq_some_iff.mp H
 obtain ⟨t982, A10, H⟩ := H
 (try dsimp only at H)
 have A1 := za A10
 clear A10
 by_cases c2 : t982 = (-3)
 ·
  rw [if_pos c2] at H
  have c2b0 := beq_iff_eq.mpr c2
  have c2b1 := bne_eq_false_iff_eq.mpr c2
  clear c2
  replace H := Option.bind_eq_some_iff.mp H
  obtain ⟨t983, A30, H⟩ := H
  (try dsimp only at H)
  have A3 := za A30
  clear A30
  obtain rfl := Option.some.inj H
  go_enter Try.func6, Try.ntmps6
  go_wp2_with (first | ((with_reducible refine gate_callee (f := 8) rfl ?_); refine goesL_ (some 1) rfl rfl Try.func8 zq18 rfl #[.int .i64 8, .int .i64 (-7), .int .i64 2] rfl zq1 ?_; (with_reducible refine (eval_Op.calls 8 (-7) 2 t982 _ A1.out).mono ?_); rintro e w' ⟨rfl, ⟨nd, rfl⟩⟩; refine ⟨_, rfl, ?_⟩) | ((with_reducible refine gate_callee (f := 8) rfl ?_); (with_reducible refine gate_dst (N := 4) rfl ?_); (refine gate_guard (by rfl) ?_; dsimp only); refine goesL_ (some 4) rfl rfl Try.func8 zq18 rfl #[.int .i64 8, .int .i64 7, .int .i64 0] rfl zq1 ?_; (with_reducible refine (eval_Op.calls 8 7 0 t983 _ A3.out).mono ?_); rintro e w' ⟨rfl, ⟨nd, rfl⟩⟩; refine ⟨_, rfl, ?_⟩))
  go_ret
  exact ⟨zq31, zq28⟩
 ·
  rw [if_neg c2] at H
  have c2b0 := beq_eq_false_iff_ne.mpr c2
  have c2b1 := bne_iff_ne.mpr c2
  obtain rfl := Option.some.inj H
  go_enter Try.func6, Try.ntmps6
  go_wp2_with (first | ((with_reducible refine gate_callee (f := 8) rfl ?_); refine goesL_ (some 1) rfl rfl Try.func8 zq18 rfl #[.int .i64 8, .int .i64 (-7), .int .i64 2] rfl zq1 ?_; (with_reducible refine (eval_Op.calls 8 (-7) 2 t982 _ A1.out).mono ?_); rintro e w' ⟨rfl, ⟨nd, rfl⟩⟩; refine ⟨_, rfl, ?_⟩))
  go_ret
  exact ⟨zq31, zq28⟩
def cmp_Or_int.l0 : Nat → Int → List Int → Int → Int → Option (Int)
 | 0, _, _, _, _ => none
 | k + 1, x3, x6, x7, x8 => if x8 < x7 then (if 0 ≤ x8 then (if x8 < (x6.length : Int) then (if (rd x6 x8) = x3 then (cmp_Or_int.l0 k x3 x6 x7 (wrap64 (x8 + 1))) else (some (rd x6 x8))) else (none)) else (none)) else (some x3)
def cmp_Or_int.f (k : Nat) (l0 : List Int) : Option (Int) := cmp_Or_int.l0 k 0 l0 (l0.length : Int) 0
theorem cmp_Or_int.mono_l : ∀ k, (∀ y0 y1 y2 y3, LeO (cmp_Or_int.l0 k y0 y1 y2 y3) (cmp_Or_int.l0 (k + 1) y0 y1 y2 y3))
 | 0 => fun _ _ _ _ r h => by simp [cmp_Or_int.l0] at h
 | k + 1 => by
  have ih0 := cmp_Or_int.mono_l k
  ·
   intro y0 y1 y2 y3
   unfold cmp_Or_int.l0
   repeat' with_reducible first | apply ih0 | exact LeO.refl _ | exact LeO.none _ | refine LeO.ite ?_ ?_ | refine LeO.bind ?_ (fun _ => ?_)
theorem cmp_Or_int.mono : ∀ a0 k, LeO (cmp_Or_int.f k a0) (cmp_Or_int.f (k + 1) a0) := by
 intro a0 k
 have ih0 := cmp_Or_int.mono_l k
 unfold cmp_Or_int.f
 repeat' with_reducible first | apply ih0 | exact LeO.refl _ | exact LeO.none _ | refine LeO.ite ?_ ?_ | refine LeO.bind ?_ (fun _ => ?_)
theorem cmp_Or_int.calls (k : Nat) (A0 : Option Addr) (c0 : Nat) (l0 : List Int) (r : Int) (w : World) (hr0 : Kd.C (Kd.int .i64) w A0 l0.length l0) (hc0 : l0.length ≤ c0) (h : cmp_Or_int.f k l0 = some r) :
  Calls Try.prog 40 #[.slice A0 l0.length c0] w fun e w' => e = .returned (.int .i64 r) ∧ Drawn0 w w' := by
 have HR0 := za hr0
 have HC0 := za hc0
 clear hr0 hc0
 have H : (cmp_Or_int.l0 k 0 l0 (l0.length : Int) 0) = some r := h
 clear h
 have H' := za H
 clear H
 go_enter Try.func40, Try.ntmps40
 go_wp2
 go_loopg [8] k (fun kq v8 w' => ∃ (x8_1 : Int), v8 = .int .i64 x8_1 ∧ Aside0 (cmp_Or_int.l0 kq 0 l0 (l0.length : Int) x8_1 = some r) ∧ Aside0 (kq ≤ k) ∧ Drawn0 w w')
 case atStart => exact ⟨(0), zq29, H', ⟨Nat.le_refl _⟩, zq28⟩
 case round =>
  clear H'
  obtain ⟨x8_1, rfl, HA, HK1, ⟨m1, rfl⟩⟩ := hrel
  cases gk with
  | zero => exact absurd HA.out (by simp [cmp_Or_int.l0])
  | succ k1 =>
   have H := HA.out
   clear HA
   simp only [cmp_Or_int.l0] at H
   by_cases c2 : x8_1 < (l0.length : Int)
   ·
    rw [if_pos c2] at H
    have c2b0 := decide_eq_true c2
    clear c2
    by_cases c3 : 0 ≤ x8_1
    ·
     rw [if_pos c3] at H
     have c3b0 := decide_eq_true c3
     clear c3
     by_cases c4 : x8_1 < (l0.length : Int)
     ·
      rw [if_pos c4] at H
      have c4b0 := decide_eq_true c4
      clear c4
      by_cases c5 : (rd l0 x8_1) = 0
      ·
       rw [if_pos c5] at H
       have c5b0 := beq_iff_eq.mpr c5
       have c5b1 := bne_eq_false_iff_eq.mpr c5
       clear c5
       have H' := za H
       clear H
       have p984 : 0 ≤ (x8_1 : Int) := of_decide_eq_true zq11
       have q984 : x8_1 < (l0.length : Int) := of_decide_eq_true zq11
       obtain ⟨ad984, e984, hx984_0⟩ := Kd.at_int HR0.out x8_1 p984 q984
       cases e984
       replace p984 := eq_true p984
       replace q984 := eq_true q984
       go_wp2
       go_roundg k1
       case measure => have := HK1.out; omega
       case rel => exact ⟨(wrap64 (x8_1 + 1)), zq29, H', ⟨by have := HK1.out; omega⟩, zq28⟩
      ·
       rw [if_neg c5] at H
       have c5b0 := beq_eq_false_iff_ne.mpr c5
       have c5b1 := bne_iff_ne.mpr c5
       obtain rfl := Option.some.inj H
       have p984 : 0 ≤ (x8_1 : Int) := of_decide_eq_true zq11
       have q984 : x8_1 < (l0.length : Int) := of_decide_eq_true zq11
       obtain ⟨ad984, e984, hx984_0⟩ := Kd.at_int HR0.out x8_1 p984 q984
       cases e984
       replace p984 := eq_true p984
       replace q984 := eq_true q984
       go_wp2
       go_ret
       exact ⟨zq31, zq28⟩
     ·
      rw [if_neg c4] at H
      exact absurd H (by simp)
    ·
     rw [if_neg c3] at H
     exact absurd H (by simp)
   ·
    rw [if_neg c2] at H
    have c2b0 := decide_eq_false c2
    clear c2
    obtain rfl := Option.some.inj H
    go_wp2
    go_ret
    exact ⟨zq31, zq28⟩
def strings_Compare.f (a0 a1 : ByteArray) : Option Int := some (Lib.compareBytes a0.data.toList a1.data.toList)
theorem strings_Compare.calls (a0 : ByteArray) (a1 : ByteArray) (r : Int) (w : World) (h : strings_Compare.f a0 a1 = some r) :
  Calls Try.prog 41 #[.string a0, .string a1] w fun e w' => e = .returned (.int .i64 r) ∧ Drawn0 w w' := by
 cases h
 refine (Try.strings_Compare a0 a1 w).mono ?_
 rintro e w' ⟨rfl, rfl⟩
 exact ⟨rfl, Drawn0.refl _⟩
def memory_compare.f (k : Nat) (a0_0 : ByteArray) (a0_1 : ByteArray) (a0_2 : Int) (a1_0 : ByteArray) (a1_1 : ByteArray) (a1_2 : Int) : Option (Int) := (strings_Compare.f a0_0 a1_0).bind fun t987 => ((strings_Compare.f a0_1 a1_1).bind fun t988 => ((cmp_Or_int.f k (([t987, t988] : List Int))).bind fun t992 => (some t992)))
theorem memory_compare.mono : ∀ a0 a1 a2 a3 a4 a5 k, LeO (memory_compare.f k a0 a1 a2 a3 a4 a5) (memory_compare.f (k + 1) a0 a1 a2 a3 a4 a5) := by
 intro a0 a1 a2 a3 a4 a5 k
 unfold memory_compare.f
 repeat' with_reducible first | apply cmp_Or_int.mono | exact LeO.refl _ | exact LeO.none _ | refine LeO.ite ?_ ?_ | refine LeO.bind ?_ (fun _ => ?_)
def memory_compare.T1 : Bool × List (List Nat × List Nat) := (true, [([], []), ([0], [0]), ([], []), ([2], [2]), ([1, 3], [1, 3]), ([], []), ([5], [5]), ([], []), ([7], [7]), ([6, 8, 4], [6, 8]), ([4, 9], [4, 9]), ([10, 9], [10]), ([11, 11, 0, 1, 2, 3, 4, 5, 6, 7, 8, 9, 10, 11], [11])])
def memory_compare.B1 : List Nat := [0, 1, 0, 4, 15, 0, 32, 0, 128, 511, 1023, 2047, 4095]
theorem memory_compare.tab1 : rtab .any (opsOf Try.f34 1) = memory_compare.T1 := by kernel_rfl
theorem memory_compare.bits1 : waitsOk memory_compare.T1.2 memory_compare.B1 = true := by kernel_rfl
theorem memory_compare.calls (k : Nat) (a0_0 : ByteArray) (a0_1 : ByteArray) (a0_2 : Int) (a1_0 : ByteArray) (a1_1 : ByteArray) (a1_2 : Int) (r : Int) (w : World) (h : memory_compare.f k a0_0 a0_1 a0_2 a1_0 a1_1 a1_2 = some r) :
  Calls Try.prog 34 #[.agg #[.string a0_0, .string a0_1, .int .i64 a0_2], .agg #[.string a1_0, .string a1_1, .int .i64 a1_2]] w fun e w' => e = .returned (.int .i64 r) ∧ Below w.heap.size w w' := by
 have hu63 := Try.underlying63
 have HB := za (Below.refl w.heap.size w)
 have H : ((strings_Compare.f a0_0 a1_0).bind fun t987 => ((strings_Compare.f a0_1 a1_1).bind fun t988 => ((cmp_Or_int.f k (([t987, t988] : List Int))).bind fun t992 => (some t992)))) = some r := h
 clear h
 replace H := Option.bind_eq_some_iff.mp H
 obtain ⟨t987, A30, H⟩ := H
 (try dsimp only at H)
 have A3 := za A30
 clear A30
 replace H := Option.bind_eq_some_iff.mp H
 obtain ⟨t988, A40, H⟩ := H
 (try dsimp only at H)
 have A4 := za A40
 clear A40
 obtain ⟨y989, hy989⟩ : ∃ y_ : List Int, y_ = (([t987, t988] : List Int)) := ⟨_, rfl⟩
 replace H : ((cmp_Or_int.f k y989).bind fun t992 => (some t992)) = some r := by first | (rw [hy989]; with_reducible exact H) | (have H2_ := (Option.bind_some _ _).symm.trans H; rw [hy989]; with_reducible exact H2_) | (have H2_ := (Option.bind_some _ _).symm.trans H; with_reducible exact H2_) | with_reducible exact H | (rw [hy989]; exact H) | exact H
 have Ny989 := za hy989
 clear hy989
 replace H := Option.bind_eq_some_iff.mp H
 obtain ⟨t992, A50, H⟩ := H
 (try dsimp only at H)
 have A5 := za A50
 clear A50
 obtain rfl := Option.some.inj H
 go_enter Try.func34, Try.ntmps34
 try go_wp2_with (first | ((with_reducible refine gate_dst (N := 2) rfl ?_); refine box_event ?hg (N := 2) ?hd (cs := #[.string a0_0, .string a0_1, .int .i64 a0_2]) (t := 63) ?hr ?_; (case hd => rfl); (case hg => rfl); (case hr => exact zq39); intro gb985 hg w6 hbox hb; have BK985 := za (hbox); have GW985 := za ((by rw [hg]; exact (below_size zq4) : w.heap.size ≤ gb985)); have GE985 := za ((by rw [hg]; exact (below_size zq4) : w.heap.size ≤ gb985)); replace HB := za (below_step zq4 hb); clear hb hbox hg) | ((with_reducible refine gate_dst (N := 3) rfl ?_); refine box_event ?hg (N := 3) ?hd (cs := #[.string a1_0, .string a1_1, .int .i64 a1_2]) (t := 63) ?hr ?_; (case hd => rfl); (case hg => rfl); (case hr => exact zq39); intro gb986 hg w7 hbox hb; have BK986 := za (hbox); have GW986 := za ((by rw [hg]; exact (below_size zq83) : w.heap.size ≤ gb986)); have GE986 := za ((by rw [hg]; exact (below_size zq83) : w.heap.size ≤ gb986)); replace HB := za (below_step zq83 hb); have NB985_986 := za ((by rw [hg]; exact Nat.ne_of_lt (blk_lt (g := gb985) (zb BK985.out)) : gb985 ≠ gb986)); have NB986_985 := za ((by rw [hg]; exact Nat.ne_of_gt (blk_lt (g := gb985) (zb BK985.out)) : gb986 ≠ gb985)); replace BK985 := za (blk_below (g := gb985) (zb BK985.out) hb); clear hb hbox hg))
 replace BK985 := za (blk_drew BK985.out)
 replace BK986 := za (blk_drew BK986.out)
 replace HB := za (below_drew1 HB.out)
 refine start_ (n := 13) (S := fun w' => w'.cell? ⟨gb985, 0, none⟩ = some (.string a0_0) ∧ w'.cell? ⟨gb985, 1, none⟩ = some (.string a0_1) ∧ w'.cell? ⟨gb985, 2, none⟩ = some (.int .i64 a0_2) ∧ w'.cell? ⟨gb986, 0, none⟩ = some (.string a1_0) ∧ w'.cell? ⟨gb986, 1, none⟩ = some (.string a1_1) ∧ w'.cell? ⟨gb986, 2, none⟩ = some (.int .i64 a1_2)) (ds := []) #[false, false, false, false, false, false, false, false, false, false, false, false, false] zq18 rfl rfl ⟨(blk_cell BK985.out 0).trans rfl, (blk_cell BK985.out 1).trans rfl, (blk_cell BK985.out 2).trans rfl, (blk_cell BK986.out 0).trans rfl, (blk_cell BK986.out 1).trans rfl, (blk_cell BK986.out 2).trans rfl⟩ (fun hHeld => ?_); refine with_tabW memory_compare.tab1 memory_compare.bits1 (fun HT_ HW_ => ?_)
 generalize w7.drew = w8 at BK985 BK986 HB hHeld ⊢
 refine pure_ (i := 0) (N := some 5) #[true, false, false, false, false, false, false, false, false, false, false, false, false] rfl rfl (any_of HT_.out zq18) (fun _ _ _ h => h) (Or.inl ⟨by rfl, zpv⟩) zpw ?_
 refine pure_ (i := 2) (N := some 7) #[true, false, true, false, false, false, false, false, false, false, false, false, false] rfl rfl (any_of HT_.out zq18) (fun _ _ _ h => h) (Or.inl ⟨by rfl, zpv⟩) zpw ?_
 refine pure_ (i := 5) (N := some 10) #[true, false, true, false, false, true, false, false, false, false, false, false, false] rfl rfl (any_of HT_.out zq18) (fun _ _ _ h => h) (Or.inl ⟨by rfl, zpv⟩) zpw ?_
 refine pure_ (i := 7) (N := some 12) #[true, false, true, false, false, true, false, true, false, false, false, false, false] rfl rfl (any_of HT_.out zq18) (fun _ _ _ h => h) (Or.inl ⟨by rfl, zpv⟩) zpw ?_
 refine take_ (i := 1) (N := some 6) (v := ?_) (a' := ?_) #[true, true, true, false, false, true, false, true, false, false, false, false, false] rfl rfl (take_ofW HT_.out HW_.out zq18) (fun _ _ _ h => h) (Or.inl ⟨by rfl, ?_⟩) hHeld ?_ ?_
 rotate_left
 ·
  rintro w' ⟨s0, s1, s2, s3, s4, s5⟩
  go_simp
  with_reducible rfl
 rotate_left
 ·
  simp only [Act.put, List.setIfInBounds_toArray, List.set_cons_zero, List.set_cons_succ, i64_w, i32_w]
  rfl
 refine take_ (i := 3) (N := some 8) (v := ?_) (a' := ?_) #[true, true, true, true, false, true, false, true, false, false, false, false, false] rfl rfl (take_ofW HT_.out HW_.out zq18) (fun _ _ _ h => h) (Or.inl ⟨by rfl, ?_⟩) hHeld ?_ ?_
 rotate_left
 ·
  rintro w' ⟨s0, s1, s2, s3, s4, s5⟩
  go_simp
  with_reducible rfl
 rotate_left
 ·
  simp only [Act.put, List.setIfInBounds_toArray, List.set_cons_zero, List.set_cons_succ, i64_w, i32_w]
  rfl
 refine take_ (i := 6) (N := some 11) (v := ?_) (a' := ?_) #[true, true, true, true, false, true, true, true, false, false, false, false, false] rfl rfl (take_ofW HT_.out HW_.out zq18) (fun _ _ _ h => h) (Or.inl ⟨by rfl, ?_⟩) hHeld ?_ ?_
 rotate_left
 ·
  rintro w' ⟨s0, s1, s2, s3, s4, s5⟩
  go_simp
  with_reducible rfl
 rotate_left
 ·
  simp only [Act.put, List.setIfInBounds_toArray, List.set_cons_zero, List.set_cons_succ, i64_w, i32_w]
  rfl
 refine take_ (i := 8) (N := some 13) (v := ?_) (a' := ?_) #[true, true, true, true, false, true, true, true, true, false, false, false, false] rfl rfl (take_ofW HT_.out HW_.out zq18) (fun _ _ _ h => h) (Or.inl ⟨by rfl, ?_⟩) hHeld ?_ ?_
 rotate_left
 ·
  rintro w' ⟨s0, s1, s2, s3, s4, s5⟩
  go_simp
  with_reducible rfl
 rotate_left
 ·
  simp only [Act.put, List.setIfInBounds_toArray, List.set_cons_zero, List.set_cons_succ, i64_w, i32_w]
  rfl
 refine one_ (i := 4) (N := some 9) #[true, true, true, true, true, true, true, true, true, false, false, false, false] rfl rfl (one_of HT_.out zq18) (by decide) (fun K hK => ?_)
 refine goes_ Try.func41 zq18 rfl #[.string a0_0, .string a1_0] (by rfl) rfl rfl zq1 ?_
 with_reducible refine (strings_Compare.calls a0_0 a1_0 t987 _ A3.out).mono ?_
 rintro e w' ⟨rfl, ⟨nd, rfl⟩⟩
 refine ⟨_, rfl, ?_⟩
 refine hK.out _ _ ⟨(blk_cell BK985.out 0).trans rfl, (blk_cell BK985.out 1).trans rfl, (blk_cell BK985.out 2).trans rfl, (blk_cell BK986.out 0).trans rfl, (blk_cell BK986.out 1).trans rfl, (blk_cell BK986.out 2).trans rfl⟩ (fun hHeld => ?_)
 clear hK K
 refine norm_ (a' := ?_) ?_ ?_
 rotate_left
 ·
  show Act.put _ (some 9) _ = _
  simp only [Act.put, List.setIfInBounds_toArray, List.set_cons_zero, List.set_cons_succ, i64_w, i32_w]
  rfl
 refine one_ (i := 9) (N := some 14) #[true, true, true, true, true, true, true, true, true, true, false, false, false] rfl rfl (one_of HT_.out zq18) (by decide) (fun K hK => ?_)
 refine goes_ Try.func41 zq18 rfl #[.string a0_1, .string a1_1] (by rfl) rfl rfl zq1 ?_
 with_reducible refine (strings_Compare.calls a0_1 a1_1 t988 _ A4.out).mono ?_
 rintro e w' ⟨rfl, ⟨nd, rfl⟩⟩
 refine ⟨_, rfl, ?_⟩
 refine hK.out _ _ ⟨(blk_cell BK985.out 0).trans rfl, (blk_cell BK985.out 1).trans rfl, (blk_cell BK985.out 2).trans rfl, (blk_cell BK986.out 0).trans rfl, (blk_cell BK986.out 1).trans rfl, (blk_cell BK986.out 2).trans rfl⟩ (fun hHeld => ?_)
 clear hK K
 refine norm_ (a' := ?_) ?_ ?_
 rotate_left
 ·
  show Act.put _ (some 14) _ = _
  simp only [Act.put, List.setIfInBounds_toArray, List.set_cons_zero, List.set_cons_succ, i64_w, i32_w]
  rfl
 refine one_ (i := 10) (N := some 15) #[true, true, true, true, true, true, true, true, true, true, true, false, false] rfl rfl (one_of HT_.out zq18) (by decide) (fun K hK => ?_)
 refine Kd.R_lit_step (Kd.int .i64) _ 3 ?hg (N := 15) ?hd (xs := ([t987, t988] : List Int)) (inner := [.int .i64 t987, .int .i64 t988]) (ok := fun _ => True) (okp := fun _ => True) ?hr ?hp (fun _ hk => hk) trivial (Below.refl _ _) (Nat.le_refl _) (by simp) ?_; (case hd => rfl); (case hg => rfl); (case hr => exact zq39); (case hp => exact (Reps.one (show Kd.M (Kd.int .i64) _ _ _ t987 [.int .i64 t987] from rfl) (Reps.one (show Kd.M (Kd.int .i64) _ _ _ t988 [.int .i64 t988] from rfl) (Reps.none _ _))))
 intro v990 w9 ho10 hb hg_ hnew_
 clear hg_ hnew_
 (first | rw [← Ny989.out] at ho10 | (simp only [Int.reduceToNat] at ho10; rw [← Ny989.out] at ho10))
 have HO991 := za (Kd.R_lower ho10 (below_size zq77))
 replace BK985 := za (blk_below (g := gb985) (zb BK985.out) hb)
 replace BK986 := za (blk_below (g := gb986) (zb BK986.out) hb)
 replace HB := za (below_step zq77 hb)
 clear hb ho10
 obtain ⟨Ao11, co11, eo11⟩ := Kd.R_slice HO991.out
 (first | subst eo11 | (injection eo11 with f1_ f2_ f3_; have f4_ := f1_.symm; have f5_ := f3_.symm; clear f1_ f2_ f3_; subst f4_; subst f5_))
 refine hK.out _ _ ⟨(blk_cell BK985.out 0).trans rfl, (blk_cell BK985.out 1).trans rfl, (blk_cell BK985.out 2).trans rfl, (blk_cell BK986.out 0).trans rfl, (blk_cell BK986.out 1).trans rfl, (blk_cell BK986.out 2).trans rfl⟩ (fun hHeld => ?_)
 clear hK K
 refine norm_ (a' := ?_) ?_ ?_
 rotate_left
 ·
  show Act.put _ (some 15) _ = _
  simp only [Act.put, List.setIfInBounds_toArray, List.set_cons_zero, List.set_cons_succ, i64_w, i32_w]
  rfl
 refine one_ (i := 11) (N := some 16) #[true, true, true, true, true, true, true, true, true, true, true, true, false] rfl rfl (one_of HT_.out zq18) (by decide) (fun K hK => ?_)
 refine goes_ Try.func40 zq18 rfl #[.slice Ao11 y989.length co11] (by rfl) rfl rfl zq1 ?_
 with_reducible refine (cmp_Or_int.calls k _ _ y989 t992 _ ?side1 ?side2 A5.out).mono ?_
 (case side1 => repeat (first | exact (Kd.R_reads' HO991.out).2.2 | (with_reducible refine Kd.C_alloc ?_ _) | (with_reducible refine Kd.C_drewN ?_ _) | (with_reducible refine Kd.C_drew ?_)))
 (case side2 => exact (Kd.R_reads' HO991.out).2.1)
 rintro e w' ⟨rfl, ⟨nd, rfl⟩⟩
 refine ⟨_, rfl, ?_⟩
 refine hK.out _ _ ⟨(blk_cell BK985.out 0).trans rfl, (blk_cell BK985.out 1).trans rfl, (blk_cell BK985.out 2).trans rfl, (blk_cell BK986.out 0).trans rfl, (blk_cell BK986.out 1).trans rfl, (blk_cell BK986.out 2).trans rfl⟩ (fun hHeld => ?_)
 clear hK K
 refine norm_ (a' := ?_) ?_ ?_
 rotate_left
 ·
  show Act.put _ (some 16) _ = _
  simp only [Act.put, List.setIfInBounds_toArray, List.set_cons_zero, List.set_cons_succ, i64_w, i32_w]
  rfl
 refine pure_ (i := 12) (N := some 4) #[true, true, true, true, true, true, true, true, true, true, true, true, true] rfl rfl (any_of HT_.out zq18) (fun _ _ _ h => h) (Or.inl ⟨by rfl, zpv⟩) zpw ?_
 refine done_ (done_of HT_.out zq18) ?_
 try go_wp2
 go_ret
 exact ⟨zq16, zq77⟩
end Go.Proofs.Ytcmpmlklednhbaa.QEvalJoins
