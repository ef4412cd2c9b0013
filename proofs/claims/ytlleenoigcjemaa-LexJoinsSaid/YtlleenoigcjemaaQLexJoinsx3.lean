-- Written by wip/myprint.py of this session's repo, out of the translation. Lean checks it.
import Derived.Test.YtlleenoigcjemaaQLexJoinsx0
import Derived.Test.YtlleenoigcjemaaQLexJoinsx2
namespace Go.Proofs.Ytlleenoigcjemaa.QLexJoins
open Go.RowKit Go.Proofs.YtlleenoigcjemaaW.PrintWords Go.Proofs.YtlleenoigcjemaaW.PrintLast Go.Proofs.YtlleenoigcjemaaW.PrintMore
attribute [local go_sem] max2_int min2_int max_two min_two max_three min_three max_four min_four   -- for this text's walks alone
set_option linter.unusedVariables false
set_option linter.unusedSimpArgs false

/-! ### lex_All: function 32 -/
def lex_All.nl (c : Int) : Bool := c != 10
def lex_All.within (c : Int) : Bool := (lex_within.f c).getD false
def lex_All.digit (c : Int) : Bool := (lex_digit.f c).getD false
def lex_All.small (c : Int) : Bool := (lex_small.f c).getD false
theorem lex_All.within_f (c : Int) : lex_within.f c = some (lex_All.within c) := by
  unfold lex_All.within lex_within.f lex_small.f lex_digit.f
  by_cases h1 : c ≥ 97 <;> by_cases h2 : c ≤ 122 <;> by_cases h3 : c ≥ 48 <;> by_cases h4 : c ≤ 57 <;> simp [h1, h2, h3, h4]
theorem lex_All.digit_f (c : Int) : lex_digit.f c = some (lex_All.digit c) := by
  unfold lex_All.digit lex_digit.f
  by_cases h3 : c ≥ 48 <;> simp [h3]
theorem lex_All.small_f (c : Int) : lex_small.f c = some (lex_All.small c) := by
  unfold lex_All.small lex_small.f
  by_cases h3 : c ≥ 97 <;> simp [h3]
/-- From i on, at most d bytes: how far p holds. -/
def lex_All.skip (q : Int → Bool) (s : ByteArray) : Nat → Nat → Nat
  | 0, i => i
  | d + 1, i => if i < s.size then (if q (bt s (i : Int)) = true then lex_All.skip q s d (i + 1) else i) else i
theorem lex_All.skip_le (q : Int → Bool) (s : ByteArray) : ∀ d i, i ≤ s.size → i ≤ lex_All.skip q s d i ∧ lex_All.skip q s d i ≤ s.size
  | 0, i, h => ⟨Nat.le_refl _, h⟩
  | d + 1, i, h => by
    unfold lex_All.skip
    split
    · split
      · have := lex_All.skip_le q s d (i + 1) (by omega)
        omega
      · omega
    · omega
abbrev lex_All.upto (q : Int → Bool) (s : ByteArray) (i : Nat) : Nat := lex_All.skip q s (s.size - i) i
def lex_All.l0 : Nat → ByteArray → List S49 → Nat → Option ((List S49) × Int × Int)
  | 0, _, _, _ => none
  | k + 1, s, out, i =>
    if i < s.size then
      (if bt s (i : Int) = 32 ∨ bt s (i : Int) = 9 ∨ bt s (i : Int) = 10 ∨ bt s (i : Int) = 13 then (lex_All.l0 k s out (i + 1))
      else (if bt s (i : Int) = 35 then (lex_All.l0 k s out (lex_All.upto lex_All.nl s i))
      else (if lex_All.small (bt s (i : Int)) = true then ((lex_word.f k (s.extract i (lex_All.upto lex_All.within s i))).bind fun b => (if b.2 = 0 then (if out.length < 4398046511104 then (lex_All.l0 k s (out ++ [(⟨b.1, s.extract i (lex_All.upto lex_All.within s i), (i : Int)⟩ : S49)]) (lex_All.upto lex_All.within s i)) else none) else (some (([] : List S49), b.2, (i : Int)))))
      else (if lex_All.digit (bt s (i : Int)) = true then ((lex_number.f k (s.extract i (lex_All.upto lex_All.digit s i)) (s.extract (lex_All.upto lex_All.digit s i) s.size)).bind fun b => (if b.2 = 0 then (if out.length < 4398046511104 then (lex_All.l0 k s (out ++ [(⟨b.1, s.extract i (lex_All.upto lex_All.digit s i), (i : Int)⟩ : S49)]) (lex_All.upto lex_All.digit s i)) else none) else (some (([] : List S49), b.2, (i : Int)))))
      else ((lex_sign.f k (s.extract i s.size)).bind fun t => (if i + t.size ≤ s.size then (if t.toList = [] then (some (([] : List S49), 10, (i : Int))) else (if out.length < 4398046511104 then (lex_All.l0 k s (out ++ [(⟨4, t, (i : Int)⟩ : S49)]) (i + t.size)) else none)) else none))))))
    else (if out.length < 4398046511104 then (some (out ++ [(⟨0, (⟨#[]⟩ : ByteArray), (s.size : Int)⟩ : S49)], 0, 0)) else none)
def lex_All.f (k : Nat) (a0 : ByteArray) : Option ((List S49) × Int × Int) := if a0.size ≤ 140737488351232 then (lex_All.l0 k a0 ([] : List S49) 0) else none
theorem lex_All.mono_l : ∀ k, (∀ y0 y1 y2, LeO (lex_All.l0 k y0 y1 y2) (lex_All.l0 (k + 1) y0 y1 y2))
  | 0 => fun _ _ _ r h => by simp [lex_All.l0] at h
  | k + 1 => by
    have ih0 := lex_All.mono_l k
    · intro y0 y1 y2
      unfold lex_All.l0
      repeat' first
      | (with_reducible exact ih0 _ _ _)
      | (with_reducible exact lex_word.mono _ _)
      | (with_reducible exact lex_number.mono _ _ _)
      | (with_reducible exact lex_sign.mono _ _)
      | (with_reducible exact LeO.refl _)
      | (with_reducible exact LeO.none _)
      | (with_reducible refine LeO.ite ?_ ?_)
      | (with_reducible refine LeO.bind ?_ (fun _ => ?_))
      | exact ih0 _ _ _
      | exact lex_word.mono _ _
      | exact lex_number.mono _ _ _
      | exact lex_sign.mono _ _
      | exact LeO.none _
      | refine LeO.ite ?_ ?_
      | refine LeO.bind ?_ (fun _ => ?_)
theorem lex_All.mono : ∀ a0 k, LeO (lex_All.f k a0) (lex_All.f (k + 1) a0) := by
  intro a0 k
  have ih0 := lex_All.mono_l k
  unfold lex_All.f
  repeat' first
      | (with_reducible exact ih0 _ _ _)
      | (with_reducible exact lex_word.mono _ _)
      | (with_reducible exact lex_number.mono _ _ _)
      | (with_reducible exact lex_sign.mono _ _)
      | (with_reducible exact LeO.refl _)
      | (with_reducible exact LeO.none _)
      | (with_reducible refine LeO.ite ?_ ?_)
      | (with_reducible refine LeO.bind ?_ (fun _ => ?_))
      | exact ih0 _ _ _
      | exact lex_word.mono _ _
      | exact lex_number.mono _ _ _
      | exact lex_sign.mono _ _
      | exact LeO.none _
      | refine LeO.ite ?_ ?_
      | refine LeO.bind ?_ (fun _ => ?_)
/-- What is held: the text in its variable (b1), the place in its own (b5). -/
structure lex_All.X (w W : World) (s : ByteArray) (b1 b5 : Nat) (i : Nat) : Prop where
  h1 : W.heap[b1]? = some (.cells #[.string s] 9 (0, 0))
  h5 : W.heap[b5]? = some (.cells #[.int .i64 (i : Int)] 3 (0, 0))
  hB : Below w.heap.size w W
  g1 : w.heap.size ≤ b1
  g5 : w.heap.size ≤ b5
section
variable {w W W' : World} {s : ByteArray} {b1 b5 i j : Nat}
theorem lex_All.X.ne (x : lex_All.X w W s b1 b5 i) : b1 ≠ b5 := blk_ne x.h1 x.h5 (by decide)
theorem lex_All.X.below (x : lex_All.X w W s b1 b5 i) (hb : Below W.heap.size W W') : lex_All.X w W' s b1 b5 i := ⟨blk_below x.h1 hb, blk_below x.h5 hb, below_step x.hB hb, x.g1, x.g5⟩
theorem lex_All.X.drewN (x : lex_All.X w W s b1 b5 i) (m : Nat) : lex_All.X w (W.drewN m) s b1 b5 i := ⟨x.h1, x.h5, pw_below_drewN x.hB m, x.g1, x.g5⟩
theorem lex_All.X.set (x : lex_All.X w W s b1 b5 i) (j : Nat) : lex_All.X w (W.setCell ⟨b5, 0, none⟩ (.int .i64 (j : Int))) s b1 b5 j := ⟨blk_far x.h1 x.ne _, blk_put x.h5 0 _ rfl, below_set x.hB x.g5, x.g1, x.g5⟩
theorem lex_All.X.setz (x : lex_All.X w W s b1 b5 i) (j : Nat) (z : Int) (hz : z = (j : Int)) : lex_All.X w (W.setCell ⟨b5, 0, none⟩ (.int .i64 z)) s b1 b5 j := by
  subst hz; exact x.set j
theorem lex_All.X.run (x : lex_All.X w W s b1 b5 i) (hg : W.grownBy W' (some b5)) (h5 : W'.heap[b5]? = some (.cells #[.int .i64 (j : Int)] 3 (0, 0))) : lex_All.X w W' s b1 b5 j :=
  ⟨blk_grown x.h1 hg (by have := x.ne; simpa using this), h5, x.hB.grown hg (below_size x.hB) (fun k e => by cases e; exact x.g5), x.g1, x.g5⟩
theorem lex_All.X.cells (x : lex_All.X w W s b1 b5 i) : W.cell? ⟨b1, 0, none⟩ = some (.string s) ∧ W.cell? ⟨b5, 0, none⟩ = some (.int .i64 (i : Int)) ∧ W.frozen? ⟨b5, 0, none⟩ = false ∧ b1 ≠ b5 ∧ b5 ≠ b1 := ⟨(blk_cell x.h1 0).trans rfl, (blk_cell x.h5 0).trans rfl, blk_frozen x.h5 0, x.ne, Ne.symm x.ne⟩
theorem lex_All.rset {base : Nat} {v : Value} {xs : List S49} {ok : Nat → Prop} (h : Kd.R k49 49 W base ok v xs) (h5 : W.heap[b5]? = some (.cells #[.int .i64 (i : Int)] 3 (0, 0))) (u : Value) : Kd.R k49 49 (W.setCell ⟨b5, 0, none⟩ u) base ok v xs :=
  Kd.R_mono (Kd.R_far (p := ⟨b5, 0, none⟩) (Kd.R_types h h5 (by decide)) (fun _ hk => hk.2) u) (fun _ hk => hk.1)
theorem lex_All.rrun {base : Nat} {v : Value} {xs : List S49} {ok : Nat → Prop} (h : Kd.R k49 49 W base ok v xs) (h5 : W.heap[b5]? = some (.cells #[.int .i64 (i : Int)] 3 (0, 0))) (hg : W.grownBy W' (some b5)) : Kd.R k49 49 W' base ok v xs :=
  Kd.R_mono (Kd.R_grown (Kd.R_types h h5 (by decide)) hg (fun _ hk e => hk.2 (by injection e))) (fun _ hk => hk.1)
end

/-- The reader of what a predicate holds of: function F, of which q is known. -/
theorem lex_All.run_nl (q : Int → Bool) (hF : ∀ (c : Int) (W : World), Calls Try.prog 41 #[.int .u8 c] W fun e W' => e = .returned (.bool (q c)) ∧ Drawn0 W W') (s : ByteArray) (i : Nat) (hi : i ≤ s.size) (hs : s.size ≤ 140737488351232) (b1 b5 : Nat) (w : World)
    (h1 : w.heap[b1]? = some (.cells #[.string s] 9 (0, 0))) (h5 : w.heap[b5]? = some (.cells #[.int .i64 (i : Int)] 3 (0, 0))) :
    Calls Try.prog 40 #[.func (.func 41) #[] #[], .pointer (some ⟨b5, 0, none⟩), .pointer (some ⟨b1, 0, none⟩)] w fun e w' => e = .returned (.string (s.extract i (lex_All.upto q s i))) ∧ w'.heap[b5]? = some (.cells #[.int .i64 ((lex_All.upto q s i : Nat) : Int)] 3 (0, 0)) ∧ w.grownBy w' (some b5) := by
  have hne := blk_ne h1 h5 (by decide)
  have hne2 := Ne.symm hne
  have HI := Aside0.mk hi
  have HS := Aside0.mk hs
  have H1 := Aside0.mk h1
  have H5 := Aside0.mk h5
  have c1 := (blk_cell h1 0).trans rfl
  have c5 := (blk_cell h5 0).trans rfl
  have HQ := Aside0.mk hF
  clear h1 h5 hi hs hF
  obtain ⟨n, hn⟩ : ∃ n, lex_All.upto q s i = n := ⟨_, rfl⟩
  rw [hn]
  have HN := Aside0.mk hn
  clear hn
  go_enter Try.func40, Try.ntmps40
  go_wp2
  go_loopg [] (s.size - i) (fun kq w' => ∃ j : Nat, Aside0 (i ≤ j ∧ j ≤ s.size) ∧ Aside0 (kq = s.size - j) ∧ Aside0 (lex_All.skip q s kq j = n) ∧ Aside0 (w'.heap[b1]? = some (.cells #[.string s] 9 (0, 0))) ∧ Aside0 (w'.heap[b5]? = some (.cells #[.int .i64 (j : Int)] 3 (0, 0))) ∧ Aside0 (w.grownBy w' (some b5)))
  case atStart => exact ⟨i, ⟨Nat.le_refl _, HI.out⟩, ⟨rfl⟩, HN, H1, H5, ⟨rfl, rfl, rfl, Nat.le_refl _, fun _ _ _ => rfl⟩⟩
  case round =>
    clear H1 H5 c1 c5 HN
    obtain ⟨j, HJ, HK, HN, H1, H5, HG⟩ := hrel
    have c1 := (blk_cell H1.out 0).trans rfl
    have c5 := (blk_cell H5.out 0).trans rfl
    have f5 := blk_frozen H5.out 0
    have e1 : ((i : Int) ≤ (j : Int)) = True := eq_true (by have := HJ.out; omega)
    have e2 : (i ≤ j) = True := eq_true HJ.out.1
    have e3 : ((j : Int) ≤ (s.size : Int)) = True := eq_true (by have := HJ.out; omega)
    have e4 : (j ≤ s.size) = True := eq_true HJ.out.2
    by_cases hlt : j < s.size
    · cases gk with
      | zero => exact absurd HK.out (by omega)
      | succ d =>
        have d1 : decide ((j : Int) < (s.size : Int)) = true := decide_eq_true (by omega)
        have d2 : decide (j < s.size) = true := decide_eq_true hlt
        have p4 : (0 ≤ (j : Int)) = True := eq_true (by omega)
        have q4 : ((j : Int) < (s.size : Int)) = True := eq_true (by omega)
        have q5 : (j < s.size) = True := eq_true hlt
        have hx4 := bt_at s (j : Int)
        simp only [Int.toNat_natCast] at hx4
        have HLT := Aside0.mk hlt
        have b1' : (0 : Int) ≤ (j : Int) := by omega
        have b2' : (j : Int) ≤ 140737488351232 := by have := HS.out; omega
        clear hlt
        obtain ⟨B, hB⟩ : ∃ B, q (bt s (j : Int)) = B := ⟨_, rfl⟩
        have hN : (if q (bt s (j : Int)) = true then lex_All.skip q s d (j + 1) else j) = n := by
          have := HN.out
          unfold lex_All.skip at this
          rwa [if_pos HLT.out] at this
        rw [hB] at hN
        have HNB := Aside0.mk hN
        have HBB := Aside0.mk hB
        clear hN hB HN
        go_wp2_with fail
        refine (HQ.out (bt s (j : Int)) _).mono ?_
        rintro e w2 ⟨rfl, ⟨nd, rfl⟩⟩
        rw [HBB.out]
        cases B
        case false =>
          go_wp2
          go_ret
          exact ⟨by rw [← HNB.out]; simp, by rw [← HNB.out]; exact H5.out, ⟨HG.out.os, HG.out.tape, HG.out.output, HG.out.size, HG.out.block⟩⟩
        case true =>
          go_wp2
          go_roundg d
          case measure => omega
          case rel => exact ⟨j + 1, ⟨by have := HJ.out; omega, by have := HLT.out; omega⟩, ⟨by have := HK.out; omega⟩, ⟨by have := HNB.out; simpa using this⟩, ⟨blk_far H1.out hne _⟩, ⟨(blk_put (cs := #[.int .i64 (j : Int)]) H5.out 0 _ rfl).trans (by simp)⟩, ⟨⟨HG.out.os, HG.out.tape, HG.out.output, by simpa [World.setCell] using HG.out.size, fun z hz hzn => (Below.heap_setCell _ _ _ _ (fun e => hzn (by simp [e]))).trans (HG.out.block z hz hzn)⟩⟩⟩
    · have d1 : decide ((j : Int) < (s.size : Int)) = false := decide_eq_false (by omega)
      have d2 : decide (j < s.size) = false := decide_eq_false hlt
      have hj : j = n := by
        have h0 := HN.out
        have h1 := HK.out
        rw [show gk = 0 by omega] at h0
        exact h0
      have HJN := Aside0.mk hj
      clear hj hlt
      go_wp2
      go_ret
      exact ⟨by rw [← HJN.out]; simp, by rw [← HJN.out]; exact H5.out, HG.out⟩

/-- The reader of what a predicate holds of: function F, of which q is known. -/
theorem lex_All.run_within (q : Int → Bool) (hF : ∀ (c : Int) (W : World), Calls Try.prog 43 #[.int .u8 c] W fun e W' => e = .returned (.bool (q c)) ∧ Drawn0 W W') (s : ByteArray) (i : Nat) (hi : i ≤ s.size) (hs : s.size ≤ 140737488351232) (b1 b5 : Nat) (w : World)
    (h1 : w.heap[b1]? = some (.cells #[.string s] 9 (0, 0))) (h5 : w.heap[b5]? = some (.cells #[.int .i64 (i : Int)] 3 (0, 0))) :
    Calls Try.prog 40 #[.func (.func 43) #[] #[], .pointer (some ⟨b5, 0, none⟩), .pointer (some ⟨b1, 0, none⟩)] w fun e w' => e = .returned (.string (s.extract i (lex_All.upto q s i))) ∧ w'.heap[b5]? = some (.cells #[.int .i64 ((lex_All.upto q s i : Nat) : Int)] 3 (0, 0)) ∧ w.grownBy w' (some b5) := by
  have hne := blk_ne h1 h5 (by decide)
  have hne2 := Ne.symm hne
  have HI := Aside0.mk hi
  have HS := Aside0.mk hs
  have H1 := Aside0.mk h1
  have H5 := Aside0.mk h5
  have c1 := (blk_cell h1 0).trans rfl
  have c5 := (blk_cell h5 0).trans rfl
  have HQ := Aside0.mk hF
  clear h1 h5 hi hs hF
  obtain ⟨n, hn⟩ : ∃ n, lex_All.upto q s i = n := ⟨_, rfl⟩
  rw [hn]
  have HN := Aside0.mk hn
  clear hn
  go_enter Try.func40, Try.ntmps40
  go_wp2
  go_loopg [] (s.size - i) (fun kq w' => ∃ j : Nat, Aside0 (i ≤ j ∧ j ≤ s.size) ∧ Aside0 (kq = s.size - j) ∧ Aside0 (lex_All.skip q s kq j = n) ∧ Aside0 (w'.heap[b1]? = some (.cells #[.string s] 9 (0, 0))) ∧ Aside0 (w'.heap[b5]? = some (.cells #[.int .i64 (j : Int)] 3 (0, 0))) ∧ Aside0 (w.grownBy w' (some b5)))
  case atStart => exact ⟨i, ⟨Nat.le_refl _, HI.out⟩, ⟨rfl⟩, HN, H1, H5, ⟨rfl, rfl, rfl, Nat.le_refl _, fun _ _ _ => rfl⟩⟩
  case round =>
    clear H1 H5 c1 c5 HN
    obtain ⟨j, HJ, HK, HN, H1, H5, HG⟩ := hrel
    have c1 := (blk_cell H1.out 0).trans rfl
    have c5 := (blk_cell H5.out 0).trans rfl
    have f5 := blk_frozen H5.out 0
    have e1 : ((i : Int) ≤ (j : Int)) = True := eq_true (by have := HJ.out; omega)
    have e2 : (i ≤ j) = True := eq_true HJ.out.1
    have e3 : ((j : Int) ≤ (s.size : Int)) = True := eq_true (by have := HJ.out; omega)
    have e4 : (j ≤ s.size) = True := eq_true HJ.out.2
    by_cases hlt : j < s.size
    · cases gk with
      | zero => exact absurd HK.out (by omega)
      | succ d =>
        have d1 : decide ((j : Int) < (s.size : Int)) = true := decide_eq_true (by omega)
        have d2 : decide (j < s.size) = true := decide_eq_true hlt
        have p4 : (0 ≤ (j : Int)) = True := eq_true (by omega)
        have q4 : ((j : Int) < (s.size : Int)) = True := eq_true (by omega)
        have q5 : (j < s.size) = True := eq_true hlt
        have hx4 := bt_at s (j : Int)
        simp only [Int.toNat_natCast] at hx4
        have HLT := Aside0.mk hlt
        have b1' : (0 : Int) ≤ (j : Int) := by omega
        have b2' : (j : Int) ≤ 140737488351232 := by have := HS.out; omega
        clear hlt
        obtain ⟨B, hB⟩ : ∃ B, q (bt s (j : Int)) = B := ⟨_, rfl⟩
        have hN : (if q (bt s (j : Int)) = true then lex_All.skip q s d (j + 1) else j) = n := by
          have := HN.out
          unfold lex_All.skip at this
          rwa [if_pos HLT.out] at this
        rw [hB] at hN
        have HNB := Aside0.mk hN
        have HBB := Aside0.mk hB
        clear hN hB HN
        go_wp2_with fail
        refine (HQ.out (bt s (j : Int)) _).mono ?_
        rintro e w2 ⟨rfl, ⟨nd, rfl⟩⟩
        rw [HBB.out]
        cases B
        case false =>
          go_wp2
          go_ret
          exact ⟨by rw [← HNB.out]; simp, by rw [← HNB.out]; exact H5.out, ⟨HG.out.os, HG.out.tape, HG.out.output, HG.out.size, HG.out.block⟩⟩
        case true =>
          go_wp2
          go_roundg d
          case measure => omega
          case rel => exact ⟨j + 1, ⟨by have := HJ.out; omega, by have := HLT.out; omega⟩, ⟨by have := HK.out; omega⟩, ⟨by have := HNB.out; simpa using this⟩, ⟨blk_far H1.out hne _⟩, ⟨(blk_put (cs := #[.int .i64 (j : Int)]) H5.out 0 _ rfl).trans (by simp)⟩, ⟨⟨HG.out.os, HG.out.tape, HG.out.output, by simpa [World.setCell] using HG.out.size, fun z hz hzn => (Below.heap_setCell _ _ _ _ (fun e => hzn (by simp [e]))).trans (HG.out.block z hz hzn)⟩⟩⟩
    · have d1 : decide ((j : Int) < (s.size : Int)) = false := decide_eq_false (by omega)
      have d2 : decide (j < s.size) = false := decide_eq_false hlt
      have hj : j = n := by
        have h0 := HN.out
        have h1 := HK.out
        rw [show gk = 0 by omega] at h0
        exact h0
      have HJN := Aside0.mk hj
      clear hj hlt
      go_wp2
      go_ret
      exact ⟨by rw [← HJN.out]; simp, by rw [← HJN.out]; exact H5.out, HG.out⟩

/-- The reader of what a predicate holds of: function F, of which q is known. -/
theorem lex_All.run_digit (q : Int → Bool) (hF : ∀ (c : Int) (W : World), Calls Try.prog 45 #[.int .u8 c] W fun e W' => e = .returned (.bool (q c)) ∧ Drawn0 W W') (s : ByteArray) (i : Nat) (hi : i ≤ s.size) (hs : s.size ≤ 140737488351232) (b1 b5 : Nat) (w : World)
    (h1 : w.heap[b1]? = some (.cells #[.string s] 9 (0, 0))) (h5 : w.heap[b5]? = some (.cells #[.int .i64 (i : Int)] 3 (0, 0))) :
    Calls Try.prog 40 #[.func (.func 45) #[] #[], .pointer (some ⟨b5, 0, none⟩), .pointer (some ⟨b1, 0, none⟩)] w fun e w' => e = .returned (.string (s.extract i (lex_All.upto q s i))) ∧ w'.heap[b5]? = some (.cells #[.int .i64 ((lex_All.upto q s i : Nat) : Int)] 3 (0, 0)) ∧ w.grownBy w' (some b5) := by
  have hne := blk_ne h1 h5 (by decide)
  have hne2 := Ne.symm hne
  have HI := Aside0.mk hi
  have HS := Aside0.mk hs
  have H1 := Aside0.mk h1
  have H5 := Aside0.mk h5
  have c1 := (blk_cell h1 0).trans rfl
  have c5 := (blk_cell h5 0).trans rfl
  have HQ := Aside0.mk hF
  clear h1 h5 hi hs hF
  obtain ⟨n, hn⟩ : ∃ n, lex_All.upto q s i = n := ⟨_, rfl⟩
  rw [hn]
  have HN := Aside0.mk hn
  clear hn
  go_enter Try.func40, Try.ntmps40
  go_wp2
  go_loopg [] (s.size - i) (fun kq w' => ∃ j : Nat, Aside0 (i ≤ j ∧ j ≤ s.size) ∧ Aside0 (kq = s.size - j) ∧ Aside0 (lex_All.skip q s kq j = n) ∧ Aside0 (w'.heap[b1]? = some (.cells #[.string s] 9 (0, 0))) ∧ Aside0 (w'.heap[b5]? = some (.cells #[.int .i64 (j : Int)] 3 (0, 0))) ∧ Aside0 (w.grownBy w' (some b5)))
  case atStart => exact ⟨i, ⟨Nat.le_refl _, HI.out⟩, ⟨rfl⟩, HN, H1, H5, ⟨rfl, rfl, rfl, Nat.le_refl _, fun _ _ _ => rfl⟩⟩
  case round =>
    clear H1 H5 c1 c5 HN
    obtain ⟨j, HJ, HK, HN, H1, H5, HG⟩ := hrel
    have c1 := (blk_cell H1.out 0).trans rfl
    have c5 := (blk_cell H5.out 0).trans rfl
    have f5 := blk_frozen H5.out 0
    have e1 : ((i : Int) ≤ (j : Int)) = True := eq_true (by have := HJ.out; omega)
    have e2 : (i ≤ j) = True := eq_true HJ.out.1
    have e3 : ((j : Int) ≤ (s.size : Int)) = True := eq_true (by have := HJ.out; omega)
    have e4 : (j ≤ s.size) = True := eq_true HJ.out.2
    by_cases hlt : j < s.size
    · cases gk with
      | zero => exact absurd HK.out (by omega)
      | succ d =>
        have d1 : decide ((j : Int) < (s.size : Int)) = true := decide_eq_true (by omega)
        have d2 : decide (j < s.size) = true := decide_eq_true hlt
        have p4 : (0 ≤ (j : Int)) = True := eq_true (by omega)
        have q4 : ((j : Int) < (s.size : Int)) = True := eq_true (by omega)
        have q5 : (j < s.size) = True := eq_true hlt
        have hx4 := bt_at s (j : Int)
        simp only [Int.toNat_natCast] at hx4
        have HLT := Aside0.mk hlt
        have b1' : (0 : Int) ≤ (j : Int) := by omega
        have b2' : (j : Int) ≤ 140737488351232 := by have := HS.out; omega
        clear hlt
        obtain ⟨B, hB⟩ : ∃ B, q (bt s (j : Int)) = B := ⟨_, rfl⟩
        have hN : (if q (bt s (j : Int)) = true then lex_All.skip q s d (j + 1) else j) = n := by
          have := HN.out
          unfold lex_All.skip at this
          rwa [if_pos HLT.out] at this
        rw [hB] at hN
        have HNB := Aside0.mk hN
        have HBB := Aside0.mk hB
        clear hN hB HN
        go_wp2_with fail
        refine (HQ.out (bt s (j : Int)) _).mono ?_
        rintro e w2 ⟨rfl, ⟨nd, rfl⟩⟩
        rw [HBB.out]
        cases B
        case false =>
          go_wp2
          go_ret
          exact ⟨by rw [← HNB.out]; simp, by rw [← HNB.out]; exact H5.out, ⟨HG.out.os, HG.out.tape, HG.out.output, HG.out.size, HG.out.block⟩⟩
        case true =>
          go_wp2
          go_roundg d
          case measure => omega
          case rel => exact ⟨j + 1, ⟨by have := HJ.out; omega, by have := HLT.out; omega⟩, ⟨by have := HK.out; omega⟩, ⟨by have := HNB.out; simpa using this⟩, ⟨blk_far H1.out hne _⟩, ⟨(blk_put (cs := #[.int .i64 (j : Int)]) H5.out 0 _ rfl).trans (by simp)⟩, ⟨⟨HG.out.os, HG.out.tape, HG.out.output, by simpa [World.setCell] using HG.out.size, fun z hz hzn => (Below.heap_setCell _ _ _ _ (fun e => hzn (by simp [e]))).trans (HG.out.block z hz hzn)⟩⟩⟩
    · have d1 : decide ((j : Int) < (s.size : Int)) = false := decide_eq_false (by omega)
      have d2 : decide (j < s.size) = false := decide_eq_false hlt
      have hj : j = n := by
        have h0 := HN.out
        have h1 := HK.out
        rw [show gk = 0 by omega] at h0
        exact h0
      have HJN := Aside0.mk hj
      clear hj hlt
      go_wp2
      go_ret
      exact ⟨by rw [← HJN.out]; simp, by rw [← HJN.out]; exact H5.out, HG.out⟩
theorem lex_All.nl_calls (c : Int) (W : World) : Calls Try.prog 41 #[.int .u8 c] W fun e W' => e = .returned (.bool (lex_All.nl c)) ∧ Drawn0 W W' := by
  go_enter Try.func41, Try.ntmps41
  go_wp2
  go_ret
  exact ⟨rfl, Drawn0.refl _⟩
set_option maxHeartbeats 4000000 in
set_option maxRecDepth 100000 in
theorem lex_All.calls (k : Nat) (a0 : ByteArray) (r1 : List S49) (r2 r3 : Int) (w : World) (h : lex_All.f k a0 = some (r1, r2, r3)) :
    Calls Try.prog 32 #[.string a0] w fun e w' => ∃ v0_ : Value, e = .returned (.tuple #[v0_, .int .i64 r2, .int .i64 r3]) ∧ Kd.R k49 49 w' w.heap.size (fun _ => True) v0_ r1 ∧ Below w.heap.size w w' := by
  have hu49 := Try.underlying49
  unfold lex_All.f at h
  by_cases hs : a0.size ≤ 140737488351232
  case neg => rw [if_neg hs] at h; cases h
  rw [if_pos hs] at h
  have HS := Aside0.mk hs
  have H := Aside0.mk h
  clear h hs
  go_enter Try.func32, Try.ntmps32
  go_wp2_with (first | ((with_reducible refine gate_dst (N := 1) rfl ?_); refine box_event ?hg (N := 1) ?hd (cs := #[.string a0]) (t := 9) ?hr ?_; (case hd => rfl); (case hg => rfl); (case hr => first | (go_simp; done) | (go_simp; rfl)); intro b1 hg1 w1 hb1 hl1; have HG1 := Aside0.mk hg1; have HBK1 := Aside0.mk hb1; have HBL1 := Aside0.mk hl1; clear hg1 hb1 hl1) | ((with_reducible refine gate_dst (N := 5) rfl ?_); refine box_event ?hg (N := 5) ?hd (cs := #[.int .i64 0]) (t := 3) ?hr ?_; (case hd => rfl); (case hg => rfl); (case hr => first | (go_simp; done) | (go_simp; rfl)); intro b5 hg5 w5 hb5 hl5; have HG5 := Aside0.mk hg5; have HBK5 := Aside0.mk hb5; have HBL5 := Aside0.mk hl5; clear hg5 hb5 hl5; have x0 : lex_All.X w _ a0 b1 b5 0 := ⟨blk_below HBK1.out HBL5.out, HBK5.out, below_step HBL1.out HBL5.out, Nat.le_of_eq HG1.out.symm, by rw [HG5.out]; exact below_size HBL1.out⟩; have X0 := Aside0.mk x0; obtain ⟨cb1, cb5, fb5, nb, nb'⟩ := x0.cells; clear x0))
  go_loopg [7] k (fun kq v7 w' => ∃ (out : List S49) (i : Nat), Aside0 (lex_All.l0 kq a0 out i = some (r1, r2, r3)) ∧ Aside0 (kq ≤ k) ∧ Aside0 (i ≤ a0.size) ∧ Aside0 (Kd.R k49 49 w' w.heap.size (fun _ => True) v7 out) ∧ Aside0 (lex_All.X w w' a0 b1 b5 i))
  case atStart => exact ⟨[], 0, H, ⟨Nat.le_refl _⟩, ⟨Nat.zero_le _⟩, ⟨Kd.R_nil _ _ _ _ _⟩, ⟨X0.out.set 0⟩⟩
  case round =>
    clear H X0
    obtain ⟨out, i, H, HK, HI, HO, X0⟩ := hrel
    cases gk with
    | zero => exact absurd H.out (by simp [lex_All.l0])
    | succ k1 =>
    have h := H.out
    clear H
    unfold lex_All.l0 at h
    obtain ⟨cb1, cb5, fb5, nb, nb'⟩ := X0.out.cells
    have b1' : (0 : Int) ≤ (i : Int) := by omega
    have b2' : (i : Int) ≤ 140737488351232 := by have := HS.out; have := HI.out; omega
    by_cases hlt : i < a0.size
    case pos =>
      rw [if_pos hlt] at h
      have d1 : decide ((i : Int) < (a0.size : Int)) = true := decide_eq_true (by omega)
      have d2 : decide (i < a0.size) = true := decide_eq_true hlt
      have p4 : (0 ≤ (i : Int)) = True := eq_true (by omega)
      have q4 : ((i : Int) < (a0.size : Int)) = True := eq_true (by omega)
      have q5 : (i < a0.size) = True := eq_true hlt
      have hx4 := bt_at a0 (i : Int)
      simp only [Int.toNat_natCast] at hx4
      have HLT := Aside0.mk hlt
      clear hlt
      obtain ⟨c, hc⟩ : ∃ c, bt a0 (i : Int) = c := ⟨_, rfl⟩
      rw [hc] at h hx4
      have HC := Aside0.mk hc
      clear hc
      by_cases hbl : c = 32 ∨ c = 9 ∨ c = 10 ∨ c = 13
      · rw [if_pos hbl] at h
        have HH := Aside0.mk h
        clear h
        rcases hbl with rfl | rfl | rfl | rfl
        all_goals
          go_wp2
          repeat (go_quiet (fail); try go_wp2)
          go_roundg k1
          case measure => omega
          case rel => exact ⟨out, i + 1, HH, ⟨by have := HK.out; omega⟩, ⟨by have := HLT.out; omega⟩, ⟨lex_All.rset (Kd.R_drewN HO.out _) (X0.out.drewN _).h5 _⟩, ⟨(X0.out.drewN _).set (i + 1)⟩⟩
      · rw [if_neg hbl] at h
        have q32 : (c == 32) = false := beq_eq_false_iff_ne.mpr (fun e => hbl (.inl e))
        have q9 : (c == 9) = false := beq_eq_false_iff_ne.mpr (fun e => hbl (.inr (.inl e)))
        have q10 : (c == 10) = false := beq_eq_false_iff_ne.mpr (fun e => hbl (.inr (.inr (.inl e))))
        have q13 : (c == 13) = false := beq_eq_false_iff_ne.mpr (fun e => hbl (.inr (.inr (.inr e))))
        clear hbl
        by_cases h35 : c = 35
        · rw [if_pos h35] at h
          have q35 : (c == 35) = true := beq_iff_eq.mpr h35
          have HH := Aside0.mk h
          clear h h35
          go_wp2
          repeat (go_quiet (fail); try go_wp2_with fail)
          refine (lex_All.run_nl lex_All.nl lex_All.nl_calls a0 i HI.out HS.out b1 b5 _ (X0.out.drewN _).h1 (X0.out.drewN _).h5).mono ?_
          rintro e w3 ⟨rfl, h5, hg⟩
          have X1 := Aside0.mk ((X0.out.drewN _).run hg h5)
          have HO1 := Aside0.mk (lex_All.rrun (Kd.R_drewN HO.out _) (X0.out.drewN _).h5 hg)
          clear h5 hg
          go_wp2
          go_roundg k1
          case measure => omega
          case rel => exact ⟨out, _, HH, ⟨by have := HK.out; omega⟩, ⟨(lex_All.skip_le _ _ _ _ HI.out).2⟩, HO1, X1⟩
        · rw [if_neg h35] at h
          have q35 : (c == 35) = false := beq_eq_false_iff_ne.mpr h35
          clear h35
          have hsf := lex_All.small_f c
          by_cases hsm : lex_All.small c = true
          · rw [hsm] at hsf
            have HSF := Aside0.mk hsf
            clear hsf
            go_wp2
            repeat (go_quiet (fail); try go_wp2_with fail)
            refine (lex_small.calls c true _ HSF.out).mono ?_
            rintro e w2 ⟨rfl, ⟨nd2, rfl⟩⟩
            have X1 := Aside0.mk (X0.out.drewN (nq + nd2))
            have HO1 := Aside0.mk (Kd.R_drewN HO.out (nq + nd2))
            rw [if_pos hsm] at h
            obtain ⟨⟨kd, er⟩, hw, h⟩ := Option.bind_eq_some_iff.mp h
            dsimp only at h
            have HW := Aside0.mk hw
            clear hw
            go_wp2_with fail
            refine (lex_All.run_within lex_All.within (fun c W => lex_within.calls c _ W (lex_All.within_f c)) a0 i HI.out HS.out b1 b5 _ X1.out.h1 X1.out.h5).mono ?_
            rintro e w3 ⟨rfl, h5, hg⟩
            have X2 := Aside0.mk (X1.out.run hg h5)
            have HO2 := Aside0.mk (lex_All.rrun HO1.out X1.out.h5 hg)
            have HJ := Aside0.mk (lex_All.skip_le lex_All.within a0 (a0.size - i) i HI.out)
            clear h5 hg cb1 cb5 fb5 nb nb'
            obtain ⟨cb1, cb5, fb5, nb, nb'⟩ := X2.out.cells
            go_wp2_with fail
            refine (lex_word.calls k1 _ kd er _ HW.out).mono ?_
            rintro e w4 ⟨rfl, hb4⟩
            have X3 := Aside0.mk (X2.out.below hb4)
            have HO3 := Aside0.mk (Kd.R_below HO2.out hb4)
            clear hb4 cb1 cb5 fb5 nb nb'
            by_cases he : er = 0
            · subst he
              rw [if_pos rfl] at h
              by_cases hl : out.length < 4398046511104
              case neg => rw [if_neg hl] at h; cases h
              rw [if_pos hl] at h
              have HH := Aside0.mk h
              have HLM := Aside0.mk hl
              clear h hl
              go_wp2_with (first | ((with_reducible refine gate_builtin (b := .append) (xs := #[.tmp 81, .tmp 86]) rfl ?_); at_builtin; refine Kd.R_append k49 (w0 := w) w.heap.size rfl (.tmp 81) (.tmp 86) 41 49 (.agg #[(.int .i64 0), (.string ⟨#[]⟩), (.int .i64 0)]) 32 rfl Try.underlying41 info49 rfl (by decide) (by omega) u7 out (⟨kd, (a0.extract i (lex_All.upto lex_All.within a0 i)), (i : Int)⟩ : S49) [.int .i64 kd, .string (a0.extract i (lex_All.upto lex_All.within a0 i)), .int .i64 (i : Int)] (fun _ => True) (fun _ => False) rfl rfl ?aP (fun _ hk => hk.elim) ?aF ?aO ?aB ?aS ?aL ?_; (case aP => exact k49_mkM _ _ _ (⟨kd, (a0.extract i (lex_All.upto lex_All.within a0 i)), (i : Int)⟩ : S49)); (case aB => exact (by repeat (first | exact X3.out.hB | apply below_alloc | apply pw_below_drewN | apply below_drew1))); (case aF => exact (fun _ _ => trivial)); (case aO => exact (by (with_reducible repeat (first | apply Kd.R_alloc | apply Kd.R_drewN | apply Kd.R_drew)); exact HO3.out)); (case aS => exact (below_size (by repeat (first | exact X3.out.hB | apply below_alloc | apply pw_below_drewN | apply below_drew1)))); (case aL => have := HLM.out; omega); intro v8 w9 ho hb hg hat; have HO9 := Aside0.mk ho; have X9 : Aside0 (lex_All.X w w9 a0 b1 b5 _) := ⟨⟨blk_grown (by (with_reducible repeat (first | refine blk_drewN ?_ _ | refine blk_drew ?_ | refine blk_alloc ?_ _)); exact X3.out.h1) hg (Kd.R_ne HO3.out X3.out.h1 (by decide)), blk_grown (by (with_reducible repeat (first | refine blk_drewN ?_ _ | refine blk_drew ?_ | refine blk_alloc ?_ _)); exact X3.out.h5) hg (Kd.R_ne HO3.out X3.out.h5 (by decide)), hb, X3.out.g1, X3.out.g5⟩⟩; clear ho hb hg hat))
              go_roundg k1
              case measure => omega
              case rel => exact ⟨_, _, HH, ⟨by have := HK.out; omega⟩, ⟨HJ.out.2⟩, HO9, X9⟩
            · rw [if_neg he] at h
              simp only [Option.some.injEq, Prod.mk.injEq] at h
              obtain ⟨rfl, rfl, rfl⟩ := h
              have q0 : (er != 0) = true := bne_iff_ne.mpr he
              clear he
              go_wp2
              go_ret3
              exact ⟨_, rfl, Kd.R_nil _ _ _ _ _, X3.out.hB⟩
          · have hsf2 : lex_All.small c = false := Bool.eq_false_iff.mpr hsm
            rw [if_neg hsm] at h
            rw [hsf2] at hsf
            have HSF := Aside0.mk hsf
            clear hsf hsf2 hsm
            have hdf := lex_All.digit_f c
            by_cases hsm : lex_All.digit c = true
            · rw [hsm] at hdf
              have HDF := Aside0.mk hdf
              clear hdf
              go_wp2
              repeat (go_quiet (fail); try go_wp2_with fail)
              refine (lex_small.calls c false _ HSF.out).mono ?_
              rintro e w2 ⟨rfl, ⟨nd2, rfl⟩⟩
              have X1 := Aside0.mk (X0.out.drewN (nq + nd2))
              have HO1 := Aside0.mk (Kd.R_drewN HO.out (nq + nd2))
              go_wp2_with fail
              refine (lex_digit.calls c true _ HDF.out).mono ?_
              rintro e w2' ⟨rfl, ⟨nd3, rfl⟩⟩
              replace X1 := Aside0.mk (X0.out.drewN (nq + nd2 + nd3))
              replace HO1 := Aside0.mk (Kd.R_drewN HO.out (nq + nd2 + nd3))
              rw [if_pos hsm] at h
              obtain ⟨⟨kd, er⟩, hw, h⟩ := Option.bind_eq_some_iff.mp h
              dsimp only at h
              have HW := Aside0.mk hw
              clear hw
              go_wp2_with fail
              refine (lex_All.run_digit lex_All.digit (fun c W => lex_digit.calls c _ W (lex_All.digit_f c)) a0 i HI.out HS.out b1 b5 _ X1.out.h1 X1.out.h5).mono ?_
              rintro e w3 ⟨rfl, h5, hg⟩
              have X2 := Aside0.mk (X1.out.run hg h5)
              have HO2 := Aside0.mk (lex_All.rrun HO1.out X1.out.h5 hg)
              have HJ := Aside0.mk (lex_All.skip_le lex_All.digit a0 (a0.size - i) i HI.out)
              clear h5 hg cb1 cb5 fb5 nb nb'
              obtain ⟨cb1, cb5, fb5, nb, nb'⟩ := X2.out.cells
              have s1 : (0 ≤ ((lex_All.upto lex_All.digit a0 i : Nat) : Int)) = True := eq_true (by omega)
              have s2 : (((lex_All.upto lex_All.digit a0 i : Nat) : Int) ≤ (a0.size : Int)) = True := eq_true (by have := HJ.out.2; exact Int.ofNat_le.2 this)
              have s3 : (lex_All.upto lex_All.digit a0 i ≤ a0.size) = True := eq_true HJ.out.2
              go_wp2_with fail
              refine (lex_number.calls k1 _ _ kd er _ HW.out).mono ?_
              rintro e w4 ⟨rfl, ⟨nd4, rfl⟩⟩
              have X3 := Aside0.mk (X2.out.drewN nd4)
              have HO3 := Aside0.mk (Kd.R_drewN HO2.out nd4)
              clear s1 s2 s3
              by_cases he : er = 0
              · subst he
                rw [if_pos rfl] at h
                by_cases hl : out.length < 4398046511104
                case neg => rw [if_neg hl] at h; cases h
                rw [if_pos hl] at h
                have HH := Aside0.mk h
                have HLM := Aside0.mk hl
                clear h hl
                go_wp2_with (first | ((with_reducible refine gate_builtin (b := .append) (xs := #[.tmp 81, .tmp 86]) rfl ?_); at_builtin; refine Kd.R_append k49 (w0 := w) w.heap.size rfl (.tmp 81) (.tmp 86) 41 49 (.agg #[(.int .i64 0), (.string ⟨#[]⟩), (.int .i64 0)]) 32 rfl Try.underlying41 info49 rfl (by decide) (by omega) u7 out (⟨kd, (a0.extract i (lex_All.upto lex_All.digit a0 i)), (i : Int)⟩ : S49) [.int .i64 kd, .string (a0.extract i (lex_All.upto lex_All.digit a0 i)), .int .i64 (i : Int)] (fun _ => True) (fun _ => False) rfl rfl ?aP (fun _ hk => hk.elim) ?aF ?aO ?aB ?aS ?aL ?_; (case aP => exact k49_mkM _ _ _ (⟨kd, (a0.extract i (lex_All.upto lex_All.digit a0 i)), (i : Int)⟩ : S49)); (case aB => exact (by repeat (first | exact X3.out.hB | apply below_alloc | apply pw_below_drewN | apply below_drew1))); (case aF => exact (fun _ _ => trivial)); (case aO => exact (by (with_reducible repeat (first | apply Kd.R_alloc | apply Kd.R_drewN | apply Kd.R_drew)); exact HO3.out)); (case aS => exact (below_size (by repeat (first | exact X3.out.hB | apply below_alloc | apply pw_below_drewN | apply below_drew1)))); (case aL => have := HLM.out; omega); intro v8 w9 ho hb hg hat; have HO9 := Aside0.mk ho; have X9 : Aside0 (lex_All.X w w9 a0 b1 b5 _) := ⟨⟨blk_grown (by (with_reducible repeat (first | refine blk_drewN ?_ _ | refine blk_drew ?_ | refine blk_alloc ?_ _)); exact X3.out.h1) hg (Kd.R_ne HO3.out X3.out.h1 (by decide)), blk_grown (by (with_reducible repeat (first | refine blk_drewN ?_ _ | refine blk_drew ?_ | refine blk_alloc ?_ _)); exact X3.out.h5) hg (Kd.R_ne HO3.out X3.out.h5 (by decide)), hb, X3.out.g1, X3.out.g5⟩⟩; clear ho hb hg hat))
                go_roundg k1
                case measure => omega
                case rel => exact ⟨_, _, HH, ⟨by have := HK.out; omega⟩, ⟨HJ.out.2⟩, HO9, X9⟩
              · rw [if_neg he] at h
                simp only [Option.some.injEq, Prod.mk.injEq] at h
                obtain ⟨rfl, rfl, rfl⟩ := h
                have q0 : (er != 0) = true := bne_iff_ne.mpr he
                clear he
                go_wp2
                go_ret3
                exact ⟨_, rfl, Kd.R_nil _ _ _ _ _, X3.out.hB⟩
            · have hdf2 : lex_All.digit c = false := Bool.eq_false_iff.mpr hsm
              rw [if_neg hsm] at h
              rw [hdf2] at hdf
              clear hdf2 hsm
              have HDF := Aside0.mk hdf
              clear hdf
              go_wp2
              repeat (go_quiet (fail); try go_wp2_with fail)
              refine (lex_small.calls c false _ HSF.out).mono ?_
              rintro e w2 ⟨rfl, ⟨nd2, rfl⟩⟩
              have X1 := Aside0.mk (X0.out.drewN (nq + nd2))
              have HO1 := Aside0.mk (Kd.R_drewN HO.out (nq + nd2))
              go_wp2_with fail
              refine (lex_digit.calls c false _ HDF.out).mono ?_
              rintro e w2' ⟨rfl, ⟨nd3, rfl⟩⟩
              replace X1 := Aside0.mk (X0.out.drewN (nq + nd2 + nd3))
              replace HO1 := Aside0.mk (Kd.R_drewN HO.out (nq + nd2 + nd3))
              obtain ⟨t, ht, h⟩ := Option.bind_eq_some_iff.mp h
              have HT := Aside0.mk ht
              clear ht
              by_cases hts : i + t.size ≤ a0.size
              case neg => rw [if_neg hts] at h; cases h
              rw [if_pos hts] at h
              have HTS := Aside0.mk hts
              clear hts
              have s2 : ((i : Int) ≤ (a0.size : Int)) = True := eq_true (by have := HI.out; omega)
              have s3 : (i ≤ a0.size) = True := eq_true HI.out
              go_wp2_with fail
              refine (lex_sign.calls k1 _ t _ HT.out).mono ?_
              rintro e w3 ⟨rfl, hb3⟩
              have X2 := Aside0.mk (X1.out.below hb3)
              have HO2 := Aside0.mk (Kd.R_below HO1.out hb3)
              clear hb3 s2 s3 cb1 cb5 fb5 nb nb'
              obtain ⟨cb1, cb5, fb5, nb, nb'⟩ := X2.out.cells
              have z1 : (0 : Int) ≤ (t.size : Int) := by omega
              have z2 : (i : Int) + (t.size : Int) ≤ 140737488351232 := by have := HTS.out; have := HS.out; omega
              have HO3 := Aside0.mk (lex_All.rset HO2.out X2.out.h5 (.int .i64 ((i : Int) + (t.size : Int))))
              have X3' := Aside0.mk (X2.out.setz (i + t.size) ((i : Int) + (t.size : Int)) (by omega))
              by_cases htl : t.toList = []
              · rw [if_pos htl] at h
                simp only [Option.some.injEq, Prod.mk.injEq] at h
                obtain ⟨rfl, rfl, rfl⟩ := h
                have q0 : (t.toList == []) = true := beq_iff_eq.mpr htl
                have q1 : t.toList.isEmpty = true := List.isEmpty_iff.2 htl
                go_wp2
                go_ret3
                exact ⟨_, rfl, Kd.R_nil _ _ _ _ _, X3'.out.hB⟩
              · rw [if_neg htl] at h
                have q0 : (t.toList == []) = false := beq_eq_false_iff_ne.mpr htl
                have q1 : t.toList.isEmpty = false := by rw [List.isEmpty_eq_false_iff]; exact htl
                by_cases hl : out.length < 4398046511104
                case neg => rw [if_neg hl] at h; cases h
                rw [if_pos hl] at h
                have HH := Aside0.mk h
                have HLM := Aside0.mk hl
                clear h hl htl
                go_wp2_with (first | ((with_reducible refine gate_builtin (b := .append) (xs := #[.tmp 81, .tmp 86]) rfl ?_); at_builtin; refine Kd.R_append k49 (w0 := w) w.heap.size rfl (.tmp 81) (.tmp 86) 41 49 (.agg #[(.int .i64 0), (.string ⟨#[]⟩), (.int .i64 0)]) 32 rfl Try.underlying41 info49 rfl (by decide) (by omega) u7 out (⟨4, t, (i : Int)⟩ : S49) [.int .i64 4, .string t, .int .i64 (i : Int)] (fun _ => True) (fun _ => False) rfl (by show Value.slice (some ⟨_, 0, none⟩) 1 1 = _; simp [World.setCell]) ?aP (fun _ hk => hk.elim) ?aF ?aO ?aB ?aS ?aL ?_; (case aP => exact k49_mkM _ _ _ (⟨4, t, (i : Int)⟩ : S49)); (case aB => exact (by repeat (first | exact X3'.out.hB | apply below_alloc | apply pw_below_drewN | apply below_drew1))); (case aF => exact (fun _ _ => trivial)); (case aO => exact (by (with_reducible repeat (first | apply Kd.R_alloc | apply Kd.R_drewN | apply Kd.R_drew)); exact HO3.out)); (case aS => exact (below_size (by repeat (first | exact X3'.out.hB | apply below_alloc | apply pw_below_drewN | apply below_drew1)))); (case aL => have := HLM.out; omega); intro v8 w9 ho hb hg hat; have HO9 := Aside0.mk ho; have X9 : Aside0 (lex_All.X w w9 a0 b1 b5 _) := ⟨⟨blk_grown (by (with_reducible repeat (first | refine blk_drewN ?_ _ | refine blk_drew ?_ | refine blk_alloc ?_ _)); exact X3'.out.h1) hg (Kd.R_ne HO3.out X3'.out.h1 (by decide)), blk_grown (by (with_reducible repeat (first | refine blk_drewN ?_ _ | refine blk_drew ?_ | refine blk_alloc ?_ _)); exact X3'.out.h5) hg (Kd.R_ne HO3.out X3'.out.h5 (by decide)), hb, X3'.out.g1, X3'.out.g5⟩⟩; clear ho hb hg hat))
                go_roundg k1
                case measure => omega
                case rel => exact ⟨_, i + t.size, HH, ⟨by have := HK.out; omega⟩, HTS, HO9, X9⟩
    case neg =>
      rw [if_neg hlt] at h
      have d1 : decide ((i : Int) < (a0.size : Int)) = false := decide_eq_false (by omega)
      have d2 : decide (i < a0.size) = false := decide_eq_false hlt
      by_cases hl : out.length < 4398046511104
      case neg => rw [if_neg hl] at h; cases h
      rw [if_pos hl] at h
      simp only [Option.some.injEq, Prod.mk.injEq] at h
      obtain ⟨rfl, rfl, rfl⟩ := h
      have HLM := Aside0.mk hl
      clear hl hlt
      go_wp2_with (first | ((with_reducible refine gate_builtin (b := .append) (xs := #[.tmp 88, .tmp 92]) rfl ?_); at_builtin; refine Kd.R_append k49 (w0 := w) w.heap.size rfl (.tmp 88) (.tmp 92) 41 49 (.agg #[(.int .i64 0), (.string ⟨#[]⟩), (.int .i64 0)]) 32 rfl Try.underlying41 info49 rfl (by decide) (by omega) u7 out (⟨0, (⟨#[]⟩ : ByteArray), (a0.size : Int)⟩ : S49) [.int .i64 0, .string (⟨#[]⟩ : ByteArray), .int .i64 (a0.size : Int)] (fun _ => True) (fun _ => False) rfl rfl ?aP (fun _ hk => hk.elim) ?aF ?aO ?aB ?aS ?aL ?_; (case aP => exact k49_mkM _ _ _ (⟨0, (⟨#[]⟩ : ByteArray), (a0.size : Int)⟩ : S49)); (case aB => exact (by repeat (first | exact X0.out.hB | apply below_alloc | apply pw_below_drewN | apply below_drew1))); (case aF => exact (fun _ _ => trivial)); (case aO => exact (by (with_reducible repeat (first | apply Kd.R_alloc | apply Kd.R_drewN | apply Kd.R_drew)); exact HO.out)); (case aS => exact (below_size (by repeat (first | exact X0.out.hB | apply below_alloc | apply pw_below_drewN | apply below_drew1)))); (case aL => have := HLM.out; omega); intro v8 w9 ho hb hg hat; have HO9 := Aside0.mk ho; have X9 : Aside0 (lex_All.X w w9 a0 b1 b5 _) := ⟨⟨blk_grown (by (with_reducible repeat (first | refine blk_drewN ?_ _ | refine blk_drew ?_ | refine blk_alloc ?_ _)); exact X0.out.h1) hg (Kd.R_ne HO.out X0.out.h1 (by decide)), blk_grown (by (with_reducible repeat (first | refine blk_drewN ?_ _ | refine blk_drew ?_ | refine blk_alloc ?_ _)); exact X0.out.h5) hg (Kd.R_ne HO.out X0.out.h5 (by decide)), hb, X0.out.g1, X0.out.g5⟩⟩; clear ho hb hg hat))
      go_outline
      go_ret3
      exact ⟨_, rfl, HO9.out, X9.out.hB⟩

/-! ### lex_Lex: function 21 -/
def lex_Lex.f (k : Nat) (a0 : ByteArray) : Option ((List (S49)) × Int × Int) := if (a0.size : Int) > 8192 then (some (([] : List (S49)), 9, 8192)) else ((lex_All.f k a0).bind fun bt118 => (some (bt118.1, bt118.2.1, bt118.2.2)))
theorem lex_Lex.mono : ∀ a0 k, LeO (lex_Lex.f k a0) (lex_Lex.f (k + 1) a0) := by
  intro a0 k
  unfold lex_Lex.f
  repeat' first
      | (with_reducible exact lex_All.mono _ _)
      | (with_reducible exact LeO.refl _)
      | (with_reducible exact LeO.none _)
      | (with_reducible refine LeO.ite ?_ ?_)
      | (with_reducible refine LeO.bind ?_ (fun _ => ?_))
      | exact lex_All.mono _ _
      | exact LeO.none _
      | refine LeO.ite ?_ ?_
      | refine LeO.bind ?_ (fun _ => ?_)
set_option maxHeartbeats 8000000 in
set_option maxRecDepth 100000 in
theorem lex_Lex.calls (k : Nat) (a0 : ByteArray) (r1 : List (S49)) (r2 : Int) (r3 : Int) (w : World) (h : lex_Lex.f k a0 = some (r1, r2, r3)) :
    Calls Try.prog 21 #[.string a0] w fun e w' => ∃ v0_ : Value, e = .returned (.tuple #[v0_, .int .i64 r2, .int .i64 r3]) ∧ Kd.R k49 49 w' w.heap.size (fun _ => True) v0_ r1 ∧ Below w.heap.size w w' := by
  have HB := Aside0.mk (Below.refl w.heap.size w)
  have H : (if (a0.size : Int) > 8192 then (some (([] : List (S49)), 9, 8192)) else ((lex_All.f k a0).bind fun bt118 => (some (bt118.1, bt118.2.1, bt118.2.2)))) = some (r1, r2, r3) := h
  clear h
  by_cases c2 : (a0.size : Int) > 8192
  · rw [if_pos c2] at H
    have c2b0 : decide (8192 < (a0.size : Int)) = true := decide_eq_true c2
    have c2b1 : decide (8192 < a0.size) = true := decide_eq_true (by omega)
    clear c2
    simp only [Option.some.injEq, Prod.mk.injEq] at H
    obtain ⟨rfl, rfl, rfl⟩ := H
    go_enter Try.func21, Try.ntmps21
    go_wp2
    go_ret3
    exact ⟨_, by first | rfl | (simp [errW_none, errW_some] <;> rfl) | (simp [*, errW_none, errW_some] <;> rfl), by first | exact Kd.R_nil _ _ _ _ _ | exact Kd.N_nil _ _ _ _ _ | exact Kd.V_nil _ _ _ _ _ | exact Kd.Q_nil _ _ _ _ _ | exact Kd.S_nil _ _ _ _ _, by repeat (first | (with_reducible first | exact HB.out | apply below_alloc | apply pw_below_drewN | apply below_drew1) | exact HB.out)⟩
  · rw [if_neg c2] at H
    have c2b0 : decide (8192 < (a0.size : Int)) = false := decide_eq_false c2
    have c2b1 : decide (8192 < a0.size) = false := decide_eq_false (by omega)
    clear c2
    replace H := Option.bind_eq_some_iff.mp H
    obtain ⟨⟨t118, t119, t120⟩, A30, H⟩ := H
    replace H : (some (t118, t119, t120)) = some (r1, r2, r3) := H
    have A3 := Aside0.mk A30
    clear A30
    simp only [Option.some.injEq, Prod.mk.injEq] at H
    obtain ⟨rfl, rfl, rfl⟩ := H
    go_enter Try.func21, Try.ntmps21
    go_wp2_with (first | ((with_reducible refine gate_callee (f := 32) rfl ?_); refine goesL_ (some 9) rfl rfl Try.func32 (by kernel_rfl) rfl #[.string a0] rfl (by (try simp only [List.map_toArray, List.map_cons, List.map_nil]); first | done | rfl | (simp only [List.length_drop, List.length_take]; rfl)) ?_; (with_reducible refine (lex_All.calls k a0 t118 t119 t120 _ A3.out).mono ?_); rintro e w4 ⟨v121, rfl, ho0, hb⟩; refine ⟨_, rfl, ?_⟩; have n0_ := Aside0.mk (Kd.R_lower ho0 (below_size (by repeat (first | (with_reducible first | exact HB.out | apply below_alloc | apply pw_below_drewN | apply below_drew1) | exact HB.out)))); have n1_ := Aside0.mk (below_step (by repeat (first | (with_reducible first | exact HB.out | apply below_alloc | apply pw_below_drewN | apply below_drew1) | exact HB.out)) hb); clear HB; have HO122 := n0_; have HB := n1_; clear n0_ n1_; (try clear hb); (try clear hb2); (try clear hk); (try clear hi); (try clear ho0)))
    go_ret3
    exact ⟨_, by first | rfl | (simp [errW_none, errW_some] <;> rfl) | (simp [*, errW_none, errW_some] <;> rfl), by (with_reducible repeat (first | apply Kd.R_alloc | apply Kd.R_drewN | apply Kd.R_drew)); exact HO122.out, by repeat (first | (with_reducible first | exact HB.out | apply below_alloc | apply pw_below_drewN | apply below_drew1) | exact HB.out)⟩

/-! ### aquiferlaw11_awake: function 20 -/
def aquiferlaw11_awake.f (k : Nat)  : Option (Bool) := (lex_Lex.f k (⟨#[120, 61, 49, 59]⟩ : ByteArray)).bind fun bt123 => ((aquiferlaw1_Num.f bt123.2.1).bind fun t128 => (if t128 = 0 then (if (bt123.1.length : Int) = 5 then (if 4 < (bt123.1.length : Int) then (some (((rd_T49 bt123.1 4).f2) == 4)) else (none)) else (some false)) else (some false)))
theorem aquiferlaw11_awake.mono : ∀ k, LeO (aquiferlaw11_awake.f k ) (aquiferlaw11_awake.f (k + 1) ) := by
  intro  k
  unfold aquiferlaw11_awake.f
  repeat' first
      | (with_reducible exact lex_Lex.mono _ _)
      | (with_reducible exact LeO.refl _)
      | (with_reducible exact LeO.none _)
      | (with_reducible refine LeO.ite ?_ ?_)
      | (with_reducible refine LeO.bind ?_ (fun _ => ?_))
      | exact lex_Lex.mono _ _
      | exact LeO.none _
      | refine LeO.ite ?_ ?_
      | refine LeO.bind ?_ (fun _ => ?_)
set_option maxHeartbeats 8000000 in
set_option maxRecDepth 100000 in
theorem aquiferlaw11_awake.calls (k : Nat)  (r : Bool) (w : World) (h : aquiferlaw11_awake.f k  = some r) :
    Calls Try.prog 20 #[] w fun e w' => e = .returned (.bool r) ∧ Below w.heap.size w w' := by
  have HB := Aside0.mk (Below.refl w.heap.size w)
  have H : ((lex_Lex.f k (⟨#[120, 61, 49, 59]⟩ : ByteArray)).bind fun bt123 => ((aquiferlaw1_Num.f bt123.2.1).bind fun t128 => (if t128 = 0 then (if (bt123.1.length : Int) = 5 then (if 4 < (bt123.1.length : Int) then (some (((rd_T49 bt123.1 4).f2) == 4)) else (none)) else (some false)) else (some false)))) = some r := h
  clear h
  replace H := Option.bind_eq_some_iff.mp H
  obtain ⟨⟨t123, t124, t125⟩, A10, H⟩ := H
  replace H : ((aquiferlaw1_Num.f t124).bind fun t128 => (if t128 = 0 then (if (t123.length : Int) = 5 then (if 4 < (t123.length : Int) then (some (((rd_T49 t123 4).f2) == 4)) else (none)) else (some false)) else (some false))) = some r := H
  have A1 := Aside0.mk A10
  clear A10
  replace H := Option.bind_eq_some_iff.mp H
  obtain ⟨t128, A20, H⟩ := H
  replace H : (if t128 = 0 then (if (t123.length : Int) = 5 then (if 4 < (t123.length : Int) then (some (((rd_T49 t123 4).f2) == 4)) else (none)) else (some false)) else (some false)) = some r := H
  have A2 := Aside0.mk A20
  clear A20
  by_cases c3 : t128 = 0
  · rw [if_pos c3] at H
    have c3b0 : (t128 == 0) = true := beq_iff_eq.mpr c3
    have c3b1 : (t128 != 0) = false := bne_eq_false_iff_eq.mpr c3
    clear c3
    by_cases c4 : (t123.length : Int) = 5
    · rw [if_pos c4] at H
      have c4b0 : ((t123.length : Int) == 5) = true := beq_iff_eq.mpr c4
      have c4b1 : ((t123.length : Int) != 5) = false := bne_eq_false_iff_eq.mpr c4
      clear c4
      by_cases c5 : 4 < (t123.length : Int)
      · rw [if_pos c5] at H
        have c5b0 : decide (4 < (t123.length : Int)) = true := decide_eq_true c5
        have c5b1 : decide (4 < t123.length) = true := decide_eq_true (by omega)
        clear c5
        obtain rfl := Option.some.inj H
        go_enter Try.func20, Try.ntmps20
        go_wp2_with (first | ((with_reducible refine gate_callee (f := 21) rfl ?_); refine goesL_ (some 5) rfl rfl Try.func21 (by kernel_rfl) rfl #[.string (⟨#[120, 61, 49, 59]⟩ : ByteArray)] rfl (by (try simp only [List.map_toArray, List.map_cons, List.map_nil]); first | done | rfl | (simp only [List.length_drop, List.length_take]; rfl)) ?_; (with_reducible refine (lex_Lex.calls k (⟨#[120, 61, 49, 59]⟩ : ByteArray) t123 t124 t125 _ A1.out).mono ?_); rintro e w6 ⟨v126, rfl, ho0, hb⟩; refine ⟨_, rfl, ?_⟩; have n0_ := Aside0.mk (Kd.R_lower ho0 (below_size (by repeat (first | (with_reducible first | exact HB.out | apply below_alloc | apply pw_below_drewN | apply below_drew1) | exact HB.out)))); have n1_ := Aside0.mk (below_step (by repeat (first | (with_reducible first | exact HB.out | apply below_alloc | apply pw_below_drewN | apply below_drew1) | exact HB.out)) hb); clear HB; have HO127 := n0_; have HB := n1_; clear n0_ n1_; (try clear hb); (try clear hb2); (try clear hk); (try clear hi); (try clear ho0)) | ((with_reducible refine gate_callee (f := 17) rfl ?_); refine goesL_ (some 10) rfl rfl Try.func17 (by kernel_rfl) rfl #[.int .i64 t124] rfl (by (try simp only [List.map_toArray, List.map_cons, List.map_nil]); first | done | rfl | (simp only [List.length_drop, List.length_take]; rfl)) ?_; (with_reducible refine (aquiferlaw1_Num.calls t124 t128 _ A2.out).mono ?_); rintro e w' ⟨rfl, ⟨nd, rfl⟩⟩; refine ⟨_, rfl, ?_⟩; obtain ⟨Ao7, co7, eo7⟩ := Kd.R_slice HO127.out; subst eo7; have p129 : 0 ≤ (4 : Int) := (by omega); have q129 : 4 < (t123.length : Int) := of_decide_eq_true (by first | (with_reducible assumption) | assumption); obtain ⟨ad129, e129, hx129_0, hx129_1, hx129_2⟩ := at_T49 (Kd.R_reads' HO127.out).2.2 4 p129 q129; cases e129; (try simp only [show (4 : Int).toNat = 4 from rfl, Nat.reduceMul, Nat.reduceEqDiff, Go.Addr.add, ↓reduceIte] at hx129_0); (try simp only [show (4 : Int).toNat = 4 from rfl, Nat.reduceMul, Nat.reduceEqDiff, Go.Addr.add, ↓reduceIte] at hx129_1); (try simp only [show (4 : Int).toNat = 4 from rfl, Nat.reduceMul, Nat.reduceEqDiff, Go.Addr.add, ↓reduceIte] at hx129_2); have qi129 : (4 < t123.length) = True := eq_true (by omega); (try rw [show ((4 : Int)).toNat = 4 from rfl] at hx129_0); (try rw [show 4 * 3 = 12 from rfl] at hx129_0); (try rw [show ((4 : Int)).toNat = 4 from rfl] at hx129_1); (try rw [show 4 * 3 = 12 from rfl] at hx129_1); (try rw [show ((4 : Int)).toNat = 4 from rfl] at hx129_2); (try rw [show 4 * 3 = 12 from rfl] at hx129_2); replace p129 := eq_true p129; replace q129 := eq_true q129))
        go_ret
        exact ⟨by first | rfl | (simp [errW_none, errW_some] <;> rfl) | (simp [*, errW_none, errW_some] <;> rfl), by repeat (first | (with_reducible first | exact HB.out | apply below_alloc | apply pw_below_drewN | apply below_drew1) | exact HB.out)⟩
      · rw [if_neg c5] at H
        exact absurd H (by simp)
    · rw [if_neg c4] at H
      have c4b0 : ((t123.length : Int) == 5) = false := beq_eq_false_iff_ne.mpr c4
      have c4b1 : ((t123.length : Int) != 5) = true := bne_iff_ne.mpr c4
      obtain rfl := Option.some.inj H
      go_enter Try.func20, Try.ntmps20
      go_wp2_with (first | ((with_reducible refine gate_callee (f := 21) rfl ?_); refine goesL_ (some 5) rfl rfl Try.func21 (by kernel_rfl) rfl #[.string (⟨#[120, 61, 49, 59]⟩ : ByteArray)] rfl (by (try simp only [List.map_toArray, List.map_cons, List.map_nil]); first | done | rfl | (simp only [List.length_drop, List.length_take]; rfl)) ?_; (with_reducible refine (lex_Lex.calls k (⟨#[120, 61, 49, 59]⟩ : ByteArray) t123 t124 t125 _ A1.out).mono ?_); rintro e w8 ⟨v126, rfl, ho0, hb⟩; refine ⟨_, rfl, ?_⟩; have n0_ := Aside0.mk (Kd.R_lower ho0 (below_size (by repeat (first | (with_reducible first | exact HB.out | apply below_alloc | apply pw_below_drewN | apply below_drew1) | exact HB.out)))); have n1_ := Aside0.mk (below_step (by repeat (first | (with_reducible first | exact HB.out | apply below_alloc | apply pw_below_drewN | apply below_drew1) | exact HB.out)) hb); clear HB; have HO127 := n0_; have HB := n1_; clear n0_ n1_; (try clear hb); (try clear hb2); (try clear hk); (try clear hi); (try clear ho0)) | ((with_reducible refine gate_callee (f := 17) rfl ?_); refine goesL_ (some 10) rfl rfl Try.func17 (by kernel_rfl) rfl #[.int .i64 t124] rfl (by (try simp only [List.map_toArray, List.map_cons, List.map_nil]); first | done | rfl | (simp only [List.length_drop, List.length_take]; rfl)) ?_; (with_reducible refine (aquiferlaw1_Num.calls t124 t128 _ A2.out).mono ?_); rintro e w' ⟨rfl, ⟨nd, rfl⟩⟩; refine ⟨_, rfl, ?_⟩; obtain ⟨Ao9, co9, eo9⟩ := Kd.R_slice HO127.out; subst eo9))
      go_ret
      exact ⟨by first | rfl | (simp [errW_none, errW_some] <;> rfl) | (simp [*, errW_none, errW_some] <;> rfl), by repeat (first | (with_reducible first | exact HB.out | apply below_alloc | apply pw_below_drewN | apply below_drew1) | exact HB.out)⟩
  · rw [if_neg c3] at H
    have c3b0 : (t128 == 0) = false := beq_eq_false_iff_ne.mpr c3
    have c3b1 : (t128 != 0) = true := bne_iff_ne.mpr c3
    obtain rfl := Option.some.inj H
    go_enter Try.func20, Try.ntmps20
    go_wp2_with (first | ((with_reducible refine gate_callee (f := 21) rfl ?_); refine goesL_ (some 5) rfl rfl Try.func21 (by kernel_rfl) rfl #[.string (⟨#[120, 61, 49, 59]⟩ : ByteArray)] rfl (by (try simp only [List.map_toArray, List.map_cons, List.map_nil]); first | done | rfl | (simp only [List.length_drop, List.length_take]; rfl)) ?_; (with_reducible refine (lex_Lex.calls k (⟨#[120, 61, 49, 59]⟩ : ByteArray) t123 t124 t125 _ A1.out).mono ?_); rintro e w10 ⟨v126, rfl, ho0, hb⟩; refine ⟨_, rfl, ?_⟩; have n0_ := Aside0.mk (Kd.R_lower ho0 (below_size (by repeat (first | (with_reducible first | exact HB.out | apply below_alloc | apply pw_below_drewN | apply below_drew1) | exact HB.out)))); have n1_ := Aside0.mk (below_step (by repeat (first | (with_reducible first | exact HB.out | apply below_alloc | apply pw_below_drewN | apply below_drew1) | exact HB.out)) hb); clear HB; have HO127 := n0_; have HB := n1_; clear n0_ n1_; (try clear hb); (try clear hb2); (try clear hk); (try clear hi); (try clear ho0)) | ((with_reducible refine gate_callee (f := 17) rfl ?_); refine goesL_ (some 10) rfl rfl Try.func17 (by kernel_rfl) rfl #[.int .i64 t124] rfl (by (try simp only [List.map_toArray, List.map_cons, List.map_nil]); first | done | rfl | (simp only [List.length_drop, List.length_take]; rfl)) ?_; (with_reducible refine (aquiferlaw1_Num.calls t124 t128 _ A2.out).mono ?_); rintro e w' ⟨rfl, ⟨nd, rfl⟩⟩; refine ⟨_, rfl, ?_⟩))
    go_ret
    exact ⟨by first | rfl | (simp [errW_none, errW_some] <;> rfl) | (simp [*, errW_none, errW_some] <;> rfl), by repeat (first | (with_reducible first | exact HB.out | apply below_alloc | apply pw_below_drewN | apply below_drew1) | exact HB.out)⟩

end Go.Proofs.Ytlleenoigcjemaa.QLexJoins
