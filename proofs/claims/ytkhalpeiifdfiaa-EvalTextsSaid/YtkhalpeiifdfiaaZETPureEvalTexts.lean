/- The statement EvalTexts over texts, lists and numbers: of the nodes of any text both values are one; the parser tells something of every text. No further condition. -/
import Derived.Test.YtkhalpeiifdfiaaZETx22
namespace Go.Proofs.Ytkhalpeiifdfiaa.Pure
open Go.RowKit Go.Proofs.Ytkhalpeiifdfiaa.QEvalTexts Go.Proofs.YtkhalpeiifdfiaaW.PrintWords Go.Proofs.YtkhalpeiifdfiaaW.PrintLast
set_option linter.unusedVariables false
theorem ip {c : Prop} {h : Decidable c} (x : c) {α : Type} {a b : α} : ite c a b = a := if_pos x
theorem ig {c : Prop} {h : Decidable c} (x : ¬c) {α : Type} {a b : α} : ite c a b = b := if_neg x
theorem bft : ¬false = true := Bool.false_ne_true
abbrev BA := ByteArray
open Lib (compareBytes)
open eval_Value (kid)
namespace FindP
theorem w64 {n : Int} (h0 : -4503599627370496 ≤ n) (h1 : n ≤ 4503599627370496) : wrap64 n = n := by unfold wrap64; omega
theorem toL (s : BA) : s.toList = s.data.toList := Lib.toList_data s
theorem cb_self : ∀ a : List UInt8, compareBytes a a = 0
 | [] => rfl
 | x :: t => by
  unfold compareBytes
  rw [ig (by simp), ig (by simp)]
  exact cb_self t
theorem cb_eq : ∀ a b : List UInt8, compareBytes a b = 0 → a = b
 | [], [], _ => rfl
 | [], _ :: _, h => by simp [compareBytes] at h
 | _ :: _, [], h => by simp [compareBytes] at h
 | x :: s, y :: t, h => by
  unfold compareBytes at h
  split at h
  · cases h
  ·
   split at h
   · cases h
   ·
    rename_i h1 h2
    have : x = y := by
     rw [UInt8.lt_iff_toNat_lt] at h1 h2
     exact UInt8.toNat_inj.1 (by omega)
    rw [this, cb_eq s t h]
theorem cb_trans : ∀ a b c : List UInt8, ¬ compareBytes b a < 0 → ¬ compareBytes c b < 0 → ¬ compareBytes c a < 0
 | [], _, [], _, _ => by simp [compareBytes]
 | [], _, _ :: _, _, _ => by simp [compareBytes]
 | _ :: _, [], _, h, _ => by simp [compareBytes] at h
 | _ :: _, _ :: _, [], _, h => by simp [compareBytes] at h
 | x :: s, y :: t, z :: u, h1, h2 => by
  have ih := cb_trans s t u
  simp only [compareBytes, UInt8.lt_iff_toNat_lt] at h1 h2 ⊢
  split at h1
  · omega
  ·
   split at h2
   · omega
   ·
    rename_i a1 a2
    rw [ig (by omega)]
    by_cases e : x.toNat < z.toNat
    · rw [ip e]; decide
    ·
     rw [ig e]
     rw [ig (by omega)] at h1 h2
     exact ih h1 h2
theorem cb_anti : ∀ a b : List UInt8, ¬ compareBytes a b < 0 → ¬ compareBytes b a < 0 → compareBytes a b = 0
 | [], [], _, _ => rfl
 | [], _ :: _, h, _ => by simp [compareBytes] at h
 | _ :: _, [], _, h => by simp [compareBytes] at h
 | x :: s, y :: t, h1, h2 => by
  have ih := cb_anti s t
  simp only [compareBytes, UInt8.lt_iff_toNat_lt] at h1 h2 ⊢
  split at h1
  · omega
  ·
   split at h2
   · omega
   ·
    rename_i a1 a2
    rw [ig a1, ig a2]
    rw [ig a2] at h1
    exact ih h1 h2
abbrev Cell := S32
abbrev cmp (x y : Cell) : Int := memory_find.cmp x y
theorem cmp_zero (x y : Cell) : cmp x y = 0 ↔ x.f0.toList = y.f0.toList ∧ x.f1.toList = y.f1.toList := by
 unfold cmp memory_find.cmp
 rw [toL, toL, toL, toL]
 constructor
 ·
  intro h
  split at h
  ·
   rename_i h0
   exact ⟨cb_eq _ _ h0, cb_eq _ _ h⟩
  ·
   rename_i h0
   exact absurd h h0
 ·
  rintro ⟨h0, h1⟩
  rw [h0, h1, cb_self, ip rfl, cb_self]
theorem cmp_trans (a b c : Cell) (h1 : ¬ cmp b a < 0) (h2 : ¬ cmp c b < 0) : ¬ cmp c a < 0 := by
 unfold cmp memory_find.cmp at h1 h2 ⊢
 have t0 := cb_trans a.f0.data.toList b.f0.data.toList c.f0.data.toList
 have t1 := cb_trans a.f1.data.toList b.f1.data.toList c.f1.data.toList
 have e1 := cb_eq b.f0.data.toList a.f0.data.toList
 have e2 := cb_eq c.f0.data.toList b.f0.data.toList
 have e3 := cb_eq c.f0.data.toList a.f0.data.toList
 have an := cb_anti b.f0.data.toList a.f0.data.toList
 by_cases z1 : compareBytes b.f0.data.toList a.f0.data.toList = 0
 ·
  rw [ip z1] at h1
  have q1 := e1 z1
  rw [q1] at h2
  by_cases z2 : compareBytes c.f0.data.toList a.f0.data.toList = 0
  ·
   rw [ip z2] at h2 ⊢
   exact t1 h1 h2
  ·
   rw [ig z2] at h2 ⊢
   exact h2
 ·
  rw [ig z1] at h1
  by_cases z2 : compareBytes c.f0.data.toList b.f0.data.toList = 0
  ·
   rw [ip z2] at h2
   rw [e2 z2, ig z1]
   exact h1
  ·
   rw [ig z2] at h2
   have t := t0 h1 h2
   by_cases z3 : compareBytes c.f0.data.toList a.f0.data.toList = 0
   ·
    have q3 := e3 z3
    rw [q3] at h2
    exact absurd (an h1 h2) z1
   ·
    rw [ig z3]
    exact t
def place (y : Cell) : List Cell → Int → Int := memory_find.idx y
theorem place_none (y : Cell) : ∀ (l : List Cell) (j : Int), (∀ c ∈ l, cmp c y ≠ 0) → place y l j = -1
 | [], _, _ => rfl
 | c :: t, j, h => by
  unfold place memory_find.idx
  rw [ig (h c (by simp))]
  exact place_none y t (j + 1) (fun c hc => h c (by simp [hc]))
theorem place_at (y : Cell) : ∀ (l : List Cell) (j : Int) (i : Nat) (hi : i < l.length), (∀ a (ha : a < i), cmp (l[a]'(by omega)) y ≠ 0) → cmp l[i] y = 0 → place y l j = j + i
 | c :: t, j, 0, _, _, h => by
  unfold place memory_find.idx
  rw [ip (show memory_find.cmp c y = 0 from h)]
  simp
 | c :: t, j, i + 1, hi, ha, h => by
  unfold place memory_find.idx
  rw [ig (show ¬ memory_find.cmp c y = 0 from ha 0 (by omega))]
  have := place_at y t (j + 1) i (by simpa using hi) (fun a h2 => by simpa using ha (a + 1) (by omega)) (by simpa using h)
  unfold place at this
  rw [this]
  omega
theorem rd_get (l : List Cell) (i : Nat) (h : i < l.length) : rd_T32 l (i : Int) = l[i] := by simp [rd_T32, List.getD_eq_getElem?_getD, h]
def Sorted (l : List Cell) : Prop := ∀ i (h : i + 1 < l.length), ¬ cmp (l[i + 1]) (l[i]'(by omega)) < 0
theorem sorted_le {l : List Cell} (hs : Sorted l) : ∀ (d i : Nat) (h : i + d < l.length), ¬ cmp (l[i + d]) (l[i]'(by omega)) < 0 := by
 intro d
 induction d with
 | zero =>
  intro i h
  have : cmp (l[i]'(by omega)) (l[i]'(by omega)) = 0 := (cmp_zero _ _).2 ⟨rfl, rfl⟩
  simp only [Nat.add_zero]
  omega
 | succ d ih =>
  intro i h
  exact cmp_trans _ _ _ (ih i (by omega)) (hs (i + d) (by omega))
theorem cmp_ev (x y : Cell) : Ev (fun k => memory_compare.f k x.f0 x.f1 x.f2 y.f0 y.f1 y.f2) (cmp x y) := Ev.of (fun k => memory_compare.mono _ _ _ _ _ _ k) (memory_find.cmp_f x y 0)
theorem issorted_ev (l : List Cell) (hl : l.length ≤ 1000000000) : ∀ i : Nat, i < l.length → (∀ a (h : a + 1 < l.length), i ≤ a → ¬ cmp (l[a + 1]) (l[a]'(by omega)) < 0) → ∃ t : Bool, (t = true → Sorted l) ∧ Ev (fun k => api_Cell_64.l0 k l (i : Int)) t := by
 intro i
 induction i with
 | zero =>
  intro hi h
  refine ⟨true, fun _ a ha => h a ha (Nat.zero_le _), Ev.step (f := fun _ => some true) (fun k => ?_) (Ev.now _)⟩
  simp only [api_Cell_64.l0]
  rw [ig (by omega)]
 | succ i ih =>
  intro hi h
  have w1 : wrap64 (((i + 1 : Nat) : Int) - 1) = (i : Int) := by rw [w64 (by omega) (by omega)]; omega
  have e1 := rd_get l (i + 1) hi
  have e2 := rd_get l i (by omega)
  have hstep : ∀ k, api_Cell_64.l0 (k + 1) l ((i + 1 : Nat) : Int) = (memory_compare.f k (l[i + 1]).f0 (l[i + 1]).f1 (l[i + 1]).f2 (l[i]'(by omega)).f0 (l[i]'(by omega)).f1 (l[i]'(by omega)).f2).bind fun t => if t < 0 then some false else api_Cell_64.l0 k l (i : Int) := by
   intro k
   simp only [api_Cell_64.l0]
   rw [w1, e1, e2, ip (by omega), ip (by omega), ip (by omega), ip (by omega), ip (by omega)]
  by_cases hc : cmp (l[i + 1]) (l[i]'(by omega)) < 0
  ·
   refine ⟨false, fun h => (by cases h), Ev.step hstep (Ev.bind (cmp_ev _ _) ?_)⟩
   simp only [ip hc]
   exact Ev.now _
  ·
   obtain ⟨t, h1, h2⟩ := ih (by omega) (fun a ha hia => by
    by_cases e : a = i
    · subst e; exact hc
    · exact h a ha (by omega))
   refine ⟨t, h1, Ev.step hstep (Ev.bind (cmp_ev _ _) ?_)⟩
   simp only [ig hc]
   exact h2
theorem sorted_ev (l : List Cell) (hl : l.length ≤ 1000000000) : ∃ t : Bool, (t = true → Sorted l) ∧ Ev (fun k => api_Cell_64.f k l) t := by
 by_cases h0 : l.length = 0
 ·
  refine ⟨true, fun _ i h => by omega, ?_⟩
  refine Ev.step (f := fun _ => some true) (g := fun k => api_Cell_64.f k l) (fun k => ?_) (Ev.now _)
  unfold api_Cell_64.f
  rw [w64 (by omega) (by omega)]
  simp only [api_Cell_64.l0]
  rw [ig (by omega)]
 ·
  obtain ⟨t, h1, h2⟩ := issorted_ev l hl (l.length - 1) (by omega) (fun a h hia => by omega)
  refine ⟨t, h1, Ev.congr (fun k => ?_) h2⟩
  unfold api_Cell_64.f
  rw [w64 (by omega) (by omega), show ((l.length - 1 : Nat) : Int) = (l.length : Int) - 1 by omega]
theorem search_ev (l : List Cell) (y : Cell) (hl : l.length ≤ 1000000000) : ∀ (d i j : Nat), j - i ≤ d → i ≤ j → j ≤ l.length → (∀ a (h : a < l.length), a < i → cmp (l[a]) y < 0) → (∀ a (h : a < l.length), j ≤ a → ¬ cmp (l[a]) y < 0) → Sorted l →
  ∃ r : Int × Bool, Ev (fun k => api_Cell_65.l0 k l (l.length : Int) (i : Int) (j : Int) y.f0 y.f1 y.f2) r ∧ (if r.2 = true then r.1 else -1) = place y l 0 := by
 intro d
 induction d with
 | zero =>
  intro i j hd hij hj h1 h2 hs
  have e : j = i := by omega
  subst e
  by_cases hjl : j < l.length
  ·
   have hrd := rd_get l j hjl
   refine ⟨((j : Int), (cmp l[j] y == 0)), Ev.step (fun k => ?_) (Ev.bind (f := fun _ (t : Int) => some ((j : Int), (t == 0))) (cmp_ev l[j] y) (Ev.now _)), ?_⟩
   ·
    simp only [api_Cell_65.l0]
    rw [ig (by omega), ip (by omega), ip (by omega), ip (by omega), hrd]
   ·
    by_cases hz : cmp l[j] y = 0
    ·
     have := place_at y l 0 j hjl (fun a ha => by have := h1 a (by omega) ha; omega) hz
     rw [this]
     simp [hz]
    ·
     have : ∀ c ∈ l, cmp c y ≠ 0 := by
      intro c hc
      obtain ⟨a, ha, rfl⟩ := List.getElem_of_mem hc
      by_cases haj : a < j
      · have := h1 a ha haj; omega
      ·
       intro hz2
       obtain ⟨d, rfl⟩ : ∃ d, a = j + d := ⟨a - j, by omega⟩
       have q := sorted_le hs d j ha
       have q2 := h2 j hjl (Nat.le_refl _)
       obtain ⟨z0, z1⟩ := (cmp_zero _ _).1 hz2
       have e1 : cmp y l[j] = cmp (l[j + d]) l[j] := by
        unfold cmp memory_find.cmp
        rw [← toL y.f0, ← toL y.f1, ← z0, ← z1, toL, toL]
       have q3 : ¬ cmp y l[j] < 0 := by rw [e1]; exact q
       apply hz
       unfold cmp memory_find.cmp at q2 q3 ⊢
       have an := cb_anti (l[j]).f0.data.toList y.f0.data.toList
       have an1 := cb_anti (l[j]).f1.data.toList y.f1.data.toList
       have s1 := cb_eq (l[j]).f0.data.toList y.f0.data.toList
       by_cases z : compareBytes (l[j]).f0.data.toList y.f0.data.toList = 0
       ·
        have s2 := s1 z
        rw [s2] at q3 q2 ⊢
        rw [cb_self, ip rfl] at q2 q3 ⊢
        exact an1 q2 q3
       ·
        rw [ig z] at q2 ⊢
        have z' : ¬ compareBytes y.f0.data.toList (l[j]).f0.data.toList = 0 := fun e => z (by rw [cb_eq _ _ e, cb_self])
        rw [ig z'] at q3
        exact an q2 q3
     rw [place_none y l 0 this]
     simp [hz]
  ·
   have e : j = l.length := by omega
   refine ⟨((j : Int), false), Ev.step (f := fun _ => some ((j : Int), false)) (fun k => ?_) (Ev.now _), ?_⟩
   ·
    simp only [api_Cell_65.l0]
    rw [ig (by omega), ig (by omega)]
   ·
    rw [place_none y l 0 (fun c hc => by
     obtain ⟨a, ha, rfl⟩ := List.getElem_of_mem hc
     have := h1 a ha (by omega)
     omega)]
    rfl
 | succ d ih =>
  intro i j hd hij hj h1 h2 hs
  by_cases hlt : i < j
  ·
   have wm : wrap64 ((IntKind.u64.wrap (wrap64 ((i : Int) + (j : Int)))) / 2) = (((i + j) / 2 : Nat) : Int) := by
    rw [w64 (n := (i : Int) + (j : Int)) (by omega) (by omega), show IntKind.u64.wrap ((i : Int) + (j : Int)) = (i : Int) + (j : Int) by unfold IntKind.wrap; simp [IntKind.bits, IntKind.signed]; omega, w64 (by omega) (by omega)]
    omega
   obtain ⟨m, hm⟩ : ∃ m, m = (i + j) / 2 := ⟨_, rfl⟩
   have hm1 : i ≤ m := by omega
   have hm2 : m < j := by omega
   rw [← hm] at wm
   clear hm
   have hrd := rd_get l m (by omega)
   have hstep : ∀ k, api_Cell_65.l0 (k + 1) l (l.length : Int) (i : Int) (j : Int) y.f0 y.f1 y.f2 = (memory_compare.f k (l[m]'(by omega)).f0 (l[m]'(by omega)).f1 (l[m]'(by omega)).f2 y.f0 y.f1 y.f2).bind fun t => if t < 0 then api_Cell_65.l0 k l (l.length : Int) ((m + 1 : Nat) : Int) (j : Int) y.f0 y.f1 y.f2 else api_Cell_65.l0 k l (l.length : Int) (i : Int) (m : Int) y.f0 y.f1 y.f2 := by
    intro k
    simp only [api_Cell_65.l0]
    rw [wm, ip (by omega), ip (by omega), ip (by omega), hrd, show wrap64 ((m : Int) + 1) = ((m + 1 : Nat) : Int) by rw [w64 (by omega) (by omega)]; omega]
   by_cases hc : cmp (l[m]'(by omega)) y < 0
   ·
    obtain ⟨r, e1, e2⟩ := ih (m + 1) j (by omega) (by omega) hj (fun a ha ham => by
     obtain ⟨q, rfl⟩ : ∃ q, m = a + q := ⟨m - a, by omega⟩
     have s := sorted_le hs q a (by omega)
     apply Decidable.byContradiction
     intro hn
     exact (cmp_trans y _ _ hn s) hc) h2 hs
    refine ⟨r, Ev.step hstep (Ev.bind (cmp_ev _ _) ?_), e2⟩
    simp only [ip hc]
    exact e1
   ·
    obtain ⟨r, e1, e2⟩ := ih i m (by omega) (by omega) (by omega) h1 (fun a ha ham => by
     obtain ⟨q, rfl⟩ : ∃ q, a = m + q := ⟨a - m, by omega⟩
     exact cmp_trans y _ _ hc (sorted_le hs q m ha)) hs
    refine ⟨r, Ev.step hstep (Ev.bind (cmp_ev _ _) ?_), e2⟩
    simp only [ig hc]
    exact e1
  ·
   have e : j = i := by omega
   subst e
   exact ih j j (by omega) (Nat.le_refl _) hj h1 h2 hs
theorem find_ev (l : List Cell) (m n : BA) (hl : l.length ≤ 1000000000) : Ev (fun k => memory_find.f k l m n) (place ⟨m, n, 0⟩ l 0) := by
 obtain ⟨t, h1, h2⟩ := sorted_ev l hl
 have hu : ∀ k, memory_find.f k l m n = (api_Cell_64.f k l).bind fun t => (if t = true then ((api_Cell_65.f k l m n 0).bind fun b => (if b.2 = true then (some b.1) else (some (-1)))) else (some (memory_find.idx ⟨m, n, 0⟩ l 0))) := by
  intro k
  unfold memory_find.f
  rw [ip (by omega)]
 refine Ev.congr hu (Ev.bind h2 ?_)
 cases t with
 | false =>
  refine Ev.congr (fun k => ?_) (Ev.now _)
  rw [ig bft]
  rfl
 | true =>
  obtain ⟨r, e1, e2⟩ := search_ev l ⟨m, n, 0⟩ hl l.length 0 l.length (by omega) (Nat.zero_le _) (Nat.le_refl _) (fun a h ha => by omega) (fun a h ha => by omega) (h1 rfl)
  refine Ev.congr (f := fun k => (api_Cell_65.f k l m n 0).bind fun b => (if b.2 = true then (some b.1) else (some (-1)))) (fun k => by rw [ip rfl]) (Ev.bind (a := r) e1 ?_)
  rw [← e2]
  cases r.2 with
  | true => exact Ev.now _
  | false => exact Ev.now _
theorem place_lt (y : Cell) : ∀ (l : List Cell) (j : Int), 0 ≤ j → place y l j = -1 ∨ (j ≤ place y l j ∧ place y l j < j + l.length)
 | [], _, _ => Or.inl rfl
 | c :: t, j, hj => by
  unfold place memory_find.idx
  split
  ·
   right
   simp only [List.length_cons]
   omega
  ·
   rcases place_lt y t (j + 1) (by omega) with h | h
   · exact Or.inl h
   ·
    right
    unfold place at h
    simp only [List.length_cons]
    omega
end FindP
namespace FindP
def got (l : List Cell) (m n : BA) : Int × Bool := if place ⟨m, n, 0⟩ l 0 < 0 then (0, false) else ((rd_T32 l (place ⟨m, n, 0⟩ l 0)).f2, true)
theorem get_ev (l : List Cell) (m n : BA) (hl : l.length ≤ 1000000000) : Ev (fun k => memory_Get.f k l m n) (got l m n) := by
 have hp := place_lt ⟨m, n, 0⟩ l 0 (Int.le_refl _)
 have hu : ∀ k, memory_Get.f k l m n = (memory_find.f k l m n).bind fun t => (if t < 0 then (some ((0 : Int), false)) else (if 0 ≤ t then (if t < (l.length : Int) then (some ((rd_T32 l t).f2, true)) else (none)) else (none))) := fun k => rfl
 refine Ev.congr hu (Ev.bind (find_ev l m n hl) ?_)
 unfold got
 by_cases h : place ⟨m, n, 0⟩ l 0 < 0
 · rw [ip h, ip h]; exact Ev.now _
 · rw [ig h, ig h, ip (by omega), ip (by omega)]; exact Ev.now _
end FindP
namespace FindP
theorem rplace_ev (l : List Cell) (m n : BA) (hl : l.length ≤ 1000000000) : ∀ (d i : Nat), i + d = l.length → Ev (fun k => rb_place.l0 k l m n (i : Int)) (place ⟨m, n, 0⟩ (l.drop i) (i : Int)) := by
 intro d
 induction d with
 | zero =>
  intro i hd
  rw [List.drop_eq_nil_of_le (by omega)]
  refine Ev.step (f := fun _ => some (-1)) (fun k => ?_) (Ev.now _)
  simp only [rb_place.l0]
  rw [ig (by omega)]
 | succ d ih =>
  intro i hd
  have hi : i < l.length := by omega
  have e1 := rd_get l i hi
  rw [List.drop_eq_getElem_cons hi]
  have h2 := ih (i + 1) (by omega)
  have hz := cmp_zero l[i] ⟨m, n, 0⟩
  have hw : wrap64 ((i : Int) + 1) = ((i + 1 : Nat) : Int) := by rw [w64 (by omega) (by omega)]; omega
  unfold place memory_find.idx
  by_cases h0 : (l[i]).f0.toList = m.toList
  ·
   by_cases h1 : (l[i]).f1.toList = n.toList
   ·
    rw [ip (hz.2 ⟨h0, h1⟩)]
    refine Ev.step (f := fun _ => some (i : Int)) (fun k => ?_) (Ev.now _)
    simp only [rb_place.l0]
    rw [e1, ip (by omega), ip (by omega), ip h0, ip h1]
   ·
    rw [ig (fun h => h1 (hz.1 h).2)]
    refine Ev.step (fun k => ?_) h2
    simp only [rb_place.l0]
    rw [e1, ip (by omega), ip (by omega), ip h0, ig h1, hw]
  ·
   rw [ig (fun h => h0 (hz.1 h).1)]
   refine Ev.step (fun k => ?_) h2
   simp only [rb_place.l0]
   rw [e1, ip (by omega), ip (by omega), ig h0, hw]
theorem rplace (l : List Cell) (m n : BA) (hl : l.length ≤ 1000000000) : Ev (fun k => rb_place.f k l m n) (place ⟨m, n, 0⟩ l 0) := rplace_ev l m n hl l.length 0 (by omega)
theorem rget_ev (l : List Cell) (m n : BA) (hl : l.length ≤ 1000000000) : Ev (fun k => rb_Get.f k l m n) (got l m n) := by
 have hp := place_lt ⟨m, n, 0⟩ l 0 (Int.le_refl _)
 have hu : ∀ k, rb_Get.f k l m n = (rb_place.f k l m n).bind fun t => (if t < 0 then (some ((0 : Int), false)) else (if 0 ≤ t then (if t < (l.length : Int) then (some ((rd_T32 l t).f2, true)) else (none)) else (none))) := fun k => rfl
 refine Ev.congr hu (Ev.bind (rplace l m n hl) ?_)
 unfold got
 by_cases h : place ⟨m, n, 0⟩ l 0 < 0
 · rw [ip h, ip h]; exact Ev.now _
 · rw [ig h, ig h, ip (by omega), ip (by omega)]; exact Ev.now _
end FindP
namespace ValP
open FindP
abbrev Node := S73
theorem last_ev (s mod : BA) (l m : List Cell) (hl : l.length ≤ 1000000000) (hm : m.length ≤ 1000000000) : ∀ k : Nat, k ≤ l.length → Ev (fun q => rb_name.l0 q s mod l m ((k : Int) - 1)) (match eval_name.last s l k with | some v => v | none => (got m mod s).1) := by
 intro k
 induction k with
 | zero =>
  intro _
  have hu : ∀ q, rb_name.l0 (q + 1) s mod l m (((0 : Nat) : Int) - 1) = (rb_Get.f q m mod s).bind fun b => some b.1 := by
   intro q
   simp only [rb_name.l0]
   rw [ig (by omega)]
  exact Ev.step hu (Ev.bind (f := fun _ (b : Int × Bool) => some b.1) (rget_ev m mod s hm) (Ev.now _))
 | succ k ih =>
  intro hk
  have e : ((k + 1 : Nat) : Int) - 1 = (k : Int) := by omega
  have hw : wrap64 ((k : Int) - 1) = (k : Int) - 1 := w64 (by omega) (by omega)
  rw [e]
  simp only [eval_name.last]
  by_cases h : (rd_T32 l (k : Int)).f1.toList = s.toList
  ·
   rw [ip h]
   refine Ev.step (f := fun _ => some (rd_T32 l (k : Int)).f2) (fun q => ?_) (Ev.now _)
   simp only [rb_name.l0]
   rw [ip (by omega), ip (by omega), ip (by omega), ip h]
  ·
   rw [ig h]
   refine Ev.step (fun q => ?_) (ih (by omega))
   simp only [rb_name.l0]
   rw [ip (by omega), ip (by omega), ip (by omega), ig h, hw]
def named (n : Node) (mod : BA) (l m : List Cell) : Int :=
 if n.f2.toList = ([] : List UInt8) then (match eval_name.last n.f3 l l.length with | some v => v | none => (got m mod n.f3).1) else (got m n.f2 n.f3).1
theorem name_ev (n : Node) (mod : BA) (l m : List Cell) (hl : l.length ≤ 1000000000) (hm : m.length ≤ 1000000000) : Ev (fun k => eval_name.f k n.f0 n.f1 n.f2 n.f3 n.f4 n.f5 n.f6 mod l m) (named n mod l m) := by
 unfold named
 by_cases h : n.f2.toList = ([] : List UInt8)
 ·
  rw [ip h]
  cases hl2 : eval_name.last n.f3 l l.length with
  | some v =>
   refine Ev.congr (fun k => ?_) (Ev.now _)
   unfold eval_name.f
   rw [ip (by omega), ip h, hl2]
   rfl
  | none =>
   refine Ev.congr (fun k => ?_) (Ev.bind (f := fun _ (b : Int × Bool) => some b.1) (get_ev m mod n.f3 hm) (Ev.now _))
   unfold eval_name.f
   rw [ip (by omega), ip h, hl2, ig (by simp)]
 ·
  rw [ig h]
  refine Ev.congr (fun k => ?_) (Ev.bind (f := fun _ (b : Int × Bool) => some b.1) (get_ev m n.f2 n.f3 hm) (Ev.now _))
  unfold eval_name.f
  rw [ip (by omega), ig h]
theorem rname_ev (n : Node) (mod : BA) (l m : List Cell) (hl : l.length ≤ 1000000000) (hm : m.length ≤ 1000000000) : Ev (fun k => rb_name.f k n.f2 n.f3 mod l m) (named n mod l m) := by
 unfold named
 by_cases h : n.f2.toList = ([] : List UInt8)
 ·
  rw [ip h]
  refine Ev.congr (fun k => ?_) (last_ev n.f3 mod l m hl hm l.length (Nat.le_refl _))
  unfold rb_name.f
  rw [ip h, w64 (by omega) (by omega)]
 ·
  rw [ig h]
  refine Ev.congr (fun k => ?_) (Ev.bind (f := fun _ (b : Int × Bool) => some b.1) (rget_ev m n.f2 n.f3 hm) (Ev.now _))
  unfold rb_name.f
  rw [ig h]
theorem truth_bit (b : Bool) : eval_truth.f b = rb_bit.f b := rfl
theorem op_same (k a b : Int) : ∃ v, eval_Op.f k a b = some v ∧ rb_Op.f k a b = some v := by
 have hb : ∀ x : Bool, ∃ v, rb_bit.f x = some v := fun x => by unfold rb_bit.f; split <;> exact ⟨_, rfl⟩
 have he : eval_Op.f k a b = rb_Op.f k a b := by
  unfold eval_Op.f rb_Op.f
  simp only [truth_bit]
  by_cases h3 : k = 3
  · subst h3; rfl
  by_cases h4 : k = 4
  · subst h4; rfl
  simp only [ig h3, ig h4]
 have hs : ∃ v, rb_Op.f k a b = some v := by
  unfold rb_Op.f
  obtain ⟨v1, e1⟩ := hb (a == 0)
  obtain ⟨v2, e2⟩ := hb (a == b)
  obtain ⟨v3, e3⟩ := hb (decide (a < b))
  obtain ⟨v4, e4⟩ := hb (decide (a ≤ b))
  rw [e1, e2, e3, e4]
  simp only [Option.bind_some]
  repeat' split
  all_goals exact ⟨_, rfl⟩
 obtain ⟨v, hv⟩ := hs
 exact ⟨v, he.trans hv, hv⟩
def nodev (vs : List Int) (i : Int) (n : Node) (mod : BA) (l m : List Cell) : Int :=
 if n.f0 = 1 then n.f1 else if n.f0 = 2 then named n mod l m else (eval_Op.f n.f0 (kid vs i n.f4) (kid vs i n.f5)).getD 0
theorem node_ev (vs : List Int) (i : Int) (n : Node) (mod : BA) (l m : List Cell) (hl : l.length ≤ 1000000000) (hm : m.length ≤ 1000000000) : Ev (fun k => eval_Value.node k vs i n mod l m) (nodev vs i n mod l m) := by
 unfold nodev
 by_cases h1 : n.f0 = 1
 ·
  rw [ip h1]
  refine Ev.congr (fun k => ?_) (Ev.now _)
  unfold eval_Value.node
  rw [ip h1]
 by_cases h2 : n.f0 = 2
 ·
  rw [ig h1, ip h2]
  refine Ev.congr (fun k => ?_) (name_ev n mod l m hl hm)
  unfold eval_Value.node
  rw [ig h1, ip h2]
 ·
  rw [ig h1, ig h2]
  obtain ⟨v, e, _⟩ := op_same n.f0 (kid vs i n.f4) (kid vs i n.f5)
  rw [e]
  refine Ev.congr (fun k => ?_) (Ev.now v)
  unfold eval_Value.node
  rw [ig h1, ig h2, e]
theorem kid_same (a b : List Int) (i k : Int) (h : ∀ j : Int, 0 ≤ j → j < i → rd a j = rd b j) : kid a i k = kid b i k := by
 unfold kid
 by_cases h0 : k < 0
 · rw [ip h0, ip h0]
 ·
  by_cases h1 : k ≥ i
  · rw [ig h0, ip h1, ig h0, ip h1]
  · rw [ig h0, ig h1, ig h0, ig h1, h k (by omega) (by omega)]
theorem nodev_same (a b : List Int) (i : Int) (n : Node) (mod : BA) (l m : List Cell) (h : ∀ j : Int, 0 ≤ j → j < i → rd a j = rd b j) : nodev a i n mod l m = nodev b i n mod l m := by
 unfold nodev
 rw [kid_same a b i n.f4 h, kid_same a b i n.f5 h]
theorem rd_set_eq (a : List Int) (i : Nat) (v : Int) (h : i < a.length) : rd (a.set i v) (i : Int) = v := by simp [rd, List.getD_eq_getElem?_getD, h]
theorem rd_set_ne (a : List Int) (i : Nat) (j v : Int) (h0 : 0 ≤ j) (h : j ≠ (i : Int)) : rd (a.set i v) j = rd a j := by
 have : i ≠ j.toNat := by omega
 simp [rd, List.getD_eq_getElem?_getD, this]
theorem rround_ev (ns : List Node) (at_ : Int) (mod : BA) (l m : List Cell) (vs : List Int) (i : Nat) (hn : ns.length ≤ 1000000000) (hl : l.length ≤ 1000000000) (hm : m.length ≤ 1000000000) (hi : (i : Int) ≤ at_) (hi2 : i < ns.length) (hv : vs.length = ns.length) (r : Int)
  (h : Ev (fun k => rb_Value.l0 k ns at_ mod l m (vs.set i (nodev vs (i : Int) (rd_T73 ns (i : Int)) mod l m)) ((i + 1 : Nat) : Int)) r) : Ev (fun k => rb_Value.l0 k ns at_ mod l m vs (i : Int)) r := by
 obtain ⟨n, hnn⟩ : ∃ n, rd_T73 ns (i : Int) = n := ⟨_, rfl⟩
 rw [hnn] at h
 have hw : wrap64 ((i : Int) + 1) = ((i + 1 : Nat) : Int) := by rw [w64 (by omega) (by omega)]; omega
 have hl2 : (i : Int) < (vs.length : Int) := by omega
 have h5 : Ev (fun k => rb_Value.j5 k ns at_ mod l m vs (i : Int) (kid vs (i : Int) n.f4) (kid vs (i : Int) n.f5) n.f0 n.f1 n.f2 n.f3 n.f4 n.f5 n.f6) r := by
  unfold nodev at h
  by_cases h1 : n.f0 = 1
  ·
   rw [ip h1] at h
   refine Ev.step (fun k => ?_) h
   simp only [rb_Value.j5]
   rw [ip h1, ip (by omega), ip hl2, hw]
   rfl
  by_cases h2 : n.f0 = 2
  ·
   rw [ig h1, ip h2] at h
   refine Ev.step (f := fun k => (rb_name.f k n.f2 n.f3 mod l m).bind fun t => (if 0 ≤ (i : Int) then (if (i : Int) < (vs.length : Int) then (rb_Value.l0 k ns at_ mod l m (vs.set ((i : Int) : Int).toNat t) (wrap64 ((i : Int) + 1))) else (none)) else (none))) (fun k => ?_) (Ev.bind (rname_ev n mod l m hl hm) ?_)
   ·
    simp only [rb_Value.j5]
    rw [ig h1, ip h2]
   ·
    refine Ev.congr (fun k => ?_) h
    rw [ip (by omega), ip hl2, hw]
    rfl
  ·
   rw [ig h1, ig h2] at h
   obtain ⟨v, e1, e2⟩ := op_same n.f0 (kid vs (i : Int) n.f4) (kid vs (i : Int) n.f5)
   rw [e1] at h
   refine Ev.step (fun k => ?_) h
   simp only [rb_Value.j5]
   rw [ig h1, ig h2, e2, Option.bind_some, ip (by omega), ip hl2, hw]
   rfl
 have h4 : Ev (fun k => rb_Value.j4 k ns at_ mod l m vs (i : Int) (kid vs (i : Int) n.f4) 0 (decide (0 ≤ n.f5 ∧ n.f5 < (i : Int))) n.f0 n.f1 n.f2 n.f3 n.f4 n.f5 n.f6) r := by
  refine Ev.step (fun k => ?_) h5
  simp only [rb_Value.j4]
  by_cases hk : 0 ≤ n.f5 ∧ n.f5 < (i : Int)
  ·
   rw [decide_eq_true hk, ip rfl, ip hk.1, ip (by omega)]
   rw [show kid vs (i : Int) n.f5 = rd vs n.f5 by unfold kid; rw [ig (by omega), ig (by omega)]]
  ·
   rw [decide_eq_false hk, ig bft]
   rw [show kid vs (i : Int) n.f5 = 0 by
    unfold kid
    by_cases z : n.f5 < 0
    · rw [ip z]
    · rw [ig z, ip (by omega)]]
 have h3 : Ev (fun k => rb_Value.j3 k ns at_ mod l m vs (i : Int) (kid vs (i : Int) n.f4) 0 n.f0 n.f1 n.f2 n.f3 n.f4 n.f5 n.f6) r := by
  refine Ev.step (fun k => ?_) h4
  simp only [rb_Value.j3]
  by_cases z : n.f5 ≥ 0
  · rw [ip z, show decide (0 ≤ n.f5 ∧ n.f5 < (i : Int)) = decide (n.f5 < (i : Int)) by simp [show (0 : Int) ≤ n.f5 from z]]
  · rw [ig z, decide_eq_false (fun q => z q.1)]
 have h2 : Ev (fun k => rb_Value.j2 k ns at_ mod l m vs (i : Int) 0 0 (decide (0 ≤ n.f4 ∧ n.f4 < (i : Int))) n.f0 n.f1 n.f2 n.f3 n.f4 n.f5 n.f6) r := by
  refine Ev.step (fun k => ?_) h3
  simp only [rb_Value.j2]
  by_cases hk : 0 ≤ n.f4 ∧ n.f4 < (i : Int)
  ·
   rw [decide_eq_true hk, ip rfl, ip hk.1, ip (by omega)]
   rw [show kid vs (i : Int) n.f4 = rd vs n.f4 by unfold kid; rw [ig (by omega), ig (by omega)]]
  ·
   rw [decide_eq_false hk, ig bft]
   rw [show kid vs (i : Int) n.f4 = 0 by
    unfold kid
    by_cases z : n.f4 < 0
    · rw [ip z]
    · rw [ig z, ip (by omega)]]
 refine Ev.step (fun k => ?_) h2
 simp only [rb_Value.l0]
 rw [hnn, ip hi, ip (by omega), ip (by omega)]
 by_cases z : n.f4 ≥ 0
 · rw [ip z, show decide (0 ≤ n.f4 ∧ n.f4 < (i : Int)) = decide (n.f4 < (i : Int)) by simp [show (0 : Int) ≤ n.f4 from z]]
 · rw [ig z, decide_eq_false (fun q => z q.1)]
theorem loops_ev (ns : List Node) (at_ : Nat) (mod : BA) (l m : List Cell) (hn : ns.length ≤ 1000000000) (hl : l.length ≤ 1000000000) (hm : m.length ≤ 1000000000) (hat : at_ < ns.length) : ∀ (d i : Nat) (a b : List Int), i + d = at_ + 1 → a.length = at_ + 1 → b.length = ns.length → (∀ j : Int, 0 ≤ j → j < (i : Int) → rd a j = rd b j) →
  ∃ r, Ev (fun k => eval_Value.l0 k ns (at_ : Int) mod l m a (i : Int)) r ∧ Ev (fun k => rb_Value.l0 k ns (at_ : Int) mod l m b (i : Int)) r := by
 intro d
 induction d with
 | zero =>
  intro i a b hd ha hb hab
  refine ⟨rd a (at_ : Int), Ev.step (f := fun _ => some (rd a (at_ : Int))) (fun k => ?_) (Ev.now _), Ev.step (f := fun _ => some (rd a (at_ : Int))) (fun k => ?_) (Ev.now _)⟩
  ·
   simp only [eval_Value.l0]
   rw [ig (by omega)]
  ·
   simp only [rb_Value.l0]
   rw [ig (by omega), ip (by omega), ip (by omega), hab (at_ : Int) (by omega) (by omega)]
 | succ d ih =>
  intro i a b hd ha hb hab
  have hnode := nodev_same a b (i : Int) (rd_T73 ns (i : Int)) mod l m hab
  obtain ⟨r, h1, h2⟩ := ih (i + 1) (a.set i (nodev a (i : Int) (rd_T73 ns (i : Int)) mod l m)) (b.set i (nodev b (i : Int) (rd_T73 ns (i : Int)) mod l m)) (by omega) (by rw [List.length_set]; exact ha) (by rw [List.length_set]; exact hb) (fun j h0 hj => by
   by_cases e : j = (i : Int)
   · rw [e, rd_set_eq a i _ (by omega), rd_set_eq b i _ (by omega), hnode]
   · rw [rd_set_ne a i j _ h0 e, rd_set_ne b i j _ h0 e, hab j h0 (by omega)])
  refine ⟨r, ?_, rround_ev ns at_ mod l m b i hn hl hm (by omega) (by omega) hb r h2⟩
  refine Ev.step (f := fun k => (eval_Value.node k a (i : Int) (rd_T73 ns (i : Int)) mod l m).bind fun v => (eval_Value.l0 k ns (at_ : Int) mod l m (a.set ((i : Int)).toNat v) ((i : Int) + 1))) (fun k => ?_) (Ev.bind (node_ev a (i : Int) _ mod l m hl hm) ?_)
  ·
   simp only [eval_Value.l0]
   rw [ip (by omega)]
  · exact h1
theorem value_ev (ns : List Node) (a1 : Int) (mod : BA) (l m : List Cell) (hn : ns.length ≤ 1000000000) (hl : l.length ≤ 1000000000) (hm : m.length ≤ 1000000000) : ∃ r, Ev (fun k => eval_Value.f k ns a1 mod l m) r ∧ Ev (fun k => rb_Value.f k ns a1 mod l m) r := by
 have hj : Ev (fun k => rb_Value.j0 k ns a1 mod l m true) (0 : Int) := by
  refine Ev.step (f := fun _ => some 0) (fun k => ?_) (Ev.now _)
  simp only [rb_Value.j0]
  rw [ip trivial]
 by_cases h0 : a1 < 0
 ·
  refine ⟨0, Ev.congr (fun k => ?_) (Ev.now _), Ev.congr (fun k => ?_) hj⟩
  ·
   unfold eval_Value.f
   rw [ip h0]
  ·
   unfold rb_Value.f
   rw [ip h0]
 by_cases h1 : a1 ≥ (ns.length : Int)
 ·
  refine ⟨0, Ev.congr (fun k => ?_) (Ev.now _), Ev.congr (fun k => ?_) hj⟩
  ·
   unfold eval_Value.f
   rw [ig h0, ip h1]
  ·
   unfold rb_Value.f
   rw [ig h0, decide_eq_true h1]
 ·
  obtain ⟨at_, rfl⟩ : ∃ at_ : Nat, a1 = (at_ : Int) := ⟨a1.toNat, by omega⟩
  obtain ⟨r, e1, e2⟩ := loops_ev ns at_ mod l m hn hl hm (by omega) (at_ + 1) 0 (List.replicate (at_ + 1) 0) (List.replicate ns.length 0) (by omega) (by rw [List.length_replicate]) (by rw [List.length_replicate]) (fun j h0 hj => by omega)
  refine ⟨r, Ev.congr (fun k => ?_) e1, Ev.congr (f := fun k => rb_Value.j0 k ns (at_ : Int) mod l m false) (fun k => ?_) (Ev.step (fun k => ?_) e2)⟩
  ·
   unfold eval_Value.f
   rw [ig h0, ig h1, ip (by omega), show ((at_ : Int) + 1).toNat = at_ + 1 by omega]
   rfl
  ·
   unfold rb_Value.f
   rw [ig h0, decide_eq_false h1]
  ·
   simp only [rb_Value.j0]
   rw [ig bft, ip (by omega), ip (by omega), Int.toNat_natCast]
   rfl
end ValP
namespace TotP
theorem zl {p : Prop} (h : p := by simp only [List.length_append, List.length_singleton]; omega) : p := h
abbrev Tok := S122
abbrev Nd := S73
def EvP {α : Type} (g : Nat → Option α) (P : α → Prop) : Prop := ∃ r, Ev g r ∧ P r
theorem done {α : Type} {P : α → Prop} {r : α} (h : P r) : EvP (fun _ => some r) P := ⟨r, ⟨0, fun _ _ => rfl⟩, h⟩
theorem andThen {α β : Type} {g : Nat → Option α} {f : Nat → α → Option β} {P : α → Prop} {Q : β → Prop} (h : EvP g P) (k : ∀ r, P r → EvP (fun n => f n r) Q) : EvP (fun n => (g n).bind (f n)) Q := by
 obtain ⟨r, e, p⟩ := h
 obtain ⟨s, e2, q⟩ := k r p
 exact ⟨s, Ev.bind e e2, q⟩
theorem more {α : Type} {g : Nat → Option α} {Q : α → Prop} (h : EvP (fun k => g (k + 1)) Q) : EvP g Q := by
 obtain ⟨r, e, q⟩ := h
 exact ⟨r, Ev.step (fun _ => rfl) e, q⟩
theorem ways {α : Type} {c : Prop} [Decidable c] {f g : Nat → Option α} {Q : α → Prop} (h1 : c → EvP f Q) (h2 : ¬ c → EvP g Q) : EvP (fun n => if c then f n else g n) Q := by
 by_cases h : c
 ·
  obtain ⟨r, e, q⟩ := h1 h
  exact ⟨r, Ev.congr (fun _ => ip h) e, q⟩
 ·
  obtain ⟨r, e, q⟩ := h2 h
  exact ⟨r, Ev.congr (fun _ => ig h) e, q⟩
theorem gate {α : Type} {c : Prop} [Decidable c] {f g : Nat → Option α} {Q : α → Prop} (h : c) (h1 : EvP f Q) : EvP (fun n => if c then f n else g n) Q := ways (fun _ => h1) (fun z => absurd h z)
theorem weaker {α : Type} {g : Nat → Option α} {P Q : α → Prop} (h : EvP g P) (k : ∀ r, P r → Q r) : EvP g Q := by
 obtain ⟨r, e, p⟩ := h
 exact ⟨r, e, k r p⟩
theorem known {α β : Type} {x : Option α} {v : α} {f : Nat → α → Option β} {Q : β → Prop} (h : x = some v) (k : EvP (fun n => f n v) Q) : EvP (fun n => x.bind (f n)) Q := by
 subst h
 exact k
def Toks (l : List Tok) : Prop := l.length ≤ 10000 ∧ (∀ j : Int, 0 ≤ j → j < l.length → (rd_T122 l j).f0 ≠ 0 → j + 1 < l.length) ∧ ∀ j : Int, 0 ≤ j → j < l.length → (rd_T122 l j).f1.size ≤ 10000
theorem w64 {n : Int} (h0 : -4503599627370496 ≤ n) (h1 : n ≤ 4503599627370496) : wrap64 n = n := by unfold wrap64; omega
section
variable {β : Type} {Q : β → Prop} {l : List Tok} {i d e a : Int} {s : BA}
theorem here_b {F : Nat → (Int × Int × Int × Int × Int) → Option β} (h0 : 0 ≤ i) (h1 : i < l.length) (k : EvP (fun n => F n ((rd_T122 l i).f2, i, d, e, a)) Q) : EvP (fun n => (rr_here.f l i d e a).bind (F n)) Q :=
 known (by unfold rr_here.f; rw [ip h0, ip h1]) k
theorem fail_b {F : Nat → (Int × Int × Int × Int) → Option β} {c : Int} (hc : c ≠ 0) (h0 : 0 ≤ i) (h1 : i < l.length) (k : ∀ e' a', e' ≠ 0 → EvP (fun n => F n (i, d, e', a')) Q) : EvP (fun n => (rr_fail.f l i d e a c).bind (F n)) Q := by
 unfold rr_fail.f
 by_cases h : e = 0
 ·
  rw [ip h, ip h0, ip h1]
  exact known rfl (k _ _ hc)
 ·
  rw [ig h]
  exact known rfl (k _ _ h)
theorem is_b (T : Toks l) {F : Nat → (Bool × Int × Int × Int × Int) → Option β} (h0 : 0 ≤ i) (h1 : i < l.length) (yes : e = 0 → i + 1 < l.length → EvP (fun n => F n (true, i, d, e, a)) Q) (no : EvP (fun n => F n (false, i, d, e, a)) Q) :
  EvP (fun n => (rr_is.f l i d e a s).bind (F n)) Q := by
 unfold rr_is.f
 rw [ip h0, ip h1]
 have key : ∀ b : Bool, (rd_T122 l i).f0 ≠ 0 → e = 0 → EvP (fun n => (some (b, i, d, e, a)).bind (F n)) Q := by
  intro b h2 he
  cases b with
  | true => exact known rfl (yes he (T.2.1 i h0 h1 h2))
  | false => exact known rfl no
 by_cases he : e = 0
 ·
  rw [ip he]
  by_cases h4 : (rd_T122 l i).f0 = 4
  ·
   rw [ip h4]
   exact key _ (by omega) he
  ·
   rw [ig h4]
   by_cases h3 : (rd_T122 l i).f0 = 3
   ·
    rw [ip h3]
    exact key _ (by omega) he
   ·
    rw [ig h3]
    exact known rfl no
 ·
  rw [ig he]
  exact known rfl no
theorem take_b (T : Toks l) {F : Nat → (Bool × Int × Int × Int × Int) → Option β} (h0 : 0 ≤ i) (h1 : i < l.length) (yes : e = 0 → i + 1 < l.length → EvP (fun n => F n (true, i + 1, d, e, a)) Q) (no : EvP (fun n => F n (false, i, d, e, a)) Q) :
  EvP (fun n => (rr_take.f l i d e a s).bind (F n)) Q := by
 have h : EvP (fun n => rr_take.f l i d e a s) (fun r => (r = (true, i + 1, d, e, a) ∧ e = 0 ∧ i + 1 < l.length) ∨ r = (false, i, d, e, a)) := by
  unfold rr_take.f
  refine is_b T h0 h1 (fun he hi => ?_) ?_
  ·
   have := T.1
   dsimp only
   exact done (.inl ⟨by rw [w64 (by omega) (by omega)], he, hi⟩)
  · exact done (.inr rfl)
 refine andThen h (fun r hr => ?_)
 rcases hr with ⟨rfl, he, hi⟩ | rfl
 · exact yes he hi
 · exact no
theorem want_b (T : Toks l) {F : Nat → (Int × Int × Int × Int) → Option β} (h0 : 0 ≤ i) (h1 : i < l.length) (k : ∀ i' e' a', i ≤ i' → i' ≤ i + 1 → i' < l.length → (e' = 0 → e = 0 ∧ i' = i + 1) → EvP (fun n => F n (i', d, e', a')) Q) :
  EvP (fun n => (rr_want.f l i d e a s).bind (F n)) Q := by
 have h : EvP (fun n => rr_want.f l i d e a s) (fun r => ∃ i' e' a', r = (i', d, e', a') ∧ i ≤ i' ∧ i' ≤ i + 1 ∧ i' < l.length ∧ (e' = 0 → e = 0 ∧ i' = i + 1)) := by
  unfold rr_want.f
  refine take_b T h0 h1 (fun he hi => ?_) ?_
  ·
   dsimp only
   exact done ⟨_, _, _, rfl, by omega, by omega, hi, fun _ => ⟨he, rfl⟩⟩
  ·
   simp only [Bool.false_eq_true, if_false]
   exact fail_b (by omega) h0 h1 (fun e' a' he' => done ⟨_, _, _, rfl, by omega, by omega, h1, fun z => absurd z he'⟩)
 refine andThen h (fun r hr => ?_)
 obtain ⟨i', e', a', rfl, k1, k2, k3, k4⟩ := hr
 exact k i' e' a' k1 k2 k3 k4
theorem name_b (T : Toks l) {F : Nat → (BA × Int × Int × Int × Int) → Option β} (h0 : 0 ≤ i) (h1 : i < l.length) (k : ∀ s i' e' a', i ≤ i' → i' ≤ i + 1 → i' < l.length → (e' = 0 → e = 0 ∧ i' = i + 1) → EvP (fun n => F n (s, i', d, e', a')) Q) :
  EvP (fun n => (rr_name.f l i d e a).bind (F n)) Q := by
 have h : EvP (fun n => rr_name.f l i d e a) (fun r => ∃ s i' e' a', r = (s, i', d, e', a') ∧ i ≤ i' ∧ i' ≤ i + 1 ∧ i' < l.length ∧ (e' = 0 → e = 0 ∧ i' = i + 1)) := by
  unfold rr_name.f
  refine gate h0 (gate h1 (ways (fun he => ways (fun h2 => ?_) (fun _ => ?_)) (fun _ => ?_)))
  ·
   have := T.2.1 i h0 h1 (by omega)
   have := T.1
   exact done ⟨_, _, _, _, by rw [w64 (by omega) (by omega)], by omega, by omega, by omega, fun _ => ⟨he, rfl⟩⟩
  · exact fail_b (by omega) h0 h1 (fun e' a' he' => done ⟨_, _, _, _, rfl, by omega, by omega, h1, fun z => absurd z he'⟩)
  · exact fail_b (by omega) h0 h1 (fun e' a' he' => done ⟨_, _, _, _, rfl, by omega, by omega, h1, fun z => absurd z he'⟩)
 refine andThen h (fun r hr => ?_)
 obtain ⟨s, i', e', a', rfl, k1, k2, k3, k4⟩ := hr
 exact k s i' e' a' k1 k2 k3 k4
theorem open_b (T : Toks l) {F : Nat → (Int × Int × Int × Int) → Option β} (h0 : 0 ≤ i) (h1 : i < l.length) (k : ∀ i' d' e' a', i ≤ i' → i' ≤ i + 1 → i' < l.length → (e' = 0 → e = 0 ∧ i' = i + 1) → EvP (fun n => F n (i', d', e', a')) Q) :
  EvP (fun n => (rr_open.f n l i d e a s).bind (F n)) Q := by
 have hj : ∀ b : Bool, EvP (fun n => rr_open.j0 n s b l i d e a) (fun r => ∃ i' d' e' a', r = (i', d', e', a') ∧ i ≤ i' ∧ i' ≤ i + 1 ∧ i' < l.length ∧ (e' = 0 → e = 0 ∧ i' = i + 1)) := by
  intro b
  refine more ?_
  simp only [rr_open.j0]
  refine ways (fun _ => ?_) (fun _ => ?_)
  · exact fail_b (by omega) h0 h1 (fun e' a' he' => want_b T h0 h1 (fun i2 e2 a2 q1 q2 q3 q4 => done ⟨_, _, _, _, rfl, q1, q2, q3, fun z => absurd (q4 z).1 he'⟩))
  · exact want_b T h0 h1 (fun i2 e2 a2 q1 q2 q3 q4 => done ⟨_, _, _, _, rfl, q1, q2, q3, q4⟩)
 have h : EvP (fun n => rr_open.f n l i d e a s) (fun r => ∃ i' d' e' a', r = (i', d', e', a') ∧ i ≤ i' ∧ i' ≤ i + 1 ∧ i' < l.length ∧ (e' = 0 → e = 0 ∧ i' = i + 1)) := by
  unfold rr_open.f
  exact is_b T h0 h1 (fun _ _ => gate rfl (hj _)) (ways (fun z => absurd z bft) (fun _ => hj _))
 refine andThen h (fun r hr => ?_)
 obtain ⟨i', d', e', a', rfl, k1, k2, k3, k4⟩ := hr
 exact k i' d' e' a' k1 k2 k3 k4
theorem qname_b (T : Toks l) {F : Nat → (BA × BA × Int × Int × Int × Int) → Option β} (h0 : 0 ≤ i) (h1 : i < l.length) (k : ∀ s t i' e' a', i ≤ i' → i' < l.length → (e' = 0 → e = 0 ∧ i < i') → EvP (fun n => F n (s, t, i', d, e', a')) Q) :
  EvP (fun n => (rr_qname.f l i d e a).bind (F n)) Q := by
 have h : EvP (fun n => rr_qname.f l i d e a) (fun r => ∃ s t i' e' a', r = (s, t, i', d, e', a') ∧ i ≤ i' ∧ i' < l.length ∧ (e' = 0 → e = 0 ∧ i < i')) := by
  unfold rr_qname.f
  refine name_b T h0 h1 (fun s1 i1 e1 a1 q1 q2 q3 q4 => ?_)
  dsimp only
  refine take_b T (by omega) q3 (fun he hi => gate rfl ?_) (ways (fun z => absurd z bft) (fun _ => ?_))
  ·
   dsimp only
   refine name_b T (by omega) hi (fun s2 i2 e2 a2 p1 p2 p3 p4 => ?_)
   dsimp only
   exact done ⟨_, _, _, _, _, rfl, by omega, by omega, fun z => by have := q4 (p4 z).1; omega⟩
  ·
   dsimp only
   exact done ⟨_, _, _, _, _, rfl, by omega, by omega, fun z => by have := q4 z; omega⟩
 refine andThen h (fun r hr => ?_)
 obtain ⟨s, t, i', e', a', rfl, k1, k3, k4⟩ := hr
 exact k s t i' e' a' k1 k3 k4
theorem num_loop (s : BA) (hs : s.size ≤ 10000) : ∀ (d i : Nat) (x : Int), i + d = s.size → ∃ v, Ev (fun k => ra_num.l0 k s x (i : Int)) v := by
 intro d
 induction d with
 | zero =>
  intro i x hi
  refine ⟨x, Ev.step (f := fun _ => some x) (fun k => ?_) ⟨0, fun _ _ => rfl⟩⟩
  simp only [ra_num.l0]
  rw [ig (by omega)]
 | succ d ih =>
  intro i x hi
  obtain ⟨v, h⟩ := ih (i + 1) (wrap64 ((wrap64 (10 * x)) + (((bt s (i : Int)) - 48) % 256))) (by omega)
  refine ⟨v, Ev.step (fun k => ?_) h⟩
  simp only [ra_num.l0]
  rw [ip (by omega), ip (by omega), w64 (n := (i : Int) + 1) (by omega) (by omega)]
  rfl
theorem num_b {F : Nat → Int → Option β} (hs : s.size ≤ 10000) (k : ∀ v, EvP (fun n => F n v) Q) : EvP (fun n => (ra_num.f n s).bind (F n)) Q := by
 obtain ⟨v, h⟩ := num_loop s hs s.size 0 0 (by omega)
 exact andThen (g := fun n => ra_num.f n s) ⟨v, h, trivial⟩ (fun r (_ : True) => k r)
theorem two_b {F : Nat → List Nd → Option β} {L : List Nd} {x y z : Int} (hL : L.length ≤ 1000000) (k : ∀ L' : List Nd, L'.length = L.length + 1 → EvP (fun n => F n L') Q) : EvP (fun n => (ra_two.f L x y z).bind (F n)) Q :=
 known (by unfold ra_two.f; rw [ip (by omega)]) (k _ (by simp))
end
def Nodes0 (l : List Tok) (C i e : Int) (r : List Nd × Int × Int × Int × Int) : Prop := ∃ L' i' d' e' a', r = (L', i', d', e', a') ∧ i ≤ i' ∧ i' < l.length ∧ (e' = 0 → e = 0) ∧ (e' = 0 → L'.length + l.length - i' + 1 ≤ C) ∧ L'.length + l.length - i' ≤ C
def Nodes (l : List Tok) (C i e : Int) (r : List Nd × Int × Int × Int × Int) : Prop := ∃ L' i' d' e' a', r = (L', i', d', e', a') ∧ i ≤ i' ∧ i' < l.length ∧ (e' = 0 → e = 0 ∧ i < i') ∧ (e' = 0 → L'.length + l.length - i' + 1 ≤ C) ∧ L'.length + l.length - i' ≤ C
def Told (l : List Tok) (m : Int) (g : Nat → Int → Int → Int → Int → List Nd → Option (List Nd × Int × Int × Int × Int)) (P : Int → Int → Int → (List Nd × Int × Int × Int × Int) → Prop) : Prop :=
 ∀ (i d e a C : Int) (L : List Nd), 0 ≤ i → i < l.length → (e = 0 → l.length - i + 1 ≤ m) → l.length - i ≤ m → C ≤ 100000 → (e = 0 → L.length + l.length - i + 1 ≤ C) → L.length + l.length - i ≤ C → EvP (fun n => g n i d e a L) (P C i e)
section
variable {l : List Tok} {m : Int}
theorem unary_t (T : Toks l) (hu : Told l (m - 1) (fun n i d e a L => rr_unary.f n l i d e a L) (Nodes l)) (hx : Told l (m - 1) (fun n i d e a L => rr_expr.f n l i d e a L) (Nodes l)) :
  Told l m (fun n i d e a L => rr_unary.f n l i d e a L) (Nodes l) := by
 intro i d e a C L h0 h1 m1 m2 hC c1 c2
 have T1 := T.1
 have hj : ∀ b : Bool, e = 0 → EvP (fun n => rr_unary.j0 n L b l i d e a (rd_T122 l i).f0 (rd_T122 l i).f1 (rd_T122 l i).f2) (Nodes l C i e) := by
  intro b he
  refine more ?_
  simp only [rr_unary.j0]
  refine ways (fun _ => ways (fun _ => ?_) (fun _ => ?_)) (fun _ => ?_)
  ·
   refine open_b T h0 h1 (fun i' d' e' a' q1 q2 q3 q4 => ?_)
   dsimp only
   refine andThen (hu i' d' e' a' (C - 1) L (by omega) q3 (by omega) (by omega) (by omega) (by omega) (by omega)) (fun r hr => ?_)
   obtain ⟨L2, i2, d2, e2, a2, rfl, p1, p2, p3, p4, p5⟩ := hr
   dsimp only
   refine gate (by omega) (done ⟨_, _, _, _, _, rfl, by omega, by omega, by omega, ?_, ?_⟩)
   · exact zl
   · exact zl
  ·
   refine open_b T h0 h1 (fun i' d' e' a' q1 q2 q3 q4 => ?_)
   dsimp only
   refine andThen (hu i' d' e' a' (C - 1) L (by omega) q3 (by omega) (by omega) (by omega) (by omega) (by omega)) (fun r hr => ?_)
   obtain ⟨L2, i2, d2, e2, a2, rfl, p1, p2, p3, p4, p5⟩ := hr
   dsimp only
   refine gate (by omega) (done ⟨_, _, _, _, _, rfl, by omega, by omega, by omega, ?_, ?_⟩)
   · exact zl
   · exact zl
  ·
   refine is_b T h0 h1 (fun _ _ => gate rfl ?_) (ways (fun z => absurd z bft) (fun _ => ?_))
   ·
    dsimp only
    refine open_b T h0 h1 (fun i' d' e' a' q1 q2 q3 q4 => ?_)
    dsimp only
    refine andThen (hx i' d' e' a' (C - 1) L (by omega) q3 (by omega) (by omega) (by omega) (by omega) (by omega)) (fun r hr => ?_)
    obtain ⟨L2, i2, d2, e2, a2, rfl, p1, p2, p3, p4, p5⟩ := hr
    dsimp only
    refine want_b T (by omega) p2 (fun i3 e3 a3 t1 t2 t3 t4 => ?_)
    dsimp only
    exact done ⟨_, _, _, _, _, rfl, by omega, by omega, fun z => by omega, fun z => by omega, by omega⟩
   ·
    dsimp only
    refine ways (fun h2 => ?_) (fun _ => ways (fun h2 => ?_) (fun _ => ?_))
    ·
     refine num_b (T.2.2 i h0 h1) (fun v => gate (by omega) ?_)
     have := T.2.1 i h0 h1 (by omega)
     rw [w64 (n := i + 1) (by omega) (by omega)]
     refine done ⟨_, _, _, _, _, rfl, by omega, by omega, by omega, ?_, ?_⟩
     · exact zl
     · exact zl
    ·
     refine qname_b T h0 h1 (fun s t i' e' a' q1 q2 q3 => ?_)
     dsimp only
     refine gate (by omega) (done ⟨_, _, _, _, _, rfl, by omega, by omega, by omega, ?_, ?_⟩)
     · exact zl
     · exact zl
    ·
     refine fail_b (by omega) h0 h1 (fun e' a' he' => ?_)
     dsimp only
     exact done ⟨_, _, _, _, _, rfl, by omega, by omega, fun z => by omega, fun z => by omega, by omega⟩
 refine more ?_
 simp only [rr_unary.f]
 refine ways (fun he => gate h0 (gate h1 ?_)) (fun he => done ⟨_, _, _, _, _, rfl, by omega, by omega, fun z => by omega, fun z => by omega, by omega⟩)
 refine is_b T h0 h1 (fun _ _ => gate rfl (hj _ he)) (ways (fun z => absurd z bft) (fun _ => ?_))
 dsimp only
 exact is_b T h0 h1 (fun _ _ => hj _ he) (hj _ he)
theorem back0 {C i e i2 e2 : Int} {r : List Nd × Int × Int × Int × Int} (h : Nodes0 l C i2 e2 r) (hi : i ≤ i2) (he : e2 = 0 → e = 0) : Nodes0 l C i e r := by
 obtain ⟨L', i', d', e', a', rfl, p1, p2, p3, p4, p5⟩ := h
 exact ⟨L', i', d', e', a', rfl, by omega, p2, fun z => he (p3 z), p4, p5⟩
theorem back1 {C i e i2 e2 : Int} {r : List Nd × Int × Int × Int × Int} (h : Nodes0 l C i2 e2 r) (hi : i ≤ i2) (he : e2 = 0 → e = 0 ∧ i < i2) : Nodes l C i e r := by
 obtain ⟨L', i', d', e', a', rfl, p1, p2, p3, p4, p5⟩ := h
 exact ⟨L', i', d', e', a', rfl, by omega, p2, fun z => ⟨(he (p3 z)).1, by have := (he (p3 z)).2; omega⟩, p4, p5⟩
theorem term_l (T : Toks l) (hu : Told l (m - 1) (fun n i d e a L => rr_unary.f n l i d e a L) (Nodes l)) (ih : Told l (m - 1) (fun n i d e a L => rr_term.l0 n L l i d e a) (Nodes0 l)) :
  Told l m (fun n i d e a L => rr_term.l0 n L l i d e a) (Nodes0 l) := by
 intro i d e a C L h0 h1 m1 m2 hC c1 c2
 have T1 := T.1
 have yes : e = 0 → i + 1 < l.length → ∀ x y z, EvP (fun n => (rr_unary.f n l (i + 1) d e a L).bind fun q => (ra_two.f q.1 x y z).bind fun t => rr_term.l0 n t l q.2.1 q.2.2.1 q.2.2.2.1 q.2.2.2.2) (Nodes0 l C i e) := by
  intro he hi x y z
  refine andThen (hu (i + 1) d e a (C - 1) L (by omega) hi (by omega) (by omega) (by omega) (by omega) (by omega)) (fun r hr => ?_)
  obtain ⟨L2, i2, d2, e2, a2, rfl, p1, p2, p3, p4, p5⟩ := hr
  dsimp only
  refine two_b (by omega) (fun L3 h3 => ?_)
  exact weaker (ih i2 d2 e2 a2 C L3 (by omega) p2 (by omega) (by omega) hC (by omega) (by omega)) (fun r hr => back0 hr (by omega) (fun _ => he))
 refine more ?_
 simp only [rr_term.l0]
 refine ways (fun he => ?_) (fun he => done ⟨_, _, _, _, _, rfl, by omega, by omega, fun z => by omega, fun z => by omega, by omega⟩)
 refine here_b h0 h1 ?_
 dsimp only
 refine take_b T h0 h1 (fun _ hi => gate rfl (yes he hi _ _ _)) (ways (fun z => absurd z bft) (fun _ => ?_))
 dsimp only
 refine take_b T h0 h1 (fun _ hi => gate rfl (yes he hi _ _ _)) (ways (fun z => absurd z bft) (fun _ => ?_))
 dsimp only
 refine take_b T h0 h1 (fun _ hi => gate rfl (yes he hi _ _ _)) (ways (fun z => absurd z bft) (fun _ => ?_))
 dsimp only
 exact done ⟨_, _, _, _, _, rfl, by omega, by omega, fun z => z, fun z => c1 z, by omega⟩
theorem term_t (hu : Told l m (fun n i d e a L => rr_unary.f n l i d e a L) (Nodes l)) (hl : Told l m (fun n i d e a L => rr_term.l0 n L l i d e a) (Nodes0 l)) :
  Told l m (fun n i d e a L => rr_term.f n l i d e a L) (Nodes l) := by
 intro i d e a C L h0 h1 m1 m2 hC c1 c2
 refine more ?_
 simp only [rr_term.f]
 refine andThen (hu i d e a C L h0 h1 m1 m2 hC c1 c2) (fun r hr => ?_)
 obtain ⟨L2, i2, d2, e2, a2, rfl, p1, p2, p3, p4, p5⟩ := hr
 dsimp only
 exact weaker (hl i2 d2 e2 a2 C L2 (by omega) p2 (by omega) (by omega) hC p4 p5) (fun r hr => back1 hr p1 p3)
theorem sum_l (T : Toks l) (hu : Told l (m - 1) (fun n i d e a L => rr_term.f n l i d e a L) (Nodes l)) (ih : Told l (m - 1) (fun n i d e a L => rr_sum.l0 n L l i d e a) (Nodes0 l)) :
  Told l m (fun n i d e a L => rr_sum.l0 n L l i d e a) (Nodes0 l) := by
 intro i d e a C L h0 h1 m1 m2 hC c1 c2
 have T1 := T.1
 have yes : e = 0 → i + 1 < l.length → ∀ x y z, EvP (fun n => (rr_term.f n l (i + 1) d e a L).bind fun q => (ra_two.f q.1 x y z).bind fun t => rr_sum.l0 n t l q.2.1 q.2.2.1 q.2.2.2.1 q.2.2.2.2) (Nodes0 l C i e) := by
  intro he hi x y z
  refine andThen (hu (i + 1) d e a (C - 1) L (by omega) hi (by omega) (by omega) (by omega) (by omega) (by omega)) (fun r hr => ?_)
  obtain ⟨L2, i2, d2, e2, a2, rfl, p1, p2, p3, p4, p5⟩ := hr
  dsimp only
  refine two_b (by omega) (fun L3 h3 => ?_)
  exact weaker (ih i2 d2 e2 a2 C L3 (by omega) p2 (by omega) (by omega) hC (by omega) (by omega)) (fun r hr => back0 hr (by omega) (fun _ => he))
 refine more ?_
 simp only [rr_sum.l0]
 refine ways (fun he => ?_) (fun he => done ⟨_, _, _, _, _, rfl, by omega, by omega, fun z => by omega, fun z => by omega, by omega⟩)
 refine here_b h0 h1 ?_
 dsimp only
 refine take_b T h0 h1 (fun _ hi => gate rfl (yes he hi _ _ _)) (ways (fun z => absurd z bft) (fun _ => ?_))
 dsimp only
 refine take_b T h0 h1 (fun _ hi => gate rfl (yes he hi _ _ _)) (ways (fun z => absurd z bft) (fun _ => ?_))
 dsimp only
 exact done ⟨_, _, _, _, _, rfl, by omega, by omega, fun z => z, fun z => c1 z, by omega⟩
theorem sum_t (hu : Told l m (fun n i d e a L => rr_term.f n l i d e a L) (Nodes l)) (hl : Told l m (fun n i d e a L => rr_sum.l0 n L l i d e a) (Nodes0 l)) :
  Told l m (fun n i d e a L => rr_sum.f n l i d e a L) (Nodes l) := by
 intro i d e a C L h0 h1 m1 m2 hC c1 c2
 refine more ?_
 simp only [rr_sum.f]
 refine andThen (hu i d e a C L h0 h1 m1 m2 hC c1 c2) (fun r hr => ?_)
 obtain ⟨L2, i2, d2, e2, a2, rfl, p1, p2, p3, p4, p5⟩ := hr
 dsimp only
 exact weaker (hl i2 d2 e2 a2 C L2 (by omega) p2 (by omega) (by omega) hC p4 p5) (fun r hr => back1 hr p1 p3)
theorem expr_l (T : Toks l) (hu : Told l (m - 1) (fun n i d e a L => rr_sum.f n l i d e a L) (Nodes l)) (S : List BA) (hS : S.length ≤ 100) : ∀ c x : Nat, x + c = S.length →
  Told l m (fun n i d e a L => rr_expr.l0 n L S (x : Int) l i d e a) (Nodes0 l) := by
 intro c
 induction c with
 | zero =>
  intro x hx i d e a C L h0 h1 m1 m2 hC c1 c2
  refine more ?_
  simp only [rr_expr.l0]
  refine ways (fun z => absurd z (by omega)) (fun _ => ?_)
  exact done ⟨_, _, _, _, _, rfl, by omega, by omega, fun z => z, fun z => c1 z, by omega⟩
 | succ c ih =>
  intro x hx i d e a C L h0 h1 m1 m2 hC c1 c2
  refine more ?_
  simp only [rr_expr.l0]
  refine gate (by omega) (here_b h0 h1 (gate (by omega) ?_))
  dsimp only
  refine take_b T h0 h1 (fun he hi => gate rfl ?_) (ways (fun z => absurd z bft) (fun _ => ?_))
  ·
   dsimp only
   refine andThen (hu (i + 1) d e a (C - 1) L (by omega) hi (by omega) (by omega) (by omega) (by omega) (by omega)) (fun r hr => ?_)
   obtain ⟨L2, i2, d2, e2, a2, rfl, p1, p2, p3, p4, p5⟩ := hr
   dsimp only
   refine two_b (by omega) (fun L3 h3 => ?_)
   exact done ⟨_, _, _, _, _, rfl, by omega, by omega, fun z => he, fun z => by omega, by omega⟩
  ·
   dsimp only
   rw [w64 (n := (x : Int) + 1) (by omega) (by omega)]
   exact ih (x + 1) (by omega) i d e a C L h0 h1 m1 m2 hC c1 c2
theorem expr_t (T : Toks l) (hs : Told l m (fun n i d e a L => rr_sum.f n l i d e a L) (Nodes l)) (hu : Told l (m - 1) (fun n i d e a L => rr_sum.f n l i d e a L) (Nodes l)) :
  Told l m (fun n i d e a L => rr_expr.f n l i d e a L) (Nodes l) := by
 intro i d e a C L h0 h1 m1 m2 hC c1 c2
 refine more ?_
 simp only [rr_expr.f]
 refine andThen (hs i d e a C L h0 h1 m1 m2 hC c1 c2) (fun r hr => ?_)
 obtain ⟨L2, i2, d2, e2, a2, rfl, p1, p2, p3, p4, p5⟩ := hr
 dsimp only
 exact weaker (expr_l T hu _ (by simp) 3 0 rfl i2 d2 e2 a2 C L2 (by omega) p2 (by omega) (by omega) hC p4 p5) (fun r hr => back1 hr p1 p3)
end
theorem none_t {l : List Tok} {g : Nat → Int → Int → Int → Int → List Nd → Option (List Nd × Int × Int × Int × Int)} {P : Int → Int → Int → (List Nd × Int × Int × Int × Int) → Prop} : Told l 0 g P := by
 intro i d e a C L h0 h1 m1 m2
 omega
theorem exprs {l : List Tok} (T : Toks l) : ∀ m : Nat, Told l m (fun n i d e a L => rr_unary.f n l i d e a L) (Nodes l) ∧ Told l m (fun n i d e a L => rr_term.l0 n L l i d e a) (Nodes0 l) ∧ Told l m (fun n i d e a L => rr_term.f n l i d e a L) (Nodes l) ∧ Told l m (fun n i d e a L => rr_sum.l0 n L l i d e a) (Nodes0 l) ∧ Told l m (fun n i d e a L => rr_sum.f n l i d e a L) (Nodes l) ∧ Told l m (fun n i d e a L => rr_expr.f n l i d e a L) (Nodes l) := by
 intro m
 induction m with
 | zero => exact ⟨none_t, none_t, none_t, none_t, none_t, none_t⟩
 | succ m ih =>
  have e : (m : Int) = ((m + 1 : Nat) : Int) - 1 := by omega
  rw [e] at ih
  obtain ⟨u, tl, t, sl, s, x⟩ := ih
  have u' := unary_t T u x
  have tl' := term_l T u tl
  have t' := term_t u' tl'
  have sl' := sum_l T t sl
  have s' := sum_t t' sl'
  exact ⟨u', tl', t', sl', s', expr_t T s' s⟩
theorem expr_b {β : Type} {Q : β → Prop} {l : List Tok} {i d e a : Int} (T : Toks l) {F : Nat → (List Nd × Int × Int × Int × Int) → Option β} (h0 : 0 ≤ i) (h1 : i < l.length) (k : ∀ (L : List Nd) i' d' e' a', L.length ≤ 20000 → i ≤ i' → i' < l.length → (e' = 0 → e = 0 ∧ i < i') → EvP (fun n => F n (L, i', d', e', a')) Q) :
  EvP (fun n => (rr_expr.f n l i d e a []).bind (F n)) Q := by
 have T1 := T.1
 refine andThen ((exprs T 20000).2.2.2.2.2 i d e a 20000 [] h0 h1 (by omega) (by omega) (by omega) (by simp; omega) (by simp; omega)) (fun r hr => ?_)
 obtain ⟨L2, i2, d2, e2, a2, rfl, p1, p2, p3, p4, p5⟩ := hr
 exact k L2 i2 d2 e2 a2 (by omega) p1 p2 p3
abbrev Sm := S70
abbrev SmR := Int × Int × BA × BA × BA × Bool × BA × BA × List Nd × List (List Nd) × List Sm × List Sm × Int × Int × Int × Int
def StmtP (l : List Tok) (i e : Int) (r : SmR) : Prop := ∃ x0 x1 x2 x3 x4 x5 x6 x7 x8 x9 x10 x11 i' d' e' a', r = (x0, x1, x2, x3, x4, x5, x6, x7, x8, x9, x10, x11, i', d', e', a') ∧ x8.length ≤ 20000 ∧ i ≤ i' ∧ i' < l.length ∧ (e' = 0 → e = 0)
def StmtQ (l : List Tok) (i e : Int) (r : SmR) : Prop := ∃ x0 x1 x2 x3 x4 x5 x6 x7 x8 x9 x10 x11 i' d' e' a', r = (x0, x1, x2, x3, x4, x5, x6, x7, x8, x9, x10, x11, i', d', e', a') ∧ x8.length ≤ 20000 ∧ i ≤ i' ∧ i' < l.length ∧ (e' = 0 → e = 0 ∧ i < i')
theorem call_l {l : List Tok} (T : Toks l) : ∀ (m : Nat) (i d e a x0 x1 : Int) (x2 x3 x4 : BA) (x5 : Bool) (x6 x7 : BA) (A : List (List Nd)), 0 ≤ i → i < l.length → l.length - i ≤ m → A.length ≤ i → EvP (fun n => rr_call.l0 n l i d e a x0 x1 x2 x3 x4 x5 x6 x7 A) (StmtP l i e) := by
 have T1 := T.1
 intro m
 induction m with
 | zero =>
  intro i d e a x0 x1 x2 x3 x4 x5 x6 x7 A h0 h1 m1
  omega
 | succ m ih =>
  intro i d e a x0 x1 x2 x3 x4 x5 x6 x7 A h0 h1 m1 hA
  refine more ?_
  simp only [rr_call.l0]
  refine ways (fun he => ?_) (fun he => ?_)
  ·
   refine expr_b T h0 h1 (fun L i2 d2 e2 a2 hL q1 q2 q3 => gate (by omega) (known rfl ?_))
   dsimp only
   refine take_b T (by omega) q2 (fun he2 hi => gate rfl ?_) (ways (fun z => absurd z bft) (fun _ => ?_))
   ·
    refine weaker (ih (i2 + 1) d2 e2 a2 x0 x1 x2 x3 x4 x5 x6 x7 _ (by omega) hi (by omega) zl) (fun r hr => ?_)
    obtain ⟨y0, y1, y2, y3, y4, y5, y6, y7, y8, y9, y10, y11, i', d', e', a', rfl, p1, p2, p3, p4⟩ := hr
    exact ⟨_, _, _, _, _, _, _, _, _, _, _, _, _, _, _, _, rfl, p1, by omega, p3, fun _ => he⟩
   ·
    dsimp only
    refine want_b T (by omega) q2 (fun i3 e3 a3 t1 t2 t3 t4 => ?_)
    exact done ⟨_, _, _, _, _, _, _, _, _, _, _, _, _, _, _, _, rfl, by simp, by omega, t3, fun _ => he⟩
  ·
   refine want_b T h0 h1 (fun i3 e3 a3 t1 t2 t3 t4 => ?_)
   exact done ⟨_, _, _, _, _, _, _, _, _, _, _, _, _, _, _, _, rfl, by simp, t1, t3, fun z => (t4 z).1⟩
theorem call_j {l : List Tok} (T : Toks l) (i d e a x0 x1 : Int) (x2 x3 x4 : BA) (x5 : Bool) (x6 x7 y0 y1 : BA) (h0 : 0 ≤ i) (h1 : i < l.length) : EvP (fun n => rr_call.j0 n y0 y1 l i d e a x0 x1 x2 x3 x4 x5 x6 x7) (StmtP l i e) := by
 have T1 := T.1
 refine more ?_
 simp only [rr_call.j0]
 refine want_b T h0 h1 (fun i2 e2 a2 q1 q2 q3 q4 => ?_)
 dsimp only
 refine is_b T (by omega) q3 (fun he hi => gate rfl ?_) (ways (fun z => absurd z bft) (fun _ => ?_))
 ·
  dsimp only
  refine want_b T (by omega) q3 (fun i3 e3 a3 t1 t2 t3 t4 => ?_)
  exact done ⟨_, _, _, _, _, _, _, _, _, _, _, _, _, _, _, _, rfl, by simp, by omega, t3, fun z => (q4 (t4 z).1).1⟩
 ·
  dsimp only
  refine weaker (call_l T 20000 i2 d e2 a2 _ _ _ _ _ _ _ _ _ (by omega) q3 (by omega) (by simp; omega)) (fun r hr => ?_)
  obtain ⟨y0, y1, y2, y3, y4, y5, y6, y7, y8, y9, y10, y11, i', d', e', a', rfl, p1, p2, p3, p4⟩ := hr
  exact ⟨_, _, _, _, _, _, _, _, _, _, _, _, _, _, _, _, rfl, p1, by omega, p3, fun z => (q4 (p4 z)).1⟩
theorem call_t {l : List Tok} (T : Toks l) (i d e a x0 x1 : Int) (x2 x3 x4 : BA) (x5 : Bool) (x6 x7 : BA) (h0 : 0 ≤ i) (h1 : i < l.length) : EvP (fun n => rr_call.f n l i d e a x0 x1 x2 x3 x4 x5 x6 x7) (StmtQ l i e) := by
 have T1 := T.1
 unfold rr_call.f
 refine qname_b T h0 h1 (fun s t i2 e2 a2 q1 q2 q3 => ?_)
 dsimp only
 refine take_b T (by omega) q2 (fun he hi => gate rfl ?_) (ways (fun z => absurd z bft) (fun _ => ?_))
 ·
  dsimp only
  refine qname_b T (by omega) hi (fun s t i3 e3 a3 t1 t2 t3 => ?_)
  refine weaker (call_j T i3 d e3 a3 _ _ _ _ _ _ _ _ _ _ (by omega) t2) (fun r hr => ?_)
  obtain ⟨y0, y1, y2, y3, y4, y5, y6, y7, y8, y9, y10, y11, i', d', e', a', rfl, p1, p2, p3, p4⟩ := hr
  exact ⟨_, _, _, _, _, _, _, _, _, _, _, _, _, _, _, _, rfl, p1, by omega, p3, fun z => ⟨(q3 he).1, by have := t3 (p4 z); omega⟩⟩
 ·
  dsimp only
  refine weaker (call_j T i2 d e2 a2 _ _ _ _ _ _ _ _ _ _ (by omega) q2) (fun r hr => ?_)
  obtain ⟨y0, y1, y2, y3, y4, y5, y6, y7, y8, y9, y10, y11, i', d', e', a', rfl, p1, p2, p3, p4⟩ := hr
  exact ⟨_, _, _, _, _, _, _, _, _, _, _, _, _, _, _, _, rfl, p1, by omega, p3, fun z => ⟨(q3 (p4 z)).1, by have := q3 (p4 z); omega⟩⟩
theorem call_b {β : Type} {Q : β → Prop} {l : List Tok} {i d e a x0 x1 : Int} {x2 x3 x4 : BA} {x5 : Bool} {x6 x7 : BA} (T : Toks l) {F : Nat → SmR → Option β} (h0 : 0 ≤ i) (h1 : i < l.length) (k : ∀ y0 y1 y2 y3 y4 y5 y6 y7 y8 y9 y10 y11 i' d' e' a', y8.length ≤ 20000 → i ≤ i' → i' < l.length → (e' = 0 → e = 0 ∧ i < i') → EvP (fun n => F n (y0, y1, y2, y3, y4, y5, y6, y7, y8, y9, y10, y11, i', d', e', a')) Q) :
  EvP (fun n => (rr_call.f n l i d e a x0 x1 x2 x3 x4 x5 x6 x7).bind (F n)) Q := by
 refine andThen (call_t T i d e a x0 x1 x2 x3 x4 x5 x6 x7 h0 h1) (fun r hr => ?_)
 obtain ⟨y0, y1, y2, y3, y4, y5, y6, y7, y8, y9, y10, y11, i', d', e', a', rfl, p1, p2, p3, p4⟩ := hr
 exact k _ _ _ _ _ _ _ _ _ _ _ _ _ _ _ _ p1 p2 p3 p4
def BlockP (l : List Tok) (i e : Int) (r : List Sm × Int × Int × Int × Int) : Prop := ∃ B i' d' e' a', r = (B, i', d', e', a') ∧ (∀ s ∈ B, s.f8.length ≤ 20000) ∧ i ≤ i' ∧ i' < l.length ∧ (e' = 0 → e = 0 ∧ i < i')
def Blocks (l : List Tok) (m : Int) : Prop := ∀ i d e a : Int, 0 ≤ i → i < l.length → (e = 0 → l.length - i + 1 ≤ m) → l.length - i ≤ m → EvP (fun n => rr_block.f n l i d e a) (BlockP l i e)
theorem block_b {β : Type} {Q : β → Prop} {l : List Tok} {m : Int} {i d e a : Int} (H : Blocks l m) {F : Nat → (List Sm × Int × Int × Int × Int) → Option β} (h0 : 0 ≤ i) (h1 : i < l.length) (m1 : e = 0 → l.length - i + 1 ≤ m) (m2 : l.length - i ≤ m) (k : ∀ B i' d' e' a', (∀ s ∈ B, s.f8.length ≤ 20000) → i ≤ i' → i' < l.length → (e' = 0 → e = 0 ∧ i < i') → EvP (fun n => F n (B, i', d', e', a')) Q) :
  EvP (fun n => (rr_block.f n l i d e a).bind (F n)) Q := by
 refine andThen (H i d e a h0 h1 m1 m2) (fun r hr => ?_)
 obtain ⟨B, i', d', e', a', rfl, p1, p2, p3, p4⟩ := hr
 exact k _ _ _ _ _ p1 p2 p3 p4
theorem stmt_j {l : List Tok} {m : Int} (T : Toks l) (H : Blocks l (m - 1)) (b : Bool) (i d e a x0 x1 : Int) (x2 x3 x4 : BA) (x5 : Bool) (x6 x7 : BA) (h0 : 0 ≤ i) (h1 : i < l.length) (m1 : e = 0 → l.length - i + 1 ≤ m) (m2 : l.length - i ≤ m) : EvP (fun n => rr_stmt.j0 n b l i d e a x0 x1 x2 x3 x4 x5 x6 x7) (StmtQ l i e) := by
 have T1 := T.1
 refine more ?_
 simp only [rr_stmt.j0]
 refine ways (fun _ => ?_) (fun _ => ?_)
 all_goals repeat' first
  | (with_reducible refine want_b T (by omega) (by omega) (fun _ _ _ _ _ _ _ => ?_); dsimp only)
  | (with_reducible refine name_b T (by omega) (by omega) (fun _ _ _ _ _ _ _ _ => ?_); dsimp only)
  | (with_reducible refine qname_b T (by omega) (by omega) (fun _ _ _ _ _ _ _ _ => ?_); dsimp only)
  | (with_reducible refine here_b (by omega) (by omega) ?_; dsimp only)
  | (with_reducible refine fail_b (by omega) (by omega) (by omega) (fun _ _ _ => ?_); dsimp only)
  | (with_reducible refine expr_b T (by omega) (by omega) (fun _ _ _ _ _ _ _ _ _ => ?_); dsimp only)
  | (with_reducible refine call_b T (by omega) (by omega) (fun _ _ _ _ _ _ _ _ _ _ _ _ _ _ _ _ _ _ _ _ => ?_); dsimp only)
  | (with_reducible refine block_b H (by omega) (by omega) (by omega) (by omega) (fun _ _ _ _ _ _ _ _ _ => ?_); dsimp only)
  | (with_reducible refine take_b T (by omega) (by omega) (fun _ _ => gate rfl ?_) (ways (fun z => absurd z bft) (fun _ => ?_)) <;> dsimp only)
  | exact done ⟨_, _, _, _, _, _, _, _, _, _, _, _, _, _, _, _, rfl, by first | assumption | simp, by omega, by omega, fun z => by omega⟩
theorem stmt_t {l : List Tok} {m : Int} (T : Toks l) (H : Blocks l (m - 1)) (i d e a : Int) (h0 : 0 ≤ i) (h1 : i < l.length) (m1 : e = 0 → l.length - i + 1 ≤ m) (m2 : l.length - i ≤ m) : EvP (fun n => rr_stmt.f n l i d e a) (StmtQ l i e) := by
 refine more ?_
 simp only [rr_stmt.f]
 refine here_b h0 h1 ?_
 dsimp only
 exact ways (fun he => gate h0 (gate h1 (stmt_j T H _ i d e a _ _ _ _ _ _ _ _ h0 h1 m1 m2))) (fun he => stmt_j T H _ i d e a _ _ _ _ _ _ _ _ h0 h1 m1 m2)
def BlockL (l : List Tok) (m : Int) : Prop := ∀ (B : List Sm) (i d e a : Int), 0 ≤ i → i < l.length → (e = 0 → l.length - i + 1 ≤ m) → l.length - i ≤ m → B.length ≤ i + 1 → (e = 0 → B.length ≤ i) → (∀ s ∈ B, s.f8.length ≤ 20000) →
 EvP (fun n => rr_block.l0 n B l i d e a) (fun r => ∃ B' i' d' e' a', r = (B', i', d', e', a') ∧ (∀ s ∈ B', s.f8.length ≤ 20000) ∧ i ≤ i' ∧ i' < l.length ∧ (e' = 0 → e = 0))
theorem block_l {l : List Tok} {m : Int} (T : Toks l) (H : Blocks l (m - 1)) (ih : BlockL l (m - 1)) : BlockL l m := by
 have T1 := T.1
 intro B i d e a h0 h1 m1 m2 b1 b2 b3
 refine more ?_
 simp only [rr_block.l0]
 refine ways (fun he => ?_) (fun he => ?_)
 ·
  refine is_b T h0 h1 (fun _ hi => gate rfl ?_) (ways (fun z => absurd z bft) (fun _ => ?_))
  ·
   dsimp only
   refine want_b T h0 h1 (fun i3 e3 a3 t1 t2 t3 t4 => ?_)
   exact done ⟨_, _, _, _, _, rfl, b3, t1, t3, fun _ => he⟩
  ·
   dsimp only
   refine andThen (stmt_t T H i d e a h0 h1 m1 m2) (fun r hr => ?_)
   obtain ⟨y0, y1, y2, y3, y4, y5, y6, y7, y8, y9, y10, y11, i', d', e', a', rfl, p1, p2, p3, p4⟩ := hr
   dsimp only
   refine gate (by omega) (weaker (ih _ i' d' e' a' (by omega) p3 (by omega) (by omega) zl zl ?_) (fun r hr => ?_))
   ·
    intro s hs
    rcases List.mem_append.mp hs with hs | hs
    · exact b3 s hs
    ·
     obtain rfl := List.mem_singleton.mp hs
     exact p1
   ·
    obtain ⟨B', i2, d2, e2, a2, rfl, k1, k2, k3, k4⟩ := hr
    exact ⟨_, _, _, _, _, rfl, k1, by omega, k3, fun _ => he⟩
 ·
  refine want_b T h0 h1 (fun i3 e3 a3 t1 t2 t3 t4 => ?_)
  exact done ⟨_, _, _, _, _, rfl, b3, t1, t3, fun z => (t4 z).1⟩
theorem block_t {l : List Tok} {m : Int} (T : Toks l) (H : BlockL l m) : Blocks l m := by
 intro i d e a h0 h1 m1 m2
 refine more ?_
 simp only [rr_block.f]
 refine open_b T h0 h1 (fun i2 d2 e2 a2 q1 q2 q3 q4 => ?_)
 dsimp only
 refine weaker (H [] i2 d2 e2 a2 (by omega) q3 (by omega) (by omega) (by simp; omega) (by simp; omega) (by simp)) (fun r hr => ?_)
 obtain ⟨B', i', d', e', a', rfl, k1, k2, k3, k4⟩ := hr
 exact ⟨_, _, _, _, _, rfl, k1, by omega, k3, fun z => by have := q4 (k4 z); omega⟩
theorem blocks {l : List Tok} (T : Toks l) : ∀ m : Nat, Blocks l m ∧ BlockL l m := by
 intro m
 induction m with
 | zero => exact ⟨fun i d e a h0 h1 m1 m2 => by omega, fun B i d e a h0 h1 m1 m2 => by omega⟩
 | succ m ih =>
  have e : (m : Int) = ((m + 1 : Nat) : Int) - 1 := by omega
  rw [e] at ih
  have bl := block_l T ih.1 ih.2
  exact ⟨block_t T bl, bl⟩
theorem block_c {β : Type} {Q : β → Prop} {l : List Tok} {i d e a : Int} (T : Toks l) {F : Nat → (List Sm × Int × Int × Int × Int) → Option β} (h0 : 0 ≤ i) (h1 : i < l.length) (k : ∀ B i' d' e' a', (∀ s ∈ B, s.f8.length ≤ 20000) → i ≤ i' → i' < l.length → (e' = 0 → e = 0 ∧ i < i') → EvP (fun n => F n (B, i', d', e', a')) Q) :
  EvP (fun n => (rr_block.f n l i d e a).bind (F n)) Q := by
 have T1 := T.1
 exact block_b (blocks T 20000).1 h0 h1 (by omega) (by omega) k
def VarP (l : List Tok) (i e : Int) (r : BA × BA × Int × Int × Int × Int × Int × Int) : Prop := ∃ s t v x i' d' e' a', r = (s, t, v, x, i', d', e', a') ∧ i ≤ i' ∧ i' < l.length ∧ (e' = 0 → e = 0)
theorem variable_j {l : List Tok} (T : Toks l) (g b : Bool) (i d e a : Int) (x1 x2 : BA) (x3 x4 k0 : Int) (s : BA) (k2 : Int) (h0 : 0 ≤ i) (h1 : i < l.length) (hb : b = false → i + 1 < l.length ∧ s.size ≤ 10000) : EvP (fun n => rr_variable.j0 n g b l i d e a x1 x2 x3 x4 k0 s k2) (VarP l i e) := by
 have T1 := T.1
 refine more ?_
 simp only [rr_variable.j0]
 refine ways (fun _ => ?_) (fun hf => ?_)
 ·
  refine fail_b (by omega) h0 h1 (fun e' a' he' => ?_)
  exact done ⟨_, _, _, _, _, _, _, _, rfl, by omega, h1, fun z => absurd z he'⟩
 ·
  obtain ⟨k1, k3⟩ := hb (by simpa using hf)
  rw [w64 (n := i + 1) (by omega) (by omega)]
  refine num_b k3 (fun v => ways (fun _ => ?_) (fun _ => ?_))
  ·
   refine want_b T (by omega) k1 (fun i3 e3 a3 t1 t2 t3 t4 => ?_)
   exact done ⟨_, _, _, _, _, _, _, _, rfl, by omega, t3, fun z => (t4 z).1⟩
  ·
   refine want_b T (by omega) k1 (fun i3 e3 a3 t1 t2 t3 t4 => ?_)
   exact done ⟨_, _, _, _, _, _, _, _, rfl, by omega, t3, fun z => (t4 z).1⟩
theorem variable_t {l : List Tok} (T : Toks l) (i d e a : Int) (h0 : 0 ≤ i) (h1 : i < l.length) : EvP (fun n => rr_variable.f n l i d e a) (VarP l i e) := by
 have T1 := T.1
 unfold rr_variable.f
 refine here_b h0 h1 ?_
 dsimp only
 refine name_b T h0 h1 (fun s1 i1 e1 a1 p1 p2 p3 p4 => ?_)
 dsimp only
 refine want_b T (by omega) p3 (fun i2 e2 a2 q1 q2 q3 q4 => ?_)
 dsimp only
 refine name_b T (by omega) q3 (fun s3 i3 e3 a3 r1 r2 r3 r4 => ?_)
 dsimp only
 refine want_b T (by omega) r3 (fun i4 e4 a4 t1 t2 t3 t4 => ?_)
 dsimp only
 have rest : ∀ (g : Bool) (i5 : Int) (x1 x2 : BA) (x3 x4 : Int), i4 ≤ i5 → i5 < l.length → EvP (fun n => if 0 ≤ i5 then (if i5 < (l.length : Int) then (if e4 = 0 then (rr_variable.j0 n g (((rd_T122 l i5).f0) != 2) l i5 d e4 a4 x1 x2 x3 x4 ((rd_T122 l i5).f0) ((rd_T122 l i5).f1) ((rd_T122 l i5).f2)) else (rr_variable.j0 n g true l i5 d e4 a4 x1 x2 x3 x4 ((rd_T122 l i5).f0) ((rd_T122 l i5).f1) ((rd_T122 l i5).f2))) else none) else none) (VarP l i e) := by
  intro g i5 x1 x2 x3 x4 w1 w2
  have back : ∀ r, VarP l i5 e4 r → VarP l i e r := by
   intro r hr
   obtain ⟨s, t, v, x, i', d', e', a', rfl, k1, k2, k3⟩ := hr
   exact ⟨_, _, _, _, _, _, _, _, rfl, by omega, k2, fun z => (p4 (q4 (r4 (t4 (k3 z)).1).1).1).1⟩
  refine gate (by omega) (gate w2 (ways (fun he => ?_) (fun he => ?_)))
  ·
   refine weaker (variable_j T g _ i5 d e4 a4 x1 x2 x3 x4 _ _ _ (by omega) w2 (fun hb => ⟨T.2.1 i5 (by omega) w2 ?_, T.2.2 i5 (by omega) w2⟩)) back
   have := bne_eq_false_iff_eq.mp hb
   omega
  · exact weaker (variable_j T g true i5 d e4 a4 x1 x2 x3 x4 _ _ _ (by omega) w2 (fun hb => by cases hb)) back
 refine take_b T (by omega) t3 (fun _ hi => ?_) ?_
 · exact rest true (i4 + 1) _ _ _ _ (by omega) hi
 · exact rest false i4 _ _ _ _ (by omega) t3
abbrev Pm := S134
abbrev PrR := BA × List Pm × Bool × BA × BA × List BA × List Sm × Int × Int × Int × Int × Int
def ProcP (l : List Tok) (i e : Int) (r : PrR) : Prop := ∃ x0 x1 x2 x3 x4 x5 x6 x7 i' d' e' a', r = (x0, x1, x2, x3, x4, x5, x6, x7, i', d', e', a') ∧ (∀ s ∈ x6, s.f8.length ≤ 20000) ∧ i ≤ i' ∧ i' < l.length ∧ (e' = 0 → e = 0)
theorem proc_back {l : List Tok} {i e i2 e2 : Int} {r : PrR} (h : ProcP l i2 e2 r) (hi : i ≤ i2) (he : e2 = 0 → e = 0) : ProcP l i e r := by
 obtain ⟨x0, x1, x2, x3, x4, x5, x6, x7, i', d', e', a', rfl, k1, k2, k3, k4⟩ := h
 exact ⟨x0, x1, x2, x3, x4, x5, x6, x7, i', d', e', a', rfl, k1, by omega, k3, fun z => he (k4 z)⟩
theorem proc_l1 {l : List Tok} (T : Toks l) : ∀ (m : Nat) (i d e a : Int) (x0 : BA) (x1 : List Pm) (x2 : Bool) (x3 x4 : BA) (U : List BA) (x7 : Int), 0 ≤ i → i < l.length → l.length - i ≤ m → U.length ≤ i → EvP (fun n => rr_proc.l1 n l i d e a x0 x1 x2 x3 x4 U x7) (ProcP l i e) := by
 have T1 := T.1
 intro m
 induction m with
 | zero =>
  intro i d e a x0 x1 x2 x3 x4 U x7 h0 h1 m1
  omega
 | succ m ih =>
  intro i d e a x0 x1 x2 x3 x4 U x7 h0 h1 m1 hU
  refine more ?_
  simp only [rr_proc.l1]
  refine ways (fun he => ?_) (fun he => ?_)
  ·
   refine name_b T h0 h1 (fun s i2 e2 a2 q1 q2 q3 q4 => gate (by omega) (known rfl ?_))
   dsimp only
   refine take_b T (by omega) q3 (fun he2 hi => gate rfl ?_) (ways (fun z => absurd z bft) (fun _ => ?_))
   · exact weaker (ih (i2 + 1) d e2 a2 x0 x1 x2 x3 x4 _ x7 (by omega) hi (by omega) zl) (fun r hr => proc_back hr (by omega) (fun _ => he))
   ·
    dsimp only
    refine want_b T (by omega) q3 (fun i3 e3 a3 t1 t2 t3 t4 => ?_)
    dsimp only
    refine block_c T (by omega) t3 (fun B i4 d4 e4 a4 k1 k2 k3 k4 => ?_)
    dsimp only
    exact done ⟨_, _, _, _, _, _, _, _, _, _, _, _, rfl, k1, by omega, k3, fun _ => he⟩
  ·
   refine want_b T h0 h1 (fun i3 e3 a3 t1 t2 t3 t4 => ?_)
   dsimp only
   refine block_c T (by omega) t3 (fun B i4 d4 e4 a4 k1 k2 k3 k4 => ?_)
   dsimp only
   exact done ⟨_, _, _, _, _, _, _, _, _, _, _, _, rfl, k1, by omega, k3, fun z => (t4 (k4 z).1).1⟩
theorem proc_j2 {l : List Tok} (T : Toks l) (i d e a : Int) (x0 : BA) (x1 : List Pm) (x2 : Bool) (x3 x4 : BA) (x7 : Int) (h0 : 0 ≤ i) (h1 : i < l.length) : EvP (fun n => rr_proc.j2 n l i d e a x0 x1 x2 x3 x4 x7) (ProcP l i e) := by
 have T1 := T.1
 refine more ?_
 simp only [rr_proc.j2]
 refine want_b T h0 h1 (fun i1 e1 a1 p1 p2 p3 p4 => ?_)
 dsimp only
 refine name_b T (by omega) p3 (fun s i2 e2 a2 q1 q2 q3 q4 => ?_)
 dsimp only
 refine want_b T (by omega) q3 (fun i3 e3 a3 r1 r2 r3 r4 => ?_)
 dsimp only
 refine want_b T (by omega) r3 (fun i4 e4 a4 t1 t2 t3 t4 => ?_)
 dsimp only
 have hz : e4 = 0 → e = 0 := fun z => (p4 (q4 (r4 (t4 z).1).1).1).1
 refine is_b T (by omega) t3 (fun _ hi => gate rfl ?_) (ways (fun z => absurd z bft) (fun _ => ?_))
 ·
  dsimp only
  refine want_b T (by omega) t3 (fun i5 e5 a5 u1 u2 u3 u4 => ?_)
  dsimp only
  refine block_c T (by omega) u3 (fun B i6 d6 e6 a6 k1 k2 k3 k4 => ?_)
  dsimp only
  exact done ⟨_, _, _, _, _, _, _, _, _, _, _, _, rfl, k1, by omega, k3, fun z => hz (u4 (k4 z).1).1⟩
 · exact weaker (proc_l1 T 20000 i4 d e4 a4 _ _ _ _ _ _ _ (by omega) t3 (by omega) (by simp; omega)) (fun r hr => proc_back hr (by omega) hz)
theorem proc_j1 {l : List Tok} (T : Toks l) (i d e a : Int) (x0 : BA) (x1 : List Pm) (x2 : Bool) (x3 x4 : BA) (x7 : Int) (h0 : 0 ≤ i) (h1 : i < l.length) : EvP (fun n => rr_proc.j1 n l i d e a x0 x1 x2 x3 x4 x7) (ProcP l i e) := by
 refine more ?_
 simp only [rr_proc.j1]
 refine want_b T h0 h1 (fun i1 e1 a1 p1 p2 p3 p4 => ?_)
 dsimp only
 refine take_b T (by omega) p3 (fun he hi => gate rfl ?_) (ways (fun z => absurd z bft) (fun _ => ?_))
 ·
  dsimp only
  refine name_b T (by omega) hi (fun s i2 e2 a2 q1 q2 q3 q4 => ?_)
  exact weaker (proc_j2 T i2 d e2 a2 _ _ _ _ _ _ (by omega) q3) (fun r hr => proc_back hr (by omega) (fun z => (p4 (q4 z).1).1))
 · exact weaker (proc_j2 T i1 d e1 a1 _ _ _ _ _ _ (by omega) p3) (fun r hr => proc_back hr (by omega) (fun z => (p4 z).1))
theorem proc_l0 {l : List Tok} (T : Toks l) : ∀ (m : Nat) (i d e a : Int) (x0 : BA) (P : List Pm) (x2 : Bool) (x3 x4 : BA) (x7 : Int), 0 ≤ i → i < l.length → l.length - i ≤ m → P.length ≤ i → EvP (fun n => rr_proc.l0 n l i d e a x0 P x2 x3 x4 x7) (ProcP l i e) := by
 have T1 := T.1
 intro m
 induction m with
 | zero =>
  intro i d e a x0 P x2 x3 x4 x7 h0 h1 m1
  omega
 | succ m ih =>
  intro i d e a x0 P x2 x3 x4 x7 h0 h1 m1 hP
  refine more ?_
  simp only [rr_proc.l0]
  refine ways (fun he => ?_) (fun he => proc_j1 T i d e a _ _ _ _ _ _ h0 h1)
  refine here_b h0 h1 ?_
  dsimp only
  refine name_b T h0 h1 (fun s i1 e1 a1 p1 p2 p3 p4 => ?_)
  dsimp only
  refine want_b T (by omega) p3 (fun i2 e2 a2 q1 q2 q3 q4 => ?_)
  dsimp only
  refine name_b T (by omega) q3 (fun t i3 e3 a3 r1 r2 r3 r4 => gate (by omega) (known rfl ?_))
  dsimp only
  refine take_b T (by omega) r3 (fun he2 hi => gate rfl ?_) (ways (fun z => absurd z bft) (fun _ => ?_))
  · exact weaker (ih (i3 + 1) d e3 a3 _ _ _ _ _ _ (by omega) hi (by omega) zl) (fun r hr => proc_back hr (by omega) (fun _ => he))
  · exact weaker (proc_j1 T i3 d e3 a3 _ _ _ _ _ _ (by omega) r3) (fun r hr => proc_back hr (by omega) (fun _ => he))
theorem proc_t {l : List Tok} (T : Toks l) (i d e a : Int) (h0 : 0 ≤ i) (h1 : i < l.length) : EvP (fun n => rr_proc.f n l i d e a) (ProcP l i e) := by
 have T1 := T.1
 unfold rr_proc.f
 refine here_b h0 h1 ?_
 dsimp only
 refine name_b T h0 h1 (fun s i1 e1 a1 p1 p2 p3 p4 => ?_)
 dsimp only
 refine want_b T (by omega) p3 (fun i2 e2 a2 q1 q2 q3 q4 => ?_)
 dsimp only
 have hz : e2 = 0 → e = 0 := fun z => (p4 (q4 z).1).1
 refine is_b T (by omega) q3 (fun _ hi => gate rfl ?_) (ways (fun z => absurd z bft) (fun _ => ?_))
 · exact weaker (proc_j1 T i2 d e2 a2 _ _ _ _ _ _ (by omega) q3) (fun r hr => proc_back hr (by omega) hz)
 · exact weaker (proc_l0 T 20000 i2 d e2 a2 _ _ _ _ _ _ (by omega) q3 (by omega) (by simp; omega)) (fun r hr => proc_back hr (by omega) hz)
abbrev Im := S128
abbrev Vr := S81
abbrev Pr := S67
abbrev MoR := BA × Int × List Im × List Vr × List Pr × Int × Int × Int × Int
def Short (P : List Pr) : Prop := ∀ p ∈ P, ∀ s ∈ p.f6, s.f8.length ≤ 20000
def ModP (r : MoR) : Prop := Short r.2.2.2.2.1
theorem short_on {P : List Pr} {p : Pr} (h : Short P) (hp : ∀ s ∈ p.f6, s.f8.length ≤ 20000) : Short (P ++ [p]) := by
 intro q hq
 rcases List.mem_append.mp hq with hq | hq
 · exact h q hq
 ·
  obtain rfl := List.mem_singleton.mp hq
  exact hp
def ModL (l : List Tok) (m : Int) : Prop := ∀ (i d e a : Int) (x0 : BA) (x1 : Int) (I : List Im) (V : List Vr) (P : List Pr), 0 ≤ i → i < l.length → (e = 0 → l.length - i + 1 ≤ m) → l.length - i ≤ m → (V.length ≤ i + 1 ∧ P.length ≤ i + 1) → Short P → EvP (fun n => rr_module.l1 n l i d e a x0 x1 I V P) ModP
theorem mod_j2 {l : List Tok} {m : Int} (T : Toks l) (ih : ModL l (m - 1)) (b : Bool) (i d e a : Int) (x0 : BA) (x1 : Int) (I : List Im) (V : List Vr) (P : List Pr) (h0 : 0 ≤ i) (h1 : i < l.length) (m1 : e = 0 → l.length - i + 1 ≤ m) (m2 : l.length - i ≤ m) (hv : V.length ≤ i + 1 ∧ P.length ≤ i + 1) (hp : Short P) (hb : b = true → e = 0) : EvP (fun n => rr_module.j2 n b l i d e a x0 x1 I V P) ModP := by
 have T1 := T.1
 refine more ?_
 simp only [rr_module.j2]
 refine ways (fun hb2 => ?_) (fun _ => done hp)
 have he := hb hb2
 refine take_b T h0 h1 (fun _ hi => gate rfl ?_) (ways (fun z => absurd z bft) (fun _ => ?_))
 ·
  dsimp only
  refine andThen (variable_t T (i + 1) d e a (by omega) hi) (fun r hr => ?_)
  obtain ⟨s, t, v, x, i', d', e', a', rfl, k1, k2, k3⟩ := hr
  dsimp only
  exact gate (by omega) (ih i' d' e' a' _ _ _ _ _ (by omega) k2 (by omega) (by omega) zl hp)
 ·
  dsimp only
  refine take_b T h0 h1 (fun _ hi => gate rfl ?_) (ways (fun z => absurd z bft) (fun _ => ?_))
  ·
   dsimp only
   refine andThen (proc_t T (i + 1) d e a (by omega) hi) (fun r hr => ?_)
   obtain ⟨y0, y1, y2, y3, y4, y5, y6, y7, i', d', e', a', rfl, k1, k2, k3, k4⟩ := hr
   dsimp only
   exact gate (by omega) (ih i' d' e' a' _ _ _ _ _ (by omega) k3 (by omega) (by omega) zl (short_on hp k1))
  ·
   dsimp only
   refine fail_b (by omega) h0 h1 (fun e' a' he' => ?_)
   dsimp only
   exact ih i d e' a' _ _ _ _ _ h0 h1 (fun z => absurd z he') (by omega) hv hp
theorem mod_l1 {l : List Tok} (T : Toks l) : ∀ m : Nat, ModL l m := by
 intro m
 induction m with
 | zero =>
  intro i d e a x0 x1 I V P h0 h1 m1 m2
  omega
 | succ m ih =>
  have em : (m : Int) = ((m + 1 : Nat) : Int) - 1 := by omega
  rw [em] at ih
  intro i d e a x0 x1 I V P h0 h1 m1 m2 hv hp
  refine more ?_
  simp only [rr_module.l1]
  exact ways (fun he => gate h0 (gate h1 (mod_j2 T ih _ i d e a _ _ _ _ _ h0 h1 m1 m2 hv hp (fun _ => he)))) (fun he => mod_j2 T ih _ i d e a _ _ _ _ _ h0 h1 m1 m2 hv hp (fun z => by cases z))
theorem mod_l0 {l : List Tok} (T : Toks l) : ∀ (m : Nat) (i d e a : Int) (x0 : BA) (x1 : Int) (I : List Im), 0 ≤ i → i < l.length → l.length - i ≤ m → I.length ≤ i → EvP (fun n => rr_module.l0 n l i d e a x0 x1 I) ModP := by
 have T1 := T.1
 intro m
 induction m with
 | zero =>
  intro i d e a x0 x1 I h0 h1 m1
  omega
 | succ m ih =>
  intro i d e a x0 x1 I h0 h1 m1 hI
  refine more ?_
  simp only [rr_module.l0]
  refine take_b T h0 h1 (fun _ hi => gate rfl ?_) (ways (fun z => absurd z bft) (fun _ => ?_))
  ·
   dsimp only
   refine here_b (by omega) hi ?_
   dsimp only
   refine name_b T (by omega) hi (fun s i1 e1 a1 p1 p2 p3 p4 => gate (by omega) ?_)
   dsimp only
   refine want_b T (by omega) p3 (fun i2 e2 a2 q1 q2 q3 q4 => ?_)
   dsimp only
   exact ih i2 d e2 a2 _ _ _ (by omega) q3 (by omega) zl
  ·
   dsimp only
   exact mod_l1 T 20000 i d e a _ _ _ _ _ h0 h1 (by omega) (by omega) (by simp; omega) (by intro p hp; cases hp)
theorem module_t {l : List Tok} (T : Toks l) (hl : 0 < l.length) : EvP (fun n => rr_module.f n l 0 0 0 0) ModP := by
 have T1 := T.1
 unfold rr_module.f
 refine want_b T (by omega) (by omega) (fun i1 e1 a1 p1 p2 p3 p4 => ?_)
 dsimp only
 refine here_b (by omega) p3 ?_
 dsimp only
 refine name_b T (by omega) p3 (fun s i2 e2 a2 q1 q2 q3 q4 => ?_)
 dsimp only
 refine want_b T (by omega) q3 (fun i3 e3 a3 r1 r2 r3 r4 => ?_)
 dsimp only
 exact mod_l0 T 20000 i3 0 e3 a3 _ _ _ (by omega) r3 (by omega) (by simp; omega)
end TotP
namespace TotP
def LexP (r : List Tok × Int × Int) : Prop := r.2.1 = 0 → Toks r.1 ∧ 0 < r.1.length
theorem ext_le (s : BA) (a b : Nat) : (s.extract a b).size ≤ s.size := by
 rw [ByteArray.size_extract]
 omega
theorem some_byte (t : BA) (h : ¬ t.toList = ([] : List UInt8)) : 1 ≤ t.size := by
 refine Nat.pos_of_ne_zero (fun z => h ?_)
 rw [Lib.toList_data]
 have : t.data.size = 0 := z
 rw [Array.size_eq_zero_iff.mp this]
section
variable {β : Type} {Q : β → Prop} {s : BA} {i c : Int}
theorem letter_b {F : Nat → Bool → Option β} (k : ∀ b, ra_letter.f c = some b → EvP (fun n => F n b) Q) : EvP (fun n => (ra_letter.f c).bind (F n)) Q := by
 obtain ⟨b, hb⟩ : ∃ b, ra_letter.f c = some b := by
  unfold ra_letter.f
  split <;> exact ⟨_, rfl⟩
 exact known hb (k b hb)
theorem digit_b {F : Nat → Bool → Option β} (k : ∀ b, ra_digit.f c = some b → EvP (fun n => F n b) Q) : EvP (fun n => (ra_digit.f c).bind (F n)) Q := by
 obtain ⟨b, hb⟩ : ∃ b, ra_digit.f c = some b := by
  unfold ra_digit.f
  split <;> exact ⟨_, rfl⟩
 exact known hb (k b hb)
theorem key_b {F : Nat → Bool → Option β} (k : ∀ b, EvP (fun n => F n b) Q) : EvP (fun n => (ra_Key.f s).bind (F n)) Q := by
 obtain ⟨b, hb⟩ : ∃ b, ra_Key.f s = some b := by
  have one : ∀ {c : Prop} [Decidable c] {e : Option Bool}, (∃ b, e = some b) → ∃ b, (if c then some true else e) = some b := by
   intro c _ e h
   split
   · exact ⟨_, rfl⟩
   · exact h
  unfold ra_Key.f
  repeat refine one ?_
  exact ⟨_, rfl⟩
 exact known hb (k b)
theorem sign_j (hs : s.size ≤ 8192) (h0 : 0 ≤ i) (h1 : i < s.size) : EvP (fun n => ra_sign.j0 n s i) (fun t => t.size ≤ 8192) := by
 refine more ?_
 simp only [ra_sign.j0]
 rw [w64 (n := i + 1) (by omega) (by omega)]
 have he : ∀ a b : Nat, (s.extract a b).size ≤ 8192 := fun a b => Nat.le_trans (ext_le s a b) hs
 refine gate h0 (gate h1 ?_)
 repeat' first
  | exact done (he _ _)
  | exact done (by decide)
  | with_reducible refine gate (by omega) ?_
  | with_reducible refine ways (fun _ => ?_) (fun _ => ?_)
theorem sign_b (hs : s.size ≤ 8192) (h0 : 0 ≤ i) (h1 : i < s.size) {F : Nat → BA → Option β} (k : ∀ t, t.size ≤ 8192 → EvP (fun n => F n t) Q) : EvP (fun n => (ra_sign.f n s i).bind (F n)) Q := by
 have h : EvP (fun n => ra_sign.f n s i) (fun t => t.size ≤ 8192) := by
  unfold ra_sign.f
  rw [w64 (n := i + 1) (by omega) (by omega), w64 (n := i + 2) (by omega) (by omega)]
  have he : ∀ a b : Nat, (s.extract a b).size ≤ 8192 := fun a b => Nat.le_trans (ext_le s a b) hs
  refine ways (fun _ => gate h0 (gate (by omega) (gate (by omega) ?_))) (fun _ => sign_j hs h0 h1)
  repeat' first
   | exact done (he _ _)
   | exact sign_j hs h0 h1
   | with_reducible refine ways (fun _ => ?_) (fun _ => ?_)
 exact andThen h k
end
def Sofar (s : BA) (x5 : List Tok) (x : Int) : Prop := 0 ≤ x ∧ x ≤ 20000 ∧ x5.length ≤ x ∧ x5.length ≤ s.size ∧ ∀ t ∈ x5, t.f1.size ≤ 8192
theorem sofar_on {s : BA} {x5 : List Tok} {x y : Int} (h : Sofar s x5 x) (h1 : x ≤ y) (h2 : y ≤ 20000) : Sofar s x5 y := by
 obtain ⟨a, b, c, d, e⟩ := h
 exact ⟨by omega, h2, by omega, d, e⟩
theorem sofar_add {s : BA} {x5 : List Tok} {x y : Int} {t : Tok} (h : Sofar s x5 x) (h0 : x < s.size) (h1 : x < y) (h2 : y ≤ 20000) (ht : t.f1.size ≤ 8192) : Sofar s (x5 ++ [t]) y := by
 obtain ⟨a, b, c, d, e⟩ := h
 refine ⟨by omega, h2, by simp only [List.length_append, List.length_singleton]; omega, by simp only [List.length_append, List.length_singleton]; omega, ?_⟩
 intro q hq
 rcases List.mem_append.mp hq with hq | hq
 · exact e q hq
 ·
  obtain rfl := List.mem_singleton.mp hq
  exact ht
def Lexes (s : BA) (m : Int) : Prop := ∀ (x5 : List Tok) (x : Int), Sofar s x5 x → s.size - x ≤ m → EvP (fun n => ra_Lex.l0 n s x5 x) LexP
theorem end_toks {s : BA} {x5 : List Tok} {x : Int} (hs : s.size ≤ 8192) (h : Sofar s x5 x) : LexP (x5 ++ [⟨0, ⟨#[]⟩, (s.size : Int)⟩], 0, 0) := by
 obtain ⟨a, b, c, d, e⟩ := h
 intro _
 show Toks (x5 ++ [(⟨0, ⟨#[]⟩, (s.size : Int)⟩ : Tok)]) ∧ 0 < (x5 ++ [(⟨0, ⟨#[]⟩, (s.size : Int)⟩ : Tok)]).length
 refine ⟨⟨by simp only [List.length_append, List.length_singleton]; omega, ?_, ?_⟩, by simp⟩
 ·
  intro j j0 j1 hk
  simp only [List.length_append, List.length_singleton] at j1 ⊢
  refine Decidable.byContradiction (fun hn => hk ?_)
  have hj : j.toNat = x5.length := by omega
  simp [rd_T122, List.getD_eq_getElem?_getD, hj]
 ·
  intro j j0 j1
  have hj : j.toNat < (x5 ++ [(⟨0, ⟨#[]⟩, (s.size : Int)⟩ : Tok)]).length := by omega
  have hm : rd_T122 (x5 ++ [(⟨0, ⟨#[]⟩, (s.size : Int)⟩ : Tok)]) j ∈ x5 ++ [(⟨0, ⟨#[]⟩, (s.size : Int)⟩ : Tok)] := by
   unfold rd_T122
   rw [List.getD_eq_getElem?_getD, List.getElem?_eq_getElem hj]
   exact List.getElem_mem hj
  rcases List.mem_append.mp hm with hm | hm
  ·
   have := e _ hm
   omega
  ·
   rw [List.mem_singleton.mp hm]
   show (⟨#[]⟩ : BA).size ≤ 10000
   decide
section
variable {s : BA} {m : Int} {x5 : List Tok}
theorem err_t {c a : Int} (hc : c ≠ 0) : EvP (fun _ => some (([] : List Tok), c, a)) LexP := done (fun z => absurd z hc)
theorem lex_l1 (hs : s.size ≤ 8192) (H : Lexes s m) : ∀ (d : Nat) (x : Int), Sofar s x5 x → s.size - x ≤ m → s.size - x ≤ d → x ≤ s.size → EvP (fun n => ra_Lex.l1 n s x5 x) LexP := by
 intro d
 induction d with
 | zero =>
  intro x hx hm hd hsz
  refine more ?_
  simp only [ra_Lex.l1]
  exact ways (fun z => absurd z (by omega)) (fun _ => H x5 x hx hm)
 | succ d ih =>
  intro x hx hm hd hsz
  have h0 := hx.1
  refine more ?_
  simp only [ra_Lex.l1]
  refine ways (fun h => gate h0 (ways (fun _ => H x5 x hx hm) (fun _ => ?_))) (fun _ => H x5 x hx hm)
  rw [w64 (n := x + 1) (by omega) (by omega)]
  exact ih (x + 1) (sofar_on hx (by omega) (by omega)) (by omega) (by omega) (by omega)
theorem lex_j4 (hs : s.size ≤ 8192) (H : Lexes s m) (i x : Int) (hi : Sofar s x5 i) (h1 : i < x) (h2 : x ≤ s.size) (hm : s.size - x ≤ m) : EvP (fun n => ra_Lex.j4 n s x5 i x) LexP := by
 obtain ⟨a, b, c, d, e⟩ := id hi
 have he : ∀ a b : Nat, (s.extract a b).size ≤ 8192 := fun a b => Nat.le_trans (ext_le s a b) hs
 refine more ?_
 simp only [ra_Lex.j4]
 refine gate a (gate (by omega) (gate h2 (key_b (fun b => ways (fun _ => ?_) (fun _ => ?_)))))
 · exact ways (fun _ => err_t (by omega)) (fun _ => gate (by omega) (H _ x (sofar_add hi (by omega) h1 (by omega) (he _ _)) hm))
 · exact ways (fun _ => err_t (by omega)) (fun _ => gate (by omega) (H _ x (sofar_add hi (by omega) h1 (by omega) (he _ _)) hm))
theorem lex_l2 (hs : s.size ≤ 8192) (H : Lexes s m) (i : Int) (hi : Sofar s x5 i) (hm : s.size - i ≤ m + 1) : ∀ (d : Nat) (x : Int), s.size - x ≤ d → i < x → x ≤ s.size → EvP (fun n => ra_Lex.l2 n s x5 i x) LexP := by
 have h0 := hi.1
 intro d
 induction d with
 | zero =>
  intro x hd hx hsz
  refine more ?_
  simp only [ra_Lex.l2]
  exact ways (fun z => absurd z (by omega)) (fun _ => lex_j4 hs H i x hi hx hsz (by omega))
 | succ d ih =>
  intro x hd hx hsz
  refine more ?_
  simp only [ra_Lex.l2]
  refine ways (fun h => gate (by omega) ?_) (fun _ => lex_j4 hs H i x hi hx hsz (by omega))
  rw [w64 (n := x + 1) (by omega) (by omega)]
  have next := ih (x + 1) (by omega) (by omega) (by omega)
  exact letter_b (fun b _ => ways (fun _ => next) (fun _ => digit_b (fun b _ => ways (fun _ => next) (fun _ => ways (fun _ => next) (fun _ => lex_j4 hs H i x hi hx hsz (by omega))))))
theorem lex_j6 (hs : s.size ≤ 8192) (H : Lexes s m) (i q x : Int) (hi : Sofar s x5 i) (h1 : i < x) (h2 : x ≤ s.size) (hm : s.size - x ≤ m) : EvP (fun n => ra_Lex.j6 n s x5 i q x) LexP := by
 obtain ⟨a, b, c, d, e⟩ := id hi
 have he : ∀ a b : Nat, (s.extract a b).size ≤ 8192 := fun a b => Nat.le_trans (ext_le s a b) hs
 have good : EvP (fun n => ra_Lex.l0 n s (x5 ++ [(⟨2, s.extract (i : Int).toNat (x : Int).toNat, i⟩ : Tok)]) x) LexP := H _ x (sofar_add hi (by omega) h1 (by omega) (he _ _)) hm
 refine more ?_
 simp only [ra_Lex.j6]
 repeat' first
  | exact good
  | exact err_t (by omega)
  | with_reducible refine gate (by omega) ?_
  | with_reducible refine letter_b (fun _ _ => ?_)
  | with_reducible refine ways (fun _ => ?_) (fun _ => ?_)
theorem lex_l3 (hs : s.size ≤ 8192) (H : Lexes s m) (i q : Int) (hi : Sofar s x5 i) (hm : s.size - i ≤ m + 1) : ∀ (d : Nat) (x : Int), s.size - x ≤ d → i < x → x ≤ s.size → EvP (fun n => ra_Lex.l3 n s x5 i q x) LexP := by
 have h0 := hi.1
 intro d
 induction d with
 | zero =>
  intro x hd hx hsz
  refine more ?_
  simp only [ra_Lex.l3]
  exact ways (fun z => absurd z (by omega)) (fun _ => lex_j6 hs H i q x hi hx hsz (by omega))
 | succ d ih =>
  intro x hd hx hsz
  refine more ?_
  simp only [ra_Lex.l3]
  refine ways (fun h => gate (by omega) ?_) (fun _ => lex_j6 hs H i q x hi hx hsz (by omega))
  rw [w64 (n := x + 1) (by omega) (by omega)]
  exact digit_b (fun b _ => ways (fun _ => ih (x + 1) (by omega) (by omega) (by omega)) (fun _ => lex_j6 hs H i q x hi hx hsz (by omega)))
theorem lex_j1 (hs : s.size ≤ 8192) (H : Lexes s m) (i : Int) (f : Bool) (hi : Sofar s x5 i) (h1 : i < s.size) (hm : s.size - i ≤ m + 1) : EvP (fun n => ra_Lex.j1 n s x5 i (bt s i) f) LexP := by
 obtain ⟨a, b, c, d, e⟩ := id hi
 have hw : wrap64 (i + 1) = i + 1 := w64 (by omega) (by omega)
 refine more ?_
 simp only [ra_Lex.j1]
 rw [hw]
 refine ways (fun _ => H _ _ (sofar_on hi (by omega) (by omega)) (by omega)) (fun _ => ways (fun h35 => ?_) (fun _ => letter_b (fun b hb => ways (fun hb1 => ?_) (fun _ => digit_b (fun b2 hb2 => ways (fun hb3 => ?_) (fun _ => ?_))))))
 ·
  refine more ?_
  simp only [ra_Lex.l1]
  rw [hw]
  exact gate h1 (gate a (ways (fun z => absurd z (by omega)) (fun _ => lex_l1 hs H 10000 (i + 1) (sofar_on hi (by omega) (by omega)) (by omega) (by omega) (by omega))))
 ·
  refine more ?_
  simp only [ra_Lex.l2]
  rw [hw]
  subst hb1
  exact gate h1 (gate a (known hb (gate rfl (lex_l2 hs H i hi hm 10000 (i + 1) (by omega) (by omega) (by omega)))))
 ·
  refine more ?_
  simp only [ra_Lex.l3]
  rw [hw]
  subst hb3
  exact gate h1 (gate a (known hb2 (gate rfl (lex_l3 hs H i _ hi hm 10000 (i + 1) (by omega) (by omega) (by omega)))))
 ·
  refine sign_b hs a h1 (fun t ht => ways (fun _ => err_t (by omega)) (fun hne => gate (by omega) ?_))
  have h1t := some_byte t hne
  rw [w64 (n := i + (t.size : Int)) (by omega) (by omega)]
  exact H _ _ (sofar_add hi h1 (by omega) (by omega) ht) (by omega)
end
theorem lexes {s : BA} (hs : s.size ≤ 8192) : ∀ m : Nat, Lexes s m := by
 intro m
 induction m with
 | zero =>
  intro x5 x hx hm
  have h4 := hx.2.2.2.1
  refine more ?_
  simp only [ra_Lex.l0]
  exact ways (fun z => absurd z (by omega)) (fun _ => gate (by omega) (done (end_toks hs hx)))
 | succ m ih =>
  intro x5 x hx hm
  have h4 := hx.2.2.2.1
  refine more ?_
  simp only [ra_Lex.l0]
  refine ways (fun h1 => gate hx.1 ?_) (fun _ => gate (by omega) (done (end_toks hs hx)))
  have hj := fun f => lex_j1 hs ih x f hx h1 (by omega)
  exact ways (fun _ => hj _) (fun _ => ways (fun _ => hj _) (fun _ => ways (fun _ => hj _) (fun _ => hj _)))
theorem parse_t (s : BA) : EvP (fun n => ra_Parse.f n s) (fun r => Short r.2.2.2.2.1) := by
 have hnil : Short ([] : List Pr) := by
  intro p hp
  cases hp
 have hl : EvP (fun n => ra_Lex.f n s) LexP := by
  unfold ra_Lex.f
  refine ways (fun _ => err_t (by omega)) (fun h => ?_)
  exact lexes (by omega) 10000 [] 0 ⟨by omega, by omega, by simp, by simp, by simp⟩ (by omega)
 unfold ra_Parse.f
 refine andThen hl (fun b hb => ways (fun h0 => ?_) (fun _ => done hnil))
 obtain ⟨T, hp⟩ := hb h0
 exact andThen (module_t T hp) (fun r hr => ways (fun _ => done hr) (fun _ => done hnil))
end TotP
open TotP in
theorem expr_text (s : BA) (hs : s.size ≤ 140737488351232) : EvP (fun n => rl_Expr.f n s) (fun r => r.1.length ≤ 20000) := by
 unfold rl_Expr.f
 refine gate (by omega) (gate (by rw [ByteArray.size_append]; have : (⟨#[109, 111, 100, 117, 108, 101, 32, 109, 59, 32, 112, 114, 111, 99, 32, 112, 40, 41, 32, 112, 99, 32, 97, 32, 117, 115, 101, 115, 32, 123, 125, 32, 123, 32, 114, 101, 115, 117, 108, 116, 32, 61, 32]⟩ : BA).size = 43 := rfl; omega) ?_)
 refine andThen (parse_t _) (fun r hr => ?_)
 have hn : ∀ b : Bool, EvP (fun _ => some (([] : List Nd), b)) (fun r : List Nd × Bool => r.1.length ≤ 20000) := fun b => done (by simp)
 refine TotP.ways (fun _ => ?_) (fun _ => hn _)
 refine TotP.ways (fun h1 => ?_) (fun _ => hn _)
 refine TotP.gate (by omega) ?_
 refine TotP.ways (fun h2 => ?_) (fun _ => hn _)
 refine TotP.ways (fun _ => hn _) (fun _ => ?_)
 refine TotP.gate (by omega) (TotP.done ?_)
 have mem67 : ∀ (P : List Pr), 0 < (P.length : Int) → rd_T67 P 0 ∈ P := by
  intro P h
  unfold rd_T67
  rw [List.getD_eq_getElem?_getD, List.getElem?_eq_getElem (show (0 : Int).toNat < P.length by simp; omega)]
  exact List.getElem_mem _
 have mem70 : ∀ (P : List Sm), 0 < (P.length : Int) → rd_T70 P 0 ∈ P := by
  intro P h
  unfold rd_T70
  rw [List.getD_eq_getElem?_getD, List.getElem?_eq_getElem (show (0 : Int).toNat < P.length by simp; omega)]
  exact List.getElem_mem _
 exact hr _ (mem67 _ (by omega)) _ (mem70 _ (by omega))
open FindP ValP in
theorem texts_loop (ns : List ValP.Node) (mod : BA) (l m : List Cell) (hn : ns.length ≤ 1000000000) (hl : l.length ≤ 1000000000) (hm : m.length ≤ 1000000000) (haw : Ev (fun _ => rl_awake.f.bind fun t => some t) true) : ∀ (d : Nat) (i : Int), i + d = ns.length + 1 → -1 ≤ i → Ev (fun k => rl_EvalTexts.l0 k mod l m ns i) true := by
 intro d
 induction d with
 | zero =>
  intro i hi h0
  refine Ev.step (fun k => ?_) haw
  simp only [rl_EvalTexts.l0]
  rw [ig (by omega)]
 | succ d ih =>
  intro i hi h0
  obtain ⟨r, e1, e2⟩ := value_ev ns i mod l m hn hl hm
  refine Ev.step (f := fun k => (eval_Value.f k ns i mod l m).bind fun t1037 => ((rb_Value.f k ns i mod l m).bind fun t1038 => (if t1037 = t1038 then (rl_EvalTexts.l0 k mod l m ns (wrap64 (i + 1))) else (some false)))) (fun k => ?_) (Ev.bind e1 (Ev.bind e2 ?_))
  ·
   simp only [rl_EvalTexts.l0]
   rw [ip (by omega)]
  ·
   refine Ev.congr (fun k => ?_) (ih (i + 1) (by omega) (by omega))
   rw [ip rfl, FindP.w64 (by omega) (by omega)]
open FindP ValP TotP in
theorem EvalTexts : rl_EvalTexts.Pure := by
 intro s mod l m h0 h1 h2 h3
 have haw : rl_awake.f = some true := by decide +kernel
 have hawE : Ev (fun _ => rl_awake.f.bind fun t => some t) true := by rw [haw]; exact Ev.now _
 have jt : ∀ ns, Ev (fun k => rl_EvalTexts.j0 k mod l m ns true) true := by
  intro ns
  refine Ev.step (fun k => ?_) hawE
  simp only [rl_EvalTexts.j0]
  rw [ip trivial]
 obtain ⟨r, er, hr⟩ := expr_text s h0
 have key : Ev (fun k => rl_EvalTexts.f k s mod l m) true := by
  refine Ev.bind (f := fun k (bt : List ValP.Node × Bool) => (if bt.2 = true then ((rl_great.f l m).bind fun t1034 => (rl_EvalTexts.j0 k mod l m bt.1 t1034)) else (rl_EvalTexts.j0 k mod l m bt.1 true))) er ?_
  by_cases hb : r.2 = true
  ·
   refine Ev.congr (fun k => ip hb) ?_
   unfold rl_great.f
   by_cases h60 : (l.length : Int) > 60
   ·
    rw [ip h60]
    exact jt _
   ·
    rw [ig h60]
    by_cases h61 : (m.length : Int) > 60
    ·
     rw [decide_eq_true h61]
     exact jt _
    ·
     rw [decide_eq_false h61]
     refine Ev.step (fun k => ?_) (texts_loop r.1 mod l m (by omega) (by omega) (by omega) hawE (r.1.length + 2) (-1) (by omega) (by omega))
     simp only [rl_EvalTexts.j0, Option.bind_some]
     rw [ig bft]
  · exact Ev.congr (fun k => ig hb) (jt _)
 exact key.rounds
end Go.Proofs.Ytkhalpeiifdfiaa.Pure
