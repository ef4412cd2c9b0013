/- The statement EvalNodes over lists and numbers: of any nodes both values are one. No further condition. -/
import Derived.Test.YtkhalpeiifdfiaaQEvalNodesx
namespace Go.Proofs.Ytkhalpeiifdfiaa.Pure
open Go.RowKit Go.Proofs.Ytkhalpeiifdfiaa.QEvalNodes Go.Proofs.YtkhalpeiifdfiaaW.PrintWords Go.Proofs.YtkhalpeiifdfiaaW.PrintLast
namespace FindP
theorem w64 {n : Int} (h0 : -4503599627370496 ≤ n) (h1 : n ≤ 4503599627370496) : wrap64 n = n := by unfold wrap64; omega
theorem toL (s : ByteArray) : s.toList = s.data.toList := Lib.toList_data s
theorem cb_self : ∀ a : List UInt8, Lib.compareBytes a a = 0
  | [] => rfl
  | x :: t => by
    unfold Lib.compareBytes
    rw [if_neg (by simp), if_neg (by simp)]
    exact cb_self t
theorem cb_eq : ∀ a b : List UInt8, Lib.compareBytes a b = 0 → a = b
  | [], [], _ => rfl
  | [], _ :: _, h => by simp [Lib.compareBytes] at h
  | _ :: _, [], h => by simp [Lib.compareBytes] at h
  | x :: s, y :: t, h => by
    unfold Lib.compareBytes at h
    split at h
    · cases h
    · split at h
      · cases h
      · rename_i h1 h2
        have : x = y := by
          rw [UInt8.lt_iff_toNat_lt] at h1 h2
          exact UInt8.toNat_inj.1 (by omega)
        rw [this, cb_eq s t h]
/-- 'a stands not ahead of b' goes on. -/
theorem cb_trans : ∀ a b c : List UInt8, ¬ Lib.compareBytes b a < 0 → ¬ Lib.compareBytes c b < 0 → ¬ Lib.compareBytes c a < 0
  | [], _, [], _, _ => by simp [Lib.compareBytes]
  | [], _, _ :: _, _, _ => by simp [Lib.compareBytes]
  | _ :: _, [], _, h, _ => by simp [Lib.compareBytes] at h
  | _ :: _, _ :: _, [], _, h => by simp [Lib.compareBytes] at h
  | x :: s, y :: t, z :: u, h1, h2 => by
    have ih := cb_trans s t u
    simp only [Lib.compareBytes, UInt8.lt_iff_toNat_lt] at h1 h2 ⊢
    split at h1
    · omega
    · split at h2
      · omega
      · rename_i a1 a2
        rw [if_neg (by omega)]
        by_cases e : x.toNat < z.toNat
        · rw [if_pos e]; decide
        · rw [if_neg e]
          rw [if_neg (by omega)] at h1 h2
          exact ih h1 h2
theorem cb_anti : ∀ a b : List UInt8, ¬ Lib.compareBytes a b < 0 → ¬ Lib.compareBytes b a < 0 → Lib.compareBytes a b = 0
  | [], [], _, _ => rfl
  | [], _ :: _, h, _ => by simp [Lib.compareBytes] at h
  | _ :: _, [], _, h => by simp [Lib.compareBytes] at h
  | x :: s, y :: t, h1, h2 => by
    have ih := cb_anti s t
    simp only [Lib.compareBytes, UInt8.lt_iff_toNat_lt] at h1 h2 ⊢
    split at h1
    · omega
    · split at h2
      · omega
      · rename_i a1 a2
        rw [if_neg a1, if_neg a2]
        rw [if_neg a2] at h1
        exact ih h1 h2
abbrev Cell := S32
abbrev cmp (x y : Cell) : Int := memory_find.cmp x y
theorem cmp_zero (x y : Cell) : cmp x y = 0 ↔ x.f0.toList = y.f0.toList ∧ x.f1.toList = y.f1.toList := by
  unfold cmp memory_find.cmp
  rw [toL, toL, toL, toL]
  constructor
  · intro h
    split at h
    · rename_i h0
      exact ⟨cb_eq _ _ h0, cb_eq _ _ h⟩
    · rename_i h0
      exact absurd h h0
  · rintro ⟨h0, h1⟩
    rw [h0, h1, cb_self, if_pos rfl, cb_self]
theorem cmp_trans (a b c : Cell) (h1 : ¬ cmp b a < 0) (h2 : ¬ cmp c b < 0) : ¬ cmp c a < 0 := by
  unfold cmp memory_find.cmp at h1 h2 ⊢
  have t0 := cb_trans a.f0.data.toList b.f0.data.toList c.f0.data.toList
  have t1 := cb_trans a.f1.data.toList b.f1.data.toList c.f1.data.toList
  have e1 := cb_eq b.f0.data.toList a.f0.data.toList
  have e2 := cb_eq c.f0.data.toList b.f0.data.toList
  have e3 := cb_eq c.f0.data.toList a.f0.data.toList
  have an := cb_anti b.f0.data.toList a.f0.data.toList
  by_cases z1 : Lib.compareBytes b.f0.data.toList a.f0.data.toList = 0
  · rw [if_pos z1] at h1
    have q1 := e1 z1
    rw [q1] at h2
    by_cases z2 : Lib.compareBytes c.f0.data.toList a.f0.data.toList = 0
    · rw [if_pos z2] at h2 ⊢
      exact t1 h1 h2
    · rw [if_neg z2] at h2 ⊢
      exact h2
  · rw [if_neg z1] at h1
    by_cases z2 : Lib.compareBytes c.f0.data.toList b.f0.data.toList = 0
    · rw [if_pos z2] at h2
      rw [e2 z2, if_neg z1]
      exact h1
    · rw [if_neg z2] at h2
      have t := t0 h1 h2
      by_cases z3 : Lib.compareBytes c.f0.data.toList a.f0.data.toList = 0
      · have q3 := e3 z3
        rw [q3] at h2
        exact absurd (an h1 h2) z1
      · rw [if_neg z3]
        exact t
/-- The place of the first cell of that name; -1: there is none. -/
def place (y : Cell) : List Cell → Int → Int := memory_find.idx y
theorem place_none (y : Cell) : ∀ (l : List Cell) (j : Int), (∀ c ∈ l, cmp c y ≠ 0) → place y l j = -1
  | [], _, _ => rfl
  | c :: t, j, h => by
    unfold place memory_find.idx
    rw [if_neg (h c (by simp))]
    exact place_none y t (j + 1) (fun c hc => h c (by simp [hc]))
theorem place_at (y : Cell) : ∀ (l : List Cell) (j : Int) (i : Nat) (hi : i < l.length), (∀ a (ha : a < i), cmp (l[a]'(by omega)) y ≠ 0) → cmp l[i] y = 0 → place y l j = j + i
  | c :: t, j, 0, _, _, h => by
    unfold place memory_find.idx
    rw [if_pos (show memory_find.cmp c y = 0 from h)]
    simp
  | c :: t, j, i + 1, hi, ha, h => by
    unfold place memory_find.idx
    rw [if_neg (show ¬ memory_find.cmp c y = 0 from ha 0 (by omega))]
    have := place_at y t (j + 1) i (by simpa using hi) (fun a h2 => by simpa using ha (a + 1) (by omega)) (by simpa using h)
    unfold place at this
    rw [this]
    omega
theorem rd_get (l : List Cell) (i : Nat) (h : i < l.length) : rd_T32 l (i : Int) = l[i] := by
  simp [rd_T32, List.getD_eq_getElem?_getD, h]
def Sorted (l : List Cell) : Prop := ∀ i (h : i + 1 < l.length), ¬ cmp (l[i + 1]) (l[i]'(by omega)) < 0
theorem sorted_le {l : List Cell} (hs : Sorted l) : ∀ (d i : Nat) (h : i + d < l.length), ¬ cmp (l[i + d]) (l[i]'(by omega)) < 0 := by
  intro d
  induction d with
  | zero =>
    intro i h
    have : cmp (l[i]'(by omega)) (l[i]'(by omega)) = 0 := (cmp_zero _ _).2 ⟨rfl, rfl⟩
    simp only [Nat.add_zero]
    omega
  | succ d ih =>
    intro i h
    exact cmp_trans _ _ _ (ih i (by omega)) (hs (i + d) (by omega))
theorem cmp_ev (x y : Cell) : Ev (fun k => memory_compare.f k x.f0 x.f1 x.f2 y.f0 y.f1 y.f2) (cmp x y) := Ev.of (fun k => memory_compare.mono _ _ _ _ _ _ k) (memory_find.cmp_f x y 0)
theorem issorted_ev (l : List Cell) (hl : l.length ≤ 1000000000) : ∀ i : Nat, i < l.length → (∀ a (h : a + 1 < l.length), i ≤ a → ¬ cmp (l[a + 1]) (l[a]'(by omega)) < 0) → ∃ t : Bool, (t = true → Sorted l) ∧ Ev (fun k => api_Cell_64.l0 k l (i : Int)) t := by
  intro i
  induction i with
  | zero =>
    intro hi h
    refine ⟨true, fun _ a ha => h a ha (Nat.zero_le _), Ev.step (f := fun _ => some true) (fun k => ?_) (Ev.now _)⟩
    simp only [api_Cell_64.l0]
    rw [if_neg (by omega)]
  | succ i ih =>
    intro hi h
    have w1 : wrap64 (((i + 1 : Nat) : Int) - 1) = (i : Int) := by rw [w64 (by omega) (by omega)]; omega
    have e1 := rd_get l (i + 1) hi
    have e2 := rd_get l i (by omega)
    have hstep : ∀ k, api_Cell_64.l0 (k + 1) l ((i + 1 : Nat) : Int) = (memory_compare.f k (l[i + 1]).f0 (l[i + 1]).f1 (l[i + 1]).f2 (l[i]'(by omega)).f0 (l[i]'(by omega)).f1 (l[i]'(by omega)).f2).bind fun t => if t < 0 then some false else api_Cell_64.l0 k l (i : Int) := by
      intro k
      simp only [api_Cell_64.l0]
      rw [w1, e1, e2, if_pos (by omega), if_pos (by omega), if_pos (by omega), if_pos (by omega), if_pos (by omega)]
    by_cases hc : cmp (l[i + 1]) (l[i]'(by omega)) < 0
    · refine ⟨false, fun h => (by cases h), Ev.step hstep (Ev.bind (cmp_ev _ _) ?_)⟩
      simp only [if_pos hc]
      exact Ev.now _
    · obtain ⟨t, h1, h2⟩ := ih (by omega) (fun a ha hia => by
        by_cases e : a = i
        · subst e; exact hc
        · exact h a ha (by omega))
      refine ⟨t, h1, Ev.step hstep (Ev.bind (cmp_ev _ _) ?_)⟩
      simp only [if_neg hc]
      exact h2
theorem sorted_ev (l : List Cell) (hl : l.length ≤ 1000000000) : ∃ t : Bool, (t = true → Sorted l) ∧ Ev (fun k => api_Cell_64.f k l) t := by
  by_cases h0 : l.length = 0
  · refine ⟨true, fun _ i h => by omega, ?_⟩
    refine Ev.step (f := fun _ => some true) (g := fun k => api_Cell_64.f k l) (fun k => ?_) (Ev.now _)
    unfold api_Cell_64.f
    rw [w64 (by omega) (by omega)]
    simp only [api_Cell_64.l0]
    rw [if_neg (by omega)]
  · obtain ⟨t, h1, h2⟩ := issorted_ev l hl (l.length - 1) (by omega) (fun a h hia => by omega)
    refine ⟨t, h1, Ev.congr (fun k => ?_) h2⟩
    unfold api_Cell_64.f
    rw [w64 (by omega) (by omega), show ((l.length - 1 : Nat) : Int) = (l.length : Int) - 1 by omega]
/-- The search in a row that rises: at the first cell that doesn't stand ahead. -/
theorem search_ev (l : List Cell) (y : Cell) (hl : l.length ≤ 1000000000) : ∀ (d i j : Nat), j - i ≤ d → i ≤ j → j ≤ l.length → (∀ a (h : a < l.length), a < i → cmp (l[a]) y < 0) → (∀ a (h : a < l.length), j ≤ a → ¬ cmp (l[a]) y < 0) → Sorted l →
    ∃ r : Int × Bool, Ev (fun k => api_Cell_65.l0 k l (l.length : Int) (i : Int) (j : Int) y.f0 y.f1 y.f2) r ∧ (if r.2 = true then r.1 else -1) = place y l 0 := by
  intro d
  induction d with
  | zero =>
    intro i j hd hij hj h1 h2 hs
    have e : j = i := by omega
    subst e
    by_cases hjl : j < l.length
    · have hrd := rd_get l j hjl
      refine ⟨((j : Int), (cmp l[j] y == 0)), Ev.step (fun k => ?_) (Ev.bind (f := fun _ (t : Int) => some ((j : Int), (t == 0))) (cmp_ev l[j] y) (Ev.now _)), ?_⟩
      · simp only [api_Cell_65.l0]
        rw [if_neg (by omega), if_pos (by omega), if_pos (by omega), if_pos (by omega), hrd]
      · by_cases hz : cmp l[j] y = 0
        · have := place_at y l 0 j hjl (fun a ha => by have := h1 a (by omega) ha; omega) hz
          rw [this]
          simp [hz]
        · have : ∀ c ∈ l, cmp c y ≠ 0 := by
            intro c hc
            obtain ⟨a, ha, rfl⟩ := List.getElem_of_mem hc
            by_cases haj : a < j
            · have := h1 a ha haj; omega
            · intro hz2
              obtain ⟨d, rfl⟩ : ∃ d, a = j + d := ⟨a - j, by omega⟩
              have q := sorted_le hs d j ha
              have q2 := h2 j hjl (Nat.le_refl _)
              obtain ⟨z0, z1⟩ := (cmp_zero _ _).1 hz2
              have e1 : cmp y l[j] = cmp (l[j + d]) l[j] := by
                unfold cmp memory_find.cmp
                rw [← toL y.f0, ← toL y.f1, ← z0, ← z1, toL, toL]
              have q3 : ¬ cmp y l[j] < 0 := by rw [e1]; exact q
              apply hz
              unfold cmp memory_find.cmp at q2 q3 ⊢
              have an := cb_anti (l[j]).f0.data.toList y.f0.data.toList
              have an1 := cb_anti (l[j]).f1.data.toList y.f1.data.toList
              have s1 := cb_eq (l[j]).f0.data.toList y.f0.data.toList
              by_cases z : Lib.compareBytes (l[j]).f0.data.toList y.f0.data.toList = 0
              · have s2 := s1 z
                rw [s2] at q3 q2 ⊢
                rw [cb_self, if_pos rfl] at q2 q3 ⊢
                exact an1 q2 q3
              · rw [if_neg z] at q2 ⊢
                have z' : ¬ Lib.compareBytes y.f0.data.toList (l[j]).f0.data.toList = 0 := fun e => z (by rw [cb_eq _ _ e, cb_self])
                rw [if_neg z'] at q3
                exact an q2 q3
          rw [place_none y l 0 this]
          simp [hz]
    · have e : j = l.length := by omega
      refine ⟨((j : Int), false), Ev.step (f := fun _ => some ((j : Int), false)) (fun k => ?_) (Ev.now _), ?_⟩
      · simp only [api_Cell_65.l0]
        rw [if_neg (by omega), if_neg (by omega)]
      · rw [place_none y l 0 (fun c hc => by
          obtain ⟨a, ha, rfl⟩ := List.getElem_of_mem hc
          have := h1 a ha (by omega)
          omega)]
        rfl
  | succ d ih =>
    intro i j hd hij hj h1 h2 hs
    by_cases hlt : i < j
    · have wm : wrap64 ((IntKind.u64.wrap (wrap64 ((i : Int) + (j : Int)))) / 2) = (((i + j) / 2 : Nat) : Int) := by
        rw [w64 (n := (i : Int) + (j : Int)) (by omega) (by omega), show IntKind.u64.wrap ((i : Int) + (j : Int)) = (i : Int) + (j : Int) by unfold IntKind.wrap; simp [IntKind.bits, IntKind.signed]; omega, w64 (by omega) (by omega)]
        omega
      obtain ⟨m, hm⟩ : ∃ m, m = (i + j) / 2 := ⟨_, rfl⟩
      have hm1 : i ≤ m := by omega
      have hm2 : m < j := by omega
      rw [← hm] at wm
      clear hm
      have hrd := rd_get l m (by omega)
      have hstep : ∀ k, api_Cell_65.l0 (k + 1) l (l.length : Int) (i : Int) (j : Int) y.f0 y.f1 y.f2 = (memory_compare.f k (l[m]'(by omega)).f0 (l[m]'(by omega)).f1 (l[m]'(by omega)).f2 y.f0 y.f1 y.f2).bind fun t => if t < 0 then api_Cell_65.l0 k l (l.length : Int) ((m + 1 : Nat) : Int) (j : Int) y.f0 y.f1 y.f2 else api_Cell_65.l0 k l (l.length : Int) (i : Int) (m : Int) y.f0 y.f1 y.f2 := by
        intro k
        simp only [api_Cell_65.l0]
        rw [wm, if_pos (by omega), if_pos (by omega), if_pos (by omega), hrd, show wrap64 ((m : Int) + 1) = ((m + 1 : Nat) : Int) by rw [w64 (by omega) (by omega)]; omega]
      by_cases hc : cmp (l[m]'(by omega)) y < 0
      · obtain ⟨r, e1, e2⟩ := ih (m + 1) j (by omega) (by omega) hj (fun a ha ham => by
          obtain ⟨q, rfl⟩ : ∃ q, m = a + q := ⟨m - a, by omega⟩
          have s := sorted_le hs q a (by omega)
          apply Decidable.byContradiction
          intro hn
          exact (cmp_trans y _ _ hn s) hc) h2 hs
        refine ⟨r, Ev.step hstep (Ev.bind (cmp_ev _ _) ?_), e2⟩
        simp only [if_pos hc]
        exact e1
      · obtain ⟨r, e1, e2⟩ := ih i m (by omega) (by omega) (by omega) h1 (fun a ha ham => by
          obtain ⟨q, rfl⟩ : ∃ q, a = m + q := ⟨a - m, by omega⟩
          exact cmp_trans y _ _ hc (sorted_le hs q m ha)) hs
        refine ⟨r, Ev.step hstep (Ev.bind (cmp_ev _ _) ?_), e2⟩
        simp only [if_neg hc]
        exact e1
    · have e : j = i := by omega
      subst e
      exact ih j j (by omega) (Nat.le_refl _) hj h1 h2 hs
/-- memory.find tells the first place. -/
theorem find_ev (l : List Cell) (m n : ByteArray) (hl : l.length ≤ 1000000000) : Ev (fun k => memory_find.f k l m n) (place ⟨m, n, 0⟩ l 0) := by
  obtain ⟨t, h1, h2⟩ := sorted_ev l hl
  have hu : ∀ k, memory_find.f k l m n = (api_Cell_64.f k l).bind fun t => (if t = true then ((api_Cell_65.f k l m n 0).bind fun b => (if b.2 = true then (some b.1) else (some (-1)))) else (some (memory_find.idx ⟨m, n, 0⟩ l 0))) := by
    intro k
    unfold memory_find.f
    rw [if_pos (by omega)]
  refine Ev.congr hu (Ev.bind h2 ?_)
  cases t with
  | false =>
    refine Ev.congr (fun k => ?_) (Ev.now _)
    rw [if_neg Bool.false_ne_true]
    rfl
  | true =>
    obtain ⟨r, e1, e2⟩ := search_ev l ⟨m, n, 0⟩ hl l.length 0 l.length (by omega) (Nat.zero_le _) (Nat.le_refl _) (fun a h ha => by omega) (fun a h ha => by omega) (h1 rfl)
    refine Ev.congr (f := fun k => (api_Cell_65.f k l m n 0).bind fun b => (if b.2 = true then (some b.1) else (some (-1)))) (fun k => by rw [if_pos rfl]) (Ev.bind (a := r) e1 ?_)
    rw [← e2]
    cases r.2 with
    | true => exact Ev.now _
    | false => exact Ev.now _
/-- The document's place is the same. -/
theorem rplace_ev (l : List Cell) (m n : ByteArray) (hl : l.length ≤ 1000000000) : ∀ (d i : Nat), i + d = l.length → Ev (fun k => aquiferref20_place.l0 k l m n (i : Int)) (place ⟨m, n, 0⟩ (l.drop i) (i : Int)) := by
  intro d
  induction d with
  | zero =>
    intro i hd
    rw [List.drop_eq_nil_of_le (by omega)]
    refine Ev.step (f := fun _ => some (-1)) (fun k => ?_) (Ev.now _)
    simp only [aquiferref20_place.l0]
    rw [if_neg (by omega)]
  | succ d ih =>
    intro i hd
    have hi : i < l.length := by omega
    have e1 := rd_get l i hi
    rw [List.drop_eq_getElem_cons hi]
    have h2 := ih (i + 1) (by omega)
    have hz := cmp_zero l[i] ⟨m, n, 0⟩
    have hw : wrap64 ((i : Int) + 1) = ((i + 1 : Nat) : Int) := by rw [w64 (by omega) (by omega)]; omega
    unfold place memory_find.idx
    by_cases h0 : (l[i]).f0.toList = m.toList
    · by_cases h1 : (l[i]).f1.toList = n.toList
      · rw [if_pos (hz.2 ⟨h0, h1⟩)]
        refine Ev.step (f := fun _ => some (i : Int)) (fun k => ?_) (Ev.now _)
        simp only [aquiferref20_place.l0]
        rw [e1, if_pos (by omega), if_pos (by omega), if_pos h0, if_pos h1]
      · rw [if_neg (fun h => h1 (hz.1 h).2)]
        refine Ev.step (fun k => ?_) h2
        simp only [aquiferref20_place.l0]
        rw [e1, if_pos (by omega), if_pos (by omega), if_pos h0, if_neg h1, hw]
    · rw [if_neg (fun h => h0 (hz.1 h).1)]
      refine Ev.step (fun k => ?_) h2
      simp only [aquiferref20_place.l0]
      rw [e1, if_pos (by omega), if_pos (by omega), if_neg h0, hw]
theorem rplace (l : List Cell) (m n : ByteArray) (hl : l.length ≤ 1000000000) : Ev (fun k => aquiferref20_place.f k l m n) (place ⟨m, n, 0⟩ l 0) := rplace_ev l m n hl l.length 0 (by omega)
theorem place_lt (y : Cell) : ∀ (l : List Cell) (j : Int), 0 ≤ j → place y l j = -1 ∨ (j ≤ place y l j ∧ place y l j < j + l.length)
  | [], _, _ => Or.inl rfl
  | c :: t, j, hj => by
    unfold place memory_find.idx
    split
    · right
      simp only [List.length_cons]
      omega
    · rcases place_lt y t (j + 1) (by omega) with h | h
      · exact Or.inl h
      · right
        unfold place at h
        simp only [List.length_cons]
        omega
/-- What both Gets tell. -/
def got (l : List Cell) (m n : ByteArray) : Int × Bool := if place ⟨m, n, 0⟩ l 0 < 0 then (0, false) else ((rd_T32 l (place ⟨m, n, 0⟩ l 0)).f2, true)
theorem get_ev (l : List Cell) (m n : ByteArray) (hl : l.length ≤ 1000000000) : Ev (fun k => memory_Get.f k l m n) (got l m n) := by
  have hp := place_lt ⟨m, n, 0⟩ l 0 (Int.le_refl _)
  have hu : ∀ k, memory_Get.f k l m n = (memory_find.f k l m n).bind fun t => (if t < 0 then (some ((0 : Int), false)) else (if 0 ≤ t then (if t < (l.length : Int) then (some ((rd_T32 l t).f2, true)) else (none)) else (none))) := fun k => rfl
  refine Ev.congr hu (Ev.bind (find_ev l m n hl) ?_)
  unfold got
  by_cases h : place ⟨m, n, 0⟩ l 0 < 0
  · rw [if_pos h, if_pos h]; exact Ev.now _
  · rw [if_neg h, if_neg h, if_pos (by omega), if_pos (by omega)]; exact Ev.now _
theorem rget_ev (l : List Cell) (m n : ByteArray) (hl : l.length ≤ 1000000000) : Ev (fun k => aquiferref20_Get.f k l m n) (got l m n) := by
  have hp := place_lt ⟨m, n, 0⟩ l 0 (Int.le_refl _)
  have hu : ∀ k, aquiferref20_Get.f k l m n = (aquiferref20_place.f k l m n).bind fun t => (if t < 0 then (some ((0 : Int), false)) else (if 0 ≤ t then (if t < (l.length : Int) then (some ((rd_T32 l t).f2, true)) else (none)) else (none))) := fun k => rfl
  refine Ev.congr hu (Ev.bind (rplace l m n hl) ?_)
  unfold got
  by_cases h : place ⟨m, n, 0⟩ l 0 < 0
  · rw [if_pos h, if_pos h]; exact Ev.now _
  · rw [if_neg h, if_neg h, if_pos (by omega), if_pos (by omega)]; exact Ev.now _
end FindP
namespace ValP
open FindP
abbrev Node := S73
/-- Both names tell the same. -/
theorem last_ev (s mod : ByteArray) (l m : List Cell) (hl : l.length ≤ 1000000000) (hm : m.length ≤ 1000000000) : ∀ k : Nat, k ≤ l.length → Ev (fun q => aquiferref20_name.l0 q s mod l m ((k : Int) - 1)) (match eval_name.last s l k with | some v => v | none => (got m mod s).1) := by
  intro k
  induction k with
  | zero =>
    intro _
    have hu : ∀ q, aquiferref20_name.l0 (q + 1) s mod l m (((0 : Nat) : Int) - 1) = (aquiferref20_Get.f q m mod s).bind fun b => some b.1 := by
      intro q
      simp only [aquiferref20_name.l0]
      rw [if_neg (by omega)]
    exact Ev.step hu (Ev.bind (f := fun _ (b : Int × Bool) => some b.1) (rget_ev m mod s hm) (Ev.now _))
  | succ k ih =>
    intro hk
    have e : ((k + 1 : Nat) : Int) - 1 = (k : Int) := by omega
    have hw : wrap64 ((k : Int) - 1) = (k : Int) - 1 := w64 (by omega) (by omega)
    rw [e]
    simp only [eval_name.last]
    by_cases h : (rd_T32 l (k : Int)).f1.toList = s.toList
    · rw [if_pos h]
      refine Ev.step (f := fun _ => some (rd_T32 l (k : Int)).f2) (fun q => ?_) (Ev.now _)
      simp only [aquiferref20_name.l0]
      rw [if_pos (by omega), if_pos (by omega), if_pos (by omega), if_pos h]
    · rw [if_neg h]
      refine Ev.step (fun q => ?_) (ih (by omega))
      simp only [aquiferref20_name.l0]
      rw [if_pos (by omega), if_pos (by omega), if_pos (by omega), if_neg h, hw]
/-- A name's value. -/
def named (n : Node) (mod : ByteArray) (l m : List Cell) : Int :=
  if n.f2.toList = ([] : List UInt8) then (match eval_name.last n.f3 l l.length with | some v => v | none => (got m mod n.f3).1) else (got m n.f2 n.f3).1
theorem name_ev (n : Node) (mod : ByteArray) (l m : List Cell) (hl : l.length ≤ 1000000000) (hm : m.length ≤ 1000000000) : Ev (fun k => eval_name.f k n.f0 n.f1 n.f2 n.f3 n.f4 n.f5 n.f6 mod l m) (named n mod l m) := by
  unfold named
  by_cases h : n.f2.toList = ([] : List UInt8)
  · rw [if_pos h]
    cases hl2 : eval_name.last n.f3 l l.length with
    | some v =>
      refine Ev.congr (fun k => ?_) (Ev.now _)
      unfold eval_name.f
      rw [if_pos (by omega), if_pos h, hl2]
      rfl
    | none =>
      refine Ev.congr (fun k => ?_) (Ev.bind (f := fun _ (b : Int × Bool) => some b.1) (get_ev m mod n.f3 hm) (Ev.now _))
      unfold eval_name.f
      rw [if_pos (by omega), if_pos h, hl2, if_neg (by simp)]
  · rw [if_neg h]
    refine Ev.congr (fun k => ?_) (Ev.bind (f := fun _ (b : Int × Bool) => some b.1) (get_ev m n.f2 n.f3 hm) (Ev.now _))
    unfold eval_name.f
    rw [if_pos (by omega), if_neg h]
theorem rname_ev (n : Node) (mod : ByteArray) (l m : List Cell) (hl : l.length ≤ 1000000000) (hm : m.length ≤ 1000000000) : Ev (fun k => aquiferref20_name.f k n.f2 n.f3 mod l m) (named n mod l m) := by
  unfold named
  by_cases h : n.f2.toList = ([] : List UInt8)
  · rw [if_pos h]
    refine Ev.congr (fun k => ?_) (last_ev n.f3 mod l m hl hm l.length (Nat.le_refl _))
    unfold aquiferref20_name.f
    rw [if_pos h, w64 (by omega) (by omega)]
  · rw [if_neg h]
    refine Ev.congr (fun k => ?_) (Ev.bind (f := fun _ (b : Int × Bool) => some b.1) (rget_ev m n.f2 n.f3 hm) (Ev.now _))
    unfold aquiferref20_name.f
    rw [if_neg h]
theorem truth_bit (b : Bool) : eval_truth.f b = aquiferref20_bit.f b := rfl
theorem op_same (k a b : Int) : ∃ v, eval_Op.f k a b = some v ∧ aquiferref20_Op.f k a b = some v := by
  have hb : ∀ x : Bool, ∃ v, aquiferref20_bit.f x = some v := fun x => by unfold aquiferref20_bit.f; split <;> exact ⟨_, rfl⟩
  have he : eval_Op.f k a b = aquiferref20_Op.f k a b := by
    unfold eval_Op.f aquiferref20_Op.f
    simp only [truth_bit]
    by_cases h3 : k = 3
    · subst h3; rfl
    by_cases h4 : k = 4
    · subst h4; rfl
    simp only [if_neg h3, if_neg h4]
  have hs : ∃ v, aquiferref20_Op.f k a b = some v := by
    unfold aquiferref20_Op.f
    obtain ⟨v1, e1⟩ := hb (a == 0)
    obtain ⟨v2, e2⟩ := hb (a == b)
    obtain ⟨v3, e3⟩ := hb (decide (a < b))
    obtain ⟨v4, e4⟩ := hb (decide (a ≤ b))
    rw [e1, e2, e3, e4]
    simp only [Option.bind_some]
    repeat' split
    all_goals exact ⟨_, rfl⟩
  obtain ⟨v, hv⟩ := hs
  exact ⟨v, he.trans hv, hv⟩
/-- A node's value, kids ahead. -/
def nodev (vs : List Int) (i : Int) (n : Node) (mod : ByteArray) (l m : List Cell) : Int :=
  if n.f0 = 1 then n.f1 else if n.f0 = 2 then named n mod l m else (eval_Op.f n.f0 (eval_Value.kid vs i n.f4) (eval_Value.kid vs i n.f5)).getD 0
theorem node_ev (vs : List Int) (i : Int) (n : Node) (mod : ByteArray) (l m : List Cell) (hl : l.length ≤ 1000000000) (hm : m.length ≤ 1000000000) : Ev (fun k => eval_Value.node k vs i n mod l m) (nodev vs i n mod l m) := by
  unfold nodev
  by_cases h1 : n.f0 = 1
  · rw [if_pos h1]
    refine Ev.congr (fun k => ?_) (Ev.now _)
    unfold eval_Value.node
    rw [if_pos h1]
  by_cases h2 : n.f0 = 2
  · rw [if_neg h1, if_pos h2]
    refine Ev.congr (fun k => ?_) (name_ev n mod l m hl hm)
    unfold eval_Value.node
    rw [if_neg h1, if_pos h2]
  · rw [if_neg h1, if_neg h2]
    obtain ⟨v, e, _⟩ := op_same n.f0 (eval_Value.kid vs i n.f4) (eval_Value.kid vs i n.f5)
    rw [e]
    refine Ev.congr (fun k => ?_) (Ev.now v)
    unfold eval_Value.node
    rw [if_neg h1, if_neg h2, e]
theorem rd_ext (a b : List Int) (i : Int) (h : a.getD i.toNat 0 = b.getD i.toNat 0) : rd a i = rd b i := h
theorem kid_same (a b : List Int) (i k : Int) (h : ∀ j : Int, 0 ≤ j → j < i → rd a j = rd b j) : eval_Value.kid a i k = eval_Value.kid b i k := by
  unfold eval_Value.kid
  by_cases h0 : k < 0
  · rw [if_pos h0, if_pos h0]
  · by_cases h1 : k ≥ i
    · rw [if_neg h0, if_pos h1, if_neg h0, if_pos h1]
    · rw [if_neg h0, if_neg h1, if_neg h0, if_neg h1, h k (by omega) (by omega)]
theorem nodev_same (a b : List Int) (i : Int) (n : Node) (mod : ByteArray) (l m : List Cell) (h : ∀ j : Int, 0 ≤ j → j < i → rd a j = rd b j) : nodev a i n mod l m = nodev b i n mod l m := by
  unfold nodev
  rw [kid_same a b i n.f4 h, kid_same a b i n.f5 h]
theorem rd_set_eq (a : List Int) (i : Nat) (v : Int) (h : i < a.length) : rd (a.set i v) (i : Int) = v := by
  simp [rd, List.getD_eq_getElem?_getD, h]
theorem rd_set_ne (a : List Int) (i : Nat) (j v : Int) (h0 : 0 ≤ j) (h : j ≠ (i : Int)) : rd (a.set i v) j = rd a j := by
  have : i ≠ j.toNat := by omega
  simp [rd, List.getD_eq_getElem?_getD, this]
/-- The reference's round: from its head to the next one. -/
theorem rround_ev (ns : List Node) (at_ : Int) (mod : ByteArray) (l m : List Cell) (vs : List Int) (i : Nat) (hn : ns.length ≤ 1000000000) (hl : l.length ≤ 1000000000) (hm : m.length ≤ 1000000000) (hi : (i : Int) ≤ at_) (hi2 : i < ns.length) (hv : vs.length = ns.length) (r : Int)
    (h : Ev (fun k => aquiferref20_Value.l0 k ns at_ mod l m (vs.set i (nodev vs (i : Int) (rd_T73 ns (i : Int)) mod l m)) ((i + 1 : Nat) : Int)) r) : Ev (fun k => aquiferref20_Value.l0 k ns at_ mod l m vs (i : Int)) r := by
  obtain ⟨n, hnn⟩ : ∃ n, rd_T73 ns (i : Int) = n := ⟨_, rfl⟩
  rw [hnn] at h
  have hw : wrap64 ((i : Int) + 1) = ((i + 1 : Nat) : Int) := by rw [w64 (by omega) (by omega)]; omega
  have hl2 : (i : Int) < (vs.length : Int) := by omega
  -- the last part: all but the kids
  have h5 : Ev (fun k => aquiferref20_Value.j5 k ns at_ mod l m vs (i : Int) (eval_Value.kid vs (i : Int) n.f4) (eval_Value.kid vs (i : Int) n.f5) n.f0 n.f1 n.f2 n.f3 n.f4 n.f5 n.f6) r := by
    unfold nodev at h
    by_cases h1 : n.f0 = 1
    · rw [if_pos h1] at h
      refine Ev.step (fun k => ?_) h
      simp only [aquiferref20_Value.j5]
      rw [if_pos h1, if_pos (by omega), if_pos hl2, hw]
      rfl
    by_cases h2 : n.f0 = 2
    · rw [if_neg h1, if_pos h2] at h
      refine Ev.step (f := fun k => (aquiferref20_name.f k n.f2 n.f3 mod l m).bind fun t => (if 0 ≤ (i : Int) then (if (i : Int) < (vs.length : Int) then (aquiferref20_Value.l0 k ns at_ mod l m (vs.set ((i : Int) : Int).toNat t) (wrap64 ((i : Int) + 1))) else (none)) else (none))) (fun k => ?_) (Ev.bind (rname_ev n mod l m hl hm) ?_)
      · simp only [aquiferref20_Value.j5]
        rw [if_neg h1, if_pos h2]
      · refine Ev.congr (fun k => ?_) h
        rw [if_pos (by omega), if_pos hl2, hw]
        rfl
    · rw [if_neg h1, if_neg h2] at h
      obtain ⟨v, e1, e2⟩ := op_same n.f0 (eval_Value.kid vs (i : Int) n.f4) (eval_Value.kid vs (i : Int) n.f5)
      rw [e1] at h
      refine Ev.step (fun k => ?_) h
      simp only [aquiferref20_Value.j5]
      rw [if_neg h1, if_neg h2, e2, Option.bind_some, if_pos (by omega), if_pos hl2, hw]
      rfl
  have h4 : Ev (fun k => aquiferref20_Value.j4 k ns at_ mod l m vs (i : Int) (eval_Value.kid vs (i : Int) n.f4) 0 (decide (0 ≤ n.f5 ∧ n.f5 < (i : Int))) n.f0 n.f1 n.f2 n.f3 n.f4 n.f5 n.f6) r := by
    refine Ev.step (fun k => ?_) h5
    simp only [aquiferref20_Value.j4]
    by_cases hk : 0 ≤ n.f5 ∧ n.f5 < (i : Int)
    · rw [decide_eq_true hk, if_pos rfl, if_pos hk.1, if_pos (by omega)]
      rw [show eval_Value.kid vs (i : Int) n.f5 = rd vs n.f5 by unfold eval_Value.kid; rw [if_neg (by omega), if_neg (by omega)]]
    · rw [decide_eq_false hk, if_neg Bool.false_ne_true]
      rw [show eval_Value.kid vs (i : Int) n.f5 = 0 by
        unfold eval_Value.kid
        by_cases z : n.f5 < 0
        · rw [if_pos z]
        · rw [if_neg z, if_pos (by omega)]]
  have h3 : Ev (fun k => aquiferref20_Value.j3 k ns at_ mod l m vs (i : Int) (eval_Value.kid vs (i : Int) n.f4) 0 n.f0 n.f1 n.f2 n.f3 n.f4 n.f5 n.f6) r := by
    refine Ev.step (fun k => ?_) h4
    simp only [aquiferref20_Value.j3]
    by_cases z : n.f5 ≥ 0
    · rw [if_pos z, show decide (0 ≤ n.f5 ∧ n.f5 < (i : Int)) = decide (n.f5 < (i : Int)) by simp [show (0 : Int) ≤ n.f5 from z]]
    · rw [if_neg z, decide_eq_false (fun q => z q.1)]
  have h2 : Ev (fun k => aquiferref20_Value.j2 k ns at_ mod l m vs (i : Int) 0 0 (decide (0 ≤ n.f4 ∧ n.f4 < (i : Int))) n.f0 n.f1 n.f2 n.f3 n.f4 n.f5 n.f6) r := by
    refine Ev.step (fun k => ?_) h3
    simp only [aquiferref20_Value.j2]
    by_cases hk : 0 ≤ n.f4 ∧ n.f4 < (i : Int)
    · rw [decide_eq_true hk, if_pos rfl, if_pos hk.1, if_pos (by omega)]
      rw [show eval_Value.kid vs (i : Int) n.f4 = rd vs n.f4 by unfold eval_Value.kid; rw [if_neg (by omega), if_neg (by omega)]]
    · rw [decide_eq_false hk, if_neg Bool.false_ne_true]
      rw [show eval_Value.kid vs (i : Int) n.f4 = 0 by
        unfold eval_Value.kid
        by_cases z : n.f4 < 0
        · rw [if_pos z]
        · rw [if_neg z, if_pos (by omega)]]
  refine Ev.step (fun k => ?_) h2
  simp only [aquiferref20_Value.l0]
  rw [hnn, if_pos hi, if_pos (by omega), if_pos (by omega)]
  by_cases z : n.f4 ≥ 0
  · rw [if_pos z, show decide (0 ≤ n.f4 ∧ n.f4 < (i : Int)) = decide (n.f4 < (i : Int)) by simp [show (0 : Int) ≤ n.f4 from z]]
  · rw [if_neg z, decide_eq_false (fun q => z q.1)]
/-- Both loops, side by side. -/
theorem loops_ev (ns : List Node) (at_ : Nat) (mod : ByteArray) (l m : List Cell) (hn : ns.length ≤ 1000000000) (hl : l.length ≤ 1000000000) (hm : m.length ≤ 1000000000) (hat : at_ < ns.length) : ∀ (d i : Nat) (a b : List Int), i + d = at_ + 1 → a.length = at_ + 1 → b.length = ns.length → (∀ j : Int, 0 ≤ j → j < (i : Int) → rd a j = rd b j) →
    ∃ r, Ev (fun k => eval_Value.l0 k ns (at_ : Int) mod l m a (i : Int)) r ∧ Ev (fun k => aquiferref20_Value.l0 k ns (at_ : Int) mod l m b (i : Int)) r := by
  intro d
  induction d with
  | zero =>
    intro i a b hd ha hb hab
    refine ⟨rd a (at_ : Int), Ev.step (f := fun _ => some (rd a (at_ : Int))) (fun k => ?_) (Ev.now _), Ev.step (f := fun _ => some (rd a (at_ : Int))) (fun k => ?_) (Ev.now _)⟩
    · simp only [eval_Value.l0]
      rw [if_neg (by omega)]
    · simp only [aquiferref20_Value.l0]
      rw [if_neg (by omega), if_pos (by omega), if_pos (by omega), hab (at_ : Int) (by omega) (by omega)]
  | succ d ih =>
    intro i a b hd ha hb hab
    have hnode := nodev_same a b (i : Int) (rd_T73 ns (i : Int)) mod l m hab
    obtain ⟨r, h1, h2⟩ := ih (i + 1) (a.set i (nodev a (i : Int) (rd_T73 ns (i : Int)) mod l m)) (b.set i (nodev b (i : Int) (rd_T73 ns (i : Int)) mod l m)) (by omega) (by rw [List.length_set]; exact ha) (by rw [List.length_set]; exact hb) (fun j h0 hj => by
      by_cases e : j = (i : Int)
      · rw [e, rd_set_eq a i _ (by omega), rd_set_eq b i _ (by omega), hnode]
      · rw [rd_set_ne a i j _ h0 e, rd_set_ne b i j _ h0 e, hab j h0 (by omega)])
    refine ⟨r, ?_, rround_ev ns at_ mod l m b i hn hl hm (by omega) (by omega) hb r h2⟩
    refine Ev.step (f := fun k => (eval_Value.node k a (i : Int) (rd_T73 ns (i : Int)) mod l m).bind fun v => (eval_Value.l0 k ns (at_ : Int) mod l m (a.set ((i : Int)).toNat v) ((i : Int) + 1))) (fun k => ?_) (Ev.bind (node_ev a (i : Int) _ mod l m hl hm) ?_)
    · simp only [eval_Value.l0]
      rw [if_pos (by omega)]
    · exact h1
/-- **Both values are one.** -/
theorem value_ev (ns : List Node) (a1 : Int) (mod : ByteArray) (l m : List Cell) (hn : ns.length ≤ 1000000000) (hl : l.length ≤ 1000000000) (hm : m.length ≤ 1000000000) : ∃ r, Ev (fun k => eval_Value.f k ns a1 mod l m) r ∧ Ev (fun k => aquiferref20_Value.f k ns a1 mod l m) r := by
  have hj : Ev (fun k => aquiferref20_Value.j0 k ns a1 mod l m true) (0 : Int) := by
    refine Ev.step (f := fun _ => some 0) (fun k => ?_) (Ev.now _)
    simp only [aquiferref20_Value.j0]
    rw [if_pos trivial]
  by_cases h0 : a1 < 0
  · refine ⟨0, Ev.congr (fun k => ?_) (Ev.now _), Ev.congr (fun k => ?_) hj⟩
    · unfold eval_Value.f
      rw [if_pos h0]
    · unfold aquiferref20_Value.f
      rw [if_pos h0]
  by_cases h1 : a1 ≥ (ns.length : Int)
  · refine ⟨0, Ev.congr (fun k => ?_) (Ev.now _), Ev.congr (fun k => ?_) hj⟩
    · unfold eval_Value.f
      rw [if_neg h0, if_pos h1]
    · unfold aquiferref20_Value.f
      rw [if_neg h0, decide_eq_true h1]
  · obtain ⟨at_, rfl⟩ : ∃ at_ : Nat, a1 = (at_ : Int) := ⟨a1.toNat, by omega⟩
    obtain ⟨r, e1, e2⟩ := loops_ev ns at_ mod l m hn hl hm (by omega) (at_ + 1) 0 (List.replicate (at_ + 1) 0) (List.replicate ns.length 0) (by omega) (by rw [List.length_replicate]) (by rw [List.length_replicate]) (fun j h0 hj => by omega)
    refine ⟨r, Ev.congr (fun k => ?_) e1, Ev.congr (f := fun k => aquiferref20_Value.j0 k ns (at_ : Int) mod l m false) (fun k => ?_) (Ev.step (fun k => ?_) e2)⟩
    · unfold eval_Value.f
      rw [if_neg h0, if_neg h1, if_pos (by omega), show ((at_ : Int) + 1).toNat = at_ + 1 by omega]
      rfl
    · unfold aquiferref20_Value.f
      rw [if_neg h0, decide_eq_false h1]
    · simp only [aquiferref20_Value.j0]
      rw [if_neg Bool.false_ne_true, if_pos (by omega), if_pos (by omega), Int.toNat_natCast]
      rfl
end ValP
open FindP ValP in
theorem EvalNodes : aquiferlaw21_EvalNodes.Pure := by
  intro l0 a1 a2 l3 l4 h0 h1 h2 h3 h4
  have haw : aquiferlaw21_awake.f = some true := by decide +kernel
  have hawE : Ev (fun _ => aquiferlaw21_awake.f.bind fun t => some t) true := by rw [haw]; exact Ev.now _
  have jt : Ev (fun k => aquiferlaw21_EvalNodes.j0 k l0 a1 a2 l3 l4 true) true := by
    refine Ev.step (fun k => ?_) hawE
    simp only [aquiferlaw21_EvalNodes.j0]
    rw [if_pos trivial]
  have key : Ev (fun k => aquiferlaw21_EvalNodes.f k l0 a1 a2 l3 l4) true := by
    by_cases hb : (l0.length : Int) > 100
    · refine Ev.congr (fun k => ?_) jt
      unfold aquiferlaw21_EvalNodes.f
      rw [if_pos hb]
    · by_cases h60 : (l3.length : Int) > 60
      · refine Ev.congr (fun k => ?_) jt
        unfold aquiferlaw21_EvalNodes.f aquiferlaw21_great.f
        rw [if_neg hb, if_pos h60, Option.bind_some]
      · by_cases h61 : (l4.length : Int) > 60
        · refine Ev.congr (fun k => ?_) jt
          unfold aquiferlaw21_EvalNodes.f aquiferlaw21_great.f
          rw [if_neg hb, if_neg h60, Option.bind_some, decide_eq_true h61]
        · obtain ⟨r, e1, e2⟩ := value_ev l0 a1 a2 l3 l4 (by omega) (by omega) (by omega)
          refine Ev.congr (f := fun k => aquiferlaw21_EvalNodes.j0 k l0 a1 a2 l3 l4 false) (fun k => ?_) (Ev.step (f := fun k => (eval_Value.f k l0 a1 a2 l3 l4).bind fun t155 => ((aquiferref20_Value.f k l0 a1 a2 l3 l4).bind fun t156 => (if t155 = t156 then ((aquiferlaw21_awake.f).bind fun t157 => (some t157)) else (some false)))) (fun k => ?_) (Ev.bind e1 (Ev.bind e2 ?_)))
          · unfold aquiferlaw21_EvalNodes.f aquiferlaw21_great.f
            rw [if_neg hb, if_neg h60, Option.bind_some, decide_eq_false h61]
          · simp only [aquiferlaw21_EvalNodes.j0]
            rw [if_neg Bool.false_ne_true]
          · refine Ev.congr (fun k => ?_) hawE
            rw [if_pos rfl]
  exact key.rounds
end Go.Proofs.Ytkhalpeiifdfiaa.Pure
