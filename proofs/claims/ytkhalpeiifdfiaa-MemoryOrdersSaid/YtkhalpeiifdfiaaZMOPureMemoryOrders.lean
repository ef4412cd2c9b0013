/- The statement MemoryOrders over lists and numbers: of two names, whichever is set first. No further condition. -/
import Derived.Test.YtkhalpeiifdfiaaZMOQMemoryOrdersx11
namespace Go.Proofs.Ytkhalpeiifdfiaa.Pure
open Go.RowKit Go.Proofs.Ytkhalpeiifdfiaa.QMemoryOrders Go.Proofs.YtkhalpeiifdfiaaW.PrintWords Go.Proofs.YtkhalpeiifdfiaaW.PrintLast
namespace FindP
theorem w64 {n : Int} (h0 : -4503599627370496 ≤ n) (h1 : n ≤ 4503599627370496) : wrap64 n = n := by unfold wrap64; omega
theorem toL (s : ByteArray) : s.toList = s.data.toList := Lib.toList_data s
theorem cb_self : ∀ a : List UInt8, Lib.compareBytes a a = 0
  | [] => rfl
  | x :: t => by
    unfold Lib.compareBytes
    rw [if_neg (by simp), if_neg (by simp)]
    exact cb_self t
theorem cb_eq : ∀ a b : List UInt8, Lib.compareBytes a b = 0 → a = b
  | [], [], _ => rfl
  | [], _ :: _, h => by simp [Lib.compareBytes] at h
  | _ :: _, [], h => by simp [Lib.compareBytes] at h
  | x :: s, y :: t, h => by
    unfold Lib.compareBytes at h
    split at h
    · cases h
    · split at h
      · cases h
      · rename_i h1 h2
        have : x = y := by
          rw [UInt8.lt_iff_toNat_lt] at h1 h2
          exact UInt8.toNat_inj.1 (by omega)
        rw [this, cb_eq s t h]
theorem cb_trans : ∀ a b c : List UInt8, ¬ Lib.compareBytes b a < 0 → ¬ Lib.compareBytes c b < 0 → ¬ Lib.compareBytes c a < 0
  | [], _, [], _, _ => by simp [Lib.compareBytes]
  | [], _, _ :: _, _, _ => by simp [Lib.compareBytes]
  | _ :: _, [], _, h, _ => by simp [Lib.compareBytes] at h
  | _ :: _, _ :: _, [], _, h => by simp [Lib.compareBytes] at h
  | x :: s, y :: t, z :: u, h1, h2 => by
    have ih := cb_trans s t u
    simp only [Lib.compareBytes, UInt8.lt_iff_toNat_lt] at h1 h2 ⊢
    split at h1
    · omega
    · split at h2
      · omega
      · rename_i a1 a2
        rw [if_neg (by omega)]
        by_cases e : x.toNat < z.toNat
        · rw [if_pos e]; decide
        · rw [if_neg e]
          rw [if_neg (by omega)] at h1 h2
          exact ih h1 h2
theorem cb_anti : ∀ a b : List UInt8, ¬ Lib.compareBytes a b < 0 → ¬ Lib.compareBytes b a < 0 → Lib.compareBytes a b = 0
  | [], [], _, _ => rfl
  | [], _ :: _, h, _ => by simp [Lib.compareBytes] at h
  | _ :: _, [], _, h => by simp [Lib.compareBytes] at h
  | x :: s, y :: t, h1, h2 => by
    have ih := cb_anti s t
    simp only [Lib.compareBytes, UInt8.lt_iff_toNat_lt] at h1 h2 ⊢
    split at h1
    · omega
    · split at h2
      · omega
      · rename_i a1 a2
        rw [if_neg a1, if_neg a2]
        rw [if_neg a2] at h1
        exact ih h1 h2
abbrev Cell := S32
abbrev cmp (x y : Cell) : Int := memory_find.cmp x y
theorem cmp_zero (x y : Cell) : cmp x y = 0 ↔ x.f0.toList = y.f0.toList ∧ x.f1.toList = y.f1.toList := by
  unfold cmp memory_find.cmp
  rw [toL, toL, toL, toL]
  constructor
  · intro h
    split at h
    · rename_i h0
      exact ⟨cb_eq _ _ h0, cb_eq _ _ h⟩
    · rename_i h0
      exact absurd h h0
  · rintro ⟨h0, h1⟩
    rw [h0, h1, cb_self, if_pos rfl, cb_self]
theorem cmp_trans (a b c : Cell) (h1 : ¬ cmp b a < 0) (h2 : ¬ cmp c b < 0) : ¬ cmp c a < 0 := by
  unfold cmp memory_find.cmp at h1 h2 ⊢
  have t0 := cb_trans a.f0.data.toList b.f0.data.toList c.f0.data.toList
  have t1 := cb_trans a.f1.data.toList b.f1.data.toList c.f1.data.toList
  have e1 := cb_eq b.f0.data.toList a.f0.data.toList
  have e2 := cb_eq c.f0.data.toList b.f0.data.toList
  have e3 := cb_eq c.f0.data.toList a.f0.data.toList
  have an := cb_anti b.f0.data.toList a.f0.data.toList
  by_cases z1 : Lib.compareBytes b.f0.data.toList a.f0.data.toList = 0
  · rw [if_pos z1] at h1
    have q1 := e1 z1
    rw [q1] at h2
    by_cases z2 : Lib.compareBytes c.f0.data.toList a.f0.data.toList = 0
    · rw [if_pos z2] at h2 ⊢
      exact t1 h1 h2
    · rw [if_neg z2] at h2 ⊢
      exact h2
  · rw [if_neg z1] at h1
    by_cases z2 : Lib.compareBytes c.f0.data.toList b.f0.data.toList = 0
    · rw [if_pos z2] at h2
      rw [e2 z2, if_neg z1]
      exact h1
    · rw [if_neg z2] at h2
      have t := t0 h1 h2
      by_cases z3 : Lib.compareBytes c.f0.data.toList a.f0.data.toList = 0
      · have q3 := e3 z3
        rw [q3] at h2
        exact absurd (an h1 h2) z1
      · rw [if_neg z3]
        exact t
def place (y : Cell) : List Cell → Int → Int := memory_find.idx y
theorem place_none (y : Cell) : ∀ (l : List Cell) (j : Int), (∀ c ∈ l, cmp c y ≠ 0) → place y l j = -1
  | [], _, _ => rfl
  | c :: t, j, h => by
    unfold place memory_find.idx
    rw [if_neg (h c (by simp))]
    exact place_none y t (j + 1) (fun c hc => h c (by simp [hc]))
theorem place_at (y : Cell) : ∀ (l : List Cell) (j : Int) (i : Nat) (hi : i < l.length), (∀ a (ha : a < i), cmp (l[a]'(by omega)) y ≠ 0) → cmp l[i] y = 0 → place y l j = j + i
  | c :: t, j, 0, _, _, h => by
    unfold place memory_find.idx
    rw [if_pos (show memory_find.cmp c y = 0 from h)]
    simp
  | c :: t, j, i + 1, hi, ha, h => by
    unfold place memory_find.idx
    rw [if_neg (show ¬ memory_find.cmp c y = 0 from ha 0 (by omega))]
    have := place_at y t (j + 1) i (by simpa using hi) (fun a h2 => by simpa using ha (a + 1) (by omega)) (by simpa using h)
    unfold place at this
    rw [this]
    omega
theorem rd_get (l : List Cell) (i : Nat) (h : i < l.length) : rd_T32 l (i : Int) = l[i] := by
  simp [rd_T32, List.getD_eq_getElem?_getD, h]
def Sorted (l : List Cell) : Prop := ∀ i (h : i + 1 < l.length), ¬ cmp (l[i + 1]) (l[i]'(by omega)) < 0
theorem sorted_le {l : List Cell} (hs : Sorted l) : ∀ (d i : Nat) (h : i + d < l.length), ¬ cmp (l[i + d]) (l[i]'(by omega)) < 0 := by
  intro d
  induction d with
  | zero =>
    intro i h
    have : cmp (l[i]'(by omega)) (l[i]'(by omega)) = 0 := (cmp_zero _ _).2 ⟨rfl, rfl⟩
    simp only [Nat.add_zero]
    omega
  | succ d ih =>
    intro i h
    exact cmp_trans _ _ _ (ih i (by omega)) (hs (i + d) (by omega))
theorem cmp_ev (x y : Cell) : Ev (fun k => memory_compare.f k x.f0 x.f1 x.f2 y.f0 y.f1 y.f2) (cmp x y) := Ev.of (fun k => memory_compare.mono _ _ _ _ _ _ k) (memory_find.cmp_f x y 0)
theorem issorted_ev (l : List Cell) (hl : l.length ≤ 1000000000) : ∀ i : Nat, i < l.length → (∀ a (h : a + 1 < l.length), i ≤ a → ¬ cmp (l[a + 1]) (l[a]'(by omega)) < 0) → ∃ t : Bool, (t = true → Sorted l) ∧ Ev (fun k => api_Cell_64.l0 k l (i : Int)) t := by
  intro i
  induction i with
  | zero =>
    intro hi h
    refine ⟨true, fun _ a ha => h a ha (Nat.zero_le _), Ev.step (f := fun _ => some true) (fun k => ?_) (Ev.now _)⟩
    simp only [api_Cell_64.l0]
    rw [if_neg (by omega)]
  | succ i ih =>
    intro hi h
    have w1 : wrap64 (((i + 1 : Nat) : Int) - 1) = (i : Int) := by rw [w64 (by omega) (by omega)]; omega
    have e1 := rd_get l (i + 1) hi
    have e2 := rd_get l i (by omega)
    have hstep : ∀ k, api_Cell_64.l0 (k + 1) l ((i + 1 : Nat) : Int) = (memory_compare.f k (l[i + 1]).f0 (l[i + 1]).f1 (l[i + 1]).f2 (l[i]'(by omega)).f0 (l[i]'(by omega)).f1 (l[i]'(by omega)).f2).bind fun t => if t < 0 then some false else api_Cell_64.l0 k l (i : Int) := by
      intro k
      simp only [api_Cell_64.l0]
      rw [w1, e1, e2, if_pos (by omega), if_pos (by omega), if_pos (by omega), if_pos (by omega), if_pos (by omega)]
    by_cases hc : cmp (l[i + 1]) (l[i]'(by omega)) < 0
    · refine ⟨false, fun h => (by cases h), Ev.step hstep (Ev.bind (cmp_ev _ _) ?_)⟩
      simp only [if_pos hc]
      exact Ev.now _
    · obtain ⟨t, h1, h2⟩ := ih (by omega) (fun a ha hia => by
        by_cases e : a = i
        · subst e; exact hc
        · exact h a ha (by omega))
      refine ⟨t, h1, Ev.step hstep (Ev.bind (cmp_ev _ _) ?_)⟩
      simp only [if_neg hc]
      exact h2
theorem sorted_ev (l : List Cell) (hl : l.length ≤ 1000000000) : ∃ t : Bool, (t = true → Sorted l) ∧ Ev (fun k => api_Cell_64.f k l) t := by
  by_cases h0 : l.length = 0
  · refine ⟨true, fun _ i h => by omega, ?_⟩
    refine Ev.step (f := fun _ => some true) (g := fun k => api_Cell_64.f k l) (fun k => ?_) (Ev.now _)
    unfold api_Cell_64.f
    rw [w64 (by omega) (by omega)]
    simp only [api_Cell_64.l0]
    rw [if_neg (by omega)]
  · obtain ⟨t, h1, h2⟩ := issorted_ev l hl (l.length - 1) (by omega) (fun a h hia => by omega)
    refine ⟨t, h1, Ev.congr (fun k => ?_) h2⟩
    unfold api_Cell_64.f
    rw [w64 (by omega) (by omega), show ((l.length - 1 : Nat) : Int) = (l.length : Int) - 1 by omega]
theorem search_ev (l : List Cell) (y : Cell) (hl : l.length ≤ 1000000000) : ∀ (d i j : Nat), j - i ≤ d → i ≤ j → j ≤ l.length → (∀ a (h : a < l.length), a < i → cmp (l[a]) y < 0) → (∀ a (h : a < l.length), j ≤ a → ¬ cmp (l[a]) y < 0) → Sorted l →
    ∃ r : Int × Bool, Ev (fun k => api_Cell_65.l0 k l (l.length : Int) (i : Int) (j : Int) y.f0 y.f1 y.f2) r ∧ (if r.2 = true then r.1 else -1) = place y l 0 := by
  intro d
  induction d with
  | zero =>
    intro i j hd hij hj h1 h2 hs
    have e : j = i := by omega
    subst e
    by_cases hjl : j < l.length
    · have hrd := rd_get l j hjl
      refine ⟨((j : Int), (cmp l[j] y == 0)), Ev.step (fun k => ?_) (Ev.bind (f := fun _ (t : Int) => some ((j : Int), (t == 0))) (cmp_ev l[j] y) (Ev.now _)), ?_⟩
      · simp only [api_Cell_65.l0]
        rw [if_neg (by omega), if_pos (by omega), if_pos (by omega), if_pos (by omega), hrd]
      · by_cases hz : cmp l[j] y = 0
        · have := place_at y l 0 j hjl (fun a ha => by have := h1 a (by omega) ha; omega) hz
          rw [this]
          simp [hz]
        · have : ∀ c ∈ l, cmp c y ≠ 0 := by
            intro c hc
            obtain ⟨a, ha, rfl⟩ := List.getElem_of_mem hc
            by_cases haj : a < j
            · have := h1 a ha haj; omega
            · intro hz2
              obtain ⟨d, rfl⟩ : ∃ d, a = j + d := ⟨a - j, by omega⟩
              have q := sorted_le hs d j ha
              have q2 := h2 j hjl (Nat.le_refl _)
              obtain ⟨z0, z1⟩ := (cmp_zero _ _).1 hz2
              have e1 : cmp y l[j] = cmp (l[j + d]) l[j] := by
                unfold cmp memory_find.cmp
                rw [← toL y.f0, ← toL y.f1, ← z0, ← z1, toL, toL]
              have q3 : ¬ cmp y l[j] < 0 := by rw [e1]; exact q
              apply hz
              unfold cmp memory_find.cmp at q2 q3 ⊢
              have an := cb_anti (l[j]).f0.data.toList y.f0.data.toList
              have an1 := cb_anti (l[j]).f1.data.toList y.f1.data.toList
              have s1 := cb_eq (l[j]).f0.data.toList y.f0.data.toList
              by_cases z : Lib.compareBytes (l[j]).f0.data.toList y.f0.data.toList = 0
              · have s2 := s1 z
                rw [s2] at q3 q2 ⊢
                rw [cb_self, if_pos rfl] at q2 q3 ⊢
                exact an1 q2 q3
              · rw [if_neg z] at q2 ⊢
                have z' : ¬ Lib.compareBytes y.f0.data.toList (l[j]).f0.data.toList = 0 := fun e => z (by rw [cb_eq _ _ e, cb_self])
                rw [if_neg z'] at q3
                exact an q2 q3
          rw [place_none y l 0 this]
          simp [hz]
    · have e : j = l.length := by omega
      refine ⟨((j : Int), false), Ev.step (f := fun _ => some ((j : Int), false)) (fun k => ?_) (Ev.now _), ?_⟩
      · simp only [api_Cell_65.l0]
        rw [if_neg (by omega), if_neg (by omega)]
      · rw [place_none y l 0 (fun c hc => by
          obtain ⟨a, ha, rfl⟩ := List.getElem_of_mem hc
          have := h1 a ha (by omega)
          omega)]
        rfl
  | succ d ih =>
    intro i j hd hij hj h1 h2 hs
    by_cases hlt : i < j
    · have wm : wrap64 ((IntKind.u64.wrap (wrap64 ((i : Int) + (j : Int)))) / 2) = (((i + j) / 2 : Nat) : Int) := by
        rw [w64 (n := (i : Int) + (j : Int)) (by omega) (by omega), show IntKind.u64.wrap ((i : Int) + (j : Int)) = (i : Int) + (j : Int) by unfold IntKind.wrap; simp [IntKind.bits, IntKind.signed]; omega, w64 (by omega) (by omega)]
        omega
      obtain ⟨m, hm⟩ : ∃ m, m = (i + j) / 2 := ⟨_, rfl⟩
      have hm1 : i ≤ m := by omega
      have hm2 : m < j := by omega
      rw [← hm] at wm
      clear hm
      have hrd := rd_get l m (by omega)
      have hstep : ∀ k, api_Cell_65.l0 (k + 1) l (l.length : Int) (i : Int) (j : Int) y.f0 y.f1 y.f2 = (memory_compare.f k (l[m]'(by omega)).f0 (l[m]'(by omega)).f1 (l[m]'(by omega)).f2 y.f0 y.f1 y.f2).bind fun t => if t < 0 then api_Cell_65.l0 k l (l.length : Int) ((m + 1 : Nat) : Int) (j : Int) y.f0 y.f1 y.f2 else api_Cell_65.l0 k l (l.length : Int) (i : Int) (m : Int) y.f0 y.f1 y.f2 := by
        intro k
        simp only [api_Cell_65.l0]
        rw [wm, if_pos (by omega), if_pos (by omega), if_pos (by omega), hrd, show wrap64 ((m : Int) + 1) = ((m + 1 : Nat) : Int) by rw [w64 (by omega) (by omega)]; omega]
      by_cases hc : cmp (l[m]'(by omega)) y < 0
      · obtain ⟨r, e1, e2⟩ := ih (m + 1) j (by omega) (by omega) hj (fun a ha ham => by
          obtain ⟨q, rfl⟩ : ∃ q, m = a + q := ⟨m - a, by omega⟩
          have s := sorted_le hs q a (by omega)
          apply Decidable.byContradiction
          intro hn
          exact (cmp_trans y _ _ hn s) hc) h2 hs
        refine ⟨r, Ev.step hstep (Ev.bind (cmp_ev _ _) ?_), e2⟩
        simp only [if_pos hc]
        exact e1
      · obtain ⟨r, e1, e2⟩ := ih i m (by omega) (by omega) (by omega) h1 (fun a ha ham => by
          obtain ⟨q, rfl⟩ : ∃ q, a = m + q := ⟨a - m, by omega⟩
          exact cmp_trans y _ _ hc (sorted_le hs q m ha)) hs
        refine ⟨r, Ev.step hstep (Ev.bind (cmp_ev _ _) ?_), e2⟩
        simp only [if_neg hc]
        exact e1
    · have e : j = i := by omega
      subst e
      exact ih j j (by omega) (Nat.le_refl _) hj h1 h2 hs
theorem find_ev (l : List Cell) (m n : ByteArray) (hl : l.length ≤ 1000000000) : Ev (fun k => memory_find.f k l m n) (place ⟨m, n, 0⟩ l 0) := by
  obtain ⟨t, h1, h2⟩ := sorted_ev l hl
  have hu : ∀ k, memory_find.f k l m n = (api_Cell_64.f k l).bind fun t => (if t = true then ((api_Cell_65.f k l m n 0).bind fun b => (if b.2 = true then (some b.1) else (some (-1)))) else (some (memory_find.idx ⟨m, n, 0⟩ l 0))) := by
    intro k
    unfold memory_find.f
    rw [if_pos (by omega)]
  refine Ev.congr hu (Ev.bind h2 ?_)
  cases t with
  | false =>
    refine Ev.congr (fun k => ?_) (Ev.now _)
    rw [if_neg Bool.false_ne_true]
    rfl
  | true =>
    obtain ⟨r, e1, e2⟩ := search_ev l ⟨m, n, 0⟩ hl l.length 0 l.length (by omega) (Nat.zero_le _) (Nat.le_refl _) (fun a h ha => by omega) (fun a h ha => by omega) (h1 rfl)
    refine Ev.congr (f := fun k => (api_Cell_65.f k l m n 0).bind fun b => (if b.2 = true then (some b.1) else (some (-1)))) (fun k => by rw [if_pos rfl]) (Ev.bind (a := r) e1 ?_)
    rw [← e2]
    cases r.2 with
    | true => exact Ev.now _
    | false => exact Ev.now _
end FindP
namespace SetP
open FindP
theorem wf_u8 {x : Int} (h : (Lit.int .u8 x).wf = true) : 0 ≤ x ∧ x < 256 := by
  simp [Lit.wf, IntKind.min, IntKind.max, IntKind.bits, IntKind.signed] at h; omega
theorem awake_ev : Ev (fun k => aquiferlaw20_awake.f k) true := Ev.of (fun k => aquiferlaw20_awake.mono k) (show aquiferlaw20_awake.f 300 = some true by kernel_rfl)
theorem awaket : Ev (fun k => (aquiferlaw20_awake.f k).bind fun t => some t) true := Ev.bind (f := fun _ t => some t) awake_ev (Ev.now _)
theorem great_loop (l : List Cell) : ∀ d i : Nat, i + d = 200 → ∃ b, Ev (fun k => aquiferlaw20_great.l0 k l (i : Int)) b ∧ (b = false → l.length ≤ 150) := by
  intro d
  have hE : ∀ i : Int, Ev (fun k => aquiferlaw20_great.j1 k l i false) (decide ((l.length : Int) > 150)) := by
    intro i
    refine Ev.step (f := fun _ => some (decide ((l.length : Int) > 150))) (fun k => ?_) (Ev.now _)
    simp only [aquiferlaw20_great.j1]
    rw [if_neg Bool.false_ne_true]
  have hF : decide ((l.length : Int) > 150) = false → l.length ≤ 150 := by
    intro h
    have := of_decide_eq_false h
    omega
  induction d with
  | zero =>
    intro i hi
    refine ⟨_, Ev.step (f := fun k => aquiferlaw20_great.j1 k l (i : Int) false) (fun k => ?_) (hE _), hF⟩
    simp only [aquiferlaw20_great.l0]
    by_cases h : (i : Int) < (l.length : Int)
    · rw [if_pos h, decide_eq_false (by omega)]
    · rw [if_neg h]
  | succ d ih =>
    intro i hi
    by_cases h : (i : Int) < (l.length : Int)
    · have e0 : ∀ k, aquiferlaw20_great.l0 (k + 1) l (i : Int) = aquiferlaw20_great.j1 k l (i : Int) true := by
        intro k
        simp only [aquiferlaw20_great.l0]
        rw [if_pos h, decide_eq_true (by omega)]
      by_cases h1 : ((rd_T32 l (i : Int)).f0.size : Int) > 100
      · refine ⟨true, Ev.step e0 (Ev.step (f := fun _ => some true) (fun k => ?_) (Ev.now _)), fun h => by cases h⟩
        simp only [aquiferlaw20_great.j1]
        rw [if_pos trivial, if_pos (by omega), if_pos h, if_pos h1]
      by_cases h2 : ((rd_T32 l (i : Int)).f1.size : Int) > 100
      · refine ⟨true, Ev.step e0 (Ev.step (f := fun _ => some true) (fun k => ?_) (Ev.now _)), fun h => by cases h⟩
        simp only [aquiferlaw20_great.j1]
        rw [if_pos trivial, if_pos (by omega), if_pos h, if_neg h1, if_pos h2]
      obtain ⟨b, e, hb⟩ := ih (i + 1) (by omega)
      refine ⟨b, Ev.step e0 (Ev.step (fun k => ?_) e), hb⟩
      simp only [aquiferlaw20_great.j1]
      rw [if_pos trivial, if_pos (by omega), if_pos h, if_neg h1, if_neg h2, w64 (by omega) (by omega)]
      rfl
    · refine ⟨_, Ev.step (f := fun k => aquiferlaw20_great.j1 k l (i : Int) false) (fun k => ?_) (hE _), hF⟩
      simp only [aquiferlaw20_great.l0]
      rw [if_neg h]
theorem great_ev (l : List Cell) : ∃ b, Ev (fun k => aquiferlaw20_great.f k l) b ∧ (b = false → l.length ≤ 150) := great_loop l 200 0 (by omega)
theorem place_there (y : Cell) : ∀ (l : List Cell) (j : Int) (i : Nat) (hi : i < l.length), cmp l[i] y = 0 → ∃ p : Nat, ∃ hp : p < l.length, place y l j = j + p ∧ cmp l[p] y = 0
  | c :: t, j, i, hi, h => by
    by_cases hc : memory_find.cmp c y = 0
    · refine ⟨0, by simp, ?_, hc⟩
      unfold place memory_find.idx
      rw [if_pos hc]
      simp
    · cases i with
      | zero => exact absurd h hc
      | succ i =>
        obtain ⟨p, hp, e, hz⟩ := place_there y t (j + 1) i (by simpa using hi) (by simpa using h)
        refine ⟨p + 1, by simpa using hp, ?_, by simpa using hz⟩
        unfold place memory_find.idx
        rw [if_neg hc]
        unfold place at e
        rw [e]
        omega
theorem place_names (y : Cell) : ∀ (l m : List Cell) (j : Int), l.length = m.length → (∀ (i : Nat) (h : i < l.length) (h2 : i < m.length), l[i].f0 = m[i].f0 ∧ l[i].f1 = m[i].f1) → place y l j = place y m j
  | [], [], _, _, _ => rfl
  | c :: l, d :: m, j, hl, h => by
    have h0 : c.f0 = d.f0 ∧ c.f1 = d.f1 := h 0 (by simp) (by simp)
    have hc : memory_find.cmp c y = memory_find.cmp d y := by
      unfold memory_find.cmp
      rw [h0.1, h0.2]
    unfold place memory_find.idx
    rw [hc]
    have ih := place_names y l m (j + 1) (by simpa using hl) (fun i h1 h2 => h (i + 1) (Nat.succ_lt_succ h1) (Nat.succ_lt_succ h2))
    unfold place at ih
    rw [ih]
theorem set_names (l : List Cell) (p : Nat) (hp : p < l.length) (v : Int) (i : Nat) (h : i < (l.set p ⟨l[p].f0, l[p].f1, v⟩).length) (h2 : i < l.length) : (l.set p ⟨l[p].f0, l[p].f1, v⟩)[i].f0 = l[i].f0 ∧ (l.set p ⟨l[p].f0, l[p].f1, v⟩)[i].f1 = l[i].f1 := by
  rw [List.getElem_set]
  by_cases e : p = i
  · subst e
    rw [if_pos rfl]
    exact ⟨rfl, rfl⟩
  · rw [if_neg e]
    exact ⟨rfl, rfl⟩
theorem place_set (y : Cell) (l : List Cell) (p : Nat) (hp : p < l.length) (v : Int) (j : Int) : place y (l.set p ⟨l[p].f0, l[p].f1, v⟩) j = place y l j :=
  place_names y _ _ j (by simp) (fun i h h2 => set_names l p hp v i h h2)
theorem set_ev (l : List Cell) (m n : ByteArray) (v : Int) (hl : l.length ≤ 1000000000) (p : Nat) (hp : p < l.length) (e : place ⟨m, n, 0⟩ l 0 = (p : Int)) : Ev (fun k => memory_Set.f k l m n v) (l.set p ⟨l[p].f0, l[p].f1, v⟩, true) := by
  have hc : api_Cell_45.f l = some l := by
    unfold api_Cell_45.f
    rw [if_pos (by omega)]
  have hf := find_ev l m n hl
  rw [e] at hf
  refine Ev.bind (f := fun _ t => (api_Cell_45.f l).bind fun t2 => (if t < 0 then (some (t2, false)) else (if 0 ≤ t then (if t < (t2.length : Int) then (some ((t2.set (t : Int).toNat (⟨(rd_T32 t2 t).f0, (rd_T32 t2 t).f1, v⟩ : Cell)), true)) else (none)) else (none)))) hf ?_
  refine Ev.congr (fun k => ?_) (Ev.now _)
  rw [hc, Option.bind_some, if_neg (by omega), if_pos (by omega), if_pos (by omega), rd_get l p hp, Int.toNat_natCast]
theorem named_at (l : List Cell) (i : Nat) (hi : i < l.length) : ∃ p : Nat, ∃ hp : p < l.length, place ⟨l[i].f0, l[i].f1, 0⟩ l 0 = (p : Int) ∧ l[p].f0.toList = l[i].f0.toList ∧ l[p].f1.toList = l[i].f1.toList := by
  obtain ⟨p, hp, e, hz⟩ := place_there ⟨l[i].f0, l[i].f1, 0⟩ l 0 i hi ((cmp_zero _ _).mpr ⟨rfl, rfl⟩)
  exact ⟨p, hp, by omega, (cmp_zero _ _).mp hz⟩
theorem tmod_nat (a : Int) (n : Nat) (h0 : 0 ≤ a) (h1 : a < 256) (hn : 0 < n) : ∃ i : Nat, i < n ∧ Int.tmod (wrap64 a) (n : Int) = (i : Int) := by
  rw [w64 (by omega) (by omega)]
  obtain ⟨b, rfl⟩ := Int.eq_ofNat_of_zero_le h0
  exact ⟨b % n, Nat.mod_lt _ hn, by simp [Int.tmod]⟩
end SetP
open FindP SetP in
theorem cells_loop (l : List Cell) (hl : l.length ≤ 1000000000) : ∀ d i : Nat, i + d = l.length → Ev (fun k => aquiferref20_Cells.l0 k l l (i : Int)) true := by
  intro d
  induction d with
  | zero =>
    intro i hi
    refine Ev.step (f := fun _ => some true) (fun k => ?_) (Ev.now _)
    simp only [aquiferref20_Cells.l0]
    rw [if_neg (by omega)]
  | succ d ih =>
    intro i hi
    refine Ev.step (fun k => ?_) (ih (i + 1) (by omega))
    simp only [aquiferref20_Cells.l0]
    rw [if_pos (by omega), if_pos (by omega), if_pos (by omega), if_neg (by simp), w64 (by omega) (by omega)]
    rfl
open FindP SetP in
theorem cells_self (l : List Cell) (hl : l.length ≤ 1000000000) : Ev (fun k => aquiferref20_Cells.f k l l) true := by
  refine Ev.congr (fun k => ?_) (cells_loop l hl l.length 0 (by omega))
  unfold aquiferref20_Cells.f
  rw [if_pos rfl]
  rfl
open FindP SetP in
theorem orders_pair (l : List Cell) (i j : Nat) (hi : i < l.length) (hj : j < l.length) (hne : ¬ (l[i].f0.toList = l[j].f0.toList ∧ l[i].f1.toList = l[j].f1.toList)) (v w : Int) (hl : l.length ≤ 150) :
    Ev (fun k => aquiferlaw20_MemoryOrders.j1 k l v w false l[i].f0 l[i].f1 l[i].f2 l[j].f0 l[j].f1 l[j].f2) true := by
  obtain ⟨p, hp, ep, hp0, hp1⟩ := named_at l i hi
  obtain ⟨q, hq, eq, hq0, hq1⟩ := named_at l j hj
  have hpq : p ≠ q := by
    rintro rfl
    exact hne ⟨hp0.symm.trans hq0, hp1.symm.trans hq1⟩
  have s1 := set_ev l l[i].f0 l[i].f1 v (by omega) p hp ep
  have s2 := set_ev (l.set p ⟨l[p].f0, l[p].f1, v⟩) l[j].f0 l[j].f1 w (by simp; omega) q (by simpa using hq) ((place_set _ l p hp v 0).trans eq)
  have s3 := set_ev l l[j].f0 l[j].f1 w (by omega) q hq eq
  have s4 := set_ev (l.set q ⟨l[q].f0, l[q].f1, w⟩) l[i].f0 l[i].f1 v (by simp; omega) p (by simpa using hp) ((place_set _ l q hq w 0).trans ep)
  simp only [List.getElem_set_ne hpq] at s2
  simp only [List.getElem_set_ne (Ne.symm hpq)] at s4
  rw [← List.set_comm _ _ hpq] at s4
  have s5 := cells_self ((l.set p ⟨l[p].f0, l[p].f1, v⟩).set q ⟨l[q].f0, l[q].f1, w⟩) (by simp; omega)
  obtain ⟨K1, h1⟩ := s1
  obtain ⟨K2, h2⟩ := s2
  obtain ⟨K3, h3⟩ := s3
  obtain ⟨K4, h4⟩ := s4
  obtain ⟨K5, h5⟩ := s5
  obtain ⟨K6, h6⟩ := awaket
  dsimp only at h1 h2 h3 h4 h5 h6
  refine ⟨K1 + K2 + K3 + K4 + K5 + K6 + 1, fun k hk => ?_⟩
  obtain ⟨n, rfl⟩ : ∃ n, k = n + 1 := ⟨k - 1, by omega⟩
  simp only [aquiferlaw20_MemoryOrders.j1]
  rw [if_neg Bool.false_ne_true, h1 n (by omega), Option.bind_some]
  dsimp only
  rw [h2 n (by omega), Option.bind_some, h3 n (by omega), Option.bind_some]
  dsimp only
  rw [h4 n (by omega), Option.bind_some]
  dsimp only
  rw [h5 n (by omega), Option.bind_some, if_pos rfl]
  exact h6 n (by omega)
open FindP SetP in
theorem MemoryOrders : aquiferlaw20_MemoryOrders.Pure := by
  intro l a b v w _ ha hb _ _
  obtain ⟨a0, a1⟩ := wf_u8 ha
  obtain ⟨b0, b1⟩ := wf_u8 hb
  have jt : Ev (fun k => aquiferlaw20_MemoryOrders.j0 k l a b v w true) true := by
    refine Ev.step (fun k => ?_) awaket
    simp only [aquiferlaw20_MemoryOrders.j0]
    rw [if_pos trivial]
  have key : Ev (fun k => aquiferlaw20_MemoryOrders.f k l a b v w) true := by
    obtain ⟨t, et, ht⟩ := great_ev l
    refine Ev.bind (f := fun k t => if t = true then (aquiferlaw20_MemoryOrders.j0 k l a b v w true) else (aquiferlaw20_MemoryOrders.j0 k l a b v w ((l.length : Int) == 0))) et ?_
    cases t with
    | true => exact Ev.congr (fun k => if_pos rfl) jt
    | false =>
      refine Ev.congr (fun k => if_neg Bool.false_ne_true) ?_
      have hl := ht rfl
      by_cases hz : l.length = 0
      · rw [show ((l.length : Int) == 0) = true by simp [hz]]
        exact jt
      rw [show ((l.length : Int) == 0) = false by simp [hz]]
      obtain ⟨i, hi, ei⟩ := tmod_nat a l.length a0 a1 (by omega)
      obtain ⟨j, hj, ej⟩ := tmod_nat b l.length b0 b1 (by omega)
      have hs : ∀ f, Ev (fun k => aquiferlaw20_MemoryOrders.j1 k l v w f l[i].f0 l[i].f1 l[i].f2 l[j].f0 l[j].f1 l[j].f2) true → (f = decide (l[i].f0.toList = l[j].f0.toList ∧ l[i].f1.toList = l[j].f1.toList)) → Ev (fun k => aquiferlaw20_MemoryOrders.j0 k l a b v w false) true := by
        intro f h e
        refine Ev.step (fun k => ?_) h
        simp only [aquiferlaw20_MemoryOrders.j0]
        rw [if_neg Bool.false_ne_true, if_neg (by omega), ei, ej, if_pos (by omega), if_pos (by omega), if_pos (by omega), if_pos (by omega), rd_get l i hi, rd_get l j hj, e]
        by_cases h0 : l[i].f0.toList = l[j].f0.toList
        · rw [if_pos h0]
          congr 1
          by_cases h1 : l[i].f1.toList = l[j].f1.toList
          · simp [h0, h1]
          · simp [h0, h1]
        · rw [if_neg h0, decide_eq_false (fun q => h0 q.1)]
      by_cases hsame : l[i].f0.toList = l[j].f0.toList ∧ l[i].f1.toList = l[j].f1.toList
      · refine hs true (Ev.step (fun k => ?_) awaket) (decide_eq_true hsame).symm
        simp only [aquiferlaw20_MemoryOrders.j1]
        rw [if_pos trivial]
      · exact hs false (orders_pair l i j hi hj hsame v w hl) (decide_eq_false hsame).symm
  exact key.rounds
end Go.Proofs.Ytkhalpeiifdfiaa.Pure
