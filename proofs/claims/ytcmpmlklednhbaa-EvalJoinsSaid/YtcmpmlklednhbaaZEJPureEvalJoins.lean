/- The statement EvalJoins over texts, lists and numbers: of two expressions with a sign between, in brackets, the value is what the sign makes of both. No further condition. -/
import Derived.Test.YtcmpmlklednhbaaZEJx20
namespace Go.Proofs.Ytcmpmlklednhbaa.Pure
open Go.RowKit Go.Proofs.Ytcmpmlklednhbaa.QEvalJoins Go.Proofs.YtcmpmlklednhbaaW.PrintWords Go.Proofs.YtcmpmlklednhbaaW.PrintLast
set_option linter.unusedVariables false
set_option linter.unusedSimpArgs false
namespace TotP
theorem om {p : Prop} (h : p := by omega) : p := h
theorem zl {p : Prop} (h : p := by simp only [List.length_append, List.length_singleton]; omega) : p := h
abbrev Tok := S69
abbrev Nd := S48
abbrev Cell := S63
def EvP {α : Type} (g : Nat → Option α) (P : α → Prop) : Prop := ∃ r, Ev g r ∧ P r
theorem done {α : Type} {P : α → Prop} {r : α} (h : P r) : EvP (fun _ => some r) P := ⟨r, ⟨0, fun _ _ => rfl⟩, h⟩
theorem andThen {α β : Type} {g : Nat → Option α} {f : Nat → α → Option β} {P : α → Prop} {Q : β → Prop} (h : EvP g P) (k : ∀ r, P r → EvP (fun n => f n r) Q) : EvP (fun n => (g n).bind (f n)) Q := by
 obtain ⟨r, e, p⟩ := h
 obtain ⟨s, e2, q⟩ := k r p
 exact ⟨s, Ev.bind e e2, q⟩
theorem more {α : Type} {g : Nat → Option α} {Q : α → Prop} (h : EvP (fun k => g (k + 1)) Q) : EvP g Q := by
 obtain ⟨r, e, q⟩ := h
 exact ⟨r, Ev.step (fun _ => rfl) e, q⟩
theorem ways {α : Type} {c : Prop} [Decidable c] {f g : Nat → Option α} {Q : α → Prop} (h1 : c → EvP f Q) (h2 : ¬ c → EvP g Q) : EvP (fun n => if c then f n else g n) Q := by
 by_cases h : c
 ·
  obtain ⟨r, e, q⟩ := h1 h
  exact ⟨r, Ev.congr (fun _ => if_pos h) e, q⟩
 ·
  obtain ⟨r, e, q⟩ := h2 h
  exact ⟨r, Ev.congr (fun _ => if_neg h) e, q⟩
theorem gate {α : Type} {c : Prop} [Decidable c] {f g : Nat → Option α} {Q : α → Prop} (h : c) (h1 : EvP f Q) : EvP (fun n => if c then f n else g n) Q := ways (fun _ => h1) (fun z => absurd h z)
theorem nw {α : Type} {f g : Nat → Option α} {Q : α → Prop} (h : EvP g Q) : EvP (fun n => if false = true then f n else g n) Q := h
theorem weaker {α : Type} {g : Nat → Option α} {P Q : α → Prop} (h : EvP g P) (k : ∀ r, P r → Q r) : EvP g Q := by
 obtain ⟨r, e, p⟩ := h
 exact ⟨r, e, k r p⟩
theorem known {α β : Type} {x : Option α} {v : α} {f : Nat → α → Option β} {Q : β → Prop} (h : x = some v) (k : EvP (fun n => f n v) Q) : EvP (fun n => x.bind (f n)) Q := by
 subst h
 exact k
theorem w64 {n : Int} (h0 : -4503599627370496 ≤ n) (h1 : n ≤ 4503599627370496) : wrap64 n = n := by unfold wrap64; omega
section
variable {l : List Cell} (hl : l.length ≤ 1000000000)
theorem cmp_b {β : Type} {Q : β → Prop} (x y : Cell) {F : Nat → Int → Option β} (k : ∀ v, EvP (fun n => F n v) Q) : EvP (fun n => (memory_compare.f n x.f0 x.f1 x.f2 y.f0 y.f1 y.f2).bind (F n)) Q := andThen (P := fun _ => True) ⟨_, Ev.of (fun k => memory_compare.mono _ _ _ _ _ _ k) (memory_find.cmp_f x y 0), trivial⟩ (fun r _ => k r)
include hl
theorem sorted_l : ∀ i : Nat, i < l.length → EvP (fun k => api_Cell_33.l0 k l (i : Int)) (fun _ => True) := by
 intro i
 induction i with
 | zero =>
  intro hi
  refine more ?_
  simp only [api_Cell_33.l0]
  exact ways (fun z => absurd z om) (fun _ => done trivial)
 | succ i ih =>
  intro hi
  refine more ?_
  simp only [api_Cell_33.l0]
  rw [show wrap64 (((i + 1 : Nat) : Int) - 1) = (i : Int) by rw [w64 om om]; omega]
  exact gate om (gate om (gate om (gate om (gate om (cmp_b _ _ (fun v => ways (fun _ => done trivial) (fun _ => ih om)))))))
theorem sorted_t : EvP (fun k => api_Cell_33.f k l) (fun _ => True) := by
 unfold api_Cell_33.f
 rw [w64 om om]
 by_cases h0 : l.length = 0
 ·
  refine more ?_
  simp only [api_Cell_33.l0]
  exact ways (fun z => absurd z om) (fun _ => done trivial)
 ·
  have := sorted_l hl (l.length - 1) om
  rwa [show ((l.length - 1 : Nat) : Int) = (l.length : Int) - 1 by omega] at this
theorem search_t (y : Cell) : ∀ (d i j : Nat), j - i ≤ d → i ≤ j → j ≤ l.length → EvP (fun k => api_Cell_35.l0 k l (l.length : Int) (i : Int) (j : Int) y.f0 y.f1 y.f2) (fun r => 0 ≤ r.1 ∧ (r.2 = true → r.1 < l.length)) := by
 intro d
 induction d with
 | zero =>
  intro i j hd hij hj
  refine more ?_
  simp only [api_Cell_35.l0]
  exact ways (fun z => absurd z om) (fun _ => ways (fun z => gate om (gate om (cmp_b _ y (fun v => done ⟨om, fun _ => z⟩)))) (fun _ => done ⟨om, fun z => by cases z⟩))
 | succ d ih =>
  intro i j hd hij hj
  refine more ?_
  simp only [api_Cell_35.l0]
  refine ways (fun hlt => ?_) (fun _ => ways (fun z => gate om (gate om (cmp_b _ y (fun v => done ⟨om, fun _ => z⟩)))) (fun _ => done ⟨om, fun z => by cases z⟩))
  have wm : wrap64 ((IntKind.u64.wrap (wrap64 ((i : Int) + (j : Int)))) / 2) = (((i + j) / 2 : Nat) : Int) := by
   rw [w64 (n := (i : Int) + (j : Int)) om om, show IntKind.u64.wrap ((i : Int) + (j : Int)) = (i : Int) + (j : Int) by unfold IntKind.wrap; simp [IntKind.bits, IntKind.signed]; omega, w64 om om]
   omega
  rw [wm, show wrap64 ((((i + j) / 2 : Nat) : Int) + 1) = (((i + j) / 2 + 1 : Nat) : Int) by rw [w64 om om]; omega]
  exact gate om (gate om (cmp_b _ y (fun v => ways (fun _ => ih _ _ om om om) (fun _ => ih _ _ om om om))))
omit hl in
theorem idx_lt (y : Cell) : ∀ (l : List Cell) (j : Int), 0 ≤ j → memory_find.idx y l j < j + l.length
 | [], j, h => by show (-1 : Int) < _; simp; omega
 | c :: t, j, h => by
  unfold memory_find.idx
  have := idx_lt y t (j + 1) om
  split <;> simp only [List.length_cons] <;> omega
theorem get_t (m n : ByteArray) : EvP (fun k => memory_Get.f k l m n) (fun _ => True) := by
 have hf : EvP (fun k => memory_find.f k l m n) (fun r => r < l.length) := by
  unfold memory_find.f
  refine gate om (andThen (sorted_t hl) (fun t _ => ways (fun _ => ?_) (fun _ => done ?_)))
  ·
   exact andThen (search_t hl ⟨m, n, 0⟩ l.length 0 l.length om om om) (fun r hr => ways (fun z => done (hr.2 z)) (fun _ => done om))
  ·
   have := idx_lt ⟨m, n, 0⟩ l 0 om
   omega
 unfold memory_Get.f
 exact andThen hf (fun r hr => ways (fun _ => done trivial) (fun _ => gate om (gate om (done trivial))))
end
theorem name_t {l m : List Cell} (a0 a1 : Int) (a2 a3 : ByteArray) (a4 a5 a6 : Int) (mod : ByteArray) (hl : l.length ≤ 1000000000) (hm : m.length ≤ 1000000000) : EvP (fun k => eval_name.f k a0 a1 a2 a3 a4 a5 a6 mod l m) (fun _ => True) := by
 have hg := fun s => andThen (f := fun _ b => some b.1) (get_t hm s a3) (fun r _ => done (P := fun _ => True) trivial)
 unfold eval_name.f
 refine gate om (ways (fun _ => ways (fun z => ?_) (fun _ => hg _)) (fun _ => hg _))
 obtain ⟨v, hv⟩ := Option.isSome_iff_exists.mp z
 rw [hv]
 exact done trivial
theorem op_told (k a b : Int) : ∃ v, eval_Op.f k a b = some v := by
 have hb : ∀ x : Bool, ∃ v, eval_truth.f x = some v := fun x => by unfold eval_truth.f; split <;> exact ⟨_, rfl⟩
 unfold eval_Op.f
 obtain ⟨v1, e1⟩ := hb (a == 0)
 obtain ⟨v2, e2⟩ := hb (a == b)
 obtain ⟨v3, e3⟩ := hb (decide (a < b))
 obtain ⟨v4, e4⟩ := hb (decide (a ≤ b))
 rw [e1, e2, e3, e4]
 simp only [Option.bind_some]
 repeat' split
 all_goals exact ⟨_, rfl⟩
theorem rd_set_eq (a : List Int) (i : Nat) (v : Int) (h : i < a.length) : rd (a.set i v) (i : Int) = v := by
 simp [rd, List.getD_eq_getElem?_getD, h]
theorem rd_set_ne (a : List Int) (i : Nat) (j v : Int) (h0 : 0 ≤ j) (h : j ≠ (i : Int)) : rd (a.set i v) j = rd a j := by
 have : i ≠ j.toNat := by omega
 simp [rd, List.getD_eq_getElem?_getD, this]
theorem sp {α β : Type} {a b : α} {i j : β} (h : some (a, i) = some (b, j)) : a = b ∧ i = j := by
 cases h
 exact ⟨rfl, rfl⟩
theorem sn {α β : Type} {a : α} {i : β} {r : α × β} (h : some (a, i) = some r) : a = r.1 ∧ i = r.2 := sp h
theorem bm {α β : Type} {x : Option α} {f : α → Option β} {b : β} (h : x.bind f = some b) : ∃ a, x = some a ∧ f a = some b := Option.bind_eq_some_iff.mp h
abbrev AT := Int × List UInt8
inductive Tree where
 | num (s : List UInt8)
 | var (m n : List UInt8)
 | un (o : Int) (a : Tree)
 | bin (o : Int) (a b : Tree)
def sg (c : AT) (s : List UInt8) : Bool := (c.1 == 4 || c.1 == 3) && c.2 == s
def opn : List (List UInt8) → Int → AT → Option Int
 | [], _, _ => none
 | s :: t, o, c => if sg c s = true then some o else opn t (o + 1) c
abbrev opT := opn [[42], [47], [37]] 7
abbrev opS := opn [[43], [45]] 5
abbrev opX := opn [[61, 61], [60], [60, 61]] 10
inductive Md where
 | u | t | s | x
 | tl (a : Tree) | sl (a : Tree)
def P : Nat → Md → (Int → AT) → Int → Option (Tree × Int)
 | 0, _, _, _ => none
 | k + 1, .u, f, i =>
  if sg (f i) [33] = true then (P k .u f (i + 1)).bind fun r => some (.un 4 r.1, r.2)
  else if sg (f i) [45] = true then (P k .u f (i + 1)).bind fun r => some (.un 3 r.1, r.2)
  else if sg (f i) [40] = true then (P k .x f (i + 1)).bind fun r => if sg (f r.2) [41] = true then some (r.1, r.2 + 1) else none
  else if (f i).1 = 2 then some (.num (f i).2, i + 1)
  else if (f i).1 = 1 then (if sg (f (i + 1)) [46] = true then (if (f (i + 2)).1 = 1 then some (.var (f i).2 (f (i + 2)).2, i + 3) else none) else some (.var [] (f i).2, i + 1))
  else none
 | k + 1, .t, f, i => (P k .u f i).bind fun r => P k (.tl r.1) f r.2
 | k + 1, .s, f, i => (P k .t f i).bind fun r => P k (.sl r.1) f r.2
 | k + 1, .tl a, f, i => match opT (f i) with
  | some o => (P k .u f (i + 1)).bind fun r => P k (.tl (.bin o a r.1)) f r.2
  | none => some (a, i)
 | k + 1, .sl a, f, i => match opS (f i) with
  | some o => (P k .t f (i + 1)).bind fun r => P k (.sl (.bin o a r.1)) f r.2
  | none => some (a, i)
 | k + 1, .x, f, i => (P k .s f i).bind fun r => match opX (f r.2) with
  | some o => (P k .s f (r.2 + 1)).bind fun q => some (.bin o r.1 q.1, q.2)
  | none => some r
theorem P_mono : ∀ (k : Nat) (md : Md) (f : Int → AT) (i : Int), LeO (P k md f i) (P (k + 1) md f i) := by
 intro k
 induction k with
 | zero => intro md f i; exact LeO.none _
 | succ k ih =>
  intro md f i
  cases md with
  | u =>
   rw [P, P]
   exact LeO.ite (LeO.bind (ih _ _ _) (fun _ => LeO.refl _)) (LeO.ite (LeO.bind (ih _ _ _) (fun _ => LeO.refl _)) (LeO.ite (LeO.bind (ih _ _ _) (fun _ => LeO.refl _)) (LeO.refl _)))
  | t => rw [P, P]; exact LeO.bind (ih _ _ _) (fun _ => ih _ _ _)
  | s => rw [P, P]; exact LeO.bind (ih _ _ _) (fun _ => ih _ _ _)
  | x =>
   rw [P, P]
   refine LeO.bind (ih _ _ _) (fun r => ?_)
   cases opX (f r.2) with
   | none => exact LeO.refl _
   | some o => exact LeO.bind (ih _ _ _) (fun _ => LeO.refl _)
  | tl a =>
   rw [P, P]
   cases opT (f i) with
   | none => exact LeO.refl _
   | some o => exact LeO.bind (ih _ _ _) (fun _ => ih _ _ _)
  | sl a =>
   rw [P, P]
   cases opS (f i) with
   | none => exact LeO.refl _
   | some o => exact LeO.bind (ih _ _ _) (fun _ => ih _ _ _)
theorem P_up {k k' : Nat} {md : Md} {f : Int → AT} {i : Int} {r : Tree × Int} (h : P k md f i = some r) (hk : k ≤ k') : P k' md f i = some r := at_rounds (fun q => P_mono q md f i) hk h
theorem sg_kind {c : AT} {s : List UInt8} (h : sg c s = true) : c.1 ≠ 0 ∧ c.2 = s := by
 unfold sg at h
 simp only [Bool.and_eq_true, Bool.or_eq_true, beq_iff_eq] at h
 exact ⟨om, h.2⟩
theorem sg_no {c : AT} {s t : List UInt8} (h : sg c s = true) (hst : (s == t) = false) : sg c t = false := by
 rw [(by rfl : sg c t = ((c.1 == 4 || c.1 == 3) && c.2 == t)), (sg_kind h).2, hst, Bool.and_false]
theorem sg_of {c : AT} {s t : List UInt8} (h : sg c s = true) (ht : c.2 = t) : sg c t = true := by
 rw [← ht, (sg_kind h).2]
 exact h
theorem sg_num {c : AT} {n : Int} (s : List UInt8) (h : c.1 = n) (hn : n = 1 ∨ n = 2) : sg c s = false := by
 unfold sg
 rw [h]
 rcases hn with rfl | rfl <;> rfl
def okc (c : AT) : Prop := c.1 ≠ 0 ∧ sg c [59] = false
theorem sg_ok {c : AT} {s : List UInt8} (h : sg c s = true) (hs : (s == [59]) = false) : okc c := ⟨(sg_kind h).1, sg_no h hs⟩
theorem opn_ok {c : AT} : ∀ (S : List (List UInt8)) (o y : Int), opn S o c = some y → (∀ s ∈ S, (s == [59]) = false) → okc c
 | [], _, _, h, _ => by cases h
 | s :: t, o, y, h, hs => by
  unfold opn at h
  split at h
  ·
   rename_i z
   exact sg_ok z (hs s (List.mem_cons_self ..))
  ·
   exact opn_ok t _ _ h (fun s hs' => hs s (List.mem_cons_of_mem _ hs'))
theorem P_ok : ∀ (k : Nat) (md : Md) (f : Int → AT) (i : Int) (r : Tree × Int), P k md f i = some r → i ≤ r.2 ∧ ∀ j : Int, i ≤ j → j < r.2 → okc (f j) := by
 intro k
 induction k with
 | zero => intro md f i r h; cases h
 | succ k ih =>
  intro md f i r h
  have run : ∀ (m1 : Md) (g : Tree × Int → Option (Tree × Int)) (j0 : Int), i ≤ j0 → (∀ j, i ≤ j → j < j0 → okc (f j)) → (∀ q, g q = some r → q.2 ≤ r.2 ∧ ∀ j, q.2 ≤ j → j < r.2 → okc (f j)) → ((P k m1 f j0).bind g) = some r → i ≤ r.2 ∧ ∀ j : Int, i ≤ j → j < r.2 → okc (f j) := by
   intro m1 g j0 hj hk hg h
   obtain ⟨q, h1, h2⟩ := bm h
   obtain ⟨a1, b1⟩ := ih _ _ _ _ h1
   obtain ⟨a2, b2⟩ := hg q h2
   refine ⟨om, fun j a b => ?_⟩
   by_cases c : j < j0
   ·
    exact hk j a c
   ·
    by_cases d : j < q.2
    ·
     exact b1 j om d
    ·
     exact b2 j om b
  have end_ : ∀ {g : Tree} (q : Tree × Int), some (g, q.2) = some r → q.2 ≤ r.2 ∧ ∀ j, q.2 ≤ j → j < r.2 → okc (f j) := by
   intro g q h
   have := (sn h).2
   exact ⟨om, fun j a b => om⟩
  have here : okc (f i) → ∀ j, i ≤ j → j < i + 1 → okc (f j) := fun h j a b => by
   rw [show j = i by omega]
   exact h
  have none' : ∀ j, i ≤ j → j < i → okc (f j) := fun j a b => by omega
  have go : ∀ m2 : Tree → Md, ∀ q : Tree × Int, P k (m2 q.1) f q.2 = some r → q.2 ≤ r.2 ∧ ∀ j, q.2 ≤ j → j < r.2 → okc (f j) := fun m2 q h => ih _ _ _ _ h
  cases md with
  | u =>
   rw [P] at h
   split at h
   ·
    rename_i c; exact run _ _ _ om (here (sg_ok c rfl)) (fun q h => end_ q h) h
   ·
    split at h
    ·
     rename_i c; exact run _ _ _ om (here (sg_ok c rfl)) (fun q h => end_ q h) h
    ·
     split at h
     ·
      rename_i c
      refine run _ _ _ om (here (sg_ok c rfl)) (fun q h2 => ?_) h
      split at h2
      ·
       rename_i c2
       have := (sn h2).2
       refine ⟨om, fun j a b => ?_⟩
       rw [show j = q.2 by omega]
       exact sg_ok c2 rfl
      ·
       cases h2
     ·
      split at h
      ·
       rename_i c
       have := (sn h).2
       refine ⟨om, ?_⟩
       rw [← this]
       exact here ⟨om, sg_num _ c (.inr rfl)⟩
      ·
       split at h
       ·
        rename_i c
        have h1 := here ⟨om, sg_num _ c (.inl rfl)⟩
        split at h
        ·
         rename_i c2
         split at h
         ·
          rename_i c3
          have := (sn h).2
          refine ⟨om, fun j a b => ?_⟩
          by_cases d : j < i + 1
          ·
           exact h1 j a d
          ·
           by_cases e : j = i + 1
           ·
            rw [e]; exact sg_ok c2 rfl
           ·
            rw [show j = i + 2 by omega]; exact ⟨om, sg_num _ c3 (.inl rfl)⟩
         ·
          cases h
        ·
         have := (sn h).2
         rw [← this]
         exact ⟨om, h1⟩
       ·
        cases h
  | t => rw [P] at h; exact run _ _ _ om none' (go .tl) h
  | s => rw [P] at h; exact run _ _ _ om none' (go .sl) h
  | x =>
   rw [P] at h
   refine run _ _ _ om none' (fun q h2 => ?_) h
   split at h2
   ·
    rename_i o ho
    obtain ⟨q2, h3, h4⟩ := bm h2
    have e := (sn h4).2
    obtain ⟨a2, b2⟩ := ih _ _ _ _ h3
    refine ⟨om, fun j a b => ?_⟩
    by_cases e : j = q.2
    ·
     rw [e]
     exact opn_ok _ _ _ ho (by decide)
    ·
     exact b2 j om om
   ·
    exact end_ q h2
  | tl a =>
   rw [P] at h
   split at h
   ·
    rename_i o ho
    exact run _ _ _ om (here (opn_ok _ _ _ ho (by decide))) (go fun b => .tl (.bin o a b)) h
   ·
    exact end_ (a, i) h
  | sl a =>
   rw [P] at h
   split at h
   ·
    rename_i o ho
    exact run _ _ _ om (here (opn_ok _ _ _ ho (by decide))) (go fun b => .sl (.bin o a b)) h
   ·
    exact end_ (a, i) h
theorem P_le (k : Nat) (md : Md) (f : Int → AT) (i : Int) (r : Tree × Int) (h : P k md f i = some r) : i ≤ r.2 := (P_ok k md f i r h).1
def stop (c : AT) : Prop := opT c = none ∧ opS c = none ∧ opX c = none ∧ sg c [46] = false
def LA (c c' : AT) : Prop := c = c' ∨ (stop c ∧ stop c')
theorem LA.ops {c c' : AT} (h : LA c c') : opT c = opT c' ∧ opS c = opS c' ∧ opX c = opX c' ∧ sg c [46] = sg c' [46] := by
 rcases h with rfl | ⟨⟨a, b, d, e⟩, a', b', d', e'⟩
 ·
  exact ⟨rfl, rfl, rfl, rfl⟩
 ·
  exact ⟨a.trans a'.symm, b.trans b'.symm, d.trans d'.symm, e.trans e'.symm⟩
theorem P_local : ∀ (k : Nat) (md : Md) (f f' : Int → AT) (i i' n : Int) (t : Tree), P k md f i = some (t, i + n) → (∀ j : Int, 0 ≤ j → j < n → f (i + j) = f' (i' + j)) → LA (f (i + n)) (f' (i' + n)) → P k md f' i' = some (t, i' + n) := by
 intro k
 induction k with
 | zero => intro md f f' i i' n t h; cases h
 | succ k ih =>
  intro md f f' i i' n t h A B
  have part : ∀ (m1 : Md) (c : Int) (q : Tree × Int), 0 ≤ c → P k m1 f (i + c) = some q → q.2 ≤ i + n → P k m1 f' (i' + c) = some (q.1, i' + (q.2 - i)) ∧ LA (f q.2) (f' (i' + (q.2 - i))) := by
   intro m1 c q hc h1 hq
   have hle := P_le _ _ _ _ _ h1
   have hl : LA (f q.2) (f' (i' + (q.2 - i))) := by
    by_cases z : q.2 = i + n
    ·
     rw [z, show i + n - i = n by omega]
     exact B
    ·
     left
     have := A (q.2 - i) om om
     rwa [show i + (q.2 - i) = q.2 by omega] at this
   refine ⟨?_, hl⟩
   have := ih m1 f f' (i + c) (i' + c) (q.2 - (i + c)) q.1 (by rw [show i + c + (q.2 - (i + c)) = q.2 by omega]; exact h1) (fun j h0 h2 => by
    have := A (c + j) om om
    rwa [← Int.add_assoc, ← Int.add_assoc] at this) (by rw [show i + c + (q.2 - (i + c)) = q.2 by omega, show i' + c + (q.2 - (i + c)) = i' + (q.2 - i) by omega]; exact hl)
   rwa [show i' + c + (q.2 - (i + c)) = i' + (q.2 - i) by omega] at this
  have two : ∀ (m1 : Md) (m2 : Tree → Md) (c : Int), 0 ≤ c → ((P k m1 f (i + c)).bind fun r => P k (m2 r.1) f r.2) = some (t, i + n) → ((P k m1 f' (i' + c)).bind fun r => P k (m2 r.1) f' r.2) = some (t, i' + n) := by
   intro m1 m2 c hc h
   obtain ⟨q, h1, h2⟩ := bm h
   have hle := P_le _ _ _ _ _ h1
   have hq := P_le _ _ _ _ _ h2
   dsimp only at hq
   rw [(part m1 c q hc h1 hq).1, Option.bind_some]
   have h3 := (part (m2 q.1) (q.2 - i) (t, i + n) om (by rw [show i + (q.2 - i) = q.2 by omega]; exact h2) (by dsimp only; omega)).1
   rw [show i + n - i = n by omega] at h3
   exact h3
  have one : ∀ (m1 : Md) (g : Tree → Tree) (c : Int), 0 ≤ c → ((P k m1 f (i + c)).bind fun r => some (g r.1, r.2)) = some (t, i + n) → ((P k m1 f' (i' + c)).bind fun r => some (g r.1, r.2)) = some (t, i' + n) := by
   intro m1 g c hc h
   obtain ⟨q, h1, h2⟩ := bm h
   obtain ⟨e1, e2⟩ := sp h2
   rw [(part m1 c q hc h1 om).1, Option.bind_some, e1, e2, show i + n - i = n by omega]
  have here : 0 < n → f' i' = f i := by
   intro hn
   have := A 0 om hn
   rw [Int.add_zero, Int.add_zero] at this
   exact this.symm
  have hn0 : 0 ≤ n := by
   have := P_le _ _ _ _ _ h
   dsimp only at this
   omega
  have loop : ∀ (op : AT → Option Int) (m1 : Md) (ml : Tree → Md) (a : Tree), op (f (i + n)) = op (f' (i' + n)) → (match op (f i) with | some o => (P k m1 f (i + 1)).bind fun r => P k (ml (.bin o a r.1)) f r.2 | none => some (a, i)) = some (t, i + n) → (match op (f' i') with | some o => (P k m1 f' (i' + 1)).bind fun r => P k (ml (.bin o a r.1)) f' r.2 | none => some (a, i')) = some (t, i' + n) := by
   intro op m1 ml a hop h
   have hf : op (f' i') = op (f i) := by
    by_cases hn : 0 < n
    ·
     rw [here hn]
    ·
     obtain rfl : n = 0 := by omega
     rw [Int.add_zero, Int.add_zero] at hop
     exact hop.symm
   rw [hf]
   split at h
   ·
    exact two m1 (fun b => ml (.bin _ a b)) 1 om h
   ·
    obtain ⟨e1, e2⟩ := sp h
    rw [e1]
    congr 2
    omega
  cases md with
  | u =>
   have hn : 0 < n := by
    have hu : ∀ (r : Tree × Int), P (k + 1) .u f i = some r → i < r.2 := by
     intro r h
     have bnd : ∀ (m1 : Md) (g : Tree × Int → Option (Tree × Int)), (∀ q r, g q = some r → q.2 ≤ r.2) → ((P k m1 f (i + 1)).bind g) = some r → i < r.2 := by
      intro m1 g hg h
      obtain ⟨q, h1, h2⟩ := bm h
      have := P_le _ _ _ _ _ h1
      have := hg _ _ h2
      omega
     have som : ∀ {p q : Tree × Int}, some p = some q → p.2 ≤ q.2 := by
      intro p q h
      rw [Option.some.inj h]
      exact Int.le_refl _
     rw [P] at h
     split at h
     ·
      refine bnd _ _ (fun q r z => ?_) h
      have e := som z; exact e
     ·
      split at h
      ·
       refine bnd _ _ (fun q r z => ?_) h
       have e := som z; exact e
      ·
       split at h
       ·
        refine bnd _ _ (fun q r z => ?_) h
        split at z
        ·
         have := som z
         dsimp only at this
         omega
        ·
         cases z
       ·
        repeat' split at h
        all_goals first
         | (have := som h; dsimp only at this; omega)
         | (cases h; done)
    have := hu _ h
    dsimp only at this
    omega
   rw [P] at h ⊢
   rw [here hn]
   split at h
   ·
    rename_i c; rw [if_pos c]; exact one _ _ _ om h
   ·
    rename_i c; rw [if_neg c]
    split at h
    ·
     rename_i c; rw [if_pos c]; exact one _ _ _ om h
    ·
     rename_i c; rw [if_neg c]
     split at h
     ·
      rename_i c; rw [if_pos c]
      obtain ⟨q, h1, h2⟩ := bm h
      split at h2
      ·
       rename_i c2
       obtain ⟨e1, e2⟩ := sp h2
       rw [(part .x 1 q om h1 om).1, Option.bind_some]
       have hle := P_le _ _ _ _ _ h1
       have ht := A (q.2 - i) om om
       rw [show i + (q.2 - i) = q.2 by omega] at ht
       dsimp only
       rw [← ht, if_pos c2, e1]
       congr 2
       omega
      ·
       cases h2
     ·
      rename_i c; rw [if_neg c]
      split at h
      ·
       rename_i c; rw [if_pos c]
       obtain ⟨e1, e2⟩ := sp h
       rw [e1]
       congr 2
       omega
      ·
       rename_i c; rw [if_neg c]
       split at h
       ·
        rename_i c; rw [if_pos c]
        split at h
        ·
         rename_i c2
         split at h
         ·
          rename_i c3
          obtain ⟨e1, e2⟩ := sp h
          have a1 := A 1 om om
          have a2 := A 2 om om
          rw [← a1, ← a2, if_pos c2, if_pos c3, e1]
          congr 2
          omega
         ·
          cases h
        ·
         rename_i c2
         obtain ⟨e1, e2⟩ := sp h
         have hn1 : n = 1 := by omega
         subst hn1
         rw [← B.ops.2.2.2, if_neg c2, e1]
       ·
        cases h
  | t =>
   rw [P] at h ⊢
   have := two .u .tl 0 om (by rw [Int.add_zero]; exact h)
   rwa [Int.add_zero] at this
  | s =>
   rw [P] at h ⊢
   have := two .t .sl 0 om (by rw [Int.add_zero]; exact h)
   rwa [Int.add_zero] at this
  | tl a => rw [P] at h ⊢; exact loop opT .u .tl a B.ops.1 h
  | sl a => rw [P] at h ⊢; exact loop opS .t .sl a B.ops.2.1 h
  | x =>
   rw [P] at h ⊢
   obtain ⟨q, h1, h2⟩ := bm h
   have hle := P_le _ _ _ _ _ h1
   have hq : q.2 ≤ i + n := by
    split at h2
    ·
     obtain ⟨q2, h3, h4⟩ := bm h2
     have := P_le _ _ _ _ _ h3
     have := (sn h4).2
     omega
    ·
     have := (sn h2).2
     omega
   obtain ⟨p1, p2⟩ := part .s 0 q om (by rw [Int.add_zero]; exact h1) hq
   rw [Int.add_zero] at p1
   rw [p1, Option.bind_some]
   dsimp only
   rw [← p2.ops.2.2.1]
   split at h2
   ·
    have := one .s (fun b => .bin _ q.1 b) (q.2 - i + 1) om (by rw [show i + (q.2 - i + 1) = q.2 + 1 by omega]; exact h2)
    rw [show i' + (q.2 - i) + 1 = i' + (q.2 - i + 1) by omega]
    exact this
   ·
    have e := Option.some.inj h2
    rw [e]
    dsimp only
    rw [show i + n - i = n by omega]
theorem ev_one {α : Type} {g : Nat → Option α} {a b : α} (h1 : Ev g a) (h2 : Ev g b) : a = b := by
 obtain ⟨k1, h1⟩ := h1
 obtain ⟨k2, h2⟩ := h2
 have e := h1 (max k1 k2) (Nat.le_max_left _ _)
 rw [h2 _ (Nat.le_max_right _ _)] at e
 exact (Option.some.inj e).symm
def EvT (mod : ByteArray) (l m : List Cell) : Tree → Int → Prop
 | .num s, v => Ev (fun k => ra_num.f k ⟨s.toArray⟩) v
 | .var a b, v => Ev (fun k => eval_name.f k 2 0 ⟨a.toArray⟩ ⟨b.toArray⟩ 0 0 0 mod l m) v
 | .un o a, v => ∃ x, EvT mod l m a x ∧ eval_Op.f o x 0 = some v
 | .bin o a b, v => ∃ x y, EvT mod l m a x ∧ EvT mod l m b y ∧ eval_Op.f o x y = some v
theorem EvT.one {mod : ByteArray} {l m : List Cell} : ∀ {t : Tree} {v v' : Int}, EvT mod l m t v → EvT mod l m t v' → v = v' := by
 intro t
 induction t with
 | num s => intro v v' h h'; exact ev_one h h'
 | var a b => intro v v' h h'; exact ev_one h h'
 | un o a ih =>
  rintro v v' ⟨x, h1, h2⟩ ⟨x', h1', h2'⟩
  obtain rfl := ih h1 h1'
  exact Option.some.inj (h2.symm.trans h2')
 | bin o a b ia ib =>
  rintro v v' ⟨x, y, h1, h2, h3⟩ ⟨x', y', h1', h2', h3'⟩
  obtain rfl := ia h1 h1'
  obtain rfl := ib h2 h2'
  exact Option.some.inj (h3.symm.trans h3')
def Rep (L : List Nd) : Tree → Int → Prop
 | .num s, j => 0 ≤ j ∧ j < L.length ∧ (rd_T48 L j).f0 = 1 ∧ Ev (fun k => ra_num.f k ⟨s.toArray⟩) (rd_T48 L j).f1
 | .var a b, j => 0 ≤ j ∧ j < L.length ∧ (rd_T48 L j).f0 = 2 ∧ (rd_T48 L j).f2.data.toList = a ∧ (rd_T48 L j).f3.data.toList = b
 | .un o a, j => 0 ≤ j ∧ j < L.length ∧ 3 ≤ o ∧ (rd_T48 L j).f0 = o ∧ (rd_T48 L j).f4 < j ∧ (rd_T48 L j).f5 = -1 ∧ Rep L a (rd_T48 L j).f4
 | .bin o a b, j => 0 ≤ j ∧ j < L.length ∧ 3 ≤ o ∧ (rd_T48 L j).f0 = o ∧ (rd_T48 L j).f4 < j ∧ (rd_T48 L j).f5 < j ∧ Rep L a (rd_T48 L j).f4 ∧ Rep L b (rd_T48 L j).f5
theorem rd_app (L M : List Nd) (j : Int) (h0 : 0 ≤ j) (h1 : j < L.length) : rd_T48 (L ++ M) j = rd_T48 L j := by
 unfold rd_T48
 rw [List.getD_eq_getElem?_getD, List.getD_eq_getElem?_getD, List.getElem?_append_left om]
theorem Rep.within {L : List Nd} : ∀ {t : Tree} {j : Int}, Rep L t j → 0 ≤ j ∧ j < L.length := by
 intro t j h
 cases t <;> exact ⟨h.1, h.2.1⟩
theorem Rep.more {L : List Nd} (M : List Nd) : ∀ {t : Tree} {j : Int}, Rep L t j → Rep (L ++ M) t j := by
 intro t
 have len : ∀ j : Int, j < L.length → j < (L ++ M).length := fun j h => by rw [List.length_append]; omega
 induction t with
 | num s =>
  rintro j ⟨h0, h1, h2, h3⟩
  exact ⟨h0, len j h1, by rw [rd_app L M j h0 h1]; exact h2, by rw [rd_app L M j h0 h1]; exact h3⟩
 | var a b =>
  rintro j ⟨h0, h1, h2, h3, h4⟩
  refine ⟨h0, len j h1, ?_⟩
  rw [rd_app L M j h0 h1]
  exact ⟨h2, h3, h4⟩
 | un o a ih =>
  rintro j ⟨h0, h1, h2, h3, h4, h5, h6⟩
  refine ⟨h0, len j h1, h2, ?_⟩
  rw [rd_app L M j h0 h1]
  exact ⟨h3, h4, h5, ih h6⟩
 | bin o a b ia ib =>
  rintro j ⟨h0, h1, h2, h3, h4, h5, h6, h7⟩
  refine ⟨h0, len j h1, h2, ?_⟩
  rw [rd_app L M j h0 h1]
  exact ⟨h3, h4, h5, ia h6, ib h7⟩
theorem node_t {ns : List Nd} {mod : ByteArray} {l m : List Cell} {vs : List Int} {i : Int} (hl : l.length ≤ 1000000000) (hm : m.length ≤ 1000000000) (H : ∀ (j : Int) (t : Tree), j < i → Rep ns t j → EvT mod l m t (rd vs j)) : EvP (fun k => eval_Value.node k vs i (rd_T48 ns i) mod l m) (fun v => ∀ t, Rep ns t i → EvT mod l m t v) := by
 have kid : ∀ (k : Int) (a : Tree), k < i → Rep ns a k → EvT mod l m a (eval_Value.kid vs i k) := by
  intro k a hk ha
  unfold eval_Value.kid
  rw [if_neg (by have := ha.within; omega), if_neg om]
  exact H k a hk ha
 unfold eval_Value.node
 refine ways (fun c1 => done (fun t h => ?_)) (fun c1 => ways (fun c2 => ?_) (fun c2 => ?_))
 ·
  cases t with
  | num s => exact h.2.2.2
  | var a b => have := h.2.2.1; omega
  | un o a => have := h.2.2; omega
  | bin o a b => have := h.2.2; omega
 ·
  obtain ⟨v, e, _⟩ := name_t (l := l) (m := m) (rd_T48 ns i).f0 (rd_T48 ns i).f1 (rd_T48 ns i).f2 (rd_T48 ns i).f3 (rd_T48 ns i).f4 (rd_T48 ns i).f5 (rd_T48 ns i).f6 mod hl hm
  refine ⟨v, e, fun t h => ?_⟩
  cases t with
  | num s => have := h.2.2.1; omega
  | var a b =>
   obtain ⟨h0, h1, h2, h3, h4⟩ := h
   subst h3 h4
   exact e
  | un o a => have := h.2.2; omega
  | bin o a b => have := h.2.2; omega
 ·
  obtain ⟨v, hv⟩ := op_told (rd_T48 ns i).f0 (eval_Value.kid vs i (rd_T48 ns i).f4) (eval_Value.kid vs i (rd_T48 ns i).f5)
  rw [hv]
  refine done (fun t h => ?_)
  cases t with
  | num s => exact absurd h.2.2.1 c1
  | var a b => exact absurd h.2.2.1 c2
  | un o a =>
   obtain ⟨h0, h1, h2, h3, h4, h5, h6⟩ := h
   rw [h3, h5, show eval_Value.kid vs i (-1) = 0 from if_pos om] at hv
   exact ⟨_, kid _ a h4 h6, hv⟩
  | bin o a b =>
   obtain ⟨h0, h1, h2, h3, h4, h5, h6, h7⟩ := h
   rw [h3] at hv
   exact ⟨_, _, kid _ a h4 h6, kid _ b h5 h7, hv⟩
theorem loop_tree (ns : List Nd) (at_ : Nat) (mod : ByteArray) (l m : List Cell) (hl : l.length ≤ 1000000000) (hm : m.length ≤ 1000000000) : ∀ (d i : Nat) (vs : List Int), i + d = at_ + 1 → vs.length = at_ + 1 → (∀ (j : Int) (t : Tree), j < i → Rep ns t j → EvT mod l m t (rd vs j)) → EvP (fun k => eval_Value.l0 k ns (at_ : Int) mod l m vs (i : Int)) (fun r => ∀ t, Rep ns t (at_ : Int) → EvT mod l m t r) := by
 intro d
 induction d with
 | zero =>
  intro i vs hd hv H
  refine more ?_
  simp only [eval_Value.l0]
  exact ways (fun z => absurd z om) (fun _ => done (fun t h => H _ t om h))
 | succ d ih =>
  intro i vs hd hv H
  refine more ?_
  simp only [eval_Value.l0]
  refine gate om (andThen (node_t hl hm H) (fun v hv2 => ih (i + 1) (vs.set i v) om (by rw [List.length_set]; exact hv) (fun j t hj ht => ?_)))
  by_cases e : j = (i : Int)
  ·
   subst e
   rw [rd_set_eq vs i _ om]
   exact hv2 t ht
  ·
   rw [rd_set_ne vs i j _ ht.within.1 e]
   exact H j t om ht
theorem value_tree (ns : List Nd) (a1 : Int) (t : Tree) (mod : ByteArray) (l m : List Cell) (hn : ns.length ≤ 1000000000) (hl : l.length ≤ 1000000000) (hm : m.length ≤ 1000000000) (h : Rep ns t a1) : EvP (fun k => eval_Value.f k ns a1 mod l m) (EvT mod l m t) := by
 obtain ⟨h0, h1⟩ := h.within
 obtain ⟨at_, rfl⟩ : ∃ at_ : Nat, a1 = (at_ : Int) := ⟨a1.toNat, om⟩
 unfold eval_Value.f
 rw [show ((at_ : Int) + 1).toNat = at_ + 1 by omega]
 refine ways (fun z => absurd z om) (fun _ => ways (fun z => absurd z om) (fun _ => gate om ?_))
 exact weaker (loop_tree ns at_ mod l m hl hm (at_ + 1) 0 (List.replicate (at_ + 1) 0) om (by rw [List.length_replicate]) (fun j t hj ht => by have := ht.within; omega)) (fun r hr => hr t h)
def Toks (l : List Tok) : Prop := l.length ≤ 10000 ∧ (∀ j : Int, 0 ≤ j → j < l.length → (rd_T69 l j).f0 ≠ 0 → j + 1 < l.length) ∧ ∀ j : Int, 0 ≤ j → j < l.length → (rd_T69 l j).f1.size ≤ 10000
section
variable {β : Type} {Q : β → Prop} {l : List Tok} {i d e a : Int} {s : ByteArray}
theorem here_b {F : Nat → (Int × Int × Int × Int × Int) → Option β} (h0 : 0 ≤ i) (h1 : i < l.length) (k : EvP (fun n => F n ((rd_T69 l i).f2, i, d, e, a)) Q) : EvP (fun n => (rr_here.f l i d e a).bind (F n)) Q :=
 known (by unfold rr_here.f; rw [if_pos h0, if_pos h1]) k
theorem fail_b {F : Nat → (Int × Int × Int × Int) → Option β} {c : Int} (hc : c ≠ 0) (h0 : 0 ≤ i) (h1 : i < l.length) (k : ∀ e' a', e' ≠ 0 → EvP (fun n => F n (i, d, e', a')) Q) : EvP (fun n => (rr_fail.f l i d e a c).bind (F n)) Q := by
 unfold rr_fail.f
 by_cases h : e = 0
 ·
  rw [if_pos h, if_pos h0, if_pos h1]
  exact known rfl (k _ _ hc)
 ·
  rw [if_neg h]
  exact known rfl (k _ _ h)
theorem num_loop (s : ByteArray) (hs : s.size ≤ 10000) : ∀ (d i : Nat) (x : Int), i + d = s.size → ∃ v, Ev (fun k => ra_num.l0 k s x (i : Int)) v := by
 intro d
 induction d with
 | zero =>
  intro i x hi
  refine ⟨x, Ev.step (f := fun _ => some x) (fun k => ?_) ⟨0, fun _ _ => rfl⟩⟩
  simp only [ra_num.l0]
  rw [if_neg om]
 | succ d ih =>
  intro i x hi
  obtain ⟨v, h⟩ := ih (i + 1) (wrap64 ((wrap64 (10 * x)) + (((bt s (i : Int)) - 48) % 256))) om
  refine ⟨v, Ev.step (fun k => ?_) h⟩
  simp only [ra_num.l0]
  rw [if_pos om, if_pos om, w64 (n := (i : Int) + 1) om om]
  rfl
end
def tk (l : List Tok) (i : Int) : AT := ((rd_T69 l i).f0, (rd_T69 l i).f1.data.toList)
theorem is_eq {l : List Tok} {i d e a : Int} {s : ByteArray} (h0 : 0 ≤ i) (h1 : i < l.length) : rr_is.f l i d e a s = some (if e = 0 then sg (tk l i) s.data.toList else false, i, d, e, a) := by
 unfold rr_is.f sg tk
 rw [Lib.toList_data, Lib.toList_data]
 rw [if_pos h0, if_pos h1]
 by_cases he : e = 0
 ·
  rw [if_pos he, if_pos he]
  by_cases h4 : (rd_T69 l i).f0 = 4
  ·
   rw [if_pos h4, h4]
   simp
  ·
   rw [if_neg h4]
   by_cases h3 : (rd_T69 l i).f0 = 3
   ·
    rw [if_pos h3, h3]
    simp
   ·
    rw [if_neg h3]
    simp [h4, h3]
 ·
  rw [if_neg he, if_neg he]
section
variable {β : Type} {Q : β → Prop} {l : List Tok} {i d e a : Int} {s : ByteArray}
theorem is_s (T : Toks l) {F : Nat → (Bool × Int × Int × Int × Int) → Option β} (h0 : 0 ≤ i) (h1 : i < l.length) (yes : e = 0 → i + 1 < l.length → sg (tk l i) s.data.toList = true → EvP (fun n => F n (true, i, d, e, a)) Q) (no : (e = 0 → ¬ sg (tk l i) s.data.toList = true) → EvP (fun n => F n (false, i, d, e, a)) Q) :
  EvP (fun n => (rr_is.f l i d e a s).bind (F n)) Q := by
 refine known (is_eq h0 h1) ?_
 by_cases he : e = 0
 ·
  rw [if_pos he]
  cases hs : sg (tk l i) s.data.toList with
  | true => exact yes he (T.2.1 i h0 h1 (sg_kind hs).1) hs
  | false => exact no (fun _ => by rw [hs]; exact Bool.false_ne_true)
 ·
  rw [if_neg he]
  exact no (fun z => absurd z he)
theorem take_s (T : Toks l) {F : Nat → (Bool × Int × Int × Int × Int) → Option β} (h0 : 0 ≤ i) (h1 : i < l.length) (yes : e = 0 → i + 1 < l.length → sg (tk l i) s.data.toList = true → EvP (fun n => F n (true, i + 1, d, e, a)) Q) (no : (e = 0 → ¬ sg (tk l i) s.data.toList = true) → EvP (fun n => F n (false, i, d, e, a)) Q) :
  EvP (fun n => (rr_take.f l i d e a s).bind (F n)) Q := by
 have h : EvP (fun n => rr_take.f l i d e a s) (fun r => (r = (true, i + 1, d, e, a) ∧ e = 0 ∧ i + 1 < l.length ∧ sg (tk l i) s.data.toList = true) ∨ (r = (false, i, d, e, a) ∧ (e = 0 → ¬ sg (tk l i) s.data.toList = true))) := by
  unfold rr_take.f
  refine is_s T h0 h1 (fun he hi hs => ?_) (fun hn => ?_)
  ·
   have := T.1
   dsimp only
   exact done (.inl ⟨by rw [w64 om om], he, hi, hs⟩)
  ·
   exact done (.inr ⟨rfl, hn⟩)
 refine andThen h (fun r hr => ?_)
 rcases hr with ⟨rfl, he, hi, hs⟩ | ⟨rfl, hn⟩
 ·
  exact yes he hi hs
 ·
  exact no hn
theorem want_s (T : Toks l) {F : Nat → (Int × Int × Int × Int) → Option β} (h0 : 0 ≤ i) (h1 : i < l.length) (k : ∀ i' e' a', i ≤ i' → i' ≤ i + 1 → i' < l.length → (e' = 0 → e = 0 ∧ i' = i + 1 ∧ sg (tk l i) s.data.toList = true) → EvP (fun n => F n (i', d, e', a')) Q) :
  EvP (fun n => (rr_want.f l i d e a s).bind (F n)) Q := by
 have h : EvP (fun n => rr_want.f l i d e a s) (fun r => ∃ i' e' a', r = (i', d, e', a') ∧ i ≤ i' ∧ i' ≤ i + 1 ∧ i' < l.length ∧ (e' = 0 → e = 0 ∧ i' = i + 1 ∧ sg (tk l i) s.data.toList = true)) := by
  unfold rr_want.f
  refine take_s T h0 h1 (fun he hi hs => ?_) (fun _ => ?_)
  ·
   dsimp only
   exact done ⟨_, _, _, rfl, om, om, hi, fun _ => ⟨he, rfl, hs⟩⟩
  ·
   simp only [Bool.false_eq_true, if_false]
   exact fail_b om h0 h1 (fun e' a' he' => done ⟨_, _, _, rfl, om, om, h1, fun z => absurd z he'⟩)
 refine andThen h (fun r hr => ?_)
 obtain ⟨i', e', a', rfl, k1, k2, k3, k4⟩ := hr
 exact k i' e' a' k1 k2 k3 k4
theorem name_s (T : Toks l) {F : Nat → (ByteArray × Int × Int × Int × Int) → Option β} (h0 : 0 ≤ i) (h1 : i < l.length) (k : ∀ s i' e' a', i ≤ i' → i' ≤ i + 1 → i' < l.length → (e' = 0 → e = 0 ∧ i' = i + 1 ∧ (tk l i).1 = 1 ∧ s.data.toList = (tk l i).2) → EvP (fun n => F n (s, i', d, e', a')) Q) :
  EvP (fun n => (rr_name.f l i d e a).bind (F n)) Q := by
 have h : EvP (fun n => rr_name.f l i d e a) (fun r => ∃ s i' e' a', r = (s, i', d, e', a') ∧ i ≤ i' ∧ i' ≤ i + 1 ∧ i' < l.length ∧ (e' = 0 → e = 0 ∧ i' = i + 1 ∧ (tk l i).1 = 1 ∧ s.data.toList = (tk l i).2)) := by
  unfold rr_name.f
  refine gate h0 (gate h1 (ways (fun he => ways (fun h2 => ?_) (fun _ => ?_)) (fun _ => ?_)))
  ·
   have := T.2.1 i h0 h1 om
   have := T.1
   exact done ⟨_, _, _, _, by rw [w64 om om], om, om, om, fun _ => ⟨he, rfl, h2, rfl⟩⟩
  ·
   exact fail_b om h0 h1 (fun e' a' he' => done ⟨_, _, _, _, rfl, om, om, h1, fun z => absurd z he'⟩)
  ·
   exact fail_b om h0 h1 (fun e' a' he' => done ⟨_, _, _, _, rfl, om, om, h1, fun z => absurd z he'⟩)
 refine andThen h (fun r hr => ?_)
 obtain ⟨s, i', e', a', rfl, k1, k2, k3, k4⟩ := hr
 exact k s i' e' a' k1 k2 k3 k4
def Qn (l : List Tok) (i : Int) (s t : ByteArray) (i' : Int) : Prop := (tk l i).1 = 1 ∧ ((sg (tk l (i + 1)) [46] = true ∧ (tk l (i + 2)).1 = 1 ∧ s.data.toList = (tk l i).2 ∧ t.data.toList = (tk l (i + 2)).2 ∧ i' = i + 3) ∨ (¬ sg (tk l (i + 1)) [46] = true ∧ s.data.toList = [] ∧ t.data.toList = (tk l i).2 ∧ i' = i + 1))
theorem qname_s (T : Toks l) {F : Nat → (ByteArray × ByteArray × Int × Int × Int × Int) → Option β} (h0 : 0 ≤ i) (h1 : i < l.length) (k : ∀ s t i' e' a', i ≤ i' → i' < l.length → (e' = 0 → e = 0 ∧ i < i' ∧ Qn l i s t i') → EvP (fun n => F n (s, t, i', d, e', a')) Q) :
  EvP (fun n => (rr_qname.f l i d e a).bind (F n)) Q := by
 have h : EvP (fun n => rr_qname.f l i d e a) (fun r => ∃ s t i' e' a', r = (s, t, i', d, e', a') ∧ i ≤ i' ∧ i' < l.length ∧ (e' = 0 → e = 0 ∧ i < i' ∧ Qn l i s t i')) := by
  unfold rr_qname.f
  refine name_s T h0 h1 (fun s1 i1 e1 a1 q1 q2 q3 q4 => ?_)
  dsimp only
  refine take_s T om q3 (fun he hi hs => gate rfl ?_) (fun hn => nw ?_)
  ·
   dsimp only
   refine name_s T om hi (fun s2 i2 e2 a2 p1 p2 p3 p4 => ?_)
   dsimp only
   refine done ⟨_, _, _, _, _, rfl, om, om, fun z => ?_⟩
   obtain ⟨z1, z2, z3, z4⟩ := p4 z
   obtain ⟨y1, y2, y3, y4⟩ := q4 z1
   subst y2
   exact ⟨y1, om, y3, .inl ⟨hs, by rwa [show i + 2 = i + 1 + 1 by omega], y4, by rwa [show i + 2 = i + 1 + 1 by omega], om⟩⟩
  ·
   dsimp only
   refine done ⟨_, _, _, _, _, rfl, om, om, fun z => ?_⟩
   obtain ⟨y1, y2, y3, y4⟩ := q4 z
   subst y2
   exact ⟨y1, om, y3, .inr ⟨hn z, rfl, y4, rfl⟩⟩
 refine andThen h (fun r hr => ?_)
 obtain ⟨s, t, i', e', a', rfl, k1, k3, k4⟩ := hr
 exact k s t i' e' a' k1 k3 k4
theorem num_s {F : Nat → Int → Option β} (hs : s.size ≤ 10000) (k : ∀ v, Ev (fun n => ra_num.f n s) v → EvP (fun n => F n v) Q) : EvP (fun n => (ra_num.f n s).bind (F n)) Q := by
 obtain ⟨v, h⟩ := num_loop s hs s.size 0 0 om
 exact andThen (g := fun n => ra_num.f n s) (P := fun r => r = v) ⟨v, h, rfl⟩ (fun r e => by subst e; exact k _ h)
theorem two_s {F : Nat → List Nd → Option β} {L : List Nd} {x y z : Int} (hL : L.length ≤ 1000000) (k : EvP (fun n => F n (L ++ [⟨y, 0, ⟨#[]⟩, ⟨#[]⟩, x, (L.length : Int) - 1, z⟩])) Q) : EvP (fun n => (ra_two.f L x y z).bind (F n)) Q :=
 known (by unfold ra_two.f; rw [if_pos om, w64 om om]) k
theorem is_b (T : Toks l) {F : Nat → (Bool × Int × Int × Int × Int) → Option β} (h0 : 0 ≤ i) (h1 : i < l.length) (yes : e = 0 → i + 1 < l.length → EvP (fun n => F n (true, i, d, e, a)) Q) (no : EvP (fun n => F n (false, i, d, e, a)) Q) :
  EvP (fun n => (rr_is.f l i d e a s).bind (F n)) Q := is_s T h0 h1 (fun a b _ => yes a b) (fun _ => no)
theorem take_b (T : Toks l) {F : Nat → (Bool × Int × Int × Int × Int) → Option β} (h0 : 0 ≤ i) (h1 : i < l.length) (yes : e = 0 → i + 1 < l.length → EvP (fun n => F n (true, i + 1, d, e, a)) Q) (no : EvP (fun n => F n (false, i, d, e, a)) Q) :
  EvP (fun n => (rr_take.f l i d e a s).bind (F n)) Q := take_s T h0 h1 (fun a b _ => yes a b) (fun _ => no)
theorem want_b (T : Toks l) {F : Nat → (Int × Int × Int × Int) → Option β} (h0 : 0 ≤ i) (h1 : i < l.length) (k : ∀ i' e' a', i ≤ i' → i' ≤ i + 1 → i' < l.length → (e' = 0 → e = 0 ∧ i' = i + 1) → EvP (fun n => F n (i', d, e', a')) Q) :
  EvP (fun n => (rr_want.f l i d e a s).bind (F n)) Q := want_s T h0 h1 (fun i' e' a' p q r z => k i' e' a' p q r (fun y => ⟨(z y).1, (z y).2.1⟩))
theorem name_b (T : Toks l) {F : Nat → (ByteArray × Int × Int × Int × Int) → Option β} (h0 : 0 ≤ i) (h1 : i < l.length) (k : ∀ s i' e' a', i ≤ i' → i' ≤ i + 1 → i' < l.length → (e' = 0 → e = 0 ∧ i' = i + 1) → EvP (fun n => F n (s, i', d, e', a')) Q) :
  EvP (fun n => (rr_name.f l i d e a).bind (F n)) Q := name_s T h0 h1 (fun s i' e' a' p q r z => k s i' e' a' p q r (fun y => ⟨(z y).1, (z y).2.1⟩))
theorem open_b (T : Toks l) {F : Nat → (Int × Int × Int × Int) → Option β} (h0 : 0 ≤ i) (h1 : i < l.length) (k : ∀ i' d' e' a', i ≤ i' → i' ≤ i + 1 → i' < l.length → (e' = 0 → e = 0 ∧ i' = i + 1) → EvP (fun n => F n (i', d', e', a')) Q) :
  EvP (fun n => (rr_open.f n l i d e a s).bind (F n)) Q := by
 have hj : ∀ b : Bool, EvP (fun n => rr_open.j0 n s b l i d e a) (fun r => ∃ i' d' e' a', r = (i', d', e', a') ∧ i ≤ i' ∧ i' ≤ i + 1 ∧ i' < l.length ∧ (e' = 0 → e = 0 ∧ i' = i + 1)) := by
  intro b
  refine more ?_
  simp only [rr_open.j0]
  refine ways (fun _ => ?_) (fun _ => ?_)
  ·
   exact fail_b om h0 h1 (fun e' a' he' => want_b T h0 h1 (fun i2 e2 a2 q1 q2 q3 q4 => done ⟨_, _, _, _, rfl, q1, q2, q3, fun z => absurd (q4 z).1 he'⟩))
  ·
   exact want_b T h0 h1 (fun i2 e2 a2 q1 q2 q3 q4 => done ⟨_, _, _, _, rfl, q1, q2, q3, q4⟩)
 have h : EvP (fun n => rr_open.f n l i d e a s) (fun r => ∃ i' d' e' a', r = (i', d', e', a') ∧ i ≤ i' ∧ i' ≤ i + 1 ∧ i' < l.length ∧ (e' = 0 → e = 0 ∧ i' = i + 1)) := by
  unfold rr_open.f
  exact is_b T h0 h1 (fun _ _ => gate rfl (hj _)) (ways (fun z => absurd z Bool.false_ne_true) (fun _ => hj _))
 refine andThen h (fun r hr => ?_)
 obtain ⟨i', d', e', a', rfl, k1, k2, k3, k4⟩ := hr
 exact k i' d' e' a' k1 k2 k3 k4
theorem qname_b (T : Toks l) {F : Nat → (ByteArray × ByteArray × Int × Int × Int × Int) → Option β} (h0 : 0 ≤ i) (h1 : i < l.length) (k : ∀ s t i' e' a', i ≤ i' → i' < l.length → (e' = 0 → e = 0 ∧ i < i') → EvP (fun n => F n (s, t, i', d, e', a')) Q) :
  EvP (fun n => (rr_qname.f l i d e a).bind (F n)) Q := qname_s T h0 h1 (fun s t i' e' a' p q z => k s t i' e' a' p q (fun y => ⟨(z y).1, (z y).2.1⟩))
theorem num_b {F : Nat → Int → Option β} (hs : s.size ≤ 10000) (k : ∀ v, EvP (fun n => F n v) Q) : EvP (fun n => (ra_num.f n s).bind (F n)) Q := num_s hs (fun v _ => k v)
end
def Mean (l : List Tok) (md : Md) (i i' : Int) (L L' : List Nd) : Prop := (∃ M, L' = L ++ M) ∧ ∃ k t, P k md (tk l) i = some (t, i') ∧ Rep L' t ((L'.length : Int) - 1)
theorem rd_last (L : List Nd) (n : Nd) : rd_T48 (L ++ [n]) (L.length : Int) = n := by
 unfold rd_T48
 simp [List.getD_eq_getElem?_getD]
theorem len1 (A : List Nd) (x : Nd) : ((A ++ [x]).length : Int) = A.length + 1 := by
 rw [List.length_append, List.length_singleton]
 omega
theorem rep_un {L : List Nd} {t : Tree} {o z : Int} {b b' : ByteArray} (h : Rep L t ((L.length : Int) - 1)) (ho : 3 ≤ o) : Rep (L ++ [⟨o, 0, b, b', (L.length : Int) - 1, -1, z⟩]) (.un o t) (((L ++ [(⟨o, 0, b, b', (L.length : Int) - 1, -1, z⟩ : Nd)]).length : Int) - 1) := by
 rw [show (((L ++ [(⟨o, 0, b, b', (L.length : Int) - 1, -1, z⟩ : Nd)]).length : Int) - 1) = L.length by rw [len1]; omega]
 refine ⟨om, by rw [len1]; omega, ho, ?_⟩
 rw [rd_last]
 exact ⟨rfl, by dsimp only; omega, rfl, h.more _⟩
theorem rep_bin {L M : List Nd} {a b : Tree} {o z : Int} {c c' : ByteArray} (ha : Rep L a ((L.length : Int) - 1)) (hb : Rep (L ++ M) b (((L ++ M).length : Int) - 1)) (ho : 3 ≤ o) : Rep ((L ++ M) ++ [⟨o, 0, c, c', (L.length : Int) - 1, ((L ++ M).length : Int) - 1, z⟩]) (.bin o a b) ((((L ++ M) ++ [(⟨o, 0, c, c', (L.length : Int) - 1, ((L ++ M).length : Int) - 1, z⟩ : Nd)]).length : Int) - 1) := by
 rw [show ((((L ++ M) ++ [(⟨o, 0, c, c', (L.length : Int) - 1, ((L ++ M).length : Int) - 1, z⟩ : Nd)]).length : Int) - 1) = ((L ++ M).length : Nat) by rw [len1]; omega]
 have hl : L.length ≤ (L ++ M).length := by rw [List.length_append]; omega
 refine ⟨om, by rw [len1]; omega, ho, ?_⟩
 rw [rd_last]
 exact ⟨rfl, by dsimp only; omega, by dsimp only; omega, (ha.more _).more _, hb.more _⟩
def Nodes0 (l : List Tok) (md : Tree → Md) (C i e : Int) (L : List Nd) (r : List Nd × Int × Int × Int × Int) : Prop := ∃ L' i' d' e' a', r = (L', i', d', e', a') ∧ i ≤ i' ∧ i' < l.length ∧ (e' = 0 → e = 0) ∧ (e' = 0 → L'.length + l.length - i' + 1 ≤ C) ∧ L'.length + l.length - i' ≤ C ∧ (e' = 0 → ∀ a, Rep L a ((L.length : Int) - 1) → Mean l (md a) i i' L L')
def Nodes (l : List Tok) (md : Md) (C i e : Int) (L : List Nd) (r : List Nd × Int × Int × Int × Int) : Prop := ∃ L' i' d' e' a', r = (L', i', d', e', a') ∧ i ≤ i' ∧ i' < l.length ∧ (e' = 0 → e = 0 ∧ i < i') ∧ (e' = 0 → L'.length + l.length - i' + 1 ≤ C) ∧ L'.length + l.length - i' ≤ C ∧ (e' = 0 → Mean l md i i' L L')
def Told (l : List Tok) (m : Int) (g : Nat → Int → Int → Int → Int → List Nd → Option (List Nd × Int × Int × Int × Int)) (P : Int → Int → Int → List Nd → (List Nd × Int × Int × Int × Int) → Prop) : Prop :=
 ∀ (i d e a C : Int) (L : List Nd), 0 ≤ i → i < l.length → (e = 0 → l.length - i + 1 ≤ m) → l.length - i ≤ m → C ≤ 100000 → (e = 0 → L.length + l.length - i + 1 ≤ C) → L.length + l.length - i ≤ C → EvP (fun n => g n i d e a L) (P C i e L)
theorem mean_un {l : List Tok} {i i2 : Int} {L L2 : List Nd} {o z : Int} (h : Mean l .u (i + 1) i2 L L2) (ho : 3 ≤ o) (hp : ∀ k t, P k .u (tk l) (i + 1) = some (t, i2) → P (k + 1) .u (tk l) i = some (.un o t, i2)) : Mean l .u i i2 L (L2 ++ [⟨o, 0, ⟨#[]⟩, ⟨#[]⟩, (L2.length : Int) - 1, -1, z⟩]) := by
 obtain ⟨⟨M, rfl⟩, k, t, h1, h2⟩ := h
 exact ⟨⟨_, List.append_assoc _ _ _⟩, k + 1, _, hp k t h1, rep_un h2 ho⟩
section
variable {l : List Tok} {m : Int}
theorem unary_t (T : Toks l) (hu : Told l (m - 1) (fun n i d e a L => rr_unary.f n l i d e a L) (Nodes l .u)) (hx : Told l (m - 1) (fun n i d e a L => rr_expr.f n l i d e a L) (Nodes l .x)) :
  Told l m (fun n i d e a L => rr_unary.f n l i d e a L) (Nodes l .u) := by
 intro i d e a C L h0 h1 m1 m2 hC c1 c2
 have T1 := T.1
 have hj : ∀ b : Bool, e = 0 → (b = true → sg (tk l i) [45] = true ∨ sg (tk l i) [33] = true) → (b = false → ¬ sg (tk l i) [45] = true ∧ ¬ sg (tk l i) [33] = true) → EvP (fun n => rr_unary.j0 n L b l i d e a (rd_T69 l i).f0 (rd_T69 l i).f1 (rd_T69 l i).f2) (Nodes l .u C i e L) := by
  intro b he hb hb2
  refine more ?_
  simp only [rr_unary.j0]
  rw [Lib.toList_data]
  have sign : ∀ o : Int, 3 ≤ o → (∀ k t i2, P k .u (tk l) (i + 1) = some (t, i2) → P (k + 1) .u (tk l) i = some (.un o t, i2)) → EvP (fun k => (rr_open.f k l i d e a (rd_T69 l i).f1).bind fun bt254 => ((rr_unary.f k l bt254.1 bt254.2.1 bt254.2.2.1 bt254.2.2.2 L).bind fun bt258 => (if bt258.1.length < 1954687338268 then (some ((bt258.1 ++ [(⟨o, 0, (⟨#[]⟩ : ByteArray), (⟨#[]⟩ : ByteArray), wrap64 ((bt258.1.length : Int) - 1), (-1), (rd_T69 l i).f2⟩ : Nd)]), bt258.2.1, wrap64 (bt258.2.2.1 - 1), bt258.2.2.2.1, bt258.2.2.2.2)) else (none)))) (Nodes l .u C i e L) := by
   intro o ho hp
   refine open_b T h0 h1 (fun i' d' e' a' q1 q2 q3 q4 => ?_)
   dsimp only
   refine andThen (hu i' d' e' a' (C - 1) L om q3 om om om om om) (fun r hr => ?_)
   obtain ⟨L2, i2, d2, e2, a2, rfl, p1, p2, p3, p4, p5, p6⟩ := hr
   dsimp only
   rw [w64 (n := (L2.length : Int) - 1) om om]
   refine gate om (done ⟨_, _, _, _, _, rfl, om, om, om, ?_, ?_, fun z => ?_⟩)
   ·
    exact zl
   ·
    exact zl
   ·
    have hi := (q4 (p3 z).1).2
    subst hi
    exact mean_un (p6 z) ho (fun k t h => hp k t _ h)
  refine ways (fun hbt => ways (fun h33 => ?_) (fun h33 => ?_)) (fun hbf => ?_)
  ·
   have hs : sg (tk l i) [33] = true := by
    rcases hb hbt with z | z
    ·
     exact sg_of z h33
    ·
     exact z
   exact sign 4 om (fun k t i2 h => by rw [P, if_pos hs, h, Option.bind_some])
  ·
   have hs : ¬ sg (tk l i) [33] = true := fun z => h33 (sg_kind z).2
   have hs2 : sg (tk l i) [45] = true := (hb hbt).resolve_right hs
   exact sign 3 om (fun k t i2 h => by rw [P, if_neg hs, if_pos hs2, h, Option.bind_some])
  ·
   obtain ⟨n45, n33⟩ := hb2 (Bool.eq_false_iff.mpr hbf)
   refine is_s T h0 h1 (fun _ _ hs => gate rfl ?_) (fun hn => nw ?_)
   ·
    dsimp only
    refine open_b T h0 h1 (fun i' d' e' a' q1 q2 q3 q4 => ?_)
    dsimp only
    refine andThen (hx i' d' e' a' (C - 1) L om q3 om om om om om) (fun r hr => ?_)
    obtain ⟨L2, i2, d2, e2, a2, rfl, p1, p2, p3, p4, p5, p6⟩ := hr
    dsimp only
    refine want_s T om p2 (fun i3 e3 a3 t1 t2 t3 t4 => ?_)
    dsimp only
    refine done ⟨_, _, _, _, _, rfl, om, om, fun z => by have := t4 z; omega, fun z => by have := t4 z; omega, om, fun z => ?_⟩
    obtain ⟨z1, z2, z3⟩ := t4 z
    have hi := (q4 (p3 z1).1).2
    subst hi z2
    obtain ⟨hM, k, t, g1, g2⟩ := p6 z1
    exact ⟨hM, k + 1, t, by rw [P, if_neg n33, if_neg n45, if_pos hs, g1, Option.bind_some, if_pos z3], g2⟩
   ·
    dsimp only
    have hn40 := hn he
    refine ways (fun h2 => ?_) (fun h2 => ways (fun h3 => ?_) (fun _ => ?_))
    ·
     refine num_s (T.2.2 i h0 h1) (fun v hv => gate om ?_)
     have := T.2.1 i h0 h1 om
     rw [w64 (n := i + 1) om om]
     refine done ⟨_, _, _, _, _, rfl, om, om, om, ?_, ?_, fun z => ⟨⟨_, rfl⟩, 1, _, by rw [P, if_neg n33, if_neg n45, if_neg hn40, if_pos (show (tk l i).1 = 2 from h2)], ?_⟩⟩
     ·
      exact zl
     ·
      exact zl
     ·
      rw [len1, show (L.length : Int) + 1 - 1 = L.length by omega]
      refine ⟨om, by rw [len1]; omega, ?_⟩
      rw [rd_last]
      exact ⟨rfl, hv⟩
    ·
     refine qname_s T h0 h1 (fun s t i' e' a' q1 q2 q3 => ?_)
     dsimp only
     refine gate om (done ⟨_, _, _, _, _, rfl, om, om, fun z => by have := q3 z; omega, ?_, ?_, fun z => ?_⟩)
     ·
      intro z
      have := q3 z
      exact zl
     ·
      exact zl
     ·
      obtain ⟨z1, z2, z3, z4⟩ := q3 z
      have hr : ∀ u v : List UInt8, s.data.toList = u → t.data.toList = v → Rep (L ++ [(⟨2, 0, s, t, -1, -1, (rd_T69 l i).f2⟩ : Nd)]) (.var u v) (((L ++ [(⟨2, 0, s, t, -1, -1, (rd_T69 l i).f2⟩ : Nd)]).length : Int) - 1) := by
       intro u v hu hv
       rw [len1, show (L.length : Int) + 1 - 1 = L.length by omega]
       refine ⟨om, by rw [len1]; omega, ?_⟩
       rw [rd_last]
       exact ⟨rfl, hu, hv⟩
      rcases z4 with ⟨y1, y2, y3, y4, rfl⟩ | ⟨y1, y2, y3, rfl⟩
      ·
       exact ⟨⟨_, rfl⟩, 1, _, by rw [P, if_neg n33, if_neg n45, if_neg hn40, if_neg (show ¬ (tk l i).1 = 2 from h2), if_pos z3, if_pos y1, if_pos y2], hr _ _ y3 y4⟩
      ·
       exact ⟨⟨_, rfl⟩, 1, _, by rw [P, if_neg n33, if_neg n45, if_neg hn40, if_neg (show ¬ (tk l i).1 = 2 from h2), if_pos z3, if_neg y1], hr _ _ y2 y3⟩
    ·
     refine fail_b om h0 h1 (fun e' a' he' => ?_)
     dsimp only
     exact done ⟨_, _, _, _, _, rfl, om, om, fun z => om, fun z => om, om, fun z => absurd z he'⟩
 refine more ?_
 simp only [rr_unary.f]
 refine ways (fun he => gate h0 (gate h1 ?_)) (fun he => done ⟨_, _, _, _, _, rfl, om, om, fun z => om, fun z => om, om, fun z => absurd z he⟩)
 refine is_s T h0 h1 (fun _ _ hs => gate rfl (hj _ he (fun _ => .inl hs) (fun z => by cases z))) (fun hn => nw ?_)
 dsimp only
 exact is_s T h0 h1 (fun _ _ hs => hj _ he (fun _ => .inr hs) (fun z => by cases z)) (fun hn2 => hj _ he (fun z => by cases z) (fun _ => ⟨hn he, hn2 he⟩))
theorem back0 {md : Tree → Md} {C i e i2 e2 : Int} {L L2 : List Nd} {r : List Nd × Int × Int × Int × Int} (h : Nodes0 l md C i2 e2 L2 r) (hi : i ≤ i2) (he : e2 = 0 → e = 0) (hm : ∀ i' L', e2 = 0 → (∀ a, Rep L2 a ((L2.length : Int) - 1) → Mean l (md a) i2 i' L2 L') → ∀ a, Rep L a ((L.length : Int) - 1) → Mean l (md a) i i' L L') : Nodes0 l md C i e L r := by
 obtain ⟨L', i', d', e', a', rfl, p1, p2, p3, p4, p5, p6⟩ := h
 exact ⟨L', i', d', e', a', rfl, om, p2, fun z => he (p3 z), p4, p5, fun z => hm _ _ (p3 z) (p6 z)⟩
theorem back1 {md : Tree → Md} {mv mw : Md} {C i e i2 e2 : Int} {L L2 : List Nd} {r : List Nd × Int × Int × Int × Int} (h : Nodes0 l md C i2 e2 L2 r) (hi : i ≤ i2) (he : e2 = 0 → e = 0 ∧ i < i2) (hm : e2 = 0 → Mean l mv i i2 L L2) (hp : ∀ k a t i', P k mv (tk l) i = some (a, i2) → P k (md a) (tk l) i2 = some (t, i') → P (k + 1) mw (tk l) i = some (t, i')) : Nodes l mw C i e L r := by
 obtain ⟨L', i', d', e', a', rfl, p1, p2, p3, p4, p5, p6⟩ := h
 refine ⟨L', i', d', e', a', rfl, om, p2, fun z => ⟨(he (p3 z)).1, by have := (he (p3 z)).2; omega⟩, p4, p5, fun z => ?_⟩
 obtain ⟨⟨M1, e1⟩, k1, t1, g1, g2⟩ := hm (p3 z)
 obtain ⟨⟨M2, e2⟩, k2, t2, g3, g4⟩ := p6 z t1 g2
 exact ⟨⟨M1 ++ M2, by rw [e2, e1, List.append_assoc]⟩, _, t2, hp (max k1 k2) t1 t2 i' (P_up g1 (Nat.le_max_left _ _)) (P_up g3 (Nat.le_max_right _ _)), g4⟩
theorem mean_two {mv : Md} {md : Tree → Md} {i i2 i' o z : Int} {L L2 L' : List Nd} (h : Mean l mv (i + 1) i2 L L2) (ho : 3 ≤ o) (hp : ∀ k a b t j, P k mv (tk l) (i + 1) = some (b, i2) → P k (md (.bin o a b)) (tk l) i2 = some (t, j) → P (k + 1) (md a) (tk l) i = some (t, j)) (hm : ∀ a, Rep (L2 ++ [⟨o, 0, ⟨#[]⟩, ⟨#[]⟩, (L.length : Int) - 1, (L2.length : Int) - 1, z⟩]) a (((L2 ++ [(⟨o, 0, ⟨#[]⟩, ⟨#[]⟩, (L.length : Int) - 1, (L2.length : Int) - 1, z⟩ : Nd)]).length : Int) - 1) → Mean l (md a) i2 i' (L2 ++ [⟨o, 0, ⟨#[]⟩, ⟨#[]⟩, (L.length : Int) - 1, (L2.length : Int) - 1, z⟩]) L') : ∀ a, Rep L a ((L.length : Int) - 1) → Mean l (md a) i i' L L' := by
 intro a ha
 obtain ⟨⟨M1, e1⟩, k1, b, g1, g2⟩ := h
 subst e1
 obtain ⟨⟨M2, e2⟩, k2, t, g3, g4⟩ := hm _ (rep_bin ha g2 ho)
 exact ⟨⟨M1 ++ ([_] ++ M2), by rw [e2, List.append_assoc, List.append_assoc]⟩, _, t, hp (max k1 k2) a b t i' (P_up g1 (Nat.le_max_left _ _)) (P_up g3 (Nat.le_max_right _ _)), g4⟩
theorem mean_end {md : Tree → Md} {i : Int} {L : List Nd} (hp : ∀ a, P 1 (md a) (tk l) i = some (a, i)) : ∀ a, Rep L a ((L.length : Int) - 1) → Mean l (md a) i i L L := fun a ha => ⟨⟨[], (List.append_nil _).symm⟩, 1, a, hp a, ha⟩
theorem term_l (T : Toks l) (hu : Told l (m - 1) (fun n i d e a L => rr_unary.f n l i d e a L) (Nodes l .u)) (ih : Told l (m - 1) (fun n i d e a L => rr_term.l0 n L l i d e a) (Nodes0 l .tl)) :
  Told l m (fun n i d e a L => rr_term.l0 n L l i d e a) (Nodes0 l .tl) := by
 intro i d e a C L h0 h1 m1 m2 hC c1 c2
 have T1 := T.1
 have yes : e = 0 → i + 1 < l.length → ∀ y z, opT (tk l i) = some y → 3 ≤ y → EvP (fun n => (rr_unary.f n l (i + 1) d e a L).bind fun q => (ra_two.f q.1 (wrap64 ((L.length : Int) - 1)) y z).bind fun t => rr_term.l0 n t l q.2.1 q.2.2.1 q.2.2.2.1 q.2.2.2.2) (Nodes0 l .tl C i e L) := by
  intro he hi y z hy hy3
  refine andThen (hu (i + 1) d e a (C - 1) L om hi om om om om om) (fun r hr => ?_)
  obtain ⟨L2, i2, d2, e2, a2, rfl, p1, p2, p3, p4, p5, p6⟩ := hr
  dsimp only
  rw [w64 (n := (L.length : Int) - 1) om om]
  refine two_s om ?_
  exact weaker (ih i2 d2 e2 a2 C _ om p2 om om hC (fun z => by rw [len1]; omega) (by rw [len1]; omega)) (fun r hr => back0 hr om (fun _ => he) (fun i' L' z hm => mean_two (p6 z) hy3 (fun k a b t j g1 g2 => by rw [P, hy]; dsimp only; rw [g1, Option.bind_some]; exact g2) hm))
 refine more ?_
 simp only [rr_term.l0]
 refine ways (fun he => ?_) (fun he => done ⟨_, _, _, _, _, rfl, om, om, fun z => om, fun z => om, om, fun z => absurd z he⟩)
 refine here_b h0 h1 ?_
 dsimp only
 refine take_s T h0 h1 (fun _ hi hs => gate rfl (yes he hi _ _ (by simp only [opn]; exact if_pos hs) om)) (fun n1 => nw ?_)
 dsimp only
 replace n1 := n1 he
 refine take_s T h0 h1 (fun _ hi hs => gate rfl (yes he hi _ _ (by simp only [opn]; rw [if_neg n1]; exact if_pos hs) om)) (fun n2 => nw ?_)
 dsimp only
 replace n2 := n2 he
 refine take_s T h0 h1 (fun _ hi hs => gate rfl (yes he hi _ _ (by simp only [opn]; rw [if_neg n1, if_neg n2]; exact if_pos hs) om)) (fun n3 => nw ?_)
 dsimp only
 replace n3 := n3 he
 exact done ⟨_, _, _, _, _, rfl, om, om, fun z => z, fun z => c1 z, om, fun z => mean_end (fun a => by rw [P, show opT (tk l i) = none by simp only [opn]; rw [if_neg n1, if_neg n2, if_neg n3]])⟩
theorem term_t (hu : Told l m (fun n i d e a L => rr_unary.f n l i d e a L) (Nodes l .u)) (hl : Told l m (fun n i d e a L => rr_term.l0 n L l i d e a) (Nodes0 l .tl)) :
  Told l m (fun n i d e a L => rr_term.f n l i d e a L) (Nodes l .t) := by
 intro i d e a C L h0 h1 m1 m2 hC c1 c2
 refine more ?_
 simp only [rr_term.f]
 refine andThen (hu i d e a C L h0 h1 m1 m2 hC c1 c2) (fun r hr => ?_)
 obtain ⟨L2, i2, d2, e2, a2, rfl, p1, p2, p3, p4, p5, p6⟩ := hr
 dsimp only
 exact weaker (hl i2 d2 e2 a2 C L2 om p2 om om hC p4 p5) (fun r hr => back1 hr p1 p3 p6 (fun k a t i' g1 g2 => by rw [P, g1, Option.bind_some]; exact g2))
theorem sum_l (T : Toks l) (hu : Told l (m - 1) (fun n i d e a L => rr_term.f n l i d e a L) (Nodes l .t)) (ih : Told l (m - 1) (fun n i d e a L => rr_sum.l0 n L l i d e a) (Nodes0 l .sl)) :
  Told l m (fun n i d e a L => rr_sum.l0 n L l i d e a) (Nodes0 l .sl) := by
 intro i d e a C L h0 h1 m1 m2 hC c1 c2
 have T1 := T.1
 have yes : e = 0 → i + 1 < l.length → ∀ y z, opS (tk l i) = some y → 3 ≤ y → EvP (fun n => (rr_term.f n l (i + 1) d e a L).bind fun q => (ra_two.f q.1 (wrap64 ((L.length : Int) - 1)) y z).bind fun t => rr_sum.l0 n t l q.2.1 q.2.2.1 q.2.2.2.1 q.2.2.2.2) (Nodes0 l .sl C i e L) := by
  intro he hi y z hy hy3
  refine andThen (hu (i + 1) d e a (C - 1) L om hi om om om om om) (fun r hr => ?_)
  obtain ⟨L2, i2, d2, e2, a2, rfl, p1, p2, p3, p4, p5, p6⟩ := hr
  dsimp only
  rw [w64 (n := (L.length : Int) - 1) om om]
  refine two_s om ?_
  exact weaker (ih i2 d2 e2 a2 C _ om p2 om om hC (fun z => by rw [len1]; omega) (by rw [len1]; omega)) (fun r hr => back0 hr om (fun _ => he) (fun i' L' z hm => mean_two (p6 z) hy3 (fun k a b t j g1 g2 => by rw [P, hy]; dsimp only; rw [g1, Option.bind_some]; exact g2) hm))
 refine more ?_
 simp only [rr_sum.l0]
 refine ways (fun he => ?_) (fun he => done ⟨_, _, _, _, _, rfl, om, om, fun z => om, fun z => om, om, fun z => absurd z he⟩)
 refine here_b h0 h1 ?_
 dsimp only
 refine take_s T h0 h1 (fun _ hi hs => gate rfl (yes he hi _ _ (by simp only [opn]; exact if_pos hs) om)) (fun n1 => nw ?_)
 dsimp only
 replace n1 := n1 he
 refine take_s T h0 h1 (fun _ hi hs => gate rfl (yes he hi _ _ (by simp only [opn]; rw [if_neg n1]; exact if_pos hs) om)) (fun n2 => nw ?_)
 dsimp only
 replace n2 := n2 he
 exact done ⟨_, _, _, _, _, rfl, om, om, fun z => z, fun z => c1 z, om, fun z => mean_end (fun a => by rw [P, show opS (tk l i) = none by simp only [opn]; rw [if_neg n1, if_neg n2]])⟩
theorem sum_t (hu : Told l m (fun n i d e a L => rr_term.f n l i d e a L) (Nodes l .t)) (hl : Told l m (fun n i d e a L => rr_sum.l0 n L l i d e a) (Nodes0 l .sl)) :
  Told l m (fun n i d e a L => rr_sum.f n l i d e a L) (Nodes l .s) := by
 intro i d e a C L h0 h1 m1 m2 hC c1 c2
 refine more ?_
 simp only [rr_sum.f]
 refine andThen (hu i d e a C L h0 h1 m1 m2 hC c1 c2) (fun r hr => ?_)
 obtain ⟨L2, i2, d2, e2, a2, rfl, p1, p2, p3, p4, p5, p6⟩ := hr
 dsimp only
 exact weaker (hl i2 d2 e2 a2 C L2 om p2 om om hC p4 p5) (fun r hr => back1 hr p1 p3 p6 (fun k a t i' g1 g2 => by rw [P, g1, Option.bind_some]; exact g2))
def Xl (l : List Tok) (S : List (List UInt8)) (o i i' : Int) (L L' : List Nd) : Prop := ∀ a, Rep L a ((L.length : Int) - 1) → (∃ M, L' = L ++ M) ∧ ∃ k t, (match opn S o (tk l i) with | some o => (P k .s (tk l) (i + 1)).bind fun q => some (.bin o a q.1, q.2) | none => some (a, i)) = some (t, i') ∧ Rep L' t ((L'.length : Int) - 1)
def NodesX (l : List Tok) (S : List (List UInt8)) (o C i e : Int) (L : List Nd) (r : List Nd × Int × Int × Int × Int) : Prop := ∃ L' i' d' e' a', r = (L', i', d', e', a') ∧ i ≤ i' ∧ i' < l.length ∧ (e' = 0 → e = 0) ∧ (e' = 0 → L'.length + l.length - i' + 1 ≤ C) ∧ L'.length + l.length - i' ≤ C ∧ (e' = 0 → Xl l S o i i' L L')
theorem expr_l (T : Toks l) (hu : Told l (m - 1) (fun n i d e a L => rr_sum.f n l i d e a L) (Nodes l .s)) (S : List ByteArray) (hS : S.length ≤ 100) : ∀ c x : Nat, x + c = S.length →
  Told l m (fun n i d e a L => rr_expr.l0 n L S (x : Int) l i d e a) (NodesX l ((S.drop x).map (fun s => s.data.toList)) (10 + (x : Int))) := by
 intro c
 induction c with
 | zero =>
  intro x hx i d e a C L h0 h1 m1 m2 hC c1 c2
  refine more ?_
  simp only [rr_expr.l0]
  refine ways (fun z => absurd z om) (fun _ => ?_)
  refine done ⟨_, _, _, _, _, rfl, om, om, fun z => z, fun z => c1 z, om, fun z a ha => ⟨⟨[], (List.append_nil _).symm⟩, 0, a, ?_, ha⟩⟩
  rw [List.drop_eq_nil_of_le om]
  rfl
 | succ c ih =>
  intro x hx i d e a C L h0 h1 m1 m2 hC c1 c2
  have hd : S.drop x = rdOf ByteArray.empty S (x : Int) :: S.drop (x + 1) := by
   rw [List.drop_eq_getElem_cons om]
   simp [rdOf, List.getD_eq_getElem?_getD, show x < S.length by omega]
  refine more ?_
  simp only [rr_expr.l0]
  refine gate om (here_b h0 h1 (gate om ?_))
  dsimp only
  rw [hd, List.map_cons]
  refine take_s T h0 h1 (fun he hi hs => gate rfl ?_) (fun hn => nw ?_)
  ·
   dsimp only
   refine andThen (hu (i + 1) d e a (C - 1) L om hi om om om om om) (fun r hr => ?_)
   obtain ⟨L2, i2, d2, e2, a2, rfl, p1, p2, p3, p4, p5, p6⟩ := hr
   dsimp only
   rw [w64 (n := (L.length : Int) - 1) om om, w64 (n := 10 + (x : Int)) om om]
   refine two_s om ?_
   refine done ⟨_, _, _, _, _, rfl, om, om, fun z => he, fun z => by rw [len1]; omega, by rw [len1]; omega, fun z a ha => ?_⟩
   obtain ⟨⟨M1, e1⟩, k1, b, g1, g2⟩ := p6 z
   subst e1
   refine ⟨⟨M1 ++ [_], by rw [List.append_assoc]⟩, k1, _, ?_, rep_bin ha g2 om⟩
   simp only [opn]
   rw [if_pos hs]
   dsimp only
   rw [g1, Option.bind_some]
  ·
   dsimp only
   rw [w64 (n := (x : Int) + 1) om om]
   refine weaker (ih (x + 1) om i d e a C L h0 h1 m1 m2 hC c1 c2) (fun r hr => ?_)
   obtain ⟨L', i', d', e', a', rfl, p1, p2, p3, p4, p5, p6⟩ := hr
   refine ⟨L', i', d', e', a', rfl, p1, p2, p3, p4, p5, fun z a ha => ?_⟩
   have hn2 := hn (p3 z)
   have := p6 z a ha
   simp only [opn]
   rw [if_neg hn2]
   rwa [show (10 : Int) + ((x + 1 : Nat) : Int) = 10 + (x : Int) + 1 by omega] at this
theorem expr_t (T : Toks l) (hs : Told l m (fun n i d e a L => rr_sum.f n l i d e a L) (Nodes l .s)) (hu : Told l (m - 1) (fun n i d e a L => rr_sum.f n l i d e a L) (Nodes l .s)) :
  Told l m (fun n i d e a L => rr_expr.f n l i d e a L) (Nodes l .x) := by
 intro i d e a C L h0 h1 m1 m2 hC c1 c2
 refine more ?_
 simp only [rr_expr.f]
 refine andThen (hs i d e a C L h0 h1 m1 m2 hC c1 c2) (fun r hr => ?_)
 obtain ⟨L2, i2, d2, e2, a2, rfl, p1, p2, p3, p4, p5, p6⟩ := hr
 dsimp only
 refine weaker (expr_l T hu _ (by simp) 3 0 rfl i2 d2 e2 a2 C L2 om p2 om om hC p4 p5) (fun r hr => ?_)
 obtain ⟨L', i', d', e', a', rfl, t1, t2, t3, t4, t5, t6⟩ := hr
 refine ⟨L', i', d', e', a', rfl, om, t2, fun z => ⟨(p3 (t3 z)).1, by have := (p3 (t3 z)).2; omega⟩, t4, t5, fun z => ?_⟩
 obtain ⟨⟨M1, e1⟩, k1, a, g1, g2⟩ := p6 (t3 z)
 obtain ⟨⟨M2, e2⟩, k2, t, g3, g4⟩ := t6 z a g2
 refine ⟨⟨M1 ++ M2, by rw [e2, e1, List.append_assoc]⟩, max k1 k2 + 1, t, ?_, g4⟩
 rw [P, P_up g1 (Nat.le_max_left k1 k2), Option.bind_some]
 dsimp only
 change (match opX (tk l i2) with | some o => (P k2 .s (tk l) (i2 + 1)).bind fun q => some (.bin o a q.1, q.2) | none => some (a, i2)) = some (t, i') at g3
 cases ho : opX (tk l i2) with
 | none => rw [ho] at g3; exact g3
 | some o =>
  rw [ho] at g3
  obtain ⟨q, h1, h2⟩ := bm g3
  dsimp only
  rw [P_up h1 (Nat.le_max_right k1 k2)]
  exact h2
end
theorem none_t {l : List Tok} {g : Nat → Int → Int → Int → Int → List Nd → Option (List Nd × Int × Int × Int × Int)} {P : Int → Int → Int → List Nd → (List Nd × Int × Int × Int × Int) → Prop} : Told l 0 g P := by
 intro i d e a C L h0 h1 m1 m2
 omega
theorem exprs {l : List Tok} (T : Toks l) : ∀ m : Nat, Told l m (fun n i d e a L => rr_unary.f n l i d e a L) (Nodes l .u) ∧ Told l m (fun n i d e a L => rr_term.l0 n L l i d e a) (Nodes0 l .tl) ∧ Told l m (fun n i d e a L => rr_term.f n l i d e a L) (Nodes l .t) ∧ Told l m (fun n i d e a L => rr_sum.l0 n L l i d e a) (Nodes0 l .sl) ∧ Told l m (fun n i d e a L => rr_sum.f n l i d e a L) (Nodes l .s) ∧ Told l m (fun n i d e a L => rr_expr.f n l i d e a L) (Nodes l .x) := by
 intro m
 induction m with
 | zero => exact ⟨none_t, none_t, none_t, none_t, none_t, none_t⟩
 | succ m ih =>
  have e : (m : Int) = ((m + 1 : Nat) : Int) - 1 := by omega
  rw [e] at ih
  obtain ⟨u, tl, t, sl, s, x⟩ := ih
  have u' := unary_t T u x
  have tl' := term_l T u tl
  have t' := term_t u' tl'
  have sl' := sum_l T t sl
  have s' := sum_t t' sl'
  exact ⟨u', tl', t', sl', s', expr_t T s' s⟩
theorem expr_s {β : Type} {Q : β → Prop} {l : List Tok} {i d e a : Int} (T : Toks l) {F : Nat → (List Nd × Int × Int × Int × Int) → Option β} (h0 : 0 ≤ i) (h1 : i < l.length) (k : ∀ (L : List Nd) i' d' e' a', L.length ≤ 20000 → i ≤ i' → i' < l.length → (e' = 0 → e = 0 ∧ i < i') → (e' = 0 → Mean l .x i i' [] L) → EvP (fun n => F n (L, i', d', e', a')) Q) :
  EvP (fun n => (rr_expr.f n l i d e a []).bind (F n)) Q := by
 have T1 := T.1
 refine andThen ((exprs T 20000).2.2.2.2.2 i d e a 20000 [] h0 h1 om om om (by simp; omega) (by simp; omega)) (fun r hr => ?_)
 obtain ⟨L2, i2, d2, e2, a2, rfl, p1, p2, p3, p4, p5, p6⟩ := hr
 exact k L2 i2 d2 e2 a2 om p1 p2 p3 p6
theorem expr_b {β : Type} {Q : β → Prop} {l : List Tok} {i d e a : Int} (T : Toks l) {F : Nat → (List Nd × Int × Int × Int × Int) → Option β} (h0 : 0 ≤ i) (h1 : i < l.length) (k : ∀ (L : List Nd) i' d' e' a', L.length ≤ 20000 → i ≤ i' → i' < l.length → (e' = 0 → e = 0 ∧ i < i') → EvP (fun n => F n (L, i', d', e', a')) Q) :
  EvP (fun n => (rr_expr.f n l i d e a []).bind (F n)) Q := expr_s T h0 h1 (fun L i' d' e' a' k1 k2 k3 k4 _ => k L i' d' e' a' k1 k2 k3 k4)
abbrev Sm := S45
abbrev SmR := Int × Int × ByteArray × ByteArray × ByteArray × Bool × ByteArray × ByteArray × List Nd × List (List Nd) × List Sm × List Sm × Int × Int × Int × Int
def StmtP (l : List Tok) (i e : Int) (r : SmR) : Prop := ∃ x0 x1 x2 x3 x4 x5 x6 x7 x8 x9 x10 x11 i' d' e' a', r = (x0, x1, x2, x3, x4, x5, x6, x7, x8, x9, x10, x11, i', d', e', a') ∧ i ≤ i' ∧ i' < l.length ∧ (e' = 0 → e = 0)
def StmtQ (l : List Tok) (i e : Int) (r : SmR) : Prop := ∃ x0 x1 x2 x3 x4 x5 x6 x7 x8 x9 x10 x11 i' d' e' a', r = (x0, x1, x2, x3, x4, x5, x6, x7, x8, x9, x10, x11, i', d', e', a') ∧ i ≤ i' ∧ i' < l.length ∧ (e' = 0 → e = 0 ∧ i < i')
theorem st_back {l : List Tok} {i e i2 e2 : Int} {r : SmR} (hr : StmtP l i2 e2 r) (hi : i ≤ i2) (he : e2 = 0 → e = 0) : StmtP l i e r := by
 obtain ⟨y0, y1, y2, y3, y4, y5, y6, y7, y8, y9, y10, y11, i', d', e', a', rfl, p2, p3, p4⟩ := hr
 exact ⟨_, _, _, _, _, _, _, _, _, _, _, _, _, _, _, _, rfl, om, p3, fun z => he (p4 z)⟩
theorem call_l {l : List Tok} (T : Toks l) : ∀ (m : Nat) (i d e a x0 x1 : Int) (x2 x3 x4 : ByteArray) (x5 : Bool) (x6 x7 : ByteArray) (A : List (List Nd)), 0 ≤ i → i < l.length → l.length - i ≤ m → A.length ≤ i → EvP (fun n => rr_call.l0 n l i d e a x0 x1 x2 x3 x4 x5 x6 x7 A) (StmtP l i e) := by
 have T1 := T.1
 intro m
 induction m with
 | zero =>
  intro i d e a x0 x1 x2 x3 x4 x5 x6 x7 A h0 h1 m1
  omega
 | succ m ih =>
  intro i d e a x0 x1 x2 x3 x4 x5 x6 x7 A h0 h1 m1 hA
  refine more ?_
  simp only [rr_call.l0]
  refine ways (fun he => ?_) (fun he => ?_)
  ·
   refine expr_b T h0 h1 (fun L i2 d2 e2 a2 hL q1 q2 q3 => gate om (known rfl ?_))
   dsimp only
   refine take_b T om q2 (fun he2 hi => gate rfl ?_) (nw ?_)
   ·
    exact weaker (ih (i2 + 1) d2 e2 a2 x0 x1 x2 x3 x4 x5 x6 x7 _ om hi om zl) (fun r hr => st_back hr om (fun _ => he))
   ·
    dsimp only
    refine want_b T om q2 (fun i3 e3 a3 t1 t2 t3 t4 => ?_)
    exact done ⟨_, _, _, _, _, _, _, _, _, _, _, _, _, _, _, _, rfl, om, t3, fun _ => he⟩
  ·
   refine want_b T h0 h1 (fun i3 e3 a3 t1 t2 t3 t4 => ?_)
   exact done ⟨_, _, _, _, _, _, _, _, _, _, _, _, _, _, _, _, rfl, t1, t3, fun z => (t4 z).1⟩
theorem call_j {l : List Tok} (T : Toks l) (i d e a x0 x1 : Int) (x2 x3 x4 : ByteArray) (x5 : Bool) (x6 x7 y0 y1 : ByteArray) (h0 : 0 ≤ i) (h1 : i < l.length) : EvP (fun n => rr_call.j0 n y0 y1 l i d e a x0 x1 x2 x3 x4 x5 x6 x7) (StmtP l i e) := by
 have T1 := T.1
 refine more ?_
 simp only [rr_call.j0]
 refine want_b T h0 h1 (fun i2 e2 a2 q1 q2 q3 q4 => ?_)
 dsimp only
 refine is_b T om q3 (fun he hi => gate rfl ?_) (nw ?_)
 ·
  dsimp only
  refine want_b T om q3 (fun i3 e3 a3 t1 t2 t3 t4 => ?_)
  exact done ⟨_, _, _, _, _, _, _, _, _, _, _, _, _, _, _, _, rfl, om, t3, fun z => (q4 (t4 z).1).1⟩
 ·
  dsimp only
  exact weaker (call_l T 20000 i2 d e2 a2 _ _ _ _ _ _ _ _ _ om q3 om (by simp; omega)) (fun r hr => st_back hr om (fun z => (q4 z).1))
theorem call_t {l : List Tok} (T : Toks l) (i d e a x0 x1 : Int) (x2 x3 x4 : ByteArray) (x5 : Bool) (x6 x7 : ByteArray) (h0 : 0 ≤ i) (h1 : i < l.length) : EvP (fun n => rr_call.f n l i d e a x0 x1 x2 x3 x4 x5 x6 x7) (StmtQ l i e) := by
 have T1 := T.1
 unfold rr_call.f
 refine qname_b T h0 h1 (fun s t i2 e2 a2 q1 q2 q3 => ?_)
 dsimp only
 refine take_b T om q2 (fun he hi => gate rfl ?_) (nw ?_)
 ·
  dsimp only
  refine qname_b T om hi (fun s t i3 e3 a3 t1 t2 t3 => ?_)
  refine weaker (call_j T i3 d e3 a3 _ _ _ _ _ _ _ _ _ _ om t2) (fun r hr => ?_)
  obtain ⟨y0, y1, y2, y3, y4, y5, y6, y7, y8, y9, y10, y11, i', d', e', a', rfl, p2, p3, p4⟩ := hr
  exact ⟨_, _, _, _, _, _, _, _, _, _, _, _, _, _, _, _, rfl, om, p3, fun z => ⟨(q3 he).1, by have := t3 (p4 z); omega⟩⟩
 ·
  dsimp only
  refine weaker (call_j T i2 d e2 a2 _ _ _ _ _ _ _ _ _ _ om q2) (fun r hr => ?_)
  obtain ⟨y0, y1, y2, y3, y4, y5, y6, y7, y8, y9, y10, y11, i', d', e', a', rfl, p2, p3, p4⟩ := hr
  exact ⟨_, _, _, _, _, _, _, _, _, _, _, _, _, _, _, _, rfl, om, p3, fun z => ⟨(q3 (p4 z)).1, by have := q3 (p4 z); omega⟩⟩
theorem call_b {β : Type} {Q : β → Prop} {l : List Tok} {i d e a x0 x1 : Int} {x2 x3 x4 : ByteArray} {x5 : Bool} {x6 x7 : ByteArray} (T : Toks l) {F : Nat → SmR → Option β} (h0 : 0 ≤ i) (h1 : i < l.length) (k : ∀ y0 y1 y2 y3 y4 y5 y6 y7 y8 y9 y10 y11 i' d' e' a', i ≤ i' → i' < l.length → (e' = 0 → e = 0 ∧ i < i') → EvP (fun n => F n (y0, y1, y2, y3, y4, y5, y6, y7, y8, y9, y10, y11, i', d', e', a')) Q) :
  EvP (fun n => (rr_call.f n l i d e a x0 x1 x2 x3 x4 x5 x6 x7).bind (F n)) Q := by
 refine andThen (call_t T i d e a x0 x1 x2 x3 x4 x5 x6 x7 h0 h1) (fun r hr => ?_)
 obtain ⟨y0, y1, y2, y3, y4, y5, y6, y7, y8, y9, y10, y11, i', d', e', a', rfl, p2, p3, p4⟩ := hr
 exact k _ _ _ _ _ _ _ _ _ _ _ _ _ _ _ _ p2 p3 p4
def BlockP (l : List Tok) (i e : Int) (r : List Sm × Int × Int × Int × Int) : Prop := ∃ B i' d' e' a', r = (B, i', d', e', a') ∧ i ≤ i' ∧ i' < l.length ∧ (e' = 0 → e = 0 ∧ i < i')
def Blocks (l : List Tok) (m : Int) : Prop := ∀ i d e a : Int, 0 ≤ i → i < l.length → (e = 0 → l.length - i + 1 ≤ m) → l.length - i ≤ m → EvP (fun n => rr_block.f n l i d e a) (BlockP l i e)
theorem block_b {β : Type} {Q : β → Prop} {l : List Tok} {m : Int} {i d e a : Int} (H : Blocks l m) {F : Nat → (List Sm × Int × Int × Int × Int) → Option β} (h0 : 0 ≤ i) (h1 : i < l.length) (m1 : e = 0 → l.length - i + 1 ≤ m) (m2 : l.length - i ≤ m) (k : ∀ B i' d' e' a', i ≤ i' → i' < l.length → (e' = 0 → e = 0 ∧ i < i') → EvP (fun n => F n (B, i', d', e', a')) Q) :
  EvP (fun n => (rr_block.f n l i d e a).bind (F n)) Q := by
 refine andThen (H i d e a h0 h1 m1 m2) (fun r hr => ?_)
 obtain ⟨B, i', d', e', a', rfl, p2, p3, p4⟩ := hr
 exact k _ _ _ _ _ p2 p3 p4
theorem stmt_j {l : List Tok} {m : Int} (T : Toks l) (H : Blocks l (m - 1)) (b : Bool) (i d e a x0 x1 : Int) (x2 x3 x4 : ByteArray) (x5 : Bool) (x6 x7 : ByteArray) (h0 : 0 ≤ i) (h1 : i < l.length) (m1 : e = 0 → l.length - i + 1 ≤ m) (m2 : l.length - i ≤ m) : EvP (fun n => rr_stmt.j0 n b l i d e a x0 x1 x2 x3 x4 x5 x6 x7) (StmtQ l i e) := by
 have T1 := T.1
 refine more ?_
 simp only [rr_stmt.j0]
 refine ways (fun _ => ?_) (fun _ => ?_)
 all_goals repeat' first
  | (with_reducible refine want_b T om om (fun _ _ _ _ _ _ _ => ?_); dsimp only)
  | (with_reducible refine name_b T om om (fun _ _ _ _ _ _ _ _ => ?_); dsimp only)
  | (with_reducible refine qname_b T om om (fun _ _ _ _ _ _ _ _ => ?_); dsimp only)
  | (with_reducible refine here_b om om ?_; dsimp only)
  | (with_reducible refine fail_b om om om (fun _ _ _ => ?_); dsimp only)
  | (with_reducible refine expr_b T om om (fun _ _ _ _ _ _ _ _ _ => ?_); dsimp only)
  | (with_reducible refine call_b T om om (fun _ _ _ _ _ _ _ _ _ _ _ _ _ _ _ _ _ _ _ => ?_); dsimp only)
  | (with_reducible refine block_b H om om om om (fun _ _ _ _ _ _ _ _ => ?_); dsimp only)
  | (with_reducible refine take_b T om om (fun _ _ => gate rfl ?_) (nw ?_) <;> dsimp only)
  | exact done ⟨_, _, _, _, _, _, _, _, _, _, _, _, _, _, _, _, rfl, om, om, fun z => om⟩
theorem stmt_t {l : List Tok} {m : Int} (T : Toks l) (H : Blocks l (m - 1)) (i d e a : Int) (h0 : 0 ≤ i) (h1 : i < l.length) (m1 : e = 0 → l.length - i + 1 ≤ m) (m2 : l.length - i ≤ m) : EvP (fun n => rr_stmt.f n l i d e a) (StmtQ l i e) := by
 refine more ?_
 simp only [rr_stmt.f]
 refine here_b h0 h1 ?_
 dsimp only
 exact ways (fun he => gate h0 (gate h1 (stmt_j T H _ i d e a _ _ _ _ _ _ _ _ h0 h1 m1 m2))) (fun he => stmt_j T H _ i d e a _ _ _ _ _ _ _ _ h0 h1 m1 m2)
def BlockL (l : List Tok) (m : Int) : Prop := ∀ (B : List Sm) (i d e a : Int), 0 ≤ i → i < l.length → (e = 0 → l.length - i + 1 ≤ m) → l.length - i ≤ m → B.length ≤ i + 1 → (e = 0 → B.length ≤ i) →
 EvP (fun n => rr_block.l0 n B l i d e a) (fun r => ∃ B' i' d' e' a', r = (B', i', d', e', a') ∧ i ≤ i' ∧ i' < l.length ∧ (e' = 0 → e = 0) ∧ ∃ M, B' = B ++ M)
theorem block_l {l : List Tok} {m : Int} (T : Toks l) (H : Blocks l (m - 1)) (ih : BlockL l (m - 1)) : BlockL l m := by
 have T1 := T.1
 intro B i d e a h0 h1 m1 m2 b1 b2
 refine more ?_
 simp only [rr_block.l0]
 refine ways (fun he => ?_) (fun he => ?_)
 ·
  refine is_b T h0 h1 (fun _ hi => gate rfl ?_) (nw ?_)
  ·
   dsimp only
   refine want_b T h0 h1 (fun i3 e3 a3 t1 t2 t3 t4 => ?_)
   exact done ⟨_, _, _, _, _, rfl, t1, t3, fun _ => he, [], (List.append_nil _).symm⟩
  ·
   dsimp only
   refine andThen (stmt_t T H i d e a h0 h1 m1 m2) (fun r hr => ?_)
   obtain ⟨y0, y1, y2, y3, y4, y5, y6, y7, y8, y9, y10, y11, i', d', e', a', rfl, p2, p3, p4⟩ := hr
   dsimp only
   refine gate om (weaker (ih _ i' d' e' a' om p3 om om zl zl) (fun r hr => ?_))
   obtain ⟨B', i2, d2, e2, a2, rfl, k2, k3, k4, M, kM⟩ := hr
   exact ⟨_, _, _, _, _, rfl, om, k3, fun _ => he, _, kM.trans (List.append_assoc _ _ _)⟩
 ·
  refine want_b T h0 h1 (fun i3 e3 a3 t1 t2 t3 t4 => ?_)
  exact done ⟨_, _, _, _, _, rfl, t1, t3, fun z => (t4 z).1, [], (List.append_nil _).symm⟩
theorem block_t {l : List Tok} {m : Int} (T : Toks l) (H : BlockL l m) : Blocks l m := by
 intro i d e a h0 h1 m1 m2
 refine more ?_
 simp only [rr_block.f]
 refine open_b T h0 h1 (fun i2 d2 e2 a2 q1 q2 q3 q4 => ?_)
 dsimp only
 refine weaker (H [] i2 d2 e2 a2 om q3 om om (by simp; omega) (by simp; omega)) (fun r hr => ?_)
 obtain ⟨B', i', d', e', a', rfl, k2, k3, k4, _⟩ := hr
 exact ⟨_, _, _, _, _, rfl, om, k3, fun z => by have := q4 (k4 z); omega⟩
theorem blocks {l : List Tok} (T : Toks l) : ∀ m : Nat, Blocks l m ∧ BlockL l m := by
 intro m
 induction m with
 | zero => exact ⟨fun i d e a h0 h1 m1 m2 => om, fun B i d e a h0 h1 m1 m2 => om⟩
 | succ m ih =>
  have e : (m : Int) = ((m + 1 : Nat) : Int) - 1 := by omega
  rw [e] at ih
  have bl := block_l T ih.1 ih.2
  exact ⟨block_t T bl, bl⟩
theorem block_c {β : Type} {Q : β → Prop} {l : List Tok} {i d e a : Int} (T : Toks l) {F : Nat → (List Sm × Int × Int × Int × Int) → Option β} (h0 : 0 ≤ i) (h1 : i < l.length) (k : ∀ B i' d' e' a', i ≤ i' → i' < l.length → (e' = 0 → e = 0 ∧ i < i') → EvP (fun n => F n (B, i', d', e', a')) Q) :
  EvP (fun n => (rr_block.f n l i d e a).bind (F n)) Q := by
 have T1 := T.1
 exact block_b (blocks T 20000).1 h0 h1 om om k
def VarP (l : List Tok) (i e : Int) (r : ByteArray × ByteArray × Int × Int × Int × Int × Int × Int) : Prop := ∃ s t v x i' d' e' a', r = (s, t, v, x, i', d', e', a') ∧ i ≤ i' ∧ i' < l.length ∧ (e' = 0 → e = 0)
theorem variable_j {l : List Tok} (T : Toks l) (g b : Bool) (i d e a : Int) (x1 x2 : ByteArray) (x3 x4 k0 : Int) (s : ByteArray) (k2 : Int) (h0 : 0 ≤ i) (h1 : i < l.length) (hb : b = false → i + 1 < l.length ∧ s.size ≤ 10000) : EvP (fun n => rr_variable.j0 n g b l i d e a x1 x2 x3 x4 k0 s k2) (VarP l i e) := by
 have T1 := T.1
 refine more ?_
 simp only [rr_variable.j0]
 refine ways (fun _ => ?_) (fun hf => ?_)
 ·
  refine fail_b om h0 h1 (fun e' a' he' => ?_)
  exact done ⟨_, _, _, _, _, _, _, _, rfl, om, h1, fun z => absurd z he'⟩
 ·
  obtain ⟨k1, k3⟩ := hb (by simpa using hf)
  rw [w64 (n := i + 1) om om]
  refine num_b k3 (fun v => ways (fun _ => ?_) (fun _ => ?_))
  ·
   refine want_b T om k1 (fun i3 e3 a3 t1 t2 t3 t4 => ?_)
   exact done ⟨_, _, _, _, _, _, _, _, rfl, om, t3, fun z => (t4 z).1⟩
  ·
   refine want_b T om k1 (fun i3 e3 a3 t1 t2 t3 t4 => ?_)
   exact done ⟨_, _, _, _, _, _, _, _, rfl, om, t3, fun z => (t4 z).1⟩
theorem variable_t {l : List Tok} (T : Toks l) (i d e a : Int) (h0 : 0 ≤ i) (h1 : i < l.length) : EvP (fun n => rr_variable.f n l i d e a) (VarP l i e) := by
 have T1 := T.1
 unfold rr_variable.f
 refine here_b h0 h1 ?_
 dsimp only
 refine name_b T h0 h1 (fun s1 i1 e1 a1 p1 p2 p3 p4 => ?_)
 dsimp only
 refine want_b T om p3 (fun i2 e2 a2 q1 q2 q3 q4 => ?_)
 dsimp only
 refine name_b T om q3 (fun s3 i3 e3 a3 r1 r2 r3 r4 => ?_)
 dsimp only
 refine want_b T om r3 (fun i4 e4 a4 t1 t2 t3 t4 => ?_)
 dsimp only
 have rest : ∀ (g : Bool) (i5 : Int) (x1 x2 : ByteArray) (x3 x4 : Int), i4 ≤ i5 → i5 < l.length → EvP (fun n => if 0 ≤ i5 then (if i5 < (l.length : Int) then (if e4 = 0 then (rr_variable.j0 n g (((rd_T69 l i5).f0) != 2) l i5 d e4 a4 x1 x2 x3 x4 ((rd_T69 l i5).f0) ((rd_T69 l i5).f1) ((rd_T69 l i5).f2)) else (rr_variable.j0 n g true l i5 d e4 a4 x1 x2 x3 x4 ((rd_T69 l i5).f0) ((rd_T69 l i5).f1) ((rd_T69 l i5).f2))) else none) else none) (VarP l i e) := by
  intro g i5 x1 x2 x3 x4 w1 w2
  have back : ∀ r, VarP l i5 e4 r → VarP l i e r := by
   intro r hr
   obtain ⟨s, t, v, x, i', d', e', a', rfl, k1, k2, k3⟩ := hr
   exact ⟨_, _, _, _, _, _, _, _, rfl, om, k2, fun z => (p4 (q4 (r4 (t4 (k3 z)).1).1).1).1⟩
  refine gate om (gate w2 (ways (fun he => ?_) (fun he => ?_)))
  ·
   refine weaker (variable_j T g _ i5 d e4 a4 x1 x2 x3 x4 _ _ _ om w2 (fun hb => ⟨T.2.1 i5 om w2 ?_, T.2.2 i5 om w2⟩)) back
   have := bne_eq_false_iff_eq.mp hb
   omega
  ·
   exact weaker (variable_j T g true i5 d e4 a4 x1 x2 x3 x4 _ _ _ om w2 (fun hb => by cases hb)) back
 refine take_b T om t3 (fun _ hi => ?_) ?_
 ·
  exact rest true (i4 + 1) _ _ _ _ om hi
 ·
  exact rest false i4 _ _ _ _ om t3
abbrev Pm := S85
abbrev PrR := ByteArray × List Pm × Bool × ByteArray × ByteArray × List ByteArray × List Sm × Int × Int × Int × Int × Int
def ProcP (l : List Tok) (i e : Int) (r : PrR) : Prop := ∃ x0 x1 x2 x3 x4 x5 x6 x7 i' d' e' a', r = (x0, x1, x2, x3, x4, x5, x6, x7, i', d', e', a') ∧ i ≤ i' ∧ i' < l.length ∧ (e' = 0 → e = 0)
theorem proc_back {l : List Tok} {i e i2 e2 : Int} {r : PrR} (h : ProcP l i2 e2 r) (hi : i ≤ i2) (he : e2 = 0 → e = 0) : ProcP l i e r := by
 obtain ⟨x0, x1, x2, x3, x4, x5, x6, x7, i', d', e', a', rfl, k2, k3, k4⟩ := h
 exact ⟨x0, x1, x2, x3, x4, x5, x6, x7, i', d', e', a', rfl, om, k3, fun z => he (k4 z)⟩
theorem proc_l1 {l : List Tok} (T : Toks l) : ∀ (m : Nat) (i d e a : Int) (x0 : ByteArray) (x1 : List Pm) (x2 : Bool) (x3 x4 : ByteArray) (U : List ByteArray) (x7 : Int), 0 ≤ i → i < l.length → l.length - i ≤ m → U.length ≤ i → EvP (fun n => rr_proc.l1 n l i d e a x0 x1 x2 x3 x4 U x7) (ProcP l i e) := by
 have T1 := T.1
 intro m
 induction m with
 | zero =>
  intro i d e a x0 x1 x2 x3 x4 U x7 h0 h1 m1
  omega
 | succ m ih =>
  intro i d e a x0 x1 x2 x3 x4 U x7 h0 h1 m1 hU
  refine more ?_
  simp only [rr_proc.l1]
  refine ways (fun he => ?_) (fun he => ?_)
  ·
   refine name_b T h0 h1 (fun s i2 e2 a2 q1 q2 q3 q4 => gate om (known rfl ?_))
   dsimp only
   refine take_b T om q3 (fun he2 hi => gate rfl ?_) (nw ?_)
   ·
    exact weaker (ih (i2 + 1) d e2 a2 x0 x1 x2 x3 x4 _ x7 om hi om zl) (fun r hr => proc_back hr om (fun _ => he))
   ·
    dsimp only
    refine want_b T om q3 (fun i3 e3 a3 t1 t2 t3 t4 => ?_)
    dsimp only
    refine block_c T om t3 (fun B i4 d4 e4 a4 k2 k3 k4 => ?_)
    dsimp only
    exact done ⟨_, _, _, _, _, _, _, _, _, _, _, _, rfl, om, k3, fun _ => he⟩
  ·
   refine want_b T h0 h1 (fun i3 e3 a3 t1 t2 t3 t4 => ?_)
   dsimp only
   refine block_c T om t3 (fun B i4 d4 e4 a4 k2 k3 k4 => ?_)
   dsimp only
   exact done ⟨_, _, _, _, _, _, _, _, _, _, _, _, rfl, om, k3, fun z => (t4 (k4 z).1).1⟩
theorem proc_j2 {l : List Tok} (T : Toks l) (i d e a : Int) (x0 : ByteArray) (x1 : List Pm) (x2 : Bool) (x3 x4 : ByteArray) (x7 : Int) (h0 : 0 ≤ i) (h1 : i < l.length) : EvP (fun n => rr_proc.j2 n l i d e a x0 x1 x2 x3 x4 x7) (ProcP l i e) := by
 have T1 := T.1
 refine more ?_
 simp only [rr_proc.j2]
 refine want_b T h0 h1 (fun i1 e1 a1 p1 p2 p3 p4 => ?_)
 dsimp only
 refine name_b T om p3 (fun s i2 e2 a2 q1 q2 q3 q4 => ?_)
 dsimp only
 refine want_b T om q3 (fun i3 e3 a3 r1 r2 r3 r4 => ?_)
 dsimp only
 refine want_b T om r3 (fun i4 e4 a4 t1 t2 t3 t4 => ?_)
 dsimp only
 have hz : e4 = 0 → e = 0 := fun z => (p4 (q4 (r4 (t4 z).1).1).1).1
 refine is_b T om t3 (fun _ hi => gate rfl ?_) (nw ?_)
 ·
  dsimp only
  refine want_b T om t3 (fun i5 e5 a5 u1 u2 u3 u4 => ?_)
  dsimp only
  refine block_c T om u3 (fun B i6 d6 e6 a6 k2 k3 k4 => ?_)
  dsimp only
  exact done ⟨_, _, _, _, _, _, _, _, _, _, _, _, rfl, om, k3, fun z => hz (u4 (k4 z).1).1⟩
 ·
  exact weaker (proc_l1 T 20000 i4 d e4 a4 _ _ _ _ _ _ _ om t3 om (by simp; omega)) (fun r hr => proc_back hr om hz)
theorem proc_j1 {l : List Tok} (T : Toks l) (i d e a : Int) (x0 : ByteArray) (x1 : List Pm) (x2 : Bool) (x3 x4 : ByteArray) (x7 : Int) (h0 : 0 ≤ i) (h1 : i < l.length) : EvP (fun n => rr_proc.j1 n l i d e a x0 x1 x2 x3 x4 x7) (ProcP l i e) := by
 refine more ?_
 simp only [rr_proc.j1]
 refine want_b T h0 h1 (fun i1 e1 a1 p1 p2 p3 p4 => ?_)
 dsimp only
 refine take_b T om p3 (fun he hi => gate rfl ?_) (nw ?_)
 ·
  dsimp only
  refine name_b T om hi (fun s i2 e2 a2 q1 q2 q3 q4 => ?_)
  exact weaker (proc_j2 T i2 d e2 a2 _ _ _ _ _ _ om q3) (fun r hr => proc_back hr om (fun z => (p4 (q4 z).1).1))
 ·
  exact weaker (proc_j2 T i1 d e1 a1 _ _ _ _ _ _ om p3) (fun r hr => proc_back hr om (fun z => (p4 z).1))
theorem proc_l0 {l : List Tok} (T : Toks l) : ∀ (m : Nat) (i d e a : Int) (x0 : ByteArray) (P : List Pm) (x2 : Bool) (x3 x4 : ByteArray) (x7 : Int), 0 ≤ i → i < l.length → l.length - i ≤ m → P.length ≤ i → EvP (fun n => rr_proc.l0 n l i d e a x0 P x2 x3 x4 x7) (ProcP l i e) := by
 have T1 := T.1
 intro m
 induction m with
 | zero =>
  intro i d e a x0 P x2 x3 x4 x7 h0 h1 m1
  omega
 | succ m ih =>
  intro i d e a x0 P x2 x3 x4 x7 h0 h1 m1 hP
  refine more ?_
  simp only [rr_proc.l0]
  refine ways (fun he => ?_) (fun he => proc_j1 T i d e a _ _ _ _ _ _ h0 h1)
  refine here_b h0 h1 ?_
  dsimp only
  refine name_b T h0 h1 (fun s i1 e1 a1 p1 p2 p3 p4 => ?_)
  dsimp only
  refine want_b T om p3 (fun i2 e2 a2 q1 q2 q3 q4 => ?_)
  dsimp only
  refine name_b T om q3 (fun t i3 e3 a3 r1 r2 r3 r4 => gate om (known rfl ?_))
  dsimp only
  refine take_b T om r3 (fun he2 hi => gate rfl ?_) (nw ?_)
  ·
   exact weaker (ih (i3 + 1) d e3 a3 _ _ _ _ _ _ om hi om zl) (fun r hr => proc_back hr om (fun _ => he))
  ·
   exact weaker (proc_j1 T i3 d e3 a3 _ _ _ _ _ _ om r3) (fun r hr => proc_back hr om (fun _ => he))
theorem proc_t {l : List Tok} (T : Toks l) (i d e a : Int) (h0 : 0 ≤ i) (h1 : i < l.length) : EvP (fun n => rr_proc.f n l i d e a) (ProcP l i e) := by
 have T1 := T.1
 unfold rr_proc.f
 refine here_b h0 h1 ?_
 dsimp only
 refine name_b T h0 h1 (fun s i1 e1 a1 p1 p2 p3 p4 => ?_)
 dsimp only
 refine want_b T om p3 (fun i2 e2 a2 q1 q2 q3 q4 => ?_)
 dsimp only
 have hz : e2 = 0 → e = 0 := fun z => (p4 (q4 z).1).1
 refine is_b T om q3 (fun _ hi => gate rfl ?_) (nw ?_)
 ·
  exact weaker (proc_j1 T i2 d e2 a2 _ _ _ _ _ _ om q3) (fun r hr => proc_back hr om hz)
 ·
  exact weaker (proc_l0 T 20000 i2 d e2 a2 _ _ _ _ _ _ om q3 om (by simp; omega)) (fun r hr => proc_back hr om hz)
abbrev Im := S75
abbrev Vr := S77
abbrev Pr := S42
abbrev MoR := ByteArray × Int × List Im × List Vr × List Pr × Int × Int × Int × Int
def ModP (P : List Pr) (e : Int) (r : MoR) : Prop := (∃ M, r.2.2.2.2.1 = P ++ M) ∧ (r.2.2.2.2.2.2.2.1 = 0 → e = 0)
def ModL (l : List Tok) (m : Int) : Prop := ∀ (i d e a : Int) (x0 : ByteArray) (x1 : Int) (I : List Im) (V : List Vr) (P : List Pr), 0 ≤ i → i < l.length → (e = 0 → l.length - i + 1 ≤ m) → l.length - i ≤ m → (V.length ≤ i + 1 ∧ P.length ≤ i + 1) → EvP (fun n => rr_module.l1 n l i d e a x0 x1 I V P) (ModP P e)
theorem mod_j2 {l : List Tok} {m : Int} (T : Toks l) (ih : ModL l (m - 1)) (b : Bool) (i d e a : Int) (x0 : ByteArray) (x1 : Int) (I : List Im) (V : List Vr) (P : List Pr) (h0 : 0 ≤ i) (h1 : i < l.length) (m1 : e = 0 → l.length - i + 1 ≤ m) (m2 : l.length - i ≤ m) (hv : V.length ≤ i + 1 ∧ P.length ≤ i + 1) (hb : b = true → e = 0) : EvP (fun n => rr_module.j2 n b l i d e a x0 x1 I V P) (ModP P e) := by
 have T1 := T.1
 refine more ?_
 simp only [rr_module.j2]
 refine ways (fun hb2 => ?_) (fun _ => done ⟨⟨[], (List.append_nil _).symm⟩, fun z => z⟩)
 have he := hb hb2
 refine take_b T h0 h1 (fun _ hi => gate rfl ?_) (nw ?_)
 ·
  dsimp only
  refine andThen (variable_t T (i + 1) d e a om hi) (fun r hr => ?_)
  obtain ⟨s, t, v, x, i', d', e', a', rfl, k1, k2, k3⟩ := hr
  dsimp only
  exact gate om (weaker (ih i' d' e' a' _ _ _ _ _ om k2 om om zl) (fun r hr => ⟨hr.1, fun _ => he⟩))
 ·
  dsimp only
  refine take_b T h0 h1 (fun _ hi => gate rfl ?_) (nw ?_)
  ·
   dsimp only
   refine andThen (proc_t T (i + 1) d e a om hi) (fun r hr => ?_)
   obtain ⟨y0, y1, y2, y3, y4, y5, y6, y7, i', d', e', a', rfl, k2, k3, k4⟩ := hr
   dsimp only
   exact gate om (weaker (ih i' d' e' a' _ _ _ _ _ om k3 om om zl) (fun r hr => ⟨hr.1.elim (fun M hM => ⟨_, hM.trans (List.append_assoc _ _ _)⟩), fun _ => he⟩))
  ·
   dsimp only
   refine fail_b om h0 h1 (fun e' a' he' => ?_)
   dsimp only
   exact weaker (ih i d e' a' _ _ _ _ _ h0 h1 (fun z => absurd z he') om hv) (fun r hr => ⟨hr.1, fun _ => he⟩)
theorem mod_l1 {l : List Tok} (T : Toks l) : ∀ m : Nat, ModL l m := by
 intro m
 induction m with
 | zero =>
  intro i d e a x0 x1 I V P h0 h1 m1 m2
  omega
 | succ m ih =>
  have em : (m : Int) = ((m + 1 : Nat) : Int) - 1 := by omega
  rw [em] at ih
  intro i d e a x0 x1 I V P h0 h1 m1 m2 hv
  refine more ?_
  simp only [rr_module.l1]
  exact ways (fun he => gate h0 (gate h1 (mod_j2 T ih _ i d e a _ _ _ _ _ h0 h1 m1 m2 hv (fun _ => he)))) (fun he => mod_j2 T ih _ i d e a _ _ _ _ _ h0 h1 m1 m2 hv (fun z => by cases z))
def GoodE (l : List Tok) (i : Int) (E : List Nd) : Prop := E.length ≤ 20000 ∧ ∃ k t i', P k .x (tk l) i = some (t, i') ∧ sg (tk l i') [59] = true ∧ Rep E t ((E.length : Int) - 1)
def pt : List AT := [(3, [109, 111, 100, 117, 108, 101]), (1, [109]), (4, [59]), (3, [112, 114, 111, 99]), (1, [112]), (4, [40]), (4, [41]), (3, [112, 99]), (1, [97]), (3, [117, 115, 101, 115]), (4, [123]), (4, [125]), (4, [123]), (3, [114, 101, 115, 117, 108, 116]), (4, [61])]
section
variable {l : List Tok} (T : Toks l) (hl : 16 ≤ l.length) (H : ∀ j : Nat, j < 15 → tk l (j : Int) = pt.getD j (0, []))
section
variable {i j : Int} {n : Nat} {d e a : Int} {s : ByteArray}
theorem here_y (h0 : 0 ≤ i) (h1 : i < l.length) : rr_here.f l i d e a = some ((rd_T69 l i).f2, i, d, e, a) := by
 unfold rr_here.f
 rw [if_pos h0, if_pos h1]
include hl H
theorem is_k (b : Bool) (n : Nat) (hn : n < 15) (h : sg (pt.getD n (0, [])) s.data.toList = b) (hi : i = n := by rfl) : rr_is.f l i d 0 a s = some (b, i, d, 0, a) := by
 subst hi
 rw [is_eq om om, if_pos rfl, H n hn, h]
theorem take_n (n : Nat) (hn : n < 15) (h : sg (pt.getD n (0, [])) s.data.toList = false) (hi : i = n := by rfl) : rr_take.f l i d 0 a s = some (false, i, d, 0, a) := by
 unfold rr_take.f
 rw [is_k hl H false n hn h hi, Option.bind_some, if_neg Bool.false_ne_true]
theorem take_y (n : Nat) (hn : n < 15) (h : sg (pt.getD n (0, [])) s.data.toList = true) (hi : i = n := by rfl) (hj : j = i + 1 := by rfl) : rr_take.f l i d 0 a s = some (true, j, d, 0, a) := by
 unfold rr_take.f
 rw [is_k hl H true n hn h hi, Option.bind_some, if_pos rfl, hj]
 dsimp only
 rw [w64 om om]
theorem want_y (n : Nat) (hn : n < 15) (h : sg (pt.getD n (0, [])) s.data.toList = true) (hi : i = n := by rfl) (hj : j = i + 1 := by rfl) : rr_want.f l i d 0 a s = some (j, d, 0, a) := by
 unfold rr_want.f
 rw [take_y hl H n hn h hi hj, Option.bind_some, if_pos rfl]
theorem name_y (n : Nat) (hn : n < 15) (h : (pt.getD n (0, [])).1 = 1) (hi : i = n := by rfl) (hj : j = i + 1 := by rfl) : rr_name.f l i d 0 a = some ((rd_T69 l i).f1, j, d, 0, a) := by
 subst hi
 unfold rr_name.f
 rw [if_pos om, if_pos om, if_pos rfl, if_pos (show (rd_T69 l n).f0 = 1 from (congrArg Prod.fst (H n hn)).trans h), w64 om om, hj]
end
include T hl H
theorem stmt_known {d a : Int} :
  EvP (fun n => rr_stmt.f n l 13 d 0 a) (fun r => ∃ x0 x1 x2 x3 x4 x5 x6 x7 x8 x9 x10 x11 i' d' e' a', r = (x0, x1, x2, x3, x4, x5, x6, x7, x8, x9, x10, x11, i', d', e', a') ∧ 13 < i' ∧ i' < l.length ∧ (e' = 0 → GoodE l 15 x8)) := by
 have T1 := T.1
 refine more ?_
 simp only [rr_stmt.f]
 refine known (here_y om om) ?_
 dsimp only
 refine gate rfl (gate om (gate om ?_))
 have hb : ((rd_T69 l 13).f0 == 1) = false := by
  rw [show (rd_T69 l 13).f0 = 3 from congrArg Prod.fst (H 13 (by decide))]
  rfl
 rw [hb]
 refine more ?_
 simp only [rr_stmt.j0]
 refine nw (known (take_n hl H 13 (by decide) rfl) (nw (known (take_y (j := 14) hl H 13 (by decide) rfl) (gate rfl (known (want_y (j := 15) hl H 14 (by decide) rfl) ?_)))))
 dsimp only
 refine expr_s T (by decide) om (fun L i2 d2 e2 a2 q1 q2 q3 q4 q5 => ?_)
 dsimp only at q2 ⊢
 refine want_s T om q3 (fun i3 e3 a3 r1 r2 r3 r4 => ?_)
 refine done ⟨_, _, _, _, _, _, _, _, _, _, _, _, _, _, _, _, rfl, om, r3, fun z => ?_⟩
 obtain ⟨z1, z2, z3⟩ := r4 z
 obtain ⟨_, k, t, g1, g2⟩ := q5 z1
 exact ⟨q1, k, t, _, g1, z3, g2⟩
theorem block_known {d a : Int} :
  EvP (fun n => rr_block.f n l 12 d 0 a) (fun r => ∃ B i' d' e' a', r = (B, i', d', e', a') ∧ 12 ≤ i' ∧ i' < l.length ∧ (e' = 0 → ∃ s M, B = s :: M ∧ GoodE l 15 s.f8)) := by
 have T1 := T.1
 refine more ?_
 simp only [rr_block.f]
 refine open_b T (by decide) om (fun i2 d2 e2 a2 q1 q2 q3 q4 => ?_)
 dsimp only
 by_cases he : e2 = 0
 ·
  have hi := (q4 he).2
  subst he hi
  refine more ?_
  simp only [rr_block.l0]
  refine gate trivial (known (is_k hl H false 13 (by decide) rfl) (nw (andThen (stmt_known T hl H) (fun r hr => ?_))))
  obtain ⟨y0, y1, y2, y3, y4, y5, y6, y7, y8, y9, y10, y11, i', d', e', a', rfl, p2, p3, p4⟩ := hr
  dsimp only
  refine gate (by decide) (weaker ((blocks T 20000).2 _ i' d' e' a' om p3 om om (by simp; omega) (by simp; omega)) (fun r hr => ?_))
  obtain ⟨B', i2, d2, e2, a2, rfl, k2, k3, k4, M, kM⟩ := hr
  exact ⟨_, _, _, _, _, rfl, om, k3, fun z => ⟨_, M, kM, p4 (k4 z)⟩⟩
 ·
  refine weaker ((blocks T 20000).2 [] i2 d2 e2 a2 om q3 om om (by simp; omega) (by simp; omega)) (fun r hr => ?_)
  obtain ⟨B', i', d', e', a', rfl, k2, k3, k4, _⟩ := hr
  exact ⟨_, _, _, _, _, rfl, om, k3, fun z => absurd (k4 z) he⟩
theorem module_known :
  EvP (fun n => rr_module.f n l 0 0 0 0) (fun r => r.2.2.2.2.2.2.2.1 = 0 → (r.2.2.2.2.1.length : Int) = 1 → ∃ p s M, r.2.2.2.2.1 = [p] ∧ p.f6 = s :: M ∧ GoodE l 15 s.f8) := by
 have T1 := T.1
 unfold rr_module.f
 refine known (want_y (j := 1) hl H 0 (by decide) rfl) (known (here_y (by decide) (by show (1 : Int) < _; omega)) (known (name_y (j := 2) hl H 1 (by decide) rfl) (known (want_y (j := 3) hl H 2 (by decide) rfl) (more ?_))))
 simp only [rr_module.l0]
 refine known (take_n hl H 3 (by decide) rfl) (nw (more ?_))
 simp only [rr_module.l1]
 refine gate trivial (gate (by decide) (gate om ?_))
 have hb : ((rd_T69 l 3).f0 != 0) = true := by
  rw [show (rd_T69 l 3).f0 = 3 from congrArg Prod.fst (H 3 (by decide))]
  rfl
 rw [hb]
 refine more ?_
 simp only [rr_module.j2]
 refine gate trivial (known (take_n hl H 3 (by decide) rfl) (nw (known (take_y (j := 4) hl H 3 (by decide) rfl) (gate rfl ?_))))
 have hp : EvP (fun n => rr_proc.f n l 4 0 0 0) (fun r => ∃ x0 x1 x2 x3 x4 x5 x6 x7 i' d' e' a', r = (x0, x1, x2, x3, x4, x5, x6, x7, i', d', e', a') ∧ 4 ≤ i' ∧ i' < l.length ∧ (e' = 0 → ∃ s M, x6 = s :: M ∧ GoodE l 15 s.f8)) := by
  unfold rr_proc.f
  refine known (here_y (by decide) om) (known (name_y (j := 5) hl H 4 (by decide) rfl) (known (want_y (j := 6) hl H 5 (by decide) rfl) (known (is_k hl H true 6 (by decide) rfl) (gate rfl (more ?_)))))
  simp only [rr_proc.j1]
  refine known (want_y (j := 7) hl H 6 (by decide) rfl) (known (take_n hl H 7 (by decide) rfl) (nw (more ?_)))
  simp only [rr_proc.j2]
  refine known (want_y (j := 8) hl H 7 (by decide) rfl) (known (name_y (j := 9) hl H 8 (by decide) rfl) (known (want_y (j := 10) hl H 9 (by decide) rfl) (known (want_y (j := 11) hl H 10 (by decide) rfl) (known (is_k hl H true 11 (by decide) rfl) (gate rfl (known (want_y (j := 12) hl H 11 (by decide) rfl) ?_))))))
  refine andThen (block_known T hl H) (fun r hr => ?_)
  obtain ⟨B, i', d', e', a', rfl, k2, k3, k4⟩ := hr
  dsimp only
  exact done ⟨_, _, _, _, _, _, _, _, _, _, _, _, rfl, om, k3, k4⟩
 refine andThen hp (fun r hr => ?_)
 obtain ⟨y0, y1, y2, y3, y4, y5, y6, y7, i', d', e', a', rfl, k2, k3, k4⟩ := hr
 dsimp only
 refine gate (by decide) (weaker (mod_l1 T 20000 i' d' e' a' _ _ _ _ _ om k3 om om ⟨by simp; omega, by simp; omega⟩) (fun r hr => ?_))
 intro z hlen
 obtain ⟨s, M, e1, e2⟩ := k4 (hr.2 z)
 obtain ⟨N, hN⟩ := hr.1
 rw [hN] at hlen ⊢
 cases N with
 | nil => exact ⟨_, s, M, List.append_nil _, e1, e2⟩
 | cons x N => simp at hlen; omega
end
theorem ext_le (s : ByteArray) (a b : Nat) : (s.extract a b).size ≤ s.size := by
 rw [ByteArray.size_extract]
 omega
theorem some_byte (t : ByteArray) (h : ¬ t.toList = ([] : List UInt8)) : 1 ≤ t.size := by
 refine Nat.pos_of_ne_zero (fun z => h ?_)
 rw [Lib.toList_data]
 have : t.data.size = 0 := z
 rw [Array.size_eq_zero_iff.mp this]
def ab (t : Tok) : AT := (t.f0, t.f1.data.toList)
def cut (s : ByteArray) (i : Int) : List UInt8 := s.data.toList.drop i.toNat
theorem cut_cons {s : ByteArray} {i : Int} (h0 : 0 ≤ i) (h : i < s.size) : ∃ c : UInt8, cut s i = c :: cut s (i + 1) ∧ bt s i = (c.toNat : Int) := by
 have hi : i.toNat < s.data.toList.length := by
  have : s.data.toList.length = s.size := Array.length_toList
  omega
 refine ⟨s.data.toList[i.toNat], ?_, ?_⟩
 ·
  unfold cut
  rw [show (i + 1).toNat = i.toNat + 1 by omega]
  exact List.drop_eq_getElem_cons hi
 ·
  rw [← bt_at s i om]
  rfl
theorem cut_end {s : ByteArray} {i : Int} (h : s.size ≤ i) : cut s i = [] := List.drop_eq_nil_of_le (by
 have : s.data.toList.length = s.size := Array.length_toList
 omega)
theorem cut_on {s : ByteArray} {i : Int} (h0 : 0 ≤ i) (n : Nat) : (cut s i).drop n = cut s (i + n) := by
 unfold cut
 rw [List.drop_drop]
 congr 1
 omega
theorem ext_list (s : ByteArray) (i x : Int) (h0 : 0 ≤ i) (h1 : i ≤ x) : (s.extract i.toNat x.toNat).data.toList = (cut s i).take (x - i).toNat := by
 rw [ByteArray.data_extract, Array.toList_extract, List.extract_eq_take_drop]
 unfold cut
 congr 1
 omega
def lcb (c : UInt8) : Bool := decide (97 ≤ c.toNat ∧ c.toNat ≤ 122)
def dcb (c : UInt8) : Bool := decide (48 ≤ c.toNat ∧ c.toNat ≤ 57)
def wcb (c : UInt8) : Bool := decide ((97 ≤ c.toNat ∧ c.toNat ≤ 122) ∨ (48 ≤ c.toNat ∧ c.toNat ≤ 57) ∨ c.toNat = 95)
def keyb (w : List UInt8) : Bool := (ra_Key.f ⟨w.toArray⟩).getD false
def sg1 : List UInt8 → List UInt8
 | [] => []
 | c :: _ => if [40, 41, 123, 125, 44, 59, 58, 46, 61, 60, 43, 45, 42, 47, 37, 33].contains c.toNat = true then [c] else []
theorem sg1_cons (c : UInt8) (L : List UInt8) : sg1 (c :: L) = if [40, 41, 123, 125, 44, 59, 58, 46, 61, 60, 43, 45, 42, 47, 37, 33].contains c.toNat = true then [c] else [] := rfl
def sgn (L : List UInt8) : List UInt8 := if L.take 2 = [61, 61] then L.take 2 else if L.take 2 = [60, 61] then L.take 2 else if L.take 2 = [45, 62] then L.take 2 else sg1 L
def tok1 : List UInt8 → Option (List AT × List UInt8)
 | [] => none
 | c :: L =>
  if c.toNat = 32 ∨ c.toNat = 9 ∨ c.toNat = 10 ∨ c.toNat = 13 then some ([], L)
  else if c.toNat = 35 then some ([], L.dropWhile (fun b => b.toNat != 10))
  else if lcb c = true then some ([(if keyb (c :: L.takeWhile wcb) = true then 3 else 1, c :: L.takeWhile wcb)], L.dropWhile wcb)
  else if dcb c = true then some ([(2, c :: L.takeWhile dcb)], L.dropWhile dcb)
  else if sgn (c :: L) = [] then none else some ([(4, sgn (c :: L))], (c :: L).drop (sgn (c :: L)).length)
inductive Lx : List UInt8 → List AT → Prop where
 | nil : Lx [] []
 | step {L L' : List UInt8} {o T : List AT} : tok1 L = some (o, L') → Lx L' T → Lx L (o ++ T)
theorem tw_take {p : UInt8 → Bool} : ∀ L : List UInt8, L.take (L.takeWhile p).length = L.takeWhile p ∧ L.drop (L.takeWhile p).length = L.dropWhile p
 | [] => ⟨rfl, rfl⟩
 | c :: L => by
  cases h : p c with
  | true =>
   rw [List.takeWhile_cons_of_pos h, List.dropWhile_cons_of_pos h, List.length_cons, List.take_succ_cons, List.drop_succ_cons, (tw_take L).1, (tw_take L).2]
   exact ⟨rfl, rfl⟩
  | false =>
   rw [← Bool.not_eq_true] at h
   rw [List.takeWhile_cons_of_neg h, List.dropWhile_cons_of_neg h]
   exact ⟨rfl, rfl⟩
section
variable {β : Type} {Q : β → Prop} {s : ByteArray} {i c : Int}
theorem letter_w {F : Nat → Bool → Option β} (k1 : 97 ≤ c ∧ c ≤ 122 → EvP (fun n => F n true) Q) (k2 : ¬ (97 ≤ c ∧ c ≤ 122) → EvP (fun n => F n false) Q) : EvP (fun n => (ra_letter.f c).bind (F n)) Q := by
 unfold ra_letter.f
 by_cases h : c ≥ 97
 ·
  refine known (if_pos h) ?_
  by_cases h2 : c ≤ 122
  ·
   rw [decide_eq_true h2]; exact k1 ⟨h, h2⟩
  ·
   rw [decide_eq_false h2]; exact k2 (fun z => h2 z.2)
 ·
  exact known (if_neg h) (k2 (fun z => h z.1))
theorem digit_w {F : Nat → Bool → Option β} (k1 : 48 ≤ c ∧ c ≤ 57 → EvP (fun n => F n true) Q) (k2 : ¬ (48 ≤ c ∧ c ≤ 57) → EvP (fun n => F n false) Q) : EvP (fun n => (ra_digit.f c).bind (F n)) Q := by
 unfold ra_digit.f
 by_cases h : c ≥ 48
 ·
  refine known (if_pos h) ?_
  by_cases h2 : c ≤ 57
  ·
   rw [decide_eq_true h2]; exact k1 ⟨h, h2⟩
  ·
   rw [decide_eq_false h2]; exact k2 (fun z => h2 z.2)
 ·
  exact known (if_neg h) (k2 (fun z => h z.1))
theorem key_b {F : Nat → Bool → Option β} (k : EvP (fun n => F n (keyb s.data.toList)) Q) : EvP (fun n => (ra_Key.f s).bind (F n)) Q := by
 obtain ⟨b, hb⟩ : ∃ b, ra_Key.f s = some b := by
  have one : ∀ {c : Prop} [Decidable c] {e : Option Bool}, (∃ b, e = some b) → ∃ b, (if c then some true else e) = some b := by
   intro c _ e h
   split
   ·
    exact ⟨_, rfl⟩
   ·
    exact h
  unfold ra_Key.f
  repeat refine one ?_
  exact ⟨_, rfl⟩
 have e : keyb s.data.toList = b := by
  show (ra_Key.f s).getD false = b
  rw [hb]
  rfl
 rw [e] at k
 exact known hb k
theorem sign_j (hs : s.size ≤ 8192) (h0 : 0 ≤ i) (h1 : i < s.size) : EvP (fun n => ra_sign.j0 n s i) (fun t => t.size ≤ 8192 ∧ t.data.toList = sg1 (cut s i)) := by
 refine more ?_
 simp only [ra_sign.j0]
 rw [w64 (n := i + 1) om om]
 obtain ⟨c, hc, hb⟩ := cut_cons h0 h1
 have he : ∀ v : Int, [40, 41, 123, 125, 44, 59, 58, 46, 61, 60, 43, 45, 42, 47, 37, 33].contains v.toNat = true → bt s i = v → (s.extract i.toNat (i + 1).toNat).size ≤ 8192 ∧ (s.extract i.toNat (i + 1).toNat).data.toList = sg1 (cut s i) := by
  intro v hv e
  refine ⟨Nat.le_trans (ext_le s _ _) hs, ?_⟩
  rw [ext_list s i (i + 1) h0 om, show (i + 1 - i).toNat = 1 by omega, hc]
  rw [sg1_cons, if_pos (by rw [show c.toNat = v.toNat by omega]; exact hv)]
  rfl
 refine gate h0 (gate h1 ?_)
 iterate 16 refine ways (fun h => gate om (gate om (done (he _ (by decide) h)))) (fun _ => ?_)
 refine done ⟨by decide, ?_⟩
 rw [hc, sg1_cons, if_neg]
 simp only [List.contains_cons, List.contains_nil, Bool.or_eq_true, beq_iff_eq, Bool.or_false]
 omega
theorem sign_b (hs : s.size ≤ 8192) (h0 : 0 ≤ i) (h1 : i < s.size) {F : Nat → ByteArray → Option β} (k : ∀ t, t.size ≤ 8192 → t.data.toList = sgn (cut s i) → EvP (fun n => F n t) Q) : EvP (fun n => (ra_sign.f n s i).bind (F n)) Q := by
 have h : EvP (fun n => ra_sign.f n s i) (fun t => t.size ≤ 8192 ∧ t.data.toList = sgn (cut s i)) := by
  unfold ra_sign.f
  rw [w64 (n := i + 1) om om, w64 (n := i + 2) om om]
  have hle := ext_le s i.toNat (i + 2).toNat
  have he := ext_list s i (i + 2) h0 om
  rw [show (i + 2 - i).toNat = 2 by omega] at he
  refine ways (fun h2 => gate h0 (gate om (gate om ?_))) (fun h2 => ?_)
  ·
   rw [Lib.toList_data, he]
   unfold sgn
   refine ways (fun z => done ⟨om, by rw [he, if_pos z]⟩) (fun z1 => ?_)
   refine ways (fun z => done ⟨om, by rw [he, if_neg z1, if_pos z]⟩) (fun z2 => ?_)
   refine ways (fun z => done ⟨om, by rw [he, if_neg z1, if_neg z2, if_pos z]⟩) (fun z3 => ?_)
   rw [if_neg z1, if_neg z2, if_neg z3]
   exact sign_j hs h0 h1
  ·
   have h1' : ∀ a b : UInt8, (cut s i).take 2 ≠ [a, b] := by
    intro a b z
    obtain ⟨c, hc, hb⟩ := cut_cons h0 h1
    rw [hc, cut_end om] at z
    cases z
   unfold sgn
   rw [if_neg (h1' _ _), if_neg (h1' _ _), if_neg (h1' _ _)]
   exact sign_j hs h0 h1
 exact andThen h (fun r hr => k r hr.1 hr.2)
end
def LexP (r : List Tok × Int × Int) : Prop := r.2.1 = 0 → Toks r.1 ∧ 0 < r.1.length
def LexQ (x5 : List Tok) (L : List UInt8) (r : List Tok × Int × Int) : Prop := LexP r ∧ (r.2.1 = 0 → ∃ T, r.1.map ab = x5.map ab ++ T ++ [(0, [])] ∧ Lx L T)
def Sofar (s : ByteArray) (x5 : List Tok) (x : Int) : Prop := 0 ≤ x ∧ x ≤ 20000 ∧ x5.length ≤ x ∧ x5.length ≤ s.size ∧ ∀ t ∈ x5, t.f1.size ≤ 8192
theorem sofar_on {s : ByteArray} {x5 : List Tok} {x y : Int} (h : Sofar s x5 x) (h1 : x ≤ y) (h2 : y ≤ 20000) : Sofar s x5 y := by
 obtain ⟨a, b, c, d, e⟩ := h
 exact ⟨om, h2, om, d, e⟩
theorem sofar_add {s : ByteArray} {x5 : List Tok} {x y : Int} {t : Tok} (h : Sofar s x5 x) (h0 : x < s.size) (h1 : x < y) (h2 : y ≤ 20000) (ht : t.f1.size ≤ 8192) : Sofar s (x5 ++ [t]) y := by
 obtain ⟨a, b, c, d, e⟩ := h
 refine ⟨om, h2, by simp only [List.length_append, List.length_singleton]; omega, by simp only [List.length_append, List.length_singleton]; omega, ?_⟩
 intro q hq
 rcases List.mem_append.mp hq with hq | hq
 ·
  exact e q hq
 ·
  obtain rfl := List.mem_singleton.mp hq
  exact ht
def Lexes (s : ByteArray) (m : Int) : Prop := ∀ (x5 : List Tok) (x : Int), Sofar s x5 x → s.size - x ≤ m → EvP (fun n => ra_Lex.l0 n s x5 x) (LexQ x5 (cut s x))
theorem end_toks {s : ByteArray} {x5 : List Tok} {x : Int} (hs : s.size ≤ 8192) (h : Sofar s x5 x) (hx : s.size ≤ x) : LexQ x5 (cut s x) (x5 ++ [⟨0, ⟨#[]⟩, (s.size : Int)⟩], 0, 0) := by
 obtain ⟨a, b, c, d, e⟩ := h
 refine ⟨fun _ => ?_, fun _ => ⟨[], ?_, ?_⟩⟩
 ·
  show Toks (x5 ++ [(⟨0, ⟨#[]⟩, (s.size : Int)⟩ : Tok)]) ∧ 0 < (x5 ++ [(⟨0, ⟨#[]⟩, (s.size : Int)⟩ : Tok)]).length
  refine ⟨⟨by simp only [List.length_append, List.length_singleton]; omega, ?_, ?_⟩, by simp⟩
  ·
   intro j j0 j1 hk
   simp only [List.length_append, List.length_singleton] at j1 ⊢
   refine Decidable.byContradiction (fun hn => hk ?_)
   have hj : j.toNat = x5.length := by omega
   simp [rd_T69, List.getD_eq_getElem?_getD, hj]
  ·
   intro j j0 j1
   have hj : j.toNat < (x5 ++ [(⟨0, ⟨#[]⟩, (s.size : Int)⟩ : Tok)]).length := by omega
   have hm : rd_T69 (x5 ++ [(⟨0, ⟨#[]⟩, (s.size : Int)⟩ : Tok)]) j ∈ x5 ++ [(⟨0, ⟨#[]⟩, (s.size : Int)⟩ : Tok)] := by
    unfold rd_T69
    rw [List.getD_eq_getElem?_getD, List.getElem?_eq_getElem hj]
    exact List.getElem_mem hj
   rcases List.mem_append.mp hm with hm | hm
   ·
    have := e _ hm
    omega
   ·
    rw [List.mem_singleton.mp hm]
    show (⟨#[]⟩ : ByteArray).size ≤ 10000
    decide
 ·
  rw [List.append_nil, List.map_append]
  rfl
 ·
  rw [cut_end hx]
  exact .nil
section
variable {s : ByteArray} {m : Int} {x5 : List Tok}
theorem err_t {c a : Int} {L : List UInt8} (hc : c ≠ 0) : EvP (fun _ => some (([] : List Tok), c, a)) (LexQ x5 L) := done ⟨fun z => absurd z hc, fun z => absurd z hc⟩
theorem lex_l1 (hs : s.size ≤ 8192) (H : Lexes s m) : ∀ (d : Nat) (x : Int), Sofar s x5 x → s.size - x ≤ m → s.size - x ≤ d → x ≤ s.size → EvP (fun n => ra_Lex.l1 n s x5 x) (LexQ x5 ((cut s x).dropWhile (fun b => b.toNat != 10))) := by
 have last : ∀ x, Sofar s x5 x → s.size - x ≤ m → ¬ x < s.size → EvP (fun n => ra_Lex.l0 n s x5 x) (LexQ x5 ((cut s x).dropWhile (fun b => b.toNat != 10))) := by
  intro x hx hm hn
  have := H x5 x hx hm
  rw [cut_end om] at this ⊢
  exact this
 intro d
 induction d with
 | zero =>
  intro x hx hm hd hsz
  refine more ?_
  simp only [ra_Lex.l1]
  exact ways (fun z => absurd z om) (fun z => last x hx hm z)
 | succ d ih =>
  intro x hx hm hd hsz
  have h0 := hx.1
  refine more ?_
  simp only [ra_Lex.l1]
  refine ways (fun h => gate h0 (ways (fun h10 => ?_) (fun h10 => ?_))) (fun z => last x hx hm z)
  ·
   obtain ⟨c, hc, hb⟩ := cut_cons h0 h
   have := H x5 x hx hm
   rw [hc] at this ⊢
   rw [List.dropWhile_cons_of_neg (by rw [bne_iff_ne]; omega)]
   exact this
  ·
   obtain ⟨c, hc, hb⟩ := cut_cons h0 h
   rw [w64 (n := x + 1) om om, hc, List.dropWhile_cons_of_pos (by rw [bne_iff_ne]; omega)]
   exact ih (x + 1) (sofar_on hx om om) om om om
def WordP (s : ByteArray) (x5 : List Tok) (p : UInt8 → Bool) (kd : List UInt8 → Int) (i x : Int) (r : List Tok × Int × Int) : Prop := LexP r ∧ (r.2.1 = 0 → ∃ T, r.1.map ab = x5.map ab ++ ([(kd ((cut s i).take (x + ((cut s x).takeWhile p).length - i).toNat), (cut s i).take (x + ((cut s x).takeWhile p).length - i).toNat)] ++ T) ++ [(0, [])] ∧ Lx ((cut s x).dropWhile p) T)
theorem word_err {p : UInt8 → Bool} {kd : List UInt8 → Int} {i x c a : Int} (hc : c ≠ 0) : EvP (fun _ => some (([] : List Tok), c, a)) (WordP s x5 p kd i x) := done ⟨fun z => absurd z hc, fun z => absurd z hc⟩
theorem word_on {p : UInt8 → Bool} {kd : List UInt8 → Int} {i x : Int} {c : UInt8} {r : List Tok × Int × Int} (h : WordP s x5 p kd i (x + 1) r) (hc : cut s x = c :: cut s (x + 1)) (hp : p c = true) : WordP s x5 p kd i x r := by
 unfold WordP at h ⊢
 rw [hc, List.takeWhile_cons_of_pos hp, List.dropWhile_cons_of_pos hp, List.length_cons]
 rw [show x + (((cut s (x + 1)).takeWhile p).length + 1 : Nat) - i = x + 1 + ((cut s (x + 1)).takeWhile p).length - i by omega]
 exact h
theorem word_done {p : UInt8 → Bool} {kd : List UInt8 → Int} {i x : Int} {k : Int} (hs : s.size ≤ 8192) (H : Lexes s m) (hi : Sofar s x5 i) (h1 : i < x) (h2 : x ≤ s.size) (hm : s.size - x ≤ m) (hn : (cut s x).takeWhile p = [] ∧ (cut s x).dropWhile p = cut s x) (hk : kd (s.extract i.toNat x.toNat).data.toList = k) : EvP (fun n => ra_Lex.l0 n s (x5 ++ [(⟨k, s.extract (i : Int).toNat (x : Int).toNat, i⟩ : Tok)]) x) (WordP s x5 p kd i x) := by
 refine weaker (H _ x (sofar_add hi om h1 om (Nat.le_trans (ext_le s _ _) hs)) hm) (fun r hr => ⟨hr.1, fun z => ?_⟩)
 obtain ⟨T, e1, e2⟩ := hr.2 z
 rw [hn.1, hn.2, List.length_nil, show x + ((0 : Nat) : Int) - i = x - i by omega, ← ext_list s i x hi.1 om]
 refine ⟨T, ?_, e2⟩
 rw [e1, List.map_append, hk]
 simp [ab]
theorem stops {p : UInt8 → Bool} {x : Int} (h0 : 0 ≤ x) (h : x < s.size → ∀ c : UInt8, bt s x = (c.toNat : Int) → p c = false) : (cut s x).takeWhile p = [] ∧ (cut s x).dropWhile p = cut s x := by
 by_cases hx : x < s.size
 ·
  obtain ⟨c, hc, hb⟩ := cut_cons h0 hx
  have := h hx c hb
  rw [← Bool.not_eq_true] at this
  rw [hc, List.takeWhile_cons_of_neg this, List.dropWhile_cons_of_neg this]
  exact ⟨rfl, rfl⟩
 ·
  rw [cut_end om]
  exact ⟨rfl, rfl⟩
abbrev kdw (w : List UInt8) : Int := if keyb w = true then 3 else 1
theorem lex_j4 (hs : s.size ≤ 8192) (H : Lexes s m) (i x : Int) (hi : Sofar s x5 i) (h1 : i < x) (h2 : x ≤ s.size) (hm : s.size - x ≤ m) (hn : (cut s x).takeWhile wcb = [] ∧ (cut s x).dropWhile wcb = cut s x) : EvP (fun n => ra_Lex.j4 n s x5 i x) (WordP s x5 wcb kdw i x) := by
 obtain ⟨a, b, c, d, e⟩ := id hi
 refine more ?_
 simp only [ra_Lex.j4]
 refine gate a (gate om (gate h2 (key_b (ways (fun hk => ?_) (fun hk => ?_)))))
 ·
  exact ways (fun _ => word_err om) (fun _ => gate om (word_done hs H hi h1 h2 hm hn (if_pos hk)))
 ·
  exact ways (fun _ => word_err om) (fun _ => gate om (word_done hs H hi h1 h2 hm hn (if_neg hk)))
theorem lex_l2 (hs : s.size ≤ 8192) (H : Lexes s m) (i : Int) (hi : Sofar s x5 i) (hm : s.size - i ≤ m + 1) : ∀ (d : Nat) (x : Int), s.size - x ≤ d → i < x → x ≤ s.size → EvP (fun n => ra_Lex.l2 n s x5 i x) (WordP s x5 wcb kdw i x) := by
 have h0 := hi.1
 intro d
 induction d with
 | zero =>
  intro x hd hx hsz
  refine more ?_
  simp only [ra_Lex.l2]
  exact ways (fun z => absurd z om) (fun _ => lex_j4 hs H i x hi hx hsz om (stops om (fun z => om)))
 | succ d ih =>
  intro x hd hx hsz
  refine more ?_
  simp only [ra_Lex.l2]
  refine ways (fun h => gate om ?_) (fun _ => lex_j4 hs H i x hi hx hsz om (stops om (fun z => om)))
  obtain ⟨c, hc, hb⟩ := cut_cons om h
  rw [w64 (n := x + 1) om om]
  have next : wcb c = true → EvP (fun n => ra_Lex.l2 n s x5 i (x + 1)) (WordP s x5 wcb kdw i x) := fun hp => weaker (ih (x + 1) om om om) (fun r hr => word_on hr hc hp)
  exact letter_w (fun z => gate rfl (next (decide_eq_true om))) (fun z1 => nw (digit_w (fun z => gate rfl (next (decide_eq_true om))) (fun z2 => nw (ways (fun z => next (decide_eq_true om)) (fun z3 => lex_j4 hs H i x hi hx hsz om (stops om (fun _ c' hb' => decide_eq_false om)))))))
theorem lex_j6 (hs : s.size ≤ 8192) (H : Lexes s m) (i q x : Int) (hi : Sofar s x5 i) (h1 : i < x) (h2 : x ≤ s.size) (hm : s.size - x ≤ m) (hn : (cut s x).takeWhile dcb = [] ∧ (cut s x).dropWhile dcb = cut s x) : EvP (fun n => ra_Lex.j6 n s x5 i q x) (WordP s x5 dcb (fun _ => 2) i x) := by
 obtain ⟨a, b, c, d, e⟩ := id hi
 have good : EvP (fun n => ra_Lex.l0 n s (x5 ++ [(⟨2, s.extract (i : Int).toNat (x : Int).toNat, i⟩ : Tok)]) x) (WordP s x5 dcb (fun _ => 2) i x) := word_done hs H hi h1 h2 hm hn rfl
 refine more ?_
 simp only [ra_Lex.j6]
 repeat' first
  | exact good
  | exact word_err om
  | with_reducible refine gate om ?_
  | with_reducible refine letter_w (fun _ => ?_) (fun _ => ?_)
  | with_reducible refine ways (fun _ => ?_) (fun _ => ?_)
theorem lex_l3 (hs : s.size ≤ 8192) (H : Lexes s m) (i q : Int) (hi : Sofar s x5 i) (hm : s.size - i ≤ m + 1) : ∀ (d : Nat) (x : Int), s.size - x ≤ d → i < x → x ≤ s.size → EvP (fun n => ra_Lex.l3 n s x5 i q x) (WordP s x5 dcb (fun _ => 2) i x) := by
 have h0 := hi.1
 intro d
 induction d with
 | zero =>
  intro x hd hx hsz
  refine more ?_
  simp only [ra_Lex.l3]
  exact ways (fun z => absurd z om) (fun _ => lex_j6 hs H i q x hi hx hsz om (stops om (fun z => om)))
 | succ d ih =>
  intro x hd hx hsz
  refine more ?_
  simp only [ra_Lex.l3]
  refine ways (fun h => gate om ?_) (fun _ => lex_j6 hs H i q x hi hx hsz om (stops om (fun z => om)))
  obtain ⟨c, hc, hb⟩ := cut_cons om h
  rw [w64 (n := x + 1) om om]
  exact digit_w (fun z => gate rfl (weaker (ih (x + 1) om om om) (fun r hr => word_on hr hc (decide_eq_true om)))) (fun z => nw (lex_j6 hs H i q x hi hx hsz om (stops om (fun _ c' hb' => decide_eq_false om))))
theorem word_tok {p : UInt8 → Bool} {kd : List UInt8 → Int} {i : Int} {c : UInt8} {r : List Tok × Int × Int} (h0 : 0 ≤ i) (h : WordP s x5 p kd i (i + 1) r) (hc : cut s i = c :: cut s (i + 1)) (ht : tok1 (cut s i) = some ([(kd (c :: (cut s (i + 1)).takeWhile p), c :: (cut s (i + 1)).takeWhile p)], (cut s (i + 1)).dropWhile p)) : LexQ x5 (cut s i) r := by
 refine ⟨h.1, fun z => ?_⟩
 obtain ⟨T, e1, e2⟩ := h.2 z
 have hw : (cut s i).take (i + 1 + ((cut s (i + 1)).takeWhile p).length - i).toNat = c :: (cut s (i + 1)).takeWhile p := by
  rw [show (i + 1 + ((cut s (i + 1)).takeWhile p).length - i).toNat = ((cut s (i + 1)).takeWhile p).length + 1 by omega, hc, List.take_succ_cons, (tw_take _).1]
 rw [hw] at e1
 exact ⟨_, e1, .step ht e2⟩
theorem lex_j1 (hs : s.size ≤ 8192) (H : Lexes s m) (i : Int) (f : Bool) (hi : Sofar s x5 i) (h1 : i < s.size) (hm : s.size - i ≤ m + 1) (hf : f = true ↔ bt s i = 32 ∨ bt s i = 9 ∨ bt s i = 10 ∨ bt s i = 13) : EvP (fun n => ra_Lex.j1 n s x5 i (bt s i) f) (LexQ x5 (cut s i)) := by
 obtain ⟨a, b, c, d, e⟩ := id hi
 have hw : wrap64 (i + 1) = i + 1 := w64 om om
 obtain ⟨c, hc, hb⟩ := cut_cons a h1
 refine more ?_
 simp only [ra_Lex.j1]
 rw [hw]
 refine ways (fun hft => ?_) (fun hft => ?_)
 ·
  refine weaker (H _ _ (sofar_on hi om om) om) (fun r hr => ⟨hr.1, fun z => ?_⟩)
  obtain ⟨T, e1, e2⟩ := hr.2 z
  have := hf.mp hft
  have ht : tok1 (cut s i) = some ([], cut s (i + 1)) := by
   rw [hc]
   exact if_pos om
  exact ⟨T, e1, Lx.step ht e2⟩
 have hne : ¬ (c.toNat = 32 ∨ c.toNat = 9 ∨ c.toNat = 10 ∨ c.toNat = 13) := fun z => hft (hf.mpr om)
 have lc : lcb c = true ↔ 97 ≤ c.toNat ∧ c.toNat ≤ 122 := decide_eq_true_iff
 have dc : dcb c = true ↔ 48 ≤ c.toNat ∧ c.toNat ≤ 57 := decide_eq_true_iff
 refine ways (fun h35 => more ?_) (fun h35 => letter_w (fun hl => gate rfl (more ?_)) (fun hl => nw (digit_w (fun hd => gate rfl (more ?_)) (fun hd => nw ?_))))
 ·
  simp only [ra_Lex.l1]
  rw [hw]
  refine gate h1 (gate a (ways (fun z => absurd z om) (fun _ => weaker (lex_l1 hs H 10000 (i + 1) (sofar_on hi om om) om om om) (fun r hr => ⟨hr.1, fun z => ?_⟩))))
  obtain ⟨T, e1, e2⟩ := hr.2 z
  have ht : tok1 (cut s i) = some ([], (cut s (i + 1)).dropWhile (fun b => b.toNat != 10)) := by
   rw [hc]
   show (if _ then _ else _) = _
   rw [if_neg hne, if_pos om]
  exact ⟨T, e1, Lx.step ht e2⟩
 ·
  simp only [ra_Lex.l2]
  rw [hw]
  refine gate h1 (gate a (letter_w (fun _ => gate rfl (weaker (lex_l2 hs H i hi hm 10000 (i + 1) om om om) (fun r hr => word_tok a hr hc ?_))) (fun z => absurd hl z)))
  rw [hc]
  show (if _ then _ else _) = _
  rw [if_neg hne, if_neg om, if_pos (lc.mpr om)]
 ·
  simp only [ra_Lex.l3]
  rw [hw]
  refine gate h1 (gate a (digit_w (fun _ => gate rfl (weaker (lex_l3 hs H i _ hi hm 10000 (i + 1) om om om) (fun r hr => word_tok a hr hc ?_))) (fun z => absurd hd z)))
  rw [hc]
  show (if _ then _ else _) = _
  rw [if_neg hne, if_neg om, if_neg (fun z => by have := lc.mp z; omega), if_pos (dc.mpr om)]
 ·
  refine sign_b hs a h1 (fun t ht hts => ways (fun _ => err_t om) (fun hne2 => gate om ?_))
  have h1t := some_byte t hne2
  rw [w64 (n := i + (t.size : Int)) om om]
  refine weaker (H _ _ (sofar_add hi h1 om om ht) om) (fun r hr => ⟨hr.1, fun z => ?_⟩)
  obtain ⟨T, e1, e2⟩ := hr.2 z
  have hlen : (sgn (cut s i)).length = t.size := by rw [← hts]; exact Array.length_toList
  have htk : tok1 (cut s i) = some ([(4, sgn (cut s i))], cut s (i + (t.size : Int))) := by
   rw [← cut_on a, ← hlen]
   rw [Lib.toList_data, hts] at hne2
   rw [hc] at hne2 ⊢
   show (if _ then _ else _) = _
   rw [if_neg hne, if_neg om, if_neg (fun z => by have := lc.mp z; omega), if_neg (fun z => by have := dc.mp z; omega), if_neg hne2]
  refine ⟨[(4, sgn (cut s i))] ++ T, ?_, Lx.step htk e2⟩
  rw [e1, List.map_append, ← hts]
  simp [ab]
end
theorem lexes {s : ByteArray} (hs : s.size ≤ 8192) : ∀ m : Nat, Lexes s m := by
 intro m
 induction m with
 | zero =>
  intro x5 x hx hm
  have h4 := hx.2.2.2.1
  refine more ?_
  simp only [ra_Lex.l0]
  exact ways (fun z => absurd z om) (fun _ => gate om (done (end_toks hs hx om)))
 | succ m ih =>
  intro x5 x hx hm
  have h4 := hx.2.2.2.1
  refine more ?_
  simp only [ra_Lex.l0]
  refine ways (fun h1 => gate hx.1 ?_) (fun _ => gate om (done (end_toks hs hx om)))
  have hj := fun f => lex_j1 hs ih x f hx h1 om
  refine ways (fun _ => hj _ ?_) (fun _ => ways (fun _ => hj _ ?_) (fun _ => ways (fun _ => hj _ ?_) (fun _ => hj _ ?_)))
  ·
   simp only [true_iff]; omega
  ·
   simp only [true_iff]; omega
  ·
   simp only [true_iff]; omega
  ·
   rw [beq_iff_eq]; omega
theorem lex_t (s : ByteArray) : EvP (fun n => ra_Lex.f n s) (LexQ [] s.data.toList) := by
 unfold ra_Lex.f
 refine ways (fun _ => err_t om) (fun h => ?_)
 exact lexes om 10000 [] 0 ⟨om, om, by simp, by simp, by simp⟩ om
theorem lx_inv {c : UInt8} {L : List UInt8} {T : List AT} (h : Lx (c :: L) T) : ∃ o L' T', tok1 (c :: L) = some (o, L') ∧ Lx L' T' ∧ T = o ++ T' := by
 cases h with
 | step a b => exact ⟨_, _, _, a, b, rfl⟩
def it : Nat → List UInt8 → Option (List AT × List UInt8)
 | 0, L => some ([], L)
 | n + 1, L => (tok1 L).bind fun r => (it n r.2).bind fun q => some (r.1 ++ q.1, q.2)
theorem it_lx : ∀ (n : Nat) (L : List UInt8) (o : List AT) (L' : List UInt8) (T : List AT), it n L = some (o, L') → Lx L T → ∃ T', T = o ++ T' ∧ Lx L' T' := by
 intro n
 induction n with
 | zero =>
  intro L o L' T h hl
  obtain ⟨e1, e2⟩ := sp h
  subst e1 e2
  exact ⟨T, rfl, hl⟩
 | succ n ih =>
  intro L o L' T h hl
  obtain ⟨r, h1, h2⟩ := bm h
  obtain ⟨q, h3, h4⟩ := bm h2
  obtain ⟨e1, e2⟩ := sp h4
  subst e1 e2
  cases L with
  | nil => cases h1
  | cons c L =>
   obtain ⟨o', L2, T', g1, g2, g3⟩ := lx_inv hl
   rw [h1] at g1
   have e' := Option.some.inj g1
   subst e'
   obtain ⟨T2, k1, k2⟩ := ih _ _ _ _ h3 g2
   exact ⟨T2, by rw [g3, k1, List.append_assoc], k2⟩
def brk (c : UInt8) : Prop := c = 59 ∨ c = 41
theorem tw_app {p : UInt8 → Bool} {c : UInt8} (hp : p c = false) (q : List UInt8) : ∀ L : List UInt8, (L ++ c :: q).takeWhile p = L.takeWhile p ∧ (L ++ c :: q).dropWhile p = L.dropWhile p ++ c :: q
 | [] => by
  rw [← Bool.not_eq_true] at hp
  rw [List.nil_append, List.takeWhile_cons_of_neg hp, List.dropWhile_cons_of_neg hp]
  exact ⟨rfl, rfl⟩
 | x :: L => by
  rw [List.cons_append]
  cases h : p x with
  | true =>
   rw [List.takeWhile_cons_of_pos h, List.dropWhile_cons_of_pos h, List.takeWhile_cons_of_pos h, List.dropWhile_cons_of_pos h, (tw_app hp q L).1, (tw_app hp q L).2]
   exact ⟨rfl, rfl⟩
  | false =>
   rw [← Bool.not_eq_true] at h
   rw [List.takeWhile_cons_of_neg h, List.dropWhile_cons_of_neg h, List.takeWhile_cons_of_neg h, List.dropWhile_cons_of_neg h]
   exact ⟨rfl, rfl⟩
theorem dw_le (p : UInt8 → Bool) (L : List UInt8) : (L.dropWhile p).length ≤ L.length := by
 rw [← (tw_take L).2, List.length_drop]
 omega
theorem sgn_app {c : UInt8} (hc : brk c) (x : UInt8) (q : List UInt8) : ∀ L : List UInt8, sgn (x :: L ++ c :: q) = sgn (x :: L)
 | [] => by
  have h1 : ∀ b : UInt8, b = 61 ∨ b = 62 → ∀ d : UInt8, ([x] ++ c :: q).take 2 ≠ [d, b] := by
   intro b hb d z
   injection z with _ z
   injection z with z _
   rcases hc with e | e <;> rcases hb with e2 | e2 <;> rw [e, e2] at z <;> exact absurd z (by decide)
  have h2 : ∀ b d : UInt8, [x].take 2 ≠ [d, b] := by
   intro b d z
   injection z with _ z
   cases z
  unfold sgn
  rw [if_neg (h1 _ (.inl rfl) _), if_neg (h1 _ (.inl rfl) _), if_neg (h1 _ (.inr rfl) _), if_neg (h2 _ _), if_neg (h2 _ _), if_neg (h2 _ _)]
  rfl
 | y :: L => rfl
theorem brk_facts {c : UInt8} (h : brk c) : wcb c = false ∧ dcb c = false ∧ c.toNat ≠ 10 := by
 rcases h with rfl | rfl <;> exact ⟨by decide, by decide, by decide⟩
theorem sgn_len (x : UInt8) (L : List UInt8) (h : sgn (x :: L) ≠ []) : 1 ≤ (sgn (x :: L)).length ∧ (sgn (x :: L)).length ≤ (x :: L).length := by
 refine ⟨by cases z : sgn (x :: L) with | nil => exact absurd z h | cons a b => exact Nat.succ_le_succ (Nat.zero_le _), ?_⟩
 have ht : ((x :: L).take 2).length ≤ (x :: L).length := by rw [List.length_take]; omega
 unfold sgn
 split
 ·
  exact ht
 ·
  split
  ·
   exact ht
  ·
   split
   ·
    exact ht
   ·
    rw [sg1_cons]
    split
    ·
     exact Nat.succ_le_succ (Nat.zero_le _)
    ·
     exact Nat.zero_le _
theorem tok_local (x : UInt8) (a : List UInt8) : (∃ o a', a'.length ≤ a.length ∧ ∀ c q, brk c → tok1 (x :: a ++ c :: q) = some (o, a' ++ c :: q)) ∨ (∀ c q, brk c → tok1 (x :: a ++ c :: q) = some ([], q.dropWhile (fun b => b.toNat != 10))) ∨ (∀ c q, brk c → tok1 (x :: a ++ c :: q) = none) := by
 by_cases h1 : x.toNat = 32 ∨ x.toNat = 9 ∨ x.toNat = 10 ∨ x.toNat = 13
 ·
  exact .inl ⟨[], a, Nat.le_refl _, fun c q hc => if_pos h1⟩
 by_cases h2 : x.toNat = 35
 ·
  have hu : ∀ c q, tok1 (x :: a ++ c :: q) = some ([], (a ++ c :: q).dropWhile (fun b => b.toNat != 10)) := by
   intro c q
   show (if _ then _ else _) = _
   rw [if_neg h1, if_pos h2]
   rfl
  have ha : ∀ c, brk c → ((∃ L', L'.length ≤ a.length ∧ L' = a.dropWhile (fun b => b.toNat != 10) ∧ L' ≠ [] ∧ ∀ q, (a ++ c :: q).dropWhile (fun b => b.toNat != 10) = L' ++ c :: q) ∨ (a.dropWhile (fun b => b.toNat != 10) = [] ∧ ∀ q, (a ++ c :: q).dropWhile (fun b => b.toNat != 10) = q.dropWhile (fun b => b.toNat != 10))) := by
   intro c hc
   have hd : ∀ q, (a ++ c :: q).dropWhile (fun b => b.toNat != 10) = if (a.dropWhile (fun b => b.toNat != 10)).isEmpty = true then (c :: q).dropWhile (fun b => b.toNat != 10) else a.dropWhile (fun b => b.toNat != 10) ++ c :: q := fun q => List.dropWhile_append
   cases z : a.dropWhile (fun b => b.toNat != 10) with
   | nil =>
    right
    refine ⟨rfl, fun q => ?_⟩
    rw [hd, z, List.isEmpty_nil, if_pos rfl]
    exact List.dropWhile_cons_of_pos (by rw [bne_iff_ne]; exact (brk_facts hc).2.2)
   | cons y L =>
    left
    refine ⟨y :: L, by rw [← z]; exact dw_le _ _, rfl, by simp, fun q => ?_⟩
    rw [hd, z, if_neg (by simp)]
  cases z : a.dropWhile (fun b => b.toNat != 10) with
  | nil =>
   refine .inr (.inl (fun c q hc => ?_))
   rcases ha c hc with ⟨L', _, e, e2, _⟩ | ⟨_, h⟩
   ·
    exact absurd (e.trans z) e2
   ·
    rw [hu, h]
  | cons y L =>
   refine .inl ⟨[], y :: L, by rw [← z]; exact dw_le _ _, fun c q hc => ?_⟩
   rcases ha c hc with ⟨L', _, e, e2, h⟩ | ⟨e, _⟩
   ·
    rw [hu, h, e, z]
   ·
    rw [z] at e; cases e
 by_cases h3 : lcb x = true
 ·
  refine .inl ⟨[(if keyb (x :: a.takeWhile wcb) = true then 3 else 1, x :: a.takeWhile wcb)], a.dropWhile wcb, dw_le _ _, fun c q hc => ?_⟩
  obtain ⟨e1, e2⟩ := tw_app (brk_facts hc).1 q a
  show (if _ then _ else _) = _
  rw [if_neg h1, if_neg h2, if_pos h3]
  show some ([(if keyb (x :: (a ++ c :: q).takeWhile wcb) = true then 3 else 1, x :: (a ++ c :: q).takeWhile wcb)], (a ++ c :: q).dropWhile wcb) = _
  rw [e1, e2]
 by_cases h4 : dcb x = true
 ·
  refine .inl ⟨[(2, x :: a.takeWhile dcb)], a.dropWhile dcb, dw_le _ _, fun c q hc => ?_⟩
  obtain ⟨e1, e2⟩ := tw_app (brk_facts hc).2.1 q a
  show (if _ then _ else _) = _
  rw [if_neg h1, if_neg h2, if_neg h3, if_pos h4]
  show some ([(2, x :: (a ++ c :: q).takeWhile dcb)], (a ++ c :: q).dropWhile dcb) = _
  rw [e1, e2]
 have hu : ∀ c q, brk c → tok1 (x :: a ++ c :: q) = if sgn (x :: a) = [] then none else some ([(4, sgn (x :: a))], (x :: a ++ c :: q).drop (sgn (x :: a)).length) := by
  intro c q hc
  show (if _ then _ else _) = _
  rw [if_neg h1, if_neg h2, if_neg h3, if_neg h4]
  show (if sgn (x :: a ++ c :: q) = [] then none else some ([(4, sgn (x :: a ++ c :: q))], (x :: a ++ c :: q).drop (sgn (x :: a ++ c :: q)).length)) = _
  rw [sgn_app hc x q a]
 by_cases h5 : sgn (x :: a) = []
 ·
  exact .inr (.inr (fun c q hc => by rw [hu c q hc, if_pos h5]))
 ·
  obtain ⟨l1, l2⟩ := sgn_len x a h5
  refine .inl ⟨[(4, sgn (x :: a))], (x :: a).drop (sgn (x :: a)).length, by rw [List.length_drop, List.length_cons]; omega, fun c q hc => ?_⟩
  rw [hu c q hc, if_neg h5, List.drop_append_of_le_length l2]
theorem split : ∀ (n : Nat) (a : List UInt8), a.length ≤ n → ∃ (tA : List AT) (m : Bool), ∀ (c : UInt8) (q : List UInt8) (T : List AT), brk c → Lx (a ++ c :: q) T → ∃ T2, T = tA ++ T2 ∧ Lx (if m = true then q.dropWhile (fun b => b.toNat != 10) else c :: q) T2 := by
 intro n
 induction n with
 | zero =>
  intro a ha
  obtain rfl := List.length_eq_zero_iff.mp (Nat.le_zero.mp ha)
  exact ⟨[], false, fun c q T hc h => ⟨T, rfl, h⟩⟩
 | succ n ih =>
  intro a ha
  cases a with
  | nil => exact ⟨[], false, fun c q T hc h => ⟨T, rfl, h⟩⟩
  | cons x a =>
   rw [List.length_cons] at ha
   rcases tok_local x a with ⟨o, a', h1, h2⟩ | h2 | h2
   ·
    obtain ⟨tA, m, h3⟩ := ih a' om
    refine ⟨o ++ tA, m, fun c q T hc h => ?_⟩
    obtain ⟨o', L', T', g1, g2, g3⟩ := lx_inv h
    have e := (h2 c q hc).symm.trans g1
    injection e with e
    injection e with e1 e2
    subst e1 e2
    obtain ⟨T2, k1, k2⟩ := h3 c q T' hc g2
    exact ⟨T2, by rw [g3, k1, List.append_assoc], k2⟩
   ·
    refine ⟨[], true, fun c q T hc h => ?_⟩
    obtain ⟨o', L', T', g1, g2, g3⟩ := lx_inv h
    have e := (h2 c q hc).symm.trans g1
    injection e with e
    injection e with e1 e2
    subst e1 e2
    exact ⟨T', g3, g2⟩
   ·
    refine ⟨[], false, fun c q T hc h => ?_⟩
    obtain ⟨o', L', T', g1, g2, g3⟩ := lx_inv h
    have e := (h2 c q hc).symm.trans g1
    cases e
def Big (md : Md) (f : Int → AT) (i : Int) (r : Option (Tree × Int)) : Prop := ∃ K, ∀ k, K ≤ k → P k md f i = r
section
variable {f : Int → AT} {i j : Int} {r : Option (Tree × Int)} {a b : Tree}
theorem Big.of {k : Nat} {md : Md} {q : Tree × Int} (h : P k md f i = some q) : Big md f i (some q) := ⟨k, fun k' hk => P_up h hk⟩
theorem Big.same {md : Md} {k : Nat} {q : Tree × Int} (h : Big md f i r) (h' : P k md f i = some q) : r = some q := by
 obtain ⟨K, hK⟩ := h
 rw [← hK (max K k) (Nat.le_max_left _ _)]
 exact P_up h' (Nat.le_max_right _ _)
theorem Big.step {md : Md} (h : ∃ K, ∀ k, K ≤ k → P (k + 1) md f i = r) : Big md f i r := by
 obtain ⟨K, hK⟩ := h
 refine ⟨K + 1, fun k hk => ?_⟩
 obtain ⟨k, rfl⟩ : ∃ k', k = k' + 1 := ⟨k - 1, om⟩
 exact hK k om
theorem big_par (h : Big .x f (i + 1) (some (a, j))) (h0 : f i = (4, [40])) : Big .u f i (if sg (f j) [41] = true then some (a, j + 1) else none) := by
 obtain ⟨K, hK⟩ := h
 refine .step ⟨K, fun k hk => ?_⟩
 rw [P, h0, if_neg (by decide), if_neg (by decide), if_pos (by decide), hK k hk, Option.bind_some]
theorem big_neg (h : Big .u f (i + 1) r) (h0 : f i = (4, [45])) : Big .u f i (r.bind fun q => some (.un 3 q.1, q.2)) := by
 obtain ⟨K, hK⟩ := h
 refine .step ⟨K, fun k hk => ?_⟩
 rw [P, h0, if_neg (by decide), if_pos (by decide), hK k hk]
theorem big_tl (h : opT (f j) = none) : Big (.tl a) f j (some (a, j)) := .step ⟨0, fun k _ => by rw [P, h]⟩
theorem big_sl (h : opS (f j) = none) : Big (.sl a) f j (some (a, j)) := .step ⟨0, fun k _ => by rw [P, h]⟩
theorem big_t (h : Big .u f i r) (hs : ∀ q, r = some q → opT (f q.2) = none) : Big .t f i r := by
 obtain ⟨K, hK⟩ := h
 cases r with
 | none => exact .step ⟨K, fun k hk => by rw [P, hK k hk, Option.bind_none]⟩
 | some q =>
  obtain ⟨K2, h2⟩ := big_tl (a := q.1) (hs q rfl)
  exact .step ⟨max K K2, fun k hk => by rw [P, hK k om, Option.bind_some]; exact h2 k om⟩
theorem big_s (h : Big .t f i r) (hs : ∀ q, r = some q → opS (f q.2) = none) : Big .s f i r := by
 obtain ⟨K, hK⟩ := h
 cases r with
 | none => exact .step ⟨K, fun k hk => by rw [P, hK k hk, Option.bind_none]⟩
 | some q =>
  obtain ⟨K2, h2⟩ := big_sl (a := q.1) (hs q rfl)
  exact .step ⟨max K K2, fun k hk => by rw [P, hK k om, Option.bind_some]; exact h2 k om⟩
theorem big_x (h : Big .s f i r) (hs : ∀ q, r = some q → opX (f q.2) = none) : Big .x f i r := by
 obtain ⟨K, hK⟩ := h
 cases r with
 | none => exact .step ⟨K, fun k hk => by rw [P, hK k hk, Option.bind_none]⟩
 | some q => exact .step ⟨K, fun k hk => by rw [P, hK k hk, Option.bind_some, hs q rfl]⟩
theorem stopm {p : AT → Option Int} {o : Int} (hs : ∀ q, r = some q → p (f q.2) = none) : ∀ q, (r.map fun q => ((.bin o a q.1 : Tree), q.2)) = some q → p (f q.2) = none := by
 intro q h
 obtain ⟨q', h1, rfl⟩ := Option.map_eq_some_iff.mp h
 exact hs q' h1
theorem big_join {o : Int} (h1 : Big .u f i (some (a, j))) (h2 : Big .u f (j + 1) r) (hs : ∀ q, r = some q → stop (f q.2)) (ho : opT (f j) = some o ∨ (opT (f j) = none ∧ opS (f j) = some o) ∨ (opT (f j) = none ∧ opS (f j) = none ∧ opX (f j) = some o)) : Big .x f i (r.map fun q => (.bin o a q.1, q.2)) := by
 have hT := fun q h => (hs q h).1
 have hS := fun q h => (hs q h).2.1
 have hX := fun q h => (hs q h).2.2.1
 have lp : ∀ (m1 m2 : Md) (ml : Tree → Md) (op : AT → Option Int), (∀ k i, P (k + 1) m2 f i = (P k m1 f i).bind fun r => P k (ml r.1) f r.2) → (∀ k a i, P (k + 1) (ml a) f i = match op (f i) with | some o => (P k m1 f (i + 1)).bind fun r => P k (ml (.bin o a r.1)) f r.2 | none => some (a, i)) → Big m1 f i (some (a, j)) → Big m1 f (j + 1) r → op (f j) = some o → (∀ q, r = some q → op (f q.2) = none) → Big m2 f i (r.map fun q => (.bin o a q.1, q.2)) := by
  rintro m1 m2 ml op e1 e2 ⟨K1, g1⟩ ⟨K2, g2⟩ ho hq
  refine .step ⟨max K1 K2 + 2, fun k hk => ?_⟩
  obtain ⟨k, rfl⟩ : ∃ k', k = k' + 2 := ⟨k - 2, om⟩
  rw [e1, g1 _ om, Option.bind_some, e2, ho]
  dsimp only
  rw [g2 _ om]
  cases r with
  | none => rfl
  | some q => rw [Option.bind_some, e2, hq q rfl]; rfl
 rcases ho with ho | ⟨n1, ho⟩ | ⟨n1, n2, ho⟩
 ·
  exact big_x (big_s (lp .u .t .tl opT (fun _ _ => by rw [P]) (fun _ _ _ => by rw [P] <;> rfl) h1 h2 ho hT) (stopm hS)) (stopm hX)
 ·
  exact big_x (lp .t .s .sl opS (fun _ _ => by rw [P]) (fun _ _ _ => by rw [P] <;> rfl) (big_t h1 (fun q e => by rw [← Option.some.inj e]; exact n1)) (big_t h2 hT) ho hS) (stopm hX)
 ·
  obtain ⟨K1, g1⟩ := big_s (big_t h1 (fun q e => by rw [← Option.some.inj e]; exact n1)) (fun q e => by rw [← Option.some.inj e]; exact n2)
  obtain ⟨K2, g2⟩ := big_s (big_t h2 hT) hS
  refine .step ⟨max K1 K2, fun k hk => ?_⟩
  rw [P, g1 k om, Option.bind_some]
  dsimp only
  rw [ho]
  dsimp only
  rw [g2 k om]
  cases r <;> rfl
end
def tkl (A : List AT) (j : Int) : AT := A.getD j.toNat (0, [])
theorem tk_eq (l : List Tok) : tk l = tkl (l.map ab) := by
 funext j
 unfold tk tkl rd_T69
 rw [List.getD_eq_getElem?_getD, List.getD_eq_getElem?_getD, List.getElem?_map]
 cases l[j.toNat]? <;> rfl
theorem tkl_mid {A B C : List AT} {j p : Int} (hp : p = A.length) (h0 : 0 ≤ j) (h1 : j < B.length) : tkl (A ++ (B ++ C)) (p + j) = tkl B j := by
 subst hp
 unfold tkl
 rw [List.getD_eq_getElem?_getD, List.getD_eq_getElem?_getD, List.getElem?_append_right om, List.getElem?_append_left om, show ((A.length : Int) + j).toNat - A.length = j.toNat by omega]
theorem tkl_at {A C : List AT} {p : Int} (hp : p = A.length) : tkl (A ++ C) p = tkl C 0 := by
 subst hp
 unfold tkl
 rw [List.getD_eq_getElem?_getD, List.getD_eq_getElem?_getD, List.getElem?_append_right om, show (A.length : Int).toNat - A.length = (0 : Int).toNat by omega]
def Word (tA : List AT) (m : Bool) (t : Tree) : Prop := ∃ (k : Nat) (n : Int) (f : Int → AT) (i : Int), 0 ≤ n ∧ n ≤ tA.length ∧ P k .x f i = some (t, i + n) ∧ (∀ j, 0 ≤ j → j < n → f (i + j) = tkl tA j) ∧ ((n < tA.length ∧ sg (tkl tA n) [59] = true ∧ f (i + n) = tkl tA n) ∨ (n = tA.length ∧ m = false ∧ f (i + n) = (4, [59])))
theorem word_of {A tA X : List AT} {m : Bool} {k : Nat} {p i' : Int} {t : Tree} (hp : p = A.length) (h : P k .x (tkl (A ++ (tA ++ X))) p = some (t, i')) (hs : sg (tkl (A ++ (tA ++ X)) i') [59] = true) (hx : (m = false ∧ tkl X 0 = (4, [59])) ∨ (tkl X 0).1 = 0) : Word tA m t := by
 have hle := P_le _ _ _ _ _ h
 dsimp only at hle
 have hat : tkl (A ++ (tA ++ X)) (p + tA.length) = tkl X 0 := by
  rw [← List.append_assoc]
  exact tkl_at (by rw [List.length_append]; omega)
 have hn : i' - p ≤ tA.length := by
  refine Decidable.byContradiction (fun z => ?_)
  have := (P_ok _ _ _ _ _ h).2 (p + tA.length) om (by dsimp only; omega)
  rw [hat] at this
  rcases hx with ⟨_, e⟩ | e
  ·
   rw [e] at this; exact absurd this.2 (by decide)
  ·
   exact this.1 e
 refine ⟨k, i' - p, _, p, om, hn, by rw [show p + (i' - p) = i' by omega]; exact h, fun j a b => tkl_mid hp a om, ?_⟩
 by_cases z : i' - p < tA.length
 ·
  left
  have e := tkl_mid (C := X) hp om z
  rw [show p + (i' - p) = i' by omega] at e ⊢
  exact ⟨z, by rw [← e]; exact hs, e⟩
 ·
  right
  have e : i' - p = tA.length := by omega
  rw [show p + (i' - p) = p + tA.length by omega, hat]
  rw [show i' = p + tA.length by omega, hat] at hs
  rcases hx with ⟨e1, e2⟩ | e1
  ·
   exact ⟨e, e1, e2⟩
  ·
   exact absurd e1 (sg_kind hs).1
theorem stop59 : stop (4, [59]) := ⟨by decide, by decide, by decide, by decide⟩
theorem stop41 : stop (4, [41]) := ⟨by decide, by decide, by decide, by decide⟩
theorem word_use {tA : List AT} {m : Bool} {t : Tree} (W : Word tA m t) {f : Int → AT} {p : Int} (h0 : f p = (4, [40])) (h : ∀ j : Int, 0 ≤ j → j < tA.length → f (p + 1 + j) = tkl tA j) (hm : m = false → f (p + 1 + tA.length) = (4, [41])) : (m = false ∧ Big .u f p (some (t, p + 1 + tA.length + 1))) ∨ Big .u f p none := by
 obtain ⟨k, n, g, i, n0, n1, h1, h2, h3⟩ := W
 rcases h3 with ⟨a, b, c⟩ | ⟨a, b, c⟩
 ·
  right
  have e := h n n0 a
  have := big_par (.of (P_local k .x g f i (p + 1) n t h1 (fun j x y => (h2 j x y).trans (h j x om).symm) (.inl (c.trans e.symm)))) h0
  rwa [e, if_neg (by rw [sg_no b rfl]; exact Bool.false_ne_true)] at this
 ·
  left
  subst a
  have := big_par (.of (P_local k .x g f i (p + 1) _ t h1 (fun j x y => (h2 j x y).trans (h j x y).symm) (.inr ⟨by rw [c]; exact stop59, by rw [hm b]; exact stop41⟩))) h0
  rw [hm b, if_pos (by decide)] at this
  exact ⟨b, this⟩
def PL : List UInt8 := [109, 111, 100, 117, 108, 101, 32, 109, 59, 32, 112, 114, 111, 99, 32, 112, 40, 41, 32, 112, 99, 32, 97, 32, 117, 115, 101, 115, 32, 123, 125, 32, 123, 32, 114, 101, 115, 117, 108, 116, 32, 61, 32]
abbrev QL : List UInt8 := [59, 32, 125]
theorem it_pre (X : List UInt8) : it 26 (PL ++ X) = some (pt, X) := by kernel_rfl
theorem it_end : it 3 QL = some ([(4, [59]), (4, [125])], []) := by kernel_rfl
theorem it_par (X : List UInt8) : it 1 (40 :: X) = some ([(4, [40])], X) := by kernel_rfl
theorem it_neg (X : List UInt8) : it 2 (45 :: 40 :: X) = some ([(4, [45]), (4, [40])], X) := by kernel_rfl
theorem it_fin : it 4 (41 :: QL) = some ([(4, [41]), (4, [59]), (4, [125])], []) := by kernel_rfl
theorem lx_nil {T : List AT} (h : Lx [] T) : T = [] := by
 cases h with
 | nil => rfl
 | step a b => cases a
def Ex (X : List UInt8) (E : List Nd) : Prop := E.length ≤ 20000 ∧ ∃ T, Lx X T ∧ ∃ k t i', P k .x (tkl (pt ++ (T ++ [(0, [])]))) 15 = some (t, i') ∧ sg (tkl (pt ++ (T ++ [(0, [])])) i') [59] = true ∧ Rep E t ((E.length : Int) - 1)
theorem parse_e (s : ByteArray) (X : List UInt8) (hs : s.data.toList = PL ++ X) : EvP (fun n => ra_Parse.f n s) (fun r => r.2.2.2.2.2.1 = 0 → (r.2.2.2.2.1.length : Int) = 1 → ∃ p s0 M, r.2.2.2.2.1 = [p] ∧ p.f6 = s0 :: M ∧ Ex X s0.f8) := by
 unfold ra_Parse.f
 refine andThen (lex_t s) (fun b hb => ways (fun h0 => ?_) (fun h0 => done (fun z => absurd z h0)))
 obtain ⟨T, hp⟩ := hb.1 h0
 obtain ⟨A, e1, e2⟩ := hb.2 h0
 rw [hs] at e2
 obtain ⟨A1, rfl, e3⟩ := it_lx _ _ _ _ _ (it_pre X) e2
 rw [List.map_nil, List.nil_append, List.append_assoc] at e1
 have hlen : 16 ≤ b.1.length := by
  have := congrArg List.length e1
  rw [List.length_map, List.length_append, List.length_append, List.length_singleton, show pt.length = 15 from rfl] at this
  omega
 refine andThen (module_known T hlen (fun j hj => ?_)) (fun r hr => ways (fun hz => done (fun _ hl => ?_)) (fun hz => done (fun z => absurd z hz)))
 ·
  rw [tk_eq, e1]
  unfold tkl
  rw [List.getD_eq_getElem?_getD, List.getD_eq_getElem?_getD, Int.toNat_natCast, List.getElem?_append_left (by rw [show pt.length = 15 from rfl]; exact hj)]
 ·
  obtain ⟨p, s0, M, g1, g2, g0, k, t, i', g3, g4, g5⟩ := hr hz hl
  rw [tk_eq, e1] at g3 g4
  exact ⟨p, s0, M, g1, g2, g0, A1, e3, k, t, i', g3, g4, g5⟩
theorem expr_e (s : ByteArray) (hs : s.size ≤ 400000000000000) : EvP (fun n => rl_Expr.f n s) (fun r => r.2 = true → Ex (s.data.toList ++ QL) r.1) := by
 unfold rl_Expr.f
 refine gate om (gate (by rw [ByteArray.size_append]; have : (⟨#[109, 111, 100, 117, 108, 101, 32, 109, 59, 32, 112, 114, 111, 99, 32, 112, 40, 41, 32, 112, 99, 32, 97, 32, 117, 115, 101, 115, 32, 123, 125, 32, 123, 32, 114, 101, 115, 117, 108, 116, 32, 61, 32]⟩ : ByteArray).size = 43 := rfl; omega) ?_)
 refine andThen (parse_e _ (s.data.toList ++ QL) (by rw [ByteArray.data_append, ByteArray.data_append, Array.toList_append, Array.toList_append, List.append_assoc]; rfl)) (fun r hr => ?_)
 have hn : EvP (fun _ => some (([] : List Nd), false)) (fun r : List Nd × Bool => r.2 = true → Ex (s.data.toList ++ QL) r.1) := done (fun z => by cases z)
 refine ways (fun h0 => ways (fun h1 => ?_) (fun _ => hn)) (fun _ => hn)
 obtain ⟨p, s0, M, g1, g2, g3⟩ := hr h0 h1
 rw [g1]
 have e1 : rd_T42 [p] 0 = p := rfl
 have e2 : rd_T45 (s0 :: M) 0 = s0 := rfl
 rw [e1, g2]
 refine gate (by simp) (ways (fun _ => ways (fun _ => hn) (fun _ => gate (by simp) ?_)) (fun _ => hn))
 rw [e2]
 exact done (fun _ => g3)
def Sp (a : List UInt8) (tA : List AT) (m : Bool) : Prop := ∀ (c : UInt8) (q : List UInt8) (T : List AT), brk c → Lx (a ++ c :: q) T → ∃ T2, T = tA ++ T2 ∧ Lx (if m = true then q.dropWhile (fun b => b.toNat != 10) else c :: q) T2
theorem word_ex {a : List UInt8} {tA : List AT} {m : Bool} (hS : Sp a tA m) {E : List Nd} (h : Ex (a ++ QL) E) : ∃ t, Word tA m t ∧ Rep E t ((E.length : Int) - 1) := by
 obtain ⟨_, T, h1, k, t, i', h2, h3, h4⟩ := h
 obtain ⟨T2, rfl, g2⟩ := hS 59 [32, 125] T (.inl rfl) h1
 rw [List.append_assoc] at h2 h3
 refine ⟨t, word_of rfl h2 h3 ?_, h4⟩
 cases m with
 | true =>
  rw [if_pos rfl] at g2
  obtain rfl := lx_nil g2
  exact .inr rfl
 | false =>
  rw [if_neg Bool.false_ne_true] at g2
  obtain ⟨T3, rfl, _⟩ := it_lx _ _ _ _ _ it_end g2
  exact .inl ⟨rfl, rfl⟩
theorem ptl : pt.length = 15 := rfl
theorem no_big {f : Int → AT} {i : Int} {k : Nat} {q : Tree × Int} (h : Big .u f i none) (h' : P k .x f i = some q) : False := by
 have := (big_x (big_s (big_t h (fun q e => by cases e)) (fun q e => by cases e)) (fun q e => by cases e)).same h'
 cases this
theorem tree_join {a b sb : List UInt8} {tA tB : List AT} {mA mB : Bool} {ta tb : Tree} {c : AT} {o : Int} (hA : Sp a tA mA) (hB : Sp b tB mB) (WA : Word tA mA ta) (WB : Word tB mB tb) (hc : ∀ X, it 5 (41 :: 32 :: (sb ++ 32 :: 40 :: X)) = some ([(4, [41]), c, (4, [40])], X)) (ho : opT c = some o ∨ (opT c = none ∧ opS c = some o) ∨ (opT c = none ∧ opS c = none ∧ opX c = some o)) {E : List Nd} (h : Ex (40 :: (a ++ 41 :: 32 :: (sb ++ 32 :: 40 :: (b ++ 41 :: QL)))) E) : Rep E (.bin o ta tb) ((E.length : Int) - 1) := by
 obtain ⟨_, T, h1, k, t, i', h2, h3, h4⟩ := h
 obtain ⟨T1, rfl, g1⟩ := it_lx _ _ _ _ _ (it_par _) h1
 obtain ⟨T2, rfl, g2⟩ := hA 41 _ T1 (.inr rfl) g1
 have e0 : pt ++ ([(4, [40])] ++ (tA ++ T2) ++ [(0, [])]) = (pt ++ [((4, [40]) : AT)]) ++ (tA ++ (T2 ++ [(0, [])])) := by simp
 have hl1 : (15 : Int) + 1 = (pt ++ [((4, [40]) : AT)]).length := rfl
 obtain ⟨f, hf⟩ : ∃ f, f = tkl (pt ++ ([(4, [40])] ++ (tA ++ T2) ++ [(0, [])])) := ⟨_, rfl⟩
 rw [← hf] at h2 h3
 have f15 : f 15 = (4, [40]) := by rw [hf, List.append_assoc]; exact tkl_at rfl
 have fA : ∀ j : Int, 0 ≤ j → j < tA.length → f (15 + 1 + j) = tkl tA j := fun j x y => by rw [hf, e0]; exact tkl_mid hl1 x y
 have fm : mA = false → ∃ T3, T2 = [(4, [41]), c, (4, [40])] ++ T3 ∧ Lx (b ++ 41 :: QL) T3 := by
  intro e
  subst e
  rw [if_neg Bool.false_ne_true] at g2
  exact it_lx _ _ _ _ _ (hc _) g2
 have hend : mA = false → f (15 + 1 + tA.length) = (4, [41]) := by
  intro e
  obtain ⟨T3, rfl, _⟩ := fm e
  rw [hf, e0, ← List.append_assoc, tkl_at (by rw [List.length_append, hl1]; omega)]
  rfl
 rcases word_use WA f15 fA hend with ⟨em, U1⟩ | U1
 ·
  obtain ⟨T3, rfl, g3⟩ := fm em
  obtain ⟨T4, rfl, g4⟩ := hB 41 QL T3 (.inr rfl) g3
  have e1 : pt ++ ([(4, [40])] ++ (tA ++ ([(4, [41]), c, (4, [40])] ++ (tB ++ T4))) ++ [(0, [])]) = (pt ++ [((4, [40]) : AT)] ++ tA ++ [(4, [41])]) ++ ([c, (4, [40])] ++ (tB ++ (T4 ++ [(0, [])]))) := by simp
  have e2 : pt ++ ([(4, [40])] ++ (tA ++ ([(4, [41]), c, (4, [40])] ++ (tB ++ T4))) ++ [(0, [])]) = (pt ++ [((4, [40]) : AT)] ++ tA ++ [(4, [41]), c, (4, [40])]) ++ (tB ++ (T4 ++ [(0, [])])) := by simp
  have p1 : (15 : Int) + 1 + tA.length + 1 = (pt ++ [((4, [40]) : AT)] ++ tA ++ [(4, [41])]).length := by simp only [List.length_append, List.length_cons, List.length_nil, ptl]; omega
  have p2 : (15 : Int) + 1 + tA.length + 1 + 1 + 1 = (pt ++ [((4, [40]) : AT)] ++ tA ++ [(4, [41]), c, (4, [40])]).length := by simp only [List.length_append, List.length_cons, List.length_nil, ptl]; omega
  have fc : f (15 + 1 + tA.length + 1) = c := by rw [hf, e1, tkl_at p1]; rfl
  have fp : f (15 + 1 + tA.length + 1 + 1) = (4, [40]) := by
   rw [hf, e1, tkl_mid (B := [c, (4, [40])]) p1 om (by simp)]
   rfl
  have fB : ∀ j : Int, 0 ≤ j → j < tB.length → f (15 + 1 + tA.length + 1 + 1 + 1 + j) = tkl tB j := fun j x y => by rw [hf, e2]; exact tkl_mid p2 x y
  have fz : ∀ (n : Int), 0 ≤ n → n < 3 → mB = false → f (15 + 1 + tA.length + 1 + 1 + 1 + tB.length + n) = tkl [(4, [41]), (4, [59]), (4, [125])] n := by
   intro n x y e
   subst e
   rw [if_neg Bool.false_ne_true] at g4
   obtain ⟨T5, rfl, _⟩ := it_lx _ _ _ _ _ it_fin g4
   rw [hf, e2, ← List.append_assoc, List.append_assoc [((4, [41]) : AT), (4, [59]), (4, [125])]]
   exact tkl_mid (by rw [List.length_append]; omega) x y
  have hz : mB = false → f (15 + 1 + tA.length + 1 + 1 + 1 + tB.length) = (4, [41]) := fun e => by
   have := fz 0 om om e
   rwa [Int.add_zero] at this
  have hstop : ∀ q : Tree × Int, mB = false → q = (tb, (15 : Int) + 1 + tA.length + 1 + 1 + 1 + tB.length + 1) → stop (f q.2) := by
   rintro q e rfl
   rw [fz 1 om om e]
   exact stop59
  rw [← fc] at ho
  rcases word_use WB fp fB hz with ⟨en, U2⟩ | U2
  ·
   have := (big_join U1 U2 (fun q e => hstop q en (Option.some.inj e).symm) ho).same h2
   rw [Option.map_some] at this
   have e := (sp this).1
   rw [e]
   exact h4
  ·
   have := (big_join U1 U2 (fun q e => by cases e) ho).same h2
   cases this
 ·
  exact (no_big U1 h2).elim
theorem tree_neg {a : List UInt8} {tA : List AT} {mA : Bool} {ta : Tree} (hA : Sp a tA mA) (WA : Word tA mA ta) {E : List Nd} (h : Ex (45 :: 40 :: (a ++ 41 :: QL)) E) : Rep E (.un 3 ta) ((E.length : Int) - 1) := by
 obtain ⟨_, T, h1, k, t, i', h2, h3, h4⟩ := h
 obtain ⟨T1, rfl, g1⟩ := it_lx _ _ _ _ _ (it_neg _) h1
 obtain ⟨T2, rfl, g2⟩ := hA 41 _ T1 (.inr rfl) g1
 have e0 : pt ++ ([(4, [45]), (4, [40])] ++ (tA ++ T2) ++ [(0, [])]) = (pt ++ [((4, [45]) : AT), (4, [40])]) ++ (tA ++ (T2 ++ [(0, [])])) := by simp
 have hl1 : (16 : Int) + 1 = (pt ++ [((4, [45]) : AT), (4, [40])]).length := rfl
 obtain ⟨f, hf⟩ : ∃ f, f = tkl (pt ++ ([(4, [45]), (4, [40])] ++ (tA ++ T2) ++ [(0, [])])) := ⟨_, rfl⟩
 rw [← hf] at h2 h3
 have f15 : f 15 = (4, [45]) := by rw [hf, List.append_assoc]; exact tkl_at rfl
 have f16 : f 16 = (4, [40]) := by
  rw [hf, List.append_assoc]
  exact tkl_mid (B := [(4, [45]), (4, [40])]) (p := 15) (j := 1) rfl om (by simp)
 have fA : ∀ j : Int, 0 ≤ j → j < tA.length → f (16 + 1 + j) = tkl tA j := fun j x y => by rw [hf, e0]; exact tkl_mid hl1 x y
 have fz : ∀ (n : Int), 0 ≤ n → n < 3 → mA = false → f (16 + 1 + tA.length + n) = tkl [(4, [41]), (4, [59]), (4, [125])] n := by
  intro n x y e
  subst e
  rw [if_neg Bool.false_ne_true] at g2
  obtain ⟨T5, rfl, _⟩ := it_lx _ _ _ _ _ it_fin g2
  rw [hf, e0, ← List.append_assoc, List.append_assoc [((4, [41]) : AT), (4, [59]), (4, [125])]]
  exact tkl_mid (by rw [List.length_append, hl1]; omega) x y
 have hz : mA = false → f (16 + 1 + tA.length) = (4, [41]) := fun e => by
  have := fz 0 om om e
  rwa [Int.add_zero] at this
 rcases word_use WA f16 fA hz with ⟨em, U1⟩ | U1
 ·
  have hst : stop (f (16 + 1 + tA.length + 1)) := by
   rw [fz 1 om om em]
   exact stop59
  have U2 := big_neg (i := 15) U1 f15
  rw [Option.bind_some] at U2
  have := (big_x (big_s (big_t U2 (fun q e => by rw [← Option.some.inj e]; exact hst.1)) (fun q e => by rw [← Option.some.inj e]; exact hst.2.1)) (fun q e => by rw [← Option.some.inj e]; exact hst.2.2.1)).same h2
  have e := (sp this).1
  rw [e]
  exact h4
 ·
  exact (no_big (big_neg (i := 15) U1 f15) h2).elim
abbrev signs : List ByteArray := [(⟨#[43]⟩ : ByteArray), (⟨#[45]⟩ : ByteArray), (⟨#[42]⟩ : ByteArray), (⟨#[47]⟩ : ByteArray), (⟨#[37]⟩ : ByteArray), (⟨#[61, 61]⟩ : ByteArray), (⟨#[60]⟩ : ByteArray), (⟨#[60, 61]⟩ : ByteArray)]
theorem sign_of (k : Int) (h0 : 0 ≤ k) (h1 : k < 8) : (rdOf ByteArray.empty signs k).size ≤ 2 ∧ ∃ c : AT, (∀ X, it 5 (41 :: 32 :: ((rdOf ByteArray.empty signs k).data.toList ++ 32 :: 40 :: X)) = some ([(4, [41]), c, (4, [40])], X)) ∧ (opT c = some (5 + k) ∨ (opT c = none ∧ opS c = some (5 + k)) ∨ (opT c = none ∧ opS c = none ∧ opX c = some (5 + k))) := by
 have hk : k = 0 ∨ k = 1 ∨ k = 2 ∨ k = 3 ∨ k = 4 ∨ k = 5 ∨ k = 6 ∨ k = 7 := by omega
 rcases hk with rfl | rfl | rfl | rfl | rfl | rfl | rfl | rfl
 ·
  exact ⟨by decide, (4, [43]), fun X => by kernel_rfl, by decide⟩
 ·
  exact ⟨by decide, (4, [45]), fun X => by kernel_rfl, by decide⟩
 ·
  exact ⟨by decide, (4, [42]), fun X => by kernel_rfl, by decide⟩
 ·
  exact ⟨by decide, (4, [47]), fun X => by kernel_rfl, by decide⟩
 ·
  exact ⟨by decide, (4, [37]), fun X => by kernel_rfl, by decide⟩
 ·
  exact ⟨by decide, (4, [61, 61]), fun X => by kernel_rfl, by decide⟩
 ·
  exact ⟨by decide, (4, [60]), fun X => by kernel_rfl, by decide⟩
 ·
  exact ⟨by decide, (4, [60, 61]), fun X => by kernel_rfl, by decide⟩
theorem EvalJoins : rl_EvalJoins.Pure := by
 intro a b mod w lo m ha hb hm hw hl4 hl5
 have haw : rl_awake.f = some true := by decide +kernel
 have jt : ∀ x13 x15 x18 x19 x21, EvP (fun k => rl_EvalJoins.j0 k mod lo m x13 x15 x18 x19 x21 true) (fun r => r = true) := by
  intro x13 x15 x18 x19 x21
  refine more ?_
  simp only [rl_EvalJoins.j0]
  refine gate trivial ?_
  rw [haw]
  exact done rfl
 obtain ⟨w0, w1⟩ : 0 ≤ w ∧ w ≤ 255 := by
  simp only [Lit.wf, IntKind.min, IntKind.max, IntKind.signed, IntKind.bits, Bool.and_eq_true, decide_eq_true_eq] at hw
  simpa using hw
 have hk8 : Int.tmod (wrap64 w) (signs.length : Int) = w % 8 := by rw [w64 om om]; exact Int.tmod_eq_emod_of_nonneg w0
 obtain ⟨sz, c, hc, ho⟩ := sign_of (w % 8) om om
 obtain ⟨sb, hsb⟩ : ∃ sb, sb = rdOf ByteArray.empty signs (w % 8) := ⟨_, rfl⟩
 rw [← hsb] at sz hc
 obtain ⟨tA, mA, hA⟩ := split a.data.toList.length a.data.toList (Nat.le_refl _)
 obtain ⟨tB, mB, hB⟩ := split b.data.toList.length b.data.toList (Nat.le_refl _)
 have s1 : (⟨#[40]⟩ : ByteArray).size = 1 := rfl
 have s2 : (⟨#[41, 32]⟩ : ByteArray).size = 2 := rfl
 have s3 : (⟨#[32, 40]⟩ : ByteArray).size = 2 := rfl
 have s4 : (⟨#[41]⟩ : ByteArray).size = 1 := rfl
 have s5 : (⟨#[45, 40]⟩ : ByteArray).size = 2 := rfl
 have key : EvP (fun k => rl_EvalJoins.f k a b mod w lo m) (fun r => r = true) := by
  unfold rl_EvalJoins.f
  refine andThen (expr_e a om) (fun ra qa => andThen (expr_e b om) (fun rb qb => known rfl ?_))
  rw [hk8, ← hsb]
  refine ways (fun z => absurd z (by decide)) (fun _ => gate om (gate (by rw [ByteArray.size_append]; omega) (gate om (gate (by show w % 8 < 8; omega) (gate (by simp only [ByteArray.size_append]; omega) (gate (by simp only [ByteArray.size_append]; omega) (gate (by simp only [ByteArray.size_append]; omega) (gate (by simp only [ByteArray.size_append]; omega) ?_))))))))
  refine andThen (expr_e _ (by simp only [ByteArray.size_append]; omega)) (fun rz qz => gate om (gate (by rw [ByteArray.size_append]; omega) (andThen (expr_e _ (by simp only [ByteArray.size_append]; omega)) (fun rn qn => ?_))))
  refine ways (fun ya => ways (fun yb => ways (fun yz => ways (fun yn => ?_) (fun _ => jt _ _ _ _ _)) (fun _ => jt _ _ _ _ _)) (fun _ => jt _ _ _ _ _)) (fun _ => jt _ _ _ _ _)
  have hg : rl_great.f lo m = some (decide ((lo.length : Int) > 60) || decide ((m.length : Int) > 60)) := by
   unfold rl_great.f
   by_cases h : (lo.length : Int) > 60
   ·
    rw [if_pos h, decide_eq_true h]; rfl
   ·
    rw [if_neg h, decide_eq_false h]; rfl
  refine known hg ?_
  cases hb60 : (decide ((lo.length : Int) > 60) || decide ((m.length : Int) > 60)) with
  | true => exact jt _ _ _ _ _
  | false =>
   rw [Bool.or_eq_false_iff, decide_eq_false_iff_not, decide_eq_false_iff_not] at hb60
   obtain ⟨ta, WA, RA⟩ := word_ex hA (qa ya)
   obtain ⟨tb, WB, RB⟩ := word_ex hB (qb yb)
   have RZ := tree_join hA hB WA WB hc ho (E := rz.1) (by
    have := qz yz
    simp only [ByteArray.data_append, Array.toList_append, List.append_assoc] at this
    exact this)
   have RN := tree_neg hA WA (E := rn.1) (by
    have := qn yn
    simp only [ByteArray.data_append, Array.toList_append, List.append_assoc] at this
    exact this)
   have la := (qa ya).1
   have lb := (qb yb).1
   have lz := (qz yz).1
   have ln := (qn yn).1
   obtain ⟨va, ea, xa⟩ := value_tree ra.1 _ ta mod lo m om om om RA
   obtain ⟨vb, eb, xb⟩ := value_tree rb.1 _ tb mod lo m om om om RB
   obtain ⟨vz, ez, x, y, gx, gy, gz⟩ := value_tree rz.1 _ _ mod lo m om om om RZ
   obtain ⟨vn, en, x', gx', gn⟩ := value_tree rn.1 _ _ mod lo m om om om RN
   obtain rfl := xa.one gx
   obtain rfl := xb.one gy
   obtain rfl := xa.one gx'
   refine more ?_
   simp only [rl_EvalJoins.j0]
   refine nw ?_
   rw [w64 (n := (ra.1.length : Int) - 1) om om, w64 (n := (rb.1.length : Int) - 1) om om, w64 (n := (rz.1.length : Int) - 1) om om, w64 (n := (rn.1.length : Int) - 1) om om, w64 (n := 5 + w % 8) om om]
   refine andThen (P := fun r => r = va) ⟨va, ea, rfl⟩ (fun r e => ?_)
   subst e
   refine andThen (P := fun r => r = vb) ⟨vb, eb, rfl⟩ (fun r e => ?_)
   subst e
   refine andThen (P := fun r => r = vz) ⟨vz, ez, rfl⟩ (fun r e => ?_)
   subst e
   refine known gz (gate rfl ?_)
   refine andThen (P := fun r => r = vn) ⟨vn, en, rfl⟩ (fun r e => ?_)
   subst e
   refine known gn (gate rfl ?_)
   rw [haw]
   exact done rfl
 obtain ⟨r, e, rfl⟩ := key
 exact e.rounds
end TotP
theorem EvalJoins : rl_EvalJoins.Pure := TotP.EvalJoins
end Go.Proofs.Ytcmpmlklednhbaa.Pure
