/- The statement RunMore over lists and numbers: what ends with some fuel ends the same with more, a trace of less fuel begins that of more, of any texts; parser, memory and run tell something of every text. No further condition. -/
import Derived.Test.YtiaeldibklcobaaZRPx22
namespace Go.Proofs.Ytiaeldibklcobaa.Pure
open Go.RowKit Go.Proofs.Ytiaeldibklcobaa.eZ Go.Proofs.YtiaeldibklcobaaW.bL Go.Proofs.YtiaeldibklcobaaW.fV
set_option linter.unusedVariables false
namespace bSc
abbrev Cl := gK
abbrev Sm := mO
abbrev RT := List Cl × Int × List ByteArray × List Cl × Int
def More (d : Int) (st : RT) : RT := (st.1, st.2.1 + d, st.2.2)
abbrev Fn := RT → Option (Bool × RT)
def Ok (g : Fn) : Prop := ∀ st r, 0 ≤ st.2.1 → st.2.1 ≤ 20000 → g st = some r →
 (0 ≤ r.2.2.1 ∧ r.2.2.1 ≤ st.2.1 ∧ st.2.2.1 <+: r.2.2.2.1) ∧
 (r.1 = true → ∀ d, 0 ≤ d → st.2.1 + d ≤ 20000 → g (More d st) = some (true, More d r.2)) ∧
 (r.1 = false → r.2.2.1 = 0 ∧ ∀ d r', 0 ≤ d → st.2.1 + d ≤ 20000 → g (More d st) = some r' → r.2.2.2.1 <+: r'.2.2.2.1)
theorem Ok.via {β : Type} {g : Fn} {h : β → Fn} (e : RT → RT) (lv : RT → RT → RT) (v : RT → β) (he : ∀ st, (e st).2.1 = st.2.1) (he2 : ∀ st, (e st).2.2.1 = st.2.2.1) (hem : ∀ d st, e (More d st) = More d (e st))
  (hl : ∀ st q, (lv st q).2.1 = q.2.1) (hl2 : ∀ st q, (lv st q).2.2.1 = q.2.2.1) (hlm : ∀ d st q, lv (More d st) (More d q) = More d (lv st q)) (hv : ∀ d q, v (More d q) = v q) (hg : Ok g) (hh : ∀ b, Ok (h b)) :
  Ok (fun st => (g (e st)).bind fun q => if q.1 = true then h (v q.2) (lv st q.2) else some (false, lv st q.2)) := by
 intro st r h0 h1 H
 obtain ⟨q, hq, H⟩ := Option.bind_eq_some_iff.mp H
 obtain ⟨⟨a1, a2, a3⟩, b, c⟩ := hg (e st) q (by rw [he]; exact h0) (by rw [he]; exact h1) hq
 rw [he] at a2 b c
 rw [he2] at a3
 by_cases hb : q.1 = true
 ·
  rw [if_pos hb] at H
  obtain ⟨⟨k1, k2, k3⟩, l, m⟩ := hh _ (lv st q.2) r (by rw [hl]; exact a1) (by rw [hl]; omega) H
  rw [hl] at k2 l m
  rw [hl2] at k3
  refine ⟨⟨k1, by omega, a3.trans k3⟩, fun z d d0 d1 => ?_, fun z => ⟨(m z).1, fun d r' d0 d1 H' => ?_⟩⟩
  ·
   show ((g (e (More d st))).bind _) = _
   rw [hem, b hb d d0 d1]
   show (if true = true then h (v (More d q.2)) (lv (More d st) (More d q.2)) else some (false, lv (More d st) (More d q.2))) = _
   rw [if_pos rfl, hv, hlm]
   exact l z d d0 (by omega)
  ·
   replace H' : ((g (e (More d st))).bind fun q => if q.1 = true then h (v q.2) (lv (More d st) q.2) else some (false, lv (More d st) q.2)) = some r' := H'
   rw [hem, b hb d d0 d1] at H'
   replace H' : (if true = true then h (v (More d q.2)) (lv (More d st) (More d q.2)) else some (false, lv (More d st) (More d q.2))) = some r' := H'
   rw [if_pos rfl, hv, hlm] at H'
   exact (m z).2 d r' d0 (by omega) H'
 ·
  rw [if_neg hb] at H
  injection H with H
  subst H
  obtain ⟨c1, c2⟩ := c (by simpa using hb)
  refine ⟨⟨by rw [hl]; exact a1, by rw [hl]; exact a2, by rw [hl2]; exact a3⟩, fun z => (by cases z), fun _ => ⟨by rw [hl]; exact c1, fun d r' d0 d1 H' => ?_⟩⟩
  replace H' : ((g (e (More d st))).bind fun q => if q.1 = true then h (v q.2) (lv (More d st) q.2) else some (false, lv (More d st) q.2)) = some r' := H'
  rw [hem] at H'
  obtain ⟨q', hq', H'⟩ := Option.bind_eq_some_iff.mp H'
  have p := c2 d q' d0 d1 hq'
  rw [hl2]
  obtain ⟨⟨x1, x2, _⟩, _, _⟩ := hg (More d (e st)) q' (by show (0 : Int) ≤ (e st).2.1 + d; rw [he]; omega) (by show (e st).2.1 + d ≤ (20000 : Int); rw [he]; exact d1) hq'
  replace x2 : q'.2.2.1 ≤ (e st).2.1 + d := x2
  rw [he] at x2
  by_cases hb' : q'.1 = true
  ·
   rw [if_pos hb'] at H'
   have z := (hh _ _ r' (by rw [hl]; exact x1) (by rw [hl]; omega) H').1.2.2
   rw [hl2] at z
   exact p.trans z
  ·
   rw [if_neg hb'] at H'
   injection H' with H'
   subst H'
   show _ <+: (lv (More d st) q'.2).2.2.1
   rw [hl2]
   exact p
theorem Ok.seq {g h : Fn} (hg : Ok g) (hh : Ok h) : Ok (fun st => (g st).bind fun q => if q.1 = true then h q.2 else some (false, q.2)) :=
 Ok.via (h := fun _ : Unit => h) (fun st => st) (fun _ q => q) (fun _ => ()) (fun _ => rfl) (fun _ => rfl) (fun _ _ => rfl) (fun _ _ => rfl) (fun _ _ => rfl) (fun _ _ _ => rfl) (fun _ _ => rfl) hg (fun _ => hh)
theorem Ok.par {α : Type} {g : α → Fn} (p : RT → α) (hp : ∀ d st, p (More d st) = p st) (h : ∀ a, Ok (g a)) : Ok (fun st => g (p st) st) := by
 intro st r h0 h1 H
 obtain ⟨a, b, c⟩ := h _ st r h0 h1 H
 refine ⟨a, fun z d d0 d1 => ?_, fun z => ⟨(c z).1, fun d r' d0 d1 H' => ?_⟩⟩
 ·
  show g (p (More d st)) (More d st) = _
  rw [hp]
  exact b z d d0 d1
 ·
  replace H' : g (p (More d st)) (More d st) = some r' := H'
  rw [hp] at H'
  exact (c z).2 d r' d0 d1 H'
theorem Ok.none : Ok (fun _ => Option.none) := fun _ _ _ _ H => by cases H
theorem Ok.val {α : Type} {h : α → Fn} (ev : RT → Option α) (he : ∀ d st, ev (More d st) = ev st) (hh : ∀ v, Ok (h v)) : Ok (fun st => (ev st).bind fun v => h v st) := by
 have := Ok.par (g := fun (o : Option α) st => o.bind fun v => h v st) ev he (fun a => ?_)
 ·
  exact this
 ·
  cases a with
  | none => exact Ok.none
  | some v => exact hh v
theorem Ok.ite {c : Prop} [Decidable c] {g h : Fn} (hg : c → Ok g) (hh : ¬ c → Ok h) : Ok (fun st => if c then g st else h st) := by
 by_cases z : c
 ·
  simp only [if_pos z]; exact hg z
 ·
  simp only [if_neg z]; exact hh z
theorem Ok.bTX (c : RT → Prop) [∀ st, Decidable (c st)] {g h : Fn} (hc : ∀ d st, c (More d st) = c st) (hg : Ok g) (hh : Ok h) : Ok (fun st => if c st then g st else h st) := by
 have e : ∀ st, (if c st then g st else h st) = (if c st = True then g st else h st) := fun st => by simp only [eq_iff_iff, iff_true]
 have := Ok.par (g := fun (b : Bool) st => if b = true then g st else h st) (fun st => decide (c st)) (fun d st => by simp only [hc]) (fun b => by cases b <;> simp <;> assumption)
 simpa using this
theorem Ok.put (F : RT → Option RT) (hk : ∀ st s2, F st = some s2 → s2.2.1 = st.2.1 ∧ st.2.2.1 <+: s2.2.2.1) (hm : ∀ d st, F (More d st) = (F st).map (More d)) : Ok (fun st => (F st).bind fun s2 => some (true, s2)) := by
 intro st r h0 h1 H
 obtain ⟨s2, e, H⟩ := Option.bind_eq_some_iff.mp H
 injection H with H
 subst H
 obtain ⟨k1, k2⟩ := hk _ _ e
 refine ⟨⟨?_, ?_, k2⟩, fun _ d _ _ => ?_, fun z => (by cases z)⟩
 ·
  show (0 : Int) ≤ s2.2.1; omega
 ·
  show s2.2.1 ≤ st.2.1; omega
 ·
  show ((F (More d st)).bind _) = _
  rw [hm, e]
  rfl
theorem Ok.pay {g : Fn} (hg : Ok g) : Ok (fun st => if st.2.1 = 0 then some (false, st) else g (aC.RA st)) := by
 have w : ∀ z : Int, 0 < z → z ≤ 20000 → wrap64 (z - 1) = z - 1 := fun z a b => by unfold wrap64; omega
 have hp : ∀ st : RT, 0 < st.2.1 → st.2.1 ≤ 20000 → aC.RA st = (st.1, st.2.1 - 1, st.2.2) := fun st a b => by show (st.1, wrap64 (st.2.1 - 1), st.2.2) = _; rw [w _ a b]
 intro st r h0 h1 H
 by_cases h : st.2.1 = 0
 ·
  replace H : (if st.2.1 = 0 then some (false, st) else g (aC.RA st)) = some r := H
  rw [if_pos h] at H
  injection H with H
  subst H
  refine ⟨⟨h0, Int.le_refl _, List.prefix_refl _⟩, fun z => (by cases z), fun _ => ⟨h, fun d r' d0 d1 H' => ?_⟩⟩
  replace H' : (if st.2.1 + d = 0 then some (false, More d st) else g (aC.RA (More d st))) = some r' := H'
  by_cases h2 : st.2.1 + d = 0
  ·
   rw [if_pos h2] at H'
   injection H' with H'
   subst H'
   exact List.prefix_refl _
  ·
   rw [if_neg h2, hp (More d st) (by show 0 < st.2.1 + d; omega) d1] at H'
   exact (hg _ r' (by show 0 ≤ st.2.1 + d - 1; omega) (by show st.2.1 + d - 1 ≤ 20000; omega) H').1.2.2
 ·
  replace H : (if st.2.1 = 0 then some (false, st) else g (aC.RA st)) = some r := H
  rw [if_neg h, hp st (by omega) h1] at H
  obtain ⟨⟨a1, a2, a3⟩, b, c⟩ := hg _ r (by show 0 ≤ st.2.1 - 1; omega) (by show st.2.1 - 1 ≤ 20000; omega) H
  replace a2 : r.2.2.1 ≤ st.2.1 - 1 := a2
  have e : ∀ d, 0 ≤ d → st.2.1 + d ≤ 20000 → (if (More d st).2.1 = 0 then some (false, More d st) else g (aC.RA (More d st))) = g (More d (st.1, st.2.1 - 1, st.2.2)) := by
   intro d d0 d1
   rw [if_neg (by show ¬ st.2.1 + d = 0; omega), hp (More d st) (by show 0 < st.2.1 + d; omega) d1]
   show g (st.1, st.2.1 + d - 1, st.2.2) = g (st.1, st.2.1 - 1 + d, st.2.2)
   rw [show st.2.1 + d - 1 = st.2.1 - 1 + d by omega]
  refine ⟨⟨a1, by omega, a3⟩, fun z d d0 d1 => ?_, fun z => ⟨(c z).1, fun d r' d0 d1 H' => ?_⟩⟩
  ·
   exact (e d d0 d1).trans (b z d d0 (by show st.2.1 - 1 + d ≤ 20000; omega))
  ·
   exact (c z).2 d r' d0 (by show st.2.1 - 1 + d ≤ 20000; omega) ((e d d0 d1).symm.trans H')
theorem bSd {f : Sm → Fn} (hf : ∀ s, Ok (f s)) (n : Nat) : ∀ B, Ok (aC.blk f n B)
 | [] => by
  have := Ok.put (fun st => if n ≤ st.2.2.2.1.length then some (st.1, st.2.1, st.2.2.1, st.2.2.2.1.take n, st.2.2.2.2) else Option.none) (fun st s2 h => ?_) (fun d st => ?_)
  ·
   refine cast (congrArg Ok (funext fun st => ?_)) this
   show _ = (if n ≤ st.2.2.2.1.length then some (true, st.1, st.2.1, st.2.2.1, st.2.2.2.1.take n, st.2.2.2.2) else Option.none)
   by_cases h : n ≤ st.2.2.2.1.length
   ·
    simp only [if_pos h]; rfl
   ·
    simp only [if_neg h]; rfl
  ·
   split at h
   ·
    injection h with h; subst h; exact ⟨rfl, List.prefix_refl _⟩
   ·
    cases h
  ·
   show (if n ≤ st.2.2.2.1.length then some _ else Option.none) = _
   by_cases h : n ≤ st.2.2.2.1.length
   ·
    simp only [if_pos h]; rfl
   ·
    simp only [if_neg h]; rfl
 | s :: t => Ok.seq (hf s) (bSd hf n t)
theorem bSe {f : Sm → Fn} (hf : ∀ s, Ok (f s)) (B : List Sm) : Ok (fun st => aC.blk f st.2.2.2.1.length B st) := Ok.par (fun st => st.2.2.2.1.length) (fun _ _ => rfl) (fun n => bSd hf n B)
theorem bTr {f : Sm → Fn} (hf : ∀ s, Ok (f s)) {ev : RT → Option Int} (he : ∀ d st, ev (More d st) = ev st) (B : List Sm) : ∀ j, Ok (aC.lp f ev B j)
 | 0 => Ok.none
 | j + 1 => Ok.pay (Ok.val ev he (fun v => Ok.ite (fun _ => Ok.put (fun st => some st) (fun st s2 h => by injection h with h; subst h; exact ⟨rfl, List.prefix_refl _⟩) (fun _ _ => rfl)) (fun _ => Ok.seq (bSe hf B) (bTr hf he B j))))
theorem bR4 (k : Nat) (mod name : ByteArray) (v : Int) (d : Int) (st : RT) : aC.Ji k mod name v (More d st) = (aC.Ji k mod name v st).map (More d) := by
 show ((qH.f k st.1 mod name v).bind fun q => some (q.1, (More d st).2)) = _
 unfold aC.Ji
 cases qH.f k st.1 mod name v <;> rfl
theorem bR0 {k : Nat} {mod name : ByteArray} {v : Int} {st s2 : RT} (h : aC.Ji k mod name v st = some s2) : s2.2.1 = st.2.1 ∧ st.2.2.1 <+: s2.2.2.1 := by
 obtain ⟨q, _, h⟩ := Option.bind_eq_some_iff.mp h
 injection h with h
 subst h
 exact ⟨rfl, List.prefix_refl _⟩
theorem bSR (k : Nat) (fm mod name : ByteArray) (v : Int) (d : Int) (st : RT) : aC.WR k fm mod name v (More d st) = (aC.WR k fm mod name v st).map (More d) := by
 unfold aC.WR
 by_cases h : mod.toList = ([] : List UInt8)
 ·
  rw [if_pos h, if_pos h]
  show (if st.2.2.2.1.length ≤ 140737488355328 then _ else _) = _
  by_cases h2 : st.2.2.2.1.length ≤ 140737488355328
  ·
   rw [if_pos h2, if_pos h2]
   show (match aC.zU name st.2.2.2.1 v st.2.2.2.1.length with | some loc => _ | none => _) = _
   cases aC.zU name st.2.2.2.1 v st.2.2.2.1.length with
   | some loc => rfl
   | none => exact bR4 k fm name v d st
  ·
   rw [if_neg h2, if_neg h2]; rfl
 ·
  rw [if_neg h, if_neg h]
  exact bR4 k mod name v d st
theorem bSN {k : Nat} {fm mod name : ByteArray} {v : Int} {st s2 : RT} (h : aC.WR k fm mod name v st = some s2) : s2.2.1 = st.2.1 ∧ st.2.2.1 <+: s2.2.2.1 := by
 unfold aC.WR at h
 split at h
 ·
  split at h
  ·
   split at h
   ·
    injection h with h; subst h; exact ⟨rfl, List.prefix_refl _⟩
   ·
    exact bR0 h
  ·
   cases h
 ·
  exact bR0 h
theorem bSC (k : Nat) (fm mod name : ByteArray) (v : Int) : Ok (fun st => (aC.WR k fm mod name v st).bind fun s2 => some (true, s2)) :=
 Ok.put _ (fun _ _ h => bSN h) (fun d st => bSR k fm mod name v d st)
theorem bRR (F : RT → RT) (hk : ∀ st, (F st).2.1 = st.2.1 ∧ st.2.2.1 <+: (F st).2.2.1) (hm : ∀ d st, F (More d st) = More d (F st)) : Ok (fun st => some (true, F st)) :=
 Ok.put (fun st => some (F st)) (fun st s2 h => by injection h with h; subst h; exact hk st) (fun d st => by rw [hm]; rfl)
theorem bTf {f : ByteArray → Sm → Fn} (hf : ∀ md s, Ok (f md s)) (k : Nat) (l : List nM) (mod : ByteArray) (s : Sm) : Ok (aC.call f k l mod s) := by
 unfold aC.call
 refine Ok.ite (fun _ => ?_) (fun _ => Ok.none)
 refine Ok.val (fun st => aC.evs (fun a => bI.f k a ((a.length : Int) - 1) mod st.2.2.2.1 st.1) s.f9) (fun _ _ => rfl) (fun args => ?_)
 refine Ok.ite (fun _ => ?_) (fun _ => bRR (fun st => st) (fun _ => ⟨rfl, List.prefix_refl _⟩) (fun _ _ => rfl))
 generalize (aC.find l (if s.f6.toList = ([] : List UInt8) then mod else s.f6) s.f7 (args.length : Int)).1 = p
 generalize (if s.f6.toList = ([] : List UInt8) then mod else s.f6) = md
 have hset : ∀ b : Int, Ok (fun st => if s.f5 = true then (aC.WR k mod s.f2 s.f3 b st).bind fun s2 => some (true, s2) else some (true, st)) := fun b =>
  Ok.ite (fun _ => bSC _ _ _ _ _) (fun _ => bRR (fun st => st) (fun _ => ⟨rfl, List.prefix_refl _⟩) (fun _ _ => rfl))
 have key := Ok.via (g := aC.blk (f md) p.f1.length p.f6) (fun st => (st.1, st.2.1, st.2.2.1, aC.Pf p.f1 args, 0)) (fun st q => (q.1, q.2.1, q.2.2.1, st.2.2.2)) (fun q => q.2.2.2.2) (fun _ => rfl) (fun _ => rfl) (fun _ _ => rfl) (fun _ _ => rfl) (fun _ _ => rfl) (fun _ _ _ => rfl) (fun _ _ => rfl) (bSd (hf md) _ _) hset
 unfold aC.body
 by_cases hp : p.f1.length < 3518437208000
 ·
  refine cast (congrArg Ok (funext fun st => ?_)) key
  show _ = ((if p.f1.length < 3518437208000 then _ else _ : Option (Int × Bool × List Cl × Int × List ByteArray))).bind _
  rw [if_pos hp]
  cases aC.blk (f md) p.f1.length p.f6 (st.1, st.2.1, st.2.2.1, aC.Pf p.f1 args, 0) <;> rfl
 ·
  refine cast (congrArg Ok (funext fun st => ?_)) Ok.none
  rw [if_neg hp]; rfl
theorem bSD (l : List nM) : ∀ (k : Nat) (mod : ByteArray) (s : Sm), Ok (aC.stmt l k mod s)
 | 0, _, _ => Ok.none
 | k + 1, mod, s => by
  have ih := bSD l k
  let ev : RT → Option Int := fun st => bI.f k s.f8 ((s.f8.length : Int) - 1) mod st.2.2.2.1 st.1
  have he : ∀ d st, ev (More d st) = ev st := fun _ _ => rfl
  refine Ok.pay (g := fun st => if s.f0 = 1 then (if st.2.2.2.1.length < 3518437208000 then (ev st).bind fun v => some (true, st.1, st.2.1, st.2.2.1, st.2.2.2.1 ++ [⟨(⟨#[]⟩ : ByteArray), s.f3, v⟩], st.2.2.2.2) else Option.none)
   else if s.f0 = 2 then (ev st).bind fun v => (aC.WR k mod s.f2 s.f3 v st).bind fun st2 => some (true, st2)
   else if s.f0 = 3 then (ev st).bind fun v => some (true, st.1, st.2.1, st.2.2.1, st.2.2.2.1, v)
   else if s.f0 = 4 then aC.call (aC.stmt l k) k l mod s st
   else if s.f0 = 5 then (ev st).bind fun v => if v = 0 then aC.blk (aC.stmt l k mod) st.2.2.2.1.length s.f11 st else aC.blk (aC.stmt l k mod) st.2.2.2.1.length s.f10 st
   else if s.f0 = 6 then aC.lp (aC.stmt l k mod) ev s.f10 k st
   else if s.f0 = 7 then (if st.2.2.1.length < 8796093022000 then some (true, st.1, st.2.1, st.2.2.1 ++ [s.f3], st.2.2.2) else Option.none)
   else some (true, st)) ?_
  refine Ok.ite (fun _ => Ok.bTX (fun st => st.2.2.2.1.length < 3518437208000) (fun _ _ => rfl) (Ok.val ev he fun v => bRR (fun st => (st.1, st.2.1, st.2.2.1, st.2.2.2.1 ++ [⟨(⟨#[]⟩ : ByteArray), s.f3, v⟩], st.2.2.2.2)) (fun _ => ⟨rfl, List.prefix_refl _⟩) (fun _ _ => rfl)) Ok.none) (fun _ => ?_)
  refine Ok.ite (fun _ => Ok.val ev he fun v => bSC _ _ _ _ _) (fun _ => ?_)
  refine Ok.ite (fun _ => Ok.val ev he fun v => bRR (fun st => (st.1, st.2.1, st.2.2.1, st.2.2.2.1, v)) (fun _ => ⟨rfl, List.prefix_refl _⟩) (fun _ _ => rfl)) (fun _ => ?_)
  refine Ok.ite (fun _ => bTf ih k l mod s) (fun _ => ?_)
  refine Ok.ite (fun _ => Ok.val ev he fun v => Ok.ite (fun _ => bSe (ih mod) _) (fun _ => bSe (ih mod) _)) (fun _ => ?_)
  refine Ok.ite (fun _ => bTr (ih mod) he _ k) (fun _ => ?_)
  refine Ok.ite (fun _ => Ok.bTX (fun st => st.2.2.1.length < 8796093022000) (fun d st => ?_) (bRR (fun st => (st.1, st.2.1, st.2.2.1 ++ [s.f3], st.2.2.2)) (fun _ => ⟨rfl, List.prefix_append _ _⟩) (fun _ _ => rfl)) Ok.none) (fun _ => bRR (fun st => st) (fun _ => ⟨rfl, List.prefix_refl _⟩) (fun _ _ => rfl))
  rfl
theorem bSS (k : Nat) (l : List nM) (mod proc : ByteArray) (args : List Int) (m : List Cl) (fu g : Int) (x y : Int × List Cl × Int × List ByteArray × Int) (h0 : 0 ≤ fu) (h1 : fu ≤ g) (h2 : g ≤ 20000)
  (hx : aC.f k l mod proc args m fu = some x) (hy : aC.f k l mod proc args m g = some y) :
  (x.1 = 3 ∧ y.1 = 3) ∨ (x.1 = 1 ∧ y = (1, x.2.1, x.2.2.1, x.2.2.2.1, x.2.2.2.2 + (g - fu)) ∧ 0 ≤ x.2.2.2.2 ∧ x.2.2.2.2 ≤ fu) ∨ (x.1 = 2 ∧ x.2.2.2.2 = 0 ∧ x.2.2.2.1 <+: y.2.2.2.1) := by
 unfold aC.f at hx hy
 by_cases hf : (aC.find l mod proc (args.length : Int)).2 = false
 ·
  rw [if_pos hf] at hx hy
  obtain ⟨_, _, hx⟩ := Option.bind_eq_some_iff.mp hx
  obtain ⟨_, _, hy⟩ := Option.bind_eq_some_iff.mp hy
  injection hx with hx
  injection hy with hy
  subst hx hy
  exact .inl ⟨rfl, rfl⟩
 ·
  rw [if_neg hf, if_neg (by omega), if_neg (by omega)] at hx hy
  obtain ⟨m1, em, hx⟩ := Option.bind_eq_some_iff.mp hx
  rw [em] at hy
  replace hy : ((aC.body (aC.stmt l k mod) (aC.find l mod proc (args.length : Int)).1 args m1 g []).bind fun r => if r.2.1 = true then some (1, r.2.2.1, r.1, r.2.2.2.2, r.2.2.2.1) else some (2, r.2.2.1, 0, r.2.2.2.2, r.2.2.2.1)) = some y := hy
  revert hx hy
  generalize (aC.find l mod proc (args.length : Int)).1 = p
  intro hx hy
  obtain ⟨rx, ex, hx⟩ := Option.bind_eq_some_iff.mp hx
  obtain ⟨ry, ey, hy⟩ := Option.bind_eq_some_iff.mp hy
  unfold aC.body at ex ey
  by_cases hp : p.f1.length < 3518437208000
  ·
   rw [if_pos hp] at ex ey
   obtain ⟨qx, e1, ex⟩ := Option.bind_eq_some_iff.mp ex
   obtain ⟨qy, e2, ey⟩ := Option.bind_eq_some_iff.mp ey
   injection ex with ex
   injection ey with ey
   subst ex ey
   obtain ⟨⟨a1, a2, a3⟩, b, c⟩ := bSd (fun s => bSD l k mod s) _ _ _ _ (by exact h0) (by show fu ≤ 20000; omega) e1
   have em : (m1, g, ([] : List ByteArray), aC.Pf p.f1 args, (0 : Int)) = More (g - fu) (m1, fu, [], aC.Pf p.f1 args, 0) := by
    show _ = (m1, fu + (g - fu), ([] : List ByteArray), aC.Pf p.f1 args, (0 : Int))
    rw [show fu + (g - fu) = g by omega]
   rw [em] at e2
   dsimp only at hx hy
   by_cases hb : qx.1 = true
   ·
    have := b hb (g - fu) (by omega) (by show fu + (g - fu) ≤ 20000; omega)
    rw [this] at e2
    injection e2 with e2
    subst e2
    rw [if_pos hb] at hx
    rw [if_pos rfl] at hy
    injection hx with hx
    injection hy with hy
    subst hx hy
    exact .inr (.inl ⟨rfl, rfl, a1, a2⟩)
   ·
    obtain ⟨c1, c2⟩ := c (by simpa using hb)
    have p := c2 (g - fu) qy (by omega) (by show fu + (g - fu) ≤ 20000; omega) e2
    rw [if_neg hb] at hx
    injection hx with hx
    subst hx
    refine .inr (.inr ⟨rfl, c1, ?_⟩)
    by_cases hb2 : qy.1 = true
    ·
     rw [if_pos hb2] at hy
     injection hy with hy
     subst hy
     exact p
    ·
     rw [if_neg hb2] at hy
     injection hy with hy
     subst hy
     exact p
  ·
   rw [if_neg hp] at ex
   cases ex
end bSc
namespace bRC
theorem zl {p : Prop} (h : p := by simp only [List.length_append, List.length_singleton]; omega) : p := h
abbrev Tok := iJ
abbrev Nd := dP
def EvP {α : Type} (g : Nat → Option α) (P : α → Prop) : Prop := ∃ r, Ev g r ∧ P r
theorem done {α : Type} {P : α → Prop} {r : α} (h : P r) : EvP (fun _ => some r) P := ⟨r, ⟨0, fun _ _ => rfl⟩, h⟩
theorem andThen {α β : Type} {g : Nat → Option α} {f : Nat → α → Option β} {P : α → Prop} {Q : β → Prop} (h : EvP g P) (k : ∀ r, P r → EvP (fun n => f n r) Q) : EvP (fun n => (g n).bind (f n)) Q := by
 obtain ⟨r, e, p⟩ := h
 obtain ⟨s, e2, q⟩ := k r p
 exact ⟨s, Ev.bind e e2, q⟩
theorem more {α : Type} {g : Nat → Option α} {Q : α → Prop} (h : EvP (fun k => g (k + 1)) Q) : EvP g Q := by
 obtain ⟨r, e, q⟩ := h
 exact ⟨r, Ev.step (fun _ => rfl) e, q⟩
theorem ways {α : Type} {c : Prop} [Decidable c] {f g : Nat → Option α} {Q : α → Prop} (h1 : c → EvP f Q) (h2 : ¬ c → EvP g Q) : EvP (fun n => if c then f n else g n) Q := by
 by_cases h : c
 ·
  obtain ⟨r, e, q⟩ := h1 h
  exact ⟨r, Ev.congr (fun _ => if_pos h) e, q⟩
 ·
  obtain ⟨r, e, q⟩ := h2 h
  exact ⟨r, Ev.congr (fun _ => if_neg h) e, q⟩
theorem gate {α : Type} {c : Prop} [Decidable c] {f g : Nat → Option α} {Q : α → Prop} (h : c) (h1 : EvP f Q) : EvP (fun n => if c then f n else g n) Q := ways (fun _ => h1) (fun z => absurd h z)
theorem weaker {α : Type} {g : Nat → Option α} {P Q : α → Prop} (h : EvP g P) (k : ∀ r, P r → Q r) : EvP g Q := by
 obtain ⟨r, e, p⟩ := h
 exact ⟨r, e, k r p⟩
theorem known {α β : Type} {x : Option α} {v : α} {f : Nat → α → Option β} {Q : β → Prop} (h : x = some v) (k : EvP (fun n => f n v) Q) : EvP (fun n => x.bind (f n)) Q := by
 subst h
 exact k
def bRF (l : List Tok) : Prop := l.length ≤ 10000 ∧ (∀ j : Int, 0 ≤ j → j < l.length → (cK l j).f0 ≠ 0 → j + 1 < l.length) ∧ ∀ j : Int, 0 ≤ j → j < l.length → (cK l j).f1.size ≤ 10000
theorem w64 {n : Int} (h0 : -4503599627370496 ≤ n) (h1 : n ≤ 4503599627370496) : wrap64 n = n := by unfold wrap64; omega
section
variable {β : Type} {Q : β → Prop} {l : List Tok} {i d e a : Int} {s : ByteArray}
theorem bRL {F : Nat → (Int × Int × Int × Int × Int) → Option β} (h0 : 0 ≤ i) (h1 : i < l.length) (k : EvP (fun n => F n ((cK l i).f2, i, d, e, a)) Q) : EvP (fun n => (mD.f l i d e a).bind (F n)) Q :=
 known (by unfold mD.f; rw [if_pos h0, if_pos h1]) k
theorem bRP {F : Nat → (Int × Int × Int × Int) → Option β} {c : Int} (hc : c ≠ 0) (h0 : 0 ≤ i) (h1 : i < l.length) (k : ∀ e' a', e' ≠ 0 → EvP (fun n => F n (i, d, e', a')) Q) : EvP (fun n => (jP.f l i d e a c).bind (F n)) Q := by
 unfold jP.f
 by_cases h : e = 0
 ·
  rw [if_pos h, if_pos h0, if_pos h1]
  exact known rfl (k _ _ hc)
 ·
  rw [if_neg h]
  exact known rfl (k _ _ h)
theorem bSf (T : bRF l) {F : Nat → (Bool × Int × Int × Int × Int) → Option β} (h0 : 0 ≤ i) (h1 : i < l.length) (yes : e = 0 → i + 1 < l.length → EvP (fun n => F n (true, i, d, e, a)) Q) (no : EvP (fun n => F n (false, i, d, e, a)) Q) :
  EvP (fun n => (nN.f l i d e a s).bind (F n)) Q := by
 unfold nN.f
 rw [if_pos h0, if_pos h1]
 have key : ∀ b : Bool, (cK l i).f0 ≠ 0 → e = 0 → EvP (fun n => (some (b, i, d, e, a)).bind (F n)) Q := by
  intro b h2 he
  cases b with
  | true => exact known rfl (yes he (T.2.1 i h0 h1 h2))
  | false => exact known rfl no
 by_cases he : e = 0
 ·
  rw [if_pos he]
  by_cases h4 : (cK l i).f0 = 4
  ·
   rw [if_pos h4]
   exact key _ (by omega) he
  ·
   rw [if_neg h4]
   by_cases h3 : (cK l i).f0 = 3
   ·
    rw [if_pos h3]
    exact key _ (by omega) he
   ·
    rw [if_neg h3]
    exact known rfl no
 ·
  rw [if_neg he]
  exact known rfl no
theorem bRE (T : bRF l) {F : Nat → (Bool × Int × Int × Int × Int) → Option β} (h0 : 0 ≤ i) (h1 : i < l.length) (yes : e = 0 → i + 1 < l.length → EvP (fun n => F n (true, i + 1, d, e, a)) Q) (no : EvP (fun n => F n (false, i, d, e, a)) Q) :
  EvP (fun n => (eX.f l i d e a s).bind (F n)) Q := by
 have h : EvP (fun n => eX.f l i d e a s) (fun r => (r = (true, i + 1, d, e, a) ∧ e = 0 ∧ i + 1 < l.length) ∨ r = (false, i, d, e, a)) := by
  unfold eX.f
  refine bSf T h0 h1 (fun he hi => ?_) ?_
  ·
   have := T.1
   dsimp only
   exact done (.inl ⟨by rw [w64 (by omega) (by omega)], he, hi⟩)
  ·
   exact done (.inr rfl)
 refine andThen h (fun r hr => ?_)
 rcases hr with ⟨rfl, he, hi⟩ | rfl
 ·
  exact yes he hi
 ·
  exact no
theorem bRD (T : bRF l) {F : Nat → (Int × Int × Int × Int) → Option β} (h0 : 0 ≤ i) (h1 : i < l.length) (k : ∀ i' e' a', i ≤ i' → i' ≤ i + 1 → i' < l.length → (e' = 0 → e = 0 ∧ i' = i + 1) → EvP (fun n => F n (i', d, e', a')) Q) :
  EvP (fun n => (dI.f l i d e a s).bind (F n)) Q := by
 have h : EvP (fun n => dI.f l i d e a s) (fun r => ∃ i' e' a', r = (i', d, e', a') ∧ i ≤ i' ∧ i' ≤ i + 1 ∧ i' < l.length ∧ (e' = 0 → e = 0 ∧ i' = i + 1)) := by
  unfold dI.f
  refine bRE T h0 h1 (fun he hi => ?_) ?_
  ·
   dsimp only
   exact done ⟨_, _, _, rfl, by omega, by omega, hi, fun _ => ⟨he, rfl⟩⟩
  ·
   simp only [Bool.false_eq_true, if_false]
   exact bRP (by omega) h0 h1 (fun e' a' he' => done ⟨_, _, _, rfl, by omega, by omega, h1, fun z => absurd z he'⟩)
 refine andThen h (fun r hr => ?_)
 obtain ⟨i', e', a', rfl, k1, k2, k3, k4⟩ := hr
 exact k i' e' a' k1 k2 k3 k4
theorem bRK (T : bRF l) {F : Nat → (ByteArray × Int × Int × Int × Int) → Option β} (h0 : 0 ≤ i) (h1 : i < l.length) (k : ∀ s i' e' a', i ≤ i' → i' ≤ i + 1 → i' < l.length → (e' = 0 → e = 0 ∧ i' = i + 1) → EvP (fun n => F n (s, i', d, e', a')) Q) :
  EvP (fun n => (gG.f l i d e a).bind (F n)) Q := by
 have h : EvP (fun n => gG.f l i d e a) (fun r => ∃ s i' e' a', r = (s, i', d, e', a') ∧ i ≤ i' ∧ i' ≤ i + 1 ∧ i' < l.length ∧ (e' = 0 → e = 0 ∧ i' = i + 1)) := by
  unfold gG.f
  refine gate h0 (gate h1 (ways (fun he => ways (fun h2 => ?_) (fun _ => ?_)) (fun _ => ?_)))
  ·
   have := T.2.1 i h0 h1 (by omega)
   have := T.1
   exact done ⟨_, _, _, _, by rw [w64 (by omega) (by omega)], by omega, by omega, by omega, fun _ => ⟨he, rfl⟩⟩
  ·
   exact bRP (by omega) h0 h1 (fun e' a' he' => done ⟨_, _, _, _, rfl, by omega, by omega, h1, fun z => absurd z he'⟩)
  ·
   exact bRP (by omega) h0 h1 (fun e' a' he' => done ⟨_, _, _, _, rfl, by omega, by omega, h1, fun z => absurd z he'⟩)
 refine andThen h (fun r hr => ?_)
 obtain ⟨s, i', e', a', rfl, k1, k2, k3, k4⟩ := hr
 exact k s i' e' a' k1 k2 k3 k4
theorem bSg (T : bRF l) {F : Nat → (Int × Int × Int × Int) → Option β} (h0 : 0 ≤ i) (h1 : i < l.length) (k : ∀ i' d' e' a', i ≤ i' → i' ≤ i + 1 → i' < l.length → (e' = 0 → e = 0 ∧ i' = i + 1) → EvP (fun n => F n (i', d', e', a')) Q) :
  EvP (fun n => (gW.f n l i d e a s).bind (F n)) Q := by
 have hj : ∀ b : Bool, EvP (fun n => gW.j0 n s b l i d e a) (fun r => ∃ i' d' e' a', r = (i', d', e', a') ∧ i ≤ i' ∧ i' ≤ i + 1 ∧ i' < l.length ∧ (e' = 0 → e = 0 ∧ i' = i + 1)) := by
  intro b
  refine more ?_
  simp only [gW.j0]
  refine ways (fun _ => ?_) (fun _ => ?_)
  ·
   exact bRP (by omega) h0 h1 (fun e' a' he' => bRD T h0 h1 (fun i2 e2 a2 q1 q2 q3 q4 => done ⟨_, _, _, _, rfl, q1, q2, q3, fun z => absurd (q4 z).1 he'⟩))
  ·
   exact bRD T h0 h1 (fun i2 e2 a2 q1 q2 q3 q4 => done ⟨_, _, _, _, rfl, q1, q2, q3, q4⟩)
 have h : EvP (fun n => gW.f n l i d e a s) (fun r => ∃ i' d' e' a', r = (i', d', e', a') ∧ i ≤ i' ∧ i' ≤ i + 1 ∧ i' < l.length ∧ (e' = 0 → e = 0 ∧ i' = i + 1)) := by
  unfold gW.f
  exact bSf T h0 h1 (fun _ _ => gate rfl (hj _)) (ways (fun z => absurd z Bool.false_ne_true) (fun _ => hj _))
 refine andThen h (fun r hr => ?_)
 obtain ⟨i', d', e', a', rfl, k1, k2, k3, k4⟩ := hr
 exact k i' d' e' a' k1 k2 k3 k4
theorem bR2 (T : bRF l) {F : Nat → (ByteArray × ByteArray × Int × Int × Int × Int) → Option β} (h0 : 0 ≤ i) (h1 : i < l.length) (k : ∀ s t i' e' a', i ≤ i' → i' < l.length → (e' = 0 → e = 0 ∧ i < i') → EvP (fun n => F n (s, t, i', d, e', a')) Q) :
  EvP (fun n => (rX.f l i d e a).bind (F n)) Q := by
 have h : EvP (fun n => rX.f l i d e a) (fun r => ∃ s t i' e' a', r = (s, t, i', d, e', a') ∧ i ≤ i' ∧ i' < l.length ∧ (e' = 0 → e = 0 ∧ i < i')) := by
  unfold rX.f
  refine bRK T h0 h1 (fun s1 i1 e1 a1 q1 q2 q3 q4 => ?_)
  dsimp only
  refine bRE T (by omega) q3 (fun he hi => gate rfl ?_) (ways (fun z => absurd z Bool.false_ne_true) (fun _ => ?_))
  ·
   dsimp only
   refine bRK T (by omega) hi (fun s2 i2 e2 a2 p1 p2 p3 p4 => ?_)
   dsimp only
   exact done ⟨_, _, _, _, _, rfl, by omega, by omega, fun z => by have := q4 (p4 z).1; omega⟩
  ·
   dsimp only
   exact done ⟨_, _, _, _, _, rfl, by omega, by omega, fun z => by have := q4 z; omega⟩
 refine andThen h (fun r hr => ?_)
 obtain ⟨s, t, i', e', a', rfl, k1, k3, k4⟩ := hr
 exact k s t i' e' a' k1 k3 k4
theorem bST (s : ByteArray) (hs : s.size ≤ 10000) : ∀ (d i : Nat) (x : Int), i + d = s.size → ∃ v, Ev (fun k => kS.l0 k s x (i : Int)) v := by
 intro d
 induction d with
 | zero =>
  intro i x hi
  refine ⟨x, Ev.step (f := fun _ => some x) (fun k => ?_) ⟨0, fun _ _ => rfl⟩⟩
  simp only [kS.l0]
  rw [if_neg (by omega)]
 | succ d ih =>
  intro i x hi
  obtain ⟨v, h⟩ := ih (i + 1) (wrap64 ((wrap64 (10 * x)) + (((bt s (i : Int)) - 48) % 256))) (by omega)
  refine ⟨v, Ev.step (fun k => ?_) h⟩
  simp only [kS.l0]
  rw [if_pos (by omega), if_pos (by omega), w64 (n := (i : Int) + 1) (by omega) (by omega)]
  rfl
theorem bTs {F : Nat → Int → Option β} (hs : s.size ≤ 10000) (k : ∀ v, EvP (fun n => F n v) Q) : EvP (fun n => (kS.f n s).bind (F n)) Q := by
 obtain ⟨v, h⟩ := bST s hs s.size 0 0 (by omega)
 exact andThen (g := fun n => kS.f n s) ⟨v, h, trivial⟩ (fun r (_ : True) => k r)
theorem bSU {F : Nat → List Nd → Option β} {L : List Nd} {x y z : Int} (hL : L.length ≤ 1000000) (k : ∀ L' : List Nd, L'.length = L.length + 1 → EvP (fun n => F n L') Q) : EvP (fun n => (wC.f L x y z).bind (F n)) Q :=
 known (by unfold wC.f; rw [if_pos (by omega)]) (k _ (by simp))
end
def bRI (l : List Tok) (C i e : Int) (r : List Nd × Int × Int × Int × Int) : Prop := ∃ L' i' d' e' a', r = (L', i', d', e', a') ∧ i ≤ i' ∧ i' < l.length ∧ (e' = 0 → e = 0) ∧ (e' = 0 → L'.length + l.length - i' + 1 ≤ C) ∧ L'.length + l.length - i' ≤ C
def bRJ (l : List Tok) (C i e : Int) (r : List Nd × Int × Int × Int × Int) : Prop := ∃ L' i' d' e' a', r = (L', i', d', e', a') ∧ i ≤ i' ∧ i' < l.length ∧ (e' = 0 → e = 0 ∧ i < i') ∧ (e' = 0 → L'.length + l.length - i' + 1 ≤ C) ∧ L'.length + l.length - i' ≤ C
def Told (l : List Tok) (m : Int) (g : Nat → Int → Int → Int → Int → List Nd → Option (List Nd × Int × Int × Int × Int)) (P : Int → Int → Int → (List Nd × Int × Int × Int × Int) → Prop) : Prop :=
 ∀ (i d e a C : Int) (L : List Nd), 0 ≤ i → i < l.length → (e = 0 → l.length - i + 1 ≤ m) → l.length - i ≤ m → C ≤ 100000 → (e = 0 → L.length + l.length - i + 1 ≤ C) → L.length + l.length - i ≤ C → EvP (fun n => g n i d e a L) (P C i e)
section
variable {l : List Tok} {m : Int}
theorem bTg (T : bRF l) (hu : Told l (m - 1) (fun n i d e a L => dY.f n l i d e a L) (bRJ l)) (hx : Told l (m - 1) (fun n i d e a L => fZ.f n l i d e a L) (bRJ l)) :
  Told l m (fun n i d e a L => dY.f n l i d e a L) (bRJ l) := by
 intro i d e a C L h0 h1 m1 m2 hC c1 c2
 have T1 := T.1
 have hj : ∀ b : Bool, e = 0 → EvP (fun n => dY.j0 n L b l i d e a (cK l i).f0 (cK l i).f1 (cK l i).f2) (bRJ l C i e) := by
  intro b he
  refine more ?_
  simp only [dY.j0]
  refine ways (fun _ => ways (fun _ => ?_) (fun _ => ?_)) (fun _ => ?_)
  ·
   refine bSg T h0 h1 (fun i' d' e' a' q1 q2 q3 q4 => ?_)
   dsimp only
   refine andThen (hu i' d' e' a' (C - 1) L (by omega) q3 (by omega) (by omega) (by omega) (by omega) (by omega)) (fun r hr => ?_)
   obtain ⟨L2, i2, d2, e2, a2, rfl, p1, p2, p3, p4, p5⟩ := hr
   dsimp only
   refine gate (by omega) (done ⟨_, _, _, _, _, rfl, by omega, by omega, by omega, ?_, ?_⟩)
   ·
    exact zl
   ·
    exact zl
  ·
   refine bSg T h0 h1 (fun i' d' e' a' q1 q2 q3 q4 => ?_)
   dsimp only
   refine andThen (hu i' d' e' a' (C - 1) L (by omega) q3 (by omega) (by omega) (by omega) (by omega) (by omega)) (fun r hr => ?_)
   obtain ⟨L2, i2, d2, e2, a2, rfl, p1, p2, p3, p4, p5⟩ := hr
   dsimp only
   refine gate (by omega) (done ⟨_, _, _, _, _, rfl, by omega, by omega, by omega, ?_, ?_⟩)
   ·
    exact zl
   ·
    exact zl
  ·
   refine bSf T h0 h1 (fun _ _ => gate rfl ?_) (ways (fun z => absurd z Bool.false_ne_true) (fun _ => ?_))
   ·
    dsimp only
    refine bSg T h0 h1 (fun i' d' e' a' q1 q2 q3 q4 => ?_)
    dsimp only
    refine andThen (hx i' d' e' a' (C - 1) L (by omega) q3 (by omega) (by omega) (by omega) (by omega) (by omega)) (fun r hr => ?_)
    obtain ⟨L2, i2, d2, e2, a2, rfl, p1, p2, p3, p4, p5⟩ := hr
    dsimp only
    refine bRD T (by omega) p2 (fun i3 e3 a3 t1 t2 t3 t4 => ?_)
    dsimp only
    exact done ⟨_, _, _, _, _, rfl, by omega, by omega, fun z => by omega, fun z => by omega, by omega⟩
   ·
    dsimp only
    refine ways (fun h2 => ?_) (fun _ => ways (fun h2 => ?_) (fun _ => ?_))
    ·
     refine bTs (T.2.2 i h0 h1) (fun v => gate (by omega) ?_)
     have := T.2.1 i h0 h1 (by omega)
     rw [w64 (n := i + 1) (by omega) (by omega)]
     refine done ⟨_, _, _, _, _, rfl, by omega, by omega, by omega, ?_, ?_⟩
     ·
      exact zl
     ·
      exact zl
    ·
     refine bR2 T h0 h1 (fun s t i' e' a' q1 q2 q3 => ?_)
     dsimp only
     refine gate (by omega) (done ⟨_, _, _, _, _, rfl, by omega, by omega, by omega, ?_, ?_⟩)
     ·
      exact zl
     ·
      exact zl
    ·
     refine bRP (by omega) h0 h1 (fun e' a' he' => ?_)
     dsimp only
     exact done ⟨_, _, _, _, _, rfl, by omega, by omega, fun z => by omega, fun z => by omega, by omega⟩
 refine more ?_
 simp only [dY.f]
 refine ways (fun he => gate h0 (gate h1 ?_)) (fun he => done ⟨_, _, _, _, _, rfl, by omega, by omega, fun z => by omega, fun z => by omega, by omega⟩)
 refine bSf T h0 h1 (fun _ _ => gate rfl (hj _ he)) (ways (fun z => absurd z Bool.false_ne_true) (fun _ => ?_))
 dsimp only
 exact bSf T h0 h1 (fun _ _ => hj _ he) (hj _ he)
theorem bTt {C i e i2 e2 : Int} {r : List Nd × Int × Int × Int × Int} (h : bRI l C i2 e2 r) (hi : i ≤ i2) (he : e2 = 0 → e = 0) : bRI l C i e r := by
 obtain ⟨L', i', d', e', a', rfl, p1, p2, p3, p4, p5⟩ := h
 exact ⟨L', i', d', e', a', rfl, by omega, p2, fun z => he (p3 z), p4, p5⟩
theorem bSV {C i e i2 e2 : Int} {r : List Nd × Int × Int × Int × Int} (h : bRI l C i2 e2 r) (hi : i ≤ i2) (he : e2 = 0 → e = 0 ∧ i < i2) : bRJ l C i e r := by
 obtain ⟨L', i', d', e', a', rfl, p1, p2, p3, p4, p5⟩ := h
 exact ⟨L', i', d', e', a', rfl, by omega, p2, fun z => ⟨(he (p3 z)).1, by have := (he (p3 z)).2; omega⟩, p4, p5⟩
theorem bTy (T : bRF l) (hu : Told l (m - 1) (fun n i d e a L => dY.f n l i d e a L) (bRJ l)) (ih : Told l (m - 1) (fun n i d e a L => iN.l0 n L l i d e a) (bRI l)) :
  Told l m (fun n i d e a L => iN.l0 n L l i d e a) (bRI l) := by
 intro i d e a C L h0 h1 m1 m2 hC c1 c2
 have T1 := T.1
 have yes : e = 0 → i + 1 < l.length → ∀ x y z, EvP (fun n => (dY.f n l (i + 1) d e a L).bind fun q => (wC.f q.1 x y z).bind fun t => iN.l0 n t l q.2.1 q.2.2.1 q.2.2.2.1 q.2.2.2.2) (bRI l C i e) := by
  intro he hi x y z
  refine andThen (hu (i + 1) d e a (C - 1) L (by omega) hi (by omega) (by omega) (by omega) (by omega) (by omega)) (fun r hr => ?_)
  obtain ⟨L2, i2, d2, e2, a2, rfl, p1, p2, p3, p4, p5⟩ := hr
  dsimp only
  refine bSU (by omega) (fun L3 h3 => ?_)
  exact weaker (ih i2 d2 e2 a2 C L3 (by omega) p2 (by omega) (by omega) hC (by omega) (by omega)) (fun r hr => bTt hr (by omega) (fun _ => he))
 refine more ?_
 simp only [iN.l0]
 refine ways (fun he => ?_) (fun he => done ⟨_, _, _, _, _, rfl, by omega, by omega, fun z => by omega, fun z => by omega, by omega⟩)
 refine bRL h0 h1 ?_
 dsimp only
 refine bRE T h0 h1 (fun _ hi => gate rfl (yes he hi _ _ _)) (ways (fun z => absurd z Bool.false_ne_true) (fun _ => ?_))
 dsimp only
 refine bRE T h0 h1 (fun _ hi => gate rfl (yes he hi _ _ _)) (ways (fun z => absurd z Bool.false_ne_true) (fun _ => ?_))
 dsimp only
 refine bRE T h0 h1 (fun _ hi => gate rfl (yes he hi _ _ _)) (ways (fun z => absurd z Bool.false_ne_true) (fun _ => ?_))
 dsimp only
 exact done ⟨_, _, _, _, _, rfl, by omega, by omega, fun z => z, fun z => c1 z, by omega⟩
theorem bTz (hu : Told l m (fun n i d e a L => dY.f n l i d e a L) (bRJ l)) (hl : Told l m (fun n i d e a L => iN.l0 n L l i d e a) (bRI l)) :
  Told l m (fun n i d e a L => iN.f n l i d e a L) (bRJ l) := by
 intro i d e a C L h0 h1 m1 m2 hC c1 c2
 refine more ?_
 simp only [iN.f]
 refine andThen (hu i d e a C L h0 h1 m1 m2 hC c1 c2) (fun r hr => ?_)
 obtain ⟨L2, i2, d2, e2, a2, rfl, p1, p2, p3, p4, p5⟩ := hr
 dsimp only
 exact weaker (hl i2 d2 e2 a2 C L2 (by omega) p2 (by omega) (by omega) hC p4 p5) (fun r hr => bSV hr p1 p3)
theorem bTY (T : bRF l) (hu : Told l (m - 1) (fun n i d e a L => iN.f n l i d e a L) (bRJ l)) (ih : Told l (m - 1) (fun n i d e a L => kT.l0 n L l i d e a) (bRI l)) :
  Told l m (fun n i d e a L => kT.l0 n L l i d e a) (bRI l) := by
 intro i d e a C L h0 h1 m1 m2 hC c1 c2
 have T1 := T.1
 have yes : e = 0 → i + 1 < l.length → ∀ x y z, EvP (fun n => (iN.f n l (i + 1) d e a L).bind fun q => (wC.f q.1 x y z).bind fun t => kT.l0 n t l q.2.1 q.2.2.1 q.2.2.2.1 q.2.2.2.2) (bRI l C i e) := by
  intro he hi x y z
  refine andThen (hu (i + 1) d e a (C - 1) L (by omega) hi (by omega) (by omega) (by omega) (by omega) (by omega)) (fun r hr => ?_)
  obtain ⟨L2, i2, d2, e2, a2, rfl, p1, p2, p3, p4, p5⟩ := hr
  dsimp only
  refine bSU (by omega) (fun L3 h3 => ?_)
  exact weaker (ih i2 d2 e2 a2 C L3 (by omega) p2 (by omega) (by omega) hC (by omega) (by omega)) (fun r hr => bTt hr (by omega) (fun _ => he))
 refine more ?_
 simp only [kT.l0]
 refine ways (fun he => ?_) (fun he => done ⟨_, _, _, _, _, rfl, by omega, by omega, fun z => by omega, fun z => by omega, by omega⟩)
 refine bRL h0 h1 ?_
 dsimp only
 refine bRE T h0 h1 (fun _ hi => gate rfl (yes he hi _ _ _)) (ways (fun z => absurd z Bool.false_ne_true) (fun _ => ?_))
 dsimp only
 refine bRE T h0 h1 (fun _ hi => gate rfl (yes he hi _ _ _)) (ways (fun z => absurd z Bool.false_ne_true) (fun _ => ?_))
 dsimp only
 exact done ⟨_, _, _, _, _, rfl, by omega, by omega, fun z => z, fun z => c1 z, by omega⟩
theorem bTZ (hu : Told l m (fun n i d e a L => iN.f n l i d e a L) (bRJ l)) (hl : Told l m (fun n i d e a L => kT.l0 n L l i d e a) (bRI l)) :
  Told l m (fun n i d e a L => kT.f n l i d e a L) (bRJ l) := by
 intro i d e a C L h0 h1 m1 m2 hC c1 c2
 refine more ?_
 simp only [kT.f]
 refine andThen (hu i d e a C L h0 h1 m1 m2 hC c1 c2) (fun r hr => ?_)
 obtain ⟨L2, i2, d2, e2, a2, rfl, p1, p2, p3, p4, p5⟩ := hr
 dsimp only
 exact weaker (hl i2 d2 e2 a2 C L2 (by omega) p2 (by omega) (by omega) hC p4 p5) (fun r hr => bSV hr p1 p3)
theorem bTA (T : bRF l) (hu : Told l (m - 1) (fun n i d e a L => kT.f n l i d e a L) (bRJ l)) (S : List ByteArray) (hS : S.length ≤ 100) : ∀ c x : Nat, x + c = S.length →
  Told l m (fun n i d e a L => fZ.l0 n L S (x : Int) l i d e a) (bRI l) := by
 intro c
 induction c with
 | zero =>
  intro x hx i d e a C L h0 h1 m1 m2 hC c1 c2
  refine more ?_
  simp only [fZ.l0]
  refine ways (fun z => absurd z (by omega)) (fun _ => ?_)
  exact done ⟨_, _, _, _, _, rfl, by omega, by omega, fun z => z, fun z => c1 z, by omega⟩
 | succ c ih =>
  intro x hx i d e a C L h0 h1 m1 m2 hC c1 c2
  refine more ?_
  simp only [fZ.l0]
  refine gate (by omega) (bRL h0 h1 (gate (by omega) ?_))
  dsimp only
  refine bRE T h0 h1 (fun he hi => gate rfl ?_) (ways (fun z => absurd z Bool.false_ne_true) (fun _ => ?_))
  ·
   dsimp only
   refine andThen (hu (i + 1) d e a (C - 1) L (by omega) hi (by omega) (by omega) (by omega) (by omega) (by omega)) (fun r hr => ?_)
   obtain ⟨L2, i2, d2, e2, a2, rfl, p1, p2, p3, p4, p5⟩ := hr
   dsimp only
   refine bSU (by omega) (fun L3 h3 => ?_)
   exact done ⟨_, _, _, _, _, rfl, by omega, by omega, fun z => he, fun z => by omega, by omega⟩
  ·
   dsimp only
   rw [w64 (n := (x : Int) + 1) (by omega) (by omega)]
   exact ih (x + 1) (by omega) i d e a C L h0 h1 m1 m2 hC c1 c2
theorem bTB (T : bRF l) (hs : Told l m (fun n i d e a L => kT.f n l i d e a L) (bRJ l)) (hu : Told l (m - 1) (fun n i d e a L => kT.f n l i d e a L) (bRJ l)) :
  Told l m (fun n i d e a L => fZ.f n l i d e a L) (bRJ l) := by
 intro i d e a C L h0 h1 m1 m2 hC c1 c2
 refine more ?_
 simp only [fZ.f]
 refine andThen (hs i d e a C L h0 h1 m1 m2 hC c1 c2) (fun r hr => ?_)
 obtain ⟨L2, i2, d2, e2, a2, rfl, p1, p2, p3, p4, p5⟩ := hr
 dsimp only
 exact weaker (bTA T hu _ (by simp) 3 0 rfl i2 d2 e2 a2 C L2 (by omega) p2 (by omega) (by omega) hC p4 p5) (fun r hr => bSV hr p1 p3)
end
theorem bRX {l : List Tok} {g : Nat → Int → Int → Int → Int → List Nd → Option (List Nd × Int × Int × Int × Int)} {P : Int → Int → Int → (List Nd × Int × Int × Int × Int) → Prop} : Told l 0 g P := by
 intro i d e a C L h0 h1 m1 m2
 omega
theorem exprs {l : List Tok} (T : bRF l) : ∀ m : Nat, Told l m (fun n i d e a L => dY.f n l i d e a L) (bRJ l) ∧ Told l m (fun n i d e a L => iN.l0 n L l i d e a) (bRI l) ∧ Told l m (fun n i d e a L => iN.f n l i d e a L) (bRJ l) ∧ Told l m (fun n i d e a L => kT.l0 n L l i d e a) (bRI l) ∧ Told l m (fun n i d e a L => kT.f n l i d e a L) (bRJ l) ∧ Told l m (fun n i d e a L => fZ.f n l i d e a L) (bRJ l) := by
 intro m
 induction m with
 | zero => exact ⟨bRX, bRX, bRX, bRX, bRX, bRX⟩
 | succ m ih =>
  have e : (m : Int) = ((m + 1 : Nat) : Int) - 1 := by omega
  rw [e] at ih
  obtain ⟨u, tl, t, sl, s, x⟩ := ih
  have u' := bTg T u x
  have tl' := bTy T u tl
  have t' := bTz u' tl'
  have sl' := bTY T t sl
  have s' := bTZ t' sl'
  exact ⟨u', tl', t', sl', s', bTB T s' s⟩
theorem bSW {β : Type} {Q : β → Prop} {l : List Tok} {i d e a : Int} (T : bRF l) {F : Nat → (List Nd × Int × Int × Int × Int) → Option β} (h0 : 0 ≤ i) (h1 : i < l.length) (k : ∀ (L : List Nd) i' d' e' a', L.length ≤ 20000 → i ≤ i' → i' < l.length → (e' = 0 → e = 0 ∧ i < i') → EvP (fun n => F n (L, i', d', e', a')) Q) :
  EvP (fun n => (fZ.f n l i d e a []).bind (F n)) Q := by
 have T1 := T.1
 refine andThen ((exprs T 20000).2.2.2.2.2 i d e a 20000 [] h0 h1 (by omega) (by omega) (by omega) (by simp; omega) (by simp; omega)) (fun r hr => ?_)
 obtain ⟨L2, i2, d2, e2, a2, rfl, p1, p2, p3, p4, p5⟩ := hr
 exact k L2 i2 d2 e2 a2 (by omega) p1 p2 p3
abbrev Sm := mO
abbrev SmR := Int × Int × ByteArray × ByteArray × ByteArray × Bool × ByteArray × ByteArray × List Nd × List (List Nd) × List Sm × List Sm × Int × Int × Int × Int
def Sz (G : Sm → Prop) (x8 : List Nd) (x9 : List (List Nd)) (tX Xp : List Sm) : Prop := x8.length ≤ 20000 ∧ x9.length ≤ 20000 ∧ (∀ a ∈ x9, a.length ≤ 20000) ∧ (∀ s ∈ tX, G s) ∧ (∀ s ∈ Xp, G s)
inductive Gd : Sm → Prop
 | mk {s : Sm} : (s.f8).length ≤ 20000 → s.f9.length ≤ 20000 → (∀ a ∈ s.f9, a.length ≤ 20000) → (∀ t ∈ s.f10, Gd t) → (∀ t ∈ s.f11, Gd t) → Gd s
theorem Gd.of {s : Sm} (h : Sz Gd s.f8 s.f9 s.f10 s.f11) : Gd s := .mk h.1 h.2.1 h.2.2.1 h.2.2.2.1 h.2.2.2.2
theorem Gd.sz {s : Sm} (h : Gd s) : Sz Gd s.f8 s.f9 s.f10 s.f11 := by
 obtain ⟨a, b, c, d, e⟩ := h
 exact ⟨a, b, c, d, e⟩
theorem sz0 : Sz Gd [] [] [] [] := ⟨by simp, by simp, by simp, by simp, by simp⟩
theorem szE {L : List Nd} (h : L.length ≤ 20000) : Sz Gd L [] [] [] := ⟨h, by simp, by simp, by simp, by simp⟩
theorem szA {A : List (List Nd)} (h : A.length ≤ 20000) (k : ∀ a ∈ A, a.length ≤ 20000) : Sz Gd [] A [] [] := ⟨by simp, h, k, by simp, by simp⟩
theorem szB {L : List Nd} {B C : List Sm} (h : L.length ≤ 20000) (b : ∀ s ∈ B, Gd s) (c : ∀ s ∈ C, Gd s) : Sz Gd L [] B C := ⟨h, by simp, by simp, b, c⟩
theorem bTC : ∀ s ∈ ([] : List Sm), Gd s := fun _ h => by cases h
theorem bSE {A : List (List Nd)} {L : List Nd} (h : ∀ a ∈ A, a.length ≤ 20000) (k : L.length ≤ 20000) : ∀ a ∈ A ++ [L], a.length ≤ 20000 := by
 intro a ha
 rcases List.mem_append.mp ha with ha | ha
 ·
  exact h a ha
 ·
  obtain rfl := List.mem_singleton.mp ha
  exact k
def bTu (l : List Tok) (i e : Int) (r : SmR) : Prop := ∃ x0 x1 x2 x3 x4 x5 x6 x7 x8 x9 tX Xp i' d' e' a', r = (x0, x1, x2, x3, x4, x5, x6, x7, x8, x9, tX, Xp, i', d', e', a') ∧ Sz Gd x8 x9 tX Xp ∧ i ≤ i' ∧ i' < l.length ∧ (e' = 0 → e = 0)
def bSX (l : List Tok) (i e : Int) (r : SmR) : Prop := ∃ x0 x1 x2 x3 x4 x5 x6 x7 x8 x9 tX Xp i' d' e' a', r = (x0, x1, x2, x3, x4, x5, x6, x7, x8, x9, tX, Xp, i', d', e', a') ∧ Sz Gd x8 x9 tX Xp ∧ i ≤ i' ∧ i' < l.length ∧ (e' = 0 → e = 0 ∧ i < i')
theorem bTD {l : List Tok} (T : bRF l) : ∀ (m : Nat) (i d e a x0 x1 : Int) (x2 x3 x4 : ByteArray) (x5 : Bool) (x6 x7 : ByteArray) (A : List (List Nd)), 0 ≤ i → i < l.length → l.length - i ≤ m → A.length ≤ i → (∀ a ∈ A, a.length ≤ 20000) → EvP (fun n => gH.l0 n l i d e a x0 x1 x2 x3 x4 x5 x6 x7 A) (bTu l i e) := by
 have T1 := T.1
 intro m
 induction m with
 | zero =>
  intro i d e a x0 x1 x2 x3 x4 x5 x6 x7 A h0 h1 m1
  omega
 | succ m ih =>
  intro i d e a x0 x1 x2 x3 x4 x5 x6 x7 A h0 h1 m1 hA kA
  refine more ?_
  simp only [gH.l0]
  refine ways (fun he => ?_) (fun he => ?_)
  ·
   refine bSW T h0 h1 (fun L i2 d2 e2 a2 hL q1 q2 q3 => gate (by omega) (known rfl ?_))
   dsimp only
   refine bRE T (by omega) q2 (fun he2 hi => gate rfl ?_) (ways (fun z => absurd z Bool.false_ne_true) (fun _ => ?_))
   ·
    refine weaker (ih (i2 + 1) d2 e2 a2 x0 x1 x2 x3 x4 x5 x6 x7 _ (by omega) hi (by omega) zl (bSE kA hL)) (fun r hr => ?_)
    obtain ⟨y0, y1, y2, y3, y4, y5, y6, y7, y8, y9, uL, zX, i', d', e', a', rfl, p1, p2, p3, p4⟩ := hr
    exact ⟨_, _, _, _, _, _, _, _, _, _, _, _, _, _, _, _, rfl, p1, by omega, p3, fun _ => he⟩
   ·
    dsimp only
    refine bRD T (by omega) q2 (fun i3 e3 a3 t1 t2 t3 t4 => ?_)
    exact done ⟨_, _, _, _, _, _, _, _, _, _, _, _, _, _, _, _, rfl, szA zl (bSE kA hL), by omega, t3, fun _ => he⟩
  ·
   refine bRD T h0 h1 (fun i3 e3 a3 t1 t2 t3 t4 => ?_)
   exact done ⟨_, _, _, _, _, _, _, _, _, _, _, _, _, _, _, _, rfl, szA (by omega) kA, t1, t3, fun z => (t4 z).1⟩
theorem bSY {l : List Tok} (T : bRF l) (i d e a x0 x1 : Int) (x2 x3 x4 : ByteArray) (x5 : Bool) (x6 x7 y0 y1 : ByteArray) (h0 : 0 ≤ i) (h1 : i < l.length) : EvP (fun n => gH.j0 n y0 y1 l i d e a x0 x1 x2 x3 x4 x5 x6 x7) (bTu l i e) := by
 have T1 := T.1
 refine more ?_
 simp only [gH.j0]
 refine bRD T h0 h1 (fun i2 e2 a2 q1 q2 q3 q4 => ?_)
 dsimp only
 refine bSf T (by omega) q3 (fun he hi => gate rfl ?_) (ways (fun z => absurd z Bool.false_ne_true) (fun _ => ?_))
 ·
  dsimp only
  refine bRD T (by omega) q3 (fun i3 e3 a3 t1 t2 t3 t4 => ?_)
  exact done ⟨_, _, _, _, _, _, _, _, _, _, _, _, _, _, _, _, rfl, sz0, by omega, t3, fun z => (q4 (t4 z).1).1⟩
 ·
  dsimp only
  refine weaker (bTD T 20000 i2 d e2 a2 _ _ _ _ _ _ _ _ _ (by omega) q3 (by omega) (by simp; omega) (by simp)) (fun r hr => ?_)
  obtain ⟨y0, y1, y2, y3, y4, y5, y6, y7, y8, y9, uL, zX, i', d', e', a', rfl, p1, p2, p3, p4⟩ := hr
  exact ⟨_, _, _, _, _, _, _, _, _, _, _, _, _, _, _, _, rfl, p1, by omega, p3, fun z => (q4 (p4 z)).1⟩
theorem bSv {l : List Tok} (T : bRF l) (i d e a x0 x1 : Int) (x2 x3 x4 : ByteArray) (x5 : Bool) (x6 x7 : ByteArray) (h0 : 0 ≤ i) (h1 : i < l.length) : EvP (fun n => gH.f n l i d e a x0 x1 x2 x3 x4 x5 x6 x7) (bSX l i e) := by
 have T1 := T.1
 unfold gH.f
 refine bR2 T h0 h1 (fun s t i2 e2 a2 q1 q2 q3 => ?_)
 dsimp only
 refine bRE T (by omega) q2 (fun he hi => gate rfl ?_) (ways (fun z => absurd z Bool.false_ne_true) (fun _ => ?_))
 ·
  dsimp only
  refine bR2 T (by omega) hi (fun s t i3 e3 a3 t1 t2 t3 => ?_)
  refine weaker (bSY T i3 d e3 a3 _ _ _ _ _ _ _ _ _ _ (by omega) t2) (fun r hr => ?_)
  obtain ⟨y0, y1, y2, y3, y4, y5, y6, y7, y8, y9, uL, zX, i', d', e', a', rfl, p1, p2, p3, p4⟩ := hr
  exact ⟨_, _, _, _, _, _, _, _, _, _, _, _, _, _, _, _, rfl, p1, by omega, p3, fun z => ⟨(q3 he).1, by have := t3 (p4 z); omega⟩⟩
 ·
  dsimp only
  refine weaker (bSY T i2 d e2 a2 _ _ _ _ _ _ _ _ _ _ (by omega) q2) (fun r hr => ?_)
  obtain ⟨y0, y1, y2, y3, y4, y5, y6, y7, y8, y9, uL, zX, i', d', e', a', rfl, p1, p2, p3, p4⟩ := hr
  exact ⟨_, _, _, _, _, _, _, _, _, _, _, _, _, _, _, _, rfl, p1, by omega, p3, fun z => ⟨(q3 (p4 z)).1, by have := q3 (p4 z); omega⟩⟩
theorem bTE {β : Type} {Q : β → Prop} {l : List Tok} {i d e a x0 x1 : Int} {x2 x3 x4 : ByteArray} {x5 : Bool} {x6 x7 : ByteArray} (T : bRF l) {F : Nat → SmR → Option β} (h0 : 0 ≤ i) (h1 : i < l.length) (k : ∀ y0 y1 y2 y3 y4 y5 y6 y7 y8 y9 uL zX i' d' e' a', Sz Gd y8 y9 uL zX → i ≤ i' → i' < l.length → (e' = 0 → e = 0 ∧ i < i') → EvP (fun n => F n (y0, y1, y2, y3, y4, y5, y6, y7, y8, y9, uL, zX, i', d', e', a')) Q) :
  EvP (fun n => (gH.f n l i d e a x0 x1 x2 x3 x4 x5 x6 x7).bind (F n)) Q := by
 refine andThen (bSv T i d e a x0 x1 x2 x3 x4 x5 x6 x7 h0 h1) (fun r hr => ?_)
 obtain ⟨y0, y1, y2, y3, y4, y5, y6, y7, y8, y9, uL, zX, i', d', e', a', rfl, p1, p2, p3, p4⟩ := hr
 exact k _ _ _ _ _ _ _ _ _ _ _ _ _ _ _ _ p1 p2 p3 p4
def bTF (l : List Tok) (i e : Int) (r : List Sm × Int × Int × Int × Int) : Prop := ∃ B i' d' e' a', r = (B, i', d', e', a') ∧ (∀ s ∈ B, Gd s) ∧ i ≤ i' ∧ i' < l.length ∧ (e' = 0 → e = 0 ∧ i < i')
def bRY (l : List Tok) (m : Int) : Prop := ∀ i d e a : Int, 0 ≤ i → i < l.length → (e = 0 → l.length - i + 1 ≤ m) → l.length - i ≤ m → EvP (fun n => fO.f n l i d e a) (bTF l i e)
theorem bSF {β : Type} {Q : β → Prop} {l : List Tok} {m : Int} {i d e a : Int} (H : bRY l m) {F : Nat → (List Sm × Int × Int × Int × Int) → Option β} (h0 : 0 ≤ i) (h1 : i < l.length) (m1 : e = 0 → l.length - i + 1 ≤ m) (m2 : l.length - i ≤ m) (k : ∀ B i' d' e' a', (∀ s ∈ B, Gd s) → i ≤ i' → i' < l.length → (e' = 0 → e = 0 ∧ i < i') → EvP (fun n => F n (B, i', d', e', a')) Q) :
  EvP (fun n => (fO.f n l i d e a).bind (F n)) Q := by
 refine andThen (H i d e a h0 h1 m1 m2) (fun r hr => ?_)
 obtain ⟨B, i', d', e', a', rfl, p1, p2, p3, p4⟩ := hr
 exact k _ _ _ _ _ p1 p2 p3 p4
theorem bSZ {l : List Tok} {m : Int} (T : bRF l) (H : bRY l (m - 1)) (b : Bool) (i d e a x0 x1 : Int) (x2 x3 x4 : ByteArray) (x5 : Bool) (x6 x7 : ByteArray) (h0 : 0 ≤ i) (h1 : i < l.length) (m1 : e = 0 → l.length - i + 1 ≤ m) (m2 : l.length - i ≤ m) : EvP (fun n => bU.j0 n b l i d e a x0 x1 x2 x3 x4 x5 x6 x7) (bSX l i e) := by
 have T1 := T.1
 refine more ?_
 simp only [bU.j0]
 refine ways (fun _ => ?_) (fun _ => ?_)
 all_goals repeat' first
  | (with_reducible refine bRD T (by omega) (by omega) (fun _ _ _ _ _ _ _ => ?_); dsimp only)
  | (with_reducible refine bRK T (by omega) (by omega) (fun _ _ _ _ _ _ _ _ => ?_); dsimp only)
  | (with_reducible refine bR2 T (by omega) (by omega) (fun _ _ _ _ _ _ _ _ => ?_); dsimp only)
  | (with_reducible refine bRL (by omega) (by omega) ?_; dsimp only)
  | (with_reducible refine bRP (by omega) (by omega) (by omega) (fun _ _ _ => ?_); dsimp only)
  | (with_reducible refine bSW T (by omega) (by omega) (fun _ _ _ _ _ _ _ _ _ => ?_); dsimp only)
  | (with_reducible refine bTE T (by omega) (by omega) (fun _ _ _ _ _ _ _ _ _ _ _ _ _ _ _ _ _ _ _ _ => ?_); dsimp only)
  | (with_reducible refine bSF H (by omega) (by omega) (by omega) (by omega) (fun _ _ _ _ _ _ _ _ _ => ?_); dsimp only)
  | (with_reducible refine bRE T (by omega) (by omega) (fun _ _ => gate rfl ?_) (ways (fun z => absurd z Bool.false_ne_true) (fun _ => ?_)) <;> dsimp only)
  | exact done ⟨_, _, _, _, _, _, _, _, _, _, _, _, _, _, _, _, rfl, by first | assumption | exact sz0 | exact szE (by assumption) | exact szB (by assumption) (by assumption) bTC | exact szB (by assumption) (by assumption) (by assumption), by omega, by omega, fun z => by omega⟩
theorem bSw {l : List Tok} {m : Int} (T : bRF l) (H : bRY l (m - 1)) (i d e a : Int) (h0 : 0 ≤ i) (h1 : i < l.length) (m1 : e = 0 → l.length - i + 1 ≤ m) (m2 : l.length - i ≤ m) : EvP (fun n => bU.f n l i d e a) (bSX l i e) := by
 refine more ?_
 simp only [bU.f]
 refine bRL h0 h1 ?_
 dsimp only
 exact ways (fun he => gate h0 (gate h1 (bSZ T H _ i d e a _ _ _ _ _ _ _ _ h0 h1 m1 m2))) (fun he => bSZ T H _ i d e a _ _ _ _ _ _ _ _ h0 h1 m1 m2)
def bSh (l : List Tok) (m : Int) : Prop := ∀ (B : List Sm) (i d e a : Int), 0 ≤ i → i < l.length → (e = 0 → l.length - i + 1 ≤ m) → l.length - i ≤ m → B.length ≤ i + 1 → (e = 0 → B.length ≤ i) → (∀ s ∈ B, Gd s) →
 EvP (fun n => fO.l0 n B l i d e a) (fun r => ∃ B' i' d' e' a', r = (B', i', d', e', a') ∧ (∀ s ∈ B', Gd s) ∧ i ≤ i' ∧ i' < l.length ∧ (e' = 0 → e = 0))
theorem bTh {l : List Tok} {m : Int} (T : bRF l) (H : bRY l (m - 1)) (ih : bSh l (m - 1)) : bSh l m := by
 have T1 := T.1
 intro B i d e a h0 h1 m1 m2 b1 b2 b3
 refine more ?_
 simp only [fO.l0]
 refine ways (fun he => ?_) (fun he => ?_)
 ·
  refine bSf T h0 h1 (fun _ hi => gate rfl ?_) (ways (fun z => absurd z Bool.false_ne_true) (fun _ => ?_))
  ·
   dsimp only
   refine bRD T h0 h1 (fun i3 e3 a3 t1 t2 t3 t4 => ?_)
   exact done ⟨_, _, _, _, _, rfl, b3, t1, t3, fun _ => he⟩
  ·
   dsimp only
   refine andThen (bSw T H i d e a h0 h1 m1 m2) (fun r hr => ?_)
   obtain ⟨y0, y1, y2, y3, y4, y5, y6, y7, y8, y9, uL, zX, i', d', e', a', rfl, p1, p2, p3, p4⟩ := hr
   dsimp only
   refine gate (by omega) (weaker (ih _ i' d' e' a' (by omega) p3 (by omega) (by omega) zl zl ?_) (fun r hr => ?_))
   ·
    intro s hs
    rcases List.mem_append.mp hs with hs | hs
    ·
     exact b3 s hs
    ·
     obtain rfl := List.mem_singleton.mp hs
     exact Gd.of p1
   ·
    obtain ⟨B', i2, d2, e2, a2, rfl, k1, k2, k3, k4⟩ := hr
    exact ⟨_, _, _, _, _, rfl, k1, by omega, k3, fun _ => he⟩
 ·
  refine bRD T h0 h1 (fun i3 e3 a3 t1 t2 t3 t4 => ?_)
  exact done ⟨_, _, _, _, _, rfl, b3, t1, t3, fun z => (t4 z).1⟩
theorem bTi {l : List Tok} {m : Int} (T : bRF l) (H : bSh l m) : bRY l m := by
 intro i d e a h0 h1 m1 m2
 refine more ?_
 simp only [fO.f]
 refine bSg T h0 h1 (fun i2 d2 e2 a2 q1 q2 q3 q4 => ?_)
 dsimp only
 refine weaker (H [] i2 d2 e2 a2 (by omega) q3 (by omega) (by omega) (by simp; omega) (by simp; omega) (by simp)) (fun r hr => ?_)
 obtain ⟨B', i', d', e', a', rfl, k1, k2, k3, k4⟩ := hr
 exact ⟨_, _, _, _, _, rfl, k1, by omega, k3, fun z => by have := q4 (k4 z); omega⟩
theorem blocks {l : List Tok} (T : bRF l) : ∀ m : Nat, bRY l m ∧ bSh l m := by
 intro m
 induction m with
 | zero => exact ⟨fun i d e a h0 h1 m1 m2 => by omega, fun B i d e a h0 h1 m1 m2 => by omega⟩
 | succ m ih =>
  have e : (m : Int) = ((m + 1 : Nat) : Int) - 1 := by omega
  rw [e] at ih
  have bl := bTh T ih.1 ih.2
  exact ⟨bTi T bl, bl⟩
theorem bSi {β : Type} {Q : β → Prop} {l : List Tok} {i d e a : Int} (T : bRF l) {F : Nat → (List Sm × Int × Int × Int × Int) → Option β} (h0 : 0 ≤ i) (h1 : i < l.length) (k : ∀ B i' d' e' a', (∀ s ∈ B, Gd s) → i ≤ i' → i' < l.length → (e' = 0 → e = 0 ∧ i < i') → EvP (fun n => F n (B, i', d', e', a')) Q) :
  EvP (fun n => (fO.f n l i d e a).bind (F n)) Q := by
 have T1 := T.1
 exact bSF (blocks T 20000).1 h0 h1 (by omega) (by omega) k
def bS0 (l : List Tok) (i e : Int) (r : ByteArray × ByteArray × Int × Int × Int × Int × Int × Int) : Prop := ∃ s t v x i' d' e' a', r = (s, t, v, x, i', d', e', a') ∧ i ≤ i' ∧ i' < l.length ∧ (e' = 0 → e = 0)
theorem bR5 {l : List Tok} (T : bRF l) (g b : Bool) (i d e a : Int) (x1 x2 : ByteArray) (x3 x4 k0 : Int) (s : ByteArray) (k2 : Int) (h0 : 0 ≤ i) (h1 : i < l.length) (hb : b = false → i + 1 < l.length ∧ s.size ≤ 10000) : EvP (fun n => eB.j0 n g b l i d e a x1 x2 x3 x4 k0 s k2) (bS0 l i e) := by
 have T1 := T.1
 refine more ?_
 simp only [eB.j0]
 refine ways (fun _ => ?_) (fun hf => ?_)
 ·
  refine bRP (by omega) h0 h1 (fun e' a' he' => ?_)
  exact done ⟨_, _, _, _, _, _, _, _, rfl, by omega, h1, fun z => absurd z he'⟩
 ·
  obtain ⟨k1, k3⟩ := hb (by simpa using hf)
  rw [w64 (n := i + 1) (by omega) (by omega)]
  refine bTs k3 (fun v => ways (fun _ => ?_) (fun _ => ?_))
  ·
   refine bRD T (by omega) k1 (fun i3 e3 a3 t1 t2 t3 t4 => ?_)
   exact done ⟨_, _, _, _, _, _, _, _, rfl, by omega, t3, fun z => (t4 z).1⟩
  ·
   refine bRD T (by omega) k1 (fun i3 e3 a3 t1 t2 t3 t4 => ?_)
   exact done ⟨_, _, _, _, _, _, _, _, rfl, by omega, t3, fun z => (t4 z).1⟩
theorem bSx {l : List Tok} (T : bRF l) (i d e a : Int) (h0 : 0 ≤ i) (h1 : i < l.length) : EvP (fun n => eB.f n l i d e a) (bS0 l i e) := by
 have T1 := T.1
 unfold eB.f
 refine bRL h0 h1 ?_
 dsimp only
 refine bRK T h0 h1 (fun s1 i1 e1 a1 p1 p2 p3 p4 => ?_)
 dsimp only
 refine bRD T (by omega) p3 (fun i2 e2 a2 q1 q2 q3 q4 => ?_)
 dsimp only
 refine bRK T (by omega) q3 (fun s3 i3 e3 a3 r1 r2 r3 r4 => ?_)
 dsimp only
 refine bRD T (by omega) r3 (fun i4 e4 a4 t1 t2 t3 t4 => ?_)
 dsimp only
 have rest : ∀ (g : Bool) (i5 : Int) (x1 x2 : ByteArray) (x3 x4 : Int), i4 ≤ i5 → i5 < l.length → EvP (fun n => if 0 ≤ i5 then (if i5 < (l.length : Int) then (if e4 = 0 then (eB.j0 n g (((cK l i5).f0) != 2) l i5 d e4 a4 x1 x2 x3 x4 ((cK l i5).f0) ((cK l i5).f1) ((cK l i5).f2)) else (eB.j0 n g true l i5 d e4 a4 x1 x2 x3 x4 ((cK l i5).f0) ((cK l i5).f1) ((cK l i5).f2))) else none) else none) (bS0 l i e) := by
  intro g i5 x1 x2 x3 x4 w1 w2
  have back : ∀ r, bS0 l i5 e4 r → bS0 l i e r := by
   intro r hr
   obtain ⟨s, t, v, x, i', d', e', a', rfl, k1, k2, k3⟩ := hr
   exact ⟨_, _, _, _, _, _, _, _, rfl, by omega, k2, fun z => (p4 (q4 (r4 (t4 (k3 z)).1).1).1).1⟩
  refine gate (by omega) (gate w2 (ways (fun he => ?_) (fun he => ?_)))
  ·
   refine weaker (bR5 T g _ i5 d e4 a4 x1 x2 x3 x4 _ _ _ (by omega) w2 (fun hb => ⟨T.2.1 i5 (by omega) w2 ?_, T.2.2 i5 (by omega) w2⟩)) back
   have := bne_eq_false_iff_eq.mp hb
   omega
  ·
   exact weaker (bR5 T g true i5 d e4 a4 x1 x2 x3 x4 _ _ _ (by omega) w2 (fun hb => by cases hb)) back
 refine bRE T (by omega) t3 (fun _ hi => ?_) ?_
 ·
  exact rest true (i4 + 1) _ _ _ _ (by omega) hi
 ·
  exact rest false i4 _ _ _ _ (by omega) t3
abbrev Pm := Ha
abbrev PrR := ByteArray × List Pm × Bool × ByteArray × ByteArray × List ByteArray × List Sm × Int × Int × Int × Int × Int
def bR6 (l : List Tok) (i e : Int) (r : PrR) : Prop := ∃ x0 x1 x2 x3 x4 x5 x6 x7 i' d' e' a', r = (x0, x1, x2, x3, x4, x5, x6, x7, i', d', e', a') ∧ (x1.length ≤ 20000 ∧ ∀ s ∈ x6, Gd s) ∧ i ≤ i' ∧ i' < l.length ∧ (e' = 0 → e = 0)
theorem bRG {l : List Tok} {i e i2 e2 : Int} {r : PrR} (h : bR6 l i2 e2 r) (hi : i ≤ i2) (he : e2 = 0 → e = 0) : bR6 l i e r := by
 obtain ⟨x0, x1, x2, x3, x4, x5, x6, x7, i', d', e', a', rfl, k1, k2, k3, k4⟩ := h
 exact ⟨x0, x1, x2, x3, x4, x5, x6, x7, i', d', e', a', rfl, k1, by omega, k3, fun z => he (k4 z)⟩
theorem bTj {l : List Tok} (T : bRF l) : ∀ (m : Nat) (i d e a : Int) (x0 : ByteArray) (x1 : List Pm) (x2 : Bool) (x3 x4 : ByteArray) (U : List ByteArray) (x7 : Int), x1.length ≤ 20000 → 0 ≤ i → i < l.length → l.length - i ≤ m → U.length ≤ i → EvP (fun n => dW.l1 n l i d e a x0 x1 x2 x3 x4 U x7) (bR6 l i e) := by
 have T1 := T.1
 intro m
 induction m with
 | zero =>
  intro i d e a x0 x1 x2 x3 x4 U x7 hx h0 h1 m1
  omega
 | succ m ih =>
  intro i d e a x0 x1 x2 x3 x4 U x7 hx h0 h1 m1 hU
  refine more ?_
  simp only [dW.l1]
  refine ways (fun he => ?_) (fun he => ?_)
  ·
   refine bRK T h0 h1 (fun s i2 e2 a2 q1 q2 q3 q4 => gate (by omega) (known rfl ?_))
   dsimp only
   refine bRE T (by omega) q3 (fun he2 hi => gate rfl ?_) (ways (fun z => absurd z Bool.false_ne_true) (fun _ => ?_))
   ·
    exact weaker (ih (i2 + 1) d e2 a2 x0 x1 x2 x3 x4 _ x7 hx (by omega) hi (by omega) zl) (fun r hr => bRG hr (by omega) (fun _ => he))
   ·
    dsimp only
    refine bRD T (by omega) q3 (fun i3 e3 a3 t1 t2 t3 t4 => ?_)
    dsimp only
    refine bSi T (by omega) t3 (fun B i4 d4 e4 a4 k1 k2 k3 k4 => ?_)
    dsimp only
    exact done ⟨_, _, _, _, _, _, _, _, _, _, _, _, rfl, ⟨hx, k1⟩, by omega, k3, fun _ => he⟩
  ·
   refine bRD T h0 h1 (fun i3 e3 a3 t1 t2 t3 t4 => ?_)
   dsimp only
   refine bSi T (by omega) t3 (fun B i4 d4 e4 a4 k1 k2 k3 k4 => ?_)
   dsimp only
   exact done ⟨_, _, _, _, _, _, _, _, _, _, _, _, rfl, ⟨hx, k1⟩, by omega, k3, fun z => (t4 (k4 z).1).1⟩
theorem bSG {l : List Tok} (T : bRF l) (i d e a : Int) (x0 : ByteArray) (x1 : List Pm) (x2 : Bool) (x3 x4 : ByteArray) (x7 : Int) (hx : x1.length ≤ 20000) (h0 : 0 ≤ i) (h1 : i < l.length) : EvP (fun n => dW.j2 n l i d e a x0 x1 x2 x3 x4 x7) (bR6 l i e) := by
 have T1 := T.1
 refine more ?_
 simp only [dW.j2]
 refine bRD T h0 h1 (fun i1 e1 a1 p1 p2 p3 p4 => ?_)
 dsimp only
 refine bRK T (by omega) p3 (fun s i2 e2 a2 q1 q2 q3 q4 => ?_)
 dsimp only
 refine bRD T (by omega) q3 (fun i3 e3 a3 r1 r2 r3 r4 => ?_)
 dsimp only
 refine bRD T (by omega) r3 (fun i4 e4 a4 t1 t2 t3 t4 => ?_)
 dsimp only
 have hz : e4 = 0 → e = 0 := fun z => (p4 (q4 (r4 (t4 z).1).1).1).1
 refine bSf T (by omega) t3 (fun _ hi => gate rfl ?_) (ways (fun z => absurd z Bool.false_ne_true) (fun _ => ?_))
 ·
  dsimp only
  refine bRD T (by omega) t3 (fun i5 e5 a5 u1 u2 u3 u4 => ?_)
  dsimp only
  refine bSi T (by omega) u3 (fun B i6 d6 e6 a6 k1 k2 k3 k4 => ?_)
  dsimp only
  exact done ⟨_, _, _, _, _, _, _, _, _, _, _, _, rfl, ⟨hx, k1⟩, by omega, k3, fun z => hz (u4 (k4 z).1).1⟩
 ·
  exact weaker (bTj T 20000 i4 d e4 a4 _ _ _ _ _ _ _ hx (by omega) t3 (by omega) (by simp; omega)) (fun r hr => bRG hr (by omega) hz)
theorem bSj {l : List Tok} (T : bRF l) (i d e a : Int) (x0 : ByteArray) (x1 : List Pm) (x2 : Bool) (x3 x4 : ByteArray) (x7 : Int) (hx : x1.length ≤ 20000) (h0 : 0 ≤ i) (h1 : i < l.length) : EvP (fun n => dW.j1 n l i d e a x0 x1 x2 x3 x4 x7) (bR6 l i e) := by
 refine more ?_
 simp only [dW.j1]
 refine bRD T h0 h1 (fun i1 e1 a1 p1 p2 p3 p4 => ?_)
 dsimp only
 refine bRE T (by omega) p3 (fun he hi => gate rfl ?_) (ways (fun z => absurd z Bool.false_ne_true) (fun _ => ?_))
 ·
  dsimp only
  refine bRK T (by omega) hi (fun s i2 e2 a2 q1 q2 q3 q4 => ?_)
  exact weaker (bSG T i2 d e2 a2 _ _ _ _ _ _ hx (by omega) q3) (fun r hr => bRG hr (by omega) (fun z => (p4 (q4 z).1).1))
 ·
  exact weaker (bSG T i1 d e1 a1 _ _ _ _ _ _ hx (by omega) p3) (fun r hr => bRG hr (by omega) (fun z => (p4 z).1))
theorem bTk {l : List Tok} (T : bRF l) : ∀ (m : Nat) (i d e a : Int) (x0 : ByteArray) (P : List Pm) (x2 : Bool) (x3 x4 : ByteArray) (x7 : Int), 0 ≤ i → i < l.length → l.length - i ≤ m → P.length ≤ i → EvP (fun n => dW.l0 n l i d e a x0 P x2 x3 x4 x7) (bR6 l i e) := by
 have T1 := T.1
 intro m
 induction m with
 | zero =>
  intro i d e a x0 P x2 x3 x4 x7 h0 h1 m1
  omega
 | succ m ih =>
  intro i d e a x0 P x2 x3 x4 x7 h0 h1 m1 hP
  refine more ?_
  simp only [dW.l0]
  refine ways (fun he => ?_) (fun he => bSj T i d e a _ _ _ _ _ _ (by omega) h0 h1)
  refine bRL h0 h1 ?_
  dsimp only
  refine bRK T h0 h1 (fun s i1 e1 a1 p1 p2 p3 p4 => ?_)
  dsimp only
  refine bRD T (by omega) p3 (fun i2 e2 a2 q1 q2 q3 q4 => ?_)
  dsimp only
  refine bRK T (by omega) q3 (fun t i3 e3 a3 r1 r2 r3 r4 => gate (by omega) (known rfl ?_))
  dsimp only
  refine bRE T (by omega) r3 (fun he2 hi => gate rfl ?_) (ways (fun z => absurd z Bool.false_ne_true) (fun _ => ?_))
  ·
   exact weaker (ih (i3 + 1) d e3 a3 _ _ _ _ _ _ (by omega) hi (by omega) zl) (fun r hr => bRG hr (by omega) (fun _ => he))
  ·
   exact weaker (bSj T i3 d e3 a3 _ _ _ _ _ _ zl (by omega) r3) (fun r hr => bRG hr (by omega) (fun _ => he))
theorem bTG {l : List Tok} (T : bRF l) (i d e a : Int) (h0 : 0 ≤ i) (h1 : i < l.length) : EvP (fun n => dW.f n l i d e a) (bR6 l i e) := by
 have T1 := T.1
 unfold dW.f
 refine bRL h0 h1 ?_
 dsimp only
 refine bRK T h0 h1 (fun s i1 e1 a1 p1 p2 p3 p4 => ?_)
 dsimp only
 refine bRD T (by omega) p3 (fun i2 e2 a2 q1 q2 q3 q4 => ?_)
 dsimp only
 have hz : e2 = 0 → e = 0 := fun z => (p4 (q4 z).1).1
 refine bSf T (by omega) q3 (fun _ hi => gate rfl ?_) (ways (fun z => absurd z Bool.false_ne_true) (fun _ => ?_))
 ·
  exact weaker (bSj T i2 d e2 a2 _ _ _ _ _ _ (by simp) (by omega) q3) (fun r hr => bRG hr (by omega) hz)
 ·
  exact weaker (bTk T 20000 i2 d e2 a2 _ _ _ _ _ _ (by omega) q3 (by omega) (by simp; omega)) (fun r hr => bRG hr (by omega) hz)
abbrev Im := Xg
abbrev Vr := Qf
abbrev Pr := Cg
abbrev MoR := ByteArray × Int × List Im × List Vr × List Pr × Int × Int × Int × Int
def bRH (P : List Pr) : Prop := ∀ p ∈ P, p.f1.length ≤ 20000 ∧ ∀ s ∈ p.f6, Gd s
def bTl (r : MoR) : Prop := bRH r.2.2.2.2.1 ∧ r.2.2.2.1.length ≤ 20000 ∧ r.2.2.2.2.1.length ≤ 20000
theorem bS1 {P : List Pr} {p : Pr} (h : bRH P) (hp : p.f1.length ≤ 20000 ∧ ∀ s ∈ p.f6, Gd s) : bRH (P ++ [p]) := by
 intro q hq
 rcases List.mem_append.mp hq with hq | hq
 ·
  exact h q hq
 ·
  obtain rfl := List.mem_singleton.mp hq
  exact hp
def bT0 (l : List Tok) (m : Int) : Prop := ∀ (i d e a : Int) (x0 : ByteArray) (x1 : Int) (I : List Im) (V : List Vr) (P : List Pr), 0 ≤ i → i < l.length → (e = 0 → l.length - i + 1 ≤ m) → l.length - i ≤ m → (V.length ≤ i + 1 ∧ P.length ≤ i + 1) → bRH P → EvP (fun n => bH.l1 n l i d e a x0 x1 I V P) bTl
theorem bS2 {l : List Tok} {m : Int} (T : bRF l) (ih : bT0 l (m - 1)) (b : Bool) (i d e a : Int) (x0 : ByteArray) (x1 : Int) (I : List Im) (V : List Vr) (P : List Pr) (h0 : 0 ≤ i) (h1 : i < l.length) (m1 : e = 0 → l.length - i + 1 ≤ m) (m2 : l.length - i ≤ m) (hv : V.length ≤ i + 1 ∧ P.length ≤ i + 1) (hp : bRH P) (hb : b = true → e = 0) : EvP (fun n => bH.j2 n b l i d e a x0 x1 I V P) bTl := by
 have T1 := T.1
 refine more ?_
 simp only [bH.j2]
 refine ways (fun hb2 => ?_) (fun _ => done ⟨hp, by show V.length ≤ 20000; omega, by show P.length ≤ 20000; omega⟩)
 have he := hb hb2
 refine bRE T h0 h1 (fun _ hi => gate rfl ?_) (ways (fun z => absurd z Bool.false_ne_true) (fun _ => ?_))
 ·
  dsimp only
  refine andThen (bSx T (i + 1) d e a (by omega) hi) (fun r hr => ?_)
  obtain ⟨s, t, v, x, i', d', e', a', rfl, k1, k2, k3⟩ := hr
  dsimp only
  exact gate (by omega) (ih i' d' e' a' _ _ _ _ _ (by omega) k2 (by omega) (by omega) zl hp)
 ·
  dsimp only
  refine bRE T h0 h1 (fun _ hi => gate rfl ?_) (ways (fun z => absurd z Bool.false_ne_true) (fun _ => ?_))
  ·
   dsimp only
   refine andThen (bTG T (i + 1) d e a (by omega) hi) (fun r hr => ?_)
   obtain ⟨y0, y1, y2, y3, y4, y5, y6, y7, i', d', e', a', rfl, k1, k2, k3, k4⟩ := hr
   dsimp only
   exact gate (by omega) (ih i' d' e' a' _ _ _ _ _ (by omega) k3 (by omega) (by omega) zl (bS1 hp k1))
  ·
   dsimp only
   refine bRP (by omega) h0 h1 (fun e' a' he' => ?_)
   dsimp only
   exact ih i d e' a' _ _ _ _ _ h0 h1 (fun z => absurd z he') (by omega) hv hp
theorem bTH {l : List Tok} (T : bRF l) : ∀ m : Nat, bT0 l m := by
 intro m
 induction m with
 | zero =>
  intro i d e a x0 x1 I V P h0 h1 m1 m2
  omega
 | succ m ih =>
  have em : (m : Int) = ((m + 1 : Nat) : Int) - 1 := by omega
  rw [em] at ih
  intro i d e a x0 x1 I V P h0 h1 m1 m2 hv hp
  refine more ?_
  simp only [bH.l1]
  exact ways (fun he => gate h0 (gate h1 (bS2 T ih _ i d e a _ _ _ _ _ h0 h1 m1 m2 hv hp (fun _ => he)))) (fun he => bS2 T ih _ i d e a _ _ _ _ _ h0 h1 m1 m2 hv hp (fun z => by cases z))
theorem bTI {l : List Tok} (T : bRF l) : ∀ (m : Nat) (i d e a : Int) (x0 : ByteArray) (x1 : Int) (I : List Im), 0 ≤ i → i < l.length → l.length - i ≤ m → I.length ≤ i → EvP (fun n => bH.l0 n l i d e a x0 x1 I) bTl := by
 have T1 := T.1
 intro m
 induction m with
 | zero =>
  intro i d e a x0 x1 I h0 h1 m1
  omega
 | succ m ih =>
  intro i d e a x0 x1 I h0 h1 m1 hI
  refine more ?_
  simp only [bH.l0]
  refine bRE T h0 h1 (fun _ hi => gate rfl ?_) (ways (fun z => absurd z Bool.false_ne_true) (fun _ => ?_))
  ·
   dsimp only
   refine bRL (by omega) hi ?_
   dsimp only
   refine bRK T (by omega) hi (fun s i1 e1 a1 p1 p2 p3 p4 => gate (by omega) ?_)
   dsimp only
   refine bRD T (by omega) p3 (fun i2 e2 a2 q1 q2 q3 q4 => ?_)
   dsimp only
   exact ih i2 d e2 a2 _ _ _ (by omega) q3 (by omega) zl
  ·
   dsimp only
   exact bTH T 20000 i d e a _ _ _ _ _ h0 h1 (by omega) (by omega) (by simp; omega) (by intro p hp; cases hp)
theorem bS3 {l : List Tok} (T : bRF l) (hl : 0 < l.length) : EvP (fun n => bH.f n l 0 0 0 0) bTl := by
 have T1 := T.1
 unfold bH.f
 refine bRD T (by omega) (by omega) (fun i1 e1 a1 p1 p2 p3 p4 => ?_)
 dsimp only
 refine bRL (by omega) p3 ?_
 dsimp only
 refine bRK T (by omega) p3 (fun s i2 e2 a2 q1 q2 q3 q4 => ?_)
 dsimp only
 refine bRD T (by omega) q3 (fun i3 e3 a3 r1 r2 r3 r4 => ?_)
 dsimp only
 exact bTI T 20000 i3 0 e3 a3 _ _ _ (by omega) r3 (by omega) (by simp; omega)
end bRC
namespace bRC
def bR7 (r : List Tok × Int × Int) : Prop := r.2.1 = 0 → bRF r.1 ∧ 0 < r.1.length
theorem bSk (s : ByteArray) (a b : Nat) : (s.extract a b).size ≤ s.size := by
 rw [ByteArray.size_extract]
 omega
theorem bSO (t : ByteArray) (h : ¬ t.toList = ([] : List UInt8)) : 1 ≤ t.size := by
 refine Nat.pos_of_ne_zero (fun z => h ?_)
 rw [Lib.toList_data]
 have : t.data.size = 0 := z
 rw [Array.size_eq_zero_iff.mp this]
section
variable {β : Type} {Q : β → Prop} {s : ByteArray} {i c : Int}
theorem bR8 {F : Nat → Bool → Option β} (k : ∀ b, kD.f c = some b → EvP (fun n => F n b) Q) : EvP (fun n => (kD.f c).bind (F n)) Q := by
 obtain ⟨b, hb⟩ : ∃ b, kD.f c = some b := by
  unfold kD.f
  split <;> exact ⟨_, rfl⟩
 exact known hb (k b hb)
theorem bSl {F : Nat → Bool → Option β} (k : ∀ b, qV.f c = some b → EvP (fun n => F n b) Q) : EvP (fun n => (qV.f c).bind (F n)) Q := by
 obtain ⟨b, hb⟩ : ∃ b, qV.f c = some b := by
  unfold qV.f
  split <;> exact ⟨_, rfl⟩
 exact known hb (k b hb)
theorem bT1 {F : Nat → Bool → Option β} (k : ∀ b, EvP (fun n => F n b) Q) : EvP (fun n => (Ol.f s).bind (F n)) Q := by
 obtain ⟨b, hb⟩ : ∃ b, Ol.f s = some b := by
  have one : ∀ {c : Prop} [Decidable c] {e : Option Bool}, (∃ b, e = some b) → ∃ b, (if c then some true else e) = some b := by
   intro c _ e h
   split
   ·
    exact ⟨_, rfl⟩
   ·
    exact h
  unfold Ol.f
  repeat refine one ?_
  exact ⟨_, rfl⟩
 exact known hb (k b)
theorem bS4 (hs : s.size ≤ 8192) (h0 : 0 ≤ i) (h1 : i < s.size) : EvP (fun n => jF.j0 n s i) (fun t => t.size ≤ 8192) := by
 refine more ?_
 simp only [jF.j0]
 rw [w64 (n := i + 1) (by omega) (by omega)]
 have he : ∀ a b : Nat, (s.extract a b).size ≤ 8192 := fun a b => Nat.le_trans (bSk s a b) hs
 refine gate h0 (gate h1 ?_)
 repeat' first
  | exact done (he _ _)
  | exact done (by decide)
  | with_reducible refine gate (by omega) ?_
  | with_reducible refine ways (fun _ => ?_) (fun _ => ?_)
theorem bTJ (hs : s.size ≤ 8192) (h0 : 0 ≤ i) (h1 : i < s.size) {F : Nat → ByteArray → Option β} (k : ∀ t, t.size ≤ 8192 → EvP (fun n => F n t) Q) : EvP (fun n => (jF.f n s i).bind (F n)) Q := by
 have h : EvP (fun n => jF.f n s i) (fun t => t.size ≤ 8192) := by
  unfold jF.f
  rw [w64 (n := i + 1) (by omega) (by omega), w64 (n := i + 2) (by omega) (by omega)]
  have he : ∀ a b : Nat, (s.extract a b).size ≤ 8192 := fun a b => Nat.le_trans (bSk s a b) hs
  refine ways (fun _ => gate h0 (gate (by omega) (gate (by omega) ?_))) (fun _ => bS4 hs h0 h1)
  repeat' first
   | exact done (he _ _)
   | exact bS4 hs h0 h1
   | with_reducible refine ways (fun _ => ?_) (fun _ => ?_)
 exact andThen h k
end
def bRN (s : ByteArray) (x5 : List Tok) (x : Int) : Prop := 0 ≤ x ∧ x ≤ 20000 ∧ x5.length ≤ x ∧ x5.length ≤ s.size ∧ ∀ t ∈ x5, t.f1.size ≤ 8192
theorem bR9 {s : ByteArray} {x5 : List Tok} {x y : Int} (h : bRN s x5 x) (h1 : x ≤ y) (h2 : y ≤ 20000) : bRN s x5 y := by
 obtain ⟨a, b, c, d, e⟩ := h
 exact ⟨by omega, h2, by omega, d, e⟩
theorem bRS {s : ByteArray} {x5 : List Tok} {x y : Int} {t : Tok} (h : bRN s x5 x) (h0 : x < s.size) (h1 : x < y) (h2 : y ≤ 20000) (ht : t.f1.size ≤ 8192) : bRN s (x5 ++ [t]) y := by
 obtain ⟨a, b, c, d, e⟩ := h
 refine ⟨by omega, h2, by simp only [List.length_append, List.length_singleton]; omega, by simp only [List.length_append, List.length_singleton]; omega, ?_⟩
 intro q hq
 rcases List.mem_append.mp hq with hq | hq
 ·
  exact e q hq
 ·
  obtain rfl := List.mem_singleton.mp hq
  exact ht
def bSa (s : ByteArray) (m : Int) : Prop := ∀ (x5 : List Tok) (x : Int), bRN s x5 x → s.size - x ≤ m → EvP (fun n => dC.l0 n s x5 x) bR7
theorem bSn {s : ByteArray} {x5 : List Tok} {x : Int} (hs : s.size ≤ 8192) (h : bRN s x5 x) : bR7 (x5 ++ [⟨0, ⟨#[]⟩, (s.size : Int)⟩], 0, 0) := by
 obtain ⟨a, b, c, d, e⟩ := h
 intro _
 show bRF (x5 ++ [(⟨0, ⟨#[]⟩, (s.size : Int)⟩ : Tok)]) ∧ 0 < (x5 ++ [(⟨0, ⟨#[]⟩, (s.size : Int)⟩ : Tok)]).length
 refine ⟨⟨by simp only [List.length_append, List.length_singleton]; omega, ?_, ?_⟩, by simp⟩
 ·
  intro j j0 j1 hk
  simp only [List.length_append, List.length_singleton] at j1 ⊢
  refine Decidable.byContradiction (fun hn => hk ?_)
  have hj : j.toNat = x5.length := by omega
  simp [cK, List.getD_eq_getElem?_getD, hj]
 ·
  intro j j0 j1
  have hj : j.toNat < (x5 ++ [(⟨0, ⟨#[]⟩, (s.size : Int)⟩ : Tok)]).length := by omega
  have hm : cK (x5 ++ [(⟨0, ⟨#[]⟩, (s.size : Int)⟩ : Tok)]) j ∈ x5 ++ [(⟨0, ⟨#[]⟩, (s.size : Int)⟩ : Tok)] := by
   unfold cK
   rw [List.getD_eq_getElem?_getD, List.getElem?_eq_getElem hj]
   exact List.getElem_mem hj
  rcases List.mem_append.mp hm with hm | hm
  ·
   have := e _ hm
   omega
  ·
   rw [List.mem_singleton.mp hm]
   show (⟨#[]⟩ : ByteArray).size ≤ 10000
   decide
section
variable {s : ByteArray} {m : Int} {x5 : List Tok}
theorem bSo {c a : Int} (hc : c ≠ 0) : EvP (fun _ => some (([] : List Tok), c, a)) bR7 := done (fun z => absurd z hc)
theorem bTK (hs : s.size ≤ 8192) (H : bSa s m) : ∀ (d : Nat) (x : Int), bRN s x5 x → s.size - x ≤ m → s.size - x ≤ d → x ≤ s.size → EvP (fun n => dC.l1 n s x5 x) bR7 := by
 intro d
 induction d with
 | zero =>
  intro x hx hm hd hsz
  refine more ?_
  simp only [dC.l1]
  exact ways (fun z => absurd z (by omega)) (fun _ => H x5 x hx hm)
 | succ d ih =>
  intro x hx hm hd hsz
  have h0 := hx.1
  refine more ?_
  simp only [dC.l1]
  refine ways (fun h => gate h0 (ways (fun _ => H x5 x hx hm) (fun _ => ?_))) (fun _ => H x5 x hx hm)
  rw [w64 (n := x + 1) (by omega) (by omega)]
  exact ih (x + 1) (bR9 hx (by omega) (by omega)) (by omega) (by omega) (by omega)
theorem bSy (hs : s.size ≤ 8192) (H : bSa s m) (i x : Int) (hi : bRN s x5 i) (h1 : i < x) (h2 : x ≤ s.size) (hm : s.size - x ≤ m) : EvP (fun n => dC.j4 n s x5 i x) bR7 := by
 obtain ⟨a, b, c, d, e⟩ := id hi
 have he : ∀ a b : Nat, (s.extract a b).size ≤ 8192 := fun a b => Nat.le_trans (bSk s a b) hs
 refine more ?_
 simp only [dC.j4]
 refine gate a (gate (by omega) (gate h2 (bT1 (fun b => ways (fun _ => ?_) (fun _ => ?_)))))
 ·
  exact ways (fun _ => bSo (by omega)) (fun _ => gate (by omega) (H _ x (bRS hi (by omega) h1 (by omega) (he _ _)) hm))
 ·
  exact ways (fun _ => bSo (by omega)) (fun _ => gate (by omega) (H _ x (bRS hi (by omega) h1 (by omega) (he _ _)) hm))
theorem bTL (hs : s.size ≤ 8192) (H : bSa s m) (i : Int) (hi : bRN s x5 i) (hm : s.size - i ≤ m + 1) : ∀ (d : Nat) (x : Int), s.size - x ≤ d → i < x → x ≤ s.size → EvP (fun n => dC.l2 n s x5 i x) bR7 := by
 have h0 := hi.1
 intro d
 induction d with
 | zero =>
  intro x hd hx hsz
  refine more ?_
  simp only [dC.l2]
  exact ways (fun z => absurd z (by omega)) (fun _ => bSy hs H i x hi hx hsz (by omega))
 | succ d ih =>
  intro x hd hx hsz
  refine more ?_
  simp only [dC.l2]
  refine ways (fun h => gate (by omega) ?_) (fun _ => bSy hs H i x hi hx hsz (by omega))
  rw [w64 (n := x + 1) (by omega) (by omega)]
  have next := ih (x + 1) (by omega) (by omega) (by omega)
  exact bR8 (fun b _ => ways (fun _ => next) (fun _ => bSl (fun b _ => ways (fun _ => next) (fun _ => ways (fun _ => next) (fun _ => bSy hs H i x hi hx hsz (by omega))))))
theorem bSz (hs : s.size ≤ 8192) (H : bSa s m) (i q x : Int) (hi : bRN s x5 i) (h1 : i < x) (h2 : x ≤ s.size) (hm : s.size - x ≤ m) : EvP (fun n => dC.j6 n s x5 i q x) bR7 := by
 obtain ⟨a, b, c, d, e⟩ := id hi
 have he : ∀ a b : Nat, (s.extract a b).size ≤ 8192 := fun a b => Nat.le_trans (bSk s a b) hs
 have good : EvP (fun n => dC.l0 n s (x5 ++ [(⟨2, s.extract (i : Int).toNat (x : Int).toNat, i⟩ : Tok)]) x) bR7 := H _ x (bRS hi (by omega) h1 (by omega) (he _ _)) hm
 refine more ?_
 simp only [dC.j6]
 repeat' first
  | exact good
  | exact bSo (by omega)
  | with_reducible refine gate (by omega) ?_
  | with_reducible refine bR8 (fun _ _ => ?_)
  | with_reducible refine ways (fun _ => ?_) (fun _ => ?_)
theorem bTM (hs : s.size ≤ 8192) (H : bSa s m) (i q : Int) (hi : bRN s x5 i) (hm : s.size - i ≤ m + 1) : ∀ (d : Nat) (x : Int), s.size - x ≤ d → i < x → x ≤ s.size → EvP (fun n => dC.l3 n s x5 i q x) bR7 := by
 have h0 := hi.1
 intro d
 induction d with
 | zero =>
  intro x hd hx hsz
  refine more ?_
  simp only [dC.l3]
  exact ways (fun z => absurd z (by omega)) (fun _ => bSz hs H i q x hi hx hsz (by omega))
 | succ d ih =>
  intro x hd hx hsz
  refine more ?_
  simp only [dC.l3]
  refine ways (fun h => gate (by omega) ?_) (fun _ => bSz hs H i q x hi hx hsz (by omega))
  rw [w64 (n := x + 1) (by omega) (by omega)]
  exact bSl (fun b _ => ways (fun _ => ih (x + 1) (by omega) (by omega) (by omega)) (fun _ => bSz hs H i q x hi hx hsz (by omega)))
theorem bTN (hs : s.size ≤ 8192) (H : bSa s m) (i : Int) (f : Bool) (hi : bRN s x5 i) (h1 : i < s.size) (hm : s.size - i ≤ m + 1) : EvP (fun n => dC.j1 n s x5 i (bt s i) f) bR7 := by
 obtain ⟨a, b, c, d, e⟩ := id hi
 have hw : wrap64 (i + 1) = i + 1 := w64 (by omega) (by omega)
 refine more ?_
 simp only [dC.j1]
 rw [hw]
 refine ways (fun _ => H _ _ (bR9 hi (by omega) (by omega)) (by omega)) (fun _ => ways (fun h35 => ?_) (fun _ => bR8 (fun b hb => ways (fun hb1 => ?_) (fun _ => bSl (fun b2 hb2 => ways (fun hb3 => ?_) (fun _ => ?_))))))
 ·
  refine more ?_
  simp only [dC.l1]
  rw [hw]
  exact gate h1 (gate a (ways (fun z => absurd z (by omega)) (fun _ => bTK hs H 10000 (i + 1) (bR9 hi (by omega) (by omega)) (by omega) (by omega) (by omega))))
 ·
  refine more ?_
  simp only [dC.l2]
  rw [hw]
  subst hb1
  exact gate h1 (gate a (known hb (gate rfl (bTL hs H i hi hm 10000 (i + 1) (by omega) (by omega) (by omega)))))
 ·
  refine more ?_
  simp only [dC.l3]
  rw [hw]
  subst hb3
  exact gate h1 (gate a (known hb2 (gate rfl (bTM hs H i _ hi hm 10000 (i + 1) (by omega) (by omega) (by omega)))))
 ·
  refine bTJ hs a h1 (fun t ht => ways (fun _ => bSo (by omega)) (fun hne => gate (by omega) ?_))
  have h1t := bSO t hne
  rw [w64 (n := i + (t.size : Int)) (by omega) (by omega)]
  exact H _ _ (bRS hi h1 (by omega) (by omega) ht) (by omega)
end
theorem bT2 {s : ByteArray} (hs : s.size ≤ 8192) : ∀ m : Nat, bSa s m := by
 intro m
 induction m with
 | zero =>
  intro x5 x hx hm
  have h4 := hx.2.2.2.1
  refine more ?_
  simp only [dC.l0]
  exact ways (fun z => absurd z (by omega)) (fun _ => gate (by omega) (done (bSn hs hx)))
 | succ m ih =>
  intro x5 x hx hm
  have h4 := hx.2.2.2.1
  refine more ?_
  simp only [dC.l0]
  refine ways (fun h1 => gate hx.1 ?_) (fun _ => gate (by omega) (done (bSn hs hx)))
  have hj := fun f => bTN hs ih x f hx h1 (by omega)
  exact ways (fun _ => hj _) (fun _ => ways (fun _ => hj _) (fun _ => ways (fun _ => hj _) (fun _ => hj _)))
theorem bTm (s : ByteArray) : EvP (fun n => gM.f n s) (fun r => bRH r.2.2.2.2.1 ∧ r.2.2.2.1.length ≤ 20000 ∧ r.2.2.2.2.1.length ≤ 20000) := by
 have hnil : bRH ([] : List Pr) ∧ ([] : List Vr).length ≤ 20000 ∧ ([] : List Pr).length ≤ 20000 := ⟨fun p hp => (by cases hp), by simp, by simp⟩
 have hl : EvP (fun n => dC.f n s) bR7 := by
  unfold dC.f
  refine ways (fun _ => bSo (by omega)) (fun h => ?_)
  exact bT2 (by omega) 10000 [] 0 ⟨by omega, by omega, by simp, by simp, by simp⟩ (by omega)
 unfold gM.f
 refine andThen hl (fun b hb => ways (fun h0 => ?_) (fun _ => done hnil))
 obtain ⟨T, hp⟩ := hb h0
 exact andThen (bS3 T hp) (fun r hr => ways (fun _ => done hr) (fun _ => done hnil))
end bRC
namespace bSc
open bRC
abbrev Mod := nM
def aEg {α : Type} (g : Nat → Option α) : Prop := EvP g (fun _ => True)
theorem bSH {β : Type} {Q : β → Prop} (x y : Cl) {F : Nat → Int → Option β} (k : ∀ v, EvP (fun n => F n v) Q) : EvP (fun n => (dR.f n x.f0 x.f1 x.f2 y.f0 y.f1 y.f2).bind (F n)) Q :=
 andThen (P := fun _ => True) ⟨_, Ev.of (fun k => dR.mono _ _ _ _ _ _ k) (dF.aXr x y 0), trivial⟩ (fun v _ => k v)
theorem bS5 (l : List Cl) (hl : l.length ≤ 1000000000) : ∀ (d : Nat) (i : Int), i ≤ d → -1 ≤ i → i < l.length → aEg (fun k => eP.l0 k l i) := by
 intro d
 induction d with
 | zero =>
  intro i h _ _
  refine more ?_
  simp only [eP.l0]
  exact bRC.ways (fun z => absurd z (by omega)) (fun _ => done trivial)
 | succ d ih =>
  intro i h h0 h1
  refine more ?_
  simp only [eP.l0]
  refine bRC.ways (fun z => ?_) (fun _ => done trivial)
  rw [w64 (by omega) (by omega)]
  exact gate (by omega) (gate h1 (gate (by omega) (gate (by omega) (bSH _ _ (fun v => bRC.ways (fun _ => done trivial) (fun _ => ih _ (by omega) (by omega) (by omega)))))))
theorem bS6 (l : List Cl) (a b : ByteArray) (c : Int) (hl : l.length ≤ 1000000000) : ∀ (d : Nat) (i j : Int), j - i ≤ d → 0 ≤ i → i ≤ j → j ≤ l.length → EvP (fun k => dA.l0 k l (l.length : Int) i j a b c) (fun r => r.1 ≤ l.length ∧ (r.2 = true → 0 ≤ r.1 ∧ r.1 < l.length)) := by
 intro d
 induction d with
 | zero =>
  intro i j hd h0 hij hj
  refine more ?_
  simp only [dA.l0]
  refine bRC.ways (fun z => absurd z (by omega)) (fun _ => bRC.ways (fun h => gate h0 (gate h ?_)) (fun _ => done ⟨by omega, fun z => by cases z⟩))
  exact bSH _ ⟨a, b, c⟩ (fun v => done ⟨by show i ≤ (l.length : Int); omega, fun _ => ⟨h0, h⟩⟩)
 | succ d ih =>
  intro i j hd h0 hij hj
  refine more ?_
  simp only [dA.l0]
  refine bRC.ways (fun z => ?_) (fun _ => bRC.ways (fun h => gate h0 (gate h ?_)) (fun _ => done ⟨by omega, fun z => by cases z⟩))
  ·
   have e : wrap64 ((IntKind.u64.wrap (wrap64 (i + j))) / 2) = (i + j) / 2 := by
    rw [w64 (n := i + j) (by omega) (by omega), show IntKind.u64.wrap (i + j) = i + j by unfold IntKind.wrap; simp [IntKind.signed, IntKind.bits]; omega]
    exact w64 (by omega) (by omega)
   rw [e, w64 (n := (i + j) / 2 + 1) (by omega) (by omega)]
   refine gate (by omega) (gate (by omega) (bSH _ ⟨a, b, c⟩ (fun v => bRC.ways (fun _ => ih _ _ (by omega) (by omega) (by omega) (by omega)) (fun _ => ih _ _ (by omega) (by omega) (by omega) (by omega)))))
  ·
   exact bSH _ ⟨a, b, c⟩ (fun v => done ⟨by show i ≤ (l.length : Int); omega, fun _ => ⟨h0, h⟩⟩)
theorem bS7 (y : Cl) : ∀ (l : List Cl) (j : Int), 0 ≤ j → dF.idx y l j = -1 ∨ (j ≤ dF.idx y l j ∧ dF.idx y l j < j + l.length)
 | [], _, _ => Or.inl rfl
 | c :: t, j, hj => by
  unfold dF.idx
  split
  ·
   right
   simp only [List.length_cons]
   omega
  ·
   rcases bS7 y t (j + 1) (by omega) with h | h
   ·
    exact Or.inl h
   ·
    right
    simp only [List.length_cons]
    omega
theorem bS8 {β : Type} {Q : β → Prop} (l : List Cl) (m n : ByteArray) (hl : l.length ≤ 1000000000) {F : Nat → Int → Option β} (k : ∀ i, i < (l.length : Int) → EvP (fun n => F n i) Q) (k2 : EvP (fun n => F n (-1)) Q) : EvP (fun q => (dF.f q l m n).bind (F q)) Q := by
 refine andThen (P := fun i => i = -1 ∨ i < (l.length : Int)) ?_ (fun i hi => hi.elim (fun e => e ▸ k2) (k i))
 unfold dF.f
 refine gate (by omega) (andThen (P := fun _ => True) ?_ (fun t _ => bRC.ways (fun _ => ?_) (fun _ => done ?_)))
 ·
  unfold eP.f
  rw [w64 (by omega) (by omega)]
  exact bS5 l hl l.length _ (by omega) (by omega) (by omega)
 ·
  unfold dA.f
  refine andThen (bS6 l m n 0 hl l.length 0 _ (by omega) (by omega) (by omega) (by omega)) (fun b hb => bRC.ways (fun h => done (.inr (hb.2 h).2)) (fun _ => done (.inl rfl)))
 ·
  rcases bS7 ⟨m, n, 0⟩ l 0 (by omega) with h | h
  ·
   exact .inl h
  ·
   exact .inr (by omega)
theorem bTv {β : Type} {Q : β → Prop} (l : List Cl) (m n : ByteArray) (hl : l.length ≤ 1000000000) {F : Nat → (Int × Bool) → Option β} (k : ∀ b, EvP (fun n => F n b) Q) : EvP (fun q => (oO.f q l m n).bind (F q)) Q := by
 refine andThen (P := fun _ => True) ?_ (fun b _ => k b)
 unfold oO.f
 exact bS8 l m n hl (fun i hi => bRC.ways (fun _ => done trivial) (fun _ => gate (by omega) (gate hi (done trivial)))) (bRC.ways (fun _ => done trivial) (fun z => absurd z (by omega)))
theorem bTO (vs : List Int) (i : Int) (n : Nd) (mod : ByteArray) (l m : List Cl) (hl : l.length ≤ 1000000000) (hm : m.length ≤ 1000000000) : aEg (fun k => bI.node k vs i n mod l m) := by
 unfold bI.node
 refine bRC.ways (fun _ => done trivial) (fun _ => bRC.ways (fun _ => ?_) (fun _ => ?_))
 ·
  unfold aN.f
  refine gate (by omega) (bRC.ways (fun _ => ?_) (fun _ => bTv _ _ _ hm (fun _ => done trivial)))
  cases aN.last n.f3 l l.length with
  | some v => exact done trivial
  | none => exact bTv _ _ _ hm (fun _ => done trivial)
 ·
  have hb : ∀ x : Bool, ∃ v, mG.f x = some v := fun x => by unfold mG.f; split <;> exact ⟨_, rfl⟩
  generalize bI.kid vs i n.f4 = a
  generalize bI.kid vs i n.f5 = b
  unfold Ug.f
  obtain ⟨v1, e1⟩ := hb (a == 0)
  obtain ⟨v2, e2⟩ := hb (a == b)
  obtain ⟨v3, e3⟩ := hb (decide (a < b))
  obtain ⟨v4, e4⟩ := hb (decide (a ≤ b))
  rw [e1, e2, e3, e4]
  simp only [Option.bind_some]
  repeat' split
  all_goals exact done trivial
theorem bTn (E : List Nd) (a : Int) (mod : ByteArray) (l m : List Cl) (hl : l.length ≤ 1000000000) (hm : m.length ≤ 1000000000) : ∀ (d : Nat) (i : Int) (vs : List Int), a + 1 - i ≤ d → aEg (fun k => bI.l0 k E a mod l m vs i) := by
 intro d
 induction d with
 | zero =>
  intro i vs h
  refine more ?_
  simp only [bI.l0]
  exact bRC.ways (fun z => absurd z (by omega)) (fun _ => done trivial)
 | succ d ih =>
  intro i vs h
  refine more ?_
  simp only [bI.l0]
  exact bRC.ways (fun _ => andThen (bTO _ _ _ _ _ _ hl hm) (fun v _ => ih _ _ (by omega))) (fun _ => done trivial)
theorem bSm {E : List Nd} {mod : ByteArray} {l m : List Cl} (hE : E.length ≤ 20000) (hl : (l.length : Int) ≤ 60000) (hm : m.length ≤ 1000000) : aEg (fun q => bI.f q E ((E.length : Int) - 1) mod l m) := by
 unfold bI.f
 exact bRC.ways (fun _ => done trivial) (fun _ => bRC.ways (fun _ => done trivial) (fun _ => gate (by omega) (bTn E _ mod l m (by omega) (by omega) 30000 0 _ (by omega))))
theorem bR3 {β : Type} {Q : β → Prop} {E : List Nd} {mod : ByteArray} {l m : List Cl} (hE : E.length ≤ 20000) (hl : (l.length : Int) ≤ 60000) (hm : m.length ≤ 1000000) {F : Nat → Int → Option β} (k : ∀ v, EvP (fun n => F n v) Q) : EvP (fun q => (bI.f q E ((E.length : Int) - 1) mod l m).bind (F q)) Q :=
 andThen (bSm hE hl hm) (fun b _ => k b)
def Inv (st : RT) : Prop := st.1.length ≤ 1000000 ∧ 0 ≤ st.2.1 ∧ st.2.1 ≤ 20000 ∧ (st.2.2.1.length : Int) + st.2.1 ≤ 60000 ∧ (st.2.2.2.1.length : Int) + st.2.1 ≤ 60000
def Rel (n : Int) (st s2 : RT) : Prop := s2.1.length = st.1.length ∧ 0 ≤ s2.2.1 ∧ s2.2.1 ≤ st.2.1 ∧ (s2.2.2.1.length : Int) + s2.2.1 ≤ st.2.2.1.length + st.2.1 ∧ n ≤ s2.2.2.2.1.length ∧ (s2.2.2.2.1.length : Int) + s2.2.1 ≤ st.2.2.2.1.length + st.2.1
theorem Rel.inv {n : Int} {st s2 : RT} (h : Rel n st s2) (i : Inv st) : Inv s2 := by
 obtain ⟨a, b, c, d, e, f⟩ := h
 obtain ⟨p, q, r, s, t⟩ := i
 exact ⟨by omega, b, by omega, by omega, by omega⟩
theorem Rel.trans {n n2 : Int} {st s2 s3 : RT} (h : Rel n st s2) (g : Rel n2 s2 s3) (hn : ∀ z : Int, n ≤ z → n2 ≤ z → n2 ≤ z := fun _ _ z => z) : Rel n2 st s3 := by
 obtain ⟨a, b, c, d, e, f⟩ := h
 obtain ⟨p, q, r, s, t, u⟩ := g
 exact ⟨by omega, q, by omega, by omega, t, by omega⟩
theorem Rel.low {n n2 : Int} {st s2 : RT} (h : Rel n st s2) (hn : n2 ≤ n) : Rel n2 st s2 := by
 obtain ⟨a, b, c, d, e, f⟩ := h
 exact ⟨a, b, c, d, by omega, f⟩
theorem bSp {st : RT} (i : Inv st) (h : ¬ st.2.1 = 0) : Rel st.2.2.2.1.length st (aC.RA st) ∧ (aC.RA st).2.1 = st.2.1 - 1 := by
 obtain ⟨p, q, r, s, t⟩ := i
 have e : wrap64 (st.2.1 - 1) = st.2.1 - 1 := w64 (by omega) (by omega)
 refine ⟨⟨rfl, ?_, ?_, ?_, ?_, ?_⟩, e⟩
 ·
  show 0 ≤ wrap64 (st.2.1 - 1); omega
 ·
  show wrap64 (st.2.1 - 1) ≤ st.2.1; omega
 ·
  show (st.2.2.1.length : Int) + wrap64 (st.2.1 - 1) ≤ _; omega
 ·
  show (st.2.2.2.1.length : Int) ≤ st.2.2.2.1.length; omega
 ·
  show (st.2.2.2.1.length : Int) + wrap64 (st.2.1 - 1) ≤ _; omega
theorem bRQ {st : RT} (i : Inv st) : Rel st.2.2.2.1.length st st := ⟨rfl, i.2.1, Int.le_refl _, Int.le_refl _, Int.le_refl _, Int.le_refl _⟩
theorem bR1 {name : ByteArray} {loc Jh : List Cl} {v : Int} : ∀ {n : Nat}, aC.zU name loc v n = some Jh → Jh.length = loc.length
 | 0, h => by cases h
 | n + 1, h => by
  unfold aC.zU at h
  split at h
  ·
   injection h with h
   subst h
   exact List.length_set
  ·
   exact bR1 h
theorem bSq (mod name : ByteArray) (v : Int) (st : RT) (i : Inv st) : EvP (fun k => aC.Ji k mod name v st) (Rel st.2.2.2.1.length st) := by
 obtain ⟨p, q, r, s, t⟩ := i
 unfold aC.Ji
 have h : EvP (fun k => qH.f k st.1 mod name v) (fun r => r.1.length = st.1.length) := by
  unfold qH.f
  have hc : jU.f st.1 = some st.1 := by unfold jU.f; rw [if_pos (by omega)]
  exact bS8 _ _ _ (by omega) (fun i hi => known hc (bRC.ways (fun _ => done rfl) (fun _ => gate (by omega) (gate hi (done List.length_set))))) (known hc (bRC.ways (fun _ => done rfl) (fun z => absurd z (by omega))))
 refine andThen h (fun r hr => done ⟨hr, q, Int.le_refl _, Int.le_refl _, Int.le_refl _, Int.le_refl _⟩)
theorem bS9 (fm mod name : ByteArray) (v : Int) (st : RT) (i : Inv st) : EvP (fun k => aC.WR k fm mod name v st) (Rel st.2.2.2.1.length st) := by
 have i2 := i
 obtain ⟨p, q, r, s, t⟩ := i2
 unfold aC.WR
 refine bRC.ways (fun _ => gate (by omega) ?_) (fun _ => bSq _ _ _ _ i)
 cases h : aC.zU name st.2.2.2.1 v st.2.2.2.1.length with
 | some loc =>
  have e := bR1 h
  refine done ⟨rfl, q, Int.le_refl _, Int.le_refl _, ?_, ?_⟩
  ·
   show (st.2.2.2.1.length : Int) ≤ loc.length; omega
  ·
   show (loc.length : Int) + st.2.1 ≤ st.2.2.2.1.length + st.2.1; omega
 | none => exact bSq _ _ _ _ i
def StT (l : List Mod) (n : Int) : Prop := ∀ (mod : ByteArray) (s : Sm) (st : RT), Gd s → Inv st → st.2.1 ≤ n → EvP (fun k => aC.stmt l k mod s st) (fun r => Rel st.2.2.2.1.length st r.2)
theorem bSr {l : List Mod} {n : Int} (H : StT l n) (mod : ByteArray) (N : Nat) : ∀ (B : List Sm) (st : RT), (∀ s ∈ B, Gd s) → Inv st → st.2.1 ≤ n → N ≤ st.2.2.2.1.length → EvP (fun k => aC.blk (aC.stmt l k mod) N B st) (fun r => Rel N st r.2)
 | [], st, _, i, _, hN => by
  show EvP (fun _ => if N ≤ st.2.2.2.1.length then some (true, st.1, st.2.1, st.2.2.1, st.2.2.2.1.take N, st.2.2.2.2) else none) _
  refine gate hN (done ⟨rfl, i.2.1, Int.le_refl _, Int.le_refl _, ?_, ?_⟩)
  ·
   show (N : Int) ≤ (st.2.2.2.1.take N).length; rw [List.length_take]; omega
  ·
   show ((st.2.2.2.1.take N).length : Int) + st.2.1 ≤ st.2.2.2.1.length + st.2.1; rw [List.length_take]; omega
 | s :: t, st, hB, i, hn, hN => by
  show EvP (fun k => (aC.stmt l k mod s st).bind fun q => if q.1 = true then aC.blk (aC.stmt l k mod) N t q.2 else some (false, q.2)) _
  refine andThen (H mod s st (hB s (List.mem_cons_self ..)) i hn) (fun r hr => ?_)
  have h5 := hr.2.2.2.2.1
  exact bRC.ways (fun _ => weaker (bSr H mod N t r.2 (fun x hx => hB x (List.mem_cons_of_mem _ hx)) (hr.inv i) (by have := hr.2.2.1; omega) (by omega)) (fun q hq => hr.trans hq)) (fun _ => done (hr.low (by omega)))
theorem bT5 {l : List Mod} {n : Int} (H : StT l n) (mod : ByteArray) (E : List Nd) (B : List Sm) (hE : E.length ≤ 20000) (hB : ∀ s ∈ B, Gd s) : ∀ (d : Nat) (st : RT), Inv st → st.2.1 ≤ d → st.2.1 ≤ n + 1 →
  ∃ r K, (∀ k, K ≤ k → ∀ j, K ≤ j → aC.lp (aC.stmt l k mod) (fun st => bI.f k E ((E.length : Int) - 1) mod st.2.2.2.1 st.1) B j st = some r) ∧ Rel st.2.2.2.1.length st r.2 := by
 intro d
 induction d with
 | zero =>
  intro st i hd hn
  have z : st.2.1 = 0 := by have := i.2.1; omega
  refine ⟨(false, st), 1, fun k _ j hj => ?_, bRQ i⟩
  obtain ⟨j, rfl⟩ : ∃ q, j = q + 1 := ⟨j - 1, by omega⟩
  simp only [aC.lp]
  rw [if_pos z]
 | succ d ih =>
  intro st i hd hn
  by_cases z : st.2.1 = 0
  ·
   refine ⟨(false, st), 1, fun k _ j hj => ?_, bRQ i⟩
   obtain ⟨j, rfl⟩ : ∃ q, j = q + 1 := ⟨j - 1, by omega⟩
   simp only [aC.lp]
   rw [if_pos z]
  ·
   obtain ⟨rp, ep⟩ := bSp i z
   have ip := rp.inv i
   obtain ⟨v, ⟨K1, hv⟩, _⟩ := bSm (E := E) (mod := mod) (l := (aC.RA st).2.2.2.1) (m := (aC.RA st).1) hE (by have := ip.2.2.2.2; have := ip.2.1; omega) ip.1
   have hv2 : ∀ k, K1 ≤ k → bI.f k E ((E.length : Int) - 1) mod (aC.RA st).2.2.2.1 (aC.RA st).1 = some v := hv
   by_cases h0 : v = 0
   ·
    refine ⟨(true, aC.RA st), K1 + 1, fun k hk j hj => ?_, rp⟩
    obtain ⟨j, rfl⟩ : ∃ q, j = q + 1 := ⟨j - 1, by omega⟩
    simp only [aC.lp]
    rw [if_neg z, hv2 k (by omega), Option.bind_some, if_pos h0]
   ·
    obtain ⟨q, ⟨K2, hq⟩, rq⟩ := bSr H mod (aC.RA st).2.2.2.1.length B (aC.RA st) hB ip (by omega) (Nat.le_refl _)
    replace hq : ∀ k, K2 ≤ k → aC.blk (aC.stmt l k mod) (aC.RA st).2.2.2.1.length B (aC.RA st) = some q := hq
    by_cases hb : q.1 = true
    ·
     obtain ⟨r, K3, h3, r3⟩ := ih q.2 (rq.inv ip) (by have := rq.2.2.1; omega) (by have := rq.2.2.1; omega)
     refine ⟨r, K1 + K2 + K3 + 1, fun k hk j hj => ?_, ((rp.trans rq).trans r3).low (by have := rq.2.2.2.2.1; exact this)⟩
     obtain ⟨j, rfl⟩ : ∃ q, j = q + 1 := ⟨j - 1, by omega⟩
     simp only [aC.lp]
     rw [if_neg z, hv2 k (by omega), Option.bind_some, if_neg h0]
     show ((aC.blk (aC.stmt l k mod) (aC.RA st).2.2.2.1.length B (aC.RA st)).bind _) = _
     rw [hq k (by omega), Option.bind_some, if_pos hb]
     exact h3 k (by omega) j (by omega)
    ·
     refine ⟨(false, q.2), K1 + K2 + 1, fun k hk j hj => ?_, rp.trans rq⟩
     obtain ⟨j, rfl⟩ : ∃ q, j = q + 1 := ⟨j - 1, by omega⟩
     simp only [aC.lp]
     rw [if_neg z, hv2 k (by omega), Option.bind_some, if_neg h0]
     show ((aC.blk (aC.stmt l k mod) (aC.RA st).2.2.2.1.length B (aC.RA st)).bind _) = _
     rw [hq k (by omega), Option.bind_some, if_neg hb]
theorem bTw {g : Nat → List Nd → Option Int} : ∀ (A : List (List Nd)), (∀ a ∈ A, aEg (fun k => g k a)) → EvP (fun k => aC.evs (g k) A) (fun r => r.length = A.length)
 | [], _ => done rfl
 | a :: t, h => by
  show EvP (fun k => (g k a).bind fun v => (aC.evs (g k) t).bind fun vs => some (v :: vs)) _
  exact andThen (h a (List.mem_cons_self ..)) (fun v _ => andThen (bTw t (fun x hx => h x (List.mem_cons_of_mem _ hx))) (fun vs hv => done (by simp [hv])))
theorem bT3 {P : List Pr} (h : bRH P) (i : Int) : (bE P i).f1.length ≤ 20000 ∧ ∀ s ∈ (bE P i).f6, Gd s := by
 unfold bE
 rw [List.getD_eq_getElem?_getD]
 by_cases hi : i.toNat < P.length
 ·
  rw [List.getElem?_eq_getElem hi]
  exact h _ (List.getElem_mem _)
 ·
  rw [List.getElem?_eq_none (by omega)]
  exact ⟨Nat.zero_le _, fun s hs => by cases hs⟩
theorem bT4 {l : List Mod} (h : ∀ x ∈ l, bRH x.f4) (i : Int) : bRH (aJ l i).f4 := by
 unfold aJ
 rw [List.getD_eq_getElem?_getD]
 by_cases hi : i.toNat < l.length
 ·
  rw [List.getElem?_eq_getElem hi]
  exact h _ (List.getElem_mem _)
 ·
  rw [List.getElem?_eq_none (by omega)]
  exact fun s hs => by cases hs
theorem bSb {l : List Mod} (h : ∀ x ∈ l, bRH x.f4) (mod proc : ByteArray) (n : Int) : (aC.find l mod proc n).1.f1.length ≤ 20000 ∧ ∀ s ∈ (aC.find l mod proc n).1.f6, Gd s := by
 have hz : z38.f1.length ≤ 20000 ∧ ∀ s ∈ z38.f6, Gd s := ⟨Nat.zero_le _, fun s hs => by cases hs⟩
 unfold aC.find
 split
 ·
  exact hz
 ·
  split
  ·
   exact hz
  ·
   split
   ·
    exact bT3 (bT4 h _) _
   ·
    exact hz
theorem bTa {ps : List Ha} {args : List Int} (h : (ps.length : Int) = args.length) : (aC.Pf ps args).length = ps.length := by
 unfold aC.Pf
 rw [List.length_zipWith]
 omega
theorem bTb {l : List Mod} {n : Int} (H : StT l n) (md : ByteArray) {p : Cg} {args : List Int} (hp : p.f1.length ≤ 20000 ∧ ∀ s ∈ p.f6, Gd s) (ha : (p.f1.length : Int) = args.length) {m : List Cl} {fu : Int} {tr : List ByteArray} (hm : m.length ≤ 1000000) (h0 : 0 ≤ fu) (h1 : fu ≤ 20000) (ht : (tr.length : Int) + fu ≤ 60000) (hn : fu ≤ n) :
  EvP (fun k => aC.body (aC.stmt l k md) p args m fu tr) (fun q => q.2.2.1.length = m.length ∧ 0 ≤ q.2.2.2.1 ∧ q.2.2.2.1 ≤ fu ∧ (q.2.2.2.2.length : Int) + q.2.2.2.1 ≤ tr.length + fu) := by
 have e := bTa ha
 unfold aC.body
 refine gate (by omega) (andThen (bSr H md p.f1.length p.f6 (m, fu, tr, aC.Pf p.f1 args, 0) hp.2 ⟨hm, h0, h1, ht, ?_⟩ hn ?_) (fun q hq => done ⟨hq.1, hq.2.1, hq.2.2.1, hq.2.2.2.1⟩))
 ·
  show ((aC.Pf p.f1 args).length : Int) + fu ≤ 60000; omega
 ·
  show p.f1.length ≤ (aC.Pf p.f1 args).length; omega
theorem bSv {l : List Mod} {n : Int} (hl : ∀ x ∈ l, bRH x.f4) (H : StT l n) (mod : ByteArray) (s : Sm) (st : RT) (hs : Gd s) (i : Inv st) (hn : st.2.1 ≤ n) : EvP (fun k => aC.call (aC.stmt l k) k l mod s st) (fun r => Rel st.2.2.2.1.length st r.2) := by
 have i2 := i
 obtain ⟨p, q, r, ht, hx⟩ := i2
 obtain ⟨z8, z9, z9a, _, _⟩ := hs.sz
 unfold aC.call
 refine gate (by omega) (andThen (bTw (g := fun k a => bI.f k a ((a.length : Int) - 1) mod st.2.2.2.1 st.1) s.f9 (fun a ha => ?_)) (fun args hargs => bRC.ways (fun hf => ?_) (fun _ => done (bRQ i))))
 ·
  exact bSm (z9a a ha) (by omega) p
 ·
  have hg := bSb hl (if s.f6.toList = ([] : List UInt8) then mod else s.f6) s.f7 (args.length : Int)
  have hlen : ((aC.find l (if s.f6.toList = ([] : List UInt8) then mod else s.f6) s.f7 (args.length : Int)).1.f1.length : Int) = args.length := aC.Uk (p := (aC.find l (if s.f6.toList = ([] : List UInt8) then mod else s.f6) s.f7 (args.length : Int)).1) (Prod.ext rfl hf)
  refine andThen (bTb H _ hg hlen p q r ht hn) (fun b hb => ?_)
  obtain ⟨b1, b2, b3, b4⟩ := hb
  have rb : Rel st.2.2.2.1.length st (b.2.2.1, b.2.2.2.1, b.2.2.2.2, st.2.2.2) := ⟨b1, b2, b3, b4, Int.le_refl _, by show (st.2.2.2.1.length : Int) + b.2.2.2.1 ≤ _; omega⟩
  exact bRC.ways (fun _ => bRC.ways (fun _ => andThen (bS9 _ _ _ _ _ (rb.inv i)) (fun s2 h2 => done (rb.trans h2))) (fun _ => done rb)) (fun _ => done rb)
theorem bSw {l : List Mod} (hl : ∀ x ∈ l, bRH x.f4) : ∀ n : Nat, StT l n := by
 intro n
 induction n with
 | zero =>
  intro mod s st hs i hn
  refine more ?_
  simp only [aC.stmt]
  exact bRC.ways (fun _ => done (bRQ i)) (fun z => absurd (show st.2.1 = 0 by have := i.2.1; omega) z)
 | succ n H =>
  intro mod s st hs i hn
  obtain ⟨z8, z9, z9a, z10, z11⟩ := hs.sz
  refine more ?_
  simp only [aC.stmt]
  refine bRC.ways (fun _ => done (bRQ i)) (fun z => ?_)
  obtain ⟨rp, ep⟩ := bSp i z
  have ip := rp.inv i
  have i2 := i
  obtain ⟨p, q, r, ht, hx⟩ := i2
  have hw : wrap64 (st.2.1 - 1) = st.2.1 - 1 := ep
  have hpn : (aC.RA st).2.1 ≤ n := by omega
  refine bRC.ways (fun _ => gate (by omega) (bR3 z8 (by omega) p (fun v => done ⟨rfl, ?_, ?_, ?_, ?_, ?_⟩))) (fun _ => ?_)
  ·
   show 0 ≤ wrap64 (st.2.1 - 1); omega
  ·
   show wrap64 (st.2.1 - 1) ≤ st.2.1; omega
  ·
   show (st.2.2.1.length : Int) + wrap64 (st.2.1 - 1) ≤ _; omega
  ·
   show (st.2.2.2.1.length : Int) ≤ (st.2.2.2.1 ++ [_]).length; rw [List.length_append]; omega
  ·
   show ((st.2.2.2.1 ++ [_]).length : Int) + wrap64 (st.2.1 - 1) ≤ _; rw [List.length_append, List.length_singleton]; omega
  refine bRC.ways (fun _ => bR3 z8 (by omega) p (fun v => andThen (bS9 _ _ _ _ _ ip) (fun s2 h2 => done (rp.trans h2)))) (fun _ => ?_)
  refine bRC.ways (fun _ => bR3 z8 (by omega) p (fun v => done rp)) (fun _ => ?_)
  refine bRC.ways (fun _ => weaker (bSv hl H mod s _ hs ip hpn) (fun r hr => rp.trans hr)) (fun _ => ?_)
  refine bRC.ways (fun _ => bR3 z8 (by omega) p (fun v => bRC.ways (fun _ => weaker (bSr H mod _ s.f11 _ z11 ip hpn (Nat.le_refl _)) (fun r hr => rp.trans hr)) (fun _ => weaker (bSr H mod _ s.f10 _ z10 ip hpn (Nat.le_refl _)) (fun r hr => rp.trans hr)))) (fun _ => ?_)
  refine bRC.ways (fun _ => ?_) (fun _ => bRC.ways (fun _ => gate (by omega) (done ⟨rfl, ?_, ?_, ?_, ?_, ?_⟩)) (fun _ => done rp))
  ·
   obtain ⟨r2, K, hK, rr⟩ := bT5 H mod s.f8 s.f10 z8 z10 20000 (aC.RA st) ip (by omega) (by omega)
   exact ⟨r2, ⟨K, fun k hk => hK k hk k hk⟩, rp.trans rr⟩
  ·
   show 0 ≤ wrap64 (st.2.1 - 1); omega
  ·
   show wrap64 (st.2.1 - 1) ≤ st.2.1; omega
  ·
   show ((st.2.2.1 ++ [_]).length : Int) + wrap64 (st.2.1 - 1) ≤ _; rw [List.length_append, List.length_singleton]; omega
  ·
   show (st.2.2.2.1.length : Int) ≤ st.2.2.2.1.length; omega
  ·
   show (st.2.2.2.1.length : Int) + wrap64 (st.2.1 - 1) ≤ _; omega
theorem bTx {l : List Mod} (hl : ∀ x ∈ l, bRH x.f4) (mod proc : ByteArray) (args : List Int) (m : List Cl) (fu : Int) (hm : m.length ≤ 1000000) (h0 : 0 ≤ fu) (h1 : fu ≤ 20000) : EvP (fun k => aC.f k l mod proc args m fu) (fun r => (r.2.2.2.1.length : Int) ≤ 60000 ∧ r.2.1.length ≤ 1000000) := by
 have hc : jU.f m = some m := by unfold jU.f; rw [if_pos (by omega)]
 unfold aC.f
 refine bRC.ways (fun _ => known hc (done ⟨by simp, hm⟩)) (fun hf => ?_)
 refine bRC.ways (fun z => absurd z (by omega)) (fun _ => bRC.ways (fun z => absurd z (by omega)) (fun _ => known hc ?_))
 have hlen : ((aC.find l mod proc (args.length : Int)).1.f1.length : Int) = args.length := aC.Uk (p := (aC.find l mod proc (args.length : Int)).1) (Prod.ext rfl (by simpa using hf))
 refine andThen (bTb (bSw hl 20000) mod (bSb hl mod proc _) hlen hm h0 h1 (by simp; omega) h1) (fun b hb => ?_)
 obtain ⟨b1, b2, b3, b4⟩ := hb
 simp only [List.length_nil] at b4
 exact bRC.ways (fun _ => done ⟨by show (b.2.2.2.2.length : Int) ≤ 60000; omega, by show b.2.2.1.length ≤ 1000000; omega⟩) (fun _ => done ⟨by show (b.2.2.2.2.length : Int) ≤ 60000; omega, by show b.2.2.1.length ≤ 1000000; omega⟩)
end bSc
namespace bSc
open bRC
theorem bTP (l : List ByteArray) (hl : l.length ≤ 1000000000000000) : ∀ (d : Nat) (i : Int) (O : List Mod), 8 - i ≤ d → 0 ≤ i → i ≤ 8 → O.length ≤ i → (∀ x ∈ O, bRH x.f4 ∧ x.f3.length ≤ 20000 ∧ x.f4.length ≤ 20000) → EvP (fun k => eO.l0 k l O i) (fun r => r.length ≤ 8 ∧ ∀ x ∈ r, bRH x.f4 ∧ x.f3.length ≤ 20000 ∧ x.f4.length ≤ 20000) := by
 intro d
 induction d with
 | zero =>
  intro i O hd h0 h8 hO hg
  refine more ?_
  simp only [eO.l0]
  have e : decide (i < 8) = false := decide_eq_false (by omega)
  rw [e]
  have hj : EvP (fun k => eO.j1 k l O i false) (fun r => r.length ≤ 8 ∧ ∀ x ∈ r, bRH x.f4 ∧ x.f3.length ≤ 20000 ∧ x.f4.length ≤ 20000) := by
   refine more ?_
   simp only [eO.j1]
   exact bRC.ways (fun z => by cases z) (fun _ => done ⟨by omega, hg⟩)
  exact bRC.ways (fun _ => hj) (fun _ => hj)
 | succ d ih =>
  intro i O hd h0 h8 hO hg
  refine more ?_
  simp only [eO.l0]
  have w1 : wrap64 (i + 1) = i + 1 := w64 (by omega) (by omega)
  have hj : ∀ b : Bool, (b = true → i < l.length ∧ i < 8) → EvP (fun k => eO.j1 k l O i b) (fun r => r.length ≤ 8 ∧ ∀ x ∈ r, bRH x.f4 ∧ x.f3.length ≤ 20000 ∧ x.f4.length ≤ 20000) := by
   intro b hb
   refine more ?_
   simp only [eO.j1]
   refine bRC.ways (fun z => ?_) (fun _ => done ⟨by omega, hg⟩)
   obtain ⟨h1, h2⟩ := hb z
   refine gate h0 (gate h1 (andThen (bTm _) (fun r hr => ?_)))
   rw [w1]
   have nx := ih (i + 1) O (by omega) (by omega) (by omega) (by omega) hg
   refine bRC.ways (fun _ => bRC.ways (fun _ => gate (by omega) ?_) (fun _ => nx)) (fun _ => nx)
   refine ih (i + 1) _ (by omega) (by omega) (by omega) (by rw [List.length_append, List.length_singleton]; omega) (fun x hx => ?_)
   rcases List.mem_append.mp hx with hx | hx
   ·
    exact hg x hx
   ·
    obtain rfl := List.mem_singleton.mp hx
    exact hr
  exact bRC.ways (fun h => hj _ (fun z => ⟨h, by simpa using z⟩)) (fun _ => hj _ (fun z => by cases z))
theorem bSP (l : List ByteArray) (hl : l.length ≤ 1000000000000000) : EvP (fun k => eO.f k l) (fun r => r.length ≤ 8 ∧ ∀ x ∈ r, bRH x.f4 ∧ x.f3.length ≤ 20000 ∧ x.f4.length ≤ 20000) :=
 bTP l hl 8 0 [] (by omega) (by omega) (by omega) (by simp) (by simp)
section
variable {l : List Mod} {β : Type} {Q : β → Prop}
theorem bSs (a b : Cl) {F : Nat → Bool → Option β} (k : ∀ v, EvP (fun n => F n v) Q) : EvP (fun n => (xE.f a.f0 a.f1 a.f2 b.f0 b.f1 b.f2).bind (F n)) Q := by
 unfold xE.f
 by_cases h : a.f0.toList = b.f0.toList
 ·
  rw [if_pos h]; exact known rfl (k _)
 ·
  rw [if_neg h]; exact known rfl (k _)
def Few (r : List Cl) : Prop := r.length ≤ 1000000
def bTQ (l : List Mod) (n : Int) : Prop := ∀ (m : List Cl) (i v : Int), 0 ≤ i → i < l.length → 0 ≤ v → v ≤ ((aJ l i).f3.length : Int) → (8 - i) * 30000 - v ≤ n → (m.length : Int) ≤ i * 30000 + v → EvP (fun k => bA.l1 k l m i v) Few
theorem bTR {n : Int} (hl : l.length ≤ 8) (hv : ∀ x ∈ l, x.f3.length ≤ 20000) (ih : bTQ l n) (i v at_ : Int) (a b : ByteArray) (c : Int) (h0 : 0 ≤ i) (h1 : i < l.length) (v0 : 0 ≤ v) (v1 : v < ((aJ l i).f3.length : Int)) (v2 : v ≤ 20000) (hn : (8 - i) * 30000 - (v + 1) ≤ n) (a0 : 0 ≤ at_) : ∀ (d : Nat) (m : List Cl) (j : Int), j - at_ ≤ d → at_ ≤ j → j < m.length → (m.length : Int) ≤ i * 30000 + v + 1 → EvP (fun k => bA.l3 k l m i v at_ j a b c) Few := by
 have w1 : wrap64 (v + 1) = v + 1 := w64 (by omega) (by omega)
 have fin : ∀ (m : List Cl) (j : Int), at_ ≤ j → j < m.length → (m.length : Int) ≤ i * 30000 + v + 1 → EvP (fun k => if 0 ≤ at_ then (if at_ < (m.length : Int) then (bA.l1 k l (m.set (at_ : Int).toNat (⟨a, b, c⟩ : Cl)) i (wrap64 (v + 1))) else (none)) else (none)) Few := by
  intro m j hj hm hM
  refine gate a0 (gate (by omega) ?_)
  rw [w1]
  exact ih _ i (v + 1) h0 h1 (by omega) (by omega) hn (by rw [List.length_set]; omega)
 intro d
 induction d with
 | zero =>
  intro m j hd hj hm hM
  refine more ?_
  simp only [bA.l3]
  exact bRC.ways (fun z => absurd z (by omega)) (fun _ => fin m j hj hm hM)
 | succ d ih2 =>
  intro m j hd hj hm hM
  refine more ?_
  simp only [bA.l3]
  refine bRC.ways (fun z => ?_) (fun _ => fin m j hj hm hM)
  rw [w64 (n := j - 1) (by omega) (by omega)]
  refine gate (by omega) (gate (by omega) (gate (by omega) (gate hm (ih2 _ (j - 1) (by omega) (by omega) ?_ ?_)))) <;> rw [List.length_set] <;> omega
theorem bTS {n : Int} (hl : l.length ≤ 8) (hv : ∀ x ∈ l, x.f3.length ≤ 20000) (ih : bTQ l n) (i v : Int) (a b : ByteArray) (c : Int) (m : List Cl) (h0 : 0 ≤ i) (h1 : i < l.length) (v0 : 0 ≤ v) (v1 : v < ((aJ l i).f3.length : Int)) (v2 : v ≤ 20000) (hn : (8 - i) * 30000 - (v + 1) ≤ n) (hM : (m.length : Int) ≤ i * 30000 + v) : ∀ (d : Nat) (at_ : Int), m.length - at_ ≤ d → 0 ≤ at_ → at_ ≤ m.length → EvP (fun k => bA.l2 k l m i v at_ a b c) Few := by
 have j4 : ∀ (at_ : Int) (t : Bool), 0 ≤ at_ → at_ ≤ m.length → EvP (fun k => bA.j4 k l m i v at_ t a b c) Few := by
  intro at_ t a0 a1
  refine more ?_
  simp only [bA.j4]
  refine bRC.ways (fun _ => ?_) (fun _ => gate (by omega) (known rfl ?_))
  ·
   rw [w64 (by omega) (by omega)]
   exact ih m i (v + 1) h0 h1 (by omega) (by omega) hn (by omega)
  ·
   have e : (((m ++ [(⟨(⟨#[]⟩ : ByteArray), (⟨#[]⟩ : ByteArray), 0⟩ : Cl)] : List Cl)).length : Int) = m.length + 1 := by rw [List.length_append, List.length_singleton]; omega
   rw [e, w64 (by omega) (by omega)]
   exact bTR hl hv ih i v at_ a b c h0 h1 v0 v1 v2 hn a0 1000000 _ _ (by omega) (by omega) (by omega) (by omega)
 have j3 : ∀ at_ : Int, 0 ≤ at_ → at_ ≤ m.length → EvP (fun k => bA.j3 k l m i v at_ a b c) Few := by
  intro at_ a0 a1
  refine more ?_
  simp only [bA.j3]
  exact bRC.ways (fun _ => gate a0 (bSs ⟨a, b, c⟩ _ (fun t => j4 at_ _ a0 a1))) (fun _ => j4 at_ _ a0 a1)
 intro d
 induction d with
 | zero =>
  intro at_ hd a0 a1
  refine more ?_
  simp only [bA.l2]
  exact bRC.ways (fun z => absurd z (by omega)) (fun _ => j3 at_ a0 a1)
 | succ d ih2 =>
  intro at_ hd a0 a1
  refine more ?_
  simp only [bA.l2]
  refine bRC.ways (fun z => gate a0 (bSs _ ⟨a, b, c⟩ (fun t => bRC.ways (fun _ => ?_) (fun _ => j3 at_ a0 a1)))) (fun _ => j3 at_ a0 a1)
  rw [w64 (by omega) (by omega)]
  exact ih2 _ (by omega) (by omega) (by omega)
theorem bSt (hv : ∀ x ∈ l, x.f3.length ≤ 20000) (i : Int) (h0 : 0 ≤ i) (h1 : i < l.length) : (aJ l i).f3.length ≤ 20000 := by
 unfold aJ
 rw [List.getD_eq_getElem?_getD, List.getElem?_eq_getElem (show i.toNat < l.length by omega)]
 exact hv _ (List.getElem_mem _)
theorem bTc {n : Int} (hl : l.length ≤ 8) (ih : ∀ (m : List Cl) (i : Int), 0 ≤ i → i < l.length → (8 - i) * 30000 ≤ n → (m.length : Int) ≤ i * 30000 → EvP (fun k => bA.l1 k l m i 0) Few) (m : List Cl) (i : Int) (h0 : 0 ≤ i) (hi : i ≤ l.length) (hn : (8 - i) * 30000 ≤ n) (hm : (m.length : Int) ≤ i * 30000) : EvP (fun k => bA.l0 k l m i) Few := by
 refine more ?_
 simp only [bA.l0]
 exact bRC.ways (fun z => ih m i h0 z hn hm) (fun _ => done (by show m.length ≤ 1000000; omega))
theorem bTT (hl : l.length ≤ 8) (hv : ∀ x ∈ l, x.f3.length ≤ 20000) : ∀ n : Nat, bTQ l n := by
 intro n
 induction n with
 | zero =>
  intro m i v h0 h1 v0 v1 hn hm
  have := bSt hv i h0 h1
  omega
 | succ n ih =>
  intro m i v h0 h1 v0 v1 hn hm
  have v2 := bSt hv i h0 h1
  refine more ?_
  simp only [bA.l1]
  refine gate h0 (gate h1 (bRC.ways (fun z => gate v0 ?_) (fun _ => ?_)))
  ·
   exact bTS hl hv ih i v _ _ _ m h0 h1 v0 z (by omega) (by omega) hm 1000000 0 (by omega) (by omega) (by omega)
  ·
   rw [w64 (by omega) (by omega)]
   refine bTc (n := n) hl (fun m i h0 h1 hn hm => ih m i 0 h0 h1 (by omega) (by omega) (by omega) (by omega)) m (i + 1) (by omega) (by omega) (by omega) (by omega)
theorem bTo (hl : l.length ≤ 8) (hv : ∀ x ∈ l, x.f3.length ≤ 20000) : EvP (fun k => bA.f k l) Few := by
 unfold bA.f
 exact bTc (n := 240000) hl (fun m i h0 h1 hn hm => bTT hl hv 240000 m i 0 h0 h1 (by omega) (by omega) (by omega) (by omega)) [] 0 (by omega) (by omega) (by omega) (by simp)
end
theorem bTU (x : List Int) (n : Int) (h2 : n ≤ 20000) : ∀ (d : Nat) (i : Int) (o : List Int), n - i ≤ d → 0 ≤ i → (o.length : Int) = n → aEg (fun k => cO.l0 k x n o i) := by
 intro d
 induction d with
 | zero =>
  intro i o hd h0 ho
  refine more ?_
  simp only [cO.l0]
  exact bRC.ways (fun z => absurd z (by omega)) (fun _ => done trivial)
 | succ d ih =>
  intro i o hd h0 ho
  refine more ?_
  simp only [cO.l0]
  refine bRC.ways (fun z => bRC.ways (fun _ => gate h0 (gate (by omega) ?_)) (fun _ => done trivial)) (fun _ => done trivial)
  rw [w64 (by omega) (by omega)]
  exact ih _ _ (by omega) (by omega) (by rw [List.length_set]; exact ho)
theorem bTV (x : List Int) (n : Int) (h0 : 0 ≤ n) (h2 : n ≤ 20000) : aEg (fun k => cO.f k x n) := by
 unfold cO.f
 exact gate h0 (gate (by omega) (bTU x n h2 20000 0 _ (by omega) (by omega) (by rw [List.length_replicate]; omega)))
theorem bTp (x : List ByteArray) (hx : (x.length : Int) ≤ 60000) : ∀ (d : Nat) (i : Int), x.length - i ≤ d → 0 ≤ i → Ev (fun k => iR.l0 k x x i) true := by
 intro d
 induction d with
 | zero =>
  intro i hd h0
  refine Ev.step (f := fun _ => some true) (fun k => ?_) (Ev.now _)
  simp only [iR.l0]
  rw [if_neg (by omega)]
 | succ d ih =>
  intro i hd h0
  by_cases h : i < (x.length : Int)
  ·
   refine Ev.step (fun k => ?_) (ih (i + 1) (by omega) (by omega))
   simp only [iR.l0]
   rw [if_pos h, if_pos h0, if_pos h, if_pos True.intro, w64 (by omega) (by omega)]
  ·
   refine Ev.step (f := fun _ => some true) (fun k => ?_) (Ev.now _)
   simp only [iR.l0]
   rw [if_neg h]
theorem texts_same (x : List ByteArray) (hx : (x.length : Int) ≤ 60000) : Ev (fun k => iR.f k x x) true :=
 Ev.congr (fun k => by unfold iR.f; rw [if_pos rfl]) (bTp x hx 60000 0 (by omega) (by omega))
theorem bTq (x : List Cl) (hx : (x.length : Int) ≤ 1000000) : ∀ (d : Nat) (i : Int), x.length - i ≤ d → 0 ≤ i → Ev (fun k => jN.l0 k x x i) true := by
 intro d
 induction d with
 | zero =>
  intro i hd h0
  refine Ev.step (f := fun _ => some true) (fun k => ?_) (Ev.now _)
  simp only [jN.l0]
  rw [if_neg (by omega)]
 | succ d ih =>
  intro i hd h0
  by_cases h : i < (x.length : Int)
  ·
   refine Ev.step (fun k => ?_) (ih (i + 1) (by omega) (by omega))
   simp only [jN.l0, beq_self_eq_true, Bool.not_true, Bool.or_self]
   rw [if_pos h, if_pos h0, if_pos h, if_neg Bool.false_ne_true, w64 (by omega) (by omega)]
  ·
   refine Ev.step (f := fun _ => some true) (fun k => ?_) (Ev.now _)
   simp only [jN.l0]
   rw [if_neg h]
theorem cells_same (x : List Cl) (hx : (x.length : Int) ≤ 1000000) : Ev (fun k => jN.f k x x) true :=
 Ev.congr (fun k => by unfold jN.f; rw [if_pos rfl]) (bTq x hx 1000000 0 (by omega) (by omega))
end bSc
open bSc bRC in
theorem bTd : Ev (fun k => eQ.f k) true := Ev.of (fun k => eQ.mono k) (k := 400) (by kernel_rfl)
open bSc bRC in
theorem bRT : Ev (fun k => (eQ.f k).bind fun t => some t) true := Ev.bind bTd (Ev.now true)
open bSc in
theorem bTW (f g : Int) (x y : Int × List Cl × Int × List ByteArray × Int) (h0 : 0 ≤ f) (h1 : f ≤ g) (h2 : g ≤ 20000) (x1 : (x.2.2.2.1.length : Int) ≤ 60000) (x2 : x.2.1.length ≤ 1000000)
  (h : (x.1 = 1 ∧ y = (1, x.2.1, x.2.2.1, x.2.2.2.1, x.2.2.2.2 + (g - f)) ∧ 0 ≤ x.2.2.2.2 ∧ x.2.2.2.2 ≤ f) ∨ (x.1 = 2 ∧ x.2.2.2.2 = 0 ∧ x.2.2.2.1 <+: y.2.2.2.1)) :
  Ev (fun k => aI.j1 k f g (!true) x.1 x.2.1 x.2.2.1 x.2.2.2.1 x.2.2.2.2 y.1 y.2.1 y.2.2.1 y.2.2.2.1 y.2.2.2.2) true := by
 obtain ⟨a, b, c, d, e⟩ := x
 rcases h with ⟨ha, rfl, he, he2⟩ | ⟨ha, he, hp⟩
 ·
  dsimp only at *
  subst ha
  refine Ev.step (f := fun k => (jN.f k b b).bind fun t => if t = true then (if c = c then ((iR.f k d d).bind fun t2 => if t2 = true then (if e + (g - f) = wrap64 ((wrap64 (e + g)) - f) then ((eQ.f k).bind fun t => some t) else some false) else some false) else some false) else some false) (fun k => ?_) ?_
  ·
   simp only [aI.j1]
   rw [if_neg (by simp), if_pos True.intro, if_pos True.intro]
  ·
   refine Ev.bind (cells_same b (by omega)) ?_
   simp only [if_true]
   refine Ev.bind (texts_same d (by omega)) ?_
   simp only [if_true]
   rw [show wrap64 ((wrap64 (e + g)) - f) = e + (g - f) by rw [bRC.w64 (n := e + g) (by omega) (by omega), bRC.w64 (by omega) (by omega)]; omega]
   simp only [if_true]
   exact bRT
 ·
  dsimp only at *
  subst ha he
  refine Ev.step (fun k => ?_) bRT
  simp only [aI.j1]
  rw [if_neg (by simp), if_neg (by omega), if_pos True.intro, if_pos True.intro]
theorem bTe {α : Type} {a b : List α} (h : a <+: b) : b.take a.length = a := by
 obtain ⟨t, rfl⟩ := h
 simp
open bSc bRC in
theorem RunMore : aI.Pure := by
 intro l0 l1 a2 a3 h0 h1 h2 h3 h4 h5
 have ja : ∀ p, Ev (fun k => aI.j0 k l1 a2 a3 p true) true := fun p => by
  refine Ev.step (fun k => ?_) bRT
  simp only [aI.j0]
  rw [if_pos True.intro]
 obtain ⟨p, ep, hp8, hp⟩ := bSP l0 (by omega)
 have b2 : 0 ≤ a2 ∧ a2 < 65536 := by
  simp [Lit.wf, IntKind.min, IntKind.max, IntKind.bits, IntKind.signed] at h4
  omega
 have b3 : 0 ≤ a3 ∧ a3 < 65536 := by
  simp [Lit.wf, IntKind.min, IntKind.max, IntKind.bits, IntKind.signed] at h5
  omega
 have key : Ev (fun k => aI.f k l0 l1 a2 a3) true := by
  unfold aI.f
  refine Ev.bind ep ?_
  by_cases c1 : (l1.length : Int) > 40
  ·
   exact Ev.congr (fun k => if_pos c1) (ja p)
  refine Ev.congr (fun k => if_neg c1) ?_
  by_cases c2 : (p.length : Int) = 0
  ·
   exact Ev.congr (fun k => if_pos c2) (ja p)
  refine Ev.congr (fun k => if_neg c2) (Ev.congr (fun k => if_pos (by omega)) ?_)
  by_cases c3 : ((aJ p 0).f4.length : Int) = 0
  ·
   rw [beq_iff_eq.mpr c3]
   exact ja p
  rw [beq_eq_false_iff_ne.mpr c3]
  have hs : ∀ x ∈ p, bRH x.f4 := fun x hx => (hp x hx).1
  obtain ⟨m, em, hm⟩ := bTo (l := p) hp8 (fun x hx => (hp x hx).2.1)
  have hpos : 0 < ((aJ p 0).f4.length : Int) := by omega
  have hbig : (aJ p 0).f4.length ≤ 20000 := by
   unfold aJ
   rw [List.getD_eq_getElem?_getD, List.getElem?_eq_getElem (show (0 : Int).toNat < p.length by simp; omega)]
   exact (hp _ (List.getElem_mem _)).2.2
  have w1 : wrap64 (((aJ p 0).f4.length : Int) - 1) = ((aJ p 0).f4.length : Int) - 1 := bRC.w64 (by omega) (by omega)
  have w2 : Int.tmod (wrap64 a2) 1000 = a2 % 1000 := by rw [bRC.w64 (by omega) (by omega)]; exact Int.tmod_eq_emod_of_nonneg b2.1
  have w3 : Int.tmod (wrap64 a3) 1000 = a3 % 1000 := by rw [bRC.w64 (by omega) (by omega)]; exact Int.tmod_eq_emod_of_nonneg b3.1
  have w4 : wrap64 (a2 % 1000 + a3 % 1000) = a2 % 1000 + a3 % 1000 := bRC.w64 (by omega) (by omega)
  obtain ⟨q, hq⟩ : ∃ q, bE (aJ p 0).f4 (((aJ p 0).f4.length : Int) - 1) = q := ⟨_, rfl⟩
  have hq1 := bT3 (bT4 hs 0) (((aJ p 0).f4.length : Int) - 1)
  rw [hq] at hq1
  obtain ⟨as_, ea, _⟩ := bTV l1 (q.f1.length : Int) (by omega) (by omega)
  obtain ⟨x, ex, hx1, hx2⟩ := bTx hs (aJ p 0).f0 q.f0 as_ m (a2 % 1000) hm (by omega) (by omega)
  obtain ⟨y, ey, hy1, hy2⟩ := bTx hs (aJ p 0).f0 q.f0 as_ m (a2 % 1000 + a3 % 1000) hm (by omega) (by omega)
  have both : (x.1 = 3 ∧ y.1 = 3) ∨ (x.1 = 1 ∧ y = (1, x.2.1, x.2.2.1, x.2.2.2.1, x.2.2.2.2 + (a2 % 1000 + a3 % 1000 - a2 % 1000)) ∧ 0 ≤ x.2.2.2.2 ∧ x.2.2.2.2 ≤ a2 % 1000) ∨ (x.1 = 2 ∧ x.2.2.2.2 = 0 ∧ x.2.2.2.1 <+: y.2.2.2.1) := by
   obtain ⟨K1, k1⟩ := ex
   obtain ⟨K2, k2⟩ := ey
   exact bSS (max K1 K2) p _ _ as_ m _ _ x y (by omega) (by omega) (by omega) (k1 _ (Nat.le_max_left _ _)) (k2 _ (Nat.le_max_right _ _))
  refine Ev.step (f := fun k => (bA.f k p).bind fun m => (cO.f k l1 (q.f1.length : Int)).bind fun as_ => (aC.f k p (aJ p 0).f0 q.f0 as_ m (a2 % 1000)).bind fun x => (aC.f k p (aJ p 0).f0 q.f0 as_ m (a2 % 1000 + a3 % 1000)).bind fun y =>
   if x.1 = 3 then (if y.1 = 3 then ((eQ.f k).bind fun t => some t) else some false) else if (x.2.2.2.1.length : Int) > (y.2.2.2.1.length : Int) then (aI.j1 k (a2 % 1000) (a2 % 1000 + a3 % 1000) true x.1 x.2.1 x.2.2.1 x.2.2.2.1 x.2.2.2.2 y.1 y.2.1 y.2.2.1 y.2.2.2.1 y.2.2.2.2) else (if 0 ≤ (x.2.2.2.1.length : Int) then (if (x.2.2.2.1.length : Int) ≤ (y.2.2.2.1.length : Int) then ((iR.f k x.2.2.2.1 (y.2.2.2.1.take ((x.2.2.2.1.length : Int) : Int).toNat)).bind fun t => (aI.j1 k (a2 % 1000) (a2 % 1000 + a3 % 1000) (!t) x.1 x.2.1 x.2.2.1 x.2.2.2.1 x.2.2.2.2 y.1 y.2.1 y.2.2.1 y.2.2.2.1 y.2.2.2.2)) else none) else none)) (fun k => ?_) ?_
  ·
   simp only [aI.j0]
   rw [w1, w2, w3, w4, hq, if_neg Bool.false_ne_true]
   refine congrArg (Option.bind _) (funext fun m => ?_)
   rw [if_pos (by omega), if_pos (by omega), if_pos (by omega)]
  ·
   refine Ev.bind em (Ev.bind ea (Ev.bind ex (Ev.bind ey ?_)))
   rcases both with ⟨e1, e2⟩ | both
   ·
    exact Ev.congr (fun k => by rw [if_pos e1, if_pos e2]) bRT
   ·
    have hne : ¬ x.1 = 3 := by rcases both with h | h <;> (have := h.1; omega)
    have hpre : x.2.2.2.1 <+: y.2.2.2.1 := by
     rcases both with ⟨_, rfl, _⟩ | ⟨_, _, h⟩
     ·
      exact List.prefix_refl _
     ·
      exact h
    have hle := hpre.length_le
    refine Ev.congr (fun k => by rw [if_neg hne, if_neg (by omega), if_pos (by omega), if_pos (by omega)]) ?_
    rw [Int.toNat_natCast, bTe hpre]
    exact Ev.bind (texts_same _ hx1) (bTW _ _ x y (by omega) (by omega) (by omega) hx1 hx2 both)
 exact key.rounds
end Go.Proofs.Ytiaeldibklcobaa.Pure
