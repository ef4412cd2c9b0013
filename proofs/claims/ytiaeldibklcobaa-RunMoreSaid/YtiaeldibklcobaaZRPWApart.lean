import Derived.Test.YtiaeldibklcobaaZRPWWords
import Derived.Test.YtiaeldibklcobaaZRPWLast
namespace Go.Proofs.YtiaeldibklcobaaW.bL
open Go.RowKit
namespace Kd
def tag {α : Type} (f : Nat → Nat) (d : Kd α) : Kd (α × Nat) where
 sz := d.sz
 E := d.E
 K := fun w x cs => d.K w x.1 cs
 M := fun w base ok x cs => d.M w base (fun k => ok k ∧ f k = x.2) x.1 cs
 uY := fun h => d.uY h
 uZ := fun h => d.uZ h
 qM := fun hb h => d.qM hb h
 oD := fun h => d.oD h
 kK := fun hok h => d.kK (fun k hk => ⟨hok k hk.1, hk.2⟩) h
 lU := fun h => d.kK (fun _ hk => ⟨⟨hk.1.1, hk.2⟩, hk.1.2⟩) (d.lU h)
 qC := fun hm h => d.qC (fun k hk => hm k hk.1) h
 qN := fun hb h => d.qN hb h
def raw (sz : Nat) : Kd (List Value) where
 sz := sz
 E := []
 K := fun _ x cs => cs = x ∧ cs.length = sz ∧ ∀ u ∈ cs, u.oneCell' = true
 M := fun _ _ _ x cs => cs = x ∧ cs.length = sz ∧ ∀ u ∈ cs, u.oneCell' = true
 uY := fun h => h.2.1
 uZ := fun h => h.2.2
 qM := fun _ h => h
 oD := fun h => h
 kK := fun _ h => h
 lU := fun h => h
 qC := fun _ h => h
 qN := fun _ h => h
def S {α : Type} (d : Kd α) (e : Nat) (w : World) (base : Nat) (ok : Nat → Prop) (v : Value) (xs : List α) : Prop := ∃ f, (tag f d).R e w base ok v xs.zipIdx
section
variable {α β : Type} {d : Kd α} {d' : Kd β} {e e' : Nat} {w w1 W : World} {base b : Nat} {ok ok' okv oku : Nat → Prop} {u v : Value} {xs : List α} {ys : List β}
theorem aK8 {xs : List α} {j : Nat} {p : α} (h : xs[j]? = some p) : xs.zipIdx[j]? = some (p, j) := by rw [List.getElem?_zipIdx, h, Nat.zero_add]; rfl
theorem S_R (h : S d e w base ok v xs) : d.R e w base ok v xs := by
 obtain ⟨f, h0, inner, ho, hr⟩ := h
 rw [List.length_zipIdx] at ho
 exact ⟨h0, inner, ho, by have := hr.1; rw [List.length_zipIdx] at this; exact this, fun j p hj => d.kK (fun _ hk => hk.1) (hr.2 j (p, j) (aK8 hj))⟩
theorem sJ (hE : d.E = []) (h : d.R e w base ok v xs) : d.R e w base (fun k => some k = v.ownBlock) v xs := by
 obtain ⟨h0, inner, ho, hr⟩ := h
 refine ⟨fun k hk => hk.symm, inner, ho, hr.Dr (fun p c hp => d.kK (fun k hk => ?_) (d.lU hp))⟩
 obtain ⟨_, _, _, q, hq, _⟩ := hk
 rw [hE] at hq
 cases hq
theorem Hl (d : Kd α) (e : Nat) (w : World) (base : Nat) (ok : Nat → Prop) : S d e w base ok (.slice none 0 0) [] := ⟨fun _ => 0, mW _ _ _ _ _⟩
theorem vS (h : S d e w base ok v xs) (hok : ∀ k, ok k → ok' k) : S d e w base ok' v xs := by
 obtain ⟨f, h⟩ := h
 exact ⟨f, aQ h hok⟩
theorem Ze (h : S d e w base ok v xs) : S d e w base (fun k => ok k ∧ base ≤ k ∧ k < w.heap.size ∧ ∃ q, q ∈ e :: d.E ∧ ∃ cells, w.heap[k]? = some (.cells cells q (0, 0))) v xs := by
 obtain ⟨f, h⟩ := h
 exact ⟨f, jO h⟩
theorem aK9 (h : S d e w base ok v xs) (hm : ∀ k, ok k → w1.heap[k]? = w.heap[k]?) : S d e w1 base ok v xs := by
 obtain ⟨f, h⟩ := h
 exact ⟨f, bRW h hm⟩
theorem P7 {base' : Nat} (h : S d e w base ok v xs) (hb : base' ≤ base) : S d e w base' ok v xs := by
 obtain ⟨f, h⟩ := h
 exact ⟨f, eU h hb⟩
theorem MW (h : S d e w base ok v xs) (hm : ∀ k, ok k → k < w.heap.size → w1.heap[k]? = w.heap[k]?) : S d e w1 base ok v xs :=
 vS (aK9 (Ze h) (fun k hk => hm k hk.1 hk.2.2.1)) (fun _ hk => hk.1)
theorem MX (h : S d e w base ok v xs) (hb : Below w.heap.size w w1) : S d e w1 base ok v xs := MW h (fun k _ hk => hb.block k hk)
theorem Fp (h : S d e w base ok v xs) (o : Obj) : S d e (w.alloc o) base ok v xs := MX h (bT (Below.refl _ _) o)
theorem Hm (h : S d e w base ok v xs) : S d e w.drew base ok v xs := MX h (gN (Below.refl _ _))
theorem Fq (h : S d e w base ok v xs) (m : Nat) : S d e (w.drewN m) base ok v xs := MX h (bW (Below.refl _ _) m)
theorem rQ (h : S d e w base ok v xs) {p : Addr} (hok : ∀ k, ok k → k ≠ p.block) (u : Value) : S d e (w.setCell p u) base ok v xs := MW h (fun k ho _ => Below.heap_setCell w p u k (hok k ho))
theorem MZ (h : S d e w base ok v xs) {g : Nat} (hk : aU w w1 g none) (hok : ∀ k, ok k → k ≠ g) : S d e w1 base ok v xs := MW h (fun k ho hlt => hk.2 k hlt (hok k ho) (by simp))
theorem Qd (h : S d e w base ok v xs) {g t : Nat} {cells : Array Value} (hb : w.heap[g]? = some (.cells cells t (0, 0))) (ht : ∀ q, q ∈ e :: d.E → q ≠ t) : S d e w base (fun k => ok k ∧ k ≠ g) v xs := by
 obtain ⟨f, h⟩ := h
 exact ⟨f, dS h hb ht⟩
theorem P8 (h : S d e w base ok v xs) : ∀ k, v.ownBlock = some k → ∃ cells, w.heap[k]? = some (.cells cells e (0, 0)) := oG (S_R h)
theorem aLa (h : S d e w base ok v xs) : ∀ k, v.ownBlock = some k → base ≤ k := iV (S_R h)
theorem aPg {f f' : Nat → Nat} {zs : List (α × Nat)} (h : (tag f d).R e w base ok v zs) (hf : ∀ k, ok k → k < w.heap.size → f' k = f k) : (tag f' d).R e w base ok v zs := by
 obtain ⟨h0, inner, ho, hr⟩ := jO h
 exact ⟨fun k hk => (h0 k hk).1, inner, ho, hr.1, fun j p hj => d.kK (fun k hk => ⟨⟨hk.1.1.1, hk.1.2⟩, (hf k hk.1.1.1 hk.1.1.2.2.1).trans hk.2⟩) (hr.2 j p hj)⟩
end
section
variable {α β : Type} {d : Kd α} {d' : Kd β} {e e' g : Nat} {w w1 W : World} {base b : Nat} {ok ok' okv oku : Nat → Prop} {u v : Value} {xs : List α} {ys : List β}
theorem aEl (h : S d e w base ok v xs) {t : Nat} {cells : Array Value} (hb : w.heap[g]? = some (.cells cells t (0, 0))) (ht : e ≠ t) : some g ≠ v.ownBlock := nA (S_R h) hb ht
theorem aEm (h : S d e w base ok v xs) : v.ownBlock = none ∨ ∃ k, v.ownBlock = some k ∧ base ≤ k := Fj (S_R h)
theorem NA (h : S d e w base ok v xs) : ∃ A c, v = .slice A xs.length c := bJ (S_R h)
theorem xz (xs : List α) (p : α) : (xs ++ [p]).zipIdx = xs.zipIdx ++ [(p, xs.length)] := by rw [List.zipIdx_append]; simp
end
section
open Classical in
theorem aPh {α : Type} {d : Kd α} {e base : Nat} {okv : Nat → Prop} {w : World} {v : Value} {xs : List α} (h : S d e w base okv v xs) (m : Nat) (yO : Nat → Prop) (hap : ∀ k, yO k → ¬ okv k) : ∃ f, (∀ k, yO k → f k = m) ∧ (tag f d).R e w base okv v xs.zipIdx := by
 obtain ⟨f, h⟩ := h
 exact ⟨fun k => if yO k then m else f k, fun k hk => if_pos hk, aPg h (fun k hk _ => if_neg (fun h2 => hap k h2 hk))⟩
variable {P : Program} {ops : Array Oper} {rest : List Oper} {o : Oper} {a : Act} {Q : Exit → Act → World → Prop} {Kc : Act → World → Prop} {α : Type}
theorem IY (d : Kd α) {w0 W : World} (base : Nat) (hw : Region.wanted o (yielded ops a.tmps) = true) (s x : Operand) (t e : TypeId) (z : Value) (bytes : Nat)
  (ho : o.op = .call { callee := .builtin .append, args := #[s, x], argTypes := #[t, t] })
  (ht : P.underlying t = some (.slice e)) (hinfo : (P.info? e).map (fun i => (i.zero, i.size, i.bytes)) = some (some z, d.sz, bytes)) (hz : z.cells.size = d.sz) (hs0 : 0 < d.sz) (hb0 : 0 < bytes)
  (v : Value) (xs : List α) (p : α) (cs : List Value) (ok yO : Nat → Prop) (hs : a.eval s = v) (hx : a.eval x = .slice (some ⟨W.heap.size, 0, none⟩) 1 1) (hp : d.M W base yO p cs) (Vs : ∀ k, yO k → ok k ∧ some k ≠ v.ownBlock) (hfresh : ∀ k, W.heap.size ≤ k → ok k)
  (HO : S d e W base (fun k => ok k ∧ ¬ yO k) v xs) (HB : Below base w0 W) (hbase : base ≤ W.heap.size) (hl : (xs.length + 1) * bytes ≤ 140737488355328)
  (h : ∀ v1 w1, S d e w1 base ok v1 (xs ++ [p]) → Below base w0 w1 → W.grownBy w1 v.ownBlock → (v1.ownBlock = v.ownBlock ∨ ∃ b, v1.ownBlock = some b ∧ W.heap.size ≤ b) → Kc (a.put o.dst v1) w1) :
  if Region.wanted o (yielded ops a.tmps) = true then Oper.wp P o a (W.alloc (.cells cs.toArray e)) Kc Q else Kc (a.put o.dst undef) (W.alloc (.cells cs.toArray e)) := by
 obtain ⟨f, hf, hR⟩ := aPh HO xs.length yO (fun _ hk h2 => h2.2 hk)
 refine nO (tag f d) base hw s x t e z bytes ho ht hinfo hz hs0 hb0 v xs.zipIdx (p, xs.length) cs ok yO hs hx (d.kK (fun k hk => ⟨hk, hf k hk⟩) hp) Vs hfresh (aQ hR (fun _ hk => hk.1)) HB hbase (by rw [List.length_zipIdx]; exact hl) ?_
 intro v1 w1 hr
 rw [← xz] at hr
 exact h v1 w1 ⟨f, hr⟩
end
def gap {α : Type} (f : Nat → Nat) (d : Kd α) (i : Nat) (c : List Value) : Kd (α × Nat) where
 sz := d.sz
 E := d.E
 K := fun w x cs => (x.2 = i → cs = c ∧ cs.length = d.sz ∧ ∀ u ∈ cs, u.oneCell' = true) ∧ (x.2 ≠ i → d.K w x.1 cs)
 M := fun w base ok x cs => (x.2 = i → cs = c ∧ cs.length = d.sz ∧ ∀ u ∈ cs, u.oneCell' = true) ∧ (x.2 ≠ i → d.M w base (fun k => ok k ∧ f k = x.2) x.1 cs)
 uY := fun {w x cs} h => by
  by_cases hx : x.2 = i
  ·
   exact (h.1 hx).2.1
  ·
   exact d.uY (h.2 hx)
 uZ := fun {w x cs} h => by
  by_cases hx : x.2 = i
  ·
   exact (h.1 hx).2.2
  ·
   exact d.uZ (h.2 hx)
 qM := fun hb h => ⟨h.1, fun hx => d.qM hb (h.2 hx)⟩
 oD := fun h => ⟨h.1, fun hx => d.oD (h.2 hx)⟩
 kK := fun hok h => ⟨h.1, fun hx => d.kK (fun k hk => ⟨hok k hk.1, hk.2⟩) (h.2 hx)⟩
 lU := fun h => ⟨h.1, fun hx => d.kK (fun _ hk => ⟨⟨hk.1.1, hk.2⟩, hk.1.2⟩) (d.lU (h.2 hx))⟩
 qC := fun hm h => ⟨h.1, fun hx => d.qC (fun k hk => hm k hk.1) (h.2 hx)⟩
 qN := fun hb h => ⟨h.1, fun hx => d.qN hb (h.2 hx)⟩
def H {α : Type} (d : Kd α) (e : Nat) (w : World) (base : Nat) (ok : Nat → Prop) (v : Value) (xs : List α) (i : Int) (oki : Nat → Prop) (c : List Value) : Prop :=
 (∀ k, oki k → ok k) ∧ ∃ f, (gap f d i.toNat c).R e w base (fun k => ok k ∧ ¬ oki k) v xs.zipIdx
end Kd
end Go.Proofs.YtiaeldibklcobaaW.bL
