/- What a call is handed, read as plain lists: slices of whatever can be told, opened element by element. -/
import Derived.Test.YtiaeldibklcobaaZRPWMore
import Derived.Deep.Slices
import Derived.ChangeArms
import Derived.SizedLaws
namespace Go.Proofs.Ytiaeldibklcobaa.aEf
open Go.RowKit Go.Proofs.YtiaeldibklcobaaW.bL Go.ChangeShapes Go.WideShapes Go.Deep
theorem ZU {α : Type} {R : Nat → α → Prop} (n : Nat) (h : ∀ i, i < n → ∃ a, R i a) : ∃ l : List α, l.length = n ∧ ∀ i a, l[i]? = some a → R i a := by
 induction n with
 | zero => exact ⟨[], rfl, fun i a h => by simp at h⟩
 | succ n ih =>
  obtain ⟨l, hl, hR⟩ := ih fun i hi => h i (by omega)
  obtain ⟨a, ha⟩ := h n (by omega)
  refine ⟨l ++ [a], by simp [hl], fun i b hb => ?_⟩
  rcases Nat.lt_trichotomy i n with hi | hi | hi
  ·
   exact hR i b (by rwa [List.getElem?_append_left (by omega)] at hb)
  ·
   subst hi
   rw [List.getElem?_append_right (by omega), hl, Nat.sub_self] at hb
   obtain rfl : a = b := by simpa using hb
   exact ha
  ·
   rw [List.getElem?_eq_none (by simp; omega)] at hb; cases hb
section
variable {H : Type} {enc : TypeId × Value → H} {P : Program} {W : World} {base : Nat} {spare : Nat → Bool} {held : Bool}
def aEg {α : Type} (enc : TypeId × Value → H) (P : Program) (W : World) (base : Nat) (spare : Nat → Bool) (held : Bool) (t : TypeId) (d : Kd α) (Q : α → Prop) : Prop :=
 ∀ fuel cs x, DataW.trod enc P W base spare held fuel t cs = some x → ∃ a, d.K W a cs ∧ Q a
theorem RI {t : TypeId} (ht : P.underlying t = some .string) : aEg enc P W base spare held t Kd.string (fun s => s.size ≤ maxLen) := by
 intro fuel cs x h
 obtain ⟨s, rfl, _, hw⟩ := DataW.trod_string ht h
 exact ⟨s, rfl, hw⟩
theorem opens {α : Type} {d : Kd α} {Q : α → Prop} {t e : TypeId} {fuel : Nat} {A : Option Addr} {len cap : Nat} {x : DataW H × List MemPlace} (ht : P.underlying t = some (.slice e)) (hC : P.cellsOf e = d.sz) (hel : aEg enc P W base spare held e d Q)
  (h : DataW.trod enc P W base spare held fuel t [.slice A len cap] = some x) :
  ∃ xs : List α, len = xs.length ∧ d.C W A xs.length xs ∧ xs.length ≤ cap ∧ xs.length ≤ maxLen ∧ (∀ a ∈ xs, Q a) ∧ (xs.length = 0 ∨ ∃ el sp, x.1 = .slice el sp ∧ el.length = xs.length) := by
 rcases open_slice ht h with ⟨hcs, _⟩ | ⟨a, l, c, m, n, D, Pl, hcs, hb, hl, hm, hmm, hx, hi⟩
 ·
  injection hcs with hcs _
  injection hcs with h1 h2 h3
  subst h1 h2 h3
  exact ⟨[], rfl, Kd.Pv _ _, Nat.le_refl _, by simp, by simp, .inl rfl⟩
 ·
  injection hcs with hcs _
  injection hcs with h1 h2 h3
  subst h1 h2 h3
  have hlm : len ≤ m := by rw [hmm]; split <;> omega
  obtain ⟨xs, hxl, hxs⟩ := ZU (R := fun i b => (∃ c : List Value, c.length = d.sz ∧ d.K W b c ∧ ∀ j u, c[j]? = some u → W.cell? (a.add (i * d.sz + j)) = some u) ∧ Q b) len (fun i hilt => by
   obtain ⟨cs', hc, htr⟩ := hi i (by omega)
   rw [hC] at hc
   obtain ⟨b, hK, hQ⟩ := hel _ _ _ htr
   obtain ⟨_, hcl, hat⟩ := World.cells?_some hc
   refine ⟨b, ⟨cs', hcl, hK, fun j u hu => ?_⟩, hQ⟩
   have hj : j < d.sz := by rw [← hcl]; exact (List.getElem?_eq_some_iff.1 hu).1
   rw [← Deep.add_add, hat j hj, hu])
  refine ⟨xs, hxl.symm, ⟨rfl, ?_, fun _ => ⟨a, rfl, fun j p hp => (hxs j p hp).1⟩⟩, by omega, by omega, fun b hb => ?_, .inr ⟨_, _, congrArg Prod.fst hx, by simp [hxl]⟩⟩
  ·
   have : maxLen ≤ 9223372036854775807 := by decide
   omega
  ·
   obtain ⟨i, hib⟩ := List.getElem?_of_mem hb
   exact (hxs i b hib).2
theorem handed {α : Type} {d : Kd α} {Q : α → Prop} {t e : TypeId} {A : Option Addr} {len cap : Nat} {y : DataW H} {ps : List MemPlace} {ts : List TypeId} {ds : List (DataW H)} {j : Nat}
  (hsz : (DataW.weightsEach P ts ds).all (· ≤ reachBytes) = true) (htj : ts[j]? = some t) (hdj : ds[j]? = some y) (ht : P.underlying t = some (.slice e)) (hC : P.cellsOf e = d.sz) {B : Nat} (hB : P.bytesOf e = B)
  (hel : aEg enc P W base spare held e d Q) (h : DataW.Trod enc P W base spare held t (.slice A len cap) y ps) :
  ∃ xs : List α, len = xs.length ∧ d.C W A xs.length xs ∧ xs.length ≤ cap ∧ xs.length * B ≤ 140737488351232 ∧ ∀ a ∈ xs, Q a := by
 obtain ⟨fuel, hf⟩ := h
 obtain ⟨xs, hl, hc, hcap, _, hQ, hs⟩ := opens ht hC hel hf
 refine ⟨xs, hl, hc, hcap, ?_, hQ⟩
 rcases hs with hs | ⟨el, sp, he, bRA⟩
 ·
  rw [hs]; omega
 ·
  have z := sized_slice hsz htj (by rw [hdj]; exact congrArg some he) ht
  rw [hB] at z
  have h1 : xs.length * B ≤ (el.length + sp.length) * B := Nat.mul_le_mul_right _ (by omega)
  have h2 : reachBytes = 140737488351232 := by decide
  omega
end
end Go.Proofs.Ytiaeldibklcobaa.aEf
