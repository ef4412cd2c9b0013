import Derived.Test.YtiaeldibklcobaaZRPWKept
namespace Go.Proofs.YtiaeldibklcobaaW.bL
open Go.RowKit
def Ob (P : World → Prop) (W : World) (ok : Nat → Prop) : Prop := ∀ W' : World, (∀ k, ok k → k < W.heap.size → W'.heap[k]? = W.heap[k]?) → P W'
theorem aEn {W W1 : World} {k : Nat} (h : W1.heap[k]? = W.heap[k]?) (hlt : k < W.heap.size) : k < W1.heap.size := by
 rw [Array.getElem?_eq_getElem hlt] at h
 exact (Array.getElem?_eq_some_iff.1 h).1
namespace Ob
variable {P Q : World → Prop} {W W1 : World} {ok ok' : Nat → Prop}
theorem now (h : Ob P W ok) : P W := h W (fun _ _ _ => rfl)
theorem mono (h : Ob P W ok) (hok : ∀ k, ok k → ok' k) : Ob P W ok' := fun W' hW => h W' (fun k hk hlt => hW k (hok k hk) hlt)
theorem bound (h : Ob P W ok) : Ob P W (fun k => ok k ∧ k < W.heap.size) := fun W' hW => h W' (fun k hk hlt => hW k ⟨hk, hlt⟩ hlt)
theorem step (h : Ob P W ok) (hm : ∀ k, ok k → k < W.heap.size → W1.heap[k]? = W.heap[k]?) : Ob P W1 ok := fun W' hW => h W' (fun k hk hlt => (hW k hk (aEn (hm k hk hlt) hlt)).trans (hm k hk hlt))
end Ob
namespace Kd
def F {α : Type} (d : Kd α) (W : World) (ok : Nat → Prop) (A : Option Addr) (n : Nat) (xs : List α) : Prop := Ob (fun W => d.C W A n xs) W ok
def FK {α : Type} (d : Kd α) (W : World) (ok : Nat → Prop) (x : α) (c : List Value) : Prop := Ob (fun W => d.K W x c) W ok
section
variable {α β : Type} {d : Kd α} {e base n n' cc g N : Nat} {ok ok' yO S : Nat → Prop} {w w0 w1 W W1 : World} {A A' : Option Addr} {u v v1 : Value} {xs : List α} {xs' : List β} {d' : Kd β} {x : α} {c : List Value}
theorem aPi (d : Kd α) (W : World) (ok : Nat → Prop) : F d W ok none ([] : List α).length [] := fun W' _ => Pv d W'
theorem R_F (h : d.R e W base ok (.slice A n cc) xs) : F d W ok A n xs := fun W' hW => by
 have h2 := cZ (Ny h hW)
 rw [h2.1]
 exact h2.2.2
theorem D6 (h : FK d W ok x c) : d.K W x c := Ob.now h
theorem NB (h : FK d W ok x c) (hok : ∀ k, ok k → ok' k) : FK d W ok' x c := Ob.mono h hok
theorem SC (h : FK d W ok x c) : FK d W (fun k => ok k ∧ k < W.heap.size) x c := Ob.bound h
theorem P9 (h : FK d W ok x c) (hm : ∀ k, ok k → k < W.heap.size → W1.heap[k]? = W.heap[k]?) : FK d W1 ok x c := Ob.step h hm
theorem aEo (h : d.M W base ok x c) : FK d W ok x c := fun _ hW => d.oD (xe h hW)
end
end Kd
end Go.Proofs.YtiaeldibklcobaaW.bL
