import Derived.Test.YtiaeldibklcobaaZRPx10
namespace Go.Proofs.Ytiaeldibklcobaa.eZ
open Go.RowKit Go.Proofs.YtiaeldibklcobaaW.bL Go.Proofs.YtiaeldibklcobaaW.fV Go.Proofs.YtiaeldibklcobaaW.iZ
set_option maxHeartbeats 8000000
set_option maxRecDepth 100000
attribute [local go_sem] kL kM lX lY jC jD kN kP
set_option linter.unusedVariables false
set_option linter.unusedSimpArgs false
structure bU.X (w0 w W : World) (g : Nat) (l : List iJ) (i d e a : Int) (b1 b2 : Nat) (x0 x1 x2 x3 x4 x5 x6 x7 x8 x9 tX Xp : Value) : Prop where
 hI : aH w0 W g l i d e a
 hB : Below w0.heap.size w0 W
 hK : aU w W g none
 h1 : W.heap[b1]? = some (.cells #[.int .i64 0, .int .i64 0, .string (⟨#[]⟩ : ByteArray), .string (⟨#[]⟩ : ByteArray), .string (⟨#[]⟩ : ByteArray), .bool false, .string (⟨#[]⟩ : ByteArray), .string (⟨#[]⟩ : ByteArray), .slice none 0 0, .slice none 0 0, .slice none 0 0, .slice none 0 0] 94 (0, 0))
 h2 : W.heap[b2]? = some (.cells #[x0, x1, x2, x3, x4, x5, x6, x7, x8, x9, tX, Xp] 94 (0, 0))
 h0 : w0.heap.size ≤ w.heap.size
 g1 : w.heap.size ≤ b1
 g2 : w.heap.size ≤ b2
 n1 : b1 ≠ g
 n2 : b2 ≠ g
 n12 : b1 ≠ b2
namespace bU
variable {w0 w W W' : World} {g : Nat} {l : List iJ} {i d e a i' d' e' a' : Int} {b1 b2 : Nat} {x0 x1 x2 x3 x4 x5 x6 x7 x8 x9 tX Xp : Value}
theorem X.call (x : X w0 w W g l i d e a b1 b2 x0 x1 x2 x3 x4 x5 x6 x7 x8 x9 tX Xp) (hi : aH w0 W' g l i' d' e' a') (hb : Below w0.heap.size w0 W') (hk : aU W W' g none) : X w0 w W' g l i' d' e' a' b1 b2 x0 x1 x2 x3 x4 x5 x6 x7 x8 x9 tX Xp :=
 ⟨hi, hb, aU.trans x.hK hk (.inl rfl), aU.blk hk x.h1 x.n1 (by simp), aU.blk hk x.h2 x.n2 (by simp), x.h0, x.g1, x.g2, x.n1, x.n2, x.n12⟩
theorem X.drewN (x : X w0 w W g l i d e a b1 b2 x0 x1 x2 x3 x4 x5 x6 x7 x8 x9 tX Xp) (m : Nat) : X w0 w (W.drewN m) g l i d e a b1 b2 x0 x1 x2 x3 x4 x5 x6 x7 x8 x9 tX Xp := ⟨aH.drewN x.hI m, bW x.hB m, lV x.hK m, x.h1, x.h2, x.h0, x.g1, x.g2, x.n1, x.n2, x.n12⟩
theorem X.put {y0 y1 y2 y3 y4 y5 y6 y7 y8 y9 uL zX : Value} (x : X w0 w W g l i d e a b1 b2 x0 x1 x2 x3 x4 x5 x6 x7 x8 x9 tX Xp) (j : Nat) (u : Value) (h : (W.setCell ⟨b2, j, none⟩ u).heap[b2]? = some (.cells #[y0, y1, y2, y3, y4, y5, y6, y7, y8, y9, uL, zX] 94 (0, 0))) : X w0 w (W.setCell ⟨b2, j, none⟩ u) g l i d e a b1 b2 y0 y1 y2 y3 y4 y5 y6 y7 y8 y9 uL zX :=
 ⟨aH.far x.hI (Ne.symm x.n2) _, aV x.hB (Nat.le_trans x.h0 x.g2), iA x.hK x.g2 _, dJ x.h1 x.n12 _, h, x.h0, x.g1, x.g2, x.n1, x.n2, x.n12⟩
theorem X.set0 (x : X w0 w W g l i d e a b1 b2 x0 x1 x2 x3 x4 x5 x6 x7 x8 x9 tX Xp) (u : Value) : X w0 w (W.setCell ⟨b2, 0, none⟩ u) g l i d e a b1 b2 u x1 x2 x3 x4 x5 x6 x7 x8 x9 tX Xp := x.put 0 u (bD x.h2 0 u rfl)
theorem X.set2 (x : X w0 w W g l i d e a b1 b2 x0 x1 x2 x3 x4 x5 x6 x7 x8 x9 tX Xp) (u : Value) : X w0 w (W.setCell ⟨b2, 2, none⟩ u) g l i d e a b1 b2 x0 x1 u x3 x4 x5 x6 x7 x8 x9 tX Xp := x.put 2 u (bD x.h2 2 u rfl)
theorem X.aMC (x : X w0 w W g l i d e a b1 b2 x0 x1 x2 x3 x4 x5 x6 x7 x8 x9 tX Xp) (u : Value) : X w0 w (W.setCell ⟨b2, 3, none⟩ u) g l i d e a b1 b2 x0 x1 x2 u x4 x5 x6 x7 x8 x9 tX Xp := x.put 3 u (bD x.h2 3 u rfl)
theorem X.bJ0 (x : X w0 w W g l i d e a b1 b2 x0 x1 x2 x3 x4 x5 x6 x7 x8 x9 tX Xp) (u : Value) : X w0 w (W.setCell ⟨b2, 4, none⟩ u) g l i d e a b1 b2 x0 x1 x2 x3 u x5 x6 x7 x8 x9 tX Xp := x.put 4 u (bD x.h2 4 u rfl)
theorem X.aBG (x : X w0 w W g l i d e a b1 b2 x0 x1 x2 x3 x4 x5 x6 x7 x8 x9 tX Xp) (u : Value) : X w0 w (W.setCell ⟨b2, 8, none⟩ u) g l i d e a b1 b2 x0 x1 x2 x3 x4 x5 x6 x7 u x9 tX Xp := x.put 8 u (bD x.h2 8 u rfl)
theorem X.aKA (x : X w0 w W g l i d e a b1 b2 x0 x1 x2 x3 x4 x5 x6 x7 x8 x9 tX Xp) (u : Value) : X w0 w (W.setCell ⟨b2, 10, none⟩ u) g l i d e a b1 b2 x0 x1 x2 x3 x4 x5 x6 x7 x8 x9 u Xp := x.put 10 u (bD x.h2 10 u rfl)
theorem X.aUz (x : X w0 w W g l i d e a b1 b2 x0 x1 x2 x3 x4 x5 x6 x7 x8 x9 tX Xp) (u : Value) : X w0 w (W.setCell ⟨b2, 11, none⟩ u) g l i d e a b1 b2 x0 x1 x2 x3 x4 x5 x6 x7 x8 x9 tX u := x.put 11 u (bD x.h2 11 u rfl)
theorem X.aBH (x : X w0 w W g l i d e a b1 b2 x0 x1 x2 x3 x4 x5 x6 x7 x8 x9 tX Xp) (y0 y1 y2 y3 y4 y5 y6 y7 y8 y9 uL zX : Value) : X w0 w ((((((((((((W.setCell ⟨b2, 0, none⟩ y0).setCell ⟨b2, 1, none⟩ y1).setCell ⟨b2, 2, none⟩ y2).setCell ⟨b2, 3, none⟩ y3).setCell ⟨b2, 4, none⟩ y4).setCell ⟨b2, 5, none⟩ y5).setCell ⟨b2, 6, none⟩ y6).setCell ⟨b2, 7, none⟩ y7).setCell ⟨b2, 8, none⟩ y8).setCell ⟨b2, 9, none⟩ y9).setCell ⟨b2, 10, none⟩ uL).setCell ⟨b2, 11, none⟩ zX) g l i d e a b1 b2 y0 y1 y2 y3 y4 y5 y6 y7 y8 y9 uL zX := by
 have z0 := x.put 0 y0 (bD x.h2 0 y0 rfl)
 have z1 := z0.put 1 y1 (bD z0.h2 1 y1 rfl)
 have z2 := z1.put 2 y2 (bD z1.h2 2 y2 rfl)
 have z3 := z2.put 3 y3 (bD z2.h2 3 y3 rfl)
 have z4 := z3.put 4 y4 (bD z3.h2 4 y4 rfl)
 have z5 := z4.put 5 y5 (bD z4.h2 5 y5 rfl)
 have z6 := z5.put 6 y6 (bD z5.h2 6 y6 rfl)
 have z7 := z6.put 7 y7 (bD z6.h2 7 y7 rfl)
 have z8 := z7.put 8 y8 (bD z7.h2 8 y8 rfl)
 have z9 := z8.put 9 y9 (bD z8.h2 9 y9 rfl)
 have z10 := z9.put 10 uL (bD z9.h2 10 uL rfl)
 have z11 := z10.put 11 zX (bD z10.h2 11 zX rfl)
 exact z11
theorem X.kV (x : X w0 w W g l i d e a b1 b2 x0 x1 x2 x3 x4 x5 x6 x7 x8 x9 tX Xp) : W.cell? ⟨b2, 0, none⟩ = some (x0) ∧ W.cell? ⟨b2, 1, none⟩ = some (x1) ∧ W.cell? ⟨b2, 2, none⟩ = some (x2) ∧ W.cell? ⟨b2, 3, none⟩ = some (x3) ∧ W.cell? ⟨b2, 4, none⟩ = some (x4) ∧ W.cell? ⟨b2, 5, none⟩ = some (x5) ∧ W.cell? ⟨b2, 6, none⟩ = some (x6) ∧ W.cell? ⟨b2, 7, none⟩ = some (x7) ∧ W.cell? ⟨b2, 8, none⟩ = some (x8) ∧ W.cell? ⟨b2, 9, none⟩ = some (x9) ∧ W.cell? ⟨b2, 10, none⟩ = some (tX) ∧ W.cell? ⟨b2, 11, none⟩ = some (Xp) ∧ W.frozen? ⟨b2, 0, none⟩ = false ∧ W.frozen? ⟨b2, 1, none⟩ = false ∧ W.frozen? ⟨b2, 2, none⟩ = false ∧ W.frozen? ⟨b2, 3, none⟩ = false ∧ W.frozen? ⟨b2, 4, none⟩ = false ∧ W.frozen? ⟨b2, 5, none⟩ = false ∧ W.frozen? ⟨b2, 6, none⟩ = false ∧ W.frozen? ⟨b2, 7, none⟩ = false ∧ W.frozen? ⟨b2, 8, none⟩ = false ∧ W.frozen? ⟨b2, 9, none⟩ = false ∧ W.frozen? ⟨b2, 10, none⟩ = false ∧ W.frozen? ⟨b2, 11, none⟩ = false :=
 ⟨(aA x.h2 0).trans rfl, (aA x.h2 1).trans rfl, (aA x.h2 2).trans rfl, (aA x.h2 3).trans rfl, (aA x.h2 4).trans rfl, (aA x.h2 5).trans rfl, (aA x.h2 6).trans rfl, (aA x.h2 7).trans rfl, (aA x.h2 8).trans rfl, (aA x.h2 9).trans rfl, (aA x.h2 10).trans rfl, (aA x.h2 11).trans rfl, aD x.h2 0, aD x.h2 1, aD x.h2 2, aD x.h2 3, aD x.h2 4, aD x.h2 5, aD x.h2 6, aD x.h2 7, aD x.h2 8, aD x.h2 9, aD x.h2 10, aD x.h2 11⟩
theorem X.Df (x : X w0 w W g l i d e a b1 b2 x0 x1 x2 x3 x4 x5 x6 x7 x8 x9 tX Xp) : W.cell? ⟨b1, 0, none⟩ = some (.int .i64 0) ∧ W.cell? ⟨b1, 1, none⟩ = some (.int .i64 0) ∧ W.cell? ⟨b1, 2, none⟩ = some (.string (⟨#[]⟩ : ByteArray)) ∧ W.cell? ⟨b1, 3, none⟩ = some (.string (⟨#[]⟩ : ByteArray)) ∧ W.cell? ⟨b1, 4, none⟩ = some (.string (⟨#[]⟩ : ByteArray)) ∧ W.cell? ⟨b1, 5, none⟩ = some (.bool false) ∧ W.cell? ⟨b1, 6, none⟩ = some (.string (⟨#[]⟩ : ByteArray)) ∧ W.cell? ⟨b1, 7, none⟩ = some (.string (⟨#[]⟩ : ByteArray)) ∧ W.cell? ⟨b1, 8, none⟩ = some (.slice none 0 0) ∧ W.cell? ⟨b1, 9, none⟩ = some (.slice none 0 0) ∧ W.cell? ⟨b1, 10, none⟩ = some (.slice none 0 0) ∧ W.cell? ⟨b1, 11, none⟩ = some (.slice none 0 0) ∧ W.frozen? ⟨b1, 0, none⟩ = false ∧ W.frozen? ⟨b1, 1, none⟩ = false ∧ W.frozen? ⟨b1, 2, none⟩ = false ∧ W.frozen? ⟨b1, 3, none⟩ = false ∧ W.frozen? ⟨b1, 4, none⟩ = false ∧ W.frozen? ⟨b1, 5, none⟩ = false ∧ W.frozen? ⟨b1, 6, none⟩ = false ∧ W.frozen? ⟨b1, 7, none⟩ = false ∧ W.frozen? ⟨b1, 8, none⟩ = false ∧ W.frozen? ⟨b1, 9, none⟩ = false ∧ W.frozen? ⟨b1, 10, none⟩ = false ∧ W.frozen? ⟨b1, 11, none⟩ = false :=
 ⟨(aA x.h1 0).trans rfl, (aA x.h1 1).trans rfl, (aA x.h1 2).trans rfl, (aA x.h1 3).trans rfl, (aA x.h1 4).trans rfl, (aA x.h1 5).trans rfl, (aA x.h1 6).trans rfl, (aA x.h1 7).trans rfl, (aA x.h1 8).trans rfl, (aA x.h1 9).trans rfl, (aA x.h1 10).trans rfl, (aA x.h1 11).trans rfl, aD x.h1 0, aD x.h1 1, aD x.h1 2, aD x.h1 3, aD x.h1 4, aD x.h1 5, aD x.h1 6, aD x.h1 7, aD x.h1 8, aD x.h1 9, aD x.h1 10, aD x.h1 11⟩
theorem X.fin (x : X w0 w W g l i d e a b1 b2 x0 x1 x2 x3 x4 x5 x6 x7 x8 x9 tX Xp) (y0 y1 y2 y3 y4 y5 y6 y7 y8 y9 uL zX : Value) : ((((((((((((W.setCell ⟨b1, 0, none⟩ y0).setCell ⟨b1, 1, none⟩ y1).setCell ⟨b1, 2, none⟩ y2).setCell ⟨b1, 3, none⟩ y3).setCell ⟨b1, 4, none⟩ y4).setCell ⟨b1, 5, none⟩ y5).setCell ⟨b1, 6, none⟩ y6).setCell ⟨b1, 7, none⟩ y7).setCell ⟨b1, 8, none⟩ y8).setCell ⟨b1, 9, none⟩ y9).setCell ⟨b1, 10, none⟩ uL).setCell ⟨b1, 11, none⟩ zX).heap[b1]? = some (.cells #[y0, y1, y2, y3, y4, y5, y6, y7, y8, y9, uL, zX] 94 (0, 0)) ∧ aH w0 ((((((((((((W.setCell ⟨b1, 0, none⟩ y0).setCell ⟨b1, 1, none⟩ y1).setCell ⟨b1, 2, none⟩ y2).setCell ⟨b1, 3, none⟩ y3).setCell ⟨b1, 4, none⟩ y4).setCell ⟨b1, 5, none⟩ y5).setCell ⟨b1, 6, none⟩ y6).setCell ⟨b1, 7, none⟩ y7).setCell ⟨b1, 8, none⟩ y8).setCell ⟨b1, 9, none⟩ y9).setCell ⟨b1, 10, none⟩ uL).setCell ⟨b1, 11, none⟩ zX) g l i d e a ∧ Below w0.heap.size w0 ((((((((((((W.setCell ⟨b1, 0, none⟩ y0).setCell ⟨b1, 1, none⟩ y1).setCell ⟨b1, 2, none⟩ y2).setCell ⟨b1, 3, none⟩ y3).setCell ⟨b1, 4, none⟩ y4).setCell ⟨b1, 5, none⟩ y5).setCell ⟨b1, 6, none⟩ y6).setCell ⟨b1, 7, none⟩ y7).setCell ⟨b1, 8, none⟩ y8).setCell ⟨b1, 9, none⟩ y9).setCell ⟨b1, 10, none⟩ uL).setCell ⟨b1, 11, none⟩ zX) ∧ aU w ((((((((((((W.setCell ⟨b1, 0, none⟩ y0).setCell ⟨b1, 1, none⟩ y1).setCell ⟨b1, 2, none⟩ y2).setCell ⟨b1, 3, none⟩ y3).setCell ⟨b1, 4, none⟩ y4).setCell ⟨b1, 5, none⟩ y5).setCell ⟨b1, 6, none⟩ y6).setCell ⟨b1, 7, none⟩ y7).setCell ⟨b1, 8, none⟩ y8).setCell ⟨b1, 9, none⟩ y9).setCell ⟨b1, 10, none⟩ uL).setCell ⟨b1, 11, none⟩ zX) g none := by
 have q := Ne.symm x.n1
 have z := Nat.le_trans x.h0 x.g1
 have z0 : (W.setCell ⟨b1, 0, none⟩ y0).heap[b1]? = some (.cells #[y0, .int .i64 0, .string (⟨#[]⟩ : ByteArray), .string (⟨#[]⟩ : ByteArray), .string (⟨#[]⟩ : ByteArray), .bool false, .string (⟨#[]⟩ : ByteArray), .string (⟨#[]⟩ : ByteArray), .slice none 0 0, .slice none 0 0, .slice none 0 0, .slice none 0 0] 94 (0, 0)) := bD x.h1 0 _ rfl
 have z1 : ((W.setCell ⟨b1, 0, none⟩ y0).setCell ⟨b1, 1, none⟩ y1).heap[b1]? = some (.cells #[y0, y1, .string (⟨#[]⟩ : ByteArray), .string (⟨#[]⟩ : ByteArray), .string (⟨#[]⟩ : ByteArray), .bool false, .string (⟨#[]⟩ : ByteArray), .string (⟨#[]⟩ : ByteArray), .slice none 0 0, .slice none 0 0, .slice none 0 0, .slice none 0 0] 94 (0, 0)) := bD z0 1 _ rfl
 have z2 : (((W.setCell ⟨b1, 0, none⟩ y0).setCell ⟨b1, 1, none⟩ y1).setCell ⟨b1, 2, none⟩ y2).heap[b1]? = some (.cells #[y0, y1, y2, .string (⟨#[]⟩ : ByteArray), .string (⟨#[]⟩ : ByteArray), .bool false, .string (⟨#[]⟩ : ByteArray), .string (⟨#[]⟩ : ByteArray), .slice none 0 0, .slice none 0 0, .slice none 0 0, .slice none 0 0] 94 (0, 0)) := bD z1 2 _ rfl
 have z3 : ((((W.setCell ⟨b1, 0, none⟩ y0).setCell ⟨b1, 1, none⟩ y1).setCell ⟨b1, 2, none⟩ y2).setCell ⟨b1, 3, none⟩ y3).heap[b1]? = some (.cells #[y0, y1, y2, y3, .string (⟨#[]⟩ : ByteArray), .bool false, .string (⟨#[]⟩ : ByteArray), .string (⟨#[]⟩ : ByteArray), .slice none 0 0, .slice none 0 0, .slice none 0 0, .slice none 0 0] 94 (0, 0)) := bD z2 3 _ rfl
 have z4 : (((((W.setCell ⟨b1, 0, none⟩ y0).setCell ⟨b1, 1, none⟩ y1).setCell ⟨b1, 2, none⟩ y2).setCell ⟨b1, 3, none⟩ y3).setCell ⟨b1, 4, none⟩ y4).heap[b1]? = some (.cells #[y0, y1, y2, y3, y4, .bool false, .string (⟨#[]⟩ : ByteArray), .string (⟨#[]⟩ : ByteArray), .slice none 0 0, .slice none 0 0, .slice none 0 0, .slice none 0 0] 94 (0, 0)) := bD z3 4 _ rfl
 have z5 : ((((((W.setCell ⟨b1, 0, none⟩ y0).setCell ⟨b1, 1, none⟩ y1).setCell ⟨b1, 2, none⟩ y2).setCell ⟨b1, 3, none⟩ y3).setCell ⟨b1, 4, none⟩ y4).setCell ⟨b1, 5, none⟩ y5).heap[b1]? = some (.cells #[y0, y1, y2, y3, y4, y5, .string (⟨#[]⟩ : ByteArray), .string (⟨#[]⟩ : ByteArray), .slice none 0 0, .slice none 0 0, .slice none 0 0, .slice none 0 0] 94 (0, 0)) := bD z4 5 _ rfl
 have z6 : (((((((W.setCell ⟨b1, 0, none⟩ y0).setCell ⟨b1, 1, none⟩ y1).setCell ⟨b1, 2, none⟩ y2).setCell ⟨b1, 3, none⟩ y3).setCell ⟨b1, 4, none⟩ y4).setCell ⟨b1, 5, none⟩ y5).setCell ⟨b1, 6, none⟩ y6).heap[b1]? = some (.cells #[y0, y1, y2, y3, y4, y5, y6, .string (⟨#[]⟩ : ByteArray), .slice none 0 0, .slice none 0 0, .slice none 0 0, .slice none 0 0] 94 (0, 0)) := bD z5 6 _ rfl
 have z7 : ((((((((W.setCell ⟨b1, 0, none⟩ y0).setCell ⟨b1, 1, none⟩ y1).setCell ⟨b1, 2, none⟩ y2).setCell ⟨b1, 3, none⟩ y3).setCell ⟨b1, 4, none⟩ y4).setCell ⟨b1, 5, none⟩ y5).setCell ⟨b1, 6, none⟩ y6).setCell ⟨b1, 7, none⟩ y7).heap[b1]? = some (.cells #[y0, y1, y2, y3, y4, y5, y6, y7, .slice none 0 0, .slice none 0 0, .slice none 0 0, .slice none 0 0] 94 (0, 0)) := bD z6 7 _ rfl
 have z8 : (((((((((W.setCell ⟨b1, 0, none⟩ y0).setCell ⟨b1, 1, none⟩ y1).setCell ⟨b1, 2, none⟩ y2).setCell ⟨b1, 3, none⟩ y3).setCell ⟨b1, 4, none⟩ y4).setCell ⟨b1, 5, none⟩ y5).setCell ⟨b1, 6, none⟩ y6).setCell ⟨b1, 7, none⟩ y7).setCell ⟨b1, 8, none⟩ y8).heap[b1]? = some (.cells #[y0, y1, y2, y3, y4, y5, y6, y7, y8, .slice none 0 0, .slice none 0 0, .slice none 0 0] 94 (0, 0)) := bD z7 8 _ rfl
 have z9 : ((((((((((W.setCell ⟨b1, 0, none⟩ y0).setCell ⟨b1, 1, none⟩ y1).setCell ⟨b1, 2, none⟩ y2).setCell ⟨b1, 3, none⟩ y3).setCell ⟨b1, 4, none⟩ y4).setCell ⟨b1, 5, none⟩ y5).setCell ⟨b1, 6, none⟩ y6).setCell ⟨b1, 7, none⟩ y7).setCell ⟨b1, 8, none⟩ y8).setCell ⟨b1, 9, none⟩ y9).heap[b1]? = some (.cells #[y0, y1, y2, y3, y4, y5, y6, y7, y8, y9, .slice none 0 0, .slice none 0 0] 94 (0, 0)) := bD z8 9 _ rfl
 have z10 : (((((((((((W.setCell ⟨b1, 0, none⟩ y0).setCell ⟨b1, 1, none⟩ y1).setCell ⟨b1, 2, none⟩ y2).setCell ⟨b1, 3, none⟩ y3).setCell ⟨b1, 4, none⟩ y4).setCell ⟨b1, 5, none⟩ y5).setCell ⟨b1, 6, none⟩ y6).setCell ⟨b1, 7, none⟩ y7).setCell ⟨b1, 8, none⟩ y8).setCell ⟨b1, 9, none⟩ y9).setCell ⟨b1, 10, none⟩ uL).heap[b1]? = some (.cells #[y0, y1, y2, y3, y4, y5, y6, y7, y8, y9, uL, .slice none 0 0] 94 (0, 0)) := bD z9 10 _ rfl
 have z11 : ((((((((((((W.setCell ⟨b1, 0, none⟩ y0).setCell ⟨b1, 1, none⟩ y1).setCell ⟨b1, 2, none⟩ y2).setCell ⟨b1, 3, none⟩ y3).setCell ⟨b1, 4, none⟩ y4).setCell ⟨b1, 5, none⟩ y5).setCell ⟨b1, 6, none⟩ y6).setCell ⟨b1, 7, none⟩ y7).setCell ⟨b1, 8, none⟩ y8).setCell ⟨b1, 9, none⟩ y9).setCell ⟨b1, 10, none⟩ uL).setCell ⟨b1, 11, none⟩ zX).heap[b1]? = some (.cells #[y0, y1, y2, y3, y4, y5, y6, y7, y8, y9, uL, zX] 94 (0, 0)) := bD z10 11 _ rfl
 exact ⟨z11, (aH.far (aH.far (aH.far (aH.far (aH.far (aH.far (aH.far (aH.far (aH.far (aH.far (aH.far (aH.far x.hI q _) q _) q _) q _) q _) q _) q _) q _) q _) q _) q _) q _), (aV (aV (aV (aV (aV (aV (aV (aV (aV (aV (aV (aV x.hB z) z) z) z) z) z) z) z) z) z) z) z), (iA (iA (iA (iA (iA (iA (iA (iA (iA (iA (iA (iA x.hK x.g1 _) x.g1 _) x.g1 _) x.g1 _) x.g1 _) x.g1 _) x.g1 _) x.g1 _) x.g1 _) x.g1 _) x.g1 _) x.g1 _)⟩
theorem X.lt (x : X w0 w W g l i d e a b1 b2 x0 x1 x2 x3 x4 x5 x6 x7 x8 x9 tX Xp) : g < W.heap.size ∧ b1 < W.heap.size ∧ b2 < W.heap.size ∧ w.heap.size ≤ W.heap.size := ⟨aH.lt x.hI, gB x.h1, gB x.h2, eG x.hK⟩
end bU
theorem bU.bu {α : Type} {d : Kd α} {e lo g : Nat} {ok : Nat → Prop} {W W' : World} {v : Value} {xs : List α} (h : d.R e W lo ok v xs) (hk : aU W W' g none) (hg : g < lo) : d.R e W' lo ok v xs :=
 Kd.aQ (Kd.fC (Kd.aQ (ok' := fun k => ok k ∧ k ≠ g) (Kd.jO h) (fun k hk => ⟨hk.1, by have := hk.2.1; omega⟩)) hk (fun _ hk => hk.2)) (fun _ hk => hk.1)
theorem bU.Wq {α : Type} {d : Kd α} {e lo g : Nat} {ok : Nat → Prop} {W : World} {v : Value} {xs : List α} (h : d.R e W lo ok v xs) (hg : g < lo) (j : Nat) (u : Value) : d.R e (W.setCell ⟨g, j, none⟩ u) lo ok v xs :=
 Kd.aQ (RL (Kd.aQ (ok' := fun k => ok k ∧ k ≠ g) (Kd.jO h) (fun k hk => ⟨hk.1, by have := hk.2.1; omega⟩)) (fun _ hk => hk.2)) (fun _ hk => hk.1)
theorem bU.Ou {α : Type} {d : Kd α} {e lo g : Nat} {ok : Nat → Prop} {W : World} {v : Value} {xs : List α} (h : d.R e W lo ok v xs) (hg : g < lo) (y0 y1 y2 y3 y4 y5 y6 y7 y8 y9 uL zX : Value) : d.R e ((((((((((((W.setCell ⟨g, 0, none⟩ y0).setCell ⟨g, 1, none⟩ y1).setCell ⟨g, 2, none⟩ y2).setCell ⟨g, 3, none⟩ y3).setCell ⟨g, 4, none⟩ y4).setCell ⟨g, 5, none⟩ y5).setCell ⟨g, 6, none⟩ y6).setCell ⟨g, 7, none⟩ y7).setCell ⟨g, 8, none⟩ y8).setCell ⟨g, 9, none⟩ y9).setCell ⟨g, 10, none⟩ uL).setCell ⟨g, 11, none⟩ zX) lo ok v xs :=
 (bU.Wq (bU.Wq (bU.Wq (bU.Wq (bU.Wq (bU.Wq (bU.Wq (bU.Wq (bU.Wq (bU.Wq (bU.Wq (bU.Wq h hg 0 y0) hg 1 y1) hg 2 y2) hg 3 y3) hg 4 y4) hg 5 y5) hg 6 y6) hg 7 y7) hg 8 y8) hg 9 y9) hg 10 uL) hg 11 zX)
theorem bU.aUA {α : Type} {d : Kd α} {e lo g : Nat} {ok : Nat → Prop} {W W' : World} {v : Value} {xs : List α} (h : Kd.S d e W lo ok v xs) (hk : aU W W' g none) (hg : g < lo) : Kd.S d e W' lo ok v xs :=
 Kd.vS (Kd.MZ (Kd.vS (ok' := fun k => ok k ∧ k ≠ g) (Kd.Ze h) (fun k hk => ⟨hk.1, by have := hk.2.1; omega⟩)) hk (fun _ hk => hk.2)) (fun _ hk => hk.1)
theorem bU.Yz {α : Type} {d : Kd α} {e lo g : Nat} {ok : Nat → Prop} {W : World} {v : Value} {xs : List α} (h : Kd.S d e W lo ok v xs) (hg : g < lo) (j : Nat) (u : Value) : Kd.S d e (W.setCell ⟨g, j, none⟩ u) lo ok v xs :=
 Kd.vS (Kd.rQ (p := ⟨g, j, none⟩) (Kd.vS (ok' := fun k => ok k ∧ k ≠ g) (Kd.Ze h) (fun k hk => ⟨hk.1, by have := hk.2.1; omega⟩)) (fun _ hk => hk.2) u) (fun _ hk => hk.1)
theorem bU.aBI {α : Type} {d : Kd α} {e lo g : Nat} {ok : Nat → Prop} {W : World} {v : Value} {xs : List α} (h : Kd.S d e W lo ok v xs) (hg : g < lo) (y0 y1 y2 y3 y4 y5 y6 y7 y8 y9 uL zX : Value) : Kd.S d e ((((((((((((W.setCell ⟨g, 0, none⟩ y0).setCell ⟨g, 1, none⟩ y1).setCell ⟨g, 2, none⟩ y2).setCell ⟨g, 3, none⟩ y3).setCell ⟨g, 4, none⟩ y4).setCell ⟨g, 5, none⟩ y5).setCell ⟨g, 6, none⟩ y6).setCell ⟨g, 7, none⟩ y7).setCell ⟨g, 8, none⟩ y8).setCell ⟨g, 9, none⟩ y9).setCell ⟨g, 10, none⟩ uL).setCell ⟨g, 11, none⟩ zX) lo ok v xs :=
 (bU.Yz (bU.Yz (bU.Yz (bU.Yz (bU.Yz (bU.Yz (bU.Yz (bU.Yz (bU.Yz (bU.Yz (bU.Yz (bU.Yz h hg 0 y0) hg 1 y1) hg 2 y2) hg 3 y3) hg 4 y4) hg 5 y5) hg 6 y6) hg 7 y7) hg 8 y8) hg 9 y9) hg 10 uL) hg 11 zX)
def bU.Row {α : Type} (B : Nat) (d : Kd α) (e : Nat) (W : World) (lo hi : Nat) (v : Value) (xs : List α) : Prop := d.R e W lo (fun k => k < hi) v xs ∧ B ≤ lo ∧ hi ≤ W.heap.size
namespace bU.Row
variable {α : Type} {B : Nat} {d : Kd α} {e lo hi g : Nat} {W W' : World} {v : Value} {xs : List α} {ok : Nat → Prop}
theorem mk' (h : d.R e W' lo ok v xs) (hB : B ≤ lo) : Row B d e W' lo W'.heap.size v xs := ⟨Kd.aQ (Kd.jO h) (fun _ hk => hk.2.2.1), hB, Nat.le_refl _⟩
theorem call (h : Row B d e W lo hi v xs) (hk : aU W W' g none) (hg : g < lo) : Row B d e W' lo hi v xs := ⟨bU.bu h.1 hk hg, h.2.1, Nat.le_trans h.2.2 (eG hk)⟩
theorem far (h : Row B d e W lo hi v xs) (hg : g < lo) (j : Nat) (u : Value) : Row B d e (W.setCell ⟨g, j, none⟩ u) lo hi v xs := ⟨bU.Wq h.1 hg j u, h.2.1, by simpa [World.setCell] using h.2.2⟩
theorem own (h : Row B d e W lo hi v xs) : ∀ k, v.ownBlock = some k → lo ≤ k ∧ k < hi := fun k hk => ⟨Kd.iV h.1 k hk, h.1.1 k hk⟩
theorem fin (h : Row B d e W lo hi v xs) (hok : ∀ k, lo ≤ k → k < hi → ok k) : d.R e W B ok v xs := Kd.eU (Kd.aQ (Kd.jO h.1) (fun k hk => hok k hk.2.1 hk.1)) h.2.1
theorem Ng (h : Row B d e W lo hi v xs) (hg : g < lo) (y0 y1 y2 y3 y4 y5 y6 y7 y8 y9 uL zX : Value) : Row B d e ((((((((((((W.setCell ⟨g, 0, none⟩ y0).setCell ⟨g, 1, none⟩ y1).setCell ⟨g, 2, none⟩ y2).setCell ⟨g, 3, none⟩ y3).setCell ⟨g, 4, none⟩ y4).setCell ⟨g, 5, none⟩ y5).setCell ⟨g, 6, none⟩ y6).setCell ⟨g, 7, none⟩ y7).setCell ⟨g, 8, none⟩ y8).setCell ⟨g, 9, none⟩ y9).setCell ⟨g, 10, none⟩ uL).setCell ⟨g, 11, none⟩ zX) lo hi v xs := ⟨bU.Ou h.1 hg y0 y1 y2 y3 y4 y5 y6 y7 y8 y9 uL zX, h.2.1, by simpa [World.setCell] using h.2.2⟩
end bU.Row
theorem bU.Il (k g : Nat) (l : List iJ) (i d e a : Int) (r1 : List dP) (r2 r3 r4 r5 : Int) (w0 W : World) (hI : aH w0 W g l i d e a) (hB : Below w0.heap.size w0 W) (h : fZ.f k l i d e a ([] : List dP) = some (r1, r2, r3, r4, r5)) :
  Calls Try.prog 49 #[.pointer (some ⟨g, 0, none⟩), .slice none 0 0] W fun e w' => ∃ v : Value, e = .returned v ∧ Kd.R gU 112 w' W.heap.size (fun _ => True) v r1 ∧ aH w0 w' g l r2 r3 r4 r5 ∧ Below w0.heap.size w0 w' ∧ aU W w' g none := by
 refine (fZ.calls k g l i d e a (fun _ => False) (.slice none 0 0) [] r1 r2 r3 r4 r5 w0 W hI hB (Kd.mW _ _ _ _ _) h).mono ?_
 rintro e w' ⟨v, rfl, ho, hi, hb, hk⟩
 exact ⟨v, rfl, Kd.aQ (Kd.Q5 (d := gU) (b := w0.heap.size) (b' := W.heap.size) (fun _ _ _ _ h_ => h_) ho (fun k_ e_ => (ho.1 k_ e_).elim (fun h => h.elim) id)) (fun _ _ => trivial), hi, hb, Kept.aJl (aU.refl W g none) hk (fun k_ hs => hs.elim (fun h => h.elim) (fun e_ => .inl e_))⟩
theorem bU.step (k : Nat) (aKB : aG (∀ m, m < k → ∀ (g : Nat) (aK : List (iJ)) (aX : Int) (bM : Int) (bN : Int) (bQ : Int) (r1 : Int) (r2 : Int) (r3 : ByteArray) (r4 : ByteArray) (r5 : ByteArray) (r6 : Bool) (r7 : ByteArray) (r8 : ByteArray) (r9 : List (dP)) (Hu : List (List (dP))) (Hw : List (mO)) (Ml : List (mO)) (DT : Int) (DU : Int) (DV : Int) (r16 : Int) (w0 w : World) (hI : aH w0 w g aK aX bM bN bQ) (hB : Below w0.heap.size w0 w) (h : bU.f m aK aX bM bN bQ = some (r1, r2, r3, r4, r5, r6, r7, r8, r9, Hu, Hw, Ml, DT, DU, DV, r16)),
  Calls Try.prog 44 #[.pointer (some ⟨g, 0, none⟩)] w fun e w' => ∃ Ik Ru Ap Aq : Value, e = .returned (.agg #[.int .i64 r1, .int .i64 r2, .string r3, .string r4, .string r5, .bool r6, .string r7, .string r8, Ik, Ru, Ap, Aq]) ∧ Kd.R gU 112 w' w.heap.size (fun _ => True) Ik r9 ∧ Kd.S (Kd.slice 112 gU) 91 w' w.heap.size (fun k_ => some k_ ≠ (Ik : Value).ownBlock) Ru Hu ∧ Kd.R Fv 94 w' w.heap.size (fun k_ => some k_ ≠ (Ik : Value).ownBlock ∧ some k_ ≠ (Ru : Value).ownBlock ∧ some k_ ≠ (Aq : Value).ownBlock) Ap Hw ∧ Kd.R Fv 94 w' w.heap.size (fun k_ => some k_ ≠ (Ik : Value).ownBlock ∧ some k_ ≠ (Ru : Value).ownBlock ∧ some k_ ≠ (Ap : Value).ownBlock) Aq Ml ∧ aH w0 w' g aK DT DU DV r16 ∧ Below w0.heap.size w0 w' ∧ aU w w' g none)) (bz : aG (∀ m, m < k → ∀ (g : Nat) (aK : List (iJ)) (aX : Int) (bM : Int) (bN : Int) (bQ : Int) (r1 : List (mO)) (r2 : Int) (r3 : Int) (r4 : Int) (r5 : Int) (w0 w : World) (hI : aH w0 w g aK aX bM bN bQ) (hB : Below w0.heap.size w0 w) (h : fO.f m aK aX bM bN bQ = some (r1, r2, r3, r4, r5)),
  Calls Try.prog 37 #[.pointer (some ⟨g, 0, none⟩)] w fun e w' => ∃ lZ : Value, e = .returned (lZ) ∧ Kd.R Fv 94 w' w.heap.size (fun _ => True) lZ r1 ∧ aH w0 w' g aK r2 r3 r4 r5 ∧ Below w0.heap.size w0 w' ∧ aU w w' g none)) : ∀ (g : Nat) (aK : List (iJ)) (aX : Int) (bM : Int) (bN : Int) (bQ : Int) (r1 : Int) (r2 : Int) (r3 : ByteArray) (r4 : ByteArray) (r5 : ByteArray) (r6 : Bool) (r7 : ByteArray) (r8 : ByteArray) (r9 : List (dP)) (Hu : List (List (dP))) (Hw : List (mO)) (Ml : List (mO)) (DT : Int) (DU : Int) (DV : Int) (r16 : Int) (w0 w : World) (hI : aH w0 w g aK aX bM bN bQ) (hB : Below w0.heap.size w0 w) (h : bU.f k aK aX bM bN bQ = some (r1, r2, r3, r4, r5, r6, r7, r8, r9, Hu, Hw, Ml, DT, DU, DV, r16)),
  Calls Try.prog 44 #[.pointer (some ⟨g, 0, none⟩)] w fun e w' => ∃ Ik Ru Ap Aq : Value, e = .returned (.agg #[.int .i64 r1, .int .i64 r2, .string r3, .string r4, .string r5, .bool r6, .string r7, .string r8, Ik, Ru, Ap, Aq]) ∧ Kd.R gU 112 w' w.heap.size (fun _ => True) Ik r9 ∧ Kd.S (Kd.slice 112 gU) 91 w' w.heap.size (fun k_ => some k_ ≠ (Ik : Value).ownBlock) Ru Hu ∧ Kd.R Fv 94 w' w.heap.size (fun k_ => some k_ ≠ (Ik : Value).ownBlock ∧ some k_ ≠ (Ru : Value).ownBlock ∧ some k_ ≠ (Aq : Value).ownBlock) Ap Hw ∧ Kd.R Fv 94 w' w.heap.size (fun k_ => some k_ ≠ (Ik : Value).ownBlock ∧ some k_ ≠ (Ru : Value).ownBlock ∧ some k_ ≠ (Ap : Value).ownBlock) Aq Ml ∧ aH w0 w' g aK DT DU DV r16 ∧ Below w0.heap.size w0 w' ∧ aU w w' g none := by
 intro g l i d e a r1 r2 r3 r4 r5 r6 r7 r8 r9 Hu Hw Ml DT DU DV r16 w0 w hI hB h
 cases k with
 | zero => exact absurd h (by simp [bU.f])
 | succ k =>
 simp only [bU.f] at h
 have JJ := Try.underlying94
 have bOr := Try.underlying81
 have HI0 := za hI
 have HB0 := za hB
 clear hI hB
 obtain ⟨⟨a1, a2, a3, a4, a5⟩, h1, h⟩ := Option.bind_eq_some_iff.mp h
 dsimp only at h
 have H1 := za h1
 clear h1
 go_enter Try.func44, Try.ntmps44
 go_upto_region 1 with ((with_reducible refine bO (N := 2) rfl ?_); refine bZ ?hg (N := 2) ?hd (cs := #[.int .i64 0, .int .i64 0, .string (⟨#[]⟩ : ByteArray), .string (⟨#[]⟩ : ByteArray), .string (⟨#[]⟩ : ByteArray), .bool false, .string (⟨#[]⟩ : ByteArray), .string (⟨#[]⟩ : ByteArray), .slice none 0 0, .slice none 0 0, .slice none 0 0, .slice none 0 0]) (t := 94) ?hr ?_; (case hd => rfl); (case hg => rfl); (case hr => exact jA); intro b1 hg1 w1 hb1 hl1; have HG1 := za hg1; have aUB := za hb1; have aHx := za hl1; clear hg1 hb1 hl1)
 (try simp only [Act.put, List.setIfInBounds_toArray, List.set_cons_zero, List.set_cons_succ])
 go_cut [3] (fun v3 wc => ∃ b2 : Nat, v3 = .pointer (some ⟨b2, 0, none⟩) ∧ aG (bU.X w0 w wc g l a2 a3 a4 a5 b1 b2 (.int .i64 0) (.int .i64 a1) (.string (⟨#[]⟩ : ByteArray)) (.string (⟨#[]⟩ : ByteArray)) (.string (⟨#[]⟩ : ByteArray)) (.bool false) (.string (⟨#[]⟩ : ByteArray)) (.string (⟨#[]⟩ : ByteArray)) (.slice none 0 0) (.slice none 0 0) (.slice none 0 0) (.slice none 0 0)))
 case first =>
  go_wp2_with fail
  refine (mD.calls g l i d e a a1 a2 a3 a4 a5 w0 _ (aH.below HI0.out aHx.out) (aM HB0.out aHx.out) H1.out).mono ?_
  rintro ee w2 ⟨rfl, hi, hb, hk⟩
  have HN1 : aG (b1 ≠ g) := ⟨by rw [HG1.out]; exact Nat.ne_of_gt (aH.lt HI0.out)⟩
  have aKC := za (aU.blk hk aUB.out HN1.out (by simp))
  have HI2 := za hi
  have HB2 := za hb
  have Rv := za (aU.trans (aU.of_below aHx.out g none) hk (.inl rfl))
  clear hi hb hk
  go_wp2_with ((with_reducible refine bO (N := 3) rfl ?_); refine bZ ?hg (N := 3) ?hd (cs := #[.int .i64 0, .int .i64 0, .string (⟨#[]⟩ : ByteArray), .string (⟨#[]⟩ : ByteArray), .string (⟨#[]⟩ : ByteArray), .bool false, .string (⟨#[]⟩ : ByteArray), .string (⟨#[]⟩ : ByteArray), .slice none 0 0, .slice none 0 0, .slice none 0 0, .slice none 0 0]) (t := 94) ?hr ?_; (case hd => rfl); (case hg => rfl); (case hr => exact jA); intro b2 hg2 w2 hb2 hl2; have HG2 := za hg2; have bJ1 := za hb2; have aHy := za hl2; clear hg2 hb2 hl2; have x0 : bU.X w0 w _ g l a2 a3 a4 a5 b1 b2 (.int .i64 0) (.int .i64 0) (.string (⟨#[]⟩ : ByteArray)) (.string (⟨#[]⟩ : ByteArray)) (.string (⟨#[]⟩ : ByteArray)) (.bool false) (.string (⟨#[]⟩ : ByteArray)) (.string (⟨#[]⟩ : ByteArray)) (.slice none 0 0) (.slice none 0 0) (.slice none 0 0) (.slice none 0 0) := ⟨aH.below HI2.out aHy.out, aM HB2.out aHy.out, aU.trans Rv.out (aU.of_below aHy.out g none) (.inl rfl), aY aKC.out aHy.out, bJ1.out, HB0.out.size, Nat.le_of_eq HG1.out.symm, by rw [HG2.out]; exact eG Rv.out, HN1.out, by rw [HG2.out]; exact Nat.ne_of_gt (aH.lt HI2.out), by rw [HG2.out]; exact Nat.ne_of_lt (gB aKC.out)⟩; have X0 := za x0; obtain ⟨c0, c1, c2, c3, c4, c5, c6, c7, c8, c9, c10, c11, f0, f1, f2, f3, f4, f5, f6, f7, f8, f9, f10, f11⟩ := x0.kV; clear x0)
  go_meet
  case rel => exact ⟨b2, rfl, ⟨X0.out.aBH _ _ _ _ _ _ _ _ _ _ _ _⟩⟩
 case rest =>
 obtain ⟨b2, rfl, X0⟩ := hcut
 clear aUB aHx HG1 HI0 HB0 H1
 go_upto_region 4 with (fail)
 (try simp only [Act.put, List.setIfInBounds_toArray, List.set_cons_zero, List.set_cons_succ])
 go_cut [12] (fun v12 wc => ∃ (kq : Nat) (B : Bool), v12 = .bool B ∧ aG (bU.j0 kq B l a2 a3 a4 a5 0 a1 (⟨#[]⟩ : ByteArray) (⟨#[]⟩ : ByteArray) (⟨#[]⟩ : ByteArray) false (⟨#[]⟩ : ByteArray) (⟨#[]⟩ : ByteArray) = some (r1, r2, r3, r4, r5, r6, r7, r8, r9, Hu, Hw, Ml, DT, DU, DV, r16)) ∧ aG (kq ≤ k) ∧ aG (bU.X w0 w wc g l a2 a3 a4 a5 b1 b2 (.int .i64 0) (.int .i64 a1) (.string (⟨#[]⟩ : ByteArray)) (.string (⟨#[]⟩ : ByteArray)) (.string (⟨#[]⟩ : ByteArray)) (.bool false) (.string (⟨#[]⟩ : ByteArray)) (.string (⟨#[]⟩ : ByteArray)) (.slice none 0 0) (.slice none 0 0) (.slice none 0 0) (.slice none 0 0)))
 case first =>
  obtain ⟨A1, C1, hblk, _, hC⟩ := X0.out.hI
  have s0 := (aA hblk 0).trans rfl
  have s1 := (aA hblk 1).trans rfl
  have s3 := (aA hblk 3).trans rfl
  clear hblk
  by_cases c4 : a4 = 0
  ·
   rw [if_pos c4] at h
   by_cases c2 : 0 ≤ a2
   ·
    rw [if_pos c2] at h
    by_cases c3 : a2 < (l.length : Int)
    ·
     rw [if_pos c3] at h
     have HH := za h
     clear h
     have c4b : (a4 == 0) = true := beq_iff_eq.mpr c4
     obtain ⟨ad, ea, hx0, hx1, hx2⟩ := Hr hC a2 c2 c3
     cases ea
     replace hx0 := bR X0.out.hB hx0
     have p0 := eq_true c2
     have p1 := eq_true c3
     clear c2 c3 c4 hx1 hx2 hC
     go_wp2
     repeat (go_quiet (fail); try go_wp2)
     go_meet
     case rel => exact ⟨k, _, by first | rfl | (simp; done), HH, ⟨Nat.le_refl _⟩, by first | exact X0 | exact ⟨X0.out.drewN _⟩⟩
    ·
     rw [if_neg c3] at h; cases h
   ·
    rw [if_neg c2] at h; cases h
  ·
   rw [if_neg c4] at h
   have HH := za h
   clear h hC
   have c4b : (a4 == 0) = false := beq_eq_false_iff_ne.mpr c4
   clear c4
   go_wp2
   repeat (go_quiet (fail); try go_wp2)
   go_meet
   case rel => exact ⟨k, _, by first | rfl | (simp; done), HH, ⟨Nat.le_refl _⟩, by first | exact X0 | exact ⟨X0.out.drewN _⟩⟩
 case rest =>
 clear h X0
 obtain ⟨kq, B, rfl, H, HJ, X0⟩ := hcut
 cases kq with
 | zero => exact absurd H.out (by simp [bU.j0])
 | succ kj =>
 have h := H.out
 clear H
 simp only [bU.j0] at h
 cases B
 case true =>
  rw [if_pos rfl] at h
  obtain ⟨⟨m11, n11, LJ, LK, LM, LQ⟩, h1, h⟩ := Option.bind_eq_some_iff.mp h
  dsimp only at h
  have aMD := za h1
  clear h1
  obtain ⟨⟨Sj, Sk, Sl, bRU⟩, h1, h⟩ := Option.bind_eq_some_iff.mp h
  dsimp only at h
  have aBJ := za h1
  clear h1
  obtain ⟨⟨l13, Gl, Gm, Gn, Gp⟩, h1, h⟩ := Option.bind_eq_some_iff.mp h
  dsimp only at h
  have I5 := za h1
  clear h1
  obtain ⟨⟨Cs, Ct, Cu, Cv⟩, h1, h⟩ := Option.bind_eq_some_iff.mp h
  dsimp only at h
  have PW := za h1
  clear h1
  simp only [Option.some.injEq, Prod.mk.injEq] at h
  obtain ⟨rfl, rfl, rfl, rfl, rfl, rfl, rfl, rfl, rfl, rfl, rfl, rfl, rfl, rfl, rfl, rfl⟩ := h
  go_wp2_with fail
  refine (rX.calls g l a2 a3 a4 a5 m11 n11 LJ LK LM LQ w0 _ X0.out.hI X0.out.hB aMD.out).mono ?_
  rintro ee OY ⟨rfl, hi, hb, hk⟩
  have X11 := za (X0.out.call hi hb hk)
  clear hi hb hk
  obtain ⟨c0, c1, c2, c3, c4, c5, c6, c7, c8, c9, c10, c11, f0, f1, f2, f3, f4, f5, f6, f7, f8, f9, f10, f11⟩ := X11.out.kV
  have DX := za (X11.out.set0 (.int .i64 2))
  have Xq := za (DX.out.set2 (.string m11))
  have Pn := za (Xq.out.aMC (.string n11))
  go_wp2_with fail
  clear c0 c1 c2 c3 c4 c5 c6 c7 c8 c9 c10 c11 f0 f1 f2 f3 f4 f5 f6 f7 f8 f9 f10 f11
  refine (dI.calls g l LJ LK LM LQ (⟨#[61]⟩ : ByteArray)  Sj Sk Sl bRU w0 _ Pn.out.hI Pn.out.hB aBJ.out).mono ?_
  rintro ee Mk ⟨rfl, hi, hb, hk⟩
  have I6 := za (Pn.out.call hi hb hk)
  clear hi hb hk
  obtain ⟨c0, c1, c2, c3, c4, c5, c6, c7, c8, c9, c10, c11, f0, f1, f2, f3, f4, f5, f6, f7, f8, f9, f10, f11⟩ := I6.out.kV
  go_wp2_with fail
  clear c0 c1 c2 c3 c4 c5 c6 c7 c8 c9 c10 c11 f0 f1 f2 f3 f4 f5 f6 f7 f8 f9 f10 f11
  refine (bU.Il kj g l Sj Sk Sl bRU l13 Gl Gm Gn Gp w0 _ I6.out.hI I6.out.hB I5.out).mono ?_
  rintro ee ZW ⟨v, rfl, ho, hi, hb, hk⟩
  obtain ⟨A13, PX, rfl⟩ := Kd.bJ ho
  have aBK := za (bU.Row.mk' (B := w.heap.size) ho I6.out.lt.2.2.2)
  have aME := za I6.out.lt
  have DY := za (I6.out.call hi hb hk)
  clear hi hb hk ho
  obtain ⟨c0, c1, c2, c3, c4, c5, c6, c7, c8, c9, c10, c11, f0, f1, f2, f3, f4, f5, f6, f7, f8, f9, f10, f11⟩ := DY.out.kV
  have DZ := za (DY.out.aBG (.slice A13 l13.length PX))
  replace aBK := za (aBK.out.far aME.out.2.2.1 8 (.slice A13 l13.length PX))
  go_wp2_with fail
  clear c0 c1 c2 c3 c4 c5 c6 c7 c8 c9 c10 c11 f0 f1 f2 f3 f4 f5 f6 f7 f8 f9 f10 f11
  refine (dI.calls g l Gl Gm Gn Gp (⟨#[59]⟩ : ByteArray)  Cs Ct Cu Cv w0 _ DZ.out.hI DZ.out.hB PW.out).mono ?_
  rintro ee w14 ⟨rfl, hi, hb, hk⟩
  replace aBK := za (aBK.out.call hk aME.out.1)
  have LU := za (DZ.out.call hi hb hk)
  clear hi hb hk
  obtain ⟨c0, c1, c2, c3, c4, c5, c6, c7, c8, c9, c10, c11, f0, f1, f2, f3, f4, f5, f6, f7, f8, f9, f10, f11⟩ := LU.out.kV
  have PY := LU.out.n12
  have PZ := Ne.symm LU.out.n12
  obtain ⟨q0, q1, q2, q3, q4, q5, q6, q7, q8, q9, Q8, RJ, p0, p1, p2, p3, p4, p5, p6, p7, p8, p9, p10, rf⟩ := LU.out.Df
  go_wp2
  have F := LU.out.fin (.int .i64 2) (.int .i64 a1) (.string m11) (.string n11) (.string (⟨#[]⟩ : ByteArray)) (.bool false) (.string (⟨#[]⟩ : ByteArray)) (.string (⟨#[]⟩ : ByteArray)) (.slice A13 l13.length PX) (.slice none 0 0) (.slice none 0 0) (.slice none 0 0)
  refine bodyPost_ret (results_cell_row rfl _ _ b1 94 #[.int .i64 2, .int .i64 a1, .string m11, .string n11, .string (⟨#[]⟩ : ByteArray), .bool false, .string (⟨#[]⟩ : ByteArray), .string (⟨#[]⟩ : ByteArray), .slice A13 l13.length PX, .slice none 0 0, .slice none 0 0, .slice none 0 0] (0, 0) _ rfl F.1 JJ rfl dU) rfl ?_
  exact ⟨_, _, _, _, rfl, (aBK.out.Ng aME.out.2.1 _ _ _ _ _ _ _ _ _ _ _ _).fin (fun _ _ _ => trivial), Kd.Hl _ _ _ _ _, Kd.mW _ _ _ _ _, Kd.mW _ _ _ _ _, F.2.1, F.2.2.1, F.2.2.2⟩
 rw [if_neg (by decide)] at h
 obtain ⟨⟨t11, LJ, LK, LM, LQ⟩, h1, h⟩ := Option.bind_eq_some_iff.mp h
 dsimp only at h
 have aMD := za h1
 clear h1
 go_wp2_with fail
 refine (eX.calls g l a2 a3 a4 a5 (⟨#[108, 101, 116]⟩ : ByteArray) t11 LJ LK LM LQ w0 _ X0.out.hI X0.out.hB aMD.out).mono ?_
 rintro ee OY ⟨rfl, hi, hb, hk⟩
 have X11 := za (X0.out.call hi hb hk)
 clear hi hb hk
 cases t11
 case true =>
  rw [if_pos rfl] at h
  obtain ⟨⟨m12, Sj, Sk, Sl, bRU⟩, h1, h⟩ := Option.bind_eq_some_iff.mp h
  dsimp only at h
  have aBJ := za h1
  clear h1
  obtain ⟨⟨Gl, Gm, Gn, Gp⟩, h1, h⟩ := Option.bind_eq_some_iff.mp h
  dsimp only at h
  have I5 := za h1
  clear h1
  obtain ⟨⟨m14, Cs, Ct, Cu, Cv⟩, h1, h⟩ := Option.bind_eq_some_iff.mp h
  dsimp only at h
  have PW := za h1
  clear h1
  obtain ⟨⟨Ei, Ej, El, Em⟩, h1, h⟩ := Option.bind_eq_some_iff.mp h
  dsimp only at h
  have QB := za h1
  clear h1
  obtain ⟨⟨l16, Nh, Nk, Nl, Nn⟩, h1, h⟩ := Option.bind_eq_some_iff.mp h
  dsimp only at h
  have I7 := za h1
  clear h1
  obtain ⟨⟨Xr, Xt, Xu, Xv⟩, h1, h⟩ := Option.bind_eq_some_iff.mp h
  dsimp only at h
  have aBL := za h1
  clear h1
  simp only [Option.some.injEq, Prod.mk.injEq] at h
  obtain ⟨rfl, rfl, rfl, rfl, rfl, rfl, rfl, rfl, rfl, rfl, rfl, rfl, rfl, rfl, rfl, rfl⟩ := h
  obtain ⟨c0, c1, c2, c3, c4, c5, c6, c7, c8, c9, c10, c11, f0, f1, f2, f3, f4, f5, f6, f7, f8, f9, f10, f11⟩ := X11.out.kV
  have DZ := za (X11.out.set0 (.int .i64 1))
  go_wp2_with fail
  clear c0 c1 c2 c3 c4 c5 c6 c7 c8 c9 c10 c11 f0 f1 f2 f3 f4 f5 f6 f7 f8 f9 f10 f11
  refine (gG.calls g l LJ LK LM LQ m12 Sj Sk Sl bRU w0 _ DZ.out.hI DZ.out.hB aBJ.out).mono ?_
  rintro ee Mk ⟨rfl, hi, hb, hk⟩
  have I6 := za (DZ.out.call hi hb hk)
  clear hi hb hk
  obtain ⟨c0, c1, c2, c3, c4, c5, c6, c7, c8, c9, c10, c11, f0, f1, f2, f3, f4, f5, f6, f7, f8, f9, f10, f11⟩ := I6.out.kV
  have RQ := za (I6.out.aMC (.string m12))
  go_wp2_with fail
  clear c0 c1 c2 c3 c4 c5 c6 c7 c8 c9 c10 c11 f0 f1 f2 f3 f4 f5 f6 f7 f8 f9 f10 f11
  refine (dI.calls g l Sj Sk Sl bRU (⟨#[58]⟩ : ByteArray)  Gl Gm Gn Gp w0 _ RQ.out.hI RQ.out.hB I5.out).mono ?_
  rintro ee ZW ⟨rfl, hi, hb, hk⟩
  have DY := za (RQ.out.call hi hb hk)
  clear hi hb hk
  obtain ⟨c0, c1, c2, c3, c4, c5, c6, c7, c8, c9, c10, c11, f0, f1, f2, f3, f4, f5, f6, f7, f8, f9, f10, f11⟩ := DY.out.kV
  go_wp2_with fail
  clear c0 c1 c2 c3 c4 c5 c6 c7 c8 c9 c10 c11 f0 f1 f2 f3 f4 f5 f6 f7 f8 f9 f10 f11
  refine (gG.calls g l Gl Gm Gn Gp m14 Cs Ct Cu Cv w0 _ DY.out.hI DY.out.hB PW.out).mono ?_
  rintro ee w14 ⟨rfl, hi, hb, hk⟩
  have LU := za (DY.out.call hi hb hk)
  clear hi hb hk
  obtain ⟨c0, c1, c2, c3, c4, c5, c6, c7, c8, c9, c10, c11, f0, f1, f2, f3, f4, f5, f6, f7, f8, f9, f10, f11⟩ := LU.out.kV
  have I8 := za (LU.out.bJ0 (.string m14))
  go_wp2_with fail
  clear c0 c1 c2 c3 c4 c5 c6 c7 c8 c9 c10 c11 f0 f1 f2 f3 f4 f5 f6 f7 f8 f9 f10 f11
  refine (dI.calls g l Cs Ct Cu Cv (⟨#[61]⟩ : ByteArray)  Ei Ej El Em w0 _ I8.out.hI I8.out.hB QB.out).mono ?_
  rintro ee w15 ⟨rfl, hi, hb, hk⟩
  have DX := za (I8.out.call hi hb hk)
  clear hi hb hk
  obtain ⟨c0, c1, c2, c3, c4, c5, c6, c7, c8, c9, c10, c11, f0, f1, f2, f3, f4, f5, f6, f7, f8, f9, f10, f11⟩ := DX.out.kV
  go_wp2_with fail
  clear c0 c1 c2 c3 c4 c5 c6 c7 c8 c9 c10 c11 f0 f1 f2 f3 f4 f5 f6 f7 f8 f9 f10 f11
  refine (bU.Il kj g l Ei Ej El Em l16 Nh Nk Nl Nn w0 _ DX.out.hI DX.out.hB I7.out).mono ?_
  rintro ee w16 ⟨v, rfl, ho, hi, hb, hk⟩
  obtain ⟨RP, C16, rfl⟩ := Kd.bJ ho
  have aBM := za (bU.Row.mk' (B := w.heap.size) ho DX.out.lt.2.2.2)
  have aMF := za DX.out.lt
  have Xq := za (DX.out.call hi hb hk)
  clear hi hb hk ho
  obtain ⟨c0, c1, c2, c3, c4, c5, c6, c7, c8, c9, c10, c11, f0, f1, f2, f3, f4, f5, f6, f7, f8, f9, f10, f11⟩ := Xq.out.kV
  have I9 := za (Xq.out.aBG (.slice RP l16.length C16))
  replace aBM := za (aBM.out.far aMF.out.2.2.1 8 (.slice RP l16.length C16))
  go_wp2_with fail
  clear c0 c1 c2 c3 c4 c5 c6 c7 c8 c9 c10 c11 f0 f1 f2 f3 f4 f5 f6 f7 f8 f9 f10 f11
  refine (dI.calls g l Nh Nk Nl Nn (⟨#[59]⟩ : ByteArray)  Xr Xt Xu Xv w0 _ I9.out.hI I9.out.hB aBL.out).mono ?_
  rintro ee L_ ⟨rfl, hi, hb, hk⟩
  replace aBM := za (aBM.out.call hk aMF.out.1)
  have Pn := za (I9.out.call hi hb hk)
  clear hi hb hk
  obtain ⟨c0, c1, c2, c3, c4, c5, c6, c7, c8, c9, c10, c11, f0, f1, f2, f3, f4, f5, f6, f7, f8, f9, f10, f11⟩ := Pn.out.kV
  have PY := Pn.out.n12
  have PZ := Ne.symm Pn.out.n12
  obtain ⟨q0, q1, q2, q3, q4, q5, q6, q7, q8, q9, Q8, RJ, p0, p1, p2, p3, p4, p5, p6, p7, p8, p9, p10, rf⟩ := Pn.out.Df
  go_wp2
  have F := Pn.out.fin (.int .i64 1) (.int .i64 a1) (.string (⟨#[]⟩ : ByteArray)) (.string m12) (.string m14) (.bool false) (.string (⟨#[]⟩ : ByteArray)) (.string (⟨#[]⟩ : ByteArray)) (.slice RP l16.length C16) (.slice none 0 0) (.slice none 0 0) (.slice none 0 0)
  refine bodyPost_ret (results_cell_row rfl _ _ b1 94 #[.int .i64 1, .int .i64 a1, .string (⟨#[]⟩ : ByteArray), .string m12, .string m14, .bool false, .string (⟨#[]⟩ : ByteArray), .string (⟨#[]⟩ : ByteArray), .slice RP l16.length C16, .slice none 0 0, .slice none 0 0, .slice none 0 0] (0, 0) _ rfl F.1 JJ rfl dU) rfl ?_
  exact ⟨_, _, _, _, rfl, (aBM.out.Ng aMF.out.2.1 _ _ _ _ _ _ _ _ _ _ _ _).fin (fun _ _ _ => trivial), Kd.Hl _ _ _ _ _, Kd.mW _ _ _ _ _, Kd.mW _ _ _ _ _, F.2.1, F.2.2.1, F.2.2.2⟩
 rw [if_neg (by decide)] at h
 obtain ⟨⟨t12, Sj, Sk, Sl, bRU⟩, h1, h⟩ := Option.bind_eq_some_iff.mp h
 dsimp only at h
 have aBJ := za h1
 clear h1
 go_wp2_with fail
 refine (eX.calls g l LJ LK LM LQ (⟨#[114, 101, 115, 117, 108, 116]⟩ : ByteArray) t12 Sj Sk Sl bRU w0 _ X11.out.hI X11.out.hB aBJ.out).mono ?_
 rintro ee Mk ⟨rfl, hi, hb, hk⟩
 have I6 := za (X11.out.call hi hb hk)
 clear hi hb hk
 cases t12
 case true =>
  rw [if_pos rfl] at h
  obtain ⟨⟨Gl, Gm, Gn, Gp⟩, h1, h⟩ := Option.bind_eq_some_iff.mp h
  dsimp only at h
  have I5 := za h1
  clear h1
  obtain ⟨⟨l14, Cs, Ct, Cu, Cv⟩, h1, h⟩ := Option.bind_eq_some_iff.mp h
  dsimp only at h
  have PW := za h1
  clear h1
  obtain ⟨⟨Ei, Ej, El, Em⟩, h1, h⟩ := Option.bind_eq_some_iff.mp h
  dsimp only at h
  have QB := za h1
  clear h1
  simp only [Option.some.injEq, Prod.mk.injEq] at h
  obtain ⟨rfl, rfl, rfl, rfl, rfl, rfl, rfl, rfl, rfl, rfl, rfl, rfl, rfl, rfl, rfl, rfl⟩ := h
  obtain ⟨c0, c1, c2, c3, c4, c5, c6, c7, c8, c9, c10, c11, f0, f1, f2, f3, f4, f5, f6, f7, f8, f9, f10, f11⟩ := I6.out.kV
  have Xq := za (I6.out.set0 (.int .i64 3))
  go_wp2_with fail
  clear c0 c1 c2 c3 c4 c5 c6 c7 c8 c9 c10 c11 f0 f1 f2 f3 f4 f5 f6 f7 f8 f9 f10 f11
  refine (dI.calls g l Sj Sk Sl bRU (⟨#[61]⟩ : ByteArray)  Gl Gm Gn Gp w0 _ Xq.out.hI Xq.out.hB I5.out).mono ?_
  rintro ee ZW ⟨rfl, hi, hb, hk⟩
  have DY := za (Xq.out.call hi hb hk)
  clear hi hb hk
  obtain ⟨c0, c1, c2, c3, c4, c5, c6, c7, c8, c9, c10, c11, f0, f1, f2, f3, f4, f5, f6, f7, f8, f9, f10, f11⟩ := DY.out.kV
  go_wp2_with fail
  clear c0 c1 c2 c3 c4 c5 c6 c7 c8 c9 c10 c11 f0 f1 f2 f3 f4 f5 f6 f7 f8 f9 f10 f11
  refine (bU.Il kj g l Gl Gm Gn Gp l14 Cs Ct Cu Cv w0 _ DY.out.hI DY.out.hB PW.out).mono ?_
  rintro ee w14 ⟨v, rfl, ho, hi, hb, hk⟩
  obtain ⟨A14, C14, rfl⟩ := Kd.bJ ho
  have aBN := za (bU.Row.mk' (B := w.heap.size) ho DY.out.lt.2.2.2)
  have aMG := za DY.out.lt
  have LU := za (DY.out.call hi hb hk)
  clear hi hb hk ho
  obtain ⟨c0, c1, c2, c3, c4, c5, c6, c7, c8, c9, c10, c11, f0, f1, f2, f3, f4, f5, f6, f7, f8, f9, f10, f11⟩ := LU.out.kV
  have Pn := za (LU.out.aBG (.slice A14 l14.length C14))
  replace aBN := za (aBN.out.far aMG.out.2.2.1 8 (.slice A14 l14.length C14))
  go_wp2_with fail
  clear c0 c1 c2 c3 c4 c5 c6 c7 c8 c9 c10 c11 f0 f1 f2 f3 f4 f5 f6 f7 f8 f9 f10 f11
  refine (dI.calls g l Cs Ct Cu Cv (⟨#[59]⟩ : ByteArray)  Ei Ej El Em w0 _ Pn.out.hI Pn.out.hB QB.out).mono ?_
  rintro ee w15 ⟨rfl, hi, hb, hk⟩
  replace aBN := za (aBN.out.call hk aMG.out.1)
  have DX := za (Pn.out.call hi hb hk)
  clear hi hb hk
  obtain ⟨c0, c1, c2, c3, c4, c5, c6, c7, c8, c9, c10, c11, f0, f1, f2, f3, f4, f5, f6, f7, f8, f9, f10, f11⟩ := DX.out.kV
  have PY := DX.out.n12
  have PZ := Ne.symm DX.out.n12
  obtain ⟨q0, q1, q2, q3, q4, q5, q6, q7, q8, q9, Q8, RJ, p0, p1, p2, p3, p4, p5, p6, p7, p8, p9, p10, rf⟩ := DX.out.Df
  go_wp2
  have F := DX.out.fin (.int .i64 3) (.int .i64 a1) (.string (⟨#[]⟩ : ByteArray)) (.string (⟨#[]⟩ : ByteArray)) (.string (⟨#[]⟩ : ByteArray)) (.bool false) (.string (⟨#[]⟩ : ByteArray)) (.string (⟨#[]⟩ : ByteArray)) (.slice A14 l14.length C14) (.slice none 0 0) (.slice none 0 0) (.slice none 0 0)
  refine bodyPost_ret (results_cell_row rfl _ _ b1 94 #[.int .i64 3, .int .i64 a1, .string (⟨#[]⟩ : ByteArray), .string (⟨#[]⟩ : ByteArray), .string (⟨#[]⟩ : ByteArray), .bool false, .string (⟨#[]⟩ : ByteArray), .string (⟨#[]⟩ : ByteArray), .slice A14 l14.length C14, .slice none 0 0, .slice none 0 0, .slice none 0 0] (0, 0) _ rfl F.1 JJ rfl dU) rfl ?_
  exact ⟨_, _, _, _, rfl, (aBN.out.Ng aMG.out.2.1 _ _ _ _ _ _ _ _ _ _ _ _).fin (fun _ _ _ => trivial), Kd.Hl _ _ _ _ _, Kd.mW _ _ _ _ _, Kd.mW _ _ _ _ _, F.2.1, F.2.2.1, F.2.2.2⟩
 rw [if_neg (by decide)] at h
 obtain ⟨⟨t13, Gl, Gm, Gn, Gp⟩, h1, h⟩ := Option.bind_eq_some_iff.mp h
 dsimp only at h
 have I5 := za h1
 clear h1
 go_wp2_with fail
 refine (eX.calls g l Sj Sk Sl bRU (⟨#[99, 97, 108, 108]⟩ : ByteArray) t13 Gl Gm Gn Gp w0 _ I6.out.hI I6.out.hB I5.out).mono ?_
 rintro ee ZW ⟨rfl, hi, hb, hk⟩
 have DY := za (I6.out.call hi hb hk)
 clear hi hb hk
 cases t13
 case true =>
  rw [if_pos rfl] at h
  obtain ⟨⟨Xw, Xx, Xy, Xz, Ya, Yb, Yc, Yd, Ye, Yf, bRO, Io, Cs, Ct, Cu, Cv⟩, h1, h⟩ := Option.bind_eq_some_iff.mp h
  dsimp only at h
  have PW := za h1
  clear h1
  obtain ⟨⟨Ei, Ej, El, Em⟩, h1, h⟩ := Option.bind_eq_some_iff.mp h
  dsimp only at h
  have QB := za h1
  clear h1
  simp only [Option.some.injEq, Prod.mk.injEq] at h
  obtain ⟨rfl, rfl, rfl, rfl, rfl, rfl, rfl, rfl, rfl, rfl, rfl, rfl, rfl, rfl, rfl, rfl⟩ := h
  obtain ⟨c0, c1, c2, c3, c4, c5, c6, c7, c8, c9, c10, c11, f0, f1, f2, f3, f4, f5, f6, f7, f8, f9, f10, f11⟩ := DY.out.kV
  go_wp2_with fail
  have HQ := za DY.out.lt
  refine (gH.calls kj g l Gl Gm Gn Gp 0 a1 (⟨#[]⟩ : ByteArray) (⟨#[]⟩ : ByteArray) (⟨#[]⟩ : ByteArray) false (⟨#[]⟩ : ByteArray) (⟨#[]⟩ : ByteArray) Xw Xx Xy Xz Ya Yb Yc Yd Ye Yf bRO Io Cs Ct Cu Cv w0 _ DY.out.hI DY.out.hB PW.out).mono ?_
  rintro ee w14 ⟨v8, v9, v10, v11, rfl, ho8, ho9, QC, aMH, hi, hb, hk⟩
  obtain ⟨A8, C8, e8⟩ := Kd.bJ ho8
  obtain ⟨qR, C10, e10⟩ := Kd.bJ QC
  obtain ⟨sM, C11, e11⟩ := Kd.bJ aMH
  obtain ⟨A9, C9, e9⟩ := Kd.bJ (Kd.S_R ho9)
  subst e8 e9 e10 e11
  have LU := za (DY.out.call hi hb hk)
  have HO8 := za (bU.Ou ho8 HQ.out.2.2.1 (.int .i64 Xw) (.int .i64 Xx) (.string Xy) (.string Xz) (.string Ya) (.bool Yb) (.string Yc) (.string Yd) (.slice A8 Ye.length C8) (.slice A9 Yf.length C9) (.slice qR bRO.length C10) (.slice sM Io.length C11))
  have aMI := za (bU.Ou QC HQ.out.2.2.1 (.int .i64 Xw) (.int .i64 Xx) (.string Xy) (.string Xz) (.string Ya) (.bool Yb) (.string Yc) (.string Yd) (.slice A8 Ye.length C8) (.slice A9 Yf.length C9) (.slice qR bRO.length C10) (.slice sM Io.length C11))
  have aMJ := za (bU.Ou aMH HQ.out.2.2.1 (.int .i64 Xw) (.int .i64 Xx) (.string Xy) (.string Xz) (.string Ya) (.bool Yb) (.string Yc) (.string Yd) (.slice A8 Ye.length C8) (.slice A9 Yf.length C9) (.slice qR bRO.length C10) (.slice sM Io.length C11))
  have HO9 := za (bU.aBI ho9 HQ.out.2.2.1 (.int .i64 Xw) (.int .i64 Xx) (.string Xy) (.string Xz) (.string Ya) (.bool Yb) (.string Yc) (.string Yd) (.slice A8 Ye.length C8) (.slice A9 Yf.length C9) (.slice qR bRO.length C10) (.slice sM Io.length C11))
  clear hi hb hk ho8 ho9 QC aMH
  obtain ⟨c0, c1, c2, c3, c4, c5, c6, c7, c8, c9, c10, c11, f0, f1, f2, f3, f4, f5, f6, f7, f8, f9, f10, f11⟩ := LU.out.kV
  have XA := za (LU.out.aBH (.int .i64 Xw) (.int .i64 Xx) (.string Xy) (.string Xz) (.string Ya) (.bool Yb) (.string Yc) (.string Yd) (.slice A8 Ye.length C8) (.slice A9 Yf.length C9) (.slice qR bRO.length C10) (.slice sM Io.length C11))
  go_wp2_with fail
  clear c0 c1 c2 c3 c4 c5 c6 c7 c8 c9 c10 c11 f0 f1 f2 f3 f4 f5 f6 f7 f8 f9 f10 f11
  refine (dI.calls g l Cs Ct Cu Cv (⟨#[59]⟩ : ByteArray) Ei Ej El Em w0 _ XA.out.hI XA.out.hB QB.out).mono ?_
  rintro ee w15 ⟨rfl, hi, hb, hk⟩
  have XB := za (XA.out.call hi hb hk)
  replace HO8 := za (bU.bu HO8.out hk HQ.out.1)
  replace aMI := za (bU.bu aMI.out hk HQ.out.1)
  replace aMJ := za (bU.bu aMJ.out hk HQ.out.1)
  replace HO9 := za (bU.aUA HO9.out hk HQ.out.1)
  clear hi hb hk
  obtain ⟨c0, c1, c2, c3, c4, c5, c6, c7, c8, c9, c10, c11, f0, f1, f2, f3, f4, f5, f6, f7, f8, f9, f10, f11⟩ := XB.out.kV
  obtain ⟨q0, q1, q2, q3, q4, q5, q6, q7, q8, q9, Q8, RJ, p0, p1, p2, p3, p4, p5, p6, p7, p8, p9, p10, rf⟩ := XB.out.Df
  have PY := XB.out.n12
  have PZ := Ne.symm XB.out.n12
  go_wp2
  have F := XB.out.fin (.int .i64 Xw) (.int .i64 Xx) (.string Xy) (.string Xz) (.string Ya) (.bool Yb) (.string Yc) (.string Yd) (.slice A8 Ye.length C8) (.slice A9 Yf.length C9) (.slice qR bRO.length C10) (.slice sM Io.length C11)
  refine bodyPost_ret (results_cell_row rfl _ _ b1 94 #[.int .i64 Xw, .int .i64 Xx, .string Xy, .string Xz, .string Ya, .bool Yb, .string Yc, .string Yd, .slice A8 Ye.length C8, .slice A9 Yf.length C9, .slice qR bRO.length C10, .slice sM Io.length C11] (0, 0) _ rfl F.1 JJ rfl dU) rfl ?_
  exact ⟨_, _, _, _, rfl, Kd.eU (bU.Ou HO8.out HQ.out.2.1 _ _ _ _ _ _ _ _ _ _ _ _) HQ.out.2.2.2, Kd.P7 (bU.aBI HO9.out HQ.out.2.1 _ _ _ _ _ _ _ _ _ _ _ _) HQ.out.2.2.2, Kd.eU (bU.Ou aMI.out HQ.out.2.1 _ _ _ _ _ _ _ _ _ _ _ _) HQ.out.2.2.2, Kd.eU (bU.Ou aMJ.out HQ.out.2.1 _ _ _ _ _ _ _ _ _ _ _ _) HQ.out.2.2.2, F.2.1, F.2.2.1, F.2.2.2⟩
 rw [if_neg (by decide)] at h
 obtain ⟨⟨t14, Cs, Ct, Cu, Cv⟩, h1, h⟩ := Option.bind_eq_some_iff.mp h
 dsimp only at h
 have PW := za h1
 clear h1
 go_wp2_with fail
 refine (eX.calls g l Gl Gm Gn Gp (⟨#[101, 109, 105, 116]⟩ : ByteArray) t14 Cs Ct Cu Cv w0 _ DY.out.hI DY.out.hB PW.out).mono ?_
 rintro ee w14 ⟨rfl, hi, hb, hk⟩
 have LU := za (DY.out.call hi hb hk)
 clear hi hb hk
 cases t14
 case true =>
  rw [if_pos rfl] at h
  obtain ⟨⟨m15, Ei, Ej, El, Em⟩, h1, h⟩ := Option.bind_eq_some_iff.mp h
  dsimp only at h
  have QB := za h1
  clear h1
  obtain ⟨⟨Nh, Nk, Nl, Nn⟩, h1, h⟩ := Option.bind_eq_some_iff.mp h
  dsimp only at h
  have I7 := za h1
  clear h1
  simp only [Option.some.injEq, Prod.mk.injEq] at h
  obtain ⟨rfl, rfl, rfl, rfl, rfl, rfl, rfl, rfl, rfl, rfl, rfl, rfl, rfl, rfl, rfl, rfl⟩ := h
  obtain ⟨c0, c1, c2, c3, c4, c5, c6, c7, c8, c9, c10, c11, f0, f1, f2, f3, f4, f5, f6, f7, f8, f9, f10, f11⟩ := LU.out.kV
  have Pn := za (LU.out.set0 (.int .i64 7))
  go_wp2_with fail
  clear c0 c1 c2 c3 c4 c5 c6 c7 c8 c9 c10 c11 f0 f1 f2 f3 f4 f5 f6 f7 f8 f9 f10 f11
  refine (gG.calls g l Cs Ct Cu Cv m15 Ei Ej El Em w0 _ Pn.out.hI Pn.out.hB QB.out).mono ?_
  rintro ee w15 ⟨rfl, hi, hb, hk⟩
  have DX := za (Pn.out.call hi hb hk)
  clear hi hb hk
  obtain ⟨c0, c1, c2, c3, c4, c5, c6, c7, c8, c9, c10, c11, f0, f1, f2, f3, f4, f5, f6, f7, f8, f9, f10, f11⟩ := DX.out.kV
  have DZ := za (DX.out.aMC (.string m15))
  go_wp2_with fail
  clear c0 c1 c2 c3 c4 c5 c6 c7 c8 c9 c10 c11 f0 f1 f2 f3 f4 f5 f6 f7 f8 f9 f10 f11
  refine (dI.calls g l Ei Ej El Em (⟨#[59]⟩ : ByteArray)  Nh Nk Nl Nn w0 _ DZ.out.hI DZ.out.hB I7.out).mono ?_
  rintro ee w16 ⟨rfl, hi, hb, hk⟩
  have Xq := za (DZ.out.call hi hb hk)
  clear hi hb hk
  obtain ⟨c0, c1, c2, c3, c4, c5, c6, c7, c8, c9, c10, c11, f0, f1, f2, f3, f4, f5, f6, f7, f8, f9, f10, f11⟩ := Xq.out.kV
  have PY := Xq.out.n12
  have PZ := Ne.symm Xq.out.n12
  obtain ⟨q0, q1, q2, q3, q4, q5, q6, q7, q8, q9, Q8, RJ, p0, p1, p2, p3, p4, p5, p6, p7, p8, p9, p10, rf⟩ := Xq.out.Df
  go_wp2
  have F := Xq.out.fin (.int .i64 7) (.int .i64 a1) (.string (⟨#[]⟩ : ByteArray)) (.string m15) (.string (⟨#[]⟩ : ByteArray)) (.bool false) (.string (⟨#[]⟩ : ByteArray)) (.string (⟨#[]⟩ : ByteArray)) (.slice none 0 0) (.slice none 0 0) (.slice none 0 0) (.slice none 0 0)
  refine bodyPost_ret (results_cell_row rfl _ _ b1 94 #[.int .i64 7, .int .i64 a1, .string (⟨#[]⟩ : ByteArray), .string m15, .string (⟨#[]⟩ : ByteArray), .bool false, .string (⟨#[]⟩ : ByteArray), .string (⟨#[]⟩ : ByteArray), .slice none 0 0, .slice none 0 0, .slice none 0 0, .slice none 0 0] (0, 0) _ rfl F.1 JJ rfl dU) rfl ?_
  exact ⟨_, _, _, _, rfl, Kd.mW _ _ _ _ _, Kd.Hl _ _ _ _ _, Kd.mW _ _ _ _ _, Kd.mW _ _ _ _ _, F.2.1, F.2.2.1, F.2.2.2⟩
 rw [if_neg (by decide)] at h
 obtain ⟨⟨t15, Ei, Ej, El, Em⟩, h1, h⟩ := Option.bind_eq_some_iff.mp h
 dsimp only at h
 have QB := za h1
 clear h1
 go_wp2_with fail
 refine (eX.calls g l Cs Ct Cu Cv (⟨#[115, 107, 105, 112]⟩ : ByteArray) t15 Ei Ej El Em w0 _ LU.out.hI LU.out.hB QB.out).mono ?_
 rintro ee w15 ⟨rfl, hi, hb, hk⟩
 have DX := za (LU.out.call hi hb hk)
 clear hi hb hk
 cases t15
 case true =>
  rw [if_pos rfl] at h
  obtain ⟨⟨Nh, Nk, Nl, Nn⟩, h1, h⟩ := Option.bind_eq_some_iff.mp h
  dsimp only at h
  have I7 := za h1
  clear h1
  simp only [Option.some.injEq, Prod.mk.injEq] at h
  obtain ⟨rfl, rfl, rfl, rfl, rfl, rfl, rfl, rfl, rfl, rfl, rfl, rfl, rfl, rfl, rfl, rfl⟩ := h
  obtain ⟨c0, c1, c2, c3, c4, c5, c6, c7, c8, c9, c10, c11, f0, f1, f2, f3, f4, f5, f6, f7, f8, f9, f10, f11⟩ := DX.out.kV
  have Pn := za (DX.out.set0 (.int .i64 8))
  go_wp2_with fail
  clear c0 c1 c2 c3 c4 c5 c6 c7 c8 c9 c10 c11 f0 f1 f2 f3 f4 f5 f6 f7 f8 f9 f10 f11
  refine (dI.calls g l Ei Ej El Em (⟨#[59]⟩ : ByteArray)  Nh Nk Nl Nn w0 _ Pn.out.hI Pn.out.hB I7.out).mono ?_
  rintro ee w16 ⟨rfl, hi, hb, hk⟩
  have Xq := za (Pn.out.call hi hb hk)
  clear hi hb hk
  obtain ⟨c0, c1, c2, c3, c4, c5, c6, c7, c8, c9, c10, c11, f0, f1, f2, f3, f4, f5, f6, f7, f8, f9, f10, f11⟩ := Xq.out.kV
  have PY := Xq.out.n12
  have PZ := Ne.symm Xq.out.n12
  obtain ⟨q0, q1, q2, q3, q4, q5, q6, q7, q8, q9, Q8, RJ, p0, p1, p2, p3, p4, p5, p6, p7, p8, p9, p10, rf⟩ := Xq.out.Df
  go_wp2
  have F := Xq.out.fin (.int .i64 8) (.int .i64 a1) (.string (⟨#[]⟩ : ByteArray)) (.string (⟨#[]⟩ : ByteArray)) (.string (⟨#[]⟩ : ByteArray)) (.bool false) (.string (⟨#[]⟩ : ByteArray)) (.string (⟨#[]⟩ : ByteArray)) (.slice none 0 0) (.slice none 0 0) (.slice none 0 0) (.slice none 0 0)
  refine bodyPost_ret (results_cell_row rfl _ _ b1 94 #[.int .i64 8, .int .i64 a1, .string (⟨#[]⟩ : ByteArray), .string (⟨#[]⟩ : ByteArray), .string (⟨#[]⟩ : ByteArray), .bool false, .string (⟨#[]⟩ : ByteArray), .string (⟨#[]⟩ : ByteArray), .slice none 0 0, .slice none 0 0, .slice none 0 0, .slice none 0 0] (0, 0) _ rfl F.1 JJ rfl dU) rfl ?_
  exact ⟨_, _, _, _, rfl, Kd.mW _ _ _ _ _, Kd.Hl _ _ _ _ _, Kd.mW _ _ _ _ _, Kd.mW _ _ _ _ _, F.2.1, F.2.2.1, F.2.2.2⟩
 rw [if_neg (by decide)] at h
 obtain ⟨⟨t16, Nh, Nk, Nl, Nn⟩, h1, h⟩ := Option.bind_eq_some_iff.mp h
 dsimp only at h
 have I7 := za h1
 clear h1
 go_wp2_with fail
 refine (eX.calls g l Ei Ej El Em (⟨#[105, 102]⟩ : ByteArray) t16 Nh Nk Nl Nn w0 _ DX.out.hI DX.out.hB I7.out).mono ?_
 rintro ee w16 ⟨rfl, hi, hb, hk⟩
 have Xq := za (DX.out.call hi hb hk)
 clear hi hb hk
 cases t16
 case true =>
  rw [if_pos rfl] at h
  obtain ⟨⟨l17, Xr, Xt, Xu, Xv⟩, h1, h⟩ := Option.bind_eq_some_iff.mp h
  dsimp only at h
  have aBL := za h1
  clear h1
  obtain ⟨⟨cu, EA, EB, EC, ED⟩, h1, h⟩ := Option.bind_eq_some_iff.mp h
  dsimp only at h
  have aBO := za h1
  clear h1
  obtain ⟨⟨t19, cz, df, dh, di⟩, h1, h⟩ := Option.bind_eq_some_iff.mp h
  dsimp only at h
  have aMK := za h1
  clear h1
  obtain ⟨c0, c1, c2, c3, c4, c5, c6, c7, c8, c9, c10, c11, f0, f1, f2, f3, f4, f5, f6, f7, f8, f9, f10, f11⟩ := Xq.out.kV
  have I8 := za (Xq.out.set0 (.int .i64 5))
  go_wp2_with fail
  clear c0 c1 c2 c3 c4 c5 c6 c7 c8 c9 c10 c11 f0 f1 f2 f3 f4 f5 f6 f7 f8 f9 f10 f11
  refine (bU.Il kj g l Nh Nk Nl Nn l17 Xr Xt Xu Xv w0 _ I8.out.hI I8.out.hB aBL.out).mono ?_
  rintro ee L_ ⟨v, rfl, ho, hi, hb, hk⟩
  obtain ⟨vk, C17, rfl⟩ := Kd.bJ ho
  have Gf := za (bU.Row.mk' (B := w.heap.size) ho I8.out.lt.2.2.2)
  have VG := za I8.out.lt
  have Pn := za (I8.out.call hi hb hk)
  clear hi hb hk ho
  obtain ⟨c0, c1, c2, c3, c4, c5, c6, c7, c8, c9, c10, c11, f0, f1, f2, f3, f4, f5, f6, f7, f8, f9, f10, f11⟩ := Pn.out.kV
  have I9 := za (Pn.out.aBG (.slice vk l17.length C17))
  replace Gf := za (Gf.out.far VG.out.2.2.1 8 (.slice vk l17.length C17))
  go_wp2_with fail
  clear c0 c1 c2 c3 c4 c5 c6 c7 c8 c9 c10 c11 f0 f1 f2 f3 f4 f5 f6 f7 f8 f9 f10 f11
  have dm := za Gf.out.2.2
  refine (bz.out kj (by have := HJ.out; omega) g l Xr Xt Xu Xv cu EA EB EC ED w0 _ I9.out.hI I9.out.hB aBO.out).mono ?_
  rintro ee w18 ⟨v, rfl, ho, hi, hb, hk⟩
  obtain ⟨UF, vo, rfl⟩ := Kd.bJ ho
  have Bv := za (bU.Row.mk' (B := w.heap.size) ho I9.out.lt.2.2.2)
  have EE := za I9.out.lt
  replace Gf := za (Gf.out.call hk VG.out.1)
  have DZ := za (I9.out.call hi hb hk)
  clear hi hb hk ho
  obtain ⟨c0, c1, c2, c3, c4, c5, c6, c7, c8, c9, c10, c11, f0, f1, f2, f3, f4, f5, f6, f7, f8, f9, f10, f11⟩ := DZ.out.kV
  have X22 := za (DZ.out.aKA (.slice UF cu.length vo))
  replace Gf := za (Gf.out.far VG.out.2.2.1 10 (.slice UF cu.length vo))
  replace Bv := za (Bv.out.far EE.out.2.2.1 10 (.slice UF cu.length vo))
  go_wp2_with fail
  clear c0 c1 c2 c3 c4 c5 c6 c7 c8 c9 c10 c11 f0 f1 f2 f3 f4 f5 f6 f7 f8 f9 f10 f11
  refine (eX.calls g l EA EB EC ED (⟨#[101, 108, 115, 101]⟩ : ByteArray) t19 cz df dh di w0 _ X22.out.hI X22.out.hB aMK.out).mono ?_
  rintro ee w19 ⟨rfl, hi, hb, hk⟩
  replace Gf := za (Gf.out.call hk VG.out.1)
  replace Bv := za (Bv.out.call hk EE.out.1)
  have RQ := za (X22.out.call hi hb hk)
  clear hi hb hk
  cases t19
  case true =>
   rw [if_pos rfl] at h
   obtain ⟨⟨l23, aUC, aUD, aUE, aUF⟩, h1, h⟩ := Option.bind_eq_some_iff.mp h
   dsimp only at h
   have bJ2 := za h1
   clear h1
   simp only [Option.some.injEq, Prod.mk.injEq] at h
   obtain ⟨rfl, rfl, rfl, rfl, rfl, rfl, rfl, rfl, rfl, rfl, rfl, rfl, rfl, rfl, rfl, rfl⟩ := h
   go_wp2_with fail
   have aHz := za Gf.out.2.2
   have dn := za Bv.out.2.2
   refine (bz.out kj (by have := HJ.out; omega) g l cz df dh di l23 aUC aUD aUE aUF w0 _ RQ.out.hI RQ.out.hB bJ2.out).mono ?_
   rintro ee w23 ⟨v, rfl, ho, hi, hb, hk⟩
   obtain ⟨A23, C23, rfl⟩ := Kd.bJ ho
   have aHA := za (bU.Row.mk' (B := w.heap.size) ho RQ.out.lt.2.2.2)
   have aUG := za RQ.out.lt
   replace Gf := za (Gf.out.call hk VG.out.1)
   replace Bv := za (Bv.out.call hk EE.out.1)
   have X23 := za (RQ.out.call hi hb hk)
   clear hi hb hk ho
   obtain ⟨c0, c1, c2, c3, c4, c5, c6, c7, c8, c9, c10, c11, f0, f1, f2, f3, f4, f5, f6, f7, f8, f9, f10, f11⟩ := X23.out.kV
   have X24 := za (X23.out.aUz (.slice A23 l23.length C23))
   replace Gf := za (Gf.out.far VG.out.2.2.1 11 (.slice A23 l23.length C23))
   replace Bv := za (Bv.out.far EE.out.2.2.1 11 (.slice A23 l23.length C23))
   replace aHA := za (aHA.out.far aUG.out.2.2.1 11 (.slice A23 l23.length C23))
   have PY := X24.out.n12
   have PZ := Ne.symm X24.out.n12
   obtain ⟨q0, q1, q2, q3, q4, q5, q6, q7, q8, q9, Q8, RJ, p0, p1, p2, p3, p4, p5, p6, p7, p8, p9, p10, rf⟩ := X23.out.Df
   go_wp2
   have F := X24.out.fin (.int .i64 5) (.int .i64 a1) (.string (⟨#[]⟩ : ByteArray)) (.string (⟨#[]⟩ : ByteArray)) (.string (⟨#[]⟩ : ByteArray)) (.bool false) (.string (⟨#[]⟩ : ByteArray)) (.string (⟨#[]⟩ : ByteArray)) (.slice vk l17.length C17) (.slice none 0 0) (.slice UF cu.length vo) (.slice A23 l23.length C23)
   refine bodyPost_ret (results_cell_row rfl _ _ b1 94 #[.int .i64 5, .int .i64 a1, .string (⟨#[]⟩ : ByteArray), .string (⟨#[]⟩ : ByteArray), .string (⟨#[]⟩ : ByteArray), .bool false, .string (⟨#[]⟩ : ByteArray), .string (⟨#[]⟩ : ByteArray), .slice vk l17.length C17, .slice none 0 0, .slice UF cu.length vo, .slice A23 l23.length C23] (0, 0) _ rfl F.1 JJ rfl dU) rfl ?_
   exact ⟨_, _, _, _, rfl, (Gf.out.Ng VG.out.2.1 _ _ _ _ _ _ _ _ _ _ _ _).fin (fun _ _ _ => trivial), Kd.Hl _ _ _ _ _, (Bv.out.Ng EE.out.2.1 _ _ _ _ _ _ _ _ _ _ _ _).fin (fun k_ ha_ hb_ => ⟨fun e_ => by have h_ := Gf.out.own k_ e_.symm; have q_ := dm.out; omega, Xj, fun e_ => by have h_ := aHA.out.own k_ e_.symm; have q_ := dn.out; omega⟩), (aHA.out.Ng aUG.out.2.1 _ _ _ _ _ _ _ _ _ _ _ _).fin (fun k_ ha_ hb_ => ⟨fun e_ => by have h_ := Gf.out.own k_ e_.symm; have q_ := aHz.out; omega, Xj, fun e_ => by have h_ := Bv.out.own k_ e_.symm; have q_ := dn.out; omega⟩), F.2.1, F.2.2.1, F.2.2.2⟩
  case false =>
   rw [if_neg (by decide)] at h
   simp only [Option.some.injEq, Prod.mk.injEq] at h
   obtain ⟨rfl, rfl, rfl, rfl, rfl, rfl, rfl, rfl, rfl, rfl, rfl, rfl, rfl, rfl, rfl, rfl⟩ := h
   obtain ⟨c0, c1, c2, c3, c4, c5, c6, c7, c8, c9, c10, c11, f0, f1, f2, f3, f4, f5, f6, f7, f8, f9, f10, f11⟩ := RQ.out.kV
   have PY := RQ.out.n12
   have PZ := Ne.symm RQ.out.n12
   obtain ⟨q0, q1, q2, q3, q4, q5, q6, q7, q8, q9, Q8, RJ, p0, p1, p2, p3, p4, p5, p6, p7, p8, p9, p10, rf⟩ := RQ.out.Df
   go_wp2
   have F := RQ.out.fin (.int .i64 5) (.int .i64 a1) (.string (⟨#[]⟩ : ByteArray)) (.string (⟨#[]⟩ : ByteArray)) (.string (⟨#[]⟩ : ByteArray)) (.bool false) (.string (⟨#[]⟩ : ByteArray)) (.string (⟨#[]⟩ : ByteArray)) (.slice vk l17.length C17) (.slice none 0 0) (.slice UF cu.length vo) (.slice none 0 0)
   refine bodyPost_ret (results_cell_row rfl _ _ b1 94 #[.int .i64 5, .int .i64 a1, .string (⟨#[]⟩ : ByteArray), .string (⟨#[]⟩ : ByteArray), .string (⟨#[]⟩ : ByteArray), .bool false, .string (⟨#[]⟩ : ByteArray), .string (⟨#[]⟩ : ByteArray), .slice vk l17.length C17, .slice none 0 0, .slice UF cu.length vo, .slice none 0 0] (0, 0) _ rfl F.1 JJ rfl dU) rfl ?_
   exact ⟨_, _, _, _, rfl, (Gf.out.Ng VG.out.2.1 _ _ _ _ _ _ _ _ _ _ _ _).fin (fun _ _ _ => trivial), Kd.Hl _ _ _ _ _, (Bv.out.Ng EE.out.2.1 _ _ _ _ _ _ _ _ _ _ _ _).fin (fun k_ ha_ hb_ => ⟨fun e_ => by have h_ := Gf.out.own k_ e_.symm; have q_ := dm.out; omega, Xj, Xj⟩), Kd.mW _ _ _ _ _, F.2.1, F.2.2.1, F.2.2.2⟩
 rw [if_neg (by decide)] at h
 obtain ⟨⟨t17, Xr, Xt, Xu, Xv⟩, h1, h⟩ := Option.bind_eq_some_iff.mp h
 dsimp only at h
 have aBL := za h1
 clear h1
 go_wp2_with fail
 refine (eX.calls g l Nh Nk Nl Nn (⟨#[119, 104, 105, 108, 101]⟩ : ByteArray) t17 Xr Xt Xu Xv w0 _ Xq.out.hI Xq.out.hB aBL.out).mono ?_
 rintro ee L_ ⟨rfl, hi, hb, hk⟩
 have Pn := za (Xq.out.call hi hb hk)
 clear hi hb hk
 cases t17
 case true =>
  rw [if_pos rfl] at h
  obtain ⟨⟨cu, EA, EB, EC, ED⟩, h1, h⟩ := Option.bind_eq_some_iff.mp h
  dsimp only at h
  have aBO := za h1
  clear h1
  obtain ⟨⟨l19, cz, df, dh, di⟩, h1, h⟩ := Option.bind_eq_some_iff.mp h
  dsimp only at h
  have aMK := za h1
  clear h1
  simp only [Option.some.injEq, Prod.mk.injEq] at h
  obtain ⟨rfl, rfl, rfl, rfl, rfl, rfl, rfl, rfl, rfl, rfl, rfl, rfl, rfl, rfl, rfl, rfl⟩ := h
  obtain ⟨c0, c1, c2, c3, c4, c5, c6, c7, c8, c9, c10, c11, f0, f1, f2, f3, f4, f5, f6, f7, f8, f9, f10, f11⟩ := Pn.out.kV
  have I8 := za (Pn.out.set0 (.int .i64 6))
  go_wp2_with fail
  clear c0 c1 c2 c3 c4 c5 c6 c7 c8 c9 c10 c11 f0 f1 f2 f3 f4 f5 f6 f7 f8 f9 f10 f11
  refine (bU.Il kj g l Xr Xt Xu Xv cu EA EB EC ED w0 _ I8.out.hI I8.out.hB aBO.out).mono ?_
  rintro ee w18 ⟨v, rfl, ho, hi, hb, hk⟩
  obtain ⟨UF, vo, rfl⟩ := Kd.bJ ho
  have Bv := za (bU.Row.mk' (B := w.heap.size) ho I8.out.lt.2.2.2)
  have EE := za I8.out.lt
  have DZ := za (I8.out.call hi hb hk)
  clear hi hb hk ho
  obtain ⟨c0, c1, c2, c3, c4, c5, c6, c7, c8, c9, c10, c11, f0, f1, f2, f3, f4, f5, f6, f7, f8, f9, f10, f11⟩ := DZ.out.kV
  have I9 := za (DZ.out.aBG (.slice UF cu.length vo))
  replace Bv := za (Bv.out.far EE.out.2.2.1 8 (.slice UF cu.length vo))
  go_wp2_with fail
  clear c0 c1 c2 c3 c4 c5 c6 c7 c8 c9 c10 c11 f0 f1 f2 f3 f4 f5 f6 f7 f8 f9 f10 f11
  have aHB := za Bv.out.2.2
  refine (bz.out kj (by have := HJ.out; omega) g l EA EB EC ED l19 cz df dh di w0 _ I9.out.hI I9.out.hB aMK.out).mono ?_
  rintro ee w19 ⟨v, rfl, ho, hi, hb, hk⟩
  obtain ⟨qz, C19, rfl⟩ := Kd.bJ ho
  have aML := za (bU.Row.mk' (B := w.heap.size) ho I9.out.lt.2.2.2)
  have aUH := za I9.out.lt
  replace Bv := za (Bv.out.call hk EE.out.1)
  have RQ := za (I9.out.call hi hb hk)
  clear hi hb hk ho
  obtain ⟨c0, c1, c2, c3, c4, c5, c6, c7, c8, c9, c10, c11, f0, f1, f2, f3, f4, f5, f6, f7, f8, f9, f10, f11⟩ := RQ.out.kV
  have X22 := za (RQ.out.aKA (.slice qz l19.length C19))
  replace Bv := za (Bv.out.far EE.out.2.2.1 10 (.slice qz l19.length C19))
  replace aML := za (aML.out.far aUH.out.2.2.1 10 (.slice qz l19.length C19))
  have PY := X22.out.n12
  have PZ := Ne.symm X22.out.n12
  obtain ⟨q0, q1, q2, q3, q4, q5, q6, q7, q8, q9, Q8, RJ, p0, p1, p2, p3, p4, p5, p6, p7, p8, p9, p10, rf⟩ := RQ.out.Df
  go_wp2
  have F := X22.out.fin (.int .i64 6) (.int .i64 a1) (.string (⟨#[]⟩ : ByteArray)) (.string (⟨#[]⟩ : ByteArray)) (.string (⟨#[]⟩ : ByteArray)) (.bool false) (.string (⟨#[]⟩ : ByteArray)) (.string (⟨#[]⟩ : ByteArray)) (.slice UF cu.length vo) (.slice none 0 0) (.slice qz l19.length C19) (.slice none 0 0)
  refine bodyPost_ret (results_cell_row rfl _ _ b1 94 #[.int .i64 6, .int .i64 a1, .string (⟨#[]⟩ : ByteArray), .string (⟨#[]⟩ : ByteArray), .string (⟨#[]⟩ : ByteArray), .bool false, .string (⟨#[]⟩ : ByteArray), .string (⟨#[]⟩ : ByteArray), .slice UF cu.length vo, .slice none 0 0, .slice qz l19.length C19, .slice none 0 0] (0, 0) _ rfl F.1 JJ rfl dU) rfl ?_
  exact ⟨_, _, _, _, rfl, (Bv.out.Ng EE.out.2.1 _ _ _ _ _ _ _ _ _ _ _ _).fin (fun _ _ _ => trivial), Kd.Hl _ _ _ _ _, (aML.out.Ng aUH.out.2.1 _ _ _ _ _ _ _ _ _ _ _ _).fin (fun k_ ha_ hb_ => ⟨fun e_ => by have h_ := Bv.out.own k_ e_.symm; have q_ := aHB.out; omega, Xj, Xj⟩), Kd.mW _ _ _ _ _, F.2.1, F.2.2.1, F.2.2.2⟩
 rw [if_neg (by decide)] at h
 obtain ⟨⟨EA, EB, EC, ED⟩, h1, h⟩ := Option.bind_eq_some_iff.mp h
 dsimp only at h
 have aBO := za h1
 clear h1
 simp only [Option.some.injEq, Prod.mk.injEq] at h
 obtain ⟨rfl, rfl, rfl, rfl, rfl, rfl, rfl, rfl, rfl, rfl, rfl, rfl, rfl, rfl, rfl, rfl⟩ := h
 go_wp2_with fail
 refine (jP.calls g l Xr Xt Xu Xv 11  EA EB EC ED w0 _ Pn.out.hI Pn.out.hB aBO.out).mono ?_
 rintro ee w18 ⟨rfl, hi, hb, hk⟩
 have DZ := za (Pn.out.call hi hb hk)
 clear hi hb hk
 obtain ⟨c0, c1, c2, c3, c4, c5, c6, c7, c8, c9, c10, c11, f0, f1, f2, f3, f4, f5, f6, f7, f8, f9, f10, f11⟩ := DZ.out.kV
 have PY := DZ.out.n12
 have PZ := Ne.symm DZ.out.n12
 obtain ⟨q0, q1, q2, q3, q4, q5, q6, q7, q8, q9, Q8, RJ, p0, p1, p2, p3, p4, p5, p6, p7, p8, p9, p10, rf⟩ := DZ.out.Df
 go_wp2
 have F := DZ.out.fin (.int .i64 0) (.int .i64 a1) (.string (⟨#[]⟩ : ByteArray)) (.string (⟨#[]⟩ : ByteArray)) (.string (⟨#[]⟩ : ByteArray)) (.bool false) (.string (⟨#[]⟩ : ByteArray)) (.string (⟨#[]⟩ : ByteArray)) (.slice none 0 0) (.slice none 0 0) (.slice none 0 0) (.slice none 0 0)
 refine bodyPost_ret (results_cell_row rfl _ _ b1 94 #[.int .i64 0, .int .i64 a1, .string (⟨#[]⟩ : ByteArray), .string (⟨#[]⟩ : ByteArray), .string (⟨#[]⟩ : ByteArray), .bool false, .string (⟨#[]⟩ : ByteArray), .string (⟨#[]⟩ : ByteArray), .slice none 0 0, .slice none 0 0, .slice none 0 0, .slice none 0 0] (0, 0) _ rfl F.1 JJ rfl dU) rfl ?_
 exact ⟨_, _, _, _, rfl, Kd.mW _ _ _ _ _, Kd.Hl _ _ _ _ _, Kd.mW _ _ _ _ _, Kd.mW _ _ _ _ _, F.2.1, F.2.2.1, F.2.2.2⟩
theorem fO.step (k : Nat) (aKB : aG (∀ m, m < k → ∀ (g : Nat) (aK : List (iJ)) (aX : Int) (bM : Int) (bN : Int) (bQ : Int) (r1 : Int) (r2 : Int) (r3 : ByteArray) (r4 : ByteArray) (r5 : ByteArray) (r6 : Bool) (r7 : ByteArray) (r8 : ByteArray) (r9 : List (dP)) (Hu : List (List (dP))) (Hw : List (mO)) (Ml : List (mO)) (DT : Int) (DU : Int) (DV : Int) (r16 : Int) (w0 w : World) (hI : aH w0 w g aK aX bM bN bQ) (hB : Below w0.heap.size w0 w) (h : bU.f m aK aX bM bN bQ = some (r1, r2, r3, r4, r5, r6, r7, r8, r9, Hu, Hw, Ml, DT, DU, DV, r16)),
  Calls Try.prog 44 #[.pointer (some ⟨g, 0, none⟩)] w fun e w' => ∃ Ik Ru Ap Aq : Value, e = .returned (.agg #[.int .i64 r1, .int .i64 r2, .string r3, .string r4, .string r5, .bool r6, .string r7, .string r8, Ik, Ru, Ap, Aq]) ∧ Kd.R gU 112 w' w.heap.size (fun _ => True) Ik r9 ∧ Kd.S (Kd.slice 112 gU) 91 w' w.heap.size (fun k_ => some k_ ≠ (Ik : Value).ownBlock) Ru Hu ∧ Kd.R Fv 94 w' w.heap.size (fun k_ => some k_ ≠ (Ik : Value).ownBlock ∧ some k_ ≠ (Ru : Value).ownBlock ∧ some k_ ≠ (Aq : Value).ownBlock) Ap Hw ∧ Kd.R Fv 94 w' w.heap.size (fun k_ => some k_ ≠ (Ik : Value).ownBlock ∧ some k_ ≠ (Ru : Value).ownBlock ∧ some k_ ≠ (Ap : Value).ownBlock) Aq Ml ∧ aH w0 w' g aK DT DU DV r16 ∧ Below w0.heap.size w0 w' ∧ aU w w' g none)) (bz : aG (∀ m, m < k → ∀ (g : Nat) (aK : List (iJ)) (aX : Int) (bM : Int) (bN : Int) (bQ : Int) (r1 : List (mO)) (r2 : Int) (r3 : Int) (r4 : Int) (r5 : Int) (w0 w : World) (hI : aH w0 w g aK aX bM bN bQ) (hB : Below w0.heap.size w0 w) (h : fO.f m aK aX bM bN bQ = some (r1, r2, r3, r4, r5)),
  Calls Try.prog 37 #[.pointer (some ⟨g, 0, none⟩)] w fun e w' => ∃ lZ : Value, e = .returned (lZ) ∧ Kd.R Fv 94 w' w.heap.size (fun _ => True) lZ r1 ∧ aH w0 w' g aK r2 r3 r4 r5 ∧ Below w0.heap.size w0 w' ∧ aU w w' g none)) : ∀ (g : Nat) (aK : List (iJ)) (aX : Int) (bM : Int) (bN : Int) (bQ : Int) (r1 : List (mO)) (r2 : Int) (r3 : Int) (r4 : Int) (r5 : Int) (w0 w : World) (hI : aH w0 w g aK aX bM bN bQ) (hB : Below w0.heap.size w0 w) (h : fO.f k aK aX bM bN bQ = some (r1, r2, r3, r4, r5)),
  Calls Try.prog 37 #[.pointer (some ⟨g, 0, none⟩)] w fun e w' => ∃ lZ : Value, e = .returned (lZ) ∧ Kd.R Fv 94 w' w.heap.size (fun _ => True) lZ r1 ∧ aH w0 w' g aK r2 r3 r4 r5 ∧ Below w0.heap.size w0 w' ∧ aU w w' g none := by
 intro g aK aX bM bN bQ r1 r2 r3 r4 r5 w0 w hI hB h
 cases k with
 | zero => exact absurd h (by simp [fO.f])
 | succ k =>
 simp only [fO.f] at h
 have HI0 := za hI
 have HK := za (aU.refl w g none)
 have HL := za hB.size
 clear hI
 have HW0 := za hB.size
 have HB := za hB
 clear hB
 have H : ((gW.f k aK aX bM bN bQ (⟨#[123]⟩ : ByteArray)).bind fun Si => (fO.l0 k ([] : List (mO)) aK Si.1 Si.2.1 Si.2.2.1 Si.2.2.2)) = some (r1, r2, r3, r4, r5) := h
 clear h
 replace H := jT H
 obtain ⟨⟨aUI, aUJ, aUK, aUL⟩, A2, H⟩ := H
 (try dsimp only at H)
 have H' := za H
 clear H
 go_enter Try.func37, Try.ntmps37
 go_wp2_with (first | ((with_reducible refine zg 43 rfl ?_); refine kZ (some 5) Try.func43 #[.pointer (some ⟨g, 0, none⟩), .string (⟨#[123]⟩ : ByteArray)] ?_; refine (gW.calls k g aK aX bM bN bQ (⟨#[123]⟩ : ByteArray) aUI aUJ aUK aUL w0 _ mZ qJ A2.out).mono ?_; rintro e w3 ⟨rfl, hi, hb, hk⟩; refine ⟨_, rfl, ?_⟩; replace HK := sN vN hk; replace HB := za (hb); replace HI0 := za (hi)))
 (try simp only [Act.put, List.setIfInBounds_toArray, List.set_cons_zero, List.set_cons_succ])
 go_loopg [3] k (fun kq v3 w' => ∃ (xU : List (mO)) (iE : Int) (iF : Int) (iG : Int) (iH : Int), aG (fO.l0 kq xU aK iE iF iG iH = some (r1, r2, r3, r4, r5)) ∧ aG (kq ≤ k) ∧ aG (Kd.R Fv 94 w' w.heap.size (fun _ => True) v3 xU) ∧ aG (aH w0 w' g aK iE iF iG iH) ∧ aG (aU w w' g none) ∧ aG (Below w0.heap.size w0 w'))
 case atStart => exact ⟨(([] : List (mO))), (aUI), (aUJ), (aUK), (aUL), H', ⟨Nat.le_refl _⟩, ⟨vJ⟩, ⟨mZ⟩, ⟨vN⟩, ⟨qJ⟩⟩
 case round =>
  clear H'
  obtain ⟨xU, iE, iF, iG, iH, HA, lH, gT, HI0, HK, HB⟩ := hrel
  cases gk with
  | zero => exact absurd HA.out (by simp [fO.l0])
  | succ k1 =>
   have H := HA.out
   clear HA
   simp only [fO.l0] at H
   revert H; refine oW (fun wY TA H => ?_) (fun c4 wY TA H => ?_)
   ·
    replace H := jT H
    obtain ⟨⟨bJ3, aBP, aBQ, aBR, aBS⟩, A5, H⟩ := H
    (try dsimp only at H)
    have KH := za H
    clear H
    obtain ⟨CY, Wi, lT, CZ, Wj⟩ := HI0.out
    have Wl := fI lT
    have Wm := fJ lT
    have Wn := fK lT
    have DC := fM lT
    have DD := fG lT
    have Wo := aD lT 1
    have Wp := aD lT 2
    have DF := aD lT 3
    have DI := aD lT 4
    clear lT CZ
    go_upto_if 15 with (first | ((with_reducible refine gL (f := 35) rfl ?_); (with_reducible refine bO (N := 13) rfl ?_); (refine fD (by rfl) ?_; dsimp only); refine nQ (some 13) rfl rfl Try.func35 dU rfl #[.pointer (some ⟨g, 0, none⟩), .string (⟨#[125]⟩ : ByteArray)] rfl Fb ?_; (with_reducible refine (nN.calls g aK iE iF iG iH (⟨#[125]⟩ : ByteArray) bJ3 aBP aBQ aBR aBS w0 _ ?side1 ?side2 A5.out).mono ?_); (case side1 => exact mZ); (case side2 => exact qJ); rintro e w8 ⟨rfl, hi, hb, hk⟩; refine ⟨_, rfl, ?_⟩; replace gT := za (Kd.aQ (Kd.fC (aH.apart (show aH w0 _ g aK iE iF iG iH from mZ) (zr gT.out) (by decide)) hk (fun _ h => h.2)) (fun _ h => h.1)); replace HK := sN vN hk; replace HB := za (hb); replace HI0 := za (hi)))
    (try simp only [Act.put, List.setIfInBounds_toArray, List.set_cons_zero, List.set_cons_succ])
    have H := KH.out
    clear KH
    replace H := Bq H
    rcases H with ⟨rfl, H⟩ | ⟨rfl, H⟩
    ·
     replace H := jT H
     obtain ⟨⟨bJ4, bJ5, bJ6, bJ7⟩, qR, H⟩ := H
     (try dsimp only at H)
     simp only [Option.some.injEq, Prod.mk.injEq] at H
     obtain ⟨rfl, rfl, rfl, rfl, rfl⟩ := H
     go_wp2_with (first | ((with_reducible refine zg 27 rfl ?_); refine kZ (some 22) Try.func27 #[.pointer (some ⟨g, 0, none⟩), .string (⟨#[125]⟩ : ByteArray)] ?_; refine (dI.calls g aK aBP aBQ aBR aBS (⟨#[125]⟩ : ByteArray) bJ4 bJ5 bJ6 bJ7 w0 _ mZ qJ qR.out).mono ?_; rintro e OY ⟨rfl, hi, hb, hk⟩; refine ⟨_, rfl, ?_⟩; replace gT := za (Kd.aQ (Kd.fC (aH.apart (show aH w0 _ g aK aBP aBQ aBR aBS from mZ) (zr gT.out) (by decide)) hk (fun _ h => h.2)) (fun _ h => h.1)); replace HK := sN vN hk; replace HB := za (hb); replace HI0 := za (hi); (try clear hb hk hi); obtain ⟨bEb, bEc, Np, aUM, bEd⟩ := HI0.out; have dw := fI Np; have dx := fJ Np; have dz := fK Np; have aHC := fM Np; have aHD := fG Np; have ed := aD Np 1; have ek := aD Np 2; have aHE := aD Np 3; have aHF := aD Np 4; clear Np aUM))
     go_ret
     exact ⟨_, jR, aJF, mZ, qJ, vN⟩
    ·
     replace H := jT H
     obtain ⟨⟨aBT, aBU, aBV, aBW, aBX, aBY, aBZ, aB0, aB1, aB2, aB3, aB4, aMM, aMN, aMO, aMP⟩, A13, H⟩ := H
     (try dsimp only at H)
     revert H; refine IP fun aUN H => ?_
     obtain ⟨aUO, VH⟩ : ∃ y_ : List (mO), y_ = (xU ++ [(⟨aBT, aBU, aBV, aBW, aBX, aBY, aBZ, aB0, aB1, aB2, aB3, aB4⟩ : mO)]) := ⟨_, rfl⟩
     replace H : (fO.l0 k1 aUO aK aMM aMN aMO aMP) = some (r1, r2, r3, r4, r5) := by first | (rw [VH]; with_reducible exact H) | (have lS := (Option.bind_some _ _).symm.trans H; rw [VH]; with_reducible exact lS) | (have lS := (Option.bind_some _ _).symm.trans H; with_reducible exact lS) | with_reducible exact H | (rw [VH]; exact H) | exact H
     have aUP := za VH
     clear VH
     have H' := za H
     clear H
     go_wp2_with (first | ((with_reducible refine zg 44 rfl ?_); refine kZ (some 18) Try.func44 #[.pointer (some ⟨g, 0, none⟩)] ?_; refine (aKB.out k1 (by have := lH.out; omega) g aK aBP aBQ aBR aBS aBT aBU aBV aBW aBX aBY aBZ aB0 aB1 aB2 aB3 aB4 aMM aMN aMO aMP w0 _ mZ qJ A13.out).mono ?_; rintro e w15 ⟨bQe, bQf, bQg, bQh, rfl, ho0, ho1, ho2, ho3, hi, hb, hk⟩; refine ⟨_, rfl, ?_⟩; have aB5 := za (Kd.eU ho0 (eG (w := w) (g := g) (row := none) vN)); have aB6 := za (Kd.P7 ho1 (eG (w := w) (g := g) (row := none) vN)); have aB7 := za (Kd.eU (Kd.yQ ho2 (Kd.Hg (zr gT.out))) (eG (w := w) (g := g) (row := none) vN)); have aB8 := za (Kd.eU (Kd.yQ ho3 (Kd.Hg (zr gT.out))) (eG (w := w) (g := g) (row := none) vN)); replace gT := za (Kd.aQ (Kd.uI (Kd.uI (Kd.uI (Kd.uI (Kd.yg (aH.apart (show aH w0 _ g aK aBP aBQ aBR aBS from mZ) (zr gT.out) (by decide)) hk) (Kd.iV ho0)) (Kd.aLa ho1)) (Kd.iV ho2)) (Kd.iV ho3)) (fun _ h_ => h_.1)); replace HK := sN vN hk; replace HB := za (hb); replace HI0 := za (hi); (try clear hb hk hi ho0 ho1 ho2 ho3); obtain ⟨bJ8, bJ9, bKa⟩ := Kd.bJ aB5.out; subst bKa; obtain ⟨bKb, bKc, bKd⟩ := Kd.NA aB6.out; subst bKd; obtain ⟨PS, PT, aBy⟩ := Kd.bJ aB7.out; subst aBy; obtain ⟨bKe, bKf, bKg⟩ := Kd.bJ aB8.out; subst bKg) | ((with_reducible refine iK (b := .append) (xs := #[.tmp 16, .tmp 19]) rfl ?_); at_builtin; refine Kd.nP Fv w.heap.size rfl (.tmp 16) (.tmp 19) 36 94 (.agg #[(.int .i64 0), (.int .i64 0), (.string ⟨#[]⟩), (.string ⟨#[]⟩), (.string ⟨#[]⟩), (.bool false), (.string ⟨#[]⟩), (.string ⟨#[]⟩), (.slice none 0 0), (.slice none 0 0), (.slice none 0 0), (.slice none 0 0)]) 200 rfl Try.underlying36 aLl rfl (by decide) (by omega) u3 xU (⟨aBT, aBU, aBV, aBW, aBX, aBY, aBZ, aB0, aB1, aB2, aB3, aB4⟩ : mO) [.int .i64 aBT, .int .i64 aBU, .string aBV, .string aBW, .string aBX, .bool aBY, .string aBZ, .string aB0, .slice bJ8 aB1.length bJ9, .slice bKb aB2.length bKc, .slice PS aB3.length PT, .slice bKe aB4.length bKf] (fun _ => True) (fun k_ => ((fun _ => True)) k_ ∧ some k_ ≠ (u3 : Value).ownBlock) rfl rfl ?aP (fun _ hk => hk) ?aF ?aO (Below.refl _ _) ?aS ?aL ?_; (case aP => exact aEu _ _ _ (⟨aBT, aBU, aBV, aBW, aBX, aBY, aBZ, aB0, aB1, aB2, aB3, aB4⟩ : mO) (Kd.aQ (Kd.pK (aB5.out) (Kd.oG gT.out) (by decide)) (fun k_ hk => ⟨trivial, hk.2⟩)) (Kd.aQ (Kd.pK ((Kd.S_R aB6.out)) (Kd.oG gT.out) (by decide)) (fun k_ hk => ⟨trivial, hk.2⟩)) (Kd.aQ (aB7.out) (fun k_ hk => ⟨trivial, hk.2⟩)) (Kd.aQ (aB8.out) (fun k_ hk => ⟨trivial, hk.2⟩))); (case aF => exact (fun _ _ => trivial)); (case aO => exact aJN); (case aS => exact (eG (w := w) (g := g) (row := none) vN)); (case aL => have := aUN.out; omega); intro bQi w16 ho hb hg hat; rw [← aUP.out] at ho; replace HB := za (rR qJ HL.out hb); replace HI0 := za (aH.grown mZ hg (aH.own_ne HI0.out gT.out (by decide))); replace HK := za (aU.trans vN (aU.mV hg g) (Kd.Fj gT.out)); have aUQ := za (ho); clear gT aB5 aB6 aB7 aB8; clear ho hb hg hat))
     go_roundg k1
     case measure => have := lH.out; omega
     case rel => exact ⟨(aUO), (aMM), (aMN), (aMO), (aMP), H', ⟨by have := lH.out; omega⟩, ⟨by (with_reducible repeat (first | apply Kd.bC | apply Kd.bF | apply Kd.bP)); exact aUQ.out⟩, ⟨mZ⟩, ⟨vN⟩, ⟨qJ⟩⟩
   ·
    replace H := jT H
    obtain ⟨⟨bKh, bKi, bKj, bKk⟩, A21, H⟩ := H
    (try dsimp only at H)
    simp only [Option.some.injEq, Prod.mk.injEq] at H
    obtain ⟨rfl, rfl, rfl, rfl, rfl⟩ := H
    obtain ⟨bEe, bEf, Nq, aUR, bEg⟩ := HI0.out
    have eu := fI Nq
    have fe := fJ Nq
    have fo := fK Nq
    have fq := fM Nq
    have fw := fG Nq
    have gq := aD Nq 1
    have gu := aD Nq 2
    have gy := aD Nq 3
    have gz := aD Nq 4
    clear Nq aUR
    go_wp2_with (first | ((with_reducible refine zg 27 rfl ?_); refine kZ (some 22) Try.func27 #[.pointer (some ⟨g, 0, none⟩), .string (⟨#[125]⟩ : ByteArray)] ?_; refine (dI.calls g aK iE iF iG iH (⟨#[125]⟩ : ByteArray) bKh bKi bKj bKk w0 _ mZ qJ A21.out).mono ?_; rintro e w23 ⟨rfl, hi, hb, hk⟩; refine ⟨_, rfl, ?_⟩; replace gT := za (Kd.aQ (Kd.fC (aH.apart (show aH w0 _ g aK iE iF iG iH from mZ) (zr gT.out) (by decide)) hk (fun _ h => h.2)) (fun _ h => h.1)); replace HK := sN vN hk; replace HB := za (hb); replace HI0 := za (hi); (try clear hb hk hi); obtain ⟨Y6, NQ, qI, TT, NR⟩ := HI0.out; have NS := fI qI; have NT := fJ qI; have NU := fK qI; have Y7 := fM qI; have Y8 := fG qI; have NV := aD qI 1; have NW := aD qI 2; have Y9 := aD qI 3; have Z0 := aD qI 4; clear qI TT))
    go_ret
    exact ⟨_, jR, aJF, mZ, qJ, vN⟩
theorem sF.all (k : Nat) : (∀ (g : Nat) (aK : List (iJ)) (aX : Int) (bM : Int) (bN : Int) (bQ : Int) (r1 : Int) (r2 : Int) (r3 : ByteArray) (r4 : ByteArray) (r5 : ByteArray) (r6 : Bool) (r7 : ByteArray) (r8 : ByteArray) (r9 : List (dP)) (Hu : List (List (dP))) (Hw : List (mO)) (Ml : List (mO)) (DT : Int) (DU : Int) (DV : Int) (r16 : Int) (w0 w : World) (hI : aH w0 w g aK aX bM bN bQ) (hB : Below w0.heap.size w0 w) (h : bU.f k aK aX bM bN bQ = some (r1, r2, r3, r4, r5, r6, r7, r8, r9, Hu, Hw, Ml, DT, DU, DV, r16)),
  Calls Try.prog 44 #[.pointer (some ⟨g, 0, none⟩)] w fun e w' => ∃ Ik Ru Ap Aq : Value, e = .returned (.agg #[.int .i64 r1, .int .i64 r2, .string r3, .string r4, .string r5, .bool r6, .string r7, .string r8, Ik, Ru, Ap, Aq]) ∧ Kd.R gU 112 w' w.heap.size (fun _ => True) Ik r9 ∧ Kd.S (Kd.slice 112 gU) 91 w' w.heap.size (fun k_ => some k_ ≠ (Ik : Value).ownBlock) Ru Hu ∧ Kd.R Fv 94 w' w.heap.size (fun k_ => some k_ ≠ (Ik : Value).ownBlock ∧ some k_ ≠ (Ru : Value).ownBlock ∧ some k_ ≠ (Aq : Value).ownBlock) Ap Hw ∧ Kd.R Fv 94 w' w.heap.size (fun k_ => some k_ ≠ (Ik : Value).ownBlock ∧ some k_ ≠ (Ru : Value).ownBlock ∧ some k_ ≠ (Ap : Value).ownBlock) Aq Ml ∧ aH w0 w' g aK DT DU DV r16 ∧ Below w0.heap.size w0 w' ∧ aU w w' g none) ∧ (∀ (g : Nat) (aK : List (iJ)) (aX : Int) (bM : Int) (bN : Int) (bQ : Int) (r1 : List (mO)) (r2 : Int) (r3 : Int) (r4 : Int) (r5 : Int) (w0 w : World) (hI : aH w0 w g aK aX bM bN bQ) (hB : Below w0.heap.size w0 w) (h : fO.f k aK aX bM bN bQ = some (r1, r2, r3, r4, r5)),
  Calls Try.prog 37 #[.pointer (some ⟨g, 0, none⟩)] w fun e w' => ∃ lZ : Value, e = .returned (lZ) ∧ Kd.R Fv 94 w' w.heap.size (fun _ => True) lZ r1 ∧ aH w0 w' g aK r2 r3 r4 r5 ∧ Below w0.heap.size w0 w' ∧ aU w w' g none) := by
 induction k using Nat.strongRecOn with
 | _ k ih => exact ⟨bU.step k ⟨fun m hm => (ih m hm).1⟩ ⟨fun m hm => (ih m hm).2⟩, fO.step k ⟨fun m hm => (ih m hm).1⟩ ⟨fun m hm => (ih m hm).2⟩⟩
theorem bU.calls (k : Nat) : ∀ (g : Nat) (aK : List (iJ)) (aX : Int) (bM : Int) (bN : Int) (bQ : Int) (r1 : Int) (r2 : Int) (r3 : ByteArray) (r4 : ByteArray) (r5 : ByteArray) (r6 : Bool) (r7 : ByteArray) (r8 : ByteArray) (r9 : List (dP)) (Hu : List (List (dP))) (Hw : List (mO)) (Ml : List (mO)) (DT : Int) (DU : Int) (DV : Int) (r16 : Int) (w0 w : World) (hI : aH w0 w g aK aX bM bN bQ) (hB : Below w0.heap.size w0 w) (h : bU.f k aK aX bM bN bQ = some (r1, r2, r3, r4, r5, r6, r7, r8, r9, Hu, Hw, Ml, DT, DU, DV, r16)),
  Calls Try.prog 44 #[.pointer (some ⟨g, 0, none⟩)] w fun e w' => ∃ Ik Ru Ap Aq : Value, e = .returned (.agg #[.int .i64 r1, .int .i64 r2, .string r3, .string r4, .string r5, .bool r6, .string r7, .string r8, Ik, Ru, Ap, Aq]) ∧ Kd.R gU 112 w' w.heap.size (fun _ => True) Ik r9 ∧ Kd.S (Kd.slice 112 gU) 91 w' w.heap.size (fun k_ => some k_ ≠ (Ik : Value).ownBlock) Ru Hu ∧ Kd.R Fv 94 w' w.heap.size (fun k_ => some k_ ≠ (Ik : Value).ownBlock ∧ some k_ ≠ (Ru : Value).ownBlock ∧ some k_ ≠ (Aq : Value).ownBlock) Ap Hw ∧ Kd.R Fv 94 w' w.heap.size (fun k_ => some k_ ≠ (Ik : Value).ownBlock ∧ some k_ ≠ (Ru : Value).ownBlock ∧ some k_ ≠ (Ap : Value).ownBlock) Aq Ml ∧ aH w0 w' g aK DT DU DV r16 ∧ Below w0.heap.size w0 w' ∧ aU w w' g none := (sF.all k).1
theorem fO.calls (k : Nat) : ∀ (g : Nat) (aK : List (iJ)) (aX : Int) (bM : Int) (bN : Int) (bQ : Int) (r1 : List (mO)) (r2 : Int) (r3 : Int) (r4 : Int) (r5 : Int) (w0 w : World) (hI : aH w0 w g aK aX bM bN bQ) (hB : Below w0.heap.size w0 w) (h : fO.f k aK aX bM bN bQ = some (r1, r2, r3, r4, r5)),
  Calls Try.prog 37 #[.pointer (some ⟨g, 0, none⟩)] w fun e w' => ∃ lZ : Value, e = .returned (lZ) ∧ Kd.R Fv 94 w' w.heap.size (fun _ => True) lZ r1 ∧ aH w0 w' g aK r2 r3 r4 r5 ∧ Below w0.heap.size w0 w' ∧ aU w w' g none := (sF.all k).2
end Go.Proofs.Ytiaeldibklcobaa.eZ
