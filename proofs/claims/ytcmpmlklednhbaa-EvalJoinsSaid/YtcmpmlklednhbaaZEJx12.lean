import Derived.Test.YtcmpmlklednhbaaZEJx11
namespace Go.Proofs.Ytcmpmlklednhbaa.QEvalJoins
open Go.RowKit Go.Proofs.YtcmpmlklednhbaaW.PrintWords Go.Proofs.YtcmpmlklednhbaaW.PrintLast Go.Proofs.YtcmpmlklednhbaaW.PrintMore
set_option maxHeartbeats 8000000
set_option maxRecDepth 100000
attribute [local go_sem] max2_int min2_int max_two min_two max_three min_three max_four min_four
set_option linter.unusedVariables false
set_option linter.unusedSimpArgs false
mutual
def rr_stmt.j0 : Nat → Bool → List (S69) → Int → Int → Int → Int → Int → Int → ByteArray → ByteArray → ByteArray → Bool → ByteArray → ByteArray → Option (Int × Int × ByteArray × ByteArray × ByteArray × Bool × ByteArray × ByteArray × (List (S48)) × (List (List (S48))) × (List (S45)) × (List (S45)) × Int × Int × Int × Int)
 | 0, _, _, _, _, _, _, _, _, _, _, _, _, _, _ => none
 | k + 1, x12, x1000, x1001, x1002, x1003, x1004, x511000, x511001, x511002, x511003, x511004, x511005, x511006, x511007 => if x12 = true then ((rr_qname.f x1000 x1001 x1002 x1003 x1004).bind fun bt512 => ((rr_want.f x1000 bt512.2.2.1 bt512.2.2.2.1 bt512.2.2.2.2.1 bt512.2.2.2.2.2 (⟨#[61]⟩ : ByteArray)).bind fun bt518 => ((rr_expr.f k x1000 bt518.1 bt518.2.1 bt518.2.2.1 bt518.2.2.2 ([] : List (S48))).bind fun bt522 => ((rr_want.f x1000 bt522.2.1 bt522.2.2.1 bt522.2.2.2.1 bt522.2.2.2.2 (⟨#[59]⟩ : ByteArray)).bind fun bt529 => (some (2, x511001, bt512.1, bt512.2.1, x511004, x511005, x511006, x511007, bt522.1, ([] : List (List (S48))), ([] : List (S45)), ([] : List (S45)), bt529.1, bt529.2.1, bt529.2.2.1, bt529.2.2.2)))))) else ((rr_take.f x1000 x1001 x1002 x1003 x1004 (⟨#[108, 101, 116]⟩ : ByteArray)).bind fun bt533 => (if bt533.1 = true then ((rr_name.f x1000 bt533.2.1 bt533.2.2.1 bt533.2.2.2.1 bt533.2.2.2.2).bind fun bt538 => ((rr_want.f x1000 bt538.2.1 bt538.2.2.1 bt538.2.2.2.1 bt538.2.2.2.2 (⟨#[58]⟩ : ByteArray)).bind fun bt543 => ((rr_name.f x1000 bt543.1 bt543.2.1 bt543.2.2.1 bt543.2.2.2).bind fun bt547 => ((rr_want.f x1000 bt547.2.1 bt547.2.2.1 bt547.2.2.2.1 bt547.2.2.2.2 (⟨#[61]⟩ : ByteArray)).bind fun bt552 => ((rr_expr.f k x1000 bt552.1 bt552.2.1 bt552.2.2.1 bt552.2.2.2 ([] : List (S48))).bind fun bt556 => ((rr_want.f x1000 bt556.2.1 bt556.2.2.1 bt556.2.2.2.1 bt556.2.2.2.2 (⟨#[59]⟩ : ByteArray)).bind fun bt563 => (some (1, x511001, x511002, bt538.1, bt547.1, x511005, x511006, x511007, bt556.1, ([] : List (List (S48))), ([] : List (S45)), ([] : List (S45)), bt563.1, bt563.2.1, bt563.2.2.1, bt563.2.2.2)))))))) else ((rr_take.f x1000 bt533.2.1 bt533.2.2.1 bt533.2.2.2.1 bt533.2.2.2.2 (⟨#[114, 101, 115, 117, 108, 116]⟩ : ByteArray)).bind fun bt567 => (if bt567.1 = true then ((rr_want.f x1000 bt567.2.1 bt567.2.2.1 bt567.2.2.2.1 bt567.2.2.2.2 (⟨#[61]⟩ : ByteArray)).bind fun bt572 => ((rr_expr.f k x1000 bt572.1 bt572.2.1 bt572.2.2.1 bt572.2.2.2 ([] : List (S48))).bind fun bt576 => ((rr_want.f x1000 bt576.2.1 bt576.2.2.1 bt576.2.2.2.1 bt576.2.2.2.2 (⟨#[59]⟩ : ByteArray)).bind fun bt583 => (some (3, x511001, x511002, x511003, x511004, x511005, x511006, x511007, bt576.1, ([] : List (List (S48))), ([] : List (S45)), ([] : List (S45)), bt583.1, bt583.2.1, bt583.2.2.1, bt583.2.2.2))))) else ((rr_take.f x1000 bt567.2.1 bt567.2.2.1 bt567.2.2.2.1 bt567.2.2.2.2 (⟨#[99, 97, 108, 108]⟩ : ByteArray)).bind fun bt587 => (if bt587.1 = true then ((rr_call.f k x1000 bt587.2.1 bt587.2.2.1 bt587.2.2.2.1 bt587.2.2.2.2 x511000 x511001 x511002 x511003 x511004 x511005 x511006 x511007).bind fun bt592 => ((rr_want.f x1000 bt592.2.2.2.2.2.2.2.2.2.2.2.2.1 bt592.2.2.2.2.2.2.2.2.2.2.2.2.2.1 bt592.2.2.2.2.2.2.2.2.2.2.2.2.2.2.1 bt592.2.2.2.2.2.2.2.2.2.2.2.2.2.2.2 (⟨#[59]⟩ : ByteArray)).bind fun bt616 => (some (bt592.1, bt592.2.1, bt592.2.2.1, bt592.2.2.2.1, bt592.2.2.2.2.1, bt592.2.2.2.2.2.1, bt592.2.2.2.2.2.2.1, bt592.2.2.2.2.2.2.2.1, bt592.2.2.2.2.2.2.2.2.1, bt592.2.2.2.2.2.2.2.2.2.1, bt592.2.2.2.2.2.2.2.2.2.2.1, bt592.2.2.2.2.2.2.2.2.2.2.2.1, bt616.1, bt616.2.1, bt616.2.2.1, bt616.2.2.2)))) else ((rr_take.f x1000 bt587.2.1 bt587.2.2.1 bt587.2.2.2.1 bt587.2.2.2.2 (⟨#[101, 109, 105, 116]⟩ : ByteArray)).bind fun bt620 => (if bt620.1 = true then ((rr_name.f x1000 bt620.2.1 bt620.2.2.1 bt620.2.2.2.1 bt620.2.2.2.2).bind fun bt625 => ((rr_want.f x1000 bt625.2.1 bt625.2.2.1 bt625.2.2.2.1 bt625.2.2.2.2 (⟨#[59]⟩ : ByteArray)).bind fun bt630 => (some (7, x511001, x511002, bt625.1, x511004, x511005, x511006, x511007, ([] : List (S48)), ([] : List (List (S48))), ([] : List (S45)), ([] : List (S45)), bt630.1, bt630.2.1, bt630.2.2.1, bt630.2.2.2)))) else ((rr_take.f x1000 bt620.2.1 bt620.2.2.1 bt620.2.2.2.1 bt620.2.2.2.2 (⟨#[115, 107, 105, 112]⟩ : ByteArray)).bind fun bt634 => (if bt634.1 = true then ((rr_want.f x1000 bt634.2.1 bt634.2.2.1 bt634.2.2.2.1 bt634.2.2.2.2 (⟨#[59]⟩ : ByteArray)).bind fun bt639 => (some (8, x511001, x511002, x511003, x511004, x511005, x511006, x511007, ([] : List (S48)), ([] : List (List (S48))), ([] : List (S45)), ([] : List (S45)), bt639.1, bt639.2.1, bt639.2.2.1, bt639.2.2.2))) else ((rr_take.f x1000 bt634.2.1 bt634.2.2.1 bt634.2.2.2.1 bt634.2.2.2.2 (⟨#[105, 102]⟩ : ByteArray)).bind fun bt643 => (if bt643.1 = true then ((rr_expr.f k x1000 bt643.2.1 bt643.2.2.1 bt643.2.2.2.1 bt643.2.2.2.2 ([] : List (S48))).bind fun bt648 => ((rr_block.f k x1000 bt648.2.1 bt648.2.2.1 bt648.2.2.2.1 bt648.2.2.2.2).bind fun bt655 => ((rr_take.f x1000 bt655.2.1 bt655.2.2.1 bt655.2.2.2.1 bt655.2.2.2.2 (⟨#[101, 108, 115, 101]⟩ : ByteArray)).bind fun bt662 => (if bt662.1 = true then ((rr_block.f k x1000 bt662.2.1 bt662.2.2.1 bt662.2.2.2.1 bt662.2.2.2.2).bind fun bt667 => (some (5, x511001, x511002, x511003, x511004, x511005, x511006, x511007, bt648.1, ([] : List (List (S48))), bt655.1, bt667.1, bt667.2.1, bt667.2.2.1, bt667.2.2.2.1, bt667.2.2.2.2))) else (some (5, x511001, x511002, x511003, x511004, x511005, x511006, x511007, bt648.1, ([] : List (List (S48))), bt655.1, ([] : List (S45)), bt662.2.1, bt662.2.2.1, bt662.2.2.2.1, bt662.2.2.2.2)))))) else ((rr_take.f x1000 bt643.2.1 bt643.2.2.1 bt643.2.2.2.1 bt643.2.2.2.2 (⟨#[119, 104, 105, 108, 101]⟩ : ByteArray)).bind fun bt674 => (if bt674.1 = true then ((rr_expr.f k x1000 bt674.2.1 bt674.2.2.1 bt674.2.2.2.1 bt674.2.2.2.2 ([] : List (S48))).bind fun bt679 => ((rr_block.f k x1000 bt679.2.1 bt679.2.2.1 bt679.2.2.2.1 bt679.2.2.2.2).bind fun bt686 => (some (6, x511001, x511002, x511003, x511004, x511005, x511006, x511007, bt679.1, ([] : List (List (S48))), bt686.1, ([] : List (S45)), bt686.2.1, bt686.2.2.1, bt686.2.2.2.1, bt686.2.2.2.2)))) else ((rr_fail.f x1000 bt674.2.1 bt674.2.2.1 bt674.2.2.2.1 bt674.2.2.2.2 11).bind fun bt693 => (some (x511000, x511001, x511002, x511003, x511004, x511005, x511006, x511007, ([] : List (S48)), ([] : List (List (S48))), ([] : List (S45)), ([] : List (S45)), bt693.1, bt693.2.1, bt693.2.2.1, bt693.2.2.2)))))))))))))))))
def rr_stmt.f : Nat → List (S69) → Int → Int → Int → Int → Option (Int × Int × ByteArray × ByteArray × ByteArray × Bool × ByteArray × ByteArray × (List (S48)) × (List (List (S48))) × (List (S45)) × (List (S45)) × Int × Int × Int × Int)
 | 0, _, _, _, _, _ => none
 | k + 1, s0_0, s0_1, s0_2, s0_3, s0_4 => (rr_here.f s0_0 s0_1 s0_2 s0_3 s0_4).bind fun bt505 => (if bt505.2.2.2.1 = 0 then (if 0 ≤ bt505.2.1 then (if bt505.2.1 < (s0_0.length : Int) then (rr_stmt.j0 k (((rd_T69 s0_0 bt505.2.1).f0) == 1) s0_0 bt505.2.1 bt505.2.2.1 bt505.2.2.2.1 bt505.2.2.2.2 0 bt505.1 (⟨#[]⟩ : ByteArray) (⟨#[]⟩ : ByteArray) (⟨#[]⟩ : ByteArray) false (⟨#[]⟩ : ByteArray) (⟨#[]⟩ : ByteArray)) else (none)) else (none)) else (rr_stmt.j0 k false s0_0 bt505.2.1 bt505.2.2.1 bt505.2.2.2.1 bt505.2.2.2.2 0 bt505.1 (⟨#[]⟩ : ByteArray) (⟨#[]⟩ : ByteArray) (⟨#[]⟩ : ByteArray) false (⟨#[]⟩ : ByteArray) (⟨#[]⟩ : ByteArray)))
def rr_block.l0 : Nat → List (S45) → List (S69) → Int → Int → Int → Int → Option ((List (S45)) × Int × Int × Int × Int)
 | 0, _, _, _, _, _, _ => none
 | k + 1, x3, x1000, x1001, x1002, x1003, x1004 => if x1003 = 0 then ((rr_is.f x1000 x1001 x1002 x1003 x1004 (⟨#[125]⟩ : ByteArray)).bind fun bt701 => (if bt701.1 = true then ((rr_want.f x1000 bt701.2.1 bt701.2.2.1 bt701.2.2.2.1 bt701.2.2.2.2 (⟨#[125]⟩ : ByteArray)).bind fun bt706 => (some (x3, bt706.1, wrap64 (bt706.2.1 - 1), bt706.2.2.1, bt706.2.2.2))) else ((rr_stmt.f k x1000 bt701.2.1 bt701.2.2.1 bt701.2.2.2.1 bt701.2.2.2.2).bind fun bt710 => (if x3.length < 703687441776 then (rr_block.l0 k (x3 ++ [(⟨bt710.1, bt710.2.1, bt710.2.2.1, bt710.2.2.2.1, bt710.2.2.2.2.1, bt710.2.2.2.2.2.1, bt710.2.2.2.2.2.2.1, bt710.2.2.2.2.2.2.2.1, bt710.2.2.2.2.2.2.2.2.1, bt710.2.2.2.2.2.2.2.2.2.1, bt710.2.2.2.2.2.2.2.2.2.2.1, bt710.2.2.2.2.2.2.2.2.2.2.2.1⟩ : S45)]) x1000 bt710.2.2.2.2.2.2.2.2.2.2.2.2.1 bt710.2.2.2.2.2.2.2.2.2.2.2.2.2.1 bt710.2.2.2.2.2.2.2.2.2.2.2.2.2.2.1 bt710.2.2.2.2.2.2.2.2.2.2.2.2.2.2.2) else (none))))) else ((rr_want.f x1000 x1001 x1002 x1003 x1004 (⟨#[125]⟩ : ByteArray)).bind fun bt737 => (some (x3, bt737.1, wrap64 (bt737.2.1 - 1), bt737.2.2.1, bt737.2.2.2)))
def rr_block.f : Nat → List (S69) → Int → Int → Int → Int → Option ((List (S45)) × Int × Int × Int × Int)
 | 0, _, _, _, _, _ => none
 | k + 1, s0_0, s0_1, s0_2, s0_3, s0_4 => (rr_open.f k s0_0 s0_1 s0_2 s0_3 s0_4 (⟨#[123]⟩ : ByteArray)).bind fun bt697 => (rr_block.l0 k ([] : List (S45)) s0_0 bt697.1 bt697.2.1 bt697.2.2.1 bt697.2.2.2)
end
theorem rr_stmt_group.mono_l : ∀ k, (∀ y0 y1 y2 y3 y4, LeO (rr_stmt.f k y0 y1 y2 y3 y4) (rr_stmt.f (k + 1) y0 y1 y2 y3 y4)) ∧ (∀ y0 y1 y2 y3 y4 y5 y6 y7 y8 y9 y10 y11 y12 y13, LeO (rr_stmt.j0 k y0 y1 y2 y3 y4 y5 y6 y7 y8 y9 y10 y11 y12 y13) (rr_stmt.j0 (k + 1) y0 y1 y2 y3 y4 y5 y6 y7 y8 y9 y10 y11 y12 y13)) ∧ (∀ y0 y1 y2 y3 y4, LeO (rr_block.f k y0 y1 y2 y3 y4) (rr_block.f (k + 1) y0 y1 y2 y3 y4)) ∧ (∀ y0 y1 y2 y3 y4 y5, LeO (rr_block.l0 k y0 y1 y2 y3 y4 y5) (rr_block.l0 (k + 1) y0 y1 y2 y3 y4 y5))
 | 0 => ⟨fun _ _ _ _ _ r h => by simp [rr_stmt.f] at h, fun _ _ _ _ _ _ _ _ _ _ _ _ _ _ r h => by simp [rr_stmt.j0] at h, fun _ _ _ _ _ r h => by simp [rr_block.f] at h, fun _ _ _ _ _ _ r h => by simp [rr_block.l0] at h⟩
 | k + 1 => by
  obtain ⟨ih0, ih1, ih2, ih3⟩ := rr_stmt_group.mono_l k
  refine ⟨?_, ?_, ?_, ?_⟩
  ·
   intro y0 y1 y2 y3 y4
   unfold rr_stmt.f
   repeat' with_reducible first | apply ih0 | apply ih1 | apply ih2 | apply ih3 | apply rr_call.mono | apply rr_expr.mono | apply rr_open.mono | exact LeO.refl _ | exact LeO.none _ | refine LeO.ite ?_ ?_ | refine LeO.bind ?_ (fun _ => ?_)
  ·
   intro y0 y1 y2 y3 y4 y5 y6 y7 y8 y9 y10 y11 y12 y13
   unfold rr_stmt.j0
   repeat' with_reducible first | apply ih0 | apply ih1 | apply ih2 | apply ih3 | apply rr_call.mono | apply rr_expr.mono | apply rr_open.mono | exact LeO.refl _ | exact LeO.none _ | refine LeO.ite ?_ ?_ | refine LeO.bind ?_ (fun _ => ?_)
  ·
   intro y0 y1 y2 y3 y4
   unfold rr_block.f
   repeat' with_reducible first | apply ih0 | apply ih1 | apply ih2 | apply ih3 | apply rr_call.mono | apply rr_expr.mono | apply rr_open.mono | exact LeO.refl _ | exact LeO.none _ | refine LeO.ite ?_ ?_ | refine LeO.bind ?_ (fun _ => ?_)
  ·
   intro y0 y1 y2 y3 y4 y5
   unfold rr_block.l0
   repeat' with_reducible first | apply ih0 | apply ih1 | apply ih2 | apply ih3 | apply rr_call.mono | apply rr_expr.mono | apply rr_open.mono | exact LeO.refl _ | exact LeO.none _ | refine LeO.ite ?_ ?_ | refine LeO.bind ?_ (fun _ => ?_)
theorem rr_stmt.mono : ∀ a0 a1 a2 a3 a4 k, LeO (rr_stmt.f k a0 a1 a2 a3 a4) (rr_stmt.f (k + 1) a0 a1 a2 a3 a4) := fun a0 a1 a2 a3 a4 k => (rr_stmt_group.mono_l k).1 a0 a1 a2 a3 a4
theorem rr_block.mono : ∀ a0 a1 a2 a3 a4 k, LeO (rr_block.f k a0 a1 a2 a3 a4) (rr_block.f (k + 1) a0 a1 a2 a3 a4) := fun a0 a1 a2 a3 a4 k => (rr_stmt_group.mono_l k).2.2.1 a0 a1 a2 a3 a4
structure rr_stmt.X (w0 w W : World) (g : Nat) (l : List S69) (i d e a : Int) (b1 b2 : Nat) (x0 x1 x2 x3 x4 x5 x6 x7 x8 x9 x10 x11 : Value) : Prop where
 hI : IsS57 w0 W g l i d e a
 hB : Below w0.heap.size w0 W
 hK : KeepBut w W g none
 h1 : W.heap[b1]? = some (.cells #[.int .i64 0, .int .i64 0, .string (⟨#[]⟩ : ByteArray), .string (⟨#[]⟩ : ByteArray), .string (⟨#[]⟩ : ByteArray), .bool false, .string (⟨#[]⟩ : ByteArray), .string (⟨#[]⟩ : ByteArray), .slice none 0 0, .slice none 0 0, .slice none 0 0, .slice none 0 0] 45 (0, 0))
 h2 : W.heap[b2]? = some (.cells #[x0, x1, x2, x3, x4, x5, x6, x7, x8, x9, x10, x11] 45 (0, 0))
 h0 : w0.heap.size ≤ w.heap.size
 g1 : w.heap.size ≤ b1
 g2 : w.heap.size ≤ b2
 n1 : b1 ≠ g
 n2 : b2 ≠ g
 n12 : b1 ≠ b2
namespace rr_stmt
variable {w0 w W W' : World} {g : Nat} {l : List S69} {i d e a i' d' e' a' : Int} {b1 b2 : Nat} {x0 x1 x2 x3 x4 x5 x6 x7 x8 x9 x10 x11 : Value}
theorem X.call (x : X w0 w W g l i d e a b1 b2 x0 x1 x2 x3 x4 x5 x6 x7 x8 x9 x10 x11) (hi : IsS57 w0 W' g l i' d' e' a') (hb : Below w0.heap.size w0 W') (hk : KeepBut W W' g none) : X w0 w W' g l i' d' e' a' b1 b2 x0 x1 x2 x3 x4 x5 x6 x7 x8 x9 x10 x11 :=
 ⟨hi, hb, KeepBut.trans x.hK hk (.inl rfl), KeepBut.blk hk x.h1 x.n1 (by simp), KeepBut.blk hk x.h2 x.n2 (by simp), x.h0, x.g1, x.g2, x.n1, x.n2, x.n12⟩
theorem X.drewN (x : X w0 w W g l i d e a b1 b2 x0 x1 x2 x3 x4 x5 x6 x7 x8 x9 x10 x11) (m : Nat) : X w0 w (W.drewN m) g l i d e a b1 b2 x0 x1 x2 x3 x4 x5 x6 x7 x8 x9 x10 x11 := ⟨IsS57.drewN x.hI m, pw_below_drewN x.hB m, keep_drewN x.hK m, x.h1, x.h2, x.h0, x.g1, x.g2, x.n1, x.n2, x.n12⟩
theorem X.put {y0 y1 y2 y3 y4 y5 y6 y7 y8 y9 y10 y11 : Value} (x : X w0 w W g l i d e a b1 b2 x0 x1 x2 x3 x4 x5 x6 x7 x8 x9 x10 x11) (j : Nat) (u : Value) (h : (W.setCell ⟨b2, j, none⟩ u).heap[b2]? = some (.cells #[y0, y1, y2, y3, y4, y5, y6, y7, y8, y9, y10, y11] 45 (0, 0))) : X w0 w (W.setCell ⟨b2, j, none⟩ u) g l i d e a b1 b2 y0 y1 y2 y3 y4 y5 y6 y7 y8 y9 y10 y11 :=
 ⟨IsS57.far x.hI (Ne.symm x.n2) _, below_set x.hB (Nat.le_trans x.h0 x.g2), keep_far x.hK x.g2 _, blk_far x.h1 x.n12 _, h, x.h0, x.g1, x.g2, x.n1, x.n2, x.n12⟩
theorem X.set0 (x : X w0 w W g l i d e a b1 b2 x0 x1 x2 x3 x4 x5 x6 x7 x8 x9 x10 x11) (u : Value) : X w0 w (W.setCell ⟨b2, 0, none⟩ u) g l i d e a b1 b2 u x1 x2 x3 x4 x5 x6 x7 x8 x9 x10 x11 := x.put 0 u (blk_put x.h2 0 u rfl)
theorem X.set2 (x : X w0 w W g l i d e a b1 b2 x0 x1 x2 x3 x4 x5 x6 x7 x8 x9 x10 x11) (u : Value) : X w0 w (W.setCell ⟨b2, 2, none⟩ u) g l i d e a b1 b2 x0 x1 u x3 x4 x5 x6 x7 x8 x9 x10 x11 := x.put 2 u (blk_put x.h2 2 u rfl)
theorem X.set3 (x : X w0 w W g l i d e a b1 b2 x0 x1 x2 x3 x4 x5 x6 x7 x8 x9 x10 x11) (u : Value) : X w0 w (W.setCell ⟨b2, 3, none⟩ u) g l i d e a b1 b2 x0 x1 x2 u x4 x5 x6 x7 x8 x9 x10 x11 := x.put 3 u (blk_put x.h2 3 u rfl)
theorem X.set4 (x : X w0 w W g l i d e a b1 b2 x0 x1 x2 x3 x4 x5 x6 x7 x8 x9 x10 x11) (u : Value) : X w0 w (W.setCell ⟨b2, 4, none⟩ u) g l i d e a b1 b2 x0 x1 x2 x3 u x5 x6 x7 x8 x9 x10 x11 := x.put 4 u (blk_put x.h2 4 u rfl)
theorem X.set8 (x : X w0 w W g l i d e a b1 b2 x0 x1 x2 x3 x4 x5 x6 x7 x8 x9 x10 x11) (u : Value) : X w0 w (W.setCell ⟨b2, 8, none⟩ u) g l i d e a b1 b2 x0 x1 x2 x3 x4 x5 x6 x7 u x9 x10 x11 := x.put 8 u (blk_put x.h2 8 u rfl)
theorem X.set10 (x : X w0 w W g l i d e a b1 b2 x0 x1 x2 x3 x4 x5 x6 x7 x8 x9 x10 x11) (u : Value) : X w0 w (W.setCell ⟨b2, 10, none⟩ u) g l i d e a b1 b2 x0 x1 x2 x3 x4 x5 x6 x7 x8 x9 u x11 := x.put 10 u (blk_put x.h2 10 u rfl)
theorem X.set11 (x : X w0 w W g l i d e a b1 b2 x0 x1 x2 x3 x4 x5 x6 x7 x8 x9 x10 x11) (u : Value) : X w0 w (W.setCell ⟨b2, 11, none⟩ u) g l i d e a b1 b2 x0 x1 x2 x3 x4 x5 x6 x7 x8 x9 x10 u := x.put 11 u (blk_put x.h2 11 u rfl)
theorem X.setall (x : X w0 w W g l i d e a b1 b2 x0 x1 x2 x3 x4 x5 x6 x7 x8 x9 x10 x11) (y0 y1 y2 y3 y4 y5 y6 y7 y8 y9 y10 y11 : Value) : X w0 w ((((((((((((W.setCell ⟨b2, 0, none⟩ y0).setCell ⟨b2, 1, none⟩ y1).setCell ⟨b2, 2, none⟩ y2).setCell ⟨b2, 3, none⟩ y3).setCell ⟨b2, 4, none⟩ y4).setCell ⟨b2, 5, none⟩ y5).setCell ⟨b2, 6, none⟩ y6).setCell ⟨b2, 7, none⟩ y7).setCell ⟨b2, 8, none⟩ y8).setCell ⟨b2, 9, none⟩ y9).setCell ⟨b2, 10, none⟩ y10).setCell ⟨b2, 11, none⟩ y11) g l i d e a b1 b2 y0 y1 y2 y3 y4 y5 y6 y7 y8 y9 y10 y11 := by
 have z0 := x.put 0 y0 (blk_put x.h2 0 y0 rfl)
 have z1 := z0.put 1 y1 (blk_put z0.h2 1 y1 rfl)
 have z2 := z1.put 2 y2 (blk_put z1.h2 2 y2 rfl)
 have z3 := z2.put 3 y3 (blk_put z2.h2 3 y3 rfl)
 have z4 := z3.put 4 y4 (blk_put z3.h2 4 y4 rfl)
 have z5 := z4.put 5 y5 (blk_put z4.h2 5 y5 rfl)
 have z6 := z5.put 6 y6 (blk_put z5.h2 6 y6 rfl)
 have z7 := z6.put 7 y7 (blk_put z6.h2 7 y7 rfl)
 have z8 := z7.put 8 y8 (blk_put z7.h2 8 y8 rfl)
 have z9 := z8.put 9 y9 (blk_put z8.h2 9 y9 rfl)
 have z10 := z9.put 10 y10 (blk_put z9.h2 10 y10 rfl)
 have z11 := z10.put 11 y11 (blk_put z10.h2 11 y11 rfl)
 exact z11
theorem X.cells2 (x : X w0 w W g l i d e a b1 b2 x0 x1 x2 x3 x4 x5 x6 x7 x8 x9 x10 x11) : W.cell? ⟨b2, 0, none⟩ = some (x0) ∧ W.cell? ⟨b2, 1, none⟩ = some (x1) ∧ W.cell? ⟨b2, 2, none⟩ = some (x2) ∧ W.cell? ⟨b2, 3, none⟩ = some (x3) ∧ W.cell? ⟨b2, 4, none⟩ = some (x4) ∧ W.cell? ⟨b2, 5, none⟩ = some (x5) ∧ W.cell? ⟨b2, 6, none⟩ = some (x6) ∧ W.cell? ⟨b2, 7, none⟩ = some (x7) ∧ W.cell? ⟨b2, 8, none⟩ = some (x8) ∧ W.cell? ⟨b2, 9, none⟩ = some (x9) ∧ W.cell? ⟨b2, 10, none⟩ = some (x10) ∧ W.cell? ⟨b2, 11, none⟩ = some (x11) ∧ W.frozen? ⟨b2, 0, none⟩ = false ∧ W.frozen? ⟨b2, 1, none⟩ = false ∧ W.frozen? ⟨b2, 2, none⟩ = false ∧ W.frozen? ⟨b2, 3, none⟩ = false ∧ W.frozen? ⟨b2, 4, none⟩ = false ∧ W.frozen? ⟨b2, 5, none⟩ = false ∧ W.frozen? ⟨b2, 6, none⟩ = false ∧ W.frozen? ⟨b2, 7, none⟩ = false ∧ W.frozen? ⟨b2, 8, none⟩ = false ∧ W.frozen? ⟨b2, 9, none⟩ = false ∧ W.frozen? ⟨b2, 10, none⟩ = false ∧ W.frozen? ⟨b2, 11, none⟩ = false :=
 ⟨(blk_cell x.h2 0).trans rfl, (blk_cell x.h2 1).trans rfl, (blk_cell x.h2 2).trans rfl, (blk_cell x.h2 3).trans rfl, (blk_cell x.h2 4).trans rfl, (blk_cell x.h2 5).trans rfl, (blk_cell x.h2 6).trans rfl, (blk_cell x.h2 7).trans rfl, (blk_cell x.h2 8).trans rfl, (blk_cell x.h2 9).trans rfl, (blk_cell x.h2 10).trans rfl, (blk_cell x.h2 11).trans rfl, blk_frozen x.h2 0, blk_frozen x.h2 1, blk_frozen x.h2 2, blk_frozen x.h2 3, blk_frozen x.h2 4, blk_frozen x.h2 5, blk_frozen x.h2 6, blk_frozen x.h2 7, blk_frozen x.h2 8, blk_frozen x.h2 9, blk_frozen x.h2 10, blk_frozen x.h2 11⟩
theorem X.cells1 (x : X w0 w W g l i d e a b1 b2 x0 x1 x2 x3 x4 x5 x6 x7 x8 x9 x10 x11) : W.cell? ⟨b1, 0, none⟩ = some (.int .i64 0) ∧ W.cell? ⟨b1, 1, none⟩ = some (.int .i64 0) ∧ W.cell? ⟨b1, 2, none⟩ = some (.string (⟨#[]⟩ : ByteArray)) ∧ W.cell? ⟨b1, 3, none⟩ = some (.string (⟨#[]⟩ : ByteArray)) ∧ W.cell? ⟨b1, 4, none⟩ = some (.string (⟨#[]⟩ : ByteArray)) ∧ W.cell? ⟨b1, 5, none⟩ = some (.bool false) ∧ W.cell? ⟨b1, 6, none⟩ = some (.string (⟨#[]⟩ : ByteArray)) ∧ W.cell? ⟨b1, 7, none⟩ = some (.string (⟨#[]⟩ : ByteArray)) ∧ W.cell? ⟨b1, 8, none⟩ = some (.slice none 0 0) ∧ W.cell? ⟨b1, 9, none⟩ = some (.slice none 0 0) ∧ W.cell? ⟨b1, 10, none⟩ = some (.slice none 0 0) ∧ W.cell? ⟨b1, 11, none⟩ = some (.slice none 0 0) ∧ W.frozen? ⟨b1, 0, none⟩ = false ∧ W.frozen? ⟨b1, 1, none⟩ = false ∧ W.frozen? ⟨b1, 2, none⟩ = false ∧ W.frozen? ⟨b1, 3, none⟩ = false ∧ W.frozen? ⟨b1, 4, none⟩ = false ∧ W.frozen? ⟨b1, 5, none⟩ = false ∧ W.frozen? ⟨b1, 6, none⟩ = false ∧ W.frozen? ⟨b1, 7, none⟩ = false ∧ W.frozen? ⟨b1, 8, none⟩ = false ∧ W.frozen? ⟨b1, 9, none⟩ = false ∧ W.frozen? ⟨b1, 10, none⟩ = false ∧ W.frozen? ⟨b1, 11, none⟩ = false :=
 ⟨(blk_cell x.h1 0).trans rfl, (blk_cell x.h1 1).trans rfl, (blk_cell x.h1 2).trans rfl, (blk_cell x.h1 3).trans rfl, (blk_cell x.h1 4).trans rfl, (blk_cell x.h1 5).trans rfl, (blk_cell x.h1 6).trans rfl, (blk_cell x.h1 7).trans rfl, (blk_cell x.h1 8).trans rfl, (blk_cell x.h1 9).trans rfl, (blk_cell x.h1 10).trans rfl, (blk_cell x.h1 11).trans rfl, blk_frozen x.h1 0, blk_frozen x.h1 1, blk_frozen x.h1 2, blk_frozen x.h1 3, blk_frozen x.h1 4, blk_frozen x.h1 5, blk_frozen x.h1 6, blk_frozen x.h1 7, blk_frozen x.h1 8, blk_frozen x.h1 9, blk_frozen x.h1 10, blk_frozen x.h1 11⟩
theorem X.fin (x : X w0 w W g l i d e a b1 b2 x0 x1 x2 x3 x4 x5 x6 x7 x8 x9 x10 x11) (y0 y1 y2 y3 y4 y5 y6 y7 y8 y9 y10 y11 : Value) : ((((((((((((W.setCell ⟨b1, 0, none⟩ y0).setCell ⟨b1, 1, none⟩ y1).setCell ⟨b1, 2, none⟩ y2).setCell ⟨b1, 3, none⟩ y3).setCell ⟨b1, 4, none⟩ y4).setCell ⟨b1, 5, none⟩ y5).setCell ⟨b1, 6, none⟩ y6).setCell ⟨b1, 7, none⟩ y7).setCell ⟨b1, 8, none⟩ y8).setCell ⟨b1, 9, none⟩ y9).setCell ⟨b1, 10, none⟩ y10).setCell ⟨b1, 11, none⟩ y11).heap[b1]? = some (.cells #[y0, y1, y2, y3, y4, y5, y6, y7, y8, y9, y10, y11] 45 (0, 0)) ∧ IsS57 w0 ((((((((((((W.setCell ⟨b1, 0, none⟩ y0).setCell ⟨b1, 1, none⟩ y1).setCell ⟨b1, 2, none⟩ y2).setCell ⟨b1, 3, none⟩ y3).setCell ⟨b1, 4, none⟩ y4).setCell ⟨b1, 5, none⟩ y5).setCell ⟨b1, 6, none⟩ y6).setCell ⟨b1, 7, none⟩ y7).setCell ⟨b1, 8, none⟩ y8).setCell ⟨b1, 9, none⟩ y9).setCell ⟨b1, 10, none⟩ y10).setCell ⟨b1, 11, none⟩ y11) g l i d e a ∧ Below w0.heap.size w0 ((((((((((((W.setCell ⟨b1, 0, none⟩ y0).setCell ⟨b1, 1, none⟩ y1).setCell ⟨b1, 2, none⟩ y2).setCell ⟨b1, 3, none⟩ y3).setCell ⟨b1, 4, none⟩ y4).setCell ⟨b1, 5, none⟩ y5).setCell ⟨b1, 6, none⟩ y6).setCell ⟨b1, 7, none⟩ y7).setCell ⟨b1, 8, none⟩ y8).setCell ⟨b1, 9, none⟩ y9).setCell ⟨b1, 10, none⟩ y10).setCell ⟨b1, 11, none⟩ y11) ∧ KeepBut w ((((((((((((W.setCell ⟨b1, 0, none⟩ y0).setCell ⟨b1, 1, none⟩ y1).setCell ⟨b1, 2, none⟩ y2).setCell ⟨b1, 3, none⟩ y3).setCell ⟨b1, 4, none⟩ y4).setCell ⟨b1, 5, none⟩ y5).setCell ⟨b1, 6, none⟩ y6).setCell ⟨b1, 7, none⟩ y7).setCell ⟨b1, 8, none⟩ y8).setCell ⟨b1, 9, none⟩ y9).setCell ⟨b1, 10, none⟩ y10).setCell ⟨b1, 11, none⟩ y11) g none := by
 have q := Ne.symm x.n1
 have z := Nat.le_trans x.h0 x.g1
 have z0 : (W.setCell ⟨b1, 0, none⟩ y0).heap[b1]? = some (.cells #[y0, .int .i64 0, .string (⟨#[]⟩ : ByteArray), .string (⟨#[]⟩ : ByteArray), .string (⟨#[]⟩ : ByteArray), .bool false, .string (⟨#[]⟩ : ByteArray), .string (⟨#[]⟩ : ByteArray), .slice none 0 0, .slice none 0 0, .slice none 0 0, .slice none 0 0] 45 (0, 0)) := blk_put x.h1 0 _ rfl
 have z1 : ((W.setCell ⟨b1, 0, none⟩ y0).setCell ⟨b1, 1, none⟩ y1).heap[b1]? = some (.cells #[y0, y1, .string (⟨#[]⟩ : ByteArray), .string (⟨#[]⟩ : ByteArray), .string (⟨#[]⟩ : ByteArray), .bool false, .string (⟨#[]⟩ : ByteArray), .string (⟨#[]⟩ : ByteArray), .slice none 0 0, .slice none 0 0, .slice none 0 0, .slice none 0 0] 45 (0, 0)) := blk_put z0 1 _ rfl
 have z2 : (((W.setCell ⟨b1, 0, none⟩ y0).setCell ⟨b1, 1, none⟩ y1).setCell ⟨b1, 2, none⟩ y2).heap[b1]? = some (.cells #[y0, y1, y2, .string (⟨#[]⟩ : ByteArray), .string (⟨#[]⟩ : ByteArray), .bool false, .string (⟨#[]⟩ : ByteArray), .string (⟨#[]⟩ : ByteArray), .slice none 0 0, .slice none 0 0, .slice none 0 0, .slice none 0 0] 45 (0, 0)) := blk_put z1 2 _ rfl
 have z3 : ((((W.setCell ⟨b1, 0, none⟩ y0).setCell ⟨b1, 1, none⟩ y1).setCell ⟨b1, 2, none⟩ y2).setCell ⟨b1, 3, none⟩ y3).heap[b1]? = some (.cells #[y0, y1, y2, y3, .string (⟨#[]⟩ : ByteArray), .bool false, .string (⟨#[]⟩ : ByteArray), .string (⟨#[]⟩ : ByteArray), .slice none 0 0, .slice none 0 0, .slice none 0 0, .slice none 0 0] 45 (0, 0)) := blk_put z2 3 _ rfl
 have z4 : (((((W.setCell ⟨b1, 0, none⟩ y0).setCell ⟨b1, 1, none⟩ y1).setCell ⟨b1, 2, none⟩ y2).setCell ⟨b1, 3, none⟩ y3).setCell ⟨b1, 4, none⟩ y4).heap[b1]? = some (.cells #[y0, y1, y2, y3, y4, .bool false, .string (⟨#[]⟩ : ByteArray), .string (⟨#[]⟩ : ByteArray), .slice none 0 0, .slice none 0 0, .slice none 0 0, .slice none 0 0] 45 (0, 0)) := blk_put z3 4 _ rfl
 have z5 : ((((((W.setCell ⟨b1, 0, none⟩ y0).setCell ⟨b1, 1, none⟩ y1).setCell ⟨b1, 2, none⟩ y2).setCell ⟨b1, 3, none⟩ y3).setCell ⟨b1, 4, none⟩ y4).setCell ⟨b1, 5, none⟩ y5).heap[b1]? = some (.cells #[y0, y1, y2, y3, y4, y5, .string (⟨#[]⟩ : ByteArray), .string (⟨#[]⟩ : ByteArray), .slice none 0 0, .slice none 0 0, .slice none 0 0, .slice none 0 0] 45 (0, 0)) := blk_put z4 5 _ rfl
 have z6 : (((((((W.setCell ⟨b1, 0, none⟩ y0).setCell ⟨b1, 1, none⟩ y1).setCell ⟨b1, 2, none⟩ y2).setCell ⟨b1, 3, none⟩ y3).setCell ⟨b1, 4, none⟩ y4).setCell ⟨b1, 5, none⟩ y5).setCell ⟨b1, 6, none⟩ y6).heap[b1]? = some (.cells #[y0, y1, y2, y3, y4, y5, y6, .string (⟨#[]⟩ : ByteArray), .slice none 0 0, .slice none 0 0, .slice none 0 0, .slice none 0 0] 45 (0, 0)) := blk_put z5 6 _ rfl
 have z7 : ((((((((W.setCell ⟨b1, 0, none⟩ y0).setCell ⟨b1, 1, none⟩ y1).setCell ⟨b1, 2, none⟩ y2).setCell ⟨b1, 3, none⟩ y3).setCell ⟨b1, 4, none⟩ y4).setCell ⟨b1, 5, none⟩ y5).setCell ⟨b1, 6, none⟩ y6).setCell ⟨b1, 7, none⟩ y7).heap[b1]? = some (.cells #[y0, y1, y2, y3, y4, y5, y6, y7, .slice none 0 0, .slice none 0 0, .slice none 0 0, .slice none 0 0] 45 (0, 0)) := blk_put z6 7 _ rfl
 have z8 : (((((((((W.setCell ⟨b1, 0, none⟩ y0).setCell ⟨b1, 1, none⟩ y1).setCell ⟨b1, 2, none⟩ y2).setCell ⟨b1, 3, none⟩ y3).setCell ⟨b1, 4, none⟩ y4).setCell ⟨b1, 5, none⟩ y5).setCell ⟨b1, 6, none⟩ y6).setCell ⟨b1, 7, none⟩ y7).setCell ⟨b1, 8, none⟩ y8).heap[b1]? = some (.cells #[y0, y1, y2, y3, y4, y5, y6, y7, y8, .slice none 0 0, .slice none 0 0, .slice none 0 0] 45 (0, 0)) := blk_put z7 8 _ rfl
 have z9 : ((((((((((W.setCell ⟨b1, 0, none⟩ y0).setCell ⟨b1, 1, none⟩ y1).setCell ⟨b1, 2, none⟩ y2).setCell ⟨b1, 3, none⟩ y3).setCell ⟨b1, 4, none⟩ y4).setCell ⟨b1, 5, none⟩ y5).setCell ⟨b1, 6, none⟩ y6).setCell ⟨b1, 7, none⟩ y7).setCell ⟨b1, 8, none⟩ y8).setCell ⟨b1, 9, none⟩ y9).heap[b1]? = some (.cells #[y0, y1, y2, y3, y4, y5, y6, y7, y8, y9, .slice none 0 0, .slice none 0 0] 45 (0, 0)) := blk_put z8 9 _ rfl
 have z10 : (((((((((((W.setCell ⟨b1, 0, none⟩ y0).setCell ⟨b1, 1, none⟩ y1).setCell ⟨b1, 2, none⟩ y2).setCell ⟨b1, 3, none⟩ y3).setCell ⟨b1, 4, none⟩ y4).setCell ⟨b1, 5, none⟩ y5).setCell ⟨b1, 6, none⟩ y6).setCell ⟨b1, 7, none⟩ y7).setCell ⟨b1, 8, none⟩ y8).setCell ⟨b1, 9, none⟩ y9).setCell ⟨b1, 10, none⟩ y10).heap[b1]? = some (.cells #[y0, y1, y2, y3, y4, y5, y6, y7, y8, y9, y10, .slice none 0 0] 45 (0, 0)) := blk_put z9 10 _ rfl
 have z11 : ((((((((((((W.setCell ⟨b1, 0, none⟩ y0).setCell ⟨b1, 1, none⟩ y1).setCell ⟨b1, 2, none⟩ y2).setCell ⟨b1, 3, none⟩ y3).setCell ⟨b1, 4, none⟩ y4).setCell ⟨b1, 5, none⟩ y5).setCell ⟨b1, 6, none⟩ y6).setCell ⟨b1, 7, none⟩ y7).setCell ⟨b1, 8, none⟩ y8).setCell ⟨b1, 9, none⟩ y9).setCell ⟨b1, 10, none⟩ y10).setCell ⟨b1, 11, none⟩ y11).heap[b1]? = some (.cells #[y0, y1, y2, y3, y4, y5, y6, y7, y8, y9, y10, y11] 45 (0, 0)) := blk_put z10 11 _ rfl
 exact ⟨z11, (IsS57.far (IsS57.far (IsS57.far (IsS57.far (IsS57.far (IsS57.far (IsS57.far (IsS57.far (IsS57.far (IsS57.far (IsS57.far (IsS57.far x.hI q _) q _) q _) q _) q _) q _) q _) q _) q _) q _) q _) q _), (below_set (below_set (below_set (below_set (below_set (below_set (below_set (below_set (below_set (below_set (below_set (below_set x.hB z) z) z) z) z) z) z) z) z) z) z) z), (keep_far (keep_far (keep_far (keep_far (keep_far (keep_far (keep_far (keep_far (keep_far (keep_far (keep_far (keep_far x.hK x.g1 _) x.g1 _) x.g1 _) x.g1 _) x.g1 _) x.g1 _) x.g1 _) x.g1 _) x.g1 _) x.g1 _) x.g1 _) x.g1 _)⟩
theorem X.lt (x : X w0 w W g l i d e a b1 b2 x0 x1 x2 x3 x4 x5 x6 x7 x8 x9 x10 x11) : g < W.heap.size ∧ b1 < W.heap.size ∧ b2 < W.heap.size ∧ w.heap.size ≤ W.heap.size := ⟨IsS57.lt x.hI, blk_lt x.h1, blk_lt x.h2, keep_size x.hK⟩
end rr_stmt
theorem rr_stmt.rcall {α : Type} {d : Kd α} {e lo g : Nat} {ok : Nat → Prop} {W W' : World} {v : Value} {xs : List α} (h : d.R e W lo ok v xs) (hk : KeepBut W W' g none) (hg : g < lo) : d.R e W' lo ok v xs :=
 Kd.R_mono (Kd.R_keep (Kd.R_mono (ok' := fun k => ok k ∧ k ≠ g) (Kd.R_bound h) (fun k hk => ⟨hk.1, by have := hk.2.1; omega⟩)) hk (fun _ hk => hk.2)) (fun _ hk => hk.1)
theorem rr_stmt.rfar {α : Type} {d : Kd α} {e lo g : Nat} {ok : Nat → Prop} {W : World} {v : Value} {xs : List α} (h : d.R e W lo ok v xs) (hg : g < lo) (j : Nat) (u : Value) : d.R e (W.setCell ⟨g, j, none⟩ u) lo ok v xs :=
 Kd.R_mono (Kd.R_far (p := ⟨g, j, none⟩) (Kd.R_mono (ok' := fun k => ok k ∧ k ≠ g) (Kd.R_bound h) (fun k hk => ⟨hk.1, by have := hk.2.1; omega⟩)) (fun _ hk => hk.2) u) (fun _ hk => hk.1)
theorem rr_stmt.rfar12 {α : Type} {d : Kd α} {e lo g : Nat} {ok : Nat → Prop} {W : World} {v : Value} {xs : List α} (h : d.R e W lo ok v xs) (hg : g < lo) (y0 y1 y2 y3 y4 y5 y6 y7 y8 y9 y10 y11 : Value) : d.R e ((((((((((((W.setCell ⟨g, 0, none⟩ y0).setCell ⟨g, 1, none⟩ y1).setCell ⟨g, 2, none⟩ y2).setCell ⟨g, 3, none⟩ y3).setCell ⟨g, 4, none⟩ y4).setCell ⟨g, 5, none⟩ y5).setCell ⟨g, 6, none⟩ y6).setCell ⟨g, 7, none⟩ y7).setCell ⟨g, 8, none⟩ y8).setCell ⟨g, 9, none⟩ y9).setCell ⟨g, 10, none⟩ y10).setCell ⟨g, 11, none⟩ y11) lo ok v xs :=
 (rr_stmt.rfar (rr_stmt.rfar (rr_stmt.rfar (rr_stmt.rfar (rr_stmt.rfar (rr_stmt.rfar (rr_stmt.rfar (rr_stmt.rfar (rr_stmt.rfar (rr_stmt.rfar (rr_stmt.rfar (rr_stmt.rfar h hg 0 y0) hg 1 y1) hg 2 y2) hg 3 y3) hg 4 y4) hg 5 y5) hg 6 y6) hg 7 y7) hg 8 y8) hg 9 y9) hg 10 y10) hg 11 y11)
theorem rr_stmt.scall {α : Type} {d : Kd α} {e lo g : Nat} {ok : Nat → Prop} {W W' : World} {v : Value} {xs : List α} (h : Kd.S d e W lo ok v xs) (hk : KeepBut W W' g none) (hg : g < lo) : Kd.S d e W' lo ok v xs :=
 Kd.S_mono (Kd.S_keep (Kd.S_mono (ok' := fun k => ok k ∧ k ≠ g) (Kd.S_bound h) (fun k hk => ⟨hk.1, by have := hk.2.1; omega⟩)) hk (fun _ hk => hk.2)) (fun _ hk => hk.1)
theorem rr_stmt.sfar {α : Type} {d : Kd α} {e lo g : Nat} {ok : Nat → Prop} {W : World} {v : Value} {xs : List α} (h : Kd.S d e W lo ok v xs) (hg : g < lo) (j : Nat) (u : Value) : Kd.S d e (W.setCell ⟨g, j, none⟩ u) lo ok v xs :=
 Kd.S_mono (Kd.S_far (p := ⟨g, j, none⟩) (Kd.S_mono (ok' := fun k => ok k ∧ k ≠ g) (Kd.S_bound h) (fun k hk => ⟨hk.1, by have := hk.2.1; omega⟩)) (fun _ hk => hk.2) u) (fun _ hk => hk.1)
theorem rr_stmt.sfar12 {α : Type} {d : Kd α} {e lo g : Nat} {ok : Nat → Prop} {W : World} {v : Value} {xs : List α} (h : Kd.S d e W lo ok v xs) (hg : g < lo) (y0 y1 y2 y3 y4 y5 y6 y7 y8 y9 y10 y11 : Value) : Kd.S d e ((((((((((((W.setCell ⟨g, 0, none⟩ y0).setCell ⟨g, 1, none⟩ y1).setCell ⟨g, 2, none⟩ y2).setCell ⟨g, 3, none⟩ y3).setCell ⟨g, 4, none⟩ y4).setCell ⟨g, 5, none⟩ y5).setCell ⟨g, 6, none⟩ y6).setCell ⟨g, 7, none⟩ y7).setCell ⟨g, 8, none⟩ y8).setCell ⟨g, 9, none⟩ y9).setCell ⟨g, 10, none⟩ y10).setCell ⟨g, 11, none⟩ y11) lo ok v xs :=
 (rr_stmt.sfar (rr_stmt.sfar (rr_stmt.sfar (rr_stmt.sfar (rr_stmt.sfar (rr_stmt.sfar (rr_stmt.sfar (rr_stmt.sfar (rr_stmt.sfar (rr_stmt.sfar (rr_stmt.sfar (rr_stmt.sfar h hg 0 y0) hg 1 y1) hg 2 y2) hg 3 y3) hg 4 y4) hg 5 y5) hg 6 y6) hg 7 y7) hg 8 y8) hg 9 y9) hg 10 y10) hg 11 y11)
def rr_stmt.Row {α : Type} (B : Nat) (d : Kd α) (e : Nat) (W : World) (lo hi : Nat) (v : Value) (xs : List α) : Prop := d.R e W lo (fun k => k < hi) v xs ∧ B ≤ lo ∧ hi ≤ W.heap.size
namespace rr_stmt.Row
variable {α : Type} {B : Nat} {d : Kd α} {e lo hi g : Nat} {W W' : World} {v : Value} {xs : List α} {ok : Nat → Prop}
theorem mk' (h : d.R e W' lo ok v xs) (hB : B ≤ lo) : Row B d e W' lo W'.heap.size v xs := ⟨Kd.R_mono (Kd.R_bound h) (fun _ hk => hk.2.2.1), hB, Nat.le_refl _⟩
theorem call (h : Row B d e W lo hi v xs) (hk : KeepBut W W' g none) (hg : g < lo) : Row B d e W' lo hi v xs := ⟨rr_stmt.rcall h.1 hk hg, h.2.1, Nat.le_trans h.2.2 (keep_size hk)⟩
theorem far (h : Row B d e W lo hi v xs) (hg : g < lo) (j : Nat) (u : Value) : Row B d e (W.setCell ⟨g, j, none⟩ u) lo hi v xs := ⟨rr_stmt.rfar h.1 hg j u, h.2.1, by simpa [World.setCell] using h.2.2⟩
theorem own (h : Row B d e W lo hi v xs) : ∀ k, v.ownBlock = some k → lo ≤ k ∧ k < hi := fun k hk => ⟨Kd.R_base h.1 k hk, h.1.1 k hk⟩
theorem fin (h : Row B d e W lo hi v xs) (hok : ∀ k, lo ≤ k → k < hi → ok k) : d.R e W B ok v xs := Kd.R_lower (Kd.R_mono (Kd.R_bound h.1) (fun k hk => hok k hk.2.1 hk.1)) h.2.1
theorem far12 (h : Row B d e W lo hi v xs) (hg : g < lo) (y0 y1 y2 y3 y4 y5 y6 y7 y8 y9 y10 y11 : Value) : Row B d e ((((((((((((W.setCell ⟨g, 0, none⟩ y0).setCell ⟨g, 1, none⟩ y1).setCell ⟨g, 2, none⟩ y2).setCell ⟨g, 3, none⟩ y3).setCell ⟨g, 4, none⟩ y4).setCell ⟨g, 5, none⟩ y5).setCell ⟨g, 6, none⟩ y6).setCell ⟨g, 7, none⟩ y7).setCell ⟨g, 8, none⟩ y8).setCell ⟨g, 9, none⟩ y9).setCell ⟨g, 10, none⟩ y10).setCell ⟨g, 11, none⟩ y11) lo hi v xs := ⟨rr_stmt.rfar12 h.1 hg y0 y1 y2 y3 y4 y5 y6 y7 y8 y9 y10 y11, h.2.1, by simpa [World.setCell] using h.2.2⟩
end rr_stmt.Row
theorem rr_stmt.expr_new (k g : Nat) (l : List S69) (i d e a : Int) (r1 : List S48) (r2 r3 r4 r5 : Int) (w0 W : World) (hI : IsS57 w0 W g l i d e a) (hB : Below w0.heap.size w0 W) (h : rr_expr.f k l i d e a ([] : List S48) = some (r1, r2, r3, r4, r5)) :
  Calls Try.prog 43 #[.pointer (some ⟨g, 0, none⟩), .slice none 0 0] W fun e w' => ∃ v : Value, e = .returned v ∧ Kd.R k48 48 w' W.heap.size (fun _ => True) v r1 ∧ IsS57 w0 w' g l r2 r3 r4 r5 ∧ Below w0.heap.size w0 w' ∧ KeepBut W w' g none := by
 refine (rr_expr.calls k g l i d e a (fun _ => False) (.slice none 0 0) [] r1 r2 r3 r4 r5 w0 W hI hB (Kd.R_nil _ _ _ _ _) h).mono ?_
 rintro e w' ⟨v, rfl, ho, hi, hb, hk⟩
 exact ⟨v, rfl, Kd.R_mono (Kd.R_raise (d := k48) (b := w0.heap.size) (b' := W.heap.size) (fun _ _ _ _ h_ => h_) ho (fun k_ e_ => (ho.1 k_ e_).elim (fun h => h.elim) id)) (fun _ _ => trivial), hi, hb, Kept.keepG (KeepBut.refl W g none) hk (fun k_ hs => hs.elim (fun h => h.elim) (fun e_ => .inl e_))⟩
theorem rr_stmt.step (k : Nat) (IH39_ : Aside0 (∀ m, m < k → ∀ (g : Nat) (s0_0 : List (S69)) (s0_1 : Int) (s0_2 : Int) (s0_3 : Int) (s0_4 : Int) (r1 : Int) (r2 : Int) (r3 : ByteArray) (r4 : ByteArray) (r5 : ByteArray) (r6 : Bool) (r7 : ByteArray) (r8 : ByteArray) (r9 : List (S48)) (r10 : List (List (S48))) (r11 : List (S45)) (r12 : List (S45)) (r13 : Int) (r14 : Int) (r15 : Int) (r16 : Int) (w0 w : World) (hI : IsS57 w0 w g s0_0 s0_1 s0_2 s0_3 s0_4) (hB : Below w0.heap.size w0 w) (h : rr_stmt.f m s0_0 s0_1 s0_2 s0_3 s0_4 = some (r1, r2, r3, r4, r5, r6, r7, r8, r9, r10, r11, r12, r13, r14, r15, r16)),
  Calls Try.prog 39 #[.pointer (some ⟨g, 0, none⟩)] w fun e w' => ∃ v8_ v9_ v10_ v11_ : Value, e = .returned (.agg #[.int .i64 r1, .int .i64 r2, .string r3, .string r4, .string r5, .bool r6, .string r7, .string r8, v8_, v9_, v10_, v11_]) ∧ Kd.R k48 48 w' w.heap.size (fun _ => True) v8_ r9 ∧ Kd.S (Kd.slice 48 k48) 23 w' w.heap.size (fun k_ => some k_ ≠ (v8_ : Value).ownBlock) v9_ r10 ∧ Kd.R k45 45 w' w.heap.size (fun k_ => some k_ ≠ (v8_ : Value).ownBlock ∧ some k_ ≠ (v9_ : Value).ownBlock ∧ some k_ ≠ (v11_ : Value).ownBlock) v10_ r11 ∧ Kd.R k45 45 w' w.heap.size (fun k_ => some k_ ≠ (v8_ : Value).ownBlock ∧ some k_ ≠ (v9_ : Value).ownBlock ∧ some k_ ≠ (v10_ : Value).ownBlock) v11_ r12 ∧ IsS57 w0 w' g s0_0 r13 r14 r15 r16 ∧ Below w0.heap.size w0 w' ∧ KeepBut w w' g none)) (IH32_ : Aside0 (∀ m, m < k → ∀ (g : Nat) (s0_0 : List (S69)) (s0_1 : Int) (s0_2 : Int) (s0_3 : Int) (s0_4 : Int) (r1 : List (S45)) (r2 : Int) (r3 : Int) (r4 : Int) (r5 : Int) (w0 w : World) (hI : IsS57 w0 w g s0_0 s0_1 s0_2 s0_3 s0_4) (hB : Below w0.heap.size w0 w) (h : rr_block.f m s0_0 s0_1 s0_2 s0_3 s0_4 = some (r1, r2, r3, r4, r5)),
  Calls Try.prog 32 #[.pointer (some ⟨g, 0, none⟩)] w fun e w' => ∃ v0_ : Value, e = .returned (v0_) ∧ Kd.R k45 45 w' w.heap.size (fun _ => True) v0_ r1 ∧ IsS57 w0 w' g s0_0 r2 r3 r4 r5 ∧ Below w0.heap.size w0 w' ∧ KeepBut w w' g none)) : ∀ (g : Nat) (s0_0 : List (S69)) (s0_1 : Int) (s0_2 : Int) (s0_3 : Int) (s0_4 : Int) (r1 : Int) (r2 : Int) (r3 : ByteArray) (r4 : ByteArray) (r5 : ByteArray) (r6 : Bool) (r7 : ByteArray) (r8 : ByteArray) (r9 : List (S48)) (r10 : List (List (S48))) (r11 : List (S45)) (r12 : List (S45)) (r13 : Int) (r14 : Int) (r15 : Int) (r16 : Int) (w0 w : World) (hI : IsS57 w0 w g s0_0 s0_1 s0_2 s0_3 s0_4) (hB : Below w0.heap.size w0 w) (h : rr_stmt.f k s0_0 s0_1 s0_2 s0_3 s0_4 = some (r1, r2, r3, r4, r5, r6, r7, r8, r9, r10, r11, r12, r13, r14, r15, r16)),
  Calls Try.prog 39 #[.pointer (some ⟨g, 0, none⟩)] w fun e w' => ∃ v8_ v9_ v10_ v11_ : Value, e = .returned (.agg #[.int .i64 r1, .int .i64 r2, .string r3, .string r4, .string r5, .bool r6, .string r7, .string r8, v8_, v9_, v10_, v11_]) ∧ Kd.R k48 48 w' w.heap.size (fun _ => True) v8_ r9 ∧ Kd.S (Kd.slice 48 k48) 23 w' w.heap.size (fun k_ => some k_ ≠ (v8_ : Value).ownBlock) v9_ r10 ∧ Kd.R k45 45 w' w.heap.size (fun k_ => some k_ ≠ (v8_ : Value).ownBlock ∧ some k_ ≠ (v9_ : Value).ownBlock ∧ some k_ ≠ (v11_ : Value).ownBlock) v10_ r11 ∧ Kd.R k45 45 w' w.heap.size (fun k_ => some k_ ≠ (v8_ : Value).ownBlock ∧ some k_ ≠ (v9_ : Value).ownBlock ∧ some k_ ≠ (v10_ : Value).ownBlock) v11_ r12 ∧ IsS57 w0 w' g s0_0 r13 r14 r15 r16 ∧ Below w0.heap.size w0 w' ∧ KeepBut w w' g none := by
 intro g l i d e a r1 r2 r3 r4 r5 r6 r7 r8 r9 r10 r11 r12 r13 r14 r15 r16 w0 w hI hB h
 cases k with
 | zero => exact absurd h (by simp [rr_stmt.f])
 | succ k =>
 simp only [rr_stmt.f] at h
 have hu70 := Try.underlying45
 have hu122 := Try.underlying69
 have HI0 := za hI
 have HB0 := za hB
 clear hI hB
 obtain ⟨⟨a1, a2, a3, a4, a5⟩, h1, h⟩ := Option.bind_eq_some_iff.mp h
 dsimp only at h
 have H1 := za h1
 clear h1
 go_enter Try.func39, Try.ntmps39
 go_upto_region 1 with ((with_reducible refine gate_dst (N := 2) rfl ?_); refine box_event ?hg (N := 2) ?hd (cs := #[.int .i64 0, .int .i64 0, .string (⟨#[]⟩ : ByteArray), .string (⟨#[]⟩ : ByteArray), .string (⟨#[]⟩ : ByteArray), .bool false, .string (⟨#[]⟩ : ByteArray), .string (⟨#[]⟩ : ByteArray), .slice none 0 0, .slice none 0 0, .slice none 0 0, .slice none 0 0]) (t := 45) ?hr ?_; (case hd => rfl); (case hg => rfl); (case hr => exact zq39); intro b1 hg1 w1 hb1 hl1; have HG1 := za hg1; have HBK1 := za hb1; have HBL1 := za hl1; clear hg1 hb1 hl1)
 (try simp only [Act.put, List.setIfInBounds_toArray, List.set_cons_zero, List.set_cons_succ])
 go_cut [3] (fun v3 wc => ∃ b2 : Nat, v3 = .pointer (some ⟨b2, 0, none⟩) ∧ Aside0 (rr_stmt.X w0 w wc g l a2 a3 a4 a5 b1 b2 (.int .i64 0) (.int .i64 a1) (.string (⟨#[]⟩ : ByteArray)) (.string (⟨#[]⟩ : ByteArray)) (.string (⟨#[]⟩ : ByteArray)) (.bool false) (.string (⟨#[]⟩ : ByteArray)) (.string (⟨#[]⟩ : ByteArray)) (.slice none 0 0) (.slice none 0 0) (.slice none 0 0) (.slice none 0 0)))
 case first =>
  go_wp2_with fail
  refine (rr_here.calls g l i d e a a1 a2 a3 a4 a5 w0 _ (IsS57.below HI0.out HBL1.out) (below_step HB0.out HBL1.out) H1.out).mono ?_
  rintro ee w2 ⟨rfl, hi, hb, hk⟩
  have HN1 : Aside0 (b1 ≠ g) := ⟨by rw [HG1.out]; exact Nat.ne_of_gt (IsS57.lt HI0.out)⟩
  have HBK1' := za (KeepBut.blk hk HBK1.out HN1.out (by simp))
  have HI2 := za hi
  have HB2 := za hb
  have HK2 := za (KeepBut.trans (KeepBut.of_below HBL1.out g none) hk (.inl rfl))
  clear hi hb hk
  go_wp2_with ((with_reducible refine gate_dst (N := 3) rfl ?_); refine box_event ?hg (N := 3) ?hd (cs := #[.int .i64 0, .int .i64 0, .string (⟨#[]⟩ : ByteArray), .string (⟨#[]⟩ : ByteArray), .string (⟨#[]⟩ : ByteArray), .bool false, .string (⟨#[]⟩ : ByteArray), .string (⟨#[]⟩ : ByteArray), .slice none 0 0, .slice none 0 0, .slice none 0 0, .slice none 0 0]) (t := 45) ?hr ?_; (case hd => rfl); (case hg => rfl); (case hr => exact zq39); intro b2 hg2 w2 hb2 hl2; have HG2 := za hg2; have HBK2 := za hb2; have HBL2 := za hl2; clear hg2 hb2 hl2; have x0 : rr_stmt.X w0 w _ g l a2 a3 a4 a5 b1 b2 (.int .i64 0) (.int .i64 0) (.string (⟨#[]⟩ : ByteArray)) (.string (⟨#[]⟩ : ByteArray)) (.string (⟨#[]⟩ : ByteArray)) (.bool false) (.string (⟨#[]⟩ : ByteArray)) (.string (⟨#[]⟩ : ByteArray)) (.slice none 0 0) (.slice none 0 0) (.slice none 0 0) (.slice none 0 0) := ⟨IsS57.below HI2.out HBL2.out, below_step HB2.out HBL2.out, KeepBut.trans HK2.out (KeepBut.of_below HBL2.out g none) (.inl rfl), blk_below HBK1'.out HBL2.out, HBK2.out, HB0.out.size, Nat.le_of_eq HG1.out.symm, by rw [HG2.out]; exact keep_size HK2.out, HN1.out, by rw [HG2.out]; exact Nat.ne_of_gt (IsS57.lt HI2.out), by rw [HG2.out]; exact Nat.ne_of_lt (blk_lt HBK1'.out)⟩; have X0 := za x0; obtain ⟨c0, c1, c2, c3, c4, c5, c6, c7, c8, c9, c10, c11, f0, f1, f2, f3, f4, f5, f6, f7, f8, f9, f10, f11⟩ := x0.cells2; clear x0)
  go_meet
  case rel => exact ⟨b2, rfl, ⟨X0.out.setall _ _ _ _ _ _ _ _ _ _ _ _⟩⟩
 case rest =>
 obtain ⟨b2, rfl, X0⟩ := hcut
 clear HBK1 HBL1 HG1 HI0 HB0 H1
 go_upto_region 4 with (fail)
 (try simp only [Act.put, List.setIfInBounds_toArray, List.set_cons_zero, List.set_cons_succ])
 go_cut [12] (fun v12 wc => ∃ (kq : Nat) (B : Bool), v12 = .bool B ∧ Aside0 (rr_stmt.j0 kq B l a2 a3 a4 a5 0 a1 (⟨#[]⟩ : ByteArray) (⟨#[]⟩ : ByteArray) (⟨#[]⟩ : ByteArray) false (⟨#[]⟩ : ByteArray) (⟨#[]⟩ : ByteArray) = some (r1, r2, r3, r4, r5, r6, r7, r8, r9, r10, r11, r12, r13, r14, r15, r16)) ∧ Aside0 (kq ≤ k) ∧ Aside0 (rr_stmt.X w0 w wc g l a2 a3 a4 a5 b1 b2 (.int .i64 0) (.int .i64 a1) (.string (⟨#[]⟩ : ByteArray)) (.string (⟨#[]⟩ : ByteArray)) (.string (⟨#[]⟩ : ByteArray)) (.bool false) (.string (⟨#[]⟩ : ByteArray)) (.string (⟨#[]⟩ : ByteArray)) (.slice none 0 0) (.slice none 0 0) (.slice none 0 0) (.slice none 0 0)))
 case first =>
  obtain ⟨A1, C1, hblk, _, hC⟩ := X0.out.hI
  have s0 := (blk_cell hblk 0).trans rfl
  have s1 := (blk_cell hblk 1).trans rfl
  have s3 := (blk_cell hblk 3).trans rfl
  clear hblk
  by_cases c4 : a4 = 0
  ·
   rw [if_pos c4] at h
   by_cases c2 : 0 ≤ a2
   ·
    rw [if_pos c2] at h
    by_cases c3 : a2 < (l.length : Int)
    ·
     rw [if_pos c3] at h
     have HH := za h
     clear h
     have c4b : (a4 == 0) = true := beq_iff_eq.mpr c4
     obtain ⟨ad, ea, hx0, hx1, hx2⟩ := at_T69 hC a2 c2 c3
     cases ea
     replace hx0 := pw_cell_below X0.out.hB hx0
     have p0 := eq_true c2
     have p1 := eq_true c3
     clear c2 c3 c4 hx1 hx2 hC
     go_wp2
     repeat (go_quiet (fail); try go_wp2)
     go_meet
     case rel => exact ⟨k, _, by first | rfl | (simp; done), HH, ⟨Nat.le_refl _⟩, by first | exact X0 | exact ⟨X0.out.drewN _⟩⟩
    ·
     rw [if_neg c3] at h; cases h
   ·
    rw [if_neg c2] at h; cases h
  ·
   rw [if_neg c4] at h
   have HH := za h
   clear h hC
   have c4b : (a4 == 0) = false := beq_eq_false_iff_ne.mpr c4
   clear c4
   go_wp2
   repeat (go_quiet (fail); try go_wp2)
   go_meet
   case rel => exact ⟨k, _, by first | rfl | (simp; done), HH, ⟨Nat.le_refl _⟩, by first | exact X0 | exact ⟨X0.out.drewN _⟩⟩
 case rest =>
 clear h X0
 obtain ⟨kq, B, rfl, H, HJ, X0⟩ := hcut
 cases kq with
 | zero => exact absurd H.out (by simp [rr_stmt.j0])
 | succ kj =>
 have h := H.out
 clear H
 simp only [rr_stmt.j0] at h
 cases B
 case true =>
  rw [if_pos rfl] at h
  obtain ⟨⟨m11, n11, s11_0, s11_1, s11_2, s11_3⟩, h1, h⟩ := Option.bind_eq_some_iff.mp h
  dsimp only at h
  have HA11 := za h1
  clear h1
  obtain ⟨⟨s12_0, s12_1, s12_2, s12_3⟩, h1, h⟩ := Option.bind_eq_some_iff.mp h
  dsimp only at h
  have HA12 := za h1
  clear h1
  obtain ⟨⟨l13, s13_0, s13_1, s13_2, s13_3⟩, h1, h⟩ := Option.bind_eq_some_iff.mp h
  dsimp only at h
  have HA13 := za h1
  clear h1
  obtain ⟨⟨s14_0, s14_1, s14_2, s14_3⟩, h1, h⟩ := Option.bind_eq_some_iff.mp h
  dsimp only at h
  have HA14 := za h1
  clear h1
  simp only [Option.some.injEq, Prod.mk.injEq] at h
  obtain ⟨rfl, rfl, rfl, rfl, rfl, rfl, rfl, rfl, rfl, rfl, rfl, rfl, rfl, rfl, rfl, rfl⟩ := h
  go_wp2_with fail
  refine (rr_qname.calls g l a2 a3 a4 a5 m11 n11 s11_0 s11_1 s11_2 s11_3 w0 _ X0.out.hI X0.out.hB HA11.out).mono ?_
  rintro ee w11 ⟨rfl, hi, hb, hk⟩
  have X11 := za (X0.out.call hi hb hk)
  clear hi hb hk
  obtain ⟨c0, c1, c2, c3, c4, c5, c6, c7, c8, c9, c10, c11, f0, f1, f2, f3, f4, f5, f6, f7, f8, f9, f10, f11⟩ := X11.out.cells2
  have X15 := za (X11.out.set0 (.int .i64 2))
  have X16 := za (X15.out.set2 (.string m11))
  have X17 := za (X16.out.set3 (.string n11))
  go_wp2_with fail
  clear c0 c1 c2 c3 c4 c5 c6 c7 c8 c9 c10 c11 f0 f1 f2 f3 f4 f5 f6 f7 f8 f9 f10 f11
  refine (rr_want.calls g l s11_0 s11_1 s11_2 s11_3 (⟨#[61]⟩ : ByteArray)  s12_0 s12_1 s12_2 s12_3 w0 _ X17.out.hI X17.out.hB HA12.out).mono ?_
  rintro ee w12 ⟨rfl, hi, hb, hk⟩
  have X12 := za (X17.out.call hi hb hk)
  clear hi hb hk
  obtain ⟨c0, c1, c2, c3, c4, c5, c6, c7, c8, c9, c10, c11, f0, f1, f2, f3, f4, f5, f6, f7, f8, f9, f10, f11⟩ := X12.out.cells2
  go_wp2_with fail
  clear c0 c1 c2 c3 c4 c5 c6 c7 c8 c9 c10 c11 f0 f1 f2 f3 f4 f5 f6 f7 f8 f9 f10 f11
  refine (rr_stmt.expr_new kj g l s12_0 s12_1 s12_2 s12_3 l13 s13_0 s13_1 s13_2 s13_3 w0 _ X12.out.hI X12.out.hB HA13.out).mono ?_
  rintro ee w13 ⟨v, rfl, ho, hi, hb, hk⟩
  obtain ⟨A13, C13, rfl⟩ := Kd.R_slice ho
  have HR13 := za (rr_stmt.Row.mk' (B := w.heap.size) ho X12.out.lt.2.2.2)
  have HQ13 := za X12.out.lt
  have X13 := za (X12.out.call hi hb hk)
  clear hi hb hk ho
  obtain ⟨c0, c1, c2, c3, c4, c5, c6, c7, c8, c9, c10, c11, f0, f1, f2, f3, f4, f5, f6, f7, f8, f9, f10, f11⟩ := X13.out.cells2
  have X18 := za (X13.out.set8 (.slice A13 l13.length C13))
  replace HR13 := za (HR13.out.far HQ13.out.2.2.1 8 (.slice A13 l13.length C13))
  go_wp2_with fail
  clear c0 c1 c2 c3 c4 c5 c6 c7 c8 c9 c10 c11 f0 f1 f2 f3 f4 f5 f6 f7 f8 f9 f10 f11
  refine (rr_want.calls g l s13_0 s13_1 s13_2 s13_3 (⟨#[59]⟩ : ByteArray)  s14_0 s14_1 s14_2 s14_3 w0 _ X18.out.hI X18.out.hB HA14.out).mono ?_
  rintro ee w14 ⟨rfl, hi, hb, hk⟩
  replace HR13 := za (HR13.out.call hk HQ13.out.1)
  have X14 := za (X18.out.call hi hb hk)
  clear hi hb hk
  obtain ⟨c0, c1, c2, c3, c4, c5, c6, c7, c8, c9, c10, c11, f0, f1, f2, f3, f4, f5, f6, f7, f8, f9, f10, f11⟩ := X14.out.cells2
  have hn12 := X14.out.n12
  have hn21 := Ne.symm X14.out.n12
  obtain ⟨q0, q1, q2, q3, q4, q5, q6, q7, q8, q9, q10, q11, p0, p1, p2, p3, p4, p5, p6, p7, p8, p9, p10, p11⟩ := X14.out.cells1
  go_wp2
  have F := X14.out.fin (.int .i64 2) (.int .i64 a1) (.string m11) (.string n11) (.string (⟨#[]⟩ : ByteArray)) (.bool false) (.string (⟨#[]⟩ : ByteArray)) (.string (⟨#[]⟩ : ByteArray)) (.slice A13 l13.length C13) (.slice none 0 0) (.slice none 0 0) (.slice none 0 0)
  refine bodyPost_ret (results_cell_row rfl _ _ b1 45 #[.int .i64 2, .int .i64 a1, .string m11, .string n11, .string (⟨#[]⟩ : ByteArray), .bool false, .string (⟨#[]⟩ : ByteArray), .string (⟨#[]⟩ : ByteArray), .slice A13 l13.length C13, .slice none 0 0, .slice none 0 0, .slice none 0 0] (0, 0) _ rfl F.1 hu70 rfl zq18) rfl ?_
  exact ⟨_, _, _, _, rfl, (HR13.out.far12 HQ13.out.2.1 _ _ _ _ _ _ _ _ _ _ _ _).fin (fun _ _ _ => trivial), Kd.S_nil _ _ _ _ _, Kd.R_nil _ _ _ _ _, Kd.R_nil _ _ _ _ _, F.2.1, F.2.2.1, F.2.2.2⟩
 rw [if_neg (by decide)] at h
 obtain ⟨⟨t11, s11_0, s11_1, s11_2, s11_3⟩, h1, h⟩ := Option.bind_eq_some_iff.mp h
 dsimp only at h
 have HA11 := za h1
 clear h1
 go_wp2_with fail
 refine (rr_take.calls g l a2 a3 a4 a5 (⟨#[108, 101, 116]⟩ : ByteArray) t11 s11_0 s11_1 s11_2 s11_3 w0 _ X0.out.hI X0.out.hB HA11.out).mono ?_
 rintro ee w11 ⟨rfl, hi, hb, hk⟩
 have X11 := za (X0.out.call hi hb hk)
 clear hi hb hk
 cases t11
 case true =>
  rw [if_pos rfl] at h
  obtain ⟨⟨m12, s12_0, s12_1, s12_2, s12_3⟩, h1, h⟩ := Option.bind_eq_some_iff.mp h
  dsimp only at h
  have HA12 := za h1
  clear h1
  obtain ⟨⟨s13_0, s13_1, s13_2, s13_3⟩, h1, h⟩ := Option.bind_eq_some_iff.mp h
  dsimp only at h
  have HA13 := za h1
  clear h1
  obtain ⟨⟨m14, s14_0, s14_1, s14_2, s14_3⟩, h1, h⟩ := Option.bind_eq_some_iff.mp h
  dsimp only at h
  have HA14 := za h1
  clear h1
  obtain ⟨⟨s15_0, s15_1, s15_2, s15_3⟩, h1, h⟩ := Option.bind_eq_some_iff.mp h
  dsimp only at h
  have HA15 := za h1
  clear h1
  obtain ⟨⟨l16, s16_0, s16_1, s16_2, s16_3⟩, h1, h⟩ := Option.bind_eq_some_iff.mp h
  dsimp only at h
  have HA16 := za h1
  clear h1
  obtain ⟨⟨s17_0, s17_1, s17_2, s17_3⟩, h1, h⟩ := Option.bind_eq_some_iff.mp h
  dsimp only at h
  have HA17 := za h1
  clear h1
  simp only [Option.some.injEq, Prod.mk.injEq] at h
  obtain ⟨rfl, rfl, rfl, rfl, rfl, rfl, rfl, rfl, rfl, rfl, rfl, rfl, rfl, rfl, rfl, rfl⟩ := h
  obtain ⟨c0, c1, c2, c3, c4, c5, c6, c7, c8, c9, c10, c11, f0, f1, f2, f3, f4, f5, f6, f7, f8, f9, f10, f11⟩ := X11.out.cells2
  have X18 := za (X11.out.set0 (.int .i64 1))
  go_wp2_with fail
  clear c0 c1 c2 c3 c4 c5 c6 c7 c8 c9 c10 c11 f0 f1 f2 f3 f4 f5 f6 f7 f8 f9 f10 f11
  refine (rr_name.calls g l s11_0 s11_1 s11_2 s11_3 m12 s12_0 s12_1 s12_2 s12_3 w0 _ X18.out.hI X18.out.hB HA12.out).mono ?_
  rintro ee w12 ⟨rfl, hi, hb, hk⟩
  have X12 := za (X18.out.call hi hb hk)
  clear hi hb hk
  obtain ⟨c0, c1, c2, c3, c4, c5, c6, c7, c8, c9, c10, c11, f0, f1, f2, f3, f4, f5, f6, f7, f8, f9, f10, f11⟩ := X12.out.cells2
  have X19 := za (X12.out.set3 (.string m12))
  go_wp2_with fail
  clear c0 c1 c2 c3 c4 c5 c6 c7 c8 c9 c10 c11 f0 f1 f2 f3 f4 f5 f6 f7 f8 f9 f10 f11
  refine (rr_want.calls g l s12_0 s12_1 s12_2 s12_3 (⟨#[58]⟩ : ByteArray)  s13_0 s13_1 s13_2 s13_3 w0 _ X19.out.hI X19.out.hB HA13.out).mono ?_
  rintro ee w13 ⟨rfl, hi, hb, hk⟩
  have X13 := za (X19.out.call hi hb hk)
  clear hi hb hk
  obtain ⟨c0, c1, c2, c3, c4, c5, c6, c7, c8, c9, c10, c11, f0, f1, f2, f3, f4, f5, f6, f7, f8, f9, f10, f11⟩ := X13.out.cells2
  go_wp2_with fail
  clear c0 c1 c2 c3 c4 c5 c6 c7 c8 c9 c10 c11 f0 f1 f2 f3 f4 f5 f6 f7 f8 f9 f10 f11
  refine (rr_name.calls g l s13_0 s13_1 s13_2 s13_3 m14 s14_0 s14_1 s14_2 s14_3 w0 _ X13.out.hI X13.out.hB HA14.out).mono ?_
  rintro ee w14 ⟨rfl, hi, hb, hk⟩
  have X14 := za (X13.out.call hi hb hk)
  clear hi hb hk
  obtain ⟨c0, c1, c2, c3, c4, c5, c6, c7, c8, c9, c10, c11, f0, f1, f2, f3, f4, f5, f6, f7, f8, f9, f10, f11⟩ := X14.out.cells2
  have X20 := za (X14.out.set4 (.string m14))
  go_wp2_with fail
  clear c0 c1 c2 c3 c4 c5 c6 c7 c8 c9 c10 c11 f0 f1 f2 f3 f4 f5 f6 f7 f8 f9 f10 f11
  refine (rr_want.calls g l s14_0 s14_1 s14_2 s14_3 (⟨#[61]⟩ : ByteArray)  s15_0 s15_1 s15_2 s15_3 w0 _ X20.out.hI X20.out.hB HA15.out).mono ?_
  rintro ee w15 ⟨rfl, hi, hb, hk⟩
  have X15 := za (X20.out.call hi hb hk)
  clear hi hb hk
  obtain ⟨c0, c1, c2, c3, c4, c5, c6, c7, c8, c9, c10, c11, f0, f1, f2, f3, f4, f5, f6, f7, f8, f9, f10, f11⟩ := X15.out.cells2
  go_wp2_with fail
  clear c0 c1 c2 c3 c4 c5 c6 c7 c8 c9 c10 c11 f0 f1 f2 f3 f4 f5 f6 f7 f8 f9 f10 f11
  refine (rr_stmt.expr_new kj g l s15_0 s15_1 s15_2 s15_3 l16 s16_0 s16_1 s16_2 s16_3 w0 _ X15.out.hI X15.out.hB HA16.out).mono ?_
  rintro ee w16 ⟨v, rfl, ho, hi, hb, hk⟩
  obtain ⟨A16, C16, rfl⟩ := Kd.R_slice ho
  have HR16 := za (rr_stmt.Row.mk' (B := w.heap.size) ho X15.out.lt.2.2.2)
  have HQ16 := za X15.out.lt
  have X16 := za (X15.out.call hi hb hk)
  clear hi hb hk ho
  obtain ⟨c0, c1, c2, c3, c4, c5, c6, c7, c8, c9, c10, c11, f0, f1, f2, f3, f4, f5, f6, f7, f8, f9, f10, f11⟩ := X16.out.cells2
  have X21 := za (X16.out.set8 (.slice A16 l16.length C16))
  replace HR16 := za (HR16.out.far HQ16.out.2.2.1 8 (.slice A16 l16.length C16))
  go_wp2_with fail
  clear c0 c1 c2 c3 c4 c5 c6 c7 c8 c9 c10 c11 f0 f1 f2 f3 f4 f5 f6 f7 f8 f9 f10 f11
  refine (rr_want.calls g l s16_0 s16_1 s16_2 s16_3 (⟨#[59]⟩ : ByteArray)  s17_0 s17_1 s17_2 s17_3 w0 _ X21.out.hI X21.out.hB HA17.out).mono ?_
  rintro ee w17 ⟨rfl, hi, hb, hk⟩
  replace HR16 := za (HR16.out.call hk HQ16.out.1)
  have X17 := za (X21.out.call hi hb hk)
  clear hi hb hk
  obtain ⟨c0, c1, c2, c3, c4, c5, c6, c7, c8, c9, c10, c11, f0, f1, f2, f3, f4, f5, f6, f7, f8, f9, f10, f11⟩ := X17.out.cells2
  have hn12 := X17.out.n12
  have hn21 := Ne.symm X17.out.n12
  obtain ⟨q0, q1, q2, q3, q4, q5, q6, q7, q8, q9, q10, q11, p0, p1, p2, p3, p4, p5, p6, p7, p8, p9, p10, p11⟩ := X17.out.cells1
  go_wp2
  have F := X17.out.fin (.int .i64 1) (.int .i64 a1) (.string (⟨#[]⟩ : ByteArray)) (.string m12) (.string m14) (.bool false) (.string (⟨#[]⟩ : ByteArray)) (.string (⟨#[]⟩ : ByteArray)) (.slice A16 l16.length C16) (.slice none 0 0) (.slice none 0 0) (.slice none 0 0)
  refine bodyPost_ret (results_cell_row rfl _ _ b1 45 #[.int .i64 1, .int .i64 a1, .string (⟨#[]⟩ : ByteArray), .string m12, .string m14, .bool false, .string (⟨#[]⟩ : ByteArray), .string (⟨#[]⟩ : ByteArray), .slice A16 l16.length C16, .slice none 0 0, .slice none 0 0, .slice none 0 0] (0, 0) _ rfl F.1 hu70 rfl zq18) rfl ?_
  exact ⟨_, _, _, _, rfl, (HR16.out.far12 HQ16.out.2.1 _ _ _ _ _ _ _ _ _ _ _ _).fin (fun _ _ _ => trivial), Kd.S_nil _ _ _ _ _, Kd.R_nil _ _ _ _ _, Kd.R_nil _ _ _ _ _, F.2.1, F.2.2.1, F.2.2.2⟩
 rw [if_neg (by decide)] at h
 obtain ⟨⟨t12, s12_0, s12_1, s12_2, s12_3⟩, h1, h⟩ := Option.bind_eq_some_iff.mp h
 dsimp only at h
 have HA12 := za h1
 clear h1
 go_wp2_with fail
 refine (rr_take.calls g l s11_0 s11_1 s11_2 s11_3 (⟨#[114, 101, 115, 117, 108, 116]⟩ : ByteArray) t12 s12_0 s12_1 s12_2 s12_3 w0 _ X11.out.hI X11.out.hB HA12.out).mono ?_
 rintro ee w12 ⟨rfl, hi, hb, hk⟩
 have X12 := za (X11.out.call hi hb hk)
 clear hi hb hk
 cases t12
 case true =>
  rw [if_pos rfl] at h
  obtain ⟨⟨s13_0, s13_1, s13_2, s13_3⟩, h1, h⟩ := Option.bind_eq_some_iff.mp h
  dsimp only at h
  have HA13 := za h1
  clear h1
  obtain ⟨⟨l14, s14_0, s14_1, s14_2, s14_3⟩, h1, h⟩ := Option.bind_eq_some_iff.mp h
  dsimp only at h
  have HA14 := za h1
  clear h1
  obtain ⟨⟨s15_0, s15_1, s15_2, s15_3⟩, h1, h⟩ := Option.bind_eq_some_iff.mp h
  dsimp only at h
  have HA15 := za h1
  clear h1
  simp only [Option.some.injEq, Prod.mk.injEq] at h
  obtain ⟨rfl, rfl, rfl, rfl, rfl, rfl, rfl, rfl, rfl, rfl, rfl, rfl, rfl, rfl, rfl, rfl⟩ := h
  obtain ⟨c0, c1, c2, c3, c4, c5, c6, c7, c8, c9, c10, c11, f0, f1, f2, f3, f4, f5, f6, f7, f8, f9, f10, f11⟩ := X12.out.cells2
  have X16 := za (X12.out.set0 (.int .i64 3))
  go_wp2_with fail
  clear c0 c1 c2 c3 c4 c5 c6 c7 c8 c9 c10 c11 f0 f1 f2 f3 f4 f5 f6 f7 f8 f9 f10 f11
  refine (rr_want.calls g l s12_0 s12_1 s12_2 s12_3 (⟨#[61]⟩ : ByteArray)  s13_0 s13_1 s13_2 s13_3 w0 _ X16.out.hI X16.out.hB HA13.out).mono ?_
  rintro ee w13 ⟨rfl, hi, hb, hk⟩
  have X13 := za (X16.out.call hi hb hk)
  clear hi hb hk
  obtain ⟨c0, c1, c2, c3, c4, c5, c6, c7, c8, c9, c10, c11, f0, f1, f2, f3, f4, f5, f6, f7, f8, f9, f10, f11⟩ := X13.out.cells2
  go_wp2_with fail
  clear c0 c1 c2 c3 c4 c5 c6 c7 c8 c9 c10 c11 f0 f1 f2 f3 f4 f5 f6 f7 f8 f9 f10 f11
  refine (rr_stmt.expr_new kj g l s13_0 s13_1 s13_2 s13_3 l14 s14_0 s14_1 s14_2 s14_3 w0 _ X13.out.hI X13.out.hB HA14.out).mono ?_
  rintro ee w14 ⟨v, rfl, ho, hi, hb, hk⟩
  obtain ⟨A14, C14, rfl⟩ := Kd.R_slice ho
  have HR14 := za (rr_stmt.Row.mk' (B := w.heap.size) ho X13.out.lt.2.2.2)
  have HQ14 := za X13.out.lt
  have X14 := za (X13.out.call hi hb hk)
  clear hi hb hk ho
  obtain ⟨c0, c1, c2, c3, c4, c5, c6, c7, c8, c9, c10, c11, f0, f1, f2, f3, f4, f5, f6, f7, f8, f9, f10, f11⟩ := X14.out.cells2
  have X17 := za (X14.out.set8 (.slice A14 l14.length C14))
  replace HR14 := za (HR14.out.far HQ14.out.2.2.1 8 (.slice A14 l14.length C14))
  go_wp2_with fail
  clear c0 c1 c2 c3 c4 c5 c6 c7 c8 c9 c10 c11 f0 f1 f2 f3 f4 f5 f6 f7 f8 f9 f10 f11
  refine (rr_want.calls g l s14_0 s14_1 s14_2 s14_3 (⟨#[59]⟩ : ByteArray)  s15_0 s15_1 s15_2 s15_3 w0 _ X17.out.hI X17.out.hB HA15.out).mono ?_
  rintro ee w15 ⟨rfl, hi, hb, hk⟩
  replace HR14 := za (HR14.out.call hk HQ14.out.1)
  have X15 := za (X17.out.call hi hb hk)
  clear hi hb hk
  obtain ⟨c0, c1, c2, c3, c4, c5, c6, c7, c8, c9, c10, c11, f0, f1, f2, f3, f4, f5, f6, f7, f8, f9, f10, f11⟩ := X15.out.cells2
  have hn12 := X15.out.n12
  have hn21 := Ne.symm X15.out.n12
  obtain ⟨q0, q1, q2, q3, q4, q5, q6, q7, q8, q9, q10, q11, p0, p1, p2, p3, p4, p5, p6, p7, p8, p9, p10, p11⟩ := X15.out.cells1
  go_wp2
  have F := X15.out.fin (.int .i64 3) (.int .i64 a1) (.string (⟨#[]⟩ : ByteArray)) (.string (⟨#[]⟩ : ByteArray)) (.string (⟨#[]⟩ : ByteArray)) (.bool false) (.string (⟨#[]⟩ : ByteArray)) (.string (⟨#[]⟩ : ByteArray)) (.slice A14 l14.length C14) (.slice none 0 0) (.slice none 0 0) (.slice none 0 0)
  refine bodyPost_ret (results_cell_row rfl _ _ b1 45 #[.int .i64 3, .int .i64 a1, .string (⟨#[]⟩ : ByteArray), .string (⟨#[]⟩ : ByteArray), .string (⟨#[]⟩ : ByteArray), .bool false, .string (⟨#[]⟩ : ByteArray), .string (⟨#[]⟩ : ByteArray), .slice A14 l14.length C14, .slice none 0 0, .slice none 0 0, .slice none 0 0] (0, 0) _ rfl F.1 hu70 rfl zq18) rfl ?_
  exact ⟨_, _, _, _, rfl, (HR14.out.far12 HQ14.out.2.1 _ _ _ _ _ _ _ _ _ _ _ _).fin (fun _ _ _ => trivial), Kd.S_nil _ _ _ _ _, Kd.R_nil _ _ _ _ _, Kd.R_nil _ _ _ _ _, F.2.1, F.2.2.1, F.2.2.2⟩
 rw [if_neg (by decide)] at h
 obtain ⟨⟨t13, s13_0, s13_1, s13_2, s13_3⟩, h1, h⟩ := Option.bind_eq_some_iff.mp h
 dsimp only at h
 have HA13 := za h1
 clear h1
 go_wp2_with fail
 refine (rr_take.calls g l s12_0 s12_1 s12_2 s12_3 (⟨#[99, 97, 108, 108]⟩ : ByteArray) t13 s13_0 s13_1 s13_2 s13_3 w0 _ X12.out.hI X12.out.hB HA13.out).mono ?_
 rintro ee w13 ⟨rfl, hi, hb, hk⟩
 have X13 := za (X12.out.call hi hb hk)
 clear hi hb hk
 cases t13
 case true =>
  rw [if_pos rfl] at h
  obtain ⟨⟨y14_0, y14_1, y14_2, y14_3, y14_4, y14_5, y14_6, y14_7, y14_8, y14_9, y14_10, y14_11, s14_0, s14_1, s14_2, s14_3⟩, h1, h⟩ := Option.bind_eq_some_iff.mp h
  dsimp only at h
  have HA14 := za h1
  clear h1
  obtain ⟨⟨s15_0, s15_1, s15_2, s15_3⟩, h1, h⟩ := Option.bind_eq_some_iff.mp h
  dsimp only at h
  have HA15 := za h1
  clear h1
  simp only [Option.some.injEq, Prod.mk.injEq] at h
  obtain ⟨rfl, rfl, rfl, rfl, rfl, rfl, rfl, rfl, rfl, rfl, rfl, rfl, rfl, rfl, rfl, rfl⟩ := h
  obtain ⟨c0, c1, c2, c3, c4, c5, c6, c7, c8, c9, c10, c11, f0, f1, f2, f3, f4, f5, f6, f7, f8, f9, f10, f11⟩ := X13.out.cells2
  go_wp2_with fail
  have HQ := za X13.out.lt
  refine (rr_call.calls kj g l s13_0 s13_1 s13_2 s13_3 0 a1 (⟨#[]⟩ : ByteArray) (⟨#[]⟩ : ByteArray) (⟨#[]⟩ : ByteArray) false (⟨#[]⟩ : ByteArray) (⟨#[]⟩ : ByteArray) y14_0 y14_1 y14_2 y14_3 y14_4 y14_5 y14_6 y14_7 y14_8 y14_9 y14_10 y14_11 s14_0 s14_1 s14_2 s14_3 w0 _ X13.out.hI X13.out.hB HA14.out).mono ?_
  rintro ee w14 ⟨v8, v9, v10, v11, rfl, ho8, ho9, ho10, ho11, hi, hb, hk⟩
  obtain ⟨A8, C8, e8⟩ := Kd.R_slice ho8
  obtain ⟨A10, C10, e10⟩ := Kd.R_slice ho10
  obtain ⟨A11, C11, e11⟩ := Kd.R_slice ho11
  obtain ⟨A9, C9, e9⟩ := Kd.R_slice (Kd.S_R ho9)
  subst e8 e9 e10 e11
  have X14 := za (X13.out.call hi hb hk)
  have HO8 := za (rr_stmt.rfar12 ho8 HQ.out.2.2.1 (.int .i64 y14_0) (.int .i64 y14_1) (.string y14_2) (.string y14_3) (.string y14_4) (.bool y14_5) (.string y14_6) (.string y14_7) (.slice A8 y14_8.length C8) (.slice A9 y14_9.length C9) (.slice A10 y14_10.length C10) (.slice A11 y14_11.length C11))
  have HO10 := za (rr_stmt.rfar12 ho10 HQ.out.2.2.1 (.int .i64 y14_0) (.int .i64 y14_1) (.string y14_2) (.string y14_3) (.string y14_4) (.bool y14_5) (.string y14_6) (.string y14_7) (.slice A8 y14_8.length C8) (.slice A9 y14_9.length C9) (.slice A10 y14_10.length C10) (.slice A11 y14_11.length C11))
  have HO11 := za (rr_stmt.rfar12 ho11 HQ.out.2.2.1 (.int .i64 y14_0) (.int .i64 y14_1) (.string y14_2) (.string y14_3) (.string y14_4) (.bool y14_5) (.string y14_6) (.string y14_7) (.slice A8 y14_8.length C8) (.slice A9 y14_9.length C9) (.slice A10 y14_10.length C10) (.slice A11 y14_11.length C11))
  have HO9 := za (rr_stmt.sfar12 ho9 HQ.out.2.2.1 (.int .i64 y14_0) (.int .i64 y14_1) (.string y14_2) (.string y14_3) (.string y14_4) (.bool y14_5) (.string y14_6) (.string y14_7) (.slice A8 y14_8.length C8) (.slice A9 y14_9.length C9) (.slice A10 y14_10.length C10) (.slice A11 y14_11.length C11))
  clear hi hb hk ho8 ho9 ho10 ho11
  obtain ⟨c0, c1, c2, c3, c4, c5, c6, c7, c8, c9, c10, c11, f0, f1, f2, f3, f4, f5, f6, f7, f8, f9, f10, f11⟩ := X14.out.cells2
  have XA := za (X14.out.setall (.int .i64 y14_0) (.int .i64 y14_1) (.string y14_2) (.string y14_3) (.string y14_4) (.bool y14_5) (.string y14_6) (.string y14_7) (.slice A8 y14_8.length C8) (.slice A9 y14_9.length C9) (.slice A10 y14_10.length C10) (.slice A11 y14_11.length C11))
  go_wp2_with fail
  clear c0 c1 c2 c3 c4 c5 c6 c7 c8 c9 c10 c11 f0 f1 f2 f3 f4 f5 f6 f7 f8 f9 f10 f11
  refine (rr_want.calls g l s14_0 s14_1 s14_2 s14_3 (⟨#[59]⟩ : ByteArray) s15_0 s15_1 s15_2 s15_3 w0 _ XA.out.hI XA.out.hB HA15.out).mono ?_
  rintro ee w15 ⟨rfl, hi, hb, hk⟩
  have XB := za (XA.out.call hi hb hk)
  replace HO8 := za (rr_stmt.rcall HO8.out hk HQ.out.1)
  replace HO10 := za (rr_stmt.rcall HO10.out hk HQ.out.1)
  replace HO11 := za (rr_stmt.rcall HO11.out hk HQ.out.1)
  replace HO9 := za (rr_stmt.scall HO9.out hk HQ.out.1)
  clear hi hb hk
  obtain ⟨c0, c1, c2, c3, c4, c5, c6, c7, c8, c9, c10, c11, f0, f1, f2, f3, f4, f5, f6, f7, f8, f9, f10, f11⟩ := XB.out.cells2
  obtain ⟨q0, q1, q2, q3, q4, q5, q6, q7, q8, q9, q10, q11, p0, p1, p2, p3, p4, p5, p6, p7, p8, p9, p10, p11⟩ := XB.out.cells1
  have hn12 := XB.out.n12
  have hn21 := Ne.symm XB.out.n12
  go_wp2
  have F := XB.out.fin (.int .i64 y14_0) (.int .i64 y14_1) (.string y14_2) (.string y14_3) (.string y14_4) (.bool y14_5) (.string y14_6) (.string y14_7) (.slice A8 y14_8.length C8) (.slice A9 y14_9.length C9) (.slice A10 y14_10.length C10) (.slice A11 y14_11.length C11)
  refine bodyPost_ret (results_cell_row rfl _ _ b1 45 #[.int .i64 y14_0, .int .i64 y14_1, .string y14_2, .string y14_3, .string y14_4, .bool y14_5, .string y14_6, .string y14_7, .slice A8 y14_8.length C8, .slice A9 y14_9.length C9, .slice A10 y14_10.length C10, .slice A11 y14_11.length C11] (0, 0) _ rfl F.1 hu70 rfl zq18) rfl ?_
  exact ⟨_, _, _, _, rfl, Kd.R_lower (rr_stmt.rfar12 HO8.out HQ.out.2.1 _ _ _ _ _ _ _ _ _ _ _ _) HQ.out.2.2.2, Kd.S_lower (rr_stmt.sfar12 HO9.out HQ.out.2.1 _ _ _ _ _ _ _ _ _ _ _ _) HQ.out.2.2.2, Kd.R_lower (rr_stmt.rfar12 HO10.out HQ.out.2.1 _ _ _ _ _ _ _ _ _ _ _ _) HQ.out.2.2.2, Kd.R_lower (rr_stmt.rfar12 HO11.out HQ.out.2.1 _ _ _ _ _ _ _ _ _ _ _ _) HQ.out.2.2.2, F.2.1, F.2.2.1, F.2.2.2⟩
 rw [if_neg (by decide)] at h
 obtain ⟨⟨t14, s14_0, s14_1, s14_2, s14_3⟩, h1, h⟩ := Option.bind_eq_some_iff.mp h
 dsimp only at h
 have HA14 := za h1
 clear h1
 go_wp2_with fail
 refine (rr_take.calls g l s13_0 s13_1 s13_2 s13_3 (⟨#[101, 109, 105, 116]⟩ : ByteArray) t14 s14_0 s14_1 s14_2 s14_3 w0 _ X13.out.hI X13.out.hB HA14.out).mono ?_
 rintro ee w14 ⟨rfl, hi, hb, hk⟩
 have X14 := za (X13.out.call hi hb hk)
 clear hi hb hk
 cases t14
 case true =>
  rw [if_pos rfl] at h
  obtain ⟨⟨m15, s15_0, s15_1, s15_2, s15_3⟩, h1, h⟩ := Option.bind_eq_some_iff.mp h
  dsimp only at h
  have HA15 := za h1
  clear h1
  obtain ⟨⟨s16_0, s16_1, s16_2, s16_3⟩, h1, h⟩ := Option.bind_eq_some_iff.mp h
  dsimp only at h
  have HA16 := za h1
  clear h1
  simp only [Option.some.injEq, Prod.mk.injEq] at h
  obtain ⟨rfl, rfl, rfl, rfl, rfl, rfl, rfl, rfl, rfl, rfl, rfl, rfl, rfl, rfl, rfl, rfl⟩ := h
  obtain ⟨c0, c1, c2, c3, c4, c5, c6, c7, c8, c9, c10, c11, f0, f1, f2, f3, f4, f5, f6, f7, f8, f9, f10, f11⟩ := X14.out.cells2
  have X17 := za (X14.out.set0 (.int .i64 7))
  go_wp2_with fail
  clear c0 c1 c2 c3 c4 c5 c6 c7 c8 c9 c10 c11 f0 f1 f2 f3 f4 f5 f6 f7 f8 f9 f10 f11
  refine (rr_name.calls g l s14_0 s14_1 s14_2 s14_3 m15 s15_0 s15_1 s15_2 s15_3 w0 _ X17.out.hI X17.out.hB HA15.out).mono ?_
  rintro ee w15 ⟨rfl, hi, hb, hk⟩
  have X15 := za (X17.out.call hi hb hk)
  clear hi hb hk
  obtain ⟨c0, c1, c2, c3, c4, c5, c6, c7, c8, c9, c10, c11, f0, f1, f2, f3, f4, f5, f6, f7, f8, f9, f10, f11⟩ := X15.out.cells2
  have X18 := za (X15.out.set3 (.string m15))
  go_wp2_with fail
  clear c0 c1 c2 c3 c4 c5 c6 c7 c8 c9 c10 c11 f0 f1 f2 f3 f4 f5 f6 f7 f8 f9 f10 f11
  refine (rr_want.calls g l s15_0 s15_1 s15_2 s15_3 (⟨#[59]⟩ : ByteArray)  s16_0 s16_1 s16_2 s16_3 w0 _ X18.out.hI X18.out.hB HA16.out).mono ?_
  rintro ee w16 ⟨rfl, hi, hb, hk⟩
  have X16 := za (X18.out.call hi hb hk)
  clear hi hb hk
  obtain ⟨c0, c1, c2, c3, c4, c5, c6, c7, c8, c9, c10, c11, f0, f1, f2, f3, f4, f5, f6, f7, f8, f9, f10, f11⟩ := X16.out.cells2
  have hn12 := X16.out.n12
  have hn21 := Ne.symm X16.out.n12
  obtain ⟨q0, q1, q2, q3, q4, q5, q6, q7, q8, q9, q10, q11, p0, p1, p2, p3, p4, p5, p6, p7, p8, p9, p10, p11⟩ := X16.out.cells1
  go_wp2
  have F := X16.out.fin (.int .i64 7) (.int .i64 a1) (.string (⟨#[]⟩ : ByteArray)) (.string m15) (.string (⟨#[]⟩ : ByteArray)) (.bool false) (.string (⟨#[]⟩ : ByteArray)) (.string (⟨#[]⟩ : ByteArray)) (.slice none 0 0) (.slice none 0 0) (.slice none 0 0) (.slice none 0 0)
  refine bodyPost_ret (results_cell_row rfl _ _ b1 45 #[.int .i64 7, .int .i64 a1, .string (⟨#[]⟩ : ByteArray), .string m15, .string (⟨#[]⟩ : ByteArray), .bool false, .string (⟨#[]⟩ : ByteArray), .string (⟨#[]⟩ : ByteArray), .slice none 0 0, .slice none 0 0, .slice none 0 0, .slice none 0 0] (0, 0) _ rfl F.1 hu70 rfl zq18) rfl ?_
  exact ⟨_, _, _, _, rfl, Kd.R_nil _ _ _ _ _, Kd.S_nil _ _ _ _ _, Kd.R_nil _ _ _ _ _, Kd.R_nil _ _ _ _ _, F.2.1, F.2.2.1, F.2.2.2⟩
 rw [if_neg (by decide)] at h
 obtain ⟨⟨t15, s15_0, s15_1, s15_2, s15_3⟩, h1, h⟩ := Option.bind_eq_some_iff.mp h
 dsimp only at h
 have HA15 := za h1
 clear h1
 go_wp2_with fail
 refine (rr_take.calls g l s14_0 s14_1 s14_2 s14_3 (⟨#[115, 107, 105, 112]⟩ : ByteArray) t15 s15_0 s15_1 s15_2 s15_3 w0 _ X14.out.hI X14.out.hB HA15.out).mono ?_
 rintro ee w15 ⟨rfl, hi, hb, hk⟩
 have X15 := za (X14.out.call hi hb hk)
 clear hi hb hk
 cases t15
 case true =>
  rw [if_pos rfl] at h
  obtain ⟨⟨s16_0, s16_1, s16_2, s16_3⟩, h1, h⟩ := Option.bind_eq_some_iff.mp h
  dsimp only at h
  have HA16 := za h1
  clear h1
  simp only [Option.some.injEq, Prod.mk.injEq] at h
  obtain ⟨rfl, rfl, rfl, rfl, rfl, rfl, rfl, rfl, rfl, rfl, rfl, rfl, rfl, rfl, rfl, rfl⟩ := h
  obtain ⟨c0, c1, c2, c3, c4, c5, c6, c7, c8, c9, c10, c11, f0, f1, f2, f3, f4, f5, f6, f7, f8, f9, f10, f11⟩ := X15.out.cells2
  have X17 := za (X15.out.set0 (.int .i64 8))
  go_wp2_with fail
  clear c0 c1 c2 c3 c4 c5 c6 c7 c8 c9 c10 c11 f0 f1 f2 f3 f4 f5 f6 f7 f8 f9 f10 f11
  refine (rr_want.calls g l s15_0 s15_1 s15_2 s15_3 (⟨#[59]⟩ : ByteArray)  s16_0 s16_1 s16_2 s16_3 w0 _ X17.out.hI X17.out.hB HA16.out).mono ?_
  rintro ee w16 ⟨rfl, hi, hb, hk⟩
  have X16 := za (X17.out.call hi hb hk)
  clear hi hb hk
  obtain ⟨c0, c1, c2, c3, c4, c5, c6, c7, c8, c9, c10, c11, f0, f1, f2, f3, f4, f5, f6, f7, f8, f9, f10, f11⟩ := X16.out.cells2
  have hn12 := X16.out.n12
  have hn21 := Ne.symm X16.out.n12
  obtain ⟨q0, q1, q2, q3, q4, q5, q6, q7, q8, q9, q10, q11, p0, p1, p2, p3, p4, p5, p6, p7, p8, p9, p10, p11⟩ := X16.out.cells1
  go_wp2
  have F := X16.out.fin (.int .i64 8) (.int .i64 a1) (.string (⟨#[]⟩ : ByteArray)) (.string (⟨#[]⟩ : ByteArray)) (.string (⟨#[]⟩ : ByteArray)) (.bool false) (.string (⟨#[]⟩ : ByteArray)) (.string (⟨#[]⟩ : ByteArray)) (.slice none 0 0) (.slice none 0 0) (.slice none 0 0) (.slice none 0 0)
  refine bodyPost_ret (results_cell_row rfl _ _ b1 45 #[.int .i64 8, .int .i64 a1, .string (⟨#[]⟩ : ByteArray), .string (⟨#[]⟩ : ByteArray), .string (⟨#[]⟩ : ByteArray), .bool false, .string (⟨#[]⟩ : ByteArray), .string (⟨#[]⟩ : ByteArray), .slice none 0 0, .slice none 0 0, .slice none 0 0, .slice none 0 0] (0, 0) _ rfl F.1 hu70 rfl zq18) rfl ?_
  exact ⟨_, _, _, _, rfl, Kd.R_nil _ _ _ _ _, Kd.S_nil _ _ _ _ _, Kd.R_nil _ _ _ _ _, Kd.R_nil _ _ _ _ _, F.2.1, F.2.2.1, F.2.2.2⟩
 rw [if_neg (by decide)] at h
 obtain ⟨⟨t16, s16_0, s16_1, s16_2, s16_3⟩, h1, h⟩ := Option.bind_eq_some_iff.mp h
 dsimp only at h
 have HA16 := za h1
 clear h1
 go_wp2_with fail
 refine (rr_take.calls g l s15_0 s15_1 s15_2 s15_3 (⟨#[105, 102]⟩ : ByteArray) t16 s16_0 s16_1 s16_2 s16_3 w0 _ X15.out.hI X15.out.hB HA16.out).mono ?_
 rintro ee w16 ⟨rfl, hi, hb, hk⟩
 have X16 := za (X15.out.call hi hb hk)
 clear hi hb hk
 cases t16
 case true =>
  rw [if_pos rfl] at h
  obtain ⟨⟨l17, s17_0, s17_1, s17_2, s17_3⟩, h1, h⟩ := Option.bind_eq_some_iff.mp h
  dsimp only at h
  have HA17 := za h1
  clear h1
  obtain ⟨⟨l18, s18_0, s18_1, s18_2, s18_3⟩, h1, h⟩ := Option.bind_eq_some_iff.mp h
  dsimp only at h
  have HA18 := za h1
  clear h1
  obtain ⟨⟨t19, s19_0, s19_1, s19_2, s19_3⟩, h1, h⟩ := Option.bind_eq_some_iff.mp h
  dsimp only at h
  have HA19 := za h1
  clear h1
  obtain ⟨c0, c1, c2, c3, c4, c5, c6, c7, c8, c9, c10, c11, f0, f1, f2, f3, f4, f5, f6, f7, f8, f9, f10, f11⟩ := X16.out.cells2
  have X20 := za (X16.out.set0 (.int .i64 5))
  go_wp2_with fail
  clear c0 c1 c2 c3 c4 c5 c6 c7 c8 c9 c10 c11 f0 f1 f2 f3 f4 f5 f6 f7 f8 f9 f10 f11
  refine (rr_stmt.expr_new kj g l s16_0 s16_1 s16_2 s16_3 l17 s17_0 s17_1 s17_2 s17_3 w0 _ X20.out.hI X20.out.hB HA17.out).mono ?_
  rintro ee w17 ⟨v, rfl, ho, hi, hb, hk⟩
  obtain ⟨A17, C17, rfl⟩ := Kd.R_slice ho
  have HR17 := za (rr_stmt.Row.mk' (B := w.heap.size) ho X20.out.lt.2.2.2)
  have HQ17 := za X20.out.lt
  have X17 := za (X20.out.call hi hb hk)
  clear hi hb hk ho
  obtain ⟨c0, c1, c2, c3, c4, c5, c6, c7, c8, c9, c10, c11, f0, f1, f2, f3, f4, f5, f6, f7, f8, f9, f10, f11⟩ := X17.out.cells2
  have X21 := za (X17.out.set8 (.slice A17 l17.length C17))
  replace HR17 := za (HR17.out.far HQ17.out.2.2.1 8 (.slice A17 l17.length C17))
  go_wp2_with fail
  clear c0 c1 c2 c3 c4 c5 c6 c7 c8 c9 c10 c11 f0 f1 f2 f3 f4 f5 f6 f7 f8 f9 f10 f11
  have HL17_18 := za HR17.out.2.2
  refine (IH32_.out kj (by have := HJ.out; omega) g l s17_0 s17_1 s17_2 s17_3 l18 s18_0 s18_1 s18_2 s18_3 w0 _ X21.out.hI X21.out.hB HA18.out).mono ?_
  rintro ee w18 ⟨v, rfl, ho, hi, hb, hk⟩
  obtain ⟨A18, C18, rfl⟩ := Kd.R_slice ho
  have HR18 := za (rr_stmt.Row.mk' (B := w.heap.size) ho X21.out.lt.2.2.2)
  have HQ18 := za X21.out.lt
  replace HR17 := za (HR17.out.call hk HQ17.out.1)
  have X18 := za (X21.out.call hi hb hk)
  clear hi hb hk ho
  obtain ⟨c0, c1, c2, c3, c4, c5, c6, c7, c8, c9, c10, c11, f0, f1, f2, f3, f4, f5, f6, f7, f8, f9, f10, f11⟩ := X18.out.cells2
  have X22 := za (X18.out.set10 (.slice A18 l18.length C18))
  replace HR17 := za (HR17.out.far HQ17.out.2.2.1 10 (.slice A18 l18.length C18))
  replace HR18 := za (HR18.out.far HQ18.out.2.2.1 10 (.slice A18 l18.length C18))
  go_wp2_with fail
  clear c0 c1 c2 c3 c4 c5 c6 c7 c8 c9 c10 c11 f0 f1 f2 f3 f4 f5 f6 f7 f8 f9 f10 f11
  refine (rr_take.calls g l s18_0 s18_1 s18_2 s18_3 (⟨#[101, 108, 115, 101]⟩ : ByteArray) t19 s19_0 s19_1 s19_2 s19_3 w0 _ X22.out.hI X22.out.hB HA19.out).mono ?_
  rintro ee w19 ⟨rfl, hi, hb, hk⟩
  replace HR17 := za (HR17.out.call hk HQ17.out.1)
  replace HR18 := za (HR18.out.call hk HQ18.out.1)
  have X19 := za (X22.out.call hi hb hk)
  clear hi hb hk
  cases t19
  case true =>
   rw [if_pos rfl] at h
   obtain ⟨⟨l23, s23_0, s23_1, s23_2, s23_3⟩, h1, h⟩ := Option.bind_eq_some_iff.mp h
   dsimp only at h
   have HA23 := za h1
   clear h1
   simp only [Option.some.injEq, Prod.mk.injEq] at h
   obtain ⟨rfl, rfl, rfl, rfl, rfl, rfl, rfl, rfl, rfl, rfl, rfl, rfl, rfl, rfl, rfl, rfl⟩ := h
   go_wp2_with fail
   have HL17_23 := za HR17.out.2.2
   have HL18_23 := za HR18.out.2.2
   refine (IH32_.out kj (by have := HJ.out; omega) g l s19_0 s19_1 s19_2 s19_3 l23 s23_0 s23_1 s23_2 s23_3 w0 _ X19.out.hI X19.out.hB HA23.out).mono ?_
   rintro ee w23 ⟨v, rfl, ho, hi, hb, hk⟩
   obtain ⟨A23, C23, rfl⟩ := Kd.R_slice ho
   have HR23 := za (rr_stmt.Row.mk' (B := w.heap.size) ho X19.out.lt.2.2.2)
   have HQ23 := za X19.out.lt
   replace HR17 := za (HR17.out.call hk HQ17.out.1)
   replace HR18 := za (HR18.out.call hk HQ18.out.1)
   have X23 := za (X19.out.call hi hb hk)
   clear hi hb hk ho
   obtain ⟨c0, c1, c2, c3, c4, c5, c6, c7, c8, c9, c10, c11, f0, f1, f2, f3, f4, f5, f6, f7, f8, f9, f10, f11⟩ := X23.out.cells2
   have X24 := za (X23.out.set11 (.slice A23 l23.length C23))
   replace HR17 := za (HR17.out.far HQ17.out.2.2.1 11 (.slice A23 l23.length C23))
   replace HR18 := za (HR18.out.far HQ18.out.2.2.1 11 (.slice A23 l23.length C23))
   replace HR23 := za (HR23.out.far HQ23.out.2.2.1 11 (.slice A23 l23.length C23))
   have hn12 := X24.out.n12
   have hn21 := Ne.symm X24.out.n12
   obtain ⟨q0, q1, q2, q3, q4, q5, q6, q7, q8, q9, q10, q11, p0, p1, p2, p3, p4, p5, p6, p7, p8, p9, p10, p11⟩ := X23.out.cells1
   go_wp2
   have F := X24.out.fin (.int .i64 5) (.int .i64 a1) (.string (⟨#[]⟩ : ByteArray)) (.string (⟨#[]⟩ : ByteArray)) (.string (⟨#[]⟩ : ByteArray)) (.bool false) (.string (⟨#[]⟩ : ByteArray)) (.string (⟨#[]⟩ : ByteArray)) (.slice A17 l17.length C17) (.slice none 0 0) (.slice A18 l18.length C18) (.slice A23 l23.length C23)
   refine bodyPost_ret (results_cell_row rfl _ _ b1 45 #[.int .i64 5, .int .i64 a1, .string (⟨#[]⟩ : ByteArray), .string (⟨#[]⟩ : ByteArray), .string (⟨#[]⟩ : ByteArray), .bool false, .string (⟨#[]⟩ : ByteArray), .string (⟨#[]⟩ : ByteArray), .slice A17 l17.length C17, .slice none 0 0, .slice A18 l18.length C18, .slice A23 l23.length C23] (0, 0) _ rfl F.1 hu70 rfl zq18) rfl ?_
   exact ⟨_, _, _, _, rfl, (HR17.out.far12 HQ17.out.2.1 _ _ _ _ _ _ _ _ _ _ _ _).fin (fun _ _ _ => trivial), Kd.S_nil _ _ _ _ _, (HR18.out.far12 HQ18.out.2.1 _ _ _ _ _ _ _ _ _ _ _ _).fin (fun k_ ha_ hb_ => ⟨fun e_ => by have h_ := HR17.out.own k_ e_.symm; have q_ := HL17_18.out; omega, zq102, fun e_ => by have h_ := HR23.out.own k_ e_.symm; have q_ := HL18_23.out; omega⟩), (HR23.out.far12 HQ23.out.2.1 _ _ _ _ _ _ _ _ _ _ _ _).fin (fun k_ ha_ hb_ => ⟨fun e_ => by have h_ := HR17.out.own k_ e_.symm; have q_ := HL17_23.out; omega, zq102, fun e_ => by have h_ := HR18.out.own k_ e_.symm; have q_ := HL18_23.out; omega⟩), F.2.1, F.2.2.1, F.2.2.2⟩
  case false =>
   rw [if_neg (by decide)] at h
   simp only [Option.some.injEq, Prod.mk.injEq] at h
   obtain ⟨rfl, rfl, rfl, rfl, rfl, rfl, rfl, rfl, rfl, rfl, rfl, rfl, rfl, rfl, rfl, rfl⟩ := h
   obtain ⟨c0, c1, c2, c3, c4, c5, c6, c7, c8, c9, c10, c11, f0, f1, f2, f3, f4, f5, f6, f7, f8, f9, f10, f11⟩ := X19.out.cells2
   have hn12 := X19.out.n12
   have hn21 := Ne.symm X19.out.n12
   obtain ⟨q0, q1, q2, q3, q4, q5, q6, q7, q8, q9, q10, q11, p0, p1, p2, p3, p4, p5, p6, p7, p8, p9, p10, p11⟩ := X19.out.cells1
   go_wp2
   have F := X19.out.fin (.int .i64 5) (.int .i64 a1) (.string (⟨#[]⟩ : ByteArray)) (.string (⟨#[]⟩ : ByteArray)) (.string (⟨#[]⟩ : ByteArray)) (.bool false) (.string (⟨#[]⟩ : ByteArray)) (.string (⟨#[]⟩ : ByteArray)) (.slice A17 l17.length C17) (.slice none 0 0) (.slice A18 l18.length C18) (.slice none 0 0)
   refine bodyPost_ret (results_cell_row rfl _ _ b1 45 #[.int .i64 5, .int .i64 a1, .string (⟨#[]⟩ : ByteArray), .string (⟨#[]⟩ : ByteArray), .string (⟨#[]⟩ : ByteArray), .bool false, .string (⟨#[]⟩ : ByteArray), .string (⟨#[]⟩ : ByteArray), .slice A17 l17.length C17, .slice none 0 0, .slice A18 l18.length C18, .slice none 0 0] (0, 0) _ rfl F.1 hu70 rfl zq18) rfl ?_
   exact ⟨_, _, _, _, rfl, (HR17.out.far12 HQ17.out.2.1 _ _ _ _ _ _ _ _ _ _ _ _).fin (fun _ _ _ => trivial), Kd.S_nil _ _ _ _ _, (HR18.out.far12 HQ18.out.2.1 _ _ _ _ _ _ _ _ _ _ _ _).fin (fun k_ ha_ hb_ => ⟨fun e_ => by have h_ := HR17.out.own k_ e_.symm; have q_ := HL17_18.out; omega, zq102, zq102⟩), Kd.R_nil _ _ _ _ _, F.2.1, F.2.2.1, F.2.2.2⟩
 rw [if_neg (by decide)] at h
 obtain ⟨⟨t17, s17_0, s17_1, s17_2, s17_3⟩, h1, h⟩ := Option.bind_eq_some_iff.mp h
 dsimp only at h
 have HA17 := za h1
 clear h1
 go_wp2_with fail
 refine (rr_take.calls g l s16_0 s16_1 s16_2 s16_3 (⟨#[119, 104, 105, 108, 101]⟩ : ByteArray) t17 s17_0 s17_1 s17_2 s17_3 w0 _ X16.out.hI X16.out.hB HA17.out).mono ?_
 rintro ee w17 ⟨rfl, hi, hb, hk⟩
 have X17 := za (X16.out.call hi hb hk)
 clear hi hb hk
 cases t17
 case true =>
  rw [if_pos rfl] at h
  obtain ⟨⟨l18, s18_0, s18_1, s18_2, s18_3⟩, h1, h⟩ := Option.bind_eq_some_iff.mp h
  dsimp only at h
  have HA18 := za h1
  clear h1
  obtain ⟨⟨l19, s19_0, s19_1, s19_2, s19_3⟩, h1, h⟩ := Option.bind_eq_some_iff.mp h
  dsimp only at h
  have HA19 := za h1
  clear h1
  simp only [Option.some.injEq, Prod.mk.injEq] at h
  obtain ⟨rfl, rfl, rfl, rfl, rfl, rfl, rfl, rfl, rfl, rfl, rfl, rfl, rfl, rfl, rfl, rfl⟩ := h
  obtain ⟨c0, c1, c2, c3, c4, c5, c6, c7, c8, c9, c10, c11, f0, f1, f2, f3, f4, f5, f6, f7, f8, f9, f10, f11⟩ := X17.out.cells2
  have X20 := za (X17.out.set0 (.int .i64 6))
  go_wp2_with fail
  clear c0 c1 c2 c3 c4 c5 c6 c7 c8 c9 c10 c11 f0 f1 f2 f3 f4 f5 f6 f7 f8 f9 f10 f11
  refine (rr_stmt.expr_new kj g l s17_0 s17_1 s17_2 s17_3 l18 s18_0 s18_1 s18_2 s18_3 w0 _ X20.out.hI X20.out.hB HA18.out).mono ?_
  rintro ee w18 ⟨v, rfl, ho, hi, hb, hk⟩
  obtain ⟨A18, C18, rfl⟩ := Kd.R_slice ho
  have HR18 := za (rr_stmt.Row.mk' (B := w.heap.size) ho X20.out.lt.2.2.2)
  have HQ18 := za X20.out.lt
  have X18 := za (X20.out.call hi hb hk)
  clear hi hb hk ho
  obtain ⟨c0, c1, c2, c3, c4, c5, c6, c7, c8, c9, c10, c11, f0, f1, f2, f3, f4, f5, f6, f7, f8, f9, f10, f11⟩ := X18.out.cells2
  have X21 := za (X18.out.set8 (.slice A18 l18.length C18))
  replace HR18 := za (HR18.out.far HQ18.out.2.2.1 8 (.slice A18 l18.length C18))
  go_wp2_with fail
  clear c0 c1 c2 c3 c4 c5 c6 c7 c8 c9 c10 c11 f0 f1 f2 f3 f4 f5 f6 f7 f8 f9 f10 f11
  have HL18_19 := za HR18.out.2.2
  refine (IH32_.out kj (by have := HJ.out; omega) g l s18_0 s18_1 s18_2 s18_3 l19 s19_0 s19_1 s19_2 s19_3 w0 _ X21.out.hI X21.out.hB HA19.out).mono ?_
  rintro ee w19 ⟨v, rfl, ho, hi, hb, hk⟩
  obtain ⟨A19, C19, rfl⟩ := Kd.R_slice ho
  have HR19 := za (rr_stmt.Row.mk' (B := w.heap.size) ho X21.out.lt.2.2.2)
  have HQ19 := za X21.out.lt
  replace HR18 := za (HR18.out.call hk HQ18.out.1)
  have X19 := za (X21.out.call hi hb hk)
  clear hi hb hk ho
  obtain ⟨c0, c1, c2, c3, c4, c5, c6, c7, c8, c9, c10, c11, f0, f1, f2, f3, f4, f5, f6, f7, f8, f9, f10, f11⟩ := X19.out.cells2
  have X22 := za (X19.out.set10 (.slice A19 l19.length C19))
  replace HR18 := za (HR18.out.far HQ18.out.2.2.1 10 (.slice A19 l19.length C19))
  replace HR19 := za (HR19.out.far HQ19.out.2.2.1 10 (.slice A19 l19.length C19))
  have hn12 := X22.out.n12
  have hn21 := Ne.symm X22.out.n12
  obtain ⟨q0, q1, q2, q3, q4, q5, q6, q7, q8, q9, q10, q11, p0, p1, p2, p3, p4, p5, p6, p7, p8, p9, p10, p11⟩ := X19.out.cells1
  go_wp2
  have F := X22.out.fin (.int .i64 6) (.int .i64 a1) (.string (⟨#[]⟩ : ByteArray)) (.string (⟨#[]⟩ : ByteArray)) (.string (⟨#[]⟩ : ByteArray)) (.bool false) (.string (⟨#[]⟩ : ByteArray)) (.string (⟨#[]⟩ : ByteArray)) (.slice A18 l18.length C18) (.slice none 0 0) (.slice A19 l19.length C19) (.slice none 0 0)
  refine bodyPost_ret (results_cell_row rfl _ _ b1 45 #[.int .i64 6, .int .i64 a1, .string (⟨#[]⟩ : ByteArray), .string (⟨#[]⟩ : ByteArray), .string (⟨#[]⟩ : ByteArray), .bool false, .string (⟨#[]⟩ : ByteArray), .string (⟨#[]⟩ : ByteArray), .slice A18 l18.length C18, .slice none 0 0, .slice A19 l19.length C19, .slice none 0 0] (0, 0) _ rfl F.1 hu70 rfl zq18) rfl ?_
  exact ⟨_, _, _, _, rfl, (HR18.out.far12 HQ18.out.2.1 _ _ _ _ _ _ _ _ _ _ _ _).fin (fun _ _ _ => trivial), Kd.S_nil _ _ _ _ _, (HR19.out.far12 HQ19.out.2.1 _ _ _ _ _ _ _ _ _ _ _ _).fin (fun k_ ha_ hb_ => ⟨fun e_ => by have h_ := HR18.out.own k_ e_.symm; have q_ := HL18_19.out; omega, zq102, zq102⟩), Kd.R_nil _ _ _ _ _, F.2.1, F.2.2.1, F.2.2.2⟩
 rw [if_neg (by decide)] at h
 obtain ⟨⟨s18_0, s18_1, s18_2, s18_3⟩, h1, h⟩ := Option.bind_eq_some_iff.mp h
 dsimp only at h
 have HA18 := za h1
 clear h1
 simp only [Option.some.injEq, Prod.mk.injEq] at h
 obtain ⟨rfl, rfl, rfl, rfl, rfl, rfl, rfl, rfl, rfl, rfl, rfl, rfl, rfl, rfl, rfl, rfl⟩ := h
 go_wp2_with fail
 refine (rr_fail.calls g l s17_0 s17_1 s17_2 s17_3 11  s18_0 s18_1 s18_2 s18_3 w0 _ X17.out.hI X17.out.hB HA18.out).mono ?_
 rintro ee w18 ⟨rfl, hi, hb, hk⟩
 have X18 := za (X17.out.call hi hb hk)
 clear hi hb hk
 obtain ⟨c0, c1, c2, c3, c4, c5, c6, c7, c8, c9, c10, c11, f0, f1, f2, f3, f4, f5, f6, f7, f8, f9, f10, f11⟩ := X18.out.cells2
 have hn12 := X18.out.n12
 have hn21 := Ne.symm X18.out.n12
 obtain ⟨q0, q1, q2, q3, q4, q5, q6, q7, q8, q9, q10, q11, p0, p1, p2, p3, p4, p5, p6, p7, p8, p9, p10, p11⟩ := X18.out.cells1
 go_wp2
 have F := X18.out.fin (.int .i64 0) (.int .i64 a1) (.string (⟨#[]⟩ : ByteArray)) (.string (⟨#[]⟩ : ByteArray)) (.string (⟨#[]⟩ : ByteArray)) (.bool false) (.string (⟨#[]⟩ : ByteArray)) (.string (⟨#[]⟩ : ByteArray)) (.slice none 0 0) (.slice none 0 0) (.slice none 0 0) (.slice none 0 0)
 refine bodyPost_ret (results_cell_row rfl _ _ b1 45 #[.int .i64 0, .int .i64 a1, .string (⟨#[]⟩ : ByteArray), .string (⟨#[]⟩ : ByteArray), .string (⟨#[]⟩ : ByteArray), .bool false, .string (⟨#[]⟩ : ByteArray), .string (⟨#[]⟩ : ByteArray), .slice none 0 0, .slice none 0 0, .slice none 0 0, .slice none 0 0] (0, 0) _ rfl F.1 hu70 rfl zq18) rfl ?_
 exact ⟨_, _, _, _, rfl, Kd.R_nil _ _ _ _ _, Kd.S_nil _ _ _ _ _, Kd.R_nil _ _ _ _ _, Kd.R_nil _ _ _ _ _, F.2.1, F.2.2.1, F.2.2.2⟩
end Go.Proofs.Ytcmpmlklednhbaa.QEvalJoins
