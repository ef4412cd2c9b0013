import Derived.Test.YtiaeldibklcobaaZRPx0
namespace Go.Proofs.Ytiaeldibklcobaa.eZ
open Go.RowKit Go.Proofs.YtiaeldibklcobaaW.bL Go.Proofs.YtiaeldibklcobaaW.fV Go.Proofs.YtiaeldibklcobaaW.iZ
set_option maxHeartbeats 8000000
set_option maxRecDepth 100000
attribute [local go_sem] kL kM lX lY jC jD kN kP
set_option linter.unusedVariables false
set_option linter.unusedSimpArgs false
def kD.f (a0 : Int) : Option (Bool) := if a0 ≥ 97 then (some (decide (a0 ≤ 122))) else (some false)
theorem kD.calls (a0 : Int) (r : Bool) (w : World) (h : kD.f a0 = some r) :
  Calls Try.prog 23 #[.int .u8 a0] w fun e w' => e = .returned (.bool r) ∧ mP w w' := by
 have H : (if a0 ≥ 97 then (some (decide (a0 ≤ 122))) else (some false)) = some r := h
 clear h
 revert H; refine Dn (fun c2 H => ?_) (fun c2 H => ?_)
 ·
  have Oj : decide (97 ≤ a0) = true := decide_eq_true c2
  clear c2
  obtain rfl := Option.some.inj H
  go_enter Try.func23, Try.ntmps23
  go_wp2
  go_ret
  exact ⟨lF, jY⟩
 ·
  have Oj : decide (97 ≤ a0) = false := decide_eq_false c2
  clear c2
  obtain rfl := Option.some.inj H
  go_enter Try.func23, Try.ntmps23
  go_wp2
  go_ret
  exact ⟨lF, jY⟩
def qV.f (a0 : Int) : Option (Bool) := if a0 ≥ 48 then (some (decide (a0 ≤ 57))) else (some false)
theorem qV.calls (a0 : Int) (r : Bool) (w : World) (h : qV.f a0 = some r) :
  Calls Try.prog 24 #[.int .u8 a0] w fun e w' => e = .returned (.bool r) ∧ mP w w' := by
 have H : (if a0 ≥ 48 then (some (decide (a0 ≤ 57))) else (some false)) = some r := h
 clear h
 revert H; refine Dn (fun c2 H => ?_) (fun c2 H => ?_)
 ·
  have Oj : decide (48 ≤ a0) = true := decide_eq_true c2
  clear c2
  obtain rfl := Option.some.inj H
  go_enter Try.func24, Try.ntmps24
  go_wp2
  go_ret
  exact ⟨lF, jY⟩
 ·
  have Oj : decide (48 ≤ a0) = false := decide_eq_false c2
  clear c2
  obtain rfl := Option.some.inj H
  go_enter Try.func24, Try.ntmps24
  go_wp2
  go_ret
  exact ⟨lF, jY⟩
def Ol.f (a0 : ByteArray) : Option (Bool) := if a0.toList = ([109, 111, 100, 117, 108, 101] : List UInt8) then (some true) else (if a0.toList = ([105, 109, 112, 111, 114, 116] : List UInt8) then (some true) else (if a0.toList = ([118, 97, 114] : List UInt8) then (some true) else (if a0.toList = ([112, 114, 111, 99] : List UInt8) then (some true) else (if a0.toList = ([112, 99] : List UInt8) then (some true) else (if a0.toList = ([117, 115, 101, 115] : List UInt8) then (some true) else (if a0.toList = ([108, 101, 116] : List UInt8) then (some true) else (if a0.toList = ([99, 97, 108, 108] : List UInt8) then (some true) else (if a0.toList = ([105, 102] : List UInt8) then (some true) else (if a0.toList = ([101, 108, 115, 101] : List UInt8) then (some true) else (if a0.toList = ([119, 104, 105, 108, 101] : List UInt8) then (some true) else (if a0.toList = ([101, 109, 105, 116] : List UInt8) then (some true) else (if a0.toList = ([114, 101, 115, 117, 108, 116] : List UInt8) then (some true) else (if a0.toList = ([115, 107, 105, 112] : List UInt8) then (some true) else (if a0.toList = ([108, 97, 98, 101, 108, 115] : List UInt8) then (some true) else (some false)))))))))))))))
theorem Ol.calls (a0 : ByteArray) (r : Bool) (w : World) (h : Ol.f a0 = some r) :
  Calls Try.prog 25 #[.string a0] w fun e w' => e = .returned (.bool r) ∧ mP w w' := by
 have H : (if a0.toList = ([109, 111, 100, 117, 108, 101] : List UInt8) then (some true) else (if a0.toList = ([105, 109, 112, 111, 114, 116] : List UInt8) then (some true) else (if a0.toList = ([118, 97, 114] : List UInt8) then (some true) else (if a0.toList = ([112, 114, 111, 99] : List UInt8) then (some true) else (if a0.toList = ([112, 99] : List UInt8) then (some true) else (if a0.toList = ([117, 115, 101, 115] : List UInt8) then (some true) else (if a0.toList = ([108, 101, 116] : List UInt8) then (some true) else (if a0.toList = ([99, 97, 108, 108] : List UInt8) then (some true) else (if a0.toList = ([105, 102] : List UInt8) then (some true) else (if a0.toList = ([101, 108, 115, 101] : List UInt8) then (some true) else (if a0.toList = ([119, 104, 105, 108, 101] : List UInt8) then (some true) else (if a0.toList = ([101, 109, 105, 116] : List UInt8) then (some true) else (if a0.toList = ([114, 101, 115, 117, 108, 116] : List UInt8) then (some true) else (if a0.toList = ([115, 107, 105, 112] : List UInt8) then (some true) else (if a0.toList = ([108, 97, 98, 101, 108, 115] : List UInt8) then (some true) else (some false)))))))))))))))) = some r := h
 clear h
 revert H; refine oW (fun Oj aLA H => ?_) (fun c2 Oj aLA H => ?_)
 ·
  obtain rfl := Option.some.inj H
  go_enter Try.func25, Try.ntmps25
  go_wp2
  go_ret
  exact ⟨lF, jY⟩
 ·
  revert H; refine oW (fun Bt ql H => ?_) (fun c3 Bt ql H => ?_)
  ·
   obtain rfl := Option.some.inj H
   go_enter Try.func25, Try.ntmps25
   go_wp2
   go_ret
   exact ⟨lF, jY⟩
  ·
   revert H; refine oW (fun wY TA H => ?_) (fun c4 wY TA H => ?_)
   ·
    obtain rfl := Option.some.inj H
    go_enter Try.func25, Try.ntmps25
    go_wp2
    go_ret
    exact ⟨lF, jY⟩
   ·
    revert H; refine oW (fun zG TB H => ?_) (fun c5 zG TB H => ?_)
    ·
     obtain rfl := Option.some.inj H
     go_enter Try.func25, Try.ntmps25
     go_wp2
     go_ret
     exact ⟨lF, jY⟩
    ·
     revert H; refine oW (fun Mj qm H => ?_) (fun c6 Mj qm H => ?_)
     ·
      obtain rfl := Option.some.inj H
      go_enter Try.func25, Try.ntmps25
      go_wp2
      go_ret
      exact ⟨lF, jY⟩
     ·
      revert H; refine oW (fun Bu qo H => ?_) (fun c7 Bu qo H => ?_)
      ·
       obtain rfl := Option.some.inj H
       go_enter Try.func25, Try.ntmps25
       go_wp2
       go_ret
       exact ⟨lF, jY⟩
      ·
       revert H; refine oW (fun oZ Hz H => ?_) (fun c8 oZ Hz H => ?_)
       ·
        obtain rfl := Option.some.inj H
        go_enter Try.func25, Try.ntmps25
        go_wp2
        go_ret
        exact ⟨lF, jY⟩
       ·
        revert H; refine oW (fun Ga CS H => ?_) (fun c9 Ga CS H => ?_)
        ·
         obtain rfl := Option.some.inj H
         go_enter Try.func25, Try.ntmps25
         go_wp2
         go_ret
         exact ⟨lF, jY⟩
        ·
         revert H; refine oW (fun xS aAs H => ?_) (fun c10 xS aAs H => ?_)
         ·
          obtain rfl := Option.some.inj H
          go_enter Try.func25, Try.ntmps25
          go_wp2
          go_ret
          exact ⟨lF, jY⟩
         ·
          revert H; refine oW (fun Co Xm H => ?_) (fun c11 Co Xm H => ?_)
          ·
           obtain rfl := Option.some.inj H
           go_enter Try.func25, Try.ntmps25
           go_wp2
           go_ret
           exact ⟨lF, jY⟩
          ·
           revert H; refine oW (fun Dy TC H => ?_) (fun c12 Dy TC H => ?_)
           ·
            obtain rfl := Option.some.inj H
            go_enter Try.func25, Try.ntmps25
            go_wp2
            go_ret
            exact ⟨lF, jY⟩
           ·
            revert H; refine oW (fun vU TD H => ?_) (fun c13 vU TD H => ?_)
            ·
             obtain rfl := Option.some.inj H
             go_enter Try.func25, Try.ntmps25
             go_wp2
             go_ret
             exact ⟨lF, jY⟩
            ·
             revert H; refine oW (fun U4 aPZ H => ?_) (fun c14 U4 aPZ H => ?_)
             ·
              obtain rfl := Option.some.inj H
              go_enter Try.func25, Try.ntmps25
              go_wp2
              go_ret
              exact ⟨lF, jY⟩
             ·
              revert H; refine oW (fun CU TE H => ?_) (fun c15 CU TE H => ?_)
              ·
               obtain rfl := Option.some.inj H
               go_enter Try.func25, Try.ntmps25
               go_wp2
               go_ret
               exact ⟨lF, jY⟩
              ·
               revert H; refine oW (fun yY TF H => ?_) (fun c16 yY TF H => ?_)
               ·
                obtain rfl := Option.some.inj H
                go_enter Try.func25, Try.ntmps25
                go_wp2
                go_ret
                exact ⟨lF, jY⟩
               ·
                obtain rfl := Option.some.inj H
                go_enter Try.func25, Try.ntmps25
                go_wp2
                go_ret
                exact ⟨lF, jY⟩
def jF.j0 : Nat → ByteArray → Int → Option (ByteArray)
 | 0, _, _ => none
 | k + 1, x0, x1 => if 0 ≤ x1 then (if x1 < (x0.size : Int) then (if (bt x0 x1) = 40 then (if x1 ≤ (wrap64 (x1 + 1)) then (if (wrap64 (x1 + 1)) ≤ (x0.size : Int) then (some (x0.extract (x1 : Int).toNat ((wrap64 (x1 + 1)) : Int).toNat)) else (none)) else (none)) else (if (bt x0 x1) = 41 then (if x1 ≤ (wrap64 (x1 + 1)) then (if (wrap64 (x1 + 1)) ≤ (x0.size : Int) then (some (x0.extract (x1 : Int).toNat ((wrap64 (x1 + 1)) : Int).toNat)) else (none)) else (none)) else (if (bt x0 x1) = 123 then (if x1 ≤ (wrap64 (x1 + 1)) then (if (wrap64 (x1 + 1)) ≤ (x0.size : Int) then (some (x0.extract (x1 : Int).toNat ((wrap64 (x1 + 1)) : Int).toNat)) else (none)) else (none)) else (if (bt x0 x1) = 125 then (if x1 ≤ (wrap64 (x1 + 1)) then (if (wrap64 (x1 + 1)) ≤ (x0.size : Int) then (some (x0.extract (x1 : Int).toNat ((wrap64 (x1 + 1)) : Int).toNat)) else (none)) else (none)) else (if (bt x0 x1) = 44 then (if x1 ≤ (wrap64 (x1 + 1)) then (if (wrap64 (x1 + 1)) ≤ (x0.size : Int) then (some (x0.extract (x1 : Int).toNat ((wrap64 (x1 + 1)) : Int).toNat)) else (none)) else (none)) else (if (bt x0 x1) = 59 then (if x1 ≤ (wrap64 (x1 + 1)) then (if (wrap64 (x1 + 1)) ≤ (x0.size : Int) then (some (x0.extract (x1 : Int).toNat ((wrap64 (x1 + 1)) : Int).toNat)) else (none)) else (none)) else (if (bt x0 x1) = 58 then (if x1 ≤ (wrap64 (x1 + 1)) then (if (wrap64 (x1 + 1)) ≤ (x0.size : Int) then (some (x0.extract (x1 : Int).toNat ((wrap64 (x1 + 1)) : Int).toNat)) else (none)) else (none)) else (if (bt x0 x1) = 46 then (if x1 ≤ (wrap64 (x1 + 1)) then (if (wrap64 (x1 + 1)) ≤ (x0.size : Int) then (some (x0.extract (x1 : Int).toNat ((wrap64 (x1 + 1)) : Int).toNat)) else (none)) else (none)) else (if (bt x0 x1) = 61 then (if x1 ≤ (wrap64 (x1 + 1)) then (if (wrap64 (x1 + 1)) ≤ (x0.size : Int) then (some (x0.extract (x1 : Int).toNat ((wrap64 (x1 + 1)) : Int).toNat)) else (none)) else (none)) else (if (bt x0 x1) = 60 then (if x1 ≤ (wrap64 (x1 + 1)) then (if (wrap64 (x1 + 1)) ≤ (x0.size : Int) then (some (x0.extract (x1 : Int).toNat ((wrap64 (x1 + 1)) : Int).toNat)) else (none)) else (none)) else (if (bt x0 x1) = 43 then (if x1 ≤ (wrap64 (x1 + 1)) then (if (wrap64 (x1 + 1)) ≤ (x0.size : Int) then (some (x0.extract (x1 : Int).toNat ((wrap64 (x1 + 1)) : Int).toNat)) else (none)) else (none)) else (if (bt x0 x1) = 45 then (if x1 ≤ (wrap64 (x1 + 1)) then (if (wrap64 (x1 + 1)) ≤ (x0.size : Int) then (some (x0.extract (x1 : Int).toNat ((wrap64 (x1 + 1)) : Int).toNat)) else (none)) else (none)) else (if (bt x0 x1) = 42 then (if x1 ≤ (wrap64 (x1 + 1)) then (if (wrap64 (x1 + 1)) ≤ (x0.size : Int) then (some (x0.extract (x1 : Int).toNat ((wrap64 (x1 + 1)) : Int).toNat)) else (none)) else (none)) else (if (bt x0 x1) = 47 then (if x1 ≤ (wrap64 (x1 + 1)) then (if (wrap64 (x1 + 1)) ≤ (x0.size : Int) then (some (x0.extract (x1 : Int).toNat ((wrap64 (x1 + 1)) : Int).toNat)) else (none)) else (none)) else (if (bt x0 x1) = 37 then (if x1 ≤ (wrap64 (x1 + 1)) then (if (wrap64 (x1 + 1)) ≤ (x0.size : Int) then (some (x0.extract (x1 : Int).toNat ((wrap64 (x1 + 1)) : Int).toNat)) else (none)) else (none)) else (if (bt x0 x1) = 33 then (if x1 ≤ (wrap64 (x1 + 1)) then (if (wrap64 (x1 + 1)) ≤ (x0.size : Int) then (some (x0.extract (x1 : Int).toNat ((wrap64 (x1 + 1)) : Int).toNat)) else (none)) else (none)) else (some (⟨#[]⟩ : ByteArray)))))))))))))))))) else (none)) else (none)
def jF.f (k : Nat) (a0 : ByteArray) (a1 : Int) : Option (ByteArray) := if (wrap64 (a1 + 1)) < (a0.size : Int) then (if 0 ≤ a1 then (if a1 ≤ (wrap64 (a1 + 2)) then (if (wrap64 (a1 + 2)) ≤ (a0.size : Int) then (if (a0.extract (a1 : Int).toNat ((wrap64 (a1 + 2)) : Int).toNat).toList = ([61, 61] : List UInt8) then (some (a0.extract (a1 : Int).toNat ((wrap64 (a1 + 2)) : Int).toNat)) else (if (a0.extract (a1 : Int).toNat ((wrap64 (a1 + 2)) : Int).toNat).toList = ([60, 61] : List UInt8) then (some (a0.extract (a1 : Int).toNat ((wrap64 (a1 + 2)) : Int).toNat)) else (if (a0.extract (a1 : Int).toNat ((wrap64 (a1 + 2)) : Int).toNat).toList = ([45, 62] : List UInt8) then (some (a0.extract (a1 : Int).toNat ((wrap64 (a1 + 2)) : Int).toNat)) else (jF.j0 k a0 a1)))) else (none)) else (none)) else (none)) else (jF.j0 k a0 a1)
theorem jF.fT : ∀ k, (∀ y0 y1, bV (jF.j0 k y0 y1) (jF.j0 (k + 1) y0 y1))
 | 0 => fun _ _ r h => by simp [jF.j0] at h
 | k + 1 => by
  have nV := jF.fT k
  ·
   intro y0 y1
   unfold jF.j0
   repeat' with_reducible first | apply nV | exact bV.refl _ | exact bV.none _ | refine bV.ite ?_ ?_ | refine bV.bind ?_ (fun _ => ?_)
theorem jF.mono : ∀ a0 a1 k, bV (jF.f k a0 a1) (jF.f (k + 1) a0 a1) := by
 intro a0 a1 k
 have nV := jF.fT k
 unfold jF.f
 repeat' with_reducible first | apply nV | exact bV.refl _ | exact bV.none _ | refine bV.ite ?_ ?_ | refine bV.bind ?_ (fun _ => ?_)
theorem jF.calls (k : Nat) (a0 : ByteArray) (a1 : Int) (r : ByteArray) (w : World) (h : jF.f k a0 a1 = some r) :
  Calls Try.prog 26 #[.string a0, .int .i64 a1] w fun e w' => e = .returned (.string r) ∧ mP w w' := by
 have H : (if (wrap64 (a1 + 1)) < (a0.size : Int) then (if 0 ≤ a1 then (if a1 ≤ (wrap64 (a1 + 2)) then (if (wrap64 (a1 + 2)) ≤ (a0.size : Int) then (if (a0.extract (a1 : Int).toNat ((wrap64 (a1 + 2)) : Int).toNat).toList = ([61, 61] : List UInt8) then (some (a0.extract (a1 : Int).toNat ((wrap64 (a1 + 2)) : Int).toNat)) else (if (a0.extract (a1 : Int).toNat ((wrap64 (a1 + 2)) : Int).toNat).toList = ([60, 61] : List UInt8) then (some (a0.extract (a1 : Int).toNat ((wrap64 (a1 + 2)) : Int).toNat)) else (if (a0.extract (a1 : Int).toNat ((wrap64 (a1 + 2)) : Int).toNat).toList = ([45, 62] : List UInt8) then (some (a0.extract (a1 : Int).toNat ((wrap64 (a1 + 2)) : Int).toNat)) else (jF.j0 k a0 a1)))) else (none)) else (none)) else (none)) else (jF.j0 k a0 a1)) = some r := h
 clear h
 have Zk := za H
 clear H
 go_enter Try.func26, Try.ntmps26
 go_upto_if 9 with (fail)
 go_cut [] (fun wc => ∃ (kq : Nat), aG (jF.j0 kq a0 a1 = some r) ∧ aG (kq ≤ k) ∧ mP w wc)
 case first =>
  have H := Zk.out
  clear Zk
  revert H; refine Dn (fun c4 H => ?_) (fun c4 H => ?_)
  ·
   have wY := decide_eq_true c4
   clear c4
   (first | rw [wY] | (simp only [dO, dQ]; rw [wY]) | skip)
   revert H; refine yP fun c5 zG TB H => ?_
   clear c5
   revert H; refine yP fun c6 Mj qm H => ?_
   revert H; refine yP fun c7 Bu qo H => ?_
   revert H; refine oW (fun oZ Hz H => ?_) (fun c8 oZ Hz H => ?_)
   ·
    have Ga := eq_true (of_decide_eq_true iL : 0 ≤ a1)
    have xS := eq_true (of_decide_eq_true iL : a1 ≤ (wrap64 (a1 + 2)))
    have Co := eq_true (of_decide_eq_true iL : (wrap64 (a1 + 2)) ≤ (a0.size : Int))
    obtain rfl := Option.some.inj H
    go_wp2
    go_ret
    exact ⟨lF, jY⟩
   ·
    revert H; refine oW (fun Dy TC H => ?_) (fun c12 Dy TC H => ?_)
    ·
     have vU := eq_true (of_decide_eq_true iL : 0 ≤ a1)
     have U4 := eq_true (of_decide_eq_true iL : a1 ≤ (wrap64 (a1 + 2)))
     have CU := eq_true (of_decide_eq_true iL : (wrap64 (a1 + 2)) ≤ (a0.size : Int))
     obtain rfl := Option.some.inj H
     go_wp2
     go_ret
     exact ⟨lF, jY⟩
    ·
     revert H; refine oW (fun yY TF H => ?_) (fun c16 yY TF H => ?_)
     ·
      have KC := eq_true (of_decide_eq_true iL : 0 ≤ a1)
      have aJW := eq_true (of_decide_eq_true iL : a1 ≤ (wrap64 (a1 + 2)))
      have Dz := eq_true (of_decide_eq_true iL : (wrap64 (a1 + 2)) ≤ (a0.size : Int))
      obtain rfl := Option.some.inj H
      go_wp2
      go_ret
      exact ⟨lF, jY⟩
     ·
      have H' := za H
      clear H
      go_wp2
      go_meet
      case rel => exact ⟨_, H', ⟨Cm⟩, jY⟩
  ·
   have wY := decide_eq_false c4
   clear c4
   (first | rw [wY] | (simp only [dO, dQ]; rw [wY]) | skip)
   have H' := za H
   clear H
   go_wp2
   go_meet
   case rel => exact ⟨_, H', ⟨Cm⟩, jY⟩
 case rest =>
  clear Zk
  obtain ⟨kq, HA, HJ2, ⟨mc2, rfl⟩⟩ := hcut
  cases kq with
  | zero => exact absurd HA.out (by simp [jF.j0])
  | succ kj2 =>
   have H := HA.out
   clear HA
   simp only [jF.j0] at H
   revert H; refine yX fun aJX H => ?_
   revert H; refine yX fun bNk H => ?_
   have aP0 := za H
   clear H
   have p22 : 0 ≤ (a1 : Int) := of_decide_eq_true iL
   have q22 : a1 < (a0.size : Int) := of_decide_eq_true iL
   have bPA := rP a0 a1
   replace p22 := eq_true p22
   replace q22 := eq_true q22
   go_upto_if 27 with (fail)
   have H := aP0.out
   clear aP0
   revert H; refine oW (fun TG aP1 H => ?_) (fun c24 TG aP1 H => ?_)
   ·
    (first | rw [TG] | (simp only [dO, dQ]; rw [TG]) | skip)
    have KD := eq_true (of_decide_eq_true iL : 0 ≤ a1)
    revert H; refine yP fun c26 bNl bNm H => ?_
    revert H; refine yP fun c27 bNn bNo H => ?_
    obtain rfl := Option.some.inj H
    go_wp2
    go_ret
    exact ⟨lF, jY⟩
   ·
    (first | rw [TG] | (simp only [dO, dQ]; rw [TG]) | skip)
    revert H; refine oW (fun aAt aAu H => ?_) (fun c28 aAt aAu H => ?_)
    ·
     have vV := eq_true (of_decide_eq_true iL : 0 ≤ a1)
     revert H; refine yP fun c30 U5 aAv H => ?_
     revert H; refine yP fun c31 Qj TH H => ?_
     obtain rfl := Option.some.inj H
     go_wp2
     go_ret
     exact ⟨lF, jY⟩
    ·
     revert H; refine oW (fun aJY aP2 H => ?_) (fun c32 aJY aP2 H => ?_)
     ·
      have aP3 := eq_true (of_decide_eq_true iL : 0 ≤ a1)
      revert H; refine yP fun c34 aJZ bNp H => ?_
      revert H; refine yP fun c35 aP4 bNq H => ?_
      obtain rfl := Option.some.inj H
      go_wp2
      go_ret
      exact ⟨lF, jY⟩
     ·
      revert H; refine oW (fun aJ0 aP5 H => ?_) (fun c36 aJ0 aP5 H => ?_)
      ·
       have CV := eq_true (of_decide_eq_true iL : 0 ≤ a1)
       revert H; refine yP fun c38 bNr bNs H => ?_
       revert H; refine yP fun c39 bNt bNu H => ?_
       obtain rfl := Option.some.inj H
       go_wp2
       go_ret
       exact ⟨lF, jY⟩
      ·
       revert H; refine oW (fun aAw aP6 H => ?_) (fun c40 aAw aP6 H => ?_)
       ·
        have aAx := eq_true (of_decide_eq_true iL : 0 ≤ a1)
        revert H; refine yP fun c42 aP7 bNv H => ?_
        revert H; refine yP fun c43 aJ1 bNw H => ?_
        obtain rfl := Option.some.inj H
        go_wp2
        go_ret
        exact ⟨lF, jY⟩
       ·
        revert H; refine oW (fun aJ2 aP8 H => ?_) (fun c44 aJ2 aP8 H => ?_)
        ·
         have aP9 := eq_true (of_decide_eq_true iL : 0 ≤ a1)
         revert H; refine yP fun c46 aQa bNx H => ?_
         revert H; refine yP fun c47 bNy bNz H => ?_
         obtain rfl := Option.some.inj H
         go_wp2
         go_ret
         exact ⟨lF, jY⟩
        ·
         revert H; refine oW (fun aQb aQc H => ?_) (fun c48 aQb aQc H => ?_)
         ·
          have KE := eq_true (of_decide_eq_true iL : 0 ≤ a1)
          revert H; refine yP fun c50 aJ3 bNA H => ?_
          revert H; refine yP fun c51 aQd bNB H => ?_
          obtain rfl := Option.some.inj H
          go_wp2
          go_ret
          exact ⟨lF, jY⟩
         ·
          revert H; refine oW (fun aQe aQf H => ?_) (fun c52 aQe aQf H => ?_)
          ·
           have bNC := eq_true (of_decide_eq_true iL : 0 ≤ a1)
           revert H; refine yP fun c54 aJ4 bND H => ?_
           revert H; refine yP fun c55 aJ5 bNE H => ?_
           obtain rfl := Option.some.inj H
           go_wp2
           go_ret
           exact ⟨lF, jY⟩
          ·
           revert H; refine oW (fun aAy aAz H => ?_) (fun c56 aAy aAz H => ?_)
           ·
            have aJ6 := eq_true (of_decide_eq_true iL : 0 ≤ a1)
            revert H; refine yP fun c58 aQg bNF H => ?_
            revert H; refine yP fun c59 bNG bNH H => ?_
            obtain rfl := Option.some.inj H
            go_wp2
            go_ret
            exact ⟨lF, jY⟩
           ·
            revert H; refine oW (fun aQh aQi H => ?_) (fun c60 aQh aQi H => ?_)
            ·
             have bNI := eq_true (of_decide_eq_true iL : 0 ≤ a1)
             revert H; refine yP fun c62 bNJ bNK H => ?_
             revert H; refine yP fun c63 aJ7 aJ8 H => ?_
             obtain rfl := Option.some.inj H
             go_wp2
             go_ret
             exact ⟨lF, jY⟩
            ·
             revert H; refine oW (fun aJ9 aKa H => ?_) (fun c64 aJ9 aKa H => ?_)
             ·
              have CW := eq_true (of_decide_eq_true iL : 0 ≤ a1)
              revert H; refine yP fun c66 aQj aQk H => ?_
              revert H; refine yP fun c67 KF aKb H => ?_
              obtain rfl := Option.some.inj H
              go_wp2
              go_ret
              exact ⟨lF, jY⟩
             ·
              revert H; refine oW (fun aAA aAB H => ?_) (fun c68 aAA aAB H => ?_)
              ·
               have aQl := eq_true (of_decide_eq_true iL : 0 ≤ a1)
               revert H; refine yP fun c70 aQm aQn H => ?_
               revert H; refine yP fun c71 aQo aQp H => ?_
               obtain rfl := Option.some.inj H
               go_wp2
               go_ret
               exact ⟨lF, jY⟩
              ·
               revert H; refine oW (fun aQq aQr H => ?_) (fun c72 aQq aQr H => ?_)
               ·
                have bNL := eq_true (of_decide_eq_true iL : 0 ≤ a1)
                revert H; refine yP fun c74 aKc bNM H => ?_
                revert H; refine yP fun c75 Ea U6 H => ?_
                obtain rfl := Option.some.inj H
                go_wp2
                go_ret
                exact ⟨lF, jY⟩
               ·
                revert H; refine oW (fun aQs aQt H => ?_) (fun c76 aQs aQt H => ?_)
                ·
                 have bNN := eq_true (of_decide_eq_true iL : 0 ≤ a1)
                 revert H; refine yP fun c78 aQu aQv H => ?_
                 revert H; refine yP fun c79 aQw aQx H => ?_
                 obtain rfl := Option.some.inj H
                 go_wp2
                 go_ret
                 exact ⟨lF, jY⟩
                ·
                 revert H; refine oW (fun aAC aAD H => ?_) (fun c80 aAC aAD H => ?_)
                 ·
                  have aQy := eq_true (of_decide_eq_true iL : 0 ≤ a1)
                  revert H; refine yP fun c82 aQz aQA H => ?_
                  revert H; refine yP fun c83 aQB aQC H => ?_
                  obtain rfl := Option.some.inj H
                  go_wp2
                  go_ret
                  exact ⟨lF, jY⟩
                 ·
                  revert H; refine oW (fun aQD aQE H => ?_) (fun c84 aQD aQE H => ?_)
                  ·
                   have KG := eq_true (of_decide_eq_true iL : 0 ≤ a1)
                   revert H; refine yP fun c86 aQF aQG H => ?_
                   revert H; refine yP fun c87 aQH aQI H => ?_
                   obtain rfl := Option.some.inj H
                   go_wp2
                   go_ret
                   exact ⟨lF, jY⟩
                  ·
                   obtain rfl := Option.some.inj H
                   go_wp2
                   go_ret
                   exact ⟨lF, jY⟩
end Go.Proofs.Ytiaeldibklcobaa.eZ
