/- What the functions compute, over plain data. Its conditions: none. -/
import Derived.Test.YtinehfaelciljaaVMap
import Derived.Test.YtinehfaelciljaaVSortI
set_option maxRecDepth 20000
set_option autoImplicit false
namespace Go.Proofs.Ytinehfaelciljaa
open Go.V Go.RowKit
set_option linter.unusedVariables false
structure MMove where
  To : Int
  From : Int
instance : Inhabited MMove := ⟨⟨0, 0⟩⟩
structure MMovesOrder where
  left : (List (Int × Int))
  keys : (List Int)
  spare : Int
  out : (List MMove)
instance : Inhabited MMovesOrder := ⟨⟨[], [], 0, []⟩⟩
def m_moves_Order_1 (fuel : Nat) (p0 : MMove) (p1 : Int) : Option (Bool) :=
  Option.bind ((
  if (p0.To == p1) then
    some true
  else
    some (p0.From == p1)) : Option (Bool)) fun x1 =>
  some x1
def m_moves_atOnce_l1 (fuel : Nat) (p0 : (List MMove)) (s_ : List (Int × Int) × Int) : Option (Ctl (List (Int × Int) × Int) ((Unit) ⊕ (Bool))) :=
  let (x1, x2) := s_
  if (decide (x2 < (p0.length : Int))) then
    if inb p0 x2 then
      Option.bind ((
        if (decide (((gt p0 x2).To) < 0)) then
          some true
        else
          if (decide (((gt p0 x2).From) < (-1))) then
            some true
          else
            some (decide ((mget (mput x1 ((gt p0 x2).To) (W ((mget x1 ((gt p0 x2).To)) + 1))) ((gt p0 x2).To)) > 1))) : Option (Bool)) fun x3 =>
        if x3 then
          some (.done (.inr false))
        else
          some (.next ((mput x1 ((gt p0 x2).To) (W ((mget x1 ((gt p0 x2).To)) + 1))), (W (x2 + 1))))
    else none
  else
    some (.done (.inl ()))
def m_moves_atOnce (fuel : Nat) (p0 : (List MMove)) : Option (Bool) :=
  Option.bind (iter (m_moves_atOnce_l1 fuel p0) fuel (([] : List (Int × Int)), 0)) fun t1 => match t1 with
| .inl _ =>
  some true
| .inr r1 => some r1
def m_moves_ask_l1 (fuel : Nat) (p1 : Int) (p0 : (List MMove)) (s_ : MMovesOrder × Int) : Option (Ctl (MMovesOrder × Int) (MMovesOrder)) :=
  let (x1, x2) := s_
  if (decide (x2 < (p0.length : Int))) then
    Option.bind ((
      if inb p0 x2 then
        if (((gt p0 x2).To) != ((gt p0 x2).From)) then
          if apOk 8 x1.keys [(gt p0 x2).To] then
            some (⟨(⟨(mput x1.left ((gt p0 x2).To) ((gt p0 x2).From)), x1.keys, x1.spare, x1.out⟩ : MMovesOrder).left, (x1.keys ++ [(gt p0 x2).To]), (⟨(mput x1.left ((gt p0 x2).To) ((gt p0 x2).From)), x1.keys, x1.spare, x1.out⟩ : MMovesOrder).spare, (⟨(mput x1.left ((gt p0 x2).To) ((gt p0 x2).From)), x1.keys, x1.spare, x1.out⟩ : MMovesOrder).out⟩ : MMovesOrder)
          else none
        else
          some x1
      else none) : Option (MMovesOrder)) fun x3 =>
      some (.next (x3, (W (x2 + 1))))
  else
    some (.done x1)
def m_moves_ask (fuel : Nat) (p0 : (List MMove)) (p1 : Int) : Option (MMovesOrder) :=
  Option.bind (iter (m_moves_ask_l1 fuel p1 p0) fuel ((⟨([] : List (Int × Int)), [], p1, []⟩ : MMovesOrder), 0)) fun y1 =>
  if decide (y1.keys.length < 4611686018427387904) then
    some (⟨y1.left, (sortI y1.keys), y1.spare, y1.out⟩ : MMovesOrder)
  else none
def m_moves_order_waits_l1 (fuel : Nat) (p0 : MMovesOrder) (p1 : Int) (s_ : Int) : Option (Ctl (Int) ((Unit) ⊕ (Bool × MMovesOrder))) :=
  let x1 := s_
  if (decide (x1 < (p0.keys.length : Int))) then
    if inb p0.keys x1 then
      Option.bind ((
        if (mhas p0.left (gt p0.keys x1)) then
          some ((mget p0.left (gt p0.keys x1)) == p1)
        else
          some false) : Option (Bool)) fun x2 =>
        if x2 then
          some (.done (.inr (true, p0)))
        else
          some (.next (W (x1 + 1)))
    else none
  else
    some (.done (.inl ()))
def m_moves_order_waits (fuel : Nat) (p0 : MMovesOrder) (p1 : Int) : Option (Bool × MMovesOrder) :=
  Option.bind (iter (m_moves_order_waits_l1 fuel p0 p1) fuel 0) fun t1 => match t1 with
| .inl _ =>
  some (false, p0)
| .inr r1 => some r1
def m_moves_order_put (fuel : Nat) (p0 : MMovesOrder) (p1 : Int) : Option (MMovesOrder) :=
  if apOk 16 p0.out [(⟨p1, (mget p0.left p1)⟩ : MMove)] then
  some (⟨(mdel p0.left p1), (⟨p0.left, p0.keys, p0.spare, (p0.out ++ [(⟨p1, (mget p0.left p1)⟩ : MMove)])⟩ : MMovesOrder).keys, (⟨p0.left, p0.keys, p0.spare, (p0.out ++ [(⟨p1, (mget p0.left p1)⟩ : MMove)])⟩ : MMovesOrder).spare, (⟨p0.left, p0.keys, p0.spare, (p0.out ++ [(⟨p1, (mget p0.left p1)⟩ : MMove)])⟩ : MMovesOrder).out⟩ : MMovesOrder)
else none
def m_moves_order_free_l1 (fuel : Nat) (p0 : MMovesOrder) (s_ : MMovesOrder × Bool × Int) : Option (Ctl (MMovesOrder × Bool × Int) (MMovesOrder × Bool)) :=
  let (x1, x2, x3) := s_
  if (decide (x3 < (p0.keys.length : Int))) then
    Option.bind ((
      if inb p0.keys x3 then
        Option.bind ((
          if (mhas x1.left (gt p0.keys x3)) then
            Option.bind (m_moves_order_waits fuel x1 (gt p0.keys x3)) fun x8 =>
              some (x8.2, (!x8.1))
          else
            some (x1, false)) : Option (MMovesOrder × Bool)) fun q2 => match q2 with
        | (x6, x7) =>
          if x7 then
            Option.bind (m_moves_order_put fuel x6 (gt p0.keys x3)) fun x9 =>
              some (x9, true)
          else
            some (x6, x2)
      else none) : Option (MMovesOrder × Bool)) fun q1 => match q1 with
    | (x4, x5) =>
      some (.next (x4, x5, (W (x3 + 1))))
  else
    some (.done (x1, x2))
def m_moves_order_free (fuel : Nat) (p0 : MMovesOrder) : Option (Bool × MMovesOrder) :=
  Option.bind (iter (m_moves_order_free_l1 fuel p0) fuel (p0, false, 0)) fun t1 => match t1 with
| (y1, y2) =>
  some (y2, y1)
def m_moves_order_ring_l2 (fuel : Nat) (x1 : MMovesOrder) (p0 : MMovesOrder) (x2 : Int) (s_ : MMovesOrder × Int) : Option (Ctl (MMovesOrder × Int) (MMovesOrder)) :=
  let (x3, x4) := s_
  if (decide (x4 < (x1.keys.length : Int))) then
    Option.bind ((
      if inb x1.keys x4 then
        Option.bind ((
          if (mhas x3.left (gt x1.keys x4)) then
            some ((mget x3.left (gt x1.keys x4)) == (gt p0.keys x2))
          else
            some false) : Option (Bool)) fun x6 =>
          if x6 then
            some (⟨(mput x3.left (gt x1.keys x4) x3.spare), x3.keys, x3.spare, x3.out⟩ : MMovesOrder)
          else
            some x3
      else none) : Option (MMovesOrder)) fun x5 =>
      some (.next (x5, (W (x4 + 1))))
  else
    some (.done x3)
def m_moves_order_ring_l1 (fuel : Nat) (p0 : MMovesOrder) (s_ : MMovesOrder × Int) : Option (Ctl (MMovesOrder × Int) ((MMovesOrder) ⊕ (MMovesOrder))) :=
  let (x1, x2) := s_
  if (decide (x2 < (p0.keys.length : Int))) then
    if inb p0.keys x2 then
      if (!(mhas x1.left (gt p0.keys x2))) then
        some (.next (x1, (W (x2 + 1))))
      else
        if apOk 16 x1.out [(⟨x1.spare, (gt p0.keys x2)⟩ : MMove)] then
          Option.bind (iter (m_moves_order_ring_l2 fuel x1 p0 x2) fuel ((⟨x1.left, x1.keys, x1.spare, (x1.out ++ [(⟨x1.spare, (gt p0.keys x2)⟩ : MMove)])⟩ : MMovesOrder), 0)) fun y2 =>
            some (.done (.inr y2))
        else none
    else none
  else
    some (.done (.inl x1))
def m_moves_order_ring (fuel : Nat) (p0 : MMovesOrder) : Option (MMovesOrder) :=
  Option.bind (iter (m_moves_order_ring_l1 fuel p0) fuel (p0, 0)) fun t1 => match t1 with
| .inl y1 =>
  some y1
| .inr r1 => some r1
def m_moves_order_run_l1 (fuel : Nat) (p0 : MMovesOrder) (s_ : MMovesOrder) : Option (Ctl (MMovesOrder) (MMovesOrder)) :=
  let x1 := s_
  if (decide ((x1.left.length : Int) > 0)) then
    Option.bind ((
      Option.bind (m_moves_order_free fuel x1) fun x3 =>
        if (!x3.1) then
          Option.bind (m_moves_order_ring fuel x3.2) fun x4 =>
            some x4
        else
          some x3.2) : Option (MMovesOrder)) fun x2 =>
      some (.next x2)
  else
    some (.done x1)
def m_moves_order_run (fuel : Nat) (p0 : MMovesOrder) : Option (MMovesOrder) :=
  Option.bind (iter (m_moves_order_run_l1 fuel p0) fuel p0) fun y1 =>
  some y1
def m_slices_IndexFunc_api_Move_api_Move_moves_Order_1_l1 (fuel : Nat) (p0 : (List MMove)) (p1 : Int) (s_ : Int) : Option (Ctl (Int) ((Unit) ⊕ (Int))) :=
  let x1 := s_
  if (decide (x1 < (p0.length : Int))) then
    if inb p0 x1 then
      Option.bind (m_moves_Order_1 fuel (gt p0 x1) p1) fun x2 =>
        if x2 then
          some (.done (.inr x1))
        else
          some (.next (W (x1 + 1)))
    else none
  else
    some (.done (.inl ()))
def m_slices_IndexFunc_api_Move_api_Move_moves_Order_1 (fuel : Nat) (p0 : (List MMove)) (p1 : Int) : Option (Int) :=
  Option.bind (iter (m_slices_IndexFunc_api_Move_api_Move_moves_Order_1_l1 fuel p0 p1) fuel 0) fun t1 => match t1 with
| .inl _ =>
  some (-1)
| .inr r1 => some r1
def m_slices_ContainsFunc_api_Move_api_Move_moves_Order_1 (fuel : Nat) (p0 : (List MMove)) (p1 : Int) : Option (Bool) :=
  Option.bind (m_slices_IndexFunc_api_Move_api_Move_moves_Order_1 fuel p0 p1) fun x1 =>
  some (decide (x1 ≥ 0))
def m_moves_Order (fuel : Nat) (p0 : (List MMove)) (p1 : Int) : Option ((List MMove) × Int) :=
  Option.bind ((
  Option.bind (m_moves_atOnce fuel p0) fun x2 =>
    if (!x2) then
      some true
    else
      if (decide (p1 < 0)) then
        some true
      else
        Option.bind (m_slices_ContainsFunc_api_Move_api_Move_moves_Order_1 fuel p0 p1) fun x3 =>
          some x3) : Option (Bool)) fun x1 =>
  if x1 then
    some (([] : List MMove), 1)
  else
    Option.bind (m_moves_ask fuel p0 p1) fun x4 =>
      Option.bind (m_moves_order_run fuel x4) fun x5 =>
        some (x5.out, 0)
def m_ref06_Ints_l1 (fuel : Nat) (p0 : (List Int)) (p1 : (List Int)) (s_ : Int) : Option (Ctl (Int) ((Unit) ⊕ (Bool))) :=
  let x1 := s_
  if (decide (x1 < (p0.length : Int))) then
    if inb p0 x1 then
      if inb p1 x1 then
        if ((gt p0 x1) != (gt p1 x1)) then
          some (.done (.inr false))
        else
          some (.next (W (x1 + 1)))
      else none
    else none
  else
    some (.done (.inl ()))
def m_ref06_Ints (fuel : Nat) (p0 : (List Int)) (p1 : (List Int)) : Option (Bool) :=
  if ((p0.length : Int) != (p1.length : Int)) then
  some false
else
  Option.bind (iter (m_ref06_Ints_l1 fuel p0 p1) fuel 0) fun t1 => match t1 with
  | .inl _ =>
    some true
  | .inr r1 => some r1
def m_moves_Least (fuel : Nat) (p0 : (List MMove)) : Option (Int × Int) :=
  Option.bind (m_moves_atOnce fuel p0) fun x1 =>
  if (!x1) then
    some (0, 1)
  else
    Option.bind (m_moves_ask fuel p0 (-2)) fun x2 =>
      Option.bind (m_moves_order_run fuel x2) fun x3 =>
        some ((x3.out.length : Int), 0)
def m_slices_Clone_int_int (fuel : Nat) (p0 : (List Int)) : Option (List Int) :=
  if apOk 8 ([] : (List Int)) p0 then some p0 else none
def m_moves_get (fuel : Nat) (p0 : (List Int)) (p1 : MMove) (p2 : Int) : Option (Int × Bool) :=
  Option.bind ((
  if (decide (p1.To < 0)) then
    some true
  else
    if (decide (p1.To ≥ (p0.length : Int))) then
      some true
    else
      some (decide (p1.From ≥ (p0.length : Int)))) : Option (Bool)) fun x1 =>
  if x1 then
    some (0, false)
  else
    if (p1.From == (-1)) then
      some (p2, true)
    else
      if (decide (p1.From < 0)) then
        some (0, false)
      else
        if inb p0 p1.From then
          some ((gt p0 p1.From), true)
        else none
def m_moves_Apply_l1 (fuel : Nat) (p2 : Int) (x1 : (List Int)) (p1 : (List MMove)) (s_ : List Int × Int) : Option (Ctl (List Int × Int) (List Int)) :=
  let (x2, x3) := s_
  if (decide (x3 < (p1.length : Int))) then
    Option.bind ((
      if inb p1 x3 then
        Option.bind (m_moves_get fuel x2 (gt p1 x3) p2) fun x5 =>
          if x5.2 then
            if inb x2 ((gt p1 x3).To) then
              some (x2.set (Int.toNat ((gt p1 x3).To)) x5.1)
            else none
          else
            some x2
      else none) : Option (List Int)) fun x4 =>
      some (.next (x4, (W (x3 + 1))))
  else
    some (.done x2)
def m_moves_Apply (fuel : Nat) (p0 : (List Int)) (p1 : (List MMove)) (p2 : Int) : Option ((List Int)) :=
  Option.bind (m_slices_Clone_int_int fuel p0) fun x1 =>
  Option.bind (iter (m_moves_Apply_l1 fuel p2 x1 p1) fuel (x1, 0)) fun y1 =>
    some y1
def m_moves_Once_l1 (fuel : Nat) (p0 : (List Int)) (p2 : Int) (x1 : (List Int)) (p1 : (List MMove)) (s_ : List Int × Int) : Option (Ctl (List Int × Int) (List Int)) :=
  let (x2, x3) := s_
  if (decide (x3 < (p1.length : Int))) then
    Option.bind ((
      if inb p1 x3 then
        Option.bind (m_moves_get fuel p0 (gt p1 x3) p2) fun x5 =>
          if x5.2 then
            if inb x2 ((gt p1 x3).To) then
              some (x2.set (Int.toNat ((gt p1 x3).To)) x5.1)
            else none
          else
            some x2
      else none) : Option (List Int)) fun x4 =>
      some (.next (x4, (W (x3 + 1))))
  else
    some (.done x2)
def m_moves_Once (fuel : Nat) (p0 : (List Int)) (p1 : (List MMove)) (p2 : Int) : Option ((List Int)) :=
  Option.bind (m_slices_Clone_int_int fuel p0) fun x1 =>
  Option.bind (iter (m_moves_Once_l1 fuel p0 p2 x1 p1) fuel (x1, 0)) fun y1 =>
    some y1
def m_law27_sure (fuel : Nat)  : Option (Bool) :=
  Option.bind (m_moves_Least fuel [(⟨0, 1⟩ : MMove), (⟨1, 0⟩ : MMove)]) fun x1 =>
  Option.bind (m_moves_Order fuel [(⟨0, 1⟩ : MMove), (⟨1, 0⟩ : MMove)] 2) fun x2 =>
    Option.bind (m_moves_Order fuel [(⟨0, 1⟩ : MMove), (⟨1, 0⟩ : MMove)] 1) fun x3 =>
      Option.bind ((
        if (x1.1 == 3) then
          if (x1.2 == 0) then
            if ((x2.1.length : Int) == 3) then
              if (x2.2 == 0) then
                if (x3.2 == 1) then
                  Option.bind (m_moves_Once fuel [5, 6] [(⟨0, 1⟩ : MMove), (⟨1, 0⟩ : MMove)] 9) fun x5 =>
                    Option.bind (m_ref06_Ints fuel x5 [6, 5]) fun x6 =>
                      if x6 then
                        Option.bind (m_moves_Apply fuel [5, 6] [(⟨0, 1⟩ : MMove), (⟨1, 0⟩ : MMove)] 9) fun x7 =>
                          Option.bind (m_ref06_Ints fuel x7 [6, 6]) fun x8 =>
                            some x8
                      else
                        some false
                else
                  some false
              else
                some false
            else
              some false
          else
            some false
        else
          some false) : Option (Bool)) fun x4 =>
        some x4
end Go.Proofs.Ytinehfaelciljaa
