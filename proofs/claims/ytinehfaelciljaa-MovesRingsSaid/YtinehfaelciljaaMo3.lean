/- What a law and its own functions compute, over plain data. Its conditions: none. -/
import Derived.Test.YtinehfaelciljaaMo
set_option maxRecDepth 20000
set_option autoImplicit false
namespace Go.Proofs.Ytinehfaelciljaa
open Go.V Go.RowKit
set_option linter.unusedVariables false
def m_ref27_Right_l2 (fuel : Nat) (p0 : (List MMove)) (x1 : Int) (s_ : Int) : Option (Ctl (Int) ((Unit) ⊕ (Bool))) :=
  let x3 := s_
  if (decide (x3 < x1)) then
    if inb p0 x3 then
      if inb p0 x1 then
        if (((gt p0 x3).To) == ((gt p0 x1).To)) then
          some (.done (.inr false))
        else
          some (.next (W (x3 + 1)))
      else none
    else none
  else
    some (.done (.inl ()))
def m_ref27_Right_l1 (fuel : Nat) (p0 : (List MMove)) (s_ : Int) : Option (Ctl (Int) ((Unit) ⊕ (Bool))) :=
  let x1 := s_
  if (decide (x1 < (p0.length : Int))) then
    Option.bind ((
      if inb p0 x1 then
        if (decide (((gt p0 x1).To) < 0)) then
          some true
        else
          if inb p0 x1 then
            some (decide (((gt p0 x1).From) < (-1)))
          else none
      else none) : Option (Bool)) fun x2 =>
      if x2 then
        some (.done (.inr false))
      else
        Option.bind (iter (m_ref27_Right_l2 fuel p0 x1) fuel 0) fun t2 => match t2 with
        | .inl _ =>
          some (.next (W (x1 + 1)))
        | .inr r1 => some (.done (.inr r1))
  else
    some (.done (.inl ()))
def m_ref27_Right (fuel : Nat) (p0 : (List MMove)) : Option (Bool) :=
  Option.bind (iter (m_ref27_Right_l1 fuel p0) fuel 0) fun t1 => match t1 with
| .inl _ =>
  some true
| .inr r1 => some r1
def m_ref27_Free_l1 (fuel : Nat) (p0 : (List MMove)) (p1 : Int) (s_ : Int) : Option (Ctl (Int) ((Unit) ⊕ (Bool))) :=
  let x1 := s_
  if (decide (x1 < (p0.length : Int))) then
    Option.bind ((
      if inb p0 x1 then
        if (((gt p0 x1).To) == p1) then
          some true
        else
          if inb p0 x1 then
            some (((gt p0 x1).From) == p1)
          else none
      else none) : Option (Bool)) fun x2 =>
      if x2 then
        some (.done (.inr false))
      else
        some (.next (W (x1 + 1)))
  else
    some (.done (.inl ()))
def m_ref27_Free (fuel : Nat) (p0 : (List MMove)) (p1 : Int) : Option (Bool) :=
  Option.bind (iter (m_ref27_Free_l1 fuel p0 p1) fuel 0) fun t1 => match t1 with
| .inl _ =>
  some (decide (p1 ≥ 0))
| .inr r1 => some r1
def m_ref27_from_l1 (fuel : Nat) (p0 : (List MMove)) (p1 : Int) (s_ : Int) : Option (Ctl (Int) ((Unit) ⊕ (Int))) :=
  let x1 := s_
  if (decide (x1 < (p0.length : Int))) then
    if inb p0 x1 then
      if (((gt p0 x1).To) == p1) then
        if inb p0 x1 then
          some (.done (.inr ((gt p0 x1).From)))
        else none
      else
        some (.next (W (x1 + 1)))
    else none
  else
    some (.done (.inl ()))
def m_ref27_from (fuel : Nat) (p0 : (List MMove)) (p1 : Int) : Option (Int) :=
  Option.bind (iter (m_ref27_from_l1 fuel p0 p1) fuel 0) fun t1 => match t1 with
| .inl _ =>
  some (-2)
| .inr r1 => some r1
def m_ref27_ring_l1 (fuel : Nat) (p0 : (List MMove)) (p1 : Int) (x1 : Int) (s_ : Int × Int) : Option (Ctl (Int × Int) (Int)) :=
  let (x2, x3) := s_
  Option.bind ((
    if (decide (x3 < (p0.length : Int))) then
      some (decide (x2 > p1))
    else
      some false) : Option (Bool)) fun x4 =>
    if x4 then
      Option.bind (m_ref27_from fuel p0 x2) fun x5 =>
        some (.next (x5, (W (x3 + 1))))
    else
      some (.done x2)
def m_ref27_ring (fuel : Nat) (p0 : (List MMove)) (p1 : Int) : Option (Bool) :=
  Option.bind (m_ref27_from fuel p0 p1) fun x1 =>
  Option.bind (iter (m_ref27_ring_l1 fuel p0 p1 x1) fuel (x1, 0)) fun y1 =>
    Option.bind ((
      if (y1 == p1) then
        Option.bind (m_ref27_from fuel p0 p1) fun x7 =>
          some (x7 != p1)
      else
        some false) : Option (Bool)) fun x6 =>
      some x6
def m_ref27_Least_l1 (fuel : Nat) (p0 : (List MMove)) (s_ : Int × Int) : Option (Ctl (Int × Int) (Int)) :=
  let (x2, x3) := s_
  if (decide (x3 < (p0.length : Int))) then
    Option.bind ((
      Option.bind ((
        if inb p0 x3 then
          if inb p0 x3 then
            if (((gt p0 x3).To) != ((gt p0 x3).From)) then
              some (W (x2 + 1))
            else
              some x2
          else none
        else none) : Option (Int)) fun x5 =>
        if inb p0 x3 then
          Option.bind (m_ref27_ring fuel p0 ((gt p0 x3).To)) fun x6 =>
            if x6 then
              some (W (x5 + 1))
            else
              some x5
        else none) : Option (Int)) fun x4 =>
      some (.next (x4, (W (x3 + 1))))
  else
    some (.done x2)
def m_ref27_Least (fuel : Nat) (p0 : (List MMove)) : Option (Int × Int) :=
  Option.bind (m_ref27_Right fuel p0) fun x1 =>
  if (!x1) then
    some (0, 1)
  else
    Option.bind (iter (m_ref27_Least_l1 fuel p0) fuel (0, 0)) fun y1 =>
      some (y1, 0)
def m_ref27_get (fuel : Nat) (p0 : (List Int)) (p1 : MMove) (p2 : Int) : Option (Int × Bool) :=
  Option.bind ((
  if (decide (p1.To < 0)) then
    some true
  else
    if (decide (p1.To ≥ (p0.length : Int))) then
      some true
    else
      if (decide (p1.From ≥ (p0.length : Int))) then
        some true
      else
        some (decide (p1.From < (-1)))) : Option (Bool)) fun x1 =>
  if x1 then
    some (0, false)
  else
    if (p1.From == (-1)) then
      some (p2, true)
    else
      if inb p0 p1.From then
        some ((gt p0 p1.From), true)
      else none
def m_ref27_Apply_l1 (fuel : Nat) (p1 : (List MMove)) (p2 : Int) (p0 : (List Int)) (s_ : List Int × Int) : Option (Ctl (List Int × Int) (List Int)) :=
  let (x1, x2) := s_
  if (decide (x2 < (p1.length : Int))) then
    Option.bind ((
      if inb p1 x2 then
        Option.bind (m_ref27_get fuel x1 (gt p1 x2) p2) fun x4 =>
          if x4.2 then
            if inb p1 x2 then
              if inb x1 ((gt p1 x2).To) then
                some (x1.set (Int.toNat ((gt p1 x2).To)) x4.1)
              else none
            else none
          else
            some x1
      else none) : Option (List Int)) fun x3 =>
      some (.next (x3, (W (x2 + 1))))
  else
    some (.done x1)
def m_ref27_Apply (fuel : Nat) (p0 : (List Int)) (p1 : (List MMove)) (p2 : Int) : Option ((List Int)) :=
  if apOk 8 ([] : List Int) p0 then
  Option.bind (iter (m_ref27_Apply_l1 fuel p1 p2 p0) fuel ((([] : List Int) ++ p0), 0)) fun y1 =>
    some y1
else none
def m_ref27_Once_l1 (fuel : Nat) (p0 : (List Int)) (p1 : (List MMove)) (p2 : Int) (s_ : List Int × Int) : Option (Ctl (List Int × Int) (List Int)) :=
  let (x1, x2) := s_
  if (decide (x2 < (p1.length : Int))) then
    Option.bind ((
      if inb p1 x2 then
        Option.bind (m_ref27_get fuel p0 (gt p1 x2) p2) fun x4 =>
          if x4.2 then
            if inb p1 x2 then
              if inb x1 ((gt p1 x2).To) then
                some (x1.set (Int.toNat ((gt p1 x2).To)) x4.1)
              else none
            else none
          else
            some x1
      else none) : Option (List Int)) fun x3 =>
      some (.next (x3, (W (x2 + 1))))
  else
    some (.done x1)
def m_ref27_Once (fuel : Nat) (p0 : (List Int)) (p1 : (List MMove)) (p2 : Int) : Option ((List Int)) :=
  if apOk 8 ([] : List Int) p0 then
  Option.bind (iter (m_ref27_Once_l1 fuel p0 p1 p2) fuel ((([] : List Int) ++ p0), 0)) fun y1 =>
    some y1
else none
def m_law27_MovesOrder_l1 (fuel : Nat) (p0 : (List MMove)) (p1 : Int) (p2 : (List Int)) (x3 : (List MMove) × Int) (x9 : Int × Int) (s_ : Int × Int) : Option (Ctl (Int × Int) (Int)) :=
  let (x10, x11) := s_
  if (decide (x11 < (p0.length : Int))) then
    Option.bind ((
      if inb p0 x11 then
        if inb p0 x11 then
          if (((gt p0 x11).To) != ((gt p0 x11).From)) then
            some (W (x10 + 1))
          else
            some x10
        else none
      else none) : Option (Int)) fun x12 =>
      some (.next (x12, (W (x11 + 1))))
  else
    some (.done x10)
def m_law27_MovesOrder_l2 (fuel : Nat) (p0 : (List MMove)) (p1 : Int) (p2 : (List Int)) (x3 : (List MMove) × Int) (x9 : Int × Int) (y1 : Int) (s_ : Int) : Option (Ctl (Int) ((Unit) ⊕ (Bool))) :=
  let x14 := s_
  if (decide (x14 < (x3.1.length : Int))) then
    Option.bind ((
      if inb x3.1 x14 then
        if inb x3.1 x14 then
          if (((gt x3.1 x14).To) == ((gt x3.1 x14).From)) then
            some true
          else
            if inb x3.1 x14 then
              if (((gt x3.1 x14).To) == p1) then
                some (x9.1 == y1)
              else
                some false
            else none
        else none
      else none) : Option (Bool)) fun x15 =>
      if x15 then
        some (.done (.inr false))
      else
        some (.next (W (x14 + 1)))
  else
    some (.done (.inl ()))
def m_law27_MovesOrder_l3 (fuel : Nat) (p0 : (List MMove)) (p1 : Int) (p2 : (List Int)) (x3 : (List MMove) × Int) (s_ : Int) : Option (Ctl (Int) ((Unit) ⊕ (Bool))) :=
  let x16 := s_
  if (decide (x16 < (p0.length : Int))) then
    Option.bind ((
      if inb p0 x16 then
        if (decide (((gt p0 x16).To) ≥ 100)) then
          some true
        else
          if inb p0 x16 then
            if (decide (((gt p0 x16).From) ≥ 100)) then
              some true
            else
              some (decide (p1 ≥ 100))
          else none
      else none) : Option (Bool)) fun x17 =>
      if x17 then
        Option.bind (m_law27_sure fuel ) fun x18 =>
          some (.done (.inr x18))
      else
        some (.next (W (x16 + 1)))
  else
    some (.done (.inl ()))
def m_law27_MovesOrder_l4 (fuel : Nat) (p0 : (List MMove)) (p1 : Int) (p2 : (List Int)) (x3 : (List MMove) × Int) (s_ : List Int × Int) : Option (Ctl (List Int × Int) (List Int)) :=
  let (x19, x20) := s_
  if (decide (x20 < (x19.length : Int))) then
    Option.bind ((
      if inb x19 x20 then
        if (decide (x20 < (p2.length : Int))) then
          if inb p2 x20 then
            if inb (x19.set (Int.toNat x20) (W (1000 + x20))) x20 then
              some ((x19.set (Int.toNat x20) (W (1000 + x20))).set (Int.toNat x20) (gt p2 x20))
            else none
          else none
        else
          some (x19.set (Int.toNat x20) (W (1000 + x20)))
      else none) : Option (List Int)) fun x21 =>
      some (.next (x21, (W (x20 + 1))))
  else
    some (.done x19)
def m_law27_MovesOrder (fuel : Nat) (p0 : (List MMove)) (p1 : Int) (p2 : (List Int)) : Option (Bool) :=
  Option.bind ((
  if (decide ((p0.length : Int) > 60)) then
    some true
  else
    some (decide ((p2.length : Int) > 100))) : Option (Bool)) fun x1 =>
  if x1 then
    Option.bind (m_law27_sure fuel ) fun x2 =>
      some x2
  else
    Option.bind (m_moves_Order fuel p0 p1) fun x3 =>
      Option.bind ((
        Option.bind (m_ref27_Right fuel p0) fun x5 =>
          if (!x5) then
            some true
          else
            Option.bind (m_ref27_Free fuel p0 p1) fun x6 =>
              some (!x6)) : Option (Bool)) fun x4 =>
        if x4 then
          Option.bind ((
            if (x3.2 == 1) then
              if ((x3.1.length : Int) == 0) then
                Option.bind (m_law27_sure fuel ) fun x8 =>
                  some x8
              else
                some false
            else
              some false) : Option (Bool)) fun x7 =>
            some x7
        else
          Option.bind (m_ref27_Least fuel p0) fun x9 =>
            Option.bind (iter (m_law27_MovesOrder_l1 fuel p0 p1 p2 x3 x9) fuel (0, 0)) fun y1 =>
              Option.bind ((
                if (x3.2 != 0) then
                  some true
                else
                  some ((x3.1.length : Int) != x9.1)) : Option (Bool)) fun x13 =>
                if x13 then
                  some false
                else
                  Option.bind (iter (m_law27_MovesOrder_l2 fuel p0 p1 p2 x3 x9 y1) fuel 0) fun t2 => match t2 with
                  | .inl _ =>
                    Option.bind (iter (m_law27_MovesOrder_l3 fuel p0 p1 p2 x3) fuel 0) fun t3 => match t3 with
                    | .inl _ =>
                      if mkOk 8 100 then
                        Option.bind (iter (m_law27_MovesOrder_l4 fuel p0 p1 p2 x3) fuel ((List.replicate (Int.toNat 100) (0 : Int)), 0)) fun y2 =>
                          Option.bind (m_ref27_Apply fuel y2 x3.1 (-7)) fun x22 =>
                            Option.bind (m_ref27_Once fuel y2 p0 (-7)) fun x23 =>
                              Option.bind ((
                                if (decide (p1 < (x22.length : Int))) then
                                  if inb x22 p1 then
                                    if inb x23 p1 then
                                      some ((x22.set (Int.toNat p1) 0), (x23.set (Int.toNat p1) 0))
                                    else none
                                  else none
                                else
                                  some (x22, x23)) : Option (List Int × List Int)) fun q9 => match q9 with
                              | (x24, x25) =>
                                Option.bind ((
                                  Option.bind (m_ref06_Ints fuel x24 x25) fun x27 =>
                                    if x27 then
                                      Option.bind (m_law27_sure fuel ) fun x28 =>
                                        some x28
                                    else
                                      some false) : Option (Bool)) fun x26 =>
                                  some x26
                      else none
                    | .inr r1 => some r1
                  | .inr r1 => some r1
end Go.Proofs.Ytinehfaelciljaa
