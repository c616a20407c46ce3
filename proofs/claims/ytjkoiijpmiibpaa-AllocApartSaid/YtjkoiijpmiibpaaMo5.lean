/- What a law and its own functions compute, over plain data. Its conditions: none. -/
import Derived.Test.YtjkoiijpmiibpaaMo
set_option maxRecDepth 20000
set_option autoImplicit false
namespace Go.Proofs.Ytjkoiijpmiibpaa
open Go.V Go.RowKit
set_option linter.unusedVariables false
def m_law28_AllocApart_l3 (fuel : Nat) (p0 : MDfa) (x5 : (List (List Int)) × Int) (x6 : Int) (x7 : Int) (x9 : Int) (s_ : Int) : Option (Ctl (Int) ((Unit) ⊕ (Bool))) :=
  let x11 := s_
  if (decide (x11 < x9)) then
    if inb x5.1 x7 then
      if inb (gt x5.1 x7) x11 then
        if inb x5.1 x7 then
          if inb (gt x5.1 x7) x9 then
            if ((gt (gt x5.1 x7) x11) == (gt (gt x5.1 x7) x9)) then
              some (.done (.inr false))
            else
              some (.next (W (x11 + 1)))
          else none
        else none
      else none
    else none
  else
    some (.done (.inl ()))
def m_law28_AllocApart_l2 (fuel : Nat) (p0 : MDfa) (x5 : (List (List Int)) × Int) (x6 : Int) (x7 : Int) (s_ : Int) : Option (Ctl (Int) ((Unit) ⊕ (Bool))) :=
  let x9 := s_
  if inb x5.1 x7 then
    if (decide (x9 < ((gt x5.1 x7).length : Int))) then
      Option.bind ((
        if inb x5.1 x7 then
          if inb (gt x5.1 x7) x9 then
            if (decide ((gt (gt x5.1 x7) x9) < 0)) then
              some true
            else
              if inb x5.1 x7 then
                if inb (gt x5.1 x7) x9 then
                  some (decide ((gt (gt x5.1 x7) x9) ≥ x5.2))
                else none
              else none
          else none
        else none) : Option (Bool)) fun x10 =>
        if x10 then
          some (.done (.inr false))
        else
          Option.bind (iter (m_law28_AllocApart_l3 fuel p0 x5 x6 x7 x9) fuel 0) fun t3 => match t3 with
          | .inl _ =>
            some (.next (W (x9 + 1)))
          | .inr r1 => some (.done (.inr r1))
    else
      some (.done (.inl ()))
  else none
def m_law28_AllocApart_l1 (fuel : Nat) (p0 : MDfa) (x5 : (List (List Int)) × Int) (s_ : Int × Int) : Option (Ctl (Int × Int) ((Int) ⊕ (Bool))) :=
  let (x6, x7) := s_
  if (decide (x7 < (x5.1.length : Int))) then
    Option.bind ((
      if inb x5.1 x7 then
        if inb p0.States x7 then
          if (((gt x5.1 x7).length : Int) != ((gt p0.States x7).Regs)) then
            some (.inr false)
          else
            Option.bind (iter (m_law28_AllocApart_l2 fuel p0 x5 x6 x7) fuel 0) fun t2 => match t2 with
            | .inl _ =>
              if inb p0.States x7 then
                if (decide (((gt p0.States x7).Regs) > x6)) then
                  if inb p0.States x7 then
                    some (.inl ((gt p0.States x7).Regs))
                  else none
                else
                  some (.inl x6)
              else none
            | .inr r1 => some (.inr r1)
        else none
      else none) : Option ((Int) ⊕ (Bool))) fun q2 => match q2 with
    | .inl x8 =>
      some (.next (x8, (W (x7 + 1))))
    | .inr r1 => some (.done (.inr r1))
  else
    some (.done (.inl x6))
def m_law28_AllocApart (fuel : Nat) (p0 : MDfa) : Option (Bool) :=
  Option.bind ((
  Option.bind (m_law24_Small fuel p0) fun x2 =>
    if (!x2) then
      some true
    else
      Option.bind (m_ref24_Right fuel p0) fun x3 =>
        some (!x3)) : Option (Bool)) fun x1 =>
  if x1 then
    Option.bind (m_law28_sure fuel ) fun x4 =>
      some x4
  else
    Option.bind (m_alloc_Homes fuel p0) fun x5 =>
      if ((x5.1.length : Int) != (p0.States.length : Int)) then
        some false
      else
        Option.bind (iter (m_law28_AllocApart_l1 fuel p0 x5) fuel (0, 0)) fun t1 => match t1 with
        | .inl y1 =>
          Option.bind ((
            if (x5.2 == y1) then
              Option.bind (m_law28_sure fuel ) fun x13 =>
                some x13
            else
              some false) : Option (Bool)) fun x12 =>
            some x12
        | .inr r1 => some r1
end Go.Proofs.Ytjkoiijpmiibpaa
