/- What a law and its own functions compute, over plain data. Its conditions: none. -/
import Derived.Test.YtjkoiijpmiibpaaMo
set_option maxRecDepth 20000
set_option autoImplicit false
namespace Go.Proofs.Ytjkoiijpmiibpaa
open Go.V Go.RowKit
set_option linter.unusedVariables false
def m_ref21_Rows_l2 (fuel : Nat) (p0 : (List (List Int))) (p1 : (List (List Int))) (x1 : Int) (s_ : Int) : Option (Ctl (Int) ((Unit) ⊕ (Bool))) :=
  let x2 := s_
  if inb p0 x1 then
    if (decide (x2 < ((gt p0 x1).length : Int))) then
      if inb p0 x1 then
        if inb (gt p0 x1) x2 then
          if inb p1 x1 then
            if inb (gt p1 x1) x2 then
              if ((gt (gt p0 x1) x2) != (gt (gt p1 x1) x2)) then
                some (.done (.inr false))
              else
                some (.next (W (x2 + 1)))
            else none
          else none
        else none
      else none
    else
      some (.done (.inl ()))
  else none
def m_ref21_Rows_l1 (fuel : Nat) (p0 : (List (List Int))) (p1 : (List (List Int))) (s_ : Int) : Option (Ctl (Int) ((Unit) ⊕ (Bool))) :=
  let x1 := s_
  if (decide (x1 < (p0.length : Int))) then
    if inb p0 x1 then
      if inb p1 x1 then
        if (((gt p0 x1).length : Int) != ((gt p1 x1).length : Int)) then
          some (.done (.inr false))
        else
          Option.bind (iter (m_ref21_Rows_l2 fuel p0 p1 x1) fuel 0) fun t2 => match t2 with
          | .inl _ =>
            some (.next (W (x1 + 1)))
          | .inr r1 => some (.done (.inr r1))
      else none
    else none
  else
    some (.done (.inl ()))
def m_ref21_Rows (fuel : Nat) (p0 : (List (List Int))) (p1 : (List (List Int))) : Option (Bool) :=
  if ((p0.length : Int) != (p1.length : Int)) then
  some false
else
  Option.bind (iter (m_ref21_Rows_l1 fuel p0 p1) fuel 0) fun t1 => match t1 with
  | .inl _ =>
    some true
  | .inr r1 => some r1
def m_law28_AllocHomes (fuel : Nat) (p0 : MDfa) : Option (Bool) :=
  Option.bind (m_law24_Small fuel p0) fun x1 =>
  if (!x1) then
    Option.bind (m_law28_sure fuel ) fun x2 =>
      some x2
  else
    Option.bind (m_alloc_Homes fuel p0) fun x3 =>
      Option.bind (m_ref28_Homes fuel p0) fun x4 =>
        Option.bind ((
          Option.bind (m_ref21_Rows fuel x3.1 x4.1) fun x6 =>
            if x6 then
              if (x3.2 == x4.2) then
                Option.bind (m_law28_sure fuel ) fun x7 =>
                  some x7
              else
                some false
            else
              some false) : Option (Bool)) fun x5 =>
          some x5
end Go.Proofs.Ytjkoiijpmiibpaa
