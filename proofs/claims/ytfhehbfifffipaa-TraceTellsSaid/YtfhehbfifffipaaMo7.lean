/- What a law and its own functions compute, over plain data. Its conditions: none. -/
import Derived.Test.YtfhehbfifffipaaMo
set_option maxRecDepth 20000
set_option autoImplicit false
namespace Go.Proofs.Ytfhehbfifffipaa
open Go.V Go.RowKit
set_option linter.unusedVariables false
def m_law18_TraceTells_l2 (fuel : Nat) (p0 : (List MTerm)) (p1 : (List Int)) (p2 : (List Int)) (x4 : Int) (x5 : (List (List Int)) × Bool) (x6 : (List (List Int)) × Bool) (s_ : Int) : Option (Ctl (Int) ((Unit) ⊕ (Bool))) :=
  let x8 := s_
  if (decide (x8 < (x5.1.length : Int))) then
    if inb x5.1 x8 then
      if inb x6.1 x8 then
        Option.bind (m_ref06_Ints fuel (gt x5.1 x8) (gt x6.1 x8)) fun x9 =>
          if (!x9) then
            some (.done (.inr false))
          else
            some (.next (W (x8 + 1)))
      else none
    else none
  else
    some (.done (.inl ()))
def m_law18_TraceTells_l1 (fuel : Nat) (p0 : (List MTerm)) (p1 : (List Int)) (p2 : (List Int)) (s_ : Int) : Option (Ctl (Int) ((Unit) ⊕ (Bool))) :=
  let x4 := s_
  if (decide (x4 < 2)) then
    Option.bind (m_trace_Frames fuel p0 p1 (x4 == 1)) fun x5 =>
      Option.bind (m_ref18_Frames fuel p0 p1 (x4 == 1)) fun x6 =>
        Option.bind ((
          if (x5.2 != x6.2) then
            some true
          else
            some ((x5.1.length : Int) != (x6.1.length : Int))) : Option (Bool)) fun x7 =>
          if x7 then
            some (.done (.inr false))
          else
            Option.bind (iter (m_law18_TraceTells_l2 fuel p0 p1 p2 x4 x5 x6) fuel 0) fun t2 => match t2 with
            | .inl _ =>
              some (.next (W (x4 + 1)))
            | .inr r1 => some (.done (.inr r1))
  else
    some (.done (.inl ()))
def m_law18_TraceTells (fuel : Nat) (p0 : (List MTerm)) (p1 : (List Int)) (p2 : (List Int)) : Option (Bool) :=
  Option.bind ((
  Option.bind (m_law18_few fuel p0 p1) fun x2 =>
    if (!x2) then
      some true
    else
      some (decide ((p2.length : Int) > 60))) : Option (Bool)) fun x1 =>
  if x1 then
    Option.bind (m_law18_sure fuel ) fun x3 =>
      some x3
  else
    Option.bind (iter (m_law18_TraceTells_l1 fuel p0 p1 p2) fuel 0) fun t1 => match t1 with
    | .inl _ =>
      Option.bind (m_trace_Tree fuel p0 p1) fun x10 =>
        Option.bind (m_ref18_Tree fuel p0 p1) fun x11 =>
          Option.bind ((
            Option.bind (m_ref14_Same fuel x10.1 x11.1) fun x13 =>
              if x13 then
                if (x10.2 == x11.2) then
                  Option.bind (m_trace_Fits fuel p0 p1 p2) fun x14 =>
                    Option.bind (m_ref18_Fits fuel p0 p1 p2) fun x15 =>
                      if (x14 == x15) then
                        Option.bind (m_law18_sure fuel ) fun x16 =>
                          some x16
                      else
                        some false
                else
                  some false
              else
                some false) : Option (Bool)) fun x12 =>
            some x12
    | .inr r1 => some r1
end Go.Proofs.Ytfhehbfifffipaa
