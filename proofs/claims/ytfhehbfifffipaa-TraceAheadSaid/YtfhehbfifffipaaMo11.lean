/- What a law and its own functions compute, over plain data. Its conditions: none. -/
import Derived.Test.YtfhehbfifffipaaMo
set_option maxRecDepth 20000
set_option autoImplicit false
namespace Go.Proofs.Ytfhehbfifffipaa
open Go.V Go.RowKit
set_option linter.unusedVariables false
def m_trace_Lows (fuel : Nat) (p0 : (List MTerm)) (p1 : (List Int)) (p2 : (List Int)) (p3 : Bool) : Option ((List Int) × (List Int)) :=
  Option.bind (m_trace_parted fuel p0 p1 p2 p3) fun x1 =>
  if (!x1.2.2.2) then
    some (([] : List Int), ([] : List Int))
  else
    Option.bind (m_trace_fork_lows fuel x1.2.2.1 x1.1) fun x2 =>
      Option.bind (m_trace_fork_lows fuel x1.2.2.1 x1.2.1) fun x3 =>
        some (x2, x3)
def m_ref18_part_l2 (fuel : Nat) (p0 : (List (List Int))) (p1 : (List (List Int))) (x1 : Int) (s_ : Int) : Option (Ctl (Int) ((Unit) ⊕ (Int × Int))) :=
  let x2 := s_
  Option.bind ((
    if inb p0 x1 then
      if (decide (x2 < ((gt p0 x1).length : Int))) then
        if inb p1 x1 then
          some (decide (x2 < ((gt p1 x1).length : Int)))
        else none
      else
        some false
    else none) : Option (Bool)) fun x3 =>
    if x3 then
      if inb p0 x1 then
        if inb (gt p0 x1) x2 then
          if inb p1 x1 then
            if inb (gt p1 x1) x2 then
              if ((gt (gt p0 x1) x2) != (gt (gt p1 x1) x2)) then
                some (.done (.inr (x1, x2)))
              else
                some (.next (W (x2 + 1)))
            else none
          else none
        else none
      else none
    else
      some (.done (.inl ()))
def m_ref18_part_l1 (fuel : Nat) (p0 : (List (List Int))) (p1 : (List (List Int))) (s_ : Int) : Option (Ctl (Int) ((Unit) ⊕ (Int × Int))) :=
  let x1 := s_
  if (decide (x1 < (p0.length : Int))) then
    Option.bind (iter (m_ref18_part_l2 fuel p0 p1 x1) fuel 0) fun t2 => match t2 with
    | .inl _ =>
      some (.next (W (x1 + 1)))
    | .inr r1 => some (.done (.inr r1))
  else
    some (.done (.inl ()))
def m_ref18_part (fuel : Nat) (p0 : (List (List Int))) (p1 : (List (List Int))) : Option (Int × Int) :=
  Option.bind (iter (m_ref18_part_l1 fuel p0 p1) fuel 0) fun t1 => match t1 with
| .inl _ =>
  some ((-1), 0)
| .inr r1 => some r1
def m_ref18_two (fuel : Nat) (p0 : (List MTerm)) (p1 : (List Int)) (p2 : (List Int)) (p3 : Bool) : Option ((List (List Int)) × (List (List Int)) × Int × Int) :=
  Option.bind (m_ref18_Frames fuel p0 p1 p3) fun x1 =>
  Option.bind (m_ref18_Frames fuel p0 p2 p3) fun x2 =>
    Option.bind ((
      if (!x1.2) then
        some true
      else
        if (!x2.2) then
          some true
        else
          if ((p1.length : Int) != (p2.length : Int)) then
            some true
          else
            Option.bind (m_ref06_Ints fuel p1 p2) fun x4 =>
              some x4) : Option (Bool)) fun x3 =>
      if x3 then
        some (([] : List (List Int)), ([] : List (List Int)), (-1), 0)
      else
        Option.bind (m_ref18_part fuel x1.1 x2.1) fun x5 =>
          some (x1.1, x2.1, x5.1, x5.2)
def m_ref18_lows_l2 (fuel : Nat) (p0 : (List (List Int))) (p1 : Int) (p2 : Int) (x1 : Int) (x2 : Int) (s_ : Int × Int) : Option (Ctl (Int × Int) (Int)) :=
  let (x4, x5) := s_
  Option.bind ((
    if inb p0 x2 then
      if (decide (x5 < ((gt p0 x2).length : Int))) then
        if (decide (x2 < p1)) then
          some true
        else
          some (decide (x5 < p2))
      else
        some false
    else none) : Option (Bool)) fun x6 =>
    if x6 then
      if inb p0 x2 then
        if inb (gt p0 x2) x5 then
          some (.next ((W ((W (x4 + 1)) - (W (2 * (Int.tmod (gt (gt p0 x2) x5) 2))))), (W (x5 + 1))))
        else none
      else none
    else
      some (.done x4)
def m_ref18_lows_l1 (fuel : Nat) (p0 : (List (List Int))) (p1 : Int) (p2 : Int) (s_ : Int × Int) : Option (Ctl (Int × Int) (Int)) :=
  let (x1, x2) := s_
  Option.bind ((
    if (decide (x2 < (p0.length : Int))) then
      some (decide (x2 ≤ p1))
    else
      some false) : Option (Bool)) fun x3 =>
    if x3 then
      Option.bind (iter (m_ref18_lows_l2 fuel p0 p1 p2 x1 x2) fuel (x1, 0)) fun y2 =>
        some (.next (y2, (W (x2 + 1))))
    else
      some (.done x1)
def m_ref18_lows_l4 (fuel : Nat) (p0 : (List (List Int))) (p1 : Int) (p2 : Int) (x7 : Int) (x8 : Int) (x9 : List Int) (x10 : Int) (x11 : Int) (s_ : Int × Int × Int) : Option (Ctl (Int × Int × Int) (Int × Int)) :=
  let (x12, x13, x14) := s_
  if inb p0 x10 then
    if (decide (x14 < ((gt p0 x10).length : Int))) then
      Option.bind ((
        Option.bind ((
          if inb p0 x10 then
            if inb (gt p0 x10) x14 then
              if ((Int.tmod (gt (gt p0 x10) x14) 2) == 1) then
                some (decide (x12 < x13))
              else
                some false
            else none
          else none) : Option (Bool)) fun x16 =>
          if x16 then
            some x12
          else
            some x13) : Option (Int)) fun x15 =>
        if inb p0 x10 then
          if inb (gt p0 x10) x14 then
            some (.next ((W ((W (x12 + 1)) - (W (2 * (Int.tmod (gt (gt p0 x10) x14) 2))))), x15, (W (x14 + 1))))
          else none
        else none
    else
      some (.done (x12, x13))
  else none
def m_ref18_lows_l3 (fuel : Nat) (p0 : (List (List Int))) (p1 : Int) (p2 : Int) (y1 : Int) (s_ : Int × Int × List Int × Int) : Option (Ctl (Int × Int × List Int × Int) (List Int)) :=
  let (x7, x8, x9, x10) := s_
  if (decide (x10 < (p0.length : Int))) then
    Option.bind ((
      if (x10 == p1) then
        some p2
      else
        some 0) : Option (Int)) fun x11 =>
      Option.bind (iter (m_ref18_lows_l4 fuel p0 p1 p2 x7 x8 x9 x10 x11) fuel (x7, x8, x11)) fun t4 => match t4 with
      | (y4, y5) =>
        if apOk 8 x9 [y5] then
          some (.next (y4, y5, (x9 ++ [y5]), (W (x10 + 1))))
        else none
  else
    some (.done x9)
def m_ref18_lows (fuel : Nat) (p0 : (List (List Int))) (p1 : Int) (p2 : Int) : Option ((List Int)) :=
  Option.bind (iter (m_ref18_lows_l1 fuel p0 p1 p2) fuel (0, 0)) fun y1 =>
  Option.bind (iter (m_ref18_lows_l3 fuel p0 p1 p2 y1) fuel (y1, (W (y1 + 1)), ([] : List Int), p1)) fun y3 =>
    some y3
def m_ref18_Lows (fuel : Nat) (p0 : (List MTerm)) (p1 : (List Int)) (p2 : (List Int)) (p3 : Bool) : Option ((List Int) × (List Int)) :=
  Option.bind (m_ref18_two fuel p0 p1 p2 p3) fun x1 =>
  if (decide (x1.2.2.1 < 0)) then
    some (([] : List Int), ([] : List Int))
  else
    Option.bind (m_ref18_lows fuel x1.1 x1.2.2.1 x1.2.2.2) fun x2 =>
      Option.bind (m_ref18_lows fuel x1.2.1 x1.2.2.1 x1.2.2.2) fun x3 =>
        some (x2, x3)
def m_ref18_Ahead_l1 (fuel : Nat) (x1 : (List (List Int)) × (List (List Int)) × Int × Int) (x2 : (List Int)) (x3 : (List Int)) (s_ : Int) : Option (Ctl (Int) ((Unit) ⊕ (Int))) :=
  let x4 := s_
  if (decide (x4 ≥ 0)) then
    if inb x2 x4 then
      if inb x3 x4 then
        if (decide ((gt x2 x4) > (gt x3 x4))) then
          some (.done (.inr (-1)))
        else
          if inb x2 x4 then
            if inb x3 x4 then
              if (decide ((gt x2 x4) < (gt x3 x4))) then
                some (.done (.inr 1))
              else
                some (.next (W (x4 - 1)))
            else none
          else none
      else none
    else none
  else
    some (.done (.inl ()))
def m_ref18_Ahead (fuel : Nat) (p0 : (List MTerm)) (p1 : (List Int)) (p2 : (List Int)) (p3 : Bool) : Option (Int) :=
  Option.bind (m_ref18_two fuel p0 p1 p2 p3) fun x1 =>
  if (decide (x1.2.2.1 < 0)) then
    some 0
  else
    Option.bind (m_ref18_lows fuel x1.1 x1.2.2.1 x1.2.2.2) fun x2 =>
      Option.bind (m_ref18_lows fuel x1.2.1 x1.2.2.1 x1.2.2.2) fun x3 =>
        Option.bind (iter (m_ref18_Ahead_l1 fuel x1 x2 x3) fuel (W ((x2.length : Int) - 1))) fun t1 => match t1 with
        | .inl _ =>
          if inb x1.1 x1.2.2.1 then
            if inb (gt x1.1 x1.2.2.1) x1.2.2.2 then
              if inb x1.2.1 x1.2.2.1 then
                if inb (gt x1.2.1 x1.2.2.1) x1.2.2.2 then
                  if ((Int.tmod (gt (gt x1.1 x1.2.2.1) x1.2.2.2) 2) != (Int.tmod (gt (gt x1.2.1 x1.2.2.1) x1.2.2.2) 2)) then
                    some (W ((Int.tmod (gt (gt x1.1 x1.2.2.1) x1.2.2.2) 2) - (Int.tmod (gt (gt x1.2.1 x1.2.2.1) x1.2.2.2) 2)))
                  else
                    if (decide ((gt (gt x1.1 x1.2.2.1) x1.2.2.2) < (gt (gt x1.2.1 x1.2.2.1) x1.2.2.2))) then
                      some (-1)
                    else
                      some 1
                else none
              else none
            else none
          else none
        | .inr r1 => some r1
def m_law18_TraceAhead (fuel : Nat) (p0 : (List MTerm)) (p1 : MGimletlaw18Two) (p2 : Bool) : Option (Bool) :=
  Option.bind ((
  Option.bind (m_law18_few fuel p0 p1.A) fun x2 =>
    if (!x2) then
      some true
    else
      some (decide ((p1.B.length : Int) > 16))) : Option (Bool)) fun x1 =>
  if x1 then
    Option.bind (m_law18_sure fuel ) fun x3 =>
      some x3
  else
    Option.bind (m_trace_Lows fuel p0 p1.A p1.B p2) fun x4 =>
      Option.bind (m_ref18_Lows fuel p0 p1.A p1.B p2) fun x5 =>
        Option.bind ((
          Option.bind (m_ref06_Ints fuel x4.1 x5.1) fun x7 =>
            if x7 then
              Option.bind (m_ref06_Ints fuel x4.2 x5.2) fun x8 =>
                if x8 then
                  Option.bind (m_trace_Ahead fuel p0 p1.A p1.B p2) fun x9 =>
                    Option.bind (m_ref18_Ahead fuel p0 p1.A p1.B p2) fun x10 =>
                      if (x9 == x10) then
                        Option.bind (m_law18_sure fuel ) fun x11 =>
                          some x11
                      else
                        some false
                else
                  some false
            else
              some false) : Option (Bool)) fun x6 =>
          some x6
end Go.Proofs.Ytfhehbfifffipaa
