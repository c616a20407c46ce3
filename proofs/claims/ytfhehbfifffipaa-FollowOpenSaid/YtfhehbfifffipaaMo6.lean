/- What a law and its own functions compute, over plain data. Its conditions: none. -/
import Derived.Test.YtfhehbfifffipaaMo
set_option maxRecDepth 20000
set_option autoImplicit false
namespace Go.Proofs.Ytfhehbfifffipaa
open Go.V Go.RowKit
set_option linter.unusedVariables false
def m_law17_above_l1 (fuel : Nat) (p0 : (List Int)) (p1 : Int) (s_ : Int × List Int) : Option (Ctl (Int × List Int) (List Int)) :=
  let (x1, x2) := s_
  if (decide (x1 ≥ 0)) then
    if apOk 8 [x1] x2 then
      if inb p0 x1 then
        some (.next ((gt p0 x1), ([x1] ++ x2)))
      else none
    else none
  else
    some (.done x2)
def m_law17_above (fuel : Nat) (p0 : (List Int)) (p1 : Int) : Option ((List Int)) :=
  Option.bind (iter (m_law17_above_l1 fuel p0 p1) fuel (p1, ([] : List Int))) fun y1 =>
  some y1
def m_slices_Clone_int_int (fuel : Nat) (p0 : (List Int)) : Option (List Int) :=
  if apOk 8 ([] : (List Int)) p0 then some p0 else none
def m_follow_Nested_l1 (fuel : Nat) (p0 : (List MTerm)) (x2 : (List Int)) (p2 : (List Int)) (s_ : List Int × Int) : Option (Ctl (List Int × Int) ((List Int) ⊕ ((List Int) × Bool))) :=
  let (x3, x4) := s_
  if (decide (x4 < (p2.length : Int))) then
    Option.bind ((
      if inb p2 x4 then
        Option.bind ((
          Option.bind ((
            if (decide ((gt p2 x4) < 0)) then
              some true
            else
              some (decide ((W (Int.tdiv (gt p2 x4) 2)) ≥ (p0.length : Int)))) : Option (Bool)) fun x7 =>
            if x7 then
              some (.inr (([] : List Int), false))
            else
              if ((Int.tmod (gt p2 x4) 2) == 0) then
                if apOk 8 x3 [(W (Int.tdiv (gt p2 x4) 2))] then
                  some (.inl (x3 ++ [(W (Int.tdiv (gt p2 x4) 2))]))
                else none
              else
                Option.bind ((
                  if ((x3.length : Int) == 0) then
                    some true
                  else
                    if inb x3 (W ((x3.length : Int) - 1)) then
                      some ((gt x3 (W ((x3.length : Int) - 1))) != (W (Int.tdiv (gt p2 x4) 2)))
                    else none) : Option (Bool)) fun x8 =>
                  if x8 then
                    some (.inr (([] : List Int), false))
                  else
                    if slOk x3 0 (W ((x3.length : Int) - 1)) then
                      some (.inl (cutL x3 0 (W ((x3.length : Int) - 1))))
                    else none) : Option ((List Int) ⊕ ((List Int) × Bool))) fun q2 => match q2 with
        | .inl x6 =>
          some (.inl x6)
        | .inr r1 => some (.inr r1)
      else none) : Option ((List Int) ⊕ ((List Int) × Bool))) fun q1 => match q1 with
    | .inl x5 =>
      some (.next (x5, (W (x4 + 1))))
    | .inr r1 => some (.done (.inr r1))
  else
    some (.done (.inl x3))
def m_follow_Nested (fuel : Nat) (p0 : (List MTerm)) (p1 : (List Int)) (p2 : (List Int)) : Option ((List Int) × Bool) :=
  Option.bind (m_term_Right fuel p0) fun x1 =>
  if (!x1) then
    some (([] : List Int), false)
  else
    Option.bind (m_slices_Clone_int_int fuel p1) fun x2 =>
      Option.bind (iter (m_follow_Nested_l1 fuel p0 x2 p2) fuel (x2, 0)) fun t1 => match t1 with
      | .inl y1 =>
        some (y1, true)
      | .inr r1 => some r1
def m_law17_FollowOpen_l1 (fuel : Nat) (p0 : (List MTerm)) (p1 : Int) (x4 : (List Int)) (x5 : (List Int)) (x7 : List MHop) (x8 : List Int) (s_ : Int) : Option (Ctl (Int) ((Unit) ⊕ (Bool))) :=
  let x12 := s_
  if (decide (x12 < (x7.length : Int))) then
    if inb x7 x12 then
      Option.bind ((
        if (decide (((gt x7 x12).To) < 0)) then
          some true
        else
          if (decide (((gt x7 x12).To) ≥ (x4.length : Int))) then
            some true
          else
            if (decide (x12 > 0)) then
              if inb x7 (W (x12 - 1)) then
                some (decide (((gt x7 x12).To) ≤ ((gt x7 (W (x12 - 1))).To)))
              else none
            else
              some false) : Option (Bool)) fun x13 =>
        if x13 then
          some (.done (.inr false))
        else
          Option.bind (m_follow_Nested fuel p0 x8 ((gt x7 x12).Steps)) fun x14 =>
            Option.bind ((
              if (!x14.2) then
                some true
              else
                if inb x4 ((gt x7 x12).To) then
                  Option.bind (m_law17_above fuel x5 (gt x4 ((gt x7 x12).To))) fun x16 =>
                    Option.bind (m_ref06_Ints fuel x14.1 x16) fun x17 =>
                      some (!x17)
                else none) : Option (Bool)) fun x15 =>
              if x15 then
                some (.done (.inr false))
              else
                some (.next (W (x12 + 1)))
    else none
  else
    some (.done (.inl ()))
def m_law17_FollowOpen (fuel : Nat) (p0 : (List MTerm)) (p1 : Int) : Option (Bool) :=
  Option.bind ((
  if (decide ((p0.length : Int) > 60)) then
    some true
  else
    Option.bind (m_ref10_Right fuel p0) fun x2 =>
      some (!x2)) : Option (Bool)) fun x1 =>
  if x1 then
    Option.bind (m_law17_sure fuel ) fun x3 =>
      some x3
  else
    Option.bind (m_ref16_Leaves fuel p0) fun x4 =>
      Option.bind (m_ref10_Up fuel p0) fun x5 =>
        Option.bind (m_follow_First fuel p0 (W ((p0.length : Int) - 1))) fun x6 =>
          Option.bind ((
            Option.bind ((
              if (decide (p1 ≥ 0)) then
                some (decide (p1 < (x4.length : Int)))
              else
                some false) : Option (Bool)) fun x9 =>
              if x9 then
                if inb x4 p1 then
                  Option.bind (m_follow_From fuel p0 p1) fun x10 =>
                    Option.bind (m_law17_above fuel x5 (gt x4 p1)) fun x11 =>
                      some (x10, x11)
                else none
              else
                some (x6, ([] : List Int))) : Option (List MHop × List Int)) fun q2 => match q2 with
          | (x7, x8) =>
            Option.bind (iter (m_law17_FollowOpen_l1 fuel p0 p1 x4 x5 x7 x8) fuel 0) fun t1 => match t1 with
            | .inl _ =>
              Option.bind ((
                if (decide (p1 < 0)) then
                  some true
                else
                  some (decide (p1 ≥ (x4.length : Int)))) : Option (Bool)) fun x18 =>
                if x18 then
                  Option.bind ((
                    Option.bind (m_follow_From fuel p0 p1) fun x20 =>
                      if ((x20.length : Int) == 0) then
                        Option.bind (m_law17_sure fuel ) fun x21 =>
                          some x21
                      else
                        some false) : Option (Bool)) fun x19 =>
                    some x19
                else
                  Option.bind (m_follow_End fuel p0 p1) fun x22 =>
                    if (!x22.2) then
                      Option.bind (m_law17_sure fuel ) fun x23 =>
                        some x23
                    else
                      Option.bind (m_follow_Nested fuel p0 x8 x22.1.Steps) fun x24 =>
                        Option.bind ((
                          if x24.2 then
                            if ((x24.1.length : Int) == 0) then
                              if (x22.1.To == (-1)) then
                                Option.bind (m_law17_sure fuel ) fun x26 =>
                                  some x26
                              else
                                some false
                            else
                              some false
                          else
                            some false) : Option (Bool)) fun x25 =>
                          some x25
            | .inr r1 => some r1
end Go.Proofs.Ytfhehbfifffipaa
