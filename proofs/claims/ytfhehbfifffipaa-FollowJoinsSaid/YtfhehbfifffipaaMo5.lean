/- What a law and its own functions compute, over plain data. Its conditions: none. -/
import Derived.Test.YtfhehbfifffipaaMo
set_option maxRecDepth 20000
set_option autoImplicit false
namespace Go.Proofs.Ytfhehbfifffipaa
open Go.V Go.RowKit
set_option linter.unusedVariables false
def m_law17_way_l1 (fuel : Nat) (p0 : (List MHop)) (p1 : Int) (s_ : MHop × Int) : Option (Ctl (MHop × Int) ((MHop) ⊕ (MHop × Bool))) :=
  let (x1, x2) := s_
  if (decide (x2 < (p0.length : Int))) then
    if inb p0 x2 then
      if (((gt p0 x2).To) == p1) then
        if inb p0 x2 then
          some (.done (.inr ((gt p0 x2), true)))
        else none
      else
        some (.next (x1, (W (x2 + 1))))
    else none
  else
    some (.done (.inl x1))
def m_law17_way (fuel : Nat) (p0 : (List MHop)) (p1 : Int) : Option (MHop × Bool) :=
  Option.bind (iter (m_law17_way_l1 fuel p0 p1) fuel ((⟨(0 : Int), (0 : Int), []⟩ : MHop), 0)) fun t1 => match t1 with
| .inl y1 =>
  some ((⟨(0 : Int), (0 : Int), []⟩ : MHop), false)
| .inr r1 => some r1
def m_law17_FollowJoins_l1 (fuel : Nat) (p0 : (List MTerm)) (p2 : (List MEntry)) (x4 : (List Int)) (s_ : Int × Int) : Option (Ctl (Int × Int) ((Int) ⊕ (Bool))) :=
  let (x5, x6) := s_
  if (decide (x6 < (p2.length : Int))) then
    Option.bind ((
      if inb p2 x6 then
        if inb p0 ((gt p2 x6).Node) then
          if (((gt p0 ((gt p2 x6).Node)).Kind) != 2) then
            some (.inl x5)
          else
            Option.bind (m_follow_First fuel p0 (W ((p0.length : Int) - 1))) fun x8 =>
              Option.bind ((
                if (decide (x5 ≥ 0)) then
                  Option.bind (m_follow_From fuel p0 x5) fun x10 =>
                    some x10
                else
                  some x8) : Option (List MHop)) fun x9 =>
                if inb p2 x6 then
                  if inb x4 ((gt p2 x6).Node) then
                    Option.bind (m_law17_way fuel x9 (gt x4 ((gt p2 x6).Node))) fun x11 =>
                      if (!x11.2) then
                        some (.inr false)
                      else
                        if inb p2 x6 then
                          if inb x4 ((gt p2 x6).Node) then
                            some (.inl (gt x4 ((gt p2 x6).Node)))
                          else none
                        else none
                  else none
                else none
        else none
      else none) : Option ((Int) ⊕ (Bool))) fun q2 => match q2 with
    | .inl x7 =>
      some (.next (x7, (W (x6 + 1))))
    | .inr r1 => some (.done (.inr r1))
  else
    some (.done (.inl x5))
def m_law17_FollowJoins (fuel : Nat) (p0 : (List MTerm)) (p1 : (List Int)) (p2 : (List MEntry)) : Option (Bool) :=
  Option.bind ((
  if (decide ((p0.length : Int) > 60)) then
    some true
  else
    if (decide ((p1.length : Int) > 60)) then
      some true
    else
      Option.bind (m_ref14_Right fuel p0 p1 p2) fun x2 =>
        some (!x2)) : Option (Bool)) fun x1 =>
  if x1 then
    Option.bind (m_law17_sure fuel ) fun x3 =>
      some x3
  else
    Option.bind (m_ref16_Index fuel p0) fun x4 =>
      Option.bind (iter (m_law17_FollowJoins_l1 fuel p0 p2 x4) fuel ((-1), 0)) fun t1 => match t1 with
      | .inl y1 =>
        Option.bind (m_follow_End fuel p0 y1) fun x12 =>
          Option.bind ((
            if x12.2 then
              Option.bind (m_law17_sure fuel ) fun x14 =>
                some x14
            else
              some false) : Option (Bool)) fun x13 =>
            some x13
      | .inr r1 => some r1
end Go.Proofs.Ytfhehbfifffipaa
