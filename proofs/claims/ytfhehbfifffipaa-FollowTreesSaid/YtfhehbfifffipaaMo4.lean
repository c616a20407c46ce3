/- What a law and its own functions compute, over plain data. Its conditions: none. -/
import Derived.Test.YtfhehbfifffipaaMo
set_option maxRecDepth 20000
set_option autoImplicit false
namespace Go.Proofs.Ytfhehbfifffipaa
open Go.V Go.RowKit
set_option linter.unusedVariables false
def m_law17_FollowTrees_l1 (fuel : Nat) (p0 : (List MTerm)) (p1 : (List Int)) (x4 : (List Int)) (s_ : List (List Int) × List Int × Int × Int) : Option (Ctl (List (List Int) × List Int × Int × Int) ((List (List Int) × List Int × Int) ⊕ (Bool))) :=
  let (x5, x6, x7, x8) := s_
  if (decide (x8 < (p1.length : Int))) then
    Option.bind (m_follow_First fuel p0 (W ((p0.length : Int) - 1))) fun x9 =>
      Option.bind ((
        if (decide (x7 ≥ 0)) then
          Option.bind (m_follow_From fuel p0 x7) fun x11 =>
            some x11
        else
          some x9) : Option (List MHop)) fun x10 =>
        if ((x10.length : Int) == 0) then
          some (.done (.inl (x5, x6, x7)))
        else
          if inb p1 x8 then
            if (x10.length : Int) != 0 then
              if inb x10 (Int.tmod (W ((gt p1 x8))) (x10.length : Int)) then
                Option.bind ((
                  if (decide (((gt x10 (Int.tmod (W ((gt p1 x8))) (x10.length : Int))).To) < 0)) then
                    some true
                  else
                    some (decide (((gt x10 (Int.tmod (W ((gt p1 x8))) (x10.length : Int))).To) ≥ (x4.length : Int)))) : Option (Bool)) fun x12 =>
                  if x12 then
                    some (.done (.inr false))
                  else
                    if inb x4 ((gt x10 (Int.tmod (W ((gt p1 x8))) (x10.length : Int))).To) then
                      if inb p0 (gt x4 ((gt x10 (Int.tmod (W ((gt p1 x8))) (x10.length : Int))).To)) then
                        if inb p1 x8 then
                          if inbN 4 (W (Int.tdiv (W ((gt p1 x8))) 64)) then
                            if inb p1 x8 then
                              if decide (0 ≤ (Int.tmod (gt p1 x8) 64)) then
                                if ((band .u64 (shr .u64 (gt ((gt p0 (gt x4 ((gt x10 (Int.tmod (W ((gt p1 x8))) (x10.length : Int))).To))).Set) (W (Int.tdiv (W ((gt p1 x8))) 64))) (Int.tmod (gt p1 x8) 64)) 1) == 0) then
                                  some (.done (.inl (x5, x6, x7)))
                                else
                                  if apOk 24 x5 [(gt x10 (Int.tmod (W ((gt p1 x8))) (x10.length : Int))).Steps] then
                                    if inb p1 x8 then
                                      if apOk 1 x6 [(gt p1 x8)] then
                                        some (.next ((x5 ++ [(gt x10 (Int.tmod (W ((gt p1 x8))) (x10.length : Int))).Steps]), (x6 ++ [(gt p1 x8)]), (gt x10 (Int.tmod (W ((gt p1 x8))) (x10.length : Int))).To, (W (x8 + 1))))
                                      else none
                                    else none
                                  else none
                              else none
                            else none
                          else none
                        else none
                      else none
                    else none
              else none
            else none
          else none
  else
    some (.done (.inl (x5, x6, x7)))
def m_law17_FollowTrees (fuel : Nat) (p0 : (List MTerm)) (p1 : (List Int)) : Option (Bool) :=
  Option.bind ((
  if (decide ((p0.length : Int) > 60)) then
    some true
  else
    Option.bind (m_ref10_Right fuel p0) fun x2 =>
      if (!x2) then
        some true
      else
        some (decide ((p1.length : Int) > 24))) : Option (Bool)) fun x1 =>
  if x1 then
    Option.bind (m_law17_sure fuel ) fun x3 =>
      some x3
  else
    Option.bind (m_ref16_Leaves fuel p0) fun x4 =>
      Option.bind (iter (m_law17_FollowTrees_l1 fuel p0 p1 x4) fuel (([] : List (List Int)), ([] : List Int), (-1), 0)) fun t1 => match t1 with
      | .inl (y1, y2, y3) =>
        Option.bind (m_follow_End fuel p0 y3) fun x13 =>
          if (!x13.2) then
            Option.bind (m_law17_sure fuel ) fun x14 =>
              some x14
          else
            if apOk 24 y1 [x13.1.Steps] then
              Option.bind (m_ref14_Of fuel (y1 ++ [x13.1.Steps])) fun x15 =>
                Option.bind ((
                  if x15.2 then
                    Option.bind (m_ref14_Right fuel p0 y2 x15.1) fun x17 =>
                      if x17 then
                        Option.bind (m_law17_sure fuel ) fun x18 =>
                          some x18
                      else
                        some false
                  else
                    some false) : Option (Bool)) fun x16 =>
                  some x16
            else none
      | .inr r1 => some r1
end Go.Proofs.Ytfhehbfifffipaa
