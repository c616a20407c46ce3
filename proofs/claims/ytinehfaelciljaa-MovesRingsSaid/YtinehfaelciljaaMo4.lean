/- What a law and its own functions compute, over plain data. Its conditions: none. -/
import Derived.Test.YtinehfaelciljaaMo
set_option maxRecDepth 20000
set_option autoImplicit false
namespace Go.Proofs.Ytinehfaelciljaa
open Go.V Go.RowKit
set_option linter.unusedVariables false
def m_law27_MovesRings_l1 (fuel : Nat) (p0 : Int) (p1 : Int) (s_ : List MMove × List MMove × Int) : Option (Ctl (List MMove × List MMove × Int) (List MMove × List MMove)) :=
  let (x1, x2, x3) := s_
  if (decide (x3 < (Int.tmod (W (p0)) 20))) then
    if (Int.tmod (W (p0)) 20) != 0 then
      if apOk 16 x1 [(⟨(W ((Int.tmod (W (p1)) 50) + x3)), (W ((Int.tmod (W (p1)) 50) + (Int.tmod (W (x3 + 1)) (Int.tmod (W (p0)) 20))))⟩ : MMove)] then
        if apOk 16 x2 [(⟨(W ((Int.tmod (W (p1)) 50) + x3)), (W ((W ((Int.tmod (W (p1)) 50) + (Int.tmod (W (p0)) 20))) + x3))⟩ : MMove)] then
          some (.next ((x1 ++ [(⟨(W ((Int.tmod (W (p1)) 50) + x3)), (W ((Int.tmod (W (p1)) 50) + (Int.tmod (W (x3 + 1)) (Int.tmod (W (p0)) 20))))⟩ : MMove)]), (x2 ++ [(⟨(W ((Int.tmod (W (p1)) 50) + x3)), (W ((W ((Int.tmod (W (p1)) 50) + (Int.tmod (W (p0)) 20))) + x3))⟩ : MMove)]), (W (x3 + 1))))
        else none
      else none
    else none
  else
    some (.done (x1, x2))
def m_law27_MovesRings_l2 (fuel : Nat) (p0 : Int) (p1 : Int) (y1 : List MMove) (x6 : (List MMove) × Int) (s_ : List Int × Int) : Option (Ctl (List Int × Int) (List Int)) :=
  let (x9, x10) := s_
  if (decide (x10 < (x9.length : Int))) then
    if inb x9 x10 then
      some (.next ((x9.set (Int.toNat x10) (W (7 * x10))), (W (x10 + 1))))
    else none
  else
    some (.done x9)
def m_law27_MovesRings_l3 (fuel : Nat) (x11 : (List Int)) (x12 : (List Int)) (p0 : Int) (p1 : Int) (s_ : Int) : Option (Ctl (Int) ((Unit) ⊕ (Bool))) :=
  let x14 := s_
  if (decide (x14 < (Int.tmod (W (p0)) 20))) then
    Option.bind ((
      if inb x11 (W ((Int.tmod (W (p1)) 50) + x14)) then
        if (Int.tmod (W (p0)) 20) != 0 then
          if ((gt x11 (W ((Int.tmod (W (p1)) 50) + x14))) != (W (7 * (W ((Int.tmod (W (p1)) 50) + (Int.tmod (W (x14 + 1)) (Int.tmod (W (p0)) 20))))))) then
            some true
          else
            if inb x12 (W ((Int.tmod (W (p1)) 50) + x14)) then
              if inb x11 (W ((Int.tmod (W (p1)) 50) + x14)) then
                some ((gt x12 (W ((Int.tmod (W (p1)) 50) + x14))) != (gt x11 (W ((Int.tmod (W (p1)) 50) + x14))))
              else none
            else none
        else none
      else none) : Option (Bool)) fun x15 =>
      if x15 then
        some (.done (.inr false))
      else
        some (.next (W (x14 + 1)))
  else
    some (.done (.inl ()))
def m_law27_MovesRings (fuel : Nat) (p0 : Int) (p1 : Int) : Option (Bool) :=
  Option.bind (iter (m_law27_MovesRings_l1 fuel p0 p1) fuel (([] : List MMove), ([] : List MMove), 0)) fun t1 => match t1 with
| (y1, y2) =>
  Option.bind (m_moves_Least fuel y1) fun x4 =>
    Option.bind (m_moves_Least fuel y2) fun x5 =>
      Option.bind (m_moves_Order fuel y1 (W ((Int.tmod (W (p1)) 50) + (W (2 * (Int.tmod (W (p0)) 20)))))) fun x6 =>
        Option.bind ((
          if (decide ((Int.tmod (W (p0)) 20) < 2)) then
            some 0
          else
            some (W ((Int.tmod (W (p0)) 20) + 1))) : Option (Int)) fun x7 =>
          Option.bind ((
            if (x4.2 != 0) then
              some true
            else
              if (x5.2 != 0) then
                some true
              else
                if (x6.2 != 0) then
                  some true
                else
                  if (x4.1 != x7) then
                    some true
                  else
                    if (x5.1 != (Int.tmod (W (p0)) 20)) then
                      some true
                    else
                      some ((x6.1.length : Int) != x7)) : Option (Bool)) fun x8 =>
            if x8 then
              some false
            else
              if mkOk 8 (W ((W ((Int.tmod (W (p1)) 50) + (W (2 * (Int.tmod (W (p0)) 20))))) + 1)) then
                Option.bind (iter (m_law27_MovesRings_l2 fuel p0 p1 y1 x6) fuel ((List.replicate (Int.toNat (W ((W ((Int.tmod (W (p1)) 50) + (W (2 * (Int.tmod (W (p0)) 20))))) + 1))) (0 : Int)), 0)) fun y3 =>
                  Option.bind (m_moves_Apply fuel y3 x6.1 1) fun x11 =>
                    Option.bind (m_moves_Once fuel y3 y1 1) fun x12 =>
                      Option.bind ((
                        if ((x11.length : Int) != (y3.length : Int)) then
                          some true
                        else
                          some ((x12.length : Int) != (y3.length : Int))) : Option (Bool)) fun x13 =>
                        if x13 then
                          some false
                        else
                          Option.bind (iter (m_law27_MovesRings_l3 fuel x11 x12 p0 p1) fuel 0) fun t3 => match t3 with
                          | .inl _ =>
                            Option.bind (m_law27_sure fuel ) fun x16 =>
                              some x16
                          | .inr r1 => some r1
              else none
end Go.Proofs.Ytinehfaelciljaa
