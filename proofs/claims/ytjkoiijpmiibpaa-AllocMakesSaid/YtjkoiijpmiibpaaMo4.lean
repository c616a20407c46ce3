/- What a law and its own functions compute, over plain data. Its conditions: none. -/
import Derived.Test.YtjkoiijpmiibpaaMo
set_option maxRecDepth 20000
set_option autoImplicit false
namespace Go.Proofs.Ytjkoiijpmiibpaa
open Go.V Go.RowKit
set_option linter.unusedVariables false
def m_law28_AllocMakes_l1 (fuel : Nat) (p0 : MDfa) (x3 : MProg × Int) (x7 : (List (List Int)) × Int) (s_ : List Int × Int) : Option (Ctl (List Int × Int) (List Int)) :=
  let (x10, x11) := s_
  if (decide (x11 < (x10.length : Int))) then
    if inb x10 x11 then
      some (.next ((x10.set (Int.toNat x11) (W (1000 + x11))), (W (x11 + 1))))
    else none
  else
    some (.done x10)
def m_law28_AllocMakes_l3 (fuel : Nat) (p0 : MDfa) (x3 : MProg × Int) (x7 : (List (List Int)) × Int) (y1 : List Int) (x12 : Int) (x13 : MState) (x14 : MStand) (s_ : Int) : Option (Ctl (Int) ((Unit) ⊕ (Bool))) :=
  let x16 := s_
  if (decide (x16 < (x13.Accept.length : Int))) then
    if inb x13.Accept x16 then
      Option.bind ((
        if (decide ((gt x13.Accept x16) ≥ 0)) then
          if inb x7.1 x12 then
            if inb (gt x7.1 x12) (gt x13.Accept x16) then
              some (gt (gt x7.1 x12) (gt x13.Accept x16))
            else none
          else none
        else
          some (gt x13.Accept x16)) : Option (Int)) fun x17 =>
        if inb x14.Accept x16 then
          if ((gt x14.Accept x16) != x17) then
            some (.done (.inr false))
          else
            some (.next (W (x16 + 1)))
        else none
    else none
  else
    some (.done (.inl ()))
def m_law28_AllocMakes_l5 (fuel : Nat) (p0 : MDfa) (x3 : MProg × Int) (x7 : (List (List Int)) × Int) (y1 : List Int) (x12 : Int) (x13 : MState) (x14 : MStand) (x18 : Int) (x19 : MEdge) (x20 : MWay) (s_ : List MMove × Int) : Option (Ctl (List MMove × Int) (List MMove)) :=
  let (x21, x22) := s_
  if (decide (x22 < (x19.Src.length : Int))) then
    Option.bind ((
      if inb x19.Src x22 then
        Option.bind ((
          if (decide ((gt x19.Src x22) ≥ 0)) then
            if inb x7.1 x12 then
              if inb (gt x7.1 x12) (gt x19.Src x22) then
                some (gt (gt x7.1 x12) (gt x19.Src x22))
              else none
            else none
          else
            some (gt x19.Src x22)) : Option (Int)) fun x24 =>
          if inb x7.1 x19.To then
            if inb (gt x7.1 x19.To) x22 then
              if (x24 != (gt (gt x7.1 x19.To) x22)) then
                if inb x7.1 x19.To then
                  if inb (gt x7.1 x19.To) x22 then
                    if apOk 16 x21 [(⟨(gt (gt x7.1 x19.To) x22), x24⟩ : MMove)] then
                      some (x21 ++ [(⟨(gt (gt x7.1 x19.To) x22), x24⟩ : MMove)])
                    else none
                  else none
                else none
              else
                some x21
            else none
          else none
      else none) : Option (List MMove)) fun x23 =>
      some (.next (x23, (W (x22 + 1))))
  else
    some (.done x21)
def m_law28_AllocMakes_l6 (fuel : Nat) (p0 : MDfa) (x3 : MProg × Int) (x7 : (List (List Int)) × Int) (y1 : List Int) (x12 : Int) (x13 : MState) (x14 : MStand) (x18 : Int) (x19 : MEdge) (x26 : (List Int)) (s_ : Int) : Option (Ctl (Int) ((Unit) ⊕ (Bool))) :=
  let x28 := s_
  if (decide (x28 < (x19.Src.length : Int))) then
    Option.bind ((
      if inb x19.Src x28 then
        if (decide ((gt x19.Src x28) ≥ 0)) then
          if inb x7.1 x12 then
            if inb x19.Src x28 then
              if inb (gt x7.1 x12) (gt x19.Src x28) then
                some (W (1000 + (gt (gt x7.1 x12) (gt x19.Src x28))))
              else none
            else none
          else none
        else
          some 7
      else none) : Option (Int)) fun x29 =>
      if inb x7.1 x19.To then
        if inb (gt x7.1 x19.To) x28 then
          if inb x26 (gt (gt x7.1 x19.To) x28) then
            if ((gt x26 (gt (gt x7.1 x19.To) x28)) != x29) then
              some (.done (.inr false))
            else
              some (.next (W (x28 + 1)))
          else none
        else none
      else none
  else
    some (.done (.inl ()))
def m_law28_AllocMakes_l4 (fuel : Nat) (p0 : MDfa) (x3 : MProg × Int) (x7 : (List (List Int)) × Int) (y1 : List Int) (x12 : Int) (x13 : MState) (x14 : MStand) (s_ : Int) : Option (Ctl (Int) ((Unit) ⊕ (Bool))) :=
  let x18 := s_
  if (decide (x18 < (x13.Edges.length : Int))) then
    Option.bind ((
      if inb x13.Edges x18 then
        if inb x14.Ways x18 then
          some ((gt x13.Edges x18), (gt x14.Ways x18))
        else none
      else none) : Option (MEdge × MWay)) fun q6 => match q6 with
    | (x19, x20) =>
      Option.bind (iter (m_law28_AllocMakes_l5 fuel p0 x3 x7 y1 x12 x13 x14 x18 x19 x20) fuel (([] : List MMove), 0)) fun y2 =>
        Option.bind (m_ref27_Least fuel y2) fun x25 =>
          Option.bind (m_ref27_Apply fuel y1 x20.Moves 7) fun x26 =>
            Option.bind ((
              if (x19.To != x20.To) then
                some true
              else
                some ((x20.Moves.length : Int) != x25.1)) : Option (Bool)) fun x27 =>
              if x27 then
                some (.done (.inr false))
              else
                Option.bind (iter (m_law28_AllocMakes_l6 fuel p0 x3 x7 y1 x12 x13 x14 x18 x19 x26) fuel 0) fun t6 => match t6 with
                | .inl _ =>
                  some (.next (W (x18 + 1)))
                | .inr r1 => some (.done (.inr r1))
  else
    some (.done (.inl ()))
def m_law28_AllocMakes_l2 (fuel : Nat) (p0 : MDfa) (x3 : MProg × Int) (x7 : (List (List Int)) × Int) (y1 : List Int) (s_ : Int) : Option (Ctl (Int) ((Unit) ⊕ (Bool))) :=
  let x12 := s_
  if (decide (x12 < (x3.1.Stands.length : Int))) then
    Option.bind ((
      if inb p0.States x12 then
        if inb x3.1.Stands x12 then
          some ((gt p0.States x12), (gt x3.1.Stands x12))
        else none
      else none) : Option (MState × MStand)) fun q3 => match q3 with
    | (x13, x14) =>
      Option.bind ((
        if ((x13.Accept.length : Int) != (x14.Accept.length : Int)) then
          some true
        else
          some ((x13.Edges.length : Int) != (x14.Ways.length : Int))) : Option (Bool)) fun x15 =>
        if x15 then
          some (.done (.inr false))
        else
          Option.bind (iter (m_law28_AllocMakes_l3 fuel p0 x3 x7 y1 x12 x13 x14) fuel 0) fun t3 => match t3 with
          | .inl _ =>
            Option.bind (iter (m_law28_AllocMakes_l4 fuel p0 x3 x7 y1 x12 x13 x14) fuel 0) fun t4 => match t4 with
            | .inl _ =>
              some (.next (W (x12 + 1)))
            | .inr r1 => some (.done (.inr r1))
          | .inr r1 => some (.done (.inr r1))
  else
    some (.done (.inl ()))
def m_law28_AllocMakes (fuel : Nat) (p0 : MDfa) : Option (Bool) :=
  Option.bind (m_law24_Small fuel p0) fun x1 =>
  if (!x1) then
    Option.bind (m_law28_sure fuel ) fun x2 =>
      some x2
  else
    Option.bind (m_alloc_Make fuel p0) fun x3 =>
      Option.bind (m_ref24_Right fuel p0) fun x4 =>
        if (!x4) then
          Option.bind ((
            if (x3.2 == 11) then
              if ((x3.1.Stands.length : Int) == 0) then
                Option.bind (m_law28_sure fuel ) fun x6 =>
                  some x6
              else
                some false
            else
              some false) : Option (Bool)) fun x5 =>
            some x5
        else
          Option.bind (m_ref28_Homes fuel p0) fun x7 =>
            Option.bind ((
              if (x3.2 != 0) then
                some true
              else
                Option.bind (m_ref28_Right fuel x3.1) fun x9 =>
                  if (!x9) then
                    some true
                  else
                    if (x3.1.Regs != (W (x7.2 + 1))) then
                      some true
                    else
                      if ((x3.1.Stands.length : Int) != (p0.States.length : Int)) then
                        some true
                      else
                        some (x3.1.Tags != p0.Tags)) : Option (Bool)) fun x8 =>
              if x8 then
                some false
              else
                if mkOk 8 x3.1.Regs then
                  Option.bind (iter (m_law28_AllocMakes_l1 fuel p0 x3 x7) fuel ((List.replicate (Int.toNat x3.1.Regs) (0 : Int)), 0)) fun y1 =>
                    Option.bind (iter (m_law28_AllocMakes_l2 fuel p0 x3 x7 y1) fuel 0) fun t2 => match t2 with
                    | .inl _ =>
                      Option.bind (m_law28_sure fuel ) fun x30 =>
                        some x30
                    | .inr r1 => some r1
                else none
end Go.Proofs.Ytjkoiijpmiibpaa
