/- What a law and its own functions compute, over plain data. Its conditions: none. -/
import Derived.Test.YtjkoiijpmiibpaaGreatMo
set_option maxRecDepth 20000
set_option autoImplicit false
namespace Go.Proofs.YtjkoiijpmiibpaaGreat
open Go.V Go.RowKit
set_option linter.unusedVariables false
def m_law28_Small_l2 (fuel : Nat) (p0 : MProg) (x2 : Int) (s_ : Int) : Option (Ctl (Int) ((Unit) ⊕ (Bool))) :=
  let x4 := s_
  if (decide (x4 < (((gt p0.Stands x2).Ways).length : Int))) then
    if inb ((gt p0.Stands x2).Ways) x4 then
      if (decide ((((gt ((gt p0.Stands x2).Ways) x4).Moves).length : Int) > 1300)) then
        some (.done (.inr false))
      else
        some (.next (W (x4 + 1)))
    else none
  else
    some (.done (.inl ()))
def m_law28_Small_l1 (fuel : Nat) (p0 : MProg) (s_ : Int) : Option (Ctl (Int) ((Unit) ⊕ (Bool))) :=
  let x2 := s_
  if (decide (x2 < (p0.Stands.length : Int))) then
    if inb p0.Stands x2 then
      Option.bind ((
        if (decide ((((gt p0.Stands x2).Accept).length : Int) > 40)) then
          some true
        else
          some (decide ((((gt p0.Stands x2).Ways).length : Int) > 300))) : Option (Bool)) fun x3 =>
        if x3 then
          some (.done (.inr false))
        else
          Option.bind (iter (m_law28_Small_l2 fuel p0 x2) fuel 0) fun t2 => match t2 with
          | .inl _ =>
            some (.next (W (x2 + 1)))
          | .inr r1 => some (.done (.inr r1))
    else none
  else
    some (.done (.inl ()))
def m_law28_Small (fuel : Nat) (p0 : MProg) : Option (Bool) :=
  Option.bind ((
  if (decide ((p0.Stands.length : Int) > 60)) then
    some true
  else
    if (decide ((p0.Class.length : Int) > 300)) then
      some true
    else
      some (decide (p0.Regs > 600))) : Option (Bool)) fun x1 =>
  if x1 then
    some false
  else
    Option.bind (iter (m_law28_Small_l1 fuel p0) fuel 0) fun t1 => match t1 with
    | .inl _ =>
      some true
    | .inr r1 => some r1
def m_ref28_way_l1 (fuel : Nat) (p0 : MProg) (p1 : MWay) (s_ : Int) : Option (Ctl (Int) ((Unit) ⊕ (Bool))) :=
  let x2 := s_
  if (decide (x2 < (p1.Moves.length : Int))) then
    if inb p1.Moves x2 then
      Option.bind ((
        if (decide (((gt p1.Moves x2).To) < 0)) then
          some true
        else
          if (decide (((gt p1.Moves x2).To) ≥ p0.Regs)) then
            some true
          else
            if (decide (((gt p1.Moves x2).From) < (-1))) then
              some true
            else
              if (decide (((gt p1.Moves x2).From) ≥ p0.Regs)) then
                some true
              else
                some (((gt p1.Moves x2).From) == ((gt p1.Moves x2).To))) : Option (Bool)) fun x3 =>
        if x3 then
          some (.done (.inr false))
        else
          some (.next (W (x2 + 1)))
    else none
  else
    some (.done (.inl ()))
def m_ref28_way (fuel : Nat) (p0 : MProg) (p1 : MWay) : Option (Bool) :=
  Option.bind ((
  if (decide (p1.To < (-1))) then
    some true
  else
    if (decide (p1.To ≥ (p0.Stands.length : Int))) then
      some true
    else
      if (p1.To == (-1)) then
        if (decide ((p1.Moves.length : Int) > 0)) then
          some true
        else
          some (decide ((p1.Moves.length : Int) > (W (2 * p0.Regs))))
      else
        some (decide ((p1.Moves.length : Int) > (W (2 * p0.Regs))))) : Option (Bool)) fun x1 =>
  if x1 then
    some false
  else
    Option.bind (iter (m_ref28_way_l1 fuel p0 p1) fuel 0) fun t1 => match t1 with
    | .inl _ =>
      some true
    | .inr r1 => some r1
def m_ref28_Right_l2 (fuel : Nat) (p0 : MProg) (x3 : (List Int)) (x4 : Int) (s_ : Int) : Option (Ctl (Int) ((Unit) ⊕ (Bool))) :=
  let x6 := s_
  if (decide (x6 < (((gt p0.Stands x4).Accept).length : Int))) then
    Option.bind ((
      if inb ((gt p0.Stands x4).Accept) x6 then
        if (decide ((gt ((gt p0.Stands x4).Accept) x6) < (-2))) then
          some true
        else
          if inb ((gt p0.Stands x4).Accept) x6 then
            some (decide ((gt ((gt p0.Stands x4).Accept) x6) ≥ p0.Regs))
          else none
      else none) : Option (Bool)) fun x7 =>
      if x7 then
        some (.done (.inr false))
      else
        some (.next (W (x6 + 1)))
  else
    some (.done (.inl ()))
def m_ref28_Right_l3 (fuel : Nat) (p0 : MProg) (x3 : (List Int)) (x4 : Int) (s_ : Int) : Option (Ctl (Int) ((Unit) ⊕ (Bool))) :=
  let x8 := s_
  if (decide (x8 < (x3.length : Int))) then
    if inb ((gt p0.Stands x4).Ways) x8 then
      Option.bind (m_ref28_way fuel p0 (gt ((gt p0.Stands x4).Ways) x8)) fun x9 =>
        if (!x9) then
          some (.done (.inr false))
        else
          some (.next (W (x8 + 1)))
    else none
  else
    some (.done (.inl ()))
def m_ref28_Right_l1 (fuel : Nat) (p0 : MProg) (x3 : (List Int)) (s_ : Int) : Option (Ctl (Int) ((Unit) ⊕ (Bool))) :=
  let x4 := s_
  if (decide (x4 < (p0.Stands.length : Int))) then
    if inb p0.Stands x4 then
      Option.bind ((
        if ((((gt p0.Stands x4).Accept).length : Int) != 0) then
          if ((((gt p0.Stands x4).Accept).length : Int) != p0.Tags) then
            some true
          else
            some ((((gt p0.Stands x4).Ways).length : Int) != (x3.length : Int))
        else
          some ((((gt p0.Stands x4).Ways).length : Int) != (x3.length : Int))) : Option (Bool)) fun x5 =>
        if x5 then
          some (.done (.inr false))
        else
          Option.bind (iter (m_ref28_Right_l2 fuel p0 x3 x4) fuel 0) fun t2 => match t2 with
          | .inl _ =>
            Option.bind (iter (m_ref28_Right_l3 fuel p0 x3 x4) fuel 0) fun t3 => match t3 with
            | .inl _ =>
              some (.next (W (x4 + 1)))
            | .inr r1 => some (.done (.inr r1))
          | .inr r1 => some (.done (.inr r1))
    else none
  else
    some (.done (.inl ()))
def m_ref28_Right (fuel : Nat) (p0 : MProg) : Option (Bool) :=
  Option.bind ((
  if (decide (p0.Tags < 1)) then
    some true
  else
    if (decide (p0.Tags > 19)) then
      some true
    else
      if ((Int.tmod p0.Tags 2) == 0) then
        some true
      else
        if (decide (p0.Regs < 1)) then
          some true
        else
          if (decide (p0.Regs > 1217)) then
            some true
          else
            if (decide ((p0.Stands.length : Int) < 1)) then
              some true
            else
              if (decide ((p0.Stands.length : Int) > 400)) then
                some true
              else
                Option.bind (m_ref13_Right fuel p0.Class) fun x2 =>
                  some (!x2)) : Option (Bool)) fun x1 =>
  if x1 then
    some false
  else
    Option.bind (m_ref13_Least fuel p0.Class) fun x3 =>
      Option.bind (iter (m_ref28_Right_l1 fuel p0 x3) fuel 0) fun t1 => match t1 with
      | .inl _ =>
        some true
      | .inr r1 => some r1
def m_ref28_sameWay_l1 (fuel : Nat) (p0 : MWay) (p1 : MWay) (s_ : Int) : Option (Ctl (Int) ((Unit) ⊕ (Bool))) :=
  let x2 := s_
  if (decide (x2 < (p0.Moves.length : Int))) then
    if inb p0.Moves x2 then
      if inb p1.Moves x2 then
        if (!((((gt p0.Moves x2).To) == ((gt p1.Moves x2).To)) && (((gt p0.Moves x2).From) == ((gt p1.Moves x2).From)))) then
          some (.done (.inr false))
        else
          some (.next (W (x2 + 1)))
      else none
    else none
  else
    some (.done (.inl ()))
def m_ref28_sameWay (fuel : Nat) (p0 : MWay) (p1 : MWay) : Option (Bool) :=
  Option.bind ((
  if (p0.To != p1.To) then
    some true
  else
    some ((p0.Moves.length : Int) != (p1.Moves.length : Int))) : Option (Bool)) fun x1 =>
  if x1 then
    some false
  else
    Option.bind (iter (m_ref28_sameWay_l1 fuel p0 p1) fuel 0) fun t1 => match t1 with
    | .inl _ =>
      some true
    | .inr r1 => some r1
def m_ref28_Same_l2 (fuel : Nat) (p0 : MProg) (p1 : MProg) (x3 : Int) (x4 : MStand) (x5 : MStand) (s_ : Int) : Option (Ctl (Int) ((Unit) ⊕ (Bool))) :=
  let x8 := s_
  if (decide (x8 < (x4.Ways.length : Int))) then
    if inb x4.Ways x8 then
      if inb x5.Ways x8 then
        Option.bind (m_ref28_sameWay fuel (gt x4.Ways x8) (gt x5.Ways x8)) fun x9 =>
          if (!x9) then
            some (.done (.inr false))
          else
            some (.next (W (x8 + 1)))
      else none
    else none
  else
    some (.done (.inl ()))
def m_ref28_Same_l1 (fuel : Nat) (p0 : MProg) (p1 : MProg) (s_ : Int) : Option (Ctl (Int) ((Unit) ⊕ (Bool))) :=
  let x3 := s_
  if (decide (x3 < (p0.Stands.length : Int))) then
    Option.bind ((
      if inb p0.Stands x3 then
        if inb p1.Stands x3 then
          some ((gt p0.Stands x3), (gt p1.Stands x3))
        else none
      else none) : Option (MStand × MStand)) fun q2 => match q2 with
    | (x4, x5) =>
      Option.bind ((
        Option.bind (m_ref06_Ints fuel x4.Accept x5.Accept) fun x7 =>
          if (!x7) then
            some true
          else
            some ((x4.Ways.length : Int) != (x5.Ways.length : Int))) : Option (Bool)) fun x6 =>
        if x6 then
          some (.done (.inr false))
        else
          Option.bind (iter (m_ref28_Same_l2 fuel p0 p1 x3 x4 x5) fuel 0) fun t2 => match t2 with
          | .inl _ =>
            some (.next (W (x3 + 1)))
          | .inr r1 => some (.done (.inr r1))
  else
    some (.done (.inl ()))
def m_ref28_Same (fuel : Nat) (p0 : MProg) (p1 : MProg) : Option (Bool) :=
  Option.bind ((
  if (p0.Tags != p1.Tags) then
    some true
  else
    if (p0.Regs != p1.Regs) then
      some true
    else
      Option.bind (m_ref06_Ints fuel p0.Class p1.Class) fun x2 =>
        if (!x2) then
          some true
        else
          some ((p0.Stands.length : Int) != (p1.Stands.length : Int))) : Option (Bool)) fun x1 =>
  if x1 then
    some false
  else
    Option.bind (iter (m_ref28_Same_l1 fuel p0 p1) fuel 0) fun t1 => match t1 with
    | .inl _ =>
      some true
    | .inr r1 => some r1
def m_ref28_accept_l1 (fuel : Nat) (p0 : MGimletref28Run) (s_ : MGimletref28Run × Int) : Option (Ctl (MGimletref28Run × Int) (MGimletref28Run)) :=
  let (x2, x3) := s_
  if (decide (x3 < (((gt p0.P.Stands p0.Stand).Accept).length : Int))) then
    Option.bind ((
      Option.bind ((
        if inb ((gt p0.P.Stands p0.Stand).Accept) x3 then
          if ((gt ((gt p0.P.Stands p0.Stand).Accept) x3) == (-1)) then
            if apOk 8 x2.Tags [x2.At] then
              some (⟨x2.P, x2.At, x2.Stand, x2.Regs, (x2.Tags ++ [x2.At]), x2.To, x2.Is, x2.Work⟩ : MGimletref28Run)
            else none
          else
            if inb ((gt p0.P.Stands p0.Stand).Accept) x3 then
              if ((gt ((gt p0.P.Stands p0.Stand).Accept) x3) == (-2)) then
                if apOk 8 x2.Tags [(-1)] then
                  some (⟨x2.P, x2.At, x2.Stand, x2.Regs, (x2.Tags ++ [(-1)]), x2.To, x2.Is, x2.Work⟩ : MGimletref28Run)
                else none
              else
                if inb ((gt p0.P.Stands p0.Stand).Accept) x3 then
                  if inb x2.Regs (gt ((gt p0.P.Stands p0.Stand).Accept) x3) then
                    if apOk 8 x2.Tags [(gt x2.Regs (gt ((gt p0.P.Stands p0.Stand).Accept) x3))] then
                      some (⟨x2.P, x2.At, x2.Stand, x2.Regs, (x2.Tags ++ [(gt x2.Regs (gt ((gt p0.P.Stands p0.Stand).Accept) x3))]), x2.To, x2.Is, x2.Work⟩ : MGimletref28Run)
                    else none
                  else none
                else none
            else none
        else none) : Option (MGimletref28Run)) fun x5 =>
        some x5) : Option (MGimletref28Run)) fun x4 =>
      some (.next (x4, (W (x3 + 1))))
  else
    some (.done x2)
def m_ref28_accept (fuel : Nat) (p0 : MGimletref28Run) : Option (MGimletref28Run) :=
  Option.bind ((
  if (decide (p0.Stand < 0)) then
    some true
  else
    if inb p0.P.Stands p0.Stand then
      some ((((gt p0.P.Stands p0.Stand).Accept).length : Int) == 0)
    else none) : Option (Bool)) fun x1 =>
  if x1 then
    some p0
  else
    if inb p0.P.Stands p0.Stand then
      Option.bind (iter (m_ref28_accept_l1 fuel p0) fuel ((⟨p0.P, p0.At, p0.Stand, p0.Regs, [], p0.To, p0.Is, p0.Work⟩ : MGimletref28Run), 0)) fun y1 =>
        some (⟨y1.P, y1.At, y1.Stand, y1.Regs, y1.Tags, y1.At, true, y1.Work⟩ : MGimletref28Run)
    else none
def m_ref28_Start (fuel : Nat) (p0 : MProg) : Option (MGimletref28Run) :=
  if mkOk 8 p0.Regs then
  Option.bind (m_ref28_accept fuel (⟨p0, (0 : Int), (0 : Int), (List.replicate (Int.toNat p0.Regs) (0 : Int)), ([] : (List Int)), (0 : Int), false, (0 : Int)⟩ : MGimletref28Run)) fun x1 =>
    some x1
else none
def m_ref28_Found (fuel : Nat) (p0 : MGimletref28Run) : Option ((List MSpan) × Bool) :=
  if (!p0.Is) then
  some (([] : List MSpan), false)
else
  Option.bind (m_ref20_Spans fuel p0.Tags p0.To) fun x1 =>
    some (x1, true)
def m_ref28_Feed (fuel : Nat) (p0 : MGimletref28Run) (p1 : Int) : Option (MGimletref28Run) :=
  Option.bind ((
  if (decide (p0.Stand ≥ 0)) then
    if inb p0.P.Stands p0.Stand then
      if inb p0.P.Class (W (p1)) then
        if inb ((gt p0.P.Stands p0.Stand).Ways) (gt p0.P.Class (W (p1))) then
          Option.bind (m_ref27_Apply fuel p0.Regs ((gt ((gt p0.P.Stands p0.Stand).Ways) (gt p0.P.Class (W (p1)))).Moves) p0.At) fun x2 =>
            some (⟨p0.P, p0.At, (gt ((gt p0.P.Stands p0.Stand).Ways) (gt p0.P.Class (W (p1)))).To, x2, p0.Tags, p0.To, p0.Is, (W ((W (p0.Work + 1)) + (((gt ((gt p0.P.Stands p0.Stand).Ways) (gt p0.P.Class (W (p1)))).Moves).length : Int)))⟩ : MGimletref28Run)
        else none
      else none
    else none
  else
    some (⟨p0.P, p0.At, p0.Stand, p0.Regs, p0.Tags, p0.To, p0.Is, (W (p0.Work + 1))⟩ : MGimletref28Run)) : Option (MGimletref28Run)) fun x1 =>
  Option.bind (m_ref28_accept fuel (⟨x1.P, (W (x1.At + 1)), x1.Stand, x1.Regs, x1.Tags, x1.To, x1.Is, x1.Work⟩ : MGimletref28Run)) fun x3 =>
    some x3
def m_law28_AllocTells_l1 (fuel : Nat) (p2 : (List Int)) (p0 : MProg) (o1 : MAllocRun) (x16 : MGimletref28Run) (s_ : MAllocRun × MGimletref28Run × Int) : Option (Ctl (MAllocRun × MGimletref28Run × Int) ((Unit) ⊕ (Bool))) :=
  let (x17, x18, x19) := s_
  if (decide (x19 ≤ (p2.length : Int))) then
    Option.bind ((
      Option.bind (m_alloc_last_Found fuel x17) fun x22 =>
        Option.bind (m_ref28_Found fuel x18) fun x23 =>
          Option.bind ((
            if (decide (x18.Stand ≥ 0)) then
              if inb p0.Stands x18.Stand then
                some (decide ((((gt p0.Stands x18.Stand).Accept).length : Int) > 0))
              else none
            else
              some false) : Option (Bool)) fun x24 =>
            Option.bind ((
              Option.bind (m_ref14_Spanned fuel x22.1 x23.1) fun x26 =>
                if (!x26) then
                  some true
                else
                  if (x22.2 != x23.2) then
                    some true
                  else
                    Option.bind (m_alloc_Run_At fuel x17) fun x27 =>
                      if (x27 != x19) then
                        some true
                      else
                        Option.bind (m_alloc_Run_Stand fuel x17) fun x28 =>
                          if (x28 != x18.Stand) then
                            some true
                          else
                            Option.bind (m_alloc_Run_Here fuel x17) fun x29 =>
                              if (x29 != x24) then
                                some true
                              else
                                Option.bind (m_alloc_Run_Work fuel x17) fun x30 =>
                                  some (x30 != x18.Work)) : Option (Bool)) fun x25 =>
              if x25 then
                some (.inr false)
              else
                if (decide (x19 < (p2.length : Int))) then
                  if inb p2 x19 then
                    Option.bind (m_alloc_Run_Feed fuel x17 (gt p2 x19)) fun x31 =>
                      if inb p2 x19 then
                        Option.bind (m_ref28_Feed fuel x18 (gt p2 x19)) fun x32 =>
                          some (.inl (x31, x32))
                      else none
                  else none
                else
                  some (.inl (x17, x18))) : Option ((MAllocRun × MGimletref28Run) ⊕ (Bool))) fun q7 => match q7 with
    | .inl (x20, x21) =>
      some (.next (x20, x21, (W (x19 + 1))))
    | .inr r1 => some (.done (.inr r1))
  else
    some (.done (.inl ()))
def m_law28_AllocTells (fuel : Nat) (p0 : MProg) (p1 : MProg) (p2 : (List Int)) : Option (Bool) :=
  Option.bind ((
  Option.bind (m_law28_Small fuel p0) fun x2 =>
    if (!x2) then
      some true
    else
      Option.bind (m_law28_Small fuel p1) fun x3 =>
        if (!x3) then
          some true
        else
          some (decide ((p2.length : Int) > 30))) : Option (Bool)) fun x1 =>
  if x1 then
    Option.bind (m_law28_sure fuel ) fun x4 =>
      some x4
  else
    Option.bind ((
      Option.bind (m_alloc_Right fuel p0) fun x6 =>
        Option.bind (m_ref28_Right fuel p0) fun x7 =>
          if (x6 != x7) then
            some true
          else
            Option.bind (m_alloc_Same fuel p0 p1) fun x8 =>
              Option.bind (m_ref28_Same fuel p0 p1) fun x9 =>
                some (x8 != x9)) : Option (Bool)) fun x5 =>
      if x5 then
        some false
      else
        Option.bind (m_alloc_Start fuel p0) fun x10 => match x10 with
        | (none, xe1) =>
          Option.bind (m_ref28_Right fuel p0) fun x11 =>
            if (!x11) then
              Option.bind ((
                if (xe1 == 11) then
                  Option.bind (m_law28_sure fuel ) fun x13 =>
                    some x13
                else
                  some false) : Option (Bool)) fun x12 =>
                some x12
            else
              Option.bind ((
                if (xe1 != 0) then
                  some ()
                else
                  some ()) : Option (Unit)) fun q4 => match q4 with
              | _ =>
                some false
        | (some o1, xe1) =>
          Option.bind (m_ref28_Right fuel p0) fun x14 =>
            if (!x14) then
              Option.bind ((
                if (xe1 == 11) then
                  some ()
                else
                  some ()) : Option (Unit)) fun q5 => match q5 with
              | _ =>
                some false
            else
              Option.bind ((
                if (xe1 != 0) then
                  some true
                else
                  some false) : Option (Bool)) fun x15 =>
                if x15 then
                  some false
                else
                  Option.bind (m_ref28_Start fuel p0) fun x16 =>
                    Option.bind (iter (m_law28_AllocTells_l1 fuel p2 p0 o1 x16) fuel (o1, x16, 0)) fun t1 => match t1 with
                    | .inl _ =>
                      Option.bind (m_law28_sure fuel ) fun x33 =>
                        some x33
                    | .inr r1 => some r1
end Go.Proofs.YtjkoiijpmiibpaaGreat
