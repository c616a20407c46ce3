/- What a law and its own functions compute, over plain data. Its conditions: none. -/
import Derived.Test.YtjkoiijpmiibpaaGreatMo
set_option maxRecDepth 20000
set_option autoImplicit false
namespace Go.Proofs.YtjkoiijpmiibpaaGreat
open Go.V Go.RowKit
set_option linter.unusedVariables false
def m_drive_own_l2 (fuel : Nat) (p0 : MDfa) (x4 : MDfa) (x5 : Int) (x6 : MState) (s_ : MState × Int) : Option (Ctl (MState × Int) (MState)) :=
  let (x9, x10) := s_
  if (decide (x10 < (((gt p0.States x5).Edges).length : Int))) then
    if inb ((gt p0.States x5).Edges) x10 then
      Option.bind (m_slices_Clone_int_int fuel ((gt ((gt p0.States x5).Edges) x10).Src)) fun x11 =>
        if apOk 32 x9.Edges [(⟨(gt ((gt p0.States x5).Edges) x10).To, x11⟩ : MEdge)] then
          some (.next ((⟨x9.Regs, x9.Accept, (x9.Edges ++ [(⟨(gt ((gt p0.States x5).Edges) x10).To, x11⟩ : MEdge)])⟩ : MState), (W (x10 + 1))))
        else none
    else none
  else
    some (.done x9)
def m_drive_own_l1 (fuel : Nat) (x1 : MDfa) (p0 : MDfa) (s_ : MDfa × Int) : Option (Ctl (MDfa × Int) (MDfa)) :=
  let (x4, x5) := s_
  if (decide (x5 < (p0.States.length : Int))) then
    if inb p0.States x5 then
      Option.bind ((
        Option.bind (m_slices_Clone_int_int fuel ((gt p0.States x5).Accept)) fun x7 =>
          some (⟨(gt p0.States x5).Regs, x7, ([] : (List MEdge))⟩ : MState)) : Option (MState)) fun x6 =>
        Option.bind (iter (m_drive_own_l2 fuel p0 x4 x5 x6) fuel (x6, 0)) fun y2 =>
          if apOk 56 x4.States [y2] then
            some (.next ((⟨x4.Tags, x4.Class, (x4.States ++ [y2])⟩ : MDfa), (W (x5 + 1))))
          else none
    else none
  else
    some (.done x4)
def m_drive_own (fuel : Nat) (p0 : MDfa) : Option (MDfa) :=
  Option.bind ((
  Option.bind (m_slices_Clone_int_int fuel p0.Class) fun x2 =>
    some (⟨p0.Tags, x2, ([] : (List MState))⟩ : MDfa)) : Option (MDfa)) fun x1 =>
  Option.bind (iter (m_drive_own_l1 fuel x1 p0) fuel (x1, 0)) fun y1 =>
    some y1
def m_drive_Car_here (fuel : Nat) (p0 : MDriveCar) (p1 : Int) : Option (Int) :=
  if (p1 == (-1)) then
  some p0.at_
else
  if (p1 == (-2)) then
    some (-1)
  else
    if inb p0.regs p1 then
      some (gt p0.regs p1)
    else none
def m_drive_Car_each_l1 (fuel : Nat) (p0 : MDriveCar) (p1 : (List Int)) (s_ : List Int × Int) : Option (Ctl (List Int × Int) (List Int)) :=
  let (x1, x2) := s_
  if (decide (x2 < (p1.length : Int))) then
    if inb p1 x2 then
      Option.bind (m_drive_Car_here fuel p0 (gt p1 x2)) fun x3 =>
        if apOk 8 x1 [x3] then
          some (.next ((x1 ++ [x3]), (W (x2 + 1))))
        else none
    else none
  else
    some (.done x1)
def m_drive_Car_each (fuel : Nat) (p0 : MDriveCar) (p1 : (List Int)) : Option ((List Int)) :=
  Option.bind (iter (m_drive_Car_each_l1 fuel p0 p1) fuel (([] : List Int), 0)) fun y1 =>
  some y1
def m_drive_Car_accepts (fuel : Nat) (p0 : MDriveCar) : Option (Bool) :=
  Option.bind ((
  if (decide (p0.state ≥ 0)) then
    if inb p0.d.States p0.state then
      some (decide ((((gt p0.d.States p0.state).Accept).length : Int) > 0))
    else none
  else
    some false) : Option (Bool)) fun x1 =>
  some x1
def m_drive_Car_accept (fuel : Nat) (p0 : MDriveCar) : Option (MDriveCar) :=
  Option.bind (m_drive_Car_accepts fuel p0) fun x1 =>
  if x1 then
    if inb p0.d.States p0.state then
      Option.bind (m_drive_Car_each fuel p0 ((gt p0.d.States p0.state).Accept)) fun x2 =>
        some (⟨(⟨x2, p0.at_⟩ : MDriveLast), p0.d, p0.at_, p0.state, p0.work, p0.regs⟩ : MDriveCar)
    else none
  else
    some p0
def m_drive_New (fuel : Nat) (p0 : MDfa) : Option ((Option MDriveCar) × Int) :=
  Option.bind (m_subset_Right fuel p0) fun x1 =>
  if (!x1) then
    some (none, 11)
  else
    Option.bind (m_drive_own fuel p0) fun x2 =>
      Option.bind (m_drive_Car_accept fuel (⟨(⟨([] : (List Int)), (0 : Int)⟩ : MDriveLast), x2, (0 : Int), (0 : Int), (0 : Int), ([] : (List Int))⟩ : MDriveCar)) fun x3 =>
        some ((some x3), 0)
def m_ref25_accept_l1 (fuel : Nat) (p0 : MGimletref25Car) (s_ : MGimletref25Car × Int) : Option (Ctl (MGimletref25Car × Int) (MGimletref25Car)) :=
  let (x2, x3) := s_
  if (decide (x3 < (((gt p0.D.States p0.State).Accept).length : Int))) then
    Option.bind ((
      Option.bind ((
        if inb ((gt p0.D.States p0.State).Accept) x3 then
          if ((gt ((gt p0.D.States p0.State).Accept) x3) == (-1)) then
            if apOk 8 x2.Tags [x2.At] then
              some (⟨x2.D, x2.At, x2.State, x2.Regs, (x2.Tags ++ [x2.At]), x2.To, x2.Is, x2.Work⟩ : MGimletref25Car)
            else none
          else
            if inb ((gt p0.D.States p0.State).Accept) x3 then
              if ((gt ((gt p0.D.States p0.State).Accept) x3) == (-2)) then
                if apOk 8 x2.Tags [(-1)] then
                  some (⟨x2.D, x2.At, x2.State, x2.Regs, (x2.Tags ++ [(-1)]), x2.To, x2.Is, x2.Work⟩ : MGimletref25Car)
                else none
              else
                if inb ((gt p0.D.States p0.State).Accept) x3 then
                  if inb x2.Regs (gt ((gt p0.D.States p0.State).Accept) x3) then
                    if apOk 8 x2.Tags [(gt x2.Regs (gt ((gt p0.D.States p0.State).Accept) x3))] then
                      some (⟨x2.D, x2.At, x2.State, x2.Regs, (x2.Tags ++ [(gt x2.Regs (gt ((gt p0.D.States p0.State).Accept) x3))]), x2.To, x2.Is, x2.Work⟩ : MGimletref25Car)
                    else none
                  else none
                else none
            else none
        else none) : Option (MGimletref25Car)) fun x5 =>
        some x5) : Option (MGimletref25Car)) fun x4 =>
      some (.next (x4, (W (x3 + 1))))
  else
    some (.done x2)
def m_ref25_accept (fuel : Nat) (p0 : MGimletref25Car) : Option (MGimletref25Car) :=
  Option.bind ((
  if (decide (p0.State < 0)) then
    some true
  else
    if inb p0.D.States p0.State then
      some ((((gt p0.D.States p0.State).Accept).length : Int) == 0)
    else none) : Option (Bool)) fun x1 =>
  if x1 then
    some p0
  else
    if inb p0.D.States p0.State then
      Option.bind (iter (m_ref25_accept_l1 fuel p0) fuel ((⟨p0.D, p0.At, p0.State, p0.Regs, [], p0.To, p0.Is, p0.Work⟩ : MGimletref25Car), 0)) fun y1 =>
        some (⟨y1.D, y1.At, y1.State, y1.Regs, y1.Tags, y1.At, true, y1.Work⟩ : MGimletref25Car)
    else none
def m_ref25_New (fuel : Nat) (p0 : MDfa) : Option (MGimletref25Car) :=
  Option.bind (m_ref25_accept fuel (⟨p0, (0 : Int), (0 : Int), ([] : (List Int)), ([] : (List Int)), (0 : Int), false, (0 : Int)⟩ : MGimletref25Car)) fun x1 =>
  some x1
def m_ref25_Found (fuel : Nat) (p0 : MGimletref25Car) : Option ((List MSpan) × Bool) :=
  if (!p0.Is) then
  some (([] : List MSpan), false)
else
  Option.bind (m_ref20_Spans fuel p0.Tags p0.To) fun x1 =>
    some (x1, true)
def m_drive_last_Found (fuel : Nat) (p0 : MDriveCar) : Option ((List MSpan) × Bool) :=
  if ((p0.last.tags.length : Int) == 0) then
  some (([] : List MSpan), false)
else
  Option.bind (m_mark_Spans fuel p0.last.tags p0.last.to) fun x1 =>
    some (x1, true)
def m_drive_Car_Feed (fuel : Nat) (p0 : MDriveCar) (p1 : Int) : Option (MDriveCar) :=
  Option.bind ((
  if (decide (p0.state ≥ 0)) then
    if inb p0.d.States p0.state then
      if inb p0.d.Class p1 then
        if inb ((gt p0.d.States p0.state).Edges) (gt p0.d.Class p1) then
          Option.bind (m_drive_Car_each fuel (⟨p0.last, p0.d, p0.at_, p0.state, (W (p0.work + 1)), p0.regs⟩ : MDriveCar) ((gt ((gt p0.d.States p0.state).Edges) (gt p0.d.Class p1)).Src)) fun x2 =>
            some (⟨p0.last, p0.d, p0.at_, (gt ((gt p0.d.States p0.state).Edges) (gt p0.d.Class p1)).To, (W ((W (p0.work + 1)) + (x2.length : Int))), x2⟩ : MDriveCar)
        else none
      else none
    else none
  else
    some (⟨p0.last, p0.d, p0.at_, p0.state, (W (p0.work + 1)), p0.regs⟩ : MDriveCar)) : Option (MDriveCar)) fun x1 =>
  Option.bind (m_drive_Car_accept fuel (⟨x1.last, x1.d, (W (x1.at_ + 1)), x1.state, x1.work, x1.regs⟩ : MDriveCar)) fun x3 =>
    some x3
def m_ref25_Feed_l1 (fuel : Nat) (p0 : MGimletref25Car) (p1 : Int) (s_ : List Int × Int) : Option (Ctl (List Int × Int) (List Int)) :=
  let (x2, x3) := s_
  if (decide (x3 < (((gt ((gt p0.D.States p0.State).Edges) (gt p0.D.Class (W (p1)))).Src).length : Int))) then
    Option.bind ((
      if inb ((gt ((gt p0.D.States p0.State).Edges) (gt p0.D.Class (W (p1)))).Src) x3 then
        if ((gt ((gt ((gt p0.D.States p0.State).Edges) (gt p0.D.Class (W (p1)))).Src) x3) == (-1)) then
          if apOk 8 x2 [p0.At] then
            some (x2 ++ [p0.At])
          else none
        else
          if inb ((gt ((gt p0.D.States p0.State).Edges) (gt p0.D.Class (W (p1)))).Src) x3 then
            if inb p0.Regs (gt ((gt ((gt p0.D.States p0.State).Edges) (gt p0.D.Class (W (p1)))).Src) x3) then
              if apOk 8 x2 [(gt p0.Regs (gt ((gt ((gt p0.D.States p0.State).Edges) (gt p0.D.Class (W (p1)))).Src) x3))] then
                some (x2 ++ [(gt p0.Regs (gt ((gt ((gt p0.D.States p0.State).Edges) (gt p0.D.Class (W (p1)))).Src) x3))])
              else none
            else none
          else none
      else none) : Option (List Int)) fun x4 =>
      some (.next (x4, (W (x3 + 1))))
  else
    some (.done x2)
def m_ref25_Feed (fuel : Nat) (p0 : MGimletref25Car) (p1 : Int) : Option (MGimletref25Car) :=
  Option.bind ((
  if (decide (p0.State ≥ 0)) then
    if inb p0.D.States p0.State then
      if inb p0.D.Class (W (p1)) then
        if inb ((gt p0.D.States p0.State).Edges) (gt p0.D.Class (W (p1))) then
          Option.bind (iter (m_ref25_Feed_l1 fuel p0 p1) fuel (([] : List Int), 0)) fun y1 =>
            some (⟨p0.D, p0.At, (gt ((gt p0.D.States p0.State).Edges) (gt p0.D.Class (W (p1)))).To, y1, p0.Tags, p0.To, p0.Is, (W ((W (p0.Work + 1)) + (y1.length : Int)))⟩ : MGimletref25Car)
        else none
      else none
    else none
  else
    some (⟨p0.D, p0.At, p0.State, p0.Regs, p0.Tags, p0.To, p0.Is, (W (p0.Work + 1))⟩ : MGimletref25Car)) : Option (MGimletref25Car)) fun x1 =>
  Option.bind (m_ref25_accept fuel (⟨x1.D, (W (x1.At + 1)), x1.State, x1.Regs, x1.Tags, x1.To, x1.Is, x1.Work⟩ : MGimletref25Car)) fun x5 =>
    some x5
def m_law28_AllocRuns_l1 (fuel : Nat) (p1 : (List Int)) (x5 : MProg × Int) (o1 : MAllocRun) (o3 : MDriveCar) (x12 : MGimletref25Car) (s_ : MAllocRun × MDriveCar × MGimletref25Car × Int) : Option (Ctl (MAllocRun × MDriveCar × MGimletref25Car × Int) ((Unit) ⊕ (Bool))) :=
  let (x14, x15, x16, x17) := s_
  if (decide (x17 ≤ (p1.length : Int))) then
    Option.bind ((
      Option.bind (m_alloc_last_Found fuel x14) fun x21 =>
        Option.bind (m_ref25_Found fuel x16) fun x22 =>
          Option.bind (m_drive_last_Found fuel x15) fun x23 =>
            Option.bind ((
              Option.bind (m_ref14_Spanned fuel x21.1 x22.1) fun x25 =>
                if (!x25) then
                  some true
                else
                  if (x21.2 != x22.2) then
                    some true
                  else
                    Option.bind (m_alloc_Run_Stand fuel x14) fun x26 =>
                      if (x26 != x16.State) then
                        some true
                      else
                        Option.bind (m_alloc_Run_At fuel x14) fun x27 =>
                          if (x27 != x17) then
                            some true
                          else
                            Option.bind (m_ref14_Spanned fuel x21.1 x23.1) fun x28 =>
                              if (!x28) then
                                some true
                              else
                                if (x23.2 != x21.2) then
                                  some true
                                else
                                  Option.bind (m_alloc_Run_Work fuel x14) fun x29 =>
                                    if (decide (x29 > (W (x17 * (W (1 + (W (2 * x5.1.Regs)))))))) then
                                      some true
                                    else
                                      Option.bind (m_alloc_Run_Work fuel x14) fun x30 =>
                                        some (decide (x30 < x17))) : Option (Bool)) fun x24 =>
              if x24 then
                some (.inr false)
              else
                if (decide (x17 < (p1.length : Int))) then
                  if inb p1 x17 then
                    Option.bind (m_alloc_Run_Feed fuel x14 (gt p1 x17)) fun x31 =>
                      if inb p1 x17 then
                        Option.bind (m_drive_Car_Feed fuel x15 (gt p1 x17)) fun x32 =>
                          if inb p1 x17 then
                            Option.bind (m_ref25_Feed fuel x16 (gt p1 x17)) fun x33 =>
                              some (.inl (x31, x32, x33))
                          else none
                      else none
                  else none
                else
                  some (.inl (x14, x15, x16))) : Option ((MAllocRun × MDriveCar × MGimletref25Car) ⊕ (Bool))) fun q6 => match q6 with
    | .inl (x18, x19, x20) =>
      some (.next (x18, x19, x20, (W (x17 + 1))))
    | .inr r1 => some (.done (.inr r1))
  else
    some (.done (.inl ()))
def m_law28_AllocRuns (fuel : Nat) (p0 : MDfa) (p1 : (List Int)) : Option (Bool) :=
  Option.bind ((
  Option.bind (m_law24_Small fuel p0) fun x2 =>
    if (!x2) then
      some true
    else
      if (decide ((p1.length : Int) > 30)) then
        some true
      else
        Option.bind (m_ref24_Right fuel p0) fun x3 =>
          some (!x3)) : Option (Bool)) fun x1 =>
  if x1 then
    Option.bind (m_law28_sure fuel ) fun x4 =>
      some x4
  else
    Option.bind (m_alloc_Make fuel p0) fun x5 =>
      Option.bind (m_alloc_Start fuel x5.1) fun x6 => match x6 with
      | (none, xe1) =>
        Option.bind (m_drive_New fuel p0) fun x7 => match x7 with
        | (none, xe2) =>
          Option.bind (m_ref25_New fuel p0) fun x8 =>
            Option.bind ((
              if (x5.2 != 0) then
                some ()
              else
                if (xe1 != 0) then
                  some ()
                else
                  if (xe2 != 0) then
                    some ()
                  else
                    some ()) : Option (Unit)) fun q2 => match q2 with
            | _ =>
              some false
        | (some o2, xe2) =>
          Option.bind (m_ref25_New fuel p0) fun x9 =>
            Option.bind ((
              if (x5.2 != 0) then
                some ()
              else
                if (xe1 != 0) then
                  some ()
                else
                  if (xe2 != 0) then
                    some ()
                  else
                    some ()) : Option (Unit)) fun q3 => match q3 with
            | _ =>
              some false
      | (some o1, xe1) =>
        Option.bind (m_drive_New fuel p0) fun x10 => match x10 with
        | (none, xe3) =>
          Option.bind (m_ref25_New fuel p0) fun x11 =>
            Option.bind ((
              if (x5.2 != 0) then
                some ()
              else
                if (xe1 != 0) then
                  some ()
                else
                  if (xe3 != 0) then
                    some ()
                  else
                    some ()) : Option (Unit)) fun q4 => match q4 with
            | _ =>
              some false
        | (some o3, xe3) =>
          Option.bind (m_ref25_New fuel p0) fun x12 =>
            Option.bind ((
              if (x5.2 != 0) then
                some true
              else
                if (xe1 != 0) then
                  some true
                else
                  if (xe3 != 0) then
                    some true
                  else
                    some false) : Option (Bool)) fun x13 =>
              if x13 then
                some false
              else
                Option.bind (iter (m_law28_AllocRuns_l1 fuel p1 x5 o1 o3 x12) fuel (o1, o3, x12, 0)) fun t1 => match t1 with
                | .inl _ =>
                  Option.bind (m_law28_sure fuel ) fun x34 =>
                    some x34
                | .inr r1 => some r1
end Go.Proofs.YtjkoiijpmiibpaaGreat
