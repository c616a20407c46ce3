/- What the functions compute, over plain data. Its conditions: none. -/
import Derived.Test.YtjkoiijpmiibpaaVQue
import Derived.Test.YtjkoiijpmiibpaaVSortI
set_option maxRecDepth 20000
set_option autoImplicit false
namespace Go.Proofs.Ytjkoiijpmiibpaa
open Go.V Go.RowKit
set_option linter.unusedVariables false
structure MEdge where
  To : Int
  Src : (List Int)
instance : Inhabited MEdge := ⟨⟨0, []⟩⟩
structure MState where
  Regs : Int
  Accept : (List Int)
  Edges : (List MEdge)
instance : Inhabited MState := ⟨⟨0, [], []⟩⟩
structure MDfa where
  Tags : Int
  Class : (List Int)
  States : (List MState)
instance : Inhabited MDfa := ⟨⟨0, [], []⟩⟩
structure MAllocHomes where
  taken : (ArrB 1217)
  at_ : (List Int)
instance : Inhabited MAllocHomes := ⟨⟨arrZ 1217, []⟩⟩
structure MAllocMaker where
  d : MDfa
  homes : (List (List Int))
  many : Int
instance : Inhabited MAllocMaker := ⟨⟨default, [], 0⟩⟩
structure MMove where
  To : Int
  From : Int
instance : Inhabited MMove := ⟨⟨0, 0⟩⟩
structure MMovesOrder where
  left : (List (Int × Int))
  keys : (List Int)
  spare : Int
  out : (List MMove)
instance : Inhabited MMovesOrder := ⟨⟨[], [], 0, []⟩⟩
structure MWay where
  To : Int
  Moves : (List MMove)
instance : Inhabited MWay := ⟨⟨0, []⟩⟩
structure MStand where
  Accept : (List Int)
  Ways : (List MWay)
instance : Inhabited MStand := ⟨⟨[], []⟩⟩
structure MProg where
  Tags : Int
  Regs : Int
  Class : (List Int)
  Stands : (List MStand)
instance : Inhabited MProg := ⟨⟨0, 0, [], []⟩⟩
structure MAllocLast where
  tags : (List Int)
  to : Int
instance : Inhabited MAllocLast := ⟨⟨[], 0⟩⟩
structure MAllocRun where
  last : MAllocLast
  p : MProg
  at_ : Int
  stand : Int
  work : Int
  regs : (List Int)
instance : Inhabited MAllocRun := ⟨⟨default, default, 0, 0, 0, []⟩⟩
structure MSpan where
  From : Int
  To : Int
instance : Inhabited MSpan := ⟨⟨0, 0⟩⟩
def m_law24_Small_l2 (fuel : Nat) (p0 : MDfa) (x2 : Int) (s_ : Int) : Option (Ctl (Int) ((Unit) ⊕ (Bool))) :=
  let x4 := s_
  if (decide (x4 < (((gt p0.States x2).Edges).length : Int))) then
    if inb ((gt p0.States x2).Edges) x4 then
      if (decide ((((gt ((gt p0.States x2).Edges) x4).Src).length : Int) > 400)) then
        some (.done (.inr false))
      else
        some (.next (W (x4 + 1)))
    else none
  else
    some (.done (.inl ()))
def m_law24_Small_l1 (fuel : Nat) (p0 : MDfa) (s_ : Int) : Option (Ctl (Int) ((Unit) ⊕ (Bool))) :=
  let x2 := s_
  if (decide (x2 < (p0.States.length : Int))) then
    if inb p0.States x2 then
      Option.bind ((
        if (decide ((((gt p0.States x2).Accept).length : Int) > 40)) then
          some true
        else
          if (decide ((((gt p0.States x2).Edges).length : Int) > 300)) then
            some true
          else
            some (decide (((gt p0.States x2).Regs) > 400))) : Option (Bool)) fun x3 =>
        if x3 then
          some (.done (.inr false))
        else
          Option.bind (iter (m_law24_Small_l2 fuel p0 x2) fuel 0) fun t2 => match t2 with
          | .inl _ =>
            some (.next (W (x2 + 1)))
          | .inr r1 => some (.done (.inr r1))
    else none
  else
    some (.done (.inl ()))
def m_law24_Small (fuel : Nat) (p0 : MDfa) : Option (Bool) :=
  Option.bind ((
  if (decide ((p0.States.length : Int) > 60)) then
    some true
  else
    some (decide ((p0.Class.length : Int) > 300))) : Option (Bool)) fun x1 =>
  if x1 then
    some false
  else
    Option.bind (iter (m_law24_Small_l1 fuel p0) fuel 0) fun t1 => match t1 with
    | .inl _ =>
      some true
    | .inr r1 => some r1
def m_part_Right_l1 (fuel : Nat) (p0 : (List Int)) (s_ : Int × Int) : Option (Ctl (Int × Int) ((Unit) ⊕ (Bool))) :=
  let (x1, x2) := s_
  if (decide (x2 < (p0.length : Int))) then
    if inb p0 x2 then
      Option.bind ((
        if (decide ((gt p0 x2) < 0)) then
          some true
        else
          some (decide ((gt p0 x2) > x1))) : Option (Bool)) fun x3 =>
        if x3 then
          some (.done (.inr false))
        else
          some (.next ((if (W ((gt p0 x2) + 1)) > x1 then (W ((gt p0 x2) + 1)) else x1), (W (x2 + 1))))
    else none
  else
    some (.done (.inl ()))
def m_part_Right (fuel : Nat) (p0 : (List Int)) : Option (Bool) :=
  Option.bind (iter (m_part_Right_l1 fuel p0) fuel (0, 0)) fun t1 => match t1 with
| .inl _ =>
  some ((p0.length : Int) == 256)
| .inr r1 => some r1
def m_part_Least_l1 (fuel : Nat) (p0 : (List Int)) (s_ : List Int × Int) : Option (Ctl (List Int × Int) (List Int)) :=
  let (x2, x3) := s_
  if (decide (x3 < (p0.length : Int))) then
    Option.bind ((
      if inb p0 x3 then
        if ((gt p0 x3) == (x2.length : Int)) then
          if apOk 1 x2 [(IntKind.wrap .u8 (x3))] then
            some (x2 ++ [(IntKind.wrap .u8 (x3))])
          else none
        else
          some x2
      else none) : Option (List Int)) fun x4 =>
      some (.next (x4, (W (x3 + 1))))
  else
    some (.done x2)
def m_part_Least (fuel : Nat) (p0 : (List Int)) : Option ((List Int)) :=
  Option.bind (m_part_Right fuel p0) fun x1 =>
  if (!x1) then
    some ([] : List Int)
  else
    Option.bind (iter (m_part_Least_l1 fuel p0) fuel (([] : List Int), 0)) fun y1 =>
      some y1
def m_subset_from (fuel : Nat) (p0 : Int) (p1 : Int) : Option (Bool) :=
  Option.bind ((
  if (p0 == (-1)) then
    some true
  else
    if (decide (p0 ≥ 0)) then
      some (decide (p0 < p1))
    else
      some false) : Option (Bool)) fun x1 =>
  some x1
def m_subset_accepts_1 (fuel : Nat) (p0 : Int) (p1 : MState) : Option (Bool) :=
  Option.bind ((
  if (p0 != (-2)) then
    Option.bind (m_subset_from fuel p0 p1.Regs) fun x2 =>
      some (!x2)
  else
    some false) : Option (Bool)) fun x1 =>
  some x1
def m_slices_IndexFunc_int_int_subset_accepts_1_l1 (fuel : Nat) (p0 : (List Int)) (p1 : MState) (s_ : Int) : Option (Ctl (Int) ((Unit) ⊕ (Int))) :=
  let x1 := s_
  if (decide (x1 < (p0.length : Int))) then
    if inb p0 x1 then
      Option.bind (m_subset_accepts_1 fuel (gt p0 x1) p1) fun x2 =>
        if x2 then
          some (.done (.inr x1))
        else
          some (.next (W (x1 + 1)))
    else none
  else
    some (.done (.inl ()))
def m_slices_IndexFunc_int_int_subset_accepts_1 (fuel : Nat) (p0 : (List Int)) (p1 : MState) : Option (Int) :=
  Option.bind (iter (m_slices_IndexFunc_int_int_subset_accepts_1_l1 fuel p0 p1) fuel 0) fun t1 => match t1 with
| .inl _ =>
  some (-1)
| .inr r1 => some r1
def m_slices_ContainsFunc_int_int_subset_accepts_1 (fuel : Nat) (p0 : (List Int)) (p1 : MState) : Option (Bool) :=
  Option.bind (m_slices_IndexFunc_int_int_subset_accepts_1 fuel p0 p1) fun x1 =>
  some (decide (x1 ≥ 0))
def m_subset_accepts (fuel : Nat) (p0 : MState) (p1 : Int) : Option (Bool) :=
  Option.bind ((
  if ((p0.Accept.length : Int) == 0) then
    some true
  else
    if ((p0.Accept.length : Int) == p1) then
      Option.bind (m_slices_ContainsFunc_int_int_subset_accepts_1 fuel p0.Accept p0) fun x2 =>
        some (!x2)
    else
      some false) : Option (Bool)) fun x1 =>
  some x1
def m_subset_leads_1 (fuel : Nat) (p0 : Int) (p1 : MState) : Option (Bool) :=
  Option.bind (m_subset_from fuel p0 p1.Regs) fun x1 =>
  some (!x1)
def m_slices_IndexFunc_int_int_subset_leads_1_l1 (fuel : Nat) (p0 : (List Int)) (p1 : MState) (s_ : Int) : Option (Ctl (Int) ((Unit) ⊕ (Int))) :=
  let x1 := s_
  if (decide (x1 < (p0.length : Int))) then
    if inb p0 x1 then
      Option.bind (m_subset_leads_1 fuel (gt p0 x1) p1) fun x2 =>
        if x2 then
          some (.done (.inr x1))
        else
          some (.next (W (x1 + 1)))
    else none
  else
    some (.done (.inl ()))
def m_slices_IndexFunc_int_int_subset_leads_1 (fuel : Nat) (p0 : (List Int)) (p1 : MState) : Option (Int) :=
  Option.bind (iter (m_slices_IndexFunc_int_int_subset_leads_1_l1 fuel p0 p1) fuel 0) fun t1 => match t1 with
| .inl _ =>
  some (-1)
| .inr r1 => some r1
def m_slices_ContainsFunc_int_int_subset_leads_1 (fuel : Nat) (p0 : (List Int)) (p1 : MState) : Option (Bool) :=
  Option.bind (m_slices_IndexFunc_int_int_subset_leads_1 fuel p0 p1) fun x1 =>
  some (decide (x1 ≥ 0))
def m_subset_leads (fuel : Nat) (p0 : MDfa) (p1 : MState) (p2 : MEdge) : Option (Bool) :=
  if (p2.To == (-1)) then
  some ((p2.Src.length : Int) == 0)
else
  Option.bind ((
    if (decide (p2.To ≥ 0)) then
      if (decide (p2.To < (p0.States.length : Int))) then
        if inb p0.States p2.To then
          if ((p2.Src.length : Int) == ((gt p0.States p2.To).Regs)) then
            Option.bind (m_slices_ContainsFunc_int_int_subset_leads_1 fuel p2.Src p1) fun x2 =>
              some (!x2)
          else
            some false
        else none
      else
        some false
    else
      some false) : Option (Bool)) fun x1 =>
    some x1
def m_subset_Right_l2 (fuel : Nat) (p0 : MDfa) (x3 : (List Int)) (x4 : Int) (s_ : Int) : Option (Ctl (Int) ((Unit) ⊕ (Bool))) :=
  let x7 := s_
  if (decide (x7 < (((gt p0.States x4).Edges).length : Int))) then
    if inb ((gt p0.States x4).Edges) x7 then
      Option.bind (m_subset_leads fuel p0 (gt p0.States x4) (gt ((gt p0.States x4).Edges) x7)) fun x8 =>
        if (!x8) then
          some (.done (.inr false))
        else
          some (.next (W (x7 + 1)))
    else none
  else
    some (.done (.inl ()))
def m_subset_Right_l1 (fuel : Nat) (p0 : MDfa) (x3 : (List Int)) (s_ : Int) : Option (Ctl (Int) ((Unit) ⊕ (Bool))) :=
  let x4 := s_
  if (decide (x4 < (p0.States.length : Int))) then
    if inb p0.States x4 then
      Option.bind ((
        if (decide (((gt p0.States x4).Regs) < 0)) then
          some true
        else
          if (decide (((gt p0.States x4).Regs) > 1216)) then
            some true
          else
            if ((((gt p0.States x4).Edges).length : Int) != (x3.length : Int)) then
              some true
            else
              Option.bind (m_subset_accepts fuel (gt p0.States x4) p0.Tags) fun x6 =>
                some (!x6)) : Option (Bool)) fun x5 =>
        if x5 then
          some (.done (.inr false))
        else
          Option.bind (iter (m_subset_Right_l2 fuel p0 x3 x4) fuel 0) fun t2 => match t2 with
          | .inl _ =>
            some (.next (W (x4 + 1)))
          | .inr r1 => some (.done (.inr r1))
    else none
  else
    some (.done (.inl ()))
def m_subset_Right (fuel : Nat) (p0 : MDfa) : Option (Bool) :=
  Option.bind ((
  if (decide (p0.Tags < 1)) then
    some true
  else
    if (decide (p0.Tags > 19)) then
      some true
    else
      if ((Int.tmod p0.Tags 2) == 0) then
        some true
      else
        if ((p0.States.length : Int) == 0) then
          some true
        else
          if (decide ((p0.States.length : Int) > 400)) then
            some true
          else
            Option.bind (m_part_Right fuel p0.Class) fun x2 =>
              some (!x2)) : Option (Bool)) fun x1 =>
  if x1 then
    some false
  else
    Option.bind (m_part_Least fuel p0.Class) fun x3 =>
      Option.bind (iter (m_subset_Right_l1 fuel p0 x3) fuel 0) fun t1 => match t1 with
      | .inl _ =>
        if inb p0.States 0 then
          some (((gt p0.States 0).Regs) == 0)
        else none
      | .inr r1 => some r1
def m_math_bits_Mul32 (fuel : Nat) (p0 : Int) (p1 : Int) : Option (Int × Int) :=
  some ((IntKind.wrap .u32 ((shr .u64 (IntKind.wrap .u64 ((IntKind.wrap .u64 (p0)) * (IntKind.wrap .u64 (p1)))) 32))), (IntKind.wrap .u32 ((IntKind.wrap .u64 ((IntKind.wrap .u64 (p0)) * (IntKind.wrap .u64 (p1)))))))
def m_math_bits_Mul64 (fuel : Nat) (p0 : Int) (p1 : Int) : Option (Int × Int) :=
  some ((IntKind.wrap .u64 ((IntKind.wrap .u64 ((IntKind.wrap .u64 ((shr .u64 p0 32) * (shr .u64 p1 32))) + (shr .u64 (IntKind.wrap .u64 ((IntKind.wrap .u64 ((shr .u64 p0 32) * (band .u64 p1 4294967295))) + (shr .u64 (IntKind.wrap .u64 ((band .u64 p0 4294967295) * (band .u64 p1 4294967295))) 32))) 32))) + (shr .u64 (IntKind.wrap .u64 ((band .u64 (IntKind.wrap .u64 ((IntKind.wrap .u64 ((shr .u64 p0 32) * (band .u64 p1 4294967295))) + (shr .u64 (IntKind.wrap .u64 ((band .u64 p0 4294967295) * (band .u64 p1 4294967295))) 32))) 4294967295) + (IntKind.wrap .u64 ((band .u64 p0 4294967295) * (shr .u64 p1 32))))) 32))), (IntKind.wrap .u64 (p0 * p1)))
def m_math_bits_Mul (fuel : Nat) (p0 : Int) (p1 : Int) : Option (Int × Int) :=
  Option.bind (m_math_bits_Mul64 fuel p0 p1) fun x1 =>
  some (x1.1, x1.2)
def m_slices_Repeat_int_int_l1 (fuel : Nat) (x1 : Int × Int) (p0 : (List Int)) (s_ : List Int × Int) : Option (Ctl (List Int × Int) (List Int)) :=
  let (x3, x4) := s_
  if (decide (x4 < (x3.length : Int))) then
    if slOk x3 x4 (x3.length : Int) then
      if slOk x3 0 x4 then
        some (.next ((copyIn x3 x4 x4), (W (x4 + ((Nat.min (cutL x3 0 x4).length (x3.length - x4.toNat) : Nat) : Int)))))
      else none
    else none
  else
    some (.done x3)
def m_slices_Repeat_int_int (fuel : Nat) (p0 : (List Int)) (p1 : Int) : Option ((List Int)) :=
  if (decide (p1 < 0)) then
  none
else
  Option.bind (m_math_bits_Mul fuel (IntKind.wrap .u64 ((p0.length : Int))) (IntKind.wrap .u64 (p1))) fun x1 =>
    Option.bind ((
      if (decide (x1.1 > 0)) then
        some true
      else
        some (decide (x1.2 > 9223372036854775807))) : Option (Bool)) fun x2 =>
      if x2 then
        none
      else
        if mkOk 8 (W (x1.2)) then
          Option.bind (iter (m_slices_Repeat_int_int_l1 fuel x1 p0) fuel ((copyL (List.replicate (Int.toNat (W (x1.2))) (0 : Int)) p0), ((Nat.min p0.length (List.replicate (Int.toNat (W (x1.2))) (0 : Int)).length : Nat) : Int))) fun y1 =>
            some y1
        else none
def m_alloc_homes_take (fuel : Nat) (p0 : MAllocHomes) (p1 : Int) (p2 : Int) : Option (Bool × MAllocHomes) :=
  if inbN 1217 p2 then
  if (gt p0.taken.1 p2) then
    some (false, p0)
  else
    if inbN 1217 p2 then
      if inb p0.at_ p1 then
        some (true, (⟨(arrSet p0.taken p2 true), (p0.at_.set (Int.toNat p1) p2)⟩ : MAllocHomes))
      else none
    else none
else none
def m_alloc_homes_least_l1 (fuel : Nat) (p0 : MAllocHomes) (p1 : Int) (s_ : MAllocHomes × Int) : Option (Ctl (MAllocHomes × Int) (MAllocHomes)) :=
  let (x1, x2) := s_
  Option.bind (m_alloc_homes_take fuel x1 p1 x2) fun x3 =>
    if (!x3.1) then
      some (.next (x3.2, (W (x2 + 1))))
    else
      some (.done x3.2)
def m_alloc_homes_least (fuel : Nat) (p0 : MAllocHomes) (p1 : Int) : Option (MAllocHomes) :=
  Option.bind (iter (m_alloc_homes_least_l1 fuel p0 p1) fuel (p0, 0)) fun y1 =>
  some y1
def m_alloc_give_l1 (fuel : Nat) (p0 : (List Int)) (x1 : (List Int)) (p1 : MEdge) (s_ : MAllocHomes × Int) : Option (Ctl (MAllocHomes × Int) (MAllocHomes)) :=
  let (x2, x3) := s_
  if (decide (x3 < (p1.Src.length : Int))) then
    Option.bind ((
      if inb p1.Src x3 then
        if (decide ((gt p1.Src x3) ≥ 0)) then
          if inb p0 (gt p1.Src x3) then
            Option.bind (m_alloc_homes_take fuel x2 x3 (gt p0 (gt p1.Src x3))) fun x5 =>
              some x5.2
          else none
        else
          some x2
      else none) : Option (MAllocHomes)) fun x4 =>
      some (.next (x4, (W (x3 + 1))))
  else
    some (.done x2)
def m_alloc_give_l2 (fuel : Nat) (y1 : MAllocHomes) (s_ : MAllocHomes × Int) : Option (Ctl (MAllocHomes × Int) (MAllocHomes)) :=
  let (x6, x7) := s_
  if (decide (x7 < (y1.at_.length : Int))) then
    Option.bind ((
      if inb x6.at_ x7 then
        if (decide ((gt x6.at_ x7) < 0)) then
          Option.bind (m_alloc_homes_least fuel x6 x7) fun x9 =>
            some x9
        else
          some x6
      else none) : Option (MAllocHomes)) fun x8 =>
      some (.next (x8, (W (x7 + 1))))
  else
    some (.done x6)
def m_alloc_give (fuel : Nat) (p0 : (List Int)) (p1 : MEdge) : Option ((List Int)) :=
  Option.bind (m_slices_Repeat_int_int fuel [(-1)] (p1.Src.length : Int)) fun x1 =>
  Option.bind (iter (m_alloc_give_l1 fuel p0 x1 p1) fuel ((⟨(arrZ 1217), x1⟩ : MAllocHomes), 0)) fun y1 =>
    Option.bind (iter (m_alloc_give_l2 fuel y1) fuel (y1, 0)) fun y2 =>
      some y2.at_
def m_alloc_own_l1 (fuel : Nat) (p0 : Int) (s_ : List Int × Int) : Option (Ctl (List Int × Int) (List Int)) :=
  let (x1, x2) := s_
  if (decide (x2 < p0)) then
    if apOk 8 x1 [x2] then
      some (.next ((x1 ++ [x2]), (W (x2 + 1))))
    else none
  else
    some (.done x1)
def m_alloc_own (fuel : Nat) (p0 : Int) : Option ((List Int)) :=
  Option.bind (iter (m_alloc_own_l1 fuel p0) fuel (([] : List Int), 0)) fun y1 =>
  some y1
def m_alloc_Homes_l2 (fuel : Nat) (p0 : MDfa) (x2 : List (List Int)) (x3 : List Bool) (x4 : List Int) (s_ : List (List Int) × List Bool × List Int × Int) : Option (Ctl (List (List Int) × List Bool × List Int × Int) (List (List Int) × List Bool × List Int)) :=
  let (x5, x6, x7, x8) := s_
  if (decide (x8 < (((gt p0.States (gt x4 0)).Edges).length : Int))) then
    Option.bind ((
      if inb ((gt p0.States (gt x4 0)).Edges) x8 then
        Option.bind ((
          if (decide (((gt ((gt p0.States (gt x4 0)).Edges) x8).To) ≥ 0)) then
            if inb x6 ((gt ((gt p0.States (gt x4 0)).Edges) x8).To) then
              some (!(gt x6 ((gt ((gt p0.States (gt x4 0)).Edges) x8).To)))
            else none
          else
            some false) : Option (Bool)) fun x12 =>
          if x12 then
            if inb x6 ((gt ((gt p0.States (gt x4 0)).Edges) x8).To) then
              if inb x7 0 then
                if inb x5 (gt x7 0) then
                  Option.bind (m_alloc_give fuel (gt x5 (gt x7 0)) (gt ((gt p0.States (gt x4 0)).Edges) x8)) fun x13 =>
                    if inb x5 ((gt ((gt p0.States (gt x4 0)).Edges) x8).To) then
                      if apOk 8 x7 [(gt ((gt p0.States (gt x4 0)).Edges) x8).To] then
                        some ((x5.set (Int.toNat ((gt ((gt p0.States (gt x4 0)).Edges) x8).To)) x13), (x6.set (Int.toNat ((gt ((gt p0.States (gt x4 0)).Edges) x8).To)) true), (x7 ++ [(gt ((gt p0.States (gt x4 0)).Edges) x8).To]))
                      else none
                    else none
                else none
              else none
            else none
          else
            some (x5, x6, x7)
      else none) : Option (List (List Int) × List Bool × List Int)) fun q1 => match q1 with
    | (x9, x10, x11) =>
      some (.next (x9, x10, x11, (W (x8 + 1))))
  else
    some (.done (x5, x6, x7))
def m_alloc_Homes_l1 (fuel : Nat) (p0 : MDfa) (s_ : List (List Int) × List Bool × List Int) : Option (Ctl (List (List Int) × List Bool × List Int) (List (List Int) × List Bool)) :=
  let (x2, x3, x4) := s_
  if (decide ((x4.length : Int) > 0)) then
    if inb x4 0 then
      if inb p0.States (gt x4 0) then
        Option.bind (iter (m_alloc_Homes_l2 fuel p0 x2 x3 x4) fuel (x2, x3, x4, 0)) fun t2 => match t2 with
        | (y3, y4, y5) =>
          if slOk y5 1 (y5.length : Int) then
            some (.next (y3, y4, (cutL y5 1 (y5.length : Int))))
          else none
      else none
    else none
  else
    some (.done (x2, x3))
def m_alloc_Homes_l4 (fuel : Nat) (p0 : MDfa) (x16 : Int) (x17 : List (List Int)) (y2 : List Bool) (x15 : Int) (s_ : Int × Int) : Option (Ctl (Int × Int) (Int)) :=
  let (x19, x20) := s_
  if (decide (x20 < ((gt x17 x16).length : Int))) then
    if inb (gt x17 x16) x20 then
      some (.next ((if (W ((gt (gt x17 x16) x20) + 1)) > x19 then (W ((gt (gt x17 x16) x20) + 1)) else x19), (W (x20 + 1))))
    else none
  else
    some (.done x19)
def m_alloc_Homes_l3 (fuel : Nat) (y1 : List (List Int)) (y2 : List Bool) (p0 : MDfa) (s_ : List (List Int) × Int × Int) : Option (Ctl (List (List Int) × Int × Int) (List (List Int) × Int)) :=
  let (x14, x15, x16) := s_
  if (decide (x16 < (p0.States.length : Int))) then
    if inb p0.States x16 then
      Option.bind ((
        if inb y2 x16 then
          if (!(gt y2 x16)) then
            Option.bind (m_alloc_own fuel ((gt p0.States x16).Regs)) fun x18 =>
              if inb x14 x16 then
                some (x14.set (Int.toNat x16) x18)
              else none
          else
            some x14
        else none) : Option (List (List Int))) fun x17 =>
        if inb x17 x16 then
          Option.bind (iter (m_alloc_Homes_l4 fuel p0 x16 x17 y2 x15) fuel (x15, 0)) fun y8 =>
            some (.next (x17, y8, (W (x16 + 1))))
        else none
    else none
  else
    some (.done (x14, x15))
def m_alloc_Homes (fuel : Nat) (p0 : MDfa) : Option ((List (List Int)) × Int) :=
  Option.bind (m_subset_Right fuel p0) fun x1 =>
  if (!x1) then
    some (([] : List (List Int)), 0)
  else
    if mkOk 24 (p0.States.length : Int) then
      if mkOk 1 (p0.States.length : Int) then
        if inb (List.replicate (Int.toNat (p0.States.length : Int)) false) 0 then
          Option.bind (iter (m_alloc_Homes_l1 fuel p0) fuel ((List.replicate (Int.toNat (p0.States.length : Int)) ([] : (List Int))), ((List.replicate (Int.toNat (p0.States.length : Int)) false).set (Int.toNat 0) true), [0])) fun t1 => match t1 with
          | (y1, y2) =>
            Option.bind (iter (m_alloc_Homes_l3 fuel y1 y2 p0) fuel (y1, 0, 0)) fun t3 => match t3 with
            | (y6, y7) =>
              if nonE y6 then some (y6, y7) else none
        else none
      else none
    else none
def m_slices_Clone_int_int (fuel : Nat) (p0 : (List Int)) : Option (List Int) :=
  if apOk 8 ([] : (List Int)) p0 then some p0 else none
def m_alloc_maker_at (fuel : Nat) (p0 : MAllocMaker) (p1 : Int) (p2 : Int) : Option (Int) :=
  if (decide (p2 < 0)) then
  some p2
else
  if inb p0.homes p1 then
    if inb (gt p0.homes p1) p2 then
      some (gt (gt p0.homes p1) p2)
    else none
  else none
def m_moves_Order_1 (fuel : Nat) (p0 : MMove) (p1 : Int) : Option (Bool) :=
  Option.bind ((
  if (p0.To == p1) then
    some true
  else
    some (p0.From == p1)) : Option (Bool)) fun x1 =>
  some x1
def m_moves_atOnce_l1 (fuel : Nat) (p0 : (List MMove)) (s_ : List (Int × Int) × Int) : Option (Ctl (List (Int × Int) × Int) ((Unit) ⊕ (Bool))) :=
  let (x1, x2) := s_
  if (decide (x2 < (p0.length : Int))) then
    if inb p0 x2 then
      Option.bind ((
        if (decide (((gt p0 x2).To) < 0)) then
          some true
        else
          if (decide (((gt p0 x2).From) < (-1))) then
            some true
          else
            some (decide ((mget (mput x1 ((gt p0 x2).To) (W ((mget x1 ((gt p0 x2).To)) + 1))) ((gt p0 x2).To)) > 1))) : Option (Bool)) fun x3 =>
        if x3 then
          some (.done (.inr false))
        else
          some (.next ((mput x1 ((gt p0 x2).To) (W ((mget x1 ((gt p0 x2).To)) + 1))), (W (x2 + 1))))
    else none
  else
    some (.done (.inl ()))
def m_moves_atOnce (fuel : Nat) (p0 : (List MMove)) : Option (Bool) :=
  Option.bind (iter (m_moves_atOnce_l1 fuel p0) fuel (([] : List (Int × Int)), 0)) fun t1 => match t1 with
| .inl _ =>
  some true
| .inr r1 => some r1
def m_moves_ask_l1 (fuel : Nat) (p1 : Int) (p0 : (List MMove)) (s_ : MMovesOrder × Int) : Option (Ctl (MMovesOrder × Int) (MMovesOrder)) :=
  let (x1, x2) := s_
  if (decide (x2 < (p0.length : Int))) then
    Option.bind ((
      if inb p0 x2 then
        if (((gt p0 x2).To) != ((gt p0 x2).From)) then
          if apOk 8 x1.keys [(gt p0 x2).To] then
            some (⟨(mput x1.left ((gt p0 x2).To) ((gt p0 x2).From)), (x1.keys ++ [(gt p0 x2).To]), x1.spare, x1.out⟩ : MMovesOrder)
          else none
        else
          some x1
      else none) : Option (MMovesOrder)) fun x3 =>
      some (.next (x3, (W (x2 + 1))))
  else
    some (.done x1)
def m_moves_ask (fuel : Nat) (p0 : (List MMove)) (p1 : Int) : Option (MMovesOrder) :=
  Option.bind (iter (m_moves_ask_l1 fuel p1 p0) fuel ((⟨([] : List (Int × Int)), ([] : (List Int)), p1, ([] : (List MMove))⟩ : MMovesOrder), 0)) fun y1 =>
  if decide (y1.keys.length < 4611686018427387904) then
    some (⟨y1.left, (sortI y1.keys), y1.spare, y1.out⟩ : MMovesOrder)
  else none
def m_moves_order_waits_l1 (fuel : Nat) (p0 : MMovesOrder) (p1 : Int) (s_ : Int) : Option (Ctl (Int) ((Unit) ⊕ (Bool × MMovesOrder))) :=
  let x1 := s_
  if (decide (x1 < (p0.keys.length : Int))) then
    if inb p0.keys x1 then
      Option.bind ((
        if (mhas p0.left (gt p0.keys x1)) then
          some ((mget p0.left (gt p0.keys x1)) == p1)
        else
          some false) : Option (Bool)) fun x2 =>
        if x2 then
          some (.done (.inr (true, p0)))
        else
          some (.next (W (x1 + 1)))
    else none
  else
    some (.done (.inl ()))
def m_moves_order_waits (fuel : Nat) (p0 : MMovesOrder) (p1 : Int) : Option (Bool × MMovesOrder) :=
  Option.bind (iter (m_moves_order_waits_l1 fuel p0 p1) fuel 0) fun t1 => match t1 with
| .inl _ =>
  some (false, p0)
| .inr r1 => some r1
def m_moves_order_put (fuel : Nat) (p0 : MMovesOrder) (p1 : Int) : Option (MMovesOrder) :=
  if apOk 16 p0.out [(⟨p1, (mget p0.left p1)⟩ : MMove)] then
  some (⟨(mdel p0.left p1), p0.keys, p0.spare, (p0.out ++ [(⟨p1, (mget p0.left p1)⟩ : MMove)])⟩ : MMovesOrder)
else none
def m_moves_order_free_l1 (fuel : Nat) (p0 : MMovesOrder) (s_ : MMovesOrder × Bool × Int) : Option (Ctl (MMovesOrder × Bool × Int) (MMovesOrder × Bool)) :=
  let (x1, x2, x3) := s_
  if (decide (x3 < (p0.keys.length : Int))) then
    Option.bind ((
      if inb p0.keys x3 then
        Option.bind ((
          if (mhas x1.left (gt p0.keys x3)) then
            Option.bind (m_moves_order_waits fuel x1 (gt p0.keys x3)) fun x8 =>
              some (x8.2, (!x8.1))
          else
            some (x1, false)) : Option (MMovesOrder × Bool)) fun q2 => match q2 with
        | (x6, x7) =>
          if x7 then
            Option.bind (m_moves_order_put fuel x6 (gt p0.keys x3)) fun x9 =>
              some (x9, true)
          else
            some (x6, x2)
      else none) : Option (MMovesOrder × Bool)) fun q1 => match q1 with
    | (x4, x5) =>
      some (.next (x4, x5, (W (x3 + 1))))
  else
    some (.done (x1, x2))
def m_moves_order_free (fuel : Nat) (p0 : MMovesOrder) : Option (Bool × MMovesOrder) :=
  Option.bind (iter (m_moves_order_free_l1 fuel p0) fuel (p0, false, 0)) fun t1 => match t1 with
| (y1, y2) =>
  some (y2, y1)
def m_moves_order_ring_l2 (fuel : Nat) (x1 : MMovesOrder) (p0 : MMovesOrder) (x2 : Int) (s_ : MMovesOrder × Int) : Option (Ctl (MMovesOrder × Int) (MMovesOrder)) :=
  let (x3, x4) := s_
  if (decide (x4 < (x1.keys.length : Int))) then
    Option.bind ((
      if inb x1.keys x4 then
        Option.bind ((
          if (mhas x3.left (gt x1.keys x4)) then
            some ((mget x3.left (gt x1.keys x4)) == (gt p0.keys x2))
          else
            some false) : Option (Bool)) fun x6 =>
          if x6 then
            some (⟨(mput x3.left (gt x1.keys x4) x3.spare), x3.keys, x3.spare, x3.out⟩ : MMovesOrder)
          else
            some x3
      else none) : Option (MMovesOrder)) fun x5 =>
      some (.next (x5, (W (x4 + 1))))
  else
    some (.done x3)
def m_moves_order_ring_l1 (fuel : Nat) (p0 : MMovesOrder) (s_ : MMovesOrder × Int) : Option (Ctl (MMovesOrder × Int) ((MMovesOrder) ⊕ (MMovesOrder))) :=
  let (x1, x2) := s_
  if (decide (x2 < (p0.keys.length : Int))) then
    if inb p0.keys x2 then
      if (!(mhas x1.left (gt p0.keys x2))) then
        some (.next (x1, (W (x2 + 1))))
      else
        if apOk 16 x1.out [(⟨x1.spare, (gt p0.keys x2)⟩ : MMove)] then
          Option.bind (iter (m_moves_order_ring_l2 fuel x1 p0 x2) fuel ((⟨x1.left, x1.keys, x1.spare, (x1.out ++ [(⟨x1.spare, (gt p0.keys x2)⟩ : MMove)])⟩ : MMovesOrder), 0)) fun y2 =>
            some (.done (.inr y2))
        else none
    else none
  else
    some (.done (.inl x1))
def m_moves_order_ring (fuel : Nat) (p0 : MMovesOrder) : Option (MMovesOrder) :=
  Option.bind (iter (m_moves_order_ring_l1 fuel p0) fuel (p0, 0)) fun t1 => match t1 with
| .inl y1 =>
  some y1
| .inr r1 => some r1
def m_moves_order_run_l1 (fuel : Nat) (p0 : MMovesOrder) (s_ : MMovesOrder) : Option (Ctl (MMovesOrder) (MMovesOrder)) :=
  let x1 := s_
  if (decide ((x1.left.length : Int) > 0)) then
    Option.bind ((
      Option.bind (m_moves_order_free fuel x1) fun x3 =>
        if (!x3.1) then
          Option.bind (m_moves_order_ring fuel x3.2) fun x4 =>
            some x4
        else
          some x3.2) : Option (MMovesOrder)) fun x2 =>
      some (.next x2)
  else
    some (.done x1)
def m_moves_order_run (fuel : Nat) (p0 : MMovesOrder) : Option (MMovesOrder) :=
  Option.bind (iter (m_moves_order_run_l1 fuel p0) fuel p0) fun y1 =>
  some y1
def m_slices_IndexFunc_api_Move_api_Move_moves_Order_1_l1 (fuel : Nat) (p0 : (List MMove)) (p1 : Int) (s_ : Int) : Option (Ctl (Int) ((Unit) ⊕ (Int))) :=
  let x1 := s_
  if (decide (x1 < (p0.length : Int))) then
    if inb p0 x1 then
      Option.bind (m_moves_Order_1 fuel (gt p0 x1) p1) fun x2 =>
        if x2 then
          some (.done (.inr x1))
        else
          some (.next (W (x1 + 1)))
    else none
  else
    some (.done (.inl ()))
def m_slices_IndexFunc_api_Move_api_Move_moves_Order_1 (fuel : Nat) (p0 : (List MMove)) (p1 : Int) : Option (Int) :=
  Option.bind (iter (m_slices_IndexFunc_api_Move_api_Move_moves_Order_1_l1 fuel p0 p1) fuel 0) fun t1 => match t1 with
| .inl _ =>
  some (-1)
| .inr r1 => some r1
def m_slices_ContainsFunc_api_Move_api_Move_moves_Order_1 (fuel : Nat) (p0 : (List MMove)) (p1 : Int) : Option (Bool) :=
  Option.bind (m_slices_IndexFunc_api_Move_api_Move_moves_Order_1 fuel p0 p1) fun x1 =>
  some (decide (x1 ≥ 0))
def m_moves_Order (fuel : Nat) (p0 : (List MMove)) (p1 : Int) : Option ((List MMove) × Int) :=
  Option.bind ((
  Option.bind (m_moves_atOnce fuel p0) fun x2 =>
    if (!x2) then
      some true
    else
      if (decide (p1 < 0)) then
        some true
      else
        Option.bind (m_slices_ContainsFunc_api_Move_api_Move_moves_Order_1 fuel p0 p1) fun x3 =>
          some x3) : Option (Bool)) fun x1 =>
  if x1 then
    some (([] : List MMove), 1)
  else
    Option.bind (m_moves_ask fuel p0 p1) fun x4 =>
      Option.bind (m_moves_order_run fuel x4) fun x5 =>
        some (x5.out, 0)
def m_alloc_maker_way_l1 (fuel : Nat) (p0 : MAllocMaker) (p1 : Int) (p2 : MEdge) (s_ : List MMove × Int) : Option (Ctl (List MMove × Int) (List MMove)) :=
  let (x1, x2) := s_
  if (decide (x2 < (p2.Src.length : Int))) then
    Option.bind ((
      if inb p2.Src x2 then
        Option.bind ((
          if inb p0.homes p2.To then
            if inb (gt p0.homes p2.To) x2 then
              Option.bind (m_alloc_maker_at fuel p0 p1 (gt p2.Src x2)) fun x5 =>
                some (⟨(gt (gt p0.homes p2.To) x2), x5⟩ : MMove)
            else none
          else none) : Option (MMove)) fun x4 =>
          if (x4.To != x4.From) then
            if apOk 16 x1 [x4] then
              some (x1 ++ [x4])
            else none
          else
            some x1
      else none) : Option (List MMove)) fun x3 =>
      some (.next (x3, (W (x2 + 1))))
  else
    some (.done x1)
def m_alloc_maker_way (fuel : Nat) (p0 : MAllocMaker) (p1 : Int) (p2 : MEdge) : Option (MWay) :=
  Option.bind (iter (m_alloc_maker_way_l1 fuel p0 p1 p2) fuel (([] : List MMove), 0)) fun y1 =>
  Option.bind (m_moves_Order fuel y1 p0.many) fun x7 =>
    some (⟨p2.To, x7.1⟩ : MWay)
def m_alloc_maker_stand_l1 (fuel : Nat) (p0 : MAllocMaker) (p1 : Int) (s_ : MStand × Int) : Option (Ctl (MStand × Int) (MStand)) :=
  let (x1, x2) := s_
  if (decide (x2 < (((gt p0.d.States p1).Accept).length : Int))) then
    if inb ((gt p0.d.States p1).Accept) x2 then
      Option.bind (m_alloc_maker_at fuel p0 p1 (gt ((gt p0.d.States p1).Accept) x2)) fun x3 =>
        if apOk 8 x1.Accept [x3] then
          some (.next ((⟨(x1.Accept ++ [x3]), x1.Ways⟩ : MStand), (W (x2 + 1))))
        else none
    else none
  else
    some (.done x1)
def m_alloc_maker_stand_l2 (fuel : Nat) (p0 : MAllocMaker) (p1 : Int) (y1 : MStand) (s_ : MStand × Int) : Option (Ctl (MStand × Int) (MStand)) :=
  let (x4, x5) := s_
  if (decide (x5 < (((gt p0.d.States p1).Edges).length : Int))) then
    if inb ((gt p0.d.States p1).Edges) x5 then
      Option.bind (m_alloc_maker_way fuel p0 p1 (gt ((gt p0.d.States p1).Edges) x5)) fun x6 =>
        if apOk 32 x4.Ways [x6] then
          some (.next ((⟨x4.Accept, (x4.Ways ++ [x6])⟩ : MStand), (W (x5 + 1))))
        else none
    else none
  else
    some (.done x4)
def m_alloc_maker_stand (fuel : Nat) (p0 : MAllocMaker) (p1 : Int) : Option (MStand) :=
  if inb p0.d.States p1 then
  Option.bind (iter (m_alloc_maker_stand_l1 fuel p0 p1) fuel ((⟨([] : (List Int)), ([] : (List MWay))⟩ : MStand), 0)) fun y1 =>
    if inb p0.d.States p1 then
      Option.bind (iter (m_alloc_maker_stand_l2 fuel p0 p1 y1) fuel (y1, 0)) fun y2 =>
        some y2
    else none
else none
def m_alloc_Make_l1 (fuel : Nat) (p0 : MDfa) (x1 : (List (List Int)) × Int) (x2 : MProg) (s_ : MProg × Int) : Option (Ctl (MProg × Int) (MProg)) :=
  let (x5, x6) := s_
  if (decide (x6 < (p0.States.length : Int))) then
    Option.bind (m_alloc_maker_stand fuel (⟨p0, x1.1, x1.2⟩ : MAllocMaker) x6) fun x7 =>
      if apOk 48 x5.Stands [x7] then
        some (.next ((⟨x5.Tags, x5.Regs, x5.Class, (x5.Stands ++ [x7])⟩ : MProg), (W (x6 + 1))))
      else none
  else
    some (.done x5)
def m_alloc_Make (fuel : Nat) (p0 : MDfa) : Option (MProg × Int) :=
  Option.bind (m_alloc_Homes fuel p0) fun x1 =>
  if (x1.1.isEmpty) then
    some ((⟨(0 : Int), (0 : Int), ([] : (List Int)), ([] : (List MStand))⟩ : MProg), 11)
  else
    Option.bind ((
      Option.bind (m_slices_Clone_int_int fuel p0.Class) fun x3 =>
        some (⟨p0.Tags, (W (x1.2 + 1)), x3, ([] : (List MStand))⟩ : MProg)) : Option (MProg)) fun x2 =>
      Option.bind (iter (m_alloc_Make_l1 fuel p0 x1 x2) fuel (x2, 0)) fun y1 =>
        some (y1, 0)
def m_law28_line (fuel : Nat)  : Option (MDfa) :=
  if mkOk 8 256 then
  some (⟨1, (List.replicate (Int.toNat 256) (0 : Int)), [(⟨(0 : Int), ([] : (List Int)), [(⟨1, [(-1)]⟩ : MEdge)]⟩ : MState), (⟨1, ([] : (List Int)), [(⟨2, [0]⟩ : MEdge)]⟩ : MState), (⟨1, [0], [(⟨(-1), ([] : (List Int))⟩ : MEdge)]⟩ : MState)]⟩ : MDfa)
else none
def m_alloc_Right_1 (fuel : Nat) (p0 : Int) (p1 : MProg) : Option (Bool) :=
  Option.bind ((
  if (decide (p0 < (-2))) then
    some true
  else
    some (decide (p0 ≥ p1.Regs))) : Option (Bool)) fun x1 =>
  some x1
def m_alloc_right_1 (fuel : Nat) (p0 : MMove) (p1 : MProg) : Option (Bool) :=
  Option.bind ((
  if (decide (p0.To < 0)) then
    some true
  else
    if (decide (p0.To ≥ p1.Regs)) then
      some true
    else
      if (decide (p0.From < (-1))) then
        some true
      else
        if (decide (p0.From ≥ p1.Regs)) then
          some true
        else
          some (p0.From == p0.To)) : Option (Bool)) fun x1 =>
  some x1
def m_slices_IndexFunc_api_Move_api_Move_alloc_right_1_l1 (fuel : Nat) (p0 : (List MMove)) (p1 : MProg) (s_ : Int) : Option (Ctl (Int) ((Unit) ⊕ (Int))) :=
  let x1 := s_
  if (decide (x1 < (p0.length : Int))) then
    if inb p0 x1 then
      Option.bind (m_alloc_right_1 fuel (gt p0 x1) p1) fun x2 =>
        if x2 then
          some (.done (.inr x1))
        else
          some (.next (W (x1 + 1)))
    else none
  else
    some (.done (.inl ()))
def m_slices_IndexFunc_api_Move_api_Move_alloc_right_1 (fuel : Nat) (p0 : (List MMove)) (p1 : MProg) : Option (Int) :=
  Option.bind (iter (m_slices_IndexFunc_api_Move_api_Move_alloc_right_1_l1 fuel p0 p1) fuel 0) fun t1 => match t1 with
| .inl _ =>
  some (-1)
| .inr r1 => some r1
def m_slices_ContainsFunc_api_Move_api_Move_alloc_right_1 (fuel : Nat) (p0 : (List MMove)) (p1 : MProg) : Option (Bool) :=
  Option.bind (m_slices_IndexFunc_api_Move_api_Move_alloc_right_1 fuel p0 p1) fun x1 =>
  some (decide (x1 ≥ 0))
def m_alloc_right (fuel : Nat) (p0 : MProg) (p1 : MWay) : Option (Bool) :=
  Option.bind ((
  if (decide (p1.To < (-1))) then
    some true
  else
    if (decide (p1.To ≥ (p0.Stands.length : Int))) then
      some true
    else
      if (p1.To == (-1)) then
        if (decide ((p1.Moves.length : Int) > 0)) then
          some true
        else
          some (decide ((p1.Moves.length : Int) > (W (2 * p0.Regs))))
      else
        some (decide ((p1.Moves.length : Int) > (W (2 * p0.Regs))))) : Option (Bool)) fun x1 =>
  if x1 then
    some false
  else
    Option.bind (m_slices_ContainsFunc_api_Move_api_Move_alloc_right_1 fuel p1.Moves p0) fun x2 =>
      some (!x2)
def m_alloc_Right_2 (fuel : Nat) (p0 : MWay) (p1 : MProg) : Option (Bool) :=
  Option.bind (m_alloc_right fuel p1 p0) fun x1 =>
  some (!x1)
def m_slices_IndexFunc_int_int_alloc_Right_1_l1 (fuel : Nat) (p0 : (List Int)) (p1 : MProg) (s_ : Int) : Option (Ctl (Int) ((Unit) ⊕ (Int))) :=
  let x1 := s_
  if (decide (x1 < (p0.length : Int))) then
    if inb p0 x1 then
      Option.bind (m_alloc_Right_1 fuel (gt p0 x1) p1) fun x2 =>
        if x2 then
          some (.done (.inr x1))
        else
          some (.next (W (x1 + 1)))
    else none
  else
    some (.done (.inl ()))
def m_slices_IndexFunc_int_int_alloc_Right_1 (fuel : Nat) (p0 : (List Int)) (p1 : MProg) : Option (Int) :=
  Option.bind (iter (m_slices_IndexFunc_int_int_alloc_Right_1_l1 fuel p0 p1) fuel 0) fun t1 => match t1 with
| .inl _ =>
  some (-1)
| .inr r1 => some r1
def m_slices_ContainsFunc_int_int_alloc_Right_1 (fuel : Nat) (p0 : (List Int)) (p1 : MProg) : Option (Bool) :=
  Option.bind (m_slices_IndexFunc_int_int_alloc_Right_1 fuel p0 p1) fun x1 =>
  some (decide (x1 ≥ 0))
def m_slices_IndexFunc_api_Way_api_Way_alloc_Right_2_l1 (fuel : Nat) (p0 : (List MWay)) (p1 : MProg) (s_ : Int) : Option (Ctl (Int) ((Unit) ⊕ (Int))) :=
  let x1 := s_
  if (decide (x1 < (p0.length : Int))) then
    if inb p0 x1 then
      Option.bind (m_alloc_Right_2 fuel (gt p0 x1) p1) fun x2 =>
        if x2 then
          some (.done (.inr x1))
        else
          some (.next (W (x1 + 1)))
    else none
  else
    some (.done (.inl ()))
def m_slices_IndexFunc_api_Way_api_Way_alloc_Right_2 (fuel : Nat) (p0 : (List MWay)) (p1 : MProg) : Option (Int) :=
  Option.bind (iter (m_slices_IndexFunc_api_Way_api_Way_alloc_Right_2_l1 fuel p0 p1) fuel 0) fun t1 => match t1 with
| .inl _ =>
  some (-1)
| .inr r1 => some r1
def m_slices_ContainsFunc_api_Way_api_Way_alloc_Right_2 (fuel : Nat) (p0 : (List MWay)) (p1 : MProg) : Option (Bool) :=
  Option.bind (m_slices_IndexFunc_api_Way_api_Way_alloc_Right_2 fuel p0 p1) fun x1 =>
  some (decide (x1 ≥ 0))
def m_alloc_Right_l1 (fuel : Nat) (p0 : MProg) (x3 : (List Int)) (s_ : Int) : Option (Ctl (Int) ((Unit) ⊕ (Bool))) :=
  let x4 := s_
  if (decide (x4 < (p0.Stands.length : Int))) then
    if inb p0.Stands x4 then
      Option.bind ((
        if ((((gt p0.Stands x4).Accept).length : Int) != 0) then
          if ((((gt p0.Stands x4).Accept).length : Int) != p0.Tags) then
            some true
          else
            Option.bind (m_slices_ContainsFunc_int_int_alloc_Right_1 fuel ((gt p0.Stands x4).Accept) p0) fun x6 =>
              if x6 then
                some true
              else
                some ((((gt p0.Stands x4).Ways).length : Int) != (x3.length : Int))
        else
          Option.bind (m_slices_ContainsFunc_int_int_alloc_Right_1 fuel ((gt p0.Stands x4).Accept) p0) fun x7 =>
            if x7 then
              some true
            else
              some ((((gt p0.Stands x4).Ways).length : Int) != (x3.length : Int))) : Option (Bool)) fun x5 =>
        if x5 then
          some (.done (.inr false))
        else
          Option.bind (m_slices_ContainsFunc_api_Way_api_Way_alloc_Right_2 fuel ((gt p0.Stands x4).Ways) p0) fun x8 =>
            if x8 then
              some (.done (.inr false))
            else
              some (.next (W (x4 + 1)))
    else none
  else
    some (.done (.inl ()))
def m_alloc_Right (fuel : Nat) (p0 : MProg) : Option (Bool) :=
  Option.bind ((
  if (decide (p0.Tags < 1)) then
    some true
  else
    if (decide (p0.Tags > 19)) then
      some true
    else
      if ((Int.tmod p0.Tags 2) == 0) then
        some true
      else
        if (decide (p0.Regs < 1)) then
          some true
        else
          if (decide (p0.Regs > 1217)) then
            some true
          else
            if ((p0.Stands.length : Int) == 0) then
              some true
            else
              if (decide ((p0.Stands.length : Int) > 400)) then
                some true
              else
                Option.bind (m_part_Right fuel p0.Class) fun x2 =>
                  some (!x2)) : Option (Bool)) fun x1 =>
  if x1 then
    some false
  else
    Option.bind (m_part_Least fuel p0.Class) fun x3 =>
      Option.bind (iter (m_alloc_Right_l1 fuel p0 x3) fuel 0) fun t1 => match t1 with
      | .inl _ =>
        some true
      | .inr r1 => some r1
def m_slices_Clone_api_Move_api_Move (fuel : Nat) (p0 : (List MMove)) : Option (List MMove) :=
  if apOk 16 ([] : (List MMove)) p0 then some p0 else none
def m_alloc_copied_l2 (fuel : Nat) (x4 : MProg) (p0 : MProg) (x5 : Int) (x6 : (List Int)) (s_ : MStand × Int) : Option (Ctl (MStand × Int) (MStand)) :=
  let (x7, x8) := s_
  if (decide (x8 < (((gt p0.Stands x5).Ways).length : Int))) then
    if inb ((gt p0.Stands x5).Ways) x8 then
      Option.bind (m_slices_Clone_api_Move_api_Move fuel ((gt ((gt p0.Stands x5).Ways) x8).Moves)) fun x9 =>
        if apOk 32 x7.Ways [(⟨(gt ((gt p0.Stands x5).Ways) x8).To, x9⟩ : MWay)] then
          some (.next ((⟨x7.Accept, (x7.Ways ++ [(⟨(gt ((gt p0.Stands x5).Ways) x8).To, x9⟩ : MWay)])⟩ : MStand), (W (x8 + 1))))
        else none
    else none
  else
    some (.done x7)
def m_alloc_copied_l1 (fuel : Nat) (x1 : MProg) (p0 : MProg) (s_ : MProg × Int) : Option (Ctl (MProg × Int) (MProg)) :=
  let (x4, x5) := s_
  if (decide (x5 < (p0.Stands.length : Int))) then
    if inb p0.Stands x5 then
      Option.bind (m_slices_Clone_int_int fuel ((gt p0.Stands x5).Accept)) fun x6 =>
        Option.bind (iter (m_alloc_copied_l2 fuel x4 p0 x5 x6) fuel ((⟨x6, ([] : (List MWay))⟩ : MStand), 0)) fun y2 =>
          if apOk 48 x4.Stands [y2] then
            some (.next ((⟨x4.Tags, x4.Regs, x4.Class, (x4.Stands ++ [y2])⟩ : MProg), (W (x5 + 1))))
          else none
    else none
  else
    some (.done x4)
def m_alloc_copied (fuel : Nat) (p0 : MProg) : Option (MProg) :=
  Option.bind ((
  Option.bind (m_slices_Clone_int_int fuel p0.Class) fun x2 =>
    some (⟨p0.Tags, p0.Regs, x2, ([] : (List MStand))⟩ : MProg)) : Option (MProg)) fun x1 =>
  Option.bind (iter (m_alloc_copied_l1 fuel x1 p0) fuel (x1, 0)) fun y1 =>
    some y1
def m_alloc_Run_Here (fuel : Nat) (p0 : MAllocRun) : Option (Bool) :=
  Option.bind ((
  if (decide (p0.stand ≥ 0)) then
    if inb p0.p.Stands p0.stand then
      some (decide ((((gt p0.p.Stands p0.stand).Accept).length : Int) > 0))
    else none
  else
    some false) : Option (Bool)) fun x1 =>
  some x1
def m_alloc_Run_value (fuel : Nat) (p0 : MAllocRun) (p1 : Int) : Option (Int) :=
  if (p1 == (-1)) then
  some p0.at_
else
  if (p1 == (-2)) then
    some (-1)
  else
    if inb p0.regs p1 then
      some (gt p0.regs p1)
    else none
def m_alloc_Run_accept_l1 (fuel : Nat) (p0 : MAllocRun) (s_ : List Int × Int) : Option (Ctl (List Int × Int) (List Int)) :=
  let (x2, x3) := s_
  if (decide (x3 < (((gt p0.p.Stands p0.stand).Accept).length : Int))) then
    if inb ((gt p0.p.Stands p0.stand).Accept) x3 then
      Option.bind (m_alloc_Run_value fuel p0 (gt ((gt p0.p.Stands p0.stand).Accept) x3)) fun x4 =>
        if apOk 8 x2 [x4] then
          some (.next ((x2 ++ [x4]), (W (x3 + 1))))
        else none
    else none
  else
    some (.done x2)
def m_alloc_Run_accept (fuel : Nat) (p0 : MAllocRun) : Option (MAllocRun) :=
  Option.bind (m_alloc_Run_Here fuel p0) fun x1 =>
  if (!x1) then
    some p0
  else
    if inb p0.p.Stands p0.stand then
      Option.bind (iter (m_alloc_Run_accept_l1 fuel p0) fuel (([] : List Int), 0)) fun y1 =>
        some (⟨(⟨y1, p0.at_⟩ : MAllocLast), p0.p, p0.at_, p0.stand, p0.work, p0.regs⟩ : MAllocRun)
    else none
def m_alloc_Start (fuel : Nat) (p0 : MProg) : Option ((Option MAllocRun) × Int) :=
  Option.bind (m_alloc_Right fuel p0) fun x1 =>
  if (!x1) then
    some (none, 11)
  else
    Option.bind ((
      if mkOk 8 p0.Regs then
        Option.bind (m_alloc_copied fuel p0) fun x3 =>
          some (⟨(⟨([] : (List Int)), (0 : Int)⟩ : MAllocLast), x3, (0 : Int), (0 : Int), (0 : Int), (List.replicate (Int.toNat p0.Regs) (0 : Int))⟩ : MAllocRun)
      else none) : Option (MAllocRun)) fun x2 =>
      Option.bind (m_alloc_Run_accept fuel x2) fun x5 =>
        some ((some x5), 0)
def m_alloc_Run_Feed_l1 (fuel : Nat) (p0 : MAllocRun) (p1 : Int) (s_ : MAllocRun × Int) : Option (Ctl (MAllocRun × Int) (MAllocRun)) :=
  let (x2, x3) := s_
  if (decide (x3 < (((gt ((gt p0.p.Stands p0.stand).Ways) (gt p0.p.Class p1)).Moves).length : Int))) then
    if inb ((gt ((gt p0.p.Stands p0.stand).Ways) (gt p0.p.Class p1)).Moves) x3 then
      Option.bind (m_alloc_Run_value fuel x2 ((gt ((gt ((gt p0.p.Stands p0.stand).Ways) (gt p0.p.Class p1)).Moves) x3).From)) fun x4 =>
        if inb x2.regs ((gt ((gt ((gt p0.p.Stands p0.stand).Ways) (gt p0.p.Class p1)).Moves) x3).To) then
          some (.next ((⟨x2.last, x2.p, x2.at_, x2.stand, x2.work, (x2.regs.set (Int.toNat ((gt ((gt ((gt p0.p.Stands p0.stand).Ways) (gt p0.p.Class p1)).Moves) x3).To)) x4)⟩ : MAllocRun), (W (x3 + 1))))
        else none
    else none
  else
    some (.done x2)
def m_alloc_Run_Feed (fuel : Nat) (p0 : MAllocRun) (p1 : Int) : Option (MAllocRun) :=
  Option.bind ((
  if (decide (p0.stand ≥ 0)) then
    if inb p0.p.Stands p0.stand then
      if inb p0.p.Class p1 then
        if inb ((gt p0.p.Stands p0.stand).Ways) (gt p0.p.Class p1) then
          Option.bind (iter (m_alloc_Run_Feed_l1 fuel p0 p1) fuel ((⟨p0.last, p0.p, p0.at_, p0.stand, (W (p0.work + 1)), p0.regs⟩ : MAllocRun), 0)) fun y1 =>
            some (⟨y1.last, y1.p, y1.at_, (gt ((gt p0.p.Stands p0.stand).Ways) (gt p0.p.Class p1)).To, (W (y1.work + (((gt ((gt p0.p.Stands p0.stand).Ways) (gt p0.p.Class p1)).Moves).length : Int))), y1.regs⟩ : MAllocRun)
        else none
      else none
    else none
  else
    some (⟨p0.last, p0.p, p0.at_, p0.stand, (W (p0.work + 1)), p0.regs⟩ : MAllocRun)) : Option (MAllocRun)) fun x1 =>
  Option.bind (m_alloc_Run_accept fuel (⟨x1.last, x1.p, (W (x1.at_ + 1)), x1.stand, x1.work, x1.regs⟩ : MAllocRun)) fun x5 =>
    some x5
def m_mark_Spans_l1 (fuel : Nat) (p0 : (List Int)) (p1 : Int) (s_ : List MSpan × Int) : Option (Ctl (List MSpan × Int) (List MSpan)) :=
  let (x1, x2) := s_
  if (decide (x2 < (p0.length : Int))) then
    Option.bind ((
      if inb p0 x2 then
        Option.bind ((
          if (decide (x2 > 0)) then
            some ((Int.tmod x2 2) == 0)
          else
            some false) : Option (Bool)) fun x4 =>
          if x4 then
            some x1
          else
            if (decide (x2 > 0)) then
              if inb p0 (W (x2 + 1)) then
                Option.bind ((
                  Option.bind ((
                    if (decide ((gt p0 x2) < 0)) then
                      some true
                    else
                      some (decide ((gt p0 (W (x2 + 1))) < 0))) : Option (Bool)) fun x7 =>
                    if x7 then
                      some ((-1), (-1))
                    else
                      some ((gt p0 x2), (gt p0 (W (x2 + 1))))) : Option (Int × Int)) fun q3 => match q3 with
                | (x5, x6) =>
                  if apOk 16 x1 [(⟨x5, x6⟩ : MSpan)] then
                    some (x1 ++ [(⟨x5, x6⟩ : MSpan)])
                  else none
              else none
            else
              Option.bind ((
                Option.bind ((
                  if (decide ((gt p0 x2) < 0)) then
                    some true
                  else
                    some (decide (p1 < 0))) : Option (Bool)) fun x10 =>
                  if x10 then
                    some ((-1), (-1))
                  else
                    some ((gt p0 x2), p1)) : Option (Int × Int)) fun q5 => match q5 with
              | (x8, x9) =>
                if apOk 16 x1 [(⟨x8, x9⟩ : MSpan)] then
                  some (x1 ++ [(⟨x8, x9⟩ : MSpan)])
                else none
      else none) : Option (List MSpan)) fun x3 =>
      some (.next (x3, (W (x2 + 1))))
  else
    some (.done x1)
def m_mark_Spans (fuel : Nat) (p0 : (List Int)) (p1 : Int) : Option ((List MSpan)) :=
  if ((Int.tmod (p0.length : Int) 2) == 0) then
  some ([] : List MSpan)
else
  Option.bind (iter (m_mark_Spans_l1 fuel p0 p1) fuel (([] : List MSpan), 0)) fun y1 =>
    some y1
def m_alloc_last_Found (fuel : Nat) (p0 : MAllocRun) : Option ((List MSpan) × Bool) :=
  if ((p0.last.tags.length : Int) == 0) then
  some (([] : List MSpan), false)
else
  Option.bind (m_mark_Spans fuel p0.last.tags p0.last.to) fun x1 =>
    some (x1, true)
def m_slices_Equal_int_int_l1 (fuel : Nat) (p0 : (List Int)) (p1 : (List Int)) (s_ : Int) : Option (Ctl (Int) ((Unit) ⊕ (Bool))) :=
  let x1 := s_
  if (decide (x1 < (p0.length : Int))) then
    if inb p0 x1 then
      if inb p1 x1 then
        if ((gt p0 x1) != (gt p1 x1)) then
          some (.done (.inr false))
        else
          some (.next (W (x1 + 1)))
      else none
    else none
  else
    some (.done (.inl ()))
def m_slices_Equal_int_int (fuel : Nat) (p0 : (List Int)) (p1 : (List Int)) : Option (Bool) :=
  if ((p0.length : Int) != (p1.length : Int)) then
  some false
else
  Option.bind (iter (m_slices_Equal_int_int_l1 fuel p0 p1) fuel 0) fun t1 => match t1 with
  | .inl _ =>
    some true
  | .inr r1 => some r1
def m_slices_Equal_api_Move_api_Move_l1 (fuel : Nat) (p0 : (List MMove)) (p1 : (List MMove)) (s_ : Int) : Option (Ctl (Int) ((Unit) ⊕ (Bool))) :=
  let x1 := s_
  if (decide (x1 < (p0.length : Int))) then
    if inb p0 x1 then
      if inb p1 x1 then
        if (!((((gt p0 x1).To) == ((gt p1 x1).To)) && (((gt p0 x1).From) == ((gt p1 x1).From)))) then
          some (.done (.inr false))
        else
          some (.next (W (x1 + 1)))
      else none
    else none
  else
    some (.done (.inl ()))
def m_slices_Equal_api_Move_api_Move (fuel : Nat) (p0 : (List MMove)) (p1 : (List MMove)) : Option (Bool) :=
  if ((p0.length : Int) != (p1.length : Int)) then
  some false
else
  Option.bind (iter (m_slices_Equal_api_Move_api_Move_l1 fuel p0 p1) fuel 0) fun t1 => match t1 with
  | .inl _ =>
    some true
  | .inr r1 => some r1
def m_alloc_sameWay (fuel : Nat) (p0 : MWay) (p1 : MWay) : Option (Bool) :=
  Option.bind ((
  if (p0.To == p1.To) then
    Option.bind (m_slices_Equal_api_Move_api_Move fuel p0.Moves p1.Moves) fun x2 =>
      some x2
  else
    some false) : Option (Bool)) fun x1 =>
  some x1
def m_slices_EqualFunc_api_Way_api_Way_api_Way_api_Way_alloc_sameWay_l1 (fuel : Nat) (p1 : (List MWay)) (p0 : (List MWay)) (s_ : Int) : Option (Ctl (Int) ((Unit) ⊕ (Bool))) :=
  let x1 := s_
  if (decide (x1 < (p0.length : Int))) then
    if inb p0 x1 then
      if inb p1 x1 then
        Option.bind (m_alloc_sameWay fuel (gt p0 x1) (gt p1 x1)) fun x2 =>
          if (!x2) then
            some (.done (.inr false))
          else
            some (.next (W (x1 + 1)))
      else none
    else none
  else
    some (.done (.inl ()))
def m_slices_EqualFunc_api_Way_api_Way_api_Way_api_Way_alloc_sameWay (fuel : Nat) (p0 : (List MWay)) (p1 : (List MWay)) (p2 : Unit) : Option (Bool) :=
  if ((p0.length : Int) != (p1.length : Int)) then
  some false
else
  Option.bind (iter (m_slices_EqualFunc_api_Way_api_Way_api_Way_api_Way_alloc_sameWay_l1 fuel p1 p0) fuel 0) fun t1 => match t1 with
  | .inl _ =>
    some true
  | .inr r1 => some r1
def m_alloc_sameStand (fuel : Nat) (p0 : MStand) (p1 : MStand) : Option (Bool) :=
  Option.bind ((
  Option.bind (m_slices_Equal_int_int fuel p0.Accept p1.Accept) fun x2 =>
    if x2 then
      Option.bind (m_slices_EqualFunc_api_Way_api_Way_api_Way_api_Way_alloc_sameWay fuel p0.Ways p1.Ways ()) fun x3 =>
        some x3
    else
      some false) : Option (Bool)) fun x1 =>
  some x1
def m_slices_EqualFunc_api_Stand_api_Stand_api_Stand_api_Stand_alloc_sameStand_l1 (fuel : Nat) (p1 : (List MStand)) (p0 : (List MStand)) (s_ : Int) : Option (Ctl (Int) ((Unit) ⊕ (Bool))) :=
  let x1 := s_
  if (decide (x1 < (p0.length : Int))) then
    if inb p0 x1 then
      if inb p1 x1 then
        Option.bind (m_alloc_sameStand fuel (gt p0 x1) (gt p1 x1)) fun x2 =>
          if (!x2) then
            some (.done (.inr false))
          else
            some (.next (W (x1 + 1)))
      else none
    else none
  else
    some (.done (.inl ()))
def m_slices_EqualFunc_api_Stand_api_Stand_api_Stand_api_Stand_alloc_sameStand (fuel : Nat) (p0 : (List MStand)) (p1 : (List MStand)) (p2 : Unit) : Option (Bool) :=
  if ((p0.length : Int) != (p1.length : Int)) then
  some false
else
  Option.bind (iter (m_slices_EqualFunc_api_Stand_api_Stand_api_Stand_api_Stand_alloc_sameStand_l1 fuel p1 p0) fuel 0) fun t1 => match t1 with
  | .inl _ =>
    some true
  | .inr r1 => some r1
def m_alloc_Same (fuel : Nat) (p0 : MProg) (p1 : MProg) : Option (Bool) :=
  Option.bind ((
  if (p0.Tags == p1.Tags) then
    if (p0.Regs == p1.Regs) then
      Option.bind (m_slices_Equal_int_int fuel p0.Class p1.Class) fun x2 =>
        if x2 then
          Option.bind (m_slices_EqualFunc_api_Stand_api_Stand_api_Stand_api_Stand_alloc_sameStand fuel p0.Stands p1.Stands ()) fun x3 =>
            some x3
        else
          some false
    else
      some false
  else
    some false) : Option (Bool)) fun x1 =>
  some x1
def m_ref14_Spanned_l1 (fuel : Nat) (p0 : (List MSpan)) (p1 : (List MSpan)) (s_ : Int) : Option (Ctl (Int) ((Unit) ⊕ (Bool))) :=
  let x1 := s_
  if (decide (x1 < (p0.length : Int))) then
    if inb p0 x1 then
      if inb p1 x1 then
        if (!((((gt p0 x1).From) == ((gt p1 x1).From)) && (((gt p0 x1).To) == ((gt p1 x1).To)))) then
          some (.done (.inr false))
        else
          some (.next (W (x1 + 1)))
      else none
    else none
  else
    some (.done (.inl ()))
def m_ref14_Spanned (fuel : Nat) (p0 : (List MSpan)) (p1 : (List MSpan)) : Option (Bool) :=
  if ((p0.length : Int) != (p1.length : Int)) then
  some false
else
  Option.bind (iter (m_ref14_Spanned_l1 fuel p0 p1) fuel 0) fun t1 => match t1 with
  | .inl _ =>
    some true
  | .inr r1 => some r1
def m_law28_sure (fuel : Nat)  : Option (Bool) :=
  Option.bind (m_law28_line fuel ) fun x1 =>
  Option.bind (m_alloc_Homes fuel x1) fun x2 =>
    Option.bind (m_law28_line fuel ) fun x3 =>
      Option.bind (m_alloc_Make fuel x3) fun x4 =>
        Option.bind (m_alloc_Start fuel x4.1) fun x5 => match x5 with
        | (none, xe1) =>
          Option.bind ((
            if (x4.2 != 0) then
              some ()
            else
              if (xe1 != 0) then
                some ()
              else
                some ()) : Option (Unit)) fun q1 => match q1 with
          | _ =>
            some false
        | (some o1, xe1) =>
          Option.bind ((
            if (x4.2 != 0) then
              some true
            else
              if (xe1 != 0) then
                some true
              else
                if ((x4.1.Stands.length : Int) != 3) then
                  some true
                else
                  if inb x4.1.Stands 0 then
                    if ((((gt x4.1.Stands 0).Ways).length : Int) != 1) then
                      some true
                    else
                      if inb x4.1.Stands 1 then
                        some ((((gt x4.1.Stands 1).Ways).length : Int) != 1)
                      else none
                  else none) : Option (Bool)) fun x6 =>
            if x6 then
              some false
            else
              Option.bind (m_alloc_Run_Feed fuel o1 1) fun x7 =>
                Option.bind (m_alloc_Run_Feed fuel x7 2) fun x8 =>
                  Option.bind (m_alloc_last_Found fuel x8) fun x9 =>
                    Option.bind ((
                      if ((x2.1.length : Int) == 3) then
                        if (x2.2 == 1) then
                          if (x4.1.Regs == 2) then
                            if inb x4.1.Stands 1 then
                              if inb ((gt x4.1.Stands 1).Ways) 0 then
                                if ((((gt ((gt x4.1.Stands 1).Ways) 0).Moves).length : Int) == 0) then
                                  if inb x4.1.Stands 0 then
                                    if inb ((gt x4.1.Stands 0).Ways) 0 then
                                      if ((((gt ((gt x4.1.Stands 0).Ways) 0).Moves).length : Int) == 1) then
                                        Option.bind (m_alloc_Right fuel x4.1) fun x11 =>
                                          if x11 then
                                            Option.bind (m_alloc_Same fuel x4.1 x4.1) fun x12 =>
                                              if x12 then
                                                if x9.2 then
                                                  Option.bind (m_alloc_Run_Here fuel x8) fun x13 =>
                                                    if x13 then
                                                      Option.bind (m_ref14_Spanned fuel x9.1 [(⟨(0 : Int), 2⟩ : MSpan)]) fun x14 =>
                                                        some x14
                                                    else
                                                      some false
                                                else
                                                  some false
                                              else
                                                some false
                                          else
                                            some false
                                      else
                                        some false
                                    else none
                                  else none
                                else
                                  some false
                              else none
                            else none
                          else
                            some false
                        else
                          some false
                      else
                        some false) : Option (Bool)) fun x10 =>
                      some x10
def m_ref13_Right_l1 (fuel : Nat) (p0 : (List Int)) (s_ : Int × Int) : Option (Ctl (Int × Int) ((Unit) ⊕ (Bool))) :=
  let (x1, x2) := s_
  if (decide (x2 < (p0.length : Int))) then
    Option.bind ((
      Option.bind ((
        if inb p0 x2 then
          if (decide ((gt p0 x2) < 0)) then
            some true
          else
            if inb p0 x2 then
              some (decide ((gt p0 x2) > x1))
            else none
        else none) : Option (Bool)) fun x4 =>
        if x4 then
          some (.inr false)
        else
          if inb p0 x2 then
            if ((gt p0 x2) == x1) then
              some (.inl (W (x1 + 1)))
            else
              some (.inl x1)
          else none) : Option ((Int) ⊕ (Bool))) fun q1 => match q1 with
    | .inl x3 =>
      some (.next (x3, (W (x2 + 1))))
    | .inr r1 => some (.done (.inr r1))
  else
    some (.done (.inl ()))
def m_ref13_Right (fuel : Nat) (p0 : (List Int)) : Option (Bool) :=
  Option.bind (iter (m_ref13_Right_l1 fuel p0) fuel (0, 0)) fun t1 => match t1 with
| .inl _ =>
  some ((p0.length : Int) == 256)
| .inr r1 => some r1
def m_ref13_Least_l1 (fuel : Nat) (p0 : (List Int)) (s_ : List Int × Int) : Option (Ctl (List Int × Int) (List Int)) :=
  let (x2, x3) := s_
  if (decide (x3 < 256)) then
    Option.bind ((
      if inb p0 x3 then
        if ((gt p0 x3) == (x2.length : Int)) then
          if apOk 1 x2 [(IntKind.wrap .u8 (x3))] then
            some (x2 ++ [(IntKind.wrap .u8 (x3))])
          else none
        else
          some x2
      else none) : Option (List Int)) fun x4 =>
      some (.next (x4, (W (x3 + 1))))
  else
    some (.done x2)
def m_ref13_Least (fuel : Nat) (p0 : (List Int)) : Option ((List Int)) :=
  Option.bind (m_ref13_Right fuel p0) fun x1 =>
  if (!x1) then
    some ([] : List Int)
  else
    Option.bind (iter (m_ref13_Least_l1 fuel p0) fuel (([] : List Int), 0)) fun y1 =>
      some y1
def m_ref24_entry (fuel : Nat) (p0 : Int) (p1 : Int) (p2 : Bool) : Option (Bool) :=
  Option.bind ((
  if (decide (p0 ≥ 0)) then
    if (decide (p0 < p1)) then
      some true
    else
      if (p0 == (-1)) then
        some true
      else
        if p2 then
          some (p0 == (-2))
        else
          some false
  else
    if (p0 == (-1)) then
      some true
    else
      if p2 then
        some (p0 == (-2))
      else
        some false) : Option (Bool)) fun x1 =>
  some x1
def m_ref24_edge_l1 (fuel : Nat) (p2 : Int) (p1 : MEdge) (s_ : Int) : Option (Ctl (Int) ((Unit) ⊕ (Bool))) :=
  let x2 := s_
  if (decide (x2 < (p1.Src.length : Int))) then
    if inb p1.Src x2 then
      Option.bind (m_ref24_entry fuel (gt p1.Src x2) p2 false) fun x3 =>
        if (!x3) then
          some (.done (.inr false))
        else
          some (.next (W (x2 + 1)))
    else none
  else
    some (.done (.inl ()))
def m_ref24_edge (fuel : Nat) (p0 : MDfa) (p1 : MEdge) (p2 : Int) : Option (Bool) :=
  if (p1.To == (-1)) then
  some ((p1.Src.length : Int) == 0)
else
  Option.bind ((
    if (decide (p1.To < 0)) then
      some true
    else
      if (decide (p1.To ≥ (p0.States.length : Int))) then
        some true
      else
        if inb p0.States p1.To then
          some ((p1.Src.length : Int) != ((gt p0.States p1.To).Regs))
        else none) : Option (Bool)) fun x1 =>
    if x1 then
      some false
    else
      Option.bind (iter (m_ref24_edge_l1 fuel p2 p1) fuel 0) fun t1 => match t1 with
      | .inl _ =>
        some true
      | .inr r1 => some r1
def m_ref24_Right_l2 (fuel : Nat) (p0 : MDfa) (x3 : (List Int)) (x4 : Int) (s_ : Int) : Option (Ctl (Int) ((Unit) ⊕ (Bool))) :=
  let x6 := s_
  if (decide (x6 < (((gt p0.States x4).Accept).length : Int))) then
    if inb ((gt p0.States x4).Accept) x6 then
      Option.bind (m_ref24_entry fuel (gt ((gt p0.States x4).Accept) x6) ((gt p0.States x4).Regs) true) fun x7 =>
        if (!x7) then
          some (.done (.inr false))
        else
          some (.next (W (x6 + 1)))
    else none
  else
    some (.done (.inl ()))
def m_ref24_Right_l3 (fuel : Nat) (p0 : MDfa) (x3 : (List Int)) (x4 : Int) (s_ : Int) : Option (Ctl (Int) ((Unit) ⊕ (Bool))) :=
  let x8 := s_
  if (decide (x8 < (x3.length : Int))) then
    if inb ((gt p0.States x4).Edges) x8 then
      Option.bind (m_ref24_edge fuel p0 (gt ((gt p0.States x4).Edges) x8) ((gt p0.States x4).Regs)) fun x9 =>
        if (!x9) then
          some (.done (.inr false))
        else
          some (.next (W (x8 + 1)))
    else none
  else
    some (.done (.inl ()))
def m_ref24_Right_l1 (fuel : Nat) (p0 : MDfa) (x3 : (List Int)) (s_ : Int) : Option (Ctl (Int) ((Unit) ⊕ (Bool))) :=
  let x4 := s_
  if (decide (x4 < (p0.States.length : Int))) then
    if inb p0.States x4 then
      Option.bind ((
        if (decide (((gt p0.States x4).Regs) < 0)) then
          some true
        else
          if (decide (((gt p0.States x4).Regs) > 1216)) then
            some true
          else
            if ((((gt p0.States x4).Accept).length : Int) != 0) then
              if ((((gt p0.States x4).Accept).length : Int) != p0.Tags) then
                some true
              else
                some ((((gt p0.States x4).Edges).length : Int) != (x3.length : Int))
            else
              some ((((gt p0.States x4).Edges).length : Int) != (x3.length : Int))) : Option (Bool)) fun x5 =>
        if x5 then
          some (.done (.inr false))
        else
          Option.bind (iter (m_ref24_Right_l2 fuel p0 x3 x4) fuel 0) fun t2 => match t2 with
          | .inl _ =>
            Option.bind (iter (m_ref24_Right_l3 fuel p0 x3 x4) fuel 0) fun t3 => match t3 with
            | .inl _ =>
              some (.next (W (x4 + 1)))
            | .inr r1 => some (.done (.inr r1))
          | .inr r1 => some (.done (.inr r1))
    else none
  else
    some (.done (.inl ()))
def m_ref24_Right (fuel : Nat) (p0 : MDfa) : Option (Bool) :=
  Option.bind ((
  if (decide (p0.Tags < 1)) then
    some true
  else
    if (decide (p0.Tags > 19)) then
      some true
    else
      if ((Int.tmod p0.Tags 2) == 0) then
        some true
      else
        if (decide ((p0.States.length : Int) < 1)) then
          some true
        else
          if (decide ((p0.States.length : Int) > 400)) then
            some true
          else
            Option.bind (m_ref13_Right fuel p0.Class) fun x2 =>
              if (!x2) then
                some true
              else
                if inb p0.States 0 then
                  some (((gt p0.States 0).Regs) != 0)
                else none) : Option (Bool)) fun x1 =>
  if x1 then
    some false
  else
    Option.bind (m_ref13_Least fuel p0.Class) fun x3 =>
      Option.bind (iter (m_ref24_Right_l1 fuel p0 x3) fuel 0) fun t1 => match t1 with
      | .inl _ =>
        some true
      | .inr r1 => some r1
def m_ref28_taken_l1 (fuel : Nat) (p0 : (List Int)) (p1 : Int) (s_ : Int) : Option (Ctl (Int) ((Unit) ⊕ (Bool))) :=
  let x1 := s_
  if (decide (x1 < (p0.length : Int))) then
    if inb p0 x1 then
      if ((gt p0 x1) == p1) then
        some (.done (.inr true))
      else
        some (.next (W (x1 + 1)))
    else none
  else
    some (.done (.inl ()))
def m_ref28_taken (fuel : Nat) (p0 : (List Int)) (p1 : Int) : Option (Bool) :=
  Option.bind (iter (m_ref28_taken_l1 fuel p0 p1) fuel 0) fun t1 => match t1 with
| .inl _ =>
  some false
| .inr r1 => some r1
def m_ref28_give_l1 (fuel : Nat) (p0 : (List Int)) (p1 : MEdge) (s_ : List Int × Int) : Option (Ctl (List Int × Int) (List Int)) :=
  let (x1, x2) := s_
  if (decide (x2 < (p1.Src.length : Int))) then
    if apOk 8 x1 [(-1)] then
      some (.next ((x1 ++ [(-1)]), (W (x2 + 1))))
    else none
  else
    some (.done x1)
def m_ref28_give_l2 (fuel : Nat) (p0 : (List Int)) (p1 : MEdge) (y1 : List Int) (s_ : List Int × Int) : Option (Ctl (List Int × Int) (List Int)) :=
  let (x3, x4) := s_
  if (decide (x4 < (p1.Src.length : Int))) then
    Option.bind ((
      Option.bind ((
        if inb p1.Src x4 then
          if (decide ((gt p1.Src x4) ≥ 0)) then
            if inb p1.Src x4 then
              if inb p0 (gt p1.Src x4) then
                Option.bind (m_ref28_taken fuel x3 (gt p0 (gt p1.Src x4))) fun x7 =>
                  some (!x7)
              else none
            else none
          else
            some false
        else none) : Option (Bool)) fun x6 =>
        if x6 then
          if inb p1.Src x4 then
            if inb p0 (gt p1.Src x4) then
              if inb x3 x4 then
                some (x3.set (Int.toNat x4) (gt p0 (gt p1.Src x4)))
              else none
            else none
          else none
        else
          some x3) : Option (List Int)) fun x5 =>
      some (.next (x5, (W (x4 + 1))))
  else
    some (.done x3)
def m_ref28_give_l4 (fuel : Nat) (x8 : List Int) (x9 : Int) (s_ : List Int × Int) : Option (Ctl (List Int × Int) (List Int)) :=
  let (x10, x11) := s_
  if inb x10 x9 then
    if (decide ((gt x10 x9) < 0)) then
      Option.bind ((
        Option.bind (m_ref28_taken fuel x10 x11) fun x13 =>
          if (!x13) then
            if inb x10 x9 then
              some (x10.set (Int.toNat x9) x11)
            else none
          else
            some x10) : Option (List Int)) fun x12 =>
        some (.next (x12, (W (x11 + 1))))
    else
      some (.done x10)
  else none
def m_ref28_give_l3 (fuel : Nat) (y2 : List Int) (s_ : List Int × Int) : Option (Ctl (List Int × Int) (List Int)) :=
  let (x8, x9) := s_
  if (decide (x9 < (x8.length : Int))) then
    Option.bind (iter (m_ref28_give_l4 fuel x8 x9) fuel (x8, 0)) fun y4 =>
      some (.next (y4, (W (x9 + 1))))
  else
    some (.done x8)
def m_ref28_give (fuel : Nat) (p0 : (List Int)) (p1 : MEdge) : Option ((List Int)) :=
  Option.bind (iter (m_ref28_give_l1 fuel p0 p1) fuel (([] : List Int), 0)) fun y1 =>
  Option.bind (iter (m_ref28_give_l2 fuel p0 p1 y1) fuel (y1, 0)) fun y2 =>
    Option.bind (iter (m_ref28_give_l3 fuel y2) fuel (y2, 0)) fun y3 =>
      some y3
def m_ref28_Homes_l2 (fuel : Nat) (p0 : MDfa) (x4 : List (List Int)) (x5 : List Bool) (x6 : List Int) (x7 : Int) (s_ : List (List Int) × List Bool × List Int × Int) : Option (Ctl (List (List Int) × List Bool × List Int × Int) (List (List Int) × List Bool × List Int)) :=
  let (x8, x9, x10, x11) := s_
  if (decide (x11 < (((gt p0.States (gt x6 x7)).Edges).length : Int))) then
    Option.bind ((
      if inb ((gt p0.States (gt x6 x7)).Edges) x11 then
        Option.bind ((
          if (decide (((gt ((gt p0.States (gt x6 x7)).Edges) x11).To) ≥ 0)) then
            if inb x9 ((gt ((gt p0.States (gt x6 x7)).Edges) x11).To) then
              some (!(gt x9 ((gt ((gt p0.States (gt x6 x7)).Edges) x11).To)))
            else none
          else
            some false) : Option (Bool)) fun x15 =>
          if x15 then
            if inb x9 ((gt ((gt p0.States (gt x6 x7)).Edges) x11).To) then
              if inb x10 x7 then
                if inb x8 (gt x10 x7) then
                  Option.bind (m_ref28_give fuel (gt x8 (gt x10 x7)) (gt ((gt p0.States (gt x6 x7)).Edges) x11)) fun x16 =>
                    if inb x8 ((gt ((gt p0.States (gt x6 x7)).Edges) x11).To) then
                      if apOk 8 x10 [(gt ((gt p0.States (gt x6 x7)).Edges) x11).To] then
                        some ((x8.set (Int.toNat ((gt ((gt p0.States (gt x6 x7)).Edges) x11).To)) x16), (x9.set (Int.toNat ((gt ((gt p0.States (gt x6 x7)).Edges) x11).To)) true), (x10 ++ [(gt ((gt p0.States (gt x6 x7)).Edges) x11).To]))
                      else none
                    else none
                else none
              else none
            else none
          else
            some (x8, x9, x10)
      else none) : Option (List (List Int) × List Bool × List Int)) fun q2 => match q2 with
    | (x12, x13, x14) =>
      some (.next (x12, x13, x14, (W (x11 + 1))))
  else
    some (.done (x8, x9, x10))
def m_ref28_Homes_l1 (fuel : Nat) (p0 : MDfa) (x2 : List (List Int)) (x3 : List Bool) (s_ : List (List Int) × List Bool × List Int × Int) : Option (Ctl (List (List Int) × List Bool × List Int × Int) (List (List Int) × List Bool)) :=
  let (x4, x5, x6, x7) := s_
  if (decide (x7 < (x6.length : Int))) then
    if inb x6 x7 then
      if inb p0.States (gt x6 x7) then
        Option.bind (iter (m_ref28_Homes_l2 fuel p0 x4 x5 x6 x7) fuel (x4, x5, x6, 0)) fun t2 => match t2 with
        | (y3, y4, y5) =>
          some (.next (y3, y4, y5, (W (x7 + 1))))
      else none
    else none
  else
    some (.done (x4, x5))
def m_ref28_Homes_l4 (fuel : Nat) (p0 : MDfa) (x17 : List (List Int)) (y2 : List Bool) (x18 : Int) (x19 : Int) (s_ : List (List Int) × Int) : Option (Ctl (List (List Int) × Int) (List (List Int))) :=
  let (x20, x21) := s_
  Option.bind ((
    if inb y2 x19 then
      if (!(gt y2 x19)) then
        if inb p0.States x19 then
          some (decide (x21 < ((gt p0.States x19).Regs)))
        else none
      else
        some false
    else none) : Option (Bool)) fun x22 =>
    if x22 then
      if inb x20 x19 then
        if apOk 8 (gt x20 x19) [x21] then
          if inb x20 x19 then
            some (.next ((x20.set (Int.toNat x19) ((gt x20 x19) ++ [x21])), (W (x21 + 1))))
          else none
        else none
      else none
    else
      some (.done x20)
def m_ref28_Homes_l5 (fuel : Nat) (p0 : MDfa) (y2 : List Bool) (x18 : Int) (x19 : Int) (y8 : List (List Int)) (s_ : Int × Int) : Option (Ctl (Int × Int) (Int)) :=
  let (x23, x24) := s_
  if inb y8 x19 then
    if (decide (x24 < ((gt y8 x19).length : Int))) then
      Option.bind ((
        if inb y8 x19 then
          if inb (gt y8 x19) x24 then
            if (decide ((gt (gt y8 x19) x24) ≥ x23)) then
              if inb y8 x19 then
                if inb (gt y8 x19) x24 then
                  some (W ((gt (gt y8 x19) x24) + 1))
                else none
              else none
            else
              some x23
          else none
        else none) : Option (Int)) fun x25 =>
        some (.next (x25, (W (x24 + 1))))
    else
      some (.done x23)
  else none
def m_ref28_Homes_l3 (fuel : Nat) (p0 : MDfa) (y1 : List (List Int)) (y2 : List Bool) (s_ : List (List Int) × Int × Int) : Option (Ctl (List (List Int) × Int × Int) (List (List Int) × Int)) :=
  let (x17, x18, x19) := s_
  if (decide (x19 < (x17.length : Int))) then
    Option.bind (iter (m_ref28_Homes_l4 fuel p0 x17 y2 x18 x19) fuel (x17, 0)) fun y8 =>
      Option.bind (iter (m_ref28_Homes_l5 fuel p0 y2 x18 x19 y8) fuel (x18, 0)) fun y9 =>
        some (.next (y8, y9, (W (x19 + 1))))
  else
    some (.done (x17, x18))
def m_ref28_Homes (fuel : Nat) (p0 : MDfa) : Option ((List (List Int)) × Int) :=
  Option.bind (m_ref24_Right fuel p0) fun x1 =>
  if (!x1) then
    some (([] : List (List Int)), 0)
  else
    Option.bind ((
      if mkOk 24 (p0.States.length : Int) then
        if mkOk 1 (p0.States.length : Int) then
          some ((List.replicate (Int.toNat (p0.States.length : Int)) ([] : (List Int))), (List.replicate (Int.toNat (p0.States.length : Int)) false))
        else none
      else none) : Option (List (List Int) × List Bool)) fun q1 => match q1 with
    | (x2, x3) =>
      if inb x3 0 then
        Option.bind (iter (m_ref28_Homes_l1 fuel p0 x2 x3) fuel (x2, (x3.set (Int.toNat 0) true), [0], 0)) fun t1 => match t1 with
        | (y1, y2) =>
          Option.bind (iter (m_ref28_Homes_l3 fuel p0 y1 y2) fuel (y1, 0, 0)) fun t3 => match t3 with
          | (y6, y7) =>
            some (y6, y7)
      else none
def m_ref28_way_l1 (fuel : Nat) (p0 : MProg) (p1 : MWay) (s_ : Int) : Option (Ctl (Int) ((Unit) ⊕ (Bool))) :=
  let x2 := s_
  if (decide (x2 < (p1.Moves.length : Int))) then
    if inb p1.Moves x2 then
      Option.bind ((
        if (decide (((gt p1.Moves x2).To) < 0)) then
          some true
        else
          if (decide (((gt p1.Moves x2).To) ≥ p0.Regs)) then
            some true
          else
            if (decide (((gt p1.Moves x2).From) < (-1))) then
              some true
            else
              if (decide (((gt p1.Moves x2).From) ≥ p0.Regs)) then
                some true
              else
                some (((gt p1.Moves x2).From) == ((gt p1.Moves x2).To))) : Option (Bool)) fun x3 =>
        if x3 then
          some (.done (.inr false))
        else
          some (.next (W (x2 + 1)))
    else none
  else
    some (.done (.inl ()))
def m_ref28_way (fuel : Nat) (p0 : MProg) (p1 : MWay) : Option (Bool) :=
  Option.bind ((
  if (decide (p1.To < (-1))) then
    some true
  else
    if (decide (p1.To ≥ (p0.Stands.length : Int))) then
      some true
    else
      if (p1.To == (-1)) then
        if (decide ((p1.Moves.length : Int) > 0)) then
          some true
        else
          some (decide ((p1.Moves.length : Int) > (W (2 * p0.Regs))))
      else
        some (decide ((p1.Moves.length : Int) > (W (2 * p0.Regs))))) : Option (Bool)) fun x1 =>
  if x1 then
    some false
  else
    Option.bind (iter (m_ref28_way_l1 fuel p0 p1) fuel 0) fun t1 => match t1 with
    | .inl _ =>
      some true
    | .inr r1 => some r1
def m_ref28_Right_l2 (fuel : Nat) (p0 : MProg) (x3 : (List Int)) (x4 : Int) (s_ : Int) : Option (Ctl (Int) ((Unit) ⊕ (Bool))) :=
  let x6 := s_
  if (decide (x6 < (((gt p0.Stands x4).Accept).length : Int))) then
    Option.bind ((
      if inb ((gt p0.Stands x4).Accept) x6 then
        if (decide ((gt ((gt p0.Stands x4).Accept) x6) < (-2))) then
          some true
        else
          if inb ((gt p0.Stands x4).Accept) x6 then
            some (decide ((gt ((gt p0.Stands x4).Accept) x6) ≥ p0.Regs))
          else none
      else none) : Option (Bool)) fun x7 =>
      if x7 then
        some (.done (.inr false))
      else
        some (.next (W (x6 + 1)))
  else
    some (.done (.inl ()))
def m_ref28_Right_l3 (fuel : Nat) (p0 : MProg) (x3 : (List Int)) (x4 : Int) (s_ : Int) : Option (Ctl (Int) ((Unit) ⊕ (Bool))) :=
  let x8 := s_
  if (decide (x8 < (x3.length : Int))) then
    if inb ((gt p0.Stands x4).Ways) x8 then
      Option.bind (m_ref28_way fuel p0 (gt ((gt p0.Stands x4).Ways) x8)) fun x9 =>
        if (!x9) then
          some (.done (.inr false))
        else
          some (.next (W (x8 + 1)))
    else none
  else
    some (.done (.inl ()))
def m_ref28_Right_l1 (fuel : Nat) (p0 : MProg) (x3 : (List Int)) (s_ : Int) : Option (Ctl (Int) ((Unit) ⊕ (Bool))) :=
  let x4 := s_
  if (decide (x4 < (p0.Stands.length : Int))) then
    if inb p0.Stands x4 then
      Option.bind ((
        if ((((gt p0.Stands x4).Accept).length : Int) != 0) then
          if ((((gt p0.Stands x4).Accept).length : Int) != p0.Tags) then
            some true
          else
            some ((((gt p0.Stands x4).Ways).length : Int) != (x3.length : Int))
        else
          some ((((gt p0.Stands x4).Ways).length : Int) != (x3.length : Int))) : Option (Bool)) fun x5 =>
        if x5 then
          some (.done (.inr false))
        else
          Option.bind (iter (m_ref28_Right_l2 fuel p0 x3 x4) fuel 0) fun t2 => match t2 with
          | .inl _ =>
            Option.bind (iter (m_ref28_Right_l3 fuel p0 x3 x4) fuel 0) fun t3 => match t3 with
            | .inl _ =>
              some (.next (W (x4 + 1)))
            | .inr r1 => some (.done (.inr r1))
          | .inr r1 => some (.done (.inr r1))
    else none
  else
    some (.done (.inl ()))
def m_ref28_Right (fuel : Nat) (p0 : MProg) : Option (Bool) :=
  Option.bind ((
  if (decide (p0.Tags < 1)) then
    some true
  else
    if (decide (p0.Tags > 19)) then
      some true
    else
      if ((Int.tmod p0.Tags 2) == 0) then
        some true
      else
        if (decide (p0.Regs < 1)) then
          some true
        else
          if (decide (p0.Regs > 1217)) then
            some true
          else
            if (decide ((p0.Stands.length : Int) < 1)) then
              some true
            else
              if (decide ((p0.Stands.length : Int) > 400)) then
                some true
              else
                Option.bind (m_ref13_Right fuel p0.Class) fun x2 =>
                  some (!x2)) : Option (Bool)) fun x1 =>
  if x1 then
    some false
  else
    Option.bind (m_ref13_Least fuel p0.Class) fun x3 =>
      Option.bind (iter (m_ref28_Right_l1 fuel p0 x3) fuel 0) fun t1 => match t1 with
      | .inl _ =>
        some true
      | .inr r1 => some r1
def m_ref27_Right_l2 (fuel : Nat) (p0 : (List MMove)) (x1 : Int) (s_ : Int) : Option (Ctl (Int) ((Unit) ⊕ (Bool))) :=
  let x3 := s_
  if (decide (x3 < x1)) then
    if inb p0 x3 then
      if inb p0 x1 then
        if (((gt p0 x3).To) == ((gt p0 x1).To)) then
          some (.done (.inr false))
        else
          some (.next (W (x3 + 1)))
      else none
    else none
  else
    some (.done (.inl ()))
def m_ref27_Right_l1 (fuel : Nat) (p0 : (List MMove)) (s_ : Int) : Option (Ctl (Int) ((Unit) ⊕ (Bool))) :=
  let x1 := s_
  if (decide (x1 < (p0.length : Int))) then
    Option.bind ((
      if inb p0 x1 then
        if (decide (((gt p0 x1).To) < 0)) then
          some true
        else
          if inb p0 x1 then
            some (decide (((gt p0 x1).From) < (-1)))
          else none
      else none) : Option (Bool)) fun x2 =>
      if x2 then
        some (.done (.inr false))
      else
        Option.bind (iter (m_ref27_Right_l2 fuel p0 x1) fuel 0) fun t2 => match t2 with
        | .inl _ =>
          some (.next (W (x1 + 1)))
        | .inr r1 => some (.done (.inr r1))
  else
    some (.done (.inl ()))
def m_ref27_Right (fuel : Nat) (p0 : (List MMove)) : Option (Bool) :=
  Option.bind (iter (m_ref27_Right_l1 fuel p0) fuel 0) fun t1 => match t1 with
| .inl _ =>
  some true
| .inr r1 => some r1
def m_ref27_from_l1 (fuel : Nat) (p0 : (List MMove)) (p1 : Int) (s_ : Int) : Option (Ctl (Int) ((Unit) ⊕ (Int))) :=
  let x1 := s_
  if (decide (x1 < (p0.length : Int))) then
    if inb p0 x1 then
      if (((gt p0 x1).To) == p1) then
        if inb p0 x1 then
          some (.done (.inr ((gt p0 x1).From)))
        else none
      else
        some (.next (W (x1 + 1)))
    else none
  else
    some (.done (.inl ()))
def m_ref27_from (fuel : Nat) (p0 : (List MMove)) (p1 : Int) : Option (Int) :=
  Option.bind (iter (m_ref27_from_l1 fuel p0 p1) fuel 0) fun t1 => match t1 with
| .inl _ =>
  some (-2)
| .inr r1 => some r1
def m_ref27_ring_l1 (fuel : Nat) (p0 : (List MMove)) (p1 : Int) (x1 : Int) (s_ : Int × Int) : Option (Ctl (Int × Int) (Int)) :=
  let (x2, x3) := s_
  Option.bind ((
    if (decide (x3 < (p0.length : Int))) then
      some (decide (x2 > p1))
    else
      some false) : Option (Bool)) fun x4 =>
    if x4 then
      Option.bind (m_ref27_from fuel p0 x2) fun x5 =>
        some (.next (x5, (W (x3 + 1))))
    else
      some (.done x2)
def m_ref27_ring (fuel : Nat) (p0 : (List MMove)) (p1 : Int) : Option (Bool) :=
  Option.bind (m_ref27_from fuel p0 p1) fun x1 =>
  Option.bind (iter (m_ref27_ring_l1 fuel p0 p1 x1) fuel (x1, 0)) fun y1 =>
    Option.bind ((
      if (y1 == p1) then
        Option.bind (m_ref27_from fuel p0 p1) fun x7 =>
          some (x7 != p1)
      else
        some false) : Option (Bool)) fun x6 =>
      some x6
def m_ref27_Least_l1 (fuel : Nat) (p0 : (List MMove)) (s_ : Int × Int) : Option (Ctl (Int × Int) (Int)) :=
  let (x2, x3) := s_
  if (decide (x3 < (p0.length : Int))) then
    Option.bind ((
      Option.bind ((
        if inb p0 x3 then
          if inb p0 x3 then
            if (((gt p0 x3).To) != ((gt p0 x3).From)) then
              some (W (x2 + 1))
            else
              some x2
          else none
        else none) : Option (Int)) fun x5 =>
        if inb p0 x3 then
          Option.bind (m_ref27_ring fuel p0 ((gt p0 x3).To)) fun x6 =>
            if x6 then
              some (W (x5 + 1))
            else
              some x5
        else none) : Option (Int)) fun x4 =>
      some (.next (x4, (W (x3 + 1))))
  else
    some (.done x2)
def m_ref27_Least (fuel : Nat) (p0 : (List MMove)) : Option (Int × Int) :=
  Option.bind (m_ref27_Right fuel p0) fun x1 =>
  if (!x1) then
    some (0, 1)
  else
    Option.bind (iter (m_ref27_Least_l1 fuel p0) fuel (0, 0)) fun y1 =>
      some (y1, 0)
def m_ref27_get (fuel : Nat) (p0 : (List Int)) (p1 : MMove) (p2 : Int) : Option (Int × Bool) :=
  Option.bind ((
  if (decide (p1.To < 0)) then
    some true
  else
    if (decide (p1.To ≥ (p0.length : Int))) then
      some true
    else
      if (decide (p1.From ≥ (p0.length : Int))) then
        some true
      else
        some (decide (p1.From < (-1)))) : Option (Bool)) fun x1 =>
  if x1 then
    some (0, false)
  else
    if (p1.From == (-1)) then
      some (p2, true)
    else
      if inb p0 p1.From then
        some ((gt p0 p1.From), true)
      else none
def m_ref27_Apply_l1 (fuel : Nat) (p1 : (List MMove)) (p2 : Int) (p0 : (List Int)) (s_ : List Int × Int) : Option (Ctl (List Int × Int) (List Int)) :=
  let (x1, x2) := s_
  if (decide (x2 < (p1.length : Int))) then
    Option.bind ((
      if inb p1 x2 then
        Option.bind (m_ref27_get fuel x1 (gt p1 x2) p2) fun x4 =>
          if x4.2 then
            if inb p1 x2 then
              if inb x1 ((gt p1 x2).To) then
                some (x1.set (Int.toNat ((gt p1 x2).To)) x4.1)
              else none
            else none
          else
            some x1
      else none) : Option (List Int)) fun x3 =>
      some (.next (x3, (W (x2 + 1))))
  else
    some (.done x1)
def m_ref27_Apply (fuel : Nat) (p0 : (List Int)) (p1 : (List MMove)) (p2 : Int) : Option ((List Int)) :=
  if apOk 8 ([] : List Int) p0 then
  Option.bind (iter (m_ref27_Apply_l1 fuel p1 p2 p0) fuel ((([] : List Int) ++ p0), 0)) fun y1 =>
    some y1
else none
end Go.Proofs.Ytjkoiijpmiibpaa
