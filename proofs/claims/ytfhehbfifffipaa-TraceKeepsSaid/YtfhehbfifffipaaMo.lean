/- What the functions compute, over plain data. Its conditions: none. -/
import Derived.Test.YtfhehbfifffipaaVMap
set_option maxRecDepth 20000
set_option autoImplicit false
namespace Go.Proofs.Ytfhehbfifffipaa
open Go.V Go.RowKit
set_option linter.unusedVariables false
structure MTerm where
  Kind : Int
  A : Int
  B : Int
  N : Int
  Set : (List Int)
instance : Inhabited MTerm := ⟨⟨0, 0, 0, 0, List.replicate 4 0⟩⟩
structure MFollowChart where
  l : (List MTerm)
  up : (List Int)
  deep : (List Int)
  index : (List Int)
  can : (List Bool)
instance : Inhabited MFollowChart := ⟨⟨[], [], [], [], []⟩⟩
structure MHop where
  To : Int
  Turn : Int
  Steps : (List Int)
instance : Inhabited MHop := ⟨⟨0, 0, []⟩⟩
structure MEntry where
  Depth : Int
  Node : Int
  From : Int
  To : Int
instance : Inhabited MEntry := ⟨⟨0, 0, 0, 0⟩⟩
structure MTreeGrower where
  out : (List MEntry)
  open_ : (List Int)
instance : Inhabited MTreeGrower := ⟨⟨[], []⟩⟩
structure MTraceFork where
  frame : Int
  step : Int
instance : Inhabited MTraceFork := ⟨⟨0, 0⟩⟩
structure MTraceDepth where
  n : Int
instance : Inhabited MTraceDepth := ⟨⟨0⟩⟩
structure MTraceCloser where
  depth : MTraceDepth
  low : Int
instance : Inhabited MTraceCloser := ⟨⟨default, 0⟩⟩
structure MGimletlaw18Two where
  A : (List Int)
  B : (List Int)
instance : Inhabited MGimletlaw18Two := ⟨⟨[], []⟩⟩
def m_ref10_part (fuel : Nat) (p0 : Int) : Option (Bool × Bool) :=
  Option.bind ((
  if (decide (p0 ≥ 3)) then
    if (p0 == 3) then
      some ((decide (p0 ≤ 8)), true)
    else
      some ((decide (p0 ≤ 8)), (p0 == 4))
  else
    if (p0 == 3) then
      some (false, true)
    else
      some (false, (p0 == 4))) : Option (Bool × Bool)) fun q1 => match q1 with
| (x1, x2) =>
  some (x1, x2)
def m_ref10_lows_l2 (fuel : Nat) (p0 : (List MTerm)) (x10 : List Int) (x7 : Int) (x3 : Int) (s_ : Int) : Option (Ctl (Int) ((Unit) ⊕ ((List Int)))) :=
  let x12 := s_
  if (decide (x12 < x3)) then
    Option.bind ((
      if (((gt p0 x3).Kind) == 7) then
        if inb p0 x12 then
          if (((gt p0 x12).Kind) == 7) then
            if inb p0 x12 then
              some (((gt p0 x12).N) == ((gt p0 x3).N))
            else none
          else
            some false
        else none
      else
        some false) : Option (Bool)) fun x13 =>
      if x13 then
        some (.done (.inr ([] : List Int)))
      else
        some (.next (W (x12 + 1)))
  else
    some (.done (.inl ()))
def m_ref10_lows_l1 (fuel : Nat) (p0 : (List MTerm)) (s_ : List Int × Int × Int) : Option (Ctl (List Int × Int × Int) ((List Int × Int) ⊕ ((List Int)))) :=
  let (x1, x2, x3) := s_
  if (decide (x3 < (p0.length : Int))) then
    if inb p0 x3 then
      Option.bind (m_ref10_part fuel ((gt p0 x3).Kind)) fun x4 =>
        if inb x1 x3 then
          Option.bind ((
            if (decide (((gt p0 x3).Kind) < 1)) then
              some true
            else
              if (decide (((gt p0 x3).Kind) > 8)) then
                some true
              else
                if (((gt p0 x3).Kind) != 2) then
                  if (!(((gt ((gt p0 x3).Set) 0) == 0) && (((gt ((gt p0 x3).Set) 1) == 0) && (((gt ((gt p0 x3).Set) 2) == 0) && ((gt ((gt p0 x3).Set) 3) == 0))))) then
                    some true
                  else
                    if (((gt p0 x3).Kind) != 7) then
                      if (((gt p0 x3).N) != 0) then
                        some true
                      else
                        if (((gt p0 x3).Kind) == 7) then
                          if (decide (((gt p0 x3).N) < 1)) then
                            some true
                          else
                            some (decide (((gt p0 x3).N) > 9))
                        else
                          some false
                    else
                      if (((gt p0 x3).Kind) == 7) then
                        if (decide (((gt p0 x3).N) < 1)) then
                          some true
                        else
                          some (decide (((gt p0 x3).N) > 9))
                      else
                        some false
                else
                  if (((gt p0 x3).Kind) != 7) then
                    if (((gt p0 x3).N) != 0) then
                      some true
                    else
                      if (((gt p0 x3).Kind) == 7) then
                        if (decide (((gt p0 x3).N) < 1)) then
                          some true
                        else
                          some (decide (((gt p0 x3).N) > 9))
                      else
                        some false
                  else
                    if (((gt p0 x3).Kind) == 7) then
                      if (decide (((gt p0 x3).N) < 1)) then
                        some true
                      else
                        some (decide (((gt p0 x3).N) > 9))
                    else
                      some false) : Option (Bool)) fun x5 =>
            if x5 then
              some (.done (.inr ([] : List Int)))
            else
              Option.bind ((
                if (!x4.1) then
                  if (((gt p0 x3).A) != (-1)) then
                    some true
                  else
                    if (!x4.2) then
                      some (((gt p0 x3).B) != (-1))
                    else
                      some false
                else
                  if (!x4.2) then
                    some (((gt p0 x3).B) != (-1))
                  else
                    some false) : Option (Bool)) fun x6 =>
                if x6 then
                  some (.done (.inr ([] : List Int)))
                else
                  Option.bind ((
                    if (((gt p0 x3).Kind) == 2) then
                      some (W (x2 + 1))
                    else
                      some x2) : Option (Int)) fun x7 =>
                    Option.bind ((
                      if x4.2 then
                        Option.bind ((
                          if (((gt p0 x3).B) != (W (x3 - 1))) then
                            some true
                          else
                            some (decide ((W (x3 - 1)) < 0))) : Option (Bool)) fun x9 =>
                          if x9 then
                            some (.inr ([] : List Int))
                          else
                            if inb (x1.set (Int.toNat x3) x3) (W (x3 - 1)) then
                              some (.inl (W ((gt (x1.set (Int.toNat x3) x3) (W (x3 - 1))) - 1)))
                            else none
                      else
                        some (.inl (W (x3 - 1)))) : Option ((Int) ⊕ ((List Int)))) fun q4 => match q4 with
                    | .inl x8 =>
                      Option.bind ((
                        if x4.1 then
                          Option.bind ((
                            if (((gt p0 x3).A) != x8) then
                              some true
                            else
                              some (decide (x8 < 0))) : Option (Bool)) fun x11 =>
                            if x11 then
                              some (.inr ([] : List Int))
                            else
                              if inb (x1.set (Int.toNat x3) x3) x8 then
                                if inb (x1.set (Int.toNat x3) x3) x3 then
                                  some (.inl ((x1.set (Int.toNat x3) x3).set (Int.toNat x3) (gt (x1.set (Int.toNat x3) x3) x8)))
                                else none
                              else none
                        else
                          some (.inl (x1.set (Int.toNat x3) x3))) : Option ((List Int) ⊕ ((List Int)))) fun q6 => match q6 with
                      | .inl x10 =>
                        if inb x10 x3 then
                          Option.bind (iter (m_ref10_lows_l2 fuel p0 x10 x7 x3) fuel (gt x10 x3)) fun t2 => match t2 with
                          | .inl _ =>
                            some (.next (x10, x7, (W (x3 + 1))))
                          | .inr r1 => some (.done (.inr r1))
                        else none
                      | .inr r1 => some (.done (.inr r1))
                    | .inr r1 => some (.done (.inr r1))
        else none
    else none
  else
    some (.done (.inl (x1, x2)))
def m_ref10_lows (fuel : Nat) (p0 : (List MTerm)) : Option ((List Int)) :=
  if mkOk 8 (p0.length : Int) then
  Option.bind (iter (m_ref10_lows_l1 fuel p0) fuel ((List.replicate (Int.toNat (p0.length : Int)) (0 : Int)), 0, 0)) fun t1 => match t1 with
  | .inl (y1, y2) =>
    Option.bind ((
      if ((p0.length : Int) == 0) then
        some true
      else
        if (decide ((p0.length : Int) > 400)) then
          some true
        else
          if (decide (y2 > 64)) then
            some true
          else
            if inb y1 (W ((p0.length : Int) - 1)) then
              some ((gt y1 (W ((p0.length : Int) - 1))) != 0)
            else none) : Option (Bool)) fun x14 =>
      if x14 then
        some ([] : List Int)
      else
        if nonE y1 then some y1 else none
  | .inr r1 => some r1
else none
def m_ref10_Right (fuel : Nat) (p0 : (List MTerm)) : Option (Bool) :=
  Option.bind (m_ref10_lows fuel p0) fun x1 =>
  some (!(x1.isEmpty))
def m_term_low (fuel : Nat) (p0 : (List MTerm)) (p1 : (List Int)) (p2 : Int) : Option (Int) :=
  if inb p0 p2 then
  Option.bind ((
    Option.bind ((
      Option.bind ((
        if (((gt p0 p2).Kind) == 1) then
          some (((gt p0 p2).Kind) == 1)
        else
          some (((gt p0 p2).Kind) == 2)) : Option (Bool)) fun x1 =>
        if x1 then
          Option.bind ((
            if (((gt p0 p2).A) == (-1)) then
              some (((gt p0 p2).B) == (-1))
            else
              some false) : Option (Bool)) fun x2 =>
            if x2 then
              some (.inr p2)
            else
              some (.inl ())
        else
          Option.bind ((
            if (((gt p0 p2).Kind) == 3) then
              some (((gt p0 p2).Kind) == 3)
            else
              some (((gt p0 p2).Kind) == 4)) : Option (Bool)) fun x3 =>
            if x3 then
              Option.bind ((
                if (decide (((gt p0 p2).B) ≥ 0)) then
                  if (((gt p0 p2).B) == (W (p2 - 1))) then
                    if (decide (((gt p0 p2).A) ≥ 0)) then
                      if inb p1 ((gt p0 p2).B) then
                        some (((gt p0 p2).A) == (W ((gt p1 ((gt p0 p2).B)) - 1)))
                      else none
                    else
                      some false
                  else
                    some false
                else
                  some false) : Option (Bool)) fun x4 =>
                if x4 then
                  if inb p1 ((gt p0 p2).A) then
                    some (.inr (gt p1 ((gt p0 p2).A)))
                  else none
                else
                  some (.inl ())
            else
              Option.bind ((
                if (((gt p0 p2).Kind) == 5) then
                  some (((gt p0 p2).Kind) == 5)
                else
                  if (((gt p0 p2).Kind) == 6) then
                    some (((gt p0 p2).Kind) == 6)
                  else
                    if (((gt p0 p2).Kind) == 7) then
                      some (((gt p0 p2).Kind) == 7)
                    else
                      some (((gt p0 p2).Kind) == 8)) : Option (Bool)) fun x5 =>
                if x5 then
                  Option.bind ((
                    if (((gt p0 p2).B) == (-1)) then
                      if (decide (((gt p0 p2).A) ≥ 0)) then
                        some (((gt p0 p2).A) == (W (p2 - 1)))
                      else
                        some false
                    else
                      some false) : Option (Bool)) fun x6 =>
                    if x6 then
                      if inb p1 ((gt p0 p2).A) then
                        some (.inr (gt p1 ((gt p0 p2).A)))
                      else none
                    else
                      some (.inl ())
                else
                  some (.inl ())) : Option ((Unit) ⊕ (Int))) fun q2 => match q2 with
    | .inl _ =>
      some (.inl ())
    | .inr r1 => some (.inr r1)) : Option ((Unit) ⊕ (Int))) fun q1 => match q1 with
  | .inl _ =>
    some (-1)
  | .inr r1 => some r1
else none
def m_term_fields (fuel : Nat) (p0 : MTerm) : Option (Bool) :=
  Option.bind ((
  if (p0.Kind != 2) then
    some (!(((gt p0.Set 0) == 0) && (((gt p0.Set 1) == 0) && (((gt p0.Set 2) == 0) && ((gt p0.Set 3) == 0)))))
  else
    some false) : Option (Bool)) fun x1 =>
  if x1 then
    some false
  else
    if (p0.Kind == 7) then
      Option.bind ((
        if (decide (p0.N ≥ 1)) then
          some (decide (p0.N ≤ 9))
        else
          some false) : Option (Bool)) fun x2 =>
        some x2
    else
      some (p0.N == 0)
def m_term_again_l1 (fuel : Nat) (p0 : MTerm) (p1 : (List MTerm)) (s_ : Int) : Option (Ctl (Int) ((Unit) ⊕ (Bool))) :=
  let x1 := s_
  if (decide (x1 < (p1.length : Int))) then
    if inb p1 x1 then
      Option.bind ((
        if (p0.Kind == 7) then
          if (((gt p1 x1).Kind) == 7) then
            some (((gt p1 x1).N) == p0.N)
          else
            some false
        else
          some false) : Option (Bool)) fun x2 =>
        if x2 then
          some (.done (.inr true))
        else
          some (.next (W (x1 + 1)))
    else none
  else
    some (.done (.inl ()))
def m_term_again (fuel : Nat) (p0 : MTerm) (p1 : (List MTerm)) : Option (Bool) :=
  Option.bind (iter (m_term_again_l1 fuel p0 p1) fuel 0) fun t1 => match t1 with
| .inl _ =>
  some false
| .inr r1 => some r1
def m_term_Low_l1 (fuel : Nat) (p0 : (List MTerm)) (s_ : List Int × Int × Int) : Option (Ctl (List Int × Int × Int) ((List Int × Int) ⊕ ((List Int)))) :=
  let (x2, x3, x4) := s_
  if (decide (x4 < (p0.length : Int))) then
    if inb p0 x4 then
      Option.bind (m_term_low fuel p0 x2 x4) fun x5 =>
        Option.bind ((
          if (decide (x5 < 0)) then
            some true
          else
            Option.bind (m_term_fields fuel (gt p0 x4)) fun x7 =>
              if (!x7) then
                some true
              else
                if slOk p0 x5 x4 then
                  Option.bind (m_term_again fuel (gt p0 x4) (cutL p0 x5 x4)) fun x8 =>
                    some x8
                else none) : Option (Bool)) fun x6 =>
          if x6 then
            some (.done (.inr ([] : List Int)))
          else
            Option.bind ((
              if (((gt p0 x4).Kind) == 2) then
                some (W (x3 + 1))
              else
                some x3) : Option (Int)) fun x9 =>
              if apOk 8 x2 [x5] then
                some (.next ((x2 ++ [x5]), x9, (W (x4 + 1))))
              else none
    else none
  else
    some (.done (.inl (x2, x3)))
def m_term_Low (fuel : Nat) (p0 : (List MTerm)) : Option ((List Int)) :=
  Option.bind ((
  if ((p0.length : Int) == 0) then
    some true
  else
    some (decide ((p0.length : Int) > 400))) : Option (Bool)) fun x1 =>
  if x1 then
    some ([] : List Int)
  else
    Option.bind (iter (m_term_Low_l1 fuel p0) fuel (([] : List Int), 0, 0)) fun t1 => match t1 with
    | .inl (y1, y2) =>
      Option.bind ((
        if (decide (y2 > 64)) then
          some true
        else
          if inb y1 (W ((p0.length : Int) - 1)) then
            some ((gt y1 (W ((p0.length : Int) - 1))) != 0)
          else none) : Option (Bool)) fun x10 =>
        if x10 then
          some ([] : List Int)
        else
          if nonE y1 then some y1 else none
    | .inr r1 => some r1
def m_term_Right (fuel : Nat) (p0 : (List MTerm)) : Option (Bool) :=
  Option.bind (m_term_Low fuel p0) fun x1 =>
  some (decide ((x1.length : Int) > 0))
def m_null_Can_l1 (fuel : Nat) (p0 : (List MTerm)) (s_ : List Bool × Int) : Option (Ctl (List Bool × Int) (List Bool)) :=
  let (x2, x3) := s_
  if (decide (x3 < (p0.length : Int))) then
    Option.bind ((
      if inb p0 x3 then
        Option.bind ((
          Option.bind ((
            if (((gt p0 x3).Kind) == 1) then
              some (((gt p0 x3).Kind) == 1)
            else
              if (((gt p0 x3).Kind) == 5) then
                some (((gt p0 x3).Kind) == 5)
              else
                some (((gt p0 x3).Kind) == 6)) : Option (Bool)) fun x6 =>
            if x6 then
              if inb x2 x3 then
                some (x2.set (Int.toNat x3) true)
              else none
            else
              if (((gt p0 x3).Kind) == 3) then
                Option.bind ((
                  if inb x2 ((gt p0 x3).A) then
                    if (gt x2 ((gt p0 x3).A)) then
                      if inb x2 ((gt p0 x3).B) then
                        if inb x2 x3 then
                          some (x2.set (Int.toNat x3) (gt x2 ((gt p0 x3).B)))
                        else none
                      else none
                    else
                      if inb x2 x3 then
                        some (x2.set (Int.toNat x3) false)
                      else none
                  else none) : Option (List Bool)) fun x7 =>
                  some x7
              else
                if (((gt p0 x3).Kind) == 4) then
                  Option.bind ((
                    if inb x2 ((gt p0 x3).A) then
                      if (gt x2 ((gt p0 x3).A)) then
                        if inb x2 x3 then
                          some (x2.set (Int.toNat x3) true)
                        else none
                      else
                        if inb x2 ((gt p0 x3).B) then
                          if inb x2 x3 then
                            some (x2.set (Int.toNat x3) (gt x2 ((gt p0 x3).B)))
                          else none
                        else none
                    else none) : Option (List Bool)) fun x8 =>
                    some x8
                else
                  Option.bind ((
                    if (((gt p0 x3).Kind) == 7) then
                      some (((gt p0 x3).Kind) == 7)
                    else
                      some (((gt p0 x3).Kind) == 8)) : Option (Bool)) fun x9 =>
                    if x9 then
                      if inb x2 ((gt p0 x3).A) then
                        if inb x2 x3 then
                          some (x2.set (Int.toNat x3) (gt x2 ((gt p0 x3).A)))
                        else none
                      else none
                    else
                      some x2) : Option (List Bool)) fun x5 =>
          some x5
      else none) : Option (List Bool)) fun x4 =>
      some (.next (x4, (W (x3 + 1))))
  else
    some (.done x2)
def m_null_Can (fuel : Nat) (p0 : (List MTerm)) : Option ((List Bool)) :=
  Option.bind (m_term_Right fuel p0) fun x1 =>
  if (!x1) then
    some ([] : List Bool)
  else
    if mkOk 1 (p0.length : Int) then
      Option.bind (iter (m_null_Can_l1 fuel p0) fuel ((List.replicate (Int.toNat (p0.length : Int)) false), 0)) fun y1 =>
        some y1
    else none
def m_null_walk (fuel : Nat) : Nat → (List MTerm) → (List Bool) → Int → (List Int) → Option ((List Int))
  | 0, _, _, _, _ => none
  | k + 1, p0, p1, p2, p3 =>
    if apOk 8 p3 [(W (2 * p2))] then
      if inb p0 p2 then
        Option.bind ((
          Option.bind ((
            if (((gt p0 p2).Kind) == 3) then
              Option.bind (m_null_walk fuel k p0 p1 ((gt p0 p2).A) (p3 ++ [(W (2 * p2))])) fun x3 =>
                Option.bind (m_null_walk fuel k p0 p1 ((gt p0 p2).B) x3) fun x4 =>
                  some x4
            else
              if (((gt p0 p2).Kind) == 4) then
                if inb p1 ((gt p0 p2).A) then
                  if (gt p1 ((gt p0 p2).A)) then
                    Option.bind (m_null_walk fuel k p0 p1 ((gt p0 p2).A) (p3 ++ [(W (2 * p2))])) fun x5 =>
                      some x5
                  else
                    Option.bind (m_null_walk fuel k p0 p1 ((gt p0 p2).B) (p3 ++ [(W (2 * p2))])) fun x6 =>
                      some x6
                else none
              else
                Option.bind ((
                  if (((gt p0 p2).Kind) == 7) then
                    some (((gt p0 p2).Kind) == 7)
                  else
                    some (((gt p0 p2).Kind) == 8)) : Option (Bool)) fun x7 =>
                  if x7 then
                    Option.bind (m_null_walk fuel k p0 p1 ((gt p0 p2).A) (p3 ++ [(W (2 * p2))])) fun x8 =>
                      some x8
                  else
                    some (p3 ++ [(W (2 * p2))])) : Option (List Int)) fun x2 =>
            some x2) : Option (List Int)) fun x1 =>
          if apOk 8 x1 [(W ((W (2 * p2)) + 1))] then
            some (x1 ++ [(W ((W (2 * p2)) + 1))])
          else none
      else none
    else none
def m_null_Steps (fuel : Nat) (p0 : (List MTerm)) (p1 : Int) : Option ((List Int)) :=
  Option.bind (m_null_Can fuel p0) fun x1 =>
  Option.bind ((
    if (decide (p1 < 0)) then
      some true
    else
      if (decide (p1 ≥ (x1.length : Int))) then
        some true
      else
        if inb x1 p1 then
          some (!(gt x1 p1))
        else none) : Option (Bool)) fun x2 =>
    if x2 then
      some ([] : List Int)
    else
      Option.bind (m_null_walk fuel fuel p0 x1 p1 ([] : List Int)) fun x3 =>
        some x3
def m_term_Up_l1 (fuel : Nat) (p0 : (List MTerm)) (s_ : List Int × Int) : Option (Ctl (List Int × Int) (List Int)) :=
  let (x2, x3) := s_
  if (decide (x3 < (p0.length : Int))) then
    Option.bind ((
      if inb p0 x3 then
        Option.bind ((
          if (decide (((gt p0 x3).A) ≥ 0)) then
            if inb x2 ((gt p0 x3).A) then
              some (x2.set (Int.toNat ((gt p0 x3).A)) x3)
            else none
          else
            some x2) : Option (List Int)) fun x5 =>
          if (decide (((gt p0 x3).B) ≥ 0)) then
            if inb x5 ((gt p0 x3).B) then
              some (x5.set (Int.toNat ((gt p0 x3).B)) x3)
            else none
          else
            some x5
      else none) : Option (List Int)) fun x4 =>
      some (.next (x4, (W (x3 + 1))))
  else
    some (.done x2)
def m_term_Up (fuel : Nat) (p0 : (List MTerm)) : Option ((List Int)) :=
  Option.bind (m_term_Right fuel p0) fun x1 =>
  if (!x1) then
    some ([] : List Int)
  else
    if mkOk 8 (p0.length : Int) then
      if inb (List.replicate (Int.toNat (p0.length : Int)) (0 : Int)) (W ((p0.length : Int) - 1)) then
        Option.bind (iter (m_term_Up_l1 fuel p0) fuel (((List.replicate (Int.toNat (p0.length : Int)) (0 : Int)).set (Int.toNat (W ((p0.length : Int) - 1))) (-1)), 0)) fun y1 =>
          some y1
      else none
    else none
def m_term_Deep_l1 (fuel : Nat) (x1 : (List Int)) (s_ : List Int × Int) : Option (Ctl (List Int × Int) (List Int)) :=
  let (x2, x3) := s_
  if (decide (x3 ≥ 0)) then
    Option.bind ((
      if inb x2 x3 then
        if inb x1 x3 then
          if (decide ((gt x1 x3) ≥ 0)) then
            if inb (x2.set (Int.toNat x3) 1) x3 then
              if inb x1 x3 then
                if inb (x2.set (Int.toNat x3) 1) (gt x1 x3) then
                  if inb (x2.set (Int.toNat x3) 1) x3 then
                    some ((x2.set (Int.toNat x3) 1).set (Int.toNat x3) (W ((gt (x2.set (Int.toNat x3) 1) x3) + (gt (x2.set (Int.toNat x3) 1) (gt x1 x3)))))
                  else none
                else none
              else none
            else none
          else
            some (x2.set (Int.toNat x3) 1)
        else none
      else none) : Option (List Int)) fun x4 =>
      some (.next (x4, (W (x3 - 1))))
  else
    some (.done x2)
def m_term_Deep (fuel : Nat) (p0 : (List MTerm)) : Option ((List Int)) :=
  Option.bind (m_term_Up fuel p0) fun x1 =>
  if mkOk 8 (x1.length : Int) then
    Option.bind (iter (m_term_Deep_l1 fuel x1) fuel ((List.replicate (Int.toNat (x1.length : Int)) (0 : Int)), (W ((x1.length : Int) - 1)))) fun y1 =>
      some y1
  else none
def m_place_Leaves_l1 (fuel : Nat) (p0 : (List MTerm)) (s_ : List Int × Int) : Option (Ctl (List Int × Int) (List Int)) :=
  let (x2, x3) := s_
  if (decide (x3 < (p0.length : Int))) then
    Option.bind ((
      if inb p0 x3 then
        if (((gt p0 x3).Kind) == 2) then
          if apOk 8 x2 [x3] then
            some (x2 ++ [x3])
          else none
        else
          some x2
      else none) : Option (List Int)) fun x4 =>
      some (.next (x4, (W (x3 + 1))))
  else
    some (.done x2)
def m_place_Leaves (fuel : Nat) (p0 : (List MTerm)) : Option ((List Int)) :=
  Option.bind (m_term_Right fuel p0) fun x1 =>
  if (!x1) then
    some ([] : List Int)
  else
    Option.bind (iter (m_place_Leaves_l1 fuel p0) fuel (([] : List Int), 0)) fun y1 =>
      some y1
def m_place_Index_l1 (fuel : Nat) (p0 : (List MTerm)) (s_ : List Int × Int) : Option (Ctl (List Int × Int) (List Int)) :=
  let (x2, x3) := s_
  if (decide (x3 < ((List.replicate (Int.toNat (p0.length : Int)) (0 : Int)).length : Int))) then
    if inb x2 x3 then
      some (.next ((x2.set (Int.toNat x3) (-1)), (W (x3 + 1))))
    else none
  else
    some (.done x2)
def m_place_Index_l2 (fuel : Nat) (y1 : List Int) (x4 : (List Int)) (s_ : List Int × Int) : Option (Ctl (List Int × Int) (List Int)) :=
  let (x5, x6) := s_
  if (decide (x6 < (x4.length : Int))) then
    if inb x4 x6 then
      if inb x5 (gt x4 x6) then
        some (.next ((x5.set (Int.toNat (gt x4 x6)) x6), (W (x6 + 1))))
      else none
    else none
  else
    some (.done x5)
def m_place_Index (fuel : Nat) (p0 : (List MTerm)) : Option ((List Int)) :=
  Option.bind (m_term_Right fuel p0) fun x1 =>
  if (!x1) then
    some ([] : List Int)
  else
    if mkOk 8 (p0.length : Int) then
      Option.bind (iter (m_place_Index_l1 fuel p0) fuel ((List.replicate (Int.toNat (p0.length : Int)) (0 : Int)), 0)) fun y1 =>
        Option.bind (m_place_Leaves fuel p0) fun x4 =>
          Option.bind (iter (m_place_Index_l2 fuel y1 x4) fuel (y1, 0)) fun y2 =>
            some y2
    else none
def m_follow_of (fuel : Nat) (p0 : (List MTerm)) : Option ((Option MFollowChart) × Bool) :=
  Option.bind (m_term_Right fuel p0) fun x1 =>
  if (!x1) then
    some (none, false)
  else
    Option.bind (m_term_Up fuel p0) fun x2 =>
      Option.bind (m_term_Deep fuel p0) fun x3 =>
        Option.bind (m_place_Index fuel p0) fun x4 =>
          Option.bind (m_null_Can fuel p0) fun x5 =>
            some ((some (⟨p0, x2, x3, x4, x5⟩ : MFollowChart)), true)
def m_follow_at (fuel : Nat) (p0 : (List MTerm)) (p1 : Int) : Option ((Option MFollowChart) × Int × Bool) :=
  Option.bind (m_follow_of fuel p0) fun x1 =>
  if (!x1.2) then
    some (none, 0, false)
  else
    Option.bind (m_place_Leaves fuel p0) fun x2 =>
      Option.bind ((
        if (decide (p1 < 0)) then
          some true
        else
          some (decide (p1 ≥ (x2.length : Int)))) : Option (Bool)) fun x3 =>
        if x3 then
          some (none, 0, false)
        else
          if inb x2 p1 then
            some (x1.1, (gt x2 p1), true)
          else none
def m_follow_more (fuel : Nat) (p0 : (List Int)) (p1 : (List Int)) : Option ((List Int)) :=
  if slOk p0 0 (p0.length : Int) then
  if (decide ((p0.length : Int) ≤ (p0.length : Int)) && decide ((p0.length : Int) ≤ (p0.length : Int))) then
    if apOk 8 (cutL p0 0 (p0.length : Int)) p1 then
      some ((cutL p0 0 (p0.length : Int)) ++ p1)
    else none
  else none
else none
def m_follow_chart_into (fuel : Nat) : Nat → MFollowChart → Int → (List Int) → (List MHop) → Option ((List MHop))
  | 0, _, _, _, _ => none
  | k + 1, p0, p1, p2, p3 =>
    if inb p0.l p1 then
      Option.bind (m_follow_more fuel p2 [(W (2 * p1))]) fun x1 =>
        Option.bind ((
          Option.bind ((
            if (((gt p0.l p1).Kind) == 2) then
              if inb p0.index p1 then
                if apOk 40 p3 [(⟨(gt p0.index p1), (0 : Int), x1⟩ : MHop)] then
                  some (.inr (p3 ++ [(⟨(gt p0.index p1), (0 : Int), x1⟩ : MHop)]))
                else none
              else none
            else
              if (((gt p0.l p1).Kind) == 3) then
                Option.bind (m_follow_chart_into fuel k p0 ((gt p0.l p1).A) x1 p3) fun x4 =>
                  if inb p0.can ((gt p0.l p1).A) then
                    if (gt p0.can ((gt p0.l p1).A)) then
                      Option.bind (m_null_Steps fuel p0.l ((gt p0.l p1).A)) fun x5 =>
                        Option.bind (m_follow_more fuel x1 x5) fun x6 =>
                          Option.bind (m_follow_chart_into fuel k p0 ((gt p0.l p1).B) x6 x4) fun x7 =>
                            some (.inl x7)
                    else
                      some (.inl x4)
                  else none
              else
                if (((gt p0.l p1).Kind) == 4) then
                  Option.bind (m_follow_chart_into fuel k p0 ((gt p0.l p1).A) x1 p3) fun x8 =>
                    Option.bind (m_follow_chart_into fuel k p0 ((gt p0.l p1).B) x1 x8) fun x9 =>
                      some (.inl x9)
                else
                  Option.bind ((
                    if (((gt p0.l p1).Kind) == 5) then
                      some (((gt p0.l p1).Kind) == 5)
                    else
                      if (((gt p0.l p1).Kind) == 6) then
                        some (((gt p0.l p1).Kind) == 6)
                      else
                        if (((gt p0.l p1).Kind) == 7) then
                          some (((gt p0.l p1).Kind) == 7)
                        else
                          some (((gt p0.l p1).Kind) == 8)) : Option (Bool)) fun x10 =>
                    if x10 then
                      Option.bind (m_follow_chart_into fuel k p0 ((gt p0.l p1).A) x1 p3) fun x11 =>
                        some (.inl x11)
                    else
                      some (.inl p3)) : Option ((List MHop) ⊕ ((List MHop)))) fun q2 => match q2 with
          | .inl x3 =>
            some (.inl x3)
          | .inr r1 => some (.inr r1)) : Option ((List MHop) ⊕ ((List MHop)))) fun q1 => match q1 with
        | .inl x2 =>
          some x2
        | .inr r1 => some r1
    else none
def m_follow_chart_turns_1 (fuel : Nat) (p0 : MHop) (p1 : MHop) : Option (Bool) :=
  some (p0.To == p1.To)
def m_slices_IndexFunc_api_Hop_api_Hop_follow_chart_turns_1_l1 (fuel : Nat) (p0 : (List MHop)) (p1 : MHop) (s_ : Int) : Option (Ctl (Int) ((Unit) ⊕ (Int))) :=
  let x1 := s_
  if (decide (x1 < (p0.length : Int))) then
    if inb p0 x1 then
      Option.bind (m_follow_chart_turns_1 fuel (gt p0 x1) p1) fun x2 =>
        if x2 then
          some (.done (.inr x1))
        else
          some (.next (W (x1 + 1)))
    else none
  else
    some (.done (.inl ()))
def m_slices_IndexFunc_api_Hop_api_Hop_follow_chart_turns_1 (fuel : Nat) (p0 : (List MHop)) (p1 : MHop) : Option (Int) :=
  Option.bind (iter (m_slices_IndexFunc_api_Hop_api_Hop_follow_chart_turns_1_l1 fuel p0 p1) fuel 0) fun t1 => match t1 with
| .inl _ =>
  some (-1)
| .inr r1 => some r1
def m_slices_ContainsFunc_api_Hop_api_Hop_follow_chart_turns_1 (fuel : Nat) (p0 : (List MHop)) (p1 : MHop) : Option (Bool) :=
  Option.bind (m_slices_IndexFunc_api_Hop_api_Hop_follow_chart_turns_1 fuel p0 p1) fun x1 =>
  some (decide (x1 ≥ 0))
def m_follow_chart_turns_l1 (fuel : Nat) (p0 : MFollowChart) (p1 : Int) (p4 : (List MHop)) (x1 : (List MHop)) (s_ : List MHop × Int) : Option (Ctl (List MHop × Int) (List MHop)) :=
  let (x2, x3) := s_
  if (decide (x3 < (x1.length : Int))) then
    Option.bind ((
      if inb x1 x3 then
        Option.bind (m_slices_ContainsFunc_api_Hop_api_Hop_follow_chart_turns_1 fuel x2 (gt x1 x3)) fun x5 =>
          if (!x5) then
            if inb p0.deep p1 then
              if apOk 40 x2 [(⟨(gt x1 x3).To, (gt p0.deep p1), (gt x1 x3).Steps⟩ : MHop)] then
                some (x2 ++ [(⟨(gt x1 x3).To, (gt p0.deep p1), (gt x1 x3).Steps⟩ : MHop)])
              else none
            else none
          else
            some x2
      else none) : Option (List MHop)) fun x4 =>
      some (.next (x4, (W (x3 + 1))))
  else
    some (.done x2)
def m_follow_chart_turns (fuel : Nat) (p0 : MFollowChart) (p1 : Int) (p2 : Int) (p3 : (List Int)) (p4 : (List MHop)) : Option ((List MHop)) :=
  Option.bind (m_follow_chart_into fuel fuel p0 p2 p3 ([] : List MHop)) fun x1 =>
  Option.bind (iter (m_follow_chart_turns_l1 fuel p0 p1 p4 x1) fuel (p4, 0)) fun y1 =>
    some y1
def m_follow_chart_climb_l1 (fuel : Nat) (p0 : MFollowChart) (p1 : Int) (s_ : Int × List Int × List MHop × Int) : Option (Ctl (Int × List Int × List MHop × Int) ((List Int × List MHop) ⊕ ((List MHop) × (List Int)))) :=
  let (x1, x2, x3, x4) := s_
  if (decide (x4 ≥ 0)) then
    if inb p0.l x4 then
      Option.bind ((
        Option.bind ((
          if (((gt p0.l x4).Kind) == 3) then
            some (((gt p0.l x4).A) == x1)
          else
            some false) : Option (Bool)) fun x7 =>
          if x7 then
            Option.bind (m_follow_chart_turns fuel p0 x4 ((gt p0.l x4).B) x2 x3) fun x8 =>
              if inb p0.can ((gt p0.l x4).B) then
                if (!(gt p0.can ((gt p0.l x4).B))) then
                  some (.inr (x8, ([] : List Int)))
                else
                  Option.bind (m_null_Steps fuel p0.l ((gt p0.l x4).B)) fun x9 =>
                    Option.bind (m_follow_more fuel x2 x9) fun x10 =>
                      some (.inl (x10, x8))
              else none
          else
            if (((gt p0.l x4).Kind) == 5) then
              Option.bind (m_follow_chart_turns fuel p0 x4 ((gt p0.l x4).A) x2 x3) fun x11 =>
                some (.inl (x2, x11))
            else
              some (.inl (x2, x3))) : Option ((List Int × List MHop) ⊕ ((List MHop) × (List Int)))) fun q1 => match q1 with
      | .inl (x5, x6) =>
        Option.bind (m_follow_more fuel x5 [(W ((W (2 * x4)) + 1))]) fun x12 =>
          if inb p0.up x4 then
            some (.next (x4, x12, x6, (gt p0.up x4)))
          else none
      | .inr r1 => some (.done (.inr r1))
    else none
  else
    some (.done (.inl (x2, x3)))
def m_follow_chart_climb (fuel : Nat) (p0 : MFollowChart) (p1 : Int) : Option ((List MHop) × (List Int)) :=
  if inb p0.up p1 then
  Option.bind (iter (m_follow_chart_climb_l1 fuel p0 p1) fuel (p1, [(W ((W (2 * p1)) + 1))], ([] : List MHop), (gt p0.up p1))) fun t1 => match t1 with
  | .inl (y1, y2) =>
    some (y2, y1)
  | .inr r1 => some r1
else none
def m_follow_End (fuel : Nat) (p0 : (List MTerm)) (p1 : Int) : Option (MHop × Bool) :=
  Option.bind ((
  if (p1 == (-1)) then
    Option.bind (m_null_Steps fuel p0 (W ((p0.length : Int) - 1))) fun x2 =>
      some x2
  else
    Option.bind (m_follow_at fuel p0 p1) fun x3 =>
      if x3.2.2 then
        Option.bind x3.1 fun x4 =>
          Option.bind (m_follow_chart_climb fuel x4 x3.2.1) fun x5 =>
            some x5.2
      else
        some ([] : List Int)) : Option (List Int)) fun x1 =>
  if ((x1.length : Int) == 0) then
    some ((⟨(0 : Int), (0 : Int), []⟩ : MHop), false)
  else
    some ((⟨(-1), (0 : Int), x1⟩ : MHop), true)
def m_follow_own_l1 (fuel : Nat) (p0 : (List MHop)) (s_ : List MHop × Int) : Option (Ctl (List MHop × Int) (List MHop)) :=
  let (x1, x2) := s_
  if (decide (x2 < (p0.length : Int))) then
    if inb x1 x2 then
      if mkOk 8 (((gt x1 x2).Steps).length : Int) then
        if inb x1 x2 then
          if inb x1 x2 then
            some (.next ((x1.set (Int.toNat x2) (⟨(gt x1 x2).To, (gt x1 x2).Turn, (copyL (List.replicate (Int.toNat (((gt x1 x2).Steps).length : Int)) (0 : Int)) ((gt x1 x2).Steps))⟩ : MHop)), (W (x2 + 1))))
          else none
        else none
      else none
    else none
  else
    some (.done x1)
def m_follow_own (fuel : Nat) (p0 : (List MHop)) : Option ((List MHop)) :=
  Option.bind (iter (m_follow_own_l1 fuel p0) fuel (p0, 0)) fun y1 =>
  some y1
def m_follow_First (fuel : Nat) (p0 : (List MTerm)) (p1 : Int) : Option ((List MHop)) :=
  Option.bind (m_follow_of fuel p0) fun x1 =>
  Option.bind ((
    if (!x1.2) then
      some true
    else
      if (decide (p1 < 0)) then
        some true
      else
        some (decide (p1 ≥ (p0.length : Int)))) : Option (Bool)) fun x2 =>
    if x2 then
      some ([] : List MHop)
    else
      Option.bind x1.1 fun x3 =>
        Option.bind (m_follow_chart_into fuel fuel x3 p1 ([] : List Int) ([] : List MHop)) fun x4 =>
          Option.bind (m_follow_own fuel x4) fun x5 =>
            some x5
def m_follow_From (fuel : Nat) (p0 : (List MTerm)) (p1 : Int) : Option ((List MHop)) :=
  Option.bind (m_follow_at fuel p0 p1) fun x1 =>
  if (!x1.2.2) then
    some ([] : List MHop)
  else
    Option.bind x1.1 fun x2 =>
      Option.bind (m_follow_chart_climb fuel x2 x1.2.1) fun x3 =>
        if soOk MHop.To x3.1 then
          Option.bind (m_follow_own fuel (sortK MHop.To x3.1)) fun x4 =>
            some x4
        else none
def m_ref06_Ints_l1 (fuel : Nat) (p0 : (List Int)) (p1 : (List Int)) (s_ : Int) : Option (Ctl (Int) ((Unit) ⊕ (Bool))) :=
  let x1 := s_
  if (decide (x1 < (p0.length : Int))) then
    if inb p0 x1 then
      if inb p1 x1 then
        if ((gt p0 x1) != (gt p1 x1)) then
          some (.done (.inr false))
        else
          some (.next (W (x1 + 1)))
      else none
    else none
  else
    some (.done (.inl ()))
def m_ref06_Ints (fuel : Nat) (p0 : (List Int)) (p1 : (List Int)) : Option (Bool) :=
  if ((p0.length : Int) != (p1.length : Int)) then
  some false
else
  Option.bind (iter (m_ref06_Ints_l1 fuel p0 p1) fuel 0) fun t1 => match t1 with
  | .inl _ =>
    some true
  | .inr r1 => some r1
def m_law17_sure (fuel : Nat)  : Option (Bool) :=
  Option.bind (m_follow_From fuel [(⟨2, (-1), (-1), (0 : Int), (List.replicate 4 0)⟩ : MTerm), (⟨8, 0, (-1), (0 : Int), (List.replicate 4 0)⟩ : MTerm), (⟨5, 1, (-1), (0 : Int), (List.replicate 4 0)⟩ : MTerm), (⟨2, (-1), (-1), (0 : Int), (List.replicate 4 0)⟩ : MTerm), (⟨3, 2, 3, (0 : Int), (List.replicate 4 0)⟩ : MTerm)] 0) fun x1 =>
  Option.bind (m_follow_End fuel [(⟨2, (-1), (-1), (0 : Int), (List.replicate 4 0)⟩ : MTerm), (⟨8, 0, (-1), (0 : Int), (List.replicate 4 0)⟩ : MTerm), (⟨5, 1, (-1), (0 : Int), (List.replicate 4 0)⟩ : MTerm), (⟨2, (-1), (-1), (0 : Int), (List.replicate 4 0)⟩ : MTerm), (⟨3, 2, 3, (0 : Int), (List.replicate 4 0)⟩ : MTerm)] 0) fun x2 =>
    Option.bind (m_follow_End fuel [(⟨2, (-1), (-1), (0 : Int), (List.replicate 4 0)⟩ : MTerm), (⟨8, 0, (-1), (0 : Int), (List.replicate 4 0)⟩ : MTerm), (⟨5, 1, (-1), (0 : Int), (List.replicate 4 0)⟩ : MTerm), (⟨2, (-1), (-1), (0 : Int), (List.replicate 4 0)⟩ : MTerm), (⟨3, 2, 3, (0 : Int), (List.replicate 4 0)⟩ : MTerm)] 1) fun x3 =>
      Option.bind ((
        if ((x1.length : Int) == 2) then
          if inb x1 0 then
            if (((gt x1 0).To) == 0) then
              if inb x1 0 then
                if (((gt x1 0).Turn) == 2) then
                  if inb x1 1 then
                    if (((gt x1 1).Turn) == 1) then
                      if inb x1 1 then
                        Option.bind (m_ref06_Ints fuel ((gt x1 1).Steps) [1, 3, 5, 6]) fun x5 =>
                          if x5 then
                            if (!x2.2) then
                              if x3.2 then
                                if (x3.1.To == (-1)) then
                                  Option.bind (m_ref06_Ints fuel x3.1.Steps [7, 9]) fun x6 =>
                                    if x6 then
                                      Option.bind (m_follow_First fuel [(⟨2, (-1), (-1), (0 : Int), (List.replicate 4 0)⟩ : MTerm), (⟨8, 0, (-1), (0 : Int), (List.replicate 4 0)⟩ : MTerm), (⟨5, 1, (-1), (0 : Int), (List.replicate 4 0)⟩ : MTerm), (⟨2, (-1), (-1), (0 : Int), (List.replicate 4 0)⟩ : MTerm), (⟨3, 2, 3, (0 : Int), (List.replicate 4 0)⟩ : MTerm)] 4) fun x7 =>
                                        some ((x7.length : Int) == 2)
                                    else
                                      some false
                                else
                                  some false
                              else
                                some false
                            else
                              some false
                          else
                            some false
                      else none
                    else
                      some false
                  else none
                else
                  some false
              else none
            else
              some false
          else none
        else
          some false) : Option (Bool)) fun x4 =>
        some x4
def m_ref16_Leaves_l1 (fuel : Nat) (p0 : (List MTerm)) (s_ : List Int × Int) : Option (Ctl (List Int × Int) (List Int)) :=
  let (x2, x3) := s_
  if (decide (x3 < (p0.length : Int))) then
    Option.bind ((
      if inb p0 x3 then
        if (((gt p0 x3).Kind) == 2) then
          if apOk 8 x2 [x3] then
            some (x2 ++ [x3])
          else none
        else
          some x2
      else none) : Option (List Int)) fun x4 =>
      some (.next (x4, (W (x3 + 1))))
  else
    some (.done x2)
def m_ref16_Leaves (fuel : Nat) (p0 : (List MTerm)) : Option ((List Int)) :=
  Option.bind (m_ref10_Right fuel p0) fun x1 =>
  if (!x1) then
    some ([] : List Int)
  else
    Option.bind (iter (m_ref16_Leaves_l1 fuel p0) fuel (([] : List Int), 0)) fun y1 =>
      some y1
def m_ref12_Can_l1 (fuel : Nat) (p0 : (List MTerm)) (s_ : List Bool × Int) : Option (Ctl (List Bool × Int) (List Bool)) :=
  let (x2, x3) := s_
  if (decide (x3 < (p0.length : Int))) then
    Option.bind ((
      if inb p0 x3 then
        Option.bind ((
          Option.bind ((
            if (((gt p0 x3).Kind) == 1) then
              some (((gt p0 x3).Kind) == 1)
            else
              if (((gt p0 x3).Kind) == 5) then
                some (((gt p0 x3).Kind) == 5)
              else
                some (((gt p0 x3).Kind) == 6)) : Option (Bool)) fun x6 =>
            if x6 then
              if inb x2 x3 then
                some (x2.set (Int.toNat x3) true)
              else none
            else
              if (((gt p0 x3).Kind) == 3) then
                Option.bind ((
                  if inb p0 x3 then
                    if inb x2 ((gt p0 x3).A) then
                      if (gt x2 ((gt p0 x3).A)) then
                        if inb p0 x3 then
                          if inb x2 ((gt p0 x3).B) then
                            if inb x2 x3 then
                              some (x2.set (Int.toNat x3) (gt x2 ((gt p0 x3).B)))
                            else none
                          else none
                        else none
                      else
                        if inb x2 x3 then
                          some (x2.set (Int.toNat x3) false)
                        else none
                    else none
                  else none) : Option (List Bool)) fun x7 =>
                  some x7
              else
                if (((gt p0 x3).Kind) == 4) then
                  Option.bind ((
                    if inb p0 x3 then
                      if inb x2 ((gt p0 x3).A) then
                        if (gt x2 ((gt p0 x3).A)) then
                          if inb x2 x3 then
                            some (x2.set (Int.toNat x3) true)
                          else none
                        else
                          if inb p0 x3 then
                            if inb x2 ((gt p0 x3).B) then
                              if inb x2 x3 then
                                some (x2.set (Int.toNat x3) (gt x2 ((gt p0 x3).B)))
                              else none
                            else none
                          else none
                      else none
                    else none) : Option (List Bool)) fun x8 =>
                    some x8
                else
                  Option.bind ((
                    if (((gt p0 x3).Kind) == 7) then
                      some (((gt p0 x3).Kind) == 7)
                    else
                      some (((gt p0 x3).Kind) == 8)) : Option (Bool)) fun x9 =>
                    if x9 then
                      if inb p0 x3 then
                        if inb x2 ((gt p0 x3).A) then
                          if inb x2 x3 then
                            some (x2.set (Int.toNat x3) (gt x2 ((gt p0 x3).A)))
                          else none
                        else none
                      else none
                    else
                      some x2) : Option (List Bool)) fun x5 =>
          some x5
      else none) : Option (List Bool)) fun x4 =>
      some (.next (x4, (W (x3 + 1))))
  else
    some (.done x2)
def m_ref12_Can (fuel : Nat) (p0 : (List MTerm)) : Option ((List Bool)) :=
  Option.bind (m_ref10_Right fuel p0) fun x1 =>
  if (!x1) then
    some ([] : List Bool)
  else
    if mkOk 1 (p0.length : Int) then
      Option.bind (iter (m_ref12_Can_l1 fuel p0) fuel ((List.replicate (Int.toNat (p0.length : Int)) false), 0)) fun y1 =>
        some y1
    else none
def m_ref12_Of (fuel : Nat) : Nat → (List MTerm) → (List Bool) → Int → Option ((List Int))
  | 0, _, _, _ => none
  | k + 1, p0, p1, p2 =>
    Option.bind ((
      if inb p0 p2 then
        Option.bind ((
          if (((gt p0 p2).Kind) == 3) then
            if inb p0 p2 then
              Option.bind (m_ref12_Of fuel k p0 p1 ((gt p0 p2).A)) fun x3 =>
                if apOk 8 [(W (2 * p2))] x3 then
                  if inb p0 p2 then
                    Option.bind (m_ref12_Of fuel k p0 p1 ((gt p0 p2).B)) fun x4 =>
                      if apOk 8 ([(W (2 * p2))] ++ x3) x4 then
                        some (([(W (2 * p2))] ++ x3) ++ x4)
                      else none
                  else none
                else none
            else none
          else
            if (((gt p0 p2).Kind) == 4) then
              if inb p0 p2 then
                if inb p1 ((gt p0 p2).A) then
                  if (gt p1 ((gt p0 p2).A)) then
                    if inb p0 p2 then
                      Option.bind (m_ref12_Of fuel k p0 p1 ((gt p0 p2).A)) fun x5 =>
                        if apOk 8 [(W (2 * p2))] x5 then
                          some ([(W (2 * p2))] ++ x5)
                        else none
                    else none
                  else
                    if inb p0 p2 then
                      Option.bind (m_ref12_Of fuel k p0 p1 ((gt p0 p2).B)) fun x6 =>
                        if apOk 8 [(W (2 * p2))] x6 then
                          some ([(W (2 * p2))] ++ x6)
                        else none
                    else none
                else none
              else none
            else
              Option.bind ((
                if (((gt p0 p2).Kind) == 7) then
                  some (((gt p0 p2).Kind) == 7)
                else
                  some (((gt p0 p2).Kind) == 8)) : Option (Bool)) fun x7 =>
                if x7 then
                  if inb p0 p2 then
                    Option.bind (m_ref12_Of fuel k p0 p1 ((gt p0 p2).A)) fun x8 =>
                      if apOk 8 [(W (2 * p2))] x8 then
                        some ([(W (2 * p2))] ++ x8)
                      else none
                  else none
                else
                  some [(W (2 * p2))]) : Option (List Int)) fun x2 =>
          some x2
      else none) : Option (List Int)) fun x1 =>
      if apOk 8 x1 [(W ((W (2 * p2)) + 1))] then
        some (x1 ++ [(W ((W (2 * p2)) + 1))])
      else none
def m_ref12_Steps (fuel : Nat) (p0 : (List MTerm)) (p1 : Int) : Option ((List Int)) :=
  Option.bind (m_ref12_Can fuel p0) fun x1 =>
  Option.bind ((
    if (decide (p1 < 0)) then
      some true
    else
      if (decide (p1 ≥ (x1.length : Int))) then
        some true
      else
        if inb x1 p1 then
          some (!(gt x1 p1))
        else none) : Option (Bool)) fun x2 =>
    if x2 then
      some ([] : List Int)
    else
      Option.bind (m_ref12_Of fuel fuel p0 x1 p1) fun x3 =>
        some x3
def m_ref16_Index_l1 (fuel : Nat) (p0 : (List MTerm)) (s_ : List Int × Int × Int) : Option (Ctl (List Int × Int × Int) (List Int)) :=
  let (x2, x3, x4) := s_
  if (decide (x4 < (p0.length : Int))) then
    Option.bind ((
      if inb x2 x4 then
        if inb p0 x4 then
          if (((gt p0 x4).Kind) == 2) then
            if inb (x2.set (Int.toNat x4) (-1)) x4 then
              some (((x2.set (Int.toNat x4) (-1)).set (Int.toNat x4) x3), (W (x3 + 1)))
            else none
          else
            some ((x2.set (Int.toNat x4) (-1)), x3)
        else none
      else none) : Option (List Int × Int)) fun q1 => match q1 with
    | (x5, x6) =>
      some (.next (x5, x6, (W (x4 + 1))))
  else
    some (.done x2)
def m_ref16_Index (fuel : Nat) (p0 : (List MTerm)) : Option ((List Int)) :=
  Option.bind (m_ref10_Right fuel p0) fun x1 =>
  if (!x1) then
    some ([] : List Int)
  else
    if mkOk 8 (p0.length : Int) then
      Option.bind (iter (m_ref16_Index_l1 fuel p0) fuel ((List.replicate (Int.toNat (p0.length : Int)) (0 : Int)), 0, 0)) fun y1 =>
        some y1
    else none
def m_ref10_Up_l1 (fuel : Nat) (p0 : (List MTerm)) (s_ : List Int × Int) : Option (Ctl (List Int × Int) (List Int)) :=
  let (x2, x3) := s_
  if (decide (x3 < (p0.length : Int))) then
    if inb x2 x3 then
      some (.next ((x2.set (Int.toNat x3) (-1)), (W (x3 + 1))))
    else none
  else
    some (.done x2)
def m_ref10_Up_l2 (fuel : Nat) (p0 : (List MTerm)) (y1 : List Int) (s_ : List Int × Int) : Option (Ctl (List Int × Int) (List Int)) :=
  let (x4, x5) := s_
  if (decide (x5 < (p0.length : Int))) then
    Option.bind ((
      Option.bind ((
        if inb p0 x5 then
          if (decide (((gt p0 x5).A) ≥ 0)) then
            if inb p0 x5 then
              if inb x4 ((gt p0 x5).A) then
                some (x4.set (Int.toNat ((gt p0 x5).A)) x5)
              else none
            else none
          else
            some x4
        else none) : Option (List Int)) fun x7 =>
        if inb p0 x5 then
          if (decide (((gt p0 x5).B) ≥ 0)) then
            if inb p0 x5 then
              if inb x7 ((gt p0 x5).B) then
                some (x7.set (Int.toNat ((gt p0 x5).B)) x5)
              else none
            else none
          else
            some x7
        else none) : Option (List Int)) fun x6 =>
      some (.next (x6, (W (x5 + 1))))
  else
    some (.done x4)
def m_ref10_Up (fuel : Nat) (p0 : (List MTerm)) : Option ((List Int)) :=
  Option.bind (m_ref10_Right fuel p0) fun x1 =>
  if (!x1) then
    some ([] : List Int)
  else
    if mkOk 8 (p0.length : Int) then
      Option.bind (iter (m_ref10_Up_l1 fuel p0) fuel ((List.replicate (Int.toNat (p0.length : Int)) (0 : Int)), 0)) fun y1 =>
        Option.bind (iter (m_ref10_Up_l2 fuel p0 y1) fuel (y1, 0)) fun y2 =>
          some y2
    else none
def m_ref17_put (fuel : Nat) (p0 : (List Int)) (p1 : (List Int)) : Option ((List Int)) :=
  if apOk 8 ([] : List Int) p0 then
  if apOk 8 (([] : List Int) ++ p0) p1 then
    some ((([] : List Int) ++ p0) ++ p1)
  else none
else none
def m_ref17_into (fuel : Nat) : Nat → (List MTerm) → (List Int) → (List Bool) → Int → (List Int) → Option ((List MHop))
  | 0, _, _, _, _, _ => none
  | k + 1, p0, p1, p2, p3, p4 =>
    if inb p0 p3 then
      Option.bind (m_ref17_put fuel p4 [(W (2 * p3))]) fun x1 =>
        if (((gt p0 p3).Kind) == 2) then
          if inb p1 p3 then
            some [(⟨(gt p1 p3), (0 : Int), x1⟩ : MHop)]
          else none
        else
          if (((gt p0 p3).Kind) == 3) then
            Option.bind (m_ref17_into fuel k p0 p1 p2 ((gt p0 p3).A) x1) fun x2 =>
              Option.bind ((
                if inb p2 ((gt p0 p3).A) then
                  if (gt p2 ((gt p0 p3).A)) then
                    Option.bind (m_ref12_Of fuel fuel p0 p2 ((gt p0 p3).A)) fun x4 =>
                      Option.bind (m_ref17_put fuel x1 x4) fun x5 =>
                        Option.bind (m_ref17_into fuel k p0 p1 p2 ((gt p0 p3).B) x5) fun x6 =>
                          if apOk 40 x2 x6 then
                            some (x2 ++ x6)
                          else none
                  else
                    some x2
                else none) : Option (List MHop)) fun x3 =>
                some x3
          else
            if (((gt p0 p3).Kind) == 4) then
              Option.bind (m_ref17_into fuel k p0 p1 p2 ((gt p0 p3).A) x1) fun x7 =>
                Option.bind (m_ref17_into fuel k p0 p1 p2 ((gt p0 p3).B) x1) fun x8 =>
                  if apOk 40 x7 x8 then
                    some (x7 ++ x8)
                  else none
            else
              Option.bind ((
                if (((gt p0 p3).Kind) == 5) then
                  some (((gt p0 p3).Kind) == 5)
                else
                  if (((gt p0 p3).Kind) == 6) then
                    some (((gt p0 p3).Kind) == 6)
                  else
                    if (((gt p0 p3).Kind) == 7) then
                      some (((gt p0 p3).Kind) == 7)
                    else
                      some (((gt p0 p3).Kind) == 8)) : Option (Bool)) fun x9 =>
                if x9 then
                  Option.bind (m_ref17_into fuel k p0 p1 p2 ((gt p0 p3).A) x1) fun x10 =>
                    some x10
                else
                  some ([] : List MHop)
    else none
def m_ref10_Deep_l1 (fuel : Nat) (x1 : (List Int)) (s_ : List Int × Int) : Option (Ctl (List Int × Int) (List Int)) :=
  let (x2, x3) := s_
  if (decide (x3 ≥ 0)) then
    Option.bind ((
      if inb x2 x3 then
        if inb x1 x3 then
          if (decide ((gt x1 x3) ≥ 0)) then
            if inb x1 x3 then
              if inb (x2.set (Int.toNat x3) 1) (gt x1 x3) then
                if inb (x2.set (Int.toNat x3) 1) x3 then
                  some ((x2.set (Int.toNat x3) 1).set (Int.toNat x3) (W ((gt (x2.set (Int.toNat x3) 1) (gt x1 x3)) + 1)))
                else none
              else none
            else none
          else
            some (x2.set (Int.toNat x3) 1)
        else none
      else none) : Option (List Int)) fun x4 =>
      some (.next (x4, (W (x3 - 1))))
  else
    some (.done x2)
def m_ref10_Deep (fuel : Nat) (p0 : (List MTerm)) : Option ((List Int)) :=
  Option.bind (m_ref10_Up fuel p0) fun x1 =>
  if mkOk 8 (x1.length : Int) then
    Option.bind (iter (m_ref10_Deep_l1 fuel x1) fuel ((List.replicate (Int.toNat (x1.length : Int)) (0 : Int)), (W ((x1.length : Int) - 1)))) fun y1 =>
      some y1
  else none
def m_ref17_known_l1 (fuel : Nat) (p0 : (List MHop)) (p1 : Int) (s_ : Int) : Option (Ctl (Int) ((Unit) ⊕ (Bool))) :=
  let x1 := s_
  if (decide (x1 < (p0.length : Int))) then
    if inb p0 x1 then
      if (((gt p0 x1).To) == p1) then
        some (.done (.inr true))
      else
        some (.next (W (x1 + 1)))
    else none
  else
    some (.done (.inl ()))
def m_ref17_known (fuel : Nat) (p0 : (List MHop)) (p1 : Int) : Option (Bool) :=
  Option.bind (iter (m_ref17_known_l1 fuel p0 p1) fuel 0) fun t1 => match t1 with
| .inl _ =>
  some false
| .inr r1 => some r1
def m_ref17_climb_l2 (fuel : Nat) (p0 : (List MTerm)) (x6 : MHop) (x1 : (List Int)) (x2 : (List Int)) (x3 : (List Int)) (x4 : (List Bool)) (x7 : Int) (x8 : List Int) (x9 : List MHop) (x12 : Int) (x14 : (List MHop)) (s_ : List MHop × List MHop × Int) : Option (Ctl (List MHop × List MHop × Int) (List MHop)) :=
  let (x15, x16, x17) := s_
  if (decide (x17 < (x16.length : Int))) then
    Option.bind ((
      if inb x16 x17 then
        Option.bind (m_ref17_known fuel x15 ((gt x16 x17).To)) fun x20 =>
          if (!x20) then
            if inb x2 (gt x1 x7) then
              if inb x16 x17 then
                if inb (x16.set (Int.toNat x17) (⟨(gt x16 x17).To, (gt x2 (gt x1 x7)), (gt x16 x17).Steps⟩ : MHop)) x17 then
                  if apOk 40 x15 [(gt (x16.set (Int.toNat x17) (⟨(gt x16 x17).To, (gt x2 (gt x1 x7)), (gt x16 x17).Steps⟩ : MHop)) x17)] then
                    some ((x15 ++ [(gt (x16.set (Int.toNat x17) (⟨(gt x16 x17).To, (gt x2 (gt x1 x7)), (gt x16 x17).Steps⟩ : MHop)) x17)]), (x16.set (Int.toNat x17) (⟨(gt x16 x17).To, (gt x2 (gt x1 x7)), (gt x16 x17).Steps⟩ : MHop)))
                  else none
                else none
              else none
            else none
          else
            some (x15, x16)
      else none) : Option (List MHop × List MHop)) fun q5 => match q5 with
    | (x18, x19) =>
      some (.next (x18, x19, (W (x17 + 1))))
  else
    some (.done x15)
def m_ref17_climb_l1 (fuel : Nat) (p0 : (List MTerm)) (x1 : (List Int)) (x2 : (List Int)) (x3 : (List Int)) (x4 : (List Bool)) (x5 : (List Int)) (p1 : Int) (s_ : MHop × Int × List Int × List MHop) : Option (Ctl (MHop × Int × List Int × List MHop) ((MHop × List Int × List MHop) ⊕ ((List MHop) × MHop × Bool))) :=
  let (x6, x7, x8, x9) := s_
  if inb x1 x7 then
    if (decide ((gt x1 x7) ≥ 0)) then
      if inb x1 x7 then
        Option.bind ((
          Option.bind ((
            if inb p0 (gt x1 x7) then
              if (((gt p0 (gt x1 x7)).Kind) == 3) then
                if inb p0 (gt x1 x7) then
                  some (((gt p0 (gt x1 x7)).A) == x7)
                else none
              else
                some false
            else none) : Option (Bool)) fun x11 =>
            if x11 then
              if inb p0 (gt x1 x7) then
                some ((gt p0 (gt x1 x7)).B)
              else none
            else
              some (-1)) : Option (Int)) fun x10 =>
          Option.bind ((
            if inb p0 (gt x1 x7) then
              if (((gt p0 (gt x1 x7)).Kind) == 5) then
                if inb p0 (gt x1 x7) then
                  some ((gt p0 (gt x1 x7)).A)
                else none
              else
                some x10
            else none) : Option (Int)) fun x12 =>
            Option.bind ((
              if (decide (x12 ≥ 0)) then
                Option.bind (m_ref17_into fuel fuel p0 x3 x4 x12 x8) fun x14 =>
                  Option.bind (iter (m_ref17_climb_l2 fuel p0 x6 x1 x2 x3 x4 x7 x8 x9 x12 x14) fuel (x9, x14, 0)) fun y4 =>
                    some y4
              else
                some x9) : Option (List MHop)) fun x13 =>
              Option.bind ((
                Option.bind ((
                  if inb p0 (gt x1 x7) then
                    if (((gt p0 (gt x1 x7)).Kind) == 3) then
                      if inb p0 (gt x1 x7) then
                        some (((gt p0 (gt x1 x7)).A) == x7)
                      else none
                    else
                      some false
                  else none) : Option (Bool)) fun x22 =>
                  if x22 then
                    if inb x4 x12 then
                      if (!(gt x4 x12)) then
                        some (.inr (x13, (⟨(0 : Int), (0 : Int), []⟩ : MHop), false))
                      else
                        Option.bind (m_ref12_Of fuel fuel p0 x4 x12) fun x23 =>
                          Option.bind (m_ref17_put fuel x8 x23) fun x24 =>
                            some (.inl x24)
                    else none
                  else
                    some (.inl x8)) : Option ((List Int) ⊕ ((List MHop) × MHop × Bool))) fun q6 => match q6 with
              | .inl x21 =>
                Option.bind (m_ref17_put fuel x21 [(W ((W (2 * (gt x1 x7))) + 1))]) fun x25 =>
                  some (.next (x6, (gt x1 x7), x25, x13))
              | .inr r1 => some (.done (.inr r1))
      else none
    else
      some (.done (.inl (x6, x8, x9)))
  else none
def m_ref17_climb (fuel : Nat) (p0 : (List MTerm)) (p1 : Int) : Option ((List MHop) × MHop × Bool) :=
  Option.bind (m_ref10_Up fuel p0) fun x1 =>
  Option.bind (m_ref10_Deep fuel p0) fun x2 =>
    Option.bind (m_ref16_Index fuel p0) fun x3 =>
      Option.bind (m_ref12_Can fuel p0) fun x4 =>
        Option.bind (m_ref16_Leaves fuel p0) fun x5 =>
          if inb x5 p1 then
            Option.bind (iter (m_ref17_climb_l1 fuel p0 x1 x2 x3 x4 x5 p1) fuel ((⟨(0 : Int), (0 : Int), []⟩ : MHop), (gt x5 p1), [(W ((W (2 * (gt x5 p1))) + 1))], ([] : List MHop))) fun t1 => match t1 with
            | .inl (y1, y2, y3) =>
              some (y3, (⟨(-1), (0 : Int), y2⟩ : MHop), true)
            | .inr r1 => some r1
          else none
def m_ref17_End (fuel : Nat) (p0 : (List MTerm)) (p1 : Int) : Option (MHop × Bool) :=
  Option.bind ((
  if (decide (p1 < (-1))) then
    some true
  else
    Option.bind (m_ref10_Right fuel p0) fun x2 =>
      if (!x2) then
        some true
      else
        Option.bind (m_ref16_Leaves fuel p0) fun x3 =>
          some (decide (p1 ≥ (x3.length : Int)))) : Option (Bool)) fun x1 =>
  if x1 then
    some ((⟨(0 : Int), (0 : Int), []⟩ : MHop), false)
  else
    if (p1 == (-1)) then
      Option.bind (m_ref12_Steps fuel p0 (W ((p0.length : Int) - 1))) fun x4 =>
        if ((x4.length : Int) == 0) then
          some ((⟨(0 : Int), (0 : Int), []⟩ : MHop), false)
        else
          some ((⟨(-1), (0 : Int), x4⟩ : MHop), true)
    else
      Option.bind (m_ref17_climb fuel p0 p1) fun x5 =>
        some (x5.2.1, x5.2.2)
def m_ref17_Same_l1 (fuel : Nat) (p0 : MHop) (p1 : MHop) (s_ : Int) : Option (Ctl (Int) ((Unit) ⊕ (Bool))) :=
  let x2 := s_
  if (decide (x2 < (p0.Steps.length : Int))) then
    if inb p0.Steps x2 then
      if inb p1.Steps x2 then
        if ((gt p0.Steps x2) != (gt p1.Steps x2)) then
          some (.done (.inr false))
        else
          some (.next (W (x2 + 1)))
      else none
    else none
  else
    some (.done (.inl ()))
def m_ref17_Same (fuel : Nat) (p0 : MHop) (p1 : MHop) : Option (Bool) :=
  Option.bind ((
  if (p0.To != p1.To) then
    some true
  else
    if (p0.Turn != p1.Turn) then
      some true
    else
      some ((p0.Steps.length : Int) != (p1.Steps.length : Int))) : Option (Bool)) fun x1 =>
  if x1 then
    some false
  else
    Option.bind (iter (m_ref17_Same_l1 fuel p0 p1) fuel 0) fun t1 => match t1 with
    | .inl _ =>
      some true
    | .inr r1 => some r1
def m_ref17_All_l1 (fuel : Nat) (p0 : (List MHop)) (p1 : (List MHop)) (s_ : Int) : Option (Ctl (Int) ((Unit) ⊕ (Bool))) :=
  let x1 := s_
  if (decide (x1 < (p0.length : Int))) then
    if inb p0 x1 then
      if inb p1 x1 then
        Option.bind (m_ref17_Same fuel (gt p0 x1) (gt p1 x1)) fun x2 =>
          if (!x2) then
            some (.done (.inr false))
          else
            some (.next (W (x1 + 1)))
      else none
    else none
  else
    some (.done (.inl ()))
def m_ref17_All (fuel : Nat) (p0 : (List MHop)) (p1 : (List MHop)) : Option (Bool) :=
  if ((p0.length : Int) != (p1.length : Int)) then
  some false
else
  Option.bind (iter (m_ref17_All_l1 fuel p0 p1) fuel 0) fun t1 => match t1 with
  | .inl _ =>
    some true
  | .inr r1 => some r1
def m_ref17_First (fuel : Nat) (p0 : (List MTerm)) (p1 : Int) : Option ((List MHop)) :=
  Option.bind ((
  Option.bind (m_ref10_Right fuel p0) fun x2 =>
    if (!x2) then
      some true
    else
      if (decide (p1 < 0)) then
        some true
      else
        some (decide (p1 ≥ (p0.length : Int)))) : Option (Bool)) fun x1 =>
  if x1 then
    some ([] : List MHop)
  else
    Option.bind (m_ref16_Index fuel p0) fun x3 =>
      Option.bind (m_ref12_Can fuel p0) fun x4 =>
        Option.bind (m_ref17_into fuel fuel p0 x3 x4 p1 ([] : List Int)) fun x5 =>
          some x5
def m_ref17_From_l2 (fuel : Nat) (p0 : (List MTerm)) (x3 : (List MHop) × MHop × Bool) (x4 : List MHop) (x5 : Int) (s_ : List MHop × Int) : Option (Ctl (List MHop × Int) (List MHop)) :=
  let (x7, x8) := s_
  if (decide (x8 < (x3.1.length : Int))) then
    Option.bind ((
      if inb x3.1 x8 then
        if (((gt x3.1 x8).To) == x5) then
          if inb x3.1 x8 then
            if apOk 40 x7 [(gt x3.1 x8)] then
              some (x7 ++ [(gt x3.1 x8)])
            else none
          else none
        else
          some x7
      else none) : Option (List MHop)) fun x9 =>
      some (.next (x9, (W (x8 + 1))))
  else
    some (.done x7)
def m_ref17_From_l1 (fuel : Nat) (p0 : (List MTerm)) (x3 : (List MHop) × MHop × Bool) (s_ : List MHop × Int) : Option (Ctl (List MHop × Int) (List MHop)) :=
  let (x4, x5) := s_
  Option.bind (m_ref16_Leaves fuel p0) fun x6 =>
    if (decide (x5 < (x6.length : Int))) then
      Option.bind (iter (m_ref17_From_l2 fuel p0 x3 x4 x5) fuel (x4, 0)) fun y2 =>
        some (.next (y2, (W (x5 + 1))))
    else
      some (.done x4)
def m_ref17_From (fuel : Nat) (p0 : (List MTerm)) (p1 : Int) : Option ((List MHop)) :=
  Option.bind ((
  if (decide (p1 < 0)) then
    some true
  else
    Option.bind (m_ref16_Leaves fuel p0) fun x2 =>
      some (decide (p1 ≥ (x2.length : Int)))) : Option (Bool)) fun x1 =>
  if x1 then
    some ([] : List MHop)
  else
    Option.bind (m_ref17_climb fuel p0 p1) fun x3 =>
      Option.bind (iter (m_ref17_From_l1 fuel p0 x3) fuel (([] : List MHop), 0)) fun y1 =>
        some y1
def m_ref14_Of_l2 (fuel : Nat) (p0 : (List (List Int))) (x1 : List MEntry) (x2 : List Int) (x3 : Bool) (x4 : Int) (s_ : List MEntry × List Int × Bool × Int) : Option (Ctl (List MEntry × List Int × Bool × Int) ((List MEntry × List Int × Bool) ⊕ ((List MEntry) × Bool))) :=
  let (x5, x6, x7, x8) := s_
  if inb p0 x4 then
    if (decide (x8 < ((gt p0 x4).length : Int))) then
      Option.bind ((
        if inb p0 x4 then
          if inb (gt p0 x4) x8 then
            Option.bind ((
              if (decide ((gt (gt p0 x4) x8) < 0)) then
                some true
              else
                some x7) : Option (Bool)) fun x12 =>
              if x12 then
                some (.inr (([] : List MEntry), false))
              else
                if ((Int.tmod (gt (gt p0 x4) x8) 2) == 0) then
                  if apOk 32 x5 [(⟨(W ((x6.length : Int) + 1)), (W (Int.tdiv (gt (gt p0 x4) x8) 2)), x4, (0 : Int)⟩ : MEntry)] then
                    if apOk 8 x6 [(W (((x5 ++ [(⟨(W ((x6.length : Int) + 1)), (W (Int.tdiv (gt (gt p0 x4) x8) 2)), x4, (0 : Int)⟩ : MEntry)]).length : Int) - 1))] then
                      some (.inl ((x5 ++ [(⟨(W ((x6.length : Int) + 1)), (W (Int.tdiv (gt (gt p0 x4) x8) 2)), x4, (0 : Int)⟩ : MEntry)]), (x6 ++ [(W (((x5 ++ [(⟨(W ((x6.length : Int) + 1)), (W (Int.tdiv (gt (gt p0 x4) x8) 2)), x4, (0 : Int)⟩ : MEntry)]).length : Int) - 1))]), x7))
                    else none
                  else none
                else
                  Option.bind ((
                    if ((x6.length : Int) == 0) then
                      some true
                    else
                      if inb x6 (W ((x6.length : Int) - 1)) then
                        if inb x5 (gt x6 (W ((x6.length : Int) - 1))) then
                          some (((gt x5 (gt x6 (W ((x6.length : Int) - 1)))).Node) != (W (Int.tdiv (gt (gt p0 x4) x8) 2)))
                        else none
                      else none) : Option (Bool)) fun x13 =>
                    if x13 then
                      some (.inr (([] : List MEntry), false))
                    else
                      if inb x6 (W ((x6.length : Int) - 1)) then
                        if inb x5 (gt x6 (W ((x6.length : Int) - 1))) then
                          if slOk x6 0 (W ((x6.length : Int) - 1)) then
                            some (.inl ((x5.set (Int.toNat (gt x6 (W ((x6.length : Int) - 1)))) (⟨(gt x5 (gt x6 (W ((x6.length : Int) - 1)))).Depth, (gt x5 (gt x6 (W ((x6.length : Int) - 1)))).Node, (gt x5 (gt x6 (W ((x6.length : Int) - 1)))).From, x4⟩ : MEntry)), (cutL x6 0 (W ((x6.length : Int) - 1))), (((cutL x6 0 (W ((x6.length : Int) - 1))).length : Int) == 0)))
                          else none
                        else none
                      else none
          else none
        else none) : Option ((List MEntry × List Int × Bool) ⊕ ((List MEntry) × Bool))) fun q1 => match q1 with
      | .inl (x9, x10, x11) =>
        some (.next (x9, x10, x11, (W (x8 + 1))))
      | .inr r1 => some (.done (.inr r1))
    else
      some (.done (.inl (x5, x6, x7)))
  else none
def m_ref14_Of_l1 (fuel : Nat) (p0 : (List (List Int))) (s_ : List MEntry × List Int × Bool × Int) : Option (Ctl (List MEntry × List Int × Bool × Int) ((List MEntry × Bool) ⊕ ((List MEntry) × Bool))) :=
  let (x1, x2, x3, x4) := s_
  if (decide (x4 < (p0.length : Int))) then
    Option.bind (iter (m_ref14_Of_l2 fuel p0 x1 x2 x3 x4) fuel (x1, x2, x3, 0)) fun t2 => match t2 with
    | .inl (y3, y4, y5) =>
      Option.bind ((
        if y5 then
          some (decide (x4 < (W ((p0.length : Int) - 1))))
        else
          some false) : Option (Bool)) fun x14 =>
        if x14 then
          some (.done (.inr (([] : List MEntry), false)))
        else
          some (.next (y3, y4, y5, (W (x4 + 1))))
    | .inr r1 => some (.done (.inr r1))
  else
    some (.done (.inl (x1, x3)))
def m_ref14_Of (fuel : Nat) (p0 : (List (List Int))) : Option ((List MEntry) × Bool) :=
  Option.bind (iter (m_ref14_Of_l1 fuel p0) fuel (([] : List MEntry), ([] : List Int), false, 0)) fun t1 => match t1 with
| .inl (y1, y2) =>
  if (!y2) then
    some (([] : List MEntry), false)
  else
    some (y1, true)
| .inr r1 => some r1
def m_ref14_kids_l1 (fuel : Nat) (rc : (List MTerm) → (List Int) → (List MEntry) → Int → MEntry → Option (Int)) (p0 : (List MTerm)) (p1 : (List Int)) (p2 : (List MEntry)) (p3 : Int) (p4 : MEntry) (s_ : Int × Int) : Option (Ctl (Int × Int) ((Int) ⊕ (Int))) :=
  let (x1, x2) := s_
  if (decide (x2 < p4.To)) then
    Option.bind ((
      if (decide (x1 ≥ (p2.length : Int))) then
        some true
      else
        if inb p2 x1 then
          some (decide (((gt p2 x1).To) ≤ x2))
        else none) : Option (Bool)) fun x3 =>
      if x3 then
        some (.done (.inr (-1)))
      else
        if inb p2 x1 then
          if inb p0 p4.Node then
            Option.bind (rc p0 p1 p2 x1 (⟨(W (p4.Depth + 1)), (gt p0 p4.Node).A, x2, (gt p2 x1).To⟩ : MEntry)) fun x4 =>
              Option.bind ((
                if (decide (x4 < 0)) then
                  some true
                else
                  some (decide (((gt p2 x1).To) > p4.To))) : Option (Bool)) fun x5 =>
                if x5 then
                  some (.done (.inr (-1)))
                else
                  some (.next (x4, (gt p2 x1).To))
          else none
        else none
  else
    some (.done (.inl x1))
def m_ref14_kids (fuel : Nat) (rc : (List MTerm) → (List Int) → (List MEntry) → Int → MEntry → Option (Int)) (p0 : (List MTerm)) (p1 : (List Int)) (p2 : (List MEntry)) (p3 : Int) (p4 : MEntry) : Option (Int) :=
  Option.bind (iter (m_ref14_kids_l1 fuel rc p0 p1 p2 p3 p4) fuel (p3, p4.From)) fun t1 => match t1 with
| .inl y1 =>
  some y1
| .inr r1 => some r1
def m_ref01_Has (fuel : Nat) (p0 : (List Int)) (p1 : Int) : Option (Bool) :=
  Option.bind ((
  if (decide (p1 ≥ 0)) then
    if (decide (p1 < 256)) then
      if inbN 4 (W (Int.tdiv p1 64)) then
        if decide (0 ≤ (Int.tmod p1 64)) then
          some ((band .u64 (shr .u64 (gt p0 (W (Int.tdiv p1 64))) (Int.tmod p1 64)) 1) == 1)
        else none
      else none
    else
      some false
  else
    some false) : Option (Bool)) fun x1 =>
  some x1
def m_ref14_entry (fuel : Nat) : Nat → (List MTerm) → (List Int) → (List MEntry) → Int → MEntry → Option (Int)
  | 0, _, _, _, _, _ => none
  | k + 1, p0, p1, p2, p3, p4 =>
    Option.bind ((
      if (decide (p3 < 0)) then
        some true
      else
        if (decide (p3 ≥ (p2.length : Int))) then
          some true
        else
          if inb p2 p3 then
            if (!((((gt p2 p3).Depth) == p4.Depth) && ((((gt p2 p3).Node) == p4.Node) && ((((gt p2 p3).From) == p4.From) && (((gt p2 p3).To) == p4.To))))) then
              some true
            else
              if (decide (p4.From < 0)) then
                some true
              else
                if (decide (p4.To < p4.From)) then
                  some true
                else
                  some (decide (p4.To > (p1.length : Int)))
          else none) : Option (Bool)) fun x1 =>
      if x1 then
        some (-1)
      else
        if inb p0 p4.Node then
          Option.bind ((
            Option.bind ((
              if (((gt p0 p4.Node).Kind) == 1) then
                if (p4.From == p4.To) then
                  some (.inr (W (p3 + 1)))
                else
                  some (.inr (-1))
              else
                if (((gt p0 p4.Node).Kind) == 2) then
                  Option.bind ((
                    if (p4.To == (W (p4.From + 1))) then
                      if inb p1 p4.From then
                        Option.bind (m_ref01_Has fuel ((gt p0 p4.Node).Set) (W ((gt p1 p4.From)))) fun x3 =>
                          some x3
                      else none
                    else
                      some false) : Option (Bool)) fun x2 =>
                    if x2 then
                      some (.inr (W (p3 + 1)))
                    else
                      some (.inr (-1))
                else
                  if (((gt p0 p4.Node).Kind) == 3) then
                    if (decide ((W (p3 + 1)) ≥ (p2.length : Int))) then
                      some (.inr (-1))
                    else
                      if inb p2 (W (p3 + 1)) then
                        Option.bind (m_ref14_entry fuel k p0 p1 p2 (W (p3 + 1)) (⟨(⟨(W (p4.Depth + 1)), (gt p0 p4.Node).A, p4.From, p4.To⟩ : MEntry).Depth, (⟨(W (p4.Depth + 1)), (gt p0 p4.Node).A, p4.From, p4.To⟩ : MEntry).Node, (⟨(W (p4.Depth + 1)), (gt p0 p4.Node).A, p4.From, p4.To⟩ : MEntry).From, (gt p2 (W (p3 + 1))).To⟩ : MEntry)) fun x4 =>
                          Option.bind ((
                            if (decide (x4 < 0)) then
                              some true
                            else
                              some (decide (((gt p2 (W (p3 + 1))).To) > p4.To))) : Option (Bool)) fun x5 =>
                            if x5 then
                              some (.inr (-1))
                            else
                              Option.bind (m_ref14_entry fuel k p0 p1 p2 x4 (⟨(W (p4.Depth + 1)), (gt p0 p4.Node).B, (gt p2 (W (p3 + 1))).To, p4.To⟩ : MEntry)) fun x6 =>
                                some (.inr x6)
                      else none
                  else
                    if (((gt p0 p4.Node).Kind) == 4) then
                      Option.bind ((
                        Option.bind ((
                          if (decide ((W (p3 + 1)) < (p2.length : Int))) then
                            if inb p2 (W (p3 + 1)) then
                              some (((gt p2 (W (p3 + 1))).Node) == ((gt p0 p4.Node).B))
                            else none
                          else
                            some false) : Option (Bool)) fun x8 =>
                          if x8 then
                            some (⟨(⟨(W (p4.Depth + 1)), (gt p0 p4.Node).A, p4.From, p4.To⟩ : MEntry).Depth, (gt p0 p4.Node).B, (⟨(W (p4.Depth + 1)), (gt p0 p4.Node).A, p4.From, p4.To⟩ : MEntry).From, (⟨(W (p4.Depth + 1)), (gt p0 p4.Node).A, p4.From, p4.To⟩ : MEntry).To⟩ : MEntry)
                          else
                            some (⟨(W (p4.Depth + 1)), (gt p0 p4.Node).A, p4.From, p4.To⟩ : MEntry)) : Option (MEntry)) fun x7 =>
                        Option.bind (m_ref14_entry fuel k p0 p1 p2 (W (p3 + 1)) x7) fun x9 =>
                          some (.inr x9)
                    else
                      if (((gt p0 p4.Node).Kind) == 5) then
                        Option.bind (m_ref14_kids fuel (m_ref14_entry fuel k) p0 p1 p2 (W (p3 + 1)) p4) fun x10 =>
                          some (.inr x10)
                      else
                        if (((gt p0 p4.Node).Kind) == 6) then
                          if (p4.From == p4.To) then
                            some (.inr (W (p3 + 1)))
                          else
                            some (.inl ())
                        else
                          some (.inl ())) : Option ((Unit) ⊕ (Int))) fun q3 => match q3 with
            | .inl _ =>
              some (.inl ())
            | .inr r1 => some (.inr r1)) : Option ((Unit) ⊕ (Int))) fun q2 => match q2 with
          | .inl _ =>
            Option.bind (m_ref14_entry fuel k p0 p1 p2 (W (p3 + 1)) (⟨(W (p4.Depth + 1)), (gt p0 p4.Node).A, p4.From, p4.To⟩ : MEntry)) fun x11 =>
              some x11
          | .inr r1 => some r1
        else none
def m_ref14_Right (fuel : Nat) (p0 : (List MTerm)) (p1 : (List Int)) (p2 : (List MEntry)) : Option (Bool) :=
  Option.bind ((
  Option.bind (m_ref10_Right fuel p0) fun x2 =>
    if x2 then
      Option.bind (m_ref14_entry fuel fuel p0 p1 p2 0 (⟨1, (W ((p0.length : Int) - 1)), 0, (p1.length : Int)⟩ : MEntry)) fun x3 =>
        some (x3 == (p2.length : Int))
    else
      some false) : Option (Bool)) fun x1 =>
  some x1
def m_law18_few (fuel : Nat) (p0 : (List MTerm)) (p1 : (List Int)) : Option (Bool) :=
  Option.bind ((
  if (decide ((p0.length : Int) ≤ 60)) then
    some (decide ((p1.length : Int) ≤ 16))
  else
    some false) : Option (Bool)) fun x1 =>
  some x1
def m_trace_ways (fuel : Nat) (p0 : (List MTerm)) (p1 : Int) : Option ((List MHop)) :=
  if (decide (p1 < 0)) then
  Option.bind (m_follow_First fuel p0 (W ((p0.length : Int) - 1))) fun x1 =>
    some x1
else
  Option.bind (m_follow_From fuel p0 p1) fun x2 =>
    some x2
def m_trace_Frames_1 (fuel : Nat) (p0 : MHop) (p1 : Int) : Option (Bool) :=
  some (p0.To == p1)
def m_slices_IndexFunc_api_Hop_api_Hop_trace_Frames_1_l1 (fuel : Nat) (p0 : (List MHop)) (p1 : Int) (s_ : Int) : Option (Ctl (Int) ((Unit) ⊕ (Int))) :=
  let x1 := s_
  if (decide (x1 < (p0.length : Int))) then
    if inb p0 x1 then
      Option.bind (m_trace_Frames_1 fuel (gt p0 x1) p1) fun x2 =>
        if x2 then
          some (.done (.inr x1))
        else
          some (.next (W (x1 + 1)))
    else none
  else
    some (.done (.inl ()))
def m_slices_IndexFunc_api_Hop_api_Hop_trace_Frames_1 (fuel : Nat) (p0 : (List MHop)) (p1 : Int) : Option (Int) :=
  Option.bind (iter (m_slices_IndexFunc_api_Hop_api_Hop_trace_Frames_1_l1 fuel p0 p1) fuel 0) fun t1 => match t1 with
| .inl _ =>
  some (-1)
| .inr r1 => some r1
def m_trace_Frames_l1 (fuel : Nat) (p0 : (List MTerm)) (p2 : Bool) (p1 : (List Int)) (s_ : List (List Int) × Int × Int) : Option (Ctl (List (List Int) × Int × Int) ((List (List Int) × Int) ⊕ ((List (List Int)) × Bool))) :=
  let (x2, x3, x4) := s_
  if (decide (x4 < (p1.length : Int))) then
    if inb p1 x4 then
      Option.bind (m_trace_ways fuel p0 x3) fun x5 =>
        Option.bind (m_slices_IndexFunc_api_Hop_api_Hop_trace_Frames_1 fuel x5 (gt p1 x4)) fun x6 =>
          if (decide (x6 < 0)) then
            some (.done (.inr (([] : List (List Int)), false)))
          else
            if inb x5 x6 then
              if apOk 24 x2 [(gt x5 x6).Steps] then
                some (.next ((x2 ++ [(gt x5 x6).Steps]), (gt p1 x4), (W (x4 + 1))))
              else none
            else none
    else none
  else
    some (.done (.inl (x2, x3)))
def m_trace_Frames (fuel : Nat) (p0 : (List MTerm)) (p1 : (List Int)) (p2 : Bool) : Option ((List (List Int)) × Bool) :=
  Option.bind (m_term_Right fuel p0) fun x1 =>
  if (!x1) then
    some (([] : List (List Int)), false)
  else
    Option.bind (iter (m_trace_Frames_l1 fuel p0 p2 p1) fuel (([] : List (List Int)), (-1), 0)) fun t1 => match t1 with
    | .inl (y1, y2) =>
      if (!p2) then
        some (y1, true)
      else
        Option.bind (m_follow_End fuel p0 y2) fun x7 =>
          if (!x7.2) then
            some (([] : List (List Int)), false)
          else
            if apOk 24 y1 [x7.1.Steps] then
              some ((y1 ++ [x7.1.Steps]), true)
            else none
    | .inr r1 => some r1
def m_tree_grower_step (fuel : Nat) (p0 : MTreeGrower) (p1 : Int) (p2 : Int) : Option (Bool × MTreeGrower) :=
  Option.bind ((
  if (decide (p1 < 0)) then
    some true
  else
    if ((p0.open_.length : Int) == 0) then
      some (decide ((p0.out.length : Int) > 0))
    else
      some false) : Option (Bool)) fun x1 =>
  if x1 then
    some (false, p0)
  else
    if ((Int.tmod p1 2) == 0) then
      if apOk 8 p0.open_ [(p0.out.length : Int)] then
        if apOk 32 p0.out [(⟨((p0.open_ ++ [(p0.out.length : Int)]).length : Int), (W (Int.tdiv p1 2)), p2, (0 : Int)⟩ : MEntry)] then
          some (true, (⟨(p0.out ++ [(⟨((p0.open_ ++ [(p0.out.length : Int)]).length : Int), (W (Int.tdiv p1 2)), p2, (0 : Int)⟩ : MEntry)]), (⟨p0.out, (p0.open_ ++ [(p0.out.length : Int)])⟩ : MTreeGrower).open_⟩ : MTreeGrower))
        else none
      else none
    else
      if ((p0.open_.length : Int) == 0) then
        some (false, p0)
      else
        if inb p0.open_ (W ((p0.open_.length : Int) - 1)) then
          if inb p0.out (gt p0.open_ (W ((p0.open_.length : Int) - 1))) then
            if slOk p0.open_ 0 (W ((p0.open_.length : Int) - 1)) then
              some ((((gt (p0.out.set (Int.toNat (gt p0.open_ (W ((p0.open_.length : Int) - 1)))) (⟨(gt p0.out (gt p0.open_ (W ((p0.open_.length : Int) - 1)))).Depth, (gt p0.out (gt p0.open_ (W ((p0.open_.length : Int) - 1)))).Node, (gt p0.out (gt p0.open_ (W ((p0.open_.length : Int) - 1)))).From, p2⟩ : MEntry)) (gt p0.open_ (W ((p0.open_.length : Int) - 1)))).Node) == (W (Int.tdiv p1 2))), (⟨(p0.out.set (Int.toNat (gt p0.open_ (W ((p0.open_.length : Int) - 1)))) (⟨(gt p0.out (gt p0.open_ (W ((p0.open_.length : Int) - 1)))).Depth, (gt p0.out (gt p0.open_ (W ((p0.open_.length : Int) - 1)))).Node, (gt p0.out (gt p0.open_ (W ((p0.open_.length : Int) - 1)))).From, p2⟩ : MEntry)), (⟨p0.out, (cutL p0.open_ 0 (W ((p0.open_.length : Int) - 1)))⟩ : MTreeGrower).open_⟩ : MTreeGrower))
            else none
          else none
        else none
def m_tree_Of_l2 (fuel : Nat) (p0 : (List (List Int))) (x1 : MTreeGrower) (x2 : Int) (s_ : MTreeGrower × Int) : Option (Ctl (MTreeGrower × Int) ((MTreeGrower) ⊕ ((List MEntry) × Bool))) :=
  let (x3, x4) := s_
  if (decide (x4 < ((gt p0 x2).length : Int))) then
    if inb (gt p0 x2) x4 then
      Option.bind (m_tree_grower_step fuel x3 (gt (gt p0 x2) x4) x2) fun x5 =>
        if (!x5.1) then
          some (.done (.inr (([] : List MEntry), false)))
        else
          some (.next (x5.2, (W (x4 + 1))))
    else none
  else
    some (.done (.inl x3))
def m_tree_Of_l1 (fuel : Nat) (p0 : (List (List Int))) (s_ : MTreeGrower × Int) : Option (Ctl (MTreeGrower × Int) ((MTreeGrower) ⊕ ((List MEntry) × Bool))) :=
  let (x1, x2) := s_
  if (decide (x2 < (p0.length : Int))) then
    if inb p0 x2 then
      Option.bind (iter (m_tree_Of_l2 fuel p0 x1 x2) fuel (x1, 0)) fun t2 => match t2 with
      | .inl y2 =>
        Option.bind ((
          if (decide ((y2.out.length : Int) > 0)) then
            if ((y2.open_.length : Int) == 0) then
              some (decide (x2 < (W ((p0.length : Int) - 1))))
            else
              some false
          else
            some false) : Option (Bool)) fun x6 =>
          if x6 then
            some (.done (.inr (([] : List MEntry), false)))
          else
            some (.next (y2, (W (x2 + 1))))
      | .inr r1 => some (.done (.inr r1))
    else none
  else
    some (.done (.inl x1))
def m_tree_Of (fuel : Nat) (p0 : (List (List Int))) : Option ((List MEntry) × Bool) :=
  Option.bind (iter (m_tree_Of_l1 fuel p0) fuel ((⟨[], []⟩ : MTreeGrower), 0)) fun t1 => match t1 with
| .inl y1 =>
  Option.bind ((
    if ((y1.out.length : Int) == 0) then
      some true
    else
      some (decide ((y1.open_.length : Int) > 0))) : Option (Bool)) fun x7 =>
    if x7 then
      some (([] : List MEntry), false)
    else
      some (y1.out, true)
| .inr r1 => some r1
def m_trace_Tree (fuel : Nat) (p0 : (List MTerm)) (p1 : (List Int)) : Option ((List MEntry) × Bool) :=
  Option.bind (m_trace_Frames fuel p0 p1 true) fun x1 =>
  if (!x1.2) then
    some (([] : List MEntry), false)
  else
    Option.bind (m_tree_Of fuel x1.1) fun x2 =>
      some (x2.1, x2.2)
def m_bset_Has (fuel : Nat) (p0 : (List Int)) (p1 : Int) : Option (Bool) :=
  if inbN 4 (IntKind.wrap .u8 (Int.tdiv p1 64)) then
  if decide (0 ≤ (Int.tmod p1 64)) then
    some ((band .u64 (gt p0 (IntKind.wrap .u8 (Int.tdiv p1 64))) (shl .u64 1 (Int.tmod p1 64))) != 0)
  else none
else none
def m_trace_Fits_l1 (fuel : Nat) (p0 : (List MTerm)) (p2 : (List Int)) (x3 : (List Int)) (p1 : (List Int)) (s_ : Int) : Option (Ctl (Int) ((Unit) ⊕ (Bool))) :=
  let x4 := s_
  if (decide (x4 < (p1.length : Int))) then
    if inb p1 x4 then
      if inb x3 (gt p1 x4) then
        if inb p0 (gt x3 (gt p1 x4)) then
          if inb p2 x4 then
            Option.bind (m_bset_Has fuel ((gt p0 (gt x3 (gt p1 x4))).Set) (gt p2 x4)) fun x5 =>
              if (!x5) then
                some (.done (.inr false))
              else
                some (.next (W (x4 + 1)))
          else none
        else none
      else none
    else none
  else
    some (.done (.inl ()))
def m_trace_Fits (fuel : Nat) (p0 : (List MTerm)) (p1 : (List Int)) (p2 : (List Int)) : Option (Bool) :=
  Option.bind (m_trace_Frames fuel p0 p1 false) fun x1 =>
  Option.bind ((
    if (!x1.2) then
      some true
    else
      some ((p1.length : Int) != (p2.length : Int))) : Option (Bool)) fun x2 =>
    if x2 then
      some false
    else
      Option.bind (m_place_Leaves fuel p0) fun x3 =>
        Option.bind (iter (m_trace_Fits_l1 fuel p0 p2 x3 p1) fuel 0) fun t1 => match t1 with
        | .inl _ =>
          some true
        | .inr r1 => some r1
def m_trace_partOf_l2 (fuel : Nat) (p0 : (List (List Int))) (p1 : (List (List Int))) (x1 : MTraceFork) (x2 : Int) (s_ : MTraceFork × Int) : Option (Ctl (MTraceFork × Int) ((MTraceFork) ⊕ (MTraceFork × Bool))) :=
  let (x3, x4) := s_
  if (decide (x4 < (if ((gt p1 x2).length : Int) < ((gt p0 x2).length : Int) then ((gt p1 x2).length : Int) else ((gt p0 x2).length : Int)))) then
    if inb p0 x2 then
      if inb (gt p0 x2) x4 then
        if inb p1 x2 then
          if inb (gt p1 x2) x4 then
            if ((gt (gt p0 x2) x4) != (gt (gt p1 x2) x4)) then
              some (.done (.inr ((⟨x2, x4⟩ : MTraceFork), true)))
            else
              some (.next (x3, (W (x4 + 1))))
          else none
        else none
      else none
    else none
  else
    some (.done (.inl x3))
def m_trace_partOf_l1 (fuel : Nat) (p0 : (List (List Int))) (p1 : (List (List Int))) (s_ : MTraceFork × Int) : Option (Ctl (MTraceFork × Int) ((MTraceFork) ⊕ (MTraceFork × Bool))) :=
  let (x1, x2) := s_
  if (decide (x2 < (p0.length : Int))) then
    if inb p0 x2 then
      if inb p1 x2 then
        Option.bind (iter (m_trace_partOf_l2 fuel p0 p1 x1 x2) fuel (x1, 0)) fun t2 => match t2 with
        | .inl y2 =>
          some (.next (y2, (W (x2 + 1))))
        | .inr r1 => some (.done (.inr r1))
      else none
    else none
  else
    some (.done (.inl x1))
def m_trace_partOf (fuel : Nat) (p0 : (List (List Int))) (p1 : (List (List Int))) : Option (MTraceFork × Bool) :=
  Option.bind (iter (m_trace_partOf_l1 fuel p0 p1) fuel ((⟨(0 : Int), (0 : Int)⟩ : MTraceFork), 0)) fun t1 => match t1 with
| .inl y1 =>
  some ((⟨(0 : Int), (0 : Int)⟩ : MTraceFork), false)
| .inr r1 => some r1
def m_trace_parted (fuel : Nat) (p0 : (List MTerm)) (p1 : (List Int)) (p2 : (List Int)) (p3 : Bool) : Option ((List (List Int)) × (List (List Int)) × MTraceFork × Bool) :=
  Option.bind (m_trace_Frames fuel p0 p1 p3) fun x1 =>
  Option.bind (m_trace_Frames fuel p0 p2 p3) fun x2 =>
    Option.bind ((
      if (!x1.2) then
        some true
      else
        if (!x2.2) then
          some true
        else
          some ((p1.length : Int) != (p2.length : Int))) : Option (Bool)) fun x3 =>
      if x3 then
        some (([] : List (List Int)), ([] : List (List Int)), (⟨(0 : Int), (0 : Int)⟩ : MTraceFork), false)
      else
        Option.bind (m_trace_partOf fuel x1.1 x2.1) fun x4 =>
          some (x1.1, x2.1, x4.1, x4.2)
def m_trace_depth_step (fuel : Nat) (p0 : MTraceCloser) (p1 : Int) : Option (Int × MTraceCloser) :=
  if ((Int.tmod p1 2) == 0) then
  some (0, (⟨(⟨(W (p0.depth.n + 1))⟩ : MTraceDepth), p0.low⟩ : MTraceCloser))
else
  some ((W ((W (p0.depth.n - 1)) + 1)), (⟨(⟨(W (p0.depth.n - 1))⟩ : MTraceDepth), p0.low⟩ : MTraceCloser))
def m_trace_closer_through_l1 (fuel : Nat) (p0 : MTraceCloser) (p1 : (List Int)) (s_ : MTraceCloser × Int) : Option (Ctl (MTraceCloser × Int) (MTraceCloser)) :=
  let (x1, x2) := s_
  if (decide (x2 < (p1.length : Int))) then
    Option.bind ((
      if inb p1 x2 then
        Option.bind (m_trace_depth_step fuel x1 (gt p1 x2)) fun x4 =>
          if (decide (x4.1 > 0)) then
            some (⟨x4.2.depth, (if x4.1 < x4.2.low then x4.1 else x4.2.low)⟩ : MTraceCloser)
          else
            some x4.2
      else none) : Option (MTraceCloser)) fun x3 =>
      some (.next (x3, (W (x2 + 1))))
  else
    some (.done x1)
def m_trace_closer_through (fuel : Nat) (p0 : MTraceCloser) (p1 : (List Int)) : Option (MTraceCloser) :=
  Option.bind (iter (m_trace_closer_through_l1 fuel p0 p1) fuel (p0, 0)) fun y1 =>
  some y1
def m_trace_closer_begin (fuel : Nat) (p0 : MTraceCloser) : Option (MTraceCloser) :=
  some (⟨p0.depth, (W (p0.depth.n + 1))⟩ : MTraceCloser)
def m_trace_fork_lows_l1 (fuel : Nat) (p1 : (List (List Int))) (p0 : MTraceFork) (s_ : MTraceCloser × Int) : Option (Ctl (MTraceCloser × Int) (MTraceCloser)) :=
  let (x1, x2) := s_
  if (decide (x2 < ((cutL p1 0 p0.frame).length : Int))) then
    if inb (cutL p1 0 p0.frame) x2 then
      Option.bind (m_trace_closer_through fuel x1 (gt (cutL p1 0 p0.frame) x2)) fun x3 =>
        some (.next (x3, (W (x2 + 1))))
    else none
  else
    some (.done x1)
def m_trace_fork_lows_l2 (fuel : Nat) (x6 : MTraceCloser) (p1 : (List (List Int))) (p0 : MTraceFork) (s_ : MTraceCloser × List Int × Int) : Option (Ctl (MTraceCloser × List Int × Int) (List Int)) :=
  let (x7, x8, x9) := s_
  if (decide (x9 < ((cutL p1 (W (p0.frame + 1)) (p1.length : Int)).length : Int))) then
    if inb (cutL p1 (W (p0.frame + 1)) (p1.length : Int)) x9 then
      Option.bind (m_trace_closer_through fuel x7 (gt (cutL p1 (W (p0.frame + 1)) (p1.length : Int)) x9)) fun x10 =>
        if apOk 8 x8 [x10.low] then
          some (.next (x10, (x8 ++ [x10.low]), (W (x9 + 1))))
        else none
    else none
  else
    some (.done x8)
def m_trace_fork_lows (fuel : Nat) (p0 : MTraceFork) (p1 : (List (List Int))) : Option ((List Int)) :=
  if slOk p1 0 p0.frame then
  Option.bind (iter (m_trace_fork_lows_l1 fuel p1 p0) fuel ((⟨(⟨(0 : Int)⟩ : MTraceDepth), (0 : Int)⟩ : MTraceCloser), 0)) fun y1 =>
    if inb p1 p0.frame then
      if slOk (gt p1 p0.frame) 0 p0.step then
        Option.bind (m_trace_closer_through fuel y1 (cutL (gt p1 p0.frame) 0 p0.step)) fun x4 =>
          Option.bind (m_trace_closer_begin fuel x4) fun x5 =>
            if inb p1 p0.frame then
              if slOk (gt p1 p0.frame) p0.step ((gt p1 p0.frame).length : Int) then
                Option.bind (m_trace_closer_through fuel x5 (cutL (gt p1 p0.frame) p0.step ((gt p1 p0.frame).length : Int))) fun x6 =>
                  if slOk p1 (W (p0.frame + 1)) (p1.length : Int) then
                    Option.bind (iter (m_trace_fork_lows_l2 fuel x6 p1 p0) fuel (x6, [x6.low], 0)) fun y2 =>
                      some y2
                  else none
              else none
            else none
      else none
    else none
else none
def m_trace_sign (fuel : Nat) (p0 : Int) : Option (Int) :=
  some (if 1 < (if (-1) > p0 then (-1) else p0) then 1 else (if (-1) > p0 then (-1) else p0))
def m_trace_Ahead_l1 (fuel : Nat) (x1 : (List (List Int)) × (List (List Int)) × MTraceFork × Bool) (x2 : (List Int)) (x3 : (List Int)) (s_ : Int) : Option (Ctl (Int) ((Unit) ⊕ (Int))) :=
  let x4 := s_
  if (decide (x4 ≥ 0)) then
    if inb x2 x4 then
      if inb x3 x4 then
        if ((gt x2 x4) != (gt x3 x4)) then
          if inb x3 x4 then
            if inb x2 x4 then
              Option.bind (m_trace_sign fuel (W ((gt x3 x4) - (gt x2 x4)))) fun x5 =>
                some (.done (.inr x5))
            else none
          else none
        else
          some (.next (W (x4 - 1)))
      else none
    else none
  else
    some (.done (.inl ()))
def m_trace_Ahead (fuel : Nat) (p0 : (List MTerm)) (p1 : (List Int)) (p2 : (List Int)) (p3 : Bool) : Option (Int) :=
  Option.bind (m_trace_parted fuel p0 p1 p2 p3) fun x1 =>
  if (!x1.2.2.2) then
    some 0
  else
    Option.bind (m_trace_fork_lows fuel x1.2.2.1 x1.1) fun x2 =>
      Option.bind (m_trace_fork_lows fuel x1.2.2.1 x1.2.1) fun x3 =>
        Option.bind (iter (m_trace_Ahead_l1 fuel x1 x2 x3) fuel (W ((x2.length : Int) - 1))) fun t1 => match t1 with
        | .inl _ =>
          if inb x1.1 x1.2.2.1.frame then
            if inb (gt x1.1 x1.2.2.1.frame) x1.2.2.1.step then
              if inb x1.2.1 x1.2.2.1.frame then
                if inb (gt x1.2.1 x1.2.2.1.frame) x1.2.2.1.step then
                  if ((Int.tmod (gt (gt x1.1 x1.2.2.1.frame) x1.2.2.1.step) 2) != (Int.tmod (gt (gt x1.2.1 x1.2.2.1.frame) x1.2.2.1.step) 2)) then
                    Option.bind (m_trace_sign fuel (W ((Int.tmod (gt (gt x1.1 x1.2.2.1.frame) x1.2.2.1.step) 2) - (Int.tmod (gt (gt x1.2.1 x1.2.2.1.frame) x1.2.2.1.step) 2)))) fun x6 =>
                      some x6
                  else
                    Option.bind (m_trace_sign fuel (W ((gt (gt x1.1 x1.2.2.1.frame) x1.2.2.1.step) - (gt (gt x1.2.1 x1.2.2.1.frame) x1.2.2.1.step)))) fun x7 =>
                      some x7
                else none
              else none
            else none
          else none
        | .inr r1 => some r1
def m_law18_pair (fuel : Nat)  : Option ((List MTerm)) :=
  some [(⟨2, (-1), (-1), (0 : Int), [0, 8589934592, 0, 0]⟩ : MTerm), (⟨5, 0, (-1), (0 : Int), (List.replicate 4 0)⟩ : MTerm), (⟨2, (-1), (-1), (0 : Int), [0, 8589934592, 0, 0]⟩ : MTerm), (⟨5, 2, (-1), (0 : Int), (List.replicate 4 0)⟩ : MTerm), (⟨3, 1, 3, (0 : Int), (List.replicate 4 0)⟩ : MTerm)]
def m_law18_sure (fuel : Nat)  : Option (Bool) :=
  Option.bind (m_law18_pair fuel ) fun x1 =>
  Option.bind (m_trace_Tree fuel x1 [0, 1]) fun x2 =>
    Option.bind ((
      Option.bind (m_trace_Ahead fuel x1 [0, 0] [0, 1] true) fun x4 =>
        if (x4 == (-1)) then
          Option.bind (m_trace_Ahead fuel x1 [1, 1] [0, 1] true) fun x5 =>
            if (x5 == 1) then
              Option.bind (m_trace_Fits fuel x1 [0, 1] [97, 97]) fun x6 =>
                if x6 then
                  Option.bind (m_trace_Fits fuel x1 [1, 0] [97, 97]) fun x7 =>
                    if (!x7) then
                      if x2.2 then
                        some ((x2.1.length : Int) == 5)
                      else
                        some false
                    else
                      some false
                else
                  some false
            else
              some false
        else
          some false) : Option (Bool)) fun x3 =>
      some x3
def m_ref18_hop_l1 (fuel : Nat) (x2 : List MHop) (p2 : Int) (s_ : MHop × Int) : Option (Ctl (MHop × Int) ((MHop) ⊕ (MHop × Bool))) :=
  let (x4, x5) := s_
  if (decide (x5 < (x2.length : Int))) then
    if inb x2 x5 then
      if (((gt x2 x5).To) == p2) then
        if inb x2 x5 then
          some (.done (.inr ((gt x2 x5), true)))
        else none
      else
        some (.next (x4, (W (x5 + 1))))
    else none
  else
    some (.done (.inl x4))
def m_ref18_hop (fuel : Nat) (p0 : (List MTerm)) (p1 : Int) (p2 : Int) : Option (MHop × Bool) :=
  Option.bind (m_ref17_From fuel p0 p1) fun x1 =>
  Option.bind ((
    if (p1 == (-1)) then
      Option.bind (m_ref17_First fuel p0 (W ((p0.length : Int) - 1))) fun x3 =>
        some x3
    else
      some x1) : Option (List MHop)) fun x2 =>
    Option.bind (iter (m_ref18_hop_l1 fuel x2 p2) fuel ((⟨(0 : Int), (0 : Int), []⟩ : MHop), 0)) fun t1 => match t1 with
    | .inl y1 =>
      some ((⟨(0 : Int), (0 : Int), []⟩ : MHop), false)
    | .inr r1 => some r1
def m_ref18_Frames_l1 (fuel : Nat) (p0 : (List MTerm)) (p1 : (List Int)) (p2 : Bool) (s_ : List (List Int) × Int × Int) : Option (Ctl (List (List Int) × Int × Int) ((List (List Int) × Int) ⊕ ((List (List Int)) × Bool))) :=
  let (x2, x3, x4) := s_
  if (decide (x4 < (p1.length : Int))) then
    if inb p1 x4 then
      Option.bind (m_ref18_hop fuel p0 x3 (gt p1 x4)) fun x5 =>
        if (!x5.2) then
          some (.done (.inr (([] : List (List Int)), false)))
        else
          if apOk 24 x2 [x5.1.Steps] then
            if inb p1 x4 then
              some (.next ((x2 ++ [x5.1.Steps]), (gt p1 x4), (W (x4 + 1))))
            else none
          else none
    else none
  else
    some (.done (.inl (x2, x3)))
def m_ref18_Frames (fuel : Nat) (p0 : (List MTerm)) (p1 : (List Int)) (p2 : Bool) : Option ((List (List Int)) × Bool) :=
  Option.bind (m_ref10_Right fuel p0) fun x1 =>
  if (!x1) then
    some (([] : List (List Int)), false)
  else
    Option.bind (iter (m_ref18_Frames_l1 fuel p0 p1 p2) fuel (([] : List (List Int)), (-1), 0)) fun t1 => match t1 with
    | .inl (y1, y2) =>
      Option.bind ((
        if p2 then
          Option.bind (m_ref17_End fuel p0 y2) fun x7 =>
            if (!x7.2) then
              some (.inr (([] : List (List Int)), false))
            else
              if apOk 24 y1 [x7.1.Steps] then
                some (.inl (y1 ++ [x7.1.Steps]))
              else none
        else
          some (.inl y1)) : Option ((List (List Int)) ⊕ ((List (List Int)) × Bool))) fun q1 => match q1 with
      | .inl x6 =>
        some (x6, true)
      | .inr r1 => some r1
    | .inr r1 => some r1
def m_ref18_Tree (fuel : Nat) (p0 : (List MTerm)) (p1 : (List Int)) : Option ((List MEntry) × Bool) :=
  Option.bind (m_ref18_Frames fuel p0 p1 true) fun x1 =>
  if (!x1.2) then
    some (([] : List MEntry), false)
  else
    Option.bind (m_ref14_Of fuel x1.1) fun x2 =>
      some (x2.1, x2.2)
def m_ref14_at (fuel : Nat) (p0 : (List MEntry)) (p1 : Int) : Option (MEntry) :=
  if (decide (p1 < (p0.length : Int))) then
  if inb p0 p1 then
    some (gt p0 p1)
  else none
else
  some (⟨(0 : Int), (0 : Int), (0 : Int), (0 : Int)⟩ : MEntry)
def m_ref14_sign (fuel : Nat) (p0 : Int) (p1 : Int) : Option (Int) :=
  if (decide (p0 < p1)) then
  some (-1)
else
  if (decide (p0 > p1)) then
    some 1
  else
    some 0
def m_ref14_Ahead_l1 (fuel : Nat) (p0 : (List MEntry)) (p1 : (List MEntry)) (s_ : Int) : Option (Ctl (Int) ((Unit) ⊕ (Int))) :=
  let x1 := s_
  Option.bind ((
    if (decide (x1 < (p0.length : Int))) then
      some true
    else
      some (decide (x1 < (p1.length : Int)))) : Option (Bool)) fun x2 =>
    if x2 then
      Option.bind (m_ref14_at fuel p0 x1) fun x3 =>
        Option.bind (m_ref14_at fuel p1 x1) fun x4 =>
          if (x3.Depth != x4.Depth) then
            Option.bind (m_ref14_sign fuel x4.Depth x3.Depth) fun x5 =>
              some (.done (.inr x5))
          else
            if (x3.Node != x4.Node) then
              Option.bind (m_ref14_sign fuel x3.Node x4.Node) fun x6 =>
                some (.done (.inr x6))
            else
              if (x3.From != x4.From) then
                Option.bind (m_ref14_sign fuel x3.From x4.From) fun x7 =>
                  some (.done (.inr x7))
              else
                if (x3.To != x4.To) then
                  Option.bind (m_ref14_sign fuel x4.To x3.To) fun x8 =>
                    some (.done (.inr x8))
                else
                  some (.next (W (x1 + 1)))
    else
      some (.done (.inl ()))
def m_ref14_Ahead (fuel : Nat) (p0 : (List MEntry)) (p1 : (List MEntry)) : Option (Int) :=
  Option.bind (iter (m_ref14_Ahead_l1 fuel p0 p1) fuel 0) fun t1 => match t1 with
| .inl _ =>
  some 0
| .inr r1 => some r1
def m_ref14_Same (fuel : Nat) (p0 : (List MEntry)) (p1 : (List MEntry)) : Option (Bool) :=
  Option.bind ((
  if ((p0.length : Int) == (p1.length : Int)) then
    Option.bind (m_ref14_Ahead fuel p0 p1) fun x2 =>
      some (x2 == 0)
  else
    some false) : Option (Bool)) fun x1 =>
  some x1
def m_ref18_Fits_l1 (fuel : Nat) (p0 : (List MTerm)) (p1 : (List Int)) (p2 : (List Int)) (x1 : (List Int)) (s_ : Int) : Option (Ctl (Int) ((Unit) ⊕ (Bool))) :=
  let x4 := s_
  if (decide (x4 < (p1.length : Int))) then
    if inb p1 x4 then
      if inb x1 (gt p1 x4) then
        if inb p0 (gt x1 (gt p1 x4)) then
          if inb p2 x4 then
            Option.bind (m_ref01_Has fuel ((gt p0 (gt x1 (gt p1 x4))).Set) (W ((gt p2 x4)))) fun x5 =>
              if (!x5) then
                some (.done (.inr false))
              else
                some (.next (W (x4 + 1)))
          else none
        else none
      else none
    else none
  else
    some (.done (.inl ()))
def m_ref18_Fits (fuel : Nat) (p0 : (List MTerm)) (p1 : (List Int)) (p2 : (List Int)) : Option (Bool) :=
  Option.bind (m_ref16_Leaves fuel p0) fun x1 =>
  Option.bind (m_ref18_Frames fuel p0 p1 false) fun x2 =>
    Option.bind ((
      if (!x2.2) then
        some true
      else
        some ((p1.length : Int) != (p2.length : Int))) : Option (Bool)) fun x3 =>
      if x3 then
        some false
      else
        Option.bind (iter (m_ref18_Fits_l1 fuel p0 p1 p2 x1) fuel 0) fun t1 => match t1 with
        | .inl _ =>
          some true
        | .inr r1 => some r1
end Go.Proofs.Ytfhehbfifffipaa
