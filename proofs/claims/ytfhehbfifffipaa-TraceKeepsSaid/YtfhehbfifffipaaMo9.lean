/- What a law and its own functions compute, over plain data. Its conditions: none. -/
import Derived.Test.YtfhehbfifffipaaMo
set_option maxRecDepth 20000
set_option autoImplicit false
namespace Go.Proofs.Ytfhehbfifffipaa
open Go.V Go.RowKit
set_option linter.unusedVariables false
def m_law18_TraceKeeps (fuel : Nat) (p0 : (List MTerm)) (p1 : MGimletlaw18Two) (p2 : (List Int)) : Option (Bool) :=
  Option.bind ((
  Option.bind (m_law18_few fuel p0 p1.A) fun x2 =>
    if (!x2) then
      some true
    else
      if ((p1.A.length : Int) != (p1.B.length : Int)) then
        some true
      else
        if ((p1.A.length : Int) == 0) then
          some true
        else
          if (decide ((p2.length : Int) > 8)) then
            some true
          else
            if inb p1.A (W ((p1.A.length : Int) - 1)) then
              if inb p1.B (W ((p1.B.length : Int) - 1)) then
                some ((gt p1.A (W ((p1.A.length : Int) - 1))) != (gt p1.B (W ((p1.B.length : Int) - 1))))
              else none
            else none) : Option (Bool)) fun x1 =>
  if x1 then
    Option.bind (m_law18_sure fuel ) fun x3 =>
      some x3
  else
    Option.bind ((
      if apOk 8 ([] : List Int) p1.A then
        if apOk 8 (([] : List Int) ++ p1.A) p2 then
          if apOk 8 ([] : List Int) p1.B then
            if apOk 8 (([] : List Int) ++ p1.B) p2 then
              some (((([] : List Int) ++ p1.A) ++ p2), ((([] : List Int) ++ p1.B) ++ p2))
            else none
          else none
        else none
      else none) : Option (List Int × List Int)) fun q2 => match q2 with
    | (x4, x5) =>
      Option.bind (m_trace_Frames fuel p0 x4 true) fun x6 =>
        Option.bind (m_trace_Frames fuel p0 x5 true) fun x7 =>
          Option.bind ((
            if (!x6.2) then
              some true
            else
              if (!x7.2) then
                some true
              else
                Option.bind (m_ref10_Right fuel p0) fun x9 =>
                  some (!x9)) : Option (Bool)) fun x8 =>
            if x8 then
              Option.bind (m_law18_sure fuel ) fun x10 =>
                some x10
            else
              Option.bind ((
                Option.bind (m_trace_Ahead fuel p0 p1.A p1.B false) fun x12 =>
                  Option.bind (m_trace_Ahead fuel p0 x4 x5 true) fun x13 =>
                    if (x12 == x13) then
                      Option.bind (m_law18_sure fuel ) fun x14 =>
                        some x14
                    else
                      some false) : Option (Bool)) fun x11 =>
                some x11
end Go.Proofs.Ytfhehbfifffipaa
