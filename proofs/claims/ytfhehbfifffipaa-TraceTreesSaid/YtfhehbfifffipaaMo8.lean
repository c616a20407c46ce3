/- What a law and its own functions compute, over plain data. Its conditions: none. -/
import Derived.Test.YtfhehbfifffipaaMo
set_option maxRecDepth 20000
set_option autoImplicit false
namespace Go.Proofs.Ytfhehbfifffipaa
open Go.V Go.RowKit
set_option linter.unusedVariables false
def m_law18_TraceTrees (fuel : Nat) (p0 : (List MTerm)) (p1 : MGimletlaw18Two) : Option (Bool) :=
  Option.bind ((
  Option.bind (m_law18_few fuel p0 p1.A) fun x2 =>
    if (!x2) then
      some true
    else
      some ((p1.A.length : Int) != (p1.B.length : Int))) : Option (Bool)) fun x1 =>
  if x1 then
    Option.bind (m_law18_sure fuel ) fun x3 =>
      some x3
  else
    Option.bind (m_ref18_Tree fuel p0 p1.A) fun x4 =>
      Option.bind (m_ref18_Tree fuel p0 p1.B) fun x5 =>
        Option.bind ((
          if (!x4.2) then
            some true
          else
            some (!x5.2)) : Option (Bool)) fun x6 =>
          if x6 then
            Option.bind ((
              Option.bind (m_trace_Ahead fuel p0 p1.A p1.B true) fun x8 =>
                if (x8 == 0) then
                  Option.bind (m_law18_sure fuel ) fun x9 =>
                    some x9
                else
                  some false) : Option (Bool)) fun x7 =>
              some x7
          else
            Option.bind ((
              Option.bind (m_trace_Ahead fuel p0 p1.A p1.B true) fun x11 =>
                Option.bind (m_ref14_Ahead fuel x4.1 x5.1) fun x12 =>
                  if (x11 == x12) then
                    Option.bind (m_trace_Ahead fuel p0 p1.A p1.A true) fun x13 =>
                      if (x13 == 0) then
                        Option.bind (m_law18_sure fuel ) fun x14 =>
                          some x14
                      else
                        some false
                  else
                    some false) : Option (Bool)) fun x10 =>
              some x10
end Go.Proofs.Ytfhehbfifffipaa
