/- What a law and its own functions compute, over plain data. Its conditions: none. -/
import Derived.Test.YtfhehbfifffipaaMo
set_option maxRecDepth 20000
set_option autoImplicit false
namespace Go.Proofs.Ytfhehbfifffipaa
open Go.V Go.RowKit
set_option linter.unusedVariables false
def m_law18_TraceTotal (fuel : Nat) (p0 : (List MTerm)) (p1 : MGimletlaw18Two) (p2 : (List Int)) : Option (Bool) :=
  Option.bind ((
  Option.bind (m_law18_few fuel p0 p1.A) fun x2 =>
    if (!x2) then
      some true
    else
      if ((p1.A.length : Int) != (p1.B.length : Int)) then
        some true
      else
        some ((p2.length : Int) != (p1.A.length : Int))) : Option (Bool)) fun x1 =>
  if x1 then
    Option.bind (m_law18_sure fuel ) fun x3 =>
      some x3
  else
    Option.bind (m_trace_Frames fuel p0 p1.A true) fun x4 =>
      Option.bind (m_trace_Frames fuel p0 p1.B true) fun x5 =>
        Option.bind (m_trace_Frames fuel p0 p2 true) fun x6 =>
          Option.bind ((
            if (!x4.2) then
              some true
            else
              if (!x5.2) then
                some true
              else
                some (!x6.2)) : Option (Bool)) fun x7 =>
            if x7 then
              Option.bind (m_law18_sure fuel ) fun x8 =>
                some x8
            else
              Option.bind (m_trace_Ahead fuel p0 p1.A p1.B true) fun x9 =>
                Option.bind (m_trace_Ahead fuel p0 p1.B p2 true) fun x10 =>
                  Option.bind (m_trace_Ahead fuel p0 p1.A p2 true) fun x11 =>
                    Option.bind ((
                      if (decide (x9 < (-1))) then
                        some true
                      else
                        if (decide (x9 > 1)) then
                          some true
                        else
                          Option.bind (m_trace_Ahead fuel p0 p1.B p1.A true) fun x13 =>
                            if (x9 != (W (0 - x13))) then
                              some true
                            else
                              Option.bind (m_ref06_Ints fuel p1.A p1.B) fun x14 =>
                                some ((x9 == 0) != x14)) : Option (Bool)) fun x12 =>
                      if x12 then
                        some false
                      else
                        Option.bind ((
                          if (decide (x9 < 0)) then
                            if (decide (x10 < 0)) then
                              if (!(decide (x11 ≥ 0))) then
                                if (decide (x9 > 0)) then
                                  if (decide (x10 > 0)) then
                                    if (!(decide (x11 ≤ 0))) then
                                      Option.bind (m_law18_sure fuel ) fun x16 =>
                                        some x16
                                    else
                                      some false
                                  else
                                    Option.bind (m_law18_sure fuel ) fun x17 =>
                                      some x17
                                else
                                  Option.bind (m_law18_sure fuel ) fun x18 =>
                                    some x18
                              else
                                some false
                            else
                              if (decide (x9 > 0)) then
                                if (decide (x10 > 0)) then
                                  if (!(decide (x11 ≤ 0))) then
                                    Option.bind (m_law18_sure fuel ) fun x19 =>
                                      some x19
                                  else
                                    some false
                                else
                                  Option.bind (m_law18_sure fuel ) fun x20 =>
                                    some x20
                              else
                                Option.bind (m_law18_sure fuel ) fun x21 =>
                                  some x21
                          else
                            if (decide (x9 > 0)) then
                              if (decide (x10 > 0)) then
                                if (!(decide (x11 ≤ 0))) then
                                  Option.bind (m_law18_sure fuel ) fun x22 =>
                                    some x22
                                else
                                  some false
                              else
                                Option.bind (m_law18_sure fuel ) fun x23 =>
                                  some x23
                            else
                              Option.bind (m_law18_sure fuel ) fun x24 =>
                                some x24) : Option (Bool)) fun x15 =>
                          some x15
end Go.Proofs.Ytfhehbfifffipaa
