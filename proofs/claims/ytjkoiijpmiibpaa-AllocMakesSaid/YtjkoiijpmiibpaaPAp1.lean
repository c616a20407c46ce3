/- Programs: what is one. Its conditions: none. -/
import Derived.Test.YtjkoiijpmiibpaaPAl2
set_option autoImplicit false
namespace Go.Proofs.Ytjkoiijpmiibpaa
open Go.V Go.RowKit

def MoveOk (R : Int) (m : MMove) : Prop := 0 ≤ m.To ∧ m.To < R ∧ -1 ≤ m.From ∧ m.From < R ∧ m.From ≠ m.To
def MovAt (R : Int) (l : List MMove) (i : Nat) : Prop := MoveOk R (gt l (i : Int))
def WayOk (p : MProg) (x : MWay) : Prop := -1 ≤ x.To ∧ x.To < p.Stands.length ∧ (x.To = -1 → x.Moves.length = 0) ∧ (x.Moves.length : Int) ≤ 2 * p.Regs ∧ ∀ i, i < x.Moves.length → MovAt p.Regs x.Moves i
def AccI (R : Int) (l : List Int) (i : Nat) : Prop := -2 ≤ gt l (i : Int) ∧ gt l (i : Int) < R
def AccP (R : Int) (l : List Int) : Prop := ∀ i, i < l.length → AccI R l i
def WayAt (p : MProg) (s : MStand) (c : Nat) : Prop := WayOk p (gt s.Ways (c : Int))
def StandOk (p : MProg) (cl : Nat) (s : MStand) : Prop := (s.Accept.length = 0 ∨ (s.Accept.length : Int) = p.Tags) ∧ AccP p.Regs s.Accept ∧ s.Ways.length = cl ∧ ∀ c, c < s.Ways.length → WayAt p s c
def RightP (p : MProg) : Prop := 1 ≤ p.Tags ∧ p.Tags ≤ 19 ∧ Int.tmod p.Tags 2 ≠ 0 ∧ 1 ≤ p.Regs ∧ p.Regs ≤ 1217 ∧ 1 ≤ p.Stands.length ∧ p.Stands.length ≤ 400 ∧ ClsOk p.Class ∧ ∀ i, i < p.Stands.length → StandOk p (leastC p.Class).length (gt p.Stands (i : Int))
/-- There is not too much in it. -/
def SizeW (s : MStand) (c : Nat) : Prop := (gt s.Ways (c : Int)).Moves.length ≤ 1300
def SizeS (s : MStand) : Prop := s.Accept.length ≤ 40 ∧ s.Ways.length ≤ 300 ∧ ∀ c, c < s.Ways.length → SizeW s c
def SizeP (p : MProg) : Prop := p.Stands.length ≤ 60 ∧ p.Class.length ≤ 300 ∧ ∀ i, i < p.Stands.length → SizeS (gt p.Stands (i : Int))
end Go.Proofs.Ytjkoiijpmiibpaa
