/- A text of the proof. Its conditions: none. -/
import Derived.Test.YtihmgaccbcfgjaaGreatREn
import Derived.Test.YtihmgaccbcfgjaaGreatRX17
import Derived.Test.YtihmgaccbcfgjaaGreatRX14
import Derived.Test.YtihmgaccbcfgjaaGreatRVKey
set_option linter.all false
set_option maxRecDepth 100000
noncomputable section
namespace Go.Proofs.YtihmgaccbcfgjaaGreat
open Go.V Go.RowKit Go.X
def e0h (F:Nat) (d_:K0) (i:Int) (d:Int):Option (T0 Int (Unit ⊕ Unit)):=match d with
 | c=>let x6:=decide (c<(((gt d_.States i).Edges).length:Int));
 if x6 then if y0 ((gt d_.States i).Edges) c then let x7:=(((gt ((gt d_.States i).Edges) c).Src).length:Int);
   if decide (x7>400) then some (.done (.inl ())) else some (.next (W (c+1))) else none else some (.done (.inr ()))
def d00 (F:Nat) (d_:K0) (d:Int):Option (T0 Int (Unit ⊕ Unit)):=match d with
 | i=>if decide (i<(d_.States.length:Int)) then if y0 d_.States i then let x2:=decide ((((gt d_.States i).Accept).length:Int)>40);
   .bind (α:=Bool) ( if x2 then some true else let x3:=decide ((((gt d_.States i).Edges).length:Int)>300);
     some x3) fun x4=>.bind (α:=Bool) ( if x4 then some true else some (decide (((gt d_.States i).Regs)>400))) fun x5=>if x5 then some (.done (.inl ())) else .bind (α:=Unit ⊕ Unit) ( iter (e0h F d_ i) F 0) fun z_=>match z_ with
    | .inl _=>some (.done (.inl ()))
    | .inr _=>some (.next (W (i+1))) else none else some (.done (.inr ()))
def c0n (F:Nat) (d_:K0):Option Bool:=.bind (α:=Bool) ( if decide ((d_.States.length:Int)>60) then some true else some (decide ((d_.Class.length:Int)>300))) fun x=>if x then some false else .bind (α:=Unit ⊕ Unit) ( iter (d00 F d_) F 0) fun z_=>match z_ with
  | .inl _=>some false
  | .inr _=>some true
abbrev U1:Ann:=⟨[],[],[],[]⟩
abbrev R0 (l:List (Sm en.D)) (n:Nat) (a:Ann) (F:Nat):X1 en:=⟨l,fun g=>if Nat.beq g n then a else U1,F,[]⟩
def d0B (F:Nat):Sm en.D:=⟨11,[.d (.st 2)],.d .bool,[],fun x=>c0n F x⟩
def v0Z (F:Nat):=R0 [] 11 ⟨[],[(10,⟨[(5,.d (.int .i64))],[]⟩,[(.ret,⟨[(2,.kb false),(5,.any)],[]⟩),(.ex 2,⟨[(5,.any)],[]⟩)]),(4,⟨[(3,.d (.int .i64))],[]⟩,[(.ret,⟨[(2,.kb false),(3,.any)],[]⟩),(.ex 0,⟨[(3,.any)],[]⟩)])],[(1,5,9,⟨[(10,.any),(15,.d .bool)],[]⟩),(7,5,9,⟨[(32,.any),(37,.d .bool)],[]⟩),(7,11,14,⟨[(38,.any),(42,.d .bool)],[]⟩)],[]⟩ F
def i0s (F:Nat) (class_:List Int) (d:Int×Int):Option (T0 (Int×Int) (Unit ⊕ Unit)):=match d with
 | (next_,x)=>if decide (x<(class_.length:Int)) then if y0 class_ x then .bind (α:=Bool) ( if decide ((gt class_ x)<0) then some true else some (decide ((gt class_ x)>next_))) fun x2=>if x2 then some (.done (.inl ())) else let x3:=if (W ((gt class_ x)+1))>next_ then W ((gt class_ x)+1) else next_;
    some (.next (x3,W (x+1))) else none else some (.done (.inr ()))
def c0A (F:Nat) (class_:List Int):Option Bool:=.bind (α:=Unit ⊕ Unit) ( iter (i0s F class_) F (0,0)) fun z_=>match z_ with
 | .inl _=>some false
 | .inr _=>some ((class_.length:Int)==256)
def e0G (F:Nat):Sm en.D:=⟨46,[.d (.list (.int .i64))],.d .bool,[],fun x=>c0A F x⟩
def z0C (F:Nat):=R0 [] 46 ⟨[],[(3,⟨[(3,.d (.int .i64)),(8,.d (.int .i64))],[]⟩,[(.ret,⟨[(2,.kb false),(3,.any),(8,.any)],[]⟩),(.ex 0,⟨[(3,.any),(8,.any)],[]⟩)])],[(5,3,6,⟨[(14,.any),(18,.d .bool)],[]⟩)],[]⟩ F
def j0Y (F:Nat) (class_:List Int) (d:(List Int)×Int):Option (T0 ((List Int)×Int) (List Int)):=match d with
 | (out,x)=>if decide (x<(class_.length:Int)) then .bind (α:=List Int) ( if y0 class_ x then if (gt class_ x)==(out.length:Int) then if C1 1 out [IntKind.u8.wrap (x)] then some (out++[IntKind.u8.wrap (x)]) else none else some out else none) fun out2=>some (.next (out2,W (x+1))) else some (.done out)
def c0m (F:Nat) (class_:List Int):Option (List Int):=.bind (c0A F class_) fun right=>if !right then some [] else .bind (α:=List Int) ( iter (j0Y F class_) F ([],0)) fun out3=>some out3
def e0E (F:Nat):Sm en.D:=⟨47,[.d (.list (.int .i64))],.own 5 (.int .u8),[],fun x=>c0m F x⟩
def x0y (F:Nat):=R0 [e0G F] 47 ⟨[(9,[(.nrm,⟨[(3,.own 5 (.int .u8))],[(0,.any)]⟩)])],[(5,⟨[(3,.own 5 (.int .u8)),(11,.d (.int .i64))],[]⟩,[(.ex 0,⟨[(3,.own 5 (.int .u8)),(11,.any)],[]⟩)])],[],[]⟩ F
def c0v (F:Nat) (n_:Int) (regs:Int):Option Bool:=.bind (α:=Bool) ( if n_==(-1) then some true else .bind (α:=Bool) ( if decide (n_>=0) then some (decide (n_<regs)) else some false) fun x=>some x) fun x2=>some x2
def e0t (F:Nat):Sm en.D:=⟨104,[.d (.int .i64),.d (.int .i64)],.d .bool,[],fun x=>c0v F x.1 x.2⟩
def q0i (F:Nat):=R0 [] 104 ⟨[],[],[(1,3,10,⟨[(7,.any),(15,.d .bool)],[]⟩),(1,6,9,⟨[(10,.any),(14,.d .bool)],[]⟩)],[]⟩ F
def f0q (F:Nat) (s:Z1) (d:Int):Option (T0 Int (Int ⊕ Unit)):=match d with
 | x=>if decide (x<(s.Accept.length:Int)) then if y0 s.Accept x then .bind (α:=Bool) ( if (gt s.Accept x) != (-2) then .bind (c0v F (gt s.Accept x) s.Regs) fun from_=>some (!from_) else some false) fun x2=>if x2 then some (.done (.inl x)) else some (.next (W (x+1))) else none else some (.done (.inr ()))
def f0N (F:Nat) (s:Z1) (tags:Int):Option Bool:=.bind (α:=Bool) ( if (s.Accept.length:Int)==0 then some true else .bind (α:=Bool) ( if (s.Accept.length:Int)==tags then .bind (α:=Int ⊕ Unit) ( iter (f0q F s) F 0) fun z_=>match z_ with
     | .inl x3=>some (!(decide (x3>=0)))
     | .inr _=>some (!(decide ((-1)>=0))) else some false) fun x=>some x) fun x2=>some x2
def h0y (F:Nat):Sm en.D:=⟨48,[.d (.st 1),.d (.int .i64)],.d .bool,[],fun x=>f0N F x.1 x.2⟩
def s0l (F:Nat):X1 en:=⟨[e0t F],fun g=>if Nat.beq g 48 then ⟨[],[],[(2,5,17,⟨[(11,.any),(24,.d .bool)],[]⟩),(2,11,16,⟨[(17,.any),(23,.d .bool)],[]⟩)],[]⟩ else if Nat.beq g 103 then ⟨[],[],[(1,3,8,⟨[(6,.any),(12,.d .bool)],[]⟩)],[]⟩ else if Nat.beq g 105 then U1 else if Nat.beq g 143 then ⟨[],[(2,⟨[(8,.d (.int .i64))],[]⟩,[(.ret,⟨[(4,.d (.int .i64)),(8,.any)],[]⟩),(.ex 0,⟨[(8,.any)],[]⟩)])],[],[]⟩ else U1,F,[]⟩
def e0g (F:Nat) (s:Z1) (x:L2) (d:Int):Option (T0 Int (Int ⊕ Unit)):=match d with
 | x5=>if decide (x5<(x.Src.length:Int)) then if y0 x.Src x5 then .bind (c0v F (gt x.Src x5) s.Regs) fun from_=>if !from_ then some (.done (.inl x5)) else some (.next (W (x5+1))) else none else some (.done (.inr ()))
def f0W (F:Nat) (d_:K0) (s:Z1) (x:L2):Option Bool:=if x.To==(-1) then some ((x.Src.length:Int)==0) else .bind (α:=Bool) ( if decide (x.To>=0) then some (decide (x.To<(d_.States.length:Int))) else some false) fun x2=>.bind (α:=Bool) ( if x2 then if y0 d_.States x.To then let x3:=(x.Src.length:Int)==((gt d_.States x.To).Regs);
     some x3 else none else some false) fun x4=>.bind (α:=Bool) ( if x4 then .bind (α:=Int ⊕ Unit) ( iter (e0g F s x) F 0) fun z_=>match z_ with
    | .inl x6=>some (!(decide (x6>=0)))
    | .inr _=>some (!(decide ((-1)>=0))) else some false) fun x5=>some x5
def j0l (F:Nat):Sm en.D:=⟨49,[.d (.st 2),.d (.st 1),.d (.st 0)],.d .bool,[],fun x=>f0W F x.1 x.2.1 x.2.2⟩
def r0N (F:Nat):X1 en:=⟨[e0t F],fun g=>if Nat.beq g 49 then ⟨[],[],[(4,4,10,⟨[(19,.any),(26,.d .bool)],[]⟩),(4,12,23,⟨[(27,.any),(39,.d .bool)],[]⟩),(4,25,30,⟨[(40,.any),(46,.d .bool)],[]⟩)],[]⟩ else if Nat.beq g 105 then U1 else if Nat.beq g 106 then U1 else if Nat.beq g 143 then ⟨[],[(2,⟨[(8,.d (.int .i64))],[]⟩,[(.ret,⟨[(4,.d (.int .i64)),(8,.any)],[]⟩),(.ex 0,⟨[(8,.any)],[]⟩)])],[],[]⟩ else U1,F,[]⟩
def d0F (F:Nat) (d_:K0) (x6:Int) (d:Int):Option (T0 Int (Unit ⊕ Unit)):=match d with
 | x11=>let x12:=decide (x11<(((gt d_.States x6).Edges).length:Int));
 if x12 then if y0 ((gt d_.States x6).Edges) x11 then .bind (f0W F d_ (gt d_.States x6) (gt ((gt d_.States x6).Edges) x11)) fun leads=>if !leads then some (.done (.inl ())) else some (.next (W (x11+1))) else none else some (.done (.inr ()))
def f0y (F:Nat) (d_:K0) (least:List Int) (d:Int):Option (T0 Int (Unit ⊕ Unit)):=match d with
 | x6=>if decide (x6<(d_.States.length:Int)) then if y0 d_.States x6 then .bind (α:=Bool) ( if decide (((gt d_.States x6).Regs)<0) then some true else some (decide (((gt d_.States x6).Regs)>1216))) fun x7=>.bind (α:=Bool) ( if x7 then some true else let x8:=(((gt d_.States x6).Edges).length:Int) != (least.length:Int);
     some x8) fun x9=>.bind (α:=Bool) ( if x9 then some true else .bind (f0N F (gt d_.States x6) d_.Tags) fun accept=>some (!accept)) fun x10=>if x10 then some (.done (.inl ())) else .bind (α:=Unit ⊕ Unit) ( iter (d0F F d_ x6) F 0) fun z_=>match z_ with
    | .inl _=>some (.done (.inl ()))
    | .inr _=>some (.next (W (x6+1))) else none else some (.done (.inr ()))
def d0z (F:Nat) (d_:K0):Option Bool:=.bind (α:=Bool) ( if decide (d_.Tags<1) then some true else some (decide (d_.Tags>19))) fun x=>.bind (α:=Bool) ( if x then some true else some ((d_.Tags.tmod 2)==0)) fun x2=>.bind (α:=Bool) ( if x2 then some true else some ((d_.States.length:Int)==0)) fun x3=>.bind (α:=Bool) ( if x3 then some true else some (decide ((d_.States.length:Int)>400))) fun x4=>.bind (α:=Bool) ( if x4 then some true else .bind (c0A F d_.Class) fun right=>some (!right)) fun x5=>if x5 then some false else .bind (c0m F d_.Class) fun least=>.bind (α:=Unit ⊕ Unit) ( iter (f0y F d_ least) F 0) fun z_=>match z_ with
  | .inl _=>some false
  | .inr _=>if y0 d_.States 0 then some (((gt d_.States 0).Regs)==0) else none
def h0U (F:Nat):Sm en.D:=⟨15,[.d (.st 2)],.d .bool,[],fun x=>d0z F x⟩
def x0A (F:Nat):=R0 [e0G F,e0E F,h0y F,j0l F] 15 ⟨[],[(10,⟨[(76,.d (.int .i64))],[]⟩,[(.ret,⟨[(2,.kb false),(76,.any)],[]⟩),(.ex 2,⟨[(76,.any)],[]⟩)]),(5,⟨[(47,.d (.int .i64))],[]⟩,[(.ret,⟨[(2,.kb false),(47,.any)],[]⟩),(.ex 0,⟨[(47,.any)],[]⟩)])],[(1,4,7,⟨[(11,.any),(15,.d .bool)],[]⟩),(1,9,13,⟨[(16,.any),(21,.d .bool)],[]⟩),(1,15,19,⟨[(22,.any),(27,.d .bool)],[]⟩),(1,21,25,⟨[(28,.any),(33,.d .bool)],[]⟩),(1,27,31,⟨[(34,.any),(39,.d .bool)],[]⟩),(7,4,7,⟨[(54,.any),(58,.d .bool)],[]⟩),(7,9,14,⟨[(59,.any),(65,.d .bool)],[]⟩),(7,16,21,⟨[(66,.any),(72,.d .bool)],[]⟩)],[]⟩ F
def b0d (F:Nat) (p0:K0) (x2:List Bool) (x3:List Int) (s_:List Bool×List Int×Int):Option (T0 (List Bool×List Int×Int) (List Bool×List Int)):=let (x4,x5,x6):=s_;
 if (decide (x6<(((gt p0.States (gt x3 0)).Edges).length:Int))) then .bind (( if y0 ((gt p0.States (gt x3 0)).Edges) x6 then .bind (( if (decide (((gt ((gt p0.States (gt x3 0)).Edges) x6).To)>=0)) then if y0 x4 ((gt ((gt p0.States (gt x3 0)).Edges) x6).To) then some (!(gt x4 ((gt ((gt p0.States (gt x3 0)).Edges) x6).To))) else none else some false):Option (Bool)) fun x9=>if x9 then if y0 x4 ((gt ((gt p0.States (gt x3 0)).Edges) x6).To) then if C1 8 x5 [(gt ((gt p0.States (gt x3 0)).Edges) x6).To] then some ((x4.set (Int.toNat ((gt ((gt p0.States (gt x3 0)).Edges) x6).To)) true),(x5++[(gt ((gt p0.States (gt x3 0)).Edges) x6).To])) else none else none else some (x4,x5) else none):Option (List Bool×List Int)) fun q1=>match q1 with
  | (x7,x8)=>some (.next (x7,x8,(W (x6+1)))) else some (.done (x4,x5))
def b0Y (F:Nat) (p0:K0) (s_:List Bool×List Int):Option (T0 (List Bool×List Int) (List Bool)):=let (x2,x3):=s_;
 if (decide ((x3.length:Int)>0)) then if y0 x3 0 then if y0 p0.States (gt x3 0) then .bind (iter (b0d F p0 x2 x3) F (x2,x3,0)) fun t2=>match t2 with
    | (y2,y3)=>if C3 y3 1 (y3.length:Int) then some (.next (y2,(L1 y3 1 (y3.length:Int)))) else none else none else none else some (.done x2)
def b0P (F:Nat) (p0:K0):Option ((List Bool)):=.bind (d0z F p0) fun x1=>if (!x1) then some ([]:List Bool) else if S5 1 (p0.States.length:Int) then if y0 (List.replicate (Int.toNat (p0.States.length:Int)) false) 0 then .bind (iter (b0Y F p0) F (((List.replicate (Int.toNat (p0.States.length:Int)) false).set (Int.toNat 0) true),[0])) fun y1=>some y1 else none else none
def z0W (F:Nat):Sm en.D:=⟨13,[.d (.st 2)],.d (.list .bool),[],fun x=>b0P F x⟩
def y0P (F:Nat) (s1:List Int) (s2:List Int) (d:Int):Option (T0 Int (Unit ⊕ Unit)):=match d with
 | x=>if decide (x<(s1.length:Int)) then if y0 s1 x then if y0 s2 x then if (gt s1 x) != (gt s2 x) then some (.done (.inl ())) else some (.next (W (x+1))) else none else none else some (.done (.inr ()))
def c0S (F:Nat) (s1:List Int) (s2:List Int):Option Bool:=if (s1.length:Int) != (s2.length:Int) then some false else .bind (α:=Unit ⊕ Unit) ( iter (y0P F s1 s2) F 0) fun z_=>match z_ with
  | .inl _=>some false
  | .inr _=>some true
def f0w (F:Nat):Sm en.D:=⟨54,[.d (.list (.int .i64)),.d (.list (.int .i64))],.d .bool,[],fun x=>c0S F x.1 x.2⟩
def y0p (F:Nat):=R0 [] 54 ⟨[],[(4,⟨[(13,.d (.int .i64))],[]⟩,[(.ret,⟨[(4,.kb false),(13,.any)],[]⟩),(.ex 0,⟨[(13,.any)],[]⟩)])],[],[]⟩ F
def z00 (F:Nat) (a:L2) (b:L2):Option Bool:=.bind (α:=Bool) ( if a.To==b.To then .bind (c0S F a.Src b.Src) fun equal=>some equal else some false) fun x=>some x
def A0m (F:Nat):Sm en.D:=⟨108,[.d (.st 0),.d (.st 0)],.d .bool,[],fun x=>z00 F x.1 x.2⟩
def B0K (F:Nat):=R0 [f0w F] 108 ⟨[],[],[(1,6,11,⟨[(10,.any),(16,.d .bool)],[]⟩)],[]⟩ F
def A0g (F:Nat) (a:Z1) (b:Z1) (d:Int):Option (T0 Int (Unit ⊕ Unit)):=match d with
 | x3=>if decide (x3<(a.Edges.length:Int)) then if y0 a.Edges x3 then if y0 b.Edges x3 then .bind (z00 F (gt a.Edges x3) (gt b.Edges x3)) fun sameed=>if !sameed then some (.done (.inl ())) else some (.next (W (x3+1))) else none else none else some (.done (.inr ()))
def z0Y (F:Nat) (a:Z1) (b:Z1):Option Bool:=.bind (α:=Bool) ( if a.Regs==b.Regs then .bind (c0S F a.Accept b.Accept) fun equal=>some equal else some false) fun x=>.bind (α:=Bool) ( if x then let x2:=(a.Edges.length:Int) != (b.Edges.length:Int);
   if x2 then some false else .bind (α:=Unit ⊕ Unit) ( iter (A0g F a b) F 0) fun z_=>match z_ with
    | .inl _=>some false
    | .inr _=>some true else some false) fun x3=>some x3
def A0b (F:Nat):Sm en.D:=⟨56,[.d (.st 1),.d (.st 1)],.d .bool,[],fun x=>z0Y F x.1 x.2⟩
def A06 (F:Nat):X1 en:=⟨[f0w F,A0m F],fun g=>if Nat.beq g 56 then ⟨[],[],[(1,6,11,⟨[(10,.any),(16,.d .bool)],[]⟩),(1,13,18,⟨[(17,.any),(23,.d .bool)],[]⟩)],[]⟩ else if Nat.beq g 107 then ⟨[],[(4,⟨[(17,.d (.int .i64))],[]⟩,[(.ret,⟨[(6,.kb false),(17,.any)],[]⟩),(.ex 0,⟨[(17,.any)],[]⟩)])],[],[]⟩ else U1,F,[]⟩
def A0j (F:Nat) (a:K0) (b:K0) (d:Int):Option (T0 Int (Unit ⊕ Unit)):=match d with
 | x3=>if decide (x3<(a.States.length:Int)) then if y0 a.States x3 then if y0 b.States x3 then .bind (z0Y F (gt a.States x3) (gt b.States x3)) fun samest=>if !samest then some (.done (.inl ())) else some (.next (W (x3+1))) else none else none else some (.done (.inr ()))
def e0n (F:Nat) (a:K0) (b:K0):Option Bool:=.bind (α:=Bool) ( if a.Tags==b.Tags then .bind (c0S F a.Class b.Class) fun equal=>some equal else some false) fun x=>.bind (α:=Bool) ( if x then let x2:=(a.States.length:Int) != (b.States.length:Int);
   if x2 then some false else .bind (α:=Unit ⊕ Unit) ( iter (A0j F a b) F 0) fun z_=>match z_ with
    | .inl _=>some false
    | .inr _=>some true else some false) fun x3=>some x3
def z02 (F:Nat):Sm en.D:=⟨17,[.d (.st 2),.d (.st 2)],.d .bool,[],fun x=>e0n F x.1 x.2⟩
def B0I (F:Nat):X1 en:=⟨[f0w F,A0b F],fun g=>if Nat.beq g 17 then ⟨[],[],[(1,6,11,⟨[(10,.any),(16,.d .bool)],[]⟩),(1,13,18,⟨[(17,.any),(23,.d .bool)],[]⟩)],[]⟩ else if Nat.beq g 55 then ⟨[],[(4,⟨[(17,.d (.int .i64))],[]⟩,[(.ret,⟨[(6,.kb false),(17,.any)],[]⟩),(.ex 0,⟨[(17,.any)],[]⟩)])],[],[]⟩ else U1,F,[]⟩
def p0i (F:Nat) (l:List U0) (ahead:List Int) (i:Int):Option Int:=if y0 l i then .bind (α:=Int ⊕ Unit) ( .bind (α:=Bool) ( if ((gt l i).Kind)==1 then some (((gt l i).Kind)==1) else some (((gt l i).Kind)==2)) fun x=>if x then .bind (α:=Bool) ( if ((gt l i).A)==(-1) then some (((gt l i).B)==(-1)) else some false) fun x2=>if x2 then some (.inl i) else some (.inr ()) else .bind (α:=Bool) ( if ((gt l i).Kind)==3 then some (((gt l i).Kind)==3) else some (((gt l i).Kind)==4)) fun x3=>if x3 then .bind (α:=Bool) ( if decide (((gt l i).B)>=0) then some (((gt l i).B)==(W (i-1))) else some false) fun x4=>.bind (α:=Bool) ( if x4 then some (decide (((gt l i).A)>=0)) else some false) fun x5=>.bind (α:=Bool) ( if x5 then if y0 ahead ((gt l i).B) then let x6:=((gt l i).A)==(W ((gt ahead ((gt l i).B))-1));
        some x6 else none else some false) fun x7=>if x7 then if y0 ahead ((gt l i).A) then some (.inl (gt ahead ((gt l i).A))) else none else some (.inr ()) else .bind (α:=Bool) ( if ((gt l i).Kind)==5 then some (((gt l i).Kind)==5) else if ((gt l i).Kind)==6 then some (((gt l i).Kind)==6) else if ((gt l i).Kind)==7 then some (((gt l i).Kind)==7) else some (((gt l i).Kind)==8)) fun x8=>if x8 then .bind (α:=Bool) ( if ((gt l i).B)==(-1) then some (decide (((gt l i).A)>=0)) else some false) fun x9=>.bind (α:=Bool) ( if x9 then some (((gt l i).A)==(W (i-1))) else some false) fun x10=>if x10 then if y0 ahead ((gt l i).A) then some (.inl (gt ahead ((gt l i).A))) else none else some (.inr ()) else some (.inr ())) fun z_=>match z_ with
  | .inl x11=>some x11
  | .inr _=>some (-1) else none
def j0m (F:Nat):Sm en.D:=⟨165,[.d (.list (.st 3)),.d (.list (.int .i64)),.d (.int .i64)],.d (.int .i64),[],fun x=>p0i F x.1 x.2.1 x.2.2⟩
def x0o (F:Nat):=R0 [] 165 ⟨[(15,[(.nrm,⟨[(60,.d .bool)],[]⟩)]),(17,[(.ret,⟨[(6,.d (.int .i64))],[]⟩),(.nrm,⟨[],[]⟩)]),(5,[(.nrm,⟨[(14,.d .bool)],[]⟩)]),(9,[(.nrm,⟨[(26,.d .bool)],[]⟩)])],[],[(5,4,7,⟨[(20,.any),(24,.d .bool)],[]⟩),(9,4,9,⟨[(32,.any),(38,.d .bool)],[]⟩),(9,11,14,⟨[(39,.any),(43,.d .bool)],[]⟩),(9,16,25,⟨[(44,.any),(54,.d .bool)],[]⟩),(15,4,7,⟨[(68,.any),(72,.d .bool)],[]⟩),(15,9,14,⟨[(73,.any),(79,.d .bool)],[]⟩)],[]⟩ F
def m0O (F:Nat) (x:U0):Option Bool:=.bind (α:=Bool) ( if x.Kind != 2 then let x2:=!(((gt x.Set 0)==0)&&(((gt x.Set 1)==0)&&(((gt x.Set 2)==0)&&((gt x.Set 3)==0))));
   some x2 else some false) fun x3=>if x3 then some false else if x.Kind==7 then .bind (α:=Bool) ( if decide (x.N>=1) then some (decide (x.N<=9)) else some false) fun x4=>some x4 else some (x.N==0)
def g0I (F:Nat):Sm en.D:=⟨166,[.d (.st 3)],.d .bool,[],fun x=>m0O F x⟩
def w0G (F:Nat):=R0 [] 166 ⟨[],[],[(1,4,8,⟨[(6,.any),(11,.d .bool)],[]⟩),(4,4,7,⟨[(18,.any),(22,.d .bool)],[]⟩)],[]⟩ F
def s0W (F:Nat) (x:U0) (in_:List U0) (d:Int):Option (T0 Int (Unit ⊕ Unit)):=match d with
 | x2=>if decide (x2<(in_.length:Int)) then if y0 in_ x2 then .bind (α:=Bool) ( if x.Kind==7 then some (((gt in_ x2).Kind)==7) else some false) fun x3=>.bind (α:=Bool) ( if x3 then some (((gt in_ x2).N)==x.N) else some false) fun x4=>if x4 then some (.done (.inl ())) else some (.next (W (x2+1))) else none else some (.done (.inr ()))
def o01 (F:Nat) (x:U0) (in_:List U0):Option Bool:=.bind (α:=Unit ⊕ Unit) ( iter (s0W F x in_) F 0) fun z_=>match z_ with
 | .inl _=>some true
 | .inr _=>some false
def h0t (F:Nat):Sm en.D:=⟨167,[.d (.st 3),.d (.list (.st 3))],.d .bool,[],fun x=>o01 F x.1 x.2⟩
def w07 (F:Nat):=R0 [] 167 ⟨[],[(2,⟨[(9,.d (.int .i64))],[]⟩,[(.ret,⟨[(4,.kb true),(9,.any)],[]⟩),(.ex 0,⟨[(9,.any)],[]⟩)])],[(4,4,7,⟨[(16,.any),(20,.d .bool)],[]⟩),(4,9,14,⟨[(21,.any),(27,.d .bool)],[]⟩)],[]⟩ F
def q0M (F:Nat) (l:List U0) (d:(List Int)×Int×Int):Option (T0 ((List Int)×Int×Int) (Unit ⊕ ((List Int)×Int))):=match d with
 | (out,leaves,x2)=>if decide (x2<(l.length:Int)) then if y0 l x2 then .bind (p0i F l out x2) fun low=>.bind (α:=Bool) ( if decide (low<0) then some true else .bind (m0O F (gt l x2)) fun fields=>some (!fields)) fun x3=>.bind (α:=Bool) ( if x3 then some true else if C3 l low x2 then .bind (o01 F (gt l x2) (L1 l low x2)) fun again=>some again else none) fun x4=>if x4 then some (.done (.inl ())) else .bind (α:=Int) ( if ((gt l x2).Kind)==2 then some (W (leaves+1)) else some leaves) fun leaves2=>if C1 8 out [low] then some (.next (out++[low],leaves2,W (x2+1))) else none else none else some (.done (.inr (out,leaves)))
def b0e (F:Nat) (l:List U0):Option (List Int):=.bind (α:=Bool) ( if (l.length:Int)==0 then some true else some (decide ((l.length:Int)>400))) fun x=>if x then some [] else .bind (α:=Unit ⊕ ((List Int)×Int)) ( iter (q0M F l) F ([],0,0)) fun z_=>match z_ with
  | .inl _=>some []
  | .inr (out2,leaves3)=>.bind (α:=Bool) ( if decide (leaves3>64) then some true else if y0 out2 (W ((l.length:Int)-1)) then some ((gt out2 (W ((l.length:Int)-1))) != 0) else none) fun x5=>if x5 then some [] else some out2
def b0B (F:Nat):Sm en.D:=⟨144,[.d (.list (.st 3))],.own 3 (.int .i64),[],fun x=>b0e F x⟩
def v0F (F:Nat):=R0 [j0m F,g0I F,h0t F] 144 ⟨[(13,[(.nrm,⟨[(4,.d (.int .i64))],[]⟩)])],[(6,⟨[(3,.own 3 (.int .i64)),(4,.d (.int .i64)),(18,.d (.int .i64))],[]⟩,[(.ret,⟨[(2,.nil),(3,.any),(4,.any),(18,.any)],[]⟩),(.ex 0,⟨[(3,.own 3 (.int .i64)),(4,.d (.int .i64)),(18,.any)],[]⟩)])],[(1,4,7,⟨[(11,.any),(15,.d .bool)],[]⟩),(9,3,6,⟨[(29,.any),(33,.d .bool)],[]⟩),(9,8,14,⟨[(34,.any),(41,.d .bool)],[]⟩),(15,3,10,⟨[(54,.any),(62,.d .bool)],[]⟩)],[]⟩ F
def R7 (F:Nat) (l:List U0):Option Bool:=.bind (b0e F l) fun low=>some (decide ((low.length:Int)>0))
def A7 (F:Nat):Sm en.D:=⟨109,[.d (.list (.st 3))],.d .bool,[],fun x=>R7 F x⟩
def v0A (F:Nat):=R0 [b0B F] 109 U1 F
def g0J (F:Nat) (mode:Int):Option Bool:=.bind (α:=Bool) ( if mode==0 then some true else some (mode==1)) fun x=>some x
def e0T (F:Nat):Sm en.D:=⟨110,[.d (.int .i64)],.d .bool,[],fun x=>g0J F x⟩
def z0J (F:Nat):=R0 [] 110 ⟨[],[],[(1,3,5,⟨[(5,.any),(8,.d .bool)],[]⟩)],[]⟩ F
def t0q (F:Nat) (l:List U0) (d:Int×(List Bool)):Option (T0 (Int×(List Bool)) (List Bool)):=match d with
 | (x,y)=>if decide (x<(l.length:Int)) then .bind (α:=List Bool) ( if y0 l x then .bind (α:=Bool) ( if ((gt l x).Kind)==1 then some (((gt l x).Kind)==1) else if ((gt l x).Kind)==5 then some (((gt l x).Kind)==5) else some (((gt l x).Kind)==6)) fun x2=>if x2 then if y0 y x then some (y.set x.toNat true) else none else if ((gt l x).Kind)==3 then if y0 y ((gt l x).A) then .bind (α:=Bool) ( if gt y ((gt l x).A) then if y0 y ((gt l x).B) then some (gt y ((gt l x).B)) else none else some false) fun x3=>if y0 y x then some (y.set x.toNat x3) else none else none else if ((gt l x).Kind)==4 then if y0 y ((gt l x).A) then .bind (α:=Bool) ( if gt y ((gt l x).A) then some true else if y0 y ((gt l x).B) then some (gt y ((gt l x).B)) else none) fun x4=>if y0 y x then some (y.set x.toNat x4) else none else none else .bind (α:=Bool) ( if ((gt l x).Kind)==7 then some (((gt l x).Kind)==7) else some (((gt l x).Kind)==8)) fun x5=>if x5 then if y0 y ((gt l x).A) then if y0 y x then some (y.set x.toNat (gt y ((gt l x).A))) else none else none else some y else none) fun y2=>some (.next (W (x+1),y2)) else some (.done y)
def e0l (F:Nat) (l:List U0):Option (List Bool):=.bind (R7 F l) fun right=>if !right then some [] else if S5 1 (l.length:Int) then .bind (α:=List Bool) ( iter (t0q F l) F (0,(List.replicate (l.length:Int).toNat false:List Bool))) fun y3=>some y3 else none
def c0y (F:Nat):Sm en.D:=⟨111,[.d (.list (.st 3))],.own 4 .bool,[],fun x=>e0l F x⟩
def y0Y (F:Nat):=R0 [A7 F] 111 ⟨[(11,[(.nrm,⟨[(21,.d .bool)],[]⟩)]),(18,[(.nrm,⟨[(62,.d .bool)],[]⟩)]),(19,[(.nrm,⟨[],[(0,.own 4 .bool)]⟩)])],[(5,⟨[(14,.d (.int .i64))],[(0,.own 4 .bool)]⟩,[(.ex 0,⟨[(14,.any)],[(0,.own 4 .bool)]⟩)])],[(13,8,13,⟨[(37,.any),(43,.d .bool)],[]⟩),(15,8,13,⟨[(54,.any),(60,.d .bool)],[]⟩)],[]⟩ F
def g0R (F:Nat) (l:List U0) (mode:Int):Option (I1×Int):=.bind (R7 F l) fun right=>if !right then some ((⟨0,[],[],(⟨[],[]⟩:P1)⟩:I1),11) else .bind (g0J F mode) fun moderi=>if !moderi then some ((⟨0,[],[],(⟨[],[]⟩:P1)⟩:I1),1) else .bind (α:=Bool) ( if mode==1 then some true else .bind (e0l F l) fun can=>if y0 can (W ((l.length:Int)-1)) then some (gt can (W ((l.length:Int)-1))) else none) fun x=>if x then some ((⟨2,[],[],(⟨[],[]⟩:P1)⟩:I1),0) else some ((⟨1,[],[],(⟨[],[]⟩:P1)⟩:I1),0)
def h0h (F:Nat):Sm en.D:=⟨58,[.d (.list (.st 3)),.d (.int .i64)],.tup [.d (.st 6),.d (.int .i64)],[],fun x=>g0R F x.1 x.2⟩
def t0L (F:Nat):=R0 [A7 F,e0T F,c0y F] 58 ⟨[],[],[(5,3,10,⟨[(16,.any),(24,.d .bool)],[]⟩)],[]⟩ F
def d0G (F:Nat) (s:List Int) (b:Int):Option Bool:=if decide (0<=IntKind.u8.wrap (b.tdiv 64))&&decide (IntKind.u8.wrap (b.tdiv 64)<4) then if !decide (b.tmod 64<0) then let x:=R1 .u64 (gt s (IntKind.u8.wrap (b.tdiv 64))) (shl .u64 1 (b.tmod 64));
   some (x != 0) else none else none
def a0l (F:Nat):Sm en.D:=⟨168,[.d (.arr 4 (.int .u64)),.d (.int .u8)],.d .bool,[],fun x=>d0G F x.1 x.2⟩
def q02 (F:Nat):=R0 [] 168 U1 F
def c0e (F:Nat) (b:Int):List (List Int)->Option (List Bool)
 | []=>some []
 | s :: r=>.bind (d0G F s b) fun x=>.bind (c0e F b r) fun y=>some (x :: y)
def c0D (F:Nat) (l:List (List Int)) (st:List (List Bool)×List Int) (b:Nat):Option (List (List Bool)×List Int):=.bind (c0e F b l) fun k=>if st.1.contains k then some (st.1,st.2++[(st.1.idxOf k:Int)]) else some (st.1++[k],st.2++[(st.1.length:Int)])
def f0Y (F:Nat) (l:List (List Int)):Option (List Int×Int):=if decide (l.length<=1000000000) then .bind ((List.range 256).foldlM (c0D F l) ([],[])) fun st=>some (st.2,(st.1.length:Int)) else none
def j0J (F:Nat):Sm en.D:=⟨112,[.d (.list (.arr 4 (.int .u64)))],.tup [.d (.list (.int .i64)),.d (.int .i64)],[],fun x=>f0Y F x⟩
def r06 (F:Nat) (l:List U0) (d:(List (List Int))×Int):Option (T0 ((List (List Int))×Int) (List (List Int))):=match d with
 | (sets,x)=>if decide (x<(l.length:Int)) then .bind (α:=List (List Int)) ( if y0 l x then if ((gt l x).Kind)==2 then if C1 32 sets [(gt l x).Set] then some (sets++[(gt l x).Set]) else none else some sets else none) fun sets2=>some (.next (sets2,W (x+1))) else some (.done sets)
def j0A (F:Nat) (l:List U0):Option ((List Int)×Int):=.bind (R7 F l) fun right=>if !right then some ([],0) else .bind (α:=List (List Int)) ( iter (r06 F l) F ([],0)) fun sets3=>.bind (f0Y F sets3) fun (of,of2)=>some (of,of2)
def h03 (F:Nat):Sm en.D:=⟨59,[.d (.list (.st 3))],.tup [.d (.list (.int .i64)),.d (.int .i64)],[],fun x=>j0A F x⟩
def t0N (F:Nat):=R0 [A7 F,j0J F] 59 ⟨[(9,[(.nrm,⟨[(4,.own 130 (.arr 4 (.int .u64)))],[(0,.any)]⟩)])],[(5,⟨[(4,.own 130 (.arr 4 (.int .u64))),(12,.d (.int .i64))],[]⟩,[(.ex 0,⟨[(4,.own 130 (.arr 4 (.int .u64))),(12,.any)],[]⟩)])],[],[]⟩ F
def p0e (F:Nat):Option Unit:=some ()
def i0y (F:Nat):Sm en.D:=⟨113,[],.agg [.fn 146 [],.fn 147 [.box 75 [.fn 146 []]]],[],fun x=>p0e F⟩
def z0o (F:Nat):=R0 [] 113 U1 F
def s0P (F:Nat) (x:P1) (y:P1) (d:Int):Option (T0 Int (Unit ⊕ Unit)):=match d with
 | x2=>if decide (x2<(x.B.length:Int)) then if y0 x.B x2 then if y0 y.B x2 then .bind (c0S F (gt x.B x2) (gt y.B x2)) fun equal=>if !equal then some (.done (.inl ())) else some (.next (W (x2+1))) else none else none else some (.done (.inr ()))
def z0D (F:Nat) (x:P1) (y:P1) (d:Int):Option (T0 Int (Unit ⊕ Unit)):=match d with
 | x2=>if decide (x2<(x.D.length:Int)) then if y0 x.D x2 then if y0 y.D x2 then .bind (c0S F (gt x.D x2) (gt y.D x2)) fun equal=>if !equal then some (.done (.inl ())) else some (.next (W (x2+1))) else none else none else some (.done (.inr ()))
def k0F (F:Nat) (x:P1) (y:P1):Option Bool:=if (x.B.length:Int) != (y.B.length:Int) then some false else .bind (α:=Unit ⊕ Unit) ( iter (s0P F x y) F 0) fun z_=>match z_ with
  | .inl _=>some false
  | .inr _=>.bind (α:=Bool) ( if (x.D.length:Int) != (y.D.length:Int) then some false else .bind (α:=Unit ⊕ Unit) ( iter (z0D F x y) F 0) fun z_=>match z_ with
     | .inl _=>some false
     | .inr _=>some true) fun x2=>some x2
def h0X (F:Nat):Sm en.D:=⟨114,[.d (.st 5),.d (.st 5)],.d .bool,[],fun x=>k0F F x.1 x.2⟩
def v0a (F:Nat):X1 en:=⟨[f0w F],fun g=>if Nat.beq g 114 then ⟨[],[],[(2,7,13,⟨[(19,.d .bool)],[]⟩)],[]⟩ else if Nat.beq g 148 then ⟨[],[(4,⟨[(17,.d (.int .i64))],[]⟩,[(.ret,⟨[(6,.kb false),(17,.any)],[]⟩),(.ex 0,⟨[(17,.any)],[]⟩)])],[],[]⟩ else U1,F,[]⟩
def q06 (F:Nat) (a:I1) (b:I1) (d:Int):Option (T0 Int (Unit ⊕ Unit)):=match d with
 | x3=>if decide (x3<(a.Maps.length:Int)) then if y0 a.Maps x3 then if y0 b.Maps x3 then .bind (c0S F (gt a.Maps x3) (gt b.Maps x3)) fun equal2=>if !equal2 then some (.done (.inl ())) else some (.next (W (x3+1))) else none else none else some (.done (.inr ()))
def l0H (F:Nat) (a:I1) (b:I1):Option Bool:=.bind (p0e F) fun _=>.bind (α:=Bool) ( if a.Flag==b.Flag then .bind (c0S F a.Places b.Places) fun equal=>some equal else some false) fun x=>.bind (α:=Bool) ( if x then let x2:=(a.Maps.length:Int) != (b.Maps.length:Int);
   if x2 then some false else .bind (α:=Unit ⊕ Unit) ( iter (q06 F a b) F 0) fun z_=>match z_ with
    | .inl _=>some false
    | .inr _=>some true else some false) fun x3=>.bind (α:=Bool) ( if x3 then .bind (k0F F a.Rank b.Rank) fun same_=>some same_ else some false) fun x4=>some x4
def k0C (F:Nat):Sm en.D:=⟨60,[.d (.st 6),.d (.st 6)],.d .bool,[],fun x=>l0H F x.1 x.2⟩
def z0S (F:Nat):X1 en:=⟨[f0w F,i0y F,h0X F],fun g=>if Nat.beq g 60 then ⟨[],[],[(2,6,13,⟨[(12,.any),(20,.d .bool)],[]⟩),(2,15,22,⟨[(21,.any),(29,.d .bool)],[]⟩),(2,24,29,⟨[(30,.any),(36,.d .bool)],[]⟩)],[]⟩ else if Nat.beq g 146 then U1 else if Nat.beq g 147 then U1 else if Nat.beq g 148 then ⟨[],[(4,⟨[(17,.d (.int .i64))],[]⟩,[(.ret,⟨[(6,.kb false),(17,.any)],[]⟩),(.ex 0,⟨[(17,.any)],[]⟩)])],[],[]⟩ else U1,F,[]⟩
def p09 (F:Nat) (l:List U0) (q:Int) (low:List Int) (x2:Int) (d:Int×(List Bool)):Option (T0 (Int×(List Bool)) (List Bool)):=match d with
 | (x3,y)=>if decide (x3<x2) then .bind (α:=List Bool) ( if y0 (L1 l (gt low q) (W (q+1))) x3 then let x4:=((gt (L1 l (gt low q) (W (q+1))) x3).Kind)==7;
    if x4 then if decide (0<=(gt (L1 l (gt low q) (W (q+1))) x3).N)&&decide ((gt (L1 l (gt low q) (W (q+1))) x3).N<10) then let x5:=y.set ((gt (L1 l (gt low q) (W (q+1))) x3).N).toNat true;
      some x5 else none else some y else none) fun y2=>some (.next (W (x3+1),y2)) else some (.done y)
def x0Q (F:Nat) (y3:List Bool) (d:(List Int)×Int):Option (T0 ((List Int)×Int) (List Int)):=match d with
 | (out,x6)=>if decide (x6<10) then .bind (α:=List Int) ( if decide (0<=x6)&&decide (x6<10) then if gt y3 x6 then if C1 8 out [x6] then some (out++[x6]) else none else some out else none) fun out2=>some (.next (out2,W (x6+1))) else some (.done out)
def g0O (F:Nat) (l:List U0) (q:Int):Option (List Int):=.bind (b0e F l) fun low=>.bind (α:=Bool) ( if decide (q<0) then some true else some (decide (q>=(low.length:Int)))) fun x=>if x then some [] else if y0 low q then if C3 l (gt low q) (W (q+1)) then let x2:=((L1 l (gt low q) (W (q+1))).length:Int);
    .bind (α:=List Bool) ( iter (p09 F l q low x2) F (0,[false,false,false,false,false,false,false,false,false,false])) fun y3=>.bind (α:=List Int) ( iter (x0Q F y3) F ([],0)) fun out3=>some out3 else none else none
def e01 (F:Nat):Sm en.D:=⟨149,[.d (.list (.st 3)),.d (.int .i64)],.own 3 (.int .i64),[],fun x=>g0O F x.1 x.2⟩
def u0x (F:Nat):=R0 [b0B F] 149 ⟨[(10,[(.nrm,⟨[],[(1,.box 219 [.d (.arr 10 .bool)])]⟩)]),(17,[(.nrm,⟨[(9,.own 3 (.int .i64))],[(3,.any)]⟩)])],[(13,⟨[(9,.own 3 (.int .i64)),(41,.d (.int .i64))],[]⟩,[(.ex 2,⟨[(9,.own 3 (.int .i64)),(41,.any)],[]⟩)]),(6,⟨[(30,.d (.int .i64))],[(1,.box 219 [.d (.arr 10 .bool)])]⟩,[(.ex 0,⟨[(30,.any)],[(1,.box 219 [.d (.arr 10 .bool)])]⟩)])],[(2,3,7,⟨[(15,.any),(20,.d .bool)],[]⟩)],[]⟩ F
def u0B (F:Nat) (groups:List Int) (d:Int×Int):Option (T0 (Int×Int) Int):=match d with
 | (top,x)=>if decide (x<(groups.length:Int)) then if y0 groups x then some (.next (gt groups x,W (x+1))) else none else some (.done top)
def m0R (F:Nat) (l:List U0):Option Int:=.bind (g0O F l (W ((l.length:Int)-1))) fun groups=>.bind (α:=Int) ( iter (u0B F groups) F (0,0)) fun top2=>some top2
def j0B (F:Nat):Sm en.D:=⟨117,[.d (.list (.st 3))],.d (.int .i64),[],fun x=>m0R F x⟩
def q0L (F:Nat):=R0 [e01 F] 117 ⟨[],[(3,⟨[(3,.d (.int .i64)),(12,.d (.int .i64))],[]⟩,[(.ex 0,⟨[(3,.d (.int .i64)),(12,.any)],[]⟩)])],[],[]⟩ F
def c08 (F:Nat) (l:List U0):Option Int:=.bind (R7 F l) fun right=>if !right then some 0 else .bind (m0R F l) fun top=>some (W (1+(W (2*top))))
def c05 (F:Nat):Sm en.D:=⟨62,[.d (.list (.st 3))],.d (.int .i64),[],fun x=>c08 F x⟩
def v0q (F:Nat):=R0 [A7 F,j0B F] 62 U1 F
def y0A (F:Nat) (k:I1) (x:Int) (d:Int×Int):Option (T0 (Int×Int) Int):=match d with
 | (n_2,x2)=>if decide (x2<((gt k.Maps x).length:Int)) then if y0 (gt k.Maps x) x2 then let x3:=if (W ((gt (gt k.Maps x) x2)+1))>n_2 then W ((gt (gt k.Maps x) x2)+1) else n_2;
   some (.next (x3,W (x2+1))) else none else some (.done n_2)
def y0f (F:Nat) (k:I1) (d:Int×Int):Option (T0 (Int×Int) Int):=match d with
 | (n_,x)=>if decide (x<(k.Maps.length:Int)) then if y0 k.Maps x then .bind (α:=Int) ( iter (y0A F k x) F (n_,0)) fun n_3=>some (.next (n_3,W (x+1))) else none else some (.done n_)
def g0c (F:Nat) (k:I1):Option Int:=.bind (α:=Int) ( iter (y0f F k) F (0,0)) fun n_4=>some n_4
def i0P (F:Nat):Sm en.D:=⟨118,[.d (.st 6)],.d (.int .i64),[],fun x=>g0c F x⟩
def y06 (F:Nat):=R0 [] 118 ⟨[],[(3,⟨[(3,.d (.int .i64)),(11,.d (.int .i64))],[]⟩,[(.ex 0,⟨[(3,.d (.int .i64)),(11,.any)],[]⟩)]),(6,⟨[(3,.d (.int .i64)),(17,.d (.int .i64))],[]⟩,[(.ex 2,⟨[(3,.d (.int .i64)),(17,.any)],[]⟩)])],[],[]⟩ F
def q0e (F:Nat) (places:List Int) (many:Int) (d:Int×Int):Option (T0 (Int×Int) (Unit ⊕ Unit)):=match d with
 | (last,x)=>if decide (x<(places.length:Int)) then if y0 places x then .bind (α:=Bool) ( if decide ((gt places x)<=last) then some true else some (decide ((gt places x)>=many))) fun x2=>if x2 then some (.done (.inl ())) else some (.next (gt places x,W (x+1))) else none else some (.done (.inr ()))
def o0R (F:Nat) (places:List Int) (many:Int):Option Bool:=.bind (α:=Unit ⊕ Unit) ( iter (q0e F places many) F ((-1),0)) fun z_=>match z_ with
 | .inl _=>some false
 | .inr _=>some true
def h0s (F:Nat):Sm en.D:=⟨171,[.d (.list (.int .i64)),.d (.int .i64)],.d .bool,[],fun x=>o0R F x.1 x.2⟩
def v00 (F:Nat):=R0 [] 171 ⟨[],[(3,⟨[(5,.d (.int .i64)),(10,.d (.int .i64))],[]⟩,[(.ret,⟨[(4,.kb false),(5,.any),(10,.any)],[]⟩),(.ex 0,⟨[(5,.any),(10,.any)],[]⟩)])],[(5,4,7,⟨[(17,.any),(21,.d .bool)],[]⟩)],[]⟩ F
def w0O (F:Nat) (l:List U0) (d:(List Int)×Int):Option (T0 ((List Int)×Int) (List Int)):=match d with
 | (out,x)=>if decide (x<(l.length:Int)) then .bind (α:=List Int) ( if y0 l x then if ((gt l x).Kind)==2 then if C1 8 out [x] then some (out++[x]) else none else some out else none) fun out2=>some (.next (out2,W (x+1))) else some (.done out)
def a0I (F:Nat) (l:List U0):Option (List Int):=.bind (R7 F l) fun right=>if !right then some [] else .bind (α:=List Int) ( iter (w0O F l) F ([],0)) fun out3=>some out3
def b0f (F:Nat):Sm en.D:=⟨172,[.d (.list (.st 3))],.own 3 (.int .i64),[],fun x=>a0I F x⟩
def w0S (F:Nat):=R0 [A7 F] 172 ⟨[(9,[(.nrm,⟨[(3,.own 3 (.int .i64))],[(0,.any)]⟩)])],[(5,⟨[(3,.own 3 (.int .i64)),(11,.d (.int .i64))],[]⟩,[(.ex 0,⟨[(3,.own 3 (.int .i64)),(11,.any)],[]⟩)])],[],[]⟩ F
def v0l (F:Nat) (maps:List (List Int)) (x:Int) (d:Int×Int):Option (T0 (Int×Int) (Unit ⊕ Int)):=match d with
 | (next_2,x2)=>if decide (x2<((gt maps x).length:Int)) then .bind (α:=Int ⊕ Unit) ( if y0 (gt maps x) x2 then if (gt (gt maps x) x2)==(-2) then some (.inl next_2) else .bind (α:=Bool) ( if decide ((gt (gt maps x) x2)<0) then some true else some (decide ((gt (gt maps x) x2)>next_2))) fun x3=>if x3 then some (.inr ()) else if (gt (gt maps x) x2)==next_2 then some (.inl (W (next_2+1))) else some (.inl next_2) else none) fun z_=>match z_ with
  | .inl next_3=>some (.next (next_3,W (x2+1)))
  | .inr _=>some (.done (.inl ())) else some (.done (.inr next_2))
def p02 (F:Nat) (maps:List (List Int)) (tags:Int) (d:Int×Int):Option (T0 (Int×Int) (Unit ⊕ Unit)):=match d with
 | (next_,x)=>if decide (x<(maps.length:Int)) then if y0 maps x then if ((gt maps x).length:Int) != tags then some (.done (.inl ())) else .bind (α:=Unit ⊕ Int) ( iter (v0l F maps x) F (next_,0)) fun z_=>match z_ with
    | .inl _=>some (.done (.inl ()))
    | .inr next_4=>some (.next (next_4,W (x+1))) else none else some (.done (.inr ()))
def n00 (F:Nat) (maps:List (List Int)) (tags:Int):Option Bool:=.bind (α:=Unit ⊕ Unit) ( iter (p02 F maps tags) F (0,0)) fun z_=>match z_ with
 | .inl _=>some false
 | .inr _=>some true
def k0A (F:Nat):Sm en.D:=⟨173,[.d (.list (.list (.int .i64))),.d (.int .i64)],.d .bool,[],fun x=>n00 F x.1 x.2⟩
def w0Z (F:Nat):=R0 [] 173 ⟨[(15,[(.nrm,⟨[(5,.d (.int .i64))],[]⟩),(.ret,⟨[(4,.kb false)],[]⟩)])],[(3,⟨[(5,.d (.int .i64)),(12,.d (.int .i64))],[]⟩,[(.ret,⟨[(4,.kb false),(5,.any),(12,.any)],[]⟩),(.ex 0,⟨[(5,.any),(12,.any)],[]⟩)]),(8,⟨[(5,.d (.int .i64)),(22,.d (.int .i64))],[]⟩,[(.ret,⟨[(4,.kb false),(5,.any),(22,.any)],[]⟩),(.ex 2,⟨[(5,.d (.int .i64)),(22,.any)],[]⟩)])],[(11,3,6,⟨[(32,.any),(36,.d .bool)],[]⟩)],[]⟩ F
def z0N (F:Nat) (l:List (List Int)) (n_:Int) (d:Int):Option (T0 Int (Unit ⊕ Unit)):=match d with
 | x=>if decide (x<(l.length:Int)) then if y0 l x then if ((gt l x).length:Int) != n_ then some (.done (.inl ())) else some (.next (W (x+1))) else none else some (.done (.inr ()))
def h0b (F:Nat) (l:List (List Int)) (n_:Int):Option Bool:=.bind (α:=Unit ⊕ Unit) ( iter (z0N F l n_) F 0) fun z_=>match z_ with
 | .inl _=>some false
 | .inr _=>some ((l.length:Int)==n_)
def k0j (F:Nat):Sm en.D:=⟨189,[.d (.list (.list (.int .i64))),.d (.int .i64)],.d .bool,[],fun x=>h0b F x.1 x.2⟩
def x08 (F:Nat):=R0 [] 189 ⟨[],[(2,⟨[(9,.d (.int .i64))],[]⟩,[(.ret,⟨[(4,.kb false),(9,.any)],[]⟩),(.ex 0,⟨[(9,.any)],[]⟩)])],[],[]⟩ F
def u0j (F:Nat) (x:P1) (n_:Int) (x3:Int) (d:Int):Option (T0 Int (Unit ⊕ Unit)):=match d with
 | x5=>if decide (x5<n_) then if y0 x.D x3 then if y0 (gt x.D x3) x5 then if y0 x.B x3 then if y0 (gt x.B x3) x5 then .bind (α:=Bool) ( if decide ((gt (gt x.B x3) x5)<0) then some true else .bind (α:=Bool) ( if x3 != x5 then if (gt (gt x.D x3) x5) != 1 then if (gt (gt x.D x3) x5) != (-1) then some true else if y0 x.D x5 then if y0 (gt x.D x5) x3 then let x6:=(gt (gt x.D x5) x3) != (W (0-(gt (gt x.D x3) x5)));
              some x6 else none else none else if y0 x.D x5 then if y0 (gt x.D x5) x3 then let x7:=(gt (gt x.D x5) x3) != (W (0-(gt (gt x.D x3) x5)));
             some x7 else none else none else some false) fun x8=>some x8) fun x9=>if x9 then some (.done (.inl ())) else some (.next (W (x5+1))) else none else none else none else none else some (.done (.inr ()))
def s02 (F:Nat) (x:P1) (n_:Int) (d:Int):Option (T0 Int (Unit ⊕ Unit)):=match d with
 | x3=>if decide (x3<n_) then if y0 x.B x3 then if y0 (gt x.B x3) x3 then .bind (α:=Bool) ( if (gt (gt x.B x3) x3) != 0 then some true else if y0 x.D x3 then if y0 (gt x.D x3) x3 then some ((gt (gt x.D x3) x3) != 0) else none else none) fun x4=>if x4 then some (.done (.inl ())) else .bind (α:=Unit ⊕ Unit) ( iter (u0j F x n_ x3) F 0) fun z_=>match z_ with
     | .inl _=>some (.done (.inl ()))
     | .inr _=>some (.next (W (x3+1))) else none else none else some (.done (.inr ()))
def i0G (F:Nat) (x:P1) (n_:Int):Option Bool:=.bind (h0b F x.B n_) fun square=>.bind (α:=Bool) ( if !square then some true else .bind (h0b F x.D n_) fun square2=>some (!square2)) fun x2=>if x2 then some false else .bind (α:=Unit ⊕ Unit) ( iter (s02 F x n_) F 0) fun z_=>match z_ with
  | .inl _=>some false
  | .inr _=>some true
def e0y (F:Nat):Sm en.D:=⟨174,[.d (.st 5),.d (.int .i64)],.d .bool,[],fun x=>i0G F x.1 x.2⟩
def w0Q (F:Nat):=R0 [k0j F] 174 ⟨[],[(4,⟨[(21,.d (.int .i64))],[]⟩,[(.ret,⟨[(4,.kb false),(21,.any)],[]⟩),(.ex 0,⟨[(21,.any)],[]⟩)]),(9,⟨[(45,.d (.int .i64))],[]⟩,[(.ret,⟨[(4,.kb false),(45,.any)],[]⟩),(.ex 2,⟨[(45,.any)],[]⟩)])],[(1,6,11,⟨[(13,.any),(19,.d .bool)],[]⟩),(6,10,19,⟨[(33,.any),(43,.d .bool)],[]⟩),(12,10,34,⟨[(65,.any),(90,.d .bool)],[]⟩),(12,14,33,⟨[(69,.any),(89,.d .bool)],[]⟩)],[]⟩ F
def k0i (F:Nat) (l:List U0) (k:I1):Option Bool:=.bind (R7 F l) fun right=>.bind (α:=Bool) ( if !right then some true else some (decide (k.Flag<0))) fun x=>.bind (α:=Bool) ( if x then some true else some (decide (k.Flag>2))) fun x2=>.bind (α:=Bool) ( if x2 then some true else let x3:=(k.Maps.length:Int) != (k.Places.length:Int);
   some x3) fun x4=>if x4 then some false else .bind (a0I F l) fun leaves=>.bind (o0R F k.Places (leaves.length:Int)) fun placed=>.bind (α:=Bool) ( if placed then .bind (c08 F l) fun tags=>.bind (n00 F k.Maps tags) fun number=>some number else some false) fun x5=>.bind (α:=Bool) ( if x5 then .bind (i0G F k.Rank (k.Places.length:Int)) fun right2=>some right2 else some false) fun x6=>some x6
def f0K (F:Nat):Sm en.D:=⟨150,[.d (.list (.st 3)),.d (.st 6)],.d .bool,[],fun x=>k0i F x.1 x.2⟩
def r0i (F:Nat):=R0 [c05 F,A7 F,h0s F,b0f F,k0A F,e0y F] 150 ⟨[],[],[(1,4,7,⟨[(8,.any),(12,.d .bool)],[]⟩),(1,9,12,⟨[(13,.any),(17,.d .bool)],[]⟩),(1,14,21,⟨[(18,.any),(26,.d .bool)],[]⟩),(3,7,12,⟨[(33,.any),(39,.d .bool)],[]⟩),(3,14,20,⟨[(40,.any),(47,.d .bool)],[]⟩)],[]⟩ F
def a08 (F:Nat):Nat->(List U0)->(List Bool)->Int->(List Int)->Option (List Int)
 | 0,_,_,_,_=>none
 | n+1,l,can,q,out=>if C1 8 out [W (2*q)] then if y0 l q then .bind (α:=List Int) ( if ((gt l q).Kind)==3 then .bind (a08 F n l can ((gt l q).A) (out++[W (2*q)])) fun walk=>.bind (a08 F n l can ((gt l q).B) walk) fun walk2=>some walk2 else if ((gt l q).Kind)==4 then if y0 can ((gt l q).A) then if gt can ((gt l q).A) then .bind (a08 F n l can ((gt l q).A) (out++[W (2*q)])) fun walk3=>some walk3 else .bind (a08 F n l can ((gt l q).B) (out++[W (2*q)])) fun walk4=>some walk4 else none else .bind (α:=Bool) ( if ((gt l q).Kind)==7 then some (((gt l q).Kind)==7) else some (((gt l q).Kind)==8)) fun x=>if x then .bind (a08 F n l can ((gt l q).A) (out++[W (2*q)])) fun walk5=>some walk5 else some (out++[W (2*q)])) fun out2=>if C1 8 out2 [W ((W (2*q))+1)] then some (out2++[W ((W (2*q))+1)]) else none else none else none
def e0o (F n:Nat):Sm en.D:=⟨192,[.d (.list (.st 3)),.d (.list .bool),.d (.int .i64),.own 3 (.int .i64)],.own 3 (.int .i64),[],fun x=>a08 F n x.1 x.2.1 x.2.2.1 x.2.2.2⟩
def x0Z (F n:Nat):=R0 [e0o F n] 192 ⟨[(12,[(.nrm,⟨[(53,.d .bool)],[]⟩)]),(13,[(.nrm,⟨[(3,.own 3 (.int .i64))],[(2,.any)]⟩)])],[],[],[]⟩ F
def g0H (F:Nat) (l:List U0) (q:Int):Option (List Int):=.bind (e0l F l) fun can=>.bind (α:=Bool) ( if decide (q<0) then some true else some (decide (q>=(can.length:Int)))) fun x=>.bind (α:=Bool) ( if x then some true else if y0 can q then some (!(gt can q)) else none) fun x2=>if x2 then some [] else .bind (a08 F F l can q []) fun walk=>some walk
def c06 (F:Nat):Sm en.D:=⟨176,[.d (.list (.st 3)),.d (.int .i64)],.own 3 (.int .i64),[],fun x=>g0H F x.1 x.2⟩
def q0n (F:Nat):=R0 [c0y F,e0o F F] 176 ⟨[],[],[(2,3,7,⟨[(10,.any),(15,.d .bool)],[]⟩),(2,9,14,⟨[(16,.any),(22,.d .bool)],[]⟩)],[]⟩ F
def s01 (F:Nat) (l:List U0) (d:Int×(List Int)):Option (T0 (Int×(List Int)) (List Int)):=match d with
 | (x,y)=>if decide (x<(l.length:Int)) then .bind (α:=List Int) ( if y0 l x then .bind (α:=List Int) ( if decide (((gt l x).A)>=0) then if y0 y ((gt l x).A) then some (y.set ((gt l x).A).toNat x) else none else some y) fun y2=>if decide (((gt l x).B)>=0) then if y0 y2 ((gt l x).B) then some (y2.set ((gt l x).B).toNat x) else none else some y2 else none) fun y3=>some (.next (W (x+1),y3)) else some (.done y)
def d0T (F:Nat) (l:List U0):Option (List Int):=.bind (R7 F l) fun right=>if !right then some [] else if S5 8 (l.length:Int) then if y0 (List.replicate (l.length:Int).toNat 0:List Int) (W ((l.length:Int)-1)) then let l2:=(List.replicate (l.length:Int).toNat 0:List Int).set (W ((l.length:Int)-1)).toNat (-1);
    .bind (α:=List Int) ( iter (s01 F l) F (0,l2)) fun y4=>some y4 else none else none
def b0Q (F:Nat):Sm en.D:=⟨210,[.d (.list (.st 3))],.own 3 (.int .i64),[],fun x=>d0T F x⟩
def q0J (F:Nat):=R0 [A7 F] 210 ⟨[(10,[(.nrm,⟨[],[(0,.own 3 (.int .i64))]⟩)]),(12,[(.nrm,⟨[],[(0,.own 3 (.int .i64))]⟩)])],[(6,⟨[(19,.d (.int .i64))],[(0,.own 3 (.int .i64))]⟩,[(.ex 0,⟨[(19,.any)],[(0,.own 3 (.int .i64))]⟩)])],[],[]⟩ F
def q0N (F:Nat) (up:List Int) (d:Int×(List Int)):Option (T0 (Int×(List Int)) (List Int)):=match d with
 | (i,y)=>if decide (i>=0) then .bind (α:=List Int) ( if y0 y i then if y0 up i then if decide ((gt up i)>=0) then if y0 (y.set i.toNat 1) i then if y0 up i then if y0 (y.set i.toNat 1) (gt up i) then let x:=W ((gt (y.set i.toNat 1) i)+(gt (y.set i.toNat 1) (gt up i)));
         if y0 (y.set i.toNat 1) i then some ((y.set i.toNat 1).set i.toNat x) else none else none else none else none else some (y.set i.toNat 1) else none else none) fun y2=>some (.next (W (i-1),y2)) else some (.done y)
def i0V (F:Nat) (l:List U0):Option (List Int):=.bind (d0T F l) fun up=>if S5 8 (up.length:Int) then .bind (α:=List Int) ( iter (q0N F up) F (W ((up.length:Int)-1),(List.replicate (up.length:Int).toNat 0:List Int))) fun y3=>some y3 else none
def f0j (F:Nat):Sm en.D:=⟨211,[.d (.list (.st 3))],.own 3 (.int .i64),[],fun x=>i0V F x⟩
def q0a (F:Nat):=R0 [b0Q F] 211 ⟨[(5,[(.nrm,⟨[],[(1,.own 3 (.int .i64))]⟩)])],[(4,⟨[(5,.d (.int .i64))],[(1,.own 3 (.int .i64))]⟩,[(.ex 0,⟨[(5,.any)],[(1,.own 3 (.int .i64))]⟩)])],[],[]⟩ F
def x0b (F:Nat) (x:Int) (d:Int×(List Int)):Option (T0 (Int×(List Int)) (List Int)):=match d with
 | (x2,y)=>if decide (x2<x) then if y0 y x2 then some (.next (W (x2+1),y.set x2.toNat (-1))) else none else some (.done y)
def w0J (F:Nat) (leaves:List Int) (d:Int×(List Int)):Option (T0 (Int×(List Int)) (List Int)):=match d with
 | (x3,y3)=>if decide (x3<(leaves.length:Int)) then if y0 leaves x3 then if y0 y3 (gt leaves x3) then some (.next (W (x3+1),y3.set (gt leaves x3).toNat x3)) else none else none else some (.done y3)
def l0A (F:Nat) (l:List U0):Option (List Int):=.bind (R7 F l) fun right=>if !right then some [] else if S5 8 (l.length:Int) then let x:=((List.replicate (l.length:Int).toNat 0:List Int).length:Int);
   .bind (α:=List Int) ( iter (x0b F x) F (0,(List.replicate (l.length:Int).toNat 0:List Int))) fun y2=>.bind (a0I F l) fun leaves=>.bind (α:=List Int) ( iter (w0J F leaves) F (0,y2)) fun y4=>some y4 else none
def g0Y (F:Nat):Sm en.D:=⟨212,[.d (.list (.st 3))],.own 3 (.int .i64),[],fun x=>l0A F x⟩
def w0o (F:Nat):=R0 [A7 F,b0f F] 212 ⟨[],[(10,⟨[(25,.d (.int .i64))],[(0,.own 3 (.int .i64))]⟩,[(.ex 2,⟨[(25,.any)],[(0,.own 3 (.int .i64))]⟩)]),(5,⟨[(15,.d (.int .i64))],[(0,.own 3 (.int .i64))]⟩,[(.ex 0,⟨[(15,.any)],[(0,.own 3 (.int .i64))]⟩)])],[],[]⟩ F
def i0z (F:Nat) (l:List U0):Option ((Unit ⊕ B5)×Bool):=.bind (R7 F l) fun right=>if !right then some ((.inl ()),false) else .bind (d0T F l) fun up=>.bind (i0V F l) fun deep=>.bind (l0A F l) fun index=>.bind (e0l F l) fun can=>some ((.inr (⟨l,up,deep,index,can⟩:B5)),true)
def f08 (F:Nat):Sm en.D:=⟨193,[.d (.list (.st 3))],.tup [.alt .nilp (.box 246 [.d (.st 15)]),.d .bool],[],fun x=>i0z F x⟩
def t0I (F:Nat):=R0 [A7 F,c0y F,b0Q F,f0j F,g0Y F] 193 U1 F
def h0N (F:Nat) (l:List U0) (p:Int):Option ((Unit ⊕ B5)×Int×Bool):=.bind (α:=(Unit ⊕ B5)×Bool) ( .bind (i0z F l) fun (of,of3)=>match of with
  | .inl _=>some ((.inl ()),of3)
  | .inr of2=>some ((.inr of2),of3)) fun (c,ok)=>match c with
 | .inl _=>if !ok then some ((.inl ()),0,false) else .bind (a0I F l) fun leaves2=>.bind (α:=Bool) ( if decide (p<0) then some true else some (decide (p>=(leaves2.length:Int)))) fun x2=>if x2 then some ((.inl ()),0,false) else if y0 leaves2 p then some ((.inl ()),gt leaves2 p,true) else none
 | .inr c2=>if !ok then some ((.inl ()),0,false) else .bind (a0I F l) fun leaves=>.bind (α:=Bool) ( if decide (p<0) then some true else some (decide (p>=(leaves.length:Int)))) fun x=>if x then some ((.inl ()),0,false) else if y0 leaves p then some ((.inr c2),gt leaves p,true) else none
def f02 (F:Nat):Sm en.D:=⟨177,[.d (.list (.st 3)),.d (.int .i64)],.tup [.alt .nilp (.box 246 [.d (.st 15)]),.d (.int .i64),.d .bool],[],fun x=>h0N F x.1 x.2⟩
def w0x (F:Nat):=R0 [b0f F,f08 F] 177 ⟨[(2,[(.nrm,⟨[(7,.alt .nilp (.box 246 [.d (.st 15)])),(8,.d .bool)],[]⟩)])],[],[(5,3,7,⟨[(21,.any),(26,.d .bool)],[]⟩)],[]⟩ F
def d0i (F:Nat) (a:List Int) (b:List Int):Option (List Int):=if decide ((a.length:Int)=(a.length:Int))&&(C3 a 0 (a.length:Int)&&(decide ((a.length:Int)<=(a.length:Int))&&decide ((a.length:Int)<=(a.length:Int)))) then if C1 8 (L1 a 0 (a.length:Int)) b then some ((L1 a 0 (a.length:Int))++b) else none else none
def e0R (F:Nat):Sm en.D:=⟨195,[.d (.list (.int .i64)),.d (.list (.int .i64))],.d (.list (.int .i64)),[],fun x=>d0i F x.1 x.2⟩
def q00 (F:Nat):=R0 [] 195 U1 F
def F9 (F:Nat):Nat->B5->Int->(List Int)->(List E1)->Option (List E1)
 | 0,_,_,_,_=>none
 | n+1,c,q,ahead,out=>if y0 c.l q then .bind (d0i F ahead [W (2*q)]) fun more=>.bind (α:=(List E1) ⊕ (List E1)) ( if ((gt c.l q).Kind)==2 then if y0 c.index q then if C1 40 out [(⟨gt c.index q,0,more⟩:E1)] then some (.inl (out++[(⟨gt c.index q,0,more⟩:E1)])) else none else none else if ((gt c.l q).Kind)==3 then .bind (F9 F n c ((gt c.l q).A) more out) fun into=>if y0 c.can ((gt c.l q).A) then if gt c.can ((gt c.l q).A) then .bind (g0H F c.l ((gt c.l q).A)) fun steps=>.bind (d0i F more steps) fun more2=>.bind (F9 F n c ((gt c.l q).B) more2 into) fun into2=>some (.inr into2) else some (.inr into) else none else if ((gt c.l q).Kind)==4 then .bind (F9 F n c ((gt c.l q).A) more out) fun into3=>.bind (F9 F n c ((gt c.l q).B) more into3) fun into4=>some (.inr into4) else .bind (α:=Bool) ( if ((gt c.l q).Kind)==5 then some (((gt c.l q).Kind)==5) else if ((gt c.l q).Kind)==6 then some (((gt c.l q).Kind)==6) else if ((gt c.l q).Kind)==7 then some (((gt c.l q).Kind)==7) else some (((gt c.l q).Kind)==8)) fun x=>if x then .bind (F9 F n c ((gt c.l q).A) more out) fun into5=>some (.inr into5) else some (.inr out)) fun z_=>match z_ with
  | .inl x2=>some x2
  | .inr out2=>some out2 else none
def d0a (F n:Nat):Sm en.D:=⟨213,[.d (.ptr (.st 15)),.d (.int .i64),.d (.list (.int .i64)),.own 116 (.st 11)],.own 116 (.st 11),[],fun x=>F9 F n x.1 x.2.1 x.2.2.1 x.2.2.2⟩
def u0d (F n:Nat):=R0 [c06 F,e0R F,d0a F n] 213 ⟨[(16,[(.nrm,⟨[(82,.d .bool)],[]⟩)]),(17,[(.ret,⟨[(8,.own 116 (.st 11))],[(0,.any)]⟩),(.nrm,⟨[(3,.own 116 (.st 11))],[(0,.any)]⟩)])],[],[],[]⟩ F
def s0X (F:Nat) (into:List E1) (out2:List E1) (x:Int) (d:Int):Option (T0 Int (Int ⊕ Unit)):=match d with
 | x2=>if decide (x2<(out2.length:Int)) then if y0 out2 x2 then if ((gt out2 x2).To)==((gt into x).To) then some (.done (.inl x2)) else some (.next (W (x2+1))) else none else some (.done (.inr ()))
def q0Q (F:Nat) (c:B5) (at_:Int) (into:List E1) (d:(List E1)×Int):Option (T0 ((List E1)×Int) (List E1)):=match d with
 | (out2,x)=>if decide (x<(into.length:Int)) then .bind (α:=List E1) ( if y0 into x then .bind (α:=Bool) ( .bind (α:=Int ⊕ Unit) ( iter (s0X F into out2 x) F 0) fun z_=>match z_ with
     | .inl x3=>some (!(decide (x3>=0)))
     | .inr _=>some (!(decide ((-1)>=0)))) fun x2=>if x2 then if y0 c.deep at_ then if C1 40 out2 [(⟨(gt into x).To,gt c.deep at_,(gt into x).Steps⟩:E1)] then let l:=out2++[(⟨(gt into x).To,gt c.deep at_,(gt into x).Steps⟩:E1)];
       some l else none else none else some out2 else none) fun out3=>some (.next (out3,W (x+1))) else some (.done out2)
def h0E (F:Nat) (c:B5) (at_:Int) (goal:Int) (ahead:List Int) (out:List E1):Option (List E1):=.bind (F9 F F c goal ahead []) fun into=>.bind (α:=List E1) ( iter (q0Q F c at_ into) F (out,0)) fun out4=>some out4
def j0Z (F:Nat):Sm en.D:=⟨194,[.d (.ptr (.st 15)),.d (.int .i64),.d (.int .i64),.d (.list (.int .i64)),.own 116 (.st 11)],.own 116 (.st 11),[],fun x=>h0E F x.1 x.2.1 x.2.2.1 x.2.2.2.1 x.2.2.2.2⟩
def q0f (F:Nat):X1 en:=⟨[d0a F F],fun g=>if Nat.beq g 194 then ⟨[(5,[(.nrm,⟨[(25,.d .bool)],[]⟩)]),(7,[(.nrm,⟨[(4,.own 116 (.st 11))],[(2,.any)]⟩)])],[(2,⟨[(4,.own 116 (.st 11)),(18,.d (.int .i64))],[(0,.any)]⟩,[(.ex 0,⟨[(4,.own 116 (.st 11)),(18,.any)],[(0,.any)]⟩)])],[],[]⟩ else if Nat.beq g 214 then U1 else if Nat.beq g 215 then U1 else if Nat.beq g 222 then ⟨[],[(2,⟨[(8,.d (.int .i64))],[]⟩,[(.ret,⟨[(4,.d (.int .i64)),(8,.any)],[]⟩),(.ex 0,⟨[(8,.any)],[]⟩)])],[],[]⟩ else U1,F,[]⟩
def v0x (F:Nat) (c:B5) (d:Int×(List Int)×(List E1)×Int):Option (T0 (Int×(List Int)×(List E1)×Int) ((List E1) ⊕ ((List Int)×(List E1)))):=match d with
 | (q2,s,out,x)=>if decide (x>=0) then if y0 c.l x then .bind (α:=(List E1) ⊕ ((List Int)×(List E1))) ( .bind (α:=Bool) ( if ((gt c.l x).Kind)==3 then some (((gt c.l x).A)==q2) else some false) fun x2=>if x2 then .bind (h0E F c x ((gt c.l x).B) s out) fun turns=>if y0 c.can ((gt c.l x).B) then if !(gt c.can ((gt c.l x).B)) then some (.inl turns) else .bind (g0H F c.l ((gt c.l x).B)) fun steps=>.bind (d0i F s steps) fun more=>some (.inr (more,turns)) else none else if ((gt c.l x).Kind)==5 then .bind (h0E F c x ((gt c.l x).A) s out) fun turns2=>some (.inr (s,turns2)) else some (.inr (s,out))) fun z_=>match z_ with
   | .inl x3=>some (.done (.inl x3))
   | .inr (s2,out2)=>.bind (d0i F s2 [W ((W (2*x))+1)]) fun more2=>if y0 c.up x then some (.next (x,more2,out2,gt c.up x)) else none else none else some (.done (.inr (s,out)))
def k0q (F:Nat) (c:B5) (q:Int):Option ((List E1)×(List Int)):=if y0 c.up q then .bind (α:=(List E1) ⊕ ((List Int)×(List E1))) ( iter (v0x F c) F (q,[W ((W (2*q))+1)],[],gt c.up q)) fun z_=>match z_ with
  | .inl x4=>some (x4,[])
  | .inr (s3,out3)=>some (out3,s3) else none
def e0C (F:Nat):Sm en.D:=⟨178,[.d (.ptr (.st 15)),.d (.int .i64)],.tup [.own 116 (.st 11),.d (.list (.int .i64))],[],fun x=>k0q F x.1 x.2⟩
def q08 (F:Nat):=R0 [c06 F,j0Z F,e0R F] 178 ⟨[(14,[(.ret,⟨[(4,.own 116 (.st 11)),(5,.nil),(7,.any)],[(1,.any)]⟩),(.nrm,⟨[(6,.d (.list (.int .i64))),(7,.own 116 (.st 11))],[(1,.any)]⟩)])],[(4,⟨[(1,.d (.int .i64)),(6,.d (.list (.int .i64))),(7,.own 116 (.st 11)),(8,.d (.int .i64))],[(0,.any)]⟩,[(.ret,⟨[(1,.any),(4,.own 116 (.st 11)),(5,.nil),(6,.any),(7,.any),(8,.any)],[(0,.any)]⟩),(.ex 0,⟨[(1,.any),(6,.d (.list (.int .i64))),(7,.own 116 (.st 11)),(8,.any)],[(0,.any)]⟩)])],[(7,4,8,⟨[(42,.any),(47,.d .bool)],[]⟩)],[]⟩ F
def g0v (F:Nat) (l:List U0) (p:Int):Option (E1×Bool):=.bind (α:=List Int) ( if p==(-1) then .bind (g0H F l (W ((l.length:Int)-1))) fun steps=>some steps else .bind (α:=(Unit ⊕ B5)×Int×Bool) ( .bind (h0N F l p) fun (at_,at_3,at_4)=>match at_ with
    | .inl _=>some ((.inl ()),at_3,at_4)
    | .inr at_2=>some ((.inr at_2),at_3,at_4)) fun (c,q,ok)=>match c with
   | .inl _=>if ok then none else some []
   | .inr c2=>if ok then .bind (k0q F c2 q) fun (climb,climb2)=>some climb2 else some []) fun s=>if (s.length:Int)==0 then some ((⟨0,0,[]⟩:E1),false) else some ((⟨(-1),0,s⟩:E1),true)
def f06 (F:Nat):Sm en.D:=⟨152,[.d (.list (.st 3)),.d (.int .i64)],.tup [.d (.st 11),.d .bool],[],fun x=>g0v F x.1 x.2⟩
def w0A (F:Nat):=R0 [c06 F,f02 F,e0C F] 152 ⟨[(5,[(.nrm,⟨[(7,.alt .nilp (.box 246 [.d (.st 15)])),(8,.d (.int .i64)),(9,.d .bool)],[]⟩)]),(7,[(.nrm,⟨[(6,.d (.list (.int .i64)))],[]⟩)])],[],[],[]⟩ F
def c0K (F:Nat) (x:P1):Option Bool:=.bind (i0G F x (x.B.length:Int)) fun right=>some right
def b0W (F:Nat):Sm en.D:=⟨190,[.d (.st 5)],.d .bool,[],fun x=>c0K F x⟩
def z0F (F:Nat):=R0 [e0y F] 190 U1 F
def f0H (F:Nat) (x:P1) (i:Int):Option Bool:=.bind (α:=Bool) ( if decide (i>=0) then some (decide (i<(x.B.length:Int))) else some false) fun x2=>some x2
def c0W (F:Nat):Sm en.D:=⟨191,[.d (.st 5),.d (.int .i64)],.d .bool,[],fun x=>f0H F x.1 x.2⟩
def q0U (F:Nat):=R0 [] 191 ⟨[],[],[(1,3,8,⟨[(7,.any),(13,.d .bool)],[]⟩)],[]⟩ F
def y0b (F:Nat) (x:P1) (of:List Int) (d:Int×Int):Option (T0 (Int×Int) Int):=match d with
 | (best,x2)=>if decide (x2<(of.length:Int)) then .bind (α:=Int) ( if y0 of x2 then .bind (f0H F x (gt of x2)) fun has=>.bind (α:=Bool) ( if has then .bind (α:=Bool) ( if decide (best<0) then some true else if y0 x.D (gt of x2) then if y0 (gt x.D (gt of x2)) best then some (decide ((gt (gt x.D (gt of x2)) best)>0)) else none else none) fun x3=>some x3 else some false) fun x4=>if x4 then some (gt of x2) else some best else none) fun best2=>some (.next (best2,W (x2+1))) else some (.done best)
def o0z (F:Nat) (x:P1) (of:List Int):Option Int:=.bind (c0K F x) fun right=>if !right then some (-1) else .bind (α:=Int) ( iter (y0b F x of) F ((-1),0)) fun best3=>some best3
def j0T (F:Nat):Sm en.D:=⟨175,[.d (.st 5),.d (.list (.int .i64))],.d (.int .i64),[],fun x=>o0z F x.1 x.2⟩
def u0R (F:Nat):=R0 [b0W F,c0W F] 175 ⟨[(9,[(.nrm,⟨[(5,.d (.int .i64))],[]⟩)])],[(5,⟨[(5,.d (.int .i64)),(14,.d (.int .i64))],[]⟩,[(.ex 0,⟨[(5,.d (.int .i64)),(14,.any)],[]⟩)])],[(7,4,17,⟨[(21,.any),(35,.d .bool)],[]⟩),(7,7,16,⟨[(24,.any),(34,.d .bool)],[]⟩)],[]⟩ F
def x0f (F:Nat) (l:List U0) (k:I1) (d:(List Int)×Int):Option (T0 ((List Int)×Int) (List Int)):=match d with
 | (can,x)=>if decide (x<(k.Places.length:Int)) then .bind (α:=List Int) ( if y0 k.Places x then .bind (g0v F l (gt k.Places x)) fun (end_,end_2)=>if end_2 then if C1 8 can [x] then some (can++[x]) else none else some can else none) fun can2=>some (.next (can2,W (x+1))) else some (.done can)
def j0N (F:Nat) (l:List U0) (k:I1):Option Int:=.bind (α:=List Int) ( iter (x0f F l k) F ([],0)) fun can3=>.bind (o0z F k.Rank can3) fun best=>some best
def f0Q (F:Nat):Sm en.D:=⟨151,[.d (.list (.st 3)),.d (.st 6)],.d (.int .i64),[],fun x=>j0N F x.1 x.2⟩
def x0t (F:Nat):=R0 [f06 F,j0T F] 151 ⟨[(8,[(.nrm,⟨[(5,.own 3 (.int .i64))],[(1,.any)]⟩)])],[(3,⟨[(5,.own 3 (.int .i64)),(13,.d (.int .i64))],[]⟩,[(.ex 0,⟨[(5,.own 3 (.int .i64)),(13,.any)],[]⟩)])],[],[]⟩ F
def K6 (F:Nat) (s:List Int):Option (List Int):=if C1 8 ([]:List Int) s then some s else none
def b0O (F:Nat):Sm en.D:=⟨99,[.d (.list (.int .i64))],.own 3 (.int .i64),[],fun x=>K6 F x⟩
def m0q (F:Nat):X1 en:=⟨[],fun _=>⟨[],[],[],[4]⟩,F,[]⟩
def G4 (now none_:Int) (out:List Int) (m:Z2):List Int:=if m.Group<1\/((out.length:Int)-1) / 2<m.Group then out else if m.Kind=1 then out.set (2*m.Group-1).toNat now else if m.Kind=2 then out.set (2*m.Group).toNat now else if m.Kind=3 then (out.set (2*m.Group-1).toNat none_).set (2*m.Group).toNat none_ else out
def b0A (F:Nat) (tags:List Int) (marks:List Z2) (now none_:Int):Option (List Int):=if C1 8 ([]:List Int) tags&&decide (marks.length<=1000000000) then some (marks.foldl (G4 now none_) tags) else none
def e0k (F:Nat):Sm en.D:=⟨153,[.d (.list (.int .i64)),.d (.list (.st 12)),.d (.int .i64),.d (.int .i64)],.own 3 (.int .i64),[],fun x=>b0A F x.1 x.2.1 x.2.2.1 x.2.2.2⟩
def r01 (F:Nat) (groups:List Int) (d:(List Z2)×Int):Option (T0 ((List Z2)×Int) (List Z2)):=match d with
 | (out,x4)=>if decide (x4<(groups.length:Int)) then if y0 groups x4 then if C1 16 out [(⟨3,gt groups x4⟩:Z2)] then some (.next (out++[(⟨3,gt groups x4⟩:Z2)],W (x4+1))) else none else none else some (.done out)
def l05 (F:Nat) (l:List U0) (s:Int):Option (List Z2):=.bind (α:=Bool) ( if decide (s<0) then some true else some (decide ((W (s.tdiv 2))>=(l.length:Int)))) fun x=>if x then some [] else if y0 l (W (s.tdiv 2)) then .bind (α:=Bool) ( if ((gt l (W (s.tdiv 2))).Kind)==7 then some ((s.tmod 2)==0) else some false) fun x2=>if x2 then some [(⟨1,(gt l (W (s.tdiv 2))).N⟩:Z2)] else if ((gt l (W (s.tdiv 2))).Kind)==7 then some [(⟨2,(gt l (W (s.tdiv 2))).N⟩:Z2)] else .bind (α:=Bool) ( if ((gt l (W (s.tdiv 2))).Kind)==8 then some ((s.tmod 2)==0) else some false) fun x3=>if x3 then .bind (g0O F l (W (s.tdiv 2))) fun groups=>.bind (α:=List Z2) ( iter (r01 F groups) F ([],0)) fun out2=>some out2 else some [] else none
def k0b (F:Nat):Sm en.D:=⟨180,[.d (.list (.st 3)),.d (.int .i64)],.own 184 (.st 12),[],fun x=>l05 F x.1 x.2⟩
def r0W (F:Nat):X1 en:=⟨[e01 F],fun g=>if Nat.beq g 180 then ⟨[],[(11,⟨[(6,.own 184 (.st 12)),(64,.d (.int .i64))],[]⟩,[(.ex 1,⟨[(6,.own 184 (.st 12)),(64,.any)],[]⟩)])],[(1,3,8,⟨[(11,.any),(17,.d .bool)],[]⟩),(4,4,7,⟨[(27,.any),(31,.d .bool)],[]⟩),(8,4,7,⟨[(54,.any),(58,.d .bool)],[]⟩)],[]⟩ else if Nat.beq g 196 then U1 else U1,F,[]⟩
def w0y (F:Nat) (l:List U0) (steps:List Int) (d:(List Z2)×Int):Option (T0 ((List Z2)×Int) (List Z2)):=match d with
 | (out,x)=>if decide (x<(steps.length:Int)) then if y0 steps x then .bind (l05 F l (gt steps x)) fun step=>if C1 16 out step then some (.next (out++step,W (x+1))) else none else none else some (.done out)
def f0M (F:Nat) (l:List U0) (steps:List Int):Option (List Z2):=.bind (R7 F l) fun right=>if !right then some [] else .bind (α:=List Z2) ( iter (w0y F l steps) F ([],0)) fun out2=>some out2
def f01 (F:Nat):Sm en.D:=⟨154,[.d (.list (.st 3)),.d (.list (.int .i64))],.own 184 (.st 12),[],fun x=>f0M F x.1 x.2⟩
def q03 (F:Nat):=R0 [A7 F,k0b F] 154 ⟨[],[(5,⟨[(5,.own 184 (.st 12)),(13,.d (.int .i64))],[]⟩,[(.ex 0,⟨[(5,.own 184 (.st 12)),(13,.any)],[]⟩)])],[],[]⟩ F
def c03 (F:Nat) (x:Int) (y:Int):Option (Int×Int):=let x2:=IntKind.u64.wrap ((R1 .u64 x 4294967295)*(R1 .u64 y 4294967295));
 let x3:=IntKind.u64.wrap ((shr .u64 x 32)*(R1 .u64 y 4294967295));
 let x4:=R1 .u64 (IntKind.u64.wrap (x3+(shr .u64 x2 32))) 4294967295;
 let x5:=shr .u64 (IntKind.u64.wrap (x3+(shr .u64 x2 32))) 32;
 let x6:=IntKind.u64.wrap ((R1 .u64 x 4294967295)*(shr .u64 y 32));
 let x7:=IntKind.u64.wrap ((shr .u64 x 32)*(shr .u64 y 32));
 let x8:=IntKind.u64.wrap ((IntKind.u64.wrap (x7+x5))+(shr .u64 (IntKind.u64.wrap (x4+x6)) 32));
 some (x8,IntKind.u64.wrap (x*y))
def b0T (F:Nat) (x:Int) (y:Int):Option (Int×Int):=.bind (c03 F x y) fun (mul64,mul642)=>some (mul64,mul642)
def m00 (F:Nat) (s:List Int) (n:Int):Option (List Int):=e0w s n
def o0M (F:Nat):Sm en.D:=⟨197,[.d (.list (.int .i64)),.d (.int .i64)],.own 3 (.int .i64),[],fun x=>m00 F x.1 x.2⟩
def m0n (F:Nat) (n_:Int) (none_:Int):Option (List Int):=if decide (n_<1) then some [] else .bind (m00 F [none_] n_) fun repeat_=>some repeat_
def k0o (F:Nat):Sm en.D:=⟨181,[.d (.int .i64),.d (.int .i64)],.own 3 (.int .i64),[],fun x=>m0n F x.1 x.2⟩
def u0c (F:Nat):=R0 [o0M F] 181 U1 F
def j0a (F:Nat) (l:List U0):Option (List Int):=.bind (c08 F l) fun tags=>.bind (m0n F tags (-2)) fun fresh=>if y0 fresh 0 then some (fresh.set (0:Int).toNat (-1)) else none
def f0c (F:Nat):Sm en.D:=⟨155,[.d (.list (.st 3))],.own 3 (.int .i64),[],fun x=>j0a F x⟩
def t0a (F:Nat):=R0 [c05 F,k0o F] 155 U1 F
def d0P (F:Nat) (l:List U0) (k:I1):Option (List Int):=.bind (k0i F l k) fun right=>if !right then some [] else .bind (j0N F l k) fun ahead=>if decide (ahead>=0) then if y0 k.Places ahead then .bind (g0v F l (gt k.Places ahead)) fun (end_,end_2)=>if y0 k.Maps ahead then .bind (f0M F l end_.Steps) fun of=>.bind (b0A F (gt k.Maps ahead) of (-1) (-2)) fun apply=>some apply else none else none else .bind (g0v F l (-1)) fun (end_3,end_4)=>.bind (α:=Bool) ( if end_4 then some (k.Flag==2) else some false) fun x=>.bind (α:=Bool) ( if x then some ((k.Places.length:Int)==0) else some false) fun x2=>if x2 then .bind (j0a F l) fun begun=>.bind (f0M F l end_3.Steps) fun of2=>.bind (b0A F begun of2 (-1) (-2)) fun apply2=>some apply2 else some []
def h02 (F:Nat):Sm en.D:=⟨119,[.d (.list (.st 3)),.d (.st 6)],.own 3 (.int .i64),[],fun x=>d0P F x.1 x.2⟩
def w09 (F:Nat):=R0 [f0K F,f0Q F,f06 F,e0k F,f01 F,f0c F] 119 ⟨[],[],[(8,2,5,⟨[(45,.any),(49,.d .bool)],[]⟩),(8,7,11,⟨[(50,.any),(55,.d .bool)],[]⟩)],[]⟩ F
def k0X (F:Nat) (s:List E1):Option (List E1):=if b07 (fun x:E1=>x.To) s then some (K5 (fun x:E1=>x.To) s) else none
def m0t (F:Nat):Sm en.D:=⟨217,[.own 116 (.st 11),.fn 218 []],.tup [],[(0,.own 116 (.st 11))],fun x=>k0X F x⟩
def y0S (F:Nat) (l:List E1) (d:Int×(List E1)):Option (T0 (Int×(List E1)) (List E1)):=match d with
 | (x,y)=>if decide (x<(l.length:Int)) then if y0 y x then if S5 8 (((gt y x).Steps).length:Int) then if y0 y x then let l2:=P2 (List.replicate (((gt y x).Steps).length:Int).toNat 0:List Int) ((gt y x).Steps);
     if y0 y x then some (.next (W (x+1),y.set x.toNat ({ gt y x with Steps:=l2 }))) else none else none else none else none else some (.done y)
def j0p (F:Nat) (l:List E1):Option (List E1):=.bind (α:=List E1) ( iter (y0S F l) F (0,l)) fun y2=>some y2
def g0u (F:Nat):Sm en.D:=⟨219,[.own 116 (.st 11)],.own 116 (.st 11),[],fun x=>j0p F x⟩
def v0X (F:Nat):=R0 [] 219 ⟨[],[(2,⟨[(7,.d (.int .i64))],[(0,.own 116 (.st 11))]⟩,[(.ex 0,⟨[(7,.any)],[(0,.own 116 (.st 11))]⟩)])],[],[]⟩ F
def o04 (F:Nat) (l:List U0) (p:Int):Option (List E1):=.bind (α:=(Unit ⊕ B5)×Int×Bool) ( .bind (h0N F l p) fun (at_,at_3,at_4)=>match at_ with
  | .inl _=>some ((.inl ()),at_3,at_4)
  | .inr at_2=>some ((.inr at_2),at_3,at_4)) fun (c,q,ok)=>match c with
 | .inl _=>if !ok then some [] else none
 | .inr c2=>if !ok then some [] else .bind (k0q F c2 q) fun (climb,climb2)=>.bind (k0X F climb) fun b0=>.bind (j0p F b0) fun own=>some own
def g0U (F:Nat):Sm en.D:=⟨198,[.d (.list (.st 3)),.d (.int .i64)],.own 116 (.st 11),[],fun x=>o04 F x.1 x.2⟩
def x0I (F:Nat):=R0 [f02 F,e0C F,m0t F,g0u F] 198 ⟨[(2,[(.nrm,⟨[(5,.alt .nilp (.box 246 [.d (.st 15)])),(6,.d (.int .i64)),(7,.d .bool)],[]⟩)])],[],[],[]⟩ F
def o0v (F:Nat) (l:List U0) (q:Int):Option (List E1):=.bind (α:=(Unit ⊕ B5)×Bool) ( .bind (i0z F l) fun (of,of3)=>match of with
  | .inl _=>some ((.inl ()),of3)
  | .inr of2=>some ((.inr of2),of3)) fun (c,ok)=>match c with
 | .inl _=>.bind (α:=Bool) ( if !ok then some true else some (decide (q<0))) fun x3=>.bind (α:=Bool) ( if x3 then some true else some (decide (q>=(l.length:Int)))) fun x4=>if x4 then some [] else none
 | .inr c2=>.bind (α:=Bool) ( if !ok then some true else some (decide (q<0))) fun x=>.bind (α:=Bool) ( if x then some true else some (decide (q>=(l.length:Int)))) fun x2=>if x2 then some [] else .bind (F9 F F c2 q [] []) fun into=>.bind (j0p F into) fun own=>some own
def j0n (F:Nat):Sm en.D:=⟨199,[.d (.list (.st 3)),.d (.int .i64)],.own 116 (.st 11),[],fun x=>o0v F x.1 x.2⟩
def r0q (F:Nat):=R0 [f08 F,d0a F F,g0u F] 199 ⟨[(2,[(.nrm,⟨[(5,.alt .nilp (.box 246 [.d (.st 15)])),(6,.d .bool)],[]⟩)])],[],[(2,3,5,⟨[(14,.any),(17,.d .bool)],[]⟩),(2,7,11,⟨[(18,.any),(23,.d .bool)],[]⟩)],[]⟩ F
def y0X (F:Nat) (n_:Int) (x:Int) (d:Int×(List (List Int))):Option (T0 (Int×(List (List Int))) (List (List Int))):=match d with
 | (x2,y)=>if decide (x2<x) then if S5 8 n_ then if y0 y x2 then let t:=y.set x2.toNat (List.replicate n_.toNat 0:List Int);
    some (.next (W (x2+1),t)) else none else none else some (.done y)
def c0x (F:Nat) (n_:Int):Option (List (List Int)):=if S5 24 n_ then let x:=((List.replicate n_.toNat []:List (List Int)).length:Int);
  .bind (α:=List (List Int)) ( iter (y0X F n_ x) F (0,(List.replicate n_.toNat []:List (List Int)))) fun y2=>some y2 else none
def g0g (F:Nat):Sm en.D:=⟨203,[.d (.int .i64)],.M0 22 [3] (.list (.int .i64)),[],fun x=>c0x F x⟩
def s0L (F:Nat):=R0 [] 203 ⟨[],[(3,⟨[(9,.d (.int .i64))],[(0,.M0 22 [3] (.list (.int .i64)))]⟩,[(.ex 0,⟨[(9,.any)],[(0,.M0 22 [3] (.list (.int .i64)))]⟩)])],[],[6]⟩ F
def q0h (F:Nat) (x:P1) (d:Int×(List (List Int))×(List (List Int))):Option (T0 (Int×(List (List Int))×(List (List Int))) ((List (List Int))×(List (List Int)))):=match d with
 | (x2,y,y2)=>if decide (x2<(x.B.length:Int)) then if y0 y x2 then if y0 x.B x2 then if y0 y2 x2 then if y0 x.D x2 then let t:=y2.set x2.toNat (P2 (gt y2 x2) (gt x.D x2));
      if y0 t x2 then if y0 t (x.B.length:Int) then if y0 (gt t x2) (x.B.length:Int) then let t2:=t.set x2.toNat ((gt t x2).set (x.B.length:Int).toNat 1);
         if y0 (gt t2 (x.B.length:Int)) x2 then let t3:=t2.set (x.B.length:Int).toNat ((gt t2 (x.B.length:Int)).set x2.toNat (-1));
          some (.next (W (x2+1),y.set x2.toNat (P2 (gt y x2) (gt x.B x2)),t3)) else none else none else none else none else none else none else none else none else some (.done (y,y2))
def m0W (F:Nat) (x:P1):Option P1:=.bind (c0K F x) fun right=>if !right then some (⟨[],[]⟩:P1) else .bind (c0x F (W ((x.B.length:Int)+1))) fun table=>.bind (c0x F (W ((x.B.length:Int)+1))) fun table2=>.bind (α:=(List (List Int))×(List (List Int))) ( iter (q0h F x) F (0,table,table2)) fun (y3,y4)=>some (⟨y3,y4⟩:P1)
def j0U (F:Nat):Sm en.D:=⟨200,[.d (.st 5)],.d (.st 5),[],fun x=>m0W F x⟩
def x0l (F:Nat):=R0 [b0W F,g0g F] 200 ⟨[],[(6,⟨[(21,.d (.int .i64))],[(2,.M0 22 [3] (.list (.int .i64))),(3,.M0 22 [3] (.list (.int .i64)))]⟩,[(.ex 0,⟨[(21,.any)],[(2,.M0 22 [3] (.list (.int .i64))),(3,.M0 22 [3] (.list (.int .i64)))]⟩)])],[],[]⟩ F
def x0q (F:Nat) (l:List U0) (k:I1) (d:(List S4)×Int):Option (T0 ((List S4)×Int) (List S4)):=match d with
 | (out,x)=>if decide (x<(k.Places.length:Int)) then if y0 k.Places x then if y0 k.Maps x then .bind (o04 F l (gt k.Places x)) fun from_=>if C1 48 out [(⟨gt k.Maps x,from_⟩:S4)] then some (.next (out++[(⟨gt k.Maps x,from_⟩:S4)],W (x+1))) else none else none else none else some (.done out)
def o0c (F:Nat) (l:List U0) (k:I1):Option ((List S4)×P1):=.bind (α:=List S4) ( iter (x0q F l k) F ([],0)) fun out2=>if k.Flag==0 then some (out2,k.Rank) else .bind (j0a F l) fun begun=>.bind (o0v F l (W ((l.length:Int)-1))) fun first=>if C1 48 out2 [(⟨begun,first⟩:S4)] then .bind (m0W F k.Rank) fun with_=>some (out2++[(⟨begun,first⟩:S4)],with_) else none
def g0M (F:Nat):Sm en.D:=⟨182,[.d (.list (.st 3)),.d (.st 6)],.tup [.own 239 (.st 16),.d (.st 5)],[],fun x=>o0c F x.1 x.2⟩
def p0E (F:Nat):=R0 [f0c F,g0U F,j0n F,j0U F] 182 ⟨[],[(3,⟨[(6,.own 239 (.st 16)),(12,.d (.int .i64))],[]⟩,[(.ex 0,⟨[(6,.own 239 (.st 16)),(12,.any)],[]⟩)])],[],[]⟩ F
def w0p (F:Nat) (all:List S4) (p:Int) (x:Int) (d:(List Int)×(List E1)×Int):Option (T0 ((List Int)×(List E1)×Int) ((List Int)×(List E1))):=match d with
 | (from_2,hops2,x2)=>let x3:=decide (x2<(((gt all x).ways).length:Int));
 if x3 then .bind (α:=(List Int)×(List E1)) ( if y0 ((gt all x).ways) x2 then if ((gt ((gt all x).ways) x2).To)==p then if C1 8 from_2 [x] then if C1 40 hops2 [gt ((gt all x).ways) x2] then some (from_2++[x],hops2++[gt ((gt all x).ways) x2]) else none else none else some (from_2,hops2) else none) fun (from_3,hops3)=>some (.next (from_3,hops3,W (x2+1))) else some (.done (from_2,hops2))
def s0n (F:Nat) (all:List S4) (p:Int) (d:(List Int)×(List E1)×Int):Option (T0 ((List Int)×(List E1)×Int) ((List Int)×(List E1))):=match d with
 | (from_,hops,x)=>if decide (x<(all.length:Int)) then if y0 all x then .bind (α:=(List Int)×(List E1)) ( iter (w0p F all p x) F (from_,hops,0)) fun (from_4,hops4)=>some (.next (from_4,hops4,W (x+1))) else none else some (.done (from_,hops))
def o0W (F:Nat) (all:List S4) (p:Int):Option ((List Int)×(List E1)):=.bind (α:=(List Int)×(List E1)) ( iter (s0n F all p) F ([],[],0)) fun (from_5,hops5)=>some (from_5,hops5)
def i0d (F:Nat):Sm en.D:=⟨183,[.d (.list (.st 16)),.d (.int .i64)],.tup [.own 3 (.int .i64),.own 116 (.st 11)],[],fun x=>o0W F x.1 x.2⟩
def s0V (F:Nat):=R0 [] 183 ⟨[(12,[(.nrm,⟨[(6,.own 3 (.int .i64)),(7,.own 116 (.st 11))],[(3,.any),(4,.any)]⟩)])],[(4,⟨[(6,.own 3 (.int .i64)),(7,.own 116 (.st 11)),(14,.d (.int .i64))],[]⟩,[(.ex 0,⟨[(6,.own 3 (.int .i64)),(7,.own 116 (.st 11)),(14,.any)],[]⟩)]),(7,⟨[(6,.own 3 (.int .i64)),(7,.own 116 (.st 11)),(22,.d (.int .i64))],[(0,.any),(1,.any),(2,.any)]⟩,[(.ex 2,⟨[(6,.own 3 (.int .i64)),(7,.own 116 (.st 11)),(22,.any)],[(0,.any),(1,.any),(2,.any)]⟩)])],[],[]⟩ F
def d0A (F:Nat) (g:k7) (i:Int) (k:Int):Option Int:=if y0 g.from_ i then if y0 g.Rank.B (gt g.from_ i) then if y0 g.from_ k then if y0 (gt g.Rank.B (gt g.from_ i)) (gt g.from_ k) then let x:=gt (gt g.Rank.B (gt g.from_ i)) (gt g.from_ k);
     if y0 g.hops i then let x2:=if (W (((gt g.hops i).Turn)+1))<x then W (((gt g.hops i).Turn)+1) else x;
      some x2 else none else none else none else none else none
def e02 (F:Nat):Sm en.D:=⟨205,[.d (.st 20),.d (.int .i64),.d (.int .i64)],.d (.int .i64),[],fun x=>d0A F x.1 x.2.1 x.2.2⟩
def q0V (F:Nat):=R0 [] 205 U1 F
def j0s (F:Nat) (g:k7) (i:Int) (k:Int):Option Int:=.bind (d0A F g i k) fun low=>.bind (d0A F g k i) fun low2=>if decide (low>low2) then some 1 else if decide (low<low2) then some (-1) else if y0 g.from_ i then if y0 g.Rank.D (gt g.from_ i) then if y0 g.from_ k then if y0 (gt g.Rank.D (gt g.from_ i)) (gt g.from_ k) then let x:=gt (gt g.Rank.D (gt g.from_ i)) (gt g.from_ k);
       some x else none else none else none else none
def f00 (F:Nat):Sm en.D:=⟨201,[.d (.st 20),.d (.int .i64),.d (.int .i64)],.d (.int .i64),[],fun x=>j0s F x.1 x.2.1 x.2.2⟩
def p07 (F:Nat):=R0 [e02 F] 201 U1 F
def s0o (F:Nat) (x:P1) (from_:List Int) (hops:List E1) (x2:Int) (d:Int×Int):Option (T0 (Int×Int) Int):=match d with
 | (best,x3)=>if decide (x3<x2) then .bind (α:=Int) ( if y0 from_ x3 then .bind (f0H F x (gt from_ x3)) fun has=>.bind (α:=Bool) ( if has then .bind (α:=Bool) ( if decide (best<0) then some true else .bind (j0s F (⟨x,from_,hops⟩:k7) x3 best) fun ahead=>some (decide (ahead>0))) fun x4=>some x4 else some false) fun x5=>if x5 then some x3 else some best else none) fun best2=>some (.next (best2,W (x3+1))) else some (.done best)
def l0s (F:Nat) (x:P1) (from_:List Int) (hops:List E1):Option Int:=.bind (c0K F x) fun right=>if !right then some (-1) else let x2:=if (hops.length:Int)<(from_.length:Int) then (hops.length:Int) else (from_.length:Int);
  .bind (α:=Int) ( iter (s0o F x from_ hops x2) F ((-1),0)) fun best3=>some best3
def j0t (F:Nat):Sm en.D:=⟨184,[.d (.st 5),.d (.list (.int .i64)),.d (.list (.st 11))],.d (.int .i64),[],fun x=>l0s F x.1 x.2.1 x.2.2⟩
def w0u (F:Nat):=R0 [b0W F,c0W F,f00 F] 184 ⟨[(10,[(.nrm,⟨[(7,.d (.int .i64))],[]⟩)])],[(6,⟨[(7,.d (.int .i64)),(23,.d (.int .i64))],[]⟩,[(.ex 0,⟨[(7,.d (.int .i64)),(23,.any)],[]⟩)])],[(8,7,16,⟨[(32,.any),(42,.d .bool)],[]⟩),(8,10,15,⟨[(35,.any),(41,.d .bool)],[]⟩)],[]⟩ F
def J9 (up low:List Int) (b:Int) (q:Int):Option (T0 Int Int):=if decide (0<=q) then if y0 low q&&(decide (gt low q<=b)&&decide (b<=q)) then some (.done q) else if y0 low q&&y0 up q then some (.next (gt up q)) else none else some (.done (-1))
def g0A (F:Nat) (l:List U0) (a b:Int):Option Int:=.bind (d0T F l) fun up=>if decide (a<0)||(decide (b<0)||(decide (a>=(up.length:Int))||decide (b>=(up.length:Int)))) then some (-1) else .bind (b0e F l) fun low=>iter (J9 up low b) F a
def k0t (F:Nat):Sm en.D:=⟨221,[.d (.list (.st 3)),.d (.int .i64),.d (.int .i64)],.d (.int .i64),[],fun x=>g0A F x.1 x.2.1 x.2.2⟩
def g0Z (F:Nat):Nat->(List U0)->E1->E1->Option (Int×Int×Int)
 | 0,_,_,_=>none
 | n+1,l,x,y=>.bind (a0I F l) fun leaves=>.bind (α:=Bool) ( if decide (x.To>=0) then some (decide (x.To<(leaves.length:Int))) else some false) fun x2=>.bind (α:=Bool) ( if !x2 then some true else .bind (α:=Bool) ( if decide (y.To>=0) then some (decide (y.To<(leaves.length:Int))) else some false) fun x3=>some (!x3)) fun x4=>.bind (α:=Bool) ( if x4 then some true else some (x.To==y.To)) fun x5=>if x5 then some (0,0,0) else if decide (x.Turn>y.Turn) then some (W (x.Turn+1),W (y.Turn+1),1) else if decide (x.Turn<y.Turn) then some (W (x.Turn+1),W (y.Turn+1),(-1)) else if decide (x.To>y.To) then .bind (g0Z F n l y x) fun (fork,fork2,fork3)=>some (fork2,fork,(-1)) else if y0 leaves x.To then if y0 leaves y.To then .bind (g0A F l (gt leaves x.To) (gt leaves y.To)) fun join=>.bind (i0V F l) fun deep=>if y0 deep join then if y0 l join then if ((gt l join).Kind)==3 then some (W ((W ((gt deep join)+1))+1),W ((gt deep join)+1),1) else some (W ((gt deep join)+1),W ((gt deep join)+1),1) else none else none else none else none
def f04 (F n:Nat):Sm en.D:=⟨204,[.d (.list (.st 3)),.d (.st 11),.d (.st 11)],.tup [.d (.int .i64),.d (.int .i64),.d (.int .i64)],[],fun x=>g0Z F n x.1 x.2.1 x.2.2⟩
def u0y (F n:Nat):X1 en:=⟨[b0f F,f04 F n,f0j F,k0t F],fun g=>if Nat.beq g 204 then ⟨[],[],[(3,5,9,⟨[(24,.any),(29,.d .bool)],[]⟩),(3,11,16,⟨[(30,.any),(36,.d .bool)],[]⟩)],[]⟩ else if Nat.beq g 220 then ⟨[],[],[(1,4,9,⟨[(7,.any),(13,.d .bool)],[]⟩)],[]⟩ else U1,F,[]⟩
def w0f (F:Nat) (x:P1) (from_:List Int) (d:Int):Option (T0 Int (Int ⊕ Unit)):=match d with
 | x3=>if decide (x3<(from_.length:Int)) then if y0 from_ x3 then .bind (f0H F x (gt from_ x3)) fun has=>if !has then some (.done (.inl x3)) else some (.next (W (x3+1))) else none else some (.done (.inr ()))
def s0s (F:Nat) (l:List U0) (x:P1) (from_:List Int) (hops:List E1) (x4:Int) (d:Int×(List (List Int))×(List (List Int))):Option (T0 (Int×(List (List Int))×(List (List Int))) ((List (List Int))×(List (List Int)))):=match d with
 | (x5,y3,y4)=>if decide (x5<x4) then .bind (α:=(List (List Int))×(List (List Int))) ( if y0 from_ x4 then if y0 from_ x5 then if (gt from_ x4)==(gt from_ x5) then if y0 y3 x4 then if y0 y3 x5 then if y0 y4 x4 then if y0 hops x4 then if y0 hops x5 then .bind (g0Z F F l (gt hops x4) (gt hops x5)) fun (fork,fork2,fork3)=>if y0 (gt y3 x4) x5 then let t:=y3.set x4.toNat ((gt y3 x4).set x5.toNat fork);
            if y0 (gt t x5) x4 then if y0 (gt y4 x4) x5 then let t2:=y4.set x4.toNat ((gt y4 x4).set x5.toNat fork3);
              some (t.set x5.toNat ((gt t x5).set x4.toNat fork2),t2) else none else none else none else none else none else none else none else none else if y0 y3 x4 then if y0 y3 x5 then if y0 y4 x4 then .bind (d0A F (⟨x,from_,hops⟩:k7) x4 x5) fun low=>.bind (d0A F (⟨x,from_,hops⟩:k7) x5 x4) fun low2=>.bind (j0s F (⟨x,from_,hops⟩:k7) x4 x5) fun ahead=>if y0 (gt y3 x4) x5 then if y0 (gt (y3.set x4.toNat ((gt y3 x4).set x5.toNat low)) x5) x4 then let t3:=(y3.set x4.toNat ((gt y3 x4).set x5.toNat low)).set x5.toNat ((gt (y3.set x4.toNat ((gt y3 x4).set x5.toNat low)) x5).set x4.toNat low2);
           if y0 (gt y4 x4) x5 then let t4:=y4.set x4.toNat ((gt y4 x4).set x5.toNat ahead);
            some (t3,t4) else none else none else none else none else none else none else none else none) fun (y5,y6)=>if y0 y6 x5 then if y0 y6 x4 then if y0 (gt y6 x4) x5 then if y0 (gt y6 x5) x4 then let t5:=y6.set x5.toNat ((gt y6 x5).set x4.toNat (W (0-(gt (gt y6 x4) x5))));
      some (.next (W (x5+1),y5,t5)) else none else none else none else none else some (.done (y3,y4))
def x04 (F:Nat) (l:List U0) (x:P1) (from_:List Int) (hops:List E1) (d:Int×(List (List Int))×(List (List Int))):Option (T0 (Int×(List (List Int))×(List (List Int))) ((List (List Int))×(List (List Int)))):=match d with
 | (x4,y,y2)=>if decide (x4<(from_.length:Int)) then .bind (α:=(List (List Int))×(List (List Int))) ( iter (s0s F l x from_ hops x4) F (0,y,y2)) fun (y7,y8)=>some (.next (W (x4+1),y7,y8)) else some (.done (y,y2))
def m0B (F:Nat) (l:List U0) (x:P1) (from_:List Int) (hops:List E1):Option P1:=.bind (c0K F x) fun right=>.bind (α:=Bool) ( if !right then some true else some ((from_.length:Int) != (hops.length:Int))) fun x2=>.bind (α:=Bool) ( if x2 then some true else .bind (α:=Int ⊕ Unit) ( iter (w0f F x from_) F 0) fun z_=>match z_ with
   | .inl x4=>some (decide (x4>=0))
   | .inr _=>some (decide ((-1)>=0))) fun x3=>if x3 then some (⟨[],[]⟩:P1) else .bind (c0x F (from_.length:Int)) fun table=>.bind (c0x F (from_.length:Int)) fun table2=>.bind (α:=(List (List Int))×(List (List Int))) ( iter (x04 F l x from_ hops) F (0,table,table2)) fun (y9,y10)=>some (⟨y9,y10⟩:P1)
def i0p (F:Nat):Sm en.D:=⟨185,[.d (.list (.st 3)),.d (.st 5),.d (.list (.int .i64)),.d (.list (.st 11))],.d (.st 5),[],fun x=>m0B F x.1 x.2.1 x.2.2.1 x.2.2.2⟩
def y0T (F:Nat):X1 en:=⟨[b0W F,c0W F,f00 F,g0g F,f04 F F,e02 F],fun g=>if Nat.beq g 185 then ⟨[(14,[(.nrm,⟨[],[(3,.M0 22 [3] (.list (.int .i64))),(4,.M0 22 [3] (.list (.int .i64)))]⟩)])],[(6,⟨[(42,.d (.int .i64))],[(3,.M0 22 [3] (.list (.int .i64))),(4,.M0 22 [3] (.list (.int .i64)))]⟩,[(.ex 0,⟨[(42,.any)],[(3,.M0 22 [3] (.list (.int .i64))),(4,.M0 22 [3] (.list (.int .i64)))]⟩)]),(9,⟨[(46,.d (.int .i64))],[(3,.M0 22 [3] (.list (.int .i64))),(4,.M0 22 [3] (.list (.int .i64)))]⟩,[(.ex 2,⟨[(46,.any)],[(3,.M0 22 [3] (.list (.int .i64))),(4,.M0 22 [3] (.list (.int .i64)))]⟩)])],[(1,4,9,⟨[(16,.any),(22,.d .bool)],[]⟩),(1,11,14,⟨[(23,.any),(27,.d .bool)],[]⟩)],[]⟩ else if Nat.beq g 105 then U1 else if Nat.beq g 143 then ⟨[],[(2,⟨[(8,.d (.int .i64))],[]⟩,[(.ret,⟨[(4,.d (.int .i64)),(8,.any)],[]⟩),(.ex 0,⟨[(8,.any)],[]⟩)])],[],[]⟩ else if Nat.beq g 202 then U1 else U1,F,[]⟩
def y0K (F:Nat) (l:List Int) (of:List Int) (d:(List Int)×Int):Option (T0 ((List Int)×Int) (List Int)):=match d with
 | (out,x)=>if decide (x<(of.length:Int)) then if y0 of x then if y0 l (gt of x) then if C1 8 out [gt l (gt of x)] then some (.next (out++[gt l (gt of x)],W (x+1))) else none else none else none else some (.done out)
def j0b (F:Nat) (l:List Int) (of:List Int):Option (List Int):=.bind (α:=List Int) ( iter (y0K F l of) F ([],0)) fun out2=>some out2
def g0w (F:Nat):Sm en.D:=⟨206,[.d (.list (.int .i64)),.d (.list (.int .i64))],.own 3 (.int .i64),[],fun x=>j0b F x.1 x.2⟩
def v0S (F:Nat):=R0 [] 206 ⟨[],[(3,⟨[(5,.own 3 (.int .i64)),(10,.d (.int .i64))],[]⟩,[(.ex 0,⟨[(5,.own 3 (.int .i64)),(10,.any)],[]⟩)])],[],[]⟩ F
def e0A (F:Nat) (l:List (List Int)) (of:List Int):Option (List (List Int)):=if a02 (fun i=>i) of&&(of.all (fun i=>y0 l i)&&C1 24 ([]:List (List Int)) (of.map fun i=>gt l i)) then some (of.map fun i=>gt l i) else none
def i0K (F:Nat):Sm en.D:=⟨207,[.M0 22 [3] (.list (.int .i64)),.d (.list (.int .i64))],.M0 22 [3] (.list (.int .i64)),[],fun x=>e0A F x.1 x.2⟩
def w0t (F:Nat) (l:List (List Int)) (of:List Int) (d:(List (List Int))×Int):Option (T0 ((List (List Int))×Int) (List (List Int))):=match d with
 | (out,x)=>if decide (x<(of.length:Int)) then if y0 of x then if y0 l (gt of x) then if C1 24 out [gt l (gt of x)] then some (.next (out++[gt l (gt of x)],W (x+1))) else none else none else none else some (.done out)
def l07 (F:Nat) (l:List (List Int)) (of:List Int):Option (List (List Int)):=.bind (α:=List (List Int)) ( iter (w0t F l of) F ([],0)) fun out2=>some out2
def i0b (F:Nat):Sm en.D:=⟨207,[.d (.list (.list (.int .i64))),.d (.list (.int .i64))],.own 22 (.list (.int .i64)),[],fun x=>l07 F x.1 x.2⟩
def y0j (F:Nat):=R0 [] 207 ⟨[],[(3,⟨[(5,.own 22 (.list (.int .i64))),(10,.d (.int .i64))],[]⟩,[(.ex 0,⟨[(5,.own 22 (.list (.int .i64))),(10,.any)],[]⟩)])],[],[]⟩ F
def s0t (F:Nat) (of:List Int) (some_:List (List Int)) (d:(List (List Int))×Int):Option (T0 ((List (List Int))×Int) (List (List Int))):=match d with
 | (out,x)=>if decide (x<(some_.length:Int)) then if y0 some_ x then .bind (j0b F (gt some_ x) of) fun somei=>if C1 24 out [somei] then some (.next (out++[somei],W (x+1))) else none else none else some (.done out)
def h0c (F:Nat) (l:List (List Int)) (of:List Int):Option (List (List Int)):=.bind (l07 F l of) fun some_=>.bind (α:=List (List Int)) ( iter (s0t F of some_) F ([],0)) fun out2=>some out2
def j0j (F:Nat):Sm en.D:=⟨208,[.d (.list (.list (.int .i64))),.d (.list (.int .i64))],.own 22 (.list (.int .i64)),[],fun x=>h0c F x.1 x.2⟩
def p0T (F:Nat):=R0 [g0w F,i0b F] 208 ⟨[],[(3,⟨[(5,.own 22 (.list (.int .i64))),(12,.d (.int .i64))],[]⟩,[(.ex 0,⟨[(5,.own 22 (.list (.int .i64))),(12,.any)],[]⟩)])],[],[]⟩ F
def v0D (F:Nat) (k2:List Int) (k4:P1) (ahead:Int) (d:(List Int)×Int):Option (T0 ((List Int)×Int) (List Int)):=match d with
 | (stay,x)=>if decide (x<(k2.length:Int)) then .bind (α:=List Int) ( .bind (α:=Bool) ( if x==ahead then some true else if y0 k4.B x then if y0 (gt k4.B x) ahead then some (decide ((gt (gt k4.B x) ahead)>0)) else none else none) fun x2=>.bind (α:=Bool) ( if x2 then some true else if y0 k4.D ahead then if y0 (gt k4.D ahead) x then some (decide ((gt (gt k4.D ahead) x)<0)) else none else none) fun x3=>if x3 then if C1 8 stay [x] then some (stay++[x]) else none else some stay) fun stay2=>some (.next (stay2,W (x+1))) else some (.done stay)
def l0D (F:Nat):(List U0)->(Int×(List Int)×(List (List Int))×P1)->Option (Int×(List Int)×(List (List Int))×P1)
 | l,(k,k2,k3,k4)=>.bind (j0N F l (⟨k,k2,k3,k4⟩:I1)) fun ahead=>if decide (ahead<0) then some (k,k2,k3,k4) else .bind (α:=List Int) ( iter (v0D F k2 k4 ahead) F ([],0)) fun stay3=>.bind (j0b F k2 stay3) fun somei=>.bind (e0A F k3 stay3) fun some_=>.bind (h0c F k4.B stay3) fun square=>.bind (h0c F k4.D stay3) fun square2=>some (0,somei,some_,(⟨square,square2⟩:P1))
def g0Q (F:Nat):Sm en.D:=⟨186,[.d (.list (.st 3)),.agg [.d (.int .i64),.d (.list (.int .i64)),.M0 22 [3] (.list (.int .i64)),.d (.st 5)]],.agg [.d (.int .i64),.d (.list (.int .i64)),.M0 22 [3] (.list (.int .i64)),.d (.st 5)],[],fun x=>l0D F x.1 x.2⟩
def q09 (F:Nat):=R0 [f0Q F,g0w F,i0K F,j0j F] 186 ⟨[(10,[(.nrm,⟨[(6,.own 3 (.int .i64))],[(3,.any)]⟩)])],[(6,⟨[(6,.own 3 (.int .i64)),(17,.d (.int .i64))],[]⟩,[(.ex 0,⟨[(6,.own 3 (.int .i64)),(17,.any)],[]⟩)])],[(8,4,14,⟨[(23,.any),(34,.d .bool)],[]⟩),(8,16,26,⟨[(35,.any),(46,.d .bool)],[]⟩)],[]⟩ F
def q0k (F:Nat) (x:Int) (y:List (List Int)) (d:(List Int)×Int×(List (List Int))×(List (Int×Int))):Option (T0 ((List Int)×Int×(List (List Int))×(List (Int×Int))) ((List Int)×(List (List Int))×(List (Int×Int)))):=match d with
 | (src2,x2,y3,y4)=>if decide (x2<((gt y x).length:Int)) then .bind (α:=(List Int)×(List (List Int))×(List (Int×Int))) ( if y0 (gt y3 x) x2 then if (gt (gt y3 x) x2)==(-2) then some (src2,y3,y4) else .bind (α:=(List Int)×Int×(List (Int×Int))) ( if !(X6 y4 (gt (gt y3 x) x2)) then if C1 8 src2 [gt (gt y3 x) x2] then some (src2++[gt (gt y3 x) x2],(src2.length:Int),Z8 y4 (gt (gt y3 x) x2) (src2.length:Int)) else none else some (src2,M5 y4 (gt (gt y3 x) x2),y4)) fun (src3,n_,y5)=>if y0 (gt y3 x) x2 then some (src3,y3.set x.toNat ((gt y3 x).set x2.toNat n_),y5) else none else none) fun (src4,y6,y7)=>some (.next (src4,W (x2+1),y6,y7)) else some (.done (src2,y3,y4))
def u0z (F:Nat) (k3:List (List Int)) (d:(List Int)×Int×(List (List Int))×(List (Int×Int))):Option (T0 ((List Int)×Int×(List (List Int))×(List (Int×Int))) ((List Int)×(List (List Int)))):=match d with
 | (src,x,y,y2)=>if decide (x<(k3.length:Int)) then if y0 y x then .bind (α:=(List Int)×(List (List Int))×(List (Int×Int))) ( iter (q0k F x y) F (src,0,y,y2)) fun (src5,y8,y9)=>some (.next (src5,W (x+1),y8,y9)) else none else some (.done (src,y))
def l0I (F:Nat):(Int×(List Int)×(List (List Int))×P1)->Option (I1×(List Int))
 | (k,k2,k3,k4)=>.bind (α:=(List Int)×(List (List Int))) ( iter (u0z F k3) F ([],0,k3,([]:List (Int×Int)))) fun (src6,y10)=>some ((⟨k,k2,y10,k4⟩:I1),src6)
def h0w (F:Nat):Sm en.D:=⟨187,[.agg [.d (.int .i64),.d (.list (.int .i64)),.M0 22 [3] (.list (.int .i64)),.d (.st 5)]],.tup [.d (.st 6),.own 3 (.int .i64)],[],fun x=>l0I F x⟩
def r0a (F:Nat):=R0 [] 187 ⟨[(15,[(.nrm,⟨[(5,.own 3 (.int .i64)),(10,.d (.int .i64))],[(3,.map),(8,.any)]⟩)]),(16,[(.nrm,⟨[(5,.own 3 (.int .i64))],[(0,.M0 22 [3] (.list (.int .i64))),(3,.map),(8,.any)]⟩)])],[(4,⟨[(5,.own 3 (.int .i64)),(16,.d (.int .i64))],[(0,.M0 22 [3] (.list (.int .i64))),(3,.map)]⟩,[(.ex 0,⟨[(5,.own 3 (.int .i64)),(16,.any)],[(0,.M0 22 [3] (.list (.int .i64))),(3,.any)]⟩)]),(7,⟨[(5,.own 3 (.int .i64)),(22,.d (.int .i64))],[(0,.M0 22 [3] (.list (.int .i64))),(3,.map),(4,.any),(5,.any)]⟩,[(.ex 2,⟨[(5,.own 3 (.int .i64)),(22,.any)],[(0,.M0 22 [3] (.list (.int .i64))),(3,.map),(4,.any),(5,.any)]⟩)])],[],[]⟩ F
def s0U (F:Nat) (l:List U0) (b:Int) (goers2:P1) (leaves:List Int) (d:((List S4)×(List Int)×(List E1)×Int×(Int×(List Int)×(List (List Int))×P1))):Option (T0 ((List S4)×(List Int)×(List E1)×Int×(Int×(List Int)×(List (List Int))×P1)) ((List Int)×(List E1)×(Int×(List Int)×(List (List Int))×P1))):=match d with
 | (all,by_,hops,x2,(Flag2,Places2,Maps2,Rank2))=>if decide (x2<(leaves.length:Int)) then .bind (α:=((List Int)×(List E1)×(Int×(List Int)×(List (List Int))×P1))) ( if y0 leaves x2 then if y0 l (gt leaves x2) then .bind (d0G F ((gt l (gt leaves x2)).Set) b) fun has=>if !has then some (by_,hops,(Flag2,Places2,Maps2,Rank2)) else .bind (o0W F all x2) fun (comers,comers2)=>.bind (l0s F goers2 comers comers2) fun pick=>if decide (pick<0) then some (by_,hops,(Flag2,Places2,Maps2,Rank2)) else if C1 8 Places2 [x2] then if y0 comers pick then if y0 all (gt comers pick) then if y0 comers2 pick then .bind (f0M F l ((gt comers2 pick).Steps)) fun of=>.bind (b0A F ((gt all (gt comers pick)).tags) of (-1) (-2)) fun apply=>if C1 24 Maps2 [apply] then if y0 comers pick then if C1 8 by_ [gt comers pick] then if y0 comers2 pick then if C1 40 hops [gt comers2 pick] then some (by_++[gt comers pick],hops++[gt comers2 pick],(Flag2,Places2++[x2],Maps2++[apply],Rank2)) else none else none else none else none else none else none else none else none else none else none else none) fun (by_2,hops2,(Flag3,Places3,Maps3,Rank3))=>some (.next (all,by_2,hops2,W (x2+1),(Flag3,Places3,Maps3,Rank3))) else some (.done (by_,hops,(Flag2,Places2,Maps2,Rank2)))
def g0p (F:Nat) (l:List U0) (mode:Int) (k:I1) (b:Int):Option (I1×(List Int)):=.bind (g0J F mode) fun moderi=>.bind (α:=Bool) ( if !moderi then some true else .bind (k0i F l k) fun right=>some (!right)) fun x=>if x then some ((⟨0,[],[],(⟨[],[]⟩:P1)⟩:I1),[]) else .bind (o0c F l k) fun (goers,goers2)=>.bind (α:=Int×(List Int)×(List (List Int))×P1) ( if k.Flag==1 then some (1,[],[],(⟨[],[]⟩:P1)) else some (0,[],[],(⟨[],[]⟩:P1))) fun (Flag,Places,Maps,Rank)=>.bind (a0I F l) fun leaves=>.bind (α:=((List Int)×(List E1)×(Int×(List Int)×(List (List Int))×P1))) ( iter (s0U F l b goers2 leaves) F (goers,[],[],0,(Flag,Places,Maps,Rank))) fun (by_3,hops3,(Flag4,Places4,Maps4,Rank4))=>.bind (m0B F l goers2 by_3 hops3) fun next_=>.bind (α:=Int×(List Int)×(List (List Int))×P1) ( if mode==0 then .bind (l0D F l (Flag4,Places4,Maps4,next_)) fun (cut,cut2,cut3,cut4)=>some (cut,cut2,cut3,cut4) else some (Flag4,Places4,Maps4,next_)) fun (Flag5,Places5,Maps5,Rank5)=>.bind (l0I F (Flag5,Places5,Maps5,Rank5)) fun (number,number2)=>some (number,number2)
def j0u (F:Nat):Sm en.D:=⟨156,[.d (.list (.st 3)),.d (.int .i64),.d (.st 6),.d (.int .u8)],.tup [.d (.st 6),.own 3 (.int .i64)],[],fun x=>g0p F x.1 x.2.1 x.2.2.1 x.2.2.2⟩
def y0U (F:Nat):=R0 [e0T F,f0K F,e0k F,f01 F,a0l F,b0f F,g0M F,i0d F,j0t F,i0p F,g0Q F,h0w F] 156 ⟨[(20,[(.nrm,⟨[(13,.own 3 (.int .i64)),(14,.own 116 (.st 11))],[(4,.box 48 [.d (.int .i64),.own 3 (.int .i64),.M0 22 [3] (.list (.int .i64)),.d (.st 5)]),(9,.any),(10,.any),(11,.any),(12,.any)]⟩)]),(24,[(.nrm,⟨[],[(4,.box 48 [.d (.int .i64),.d (.list (.int .i64)),.M0 22 [3] (.list (.int .i64)),.d (.st 5)]),(11,.any),(12,.any)]⟩)]),(7,[(.nrm,⟨[],[(4,.box 48 [.d (.int .i64),.own 3 (.int .i64),.M0 22 [3] (.list (.int .i64)),.d (.st 5)])]⟩)])],[(10,⟨[(10,.d (.list (.st 16))),(13,.own 3 (.int .i64)),(14,.own 116 (.st 11)),(43,.d (.int .i64))],[(2,.any),(4,.box 48 [.d (.int .i64),.own 3 (.int .i64),.M0 22 [3] (.list (.int .i64)),.d (.st 5)]),(5,.any),(6,.any)]⟩,[(.ex 0,⟨[(10,.any),(13,.own 3 (.int .i64)),(14,.own 116 (.st 11)),(43,.any)],[(2,.any),(4,.box 48 [.d (.int .i64),.own 3 (.int .i64),.M0 22 [3] (.list (.int .i64)),.d (.st 5)]),(5,.any),(6,.any)]⟩)])],[(1,4,8,⟨[(23,.any),(28,.d .bool)],[]⟩)],[92]⟩ F
def o0k (F:Nat) (states:List I1) (next_5:I1) (d:Int):Option (T0 Int (Int ⊕ Unit)):=match d with
 | x2=>if decide (x2<(states.length:Int)) then if y0 states x2 then .bind (l0H F next_5 (gt states x2)) fun same_=>if same_ then some (.done (.inl x2)) else some (.next (W (x2+1))) else none else some (.done (.inr ()))
def g0j (F:Nat):((List U0)×Int×(List Int)×(List I1))->I1->Int->Option (L2×((List U0)×Int×(List Int)×(List I1)))
 | (l,mode,least,states),k,c=>if y0 least c then .bind (α:=I1×(List Int)) ( same ( .bind (g0p F l mode k (gt least c)) fun (next_,next_2)=>some (next_,next_2)) ( .bind (g0p F l mode k (gt least c)) fun (next_3,next_4)=>some (next_3,next_4))) fun (next_5,src)=>.bind (α:=Bool) ( if (next_5.Places.length:Int)==0 then some (next_5.Flag==0) else some false) fun x=>if x then some ((⟨(-1),[]⟩:L2),(l,mode,least,states)) else .bind (α:=Int) ( .bind (α:=Int ⊕ Unit) ( iter (o0k F states next_5) F 0) fun z_=>match z_ with
    | .inl x3=>some x3
    | .inr _=>some (-1)) fun i=>.bind (α:=Int×((List U0)×Int×(List Int)×(List I1))) ( if decide (i<0) then if C1 104 states [next_5] then some ((states.length:Int),(l,mode,least,states++[next_5])) else none else some (i,(l,mode,least,states))) fun (i2,(l2,mode2,least2,states2))=>some ((⟨i2,src⟩:L2),(l2,mode2,least2,states2)) else none
def j05 (F:Nat):Sm en.D:=⟨120,[.box 108 [.d (.list (.st 3)),.d (.int .i64),.d (.list (.int .u8)),.agg [.own 48 (.st 6),.fn 60 []]],.d (.st 6),.d (.int .i64)],.d (.st 0),[(0,.box 108 [.d (.list (.st 3)),.d (.int .i64),.d (.list (.int .u8)),.agg [.own 48 (.st 6),.fn 60 []]])],fun x=>g0j F x.1 x.2.1 x.2.2⟩
def v0J (F:Nat):X1 en:=⟨[k0C F,j0u F],fun g=>if Nat.beq g 120 then ⟨[],[],[(1,1000016,22,⟨[(7,.box 48 [.d (.st 6)]),(8,.own 3 (.int .i64))],[]⟩),(2,5,8,⟨[(33,.any),(37,.d .bool)],[]⟩)],[]⟩ else if Nat.beq g 61 then ⟨[(2,[(.nrm,⟨[(5,.d (.int .i64))],[]⟩)]),(5,[(.nrm,⟨[(5,.d (.int .i64))],[(0,.any),(1,.box 108 [.d (.list (.st 3)),.d (.int .i64),.d (.list (.int .u8)),.agg [.own 48 (.st 6),.fn 60 []]])]⟩)])],[],[],[]⟩ else if Nat.beq g 115 then ⟨[],[(2,⟨[(8,.d (.int .i64))],[]⟩,[(.ret,⟨[(4,.d (.int .i64)),(8,.any)],[]⟩),(.ex 0,⟨[(8,.any)],[]⟩)])],[],[]⟩ else if Nat.beq g 116 then U1 else U1,F,[]⟩
def g0S (F:Nat) (least:List Int) (k:I1) (d:Int×((List U0)×Int×(List Int)×(List I1))×(Int×(List Int)×(List L2))):Option (T0 (Int×((List U0)×Int×(List Int)×(List I1))×(Int×(List Int)×(List L2))) (((List U0)×Int×(List Int)×(List I1))×(Int×(List Int)×(List L2)))):=match d with
 | (x,(l2,mode2,least2,states2),(Regs3,Accept3,Edges))=>if decide (x<(least.length:Int)) then .bind (g0j F (l2,mode2,least2,states2) k x) fun (edge,(l3,mode3,least3,states3))=>if C1 32 Edges [edge] then some (.next (W (x+1),(l3,mode3,least3,states3),(Regs3,Accept3,Edges++[edge]))) else none else some (.done ((l2,mode2,least2,states2),(Regs3,Accept3,Edges)))
def d09 (F:Nat):((List U0)×Int×(List Int)×(List I1))->I1->Option (Z1×((List U0)×Int×(List Int)×(List I1)))
 | (l,mode,least,states),k=>.bind (α:=Int×(List Int)) ( same ( .bind (g0c F k) fun regs=>.bind (α:=Int×(List Int)) ( same ( .bind (d0P F l k) fun accept=>some (regs,accept)) ( .bind (d0P F l k) fun accept2=>some (regs,accept2))) fun (Regs,Accept)=>some (Regs,Accept)) ( .bind (g0c F k) fun regs2=>.bind (d0P F l k) fun accept3=>some (regs2,accept3))) fun (Regs2,Accept2)=>.bind (α:=((List U0)×Int×(List Int)×(List I1))×(Int×(List Int)×(List L2))) ( iter (g0S F least k) F (0,(l,mode,least,states),(Regs2,Accept2,[]))) fun ((l4,mode4,least4,states4),(Regs4,Accept4,Edges2))=>some ((⟨Regs4,Accept4,Edges2⟩:Z1),(l4,mode4,least4,states4))
def g0P (F:Nat):Sm en.D:=⟨63,[.box 108 [.d (.list (.st 3)),.d (.int .i64),.d (.list (.int .u8)),.agg [.own 48 (.st 6),.fn 60 []]],.d (.st 6)],.d (.st 1),[(0,.box 108 [.d (.list (.st 3)),.d (.int .i64),.d (.list (.int .u8)),.agg [.own 48 (.st 6),.fn 60 []]])],fun x=>d09 F x.1 x.2⟩
def s0h (F:Nat):=R0 [i0P F,h02 F,j05 F] 63 ⟨[],[(3,⟨[(21,.d (.int .i64))],[(0,.any),(1,.box 108 [.d (.list (.st 3)),.d (.int .i64),.d (.list (.int .u8)),.agg [.own 48 (.st 6),.fn 60 []]]),(4,.any),(5,.box 53 [.d (.int .i64),.own 3 (.int .i64),.own 57 (.st 0)])]⟩,[(.ex 0,⟨[(21,.any)],[(0,.any),(1,.box 108 [.d (.list (.st 3)),.d (.int .i64),.d (.list (.int .u8)),.agg [.own 48 (.st 6),.fn 60 []]]),(4,.any),(5,.box 53 [.d (.int .i64),.own 3 (.int .i64),.own 57 (.st 0)])]⟩)])],[(1,1000001,10,⟨[(5,.box 53 [.d (.int .i64),.own 3 (.int .i64),.nil])],[]⟩),(1,1000007,10,⟨[(5,.box 53 [.d (.int .i64),.own 3 (.int .i64),.nil])],[]⟩)],[]⟩ F
def p0r (F:Nat) (d:Unit):Option (T0 Unit Unit):=match d with
 | _=>if decide (0<0) then none else some (.done ())
def h0T (F:Nat) (budget:Int) (d:Int×((List U0)×Int×(List Int)×(List I1))×(Int×(List Int)×(List Z1))):Option (T0 (Int×((List U0)×Int×(List Int)×(List I1))×(Int×(List Int)×(List Z1))) ((Int×K0) ⊕ (Int×(List Int)×(List Z1)))):=match d with
 | (i2,(l3,mode3,least3,states2),(Tags,Class,States))=>if decide (i2<(states2.length:Int)) then let x:=decide ((states2.length:Int)>(if 400<budget then 400 else budget));
  if x then some (.done (.inl (14,(⟨0,[],[]⟩:K0)))) else if y0 states2 i2 then .bind (d09 F (l3,mode3,least3,states2) (gt states2 i2)) fun (state,(l4,mode4,least4,states3))=>if C1 56 States [state] then some (.next (W (i2+1),(l4,mode4,least4,states3),(Tags,Class,States++[state]))) else none else none else some (.done (.inr (Tags,Class,States)))
def e0Q (F:Nat) (l:List U0) (mode:Int) (budget:Int):Option (K0×Int):=.bind (g0R F l mode) fun (begin,begin2)=>if begin2 != 0 then some ((⟨0,[],[]⟩:K0),begin2) else .bind (j0A F l) fun (term,term2)=>.bind (c0m F term) fun least=>.bind (α:=Unit) ( iter (p0r F) F ()) fun _=>.bind (α:=Int×((List U0)×Int×(List Int)×(List I1))) ( if decide ((-1)<0) then if C1 104 ([]:List I1) [begin] then some (0,(l,mode,least,[]++[begin])) else none else some ((-1),(l,mode,least,[]))) fun (i,(l2,mode2,least2,states))=>.bind (c08 F l) fun tags=>.bind (α:=(Int×K0) ⊕ (Int×(List Int)×(List Z1))) ( iter (h0T F budget) F (0,(l2,mode2,least2,states),(tags,term,[]))) fun z_=>match z_ with
  | .inl (x2,y)=>some (y,x2)
  | .inr (Tags2,Class2,States2)=>some ((⟨Tags2,Class2,States2⟩:K0),0)
def k0x (F:Nat):Sm en.D:=⟨19,[.d (.list (.st 3)),.d (.int .i64),.d (.int .i64)],.tup [.d (.st 2),.d (.int .i64)],[],fun x=>e0Q F x.1 x.2.1 x.2.2⟩
def r0O (F:Nat):X1 en:=⟨[e0E F,h0h F,h03 F,c05 F,g0P F],fun g=>if Nat.beq g 19 then ⟨[],[(10,⟨[(14,.d (.int .i64))],[(3,.box 108 [.d (.list (.st 3)),.d (.int .i64),.d (.list (.int .u8)),.agg [.own 48 (.st 6),.fn 60 []]]),(6,.any),(7,.any),(9,.box 25 [.d (.int .i64),.d (.list (.int .i64)),.own 53 (.st 1)])]⟩,[(.ret,⟨[(7,.d (.int .i64)),(14,.any)],[(0,.box 25 [.d (.st 2)]),(3,.any),(6,.any),(7,.any),(9,.any)]⟩),(.ex 0,⟨[(14,.any)],[(3,.any),(6,.any),(7,.any),(9,.box 25 [.d (.int .i64),.d (.list (.int .i64)),.own 53 (.st 1)])]⟩)])],[],[]⟩ else if Nat.beq g 61 then ⟨[(5,[(.nrm,⟨[(5,.d (.int .i64))],[(2,.any),(3,.box 108 [.d (.list (.st 3)),.d (.int .i64),.own 5 (.int .u8),.agg [.own 48 (.st 6),.fn 60 []]])]⟩)])],[],[],[]⟩ else if Nat.beq g 115 then ⟨[],[(2,⟨[],[]⟩,[(.ex 0,⟨[],[]⟩)])],[],[]⟩ else U1,F,[]⟩
def k0T (F:Nat):Option (List U0):=some [(⟨2,(-1),(-1),0,[0,8589934592,0,0]⟩:U0),(⟨8,0,(-1),0,[0,0,0,0]⟩:U0),(⟨5,1,(-1),0,[0,0,0,0]⟩:U0)]
def A0d (F:Nat):Sm en.D:=⟨45,[],.own 132 (.st 3),[],fun x=>k0T F⟩
def B0m (F:Nat):=R0 [] 45 U1 F
def h0M (F:Nat):Option Bool:=.bind (k0T F) fun star=>.bind (e0Q F star 0 2) fun (build,build2)=>.bind (k0T F) fun star2=>.bind (e0Q F star2 0 1) fun (build3,build4)=>.bind (α:=Bool) ( if build2==0 then some (build4==14) else some false) fun x=>.bind (α:=Bool) ( if x then .bind (d0z F build) fun right=>some right else some false) fun x2=>.bind (α:=Bool) ( if x2 then .bind (e0n F build build) fun same_=>some same_ else some false) fun x3=>.bind (α:=Bool) ( if x3 then some ((build.States.length:Int)==2) else some false) fun x4=>.bind (α:=Bool) ( if x4 then some ((build.Class.length:Int)==256) else some false) fun x5=>.bind (α:=Bool) ( if x5 then if y0 build.Class 97 then some ((gt build.Class 97)==1) else none else some false) fun x6=>.bind (α:=Bool) ( if x6 then if y0 build.States 1 then let x7:=(((gt build.States 1).Edges).length:Int)==2;
    some x7 else none else some false) fun x8=>.bind (α:=Bool) ( if x8 then if y0 build.States 1 then if y0 ((gt build.States 1).Edges) 1 then some (((gt ((gt build.States 1).Edges) 1).To)==1) else none else none else some false) fun x9=>.bind (α:=Bool) ( if x9 then .bind (b0P F build) fun reach=>some ((reach.length:Int)==2) else some false) fun x10=>some x10
def A0f (F:Nat):Sm en.D:=⟨12,[],.d .bool,[],fun x=>h0M F⟩
def A0H (F:Nat):=R0 [z0W F,h0U F,z02 F,k0x F,A0d F] 12 ⟨[],[],[(3,3,5,⟨[(17,.any),(20,.d .bool)],[]⟩),(3,7,9,⟨[(21,.any),(24,.d .bool)],[]⟩),(3,11,14,⟨[(25,.any),(29,.d .bool)],[]⟩),(3,16,20,⟨[(30,.any),(35,.d .bool)],[]⟩),(3,22,26,⟨[(36,.any),(41,.d .bool)],[]⟩),(3,28,33,⟨[(42,.any),(48,.d .bool)],[]⟩),(3,35,42,⟨[(49,.any),(57,.d .bool)],[]⟩),(3,44,53,⟨[(58,.any),(68,.d .bool)],[]⟩),(3,55,59,⟨[(69,.any),(74,.d .bool)],[]⟩)],[]⟩ F
def i0c (F:Nat) (class_:List Int) (d:Int×Int):Option (T0 (Int×Int) (Unit ⊕ Unit)):=match d with
 | (many,i)=>if decide (i<(class_.length:Int)) then .bind (α:=Unit ⊕ Int) ( if y0 class_ i then .bind (α:=Bool) ( if decide ((gt class_ i)<0) then some true else if y0 class_ i then some (decide ((gt class_ i)>many)) else none) fun x=>if x then some (.inl ()) else if y0 class_ i then if (gt class_ i)==many then some (.inr (W (many+1))) else some (.inr many) else none else none) fun z_=>match z_ with
  | .inl _=>some (.done (.inl ()))
  | .inr many2=>some (.next (many2,W (i+1))) else some (.done (.inr ()))
def c0t (F:Nat) (class_:List Int):Option Bool:=.bind (α:=Unit ⊕ Unit) ( iter (i0c F class_) F (0,0)) fun z_=>match z_ with
 | .inl _=>some false
 | .inr _=>some ((class_.length:Int)==256)
def e0f (F:Nat):Sm en.D:=⟨50,[.d (.list (.int .i64))],.d .bool,[],fun x=>c0t F x⟩
def p0H (F:Nat):=R0 [] 50 ⟨[(4,[(.ret,⟨[(2,.kb false)],[]⟩),(.nrm,⟨[(3,.d (.int .i64))],[]⟩)])],[(3,⟨[(3,.d (.int .i64)),(4,.d (.int .i64))],[]⟩,[(.ret,⟨[(2,.kb false),(3,.any),(4,.any)],[]⟩),(.ex 0,⟨[(3,.any),(4,.any)],[]⟩)])],[(5,6,12,⟨[(16,.any),(23,.d .bool)],[]⟩)],[]⟩ F
def h07 (F:Nat) (class_:List Int) (d:(List Int)×Int):Option (T0 ((List Int)×Int) (List Int)):=match d with
 | (out,b)=>if decide (b<256) then .bind (α:=List Int) ( if y0 class_ b then if (gt class_ b)==(out.length:Int) then if C1 1 out [IntKind.u8.wrap (b)] then some (out++[IntKind.u8.wrap (b)]) else none else some out else none) fun out2=>some (.next (out2,W (b+1))) else some (.done out)
def g0b (F:Nat) (class_:List Int):Option (List Int):=.bind (c0t F class_) fun right=>if !right then some [] else .bind (α:=List Int) ( iter (h07 F class_) F ([],0)) fun out3=>some out3
def j06 (F:Nat):Sm en.D:=⟨51,[.d (.list (.int .i64))],.own 5 (.int .u8),[],fun x=>g0b F x⟩
def u0P (F:Nat):=R0 [e0f F] 51 ⟨[(6,[(.nrm,⟨[(3,.own 5 (.int .u8))],[(0,.any)]⟩)])],[(5,⟨[(3,.own 5 (.int .u8)),(4,.d (.int .i64))],[]⟩,[(.ex 0,⟨[(3,.own 5 (.int .u8)),(4,.any)],[]⟩)])],[],[]⟩ F
def d0k (F:Nat) (n_:Int) (regs:Int) (may:Bool):Option Bool:=.bind (α:=Bool) ( if decide (n_>=0) then some (decide (n_<regs)) else some false) fun x=>.bind (α:=Bool) ( if x then some true else some (n_==(-1))) fun x2=>.bind (α:=Bool) ( if x2 then some true else .bind (α:=Bool) ( if may then some (n_==(-2)) else some false) fun x3=>some x3) fun x4=>some x4
def e0i (F:Nat):Sm en.D:=⟨52,[.d (.int .i64),.d (.int .i64),.d .bool],.d .bool,[],fun x=>d0k F x.1 x.2.1 x.2.2⟩
def x0m (F:Nat):=R0 [] 52 ⟨[],[],[(1,3,6,⟨[(9,.any),(13,.d .bool)],[]⟩),(1,8,10,⟨[(14,.any),(17,.d .bool)],[]⟩),(1,12,17,⟨[(18,.any),(24,.d .bool)],[]⟩),(1,14,16,⟨[(20,.any),(23,.d .bool)],[]⟩)],[]⟩ F
def g0z (F:Nat) (x:L2) (regs:Int) (d:Int):Option (T0 Int (Unit ⊕ Unit)):=match d with
 | i=>if decide (i<(x.Src.length:Int)) then if y0 x.Src i then .bind (d0k F (gt x.Src i) regs false) fun entry=>if !entry then some (.done (.inl ())) else some (.next (W (i+1))) else none else some (.done (.inr ()))
def d01 (F:Nat) (d_:K0) (x:L2) (regs:Int):Option Bool:=if x.To==(-1) then some ((x.Src.length:Int)==0) else .bind (α:=Bool) ( if decide (x.To<0) then some true else some (decide (x.To>=(d_.States.length:Int)))) fun x2=>.bind (α:=Bool) ( if x2 then some true else if y0 d_.States x.To then let x3:=(x.Src.length:Int) != ((gt d_.States x.To).Regs);
     some x3 else none) fun x4=>if x4 then some false else .bind (α:=Unit ⊕ Unit) ( iter (g0z F x regs) F 0) fun z_=>match z_ with
   | .inl _=>some false
   | .inr _=>some true
def h0o (F:Nat):Sm en.D:=⟨53,[.d (.st 2),.d (.st 0),.d (.int .i64)],.d .bool,[],fun x=>d01 F x.1 x.2.1 x.2.2⟩
def s03 (F:Nat):=R0 [e0i F] 53 ⟨[],[(6,⟨[(7,.d (.int .i64))],[]⟩,[(.ret,⟨[(6,.kb false),(7,.any)],[]⟩),(.ex 0,⟨[(7,.any)],[]⟩)])],[(3,4,10,⟨[(18,.any),(25,.d .bool)],[]⟩),(3,12,23,⟨[(26,.any),(38,.d .bool)],[]⟩)],[]⟩ F
def d0O (F:Nat) (d_:K0) (i:Int) (d:Int):Option (T0 Int (Unit ⊕ Unit)):=match d with
 | t=>let x13:=decide (t<(((gt d_.States i).Accept).length:Int));
 if x13 then if y0 ((gt d_.States i).Accept) t then .bind (d0k F (gt ((gt d_.States i).Accept) t) ((gt d_.States i).Regs) true) fun entry=>if !entry then some (.done (.inl ())) else some (.next (W (t+1))) else none else some (.done (.inr ()))
def d0I (F:Nat) (d_:K0) (least:List Int) (i:Int) (d:Int):Option (T0 Int (Unit ⊕ Unit)):=match d with
 | c=>if decide (c<(least.length:Int)) then if y0 ((gt d_.States i).Edges) c then .bind (d01 F d_ (gt ((gt d_.States i).Edges) c) ((gt d_.States i).Regs)) fun edge=>if !edge then some (.done (.inl ())) else some (.next (W (c+1))) else none else some (.done (.inr ()))
def g0s (F:Nat) (d_:K0) (least:List Int) (d:Int):Option (T0 Int (Unit ⊕ Unit)):=match d with
 | i=>if decide (i<(d_.States.length:Int)) then if y0 d_.States i then .bind (α:=Bool) ( if decide (((gt d_.States i).Regs)<0) then some true else some (decide (((gt d_.States i).Regs)>1216))) fun x7=>.bind (α:=Bool) ( if x7 then some true else .bind (α:=Bool) ( if (((gt d_.States i).Accept).length:Int) != 0 then let x8:=(((gt d_.States i).Accept).length:Int) != d_.Tags;
       some x8 else some false) fun x9=>some x9) fun x10=>.bind (α:=Bool) ( if x10 then some true else let x11:=(((gt d_.States i).Edges).length:Int) != (least.length:Int);
     some x11) fun x12=>if x12 then some (.done (.inl ())) else .bind (α:=Unit ⊕ Unit) ( iter (d0O F d_ i) F 0) fun z_=>match z_ with
    | .inl _=>some (.done (.inl ()))
    | .inr _=>.bind (α:=Unit ⊕ Unit) ( iter (d0I F d_ least i) F 0) fun z_=>match z_ with
     | .inl _=>some (.done (.inl ()))
     | .inr _=>some (.next (W (i+1))) else none else some (.done (.inr ()))
def L9 (F:Nat) (d_:K0):Option Bool:=.bind (α:=Bool) ( if decide (d_.Tags<1) then some true else some (decide (d_.Tags>19))) fun x=>.bind (α:=Bool) ( if x then some true else some ((d_.Tags.tmod 2)==0)) fun x2=>.bind (α:=Bool) ( if x2 then some true else some (decide ((d_.States.length:Int)<1))) fun x3=>.bind (α:=Bool) ( if x3 then some true else some (decide ((d_.States.length:Int)>400))) fun x4=>.bind (α:=Bool) ( if x4 then some true else .bind (c0t F d_.Class) fun right=>some (!right)) fun x5=>.bind (α:=Bool) ( if x5 then some true else if y0 d_.States 0 then some (((gt d_.States 0).Regs) != 0) else none) fun x6=>if x6 then some false else .bind (g0b F d_.Class) fun least=>.bind (α:=Unit ⊕ Unit) ( iter (g0s F d_ least) F 0) fun z_=>match z_ with
  | .inl _=>some false
  | .inr _=>some true
def b0K (F:Nat):Sm en.D:=⟨16,[.d (.st 2)],.d .bool,[],fun x=>L9 F x⟩
def t00 (F:Nat):=R0 [e0f F,j06 F,e0i F,h0o F] 16 ⟨[],[(11,⟨[(6,.d (.int .i64))],[]⟩,[(.ret,⟨[(2,.kb false),(6,.any)],[]⟩),(.ex 2,⟨[(6,.any)],[]⟩)]),(16,⟨[(7,.d (.int .i64))],[]⟩,[(.ret,⟨[(2,.kb false),(7,.any)],[]⟩),(.ex 4,⟨[(7,.any)],[]⟩)]),(5,⟨[(4,.d (.int .i64))],[]⟩,[(.ret,⟨[(2,.kb false),(4,.any)],[]⟩),(.ex 0,⟨[(4,.any)],[]⟩)])],[(1,4,7,⟨[(11,.any),(15,.d .bool)],[]⟩),(1,9,13,⟨[(16,.any),(21,.d .bool)],[]⟩),(1,15,19,⟨[(22,.any),(27,.d .bool)],[]⟩),(1,21,25,⟨[(28,.any),(33,.d .bool)],[]⟩),(1,27,31,⟨[(34,.any),(39,.d .bool)],[]⟩),(1,33,39,⟨[(40,.any),(47,.d .bool)],[]⟩),(8,4,7,⟨[(67,.any),(71,.d .bool)],[]⟩),(8,9,21,⟨[(72,.any),(85,.d .bool)],[]⟩),(8,14,20,⟨[(77,.any),(84,.d .bool)],[]⟩),(8,23,28,⟨[(86,.any),(92,.d .bool)],[]⟩)],[]⟩ F
def b0C (F:Nat) (d_:K0) (i:Int) (d:Int×(List Bool)):Option (T0 (Int×(List Bool)) (List Bool)):=match d with
 | (c,y3)=>if y0 y3 i then .bind (α:=Bool) ( if gt y3 i then if y0 d_.States i then let x:=decide (c<(((gt d_.States i).Edges).length:Int));
     some x else none else some false) fun x2=>if x2 then .bind (α:=List Bool) ( if y0 d_.States i then if y0 ((gt d_.States i).Edges) c then let x3:=decide (((gt ((gt d_.States i).Edges) c).To)>=0);
      if x3 then if y0 y3 ((gt ((gt d_.States i).Edges) c).To) then let l2:=y3.set ((gt ((gt d_.States i).Edges) c).To).toNat true;
        some l2 else none else some y3 else none else none) fun y4=>some (.next (W (c+1),y4)) else some (.done y3) else none
def j0g (F:Nat) (d_:K0) (d:Int×(List Bool)):Option (T0 (Int×(List Bool)) (List Bool)):=match d with
 | (i,y2)=>if decide (i<(y2.length:Int)) then .bind (α:=List Bool) ( iter (b0C F d_ i) F (0,y2)) fun y5=>some (.next (W (i+1),y5)) else some (.done y2)
def d0H (F:Nat) (d_:K0) (d:Int×(List Bool)):Option (T0 (Int×(List Bool)) (List Bool)):=match d with
 | (n_,y)=>if decide (n_<(y.length:Int)) then .bind (α:=List Bool) ( iter (j0g F d_) F (0,y)) fun y6=>some (.next (W (n_+1),y6)) else some (.done y)
def e0q (F:Nat) (d_:K0):Option (List Bool):=.bind (L9 F d_) fun right=>if !right then some [] else if S5 1 (d_.States.length:Int) then if y0 (List.replicate (d_.States.length:Int).toNat false:List Bool) 0 then let l:=(List.replicate (d_.States.length:Int).toNat false:List Bool).set (0:Int).toNat true;
    .bind (α:=List Bool) ( iter (d0H F d_) F (0,l)) fun y7=>some y7 else none else none
def A0l (F:Nat):Sm en.D:=⟨14,[.d (.st 2)],.own 4 .bool,[],fun x=>e0q F x⟩
def B0e (F:Nat):=R0 [b0K F] 14 ⟨[(13,[(.nrm,⟨[],[(1,.own 4 .bool)]⟩)])],[(12,⟨[(6,.d (.int .i64))],[(1,.own 4 .bool)]⟩,[(.ex 4,⟨[(6,.any)],[(1,.own 4 .bool)]⟩)]),(6,⟨[(4,.d (.int .i64))],[(1,.own 4 .bool)]⟩,[(.ex 0,⟨[(4,.any)],[(1,.own 4 .bool)]⟩)]),(9,⟨[(5,.d (.int .i64))],[(1,.own 4 .bool)]⟩,[(.ex 2,⟨[(5,.any)],[(1,.own 4 .bool)]⟩)])],[(12,5,14,⟨[(33,.any),(43,.d .bool)],[]⟩)],[]⟩ F
def e0u (F:Nat) (a:List Int) (b:List Int) (d:Int):Option (T0 Int (Unit ⊕ Unit)):=match d with
 | i=>if decide (i<(a.length:Int)) then if y0 a i then if y0 b i then if (gt a i) != (gt b i) then some (.done (.inl ())) else some (.next (W (i+1))) else none else none else some (.done (.inr ()))
def d0l (F:Nat) (a:List Int) (b:List Int):Option Bool:=if (a.length:Int) != (b.length:Int) then some false else .bind (α:=Unit ⊕ Unit) ( iter (e0u F a b) F 0) fun z_=>match z_ with
  | .inl _=>some false
  | .inr _=>some true
def g0x (F:Nat):Sm en.D:=⟨37,[.d (.list (.int .i64)),.d (.list (.int .i64))],.d .bool,[],fun x=>d0l F x.1 x.2⟩
def u0G (F:Nat):=R0 [] 37 ⟨[],[(4,⟨[(5,.d (.int .i64))],[]⟩,[(.ret,⟨[(4,.kb false),(5,.any)],[]⟩),(.ex 0,⟨[(5,.any)],[]⟩)])],[],[]⟩ F
def A0v (F:Nat) (a:Z1) (b:Z1) (d:Int):Option (T0 Int (Unit ⊕ Unit)):=match d with
 | i=>if decide (i<(a.Edges.length:Int)) then if y0 a.Edges i then if y0 b.Edges i then .bind (α:=Bool) ( if ((gt a.Edges i).To) != ((gt b.Edges i).To) then some true else if y0 a.Edges i then if y0 b.Edges i then .bind (d0l F ((gt a.Edges i).Src) ((gt b.Edges i).Src)) fun ints2=>some (!ints2) else none else none) fun x4=>if x4 then some (.done (.inl ())) else some (.next (W (i+1))) else none else none else some (.done (.inr ()))
def z0V (F:Nat) (a:Z1) (b:Z1):Option Bool:=.bind (α:=Bool) ( if a.Regs != b.Regs then some true else .bind (d0l F a.Accept b.Accept) fun ints=>some (!ints)) fun x=>.bind (α:=Bool) ( if x then some true else let x2:=(a.Edges.length:Int) != (b.Edges.length:Int);
   some x2) fun x3=>if x3 then some false else .bind (α:=Unit ⊕ Unit) ( iter (A0v F a b) F 0) fun z_=>match z_ with
  | .inl _=>some false
  | .inr _=>some true
def z08 (F:Nat):Sm en.D:=⟨57,[.d (.st 1),.d (.st 1)],.d .bool,[],fun x=>z0V F x.1 x.2⟩
def A00 (F:Nat):=R0 [g0x F] 57 ⟨[],[(4,⟨[(5,.d (.int .i64))],[]⟩,[(.ret,⟨[(4,.kb false),(5,.any)],[]⟩),(.ex 0,⟨[(5,.any)],[]⟩)])],[(1,6,12,⟨[(11,.any),(18,.d .bool)],[]⟩),(1,14,21,⟨[(19,.any),(27,.d .bool)],[]⟩),(6,14,28,⟨[(48,.any),(63,.d .bool)],[]⟩)],[]⟩ F
def z09 (F:Nat) (a:K0) (b:K0) (d:Int):Option (T0 Int (Unit ⊕ Unit)):=match d with
 | i=>if decide (i<(a.States.length:Int)) then if y0 a.States i then if y0 b.States i then .bind (z0V F (gt a.States i) (gt b.States i)) fun samest=>if !samest then some (.done (.inl ())) else some (.next (W (i+1))) else none else none else some (.done (.inr ()))
def t01 (F:Nat) (a:K0) (b:K0):Option Bool:=.bind (α:=Bool) ( if a.Tags != b.Tags then some true else .bind (d0l F a.Class b.Class) fun ints=>some (!ints)) fun x=>.bind (α:=Bool) ( if x then some true else let x2:=(a.States.length:Int) != (b.States.length:Int);
   some x2) fun x3=>if x3 then some false else .bind (α:=Unit ⊕ Unit) ( iter (z09 F a b) F 0) fun z_=>match z_ with
  | .inl _=>some false
  | .inr _=>some true
def A0p (F:Nat):Sm en.D:=⟨18,[.d (.st 2),.d (.st 2)],.d .bool,[],fun x=>t01 F x.1 x.2⟩
def A05 (F:Nat):=R0 [g0x F,z08 F] 18 ⟨[],[(4,⟨[(5,.d (.int .i64))],[]⟩,[(.ret,⟨[(4,.kb false),(5,.any)],[]⟩),(.ex 0,⟨[(5,.any)],[]⟩)])],[(1,6,12,⟨[(11,.any),(18,.d .bool)],[]⟩),(1,14,21,⟨[(19,.any),(27,.d .bool)],[]⟩)],[]⟩ F
def z04 (F:Nat) (reach:List Bool) (reach2:List Bool) (d:Int):Option (T0 Int (Unit ⊕ Unit)):=match d with
 | i=>if decide (i<(reach.length:Int)) then if y0 reach i then if y0 reach2 i then if !((gt reach i)==(gt reach2 i)) then some (.done (.inl ())) else some (.next (W (i+1))) else none else none else some (.done (.inr ()))
def A0t (F:Nat) (a:K0) (b:K0):Option Bool:=.bind (c0n F a) fun small=>.bind (α:=Bool) ( if !small then some true else .bind (c0n F b) fun small2=>some (!small2)) fun x=>if x then .bind (h0M F) fun sure=>some sure else .bind (b0P F a) fun reach=>.bind (e0q F a) fun reach2=>if (reach.length:Int) != (reach2.length:Int) then some false else .bind (α:=Unit ⊕ Unit) ( iter (z04 F reach reach2) F 0) fun z_=>match z_ with
   | .inl _=>some false
   | .inr _=>.bind (d0z F a) fun right=>.bind (L9 F a) fun right2=>.bind (α:=Bool) ( if right==right2 then .bind (e0n F a b) fun same_=>.bind (t01 F a b) fun same_2=>some (same_==same_2) else some false) fun x2=>.bind (α:=Bool) ( if x2 then .bind (h0M F) fun sure2=>some sure2 else some false) fun x3=>some x3
def A0I (F:Nat):Sm en.D:=⟨3,[.d (.st 2),.d (.st 2)],.d .bool,[],fun x=>A0t F x.1 x.2⟩
def A0B (F:Nat):=R0 [d0B F,A0f F,z0W F,A0l F,h0U F,b0K F,z02 F,A0p F] 3 ⟨[],[(7,⟨[(7,.d (.int .i64))],[]⟩,[(.ret,⟨[(4,.kb false),(7,.any)],[]⟩),(.ex 0,⟨[(7,.any)],[]⟩)])],[(1,4,7,⟨[(11,.any),(15,.d .bool)],[]⟩),(11,6,13,⟨[(46,.any),(54,.d .bool)],[]⟩),(11,15,16,⟨[(55,.any),(57,.d .bool)],[]⟩)],[]⟩ F
