/- A text of the proof. Its conditions: none. -/
import Derived.Test.YtdficaoajalfaaaGreatWEn
import Derived.Test.YtdficaoajalfaaaGreatWX17
import Derived.Test.YtdficaoajalfaaaGreatWX14
import Derived.Test.YtdficaoajalfaaaGreatWVKey
set_option linter.all false
set_option maxRecDepth 100000
noncomputable section
namespace Go.Proofs.YtdficaoajalfaaaGreat
open Go.V Go.RowKit Go.X
def b0y (F:Nat) (l:List D0) (ahead:List Int) (i:Int):Option Int:=if y0 l i then .bind (α:=Int ⊕ Unit) ( .bind (α:=Bool) ( if ((gt l i).Kind)==1 then some (((gt l i).Kind)==1) else some (((gt l i).Kind)==2)) fun x=>if x then .bind (α:=Bool) ( if ((gt l i).A)==(-1) then some (((gt l i).B)==(-1)) else some false) fun x2=>if x2 then some (.inl i) else some (.inr ()) else .bind (α:=Bool) ( if ((gt l i).Kind)==3 then some (((gt l i).Kind)==3) else some (((gt l i).Kind)==4)) fun x3=>if x3 then .bind (α:=Bool) ( if decide (((gt l i).B)>=0) then some (((gt l i).B)==(W (i-1))) else some false) fun x4=>.bind (α:=Bool) ( if x4 then some (decide (((gt l i).A)>=0)) else some false) fun x5=>.bind (α:=Bool) ( if x5 then if y0 ahead ((gt l i).B) then let x6:=((gt l i).A)==(W ((gt ahead ((gt l i).B))-1));
        some x6 else none else some false) fun x7=>if x7 then if y0 ahead ((gt l i).A) then some (.inl (gt ahead ((gt l i).A))) else none else some (.inr ()) else .bind (α:=Bool) ( if ((gt l i).Kind)==5 then some (((gt l i).Kind)==5) else if ((gt l i).Kind)==6 then some (((gt l i).Kind)==6) else if ((gt l i).Kind)==7 then some (((gt l i).Kind)==7) else some (((gt l i).Kind)==8)) fun x8=>if x8 then .bind (α:=Bool) ( if ((gt l i).B)==(-1) then some (decide (((gt l i).A)>=0)) else some false) fun x9=>.bind (α:=Bool) ( if x9 then some (((gt l i).A)==(W (i-1))) else some false) fun x10=>if x10 then if y0 ahead ((gt l i).A) then some (.inl (gt ahead ((gt l i).A))) else none else some (.inr ()) else some (.inr ())) fun z_=>match z_ with
  | .inl x11=>some x11
  | .inr _=>some (-1) else none
abbrev Y4:Ann:=⟨[],[],[],[]⟩
abbrev L1 (l:List (Sm en.D)) (n:Nat) (a:Ann) (F:Nat):P4 en:=⟨l,fun g=>if Nat.beq g n then a else Y4,F,[]⟩
def o02 (F:Nat):Sm en.D:=⟨167,[.d (.list (.st 0)),.d (.list (.int .i64)),.d (.int .i64)],.d (.int .i64),[],fun x=>b0y F x.1 x.2.1 x.2.2⟩
def D0d (F:Nat):=L1 [] 167 ⟨[(15,[(.nrm,⟨[(60,.d .bool)],[]⟩)]),(17,[(.ret,⟨[(6,.d (.int .i64))],[]⟩),(.nrm,⟨[],[]⟩)]),(5,[(.nrm,⟨[(14,.d .bool)],[]⟩)]),(9,[(.nrm,⟨[(26,.d .bool)],[]⟩)])],[],[(5,4,7,⟨[(20,.any),(24,.d .bool)],[]⟩),(9,4,9,⟨[(32,.any),(38,.d .bool)],[]⟩),(9,11,14,⟨[(39,.any),(43,.d .bool)],[]⟩),(9,16,25,⟨[(44,.any),(54,.d .bool)],[]⟩),(15,4,7,⟨[(68,.any),(72,.d .bool)],[]⟩),(15,9,14,⟨[(73,.any),(79,.d .bool)],[]⟩)],[]⟩ F
def b04 (F:Nat) (x:D0):Option Bool:=.bind (α:=Bool) ( if x.Kind != 2 then let x2:=!(((gt x.Set 0)==0)&&(((gt x.Set 1)==0)&&(((gt x.Set 2)==0)&&((gt x.Set 3)==0))));
   some x2 else some false) fun x3=>if x3 then some false else if x.Kind==7 then .bind (α:=Bool) ( if decide (x.N>=1) then some (decide (x.N<=9)) else some false) fun x4=>some x4 else some (x.N==0)
def m09 (F:Nat):Sm en.D:=⟨168,[.d (.st 0)],.d .bool,[],fun x=>b04 F x⟩
def z0x (F:Nat):=L1 [] 168 ⟨[],[],[(1,4,8,⟨[(6,.any),(11,.d .bool)],[]⟩),(4,4,7,⟨[(18,.any),(22,.d .bool)],[]⟩)],[]⟩ F
def o0a (F:Nat) (x:D0) (in_:List D0) (d:Int):Option (U0 Int (Unit ⊕ Unit)):=match d with
 | x2=>if decide (x2<(in_.length:Int)) then if y0 in_ x2 then .bind (α:=Bool) ( if x.Kind==7 then some (((gt in_ x2).Kind)==7) else some false) fun x3=>.bind (α:=Bool) ( if x3 then some (((gt in_ x2).N)==x.N) else some false) fun x4=>if x4 then some (.done (.inl ())) else some (.next (W (x2+1))) else none else some (.done (.inr ()))
def b0E (F:Nat) (x:D0) (in_:List D0):Option Bool:=.bind (α:=Unit ⊕ Unit) ( iter (o0a F x in_) F 0) fun z_=>match z_ with
 | .inl _=>some true
 | .inr _=>some false
def m05 (F:Nat):Sm en.D:=⟨169,[.d (.st 0),.d (.list (.st 0))],.d .bool,[],fun x=>b0E F x.1 x.2⟩
def E0B (F:Nat):=L1 [] 169 ⟨[],[(2,⟨[(9,.d (.int .i64))],[]⟩,[(.ret,⟨[(4,.kb true),(9,.any)],[]⟩),(.ex 0,⟨[(9,.any)],[]⟩)])],[(4,4,7,⟨[(16,.any),(20,.d .bool)],[]⟩),(4,9,14,⟨[(21,.any),(27,.d .bool)],[]⟩)],[]⟩ F
def n0u (F:Nat) (l:List D0) (d:(List Int)×Int×Int):Option (U0 ((List Int)×Int×Int) (Unit ⊕ ((List Int)×Int))):=match d with
 | (out,leaves,x2)=>if decide (x2<(l.length:Int)) then if y0 l x2 then .bind (b0y F l out x2) fun low=>.bind (α:=Bool) ( if decide (low<0) then some true else .bind (b04 F (gt l x2)) fun fields=>some (!fields)) fun x3=>.bind (α:=Bool) ( if x3 then some true else if S4 l low x2 then .bind (b0E F (gt l x2) (U1 l low x2)) fun again=>some again else none) fun x4=>if x4 then some (.done (.inl ())) else .bind (α:=Int) ( if ((gt l x2).Kind)==2 then some (W (leaves+1)) else some leaves) fun leaves2=>if I0 8 out [low] then some (.next (out++[low],leaves2,W (x2+1))) else none else none else some (.done (.inr (out,leaves)))
def T8 (F:Nat) (l:List D0):Option (List Int):=.bind (α:=Bool) ( if (l.length:Int)==0 then some true else some (decide ((l.length:Int)>400))) fun x=>if x then some [] else .bind (α:=Unit ⊕ ((List Int)×Int)) ( iter (n0u F l) F ([],0,0)) fun z_=>match z_ with
  | .inl _=>some []
  | .inr (out2,leaves3)=>.bind (α:=Bool) ( if decide (leaves3>64) then some true else if y0 out2 (W ((l.length:Int)-1)) then some ((gt out2 (W ((l.length:Int)-1))) != 0) else none) fun x5=>if x5 then some [] else some out2
def f0R (F:Nat):Sm en.D:=⟨125,[.d (.list (.st 0))],.own 3 (.int .i64),[],fun x=>T8 F x⟩
def y0y (F:Nat):=L1 [o02 F,m09 F,m05 F] 125 ⟨[(13,[(.nrm,⟨[(4,.d (.int .i64))],[]⟩)])],[(6,⟨[(3,.own 3 (.int .i64)),(4,.d (.int .i64)),(18,.d (.int .i64))],[]⟩,[(.ret,⟨[(2,.nil),(3,.any),(4,.any),(18,.any)],[]⟩),(.ex 0,⟨[(3,.own 3 (.int .i64)),(4,.d (.int .i64)),(18,.any)],[]⟩)])],[(1,4,7,⟨[(11,.any),(15,.d .bool)],[]⟩),(9,3,6,⟨[(29,.any),(33,.d .bool)],[]⟩),(9,8,14,⟨[(34,.any),(41,.d .bool)],[]⟩),(15,3,10,⟨[(54,.any),(62,.d .bool)],[]⟩)],[]⟩ F
def a7 (F:Nat) (l:List D0):Option Bool:=.bind (T8 F l) fun low=>some (decide ((low.length:Int)>0))
def a01 (F:Nat):Sm en.D:=⟨67,[.d (.list (.st 0))],.d .bool,[],fun x=>a7 F x⟩
def y0F (F:Nat):=L1 [f0R F] 67 Y4 F
def o0t (F:Nat) (l:List D0) (d:(List Int)×Int):Option (U0 ((List Int)×Int) (List Int)):=match d with
 | (out,x)=>if decide (x<(l.length:Int)) then .bind (α:=List Int) ( if y0 l x then if ((gt l x).Kind)==2 then if I0 8 out [x] then some (out++[x]) else none else some out else none) fun out2=>some (.next (out2,W (x+1))) else some (.done out)
def E7 (F:Nat) (l:List D0):Option (List Int):=.bind (a7 F l) fun right=>if !right then some [] else .bind (α:=List Int) ( iter (o0t F l) F ([],0)) fun out3=>some out3
def e0Q (F:Nat):Sm en.D:=⟨107,[.d (.list (.st 0))],.own 3 (.int .i64),[],fun x=>E7 F x⟩
def F0C (F:Nat):=L1 [a01 F] 107 ⟨[(9,[(.nrm,⟨[(3,.own 3 (.int .i64))],[(0,.any)]⟩)])],[(5,⟨[(3,.own 3 (.int .i64)),(11,.d (.int .i64))],[]⟩,[(.ex 0,⟨[(3,.own 3 (.int .i64)),(11,.any)],[]⟩)])],[],[]⟩ F
def h0p (F:Nat) (l:List D0) (q:Int) (low:List Int) (x2:Int) (d:Int×(List Bool)):Option (U0 (Int×(List Bool)) (List Bool)):=match d with
 | (x3,y)=>if decide (x3<x2) then .bind (α:=List Bool) ( if y0 (U1 l (gt low q) (W (q+1))) x3 then let x4:=((gt (U1 l (gt low q) (W (q+1))) x3).Kind)==7;
    if x4 then if decide (0<=(gt (U1 l (gt low q) (W (q+1))) x3).N)&&decide ((gt (U1 l (gt low q) (W (q+1))) x3).N<10) then let x5:=y.set ((gt (U1 l (gt low q) (W (q+1))) x3).N).toNat true;
      some x5 else none else some y else none) fun y2=>some (.next (W (x3+1),y2)) else some (.done y)
def h0N (F:Nat) (y3:List Bool) (d:(List Int)×Int):Option (U0 ((List Int)×Int) (List Int)):=match d with
 | (out,x6)=>if decide (x6<10) then .bind (α:=List Int) ( if decide (0<=x6)&&decide (x6<10) then if gt y3 x6 then if I0 8 out [x6] then some (out++[x6]) else none else some out else none) fun out2=>some (.next (out2,W (x6+1))) else some (.done out)
def h0k (F:Nat) (l:List D0) (q:Int):Option (List Int):=.bind (T8 F l) fun low=>.bind (α:=Bool) ( if decide (q<0) then some true else some (decide (q>=(low.length:Int)))) fun x=>if x then some [] else if y0 low q then if S4 l (gt low q) (W (q+1)) then let x2:=((U1 l (gt low q) (W (q+1))).length:Int);
    .bind (α:=List Bool) ( iter (h0p F l q low x2) F (0,[false,false,false,false,false,false,false,false,false,false])) fun y3=>.bind (α:=List Int) ( iter (h0N F y3) F ([],0)) fun out3=>some out3 else none else none
def k0Z (F:Nat):Sm en.D:=⟨189,[.d (.list (.st 0)),.d (.int .i64)],.own 3 (.int .i64),[],fun x=>h0k F x.1 x.2⟩
def F0J (F:Nat):=L1 [f0R F] 189 ⟨[(10,[(.nrm,⟨[],[(1,.box 250 [.d (.arr 10 .bool)])]⟩)]),(17,[(.nrm,⟨[(9,.own 3 (.int .i64))],[(3,.any)]⟩)])],[(13,⟨[(9,.own 3 (.int .i64)),(41,.d (.int .i64))],[]⟩,[(.ex 2,⟨[(9,.own 3 (.int .i64)),(41,.any)],[]⟩)]),(6,⟨[(30,.d (.int .i64))],[(1,.box 250 [.d (.arr 10 .bool)])]⟩,[(.ex 0,⟨[(30,.any)],[(1,.box 250 [.d (.arr 10 .bool)])]⟩)])],[(2,3,7,⟨[(15,.any),(20,.d .bool)],[]⟩)],[]⟩ F
def j0m (F:Nat) (groups:List Int) (d:Int×Int):Option (U0 (Int×Int) Int):=match d with
 | (top,x)=>if decide (x<(groups.length:Int)) then if y0 groups x then some (.next (gt groups x,W (x+1))) else none else some (.done top)
def i0U (F:Nat) (l:List D0):Option Int:=.bind (h0k F l (W ((l.length:Int)-1))) fun groups=>.bind (α:=Int) ( iter (j0m F groups) F (0,0)) fun top2=>some top2
def o0n (F:Nat):Sm en.D:=⟨156,[.d (.list (.st 0))],.d (.int .i64),[],fun x=>i0U F x⟩
def C06 (F:Nat):=L1 [k0Z F] 156 ⟨[],[(3,⟨[(3,.d (.int .i64)),(12,.d (.int .i64))],[]⟩,[(.ex 0,⟨[(3,.d (.int .i64)),(12,.any)],[]⟩)])],[],[]⟩ F
def h0t (F:Nat) (l:List D0):Option Int:=.bind (a7 F l) fun right=>if !right then some 0 else .bind (i0U F l) fun top=>some (W (1+(W (2*top))))
def j0U (F:Nat):Sm en.D:=⟨109,[.d (.list (.st 0))],.d (.int .i64),[],fun x=>h0t F x⟩
def A0k (F:Nat):=L1 [a01 F,o0n F] 109 Y4 F
def n0g (F:Nat) (l:List D0) (d:Int×(List Bool)):Option (U0 (Int×(List Bool)) (List Bool)):=match d with
 | (x,y)=>if decide (x<(l.length:Int)) then .bind (α:=List Bool) ( if y0 l x then .bind (α:=Bool) ( if ((gt l x).Kind)==1 then some (((gt l x).Kind)==1) else if ((gt l x).Kind)==5 then some (((gt l x).Kind)==5) else some (((gt l x).Kind)==6)) fun x2=>if x2 then if y0 y x then some (y.set x.toNat true) else none else if ((gt l x).Kind)==3 then if y0 y ((gt l x).A) then .bind (α:=Bool) ( if gt y ((gt l x).A) then if y0 y ((gt l x).B) then some (gt y ((gt l x).B)) else none else some false) fun x3=>if y0 y x then some (y.set x.toNat x3) else none else none else if ((gt l x).Kind)==4 then if y0 y ((gt l x).A) then .bind (α:=Bool) ( if gt y ((gt l x).A) then some true else if y0 y ((gt l x).B) then some (gt y ((gt l x).B)) else none) fun x4=>if y0 y x then some (y.set x.toNat x4) else none else none else .bind (α:=Bool) ( if ((gt l x).Kind)==7 then some (((gt l x).Kind)==7) else some (((gt l x).Kind)==8)) fun x5=>if x5 then if y0 y ((gt l x).A) then if y0 y x then some (y.set x.toNat (gt y ((gt l x).A))) else none else none else some y else none) fun y2=>some (.next (W (x+1),y2)) else some (.done y)
def X9 (F:Nat) (l:List D0):Option (List Bool):=.bind (a7 F l) fun right=>if !right then some [] else if B3 1 (l.length:Int) then .bind (α:=List Bool) ( iter (n0g F l) F (0,(List.replicate (l.length:Int).toNat false:List Bool))) fun y3=>some y3 else none
def h0Q (F:Nat):Sm en.D:=⟨105,[.d (.list (.st 0))],.own 4 .bool,[],fun x=>X9 F x⟩
def E0Y (F:Nat):=L1 [a01 F] 105 ⟨[(11,[(.nrm,⟨[(21,.d .bool)],[]⟩)]),(18,[(.nrm,⟨[(62,.d .bool)],[]⟩)]),(19,[(.nrm,⟨[],[(0,.own 4 .bool)]⟩)])],[(5,⟨[(14,.d (.int .i64))],[(0,.own 4 .bool)]⟩,[(.ex 0,⟨[(14,.any)],[(0,.own 4 .bool)]⟩)])],[(13,8,13,⟨[(37,.any),(43,.d .bool)],[]⟩),(15,8,13,⟨[(54,.any),(60,.d .bool)],[]⟩)],[]⟩ F
def W6 (F:Nat):Nat->(List D0)->(List Bool)->Int->(List Int)->Option (List Int)
 | 0,_,_,_,_=>none
 | n+1,l,can,q,out=>if I0 8 out [W (2*q)] then if y0 l q then .bind (α:=List Int) ( if ((gt l q).Kind)==3 then .bind (W6 F n l can ((gt l q).A) (out++[W (2*q)])) fun walk=>.bind (W6 F n l can ((gt l q).B) walk) fun walk2=>some walk2 else if ((gt l q).Kind)==4 then if y0 can ((gt l q).A) then if gt can ((gt l q).A) then .bind (W6 F n l can ((gt l q).A) (out++[W (2*q)])) fun walk3=>some walk3 else .bind (W6 F n l can ((gt l q).B) (out++[W (2*q)])) fun walk4=>some walk4 else none else .bind (α:=Bool) ( if ((gt l q).Kind)==7 then some (((gt l q).Kind)==7) else some (((gt l q).Kind)==8)) fun x=>if x then .bind (W6 F n l can ((gt l q).A) (out++[W (2*q)])) fun walk5=>some walk5 else some (out++[W (2*q)])) fun out2=>if I0 8 out2 [W ((W (2*q))+1)] then some (out2++[W ((W (2*q))+1)]) else none else none else none
def j03 (F n:Nat):Sm en.D:=⟨190,[.d (.list (.st 0)),.d (.list .bool),.d (.int .i64),.own 3 (.int .i64)],.own 3 (.int .i64),[],fun x=>W6 F n x.1 x.2.1 x.2.2.1 x.2.2.2⟩
def A0p (F n:Nat):=L1 [j03 F n] 190 ⟨[(12,[(.nrm,⟨[(53,.d .bool)],[]⟩)]),(13,[(.nrm,⟨[(3,.own 3 (.int .i64))],[(2,.any)]⟩)])],[],[],[]⟩ F
def a0b (F:Nat) (l:List D0) (q:Int):Option (List Int):=.bind (X9 F l) fun can=>.bind (α:=Bool) ( if decide (q<0) then some true else some (decide (q>=(can.length:Int)))) fun x=>.bind (α:=Bool) ( if x then some true else if y0 can q then some (!(gt can q)) else none) fun x2=>if x2 then some [] else .bind (W6 F F l can q []) fun walk=>some walk
def h0H (F:Nat):Sm en.D:=⟨158,[.d (.list (.st 0)),.d (.int .i64)],.own 3 (.int .i64),[],fun x=>a0b F x.1 x.2⟩
def D0r (F:Nat):=L1 [h0Q F,j03 F F] 158 ⟨[],[],[(2,3,7,⟨[(10,.any),(15,.d .bool)],[]⟩),(2,9,14,⟨[(16,.any),(22,.d .bool)],[]⟩)],[]⟩ F
def m0O (F:Nat) (l:List D0) (d:Int×(List Int)):Option (U0 (Int×(List Int)) (List Int)):=match d with
 | (x,y)=>if decide (x<(l.length:Int)) then .bind (α:=List Int) ( if y0 l x then .bind (α:=List Int) ( if decide (((gt l x).A)>=0) then if y0 y ((gt l x).A) then some (y.set ((gt l x).A).toNat x) else none else some y) fun y2=>if decide (((gt l x).B)>=0) then if y0 y2 ((gt l x).B) then some (y2.set ((gt l x).B).toNat x) else none else some y2 else none) fun y3=>some (.next (W (x+1),y3)) else some (.done y)
def R9 (F:Nat) (l:List D0):Option (List Int):=.bind (a7 F l) fun right=>if !right then some [] else if B3 8 (l.length:Int) then if y0 (List.replicate (l.length:Int).toNat 0:List Int) (W ((l.length:Int)-1)) then let l2:=(List.replicate (l.length:Int).toNat 0:List Int).set (W ((l.length:Int)-1)).toNat (-1);
    .bind (α:=List Int) ( iter (m0O F l) F (0,l2)) fun y4=>some y4 else none else none
def f0y (F:Nat):Sm en.D:=⟨195,[.d (.list (.st 0))],.own 3 (.int .i64),[],fun x=>R9 F x⟩
def x0i (F:Nat):=L1 [a01 F] 195 ⟨[(10,[(.nrm,⟨[],[(0,.own 3 (.int .i64))]⟩)]),(12,[(.nrm,⟨[],[(0,.own 3 (.int .i64))]⟩)])],[(6,⟨[(19,.d (.int .i64))],[(0,.own 3 (.int .i64))]⟩,[(.ex 0,⟨[(19,.any)],[(0,.own 3 (.int .i64))]⟩)])],[],[]⟩ F
def n0o (F:Nat) (up:List Int) (d:Int×(List Int)):Option (U0 (Int×(List Int)) (List Int)):=match d with
 | (i,y)=>if decide (i>=0) then .bind (α:=List Int) ( if y0 y i then if y0 up i then if decide ((gt up i)>=0) then if y0 (y.set i.toNat 1) i then if y0 up i then if y0 (y.set i.toNat 1) (gt up i) then let x:=W ((gt (y.set i.toNat 1) i)+(gt (y.set i.toNat 1) (gt up i)));
         if y0 (y.set i.toNat 1) i then some ((y.set i.toNat 1).set i.toNat x) else none else none else none else none else some (y.set i.toNat 1) else none else none) fun y2=>some (.next (W (i-1),y2)) else some (.done y)
def a0n (F:Nat) (l:List D0):Option (List Int):=.bind (R9 F l) fun up=>if B3 8 (up.length:Int) then .bind (α:=List Int) ( iter (n0o F up) F (W ((up.length:Int)-1),(List.replicate (up.length:Int).toNat 0:List Int))) fun y3=>some y3 else none
def i05 (F:Nat):Sm en.D:=⟨178,[.d (.list (.st 0))],.own 3 (.int .i64),[],fun x=>a0n F x⟩
def D0o (F:Nat):=L1 [f0y F] 178 ⟨[(5,[(.nrm,⟨[],[(1,.own 3 (.int .i64))]⟩)])],[(4,⟨[(5,.d (.int .i64))],[(1,.own 3 (.int .i64))]⟩,[(.ex 0,⟨[(5,.any)],[(1,.own 3 (.int .i64))]⟩)])],[],[]⟩ F
def o0I (F:Nat) (x:Int) (d:Int×(List Int)):Option (U0 (Int×(List Int)) (List Int)):=match d with
 | (x2,y)=>if decide (x2<x) then if y0 y x2 then some (.next (W (x2+1),y.set x2.toNat (-1))) else none else some (.done y)
def n0B (F:Nat) (leaves:List Int) (d:Int×(List Int)):Option (U0 (Int×(List Int)) (List Int)):=match d with
 | (x3,y3)=>if decide (x3<(leaves.length:Int)) then if y0 leaves x3 then if y0 y3 (gt leaves x3) then some (.next (W (x3+1),y3.set (gt leaves x3).toNat x3)) else none else none else some (.done y3)
def b0L (F:Nat) (l:List D0):Option (List Int):=.bind (a7 F l) fun right=>if !right then some [] else if B3 8 (l.length:Int) then let x:=((List.replicate (l.length:Int).toNat 0:List Int).length:Int);
   .bind (α:=List Int) ( iter (o0I F x) F (0,(List.replicate (l.length:Int).toNat 0:List Int))) fun y2=>.bind (E7 F l) fun leaves=>.bind (α:=List Int) ( iter (n0B F leaves) F (0,y2)) fun y4=>some y4 else none
def o0E (F:Nat):Sm en.D:=⟨196,[.d (.list (.st 0))],.own 3 (.int .i64),[],fun x=>b0L F x⟩
def x0U (F:Nat):=L1 [a01 F,e0Q F] 196 ⟨[],[(10,⟨[(25,.d (.int .i64))],[(0,.own 3 (.int .i64))]⟩,[(.ex 2,⟨[(25,.any)],[(0,.own 3 (.int .i64))]⟩)]),(5,⟨[(15,.d (.int .i64))],[(0,.own 3 (.int .i64))]⟩,[(.ex 0,⟨[(15,.any)],[(0,.own 3 (.int .i64))]⟩)])],[],[]⟩ F
def a0F (F:Nat) (l:List D0):Option ((Unit ⊕ X4)×Bool):=.bind (a7 F l) fun right=>if !right then some ((.inl ()),false) else .bind (R9 F l) fun up=>.bind (a0n F l) fun deep=>.bind (b0L F l) fun index=>.bind (X9 F l) fun can=>some ((.inr (⟨l,up,deep,index,can⟩:X4)),true)
def k0s (F:Nat):Sm en.D:=⟨170,[.d (.list (.st 0))],.tup [.alt .nilp (.box 239 [.d (.st 20)]),.d .bool],[],fun x=>a0F F x⟩
def F0M (F:Nat):=L1 [a01 F,h0Q F,i05 F,f0y F,o0E F] 170 Y4 F
def a0E (F:Nat) (l:List D0) (p:Int):Option ((Unit ⊕ X4)×Int×Bool):=.bind (α:=(Unit ⊕ X4)×Bool) ( .bind (a0F F l) fun (of,of3)=>match of with
  | .inl _=>some ((.inl ()),of3)
  | .inr of2=>some ((.inr of2),of3)) fun (c,ok)=>match c with
 | .inl _=>if !ok then some ((.inl ()),0,false) else .bind (E7 F l) fun leaves2=>.bind (α:=Bool) ( if decide (p<0) then some true else some (decide (p>=(leaves2.length:Int)))) fun x2=>if x2 then some ((.inl ()),0,false) else if y0 leaves2 p then some ((.inl ()),gt leaves2 p,true) else none
 | .inr c2=>if !ok then some ((.inl ()),0,false) else .bind (E7 F l) fun leaves=>.bind (α:=Bool) ( if decide (p<0) then some true else some (decide (p>=(leaves.length:Int)))) fun x=>if x then some ((.inl ()),0,false) else if y0 leaves p then some ((.inr c2),gt leaves p,true) else none
def j0D (F:Nat):Sm en.D:=⟨159,[.d (.list (.st 0)),.d (.int .i64)],.tup [.alt .nilp (.box 239 [.d (.st 20)]),.d (.int .i64),.d .bool],[],fun x=>a0E F x.1 x.2⟩
def w01 (F:Nat):=L1 [e0Q F,k0s F] 159 ⟨[(2,[(.nrm,⟨[(7,.alt .nilp (.box 239 [.d (.st 20)])),(8,.d .bool)],[]⟩)])],[],[(5,3,7,⟨[(21,.any),(26,.d .bool)],[]⟩)],[]⟩ F
def N8 (F:Nat) (a:List Int) (b:List Int):Option (List Int):=if decide ((a.length:Int)=(a.length:Int))&&(S4 a 0 (a.length:Int)&&(decide ((a.length:Int)<=(a.length:Int))&&decide ((a.length:Int)<=(a.length:Int)))) then if I0 8 (U1 a 0 (a.length:Int)) b then some ((U1 a 0 (a.length:Int))++b) else none else none
def k0K (F:Nat):Sm en.D:=⟨192,[.d (.list (.int .i64)),.d (.list (.int .i64))],.d (.list (.int .i64)),[],fun x=>N8 F x.1 x.2⟩
def C0g (F:Nat):=L1 [] 192 Y4 F
def o6 (F:Nat):Nat->X4->Int->(List Int)->(List B0)->Option (List B0)
 | 0,_,_,_,_=>none
 | n+1,c,q,ahead,out=>if y0 c.l q then .bind (N8 F ahead [W (2*q)]) fun more=>.bind (α:=(List B0) ⊕ (List B0)) ( if ((gt c.l q).Kind)==2 then if y0 c.index q then if I0 40 out [(⟨gt c.index q,0,more⟩:B0)] then some (.inl (out++[(⟨gt c.index q,0,more⟩:B0)])) else none else none else if ((gt c.l q).Kind)==3 then .bind (o6 F n c ((gt c.l q).A) more out) fun Z0=>if y0 c.can ((gt c.l q).A) then if gt c.can ((gt c.l q).A) then .bind (a0b F c.l ((gt c.l q).A)) fun steps=>.bind (N8 F more steps) fun more2=>.bind (o6 F n c ((gt c.l q).B) more2 Z0) fun into2=>some (.inr into2) else some (.inr Z0) else none else if ((gt c.l q).Kind)==4 then .bind (o6 F n c ((gt c.l q).A) more out) fun into3=>.bind (o6 F n c ((gt c.l q).B) more into3) fun into4=>some (.inr into4) else .bind (α:=Bool) ( if ((gt c.l q).Kind)==5 then some (((gt c.l q).Kind)==5) else if ((gt c.l q).Kind)==6 then some (((gt c.l q).Kind)==6) else if ((gt c.l q).Kind)==7 then some (((gt c.l q).Kind)==7) else some (((gt c.l q).Kind)==8)) fun x=>if x then .bind (o6 F n c ((gt c.l q).A) more out) fun into5=>some (.inr into5) else some (.inr out)) fun z_=>match z_ with
  | .inl x2=>some x2
  | .inr out2=>some out2 else none
def i0w (F n:Nat):Sm en.D:=⟨172,[.d (.ptr (.st 20)),.d (.int .i64),.d (.list (.int .i64)),.own 121 (.st 3)],.own 121 (.st 3),[],fun x=>o6 F n x.1 x.2.1 x.2.2.1 x.2.2.2⟩
def z06 (F n:Nat):=L1 [h0H F,i0w F n,k0K F] 172 ⟨[(16,[(.nrm,⟨[(82,.d .bool)],[]⟩)]),(17,[(.ret,⟨[(8,.own 121 (.st 3))],[(0,.any)]⟩),(.nrm,⟨[(3,.own 121 (.st 3))],[(0,.any)]⟩)])],[],[],[]⟩ F
def n0W (F:Nat) (Z0:List B0) (out2:List B0) (x:Int) (d:Int):Option (U0 Int (Int ⊕ Unit)):=match d with
 | x2=>if decide (x2<(out2.length:Int)) then if y0 out2 x2 then if ((gt out2 x2).To)==((gt Z0 x).To) then some (.done (.inl x2)) else some (.next (W (x2+1))) else none else some (.done (.inr ()))
def l07 (F:Nat) (c:X4) (at_:Int) (Z0:List B0) (d:(List B0)×Int):Option (U0 ((List B0)×Int) (List B0)):=match d with
 | (out2,x)=>if decide (x<(Z0.length:Int)) then .bind (α:=List B0) ( if y0 Z0 x then .bind (α:=Bool) ( .bind (α:=Int ⊕ Unit) ( iter (n0W F Z0 out2 x) F 0) fun z_=>match z_ with
     | .inl x3=>some (!(decide (x3>=0)))
     | .inr _=>some (!(decide ((-1)>=0)))) fun x2=>if x2 then if y0 c.deep at_ then if I0 40 out2 [(⟨(gt Z0 x).To,gt c.deep at_,(gt Z0 x).Steps⟩:B0)] then let l:=out2++[(⟨(gt Z0 x).To,gt c.deep at_,(gt Z0 x).Steps⟩:B0)];
       some l else none else none else some out2 else none) fun out3=>some (.next (out3,W (x+1))) else some (.done out2)
def a0I (F:Nat) (c:X4) (at_:Int) (goal:Int) (ahead:List Int) (out:List B0):Option (List B0):=.bind (o6 F F c goal ahead []) fun Z0=>.bind (α:=List B0) ( iter (l07 F c at_ Z0) F (out,0)) fun out4=>some out4
def m0j (F:Nat):Sm en.D:=⟨191,[.d (.ptr (.st 20)),.d (.int .i64),.d (.int .i64),.d (.list (.int .i64)),.own 121 (.st 3)],.own 121 (.st 3),[],fun x=>a0I F x.1 x.2.1 x.2.2.1 x.2.2.2.1 x.2.2.2.2⟩
def y0V (F:Nat):P4 en:=⟨[i0w F F],fun g=>if Nat.beq g 191 then ⟨[(5,[(.nrm,⟨[(25,.d .bool)],[]⟩)]),(7,[(.nrm,⟨[(4,.own 121 (.st 3))],[(0,.any),(2,.any)]⟩)])],[(2,⟨[(4,.own 121 (.st 3)),(18,.d (.int .i64))],[(0,.any)]⟩,[(.ex 0,⟨[(4,.own 121 (.st 3)),(18,.any)],[(0,.any)]⟩)])],[],[]⟩ else if Nat.beq g 200 then Y4 else if Nat.beq g 201 then Y4 else if Nat.beq g 214 then ⟨[],[(2,⟨[(8,.d (.int .i64))],[]⟩,[(.ret,⟨[(4,.d (.int .i64)),(8,.any)],[]⟩),(.ex 0,⟨[(8,.any)],[]⟩)])],[],[]⟩ else Y4,F,[]⟩
def p0D (F:Nat) (c:X4) (d:Int×(List Int)×(List B0)×Int):Option (U0 (Int×(List Int)×(List B0)×Int) ((List B0) ⊕ ((List Int)×(List B0)))):=match d with
 | (q2,s,out,x)=>if decide (x>=0) then if y0 c.l x then .bind (α:=(List B0) ⊕ ((List Int)×(List B0))) ( .bind (α:=Bool) ( if ((gt c.l x).Kind)==3 then some (((gt c.l x).A)==q2) else some false) fun x2=>if x2 then .bind (a0I F c x ((gt c.l x).B) s out) fun turns=>if y0 c.can ((gt c.l x).B) then if !(gt c.can ((gt c.l x).B)) then some (.inl turns) else .bind (a0b F c.l ((gt c.l x).B)) fun steps=>.bind (N8 F s steps) fun more=>some (.inr (more,turns)) else none else if ((gt c.l x).Kind)==5 then .bind (a0I F c x ((gt c.l x).A) s out) fun turns2=>some (.inr (s,turns2)) else some (.inr (s,out))) fun z_=>match z_ with
   | .inl x3=>some (.done (.inl x3))
   | .inr (s2,out2)=>.bind (N8 F s2 [W ((W (2*x))+1)]) fun more2=>if y0 c.up x then some (.next (x,more2,out2,gt c.up x)) else none else none else some (.done (.inr (s,out)))
def a0Q (F:Nat) (c:X4) (q:Int):Option ((List B0)×(List Int)):=if y0 c.up q then .bind (α:=(List B0) ⊕ ((List Int)×(List B0))) ( iter (p0D F c) F (q,[W ((W (2*q))+1)],[],gt c.up q)) fun z_=>match z_ with
  | .inl x4=>some (x4,[])
  | .inr (s3,out3)=>some (out3,s3) else none
def l02 (F:Nat):Sm en.D:=⟨160,[.d (.ptr (.st 20)),.d (.int .i64)],.tup [.own 121 (.st 3),.d (.list (.int .i64))],[],fun x=>a0Q F x.1 x.2⟩
def C0i (F:Nat):=L1 [h0H F,m0j F,k0K F] 160 ⟨[(14,[(.ret,⟨[(4,.own 121 (.st 3)),(5,.nil),(7,.any)],[(0,.any),(1,.any)]⟩),(.nrm,⟨[(6,.d (.list (.int .i64))),(7,.own 121 (.st 3))],[(0,.any),(1,.any)]⟩)])],[(4,⟨[(1,.d (.int .i64)),(6,.d (.list (.int .i64))),(7,.own 121 (.st 3)),(8,.d (.int .i64))],[(0,.any)]⟩,[(.ret,⟨[(1,.any),(4,.own 121 (.st 3)),(5,.nil),(6,.any),(7,.any),(8,.any)],[(0,.any)]⟩),(.ex 0,⟨[(1,.any),(6,.d (.list (.int .i64))),(7,.own 121 (.st 3)),(8,.any)],[(0,.any)]⟩)])],[(7,4,8,⟨[(42,.any),(47,.d .bool)],[]⟩)],[]⟩ F
def Y8 (F:Nat) (l:List D0) (p:Int):Option (B0×Bool):=.bind (α:=List Int) ( if p==(-1) then .bind (a0b F l (W ((l.length:Int)-1))) fun steps=>some steps else .bind (α:=(Unit ⊕ X4)×Int×Bool) ( .bind (a0E F l p) fun (at_,at_3,at_4)=>match at_ with
    | .inl _=>some ((.inl ()),at_3,at_4)
    | .inr at_2=>some ((.inr at_2),at_3,at_4)) fun (c,q,ok)=>match c with
   | .inl _=>if ok then none else some []
   | .inr c2=>if ok then .bind (a0Q F c2 q) fun (climb,climb2)=>some climb2 else some []) fun s=>if (s.length:Int)==0 then some ((⟨0,0,[]⟩:B0),false) else some ((⟨(-1),0,s⟩:B0),true)
def j0y (F:Nat):Sm en.D:=⟨112,[.d (.list (.st 0)),.d (.int .i64)],.tup [.d (.st 3),.d .bool],[],fun x=>Y8 F x.1 x.2⟩
def y0t (F:Nat):=L1 [h0H F,j0D F,l02 F] 112 ⟨[(5,[(.nrm,⟨[(7,.alt .nilp (.box 239 [.d (.st 20)])),(8,.d (.int .i64)),(9,.d .bool)],[]⟩)]),(7,[(.nrm,⟨[(6,.d (.list (.int .i64)))],[]⟩)])],[],[],[]⟩ F
def v0K (F:Nat) (groups:List Int) (d:(List P2)×Int):Option (U0 ((List P2)×Int) (List P2)):=match d with
 | (out,x4)=>if decide (x4<(groups.length:Int)) then if y0 groups x4 then if I0 16 out [(⟨3,gt groups x4⟩:P2)] then some (.next (out++[(⟨3,gt groups x4⟩:P2)],W (x4+1))) else none else none else some (.done out)
def k0Q (F:Nat) (l:List D0) (s:Int):Option (List P2):=.bind (α:=Bool) ( if decide (s<0) then some true else some (decide ((W (s.tdiv 2))>=(l.length:Int)))) fun x=>if x then some [] else if y0 l (W (s.tdiv 2)) then .bind (α:=Bool) ( if ((gt l (W (s.tdiv 2))).Kind)==7 then some ((s.tmod 2)==0) else some false) fun x2=>if x2 then some [(⟨1,(gt l (W (s.tdiv 2))).N⟩:P2)] else if ((gt l (W (s.tdiv 2))).Kind)==7 then some [(⟨2,(gt l (W (s.tdiv 2))).N⟩:P2)] else .bind (α:=Bool) ( if ((gt l (W (s.tdiv 2))).Kind)==8 then some ((s.tmod 2)==0) else some false) fun x3=>if x3 then .bind (h0k F l (W (s.tdiv 2))) fun groups=>.bind (α:=List P2) ( iter (v0K F groups) F ([],0)) fun out2=>some out2 else some [] else none
def o0d (F:Nat):Sm en.D:=⟨161,[.d (.list (.st 0)),.d (.int .i64)],.own 188 (.st 4),[],fun x=>k0Q F x.1 x.2⟩
def C09 (F:Nat):P4 en:=⟨[k0Z F],fun g=>if Nat.beq g 161 then ⟨[],[(11,⟨[(6,.own 188 (.st 4)),(64,.d (.int .i64))],[]⟩,[(.ex 1,⟨[(6,.own 188 (.st 4)),(64,.any)],[]⟩)])],[(1,3,8,⟨[(11,.any),(17,.d .bool)],[]⟩),(4,4,7,⟨[(27,.any),(31,.d .bool)],[]⟩),(8,4,7,⟨[(54,.any),(58,.d .bool)],[]⟩)],[]⟩ else if Nat.beq g 193 then Y4 else Y4,F,[]⟩
def l0J (F:Nat) (l:List D0) (steps:List Int) (d:(List P2)×Int):Option (U0 ((List P2)×Int) (List P2)):=match d with
 | (out,x)=>if decide (x<(steps.length:Int)) then if y0 steps x then .bind (k0Q F l (gt steps x)) fun step=>if I0 16 out step then some (.next (out++step,W (x+1))) else none else none else some (.done out)
def f0H (F:Nat) (l:List D0) (steps:List Int):Option (List P2):=.bind (a7 F l) fun right=>if !right then some [] else .bind (α:=List P2) ( iter (l0J F l steps) F ([],0)) fun out2=>some out2
def l0q (F:Nat):Sm en.D:=⟨113,[.d (.list (.st 0)),.d (.list (.int .i64))],.own 188 (.st 4),[],fun x=>f0H F x.1 x.2⟩
def H0g (F:Nat):=L1 [a01 F,o0d F] 113 ⟨[],[(5,⟨[(5,.own 188 (.st 4)),(13,.d (.int .i64))],[]⟩,[(.ex 0,⟨[(5,.own 188 (.st 4)),(13,.any)],[]⟩)])],[],[]⟩ F
def p0f (F:Nat) (l:List B0) (d:Int×(List B0)):Option (U0 (Int×(List B0)) (List B0)):=match d with
 | (x,y)=>if decide (x<(l.length:Int)) then if y0 y x then if B3 8 (((gt y x).Steps).length:Int) then if y0 y x then let l2:=M4 (List.replicate (((gt y x).Steps).length:Int).toNat 0:List Int) ((gt y x).Steps);
     if y0 y x then some (.next (W (x+1),y.set x.toNat ({ gt y x with Steps:=l2 }))) else none else none else none else none else some (.done y)
def a0L (F:Nat) (l:List B0):Option (List B0):=.bind (α:=List B0) ( iter (p0f F l) F (0,l)) fun y2=>some y2
def k01 (F:Nat):Sm en.D:=⟨171,[.own 121 (.st 3)],.own 121 (.st 3),[],fun x=>a0L F x⟩
def G0l (F:Nat):=L1 [] 171 ⟨[],[(2,⟨[(7,.d (.int .i64))],[(0,.own 121 (.st 3))]⟩,[(.ex 0,⟨[(7,.any)],[(0,.own 121 (.st 3))]⟩)])],[],[]⟩ F
def b0u (F:Nat) (l:List D0) (q:Int):Option (List B0):=.bind (α:=(Unit ⊕ X4)×Bool) ( .bind (a0F F l) fun (of,of3)=>match of with
  | .inl _=>some ((.inl ()),of3)
  | .inr of2=>some ((.inr of2),of3)) fun (c,ok)=>match c with
 | .inl _=>.bind (α:=Bool) ( if !ok then some true else some (decide (q<0))) fun x3=>.bind (α:=Bool) ( if x3 then some true else some (decide (q>=(l.length:Int)))) fun x4=>if x4 then some [] else none
 | .inr c2=>.bind (α:=Bool) ( if !ok then some true else some (decide (q<0))) fun x=>.bind (α:=Bool) ( if x then some true else some (decide (q>=(l.length:Int)))) fun x2=>if x2 then some [] else .bind (o6 F F c2 q [] []) fun Z0=>.bind (a0L F Z0) fun own=>some own
def p0K (F:Nat):Sm en.D:=⟨128,[.d (.list (.st 0)),.d (.int .i64)],.own 121 (.st 3),[],fun x=>b0u F x.1 x.2⟩
def B0P (F:Nat):=L1 [k0s F,k01 F,i0w F F] 128 ⟨[(2,[(.nrm,⟨[(5,.alt .nilp (.box 239 [.d (.st 20)])),(6,.d .bool)],[]⟩)])],[],[(2,3,5,⟨[(14,.any),(17,.d .bool)],[]⟩),(2,7,11,⟨[(18,.any),(23,.d .bool)],[]⟩)],[]⟩ F
def m0n (F:Nat) (s:List B0):Option (List B0):=if b0k (fun x:B0=>x.To) s then some (j7 (fun x:B0=>x.To) s) else none
def s0x (F:Nat):Sm en.D:=⟨173,[.own 121 (.st 3),.fn 174 []],.tup [],[(0,.own 121 (.st 3))],fun x=>m0n F x⟩
def a09 (F:Nat) (l:List D0) (p:Int):Option (List B0):=.bind (α:=(Unit ⊕ X4)×Int×Bool) ( .bind (a0E F l p) fun (at_,at_3,at_4)=>match at_ with
  | .inl _=>some ((.inl ()),at_3,at_4)
  | .inr at_2=>some ((.inr at_2),at_3,at_4)) fun (c,q,ok)=>match c with
 | .inl _=>if !ok then some [] else none
 | .inr c2=>if !ok then some [] else .bind (a0Q F c2 q) fun (climb,climb2)=>.bind (m0n F climb) fun b0=>.bind (a0L F b0) fun own=>some own
def p0v (F:Nat):Sm en.D:=⟨129,[.d (.list (.st 0)),.d (.int .i64)],.own 121 (.st 3),[],fun x=>a09 F x.1 x.2⟩
def D09 (F:Nat):=L1 [j0D F,l02 F,k01 F,s0x F] 129 ⟨[(2,[(.nrm,⟨[(5,.alt .nilp (.box 239 [.d (.st 20)])),(6,.d (.int .i64)),(7,.d .bool)],[]⟩)])],[],[],[]⟩ F
def h01 (F:Nat) (x:Int) (y:Int):Option (Int×Int):=let x2:=IntKind.u64.wrap ((D3 .u64 x 4294967295)*(D3 .u64 y 4294967295));
 let x3:=IntKind.u64.wrap ((shr .u64 x 32)*(D3 .u64 y 4294967295));
 let x4:=D3 .u64 (IntKind.u64.wrap (x3+(shr .u64 x2 32))) 4294967295;
 let x5:=shr .u64 (IntKind.u64.wrap (x3+(shr .u64 x2 32))) 32;
 let x6:=IntKind.u64.wrap ((D3 .u64 x 4294967295)*(shr .u64 y 32));
 let x7:=IntKind.u64.wrap ((shr .u64 x 32)*(shr .u64 y 32));
 let x8:=IntKind.u64.wrap ((IntKind.u64.wrap (x7+x5))+(shr .u64 (IntKind.u64.wrap (x4+x6)) 32));
 some (x8,IntKind.u64.wrap (x*y))
def e05 (F:Nat) (x:Int) (y:Int):Option (Int×Int):=.bind (h01 F x y) fun (mul64,mul642)=>some (mul64,mul642)
def p0p (F:Nat) (s:List Int) (n:Int):Option (List Int):=g07 s n
def w0i (F:Nat):Sm en.D:=⟨194,[.d (.list (.int .i64)),.d (.int .i64)],.own 3 (.int .i64),[],fun x=>p0p F x.1 x.2⟩
def k0C (F:Nat) (n_:Int) (none_:Int):Option (List Int):=if decide (n_<1) then some [] else .bind (p0p F [none_] n_) fun repeat_=>some repeat_
def m04 (F:Nat):Sm en.D:=⟨162,[.d (.int .i64),.d (.int .i64)],.own 3 (.int .i64),[],fun x=>k0C F x.1 x.2⟩
def D0a (F:Nat):=L1 [w0i F] 162 Y4 F
def g06 (F:Nat) (l:List (List Int)) (n_:Int) (d:Int):Option (U0 Int (Unit ⊕ Unit)):=match d with
 | x=>if decide (x<(l.length:Int)) then if y0 l x then if ((gt l x).length:Int) != n_ then some (.done (.inl ())) else some (.next (W (x+1))) else none else some (.done (.inr ()))
def i0M (F:Nat) (l:List (List Int)) (n_:Int):Option Bool:=.bind (α:=Unit ⊕ Unit) ( iter (g06 F l n_) F 0) fun z_=>match z_ with
 | .inl _=>some false
 | .inr _=>some ((l.length:Int)==n_)
def p0Z (F:Nat):Sm en.D:=⟨157,[.d (.list (.list (.int .i64))),.d (.int .i64)],.d .bool,[],fun x=>i0M F x.1 x.2⟩
def A0s (F:Nat):=L1 [] 157 ⟨[],[(2,⟨[(9,.d (.int .i64))],[]⟩,[(.ret,⟨[(4,.kb false),(9,.any)],[]⟩),(.ex 0,⟨[(9,.any)],[]⟩)])],[],[]⟩ F
def i0A (F:Nat) (x:E1) (n_:Int) (x3:Int) (d:Int):Option (U0 Int (Unit ⊕ Unit)):=match d with
 | x5=>if decide (x5<n_) then if y0 x.D x3 then if y0 (gt x.D x3) x5 then if y0 x.B x3 then if y0 (gt x.B x3) x5 then .bind (α:=Bool) ( if decide ((gt (gt x.B x3) x5)<0) then some true else .bind (α:=Bool) ( if x3 != x5 then if (gt (gt x.D x3) x5) != 1 then if (gt (gt x.D x3) x5) != (-1) then some true else if y0 x.D x5 then if y0 (gt x.D x5) x3 then let x6:=(gt (gt x.D x5) x3) != (W (0-(gt (gt x.D x3) x5)));
              some x6 else none else none else if y0 x.D x5 then if y0 (gt x.D x5) x3 then let x7:=(gt (gt x.D x5) x3) != (W (0-(gt (gt x.D x3) x5)));
             some x7 else none else none else some false) fun x8=>some x8) fun x9=>if x9 then some (.done (.inl ())) else some (.next (W (x5+1))) else none else none else none else none else some (.done (.inr ()))
def i0l (F:Nat) (x:E1) (n_:Int) (d:Int):Option (U0 Int (Unit ⊕ Unit)):=match d with
 | x3=>if decide (x3<n_) then if y0 x.B x3 then if y0 (gt x.B x3) x3 then .bind (α:=Bool) ( if (gt (gt x.B x3) x3) != 0 then some true else if y0 x.D x3 then if y0 (gt x.D x3) x3 then some ((gt (gt x.D x3) x3) != 0) else none else none) fun x4=>if x4 then some (.done (.inl ())) else .bind (α:=Unit ⊕ Unit) ( iter (i0A F x n_ x3) F 0) fun z_=>match z_ with
     | .inl _=>some (.done (.inl ()))
     | .inr _=>some (.next (W (x3+1))) else none else none else some (.done (.inr ()))
def h0O (F:Nat) (x:E1) (n_:Int):Option Bool:=.bind (i0M F x.B n_) fun square=>.bind (α:=Bool) ( if !square then some true else .bind (i0M F x.D n_) fun square2=>some (!square2)) fun x2=>if x2 then some false else .bind (α:=Unit ⊕ Unit) ( iter (i0l F x n_) F 0) fun z_=>match z_ with
  | .inl _=>some false
  | .inr _=>some true
def j0Y (F:Nat):Sm en.D:=⟨110,[.d (.st 7),.d (.int .i64)],.d .bool,[],fun x=>h0O F x.1 x.2⟩
def C0Q (F:Nat):=L1 [p0Z F] 110 ⟨[],[(4,⟨[(21,.d (.int .i64))],[]⟩,[(.ret,⟨[(4,.kb false),(21,.any)],[]⟩),(.ex 0,⟨[(21,.any)],[]⟩)]),(9,⟨[(45,.d (.int .i64))],[]⟩,[(.ret,⟨[(4,.kb false),(45,.any)],[]⟩),(.ex 2,⟨[(45,.any)],[]⟩)])],[(1,6,11,⟨[(13,.any),(19,.d .bool)],[]⟩),(6,10,19,⟨[(33,.any),(43,.d .bool)],[]⟩),(12,10,34,⟨[(65,.any),(90,.d .bool)],[]⟩),(12,14,33,⟨[(69,.any),(89,.d .bool)],[]⟩)],[]⟩ F
def d0J (F:Nat) (x:E1):Option Bool:=.bind (h0O F x (x.B.length:Int)) fun right=>some right
def e06 (F:Nat):Sm en.D:=⟨133,[.d (.st 7)],.d .bool,[],fun x=>d0J F x⟩
def B0Q (F:Nat):=L1 [j0Y F] 133 Y4 F
def k0H (F:Nat) (n_:Int) (x:Int) (d:Int×(List (List Int))):Option (U0 (Int×(List (List Int))) (List (List Int))):=match d with
 | (x2,y)=>if decide (x2<x) then if B3 8 n_ then if y0 y x2 then let t:=y.set x2.toNat (List.replicate n_.toNat 0:List Int);
    some (.next (W (x2+1),t)) else none else none else some (.done y)
def e0G (F:Nat) (n_:Int):Option (List (List Int)):=if B3 24 n_ then let x:=((List.replicate n_.toNat []:List (List Int)).length:Int);
  .bind (α:=List (List Int)) ( iter (k0H F n_ x) F (0,(List.replicate n_.toNat []:List (List Int)))) fun y2=>some y2 else none
def j0p (F:Nat):Sm en.D:=⟨139,[.d (.int .i64)],.V0 47 [3] (.list (.int .i64)),[],fun x=>e0G F x⟩
def H0f (F:Nat):=L1 [] 139 ⟨[],[(3,⟨[(9,.d (.int .i64))],[(0,.V0 47 [3] (.list (.int .i64)))]⟩,[(.ex 0,⟨[(9,.any)],[(0,.V0 47 [3] (.list (.int .i64)))]⟩)])],[],[6]⟩ F
def i0O (F:Nat) (x:E1) (d:Int×(List (List Int))×(List (List Int))):Option (U0 (Int×(List (List Int))×(List (List Int))) ((List (List Int))×(List (List Int)))):=match d with
 | (x2,y,y2)=>if decide (x2<(x.B.length:Int)) then if y0 y x2 then if y0 x.B x2 then if y0 y2 x2 then if y0 x.D x2 then let t:=y2.set x2.toNat (M4 (gt y2 x2) (gt x.D x2));
      if y0 t x2 then if y0 t (x.B.length:Int) then if y0 (gt t x2) (x.B.length:Int) then let t2:=t.set x2.toNat ((gt t x2).set (x.B.length:Int).toNat 1);
         if y0 (gt t2 (x.B.length:Int)) x2 then let t3:=t2.set (x.B.length:Int).toNat ((gt t2 (x.B.length:Int)).set x2.toNat (-1));
          some (.next (W (x2+1),y.set x2.toNat (M4 (gt y x2) (gt x.B x2)),t3)) else none else none else none else none else none else none else none else none else some (.done (y,y2))
def i04 (F:Nat) (x:E1):Option E1:=.bind (d0J F x) fun right=>if !right then some (⟨[],[]⟩:E1) else .bind (e0G F (W ((x.B.length:Int)+1))) fun table=>.bind (e0G F (W ((x.B.length:Int)+1))) fun table2=>.bind (α:=(List (List Int))×(List (List Int))) ( iter (i0O F x) F (0,table,table2)) fun (y3,y4)=>some (⟨y3,y4⟩:E1)
def m0Y (F:Nat):Sm en.D:=⟨132,[.d (.st 7)],.d (.st 7),[],fun x=>i04 F x⟩
def B0i (F:Nat):=L1 [e06 F,j0p F] 132 ⟨[],[(6,⟨[(21,.d (.int .i64))],[(2,.V0 47 [3] (.list (.int .i64))),(3,.V0 47 [3] (.list (.int .i64)))]⟩,[(.ex 0,⟨[(21,.any)],[(2,.V0 47 [3] (.list (.int .i64))),(3,.V0 47 [3] (.list (.int .i64)))]⟩)])],[],[]⟩ F
def l0m (F:Nat) (s:List Int) (b:Int):Option Bool:=if decide (0<=IntKind.u8.wrap (b.tdiv 64))&&decide (IntKind.u8.wrap (b.tdiv 64)<4) then if !decide (b.tmod 64<0) then let x:=D3 .u64 (gt s (IntKind.u8.wrap (b.tdiv 64))) (shl .u64 1 (b.tmod 64));
   some (x != 0) else none else none
def n0K (F:Nat):Sm en.D:=⟨116,[.d (.arr 4 (.int .u64)),.d (.int .u8)],.d .bool,[],fun x=>l0m F x.1 x.2⟩
def B0K (F:Nat):=L1 [] 116 Y4 F
def e0y (F:Nat) (x:E1) (i:Int):Option Bool:=.bind (α:=Bool) ( if decide (i>=0) then some (decide (i<(x.B.length:Int))) else some false) fun x2=>some x2
def i0p (F:Nat):Sm en.D:=⟨134,[.d (.st 7),.d (.int .i64)],.d .bool,[],fun x=>e0y F x.1 x.2⟩
def D0E (F:Nat):=L1 [] 134 ⟨[],[],[(1,3,8,⟨[(7,.any),(13,.d .bool)],[]⟩)],[]⟩ F
def d0X (F:Nat) (g:a0y) (i:Int) (k:Int):Option Int:=if y0 g.from_ i then if y0 g.Rank.B (gt g.from_ i) then if y0 g.from_ k then if y0 (gt g.Rank.B (gt g.from_ i)) (gt g.from_ k) then let x:=gt (gt g.Rank.B (gt g.from_ i)) (gt g.from_ k);
     if y0 g.hops i then let x2:=if (W (((gt g.hops i).Turn)+1))<x then W (((gt g.hops i).Turn)+1) else x;
      some x2 else none else none else none else none else none
def k0X (F:Nat):Sm en.D:=⟨141,[.d (.st 19),.d (.int .i64),.d (.int .i64)],.d (.int .i64),[],fun x=>d0X F x.1 x.2.1 x.2.2⟩
def H0B (F:Nat):=L1 [] 141 Y4 F
def g0u (F:Nat) (g:a0y) (i:Int) (k:Int):Option Int:=.bind (d0X F g i k) fun low=>.bind (d0X F g k i) fun low2=>if decide (low>low2) then some 1 else if decide (low<low2) then some (-1) else if y0 g.from_ i then if y0 g.Rank.D (gt g.from_ i) then if y0 g.from_ k then if y0 (gt g.Rank.D (gt g.from_ i)) (gt g.from_ k) then let x:=gt (gt g.Rank.D (gt g.from_ i)) (gt g.from_ k);
       some x else none else none else none else none
def l0D (F:Nat):Sm en.D:=⟨135,[.d (.st 19),.d (.int .i64),.d (.int .i64)],.d (.int .i64),[],fun x=>g0u F x.1 x.2.1 x.2.2⟩
def F07 (F:Nat):=L1 [k0X F] 135 Y4 F
def l0G (F:Nat) (x:E1) (from_:List Int) (hops:List B0) (x2:Int) (d:Int×Int):Option (U0 (Int×Int) Int):=match d with
 | (U2,x3)=>if decide (x3<x2) then .bind (α:=Int) ( if y0 from_ x3 then .bind (e0y F x (gt from_ x3)) fun has=>.bind (α:=Bool) ( if has then .bind (α:=Bool) ( if decide (U2<0) then some true else .bind (g0u F (⟨x,from_,hops⟩:a0y) x3 U2) fun ahead=>some (decide (ahead>0))) fun x4=>some x4 else some false) fun x5=>if x5 then some x3 else some U2 else none) fun best2=>some (.next (best2,W (x3+1))) else some (.done U2)
def h0Y (F:Nat) (x:E1) (from_:List Int) (hops:List B0):Option Int:=.bind (d0J F x) fun right=>if !right then some (-1) else let x2:=if (hops.length:Int)<(from_.length:Int) then (hops.length:Int) else (from_.length:Int);
  .bind (α:=Int) ( iter (l0G F x from_ hops x2) F ((-1),0)) fun best3=>some best3
def o0A (F:Nat):Sm en.D:=⟨71,[.d (.st 7),.d (.list (.int .i64)),.d (.list (.st 3))],.d (.int .i64),[],fun x=>h0Y F x.1 x.2.1 x.2.2⟩
def x0o (F:Nat):=L1 [e06 F,i0p F,l0D F] 71 ⟨[(10,[(.nrm,⟨[(7,.d (.int .i64))],[]⟩)])],[(6,⟨[(7,.d (.int .i64)),(23,.d (.int .i64))],[]⟩,[(.ex 0,⟨[(7,.d (.int .i64)),(23,.any)],[]⟩)])],[(8,7,16,⟨[(32,.any),(42,.d .bool)],[]⟩),(8,10,15,⟨[(35,.any),(41,.d .bool)],[]⟩)],[]⟩ F
def k0h (F:Nat) (s:List Int):Option (List Int):=if I0 8 ([]:List Int) s then some s else none
def j0G (F:Nat):Sm en.D:=⟨75,[.d (.list (.int .i64))],.own 3 (.int .i64),[],fun x=>k0h F x⟩
def u08 (F:Nat):P4 en:=⟨[],fun _=>⟨[],[],[],[4]⟩,F,[]⟩
def L4 (now none_:Int) (out:List Int) (m:P2):List Int:=if m.Group<1\/((out.length:Int)-1) / 2<m.Group then out else if m.Kind=1 then out.set (2*m.Group-1).toNat now else if m.Kind=2 then out.set (2*m.Group).toNat now else if m.Kind=3 then (out.set (2*m.Group-1).toNat none_).set (2*m.Group).toNat none_ else out
def c01 (F:Nat) (tags:List Int) (marks:List P2) (now none_:Int):Option (List Int):=if I0 8 ([]:List Int) tags&&decide (marks.length<=1000000000) then some (marks.foldl (L4 now none_) tags) else none
def j0W (F:Nat):Sm en.D:=⟨72,[.d (.list (.int .i64)),.d (.list (.st 4)),.d (.int .i64),.d (.int .i64)],.own 3 (.int .i64),[],fun x=>c01 F x.1 x.2.1 x.2.2.1 x.2.2.2⟩
def a0m (up low:List Int) (b:Int) (q:Int):Option (U0 Int Int):=if decide (0<=q) then if y0 low q&&(decide (gt low q<=b)&&decide (b<=q)) then some (.done q) else if y0 low q&&y0 up q then some (.next (gt up q)) else none else some (.done (-1))
def f0S (F:Nat) (l:List D0) (a b:Int):Option Int:=.bind (R9 F l) fun up=>if decide (a<0)||(decide (b<0)||(decide (a>=(up.length:Int))||decide (b>=(up.length:Int)))) then some (-1) else .bind (T8 F l) fun low=>iter (a0m up low b) F a
def q0p (F:Nat):Sm en.D:=⟨177,[.d (.list (.st 0)),.d (.int .i64),.d (.int .i64)],.d (.int .i64),[],fun x=>f0S F x.1 x.2.1 x.2.2⟩
def e0F (F:Nat):Nat->(List D0)->B0->B0->Option (Int×Int×Int)
 | 0,_,_,_=>none
 | n+1,l,x,y=>.bind (E7 F l) fun leaves=>.bind (α:=Bool) ( if decide (x.To>=0) then some (decide (x.To<(leaves.length:Int))) else some false) fun x2=>.bind (α:=Bool) ( if !x2 then some true else .bind (α:=Bool) ( if decide (y.To>=0) then some (decide (y.To<(leaves.length:Int))) else some false) fun x3=>some (!x3)) fun x4=>.bind (α:=Bool) ( if x4 then some true else some (x.To==y.To)) fun x5=>if x5 then some (0,0,0) else if decide (x.Turn>y.Turn) then some (W (x.Turn+1),W (y.Turn+1),1) else if decide (x.Turn<y.Turn) then some (W (x.Turn+1),W (y.Turn+1),(-1)) else if decide (x.To>y.To) then .bind (e0F F n l y x) fun (fork,fork2,fork3)=>some (fork2,fork,(-1)) else if y0 leaves x.To then if y0 leaves y.To then .bind (f0S F l (gt leaves x.To) (gt leaves y.To)) fun join=>.bind (a0n F l) fun deep=>if y0 deep join then if y0 l join then if ((gt l join).Kind)==3 then some (W ((W ((gt deep join)+1))+1),W ((gt deep join)+1),1) else some (W ((gt deep join)+1),W ((gt deep join)+1),1) else none else none else none else none
def l0e (F n:Nat):Sm en.D:=⟨140,[.d (.list (.st 0)),.d (.st 3),.d (.st 3)],.tup [.d (.int .i64),.d (.int .i64),.d (.int .i64)],[],fun x=>e0F F n x.1 x.2.1 x.2.2⟩
def B00 (F n:Nat):P4 en:=⟨[e0Q F,l0e F n,q0p F,i05 F],fun g=>if Nat.beq g 140 then ⟨[],[],[(3,5,9,⟨[(24,.any),(29,.d .bool)],[]⟩),(3,11,16,⟨[(30,.any),(36,.d .bool)],[]⟩)],[]⟩ else if Nat.beq g 176 then ⟨[],[],[(1,4,9,⟨[(7,.any),(13,.d .bool)],[]⟩)],[]⟩ else Y4,F,[]⟩
def i0a (F:Nat) (x:E1) (from_:List Int) (d:Int):Option (U0 Int (Int ⊕ Unit)):=match d with
 | x3=>if decide (x3<(from_.length:Int)) then if y0 from_ x3 then .bind (e0y F x (gt from_ x3)) fun has=>if !has then some (.done (.inl x3)) else some (.next (W (x3+1))) else none else some (.done (.inr ()))
def h0I (F:Nat) (l:List D0) (x:E1) (from_:List Int) (hops:List B0) (x4:Int) (d:Int×(List (List Int))×(List (List Int))):Option (U0 (Int×(List (List Int))×(List (List Int))) ((List (List Int))×(List (List Int)))):=match d with
 | (x5,y3,y4)=>if decide (x5<x4) then .bind (α:=(List (List Int))×(List (List Int))) ( if y0 from_ x4 then if y0 from_ x5 then if (gt from_ x4)==(gt from_ x5) then if y0 y3 x4 then if y0 y3 x5 then if y0 y4 x4 then if y0 hops x4 then if y0 hops x5 then .bind (e0F F F l (gt hops x4) (gt hops x5)) fun (fork,fork2,fork3)=>if y0 (gt y3 x4) x5 then let t:=y3.set x4.toNat ((gt y3 x4).set x5.toNat fork);
            if y0 (gt t x5) x4 then if y0 (gt y4 x4) x5 then let t2:=y4.set x4.toNat ((gt y4 x4).set x5.toNat fork3);
              some (t.set x5.toNat ((gt t x5).set x4.toNat fork2),t2) else none else none else none else none else none else none else none else none else if y0 y3 x4 then if y0 y3 x5 then if y0 y4 x4 then .bind (d0X F (⟨x,from_,hops⟩:a0y) x4 x5) fun low=>.bind (d0X F (⟨x,from_,hops⟩:a0y) x5 x4) fun low2=>.bind (g0u F (⟨x,from_,hops⟩:a0y) x4 x5) fun ahead=>if y0 (gt y3 x4) x5 then if y0 (gt (y3.set x4.toNat ((gt y3 x4).set x5.toNat low)) x5) x4 then let t3:=(y3.set x4.toNat ((gt y3 x4).set x5.toNat low)).set x5.toNat ((gt (y3.set x4.toNat ((gt y3 x4).set x5.toNat low)) x5).set x4.toNat low2);
           if y0 (gt y4 x4) x5 then let t4:=y4.set x4.toNat ((gt y4 x4).set x5.toNat ahead);
            some (t3,t4) else none else none else none else none else none else none else none else none) fun (y5,y6)=>if y0 y6 x5 then if y0 y6 x4 then if y0 (gt y6 x4) x5 then if y0 (gt y6 x5) x4 then let t5:=y6.set x5.toNat ((gt y6 x5).set x4.toNat (W (0-(gt (gt y6 x4) x5))));
      some (.next (W (x5+1),y5,t5)) else none else none else none else none else some (.done (y3,y4))
def i0u (F:Nat) (l:List D0) (x:E1) (from_:List Int) (hops:List B0) (d:Int×(List (List Int))×(List (List Int))):Option (U0 (Int×(List (List Int))×(List (List Int))) ((List (List Int))×(List (List Int)))):=match d with
 | (x4,y,y2)=>if decide (x4<(from_.length:Int)) then .bind (α:=(List (List Int))×(List (List Int))) ( iter (h0I F l x from_ hops x4) F (0,y,y2)) fun (y7,y8)=>some (.next (W (x4+1),y7,y8)) else some (.done (y,y2))
def j0K (F:Nat) (l:List D0) (x:E1) (from_:List Int) (hops:List B0):Option E1:=.bind (d0J F x) fun right=>.bind (α:=Bool) ( if !right then some true else some ((from_.length:Int) != (hops.length:Int))) fun x2=>.bind (α:=Bool) ( if x2 then some true else .bind (α:=Int ⊕ Unit) ( iter (i0a F x from_) F 0) fun z_=>match z_ with
   | .inl x4=>some (decide (x4>=0))
   | .inr _=>some (decide ((-1)>=0))) fun x3=>if x3 then some (⟨[],[]⟩:E1) else .bind (e0G F (from_.length:Int)) fun table=>.bind (e0G F (from_.length:Int)) fun table2=>.bind (α:=(List (List Int))×(List (List Int))) ( iter (i0u F l x from_ hops) F (0,table,table2)) fun (y9,y10)=>some (⟨y9,y10⟩:E1)
def m0X (F:Nat):Sm en.D:=⟨74,[.d (.list (.st 0)),.d (.st 7),.d (.list (.int .i64)),.d (.list (.st 3))],.d (.st 7),[],fun x=>j0K F x.1 x.2.1 x.2.2.1 x.2.2.2⟩
def w08 (F:Nat):P4 en:=⟨[e06 F,i0p F,l0D F,j0p F,l0e F F,k0X F],fun g=>if Nat.beq g 74 then ⟨[(14,[(.nrm,⟨[],[(3,.V0 47 [3] (.list (.int .i64))),(4,.V0 47 [3] (.list (.int .i64)))]⟩)])],[(6,⟨[(42,.d (.int .i64))],[(3,.V0 47 [3] (.list (.int .i64))),(4,.V0 47 [3] (.list (.int .i64)))]⟩,[(.ex 0,⟨[(42,.any)],[(3,.V0 47 [3] (.list (.int .i64))),(4,.V0 47 [3] (.list (.int .i64)))]⟩)]),(9,⟨[(46,.d (.int .i64))],[(3,.V0 47 [3] (.list (.int .i64))),(4,.V0 47 [3] (.list (.int .i64)))]⟩,[(.ex 2,⟨[(46,.any)],[(3,.V0 47 [3] (.list (.int .i64))),(4,.V0 47 [3] (.list (.int .i64)))]⟩)])],[(1,4,9,⟨[(16,.any),(22,.d .bool)],[]⟩),(1,11,14,⟨[(23,.any),(27,.d .bool)],[]⟩)],[]⟩ else if Nat.beq g 137 then Y4 else if Nat.beq g 138 then Y4 else if Nat.beq g 175 then ⟨[],[(2,⟨[(8,.d (.int .i64))],[]⟩,[(.ret,⟨[(4,.d (.int .i64)),(8,.any)],[]⟩),(.ex 0,⟨[(8,.any)],[]⟩)])],[],[]⟩ else Y4,F,[]⟩
def k05 (F:Nat) (x:E1) (of:List Int) (d:Int×Int):Option (U0 (Int×Int) Int):=match d with
 | (U2,x2)=>if decide (x2<(of.length:Int)) then .bind (α:=Int) ( if y0 of x2 then .bind (e0y F x (gt of x2)) fun has=>.bind (α:=Bool) ( if has then .bind (α:=Bool) ( if decide (U2<0) then some true else if y0 x.D (gt of x2) then if y0 (gt x.D (gt of x2)) U2 then some (decide ((gt (gt x.D (gt of x2)) U2)>0)) else none else none) fun x3=>some x3 else some false) fun x4=>if x4 then some (gt of x2) else some U2 else none) fun best2=>some (.next (best2,W (x2+1))) else some (.done U2)
def k0O (F:Nat) (x:E1) (of:List Int):Option Int:=.bind (d0J F x) fun right=>if !right then some (-1) else .bind (α:=Int) ( iter (k05 F x of) F ((-1),0)) fun best3=>some best3
def o0X (F:Nat):Sm en.D:=⟨147,[.d (.st 7),.d (.list (.int .i64))],.d (.int .i64),[],fun x=>k0O F x.1 x.2⟩
def x09 (F:Nat):=L1 [e06 F,i0p F] 147 ⟨[(9,[(.nrm,⟨[(5,.d (.int .i64))],[]⟩)])],[(5,⟨[(5,.d (.int .i64)),(14,.d (.int .i64))],[]⟩,[(.ex 0,⟨[(5,.d (.int .i64)),(14,.any)],[]⟩)])],[(7,4,17,⟨[(21,.any),(35,.d .bool)],[]⟩),(7,7,16,⟨[(24,.any),(34,.d .bool)],[]⟩)],[]⟩ F
def b02 (F:Nat) (kind:Int):Option (Bool×Bool):=.bind (α:=Bool) ( if decide (kind>=3) then some (decide (kind<=8)) else some false) fun x=>.bind (α:=Bool) ( if kind==3 then some true else some (kind==4)) fun x2=>some (x,x2)
def n0n (F:Nat):Sm en.D:=⟨124,[.d (.int .i64)],.tup [.d .bool,.d .bool],[],fun x=>b02 F x⟩
def A0v (F:Nat):=L1 [] 124 ⟨[],[],[(1,3,5,⟨[(6,.any),(9,.d .bool)],[]⟩),(1,9,11,⟨[(12,.any),(15,.d .bool)],[]⟩)],[]⟩ F
def n0T (F:Nat) (l:List D0) (i:Int) (d:Int):Option (U0 Int (Unit ⊕ Unit)):=match d with
 | k=>if decide (k<i) then .bind (α:=Bool) ( if ((gt l i).Kind)==7 then if y0 l k then some (((gt l k).Kind)==7) else none else some false) fun x14=>.bind (α:=Bool) ( if x14 then if y0 l k then some (((gt l k).N)==((gt l i).N)) else none else some false) fun x15=>if x15 then some (.done (.inl ())) else some (.next (W (k+1))) else some (.done (.inr ()))
def p07 (F:Nat) (l:List D0) (d:Int×Int×(List Int)):Option (U0 (Int×Int×(List Int)) (Unit ⊕ (Int×(List Int)))):=match d with
 | (leaves,i,y)=>if decide (i<(l.length:Int)) then if y0 l i then .bind (b02 F ((gt l i).Kind)) fun (part,part2)=>if y0 y i then .bind (α:=Bool) ( if decide (((gt l i).Kind)<1) then some true else some (decide (((gt l i).Kind)>8))) fun x=>.bind (α:=Bool) ( if x then some true else .bind (α:=Bool) ( if ((gt l i).Kind) != 2 then let x2:=!(((gt ((gt l i).Set) 0)==0)&&(((gt ((gt l i).Set) 1)==0)&&(((gt ((gt l i).Set) 2)==0)&&((gt ((gt l i).Set) 3)==0))));
        some x2 else some false) fun x3=>some x3) fun x4=>.bind (α:=Bool) ( if x4 then some true else .bind (α:=Bool) ( if ((gt l i).Kind) != 7 then some (((gt l i).N) != 0) else some false) fun x5=>some x5) fun x6=>.bind (α:=Bool) ( if x6 then some true else .bind (α:=Bool) ( if ((gt l i).Kind)==7 then if decide (((gt l i).N)<1) then some true else some (decide (((gt l i).N)>9)) else some false) fun x7=>some x7) fun x8=>if x8 then some (.done (.inl ())) else .bind (α:=Bool) ( if !part then some (((gt l i).A) != (-1)) else some false) fun x9=>.bind (α:=Bool) ( if x9 then some true else .bind (α:=Bool) ( if !part2 then some (((gt l i).B) != (-1)) else some false) fun x10=>some x10) fun x11=>if x11 then some (.done (.inl ())) else .bind (α:=Int) ( if ((gt l i).Kind)==2 then some (W (leaves+1)) else some leaves) fun leaves2=>.bind (α:=Unit ⊕ Int) ( if part2 then .bind (α:=Bool) ( if ((gt l i).B) != (W (i-1)) then some true else some (decide ((W (i-1))<0))) fun x12=>if x12 then some (.inl ()) else if y0 (y.set i.toNat i) (W (i-1)) then some (.inr (W ((gt (y.set i.toNat i) (W (i-1)))-1))) else none else some (.inr (W (i-1)))) fun z_=>match z_ with
      | .inl _=>some (.done (.inl ()))
      | .inr at_=>.bind (α:=Unit ⊕ (List Int)) ( if part then .bind (α:=Bool) ( if ((gt l i).A) != at_ then some true else some (decide (at_<0))) fun x13=>if x13 then some (.inl ()) else if y0 (y.set i.toNat i) at_ then if y0 (y.set i.toNat i) i then let l2:=(y.set i.toNat i).set i.toNat (gt (y.set i.toNat i) at_);
            some (.inr l2) else none else none else some (.inr (y.set i.toNat i))) fun z_=>match z_ with
       | .inl _=>some (.done (.inl ()))
       | .inr y2=>if y0 y2 i then .bind (α:=Unit ⊕ Unit) ( iter (n0T F l i) F (gt y2 i)) fun z_=>match z_ with
         | .inl _=>some (.done (.inl ()))
         | .inr _=>some (.next (leaves2,W (i+1),y2)) else none else none else none else some (.done (.inr (leaves,y)))
def b0m (F:Nat) (l:List D0):Option (Unit ⊕ (List Int)):=if B3 8 (l.length:Int) then .bind (α:=Unit ⊕ (Int×(List Int))) ( iter (p07 F l) F (0,0,(List.replicate (l.length:Int).toNat 0:List Int))) fun z_=>match z_ with
  | .inl _=>some (.inl ())
  | .inr (leaves3,y3)=>.bind (α:=Bool) ( if (l.length:Int)==0 then some true else some (decide ((l.length:Int)>400))) fun x16=>.bind (α:=Bool) ( if x16 then some true else some (decide (leaves3>64))) fun x17=>.bind (α:=Bool) ( if x17 then some true else if y0 y3 (W ((l.length:Int)-1)) then some ((gt y3 (W ((l.length:Int)-1))) != 0) else none) fun x18=>if x18 then some (.inl ()) else some (.inr y3) else none
def l03 (F:Nat):Sm en.D:=⟨66,[.d (.list (.st 0))],.alt .nil (.own 3 (.int .i64)),[],fun x=>b0m F x⟩
def H0U (F:Nat):=L1 [n0n F] 66 ⟨[(15,[(.nrm,⟨[(4,.d (.int .i64))],[]⟩)]),(20,[(.ret,⟨[(2,.nil)],[]⟩),(.nrm,⟨[(9,.d (.int .i64))],[]⟩)]),(24,[(.ret,⟨[(2,.nil)],[]⟩),(.nrm,⟨[],[(0,.own 3 (.int .i64))]⟩)])],[(25,⟨[(10,.d (.int .i64))],[]⟩,[(.ret,⟨[(2,.nil),(10,.any)],[]⟩),(.ex 2,⟨[(10,.any)],[]⟩)]),(4,⟨[(4,.d (.int .i64)),(5,.d (.int .i64))],[(0,.own 3 (.int .i64))]⟩,[(.ret,⟨[(2,.nil),(4,.any),(5,.any)],[(0,.any)]⟩),(.ex 0,⟨[(4,.d (.int .i64)),(5,.any)],[(0,.own 3 (.int .i64))]⟩)])],[(9,4,7,⟨[(37,.any),(41,.d .bool)],[]⟩),(9,9,18,⟨[(42,.any),(52,.d .bool)],[]⟩),(9,13,17,⟨[(46,.any),(51,.d .bool)],[]⟩),(9,20,28,⟨[(53,.any),(62,.d .bool)],[]⟩),(9,24,27,⟨[(57,.any),(61,.d .bool)],[]⟩),(9,30,43,⟨[(63,.any),(77,.d .bool)],[]⟩),(9,34,42,⟨[(67,.any),(76,.d .bool)],[]⟩),(11,3,6,⟨[(80,.any),(84,.d .bool)],[]⟩),(11,8,15,⟨[(85,.any),(93,.d .bool)],[]⟩),(11,11,14,⟨[(88,.any),(92,.d .bool)],[]⟩),(17,5,7,⟨[(106,.any),(109,.d .bool)],[]⟩),(21,5,7,⟨[(120,.any),(123,.d .bool)],[]⟩),(27,4,10,⟨[(143,.any),(150,.d .bool)],[]⟩),(27,12,20,⟨[(151,.any),(160,.d .bool)],[]⟩),(29,4,7,⟨[(164,.any),(168,.d .bool)],[]⟩),(29,9,11,⟨[(169,.any),(172,.d .bool)],[]⟩),(29,13,20,⟨[(173,.any),(181,.d .bool)],[]⟩)],[]⟩ F
def Q6 (F:Nat) (l:List D0):Option Bool:=.bind (b0m F l) fun lows=>match lows with
 | .inl _=>some false
 | .inr lows2=>if !lows2.isEmpty then some true else none
def b0t (F:Nat):Sm en.D:=⟨20,[.d (.list (.st 0))],.d .bool,[],fun x=>Q6 F x⟩
def x0q (F:Nat):=L1 [l03 F] 20 Y4 F
def n0k (F:Nat) (l:List D0) (d:(List Int)×Int):Option (U0 ((List Int)×Int) (List Int)):=match d with
 | (out,i)=>if decide (i<(l.length:Int)) then .bind (α:=List Int) ( if y0 l i then if ((gt l i).Kind)==2 then if I0 8 out [i] then some (out++[i]) else none else some out else none) fun out2=>some (.next (out2,W (i+1))) else some (.done out)
def u7 (F:Nat) (l:List D0):Option (List Int):=.bind (Q6 F l) fun right=>if !right then some [] else .bind (α:=List Int) ( iter (n0k F l) F ([],0)) fun out3=>some out3
def d05 (F:Nat):Sm en.D:=⟨77,[.d (.list (.st 0))],.own 3 (.int .i64),[],fun x=>u7 F x⟩
def C0d (F:Nat):=L1 [b0t F] 77 ⟨[(6,[(.nrm,⟨[(3,.own 3 (.int .i64))],[(0,.any)]⟩)])],[(5,⟨[(3,.own 3 (.int .i64)),(4,.d (.int .i64))],[]⟩,[(.ex 0,⟨[(3,.own 3 (.int .i64)),(4,.any)],[]⟩)])],[],[]⟩ F
def I8 (F:Nat) (a:List Int) (b:List Int):Option (List Int):=if I0 8 ([]:List Int) a then if I0 8 ([]++a) b then some (([]++a)++b) else none else none
def Z5 (F:Nat):Nat->(List D0)->(List Bool)->Int->Option (List Int)
 | 0,_,_,_=>none
 | n+1,l,can,q=>.bind (α:=List Int) ( if y0 l q then if ((gt l q).Kind)==3 then if y0 l q then .bind (Z5 F n l can ((gt l q).A)) fun of=>if I0 8 [W (2*q)] of then if y0 l q then .bind (Z5 F n l can ((gt l q).B)) fun of2=>if I0 8 ([W (2*q)]++of) of2 then some (([W (2*q)]++of)++of2) else none else none else none else none else if ((gt l q).Kind)==4 then if y0 l q then if y0 can ((gt l q).A) then if gt can ((gt l q).A) then if y0 l q then .bind (Z5 F n l can ((gt l q).A)) fun of3=>if I0 8 [W (2*q)] of3 then some ([W (2*q)]++of3) else none else none else if y0 l q then .bind (Z5 F n l can ((gt l q).B)) fun of4=>if I0 8 [W (2*q)] of4 then some ([W (2*q)]++of4) else none else none else none else none else .bind (α:=Bool) ( if ((gt l q).Kind)==7 then some (((gt l q).Kind)==7) else some (((gt l q).Kind)==8)) fun x=>if x then if y0 l q then .bind (Z5 F n l can ((gt l q).A)) fun of5=>if I0 8 [W (2*q)] of5 then some ([W (2*q)]++of5) else none else none else some [W (2*q)] else none) fun out=>if I0 8 out [W ((W (2*q))+1)] then some (out++[W ((W (2*q))+1)]) else none
def C6 (F:Nat):Nat->(List D0)->(List Int)->(List Bool)->Int->(List Int)->Option (List B0)
 | 0,_,_,_,_,_=>none
 | n+1,l,index,can,q,ahead=>if y0 l q then .bind (I8 F ahead [W (2*q)]) fun put=>if ((gt l q).Kind)==2 then if y0 index q then some [(⟨gt index q,0,put⟩:B0)] else none else if ((gt l q).Kind)==3 then .bind (C6 F n l index can ((gt l q).A) put) fun Z0=>.bind (α:=List B0) ( if y0 can ((gt l q).A) then if gt can ((gt l q).A) then .bind (Z5 F F l can ((gt l q).A)) fun of=>.bind (I8 F put of) fun put2=>.bind (C6 F n l index can ((gt l q).B) put2) fun into2=>if I0 40 Z0 into2 then some (Z0++into2) else none else some Z0 else none) fun out=>some out else if ((gt l q).Kind)==4 then .bind (C6 F n l index can ((gt l q).A) put) fun into3=>.bind (C6 F n l index can ((gt l q).B) put) fun into4=>if I0 40 into3 into4 then some (into3++into4) else none else .bind (α:=Bool) ( if ((gt l q).Kind)==5 then some (((gt l q).Kind)==5) else if ((gt l q).Kind)==6 then some (((gt l q).Kind)==6) else if ((gt l q).Kind)==7 then some (((gt l q).Kind)==7) else some (((gt l q).Kind)==8)) fun x=>if x then .bind (C6 F n l index can ((gt l q).A) put) fun into5=>some into5 else some [] else none
def n0P (F:Nat) (l:List D0) (d:Int×Int×(List Int)):Option (U0 (Int×Int×(List Int)) (List Int)):=match d with
 | (many,i,y)=>if decide (i<(l.length:Int)) then .bind (α:=Int×(List Int)) ( if y0 y i then if y0 l i then if ((gt l i).Kind)==2 then if y0 (y.set i.toNat (-1)) i then some (W (many+1),(y.set i.toNat (-1)).set i.toNat many) else none else some (many,y.set i.toNat (-1)) else none else none) fun (many2,y2)=>some (.next (many2,W (i+1),y2)) else some (.done y)
def a0Y (F:Nat) (l:List D0):Option (List Int):=.bind (Q6 F l) fun right=>if !right then some [] else if B3 8 (l.length:Int) then .bind (α:=List Int) ( iter (n0P F l) F (0,0,(List.replicate (l.length:Int).toNat 0:List Int))) fun y3=>some y3 else none
def q0f (F:Nat) (l:List D0) (d:Int×(List Bool)):Option (U0 (Int×(List Bool)) (List Bool)):=match d with
 | (i,y)=>if decide (i<(l.length:Int)) then .bind (α:=List Bool) ( if y0 l i then .bind (α:=Bool) ( if ((gt l i).Kind)==1 then some (((gt l i).Kind)==1) else if ((gt l i).Kind)==5 then some (((gt l i).Kind)==5) else some (((gt l i).Kind)==6)) fun x=>if x then if y0 y i then some (y.set i.toNat true) else none else if ((gt l i).Kind)==3 then if y0 l i then if y0 y ((gt l i).A) then .bind (α:=Bool) ( if gt y ((gt l i).A) then if y0 l i then if y0 y ((gt l i).B) then some (gt y ((gt l i).B)) else none else none else some false) fun x2=>if y0 y i then some (y.set i.toNat x2) else none else none else none else if ((gt l i).Kind)==4 then if y0 l i then if y0 y ((gt l i).A) then .bind (α:=Bool) ( if gt y ((gt l i).A) then some true else if y0 l i then if y0 y ((gt l i).B) then some (gt y ((gt l i).B)) else none else none) fun x3=>if y0 y i then some (y.set i.toNat x3) else none else none else none else .bind (α:=Bool) ( if ((gt l i).Kind)==7 then some (((gt l i).Kind)==7) else some (((gt l i).Kind)==8)) fun x4=>if x4 then if y0 l i then if y0 y ((gt l i).A) then if y0 y i then some (y.set i.toNat (gt y ((gt l i).A))) else none else none else none else some y else none) fun y2=>some (.next (W (i+1),y2)) else some (.done y)
def Q9 (F:Nat) (l:List D0):Option (List Bool):=.bind (Q6 F l) fun right=>if !right then some [] else if B3 1 (l.length:Int) then .bind (α:=List Bool) ( iter (q0f F l) F (0,(List.replicate (l.length:Int).toNat false:List Bool))) fun y3=>some y3 else none
def b0w (F:Nat) (l:List D0) (q:Int):Option (List B0):=.bind (Q6 F l) fun right=>.bind (α:=Bool) ( if !right then some true else some (decide (q<0))) fun x=>.bind (α:=Bool) ( if x then some true else some (decide (q>=(l.length:Int)))) fun x2=>if x2 then some [] else .bind (a0Y F l) fun index=>.bind (Q9 F l) fun can=>.bind (C6 F F l index can q []) fun Z0=>some Z0
def o0i (F:Nat) (l:List D0) (d:Int×(List Int)):Option (U0 (Int×(List Int)) (List Int)):=match d with
 | (i,y)=>if decide (i<(l.length:Int)) then if y0 y i then some (.next (W (i+1),y.set i.toNat (-1))) else none else some (.done y)
def q0e (F:Nat) (l:List D0) (d:Int×(List Int)):Option (U0 (Int×(List Int)) (List Int)):=match d with
 | (i2,y3)=>if decide (i2<(l.length:Int)) then .bind (α:=List Int) ( .bind (α:=List Int) ( if y0 l i2 then if decide (((gt l i2).A)>=0) then if y0 l i2 then if y0 y3 ((gt l i2).A) then some (y3.set ((gt l i2).A).toNat i2) else none else none else some y3 else none) fun y4=>if y0 l i2 then if decide (((gt l i2).B)>=0) then if y0 l i2 then if y0 y4 ((gt l i2).B) then some (y4.set ((gt l i2).B).toNat i2) else none else none else some y4 else none) fun y5=>some (.next (W (i2+1),y5)) else some (.done y3)
def a0Z (F:Nat) (l:List D0):Option (List Int):=.bind (Q6 F l) fun right=>if !right then some [] else if B3 8 (l.length:Int) then .bind (α:=List Int) ( iter (o0i F l) F (0,(List.replicate (l.length:Int).toNat 0:List Int))) fun y2=>.bind (α:=List Int) ( iter (q0e F l) F (0,y2)) fun y6=>some y6 else none
def p0O (F:Nat) (up:List Int) (d:Int×(List Int)):Option (U0 (Int×(List Int)) (List Int)):=match d with
 | (i,y)=>if decide (i>=0) then .bind (α:=List Int) ( if y0 y i then if y0 up i then if decide ((gt up i)>=0) then if y0 up i then if y0 (y.set i.toNat 1) (gt up i) then if y0 (y.set i.toNat 1) i then let l2:=(y.set i.toNat 1).set i.toNat (W ((gt (y.set i.toNat 1) (gt up i))+1));
         some l2 else none else none else none else some (y.set i.toNat 1) else none else none) fun y2=>some (.next (W (i-1),y2)) else some (.done y)
def a0V (F:Nat) (l:List D0):Option (List Int):=.bind (a0Z F l) fun up=>if B3 8 (up.length:Int) then .bind (α:=List Int) ( iter (p0O F up) F (W ((up.length:Int)-1),(List.replicate (up.length:Int).toNat 0:List Int))) fun y3=>some y3 else none
def o0L (F:Nat) (l:List B0) (p:Int) (d:Int):Option (U0 Int (Unit ⊕ Unit)):=match d with
 | i=>if decide (i<(l.length:Int)) then if y0 l i then if ((gt l i).To)==p then some (.done (.inl ())) else some (.next (W (i+1))) else none else some (.done (.inr ()))
def b03 (F:Nat) (l:List B0) (p:Int):Option Bool:=.bind (α:=Unit ⊕ Unit) ( iter (o0L F l p) F 0) fun z_=>match z_ with
 | .inl _=>some true
 | .inr _=>some false
def n0S (F:Nat) (up:List Int) (deep:List Int) (q:Int) (d:(List Int)×(List B0)×Int×(List B0)):Option (U0 ((List Int)×(List B0)×Int×(List B0)) ((List Int)×(List B0))):=match d with
 | (s2,out2,i,y)=>if decide (i<(y.length:Int)) then .bind (α:=(List B0)×(List B0)) ( if y0 y i then .bind (b03 F out2 ((gt y i).To)) fun known=>if !known then if y0 deep (gt up q) then if y0 y i then let l2:=y.set i.toNat ({ gt y i with Turn:=gt deep (gt up q) });
       if y0 l2 i then if I0 40 out2 [gt l2 i] then some (out2++[gt l2 i],l2) else none else none else none else none else some (out2,y) else none) fun (out3,y2)=>some (.next (s2,out3,W (i+1),y2)) else some (.done (s2,out2))
def n0a (F:Nat) (l:List D0) (up:List Int) (deep:List Int) (d:(List Int)×(List Bool)×Int×(List Int)×(List B0)):Option (U0 ((List Int)×(List Bool)×Int×(List Int)×(List B0)) (((List B0)×B0) ⊕ ((List Int)×(List B0)))):=match d with
 | (index2,can2,q,s,out)=>if y0 up q then if decide ((gt up q)>=0) then if y0 up q then .bind (α:=Int) ( if y0 l (gt up q) then .bind (α:=Bool) ( if ((gt l (gt up q)).Kind)==3 then if y0 l (gt up q) then some (((gt l (gt up q)).A)==q) else none else some false) fun x=>if x then if y0 l (gt up q) then some ((gt l (gt up q)).B) else none else some (-1) else none) fun goal=>.bind (α:=Int) ( if y0 l (gt up q) then if ((gt l (gt up q)).Kind)==5 then if y0 l (gt up q) then some ((gt l (gt up q)).A) else none else some goal else none) fun goal2=>.bind (α:=(List Int)×(List Bool)×(List Int)×(List B0)) ( if decide (goal2>=0) then .bind (C6 F F l index2 can2 goal2 s) fun Z0=>.bind (α:=(List Int)×(List B0)) ( iter (n0S F up deep q) F (s,out,0,Z0)) fun (s3,out4)=>some (index2,can2,s3,out4) else some (index2,can2,s,out)) fun (index3,can3,s4,out5)=>.bind (α:=((List B0)×B0) ⊕ (List Int)) ( if y0 l (gt up q) then .bind (α:=Bool) ( if ((gt l (gt up q)).Kind)==3 then if y0 l (gt up q) then some (((gt l (gt up q)).A)==q) else none else some false) fun x2=>if x2 then if y0 can3 goal2 then if !(gt can3 goal2) then some (.inl (out5,(⟨0,0,[]⟩:B0))) else .bind (Z5 F F l can3 goal2) fun of=>.bind (I8 F s4 of) fun put=>some (.inr put) else none else some (.inr s4) else none) fun z_=>match z_ with
    | .inl (x3,y3)=>some (.done (.inl (x3,y3)))
    | .inr s5=>.bind (I8 F s5 [W ((W (2*(gt up q)))+1)]) fun put2=>some (.next (index3,can3,gt up q,put2,out5)) else none else some (.done (.inr (s,out))) else none
def a0P (F:Nat) (l:List D0) (p:Int):Option ((List B0)×B0×Bool):=.bind (a0Z F l) fun up=>.bind (a0V F l) fun deep=>.bind (a0Y F l) fun index=>.bind (Q9 F l) fun can=>.bind (u7 F l) fun leaves=>if y0 leaves p then .bind (α:=((List B0)×B0) ⊕ ((List Int)×(List B0))) ( iter (n0a F l up deep) F (index,can,gt leaves p,[W ((W (2*(gt leaves p)))+1)],[])) fun z_=>match z_ with
  | .inl (x4,y4)=>some (x4,y4,false)
  | .inr (s6,out6)=>some (out6,(⟨(-1),0,s6⟩:B0),true) else none
def q0q (F:Nat) (climb:List B0) (r:Int) (d:(List B0)×Int):Option (U0 ((List B0)×Int) (List B0)):=match d with
 | (out2,i)=>if decide (i<(climb.length:Int)) then .bind (α:=List B0) ( if y0 climb i then if ((gt climb i).To)==r then if y0 climb i then if I0 40 out2 [gt climb i] then some (out2++[gt climb i]) else none else none else some out2 else none) fun out3=>some (.next (out3,W (i+1))) else some (.done out2)
def p0b (F:Nat) (l:List D0) (climb:List B0) (d:(List B0)×Int):Option (U0 ((List B0)×Int) (List B0)):=match d with
 | (out,r)=>.bind (u7 F l) fun leaves2=>if decide (r<(leaves2.length:Int)) then .bind (α:=List B0) ( iter (q0q F climb r) F (out,0)) fun out4=>some (.next (out4,W (r+1))) else some (.done out)
def b0r (F:Nat) (l:List D0) (p:Int):Option (List B0):=.bind (α:=Bool) ( if decide (p<0) then some true else .bind (u7 F l) fun leaves=>some (decide (p>=(leaves.length:Int)))) fun x=>if x then some [] else .bind (a0P F l p) fun (climb,climb2,climb3)=>.bind (α:=List B0) ( iter (p0b F l climb) F ([],0)) fun out5=>some out5
def b0A (F:Nat) (l:List D0) (q:Int):Option (List Int):=.bind (Q9 F l) fun can=>.bind (α:=Bool) ( if decide (q<0) then some true else some (decide (q>=(can.length:Int)))) fun x=>.bind (α:=Bool) ( if x then some true else if y0 can q then some (!(gt can q)) else none) fun x2=>if x2 then some [] else .bind (Z5 F F l can q) fun of=>some of
def J9 (F:Nat) (l:List D0) (p:Int):Option (B0×Bool):=.bind (α:=Bool) ( if decide (p<(-1)) then some true else .bind (Q6 F l) fun right=>some (!right)) fun x=>.bind (α:=Bool) ( if x then some true else .bind (u7 F l) fun leaves=>some (decide (p>=(leaves.length:Int)))) fun x2=>if x2 then some ((⟨0,0,[]⟩:B0),false) else if p==(-1) then .bind (b0A F l (W ((l.length:Int)-1))) fun steps=>if (steps.length:Int)==0 then some ((⟨0,0,[]⟩:B0),false) else some ((⟨(-1),0,steps⟩:B0),true) else .bind (a0P F l p) fun (climb,climb2,climb3)=>some (climb2,climb3)
def i0F (F:Nat) (l:List D0):Option (List Int):=.bind (b0m F l) fun lows=>match lows with
 | .inl _=>some []
 | .inr lows2=>some lows2
def l0n (F:Nat):Sm en.D:=⟨166,[.d (.list (.st 0))],.own 3 (.int .i64),[],fun x=>i0F F x⟩
def A0G (F:Nat):=L1 [l03 F] 166 Y4 F
def g05 (F:Nat) (l:List D0) (q:Int) (n_:Int) (d:Bool×Int):Option (U0 (Bool×Int) Bool):=match d with
 | (is,i)=>if decide (i<=q) then .bind (α:=Bool) ( if is then some true else if y0 l i then .bind (α:=Bool) ( if ((gt l i).Kind)==7 then if y0 l i then some (((gt l i).N)==n_) else none else some false) fun x2=>some x2 else none) fun x3=>some (.next (x3,W (i+1))) else some (.done is)
def i0L (F:Nat) (l:List D0) (q:Int) (low:List Int) (d:(List Int)×Int):Option (U0 ((List Int)×Int) (List Int)):=match d with
 | (out,n_)=>if decide (n_<=9) then .bind (α:=List Int) ( if y0 low q then .bind (α:=Bool) ( iter (g05 F l q n_) F (false,gt low q)) fun is2=>if is2 then if I0 8 out [n_] then some (out++[n_]) else none else some out else none) fun out2=>some (.next (out2,W (n_+1))) else some (.done out)
def g0H (F:Nat) (l:List D0) (q:Int):Option (List Int):=.bind (i0F F l) fun low=>.bind (α:=Bool) ( if decide (q<0) then some true else some (decide (q>=(low.length:Int)))) fun x=>if x then some [] else .bind (α:=List Int) ( iter (i0L F l q low) F ([],1)) fun out3=>some out3
def k0L (F:Nat):Sm en.D:=⟨123,[.d (.list (.st 0)),.d (.int .i64)],.own 3 (.int .i64),[],fun x=>g0H F x.1 x.2⟩
def B0R (F:Nat):=L1 [l0n F] 123 ⟨[(7,[(.nrm,⟨[(6,.own 3 (.int .i64))],[(1,.any)]⟩)])],[(10,⟨[(8,.d .bool),(9,.d (.int .i64))],[]⟩,[(.ex 2,⟨[(8,.d .bool),(9,.any)],[]⟩)]),(6,⟨[(6,.own 3 (.int .i64)),(7,.d (.int .i64))],[]⟩,[(.ex 0,⟨[(6,.own 3 (.int .i64)),(7,.any)],[]⟩)])],[(3,3,7,⟨[(14,.any),(19,.d .bool)],[]⟩),(12,2,17,⟨[(34,.any),(50,.d .bool)],[]⟩),(12,9,16,⟨[(41,.any),(49,.d .bool)],[]⟩)],[]⟩ F
def j0d (F:Nat) (l:List D0):Option Int:=.bind (g0H F l (W ((l.length:Int)-1))) fun groups=>if (groups.length:Int)==0 then some 0 else if y0 groups (W ((groups.length:Int)-1)) then some (gt groups (W ((groups.length:Int)-1))) else none
def p0V (F:Nat):Sm en.D:=⟨122,[.d (.list (.st 0))],.d (.int .i64),[],fun x=>j0d F x⟩
def G0q (F:Nat):=L1 [k0L F] 122 Y4 F
def h0e (F:Nat) (l:List D0):Option Int:=.bind (Q6 F l) fun right=>if !right then some 0 else .bind (j0d F l) fun top=>some (W (1+(W (2*top))))
def i0Q (F:Nat):Sm en.D:=⟨95,[.d (.list (.st 0))],.d (.int .i64),[],fun x=>h0e F x⟩
def C0X (F:Nat):=L1 [b0t F,p0V F] 95 Y4 F
def h0d (F:Nat) (x:E1) (n_:Int) (d:Int):Option (U0 Int (Unit ⊕ Unit)):=match d with
 | i=>if decide (i<n_) then if y0 x.B i then .bind (α:=Bool) ( if ((gt x.B i).length:Int) != n_ then some true else if y0 x.D i then some (((gt x.D i).length:Int) != n_) else none) fun x3=>if x3 then some (.done (.inl ())) else some (.next (W (i+1))) else none else some (.done (.inr ()))
def i0k (F:Nat) (x:E1) (n_:Int) (i2:Int) (d:Int):Option (U0 Int (Unit ⊕ Unit)):=match d with
 | k=>if decide (k<n_) then if y0 x.B i2 then if y0 (gt x.B i2) k then .bind (α:=Bool) ( if decide ((gt (gt x.B i2) k)<0) then some true else .bind (α:=Bool) ( if i2==k then if y0 x.B i2 then if y0 (gt x.B i2) k then if (gt (gt x.B i2) k) != 0 then some true else if y0 x.D i2 then if y0 (gt x.D i2) k then some ((gt (gt x.D i2) k) != 0) else none else none else none else none else some false) fun x4=>some x4) fun x5=>if x5 then some (.done (.inl ())) else .bind (α:=Bool) ( if i2 != k then if y0 x.D i2 then if y0 (gt x.D i2) k then .bind (α:=Bool) ( if (gt (gt x.D i2) k) != 1 then if y0 x.D i2 then if y0 (gt x.D i2) k then some ((gt (gt x.D i2) k) != (-1)) else none else none else some false) fun x6=>.bind (α:=Bool) ( if x6 then some true else if y0 x.D k then if y0 (gt x.D k) i2 then if y0 x.D i2 then if y0 (gt x.D i2) k then let x7:=(gt (gt x.D k) i2) != (W (0-(gt (gt x.D i2) k)));
               some x7 else none else none else none else none) fun x8=>some x8 else none else none else some false) fun x9=>if x9 then some (.done (.inl ())) else some (.next (W (k+1))) else none else none else some (.done (.inr ()))
def h0C (F:Nat) (x:E1) (n_:Int) (d:Int):Option (U0 Int (Unit ⊕ Unit)):=match d with
 | i2=>if decide (i2<n_) then .bind (α:=Unit ⊕ Unit) ( iter (i0k F x n_ i2) F 0) fun z_=>match z_ with
  | .inl _=>some (.done (.inl ()))
  | .inr _=>some (.next (W (i2+1))) else some (.done (.inr ()))
def e0q (F:Nat) (x:E1) (n_:Int):Option Bool:=.bind (α:=Bool) ( if (x.B.length:Int) != n_ then some true else some ((x.D.length:Int) != n_)) fun x2=>if x2 then some false else .bind (α:=Unit ⊕ Unit) ( iter (h0d F x n_) F 0) fun z_=>match z_ with
  | .inl _=>some false
  | .inr _=>.bind (α:=Unit ⊕ Unit) ( iter (h0C F x n_) F 0) fun z_=>match z_ with
   | .inl _=>some false
   | .inr _=>some true
def e08 (F:Nat):Sm en.D:=⟨27,[.d (.st 7),.d (.int .i64)],.d .bool,[],fun x=>e0q F x.1 x.2⟩
def H0V (F:Nat):=L1 [] 27 ⟨[],[(12,⟨[(7,.d (.int .i64))],[]⟩,[(.ret,⟨[(4,.kb false),(7,.any)],[]⟩),(.ex 4,⟨[(7,.any)],[]⟩)]),(4,⟨[(5,.d (.int .i64))],[]⟩,[(.ret,⟨[(4,.kb false),(5,.any)],[]⟩),(.ex 0,⟨[(5,.any)],[]⟩)]),(9,⟨[(6,.d (.int .i64))],[]⟩,[(.ret,⟨[(4,.kb false),(6,.any)],[]⟩),(.ex 2,⟨[(6,.any)],[]⟩)])],[(1,6,11,⟨[(13,.any),(19,.d .bool)],[]⟩),(6,9,17,⟨[(33,.any),(42,.d .bool)],[]⟩),(14,10,35,⟨[(62,.any),(88,.d .bool)],[]⟩),(14,14,34,⟨[(66,.any),(87,.d .bool)],[]⟩),(16,4,44,⟨[(92,.any),(133,.d .bool)],[]⟩),(16,14,23,⟨[(102,.any),(112,.d .bool)],[]⟩),(16,25,43,⟨[(113,.any),(132,.d .bool)],[]⟩)],[]⟩ F
def l0r (F:Nat) (s:List Int) (b:Int):Option Bool:=.bind (α:=Bool) ( if decide (b>=0) then some (decide (b<256)) else some false) fun x=>.bind (α:=Bool) ( if x then if decide (0<=W (b.tdiv 64))&&decide (W (b.tdiv 64)<4) then if !decide (b.tmod 64<0) then let x2:=D3 .u64 (shr .u64 (gt s (W (b.tdiv 64))) (b.tmod 64)) 1;
     some (x2==1) else none else none else some false) fun x3=>some x3
def s05 (F:Nat) (groups:List Int) (d:(List P2)×Int):Option (U0 ((List P2)×Int) (List P2)):=match d with
 | (out3,k)=>if decide (k<(groups.length:Int)) then if y0 groups k then if I0 16 out3 [(⟨3,gt groups k⟩:P2)] then some (.next (out3++[(⟨3,gt groups k⟩:P2)],W (k+1))) else none else none else some (.done out3)
def g0x (F:Nat) (l:List D0) (steps:List Int) (d:(List P2)×Int):Option (U0 ((List P2)×Int) (List P2)):=match d with
 | (out,i)=>if decide (i<(steps.length:Int)) then .bind (α:=List P2) ( if y0 steps i then .bind (α:=Bool) ( if decide ((gt steps i)<0) then some true else let x:=decide ((W ((gt steps i).tdiv 2))>=(l.length:Int));
      some x) fun x2=>if x2 then some out else if y0 l (W ((gt steps i).tdiv 2)) then .bind (α:=List P2) ( if ((gt l (W ((gt steps i).tdiv 2))).Kind)==7 then if I0 16 out [(⟨W (1+((gt steps i).tmod 2)),(gt l (W ((gt steps i).tdiv 2))).N⟩:P2)] then let l2:=out++[(⟨W (1+((gt steps i).tmod 2)),(gt l (W ((gt steps i).tdiv 2))).N⟩:P2)];
         some l2 else none else some out) fun out2=>.bind (α:=Bool) ( if ((gt l (W ((gt steps i).tdiv 2))).Kind)==8 then some (((gt steps i).tmod 2)==0) else some false) fun x3=>if x3 then .bind (g0H F l (W ((gt steps i).tdiv 2))) fun groups=>.bind (α:=List P2) ( iter (s05 F groups) F (out2,0)) fun out4=>some out4 else some out2 else none else none) fun out5=>some (.next (out5,W (i+1))) else some (.done out)
def i0C (F:Nat) (a:List Int) (b:List Int) (d:Int):Option (U0 Int (Unit ⊕ Unit)):=match d with
 | i=>if decide (i<(a.length:Int)) then if y0 a i then if y0 b i then if (gt a i) != (gt b i) then some (.done (.inl ())) else some (.next (W (i+1))) else none else none else some (.done (.inr ()))
def F9 (F:Nat) (a:List Int) (b:List Int):Option Bool:=if (a.length:Int) != (b.length:Int) then some false else .bind (α:=Unit ⊕ Unit) ( iter (i0C F a b) F 0) fun z_=>match z_ with
  | .inl _=>some false
  | .inr _=>some true
def j0a (F:Nat):Sm en.D:=⟨50,[.d (.list (.int .i64)),.d (.list (.int .i64))],.d .bool,[],fun x=>F9 F x.1 x.2⟩
def F0x (F:Nat):=L1 [] 50 ⟨[],[(4,⟨[(5,.d (.int .i64))],[]⟩,[(.ret,⟨[(4,.kb false),(5,.any)],[]⟩),(.ex 0,⟨[(5,.any)],[]⟩)])],[],[]⟩ F
def g0a (F:Nat) (mode:Int):Option Bool:=.bind (α:=Bool) ( if mode==0 then some true else some (mode==1)) fun x=>some x
def l0X (F:Nat):Sm en.D:=⟨104,[.d (.int .i64)],.d .bool,[],fun x=>g0a F x⟩
def I0E (F:Nat):=L1 [] 104 ⟨[],[],[(1,3,5,⟨[(5,.any),(8,.d .bool)],[]⟩)],[]⟩ F
def f0k (F:Nat) (l:List D0) (mode:Int):Option (N4×Int):=.bind (a7 F l) fun right=>if !right then some ((⟨0,[],[],(⟨[],[]⟩:E1)⟩:N4),11) else .bind (g0a F mode) fun moderi=>if !moderi then some ((⟨0,[],[],(⟨[],[]⟩:E1)⟩:N4),1) else .bind (α:=Bool) ( if mode==1 then some true else .bind (X9 F l) fun can=>if y0 can (W ((l.length:Int)-1)) then some (gt can (W ((l.length:Int)-1))) else none) fun x=>if x then some ((⟨2,[],[],(⟨[],[]⟩:E1)⟩:N4),0) else some ((⟨1,[],[],(⟨[],[]⟩:E1)⟩:N4),0)
def k0I (F:Nat):Sm en.D:=⟨49,[.d (.list (.st 0)),.d (.int .i64)],.tup [.d (.st 12),.d (.int .i64)],[],fun x=>f0k F x.1 x.2⟩
def G0i (F:Nat):=L1 [a01 F,l0X F,h0Q F] 49 ⟨[],[],[(5,3,10,⟨[(16,.any),(24,.d .bool)],[]⟩)],[]⟩ F
def g0J (F:Nat) (places:List Int) (many:Int) (d:Int×Int):Option (U0 (Int×Int) (Unit ⊕ Unit)):=match d with
 | (last,x)=>if decide (x<(places.length:Int)) then if y0 places x then .bind (α:=Bool) ( if decide ((gt places x)<=last) then some true else some (decide ((gt places x)>=many))) fun x2=>if x2 then some (.done (.inl ())) else some (.next (gt places x,W (x+1))) else none else some (.done (.inr ()))
def h0j (F:Nat) (places:List Int) (many:Int):Option Bool:=.bind (α:=Unit ⊕ Unit) ( iter (g0J F places many) F ((-1),0)) fun z_=>match z_ with
 | .inl _=>some false
 | .inr _=>some true
def q0j (F:Nat):Sm en.D:=⟨106,[.d (.list (.int .i64)),.d (.int .i64)],.d .bool,[],fun x=>h0j F x.1 x.2⟩
def E0N (F:Nat):=L1 [] 106 ⟨[],[(3,⟨[(5,.d (.int .i64)),(10,.d (.int .i64))],[]⟩,[(.ret,⟨[(4,.kb false),(5,.any),(10,.any)],[]⟩),(.ex 0,⟨[(5,.any),(10,.any)],[]⟩)])],[(5,4,7,⟨[(17,.any),(21,.d .bool)],[]⟩)],[]⟩ F
def h0K (F:Nat) (maps:List (List Int)) (x:Int) (d:Int×Int):Option (U0 (Int×Int) (Unit ⊕ Int)):=match d with
 | (next_2,x2)=>if decide (x2<((gt maps x).length:Int)) then .bind (α:=Int ⊕ Unit) ( if y0 (gt maps x) x2 then if (gt (gt maps x) x2)==(-2) then some (.inl next_2) else .bind (α:=Bool) ( if decide ((gt (gt maps x) x2)<0) then some true else some (decide ((gt (gt maps x) x2)>next_2))) fun x3=>if x3 then some (.inr ()) else if (gt (gt maps x) x2)==next_2 then some (.inl (W (next_2+1))) else some (.inl next_2) else none) fun z_=>match z_ with
  | .inl next_3=>some (.next (next_3,W (x2+1)))
  | .inr _=>some (.done (.inl ())) else some (.done (.inr next_2))
def g01 (F:Nat) (maps:List (List Int)) (tags:Int) (d:Int×Int):Option (U0 (Int×Int) (Unit ⊕ Unit)):=match d with
 | (next_,x)=>if decide (x<(maps.length:Int)) then if y0 maps x then if ((gt maps x).length:Int) != tags then some (.done (.inl ())) else .bind (α:=Unit ⊕ Int) ( iter (h0K F maps x) F (next_,0)) fun z_=>match z_ with
    | .inl _=>some (.done (.inl ()))
    | .inr next_4=>some (.next (next_4,W (x+1))) else none else some (.done (.inr ()))
def i0r (F:Nat) (maps:List (List Int)) (tags:Int):Option Bool:=.bind (α:=Unit ⊕ Unit) ( iter (g01 F maps tags) F (0,0)) fun z_=>match z_ with
 | .inl _=>some false
 | .inr _=>some true
def o0s (F:Nat):Sm en.D:=⟨108,[.d (.list (.list (.int .i64))),.d (.int .i64)],.d .bool,[],fun x=>i0r F x.1 x.2⟩
def y06 (F:Nat):=L1 [] 108 ⟨[(15,[(.nrm,⟨[(5,.d (.int .i64))],[]⟩),(.ret,⟨[(4,.kb false)],[]⟩)])],[(3,⟨[(5,.d (.int .i64)),(12,.d (.int .i64))],[]⟩,[(.ret,⟨[(4,.kb false),(5,.any),(12,.any)],[]⟩),(.ex 0,⟨[(5,.any),(12,.any)],[]⟩)]),(8,⟨[(5,.d (.int .i64)),(22,.d (.int .i64))],[]⟩,[(.ret,⟨[(4,.kb false),(5,.any),(22,.any)],[]⟩),(.ex 2,⟨[(5,.d (.int .i64)),(22,.any)],[]⟩)])],[(11,3,6,⟨[(32,.any),(36,.d .bool)],[]⟩)],[]⟩ F
def a0W (F:Nat) (l:List D0) (k:N4):Option Bool:=.bind (a7 F l) fun right=>.bind (α:=Bool) ( if !right then some true else some (decide (k.Flag<0))) fun x=>.bind (α:=Bool) ( if x then some true else some (decide (k.Flag>2))) fun x2=>.bind (α:=Bool) ( if x2 then some true else let x3:=(k.Maps.length:Int) != (k.Places.length:Int);
   some x3) fun x4=>if x4 then some false else .bind (E7 F l) fun leaves=>.bind (h0j F k.Places (leaves.length:Int)) fun placed=>.bind (α:=Bool) ( if placed then .bind (h0t F l) fun tags=>.bind (i0r F k.Maps tags) fun number=>some number else some false) fun x5=>.bind (α:=Bool) ( if x5 then .bind (h0O F k.Rank (k.Places.length:Int)) fun right2=>some right2 else some false) fun x6=>some x6
def f0U (F:Nat):Sm en.D:=⟨51,[.d (.list (.st 0)),.d (.st 12)],.d .bool,[],fun x=>a0W F x.1 x.2⟩
def F0h (F:Nat):=L1 [a01 F,q0j F,e0Q F,o0s F,j0U F,j0Y F] 51 ⟨[],[],[(1,4,7,⟨[(8,.any),(12,.d .bool)],[]⟩),(1,9,12,⟨[(13,.any),(17,.d .bool)],[]⟩),(1,14,21,⟨[(18,.any),(26,.d .bool)],[]⟩),(3,7,12,⟨[(33,.any),(39,.d .bool)],[]⟩),(3,14,20,⟨[(40,.any),(47,.d .bool)],[]⟩)],[]⟩ F
def i0o (F:Nat) (l:List D0) (k:N4) (d:(List Int)×Int):Option (U0 ((List Int)×Int) (List Int)):=match d with
 | (can,x)=>if decide (x<(k.Places.length:Int)) then .bind (α:=List Int) ( if y0 k.Places x then .bind (Y8 F l (gt k.Places x)) fun (end_,end_2)=>if end_2 then if I0 8 can [x] then some (can++[x]) else none else some can else none) fun can2=>some (.next (can2,W (x+1))) else some (.done can)
def f0m (F:Nat) (l:List D0) (k:N4):Option Int:=.bind (α:=List Int) ( iter (i0o F l k) F ([],0)) fun can3=>.bind (k0O F k.Rank can3) fun U2=>some U2
def j0z (F:Nat):Sm en.D:=⟨111,[.d (.list (.st 0)),.d (.st 12)],.d (.int .i64),[],fun x=>f0m F x.1 x.2⟩
def y0l (F:Nat):=L1 [j0y F,o0X F] 111 ⟨[(8,[(.nrm,⟨[(5,.own 3 (.int .i64))],[(1,.any)]⟩)])],[(3,⟨[(5,.own 3 (.int .i64)),(13,.d (.int .i64))],[]⟩,[(.ex 0,⟨[(5,.own 3 (.int .i64)),(13,.any)],[]⟩)])],[],[]⟩ F
def h04 (F:Nat) (l:List D0):Option (List Int):=.bind (h0t F l) fun tags=>.bind (k0C F tags (-2)) fun fresh=>if y0 fresh 0 then some (fresh.set (0:Int).toNat (-1)) else none
def l0I (F:Nat):Sm en.D:=⟨114,[.d (.list (.st 0))],.own 3 (.int .i64),[],fun x=>h04 F x⟩
def E0J (F:Nat):=L1 [j0U F,m04 F] 114 Y4 F
def e0k (F:Nat) (l:List D0) (k:N4):Option (List Int):=.bind (a0W F l k) fun right=>if !right then some [] else .bind (f0m F l k) fun ahead=>if decide (ahead>=0) then if y0 k.Places ahead then .bind (Y8 F l (gt k.Places ahead)) fun (end_,end_2)=>if y0 k.Maps ahead then .bind (f0H F l end_.Steps) fun of=>.bind (c01 F (gt k.Maps ahead) of (-1) (-2)) fun apply=>some apply else none else none else .bind (Y8 F l (-1)) fun (end_3,end_4)=>.bind (α:=Bool) ( if end_4 then some (k.Flag==2) else some false) fun x=>.bind (α:=Bool) ( if x then some ((k.Places.length:Int)==0) else some false) fun x2=>if x2 then .bind (h04 F l) fun begun=>.bind (f0H F l end_3.Steps) fun of2=>.bind (c01 F begun of2 (-1) (-2)) fun apply2=>some apply2 else some []
def k0v (F:Nat):Sm en.D:=⟨53,[.d (.list (.st 0)),.d (.st 12)],.own 3 (.int .i64),[],fun x=>e0k F x.1 x.2⟩
def C0v (F:Nat):=L1 [f0U F,j0W F,j0z F,j0y F,l0q F,l0I F] 53 ⟨[],[],[(8,2,5,⟨[(45,.any),(49,.d .bool)],[]⟩),(8,7,11,⟨[(50,.any),(55,.d .bool)],[]⟩)],[]⟩ F
def g0K (F:Nat) (l:List D0) (k:N4) (d:(List O5)×Int):Option (U0 ((List O5)×Int) (List O5)):=match d with
 | (out,x)=>if decide (x<(k.Places.length:Int)) then if y0 k.Places x then if y0 k.Maps x then .bind (a09 F l (gt k.Places x)) fun from_=>if I0 48 out [(⟨gt k.Maps x,from_⟩:O5)] then some (.next (out++[(⟨gt k.Maps x,from_⟩:O5)],W (x+1))) else none else none else none else some (.done out)
def g02 (F:Nat) (l:List D0) (k:N4):Option ((List O5)×E1):=.bind (α:=List O5) ( iter (g0K F l k) F ([],0)) fun out2=>if k.Flag==0 then some (out2,k.Rank) else .bind (h04 F l) fun begun=>.bind (b0u F l (W ((l.length:Int)-1))) fun first=>if I0 48 out2 [(⟨begun,first⟩:O5)] then .bind (i04 F k.Rank) fun with_=>some (out2++[(⟨begun,first⟩:O5)],with_) else none
def o0j (F:Nat):Sm en.D:=⟨115,[.d (.list (.st 0)),.d (.st 12)],.tup [.own 171 (.st 18),.d (.st 7)],[],fun x=>g02 F x.1 x.2⟩
def B0g (F:Nat):=L1 [l0I F,p0K F,p0v F,m0Y F] 115 ⟨[],[(3,⟨[(6,.own 171 (.st 18)),(12,.d (.int .i64))],[]⟩,[(.ex 0,⟨[(6,.own 171 (.st 18)),(12,.any)],[]⟩)])],[],[]⟩ F
def i0b (F:Nat) (all:List O5) (p:Int) (x:Int) (d:(List Int)×(List B0)×Int):Option (U0 ((List Int)×(List B0)×Int) ((List Int)×(List B0))):=match d with
 | (from_2,hops2,x2)=>let x3:=decide (x2<(((gt all x).ways).length:Int));
 if x3 then .bind (α:=(List Int)×(List B0)) ( if y0 ((gt all x).ways) x2 then if ((gt ((gt all x).ways) x2).To)==p then if I0 8 from_2 [x] then if I0 40 hops2 [gt ((gt all x).ways) x2] then some (from_2++[x],hops2++[gt ((gt all x).ways) x2]) else none else none else some (from_2,hops2) else none) fun (from_3,hops3)=>some (.next (from_3,hops3,W (x2+1))) else some (.done (from_2,hops2))
def h00 (F:Nat) (all:List O5) (p:Int) (d:(List Int)×(List B0)×Int):Option (U0 ((List Int)×(List B0)×Int) ((List Int)×(List B0))):=match d with
 | (from_,hops,x)=>if decide (x<(all.length:Int)) then if y0 all x then .bind (α:=(List Int)×(List B0)) ( iter (i0b F all p x) F (from_,hops,0)) fun (from_4,hops4)=>some (.next (from_4,hops4,W (x+1))) else none else some (.done (from_,hops))
def j0V (F:Nat) (all:List O5) (p:Int):Option ((List Int)×(List B0)):=.bind (α:=(List Int)×(List B0)) ( iter (h00 F all p) F ([],[],0)) fun (from_5,hops5)=>some (from_5,hops5)
def p0g (F:Nat):Sm en.D:=⟨117,[.d (.list (.st 18)),.d (.int .i64)],.tup [.own 3 (.int .i64),.own 121 (.st 3)],[],fun x=>j0V F x.1 x.2⟩
def w0X (F:Nat):=L1 [] 117 ⟨[(12,[(.nrm,⟨[(6,.own 3 (.int .i64)),(7,.own 121 (.st 3))],[(1,.any),(2,.any),(3,.any),(4,.any)]⟩)])],[(4,⟨[(6,.own 3 (.int .i64)),(7,.own 121 (.st 3)),(14,.d (.int .i64))],[]⟩,[(.ex 0,⟨[(6,.own 3 (.int .i64)),(7,.own 121 (.st 3)),(14,.any)],[]⟩)]),(7,⟨[(6,.own 3 (.int .i64)),(7,.own 121 (.st 3)),(22,.d (.int .i64))],[(0,.any),(1,.any),(2,.any)]⟩,[(.ex 2,⟨[(6,.own 3 (.int .i64)),(7,.own 121 (.st 3)),(22,.any)],[(0,.any),(1,.any),(2,.any)]⟩)])],[],[]⟩ F
def l0R (F:Nat) (l:List Int) (of:List Int) (d:(List Int)×Int):Option (U0 ((List Int)×Int) (List Int)):=match d with
 | (out,x)=>if decide (x<(of.length:Int)) then if y0 of x then if y0 l (gt of x) then if I0 8 out [gt l (gt of x)] then some (.next (out++[gt l (gt of x)],W (x+1))) else none else none else none else some (.done out)
def g0k (F:Nat) (l:List Int) (of:List Int):Option (List Int):=.bind (α:=List Int) ( iter (l0R F l of) F ([],0)) fun out2=>some out2
def j0N (F:Nat):Sm en.D:=⟨163,[.d (.list (.int .i64)),.d (.list (.int .i64))],.own 3 (.int .i64),[],fun x=>g0k F x.1 x.2⟩
def G0A (F:Nat):=L1 [] 163 ⟨[],[(3,⟨[(5,.own 3 (.int .i64)),(10,.d (.int .i64))],[]⟩,[(.ex 0,⟨[(5,.own 3 (.int .i64)),(10,.any)],[]⟩)])],[],[]⟩ F
def g0l (F:Nat) (l:List (List Int)) (of:List Int):Option (List (List Int)):=if d0l (fun i=>i) of&&(of.all (fun i=>y0 l i)&&I0 24 ([]:List (List Int)) (of.map fun i=>gt l i)) then some (of.map fun i=>gt l i) else none
def o0N (F:Nat):Sm en.D:=⟨164,[.V0 47 [3] (.list (.int .i64)),.d (.list (.int .i64))],.V0 47 [3] (.list (.int .i64)),[],fun x=>g0l F x.1 x.2⟩
def j01 (F:Nat) (l:List (List Int)) (of:List Int) (d:(List (List Int))×Int):Option (U0 ((List (List Int))×Int) (List (List Int))):=match d with
 | (out,x)=>if decide (x<(of.length:Int)) then if y0 of x then if y0 l (gt of x) then if I0 24 out [gt l (gt of x)] then some (.next (out++[gt l (gt of x)],W (x+1))) else none else none else none else some (.done out)
def l0v (F:Nat) (l:List (List Int)) (of:List Int):Option (List (List Int)):=.bind (α:=List (List Int)) ( iter (j01 F l of) F ([],0)) fun out2=>some out2
def o03 (F:Nat):Sm en.D:=⟨164,[.d (.list (.list (.int .i64))),.d (.list (.int .i64))],.own 47 (.list (.int .i64)),[],fun x=>l0v F x.1 x.2⟩
def y0e (F:Nat):=L1 [] 164 ⟨[],[(3,⟨[(5,.own 47 (.list (.int .i64))),(10,.d (.int .i64))],[]⟩,[(.ex 0,⟨[(5,.own 47 (.list (.int .i64))),(10,.any)],[]⟩)])],[],[]⟩ F
def j0X (F:Nat) (of:List Int) (some_:List (List Int)) (d:(List (List Int))×Int):Option (U0 ((List (List Int))×Int) (List (List Int))):=match d with
 | (out,x)=>if decide (x<(some_.length:Int)) then if y0 some_ x then .bind (g0k F (gt some_ x) of) fun somei=>if I0 24 out [somei] then some (.next (out++[somei],W (x+1))) else none else none else some (.done out)
def i0P (F:Nat) (l:List (List Int)) (of:List Int):Option (List (List Int)):=.bind (l0v F l of) fun some_=>.bind (α:=List (List Int)) ( iter (j0X F of some_) F ([],0)) fun out2=>some out2
def o0P (F:Nat):Sm en.D:=⟨165,[.d (.list (.list (.int .i64))),.d (.list (.int .i64))],.own 47 (.list (.int .i64)),[],fun x=>i0P F x.1 x.2⟩
def x0k (F:Nat):=L1 [j0N F,o03 F] 165 ⟨[],[(3,⟨[(5,.own 47 (.list (.int .i64))),(12,.d (.int .i64))],[]⟩,[(.ex 0,⟨[(5,.own 47 (.list (.int .i64))),(12,.any)],[]⟩)])],[],[]⟩ F
def g0U (F:Nat) (k2:List Int) (k4:E1) (ahead:Int) (d:(List Int)×Int):Option (U0 ((List Int)×Int) (List Int)):=match d with
 | (stay,x)=>if decide (x<(k2.length:Int)) then .bind (α:=List Int) ( .bind (α:=Bool) ( if x==ahead then some true else if y0 k4.B x then if y0 (gt k4.B x) ahead then some (decide ((gt (gt k4.B x) ahead)>0)) else none else none) fun x2=>.bind (α:=Bool) ( if x2 then some true else if y0 k4.D ahead then if y0 (gt k4.D ahead) x then some (decide ((gt (gt k4.D ahead) x)<0)) else none else none) fun x3=>if x3 then if I0 8 stay [x] then some (stay++[x]) else none else some stay) fun stay2=>some (.next (stay2,W (x+1))) else some (.done stay)
def k0T (F:Nat):(List D0)->(Int×(List Int)×(List (List Int))×E1)->Option (Int×(List Int)×(List (List Int))×E1)
 | l,(k,k2,k3,k4)=>.bind (f0m F l (⟨k,k2,k3,k4⟩:N4)) fun ahead=>if decide (ahead<0) then some (k,k2,k3,k4) else .bind (α:=List Int) ( iter (g0U F k2 k4 ahead) F ([],0)) fun stay3=>.bind (g0k F k2 stay3) fun somei=>.bind (g0l F k3 stay3) fun some_=>.bind (i0P F k4.B stay3) fun square=>.bind (i0P F k4.D stay3) fun square2=>some (0,somei,some_,(⟨square,square2⟩:E1))
def n09 (F:Nat):Sm en.D:=⟨118,[.d (.list (.st 0)),.agg [.d (.int .i64),.d (.list (.int .i64)),.V0 47 [3] (.list (.int .i64)),.d (.st 7)]],.agg [.d (.int .i64),.d (.list (.int .i64)),.V0 47 [3] (.list (.int .i64)),.d (.st 7)],[],fun x=>k0T F x.1 x.2⟩
def C0j (F:Nat):=L1 [j0z F,j0N F,o0N F,o0P F] 118 ⟨[(10,[(.nrm,⟨[(6,.own 3 (.int .i64))],[(3,.any)]⟩)])],[(6,⟨[(6,.own 3 (.int .i64)),(17,.d (.int .i64))],[]⟩,[(.ex 0,⟨[(6,.own 3 (.int .i64)),(17,.any)],[]⟩)])],[(8,4,14,⟨[(23,.any),(34,.d .bool)],[]⟩),(8,16,26,⟨[(35,.any),(46,.d .bool)],[]⟩)],[]⟩ F
def i0i (F:Nat) (x:Int) (y:List (List Int)) (d:(List Int)×Int×(List (List Int))×(List (Int×Int))):Option (U0 ((List Int)×Int×(List (List Int))×(List (Int×Int))) ((List Int)×(List (List Int))×(List (Int×Int)))):=match d with
 | (src2,x2,y3,y4)=>if decide (x2<((gt y x).length:Int)) then .bind (α:=(List Int)×(List (List Int))×(List (Int×Int))) ( if y0 (gt y3 x) x2 then if (gt (gt y3 x) x2)==(-2) then some (src2,y3,y4) else .bind (α:=(List Int)×Int×(List (Int×Int))) ( if !(P7 y4 (gt (gt y3 x) x2)) then if I0 8 src2 [gt (gt y3 x) x2] then some (src2++[gt (gt y3 x) x2],(src2.length:Int),a0M y4 (gt (gt y3 x) x2) (src2.length:Int)) else none else some (src2,U7 y4 (gt (gt y3 x) x2),y4)) fun (src3,n_,y5)=>if y0 (gt y3 x) x2 then some (src3,y3.set x.toNat ((gt y3 x).set x2.toNat n_),y5) else none else none) fun (src4,y6,y7)=>some (.next (src4,W (x2+1),y6,y7)) else some (.done (src2,y3,y4))
def i0e (F:Nat) (k3:List (List Int)) (d:(List Int)×Int×(List (List Int))×(List (Int×Int))):Option (U0 ((List Int)×Int×(List (List Int))×(List (Int×Int))) ((List Int)×(List (List Int)))):=match d with
 | (src,x,y,y2)=>if decide (x<(k3.length:Int)) then if y0 y x then .bind (α:=(List Int)×(List (List Int))×(List (Int×Int))) ( iter (i0i F x y) F (src,0,y,y2)) fun (src5,y8,y9)=>some (.next (src5,W (x+1),y8,y9)) else none else some (.done (src,y))
def g0T (F:Nat):(Int×(List Int)×(List (List Int))×E1)->Option (N4×(List Int))
 | (k,k2,k3,k4)=>.bind (α:=(List Int)×(List (List Int))) ( iter (i0e F k3) F ([],0,k3,([]:List (Int×Int)))) fun (src6,y10)=>some ((⟨k,k2,y10,k4⟩:N4),src6)
def n0j (F:Nat):Sm en.D:=⟨119,[.agg [.d (.int .i64),.d (.list (.int .i64)),.V0 47 [3] (.list (.int .i64)),.d (.st 7)]],.tup [.d (.st 12),.own 3 (.int .i64)],[],fun x=>g0T F x⟩
def I0e (F:Nat):=L1 [] 119 ⟨[(15,[(.nrm,⟨[(5,.own 3 (.int .i64)),(10,.d (.int .i64))],[(3,.map),(5,.any),(8,.any)]⟩)]),(16,[(.nrm,⟨[(5,.own 3 (.int .i64))],[(0,.V0 47 [3] (.list (.int .i64))),(3,.map),(5,.any),(8,.any)]⟩)])],[(4,⟨[(5,.own 3 (.int .i64)),(16,.d (.int .i64))],[(0,.V0 47 [3] (.list (.int .i64))),(3,.map)]⟩,[(.ex 0,⟨[(5,.own 3 (.int .i64)),(16,.any)],[(0,.V0 47 [3] (.list (.int .i64))),(3,.any)]⟩)]),(7,⟨[(5,.own 3 (.int .i64)),(22,.d (.int .i64))],[(0,.V0 47 [3] (.list (.int .i64))),(3,.map),(4,.any),(5,.any)]⟩,[(.ex 2,⟨[(5,.own 3 (.int .i64)),(22,.any)],[(0,.V0 47 [3] (.list (.int .i64))),(3,.map),(4,.any),(5,.any)]⟩)])],[],[]⟩ F
def f0J (F:Nat) (l:List D0) (b:Int) (goers2:E1) (leaves:List Int) (d:((List O5)×(List Int)×(List B0)×Int×(Int×(List Int)×(List (List Int))×E1))):Option (U0 ((List O5)×(List Int)×(List B0)×Int×(Int×(List Int)×(List (List Int))×E1)) ((List Int)×(List B0)×(Int×(List Int)×(List (List Int))×E1))):=match d with
 | (all,by_,hops,x2,(Flag2,Places2,Maps2,Rank2))=>if decide (x2<(leaves.length:Int)) then .bind (α:=((List O5)×(List Int)×(List B0)×(Int×(List Int)×(List (List Int))×E1))) ( if y0 leaves x2 then if y0 l (gt leaves x2) then .bind (l0m F ((gt l (gt leaves x2)).Set) b) fun has=>if !has then some (all,by_,hops,(Flag2,Places2,Maps2,Rank2)) else .bind (j0V F all x2) fun (comers,comers2)=>.bind (h0Y F goers2 comers comers2) fun pick=>if decide (pick<0) then some (all,by_,hops,(Flag2,Places2,Maps2,Rank2)) else if I0 8 Places2 [x2] then if y0 comers pick then if y0 all (gt comers pick) then if y0 comers2 pick then .bind (f0H F l ((gt comers2 pick).Steps)) fun of=>.bind (c01 F ((gt all (gt comers pick)).tags) of (-1) (-2)) fun apply=>if I0 24 Maps2 [apply] then if y0 comers pick then if I0 8 by_ [gt comers pick] then if y0 comers2 pick then if I0 40 hops [gt comers2 pick] then some (all,by_++[gt comers pick],hops++[gt comers2 pick],(Flag2,Places2++[x2],Maps2++[apply],Rank2)) else none else none else none else none else none else none else none else none else none else none else none) fun (c0Z,by_2,hops2,(Flag3,Places3,Maps3,Rank3))=>some (.next (c0Z,by_2,hops2,W (x2+1),(Flag3,Places3,Maps3,Rank3))) else some (.done (by_,hops,(Flag2,Places2,Maps2,Rank2)))
def d0n (F:Nat) (l:List D0) (mode:Int) (k:N4) (b:Int):Option (N4×(List Int)):=.bind (g0a F mode) fun moderi=>.bind (α:=Bool) ( if !moderi then some true else .bind (a0W F l k) fun right=>some (!right)) fun x=>if x then some ((⟨0,[],[],(⟨[],[]⟩:E1)⟩:N4),[]) else .bind (g02 F l k) fun (goers,goers2)=>.bind (α:=Int×(List Int)×(List (List Int))×E1) ( if k.Flag==1 then some (1,[],[],(⟨[],[]⟩:E1)) else some (0,[],[],(⟨[],[]⟩:E1))) fun (Flag,Places,Maps,Rank)=>.bind (E7 F l) fun leaves=>.bind (α:=((List Int)×(List B0)×(Int×(List Int)×(List (List Int))×E1))) ( iter (f0J F l b goers2 leaves) F (goers,[],[],0,(Flag,Places,Maps,Rank))) fun (by_3,hops3,(Flag4,Places4,Maps4,Rank4))=>.bind (j0K F l goers2 by_3 hops3) fun next_=>.bind (α:=Int×(List Int)×(List (List Int))×E1) ( if mode==0 then .bind (k0T F l (Flag4,Places4,Maps4,next_)) fun (cut,cut2,cut3,cut4)=>some (cut,cut2,cut3,cut4) else some (Flag4,Places4,Maps4,next_)) fun (Flag5,Places5,Maps5,Rank5)=>.bind (g0T F (Flag5,Places5,Maps5,Rank5)) fun (number,number2)=>some (number,number2)
def j09 (F:Nat):Sm en.D:=⟨54,[.d (.list (.st 0)),.d (.int .i64),.d (.st 12),.d (.int .u8)],.tup [.d (.st 12),.own 3 (.int .i64)],[],fun x=>d0n F x.1 x.2.1 x.2.2.1 x.2.2.2⟩
def D04 (F:Nat):=L1 [f0U F,o0A F,j0W F,m0X F,l0X F,e0Q F,l0q F,o0j F,n0K F,p0g F,n09 F,n0j F] 54 ⟨[(20,[(.nrm,⟨[(10,.d (.list (.st 18))),(13,.own 3 (.int .i64)),(14,.own 121 (.st 3))],[(2,.any),(4,.box 81 [.d (.int .i64),.own 3 (.int .i64),.V0 47 [3] (.list (.int .i64)),.d (.st 7)]),(5,.any),(6,.any),(9,.any),(10,.any),(11,.any),(12,.any)]⟩)]),(24,[(.nrm,⟨[],[(4,.box 81 [.d (.int .i64),.d (.list (.int .i64)),.V0 47 [3] (.list (.int .i64)),.d (.st 7)]),(11,.any),(12,.any)]⟩)]),(7,[(.nrm,⟨[],[(4,.box 81 [.d (.int .i64),.own 3 (.int .i64),.V0 47 [3] (.list (.int .i64)),.d (.st 7)])]⟩)])],[(10,⟨[(10,.d (.list (.st 18))),(13,.own 3 (.int .i64)),(14,.own 121 (.st 3)),(43,.d (.int .i64))],[(2,.any),(4,.box 81 [.d (.int .i64),.own 3 (.int .i64),.V0 47 [3] (.list (.int .i64)),.d (.st 7)]),(5,.any),(6,.any)]⟩,[(.ex 0,⟨[(10,.any),(13,.own 3 (.int .i64)),(14,.own 121 (.st 3)),(43,.any)],[(2,.any),(4,.box 81 [.d (.int .i64),.own 3 (.int .i64),.V0 47 [3] (.list (.int .i64)),.d (.st 7)]),(5,.any),(6,.any)]⟩)])],[(1,4,8,⟨[(23,.any),(28,.d .bool)],[]⟩)],[92]⟩ F
def g04 (F:Nat) (k:N4) (x:Int) (d:Int×Int):Option (U0 (Int×Int) Int):=match d with
 | (n_2,x2)=>if decide (x2<((gt k.Maps x).length:Int)) then if y0 (gt k.Maps x) x2 then let x3:=if (W ((gt (gt k.Maps x) x2)+1))>n_2 then W ((gt (gt k.Maps x) x2)+1) else n_2;
   some (.next (x3,W (x2+1))) else none else some (.done n_2)
def g0C (F:Nat) (k:N4) (d:Int×Int):Option (U0 (Int×Int) Int):=match d with
 | (n_,x)=>if decide (x<(k.Maps.length:Int)) then if y0 k.Maps x then .bind (α:=Int) ( iter (g04 F k x) F (n_,0)) fun n_3=>some (.next (n_3,W (x+1))) else none else some (.done n_)
def g0b (F:Nat) (k:N4):Option Int:=.bind (α:=Int) ( iter (g0C F k) F (0,0)) fun n_4=>some n_4
def j07 (F:Nat):Sm en.D:=⟨56,[.d (.st 12)],.d (.int .i64),[],fun x=>g0b F x⟩
def E0b (F:Nat):=L1 [] 56 ⟨[],[(3,⟨[(3,.d (.int .i64)),(11,.d (.int .i64))],[]⟩,[(.ex 0,⟨[(3,.d (.int .i64)),(11,.any)],[]⟩)]),(6,⟨[(3,.d (.int .i64)),(17,.d (.int .i64))],[]⟩,[(.ex 2,⟨[(3,.d (.int .i64)),(17,.any)],[]⟩)])],[],[]⟩ F
def c0u (F:Nat):Option (List D0):=some [(⟨2,(-1),(-1),0,[0,8589934592,0,0]⟩:D0),(⟨8,0,(-1),0,[0,0,0,0]⟩:D0),(⟨5,1,(-1),0,[0,0,0,0]⟩:D0)]
def m0u (F:Nat):Sm en.D:=⟨102,[],.own 147 (.st 0),[],fun x=>c0u F⟩
def A0U (F:Nat):=L1 [] 102 Y4 F
def A0Y (F:Nat) (s1:List Int) (s2:List Int) (d:Int):Option (U0 Int (Unit ⊕ Unit)):=match d with
 | x=>if decide (x<(s1.length:Int)) then if y0 s1 x then if y0 s2 x then if (gt s1 x) != (gt s2 x) then some (.done (.inl ())) else some (.next (W (x+1))) else none else none else some (.done (.inr ()))
def g0F (F:Nat) (s1:List Int) (s2:List Int):Option Bool:=if (s1.length:Int) != (s2.length:Int) then some false else .bind (α:=Unit ⊕ Unit) ( iter (A0Y F s1 s2) F 0) fun z_=>match z_ with
  | .inl _=>some false
  | .inr _=>some true
def i0X (F:Nat):Sm en.D:=⟨186,[.d (.list (.int .i64)),.d (.list (.int .i64))],.d .bool,[],fun x=>g0F F x.1 x.2⟩
def C0Z (F:Nat):=L1 [] 186 ⟨[],[(4,⟨[(13,.d (.int .i64))],[]⟩,[(.ret,⟨[(4,.kb false),(13,.any)],[]⟩),(.ex 0,⟨[(13,.any)],[]⟩)])],[],[]⟩ F
def u0c (F:Nat):Option Unit:=some ()
def q0b (F:Nat):Sm en.D:=⟨154,[],.agg [.fn 185 [],.fn 187 [.box 84 [.fn 185 []]]],[],fun x=>u0c F⟩
def x07 (F:Nat):=L1 [] 154 Y4 F
def C0b (F:Nat) (x:E1) (y:E1) (d:Int):Option (U0 Int (Unit ⊕ Unit)):=match d with
 | x2=>if decide (x2<(x.B.length:Int)) then if y0 x.B x2 then if y0 y.B x2 then .bind (g0F F (gt x.B x2) (gt y.B x2)) fun equal=>if !equal then some (.done (.inl ())) else some (.next (W (x2+1))) else none else none else some (.done (.inr ()))
def A0C (F:Nat) (x:E1) (y:E1) (d:Int):Option (U0 Int (Unit ⊕ Unit)):=match d with
 | x2=>if decide (x2<(x.D.length:Int)) then if y0 x.D x2 then if y0 y.D x2 then .bind (g0F F (gt x.D x2) (gt y.D x2)) fun equal=>if !equal then some (.done (.inl ())) else some (.next (W (x2+1))) else none else none else some (.done (.inr ()))
def v0S (F:Nat) (x:E1) (y:E1):Option Bool:=if (x.B.length:Int) != (y.B.length:Int) then some false else .bind (α:=Unit ⊕ Unit) ( iter (C0b F x y) F 0) fun z_=>match z_ with
  | .inl _=>some false
  | .inr _=>.bind (α:=Bool) ( if (x.D.length:Int) != (y.D.length:Int) then some false else .bind (α:=Unit ⊕ Unit) ( iter (A0C F x y) F 0) fun z_=>match z_ with
     | .inl _=>some false
     | .inr _=>some true) fun x2=>some x2
def m0A (F:Nat):Sm en.D:=⟨155,[.d (.st 7),.d (.st 7)],.d .bool,[],fun x=>v0S F x.1 x.2⟩
def G09 (F:Nat):P4 en:=⟨[i0X F],fun g=>if Nat.beq g 155 then ⟨[],[],[(2,7,13,⟨[(19,.d .bool)],[]⟩)],[]⟩ else if Nat.beq g 188 then ⟨[],[(4,⟨[(17,.d (.int .i64))],[]⟩,[(.ret,⟨[(6,.kb false),(17,.any)],[]⟩),(.ex 0,⟨[(17,.any)],[]⟩)])],[],[]⟩ else Y4,F,[]⟩
def F0Q (F:Nat) (a:N4) (b:N4) (d:Int):Option (U0 Int (Unit ⊕ Unit)):=match d with
 | x3=>if decide (x3<(a.Maps.length:Int)) then if y0 a.Maps x3 then if y0 b.Maps x3 then .bind (g0F F (gt a.Maps x3) (gt b.Maps x3)) fun equal2=>if !equal2 then some (.done (.inl ())) else some (.next (W (x3+1))) else none else none else some (.done (.inr ()))
def r0Y (F:Nat) (a:N4) (b:N4):Option Bool:=.bind (u0c F) fun _=>.bind (α:=Bool) ( if a.Flag==b.Flag then .bind (g0F F a.Places b.Places) fun equal=>some equal else some false) fun x=>.bind (α:=Bool) ( if x then let x2:=(a.Maps.length:Int) != (b.Maps.length:Int);
   if x2 then some false else .bind (α:=Unit ⊕ Unit) ( iter (F0Q F a b) F 0) fun z_=>match z_ with
    | .inl _=>some false
    | .inr _=>some true else some false) fun x3=>.bind (α:=Bool) ( if x3 then .bind (v0S F a.Rank b.Rank) fun same_=>some same_ else some false) fun x4=>some x4
def n04 (F:Nat):Sm en.D:=⟨103,[.d (.st 12),.d (.st 12)],.d .bool,[],fun x=>r0Y F x.1 x.2⟩
def D0b (F:Nat):P4 en:=⟨[q0b F,m0A F,i0X F],fun g=>if Nat.beq g 103 then ⟨[],[],[(2,6,13,⟨[(12,.any),(20,.d .bool)],[]⟩),(2,15,22,⟨[(21,.any),(29,.d .bool)],[]⟩),(2,24,29,⟨[(30,.any),(36,.d .bool)],[]⟩)],[]⟩ else if Nat.beq g 185 then Y4 else if Nat.beq g 187 then Y4 else if Nat.beq g 188 then ⟨[],[(4,⟨[(17,.d (.int .i64))],[]⟩,[(.ret,⟨[(6,.kb false),(17,.any)],[]⟩),(.ex 0,⟨[(17,.any)],[]⟩)])],[],[]⟩ else Y4,F,[]⟩
def e0t (F:Nat):Option Bool:=.bind (c0u F) fun star=>.bind (f0k F star 0) fun (begin,begin2)=>.bind (α:=N4×(List Int)) ( same ( .bind (c0u F) fun star2=>.bind (α:=N4×(List Int)) ( same ( .bind (d0n F star2 0 begin 97) fun (next_,next_2)=>some (next_,next_2)) ( .bind (d0n F star2 0 begin 97) fun (next_3,next_4)=>some (next_3,next_4))) fun (x,src)=>some (x,src)) ( .bind (c0u F) fun star3=>.bind (d0n F star3 0 begin 97) fun (next_5,next_6)=>some (next_5,next_6))) fun (x2,src2)=>.bind (c0u F) fun star4=>.bind (f0k F star4 2) fun (begin3,begin4)=>.bind (α:=Bool) ( if begin2==0 then some (begin.Flag==2) else some false) fun x3=>.bind (α:=Bool) ( if x3 then .bind (F9 F x2.Places [0]) fun ints=>some ints else some false) fun x4=>.bind (α:=Bool) ( if x4 then .bind (F9 F src2 [(-1)]) fun ints2=>some ints2 else some false) fun x5=>.bind (α:=Bool) ( if x5 then .bind (g0b F x2) fun regs=>some (regs==1) else some false) fun x6=>.bind (α:=Bool) ( if x6 then .bind (α:=Bool) ( same ( .bind (c0u F) fun star5=>.bind (α:=Bool) ( same ( .bind (e0k F star5 x2) fun accept=>.bind (F9 F accept [0]) fun ints3=>some ints3) ( .bind (e0k F star5 x2) fun accept2=>.bind (F9 F accept2 [0]) fun ints4=>some ints4)) fun x7=>some x7) ( .bind (c0u F) fun star6=>.bind (e0k F star6 x2) fun accept3=>.bind (F9 F accept3 [0]) fun ints5=>some ints5)) fun x8=>some x8 else some false) fun x9=>.bind (α:=Bool) ( if x9 then .bind (c0u F) fun star7=>.bind (a0W F star7 x2) fun right=>some right else some false) fun x10=>.bind (α:=Bool) ( if x10 then .bind (r0Y F x2 x2) fun same_=>some same_ else some false) fun x11=>.bind (α:=Bool) ( if x11 then some (begin4==1) else some false) fun x12=>some x12
def p0W (F:Nat):Sm en.D:=⟨48,[],.d .bool,[],fun x=>e0t F⟩
def x0x (F:Nat):=L1 [k0I F,j0a F,f0U F,k0v F,j09 F,j07 F,m0u F,n04 F] 48 ⟨[],[],[(2,1000000,8,⟨[(3,.box 81 [.d (.st 12)]),(4,.own 3 (.int .i64))],[]⟩),(2,1000002,8,⟨[(3,.box 81 [.d (.st 12)]),(4,.own 3 (.int .i64))],[(2,.any)]⟩),(4,3,6,⟨[(25,.any),(29,.d .bool)],[]⟩),(4,8,12,⟨[(30,.any),(35,.d .bool)],[]⟩),(4,14,17,⟨[(36,.any),(40,.d .bool)],[]⟩),(4,19,22,⟨[(41,.any),(45,.d .bool)],[]⟩),(4,24,29,⟨[(46,.any),(52,.d .bool)],[]⟩),(4,31,34,⟨[(53,.any),(57,.d .bool)],[]⟩),(4,36,39,⟨[(58,.any),(62,.d .bool)],[]⟩),(4,41,43,⟨[(63,.any),(66,.d .bool)],[]⟩),(4,1000024,29,⟨[(52,.d .bool)],[]⟩),(4,1000026,29,⟨[(52,.d .bool)],[]⟩)],[]⟩ F
def f0N (F:Nat) (k:N4) (i:Int) (d:Int):Option (U0 Int (Unit ⊕ Unit)):=match d with
 | t=>if y0 k.Maps i then if decide (t<((gt k.Maps i).length:Int)) then if y0 k.Maps i then if y0 (gt k.Maps i) t then if decide ((gt (gt k.Maps i) t)>1000000) then some (.done (.inl ())) else some (.next (W (t+1))) else none else none else some (.done (.inr ())) else none
def j0c (F:Nat) (k:N4) (d:Int):Option (U0 Int (Unit ⊕ Unit)):=match d with
 | i=>if decide (i<(k.Maps.length:Int)) then if y0 k.Maps i then if decide (((gt k.Maps i).length:Int)>40) then some (.done (.inl ())) else .bind (α:=Unit ⊕ Unit) ( iter (f0N F k i) F 0) fun z_=>match z_ with
    | .inl _=>some (.done (.inl ()))
    | .inr _=>some (.next (W (i+1))) else none else some (.done (.inr ()))
def j0t (F:Nat) (k:N4):Option Bool:=.bind (α:=Bool) ( if decide ((k.Places.length:Int)>40) then some true else some (decide ((k.Maps.length:Int)>40))) fun x=>.bind (α:=Bool) ( if x then some true else some (decide ((k.Rank.B.length:Int)>40))) fun x2=>.bind (α:=Bool) ( if x2 then some true else some (decide ((k.Rank.D.length:Int)>40))) fun x3=>if x3 then some false else .bind (α:=Unit ⊕ Unit) ( iter (j0c F k) F 0) fun z_=>match z_ with
  | .inl _=>some false
  | .inr _=>some true
def s0w (F:Nat):Sm en.D:=⟨57,[.d (.st 12)],.d .bool,[],fun x=>j0t F x⟩
def I0U (F:Nat):=L1 [] 57 ⟨[],[(4,⟨[(3,.d (.int .i64))],[]⟩,[(.ret,⟨[(2,.kb false),(3,.any)],[]⟩),(.ex 0,⟨[(3,.any)],[]⟩)]),(9,⟨[(4,.d (.int .i64))],[]⟩,[(.ret,⟨[(2,.kb false),(4,.any)],[]⟩),(.ex 2,⟨[(4,.any)],[]⟩)])],[(1,5,9,⟨[(9,.any),(14,.d .bool)],[]⟩),(1,11,16,⟨[(15,.any),(21,.d .bool)],[]⟩),(1,18,23,⟨[(22,.any),(28,.d .bool)],[]⟩)],[]⟩ F
def o0S (F:Nat) (k:N4) (i:Int) (d:Int×Int):Option (U0 (Int×Int) (Unit ⊕ Int)):=match d with
 | (next_2,t)=>if y0 k.Maps i then if decide (t<((gt k.Maps i).length:Int)) then .bind (α:=Int ⊕ Unit) ( if y0 k.Maps i then if y0 (gt k.Maps i) t then if (gt (gt k.Maps i) t)==(-2) then some (.inl next_2) else .bind (α:=Bool) ( if decide ((gt (gt k.Maps i) t)<0) then some true else some (decide ((gt (gt k.Maps i) t)>next_2))) fun x12=>if x12 then some (.inr ()) else if (gt (gt k.Maps i) t)==next_2 then some (.inl (W (next_2+1))) else some (.inl next_2) else none else none) fun z_=>match z_ with
   | .inl next_3=>some (.next (next_3,W (t+1)))
   | .inr _=>some (.done (.inl ())) else some (.done (.inr next_2)) else none
def g0X (F:Nat) (l:List D0) (k:N4) (d:Int×Int):Option (U0 (Int×Int) (Unit ⊕ Unit)):=match d with
 | (next_,i)=>if decide (i<(k.Places.length:Int)) then if y0 k.Places i then .bind (α:=Bool) ( if decide ((gt k.Places i)<0) then some true else if y0 k.Places i then .bind (u7 F l) fun leaves=>let x6:=decide ((gt k.Places i)>=(leaves.length:Int));
      some x6 else none) fun x7=>.bind (α:=Bool) ( if x7 then some true else .bind (α:=Bool) ( if decide (i>0) then if y0 k.Places i then if y0 k.Places (W (i-1)) then let x8:=decide ((gt k.Places i)<=(gt k.Places (W (i-1))));
         some x8 else none else none else some false) fun x9=>some x9) fun x10=>.bind (α:=Bool) ( if x10 then some true else if y0 k.Maps i then .bind (h0e F l) fun tags=>some (((gt k.Maps i).length:Int) != tags) else none) fun x11=>if x11 then some (.done (.inl ())) else .bind (α:=Unit ⊕ Int) ( iter (o0S F k i) F (next_,0)) fun z_=>match z_ with
    | .inl _=>some (.done (.inl ()))
    | .inr next_4=>some (.next (next_4,W (i+1))) else none else some (.done (.inr ()))
def i0H (F:Nat) (l:List D0) (k:N4):Option Bool:=.bind (Q6 F l) fun right=>.bind (α:=Bool) ( if !right then some true else some (decide (k.Flag<0))) fun x=>.bind (α:=Bool) ( if x then some true else some (decide (k.Flag>2))) fun x2=>.bind (α:=Bool) ( if x2 then some true else let x3:=(k.Maps.length:Int) != (k.Places.length:Int);
   some x3) fun x4=>.bind (α:=Bool) ( if x4 then some true else .bind (e0q F k.Rank (k.Places.length:Int)) fun right2=>some (!right2)) fun x5=>if x5 then some false else .bind (α:=Unit ⊕ Unit) ( iter (g0X F l k) F (0,0)) fun z_=>match z_ with
  | .inl _=>some false
  | .inr _=>some true
def q0t (F:Nat):Sm en.D:=⟨58,[.d (.list (.st 0)),.d (.st 12)],.d .bool,[],fun x=>i0H F x.1 x.2⟩
def J0p (F:Nat):=L1 [b0t F,e08 F,d05 F,i0Q F] 58 ⟨[(11,[(.nrm,⟨[(5,.d (.int .i64))],[]⟩),(.ret,⟨[(4,.kb false)],[]⟩)])],[(10,⟨[(5,.d (.int .i64)),(7,.d (.int .i64))],[]⟩,[(.ret,⟨[(4,.kb false),(5,.any),(7,.any)],[]⟩),(.ex 2,⟨[(5,.d (.int .i64)),(7,.any)],[]⟩)]),(5,⟨[(5,.d (.int .i64)),(6,.d (.int .i64))],[]⟩,[(.ret,⟨[(4,.kb false),(5,.any),(6,.any)],[]⟩),(.ex 0,⟨[(5,.any),(6,.any)],[]⟩)])],[(1,4,7,⟨[(12,.any),(16,.d .bool)],[]⟩),(1,9,12,⟨[(17,.any),(21,.d .bool)],[]⟩),(1,14,21,⟨[(22,.any),(30,.d .bool)],[]⟩),(1,23,30,⟨[(31,.any),(39,.d .bool)],[]⟩),(7,7,16,⟨[(53,.any),(63,.d .bool)],[]⟩),(7,18,34,⟨[(64,.any),(81,.d .bool)],[]⟩),(7,21,33,⟨[(67,.any),(80,.d .bool)],[]⟩),(7,36,45,⟨[(82,.any),(92,.d .bool)],[]⟩),(14,3,6,⟨[(115,.any),(119,.d .bool)],[]⟩)],[]⟩ F
def f0F (F:Nat) (next_2:List Int) (i:Int) (d:Int):Option (U0 Int (Unit ⊕ Unit)):=match d with
 | j=>if decide (j<i) then if y0 next_2 j then if y0 next_2 i then if (gt next_2 j)==(gt next_2 i) then some (.done (.inl ())) else some (.next (W (j+1))) else none else none else some (.done (.inr ()))
def f0O (F:Nat) (k:N4) (next_2:List Int) (d:Int):Option (U0 Int (Unit ⊕ Unit)):=match d with
 | i=>if decide (i<(next_2.length:Int)) then if y0 next_2 i then .bind (α:=Bool) ( if (gt next_2 i) != (-1) then if y0 next_2 i then .bind (α:=Bool) ( if decide ((gt next_2 i)<0) then some true else if y0 next_2 i then .bind (g0b F k) fun regs2=>some (decide ((gt next_2 i)>=regs2)) else none) fun x11=>some x11 else none else some false) fun x12=>if x12 then some (.done (.inl ())) else .bind (α:=Unit ⊕ Unit) ( iter (f0F F next_2 i) F 0) fun z_=>match z_ with
    | .inl _=>some (.done (.inl ()))
    | .inr _=>some (.next (W (i+1))) else none else some (.done (.inr ()))
def l0k (F:Nat) (l:List D0) (k:N4) (x:g0m):Option Bool:=.bind (α:=Bool) ( if decide ((l.length:Int)>40) then some true else .bind (j0t F k) fun small=>some (!small)) fun x2=>.bind (α:=Bool) ( if x2 then some true else .bind (a0W F l k) fun right=>some (!right)) fun x3=>.bind (α:=Bool) ( if x3 then some true else .bind (i0H F l k) fun right2=>some (!right2)) fun x4=>.bind (α:=Bool) ( if x4 then some true else .bind (α:=Bool) ( if x.Mode != 0 then some (x.Mode != 1) else some false) fun x5=>some x5) fun x6=>if x6 then .bind (e0t F) fun sure=>some sure else .bind (d0n F l x.Mode k x.B) fun (next_,next_2)=>.bind (a0W F l next_) fun right3=>.bind (α:=Bool) ( if !right3 then some true else .bind (g0b F next_) fun regs=>some ((next_2.length:Int) != regs)) fun x7=>.bind (α:=Bool) ( if x7 then some true else .bind (α:=Bool) ( if k.Flag==0 then some (next_.Flag != 0) else some false) fun x8=>some x8) fun x9=>.bind (α:=Bool) ( if x9 then some true else some (next_.Flag==2)) fun x10=>if x10 then some false else .bind (α:=Unit ⊕ Unit) ( iter (f0O F k next_2) F 0) fun z_=>match z_ with
   | .inl _=>some false
   | .inr _=>.bind (e0t F) fun sure2=>some sure2
def u0e (F:Nat):Sm en.D:=⟨12,[.d (.list (.st 0)),.d (.st 12),.d (.st 13)],.d .bool,[],fun x=>l0k F x.1 x.2.1 x.2.2⟩
def J0n (F:Nat):=L1 [p0W F,f0U F,j09 F,j07 F,s0w F,q0t F] 12 ⟨[],[(12,⟨[(10,.d (.int .i64))],[]⟩,[(.ret,⟨[(6,.kb false),(10,.any)],[]⟩),(.ex 2,⟨[(10,.any)],[]⟩)]),(7,⟨[(9,.d (.int .i64))],[]⟩,[(.ret,⟨[(6,.kb false),(9,.any)],[]⟩),(.ex 0,⟨[(9,.any)],[]⟩)])],[(1,4,7,⟨[(14,.any),(18,.d .bool)],[]⟩),(1,9,13,⟨[(19,.any),(24,.d .bool)],[]⟩),(1,15,19,⟨[(25,.any),(30,.d .bool)],[]⟩),(1,21,29,⟨[(31,.any),(40,.d .bool)],[]⟩),(1,25,28,⟨[(35,.any),(39,.d .bool)],[]⟩),(4,5,10,⟨[(56,.any),(62,.d .bool)],[]⟩),(4,12,20,⟨[(63,.any),(72,.d .bool)],[]⟩),(4,16,19,⟨[(67,.any),(71,.d .bool)],[]⟩),(4,22,25,⟨[(73,.any),(77,.d .bool)],[]⟩),(9,6,20,⟨[(89,.any),(104,.d .bool)],[]⟩),(9,12,19,⟨[(95,.any),(103,.d .bool)],[]⟩)],[]⟩ F
