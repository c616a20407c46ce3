/- A text of the proof. Its conditions: none. -/
import Derived.Test.YtdficaoajalfaaaGreatAEn
import Derived.Test.YtdficaoajalfaaaGreatAX17
import Derived.Test.YtdficaoajalfaaaGreatAX14
import Derived.Test.YtdficaoajalfaaaGreatAVKey
set_option linter.all false
set_option maxRecDepth 100000
noncomputable section
namespace Go.Proofs.YtdficaoajalfaaaGreat
open Go.V Go.RowKit Go.X
def i0W (F:Nat) (l:List C0) (w:List Int):Option Bool:=.bind (α:=Bool) ( if decide ((l.length:Int)<=40) then some (decide ((w.length:Int)<=24)) else some false) fun x=>some x
abbrev V4:Ann:=⟨[],[],[],[]⟩
abbrev B2 (l:List (Sm en.D)) (n:Nat) (a:Ann) (F:Nat):D4 en:=⟨l,fun g=>if Nat.beq g n then a else V4,F,[]⟩
def o0e (F:Nat):Sm en.D:=⟨13,[.d (.list (.st 0)),.d (.list (.int .u8))],.d .bool,[],fun x=>i0W F x.1 x.2⟩
def v0G (F:Nat):=B2 [] 13 ⟨[],[],[(1,4,7,⟨[(8,.any),(12,.d .bool)],[]⟩)],[]⟩ F
def b0z (F:Nat) (l:List C0) (ahead:List Int) (i:Int):Option Int:=if B0 l i then .bind (α:=Int ⊕ Unit) ( .bind (α:=Bool) ( if ((gt l i).Kind)==1 then some (((gt l i).Kind)==1) else some (((gt l i).Kind)==2)) fun x=>if x then .bind (α:=Bool) ( if ((gt l i).A)==(-1) then some (((gt l i).B)==(-1)) else some false) fun x2=>if x2 then some (.inl i) else some (.inr ()) else .bind (α:=Bool) ( if ((gt l i).Kind)==3 then some (((gt l i).Kind)==3) else some (((gt l i).Kind)==4)) fun x3=>if x3 then .bind (α:=Bool) ( if decide (((gt l i).B)>=0) then some (((gt l i).B)==(W (i-1))) else some false) fun x4=>.bind (α:=Bool) ( if x4 then some (decide (((gt l i).A)>=0)) else some false) fun x5=>.bind (α:=Bool) ( if x5 then if B0 ahead ((gt l i).B) then let x6:=((gt l i).A)==(W ((gt ahead ((gt l i).B))-1));
        some x6 else none else some false) fun x7=>if x7 then if B0 ahead ((gt l i).A) then some (.inl (gt ahead ((gt l i).A))) else none else some (.inr ()) else .bind (α:=Bool) ( if ((gt l i).Kind)==5 then some (((gt l i).Kind)==5) else if ((gt l i).Kind)==6 then some (((gt l i).Kind)==6) else if ((gt l i).Kind)==7 then some (((gt l i).Kind)==7) else some (((gt l i).Kind)==8)) fun x8=>if x8 then .bind (α:=Bool) ( if ((gt l i).B)==(-1) then some (decide (((gt l i).A)>=0)) else some false) fun x9=>.bind (α:=Bool) ( if x9 then some (((gt l i).A)==(W (i-1))) else some false) fun x10=>if x10 then if B0 ahead ((gt l i).A) then some (.inl (gt ahead ((gt l i).A))) else none else some (.inr ()) else some (.inr ())) fun z_=>match z_ with
  | .inl x11=>some x11
  | .inr _=>some (-1) else none
def k09 (F:Nat):Sm en.D:=⟨167,[.d (.list (.st 0)),.d (.list (.int .i64)),.d (.int .i64)],.d (.int .i64),[],fun x=>b0z F x.1 x.2.1 x.2.2⟩
def C0P (F:Nat):=B2 [] 167 ⟨[(15,[(.nrm,⟨[(60,.d .bool)],[]⟩)]),(17,[(.ret,⟨[(6,.d (.int .i64))],[]⟩),(.nrm,⟨[],[]⟩)]),(5,[(.nrm,⟨[(14,.d .bool)],[]⟩)]),(9,[(.nrm,⟨[(26,.d .bool)],[]⟩)])],[],[(5,4,7,⟨[(20,.any),(24,.d .bool)],[]⟩),(9,4,9,⟨[(32,.any),(38,.d .bool)],[]⟩),(9,11,14,⟨[(39,.any),(43,.d .bool)],[]⟩),(9,16,25,⟨[(44,.any),(54,.d .bool)],[]⟩),(15,4,7,⟨[(68,.any),(72,.d .bool)],[]⟩),(15,9,14,⟨[(73,.any),(79,.d .bool)],[]⟩)],[]⟩ F
def b0P (F:Nat) (x:C0):Option Bool:=.bind (α:=Bool) ( if x.Kind != 2 then let x2:=!(((gt x.Set 0)==0)&&(((gt x.Set 1)==0)&&(((gt x.Set 2)==0)&&((gt x.Set 3)==0))));
   some x2 else some false) fun x3=>if x3 then some false else if x.Kind==7 then .bind (α:=Bool) ( if decide (x.N>=1) then some (decide (x.N<=9)) else some false) fun x4=>some x4 else some (x.N==0)
def k02 (F:Nat):Sm en.D:=⟨168,[.d (.st 0)],.d .bool,[],fun x=>b0P F x⟩
def w0Q (F:Nat):=B2 [] 168 ⟨[],[],[(1,4,8,⟨[(6,.any),(11,.d .bool)],[]⟩),(4,4,7,⟨[(18,.any),(22,.d .bool)],[]⟩)],[]⟩ F
def m03 (F:Nat) (x:C0) (in_:List C0) (d:Int):Option (V0 Int (Unit ⊕ Unit)):=match d with
 | x2=>if decide (x2<(in_.length:Int)) then if B0 in_ x2 then .bind (α:=Bool) ( if x.Kind==7 then some (((gt in_ x2).Kind)==7) else some false) fun x3=>.bind (α:=Bool) ( if x3 then some (((gt in_ x2).N)==x.N) else some false) fun x4=>if x4 then some (.done (.inl ())) else some (.next (W (x2+1))) else none else some (.done (.inr ()))
def b09 (F:Nat) (x:C0) (in_:List C0):Option Bool:=.bind (α:=Unit ⊕ Unit) ( iter (m03 F x in_) F 0) fun z_=>match z_ with
 | .inl _=>some true
 | .inr _=>some false
def n0L (F:Nat):Sm en.D:=⟨169,[.d (.st 0),.d (.list (.st 0))],.d .bool,[],fun x=>b09 F x.1 x.2⟩
def x0j (F:Nat):=B2 [] 169 ⟨[],[(2,⟨[(9,.d (.int .i64))],[]⟩,[(.ret,⟨[(4,.kb true),(9,.any)],[]⟩),(.ex 0,⟨[(9,.any)],[]⟩)])],[(4,4,7,⟨[(16,.any),(20,.d .bool)],[]⟩),(4,9,14,⟨[(21,.any),(27,.d .bool)],[]⟩)],[]⟩ F
def k0U (F:Nat) (l:List C0) (d:(List Int)×Int×Int):Option (V0 ((List Int)×Int×Int) (Unit ⊕ ((List Int)×Int))):=match d with
 | (out,leaves,x2)=>if decide (x2<(l.length:Int)) then if B0 l x2 then .bind (b0z F l out x2) fun low=>.bind (α:=Bool) ( if decide (low<0) then some true else .bind (b0P F (gt l x2)) fun fields=>some (!fields)) fun x3=>.bind (α:=Bool) ( if x3 then some true else if I4 l low x2 then .bind (b09 F (gt l x2) (I1 l low x2)) fun again=>some again else none) fun x4=>if x4 then some (.done (.inl ())) else .bind (α:=Int) ( if ((gt l x2).Kind)==2 then some (W (leaves+1)) else some leaves) fun leaves2=>if I0 8 out [low] then some (.next (out++[low],leaves2,W (x2+1))) else none else none else some (.done (.inr (out,leaves)))
def R8 (F:Nat) (l:List C0):Option (List Int):=.bind (α:=Bool) ( if (l.length:Int)==0 then some true else some (decide ((l.length:Int)>400))) fun x=>if x then some [] else .bind (α:=Unit ⊕ ((List Int)×Int)) ( iter (k0U F l) F ([],0,0)) fun z_=>match z_ with
  | .inl _=>some []
  | .inr (out2,leaves3)=>.bind (α:=Bool) ( if decide (leaves3>64) then some true else if B0 out2 (W ((l.length:Int)-1)) then some ((gt out2 (W ((l.length:Int)-1))) != 0) else none) fun x5=>if x5 then some [] else some out2
def f0E (F:Nat):Sm en.D:=⟨125,[.d (.list (.st 0))],.own 3 (.int .i64),[],fun x=>R8 F x⟩
def C05 (F:Nat):=B2 [k09 F,k02 F,n0L F] 125 ⟨[(13,[(.nrm,⟨[(4,.d (.int .i64))],[]⟩)])],[(6,⟨[(3,.own 3 (.int .i64)),(4,.d (.int .i64)),(18,.d (.int .i64))],[]⟩,[(.ret,⟨[(2,.nil),(3,.any),(4,.any),(18,.any)],[]⟩),(.ex 0,⟨[(3,.own 3 (.int .i64)),(4,.d (.int .i64)),(18,.any)],[]⟩)])],[(1,4,7,⟨[(11,.any),(15,.d .bool)],[]⟩),(9,3,6,⟨[(29,.any),(33,.d .bool)],[]⟩),(9,8,14,⟨[(34,.any),(41,.d .bool)],[]⟩),(15,3,10,⟨[(54,.any),(62,.d .bool)],[]⟩)],[]⟩ F
def c7 (F:Nat) (l:List C0):Option Bool:=.bind (R8 F l) fun low=>some (decide ((low.length:Int)>0))
def b0Q (F:Nat):Sm en.D:=⟨67,[.d (.list (.st 0))],.d .bool,[],fun x=>c7 F x⟩
def D0i (F:Nat):=B2 [f0E F] 67 V4 F
def o0x (F:Nat) (l:List C0) (d:(List Int)×Int):Option (V0 ((List Int)×Int) (List Int)):=match d with
 | (out,x)=>if decide (x<(l.length:Int)) then .bind (α:=List Int) ( if B0 l x then if ((gt l x).Kind)==2 then if I0 8 out [x] then some (out++[x]) else none else some out else none) fun out2=>some (.next (out2,W (x+1))) else some (.done out)
def K7 (F:Nat) (l:List C0):Option (List Int):=.bind (c7 F l) fun right=>if !right then some [] else .bind (α:=List Int) ( iter (o0x F l) F ([],0)) fun out3=>some out3
def e09 (F:Nat):Sm en.D:=⟨107,[.d (.list (.st 0))],.own 3 (.int .i64),[],fun x=>K7 F x⟩
def y0j (F:Nat):=B2 [b0Q F] 107 ⟨[(9,[(.nrm,⟨[(3,.own 3 (.int .i64))],[(0,.any)]⟩)])],[(5,⟨[(3,.own 3 (.int .i64)),(11,.d (.int .i64))],[]⟩,[(.ex 0,⟨[(3,.own 3 (.int .i64)),(11,.any)],[]⟩)])],[],[]⟩ F
def h0R (F:Nat) (l:List C0) (q:Int) (low:List Int) (x2:Int) (d:Int×(List Bool)):Option (V0 (Int×(List Bool)) (List Bool)):=match d with
 | (x3,y)=>if decide (x3<x2) then .bind (α:=List Bool) ( if B0 (I1 l (gt low q) (W (q+1))) x3 then let x4:=((gt (I1 l (gt low q) (W (q+1))) x3).Kind)==7;
    if x4 then if decide (0<=(gt (I1 l (gt low q) (W (q+1))) x3).N)&&decide ((gt (I1 l (gt low q) (W (q+1))) x3).N<10) then let x5:=y.set ((gt (I1 l (gt low q) (W (q+1))) x3).N).toNat true;
      some x5 else none else some y else none) fun y2=>some (.next (W (x3+1),y2)) else some (.done y)
def g0J (F:Nat) (y3:List Bool) (d:(List Int)×Int):Option (V0 ((List Int)×Int) (List Int)):=match d with
 | (out,x6)=>if decide (x6<10) then .bind (α:=List Int) ( if decide (0<=x6)&&decide (x6<10) then if gt y3 x6 then if I0 8 out [x6] then some (out++[x6]) else none else some out else none) fun out2=>some (.next (out2,W (x6+1))) else some (.done out)
def g0X (F:Nat) (l:List C0) (q:Int):Option (List Int):=.bind (R8 F l) fun low=>.bind (α:=Bool) ( if decide (q<0) then some true else some (decide (q>=(low.length:Int)))) fun x=>if x then some [] else if B0 low q then if I4 l (gt low q) (W (q+1)) then let x2:=((I1 l (gt low q) (W (q+1))).length:Int);
    .bind (α:=List Bool) ( iter (h0R F l q low x2) F (0,[false,false,false,false,false,false,false,false,false,false])) fun y3=>.bind (α:=List Int) ( iter (g0J F y3) F ([],0)) fun out3=>some out3 else none else none
def j0g (F:Nat):Sm en.D:=⟨189,[.d (.list (.st 0)),.d (.int .i64)],.own 3 (.int .i64),[],fun x=>g0X F x.1 x.2⟩
def D0Z (F:Nat):=B2 [f0E F] 189 ⟨[(10,[(.nrm,⟨[],[(1,.box 250 [.d (.arr 10 .bool)])]⟩)]),(17,[(.nrm,⟨[(9,.own 3 (.int .i64))],[(3,.any)]⟩)])],[(13,⟨[(9,.own 3 (.int .i64)),(41,.d (.int .i64))],[]⟩,[(.ex 2,⟨[(9,.own 3 (.int .i64)),(41,.any)],[]⟩)]),(6,⟨[(30,.d (.int .i64))],[(1,.box 250 [.d (.arr 10 .bool)])]⟩,[(.ex 0,⟨[(30,.any)],[(1,.box 250 [.d (.arr 10 .bool)])]⟩)])],[(2,3,7,⟨[(15,.any),(20,.d .bool)],[]⟩)],[]⟩ F
def h07 (F:Nat) (groups:List Int) (d:Int×Int):Option (V0 (Int×Int) Int):=match d with
 | (top,x)=>if decide (x<(groups.length:Int)) then if B0 groups x then some (.next (gt groups x,W (x+1))) else none else some (.done top)
def k0p (F:Nat) (l:List C0):Option Int:=.bind (g0X F l (W ((l.length:Int)-1))) fun groups=>.bind (α:=Int) ( iter (h07 F groups) F (0,0)) fun top2=>some top2
def k06 (F:Nat):Sm en.D:=⟨156,[.d (.list (.st 0))],.d (.int .i64),[],fun x=>k0p F x⟩
def y0V (F:Nat):=B2 [j0g F] 156 ⟨[],[(3,⟨[(3,.d (.int .i64)),(12,.d (.int .i64))],[]⟩,[(.ex 0,⟨[(3,.d (.int .i64)),(12,.any)],[]⟩)])],[],[]⟩ F
def j0A (F:Nat) (l:List C0):Option Int:=.bind (c7 F l) fun right=>if !right then some 0 else .bind (k0p F l) fun top=>some (W (1+(W (2*top))))
def n0N (F:Nat):Sm en.D:=⟨109,[.d (.list (.st 0))],.d (.int .i64),[],fun x=>j0A F x⟩
def y0K (F:Nat):=B2 [b0Q F,k06 F] 109 V4 F
def m0w (F:Nat) (l:List C0) (d:Int×(List Bool)):Option (V0 (Int×(List Bool)) (List Bool)):=match d with
 | (x,y)=>if decide (x<(l.length:Int)) then .bind (α:=List Bool) ( if B0 l x then .bind (α:=Bool) ( if ((gt l x).Kind)==1 then some (((gt l x).Kind)==1) else if ((gt l x).Kind)==5 then some (((gt l x).Kind)==5) else some (((gt l x).Kind)==6)) fun x2=>if x2 then if B0 y x then some (y.set x.toNat true) else none else if ((gt l x).Kind)==3 then if B0 y ((gt l x).A) then .bind (α:=Bool) ( if gt y ((gt l x).A) then if B0 y ((gt l x).B) then some (gt y ((gt l x).B)) else none else some false) fun x3=>if B0 y x then some (y.set x.toNat x3) else none else none else if ((gt l x).Kind)==4 then if B0 y ((gt l x).A) then .bind (α:=Bool) ( if gt y ((gt l x).A) then some true else if B0 y ((gt l x).B) then some (gt y ((gt l x).B)) else none) fun x4=>if B0 y x then some (y.set x.toNat x4) else none else none else .bind (α:=Bool) ( if ((gt l x).Kind)==7 then some (((gt l x).Kind)==7) else some (((gt l x).Kind)==8)) fun x5=>if x5 then if B0 y ((gt l x).A) then if B0 y x then some (y.set x.toNat (gt y ((gt l x).A))) else none else none else some y else none) fun y2=>some (.next (W (x+1),y2)) else some (.done y)
def a0T (F:Nat) (l:List C0):Option (List Bool):=.bind (c7 F l) fun right=>if !right then some [] else if V2 1 (l.length:Int) then .bind (α:=List Bool) ( iter (m0w F l) F (0,(List.replicate (l.length:Int).toNat false:List Bool))) fun y3=>some y3 else none
def k0q (F:Nat):Sm en.D:=⟨105,[.d (.list (.st 0))],.own 4 .bool,[],fun x=>a0T F x⟩
def D0G (F:Nat):=B2 [b0Q F] 105 ⟨[(11,[(.nrm,⟨[(21,.d .bool)],[]⟩)]),(18,[(.nrm,⟨[(62,.d .bool)],[]⟩)]),(19,[(.nrm,⟨[],[(0,.own 4 .bool)]⟩)])],[(5,⟨[(14,.d (.int .i64))],[(0,.own 4 .bool)]⟩,[(.ex 0,⟨[(14,.any)],[(0,.own 4 .bool)]⟩)])],[(13,8,13,⟨[(37,.any),(43,.d .bool)],[]⟩),(15,8,13,⟨[(54,.any),(60,.d .bool)],[]⟩)],[]⟩ F
def X6 (F:Nat):Nat->(List C0)->(List Bool)->Int->(List Int)->Option (List Int)
 | 0,_,_,_,_=>none
 | n+1,l,can,q,out=>if I0 8 out [W (2*q)] then if B0 l q then .bind (α:=List Int) ( if ((gt l q).Kind)==3 then .bind (X6 F n l can ((gt l q).A) (out++[W (2*q)])) fun walk=>.bind (X6 F n l can ((gt l q).B) walk) fun walk2=>some walk2 else if ((gt l q).Kind)==4 then if B0 can ((gt l q).A) then if gt can ((gt l q).A) then .bind (X6 F n l can ((gt l q).A) (out++[W (2*q)])) fun walk3=>some walk3 else .bind (X6 F n l can ((gt l q).B) (out++[W (2*q)])) fun walk4=>some walk4 else none else .bind (α:=Bool) ( if ((gt l q).Kind)==7 then some (((gt l q).Kind)==7) else some (((gt l q).Kind)==8)) fun x=>if x then .bind (X6 F n l can ((gt l q).A) (out++[W (2*q)])) fun walk5=>some walk5 else some (out++[W (2*q)])) fun out2=>if I0 8 out2 [W ((W (2*q))+1)] then some (out2++[W ((W (2*q))+1)]) else none else none else none
def i07 (F n:Nat):Sm en.D:=⟨190,[.d (.list (.st 0)),.d (.list .bool),.d (.int .i64),.own 3 (.int .i64)],.own 3 (.int .i64),[],fun x=>X6 F n x.1 x.2.1 x.2.2.1 x.2.2.2⟩
def A0f (F n:Nat):=B2 [i07 F n] 190 ⟨[(12,[(.nrm,⟨[(53,.d .bool)],[]⟩)]),(13,[(.nrm,⟨[(3,.own 3 (.int .i64))],[(2,.any)]⟩)])],[],[],[]⟩ F
def a0f (F:Nat) (l:List C0) (q:Int):Option (List Int):=.bind (a0T F l) fun can=>.bind (α:=Bool) ( if decide (q<0) then some true else some (decide (q>=(can.length:Int)))) fun x=>.bind (α:=Bool) ( if x then some true else if B0 can q then some (!(gt can q)) else none) fun x2=>if x2 then some [] else .bind (X6 F F l can q []) fun walk=>some walk
def g0L (F:Nat):Sm en.D:=⟨158,[.d (.list (.st 0)),.d (.int .i64)],.own 3 (.int .i64),[],fun x=>a0f F x.1 x.2⟩
def x0H (F:Nat):=B2 [k0q F,i07 F F] 158 ⟨[],[],[(2,3,7,⟨[(10,.any),(15,.d .bool)],[]⟩),(2,9,14,⟨[(16,.any),(22,.d .bool)],[]⟩)],[]⟩ F
def o0s (F:Nat) (l:List C0) (d:Int×(List Int)):Option (V0 (Int×(List Int)) (List Int)):=match d with
 | (x,y)=>if decide (x<(l.length:Int)) then .bind (α:=List Int) ( if B0 l x then .bind (α:=List Int) ( if decide (((gt l x).A)>=0) then if B0 y ((gt l x).A) then some (y.set ((gt l x).A).toNat x) else none else some y) fun y2=>if decide (((gt l x).B)>=0) then if B0 y2 ((gt l x).B) then some (y2.set ((gt l x).B).toNat x) else none else some y2 else none) fun y3=>some (.next (W (x+1),y3)) else some (.done y)
def S9 (F:Nat) (l:List C0):Option (List Int):=.bind (c7 F l) fun right=>if !right then some [] else if V2 8 (l.length:Int) then if B0 (List.replicate (l.length:Int).toNat 0:List Int) (W ((l.length:Int)-1)) then let l2:=(List.replicate (l.length:Int).toNat 0:List Int).set (W ((l.length:Int)-1)).toNat (-1);
    .bind (α:=List Int) ( iter (o0s F l) F (0,l2)) fun y4=>some y4 else none else none
def f0S (F:Nat):Sm en.D:=⟨195,[.d (.list (.st 0))],.own 3 (.int .i64),[],fun x=>S9 F x⟩
def F0f (F:Nat):=B2 [b0Q F] 195 ⟨[(10,[(.nrm,⟨[],[(0,.own 3 (.int .i64))]⟩)]),(12,[(.nrm,⟨[],[(0,.own 3 (.int .i64))]⟩)])],[(6,⟨[(19,.d (.int .i64))],[(0,.own 3 (.int .i64))]⟩,[(.ex 0,⟨[(19,.any)],[(0,.own 3 (.int .i64))]⟩)])],[],[]⟩ F
def o0V (F:Nat) (up:List Int) (d:Int×(List Int)):Option (V0 (Int×(List Int)) (List Int)):=match d with
 | (i,y)=>if decide (i>=0) then .bind (α:=List Int) ( if B0 y i then if B0 up i then if decide ((gt up i)>=0) then if B0 (y.set i.toNat 1) i then if B0 up i then if B0 (y.set i.toNat 1) (gt up i) then let x:=W ((gt (y.set i.toNat 1) i)+(gt (y.set i.toNat 1) (gt up i)));
         if B0 (y.set i.toNat 1) i then some ((y.set i.toNat 1).set i.toNat x) else none else none else none else none else some (y.set i.toNat 1) else none else none) fun y2=>some (.next (W (i-1),y2)) else some (.done y)
def a0w (F:Nat) (l:List C0):Option (List Int):=.bind (S9 F l) fun up=>if V2 8 (up.length:Int) then .bind (α:=List Int) ( iter (o0V F up) F (W ((up.length:Int)-1),(List.replicate (up.length:Int).toNat 0:List Int))) fun y3=>some y3 else none
def j0S (F:Nat):Sm en.D:=⟨178,[.d (.list (.st 0))],.own 3 (.int .i64),[],fun x=>a0w F x⟩
def v0a (F:Nat):=B2 [f0S F] 178 ⟨[(5,[(.nrm,⟨[],[(1,.own 3 (.int .i64))]⟩)])],[(4,⟨[(5,.d (.int .i64))],[(1,.own 3 (.int .i64))]⟩,[(.ex 0,⟨[(5,.any)],[(1,.own 3 (.int .i64))]⟩)])],[],[]⟩ F
def k04 (F:Nat) (x:Int) (d:Int×(List Int)):Option (V0 (Int×(List Int)) (List Int)):=match d with
 | (x2,y)=>if decide (x2<x) then if B0 y x2 then some (.next (W (x2+1),y.set x2.toNat (-1))) else none else some (.done y)
def l0v (F:Nat) (leaves:List Int) (d:Int×(List Int)):Option (V0 (Int×(List Int)) (List Int)):=match d with
 | (x3,y3)=>if decide (x3<(leaves.length:Int)) then if B0 leaves x3 then if B0 y3 (gt leaves x3) then some (.next (W (x3+1),y3.set (gt leaves x3).toNat x3)) else none else none else some (.done y3)
def b0K (F:Nat) (l:List C0):Option (List Int):=.bind (c7 F l) fun right=>if !right then some [] else if V2 8 (l.length:Int) then let x:=((List.replicate (l.length:Int).toNat 0:List Int).length:Int);
   .bind (α:=List Int) ( iter (k04 F x) F (0,(List.replicate (l.length:Int).toNat 0:List Int))) fun y2=>.bind (K7 F l) fun leaves=>.bind (α:=List Int) ( iter (l0v F leaves) F (0,y2)) fun y4=>some y4 else none
def l0E (F:Nat):Sm en.D:=⟨196,[.d (.list (.st 0))],.own 3 (.int .i64),[],fun x=>b0K F x⟩
def E03 (F:Nat):=B2 [b0Q F,e09 F] 196 ⟨[],[(10,⟨[(25,.d (.int .i64))],[(0,.own 3 (.int .i64))]⟩,[(.ex 2,⟨[(25,.any)],[(0,.own 3 (.int .i64))]⟩)]),(5,⟨[(15,.d (.int .i64))],[(0,.own 3 (.int .i64))]⟩,[(.ex 0,⟨[(15,.any)],[(0,.own 3 (.int .i64))]⟩)])],[],[]⟩ F
def a0Z (F:Nat) (l:List C0):Option ((Unit ⊕ U4)×Bool):=.bind (c7 F l) fun right=>if !right then some ((.inl ()),false) else .bind (S9 F l) fun up=>.bind (a0w F l) fun deep=>.bind (b0K F l) fun index=>.bind (a0T F l) fun can=>some ((.inr (⟨l,up,deep,index,can⟩:U4)),true)
def j0L (F:Nat):Sm en.D:=⟨170,[.d (.list (.st 0))],.tup [.alt .nilp (.box 239 [.d (.st 20)]),.d .bool],[],fun x=>a0Z F x⟩
def w0J (F:Nat):=B2 [b0Q F,k0q F,j0S F,f0S F,l0E F] 170 V4 F
def a0S (F:Nat) (l:List C0) (p:Int):Option ((Unit ⊕ U4)×Int×Bool):=.bind (α:=(Unit ⊕ U4)×Bool) ( .bind (a0Z F l) fun (of,of3)=>match of with
  | .inl _=>some ((.inl ()),of3)
  | .inr of2=>some ((.inr of2),of3)) fun (c,ok)=>match c with
 | .inl _=>if !ok then some ((.inl ()),0,false) else .bind (K7 F l) fun leaves2=>.bind (α:=Bool) ( if decide (p<0) then some true else some (decide (p>=(leaves2.length:Int)))) fun x2=>if x2 then some ((.inl ()),0,false) else if B0 leaves2 p then some ((.inl ()),gt leaves2 p,true) else none
 | .inr c2=>if !ok then some ((.inl ()),0,false) else .bind (K7 F l) fun leaves=>.bind (α:=Bool) ( if decide (p<0) then some true else some (decide (p>=(leaves.length:Int)))) fun x=>if x then some ((.inl ()),0,false) else if B0 leaves p then some ((.inr c2),gt leaves p,true) else none
def j0C (F:Nat):Sm en.D:=⟨159,[.d (.list (.st 0)),.d (.int .i64)],.tup [.alt .nilp (.box 239 [.d (.st 20)]),.d (.int .i64),.d .bool],[],fun x=>a0S F x.1 x.2⟩
def D0I (F:Nat):=B2 [e09 F,j0L F] 159 ⟨[(2,[(.nrm,⟨[(7,.alt .nilp (.box 239 [.d (.st 20)])),(8,.d .bool)],[]⟩)])],[],[(5,3,7,⟨[(21,.any),(26,.d .bool)],[]⟩)],[]⟩ F
def I8 (F:Nat) (a:List Int) (b:List Int):Option (List Int):=if decide ((a.length:Int)=(a.length:Int))&&(I4 a 0 (a.length:Int)&&(decide ((a.length:Int)<=(a.length:Int))&&decide ((a.length:Int)<=(a.length:Int)))) then if I0 8 (I1 a 0 (a.length:Int)) b then some ((I1 a 0 (a.length:Int))++b) else none else none
def k0G (F:Nat):Sm en.D:=⟨192,[.d (.list (.int .i64)),.d (.list (.int .i64))],.d (.list (.int .i64)),[],fun x=>I8 F x.1 x.2⟩
def B0G (F:Nat):=B2 [] 192 V4 F
def e6 (F:Nat):Nat->U4->Int->(List Int)->(List y0)->Option (List y0)
 | 0,_,_,_,_=>none
 | n+1,c,q,ahead,out=>if B0 c.l q then .bind (I8 F ahead [W (2*q)]) fun more=>.bind (α:=(List y0) ⊕ (List y0)) ( if ((gt c.l q).Kind)==2 then if B0 c.index q then if I0 40 out [(⟨gt c.index q,0,more⟩:y0)] then some (.inl (out++[(⟨gt c.index q,0,more⟩:y0)])) else none else none else if ((gt c.l q).Kind)==3 then .bind (e6 F n c ((gt c.l q).A) more out) fun Q0=>if B0 c.can ((gt c.l q).A) then if gt c.can ((gt c.l q).A) then .bind (a0f F c.l ((gt c.l q).A)) fun steps=>.bind (I8 F more steps) fun more2=>.bind (e6 F n c ((gt c.l q).B) more2 Q0) fun into2=>some (.inr into2) else some (.inr Q0) else none else if ((gt c.l q).Kind)==4 then .bind (e6 F n c ((gt c.l q).A) more out) fun into3=>.bind (e6 F n c ((gt c.l q).B) more into3) fun into4=>some (.inr into4) else .bind (α:=Bool) ( if ((gt c.l q).Kind)==5 then some (((gt c.l q).Kind)==5) else if ((gt c.l q).Kind)==6 then some (((gt c.l q).Kind)==6) else if ((gt c.l q).Kind)==7 then some (((gt c.l q).Kind)==7) else some (((gt c.l q).Kind)==8)) fun x=>if x then .bind (e6 F n c ((gt c.l q).A) more out) fun into5=>some (.inr into5) else some (.inr out)) fun z_=>match z_ with
  | .inl x2=>some x2
  | .inr out2=>some out2 else none
def g0p (F n:Nat):Sm en.D:=⟨172,[.d (.ptr (.st 20)),.d (.int .i64),.d (.list (.int .i64)),.own 121 (.st 3)],.own 121 (.st 3),[],fun x=>e6 F n x.1 x.2.1 x.2.2.1 x.2.2.2⟩
def C0W (F n:Nat):=B2 [g0L F,g0p F n,k0G F] 172 ⟨[(16,[(.nrm,⟨[(82,.d .bool)],[]⟩)]),(17,[(.ret,⟨[(8,.own 121 (.st 3))],[(0,.any)]⟩),(.nrm,⟨[(3,.own 121 (.st 3))],[(0,.any)]⟩)])],[],[],[]⟩ F
def l0q (F:Nat) (Q0:List y0) (out2:List y0) (x:Int) (d:Int):Option (V0 Int (Int ⊕ Unit)):=match d with
 | x2=>if decide (x2<(out2.length:Int)) then if B0 out2 x2 then if ((gt out2 x2).To)==((gt Q0 x).To) then some (.done (.inl x2)) else some (.next (W (x2+1))) else none else some (.done (.inr ()))
def l0x (F:Nat) (c:U4) (at_:Int) (Q0:List y0) (d:(List y0)×Int):Option (V0 ((List y0)×Int) (List y0)):=match d with
 | (out2,x)=>if decide (x<(Q0.length:Int)) then .bind (α:=List y0) ( if B0 Q0 x then .bind (α:=Bool) ( .bind (α:=Int ⊕ Unit) ( iter (l0q F Q0 out2 x) F 0) fun z_=>match z_ with
     | .inl x3=>some (!(decide (x3>=0)))
     | .inr _=>some (!(decide ((-1)>=0)))) fun x2=>if x2 then if B0 c.deep at_ then if I0 40 out2 [(⟨(gt Q0 x).To,gt c.deep at_,(gt Q0 x).Steps⟩:y0)] then let l:=out2++[(⟨(gt Q0 x).To,gt c.deep at_,(gt Q0 x).Steps⟩:y0)];
       some l else none else none else some out2 else none) fun out3=>some (.next (out3,W (x+1))) else some (.done out2)
def a01 (F:Nat) (c:U4) (at_:Int) (goal:Int) (ahead:List Int) (out:List y0):Option (List y0):=.bind (e6 F F c goal ahead []) fun Q0=>.bind (α:=List y0) ( iter (l0x F c at_ Q0) F (out,0)) fun out4=>some out4
def m0g (F:Nat):Sm en.D:=⟨191,[.d (.ptr (.st 20)),.d (.int .i64),.d (.int .i64),.d (.list (.int .i64)),.own 121 (.st 3)],.own 121 (.st 3),[],fun x=>a01 F x.1 x.2.1 x.2.2.1 x.2.2.2.1 x.2.2.2.2⟩
def B0w (F:Nat):D4 en:=⟨[g0p F F],fun g=>if Nat.beq g 191 then ⟨[(5,[(.nrm,⟨[(25,.d .bool)],[]⟩)]),(7,[(.nrm,⟨[(4,.own 121 (.st 3))],[(2,.any)]⟩)])],[(2,⟨[(4,.own 121 (.st 3)),(18,.d (.int .i64))],[(0,.any)]⟩,[(.ex 0,⟨[(4,.own 121 (.st 3)),(18,.any)],[(0,.any)]⟩)])],[],[]⟩ else if Nat.beq g 200 then V4 else if Nat.beq g 201 then V4 else if Nat.beq g 214 then ⟨[],[(2,⟨[(8,.d (.int .i64))],[]⟩,[(.ret,⟨[(4,.d (.int .i64)),(8,.any)],[]⟩),(.ex 0,⟨[(8,.any)],[]⟩)])],[],[]⟩ else V4,F,[]⟩
def k0S (F:Nat) (c:U4) (d:Int×(List Int)×(List y0)×Int):Option (V0 (Int×(List Int)×(List y0)×Int) ((List y0) ⊕ ((List Int)×(List y0)))):=match d with
 | (q2,s,out,x)=>if decide (x>=0) then if B0 c.l x then .bind (α:=(List y0) ⊕ ((List Int)×(List y0))) ( .bind (α:=Bool) ( if ((gt c.l x).Kind)==3 then some (((gt c.l x).A)==q2) else some false) fun x2=>if x2 then .bind (a01 F c x ((gt c.l x).B) s out) fun turns=>if B0 c.can ((gt c.l x).B) then if !(gt c.can ((gt c.l x).B)) then some (.inl turns) else .bind (a0f F c.l ((gt c.l x).B)) fun steps=>.bind (I8 F s steps) fun more=>some (.inr (more,turns)) else none else if ((gt c.l x).Kind)==5 then .bind (a01 F c x ((gt c.l x).A) s out) fun turns2=>some (.inr (s,turns2)) else some (.inr (s,out))) fun z_=>match z_ with
   | .inl x3=>some (.done (.inl x3))
   | .inr (s2,out2)=>.bind (I8 F s2 [W ((W (2*x))+1)]) fun more2=>if B0 c.up x then some (.next (x,more2,out2,gt c.up x)) else none else none else some (.done (.inr (s,out)))
def a00 (F:Nat) (c:U4) (q:Int):Option ((List y0)×(List Int)):=if B0 c.up q then .bind (α:=(List y0) ⊕ ((List Int)×(List y0))) ( iter (k0S F c) F (q,[W ((W (2*q))+1)],[],gt c.up q)) fun z_=>match z_ with
  | .inl x4=>some (x4,[])
  | .inr (s3,out3)=>some (out3,s3) else none
def j0Y (F:Nat):Sm en.D:=⟨160,[.d (.ptr (.st 20)),.d (.int .i64)],.tup [.own 121 (.st 3),.d (.list (.int .i64))],[],fun x=>a00 F x.1 x.2⟩
def C0M (F:Nat):=B2 [g0L F,m0g F,k0G F] 160 ⟨[(14,[(.ret,⟨[(4,.own 121 (.st 3)),(5,.nil),(7,.any)],[(1,.any)]⟩),(.nrm,⟨[(6,.d (.list (.int .i64))),(7,.own 121 (.st 3))],[(1,.any)]⟩)])],[(4,⟨[(1,.d (.int .i64)),(6,.d (.list (.int .i64))),(7,.own 121 (.st 3)),(8,.d (.int .i64))],[(0,.any)]⟩,[(.ret,⟨[(1,.any),(4,.own 121 (.st 3)),(5,.nil),(6,.any),(7,.any),(8,.any)],[(0,.any)]⟩),(.ex 0,⟨[(1,.any),(6,.d (.list (.int .i64))),(7,.own 121 (.st 3)),(8,.any)],[(0,.any)]⟩)])],[(7,4,8,⟨[(42,.any),(47,.d .bool)],[]⟩)],[]⟩ F
def J9 (F:Nat) (l:List C0) (p:Int):Option (y0×Bool):=.bind (α:=List Int) ( if p==(-1) then .bind (a0f F l (W ((l.length:Int)-1))) fun steps=>some steps else .bind (α:=(Unit ⊕ U4)×Int×Bool) ( .bind (a0S F l p) fun (at_,at_3,at_4)=>match at_ with
    | .inl _=>some ((.inl ()),at_3,at_4)
    | .inr at_2=>some ((.inr at_2),at_3,at_4)) fun (c,q,ok)=>match c with
   | .inl _=>if ok then none else some []
   | .inr c2=>if ok then .bind (a00 F c2 q) fun (climb,climb2)=>some climb2 else some []) fun s=>if (s.length:Int)==0 then some ((⟨0,0,[]⟩:y0),false) else some ((⟨(-1),0,s⟩:y0),true)
def o0N (F:Nat):Sm en.D:=⟨112,[.d (.list (.st 0)),.d (.int .i64)],.tup [.d (.st 3),.d .bool],[],fun x=>J9 F x.1 x.2⟩
def v0B (F:Nat):=B2 [g0L F,j0C F,j0Y F] 112 ⟨[(5,[(.nrm,⟨[(7,.alt .nilp (.box 239 [.d (.st 20)])),(8,.d (.int .i64)),(9,.d .bool)],[]⟩)]),(7,[(.nrm,⟨[(6,.d (.list (.int .i64)))],[]⟩)])],[],[],[]⟩ F
def p0y (F:Nat) (groups:List Int) (d:(List G2)×Int):Option (V0 ((List G2)×Int) (List G2)):=match d with
 | (out,x4)=>if decide (x4<(groups.length:Int)) then if B0 groups x4 then if I0 16 out [(⟨3,gt groups x4⟩:G2)] then some (.next (out++[(⟨3,gt groups x4⟩:G2)],W (x4+1))) else none else none else some (.done out)
def i0i (F:Nat) (l:List C0) (s:Int):Option (List G2):=.bind (α:=Bool) ( if decide (s<0) then some true else some (decide ((W (s.tdiv 2))>=(l.length:Int)))) fun x=>if x then some [] else if B0 l (W (s.tdiv 2)) then .bind (α:=Bool) ( if ((gt l (W (s.tdiv 2))).Kind)==7 then some ((s.tmod 2)==0) else some false) fun x2=>if x2 then some [(⟨1,(gt l (W (s.tdiv 2))).N⟩:G2)] else if ((gt l (W (s.tdiv 2))).Kind)==7 then some [(⟨2,(gt l (W (s.tdiv 2))).N⟩:G2)] else .bind (α:=Bool) ( if ((gt l (W (s.tdiv 2))).Kind)==8 then some ((s.tmod 2)==0) else some false) fun x3=>if x3 then .bind (g0X F l (W (s.tdiv 2))) fun groups=>.bind (α:=List G2) ( iter (p0y F groups) F ([],0)) fun out2=>some out2 else some [] else none
def o06 (F:Nat):Sm en.D:=⟨161,[.d (.list (.st 0)),.d (.int .i64)],.own 188 (.st 4),[],fun x=>i0i F x.1 x.2⟩
def y0a (F:Nat):D4 en:=⟨[j0g F],fun g=>if Nat.beq g 161 then ⟨[],[(11,⟨[(6,.own 188 (.st 4)),(64,.d (.int .i64))],[]⟩,[(.ex 1,⟨[(6,.own 188 (.st 4)),(64,.any)],[]⟩)])],[(1,3,8,⟨[(11,.any),(17,.d .bool)],[]⟩),(4,4,7,⟨[(27,.any),(31,.d .bool)],[]⟩),(8,4,7,⟨[(54,.any),(58,.d .bool)],[]⟩)],[]⟩ else if Nat.beq g 193 then V4 else V4,F,[]⟩
def i0N (F:Nat) (l:List C0) (steps:List Int) (d:(List G2)×Int):Option (V0 ((List G2)×Int) (List G2)):=match d with
 | (out,x)=>if decide (x<(steps.length:Int)) then if B0 steps x then .bind (i0i F l (gt steps x)) fun step=>if I0 16 out step then some (.next (out++step,W (x+1))) else none else none else some (.done out)
def f0w (F:Nat) (l:List C0) (steps:List Int):Option (List G2):=.bind (c7 F l) fun right=>if !right then some [] else .bind (α:=List G2) ( iter (i0N F l steps) F ([],0)) fun out2=>some out2
def i0E (F:Nat):Sm en.D:=⟨113,[.d (.list (.st 0)),.d (.list (.int .i64))],.own 188 (.st 4),[],fun x=>f0w F x.1 x.2⟩
def A0V (F:Nat):=B2 [b0Q F,o06 F] 113 ⟨[],[(5,⟨[(5,.own 188 (.st 4)),(13,.d (.int .i64))],[]⟩,[(.ex 0,⟨[(5,.own 188 (.st 4)),(13,.any)],[]⟩)])],[],[]⟩ F
def h08 (F:Nat) (s:List C0):Option (List C0):=if I0 64 ([]:List C0) s then some s else none
def s0l (F:Nat):Sm en.D:=⟨126,[.d (.list (.st 0))],.own 147 (.st 0),[],fun x=>h08 F x⟩
def u0A (F:Nat):D4 en:=⟨[],fun _=>⟨[],[],[],[4]⟩,F,[]⟩
def j0b (F:Nat) (l:List C0) (hops:List y0) (d:(List Q3)×Int):Option (V0 ((List Q3)×Int) (List Q3)):=match d with
 | (out,x)=>if decide (x<(hops.length:Int)) then if B0 hops x then .bind (f0w F l ((gt hops x).Steps)) fun of=>if I0 64 out [(⟨gt hops x,of⟩:Q3)] then some (.next (out++[(⟨gt hops x,of⟩:Q3)],W (x+1))) else none else none else some (.done out)
def h0o (F:Nat) (l:List C0) (hops:List y0):Option (List Q3):=.bind (α:=List Q3) ( iter (j0b F l hops) F ([],0)) fun out2=>some out2
def o0W (F:Nat):Sm en.D:=⟨127,[.d (.list (.st 0)),.d (.list (.st 3))],.own 124 (.st 5),[],fun x=>h0o F x.1 x.2⟩
def C0e (F:Nat):=B2 [i0E F] 127 ⟨[],[(3,⟨[(5,.own 124 (.st 5)),(10,.d (.int .i64))],[]⟩,[(.ex 0,⟨[(5,.own 124 (.st 5)),(10,.any)],[]⟩)])],[],[]⟩ F
def l0p (F:Nat) (l:List y0) (d:Int×(List y0)):Option (V0 (Int×(List y0)) (List y0)):=match d with
 | (x,y)=>if decide (x<(l.length:Int)) then if B0 y x then if V2 8 (((gt y x).Steps).length:Int) then if B0 y x then let l2:=G4 (List.replicate (((gt y x).Steps).length:Int).toNat 0:List Int) ((gt y x).Steps);
     if B0 y x then some (.next (W (x+1),y.set x.toNat ({ gt y x with Steps:=l2 }))) else none else none else none else none else some (.done y)
def a0H (F:Nat) (l:List y0):Option (List y0):=.bind (α:=List y0) ( iter (l0p F l) F (0,l)) fun y2=>some y2
def i0z (F:Nat):Sm en.D:=⟨171,[.own 121 (.st 3)],.own 121 (.st 3),[],fun x=>a0H F x⟩
def E0S (F:Nat):=B2 [] 171 ⟨[],[(2,⟨[(7,.d (.int .i64))],[(0,.own 121 (.st 3))]⟩,[(.ex 0,⟨[(7,.any)],[(0,.own 121 (.st 3))]⟩)])],[],[]⟩ F
def b0O (F:Nat) (l:List C0) (q:Int):Option (List y0):=.bind (α:=(Unit ⊕ U4)×Bool) ( .bind (a0Z F l) fun (of,of3)=>match of with
  | .inl _=>some ((.inl ()),of3)
  | .inr of2=>some ((.inr of2),of3)) fun (c,ok)=>match c with
 | .inl _=>.bind (α:=Bool) ( if !ok then some true else some (decide (q<0))) fun x3=>.bind (α:=Bool) ( if x3 then some true else some (decide (q>=(l.length:Int)))) fun x4=>if x4 then some [] else none
 | .inr c2=>.bind (α:=Bool) ( if !ok then some true else some (decide (q<0))) fun x=>.bind (α:=Bool) ( if x then some true else some (decide (q>=(l.length:Int)))) fun x2=>if x2 then some [] else .bind (e6 F F c2 q [] []) fun Q0=>.bind (a0H F Q0) fun own=>some own
def o0J (F:Nat):Sm en.D:=⟨128,[.d (.list (.st 0)),.d (.int .i64)],.own 121 (.st 3),[],fun x=>b0O F x.1 x.2⟩
def x0G (F:Nat):=B2 [j0L F,i0z F,g0p F F] 128 ⟨[(2,[(.nrm,⟨[(5,.alt .nilp (.box 239 [.d (.st 20)])),(6,.d .bool)],[]⟩)])],[],[(2,3,5,⟨[(14,.any),(17,.d .bool)],[]⟩),(2,7,11,⟨[(18,.any),(23,.d .bool)],[]⟩)],[]⟩ F
def o02 (F:Nat) (s:List y0):Option (List y0):=if b0j (fun x:y0=>x.To) s then some (r7 (fun x:y0=>x.To) s) else none
def q0U (F:Nat):Sm en.D:=⟨173,[.own 121 (.st 3),.fn 174 []],.tup [],[(0,.own 121 (.st 3))],fun x=>o02 F x⟩
def a06 (F:Nat) (l:List C0) (p:Int):Option (List y0):=.bind (α:=(Unit ⊕ U4)×Int×Bool) ( .bind (a0S F l p) fun (at_,at_3,at_4)=>match at_ with
  | .inl _=>some ((.inl ()),at_3,at_4)
  | .inr at_2=>some ((.inr at_2),at_3,at_4)) fun (c,q,ok)=>match c with
 | .inl _=>if !ok then some [] else none
 | .inr c2=>if !ok then some [] else .bind (a00 F c2 q) fun (climb,climb2)=>.bind (o02 F climb) fun b0=>.bind (a0H F b0) fun own=>some own
def p0d (F:Nat):Sm en.D:=⟨129,[.d (.list (.st 0)),.d (.int .i64)],.own 121 (.st 3),[],fun x=>a06 F x.1 x.2⟩
def v0e (F:Nat):=B2 [j0C F,j0Y F,i0z F,q0U F] 129 ⟨[(2,[(.nrm,⟨[(5,.alt .nilp (.box 239 [.d (.st 20)])),(6,.d (.int .i64)),(7,.d .bool)],[]⟩)])],[],[],[]⟩ F
def h0y (F:Nat) (l:List C0) (leaves:List Int) (d:(Int×((List C0)×(List (List Int))×(List Q3)×(List (List Q3))×(List Q3)×(List Bool)×Int×y0))):Option (V0 (Int×((List C0)×(List (List Int))×(List Q3)×(List (List Q3))×(List Q3)×(List Bool)×Int×y0)) ((List C0)×(List (List Int))×(List Q3)×(List (List Q3))×(List Q3)×(List Bool)×Int×y0)):=match d with
 | (x,(l2,sets,begin,roads,ends,can,tags2,ending))=>if decide (x<(leaves.length:Int)) then if B0 leaves x then if B0 l (gt leaves x) then if I0 32 sets [(gt l (gt leaves x)).Set] then .bind (a06 F l x) fun from_=>.bind (h0o F l from_) fun roadso2=>if I0 24 roads [roadso2] then .bind (J9 F l x) fun (end_,end_2)=>.bind (f0w F l end_.Steps) fun of=>if I0 64 ends [(⟨end_,of⟩:Q3)] then if I0 1 can [end_2] then some (.next (W (x+1),(l2,sets++[(gt l (gt leaves x)).Set],begin,roads++[roadso2],ends++[(⟨end_,of⟩:Q3)],can++[end_2],tags2,ending))) else none else none else none else none else none else none else some (.done (l2,sets,begin,roads,ends,can,tags2,ending))
def j0X (F:Nat) (l:List C0):Option c0c:=.bind (h08 F l) fun term=>.bind (b0O F l (W ((l.length:Int)-1))) fun first=>.bind (h0o F l first) fun roadso=>.bind (j0A F l) fun tags=>.bind (K7 F l) fun leaves=>.bind (α:=(List C0)×(List (List Int))×(List Q3)×(List (List Q3))×(List Q3)×(List Bool)×Int×y0) ( iter (h0y F l leaves) F (0,(term,[],roadso,[],[],[],tags,(⟨0,0,[]⟩:y0)))) fun (l3,sets2,begin2,roads2,ends2,can2,tags3,ending2)=>.bind (J9 F l (-1)) fun (end_3,end_4)=>.bind (f0w F l end_3.Steps) fun of2=>some (⟨l3,sets2,begin2,roads2,ends2,can2,of2,end_4,tags3,end_3⟩:c0c)
def m0h (F:Nat):Sm en.D:=⟨68,[.d (.list (.st 0))],.box 129 [.d (.st 6)],[],fun x=>j0X F x⟩
def D0s (F:Nat):=B2 [e09 F,n0N F,o0N F,i0E F,s0l F,o0W F,o0J F,p0d F] 68 ⟨[],[(3,⟨[(24,.d (.int .i64))],[(0,.any),(2,.any),(3,.box 129 [.own 147 (.st 0),.own 145 (.arr 4 (.int .u64)),.own 124 (.st 5),.own 113 (.list (.st 5)),.own 124 (.st 5),.own 4 .bool,.nil,.kb false,.d (.int .i64),.d (.st 3)])]⟩,[(.ex 0,⟨[(24,.any)],[(0,.any),(2,.any),(3,.box 129 [.own 147 (.st 0),.own 145 (.arr 4 (.int .u64)),.own 124 (.st 5),.own 113 (.list (.st 5)),.own 124 (.st 5),.own 4 .bool,.nil,.kb false,.d (.int .i64),.d (.st 3)])]⟩)])],[],[]⟩ F
def c0T (F:Nat) (l:List C0):Option ((Unit ⊕ N3)×Int):=.bind (c7 F l) fun right=>if !right then some ((.inl ()),11) else .bind (j0X F l) fun charto=>some ((.inr (⟨charto,0,0,[],[],(⟨[],[]⟩:T3)⟩:N3)),0)
def j0t (F:Nat):Sm en.D:=⟨21,[.d (.list (.st 0))],.tup [.alt .nilp (.box 108 [.d (.st 8)]),.d (.int .i64)],[],fun x=>c0T F x⟩
def x0R (F:Nat):=B2 [b0Q F,m0h F] 21 V4 F
def h0D (F:Nat) (s:List (List Int)):Option (List (List Int)):=if I0 24 ([]:List (List Int)) s then some s else none
def r0U (F:Nat):Sm en.D:=⟨130,[.d (.list (.list (.int .i64)))],.own 47 (.list (.int .i64)),[],fun x=>h0D F x⟩
def s0p (F:Nat):D4 en:=⟨[],fun _=>⟨[],[],[],[4]⟩,F,[]⟩
def g0t (F:Nat) (x:Int) (y:Int):Option (Int×Int):=let x2:=IntKind.u64.wrap ((C3 .u64 x 4294967295)*(C3 .u64 y 4294967295));
 let x3:=IntKind.u64.wrap ((shr .u64 x 32)*(C3 .u64 y 4294967295));
 let x4:=C3 .u64 (IntKind.u64.wrap (x3+(shr .u64 x2 32))) 4294967295;
 let x5:=shr .u64 (IntKind.u64.wrap (x3+(shr .u64 x2 32))) 32;
 let x6:=IntKind.u64.wrap ((C3 .u64 x 4294967295)*(shr .u64 y 32));
 let x7:=IntKind.u64.wrap ((shr .u64 x 32)*(shr .u64 y 32));
 let x8:=IntKind.u64.wrap ((IntKind.u64.wrap (x7+x5))+(shr .u64 (IntKind.u64.wrap (x4+x6)) 32));
 some (x8,IntKind.u64.wrap (x*y))
def e07 (F:Nat) (x:Int) (y:Int):Option (Int×Int):=.bind (g0t F x y) fun (mul64,mul642)=>some (mul64,mul642)
def o0d (F:Nat) (s:List Int) (n:Int):Option (List Int):=g0I s n
def q0P (F:Nat):Sm en.D:=⟨194,[.d (.list (.int .i64)),.d (.int .i64)],.own 3 (.int .i64),[],fun x=>o0d F x.1 x.2⟩
def j0Q (F:Nat) (n_:Int) (none_:Int):Option (List Int):=if decide (n_<1) then some [] else .bind (o0d F [none_] n_) fun repeat_=>some repeat_
def m0R (F:Nat):Sm en.D:=⟨162,[.d (.int .i64),.d (.int .i64)],.own 3 (.int .i64),[],fun x=>j0Q F x.1 x.2⟩
def B0W (F:Nat):=B2 [q0P F] 162 V4 F
def f0t (F:Nat) (c:N3):Option (List Int):=.bind (j0Q F c.chart.tags (-1)) fun fresh=>if B0 fresh 0 then some (fresh.set (0:Int).toNat c.at_) else none
def i02 (F:Nat):Sm en.D:=⟨131,[.d (.ptr (.st 8))],.own 3 (.int .i64),[],fun x=>f0t F x⟩
def E05 (F:Nat):=B2 [m0R F] 131 V4 F
def h0e (F:Nat) (l:List (List Int)) (n_:Int) (d:Int):Option (V0 Int (Unit ⊕ Unit)):=match d with
 | x=>if decide (x<(l.length:Int)) then if B0 l x then if ((gt l x).length:Int) != n_ then some (.done (.inl ())) else some (.next (W (x+1))) else none else some (.done (.inr ()))
def h0T (F:Nat) (l:List (List Int)) (n_:Int):Option Bool:=.bind (α:=Unit ⊕ Unit) ( iter (h0e F l n_) F 0) fun z_=>match z_ with
 | .inl _=>some false
 | .inr _=>some ((l.length:Int)==n_)
def n0E (F:Nat):Sm en.D:=⟨157,[.d (.list (.list (.int .i64))),.d (.int .i64)],.d .bool,[],fun x=>h0T F x.1 x.2⟩
def v0w (F:Nat):=B2 [] 157 ⟨[],[(2,⟨[(9,.d (.int .i64))],[]⟩,[(.ret,⟨[(4,.kb false),(9,.any)],[]⟩),(.ex 0,⟨[(9,.any)],[]⟩)])],[],[]⟩ F
def g06 (F:Nat) (x:T3) (n_:Int) (x3:Int) (d:Int):Option (V0 Int (Unit ⊕ Unit)):=match d with
 | x5=>if decide (x5<n_) then if B0 x.D x3 then if B0 (gt x.D x3) x5 then if B0 x.B x3 then if B0 (gt x.B x3) x5 then .bind (α:=Bool) ( if decide ((gt (gt x.B x3) x5)<0) then some true else .bind (α:=Bool) ( if x3 != x5 then if (gt (gt x.D x3) x5) != 1 then if (gt (gt x.D x3) x5) != (-1) then some true else if B0 x.D x5 then if B0 (gt x.D x5) x3 then let x6:=(gt (gt x.D x5) x3) != (W (0-(gt (gt x.D x3) x5)));
              some x6 else none else none else if B0 x.D x5 then if B0 (gt x.D x5) x3 then let x7:=(gt (gt x.D x5) x3) != (W (0-(gt (gt x.D x3) x5)));
             some x7 else none else none else some false) fun x8=>some x8) fun x9=>if x9 then some (.done (.inl ())) else some (.next (W (x5+1))) else none else none else none else none else some (.done (.inr ()))
def h0q (F:Nat) (x:T3) (n_:Int) (d:Int):Option (V0 Int (Unit ⊕ Unit)):=match d with
 | x3=>if decide (x3<n_) then if B0 x.B x3 then if B0 (gt x.B x3) x3 then .bind (α:=Bool) ( if (gt (gt x.B x3) x3) != 0 then some true else if B0 x.D x3 then if B0 (gt x.D x3) x3 then some ((gt (gt x.D x3) x3) != 0) else none else none) fun x4=>if x4 then some (.done (.inl ())) else .bind (α:=Unit ⊕ Unit) ( iter (g06 F x n_ x3) F 0) fun z_=>match z_ with
     | .inl _=>some (.done (.inl ()))
     | .inr _=>some (.next (W (x3+1))) else none else none else some (.done (.inr ()))
def k0h (F:Nat) (x:T3) (n_:Int):Option Bool:=.bind (h0T F x.B n_) fun square=>.bind (α:=Bool) ( if !square then some true else .bind (h0T F x.D n_) fun square2=>some (!square2)) fun x2=>if x2 then some false else .bind (α:=Unit ⊕ Unit) ( iter (h0q F x n_) F 0) fun z_=>match z_ with
  | .inl _=>some false
  | .inr _=>some true
def m01 (F:Nat):Sm en.D:=⟨110,[.d (.st 7),.d (.int .i64)],.d .bool,[],fun x=>k0h F x.1 x.2⟩
def E0z (F:Nat):=B2 [n0E F] 110 ⟨[],[(4,⟨[(21,.d (.int .i64))],[]⟩,[(.ret,⟨[(4,.kb false),(21,.any)],[]⟩),(.ex 0,⟨[(21,.any)],[]⟩)]),(9,⟨[(45,.d (.int .i64))],[]⟩,[(.ret,⟨[(4,.kb false),(45,.any)],[]⟩),(.ex 2,⟨[(45,.any)],[]⟩)])],[(1,6,11,⟨[(13,.any),(19,.d .bool)],[]⟩),(6,10,19,⟨[(33,.any),(43,.d .bool)],[]⟩),(12,10,34,⟨[(65,.any),(90,.d .bool)],[]⟩),(12,14,33,⟨[(69,.any),(89,.d .bool)],[]⟩)],[]⟩ F
def d00 (F:Nat) (x:T3):Option Bool:=.bind (k0h F x (x.B.length:Int)) fun right=>some right
def f07 (F:Nat):Sm en.D:=⟨133,[.d (.st 7)],.d .bool,[],fun x=>d00 F x⟩
def v0D (F:Nat):=B2 [m01 F] 133 V4 F
def i0L (F:Nat) (n_:Int) (x:Int) (d:Int×(List (List Int))):Option (V0 (Int×(List (List Int))) (List (List Int))):=match d with
 | (x2,y)=>if decide (x2<x) then if V2 8 n_ then if B0 y x2 then let t:=y.set x2.toNat (List.replicate n_.toNat 0:List Int);
    some (.next (W (x2+1),t)) else none else none else some (.done y)
def d0Q (F:Nat) (n_:Int):Option (List (List Int)):=if V2 24 n_ then let x:=((List.replicate n_.toNat []:List (List Int)).length:Int);
  .bind (α:=List (List Int)) ( iter (i0L F n_ x) F (0,(List.replicate n_.toNat []:List (List Int)))) fun y2=>some y2 else none
def i0A (F:Nat):Sm en.D:=⟨139,[.d (.int .i64)],.B1 47 [3] (.list (.int .i64)),[],fun x=>d0Q F x⟩
def B0t (F:Nat):=B2 [] 139 ⟨[],[(3,⟨[(9,.d (.int .i64))],[(0,.B1 47 [3] (.list (.int .i64)))]⟩,[(.ex 0,⟨[(9,.any)],[(0,.B1 47 [3] (.list (.int .i64)))]⟩)])],[],[6]⟩ F
def g0Q (F:Nat) (x:T3) (d:Int×(List (List Int))×(List (List Int))):Option (V0 (Int×(List (List Int))×(List (List Int))) ((List (List Int))×(List (List Int)))):=match d with
 | (x2,y,y2)=>if decide (x2<(x.B.length:Int)) then if B0 y x2 then if B0 x.B x2 then if B0 y2 x2 then if B0 x.D x2 then let t:=y2.set x2.toNat (G4 (gt y2 x2) (gt x.D x2));
      if B0 t x2 then if B0 t (x.B.length:Int) then if B0 (gt t x2) (x.B.length:Int) then let t2:=t.set x2.toNat ((gt t x2).set (x.B.length:Int).toNat 1);
         if B0 (gt t2 (x.B.length:Int)) x2 then let t3:=t2.set (x.B.length:Int).toNat ((gt t2 (x.B.length:Int)).set x2.toNat (-1));
          some (.next (W (x2+1),y.set x2.toNat (G4 (gt y x2) (gt x.B x2)),t3)) else none else none else none else none else none else none else none else none else some (.done (y,y2))
def g0m (F:Nat) (x:T3):Option T3:=.bind (d00 F x) fun right=>if !right then some (⟨[],[]⟩:T3) else .bind (d0Q F (W ((x.B.length:Int)+1))) fun table=>.bind (d0Q F (W ((x.B.length:Int)+1))) fun table2=>.bind (α:=(List (List Int))×(List (List Int))) ( iter (g0Q F x) F (0,table,table2)) fun (y3,y4)=>some (⟨y3,y4⟩:T3)
def o0L (F:Nat):Sm en.D:=⟨132,[.d (.st 7)],.d (.st 7),[],fun x=>g0m F x⟩
def D0x (F:Nat):=B2 [f07 F,i0A F] 132 ⟨[],[(6,⟨[(21,.d (.int .i64))],[(2,.B1 47 [3] (.list (.int .i64))),(3,.B1 47 [3] (.list (.int .i64)))]⟩,[(.ex 0,⟨[(21,.any)],[(2,.B1 47 [3] (.list (.int .i64))),(3,.B1 47 [3] (.list (.int .i64)))]⟩)])],[],[]⟩ F
def f0x (F:Nat) (c:N3) (d:(Int×((List (List Int))×(List (List Q3))×T3))):Option (V0 (Int×((List (List Int))×(List (List Q3))×T3)) ((List (List Int))×(List (List Q3))×T3)):=match d with
 | (x,(values2,roads,rank2))=>if decide (x<(c.places.length:Int)) then if B0 c.places x then if B0 c.chart.roads (gt c.places x) then if I0 24 roads [gt c.chart.roads (gt c.places x)] then some (.next (W (x+1),(values2,roads++[gt c.chart.roads (gt c.places x)],rank2))) else none else none else none else some (.done (values2,roads,rank2))
def f0s (F:Nat) (c:N3) (begin:Bool):Option (W8×N3):=.bind (α:=(List (List Int))×T3) ( same ( .bind (h0D F c.values) fun clone=>some (clone,c.rank)) ( .bind (h0D F c.values) fun clone2=>some (clone2,c.rank))) fun (values,rank)=>.bind (α:=(List (List Int))×(List (List Q3))×T3) ( iter (f0x F c) F (0,(values,[],rank))) fun (values3,roads2,rank3)=>.bind (α:=(List (List Int))×(List (List Q3))×T3) ( if begin then .bind (f0t F c) fun begun=>if I0 24 values3 [begun] then if I0 24 roads2 [c.chart.begin] then .bind (g0m F c.rank) fun with_=>some (values3++[begun],roads2++[c.chart.begin],with_) else none else none else some (values3,roads2,rank3)) fun (values4,roads3,rank4)=>some ((⟨values4,roads3,rank4⟩:W8),c)
def k00 (F:Nat):Sm en.D:=⟨69,[.box 108 [.d (.st 8)],.d .bool],.d (.st 15),[(0,.box 108 [.d (.st 8)])],fun x=>f0s F x.1 x.2⟩
def E0U (F:Nat):=B2 [r0U F,i02 F,o0L F] 69 ⟨[(11,[(.nrm,⟨[],[(3,.box 111 [.own 47 (.list (.int .i64)),.own 113 (.list (.st 5)),.d (.st 7)]),(4,.any),(5,.any)]⟩)])],[(3,⟨[(23,.d (.int .i64))],[(2,.any),(3,.box 111 [.own 47 (.list (.int .i64)),.own 113 (.list (.st 5)),.d (.st 7)])]⟩,[(.ex 0,⟨[(23,.any)],[(2,.any),(3,.box 111 [.own 47 (.list (.int .i64)),.own 113 (.list (.st 5)),.d (.st 7)])]⟩)])],[(1,1000004,11,⟨[(5,.box 111 [.own 47 (.list (.int .i64)),.nil,.d (.st 7)])],[]⟩)],[]⟩ F
def i0b (F:Nat) (s:List Int) (b:Int):Option Bool:=if decide (0<=IntKind.u8.wrap (b.tdiv 64))&&decide (IntKind.u8.wrap (b.tdiv 64)<4) then if !decide (b.tmod 64<0) then let x:=C3 .u64 (gt s (IntKind.u8.wrap (b.tdiv 64))) (shl .u64 1 (b.tmod 64));
   some (x != 0) else none else none
def l0l (F:Nat):Sm en.D:=⟨116,[.d (.arr 4 (.int .u64)),.d (.int .u8)],.d .bool,[],fun x=>i0b F x.1 x.2⟩
def x0y (F:Nat):=B2 [] 116 V4 F
def h0K (F:Nat) (c:N3) (g:W8) (b:Int) (x:Int) (d:Int×(List E7)):Option (V0 (Int×(List E7)) (List E7)):=match d with
 | (x2,y2)=>if decide (x2<((gt g.roads x).length:Int)) then .bind (α:=List E7) ( if B0 (gt g.roads x) x2 then if B0 c.chart.sets (((gt (gt g.roads x) x2).Hop).To) then let x3:=gtZ 4 c.chart.sets (((gt (gt g.roads x) x2).Hop).To);
     .bind (i0b F x3 b) fun has=>if has then if B0 y2 (((gt (gt g.roads x) x2).Hop).To) then if I0 8 ((gt y2 (((gt (gt g.roads x) x2).Hop).To)).from_) [x] then let l:=((gt y2 (((gt (gt g.roads x) x2).Hop).To)).from_)++[x];
        if decide (((gt (gt g.roads x) x2).Hop).To=((gt (gt g.roads x) x2).Hop).To) then let t:=y2.set (((gt (gt g.roads x) x2).Hop).To).toNat ({ gt y2 (((gt (gt g.roads x) x2).Hop).To) with from_:=l });
         if I0 64 ((gt t (((gt (gt g.roads x) x2).Hop).To)).roads) [gt (gt g.roads x) x2] then let l2:=((gt t (((gt (gt g.roads x) x2).Hop).To)).roads)++[gt (gt g.roads x) x2];
          if decide (((gt (gt g.roads x) x2).Hop).To=((gt (gt g.roads x) x2).Hop).To) then let t2:=t.set (((gt (gt g.roads x) x2).Hop).To).toNat ({ gt t (((gt (gt g.roads x) x2).Hop).To) with roads:=l2 });
           if I0 40 ((gt t2 (((gt (gt g.roads x) x2).Hop).To)).hops) [(gt (gt g.roads x) x2).Hop] then let l3:=((gt t2 (((gt (gt g.roads x) x2).Hop).To)).hops)++[(gt (gt g.roads x) x2).Hop];
            if decide (((gt (gt g.roads x) x2).Hop).To=((gt (gt g.roads x) x2).Hop).To) then let t3:=t2.set (((gt (gt g.roads x) x2).Hop).To).toNat ({ gt t2 (((gt (gt g.roads x) x2).Hop).To) with hops:=l3 });
             some t3 else none else none else none else none else none else none else none else some y2 else none else none) fun y3=>some (.next (W (x2+1),y3)) else some (.done y2)
def h0b (F:Nat) (c:N3) (g:W8) (b:Int) (d:Int×(List E7)):Option (V0 (Int×(List E7)) (List E7)):=match d with
 | (x,y)=>if decide (x<(g.roads.length:Int)) then if B0 g.roads x then .bind (α:=List E7) ( iter (h0K F c g b x) F (0,y)) fun y4=>some (.next (W (x+1),y4)) else none else some (.done y)
def g0D (F:Nat) (c:N3) (g:W8) (b:Int):Option ((List E7)×N3):=if V2 72 (c.chart.sets.length:Int) then .bind (α:=List E7) ( iter (h0b F c g b) F (0,(List.replicate (c.chart.sets.length:Int).toNat (⟨[],[],[]⟩:E7):List E7))) fun y5=>some (y5,c) else none
def n0v (F:Nat):Sm en.D:=⟨70,[.box 108 [.d (.st 8)],.d (.st 15),.d (.int .u8)],.d (.list (.st 16)),[(0,.box 108 [.d (.st 8)])],fun x=>g0D F x.1 x.2.1 x.2.2⟩
def y0P (F:Nat):D4 en:=⟨[l0l F],fun g=>if Nat.beq g 70 then ⟨[(10,[(.nrm,⟨[],[(2,.B1 115 [3,124,121] (.st 16))]⟩)])],[(3,⟨[(24,.d (.int .i64))],[(2,.B1 115 [3,124,121] (.st 16))]⟩,[(.ex 0,⟨[(24,.any)],[(2,.B1 115 [3,124,121] (.st 16))]⟩)]),(6,⟨[(31,.d (.int .i64))],[(2,.B1 115 [3,124,121] (.st 16))]⟩,[(.ex 2,⟨[(31,.any)],[(2,.B1 115 [3,124,121] (.st 16))]⟩)])],[],[20]⟩ else if Nat.beq g 73 then V4 else V4,F,[]⟩
def e0p (F:Nat) (x:T3) (i:Int):Option Bool:=.bind (α:=Bool) ( if decide (i>=0) then some (decide (i<(x.B.length:Int))) else some false) fun x2=>some x2
def g0R (F:Nat):Sm en.D:=⟨134,[.d (.st 7),.d (.int .i64)],.d .bool,[],fun x=>e0p F x.1 x.2⟩
def w04 (F:Nat):=B2 [] 134 ⟨[],[],[(1,3,8,⟨[(7,.any),(13,.d .bool)],[]⟩)],[]⟩ F
def e0M (F:Nat) (g:a0Q) (i:Int) (k:Int):Option Int:=if B0 g.from_ i then if B0 g.Rank.B (gt g.from_ i) then if B0 g.from_ k then if B0 (gt g.Rank.B (gt g.from_ i)) (gt g.from_ k) then let x:=gt (gt g.Rank.B (gt g.from_ i)) (gt g.from_ k);
     if B0 g.hops i then let x2:=if (W (((gt g.hops i).Turn)+1))<x then W (((gt g.hops i).Turn)+1) else x;
      some x2 else none else none else none else none else none
def h03 (F:Nat):Sm en.D:=⟨141,[.d (.st 19),.d (.int .i64),.d (.int .i64)],.d (.int .i64),[],fun x=>e0M F x.1 x.2.1 x.2.2⟩
def D0c (F:Nat):=B2 [] 141 V4 F
def h0v (F:Nat) (g:a0Q) (i:Int) (k:Int):Option Int:=.bind (e0M F g i k) fun low=>.bind (e0M F g k i) fun low2=>if decide (low>low2) then some 1 else if decide (low<low2) then some (-1) else if B0 g.from_ i then if B0 g.Rank.D (gt g.from_ i) then if B0 g.from_ k then if B0 (gt g.Rank.D (gt g.from_ i)) (gt g.from_ k) then let x:=gt (gt g.Rank.D (gt g.from_ i)) (gt g.from_ k);
       some x else none else none else none else none
def j0V (F:Nat):Sm en.D:=⟨135,[.d (.st 19),.d (.int .i64),.d (.int .i64)],.d (.int .i64),[],fun x=>h0v F x.1 x.2.1 x.2.2⟩
def B0S (F:Nat):=B2 [h03 F] 135 V4 F
def j0q (F:Nat) (x:T3) (from_:List Int) (hops:List y0) (x2:Int) (d:Int×Int):Option (V0 (Int×Int) Int):=match d with
 | (K3,x3)=>if decide (x3<x2) then .bind (α:=Int) ( if B0 from_ x3 then .bind (e0p F x (gt from_ x3)) fun has=>.bind (α:=Bool) ( if has then .bind (α:=Bool) ( if decide (K3<0) then some true else .bind (h0v F (⟨x,from_,hops⟩:a0Q) x3 K3) fun ahead=>some (decide (ahead>0))) fun x4=>some x4 else some false) fun x5=>if x5 then some x3 else some K3 else none) fun best2=>some (.next (best2,W (x3+1))) else some (.done K3)
def f0V (F:Nat) (x:T3) (from_:List Int) (hops:List y0):Option Int:=.bind (d00 F x) fun right=>if !right then some (-1) else let x2:=if (hops.length:Int)<(from_.length:Int) then (hops.length:Int) else (from_.length:Int);
  .bind (α:=Int) ( iter (j0q F x from_ hops x2) F ((-1),0)) fun best3=>some best3
def n08 (F:Nat):Sm en.D:=⟨71,[.d (.st 7),.d (.list (.int .i64)),.d (.list (.st 3))],.d (.int .i64),[],fun x=>f0V F x.1 x.2.1 x.2.2⟩
def x0k (F:Nat):=B2 [f07 F,g0R F,j0V F] 71 ⟨[(10,[(.nrm,⟨[(7,.d (.int .i64))],[]⟩)])],[(6,⟨[(7,.d (.int .i64)),(23,.d (.int .i64))],[]⟩,[(.ex 0,⟨[(7,.d (.int .i64)),(23,.any)],[]⟩)])],[(8,7,16,⟨[(32,.any),(42,.d .bool)],[]⟩),(8,10,15,⟨[(35,.any),(41,.d .bool)],[]⟩)],[]⟩ F
def i0V (F:Nat) (s:List Int):Option (List Int):=if I0 8 ([]:List Int) s then some s else none
def i0D (F:Nat):Sm en.D:=⟨75,[.d (.list (.int .i64))],.own 3 (.int .i64),[],fun x=>i0V F x⟩
def u0J (F:Nat):D4 en:=⟨[],fun _=>⟨[],[],[],[4]⟩,F,[]⟩
def o5 (now none_:Int) (out:List Int) (m:G2):List Int:=if m.Group<1\/((out.length:Int)-1) / 2<m.Group then out else if m.Kind=1 then out.set (2*m.Group-1).toNat now else if m.Kind=2 then out.set (2*m.Group).toNat now else if m.Kind=3 then (out.set (2*m.Group-1).toNat none_).set (2*m.Group).toNat none_ else out
def d0i (F:Nat) (tags:List Int) (marks:List G2) (now none_:Int):Option (List Int):=if I0 8 ([]:List Int) tags&&decide (marks.length<=1000000000) then some (marks.foldl (o5 now none_) tags) else none
def g0T (F:Nat):Sm en.D:=⟨72,[.d (.list (.int .i64)),.d (.list (.st 4)),.d (.int .i64),.d (.int .i64)],.own 3 (.int .i64),[],fun x=>d0i F x.1 x.2.1 x.2.2.1 x.2.2.2⟩
def a0l (up low:List Int) (b:Int) (q:Int):Option (V0 Int Int):=if decide (0<=q) then if B0 low q&&(decide (gt low q<=b)&&decide (b<=q)) then some (.done q) else if B0 low q&&B0 up q then some (.next (gt up q)) else none else some (.done (-1))
def e0Y (F:Nat) (l:List C0) (a b:Int):Option Int:=.bind (S9 F l) fun up=>if decide (a<0)||(decide (b<0)||(decide (a>=(up.length:Int))||decide (b>=(up.length:Int)))) then some (-1) else .bind (R8 F l) fun low=>iter (a0l up low b) F a
def k0R (F:Nat):Sm en.D:=⟨177,[.d (.list (.st 0)),.d (.int .i64),.d (.int .i64)],.d (.int .i64),[],fun x=>e0Y F x.1 x.2.1 x.2.2⟩
def e0L (F:Nat):Nat->(List C0)->y0->y0->Option (Int×Int×Int)
 | 0,_,_,_=>none
 | n+1,l,x,y=>.bind (K7 F l) fun leaves=>.bind (α:=Bool) ( if decide (x.To>=0) then some (decide (x.To<(leaves.length:Int))) else some false) fun x2=>.bind (α:=Bool) ( if !x2 then some true else .bind (α:=Bool) ( if decide (y.To>=0) then some (decide (y.To<(leaves.length:Int))) else some false) fun x3=>some (!x3)) fun x4=>.bind (α:=Bool) ( if x4 then some true else some (x.To==y.To)) fun x5=>if x5 then some (0,0,0) else if decide (x.Turn>y.Turn) then some (W (x.Turn+1),W (y.Turn+1),1) else if decide (x.Turn<y.Turn) then some (W (x.Turn+1),W (y.Turn+1),(-1)) else if decide (x.To>y.To) then .bind (e0L F n l y x) fun (fork,fork2,fork3)=>some (fork2,fork,(-1)) else if B0 leaves x.To then if B0 leaves y.To then .bind (e0Y F l (gt leaves x.To) (gt leaves y.To)) fun join=>.bind (a0w F l) fun deep=>if B0 deep join then if B0 l join then if ((gt l join).Kind)==3 then some (W ((W ((gt deep join)+1))+1),W ((gt deep join)+1),1) else some (W ((gt deep join)+1),W ((gt deep join)+1),1) else none else none else none else none
def k0C (F n:Nat):Sm en.D:=⟨140,[.d (.list (.st 0)),.d (.st 3),.d (.st 3)],.tup [.d (.int .i64),.d (.int .i64),.d (.int .i64)],[],fun x=>e0L F n x.1 x.2.1 x.2.2⟩
def F0j (F n:Nat):D4 en:=⟨[e09 F,k0C F n,k0R F,j0S F],fun g=>if Nat.beq g 140 then ⟨[],[],[(3,5,9,⟨[(24,.any),(29,.d .bool)],[]⟩),(3,11,16,⟨[(30,.any),(36,.d .bool)],[]⟩)],[]⟩ else if Nat.beq g 176 then ⟨[],[],[(1,4,9,⟨[(7,.any),(13,.d .bool)],[]⟩)],[]⟩ else V4,F,[]⟩
def g0Z (F:Nat) (x:T3) (from_:List Int) (d:Int):Option (V0 Int (Int ⊕ Unit)):=match d with
 | x3=>if decide (x3<(from_.length:Int)) then if B0 from_ x3 then .bind (e0p F x (gt from_ x3)) fun has=>if !has then some (.done (.inl x3)) else some (.next (W (x3+1))) else none else some (.done (.inr ()))
def h0Z (F:Nat) (l:List C0) (x:T3) (from_:List Int) (hops:List y0) (x4:Int) (d:Int×(List (List Int))×(List (List Int))):Option (V0 (Int×(List (List Int))×(List (List Int))) ((List (List Int))×(List (List Int)))):=match d with
 | (x5,y3,y4)=>if decide (x5<x4) then .bind (α:=(List (List Int))×(List (List Int))) ( if B0 from_ x4 then if B0 from_ x5 then if (gt from_ x4)==(gt from_ x5) then if B0 y3 x4 then if B0 y3 x5 then if B0 y4 x4 then if B0 hops x4 then if B0 hops x5 then .bind (e0L F F l (gt hops x4) (gt hops x5)) fun (fork,fork2,fork3)=>if B0 (gt y3 x4) x5 then let t:=y3.set x4.toNat ((gt y3 x4).set x5.toNat fork);
            if B0 (gt t x5) x4 then if B0 (gt y4 x4) x5 then let t2:=y4.set x4.toNat ((gt y4 x4).set x5.toNat fork3);
              some (t.set x5.toNat ((gt t x5).set x4.toNat fork2),t2) else none else none else none else none else none else none else none else none else if B0 y3 x4 then if B0 y3 x5 then if B0 y4 x4 then .bind (e0M F (⟨x,from_,hops⟩:a0Q) x4 x5) fun low=>.bind (e0M F (⟨x,from_,hops⟩:a0Q) x5 x4) fun low2=>.bind (h0v F (⟨x,from_,hops⟩:a0Q) x4 x5) fun ahead=>if B0 (gt y3 x4) x5 then if B0 (gt (y3.set x4.toNat ((gt y3 x4).set x5.toNat low)) x5) x4 then let t3:=(y3.set x4.toNat ((gt y3 x4).set x5.toNat low)).set x5.toNat ((gt (y3.set x4.toNat ((gt y3 x4).set x5.toNat low)) x5).set x4.toNat low2);
           if B0 (gt y4 x4) x5 then let t4:=y4.set x4.toNat ((gt y4 x4).set x5.toNat ahead);
            some (t3,t4) else none else none else none else none else none else none else none else none) fun (y5,y6)=>if B0 y6 x5 then if B0 y6 x4 then if B0 (gt y6 x4) x5 then if B0 (gt y6 x5) x4 then let t5:=y6.set x5.toNat ((gt y6 x5).set x4.toNat (W (0-(gt (gt y6 x4) x5))));
      some (.next (W (x5+1),y5,t5)) else none else none else none else none else some (.done (y3,y4))
def g0x (F:Nat) (l:List C0) (x:T3) (from_:List Int) (hops:List y0) (d:Int×(List (List Int))×(List (List Int))):Option (V0 (Int×(List (List Int))×(List (List Int))) ((List (List Int))×(List (List Int)))):=match d with
 | (x4,y,y2)=>if decide (x4<(from_.length:Int)) then .bind (α:=(List (List Int))×(List (List Int))) ( iter (h0Z F l x from_ hops x4) F (0,y,y2)) fun (y7,y8)=>some (.next (W (x4+1),y7,y8)) else some (.done (y,y2))
def g0U (F:Nat) (l:List C0) (x:T3) (from_:List Int) (hops:List y0):Option T3:=.bind (d00 F x) fun right=>.bind (α:=Bool) ( if !right then some true else some ((from_.length:Int) != (hops.length:Int))) fun x2=>.bind (α:=Bool) ( if x2 then some true else .bind (α:=Int ⊕ Unit) ( iter (g0Z F x from_) F 0) fun z_=>match z_ with
   | .inl x4=>some (decide (x4>=0))
   | .inr _=>some (decide ((-1)>=0))) fun x3=>if x3 then some (⟨[],[]⟩:T3) else .bind (d0Q F (from_.length:Int)) fun table=>.bind (d0Q F (from_.length:Int)) fun table2=>.bind (α:=(List (List Int))×(List (List Int))) ( iter (g0x F l x from_ hops) F (0,table,table2)) fun (y9,y10)=>some (⟨y9,y10⟩:T3)
def m0y (F:Nat):Sm en.D:=⟨74,[.d (.list (.st 0)),.d (.st 7),.d (.list (.int .i64)),.d (.list (.st 3))],.d (.st 7),[],fun x=>g0U F x.1 x.2.1 x.2.2.1 x.2.2.2⟩
def B04 (F:Nat):D4 en:=⟨[f07 F,g0R F,j0V F,i0A F,k0C F F,h03 F],fun g=>if Nat.beq g 74 then ⟨[(14,[(.nrm,⟨[],[(3,.B1 47 [3] (.list (.int .i64))),(4,.B1 47 [3] (.list (.int .i64)))]⟩)])],[(6,⟨[(42,.d (.int .i64))],[(3,.B1 47 [3] (.list (.int .i64))),(4,.B1 47 [3] (.list (.int .i64)))]⟩,[(.ex 0,⟨[(42,.any)],[(3,.B1 47 [3] (.list (.int .i64))),(4,.B1 47 [3] (.list (.int .i64)))]⟩)]),(9,⟨[(46,.d (.int .i64))],[(3,.B1 47 [3] (.list (.int .i64))),(4,.B1 47 [3] (.list (.int .i64)))]⟩,[(.ex 2,⟨[(46,.any)],[(3,.B1 47 [3] (.list (.int .i64))),(4,.B1 47 [3] (.list (.int .i64)))]⟩)])],[(1,4,9,⟨[(16,.any),(22,.d .bool)],[]⟩),(1,11,14,⟨[(23,.any),(27,.d .bool)],[]⟩)],[]⟩ else if Nat.beq g 137 then V4 else if Nat.beq g 138 then V4 else if Nat.beq g 175 then ⟨[],[(2,⟨[(8,.d (.int .i64))],[]⟩,[(.ret,⟨[(4,.d (.int .i64)),(8,.any)],[]⟩),(.ex 0,⟨[(8,.any)],[]⟩)])],[],[]⟩ else V4,F,[]⟩
def d0R (F:Nat) (goers:W8) (to:List E7) (d:(List Int)×(List (List Int))×Int×N3×((List Int)×(List Q3)×(List y0))):Option (V0 ((List Int)×(List (List Int))×Int×N3×((List Int)×(List Q3)×(List y0))) ((List Int)×(List (List Int))×N3×((List Int)×(List Q3)×(List y0)))):=match d with
 | (places,values,x,y,(from_,roads,hops))=>if decide (x<(to.length:Int)) then .bind (α:=(List Int)×(List (List Int))×N3×((List Int)×(List Q3)×(List y0))) ( if B0 to x then .bind (f0V F goers.rank ((gt to x).from_) ((gt to x).hops)) fun pick=>if decide (pick<0) then some (places,values,(⟨y.chart,y.at_,W (y.work+(((gt to x).from_).length:Int)),y.places,y.values,y.rank⟩:N3),(from_,roads,hops)) else if I0 8 places [x] then if B0 ((gt to x).from_) pick then if B0 goers.values (gt ((gt to x).from_) pick) then if B0 ((gt to x).roads) pick then .bind (d0i F (gt goers.values (gt ((gt to x).from_) pick)) ((gt ((gt to x).roads) pick).marks) y.at_ (-1)) fun apply=>if I0 24 values [apply] then if B0 ((gt to x).from_) pick then if B0 ((gt to x).roads) pick then if I0 8 from_ [gt ((gt to x).from_) pick] then if I0 64 roads [gt ((gt to x).roads) pick] then if I0 40 hops [(gt ((gt to x).roads) pick).Hop] then some (places++[x],values++[apply],(⟨y.chart,y.at_,W (y.work+(((gt to x).from_).length:Int)),y.places,y.values,y.rank⟩:N3),(from_++[gt ((gt to x).from_) pick],roads++[gt ((gt to x).roads) pick],hops++[(gt ((gt to x).roads) pick).Hop])) else none else none else none else none else none else none else none else none else none else none else none) fun (places2,values2,y2,(from_2,roads2,hops2))=>some (.next (places2,values2,W (x+1),y2,(from_2,roads2,hops2))) else some (.done (places,values,y,(from_,roads,hops)))
def e0e (F:Nat) (c:N3) (b:Int) (begin:Bool):Option N3:=.bind (f0s F c begin) fun (goers,b0)=>.bind (g0D F b0 goers b) fun (to,b02)=>.bind (α:=(List Int)×(List (List Int))×N3×((List Int)×(List Q3)×(List y0))) ( iter (d0R F goers to) F ([],[],0,b02,([],[],[]))) fun (places3,values3,y3,(from_3,roads3,hops3))=>.bind (g0U F y3.chart.l goers.rank from_3 hops3) fun next_=>let x2:=W ((places3.length:Int)*(places3.length:Int));
 let x3:=W ((W ((places3.length:Int)*y3.chart.tags))+x2);
 some (⟨y3.chart,W (y3.at_+1),W (y3.work+x3),places3,values3,next_⟩:N3)
def m0c (F:Nat):Sm en.D:=⟨23,[.box 108 [.d (.st 8)],.d (.int .u8),.d .bool],.tup [],[(0,.box 108 [.d (.st 8)])],fun x=>e0e F x.1 x.2.1 x.2.2⟩
def A0R (F:Nat):D4 en:=⟨[k00 F,n0v F,n08 F,g0T F,m0y F],fun g=>if Nat.beq g 23 then ⟨[(13,[(.nrm,⟨[(7,.own 3 (.int .i64)),(8,.own 47 (.list (.int .i64)))],[(0,.box 108 [.d (.st 8)]),(3,.box 115 [.own 3 (.int .i64),.own 124 (.st 5),.own 121 (.st 3)]),(5,.any),(6,.any),(8,.any),(9,.any),(10,.any)]⟩)])],[(5,⟨[(7,.own 3 (.int .i64)),(8,.own 47 (.list (.int .i64))),(21,.d (.int .i64))],[(0,.box 108 [.d (.st 8)]),(3,.box 115 [.own 3 (.int .i64),.own 124 (.st 5),.own 121 (.st 3)])]⟩,[(.ex 0,⟨[(7,.own 3 (.int .i64)),(8,.own 47 (.list (.int .i64))),(21,.any)],[(0,.box 108 [.d (.st 8)]),(3,.box 115 [.own 3 (.int .i64),.own 124 (.st 5),.own 121 (.st 3)])]⟩)])],[],[]⟩ else if Nat.beq g 73 then V4 else V4,F,[]⟩
def j0l (F:Nat) (x:T3) (of:List Int) (d:Int×Int):Option (V0 (Int×Int) Int):=match d with
 | (K3,x2)=>if decide (x2<(of.length:Int)) then .bind (α:=Int) ( if B0 of x2 then .bind (e0p F x (gt of x2)) fun has=>.bind (α:=Bool) ( if has then .bind (α:=Bool) ( if decide (K3<0) then some true else if B0 x.D (gt of x2) then if B0 (gt x.D (gt of x2)) K3 then some (decide ((gt (gt x.D (gt of x2)) K3)>0)) else none else none) fun x3=>some x3 else some false) fun x4=>if x4 then some (gt of x2) else some K3 else none) fun best2=>some (.next (best2,W (x2+1))) else some (.done K3)
def i0l (F:Nat) (x:T3) (of:List Int):Option Int:=.bind (d00 F x) fun right=>if !right then some (-1) else .bind (α:=Int) ( iter (j0l F x of) F ((-1),0)) fun best3=>some best3
def l0c (F:Nat):Sm en.D:=⟨147,[.d (.st 7),.d (.list (.int .i64))],.d (.int .i64),[],fun x=>i0l F x.1 x.2⟩
def E02 (F:Nat):=B2 [f07 F,g0R F] 147 ⟨[(9,[(.nrm,⟨[(5,.d (.int .i64))],[]⟩)])],[(5,⟨[(5,.d (.int .i64)),(14,.d (.int .i64))],[]⟩,[(.ex 0,⟨[(5,.d (.int .i64)),(14,.any)],[]⟩)])],[(7,4,17,⟨[(21,.any),(35,.d .bool)],[]⟩),(7,7,16,⟨[(24,.any),(34,.d .bool)],[]⟩)],[]⟩ F
def h00 (F:Nat) (c:N3) (d:(List Int)×Int):Option (V0 ((List Int)×Int) (List Int)):=match d with
 | (can,x)=>if decide (x<(c.places.length:Int)) then .bind (α:=List Int) ( if B0 c.places x then if B0 c.chart.can (gt c.places x) then if gt c.chart.can (gt c.places x) then if I0 8 can [x] then some (can++[x]) else none else some can else none else none) fun can2=>some (.next (can2,W (x+1))) else some (.done can)
def g0f (F:Nat) (c:N3):Option ((List Int)×Bool):=.bind (α:=List Int) ( iter (h00 F c) F ([],0)) fun can3=>.bind (i0l F c.rank can3) fun K3=>if decide (K3<0) then some ([],false) else if B0 c.values K3 then if B0 c.places K3 then if B0 c.chart.ends (gt c.places K3) then .bind (d0i F (gt c.values K3) ((gt c.chart.ends (gt c.places K3)).marks) c.at_ (-1)) fun apply=>some (apply,true) else none else none else none
def o07 (F:Nat):Sm en.D:=⟨81,[.d (.ptr (.st 8))],.tup [.own 3 (.int .i64),.d .bool],[],fun x=>g0f F x⟩
def C0H (F:Nat):=B2 [g0T F,l0c F] 81 ⟨[(7,[(.nrm,⟨[(4,.own 3 (.int .i64))],[(0,.any)]⟩)])],[(3,⟨[(4,.own 3 (.int .i64)),(13,.d (.int .i64))],[]⟩,[(.ex 0,⟨[(4,.own 3 (.int .i64)),(13,.any)],[]⟩)])],[],[]⟩ F
def h0M (F:Nat) (c:N3):Option ((List Int)×Bool):=if !c.chart.null then some ([],false) else .bind (f0t F c) fun begun=>.bind (d0i F begun c.chart.none c.at_ (-1)) fun apply=>some (apply,true)
def o0D (F:Nat):Sm en.D:=⟨82,[.d (.ptr (.st 8))],.tup [.own 3 (.int .i64),.d .bool],[],fun x=>h0M F x⟩
def C0g (F:Nat):=B2 [g0T F,i02 F] 82 V4 F
def g0v (F:Nat) (tags:List Int) (to:Int) (d:(List G1)×Int):Option (V0 ((List G1)×Int) (List G1)):=match d with
 | (out,x)=>if decide (x<(tags.length:Int)) then .bind (α:=List G1) ( if B0 tags x then .bind (α:=Unit ⊕ Int) ( .bind (α:=Bool) ( if decide (x>0) then some ((x.tmod 2)==0) else some false) fun x2=>if x2 then some (.inl ()) else if decide (x>0) then if B0 tags (W (x+1)) then some (.inr (gt tags (W (x+1)))) else none else some (.inr to)) fun z_=>match z_ with
    | .inl _=>some out
    | .inr end_=>.bind (α:=Int×Int) ( .bind (α:=Bool) ( if decide ((gt tags x)<0) then some true else some (decide (end_<0))) fun x3=>if x3 then some ((-1),(-1)) else some (gt tags x,end_)) fun (from_,end_2)=>if I0 16 out [(⟨from_,end_2⟩:G1)] then some (out++[(⟨from_,end_2⟩:G1)]) else none else none) fun out2=>some (.next (out2,W (x+1))) else some (.done out)
def h0P (F:Nat) (tags:List Int) (to:Int):Option (List G1):=if ((tags.length:Int).tmod 2)==0 then some [] else .bind (α:=List G1) ( iter (g0v F tags to) F ([],0)) fun out3=>some out3
def o0R (F:Nat):Sm en.D:=⟨101,[.d (.list (.int .i64)),.d (.int .i64)],.own 36 (.st 1),[],fun x=>h0P F x.1 x.2⟩
def w05 (F:Nat):=B2 [] 101 ⟨[(11,[(.ex 1,⟨[],[]⟩),(.nrm,⟨[(8,.d (.int .i64))],[]⟩)]),(13,[(.nrm,⟨[(7,.d (.int .i64)),(8,.d (.int .i64))],[]⟩)]),(14,[(.nrm,⟨[(5,.own 36 (.st 1))],[(0,.any)]⟩)])],[(5,⟨[(5,.own 36 (.st 1)),(15,.d (.int .i64))],[]⟩,[(.ex 0,⟨[(5,.own 36 (.st 1)),(15,.any)],[]⟩)])],[(8,3,6,⟨[(24,.any),(28,.d .bool)],[]⟩),(11,3,5,⟨[(39,.any),(42,.d .bool)],[]⟩)],[]⟩ F
def e0H (F:Nat) (w:List Int) (whole:Bool) (d:(List Int)×Bool×Int×Int×N3):Option (V0 ((List Int)×Bool×Int×Int×N3) ((List Int)×Bool×Int)):=match d with
 | (tags,ok,to,x,y)=>if decide (x<(w.length:Int)) then .bind (α:=(List Int)×Bool×Int×N3) ( if B0 w x then .bind (e0e F y (gt w x) (x==0)) fun b0=>.bind (g0f F b0) fun (K3,best2)=>.bind (α:=Bool) ( if best2 then some true else some whole) fun x2=>if x2 then some (K3,best2,b0.at_,b0) else some (tags,ok,to,b0) else none) fun (tags2,ok2,to2,y2)=>some (.next (tags2,ok2,to2,W (x+1),y2)) else some (.done (tags,ok,to))
def b0J (F:Nat) (l:List C0) (w:List Int) (whole:Bool):Option ((List G1)×Int):=.bind (α:=(Unit ⊕ N3)×Int) ( .bind (c0T F l) fun (new,new3)=>match new with
  | .inl _=>some ((.inl ()),new3)
  | .inr new2=>some ((.inr new2),new3)) fun (c,e)=>match c with
 | .inl _=>if e != 0 then some ([],e) else none
 | .inr c2=>if e != 0 then some ([],e) else .bind (h0M F c2) fun (empty,empty2)=>.bind (α:=(List Int)×Bool×Int) ( iter (e0H F w whole) F (empty,empty2,0,0,c2)) fun (tags3,ok3,to3)=>if !ok3 then some ([],7) else .bind (h0P F tags3 to3) fun spans=>some (spans,0)
def k0y (F:Nat):Sm en.D:=⟨60,[.d (.list (.st 0)),.d (.list (.int .u8)),.d .bool],.tup [.own 36 (.st 1),.d (.int .i64)],[],fun x=>b0J F x.1 x.2.1 x.2.2⟩
def z0n (F:Nat):=B2 [j0t F,m0c F,o07 F,o0D F,o0R F] 60 ⟨[(13,[(.nrm,⟨[(10,.own 3 (.int .i64)),(11,.d .bool),(12,.d (.int .i64))],[(0,.box 108 [.d (.st 8)]),(2,.any)]⟩)]),(2,[(.nrm,⟨[(8,.alt .nilp (.box 108 [.d (.st 8)])),(9,.d (.int .i64))],[]⟩)])],[(7,⟨[(10,.own 3 (.int .i64)),(11,.d .bool),(12,.d (.int .i64)),(32,.d (.int .i64))],[(0,.box 108 [.d (.st 8)]),(1,.any)]⟩,[(.ex 0,⟨[(10,.own 3 (.int .i64)),(11,.d .bool),(12,.d (.int .i64)),(32,.any)],[(0,.any),(1,.any)]⟩)])],[(11,2,3,⟨[(48,.any),(50,.d .bool)],[]⟩)],[]⟩ F
def f0c (F:Nat) (l:List C0) (w:List Int):Option ((List G1)×Int):=.bind (b0J F l w true) fun (run,run2)=>some (run,run2)
def j0z (F:Nat):Sm en.D:=⟨15,[.d (.list (.st 0)),.d (.list (.int .u8))],.tup [.own 36 (.st 1),.d (.int .i64)],[],fun x=>f0c F x.1 x.2⟩
def D0z (F:Nat):=B2 [k0y F] 15 V4 F
def f0q (F:Nat) (l:List C0) (w:List Int):Option ((List G1)×Int):=.bind (b0J F l w false) fun (run,run2)=>some (run,run2)
def h09 (F:Nat):Sm en.D:=⟨17,[.d (.list (.st 0)),.d (.list (.int .u8))],.tup [.own 36 (.st 1),.d (.int .i64)],[],fun x=>f0q F x.1 x.2⟩
def D00 (F:Nat):=B2 [k0y F] 17 V4 F
def i0s (F:Nat) (a:List G1) (b:List G1) (d:Int):Option (V0 Int (Unit ⊕ Unit)):=match d with
 | i=>if decide (i<(a.length:Int)) then if B0 a i then if B0 b i then let x:=!((((gt a i).From)==((gt b i).From))&&(((gt a i).To)==((gt b i).To)));
    if x then some (.done (.inl ())) else some (.next (W (i+1))) else none else none else some (.done (.inr ()))
def b08 (F:Nat) (a:List G1) (b:List G1):Option Bool:=if (a.length:Int) != (b.length:Int) then some false else .bind (α:=Unit ⊕ Unit) ( iter (i0s F a b) F 0) fun z_=>match z_ with
  | .inl _=>some false
  | .inr _=>some true
def k0z (F:Nat):Sm en.D:=⟨18,[.d (.list (.st 1)),.d (.list (.st 1))],.d .bool,[],fun x=>b08 F x.1 x.2⟩
def z03 (F:Nat):=B2 [] 18 ⟨[],[(4,⟨[(5,.d (.int .i64))],[]⟩,[(.ret,⟨[(4,.kb false),(5,.any)],[]⟩),(.ex 0,⟨[(5,.any)],[]⟩)])],[],[]⟩ F
def g05 (F:Nat):Option (List C0):=some [(⟨2,(-1),(-1),0,[0,8589934592,0,0]⟩:C0),(⟨8,0,(-1),0,[0,0,0,0]⟩:C0),(⟨5,1,(-1),0,[0,0,0,0]⟩:C0)]
def l0L (F:Nat):Sm en.D:=⟨59,[],.own 147 (.st 0),[],fun x=>g05 F⟩
def w0l (F:Nat):=B2 [] 59 V4 F
def e0r (F:Nat):Option Bool:=.bind (g05 F) fun star=>if !([97,98]:List Int).isEmpty then .bind (f0q F star [97,98]) fun (longes,longes2)=>.bind (g05 F) fun star2=>if !([97,98]:List Int).isEmpty then .bind (f0c F star2 [97,98]) fun (match_,match_2)=>.bind (α:=Int) ( .bind (c0T F []) fun (new,new3)=>match new with
    | .inl _=>some new3
    | .inr new2=>some new3) fun g=>.bind (α:=Bool) ( if longes2==0 then .bind (b08 F longes [(⟨0,1⟩:G1)]) fun spanne=>some spanne else some false) fun x=>.bind (α:=Bool) ( if x then some (match_2==7) else some false) fun x2=>.bind (α:=Bool) ( if x2 then some (g==11) else some false) fun x3=>some x3 else none else none
def o0K (F:Nat):Sm en.D:=⟨14,[],.d .bool,[],fun x=>e0r F⟩
def D02 (F:Nat):=B2 [j0z F,h09 F,k0z F,j0t F,l0L F] 14 ⟨[(4,[(.nrm,⟨[(6,.d (.int .i64))],[]⟩)])],[],[(4,3,7,⟨[(27,.any),(32,.d .bool)],[]⟩),(4,9,11,⟨[(33,.any),(36,.d .bool)],[]⟩),(4,13,15,⟨[(37,.any),(40,.d .bool)],[]⟩)],[]⟩ F
def b04 (F:Nat) (kind:Int):Option (Bool×Bool):=.bind (α:=Bool) ( if decide (kind>=3) then some (decide (kind<=8)) else some false) fun x=>.bind (α:=Bool) ( if kind==3 then some true else some (kind==4)) fun x2=>some (x,x2)
def o0F (F:Nat):Sm en.D:=⟨124,[.d (.int .i64)],.tup [.d .bool,.d .bool],[],fun x=>b04 F x⟩
def y04 (F:Nat):=B2 [] 124 ⟨[],[],[(1,3,5,⟨[(6,.any),(9,.d .bool)],[]⟩),(1,9,11,⟨[(12,.any),(15,.d .bool)],[]⟩)],[]⟩ F
def m0o (F:Nat) (l:List C0) (i:Int) (d:Int):Option (V0 Int (Unit ⊕ Unit)):=match d with
 | k=>if decide (k<i) then .bind (α:=Bool) ( if ((gt l i).Kind)==7 then if B0 l k then some (((gt l k).Kind)==7) else none else some false) fun x14=>.bind (α:=Bool) ( if x14 then if B0 l k then some (((gt l k).N)==((gt l i).N)) else none else some false) fun x15=>if x15 then some (.done (.inl ())) else some (.next (W (k+1))) else some (.done (.inr ()))
def l0w (F:Nat) (l:List C0) (d:Int×Int×(List Int)):Option (V0 (Int×Int×(List Int)) (Unit ⊕ (Int×(List Int)))):=match d with
 | (leaves,i,y)=>if decide (i<(l.length:Int)) then if B0 l i then .bind (b04 F ((gt l i).Kind)) fun (part,part2)=>if B0 y i then .bind (α:=Bool) ( if decide (((gt l i).Kind)<1) then some true else some (decide (((gt l i).Kind)>8))) fun x=>.bind (α:=Bool) ( if x then some true else .bind (α:=Bool) ( if ((gt l i).Kind) != 2 then let x2:=!(((gt ((gt l i).Set) 0)==0)&&(((gt ((gt l i).Set) 1)==0)&&(((gt ((gt l i).Set) 2)==0)&&((gt ((gt l i).Set) 3)==0))));
        some x2 else some false) fun x3=>some x3) fun x4=>.bind (α:=Bool) ( if x4 then some true else .bind (α:=Bool) ( if ((gt l i).Kind) != 7 then some (((gt l i).N) != 0) else some false) fun x5=>some x5) fun x6=>.bind (α:=Bool) ( if x6 then some true else .bind (α:=Bool) ( if ((gt l i).Kind)==7 then if decide (((gt l i).N)<1) then some true else some (decide (((gt l i).N)>9)) else some false) fun x7=>some x7) fun x8=>if x8 then some (.done (.inl ())) else .bind (α:=Bool) ( if !part then some (((gt l i).A) != (-1)) else some false) fun x9=>.bind (α:=Bool) ( if x9 then some true else .bind (α:=Bool) ( if !part2 then some (((gt l i).B) != (-1)) else some false) fun x10=>some x10) fun x11=>if x11 then some (.done (.inl ())) else .bind (α:=Int) ( if ((gt l i).Kind)==2 then some (W (leaves+1)) else some leaves) fun leaves2=>.bind (α:=Unit ⊕ Int) ( if part2 then .bind (α:=Bool) ( if ((gt l i).B) != (W (i-1)) then some true else some (decide ((W (i-1))<0))) fun x12=>if x12 then some (.inl ()) else if B0 (y.set i.toNat i) (W (i-1)) then some (.inr (W ((gt (y.set i.toNat i) (W (i-1)))-1))) else none else some (.inr (W (i-1)))) fun z_=>match z_ with
      | .inl _=>some (.done (.inl ()))
      | .inr at_=>.bind (α:=Unit ⊕ (List Int)) ( if part then .bind (α:=Bool) ( if ((gt l i).A) != at_ then some true else some (decide (at_<0))) fun x13=>if x13 then some (.inl ()) else if B0 (y.set i.toNat i) at_ then if B0 (y.set i.toNat i) i then let l2:=(y.set i.toNat i).set i.toNat (gt (y.set i.toNat i) at_);
            some (.inr l2) else none else none else some (.inr (y.set i.toNat i))) fun z_=>match z_ with
       | .inl _=>some (.done (.inl ()))
       | .inr y2=>if B0 y2 i then .bind (α:=Unit ⊕ Unit) ( iter (m0o F l i) F (gt y2 i)) fun z_=>match z_ with
         | .inl _=>some (.done (.inl ()))
         | .inr _=>some (.next (leaves2,W (i+1),y2)) else none else none else none else some (.done (.inr (leaves,y)))
def b0c (F:Nat) (l:List C0):Option (Unit ⊕ (List Int)):=if V2 8 (l.length:Int) then .bind (α:=Unit ⊕ (Int×(List Int))) ( iter (l0w F l) F (0,0,(List.replicate (l.length:Int).toNat 0:List Int))) fun z_=>match z_ with
  | .inl _=>some (.inl ())
  | .inr (leaves3,y3)=>.bind (α:=Bool) ( if (l.length:Int)==0 then some true else some (decide ((l.length:Int)>400))) fun x16=>.bind (α:=Bool) ( if x16 then some true else some (decide (leaves3>64))) fun x17=>.bind (α:=Bool) ( if x17 then some true else if B0 y3 (W ((l.length:Int)-1)) then some ((gt y3 (W ((l.length:Int)-1))) != 0) else none) fun x18=>if x18 then some (.inl ()) else some (.inr y3) else none
def i0H (F:Nat):Sm en.D:=⟨66,[.d (.list (.st 0))],.alt .nil (.own 3 (.int .i64)),[],fun x=>b0c F x⟩
def A0d (F:Nat):=B2 [o0F F] 66 ⟨[(15,[(.nrm,⟨[(4,.d (.int .i64))],[]⟩)]),(20,[(.ret,⟨[(2,.nil)],[]⟩),(.nrm,⟨[(9,.d (.int .i64))],[]⟩)]),(24,[(.ret,⟨[(2,.nil)],[]⟩),(.nrm,⟨[],[(0,.own 3 (.int .i64))]⟩)])],[(25,⟨[(10,.d (.int .i64))],[]⟩,[(.ret,⟨[(2,.nil),(10,.any)],[]⟩),(.ex 2,⟨[(10,.any)],[]⟩)]),(4,⟨[(4,.d (.int .i64)),(5,.d (.int .i64))],[(0,.own 3 (.int .i64))]⟩,[(.ret,⟨[(2,.nil),(4,.any),(5,.any)],[(0,.any)]⟩),(.ex 0,⟨[(4,.d (.int .i64)),(5,.any)],[(0,.own 3 (.int .i64))]⟩)])],[(9,4,7,⟨[(37,.any),(41,.d .bool)],[]⟩),(9,9,18,⟨[(42,.any),(52,.d .bool)],[]⟩),(9,13,17,⟨[(46,.any),(51,.d .bool)],[]⟩),(9,20,28,⟨[(53,.any),(62,.d .bool)],[]⟩),(9,24,27,⟨[(57,.any),(61,.d .bool)],[]⟩),(9,30,43,⟨[(63,.any),(77,.d .bool)],[]⟩),(9,34,42,⟨[(67,.any),(76,.d .bool)],[]⟩),(11,3,6,⟨[(80,.any),(84,.d .bool)],[]⟩),(11,8,15,⟨[(85,.any),(93,.d .bool)],[]⟩),(11,11,14,⟨[(88,.any),(92,.d .bool)],[]⟩),(17,5,7,⟨[(106,.any),(109,.d .bool)],[]⟩),(21,5,7,⟨[(120,.any),(123,.d .bool)],[]⟩),(27,4,10,⟨[(143,.any),(150,.d .bool)],[]⟩),(27,12,20,⟨[(151,.any),(160,.d .bool)],[]⟩),(29,4,7,⟨[(164,.any),(168,.d .bool)],[]⟩),(29,9,11,⟨[(169,.any),(172,.d .bool)],[]⟩),(29,13,20,⟨[(173,.any),(181,.d .bool)],[]⟩)],[]⟩ F
def B6 (F:Nat) (l:List C0):Option Bool:=.bind (b0c F l) fun lows=>match lows with
 | .inl _=>some false
 | .inr lows2=>if !lows2.isEmpty then some true else none
def k0E (F:Nat):Sm en.D:=⟨20,[.d (.list (.st 0))],.d .bool,[],fun x=>B6 F x⟩
def A03 (F:Nat):=B2 [i0H F] 20 V4 F
def o0C (F:Nat) (l:List C0) (d:(List Int)×Int):Option (V0 ((List Int)×Int) (List Int)):=match d with
 | (out,i)=>if decide (i<(l.length:Int)) then .bind (α:=List Int) ( if B0 l i then if ((gt l i).Kind)==2 then if I0 8 out [i] then some (out++[i]) else none else some out else none) fun out2=>some (.next (out2,W (i+1))) else some (.done out)
def b0t (F:Nat) (l:List C0):Option (List Int):=.bind (B6 F l) fun right=>if !right then some [] else .bind (α:=List Int) ( iter (o0C F l) F ([],0)) fun out3=>some out3
def K9 (F:Nat) (a:List Int) (b:List Int):Option (List Int):=if I0 8 ([]:List Int) a then if I0 8 ([]++a) b then some (([]++a)++b) else none else none
def Y5 (F:Nat):Nat->(List C0)->(List Bool)->Int->Option (List Int)
 | 0,_,_,_=>none
 | n+1,l,can,q=>.bind (α:=List Int) ( if B0 l q then if ((gt l q).Kind)==3 then if B0 l q then .bind (Y5 F n l can ((gt l q).A)) fun of=>if I0 8 [W (2*q)] of then if B0 l q then .bind (Y5 F n l can ((gt l q).B)) fun of2=>if I0 8 ([W (2*q)]++of) of2 then some (([W (2*q)]++of)++of2) else none else none else none else none else if ((gt l q).Kind)==4 then if B0 l q then if B0 can ((gt l q).A) then if gt can ((gt l q).A) then if B0 l q then .bind (Y5 F n l can ((gt l q).A)) fun of3=>if I0 8 [W (2*q)] of3 then some ([W (2*q)]++of3) else none else none else if B0 l q then .bind (Y5 F n l can ((gt l q).B)) fun of4=>if I0 8 [W (2*q)] of4 then some ([W (2*q)]++of4) else none else none else none else none else .bind (α:=Bool) ( if ((gt l q).Kind)==7 then some (((gt l q).Kind)==7) else some (((gt l q).Kind)==8)) fun x=>if x then if B0 l q then .bind (Y5 F n l can ((gt l q).A)) fun of5=>if I0 8 [W (2*q)] of5 then some ([W (2*q)]++of5) else none else none else some [W (2*q)] else none) fun out=>if I0 8 out [W ((W (2*q))+1)] then some (out++[W ((W (2*q))+1)]) else none
def O6 (F:Nat):Nat->(List C0)->(List Int)->(List Bool)->Int->(List Int)->Option (List y0)
 | 0,_,_,_,_,_=>none
 | n+1,l,index,can,q,ahead=>if B0 l q then .bind (K9 F ahead [W (2*q)]) fun put=>if ((gt l q).Kind)==2 then if B0 index q then some [(⟨gt index q,0,put⟩:y0)] else none else if ((gt l q).Kind)==3 then .bind (O6 F n l index can ((gt l q).A) put) fun Q0=>.bind (α:=List y0) ( if B0 can ((gt l q).A) then if gt can ((gt l q).A) then .bind (Y5 F F l can ((gt l q).A)) fun of=>.bind (K9 F put of) fun put2=>.bind (O6 F n l index can ((gt l q).B) put2) fun into2=>if I0 40 Q0 into2 then some (Q0++into2) else none else some Q0 else none) fun out=>some out else if ((gt l q).Kind)==4 then .bind (O6 F n l index can ((gt l q).A) put) fun into3=>.bind (O6 F n l index can ((gt l q).B) put) fun into4=>if I0 40 into3 into4 then some (into3++into4) else none else .bind (α:=Bool) ( if ((gt l q).Kind)==5 then some (((gt l q).Kind)==5) else if ((gt l q).Kind)==6 then some (((gt l q).Kind)==6) else if ((gt l q).Kind)==7 then some (((gt l q).Kind)==7) else some (((gt l q).Kind)==8)) fun x=>if x then .bind (O6 F n l index can ((gt l q).A) put) fun into5=>some into5 else some [] else none
def l0F (F:Nat) (l:List C0) (d:Int×Int×(List Int)):Option (V0 (Int×Int×(List Int)) (List Int)):=match d with
 | (many,i,y)=>if decide (i<(l.length:Int)) then .bind (α:=Int×(List Int)) ( if B0 y i then if B0 l i then if ((gt l i).Kind)==2 then if B0 (y.set i.toNat (-1)) i then some (W (many+1),(y.set i.toNat (-1)).set i.toNat many) else none else some (many,y.set i.toNat (-1)) else none else none) fun (many2,y2)=>some (.next (many2,W (i+1),y2)) else some (.done y)
def b0p (F:Nat) (l:List C0):Option (List Int):=.bind (B6 F l) fun right=>if !right then some [] else if V2 8 (l.length:Int) then .bind (α:=List Int) ( iter (l0F F l) F (0,0,(List.replicate (l.length:Int).toNat 0:List Int))) fun y3=>some y3 else none
def m0Y (F:Nat) (l:List C0) (d:Int×(List Bool)):Option (V0 (Int×(List Bool)) (List Bool)):=match d with
 | (i,y)=>if decide (i<(l.length:Int)) then .bind (α:=List Bool) ( if B0 l i then .bind (α:=Bool) ( if ((gt l i).Kind)==1 then some (((gt l i).Kind)==1) else if ((gt l i).Kind)==5 then some (((gt l i).Kind)==5) else some (((gt l i).Kind)==6)) fun x=>if x then if B0 y i then some (y.set i.toNat true) else none else if ((gt l i).Kind)==3 then if B0 l i then if B0 y ((gt l i).A) then .bind (α:=Bool) ( if gt y ((gt l i).A) then if B0 l i then if B0 y ((gt l i).B) then some (gt y ((gt l i).B)) else none else none else some false) fun x2=>if B0 y i then some (y.set i.toNat x2) else none else none else none else if ((gt l i).Kind)==4 then if B0 l i then if B0 y ((gt l i).A) then .bind (α:=Bool) ( if gt y ((gt l i).A) then some true else if B0 l i then if B0 y ((gt l i).B) then some (gt y ((gt l i).B)) else none else none) fun x3=>if B0 y i then some (y.set i.toNat x3) else none else none else none else .bind (α:=Bool) ( if ((gt l i).Kind)==7 then some (((gt l i).Kind)==7) else some (((gt l i).Kind)==8)) fun x4=>if x4 then if B0 l i then if B0 y ((gt l i).A) then if B0 y i then some (y.set i.toNat (gt y ((gt l i).A))) else none else none else none else some y else none) fun y2=>some (.next (W (i+1),y2)) else some (.done y)
def a0j (F:Nat) (l:List C0):Option (List Bool):=.bind (B6 F l) fun right=>if !right then some [] else if V2 1 (l.length:Int) then .bind (α:=List Bool) ( iter (m0Y F l) F (0,(List.replicate (l.length:Int).toNat false:List Bool))) fun y3=>some y3 else none
def m0N (F:Nat) (l:List C0) (q:Int):Option (List y0):=.bind (B6 F l) fun right=>.bind (α:=Bool) ( if !right then some true else some (decide (q<0))) fun x=>.bind (α:=Bool) ( if x then some true else some (decide (q>=(l.length:Int)))) fun x2=>if x2 then some [] else .bind (b0p F l) fun index=>.bind (a0j F l) fun can=>.bind (O6 F F l index can q []) fun Q0=>some Q0
def l0y (F:Nat) (l:List C0) (d:Int×(List Int)):Option (V0 (Int×(List Int)) (List Int)):=match d with
 | (i,y)=>if decide (i<(l.length:Int)) then if B0 y i then some (.next (W (i+1),y.set i.toNat (-1))) else none else some (.done y)
def k0P (F:Nat) (l:List C0) (d:Int×(List Int)):Option (V0 (Int×(List Int)) (List Int)):=match d with
 | (i2,y3)=>if decide (i2<(l.length:Int)) then .bind (α:=List Int) ( .bind (α:=List Int) ( if B0 l i2 then if decide (((gt l i2).A)>=0) then if B0 l i2 then if B0 y3 ((gt l i2).A) then some (y3.set ((gt l i2).A).toNat i2) else none else none else some y3 else none) fun y4=>if B0 l i2 then if decide (((gt l i2).B)>=0) then if B0 l i2 then if B0 y4 ((gt l i2).B) then some (y4.set ((gt l i2).B).toNat i2) else none else none else some y4 else none) fun y5=>some (.next (W (i2+1),y5)) else some (.done y3)
def c0n (F:Nat) (l:List C0):Option (List Int):=.bind (B6 F l) fun right=>if !right then some [] else if V2 8 (l.length:Int) then .bind (α:=List Int) ( iter (l0y F l) F (0,(List.replicate (l.length:Int).toNat 0:List Int))) fun y2=>.bind (α:=List Int) ( iter (k0P F l) F (0,y2)) fun y6=>some y6 else none
def l0G (F:Nat) (up:List Int) (d:Int×(List Int)):Option (V0 (Int×(List Int)) (List Int)):=match d with
 | (i,y)=>if decide (i>=0) then .bind (α:=List Int) ( if B0 y i then if B0 up i then if decide ((gt up i)>=0) then if B0 up i then if B0 (y.set i.toNat 1) (gt up i) then if B0 (y.set i.toNat 1) i then let l2:=(y.set i.toNat 1).set i.toNat (W ((gt (y.set i.toNat 1) (gt up i))+1));
         some l2 else none else none else none else some (y.set i.toNat 1) else none else none) fun y2=>some (.next (W (i-1),y2)) else some (.done y)
def e0N (F:Nat) (l:List C0):Option (List Int):=.bind (c0n F l) fun up=>if V2 8 (up.length:Int) then .bind (α:=List Int) ( iter (l0G F up) F (W ((up.length:Int)-1),(List.replicate (up.length:Int).toNat 0:List Int))) fun y3=>some y3 else none
def o0q (F:Nat) (l:List y0) (p:Int) (d:Int):Option (V0 Int (Unit ⊕ Unit)):=match d with
 | i=>if decide (i<(l.length:Int)) then if B0 l i then if ((gt l i).To)==p then some (.done (.inl ())) else some (.next (W (i+1))) else none else some (.done (.inr ()))
def e0b (F:Nat) (l:List y0) (p:Int):Option Bool:=.bind (α:=Unit ⊕ Unit) ( iter (o0q F l p) F 0) fun z_=>match z_ with
 | .inl _=>some true
 | .inr _=>some false
def m0C (F:Nat) (up:List Int) (deep:List Int) (q:Int) (d:(List Int)×(List y0)×Int×(List y0)):Option (V0 ((List Int)×(List y0)×Int×(List y0)) ((List Int)×(List y0))):=match d with
 | (s2,out2,i,y)=>if decide (i<(y.length:Int)) then .bind (α:=(List y0)×(List y0)) ( if B0 y i then .bind (e0b F out2 ((gt y i).To)) fun known=>if !known then if B0 deep (gt up q) then if B0 y i then let l2:=y.set i.toNat ({ gt y i with Turn:=gt deep (gt up q) });
       if B0 l2 i then if I0 40 out2 [gt l2 i] then some (out2++[gt l2 i],l2) else none else none else none else none else some (out2,y) else none) fun (out3,y2)=>some (.next (s2,out3,W (i+1),y2)) else some (.done (s2,out2))
def l0f (F:Nat) (l:List C0) (up:List Int) (deep:List Int) (d:(List Int)×(List Bool)×Int×(List Int)×(List y0)):Option (V0 ((List Int)×(List Bool)×Int×(List Int)×(List y0)) (((List y0)×y0) ⊕ ((List Int)×(List y0)))):=match d with
 | (index2,can2,q,s,out)=>if B0 up q then if decide ((gt up q)>=0) then if B0 up q then .bind (α:=Int) ( if B0 l (gt up q) then .bind (α:=Bool) ( if ((gt l (gt up q)).Kind)==3 then if B0 l (gt up q) then some (((gt l (gt up q)).A)==q) else none else some false) fun x=>if x then if B0 l (gt up q) then some ((gt l (gt up q)).B) else none else some (-1) else none) fun goal=>.bind (α:=Int) ( if B0 l (gt up q) then if ((gt l (gt up q)).Kind)==5 then if B0 l (gt up q) then some ((gt l (gt up q)).A) else none else some goal else none) fun goal2=>.bind (α:=(List Int)×(List y0)) ( if decide (goal2>=0) then .bind (O6 F F l index2 can2 goal2 s) fun Q0=>.bind (α:=(List Int)×(List y0)) ( iter (m0C F up deep q) F (s,out,0,Q0)) fun (s3,out4)=>some (s3,out4) else some (s,out)) fun (s4,out5)=>.bind (α:=((List y0)×y0) ⊕ (List Int)) ( if B0 l (gt up q) then .bind (α:=Bool) ( if ((gt l (gt up q)).Kind)==3 then if B0 l (gt up q) then some (((gt l (gt up q)).A)==q) else none else some false) fun x2=>if x2 then if B0 can2 goal2 then if !(gt can2 goal2) then some (.inl (out5,(⟨0,0,[]⟩:y0))) else .bind (Y5 F F l can2 goal2) fun of=>.bind (K9 F s4 of) fun put=>some (.inr put) else none else some (.inr s4) else none) fun z_=>match z_ with
    | .inl (x3,y3)=>some (.done (.inl (x3,y3)))
    | .inr s5=>.bind (K9 F s5 [W ((W (2*(gt up q)))+1)]) fun put2=>some (.next (index2,can2,gt up q,put2,out5)) else none else some (.done (.inr (s,out))) else none
def e0d (F:Nat) (l:List C0) (p:Int):Option ((List y0)×y0×Bool):=.bind (c0n F l) fun up=>.bind (e0N F l) fun deep=>.bind (b0p F l) fun index=>.bind (a0j F l) fun can=>.bind (b0t F l) fun leaves=>if B0 leaves p then .bind (α:=((List y0)×y0) ⊕ ((List Int)×(List y0))) ( iter (l0f F l up deep) F (index,can,gt leaves p,[W ((W (2*(gt leaves p)))+1)],[])) fun z_=>match z_ with
  | .inl (x4,y4)=>some (x4,y4,false)
  | .inr (s6,out6)=>some (out6,(⟨(-1),0,s6⟩:y0),true) else none
def c0i (F:Nat) (l:List C0) (q:Int):Option (List Int):=.bind (a0j F l) fun can=>.bind (α:=Bool) ( if decide (q<0) then some true else some (decide (q>=(can.length:Int)))) fun x=>.bind (α:=Bool) ( if x then some true else if B0 can q then some (!(gt can q)) else none) fun x2=>if x2 then some [] else .bind (Y5 F F l can q) fun of=>some of
def m0j (F:Nat) (l:List C0) (p:Int):Option (y0×Bool):=.bind (α:=Bool) ( if decide (p<(-1)) then some true else .bind (B6 F l) fun right=>some (!right)) fun x=>.bind (α:=Bool) ( if x then some true else .bind (b0t F l) fun leaves=>some (decide (p>=(leaves.length:Int)))) fun x2=>if x2 then some ((⟨0,0,[]⟩:y0),false) else if p==(-1) then .bind (c0i F l (W ((l.length:Int)-1))) fun steps=>if (steps.length:Int)==0 then some ((⟨0,0,[]⟩:y0),false) else some ((⟨(-1),0,steps⟩:y0),true) else .bind (e0d F l p) fun (climb,climb2,climb3)=>some (climb2,climb3)
def i0m (F:Nat) (l:List C0):Option (List Int):=.bind (b0c F l) fun lows=>match lows with
 | .inl _=>some []
 | .inr lows2=>some lows2
def n09 (F:Nat):Sm en.D:=⟨166,[.d (.list (.st 0))],.own 3 (.int .i64),[],fun x=>i0m F x⟩
def z0K (F:Nat):=B2 [i0H F] 166 V4 F
def h0u (F:Nat) (l:List C0) (q:Int) (n_:Int) (d:Bool×Int):Option (V0 (Bool×Int) Bool):=match d with
 | (is,i)=>if decide (i<=q) then .bind (α:=Bool) ( if is then some true else if B0 l i then .bind (α:=Bool) ( if ((gt l i).Kind)==7 then if B0 l i then some (((gt l i).N)==n_) else none else some false) fun x2=>some x2 else none) fun x3=>some (.next (x3,W (i+1))) else some (.done is)
def h0G (F:Nat) (l:List C0) (q:Int) (low:List Int) (d:(List Int)×Int):Option (V0 ((List Int)×Int) (List Int)):=match d with
 | (out,n_)=>if decide (n_<=9) then .bind (α:=List Int) ( if B0 low q then .bind (α:=Bool) ( iter (h0u F l q n_) F (false,gt low q)) fun is2=>if is2 then if I0 8 out [n_] then some (out++[n_]) else none else some out else none) fun out2=>some (.next (out2,W (n_+1))) else some (.done out)
def f0M (F:Nat) (l:List C0) (q:Int):Option (List Int):=.bind (i0m F l) fun low=>.bind (α:=Bool) ( if decide (q<0) then some true else some (decide (q>=(low.length:Int)))) fun x=>if x then some [] else .bind (α:=List Int) ( iter (h0G F l q low) F ([],1)) fun out3=>some out3
def k0F (F:Nat):Sm en.D:=⟨123,[.d (.list (.st 0)),.d (.int .i64)],.own 3 (.int .i64),[],fun x=>f0M F x.1 x.2⟩
def v05 (F:Nat):=B2 [n09 F] 123 ⟨[(7,[(.nrm,⟨[(6,.own 3 (.int .i64))],[(1,.any)]⟩)])],[(10,⟨[(8,.d .bool),(9,.d (.int .i64))],[]⟩,[(.ex 2,⟨[(8,.d .bool),(9,.any)],[]⟩)]),(6,⟨[(6,.own 3 (.int .i64)),(7,.d (.int .i64))],[]⟩,[(.ex 0,⟨[(6,.own 3 (.int .i64)),(7,.any)],[]⟩)])],[(3,3,7,⟨[(14,.any),(19,.d .bool)],[]⟩),(12,2,17,⟨[(34,.any),(50,.d .bool)],[]⟩),(12,9,16,⟨[(41,.any),(49,.d .bool)],[]⟩)],[]⟩ F
def j00 (F:Nat) (l:List C0):Option Int:=.bind (f0M F l (W ((l.length:Int)-1))) fun groups=>if (groups.length:Int)==0 then some 0 else if B0 groups (W ((groups.length:Int)-1)) then some (gt groups (W ((groups.length:Int)-1))) else none
def o0c (F:Nat):Sm en.D:=⟨122,[.d (.list (.st 0))],.d (.int .i64),[],fun x=>j00 F x⟩
def E08 (F:Nat):=B2 [k0F F] 122 V4 F
def j07 (F:Nat) (s:List Int) (b:Int):Option Bool:=.bind (α:=Bool) ( if decide (b>=0) then some (decide (b<256)) else some false) fun x=>.bind (α:=Bool) ( if x then if decide (0<=W (b.tdiv 64))&&decide (W (b.tdiv 64)<4) then if !decide (b.tmod 64<0) then let x2:=C3 .u64 (shr .u64 (gt s (W (b.tdiv 64))) (b.tmod 64)) 1;
     some (x2==1) else none else none else some false) fun x3=>some x3
def k0N (F:Nat):Sm en.D:=⟨89,[.d (.arr 4 (.int .u64)),.d (.int .i64)],.d .bool,[],fun x=>j07 F x.1 x.2⟩
def v0d (F:Nat):=B2 [] 89 ⟨[],[],[(1,3,5,⟨[(7,.any),(10,.d .bool)],[]⟩),(1,7,16,⟨[(11,.any),(21,.d .bool)],[]⟩)],[]⟩ F
def p09 (F:Nat) (groups:List Int) (d:(List G2)×Int):Option (V0 ((List G2)×Int) (List G2)):=match d with
 | (out3,k)=>if decide (k<(groups.length:Int)) then if B0 groups k then if I0 16 out3 [(⟨3,gt groups k⟩:G2)] then some (.next (out3++[(⟨3,gt groups k⟩:G2)],W (k+1))) else none else none else some (.done out3)
def u0Z (F:Nat) (l:List C0) (steps:List Int) (d:(List G2)×Int):Option (V0 ((List G2)×Int) (List G2)):=match d with
 | (out,i)=>if decide (i<(steps.length:Int)) then .bind (α:=List G2) ( if B0 steps i then .bind (α:=Bool) ( if decide ((gt steps i)<0) then some true else let x:=decide ((W ((gt steps i).tdiv 2))>=(l.length:Int));
      some x) fun x2=>if x2 then some out else if B0 l (W ((gt steps i).tdiv 2)) then .bind (α:=List G2) ( if ((gt l (W ((gt steps i).tdiv 2))).Kind)==7 then if I0 16 out [(⟨W (1+((gt steps i).tmod 2)),(gt l (W ((gt steps i).tdiv 2))).N⟩:G2)] then let l2:=out++[(⟨W (1+((gt steps i).tmod 2)),(gt l (W ((gt steps i).tdiv 2))).N⟩:G2)];
         some l2 else none else some out) fun out2=>.bind (α:=Bool) ( if ((gt l (W ((gt steps i).tdiv 2))).Kind)==8 then some (((gt steps i).tmod 2)==0) else some false) fun x3=>if x3 then .bind (f0M F l (W ((gt steps i).tdiv 2))) fun groups=>.bind (α:=List G2) ( iter (p09 F groups) F (out2,0)) fun out4=>some out4 else some out2 else none else none) fun out5=>some (.next (out5,W (i+1))) else some (.done out)
def j0e (F:Nat) (l:List C0) (w:List Int):Option Int:=.bind (B6 F l) fun right=>if !right then some 11 else if decide ((w.length:Int)>64) then some 12 else some 0
def l07 (F:Nat):Sm en.D:=⟨97,[.d (.list (.st 0)),.d (.list (.int .u8))],.d (.int .i64),[],fun x=>j0e F x.1 x.2⟩
def C0U (F:Nat):=B2 [k0E F] 97 V4 F
def a7 (F:Nat) (t:S7) (q:Int) (i:Int) (j:Int):Option Bool:=if B0 t.Can q then if B0 (gt t.Can q) (W ((W (i*(W (t.N+1))))+j)) then let x:=gt (gt t.Can q) (W ((W (i*(W (t.N+1))))+j));
   some x else none else none
def h0h (F:Nat):Sm en.D:=⟨99,[.d (.st 17),.d (.int .i64),.d (.int .i64),.d (.int .i64)],.d .bool,[],fun x=>a7 F x.1 x.2.1 x.2.2.1 x.2.2.2⟩
def A08 (F:Nat):=B2 [] 99 V4 F
def i0M (F:Nat) (l:List C0) (t:S7) (q:Int) (i:Int) (j:Int) (d:Int):Option (V0 Int (Unit ⊕ Unit)):=match d with
 | k=>if decide (k<=j) then .bind (a7 F t ((gt l q).A) i k) fun is=>.bind (α:=Bool) ( if is then .bind (a7 F t ((gt l q).B) k j) fun is2=>some is2 else some false) fun x2=>if x2 then some (.done (.inl ())) else some (.next (W (k+1))) else some (.done (.inr ()))
def j09 (F:Nat) (l:List C0) (t:S7) (q:Int) (i:Int) (j:Int) (d:Int):Option (V0 Int (Unit ⊕ Unit)):=match d with
 | k2=>if decide (k2<=j) then .bind (a7 F t ((gt l q).A) i k2) fun is5=>.bind (α:=Bool) ( if is5 then .bind (a7 F t q k2 j) fun is6=>some is6 else some false) fun x4=>if x4 then some (.done (.inl ())) else some (.next (W (k2+1))) else some (.done (.inr ()))
def g0H (F:Nat) (l:List C0) (w:List Int) (t:S7) (q:Int) (i:Int) (j:Int):Option Bool:=if B0 l q then if ((gt l q).Kind)==1 then some (i==j) else if ((gt l q).Kind)==2 then .bind (α:=Bool) ( if j==(W (i+1)) then if B0 w i then .bind (j07 F ((gt l q).Set) (W (gt w i))) fun has=>some has else none else some false) fun x=>some x else if ((gt l q).Kind)==3 then .bind (α:=Unit ⊕ Unit) ( iter (i0M F l t q i j) F i) fun z_=>match z_ with
     | .inl _=>some true
     | .inr _=>some false else if ((gt l q).Kind)==4 then .bind (a7 F t ((gt l q).A) i j) fun is3=>.bind (α:=Bool) ( if is3 then some true else .bind (a7 F t ((gt l q).B) i j) fun is4=>some is4) fun x3=>some x3 else if ((gt l q).Kind)==5 then if i==j then some true else .bind (α:=Unit ⊕ Unit) ( iter (j09 F l t q i j) F (W (i+1))) fun z_=>match z_ with
        | .inl _=>some true
        | .inr _=>some false else if ((gt l q).Kind)==6 then .bind (α:=Bool) ( if i==j then some true else .bind (a7 F t ((gt l q).A) i j) fun is7=>some is7) fun x5=>some x5 else .bind (a7 F t ((gt l q).A) i j) fun is8=>some is8 else none
def o0P (F:Nat):Sm en.D:=⟨153,[.d (.list (.st 0)),.d (.list (.int .u8)),.d (.st 17),.d (.int .i64),.d (.int .i64),.d (.int .i64)],.d .bool,[],fun x=>g0H F x.1 x.2.1 x.2.2.1 x.2.2.2.1 x.2.2.2.2.1 x.2.2.2.2.2⟩
def x0g (F:Nat):=B2 [k0N F,h0h F] 153 ⟨[],[(20,⟨[(15,.d (.int .i64))],[]⟩,[(.ret,⟨[(12,.kb true),(15,.any)],[]⟩),(.ex 3,⟨[(15,.any)],[]⟩)]),(9,⟨[(14,.d (.int .i64))],[]⟩,[(.ret,⟨[(12,.kb true),(14,.any)],[]⟩),(.ex 1,⟨[(14,.any)],[]⟩)])],[(6,5,13,⟨[(33,.any),(42,.d .bool)],[]⟩),(11,7,13,⟨[(57,.any),(64,.d .bool)],[]⟩),(15,7,13,⟨[(73,.any),(80,.d .bool)],[]⟩),(22,7,12,⟨[(99,.any),(105,.d .bool)],[]⟩),(26,4,10,⟨[(111,.any),(118,.d .bool)],[]⟩)],[]⟩ F
def h0w (F:Nat) (l:List C0) (w:List Int) (q:Int) (N:Int) (i:Int) (d:Int×(List (List Bool))):Option (V0 (Int×(List (List Bool))) (List (List Bool))):=match d with
 | (j,y2)=>if decide (j<=N) then if B0 y2 q then .bind (g0H F l w (⟨N,y2⟩:S7) q i j) fun one=>if B0 (gt y2 q) (W ((W (i*(W (N+1))))+j)) then let t2:=y2.set q.toNat ((gt y2 q).set (W ((W (i*(W (N+1))))+j)).toNat one);
    some (.next (W (j+1),t2)) else none else none else some (.done y2)
def h0z (F:Nat) (l:List C0) (w:List Int) (q:Int) (N:Int) (d:Int×(List (List Bool))):Option (V0 (Int×(List (List Bool))) (List (List Bool))):=match d with
 | (i,y)=>if decide (i>=0) then .bind (α:=List (List Bool)) ( iter (h0w F l w q N i) F (i,y)) fun y3=>some (.next (W (i-1),y3)) else some (.done y)
def k0r (F:Nat) (l:List C0) (w:List Int) (d:(Int×(Int×(List (List Bool))))):Option (V0 (Int×(Int×(List (List Bool)))) (Int×(List (List Bool)))):=match d with
 | (q,(N,Can))=>if decide (q<(l.length:Int)) then if V2 1 (W ((W (N+1))*(W (N+1)))) then if I0 24 Can [(List.replicate (W ((W (N+1))*(W (N+1)))).toNat false:List Bool)] then let t:=Can++[(List.replicate (W ((W (N+1))*(W (N+1)))).toNat false:List Bool)];
    .bind (α:=List (List Bool)) ( iter (h0z F l w q N) F (N,t)) fun y4=>some (.next (W (q+1),(N,y4))) else none else none else some (.done (N,Can))
def i0J (F:Nat) (l:List C0) (w:List Int):Option S7:=.bind (α:=Int×(List (List Bool))) ( iter (k0r F l w) F (0,((w.length:Int),[]))) fun (N2,Can2)=>some (⟨N2,Can2⟩:S7)
def l0A (F:Nat):Sm en.D:=⟨98,[.d (.list (.st 0)),.d (.list (.int .u8))],.d (.st 17),[],fun x=>i0J F x.1 x.2⟩
def y07 (F:Nat):=B2 [o0P F] 98 ⟨[],[(10,⟨[(8,.d (.int .i64))],[(6,.B1 42 [4] (.list .bool))]⟩,[(.ex 4,⟨[(8,.any)],[(6,.B1 42 [4] (.list .bool))]⟩)]),(3,⟨[(6,.d (.int .i64))],[(1,.box 154 [.d (.int .i64),.B1 42 [4] (.list .bool)])]⟩,[(.ex 0,⟨[(6,.any)],[(1,.box 154 [.d (.int .i64),.B1 42 [4] (.list .bool)])]⟩)]),(7,⟨[(7,.d (.int .i64))],[(6,.B1 42 [4] (.list .bool))]⟩,[(.ex 2,⟨[(7,.any)],[(6,.B1 42 [4] (.list .bool))]⟩)])],[],[28]⟩ F
def m0a (F:Nat) (l:List C0) (t:S7) (q:Int) (i:Int) (j:Int) (d:Int):Option (V0 Int Int):=match d with
 | k=>.bind (a7 F t ((gt l q).A) i k) fun is=>.bind (α:=Bool) ( if !is then some true else .bind (a7 F t ((gt l q).B) k j) fun is2=>some (!is2)) fun x=>if x then some (.next (W (k-1))) else some (.done k)
def n0O (F:Nat) (l:List C0) (t:S7) (q:Int) (j:Int) (i2:Int) (d:Int):Option (V0 Int Int):=match d with
 | k3=>.bind (a7 F t ((gt l q).A) i2 k3) fun is4=>.bind (α:=Bool) ( if !is4 then some true else .bind (a7 F t q k3 j) fun is5=>some (!is5)) fun x2=>if x2 then some (.next (W (k3-1))) else some (.done k3)
def g00 (F:Nat) (o0B:(List C0)->S7->Int->Int->Int->Int->Option (List Z1)) (l:List C0) (t:S7) (q:Int) (deep:Int) (j:Int) (d:Int×(List Z1)):Option (V0 (Int×(List Z1)) (List Z1)):=match d with
 | (i2,out)=>if decide (i2<j) then .bind (α:=Int) ( iter (n0O F l t q j i2) F j) fun k4=>.bind (o0B l t ((gt l q).A) (W (deep+1)) i2 k4) fun grow5=>if I0 32 out grow5 then some (.next (k4,out++grow5)) else none else some (.done out)
def I7 (F:Nat):Nat->(List C0)->S7->Int->Int->Int->Int->Option (List Z1)
 | 0,_,_,_,_,_,_=>none
 | n+1,l,t,q,deep,i,j=>if B0 l q then if ((gt l q).Kind)==3 then .bind (α:=Int) ( iter (m0a F l t q i j) F j) fun k2=>.bind (I7 F n l t ((gt l q).A) (W (deep+1)) i k2) fun grow=>if I0 32 [(⟨deep,q,i,j⟩:Z1)] grow then .bind (I7 F n l t ((gt l q).B) (W (deep+1)) k2 j) fun grow2=>if I0 32 ([(⟨deep,q,i,j⟩:Z1)]++grow) grow2 then let l2:=([(⟨deep,q,i,j⟩:Z1)]++grow)++grow2;
     some l2 else none else none else if ((gt l q).Kind)==4 then .bind (a7 F t ((gt l q).A) i j) fun is3=>if is3 then .bind (I7 F n l t ((gt l q).A) (W (deep+1)) i j) fun grow3=>if I0 32 [(⟨deep,q,i,j⟩:Z1)] grow3 then some ([(⟨deep,q,i,j⟩:Z1)]++grow3) else none else .bind (I7 F n l t ((gt l q).B) (W (deep+1)) i j) fun grow4=>if I0 32 [(⟨deep,q,i,j⟩:Z1)] grow4 then some ([(⟨deep,q,i,j⟩:Z1)]++grow4) else none else if ((gt l q).Kind)==5 then .bind (α:=List Z1) ( iter (g00 F (I7 F n) l t q deep j) F (i,[(⟨deep,q,i,j⟩:Z1)])) fun out2=>some out2 else if ((gt l q).Kind)==6 then if decide (i<j) then .bind (I7 F n l t ((gt l q).A) (W (deep+1)) i j) fun grow6=>if I0 32 [(⟨deep,q,i,j⟩:Z1)] grow6 then some ([(⟨deep,q,i,j⟩:Z1)]++grow6) else none else some [(⟨deep,q,i,j⟩:Z1)] else .bind (α:=Bool) ( if ((gt l q).Kind)==7 then some (((gt l q).Kind)==7) else some (((gt l q).Kind)==8)) fun x3=>if x3 then .bind (I7 F n l t ((gt l q).A) (W (deep+1)) i j) fun grow7=>if I0 32 [(⟨deep,q,i,j⟩:Z1)] grow7 then some ([(⟨deep,q,i,j⟩:Z1)]++grow7) else none else some [(⟨deep,q,i,j⟩:Z1)] else none
def i00 (F n:Nat):Sm en.D:=⟨100,[.d (.list (.st 0)),.d (.st 17),.d (.int .i64),.d (.int .i64),.d (.int .i64),.d (.int .i64)],.own 177 (.st 14),[],fun x=>I7 F n x.1 x.2.1 x.2.2.1 x.2.2.2.1 x.2.2.2.2.1 x.2.2.2.2.2⟩
def v0O (F n:Nat):=B2 [h0h F,i00 F n] 100 ⟨[(28,[(.nrm,⟨[(155,.d .bool)],[]⟩)])],[(15,⟨[(4,.d (.int .i64)),(14,.own 177 (.st 14))],[(2,.any)]⟩,[(.ex 3,⟨[(4,.any),(14,.own 177 (.st 14))],[(2,.any)]⟩)]),(17,⟨[(16,.d (.int .i64))],[]⟩,[(.ex 5,⟨[(16,.d (.int .i64))],[]⟩)]),(6,⟨[(15,.d (.int .i64))],[]⟩,[(.ex 1,⟨[(15,.d (.int .i64))],[]⟩)])],[(6,8,15,⟨[(39,.any),(47,.d .bool)],[]⟩),(17,8,14,⟨[(115,.any),(122,.d .bool)],[]⟩)],[]⟩ F
def g0A (F:Nat) (l:List C0) (w:List Int):Option ((List Z1)×Int):=.bind (j0e F l w) fun bad=>if bad != 0 then some ([],bad) else .bind (i0J F l w) fun of=>.bind (a7 F of (W ((l.length:Int)-1)) 0 (w.length:Int)) fun is=>if !is then some ([],7) else .bind (I7 F F l of (W ((l.length:Int)-1)) 1 0 (w.length:Int)) fun grow=>some (grow,0)
def o0E (F:Nat):Sm en.D:=⟨64,[.d (.list (.st 0)),.d (.list (.int .u8))],.tup [.own 177 (.st 14),.d (.int .i64)],[],fun x=>g0A F x.1 x.2⟩
def B0e (F:Nat):=B2 [l07 F,l0A F,h0h F,i00 F F] 64 V4 F
def h0I (F:Nat) (d:Int×(List G1)):Option (V0 (Int×(List G1)) (List G1)):=match d with
 | (i,y)=>if decide (i<(y.length:Int)) then if B0 y i then some (.next (W (i+1),y.set i.toNat (⟨(-1),(-1)⟩:G1))) else none else some (.done y)
def g08 (F:Nat) (groups:List Int) (d:Int×(List G1)):Option (V0 (Int×(List G1)) (List G1)):=match d with
 | (k,y6)=>if decide (k<(groups.length:Int)) then if B0 groups k then if B0 y6 (gt groups k) then let l4:=y6.set (gt groups k).toNat (⟨(-1),(-1)⟩:G1);
    some (.next (W (k+1),l4)) else none else none else some (.done y6)
def f03 (F:Nat) (l:List C0) (t:List Z1) (d:Int×(List G1)):Option (V0 (Int×(List G1)) (List G1)):=match d with
 | (i2,y4)=>if decide (i2<(t.length:Int)) then .bind (α:=List G1) ( if B0 t i2 then .bind (α:=Bool) ( if decide (((gt t i2).Node)<0) then some true else some (decide (((gt t i2).Node)>=(l.length:Int)))) fun x=>if x then some y4 else .bind (α:=List G1) ( if B0 l ((gt t i2).Node) then if ((gt l ((gt t i2).Node)).Kind)==7 then if B0 l ((gt t i2).Node) then if B0 t i2 then if B0 t i2 then if B0 y4 ((gt l ((gt t i2).Node)).N) then let l3:=y4.set ((gt l ((gt t i2).Node)).N).toNat (⟨(gt t i2).From,(gt t i2).To⟩:G1);
            some l3 else none else none else none else none else some y4 else none) fun y5=>if B0 l ((gt t i2).Node) then if ((gt l ((gt t i2).Node)).Kind)==8 then .bind (f0M F l ((gt t i2).Node)) fun groups=>.bind (α:=List G1) ( iter (g08 F groups) F (0,y5)) fun y7=>some y7 else some y5 else none else none) fun y8=>some (.next (W (i2+1),y8)) else some (.done y4)
def i0k (F:Nat) (l:List C0) (t:List Z1):Option (List G1):=.bind (B6 F l) fun right=>if !right then some [] else .bind (j00 F l) fun top=>if V2 16 (W (top+1)) then .bind (α:=List G1) ( iter (h0I F) F (0,(List.replicate (W (top+1)).toNat (⟨0,0⟩:G1):List G1))) fun y2=>.bind (α:=List G1) ( if decide ((t.length:Int)>0) then if B0 t 0 then if B0 t 0 then if B0 y2 0 then let l2:=y2.set (0:Int).toNat (⟨(gt t 0).From,(gt t 0).To⟩:G1);
        some l2 else none else none else none else some y2) fun y3=>.bind (α:=List G1) ( iter (f03 F l t) F (0,y3)) fun y9=>some y9 else none
def p0f (F:Nat):Sm en.D:=⟨65,[.d (.list (.st 0)),.d (.list (.st 14))],.own 36 (.st 1),[],fun x=>i0k F x.1 x.2⟩
def F0k (F:Nat):=B2 [k0E F,o0c F,k0F F] 65 ⟨[(10,[(.nrm,⟨[],[(0,.own 36 (.st 1))]⟩)]),(12,[(.nrm,⟨[],[(0,.own 36 (.st 1))]⟩)]),(17,[(.nrm,⟨[],[(0,.own 36 (.st 1))]⟩)])],[(11,⟨[(7,.d (.int .i64))],[(0,.own 36 (.st 1))]⟩,[(.ex 2,⟨[(7,.any)],[(0,.own 36 (.st 1))]⟩)]),(20,⟨[(10,.d (.int .i64))],[(0,.own 36 (.st 1))]⟩,[(.ex 4,⟨[(10,.any)],[(0,.own 36 (.st 1))]⟩)]),(5,⟨[(6,.d (.int .i64))],[(0,.own 36 (.st 1))]⟩,[(.ex 0,⟨[(6,.any)],[(0,.own 36 (.st 1))]⟩)])],[(14,3,7,⟨[(55,.any),(60,.d .bool)],[]⟩)],[]⟩ F
def d0F (F:Nat) (l:List C0) (w:List Int):Option ((List G1)×Int):=.bind (g0A F l w) fun (tree,tree2)=>if tree2 != 0 then some ([],tree2) else .bind (i0k F l tree) fun spans=>some (spans,0)
def l04 (F:Nat):Sm en.D:=⟨19,[.d (.list (.st 0)),.d (.list (.int .u8))],.tup [.own 36 (.st 1),.d (.int .i64)],[],fun x=>d0F F x.1 x.2⟩
def B0L (F:Nat):=B2 [o0E F,p0f F] 19 V4 F
def Z9 (F:Nat) (l:List C0) (w:List Int) (longes:List G1) (longes2:Int) (d:Int):Option (V0 Int (Bool ⊕ Unit)):=match d with
 | k=>if decide (k>=0) then if I4 w 0 k then .bind (d0F F l (I1 w 0 k)) fun (match_5,match_6)=>.bind (α:=Bool) ( if match_6==0 then some true else some (match_6==11)) fun x2=>if x2 then .bind (b08 F longes match_5) fun spanne2=>.bind (α:=Bool) ( if spanne2 then some (longes2==match_6) else some false) fun x3=>.bind (α:=Bool) ( if x3 then .bind (e0r F) fun sure2=>some sure2 else some false) fun x4=>some (.done (.inl x4)) else some (.next (W (k-1))) else none else some (.done (.inr ()))
def m0e (F:Nat) (l:List C0) (w:List Int):Option Bool:=.bind (i0W F l w) fun few=>if !few then .bind (e0r F) fun sure=>some sure else .bind (f0c F l w) fun (match_,match_2)=>.bind (d0F F l w) fun (match_3,match_4)=>.bind (b08 F match_ match_3) fun spanne=>.bind (α:=Bool) ( if !spanne then some true else some (match_2 != match_4)) fun x=>if x then some false else .bind (f0q F l w) fun (longes,longes2)=>.bind (α:=Bool ⊕ Unit) ( iter (Z9 F l w longes longes2) F (w.length:Int)) fun z_=>match z_ with
   | .inl x5=>some x5
   | .inr _=>.bind (α:=Bool) ( if longes2==7 then some ((longes.length:Int)==0) else some false) fun x6=>.bind (α:=Bool) ( if x6 then .bind (e0r F) fun sure3=>some sure3 else some false) fun x7=>some x7
def t0a (F:Nat):Sm en.D:=⟨4,[.d (.list (.st 0)),.d (.list (.int .u8))],.d .bool,[],fun x=>m0e F x.1 x.2⟩
def E0M (F:Nat):=B2 [o0e F,o0K F,j0z F,h09 F,k0z F,l04 F] 4 ⟨[],[(9,⟨[(11,.d (.int .i64))],[]⟩,[(.ret,⟨[(4,.d .bool),(11,.any)],[]⟩),(.ex 0,⟨[(11,.any)],[]⟩)])],[(5,5,8,⟨[(35,.any),(39,.d .bool)],[]⟩),(12,3,5,⟨[(62,.any),(65,.d .bool)],[]⟩),(13,4,7,⟨[(69,.any),(73,.d .bool)],[]⟩),(13,9,10,⟨[(74,.any),(76,.d .bool)],[]⟩),(14,3,6,⟨[(79,.any),(83,.d .bool)],[]⟩),(14,8,9,⟨[(84,.any),(86,.d .bool)],[]⟩)],[]⟩ F
