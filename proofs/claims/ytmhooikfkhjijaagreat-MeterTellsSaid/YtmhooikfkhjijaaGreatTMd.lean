/- A text of the proof. Its conditions: none. -/
import Derived.Test.YtmhooikfkhjijaaGreatTEn
import Derived.Test.YtmhooikfkhjijaaGreatTX17
import Derived.Test.YtmhooikfkhjijaaGreatTX14
import Derived.Test.YtmhooikfkhjijaaGreatTVKey
set_option linter.all false
set_option maxRecDepth 100000
noncomputable section
namespace Go.Proofs.YtmhooikfkhjijaaGreat
open Go.V Go.RowKit Go.X
def I0W (F:Nat) (p:b0D) (i:Int) (d:Int):Option (T0 Int (Unit ⊕ Unit)):=match d with
 | c=>let x6:=decide (c<(((gt p.Stands i).c0s).length:Int));
 if x6 then if y0 ((gt p.Stands i).c0s) c then let x7:=(((gt ((gt p.Stands i).c0s) c).Moves).length:Int);
   if decide (x7>1300) then some (.done (.inl ())) else some (.next (W (c+1))) else none else some (.done (.inr ()))
def J0D (F:Nat) (p:b0D) (d:Int):Option (T0 Int (Unit ⊕ Unit)):=match d with
 | i=>if decide (i<(p.Stands.length:Int)) then if y0 p.Stands i then let x3:=decide ((((gt p.Stands i).Accept).length:Int)>40);
   .bind (α:=Bool) ( if x3 then some true else let x4:=decide ((((gt p.Stands i).c0s).length:Int)>300);
     some x4) fun x5=>if x5 then some (.done (.inl ())) else .bind (α:=Unit ⊕ Unit) ( iter (I0W F p i) F 0) fun z_=>match z_ with
    | .inl _=>some (.done (.inl ()))
    | .inr _=>some (.next (W (i+1))) else none else some (.done (.inr ()))
def F0y (F:Nat) (p:b0D):Option Bool:=.bind (α:=Bool) ( if decide ((p.Stands.length:Int)>60) then some true else some (decide ((p.Class.length:Int)>300))) fun x=>.bind (α:=Bool) ( if x then some true else some (decide (p.Regs>600))) fun x2=>if x2 then some false else .bind (α:=Unit ⊕ Unit) ( iter (J0D F p) F 0) fun z_=>match z_ with
  | .inl _=>some false
  | .inr _=>some true
abbrev U1:Ann:=⟨[],[],[],[]⟩
abbrev R0 (l:List (Sm en.D)) (n:Nat) (a:Ann) (F:Nat):X1 en:=⟨l,fun g=>if Nat.beq g n then a else U1,F,[]⟩
def G08 (F:Nat):Sm en.D:=⟨9,[.d (.st 4)],.d .bool,[],fun x=>F0y F x⟩
def U0s (F:Nat):=R0 [] 9 ⟨[],[(10,⟨[(5,.d (.int .i64))],[]⟩,[(.ret,⟨[(2,.kb false),(5,.any)],[]⟩),(.ex 2,⟨[(5,.any)],[]⟩)]),(4,⟨[(3,.d (.int .i64))],[]⟩,[(.ret,⟨[(2,.kb false),(3,.any)],[]⟩),(.ex 0,⟨[(3,.any)],[]⟩)])],[(1,5,9,⟨[(10,.any),(15,.d .bool)],[]⟩),(1,11,14,⟨[(16,.any),(20,.d .bool)],[]⟩),(7,5,9,⟨[(37,.any),(42,.d .bool)],[]⟩)],[]⟩ F
def p0i (F:Nat) (l:List U0) (ahead:List Int) (i:Int):Option Int:=if y0 l i then .bind (α:=Int ⊕ Unit) ( .bind (α:=Bool) ( if ((gt l i).Kind)==1 then some (((gt l i).Kind)==1) else some (((gt l i).Kind)==2)) fun x=>if x then .bind (α:=Bool) ( if ((gt l i).A)==(-1) then some (((gt l i).B)==(-1)) else some false) fun x2=>if x2 then some (.inl i) else some (.inr ()) else .bind (α:=Bool) ( if ((gt l i).Kind)==3 then some (((gt l i).Kind)==3) else some (((gt l i).Kind)==4)) fun x3=>if x3 then .bind (α:=Bool) ( if decide (((gt l i).B)>=0) then some (((gt l i).B)==(W (i-1))) else some false) fun x4=>.bind (α:=Bool) ( if x4 then some (decide (((gt l i).A)>=0)) else some false) fun x5=>.bind (α:=Bool) ( if x5 then if y0 ahead ((gt l i).B) then let x6:=((gt l i).A)==(W ((gt ahead ((gt l i).B))-1));
        some x6 else none else some false) fun x7=>if x7 then if y0 ahead ((gt l i).A) then some (.inl (gt ahead ((gt l i).A))) else none else some (.inr ()) else .bind (α:=Bool) ( if ((gt l i).Kind)==5 then some (((gt l i).Kind)==5) else if ((gt l i).Kind)==6 then some (((gt l i).Kind)==6) else if ((gt l i).Kind)==7 then some (((gt l i).Kind)==7) else some (((gt l i).Kind)==8)) fun x8=>if x8 then .bind (α:=Bool) ( if ((gt l i).B)==(-1) then some (decide (((gt l i).A)>=0)) else some false) fun x9=>.bind (α:=Bool) ( if x9 then some (((gt l i).A)==(W (i-1))) else some false) fun x10=>if x10 then if y0 ahead ((gt l i).A) then some (.inl (gt ahead ((gt l i).A))) else none else some (.inr ()) else some (.inr ())) fun z_=>match z_ with
  | .inl x11=>some x11
  | .inr _=>some (-1) else none
def j0m (F:Nat):Sm en.D:=⟨138,[.d (.list (.st 0)),.d (.list (.int .i64)),.d (.int .i64)],.d (.int .i64),[],fun x=>p0i F x.1 x.2.1 x.2.2⟩
def x0o (F:Nat):=R0 [] 138 ⟨[(15,[(.nrm,⟨[(60,.d .bool)],[]⟩)]),(17,[(.ret,⟨[(6,.d (.int .i64))],[]⟩),(.nrm,⟨[],[]⟩)]),(5,[(.nrm,⟨[(14,.d .bool)],[]⟩)]),(9,[(.nrm,⟨[(26,.d .bool)],[]⟩)])],[],[(5,4,7,⟨[(20,.any),(24,.d .bool)],[]⟩),(9,4,9,⟨[(32,.any),(38,.d .bool)],[]⟩),(9,11,14,⟨[(39,.any),(43,.d .bool)],[]⟩),(9,16,25,⟨[(44,.any),(54,.d .bool)],[]⟩),(15,4,7,⟨[(68,.any),(72,.d .bool)],[]⟩),(15,9,14,⟨[(73,.any),(79,.d .bool)],[]⟩)],[]⟩ F
def m0O (F:Nat) (x:U0):Option Bool:=.bind (α:=Bool) ( if x.Kind != 2 then let x2:=!(((gt x.Set 0)==0)&&(((gt x.Set 1)==0)&&(((gt x.Set 2)==0)&&((gt x.Set 3)==0))));
   some x2 else some false) fun x3=>if x3 then some false else if x.Kind==7 then .bind (α:=Bool) ( if decide (x.N>=1) then some (decide (x.N<=9)) else some false) fun x4=>some x4 else some (x.N==0)
def g0I (F:Nat):Sm en.D:=⟨139,[.d (.st 0)],.d .bool,[],fun x=>m0O F x⟩
def w0G (F:Nat):=R0 [] 139 ⟨[],[],[(1,4,8,⟨[(6,.any),(11,.d .bool)],[]⟩),(4,4,7,⟨[(18,.any),(22,.d .bool)],[]⟩)],[]⟩ F
def s0W (F:Nat) (x:U0) (in_:List U0) (d:Int):Option (T0 Int (Unit ⊕ Unit)):=match d with
 | x2=>if decide (x2<(in_.length:Int)) then if y0 in_ x2 then .bind (α:=Bool) ( if x.Kind==7 then some (((gt in_ x2).Kind)==7) else some false) fun x3=>.bind (α:=Bool) ( if x3 then some (((gt in_ x2).N)==x.N) else some false) fun x4=>if x4 then some (.done (.inl ())) else some (.next (W (x2+1))) else none else some (.done (.inr ()))
def o01 (F:Nat) (x:U0) (in_:List U0):Option Bool:=.bind (α:=Unit ⊕ Unit) ( iter (s0W F x in_) F 0) fun z_=>match z_ with
 | .inl _=>some true
 | .inr _=>some false
def h0t (F:Nat):Sm en.D:=⟨140,[.d (.st 0),.d (.list (.st 0))],.d .bool,[],fun x=>o01 F x.1 x.2⟩
def w07 (F:Nat):=R0 [] 140 ⟨[],[(2,⟨[(9,.d (.int .i64))],[]⟩,[(.ret,⟨[(4,.kb true),(9,.any)],[]⟩),(.ex 0,⟨[(9,.any)],[]⟩)])],[(4,4,7,⟨[(16,.any),(20,.d .bool)],[]⟩),(4,9,14,⟨[(21,.any),(27,.d .bool)],[]⟩)],[]⟩ F
def q0M (F:Nat) (l:List U0) (d:(List Int)×Int×Int):Option (T0 ((List Int)×Int×Int) (Unit ⊕ ((List Int)×Int))):=match d with
 | (out,leaves,x2)=>if decide (x2<(l.length:Int)) then if y0 l x2 then .bind (p0i F l out x2) fun low=>.bind (α:=Bool) ( if decide (low<0) then some true else .bind (m0O F (gt l x2)) fun fields=>some (!fields)) fun x3=>.bind (α:=Bool) ( if x3 then some true else if C3 l low x2 then .bind (o01 F (gt l x2) (L1 l low x2)) fun again=>some again else none) fun x4=>if x4 then some (.done (.inl ())) else .bind (α:=Int) ( if ((gt l x2).Kind)==2 then some (W (leaves+1)) else some leaves) fun leaves2=>if C1 8 out [low] then some (.next (out++[low],leaves2,W (x2+1))) else none else none else some (.done (.inr (out,leaves)))
def b0e (F:Nat) (l:List U0):Option (List Int):=.bind (α:=Bool) ( if (l.length:Int)==0 then some true else some (decide ((l.length:Int)>400))) fun x=>if x then some [] else .bind (α:=Unit ⊕ ((List Int)×Int)) ( iter (q0M F l) F ([],0,0)) fun z_=>match z_ with
  | .inl _=>some []
  | .inr (out2,leaves3)=>.bind (α:=Bool) ( if decide (leaves3>64) then some true else if y0 out2 (W ((l.length:Int)-1)) then some ((gt out2 (W ((l.length:Int)-1))) != 0) else none) fun x5=>if x5 then some [] else some out2
def b0B (F:Nat):Sm en.D:=⟨100,[.d (.list (.st 0))],.own 3 (.int .i64),[],fun x=>b0e F x⟩
def v0F (F:Nat):=R0 [j0m F,g0I F,h0t F] 100 ⟨[(13,[(.nrm,⟨[(4,.d (.int .i64))],[]⟩)])],[(6,⟨[(3,.own 3 (.int .i64)),(4,.d (.int .i64)),(18,.d (.int .i64))],[]⟩,[(.ret,⟨[(2,.nil),(3,.any),(4,.any),(18,.any)],[]⟩),(.ex 0,⟨[(3,.own 3 (.int .i64)),(4,.d (.int .i64)),(18,.any)],[]⟩)])],[(1,4,7,⟨[(11,.any),(15,.d .bool)],[]⟩),(9,3,6,⟨[(29,.any),(33,.d .bool)],[]⟩),(9,8,14,⟨[(34,.any),(41,.d .bool)],[]⟩),(15,3,10,⟨[(54,.any),(62,.d .bool)],[]⟩)],[]⟩ F
def R7 (F:Nat) (l:List U0):Option Bool:=.bind (b0e F l) fun low=>some (decide ((low.length:Int)>0))
def A7 (F:Nat):Sm en.D:=⟨68,[.d (.list (.st 0))],.d .bool,[],fun x=>R7 F x⟩
def v0A (F:Nat):=R0 [b0B F] 68 U1 F
def p09 (F:Nat) (l:List U0) (q:Int) (low:List Int) (x2:Int) (d:Int×(List Bool)):Option (T0 (Int×(List Bool)) (List Bool)):=match d with
 | (x3,y)=>if decide (x3<x2) then .bind (α:=List Bool) ( if y0 (L1 l (gt low q) (W (q+1))) x3 then let x4:=((gt (L1 l (gt low q) (W (q+1))) x3).Kind)==7;
    if x4 then if decide (0<=(gt (L1 l (gt low q) (W (q+1))) x3).N)&&decide ((gt (L1 l (gt low q) (W (q+1))) x3).N<10) then let x5:=y.set ((gt (L1 l (gt low q) (W (q+1))) x3).N).toNat true;
      some x5 else none else some y else none) fun y2=>some (.next (W (x3+1),y2)) else some (.done y)
def x0Q (F:Nat) (y3:List Bool) (d:(List Int)×Int):Option (T0 ((List Int)×Int) (List Int)):=match d with
 | (out,x6)=>if decide (x6<10) then .bind (α:=List Int) ( if decide (0<=x6)&&decide (x6<10) then if gt y3 x6 then if C1 8 out [x6] then some (out++[x6]) else none else some out else none) fun out2=>some (.next (out2,W (x6+1))) else some (.done out)
def g0O (F:Nat) (l:List U0) (q:Int):Option (List Int):=.bind (b0e F l) fun low=>.bind (α:=Bool) ( if decide (q<0) then some true else some (decide (q>=(low.length:Int)))) fun x=>if x then some [] else if y0 low q then if C3 l (gt low q) (W (q+1)) then let x2:=((L1 l (gt low q) (W (q+1))).length:Int);
    .bind (α:=List Bool) ( iter (p09 F l q low x2) F (0,[false,false,false,false,false,false,false,false,false,false])) fun y3=>.bind (α:=List Int) ( iter (x0Q F y3) F ([],0)) fun out3=>some out3 else none else none
def e01 (F:Nat):Sm en.D:=⟨101,[.d (.list (.st 0)),.d (.int .i64)],.own 3 (.int .i64),[],fun x=>g0O F x.1 x.2⟩
def u0x (F:Nat):=R0 [b0B F] 101 ⟨[(10,[(.nrm,⟨[],[(1,.box 232 [.d (.arr 10 .bool)])]⟩)]),(17,[(.nrm,⟨[(9,.own 3 (.int .i64))],[(3,.any)]⟩)])],[(13,⟨[(9,.own 3 (.int .i64)),(41,.d (.int .i64))],[]⟩,[(.ex 2,⟨[(9,.own 3 (.int .i64)),(41,.any)],[]⟩)]),(6,⟨[(30,.d (.int .i64))],[(1,.box 232 [.d (.arr 10 .bool)])]⟩,[(.ex 0,⟨[(30,.any)],[(1,.box 232 [.d (.arr 10 .bool)])]⟩)])],[(2,3,7,⟨[(15,.any),(20,.d .bool)],[]⟩)],[]⟩ F
def u0B (F:Nat) (groups:List Int) (d:Int×Int):Option (T0 (Int×Int) Int):=match d with
 | (top,x)=>if decide (x<(groups.length:Int)) then if y0 groups x then some (.next (gt groups x,W (x+1))) else none else some (.done top)
def m0R (F:Nat) (l:List U0):Option Int:=.bind (g0O F l (W ((l.length:Int)-1))) fun groups=>.bind (α:=Int) ( iter (u0B F groups) F (0,0)) fun top2=>some top2
def j0B (F:Nat):Sm en.D:=⟨69,[.d (.list (.st 0))],.d (.int .i64),[],fun x=>m0R F x⟩
def q0L (F:Nat):=R0 [e01 F] 69 ⟨[],[(3,⟨[(3,.d (.int .i64)),(12,.d (.int .i64))],[]⟩,[(.ex 0,⟨[(3,.d (.int .i64)),(12,.any)],[]⟩)])],[],[]⟩ F
def c08 (F:Nat) (l:List U0):Option Int:=.bind (R7 F l) fun right=>if !right then some 0 else .bind (m0R F l) fun top=>some (W (1+(W (2*top))))
def c05 (F:Nat):Sm en.D:=⟨36,[.d (.list (.st 0))],.d (.int .i64),[],fun x=>c08 F x⟩
def v0q (F:Nat):=R0 [A7 F,j0B F] 36 U1 F
def w0O (F:Nat) (l:List U0) (d:(List Int)×Int):Option (T0 ((List Int)×Int) (List Int)):=match d with
 | (out,x)=>if decide (x<(l.length:Int)) then .bind (α:=List Int) ( if y0 l x then if ((gt l x).Kind)==2 then if C1 8 out [x] then some (out++[x]) else none else some out else none) fun out2=>some (.next (out2,W (x+1))) else some (.done out)
def a0I (F:Nat) (l:List U0):Option (List Int):=.bind (R7 F l) fun right=>if !right then some [] else .bind (α:=List Int) ( iter (w0O F l) F ([],0)) fun out3=>some out3
def b0f (F:Nat):Sm en.D:=⟨37,[.d (.list (.st 0))],.own 3 (.int .i64),[],fun x=>a0I F x⟩
def w0S (F:Nat):=R0 [A7 F] 37 ⟨[(9,[(.nrm,⟨[(3,.own 3 (.int .i64))],[(0,.any)]⟩)])],[(5,⟨[(3,.own 3 (.int .i64)),(11,.d (.int .i64))],[]⟩,[(.ex 0,⟨[(3,.own 3 (.int .i64)),(11,.any)],[]⟩)])],[],[]⟩ F
def D0M (F:Nat) (l:List U0) (n_:Int):Option (t0v×Int):=.bind (c08 F l) fun tags=>if tags==0 then some ((⟨0,0,0,0⟩:t0v),11) else .bind (α:=Bool) ( if decide (n_<0) then some true else some (decide (n_>1000000))) fun x=>if x then some ((⟨0,0,0,0⟩:t0v),1) else .bind (a0I F l) fun leaves=>let x2:=W ((W (3*(leaves.length:Int)))*(W ((leaves.length:Int)+tags)));
   some ((⟨0,W ((W (n_+1))*x2),0,x2⟩:t0v),0)
def F04 (F:Nat):Sm en.D:=⟨11,[.d (.list (.st 0)),.d (.int .i64)],.tup [.d (.st 5),.d (.int .i64)],[],fun x=>D0M F x.1 x.2⟩
def P08 (F:Nat):=R0 [c05 F,b0f F] 11 ⟨[],[],[(4,3,5,⟨[(16,.any),(19,.d .bool)],[]⟩)],[]⟩ F
def I0m (F:Nat) (s:List U0):Option (List U0):=if C1 64 ([]:List U0) s then some s else none
def M0s (F:Nat):Sm en.D:=⟨142,[.d (.list (.st 0))],.own 145 (.st 0),[],fun x=>I0m F x⟩
def M0X (F:Nat):X1 en:=⟨[],fun _=>⟨[],[],[],[4]⟩,F,[]⟩
def r01 (F:Nat) (groups:List Int) (d:(List Z2)×Int):Option (T0 ((List Z2)×Int) (List Z2)):=match d with
 | (out,x4)=>if decide (x4<(groups.length:Int)) then if y0 groups x4 then if C1 16 out [(⟨3,gt groups x4⟩:Z2)] then some (.next (out++[(⟨3,gt groups x4⟩:Z2)],W (x4+1))) else none else none else some (.done out)
def l05 (F:Nat) (l:List U0) (s:Int):Option (List Z2):=.bind (α:=Bool) ( if decide (s<0) then some true else some (decide ((W (s.tdiv 2))>=(l.length:Int)))) fun x=>if x then some [] else if y0 l (W (s.tdiv 2)) then .bind (α:=Bool) ( if ((gt l (W (s.tdiv 2))).Kind)==7 then some ((s.tmod 2)==0) else some false) fun x2=>if x2 then some [(⟨1,(gt l (W (s.tdiv 2))).N⟩:Z2)] else if ((gt l (W (s.tdiv 2))).Kind)==7 then some [(⟨2,(gt l (W (s.tdiv 2))).N⟩:Z2)] else .bind (α:=Bool) ( if ((gt l (W (s.tdiv 2))).Kind)==8 then some ((s.tmod 2)==0) else some false) fun x3=>if x3 then .bind (g0O F l (W (s.tdiv 2))) fun groups=>.bind (α:=List Z2) ( iter (r01 F groups) F ([],0)) fun out2=>some out2 else some [] else none
def k0b (F:Nat):Sm en.D:=⟨180,[.d (.list (.st 0)),.d (.int .i64)],.own 237 (.st 16),[],fun x=>l05 F x.1 x.2⟩
def r0W (F:Nat):X1 en:=⟨[e01 F],fun g=>if Nat.beq g 180 then ⟨[],[(11,⟨[(6,.own 237 (.st 16)),(64,.d (.int .i64))],[]⟩,[(.ex 1,⟨[(6,.own 237 (.st 16)),(64,.any)],[]⟩)])],[(1,3,8,⟨[(11,.any),(17,.d .bool)],[]⟩),(4,4,7,⟨[(27,.any),(31,.d .bool)],[]⟩),(8,4,7,⟨[(54,.any),(58,.d .bool)],[]⟩)],[]⟩ else if Nat.beq g 201 then U1 else U1,F,[]⟩
def w0y (F:Nat) (l:List U0) (steps:List Int) (d:(List Z2)×Int):Option (T0 ((List Z2)×Int) (List Z2)):=match d with
 | (out,x)=>if decide (x<(steps.length:Int)) then if y0 steps x then .bind (l05 F l (gt steps x)) fun step=>if C1 16 out step then some (.next (out++step,W (x+1))) else none else none else some (.done out)
def f0M (F:Nat) (l:List U0) (steps:List Int):Option (List Z2):=.bind (R7 F l) fun right=>if !right then some [] else .bind (α:=List Z2) ( iter (w0y F l steps) F ([],0)) fun out2=>some out2
def f01 (F:Nat):Sm en.D:=⟨147,[.d (.list (.st 0)),.d (.list (.int .i64))],.own 237 (.st 16),[],fun x=>f0M F x.1 x.2⟩
def q03 (F:Nat):=R0 [A7 F,k0b F] 147 ⟨[],[(5,⟨[(5,.own 237 (.st 16)),(13,.d (.int .i64))],[]⟩,[(.ex 0,⟨[(5,.own 237 (.st 16)),(13,.any)],[]⟩)])],[],[]⟩ F
def J0m (F:Nat) (l:List U0) (hops:List E1) (d:(List z05)×Int):Option (T0 ((List z05)×Int) (List z05)):=match d with
 | (out,x)=>if decide (x<(hops.length:Int)) then if y0 hops x then .bind (f0M F l ((gt hops x).Steps)) fun of=>if C1 64 out [(⟨gt hops x,of⟩:z05)] then some (.next (out++[(⟨gt hops x,of⟩:z05)],W (x+1))) else none else none else some (.done out)
def H0I (F:Nat) (l:List U0) (hops:List E1):Option (List z05):=.bind (α:=List z05) ( iter (J0m F l hops) F ([],0)) fun out2=>some out2
def L0b (F:Nat):Sm en.D:=⟨143,[.d (.list (.st 0)),.d (.list (.st 10))],.own 208 (.st 17),[],fun x=>H0I F x.1 x.2⟩
def X0x (F:Nat):=R0 [f01 F] 143 ⟨[],[(3,⟨[(5,.own 208 (.st 17)),(10,.d (.int .i64))],[]⟩,[(.ex 0,⟨[(5,.own 208 (.st 17)),(10,.any)],[]⟩)])],[],[]⟩ F
def s01 (F:Nat) (l:List U0) (d:Int×(List Int)):Option (T0 (Int×(List Int)) (List Int)):=match d with
 | (x,y)=>if decide (x<(l.length:Int)) then .bind (α:=List Int) ( if y0 l x then .bind (α:=List Int) ( if decide (((gt l x).A)>=0) then if y0 y ((gt l x).A) then some (y.set ((gt l x).A).toNat x) else none else some y) fun y2=>if decide (((gt l x).B)>=0) then if y0 y2 ((gt l x).B) then some (y2.set ((gt l x).B).toNat x) else none else some y2 else none) fun y3=>some (.next (W (x+1),y3)) else some (.done y)
def d0T (F:Nat) (l:List U0):Option (List Int):=.bind (R7 F l) fun right=>if !right then some [] else if S5 8 (l.length:Int) then if y0 (List.replicate (l.length:Int).toNat 0:List Int) (W ((l.length:Int)-1)) then let l2:=(List.replicate (l.length:Int).toNat 0:List Int).set (W ((l.length:Int)-1)).toNat (-1);
    .bind (α:=List Int) ( iter (s01 F l) F (0,l2)) fun y4=>some y4 else none else none
def b0Q (F:Nat):Sm en.D:=⟨193,[.d (.list (.st 0))],.own 3 (.int .i64),[],fun x=>d0T F x⟩
def q0J (F:Nat):=R0 [A7 F] 193 ⟨[(10,[(.nrm,⟨[],[(0,.own 3 (.int .i64))]⟩)]),(12,[(.nrm,⟨[],[(0,.own 3 (.int .i64))]⟩)])],[(6,⟨[(19,.d (.int .i64))],[(0,.own 3 (.int .i64))]⟩,[(.ex 0,⟨[(19,.any)],[(0,.own 3 (.int .i64))]⟩)])],[],[]⟩ F
def q0N (F:Nat) (up:List Int) (d:Int×(List Int)):Option (T0 (Int×(List Int)) (List Int)):=match d with
 | (i,y)=>if decide (i>=0) then .bind (α:=List Int) ( if y0 y i then if y0 up i then if decide ((gt up i)>=0) then if y0 (y.set i.toNat 1) i then if y0 up i then if y0 (y.set i.toNat 1) (gt up i) then let x:=W ((gt (y.set i.toNat 1) i)+(gt (y.set i.toNat 1) (gt up i)));
         if y0 (y.set i.toNat 1) i then some ((y.set i.toNat 1).set i.toNat x) else none else none else none else none else some (y.set i.toNat 1) else none else none) fun y2=>some (.next (W (i-1),y2)) else some (.done y)
def i0V (F:Nat) (l:List U0):Option (List Int):=.bind (d0T F l) fun up=>if S5 8 (up.length:Int) then .bind (α:=List Int) ( iter (q0N F up) F (W ((up.length:Int)-1),(List.replicate (up.length:Int).toNat 0:List Int))) fun y3=>some y3 else none
def f0j (F:Nat):Sm en.D:=⟨185,[.d (.list (.st 0))],.own 3 (.int .i64),[],fun x=>i0V F x⟩
def q0a (F:Nat):=R0 [b0Q F] 185 ⟨[(5,[(.nrm,⟨[],[(1,.own 3 (.int .i64))]⟩)])],[(4,⟨[(5,.d (.int .i64))],[(1,.own 3 (.int .i64))]⟩,[(.ex 0,⟨[(5,.any)],[(1,.own 3 (.int .i64))]⟩)])],[],[]⟩ F
def x0b (F:Nat) (x:Int) (d:Int×(List Int)):Option (T0 (Int×(List Int)) (List Int)):=match d with
 | (x2,y)=>if decide (x2<x) then if y0 y x2 then some (.next (W (x2+1),y.set x2.toNat (-1))) else none else some (.done y)
def w0J (F:Nat) (leaves:List Int) (d:Int×(List Int)):Option (T0 (Int×(List Int)) (List Int)):=match d with
 | (x3,y3)=>if decide (x3<(leaves.length:Int)) then if y0 leaves x3 then if y0 y3 (gt leaves x3) then some (.next (W (x3+1),y3.set (gt leaves x3).toNat x3)) else none else none else some (.done y3)
def l0A (F:Nat) (l:List U0):Option (List Int):=.bind (R7 F l) fun right=>if !right then some [] else if S5 8 (l.length:Int) then let x:=((List.replicate (l.length:Int).toNat 0:List Int).length:Int);
   .bind (α:=List Int) ( iter (x0b F x) F (0,(List.replicate (l.length:Int).toNat 0:List Int))) fun y2=>.bind (a0I F l) fun leaves=>.bind (α:=List Int) ( iter (w0J F leaves) F (0,y2)) fun y4=>some y4 else none
def g0Y (F:Nat):Sm en.D:=⟨194,[.d (.list (.st 0))],.own 3 (.int .i64),[],fun x=>l0A F x⟩
def w0o (F:Nat):=R0 [b0f F,A7 F] 194 ⟨[],[(10,⟨[(25,.d (.int .i64))],[(0,.own 3 (.int .i64))]⟩,[(.ex 2,⟨[(25,.any)],[(0,.own 3 (.int .i64))]⟩)]),(5,⟨[(15,.d (.int .i64))],[(0,.own 3 (.int .i64))]⟩,[(.ex 0,⟨[(15,.any)],[(0,.own 3 (.int .i64))]⟩)])],[],[]⟩ F
def t0q (F:Nat) (l:List U0) (d:Int×(List Bool)):Option (T0 (Int×(List Bool)) (List Bool)):=match d with
 | (x,y)=>if decide (x<(l.length:Int)) then .bind (α:=List Bool) ( if y0 l x then .bind (α:=Bool) ( if ((gt l x).Kind)==1 then some (((gt l x).Kind)==1) else if ((gt l x).Kind)==5 then some (((gt l x).Kind)==5) else some (((gt l x).Kind)==6)) fun x2=>if x2 then if y0 y x then some (y.set x.toNat true) else none else if ((gt l x).Kind)==3 then if y0 y ((gt l x).A) then .bind (α:=Bool) ( if gt y ((gt l x).A) then if y0 y ((gt l x).B) then some (gt y ((gt l x).B)) else none else some false) fun x3=>if y0 y x then some (y.set x.toNat x3) else none else none else if ((gt l x).Kind)==4 then if y0 y ((gt l x).A) then .bind (α:=Bool) ( if gt y ((gt l x).A) then some true else if y0 y ((gt l x).B) then some (gt y ((gt l x).B)) else none) fun x4=>if y0 y x then some (y.set x.toNat x4) else none else none else .bind (α:=Bool) ( if ((gt l x).Kind)==7 then some (((gt l x).Kind)==7) else some (((gt l x).Kind)==8)) fun x5=>if x5 then if y0 y ((gt l x).A) then if y0 y x then some (y.set x.toNat (gt y ((gt l x).A))) else none else none else some y else none) fun y2=>some (.next (W (x+1),y2)) else some (.done y)
def e0l (F:Nat) (l:List U0):Option (List Bool):=.bind (R7 F l) fun right=>if !right then some [] else if S5 1 (l.length:Int) then .bind (α:=List Bool) ( iter (t0q F l) F (0,(List.replicate (l.length:Int).toNat false:List Bool))) fun y3=>some y3 else none
def c0y (F:Nat):Sm en.D:=⟨195,[.d (.list (.st 0))],.own 4 .bool,[],fun x=>e0l F x⟩
def y0Y (F:Nat):=R0 [A7 F] 195 ⟨[(11,[(.nrm,⟨[(21,.d .bool)],[]⟩)]),(18,[(.nrm,⟨[(62,.d .bool)],[]⟩)]),(19,[(.nrm,⟨[],[(0,.own 4 .bool)]⟩)])],[(5,⟨[(14,.d (.int .i64))],[(0,.own 4 .bool)]⟩,[(.ex 0,⟨[(14,.any)],[(0,.own 4 .bool)]⟩)])],[(13,8,13,⟨[(37,.any),(43,.d .bool)],[]⟩),(15,8,13,⟨[(54,.any),(60,.d .bool)],[]⟩)],[]⟩ F
def i0z (F:Nat) (l:List U0):Option ((Unit ⊕ B5)×Bool):=.bind (R7 F l) fun right=>if !right then some ((.inl ()),false) else .bind (d0T F l) fun up=>.bind (i0V F l) fun deep=>.bind (l0A F l) fun index=>.bind (e0l F l) fun can=>some ((.inr (⟨l,up,deep,index,can⟩:B5)),true)
def f08 (F:Nat):Sm en.D:=⟨172,[.d (.list (.st 0))],.tup [.alt .nilp (.box 286 [.d (.st 31)]),.d .bool],[],fun x=>i0z F x⟩
def t0I (F:Nat):=R0 [A7 F,f0j F,b0Q F,g0Y F,c0y F] 172 U1 F
def y0S (F:Nat) (l:List E1) (d:Int×(List E1)):Option (T0 (Int×(List E1)) (List E1)):=match d with
 | (x,y)=>if decide (x<(l.length:Int)) then if y0 y x then if S5 8 (((gt y x).Steps).length:Int) then if y0 y x then let l2:=P2 (List.replicate (((gt y x).Steps).length:Int).toNat 0:List Int) ((gt y x).Steps);
     if y0 y x then some (.next (W (x+1),y.set x.toNat ({ gt y x with Steps:=l2 }))) else none else none else none else none else some (.done y)
def j0p (F:Nat) (l:List E1):Option (List E1):=.bind (α:=List E1) ( iter (y0S F l) F (0,l)) fun y2=>some y2
def g0u (F:Nat):Sm en.D:=⟨173,[.own 194 (.st 10)],.own 194 (.st 10),[],fun x=>j0p F x⟩
def v0X (F:Nat):=R0 [] 173 ⟨[],[(2,⟨[(7,.d (.int .i64))],[(0,.own 194 (.st 10))]⟩,[(.ex 0,⟨[(7,.any)],[(0,.own 194 (.st 10))]⟩)])],[],[]⟩ F
def a08 (F:Nat):Nat->(List U0)->(List Bool)->Int->(List Int)->Option (List Int)
 | 0,_,_,_,_=>none
 | n+1,l,can,q,out=>if C1 8 out [W (2*q)] then if y0 l q then .bind (α:=List Int) ( if ((gt l q).Kind)==3 then .bind (a08 F n l can ((gt l q).A) (out++[W (2*q)])) fun walk=>.bind (a08 F n l can ((gt l q).B) walk) fun walk2=>some walk2 else if ((gt l q).Kind)==4 then if y0 can ((gt l q).A) then if gt can ((gt l q).A) then .bind (a08 F n l can ((gt l q).A) (out++[W (2*q)])) fun walk3=>some walk3 else .bind (a08 F n l can ((gt l q).B) (out++[W (2*q)])) fun walk4=>some walk4 else none else .bind (α:=Bool) ( if ((gt l q).Kind)==7 then some (((gt l q).Kind)==7) else some (((gt l q).Kind)==8)) fun x=>if x then .bind (a08 F n l can ((gt l q).A) (out++[W (2*q)])) fun walk5=>some walk5 else some (out++[W (2*q)])) fun out2=>if C1 8 out2 [W ((W (2*q))+1)] then some (out2++[W ((W (2*q))+1)]) else none else none else none
def e0o (F n:Nat):Sm en.D:=⟨200,[.d (.list (.st 0)),.d (.list .bool),.d (.int .i64),.own 3 (.int .i64)],.own 3 (.int .i64),[],fun x=>a08 F n x.1 x.2.1 x.2.2.1 x.2.2.2⟩
def x0Z (F n:Nat):=R0 [e0o F n] 200 ⟨[(12,[(.nrm,⟨[(53,.d .bool)],[]⟩)]),(13,[(.nrm,⟨[(3,.own 3 (.int .i64))],[(2,.any)]⟩)])],[],[],[]⟩ F
def g0H (F:Nat) (l:List U0) (q:Int):Option (List Int):=.bind (e0l F l) fun can=>.bind (α:=Bool) ( if decide (q<0) then some true else some (decide (q>=(can.length:Int)))) fun x=>.bind (α:=Bool) ( if x then some true else if y0 can q then some (!(gt can q)) else none) fun x2=>if x2 then some [] else .bind (a08 F F l can q []) fun walk=>some walk
def c06 (F:Nat):Sm en.D:=⟨179,[.d (.list (.st 0)),.d (.int .i64)],.own 3 (.int .i64),[],fun x=>g0H F x.1 x.2⟩
def q0n (F:Nat):=R0 [c0y F,e0o F F] 179 ⟨[],[],[(2,3,7,⟨[(10,.any),(15,.d .bool)],[]⟩),(2,9,14,⟨[(16,.any),(22,.d .bool)],[]⟩)],[]⟩ F
def d0i (F:Nat) (a:List Int) (b:List Int):Option (List Int):=if decide ((a.length:Int)=(a.length:Int))&&(C3 a 0 (a.length:Int)&&(decide ((a.length:Int)<=(a.length:Int))&&decide ((a.length:Int)<=(a.length:Int)))) then if C1 8 (L1 a 0 (a.length:Int)) b then some ((L1 a 0 (a.length:Int))++b) else none else none
def e0R (F:Nat):Sm en.D:=⟨196,[.d (.list (.int .i64)),.d (.list (.int .i64))],.d (.list (.int .i64)),[],fun x=>d0i F x.1 x.2⟩
def q00 (F:Nat):=R0 [] 196 U1 F
def F9 (F:Nat):Nat->B5->Int->(List Int)->(List E1)->Option (List E1)
 | 0,_,_,_,_=>none
 | n+1,c,q,ahead,out=>if y0 c.l q then .bind (d0i F ahead [W (2*q)]) fun more=>.bind (α:=(List E1) ⊕ (List E1)) ( if ((gt c.l q).Kind)==2 then if y0 c.index q then if C1 40 out [(⟨gt c.index q,0,more⟩:E1)] then some (.inl (out++[(⟨gt c.index q,0,more⟩:E1)])) else none else none else if ((gt c.l q).Kind)==3 then .bind (F9 F n c ((gt c.l q).A) more out) fun b0r=>if y0 c.can ((gt c.l q).A) then if gt c.can ((gt c.l q).A) then .bind (g0H F c.l ((gt c.l q).A)) fun steps=>.bind (d0i F more steps) fun more2=>.bind (F9 F n c ((gt c.l q).B) more2 b0r) fun into2=>some (.inr into2) else some (.inr b0r) else none else if ((gt c.l q).Kind)==4 then .bind (F9 F n c ((gt c.l q).A) more out) fun into3=>.bind (F9 F n c ((gt c.l q).B) more into3) fun into4=>some (.inr into4) else .bind (α:=Bool) ( if ((gt c.l q).Kind)==5 then some (((gt c.l q).Kind)==5) else if ((gt c.l q).Kind)==6 then some (((gt c.l q).Kind)==6) else if ((gt c.l q).Kind)==7 then some (((gt c.l q).Kind)==7) else some (((gt c.l q).Kind)==8)) fun x=>if x then .bind (F9 F n c ((gt c.l q).A) more out) fun into5=>some (.inr into5) else some (.inr out)) fun z_=>match z_ with
  | .inl x2=>some x2
  | .inr out2=>some out2 else none
def d0a (F n:Nat):Sm en.D:=⟨174,[.d (.ptr (.st 31)),.d (.int .i64),.d (.list (.int .i64)),.own 194 (.st 10)],.own 194 (.st 10),[],fun x=>F9 F n x.1 x.2.1 x.2.2.1 x.2.2.2⟩
def u0d (F n:Nat):=R0 [d0a F n,c06 F,e0R F] 174 ⟨[(16,[(.nrm,⟨[(82,.d .bool)],[]⟩)]),(17,[(.ret,⟨[(8,.own 194 (.st 10))],[(0,.any)]⟩),(.nrm,⟨[(3,.own 194 (.st 10))],[(0,.any)]⟩)])],[],[],[]⟩ F
def o0v (F:Nat) (l:List U0) (q:Int):Option (List E1):=.bind (α:=(Unit ⊕ B5)×Bool) ( .bind (i0z F l) fun (of,of3)=>match of with
  | .inl _=>some ((.inl ()),of3)
  | .inr of2=>some ((.inr of2),of3)) fun (c,ok)=>match c with
 | .inl _=>.bind (α:=Bool) ( if !ok then some true else some (decide (q<0))) fun x3=>.bind (α:=Bool) ( if x3 then some true else some (decide (q>=(l.length:Int)))) fun x4=>if x4 then some [] else none
 | .inr c2=>.bind (α:=Bool) ( if !ok then some true else some (decide (q<0))) fun x=>.bind (α:=Bool) ( if x then some true else some (decide (q>=(l.length:Int)))) fun x2=>if x2 then some [] else .bind (F9 F F c2 q [] []) fun b0r=>.bind (j0p F b0r) fun own=>some own
def j0n (F:Nat):Sm en.D:=⟨144,[.d (.list (.st 0)),.d (.int .i64)],.own 194 (.st 10),[],fun x=>o0v F x.1 x.2⟩
def r0q (F:Nat):=R0 [f08 F,g0u F,d0a F F] 144 ⟨[(2,[(.nrm,⟨[(5,.alt .nilp (.box 286 [.d (.st 31)])),(6,.d .bool)],[]⟩)])],[],[(2,3,5,⟨[(14,.any),(17,.d .bool)],[]⟩),(2,7,11,⟨[(18,.any),(23,.d .bool)],[]⟩)],[]⟩ F
def h0N (F:Nat) (l:List U0) (p:Int):Option ((Unit ⊕ B5)×Int×Bool):=.bind (α:=(Unit ⊕ B5)×Bool) ( .bind (i0z F l) fun (of,of3)=>match of with
  | .inl _=>some ((.inl ()),of3)
  | .inr of2=>some ((.inr of2),of3)) fun (c,ok)=>match c with
 | .inl _=>if !ok then some ((.inl ()),0,false) else .bind (a0I F l) fun leaves2=>.bind (α:=Bool) ( if decide (p<0) then some true else some (decide (p>=(leaves2.length:Int)))) fun x2=>if x2 then some ((.inl ()),0,false) else if y0 leaves2 p then some ((.inl ()),gt leaves2 p,true) else none
 | .inr c2=>if !ok then some ((.inl ()),0,false) else .bind (a0I F l) fun leaves=>.bind (α:=Bool) ( if decide (p<0) then some true else some (decide (p>=(leaves.length:Int)))) fun x=>if x then some ((.inl ()),0,false) else if y0 leaves p then some ((.inr c2),gt leaves p,true) else none
def f02 (F:Nat):Sm en.D:=⟨175,[.d (.list (.st 0)),.d (.int .i64)],.tup [.alt .nilp (.box 286 [.d (.st 31)]),.d (.int .i64),.d .bool],[],fun x=>h0N F x.1 x.2⟩
def w0x (F:Nat):=R0 [b0f F,f08 F] 175 ⟨[(2,[(.nrm,⟨[(7,.alt .nilp (.box 286 [.d (.st 31)])),(8,.d .bool)],[]⟩)])],[],[(5,3,7,⟨[(21,.any),(26,.d .bool)],[]⟩)],[]⟩ F
def s0X (F:Nat) (b0r:List E1) (out2:List E1) (x:Int) (d:Int):Option (T0 Int (Int ⊕ Unit)):=match d with
 | x2=>if decide (x2<(out2.length:Int)) then if y0 out2 x2 then if ((gt out2 x2).To)==((gt b0r x).To) then some (.done (.inl x2)) else some (.next (W (x2+1))) else none else some (.done (.inr ()))
def q0Q (F:Nat) (c:B5) (at_:Int) (b0r:List E1) (d:(List E1)×Int):Option (T0 ((List E1)×Int) (List E1)):=match d with
 | (out2,x)=>if decide (x<(b0r.length:Int)) then .bind (α:=List E1) ( if y0 b0r x then .bind (α:=Bool) ( .bind (α:=Int ⊕ Unit) ( iter (s0X F b0r out2 x) F 0) fun z_=>match z_ with
     | .inl x3=>some (!(decide (x3>=0)))
     | .inr _=>some (!(decide ((-1)>=0)))) fun x2=>if x2 then if y0 c.deep at_ then if C1 40 out2 [(⟨(gt b0r x).To,gt c.deep at_,(gt b0r x).Steps⟩:E1)] then let l:=out2++[(⟨(gt b0r x).To,gt c.deep at_,(gt b0r x).Steps⟩:E1)];
       some l else none else none else some out2 else none) fun out3=>some (.next (out3,W (x+1))) else some (.done out2)
def h0E (F:Nat) (c:B5) (at_:Int) (goal:Int) (ahead:List Int) (out:List E1):Option (List E1):=.bind (F9 F F c goal ahead []) fun b0r=>.bind (α:=List E1) ( iter (q0Q F c at_ b0r) F (out,0)) fun out4=>some out4
def j0Z (F:Nat):Sm en.D:=⟨197,[.d (.ptr (.st 31)),.d (.int .i64),.d (.int .i64),.d (.list (.int .i64)),.own 194 (.st 10)],.own 194 (.st 10),[],fun x=>h0E F x.1 x.2.1 x.2.2.1 x.2.2.2.1 x.2.2.2.2⟩
def q0f (F:Nat):X1 en:=⟨[d0a F F],fun g=>if Nat.beq g 197 then ⟨[(5,[(.nrm,⟨[(25,.d .bool)],[]⟩)]),(7,[(.nrm,⟨[(4,.own 194 (.st 10))],[(2,.any)]⟩)])],[(2,⟨[(4,.own 194 (.st 10)),(18,.d (.int .i64))],[(0,.any)]⟩,[(.ex 0,⟨[(4,.own 194 (.st 10)),(18,.any)],[(0,.any)]⟩)])],[],[]⟩ else if Nat.beq g 205 then U1 else if Nat.beq g 206 then U1 else if Nat.beq g 220 then ⟨[],[(2,⟨[(8,.d (.int .i64))],[]⟩,[(.ret,⟨[(4,.d (.int .i64)),(8,.any)],[]⟩),(.ex 0,⟨[(8,.any)],[]⟩)])],[],[]⟩ else U1,F,[]⟩
def v0x (F:Nat) (c:B5) (d:Int×(List Int)×(List E1)×Int):Option (T0 (Int×(List Int)×(List E1)×Int) ((List E1) ⊕ ((List Int)×(List E1)))):=match d with
 | (q2,s,out,x)=>if decide (x>=0) then if y0 c.l x then .bind (α:=(List E1) ⊕ ((List Int)×(List E1))) ( .bind (α:=Bool) ( if ((gt c.l x).Kind)==3 then some (((gt c.l x).A)==q2) else some false) fun x2=>if x2 then .bind (h0E F c x ((gt c.l x).B) s out) fun turns=>if y0 c.can ((gt c.l x).B) then if !(gt c.can ((gt c.l x).B)) then some (.inl turns) else .bind (g0H F c.l ((gt c.l x).B)) fun steps=>.bind (d0i F s steps) fun more=>some (.inr (more,turns)) else none else if ((gt c.l x).Kind)==5 then .bind (h0E F c x ((gt c.l x).A) s out) fun turns2=>some (.inr (s,turns2)) else some (.inr (s,out))) fun z_=>match z_ with
   | .inl x3=>some (.done (.inl x3))
   | .inr (s2,out2)=>.bind (d0i F s2 [W ((W (2*x))+1)]) fun more2=>if y0 c.up x then some (.next (x,more2,out2,gt c.up x)) else none else none else some (.done (.inr (s,out)))
def k0q (F:Nat) (c:B5) (q:Int):Option ((List E1)×(List Int)):=if y0 c.up q then .bind (α:=(List E1) ⊕ ((List Int)×(List E1))) ( iter (v0x F c) F (q,[W ((W (2*q))+1)],[],gt c.up q)) fun z_=>match z_ with
  | .inl x4=>some (x4,[])
  | .inr (s3,out3)=>some (out3,s3) else none
def e0C (F:Nat):Sm en.D:=⟨176,[.d (.ptr (.st 31)),.d (.int .i64)],.tup [.own 194 (.st 10),.d (.list (.int .i64))],[],fun x=>k0q F x.1 x.2⟩
def q08 (F:Nat):=R0 [c06 F,e0R F,j0Z F] 176 ⟨[(14,[(.ret,⟨[(4,.own 194 (.st 10)),(5,.nil),(7,.any)],[(1,.any)]⟩),(.nrm,⟨[(6,.d (.list (.int .i64))),(7,.own 194 (.st 10))],[(1,.any)]⟩)])],[(4,⟨[(1,.d (.int .i64)),(6,.d (.list (.int .i64))),(7,.own 194 (.st 10)),(8,.d (.int .i64))],[(0,.any)]⟩,[(.ret,⟨[(1,.any),(4,.own 194 (.st 10)),(5,.nil),(6,.any),(7,.any),(8,.any)],[(0,.any)]⟩),(.ex 0,⟨[(1,.any),(6,.d (.list (.int .i64))),(7,.own 194 (.st 10)),(8,.any)],[(0,.any)]⟩)])],[(7,4,8,⟨[(42,.any),(47,.d .bool)],[]⟩)],[]⟩ F
def k0X (F:Nat) (s:List E1):Option (List E1):=if b07 (fun x:E1=>x.To) s then some (K5 (fun x:E1=>x.To) s) else none
def m0t (F:Nat):Sm en.D:=⟨177,[.own 194 (.st 10),.fn 178 []],.tup [],[(0,.own 194 (.st 10))],fun x=>k0X F x⟩
def o04 (F:Nat) (l:List U0) (p:Int):Option (List E1):=.bind (α:=(Unit ⊕ B5)×Int×Bool) ( .bind (h0N F l p) fun (at_,at_3,at_4)=>match at_ with
  | .inl _=>some ((.inl ()),at_3,at_4)
  | .inr at_2=>some ((.inr at_2),at_3,at_4)) fun (c,q,ok)=>match c with
 | .inl _=>if !ok then some [] else none
 | .inr c2=>if !ok then some [] else .bind (k0q F c2 q) fun (climb,climb2)=>.bind (k0X F climb) fun b0=>.bind (j0p F b0) fun own=>some own
def g0U (F:Nat):Sm en.D:=⟨145,[.d (.list (.st 0)),.d (.int .i64)],.own 194 (.st 10),[],fun x=>o04 F x.1 x.2⟩
def x0I (F:Nat):=R0 [g0u F,f02 F,e0C F,m0t F] 145 ⟨[(2,[(.nrm,⟨[(5,.alt .nilp (.box 286 [.d (.st 31)])),(6,.d (.int .i64)),(7,.d .bool)],[]⟩)])],[],[],[]⟩ F
def g0v (F:Nat) (l:List U0) (p:Int):Option (E1×Bool):=.bind (α:=List Int) ( if p==(-1) then .bind (g0H F l (W ((l.length:Int)-1))) fun steps=>some steps else .bind (α:=(Unit ⊕ B5)×Int×Bool) ( .bind (h0N F l p) fun (at_,at_3,at_4)=>match at_ with
    | .inl _=>some ((.inl ()),at_3,at_4)
    | .inr at_2=>some ((.inr at_2),at_3,at_4)) fun (c,q,ok)=>match c with
   | .inl _=>if ok then none else some []
   | .inr c2=>if ok then .bind (k0q F c2 q) fun (climb,climb2)=>some climb2 else some []) fun s=>if (s.length:Int)==0 then some ((⟨0,0,[]⟩:E1),false) else some ((⟨(-1),0,s⟩:E1),true)
def f06 (F:Nat):Sm en.D:=⟨146,[.d (.list (.st 0)),.d (.int .i64)],.tup [.d (.st 10),.d .bool],[],fun x=>g0v F x.1 x.2⟩
def w0A (F:Nat):=R0 [f02 F,e0C F,c06 F] 146 ⟨[(5,[(.nrm,⟨[(7,.alt .nilp (.box 286 [.d (.st 31)])),(8,.d (.int .i64)),(9,.d .bool)],[]⟩)]),(7,[(.nrm,⟨[(6,.d (.list (.int .i64)))],[]⟩)])],[],[],[]⟩ F
def G0W (F:Nat) (l:List U0) (leaves:List Int) (d:(Int×((List U0)×(List (List Int))×(List z05)×(List (List z05))×(List z05)×(List Bool)×Int×E1))):Option (T0 (Int×((List U0)×(List (List Int))×(List z05)×(List (List z05))×(List z05)×(List Bool)×Int×E1)) ((List U0)×(List (List Int))×(List z05)×(List (List z05))×(List z05)×(List Bool)×Int×E1)):=match d with
 | (x,(l2,sets,begin,roads,ends,can,tags2,ending))=>if decide (x<(leaves.length:Int)) then if y0 leaves x then if y0 l (gt leaves x) then if C1 32 sets [(gt l (gt leaves x)).Set] then .bind (o04 F l x) fun from_=>.bind (H0I F l from_) fun roadso2=>if C1 24 roads [roadso2] then .bind (g0v F l x) fun (end_,end_2)=>.bind (f0M F l end_.Steps) fun of=>if C1 64 ends [(⟨end_,of⟩:z05)] then if C1 1 can [end_2] then some (.next (W (x+1),(l2,sets++[(gt l (gt leaves x)).Set],begin,roads++[roadso2],ends++[(⟨end_,of⟩:z05)],can++[end_2],tags2,ending))) else none else none else none else none else none else none else some (.done (l2,sets,begin,roads,ends,can,tags2,ending))
def I0H (F:Nat) (l:List U0):Option D0S:=.bind (I0m F l) fun term=>.bind (o0v F l (W ((l.length:Int)-1))) fun first=>.bind (H0I F l first) fun roadso=>.bind (c08 F l) fun tags=>.bind (a0I F l) fun leaves=>.bind (α:=(List U0)×(List (List Int))×(List z05)×(List (List z05))×(List z05)×(List Bool)×Int×E1) ( iter (G0W F l leaves) F (0,(term,[],roadso,[],[],[],tags,(⟨0,0,[]⟩:E1)))) fun (l3,sets2,begin2,roads2,ends2,can2,tags3,ending2)=>.bind (g0v F l (-1)) fun (end_3,end_4)=>.bind (f0M F l end_3.Steps) fun of2=>some (⟨l3,sets2,begin2,roads2,ends2,can2,of2,end_4,tags3,end_3⟩:D0S)
def J0O (F:Nat):Sm en.D:=⟨106,[.d (.list (.st 0))],.box 196 [.d (.st 18)],[],fun x=>I0H F x⟩
def X0B (F:Nat):=R0 [c05 F,b0f F,M0s F,L0b F,j0n F,g0U F,f06 F,f01 F] 106 ⟨[],[(3,⟨[(24,.d (.int .i64))],[(0,.any),(2,.any),(3,.box 196 [.own 145 (.st 0),.own 143 (.arr 4 (.int .u64)),.own 208 (.st 17),.own 190 (.list (.st 17)),.own 208 (.st 17),.own 4 .bool,.nil,.kb false,.d (.int .i64),.d (.st 10)])]⟩,[(.ex 0,⟨[(24,.any)],[(0,.any),(2,.any),(3,.box 196 [.own 145 (.st 0),.own 143 (.arr 4 (.int .u64)),.own 208 (.st 17),.own 190 (.list (.st 17)),.own 208 (.st 17),.own 4 .bool,.nil,.kb false,.d (.int .i64),.d (.st 10)])]⟩)])],[],[]⟩ F
def H06 (F:Nat) (l:List U0):Option ((Unit ⊕ h0r)×Int):=.bind (R7 F l) fun right=>if !right then some ((.inl ()),11) else .bind (I0H F l) fun charto=>some ((.inr (⟨charto,0,0,[],[],(⟨[],[]⟩:P1)⟩:h0r)),0)
def J0N (F:Nat):Sm en.D:=⟨78,[.d (.list (.st 0))],.tup [.alt .nilp (.box 158 [.d (.st 19)]),.d (.int .i64)],[],fun x=>H06 F x⟩
def U0u (F:Nat):=R0 [A7 F,J0O F] 78 U1 F
def D0G (F:Nat) (s:List Int):Option (List Int):=if C1 8 ([]:List Int) s then some s else none
def F0X (F:Nat):Sm en.D:=⟨130,[.d (.list (.int .i64))],.own 3 (.int .i64),[],fun x=>D0G F x⟩
def N0L (F:Nat):X1 en:=⟨[],fun _=>⟨[],[],[],[4]⟩,F,[]⟩
def G4 (now none_:Int) (out:List Int) (m:Z2):List Int:=if m.Group<1\/((out.length:Int)-1) / 2<m.Group then out else if m.Kind=1 then out.set (2*m.Group-1).toNat now else if m.Kind=2 then out.set (2*m.Group).toNat now else if m.Kind=3 then (out.set (2*m.Group-1).toNat none_).set (2*m.Group).toNat none_ else out
def b0A (F:Nat) (tags:List Int) (marks:List Z2) (now none_:Int):Option (List Int):=if C1 8 ([]:List Int) tags&&decide (marks.length<=1000000000) then some (marks.foldl (G4 now none_) tags) else none
def e0k (F:Nat):Sm en.D:=⟨107,[.d (.list (.int .i64)),.d (.list (.st 16)),.d (.int .i64),.d (.int .i64)],.own 3 (.int .i64),[],fun x=>b0A F x.1 x.2.1 x.2.2.1 x.2.2.2⟩
def c03 (F:Nat) (x:Int) (y:Int):Option (Int×Int):=let x2:=IntKind.u64.wrap ((R1 .u64 x 4294967295)*(R1 .u64 y 4294967295));
 let x3:=IntKind.u64.wrap ((shr .u64 x 32)*(R1 .u64 y 4294967295));
 let x4:=R1 .u64 (IntKind.u64.wrap (x3+(shr .u64 x2 32))) 4294967295;
 let x5:=shr .u64 (IntKind.u64.wrap (x3+(shr .u64 x2 32))) 32;
 let x6:=IntKind.u64.wrap ((R1 .u64 x 4294967295)*(shr .u64 y 32));
 let x7:=IntKind.u64.wrap ((shr .u64 x 32)*(shr .u64 y 32));
 let x8:=IntKind.u64.wrap ((IntKind.u64.wrap (x7+x5))+(shr .u64 (IntKind.u64.wrap (x4+x6)) 32));
 some (x8,IntKind.u64.wrap (x*y))
def b0T (F:Nat) (x:Int) (y:Int):Option (Int×Int):=.bind (c03 F x y) fun (mul64,mul642)=>some (mul64,mul642)
def m00 (F:Nat) (s:List Int) (n:Int):Option (List Int):=e0w s n
def o0M (F:Nat):Sm en.D:=⟨181,[.d (.list (.int .i64)),.d (.int .i64)],.own 3 (.int .i64),[],fun x=>m00 F x.1 x.2⟩
def m0n (F:Nat) (n_:Int) (none_:Int):Option (List Int):=if decide (n_<1) then some [] else .bind (m00 F [none_] n_) fun repeat_=>some repeat_
def k0o (F:Nat):Sm en.D:=⟨149,[.d (.int .i64),.d (.int .i64)],.own 3 (.int .i64),[],fun x=>m0n F x.1 x.2⟩
def u0c (F:Nat):=R0 [o0M F] 149 U1 F
def F0t (F:Nat) (c:h0r):Option (List Int):=.bind (m0n F c.chart.tags (-1)) fun fresh=>if y0 fresh 0 then some (fresh.set (0:Int).toNat c.at_) else none
def J0s (F:Nat):Sm en.D:=⟨108,[.d (.ptr (.st 19))],.own 3 (.int .i64),[],fun x=>F0t F x⟩
def W0P (F:Nat):=R0 [k0o F] 108 U1 F
def H07 (F:Nat) (c:h0r):Option ((List Int)×Bool):=if !c.chart.null then some ([],false) else .bind (F0t F c) fun begun=>.bind (b0A F begun c.chart.none c.at_ (-1)) fun apply=>some (apply,true)
def M0h (F:Nat):Sm en.D:=⟨79,[.d (.ptr (.st 19))],.tup [.own 3 (.int .i64),.d .bool],[],fun x=>H07 F x⟩
def U03 (F:Nat):=R0 [e0k F,J0s F] 79 U1 F
def H0H (F:Nat) (l:List U0):Option ((Unit ⊕ (h0r×(List Int)×Int×Bool))×Int):=.bind (α:=(Unit ⊕ h0r)×Int) ( .bind (H06 F l) fun (new,new3)=>match new with
  | .inl _=>some ((.inl ()),new3)
  | .inr new2=>some ((.inr new2),new3)) fun (c,e)=>match c with
 | .inl _=>if e != 0 then some ((.inl ()),e) else none
 | .inr c2=>if e != 0 then some ((.inl ()),e) else .bind (H07 F c2) fun (empty,empty2)=>some ((.inr (c2,empty,0,empty2)),0)
def L0v (F:Nat):Sm en.D:=⟨42,[.d (.list (.st 0))],.tup [.alt .nilp (.box 109 [.box 158 [.d (.st 19)],.d (.list (.int .i64)),.d (.int .i64),.d .bool]),.d (.int .i64)],[],fun x=>H0H F x⟩
def U0b (F:Nat):=R0 [J0N F,M0h F] 42 ⟨[(2,[(.nrm,⟨[(4,.alt .nilp (.box 158 [.d (.st 19)])),(5,.d (.int .i64))],[]⟩)])],[],[],[]⟩ F
def H0o (F:Nat) (s:List (List Int)):Option (List (List Int)):=if C1 24 ([]:List (List Int)) s then some s else none
def N0s (F:Nat):Sm en.D:=⟨150,[.d (.list (.list (.int .i64)))],.own 23 (.list (.int .i64)),[],fun x=>H0o F x⟩
def M0S (F:Nat):X1 en:=⟨[],fun _=>⟨[],[],[],[4]⟩,F,[]⟩
def z0N (F:Nat) (l:List (List Int)) (n_:Int) (d:Int):Option (T0 Int (Unit ⊕ Unit)):=match d with
 | x=>if decide (x<(l.length:Int)) then if y0 l x then if ((gt l x).length:Int) != n_ then some (.done (.inl ())) else some (.next (W (x+1))) else none else some (.done (.inr ()))
def h0b (F:Nat) (l:List (List Int)) (n_:Int):Option Bool:=.bind (α:=Unit ⊕ Unit) ( iter (z0N F l n_) F 0) fun z_=>match z_ with
 | .inl _=>some false
 | .inr _=>some ((l.length:Int)==n_)
def k0j (F:Nat):Sm en.D:=⟨203,[.d (.list (.list (.int .i64))),.d (.int .i64)],.d .bool,[],fun x=>h0b F x.1 x.2⟩
def x08 (F:Nat):=R0 [] 203 ⟨[],[(2,⟨[(9,.d (.int .i64))],[]⟩,[(.ret,⟨[(4,.kb false),(9,.any)],[]⟩),(.ex 0,⟨[(9,.any)],[]⟩)])],[],[]⟩ F
def u0j (F:Nat) (x:P1) (n_:Int) (x3:Int) (d:Int):Option (T0 Int (Unit ⊕ Unit)):=match d with
 | x5=>if decide (x5<n_) then if y0 x.D x3 then if y0 (gt x.D x3) x5 then if y0 x.B x3 then if y0 (gt x.B x3) x5 then .bind (α:=Bool) ( if decide ((gt (gt x.B x3) x5)<0) then some true else .bind (α:=Bool) ( if x3 != x5 then if (gt (gt x.D x3) x5) != 1 then if (gt (gt x.D x3) x5) != (-1) then some true else if y0 x.D x5 then if y0 (gt x.D x5) x3 then let x6:=(gt (gt x.D x5) x3) != (W (0-(gt (gt x.D x3) x5)));
              some x6 else none else none else if y0 x.D x5 then if y0 (gt x.D x5) x3 then let x7:=(gt (gt x.D x5) x3) != (W (0-(gt (gt x.D x3) x5)));
             some x7 else none else none else some false) fun x8=>some x8) fun x9=>if x9 then some (.done (.inl ())) else some (.next (W (x5+1))) else none else none else none else none else some (.done (.inr ()))
def s02 (F:Nat) (x:P1) (n_:Int) (d:Int):Option (T0 Int (Unit ⊕ Unit)):=match d with
 | x3=>if decide (x3<n_) then if y0 x.B x3 then if y0 (gt x.B x3) x3 then .bind (α:=Bool) ( if (gt (gt x.B x3) x3) != 0 then some true else if y0 x.D x3 then if y0 (gt x.D x3) x3 then some ((gt (gt x.D x3) x3) != 0) else none else none) fun x4=>if x4 then some (.done (.inl ())) else .bind (α:=Unit ⊕ Unit) ( iter (u0j F x n_ x3) F 0) fun z_=>match z_ with
     | .inl _=>some (.done (.inl ()))
     | .inr _=>some (.next (W (x3+1))) else none else none else some (.done (.inr ()))
def i0G (F:Nat) (x:P1) (n_:Int):Option Bool:=.bind (h0b F x.B n_) fun square=>.bind (α:=Bool) ( if !square then some true else .bind (h0b F x.D n_) fun square2=>some (!square2)) fun x2=>if x2 then some false else .bind (α:=Unit ⊕ Unit) ( iter (s02 F x n_) F 0) fun z_=>match z_ with
  | .inl _=>some false
  | .inr _=>some true
def e0y (F:Nat):Sm en.D:=⟨182,[.d (.st 11),.d (.int .i64)],.d .bool,[],fun x=>i0G F x.1 x.2⟩
def w0Q (F:Nat):=R0 [k0j F] 182 ⟨[],[(4,⟨[(21,.d (.int .i64))],[]⟩,[(.ret,⟨[(4,.kb false),(21,.any)],[]⟩),(.ex 0,⟨[(21,.any)],[]⟩)]),(9,⟨[(45,.d (.int .i64))],[]⟩,[(.ret,⟨[(4,.kb false),(45,.any)],[]⟩),(.ex 2,⟨[(45,.any)],[]⟩)])],[(1,6,11,⟨[(13,.any),(19,.d .bool)],[]⟩),(6,10,19,⟨[(33,.any),(43,.d .bool)],[]⟩),(12,10,34,⟨[(65,.any),(90,.d .bool)],[]⟩),(12,14,33,⟨[(69,.any),(89,.d .bool)],[]⟩)],[]⟩ F
def c0K (F:Nat) (x:P1):Option Bool:=.bind (i0G F x (x.B.length:Int)) fun right=>some right
def b0W (F:Nat):Sm en.D:=⟨153,[.d (.st 11)],.d .bool,[],fun x=>c0K F x⟩
def z0F (F:Nat):=R0 [e0y F] 153 U1 F
def y0X (F:Nat) (n_:Int) (x:Int) (d:Int×(List (List Int))):Option (T0 (Int×(List (List Int))) (List (List Int))):=match d with
 | (x2,y)=>if decide (x2<x) then if S5 8 n_ then if y0 y x2 then let t:=y.set x2.toNat (List.replicate n_.toNat 0:List Int);
    some (.next (W (x2+1),t)) else none else none else some (.done y)
def c0x (F:Nat) (n_:Int):Option (List (List Int)):=if S5 24 n_ then let x:=((List.replicate n_.toNat []:List (List Int)).length:Int);
  .bind (α:=List (List Int)) ( iter (y0X F n_ x) F (0,(List.replicate n_.toNat []:List (List Int)))) fun y2=>some y2 else none
def g0g (F:Nat):Sm en.D:=⟨157,[.d (.int .i64)],.M0 23 [3] (.list (.int .i64)),[],fun x=>c0x F x⟩
def s0L (F:Nat):=R0 [] 157 ⟨[],[(3,⟨[(9,.d (.int .i64))],[(0,.M0 23 [3] (.list (.int .i64)))]⟩,[(.ex 0,⟨[(9,.any)],[(0,.M0 23 [3] (.list (.int .i64)))]⟩)])],[],[6]⟩ F
def q0h (F:Nat) (x:P1) (d:Int×(List (List Int))×(List (List Int))):Option (T0 (Int×(List (List Int))×(List (List Int))) ((List (List Int))×(List (List Int)))):=match d with
 | (x2,y,y2)=>if decide (x2<(x.B.length:Int)) then if y0 y x2 then if y0 x.B x2 then if y0 y2 x2 then if y0 x.D x2 then let t:=y2.set x2.toNat (P2 (gt y2 x2) (gt x.D x2));
      if y0 t x2 then if y0 t (x.B.length:Int) then if y0 (gt t x2) (x.B.length:Int) then let t2:=t.set x2.toNat ((gt t x2).set (x.B.length:Int).toNat 1);
         if y0 (gt t2 (x.B.length:Int)) x2 then let t3:=t2.set (x.B.length:Int).toNat ((gt t2 (x.B.length:Int)).set x2.toNat (-1));
          some (.next (W (x2+1),y.set x2.toNat (P2 (gt y x2) (gt x.B x2)),t3)) else none else none else none else none else none else none else none else none else some (.done (y,y2))
def m0W (F:Nat) (x:P1):Option P1:=.bind (c0K F x) fun right=>if !right then some (⟨[],[]⟩:P1) else .bind (c0x F (W ((x.B.length:Int)+1))) fun table=>.bind (c0x F (W ((x.B.length:Int)+1))) fun table2=>.bind (α:=(List (List Int))×(List (List Int))) ( iter (q0h F x) F (0,table,table2)) fun (y3,y4)=>some (⟨y3,y4⟩:P1)
def j0U (F:Nat):Sm en.D:=⟨151,[.d (.st 11)],.d (.st 11),[],fun x=>m0W F x⟩
def x0l (F:Nat):=R0 [b0W F,g0g F] 151 ⟨[],[(6,⟨[(21,.d (.int .i64))],[(2,.M0 23 [3] (.list (.int .i64))),(3,.M0 23 [3] (.list (.int .i64)))]⟩,[(.ex 0,⟨[(21,.any)],[(2,.M0 23 [3] (.list (.int .i64))),(3,.M0 23 [3] (.list (.int .i64)))]⟩)])],[],[]⟩ F
def G0l (F:Nat) (c:h0r) (d:(Int×((List (List Int))×(List (List z05))×P1))):Option (T0 (Int×((List (List Int))×(List (List z05))×P1)) ((List (List Int))×(List (List z05))×P1)):=match d with
 | (x,(values2,roads,rank2))=>if decide (x<(c.places.length:Int)) then if y0 c.places x then if y0 c.chart.roads (gt c.places x) then if C1 24 roads [gt c.chart.roads (gt c.places x)] then some (.next (W (x+1),(values2,roads++[gt c.chart.roads (gt c.places x)],rank2))) else none else none else none else some (.done (values2,roads,rank2))
def F0p (F:Nat) (c:h0r) (begin:Bool):Option (C08×h0r):=.bind (α:=(List (List Int))×P1) ( same ( .bind (H0o F c.values) fun clone=>some (clone,c.rank)) ( .bind (H0o F c.values) fun clone2=>some (clone2,c.rank))) fun (values,rank)=>.bind (α:=(List (List Int))×(List (List z05))×P1) ( iter (G0l F c) F (0,(values,[],rank))) fun (values3,roads2,rank3)=>.bind (α:=(List (List Int))×(List (List z05))×P1) ( if begin then .bind (F0t F c) fun begun=>if C1 24 values3 [begun] then if C1 24 roads2 [c.chart.begin] then .bind (m0W F c.rank) fun with_=>some (values3++[begun],roads2++[c.chart.begin],with_) else none else none else some (values3,roads2,rank3)) fun (values4,roads3,rank4)=>some ((⟨values4,roads3,rank4⟩:C08),c)
def L0R (F:Nat):Sm en.D:=⟨109,[.box 158 [.d (.st 19)],.d .bool],.d (.st 28),[(0,.box 158 [.d (.st 19)])],fun x=>F0p F x.1 x.2⟩
def Q0g (F:Nat):=R0 [J0s F,N0s F,j0U F] 109 ⟨[(11,[(.nrm,⟨[],[(3,.box 200 [.own 23 (.list (.int .i64)),.own 190 (.list (.st 17)),.d (.st 11)]),(4,.any),(5,.any)]⟩)])],[(3,⟨[(23,.d (.int .i64))],[(2,.any),(3,.box 200 [.own 23 (.list (.int .i64)),.own 190 (.list (.st 17)),.d (.st 11)])]⟩,[(.ex 0,⟨[(23,.any)],[(2,.any),(3,.box 200 [.own 23 (.list (.int .i64)),.own 190 (.list (.st 17)),.d (.st 11)])]⟩)])],[(1,1000004,11,⟨[(5,.box 200 [.own 23 (.list (.int .i64)),.nil,.d (.st 11)])],[]⟩)],[]⟩ F
def d0G (F:Nat) (s:List Int) (b:Int):Option Bool:=if decide (0<=IntKind.u8.wrap (b.tdiv 64))&&decide (IntKind.u8.wrap (b.tdiv 64)<4) then if !decide (b.tmod 64<0) then let x:=R1 .u64 (gt s (IntKind.u8.wrap (b.tdiv 64))) (shl .u64 1 (b.tmod 64));
   some (x != 0) else none else none
def a0l (F:Nat):Sm en.D:=⟨152,[.d (.arr 4 (.int .u64)),.d (.int .u8)],.d .bool,[],fun x=>d0G F x.1 x.2⟩
def q02 (F:Nat):=R0 [] 152 U1 F
def G0G (F:Nat) (c:h0r) (g:C08) (b:Int) (x:Int) (d:Int×(List C0G)):Option (T0 (Int×(List C0G)) (List C0G)):=match d with
 | (x2,y2)=>if decide (x2<((gt g.roads x).length:Int)) then .bind (α:=List C0G) ( if y0 (gt g.roads x) x2 then if y0 c.chart.sets (((gt (gt g.roads x) x2).Hop).To) then let x3:=gtZ 4 c.chart.sets (((gt (gt g.roads x) x2).Hop).To);
     .bind (d0G F x3 b) fun has=>if has then if y0 y2 (((gt (gt g.roads x) x2).Hop).To) then if C1 8 ((gt y2 (((gt (gt g.roads x) x2).Hop).To)).from_) [x] then let l:=((gt y2 (((gt (gt g.roads x) x2).Hop).To)).from_)++[x];
        if decide (((gt (gt g.roads x) x2).Hop).To=((gt (gt g.roads x) x2).Hop).To) then let t:=y2.set (((gt (gt g.roads x) x2).Hop).To).toNat ({ gt y2 (((gt (gt g.roads x) x2).Hop).To) with from_:=l });
         if C1 64 ((gt t (((gt (gt g.roads x) x2).Hop).To)).roads) [gt (gt g.roads x) x2] then let l2:=((gt t (((gt (gt g.roads x) x2).Hop).To)).roads)++[gt (gt g.roads x) x2];
          if decide (((gt (gt g.roads x) x2).Hop).To=((gt (gt g.roads x) x2).Hop).To) then let t2:=t.set (((gt (gt g.roads x) x2).Hop).To).toNat ({ gt t (((gt (gt g.roads x) x2).Hop).To) with roads:=l2 });
           if C1 40 ((gt t2 (((gt (gt g.roads x) x2).Hop).To)).hops) [(gt (gt g.roads x) x2).Hop] then let l3:=((gt t2 (((gt (gt g.roads x) x2).Hop).To)).hops)++[(gt (gt g.roads x) x2).Hop];
            if decide (((gt (gt g.roads x) x2).Hop).To=((gt (gt g.roads x) x2).Hop).To) then let t3:=t2.set (((gt (gt g.roads x) x2).Hop).To).toNat ({ gt t2 (((gt (gt g.roads x) x2).Hop).To) with hops:=l3 });
             some t3 else none else none else none else none else none else none else none else some y2 else none else none) fun y3=>some (.next (W (x2+1),y3)) else some (.done y2)
def H0F (F:Nat) (c:h0r) (g:C08) (b:Int) (d:Int×(List C0G)):Option (T0 (Int×(List C0G)) (List C0G)):=match d with
 | (x,y)=>if decide (x<(g.roads.length:Int)) then if y0 g.roads x then .bind (α:=List C0G) ( iter (G0G F c g b x) F (0,y)) fun y4=>some (.next (W (x+1),y4)) else none else some (.done y)
def G0R (F:Nat) (c:h0r) (g:C08) (b:Int):Option ((List C0G)×h0r):=if S5 72 (c.chart.sets.length:Int) then .bind (α:=List C0G) ( iter (H0F F c g b) F (0,(List.replicate (c.chart.sets.length:Int).toNat (⟨[],[],[]⟩:C0G):List C0G))) fun y5=>some (y5,c) else none
def J0I (F:Nat):Sm en.D:=⟨110,[.box 158 [.d (.st 19)],.d (.st 28),.d (.int .u8)],.d (.list (.st 29)),[(0,.box 158 [.d (.st 19)])],fun x=>G0R F x.1 x.2.1 x.2.2⟩
def S0o (F:Nat):X1 en:=⟨[a0l F],fun g=>if Nat.beq g 110 then ⟨[(10,[(.nrm,⟨[],[(2,.M0 203 [3,208,194] (.st 29))]⟩)])],[(3,⟨[(24,.d (.int .i64))],[(2,.M0 203 [3,208,194] (.st 29))]⟩,[(.ex 0,⟨[(24,.any)],[(2,.M0 203 [3,208,194] (.st 29))]⟩)]),(6,⟨[(31,.d (.int .i64))],[(2,.M0 203 [3,208,194] (.st 29))]⟩,[(.ex 2,⟨[(31,.any)],[(2,.M0 203 [3,208,194] (.st 29))]⟩)])],[],[20]⟩ else if Nat.beq g 112 then U1 else U1,F,[]⟩
def f0H (F:Nat) (x:P1) (i:Int):Option Bool:=.bind (α:=Bool) ( if decide (i>=0) then some (decide (i<(x.B.length:Int))) else some false) fun x2=>some x2
def c0W (F:Nat):Sm en.D:=⟨154,[.d (.st 11),.d (.int .i64)],.d .bool,[],fun x=>f0H F x.1 x.2⟩
def q0U (F:Nat):=R0 [] 154 ⟨[],[],[(1,3,8,⟨[(7,.any),(13,.d .bool)],[]⟩)],[]⟩ F
def d0A (F:Nat) (g:k7) (i:Int) (k:Int):Option Int:=if y0 g.from_ i then if y0 g.Rank.B (gt g.from_ i) then if y0 g.from_ k then if y0 (gt g.Rank.B (gt g.from_ i)) (gt g.from_ k) then let x:=gt (gt g.Rank.B (gt g.from_ i)) (gt g.from_ k);
     if y0 g.hops i then let x2:=if (W (((gt g.hops i).Turn)+1))<x then W (((gt g.hops i).Turn)+1) else x;
      some x2 else none else none else none else none else none
def e02 (F:Nat):Sm en.D:=⟨159,[.d (.st 30),.d (.int .i64),.d (.int .i64)],.d (.int .i64),[],fun x=>d0A F x.1 x.2.1 x.2.2⟩
def q0V (F:Nat):=R0 [] 159 U1 F
def j0s (F:Nat) (g:k7) (i:Int) (k:Int):Option Int:=.bind (d0A F g i k) fun low=>.bind (d0A F g k i) fun low2=>if decide (low>low2) then some 1 else if decide (low<low2) then some (-1) else if y0 g.from_ i then if y0 g.Rank.D (gt g.from_ i) then if y0 g.from_ k then if y0 (gt g.Rank.D (gt g.from_ i)) (gt g.from_ k) then let x:=gt (gt g.Rank.D (gt g.from_ i)) (gt g.from_ k);
       some x else none else none else none else none
def f00 (F:Nat):Sm en.D:=⟨155,[.d (.st 30),.d (.int .i64),.d (.int .i64)],.d (.int .i64),[],fun x=>j0s F x.1 x.2.1 x.2.2⟩
def p07 (F:Nat):=R0 [e02 F] 155 U1 F
def s0o (F:Nat) (x:P1) (from_:List Int) (hops:List E1) (x2:Int) (d:Int×Int):Option (T0 (Int×Int) Int):=match d with
 | (c0U,x3)=>if decide (x3<x2) then .bind (α:=Int) ( if y0 from_ x3 then .bind (f0H F x (gt from_ x3)) fun has=>.bind (α:=Bool) ( if has then .bind (α:=Bool) ( if decide (c0U<0) then some true else .bind (j0s F (⟨x,from_,hops⟩:k7) x3 c0U) fun ahead=>some (decide (ahead>0))) fun x4=>some x4 else some false) fun x5=>if x5 then some x3 else some c0U else none) fun best2=>some (.next (best2,W (x3+1))) else some (.done c0U)
def l0s (F:Nat) (x:P1) (from_:List Int) (hops:List E1):Option Int:=.bind (c0K F x) fun right=>if !right then some (-1) else let x2:=if (hops.length:Int)<(from_.length:Int) then (hops.length:Int) else (from_.length:Int);
  .bind (α:=Int) ( iter (s0o F x from_ hops x2) F ((-1),0)) fun best3=>some best3
def j0t (F:Nat):Sm en.D:=⟨111,[.d (.st 11),.d (.list (.int .i64)),.d (.list (.st 10))],.d (.int .i64),[],fun x=>l0s F x.1 x.2.1 x.2.2⟩
def w0u (F:Nat):=R0 [b0W F,c0W F,f00 F] 111 ⟨[(10,[(.nrm,⟨[(7,.d (.int .i64))],[]⟩)])],[(6,⟨[(7,.d (.int .i64)),(23,.d (.int .i64))],[]⟩,[(.ex 0,⟨[(7,.d (.int .i64)),(23,.any)],[]⟩)])],[(8,7,16,⟨[(32,.any),(42,.d .bool)],[]⟩),(8,10,15,⟨[(35,.any),(41,.d .bool)],[]⟩)],[]⟩ F
def J9 (up low:List Int) (b:Int) (q:Int):Option (T0 Int Int):=if decide (0<=q) then if y0 low q&&(decide (gt low q<=b)&&decide (b<=q)) then some (.done q) else if y0 low q&&y0 up q then some (.next (gt up q)) else none else some (.done (-1))
def g0A (F:Nat) (l:List U0) (a b:Int):Option Int:=.bind (d0T F l) fun up=>if decide (a<0)||(decide (b<0)||(decide (a>=(up.length:Int))||decide (b>=(up.length:Int)))) then some (-1) else .bind (b0e F l) fun low=>iter (J9 up low b) F a
def k0t (F:Nat):Sm en.D:=⟨184,[.d (.list (.st 0)),.d (.int .i64),.d (.int .i64)],.d (.int .i64),[],fun x=>g0A F x.1 x.2.1 x.2.2⟩
def g0Z (F:Nat):Nat->(List U0)->E1->E1->Option (Int×Int×Int)
 | 0,_,_,_=>none
 | n+1,l,x,y=>.bind (a0I F l) fun leaves=>.bind (α:=Bool) ( if decide (x.To>=0) then some (decide (x.To<(leaves.length:Int))) else some false) fun x2=>.bind (α:=Bool) ( if !x2 then some true else .bind (α:=Bool) ( if decide (y.To>=0) then some (decide (y.To<(leaves.length:Int))) else some false) fun x3=>some (!x3)) fun x4=>.bind (α:=Bool) ( if x4 then some true else some (x.To==y.To)) fun x5=>if x5 then some (0,0,0) else if decide (x.Turn>y.Turn) then some (W (x.Turn+1),W (y.Turn+1),1) else if decide (x.Turn<y.Turn) then some (W (x.Turn+1),W (y.Turn+1),(-1)) else if decide (x.To>y.To) then .bind (g0Z F n l y x) fun (fork,fork2,fork3)=>some (fork2,fork,(-1)) else if y0 leaves x.To then if y0 leaves y.To then .bind (g0A F l (gt leaves x.To) (gt leaves y.To)) fun join=>.bind (i0V F l) fun deep=>if y0 deep join then if y0 l join then if ((gt l join).Kind)==3 then some (W ((W ((gt deep join)+1))+1),W ((gt deep join)+1),1) else some (W ((gt deep join)+1),W ((gt deep join)+1),1) else none else none else none else none
def f04 (F n:Nat):Sm en.D:=⟨158,[.d (.list (.st 0)),.d (.st 10),.d (.st 10)],.tup [.d (.int .i64),.d (.int .i64),.d (.int .i64)],[],fun x=>g0Z F n x.1 x.2.1 x.2.2⟩
def u0y (F n:Nat):X1 en:=⟨[b0f F,f04 F n,k0t F,f0j F],fun g=>if Nat.beq g 158 then ⟨[],[],[(3,5,9,⟨[(24,.any),(29,.d .bool)],[]⟩),(3,11,16,⟨[(30,.any),(36,.d .bool)],[]⟩)],[]⟩ else if Nat.beq g 183 then ⟨[],[],[(1,4,9,⟨[(7,.any),(13,.d .bool)],[]⟩)],[]⟩ else U1,F,[]⟩
def w0f (F:Nat) (x:P1) (from_:List Int) (d:Int):Option (T0 Int (Int ⊕ Unit)):=match d with
 | x3=>if decide (x3<(from_.length:Int)) then if y0 from_ x3 then .bind (f0H F x (gt from_ x3)) fun has=>if !has then some (.done (.inl x3)) else some (.next (W (x3+1))) else none else some (.done (.inr ()))
def s0s (F:Nat) (l:List U0) (x:P1) (from_:List Int) (hops:List E1) (x4:Int) (d:Int×(List (List Int))×(List (List Int))):Option (T0 (Int×(List (List Int))×(List (List Int))) ((List (List Int))×(List (List Int)))):=match d with
 | (x5,y3,y4)=>if decide (x5<x4) then .bind (α:=(List (List Int))×(List (List Int))) ( if y0 from_ x4 then if y0 from_ x5 then if (gt from_ x4)==(gt from_ x5) then if y0 y3 x4 then if y0 y3 x5 then if y0 y4 x4 then if y0 hops x4 then if y0 hops x5 then .bind (g0Z F F l (gt hops x4) (gt hops x5)) fun (fork,fork2,fork3)=>if y0 (gt y3 x4) x5 then let t:=y3.set x4.toNat ((gt y3 x4).set x5.toNat fork);
            if y0 (gt t x5) x4 then if y0 (gt y4 x4) x5 then let t2:=y4.set x4.toNat ((gt y4 x4).set x5.toNat fork3);
              some (t.set x5.toNat ((gt t x5).set x4.toNat fork2),t2) else none else none else none else none else none else none else none else none else if y0 y3 x4 then if y0 y3 x5 then if y0 y4 x4 then .bind (d0A F (⟨x,from_,hops⟩:k7) x4 x5) fun low=>.bind (d0A F (⟨x,from_,hops⟩:k7) x5 x4) fun low2=>.bind (j0s F (⟨x,from_,hops⟩:k7) x4 x5) fun ahead=>if y0 (gt y3 x4) x5 then if y0 (gt (y3.set x4.toNat ((gt y3 x4).set x5.toNat low)) x5) x4 then let t3:=(y3.set x4.toNat ((gt y3 x4).set x5.toNat low)).set x5.toNat ((gt (y3.set x4.toNat ((gt y3 x4).set x5.toNat low)) x5).set x4.toNat low2);
           if y0 (gt y4 x4) x5 then let t4:=y4.set x4.toNat ((gt y4 x4).set x5.toNat ahead);
            some (t3,t4) else none else none else none else none else none else none else none else none) fun (y5,y6)=>if y0 y6 x5 then if y0 y6 x4 then if y0 (gt y6 x4) x5 then if y0 (gt y6 x5) x4 then let t5:=y6.set x5.toNat ((gt y6 x5).set x4.toNat (W (0-(gt (gt y6 x4) x5))));
      some (.next (W (x5+1),y5,t5)) else none else none else none else none else some (.done (y3,y4))
def x04 (F:Nat) (l:List U0) (x:P1) (from_:List Int) (hops:List E1) (d:Int×(List (List Int))×(List (List Int))):Option (T0 (Int×(List (List Int))×(List (List Int))) ((List (List Int))×(List (List Int)))):=match d with
 | (x4,y,y2)=>if decide (x4<(from_.length:Int)) then .bind (α:=(List (List Int))×(List (List Int))) ( iter (s0s F l x from_ hops x4) F (0,y,y2)) fun (y7,y8)=>some (.next (W (x4+1),y7,y8)) else some (.done (y,y2))
def m0B (F:Nat) (l:List U0) (x:P1) (from_:List Int) (hops:List E1):Option P1:=.bind (c0K F x) fun right=>.bind (α:=Bool) ( if !right then some true else some ((from_.length:Int) != (hops.length:Int))) fun x2=>.bind (α:=Bool) ( if x2 then some true else .bind (α:=Int ⊕ Unit) ( iter (w0f F x from_) F 0) fun z_=>match z_ with
   | .inl x4=>some (decide (x4>=0))
   | .inr _=>some (decide ((-1)>=0))) fun x3=>if x3 then some (⟨[],[]⟩:P1) else .bind (c0x F (from_.length:Int)) fun table=>.bind (c0x F (from_.length:Int)) fun table2=>.bind (α:=(List (List Int))×(List (List Int))) ( iter (x04 F l x from_ hops) F (0,table,table2)) fun (y9,y10)=>some (⟨y9,y10⟩:P1)
def i0p (F:Nat):Sm en.D:=⟨113,[.d (.list (.st 0)),.d (.st 11),.d (.list (.int .i64)),.d (.list (.st 10))],.d (.st 11),[],fun x=>m0B F x.1 x.2.1 x.2.2.1 x.2.2.2⟩
def y0T (F:Nat):X1 en:=⟨[b0W F,c0W F,f00 F,g0g F,f04 F F,e02 F],fun g=>if Nat.beq g 113 then ⟨[(14,[(.nrm,⟨[],[(3,.M0 23 [3] (.list (.int .i64))),(4,.M0 23 [3] (.list (.int .i64)))]⟩)])],[(6,⟨[(42,.d (.int .i64))],[(3,.M0 23 [3] (.list (.int .i64))),(4,.M0 23 [3] (.list (.int .i64)))]⟩,[(.ex 0,⟨[(42,.any)],[(3,.M0 23 [3] (.list (.int .i64))),(4,.M0 23 [3] (.list (.int .i64)))]⟩)]),(9,⟨[(46,.d (.int .i64))],[(3,.M0 23 [3] (.list (.int .i64))),(4,.M0 23 [3] (.list (.int .i64)))]⟩,[(.ex 2,⟨[(46,.any)],[(3,.M0 23 [3] (.list (.int .i64))),(4,.M0 23 [3] (.list (.int .i64)))]⟩)])],[(1,4,9,⟨[(16,.any),(22,.d .bool)],[]⟩),(1,11,14,⟨[(23,.any),(27,.d .bool)],[]⟩)],[]⟩ else if Nat.beq g 74 then U1 else if Nat.beq g 102 then ⟨[],[(2,⟨[(8,.d (.int .i64))],[]⟩,[(.ret,⟨[(4,.d (.int .i64)),(8,.any)],[]⟩),(.ex 0,⟨[(8,.any)],[]⟩)])],[],[]⟩ else if Nat.beq g 156 then U1 else U1,F,[]⟩
def E00 (F:Nat) (goers:C08) (to:List C0G) (d:(List Int)×(List (List Int))×Int×h0r×((List Int)×(List z05)×(List E1))):Option (T0 ((List Int)×(List (List Int))×Int×h0r×((List Int)×(List z05)×(List E1))) ((List Int)×(List (List Int))×h0r×((List Int)×(List z05)×(List E1)))):=match d with
 | (places,values,x,y,(from_,roads,hops))=>if decide (x<(to.length:Int)) then .bind (α:=(List Int)×(List (List Int))×h0r×((List Int)×(List z05)×(List E1))) ( if y0 to x then .bind (l0s F goers.rank ((gt to x).from_) ((gt to x).hops)) fun pick=>if decide (pick<0) then some (places,values,(⟨y.chart,y.at_,W (y.work+(((gt to x).from_).length:Int)),y.places,y.values,y.rank⟩:h0r),(from_,roads,hops)) else if C1 8 places [x] then if y0 ((gt to x).from_) pick then if y0 goers.values (gt ((gt to x).from_) pick) then if y0 ((gt to x).roads) pick then .bind (b0A F (gt goers.values (gt ((gt to x).from_) pick)) ((gt ((gt to x).roads) pick).marks) y.at_ (-1)) fun apply=>if C1 24 values [apply] then if y0 ((gt to x).from_) pick then if y0 ((gt to x).roads) pick then if C1 8 from_ [gt ((gt to x).from_) pick] then if C1 64 roads [gt ((gt to x).roads) pick] then if C1 40 hops [(gt ((gt to x).roads) pick).Hop] then some (places++[x],values++[apply],(⟨y.chart,y.at_,W (y.work+(((gt to x).from_).length:Int)),y.places,y.values,y.rank⟩:h0r),(from_++[gt ((gt to x).from_) pick],roads++[gt ((gt to x).roads) pick],hops++[(gt ((gt to x).roads) pick).Hop])) else none else none else none else none else none else none else none else none else none else none else none) fun (places2,values2,y2,(from_2,roads2,hops2))=>some (.next (places2,values2,W (x+1),y2,(from_2,roads2,hops2))) else some (.done (places,values,y,(from_,roads,hops)))
def E0Z (F:Nat) (c:h0r) (b:Int) (begin:Bool):Option h0r:=.bind (F0p F c begin) fun (goers,b0)=>.bind (G0R F b0 goers b) fun (to,b02)=>.bind (α:=(List Int)×(List (List Int))×h0r×((List Int)×(List z05)×(List E1))) ( iter (E00 F goers to) F ([],[],0,b02,([],[],[]))) fun (places3,values3,y3,(from_3,roads3,hops3))=>.bind (m0B F y3.chart.l goers.rank from_3 hops3) fun next_=>let x2:=W ((places3.length:Int)*(places3.length:Int));
 let x3:=W ((W ((places3.length:Int)*y3.chart.tags))+x2);
 some (⟨y3.chart,W (y3.at_+1),W (y3.work+x3),places3,values3,next_⟩:h0r)
def K0p (F:Nat):Sm en.D:=⟨80,[.box 158 [.d (.st 19)],.d (.int .u8),.d .bool],.tup [],[(0,.box 158 [.d (.st 19)])],fun x=>E0Z F x.1 x.2.1 x.2.2⟩
def R0s (F:Nat):X1 en:=⟨[e0k F,L0R F,J0I F,j0t F,i0p F],fun g=>if Nat.beq g 80 then ⟨[(13,[(.nrm,⟨[(7,.own 3 (.int .i64)),(8,.own 23 (.list (.int .i64)))],[(0,.box 158 [.d (.st 19)]),(3,.box 203 [.own 3 (.int .i64),.own 208 (.st 17),.own 194 (.st 10)]),(5,.any),(6,.any),(8,.any),(9,.any),(10,.any)]⟩)])],[(5,⟨[(7,.own 3 (.int .i64)),(8,.own 23 (.list (.int .i64))),(21,.d (.int .i64))],[(0,.box 158 [.d (.st 19)]),(3,.box 203 [.own 3 (.int .i64),.own 208 (.st 17),.own 194 (.st 10)])]⟩,[(.ex 0,⟨[(7,.own 3 (.int .i64)),(8,.own 23 (.list (.int .i64))),(21,.any)],[(0,.box 158 [.d (.st 19)]),(3,.box 203 [.own 3 (.int .i64),.own 208 (.st 17),.own 194 (.st 10)])]⟩)])],[],[]⟩ else if Nat.beq g 112 then U1 else U1,F,[]⟩
def E0T (F:Nat) (c:h0r):Option Int:=some c.at_
def L0J (F:Nat):Sm en.D:=⟨81,[.d (.ptr (.st 19))],.d (.int .i64),[],fun x=>E0T F x⟩
def T0h (F:Nat):=R0 [] 81 U1 F
def y0b (F:Nat) (x:P1) (of:List Int) (d:Int×Int):Option (T0 (Int×Int) Int):=match d with
 | (c0U,x2)=>if decide (x2<(of.length:Int)) then .bind (α:=Int) ( if y0 of x2 then .bind (f0H F x (gt of x2)) fun has=>.bind (α:=Bool) ( if has then .bind (α:=Bool) ( if decide (c0U<0) then some true else if y0 x.D (gt of x2) then if y0 (gt x.D (gt of x2)) c0U then some (decide ((gt (gt x.D (gt of x2)) c0U)>0)) else none else none) fun x3=>some x3 else some false) fun x4=>if x4 then some (gt of x2) else some c0U else none) fun best2=>some (.next (best2,W (x2+1))) else some (.done c0U)
def o0z (F:Nat) (x:P1) (of:List Int):Option Int:=.bind (c0K F x) fun right=>if !right then some (-1) else .bind (α:=Int) ( iter (y0b F x of) F ((-1),0)) fun best3=>some best3
def j0T (F:Nat):Sm en.D:=⟨114,[.d (.st 11),.d (.list (.int .i64))],.d (.int .i64),[],fun x=>o0z F x.1 x.2⟩
def u0R (F:Nat):=R0 [b0W F,c0W F] 114 ⟨[(9,[(.nrm,⟨[(5,.d (.int .i64))],[]⟩)])],[(5,⟨[(5,.d (.int .i64)),(14,.d (.int .i64))],[]⟩,[(.ex 0,⟨[(5,.d (.int .i64)),(14,.any)],[]⟩)])],[(7,4,17,⟨[(21,.any),(35,.d .bool)],[]⟩),(7,7,16,⟨[(24,.any),(34,.d .bool)],[]⟩)],[]⟩ F
def G0w (F:Nat) (c:h0r) (d:(List Int)×Int):Option (T0 ((List Int)×Int) (List Int)):=match d with
 | (can,x)=>if decide (x<(c.places.length:Int)) then .bind (α:=List Int) ( if y0 c.places x then if y0 c.chart.can (gt c.places x) then if gt c.chart.can (gt c.places x) then if C1 8 can [x] then some (can++[x]) else none else some can else none else none) fun can2=>some (.next (can2,W (x+1))) else some (.done can)
def E0L (F:Nat) (c:h0r):Option ((List Int)×Bool):=.bind (α:=List Int) ( iter (G0w F c) F ([],0)) fun can3=>.bind (o0z F c.rank can3) fun c0U=>if decide (c0U<0) then some ([],false) else if y0 c.values c0U then if y0 c.places c0U then if y0 c.chart.ends (gt c.places c0U) then .bind (b0A F (gt c.values c0U) ((gt c.chart.ends (gt c.places c0U)).marks) c.at_ (-1)) fun apply=>some (apply,true) else none else none else none
def L01 (F:Nat):Sm en.D:=⟨82,[.d (.ptr (.st 19))],.tup [.own 3 (.int .i64),.d .bool],[],fun x=>E0L F x⟩
def W0K (F:Nat):=R0 [e0k F,j0T F] 82 ⟨[(7,[(.nrm,⟨[(4,.own 3 (.int .i64))],[(0,.any)]⟩)])],[(3,⟨[(4,.own 3 (.int .i64)),(13,.d (.int .i64))],[]⟩,[(.ex 0,⟨[(4,.own 3 (.int .i64)),(13,.any)],[]⟩)])],[],[]⟩ F
def I0X (F:Nat) (l:List Int) (of:List Int) (d:(List Int)×Int):Option (T0 ((List Int)×Int) (List Int)):=match d with
 | (out,x)=>if decide (x<(of.length:Int)) then if y0 of x then if y0 l (gt of x) then if C1 8 out [gt l (gt of x)] then some (.next (out++[gt l (gt of x)],W (x+1))) else none else none else none else some (.done out)
def E05 (F:Nat) (l:List Int) (of:List Int):Option (List Int):=.bind (α:=List Int) ( iter (I0X F l of) F ([],0)) fun out2=>some out2
def J0X (F:Nat):Sm en.D:=⟨115,[.d (.list (.int .i64)),.d (.list (.int .i64))],.own 3 (.int .i64),[],fun x=>E05 F x.1 x.2⟩
def T0k (F:Nat):=R0 [] 115 ⟨[],[(3,⟨[(5,.own 3 (.int .i64)),(10,.d (.int .i64))],[]⟩,[(.ex 0,⟨[(5,.own 3 (.int .i64)),(10,.any)],[]⟩)])],[],[]⟩ F
def I0r (F:Nat) (l:List (List Int)) (of:List Int) (d:(List (List Int))×Int):Option (T0 ((List (List Int))×Int) (List (List Int))):=match d with
 | (out,x)=>if decide (x<(of.length:Int)) then if y0 of x then if y0 l (gt of x) then if C1 24 out [gt l (gt of x)] then some (.next (out++[gt l (gt of x)],W (x+1))) else none else none else none else some (.done out)
def G0e (F:Nat) (l:List (List Int)) (of:List Int):Option (List (List Int)):=.bind (α:=List (List Int)) ( iter (I0r F l of) F ([],0)) fun out2=>some out2
def K0Q (F:Nat):Sm en.D:=⟨116,[.d (.list (.list (.int .i64))),.d (.list (.int .i64))],.own 23 (.list (.int .i64)),[],fun x=>G0e F x.1 x.2⟩
def U0J (F:Nat):=R0 [] 116 ⟨[],[(3,⟨[(5,.own 23 (.list (.int .i64))),(10,.d (.int .i64))],[]⟩,[(.ex 0,⟨[(5,.own 23 (.list (.int .i64))),(10,.any)],[]⟩)])],[],[]⟩ F
def H0g (F:Nat) (c:h0r) (from_:Int) (d:(List Int)×Int):Option (T0 ((List Int)×Int) (List Int)):=match d with
 | (stay,x)=>if decide (x<(c.values.length:Int)) then .bind (α:=List Int) ( if y0 c.values x then if y0 (gt c.values x) 0 then if decide ((gt (gt c.values x) 0)<=from_) then if C1 8 stay [x] then some (stay++[x]) else none else some stay else none else none) fun stay2=>some (.next (stay2,W (x+1))) else some (.done stay)
def H0p (F:Nat) (stay3:List Int) (d:Int×(List (List Int))×(List (List Int))):Option (T0 (Int×(List (List Int))×(List (List Int))) ((List (List Int))×(List (List Int)))):=match d with
 | (x2,y,y2)=>if decide (x2<(stay3.length:Int)) then if y0 y x2 then if y0 y2 x2 then .bind (E05 F (gt y x2) stay3) fun picki2=>.bind (E05 F (gt y2 x2) stay3) fun picki3=>if y0 y x2 then if y0 y2 x2 then some (.next (W (x2+1),y.set x2.toNat picki2,y2.set x2.toNat picki3)) else none else none else none else none else some (.done (y,y2))
def E0Y (F:Nat) (c:h0r) (from_:Int):Option h0r:=.bind (α:=List Int) ( iter (H0g F c from_) F ([],0)) fun stay3=>.bind (E05 F c.places stay3) fun picki=>.bind (G0e F c.values stay3) fun pick=>.bind (G0e F c.rank.B stay3) fun pick2=>.bind (G0e F c.rank.D stay3) fun pick3=>.bind (α:=(List (List Int))×(List (List Int))) ( iter (H0p F stay3) F (0,pick2,pick3)) fun (y3,y4)=>some (⟨c.chart,c.at_,c.work,picki,pick,(⟨y3,y4⟩:P1)⟩:h0r)
def L0a (F:Nat):Sm en.D:=⟨83,[.box 158 [.d (.st 19)],.d (.int .i64)],.tup [],[(0,.box 158 [.d (.st 19)])],fun x=>E0Y F x.1 x.2⟩
def R0P (F:Nat):=R0 [J0X F,K0Q F] 83 ⟨[(6,[(.nrm,⟨[(4,.own 3 (.int .i64))],[(1,.any)]⟩)])],[(10,⟨[(64,.d (.int .i64))],[(4,.own 23 (.list (.int .i64))),(5,.own 23 (.list (.int .i64)))]⟩,[(.ex 2,⟨[(64,.any)],[(4,.own 23 (.list (.int .i64))),(5,.own 23 (.list (.int .i64)))]⟩)]),(2,⟨[(4,.own 3 (.int .i64)),(15,.d (.int .i64))],[]⟩,[(.ex 0,⟨[(4,.own 3 (.int .i64)),(15,.any)],[]⟩)])],[],[]⟩ F
def F0c (F:Nat):(h0r×(List Int)×Int×Bool)->Int->Option (h0r×(List Int)×Int×Bool)
 | (Crowd,tags,to,is),b=>.bind (E0T F Crowd) fun at_=>.bind (α:=Bool) ( if at_==0 then some true else some (!is)) fun x=>.bind (E0Z F Crowd b x) fun b0=>.bind (E0L F b0) fun (c0U,best2)=>if best2 then .bind (E0T F b0) fun at_2=>if y0 c0U 0 then .bind (E0Y F b0 (gt c0U 0)) fun b02=>some (b02,c0U,at_2,true) else none else some (b0,tags,to,is)
def M0p (F:Nat):Sm en.D:=⟨43,[.box 109 [.box 158 [.d (.st 19)],.d (.list (.int .i64)),.d (.int .i64),.d .bool],.d (.int .u8)],.tup [],[(0,.box 109 [.box 158 [.d (.st 19)],.d (.list (.int .i64)),.d (.int .i64),.d .bool])],fun x=>F0c F x.1 x.2⟩
def W0x (F:Nat):=R0 [K0p F,L0J F,L01 F,L0a F] 43 ⟨[],[],[(0,12,17,⟨[(17,.any),(23,.d .bool)],[]⟩)],[]⟩ F
def L0E (F:Nat) (c:h0r):Option (List Int):=.bind (D0G F c.places) fun clone=>some clone
def L0t (F:Nat):Sm en.D:=⟨117,[.d (.ptr (.st 19))],.own 3 (.int .i64),[],fun x=>L0E F x⟩
def U0A (F:Nat):=R0 [F0X F] 117 U1 F
def J0B (F:Nat) (h:D0R):Option Int:=.bind (L0E F h.Crowd) fun places=>some (places.length:Int)
def M0n (F:Nat):Sm en.D:=⟨84,[.d (.ptr (.st 20))],.d (.int .i64),[],fun x=>J0B F x⟩
def W0j (F:Nat):=R0 [L0t F] 84 U1 F
def J0E (F:Nat):((h0r×(List Int)×Int×Bool)×Int×Int)->Option ((h0r×(List Int)×Int×Bool)×Int×Int)
 | ((Crowd,tags,to,is),tags2,words)=>.bind (J0B F (⟨Crowd,tags,to,is⟩:D0R)) fun runs=>let x:=W ((W (runs+(W (runs*tags2))))+(W ((W (2*runs))*runs)));
 some ((Crowd,tags,to,is),tags2,if x>words then x else words)
def L0g (F:Nat):Sm en.D:=⟨44,[.box 105 [.box 109 [.box 158 [.d (.st 19)],.d (.list (.int .i64)),.d (.int .i64),.d .bool],.d (.int .i64),.d (.int .i64)]],.tup [],[(0,.box 105 [.box 109 [.box 158 [.d (.st 19)],.d (.list (.int .i64)),.d (.int .i64),.d .bool],.d (.int .i64),.d (.int .i64)])],fun x=>J0E F x⟩
def V0f (F:Nat):=R0 [M0n F] 44 U1 F
def K0K (F:Nat) (c:h0r):Option Int:=some c.work
def J0V (F:Nat):Sm en.D:=⟨45,[.d (.ptr (.st 19))],.d (.int .i64),[],fun x=>K0K F x⟩
def T0U (F:Nat):=R0 [] 45 U1 F
def F09 (F:Nat) (w:List Int) (d:(Int×((h0r×(List Int)×Int×Bool)×Int×Int))):Option (T0 (Int×((h0r×(List Int)×Int×Bool)×Int×Int)) ((h0r×(List Int)×Int×Bool)×Int×Int)):=match d with
 | (x,((Crowd3,tags4,to3,is3),tags5,words))=>if decide (x<(w.length:Int)) then if y0 w x then .bind (F0c F (Crowd3,tags4,to3,is3) (gt w x)) fun (Crowd4,tags6,to4,is4)=>.bind (J0E F ((Crowd4,tags6,to4,is4),tags5,words)) fun ((Crowd5,tags7,to5,is5),tags8,words2)=>some (.next (W (x+1),((Crowd5,tags7,to5,is5),tags8,words2))) else none else some (.done ((Crowd3,tags4,to3,is3),tags5,words))
def D0Y (F:Nat) (l:List U0) (w:List Int):Option (t0v×Int):=.bind (D0M F l (w.length:Int)) fun (bounds,bounds2)=>if bounds2 != 0 then some (bounds,bounds2) else .bind (α:=(Int×(Unit ⊕ (h0r×(List Int)×Int×Bool)))) ( .bind (H0H F l) fun (new,new2)=>match new with
   | .inl _=>some (new2,(.inl ()))
   | .inr (Crowd,tags,to,is)=>some (new2,(.inr (Crowd,tags,to,is)))) fun (e,h)=>match h with
  | .inl _=>if e != 0 then some ((⟨0,0,0,0⟩:t0v),e) else .bind (c08 F l) fun tags11=>none
  | .inr (Crowd2,tags2,to2,is2)=>if e != 0 then some ((⟨0,0,0,0⟩:t0v),e) else .bind (c08 F l) fun tags3=>.bind (α:=(h0r×(List Int)×Int×Bool)×Int×Int) ( iter (F09 F w) F (0,((Crowd2,tags2,to2,is2),tags3,0))) fun ((Crowd6,tags9,to6,is6),tags10,words3)=>.bind (K0K F Crowd6) fun work=>some ((⟨work,bounds.Most,words3,bounds.Room⟩:t0v),0)
def H0N (F:Nat):Sm en.D:=⟨15,[.d (.list (.st 0)),.d (.list (.int .u8))],.tup [.d (.st 5),.d (.int .i64)],[],fun x=>D0Y F x.1 x.2⟩
def Q0X (F:Nat):=R0 [F04 F,c05 F,L0v F,M0p F,L0g F,J0V F] 15 ⟨[(5,[(.nrm,⟨[(7,.d (.int .i64)),(8,.alt .nilp (.box 109 [.box 158 [.d (.st 19)],.d (.list (.int .i64)),.d (.int .i64),.d .bool]))],[]⟩)])],[(9,⟨[(39,.d (.int .i64))],[(2,.any),(3,.any),(4,.box 105 [.box 109 [.box 158 [.d (.st 19)],.d (.list (.int .i64)),.d (.int .i64),.d .bool],.d (.int .i64),.d (.int .i64)])]⟩,[(.ex 0,⟨[(39,.any)],[(2,.any),(3,.any),(4,.box 105 [.box 109 [.box 158 [.d (.st 19)],.d (.list (.int .i64)),.d (.int .i64),.d .bool],.d (.int .i64),.d (.int .i64)])]⟩)])],[],[]⟩ F
def H0e (F:Nat):Option (List U0):=some [(⟨2,(-1),(-1),0,[0,8589934592,0,0]⟩:U0),(⟨8,0,(-1),0,[0,0,0,0]⟩:U0),(⟨5,1,(-1),0,[0,0,0,0]⟩:U0)]
def K0c (F:Nat):Sm en.D:=⟨35,[],.own 145 (.st 0),[],fun x=>H0e F⟩
def S0e (F:Nat):=R0 [] 35 U1 F
def D0Z (F:Nat):Option Bool:=.bind (H0e F) fun star=>.bind (D0M F star 2) fun (bounds,bounds2)=>.bind (H0e F) fun star2=>if !([97,97]:List Int).isEmpty then .bind (D0Y F star2 [97,97]) fun (crowd,crowd2)=>.bind (D0M F [] 2) fun (bounds3,bounds4)=>.bind (α:=Bool) ( if bounds2==0 then let x:=(bounds.Work==0)&&((bounds.Most==18)&&((bounds.Words==0)&&(bounds.Room==6)));
    some x else some false) fun x2=>.bind (α:=Bool) ( if x2 then some (crowd2==0) else some false) fun x3=>.bind (α:=Bool) ( if x3 then some (crowd.Words==4) else some false) fun x4=>.bind (α:=Bool) ( if x4 then some (crowd.Work==6) else some false) fun x5=>.bind (α:=Bool) ( if x5 then some (bounds4==11) else some false) fun x6=>some x6 else none
def H0m (F:Nat):Sm en.D:=⟨10,[],.d .bool,[],fun x=>D0Z F⟩
def V0a (F:Nat):=R0 [F04 F,H0N F,K0c F] 10 ⟨[],[],[(4,3,6,⟨[(25,.any),(29,.d .bool)],[]⟩),(4,8,10,⟨[(30,.any),(33,.d .bool)],[]⟩),(4,12,15,⟨[(34,.any),(38,.d .bool)],[]⟩),(4,17,20,⟨[(39,.any),(43,.d .bool)],[]⟩),(4,22,24,⟨[(44,.any),(47,.d .bool)],[]⟩)],[]⟩ F
def D0T (F:Nat) (kind:Int):Option (Bool×Bool):=.bind (α:=Bool) ( if decide (kind>=3) then some (decide (kind<=8)) else some false) fun x=>.bind (α:=Bool) ( if kind==3 then some true else some (kind==4)) fun x2=>some (x,x2)
def J0K (F:Nat):Sm en.D:=⟨95,[.d (.int .i64)],.tup [.d .bool,.d .bool],[],fun x=>D0T F x⟩
def U0W (F:Nat):=R0 [] 95 ⟨[],[],[(1,3,5,⟨[(6,.any),(9,.d .bool)],[]⟩),(1,9,11,⟨[(12,.any),(15,.d .bool)],[]⟩)],[]⟩ F
def J0R (F:Nat) (l:List U0) (i:Int) (d:Int):Option (T0 Int (Unit ⊕ Unit)):=match d with
 | k=>if decide (k<i) then .bind (α:=Bool) ( if ((gt l i).Kind)==7 then if y0 l k then some (((gt l k).Kind)==7) else none else some false) fun x14=>.bind (α:=Bool) ( if x14 then if y0 l k then some (((gt l k).N)==((gt l i).N)) else none else some false) fun x15=>if x15 then some (.done (.inl ())) else some (.next (W (k+1))) else some (.done (.inr ()))
def J0Z (F:Nat) (l:List U0) (d:Int×Int×(List Int)):Option (T0 (Int×Int×(List Int)) (Unit ⊕ (Int×(List Int)))):=match d with
 | (leaves,i,y)=>if decide (i<(l.length:Int)) then if y0 l i then .bind (D0T F ((gt l i).Kind)) fun (part,part2)=>if y0 y i then .bind (α:=Bool) ( if decide (((gt l i).Kind)<1) then some true else some (decide (((gt l i).Kind)>8))) fun x=>.bind (α:=Bool) ( if x then some true else .bind (α:=Bool) ( if ((gt l i).Kind) != 2 then let x2:=!(((gt ((gt l i).Set) 0)==0)&&(((gt ((gt l i).Set) 1)==0)&&(((gt ((gt l i).Set) 2)==0)&&((gt ((gt l i).Set) 3)==0))));
        some x2 else some false) fun x3=>some x3) fun x4=>.bind (α:=Bool) ( if x4 then some true else .bind (α:=Bool) ( if ((gt l i).Kind) != 7 then some (((gt l i).N) != 0) else some false) fun x5=>some x5) fun x6=>.bind (α:=Bool) ( if x6 then some true else .bind (α:=Bool) ( if ((gt l i).Kind)==7 then if decide (((gt l i).N)<1) then some true else some (decide (((gt l i).N)>9)) else some false) fun x7=>some x7) fun x8=>if x8 then some (.done (.inl ())) else .bind (α:=Bool) ( if !part then some (((gt l i).A) != (-1)) else some false) fun x9=>.bind (α:=Bool) ( if x9 then some true else .bind (α:=Bool) ( if !part2 then some (((gt l i).B) != (-1)) else some false) fun x10=>some x10) fun x11=>if x11 then some (.done (.inl ())) else .bind (α:=Int) ( if ((gt l i).Kind)==2 then some (W (leaves+1)) else some leaves) fun leaves2=>.bind (α:=Unit ⊕ Int) ( if part2 then .bind (α:=Bool) ( if ((gt l i).B) != (W (i-1)) then some true else some (decide ((W (i-1))<0))) fun x12=>if x12 then some (.inl ()) else if y0 (y.set i.toNat i) (W (i-1)) then some (.inr (W ((gt (y.set i.toNat i) (W (i-1)))-1))) else none else some (.inr (W (i-1)))) fun z_=>match z_ with
      | .inl _=>some (.done (.inl ()))
      | .inr at_=>.bind (α:=Unit ⊕ (List Int)) ( if part then .bind (α:=Bool) ( if ((gt l i).A) != at_ then some true else some (decide (at_<0))) fun x13=>if x13 then some (.inl ()) else if y0 (y.set i.toNat i) at_ then if y0 (y.set i.toNat i) i then let l2:=(y.set i.toNat i).set i.toNat (gt (y.set i.toNat i) at_);
            some (.inr l2) else none else none else some (.inr (y.set i.toNat i))) fun z_=>match z_ with
       | .inl _=>some (.done (.inl ()))
       | .inr y2=>if y0 y2 i then .bind (α:=Unit ⊕ Unit) ( iter (J0R F l i) F (gt y2 i)) fun z_=>match z_ with
         | .inl _=>some (.done (.inl ()))
         | .inr _=>some (.next (leaves2,W (i+1),y2)) else none else none else none else some (.done (.inr (leaves,y)))
def D0H (F:Nat) (l:List U0):Option (Unit ⊕ (List Int)):=if S5 8 (l.length:Int) then .bind (α:=Unit ⊕ (Int×(List Int))) ( iter (J0Z F l) F (0,0,(List.replicate (l.length:Int).toNat 0:List Int))) fun z_=>match z_ with
  | .inl _=>some (.inl ())
  | .inr (leaves3,y3)=>.bind (α:=Bool) ( if (l.length:Int)==0 then some true else some (decide ((l.length:Int)>400))) fun x16=>.bind (α:=Bool) ( if x16 then some true else some (decide (leaves3>64))) fun x17=>.bind (α:=Bool) ( if x17 then some true else if y0 y3 (W ((l.length:Int)-1)) then some ((gt y3 (W ((l.length:Int)-1))) != 0) else none) fun x18=>if x18 then some (.inl ()) else some (.inr y3) else none
def H08 (F:Nat):Sm en.D:=⟨53,[.d (.list (.st 0))],.alt .nil (.own 3 (.int .i64)),[],fun x=>D0H F x⟩
def V0X (F:Nat):=R0 [J0K F] 53 ⟨[(15,[(.nrm,⟨[(4,.d (.int .i64))],[]⟩)]),(20,[(.ret,⟨[(2,.nil)],[]⟩),(.nrm,⟨[(9,.d (.int .i64))],[]⟩)]),(24,[(.ret,⟨[(2,.nil)],[]⟩),(.nrm,⟨[],[(0,.own 3 (.int .i64))]⟩)])],[(25,⟨[(10,.d (.int .i64))],[]⟩,[(.ret,⟨[(2,.nil),(10,.any)],[]⟩),(.ex 2,⟨[(10,.any)],[]⟩)]),(4,⟨[(4,.d (.int .i64)),(5,.d (.int .i64))],[(0,.own 3 (.int .i64))]⟩,[(.ret,⟨[(2,.nil),(4,.any),(5,.any)],[(0,.any)]⟩),(.ex 0,⟨[(4,.d (.int .i64)),(5,.any)],[(0,.own 3 (.int .i64))]⟩)])],[(9,4,7,⟨[(37,.any),(41,.d .bool)],[]⟩),(9,9,18,⟨[(42,.any),(52,.d .bool)],[]⟩),(9,13,17,⟨[(46,.any),(51,.d .bool)],[]⟩),(9,20,28,⟨[(53,.any),(62,.d .bool)],[]⟩),(9,24,27,⟨[(57,.any),(61,.d .bool)],[]⟩),(9,30,43,⟨[(63,.any),(77,.d .bool)],[]⟩),(9,34,42,⟨[(67,.any),(76,.d .bool)],[]⟩),(11,3,6,⟨[(80,.any),(84,.d .bool)],[]⟩),(11,8,15,⟨[(85,.any),(93,.d .bool)],[]⟩),(11,11,14,⟨[(88,.any),(92,.d .bool)],[]⟩),(17,5,7,⟨[(106,.any),(109,.d .bool)],[]⟩),(21,5,7,⟨[(120,.any),(123,.d .bool)],[]⟩),(27,4,10,⟨[(143,.any),(150,.d .bool)],[]⟩),(27,12,20,⟨[(151,.any),(160,.d .bool)],[]⟩),(29,4,7,⟨[(164,.any),(168,.d .bool)],[]⟩),(29,9,11,⟨[(169,.any),(172,.d .bool)],[]⟩),(29,13,20,⟨[(173,.any),(181,.d .bool)],[]⟩)],[]⟩ F
def C0n (F:Nat) (l:List U0):Option Bool:=.bind (D0H F l) fun lows=>match lows with
 | .inl _=>some false
 | .inr lows2=>if !lows2.isEmpty then some true else none
def D0J (F:Nat):Sm en.D:=⟨20,[.d (.list (.st 0))],.d .bool,[],fun x=>C0n F x⟩
def S0T (F:Nat):=R0 [H08 F] 20 U1 F
def G0P (F:Nat) (right:Bool) (n_:Int):Option Int:=if !right then some 11 else .bind (α:=Bool) ( if decide (n_<0) then some true else some (decide (n_>1000000))) fun x=>if x then some 1 else some 0
def I0z (F:Nat):Sm en.D:=⟨38,[.d .bool,.d (.int .i64)],.d (.int .i64),[],fun x=>G0P F x.1 x.2⟩
def S0z (F:Nat):=R0 [] 38 ⟨[],[],[(3,3,5,⟨[(9,.any),(12,.d .bool)],[]⟩)],[]⟩ F
def K07 (F:Nat) (l:List U0) (d:(List Int)×Int):Option (T0 ((List Int)×Int) (List Int)):=match d with
 | (out,i)=>if decide (i<(l.length:Int)) then .bind (α:=List Int) ( if y0 l i then if ((gt l i).Kind)==2 then if C1 8 out [i] then some (out++[i]) else none else some out else none) fun out2=>some (.next (out2,W (i+1))) else some (.done out)
def C0z (F:Nat) (l:List U0):Option (List Int):=.bind (C0n F l) fun right=>if !right then some [] else .bind (α:=List Int) ( iter (K07 F l) F ([],0)) fun out3=>some out3
def E0t (F:Nat):Sm en.D:=⟨39,[.d (.list (.st 0))],.own 3 (.int .i64),[],fun x=>C0z F x⟩
def Q0W (F:Nat):=R0 [D0J F] 39 ⟨[(6,[(.nrm,⟨[(3,.own 3 (.int .i64))],[(0,.any)]⟩)])],[(5,⟨[(3,.own 3 (.int .i64)),(4,.d (.int .i64))],[]⟩,[(.ex 0,⟨[(3,.own 3 (.int .i64)),(4,.any)],[]⟩)])],[],[]⟩ F
def G05 (F:Nat) (l:List U0):Option (List Int):=.bind (D0H F l) fun lows=>match lows with
 | .inl _=>some []
 | .inr lows2=>some lows2
def I09 (F:Nat):Sm en.D:=⟨134,[.d (.list (.st 0))],.own 3 (.int .i64),[],fun x=>G05 F x⟩
def R0J (F:Nat):=R0 [H08 F] 134 U1 F
def H0k (F:Nat) (l:List U0) (q:Int) (n_:Int) (d:Bool×Int):Option (T0 (Bool×Int) Bool):=match d with
 | (is,i)=>if decide (i<=q) then .bind (α:=Bool) ( if is then some true else if y0 l i then .bind (α:=Bool) ( if ((gt l i).Kind)==7 then if y0 l i then some (((gt l i).N)==n_) else none else some false) fun x2=>some x2 else none) fun x3=>some (.next (x3,W (i+1))) else some (.done is)
def G0Z (F:Nat) (l:List U0) (q:Int) (low:List Int) (d:(List Int)×Int):Option (T0 ((List Int)×Int) (List Int)):=match d with
 | (out,n_)=>if decide (n_<=9) then .bind (α:=List Int) ( if y0 low q then .bind (α:=Bool) ( iter (H0k F l q n_) F (false,gt low q)) fun is2=>if is2 then if C1 8 out [n_] then some (out++[n_]) else none else some out else none) fun out2=>some (.next (out2,W (n_+1))) else some (.done out)
def G0C (F:Nat) (l:List U0) (q:Int):Option (List Int):=.bind (G05 F l) fun low=>.bind (α:=Bool) ( if decide (q<0) then some true else some (decide (q>=(low.length:Int)))) fun x=>if x then some [] else .bind (α:=List Int) ( iter (G0Z F l q low) F ([],1)) fun out3=>some out3
def J0w (F:Nat):Sm en.D:=⟨97,[.d (.list (.st 0)),.d (.int .i64)],.own 3 (.int .i64),[],fun x=>G0C F x.1 x.2⟩
def P0t (F:Nat):=R0 [I09 F] 97 ⟨[(7,[(.nrm,⟨[(6,.own 3 (.int .i64))],[(1,.any)]⟩)])],[(10,⟨[(8,.d .bool),(9,.d (.int .i64))],[]⟩,[(.ex 2,⟨[(8,.d .bool),(9,.any)],[]⟩)]),(6,⟨[(6,.own 3 (.int .i64)),(7,.d (.int .i64))],[]⟩,[(.ex 0,⟨[(6,.own 3 (.int .i64)),(7,.any)],[]⟩)])],[(3,3,7,⟨[(14,.any),(19,.d .bool)],[]⟩),(12,2,17,⟨[(34,.any),(50,.d .bool)],[]⟩),(12,9,16,⟨[(41,.any),(49,.d .bool)],[]⟩)],[]⟩ F
def I0d (F:Nat) (l:List U0):Option Int:=.bind (G0C F l (W ((l.length:Int)-1))) fun groups=>if (groups.length:Int)==0 then some 0 else if y0 groups (W ((groups.length:Int)-1)) then some (gt groups (W ((groups.length:Int)-1))) else none
def L0x (F:Nat):Sm en.D:=⟨70,[.d (.list (.st 0))],.d (.int .i64),[],fun x=>I0d F x⟩
def T0t (F:Nat):=R0 [J0w F] 70 U1 F
def F0l (F:Nat) (l:List U0):Option Int:=.bind (C0n F l) fun right=>if !right then some 0 else .bind (I0d F l) fun top=>some (W (1+(W (2*top))))
def F0R (F:Nat):Sm en.D:=⟨40,[.d (.list (.st 0))],.d (.int .i64),[],fun x=>F0l F x⟩
def P0W (F:Nat):=R0 [D0J F,L0x F] 40 U1 F
def G0I (F:Nat) (l:List U0) (n_:Int):Option (t0v×Int):=.bind (C0n F l) fun right=>.bind (G0P F right n_) fun bad=>if bad != 0 then some ((⟨0,0,0,0⟩:t0v),bad) else .bind (C0z F l) fun leaves=>.bind (F0l F l) fun tags=>let x:=W ((W (3*(W (n_+1))))*(leaves.length:Int));
  let x2:=W ((leaves.length:Int)*(leaves.length:Int));
  let x3:=W (3*(W (x2+(W ((leaves.length:Int)*tags)))));
  some ((⟨0,W (x*(W ((leaves.length:Int)+tags))),0,x3⟩:t0v),0)
def I08 (F:Nat):Sm en.D:=⟨12,[.d (.list (.st 0)),.d (.int .i64)],.tup [.d (.st 5),.d (.int .i64)],[],fun x=>G0I F x.1 x.2⟩
def P0v (F:Nat):=R0 [D0J F,I0z F,E0t F,F0R F] 12 U1 F
def i0s (F:Nat) (class_:List Int) (d:Int×Int):Option (T0 (Int×Int) (Unit ⊕ Unit)):=match d with
 | (next_,x)=>if decide (x<(class_.length:Int)) then if y0 class_ x then .bind (α:=Bool) ( if decide ((gt class_ x)<0) then some true else some (decide ((gt class_ x)>next_))) fun x2=>if x2 then some (.done (.inl ())) else let x3:=if (W ((gt class_ x)+1))>next_ then W ((gt class_ x)+1) else next_;
    some (.next (x3,W (x+1))) else none else some (.done (.inr ()))
def c0A (F:Nat) (class_:List Int):Option Bool:=.bind (α:=Unit ⊕ Unit) ( iter (i0s F class_) F (0,0)) fun z_=>match z_ with
 | .inl _=>some false
 | .inr _=>some ((class_.length:Int)==256)
def e0G (F:Nat):Sm en.D:=⟨71,[.d (.list (.int .i64))],.d .bool,[],fun x=>c0A F x⟩
def z0C (F:Nat):=R0 [] 71 ⟨[],[(3,⟨[(3,.d (.int .i64)),(8,.d (.int .i64))],[]⟩,[(.ret,⟨[(2,.kb false),(3,.any),(8,.any)],[]⟩),(.ex 0,⟨[(3,.any),(8,.any)],[]⟩)])],[(5,3,6,⟨[(14,.any),(18,.d .bool)],[]⟩)],[]⟩ F
def j0Y (F:Nat) (class_:List Int) (d:(List Int)×Int):Option (T0 ((List Int)×Int) (List Int)):=match d with
 | (out,x)=>if decide (x<(class_.length:Int)) then .bind (α:=List Int) ( if y0 class_ x then if (gt class_ x)==(out.length:Int) then if C1 1 out [IntKind.u8.wrap (x)] then some (out++[IntKind.u8.wrap (x)]) else none else some out else none) fun out2=>some (.next (out2,W (x+1))) else some (.done out)
def c0m (F:Nat) (class_:List Int):Option (List Int):=.bind (c0A F class_) fun right=>if !right then some [] else .bind (α:=List Int) ( iter (j0Y F class_) F ([],0)) fun out3=>some out3
def e0E (F:Nat):Sm en.D:=⟨72,[.d (.list (.int .i64))],.own 5 (.int .u8),[],fun x=>c0m F x⟩
def x0y (F:Nat):=R0 [e0G F] 72 ⟨[(9,[(.nrm,⟨[(3,.own 5 (.int .u8))],[(0,.any)]⟩)])],[(5,⟨[(3,.own 5 (.int .u8)),(11,.d (.int .i64))],[]⟩,[(.ex 0,⟨[(3,.own 5 (.int .u8)),(11,.any)],[]⟩)])],[],[]⟩ F
def I0b (F:Nat) (p:b0D) (x:C0x) (d:Int):Option (T0 Int (Int ⊕ Unit)):=match d with
 | x7=>if decide (x7<(x.Moves.length:Int)) then if y0 x.Moves x7 then .bind (α:=Bool) ( if decide (((gt x.Moves x7).To)<0) then some true else some (decide (((gt x.Moves x7).To)>=p.Regs))) fun x8=>.bind (α:=Bool) ( if x8 then some true else some (decide (((gt x.Moves x7).From)<(-1)))) fun x9=>.bind (α:=Bool) ( if x9 then some true else some (decide (((gt x.Moves x7).From)>=p.Regs))) fun x10=>.bind (α:=Bool) ( if x10 then some true else let x11:=((gt x.Moves x7).From)==((gt x.Moves x7).To);
     some x11) fun x12=>if x12 then some (.done (.inl x7)) else some (.next (W (x7+1))) else none else some (.done (.inr ()))
def J0c (F:Nat) (p:b0D) (x:C0x):Option Bool:=.bind (α:=Bool) ( if decide (x.To<(-1)) then some true else some (decide (x.To>=(p.Stands.length:Int)))) fun x2=>.bind (α:=Bool) ( if x2 then some true else .bind (α:=Bool) ( if x.To==(-1) then some (decide ((x.Moves.length:Int)>0)) else some false) fun x3=>some x3) fun x4=>.bind (α:=Bool) ( if x4 then some true else let x5:=decide ((x.Moves.length:Int)>(W (2*p.Regs)));
   some x5) fun x6=>if x6 then some false else .bind (α:=Int ⊕ Unit) ( iter (I0b F p x) F 0) fun z_=>match z_ with
  | .inl x13=>some (!(decide (x13>=0)))
  | .inr _=>some (!(decide ((-1)>=0)))
def L0L (F:Nat):Sm en.D:=⟨77,[.d (.st 4),.d (.st 2)],.d .bool,[],fun x=>J0c F x.1 x.2⟩
def U0h (F:Nat):X1 en:=⟨[],fun g=>if Nat.beq g 77 then ⟨[],[],[(1,4,10,⟨[(8,.any),(15,.d .bool)],[]⟩),(1,12,21,⟨[(16,.any),(26,.d .bool)],[]⟩),(1,16,20,⟨[(20,.any),(25,.d .bool)],[]⟩),(1,23,30,⟨[(27,.any),(35,.d .bool)],[]⟩)],[]⟩ else if Nat.beq g 104 then U1 else if Nat.beq g 105 then ⟨[],[],[(1,4,9,⟨[(7,.any),(13,.d .bool)],[]⟩),(1,11,14,⟨[(14,.any),(18,.d .bool)],[]⟩),(1,16,21,⟨[(19,.any),(25,.d .bool)],[]⟩),(1,23,28,⟨[(26,.any),(32,.d .bool)],[]⟩)],[]⟩ else if Nat.beq g 141 then ⟨[],[(2,⟨[(8,.d (.int .i64))],[]⟩,[(.ret,⟨[(4,.d (.int .i64)),(8,.any)],[]⟩),(.ex 0,⟨[(8,.any)],[]⟩)])],[],[]⟩ else U1,F,[]⟩
def H0h (F:Nat) (p:b0D) (x8:Int) (d:Int):Option (T0 Int (Int ⊕ Unit)):=match d with
 | x11=>let x12:=decide (x11<(((gt p.Stands x8).Accept).length:Int));
 if x12 then if y0 ((gt p.Stands x8).Accept) x11 then let x13:=decide ((gt ((gt p.Stands x8).Accept) x11)<(-2));
   .bind (α:=Bool) ( if x13 then some true else let x14:=decide ((gt ((gt p.Stands x8).Accept) x11)>=p.Regs);
     some x14) fun x15=>if x15 then some (.done (.inl x11)) else some (.next (W (x11+1))) else none else some (.done (.inr ()))
def H0u (F:Nat) (p:b0D) (x8:Int) (d:Int):Option (T0 Int (Int ⊕ Unit)):=match d with
 | x14=>let x15:=decide (x14<(((gt p.Stands x8).c0s).length:Int));
 if x15 then if y0 ((gt p.Stands x8).c0s) x14 then .bind (J0c F p (gt ((gt p.Stands x8).c0s) x14)) fun right2=>if !right2 then some (.done (.inl x14)) else some (.next (W (x14+1))) else none else some (.done (.inr ()))
def I0c (F:Nat) (p:b0D) (least:List Int) (d:Int):Option (T0 Int (Unit ⊕ Unit)):=match d with
 | x8=>if decide (x8<(p.Stands.length:Int)) then if y0 p.Stands x8 then .bind (α:=Bool) ( if (((gt p.Stands x8).Accept).length:Int) != 0 then let x9:=(((gt p.Stands x8).Accept).length:Int) != p.Tags;
     some x9 else some false) fun x10=>.bind (α:=Bool) ( if x10 then some true else .bind (α:=Int ⊕ Unit) ( iter (H0h F p x8) F 0) fun z_=>match z_ with
     | .inl x16=>some (decide (x16>=0))
     | .inr _=>some (decide ((-1)>=0))) fun x11=>.bind (α:=Bool) ( if x11 then some true else let x12:=(((gt p.Stands x8).c0s).length:Int) != (least.length:Int);
     some x12) fun x13=>if x13 then some (.done (.inl ())) else .bind (α:=Bool) ( .bind (α:=Int ⊕ Unit) ( iter (H0u F p x8) F 0) fun z_=>match z_ with
     | .inl x16=>some (decide (x16>=0))
     | .inr _=>some (decide ((-1)>=0))) fun x14=>if x14 then some (.done (.inl ())) else some (.next (W (x8+1))) else none else some (.done (.inr ()))
def H0S (F:Nat) (p:b0D):Option Bool:=.bind (α:=Bool) ( if decide (p.Tags<1) then some true else some (decide (p.Tags>19))) fun x=>.bind (α:=Bool) ( if x then some true else some ((p.Tags.tmod 2)==0)) fun x2=>.bind (α:=Bool) ( if x2 then some true else some (decide (p.Regs<1))) fun x3=>.bind (α:=Bool) ( if x3 then some true else some (decide (p.Regs>1217))) fun x4=>.bind (α:=Bool) ( if x4 then some true else some ((p.Stands.length:Int)==0)) fun x5=>.bind (α:=Bool) ( if x5 then some true else some (decide ((p.Stands.length:Int)>400))) fun x6=>.bind (α:=Bool) ( if x6 then some true else .bind (c0A F p.Class) fun right=>some (!right)) fun x7=>if x7 then some false else .bind (c0m F p.Class) fun least=>.bind (α:=Unit ⊕ Unit) ( iter (I0c F p least) F 0) fun z_=>match z_ with
  | .inl _=>some false
  | .inr _=>some true
def H01 (F:Nat):Sm en.D:=⟨41,[.d (.st 4)],.d .bool,[],fun x=>H0S F x⟩
def U0T (F:Nat):X1 en:=⟨[e0G F,e0E F,L0L F],fun g=>if Nat.beq g 41 then ⟨[(11,[(.nrm,⟨[(89,.d .bool)],[]⟩)])],[(6,⟨[(57,.d (.int .i64))],[]⟩,[(.ret,⟨[(2,.kb false),(57,.any)],[]⟩),(.ex 0,⟨[(57,.any)],[]⟩)])],[(1,4,7,⟨[(10,.any),(14,.d .bool)],[]⟩),(1,9,13,⟨[(15,.any),(20,.d .bool)],[]⟩),(1,15,18,⟨[(21,.any),(25,.d .bool)],[]⟩),(1,20,23,⟨[(26,.any),(30,.d .bool)],[]⟩),(1,25,29,⟨[(31,.any),(36,.d .bool)],[]⟩),(1,31,35,⟨[(37,.any),(42,.d .bool)],[]⟩),(1,37,41,⟨[(43,.any),(48,.d .bool)],[]⟩),(8,5,11,⟨[(65,.any),(72,.d .bool)],[]⟩),(8,13,17,⟨[(73,.any),(78,.d .bool)],[]⟩),(8,19,24,⟨[(79,.any),(85,.d .bool)],[]⟩)],[]⟩ else if Nat.beq g 73 then ⟨[],[],[(1,3,7,⟨[(6,.any),(11,.d .bool)],[]⟩)],[]⟩ else if Nat.beq g 74 then U1 else if Nat.beq g 75 then U1 else if Nat.beq g 76 then U1 else if Nat.beq g 102 then ⟨[],[(2,⟨[(8,.d (.int .i64))],[]⟩,[(.ret,⟨[(4,.d (.int .i64)),(8,.any)],[]⟩),(.ex 0,⟨[(8,.any)],[]⟩)])],[],[]⟩ else if Nat.beq g 103 then ⟨[],[(2,⟨[(8,.d (.int .i64))],[]⟩,[(.ret,⟨[(4,.d (.int .i64)),(8,.any)],[]⟩),(.ex 0,⟨[(8,.any)],[]⟩)])],[],[]⟩ else U1,F,[]⟩
def F08 (F:Nat) (p:b0D) (n_:Int):Option (t0v×Int):=.bind (H0S F p) fun right=>if !right then some ((⟨0,0,0,0⟩:t0v),11) else .bind (α:=Bool) ( if decide (n_<0) then some true else some (decide (n_>1000000))) fun x=>if x then some ((⟨0,0,0,0⟩:t0v),1) else some ((⟨0,W ((W (n_+1))*(W (1+(W (2*p.Regs))))),0,p.Regs⟩:t0v),0)
def G0V (F:Nat):Sm en.D:=⟨13,[.d (.st 4),.d (.int .i64)],.tup [.d (.st 5),.d (.int .i64)],[],fun x=>F08 F x.1 x.2⟩
def W0u (F:Nat):=R0 [H01 F] 13 ⟨[],[],[(3,3,5,⟨[(12,.any),(15,.d .bool)],[]⟩)],[]⟩ F
def i0c (F:Nat) (class_:List Int) (d:Int×Int):Option (T0 (Int×Int) (Unit ⊕ Unit)):=match d with
 | (many,i)=>if decide (i<(class_.length:Int)) then .bind (α:=Unit ⊕ Int) ( if y0 class_ i then .bind (α:=Bool) ( if decide ((gt class_ i)<0) then some true else if y0 class_ i then some (decide ((gt class_ i)>many)) else none) fun x=>if x then some (.inl ()) else if y0 class_ i then if (gt class_ i)==many then some (.inr (W (many+1))) else some (.inr many) else none else none) fun z_=>match z_ with
  | .inl _=>some (.done (.inl ()))
  | .inr many2=>some (.next (many2,W (i+1))) else some (.done (.inr ()))
def c0t (F:Nat) (class_:List Int):Option Bool:=.bind (α:=Unit ⊕ Unit) ( iter (i0c F class_) F (0,0)) fun z_=>match z_ with
 | .inl _=>some false
 | .inr _=>some ((class_.length:Int)==256)
def e0f (F:Nat):Sm en.D:=⟨65,[.d (.list (.int .i64))],.d .bool,[],fun x=>c0t F x⟩
def p0H (F:Nat):=R0 [] 65 ⟨[(4,[(.ret,⟨[(2,.kb false)],[]⟩),(.nrm,⟨[(3,.d (.int .i64))],[]⟩)])],[(3,⟨[(3,.d (.int .i64)),(4,.d (.int .i64))],[]⟩,[(.ret,⟨[(2,.kb false),(3,.any),(4,.any)],[]⟩),(.ex 0,⟨[(3,.any),(4,.any)],[]⟩)])],[(5,6,12,⟨[(16,.any),(23,.d .bool)],[]⟩)],[]⟩ F
def h07 (F:Nat) (class_:List Int) (d:(List Int)×Int):Option (T0 ((List Int)×Int) (List Int)):=match d with
 | (out,b)=>if decide (b<256) then .bind (α:=List Int) ( if y0 class_ b then if (gt class_ b)==(out.length:Int) then if C1 1 out [IntKind.u8.wrap (b)] then some (out++[IntKind.u8.wrap (b)]) else none else some out else none) fun out2=>some (.next (out2,W (b+1))) else some (.done out)
def g0b (F:Nat) (class_:List Int):Option (List Int):=.bind (c0t F class_) fun right=>if !right then some [] else .bind (α:=List Int) ( iter (h07 F class_) F ([],0)) fun out3=>some out3
def j06 (F:Nat):Sm en.D:=⟨66,[.d (.list (.int .i64))],.own 5 (.int .u8),[],fun x=>g0b F x⟩
def u0P (F:Nat):=R0 [e0f F] 66 ⟨[(6,[(.nrm,⟨[(3,.own 5 (.int .u8))],[(0,.any)]⟩)])],[(5,⟨[(3,.own 5 (.int .u8)),(4,.d (.int .i64))],[]⟩,[(.ex 0,⟨[(3,.own 5 (.int .u8)),(4,.any)],[]⟩)])],[],[]⟩ F
def H02 (F:Nat) (p:b0D) (x:C0x) (d:Int):Option (T0 Int (Unit ⊕ Unit)):=match d with
 | i=>if decide (i<(x.Moves.length:Int)) then if y0 x.Moves i then .bind (α:=Bool) ( if decide (((gt x.Moves i).To)<0) then some true else some (decide (((gt x.Moves i).To)>=p.Regs))) fun x7=>.bind (α:=Bool) ( if x7 then some true else some (decide (((gt x.Moves i).From)<(-1)))) fun x8=>.bind (α:=Bool) ( if x8 then some true else some (decide (((gt x.Moves i).From)>=p.Regs))) fun x9=>.bind (α:=Bool) ( if x9 then some true else some (((gt x.Moves i).From)==((gt x.Moves i).To))) fun x10=>if x10 then some (.done (.inl ())) else some (.next (W (i+1))) else none else some (.done (.inr ()))
def I0Q (F:Nat) (p:b0D) (x:C0x):Option Bool:=.bind (α:=Bool) ( if decide (x.To<(-1)) then some true else some (decide (x.To>=(p.Stands.length:Int)))) fun x2=>.bind (α:=Bool) ( if x2 then some true else .bind (α:=Bool) ( if x.To==(-1) then some (decide ((x.Moves.length:Int)>0)) else some false) fun x3=>some x3) fun x4=>.bind (α:=Bool) ( if x4 then some true else let x5:=decide ((x.Moves.length:Int)>(W (2*p.Regs)));
   some x5) fun x6=>if x6 then some false else .bind (α:=Unit ⊕ Unit) ( iter (H02 F p x) F 0) fun z_=>match z_ with
  | .inl _=>some false
  | .inr _=>some true
def K0M (F:Nat):Sm en.D:=⟨67,[.d (.st 4),.d (.st 2)],.d .bool,[],fun x=>I0Q F x.1 x.2⟩
def T05 (F:Nat):=R0 [] 67 ⟨[],[(4,⟨[(5,.d (.int .i64))],[]⟩,[(.ret,⟨[(4,.kb false),(5,.any)],[]⟩),(.ex 0,⟨[(5,.any)],[]⟩)])],[(1,4,10,⟨[(10,.any),(17,.d .bool)],[]⟩),(1,12,21,⟨[(18,.any),(28,.d .bool)],[]⟩),(1,16,20,⟨[(22,.any),(27,.d .bool)],[]⟩),(1,23,30,⟨[(29,.any),(37,.d .bool)],[]⟩),(7,4,9,⟨[(53,.any),(59,.d .bool)],[]⟩),(7,11,14,⟨[(60,.any),(64,.d .bool)],[]⟩),(7,16,21,⟨[(65,.any),(71,.d .bool)],[]⟩),(7,23,28,⟨[(72,.any),(78,.d .bool)],[]⟩)],[]⟩ F
def H0t (F:Nat) (p:b0D) (i:Int) (d:Int):Option (T0 Int (Unit ⊕ Unit)):=match d with
 | t=>let x12:=decide (t<(((gt p.Stands i).Accept).length:Int));
 if x12 then if y0 ((gt p.Stands i).Accept) t then let x13:=decide ((gt ((gt p.Stands i).Accept) t)<(-2));
   .bind (α:=Bool) ( if x13 then some true else if y0 ((gt p.Stands i).Accept) t then let x14:=decide ((gt ((gt p.Stands i).Accept) t)>=p.Regs);
      some x14 else none) fun x15=>if x15 then some (.done (.inl ())) else some (.next (W (t+1))) else none else some (.done (.inr ()))
def H0r (F:Nat) (p:b0D) (least:List Int) (i:Int) (d:Int):Option (T0 Int (Unit ⊕ Unit)):=match d with
 | c=>if decide (c<(least.length:Int)) then if y0 ((gt p.Stands i).c0s) c then .bind (I0Q F p (gt ((gt p.Stands i).c0s) c)) fun way=>if !way then some (.done (.inl ())) else some (.next (W (c+1))) else none else some (.done (.inr ()))
def I0s (F:Nat) (p:b0D) (least:List Int) (d:Int):Option (T0 Int (Unit ⊕ Unit)):=match d with
 | i=>if decide (i<(p.Stands.length:Int)) then if y0 p.Stands i then .bind (α:=Bool) ( if (((gt p.Stands i).Accept).length:Int) != 0 then let x8:=(((gt p.Stands i).Accept).length:Int) != p.Tags;
     some x8 else some false) fun x9=>.bind (α:=Bool) ( if x9 then some true else let x10:=(((gt p.Stands i).c0s).length:Int) != (least.length:Int);
     some x10) fun x11=>if x11 then some (.done (.inl ())) else .bind (α:=Unit ⊕ Unit) ( iter (H0t F p i) F 0) fun z_=>match z_ with
    | .inl _=>some (.done (.inl ()))
    | .inr _=>.bind (α:=Unit ⊕ Unit) ( iter (H0r F p least i) F 0) fun z_=>match z_ with
     | .inl _=>some (.done (.inl ()))
     | .inr _=>some (.next (W (i+1))) else none else some (.done (.inr ()))
def I0Y (F:Nat) (p:b0D):Option Bool:=.bind (α:=Bool) ( if decide (p.Tags<1) then some true else some (decide (p.Tags>19))) fun x=>.bind (α:=Bool) ( if x then some true else some ((p.Tags.tmod 2)==0)) fun x2=>.bind (α:=Bool) ( if x2 then some true else some (decide (p.Regs<1))) fun x3=>.bind (α:=Bool) ( if x3 then some true else some (decide (p.Regs>1217))) fun x4=>.bind (α:=Bool) ( if x4 then some true else some (decide ((p.Stands.length:Int)<1))) fun x5=>.bind (α:=Bool) ( if x5 then some true else some (decide ((p.Stands.length:Int)>400))) fun x6=>.bind (α:=Bool) ( if x6 then some true else .bind (c0t F p.Class) fun right=>some (!right)) fun x7=>if x7 then some false else .bind (g0b F p.Class) fun least=>.bind (α:=Unit ⊕ Unit) ( iter (I0s F p least) F 0) fun z_=>match z_ with
  | .inl _=>some false
  | .inr _=>some true
def M0g (F:Nat):Sm en.D:=⟨31,[.d (.st 4)],.d .bool,[],fun x=>I0Y F x⟩
def P0X (F:Nat):=R0 [e0f F,j06 F,K0M F] 31 ⟨[],[(11,⟨[(6,.d (.int .i64))],[]⟩,[(.ret,⟨[(2,.kb false),(6,.any)],[]⟩),(.ex 2,⟨[(6,.any)],[]⟩)]),(16,⟨[(7,.d (.int .i64))],[]⟩,[(.ret,⟨[(2,.kb false),(7,.any)],[]⟩),(.ex 4,⟨[(7,.any)],[]⟩)]),(5,⟨[(4,.d (.int .i64))],[]⟩,[(.ret,⟨[(2,.kb false),(4,.any)],[]⟩),(.ex 0,⟨[(4,.any)],[]⟩)])],[(1,4,7,⟨[(11,.any),(15,.d .bool)],[]⟩),(1,9,13,⟨[(16,.any),(21,.d .bool)],[]⟩),(1,15,18,⟨[(22,.any),(26,.d .bool)],[]⟩),(1,20,23,⟨[(27,.any),(31,.d .bool)],[]⟩),(1,25,29,⟨[(32,.any),(37,.d .bool)],[]⟩),(1,31,35,⟨[(38,.any),(43,.d .bool)],[]⟩),(1,37,41,⟨[(44,.any),(49,.d .bool)],[]⟩),(8,5,11,⟨[(70,.any),(77,.d .bool)],[]⟩),(8,13,18,⟨[(78,.any),(84,.d .bool)],[]⟩),(13,7,15,⟨[(98,.any),(107,.d .bool)],[]⟩)],[]⟩ F
def H0D (F:Nat) (p:b0D) (n_:Int):Option (t0v×Int):=.bind (I0Y F p) fun right=>.bind (G0P F right n_) fun bad=>if bad != 0 then some ((⟨0,0,0,0⟩:t0v),bad) else some ((⟨0,W ((W (n_+1))*(W (1+(W (2*p.Regs))))),0,p.Regs⟩:t0v),0)
def I0q (F:Nat):Sm en.D:=⟨14,[.d (.st 4),.d (.int .i64)],.tup [.d (.st 5),.d (.int .i64)],[],fun x=>H0D F x.1 x.2⟩
def W0U (F:Nat):=R0 [M0g F,I0z F] 14 U1 F
def C02 (F:Nat) (a:List Int) (b:List Int):Option (List Int):=if C1 8 ([]:List Int) a then if C1 8 ([]++a) b then some (([]++a)++b) else none else none
def I0Z (F:Nat):Sm en.D:=⟨186,[.d (.list (.int .i64)),.d (.list (.int .i64))],.own 3 (.int .i64),[],fun x=>C02 F x.1 x.2⟩
def S0Y (F:Nat):=R0 [] 186 U1 F
def B08 (F:Nat):Nat->(List U0)->(List Bool)->Int->Option (List Int)
 | 0,_,_,_=>none
 | n+1,l,can,q=>.bind (α:=List Int) ( if y0 l q then if ((gt l q).Kind)==3 then if y0 l q then .bind (B08 F n l can ((gt l q).A)) fun of=>if C1 8 [W (2*q)] of then if y0 l q then .bind (B08 F n l can ((gt l q).B)) fun of2=>if C1 8 ([W (2*q)]++of) of2 then some (([W (2*q)]++of)++of2) else none else none else none else none else if ((gt l q).Kind)==4 then if y0 l q then if y0 can ((gt l q).A) then if gt can ((gt l q).A) then if y0 l q then .bind (B08 F n l can ((gt l q).A)) fun of3=>if C1 8 [W (2*q)] of3 then some ([W (2*q)]++of3) else none else none else if y0 l q then .bind (B08 F n l can ((gt l q).B)) fun of4=>if C1 8 [W (2*q)] of4 then some ([W (2*q)]++of4) else none else none else none else none else .bind (α:=Bool) ( if ((gt l q).Kind)==7 then some (((gt l q).Kind)==7) else some (((gt l q).Kind)==8)) fun x=>if x then if y0 l q then .bind (B08 F n l can ((gt l q).A)) fun of5=>if C1 8 [W (2*q)] of5 then some ([W (2*q)]++of5) else none else none else some [W (2*q)] else none) fun out=>if C1 8 out [W ((W (2*q))+1)] then some (out++[W ((W (2*q))+1)]) else none
def F0G (F n:Nat):Sm en.D:=⟨187,[.d (.list (.st 0)),.d (.list .bool),.d (.int .i64)],.own 3 (.int .i64),[],fun x=>B08 F n x.1 x.2.1 x.2.2⟩
def P0S (F n:Nat):=R0 [F0G F n] 187 ⟨[(12,[(.nrm,⟨[(68,.d .bool)],[]⟩)]),(13,[(.nrm,⟨[(7,.own 3 (.int .i64))],[(0,.any)]⟩)])],[],[],[]⟩ F
def C0h (F:Nat):Nat->(List U0)->(List Int)->(List Bool)->Int->(List Int)->Option (List E1)
 | 0,_,_,_,_,_=>none
 | n+1,l,index,can,q,ahead=>if y0 l q then .bind (C02 F ahead [W (2*q)]) fun put=>if ((gt l q).Kind)==2 then if y0 index q then some [(⟨gt index q,0,put⟩:E1)] else none else if ((gt l q).Kind)==3 then .bind (C0h F n l index can ((gt l q).A) put) fun b0r=>.bind (α:=List E1) ( if y0 can ((gt l q).A) then if gt can ((gt l q).A) then .bind (B08 F F l can ((gt l q).A)) fun of=>.bind (C02 F put of) fun put2=>.bind (C0h F n l index can ((gt l q).B) put2) fun into2=>if C1 40 b0r into2 then some (b0r++into2) else none else some b0r else none) fun out=>some out else if ((gt l q).Kind)==4 then .bind (C0h F n l index can ((gt l q).A) put) fun into3=>.bind (C0h F n l index can ((gt l q).B) put) fun into4=>if C1 40 into3 into4 then some (into3++into4) else none else .bind (α:=Bool) ( if ((gt l q).Kind)==5 then some (((gt l q).Kind)==5) else if ((gt l q).Kind)==6 then some (((gt l q).Kind)==6) else if ((gt l q).Kind)==7 then some (((gt l q).Kind)==7) else some (((gt l q).Kind)==8)) fun x=>if x then .bind (C0h F n l index can ((gt l q).A) put) fun into5=>some into5 else some [] else none
def G0U (F n:Nat):Sm en.D:=⟨160,[.d (.list (.st 0)),.d (.list (.int .i64)),.d (.list .bool),.d (.int .i64),.d (.list (.int .i64))],.own 194 (.st 10),[],fun x=>C0h F n x.1 x.2.1 x.2.2.1 x.2.2.2.1 x.2.2.2.2⟩
def P0o (F n:Nat):=R0 [G0U F n,I0Z F,F0G F F] 160 ⟨[(10,[(.nrm,⟨[(13,.own 194 (.st 10))],[(3,.any)]⟩)]),(17,[(.nrm,⟨[(81,.d .bool)],[]⟩)])],[],[],[]⟩ F
def J0F (F:Nat) (l:List U0) (d:Int×Int×(List Int)):Option (T0 (Int×Int×(List Int)) (List Int)):=match d with
 | (many,i,y)=>if decide (i<(l.length:Int)) then .bind (α:=Int×(List Int)) ( if y0 y i then if y0 l i then if ((gt l i).Kind)==2 then if y0 (y.set i.toNat (-1)) i then some (W (many+1),(y.set i.toNat (-1)).set i.toNat many) else none else some (many,y.set i.toNat (-1)) else none else none) fun (many2,y2)=>some (.next (many2,W (i+1),y2)) else some (.done y)
def D0x (F:Nat) (l:List U0):Option (List Int):=.bind (C0n F l) fun right=>if !right then some [] else if S5 8 (l.length:Int) then .bind (α:=List Int) ( iter (J0F F l) F (0,0,(List.replicate (l.length:Int).toNat 0:List Int))) fun y3=>some y3 else none
def I0R (F:Nat):Sm en.D:=⟨161,[.d (.list (.st 0))],.own 3 (.int .i64),[],fun x=>D0x F x⟩
def T0e (F:Nat):=R0 [D0J F] 161 ⟨[(6,[(.nrm,⟨[(4,.d (.int .i64))],[(0,.own 3 (.int .i64))]⟩)])],[(5,⟨[(4,.d (.int .i64)),(5,.d (.int .i64))],[(0,.own 3 (.int .i64))]⟩,[(.ex 0,⟨[(4,.any),(5,.any)],[(0,.own 3 (.int .i64))]⟩)])],[],[]⟩ F
def J0Y (F:Nat) (l:List U0) (d:Int×(List Bool)):Option (T0 (Int×(List Bool)) (List Bool)):=match d with
 | (i,y)=>if decide (i<(l.length:Int)) then .bind (α:=List Bool) ( if y0 l i then .bind (α:=Bool) ( if ((gt l i).Kind)==1 then some (((gt l i).Kind)==1) else if ((gt l i).Kind)==5 then some (((gt l i).Kind)==5) else some (((gt l i).Kind)==6)) fun x=>if x then if y0 y i then some (y.set i.toNat true) else none else if ((gt l i).Kind)==3 then if y0 l i then if y0 y ((gt l i).A) then .bind (α:=Bool) ( if gt y ((gt l i).A) then if y0 l i then if y0 y ((gt l i).B) then some (gt y ((gt l i).B)) else none else none else some false) fun x2=>if y0 y i then some (y.set i.toNat x2) else none else none else none else if ((gt l i).Kind)==4 then if y0 l i then if y0 y ((gt l i).A) then .bind (α:=Bool) ( if gt y ((gt l i).A) then some true else if y0 l i then if y0 y ((gt l i).B) then some (gt y ((gt l i).B)) else none else none) fun x3=>if y0 y i then some (y.set i.toNat x3) else none else none else none else .bind (α:=Bool) ( if ((gt l i).Kind)==7 then some (((gt l i).Kind)==7) else some (((gt l i).Kind)==8)) fun x4=>if x4 then if y0 l i then if y0 y ((gt l i).A) then if y0 y i then some (y.set i.toNat (gt y ((gt l i).A))) else none else none else none else some y else none) fun y2=>some (.next (W (i+1),y2)) else some (.done y)
def D0k (F:Nat) (l:List U0):Option (List Bool):=.bind (C0n F l) fun right=>if !right then some [] else if S5 1 (l.length:Int) then .bind (α:=List Bool) ( iter (J0Y F l) F (0,(List.replicate (l.length:Int).toNat false:List Bool))) fun y3=>some y3 else none
def G0N (F:Nat):Sm en.D:=⟨162,[.d (.list (.st 0))],.own 4 .bool,[],fun x=>D0k F x⟩
def V0d (F:Nat):=R0 [D0J F] 162 ⟨[(11,[(.nrm,⟨[(22,.d .bool)],[]⟩)]),(18,[(.nrm,⟨[(75,.d .bool)],[]⟩)]),(6,[(.nrm,⟨[],[(0,.own 4 .bool)]⟩)])],[(5,⟨[(4,.d (.int .i64))],[(0,.own 4 .bool)]⟩,[(.ex 0,⟨[(4,.any)],[(0,.own 4 .bool)]⟩)])],[(13,11,19,⟨[(41,.any),(50,.d .bool)],[]⟩),(15,11,19,⟨[(64,.any),(73,.d .bool)],[]⟩)],[]⟩ F
def D0V (F:Nat) (l:List U0) (q:Int):Option (List E1):=.bind (C0n F l) fun right=>.bind (α:=Bool) ( if !right then some true else some (decide (q<0))) fun x=>.bind (α:=Bool) ( if x then some true else some (decide (q>=(l.length:Int)))) fun x2=>if x2 then some [] else .bind (D0x F l) fun index=>.bind (D0k F l) fun can=>.bind (C0h F F l index can q []) fun b0r=>some b0r
def K0P (F:Nat):Sm en.D:=⟨118,[.d (.list (.st 0)),.d (.int .i64)],.own 194 (.st 10),[],fun x=>D0V F x.1 x.2⟩
def W06 (F:Nat):=R0 [D0J F,G0U F F,I0R F,G0N F] 118 ⟨[],[],[(1,4,6,⟨[(8,.any),(11,.d .bool)],[]⟩),(1,8,12,⟨[(12,.any),(17,.d .bool)],[]⟩)],[]⟩ F
def L0V (F:Nat) (l:List U0) (d:Int×(List Int)):Option (T0 (Int×(List Int)) (List Int)):=match d with
 | (i,y)=>if decide (i<(l.length:Int)) then if y0 y i then some (.next (W (i+1),y.set i.toNat (-1))) else none else some (.done y)
def M0o (F:Nat) (l:List U0) (d:Int×(List Int)):Option (T0 (Int×(List Int)) (List Int)):=match d with
 | (i2,y3)=>if decide (i2<(l.length:Int)) then .bind (α:=List Int) ( .bind (α:=List Int) ( if y0 l i2 then if decide (((gt l i2).A)>=0) then if y0 l i2 then if y0 y3 ((gt l i2).A) then some (y3.set ((gt l i2).A).toNat i2) else none else none else some y3 else none) fun y4=>if y0 l i2 then if decide (((gt l i2).B)>=0) then if y0 l i2 then if y0 y4 ((gt l i2).B) then some (y4.set ((gt l i2).B).toNat i2) else none else none else some y4 else none) fun y5=>some (.next (W (i2+1),y5)) else some (.done y3)
def D0E (F:Nat) (l:List U0):Option (List Int):=.bind (C0n F l) fun right=>if !right then some [] else if S5 8 (l.length:Int) then .bind (α:=List Int) ( iter (L0V F l) F (0,(List.replicate (l.length:Int).toNat 0:List Int))) fun y2=>.bind (α:=List Int) ( iter (M0o F l) F (0,y2)) fun y6=>some y6 else none
def I0g (F:Nat):Sm en.D:=⟨188,[.d (.list (.st 0))],.own 3 (.int .i64),[],fun x=>D0E F x⟩
def S0D (F:Nat):=R0 [D0J F] 188 ⟨[(10,[(.nrm,⟨[],[(0,.own 3 (.int .i64))]⟩)]),(13,[(.nrm,⟨[],[(0,.own 3 (.int .i64))]⟩)])],[(5,⟨[(4,.d (.int .i64))],[(0,.own 3 (.int .i64))]⟩,[(.ex 0,⟨[(4,.any)],[(0,.own 3 (.int .i64))]⟩)]),(9,⟨[(5,.d (.int .i64))],[(0,.own 3 (.int .i64))]⟩,[(.ex 2,⟨[(5,.any)],[(0,.own 3 (.int .i64))]⟩)])],[],[]⟩ F
def L0X (F:Nat) (up:List Int) (d:Int×(List Int)):Option (T0 (Int×(List Int)) (List Int)):=match d with
 | (i,y)=>if decide (i>=0) then .bind (α:=List Int) ( if y0 y i then if y0 up i then if decide ((gt up i)>=0) then if y0 up i then if y0 (y.set i.toNat 1) (gt up i) then if y0 (y.set i.toNat 1) i then let l2:=(y.set i.toNat 1).set i.toNat (W ((gt (y.set i.toNat 1) (gt up i))+1));
         some l2 else none else none else none else some (y.set i.toNat 1) else none else none) fun y2=>some (.next (W (i-1),y2)) else some (.done y)
def D0D (F:Nat) (l:List U0):Option (List Int):=.bind (D0E F l) fun up=>if S5 8 (up.length:Int) then .bind (α:=List Int) ( iter (L0X F up) F (W ((up.length:Int)-1),(List.replicate (up.length:Int).toNat 0:List Int))) fun y3=>some y3 else none
def I0N (F:Nat):Sm en.D:=⟨189,[.d (.list (.st 0))],.own 3 (.int .i64),[],fun x=>D0D F x⟩
def T0x (F:Nat):=R0 [I0g F] 189 ⟨[(5,[(.nrm,⟨[],[(1,.own 3 (.int .i64))]⟩)])],[(4,⟨[(5,.d (.int .i64))],[(1,.own 3 (.int .i64))]⟩,[(.ex 0,⟨[(5,.any)],[(1,.own 3 (.int .i64))]⟩)])],[],[]⟩ F
def K0h (F:Nat) (l:List E1) (p:Int) (d:Int):Option (T0 Int (Unit ⊕ Unit)):=match d with
 | i=>if decide (i<(l.length:Int)) then if y0 l i then if ((gt l i).To)==p then some (.done (.inl ())) else some (.next (W (i+1))) else none else some (.done (.inr ()))
def D02 (F:Nat) (l:List E1) (p:Int):Option Bool:=.bind (α:=Unit ⊕ Unit) ( iter (K0h F l p) F 0) fun z_=>match z_ with
 | .inl _=>some true
 | .inr _=>some false
def K0q (F:Nat):Sm en.D:=⟨190,[.d (.list (.st 10)),.d (.int .i64)],.d .bool,[],fun x=>D02 F x.1 x.2⟩
def Q0m (F:Nat):=R0 [] 190 ⟨[],[(2,⟨[(5,.d (.int .i64))],[]⟩,[(.ret,⟨[(4,.kb true),(5,.any)],[]⟩),(.ex 0,⟨[(5,.any)],[]⟩)])],[],[]⟩ F
def J06 (F:Nat) (up:List Int) (deep:List Int) (q:Int) (d:(List Int)×(List E1)×Int×(List E1)):Option (T0 ((List Int)×(List E1)×Int×(List E1)) ((List Int)×(List E1))):=match d with
 | (s2,out2,i,y)=>if decide (i<(y.length:Int)) then .bind (α:=(List E1)×(List E1)) ( if y0 y i then .bind (D02 F out2 ((gt y i).To)) fun known=>if !known then if y0 deep (gt up q) then if y0 y i then let l2:=y.set i.toNat ({ gt y i with Turn:=gt deep (gt up q) });
       if y0 l2 i then if C1 40 out2 [gt l2 i] then some (out2++[gt l2 i],l2) else none else none else none else none else some (out2,y) else none) fun (out3,y2)=>some (.next (s2,out3,W (i+1),y2)) else some (.done (s2,out2))
def L0y (F:Nat) (l:List U0) (up:List Int) (deep:List Int) (d:(List Int)×(List Bool)×Int×(List Int)×(List E1)):Option (T0 ((List Int)×(List Bool)×Int×(List Int)×(List E1)) (((List E1)×E1) ⊕ ((List Int)×(List E1)))):=match d with
 | (index2,can2,q,s,out)=>if y0 up q then if decide ((gt up q)>=0) then if y0 up q then .bind (α:=Int) ( if y0 l (gt up q) then .bind (α:=Bool) ( if ((gt l (gt up q)).Kind)==3 then if y0 l (gt up q) then some (((gt l (gt up q)).A)==q) else none else some false) fun x=>if x then if y0 l (gt up q) then some ((gt l (gt up q)).B) else none else some (-1) else none) fun goal=>.bind (α:=Int) ( if y0 l (gt up q) then if ((gt l (gt up q)).Kind)==5 then if y0 l (gt up q) then some ((gt l (gt up q)).A) else none else some goal else none) fun goal2=>.bind (α:=(List Int)×(List E1)) ( if decide (goal2>=0) then .bind (C0h F F l index2 can2 goal2 s) fun b0r=>.bind (α:=(List Int)×(List E1)) ( iter (J06 F up deep q) F (s,out,0,b0r)) fun (s3,out4)=>some (s3,out4) else some (s,out)) fun (s4,out5)=>.bind (α:=((List E1)×E1) ⊕ (List Int)) ( if y0 l (gt up q) then .bind (α:=Bool) ( if ((gt l (gt up q)).Kind)==3 then if y0 l (gt up q) then some (((gt l (gt up q)).A)==q) else none else some false) fun x2=>if x2 then if y0 can2 goal2 then if !(gt can2 goal2) then some (.inl (out5,(⟨0,0,[]⟩:E1))) else .bind (B08 F F l can2 goal2) fun of=>.bind (C02 F s4 of) fun put=>some (.inr put) else none else some (.inr s4) else none) fun z_=>match z_ with
    | .inl (x3,y3)=>some (.done (.inl (x3,y3)))
    | .inr s5=>.bind (C02 F s5 [W ((W (2*(gt up q)))+1)]) fun put2=>some (.next (index2,can2,gt up q,put2,out5)) else none else some (.done (.inr (s,out))) else none
def D0w (F:Nat) (l:List U0) (p:Int):Option ((List E1)×E1×Bool):=.bind (D0E F l) fun up=>.bind (D0D F l) fun deep=>.bind (D0x F l) fun index=>.bind (D0k F l) fun can=>.bind (C0z F l) fun leaves=>if y0 leaves p then .bind (α:=((List E1)×E1) ⊕ ((List Int)×(List E1))) ( iter (L0y F l up deep) F (index,can,gt leaves p,[W ((W (2*(gt leaves p)))+1)],[])) fun z_=>match z_ with
  | .inl (x4,y4)=>some (x4,y4,false)
  | .inr (s6,out6)=>some (out6,(⟨(-1),0,s6⟩:E1),true) else none
def I0V (F:Nat):Sm en.D:=⟨163,[.d (.list (.st 0)),.d (.int .i64)],.tup [.own 194 (.st 10),.d (.st 10),.d .bool],[],fun x=>D0w F x.1 x.2⟩
def X0k (F:Nat):=R0 [E0t F,G0U F F,I0R F,G0N F,I0Z F,F0G F F,I0g F,I0N F,K0q F] 163 ⟨[(10,[(.nrm,⟨[(15,.d (.int .i64))],[]⟩)]),(12,[(.nrm,⟨[(15,.d (.int .i64))],[]⟩)]),(16,[(.nrm,⟨[(13,.own 194 (.st 10))],[(9,.own 194 (.st 10)),(10,.any)]⟩)]),(20,[(.nrm,⟨[(12,.d (.list (.int .i64))),(13,.own 194 (.st 10))],[(7,.any),(8,.any)]⟩)]),(24,[(.ret,⟨[(4,.own 194 (.st 10)),(6,.kb false)],[(0,.box 194 [.d (.st 10)]),(9,.any)]⟩),(.nrm,⟨[(12,.d (.list (.int .i64)))],[]⟩)])],[(15,⟨[(12,.d (.list (.int .i64))),(13,.own 194 (.st 10)),(17,.d (.int .i64))],[(7,.any),(8,.any),(9,.own 194 (.st 10))]⟩,[(.ex 2,⟨[(12,.d (.list (.int .i64))),(13,.own 194 (.st 10)),(17,.any)],[(7,.any),(8,.any),(9,.any)]⟩)]),(5,⟨[(9,.d (.list (.int .i64))),(10,.d (.list .bool)),(11,.d (.int .i64)),(12,.own 3 (.int .i64)),(13,.own 194 (.st 10))],[(3,.any),(4,.any),(6,.any)]⟩,[(.ret,⟨[(4,.own 194 (.st 10)),(6,.kb false),(9,.any),(10,.any),(11,.any),(12,.any),(13,.any)],[(0,.box 194 [.d (.st 10)]),(3,.any),(4,.any),(6,.any)]⟩),(.ex 0,⟨[(9,.any),(10,.any),(11,.any),(12,.own 3 (.int .i64)),(13,.own 194 (.st 10))],[(3,.any),(4,.any),(6,.any)]⟩)])],[(8,7,14,⟨[(50,.any),(58,.d .bool)],[]⟩),(20,7,14,⟨[(118,.any),(126,.d .bool)],[]⟩)],[]⟩ F
def L0p (F:Nat) (climb:List E1) (r:Int) (d:(List E1)×Int):Option (T0 ((List E1)×Int) (List E1)):=match d with
 | (out2,i)=>if decide (i<(climb.length:Int)) then .bind (α:=List E1) ( if y0 climb i then if ((gt climb i).To)==r then if y0 climb i then if C1 40 out2 [gt climb i] then some (out2++[gt climb i]) else none else none else some out2 else none) fun out3=>some (.next (out3,W (i+1))) else some (.done out2)
def K09 (F:Nat) (l:List U0) (climb:List E1) (d:(List E1)×Int):Option (T0 ((List E1)×Int) (List E1)):=match d with
 | (out,r)=>.bind (C0z F l) fun leaves2=>if decide (r<(leaves2.length:Int)) then .bind (α:=List E1) ( iter (L0p F climb r) F (out,0)) fun out4=>some (.next (out4,W (r+1))) else some (.done out)
def D0N (F:Nat) (l:List U0) (p:Int):Option (List E1):=.bind (α:=Bool) ( if decide (p<0) then some true else .bind (C0z F l) fun leaves=>some (decide (p>=(leaves.length:Int)))) fun x=>if x then some [] else .bind (D0w F l p) fun (climb,climb2,climb3)=>.bind (α:=List E1) ( iter (K09 F l climb) F ([],0)) fun out5=>some out5
def L0C (F:Nat):Sm en.D:=⟨119,[.d (.list (.st 0)),.d (.int .i64)],.own 194 (.st 10),[],fun x=>D0N F x.1 x.2⟩
def S0t (F:Nat):=R0 [E0t F,I0V F] 119 ⟨[(10,[(.nrm,⟨[(8,.own 194 (.st 10))],[(4,.any)]⟩)])],[(6,⟨[(8,.own 194 (.st 10)),(9,.d (.int .i64))],[]⟩,[(.ex 0,⟨[(8,.own 194 (.st 10)),(9,.any)],[]⟩)]),(9,⟨[(8,.own 194 (.st 10)),(10,.d (.int .i64))],[(2,.any),(3,.any)]⟩,[(.ex 2,⟨[(8,.own 194 (.st 10)),(10,.any)],[(2,.any),(3,.any)]⟩)])],[(1,3,8,⟨[(13,.any),(19,.d .bool)],[]⟩)],[]⟩ F
def D0X (F:Nat) (l:List U0) (q:Int):Option (List Int):=.bind (D0k F l) fun can=>.bind (α:=Bool) ( if decide (q<0) then some true else some (decide (q>=(can.length:Int)))) fun x=>.bind (α:=Bool) ( if x then some true else if y0 can q then some (!(gt can q)) else none) fun x2=>if x2 then some [] else .bind (B08 F F l can q) fun of=>some of
def L03 (F:Nat):Sm en.D:=⟨164,[.d (.list (.st 0)),.d (.int .i64)],.own 3 (.int .i64),[],fun x=>D0X F x.1 x.2⟩
def P0z (F:Nat):=R0 [G0N F,F0G F F] 164 ⟨[],[],[(2,3,7,⟨[(10,.any),(15,.d .bool)],[]⟩),(2,9,14,⟨[(16,.any),(22,.d .bool)],[]⟩)],[]⟩ F
def D0c (F:Nat) (l:List U0) (p:Int):Option (E1×Bool):=.bind (α:=Bool) ( if decide (p<(-1)) then some true else .bind (C0n F l) fun right=>some (!right)) fun x=>.bind (α:=Bool) ( if x then some true else .bind (C0z F l) fun leaves=>some (decide (p>=(leaves.length:Int)))) fun x2=>if x2 then some ((⟨0,0,[]⟩:E1),false) else if p==(-1) then .bind (D0X F l (W ((l.length:Int)-1))) fun steps=>if (steps.length:Int)==0 then some ((⟨0,0,[]⟩:E1),false) else some ((⟨(-1),0,steps⟩:E1),true) else .bind (D0w F l p) fun (climb,climb2,climb3)=>some (climb2,climb3)
def I0F (F:Nat):Sm en.D:=⟨120,[.d (.list (.st 0)),.d (.int .i64)],.tup [.d (.st 10),.d .bool],[],fun x=>D0c F x.1 x.2⟩
def W0J (F:Nat):=R0 [D0J F,E0t F,I0V F,L03 F] 120 ⟨[],[],[(1,3,6,⟨[(12,.any),(16,.d .bool)],[]⟩),(1,8,13,⟨[(17,.any),(23,.d .bool)],[]⟩)],[]⟩ F
def G0B (F:Nat) (l:List U0) (d:(Int×((List U0)×(List Int)×(List E1)×(List (List E1))×(List (List Int))×Int×Int×P1))):Option (T0 (Int×((List U0)×(List Int)×(List E1)×(List (List E1))×(List (List Int))×Int×Int×P1)) ((List U0)×(List Int)×(List E1)×(List (List E1))×(List (List Int))×Int×Int×P1)):=match d with
 | (p,(L,Leaves,First,Hops,Ends,At,Work,Rank))=>if decide (p<(Leaves.length:Int)) then .bind (D0N F l p) fun from_=>if C1 24 Hops [from_] then .bind (D0c F l p) fun (end_,end_2)=>if C1 24 Ends [end_.Steps] then some (.next (W (p+1),(L,Leaves,First,Hops++[from_],Ends++[end_.Steps],At,Work,Rank))) else none else none else some (.done (L,Leaves,First,Hops,Ends,At,Work,Rank))
def J0h (F:Nat) (l:List U0):Option B07:=.bind (C0z F l) fun leaves=>.bind (D0V F l (W ((l.length:Int)-1))) fun first=>.bind (α:=(List U0)×(List Int)×(List E1)×(List (List E1))×(List (List Int))×Int×Int×P1) ( iter (G0B F l) F (0,(l,leaves,first,[],[],0,0,(⟨[],[]⟩:P1)))) fun (L2,Leaves2,First2,Hops2,Ends2,At2,Work2,Rank2)=>some (⟨L2,Leaves2,First2,Hops2,Ends2,At2,Work2,[],[],Rank2⟩:B07)
def K06 (F:Nat):Sm en.D:=⟨85,[.d (.list (.st 0))],.d (.st 12),[],fun x=>J0h F x⟩
def Q0V (F:Nat):=R0 [E0t F,K0P F,L0C F,I0F F] 85 ⟨[],[(3,⟨[(4,.d (.int .i64))],[(1,.any),(2,.any),(3,.box 72 [.d (.list (.st 0)),.own 3 (.int .i64),.own 194 (.st 10),.own 66 (.list (.st 10)),.own 23 (.list (.int .i64)),.d (.int .i64),.d (.int .i64),.nil,.nil,.d (.st 11)])]⟩,[(.ex 0,⟨[(4,.any)],[(1,.any),(2,.any),(3,.box 72 [.d (.list (.st 0)),.own 3 (.int .i64),.own 194 (.st 10),.own 66 (.list (.st 10)),.own 23 (.list (.int .i64)),.d (.int .i64),.d (.int .i64),.nil,.nil,.d (.st 11)])]⟩)])],[],[]⟩ F
def H0d (F:Nat) (marks:List Z2) (now:Int) (none_:Int) (d:Int×(List Int)):Option (T0 (Int×(List Int)) (List Int)):=match d with
 | (i,y)=>if decide (i<(marks.length:Int)) then .bind (α:=List Int) ( if y0 marks i then .bind (α:=Bool) ( if decide (((gt marks i).Group)<1) then some true else let x:=decide (((gt marks i).Group)>(y.length:Int));
      some x) fun x2=>.bind (α:=Bool) ( if x2 then some true else let x3:=decide ((W (2*((gt marks i).Group)))>=(y.length:Int));
      some x3) fun x4=>if x4 then some y else if y0 marks i then if ((gt marks i).Kind)==1 then if y0 y (W ((W (2*((gt marks i).Group)))-1)) then let l:=y.set (W ((W (2*((gt marks i).Group)))-1)).toNat now;
        some l else none else if ((gt marks i).Kind)==2 then if y0 y (W (2*((gt marks i).Group))) then let l2:=y.set (W (2*((gt marks i).Group))).toNat now;
         some l2 else none else if ((gt marks i).Kind)==3 then if y0 y (W ((W (2*((gt marks i).Group)))-1)) then let l3:=y.set (W ((W (2*((gt marks i).Group)))-1)).toNat none_;
          if y0 l3 (W (2*((gt marks i).Group))) then let l4:=l3.set (W (2*((gt marks i).Group))).toNat none_;
           some l4 else none else none else some y else none else none) fun y2=>some (.next (W (i+1),y2)) else some (.done y)
def F0S (F:Nat) (tags:List Int) (marks:List Z2) (now:Int) (none_:Int):Option (List Int):=if C1 8 ([]:List Int) tags then .bind (α:=List Int) ( iter (H0d F marks now none_) F (0,[]++tags)) fun y3=>some y3 else none
def H0y (F:Nat):Sm en.D:=⟨121,[.d (.list (.int .i64)),.d (.list (.st 16)),.d (.int .i64),.d (.int .i64)],.own 3 (.int .i64),[],fun x=>F0S F x.1 x.2.1 x.2.2.1 x.2.2.2⟩
def T0b (F:Nat):=R0 [] 121 ⟨[(4,[(.nrm,⟨[],[(1,.own 3 (.int .i64))]⟩)])],[(3,⟨[(10,.d (.int .i64))],[(1,.own 3 (.int .i64))]⟩,[(.ex 0,⟨[(10,.any)],[(1,.own 3 (.int .i64))]⟩)])],[(6,3,7,⟨[(28,.any),(33,.d .bool)],[]⟩),(6,9,14,⟨[(34,.any),(40,.d .bool)],[]⟩)],[]⟩ F
def I0a (F:Nat) (n_:Int) (none_:Int) (d:(List Int)×Int):Option (T0 ((List Int)×Int) (List Int)):=match d with
 | (out,i)=>if decide (i<n_) then if C1 8 out [none_] then some (.next (out++[none_],W (i+1))) else none else some (.done out)
def J0C (F:Nat) (n_:Int) (none_:Int):Option (List Int):=.bind (α:=List Int) ( iter (I0a F n_ none_) F ([],0)) fun out2=>some out2
def L08 (F:Nat):Sm en.D:=⟨165,[.d (.int .i64),.d (.int .i64)],.own 3 (.int .i64),[],fun x=>J0C F x.1 x.2⟩
def P03 (F:Nat):=R0 [] 165 ⟨[],[(3,⟨[(5,.own 3 (.int .i64)),(6,.d (.int .i64))],[]⟩,[(.ex 0,⟨[(5,.own 3 (.int .i64)),(6,.any)],[]⟩)])],[],[]⟩ F
def F0V (F:Nat) (c:B07):Option (List Int):=.bind (F0l F c.L) fun tags=>.bind (J0C F tags (-1)) fun fresh=>if y0 fresh 0 then some (fresh.set (0:Int).toNat c.At) else none
def H0V (F:Nat):Sm en.D:=⟨122,[.d (.st 12)],.own 3 (.int .i64),[],fun x=>F0V F x⟩
def X0J (F:Nat):=R0 [F0R F,L08 F] 122 U1 F
def N0O (F:Nat) (groups:List Int) (d:(List Z2)×Int):Option (T0 ((List Z2)×Int) (List Z2)):=match d with
 | (out3,k)=>if decide (k<(groups.length:Int)) then if y0 groups k then if C1 16 out3 [(⟨3,gt groups k⟩:Z2)] then some (.next (out3++[(⟨3,gt groups k⟩:Z2)],W (k+1))) else none else none else some (.done out3)
def G0J (F:Nat) (l:List U0) (steps:List Int) (d:(List Z2)×Int):Option (T0 ((List Z2)×Int) (List Z2)):=match d with
 | (out,i)=>if decide (i<(steps.length:Int)) then .bind (α:=List Z2) ( if y0 steps i then .bind (α:=Bool) ( if decide ((gt steps i)<0) then some true else let x:=decide ((W ((gt steps i).tdiv 2))>=(l.length:Int));
      some x) fun x2=>if x2 then some out else if y0 l (W ((gt steps i).tdiv 2)) then .bind (α:=List Z2) ( if ((gt l (W ((gt steps i).tdiv 2))).Kind)==7 then if C1 16 out [(⟨W (1+((gt steps i).tmod 2)),(gt l (W ((gt steps i).tdiv 2))).N⟩:Z2)] then let l2:=out++[(⟨W (1+((gt steps i).tmod 2)),(gt l (W ((gt steps i).tdiv 2))).N⟩:Z2)];
         some l2 else none else some out) fun out2=>.bind (α:=Bool) ( if ((gt l (W ((gt steps i).tdiv 2))).Kind)==8 then some (((gt steps i).tmod 2)==0) else some false) fun x3=>if x3 then .bind (G0C F l (W ((gt steps i).tdiv 2))) fun groups=>.bind (α:=List Z2) ( iter (N0O F groups) F (out2,0)) fun out4=>some out4 else some out2 else none else none) fun out5=>some (.next (out5,W (i+1))) else some (.done out)
def F0w (F:Nat) (l:List U0) (steps:List Int):Option (List Z2):=.bind (C0n F l) fun right=>if !right then some [] else .bind (α:=List Z2) ( iter (G0J F l steps) F ([],0)) fun out6=>some out6
def H0C (F:Nat):Sm en.D:=⟨123,[.d (.list (.st 0)),.d (.list (.int .i64))],.own 237 (.st 16),[],fun x=>F0w F x.1 x.2⟩
def R0Y (F:Nat):=R0 [D0J F,J0w F] 123 ⟨[(12,[(.nrm,⟨[(5,.own 237 (.st 16))],[(0,.any)]⟩)]),(6,[(.nrm,⟨[(5,.own 237 (.st 16))],[(0,.any)]⟩)])],[(15,⟨[(5,.own 237 (.st 16)),(10,.d (.int .i64))],[(2,.any)]⟩,[(.ex 2,⟨[(5,.own 237 (.st 16)),(10,.any)],[(2,.any)]⟩)]),(5,⟨[(5,.own 237 (.st 16)),(6,.d (.int .i64))],[]⟩,[(.ex 0,⟨[(5,.own 237 (.st 16)),(6,.any)],[]⟩)])],[(8,3,8,⟨[(26,.any),(32,.d .bool)],[]⟩),(12,4,7,⟨[(53,.any),(57,.d .bool)],[]⟩)],[]⟩ F
def I0w (F:Nat) (c:B07):Option ((List Int)×Bool):=.bind (D0c F c.L (-1)) fun (end_,end_2)=>if !end_2 then some ([],false) else .bind (F0V F c) fun begun=>.bind (F0w F c.L end_.Steps) fun of=>.bind (F0S F begun of c.At (-1)) fun apply=>some (apply,true)
def K0f (F:Nat):Sm en.D:=⟨86,[.d (.st 12)],.tup [.own 3 (.int .i64),.d .bool],[],fun x=>I0w F x⟩
def V0h (F:Nat):=R0 [I0F F,H0y F,H0V F,H0C F] 86 U1 F
def I0O (F:Nat) (l:List U0):Option C0T:=.bind (J0h F l) fun new=>.bind (I0w F new) fun (empty,empty2)=>some (⟨new,empty,0,empty2⟩:C0T)
def L0A (F:Nat):Sm en.D:=⟨46,[.d (.list (.st 0))],.d (.st 13),[],fun x=>I0O F x⟩
def P0s (F:Nat):=R0 [K06 F,K0f F] 46 U1 F
def G01 (F:Nat) (x:P1) (n_:Int) (d:Int):Option (T0 Int (Unit ⊕ Unit)):=match d with
 | i=>if decide (i<n_) then if y0 x.B i then .bind (α:=Bool) ( if ((gt x.B i).length:Int) != n_ then some true else if y0 x.D i then some (((gt x.D i).length:Int) != n_) else none) fun x3=>if x3 then some (.done (.inl ())) else some (.next (W (i+1))) else none else some (.done (.inr ()))
def H0K (F:Nat) (x:P1) (n_:Int) (i2:Int) (d:Int):Option (T0 Int (Unit ⊕ Unit)):=match d with
 | k=>if decide (k<n_) then if y0 x.B i2 then if y0 (gt x.B i2) k then .bind (α:=Bool) ( if decide ((gt (gt x.B i2) k)<0) then some true else .bind (α:=Bool) ( if i2==k then if y0 x.B i2 then if y0 (gt x.B i2) k then if (gt (gt x.B i2) k) != 0 then some true else if y0 x.D i2 then if y0 (gt x.D i2) k then some ((gt (gt x.D i2) k) != 0) else none else none else none else none else some false) fun x4=>some x4) fun x5=>if x5 then some (.done (.inl ())) else .bind (α:=Bool) ( if i2 != k then if y0 x.D i2 then if y0 (gt x.D i2) k then .bind (α:=Bool) ( if (gt (gt x.D i2) k) != 1 then if y0 x.D i2 then if y0 (gt x.D i2) k then some ((gt (gt x.D i2) k) != (-1)) else none else none else some false) fun x6=>.bind (α:=Bool) ( if x6 then some true else if y0 x.D k then if y0 (gt x.D k) i2 then if y0 x.D i2 then if y0 (gt x.D i2) k then let x7:=(gt (gt x.D k) i2) != (W (0-(gt (gt x.D i2) k)));
               some x7 else none else none else none else none) fun x8=>some x8 else none else none else some false) fun x9=>if x9 then some (.done (.inl ())) else some (.next (W (k+1))) else none else none else some (.done (.inr ()))
def G0A (F:Nat) (x:P1) (n_:Int) (d:Int):Option (T0 Int (Unit ⊕ Unit)):=match d with
 | i2=>if decide (i2<n_) then .bind (α:=Unit ⊕ Unit) ( iter (H0K F x n_ i2) F 0) fun z_=>match z_ with
  | .inl _=>some (.done (.inl ()))
  | .inr _=>some (.next (W (i2+1))) else some (.done (.inr ()))
def E03 (F:Nat) (x:P1) (n_:Int):Option Bool:=.bind (α:=Bool) ( if (x.B.length:Int) != n_ then some true else some ((x.D.length:Int) != n_)) fun x2=>if x2 then some false else .bind (α:=Unit ⊕ Unit) ( iter (G01 F x n_) F 0) fun z_=>match z_ with
  | .inl _=>some false
  | .inr _=>.bind (α:=Unit ⊕ Unit) ( iter (G0A F x n_) F 0) fun z_=>match z_ with
   | .inl _=>some false
   | .inr _=>some true
def F0O (F:Nat):Sm en.D:=⟨166,[.d (.st 11),.d (.int .i64)],.d .bool,[],fun x=>E03 F x.1 x.2⟩
def P0y (F:Nat):=R0 [] 166 ⟨[],[(12,⟨[(7,.d (.int .i64))],[]⟩,[(.ret,⟨[(4,.kb false),(7,.any)],[]⟩),(.ex 4,⟨[(7,.any)],[]⟩)]),(4,⟨[(5,.d (.int .i64))],[]⟩,[(.ret,⟨[(4,.kb false),(5,.any)],[]⟩),(.ex 0,⟨[(5,.any)],[]⟩)]),(9,⟨[(6,.d (.int .i64))],[]⟩,[(.ret,⟨[(4,.kb false),(6,.any)],[]⟩),(.ex 2,⟨[(6,.any)],[]⟩)])],[(1,6,11,⟨[(13,.any),(19,.d .bool)],[]⟩),(6,9,17,⟨[(33,.any),(42,.d .bool)],[]⟩),(14,10,35,⟨[(62,.any),(88,.d .bool)],[]⟩),(14,14,34,⟨[(66,.any),(87,.d .bool)],[]⟩),(16,4,44,⟨[(92,.any),(133,.d .bool)],[]⟩),(16,14,23,⟨[(102,.any),(112,.d .bool)],[]⟩),(16,25,43,⟨[(113,.any),(132,.d .bool)],[]⟩)],[]⟩ F
def G0T (F:Nat) (n_:Int) (d:(Int×((List (List Int))×(List (List Int))))):Option (T0 (Int×((List (List Int))×(List (List Int)))) ((List (List Int))×(List (List Int)))):=match d with
 | (i,(B,D))=>if decide (i<n_) then if S5 8 n_ then if C1 24 B [(List.replicate n_.toNat 0:List Int)] then if S5 8 n_ then if C1 24 D [(List.replicate n_.toNat 0:List Int)] then some (.next (W (i+1),(B++[(List.replicate n_.toNat 0:List Int)],D++[(List.replicate n_.toNat 0:List Int)]))) else none else none else none else none else some (.done (B,D))
def H0B (F:Nat) (n_:Int):Option ((List (List Int))×(List (List Int))):=.bind (α:=(List (List Int))×(List (List Int))) ( iter (G0T F n_) F (0,([],[]))) fun (B2,D2)=>some (B2,D2)
def J0t (F:Nat):Sm en.D:=⟨167,[.d (.int .i64)],.agg [.M0 23 [3] (.list (.int .i64)),.M0 23 [3] (.list (.int .i64))],[],fun x=>H0B F x⟩
def V0b (F:Nat):=R0 [] 167 ⟨[],[(3,⟨[(4,.d (.int .i64))],[(1,.box 70 [.M0 23 [3] (.list (.int .i64)),.M0 23 [3] (.list (.int .i64))])]⟩,[(.ex 0,⟨[(4,.any)],[(1,.box 70 [.M0 23 [3] (.list (.int .i64)),.M0 23 [3] (.list (.int .i64))])]⟩)])],[],[14,21]⟩ F
def H0n (F:Nat) (x:P1) (i:Int) (d:Int×(List (List Int))×(List (List Int))):Option (T0 (Int×(List (List Int))×(List (List Int))) ((List (List Int))×(List (List Int)))):=match d with
 | (k,y3,y4)=>if decide (k<(x.B.length:Int)) then if y0 y3 i then if y0 x.B i then if y0 (gt x.B i) k then if y0 (gt y3 i) k then let t:=y3.set i.toNat ((gt y3 i).set k.toNat (gt (gt x.B i) k));
      if y0 y4 i then if y0 x.D i then if y0 (gt x.D i) k then if y0 (gt y4 i) k then let t2:=y4.set i.toNat ((gt y4 i).set k.toNat (gt (gt x.D i) k));
          some (.next (W (k+1),t,t2)) else none else none else none else none else none else none else none else none else some (.done (y3,y4))
def H0v (F:Nat) (x:P1) (d:Int×(List (List Int))×(List (List Int))):Option (T0 (Int×(List (List Int))×(List (List Int))) ((List (List Int))×(List (List Int)))):=match d with
 | (i,y,y2)=>if decide (i<(x.B.length:Int)) then .bind (α:=(List (List Int))×(List (List Int))) ( iter (H0n F x i) F (0,y,y2)) fun (y5,y6)=>if y0 y6 i then if y0 (gt y6 i) (x.B.length:Int) then let t3:=y6.set i.toNat ((gt y6 i).set (x.B.length:Int).toNat 1);
    if y0 t3 (x.B.length:Int) then if y0 (gt t3 (x.B.length:Int)) i then let t4:=t3.set (x.B.length:Int).toNat ((gt t3 (x.B.length:Int)).set i.toNat (-1));
      some (.next (W (i+1),y5,t4)) else none else none else none else none else some (.done (y,y2))
def H0l (F:Nat) (x:P1):Option P1:=.bind (E03 F x (x.B.length:Int)) fun right=>if !right then some (⟨[],[]⟩:P1) else .bind (H0B F (W ((x.B.length:Int)+1))) fun (none_,none_2)=>.bind (α:=(List (List Int))×(List (List Int))) ( iter (H0v F x) F (0,none_,none_2)) fun (y7,y8)=>some (⟨y7,y8⟩:P1)
def L0D (F:Nat):Sm en.D:=⟨124,[.d (.st 11)],.d (.st 11),[],fun x=>H0l F x⟩
def V0l (F:Nat):=R0 [F0O F,J0t F] 124 ⟨[],[(6,⟨[(5,.d (.int .i64))],[(2,.M0 23 [3] (.list (.int .i64))),(3,.M0 23 [3] (.list (.int .i64)))]⟩,[(.ex 0,⟨[(5,.any)],[(2,.M0 23 [3] (.list (.int .i64))),(3,.M0 23 [3] (.list (.int .i64)))]⟩)]),(9,⟨[(6,.d (.int .i64))],[(2,.M0 23 [3] (.list (.int .i64))),(3,.M0 23 [3] (.list (.int .i64)))]⟩,[(.ex 2,⟨[(6,.any)],[(2,.M0 23 [3] (.list (.int .i64))),(3,.M0 23 [3] (.list (.int .i64)))]⟩)])],[],[]⟩ F
def I0T (F:Nat) (s:List Int) (b:Int):Option Bool:=.bind (α:=Bool) ( if decide (b>=0) then some (decide (b<256)) else some false) fun x=>.bind (α:=Bool) ( if x then if decide (0<=W (b.tdiv 64))&&decide (W (b.tdiv 64)<4) then if !decide (b.tmod 64<0) then let x2:=R1 .u64 (shr .u64 (gt s (W (b.tdiv 64))) (b.tmod 64)) 1;
     some (x2==1) else none else none else some false) fun x3=>some x3
def M0i (F:Nat):Sm en.D:=⟨125,[.d (.arr 4 (.int .u64)),.d (.int .i64)],.d .bool,[],fun x=>I0T F x.1 x.2⟩
def T0R (F:Nat):=R0 [] 125 ⟨[],[],[(1,3,5,⟨[(7,.any),(10,.d .bool)],[]⟩),(1,7,16,⟨[(11,.any),(21,.d .bool)],[]⟩)],[]⟩ F
def F0W (F:Nat) (l:List E1) (to:Int) (d:Int):Option (T0 Int (E1 ⊕ Unit)):=match d with
 | i=>if decide (i<(l.length:Int)) then if y0 l i then if ((gt l i).To)==to then if y0 l i then some (.done (.inl (gt l i))) else none else some (.next (W (i+1))) else none else some (.done (.inr ()))
def J0i (F:Nat) (l:List E1) (to:Int):Option (E1×Bool):=.bind (α:=E1 ⊕ Unit) ( iter (F0W F l to) F 0) fun z_=>match z_ with
 | .inl y=>some (y,true)
 | .inr _=>some ((⟨0,0,[]⟩:E1),false)
def J00 (F:Nat):Sm en.D:=⟨126,[.d (.list (.st 10)),.d (.int .i64)],.tup [.d (.st 10),.d .bool],[],fun x=>J0i F x.1 x.2⟩
def T0f (F:Nat):=R0 [] 126 ⟨[],[(2,⟨[(6,.d (.int .i64))],[]⟩,[(.ret,⟨[(5,.kb true),(6,.any)],[(0,.box 194 [.d (.st 10)])]⟩),(.ex 0,⟨[(6,.any)],[]⟩)])],[],[]⟩ F
def G0f (F:Nat) (b:Int) (turn:Int):Option Int:=if decide (b<(W (turn+1))) then some b else some (W (turn+1))
def J0v (F:Nat):Sm en.D:=⟨170,[.d (.int .i64),.d (.int .i64)],.d (.int .i64),[],fun x=>G0f F x.1 x.2⟩
def U0N (F:Nat):=R0 [] 170 U1 F
def H0x (F:Nat) (x:P1) (a:Int) (b:Int) (p:E1) (q:E1):Option Int:=if y0 x.B a then if y0 (gt x.B a) b then if y0 x.B b then if y0 (gt x.B b) a then .bind (G0f F (gt (gt x.B a) b) p.Turn) fun number=>.bind (G0f F (gt (gt x.B b) a) q.Turn) fun number2=>if decide (number>number2) then some 1 else if decide (number<number2) then some (-1) else if y0 x.D a then if y0 (gt x.D a) b then some (gt (gt x.D a) b) else none else none else none else none else none else none
def I0e (F:Nat):Sm en.D:=⟨168,[.d (.st 11),.d (.int .i64),.d (.int .i64),.d (.st 10),.d (.st 10)],.d (.int .i64),[],fun x=>H0x F x.1 x.2.1 x.2.2.1 x.2.2.2.1 x.2.2.2.2⟩
def X0a (F:Nat):=R0 [J0v F] 168 U1 F
def I0U (F:Nat) (x:P1) (from_:List Int) (hops:List E1) (d:Int×Int):Option (T0 (Int×Int) Int):=match d with
 | (c0U,i)=>.bind (E03 F x (x.B.length:Int)) fun right=>.bind (α:=Bool) ( if right then some (decide (i<(from_.length:Int))) else some false) fun x2=>.bind (α:=Bool) ( if x2 then some (decide (i<(hops.length:Int))) else some false) fun x3=>if x3 then .bind (α:=Int) ( if y0 from_ i then .bind (α:=Bool) ( if decide ((gt from_ i)<0) then some true else if y0 from_ i then some (decide ((gt from_ i)>=(x.B.length:Int))) else none) fun x4=>if x4 then some c0U else .bind (α:=Bool) ( if decide (c0U<0) then some true else if y0 from_ i then if y0 from_ c0U then if y0 hops i then if y0 hops c0U then .bind (H0x F x (gt from_ i) (gt from_ c0U) (gt hops i) (gt hops c0U)) fun agains=>some (decide (agains>0)) else none else none else none else none) fun x5=>if x5 then some i else some c0U else none) fun best2=>some (.next (best2,W (i+1))) else some (.done c0U)
def G0Q (F:Nat) (x:P1) (from_:List Int) (hops:List E1):Option Int:=.bind (α:=Int) ( iter (I0U F x from_ hops) F ((-1),0)) fun best3=>some best3
def J0L (F:Nat):Sm en.D:=⟨127,[.d (.st 11),.d (.list (.int .i64)),.d (.list (.st 10))],.d (.int .i64),[],fun x=>G0Q F x.1 x.2.1 x.2.2⟩
def P01 (F:Nat):=R0 [F0O F,I0e F] 127 ⟨[(4,[(.nrm,⟨[(7,.d (.int .i64))],[]⟩)])],[(3,⟨[(7,.d (.int .i64)),(8,.d (.int .i64))],[]⟩,[(.ex 0,⟨[(7,.d (.int .i64)),(8,.any)],[]⟩)])],[(3,6,10,⟨[(14,.any),(19,.d .bool)],[]⟩),(3,12,16,⟨[(20,.any),(25,.d .bool)],[]⟩),(5,6,14,⟨[(33,.any),(42,.d .bool)],[]⟩),(6,3,22,⟨[(45,.any),(65,.d .bool)],[]⟩)],[]⟩ F
def G00 (F:Nat) (l:List U0) (a:Int) (b:Int) (low:List Int) (d:Int):Option (T0 Int (Int ⊕ Unit)):=match d with
 | q=>if decide (q<(l.length:Int)) then if y0 low q then .bind (α:=Bool) ( if decide ((gt low q)<=a) then some (decide (a<=q)) else some false) fun x4=>.bind (α:=Bool) ( if x4 then if y0 low q then some (decide ((gt low q)<=b)) else none else some false) fun x5=>.bind (α:=Bool) ( if x5 then some (decide (b<=q)) else some false) fun x6=>if x6 then some (.done (.inl q)) else some (.next (W (q+1))) else none else some (.done (.inr ()))
def I0t (F:Nat) (l:List U0) (a:Int) (b:Int):Option Int:=.bind (G05 F l) fun low=>.bind (α:=Bool) ( if decide (a<0) then some true else some (decide (b<0))) fun x=>.bind (α:=Bool) ( if x then some true else some (decide (a>=(low.length:Int)))) fun x2=>.bind (α:=Bool) ( if x2 then some true else some (decide (b>=(low.length:Int)))) fun x3=>if x3 then some (-1) else .bind (α:=Int ⊕ Unit) ( iter (G00 F l a b low) F 0) fun z_=>match z_ with
  | .inl x7=>some x7
  | .inr _=>some (-1)
def L00 (F:Nat):Sm en.D:=⟨191,[.d (.list (.st 0)),.d (.int .i64),.d (.int .i64)],.d (.int .i64),[],fun x=>I0t F x.1 x.2.1 x.2.2⟩
def W0H (F:Nat):=R0 [I09 F] 191 ⟨[],[(5,⟨[(8,.d (.int .i64))],[]⟩,[(.ret,⟨[(6,.d (.int .i64)),(8,.any)],[]⟩),(.ex 0,⟨[(8,.any)],[]⟩)])],[(2,3,5,⟨[(13,.any),(16,.d .bool)],[]⟩),(2,7,11,⟨[(17,.any),(22,.d .bool)],[]⟩),(2,13,17,⟨[(23,.any),(28,.d .bool)],[]⟩),(7,7,10,⟨[(41,.any),(45,.d .bool)],[]⟩),(7,12,18,⟨[(46,.any),(53,.d .bool)],[]⟩),(7,20,23,⟨[(54,.any),(58,.d .bool)],[]⟩)],[]⟩ F
def I0L (F:Nat) (l:List U0) (x:E1) (y:E1):Option (Int×Int×Int):=.bind (C0z F l) fun leaves=>.bind (α:=Bool) ( if decide (x.To<0) then some true else some (decide (y.To<0))) fun x2=>.bind (α:=Bool) ( if x2 then some true else some (decide (x.To>=(leaves.length:Int)))) fun x3=>.bind (α:=Bool) ( if x3 then some true else some (decide (y.To>=(leaves.length:Int)))) fun x4=>.bind (α:=Bool) ( if x4 then some true else some (x.To==y.To)) fun x5=>if x5 then some (0,0,0) else if decide (x.Turn>y.Turn) then some (W (x.Turn+1),W (y.Turn+1),1) else if decide (x.Turn<y.Turn) then some (W (x.Turn+1),W (y.Turn+1),(-1)) else if y0 leaves x.To then if y0 leaves y.To then .bind (I0t F l (gt leaves x.To) (gt leaves y.To)) fun join=>.bind (D0D F l) fun deep=>if y0 deep join then .bind (α:=Int) ( if decide (x.To>y.To) then some (-1) else some 1) fun ahead=>.bind (α:=Int) ( if y0 l join then .bind (α:=Bool) ( if ((gt l join).Kind)==3 then some (ahead==1) else some false) fun x6=>if x6 then some (W ((W ((gt deep join)+1))+1)) else some (W ((gt deep join)+1)) else none) fun a=>.bind (α:=Int) ( if y0 l join then .bind (α:=Bool) ( if ((gt l join).Kind)==3 then some (ahead==(-1)) else some false) fun x7=>if x7 then some (W ((W ((gt deep join)+1))+1)) else some (W ((gt deep join)+1)) else none) fun b=>some (a,b,ahead) else none else none else none
def J0J (F:Nat):Sm en.D:=⟨169,[.d (.list (.st 0)),.d (.st 10),.d (.st 10)],.tup [.d (.int .i64),.d (.int .i64),.d (.int .i64)],[],fun x=>I0L F x.1 x.2.1 x.2.2⟩
def R0B (F:Nat):=R0 [E0t F,I0N F,L00 F] 169 ⟨[(13,[(.nrm,⟨[(14,.d (.int .i64))],[]⟩)]),(15,[(.nrm,⟨[(12,.d (.int .i64))],[]⟩)]),(17,[(.nrm,⟨[(13,.d (.int .i64))],[]⟩)])],[],[(2,4,7,⟨[(20,.any),(24,.d .bool)],[]⟩),(2,9,14,⟨[(25,.any),(31,.d .bool)],[]⟩),(2,16,21,⟨[(32,.any),(38,.d .bool)],[]⟩),(2,23,28,⟨[(39,.any),(45,.d .bool)],[]⟩),(13,7,9,⟨[(99,.any),(102,.d .bool)],[]⟩),(15,7,9,⟨[(111,.any),(114,.d .bool)],[]⟩)],[]⟩ F
def G04 (F:Nat) (x:P1) (from_:List Int) (d:Int):Option (T0 Int (P1 ⊕ Unit)):=match d with
 | i=>if decide (i<(from_.length:Int)) then if y0 from_ i then .bind (α:=Bool) ( if decide ((gt from_ i)<0) then some true else if y0 from_ i then some (decide ((gt from_ i)>=(x.B.length:Int))) else none) fun x3=>if x3 then some (.done (.inl (⟨[],[]⟩:P1))) else some (.next (W (i+1))) else none else some (.done (.inr ()))
def H0f (F:Nat) (l:List U0) (x:P1) (from_:List Int) (hops:List E1) (i2:Int) (d:Int×(List (List Int))×(List (List Int))):Option (T0 (Int×(List (List Int))×(List (List Int))) ((List (List Int))×(List (List Int)))):=match d with
 | (k,y4,y5)=>if decide (k<(from_.length:Int)) then .bind (α:=(List (List Int))×(List (List Int))) ( if i2==k then some (y4,y5) else if y0 from_ i2 then if y0 from_ k then if (gt from_ i2)==(gt from_ k) then if y0 y4 i2 then if y0 y5 i2 then if y0 hops i2 then if y0 hops k then .bind (I0L F l (gt hops i2) (gt hops k)) fun (fork,fork2,fork3)=>if y0 (gt y4 i2) k then if y0 (gt y5 i2) k then let t:=y5.set i2.toNat ((gt y5 i2).set k.toNat fork3);
             some (y4.set i2.toNat ((gt y4 i2).set k.toNat fork),t) else none else none else none else none else none else none else if y0 y4 i2 then if y0 from_ i2 then if y0 x.B (gt from_ i2) then if y0 from_ k then if y0 (gt x.B (gt from_ i2)) (gt from_ k) then if y0 hops i2 then .bind (G0f F (gt (gt x.B (gt from_ i2)) (gt from_ k)) ((gt hops i2).Turn)) fun number=>if y0 (gt y4 i2) k then let t2:=y4.set i2.toNat ((gt y4 i2).set k.toNat number);
              if y0 y5 i2 then if y0 from_ i2 then if y0 from_ k then if y0 hops i2 then if y0 hops k then .bind (H0x F x (gt from_ i2) (gt from_ k) (gt hops i2) (gt hops k)) fun agains=>if y0 (gt y5 i2) k then let t3:=y5.set i2.toNat ((gt y5 i2).set k.toNat agains);
                    some (t2,t3) else none else none else none else none else none else none else none else none else none else none else none else none else none else none else none) fun (y6,y7)=>some (.next (W (k+1),y6,y7)) else some (.done (y4,y5))
def G0s (F:Nat) (l:List U0) (x:P1) (from_:List Int) (hops:List E1) (d:Int×(List (List Int))×(List (List Int))):Option (T0 (Int×(List (List Int))×(List (List Int))) ((List (List Int))×(List (List Int)))):=match d with
 | (i2,y2,y3)=>if decide (i2<(from_.length:Int)) then .bind (α:=(List (List Int))×(List (List Int))) ( iter (H0f F l x from_ hops i2) F (0,y2,y3)) fun (y8,y9)=>some (.next (W (i2+1),y8,y9)) else some (.done (y2,y3))
def H0Y (F:Nat) (l:List U0) (x:P1) (from_:List Int) (hops:List E1):Option P1:=.bind (E03 F x (x.B.length:Int)) fun right=>.bind (α:=Bool) ( if !right then some true else some ((from_.length:Int) != (hops.length:Int))) fun x2=>if x2 then some (⟨[],[]⟩:P1) else .bind (α:=P1 ⊕ Unit) ( iter (G04 F x from_) F 0) fun z_=>match z_ with
  | .inl y=>some y
  | .inr _=>.bind (H0B F (from_.length:Int)) fun (none_,none_2)=>.bind (α:=(List (List Int))×(List (List Int))) ( iter (G0s F l x from_ hops) F (0,none_,none_2)) fun (y10,y11)=>some (⟨y10,y11⟩:P1)
def M0m (F:Nat):Sm en.D:=⟨128,[.d (.list (.st 0)),.d (.st 11),.d (.list (.int .i64)),.d (.list (.st 10))],.d (.st 11),[],fun x=>H0Y F x.1 x.2.1 x.2.2.1 x.2.2.2⟩
def R0N (F:Nat):=R0 [F0O F,J0t F,I0e F,J0J F,J0v F] 128 ⟨[(14,[(.nrm,⟨[],[(2,.M0 23 [3] (.list (.int .i64))),(3,.M0 23 [3] (.list (.int .i64)))]⟩)])],[(10,⟨[(11,.d (.int .i64))],[(2,.M0 23 [3] (.list (.int .i64))),(3,.M0 23 [3] (.list (.int .i64)))]⟩,[(.ex 2,⟨[(11,.any)],[(2,.M0 23 [3] (.list (.int .i64))),(3,.M0 23 [3] (.list (.int .i64)))]⟩)]),(13,⟨[(12,.d (.int .i64))],[(2,.M0 23 [3] (.list (.int .i64))),(3,.M0 23 [3] (.list (.int .i64)))]⟩,[(.ex 4,⟨[(12,.any)],[(2,.M0 23 [3] (.list (.int .i64))),(3,.M0 23 [3] (.list (.int .i64)))]⟩)]),(4,⟨[(9,.d (.int .i64))],[]⟩,[(.ret,⟨[(9,.any)],[(1,.box 70 [.d (.st 11)])]⟩),(.ex 0,⟨[(9,.any)],[]⟩)])],[(1,7,12,⟨[(19,.any),(25,.d .bool)],[]⟩),(6,6,14,⟨[(38,.any),(47,.d .bool)],[]⟩)],[]⟩ F
def H0z (F:Nat) (c:B07) (d:(List (List E1))×Int):Option (T0 ((List (List E1))×Int) (List (List E1))):=match d with
 | (ways2,i)=>if decide (i<(c.Places.length:Int)) then if y0 c.Places i then if y0 c.Hops (gt c.Places i) then if C1 24 ways2 [gt c.Hops (gt c.Places i)] then some (.next (ways2++[gt c.Hops (gt c.Places i)],W (i+1))) else none else none else none else some (.done ways2)
def F0Y (F:Nat) (ways4:List (List E1)) (r:Int) (d:(List Int)×(List E1)×Int×(List Int)×(List E1)):Option (T0 ((List Int)×(List E1)×Int×(List Int)×(List E1)) ((List Int)×(List E1)×(List Int)×(List E1))):=match d with
 | (runs,by_,i2,y2,y3)=>if decide (i2<(ways4.length:Int)) then .bind (α:=(List Int)×(List E1)×(List Int)×(List E1)) ( if y0 ways4 i2 then .bind (J0i F (gt ways4 i2) r) fun (way,way2)=>if way2 then if C1 8 runs [i2] then if C1 40 by_ [way] then some (runs++[i2],by_++[way],y2,y3) else none else none else some (runs,by_,y2,y3) else none) fun (runs2,by_2,y4,y5)=>some (.next (runs2,by_2,W (i2+1),y4,y5)) else some (.done (runs,by_,y2,y3))
def G0o (F:Nat) (c:B07) (b:Int) (tags2:List (List Int)) (ways4:List (List E1)) (y:P1) (d:((List Int)×(List E1)×Int×((List U0)×(List Int)×(List E1)×(List (List E1))×(List (List Int))×Int×Int×(List Int)×(List (List Int))×P1))):Option (T0 ((List Int)×(List E1)×Int×((List U0)×(List Int)×(List E1)×(List (List E1))×(List (List Int))×Int×Int×(List Int)×(List (List Int))×P1)) ((List Int)×(List E1)×((List U0)×(List Int)×(List E1)×(List (List E1))×(List (List Int))×Int×Int×(List Int)×(List (List Int))×P1))):=match d with
 | (from_,hops,r,(L,Leaves,First,Hops,Ends,At,Work,Places,Tags,Rank))=>if decide (r<(c.Leaves.length:Int)) then .bind (α:=((List Int)×(List E1)×((List U0)×(List Int)×(List E1)×(List (List E1))×(List (List Int))×Int×Int×(List Int)×(List (List Int))×P1))) ( if y0 c.Leaves r then if y0 c.L (gt c.Leaves r) then .bind (I0T F ((gt c.L (gt c.Leaves r)).Set) (W (b))) fun has=>if !has then some (from_,hops,(L,Leaves,First,Hops,Ends,At,Work,Places,Tags,Rank)) else .bind (α:=(List Int)×(List E1)×(List Int)×(List E1)) ( iter (F0Y F ways4 r) F ([],[],0,from_,hops)) fun (runs3,by_3,y6,y7)=>.bind (G0Q F y runs3 by_3) fun pick=>if decide (pick<0) then some (y6,y7,(L,Leaves,First,Hops,Ends,At,W (Work+(runs3.length:Int)),Places,Tags,Rank)) else if C1 8 Places [r] then if y0 runs3 pick then if y0 tags2 (gt runs3 pick) then if y0 by_3 pick then .bind (F0w F c.L ((gt by_3 pick).Steps)) fun of=>.bind (F0S F (gt tags2 (gt runs3 pick)) of c.At (-1)) fun apply=>if C1 24 Tags [apply] then if y0 runs3 pick then if C1 8 y6 [gt runs3 pick] then if y0 by_3 pick then if C1 40 y7 [gt by_3 pick] then some (y6++[gt runs3 pick],y7++[gt by_3 pick],(L,Leaves,First,Hops,Ends,At,W (Work+(runs3.length:Int)),Places++[r],Tags++[apply],Rank)) else none else none else none else none else none else none else none else none else none else none else none) fun (from_2,hops2,(L2,Leaves2,First2,Hops2,Ends2,At2,Work2,Places2,Tags2,Rank2))=>some (.next (from_2,hops2,W (r+1),(L2,Leaves2,First2,Hops2,Ends2,At2,Work2,Places2,Tags2,Rank2))) else some (.done (from_,hops,(L,Leaves,First,Hops,Ends,At,Work,Places,Tags,Rank)))
def H0T (F:Nat) (c:B07) (b:Int) (begin:Bool):Option B07:=.bind (α:=(List (List Int))×(List (List E1))×P1) ( same ( some (c.Tags,[],c.Rank)) ( some (c.Tags,[],c.Rank))) fun (tags,ways,S7)=>.bind (α:=List (List E1)) ( iter (H0z F c) F (ways,0)) fun ways3=>.bind (α:=(List (List Int))×(List (List E1))×P1) ( if begin then if C1 24 ([]:List (List Int)) tags then .bind (F0V F c) fun begun=>if C1 24 ([]++tags) [begun] then if C1 24 ways3 [c.First] then .bind (H0l F S7) fun with_=>some (([]++tags)++[begun],ways3++[c.First],with_) else none else none else none else some (tags,ways3,S7)) fun (tags2,ways4,y)=>.bind (α:=((List Int)×(List E1)×((List U0)×(List Int)×(List E1)×(List (List E1))×(List (List Int))×Int×Int×(List Int)×(List (List Int))×P1))) ( iter (G0o F c b tags2 ways4 y) F ([],[],0,(c.L,c.Leaves,c.First,c.Hops,c.Ends,c.At,c.Work,[],[],c.Rank))) fun (from_3,hops3,(L3,Leaves3,First3,Hops3,Ends3,At3,Work3,Places3,Tags3,Rank3))=>.bind (H0Y F c.L y from_3 hops3) fun next_=>let x:=W ((from_3.length:Int)*(from_3.length:Int));
 .bind (F0l F c.L) fun tags3=>let x2:=W (Work3+(W ((from_3.length:Int)*tags3)));
 some (⟨L3,Leaves3,First3,Hops3,Ends3,W (c.At+1),W (x2+x),Places3,Tags3,next_⟩:B07)
def L0h (F:Nat):Sm en.D:=⟨87,[.d (.st 12),.d (.int .u8),.d .bool],.d (.st 12),[],fun x=>H0T F x.1 x.2.1 x.2.2⟩
def V0p (F:Nat):=R0 [F0R F,H0y F,H0V F,H0C F,L0D F,M0i F,J00 F,J0L F,M0m F] 87 ⟨[(10,[(.nrm,⟨[(7,.d (.list (.list (.int .i64)))),(8,.own 66 (.list (.st 10)))],[(3,.box 70 [.d (.st 11)]),(4,.any)]⟩)]),(17,[(.nrm,⟨[(12,.own 3 (.int .i64)),(13,.own 194 (.st 10))],[(7,.box 72 [.d (.list (.st 0)),.d (.list (.int .i64)),.d (.list (.st 10)),.d (.list (.list (.st 10))),.d (.list (.list (.int .i64))),.d (.int .i64),.d (.int .i64),.own 3 (.int .i64),.own 23 (.list (.int .i64)),.d (.st 11)]),(8,.any),(9,.any),(10,.any),(11,.any)]⟩)]),(23,[(.nrm,⟨[(15,.own 3 (.int .i64)),(16,.own 194 (.st 10))],[(8,.own 3 (.int .i64)),(9,.own 194 (.st 10)),(13,.any),(14,.any)]⟩)])],[(16,⟨[(12,.own 3 (.int .i64)),(13,.own 194 (.st 10)),(14,.d (.int .i64))],[(7,.box 72 [.d (.list (.st 0)),.d (.list (.int .i64)),.d (.list (.st 10)),.d (.list (.list (.st 10))),.d (.list (.list (.int .i64))),.d (.int .i64),.d (.int .i64),.own 3 (.int .i64),.own 23 (.list (.int .i64)),.d (.st 11)])]⟩,[(.ex 2,⟨[(12,.own 3 (.int .i64)),(13,.own 194 (.st 10)),(14,.any)],[(7,.box 72 [.d (.list (.st 0)),.d (.list (.int .i64)),.d (.list (.st 10)),.d (.list (.list (.st 10))),.d (.list (.list (.int .i64))),.d (.int .i64),.d (.int .i64),.own 3 (.int .i64),.own 23 (.list (.int .i64)),.d (.st 11)])]⟩)]),(22,⟨[(15,.own 3 (.int .i64)),(16,.own 194 (.st 10)),(17,.d (.int .i64))],[(8,.own 3 (.int .i64)),(9,.own 194 (.st 10))]⟩,[(.ex 4,⟨[(15,.own 3 (.int .i64)),(16,.own 194 (.st 10)),(17,.any)],[(8,.own 3 (.int .i64)),(9,.own 194 (.st 10))]⟩)]),(3,⟨[(8,.own 66 (.list (.st 10))),(10,.d (.int .i64))],[(2,.any)]⟩,[(.ex 0,⟨[(8,.own 66 (.list (.st 10))),(10,.any)],[(2,.any)]⟩)])],[(1,1000002,8,⟨[(7,.d (.list (.list (.int .i64)))),(8,.own 66 (.list (.st 10))),(9,.box 70 [.d (.st 11)])],[]⟩)],[]⟩ F
def I0j (F:Nat) (x:P1) (of:List Int) (d:Int×Int):Option (T0 (Int×Int) Int):=match d with
 | (c0U,i)=>.bind (E03 F x (x.B.length:Int)) fun right=>.bind (α:=Bool) ( if right then some (decide (i<(of.length:Int))) else some false) fun x2=>if x2 then .bind (α:=Int) ( if y0 of i then .bind (α:=Bool) ( if decide ((gt of i)<0) then some true else if y0 of i then some (decide ((gt of i)>=(x.B.length:Int))) else none) fun x3=>if x3 then some c0U else .bind (α:=Bool) ( if decide (c0U<0) then some true else if y0 of i then if y0 x.D (gt of i) then if y0 (gt x.D (gt of i)) c0U then some (decide ((gt (gt x.D (gt of i)) c0U)>0)) else none else none else none) fun x4=>if x4 then if y0 of i then some (gt of i) else none else some c0U else none) fun best2=>some (.next (best2,W (i+1))) else some (.done c0U)
def J0l (F:Nat) (x:P1) (of:List Int):Option Int:=.bind (α:=Int) ( iter (I0j F x of) F ((-1),0)) fun best3=>some best3
def K0O (F:Nat):Sm en.D:=⟨129,[.d (.st 11),.d (.list (.int .i64))],.d (.int .i64),[],fun x=>J0l F x.1 x.2⟩
def P0C (F:Nat):=R0 [F0O F] 129 ⟨[(4,[(.nrm,⟨[(5,.d (.int .i64))],[]⟩)])],[(3,⟨[(5,.d (.int .i64)),(6,.d (.int .i64))],[]⟩,[(.ex 0,⟨[(5,.d (.int .i64)),(6,.any)],[]⟩)])],[(3,6,10,⟨[(12,.any),(17,.d .bool)],[]⟩),(5,6,14,⟨[(25,.any),(34,.d .bool)],[]⟩),(6,3,15,⟨[(37,.any),(50,.d .bool)],[]⟩)],[]⟩ F
def H0R (F:Nat) (c:B07) (d:(List Int)×Int):Option (T0 ((List Int)×Int) (List Int)):=match d with
 | (can,i)=>if decide (i<(c.Places.length:Int)) then .bind (α:=List Int) ( if y0 c.Places i then if y0 c.Ends (gt c.Places i) then let x:=decide (((gt c.Ends (gt c.Places i)).length:Int)>0);
     if x then if C1 8 can [i] then some (can++[i]) else none else some can else none else none) fun can2=>some (.next (can2,W (i+1))) else some (.done can)
def E02 (F:Nat) (c:B07):Option ((List Int)×Bool):=.bind (α:=List Int) ( iter (H0R F c) F ([],0)) fun can3=>.bind (J0l F c.Rank can3) fun c0U=>if decide (c0U<0) then some ([],false) else if y0 c.Tags c0U then if y0 c.Places c0U then if y0 c.Ends (gt c.Places c0U) then .bind (F0w F c.L (gt c.Ends (gt c.Places c0U))) fun of=>.bind (F0S F (gt c.Tags c0U) of c.At (-1)) fun apply=>some (apply,true) else none else none else none
def K0J (F:Nat):Sm en.D:=⟨88,[.d (.st 12)],.tup [.own 3 (.int .i64),.d .bool],[],fun x=>E02 F x⟩
def V06 (F:Nat):=R0 [H0y F,H0C F,K0O F] 88 ⟨[(4,[(.nrm,⟨[(4,.own 3 (.int .i64))],[(1,.any)]⟩)])],[(3,⟨[(4,.own 3 (.int .i64)),(5,.d (.int .i64))],[]⟩,[(.ex 0,⟨[(4,.own 3 (.int .i64)),(5,.any)],[]⟩)])],[],[]⟩ F
def G0X (F:Nat) (c:B07) (from_:Int) (i:Int) (d:(List Int)×(List Int)×Int):Option (T0 ((List Int)×(List Int)×Int) ((List Int)×(List Int))):=match d with
 | (b,d_,k)=>if decide (k<(c.Places.length:Int)) then .bind (α:=(List Int)×(List Int)) ( if y0 c.Tags k then if y0 (gt c.Tags k) 0 then if decide ((gt (gt c.Tags k) 0)<=from_) then if y0 c.Rank.B i then if y0 (gt c.Rank.B i) k then if C1 8 b [gt (gt c.Rank.B i) k] then if y0 c.Rank.D i then if y0 (gt c.Rank.D i) k then if C1 8 d_ [gt (gt c.Rank.D i) k] then some (b++[gt (gt c.Rank.B i) k],d_++[gt (gt c.Rank.D i) k]) else none else none else none else none else none else none else some (b,d_) else none else none) fun (b2,d_2)=>some (.next (b2,d_2,W (k+1))) else some (.done (b,d_))
def H0P (F:Nat) (c:B07) (from_:Int) (d:(Int×((List U0)×(List Int)×(List E1)×(List (List E1))×(List (List Int))×Int×Int×(List Int)×(List (List Int))×((List (List Int))×(List (List Int)))))):Option (T0 (Int×((List U0)×(List Int)×(List E1)×(List (List E1))×(List (List Int))×Int×Int×(List Int)×(List (List Int))×((List (List Int))×(List (List Int))))) ((List U0)×(List Int)×(List E1)×(List (List E1))×(List (List Int))×Int×Int×(List Int)×(List (List Int))×((List (List Int))×(List (List Int))))):=match d with
 | (i,(L,Leaves,First,Hops,Ends,At,Work,Places,Tags,(Rank,Rank2)))=>if decide (i<(c.Places.length:Int)) then .bind (α:=((List U0)×(List Int)×(List E1)×(List (List E1))×(List (List Int))×Int×Int×(List Int)×(List (List Int))×((List (List Int))×(List (List Int))))) ( if y0 c.Tags i then if y0 (gt c.Tags i) 0 then if decide ((gt (gt c.Tags i) 0)>from_) then some (L,Leaves,First,Hops,Ends,At,Work,Places,Tags,(Rank,Rank2)) else if y0 c.Places i then if C1 8 Places [gt c.Places i] then if y0 c.Tags i then if C1 24 Tags [gt c.Tags i] then .bind (α:=(List Int)×(List Int)) ( iter (G0X F c from_ i) F ([],[],0)) fun (b3,d_3)=>if C1 24 Rank [b3] then if C1 24 Rank2 [d_3] then some (L,Leaves,First,Hops,Ends,At,Work,Places++[gt c.Places i],Tags++[gt c.Tags i],(Rank++[b3],Rank2++[d_3])) else none else none else none else none else none else none else none else none) fun (L2,Leaves2,First2,Hops2,Ends2,At2,Work2,Places2,Tags2,(Rank3,Rank4))=>some (.next (W (i+1),(L2,Leaves2,First2,Hops2,Ends2,At2,Work2,Places2,Tags2,(Rank3,Rank4)))) else some (.done (L,Leaves,First,Hops,Ends,At,Work,Places,Tags,(Rank,Rank2)))
def F03 (F:Nat) (c:B07) (from_:Int):Option B07:=.bind (α:=((List U0)×(List Int)×(List E1)×(List (List E1))×(List (List Int))×Int×Int×(List Int)×(List (List Int))×((List (List Int))×(List (List Int))))) ( iter (H0P F c from_) F (0,(c.L,c.Leaves,c.First,c.Hops,c.Ends,c.At,c.Work,[],[],([],[])))) fun (L3,Leaves3,First3,Hops3,Ends3,At3,Work3,Places3,Tags3,(Rank5,Rank6))=>some (⟨L3,Leaves3,First3,Hops3,Ends3,At3,Work3,Places3,Tags3,(⟨Rank5,Rank6⟩:P1)⟩:B07)
def K0x (F:Nat):Sm en.D:=⟨89,[.d (.st 12),.d (.int .i64)],.d (.st 12),[],fun x=>F03 F x.1 x.2⟩
def R04 (F:Nat):=R0 [] 89 ⟨[(14,[(.nrm,⟨[(7,.own 3 (.int .i64)),(8,.own 3 (.int .i64))],[(7,.any),(8,.any),(12,.any),(13,.any)]⟩)]),(7,[(.nrm,⟨[],[(2,.box 72 [.d (.list (.st 0)),.d (.list (.int .i64)),.d (.list (.st 10)),.d (.list (.list (.st 10))),.d (.list (.list (.int .i64))),.d (.int .i64),.d (.int .i64),.own 3 (.int .i64),.own 23 (.list (.int .i64)),.agg [.own 23 (.list (.int .i64)),.own 23 (.list (.int .i64))]]),(3,.any),(4,.any),(5,.any),(6,.any),(7,.any)]⟩)])],[(13,⟨[(7,.own 3 (.int .i64)),(8,.own 3 (.int .i64)),(9,.d (.int .i64))],[(7,.any),(8,.any)]⟩,[(.ex 2,⟨[(7,.own 3 (.int .i64)),(8,.own 3 (.int .i64)),(9,.any)],[(7,.any),(8,.any)]⟩)]),(6,⟨[(6,.d (.int .i64))],[(2,.box 72 [.d (.list (.st 0)),.d (.list (.int .i64)),.d (.list (.st 10)),.d (.list (.list (.st 10))),.d (.list (.list (.int .i64))),.d (.int .i64),.d (.int .i64),.own 3 (.int .i64),.own 23 (.list (.int .i64)),.agg [.own 23 (.list (.int .i64)),.own 23 (.list (.int .i64))]])]⟩,[(.ex 0,⟨[(6,.any)],[(2,.box 72 [.d (.list (.st 0)),.d (.list (.int .i64)),.d (.list (.st 10)),.d (.list (.list (.st 10))),.d (.list (.list (.int .i64))),.d (.int .i64),.d (.int .i64),.own 3 (.int .i64),.own 23 (.list (.int .i64)),.agg [.own 23 (.list (.int .i64)),.own 23 (.list (.int .i64))]])]⟩)])],[],[]⟩ F
def G0E (F:Nat) (h:C0T) (b:Int):Option C0T:=.bind (α:=Bool) ( if h.Crowd.At==0 then some true else some (!h.Is)) fun x=>.bind (H0T F h.Crowd b x) fun step=>.bind (E02 F step) fun (c0U,best2)=>.bind (α:=B07×(List Int)×Int×Bool) ( if best2 then if y0 c0U 0 then .bind (F03 F step (gt c0U 0)) fun Y0=>some (Y0,c0U,step.At,true) else none else some (step,h.Tags,h.To,h.Is)) fun (Crowd,Tags,To,Is)=>some (⟨Crowd,Tags,To,Is⟩:C0T)
def L0m (F:Nat):Sm en.D:=⟨47,[.d (.st 13),.d (.int .u8)],.d (.st 13),[],fun x=>G0E F x.1 x.2⟩
def R0F (F:Nat):=R0 [L0h F,K0J F,K0x F] 47 ⟨[(6,[(.nrm,⟨[],[(0,.box 74 [.d (.st 12),.d (.list (.int .i64)),.d (.int .i64),.d .bool]),(2,.any)]⟩)])],[],[(1,8,11,⟨[(14,.any),(18,.d .bool)],[]⟩)],[]⟩ F
def I0K (F:Nat) (w:List Int) (tags:Int) (d:Int×t0v×C0T):Option (T0 (Int×t0v×C0T) (t0v×C0T)):=match d with
 | (i,y,y2)=>if decide (i<(w.length:Int)) then .bind (α:=t0v×C0T) ( if y0 w i then .bind (G0E F y2 (gt w i)) fun feed=>let x:=W ((feed.Crowd.Places.length:Int)+(W ((feed.Crowd.Places.length:Int)*tags)));
    let x2:=W ((W (2*(feed.Crowd.Places.length:Int)))*(feed.Crowd.Places.length:Int));
    if decide ((W (x+x2))>y.Words) then let x3:=W ((feed.Crowd.Places.length:Int)+(W ((feed.Crowd.Places.length:Int)*tags)));
     let x4:=W ((W (2*(feed.Crowd.Places.length:Int)))*(feed.Crowd.Places.length:Int));
     some ((⟨y.Work,y.Most,W (x3+x4),y.Room⟩:t0v),feed) else some (y,feed) else none) fun (y3,y4)=>some (.next (W (i+1),y3,y4)) else some (.done (y,y2))
def G0g (F:Nat) (l:List U0) (w:List Int):Option (t0v×Int):=.bind (G0I F l (w.length:Int)) fun (bounds,bounds2)=>if bounds2 != 0 then some (bounds,bounds2) else .bind (I0O F l) fun new=>.bind (F0l F l) fun tags=>.bind (α:=t0v×C0T) ( iter (I0K F w tags) F (0,bounds,new)) fun (y5,y6)=>some ((⟨y6.Crowd.Work,y5.Most,y5.Words,y5.Room⟩:t0v),0)
def L0k (F:Nat):Sm en.D:=⟨16,[.d (.list (.st 0)),.d (.list (.int .u8))],.tup [.d (.st 5),.d (.int .i64)],[],fun x=>G0g F x.1 x.2⟩
def V01 (F:Nat):=R0 [I08 F,F0R F,L0A F,L0m F] 16 ⟨[(7,[(.nrm,⟨[],[(1,.box 30 [.d (.st 5)]),(2,.box 74 [.d (.st 13)])]⟩)])],[(6,⟨[(10,.d (.int .i64))],[(1,.box 30 [.d (.st 5)]),(2,.box 74 [.d (.st 13)])]⟩,[(.ex 0,⟨[(10,.any)],[(1,.box 30 [.d (.st 5)]),(2,.box 74 [.d (.st 13)])]⟩)])],[],[]⟩ F
def H00 (F:Nat) (s:List C0s):Option (List C0s):=if C1 16 ([]:List C0s) s then some s else none
def M07 (F:Nat):Sm en.D:=⟨131,[.d (.list (.st 1))],.own 169 (.st 1),[],fun x=>H00 F x⟩
def M0V (F:Nat):X1 en:=⟨[],fun _=>⟨[],[],[],[4]⟩,F,[]⟩
def I0v (F:Nat) (p:b0D) (x:Int) (d:Int×((List Int)×(List C0x))):Option (T0 (Int×((List Int)×(List C0x))) ((List Int)×(List C0x))):=match d with
 | (x2,(Accept,c0s))=>let x3:=decide (x2<(((gt p.Stands x).c0s).length:Int));
 if x3 then if y0 ((gt p.Stands x).c0s) x2 then .bind (H00 F ((gt ((gt p.Stands x).c0s) x2).Moves)) fun move=>if C1 32 c0s [(⟨(gt ((gt p.Stands x).c0s) x2).To,move⟩:C0x)] then let l:=c0s++[(⟨(gt ((gt p.Stands x).c0s) x2).To,move⟩:C0x)];
    some (.next (W (x2+1),(Accept,l))) else none else none else some (.done (Accept,c0s))
def H04 (F:Nat) (p:b0D) (d:Int×(Int×Int×(List Int)×(List C05))):Option (T0 (Int×(Int×Int×(List Int)×(List C05))) (Int×Int×(List Int)×(List C05))):=match d with
 | (x,(Tags2,Regs2,Class2,Stands))=>if decide (x<(p.Stands.length:Int)) then if y0 p.Stands x then .bind (D0G F ((gt p.Stands x).Accept)) fun clone3=>.bind (α:=(List Int)×(List C0x)) ( iter (I0v F p x) F (0,(clone3,[]))) fun (Accept2,Ways2)=>if C1 48 Stands [(⟨Accept2,Ways2⟩:C05)] then some (.next (W (x+1),(Tags2,Regs2,Class2,Stands++[(⟨Accept2,Ways2⟩:C05)]))) else none else none else some (.done (Tags2,Regs2,Class2,Stands))
def G06 (F:Nat) (p:b0D):Option b0D:=.bind (α:=Int×Int×(List Int)) ( same ( .bind (D0G F p.Class) fun clone=>some (p.Tags,p.Regs,clone)) ( .bind (D0G F p.Class) fun clone2=>some (p.Tags,p.Regs,clone2))) fun (Tags,Regs,Class)=>.bind (α:=Int×Int×(List Int)×(List C05)) ( iter (H04 F p) F (0,(Tags,Regs,Class,[]))) fun (Tags3,Regs3,Class3,Stands2)=>some (⟨Tags3,Regs3,Class3,Stands2⟩:b0D)
def L05 (F:Nat):Sm en.D:=⟨90,[.d (.st 4)],.d (.st 4),[],fun x=>G06 F x⟩
def W0F (F:Nat):=R0 [F0X F,M07 F] 90 ⟨[],[(3,⟨[(20,.d (.int .i64))],[(2,.any),(3,.box 26 [.d (.int .i64),.d (.int .i64),.own 3 (.int .i64),.own 92 (.st 3)])]⟩,[(.ex 0,⟨[(20,.any)],[(2,.any),(3,.box 26 [.d (.int .i64),.d (.int .i64),.own 3 (.int .i64),.own 92 (.st 3)])]⟩)]),(7,⟨[(31,.d (.int .i64))],[(8,.any),(9,.box 92 [.own 3 (.int .i64),.own 95 (.st 2)])]⟩,[(.ex 2,⟨[(31,.any)],[(8,.any),(9,.box 92 [.own 3 (.int .i64),.own 95 (.st 2)])]⟩)])],[(1,1000006,9,⟨[(3,.box 26 [.d (.int .i64),.d (.int .i64),.own 3 (.int .i64),.nil])],[]⟩)],[]⟩ F
def H0c (F:Nat) (r:D0d) (n_:Int):Option Int:=if n_==(-1) then some r.at_ else if n_==(-2) then some (-1) else if y0 r.regs n_ then some (gt r.regs n_) else none
def I0h (F:Nat):Sm en.D:=⟨92,[.d (.ptr (.st 23)),.d (.int .i64)],.d (.int .i64),[],fun x=>H0c F x.1 x.2⟩
def W0G (F:Nat):=R0 [] 92 U1 F
def K0Y (F:Nat) (r:D0d):Option Bool:=.bind (α:=Bool) ( if decide (r.stand>=0) then if y0 r.p.Stands r.stand then let x:=(((gt r.p.Stands r.stand).Accept).length:Int);
    some (decide (x>0)) else none else some false) fun x2=>some x2
def K0B (F:Nat):Sm en.D:=⟨132,[.d (.ptr (.st 23))],.d .bool,[],fun x=>K0Y F x⟩
def Q02 (F:Nat):=R0 [] 132 ⟨[],[],[(1,6,20,⟨[(8,.any),(23,.d .bool)],[]⟩)],[]⟩ F
def J0j (F:Nat) (last:C0v) (p:b0D) (at_:Int) (stand:Int) (work:Int) (regs:List Int) (d:(List Int)×Int):Option (T0 ((List Int)×Int) (List Int)):=match d with
 | (tags,x)=>let x2:=decide (x<(((gt p.Stands stand).Accept).length:Int));
 if x2 then if y0 ((gt p.Stands stand).Accept) x then .bind (H0c F (⟨last,p,at_,stand,work,regs⟩:D0d) (gt ((gt p.Stands stand).Accept) x)) fun value=>if C1 8 tags [value] then some (.next (tags++[value],W (x+1))) else none else none else some (.done tags)
def G0j (F:Nat):(C0v×b0D×Int×Int×Int×(List Int))->Option (C0v×b0D×Int×Int×Int×(List Int))
 | (last,p,at_,stand,work,regs)=>.bind (K0Y F (⟨last,p,at_,stand,work,regs⟩:D0d)) fun here=>if !here then some (last,p,at_,stand,work,regs) else if y0 p.Stands stand then .bind (α:=List Int) ( iter (J0j F last p at_ stand work regs) F ([],0)) fun tags2=>some ((⟨tags2,at_⟩:C0v),p,at_,stand,work,regs) else none
def J0d (F:Nat):Sm en.D:=⟨91,[.box 167 [.d (.st 22),.d (.st 4),.d (.int .i64),.d (.int .i64),.d (.int .i64),.own 3 (.int .i64)]],.tup [],[(0,.box 167 [.d (.st 22),.d (.st 4),.d (.int .i64),.d (.int .i64),.d (.int .i64),.own 3 (.int .i64)])],fun x=>G0j F x⟩
def Q0I (F:Nat):=R0 [I0h F,K0B F] 91 ⟨[],[(3,⟨[(2,.own 3 (.int .i64)),(21,.d (.int .i64))],[]⟩,[(.ex 0,⟨[(2,.own 3 (.int .i64)),(21,.any)],[]⟩)])],[],[]⟩ F
def H0W (F:Nat) (p:b0D):Option ((Unit ⊕ (C0v×b0D×Int×Int×Int×(List Int)))×Int):=.bind (H0S F p) fun right=>if !right then some ((.inl ()),11) else .bind (α:=C0v×b0D×Int×Int×Int×(List Int)) ( same ( .bind (G06 F p) fun copied=>if S5 8 p.Regs then some ((⟨[],0⟩:C0v),copied,0,0,0,(List.replicate p.Regs.toNat 0:List Int)) else none) ( if S5 8 p.Regs then .bind (G06 F p) fun copied2=>some ((⟨[],0⟩:C0v),copied2,0,0,0,(List.replicate p.Regs.toNat 0:List Int)) else none)) fun (last,p2,at_,stand,work,regs)=>.bind (G0j F (last,p2,at_,stand,work,regs)) fun (last2,p3,at_2,stand2,work2,regs2)=>some ((.inr (last2,p3,at_2,stand2,work2,regs2)),0)
def K0A (F:Nat):Sm en.D:=⟨48,[.d (.st 4)],.tup [.alt .nilp (.box 167 [.d (.st 22),.d (.st 4),.d (.int .i64),.d (.int .i64),.d (.int .i64),.own 3 (.int .i64)]),.d (.int .i64)],[],fun x=>H0W F x⟩
def P0Y (F:Nat):=R0 [H01 F,L05 F,J0d F] 48 ⟨[],[],[(3,1000001,7,⟨[(4,.box 167 [.d (.st 22),.d (.st 4),.d (.int .i64),.d (.int .i64),.d (.int .i64),.own 3 (.int .i64)])],[]⟩)],[]⟩ F
def G0v (F:Nat) (last:C0v) (p:b0D) (at_:Int) (stand:Int) (work:Int) (x:List C0s) (d:Int×(List Int)):Option (T0 (Int×(List Int)) (List Int)):=match d with
 | (x2,y)=>if decide (x2<(x.length:Int)) then if y0 x x2 then .bind (H0c F (⟨last,p,at_,stand,W (work+1),y⟩:D0d) ((gt x x2).From)) fun value=>if y0 y ((gt x x2).To) then some (.next (W (x2+1),y.set ((gt x x2).To).toNat value)) else none else none else some (.done y)
def J0a (F:Nat):(C0v×b0D×Int×Int×Int×(List Int))->Int->Option (C0v×b0D×Int×Int×Int×(List Int))
 | (last,p,at_,stand,work,regs),b=>.bind (α:=C0v×b0D×Int×Int×Int×(List Int)) ( if decide (stand>=0) then if y0 p.Stands stand then if y0 p.Class b then if y0 ((gt p.Stands stand).c0s) (gt p.Class b) then let x:=(gt ((gt p.Stands stand).c0s) (gt p.Class b)).Moves;
      .bind (α:=List Int) ( iter (G0v F last p at_ stand work x) F (0,regs)) fun y2=>let x3:=(gt ((gt p.Stands stand).c0s) (gt p.Class b)).Moves;
      let x4:=(gt ((gt p.Stands stand).c0s) (gt p.Class b)).To;
      some (last,p,at_,x4,W ((W (work+1))+(x3.length:Int)),y2) else none else none else none else some (last,p,at_,stand,W (work+1),regs)) fun (last2,p2,at_2,stand2,work2,regs2)=>.bind (G0j F (last2,p2,W (at_2+1),stand2,work2,regs2)) fun (last3,p3,at_3,stand3,work3,regs3)=>some (last3,p3,at_3,stand3,work3,regs3)
def K0o (F:Nat):Sm en.D:=⟨49,[.box 167 [.d (.st 22),.d (.st 4),.d (.int .i64),.d (.int .i64),.d (.int .i64),.own 3 (.int .i64)],.d (.int .u8)],.tup [],[(0,.box 167 [.d (.st 22),.d (.st 4),.d (.int .i64),.d (.int .i64),.d (.int .i64),.own 3 (.int .i64)])],fun x=>J0a F x.1 x.2⟩
def Q0M (F:Nat):=R0 [J0d F,I0h F] 49 ⟨[(10,[(.nrm,⟨[],[(0,.any),(1,.box 167 [.d (.st 22),.d (.st 4),.d (.int .i64),.d (.int .i64),.d (.int .i64),.own 3 (.int .i64)])]⟩)])],[(4,⟨[(44,.d (.int .i64))],[(0,.own 3 (.int .i64))]⟩,[(.ex 0,⟨[(44,.any)],[(0,.own 3 (.int .i64))]⟩)])],[],[]⟩ F
def O0Q (F:Nat) (r:D0d):Option Int:=some r.work
def K0g (F:Nat):Sm en.D:=⟨50,[.d (.ptr (.st 23))],.d (.int .i64),[],fun x=>O0Q F x⟩
def Q0A (F:Nat):=R0 [] 50 U1 F
def I0C (F:Nat) (w:List Int) (d:Int×(C0v×b0D×Int×Int×Int×(List Int))):Option (T0 (Int×(C0v×b0D×Int×Int×Int×(List Int))) (C0v×b0D×Int×Int×Int×(List Int))):=match d with
 | (x,(last3,p4,at_3,stand3,work3,regs3))=>if decide (x<(w.length:Int)) then if y0 w x then .bind (J0a F (last3,p4,at_3,stand3,work3,regs3) (gt w x)) fun (last4,p5,at_4,stand4,work4,regs4)=>some (.next (W (x+1),(last4,p5,at_4,stand4,work4,regs4))) else none else some (.done (last3,p4,at_3,stand3,work3,regs3))
def G07 (F:Nat) (p:b0D) (w:List Int):Option (t0v×Int):=.bind (F08 F p (w.length:Int)) fun (room,room2)=>if room2 != 0 then some (room,room2) else .bind (α:=(Int×(Unit ⊕ (C0v×b0D×Int×Int×Int×(List Int))))) ( .bind (H0W F p) fun (start,start2)=>match start with
   | .inl _=>some (start2,(.inl ()))
   | .inr (last,p2,at_,stand,work,regs)=>some (start2,(.inr (last,p2,at_,stand,work,regs)))) fun (e,r)=>match r with
  | .inl _=>if e != 0 then some ((⟨0,0,0,0⟩:t0v),e) else none
  | .inr (last2,p3,at_2,stand2,work2,regs2)=>if e != 0 then some ((⟨0,0,0,0⟩:t0v),e) else .bind (α:=C0v×b0D×Int×Int×Int×(List Int)) ( iter (I0C F w) F (0,(last2,p3,at_2,stand2,work2,regs2))) fun (last5,p6,at_5,stand5,work5,regs5)=>.bind (O0Q F (⟨last5,p6,at_5,stand5,work5,regs5⟩:D0d)) fun work6=>some ((⟨work6,room.Most,p.Regs,room.Room⟩:t0v),0)
def J0p (F:Nat):Sm en.D:=⟨17,[.d (.st 4),.d (.list (.int .u8))],.tup [.d (.st 5),.d (.int .i64)],[],fun x=>G07 F x.1 x.2⟩
def W0p (F:Nat):=R0 [G0V F,K0A F,K0o F,K0g F] 17 ⟨[(5,[(.nrm,⟨[(7,.d (.int .i64)),(8,.alt .nilp (.box 167 [.d (.st 22),.d (.st 4),.d (.int .i64),.d (.int .i64),.d (.int .i64),.own 3 (.int .i64)]))],[]⟩)])],[(8,⟨[(33,.d (.int .i64))],[(3,.any),(4,.box 167 [.d (.st 22),.d (.st 4),.d (.int .i64),.d (.int .i64),.d (.int .i64),.own 3 (.int .i64)])]⟩,[(.ex 0,⟨[(33,.any)],[(3,.any),(4,.box 167 [.d (.st 22),.d (.st 4),.d (.int .i64),.d (.int .i64),.d (.int .i64),.own 3 (.int .i64)])]⟩)])],[],[]⟩ F
def I06 (F:Nat) (r:C0I) (d:Int×(b0D×Int×Int×(List Int)×(List Int)×Int×Bool×Int)):Option (T0 (Int×(b0D×Int×Int×(List Int)×(List Int)×Int×Bool×Int)) (b0D×Int×Int×(List Int)×(List Int)×Int×Bool×Int)):=match d with
 | (t,(P,At,Stand,Regs,Tags,To,Is,Work))=>let x3:=(((gt r.P.Stands r.Stand).Accept).length:Int);
 if decide (t<x3) then .bind (α:=b0D×Int×Int×(List Int)×(List Int)×Int×Bool×Int) ( if y0 ((gt r.P.Stands r.Stand).Accept) t then let x4:=(gt ((gt r.P.Stands r.Stand).Accept) t)==(-1);
    if x4 then if C1 8 Tags [At] then some (P,At,Stand,Regs,Tags++[At],To,Is,Work) else none else if y0 ((gt r.P.Stands r.Stand).Accept) t then let x5:=(gt ((gt r.P.Stands r.Stand).Accept) t)==(-2);
      if x5 then if C1 8 Tags [(-1)] then some (P,At,Stand,Regs,Tags++[(-1)],To,Is,Work) else none else if y0 ((gt r.P.Stands r.Stand).Accept) t then if y0 Regs (gt ((gt r.P.Stands r.Stand).Accept) t) then let x6:=gt Regs (gt ((gt r.P.Stands r.Stand).Accept) t);
         if C1 8 Tags [x6] then some (P,At,Stand,Regs,Tags++[x6],To,Is,Work) else none else none else none else none else none) fun (P2,At2,Stand2,Regs2,Tags2,To2,Is2,Work2)=>some (.next (W (t+1),(P2,At2,Stand2,Regs2,Tags2,To2,Is2,Work2))) else some (.done (P,At,Stand,Regs,Tags,To,Is,Work))
def E07 (F:Nat) (r:C0I):Option C0I:=.bind (α:=Bool) ( if decide (r.Stand<0) then some true else if y0 r.P.Stands r.Stand then let x:=(((gt r.P.Stands r.Stand).Accept).length:Int);
    some (x==0) else none) fun x2=>if x2 then some r else if y0 r.P.Stands r.Stand then .bind (α:=b0D×Int×Int×(List Int)×(List Int)×Int×Bool×Int) ( iter (I06 F r) F (0,(r.P,r.At,r.Stand,r.Regs,[],r.To,r.Is,r.Work))) fun (P3,At3,Stand3,Regs3,Tags3,To3,Is3,Work3)=>some (⟨P3,At3,Stand3,Regs3,Tags3,At3,true,Work3⟩:C0I) else none
def I00 (F:Nat):Sm en.D:=⟨93,[.d (.st 14)],.d (.st 14),[],fun x=>E07 F x⟩
def V0A (F:Nat):=R0 [] 93 ⟨[(7,[(.nrm,⟨[],[(0,.box 76 [.d (.st 4),.d (.int .i64),.d (.int .i64),.d (.list (.int .i64)),.own 3 (.int .i64),.d (.int .i64),.d .bool,.d (.int .i64)]),(2,.any)]⟩)])],[(6,⟨[(4,.d (.int .i64))],[(0,.box 76 [.d (.st 4),.d (.int .i64),.d (.int .i64),.d (.list (.int .i64)),.own 3 (.int .i64),.d (.int .i64),.d .bool,.d (.int .i64)])]⟩,[(.ex 0,⟨[(4,.any)],[(0,.box 76 [.d (.st 4),.d (.int .i64),.d (.int .i64),.d (.list (.int .i64)),.own 3 (.int .i64),.d (.int .i64),.d .bool,.d (.int .i64)])]⟩)])],[(1,4,14,⟨[(8,.any),(19,.d .bool)],[]⟩)],[]⟩ F
def J0f (F:Nat) (p:b0D):Option C0I:=if S5 8 p.Regs then .bind (E07 F (⟨p,0,0,(List.replicate p.Regs.toNat 0:List Int),[],0,false,0⟩:C0I)) fun accept=>some accept else none
def K0a (F:Nat):Sm en.D:=⟨51,[.d (.st 4)],.d (.st 14),[],fun x=>J0f F x⟩
def Q0J (F:Nat):=R0 [I00 F] 51 U1 F
def K0D (F:Nat) (regs:List Int) (x:C0s) (now:Int):Option (Int×Bool):=.bind (α:=Bool) ( if decide (x.To<0) then some true else some (decide (x.To>=(regs.length:Int)))) fun x2=>.bind (α:=Bool) ( if x2 then some true else some (decide (x.From>=(regs.length:Int)))) fun x3=>.bind (α:=Bool) ( if x3 then some true else some (decide (x.From<(-1)))) fun x4=>if x4 then some (0,false) else if x.From==(-1) then some (now,true) else if y0 regs x.From then some (gt regs x.From,true) else none
def L0s (F:Nat):Sm en.D:=⟨133,[.d (.list (.int .i64)),.d (.st 1),.d (.int .i64)],.tup [.d (.int .i64),.d .bool],[],fun x=>K0D F x.1 x.2.1 x.2.2⟩
def T0a (F:Nat):=R0 [] 133 ⟨[],[],[(1,4,9,⟨[(11,.any),(17,.d .bool)],[]⟩),(1,11,16,⟨[(18,.any),(24,.d .bool)],[]⟩),(1,18,21,⟨[(25,.any),(29,.d .bool)],[]⟩)],[]⟩ F
def G0u (F:Nat) (l:List C0s) (now:Int) (d:Int×(List Int)):Option (T0 (Int×(List Int)) (List Int)):=match d with
 | (i,y)=>if decide (i<(l.length:Int)) then .bind (α:=List Int) ( if y0 l i then .bind (K0D F y (gt l i) now) fun (get,get2)=>if get2 then if y0 l i then if y0 y ((gt l i).To) then some (y.set ((gt l i).To).toNat get) else none else none else some y else none) fun y2=>some (.next (W (i+1),y2)) else some (.done y)
def G0K (F:Nat) (regs:List Int) (l:List C0s) (now:Int):Option (List Int):=if C1 8 ([]:List Int) regs then .bind (α:=List Int) ( iter (G0u F l now) F (0,[]++regs)) fun y3=>some y3 else none
def K0H (F:Nat):Sm en.D:=⟨94,[.d (.list (.int .i64)),.d (.list (.st 1)),.d (.int .i64)],.own 3 (.int .i64),[],fun x=>G0K F x.1 x.2.1 x.2.2⟩
def X0n (F:Nat):=R0 [L0s F] 94 ⟨[(4,[(.nrm,⟨[],[(1,.own 3 (.int .i64))]⟩)])],[(3,⟨[(8,.d (.int .i64))],[(1,.own 3 (.int .i64))]⟩,[(.ex 0,⟨[(8,.any)],[(1,.own 3 (.int .i64))]⟩)])],[],[]⟩ F
def J0k (F:Nat) (r:C0I) (b:Int):Option C0I:=.bind (α:=b0D×Int×Int×(List Int)×(List Int)×Int×Bool×Int) ( if decide (r.Stand>=0) then if y0 r.P.Stands r.Stand then if y0 r.P.Class (W (b)) then if y0 ((gt r.P.Stands r.Stand).c0s) (gt r.P.Class (W (b))) then let x:=gt ((gt r.P.Stands r.Stand).c0s) (gt r.P.Class (W (b)));
      .bind (G0K F r.Regs x.Moves r.At) fun apply=>some (r.P,r.At,x.To,apply,r.Tags,r.To,r.Is,W ((W (r.Work+1))+(x.Moves.length:Int))) else none else none else none else some (r.P,r.At,r.Stand,r.Regs,r.Tags,r.To,r.Is,W (r.Work+1))) fun (P,At,Stand,Regs,Tags,To,Is,Work)=>.bind (E07 F (⟨P,W (At+1),Stand,Regs,Tags,To,Is,Work⟩:C0I)) fun accept=>some accept
def L09 (F:Nat):Sm en.D:=⟨52,[.d (.st 14),.d (.int .u8)],.d (.st 14),[],fun x=>J0k F x.1 x.2⟩
def R0d (F:Nat):=R0 [I00 F,K0H F] 52 ⟨[(7,[(.nrm,⟨[],[(0,.box 76 [.d (.st 4),.d (.int .i64),.d (.int .i64),.d (.list (.int .i64)),.d (.list (.int .i64)),.d (.int .i64),.d .bool,.d (.int .i64)])]⟩)])],[],[],[]⟩ F
def H0X (F:Nat) (w:List Int) (d:Int×C0I):Option (T0 (Int×C0I) C0I):=match d with
 | (i,y)=>if decide (i<(w.length:Int)) then if y0 w i then .bind (J0k F y (gt w i)) fun feed=>some (.next (W (i+1),feed)) else none else some (.done y)
def I0u (F:Nat) (p:b0D) (w:List Int):Option (t0v×Int):=.bind (H0D F p (w.length:Int)) fun (room,room2)=>if room2 != 0 then some (room,room2) else .bind (J0f F p) fun start=>.bind (α:=C0I) ( iter (H0X F w) F (0,start)) fun y2=>some ((⟨y2.Work,room.Most,p.Regs,room.Room⟩:t0v),0)
def L0G (F:Nat):Sm en.D:=⟨18,[.d (.st 4),.d (.list (.int .u8))],.tup [.d (.st 5),.d (.int .i64)],[],fun x=>I0u F x.1 x.2⟩
def P0L (F:Nat):=R0 [I0q F,K0a F,L09 F] 18 ⟨[],[(6,⟨[(9,.d (.int .i64))],[(3,.box 76 [.d (.st 14)])]⟩,[(.ex 0,⟨[(9,.any)],[(3,.box 76 [.d (.st 14)])]⟩)])],[],[]⟩ F
def J0W (F:Nat) (l:List U0) (p:b0D) (w:List Int):Option Bool:=.bind (α:=Bool) ( if decide ((l.length:Int)>40) then some true else .bind (F0y F p) fun small=>some (!small)) fun x=>.bind (α:=Bool) ( if x then some true else some (decide ((w.length:Int)>24))) fun x2=>if x2 then .bind (D0Z F) fun sure=>some sure else .bind (D0Y F l w) fun (crowd,crowd2)=>.bind (G0g F l w) fun (crowd3,crowd4)=>.bind (G07 F p w) fun (table,table2)=>.bind (I0u F p w) fun (table3,table4)=>let x3:=(crowd.Work==crowd3.Work)&&((crowd.Most==crowd3.Most)&&((crowd.Words==crowd3.Words)&&(crowd.Room==crowd3.Room)));
  .bind (α:=Bool) ( if x3 then some (crowd2==crowd4) else some false) fun x4=>.bind (α:=Bool) ( if x4 then let x5:=(table.Work==table3.Work)&&((table.Most==table3.Most)&&((table.Words==table3.Words)&&(table.Room==table3.Room)));
    some x5 else some false) fun x6=>.bind (α:=Bool) ( if x6 then some (table2==table4) else some false) fun x7=>.bind (α:=Bool) ( if x7 then .bind (D0Z F) fun sure2=>some sure2 else some false) fun x8=>some x8
def O0q (F:Nat):Sm en.D:=⟨4,[.d (.list (.st 0)),.d (.st 4),.d (.list (.int .u8))],.d .bool,[],fun x=>J0W F x.1 x.2.1 x.2.2⟩
def X0e (F:Nat):=R0 [G08 F,H0m F,H0N F,L0k F,J0p F,L0G F] 4 ⟨[],[],[(1,4,7,⟨[(18,.any),(22,.d .bool)],[]⟩),(1,9,12,⟨[(23,.any),(27,.d .bool)],[]⟩),(7,4,7,⟨[(56,.any),(60,.d .bool)],[]⟩),(7,9,12,⟨[(61,.any),(65,.d .bool)],[]⟩),(7,14,17,⟨[(66,.any),(70,.d .bool)],[]⟩),(7,19,20,⟨[(71,.any),(73,.d .bool)],[]⟩)],[]⟩ F
