/- P. Its conditions: none. -/
import Derived.Test.YtihmgaccbcfgjaaGreatREn
import Derived.Test.YtihmgaccbcfgjaaGreatRX17
import Derived.Test.YtihmgaccbcfgjaaGreatRX14
import Derived.Test.YtihmgaccbcfgjaaGreatRVKey
set_option linter.all false
set_option maxRecDepth 100000
noncomputable section
namespace Go.Proofs.YtihmgaccbcfgjaaGreat
open Go.V Go.RowKit Go.X
abbrev B2:U:=.int .i64
abbrev G3:Sh:=.d B2
def K0X (F:Nat)(b:Y1)(c:Int)(d:Int):Option (Q0 Int (Unit⊕Unit)):=match d with
 | a=>let e:=decide (a<(((gt b.States c).Edges).length:Int));
 if e then if y0 ((gt b.States c).Edges) a then let f:=(((gt ((gt b.States c).Edges) a).Src).length:Int);
   if decide (f>400)then some (.done (.inl ()))else some (.next (W (a+1)))else none else some (.done (.inr ()))
def K03 (F:Nat)(b:Y1)(c:Int):Option (Q0 Int (Unit⊕Unit)):=match c with
 | a=>if decide (a<(b.States.length:Int))then if y0 b.States a then let d:=decide ((((gt b.States a).Accept).length:Int)>40);
   .bind (if d then some true else let e:=decide ((((gt b.States a).Edges).length:Int)>300);
     some e) fun f=>.bind (if f then some true else some (decide (((gt b.States a).Regs)>400))) fun g=>if g then some (.done (.inl ()))else .bind (α:=Unit⊕Unit) (iter (K0X F b a) F 0) fun h=>match h with
    | .inl _=>some (.done (.inl ()))
    | .inr _=>some (.next (W (a+1)))else none else some (.done (.inr ()))
def L0p (F:Nat)(a:Y1):Option Bool:=.bind (if decide ((a.States.length:Int)>60)then some true else some (decide ((a.Class.length:Int)>300))) fun b=>if b then some false else .bind (α:=Unit⊕Unit) (iter (K03 F a) F 0) fun c=>match c with
  | .inl _=>some false
  | .inr _=>some true
def m0o (F:Nat)(b:List Int)(d:Int×Int):Option (Q0 (Int×Int) (Unit⊕Unit)):=match d with
 | (c,a)=>if decide (a<(b.length:Int))then if y0 b a then .bind (if decide ((gt b a)<0)then some true else some (decide ((gt b a)>c))) fun e=>if e then some (.done (.inl ()))else let f:=if(W ((gt b a)+1))>c then W ((gt b a)+1)else c;
    some (.next (f,W (a+1)))else none else some (.done (.inr ()))
def g09 (F:Nat)(a:List Int):Option Bool:=.bind (α:=Unit⊕Unit) (iter (m0o F a) F (0,0)) fun b=>match b with
 | .inl _=>some false
 | .inr _=>some ((a.length:Int)==256)
abbrev G4:Ann:=⟨[],[],[],[]⟩
abbrev V1 (l:List (Sm en.D))(n:Nat)(a:Ann)(F:Nat):J3 en:=⟨l,fun g=>if Nat.beq g n then a else G4,F,[]⟩
def k0v (F:Nat):Sm en.D:=⟨46,[.d (.list B2)],.d .bool,[],fun a=>g09 F a⟩
def w0Z (F:Nat):=V1 [] 46 ⟨[],[(3,⟨[(3,G3),(8,G3)],[]⟩,[(.ret,⟨[(2,.kb false),(3,.any),(8,.any)],[]⟩),(.ex 0,⟨[(3,.any),(8,.any)],[]⟩)])],[(5,3,6,⟨[(14,.any),(18,.d .bool)],[]⟩)],[]⟩ F
def p0d (F:Nat)(c:List Int)(d:(List Int)×Int):Option (Q0 ((List Int)×Int) (List Int)):=match d with
 | (b,a)=>if decide (a<(c.length:Int))then .bind (α:=List Int) (if y0 c a then if(gt c a)==(b.length:Int)then if K0 1 b [IntKind.u8.wrap (a)]then some (b++[IntKind.u8.wrap (a)])else none else some b else none) fun e=>some (.next (e,W (a+1)))else some (.done b)
def e0e (F:Nat)(a:List Int):Option (List Int):=.bind (g09 F a) fun c=>if !c then some []else .bind (α:=List Int) (iter (p0d F a) F ([],0)) fun b=>some b
def j0S (F:Nat):Sm en.D:=⟨47,[.d (.list B2)],.own 5 (.int .u8),[],fun a=>e0e F a⟩
def x0u (F:Nat):=V1 [k0v F] 47 ⟨[(9,[(.nrm,⟨[(3,.own 5 (.int .u8))],[(0,.any)]⟩)])],[(5,⟨[(3,.own 5 (.int .u8)),(11,G3)],[]⟩,[(.ex 0,⟨[(3,.own 5 (.int .u8)),(11,.any)],[]⟩)])],[],[]⟩ F
def h0r (F:Nat)(a:Int)(b:Int):Option Bool:=.bind (if a==(-1)then some true else .bind (if decide (a>=0)then some (decide (a<b))else some false) fun c=>some c) fun d=>some d
def l0u (F:Nat):Sm en.D:=⟨104,[G3,G3],.d .bool,[],fun a=>h0r F a.1 a.2⟩
def x0k (F:Nat):=V1 [] 104 ⟨[],[],[(1,3,10,⟨[(7,.any),(15,.d .bool)],[]⟩),(1,6,9,⟨[(10,.any),(14,.d .bool)],[]⟩)],[]⟩ F
def k0m (F:Nat)(b:L3)(c:Int):Option (Q0 Int (Int⊕Unit)):=match c with
 | a=>if decide (a<(b.Accept.length:Int))then if y0 b.Accept a then .bind (if(gt b.Accept a) != (-2)then .bind (h0r F (gt b.Accept a) b.Regs) fun d=>some (!d)else some false) fun e=>if e then some (.done (.inl a))else some (.next (W (a+1)))else none else some (.done (.inr ()))
def l0l (F:Nat)(a:L3)(b:Int):Option Bool:=.bind (if(a.Accept.length:Int)==0 then some true else .bind (if(a.Accept.length:Int)==b then .bind (α:=Int⊕Unit) (iter (k0m F a) F 0) fun f=>match f with
     | .inl e=>some (!(decide (e>=0)))
     | .inr _=>some (!(decide ((-1)>=0)))else some false) fun c=>some c) fun d=>some d
def o0I (F:Nat):Sm en.D:=⟨48,[.d (.st 1),G3],.d .bool,[],fun a=>l0l F a.1 a.2⟩
def F0n (F:Nat):J3 en:=⟨[l0u F],fun a=>if Nat.beq a 48 then⟨[],[],[(2,5,17,⟨[(11,.any),(24,.d .bool)],[]⟩),(2,11,16,⟨[(17,.any),(23,.d .bool)],[]⟩)],[]⟩else if Nat.beq a 103 then⟨[],[],[(1,3,8,⟨[(6,.any),(12,.d .bool)],[]⟩)],[]⟩else if Nat.beq a 105 then G4 else if Nat.beq a 143 then⟨[],[(2,⟨[(8,G3)],[]⟩,[(.ret,⟨[(4,G3),(8,.any)],[]⟩),(.ex 0,⟨[(8,.any)],[]⟩)])],[],[]⟩else G4,F,[]⟩
def j0j (F:Nat)(e:L3)(b:H4)(c:Int):Option (Q0 Int (Int⊕Unit)):=match c with
 | a=>if decide (a<(b.Src.length:Int))then if y0 b.Src a then .bind (h0r F (gt b.Src a) e.Regs) fun d=>if !d then some (.done (.inl a))else some (.next (W (a+1)))else none else some (.done (.inr ()))
def k0u (F:Nat)(b:Y1)(c:L3)(a:H4):Option Bool:=if a.To==(-1)then some ((a.Src.length:Int)==0)else .bind (if decide (a.To>=0)then some (decide (a.To<(b.States.length:Int)))else some false) fun d=>.bind (if d then if y0 b.States a.To then let e:=(a.Src.length:Int)==((gt b.States a.To).Regs);
     some e else none else some false) fun f=>.bind (if f then .bind (α:=Int⊕Unit) (iter (j0j F c a) F 0) fun i=>match i with
    | .inl h=>some (!(decide (h>=0)))
    | .inr _=>some (!(decide ((-1)>=0)))else some false) fun g=>some g
def n0e (F:Nat):Sm en.D:=⟨49,[.d (.st 2),.d (.st 1),.d (.st 0)],.d .bool,[],fun a=>k0u F a.1 a.2.1 a.2.2⟩
def y0C (F:Nat):J3 en:=⟨[l0u F],fun a=>if Nat.beq a 49 then⟨[],[],[(4,4,10,⟨[(19,.any),(26,.d .bool)],[]⟩),(4,12,23,⟨[(27,.any),(39,.d .bool)],[]⟩),(4,25,30,⟨[(40,.any),(46,.d .bool)],[]⟩)],[]⟩else if Nat.beq a 105 then G4 else if Nat.beq a 106 then G4 else if Nat.beq a 143 then⟨[],[(2,⟨[(8,G3)],[]⟩,[(.ret,⟨[(4,G3),(8,.any)],[]⟩),(.ex 0,⟨[(8,.any)],[]⟩)])],[],[]⟩else G4,F,[]⟩
def h0X (F:Nat)(a:Y1)(c:Int)(d:Int):Option (Q0 Int (Unit⊕Unit)):=match d with
 | b=>let f:=decide (b<(((gt a.States c).Edges).length:Int));
 if f then if y0 ((gt a.States c).Edges) b then .bind (k0u F a (gt a.States c) (gt ((gt a.States c).Edges) b)) fun e=>if !e then some (.done (.inl ()))else some (.next (W (b+1)))else none else some (.done (.inr ()))
def k0q (F:Nat)(a:Y1)(e:List Int)(d:Int):Option (Q0 Int (Unit⊕Unit)):=match d with
 | b=>if decide (b<(a.States.length:Int))then if y0 a.States b then .bind (if decide (((gt a.States b).Regs)<0)then some true else some (decide (((gt a.States b).Regs)>1216))) fun g=>.bind (if g then some true else let h:=(((gt a.States b).Edges).length:Int) != (e.length:Int);
     some h) fun i=>.bind (if i then some true else .bind (l0l F (gt a.States b) a.Tags) fun c=>some (!c)) fun f=>if f then some (.done (.inl ()))else .bind (α:=Unit⊕Unit) (iter (h0X F a b) F 0) fun j=>match j with
    | .inl _=>some (.done (.inl ()))
    | .inr _=>some (.next (W (b+1)))else none else some (.done (.inr ()))
def e0X (F:Nat)(a:Y1):Option Bool:=.bind (if decide (a.Tags<1)then some true else some (decide (a.Tags>19))) fun d=>.bind (if d then some true else some ((a.Tags.tmod 2)==0)) fun e=>.bind (if e then some true else some ((a.States.length:Int)==0)) fun f=>.bind (if f then some true else some (decide ((a.States.length:Int)>400))) fun g=>.bind (if g then some true else .bind (g09 F a.Class) fun c=>some (!c)) fun h=>if h then some false else .bind (e0e F a.Class) fun b=>.bind (α:=Unit⊕Unit) (iter (k0q F a b) F 0) fun i=>match i with
  | .inl _=>some false
  | .inr _=>if y0 a.States 0 then some (((gt a.States 0).Regs)==0)else none
def m0p (F:Nat):Sm en.D:=⟨15,[.d (.st 2)],.d .bool,[],fun a=>e0X F a⟩
def I0b (F:Nat):=V1 [k0v F,j0S F,o0I F,n0e F] 15 ⟨[],[(10,⟨[(76,G3)],[]⟩,[(.ret,⟨[(2,.kb false),(76,.any)],[]⟩),(.ex 2,⟨[(76,.any)],[]⟩)]),(5,⟨[(47,G3)],[]⟩,[(.ret,⟨[(2,.kb false),(47,.any)],[]⟩),(.ex 0,⟨[(47,.any)],[]⟩)])],[(1,4,7,⟨[(11,.any),(15,.d .bool)],[]⟩),(1,9,13,⟨[(16,.any),(21,.d .bool)],[]⟩),(1,15,19,⟨[(22,.any),(27,.d .bool)],[]⟩),(1,21,25,⟨[(28,.any),(33,.d .bool)],[]⟩),(1,27,31,⟨[(34,.any),(39,.d .bool)],[]⟩),(7,4,7,⟨[(54,.any),(58,.d .bool)],[]⟩),(7,9,14,⟨[(59,.any),(65,.d .bool)],[]⟩),(7,16,21,⟨[(66,.any),(72,.d .bool)],[]⟩)],[]⟩ F
def n0B (F:Nat)(b:List Int)(c:List Int)(d:Int):Option (Q0 Int (Unit⊕Unit)):=match d with
 | a=>if decide (a<(b.length:Int))then if y0 b a then if y0 c a then if(gt b a) != (gt c a)then some (.done (.inl ()))else some (.next (W (a+1)))else none else none else some (.done (.inr ()))
def b00 (F:Nat)(a:List Int)(b:List Int):Option Bool:=if(a.length:Int) != (b.length:Int)then some false else .bind (α:=Unit⊕Unit) (iter (n0B F a b) F 0) fun c=>match c with
  | .inl _=>some false
  | .inr _=>some true
def f0f (F:Nat):Sm en.D:=⟨54,[.d (.list B2),.d (.list B2)],.d .bool,[],fun a=>b00 F a.1 a.2⟩
def B0l (F:Nat):=V1 [] 54 ⟨[],[(4,⟨[(13,G3)],[]⟩,[(.ret,⟨[(4,.kb false),(13,.any)],[]⟩),(.ex 0,⟨[(13,.any)],[]⟩)])],[],[]⟩ F
def c0u (F:Nat)(b:List C0)(c:List Int)(a:Int):Option Int:=if y0 b a then .bind (α:=Int⊕Unit) (.bind (if((gt b a).Kind)==1 then some ((gt b a).Kind==1)else some ((gt b a).Kind==2)) fun d=>if d then .bind (if((gt b a).A)==(-1)then some ((gt b a).B==(-1))else some false) fun g=>if g then some (.inl a)else some (.inr ())else .bind (if((gt b a).Kind)==3 then some ((gt b a).Kind==3)else some ((gt b a).Kind==4)) fun h=>if h then .bind (if decide ((gt b a).B>=0)then some ((gt b a).B==(W (a-1)))else some false) fun i=>.bind (if i then some (decide ((gt b a).A>=0))else some false) fun j=>.bind (if j then if y0 c ((gt b a).B)then let k:=(gt b a).A==(W ((gt c (gt b a).B)-1));
        some k else none else some false) fun l=>if l then if y0 c ((gt b a).A)then some (.inl (gt c (gt b a).A))else none else some (.inr ())else .bind (if((gt b a).Kind)==5 then some ((gt b a).Kind==5)else if((gt b a).Kind)==6 then some ((gt b a).Kind==6)else if((gt b a).Kind)==7 then some ((gt b a).Kind==7)else some ((gt b a).Kind==8)) fun m=>if m then .bind (if((gt b a).B)==(-1)then some (decide ((gt b a).A>=0))else some false) fun n=>.bind (if n then some ((gt b a).A==(W (a-1)))else some false) fun e=>if e then if y0 c ((gt b a).A)then some (.inl (gt c (gt b a).A))else none else some (.inr ())else some (.inr ())) fun o=>match o with
  | .inl f=>some f
  | .inr _=>some (-1)else none
def q0D (F:Nat):Sm en.D:=⟨165,[.d (.list (.st 3)),.d (.list B2),G3],G3,[],fun a=>c0u F a.1 a.2.1 a.2.2⟩
def I0P (F:Nat):=V1 [] 165 ⟨[(15,[(.nrm,⟨[(60,.d .bool)],[]⟩)]),(17,[(.ret,⟨[(6,G3)],[]⟩),(.nrm,⟨[],[]⟩)]),(5,[(.nrm,⟨[(14,.d .bool)],[]⟩)]),(9,[(.nrm,⟨[(26,.d .bool)],[]⟩)])],[],[(5,4,7,⟨[(20,.any),(24,.d .bool)],[]⟩),(9,4,9,⟨[(32,.any),(38,.d .bool)],[]⟩),(9,11,14,⟨[(39,.any),(43,.d .bool)],[]⟩),(9,16,25,⟨[(44,.any),(54,.d .bool)],[]⟩),(15,4,7,⟨[(68,.any),(72,.d .bool)],[]⟩),(15,9,14,⟨[(73,.any),(79,.d .bool)],[]⟩)],[]⟩ F
def c0v (F:Nat)(a:C0):Option Bool:=.bind (if a.Kind != 2 then let b:=!(((gt a.Set 0)==0)&&(((gt a.Set 1)==0)&&(((gt a.Set 2)==0)&&((gt a.Set 3)==0))));
   some b else some false) fun c=>if c then some false else if a.Kind==7 then .bind (if decide (a.N>=1)then some (decide (a.N<=9))else some false) fun d=>some d else some (a.N==0)
def o0M (F:Nat):Sm en.D:=⟨166,[.d (.st 3)],.d .bool,[],fun a=>c0v F a⟩
def D0Y (F:Nat):=V1 [] 166 ⟨[],[],[(1,4,8,⟨[(6,.any),(11,.d .bool)],[]⟩),(4,4,7,⟨[(18,.any),(22,.d .bool)],[]⟩)],[]⟩ F
def o0y (F:Nat)(c:C0)(b:List C0)(d:Int):Option (Q0 Int (Unit⊕Unit)):=match d with
 | a=>if decide (a<(b.length:Int))then if y0 b a then .bind (if c.Kind==7 then some ((gt b a).Kind==7)else some false) fun e=>.bind (if e then some ((gt b a).N==c.N)else some false) fun f=>if f then some (.done (.inl ()))else some (.next (W (a+1)))else none else some (.done (.inr ()))
def c0b (F:Nat)(b:C0)(a:List C0):Option Bool:=.bind (α:=Unit⊕Unit) (iter (o0y F b a) F 0) fun c=>match c with
 | .inl _=>some true
 | .inr _=>some false
def p0o (F:Nat):Sm en.D:=⟨167,[.d (.st 3),.d (.list (.st 3))],.d .bool,[],fun a=>c0b F a.1 a.2⟩
def C08 (F:Nat):=V1 [] 167 ⟨[],[(2,⟨[(9,G3)],[]⟩,[(.ret,⟨[(4,.kb true),(9,.any)],[]⟩),(.ex 0,⟨[(9,.any)],[]⟩)])],[(4,4,7,⟨[(16,.any),(20,.d .bool)],[]⟩),(4,9,14,⟨[(21,.any),(27,.d .bool)],[]⟩)],[]⟩ F
def m00 (F:Nat)(b:List C0)(g:(List Int)×Int×Int):Option (Q0 ((List Int)×Int×Int) (Unit⊕((List Int)×Int))):=match g with
 | (d,e,a)=>if decide (a<(b.length:Int))then if y0 b a then .bind (c0u F b d a) fun c=>.bind (if decide (c<0)then some true else .bind (c0v F (gt b a)) fun h=>some (!h)) fun j=>.bind (if j then some true else if P3 b c a then .bind (c0b F (gt b a) (G1 b c a)) fun f=>some f else none) fun k=>if k then some (.done (.inl ()))else .bind (α:=Int) (if((gt b a).Kind)==2 then some (W (e+1))else some e) fun i=>if K0 8 d [c]then some (.next (d++[c],i,W (a+1)))else none else none else some (.done (.inr (d,e)))
def I9 (F:Nat)(a:List C0):Option (List Int):=.bind (if(a.length:Int)==0 then some true else some (decide ((a.length:Int)>400))) fun d=>if d then some []else .bind (α:=Unit⊕((List Int)×Int)) (iter (m00 F a) F ([],0,0)) fun f=>match f with
  | .inl _=>some []
  | .inr (b,c)=>.bind (if decide (c>64)then some true else if y0 b (W ((a.length:Int)-1))then some ((gt b (W ((a.length:Int)-1))) != 0)else none) fun e=>if e then some []else some b
def f0O (F:Nat):Sm en.D:=⟨144,[.d (.list (.st 3))],.own 3 B2,[],fun a=>I9 F a⟩
def A09 (F:Nat):=V1 [q0D F,o0M F,p0o F] 144 ⟨[(13,[(.nrm,⟨[(4,G3)],[]⟩)])],[(6,⟨[(3,.own 3 B2),(4,G3),(18,G3)],[]⟩,[(.ret,⟨[(2,.nil),(3,.any),(4,.any),(18,.any)],[]⟩),(.ex 0,⟨[(3,.own 3 B2),(4,G3),(18,.any)],[]⟩)])],[(1,4,7,⟨[(11,.any),(15,.d .bool)],[]⟩),(9,3,6,⟨[(29,.any),(33,.d .bool)],[]⟩),(9,8,14,⟨[(34,.any),(41,.d .bool)],[]⟩),(15,3,10,⟨[(54,.any),(62,.d .bool)],[]⟩)],[]⟩ F
def l6 (F:Nat)(a:List C0):Option Bool:=.bind (I9 F a) fun b=>some (decide ((b.length:Int)>0))
def b0t (F:Nat):Sm en.D:=⟨109,[.d (.list (.st 3))],.d .bool,[],fun a=>l6 F a⟩
def B03 (F:Nat):=V1 [f0O F] 109 G4 F
def f0d (F:Nat)(a:Int):Option Bool:=.bind (if a==0 then some true else some (a==1)) fun b=>some b
def k0M (F:Nat):Sm en.D:=⟨110,[G3],.d .bool,[],fun a=>f0d F a⟩
def F0m (F:Nat):=V1 [] 110 ⟨[],[],[(1,3,5,⟨[(5,.any),(8,.d .bool)],[]⟩)],[]⟩ F
def l0O (F:Nat)(b:List C0)(d:Int×(List Bool)):Option (Q0 (Int×(List Bool)) (List Bool)):=match d with
 | (a,c)=>if decide (a<(b.length:Int))then .bind (α:=List Bool) (if y0 b a then .bind (if((gt b a).Kind)==1 then some ((gt b a).Kind==1)else if((gt b a).Kind)==5 then some ((gt b a).Kind==5)else some ((gt b a).Kind==6)) fun e=>if e then if y0 c a then some (c.set a.toNat true)else none else if((gt b a).Kind)==3 then if y0 c ((gt b a).A)then .bind (if gt c ((gt b a).A)then if y0 c ((gt b a).B)then some (gt c (gt b a).B)else none else some false) fun f=>if y0 c a then some (c.set a.toNat f)else none else none else if((gt b a).Kind)==4 then if y0 c ((gt b a).A)then .bind (if gt c ((gt b a).A)then some true else if y0 c ((gt b a).B)then some (gt c (gt b a).B)else none) fun g=>if y0 c a then some (c.set a.toNat g)else none else none else .bind (if((gt b a).Kind)==7 then some ((gt b a).Kind==7)else some ((gt b a).Kind==8)) fun h=>if h then if y0 c ((gt b a).A)then if y0 c a then some (c.set a.toNat (gt c (gt b a).A))else none else none else some c else none) fun i=>some (.next (W (a+1),i))else some (.done c)
def a0v (F:Nat)(a:List C0):Option (List Bool):=.bind (l6 F a) fun b=>if !b then some []else if R2 1 (a.length:Int)then .bind (α:=List Bool) (iter (l0O F a) F (0,(List.replicate (a.length:Int).toNat false:List Bool))) fun c=>some c else none
def g00 (F:Nat):Sm en.D:=⟨111,[.d (.list (.st 3))],.own 4 .bool,[],fun a=>a0v F a⟩
def G08 (F:Nat):=V1 [b0t F] 111 ⟨[(11,[(.nrm,⟨[(21,.d .bool)],[]⟩)]),(18,[(.nrm,⟨[(62,.d .bool)],[]⟩)]),(19,[(.nrm,⟨[],[(0,.own 4 .bool)]⟩)])],[(5,⟨[(14,G3)],[(0,.own 4 .bool)]⟩,[(.ex 0,⟨[(14,.any)],[(0,.own 4 .bool)]⟩)])],[(13,8,13,⟨[(37,.any),(43,.d .bool)],[]⟩),(15,8,13,⟨[(54,.any),(60,.d .bool)],[]⟩)],[]⟩ F
def d0z (F:Nat)(a:List C0)(c:Int):Option (F1×Int):=.bind (l6 F a) fun e=>if !e then some ((⟨0,[],[],(⟨[],[]⟩:D2)⟩:F1),11)else .bind (f0d F c) fun d=>if !d then some ((⟨0,[],[],(⟨[],[]⟩:D2)⟩:F1),1)else .bind (if c==1 then some true else .bind (a0v F a) fun b=>if y0 b (W ((a.length:Int)-1))then some (gt b (W ((a.length:Int)-1)))else none) fun f=>if f then some ((⟨2,[],[],(⟨[],[]⟩:D2)⟩:F1),0)else some ((⟨1,[],[],(⟨[],[]⟩:D2)⟩:F1),0)
def n0l (F:Nat):Sm en.D:=⟨58,[.d (.list (.st 3)),G3],.tup [.d (.st 6),G3],[],fun a=>d0z F a.1 a.2⟩
def D0T (F:Nat):=V1 [b0t F,k0M F,g00 F] 58 ⟨[],[],[(5,3,10,⟨[(16,.any),(24,.d .bool)],[]⟩)],[]⟩ F
def e0H (F:Nat)(b:List Int)(a:Int):Option Bool:=if decide (0<=IntKind.u8.wrap (a.tdiv 64))&&decide (IntKind.u8.wrap (a.tdiv 64)<4)then if !decide (a.tmod 64<0)then let c:=Q2 .u64 (gt b (IntKind.u8.wrap (a.tdiv 64))) (shl .u64 1 (a.tmod 64));
   some (c != 0)else none else none
def d0m (F:Nat):Sm en.D:=⟨168,[.d (.arr 4 (.int .u64)),.d (.int .u8)],.d .bool,[],fun a=>e0H F a.1 a.2⟩
def C0Z (F:Nat):=V1 [] 168 G4 F
def d0l (F:Nat)(a:Int):List (List Int)->Option (List Bool)
 | []=>some []
 | c :: b=>.bind (e0H F c a) fun d=>.bind (d0l F a b) fun e=>some (d :: e)
def f04 (F:Nat)(d:List (List Int))(a:List (List Bool)×List Int)(c:Nat):Option (List (List Bool)×List Int):=.bind (d0l F c d) fun b=>if a.1.contains b then some (a.1,a.2++[(a.1.idxOf b:Int)])else some (a.1++[b],a.2++[(a.1.length:Int)])
def f0P (F:Nat)(a:List (List Int)):Option (List Int×Int):=if decide (a.length<=1000000000)then .bind ((List.range 256).foldlM (f04 F a) ([],[])) fun b=>some (b.2,(b.1.length:Int))else none
def o0i (F:Nat):Sm en.D:=⟨112,[.d (.list (.arr 4 (.int .u64)))],.tup [.d (.list B2),G3],[],fun a=>f0P F a⟩
def g08 (F:Nat)(b:List C0)(d:(List (List Int))×Int):Option (Q0 ((List (List Int))×Int) (List (List Int))):=match d with
 | (c,a)=>if decide (a<(b.length:Int))then .bind (α:=List (List Int)) (if y0 b a then if((gt b a).Kind)==2 then if K0 32 c [(gt b a).Set]then some (c++[(gt b a).Set])else none else some c else none) fun e=>some (.next (e,W (a+1)))else some (.done c)
def f0z (F:Nat)(a:List C0):Option ((List Int)×Int):=.bind (l6 F a) fun d=>if !d then some ([],0)else .bind (α:=List (List Int)) (iter (g08 F a) F ([],0)) fun e=>.bind (f0P F e) fun(b,c)=>some (b,c)
def l00 (F:Nat):Sm en.D:=⟨59,[.d (.list (.st 3))],.tup [.d (.list B2),G3],[],fun a=>f0z F a⟩
def A0j (F:Nat):=V1 [b0t F,o0i F] 59 ⟨[(9,[(.nrm,⟨[(4,.own 130 (.arr 4 (.int .u64)))],[(0,.any)]⟩)])],[(5,⟨[(4,.own 130 (.arr 4 (.int .u64))),(12,G3)],[]⟩,[(.ex 0,⟨[(4,.own 130 (.arr 4 (.int .u64))),(12,.any)],[]⟩)])],[],[]⟩ F
def l06 (F:Nat):Option Unit:=some ()
def p0h (F:Nat):Sm en.D:=⟨113,[],.agg [.fn 146 [],.fn 147 [.box 75 [.fn 146 []]]],[],fun a=>l06 F⟩
def y0h (F:Nat):=V1 [] 113 G4 F
def m03 (F:Nat)(b:D2)(c:D2)(d:Int):Option (Q0 Int (Unit⊕Unit)):=match d with
 | a=>if decide (a<(b.B.length:Int))then if y0 b.B a then if y0 c.B a then .bind (b00 F (gt b.B a) (gt c.B a)) fun e=>if !e then some (.done (.inl ()))else some (.next (W (a+1)))else none else none else some (.done (.inr ()))
def o0l (F:Nat)(b:D2)(c:D2)(d:Int):Option (Q0 Int (Unit⊕Unit)):=match d with
 | a=>if decide (a<(b.D.length:Int))then if y0 b.D a then if y0 c.D a then .bind (b00 F (gt b.D a) (gt c.D a)) fun e=>if !e then some (.done (.inl ()))else some (.next (W (a+1)))else none else none else some (.done (.inr ()))
def l0p (F:Nat)(a:D2)(b:D2):Option Bool:=if(a.B.length:Int) != (b.B.length:Int)then some false else .bind (α:=Unit⊕Unit) (iter (m03 F a b) F 0) fun c=>match c with
  | .inl _=>some false
  | .inr _=>.bind (if(a.D.length:Int) != (b.D.length:Int)then some false else .bind (α:=Unit⊕Unit) (iter (o0l F a b) F 0) fun c=>match c with
     | .inl _=>some false
     | .inr _=>some true) fun d=>some d
def q0g (F:Nat):Sm en.D:=⟨114,[.d (.st 5),.d (.st 5)],.d .bool,[],fun a=>l0p F a.1 a.2⟩
def D0K (F:Nat):J3 en:=⟨[f0f F],fun a=>if Nat.beq a 114 then⟨[],[],[(2,7,13,⟨[(19,.d .bool)],[]⟩)],[]⟩else if Nat.beq a 148 then⟨[],[(4,⟨[(17,G3)],[]⟩,[(.ret,⟨[(6,.kb false),(17,.any)],[]⟩),(.ex 0,⟨[(17,.any)],[]⟩)])],[],[]⟩else G4,F,[]⟩
def n0F (F:Nat)(b:F1)(c:F1)(d:Int):Option (Q0 Int (Unit⊕Unit)):=match d with
 | a=>if decide (a<(b.Maps.length:Int))then if y0 b.Maps a then if y0 c.Maps a then .bind (b00 F (gt b.Maps a) (gt c.Maps a)) fun e=>if !e then some (.done (.inl ()))else some (.next (W (a+1)))else none else none else some (.done (.inr ()))
def h0U (F:Nat)(a:F1)(b:F1):Option Bool:=.bind (l06 F) fun _=>.bind (if a.Flag==b.Flag then .bind (b00 F a.Places b.Places) fun c=>some c else some false) fun e=>.bind (if e then let f:=(a.Maps.length:Int) != (b.Maps.length:Int);
   if f then some false else .bind (α:=Unit⊕Unit) (iter (n0F F a b) F 0) fun i=>match i with
    | .inl _=>some false
    | .inr _=>some true else some false) fun g=>.bind (if g then .bind (l0p F a.Rank b.Rank) fun d=>some d else some false) fun h=>some h
def p09 (F:Nat):Sm en.D:=⟨60,[.d (.st 6),.d (.st 6)],.d .bool,[],fun a=>h0U F a.1 a.2⟩
def H07 (F:Nat):J3 en:=⟨[f0f F,p0h F,q0g F],fun a=>if Nat.beq a 60 then⟨[],[],[(2,6,13,⟨[(12,.any),(20,.d .bool)],[]⟩),(2,15,22,⟨[(21,.any),(29,.d .bool)],[]⟩),(2,24,29,⟨[(30,.any),(36,.d .bool)],[]⟩)],[]⟩else if Nat.beq a 146 then G4 else if Nat.beq a 147 then G4 else if Nat.beq a 148 then⟨[],[(4,⟨[(17,G3)],[]⟩,[(.ret,⟨[(6,.kb false),(17,.any)],[]⟩),(.ex 0,⟨[(17,.any)],[]⟩)])],[],[]⟩else G4,F,[]⟩
def h07 (F:Nat)(c:List C0)(a:Int)(d:List Int)(g:Int)(f:Int×(List Bool)):Option (Q0 (Int×(List Bool)) (List Bool)):=match f with
 | (b,e)=>if decide (b<g)then .bind (α:=List Bool) (if y0 (G1 c (gt d a) (W (a+1))) b then let h:=((gt (G1 c (gt d a) (W (a+1))) b).Kind)==7;
    if h then if decide (0<=(gt (G1 c (gt d a) (W (a+1))) b).N)&&decide ((gt (G1 c (gt d a) (W (a+1))) b).N<10)then let i:=e.set ((gt (G1 c (gt d a) (W (a+1))) b).N).toNat true;
      some i else none else some e else none) fun j=>some (.next (W (b+1),j))else some (.done e)
def h0d (F:Nat)(e:List Bool)(c:(List Int)×Int):Option (Q0 ((List Int)×Int) (List Int)):=match c with
 | (b,a)=>if decide (a<10)then .bind (α:=List Int) (if decide (0<=a)&&decide (a<10)then if gt e a then if K0 8 b [a]then some (b++[a])else none else some b else none) fun d=>some (.next (d,W (a+1)))else some (.done b)
def i0x (F:Nat)(c:List C0)(a:Int):Option (List Int):=.bind (I9 F c) fun b=>.bind (if decide (a<0)then some true else some (decide (a>=(b.length:Int)))) fun e=>if e then some []else if y0 b a then if P3 c (gt b a) (W (a+1))then let f:=((G1 c (gt b a) (W (a+1))).length:Int);
    .bind (α:=List Bool) (iter (h07 F c a b f) F (0,[false,false,false,false,false,false,false,false,false,false])) fun g=>.bind (α:=List Int) (iter (h0d F g) F ([],0)) fun d=>some d else none else none
def k0p (F:Nat):Sm en.D:=⟨149,[.d (.list (.st 3)),G3],.own 3 B2,[],fun a=>i0x F a.1 a.2⟩
def I0f (F:Nat):=V1 [f0O F] 149 ⟨[(10,[(.nrm,⟨[],[(1,.box 219 [.d (.arr 10 .bool)])]⟩)]),(17,[(.nrm,⟨[(9,.own 3 B2)],[(3,.any)]⟩)])],[(13,⟨[(9,.own 3 B2),(41,G3)],[]⟩,[(.ex 2,⟨[(9,.own 3 B2),(41,.any)],[]⟩)]),(6,⟨[(30,G3)],[(1,.box 219 [.d (.arr 10 .bool)])]⟩,[(.ex 0,⟨[(30,.any)],[(1,.box 219 [.d (.arr 10 .bool)])]⟩)])],[(2,3,7,⟨[(15,.any),(20,.d .bool)],[]⟩)],[]⟩ F
def k0d (F:Nat)(b:List Int)(c:Int×Int):Option (Q0 (Int×Int) Int):=match c with
 | (d,a)=>if decide (a<(b.length:Int))then if y0 b a then some (.next (gt b a,W (a+1)))else none else some (.done d)
def l0a (F:Nat)(a:List C0):Option Int:=.bind (i0x F a (W ((a.length:Int)-1))) fun b=>.bind (α:=Int) (iter (k0d F b) F (0,0)) fun c=>some c
def m0Q (F:Nat):Sm en.D:=⟨117,[.d (.list (.st 3))],G3,[],fun a=>l0a F a⟩
def D0F (F:Nat):=V1 [k0p F] 117 ⟨[],[(3,⟨[(3,G3),(12,G3)],[]⟩,[(.ex 0,⟨[(3,G3),(12,.any)],[]⟩)])],[],[]⟩ F
def d0Y (F:Nat)(a:List C0):Option Int:=.bind (l6 F a) fun b=>if !b then some 0 else .bind (l0a F a) fun c=>some (W (1+(W (2*c))))
def h0C (F:Nat):Sm en.D:=⟨62,[.d (.list (.st 3))],G3,[],fun a=>d0Y F a⟩
def y0D (F:Nat):=V1 [b0t F,m0Q F] 62 G4 F
def g0Q (F:Nat)(b:F1)(c:Int)(e:Int×Int):Option (Q0 (Int×Int) Int):=match e with
 | (d,a)=>if decide (a<((gt b.Maps c).length:Int))then if y0 (gt b.Maps c) a then let f:=if(W ((gt (gt b.Maps c) a)+1))>d then W ((gt (gt b.Maps c) a)+1)else d;
   some (.next (f,W (a+1)))else none else some (.done d)
def h0f (F:Nat)(b:F1)(d:Int×Int):Option (Q0 (Int×Int) Int):=match d with
 | (c,a)=>if decide (a<(b.Maps.length:Int))then if y0 b.Maps a then .bind (α:=Int) (iter (g0Q F b a) F (c,0)) fun e=>some (.next (e,W (a+1)))else none else some (.done c)
def c0k (F:Nat)(a:F1):Option Int:=.bind (α:=Int) (iter (h0f F a) F (0,0)) fun b=>some b
def p0n (F:Nat):Sm en.D:=⟨118,[.d (.st 6)],G3,[],fun a=>c0k F a⟩
def x0V (F:Nat):=V1 [] 118 ⟨[],[(3,⟨[(3,G3),(11,G3)],[]⟩,[(.ex 0,⟨[(3,G3),(11,.any)],[]⟩)]),(6,⟨[(3,G3),(17,G3)],[]⟩,[(.ex 2,⟨[(3,G3),(17,.any)],[]⟩)])],[],[]⟩ F
def h0V (F:Nat)(b:List Int)(e:Int)(c:Int×Int):Option (Q0 (Int×Int) (Unit⊕Unit)):=match c with
 | (d,a)=>if decide (a<(b.length:Int))then if y0 b a then .bind (if decide ((gt b a)<=d)then some true else some (decide ((gt b a)>=e))) fun f=>if f then some (.done (.inl ()))else some (.next (gt b a,W (a+1)))else none else some (.done (.inr ()))
def i0v (F:Nat)(b:List Int)(a:Int):Option Bool:=.bind (α:=Unit⊕Unit) (iter (h0V F b a) F ((-1),0)) fun c=>match c with
 | .inl _=>some false
 | .inr _=>some true
def p0c (F:Nat):Sm en.D:=⟨171,[.d (.list B2),G3],.d .bool,[],fun a=>i0v F a.1 a.2⟩
def H0V (F:Nat):=V1 [] 171 ⟨[],[(3,⟨[(5,G3),(10,G3)],[]⟩,[(.ret,⟨[(4,.kb false),(5,.any),(10,.any)],[]⟩),(.ex 0,⟨[(5,.any),(10,.any)],[]⟩)])],[(5,4,7,⟨[(17,.any),(21,.d .bool)],[]⟩)],[]⟩ F
def p0Y (F:Nat)(c:List C0)(d:(List Int)×Int):Option (Q0 ((List Int)×Int) (List Int)):=match d with
 | (b,a)=>if decide (a<(c.length:Int))then .bind (α:=List Int) (if y0 c a then if((gt c a).Kind)==2 then if K0 8 b [a]then some (b++[a])else none else some b else none) fun e=>some (.next (e,W (a+1)))else some (.done b)
def C7 (F:Nat)(a:List C0):Option (List Int):=.bind (l6 F a) fun c=>if !c then some []else .bind (α:=List Int) (iter (p0Y F a) F ([],0)) fun b=>some b
def f0m (F:Nat):Sm en.D:=⟨172,[.d (.list (.st 3))],.own 3 B2,[],fun a=>C7 F a⟩
def C00 (F:Nat):=V1 [b0t F] 172 ⟨[(9,[(.nrm,⟨[(3,.own 3 B2)],[(0,.any)]⟩)])],[(5,⟨[(3,.own 3 B2),(11,G3)],[]⟩,[(.ex 0,⟨[(3,.own 3 B2),(11,.any)],[]⟩)])],[],[]⟩ F
def h0x (F:Nat)(b:List (List Int))(d:Int)(e:Int×Int):Option (Q0 (Int×Int) (Unit⊕Int)):=match e with
 | (c,a)=>if decide (a<((gt b d).length:Int))then .bind (α:=Int⊕Unit) (if y0 (gt b d) a then if(gt (gt b d) a)==(-2)then some (.inl c)else .bind (if decide ((gt (gt b d) a)<0)then some true else some (decide ((gt (gt b d) a)>c))) fun g=>if g then some (.inr ())else if(gt (gt b d) a)==c then some (.inl (W (c+1)))else some (.inl c)else none) fun h=>match h with
  | .inl f=>some (.next (f,W (a+1)))
  | .inr _=>some (.done (.inl ()))else some (.done (.inr c))
def i0p (F:Nat)(b:List (List Int))(f:Int)(c:Int×Int):Option (Q0 (Int×Int) (Unit⊕Unit)):=match c with
 | (d,a)=>if decide (a<(b.length:Int))then if y0 b a then if((gt b a).length:Int) != f then some (.done (.inl ()))else .bind (α:=Unit⊕Int) (iter (h0x F b a) F (d,0)) fun g=>match g with
    | .inl _=>some (.done (.inl ()))
    | .inr e=>some (.next (e,W (a+1)))else none else some (.done (.inr ()))
def g07 (F:Nat)(a:List (List Int))(b:Int):Option Bool:=.bind (α:=Unit⊕Unit) (iter (i0p F a b) F (0,0)) fun c=>match c with
 | .inl _=>some false
 | .inr _=>some true
def m0W (F:Nat):Sm en.D:=⟨173,[.d (.list (.list B2)),G3],.d .bool,[],fun a=>g07 F a.1 a.2⟩
def y01 (F:Nat):=V1 [] 173 ⟨[(15,[(.nrm,⟨[(5,G3)],[]⟩),(.ret,⟨[(4,.kb false)],[]⟩)])],[(3,⟨[(5,G3),(12,G3)],[]⟩,[(.ret,⟨[(4,.kb false),(5,.any),(12,.any)],[]⟩),(.ex 0,⟨[(5,.any),(12,.any)],[]⟩)]),(8,⟨[(5,G3),(22,G3)],[]⟩,[(.ret,⟨[(4,.kb false),(5,.any),(22,.any)],[]⟩),(.ex 2,⟨[(5,G3),(22,.any)],[]⟩)])],[(11,3,6,⟨[(32,.any),(36,.d .bool)],[]⟩)],[]⟩ F
def i0y (F:Nat)(b:List (List Int))(d:Int)(c:Int):Option (Q0 Int (Unit⊕Unit)):=match c with
 | a=>if decide (a<(b.length:Int))then if y0 b a then if((gt b a).length:Int) != d then some (.done (.inl ()))else some (.next (W (a+1)))else none else some (.done (.inr ()))
def h0W (F:Nat)(a:List (List Int))(b:Int):Option Bool:=.bind (α:=Unit⊕Unit) (iter (i0y F a b) F 0) fun c=>match c with
 | .inl _=>some false
 | .inr _=>some ((a.length:Int)==b)
def n0X (F:Nat):Sm en.D:=⟨189,[.d (.list (.list B2)),G3],.d .bool,[],fun a=>h0W F a.1 a.2⟩
def A0O (F:Nat):=V1 [] 189 ⟨[],[(2,⟨[(9,G3)],[]⟩,[(.ret,⟨[(4,.kb false),(9,.any)],[]⟩),(.ex 0,⟨[(9,.any)],[]⟩)])],[],[]⟩ F
def i0B (F:Nat)(b:D2)(e:Int)(c:Int)(d:Int):Option (Q0 Int (Unit⊕Unit)):=match d with
 | a=>if decide (a<e)then if y0 b.D c then if y0 (gt b.D c) a then if y0 b.B c then if y0 (gt b.B c) a then .bind (if decide ((gt (gt b.B c) a)<0)then some true else .bind (if c != a then if(gt (gt b.D c) a) != 1 then if(gt (gt b.D c) a) != (-1)then some true else if y0 b.D a then if y0 (gt b.D a) c then let f:=(gt (gt b.D a) c) != (W (0-(gt (gt b.D c) a)));
              some f else none else none else if y0 b.D a then if y0 (gt b.D a) c then let g:=(gt (gt b.D a) c) != (W (0-(gt (gt b.D c) a)));
             some g else none else none else some false) fun h=>some h) fun i=>if i then some (.done (.inl ()))else some (.next (W (a+1)))else none else none else none else none else some (.done (.inr ()))
def i0G (F:Nat)(b:D2)(c:Int)(d:Int):Option (Q0 Int (Unit⊕Unit)):=match d with
 | a=>if decide (a<c)then if y0 b.B a then if y0 (gt b.B a) a then .bind (if(gt (gt b.B a) a) != 0 then some true else if y0 b.D a then if y0 (gt b.D a) a then some ((gt (gt b.D a) a) != 0)else none else none) fun e=>if e then some (.done (.inl ()))else .bind (α:=Unit⊕Unit) (iter (i0B F b c a) F 0) fun f=>match f with
     | .inl _=>some (.done (.inl ()))
     | .inr _=>some (.next (W (a+1)))else none else none else some (.done (.inr ()))
def i0o (F:Nat)(b:D2)(a:Int):Option Bool:=.bind (h0W F b.B a) fun c=>.bind (if !c then some true else .bind (h0W F b.D a) fun d=>some (!d)) fun e=>if e then some false else .bind (α:=Unit⊕Unit) (iter (i0G F b a) F 0) fun f=>match f with
  | .inl _=>some false
  | .inr _=>some true
def j0L (F:Nat):Sm en.D:=⟨174,[.d (.st 5),G3],.d .bool,[],fun a=>i0o F a.1 a.2⟩
def C0a (F:Nat):=V1 [n0X F] 174 ⟨[],[(4,⟨[(21,G3)],[]⟩,[(.ret,⟨[(4,.kb false),(21,.any)],[]⟩),(.ex 0,⟨[(21,.any)],[]⟩)]),(9,⟨[(45,G3)],[]⟩,[(.ret,⟨[(4,.kb false),(45,.any)],[]⟩),(.ex 2,⟨[(45,.any)],[]⟩)])],[(1,6,11,⟨[(13,.any),(19,.d .bool)],[]⟩),(6,10,19,⟨[(33,.any),(43,.d .bool)],[]⟩),(12,10,34,⟨[(65,.any),(90,.d .bool)],[]⟩),(12,14,33,⟨[(69,.any),(89,.d .bool)],[]⟩)],[]⟩ F
def c0P (F:Nat)(b:List C0)(a:F1):Option Bool:=.bind (l6 F b) fun f=>.bind (if !f then some true else some (decide (a.Flag<0))) fun i=>.bind (if i then some true else some (decide (a.Flag>2))) fun j=>.bind (if j then some true else let k:=(a.Maps.length:Int) != (a.Places.length:Int);
   some k) fun l=>if l then some false else .bind (C7 F b) fun c=>.bind (i0v F a.Places (c.length:Int)) fun e=>.bind (if e then .bind (d0Y F b) fun h=>.bind (g07 F a.Maps h) fun d=>some d else some false) fun m=>.bind (if m then .bind (i0o F a.Rank (a.Places.length:Int)) fun g=>some g else some false) fun n=>some n
def i05 (F:Nat):Sm en.D:=⟨150,[.d (.list (.st 3)),.d (.st 6)],.d .bool,[],fun a=>c0P F a.1 a.2⟩
def C0L (F:Nat):=V1 [h0C F,b0t F,p0c F,f0m F,m0W F,j0L F] 150 ⟨[],[],[(1,4,7,⟨[(8,.any),(12,.d .bool)],[]⟩),(1,9,12,⟨[(13,.any),(17,.d .bool)],[]⟩),(1,14,21,⟨[(18,.any),(26,.d .bool)],[]⟩),(3,7,12,⟨[(33,.any),(39,.d .bool)],[]⟩),(3,14,20,⟨[(40,.any),(47,.d .bool)],[]⟩)],[]⟩ F
def L6 (F:Nat):Nat->(List C0)->(List Bool)->Int->(List Int)->Option (List Int)
 | 0,_,_,_,_=>none
 | e+1,b,c,a,d=>if K0 8 d [W (2*a)]then if y0 b a then .bind (α:=List Int) (if((gt b a).Kind)==3 then .bind (L6 F e b c (gt b a).A (d++[W (2*a)])) fun g=>.bind (L6 F e b c (gt b a).B g) fun h=>some h else if((gt b a).Kind)==4 then if y0 c ((gt b a).A)then if gt c ((gt b a).A)then .bind (L6 F e b c (gt b a).A (d++[W (2*a)])) fun i=>some i else .bind (L6 F e b c (gt b a).B (d++[W (2*a)])) fun j=>some j else none else .bind (if((gt b a).Kind)==7 then some ((gt b a).Kind==7)else some ((gt b a).Kind==8)) fun l=>if l then .bind (L6 F e b c (gt b a).A (d++[W (2*a)])) fun k=>some k else some (d++[W (2*a)])) fun f=>if K0 8 f [W ((W (2*a))+1)]then some (f++[W ((W (2*a))+1)])else none else none else none
def l0A (F b:Nat):Sm en.D:=⟨192,[.d (.list (.st 3)),.d (.list .bool),G3,.own 3 B2],.own 3 B2,[],fun a=>L6 F b a.1 a.2.1 a.2.2.1 a.2.2.2⟩
def x0D (F a:Nat):=V1 [l0A F a] 192 ⟨[(12,[(.nrm,⟨[(53,.d .bool)],[]⟩)]),(13,[(.nrm,⟨[(3,.own 3 B2)],[(2,.any)]⟩)])],[],[],[]⟩ F
def a0e (F:Nat)(c:List C0)(a:Int):Option (List Int):=.bind (a0v F c) fun b=>.bind (if decide (a<0)then some true else some (decide (a>=(b.length:Int)))) fun e=>.bind (if e then some true else if y0 b a then some (!(gt b a))else none) fun f=>if f then some []else .bind (L6 F F c b a []) fun d=>some d
def g0R (F:Nat):Sm en.D:=⟨176,[.d (.list (.st 3)),G3],.own 3 B2,[],fun a=>a0e F a.1 a.2⟩
def A0i (F:Nat):=V1 [g00 F,l0A F F] 176 ⟨[],[],[(2,3,7,⟨[(10,.any),(15,.d .bool)],[]⟩),(2,9,14,⟨[(16,.any),(22,.d .bool)],[]⟩)],[]⟩ F
def p0W (F:Nat)(b:List C0)(e:Int×(List Int)):Option (Q0 (Int×(List Int)) (List Int)):=match e with
 | (a,c)=>if decide (a<(b.length:Int))then .bind (α:=List Int) (if y0 b a then .bind (α:=List Int) (if decide ((gt b a).A>=0)then if y0 c ((gt b a).A)then some (c.set ((gt b a).A).toNat a)else none else some c) fun d=>if decide ((gt b a).B>=0)then if y0 d ((gt b a).B)then some (d.set ((gt b a).B).toNat a)else none else some d else none) fun f=>some (.next (W (a+1),f))else some (.done c)
def a0l (F:Nat)(a:List C0):Option (List Int):=.bind (l6 F a) fun c=>if !c then some []else if R2 8 (a.length:Int)then if y0 (List.replicate (a.length:Int).toNat 0:List Int) (W ((a.length:Int)-1))then let b:=(List.replicate (a.length:Int).toNat 0:List Int).set (W ((a.length:Int)-1)).toNat (-1);
    .bind (α:=List Int) (iter (p0W F a) F (0,b)) fun d=>some d else none else none
def f0R (F:Nat):Sm en.D:=⟨210,[.d (.list (.st 3))],.own 3 B2,[],fun a=>a0l F a⟩
def y0z (F:Nat):=V1 [b0t F] 210 ⟨[(10,[(.nrm,⟨[],[(0,.own 3 B2)]⟩)]),(12,[(.nrm,⟨[],[(0,.own 3 B2)]⟩)])],[(6,⟨[(19,G3)],[(0,.own 3 B2)]⟩,[(.ex 0,⟨[(19,.any)],[(0,.own 3 B2)]⟩)])],[],[]⟩ F
def p0a (F:Nat)(c:List Int)(d:Int×(List Int)):Option (Q0 (Int×(List Int)) (List Int)):=match d with
 | (a,b)=>if decide (a>=0)then .bind (α:=List Int) (if y0 b a then if y0 c a then if decide ((gt c a)>=0)then if y0 (b.set a.toNat 1) a then if y0 c a then if y0 (b.set a.toNat 1) (gt c a)then let e:=W ((gt (b.set a.toNat 1) a)+(gt (b.set a.toNat 1) (gt c a)));
         if y0 (b.set a.toNat 1) a then some ((b.set a.toNat 1).set a.toNat e)else none else none else none else none else some (b.set a.toNat 1)else none else none) fun f=>some (.next (W (a-1),f))else some (.done b)
def a0P (F:Nat)(b:List C0):Option (List Int):=.bind (a0l F b) fun a=>if R2 8 (a.length:Int)then .bind (α:=List Int) (iter (p0a F a) F (W ((a.length:Int)-1),(List.replicate (a.length:Int).toNat 0:List Int))) fun c=>some c else none
def j04 (F:Nat):Sm en.D:=⟨211,[.d (.list (.st 3))],.own 3 B2,[],fun a=>a0P F a⟩
def G0v (F:Nat):=V1 [f0R F] 211 ⟨[(5,[(.nrm,⟨[],[(1,.own 3 B2)]⟩)])],[(4,⟨[(5,G3)],[(1,.own 3 B2)]⟩,[(.ex 0,⟨[(5,.any)],[(1,.own 3 B2)]⟩)])],[],[]⟩ F
def p0g (F:Nat)(d:Int)(c:Int×(List Int)):Option (Q0 (Int×(List Int)) (List Int)):=match c with
 | (a,b)=>if decide (a<d)then if y0 b a then some (.next (W (a+1),b.set a.toNat (-1)))else none else some (.done b)
def p0t (F:Nat)(b:List Int)(d:Int×(List Int)):Option (Q0 (Int×(List Int)) (List Int)):=match d with
 | (a,c)=>if decide (a<(b.length:Int))then if y0 b a then if y0 c (gt b a)then some (.next (W (a+1),c.set (gt b a).toNat a))else none else none else some (.done c)
def b05 (F:Nat)(a:List C0):Option (List Int):=.bind (l6 F a) fun c=>if !c then some []else if R2 8 (a.length:Int)then let d:=((List.replicate (a.length:Int).toNat 0:List Int).length:Int);
   .bind (α:=List Int) (iter (p0g F d) F (0,(List.replicate (a.length:Int).toNat 0:List Int))) fun e=>.bind (C7 F a) fun b=>.bind (α:=List Int) (iter (p0t F b) F (0,e)) fun f=>some f else none
def q0j (F:Nat):Sm en.D:=⟨212,[.d (.list (.st 3))],.own 3 B2,[],fun a=>b05 F a⟩
def A0P (F:Nat):=V1 [b0t F,f0m F] 212 ⟨[],[(10,⟨[(25,G3)],[(0,.own 3 B2)]⟩,[(.ex 2,⟨[(25,.any)],[(0,.own 3 B2)]⟩)]),(5,⟨[(15,G3)],[(0,.own 3 B2)]⟩,[(.ex 0,⟨[(15,.any)],[(0,.own 3 B2)]⟩)])],[],[]⟩ F
def b0b (F:Nat)(a:List C0):Option ((Unit⊕L4)×Bool):=.bind (l6 F a) fun e=>if !e then some ((.inl ()),false)else .bind (a0l F a) fun f=>.bind (a0P F a) fun c=>.bind (b05 F a) fun d=>.bind (a0v F a) fun b=>some ((.inr (⟨a,f,c,d,b⟩:L4)),true)
def j0y (F:Nat):Sm en.D:=⟨193,[.d (.list (.st 3))],.tup [.alt .nilp (.box 246 [.d (.st 15)]),.d .bool],[],fun a=>b0b F a⟩
def A0q (F:Nat):=V1 [b0t F,g00 F,f0R F,j04 F,q0j F] 193 G4 F
def b0n (F:Nat)(b:List C0)(a:Int):Option ((Unit⊕L4)×Int×Bool):=.bind (α:=(Unit⊕L4)×Bool) (.bind (b0b F b) fun(i,e)=>match i with
  | .inl _=>some ((.inl ()),e)
  | .inr j=>some ((.inr j),e)) fun(g,f)=>match g with
 | .inl _=>if !f then some ((.inl ()),0,false)else .bind (C7 F b) fun d=>.bind (if decide (a<0)then some true else some (decide (a>=(d.length:Int)))) fun l=>if l then some ((.inl ()),0,false)else if y0 d a then some ((.inl ()),gt d a,true)else none
 | .inr h=>if !f then some ((.inl ()),0,false)else .bind (C7 F b) fun c=>.bind (if decide (a<0)then some true else some (decide (a>=(c.length:Int)))) fun k=>if k then some ((.inl ()),0,false)else if y0 c a then some ((.inr h),gt c a,true)else none
def j0I (F:Nat):Sm en.D:=⟨177,[.d (.list (.st 3)),G3],.tup [.alt .nilp (.box 246 [.d (.st 15)]),G3,.d .bool],[],fun a=>b0n F a.1 a.2⟩
def I0J (F:Nat):=V1 [f0m F,j0y F] 177 ⟨[(2,[(.nrm,⟨[(7,.alt .nilp (.box 246 [.d (.st 15)])),(8,.d .bool)],[]⟩)])],[],[(5,3,7,⟨[(21,.any),(26,.d .bool)],[]⟩)],[]⟩ F
def N8 (F:Nat)(a:List Int)(b:List Int):Option (List Int):=if decide ((a.length:Int)=(a.length:Int))&&(P3 a 0 (a.length:Int)&&(decide ((a.length:Int)<=(a.length:Int))&&decide ((a.length:Int)<=(a.length:Int))))then if K0 8 (G1 a 0 (a.length:Int)) b then some ((G1 a 0 (a.length:Int))++b)else none else none
def k0w (F:Nat):Sm en.D:=⟨195,[.d (.list B2),.d (.list B2)],.d (.list B2),[],fun a=>N8 F a.1 a.2⟩
def z08 (F:Nat):=V1 [] 195 G4 F
def P5 (F:Nat):Nat->L4->Int->(List Int)->(List B0)->Option (List B0)
 | 0,_,_,_,_=>none
 | e+1,a,b,g,d=>if y0 a.l b then .bind (N8 F g [W (2*b)]) fun c=>.bind (α:=(List B0)⊕(List B0)) (if((gt a.l b).Kind)==2 then if y0 a.index b then if K0 40 d [(⟨gt a.index b,0,c⟩:B0)]then some (.inl (d++[(⟨gt a.index b,0,c⟩:B0)]))else none else none else if((gt a.l b).Kind)==3 then .bind (P5 F e a ((gt a.l b).A) c d) fun f=>if y0 a.can ((gt a.l b).A)then if gt a.can ((gt a.l b).A)then .bind (a0e F a.l ((gt a.l b).A)) fun o=>.bind (N8 F c o) fun m=>.bind (P5 F e a ((gt a.l b).B) m f) fun h=>some (.inr h)else some (.inr f)else none else if((gt a.l b).Kind)==4 then .bind (P5 F e a ((gt a.l b).A) c d) fun i=>.bind (P5 F e a ((gt a.l b).B) c i) fun j=>some (.inr j)else .bind (if((gt a.l b).Kind)==5 then some (((gt a.l b).Kind)==5)else if((gt a.l b).Kind)==6 then some (((gt a.l b).Kind)==6)else if((gt a.l b).Kind)==7 then some (((gt a.l b).Kind)==7)else some (((gt a.l b).Kind)==8)) fun p=>if p then .bind (P5 F e a ((gt a.l b).A) c d) fun k=>some (.inr k)else some (.inr d)) fun r=>match r with
  | .inl q=>some q
  | .inr n=>some n else none
def h0i (F b:Nat):Sm en.D:=⟨213,[.d (.ptr (.st 15)),G3,.d (.list B2),.own 116 (.st 11)],.own 116 (.st 11),[],fun a=>P5 F b a.1 a.2.1 a.2.2.1 a.2.2.2⟩
def z0d (F a:Nat):=V1 [g0R F,k0w F,h0i F a] 213 ⟨[(16,[(.nrm,⟨[(82,.d .bool)],[]⟩)]),(17,[(.ret,⟨[(8,.own 116 (.st 11))],[(0,.any)]⟩),(.nrm,⟨[(3,.own 116 (.st 11))],[(0,.any)]⟩)])],[],[],[]⟩ F
def l0P (F:Nat)(c:List B0)(b:List B0)(e:Int)(d:Int):Option (Q0 Int (Int⊕Unit)):=match d with
 | a=>if decide (a<(b.length:Int))then if y0 b a then if((gt b a).To)==((gt c e).To)then some (.done (.inl a))else some (.next (W (a+1)))else none else some (.done (.inr ()))
def q0C (F:Nat)(e:L4)(d:Int)(b:List B0)(f:(List B0)×Int):Option (Q0 ((List B0)×Int) (List B0)):=match f with
 | (c,a)=>if decide (a<(b.length:Int))then .bind (α:=List B0) (if y0 b a then .bind (.bind (α:=Int⊕Unit) (iter (l0P F b c a) F 0) fun k=>match k with
     | .inl j=>some (!(decide (j>=0)))
     | .inr _=>some (!(decide ((-1)>=0)))) fun i=>if i then if y0 e.deep d then if K0 40 c [(⟨(gt b a).To,gt e.deep d,(gt b a).Steps⟩:B0)]then let g:=c++[(⟨(gt b a).To,gt e.deep d,(gt b a).Steps⟩:B0)];
       some g else none else none else some c else none) fun h=>some (.next (h,W (a+1)))else some (.done c)
def b0h (F:Nat)(a:L4)(d:Int)(e:Int)(c:List Int)(f:List B0):Option (List B0):=.bind (P5 F F a e c []) fun b=>.bind (α:=List B0) (iter (q0C F a d b) F (f,0)) fun g=>some g
def o0D (F:Nat):Sm en.D:=⟨194,[.d (.ptr (.st 15)),G3,G3,.d (.list B2),.own 116 (.st 11)],.own 116 (.st 11),[],fun a=>b0h F a.1 a.2.1 a.2.2.1 a.2.2.2.1 a.2.2.2.2⟩
def z0a (F:Nat):J3 en:=⟨[h0i F F],fun a=>if Nat.beq a 194 then⟨[(5,[(.nrm,⟨[(25,.d .bool)],[]⟩)]),(7,[(.nrm,⟨[(4,.own 116 (.st 11))],[(2,.any)]⟩)])],[(2,⟨[(4,.own 116 (.st 11)),(18,G3)],[(0,.any)]⟩,[(.ex 0,⟨[(4,.own 116 (.st 11)),(18,.any)],[(0,.any)]⟩)])],[],[]⟩else if Nat.beq a 214 then G4 else if Nat.beq a 215 then G4 else if Nat.beq a 222 then⟨[],[(2,⟨[(8,G3)],[]⟩,[(.ret,⟨[(4,G3),(8,.any)],[]⟩),(.ex 0,⟨[(8,.any)],[]⟩)])],[],[]⟩else G4,F,[]⟩
def l08 (F:Nat)(a:L4)(f:Int×(List Int)×(List B0)×Int):Option (Q0 (Int×(List Int)×(List B0)×Int) ((List B0)⊕((List Int)×(List B0)))):=match f with
 | (j,c,d,b)=>if decide (b>=0)then if y0 a.l b then .bind (α:=(List B0)⊕((List Int)×(List B0))) (.bind (if((gt a.l b).Kind)==3 then some (((gt a.l b).A)==j)else some false) fun o=>if o then .bind (b0h F a b ((gt a.l b).B) c d) fun e=>if y0 a.can ((gt a.l b).B)then if !(gt a.can ((gt a.l b).B))then some (.inl e)else .bind (a0e F a.l ((gt a.l b).B)) fun m=>.bind (N8 F c m) fun g=>some (.inr (g,e))else none else if((gt a.l b).Kind)==5 then .bind (b0h F a b ((gt a.l b).A) c d) fun n=>some (.inr (c,n))else some (.inr (c,d))) fun q=>match q with
   | .inl p=>some (.done (.inl p))
   | .inr (k,i)=>.bind (N8 F k [W ((W (2*b))+1)]) fun h=>if y0 a.up b then some (.next (b,h,i,gt a.up b))else none else none else some (.done (.inr (c,d)))
def a08 (F:Nat)(b:L4)(a:Int):Option ((List B0)×(List Int)):=if y0 b.up a then .bind (α:=(List B0)⊕((List Int)×(List B0))) (iter (l08 F b) F (a,[W ((W (2*a))+1)],[],gt b.up a)) fun f=>match f with
  | .inl e=>some (e,[])
  | .inr (d,c)=>some (c,d)else none
def l0D (F:Nat):Sm en.D:=⟨178,[.d (.ptr (.st 15)),G3],.tup [.own 116 (.st 11),.d (.list B2)],[],fun a=>a08 F a.1 a.2⟩
def z0R (F:Nat):=V1 [g0R F,o0D F,k0w F] 178 ⟨[(14,[(.ret,⟨[(4,.own 116 (.st 11)),(5,.nil),(7,.any)],[(1,.any)]⟩),(.nrm,⟨[(6,.d (.list B2)),(7,.own 116 (.st 11))],[(1,.any)]⟩)])],[(4,⟨[(1,G3),(6,.d (.list B2)),(7,.own 116 (.st 11)),(8,G3)],[(0,.any)]⟩,[(.ret,⟨[(1,.any),(4,.own 116 (.st 11)),(5,.nil),(6,.any),(7,.any),(8,.any)],[(0,.any)]⟩),(.ex 0,⟨[(1,.any),(6,.d (.list B2)),(7,.own 116 (.st 11)),(8,.any)],[(0,.any)]⟩)])],[(7,4,8,⟨[(42,.any),(47,.d .bool)],[]⟩)],[]⟩ F
def G9 (F:Nat)(a:List C0)(e:Int):Option (B0×Bool):=.bind (α:=List Int) (if e==(-1)then .bind (a0e F a (W ((a.length:Int)-1))) fun m=>some m else .bind (α:=(Unit⊕L4)×Int×Bool) (.bind (b0n F a e) fun(g,b,c)=>match g with
    | .inl _=>some ((.inl ()),b,c)
    | .inr h=>some ((.inr h),b,c)) fun(i,l,d)=>match i with
   | .inl _=>if d then none else some []
   | .inr j=>if d then .bind (a08 F j l) fun(n,k)=>some k else some []) fun f=>if(f.length:Int)==0 then some ((⟨0,0,[]⟩:B0),false)else some ((⟨(-1),0,f⟩:B0),true)
def j0x (F:Nat):Sm en.D:=⟨152,[.d (.list (.st 3)),G3],.tup [.d (.st 11),.d .bool],[],fun a=>G9 F a.1 a.2⟩
def D0t (F:Nat):=V1 [g0R F,j0I F,l0D F] 152 ⟨[(5,[(.nrm,⟨[(7,.alt .nilp (.box 246 [.d (.st 15)])),(8,G3),(9,.d .bool)],[]⟩)]),(7,[(.nrm,⟨[(6,.d (.list B2))],[]⟩)])],[],[],[]⟩ F
def e0n (F:Nat)(a:D2):Option Bool:=.bind (i0o F a (a.B.length:Int)) fun b=>some b
def f0v (F:Nat):Sm en.D:=⟨190,[.d (.st 5)],.d .bool,[],fun a=>e0n F a⟩
def D0z (F:Nat):=V1 [j0L F] 190 G4 F
def e0F (F:Nat)(b:D2)(a:Int):Option Bool:=.bind (if decide (a>=0)then some (decide (a<(b.B.length:Int)))else some false) fun c=>some c
def g0O (F:Nat):Sm en.D:=⟨191,[.d (.st 5),G3],.d .bool,[],fun a=>e0F F a.1 a.2⟩
def E0q (F:Nat):=V1 [] 191 ⟨[],[],[(1,3,8,⟨[(7,.any),(13,.d .bool)],[]⟩)],[]⟩ F
def k09 (F:Nat)(d:D2)(b:List Int)(f:Int×Int):Option (Q0 (Int×Int) Int):=match f with
 | (c,a)=>if decide (a<(b.length:Int))then .bind (α:=Int) (if y0 b a then .bind (e0F F d (gt b a)) fun g=>.bind (if g then .bind (if decide (c<0)then some true else if y0 d.D (gt b a)then if y0 (gt d.D (gt b a)) c then some (decide ((gt (gt d.D (gt b a)) c)>0))else none else none) fun h=>some h else some false) fun i=>if i then some (gt b a)else some c else none) fun e=>some (.next (e,W (a+1)))else some (.done c)
def j0N (F:Nat)(a:D2)(c:List Int):Option Int:=.bind (e0n F a) fun d=>if !d then some (-1)else .bind (α:=Int) (iter (k09 F a c) F ((-1),0)) fun b=>some b
def o09 (F:Nat):Sm en.D:=⟨175,[.d (.st 5),.d (.list B2)],G3,[],fun a=>j0N F a.1 a.2⟩
def G0Q (F:Nat):=V1 [f0v F,g0O F] 175 ⟨[(9,[(.nrm,⟨[(5,G3)],[]⟩)])],[(5,⟨[(5,G3),(14,G3)],[]⟩,[(.ex 0,⟨[(5,G3),(14,.any)],[]⟩)])],[(7,4,17,⟨[(21,.any),(35,.d .bool)],[]⟩),(7,7,16,⟨[(24,.any),(34,.d .bool)],[]⟩)],[]⟩ F
def g06 (F:Nat)(g:List C0)(c:F1)(e:(List Int)×Int):Option (Q0 ((List Int)×Int) (List Int)):=match e with
 | (b,a)=>if decide (a<(c.Places.length:Int))then .bind (α:=List Int) (if y0 c.Places a then .bind (G9 F g (gt c.Places a)) fun(h,f)=>if f then if K0 8 b [a]then some (b++[a])else none else some b else none) fun d=>some (.next (d,W (a+1)))else some (.done b)
def f0G (F:Nat)(d:List C0)(a:F1):Option Int:=.bind (α:=List Int) (iter (g06 F d a) F ([],0)) fun c=>.bind (j0N F a.Rank c) fun b=>some b
def k0Z (F:Nat):Sm en.D:=⟨151,[.d (.list (.st 3)),.d (.st 6)],G3,[],fun a=>f0G F a.1 a.2⟩
def y0A (F:Nat):=V1 [j0x F,o09 F] 151 ⟨[(8,[(.nrm,⟨[(5,.own 3 B2)],[(1,.any)]⟩)])],[(3,⟨[(5,.own 3 B2),(13,G3)],[]⟩,[(.ex 0,⟨[(5,.own 3 B2),(13,.any)],[]⟩)])],[],[]⟩ F
def j0u (F:Nat)(a:List Int):Option (List Int):=if K0 8 ([]:List Int) a then some a else none
def i0Z (F:Nat):Sm en.D:=⟨99,[.d (.list B2)],.own 3 B2,[],fun a=>j0u F a⟩
def s0H (F:Nat):J3 en:=⟨[],fun _=>⟨[],[],[],[4]⟩,F,[]⟩
def T4 (d c:Int)(b:List Int)(a:J2):List Int:=if a.Group<1\/((b.length:Int)-1) / 2<a.Group then b else if a.Kind=1 then b.set (2*a.Group-1).toNat d else if a.Kind=2 then b.set (2*a.Group).toNat d else if a.Kind=3 then(b.set (2*a.Group-1).toNat c).set (2*a.Group).toNat c else b
def d0G (F:Nat)(a:List Int)(marks:List J2)(c b:Int):Option (List Int):=if K0 8 ([]:List Int) a&&decide (marks.length<=1000000000)then some (marks.foldl (T4 c b) a)else none
def k0G (F:Nat):Sm en.D:=⟨153,[.d (.list B2),.d (.list (.st 12)),G3,G3],.own 3 B2,[],fun a=>d0G F a.1 a.2.1 a.2.2.1 a.2.2.2⟩
def v0A (F:Nat)(b:List Int)(d:(List J2)×Int):Option (Q0 ((List J2)×Int) (List J2)):=match d with
 | (c,a)=>if decide (a<(b.length:Int))then if y0 b a then if K0 16 c [(⟨3,gt b a⟩:J2)]then some (.next (c++[(⟨3,gt b a⟩:J2)],W (a+1)))else none else none else some (.done c)
def k0g (F:Nat)(b:List C0)(a:Int):Option (List J2):=.bind (if decide (a<0)then some true else some (decide ((W (a.tdiv 2))>=(b.length:Int)))) fun e=>if e then some []else if y0 b (W (a.tdiv 2))then .bind (if((gt b (W (a.tdiv 2))).Kind)==7 then some ((a.tmod 2)==0)else some false) fun f=>if f then some [(⟨1,(gt b (W (a.tdiv 2))).N⟩:J2)]else if((gt b (W (a.tdiv 2))).Kind)==7 then some [(⟨2,(gt b (W (a.tdiv 2))).N⟩:J2)]else .bind (if((gt b (W (a.tdiv 2))).Kind)==8 then some ((a.tmod 2)==0)else some false) fun g=>if g then .bind (i0x F b (W (a.tdiv 2))) fun c=>.bind (α:=List J2) (iter (v0A F c) F ([],0)) fun d=>some d else some []else none
def p0C (F:Nat):Sm en.D:=⟨180,[.d (.list (.st 3)),G3],.own 184 (.st 12),[],fun a=>k0g F a.1 a.2⟩
def D0W (F:Nat):J3 en:=⟨[k0p F],fun a=>if Nat.beq a 180 then⟨[],[(11,⟨[(6,.own 184 (.st 12)),(64,G3)],[]⟩,[(.ex 1,⟨[(6,.own 184 (.st 12)),(64,.any)],[]⟩)])],[(1,3,8,⟨[(11,.any),(17,.d .bool)],[]⟩),(4,4,7,⟨[(27,.any),(31,.d .bool)],[]⟩),(8,4,7,⟨[(54,.any),(58,.d .bool)],[]⟩)],[]⟩else if Nat.beq a 196 then G4 else G4,F,[]⟩
def k0E (F:Nat)(f:List C0)(c:List Int)(e:(List J2)×Int):Option (Q0 ((List J2)×Int) (List J2)):=match e with
 | (b,a)=>if decide (a<(c.length:Int))then if y0 c a then .bind (k0g F f (gt c a)) fun d=>if K0 16 b d then some (.next (b++d,W (a+1)))else none else none else some (.done b)
def g0w (F:Nat)(a:List C0)(d:List Int):Option (List J2):=.bind (l6 F a) fun c=>if !c then some []else .bind (α:=List J2) (iter (k0E F a d) F ([],0)) fun b=>some b
def j08 (F:Nat):Sm en.D:=⟨154,[.d (.list (.st 3)),.d (.list B2)],.own 184 (.st 12),[],fun a=>g0w F a.1 a.2⟩
def F0u (F:Nat):=V1 [b0t F,p0C F] 154 ⟨[],[(5,⟨[(5,.own 184 (.st 12)),(13,G3)],[]⟩,[(.ex 0,⟨[(5,.own 184 (.st 12)),(13,.any)],[]⟩)])],[],[]⟩ F
def i0d (F:Nat)(a:Int)(b:Int):Option (Int×Int):=let c:=IntKind.u64.wrap ((Q2 .u64 a 4294967295)*(Q2 .u64 b 4294967295));
 let d:=IntKind.u64.wrap ((shr .u64 a 32)*(Q2 .u64 b 4294967295));
 let e:=Q2 .u64 (IntKind.u64.wrap (d+(shr .u64 c 32))) 4294967295;
 let f:=shr .u64 (IntKind.u64.wrap (d+(shr .u64 c 32))) 32;
 let g:=IntKind.u64.wrap ((Q2 .u64 a 4294967295)*(shr .u64 b 32));
 let h:=IntKind.u64.wrap ((shr .u64 a 32)*(shr .u64 b 32));
 let i:=IntKind.u64.wrap ((IntKind.u64.wrap (h+f))+(shr .u64 (IntKind.u64.wrap (e+g)) 32));
 some (i,IntKind.u64.wrap (a*b))
def g0y (F:Nat)(c:Int)(d:Int):Option (Int×Int):=.bind (i0d F c d) fun(a,b)=>some (a,b)
def m0v (F:Nat)(b:List Int)(a:Int):Option (List Int):=i0q b a
def s0c (F:Nat):Sm en.D:=⟨197,[.d (.list B2),G3],.own 3 B2,[],fun a=>m0v F a.1 a.2⟩
def j0a (F:Nat)(a:Int)(b:Int):Option (List Int):=if decide (a<1)then some []else .bind (m0v F [b] a) fun c=>some c
def o0w (F:Nat):Sm en.D:=⟨181,[G3,G3],.own 3 B2,[],fun a=>j0a F a.1 a.2⟩
def C0R (F:Nat):=V1 [s0c F] 181 G4 F
def g0P (F:Nat)(b:List C0):Option (List Int):=.bind (d0Y F b) fun c=>.bind (j0a F c (-2)) fun a=>if y0 a 0 then some (a.set (0:Int).toNat (-1))else none
def k0X (F:Nat):Sm en.D:=⟨155,[.d (.list (.st 3))],.own 3 B2,[],fun a=>g0P F a⟩
def y0J (F:Nat):=V1 [h0C F,o0w F] 155 G4 F
def c0s (F:Nat)(b:List C0)(a:F1):Option (List Int):=.bind (c0P F b a) fun l=>if !l then some []else .bind (f0G F b a) fun c=>if decide (c>=0)then if y0 a.Places c then .bind (G9 F b (gt a.Places c)) fun(g,o)=>if y0 a.Maps c then .bind (g0w F b g.Steps) fun j=>.bind (d0G F (gt a.Maps c) j (-1) (-2)) fun d=>some d else none else none else .bind (G9 F b (-1)) fun(h,i)=>.bind (if i then some (a.Flag==2)else some false) fun m=>.bind (if m then some ((a.Places.length:Int)==0)else some false) fun n=>if n then .bind (g0P F b) fun f=>.bind (g0w F b h.Steps) fun k=>.bind (d0G F f k (-1) (-2)) fun e=>some e else some []
def o0j (F:Nat):Sm en.D:=⟨119,[.d (.list (.st 3)),.d (.st 6)],.own 3 B2,[],fun a=>c0s F a.1 a.2⟩
def H0e (F:Nat):=V1 [i05 F,k0Z F,j0x F,k0G F,j08 F,k0X F] 119 ⟨[],[],[(8,2,5,⟨[(45,.any),(49,.d .bool)],[]⟩),(8,7,11,⟨[(50,.any),(55,.d .bool)],[]⟩)],[]⟩ F
def n0N (F:Nat)(b:List B0):Option (List B0):=if b0v (fun a:B0=>a.To) b then some (F7 (fun a:B0=>a.To) b)else none
def s0A (F:Nat):Sm en.D:=⟨217,[.own 116 (.st 11),.fn 218 []],.tup [],[(0,.own 116 (.st 11))],fun a=>n0N F a⟩
def m0I (F:Nat)(d:List B0)(c:Int×(List B0)):Option (Q0 (Int×(List B0)) (List B0)):=match c with
 | (a,b)=>if decide (a<(d.length:Int))then if y0 b a then if R2 8 (((gt b a).Steps).length:Int)then if y0 b a then let e:=j4 (List.replicate (((gt b a).Steps).length:Int).toNat 0:List Int) ((gt b a).Steps);
     if y0 b a then some (.next (W (a+1),b.set a.toNat ({ gt b a with Steps:=e })))else none else none else none else none else some (.done b)
def a01 (F:Nat)(a:List B0):Option (List B0):=.bind (α:=List B0) (iter (m0I F a) F (0,a)) fun b=>some b
def i0W (F:Nat):Sm en.D:=⟨219,[.own 116 (.st 11)],.own 116 (.st 11),[],fun a=>a01 F a⟩
def C0C (F:Nat):=V1 [] 219 ⟨[],[(2,⟨[(7,G3)],[(0,.own 116 (.st 11))]⟩,[(.ex 0,⟨[(7,.any)],[(0,.own 116 (.st 11))]⟩)])],[],[]⟩ F
def b0M (F:Nat)(j:List C0)(l:Int):Option (List B0):=.bind (α:=(Unit⊕L4)×Int×Bool) (.bind (b0n F j l) fun(d,a,b)=>match d with
  | .inl _=>some ((.inl ()),a,b)
  | .inr e=>some ((.inr e),a,b)) fun(g,m,c)=>match g with
 | .inl _=>if !c then some []else none
 | .inr h=>if !c then some []else .bind (a08 F h m) fun(i,n)=>.bind (n0N F i) fun f=>.bind (a01 F f) fun k=>some k
def p0p (F:Nat):Sm en.D:=⟨198,[.d (.list (.st 3)),G3],.own 116 (.st 11),[],fun a=>b0M F a.1 a.2⟩
def F08 (F:Nat):=V1 [j0I F,l0D F,s0A F,i0W F] 198 ⟨[(2,[(.nrm,⟨[(5,.alt .nilp (.box 246 [.d (.st 15)])),(6,G3),(7,.d .bool)],[]⟩)])],[],[],[]⟩ F
def c0h (F:Nat)(b:List C0)(a:Int):Option (List B0):=.bind (α:=(Unit⊕L4)×Bool) (.bind (b0b F b) fun(h,c)=>match h with
  | .inl _=>some ((.inl ()),c)
  | .inr i=>some ((.inr i),c)) fun(f,d)=>match f with
 | .inl _=>.bind (if !d then some true else some (decide (a<0))) fun m=>.bind (if m then some true else some (decide (a>=(b.length:Int)))) fun n=>if n then some []else none
 | .inr g=>.bind (if !d then some true else some (decide (a<0))) fun k=>.bind (if k then some true else some (decide (a>=(b.length:Int)))) fun l=>if l then some []else .bind (P5 F F g a [] []) fun e=>.bind (a01 F e) fun j=>some j
def l05 (F:Nat):Sm en.D:=⟨199,[.d (.list (.st 3)),G3],.own 116 (.st 11),[],fun a=>c0h F a.1 a.2⟩
def x0O (F:Nat):=V1 [j0y F,h0i F F,i0W F] 199 ⟨[(2,[(.nrm,⟨[(5,.alt .nilp (.box 246 [.d (.st 15)])),(6,.d .bool)],[]⟩)])],[],[(2,3,5,⟨[(14,.any),(17,.d .bool)],[]⟩),(2,7,11,⟨[(18,.any),(23,.d .bool)],[]⟩)],[]⟩ F
def l0F (F:Nat)(c:Int)(f:Int)(d:Int×(List (List Int))):Option (Q0 (Int×(List (List Int))) (List (List Int))):=match d with
 | (a,b)=>if decide (a<f)then if R2 8 c then if y0 b a then let e:=b.set a.toNat (List.replicate c.toNat 0:List Int);
    some (.next (W (a+1),e))else none else none else some (.done b)
def e0y (F:Nat)(a:Int):Option (List (List Int)):=if R2 24 a then let b:=((List.replicate a.toNat []:List (List Int)).length:Int);
  .bind (α:=List (List Int)) (iter (l0F F a b) F (0,(List.replicate a.toNat []:List (List Int)))) fun c=>some c else none
def i00 (F:Nat):Sm en.D:=⟨203,[G3],.X0 22 [3] (.list B2),[],fun a=>e0y F a⟩
def A02 (F:Nat):=V1 [] 203 ⟨[],[(3,⟨[(9,G3)],[(0,.X0 22 [3] (.list B2))]⟩,[(.ex 0,⟨[(9,.any)],[(0,.X0 22 [3] (.list B2))]⟩)])],[],[6]⟩ F
def i0O (F:Nat)(b:D2)(g:Int×(List (List Int))×(List (List Int))):Option (Q0 (Int×(List (List Int))×(List (List Int))) ((List (List Int))×(List (List Int)))):=match g with
 | (a,d,e)=>if decide (a<(b.B.length:Int))then if y0 d a then if y0 b.B a then if y0 e a then if y0 b.D a then let c:=e.set a.toNat (j4 (gt e a) (gt b.D a));
      if y0 c a then if y0 c (b.B.length:Int)then if y0 (gt c a) (b.B.length:Int)then let f:=c.set a.toNat ((gt c a).set (b.B.length:Int).toNat 1);
         if y0 (gt f (b.B.length:Int)) a then let h:=f.set (b.B.length:Int).toNat ((gt f (b.B.length:Int)).set a.toNat (-1));
          some (.next (W (a+1),d.set a.toNat (j4 (gt d a) (gt b.B a)),h))else none else none else none else none else none else none else none else none else some (.done (d,e))
def k0L (F:Nat)(a:D2):Option D2:=.bind (e0n F a) fun b=>if !b then some (⟨[],[]⟩:D2)else .bind (e0y F (W ((a.B.length:Int)+1))) fun c=>.bind (e0y F (W ((a.B.length:Int)+1))) fun d=>.bind (α:=(List (List Int))×(List (List Int))) (iter (i0O F a) F (0,c,d)) fun(e,f)=>some (⟨e,f⟩:D2)
def l0Z (F:Nat):Sm en.D:=⟨200,[.d (.st 5)],.d (.st 5),[],fun a=>k0L F a⟩
def D0b (F:Nat):=V1 [f0v F,i00 F] 200 ⟨[],[(6,⟨[(21,G3)],[(2,.X0 22 [3] (.list B2)),(3,.X0 22 [3] (.list B2))]⟩,[(.ex 0,⟨[(21,.any)],[(2,.X0 22 [3] (.list B2)),(3,.X0 22 [3] (.list B2))]⟩)])],[],[]⟩ F
def i0M (F:Nat)(f:List C0)(b:F1)(e:(List G5)×Int):Option (Q0 ((List G5)×Int) (List G5)):=match e with
 | (c,a)=>if decide (a<(b.Places.length:Int))then if y0 b.Places a then if y0 b.Maps a then .bind (b0M F f (gt b.Places a)) fun d=>if K0 48 c [(⟨gt b.Maps a,d⟩:G5)]then some (.next (c++[(⟨gt b.Maps a,d⟩:G5)],W (a+1)))else none else none else none else some (.done c)
def i0L (F:Nat)(b:List C0)(a:F1):Option ((List G5)×D2):=.bind (α:=List G5) (iter (i0M F b a) F ([],0)) fun c=>if a.Flag==0 then some (c,a.Rank)else .bind (g0P F b) fun d=>.bind (c0h F b (W ((b.length:Int)-1))) fun e=>if K0 48 c [(⟨d,e⟩:G5)]then .bind (k0L F a.Rank) fun f=>some (c++[(⟨d,e⟩:G5)],f)else none
def q0B (F:Nat):Sm en.D:=⟨182,[.d (.list (.st 3)),.d (.st 6)],.tup [.own 239 (.st 16),.d (.st 5)],[],fun a=>i0L F a.1 a.2⟩
def G0j (F:Nat):=V1 [k0X F,p0p F,l05 F,l0Z F] 182 ⟨[],[(3,⟨[(6,.own 239 (.st 16)),(12,G3)],[]⟩,[(.ex 0,⟨[(6,.own 239 (.st 16)),(12,.any)],[]⟩)])],[],[]⟩ F
def h0g (F:Nat)(c:List G5)(i:Int)(a:Int)(f:(List Int)×(List B0)×Int):Option (Q0 ((List Int)×(List B0)×Int) ((List Int)×(List B0))):=match f with
 | (d,e,b)=>let j:=decide (b<(((gt c a).ways).length:Int));
 if j then .bind (α:=(List Int)×(List B0)) (if y0 (gt c a).ways b then if((gt (gt c a).ways b).To)==i then if K0 8 d [a]then if K0 40 e [gt (gt c a).ways b]then some (d++[a],e++[gt (gt c a).ways b])else none else none else some (d,e)else none) fun(g,h)=>some (.next (g,h,W (b+1)))else some (.done (d,e))
def i0t (F:Nat)(b:List G5)(h:Int)(e:(List Int)×(List B0)×Int):Option (Q0 ((List Int)×(List B0)×Int) ((List Int)×(List B0))):=match e with
 | (c,d,a)=>if decide (a<(b.length:Int))then if y0 b a then .bind (α:=(List Int)×(List B0)) (iter (h0g F b h a) F (c,d,0)) fun(f,g)=>some (.next (f,g,W (a+1)))else none else some (.done (c,d))
def j0n (F:Nat)(a:List G5)(d:Int):Option ((List Int)×(List B0)):=.bind (α:=(List Int)×(List B0)) (iter (i0t F a d) F ([],[],0)) fun(b,c)=>some (b,c)
def o0v (F:Nat):Sm en.D:=⟨183,[.d (.list (.st 16)),G3],.tup [.own 3 B2,.own 116 (.st 11)],[],fun a=>j0n F a.1 a.2⟩
def w05 (F:Nat):=V1 [] 183 ⟨[(12,[(.nrm,⟨[(6,.own 3 B2),(7,.own 116 (.st 11))],[(3,.any),(4,.any)]⟩)])],[(4,⟨[(6,.own 3 B2),(7,.own 116 (.st 11)),(14,G3)],[]⟩,[(.ex 0,⟨[(6,.own 3 B2),(7,.own 116 (.st 11)),(14,.any)],[]⟩)]),(7,⟨[(6,.own 3 B2),(7,.own 116 (.st 11)),(22,G3)],[(0,.any),(1,.any),(2,.any)]⟩,[(.ex 2,⟨[(6,.own 3 B2),(7,.own 116 (.st 11)),(22,.any)],[(0,.any),(1,.any),(2,.any)]⟩)])],[],[]⟩ F
def f0n (F:Nat)(a:b0o)(b:Int)(c:Int):Option Int:=if y0 a.from_ b then if y0 a.Rank.B (gt a.from_ b)then if y0 a.from_ c then if y0 (gt a.Rank.B (gt a.from_ b)) (gt a.from_ c)then let d:=gt (gt a.Rank.B (gt a.from_ b)) (gt a.from_ c);
     if y0 a.hops b then let e:=if(W (((gt a.hops b).Turn)+1))<d then W (((gt a.hops b).Turn)+1)else d;
      some e else none else none else none else none else none
def j0M (F:Nat):Sm en.D:=⟨205,[.d (.st 20),G3,G3],G3,[],fun a=>f0n F a.1 a.2.1 a.2.2⟩
def I0W (F:Nat):=V1 [] 205 G4 F
def g0U (F:Nat)(a:b0o)(b:Int)(c:Int):Option Int:=.bind (f0n F a b c) fun d=>.bind (f0n F a c b) fun e=>if decide (d>e)then some 1 else if decide (d<e)then some (-1)else if y0 a.from_ b then if y0 a.Rank.D (gt a.from_ b)then if y0 a.from_ c then if y0 (gt a.Rank.D (gt a.from_ b)) (gt a.from_ c)then let f:=gt (gt a.Rank.D (gt a.from_ b)) (gt a.from_ c);
       some f else none else none else none else none
def j0C (F:Nat):Sm en.D:=⟨201,[.d (.st 20),G3,G3],G3,[],fun a=>g0U F a.1 a.2.1 a.2.2⟩
def G05 (F:Nat):=V1 [j0M F] 201 G4 F
def l0L (F:Nat)(d:D2)(c:List Int)(i:List B0)(j:Int)(g:Int×Int):Option (Q0 (Int×Int) Int):=match g with
 | (b,a)=>if decide (a<j)then .bind (α:=Int) (if y0 c a then .bind (e0F F d (gt c a)) fun h=>.bind (if h then .bind (if decide (b<0)then some true else .bind (g0U F (⟨d,c,i⟩:b0o) a b) fun e=>some (decide (e>0))) fun k=>some k else some false) fun l=>if l then some a else some b else none) fun f=>some (.next (f,W (a+1)))else some (.done b)
def h0B (F:Nat)(c:D2)(a:List Int)(b:List B0):Option Int:=.bind (e0n F c) fun e=>if !e then some (-1)else let f:=if(b.length:Int)<(a.length:Int)then(b.length:Int)else(a.length:Int);
  .bind (α:=Int) (iter (l0L F c a b f) F ((-1),0)) fun d=>some d
def p03 (F:Nat):Sm en.D:=⟨184,[.d (.st 5),.d (.list B2),.d (.list (.st 11))],G3,[],fun a=>h0B F a.1 a.2.1 a.2.2⟩
def z0W (F:Nat):=V1 [f0v F,g0O F,j0C F] 184 ⟨[(10,[(.nrm,⟨[(7,G3)],[]⟩)])],[(6,⟨[(7,G3),(23,G3)],[]⟩,[(.ex 0,⟨[(7,G3),(23,.any)],[]⟩)])],[(8,7,16,⟨[(32,.any),(42,.d .bool)],[]⟩),(8,10,15,⟨[(35,.any),(41,.d .bool)],[]⟩)],[]⟩ F
def a0E (d b:List Int)(c:Int)(a:Int):Option (Q0 Int Int):=if decide (0<=a)then if y0 b a&&(decide (gt b a<=c)&&decide (c<=a))then some (.done a)else if y0 b a&&y0 d a then some (.next (gt d a))else none else some (.done (-1))
def g0D (F:Nat)(d:List C0)(a b:Int):Option Int:=.bind (a0l F d) fun c=>if decide (a<0)||(decide (b<0)||(decide (a>=(c.length:Int))||decide (b>=(c.length:Int))))then some (-1)else .bind (I9 F d) fun e=>iter (a0E c e b) F a
def n00 (F:Nat):Sm en.D:=⟨221,[.d (.list (.st 3)),G3,G3],G3,[],fun a=>g0D F a.1 a.2.1 a.2.2⟩
def e00 (F:Nat):Nat->(List C0)->B0->B0->Option (Int×Int×Int)
 | 0,_,_,_=>none
 | i+1,d,a,b=>.bind (C7 F d) fun e=>.bind (if decide (a.To>=0)then some (decide (a.To<(e.length:Int)))else some false) fun j=>.bind (if !j then some true else .bind (if decide (b.To>=0)then some (decide (b.To<(e.length:Int)))else some false) fun k=>some (!k)) fun l=>.bind (if l then some true else some (a.To==b.To)) fun m=>if m then some (0,0,0)else if decide (a.Turn>b.Turn)then some (W (a.Turn+1),W (b.Turn+1),1)else if decide (a.Turn<b.Turn)then some (W (a.Turn+1),W (b.Turn+1),(-1))else if decide (a.To>b.To)then .bind (e00 F i d b a) fun(g,h,n)=>some (h,g,(-1))else if y0 e a.To then if y0 e b.To then .bind (g0D F d (gt e a.To) (gt e b.To)) fun c=>.bind (a0P F d) fun f=>if y0 f c then if y0 d c then if((gt d c).Kind)==3 then some (W ((W ((gt f c)+1))+1),W ((gt f c)+1),1)else some (W ((gt f c)+1),W ((gt f c)+1),1)else none else none else none else none
def l0C (F b:Nat):Sm en.D:=⟨204,[.d (.list (.st 3)),.d (.st 11),.d (.st 11)],.tup [G3,G3,G3],[],fun a=>e00 F b a.1 a.2.1 a.2.2⟩
def H0i (F b:Nat):J3 en:=⟨[f0m F,l0C F b,j04 F,n00 F],fun a=>if Nat.beq a 204 then⟨[],[],[(3,5,9,⟨[(24,.any),(29,.d .bool)],[]⟩),(3,11,16,⟨[(30,.any),(36,.d .bool)],[]⟩)],[]⟩else if Nat.beq a 220 then⟨[],[],[(1,4,9,⟨[(7,.any),(13,.d .bool)],[]⟩)],[]⟩else G4,F,[]⟩
def g0V (F:Nat)(e:D2)(b:List Int)(c:Int):Option (Q0 Int (Int⊕Unit)):=match c with
 | a=>if decide (a<(b.length:Int))then if y0 b a then .bind (e0F F e (gt b a)) fun d=>if !d then some (.done (.inl a))else some (.next (W (a+1)))else none else some (.done (.inr ()))
def h0P (F:Nat)(p:List C0)(j:D2)(e:List Int)(f:List B0)(a:Int)(l:Int×(List (List Int))×(List (List Int))):Option (Q0 (Int×(List (List Int))×(List (List Int))) ((List (List Int))×(List (List Int)))):=match l with
 | (b,c,d)=>if decide (b<a)then .bind (α:=(List (List Int))×(List (List Int))) (if y0 e a then if y0 e b then if(gt e a)==(gt e b)then if y0 c a then if y0 c b then if y0 d a then if y0 f a then if y0 f b then .bind (e00 F F p (gt f a) (gt f b)) fun(m,n,o)=>if y0 (gt c a) b then let i:=c.set a.toNat ((gt c a).set b.toNat m);
            if y0 (gt i b) a then if y0 (gt d a) b then let r:=d.set a.toNat ((gt d a).set b.toNat o);
              some (i.set b.toNat ((gt i b).set a.toNat n),r)else none else none else none else none else none else none else none else none else if y0 c a then if y0 c b then if y0 d a then .bind (f0n F (⟨j,e,f⟩:b0o) a b) fun h=>.bind (f0n F (⟨j,e,f⟩:b0o) b a) fun q=>.bind (g0U F (⟨j,e,f⟩:b0o) a b) fun k=>if y0 (gt c a) b then if y0 (gt (c.set a.toNat ((gt c a).set b.toNat h)) b) a then let s:=(c.set a.toNat ((gt c a).set b.toNat h)).set b.toNat ((gt (c.set a.toNat ((gt c a).set b.toNat h)) b).set a.toNat q);
           if y0 (gt d a) b then let t:=d.set a.toNat ((gt d a).set b.toNat k);
            some (s,t)else none else none else none else none else none else none else none else none) fun(v,g)=>if y0 g b then if y0 g a then if y0 (gt g a) b then if y0 (gt g b) a then let u:=g.set b.toNat ((gt g b).set a.toNat (W (0-(gt (gt g a) b))));
      some (.next (W (b+1),v,u))else none else none else none else none else some (.done (c,d))
def g0X (F:Nat)(g:List C0)(h:D2)(b:List Int)(f:List B0)(e:Int×(List (List Int))×(List (List Int))):Option (Q0 (Int×(List (List Int))×(List (List Int))) ((List (List Int))×(List (List Int)))):=match e with
 | (a,c,d)=>if decide (a<(b.length:Int))then .bind (α:=(List (List Int))×(List (List Int))) (iter (h0P F g h b f a) F (0,c,d)) fun(i,j)=>some (.next (W (a+1),i,j))else some (.done (c,d))
def j03 (F:Nat)(d:List C0)(b:D2)(a:List Int)(c:List B0):Option D2:=.bind (e0n F b) fun e=>.bind (if !e then some true else some ((a.length:Int) != (c.length:Int))) fun h=>.bind (if h then some true else .bind (α:=Int⊕Unit) (iter (g0V F b a) F 0) fun m=>match m with
   | .inl j=>some (decide (j>=0))
   | .inr _=>some (decide ((-1)>=0))) fun i=>if i then some (⟨[],[]⟩:D2)else .bind (e0y F (a.length:Int)) fun f=>.bind (e0y F (a.length:Int)) fun g=>.bind (α:=(List (List Int))×(List (List Int))) (iter (g0X F d b a c) F (0,f,g)) fun(l,k)=>some (⟨l,k⟩:D2)
def p0i (F:Nat):Sm en.D:=⟨185,[.d (.list (.st 3)),.d (.st 5),.d (.list B2),.d (.list (.st 11))],.d (.st 5),[],fun a=>j03 F a.1 a.2.1 a.2.2.1 a.2.2.2⟩
def B08 (F:Nat):J3 en:=⟨[f0v F,g0O F,j0C F,i00 F,l0C F F,j0M F],fun a=>if Nat.beq a 185 then⟨[(14,[(.nrm,⟨[],[(3,.X0 22 [3] (.list B2)),(4,.X0 22 [3] (.list B2))]⟩)])],[(6,⟨[(42,G3)],[(3,.X0 22 [3] (.list B2)),(4,.X0 22 [3] (.list B2))]⟩,[(.ex 0,⟨[(42,.any)],[(3,.X0 22 [3] (.list B2)),(4,.X0 22 [3] (.list B2))]⟩)]),(9,⟨[(46,G3)],[(3,.X0 22 [3] (.list B2)),(4,.X0 22 [3] (.list B2))]⟩,[(.ex 2,⟨[(46,.any)],[(3,.X0 22 [3] (.list B2)),(4,.X0 22 [3] (.list B2))]⟩)])],[(1,4,9,⟨[(16,.any),(22,.d .bool)],[]⟩),(1,11,14,⟨[(23,.any),(27,.d .bool)],[]⟩)],[]⟩else if Nat.beq a 105 then G4 else if Nat.beq a 143 then⟨[],[(2,⟨[(8,G3)],[]⟩,[(.ret,⟨[(4,G3),(8,.any)],[]⟩),(.ex 0,⟨[(8,.any)],[]⟩)])],[],[]⟩else if Nat.beq a 202 then G4 else G4,F,[]⟩
def k0C (F:Nat)(c:List Int)(b:List Int)(e:(List Int)×Int):Option (Q0 ((List Int)×Int) (List Int)):=match e with
 | (d,a)=>if decide (a<(b.length:Int))then if y0 b a then if y0 c (gt b a)then if K0 8 d [gt c (gt b a)]then some (.next (d++[gt c (gt b a)],W (a+1)))else none else none else none else some (.done d)
def f00 (F:Nat)(a:List Int)(b:List Int):Option (List Int):=.bind (α:=List Int) (iter (k0C F a b) F ([],0)) fun c=>some c
def j0q (F:Nat):Sm en.D:=⟨206,[.d (.list B2),.d (.list B2)],.own 3 B2,[],fun a=>f00 F a.1 a.2⟩
def y0g (F:Nat):=V1 [] 206 ⟨[],[(3,⟨[(5,.own 3 B2),(10,G3)],[]⟩,[(.ex 0,⟨[(5,.own 3 B2),(10,.any)],[]⟩)])],[],[]⟩ F
def f06 (F:Nat)(c:List (List Int))(b:List Int):Option (List (List Int)):=if d0y (fun a=>a) b&&(b.all (fun a=>y0 c a)&&K0 24 ([]:List (List Int)) (b.map fun a=>gt c a))then some (b.map fun a=>gt c a)else none
def n0s (F:Nat):Sm en.D:=⟨207,[.X0 22 [3] (.list B2),.d (.list B2)],.X0 22 [3] (.list B2),[],fun a=>f06 F a.1 a.2⟩
def k0t (F:Nat)(c:List (List Int))(b:List Int)(e:(List (List Int))×Int):Option (Q0 ((List (List Int))×Int) (List (List Int))):=match e with
 | (d,a)=>if decide (a<(b.length:Int))then if y0 b a then if y0 c (gt b a)then if K0 24 d [gt c (gt b a)]then some (.next (d++[gt c (gt b a)],W (a+1)))else none else none else none else some (.done d)
def l0o (F:Nat)(a:List (List Int))(b:List Int):Option (List (List Int)):=.bind (α:=List (List Int)) (iter (k0t F a b) F ([],0)) fun c=>some c
def m0s (F:Nat):Sm en.D:=⟨207,[.d (.list (.list B2)),.d (.list B2)],.own 22 (.list B2),[],fun a=>l0o F a.1 a.2⟩
def x0S (F:Nat):=V1 [] 207 ⟨[],[(3,⟨[(5,.own 22 (.list B2)),(10,G3)],[]⟩,[(.ex 0,⟨[(5,.own 22 (.list B2)),(10,.any)],[]⟩)])],[],[]⟩ F
def l0z (F:Nat)(f:List Int)(c:List (List Int))(e:(List (List Int))×Int):Option (Q0 ((List (List Int))×Int) (List (List Int))):=match e with
 | (b,a)=>if decide (a<(c.length:Int))then if y0 c a then .bind (f00 F (gt c a) f) fun d=>if K0 24 b [d]then some (.next (b++[d],W (a+1)))else none else none else some (.done b)
def i0r (F:Nat)(b:List (List Int))(a:List Int):Option (List (List Int)):=.bind (l0o F b a) fun d=>.bind (α:=List (List Int)) (iter (l0z F a d) F ([],0)) fun c=>some c
def o0F (F:Nat):Sm en.D:=⟨208,[.d (.list (.list B2)),.d (.list B2)],.own 22 (.list B2),[],fun a=>i0r F a.1 a.2⟩
def G0Y (F:Nat):=V1 [j0q F,m0s F] 208 ⟨[],[(3,⟨[(5,.own 22 (.list B2)),(12,G3)],[]⟩,[(.ex 0,⟨[(5,.own 22 (.list B2)),(12,.any)],[]⟩)])],[],[]⟩ F
def h0H (F:Nat)(f:List Int)(c:D2)(b:Int)(e:(List Int)×Int):Option (Q0 ((List Int)×Int) (List Int)):=match e with
 | (d,a)=>if decide (a<(f.length:Int))then .bind (α:=List Int) (.bind (if a==b then some true else if y0 c.B a then if y0 (gt c.B a) b then some (decide ((gt (gt c.B a) b)>0))else none else none) fun h=>.bind (if h then some true else if y0 c.D b then if y0 (gt c.D b) a then some (decide ((gt (gt c.D b) a)<0))else none else none) fun i=>if i then if K0 8 d [a]then some (d++[a])else none else some d) fun g=>some (.next (g,W (a+1)))else some (.done d)
def j0p (F:Nat):(List C0)->(Int×(List Int)×(List (List Int))×D2)->Option (Int×(List Int)×(List (List Int))×D2)
 | g,(f,b,d,a)=>.bind (f0G F g (⟨f,b,d,a⟩:F1)) fun e=>if decide (e<0)then some (f,b,d,a)else .bind (α:=List Int) (iter (h0H F b a e) F ([],0)) fun c=>.bind (f00 F b c) fun i=>.bind (f06 F d c) fun h=>.bind (i0r F a.B c) fun j=>.bind (i0r F a.D c) fun k=>some (0,i,h,(⟨j,k⟩:D2))
def n0k (F:Nat):Sm en.D:=⟨186,[.d (.list (.st 3)),.agg [G3,.d (.list B2),.X0 22 [3] (.list B2),.d (.st 5)]],.agg [G3,.d (.list B2),.X0 22 [3] (.list B2),.d (.st 5)],[],fun a=>j0p F a.1 a.2⟩
def G0u (F:Nat):=V1 [k0Z F,j0q F,n0s F,o0F F] 186 ⟨[(10,[(.nrm,⟨[(6,.own 3 B2)],[(3,.any)]⟩)])],[(6,⟨[(6,.own 3 B2),(17,G3)],[]⟩,[(.ex 0,⟨[(6,.own 3 B2),(17,.any)],[]⟩)])],[(8,4,14,⟨[(23,.any),(34,.d .bool)],[]⟩),(8,16,26,⟨[(35,.any),(46,.d .bool)],[]⟩)],[]⟩ F
def h05 (F:Nat)(b:Int)(j:List (List Int))(f:(List Int)×Int×(List (List Int))×(List (Int×Int))):Option (Q0 ((List Int)×Int×(List (List Int))×(List (Int×Int))) ((List Int)×(List (List Int))×(List (Int×Int)))):=match f with
 | (d,c,a,e)=>if decide (c<((gt j b).length:Int))then .bind (α:=(List Int)×(List (List Int))×(List (Int×Int))) (if y0 (gt a b) c then if(gt (gt a b) c)==(-2)then some (d,a,e)else .bind (α:=(List Int)×Int×(List (Int×Int))) (if !(J7 e (gt (gt a b) c))then if K0 8 d [gt (gt a b) c]then some (d++[gt (gt a b) c],(d.length:Int),b0f e (gt (gt a b) c) (d.length:Int))else none else some (d,U7 e (gt (gt a b) c),e)) fun(h,g,k)=>if y0 (gt a b) c then some (h,a.set b.toNat ((gt a b).set c.toNat g),k)else none else none) fun(i,l,m)=>some (.next (i,W (c+1),l,m))else some (.done (d,a,e))
def i0a (F:Nat)(e:List (List Int))(d:(List Int)×Int×(List (List Int))×(List (Int×Int))):Option (Q0 ((List Int)×Int×(List (List Int))×(List (Int×Int))) ((List Int)×(List (List Int)))):=match d with
 | (c,a,b,g)=>if decide (a<(e.length:Int))then if y0 b a then .bind (α:=(List Int)×(List (List Int))×(List (Int×Int))) (iter (h05 F a b) F (c,0,b,g)) fun(f,h,i)=>some (.next (f,W (a+1),h,i))else none else some (.done (c,b))
def g0N (F:Nat):(Int×(List Int)×(List (List Int))×D2)->Option (F1×(List Int))
 | (b,c,a,d)=>.bind (α:=(List Int)×(List (List Int))) (iter (i0a F a) F ([],0,a,([]:List (Int×Int)))) fun(e,f)=>some ((⟨b,c,f,d⟩:F1),e)
def m0c (F:Nat):Sm en.D:=⟨187,[.agg [G3,.d (.list B2),.X0 22 [3] (.list B2),.d (.st 5)]],.tup [.d (.st 6),.own 3 B2],[],fun a=>g0N F a⟩
def y0Z (F:Nat):=V1 [] 187 ⟨[(15,[(.nrm,⟨[(5,.own 3 B2),(10,G3)],[(3,.map),(8,.any)]⟩)]),(16,[(.nrm,⟨[(5,.own 3 B2)],[(0,.X0 22 [3] (.list B2)),(3,.map),(8,.any)]⟩)])],[(4,⟨[(5,.own 3 B2),(16,G3)],[(0,.X0 22 [3] (.list B2)),(3,.map)]⟩,[(.ex 0,⟨[(5,.own 3 B2),(16,.any)],[(0,.X0 22 [3] (.list B2)),(3,.any)]⟩)]),(7,⟨[(5,.own 3 B2),(22,G3)],[(0,.X0 22 [3] (.list B2)),(3,.map),(4,.any),(5,.any)]⟩,[(.ex 2,⟨[(5,.own 3 B2),(22,.any)],[(0,.X0 22 [3] (.list B2)),(3,.map),(4,.any),(5,.any)]⟩)])],[],[]⟩ F
def f01 (F:Nat)(m:List C0)(s:Int)(v:D2)(l:List Int)(u:((List G5)×(List Int)×(List B0)×Int×(Int×(List Int)×(List (List Int))×D2))):Option (Q0 ((List G5)×(List Int)×(List B0)×Int×(Int×(List Int)×(List (List Int))×D2)) ((List Int)×(List B0)×(Int×(List Int)×(List (List Int))×D2))):=match u with
 | (k,g,h,b,(i,f,e,j))=>if decide (b<(l.length:Int))then .bind (α:=((List Int)×(List B0)×(Int×(List Int)×(List (List Int))×D2))) (if y0 l b then if y0 m (gt l b)then .bind (e0H F ((gt m (gt l b)).Set) s) fun w=>if !w then some (g,h,(i,f,e,j))else .bind (j0n F k b) fun(c,d)=>.bind (h0B F v c d) fun a=>if decide (a<0)then some (g,h,(i,f,e,j))else if K0 8 f [b]then if y0 c a then if y0 k (gt c a)then if y0 d a then .bind (g0w F m (gt d a).Steps) fun y=>.bind (d0G F ((gt k (gt c a)).tags) y (-1) (-2)) fun n=>if K0 24 e [n]then if y0 c a then if K0 8 g [gt c a]then if y0 d a then if K0 40 h [gt d a]then some (g++[gt c a],h++[gt d a],(i,f++[b],e++[n],j))else none else none else none else none else none else none else none else none else none else none else none) fun(t,x,(o,q,p,r))=>some (.next (k,t,x,W (b+1),(o,q,p,r)))else some (.done (g,h,(i,f,e,j)))
def c0Q (F:Nat)(a:List C0)(g:Int)(b:F1)(q:Int):Option (F1×(List Int)):=.bind (f0d F g) fun z=>.bind (if !z then some true else .bind (c0P F a b) fun C=>some (!C)) fun D=>if D then some ((⟨0,[],[],(⟨[],[]⟩:D2)⟩:F1),[])else .bind (i0L F a b) fun(w,f)=>.bind (α:=Int×(List Int)×(List (List Int))×D2) (if b.Flag==1 then some (1,[],[],(⟨[],[]⟩:D2))else some (0,[],[],(⟨[],[]⟩:D2))) fun(i,m,k,o)=>.bind (C7 F a) fun y=>.bind (α:=((List Int)×(List B0)×(Int×(List Int)×(List (List Int))×D2))) (iter (f01 F a q f y) F (w,[],[],0,(i,m,k,o))) fun(r,x,(c,e,d,E))=>.bind (j03 F a f r x) fun h=>.bind (α:=Int×(List Int)×(List (List Int))×D2) (if g==0 then .bind (j0p F a (c,e,d,h)) fun(s,t,u,v)=>some (s,t,u,v)else some (c,e,d,h)) fun(j,n,l,p)=>.bind (g0N F (j,n,l,p)) fun(A,B)=>some (A,B)
def m0N (F:Nat):Sm en.D:=⟨156,[.d (.list (.st 3)),G3,.d (.st 6),.d (.int .u8)],.tup [.d (.st 6),.own 3 B2],[],fun a=>c0Q F a.1 a.2.1 a.2.2.1 a.2.2.2⟩
def y0x (F:Nat):=V1 [k0M F,i05 F,k0G F,j08 F,d0m F,f0m F,q0B F,o0v F,p03 F,p0i F,n0k F,m0c F] 156 ⟨[(20,[(.nrm,⟨[(13,.own 3 B2),(14,.own 116 (.st 11))],[(4,.box 48 [G3,.own 3 B2,.X0 22 [3] (.list B2),.d (.st 5)]),(9,.any),(10,.any),(11,.any),(12,.any)]⟩)]),(24,[(.nrm,⟨[],[(4,.box 48 [G3,.d (.list B2),.X0 22 [3] (.list B2),.d (.st 5)]),(11,.any),(12,.any)]⟩)]),(7,[(.nrm,⟨[],[(4,.box 48 [G3,.own 3 B2,.X0 22 [3] (.list B2),.d (.st 5)])]⟩)])],[(10,⟨[(10,.d (.list (.st 16))),(13,.own 3 B2),(14,.own 116 (.st 11)),(43,G3)],[(2,.any),(4,.box 48 [G3,.own 3 B2,.X0 22 [3] (.list B2),.d (.st 5)]),(5,.any),(6,.any)]⟩,[(.ex 0,⟨[(10,.any),(13,.own 3 B2),(14,.own 116 (.st 11)),(43,.any)],[(2,.any),(4,.box 48 [G3,.own 3 B2,.X0 22 [3] (.list B2),.d (.st 5)]),(5,.any),(6,.any)]⟩)])],[(1,4,8,⟨[(23,.any),(28,.d .bool)],[]⟩)],[92]⟩ F
def e0D (F:Nat)(b:List F1)(d:F1)(c:Int):Option (Q0 Int (Int⊕Unit)):=match c with
 | a=>if decide (a<(b.length:Int))then if y0 b a then .bind (h0U F d (gt b a)) fun e=>if e then some (.done (.inl a))else some (.next (W (a+1)))else none else some (.done (.inr ()))
def f0S (F:Nat):((List C0)×Int×(List Int)×(List F1))->F1->Int->Option (H4×((List C0)×Int×(List Int)×(List F1)))
 | (c,d,a,b),h,f=>if y0 a f then .bind (α:=F1×(List Int)) (same (.bind (c0Q F c d h (gt a f)) fun(m,n)=>some (m,n)) (.bind (c0Q F c d h (gt a f)) fun(o,p)=>some (o,p))) fun(e,q)=>.bind (if(e.Places.length:Int)==0 then some (e.Flag==0)else some false) fun s=>if s then some ((⟨(-1),[]⟩:H4),(c,d,a,b))else .bind (α:=Int) (.bind (α:=Int⊕Unit) (iter (e0D F b e) F 0) fun u=>match u with
    | .inl t=>some t
    | .inr _=>some (-1)) fun g=>.bind (α:=Int×((List C0)×Int×(List Int)×(List F1))) (if decide (g<0)then if K0 104 b [e]then some ((b.length:Int),(c,d,a,b++[e]))else none else some (g,(c,d,a,b))) fun(i,(j,l,k,r))=>some ((⟨i,q⟩:H4),(j,l,k,r))else none
def o00 (F:Nat):Sm en.D:=⟨120,[.box 108 [.d (.list (.st 3)),G3,.d (.list (.int .u8)),.agg [.own 48 (.st 6),.fn 60 []]],.d (.st 6),G3],.d (.st 0),[(0,.box 108 [.d (.list (.st 3)),G3,.d (.list (.int .u8)),.agg [.own 48 (.st 6),.fn 60 []]])],fun a=>f0S F a.1 a.2.1 a.2.2⟩
def D0m (F:Nat):J3 en:=⟨[p09 F,m0N F],fun a=>if Nat.beq a 120 then⟨[],[],[(1,1000016,22,⟨[(7,.box 48 [.d (.st 6)]),(8,.own 3 B2)],[]⟩),(2,5,8,⟨[(33,.any),(37,.d .bool)],[]⟩)],[]⟩else if Nat.beq a 61 then⟨[(2,[(.nrm,⟨[(5,G3)],[]⟩)]),(5,[(.nrm,⟨[(5,G3)],[(0,.any),(1,.box 108 [.d (.list (.st 3)),G3,.d (.list (.int .u8)),.agg [.own 48 (.st 6),.fn 60 []]])]⟩)])],[],[],[]⟩else if Nat.beq a 115 then⟨[],[(2,⟨[(8,G3)],[]⟩,[(.ret,⟨[(4,G3),(8,.any)],[]⟩),(.ex 0,⟨[(8,.any)],[]⟩)])],[],[]⟩else if Nat.beq a 116 then G4 else G4,F,[]⟩
def e0z (F:Nat)(m:List Int)(k:F1)(j:Int×((List C0)×Int×(List Int)×(List F1))×(Int×(List Int)×(List H4))):Option (Q0 (Int×((List C0)×Int×(List Int)×(List F1))×(Int×(List Int)×(List H4))) (((List C0)×Int×(List Int)×(List F1))×(Int×(List Int)×(List H4)))):=match j with
 | (b,(f,h,g,i),(d,c,a))=>if decide (b<(m.length:Int))then .bind (f0S F (f,h,g,i) k b) fun(e,(l,o,n,p))=>if K0 32 a [e]then some (.next (W (b+1),(l,o,n,p),(d,c,a++[e])))else none else some (.done ((f,h,g,i),(d,c,a)))
def f0T (F:Nat):((List C0)×Int×(List Int)×(List F1))->F1->Option (L3×((List C0)×Int×(List Int)×(List F1)))
 | (b,q,c,t),a=>.bind (α:=Int×(List Int)) (same (.bind (c0k F a) fun d=>.bind (α:=Int×(List Int)) (same (.bind (c0s F b a) fun l=>some (d,l)) (.bind (c0s F b a) fun m=>some (d,m))) fun(i,e)=>some (i,e)) (.bind (c0k F a) fun s=>.bind (c0s F b a) fun n=>some (s,n))) fun(j,f)=>.bind (α:=((List C0)×Int×(List Int)×(List F1))×(Int×(List Int)×(List H4))) (iter (e0z F c a) F (0,(b,q,c,t),(j,f,[]))) fun((o,r,p,u),(k,g,h))=>some ((⟨k,g,h⟩:L3),(o,r,p,u))
def o0z (F:Nat):Sm en.D:=⟨63,[.box 108 [.d (.list (.st 3)),G3,.d (.list (.int .u8)),.agg [.own 48 (.st 6),.fn 60 []]],.d (.st 6)],.d (.st 1),[(0,.box 108 [.d (.list (.st 3)),G3,.d (.list (.int .u8)),.agg [.own 48 (.st 6),.fn 60 []]])],fun a=>f0T F a.1 a.2⟩
def C0D (F:Nat):=V1 [p0n F,o0j F,o00 F] 63 ⟨[],[(3,⟨[(21,G3)],[(0,.any),(1,.box 108 [.d (.list (.st 3)),G3,.d (.list (.int .u8)),.agg [.own 48 (.st 6),.fn 60 []]]),(4,.any),(5,.box 53 [G3,.own 3 B2,.own 57 (.st 0)])]⟩,[(.ex 0,⟨[(21,.any)],[(0,.any),(1,.box 108 [.d (.list (.st 3)),G3,.d (.list (.int .u8)),.agg [.own 48 (.st 6),.fn 60 []]]),(4,.any),(5,.box 53 [G3,.own 3 B2,.own 57 (.st 0)])]⟩)])],[(1,1000001,10,⟨[(5,.box 53 [G3,.own 3 B2,.nil])],[]⟩),(1,1000007,10,⟨[(5,.box 53 [G3,.own 3 B2,.nil])],[]⟩)],[]⟩ F
def q0r (F:Nat)(a:Unit):Option (Q0 Unit Unit):=match a with
 | _=>if decide (0<0)then none else some (.done ())
def b0H (F:Nat)(f:Int)(h:Int×((List C0)×Int×(List Int)×(List F1))×(Int×(List Int)×(List L3))):Option (Q0 (Int×((List C0)×Int×(List Int)×(List F1))×(Int×(List Int)×(List L3))) ((Int×Y1)⊕(Int×(List Int)×(List L3)))):=match h with
 | (b,(i,m,k,a),(e,d,c))=>if decide (b<(a.length:Int))then let p:=decide ((a.length:Int)>(if 400<f then 400 else f));
  if p then some (.done (.inl (14,(⟨0,[],[]⟩:Y1))))else if y0 a b then .bind (f0T F (i,m,k,a) (gt a b)) fun(g,(j,n,l,o))=>if K0 56 c [g]then some (.next (W (b+1),(j,n,l,o),(e,d,c++[g])))else none else none else some (.done (.inr (e,d,c)))
def a05 (F:Nat)(a:List C0)(b:Int)(j:Int):Option (Y1×Int):=.bind (d0z F a b) fun(c,d)=>if d != 0 then some ((⟨0,[],[]⟩:Y1),d)else .bind (f0z F a) fun(f,t)=>.bind (e0e F f) fun e=>.bind (α:=Unit) (iter (q0r F) F ()) fun _=>.bind (α:=Int×((List C0)×Int×(List Int)×(List F1))) (if decide ((-1)<0)then if K0 104 ([]:List F1) [c]then some (0,(a,b,e,[]++[c]))else none else some ((-1),(a,b,e,[]))) fun(s,(k,m,l,n))=>.bind (d0Y F a) fun o=>.bind (α:=(Int×Y1)⊕(Int×(List Int)×(List L3))) (iter (b0H F j) F (0,(k,m,l,n),(o,f,[]))) fun r=>match r with
  | .inl (p,q)=>some (q,p)
  | .inr (i,g,h)=>some ((⟨i,g,h⟩:Y1),0)
def l0J (F:Nat):Sm en.D:=⟨19,[.d (.list (.st 3)),G3,G3],.tup [.d (.st 2),G3],[],fun a=>a05 F a.1 a.2.1 a.2.2⟩
def A0Y (F:Nat):J3 en:=⟨[j0S F,n0l F,l00 F,h0C F,o0z F],fun a=>if Nat.beq a 19 then⟨[],[(10,⟨[(14,G3)],[(3,.box 108 [.d (.list (.st 3)),G3,.d (.list (.int .u8)),.agg [.own 48 (.st 6),.fn 60 []]]),(6,.any),(7,.any),(9,.box 25 [G3,.d (.list B2),.own 53 (.st 1)])]⟩,[(.ret,⟨[(7,G3),(14,.any)],[(0,.box 25 [.d (.st 2)]),(3,.any),(6,.any),(7,.any),(9,.any)]⟩),(.ex 0,⟨[(14,.any)],[(3,.any),(6,.any),(7,.any),(9,.box 25 [G3,.d (.list B2),.own 53 (.st 1)])]⟩)])],[],[]⟩else if Nat.beq a 61 then⟨[(5,[(.nrm,⟨[(5,G3)],[(2,.any),(3,.box 108 [.d (.list (.st 3)),G3,.own 5 (.int .u8),.agg [.own 48 (.st 6),.fn 60 []]])]⟩)])],[],[],[]⟩else if Nat.beq a 115 then⟨[],[(2,⟨[],[]⟩,[(.ex 0,⟨[],[]⟩)])],[],[]⟩else G4,F,[]⟩
def n0w (F:Nat)(b:List Int)(d:Int×Int):Option (Q0 (Int×Int) (Unit⊕Unit)):=match d with
 | (c,a)=>if decide (a<(b.length:Int))then .bind (α:=Unit⊕Int) (if y0 b a then .bind (if decide ((gt b a)<0)then some true else if y0 b a then some (decide ((gt b a)>c))else none) fun f=>if f then some (.inl ())else if y0 b a then if(gt b a)==c then some (.inr (W (c+1)))else some (.inr c)else none else none) fun g=>match g with
  | .inl _=>some (.done (.inl ()))
  | .inr e=>some (.next (e,W (a+1)))else some (.done (.inr ()))
def i0J (F:Nat)(a:List Int):Option Bool:=.bind (α:=Unit⊕Unit) (iter (n0w F a) F (0,0)) fun b=>match b with
 | .inl _=>some false
 | .inr _=>some ((a.length:Int)==256)
def q0G (F:Nat)(c:List Int)(d:(List Int)×Int):Option (Q0 ((List Int)×Int) (List Int)):=match d with
 | (b,a)=>if decide (a<256)then .bind (α:=List Int) (if y0 c a then if(gt c a)==(b.length:Int)then if K0 1 b [IntKind.u8.wrap (a)]then some (b++[IntKind.u8.wrap (a)])else none else some b else none) fun e=>some (.next (e,W (a+1)))else some (.done b)
def j0R (F:Nat)(a:List Int):Option (List Int):=.bind (i0J F a) fun c=>if !c then some []else .bind (α:=List Int) (iter (q0G F a) F ([],0)) fun b=>some b
def i0A (F:Nat)(a:Int)(b:Int)(may:Bool):Option Bool:=.bind (if decide (a>=0)then some (decide (a<b))else some false) fun c=>.bind (if c then some true else some (a==(-1))) fun d=>.bind (if d then some true else .bind (if may then some (a==(-2))else some false) fun e=>some e) fun f=>some f
def k02 (F:Nat)(b:H4)(e:Int)(c:Int):Option (Q0 Int (Unit⊕Unit)):=match c with
 | a=>if decide (a<(b.Src.length:Int))then if y0 b.Src a then .bind (i0A F (gt b.Src a) e false) fun d=>if !d then some (.done (.inl ()))else some (.next (W (a+1)))else none else some (.done (.inr ()))
def l0m (F:Nat)(b:Y1)(a:H4)(c:Int):Option Bool:=if a.To==(-1)then some ((a.Src.length:Int)==0)else .bind (if decide (a.To<0)then some true else some (decide (a.To>=(b.States.length:Int)))) fun d=>.bind (if d then some true else if y0 b.States a.To then let e:=(a.Src.length:Int) != ((gt b.States a.To).Regs);
     some e else none) fun f=>if f then some false else .bind (α:=Unit⊕Unit) (iter (k02 F a c) F 0) fun g=>match g with
   | .inl _=>some false
   | .inr _=>some true
def i0D (F:Nat)(a:Y1)(b:Int)(d:Int):Option (Q0 Int (Unit⊕Unit)):=match d with
 | c=>let f:=decide (c<(((gt a.States b).Accept).length:Int));
 if f then if y0 ((gt a.States b).Accept) c then .bind (i0A F (gt ((gt a.States b).Accept) c) ((gt a.States b).Regs) true) fun e=>if !e then some (.done (.inl ()))else some (.next (W (c+1)))else none else some (.done (.inr ()))
def h0b (F:Nat)(b:Y1)(f:List Int)(c:Int)(e:Int):Option (Q0 Int (Unit⊕Unit)):=match e with
 | a=>if decide (a<(f.length:Int))then if y0 ((gt b.States c).Edges) a then .bind (l0m F b (gt ((gt b.States c).Edges) a) ((gt b.States c).Regs)) fun d=>if !d then some (.done (.inl ()))else some (.next (W (a+1)))else none else some (.done (.inr ()))
def k0V (F:Nat)(a:Y1)(d:List Int)(e:Int):Option (Q0 Int (Unit⊕Unit)):=match e with
 | b=>if decide (b<(a.States.length:Int))then if y0 a.States b then .bind (if decide (((gt a.States b).Regs)<0)then some true else some (decide (((gt a.States b).Regs)>1216))) fun i=>.bind (if i then some true else .bind (if(((gt a.States b).Accept).length:Int) != 0 then let j:=(((gt a.States b).Accept).length:Int) != a.Tags;
       some j else some false) fun k=>some k) fun f=>.bind (if f then some true else let g:=(((gt a.States b).Edges).length:Int) != (d.length:Int);
     some g) fun h=>if h then some (.done (.inl ()))else .bind (α:=Unit⊕Unit) (iter (i0D F a b) F 0) fun c=>match c with
    | .inl _=>some (.done (.inl ()))
    | .inr _=>.bind (α:=Unit⊕Unit) (iter (h0b F a d b) F 0) fun c=>match c with
     | .inl _=>some (.done (.inl ()))
     | .inr _=>some (.next (W (b+1)))else none else some (.done (.inr ()))
def i04 (F:Nat)(a:Y1):Option Bool:=.bind (if decide (a.Tags<1)then some true else some (decide (a.Tags>19))) fun d=>.bind (if d then some true else some ((a.Tags.tmod 2)==0)) fun e=>.bind (if e then some true else some (decide ((a.States.length:Int)<1))) fun f=>.bind (if f then some true else some (decide ((a.States.length:Int)>400))) fun g=>.bind (if g then some true else .bind (i0J F a.Class) fun c=>some (!c)) fun h=>.bind (if h then some true else if y0 a.States 0 then some (((gt a.States 0).Regs) != 0)else none) fun i=>if i then some false else .bind (j0R F a.Class) fun b=>.bind (α:=Unit⊕Unit) (iter (k0V F a b) F 0) fun j=>match j with
  | .inl _=>some false
  | .inr _=>some true
def c0t (F:Nat)(a:Int):Option (Bool×Bool):=.bind (if decide (a>=3)then some (decide (a<=8))else some false) fun b=>.bind (if a==3 then some true else some (a==4)) fun c=>some (b,c)
def n0y (F:Nat):Sm en.D:=⟨126,[G3],.tup [.d .bool,.d .bool],[],fun a=>c0t F a⟩
def x0H (F:Nat):=V1 [] 126 ⟨[],[],[(1,3,5,⟨[(6,.any),(9,.d .bool)],[]⟩),(1,9,11,⟨[(12,.any),(15,.d .bool)],[]⟩)],[]⟩ F
def n0Y (F:Nat)(b:List C0)(c:Int)(d:Int):Option (Q0 Int (Unit⊕Unit)):=match d with
 | a=>if decide (a<c)then .bind (if((gt b c).Kind)==7 then if y0 b a then some ((gt b a).Kind==7)else none else some false) fun e=>.bind (if e then if y0 b a then some ((gt b a).N==(gt b c).N)else none else some false) fun f=>if f then some (.done (.inl ()))else some (.next (W (a+1)))else some (.done (.inr ()))
def m0R (F:Nat)(b:List C0)(j:Int×Int×(List Int)):Option (Q0 (Int×Int×(List Int)) (Unit⊕(Int×(List Int)))):=match j with
 | (f,a,c)=>if decide (a<(b.length:Int))then if y0 b a then .bind (c0t F (gt b a).Kind) fun(h,i)=>if y0 c a then .bind (if decide ((gt b a).Kind<1)then some true else some (decide ((gt b a).Kind>8))) fun m=>.bind (if m then some true else .bind (if((gt b a).Kind) != 2 then let r:=!(((gt (gt b a).Set 0)==0)&&(((gt (gt b a).Set 1)==0)&&(((gt (gt b a).Set 2)==0)&&((gt (gt b a).Set 3)==0))));
        some r else some false) fun s=>some s) fun t=>.bind (if t then some true else .bind (if((gt b a).Kind) != 7 then some ((gt b a).N != 0)else some false) fun u=>some u) fun v=>.bind (if v then some true else .bind (if((gt b a).Kind)==7 then if decide ((gt b a).N<1)then some true else some (decide ((gt b a).N>9))else some false) fun w=>some w) fun x=>if x then some (.done (.inl ()))else .bind (if !h then some ((gt b a).A != (-1))else some false) fun y=>.bind (if y then some true else .bind (if !i then some ((gt b a).B != (-1))else some false) fun n=>some n) fun o=>if o then some (.done (.inl ()))else .bind (α:=Int) (if((gt b a).Kind)==2 then some (W (f+1))else some f) fun l=>.bind (α:=Unit⊕Int) (if i then .bind (if((gt b a).B) != (W (a-1))then some true else some (decide ((W (a-1))<0))) fun p=>if p then some (.inl ())else if y0 (c.set a.toNat a) (W (a-1))then some (.inr (W ((gt (c.set a.toNat a) (W (a-1)))-1)))else none else some (.inr (W (a-1)))) fun d=>match d with
      | .inl _=>some (.done (.inl ()))
      | .inr e=>.bind (α:=Unit⊕(List Int)) (if h then .bind (if((gt b a).A) != e then some true else some (decide (e<0))) fun q=>if q then some (.inl ())else if y0 (c.set a.toNat a) e then if y0 (c.set a.toNat a) a then let k:=(c.set a.toNat a).set a.toNat (gt (c.set a.toNat a) e);
            some (.inr k)else none else none else some (.inr (c.set a.toNat a))) fun d=>match d with
       | .inl _=>some (.done (.inl ()))
       | .inr g=>if y0 g a then .bind (α:=Unit⊕Unit) (iter (n0Y F b a) F (gt g a)) fun d=>match d with
         | .inl _=>some (.done (.inl ()))
         | .inr _=>some (.next (l,W (a+1),g))else none else none else none else some (.done (.inr (f,c)))
def b0G (F:Nat)(a:List C0):Option (Unit⊕(List Int)):=if R2 8 (a.length:Int)then .bind (α:=Unit⊕(Int×(List Int))) (iter (m0R F a) F (0,0,(List.replicate (a.length:Int).toNat 0:List Int))) fun g=>match g with
  | .inl _=>some (.inl ())
  | .inr (c,b)=>.bind (if(a.length:Int)==0 then some true else some (decide ((a.length:Int)>400))) fun d=>.bind (if d then some true else some (decide (c>64))) fun e=>.bind (if e then some true else if y0 b (W ((a.length:Int)-1))then some ((gt b (W ((a.length:Int)-1))) != 0)else none) fun f=>if f then some (.inl ())else some (.inr b)else none
def m0U (F:Nat):Sm en.D:=⟨67,[.d (.list (.st 3))],.alt .nil (.own 3 B2),[],fun a=>b0G F a⟩
def G0e (F:Nat):=V1 [n0y F] 67 ⟨[(15,[(.nrm,⟨[(4,G3)],[]⟩)]),(20,[(.ret,⟨[(2,.nil)],[]⟩),(.nrm,⟨[(9,G3)],[]⟩)]),(24,[(.ret,⟨[(2,.nil)],[]⟩),(.nrm,⟨[],[(0,.own 3 B2)]⟩)])],[(25,⟨[(10,G3)],[]⟩,[(.ret,⟨[(2,.nil),(10,.any)],[]⟩),(.ex 2,⟨[(10,.any)],[]⟩)]),(4,⟨[(4,G3),(5,G3)],[(0,.own 3 B2)]⟩,[(.ret,⟨[(2,.nil),(4,.any),(5,.any)],[(0,.any)]⟩),(.ex 0,⟨[(4,G3),(5,.any)],[(0,.own 3 B2)]⟩)])],[(9,4,7,⟨[(37,.any),(41,.d .bool)],[]⟩),(9,9,18,⟨[(42,.any),(52,.d .bool)],[]⟩),(9,13,17,⟨[(46,.any),(51,.d .bool)],[]⟩),(9,20,28,⟨[(53,.any),(62,.d .bool)],[]⟩),(9,24,27,⟨[(57,.any),(61,.d .bool)],[]⟩),(9,30,43,⟨[(63,.any),(77,.d .bool)],[]⟩),(9,34,42,⟨[(67,.any),(76,.d .bool)],[]⟩),(11,3,6,⟨[(80,.any),(84,.d .bool)],[]⟩),(11,8,15,⟨[(85,.any),(93,.d .bool)],[]⟩),(11,11,14,⟨[(88,.any),(92,.d .bool)],[]⟩),(17,5,7,⟨[(106,.any),(109,.d .bool)],[]⟩),(21,5,7,⟨[(120,.any),(123,.d .bool)],[]⟩),(27,4,10,⟨[(143,.any),(150,.d .bool)],[]⟩),(27,12,20,⟨[(151,.any),(160,.d .bool)],[]⟩),(29,4,7,⟨[(164,.any),(168,.d .bool)],[]⟩),(29,9,11,⟨[(169,.any),(172,.d .bool)],[]⟩),(29,13,20,⟨[(173,.any),(181,.d .bool)],[]⟩)],[]⟩ F
def U6 (F:Nat)(a:List C0):Option Bool:=.bind (b0G F a) fun b=>match b with
 | .inl _=>some false
 | .inr c=>if !c.isEmpty then some true else none
def p0M (F:Nat):Sm en.D:=⟨21,[.d (.list (.st 3))],.d .bool,[],fun a=>U6 F a⟩
def z0q (F:Nat):=V1 [m0U F] 21 G4 F
def p0e (F:Nat)(b:List C0)(d:Int×(List Bool)):Option (Q0 (Int×(List Bool)) (List Bool)):=match d with
 | (a,c)=>if decide (a<(b.length:Int))then .bind (α:=List Bool) (if y0 b a then .bind (if((gt b a).Kind)==1 then some ((gt b a).Kind==1)else if((gt b a).Kind)==5 then some ((gt b a).Kind==5)else some ((gt b a).Kind==6)) fun e=>if e then if y0 c a then some (c.set a.toNat true)else none else if((gt b a).Kind)==3 then if y0 b a then if y0 c ((gt b a).A)then .bind (if gt c ((gt b a).A)then if y0 b a then if y0 c ((gt b a).B)then some (gt c (gt b a).B)else none else none else some false) fun f=>if y0 c a then some (c.set a.toNat f)else none else none else none else if((gt b a).Kind)==4 then if y0 b a then if y0 c ((gt b a).A)then .bind (if gt c ((gt b a).A)then some true else if y0 b a then if y0 c ((gt b a).B)then some (gt c (gt b a).B)else none else none) fun g=>if y0 c a then some (c.set a.toNat g)else none else none else none else .bind (if((gt b a).Kind)==7 then some ((gt b a).Kind==7)else some ((gt b a).Kind==8)) fun h=>if h then if y0 b a then if y0 c ((gt b a).A)then if y0 c a then some (c.set a.toNat (gt c (gt b a).A))else none else none else none else some c else none) fun i=>some (.next (W (a+1),i))else some (.done c)
def a0U (F:Nat)(a:List C0):Option (List Bool):=.bind (U6 F a) fun b=>if !b then some []else if R2 1 (a.length:Int)then .bind (α:=List Bool) (iter (p0e F a) F (0,(List.replicate (a.length:Int).toNat false:List Bool))) fun c=>some c else none
def o0X (F:Nat)(a:List C0):Option (List Int):=.bind (b0G F a) fun b=>match b with
 | .inl _=>some []
 | .inr c=>some c
def K0N (F:Nat):Sm en.D:=⟨163,[.d (.list (.st 3))],.own 3 B2,[],fun a=>o0X F a⟩
def P04 (F:Nat):=V1 [m0U F] 163 G4 F
def h09 (F:Nat)(b:List C0)(e:Int)(d:Int)(c:Bool×Int):Option (Q0 (Bool×Int) Bool):=match c with
 | (is,a)=>if decide (a<=e)then .bind (if is then some true else if y0 b a then .bind (if((gt b a).Kind)==7 then if y0 b a then some ((gt b a).N==d)else none else some false) fun f=>some f else none) fun g=>some (.next (g,W (a+1)))else some (.done is)
def h0O (F:Nat)(g:List C0)(c:Int)(d:List Int)(e:(List Int)×Int):Option (Q0 ((List Int)×Int) (List Int)):=match e with
 | (b,a)=>if decide (a<=9)then .bind (α:=List Int) (if y0 d c then .bind (iter (h09 F g c a) F (false,gt d c)) fun f=>if f then if K0 8 b [a]then some (b++[a])else none else some b else none) fun h=>some (.next (h,W (a+1)))else some (.done b)
def q0A (F:Nat)(b:List C0)(a:Int):Option (List Int):=.bind (o0X F b) fun c=>.bind (if decide (a<0)then some true else some (decide (a>=(c.length:Int)))) fun e=>if e then some []else .bind (α:=List Int) (iter (h0O F b a c) F ([],1)) fun d=>some d
def K05 (F:Nat):Sm en.D:=⟨131,[.d (.list (.st 3)),G3],.own 3 B2,[],fun a=>q0A F a.1 a.2⟩
def N0q (F:Nat):=V1 [K0N F] 131 ⟨[(7,[(.nrm,⟨[(6,.own 3 B2)],[(1,.any)]⟩)])],[(10,⟨[(8,.d .bool),(9,G3)],[]⟩,[(.ex 2,⟨[(8,.d .bool),(9,.any)],[]⟩)]),(6,⟨[(6,.own 3 B2),(7,G3)],[]⟩,[(.ex 0,⟨[(6,.own 3 B2),(7,.any)],[]⟩)])],[(3,3,7,⟨[(14,.any),(19,.d .bool)],[]⟩),(12,2,17,⟨[(34,.any),(50,.d .bool)],[]⟩),(12,9,16,⟨[(41,.any),(49,.d .bool)],[]⟩)],[]⟩ F
def K0j (F:Nat)(b:List C0):Option Int:=.bind (q0A F b (W ((b.length:Int)-1))) fun a=>if(a.length:Int)==0 then some 0 else if y0 a (W ((a.length:Int)-1))then some (gt a (W ((a.length:Int)-1)))else none
def L0e (F:Nat):Sm en.D:=⟨123,[.d (.list (.st 3))],G3,[],fun a=>K0j F a⟩
def N0t (F:Nat):=V1 [K05 F] 123 G4 F
def q0u (F:Nat)(c:List C0)(d:(List Int)×Int):Option (Q0 ((List Int)×Int) (List Int)):=match d with
 | (b,a)=>if decide (a<(c.length:Int))then .bind (α:=List Int) (if y0 c a then if((gt c a).Kind)==2 then if K0 8 b [a]then some (b++[a])else none else some b else none) fun e=>some (.next (e,W (a+1)))else some (.done b)
def b0P (F:Nat)(a:List C0):Option (List Int):=.bind (U6 F a) fun c=>if !c then some []else .bind (α:=List Int) (iter (q0u F a) F ([],0)) fun b=>some b
def R5 (F:Nat):Nat->(List C0)->(List Bool)->Int->Option (List Int)
 | 0,_,_,_=>none
 | d+1,b,c,a=>.bind (α:=List Int) (if y0 b a then if((gt b a).Kind)==3 then if y0 b a then .bind (R5 F d b c (gt b a).A) fun e=>if K0 8 [W (2*a)] e then if y0 b a then .bind (R5 F d b c (gt b a).B) fun f=>if K0 8 ([W (2*a)]++e) f then some (([W (2*a)]++e)++f)else none else none else none else none else if((gt b a).Kind)==4 then if y0 b a then if y0 c ((gt b a).A)then if gt c ((gt b a).A)then if y0 b a then .bind (R5 F d b c (gt b a).A) fun g=>if K0 8 [W (2*a)] g then some ([W (2*a)]++g)else none else none else if y0 b a then .bind (R5 F d b c (gt b a).B) fun h=>if K0 8 [W (2*a)] h then some ([W (2*a)]++h)else none else none else none else none else .bind (if((gt b a).Kind)==7 then some ((gt b a).Kind==7)else some ((gt b a).Kind==8)) fun k=>if k then if y0 b a then .bind (R5 F d b c (gt b a).A) fun i=>if K0 8 [W (2*a)] i then some ([W (2*a)]++i)else none else none else some [W (2*a)]else none) fun j=>if K0 8 j [W ((W (2*a))+1)]then some (j++[W ((W (2*a))+1)])else none
def c0Y (F:Nat)(c:List C0)(a:Int):Option (List Int):=.bind (a0U F c) fun b=>.bind (if decide (a<0)then some true else some (decide (a>=(b.length:Int)))) fun e=>.bind (if e then some true else if y0 b a then some (!(gt b a))else none) fun f=>if f then some []else .bind (R5 F F c b a) fun d=>some d
def O9 (F:Nat)(a:List Int)(b:List Int):Option (List Int):=if K0 8 ([]:List Int) a then if K0 8 ([]++a) b then some (([]++a)++b)else none else none
def D6 (F:Nat):Nat->(List C0)->(List Int)->(List Bool)->Int->(List Int)->Option (List B0)
 | 0,_,_,_,_,_=>none
 | f+1,a,d,c,b,k=>if y0 a b then .bind (O9 F k [W (2*b)]) fun e=>if((gt a b).Kind)==2 then if y0 d b then some [(⟨gt d b,0,e⟩:B0)]else none else if((gt a b).Kind)==3 then .bind (D6 F f a d c (gt a b).A e) fun g=>.bind (α:=List B0) (if y0 c ((gt a b).A)then if gt c ((gt a b).A)then .bind (R5 F F a c (gt a b).A) fun m=>.bind (O9 F e m) fun o=>.bind (D6 F f a d c (gt a b).B o) fun h=>if K0 40 g h then some (g++h)else none else some g else none) fun n=>some n else if((gt a b).Kind)==4 then .bind (D6 F f a d c (gt a b).A e) fun i=>.bind (D6 F f a d c (gt a b).B e) fun j=>if K0 40 i j then some (i++j)else none else .bind (if((gt a b).Kind)==5 then some ((gt a b).Kind==5)else if((gt a b).Kind)==6 then some ((gt a b).Kind==6)else if((gt a b).Kind)==7 then some ((gt a b).Kind==7)else some ((gt a b).Kind==8)) fun p=>if p then .bind (D6 F f a d c (gt a b).A e) fun l=>some l else some []else none
def n0Z (F:Nat)(c:List C0)(e:Int×Int×(List Int)):Option (Q0 (Int×Int×(List Int)) (List Int)):=match e with
 | (d,a,b)=>if decide (a<(c.length:Int))then .bind (α:=Int×(List Int)) (if y0 b a then if y0 c a then if((gt c a).Kind)==2 then if y0 (b.set a.toNat (-1)) a then some (W (d+1),(b.set a.toNat (-1)).set a.toNat d)else none else some (d,b.set a.toNat (-1))else none else none) fun(f,g)=>some (.next (f,W (a+1),g))else some (.done b)
def b0S (F:Nat)(a:List C0):Option (List Int):=.bind (U6 F a) fun b=>if !b then some []else if R2 8 (a.length:Int)then .bind (α:=List Int) (iter (n0Z F a) F (0,0,(List.replicate (a.length:Int).toNat 0:List Int))) fun c=>some c else none
def m0E (F:Nat)(d:List C0)(c:Int×(List Int)):Option (Q0 (Int×(List Int)) (List Int)):=match c with
 | (a,b)=>if decide (a<(d.length:Int))then if y0 b a then some (.next (W (a+1),b.set a.toNat (-1)))else none else some (.done b)
def p0F (F:Nat)(b:List C0)(e:Int×(List Int)):Option (Q0 (Int×(List Int)) (List Int)):=match e with
 | (a,c)=>if decide (a<(b.length:Int))then .bind (α:=List Int) (.bind (α:=List Int) (if y0 b a then if decide ((gt b a).A>=0)then if y0 b a then if y0 c ((gt b a).A)then some (c.set ((gt b a).A).toNat a)else none else none else some c else none) fun d=>if y0 b a then if decide ((gt b a).B>=0)then if y0 b a then if y0 d ((gt b a).B)then some (d.set ((gt b a).B).toNat a)else none else none else some d else none) fun f=>some (.next (W (a+1),f))else some (.done c)
def c0E (F:Nat)(a:List C0):Option (List Int):=.bind (U6 F a) fun b=>if !b then some []else if R2 8 (a.length:Int)then .bind (α:=List Int) (iter (m0E F a) F (0,(List.replicate (a.length:Int).toNat 0:List Int))) fun c=>.bind (α:=List Int) (iter (p0F F a) F (0,c)) fun d=>some d else none
def p0x (F:Nat)(c:List Int)(d:Int×(List Int)):Option (Q0 (Int×(List Int)) (List Int)):=match d with
 | (a,b)=>if decide (a>=0)then .bind (α:=List Int) (if y0 b a then if y0 c a then if decide ((gt c a)>=0)then if y0 c a then if y0 (b.set a.toNat 1) (gt c a)then if y0 (b.set a.toNat 1) a then let e:=(b.set a.toNat 1).set a.toNat (W ((gt (b.set a.toNat 1) (gt c a))+1));
         some e else none else none else none else some (b.set a.toNat 1)else none else none) fun f=>some (.next (W (a-1),f))else some (.done b)
def e0d (F:Nat)(b:List C0):Option (List Int):=.bind (c0E F b) fun a=>if R2 8 (a.length:Int)then .bind (α:=List Int) (iter (p0x F a) F (W ((a.length:Int)-1),(List.replicate (a.length:Int).toNat 0:List Int))) fun c=>some c else none
def n0S (F:Nat)(b:List B0)(d:Int)(c:Int):Option (Q0 Int (Unit⊕Unit)):=match c with
 | a=>if decide (a<(b.length:Int))then if y0 b a then if((gt b a).To)==d then some (.done (.inl ()))else some (.next (W (a+1)))else none else some (.done (.inr ()))
def e0K (F:Nat)(a:List B0)(b:Int):Option Bool:=.bind (α:=Unit⊕Unit) (iter (n0S F a b) F 0) fun c=>match c with
 | .inl _=>some true
 | .inr _=>some false
def o0K (F:Nat)(h:List Int)(e:List Int)(f:Int)(i:(List Int)×(List B0)×Int×(List B0)):Option (Q0 ((List Int)×(List B0)×Int×(List B0)) ((List Int)×(List B0))):=match i with
 | (g,c,a,b)=>if decide (a<(b.length:Int))then .bind (α:=(List B0)×(List B0)) (if y0 b a then .bind (e0K F c (gt b a).To) fun known=>if !known then if y0 e (gt h f)then if y0 b a then let d:=b.set a.toNat ({ gt b a with Turn:=gt e (gt h f) });
       if y0 d a then if K0 40 c [gt d a]then some (c++[gt d a],d)else none else none else none else none else some (c,b)else none) fun(j,k)=>some (.next (g,j,W (a+1),k))else some (.done (g,c))
def o0o (F:Nat)(c:List C0)(b:List Int)(m:List Int)(l:(List Int)×(List Bool)×Int×(List Int)×(List B0)):Option (Q0 ((List Int)×(List Bool)×Int×(List Int)×(List B0)) (((List B0)×B0)⊕((List Int)×(List B0)))):=match l with
 | (h,d,a,f,g)=>if y0 b a then if decide ((gt b a)>=0)then if y0 b a then .bind (α:=Int) (if y0 c (gt b a)then .bind (if((gt c (gt b a)).Kind)==3 then if y0 c (gt b a)then some (((gt c (gt b a)).A)==a)else none else some false) fun u=>if u then if y0 c (gt b a)then some ((gt c (gt b a)).B)else none else some (-1)else none) fun n=>.bind (α:=Int) (if y0 c (gt b a)then if((gt c (gt b a)).Kind)==5 then if y0 c (gt b a)then some ((gt c (gt b a)).A)else none else some n else none) fun e=>.bind (α:=(List Int)×(List B0)) (if decide (e>=0)then .bind (D6 F F c h d e f) fun k=>.bind (α:=(List Int)×(List B0)) (iter (o0K F b m a) F (f,g,0,k)) fun(s,p)=>some (s,p)else some (f,g)) fun(j,i)=>.bind (α:=((List B0)×B0)⊕(List Int)) (if y0 c (gt b a)then .bind (if((gt c (gt b a)).Kind)==3 then if y0 c (gt b a)then some (((gt c (gt b a)).A)==a)else none else some false) fun v=>if v then if y0 d e then if !(gt d e)then some (.inl (i,(⟨0,0,[]⟩:B0)))else .bind (R5 F F c d e) fun o=>.bind (O9 F j o) fun q=>some (.inr q)else none else some (.inr j)else none) fun y=>match y with
    | .inl (w,x)=>some (.done (.inl (w,x)))
    | .inr t=>.bind (O9 F t [W ((W (2*(gt b a)))+1)]) fun r=>some (.next (h,d,gt b a,r,i))else none else some (.done (.inr (f,g)))else none
def e07 (F:Nat)(a:List C0)(c:Int):Option ((List B0)×B0×Bool):=.bind (c0E F a) fun i=>.bind (e0d F a) fun e=>.bind (b0S F a) fun f=>.bind (a0U F a) fun d=>.bind (b0P F a) fun b=>if y0 b c then .bind (α:=((List B0)×B0)⊕((List Int)×(List B0))) (iter (o0o F a i e) F (f,d,gt b c,[W ((W (2*(gt b c)))+1)],[])) fun l=>match l with
  | .inl (j,k)=>some (j,k,false)
  | .inr (h,g)=>some (g,(⟨(-1),0,h⟩:B0),true)else none
def o0E (F:Nat)(a:List C0)(b:Int):Option (B0×Bool):=.bind (if decide (b<(-1))then some true else .bind (U6 F a) fun g=>some (!g)) fun h=>.bind (if h then some true else .bind (b0P F a) fun f=>some (decide (b>=(f.length:Int)))) fun i=>if i then some ((⟨0,0,[]⟩:B0),false)else if b==(-1)then .bind (c0Y F a (W ((a.length:Int)-1))) fun c=>if(c.length:Int)==0 then some ((⟨0,0,[]⟩:B0),false)else some ((⟨(-1),0,c⟩:B0),true)else .bind (e07 F a b) fun(j,d,e)=>some (d,e)
def s0E (F:Nat)(b:List Int)(d:(List J2)×Int):Option (Q0 ((List J2)×Int) (List J2)):=match d with
 | (c,a)=>if decide (a<(b.length:Int))then if y0 b a then if K0 16 c [(⟨3,gt b a⟩:J2)]then some (.next (c++[(⟨3,gt b a⟩:J2)],W (a+1)))else none else none else some (.done c)
def u0q (F:Nat)(c:List C0)(b:List Int)(f:(List J2)×Int):Option (Q0 ((List J2)×Int) (List J2)):=match f with
 | (d,a)=>if decide (a<(b.length:Int))then .bind (α:=List J2) (if y0 b a then .bind (if decide ((gt b a)<0)then some true else let k:=decide ((W ((gt b a).tdiv 2))>=(c.length:Int));
      some k) fun l=>if l then some d else if y0 c (W ((gt b a).tdiv 2))then .bind (α:=List J2) (if((gt c (W ((gt b a).tdiv 2))).Kind)==7 then if K0 16 d [(⟨W (1+((gt b a).tmod 2)),(gt c (W ((gt b a).tdiv 2))).N⟩:J2)]then let h:=d++[(⟨W (1+((gt b a).tmod 2)),(gt c (W ((gt b a).tdiv 2))).N⟩:J2)];
         some h else none else some d) fun e=>.bind (if((gt c (W ((gt b a).tdiv 2))).Kind)==8 then some (((gt b a).tmod 2)==0)else some false) fun m=>if m then .bind (q0A F c (W ((gt b a).tdiv 2))) fun g=>.bind (α:=List J2) (iter (s0E F g) F (e,0)) fun i=>some i else some e else none else none) fun j=>some (.next (j,W (a+1)))else some (.done d)
def n0z (F:Nat)(a:List C0)(b:Int):Option (List B0):=.bind (U6 F a) fun f=>.bind (if !f then some true else some (decide (b<0))) fun g=>.bind (if g then some true else some (decide (b>=(a.length:Int)))) fun h=>if h then some []else .bind (b0S F a) fun e=>.bind (a0U F a) fun d=>.bind (D6 F F a e d b []) fun c=>some c
def w0t (F:Nat)(b:List Int)(a:Int):Option Bool:=.bind (if decide (a>=0)then some (decide (a<256))else some false) fun c=>.bind (if c then if decide (0<=W (a.tdiv 64))&&decide (W (a.tdiv 64)<4)then if !decide (a.tmod 64<0)then let d:=Q2 .u64 (shr .u64 (gt b (W (a.tdiv 64))) (a.tmod 64)) 1;
     some (d==1)else none else none else some false) fun e=>some e
def L0h (F:Nat):Sm en.D:=⟨80,[.d (.arr 4 (.int .u64)),G3],.d .bool,[],fun a=>w0t F a.1 a.2⟩
def N0E (F:Nat):=V1 [] 80 ⟨[],[],[(1,3,5,⟨[(7,.any),(10,.d .bool)],[]⟩),(1,7,16,⟨[(11,.any),(21,.d .bool)],[]⟩)],[]⟩ F
def J0T (F:Nat)(b:Y1)(c:Int)(h:Int×(Int×(List Int)×(List H4))):Option (Q0 (Int×(Int×(List Int)×(List H4))) (Int×(List Int)×(List H4))):=match h with
 | (a,(f,e,d))=>let j:=decide (a<(((gt b.States c).Edges).length:Int));
 if j then if y0 ((gt b.States c).Edges) a then .bind (j0u F ((gt ((gt b.States c).Edges) a).Src)) fun g=>if K0 32 d [(⟨(gt ((gt b.States c).Edges) a).To,g⟩:H4)]then let i:=d++[(⟨(gt ((gt b.States c).Edges) a).To,g⟩:H4)];
    some (.next (W (a+1),(f,e,i)))else none else none else some (.done (f,e,d))
def s0I (F:Nat)(b:Y1)(m:Int×(Int×(List Int)×(List L3))):Option (Q0 (Int×(Int×(List Int)×(List L3))) (Int×(List Int)×(List L3))):=match m with
 | (a,(h,e,c))=>if decide (a<(b.States.length:Int))then if y0 b.States a then .bind (α:=Int×(List Int)) (same (.bind (j0u F ((gt b.States a).Accept)) fun k=>some ((gt b.States a).Regs,k)) (.bind (j0u F ((gt b.States a).Accept)) fun l=>some ((gt b.States a).Regs,l))) fun(j,i)=>.bind (α:=Int×(List Int)×(List H4)) (iter (J0T F b a) F (0,(j,i,[]))) fun(g,d,f)=>if K0 56 c [(⟨g,d,f⟩:L3)]then let n:=c++[(⟨g,d,f⟩:L3)];
    some (.next (W (a+1),(h,e,n)))else none else none else some (.done (h,e,c))
def J0C (F:Nat)(a:Y1):Option Y1:=.bind (α:=Int×(List Int)) (same (.bind (j0u F a.Class) fun g=>some (a.Tags,g)) (.bind (j0u F a.Class) fun h=>some (a.Tags,h))) fun(e,b)=>.bind (α:=Int×(List Int)×(List L3)) (iter (s0I F a) F (0,(e,b,[]))) fun(f,c,d)=>some (⟨f,c,d⟩:Y1)
def T0s (F:Nat):Sm en.D:=⟨96,[.d (.st 2)],.d (.st 2),[],fun a=>J0C F a⟩
def X0A (F:Nat):=V1 [i0Z F] 96 ⟨[],[(3,⟨[(18,G3)],[(2,.any),(3,.box 25 [G3,.own 3 B2,.own 53 (.st 1)])]⟩,[(.ex 0,⟨[(18,.any)],[(2,.any),(3,.box 25 [G3,.own 3 B2,.own 53 (.st 1)])]⟩)]),(7,⟨[(31,G3)],[(8,.any),(9,.box 53 [G3,.own 3 B2,.own 57 (.st 0)])]⟩,[(.ex 2,⟨[(31,.any)],[(8,.any),(9,.box 53 [G3,.own 3 B2,.own 57 (.st 0)])]⟩)])],[(1,1000004,7,⟨[(3,.box 25 [G3,.own 3 B2,.nil])],[]⟩),(5,1000004,7,⟨[(6,.box 53 [G3,.own 3 B2,.nil])],[]⟩)],[]⟩ F
def J0u (F:Nat)(a:f0L):Option Bool:=.bind (if decide (a.state>=0)then if y0 a.d.States a.state then let b:=(((gt a.d.States a.state).Accept).length:Int);
    some (decide (b>0))else none else some false) fun c=>some c
def S00 (F:Nat):Sm en.D:=⟨89,[.d (.ptr (.st 9))],.d .bool,[],fun a=>J0u F a⟩
def X0r (F:Nat):=V1 [] 89 ⟨[],[],[(1,6,20,⟨[(8,.any),(23,.d .bool)],[]⟩)],[]⟩ F
def L0T (F:Nat)(b:f0L)(a:Int):Option Int:=if a==(-1)then some b.at_ else if a==(-2)then some (-1)else if y0 b.regs a then some (gt b.regs a)else none
def T0O (F:Nat):Sm en.D:=⟨141,[.d (.ptr (.st 9)),G3],G3,[],fun a=>L0T F a.1 a.2⟩
def V0L (F:Nat):=V1 [] 141 G4 F
def J0E (F:Nat)(e:f0L)(b:List Int)(f:(List Int)×Int):Option (Q0 ((List Int)×Int) (List Int)):=match f with
 | (c,a)=>if decide (a<(b.length:Int))then if y0 b a then .bind (L0T F e (gt b a)) fun d=>if K0 8 c [d]then some (.next (c++[d],W (a+1)))else none else none else some (.done c)
def J0z (F:Nat)(a:f0L)(b:List Int):Option (List Int):=.bind (α:=List Int) (iter (J0E F a b) F ([],0)) fun c=>some c
def S0x (F:Nat):Sm en.D:=⟨98,[.d (.ptr (.st 9)),.d (.list B2)],.own 3 B2,[],fun a=>J0z F a.1 a.2⟩
def W0S (F:Nat):=V1 [T0O F] 98 ⟨[],[(3,⟨[(5,.own 3 B2),(10,G3)],[]⟩,[(.ex 0,⟨[(5,.own 3 B2),(10,.any)],[]⟩)])],[],[]⟩ F
def J0R (F:Nat)(a:f0L):Option f0L:=.bind (J0u F a) fun b=>if b then if y0 a.d.States a.state then .bind (J0z F a ((gt a.d.States a.state).Accept)) fun c=>some (⟨(⟨c,a.at_⟩:e0A),a.d,a.at_,a.state,a.work,a.regs⟩:f0L)else none else some a
def S0O (F:Nat):Sm en.D:=⟨97,[.box 86 [.d (.st 9)]],.tup [],[(0,.box 86 [.d (.st 9)])],fun a=>J0R F a⟩
def X0z (F:Nat):=V1 [S00 F,S0x F] 97 G4 F
def F04 (F:Nat)(a:Y1):Option ((Unit⊕f0L)×Int):=.bind (e0X F a) fun d=>if !d then some ((.inl ()),11)else .bind (J0C F a) fun c=>.bind (J0R F (⟨(⟨[],0⟩:e0A),c,0,0,0,[]⟩:f0L)) fun b=>some ((.inr b),0)
def S0F (F:Nat):Sm en.D:=⟨34,[.d (.st 2)],.tup [.alt .nilp (.box 86 [.d (.st 9)]),G3],[],fun a=>F04 F a⟩
def W0M (F:Nat):=V1 [m0p F,T0s F,S0O F] 34 G4 F
def L0J (F:Nat)(a:f0L)(b:Int):Option f0L:=.bind (α:=e0A×Y1×Int×Int×Int×(List Int)) (if decide (a.state>=0)then if y0 a.d.States a.state then if y0 a.d.Class b then if y0 ((gt a.d.States a.state).Edges) (gt a.d.Class b)then let e:=gt ((gt a.d.States a.state).Edges) (gt a.d.Class b);
      .bind (J0z F (⟨a.last,a.d,a.at_,a.state,W (a.work+1),a.regs⟩:f0L) e.Src) fun c=>some (a.last,a.d,a.at_,e.To,W ((W (a.work+1))+(c.length:Int)),c)else none else none else none else some (a.last,a.d,a.at_,a.state,W (a.work+1),a.regs)) fun(i,h,f,k,l,j)=>.bind (J0R F (⟨i,h,W (f+1),k,l,j⟩:f0L)) fun g=>some g
def S02 (F:Nat):Sm en.D:=⟨35,[.box 86 [.d (.st 9)],.d (.int .u8)],.tup [],[(0,.box 86 [.d (.st 9)])],fun a=>L0J F a.1 a.2⟩
def W0i (F:Nat):=V1 [S0O F,S0x F] 35 ⟨[(5,[(.nrm,⟨[],[(0,.box 86 [.d (.st 8),.d (.st 2),G3,G3,G3,.d (.list B2)])]⟩)])],[],[],[]⟩ F
def p0B (F:Nat)(b:List Int)(e:Int×f0L):Option (Q0 (Int×f0L) f0L):=match e with
 | (a,c)=>if decide (a<(b.length:Int))then if y0 b a then .bind (L0J F c (gt b a)) fun d=>some (.next (W (a+1),d))else none else some (.done c)
def J0m (F:Nat)(e:Y1)(h:List Int):Option ((Unit⊕f0L)×Int):=.bind (α:=(Unit⊕f0L)×Int) (.bind (F04 F e) fun(f,b)=>match f with
  | .inl _=>some ((.inl ()),b)
  | .inr g=>some ((.inr g),b)) fun(c,a)=>match c with
 | .inl _=>if a != 0 then some ((.inl ()),a)else none
 | .inr d=>if a != 0 then some ((.inl ()),a)else .bind (α:=f0L) (iter (p0B F h) F (0,d)) fun i=>some ((.inr i),0)
def S0X (F:Nat):Sm en.D:=⟨86,[.d (.st 2),.d (.list (.int .u8))],.tup [.alt .nilp (.box 86 [.d (.st 9)]),G3],[],fun a=>J0m F a.1 a.2⟩
def X0L (F:Nat):=V1 [S0F F,S02 F] 86 ⟨[(2,[(.nrm,⟨[(6,.alt .nilp (.box 86 [.d (.st 9)])),(7,G3)],[]⟩)])],[(5,⟨[(20,G3)],[(1,.box 86 [.d (.st 9)])]⟩,[(.ex 0,⟨[(20,.any)],[(1,.box 86 [.d (.st 9)])]⟩)])],[],[]⟩ F
def J0D (F:Nat)(b:List Int)(i:Int)(g:(List g0p)×Int):Option (Q0 ((List g0p)×Int) (List g0p)):=match g with
 | (c,a)=>if decide (a<(b.length:Int))then .bind (α:=List g0p) (if y0 b a then .bind (α:=Unit⊕Int) (.bind (if decide (a>0)then some ((a.tmod 2)==0)else some false) fun j=>if j then some (.inl ())else if decide (a>0)then if y0 b (W (a+1))then some (.inr (gt b (W (a+1))))else none else some (.inr i)) fun l=>match l with
    | .inl _=>some c
    | .inr d=>.bind (α:=Int×Int) (.bind (if decide ((gt b a)<0)then some true else some (decide (d<0))) fun k=>if k then some ((-1),(-1))else some (gt b a,d)) fun(f,e)=>if K0 16 c [(⟨f,e⟩:g0p)]then some (c++[(⟨f,e⟩:g0p)])else none else none) fun h=>some (.next (h,W (a+1)))else some (.done c)
def K0H (F:Nat)(a:List Int)(c:Int):Option (List g0p):=if((a.length:Int).tmod 2)==0 then some []else .bind (α:=List g0p) (iter (J0D F a c) F ([],0)) fun b=>some b
def T0u (F:Nat):Sm en.D:=⟨101,[.d (.list B2),G3],.own 138 (.st 7),[],fun a=>K0H F a.1 a.2⟩
def X0E (F:Nat):=V1 [] 101 ⟨[(11,[(.ex 1,⟨[],[]⟩),(.nrm,⟨[(8,G3)],[]⟩)]),(13,[(.nrm,⟨[(7,G3),(8,G3)],[]⟩)]),(14,[(.nrm,⟨[(5,.own 138 (.st 7))],[(0,.any)]⟩)])],[(5,⟨[(5,.own 138 (.st 7)),(15,G3)],[]⟩,[(.ex 0,⟨[(5,.own 138 (.st 7)),(15,.any)],[]⟩)])],[(8,3,6,⟨[(24,.any),(28,.d .bool)],[]⟩),(11,3,5,⟨[(39,.any),(42,.d .bool)],[]⟩)],[]⟩ F
def J0j (F:Nat)(a:f0L):Option ((List g0p)×Int):=.bind (α:=(List g0p)×Bool) (if(a.last.tags.length:Int)==0 then some ([],false)else .bind (K0H F a.last.tags a.last.to) fun d=>some (d,true)) fun(c,b)=>if !b then some ([],7)else some (c,0)
def S0I (F:Nat):Sm en.D:=⟨87,[.d (.ptr (.st 9))],.tup [.own 138 (.st 7),G3],[],fun a=>J0j F a⟩
def W0E (F:Nat):J3 en:=⟨[T0u F],fun a=>if Nat.beq a 87 then⟨[(2,[(.nrm,⟨[(4,.own 138 (.st 7)),(5,.d .bool)],[]⟩)])],[],[],[]⟩else if Nat.beq a 41 then G4 else G4,F,[]⟩
def o0J (F:Nat)(g:Y1)(j:List Int):Option ((List g0p)×Int):=.bind (α:=(Unit⊕f0L)×Int) (.bind (J0m F g j) fun(h,b)=>match h with
  | .inl _=>some ((.inl ()),b)
  | .inr i=>some ((.inr i),b)) fun(e,a)=>match e with
 | .inl _=>if a != 0 then some ([],a)else none
 | .inr f=>if a != 0 then some ([],a)else .bind (J0j F f) fun(c,d)=>some (c,d)
def S0E (F:Nat):Sm en.D:=⟨27,[.d (.st 2),.d (.list (.int .u8))],.tup [.own 138 (.st 7),G3],[],fun a=>o0J F a.1 a.2⟩
def W0H (F:Nat):=V1 [S0X F,S0I F] 27 ⟨[(2,[(.nrm,⟨[(6,.alt .nilp (.box 86 [.d (.st 9)])),(7,G3)],[]⟩)])],[],[],[]⟩ F
def B0X (F:Nat)(h:Y1)(k:List Int):Option ((List g0p)×Int):=.bind (α:=(Unit⊕f0L)×Int) (.bind (J0m F h k) fun(i,c)=>match i with
  | .inl _=>some ((.inl ()),c)
  | .inr j=>some ((.inr j),c)) fun(g,a)=>match g with
 | .inl _=>if a != 0 then some ([],a)else none
 | .inr b=>if a != 0 then some ([],a)else .bind (J0u F b) fun d=>if !d then some ([],7)else .bind (J0j F b) fun(e,f)=>some (e,f)
def S0L (F:Nat):Sm en.D:=⟨29,[.d (.st 2),.d (.list (.int .u8))],.tup [.own 138 (.st 7),G3],[],fun a=>B0X F a.1 a.2⟩
def W01 (F:Nat):=V1 [S0X F,S0I F,S00 F] 29 ⟨[(2,[(.nrm,⟨[(6,.alt .nilp (.box 86 [.d (.st 9)])),(7,G3)],[]⟩)])],[],[],[]⟩ F
def K0w (F:Nat)(b:List g0p)(c:List g0p)(d:Int):Option (Q0 Int (Unit⊕Unit)):=match d with
 | a=>if decide (a<(b.length:Int))then if y0 b a then if y0 c a then let e:=!(((gt b a).From==(gt c a).From)&&((gt b a).To==(gt c a).To));
    if e then some (.done (.inl ()))else some (.next (W (a+1)))else none else none else some (.done (.inr ()))
def y04 (F:Nat)(a:List g0p)(b:List g0p):Option Bool:=if(a.length:Int) != (b.length:Int)then some false else .bind (α:=Unit⊕Unit) (iter (K0w F a b) F 0) fun c=>match c with
  | .inl _=>some false
  | .inr _=>some true
def S0C (F:Nat):Sm en.D:=⟨31,[.d (.list (.st 7)),.d (.list (.st 7))],.d .bool,[],fun a=>y04 F a.1 a.2⟩
def V0B (F:Nat):=V1 [] 31 ⟨[],[(4,⟨[(5,G3)],[]⟩,[(.ret,⟨[(4,.kb false),(5,.any)],[]⟩),(.ex 0,⟨[(5,.any)],[]⟩)])],[],[]⟩ F
def M0W (F:Nat):Option (List C0):=some [(⟨2,(-1),(-1),0,[0,8589934592,0,0]⟩:C0),(⟨8,0,(-1),0,[0,0,0,0]⟩:C0),(⟨5,1,(-1),0,[0,0,0,0]⟩:C0)]
def T0L (F:Nat):Sm en.D:=⟨85,[],.own 132 (.st 3),[],fun a=>M0W F⟩
def W0Q (F:Nat):=V1 [] 85 G4 F
def J0K (F:Nat):Option Bool:=.bind (M0W F) fun i=>.bind (a05 F i 0 9) fun(a,m)=>if !([97,97,98]:List Int).isEmpty then .bind (o0J F a [97,97,98]) fun(f,g)=>if !([97,97,98]:List Int).isEmpty then .bind (B0X F a [97,97,98]) fun(n,d)=>.bind (α:=Int) (.bind (F04 F (⟨0,[],[]⟩:Y1)) fun(e,b)=>match e with
    | .inl _=>some b
    | .inr o=>some b) fun c=>.bind (if g==0 then .bind (y04 F f [(⟨0,2⟩:g0p)]) fun h=>some h else some false) fun j=>.bind (if j then some (d==7)else some false) fun k=>.bind (if k then some (c==11)else some false) fun l=>some l else none else none
def S06 (F:Nat):Sm en.D:=⟨26,[],.d .bool,[],fun a=>J0K F⟩
def V03 (F:Nat):=V1 [l0J F,S0E F,S0L F,S0C F,S0F F,T0L F] 26 ⟨[(5,[(.nrm,⟨[(8,G3)],[]⟩)])],[],[(5,3,7,⟨[(35,.any),(40,.d .bool)],[]⟩),(5,9,11,⟨[(41,.any),(44,.d .bool)],[]⟩),(5,13,15,⟨[(45,.any),(48,.d .bool)],[]⟩)],[]⟩ F
def K0K (F:Nat)(a:Int)(b:Int):Option g0p:=.bind (if decide (a<0)then some true else some (decide (b<0))) fun c=>if c then some (⟨(-1),(-1)⟩:g0p)else some (⟨a,b⟩:g0p)
def J0p (F:Nat)(b:List Int)(e:(List g0p)×Int):Option (Q0 ((List g0p)×Int) (List g0p)):=match e with
 | (c,a)=>if decide ((W (a+1))<(b.length:Int))then if y0 b a then if y0 b (W (a+1))then .bind (K0K F (gt b a) (gt b (W (a+1)))) fun d=>if K0 16 c [d]then some (.next (c++[d],W (a+2)))else none else none else none else some (.done c)
def L0K (F:Nat)(a:List Int)(d:Int):Option (List g0p):=if((a.length:Int).tmod 2)==0 then some []else if y0 a 0 then .bind (K0K F (gt a 0) d) fun c=>.bind (α:=List g0p) (iter (J0p F a) F ([c],1)) fun b=>some b else none
def K04 (F:Nat)(a:g0t):Option ((List g0p)×Bool):=if !a.Is then some ([],false)else .bind (L0K F a.Tags a.To) fun b=>some (b,true)
def J0G (F:Nat)(a:g0t)(r:Int×(Y1×Int×Int×(List Int)×(List Int)×Int×Bool×Int)):Option (Q0 (Int×(Y1×Int×Int×(List Int)×(List Int)×Int×Bool×Int)) (Y1×Int×Int×(List Int)×(List Int)×Int×Bool×Int)):=match r with
 | (b,(e,At,g,d,c,h,f,i))=>let s:=(((gt a.D.States a.State).Accept).length:Int);
 if decide (b<s)then .bind (α:=Y1×Int×Int×(List Int)×(List Int)×Int×Bool×Int) (if y0 ((gt a.D.States a.State).Accept) b then let t:=(gt ((gt a.D.States a.State).Accept) b)==(-1);
    if t then if K0 8 c [At]then some (e,At,g,d,c++[At],h,f,i)else none else if y0 ((gt a.D.States a.State).Accept) b then let u:=(gt ((gt a.D.States a.State).Accept) b)==(-2);
      if u then if K0 8 c [(-1)]then some (e,At,g,d,c++[(-1)],h,f,i)else none else if y0 ((gt a.D.States a.State).Accept) b then if y0 d (gt ((gt a.D.States a.State).Accept) b)then let j:=gt d (gt ((gt a.D.States a.State).Accept) b);
         if K0 8 c [j]then some (e,At,g,d,c++[j],h,f,i)else none else none else none else none else none) fun(D2,k,n,m,o,p,l,q)=>some (.next (W (b+1),(D2,k,n,m,o,p,l,q)))else some (.done (e,At,g,d,c,h,f,i))
def K0s (F:Nat)(a:g0t):Option g0t:=.bind (if decide (a.State<0)then some true else if y0 a.D.States a.State then let g:=(((gt a.D.States a.State).Accept).length:Int);
    some (g==0)else none) fun h=>if h then some a else if y0 a.D.States a.State then .bind (α:=Y1×Int×Int×(List Int)×(List Int)×Int×Bool×Int) (iter (J0G F a) F (0,(a.D,a.At,a.State,a.Regs,[],a.To,a.Is,a.Work))) fun(D3,b,d,c,e,j,i,f)=>some (⟨D3,b,d,c,e,b,true,f⟩:g0t)else none
def L0m (F:Nat)(b:Y1):Option g0t:=.bind (K0s F (⟨b,0,0,[],[],0,false,0⟩:g0t)) fun a=>some a
def J00 (F:Nat)(c:g0t)(b:H4)(e:(List Int)×Int):Option (Q0 ((List Int)×Int) (List Int)):=match e with
 | (d,a)=>if decide (a<(b.Src.length:Int))then .bind (α:=List Int) (if y0 b.Src a then if(gt b.Src a)==(-1)then if K0 8 d [c.At]then some (d++[c.At])else none else if y0 b.Src a then if y0 c.Regs (gt b.Src a)then if K0 8 d [gt c.Regs (gt b.Src a)]then some (d++[gt c.Regs (gt b.Src a)])else none else none else none else none) fun f=>some (.next (f,W (a+1)))else some (.done d)
def K09 (F:Nat)(a:g0t)(b:Int):Option g0t:=.bind (α:=Y1×Int×Int×(List Int)×(List Int)×Int×Bool×Int) (if decide (a.State>=0)then if y0 a.D.States a.State then if y0 a.D.Class (W (b))then if y0 ((gt a.D.States a.State).Edges) (gt a.D.Class (W (b)))then let d:=gt ((gt a.D.States a.State).Edges) (gt a.D.Class (W (b)));
      .bind (α:=List Int) (iter (J00 F a d) F ([],0)) fun c=>some (a.D,a.At,d.To,c,a.Tags,a.To,a.Is,W ((W (a.Work+1))+(c.length:Int)))else none else none else none else some (a.D,a.At,a.State,a.Regs,a.Tags,a.To,a.Is,W (a.Work+1))) fun(e,At,h,g,i,j,f,k)=>.bind (K0s F (⟨e,W (At+1),h,g,i,j,f,k⟩:g0t)) fun l=>some l
def J0V (F:Nat)(b:List Int)(d:Int×g0t):Option (Q0 (Int×g0t) g0t):=match d with
 | (a,c)=>if decide (a<(b.length:Int))then if y0 b a then .bind (K09 F c (gt b a)) fun e=>some (.next (W (a+1),e))else none else some (.done c)
def K0n (F:Nat)(a:Y1)(c:List Int):Option g0t:=.bind (L0m F a) fun b=>.bind (α:=g0t) (iter (J0V F c) F (0,b)) fun d=>some d
def L0Y (F:Nat)(a:Y1)(f:List Int):Option ((List g0p)×Int):=.bind (i04 F a) fun d=>if !d then some ([],11)else .bind (K0n F a f) fun e=>.bind (K04 F e) fun(b,c)=>if !c then some ([],7)else some (b,0)
def L07 (F:Nat)(a:Y1)(e:List Int):Option ((List g0p)×Int):=.bind (i04 F a) fun d=>if !d then some ([],11)else .bind (K0n F a e) fun b=>.bind (if decide (b.State<0)then some true else if y0 a.States b.State then let f:=(((gt a.States b.State).Accept).length:Int);
     some (f==0)else none) fun g=>if g then some ([],7)else .bind (K04 F b) fun(c,h)=>some (c,0)
def M0I (F:Nat)(a:Y1)(b:List Int):Option Bool:=.bind (L0p F a) fun k=>.bind (if !k then some true else some (decide ((b.length:Int)>40))) fun p=>if p then .bind (J0K F) fun n=>some n else .bind (o0J F a b) fun(g,h)=>.bind (L0Y F a b) fun(i,j)=>.bind (B0X F a b) fun(c,d)=>.bind (L07 F a b) fun(e,f)=>.bind (y04 F g i) fun l=>.bind (if l then some (h==j)else some false) fun q=>.bind (if q then .bind (y04 F c e) fun m=>some m else some false) fun r=>.bind (if r then some (d==f)else some false) fun s=>.bind (if s then .bind (J0K F) fun o=>some o else some false) fun t=>some t
def Q08 (F:Nat)(a:List C0)(c:List Int):Option Int:=.bind (U6 F a) fun b=>if !b then some 11 else if decide ((c.length:Int)>64)then some 12 else some 0
def S0S (F:Nat):Sm en.D:=⟨90,[.d (.list (.st 3)),.d (.list (.int .u8))],G3,[],fun a=>Q08 F a.1 a.2⟩
def V0q (F:Nat):=V1 [p0M F] 90 G4 F
def A9 (F:Nat)(a:f0r)(b:Int)(c:Int)(d:Int):Option Bool:=if y0 a.Can b then if y0 (gt a.Can b) (W ((W (c*(W (a.N+1))))+d))then let e:=gt (gt a.Can b) (W ((W (c*(W (a.N+1))))+d));
   some e else none else none
def R0V (F:Nat):Sm en.D:=⟨92,[.d (.st 13),G3,G3,G3],.d .bool,[],fun a=>A9 F a.1 a.2.1 a.2.2.1 a.2.2.2⟩
def X0y (F:Nat):=V1 [] 92 G4 F
def S0D (F:Nat)(c:List C0)(e:f0r)(d:Int)(g:Int)(b:Int)(f:Int):Option (Q0 Int (Unit⊕Unit)):=match f with
 | a=>if decide (a<=b)then .bind (A9 F e (gt c d).A g a) fun is=>.bind (if is then .bind (A9 F e (gt c d).B a b) fun h=>some h else some false) fun i=>if i then some (.done (.inl ()))else some (.next (W (a+1)))else some (.done (.inr ()))
def S0P (F:Nat)(i:List C0)(d:f0r)(c:Int)(f:Int)(b:Int)(e:Int):Option (Q0 Int (Unit⊕Unit)):=match e with
 | a=>if decide (a<=b)then .bind (A9 F d (gt i c).A f a) fun g=>.bind (if g then .bind (A9 F d c a b) fun h=>some h else some false) fun j=>if j then some (.done (.inl ()))else some (.next (W (a+1)))else some (.done (.inr ()))
def S0c (F:Nat)(b:List C0)(g:List Int)(e:f0r)(c:Int)(a:Int)(d:Int):Option Bool:=if y0 b c then if((gt b c).Kind)==1 then some (a==d)else if((gt b c).Kind)==2 then .bind (if d==(W (a+1))then if y0 g a then .bind (w0t F (gt b c).Set (W (gt g a))) fun h=>some h else none else some false) fun m=>some m else if((gt b c).Kind)==3 then .bind (α:=Unit⊕Unit) (iter (S0D F b e c a d) F a) fun f=>match f with
     | .inl _=>some true
     | .inr _=>some false else if((gt b c).Kind)==4 then .bind (A9 F e (gt b c).A a d) fun i=>.bind (if i then some true else .bind (A9 F e (gt b c).B a d) fun j=>some j) fun n=>some n else if((gt b c).Kind)==5 then if a==d then some true else .bind (α:=Unit⊕Unit) (iter (S0P F b e c a d) F (W (a+1))) fun f=>match f with
        | .inl _=>some true
        | .inr _=>some false else if((gt b c).Kind)==6 then .bind (if a==d then some true else .bind (A9 F e (gt b c).A a d) fun k=>some k) fun o=>some o else .bind (A9 F e (gt b c).A a d) fun l=>some l else none
def T0K (F:Nat):Sm en.D:=⟨140,[.d (.list (.st 3)),.d (.list (.int .u8)),.d (.st 13),G3,G3,G3],.d .bool,[],fun a=>S0c F a.1 a.2.1 a.2.2.1 a.2.2.2.1 a.2.2.2.2.1 a.2.2.2.2.2⟩
def X0x (F:Nat):=V1 [L0h F,R0V F] 140 ⟨[],[(20,⟨[(15,G3)],[]⟩,[(.ret,⟨[(12,.kb true),(15,.any)],[]⟩),(.ex 3,⟨[(15,.any)],[]⟩)]),(9,⟨[(14,G3)],[]⟩,[(.ret,⟨[(12,.kb true),(14,.any)],[]⟩),(.ex 1,⟨[(14,.any)],[]⟩)])],[(6,5,13,⟨[(33,.any),(42,.d .bool)],[]⟩),(11,7,13,⟨[(57,.any),(64,.d .bool)],[]⟩),(15,7,13,⟨[(73,.any),(80,.d .bool)],[]⟩),(22,7,12,⟨[(99,.any),(105,.d .bool)],[]⟩),(26,4,10,⟨[(111,.any),(118,.d .bool)],[]⟩)],[]⟩ F
def S0b (F:Nat)(g:List C0)(j:List Int)(c:Int)(d:Int)(e:Int)(f:Int×(List (List Bool))):Option (Q0 (Int×(List (List Bool))) (List (List Bool))):=match f with
 | (b,a)=>if decide (b<=d)then if y0 a c then .bind (S0c F g j (⟨d,a⟩:f0r) c e b) fun h=>if y0 (gt a c) (W ((W (e*(W (d+1))))+b))then let i:=a.set c.toNat ((gt a c).set (W ((W (e*(W (d+1))))+b)).toNat h);
    some (.next (W (b+1),i))else none else none else some (.done a)
def S0f (F:Nat)(e:List C0)(g:List Int)(f:Int)(c:Int)(d:Int×(List (List Bool))):Option (Q0 (Int×(List (List Bool))) (List (List Bool))):=match d with
 | (a,b)=>if decide (a>=0)then .bind (α:=List (List Bool)) (iter (S0b F e g f c a) F (a,b)) fun h=>some (.next (W (a-1),h))else some (.done b)
def S0W (F:Nat)(d:List C0)(g:List Int)(e:(Int×(Int×(List (List Bool))))):Option (Q0 (Int×(Int×(List (List Bool)))) (Int×(List (List Bool)))):=match e with
 | (c,(a,b))=>if decide (c<(d.length:Int))then if R2 1 (W ((W (a+1))*(W (a+1))))then if K0 24 b [(List.replicate (W ((W (a+1))*(W (a+1)))).toNat false:List Bool)]then let f:=b++[(List.replicate (W ((W (a+1))*(W (a+1)))).toNat false:List Bool)];
    .bind (α:=List (List Bool)) (iter (S0f F d g c a) F (a,f)) fun h=>some (.next (W (c+1),(a,h)))else none else none else some (.done (a,b))
def R0I (F:Nat)(c:List C0)(a:List Int):Option f0r:=.bind (α:=Int×(List (List Bool))) (iter (S0W F c a) F (0,((a.length:Int),[]))) fun(N2,b)=>some (⟨N2,b⟩:f0r)
def S0A (F:Nat):Sm en.D:=⟨91,[.d (.list (.st 3)),.d (.list (.int .u8))],.d (.st 13),[],fun a=>R0I F a.1 a.2⟩
def V0V (F:Nat):=V1 [T0K F] 91 ⟨[],[(10,⟨[(8,G3)],[(6,.X0 28 [4] (.list .bool))]⟩,[(.ex 4,⟨[(8,.any)],[(6,.X0 28 [4] (.list .bool))]⟩)]),(3,⟨[(6,G3)],[(1,.box 145 [G3,.X0 28 [4] (.list .bool)])]⟩,[(.ex 0,⟨[(6,.any)],[(1,.box 145 [G3,.X0 28 [4] (.list .bool)])]⟩)]),(7,⟨[(7,G3)],[(6,.X0 28 [4] (.list .bool))]⟩,[(.ex 2,⟨[(7,.any)],[(6,.X0 28 [4] (.list .bool))]⟩)])],[],[28]⟩ F
def S0h (F:Nat)(c:Int×(List g0p)):Option (Q0 (Int×(List g0p)) (List g0p)):=match c with
 | (a,b)=>if decide (a<(b.length:Int))then if y0 b a then some (.next (W (a+1),b.set a.toNat (⟨(-1),(-1)⟩:g0p)))else none else some (.done b)
def S0d (F:Nat)(b:List Int)(d:Int×(List g0p)):Option (Q0 (Int×(List g0p)) (List g0p)):=match d with
 | (a,c)=>if decide (a<(b.length:Int))then if y0 b a then if y0 c (gt b a)then let e:=c.set (gt b a).toNat (⟨(-1),(-1)⟩:g0p);
    some (.next (W (a+1),e))else none else none else some (.done c)
def Q0V (F:Nat)(c:List C0)(b:List g0A)(f:Int×(List g0p)):Option (Q0 (Int×(List g0p)) (List g0p)):=match f with
 | (a,d)=>if decide (a<(b.length:Int))then .bind (α:=List g0p) (if y0 b a then .bind (if decide ((gt b a).Node<0)then some true else some (decide ((gt b a).Node>=(c.length:Int)))) fun i=>if i then some d else .bind (α:=List g0p) (if y0 c ((gt b a).Node)then if((gt c (gt b a).Node).Kind)==7 then if y0 c ((gt b a).Node)then if y0 b a then if y0 b a then if y0 d ((gt c (gt b a).Node).N)then let h:=d.set ((gt c (gt b a).Node).N).toNat (⟨(gt b a).From,(gt b a).To⟩:g0p);
            some h else none else none else none else none else some d else none) fun e=>if y0 c ((gt b a).Node)then if((gt c (gt b a).Node).Kind)==8 then .bind (q0A F c (gt b a).Node) fun g=>.bind (α:=List g0p) (iter (S0d F g) F (0,e)) fun j=>some j else some e else none else none) fun k=>some (.next (W (a+1),k))else some (.done d)
def Q0R (F:Nat)(b:List C0)(a:List g0A):Option (List g0p):=.bind (U6 F b) fun f=>if !f then some []else .bind (K0j F b) fun d=>if R2 16 (W (d+1))then .bind (α:=List g0p) (iter (S0h F) F (0,(List.replicate (W (d+1)).toNat (⟨0,0⟩:g0p):List g0p))) fun c=>.bind (α:=List g0p) (if decide ((a.length:Int)>0)then if y0 a 0 then if y0 a 0 then if y0 c 0 then let e:=c.set (0:Int).toNat (⟨(gt a 0).From,(gt a 0).To⟩:g0p);
        some e else none else none else none else some c) fun g=>.bind (α:=List g0p) (iter (Q0V F b a) F (0,g)) fun h=>some h else none
def S0K (F:Nat):Sm en.D:=⟨93,[.d (.list (.st 3)),.d (.list (.st 14))],.own 138 (.st 7),[],fun a=>Q0R F a.1 a.2⟩
def W0T (F:Nat):=V1 [p0M F,L0e F,K05 F] 93 ⟨[(10,[(.nrm,⟨[],[(0,.own 138 (.st 7))]⟩)]),(12,[(.nrm,⟨[],[(0,.own 138 (.st 7))]⟩)]),(17,[(.nrm,⟨[],[(0,.own 138 (.st 7))]⟩)])],[(11,⟨[(7,G3)],[(0,.own 138 (.st 7))]⟩,[(.ex 2,⟨[(7,.any)],[(0,.own 138 (.st 7))]⟩)]),(20,⟨[(10,G3)],[(0,.own 138 (.st 7))]⟩,[(.ex 4,⟨[(10,.any)],[(0,.own 138 (.st 7))]⟩)]),(5,⟨[(6,G3)],[(0,.own 138 (.st 7))]⟩,[(.ex 0,⟨[(6,.any)],[(0,.own 138 (.st 7))]⟩)])],[(14,3,7,⟨[(55,.any),(60,.d .bool)],[]⟩)],[]⟩ F
def S03 (F:Nat)(b:List C0)(d:f0r)(c:Int)(f:Int)(h:Int)(e:Int):Option (Q0 Int Int):=match e with
 | a=>.bind (A9 F d (gt b c).A f a) fun is=>.bind (if !is then some true else .bind (A9 F d (gt b c).B a h) fun g=>some (!g)) fun i=>if i then some (.next (W (a-1)))else some (.done a)
def T0E (F:Nat)(i:List C0)(c:f0r)(b:Int)(h:Int)(e:Int)(d:Int):Option (Q0 Int Int):=match d with
 | a=>.bind (A9 F c (gt i b).A e a) fun f=>.bind (if !f then some true else .bind (A9 F c b a h) fun g=>some (!g)) fun j=>if j then some (.next (W (a-1)))else some (.done a)
def S0g (F:Nat)(T0b:(List C0)->f0r->Int->Int->Int->Int->Option (List g0A))(c:List C0)(h:f0r)(g:Int)(j:Int)(b:Int)(i:Int×(List g0A)):Option (Q0 (Int×(List g0A)) (List g0A)):=match i with
 | (a,d)=>if decide (a<b)then .bind (α:=Int) (iter (T0E F c h g b a) F b) fun f=>.bind (T0b c h (gt c g).A (W (j+1)) a f) fun e=>if K0 32 d e then some (.next (f,d++e))else none else some (.done d)
def a0O (F:Nat):Nat->(List C0)->f0r->Int->Int->Int->Int->Option (List g0A)
 | 0,_,_,_,_,_,_=>none
 | g+1,d,f,a,e,c,b=>if y0 d a then if((gt d a).Kind)==3 then .bind (α:=Int) (iter (S03 F d f a c b) F b) fun n=>.bind (a0O F g d f (gt d a).A (W (e+1)) c n) fun h=>if K0 32 [(⟨e,a,c,b⟩:g0A)] h then .bind (a0O F g d f (gt d a).B (W (e+1)) n b) fun i=>if K0 32 ([(⟨e,a,c,b⟩:g0A)]++h) i then let p:=([(⟨e,a,c,b⟩:g0A)]++h)++i;
     some p else none else none else if((gt d a).Kind)==4 then .bind (A9 F f (gt d a).A c b) fun o=>if o then .bind (a0O F g d f (gt d a).A (W (e+1)) c b) fun j=>if K0 32 [(⟨e,a,c,b⟩:g0A)] j then some ([(⟨e,a,c,b⟩:g0A)]++j)else none else .bind (a0O F g d f (gt d a).B (W (e+1)) c b) fun k=>if K0 32 [(⟨e,a,c,b⟩:g0A)] k then some ([(⟨e,a,c,b⟩:g0A)]++k)else none else if((gt d a).Kind)==5 then .bind (α:=List g0A) (iter (S0g F (a0O F g) d f a e b) F (c,[(⟨e,a,c,b⟩:g0A)])) fun q=>some q else if((gt d a).Kind)==6 then if decide (c<b)then .bind (a0O F g d f (gt d a).A (W (e+1)) c b) fun l=>if K0 32 [(⟨e,a,c,b⟩:g0A)] l then some ([(⟨e,a,c,b⟩:g0A)]++l)else none else some [(⟨e,a,c,b⟩:g0A)]else .bind (if((gt d a).Kind)==7 then some ((gt d a).Kind==7)else some ((gt d a).Kind==8)) fun r=>if r then .bind (a0O F g d f (gt d a).A (W (e+1)) c b) fun m=>if K0 32 [(⟨e,a,c,b⟩:g0A)] m then some ([(⟨e,a,c,b⟩:g0A)]++m)else none else some [(⟨e,a,c,b⟩:g0A)]else none
def S0q (F b:Nat):Sm en.D:=⟨94,[.d (.list (.st 3)),.d (.st 13),G3,G3,G3,G3],.own 195 (.st 14),[],fun a=>a0O F b a.1 a.2.1 a.2.2.1 a.2.2.2.1 a.2.2.2.2.1 a.2.2.2.2.2⟩
def W0y (F a:Nat):=V1 [R0V F,S0q F a] 94 ⟨[(28,[(.nrm,⟨[(155,.d .bool)],[]⟩)])],[(15,⟨[(4,G3),(14,.own 195 (.st 14))],[(2,.any)]⟩,[(.ex 3,⟨[(4,.any),(14,.own 195 (.st 14))],[(2,.any)]⟩)]),(17,⟨[(16,G3)],[]⟩,[(.ex 5,⟨[(16,G3)],[]⟩)]),(6,⟨[(15,G3)],[]⟩,[(.ex 1,⟨[(15,G3)],[]⟩)])],[(6,8,15,⟨[(39,.any),(47,.d .bool)],[]⟩),(17,8,14,⟨[(115,.any),(122,.d .bool)],[]⟩)],[]⟩ F
def J0X (F:Nat)(b:List C0)(d:f0r)(c:Int)(e:Int):Option (Q0 Int (((List g0p)×Int)⊕Unit)):=match e with
 | a=>if decide (a>=c)then .bind (A9 F d (W ((b.length:Int)-1)) c a) fun is=>if is then .bind (a0O F F b d (W ((b.length:Int)-1)) 1 c a) fun f=>.bind (Q0R F b f) fun g=>some (.done (.inl (g,0)))else some (.next (W (a-1)))else some (.done (.inr ()))
def K0R (F:Nat)(d:List C0)(b:List Int)(e:f0r)(c:Int):Option (Q0 Int (((List g0p)×Int)⊕Unit)):=match c with
 | a=>if decide (a<=(b.length:Int))then .bind (α:=((List g0p)×Int)⊕Unit) (iter (J0X F d e a) F (b.length:Int)) fun h=>match h with
  | .inl (f,g)=>some (.done (.inl (f,g)))
  | .inr _=>some (.next (W (a+1)))else some (.done (.inr ()))
def L0O (F:Nat)(a:List C0)(b:List Int):Option ((List g0p)×Int):=.bind (Q08 F a b) fun c=>if c != 0 then some ([],c)else .bind (R0I F a b) fun d=>.bind (α:=((List g0p)×Int)⊕Unit) (iter (K0R F a b d) F 0) fun g=>match g with
  | .inl (e,f)=>some (e,f)
  | .inr _=>some ([],7)
def T0G (F:Nat):Sm en.D:=⟨32,[.d (.list (.st 3)),.d (.list (.int .u8))],.tup [.own 138 (.st 7),G3],[],fun a=>L0O F a.1 a.2⟩
def X0j (F:Nat):=V1 [S0S F,S0A F,R0V F,S0K F,S0q F F] 32 ⟨[],[(6,⟨[(8,G3)],[]⟩,[(.ret,⟨[(4,.own 138 (.st 7)),(5,G3),(8,.any)],[]⟩),(.ex 0,⟨[(8,.any)],[]⟩)]),(9,⟨[(9,G3)],[]⟩,[(.ret,⟨[(4,.own 138 (.st 7)),(5,G3),(9,.any)],[]⟩),(.ex 2,⟨[(9,.any)],[]⟩)])],[],[]⟩ F
def S0t (F:Nat)(a:List C0)(b:List Int):Option ((List g0A)×Int):=.bind (Q08 F a b) fun c=>if c != 0 then some ([],c)else .bind (R0I F a b) fun d=>.bind (A9 F d (W ((a.length:Int)-1)) 0 (b.length:Int)) fun is=>if !is then some ([],7)else .bind (a0O F F a d (W ((a.length:Int)-1)) 1 0 (b.length:Int)) fun e=>some (e,0)
def S08 (F:Nat):Sm en.D:=⟨95,[.d (.list (.st 3)),.d (.list (.int .u8))],.tup [.own 195 (.st 14),G3],[],fun a=>S0t F a.1 a.2⟩
def W0Y (F:Nat):=V1 [S0S F,S0A F,R0V F,S0q F F] 95 G4 F
def R03 (F:Nat)(a:List C0)(e:List Int):Option ((List g0p)×Int):=.bind (S0t F a e) fun(d,b)=>if b != 0 then some ([],b)else .bind (Q0R F a d) fun c=>some (c,0)
def S07 (F:Nat):Sm en.D:=⟨33,[.d (.list (.st 3)),.d (.list (.int .u8))],.tup [.own 138 (.st 7),G3],[],fun a=>R03 F a.1 a.2⟩
def W0z (F:Nat):=V1 [S0K F,S08 F] 33 G4 F
def T0n (F:Nat)(a:List C0)(b:List Int):Option Bool:=.bind (if decide ((a.length:Int)>24)then some true else some (decide ((b.length:Int)>24))) fun t=>if t then .bind (J0K F) fun r=>some r else .bind (a05 F a 0 40) fun(d,e)=>.bind (α:=Unit⊕Unit) (if e==0 then .bind (o0J F d b) fun(n,o)=>.bind (L0O F a b) fun(h,i)=>.bind (y04 F n h) fun p=>.bind (if !p then some true else some (o != i)) fun u=>if u then some (.inl ())else some (.inr ())else some (.inr ())) fun c=>match c with
  | .inl _=>some false
  | .inr _=>.bind (a05 F a 1 40) fun(f,g)=>.bind (α:=Unit⊕Unit) (if g==0 then .bind (B0X F f b) fun(j,k)=>.bind (R03 F a b) fun(l,m)=>.bind (y04 F j l) fun q=>.bind (if !q then some true else some (k != m)) fun v=>if v then some (.inl ())else some (.inr ())else some (.inr ())) fun c=>match c with
   | .inl _=>some false
   | .inr _=>.bind (J0K F) fun s=>some s
def U0F (F:Nat):Sm en.D:=⟨8,[.d (.list (.st 3)),.d (.list (.int .u8))],.d .bool,[],fun a=>T0n F a.1 a.2⟩
def W0X (F:Nat):=V1 [l0J F,S06 F,S0E F,S0L F,S0C F,T0G F,S07 F] 8 ⟨[(15,[(.ret,⟨[(4,.kb false)],[]⟩),(.nrm,⟨[],[]⟩)]),(9,[(.ret,⟨[(4,.kb false)],[]⟩),(.nrm,⟨[],[]⟩)])],[],[(1,4,7,⟨[(20,.any),(24,.d .bool)],[]⟩),(7,5,8,⟨[(49,.any),(53,.d .bool)],[]⟩),(13,5,8,⟨[(77,.any),(81,.d .bool)],[]⟩)],[]⟩ F
