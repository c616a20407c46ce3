/- P. Its conditions: none. -/
import Derived.Test.YtbccffnofdnpoaaGreatAEn
import Derived.Test.YtbccffnofdnpoaaGreatAX17
import Derived.Test.YtbccffnofdnpoaaGreatAX14
import Derived.Test.YtbccffnofdnpoaaGreatAVKey
set_option linter.all false
set_option maxRecDepth 100000
noncomputable section
namespace Go.Proofs.YtbccffnofdnpoaaGreat
open Go.V Go.RowKit Go.X
abbrev N':U:=.int .i64
abbrev G':Sh:=.d N'
def k0f (F:Nat)(b:List a0u)(d:Int×Int):Option (X0 (Int×Int) (Unit⊕Int)):=match d with
 | (c,a)=>if decide (a<(b.length:Int))then if C0 b a then if decide ((((gt b a).B).length:Int)>24)then some (.done (.inl ()))else if C0 b a then some (.next (W (c+(((gt b a).B).length:Int)),W (a+1)))else none else none else some (.done (.inr c))
def k0U (F:Nat)(a:List a0u):Option Bool:=if decide ((a.length:Int)>20)then some false else .bind (α:=Unit⊕Int) (iter (k0f F a) F (0,0)) fun c=>match c with
  | .inl _=>some false
  | .inr b=>some (decide (b<=24))
abbrev U2:Ann:=⟨[],[],[],[]⟩
abbrev E1 (l:List (Sm en.D))(n:Nat)(a:Ann)(F:Nat):P3 en:=⟨l,fun g=>if Nat.beq g n then a else U2,F,[]⟩
def o01 (F:Nat):Sm en.D:=⟨4,[.d (.list (.st 1))],.d .bool,[],fun a=>k0U F a⟩
def K0S (F:Nat):=E1 [] 4 ⟨[],[(5,⟨[(3,G'),(4,G')],[]⟩,[(.ret,⟨[(2,.kb false),(3,.any),(4,.any)],[]⟩),(.ex 0,⟨[(3,G'),(4,.any)],[]⟩)])],[],[]⟩ F
def k08 (F:Nat)(a:Int):Option (Bool×Bool):=.bind (if decide (a>=3)then some (decide (a<=8))else some false) fun b=>.bind (if a==3 then some true else some (a==4)) fun c=>some (b,c)
def p0j (F:Nat):Sm en.D:=⟨32,[G'],.tup [.d .bool,.d .bool],[],fun a=>k08 F a⟩
def B0R (F:Nat):=E1 [] 32 ⟨[],[],[(1,3,5,⟨[(6,.any),(9,.d .bool)],[]⟩),(1,9,11,⟨[(12,.any),(15,.d .bool)],[]⟩)],[]⟩ F
def g0N (F:Nat)(b:List D0)(c:Int)(d:Int):Option (X0 Int (Unit⊕Unit)):=match d with
 | a=>if decide (a<c)then .bind (if((gt b c).Kind)==7 then if C0 b a then some ((gt b a).Kind==7)else none else some false) fun e=>.bind (if e then if C0 b a then some ((gt b a).N==(gt b c).N)else none else some false) fun f=>if f then some (.done (.inl ()))else some (.next (W (a+1)))else some (.done (.inr ()))
def h0L (F:Nat)(b:List D0)(j:Int×Int×(List Int)):Option (X0 (Int×Int×(List Int)) (Unit⊕(Int×(List Int)))):=match j with
 | (f,a,c)=>if decide (a<(b.length:Int))then if C0 b a then .bind (k08 F (gt b a).Kind) fun(h,i)=>if C0 c a then .bind (if decide ((gt b a).Kind<1)then some true else some (decide ((gt b a).Kind>8))) fun m=>.bind (if m then some true else .bind (if((gt b a).Kind) != 2 then let r:=!(((gt (gt b a).Set 0)==0)&&(((gt (gt b a).Set 1)==0)&&(((gt (gt b a).Set 2)==0)&&((gt (gt b a).Set 3)==0))));
        some r else some false) fun s=>some s) fun t=>.bind (if t then some true else .bind (if((gt b a).Kind) != 7 then some ((gt b a).N != 0)else some false) fun u=>some u) fun v=>.bind (if v then some true else .bind (if((gt b a).Kind)==7 then if decide ((gt b a).N<1)then some true else some (decide ((gt b a).N>9))else some false) fun w=>some w) fun x=>if x then some (.done (.inl ()))else .bind (if !h then some ((gt b a).A != (-1))else some false) fun y=>.bind (if y then some true else .bind (if !i then some ((gt b a).B != (-1))else some false) fun n=>some n) fun o=>if o then some (.done (.inl ()))else .bind (α:=Int) (if((gt b a).Kind)==2 then some (W (f+1))else some f) fun l=>.bind (α:=Unit⊕Int) (if i then .bind (if((gt b a).B) != (W (a-1))then some true else some (decide ((W (a-1))<0))) fun p=>if p then some (.inl ())else if C0 (c.set a.toNat a) (W (a-1))then some (.inr (W ((gt (c.set a.toNat a) (W (a-1)))-1)))else none else some (.inr (W (a-1)))) fun d=>match d with
      | .inl _=>some (.done (.inl ()))
      | .inr e=>.bind (α:=Unit⊕(List Int)) (if h then .bind (if((gt b a).A) != e then some true else some (decide (e<0))) fun q=>if q then some (.inl ())else if C0 (c.set a.toNat a) e then if C0 (c.set a.toNat a) a then let k:=(c.set a.toNat a).set a.toNat (gt (c.set a.toNat a) e);
            some (.inr k)else none else none else some (.inr (c.set a.toNat a))) fun d=>match d with
       | .inl _=>some (.done (.inl ()))
       | .inr g=>if C0 g a then .bind (α:=Unit⊕Unit) (iter (g0N F b a) F (gt g a)) fun d=>match d with
         | .inl _=>some (.done (.inl ()))
         | .inr _=>some (.next (l,W (a+1),g))else none else none else none else some (.done (.inr (f,c)))
def m06 (F:Nat)(a:List D0):Option (Unit⊕(List Int)):=if F4 8 (a.length:Int)then .bind (α:=Unit⊕(Int×(List Int))) (iter (h0L F a) F (0,0,(List.replicate (a.length:Int).toNat 0:List Int))) fun g=>match g with
  | .inl _=>some (.inl ())
  | .inr (c,b)=>.bind (if(a.length:Int)==0 then some true else some (decide ((a.length:Int)>400))) fun d=>.bind (if d then some true else some (decide (c>64))) fun e=>.bind (if e then some true else if C0 b (W ((a.length:Int)-1))then some ((gt b (W ((a.length:Int)-1))) != 0)else none) fun f=>if f then some (.inl ())else some (.inr b)else none
def o0I (F:Nat):Sm en.D:=⟨15,[.d (.list (.st 0))],.alt .nil (.own 3 N'),[],fun a=>m06 F a⟩
def E0y (F:Nat):=E1 [p0j F] 15 ⟨[(15,[(.nrm,⟨[(4,G')],[]⟩)]),(20,[(.ret,⟨[(2,.nil)],[]⟩),(.nrm,⟨[(9,G')],[]⟩)]),(24,[(.ret,⟨[(2,.nil)],[]⟩),(.nrm,⟨[],[(0,.own 3 N')]⟩)])],[(25,⟨[(10,G')],[]⟩,[(.ret,⟨[(2,.nil),(10,.any)],[]⟩),(.ex 2,⟨[(10,.any)],[]⟩)]),(4,⟨[(4,G'),(5,G')],[(0,.own 3 N')]⟩,[(.ret,⟨[(2,.nil),(4,.any),(5,.any)],[(0,.any)]⟩),(.ex 0,⟨[(4,G'),(5,.any)],[(0,.own 3 N')]⟩)])],[(9,4,7,⟨[(37,.any),(41,.d .bool)],[]⟩),(9,9,18,⟨[(42,.any),(52,.d .bool)],[]⟩),(9,13,17,⟨[(46,.any),(51,.d .bool)],[]⟩),(9,20,28,⟨[(53,.any),(62,.d .bool)],[]⟩),(9,24,27,⟨[(57,.any),(61,.d .bool)],[]⟩),(9,30,43,⟨[(63,.any),(77,.d .bool)],[]⟩),(9,34,42,⟨[(67,.any),(76,.d .bool)],[]⟩),(11,3,6,⟨[(80,.any),(84,.d .bool)],[]⟩),(11,8,15,⟨[(85,.any),(93,.d .bool)],[]⟩),(11,11,14,⟨[(88,.any),(92,.d .bool)],[]⟩),(17,5,7,⟨[(106,.any),(109,.d .bool)],[]⟩),(21,5,7,⟨[(120,.any),(123,.d .bool)],[]⟩),(27,4,10,⟨[(143,.any),(150,.d .bool)],[]⟩),(27,12,20,⟨[(151,.any),(160,.d .bool)],[]⟩),(29,4,7,⟨[(164,.any),(168,.d .bool)],[]⟩),(29,9,11,⟨[(169,.any),(172,.d .bool)],[]⟩),(29,13,20,⟨[(173,.any),(181,.d .bool)],[]⟩)],[]⟩ F
def g0l (F:Nat)(a:List D0):Option Bool:=.bind (m06 F a) fun b=>match b with
 | .inl _=>some false
 | .inr c=>if !c.isEmpty then some true else none
def r0D (F:Nat):Sm en.D:=⟨5,[.d (.list (.st 0))],.d .bool,[],fun a=>g0l F a⟩
def E0n (F:Nat):=E1 [o0I F] 5 U2 F
def k0M (F:Nat)(b:List D0)(c:List Int)(a:Int):Option Int:=if C0 b a then .bind (α:=Int⊕Unit) (.bind (if((gt b a).Kind)==1 then some ((gt b a).Kind==1)else some ((gt b a).Kind==2)) fun d=>if d then .bind (if((gt b a).A)==(-1)then some ((gt b a).B==(-1))else some false) fun g=>if g then some (.inl a)else some (.inr ())else .bind (if((gt b a).Kind)==3 then some ((gt b a).Kind==3)else some ((gt b a).Kind==4)) fun h=>if h then .bind (if decide ((gt b a).B>=0)then some ((gt b a).B==(W (a-1)))else some false) fun i=>.bind (if i then some (decide ((gt b a).A>=0))else some false) fun j=>.bind (if j then if C0 c ((gt b a).B)then let k:=(gt b a).A==(W ((gt c (gt b a).B)-1));
        some k else none else some false) fun l=>if l then if C0 c ((gt b a).A)then some (.inl (gt c (gt b a).A))else none else some (.inr ())else .bind (if((gt b a).Kind)==5 then some ((gt b a).Kind==5)else if((gt b a).Kind)==6 then some ((gt b a).Kind==6)else if((gt b a).Kind)==7 then some ((gt b a).Kind==7)else some ((gt b a).Kind==8)) fun m=>if m then .bind (if((gt b a).B)==(-1)then some (decide ((gt b a).A>=0))else some false) fun n=>.bind (if n then some ((gt b a).A==(W (a-1)))else some false) fun e=>if e then if C0 c ((gt b a).A)then some (.inl (gt c (gt b a).A))else none else some (.inr ())else some (.inr ())) fun o=>match o with
  | .inl f=>some f
  | .inr _=>some (-1)else none
def q0N (F:Nat):Sm en.D:=⟨86,[.d (.list (.st 0)),.d (.list N'),G'],G',[],fun a=>k0M F a.1 a.2.1 a.2.2⟩
def C06 (F:Nat):=E1 [] 86 ⟨[(15,[(.nrm,⟨[(60,.d .bool)],[]⟩)]),(17,[(.ret,⟨[(6,G')],[]⟩),(.nrm,⟨[],[]⟩)]),(5,[(.nrm,⟨[(14,.d .bool)],[]⟩)]),(9,[(.nrm,⟨[(26,.d .bool)],[]⟩)])],[],[(5,4,7,⟨[(20,.any),(24,.d .bool)],[]⟩),(9,4,9,⟨[(32,.any),(38,.d .bool)],[]⟩),(9,11,14,⟨[(39,.any),(43,.d .bool)],[]⟩),(9,16,25,⟨[(44,.any),(54,.d .bool)],[]⟩),(15,4,7,⟨[(68,.any),(72,.d .bool)],[]⟩),(15,9,14,⟨[(73,.any),(79,.d .bool)],[]⟩)],[]⟩ F
def o0k (F:Nat)(a:D0):Option Bool:=.bind (if a.Kind != 2 then let b:=!(((gt a.Set 0)==0)&&(((gt a.Set 1)==0)&&(((gt a.Set 2)==0)&&((gt a.Set 3)==0))));
   some b else some false) fun c=>if c then some false else if a.Kind==7 then .bind (if decide (a.N>=1)then some (decide (a.N<=9))else some false) fun d=>some d else some (a.N==0)
def s01 (F:Nat):Sm en.D:=⟨87,[.d (.st 0)],.d .bool,[],fun a=>o0k F a⟩
def G0L (F:Nat):=E1 [] 87 ⟨[],[],[(1,4,8,⟨[(6,.any),(11,.d .bool)],[]⟩),(4,4,7,⟨[(18,.any),(22,.d .bool)],[]⟩)],[]⟩ F
def i0x (F:Nat)(c:D0)(b:List D0)(d:Int):Option (X0 Int (Unit⊕Unit)):=match d with
 | a=>if decide (a<(b.length:Int))then if C0 b a then .bind (if c.Kind==7 then some ((gt b a).Kind==7)else some false) fun e=>.bind (if e then some ((gt b a).N==c.N)else some false) fun f=>if f then some (.done (.inl ()))else some (.next (W (a+1)))else none else some (.done (.inr ()))
def l0S (F:Nat)(b:D0)(a:List D0):Option Bool:=.bind (α:=Unit⊕Unit) (iter (i0x F b a) F 0) fun c=>match c with
 | .inl _=>some true
 | .inr _=>some false
def s0N (F:Nat):Sm en.D:=⟨88,[.d (.st 0),.d (.list (.st 0))],.d .bool,[],fun a=>l0S F a.1 a.2⟩
def J0M (F:Nat):=E1 [] 88 ⟨[],[(2,⟨[(9,G')],[]⟩,[(.ret,⟨[(4,.kb true),(9,.any)],[]⟩),(.ex 0,⟨[(9,.any)],[]⟩)])],[(4,4,7,⟨[(16,.any),(20,.d .bool)],[]⟩),(4,9,14,⟨[(21,.any),(27,.d .bool)],[]⟩)],[]⟩ F
def j0l (F:Nat)(b:List D0)(g:(List Int)×Int×Int):Option (X0 ((List Int)×Int×Int) (Unit⊕((List Int)×Int))):=match g with
 | (d,e,a)=>if decide (a<(b.length:Int))then if C0 b a then .bind (k0M F b d a) fun c=>.bind (if decide (c<0)then some true else .bind (o0k F (gt b a)) fun h=>some (!h)) fun j=>.bind (if j then some true else if b5 b c a then .bind (l0S F (gt b a) (U1 b c a)) fun f=>some f else none) fun k=>if k then some (.done (.inl ()))else .bind (α:=Int) (if((gt b a).Kind)==2 then some (W (e+1))else some e) fun i=>if J0 8 d [c]then some (.next (d++[c],i,W (a+1)))else none else none else some (.done (.inr (d,e)))
def c0b (F:Nat)(a:List D0):Option (List Int):=.bind (if(a.length:Int)==0 then some true else some (decide ((a.length:Int)>400))) fun d=>if d then some []else .bind (α:=Unit⊕((List Int)×Int)) (iter (j0l F a) F ([],0,0)) fun f=>match f with
  | .inl _=>some []
  | .inr (b,c)=>.bind (if decide (c>64)then some true else if C0 b (W ((a.length:Int)-1))then some ((gt b (W ((a.length:Int)-1))) != 0)else none) fun e=>if e then some []else some b
def h0w (F:Nat):Sm en.D:=⟨56,[.d (.list (.st 0))],.own 3 N',[],fun a=>c0b F a⟩
def E0f (F:Nat):=E1 [q0N F,s01 F,s0N F] 56 ⟨[(13,[(.nrm,⟨[(4,G')],[]⟩)])],[(6,⟨[(3,.own 3 N'),(4,G'),(18,G')],[]⟩,[(.ret,⟨[(2,.nil),(3,.any),(4,.any),(18,.any)],[]⟩),(.ex 0,⟨[(3,.own 3 N'),(4,G'),(18,.any)],[]⟩)])],[(1,4,7,⟨[(11,.any),(15,.d .bool)],[]⟩),(9,3,6,⟨[(29,.any),(33,.d .bool)],[]⟩),(9,8,14,⟨[(34,.any),(41,.d .bool)],[]⟩),(15,3,10,⟨[(54,.any),(62,.d .bool)],[]⟩)],[]⟩ F
def Q9 (F:Nat)(a:List D0):Option Bool:=.bind (c0b F a) fun b=>some (decide ((b.length:Int)>0))
def a03 (F:Nat):Sm en.D:=⟨33,[.d (.list (.st 0))],.d .bool,[],fun a=>Q9 F a⟩
def D0t (F:Nat):=E1 [h0w F] 33 U2 F
def j0h (F:Nat)(c:List D0)(a:Int)(d:List Int)(g:Int)(f:Int×(List Bool)):Option (X0 (Int×(List Bool)) (List Bool)):=match f with
 | (b,e)=>if decide (b<g)then .bind (α:=List Bool) (if C0 (U1 c (gt d a) (W (a+1))) b then let h:=((gt (U1 c (gt d a) (W (a+1))) b).Kind)==7;
    if h then if decide (0<=(gt (U1 c (gt d a) (W (a+1))) b).N)&&decide ((gt (U1 c (gt d a) (W (a+1))) b).N<10)then let i:=e.set ((gt (U1 c (gt d a) (W (a+1))) b).N).toNat true;
      some i else none else some e else none) fun j=>some (.next (W (b+1),j))else some (.done e)
def i0O (F:Nat)(e:List Bool)(c:(List Int)×Int):Option (X0 ((List Int)×Int) (List Int)):=match c with
 | (b,a)=>if decide (a<10)then .bind (α:=List Int) (if decide (0<=a)&&decide (a<10)then if gt e a then if J0 8 b [a]then some (b++[a])else none else some b else none) fun d=>some (.next (d,W (a+1)))else some (.done b)
def j0z (F:Nat)(c:List D0)(a:Int):Option (List Int):=.bind (c0b F c) fun b=>.bind (if decide (a<0)then some true else some (decide (a>=(b.length:Int)))) fun e=>if e then some []else if C0 b a then if b5 c (gt b a) (W (a+1))then let f:=((U1 c (gt b a) (W (a+1))).length:Int);
    .bind (α:=List Bool) (iter (j0h F c a b f) F (0,[false,false,false,false,false,false,false,false,false,false])) fun g=>.bind (α:=List Int) (iter (i0O F g) F ([],0)) fun d=>some d else none else none
def l0z (F:Nat):Sm en.D:=⟨62,[.d (.list (.st 0)),G'],.own 3 N',[],fun a=>j0z F a.1 a.2⟩
def N0l (F:Nat):=E1 [h0w F] 62 ⟨[(10,[(.nrm,⟨[],[(1,.box 216 [.d (.arr 10 .bool)])]⟩)]),(17,[(.nrm,⟨[(9,.own 3 N')],[(3,.any)]⟩)])],[(13,⟨[(9,.own 3 N'),(41,G')],[]⟩,[(.ex 2,⟨[(9,.own 3 N'),(41,.any)],[]⟩)]),(6,⟨[(30,G')],[(1,.box 216 [.d (.arr 10 .bool)])]⟩,[(.ex 0,⟨[(30,.any)],[(1,.box 216 [.d (.arr 10 .bool)])]⟩)])],[(2,3,7,⟨[(15,.any),(20,.d .bool)],[]⟩)],[]⟩ F
def m0u (F:Nat)(b:List Int)(c:Int×Int):Option (X0 (Int×Int) Int):=match c with
 | (d,a)=>if decide (a<(b.length:Int))then if C0 b a then some (.next (gt b a,W (a+1)))else none else some (.done d)
def l0i (F:Nat)(a:List D0):Option Int:=.bind (j0z F a (W ((a.length:Int)-1))) fun b=>.bind (α:=Int) (iter (m0u F b) F (0,0)) fun c=>some c
def o0V (F:Nat):Sm en.D:=⟨42,[.d (.list (.st 0))],G',[],fun a=>l0i F a⟩
def D0v (F:Nat):=E1 [l0z F] 42 ⟨[],[(3,⟨[(3,G'),(12,G')],[]⟩,[(.ex 0,⟨[(3,G'),(12,.any)],[]⟩)])],[],[]⟩ F
def e0Y (F:Nat)(a:List D0):Option Int:=.bind (Q9 F a) fun b=>if !b then some 0 else .bind (l0i F a) fun c=>some (W (1+(W (2*c))))
def g0M (F:Nat):Sm en.D:=⟨24,[.d (.list (.st 0))],G',[],fun a=>e0Y F a⟩
def E0O (F:Nat):=E1 [a03 F,o0V F] 24 U2 F
def j0d (F:Nat)(b:List D0)(d:Int×(List Bool)):Option (X0 (Int×(List Bool)) (List Bool)):=match d with
 | (a,c)=>if decide (a<(b.length:Int))then .bind (α:=List Bool) (if C0 b a then .bind (if((gt b a).Kind)==1 then some ((gt b a).Kind==1)else if((gt b a).Kind)==5 then some ((gt b a).Kind==5)else some ((gt b a).Kind==6)) fun e=>if e then if C0 c a then some (c.set a.toNat true)else none else if((gt b a).Kind)==3 then if C0 c ((gt b a).A)then .bind (if gt c ((gt b a).A)then if C0 c ((gt b a).B)then some (gt c (gt b a).B)else none else some false) fun f=>if C0 c a then some (c.set a.toNat f)else none else none else if((gt b a).Kind)==4 then if C0 c ((gt b a).A)then .bind (if gt c ((gt b a).A)then some true else if C0 c ((gt b a).B)then some (gt c (gt b a).B)else none) fun g=>if C0 c a then some (c.set a.toNat g)else none else none else .bind (if((gt b a).Kind)==7 then some ((gt b a).Kind==7)else some ((gt b a).Kind==8)) fun h=>if h then if C0 c ((gt b a).A)then if C0 c a then some (c.set a.toNat (gt c (gt b a).A))else none else none else some c else none) fun i=>some (.next (W (a+1),i))else some (.done c)
def f0a (F:Nat)(a:List D0):Option (List Bool):=.bind (Q9 F a) fun b=>if !b then some []else if F4 1 (a.length:Int)then .bind (α:=List Bool) (iter (j0d F a) F (0,(List.replicate (a.length:Int).toNat false:List Bool))) fun c=>some c else none
def j0V (F:Nat):Sm en.D:=⟨35,[.d (.list (.st 0))],.own 4 .bool,[],fun a=>f0a F a⟩
def H0I (F:Nat):=E1 [a03 F] 35 ⟨[(11,[(.nrm,⟨[(21,.d .bool)],[]⟩)]),(18,[(.nrm,⟨[(62,.d .bool)],[]⟩)]),(19,[(.nrm,⟨[],[(0,.own 4 .bool)]⟩)])],[(5,⟨[(14,G')],[(0,.own 4 .bool)]⟩,[(.ex 0,⟨[(14,.any)],[(0,.own 4 .bool)]⟩)])],[(13,8,13,⟨[(37,.any),(43,.d .bool)],[]⟩),(15,8,13,⟨[(54,.any),(60,.d .bool)],[]⟩)],[]⟩ F
def a06 (F:Nat):Nat->(List D0)->(List Bool)->Int->(List Int)->Option (List Int)
 | 0,_,_,_,_=>none
 | e+1,b,c,a,d=>if J0 8 d [W (2*a)]then if C0 b a then .bind (α:=List Int) (if((gt b a).Kind)==3 then .bind (a06 F e b c (gt b a).A (d++[W (2*a)])) fun g=>.bind (a06 F e b c (gt b a).B g) fun h=>some h else if((gt b a).Kind)==4 then if C0 c ((gt b a).A)then if gt c ((gt b a).A)then .bind (a06 F e b c (gt b a).A (d++[W (2*a)])) fun i=>some i else .bind (a06 F e b c (gt b a).B (d++[W (2*a)])) fun j=>some j else none else .bind (if((gt b a).Kind)==7 then some ((gt b a).Kind==7)else some ((gt b a).Kind==8)) fun l=>if l then .bind (a06 F e b c (gt b a).A (d++[W (2*a)])) fun k=>some k else some (d++[W (2*a)])) fun f=>if J0 8 f [W ((W (2*a))+1)]then some (f++[W ((W (2*a))+1)])else none else none else none
def m0Y (F b:Nat):Sm en.D:=⟨129,[.d (.list (.st 0)),.d (.list .bool),G',.own 3 N'],.own 3 N',[],fun a=>a06 F b a.1 a.2.1 a.2.2.1 a.2.2.2⟩
def E06 (F a:Nat):=E1 [m0Y F a] 129 ⟨[(12,[(.nrm,⟨[(53,.d .bool)],[]⟩)]),(13,[(.nrm,⟨[(3,.own 3 N')],[(2,.any)]⟩)])],[],[],[]⟩ F
def h0B (F:Nat)(c:List D0)(a:Int):Option (List Int):=.bind (f0a F c) fun b=>.bind (if decide (a<0)then some true else some (decide (a>=(b.length:Int)))) fun e=>.bind (if e then some true else if C0 b a then some (!(gt b a))else none) fun f=>if f then some []else .bind (a06 F F c b a []) fun d=>some d
def k0u (F:Nat):Sm en.D:=⟨97,[.d (.list (.st 0)),G'],.own 3 N',[],fun a=>h0B F a.1 a.2⟩
def K0N (F:Nat):=E1 [j0V F,m0Y F F] 97 ⟨[],[],[(2,3,7,⟨[(10,.any),(15,.d .bool)],[]⟩),(2,9,14,⟨[(16,.any),(22,.d .bool)],[]⟩)],[]⟩ F
def h04 (F:Nat)(c:List D0)(d:(List Int)×Int):Option (X0 ((List Int)×Int) (List Int)):=match d with
 | (b,a)=>if decide (a<(c.length:Int))then .bind (α:=List Int) (if C0 c a then if((gt c a).Kind)==2 then if J0 8 b [a]then some (b++[a])else none else some b else none) fun e=>some (.next (e,W (a+1)))else some (.done b)
def T9 (F:Nat)(a:List D0):Option (List Int):=.bind (Q9 F a) fun c=>if !c then some []else .bind (α:=List Int) (iter (h04 F a) F ([],0)) fun b=>some b
def d0X (F:Nat):Sm en.D:=⟨93,[.d (.list (.st 0))],.own 3 N',[],fun a=>T9 F a⟩
def F08 (F:Nat):=E1 [a03 F] 93 ⟨[(9,[(.nrm,⟨[(3,.own 3 N')],[(0,.any)]⟩)])],[(5,⟨[(3,.own 3 N'),(11,G')],[]⟩,[(.ex 0,⟨[(3,.own 3 N'),(11,.any)],[]⟩)])],[],[]⟩ F
def i0a (F:Nat)(b:List D0)(e:Int×(List Int)):Option (X0 (Int×(List Int)) (List Int)):=match e with
 | (a,c)=>if decide (a<(b.length:Int))then .bind (α:=List Int) (if C0 b a then .bind (α:=List Int) (if decide ((gt b a).A>=0)then if C0 c ((gt b a).A)then some (c.set ((gt b a).A).toNat a)else none else some c) fun d=>if decide ((gt b a).B>=0)then if C0 d ((gt b a).B)then some (d.set ((gt b a).B).toNat a)else none else some d else none) fun f=>some (.next (W (a+1),f))else some (.done c)
def e0V (F:Nat)(a:List D0):Option (List Int):=.bind (Q9 F a) fun c=>if !c then some []else if F4 8 (a.length:Int)then if C0 (List.replicate (a.length:Int).toNat 0:List Int) (W ((a.length:Int)-1))then let b:=(List.replicate (a.length:Int).toNat 0:List Int).set (W ((a.length:Int)-1)).toNat (-1);
    .bind (α:=List Int) (iter (i0a F a) F (0,b)) fun d=>some d else none else none
def h0y (F:Nat):Sm en.D:=⟨154,[.d (.list (.st 0))],.own 3 N',[],fun a=>e0V F a⟩
def L0I (F:Nat):=E1 [a03 F] 154 ⟨[(10,[(.nrm,⟨[],[(0,.own 3 N')]⟩)]),(12,[(.nrm,⟨[],[(0,.own 3 N')]⟩)])],[(6,⟨[(19,G')],[(0,.own 3 N')]⟩,[(.ex 0,⟨[(19,.any)],[(0,.own 3 N')]⟩)])],[],[]⟩ F
def n0i (F:Nat)(c:List Int)(d:Int×(List Int)):Option (X0 (Int×(List Int)) (List Int)):=match d with
 | (a,b)=>if decide (a>=0)then .bind (α:=List Int) (if C0 b a then if C0 c a then if decide ((gt c a)>=0)then if C0 (b.set a.toNat 1) a then if C0 c a then if C0 (b.set a.toNat 1) (gt c a)then let e:=W ((gt (b.set a.toNat 1) a)+(gt (b.set a.toNat 1) (gt c a)));
         if C0 (b.set a.toNat 1) a then some ((b.set a.toNat 1).set a.toNat e)else none else none else none else none else some (b.set a.toNat 1)else none else none) fun f=>some (.next (W (a-1),f))else some (.done b)
def e0E (F:Nat)(b:List D0):Option (List Int):=.bind (e0V F b) fun a=>if F4 8 (a.length:Int)then .bind (α:=List Int) (iter (n0i F a) F (W ((a.length:Int)-1),(List.replicate (a.length:Int).toNat 0:List Int))) fun c=>some c else none
def l07 (F:Nat):Sm en.D:=⟨155,[.d (.list (.st 0))],.own 3 N',[],fun a=>e0E F a⟩
def A07 (F:Nat):=E1 [h0y F] 155 ⟨[(5,[(.nrm,⟨[],[(1,.own 3 N')]⟩)])],[(4,⟨[(5,G')],[(1,.own 3 N')]⟩,[(.ex 0,⟨[(5,.any)],[(1,.own 3 N')]⟩)])],[],[]⟩ F
def m0U (F:Nat)(d:Int)(c:Int×(List Int)):Option (X0 (Int×(List Int)) (List Int)):=match c with
 | (a,b)=>if decide (a<d)then if C0 b a then some (.next (W (a+1),b.set a.toNat (-1)))else none else some (.done b)
def k0y (F:Nat)(b:List Int)(d:Int×(List Int)):Option (X0 (Int×(List Int)) (List Int)):=match d with
 | (a,c)=>if decide (a<(b.length:Int))then if C0 b a then if C0 c (gt b a)then some (.next (W (a+1),c.set (gt b a).toNat a))else none else none else some (.done c)
def l0b (F:Nat)(a:List D0):Option (List Int):=.bind (Q9 F a) fun c=>if !c then some []else if F4 8 (a.length:Int)then let d:=((List.replicate (a.length:Int).toNat 0:List Int).length:Int);
   .bind (α:=List Int) (iter (m0U F d) F (0,(List.replicate (a.length:Int).toNat 0:List Int))) fun e=>.bind (T9 F a) fun b=>.bind (α:=List Int) (iter (k0y F b) F (0,e)) fun f=>some f else none
def q0q (F:Nat):Sm en.D:=⟨156,[.d (.list (.st 0))],.own 3 N',[],fun a=>l0b F a⟩
def L0T (F:Nat):=E1 [a03 F,d0X F] 156 ⟨[],[(10,⟨[(25,G')],[(0,.own 3 N')]⟩,[(.ex 2,⟨[(25,.any)],[(0,.own 3 N')]⟩)]),(5,⟨[(15,G')],[(0,.own 3 N')]⟩,[(.ex 0,⟨[(15,.any)],[(0,.own 3 N')]⟩)])],[],[]⟩ F
def i02 (F:Nat)(a:List D0):Option ((Unit⊕u7)×Bool):=.bind (Q9 F a) fun e=>if !e then some ((.inl ()),false)else .bind (e0V F a) fun f=>.bind (e0E F a) fun c=>.bind (l0b F a) fun d=>.bind (f0a F a) fun b=>some ((.inr (⟨a,f,c,d,b⟩:u7)),true)
def m00 (F:Nat):Sm en.D:=⟨130,[.d (.list (.st 0))],.tup [.alt .nilp (.box 271 [.d (.st 26)]),.d .bool],[],fun a=>i02 F a⟩
def B0a (F:Nat):=E1 [a03 F,j0V F,h0y F,l07 F,q0q F] 130 U2 F
def k0p (F:Nat)(b:List D0)(a:Int):Option ((Unit⊕u7)×Int×Bool):=.bind (α:=(Unit⊕u7)×Bool) (.bind (i02 F b) fun(i,e)=>match i with
  | .inl _=>some ((.inl ()),e)
  | .inr j=>some ((.inr j),e)) fun(g,f)=>match g with
 | .inl _=>if !f then some ((.inl ()),0,false)else .bind (T9 F b) fun d=>.bind (if decide (a<0)then some true else some (decide (a>=(d.length:Int)))) fun l=>if l then some ((.inl ()),0,false)else if C0 d a then some ((.inl ()),gt d a,true)else none
 | .inr h=>if !f then some ((.inl ()),0,false)else .bind (T9 F b) fun c=>.bind (if decide (a<0)then some true else some (decide (a>=(c.length:Int)))) fun k=>if k then some ((.inl ()),0,false)else if C0 c a then some ((.inr h),gt c a,true)else none
def l0W (F:Nat):Sm en.D:=⟨98,[.d (.list (.st 0)),G'],.tup [.alt .nilp (.box 271 [.d (.st 26)]),G',.d .bool],[],fun a=>k0p F a.1 a.2⟩
def E0w (F:Nat):=E1 [d0X F,m00 F] 98 ⟨[(2,[(.nrm,⟨[(7,.alt .nilp (.box 271 [.d (.st 26)])),(8,.d .bool)],[]⟩)])],[],[(5,3,7,⟨[(21,.any),(26,.d .bool)],[]⟩)],[]⟩ F
def d07 (F:Nat)(a:List Int)(b:List Int):Option (List Int):=if decide ((a.length:Int)=(a.length:Int))&&(b5 a 0 (a.length:Int)&&(decide ((a.length:Int)<=(a.length:Int))&&decide ((a.length:Int)<=(a.length:Int))))then if J0 8 (U1 a 0 (a.length:Int)) b then some ((U1 a 0 (a.length:Int))++b)else none else none
def k0H (F:Nat):Sm en.D:=⟨132,[.d (.list N'),.d (.list N')],.d (.list N'),[],fun a=>d07 F a.1 a.2⟩
def I0l (F:Nat):=E1 [] 132 U2 F
def X9 (F:Nat):Nat->u7->Int->(List Int)->(List B0)->Option (List B0)
 | 0,_,_,_,_=>none
 | e+1,a,b,g,d=>if C0 a.l b then .bind (d07 F g [W (2*b)]) fun c=>.bind (α:=(List B0)⊕(List B0)) (if((gt a.l b).Kind)==2 then if C0 a.index b then if J0 40 d [(⟨gt a.index b,0,c⟩:B0)]then some (.inl (d++[(⟨gt a.index b,0,c⟩:B0)]))else none else none else if((gt a.l b).Kind)==3 then .bind (X9 F e a ((gt a.l b).A) c d) fun f=>if C0 a.can ((gt a.l b).A)then if gt a.can ((gt a.l b).A)then .bind (h0B F a.l ((gt a.l b).A)) fun o=>.bind (d07 F c o) fun m=>.bind (X9 F e a ((gt a.l b).B) m f) fun h=>some (.inr h)else some (.inr f)else none else if((gt a.l b).Kind)==4 then .bind (X9 F e a ((gt a.l b).A) c d) fun i=>.bind (X9 F e a ((gt a.l b).B) c i) fun j=>some (.inr j)else .bind (if((gt a.l b).Kind)==5 then some (((gt a.l b).Kind)==5)else if((gt a.l b).Kind)==6 then some (((gt a.l b).Kind)==6)else if((gt a.l b).Kind)==7 then some (((gt a.l b).Kind)==7)else some (((gt a.l b).Kind)==8)) fun p=>if p then .bind (X9 F e a ((gt a.l b).A) c d) fun k=>some (.inr k)else some (.inr d)) fun r=>match r with
  | .inl q=>some q
  | .inr n=>some n else none
def h0X (F b:Nat):Sm en.D:=⟨150,[.d (.ptr (.st 26)),G',.d (.list N'),.own 169 (.st 15)],.own 169 (.st 15),[],fun a=>X9 F b a.1 a.2.1 a.2.2.1 a.2.2.2⟩
def D09 (F a:Nat):=E1 [k0u F,k0H F,h0X F a] 150 ⟨[(16,[(.nrm,⟨[(82,.d .bool)],[]⟩)]),(17,[(.ret,⟨[(8,.own 169 (.st 15))],[(0,.any)]⟩),(.nrm,⟨[(3,.own 169 (.st 15))],[(0,.any)]⟩)])],[],[],[]⟩ F
def g0m (F:Nat)(c:List B0)(b:List B0)(e:Int)(d:Int):Option (X0 Int (Int⊕Unit)):=match d with
 | a=>if decide (a<(b.length:Int))then if C0 b a then if((gt b a).To)==((gt c e).To)then some (.done (.inl a))else some (.next (W (a+1)))else none else some (.done (.inr ()))
def h05 (F:Nat)(e:u7)(d:Int)(b:List B0)(f:(List B0)×Int):Option (X0 ((List B0)×Int) (List B0)):=match f with
 | (c,a)=>if decide (a<(b.length:Int))then .bind (α:=List B0) (if C0 b a then .bind (.bind (α:=Int⊕Unit) (iter (g0m F b c a) F 0) fun k=>match k with
     | .inl j=>some (!(decide (j>=0)))
     | .inr _=>some (!(decide ((-1)>=0)))) fun i=>if i then if C0 e.deep d then if J0 40 c [(⟨(gt b a).To,gt e.deep d,(gt b a).Steps⟩:B0)]then let g:=c++[(⟨(gt b a).To,gt e.deep d,(gt b a).Steps⟩:B0)];
       some g else none else none else some c else none) fun h=>some (.next (h,W (a+1)))else some (.done c)
def i0m (F:Nat)(a:u7)(d:Int)(e:Int)(c:List Int)(f:List B0):Option (List B0):=.bind (X9 F F a e c []) fun b=>.bind (α:=List B0) (iter (h05 F a d b) F (f,0)) fun g=>some g
def s0R (F:Nat):Sm en.D:=⟨131,[.d (.ptr (.st 26)),G',G',.d (.list N'),.own 169 (.st 15)],.own 169 (.st 15),[],fun a=>i0m F a.1 a.2.1 a.2.2.1 a.2.2.2.1 a.2.2.2.2⟩
def F01 (F:Nat):P3 en:=⟨[h0X F F],fun a=>if Nat.beq a 131 then⟨[(5,[(.nrm,⟨[(25,.d .bool)],[]⟩)]),(7,[(.nrm,⟨[(4,.own 169 (.st 15))],[(2,.any)]⟩)])],[(2,⟨[(4,.own 169 (.st 15)),(18,G')],[(0,.any)]⟩,[(.ex 0,⟨[(4,.own 169 (.st 15)),(18,.any)],[(0,.any)]⟩)])],[],[]⟩else if Nat.beq a 157 then U2 else if Nat.beq a 158 then U2 else if Nat.beq a 166 then⟨[],[(2,⟨[(8,G')],[]⟩,[(.ret,⟨[(4,G'),(8,.any)],[]⟩),(.ex 0,⟨[(8,.any)],[]⟩)])],[],[]⟩else U2,F,[]⟩
def e0j (F:Nat)(a:u7)(f:Int×(List Int)×(List B0)×Int):Option (X0 (Int×(List Int)×(List B0)×Int) ((List B0)⊕((List Int)×(List B0)))):=match f with
 | (j,c,d,b)=>if decide (b>=0)then if C0 a.l b then .bind (α:=(List B0)⊕((List Int)×(List B0))) (.bind (if((gt a.l b).Kind)==3 then some (((gt a.l b).A)==j)else some false) fun o=>if o then .bind (i0m F a b ((gt a.l b).B) c d) fun e=>if C0 a.can ((gt a.l b).B)then if !(gt a.can ((gt a.l b).B))then some (.inl e)else .bind (h0B F a.l ((gt a.l b).B)) fun m=>.bind (d07 F c m) fun g=>some (.inr (g,e))else none else if((gt a.l b).Kind)==5 then .bind (i0m F a b ((gt a.l b).A) c d) fun n=>some (.inr (c,n))else some (.inr (c,d))) fun q=>match q with
   | .inl p=>some (.done (.inl p))
   | .inr (k,i)=>.bind (d07 F k [W ((W (2*b))+1)]) fun h=>if C0 a.up b then some (.next (b,h,i,gt a.up b))else none else none else some (.done (.inr (c,d)))
def j0j (F:Nat)(b:u7)(a:Int):Option ((List B0)×(List Int)):=if C0 b.up a then .bind (α:=(List B0)⊕((List Int)×(List B0))) (iter (e0j F b) F (a,[W ((W (2*a))+1)],[],gt b.up a)) fun f=>match f with
  | .inl e=>some (e,[])
  | .inr (d,c)=>some (c,d)else none
def o0h (F:Nat):Sm en.D:=⟨99,[.d (.ptr (.st 26)),G'],.tup [.own 169 (.st 15),.d (.list N')],[],fun a=>j0j F a.1 a.2⟩
def G03 (F:Nat):=E1 [k0u F,s0R F,k0H F] 99 ⟨[(14,[(.ret,⟨[(4,.own 169 (.st 15)),(5,.nil),(7,.any)],[(1,.any)]⟩),(.nrm,⟨[(6,.d (.list N')),(7,.own 169 (.st 15))],[(1,.any)]⟩)])],[(4,⟨[(1,G'),(6,.d (.list N')),(7,.own 169 (.st 15)),(8,G')],[(0,.any)]⟩,[(.ret,⟨[(1,.any),(4,.own 169 (.st 15)),(5,.nil),(6,.any),(7,.any),(8,.any)],[(0,.any)]⟩),(.ex 0,⟨[(1,.any),(6,.d (.list N')),(7,.own 169 (.st 15)),(8,.any)],[(0,.any)]⟩)])],[(7,4,8,⟨[(42,.any),(47,.d .bool)],[]⟩)],[]⟩ F
def a0W (F:Nat)(a:List D0)(e:Int):Option (B0×Bool):=.bind (α:=List Int) (if e==(-1)then .bind (h0B F a (W ((a.length:Int)-1))) fun m=>some m else .bind (α:=(Unit⊕u7)×Int×Bool) (.bind (k0p F a e) fun(g,b,c)=>match g with
    | .inl _=>some ((.inl ()),b,c)
    | .inr h=>some ((.inr h),b,c)) fun(i,l,d)=>match i with
   | .inl _=>if d then none else some []
   | .inr j=>if d then .bind (j0j F j l) fun(n,k)=>some k else some []) fun f=>if(f.length:Int)==0 then some ((⟨0,0,[]⟩:B0),false)else some ((⟨(-1),0,f⟩:B0),true)
def j03 (F:Nat):Sm en.D:=⟨65,[.d (.list (.st 0)),G'],.tup [.d (.st 15),.d .bool],[],fun a=>a0W F a.1 a.2⟩
def C0H (F:Nat):=E1 [k0u F,l0W F,o0h F] 65 ⟨[(5,[(.nrm,⟨[(7,.alt .nilp (.box 271 [.d (.st 26)])),(8,G'),(9,.d .bool)],[]⟩)]),(7,[(.nrm,⟨[(6,.d (.list N'))],[]⟩)])],[],[],[]⟩ F
def y0e (F:Nat)(b:List Int)(d:(List R3)×Int):Option (X0 ((List R3)×Int) (List R3)):=match d with
 | (c,a)=>if decide (a<(b.length:Int))then if C0 b a then if J0 16 c [(⟨3,gt b a⟩:R3)]then some (.next (c++[(⟨3,gt b a⟩:R3)],W (a+1)))else none else none else some (.done c)
def n06 (F:Nat)(b:List D0)(a:Int):Option (List R3):=.bind (if decide (a<0)then some true else some (decide ((W (a.tdiv 2))>=(b.length:Int)))) fun e=>if e then some []else if C0 b (W (a.tdiv 2))then .bind (if((gt b (W (a.tdiv 2))).Kind)==7 then some ((a.tmod 2)==0)else some false) fun f=>if f then some [(⟨1,(gt b (W (a.tdiv 2))).N⟩:R3)]else if((gt b (W (a.tdiv 2))).Kind)==7 then some [(⟨2,(gt b (W (a.tdiv 2))).N⟩:R3)]else .bind (if((gt b (W (a.tdiv 2))).Kind)==8 then some ((a.tmod 2)==0)else some false) fun g=>if g then .bind (j0z F b (W (a.tdiv 2))) fun c=>.bind (α:=List R3) (iter (y0e F c) F ([],0)) fun d=>some d else some []else none
def s0O (F:Nat):Sm en.D:=⟨101,[.d (.list (.st 0)),G'],.own 228 (.st 16),[],fun a=>n06 F a.1 a.2⟩
def K0Y (F:Nat):P3 en:=⟨[l0z F],fun a=>if Nat.beq a 101 then⟨[],[(11,⟨[(6,.own 228 (.st 16)),(64,G')],[]⟩,[(.ex 1,⟨[(6,.own 228 (.st 16)),(64,.any)],[]⟩)])],[(1,3,8,⟨[(11,.any),(17,.d .bool)],[]⟩),(4,4,7,⟨[(27,.any),(31,.d .bool)],[]⟩),(8,4,7,⟨[(54,.any),(58,.d .bool)],[]⟩)],[]⟩else if Nat.beq a 133 then U2 else U2,F,[]⟩
def l0L (F:Nat)(f:List D0)(c:List Int)(e:(List R3)×Int):Option (X0 ((List R3)×Int) (List R3)):=match e with
 | (b,a)=>if decide (a<(c.length:Int))then if C0 c a then .bind (n06 F f (gt c a)) fun d=>if J0 16 b d then some (.next (b++d,W (a+1)))else none else none else some (.done b)
def d0p (F:Nat)(a:List D0)(d:List Int):Option (List R3):=.bind (Q9 F a) fun c=>if !c then some []else .bind (α:=List R3) (iter (l0L F a d) F ([],0)) fun b=>some b
def g0A (F:Nat):Sm en.D:=⟨67,[.d (.list (.st 0)),.d (.list N')],.own 228 (.st 16),[],fun a=>d0p F a.1 a.2⟩
def F03 (F:Nat):=E1 [a03 F,s0O F] 67 ⟨[],[(5,⟨[(5,.own 228 (.st 16)),(13,G')],[]⟩,[(.ex 0,⟨[(5,.own 228 (.st 16)),(13,.any)],[]⟩)])],[],[]⟩ F
def o0c (F:Nat)(a:List D0):Option (List D0):=if J0 64 ([]:List D0) a then some a else none
def x0I (F:Nat):Sm en.D:=⟨118,[.d (.list (.st 0))],.own 116 (.st 0),[],fun a=>o0c F a⟩
def y0M (F:Nat):P3 en:=⟨[],fun _=>⟨[],[],[],[4]⟩,F,[]⟩
def k00 (F:Nat)(f:List D0)(b:List B0)(e:(List G4)×Int):Option (X0 ((List G4)×Int) (List G4)):=match e with
 | (c,a)=>if decide (a<(b.length:Int))then if C0 b a then .bind (d0p F f (gt b a).Steps) fun d=>if J0 64 c [(⟨gt b a,d⟩:G4)]then some (.next (c++[(⟨gt b a,d⟩:G4)],W (a+1)))else none else none else some (.done c)
def j0R (F:Nat)(b:List D0)(a:List B0):Option (List G4):=.bind (α:=List G4) (iter (k00 F b a) F ([],0)) fun c=>some c
def r0y (F:Nat):Sm en.D:=⟨119,[.d (.list (.st 0)),.d (.list (.st 15))],.own 262 (.st 17),[],fun a=>j0R F a.1 a.2⟩
def B0x (F:Nat):=E1 [g0A F] 119 ⟨[],[(3,⟨[(5,.own 262 (.st 17)),(10,G')],[]⟩,[(.ex 0,⟨[(5,.own 262 (.st 17)),(10,.any)],[]⟩)])],[],[]⟩ F
def n0G (F:Nat)(d:List B0)(c:Int×(List B0)):Option (X0 (Int×(List B0)) (List B0)):=match c with
 | (a,b)=>if decide (a<(d.length:Int))then if C0 b a then if F4 8 (((gt b a).Steps).length:Int)then if C0 b a then let e:=o5 (List.replicate (((gt b a).Steps).length:Int).toNat 0:List Int) ((gt b a).Steps);
     if C0 b a then some (.next (W (a+1),b.set a.toNat ({ gt b a with Steps:=e })))else none else none else none else none else some (.done b)
def k0d (F:Nat)(a:List B0):Option (List B0):=.bind (α:=List B0) (iter (n0G F a) F (0,a)) fun b=>some b
def l0h (F:Nat):Sm en.D:=⟨149,[.own 169 (.st 15)],.own 169 (.st 15),[],fun a=>k0d F a⟩
def K0j (F:Nat):=E1 [] 149 ⟨[],[(2,⟨[(7,G')],[(0,.own 169 (.st 15))]⟩,[(.ex 0,⟨[(7,.any)],[(0,.own 169 (.st 15))]⟩)])],[],[]⟩ F
def g0p (F:Nat)(b:List D0)(a:Int):Option (List B0):=.bind (α:=(Unit⊕u7)×Bool) (.bind (i02 F b) fun(h,c)=>match h with
  | .inl _=>some ((.inl ()),c)
  | .inr i=>some ((.inr i),c)) fun(f,d)=>match f with
 | .inl _=>.bind (if !d then some true else some (decide (a<0))) fun m=>.bind (if m then some true else some (decide (a>=(b.length:Int)))) fun n=>if n then some []else none
 | .inr g=>.bind (if !d then some true else some (decide (a<0))) fun k=>.bind (if k then some true else some (decide (a>=(b.length:Int)))) fun l=>if l then some []else .bind (X9 F F g a [] []) fun e=>.bind (k0d F e) fun j=>some j
def l0T (F:Nat):Sm en.D:=⟨120,[.d (.list (.st 0)),G'],.own 169 (.st 15),[],fun a=>g0p F a.1 a.2⟩
def E0C (F:Nat):=E1 [m00 F,l0h F,h0X F F] 120 ⟨[(2,[(.nrm,⟨[(5,.alt .nilp (.box 271 [.d (.st 26)])),(6,.d .bool)],[]⟩)])],[],[(2,3,5,⟨[(14,.any),(17,.d .bool)],[]⟩),(2,7,11,⟨[(18,.any),(23,.d .bool)],[]⟩)],[]⟩ F
def p0x (F:Nat)(b:List B0):Option (List B0):=if c0P (fun a:B0=>a.To) b then some (j5 (fun a:B0=>a.To) b)else none
def t0W (F:Nat):Sm en.D:=⟨151,[.own 169 (.st 15),.fn 152 []],.tup [],[(0,.own 169 (.st 15))],fun a=>p0x F a⟩
def f0e (F:Nat)(j:List D0)(l:Int):Option (List B0):=.bind (α:=(Unit⊕u7)×Int×Bool) (.bind (k0p F j l) fun(d,a,b)=>match d with
  | .inl _=>some ((.inl ()),a,b)
  | .inr e=>some ((.inr e),a,b)) fun(g,m,c)=>match g with
 | .inl _=>if !c then some []else none
 | .inr h=>if !c then some []else .bind (j0j F h m) fun(i,n)=>.bind (p0x F i) fun f=>.bind (k0d F f) fun k=>some k
def l0J (F:Nat):Sm en.D:=⟨121,[.d (.list (.st 0)),G'],.own 169 (.st 15),[],fun a=>f0e F a.1 a.2⟩
def B0W (F:Nat):=E1 [l0W F,o0h F,l0h F,t0W F] 121 ⟨[(2,[(.nrm,⟨[(5,.alt .nilp (.box 271 [.d (.st 26)])),(6,G'),(7,.d .bool)],[]⟩)])],[],[],[]⟩ F
def j04 (F:Nat)(b:List D0)(c:List Int)(p:(Int×((List D0)×(List (List Int))×(List G4)×(List (List G4))×(List G4)×(List Bool)×Int×B0))):Option (X0 (Int×((List D0)×(List (List Int))×(List G4)×(List (List G4))×(List G4)×(List Bool)×Int×B0)) ((List D0)×(List (List Int))×(List G4)×(List (List G4))×(List G4)×(List Bool)×Int×B0)):=match p with
 | (a,(l,h,i,g,f,d,o,k))=>if decide (a<(c.length:Int))then if C0 c a then if C0 b (gt c a)then if J0 32 h [(gt b (gt c a)).Set]then .bind (f0e F b a) fun q=>.bind (j0R F b q) fun n=>if J0 24 g [n]then .bind (a0W F b a) fun(e,j)=>.bind (d0p F b e.Steps) fun m=>if J0 64 f [(⟨e,m⟩:G4)]then if J0 1 d [j]then some (.next (W (a+1),(l,h++[(gt b (gt c a)).Set],i,g++[n],f++[(⟨e,m⟩:G4)],d++[j],o,k)))else none else none else none else none else none else none else some (.done (l,h,i,g,f,d,o,k))
def k0R (F:Nat)(a:List D0):Option c0r:=.bind (o0c F a) fun p=>.bind (g0p F a (W ((a.length:Int)-1))) fun g=>.bind (j0R F a g) fun l=>.bind (e0Y F a) fun n=>.bind (T9 F a) fun i=>.bind (α:=(List D0)×(List (List Int))×(List G4)×(List (List G4))×(List G4)×(List Bool)×Int×B0) (iter (j04 F a i) F (0,(p,[],l,[],[],[],n,(⟨0,0,[]⟩:B0)))) fun(h,m,c,k,f,d,o,q)=>.bind (a0W F a (-1)) fun(b,e)=>.bind (d0p F a b.Steps) fun j=>some (⟨h,m,c,k,f,d,j,e,o,b⟩:c0r)
def s0n (F:Nat):Sm en.D:=⟨76,[.d (.list (.st 0))],.box 197 [.d (.st 18)],[],fun a=>k0R F a⟩
def G0T (F:Nat):=E1 [g0M F,j03 F,g0A F,d0X F,x0I F,r0y F,l0T F,l0J F] 76 ⟨[],[(3,⟨[(24,G')],[(0,.any),(2,.any),(3,.box 197 [.own 116 (.st 0),.own 114 (.arr 4 (.int .u64)),.own 262 (.st 17),.own 194 (.list (.st 17)),.own 262 (.st 17),.own 4 .bool,.nil,.kb false,G',.d (.st 15)])]⟩,[(.ex 0,⟨[(24,.any)],[(0,.any),(2,.any),(3,.box 197 [.own 116 (.st 0),.own 114 (.arr 4 (.int .u64)),.own 262 (.st 17),.own 194 (.list (.st 17)),.own 262 (.st 17),.own 4 .bool,.nil,.kb false,G',.d (.st 15)])]⟩)])],[],[]⟩ F
def l0j (F:Nat)(a:List D0):Option ((Unit⊕L2)×Int):=.bind (Q9 F a) fun c=>if !c then some ((.inl ()),11)else .bind (k0R F a) fun b=>some ((.inr (⟨b,0,0,[],[],(⟨[],[]⟩:J2)⟩:L2)),0)
def t0F (F:Nat):Sm en.D:=⟨51,[.d (.list (.st 0))],.tup [.alt .nilp (.box 193 [.d (.st 19)]),G'],[],fun a=>l0j F a⟩
def G0k (F:Nat):=E1 [a03 F,s0n F] 51 U2 F
def K9 (F:Nat)(a:List Int):Option (List Int):=if J0 8 ([]:List Int) a then some a else none
def f0t (F:Nat):Sm en.D:=⟨27,[.d (.list N')],.own 3 N',[],fun a=>K9 F a⟩
def w0R (F:Nat):P3 en:=⟨[],fun _=>⟨[],[],[],[4]⟩,F,[]⟩
def s5 (d c:Int)(b:List Int)(a:R3):List Int:=if a.Group<1\/((b.length:Int)-1) / 2<a.Group then b else if a.Kind=1 then b.set (2*a.Group-1).toNat d else if a.Kind=2 then b.set (2*a.Group).toNat d else if a.Kind=3 then(b.set (2*a.Group-1).toNat c).set (2*a.Group).toNat c else b
def b01 (F:Nat)(a:List Int)(marks:List R3)(c b:Int):Option (List Int):=if J0 8 ([]:List Int) a&&decide (marks.length<=1000000000)then some (marks.foldl (s5 c b) a)else none
def e08 (F:Nat):Sm en.D:=⟨66,[.d (.list N'),.d (.list (.st 16)),G',G'],.own 3 N',[],fun a=>b01 F a.1 a.2.1 a.2.2.1 a.2.2.2⟩
def i0W (F:Nat)(a:Int)(b:Int):Option (Int×Int):=let c:=IntKind.u64.wrap ((O3 .u64 a 4294967295)*(O3 .u64 b 4294967295));
 let d:=IntKind.u64.wrap ((shr .u64 a 32)*(O3 .u64 b 4294967295));
 let e:=O3 .u64 (IntKind.u64.wrap (d+(shr .u64 c 32))) 4294967295;
 let f:=shr .u64 (IntKind.u64.wrap (d+(shr .u64 c 32))) 32;
 let g:=IntKind.u64.wrap ((O3 .u64 a 4294967295)*(shr .u64 b 32));
 let h:=IntKind.u64.wrap ((shr .u64 a 32)*(shr .u64 b 32));
 let i:=IntKind.u64.wrap ((IntKind.u64.wrap (h+f))+(shr .u64 (IntKind.u64.wrap (e+g)) 32));
 some (i,IntKind.u64.wrap (a*b))
def h0r (F:Nat)(c:Int)(d:Int):Option (Int×Int):=.bind (i0W F c d) fun(a,b)=>some (a,b)
def g0u (F:Nat)(b:List Int)(a:Int):Option (List Int):=h0a b a
def p0u (F:Nat):Sm en.D:=⟨72,[.d (.list N'),G'],.own 3 N',[],fun a=>g0u F a.1 a.2⟩
def j0D (F:Nat)(a:Int)(b:Int):Option (List Int):=if decide (a<1)then some []else .bind (g0u F [b] a) fun c=>some c
def k0P (F:Nat):Sm en.D:=⟨102,[G',G'],.own 3 N',[],fun a=>j0D F a.1 a.2⟩
def J0H (F:Nat):=E1 [p0u F] 102 U2 F
def h0e (F:Nat)(a:L2):Option (List Int):=.bind (j0D F a.chart.tags (-1)) fun b=>if C0 b 0 then some (b.set (0:Int).toNat a.at_)else none
def k04 (F:Nat):Sm en.D:=⟨77,[.d (.ptr (.st 19))],.own 3 N',[],fun a=>h0e F a⟩
def F0h (F:Nat):=E1 [k0P F] 77 U2 F
def l0e (F:Nat)(a:L2):Option ((List Int)×Bool):=if !a.chart.null then some ([],false)else .bind (h0e F a) fun c=>.bind (b01 F c a.chart.none a.at_ (-1)) fun b=>some (b,true)
def s0M (F:Nat):Sm en.D:=⟨52,[.d (.ptr (.st 19))],.tup [.own 3 N',.d .bool],[],fun a=>l0e F a⟩
def G05 (F:Nat):=E1 [e08 F,k04 F] 52 U2 F
def n07 (F:Nat)(g:List D0):Option ((Unit⊕(L2×(List Int)×Int×Bool))×Int):=.bind (α:=(Unit⊕L2)×Int) (.bind (l0j F g) fun(h,c)=>match h with
  | .inl _=>some ((.inl ()),c)
  | .inr i=>some ((.inr i),c)) fun(d,a)=>match d with
 | .inl _=>if a != 0 then some ((.inl ()),a)else none
 | .inr b=>if a != 0 then some ((.inl ()),a)else .bind (l0e F b) fun(e,f)=>some ((.inr (b,e,0,f)),0)
def r0p (F:Nat):Sm en.D:=⟨29,[.d (.list (.st 0))],.tup [.alt .nilp (.box 150 [.box 193 [.d (.st 19)],.d (.list N'),G',.d .bool]),G'],[],fun a=>n07 F a⟩
def K0v (F:Nat):=E1 [t0F F,s0M F] 29 ⟨[(2,[(.nrm,⟨[(4,.alt .nilp (.box 193 [.d (.st 19)])),(5,G')],[]⟩)])],[],[],[]⟩ F
def g0a (F:Nat)(g:List D0):Option ((Unit⊕(Y4×(L2×(List Int)×Int×Bool)))×Int):=.bind (α:=((Unit⊕(L2×(List Int)×Int×Bool))×Int)) (.bind (n07 F g) fun(h,b)=>match h with
  | .inl _=>some ((.inl ()),b)
  | .inr (c,i,k,is)=>some ((.inr (c,i,k,is)),b)) fun(e,a)=>match e with
 | .inl _=>if a != 0 then some ((.inl ()),a)else none
 | .inr (d,j,l,f)=>if a != 0 then some ((.inl ()),a)else some ((.inr ((⟨false,0⟩:Y4),(d,j,l,f))),0)
def n0e (F:Nat):Sm en.D:=⟨9,[.d (.list (.st 0))],.tup [.alt .nilp (.box 58 [.d (.st 9),.ifc 103 (.agg [.box 150 [.box 193 [.d (.st 19)],.d (.list N'),G',.d .bool]])]),G'],[],fun a=>g0a F a⟩
def I0b (F:Nat):=E1 [r0p F] 9 ⟨[(2,[(.nrm,⟨[(4,.alt .nilp (.box 150 [.box 193 [.d (.st 19)],.d (.list N'),G',.d .bool])),(5,G')],[]⟩)])],[],[],[]⟩ F
def s0c (F:Nat)(b:List Int)(d:Int×Int):Option (X0 (Int×Int) (Unit⊕Unit)):=match d with
 | (c,a)=>if decide (a<(b.length:Int))then if C0 b a then .bind (if decide ((gt b a)<0)then some true else some (decide ((gt b a)>c))) fun e=>if e then some (.done (.inl ()))else let f:=if(W ((gt b a)+1))>c then W ((gt b a)+1)else c;
    some (.next (f,W (a+1)))else none else some (.done (.inr ()))
def g0h (F:Nat)(a:List Int):Option Bool:=.bind (α:=Unit⊕Unit) (iter (s0c F a) F (0,0)) fun b=>match b with
 | .inl _=>some false
 | .inr _=>some ((a.length:Int)==256)
def i0v (F:Nat):Sm en.D:=⟨37,[.d (.list N')],.d .bool,[],fun a=>g0h F a⟩
def O03 (F:Nat):=E1 [] 37 ⟨[],[(3,⟨[(3,G'),(8,G')],[]⟩,[(.ret,⟨[(2,.kb false),(3,.any),(8,.any)],[]⟩),(.ex 0,⟨[(3,.any),(8,.any)],[]⟩)])],[(5,3,6,⟨[(14,.any),(18,.d .bool)],[]⟩)],[]⟩ F
def q0Q (F:Nat)(c:List Int)(d:(List Int)×Int):Option (X0 ((List Int)×Int) (List Int)):=match d with
 | (b,a)=>if decide (a<(c.length:Int))then .bind (α:=List Int) (if C0 c a then if(gt c a)==(b.length:Int)then if J0 1 b [IntKind.u8.wrap (a)]then some (b++[IntKind.u8.wrap (a)])else none else some b else none) fun e=>some (.next (e,W (a+1)))else some (.done b)
def f0J (F:Nat)(a:List Int):Option (List Int):=.bind (g0h F a) fun c=>if !c then some []else .bind (α:=List Int) (iter (q0Q F a) F ([],0)) fun b=>some b
def i0B (F:Nat):Sm en.D:=⟨21,[.d (.list N')],.own 5 (.int .u8),[],fun a=>f0J F a⟩
def N0o (F:Nat):=E1 [i0v F] 21 ⟨[(9,[(.nrm,⟨[(3,.own 5 (.int .u8))],[(0,.any)]⟩)])],[(5,⟨[(3,.own 5 (.int .u8)),(11,G')],[]⟩,[(.ex 0,⟨[(3,.own 5 (.int .u8)),(11,.any)],[]⟩)])],[],[]⟩ F
def l0d (F:Nat)(c:N1)(b:I5)(d:Int):Option (X0 Int (Int⊕Unit)):=match d with
 | a=>if decide (a<(b.Moves.length:Int))then if C0 b.Moves a then .bind (if decide (((gt b.Moves a).To)<0)then some true else some (decide (((gt b.Moves a).To)>=c.Regs))) fun h=>.bind (if h then some true else some (decide (((gt b.Moves a).From)<(-1)))) fun i=>.bind (if i then some true else some (decide (((gt b.Moves a).From)>=c.Regs))) fun e=>.bind (if e then some true else let f:=((gt b.Moves a).From)==((gt b.Moves a).To);
     some f) fun g=>if g then some (.done (.inl a))else some (.next (W (a+1)))else none else some (.done (.inr ()))
def l0N (F:Nat)(b:N1)(a:I5):Option Bool:=.bind (if decide (a.To<(-1))then some true else some (decide (a.To>=(b.Stands.length:Int)))) fun d=>.bind (if d then some true else .bind (if a.To==(-1)then some (decide ((a.Moves.length:Int)>0))else some false) fun e=>some e) fun f=>.bind (if f then some true else let g:=decide ((a.Moves.length:Int)>(W (2*b.Regs)));
   some g) fun h=>if h then some false else .bind (α:=Int⊕Unit) (iter (l0d F b a) F 0) fun i=>match i with
  | .inl c=>some (!(decide (c>=0)))
  | .inr _=>some (!(decide ((-1)>=0)))
def r07 (F:Nat):Sm en.D:=⟨82,[.d (.st 8),.d (.st 6)],.d .bool,[],fun a=>l0N F a.1 a.2⟩
def D0k (F:Nat):P3 en:=⟨[],fun a=>if Nat.beq a 82 then⟨[],[],[(1,4,10,⟨[(8,.any),(15,.d .bool)],[]⟩),(1,12,21,⟨[(16,.any),(26,.d .bool)],[]⟩),(1,16,20,⟨[(20,.any),(25,.d .bool)],[]⟩),(1,23,30,⟨[(27,.any),(35,.d .bool)],[]⟩)],[]⟩else if Nat.beq a 115 then U2 else if Nat.beq a 124 then⟨[],[],[(1,4,9,⟨[(7,.any),(13,.d .bool)],[]⟩),(1,11,14,⟨[(14,.any),(18,.d .bool)],[]⟩),(1,16,21,⟨[(19,.any),(25,.d .bool)],[]⟩),(1,23,28,⟨[(26,.any),(32,.d .bool)],[]⟩)],[]⟩else if Nat.beq a 145 then⟨[],[(2,⟨[(8,G')],[]⟩,[(.ret,⟨[(4,G'),(8,.any)],[]⟩),(.ex 0,⟨[(8,.any)],[]⟩)])],[],[]⟩else U2,F,[]⟩
def j0r (F:Nat)(b:N1)(c:Int)(d:Int):Option (X0 Int (Int⊕Unit)):=match d with
 | a=>let e:=decide (a<(((gt b.Stands c).Accept).length:Int));
 if e then if C0 ((gt b.Stands c).Accept) a then let f:=decide ((gt ((gt b.Stands c).Accept) a)<(-2));
   .bind (if f then some true else let g:=decide ((gt ((gt b.Stands c).Accept) a)>=b.Regs);
     some g) fun h=>if h then some (.done (.inl a))else some (.next (W (a+1)))else none else some (.done (.inr ()))
def i0p (F:Nat)(b:N1)(c:Int)(d:Int):Option (X0 Int (Int⊕Unit)):=match d with
 | a=>let f:=decide (a<(((gt b.Stands c).B2).length:Int));
 if f then if C0 ((gt b.Stands c).B2) a then .bind (l0N F b (gt ((gt b.Stands c).B2) a)) fun e=>if !e then some (.done (.inl a))else some (.next (W (a+1)))else none else some (.done (.inr ()))
def k0X (F:Nat)(a:N1)(f:List Int)(e:Int):Option (X0 Int (Unit⊕Unit)):=match e with
 | b=>if decide (b<(a.Stands.length:Int))then if C0 a.Stands b then .bind (if(((gt a.Stands b).Accept).length:Int) != 0 then let l:=(((gt a.Stands b).Accept).length:Int) != a.Tags;
     some l else some false) fun g=>.bind (if g then some true else .bind (α:=Int⊕Unit) (iter (j0r F a b) F 0) fun d=>match d with
     | .inl c=>some (decide (c>=0))
     | .inr _=>some (decide ((-1)>=0))) fun h=>.bind (if h then some true else let i:=(((gt a.Stands b).B2).length:Int) != (f.length:Int);
     some i) fun j=>if j then some (.done (.inl ()))else .bind (.bind (α:=Int⊕Unit) (iter (i0p F a b) F 0) fun d=>match d with
     | .inl c=>some (decide (c>=0))
     | .inr _=>some (decide ((-1)>=0))) fun k=>if k then some (.done (.inl ()))else some (.next (W (b+1)))else none else some (.done (.inr ()))
def j0A (F:Nat)(a:N1):Option Bool:=.bind (if decide (a.Tags<1)then some true else some (decide (a.Tags>19))) fun d=>.bind (if d then some true else some ((a.Tags.tmod 2)==0)) fun e=>.bind (if e then some true else some (decide (a.Regs<1))) fun f=>.bind (if f then some true else some (decide (a.Regs>1217))) fun g=>.bind (if g then some true else some ((a.Stands.length:Int)==0)) fun h=>.bind (if h then some true else some (decide ((a.Stands.length:Int)>400))) fun i=>.bind (if i then some true else .bind (g0h F a.Class) fun c=>some (!c)) fun j=>if j then some false else .bind (f0J F a.Class) fun b=>.bind (α:=Unit⊕Unit) (iter (k0X F a b) F 0) fun k=>match k with
  | .inl _=>some false
  | .inr _=>some true
def t0a (F:Nat):Sm en.D:=⟨53,[.d (.st 8)],.d .bool,[],fun a=>j0A F a⟩
def N0V (F:Nat):P3 en:=⟨[i0B F,i0v F,r07 F],fun a=>if Nat.beq a 53 then⟨[(11,[(.nrm,⟨[(89,.d .bool)],[]⟩)])],[(6,⟨[(57,G')],[]⟩,[(.ret,⟨[(2,.kb false),(57,.any)],[]⟩),(.ex 0,⟨[(57,.any)],[]⟩)])],[(1,4,7,⟨[(10,.any),(14,.d .bool)],[]⟩),(1,9,13,⟨[(15,.any),(20,.d .bool)],[]⟩),(1,15,18,⟨[(21,.any),(25,.d .bool)],[]⟩),(1,20,23,⟨[(26,.any),(30,.d .bool)],[]⟩),(1,25,29,⟨[(31,.any),(36,.d .bool)],[]⟩),(1,31,35,⟨[(37,.any),(42,.d .bool)],[]⟩),(1,37,41,⟨[(43,.any),(48,.d .bool)],[]⟩),(8,5,11,⟨[(65,.any),(72,.d .bool)],[]⟩),(8,13,17,⟨[(73,.any),(78,.d .bool)],[]⟩),(8,19,24,⟨[(79,.any),(85,.d .bool)],[]⟩)],[]⟩else if Nat.beq a 78 then⟨[],[],[(1,3,7,⟨[(6,.any),(11,.d .bool)],[]⟩)],[]⟩else if Nat.beq a 79 then U2 else if Nat.beq a 80 then U2 else if Nat.beq a 81 then U2 else if Nat.beq a 122 then⟨[],[(2,⟨[(8,G')],[]⟩,[(.ret,⟨[(4,G'),(8,.any)],[]⟩),(.ex 0,⟨[(8,.any)],[]⟩)])],[],[]⟩else if Nat.beq a 123 then⟨[],[(2,⟨[(8,G')],[]⟩,[(.ret,⟨[(4,G'),(8,.any)],[]⟩),(.ex 0,⟨[(8,.any)],[]⟩)])],[],[]⟩else U2,F,[]⟩
def l0r (F:Nat)(a:List P1):Option (List P1):=if J0 16 ([]:List P1) a then some a else none
def t0O (F:Nat):Sm en.D:=⟨83,[.d (.list (.st 5))],.own 187 (.st 5),[],fun a=>l0r F a⟩
def x0l (F:Nat):P3 en:=⟨[],fun _=>⟨[],[],[],[4]⟩,F,[]⟩
def l0O (F:Nat)(b:N1)(c:Int)(f:Int×((List Int)×(List I5))):Option (X0 (Int×((List Int)×(List I5))) ((List Int)×(List I5))):=match f with
 | (a,(d,B2))=>let h:=decide (a<(((gt b.Stands c).B2).length:Int));
 if h then if C0 ((gt b.Stands c).B2) a then .bind (l0r F ((gt ((gt b.Stands c).B2) a).Moves)) fun e=>if J0 32 B2 [(⟨(gt ((gt b.Stands c).B2) a).To,e⟩:I5)]then let g:=B2++[(⟨(gt ((gt b.Stands c).B2) a).To,e⟩:I5)];
    some (.next (W (a+1),(d,g)))else none else none else some (.done (d,B2))
def h07 (F:Nat)(b:N1)(j:Int×(Int×Int×(List Int)×(List U6))):Option (X0 (Int×(Int×Int×(List Int)×(List U6))) (Int×Int×(List Int)×(List U6))):=match j with
 | (a,(g,f,e,c))=>if decide (a<(b.Stands.length:Int))then if C0 b.Stands a then .bind (K9 F ((gt b.Stands a).Accept)) fun i=>.bind (α:=(List Int)×(List I5)) (iter (l0O F b a) F (0,(i,[]))) fun(d,h)=>if J0 48 c [(⟨d,h⟩:U6)]then some (.next (W (a+1),(g,f,e,c++[(⟨d,h⟩:U6)])))else none else none else some (.done (g,f,e,c))
def e0P (F:Nat)(a:N1):Option N1:=.bind (α:=Int×Int×(List Int)) (same (.bind (K9 F a.Class) fun i=>some (a.Tags,a.Regs,i)) (.bind (K9 F a.Class) fun j=>some (a.Tags,a.Regs,j))) fun(g,d,b)=>.bind (α:=Int×Int×(List Int)×(List U6)) (iter (h07 F a) F (0,(g,d,b,[]))) fun(h,e,c,f)=>some (⟨h,e,c,f⟩:N1)
def r0B (F:Nat):Sm en.D:=⟨54,[.d (.st 8)],.d (.st 8),[],fun a=>e0P F a⟩
def H0Y (F:Nat):=E1 [f0t F,t0O F] 54 ⟨[],[(3,⟨[(20,G')],[(2,.any),(3,.box 36 [G',G',.own 3 N',.own 97 (.st 7)])]⟩,[(.ex 0,⟨[(20,.any)],[(2,.any),(3,.box 36 [G',G',.own 3 N',.own 97 (.st 7)])]⟩)]),(7,⟨[(31,G')],[(8,.any),(9,.box 97 [.own 3 N',.own 144 (.st 6)])]⟩,[(.ex 2,⟨[(31,.any)],[(8,.any),(9,.box 97 [.own 3 N',.own 144 (.st 6)])]⟩)])],[(1,1000006,9,⟨[(3,.box 36 [G',G',.own 3 N',.nil])],[]⟩)],[]⟩ F
def q08 (F:Nat)(a:S9):Option Bool:=.bind (if decide (a.stand>=0)then if C0 a.p.Stands a.stand then let b:=(((gt a.p.Stands a.stand).Accept).length:Int);
    some (decide (b>0))else none else some false) fun c=>some c
def r0X (F:Nat):Sm en.D:=⟨84,[.d (.ptr (.st 23))],.d .bool,[],fun a=>q08 F a⟩
def K0C (F:Nat):=E1 [] 84 ⟨[],[],[(1,6,20,⟨[(8,.any),(23,.d .bool)],[]⟩)],[]⟩ F
def k0o (F:Nat)(b:S9)(a:Int):Option Int:=if a==(-1)then some b.at_ else if a==(-2)then some (-1)else if C0 b.regs a then some (gt b.regs a)else none
def l06 (F:Nat):Sm en.D:=⟨85,[.d (.ptr (.st 23)),G'],G',[],fun a=>k0o F a.1 a.2⟩
def F0o (F:Nat):=E1 [] 85 U2 F
def m0E (F:Nat)(h:V4)(a:N1)(f:Int)(b:Int)(j:Int)(i:List Int)(g:(List Int)×Int):Option (X0 ((List Int)×Int) (List Int)):=match g with
 | (d,c)=>let k:=decide (c<(((gt a.Stands b).Accept).length:Int));
 if k then if C0 ((gt a.Stands b).Accept) c then .bind (k0o F (⟨h,a,f,b,j,i⟩:S9) (gt ((gt a.Stands b).Accept) c)) fun e=>if J0 8 d [e]then some (.next (d++[e],W (c+1)))else none else none else some (.done d)
def f0F (F:Nat):(V4×N1×Int×Int×Int×(List Int))->Option (V4×N1×Int×Int×Int×(List Int))
 | (f,b,a,c,e,d)=>.bind (q08 F (⟨f,b,a,c,e,d⟩:S9)) fun g=>if !g then some (f,b,a,c,e,d)else if C0 b.Stands c then .bind (α:=List Int) (iter (m0E F f b a c e d) F ([],0)) fun h=>some ((⟨h,a⟩:V4),b,a,c,e,d)else none
def n01 (F:Nat):Sm en.D:=⟨55,[.box 158 [.d (.st 22),.d (.st 8),G',G',G',.own 3 N']],.tup [],[(0,.box 158 [.d (.st 22),.d (.st 8),G',G',G',.own 3 N'])],fun a=>f0F F a⟩
def J0b (F:Nat):=E1 [r0X F,l06 F] 55 ⟨[],[(3,⟨[(2,.own 3 N'),(21,G')],[]⟩,[(.ex 0,⟨[(2,.own 3 N'),(21,.any)],[]⟩)])],[],[]⟩ F
def h0b (F:Nat)(a:N1):Option ((Unit⊕(V4×N1×Int×Int×Int×(List Int)))×Int):=.bind (j0A F a) fun l=>if !l then some ((.inl ()),11)else .bind (α:=V4×N1×Int×Int×Int×(List Int)) (same (.bind (e0P F a) fun d=>if F4 8 a.Regs then some ((⟨[],0⟩:V4),d,0,0,0,(List.replicate a.Regs.toNat 0:List Int))else none) (if F4 8 a.Regs then .bind (e0P F a) fun e=>some ((⟨[],0⟩:V4),e,0,0,0,(List.replicate a.Regs.toNat 0:List Int))else none)) fun(f,h,b,m,o,j)=>.bind (f0F F (f,h,b,m,o,j)) fun(g,i,c,n,p,k)=>some ((.inr (g,i,c,n,p,k)),0)
def q0t (F:Nat):Sm en.D:=⟨30,[.d (.st 8)],.tup [.alt .nilp (.box 158 [.d (.st 22),.d (.st 8),G',G',G',.own 3 N']),G'],[],fun a=>h0b F a⟩
def J00 (F:Nat):=E1 [t0a F,r0B F,n01 F] 30 ⟨[],[],[(3,1000001,7,⟨[(4,.box 158 [.d (.st 22),.d (.st 8),G',G',G',.own 3 N'])],[]⟩)],[]⟩ F
def c00 (F:Nat)(g:N1):Option ((Unit⊕(Y4×(V4×N1×Int×Int×Int×(List Int))))×Int):=.bind (α:=((Unit⊕(V4×N1×Int×Int×Int×(List Int)))×Int)) (.bind (h0b F g) fun(o,b)=>match o with
  | .inl _=>some ((.inl ()),b)
  | .inr (e,h,c,m,p,k)=>some ((.inr (e,h,c,m,p,k)),b)) fun(j,a)=>match j with
 | .inl _=>if a != 0 then some ((.inl ()),a)else none
 | .inr (f,i,d,n,q,l)=>if a != 0 then some ((.inl ()),a)else some ((.inr ((⟨false,0⟩:Y4),(f,i,d,n,q,l))),0)
def n0l (F:Nat):Sm en.D:=⟨10,[.d (.st 8)],.tup [.alt .nilp (.box 58 [.d (.st 9),.ifc 108 (.agg [.box 158 [.d (.st 22),.d (.st 8),G',G',G',.own 3 N']])]),G'],[],fun a=>c00 F a⟩
def M0H (F:Nat):=E1 [q0t F] 10 ⟨[(2,[(.nrm,⟨[(4,.alt .nilp (.box 158 [.d (.st 22),.d (.st 8),G',G',G',.own 3 N'])),(5,G')],[]⟩)])],[],[],[]⟩ F
def i03 (F:Nat)(b:List Int)(i:Int)(g:(List D5)×Int):Option (X0 ((List D5)×Int) (List D5)):=match g with
 | (c,a)=>if decide (a<(b.length:Int))then .bind (α:=List D5) (if C0 b a then .bind (α:=Unit⊕Int) (.bind (if decide (a>0)then some ((a.tmod 2)==0)else some false) fun j=>if j then some (.inl ())else if decide (a>0)then if C0 b (W (a+1))then some (.inr (gt b (W (a+1))))else none else some (.inr i)) fun l=>match l with
    | .inl _=>some c
    | .inr d=>.bind (α:=Int×Int) (.bind (if decide ((gt b a)<0)then some true else some (decide (d<0))) fun k=>if k then some ((-1),(-1))else some (gt b a,d)) fun(f,e)=>if J0 16 c [(⟨f,e⟩:D5)]then some (c++[(⟨f,e⟩:D5)])else none else none) fun h=>some (.next (h,W (a+1)))else some (.done c)
def j0P (F:Nat)(a:List Int)(c:Int):Option (List D5):=if((a.length:Int).tmod 2)==0 then some []else .bind (α:=List D5) (iter (i03 F a c) F ([],0)) fun b=>some b
def m0o (F:Nat):Sm en.D:=⟨221,[.d (.list N'),G'],.own 65 (.st 10),[],fun a=>j0P F a.1 a.2⟩
def J03 (F:Nat):=E1 [] 221 ⟨[(11,[(.ex 1,⟨[],[]⟩),(.nrm,⟨[(8,G')],[]⟩)]),(13,[(.nrm,⟨[(7,G'),(8,G')],[]⟩)]),(14,[(.nrm,⟨[(5,.own 65 (.st 10))],[(0,.any)]⟩)])],[(5,⟨[(5,.own 65 (.st 10)),(15,G')],[]⟩,[(.ex 0,⟨[(5,.own 65 (.st 10)),(15,.any)],[]⟩)])],[(8,3,6,⟨[(24,.any),(28,.d .bool)],[]⟩),(11,3,5,⟨[(39,.any),(42,.d .bool)],[]⟩)],[]⟩ F
def n0r (F:Nat):(L2×(List Int)×Int×Bool)->Option (((List D5)×Bool)×(L2×(List Int)×Int×Bool))
 | (c,a,b,is)=>if !is then some (([],false),(c,a,b,is))else .bind (j0P F a b) fun d=>some ((d,true),(c,a,b,is))
def s06 (F:Nat):Sm en.D:=⟨216,[.box 150 [.box 193 [.d (.st 19)],.d (.list N'),G',.d .bool]],.tup [.own 65 (.st 10),.d .bool],[(0,.box 150 [.box 193 [.d (.st 19)],.d (.list N'),G',.d .bool])],fun a=>n0r F a⟩
def E0a (F:Nat):=E1 [m0o F] 216 U2 F
def d0l (F:Nat)(a:L2):Option Int:=some a.at_
def l0y (F:Nat):Sm en.D:=⟨214,[.d (.ptr (.st 19))],G',[],fun a=>d0l F a⟩
def B0Y (F:Nat):=E1 [] 214 U2 F
def s0q (F:Nat)(a:L2):Option (List Int):=.bind (K9 F a.places) fun b=>some b
def q0m (F:Nat):Sm en.D:=⟨231,[.d (.ptr (.st 19))],.own 3 N',[],fun a=>s0q F a⟩
def L0w (F:Nat):=E1 [f0t F] 231 U2 F
def n0E (F:Nat)(a:a05):Option Int:=.bind (s0q F a.Crowd) fun b=>some (b.length:Int)
def o0K (F:Nat):Sm en.D:=⟨230,[.d (.ptr (.st 20))],G',[],fun a=>n0E F a⟩
def B0r (F:Nat):=E1 [q0m F] 230 U2 F
def n0M (F:Nat)(a:a05):Option Bool:=.bind (if a.is then .bind (n0E F a) fun c=>some (c==0)else some false) fun d=>.bind (if d then .bind (d0l F a.Crowd) fun b=>some (decide (b>0))else some false) fun e=>some e
def s0E (F:Nat):Sm en.D:=⟨229,[.d (.ptr (.st 20))],.d .bool,[],fun a=>n0M F a⟩
def J0z (F:Nat):=E1 [l0y F,o0K F] 229 ⟨[],[],[(1,5,8,⟨[(7,.any),(11,.d .bool)],[]⟩),(1,10,16,⟨[(12,.any),(19,.d .bool)],[]⟩)],[]⟩ F
def g0C (F:Nat)(a:c0A):Option Bool:=.bind (n0M F a.Hunt) fun b=>some b
def n08 (F:Nat):Sm en.D:=⟨228,[.d (.st 21)],.d .bool,[],fun a=>g0C F a⟩
def I08 (F:Nat):=E1 [s0E F] 228 U2 F
def v0P (F:Nat)(a:S9):Option Int:=some a.stand
def p0P (F:Nat):Sm en.D:=⟨236,[.d (.ptr (.st 23))],G',[],fun a=>v0P F a⟩
def O0t (F:Nat):=E1 [] 236 U2 F
def k09 (F:Nat)(b:d0c):Option Bool:=.bind (v0P F b.Run) fun a=>some (decide (a<0))
def m0J (F:Nat):Sm en.D:=⟨235,[.d (.st 24)],.d .bool,[],fun a=>k09 F a⟩
def C0G (F:Nat):=E1 [p0P F] 235 U2 F
def h0u (F:Nat):(Y4×(L2×(List Int)×Int×Bool))->Option ((Bool×Bool×(List D5))×(Y4×(L2×(List Int)×Int×Bool)))
 | (b,(f,j,k,is))=>.bind (n0r F (f,j,k,is)) fun((g,h),(a,d,e,c))=>.bind (if b.closed then some true else .bind (g0C F (⟨(⟨a,d,e,c⟩:a05)⟩:c0A)) fun i=>some i) fun l=>some ((h,l,g),(b,(a,d,e,c)))
def o0H (F:Nat):Sm en.D:=⟨31,[.box 58 [.d (.st 9),.ifc 103 (.agg [.box 150 [.box 193 [.d (.st 19)],.d (.list N'),G',.d .bool]])]],.agg [.d .bool,.d .bool,.own 65 (.st 10)],[(0,.box 58 [.d (.st 9),.ifc 103 (.agg [.box 150 [.box 193 [.d (.st 19)],.d (.list N'),G',.d .bool]])])],fun a=>h0u F a⟩
def A0x (F:Nat):=E1 [s06 F,n08 F] 31 ⟨[],[],[(2,7,12,⟨[(19,.any),(25,.d .bool)],[]⟩)],[]⟩ F
def n0b (F:Nat)(b:List (List Int))(d:Int)(c:Int):Option (X0 Int (Unit⊕Unit)):=match c with
 | a=>if decide (a<(b.length:Int))then if C0 b a then if((gt b a).length:Int) != d then some (.done (.inl ()))else some (.next (W (a+1)))else none else some (.done (.inr ()))
def i0X (F:Nat)(a:List (List Int))(b:Int):Option Bool:=.bind (α:=Unit⊕Unit) (iter (n0b F a b) F 0) fun c=>match c with
 | .inl _=>some false
 | .inr _=>some ((a.length:Int)==b)
def t0y (F:Nat):Sm en.D:=⟨126,[.d (.list (.list N')),G'],.d .bool,[],fun a=>i0X F a.1 a.2⟩
def E0V (F:Nat):=E1 [] 126 ⟨[],[(2,⟨[(9,G')],[]⟩,[(.ret,⟨[(4,.kb false),(9,.any)],[]⟩),(.ex 0,⟨[(9,.any)],[]⟩)])],[],[]⟩ F
def j0W (F:Nat)(b:J2)(e:Int)(c:Int)(d:Int):Option (X0 Int (Unit⊕Unit)):=match d with
 | a=>if decide (a<e)then if C0 b.D c then if C0 (gt b.D c) a then if C0 b.B c then if C0 (gt b.B c) a then .bind (if decide ((gt (gt b.B c) a)<0)then some true else .bind (if c != a then if(gt (gt b.D c) a) != 1 then if(gt (gt b.D c) a) != (-1)then some true else if C0 b.D a then if C0 (gt b.D a) c then let f:=(gt (gt b.D a) c) != (W (0-(gt (gt b.D c) a)));
              some f else none else none else if C0 b.D a then if C0 (gt b.D a) c then let g:=(gt (gt b.D a) c) != (W (0-(gt (gt b.D c) a)));
             some g else none else none else some false) fun h=>some h) fun i=>if i then some (.done (.inl ()))else some (.next (W (a+1)))else none else none else none else none else some (.done (.inr ()))
def o0s (F:Nat)(b:J2)(c:Int)(d:Int):Option (X0 Int (Unit⊕Unit)):=match d with
 | a=>if decide (a<c)then if C0 b.B a then if C0 (gt b.B a) a then .bind (if(gt (gt b.B a) a) != 0 then some true else if C0 b.D a then if C0 (gt b.D a) a then some ((gt (gt b.D a) a) != 0)else none else none) fun e=>if e then some (.done (.inl ()))else .bind (α:=Unit⊕Unit) (iter (j0W F b c a) F 0) fun f=>match f with
     | .inl _=>some (.done (.inl ()))
     | .inr _=>some (.next (W (a+1)))else none else none else some (.done (.inr ()))
def i0e (F:Nat)(b:J2)(a:Int):Option Bool:=.bind (i0X F b.B a) fun c=>.bind (if !c then some true else .bind (i0X F b.D a) fun d=>some (!d)) fun e=>if e then some false else .bind (α:=Unit⊕Unit) (iter (o0s F b a) F 0) fun f=>match f with
  | .inl _=>some false
  | .inr _=>some true
def l0a (F:Nat):Sm en.D:=⟨95,[.d (.st 12),G'],.d .bool,[],fun a=>i0e F a.1 a.2⟩
def E0x (F:Nat):=E1 [t0y F] 95 ⟨[],[(4,⟨[(21,G')],[]⟩,[(.ret,⟨[(4,.kb false),(21,.any)],[]⟩),(.ex 0,⟨[(21,.any)],[]⟩)]),(9,⟨[(45,G')],[]⟩,[(.ret,⟨[(4,.kb false),(45,.any)],[]⟩),(.ex 2,⟨[(45,.any)],[]⟩)])],[(1,6,11,⟨[(13,.any),(19,.d .bool)],[]⟩),(6,10,19,⟨[(33,.any),(43,.d .bool)],[]⟩),(12,10,34,⟨[(65,.any),(90,.d .bool)],[]⟩),(12,14,33,⟨[(69,.any),(89,.d .bool)],[]⟩)],[]⟩ F
def f0G (F:Nat)(a:J2):Option Bool:=.bind (i0e F a (a.B.length:Int)) fun b=>some b
def h0g (F:Nat):Sm en.D:=⟨127,[.d (.st 12)],.d .bool,[],fun a=>f0G F a⟩
def E0j (F:Nat):=E1 [l0a F] 127 U2 F
def f0v (F:Nat)(b:J2)(a:Int):Option Bool:=.bind (if decide (a>=0)then some (decide (a<(b.B.length:Int)))else some false) fun c=>some c
def i0F (F:Nat):Sm en.D:=⟨128,[.d (.st 12),G'],.d .bool,[],fun a=>f0v F a.1 a.2⟩
def A0D (F:Nat):=E1 [] 128 ⟨[],[],[(1,3,8,⟨[(7,.any),(13,.d .bool)],[]⟩)],[]⟩ F
def e0W (F:Nat)(a:b0E)(b:Int)(c:Int):Option Int:=if C0 a.from_ b then if C0 a.Rank.B (gt a.from_ b)then if C0 a.from_ c then if C0 (gt a.Rank.B (gt a.from_ b)) (gt a.from_ c)then let d:=gt (gt a.Rank.B (gt a.from_ b)) (gt a.from_ c);
     if C0 a.hops b then let e:=if(W (((gt a.hops b).Turn)+1))<d then W (((gt a.hops b).Turn)+1)else d;
      some e else none else none else none else none else none
def l0n (F:Nat):Sm en.D:=⟨139,[.d (.st 31),G',G'],G',[],fun a=>e0W F a.1 a.2.1 a.2.2⟩
def M0l (F:Nat):=E1 [] 139 U2 F
def h0H (F:Nat)(a:b0E)(b:Int)(c:Int):Option Int:=.bind (e0W F a b c) fun d=>.bind (e0W F a c b) fun e=>if decide (d>e)then some 1 else if decide (d<e)then some (-1)else if C0 a.from_ b then if C0 a.Rank.D (gt a.from_ b)then if C0 a.from_ c then if C0 (gt a.Rank.D (gt a.from_ b)) (gt a.from_ c)then let f:=gt (gt a.Rank.D (gt a.from_ b)) (gt a.from_ c);
       some f else none else none else none else none
def k0Q (F:Nat):Sm en.D:=⟨135,[.d (.st 31),G',G'],G',[],fun a=>h0H F a.1 a.2.1 a.2.2⟩
def G0b (F:Nat):=E1 [l0n F] 135 U2 F
def l0D (F:Nat)(d:J2)(c:List Int)(i:List B0)(j:Int)(g:Int×Int):Option (X0 (Int×Int) Int):=match g with
 | (b,a)=>if decide (a<j)then .bind (α:=Int) (if C0 c a then .bind (f0v F d (gt c a)) fun h=>.bind (if h then .bind (if decide (b<0)then some true else .bind (h0H F (⟨d,c,i⟩:b0E) a b) fun e=>some (decide (e>0))) fun k=>some k else some false) fun l=>if l then some a else some b else none) fun f=>some (.next (f,W (a+1)))else some (.done b)
def e0u (F:Nat)(c:J2)(a:List Int)(b:List B0):Option Int:=.bind (f0G F c) fun e=>if !e then some (-1)else let f:=if(b.length:Int)<(a.length:Int)then(b.length:Int)else(a.length:Int);
  .bind (α:=Int) (iter (l0D F c a b f) F ((-1),0)) fun d=>some d
def l0k (F:Nat):Sm en.D:=⟨105,[.d (.st 12),.d (.list N'),.d (.list (.st 15))],G',[],fun a=>e0u F a.1 a.2.1 a.2.2⟩
def C0e (F:Nat):=E1 [h0g F,i0F F,k0Q F] 105 ⟨[(10,[(.nrm,⟨[(7,G')],[]⟩)])],[(6,⟨[(7,G'),(23,G')],[]⟩,[(.ex 0,⟨[(7,G'),(23,.any)],[]⟩)])],[(8,7,16,⟨[(32,.any),(42,.d .bool)],[]⟩),(8,10,15,⟨[(35,.any),(41,.d .bool)],[]⟩)],[]⟩ F
def m0T (F:Nat)(c:Int)(f:Int)(d:Int×(List (List Int))):Option (X0 (Int×(List (List Int))) (List (List Int))):=match d with
 | (a,b)=>if decide (a<f)then if F4 8 c then if C0 b a then let e:=b.set a.toNat (List.replicate c.toNat 0:List Int);
    some (.next (W (a+1),e))else none else none else some (.done b)
def f0C (F:Nat)(a:Int):Option (List (List Int)):=if F4 24 a then let b:=((List.replicate a.toNat []:List (List Int)).length:Int);
  .bind (α:=List (List Int)) (iter (m0T F a b) F (0,(List.replicate a.toNat []:List (List Int)))) fun c=>some c else none
def n0T (F:Nat):Sm en.D:=⟨137,[G'],.G1 27 [3] (.list N'),[],fun a=>f0C F a⟩
def E0t (F:Nat):=E1 [] 137 ⟨[],[(3,⟨[(9,G')],[(0,.G1 27 [3] (.list N'))]⟩,[(.ex 0,⟨[(9,.any)],[(0,.G1 27 [3] (.list N'))]⟩)])],[],[6]⟩ F
def a02 (d b:List Int)(c:Int)(a:Int):Option (X0 Int Int):=if decide (0<=a)then if C0 b a&&(decide (gt b a<=c)&&decide (c<=a))then some (.done a)else if C0 b a&&C0 d a then some (.next (gt d a))else none else some (.done (-1))
def h0f (F:Nat)(d:List D0)(a b:Int):Option Int:=.bind (e0V F d) fun c=>if decide (a<0)||(decide (b<0)||(decide (a>=(c.length:Int))||decide (b>=(c.length:Int))))then some (-1)else .bind (c0b F d) fun e=>iter (a02 c e b) F a
def r0R (F:Nat):Sm en.D:=⟨160,[.d (.list (.st 0)),G',G'],G',[],fun a=>h0f F a.1 a.2.1 a.2.2⟩
def f0L (F:Nat):Nat->(List D0)->B0->B0->Option (Int×Int×Int)
 | 0,_,_,_=>none
 | i+1,d,a,b=>.bind (T9 F d) fun e=>.bind (if decide (a.To>=0)then some (decide (a.To<(e.length:Int)))else some false) fun j=>.bind (if !j then some true else .bind (if decide (b.To>=0)then some (decide (b.To<(e.length:Int)))else some false) fun k=>some (!k)) fun l=>.bind (if l then some true else some (a.To==b.To)) fun m=>if m then some (0,0,0)else if decide (a.Turn>b.Turn)then some (W (a.Turn+1),W (b.Turn+1),1)else if decide (a.Turn<b.Turn)then some (W (a.Turn+1),W (b.Turn+1),(-1))else if decide (a.To>b.To)then .bind (f0L F i d b a) fun(g,h,n)=>some (h,g,(-1))else if C0 e a.To then if C0 e b.To then .bind (h0f F d (gt e a.To) (gt e b.To)) fun c=>.bind (e0E F d) fun f=>if C0 f c then if C0 d c then if((gt d c).Kind)==3 then some (W ((W ((gt f c)+1))+1),W ((gt f c)+1),1)else some (W ((gt f c)+1),W ((gt f c)+1),1)else none else none else none else none
def n0X (F b:Nat):Sm en.D:=⟨138,[.d (.list (.st 0)),.d (.st 15),.d (.st 15)],.tup [G',G',G'],[],fun a=>f0L F b a.1 a.2.1 a.2.2⟩
def F0Q (F b:Nat):P3 en:=⟨[d0X F,n0X F b,l07 F,r0R F],fun a=>if Nat.beq a 138 then⟨[],[],[(3,5,9,⟨[(24,.any),(29,.d .bool)],[]⟩),(3,11,16,⟨[(30,.any),(36,.d .bool)],[]⟩)],[]⟩else if Nat.beq a 159 then⟨[],[],[(1,4,9,⟨[(7,.any),(13,.d .bool)],[]⟩)],[]⟩else U2,F,[]⟩
def i0k (F:Nat)(e:J2)(b:List Int)(c:Int):Option (X0 Int (Int⊕Unit)):=match c with
 | a=>if decide (a<(b.length:Int))then if C0 b a then .bind (f0v F e (gt b a)) fun d=>if !d then some (.done (.inl a))else some (.next (W (a+1)))else none else some (.done (.inr ()))
def j00 (F:Nat)(p:List D0)(j:J2)(e:List Int)(f:List B0)(a:Int)(l:Int×(List (List Int))×(List (List Int))):Option (X0 (Int×(List (List Int))×(List (List Int))) ((List (List Int))×(List (List Int)))):=match l with
 | (b,c,d)=>if decide (b<a)then .bind (α:=(List (List Int))×(List (List Int))) (if C0 e a then if C0 e b then if(gt e a)==(gt e b)then if C0 c a then if C0 c b then if C0 d a then if C0 f a then if C0 f b then .bind (f0L F F p (gt f a) (gt f b)) fun(m,n,o)=>if C0 (gt c a) b then let i:=c.set a.toNat ((gt c a).set b.toNat m);
            if C0 (gt i b) a then if C0 (gt d a) b then let r:=d.set a.toNat ((gt d a).set b.toNat o);
              some (i.set b.toNat ((gt i b).set a.toNat n),r)else none else none else none else none else none else none else none else none else if C0 c a then if C0 c b then if C0 d a then .bind (e0W F (⟨j,e,f⟩:b0E) a b) fun h=>.bind (e0W F (⟨j,e,f⟩:b0E) b a) fun q=>.bind (h0H F (⟨j,e,f⟩:b0E) a b) fun k=>if C0 (gt c a) b then if C0 (gt (c.set a.toNat ((gt c a).set b.toNat h)) b) a then let s:=(c.set a.toNat ((gt c a).set b.toNat h)).set b.toNat ((gt (c.set a.toNat ((gt c a).set b.toNat h)) b).set a.toNat q);
           if C0 (gt d a) b then let t:=d.set a.toNat ((gt d a).set b.toNat k);
            some (s,t)else none else none else none else none else none else none else none else none) fun(v,g)=>if C0 g b then if C0 g a then if C0 (gt g a) b then if C0 (gt g b) a then let u:=g.set b.toNat ((gt g b).set a.toNat (W (0-(gt (gt g a) b))));
      some (.next (W (b+1),v,u))else none else none else none else none else some (.done (c,d))
def i0L (F:Nat)(g:List D0)(h:J2)(b:List Int)(f:List B0)(e:Int×(List (List Int))×(List (List Int))):Option (X0 (Int×(List (List Int))×(List (List Int))) ((List (List Int))×(List (List Int)))):=match e with
 | (a,c,d)=>if decide (a<(b.length:Int))then .bind (α:=(List (List Int))×(List (List Int))) (iter (j00 F g h b f a) F (0,c,d)) fun(i,j)=>some (.next (W (a+1),i,j))else some (.done (c,d))
def f00 (F:Nat)(d:List D0)(b:J2)(a:List Int)(c:List B0):Option J2:=.bind (f0G F b) fun e=>.bind (if !e then some true else some ((a.length:Int) != (c.length:Int))) fun h=>.bind (if h then some true else .bind (α:=Int⊕Unit) (iter (i0k F b a) F 0) fun m=>match m with
   | .inl j=>some (decide (j>=0))
   | .inr _=>some (decide ((-1)>=0))) fun i=>if i then some (⟨[],[]⟩:J2)else .bind (f0C F (a.length:Int)) fun f=>.bind (f0C F (a.length:Int)) fun g=>.bind (α:=(List (List Int))×(List (List Int))) (iter (i0L F d b a c) F (0,f,g)) fun(l,k)=>some (⟨l,k⟩:J2)
def l0g (F:Nat):Sm en.D:=⟨106,[.d (.list (.st 0)),.d (.st 12),.d (.list N'),.d (.list (.st 15))],.d (.st 12),[],fun a=>f00 F a.1 a.2.1 a.2.2.1 a.2.2.2⟩
def E0g (F:Nat):P3 en:=⟨[h0g F,i0F F,k0Q F,n0T F,n0X F F,l0n F],fun a=>if Nat.beq a 106 then⟨[(14,[(.nrm,⟨[],[(3,.G1 27 [3] (.list N')),(4,.G1 27 [3] (.list N'))]⟩)])],[(6,⟨[(42,G')],[(3,.G1 27 [3] (.list N')),(4,.G1 27 [3] (.list N'))]⟩,[(.ex 0,⟨[(42,.any)],[(3,.G1 27 [3] (.list N')),(4,.G1 27 [3] (.list N'))]⟩)]),(9,⟨[(46,G')],[(3,.G1 27 [3] (.list N')),(4,.G1 27 [3] (.list N'))]⟩,[(.ex 2,⟨[(46,.any)],[(3,.G1 27 [3] (.list N')),(4,.G1 27 [3] (.list N'))]⟩)])],[(1,4,9,⟨[(16,.any),(22,.d .bool)],[]⟩),(1,11,14,⟨[(23,.any),(27,.d .bool)],[]⟩)],[]⟩else if Nat.beq a 79 then U2 else if Nat.beq a 122 then⟨[],[(2,⟨[(8,G')],[]⟩,[(.ret,⟨[(4,G'),(8,.any)],[]⟩),(.ex 0,⟨[(8,.any)],[]⟩)])],[],[]⟩else if Nat.beq a 136 then U2 else U2,F,[]⟩
def m0C (F:Nat)(b:J2)(g:Int×(List (List Int))×(List (List Int))):Option (X0 (Int×(List (List Int))×(List (List Int))) ((List (List Int))×(List (List Int)))):=match g with
 | (a,d,e)=>if decide (a<(b.B.length:Int))then if C0 d a then if C0 b.B a then if C0 e a then if C0 b.D a then let c:=e.set a.toNat (o5 (gt e a) (gt b.D a));
      if C0 c a then if C0 c (b.B.length:Int)then if C0 (gt c a) (b.B.length:Int)then let f:=c.set a.toNat ((gt c a).set (b.B.length:Int).toNat 1);
         if C0 (gt f (b.B.length:Int)) a then let h:=f.set (b.B.length:Int).toNat ((gt f (b.B.length:Int)).set a.toNat (-1));
          some (.next (W (a+1),d.set a.toNat (o5 (gt d a) (gt b.B a)),h))else none else none else none else none else none else none else none else none else some (.done (d,e))
def g0z (F:Nat)(a:J2):Option J2:=.bind (f0G F a) fun b=>if !b then some (⟨[],[]⟩:J2)else .bind (f0C F (W ((a.B.length:Int)+1))) fun c=>.bind (f0C F (W ((a.B.length:Int)+1))) fun d=>.bind (α:=(List (List Int))×(List (List Int))) (iter (m0C F a) F (0,c,d)) fun(e,f)=>some (⟨e,f⟩:J2)
def n0w (F:Nat):Sm en.D:=⟨134,[.d (.st 12)],.d (.st 12),[],fun a=>g0z F a⟩
def K0W (F:Nat):=E1 [h0g F,n0T F] 134 ⟨[],[(6,⟨[(21,G')],[(2,.G1 27 [3] (.list N')),(3,.G1 27 [3] (.list N'))]⟩,[(.ex 0,⟨[(21,.any)],[(2,.G1 27 [3] (.list N')),(3,.G1 27 [3] (.list N'))]⟩)])],[],[]⟩ F
def k0c (F:Nat)(a:List (List Int)):Option (List (List Int)):=if J0 24 ([]:List (List Int)) a then some a else none
def v03 (F:Nat):Sm en.D:=⟨227,[.d (.list (.list N'))],.own 27 (.list N'),[],fun a=>k0c F a⟩
def v0g (F:Nat):P3 en:=⟨[],fun _=>⟨[],[],[],[4]⟩,F,[]⟩
def h0E (F:Nat)(a:L2)(f:(Int×((List (List Int))×(List (List G4))×J2))):Option (X0 (Int×((List (List Int))×(List (List G4))×J2)) ((List (List Int))×(List (List G4))×J2)):=match f with
 | (b,(e,c,d))=>if decide (b<(a.places.length:Int))then if C0 a.places b then if C0 a.chart.roads (gt a.places b)then if J0 24 c [gt a.chart.roads (gt a.places b)]then some (.next (W (b+1),(e,c++[gt a.chart.roads (gt a.places b)],d)))else none else none else none else some (.done (e,c,d))
def h0o (F:Nat)(a:L2)(e:Bool):Option (s9×L2):=.bind (α:=(List (List Int))×J2) (same (.bind (k0c F a.values) fun f=>some (f,a.rank)) (.bind (k0c F a.values) fun g=>some (g,a.rank))) fun(l,h)=>.bind (α:=(List (List Int))×(List (List G4))×J2) (iter (h0E F a) F (0,(l,[],h))) fun(c,b,i)=>.bind (α:=(List (List Int))×(List (List G4))×J2) (if e then .bind (h0e F a) fun d=>if J0 24 c [d]then if J0 24 b [a.chart.begin]then .bind (g0z F a.rank) fun n=>some (c++[d],b++[a.chart.begin],n)else none else none else some (c,b,i)) fun(m,k,j)=>some ((⟨m,k,j⟩:s9),a)
def s0w (F:Nat):Sm en.D:=⟨222,[.box 193 [.d (.st 19)],.d .bool],.d (.st 32),[(0,.box 193 [.d (.st 19)])],fun a=>h0o F a.1 a.2⟩
def N0J (F:Nat):=E1 [k04 F,n0w F,v03 F] 222 ⟨[(11,[(.nrm,⟨[],[(3,.box 351 [.own 27 (.list N'),.own 194 (.list (.st 17)),.d (.st 12)]),(4,.any),(5,.any)]⟩)])],[(3,⟨[(23,G')],[(2,.any),(3,.box 351 [.own 27 (.list N'),.own 194 (.list (.st 17)),.d (.st 12)])]⟩,[(.ex 0,⟨[(23,.any)],[(2,.any),(3,.box 351 [.own 27 (.list N'),.own 194 (.list (.st 17)),.d (.st 12)])]⟩)])],[(1,1000004,11,⟨[(5,.box 351 [.own 27 (.list N'),.nil,.d (.st 12)])],[]⟩)],[]⟩ F
def d0W (F:Nat)(b:List Int)(a:Int):Option Bool:=if decide (0<=IntKind.u8.wrap (a.tdiv 64))&&decide (IntKind.u8.wrap (a.tdiv 64)<4)then if !decide (a.tmod 64<0)then let c:=O3 .u64 (gt b (IntKind.u8.wrap (a.tdiv 64))) (shl .u64 1 (a.tmod 64));
   some (c != 0)else none else none
def c06 (F:Nat):Sm en.D:=⟨89,[.d (.arr 4 (.int .u64)),.d (.int .u8)],.d .bool,[],fun a=>d0W F a.1 a.2⟩
def K0s (F:Nat):=E1 [] 89 U2 F
def i0c (F:Nat)(g:L2)(c:s9)(h:Int)(a:Int)(i:Int×(List J7)):Option (X0 (Int×(List J7)) (List J7)):=match i with
 | (b,d)=>if decide (b<((gt c.roads a).length:Int))then .bind (α:=List J7) (if C0 (gt c.roads a) b then if C0 g.chart.sets (((gt (gt c.roads a) b).Hop).To)then let o:=gtZ 4 g.chart.sets (((gt (gt c.roads a) b).Hop).To);
     .bind (d0W F o h) fun j=>if j then if C0 d (((gt (gt c.roads a) b).Hop).To)then if J0 8 ((gt d (((gt (gt c.roads a) b).Hop).To)).from_) [a]then let k:=((gt d (((gt (gt c.roads a) b).Hop).To)).from_)++[a];
        if decide (((gt (gt c.roads a) b).Hop).To=((gt (gt c.roads a) b).Hop).To)then let e:=d.set (((gt (gt c.roads a) b).Hop).To).toNat ({ gt d (((gt (gt c.roads a) b).Hop).To)with from_:=k });
         if J0 64 ((gt e (((gt (gt c.roads a) b).Hop).To)).roads) [gt (gt c.roads a) b]then let l:=((gt e (((gt (gt c.roads a) b).Hop).To)).roads)++[gt (gt c.roads a) b];
          if decide (((gt (gt c.roads a) b).Hop).To=((gt (gt c.roads a) b).Hop).To)then let f:=e.set (((gt (gt c.roads a) b).Hop).To).toNat ({ gt e (((gt (gt c.roads a) b).Hop).To)with roads:=l });
           if J0 40 ((gt f (((gt (gt c.roads a) b).Hop).To)).hops) [(gt (gt c.roads a) b).Hop]then let m:=((gt f (((gt (gt c.roads a) b).Hop).To)).hops)++[(gt (gt c.roads a) b).Hop];
            if decide (((gt (gt c.roads a) b).Hop).To=((gt (gt c.roads a) b).Hop).To)then let n:=f.set (((gt (gt c.roads a) b).Hop).To).toNat ({ gt f (((gt (gt c.roads a) b).Hop).To)with hops:=m });
             some n else none else none else none else none else none else none else none else some d else none else none) fun p=>some (.next (W (b+1),p))else some (.done d)
def i0Q (F:Nat)(e:L2)(b:s9)(d:Int)(f:Int×(List J7)):Option (X0 (Int×(List J7)) (List J7)):=match f with
 | (a,c)=>if decide (a<(b.roads.length:Int))then if C0 b.roads a then .bind (α:=List J7) (iter (i0c F e b d a) F (0,c)) fun g=>some (.next (W (a+1),g))else none else some (.done c)
def i0I (F:Nat)(a:L2)(c:s9)(b:Int):Option ((List J7)×L2):=if F4 72 (a.chart.sets.length:Int)then .bind (α:=List J7) (iter (i0Q F a c b) F (0,(List.replicate (a.chart.sets.length:Int).toNat (⟨[],[],[]⟩:J7):List J7))) fun d=>some (d,a)else none
def q0e (F:Nat):Sm en.D:=⟨223,[.box 193 [.d (.st 19)],.d (.st 32),.d (.int .u8)],.d (.list (.st 33)),[(0,.box 193 [.d (.st 19)])],fun a=>i0I F a.1 a.2.1 a.2.2⟩
def L0l (F:Nat):P3 en:=⟨[c06 F],fun a=>if Nat.beq a 223 then⟨[(10,[(.nrm,⟨[],[(2,.G1 354 [3,262,169] (.st 33))]⟩)])],[(3,⟨[(24,G')],[(2,.G1 354 [3,262,169] (.st 33))]⟩,[(.ex 0,⟨[(24,.any)],[(2,.G1 354 [3,262,169] (.st 33))]⟩)]),(6,⟨[(31,G')],[(2,.G1 354 [3,262,169] (.st 33))]⟩,[(.ex 2,⟨[(31,.any)],[(2,.G1 354 [3,262,169] (.st 33))]⟩)])],[],[20]⟩else if Nat.beq a 224 then U2 else U2,F,[]⟩
def e0S (F:Nat)(j:s9)(b:List J7)(l:(List Int)×(List (List Int))×Int×L2×((List Int)×(List G4)×(List B0))):Option (X0 ((List Int)×(List (List Int))×Int×L2×((List Int)×(List G4)×(List B0))) ((List Int)×(List (List Int))×L2×((List Int)×(List G4)×(List B0)))):=match l with
 | (g,i,a,d,(e,h,f))=>if decide (a<(b.length:Int))then .bind (α:=(List Int)×(List (List Int))×L2×((List Int)×(List G4)×(List B0))) (if C0 b a then .bind (e0u F j.rank (gt b a).from_ (gt b a).hops) fun c=>if decide (c<0)then some (g,i,(⟨d.chart,d.at_,W (d.work+(((gt b a).from_).length:Int)),d.places,d.values,d.rank⟩:L2),(e,h,f))else if J0 8 g [a]then if C0 (gt b a).from_ c then if C0 j.values (gt (gt b a).from_ c)then if C0 (gt b a).roads c then .bind (b01 F (gt j.values (gt (gt b a).from_ c)) ((gt (gt b a).roads c).marks) d.at_ (-1)) fun k=>if J0 24 i [k]then if C0 (gt b a).from_ c then if C0 (gt b a).roads c then if J0 8 e [gt (gt b a).from_ c]then if J0 64 h [gt (gt b a).roads c]then if J0 40 f [(gt (gt b a).roads c).Hop]then some (g++[a],i++[k],(⟨d.chart,d.at_,W (d.work+(((gt b a).from_).length:Int)),d.places,d.values,d.rank⟩:L2),(e++[gt (gt b a).from_ c],h++[gt (gt b a).roads c],f++[(gt (gt b a).roads c).Hop]))else none else none else none else none else none else none else none else none else none else none else none) fun(o,q,r,(m,p,n))=>some (.next (o,q,W (a+1),r,(m,p,n)))else some (.done (g,i,d,(e,h,f)))
def e05 (F:Nat)(h:L2)(d:Int)(g:Bool):Option L2:=.bind (h0o F h g) fun(c,e)=>.bind (i0I F e c d) fun(m,f)=>.bind (α:=(List Int)×(List (List Int))×L2×((List Int)×(List G4)×(List B0))) (iter (e0S F c m) F ([],[],0,f,([],[],[]))) fun(b,n,a,(i,q,j))=>.bind (f00 F a.chart.l c.rank i j) fun k=>let o:=W ((b.length:Int)*(b.length:Int));
 let p:=W ((W ((b.length:Int)*a.chart.tags))+o);
 some (⟨a.chart,W (a.at_+1),W (a.work+p),b,n,k⟩:L2)
def r0L (F:Nat):Sm en.D:=⟨218,[.box 193 [.d (.st 19)],.d (.int .u8),.d .bool],.tup [],[(0,.box 193 [.d (.st 19)])],fun a=>e05 F a.1 a.2.1 a.2.2⟩
def C0D (F:Nat):P3 en:=⟨[e08 F,l0k F,l0g F,s0w F,q0e F],fun a=>if Nat.beq a 218 then⟨[(13,[(.nrm,⟨[(7,.own 3 N'),(8,.own 27 (.list N'))],[(0,.box 193 [.d (.st 19)]),(3,.box 354 [.own 3 N',.own 262 (.st 17),.own 169 (.st 15)]),(5,.any),(6,.any),(8,.any),(9,.any),(10,.any)]⟩)])],[(5,⟨[(7,.own 3 N'),(8,.own 27 (.list N')),(21,G')],[(0,.box 193 [.d (.st 19)]),(3,.box 354 [.own 3 N',.own 262 (.st 17),.own 169 (.st 15)])]⟩,[(.ex 0,⟨[(7,.own 3 N'),(8,.own 27 (.list N')),(21,.any)],[(0,.box 193 [.d (.st 19)]),(3,.box 354 [.own 3 N',.own 262 (.st 17),.own 169 (.st 15)])]⟩)])],[],[]⟩else if Nat.beq a 224 then U2 else U2,F,[]⟩
def m0c (F:Nat)(d:J2)(b:List Int)(f:Int×Int):Option (X0 (Int×Int) Int):=match f with
 | (c,a)=>if decide (a<(b.length:Int))then .bind (α:=Int) (if C0 b a then .bind (f0v F d (gt b a)) fun g=>.bind (if g then .bind (if decide (c<0)then some true else if C0 d.D (gt b a)then if C0 (gt d.D (gt b a)) c then some (decide ((gt (gt d.D (gt b a)) c)>0))else none else none) fun h=>some h else some false) fun i=>if i then some (gt b a)else some c else none) fun e=>some (.next (e,W (a+1)))else some (.done c)
def j0y (F:Nat)(a:J2)(c:List Int):Option Int:=.bind (f0G F a) fun d=>if !d then some (-1)else .bind (α:=Int) (iter (m0c F a c) F ((-1),0)) fun b=>some b
def k0C (F:Nat):Sm en.D:=⟨96,[.d (.st 12),.d (.list N')],G',[],fun a=>j0y F a.1 a.2⟩
def C0w (F:Nat):=E1 [h0g F,i0F F] 96 ⟨[(9,[(.nrm,⟨[(5,G')],[]⟩)])],[(5,⟨[(5,G'),(14,G')],[]⟩,[(.ex 0,⟨[(5,G'),(14,.any)],[]⟩)])],[(7,4,17,⟨[(21,.any),(35,.d .bool)],[]⟩),(7,7,16,⟨[(24,.any),(34,.d .bool)],[]⟩)],[]⟩ F
def i05 (F:Nat)(b:L2)(e:(List Int)×Int):Option (X0 ((List Int)×Int) (List Int)):=match e with
 | (c,a)=>if decide (a<(b.places.length:Int))then .bind (α:=List Int) (if C0 b.places a then if C0 b.chart.can (gt b.places a)then if gt b.chart.can (gt b.places a)then if J0 8 c [a]then some (c++[a])else none else some c else none else none) fun d=>some (.next (d,W (a+1)))else some (.done c)
def e0b (F:Nat)(a:L2):Option ((List Int)×Bool):=.bind (α:=List Int) (iter (i05 F a) F ([],0)) fun d=>.bind (j0y F a.rank d) fun b=>if decide (b<0)then some ([],false)else if C0 a.values b then if C0 a.places b then if C0 a.chart.ends (gt a.places b)then .bind (b01 F (gt a.values b) ((gt a.chart.ends (gt a.places b)).marks) a.at_ (-1)) fun c=>some (c,true)else none else none else none
def p0D (F:Nat):Sm en.D:=⟨219,[.d (.ptr (.st 19))],.tup [.own 3 N',.d .bool],[],fun a=>e0b F a⟩
def D0b (F:Nat):=E1 [e08 F,k0C F] 219 ⟨[(7,[(.nrm,⟨[(4,.own 3 N')],[(0,.any)]⟩)])],[(3,⟨[(4,.own 3 N'),(13,G')],[]⟩,[(.ex 0,⟨[(4,.own 3 N'),(13,.any)],[]⟩)])],[],[]⟩ F
def o0o (F:Nat)(c:List Int)(b:List Int)(e:(List Int)×Int):Option (X0 ((List Int)×Int) (List Int)):=match e with
 | (d,a)=>if decide (a<(b.length:Int))then if C0 b a then if C0 c (gt b a)then if J0 8 d [gt c (gt b a)]then some (.next (d++[gt c (gt b a)],W (a+1)))else none else none else none else some (.done d)
def f0r (F:Nat)(a:List Int)(b:List Int):Option (List Int):=.bind (α:=List Int) (iter (o0o F a b) F ([],0)) fun c=>some c
def s0S (F:Nat):Sm en.D:=⟨225,[.d (.list N'),.d (.list N')],.own 3 N',[],fun a=>f0r F a.1 a.2⟩
def A0K (F:Nat):=E1 [] 225 ⟨[],[(3,⟨[(5,.own 3 N'),(10,G')],[]⟩,[(.ex 0,⟨[(5,.own 3 N'),(10,.any)],[]⟩)])],[],[]⟩ F
def n0q (F:Nat)(c:List (List Int))(b:List Int)(e:(List (List Int))×Int):Option (X0 ((List (List Int))×Int) (List (List Int))):=match e with
 | (d,a)=>if decide (a<(b.length:Int))then if C0 b a then if C0 c (gt b a)then if J0 24 d [gt c (gt b a)]then some (.next (d++[gt c (gt b a)],W (a+1)))else none else none else none else some (.done d)
def g0q (F:Nat)(a:List (List Int))(b:List Int):Option (List (List Int)):=.bind (α:=List (List Int)) (iter (n0q F a b) F ([],0)) fun c=>some c
def t0e (F:Nat):Sm en.D:=⟨226,[.d (.list (.list N')),.d (.list N')],.own 27 (.list N'),[],fun a=>g0q F a.1 a.2⟩
def M0G (F:Nat):=E1 [] 226 ⟨[],[(3,⟨[(5,.own 27 (.list N')),(10,G')],[]⟩,[(.ex 0,⟨[(5,.own 27 (.list N')),(10,.any)],[]⟩)])],[],[]⟩ F
def i0E (F:Nat)(b:L2)(e:Int)(d:(List Int)×Int):Option (X0 ((List Int)×Int) (List Int)):=match d with
 | (c,a)=>if decide (a<(b.values.length:Int))then .bind (α:=List Int) (if C0 b.values a then if C0 (gt b.values a) 0 then if decide ((gt (gt b.values a) 0)<=e)then if J0 8 c [a]then some (c++[a])else none else some c else none else none) fun f=>some (.next (f,W (a+1)))else some (.done c)
def j06 (F:Nat)(d:List Int)(e:Int×(List (List Int))×(List (List Int))):Option (X0 (Int×(List (List Int))×(List (List Int))) ((List (List Int))×(List (List Int)))):=match e with
 | (a,b,c)=>if decide (a<(d.length:Int))then if C0 b a then if C0 c a then .bind (f0r F (gt b a) d) fun f=>.bind (f0r F (gt c a) d) fun g=>if C0 b a then if C0 c a then some (.next (W (a+1),b.set a.toNat f,c.set a.toNat g))else none else none else none else none else some (.done (b,c))
def e01 (F:Nat)(a:L2)(c:Int):Option L2:=.bind (α:=List Int) (iter (i0E F a c) F ([],0)) fun b=>.bind (f0r F a.places b) fun g=>.bind (g0q F a.values b) fun d=>.bind (g0q F a.rank.B b) fun e=>.bind (g0q F a.rank.D b) fun f=>.bind (α:=(List (List Int))×(List (List Int))) (iter (j06 F b) F (0,e,f)) fun(h,i)=>some (⟨a.chart,a.at_,a.work,g,d,(⟨h,i⟩:J2)⟩:L2)
def r0m (F:Nat):Sm en.D:=⟨220,[.box 193 [.d (.st 19)],G'],.tup [],[(0,.box 193 [.d (.st 19)])],fun a=>e01 F a.1 a.2⟩
def C0p (F:Nat):=E1 [s0S F,t0e F] 220 ⟨[(6,[(.nrm,⟨[(4,.own 3 N')],[(1,.any)]⟩)])],[(10,⟨[(64,G')],[(4,.own 27 (.list N')),(5,.own 27 (.list N'))]⟩,[(.ex 2,⟨[(64,.any)],[(4,.own 27 (.list N')),(5,.own 27 (.list N'))]⟩)]),(2,⟨[(4,.own 3 N'),(15,G')],[]⟩,[(.ex 0,⟨[(4,.own 3 N'),(15,.any)],[]⟩)])],[],[]⟩ F
def f0o (F:Nat):(L2×(List Int)×Int×Bool)->Int->Option (L2×(List Int)×Int×Bool)
 | (c,i,j,is),f=>.bind (d0l F c) fun d=>.bind (if d==0 then some true else some (!is)) fun k=>.bind (e05 F c f k) fun a=>.bind (e0b F a) fun(b,h)=>if h then .bind (d0l F a) fun e=>if C0 b 0 then .bind (e01 F a (gt b 0)) fun g=>some (g,b,e,true)else none else some (a,i,j,is)
def q0W (F:Nat):Sm en.D:=⟨215,[.box 150 [.box 193 [.d (.st 19)],.d (.list N'),G',.d .bool],.d (.int .u8)],.tup [],[(0,.box 150 [.box 193 [.d (.st 19)],.d (.list N'),G',.d .bool])],fun a=>f0o F a.1 a.2⟩
def G0u (F:Nat):=E1 [l0y F,r0L F,p0D F,r0m F] 215 ⟨[],[],[(0,12,17,⟨[(17,.any),(23,.d .bool)],[]⟩)],[]⟩ F
def j0B (F:Nat)(f:V4)(g:N1)(d:Int)(h:Int)(j:Int)(b:List P1)(e:Int×(List Int)):Option (X0 (Int×(List Int)) (List Int)):=match e with
 | (a,c)=>if decide (a<(b.length:Int))then if C0 b a then .bind (k0o F (⟨f,g,d,h,W (j+1),c⟩:S9) (gt b a).From) fun i=>if C0 c ((gt b a).To)then some (.next (W (a+1),c.set ((gt b a).To).toNat i))else none else none else some (.done c)
def m0x (F:Nat):(V4×N1×Int×Int×Int×(List Int))->Int->Option (V4×N1×Int×Int×Int×(List Int))
 | (e,a,d,b,f,g),c=>.bind (α:=V4×N1×Int×Int×Int×(List Int)) (if decide (b>=0)then if C0 a.Stands b then if C0 a.Class c then if C0 ((gt a.Stands b).B2) (gt a.Class c)then let t:=(gt ((gt a.Stands b).B2) (gt a.Class c)).Moves;
      .bind (α:=List Int) (iter (j0B F e a d b f t) F (0,g)) fun w=>let u:=(gt ((gt a.Stands b).B2) (gt a.Class c)).Moves;
      let v:=(gt ((gt a.Stands b).B2) (gt a.Class c)).To;
      some (e,a,d,v,W ((W (f+1))+(u.length:Int)),w)else none else none else none else some (e,a,d,b,W (f+1),g)) fun(j,l,h,p,r,n)=>.bind (f0F F (j,l,W (h+1),p,r,n)) fun(k,m,i,q,s,o)=>some (k,m,i,q,s,o)
def t0z (F:Nat):Sm en.D:=⟨232,[.box 158 [.d (.st 22),.d (.st 8),G',G',G',.own 3 N'],.d (.int .u8)],.tup [],[(0,.box 158 [.d (.st 22),.d (.st 8),G',G',G',.own 3 N'])],fun a=>m0x F a.1 a.2⟩
def H05 (F:Nat):=E1 [n01 F,l06 F] 232 ⟨[(10,[(.nrm,⟨[],[(0,.any),(1,.box 158 [.d (.st 22),.d (.st 8),G',G',G',.own 3 N'])]⟩)])],[(4,⟨[(44,G')],[(0,.own 3 N')]⟩,[(.ex 0,⟨[(44,.any)],[(0,.own 3 N')]⟩)])],[],[]⟩ F
def c0h (F:Nat)(f:List Int)(h:Int×(L2×(List Int)×Int×Bool)):Option (X0 (Int×(L2×(List Int)×Int×Bool)) (L2×(List Int)×Int×Bool)):=match h with
 | (e,(a,c,d,b))=>if decide (e<(f.length:Int))then if C0 f e then .bind (g0C F (⟨(⟨a,c,d,b⟩:a05)⟩:c0A)) fun j=>if j then some (.done (a,c,d,b))else .bind (f0o F (a,c,d,b) (gt f e)) fun(g,k,l,i)=>some (.next (W (e+1),(g,k,l,i)))else none else some (.done (a,c,d,b))
def c09 (F:Nat):(Y4×(L2×(List Int)×Int×Bool))->(List Int)->Option (((Bool×Bool×(List D5))×Int)×(Y4×(L2×(List Int)×Int×Bool)))
 | (a,(b,d,e,is)),c=>if a.closed then some (((false,false,[]),13),(a,(b,d,e,is)))else .bind (α:=L2×(List Int)×Int×Bool) (iter (c0h F c) F (0,(b,d,e,is))) fun(f,k,p,i)=>.bind (h0u F ((⟨a.closed,W (a.count+(c.length:Int))⟩:Y4),(f,k,p,i))) fun((m,n,o),(h,(g,l,q,j)))=>some (((m,n,o),0),(h,(g,l,q,j)))
def m0A (F:Nat):Sm en.D:=⟨11,[.box 58 [.d (.st 9),.ifc 103 (.agg [.box 150 [.box 193 [.d (.st 19)],.d (.list N'),G',.d .bool]])],.d (.list (.int .u8))],.tup [.agg [.d .bool,.d .bool,.d (.list (.st 10))],G'],[(0,.box 58 [.d (.st 9),.ifc 103 (.agg [.box 150 [.box 193 [.d (.st 19)],.d (.list N'),G',.d .bool]])])],fun a=>c09 F a.1 a.2⟩
def H0A (F:Nat):=E1 [o0H F,q0W F,n08 F] 11 ⟨[],[(4,⟨[(16,G')],[(0,.any),(1,.box 150 [.box 193 [.d (.st 19)],.d (.list N'),G',.d .bool])]⟩,[(.ex 0,⟨[(16,.any)],[(0,.any),(1,.box 150 [.box 193 [.d (.st 19)],.d (.list N'),G',.d .bool])]⟩)])],[],[]⟩ F
def h0c (F:Nat):(Y4×(L2×(List Int)×Int×Bool))->Option (((Bool×Bool×(List D5))×Int)×(Y4×(L2×(List Int)×Int×Bool)))
 | (a,(b,c,d,is))=>if a.closed then some (((false,false,[]),13),(a,(b,c,d,is)))else .bind (h0u F ((⟨true,a.count⟩:Y4),(b,c,d,is))) fun((i,j,k),(f,(e,h,l,g)))=>some (((i,j,k),0),(f,(e,h,l,g)))
def n0Y (F:Nat):Sm en.D:=⟨14,[.box 58 [.d (.st 9),.ifc 103 (.agg [.box 150 [.box 193 [.d (.st 19)],.d (.list N'),G',.d .bool]])]],.tup [.agg [.d .bool,.d .bool,.d (.list (.st 10))],G'],[(0,.box 58 [.d (.st 9),.ifc 103 (.agg [.box 150 [.box 193 [.d (.st 19)],.d (.list N'),G',.d .bool]])])],fun a=>h0c F a⟩
def N0D (F:Nat):=E1 [o0H F] 14 U2 F
def p0s (F:Nat):Option (List D0):=some [(⟨2,(-1),(-1),0,[0,8589934592,0,0]⟩:D0),(⟨8,0,(-1),0,[0,0,0,0]⟩:D0),(⟨2,(-1),(-1),0,[0,8589934592,0,0]⟩:D0),(⟨8,2,(-1),0,[0,0,0,0]⟩:D0),(⟨5,3,(-1),0,[0,0,0,0]⟩:D0),(⟨3,1,4,0,[0,0,0,0]⟩:D0)]
def q0O (F:Nat):Sm en.D:=⟨16,[],.own 116 (.st 0),[],fun a=>p0s F⟩
def C0t (F:Nat):=E1 [] 16 U2 F
def k0T (F:Nat)(b:List D5)(c:List D5)(d:Int):Option (X0 Int (Unit⊕Unit)):=match d with
 | a=>if decide (a<(b.length:Int))then if C0 b a then if C0 c a then let e:=!(((gt b a).From==(gt c a).From)&&((gt b a).To==(gt c a).To));
    if e then some (.done (.inl ()))else some (.next (W (a+1)))else none else none else some (.done (.inr ()))
def g0k (F:Nat)(a:List D5)(b:List D5):Option Bool:=if(a.length:Int) != (b.length:Int)then some false else .bind (α:=Unit⊕Unit) (iter (k0T F a b) F 0) fun c=>match c with
  | .inl _=>some false
  | .inr _=>some true
def n02 (F:Nat):Sm en.D:=⟨17,[.d (.list (.st 10)),.d (.list (.st 10))],.d .bool,[],fun a=>g0k F a.1 a.2⟩
def K0y (F:Nat):=E1 [] 17 ⟨[],[(4,⟨[(5,G')],[]⟩,[(.ret,⟨[(4,.kb false),(5,.any)],[]⟩),(.ex 0,⟨[(5,.any)],[]⟩)])],[],[]⟩ F
def h0Y (F:Nat):(Y4×(V4×N1×Int×Int×Int×(List Int)))->Option ((Bool×Bool×(List D5))×(Y4×(V4×N1×Int×Int×Int×(List Int))))
 | (c,(a,d,b,f,g,e))=>.bind (α:=(List D5)×Bool) (if(a.tags.length:Int)==0 then some ([],false)else .bind (j0P F a.tags a.to) fun h=>some (h,true)) fun(i,is)=>.bind (if c.closed then some true else .bind (k09 F (⟨(⟨a,d,b,f,g,e⟩:S9)⟩:d0c)) fun j=>some j) fun k=>some ((is,k,i),(c,(a,d,b,f,g,e)))
def n00 (F:Nat):Sm en.D:=⟨31,[.box 58 [.d (.st 9),.ifc 108 (.agg [.box 158 [.d (.st 22),.d (.st 8),G',G',G',.own 3 N']])]],.agg [.d .bool,.d .bool,.own 65 (.st 10)],[(0,.box 58 [.d (.st 9),.ifc 108 (.agg [.box 158 [.d (.st 22),.d (.st 8),G',G',G',.own 3 N']])])],fun a=>h0Y F a⟩
def G0l (F:Nat):P3 en:=⟨[m0o F,m0J F],fun a=>if Nat.beq a 31 then⟨[(2,[(.nrm,⟨[(3,.own 65 (.st 10)),(4,.d .bool)],[]⟩)])],[],[(2,7,12,⟨[(19,.any),(25,.d .bool)],[]⟩)],[]⟩else if Nat.beq a 233 then U2 else U2,F,[]⟩
def h0C (F:Nat)(h:List Int)(j:Int×(V4×N1×Int×Int×Int×(List Int))):Option (X0 (Int×(V4×N1×Int×Int×Int×(List Int))) (V4×N1×Int×Int×Int×(List Int))):=match j with
 | (g,(b,c,a,e,f,d))=>if decide (g<(h.length:Int))then if C0 h g then .bind (k09 F (⟨(⟨b,c,a,e,f,d⟩:S9)⟩:d0c)) fun o=>if o then some (.done (b,c,a,e,f,d))else .bind (m0x F (b,c,a,e,f,d) (gt h g)) fun(k,l,i,n,p,m)=>some (.next (W (g+1),(k,l,i,n,p,m)))else none else some (.done (b,c,a,e,f,d))
def l0w (F:Nat):(Y4×(V4×N1×Int×Int×Int×(List Int)))->(List Int)->Option (((Bool×Bool×(List D5))×Int)×(Y4×(V4×N1×Int×Int×Int×(List Int))))
 | (a,(d,e,b,g,h,f)),c=>if a.closed then some (((false,false,[]),13),(a,(d,e,b,g,h,f)))else .bind (α:=V4×N1×Int×Int×Int×(List Int)) (iter (h0C F c) F (0,(d,e,b,g,h,f))) fun(l,n,i,r,w,p)=>.bind (h0Y F ((⟨a.closed,W (a.count+(c.length:Int))⟩:Y4),(l,n,i,r,w,p))) fun((t,u,v),(k,(m,o,j,s,x,q)))=>some (((t,u,v),0),(k,(m,o,j,s,x,q)))
def p0O (F:Nat):Sm en.D:=⟨11,[.box 58 [.d (.st 9),.ifc 108 (.agg [.box 158 [.d (.st 22),.d (.st 8),G',G',G',.own 3 N']])],.d (.list (.int .u8))],.tup [.agg [.d .bool,.d .bool,.d (.list (.st 10))],G'],[(0,.box 58 [.d (.st 9),.ifc 108 (.agg [.box 158 [.d (.st 22),.d (.st 8),G',G',G',.own 3 N']])])],fun a=>l0w F a.1 a.2⟩
def I0H (F:Nat):=E1 [t0z F,m0J F,n00 F] 11 ⟨[],[(4,⟨[(16,G')],[(0,.any),(1,.box 158 [.d (.st 22),.d (.st 8),G',G',G',.own 3 N'])]⟩,[(.ex 0,⟨[(16,.any)],[(0,.any),(1,.box 158 [.d (.st 22),.d (.st 8),G',G',G',.own 3 N'])]⟩)])],[],[]⟩ F
def l01 (F:Nat):(Y4×(V4×N1×Int×Int×Int×(List Int)))->Option (((Bool×Bool×(List D5))×Int)×(Y4×(V4×N1×Int×Int×Int×(List Int))))
 | (a,(c,d,b,f,g,e))=>if a.closed then some (((false,false,[]),13),(a,(c,d,b,f,g,e)))else .bind (h0Y F ((⟨true,a.count⟩:Y4),(c,d,b,f,g,e))) fun((n,o,p),(i,(j,k,h,m,q,l)))=>some (((n,o,p),0),(i,(j,k,h,m,q,l)))
def s0K (F:Nat):Sm en.D:=⟨14,[.box 58 [.d (.st 9),.ifc 108 (.agg [.box 158 [.d (.st 22),.d (.st 8),G',G',G',.own 3 N']])]],.tup [.agg [.d .bool,.d .bool,.d (.list (.st 10))],G'],[(0,.box 58 [.d (.st 9),.ifc 108 (.agg [.box 158 [.d (.st 22),.d (.st 8),G',G',G',.own 3 N']])])],fun a=>l01 F a⟩
def H07 (F:Nat):=E1 [n00 F] 14 U2 F
def f0p (F:Nat):Option Bool:=.bind (α:=((Unit⊕(Y4×(L2×(List Int)×Int×Bool)))×Int)) (.bind (p0s F) fun D=>.bind (g0a F D) fun(n,a)=>match n with
  | .inl _=>some ((.inl ()),a)
  | .inr (o,(f,J,P,is))=>some ((.inr (o,(f,J,P,is))),a)) fun(E,b)=>match E with
 | .inl _=>.bind (α:=Int) (.bind (c00 F (⟨0,0,[],[]⟩:N1)) fun(I,e)=>match I with
   | .inl _=>some e
   | .inr (ap,(a2,a4,am,ba,be,a7))=>some e) fun u=>.bind (if b != 0 then some true else some true) fun Z=>.bind (if Z then some true else some (u != 11)) fun aa=>if aa then some false else if !([98,97,97]:List Int).isEmpty then none else none
 | .inr (p,(g,L,Q,z))=>.bind (α:=Int) (.bind (c00 F (⟨0,0,[],[]⟩:N1)) fun(H,d)=>match H with
   | .inl _=>some d
   | .inr (ao,(a1,a3,al,a9,bd,a5))=>some d) fun t=>.bind (if b != 0 then some true else some false) fun X=>.bind (if X then some true else some (t != 11)) fun ab=>if ab then some false else if !([98,97,97]:List Int).isEmpty then .bind (c09 F (p,(g,L,Q,z)) [98,97,97]) fun(((v,x,au),av),(q,(h,M,R,A)))=>if !([98]:List Int).isEmpty then .bind (c09 F (q,(h,M,R,A)) [98]) fun(((aw,y,ax),ay),(r,(i,N,S,B)))=>.bind (h0c F (r,(i,N,S,B))) fun(((an,k,l),m),(s,(j,O,T,C)))=>.bind (c09 F (s,(j,O,T,C)) []) fun(((az,aq,ar),w),(c,(ak,bb,bc,a0)))=>.bind (if v then some (!x)else some false) fun ac=>.bind (if ac then some y else some false) fun ae=>.bind (if ae then .bind (g0k F l [(⟨1,3⟩:D5)]) fun G=>some G else some false) fun af=>.bind (if af then some k else some false) fun ag=>.bind (if ag then some (m==0)else some false) fun ah=>.bind (if ah then some (w==13)else some false) fun ai=>.bind (if ai then some c.closed else some false) fun aj=>.bind (if aj then some (c.count==4)else some false) fun Y=>some Y else none else none
def r0P (F:Nat):Sm en.D:=⟨6,[],.d .bool,[],fun a=>f0p F⟩
def I0T (F:Nat):P3 en:=⟨[n0e F,n0l F,m0A F,n0Y F,q0O F,n02 F],fun a=>if Nat.beq a 6 then⟨[(2,[(.nrm,⟨[(1,.alt .nilp (.box 58 [.d (.st 9),.ifc 103 (.agg [.box 150 [.box 193 [.d (.st 19)],.d (.list N'),G',.d .bool]])])),(2,G')],[]⟩)]),(3,[(.nrm,⟨[(4,G')],[]⟩)])],[],[(3,3,5,⟨[(25,.any),(28,.d .bool)],[]⟩),(3,7,9,⟨[(29,.any),(32,.d .bool)],[]⟩),(9,3,6,⟨[(59,.any),(63,.d .bool)],[]⟩),(9,8,10,⟨[(64,.any),(67,.d .bool)],[]⟩),(9,12,17,⟨[(68,.any),(74,.d .bool)],[]⟩),(9,19,21,⟨[(75,.any),(78,.d .bool)],[]⟩),(9,23,25,⟨[(79,.any),(82,.d .bool)],[]⟩),(9,27,29,⟨[(83,.any),(86,.d .bool)],[]⟩),(9,31,35,⟨[(87,.any),(92,.d .bool)],[]⟩),(9,37,42,⟨[(93,.any),(99,.d .bool)],[]⟩)],[]⟩else if Nat.beq a 13 then U2 else if Nat.beq a 18 then U2 else U2,F,[]⟩
def f0O (F:Nat)(a:Int):Option Bool:=.bind (if a==0 then some true else some (a==1)) fun b=>some b
def n0R (F:Nat):Sm en.D:=⟨34,[G'],.d .bool,[],fun a=>f0O F a⟩
def J0Y (F:Nat):=E1 [] 34 ⟨[],[],[(1,3,5,⟨[(5,.any),(8,.d .bool)],[]⟩)],[]⟩ F
def f0n (F:Nat)(a:List D0)(c:Int):Option (Y1×Int):=.bind (Q9 F a) fun e=>if !e then some ((⟨0,[],[],(⟨[],[]⟩:J2)⟩:Y1),11)else .bind (f0O F c) fun d=>if !d then some ((⟨0,[],[],(⟨[],[]⟩:J2)⟩:Y1),1)else .bind (if c==1 then some true else .bind (f0a F a) fun b=>if C0 b (W ((a.length:Int)-1))then some (gt b (W ((a.length:Int)-1)))else none) fun f=>if f then some ((⟨2,[],[],(⟨[],[]⟩:J2)⟩:Y1),0)else some ((⟨1,[],[],(⟨[],[]⟩:J2)⟩:Y1),0)
def p09 (F:Nat):Sm en.D:=⟨19,[.d (.list (.st 0)),G'],.tup [.d (.st 13),G'],[],fun a=>f0n F a.1 a.2⟩
def N0K (F:Nat):=E1 [a03 F,n0R F,j0V F] 19 ⟨[],[],[(5,3,10,⟨[(16,.any),(24,.d .bool)],[]⟩)],[]⟩ F
def e0d (F:Nat)(a:Int):List (List Int)->Option (List Bool)
 | []=>some []
 | c :: b=>.bind (d0W F c a) fun d=>.bind (e0d F a b) fun e=>some (d :: e)
def g0d (F:Nat)(d:List (List Int))(a:List (List Bool)×List Int)(c:Nat):Option (List (List Bool)×List Int):=.bind (e0d F c d) fun b=>if a.1.contains b then some (a.1,a.2++[(a.1.idxOf b:Int)])else some (a.1++[b],a.2++[(a.1.length:Int)])
def g0n (F:Nat)(a:List (List Int)):Option (List Int×Int):=if decide (a.length<=1000000000)then .bind ((List.range 256).foldlM (g0d F a) ([],[])) fun b=>some (b.2,(b.1.length:Int))else none
def t0n (F:Nat):Sm en.D:=⟨36,[.d (.list (.arr 4 (.int .u64)))],.tup [.d (.list N'),G'],[],fun a=>g0n F a⟩
def i08 (F:Nat)(b:List D0)(d:(List (List Int))×Int):Option (X0 ((List (List Int))×Int) (List (List Int))):=match d with
 | (c,a)=>if decide (a<(b.length:Int))then .bind (α:=List (List Int)) (if C0 b a then if((gt b a).Kind)==2 then if J0 32 c [(gt b a).Set]then some (c++[(gt b a).Set])else none else some c else none) fun e=>some (.next (e,W (a+1)))else some (.done c)
def i0T (F:Nat)(a:List D0):Option ((List Int)×Int):=.bind (Q9 F a) fun d=>if !d then some ([],0)else .bind (α:=List (List Int)) (iter (i08 F a) F ([],0)) fun e=>.bind (g0n F e) fun(b,c)=>some (b,c)
def s0u (F:Nat):Sm en.D:=⟨20,[.d (.list (.st 0))],.tup [.d (.list N'),G'],[],fun a=>i0T F a⟩
def O04 (F:Nat):=E1 [a03 F,t0n F] 20 ⟨[(9,[(.nrm,⟨[(4,.own 114 (.arr 4 (.int .u64)))],[(0,.any)]⟩)])],[(5,⟨[(4,.own 114 (.arr 4 (.int .u64))),(12,G')],[]⟩,[(.ex 0,⟨[(4,.own 114 (.arr 4 (.int .u64))),(12,.any)],[]⟩)])],[],[]⟩ F
def o0T (F:Nat)(b:List Int)(c:List Int)(d:Int):Option (X0 Int (Unit⊕Unit)):=match d with
 | a=>if decide (a<(b.length:Int))then if C0 b a then if C0 c a then if(gt b a) != (gt c a)then some (.done (.inl ()))else some (.next (W (a+1)))else none else none else some (.done (.inr ()))
def e0I (F:Nat)(a:List Int)(b:List Int):Option Bool:=if(a.length:Int) != (b.length:Int)then some false else .bind (α:=Unit⊕Unit) (iter (o0T F a b) F 0) fun c=>match c with
  | .inl _=>some false
  | .inr _=>some true
def n0j (F:Nat):Sm en.D:=⟨59,[.d (.list N'),.d (.list N')],.d .bool,[],fun a=>e0I F a.1 a.2⟩
def O0H (F:Nat):=E1 [] 59 ⟨[],[(4,⟨[(13,G')],[]⟩,[(.ret,⟨[(4,.kb false),(13,.any)],[]⟩),(.ex 0,⟨[(13,.any)],[]⟩)])],[],[]⟩ F
def r0H (F:Nat):Option Unit:=some ()
def r0c (F:Nat):Sm en.D:=⟨38,[],.agg [.fn 58 [],.fn 60 [.box 125 [.fn 58 []]]],[],fun a=>r0H F⟩
def A09 (F:Nat):=E1 [] 38 U2 F
def r0b (F:Nat)(b:J2)(c:J2)(d:Int):Option (X0 Int (Unit⊕Unit)):=match d with
 | a=>if decide (a<(b.B.length:Int))then if C0 b.B a then if C0 c.B a then .bind (e0I F (gt b.B a) (gt c.B a)) fun e=>if !e then some (.done (.inl ()))else some (.next (W (a+1)))else none else none else some (.done (.inr ()))
def p0K (F:Nat)(b:J2)(c:J2)(d:Int):Option (X0 Int (Unit⊕Unit)):=match d with
 | a=>if decide (a<(b.D.length:Int))then if C0 b.D a then if C0 c.D a then .bind (e0I F (gt b.D a) (gt c.D a)) fun e=>if !e then some (.done (.inl ()))else some (.next (W (a+1)))else none else none else some (.done (.inr ()))
def m0m (F:Nat)(a:J2)(b:J2):Option Bool:=if(a.B.length:Int) != (b.B.length:Int)then some false else .bind (α:=Unit⊕Unit) (iter (r0b F a b) F 0) fun c=>match c with
  | .inl _=>some false
  | .inr _=>.bind (if(a.D.length:Int) != (b.D.length:Int)then some false else .bind (α:=Unit⊕Unit) (iter (p0K F a b) F 0) fun c=>match c with
     | .inl _=>some false
     | .inr _=>some true) fun d=>some d
def o0R (F:Nat):Sm en.D:=⟨39,[.d (.st 12),.d (.st 12)],.d .bool,[],fun a=>m0m F a.1 a.2⟩
def I0P (F:Nat):P3 en:=⟨[n0j F],fun a=>if Nat.beq a 39 then⟨[],[],[(2,7,13,⟨[(19,.d .bool)],[]⟩)],[]⟩else if Nat.beq a 61 then⟨[],[(4,⟨[(17,G')],[]⟩,[(.ret,⟨[(6,.kb false),(17,.any)],[]⟩),(.ex 0,⟨[(17,.any)],[]⟩)])],[],[]⟩else U2,F,[]⟩
def p0Q (F:Nat)(b:Y1)(c:Y1)(d:Int):Option (X0 Int (Unit⊕Unit)):=match d with
 | a=>if decide (a<(b.Maps.length:Int))then if C0 b.Maps a then if C0 c.Maps a then .bind (e0I F (gt b.Maps a) (gt c.Maps a)) fun e=>if !e then some (.done (.inl ()))else some (.next (W (a+1)))else none else none else some (.done (.inr ()))
def i0Z (F:Nat)(a:Y1)(b:Y1):Option Bool:=.bind (r0H F) fun _=>.bind (if a.Flag==b.Flag then .bind (e0I F a.Places b.Places) fun c=>some c else some false) fun e=>.bind (if e then let f:=(a.Maps.length:Int) != (b.Maps.length:Int);
   if f then some false else .bind (α:=Unit⊕Unit) (iter (p0Q F a b) F 0) fun i=>match i with
    | .inl _=>some false
    | .inr _=>some true else some false) fun g=>.bind (if g then .bind (m0m F a.Rank b.Rank) fun d=>some d else some false) fun h=>some h
def r0o (F:Nat):Sm en.D:=⟨22,[.d (.st 13),.d (.st 13)],.d .bool,[],fun a=>i0Z F a.1 a.2⟩
def F0R (F:Nat):P3 en:=⟨[r0c F,o0R F,n0j F],fun a=>if Nat.beq a 22 then⟨[],[],[(2,6,13,⟨[(12,.any),(20,.d .bool)],[]⟩),(2,15,22,⟨[(21,.any),(29,.d .bool)],[]⟩),(2,24,29,⟨[(30,.any),(36,.d .bool)],[]⟩)],[]⟩else if Nat.beq a 58 then U2 else if Nat.beq a 60 then U2 else if Nat.beq a 61 then⟨[],[(4,⟨[(17,G')],[]⟩,[(.ret,⟨[(6,.kb false),(17,.any)],[]⟩),(.ex 0,⟨[(17,.any)],[]⟩)])],[],[]⟩else U2,F,[]⟩
def k0b (F:Nat)(b:Y1)(c:Int)(e:Int×Int):Option (X0 (Int×Int) Int):=match e with
 | (d,a)=>if decide (a<((gt b.Maps c).length:Int))then if C0 (gt b.Maps c) a then let f:=if(W ((gt (gt b.Maps c) a)+1))>d then W ((gt (gt b.Maps c) a)+1)else d;
   some (.next (f,W (a+1)))else none else some (.done d)
def k0g (F:Nat)(b:Y1)(d:Int×Int):Option (X0 (Int×Int) Int):=match d with
 | (c,a)=>if decide (a<(b.Maps.length:Int))then if C0 b.Maps a then .bind (α:=Int) (iter (k0b F b a) F (c,0)) fun e=>some (.next (e,W (a+1)))else none else some (.done c)
def d0s (F:Nat)(a:Y1):Option Int:=.bind (α:=Int) (iter (k0g F a) F (0,0)) fun b=>some b
def s0z (F:Nat):Sm en.D:=⟨43,[.d (.st 13)],G',[],fun a=>d0s F a⟩
def J0w (F:Nat):=E1 [] 43 ⟨[],[(3,⟨[(3,G'),(11,G')],[]⟩,[(.ex 0,⟨[(3,G'),(11,.any)],[]⟩)]),(6,⟨[(3,G'),(17,G')],[]⟩,[(.ex 2,⟨[(3,G'),(17,.any)],[]⟩)])],[],[]⟩ F
def n0N (F:Nat)(b:List Int)(e:Int)(c:Int×Int):Option (X0 (Int×Int) (Unit⊕Unit)):=match c with
 | (d,a)=>if decide (a<(b.length:Int))then if C0 b a then .bind (if decide ((gt b a)<=d)then some true else some (decide ((gt b a)>=e))) fun f=>if f then some (.done (.inl ()))else some (.next (gt b a,W (a+1)))else none else some (.done (.inr ()))
def k0t (F:Nat)(b:List Int)(a:Int):Option Bool:=.bind (α:=Unit⊕Unit) (iter (n0N F b a) F ((-1),0)) fun c=>match c with
 | .inl _=>some false
 | .inr _=>some true
def p0a (F:Nat):Sm en.D:=⟨92,[.d (.list N'),G'],.d .bool,[],fun a=>k0t F a.1 a.2⟩
def E02 (F:Nat):=E1 [] 92 ⟨[],[(3,⟨[(5,G'),(10,G')],[]⟩,[(.ret,⟨[(4,.kb false),(5,.any),(10,.any)],[]⟩),(.ex 0,⟨[(5,.any),(10,.any)],[]⟩)])],[(5,4,7,⟨[(17,.any),(21,.d .bool)],[]⟩)],[]⟩ F
def j0i (F:Nat)(b:List (List Int))(d:Int)(e:Int×Int):Option (X0 (Int×Int) (Unit⊕Int)):=match e with
 | (c,a)=>if decide (a<((gt b d).length:Int))then .bind (α:=Int⊕Unit) (if C0 (gt b d) a then if(gt (gt b d) a)==(-2)then some (.inl c)else .bind (if decide ((gt (gt b d) a)<0)then some true else some (decide ((gt (gt b d) a)>c))) fun g=>if g then some (.inr ())else if(gt (gt b d) a)==c then some (.inl (W (c+1)))else some (.inl c)else none) fun h=>match h with
  | .inl f=>some (.next (f,W (a+1)))
  | .inr _=>some (.done (.inl ()))else some (.done (.inr c))
def k0s (F:Nat)(b:List (List Int))(f:Int)(c:Int×Int):Option (X0 (Int×Int) (Unit⊕Unit)):=match c with
 | (d,a)=>if decide (a<(b.length:Int))then if C0 b a then if((gt b a).length:Int) != f then some (.done (.inl ()))else .bind (α:=Unit⊕Int) (iter (j0i F b a) F (d,0)) fun g=>match g with
    | .inl _=>some (.done (.inl ()))
    | .inr e=>some (.next (e,W (a+1)))else none else some (.done (.inr ()))
def j0n (F:Nat)(a:List (List Int))(b:Int):Option Bool:=.bind (α:=Unit⊕Unit) (iter (k0s F a b) F (0,0)) fun c=>match c with
 | .inl _=>some false
 | .inr _=>some true
def p0h (F:Nat):Sm en.D:=⟨94,[.d (.list (.list N')),G'],.d .bool,[],fun a=>j0n F a.1 a.2⟩
def K03 (F:Nat):=E1 [] 94 ⟨[(15,[(.nrm,⟨[(5,G')],[]⟩),(.ret,⟨[(4,.kb false)],[]⟩)])],[(3,⟨[(5,G'),(12,G')],[]⟩,[(.ret,⟨[(4,.kb false),(5,.any),(12,.any)],[]⟩),(.ex 0,⟨[(5,.any),(12,.any)],[]⟩)]),(8,⟨[(5,G'),(22,G')],[]⟩,[(.ret,⟨[(4,.kb false),(5,.any),(22,.any)],[]⟩),(.ex 2,⟨[(5,G'),(22,.any)],[]⟩)])],[(11,3,6,⟨[(32,.any),(36,.d .bool)],[]⟩)],[]⟩ F
def d0k (F:Nat)(b:List D0)(a:Y1):Option Bool:=.bind (Q9 F b) fun f=>.bind (if !f then some true else some (decide (a.Flag<0))) fun i=>.bind (if i then some true else some (decide (a.Flag>2))) fun j=>.bind (if j then some true else let k:=(a.Maps.length:Int) != (a.Places.length:Int);
   some k) fun l=>if l then some false else .bind (T9 F b) fun c=>.bind (k0t F a.Places (c.length:Int)) fun e=>.bind (if e then .bind (e0Y F b) fun h=>.bind (j0n F a.Maps h) fun d=>some d else some false) fun m=>.bind (if m then .bind (i0e F a.Rank (a.Places.length:Int)) fun g=>some g else some false) fun n=>some n
def k0V (F:Nat):Sm en.D:=⟨63,[.d (.list (.st 0)),.d (.st 13)],.d .bool,[],fun a=>d0k F a.1 a.2⟩
def J0J (F:Nat):=E1 [g0M F,a03 F,p0a F,d0X F,p0h F,l0a F] 63 ⟨[],[],[(1,4,7,⟨[(8,.any),(12,.d .bool)],[]⟩),(1,9,12,⟨[(13,.any),(17,.d .bool)],[]⟩),(1,14,21,⟨[(18,.any),(26,.d .bool)],[]⟩),(3,7,12,⟨[(33,.any),(39,.d .bool)],[]⟩),(3,14,20,⟨[(40,.any),(47,.d .bool)],[]⟩)],[]⟩ F
def h09 (F:Nat)(g:List D0)(c:Y1)(e:(List Int)×Int):Option (X0 ((List Int)×Int) (List Int)):=match e with
 | (b,a)=>if decide (a<(c.Places.length:Int))then .bind (α:=List Int) (if C0 c.Places a then .bind (a0W F g (gt c.Places a)) fun(h,f)=>if f then if J0 8 b [a]then some (b++[a])else none else some b else none) fun d=>some (.next (d,W (a+1)))else some (.done b)
def g03 (F:Nat)(d:List D0)(a:Y1):Option Int:=.bind (α:=List Int) (iter (h09 F d a) F ([],0)) fun c=>.bind (j0y F a.Rank c) fun b=>some b
def l02 (F:Nat):Sm en.D:=⟨64,[.d (.list (.st 0)),.d (.st 13)],G',[],fun a=>g03 F a.1 a.2⟩
def B00 (F:Nat):=E1 [j03 F,k0C F] 64 ⟨[(8,[(.nrm,⟨[(5,.own 3 N')],[(1,.any)]⟩)])],[(3,⟨[(5,.own 3 N'),(13,G')],[]⟩,[(.ex 0,⟨[(5,.own 3 N'),(13,.any)],[]⟩)])],[],[]⟩ F
def i0C (F:Nat)(b:List D0):Option (List Int):=.bind (e0Y F b) fun c=>.bind (j0D F c (-2)) fun a=>if C0 a 0 then some (a.set (0:Int).toNat (-1))else none
def m0L (F:Nat):Sm en.D:=⟨68,[.d (.list (.st 0))],.own 3 N',[],fun a=>i0C F a⟩
def O0R (F:Nat):=E1 [g0M F,k0P F] 68 U2 F
def d0J (F:Nat)(b:List D0)(a:Y1):Option (List Int):=.bind (d0k F b a) fun l=>if !l then some []else .bind (g03 F b a) fun c=>if decide (c>=0)then if C0 a.Places c then .bind (a0W F b (gt a.Places c)) fun(g,o)=>if C0 a.Maps c then .bind (d0p F b g.Steps) fun j=>.bind (b01 F (gt a.Maps c) j (-1) (-2)) fun d=>some d else none else none else .bind (a0W F b (-1)) fun(h,i)=>.bind (if i then some (a.Flag==2)else some false) fun m=>.bind (if m then some ((a.Places.length:Int)==0)else some false) fun n=>if n then .bind (i0C F b) fun f=>.bind (d0p F b h.Steps) fun k=>.bind (b01 F f k (-1) (-2)) fun e=>some e else some []
def s03 (F:Nat):Sm en.D:=⟨44,[.d (.list (.st 0)),.d (.st 13)],.own 3 N',[],fun a=>d0J F a.1 a.2⟩
def A05 (F:Nat):=E1 [k0V F,l02 F,j03 F,e08 F,g0A F,m0L F] 44 ⟨[],[],[(8,2,5,⟨[(45,.any),(49,.d .bool)],[]⟩),(8,7,11,⟨[(50,.any),(55,.d .bool)],[]⟩)],[]⟩ F
def j0a (F:Nat)(f:List D0)(b:Y1)(e:(List s6)×Int):Option (X0 ((List s6)×Int) (List s6)):=match e with
 | (c,a)=>if decide (a<(b.Places.length:Int))then if C0 b.Places a then if C0 b.Maps a then .bind (f0e F f (gt b.Places a)) fun d=>if J0 48 c [(⟨gt b.Maps a,d⟩:s6)]then some (.next (c++[(⟨gt b.Maps a,d⟩:s6)],W (a+1)))else none else none else none else some (.done c)
def j0E (F:Nat)(b:List D0)(a:Y1):Option ((List s6)×J2):=.bind (α:=List s6) (iter (j0a F b a) F ([],0)) fun c=>if a.Flag==0 then some (c,a.Rank)else .bind (i0C F b) fun d=>.bind (g0p F b (W ((b.length:Int)-1))) fun e=>if J0 48 c [(⟨d,e⟩:s6)]then .bind (g0z F a.Rank) fun f=>some (c++[(⟨d,e⟩:s6)],f)else none
def s0b (F:Nat):Sm en.D:=⟨103,[.d (.list (.st 0)),.d (.st 13)],.tup [.own 243 (.st 27),.d (.st 12)],[],fun a=>j0E F a.1 a.2⟩
def N0v (F:Nat):=E1 [m0L F,l0T F,l0J F,n0w F] 103 ⟨[],[(3,⟨[(6,.own 243 (.st 27)),(12,G')],[]⟩,[(.ex 0,⟨[(6,.own 243 (.st 27)),(12,.any)],[]⟩)])],[],[]⟩ F
def j0s (F:Nat)(c:List s6)(i:Int)(a:Int)(f:(List Int)×(List B0)×Int):Option (X0 ((List Int)×(List B0)×Int) ((List Int)×(List B0))):=match f with
 | (d,e,b)=>let j:=decide (b<(((gt c a).ways).length:Int));
 if j then .bind (α:=(List Int)×(List B0)) (if C0 (gt c a).ways b then if((gt (gt c a).ways b).To)==i then if J0 8 d [a]then if J0 40 e [gt (gt c a).ways b]then some (d++[a],e++[gt (gt c a).ways b])else none else none else some (d,e)else none) fun(g,h)=>some (.next (g,h,W (b+1)))else some (.done (d,e))
def i01 (F:Nat)(b:List s6)(h:Int)(e:(List Int)×(List B0)×Int):Option (X0 ((List Int)×(List B0)×Int) ((List Int)×(List B0))):=match e with
 | (c,d,a)=>if decide (a<(b.length:Int))then if C0 b a then .bind (α:=(List Int)×(List B0)) (iter (j0s F b h a) F (c,d,0)) fun(f,g)=>some (.next (f,g,W (a+1)))else none else some (.done (c,d))
def l0H (F:Nat)(a:List s6)(d:Int):Option ((List Int)×(List B0)):=.bind (α:=(List Int)×(List B0)) (iter (i01 F a d) F ([],[],0)) fun(b,c)=>some (b,c)
def q0C (F:Nat):Sm en.D:=⟨104,[.d (.list (.st 27)),G'],.tup [.own 3 N',.own 169 (.st 15)],[],fun a=>l0H F a.1 a.2⟩
def O0z (F:Nat):=E1 [] 104 ⟨[(12,[(.nrm,⟨[(6,.own 3 N'),(7,.own 169 (.st 15))],[(3,.any),(4,.any)]⟩)])],[(4,⟨[(6,.own 3 N'),(7,.own 169 (.st 15)),(14,G')],[]⟩,[(.ex 0,⟨[(6,.own 3 N'),(7,.own 169 (.st 15)),(14,.any)],[]⟩)]),(7,⟨[(6,.own 3 N'),(7,.own 169 (.st 15)),(22,G')],[(0,.any),(1,.any),(2,.any)]⟩,[(.ex 2,⟨[(6,.own 3 N'),(7,.own 169 (.st 15)),(22,.any)],[(0,.any),(1,.any),(2,.any)]⟩)])],[],[]⟩ F
def n0a (F:Nat)(c:List Int)(b:List Int)(e:(List Int)×Int):Option (X0 ((List Int)×Int) (List Int)):=match e with
 | (d,a)=>if decide (a<(b.length:Int))then if C0 b a then if C0 c (gt b a)then if J0 8 d [gt c (gt b a)]then some (.next (d++[gt c (gt b a)],W (a+1)))else none else none else none else some (.done d)
def g0g (F:Nat)(a:List Int)(b:List Int):Option (List Int):=.bind (α:=List Int) (iter (n0a F a b) F ([],0)) fun c=>some c
def n0v (F:Nat):Sm en.D:=⟨140,[.d (.list N'),.d (.list N')],.own 3 N',[],fun a=>g0g F a.1 a.2⟩
def H00 (F:Nat):=E1 [] 140 ⟨[],[(3,⟨[(5,.own 3 N'),(10,G')],[]⟩,[(.ex 0,⟨[(5,.own 3 N'),(10,.any)],[]⟩)])],[],[]⟩ F
def g0S (F:Nat)(c:List (List Int))(b:List Int):Option (List (List Int)):=if a0H (fun a=>a) b&&(b.all (fun a=>C0 c a)&&J0 24 ([]:List (List Int)) (b.map fun a=>gt c a))then some (b.map fun a=>gt c a)else none
def r03 (F:Nat):Sm en.D:=⟨141,[.G1 27 [3] (.list N'),.d (.list N')],.G1 27 [3] (.list N'),[],fun a=>g0S F a.1 a.2⟩
def l04 (F:Nat)(c:List (List Int))(b:List Int)(e:(List (List Int))×Int):Option (X0 ((List (List Int))×Int) (List (List Int))):=match e with
 | (d,a)=>if decide (a<(b.length:Int))then if C0 b a then if C0 c (gt b a)then if J0 24 d [gt c (gt b a)]then some (.next (d++[gt c (gt b a)],W (a+1)))else none else none else none else some (.done d)
def n0F (F:Nat)(a:List (List Int))(b:List Int):Option (List (List Int)):=.bind (α:=List (List Int)) (iter (l04 F a b) F ([],0)) fun c=>some c
def t0o (F:Nat):Sm en.D:=⟨141,[.d (.list (.list N')),.d (.list N')],.own 27 (.list N'),[],fun a=>n0F F a.1 a.2⟩
def F0K (F:Nat):=E1 [] 141 ⟨[],[(3,⟨[(5,.own 27 (.list N')),(10,G')],[]⟩,[(.ex 0,⟨[(5,.own 27 (.list N')),(10,.any)],[]⟩)])],[],[]⟩ F
def n0k (F:Nat)(f:List Int)(c:List (List Int))(e:(List (List Int))×Int):Option (X0 ((List (List Int))×Int) (List (List Int))):=match e with
 | (b,a)=>if decide (a<(c.length:Int))then if C0 c a then .bind (g0g F (gt c a) f) fun d=>if J0 24 b [d]then some (.next (b++[d],W (a+1)))else none else none else some (.done b)
def k0j (F:Nat)(b:List (List Int))(a:List Int):Option (List (List Int)):=.bind (n0F F b a) fun d=>.bind (α:=List (List Int)) (iter (n0k F a d) F ([],0)) fun c=>some c
def p0c (F:Nat):Sm en.D:=⟨142,[.d (.list (.list N')),.d (.list N')],.own 27 (.list N'),[],fun a=>k0j F a.1 a.2⟩
def L0N (F:Nat):=E1 [n0v F,t0o F] 142 ⟨[],[(3,⟨[(5,.own 27 (.list N')),(12,G')],[]⟩,[(.ex 0,⟨[(5,.own 27 (.list N')),(12,.any)],[]⟩)])],[],[]⟩ F
def i0G (F:Nat)(f:List Int)(c:J2)(b:Int)(e:(List Int)×Int):Option (X0 ((List Int)×Int) (List Int)):=match e with
 | (d,a)=>if decide (a<(f.length:Int))then .bind (α:=List Int) (.bind (if a==b then some true else if C0 c.B a then if C0 (gt c.B a) b then some (decide ((gt (gt c.B a) b)>0))else none else none) fun h=>.bind (if h then some true else if C0 c.D b then if C0 (gt c.D b) a then some (decide ((gt (gt c.D b) a)<0))else none else none) fun i=>if i then if J0 8 d [a]then some (d++[a])else none else some d) fun g=>some (.next (g,W (a+1)))else some (.done d)
def l0V (F:Nat):(List D0)->(Int×(List Int)×(List (List Int))×J2)->Option (Int×(List Int)×(List (List Int))×J2)
 | g,(f,b,d,a)=>.bind (g03 F g (⟨f,b,d,a⟩:Y1)) fun e=>if decide (e<0)then some (f,b,d,a)else .bind (α:=List Int) (iter (i0G F b a e) F ([],0)) fun c=>.bind (g0g F b c) fun i=>.bind (g0S F d c) fun h=>.bind (k0j F a.B c) fun j=>.bind (k0j F a.D c) fun k=>some (0,i,h,(⟨j,k⟩:J2))
def r09 (F:Nat):Sm en.D:=⟨107,[.d (.list (.st 0)),.agg [G',.d (.list N'),.G1 27 [3] (.list N'),.d (.st 12)]],.agg [G',.d (.list N'),.G1 27 [3] (.list N'),.d (.st 12)],[],fun a=>l0V F a.1 a.2⟩
def I09 (F:Nat):=E1 [l02 F,n0v F,r03 F,p0c F] 107 ⟨[(10,[(.nrm,⟨[(6,.own 3 N')],[(3,.any)]⟩)])],[(6,⟨[(6,.own 3 N'),(17,G')],[]⟩,[(.ex 0,⟨[(6,.own 3 N'),(17,.any)],[]⟩)])],[(8,4,14,⟨[(23,.any),(34,.d .bool)],[]⟩),(8,16,26,⟨[(35,.any),(46,.d .bool)],[]⟩)],[]⟩ F
def j08 (F:Nat)(b:Int)(j:List (List Int))(f:(List Int)×Int×(List (List Int))×(List (Int×Int))):Option (X0 ((List Int)×Int×(List (List Int))×(List (Int×Int))) ((List Int)×(List (List Int))×(List (Int×Int)))):=match f with
 | (d,c,a,e)=>if decide (c<((gt j b).length:Int))then .bind (α:=(List Int)×(List (List Int))×(List (Int×Int))) (if C0 (gt a b) c then if(gt (gt a b) c)==(-2)then some (d,a,e)else .bind (α:=(List Int)×Int×(List (Int×Int))) (if !(T3 e (gt (gt a b) c))then if J0 8 d [gt (gt a b) c]then some (d++[gt (gt a b) c],(d.length:Int),P6 e (gt (gt a b) c) (d.length:Int))else none else some (d,B3 e (gt (gt a b) c),e)) fun(h,g,k)=>if C0 (gt a b) c then some (h,a.set b.toNat ((gt a b).set c.toNat g),k)else none else none) fun(i,l,m)=>some (.next (i,W (c+1),l,m))else some (.done (d,a,e))
def i0u (F:Nat)(e:List (List Int))(d:(List Int)×Int×(List (List Int))×(List (Int×Int))):Option (X0 ((List Int)×Int×(List (List Int))×(List (Int×Int))) ((List Int)×(List (List Int)))):=match d with
 | (c,a,b,g)=>if decide (a<(e.length:Int))then if C0 b a then .bind (α:=(List Int)×(List (List Int))×(List (Int×Int))) (iter (j08 F a b) F (c,0,b,g)) fun(f,h,i)=>some (.next (f,W (a+1),h,i))else none else some (.done (c,b))
def i0U (F:Nat):(Int×(List Int)×(List (List Int))×J2)->Option (Y1×(List Int))
 | (b,c,a,d)=>.bind (α:=(List Int)×(List (List Int))) (iter (i0u F a) F ([],0,a,([]:List (Int×Int)))) fun(e,f)=>some ((⟨b,c,f,d⟩:Y1),e)
def q0E (F:Nat):Sm en.D:=⟨108,[.agg [G',.d (.list N'),.G1 27 [3] (.list N'),.d (.st 12)]],.tup [.d (.st 13),.own 3 N'],[],fun a=>i0U F a⟩
def K0Q (F:Nat):=E1 [] 108 ⟨[(15,[(.nrm,⟨[(5,.own 3 N'),(10,G')],[(3,.map),(8,.any)]⟩)]),(16,[(.nrm,⟨[(5,.own 3 N')],[(0,.G1 27 [3] (.list N')),(3,.map),(8,.any)]⟩)])],[(4,⟨[(5,.own 3 N'),(16,G')],[(0,.G1 27 [3] (.list N')),(3,.map)]⟩,[(.ex 0,⟨[(5,.own 3 N'),(16,.any)],[(0,.G1 27 [3] (.list N')),(3,.any)]⟩)]),(7,⟨[(5,.own 3 N'),(22,G')],[(0,.G1 27 [3] (.list N')),(3,.map),(4,.any),(5,.any)]⟩,[(.ex 2,⟨[(5,.own 3 N'),(22,.any)],[(0,.G1 27 [3] (.list N')),(3,.map),(4,.any),(5,.any)]⟩)])],[],[]⟩ F
def f01 (F:Nat)(m:List D0)(s:Int)(v:J2)(l:List Int)(u:((List s6)×(List Int)×(List B0)×Int×(Int×(List Int)×(List (List Int))×J2))):Option (X0 ((List s6)×(List Int)×(List B0)×Int×(Int×(List Int)×(List (List Int))×J2)) ((List Int)×(List B0)×(Int×(List Int)×(List (List Int))×J2))):=match u with
 | (k,g,h,b,(i,f,e,j))=>if decide (b<(l.length:Int))then .bind (α:=((List Int)×(List B0)×(Int×(List Int)×(List (List Int))×J2))) (if C0 l b then if C0 m (gt l b)then .bind (d0W F ((gt m (gt l b)).Set) s) fun w=>if !w then some (g,h,(i,f,e,j))else .bind (l0H F k b) fun(c,d)=>.bind (e0u F v c d) fun a=>if decide (a<0)then some (g,h,(i,f,e,j))else if J0 8 f [b]then if C0 c a then if C0 k (gt c a)then if C0 d a then .bind (d0p F m (gt d a).Steps) fun y=>.bind (b01 F ((gt k (gt c a)).tags) y (-1) (-2)) fun n=>if J0 24 e [n]then if C0 c a then if J0 8 g [gt c a]then if C0 d a then if J0 40 h [gt d a]then some (g++[gt c a],h++[gt d a],(i,f++[b],e++[n],j))else none else none else none else none else none else none else none else none else none else none else none) fun(t,x,(o,q,p,r))=>some (.next (k,t,x,W (b+1),(o,q,p,r)))else some (.done (g,h,(i,f,e,j)))
def e0i (F:Nat)(a:List D0)(g:Int)(b:Y1)(q:Int):Option (Y1×(List Int)):=.bind (f0O F g) fun z=>.bind (if !z then some true else .bind (d0k F a b) fun C=>some (!C)) fun D=>if D then some ((⟨0,[],[],(⟨[],[]⟩:J2)⟩:Y1),[])else .bind (j0E F a b) fun(w,f)=>.bind (α:=Int×(List Int)×(List (List Int))×J2) (if b.Flag==1 then some (1,[],[],(⟨[],[]⟩:J2))else some (0,[],[],(⟨[],[]⟩:J2))) fun(i,m,k,o)=>.bind (T9 F a) fun y=>.bind (α:=((List Int)×(List B0)×(Int×(List Int)×(List (List Int))×J2))) (iter (f01 F a q f y) F (w,[],[],0,(i,m,k,o))) fun(r,x,(c,e,d,E))=>.bind (f00 F a f r x) fun h=>.bind (α:=Int×(List Int)×(List (List Int))×J2) (if g==0 then .bind (l0V F a (c,e,d,h)) fun(s,t,u,v)=>some (s,t,u,v)else some (c,e,d,h)) fun(j,n,l,p)=>.bind (i0U F (j,n,l,p)) fun(A,B)=>some (A,B)
def p0g (F:Nat):Sm en.D:=⟨69,[.d (.list (.st 0)),G',.d (.st 13),.d (.int .u8)],.tup [.d (.st 13),.own 3 N'],[],fun a=>e0i F a.1 a.2.1 a.2.2.1 a.2.2.2⟩
def C0u (F:Nat):=E1 [n0R F,k0V F,e08 F,g0A F,c06 F,d0X F,s0b F,q0C F,l0k F,l0g F,r09 F,q0E F] 69 ⟨[(20,[(.nrm,⟨[(13,.own 3 N'),(14,.own 169 (.st 15))],[(4,.box 70 [G',.own 3 N',.G1 27 [3] (.list N'),.d (.st 12)]),(9,.any),(10,.any),(11,.any),(12,.any)]⟩)]),(24,[(.nrm,⟨[],[(4,.box 70 [G',.d (.list N'),.G1 27 [3] (.list N'),.d (.st 12)]),(11,.any),(12,.any)]⟩)]),(7,[(.nrm,⟨[],[(4,.box 70 [G',.own 3 N',.G1 27 [3] (.list N'),.d (.st 12)])]⟩)])],[(10,⟨[(10,.d (.list (.st 27))),(13,.own 3 N'),(14,.own 169 (.st 15)),(43,G')],[(2,.any),(4,.box 70 [G',.own 3 N',.G1 27 [3] (.list N'),.d (.st 12)]),(5,.any),(6,.any)]⟩,[(.ex 0,⟨[(10,.any),(13,.own 3 N'),(14,.own 169 (.st 15)),(43,.any)],[(2,.any),(4,.box 70 [G',.own 3 N',.G1 27 [3] (.list N'),.d (.st 12)]),(5,.any),(6,.any)]⟩)])],[(1,4,8,⟨[(23,.any),(28,.d .bool)],[]⟩)],[92]⟩ F
def g0s (F:Nat)(b:List Y1)(d:Y1)(c:Int):Option (X0 Int (Int⊕Unit)):=match c with
 | a=>if decide (a<(b.length:Int))then if C0 b a then .bind (i0Z F d (gt b a)) fun e=>if e then some (.done (.inl a))else some (.next (W (a+1)))else none else some (.done (.inr ()))
def l0c (F:Nat):((List D0)×Int×(List Int)×(List Y1))->Y1->Int->Option (I6×((List D0)×Int×(List Int)×(List Y1)))
 | (c,d,a,b),h,f=>if C0 a f then .bind (α:=Y1×(List Int)) (same (.bind (e0i F c d h (gt a f)) fun(m,n)=>some (m,n)) (.bind (e0i F c d h (gt a f)) fun(o,p)=>some (o,p))) fun(e,q)=>.bind (if(e.Places.length:Int)==0 then some (e.Flag==0)else some false) fun s=>if s then some ((⟨(-1),[]⟩:I6),(c,d,a,b))else .bind (α:=Int) (.bind (α:=Int⊕Unit) (iter (g0s F b e) F 0) fun u=>match u with
    | .inl t=>some t
    | .inr _=>some (-1)) fun g=>.bind (α:=Int×((List D0)×Int×(List Int)×(List Y1))) (if decide (g<0)then if J0 104 b [e]then some ((b.length:Int),(c,d,a,b++[e]))else none else some (g,(c,d,a,b))) fun(i,(j,l,k,r))=>some ((⟨i,q⟩:I6),(j,l,k,r))else none
def r0I (F:Nat):Sm en.D:=⟨45,[.box 82 [.d (.list (.st 0)),G',.d (.list (.int .u8)),.agg [.own 70 (.st 13),.fn 22 []]],.d (.st 13),G'],.d (.st 2),[(0,.box 82 [.d (.list (.st 0)),G',.d (.list (.int .u8)),.agg [.own 70 (.st 13),.fn 22 []]])],fun a=>l0c F a.1 a.2.1 a.2.2⟩
def N0e (F:Nat):P3 en:=⟨[r0o F,p0g F],fun a=>if Nat.beq a 45 then⟨[],[],[(1,1000016,22,⟨[(7,.box 70 [.d (.st 13)]),(8,.own 3 N')],[]⟩),(2,5,8,⟨[(33,.any),(37,.d .bool)],[]⟩)],[]⟩else if Nat.beq a 23 then⟨[(2,[(.nrm,⟨[(5,G')],[]⟩)]),(5,[(.nrm,⟨[(5,G')],[(0,.any),(1,.box 82 [.d (.list (.st 0)),G',.d (.list (.int .u8)),.agg [.own 70 (.st 13),.fn 22 []]])]⟩)])],[],[],[]⟩else if Nat.beq a 40 then⟨[],[(2,⟨[(8,G')],[]⟩,[(.ret,⟨[(4,G'),(8,.any)],[]⟩),(.ex 0,⟨[(8,.any)],[]⟩)])],[],[]⟩else if Nat.beq a 41 then U2 else U2,F,[]⟩
def i00 (F:Nat)(m:List Int)(k:Y1)(j:Int×((List D0)×Int×(List Int)×(List Y1))×(Int×(List Int)×(List I6))):Option (X0 (Int×((List D0)×Int×(List Int)×(List Y1))×(Int×(List Int)×(List I6))) (((List D0)×Int×(List Int)×(List Y1))×(Int×(List Int)×(List I6)))):=match j with
 | (b,(f,h,g,i),(d,c,a))=>if decide (b<(m.length:Int))then .bind (l0c F (f,h,g,i) k b) fun(e,(l,o,n,p))=>if J0 32 a [e]then some (.next (W (b+1),(l,o,n,p),(d,c,a++[e])))else none else some (.done ((f,h,g,i),(d,c,a)))
def k0W (F:Nat):((List D0)×Int×(List Int)×(List Y1))->Y1->Option (j7×((List D0)×Int×(List Int)×(List Y1)))
 | (b,q,c,t),a=>.bind (α:=Int×(List Int)) (same (.bind (d0s F a) fun d=>.bind (α:=Int×(List Int)) (same (.bind (d0J F b a) fun l=>some (d,l)) (.bind (d0J F b a) fun m=>some (d,m))) fun(i,e)=>some (i,e)) (.bind (d0s F a) fun s=>.bind (d0J F b a) fun n=>some (s,n))) fun(j,f)=>.bind (α:=((List D0)×Int×(List Int)×(List Y1))×(Int×(List Int)×(List I6))) (iter (i00 F c a) F (0,(b,q,c,t),(j,f,[]))) fun((o,r,p,u),(k,g,h))=>some ((⟨k,g,h⟩:j7),(o,r,p,u))
def q00 (F:Nat):Sm en.D:=⟨25,[.box 82 [.d (.list (.st 0)),G',.d (.list (.int .u8)),.agg [.own 70 (.st 13),.fn 22 []]],.d (.st 13)],.d (.st 3),[(0,.box 82 [.d (.list (.st 0)),G',.d (.list (.int .u8)),.agg [.own 70 (.st 13),.fn 22 []]])],fun a=>k0W F a.1 a.2⟩
def H0F (F:Nat):=E1 [s0z F,s03 F,r0I F] 25 ⟨[],[(3,⟨[(21,G')],[(0,.any),(1,.box 82 [.d (.list (.st 0)),G',.d (.list (.int .u8)),.agg [.own 70 (.st 13),.fn 22 []]]),(4,.any),(5,.box 87 [G',.own 3 N',.own 136 (.st 2)])]⟩,[(.ex 0,⟨[(21,.any)],[(0,.any),(1,.box 82 [.d (.list (.st 0)),G',.d (.list (.int .u8)),.agg [.own 70 (.st 13),.fn 22 []]]),(4,.any),(5,.box 87 [G',.own 3 N',.own 136 (.st 2)])]⟩)])],[(1,1000001,10,⟨[(5,.box 87 [G',.own 3 N',.nil])],[]⟩),(1,1000007,10,⟨[(5,.box 87 [G',.own 3 N',.nil])],[]⟩)],[]⟩ F
def w0o (F:Nat)(a:Unit):Option (X0 Unit Unit):=match a with
 | _=>if decide (0<0)then none else some (.done ())
def d0a (F:Nat)(f:Int)(h:Int×((List D0)×Int×(List Int)×(List Y1))×(Int×(List Int)×(List j7))):Option (X0 (Int×((List D0)×Int×(List Int)×(List Y1))×(Int×(List Int)×(List j7))) ((Int×E4)⊕(Int×(List Int)×(List j7)))):=match h with
 | (b,(i,m,k,a),(e,d,c))=>if decide (b<(a.length:Int))then let p:=decide ((a.length:Int)>(if 400<f then 400 else f));
  if p then some (.done (.inl (14,(⟨0,[],[]⟩:E4))))else if C0 a b then .bind (k0W F (i,m,k,a) (gt a b)) fun(g,(j,n,l,o))=>if J0 56 c [g]then some (.next (W (b+1),(j,n,l,o),(e,d,c++[g])))else none else none else some (.done (.inr (e,d,c)))
def g0e (F:Nat)(a:List D0)(b:Int)(j:Int):Option (E4×Int):=.bind (f0n F a b) fun(c,d)=>if d != 0 then some ((⟨0,[],[]⟩:E4),d)else .bind (i0T F a) fun(f,t)=>.bind (f0J F f) fun e=>.bind (α:=Unit) (iter (w0o F) F ()) fun _=>.bind (α:=Int×((List D0)×Int×(List Int)×(List Y1))) (if decide ((-1)<0)then if J0 104 ([]:List Y1) [c]then some (0,(a,b,e,[]++[c]))else none else some ((-1),(a,b,e,[]))) fun(s,(k,m,l,n))=>.bind (e0Y F a) fun o=>.bind (α:=(Int×E4)⊕(Int×(List Int)×(List j7))) (iter (d0a F j) F (0,(k,m,l,n),(o,f,[]))) fun r=>match r with
  | .inl (p,q)=>some (q,p)
  | .inr (i,g,h)=>some ((⟨i,g,h⟩:E4),0)
def s0P (F:Nat):Sm en.D:=⟨7,[.d (.list (.st 0)),G',G'],.tup [.d (.st 4),G'],[],fun a=>g0e F a.1 a.2.1 a.2.2⟩
def M0g (F:Nat):P3 en:=⟨[p09 F,s0u F,i0B F,g0M F,q00 F],fun a=>if Nat.beq a 7 then⟨[],[(10,⟨[(14,G')],[(3,.box 82 [.d (.list (.st 0)),G',.d (.list (.int .u8)),.agg [.own 70 (.st 13),.fn 22 []]]),(6,.any),(7,.any),(9,.box 30 [G',.d (.list N'),.own 87 (.st 3)])]⟩,[(.ret,⟨[(7,G'),(14,.any)],[(0,.box 30 [.d (.st 4)]),(3,.any),(6,.any),(7,.any),(9,.any)]⟩),(.ex 0,⟨[(14,.any)],[(3,.any),(6,.any),(7,.any),(9,.box 30 [G',.d (.list N'),.own 87 (.st 3)])]⟩)])],[],[]⟩else if Nat.beq a 23 then⟨[(5,[(.nrm,⟨[(5,G')],[(2,.any),(3,.box 82 [.d (.list (.st 0)),G',.own 5 (.int .u8),.agg [.own 70 (.st 13),.fn 22 []]])]⟩)])],[],[],[]⟩else if Nat.beq a 40 then⟨[],[(2,⟨[],[]⟩,[(.ex 0,⟨[],[]⟩)])],[],[]⟩else U2,F,[]⟩
def i0Y (F:Nat)(a:Int)(b:Int):Option Bool:=.bind (if a==(-1)then some true else .bind (if decide (a>=0)then some (decide (a<b))else some false) fun c=>some c) fun d=>some d
def n0f (F:Nat):Sm en.D:=⟨110,[G',G'],.d .bool,[],fun a=>i0Y F a.1 a.2⟩
def D04 (F:Nat):=E1 [] 110 ⟨[],[],[(1,3,10,⟨[(7,.any),(15,.d .bool)],[]⟩),(1,6,9,⟨[(10,.any),(14,.d .bool)],[]⟩)],[]⟩ F
def o0w (F:Nat)(b:j7)(c:Int):Option (X0 Int (Int⊕Unit)):=match c with
 | a=>if decide (a<(b.Accept.length:Int))then if C0 b.Accept a then .bind (if(gt b.Accept a) != (-2)then .bind (i0Y F (gt b.Accept a) b.Regs) fun d=>some (!d)else some false) fun e=>if e then some (.done (.inl a))else some (.next (W (a+1)))else none else some (.done (.inr ()))
def m0j (F:Nat)(a:j7)(b:Int):Option Bool:=.bind (if(a.Accept.length:Int)==0 then some true else .bind (if(a.Accept.length:Int)==b then .bind (α:=Int⊕Unit) (iter (o0w F a) F 0) fun f=>match f with
     | .inl e=>some (!(decide (e>=0)))
     | .inr _=>some (!(decide ((-1)>=0)))else some false) fun c=>some c) fun d=>some d
def q0b (F:Nat):Sm en.D:=⟨70,[.d (.st 3),G'],.d .bool,[],fun a=>m0j F a.1 a.2⟩
def C0F (F:Nat):P3 en:=⟨[n0f F],fun a=>if Nat.beq a 70 then⟨[],[],[(2,5,17,⟨[(11,.any),(24,.d .bool)],[]⟩),(2,11,16,⟨[(17,.any),(23,.d .bool)],[]⟩)],[]⟩else if Nat.beq a 79 then U2 else if Nat.beq a 109 then⟨[],[],[(1,3,8,⟨[(6,.any),(12,.d .bool)],[]⟩)],[]⟩else if Nat.beq a 122 then⟨[],[(2,⟨[(8,G')],[]⟩,[(.ret,⟨[(4,G'),(8,.any)],[]⟩),(.ex 0,⟨[(8,.any)],[]⟩)])],[],[]⟩else U2,F,[]⟩
def m0X (F:Nat)(e:j7)(b:I6)(c:Int):Option (X0 Int (Int⊕Unit)):=match c with
 | a=>if decide (a<(b.Src.length:Int))then if C0 b.Src a then .bind (i0Y F (gt b.Src a) e.Regs) fun d=>if !d then some (.done (.inl a))else some (.next (W (a+1)))else none else some (.done (.inr ()))
def n0K (F:Nat)(b:E4)(c:j7)(a:I6):Option Bool:=if a.To==(-1)then some ((a.Src.length:Int)==0)else .bind (if decide (a.To>=0)then some (decide (a.To<(b.States.length:Int)))else some false) fun d=>.bind (if d then if C0 b.States a.To then let e:=(a.Src.length:Int)==((gt b.States a.To).Regs);
     some e else none else some false) fun f=>.bind (if f then .bind (α:=Int⊕Unit) (iter (m0X F c a) F 0) fun i=>match i with
    | .inl h=>some (!(decide (h>=0)))
    | .inr _=>some (!(decide ((-1)>=0)))else some false) fun g=>some g
def p0t (F:Nat):Sm en.D:=⟨71,[.d (.st 4),.d (.st 3),.d (.st 2)],.d .bool,[],fun a=>n0K F a.1 a.2.1 a.2.2⟩
def K0F (F:Nat):P3 en:=⟨[n0f F],fun a=>if Nat.beq a 71 then⟨[],[],[(4,4,10,⟨[(19,.any),(26,.d .bool)],[]⟩),(4,12,23,⟨[(27,.any),(39,.d .bool)],[]⟩),(4,25,30,⟨[(40,.any),(46,.d .bool)],[]⟩)],[]⟩else if Nat.beq a 79 then U2 else if Nat.beq a 111 then U2 else if Nat.beq a 122 then⟨[],[(2,⟨[(8,G')],[]⟩,[(.ret,⟨[(4,G'),(8,.any)],[]⟩),(.ex 0,⟨[(8,.any)],[]⟩)])],[],[]⟩else U2,F,[]⟩
def j0b (F:Nat)(a:E4)(c:Int)(d:Int):Option (X0 Int (Unit⊕Unit)):=match d with
 | b=>let f:=decide (b<(((gt a.States c).Edges).length:Int));
 if f then if C0 ((gt a.States c).Edges) b then .bind (n0K F a (gt a.States c) (gt ((gt a.States c).Edges) b)) fun e=>if !e then some (.done (.inl ()))else some (.next (W (b+1)))else none else some (.done (.inr ()))
def o0p (F:Nat)(a:E4)(e:List Int)(d:Int):Option (X0 Int (Unit⊕Unit)):=match d with
 | b=>if decide (b<(a.States.length:Int))then if C0 a.States b then .bind (if decide (((gt a.States b).Regs)<0)then some true else some (decide (((gt a.States b).Regs)>1216))) fun g=>.bind (if g then some true else let h:=(((gt a.States b).Edges).length:Int) != (e.length:Int);
     some h) fun i=>.bind (if i then some true else .bind (m0j F (gt a.States b) a.Tags) fun c=>some (!c)) fun f=>if f then some (.done (.inl ()))else .bind (α:=Unit⊕Unit) (iter (j0b F a b) F 0) fun j=>match j with
    | .inl _=>some (.done (.inl ()))
    | .inr _=>some (.next (W (b+1)))else none else some (.done (.inr ()))
def k0K (F:Nat)(a:E4):Option Bool:=.bind (if decide (a.Tags<1)then some true else some (decide (a.Tags>19))) fun d=>.bind (if d then some true else some ((a.Tags.tmod 2)==0)) fun e=>.bind (if e then some true else some ((a.States.length:Int)==0)) fun f=>.bind (if f then some true else some (decide ((a.States.length:Int)>400))) fun g=>.bind (if g then some true else .bind (g0h F a.Class) fun c=>some (!c)) fun h=>if h then some false else .bind (f0J F a.Class) fun b=>.bind (α:=Unit⊕Unit) (iter (o0p F a b) F 0) fun i=>match i with
  | .inl _=>some false
  | .inr _=>if C0 a.States 0 then some (((gt a.States 0).Regs)==0)else none
def s0Z (F:Nat):Sm en.D:=⟨46,[.d (.st 4)],.d .bool,[],fun a=>k0K F a⟩
def I0F (F:Nat):=E1 [i0B F,i0v F,q0b F,p0t F] 46 ⟨[],[(10,⟨[(76,G')],[]⟩,[(.ret,⟨[(2,.kb false),(76,.any)],[]⟩),(.ex 2,⟨[(76,.any)],[]⟩)]),(5,⟨[(47,G')],[]⟩,[(.ret,⟨[(2,.kb false),(47,.any)],[]⟩),(.ex 0,⟨[(47,.any)],[]⟩)])],[(1,4,7,⟨[(11,.any),(15,.d .bool)],[]⟩),(1,9,13,⟨[(16,.any),(21,.d .bool)],[]⟩),(1,15,19,⟨[(22,.any),(27,.d .bool)],[]⟩),(1,21,25,⟨[(28,.any),(33,.d .bool)],[]⟩),(1,27,31,⟨[(34,.any),(39,.d .bool)],[]⟩),(7,4,7,⟨[(54,.any),(58,.d .bool)],[]⟩),(7,9,14,⟨[(59,.any),(65,.d .bool)],[]⟩),(7,16,21,⟨[(66,.any),(72,.d .bool)],[]⟩)],[]⟩ F
def i0n (F:Nat):((List Bool)×(List Int))->Int->Int->Option (Bool×((List Bool)×(List Int)))
 | (c,b),d,a=>if decide (0<=a)&&decide (a<1217)then if gt c a then some (false,(c,b))else if decide (0<=a)&&decide (a<1217)then if C0 b d then some (true,(c.set a.toNat true,b.set d.toNat a))else none else none else none
def k0D (F:Nat):Sm en.D:=⟨73,[.box 183 [.d (.arr 1217 .bool),.own 3 N'],G',G'],.d .bool,[(0,.box 183 [.d (.arr 1217 .bool),.own 3 N'])],fun a=>i0n F a.1 a.2.1 a.2.2⟩
def F0c (F:Nat):=E1 [] 73 U2 F
def j0u (F:Nat)(f:Int)(e:Int×((List Bool)×(List Int))):Option (X0 (Int×((List Bool)×(List Int))) ((List Bool)×(List Int))):=match e with
 | (b,(h,d))=>.bind (i0n F (h,d) f b) fun(g,(c,a))=>if !g then some (.next (W (b+1),(c,a)))else some (.done (c,a))
def k0G (F:Nat):((List Bool)×(List Int))->Int->Option ((List Bool)×(List Int))
 | (d,a),c=>.bind (α:=(List Bool)×(List Int)) (iter (j0u F c) F (0,(d,a))) fun(e,b)=>some (e,b)
def o00 (F:Nat):Sm en.D:=⟨74,[.box 183 [.d (.arr 1217 .bool),.own 3 N'],G'],.tup [],[(0,.box 183 [.d (.arr 1217 .bool),.own 3 N'])],fun a=>k0G F a.1 a.2⟩
def N01 (F:Nat):=E1 [k0D F] 74 ⟨[],[(1,⟨[(4,G')],[(0,.any),(1,.box 183 [.d (.arr 1217 .bool),.own 3 N'])]⟩,[(.ex 0,⟨[(4,.any)],[(0,.any),(1,.box 183 [.d (.arr 1217 .bool),.own 3 N'])]⟩)])],[],[]⟩ F
def g0x (F:Nat)(e:List Int)(b:I6)(h:Int×((List Bool)×(List Int))):Option (X0 (Int×((List Bool)×(List Int))) ((List Bool)×(List Int))):=match h with
 | (a,(d,c))=>if decide (a<(b.Src.length:Int))then .bind (α:=(List Bool)×(List Int)) (if C0 b.Src a then if decide ((gt b.Src a)>=0)then if C0 e (gt b.Src a)then .bind (i0n F (d,c) a (gt e (gt b.Src a))) fun(k,(i,f))=>some (i,f)else none else some (d,c)else none) fun(j,g)=>some (.next (W (a+1),(j,g)))else some (.done (d,c))
def h0R (F:Nat)(d:List Int)(g:Int×((List Bool)×(List Int))):Option (X0 (Int×((List Bool)×(List Int))) ((List Bool)×(List Int))):=match g with
 | (b,(c,a))=>if decide (b<(d.length:Int))then .bind (α:=(List Bool)×(List Int)) (if C0 a b then if decide ((gt a b)<0)then .bind (k0G F (c,a) b) fun(h,e)=>some (h,e)else some (c,a)else none) fun(i,f)=>some (.next (W (b+1),(i,f)))else some (.done (c,a))
def k0w (F:Nat)(d:List Int)(b:I6):Option (List Int):=.bind (g0u F [(-1)] (b.Src.length:Int)) fun e=>.bind (α:=(List Bool)×(List Int)) (iter (g0x F d b) F (0,((List.replicate 1217 false),e))) fun(f,a)=>.bind (α:=(List Bool)×(List Int)) (iter (h0R F a) F (0,(f,a))) fun(g,c)=>some c
def p05 (F:Nat):Sm en.D:=⟨47,[.d (.list N'),.d (.st 2)],.own 3 N',[],fun a=>k0w F a.1 a.2⟩
def N0k (F:Nat):=E1 [p0u F,k0D F,o00 F] 47 ⟨[(13,[(.nrm,⟨[],[(3,.box 183 [.d (.arr 1217 .bool),.own 3 N']),(6,.any)]⟩)]),(7,[(.nrm,⟨[],[(3,.box 183 [.d (.arr 1217 .bool),.own 3 N']),(4,.any)]⟩)])],[(3,⟨[(19,G')],[(2,.any),(3,.box 183 [.d (.arr 1217 .bool),.own 3 N'])]⟩,[(.ex 0,⟨[(19,.any)],[(2,.any),(3,.box 183 [.d (.arr 1217 .bool),.own 3 N'])]⟩)]),(9,⟨[(39,G')],[(3,.box 183 [.d (.arr 1217 .bool),.own 3 N']),(4,.any)]⟩,[(.ex 2,⟨[(39,.any)],[(3,.box 183 [.d (.arr 1217 .bool),.own 3 N']),(4,.any)]⟩)])],[],[]⟩ F
def j0K (F:Nat)(d:Int)(c:(List Int)×Int):Option (X0 ((List Int)×Int) (List Int)):=match c with
 | (b,a)=>if decide (a<d)then if J0 8 b [a]then some (.next (b++[a],W (a+1)))else none else some (.done b)
def j0t (F:Nat)(a:Int):Option (List Int):=.bind (α:=List Int) (iter (j0K F a) F ([],0)) fun b=>some b
def r02 (F:Nat):Sm en.D:=⟨48,[G'],.own 3 N',[],fun a=>j0t F a⟩
def B0Q (F:Nat):=E1 [] 48 ⟨[],[(3,⟨[(3,.own 3 N'),(6,G')],[]⟩,[(.ex 0,⟨[(3,.own 3 N'),(6,.any)],[]⟩)])],[],[]⟩ F
def f0M (F:Nat)(b:E4)(c:List Int)(m:Int)(g:(List Int)×Int×(List (List Int))×(List Bool)):Option (X0 ((List Int)×Int×(List (List Int))×(List Bool)) ((List Int)×(List (List Int))×(List Bool))):=match g with
 | (d,a,e,f)=>if decide (a<m)then .bind (α:=(List Int)×(List (List Int))×(List Bool)) (if C0 ((gt b.States (gt c 0)).Edges) a then let n:=decide (((gt ((gt b.States (gt c 0)).Edges) a).To)>=0);
    .bind (if n then if C0 f ((gt ((gt b.States (gt c 0)).Edges) a).To)then let o:=gt f ((gt ((gt b.States (gt c 0)).Edges) a).To);
       some (!o)else none else some false) fun p=>if p then if C0 f ((gt ((gt b.States (gt c 0)).Edges) a).To)then let i:=f.set ((gt ((gt b.States (gt c 0)).Edges) a).To).toNat true;
      if C0 d 0 then if C0 e (gt d 0)then .bind (k0w F (gt e (gt d 0)) (gt ((gt b.States (gt c 0)).Edges) a)) fun h=>if C0 e ((gt ((gt b.States (gt c 0)).Edges) a).To)then let j:=e.set ((gt ((gt b.States (gt c 0)).Edges) a).To).toNat h;
         if J0 8 d [(gt ((gt b.States (gt c 0)).Edges) a).To]then let k:=d++[(gt ((gt b.States (gt c 0)).Edges) a).To];
          some (k,j,i)else none else none else none else none else none else some (d,e,f)else none) fun(l,q,r)=>some (.next (l,W (a+1),q,r))else some (.done (d,e,f))
def l0U (F:Nat)(c:E4)(f:(List Int)×(List (List Int))×(List Bool)):Option (X0 ((List Int)×(List (List Int))×(List Bool)) ((List (List Int))×(List Bool))):=match f with
 | (a,d,e)=>if decide ((a.length:Int)>0)then if C0 a 0 then if C0 c.States (gt a 0)then let g:=(((gt c.States (gt a 0)).Edges).length:Int);
    .bind (α:=(List Int)×(List (List Int))×(List Bool)) (iter (f0M F c a g) F (a,0,d,e)) fun(b,h,i)=>if b5 b 1 (b.length:Int)then some (.next (U1 b 1 (b.length:Int),h,i))else none else none else none else some (.done (d,e))
def k0r (F:Nat)(b:Int)(c:List (List Int))(e:Int×Int):Option (X0 (Int×Int) Int):=match e with
 | (d,a)=>if decide (a<((gt c b).length:Int))then if C0 (gt c b) a then let f:=if(W ((gt (gt c b) a)+1))>d then W ((gt (gt c b) a)+1)else d;
   some (.next (f,W (a+1)))else none else some (.done d)
def n0g (F:Nat)(c:E4)(f:List Bool)(g:Int×Int×(List (List Int))):Option (X0 (Int×Int×(List (List Int))) (Int×(List (List Int)))):=match g with
 | (e,a,b)=>if decide (a<(c.States.length:Int))then if C0 c.States a then .bind (α:=List (List Int)) (if C0 f a then if !(gt f a)then .bind (j0t F ((gt c.States a).Regs)) fun i=>if C0 b a then some (b.set a.toNat i)else none else some b else none) fun d=>if C0 d a then .bind (α:=Int) (iter (k0r F a d) F (e,0)) fun h=>some (.next (h,W (a+1),d))else none else none else some (.done (e,b))
def n0C (F:Nat)(a:E4):Option ((List (List Int))×Int):=.bind (k0K F a) fun d=>if !d then some ([],0)else if F4 24 (a.States.length:Int)then if F4 1 (a.States.length:Int)then if C0 (List.replicate (a.States.length:Int).toNat false:List Bool) 0 then let b:=(List.replicate (a.States.length:Int).toNat false:List Bool).set (0:Int).toNat true;
     .bind (α:=(List (List Int))×(List Bool)) (iter (l0U F a) F ([0],(List.replicate (a.States.length:Int).toNat []:List (List Int)),b)) fun(g,e)=>.bind (α:=Int×(List (List Int))) (iter (n0g F a e) F (0,0,g)) fun(c,f)=>some (f,c)else none else none else none
def s05 (F:Nat):Sm en.D:=⟨26,[.d (.st 4)],.tup [.own 27 (.list N'),G'],[],fun a=>n0C F a⟩
def I0B (F:Nat):=E1 [s0Z F,p05 F,r02 F] 26 ⟨[(16,[(.nrm,⟨[(6,.own 1000003 N')],[(1,.own 27 (.list N')),(2,.own 4 .bool),(7,.any)]⟩)]),(23,[(.nrm,⟨[],[(1,.own 27 (.list N'))]⟩)])],[(10,⟨[(6,.own 1000003 N'),(42,G')],[(1,.own 27 (.list N')),(2,.own 4 .bool),(4,.any)]⟩,[(.ex 2,⟨[(6,.own 1000003 N'),(42,.any)],[(1,.own 27 (.list N')),(2,.own 4 .bool),(4,.any)]⟩)]),(19,⟨[(9,G'),(82,G')],[(1,.own 27 (.list N'))]⟩,[(.ex 4,⟨[(9,G'),(82,.any)],[(1,.own 27 (.list N'))]⟩)]),(24,⟨[(9,G'),(103,G')],[]⟩,[(.ex 6,⟨[(9,G'),(103,.any)],[]⟩)]),(7,⟨[(6,.own 1000003 N')],[(1,.own 27 (.list N')),(2,.own 4 .bool),(3,.any)]⟩,[(.ex 0,⟨[(6,.any)],[(1,.own 27 (.list N')),(2,.own 4 .bool),(3,.any)]⟩)])],[(12,4,10,⟨[(49,.any),(56,.d .bool)],[]⟩)],[1000027]⟩ F
def g0r (F:Nat)(b:a0e)(c:Int)(a:Int):Option Int:=if decide (a<0)then some a else if C0 b.homes c then if C0 (gt b.homes c) a then some (gt (gt b.homes c) a)else none else none
def m0Q (F:Nat):Sm en.D:=⟨49,[.d (.ptr (.st 14)),G',G'],G',[],fun a=>g0r F a.1 a.2.1 a.2.2⟩
def F0v (F:Nat):=E1 [] 49 U2 F
def n0Z (F:Nat)(b:List P1)(e:Int×(List (Int×Int))):Option (X0 (Int×(List (Int×Int))) (Unit⊕Unit)):=match e with
 | (a,d)=>if decide (a<(b.length:Int))then if C0 b a then let c:=P6 d (gt b a).To (W ((B3 d (gt b a).To)+1));
   .bind (if decide ((gt b a).To<0)then some true else some (decide ((gt b a).From<(-1)))) fun f=>.bind (if f then some true else some (decide ((B3 c (gt b a).To)>1))) fun g=>if g then some (.done (.inl ()))else some (.next (W (a+1),c))else none else some (.done (.inr ()))
def k0I (F:Nat)(a:List P1):Option Bool:=.bind (α:=Unit⊕Unit) (iter (n0Z F a) F (0,([]:List (Int×Int)))) fun b=>match b with
 | .inl _=>some false
 | .inr _=>some true
def r0Q (F:Nat):Sm en.D:=⟨114,[.d (.list (.st 5))],.d .bool,[],fun a=>k0I F a⟩
def M0r (F:Nat):=E1 [] 114 ⟨[],[(3,⟨[(9,G')],[(0,.map)]⟩,[(.ret,⟨[(2,.kb false),(9,.any)],[(0,.any)]⟩),(.ex 0,⟨[(9,.any)],[(0,.any)]⟩)])],[(6,4,7,⟨[(21,.any),(25,.d .bool)],[]⟩),(6,9,14,⟨[(26,.any),(32,.d .bool)],[]⟩)],[]⟩ F
def q0X (F:Nat)(b:List Int):Option (List Int):=if decide (b.length<4611686018427387904)&&a0H (fun a=>a) b then some (j5 (fun a=>a) b)else none
def u0N (F:Nat):Sm en.D:=⟨146,[.own 3 N'],.tup [],[(0,.own 3 N')],fun a=>q0X F a⟩
def h0J (F:Nat)(b:List P1)(f:(Int×((List (Int×Int))×(List Int)×Int))):Option (X0 (Int×((List (Int×Int))×(List Int)×Int)) ((List (Int×Int))×(List Int)×Int)):=match f with
 | (a,(d,c,e))=>if decide (a<(b.length:Int))then .bind (α:=(List (Int×Int))×(List Int)×Int) (if C0 b a then if((gt b a).To) != ((gt b a).From)then if J0 8 c [(gt b a).To]then some (P6 d (gt b a).To ((gt b a).From),c++[(gt b a).To],e)else none else some (d,c,e)else none) fun(h,g,i)=>some (.next (W (a+1),(h,g,i)))else some (.done (d,c,e))
def n0I (F:Nat)(c:List P1)(e:Int):Option ((List (Int×Int))×(List Int)×Int):=.bind (α:=(List (Int×Int))×(List Int)×Int) (iter (h0J F c) F (0,(([]:List (Int×Int)),[],e))) fun(d,b,f)=>.bind (q0X F b) fun a=>some (d,a,f)
def p0W (F:Nat):Sm en.D:=⟨116,[.d (.list (.st 5)),G'],.box 257 [.map,.d (.list N'),G',.nil],[],fun a=>n0I F a.1 a.2⟩
def L0J (F:Nat):=E1 [u0N F] 116 ⟨[(8,[(.nrm,⟨[],[(1,.box 257 [.map,.own 3 N',G',.nil]),(2,.any),(3,.any)]⟩)])],[(3,⟨[(14,G')],[(0,.any),(1,.box 257 [.map,.own 3 N',G',.nil])]⟩,[(.ex 0,⟨[(14,.any)],[(0,.any),(1,.box 257 [.map,.own 3 N',G',.nil])]⟩)])],[],[]⟩ F
def l0q (F:Nat)(e:List Int)(f:Int)(c:List (Int×Int))(b:List Int)(d:Int):Option (X0 Int (Unit⊕Unit)):=match d with
 | a=>if decide (a<(b.length:Int))then if C0 b a then .bind (if T3 c (gt b a)then some ((B3 c (gt b a))==(gt e f))else some false) fun g=>if g then some (.done (.inl ()))else some (.next (W (a+1)))else none else some (.done (.inr ()))
def i0V (F:Nat)(b:List Int)(h:(Bool×Int×((List (Int×Int))×(List Int)×Int×(List P1)))):Option (X0 (Bool×Int×((List (Int×Int))×(List Int)×Int×(List P1))) (Bool×((List (Int×Int))×(List Int)×Int×(List P1)))):=match h with
 | (g,a,(c,d,f,e))=>if decide (a<(b.length:Int))then .bind (α:=(Bool×((List (Int×Int))×(List Int)×Int×(List P1)))) (if C0 b a then .bind (if T3 c (gt b a)then .bind (α:=Unit⊕Unit) (iter (l0q F b a c d) F 0) fun p=>match p with
      | .inl _=>some false
      | .inr _=>some true else some false) fun o=>if o then if J0 16 e [(⟨gt b a,B3 c (gt b a)⟩:P1)]then let j:=e++[(⟨gt b a,B3 c (gt b a)⟩:P1)];
      some (true,(a0d c (gt b a),d,f,j))else none else some (g,(c,d,f,e))else none) fun(m,(k,i,n,l))=>some (.next (m,W (a+1),(k,i,n,l)))else some (.done (g,(c,d,f,e)))
def m0O (F:Nat):((List (Int×Int))×(List Int)×Int×(List P1))->Option (Bool×((List (Int×Int))×(List Int)×Int×(List P1)))
 | (c,a,h,e)=>.bind (α:=(Bool×((List (Int×Int))×(List Int)×Int×(List P1)))) (iter (i0V F a) F (false,0,(c,a,h,e))) fun(g,(d,b,i,f))=>some (g,(d,b,i,f))
def q0a (F:Nat):Sm en.D:=⟨147,[.box 257 [.map,.d (.list N'),G',.own 187 (.st 5)]],.d .bool,[(0,.box 257 [.map,.d (.list N'),G',.own 187 (.st 5)])],fun a=>m0O F a⟩
def A0S (F:Nat):P3 en:=⟨[],fun a=>if Nat.beq a 147 then⟨[(9,[(.nrm,⟨[(3,.d .bool)],[(2,.box 257 [.map,.d (.list N'),G',.own 187 (.st 5)]),(3,.any),(4,.any)]⟩)])],[(3,⟨[(3,.d .bool),(13,G')],[(0,.any),(1,.any),(2,.box 257 [.map,.d (.list N'),G',.own 187 (.st 5)])]⟩,[(.ex 0,⟨[(3,.d .bool),(13,.any)],[(0,.any),(1,.any),(2,.box 257 [.map,.d (.list N'),G',.own 187 (.st 5)])]⟩)])],[(6,2,6,⟨[(27,.any),(32,.d .bool)],[]⟩)],[]⟩else if Nat.beq a 163 then⟨[],[(2,⟨[(14,G')],[]⟩,[(.ret,⟨[(4,.kb true),(14,.any)],[]⟩),(.ex 0,⟨[(14,.any)],[]⟩)])],[(5,2,5,⟨[(28,.any),(32,.d .bool)],[]⟩)],[]⟩else if Nat.beq a 164 then U2 else U2,F,[]⟩
def i0N (F:Nat)(a:List Int)(e:Int)(f:Int)(d:Int×(List (Int×Int))):Option (X0 (Int×(List (Int×Int))) (List (Int×Int))):=match d with
 | (b,c)=>if decide (b<(a.length:Int))then .bind (α:=List (Int×Int)) (if C0 a b then .bind (if T3 c (gt a b)then some ((B3 c (gt a b))==(gt a f))else some false) fun g=>if g then some (P6 c (gt a b) e)else some c else none) fun h=>some (.next (W (b+1),h))else some (.done c)
def j0g (F:Nat)(d:List (Int×Int))(a:List Int)(c:Int)(e:List P1)(f:Int):Option (X0 Int (((List (Int×Int))×(List Int)×Int×(List P1))⊕Unit)):=match f with
 | b=>if decide (b<(a.length:Int))then if C0 a b then if !(T3 d (gt a b))then some (.next (W (b+1)))else if J0 16 e [(⟨c,gt a b⟩:P1)]then .bind (α:=List (Int×Int)) (iter (i0N F a c b) F (0,d)) fun g=>some (.done (.inl (g,a,c,e++[(⟨c,gt a b⟩:P1)])))else none else none else some (.done (.inr ()))
def m0f (F:Nat):((List (Int×Int))×(List Int)×Int×(List P1))->Option ((List (Int×Int))×(List Int)×Int×(List P1))
 | (b,a,d,c)=>.bind (α:=(((List (Int×Int))×(List Int)×Int×(List P1))⊕Unit)) (iter (j0g F b a d c) F 0) fun i=>match i with
 | .inl (f,e,h,g)=>some (f,e,h,g)
 | .inr _=>some (b,a,d,c)
def p02 (F:Nat):Sm en.D:=⟨148,[.box 257 [.map,.d (.list N'),G',.own 187 (.st 5)]],.tup [],[(0,.box 257 [.map,.d (.list N'),G',.own 187 (.st 5)])],fun a=>m0f F a⟩
def K09 (F:Nat):=E1 [] 148 ⟨[(12,[(.nrm,⟨[],[(0,.map)]⟩)])],[(1,⟨[(15,G')],[]⟩,[(.ret,⟨[(15,.any)],[(0,.any),(1,.any),(2,.box 257 [.map,.d (.list N'),G',.own 187 (.st 5)])]⟩),(.ex 0,⟨[(15,.any)],[]⟩)]),(7,⟨[(50,G')],[(0,.map)]⟩,[(.ex 2,⟨[(50,.any)],[(0,.map)]⟩)])],[(10,2,5,⟨[(64,.any),(68,.d .bool)],[]⟩)],[]⟩ F
def j0S (F:Nat)(i:(List (Int×Int))×(List Int)×Int×(List P1)):Option (X0 ((List (Int×Int))×(List Int)×Int×(List P1)) ((List (Int×Int))×(List Int)×Int×(List P1))):=match i with
 | (a,b,g,e)=>if decide ((a.length:Int)>0)then .bind (m0O F (a,b,g,e)) fun(j,(d,c,h,f))=>if !j then .bind (m0f F (d,c,h,f)) fun(l,k,n,m)=>some (.next (l,k,n,m))else some (.next (d,c,h,f))else some (.done (a,b,g,e))
def q0f (F:Nat):((List (Int×Int))×(List Int)×Int×(List P1))->Option ((List (Int×Int))×(List Int)×Int×(List P1))
 | (c,a,g,e)=>.bind (α:=(List (Int×Int))×(List Int)×Int×(List P1)) (iter (j0S F) F (c,a,g,e)) fun(d,b,h,f)=>some (d,b,h,f)
def p08 (F:Nat):Sm en.D:=⟨117,[.box 257 [.map,.d (.list N'),G',.own 187 (.st 5)]],.tup [],[(0,.box 257 [.map,.d (.list N'),G',.own 187 (.st 5)])],fun a=>q0f F a⟩
def E0H (F:Nat):=E1 [q0a F,p02 F] 117 ⟨[],[(0,⟨[],[(0,.any),(1,.any),(2,.box 257 [.map,.d (.list N'),G',.own 187 (.st 5)])]⟩,[(.ex 0,⟨[],[(0,.any),(1,.any),(2,.box 257 [.map,.d (.list N'),G',.own 187 (.st 5)])]⟩)])],[],[]⟩ F
def o0C (F:Nat)(b:List P1)(c:Int)(d:Int):Option (X0 Int (Int⊕Unit)):=match d with
 | a=>if decide (a<(b.length:Int))then if C0 b a then .bind (if((gt b a).To)==c then some true else some ((gt b a).From==c)) fun e=>if e then some (.done (.inl a))else some (.next (W (a+1)))else none else some (.done (.inr ()))
def j0G (F:Nat)(a:List P1)(b:Int):Option ((List P1)×Int):=.bind (k0I F a) fun c=>.bind (if !c then some true else some (decide (b<0))) fun h=>.bind (if h then some true else .bind (α:=Int⊕Unit) (iter (o0C F a b) F 0) fun k=>match k with
   | .inl j=>some (decide (j>=0))
   | .inr _=>some (decide ((-1)>=0))) fun i=>if i then some ([],1)else .bind (n0I F a b) fun(e,d,g)=>.bind (q0f F (e,d,g,[])) fun(m,l,n,f)=>some (f,0)
def s0g (F:Nat):Sm en.D:=⟨75,[.d (.list (.st 5)),G'],.tup [.own 187 (.st 5),G'],[],fun a=>j0G F a.1 a.2⟩
def F0O (F:Nat):P3 en:=⟨[r0Q F,p0W F,p08 F],fun a=>if Nat.beq a 75 then⟨[],[],[(2,4,6,⟨[(12,.any),(15,.d .bool)],[]⟩),(2,8,11,⟨[(16,.any),(20,.d .bool)],[]⟩)],[]⟩else if Nat.beq a 113 then⟨[],[],[(1,5,9,⟨[(8,.any),(13,.d .bool)],[]⟩)],[]⟩else if Nat.beq a 115 then U2 else if Nat.beq a 145 then⟨[],[(2,⟨[(8,G')],[]⟩,[(.ret,⟨[(4,G'),(8,.any)],[]⟩),(.ex 0,⟨[(8,.any)],[]⟩)])],[],[]⟩else U2,F,[]⟩
def h00 (F:Nat)(c:a0e)(f:Int)(a:I6)(i:(List P1)×Int):Option (X0 ((List P1)×Int) (List P1)):=match i with
 | (d,b)=>if decide (b<(a.Src.length:Int))then .bind (α:=List P1) (if C0 a.Src b then if C0 c.homes a.To then if C0 (gt c.homes a.To) b then .bind (α:=P1) (same (.bind (g0r F c f (gt a.Src b)) fun g=>some (⟨gt (gt c.homes a.To) b,g⟩:P1)) (.bind (g0r F c f (gt a.Src b)) fun h=>some (⟨gt (gt c.homes a.To) b,h⟩:P1))) fun e=>if e.To != e.From then if J0 16 d [e]then some (d++[e])else none else some d else none else none else none) fun j=>some (.next (j,W (b+1)))else some (.done d)
def l08 (F:Nat)(a:a0e)(e:Int)(b:I6):Option I5:=.bind (α:=List P1) (iter (h00 F a e b) F ([],0)) fun c=>.bind (j0G F c a.many) fun(d,f)=>some (⟨b.To,d⟩:I5)
def s0i (F:Nat):Sm en.D:=⟨50,[.d (.ptr (.st 14)),G',.d (.st 2)],.d (.st 6),[],fun a=>l08 F a.1 a.2.1 a.2.2⟩
def D0T (F:Nat):=E1 [m0Q F,s0g F] 50 ⟨[(8,[(.nrm,⟨[(7,.own 187 (.st 5))],[(2,.any)]⟩)])],[(3,⟨[(7,.own 187 (.st 5)),(16,G')],[]⟩,[(.ex 0,⟨[(7,.own 187 (.st 5)),(16,.any)],[]⟩)])],[(5,1000014,17,⟨[(10,.box 187 [.d (.st 5)])],[]⟩)],[]⟩ F
def j0f (F:Nat)(b:a0e)(a:Int)(g:Int×((List Int)×(List I5))):Option (X0 (Int×((List Int)×(List I5))) ((List Int)×(List I5))):=match g with
 | (c,(e,B2))=>let h:=decide (c<(((gt b.d.States a).Accept).length:Int));
 if h then if C0 ((gt b.d.States a).Accept) c then .bind (g0r F b a (gt ((gt b.d.States a).Accept) c)) fun f=>if J0 8 e [f]then some (.next (W (c+1),(e++[f],B2)))else none else none else some (.done (e,B2))
def l05 (F:Nat)(b:a0e)(a:Int)(h:Int×((List Int)×(List I5))):Option (X0 (Int×((List Int)×(List I5))) ((List Int)×(List I5))):=match h with
 | (c,(f,e))=>let i:=decide (c<(((gt b.d.States a).Edges).length:Int));
 if i then if C0 ((gt b.d.States a).Edges) c then .bind (l08 F b a (gt ((gt b.d.States a).Edges) c)) fun g=>if J0 32 e [g]then some (.next (W (c+1),(f,e++[g])))else none else none else some (.done (f,e))
def l0Z (F:Nat)(b:a0e)(a:Int):Option U6:=if C0 b.d.States a then .bind (α:=(List Int)×(List I5)) (iter (j0f F b a) F (0,([],[]))) fun(c,f)=>if C0 b.d.States a then .bind (α:=(List Int)×(List I5)) (iter (l05 F b a) F (0,(c,f))) fun(e,g)=>some (⟨e,g⟩:U6)else none else none
def p0m (F:Nat):Sm en.D:=⟨28,[.d (.ptr (.st 14)),G'],.d (.st 7),[],fun a=>l0Z F a.1 a.2⟩
def L0R (F:Nat):=E1 [m0Q F,s0i F] 28 ⟨[],[(3,⟨[(20,G')],[(1,.box 97 [.own 3 N',.own 144 (.st 6)])]⟩,[(.ex 0,⟨[(20,.any)],[(1,.box 97 [.own 3 N',.own 144 (.st 6)])]⟩)]),(8,⟨[(44,G')],[(1,.box 97 [.own 3 N',.own 144 (.st 6)]),(2,.any),(3,.any)]⟩,[(.ex 2,⟨[(44,.any)],[(1,.box 97 [.own 3 N',.own 144 (.st 6)]),(2,.any),(3,.any)]⟩)])],[],[]⟩ F
def k05 (F:Nat)(i:E4)(h:a0e×Int×(Int×Int×(List Int)×(List U6))):Option (X0 (a0e×Int×(Int×Int×(List Int)×(List U6))) (Int×Int×(List Int)×(List U6))):=match h with
 | (f,b,(e,d,c,a))=>if decide (b<(i.States.length:Int))then .bind (l0Z F f b) fun g=>if J0 48 a [g]then some (.next (f,W (b+1),(e,d,c,a++[g])))else none else some (.done (e,d,c,a))
def l0A (F:Nat)(a:E4):Option (N1×Int):=.bind (n0C F a) fun(c,b)=>if !c.isEmpty then .bind (α:=Int×Int×(List Int)) (same (.bind (K9 F a.Class) fun k=>some (a.Tags,W (b+1),k)) (.bind (K9 F a.Class) fun l=>some (a.Tags,W (b+1),l))) fun(i,f,d)=>.bind (α:=Int×Int×(List Int)×(List U6)) (iter (k05 F a) F ((⟨a,c,b⟩:a0e),0,(i,f,d,[]))) fun(j,g,e,h)=>some ((⟨j,g,e,h⟩:N1),0)else none
def o0L (F:Nat):Sm en.D:=⟨8,[.d (.st 4)],.tup [.d (.st 8),G'],[],fun a=>l0A F a⟩
def O0J (F:Nat):=E1 [s05 F,f0t F,p0m F] 8 ⟨[],[(7,⟨[(6,.d (.ptr (.st 14))),(33,G')],[(2,.any),(3,.any),(4,.any),(5,.box 36 [G',G',.own 3 N',.own 97 (.st 7)])]⟩,[(.ex 0,⟨[(6,.any),(33,.any)],[(2,.any),(3,.any),(4,.any),(5,.box 36 [G',G',.own 3 N',.own 97 (.st 7)])]⟩)])],[(5,1000006,9,⟨[(7,.box 36 [G',G',.own 3 N',.nil])],[]⟩)],[]⟩ F
def j0k (F:Nat)(a:b0c)(b:b0c):Option Bool:=.bind (if a.Is==b.Is then some (a.Sure==b.Sure)else some false) fun d=>.bind (if d then .bind (g0k F a.Spans b.Spans) fun c=>some c else some false) fun e=>some e
def t0A (F:Nat):Sm en.D:=⟨12,[.d (.st 11),.d (.st 11)],.d .bool,[],fun a=>j0k F a.1 a.2⟩
def G0o (F:Nat):=E1 [n02 F] 12 ⟨[],[],[(1,6,11,⟨[(10,.any),(16,.d .bool)],[]⟩),(1,13,18,⟨[(17,.any),(23,.d .bool)],[]⟩)],[]⟩ F
def k0a (F:Nat)(b:List a0u)(s:(Int×(Y4×(L2×(List Int)×Int×Bool))×(Y4×(V4×N1×Int×Int×Int×(List Int))))):Option (X0 (Int×(Y4×(L2×(List Int)×Int×Bool))×(Y4×(V4×N1×Int×Int×Int×(List Int)))) (Unit⊕((Y4×(L2×(List Int)×Int×Bool))×(Y4×(V4×N1×Int×Int×Int×(List Int)))))):=match s with
 | (a,(e,(c,n,o,i)),(f,(j,k,d,m,p,l)))=>if decide (a<(b.length:Int))then if C0 b a then .bind (c09 F (e,(c,n,o,i)) (gt b a).B) fun(((t,u,v),w),(g,(q,J,L,C)))=>if C0 b a then .bind (l0w F (f,(j,k,d,m,p,l)) (gt b a).B) fun(((x,y,z),A),(h,(D,E,r,I,M,G)))=>.bind (j0k F (⟨t,u,v⟩:b0c) (⟨x,y,z⟩:b0c)) fun H=>.bind (if !H then some true else some (w != A)) fun N=>.bind (if N then some true else some (g.count != h.count)) fun O=>if O then some (.done (.inl ()))else some (.next (W (a+1),(g,(q,J,L,C)),(h,(D,E,r,I,M,G))))else none else none else some (.done (.inr ((e,(c,n,o,i)),(f,(j,k,d,m,p,l)))))
def o0N (F:Nat)(b:List D0)(e:List a0u):Option Bool:=.bind (if decide ((b.length:Int)>24)then some true else .bind (k0U F e) fun A=>some (!A)) fun ac=>.bind (if ac then some true else .bind (g0l F b) fun J=>some (!J)) fun ao=>if ao then .bind (f0p F) fun O=>some O else .bind (g0e F b 0 40) fun(l,m)=>if m != 0 then .bind (f0p F) fun P=>some P else .bind (l0A F l) fun(d,c)=>.bind (g0a F b) fun(v,a)=>match v with
   | .inl _=>.bind (c00 F d) fun(S,g)=>match S with
    | .inl _=>.bind (if c != 0 then some true else some (a != 0)) fun aj=>.bind (if aj then some true else some (g != 0)) fun ak=>.bind (if ak then some true else some true) fun al=>.bind (if al then some true else some true) fun am=>if am then some false else none
    | .inr (a4,(ba,bc,a2,bg,bk,be))=>.bind (if c != 0 then some true else some (a != 0)) fun an=>.bind (if an then some true else some (g != 0)) fun ap=>.bind (if ap then some true else some true) fun aq=>.bind (if aq then some true else some false) fun ar=>if ar then some false else none
   | .inr (w,(h,T,Y,is))=>.bind (c00 F d) fun(R,f)=>match R with
    | .inl _=>.bind (if c != 0 then some true else some (a != 0)) fun af=>.bind (if af then some true else some (f != 0)) fun ag=>.bind (if ag then some true else some false) fun ah=>.bind (if ah then some true else some true) fun ai=>if ai then some false else none
    | .inr (x,(C,E,j,M,aa,H))=>.bind (if c != 0 then some true else some (a != 0)) fun au=>.bind (if au then some true else some (f != 0)) fun av=>.bind (if av then some true else some false) fun aw=>.bind (if aw then some true else some false) fun ax=>if ax then some false else .bind (α:=(Unit⊕((Y4×(L2×(List Int)×Int×Bool))×(Y4×(V4×N1×Int×Int×Int×(List Int)))))) (iter (k0a F e) F (0,(w,(h,T,Y,is)),(x,(C,E,j,M,aa,H)))) fun az=>match az with
      | .inl _=>some false
      | .inr ((y,(i,X,Z,B)),(z,(D,G,k,N,ab,I)))=>.bind (h0c F (y,(i,X,Z,B))) fun(((n,o,p),q),(a5,(a0,bh,bi,a7)))=>.bind (l01 F (z,(D,G,k,N,ab,I))) fun(((r,s,t),u),(a3,(a9,bb,a1,bf,bj,bd)))=>.bind (j0k F (⟨n,o,p⟩:b0c) (⟨r,s,t⟩:b0c)) fun L=>.bind (if L then some (q==u)else some false) fun ay=>.bind (if ay then .bind (f0p F) fun Q=>some Q else some false) fun ae=>some ae
def w0L (F:Nat):Sm en.D:=⟨3,[.d (.list (.st 0)),.d (.list (.st 1))],.d .bool,[],fun a=>o0N F a.1 a.2⟩
def G0U (F:Nat):P3 en:=⟨[o01 F,r0D F,r0P F,s0P F,o0L F,n0e F,n0l F,m0A F,t0A F,n0Y F,p0O F,s0K F],fun a=>if Nat.beq a 3 then⟨[],[(12,⟨[(13,G')],[(2,.any),(3,.any),(4,.box 58 [.d (.st 9),.ifc 103 (.agg [.box 150 [.box 193 [.d (.st 19)],.d (.list N'),G',.d .bool]])]),(5,.any),(6,.any),(7,.box 58 [.d (.st 9),.ifc 108 (.agg [.box 158 [.d (.st 22),.d (.st 8),G',G',G',.own 3 N']])])]⟩,[(.ret,⟨[(4,.kb false),(13,.any)],[(2,.any),(3,.any),(4,.any),(5,.any),(6,.any),(7,.any)]⟩),(.ex 0,⟨[(13,.any)],[(2,.any),(3,.any),(4,.box 58 [.d (.st 9),.ifc 103 (.agg [.box 150 [.box 193 [.d (.st 19)],.d (.list N'),G',.d .bool]])]),(5,.any),(6,.any),(7,.box 58 [.d (.st 9),.ifc 108 (.agg [.box 158 [.d (.st 22),.d (.st 8),G',G',G',.own 3 N']])])]⟩)])],[(1,4,7,⟨[(25,.any),(29,.d .bool)],[]⟩),(1,9,12,⟨[(30,.any),(34,.d .bool)],[]⟩),(9,3,5,⟨[(61,.any),(64,.d .bool)],[]⟩),(9,7,9,⟨[(65,.any),(68,.d .bool)],[]⟩),(9,11,13,⟨[(69,.any),(72,.d .bool)],[]⟩),(9,15,17,⟨[(73,.any),(76,.d .bool)],[]⟩),(16,5,8,⟨[(107,.any),(111,.d .bool)],[]⟩),(16,10,19,⟨[(112,.any),(122,.d .bool)],[]⟩),(20,4,7,⟨[(136,.any),(140,.d .bool)],[]⟩),(20,9,10,⟨[(141,.any),(143,.d .bool)],[]⟩)],[]⟩else if Nat.beq a 13 then U2 else U2,F,[]⟩
