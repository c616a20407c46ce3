/- P. Its conditions: none. -/
import Derived.Test.YtmhooikfkhjijaaGreatYEn
import Derived.Test.YtmhooikfkhjijaaGreatYX17
import Derived.Test.YtmhooikfkhjijaaGreatYX14
import Derived.Test.YtmhooikfkhjijaaGreatYVKey
set_option linter.all false
set_option maxRecDepth 100000
noncomputable section
namespace Go.Proofs.YtmhooikfkhjijaaGreat
open Go.V Go.RowKit Go.X
def b0z (F:Nat)(b:List C0)(c:List Int)(a:Int):Option Int:=if B0 b a then .bind (α:=Int⊕Unit) (.bind (if((gt b a).Kind)==1 then some (((gt b a).Kind)==1)else some (((gt b a).Kind)==2)) fun d=>if d then .bind (if((gt b a).A)==(-1)then some (((gt b a).B)==(-1))else some false) fun g=>if g then some (.inl a)else some (.inr ())else .bind (if((gt b a).Kind)==3 then some (((gt b a).Kind)==3)else some (((gt b a).Kind)==4)) fun h=>if h then .bind (if decide (((gt b a).B)>=0)then some (((gt b a).B)==(W (a-1)))else some false) fun i=>.bind (if i then some (decide (((gt b a).A)>=0))else some false) fun j=>.bind (if j then if B0 c ((gt b a).B)then let k:=((gt b a).A)==(W ((gt c ((gt b a).B))-1));
        some k else none else some false) fun l=>if l then if B0 c ((gt b a).A)then some (.inl (gt c ((gt b a).A)))else none else some (.inr ())else .bind (if((gt b a).Kind)==5 then some (((gt b a).Kind)==5)else if((gt b a).Kind)==6 then some (((gt b a).Kind)==6)else if((gt b a).Kind)==7 then some (((gt b a).Kind)==7)else some (((gt b a).Kind)==8)) fun m=>if m then .bind (if((gt b a).B)==(-1)then some (decide (((gt b a).A)>=0))else some false) fun n=>.bind (if n then some (((gt b a).A)==(W (a-1)))else some false) fun e=>if e then if B0 c ((gt b a).A)then some (.inl (gt c ((gt b a).A)))else none else some (.inr ())else some (.inr ())) fun o=>match o with
  | .inl f=>some f
  | .inr _=>some (-1)else none
abbrev V4:Ann:=⟨[],[],[],[]⟩
abbrev B2 (l:List (Sm en.D))(n:Nat)(a:Ann)(F:Nat):D4 en:=⟨l,fun g=>if Nat.beq g n then a else V4,F,[]⟩
def k09 (F:Nat):Sm en.D:=⟨138,[.d (.list (.st 0)),.d (.list (.int .i64)),.d (.int .i64)],.d (.int .i64),[],fun a=>b0z F a.1 a.2.1 a.2.2⟩
def C0P (F:Nat):=B2 [] 138 ⟨[(15,[(.nrm,⟨[(60,.d .bool)],[]⟩)]),(17,[(.ret,⟨[(6,.d (.int .i64))],[]⟩),(.nrm,⟨[],[]⟩)]),(5,[(.nrm,⟨[(14,.d .bool)],[]⟩)]),(9,[(.nrm,⟨[(26,.d .bool)],[]⟩)])],[],[(5,4,7,⟨[(20,.any),(24,.d .bool)],[]⟩),(9,4,9,⟨[(32,.any),(38,.d .bool)],[]⟩),(9,11,14,⟨[(39,.any),(43,.d .bool)],[]⟩),(9,16,25,⟨[(44,.any),(54,.d .bool)],[]⟩),(15,4,7,⟨[(68,.any),(72,.d .bool)],[]⟩),(15,9,14,⟨[(73,.any),(79,.d .bool)],[]⟩)],[]⟩ F
def b0P (F:Nat)(a:C0):Option Bool:=.bind (if a.Kind != 2 then let b:=!(((gt a.Set 0)==0)&&(((gt a.Set 1)==0)&&(((gt a.Set 2)==0)&&((gt a.Set 3)==0))));
   some b else some false) fun c=>if c then some false else if a.Kind==7 then .bind (if decide (a.N>=1)then some (decide (a.N<=9))else some false) fun d=>some d else some (a.N==0)
def k02 (F:Nat):Sm en.D:=⟨139,[.d (.st 0)],.d .bool,[],fun a=>b0P F a⟩
def w0Q (F:Nat):=B2 [] 139 ⟨[],[],[(1,4,8,⟨[(6,.any),(11,.d .bool)],[]⟩),(4,4,7,⟨[(18,.any),(22,.d .bool)],[]⟩)],[]⟩ F
def m03 (F:Nat)(c:C0)(b:List C0)(d:Int):Option (V0 Int (Unit⊕Unit)):=match d with
 | a=>if decide (a<(b.length:Int))then if B0 b a then .bind (if c.Kind==7 then some (((gt b a).Kind)==7)else some false) fun e=>.bind (if e then some (((gt b a).N)==c.N)else some false) fun f=>if f then some (.done (.inl ()))else some (.next (W (a+1)))else none else some (.done (.inr ()))
def b09 (F:Nat)(b:C0)(a:List C0):Option Bool:=.bind (α:=Unit⊕Unit) (iter (m03 F b a) F 0) fun c=>match c with
 | .inl _=>some true
 | .inr _=>some false
def n0L (F:Nat):Sm en.D:=⟨140,[.d (.st 0),.d (.list (.st 0))],.d .bool,[],fun a=>b09 F a.1 a.2⟩
def x0j (F:Nat):=B2 [] 140 ⟨[],[(2,⟨[(9,.d (.int .i64))],[]⟩,[(.ret,⟨[(4,.kb true),(9,.any)],[]⟩),(.ex 0,⟨[(9,.any)],[]⟩)])],[(4,4,7,⟨[(16,.any),(20,.d .bool)],[]⟩),(4,9,14,⟨[(21,.any),(27,.d .bool)],[]⟩)],[]⟩ F
def k0U (F:Nat)(b:List C0)(g:(List Int)×Int×Int):Option (V0 ((List Int)×Int×Int) (Unit⊕((List Int)×Int))):=match g with
 | (d,e,a)=>if decide (a<(b.length:Int))then if B0 b a then .bind (b0z F b d a) fun c=>.bind (if decide (c<0)then some true else .bind (b0P F (gt b a)) fun h=>some (!h)) fun j=>.bind (if j then some true else if I4 b c a then .bind (b09 F (gt b a) (I1 b c a)) fun f=>some f else none) fun k=>if k then some (.done (.inl ()))else .bind (α:=Int) (if((gt b a).Kind)==2 then some (W (e+1))else some e) fun i=>if I0 8 d [c]then some (.next (d++[c],i,W (a+1)))else none else none else some (.done (.inr (d,e)))
def R8 (F:Nat)(a:List C0):Option (List Int):=.bind (if(a.length:Int)==0 then some true else some (decide ((a.length:Int)>400))) fun d=>if d then some []else .bind (α:=Unit⊕((List Int)×Int)) (iter (k0U F a) F ([],0,0)) fun f=>match f with
  | .inl _=>some []
  | .inr (b,c)=>.bind (if decide (c>64)then some true else if B0 b (W ((a.length:Int)-1))then some ((gt b (W ((a.length:Int)-1))) != 0)else none) fun e=>if e then some []else some b
def f0E (F:Nat):Sm en.D:=⟨100,[.d (.list (.st 0))],.own 3 (.int .i64),[],fun a=>R8 F a⟩
def C05 (F:Nat):=B2 [k09 F,k02 F,n0L F] 100 ⟨[(13,[(.nrm,⟨[(4,.d (.int .i64))],[]⟩)])],[(6,⟨[(3,.own 3 (.int .i64)),(4,.d (.int .i64)),(18,.d (.int .i64))],[]⟩,[(.ret,⟨[(2,.nil),(3,.any),(4,.any),(18,.any)],[]⟩),(.ex 0,⟨[(3,.own 3 (.int .i64)),(4,.d (.int .i64)),(18,.any)],[]⟩)])],[(1,4,7,⟨[(11,.any),(15,.d .bool)],[]⟩),(9,3,6,⟨[(29,.any),(33,.d .bool)],[]⟩),(9,8,14,⟨[(34,.any),(41,.d .bool)],[]⟩),(15,3,10,⟨[(54,.any),(62,.d .bool)],[]⟩)],[]⟩ F
def c7 (F:Nat)(a:List C0):Option Bool:=.bind (R8 F a) fun b=>some (decide ((b.length:Int)>0))
def b0Q (F:Nat):Sm en.D:=⟨68,[.d (.list (.st 0))],.d .bool,[],fun a=>c7 F a⟩
def D0i (F:Nat):=B2 [f0E F] 68 V4 F
def h0R (F:Nat)(c:List C0)(a:Int)(d:List Int)(g:Int)(f:Int×(List Bool)):Option (V0 (Int×(List Bool)) (List Bool)):=match f with
 | (b,e)=>if decide (b<g)then .bind (α:=List Bool) (if B0 (I1 c (gt d a) (W (a+1))) b then let h:=((gt (I1 c (gt d a) (W (a+1))) b).Kind)==7;
    if h then if decide (0<=(gt (I1 c (gt d a) (W (a+1))) b).N)&&decide ((gt (I1 c (gt d a) (W (a+1))) b).N<10)then let i:=e.set ((gt (I1 c (gt d a) (W (a+1))) b).N).toNat true;
      some i else none else some e else none) fun j=>some (.next (W (b+1),j))else some (.done e)
def g0J (F:Nat)(e:List Bool)(c:(List Int)×Int):Option (V0 ((List Int)×Int) (List Int)):=match c with
 | (b,a)=>if decide (a<10)then .bind (α:=List Int) (if decide (0<=a)&&decide (a<10)then if gt e a then if I0 8 b [a]then some (b++[a])else none else some b else none) fun d=>some (.next (d,W (a+1)))else some (.done b)
def g0X (F:Nat)(c:List C0)(a:Int):Option (List Int):=.bind (R8 F c) fun b=>.bind (if decide (a<0)then some true else some (decide (a>=(b.length:Int)))) fun e=>if e then some []else if B0 b a then if I4 c (gt b a) (W (a+1))then let f:=((I1 c (gt b a) (W (a+1))).length:Int);
    .bind (α:=List Bool) (iter (h0R F c a b f) F (0,[false,false,false,false,false,false,false,false,false,false])) fun g=>.bind (α:=List Int) (iter (g0J F g) F ([],0)) fun d=>some d else none else none
def j0g (F:Nat):Sm en.D:=⟨101,[.d (.list (.st 0)),.d (.int .i64)],.own 3 (.int .i64),[],fun a=>g0X F a.1 a.2⟩
def D0Z (F:Nat):=B2 [f0E F] 101 ⟨[(10,[(.nrm,⟨[],[(1,.box 232 [.d (.arr 10 .bool)])]⟩)]),(17,[(.nrm,⟨[(9,.own 3 (.int .i64))],[(3,.any)]⟩)])],[(13,⟨[(9,.own 3 (.int .i64)),(41,.d (.int .i64))],[]⟩,[(.ex 2,⟨[(9,.own 3 (.int .i64)),(41,.any)],[]⟩)]),(6,⟨[(30,.d (.int .i64))],[(1,.box 232 [.d (.arr 10 .bool)])]⟩,[(.ex 0,⟨[(30,.any)],[(1,.box 232 [.d (.arr 10 .bool)])]⟩)])],[(2,3,7,⟨[(15,.any),(20,.d .bool)],[]⟩)],[]⟩ F
def h07 (F:Nat)(b:List Int)(c:Int×Int):Option (V0 (Int×Int) Int):=match c with
 | (d,a)=>if decide (a<(b.length:Int))then if B0 b a then some (.next (gt b a,W (a+1)))else none else some (.done d)
def k0p (F:Nat)(a:List C0):Option Int:=.bind (g0X F a (W ((a.length:Int)-1))) fun b=>.bind (α:=Int) (iter (h07 F b) F (0,0)) fun c=>some c
def k06 (F:Nat):Sm en.D:=⟨69,[.d (.list (.st 0))],.d (.int .i64),[],fun a=>k0p F a⟩
def y0V (F:Nat):=B2 [j0g F] 69 ⟨[],[(3,⟨[(3,.d (.int .i64)),(12,.d (.int .i64))],[]⟩,[(.ex 0,⟨[(3,.d (.int .i64)),(12,.any)],[]⟩)])],[],[]⟩ F
def j0A (F:Nat)(a:List C0):Option Int:=.bind (c7 F a) fun b=>if !b then some 0 else .bind (k0p F a) fun c=>some (W (1+(W (2*c))))
def n0N (F:Nat):Sm en.D:=⟨36,[.d (.list (.st 0))],.d (.int .i64),[],fun a=>j0A F a⟩
def y0K (F:Nat):=B2 [b0Q F,k06 F] 36 V4 F
def o0x (F:Nat)(c:List C0)(d:(List Int)×Int):Option (V0 ((List Int)×Int) (List Int)):=match d with
 | (b,a)=>if decide (a<(c.length:Int))then .bind (α:=List Int) (if B0 c a then if((gt c a).Kind)==2 then if I0 8 b [a]then some (b++[a])else none else some b else none) fun e=>some (.next (e,W (a+1)))else some (.done b)
def K7 (F:Nat)(a:List C0):Option (List Int):=.bind (c7 F a) fun c=>if !c then some []else .bind (α:=List Int) (iter (o0x F a) F ([],0)) fun b=>some b
def e09 (F:Nat):Sm en.D:=⟨37,[.d (.list (.st 0))],.own 3 (.int .i64),[],fun a=>K7 F a⟩
def y0j (F:Nat):=B2 [b0Q F] 37 ⟨[(9,[(.nrm,⟨[(3,.own 3 (.int .i64))],[(0,.any)]⟩)])],[(5,⟨[(3,.own 3 (.int .i64)),(11,.d (.int .i64))],[]⟩,[(.ex 0,⟨[(3,.own 3 (.int .i64)),(11,.any)],[]⟩)])],[],[]⟩ F
def M0q (F:Nat)(a:List C0):Option (List C0):=if I0 64 ([]:List C0) a then some a else none
def N0E (F:Nat):Sm en.D:=⟨142,[.d (.list (.st 0))],.own 145 (.st 0),[],fun a=>M0q F a⟩
def N0u (F:Nat):D4 en:=⟨[],fun _=>⟨[],[],[],[4]⟩,F,[]⟩
def p0y (F:Nat)(b:List Int)(d:(List G2)×Int):Option (V0 ((List G2)×Int) (List G2)):=match d with
 | (c,a)=>if decide (a<(b.length:Int))then if B0 b a then if I0 16 c [(⟨3,gt b a⟩:G2)]then some (.next (c++[(⟨3,gt b a⟩:G2)],W (a+1)))else none else none else some (.done c)
def i0i (F:Nat)(b:List C0)(a:Int):Option (List G2):=.bind (if decide (a<0)then some true else some (decide ((W (a.tdiv 2))>=(b.length:Int)))) fun e=>if e then some []else if B0 b (W (a.tdiv 2))then .bind (if((gt b (W (a.tdiv 2))).Kind)==7 then some ((a.tmod 2)==0)else some false) fun f=>if f then some [(⟨1,(gt b (W (a.tdiv 2))).N⟩:G2)]else if((gt b (W (a.tdiv 2))).Kind)==7 then some [(⟨2,(gt b (W (a.tdiv 2))).N⟩:G2)]else .bind (if((gt b (W (a.tdiv 2))).Kind)==8 then some ((a.tmod 2)==0)else some false) fun g=>if g then .bind (g0X F b (W (a.tdiv 2))) fun c=>.bind (α:=List G2) (iter (p0y F c) F ([],0)) fun d=>some d else some []else none
def o06 (F:Nat):Sm en.D:=⟨180,[.d (.list (.st 0)),.d (.int .i64)],.own 237 (.st 16),[],fun a=>i0i F a.1 a.2⟩
def y0a (F:Nat):D4 en:=⟨[j0g F],fun a=>if Nat.beq a 180 then⟨[],[(11,⟨[(6,.own 237 (.st 16)),(64,.d (.int .i64))],[]⟩,[(.ex 1,⟨[(6,.own 237 (.st 16)),(64,.any)],[]⟩)])],[(1,3,8,⟨[(11,.any),(17,.d .bool)],[]⟩),(4,4,7,⟨[(27,.any),(31,.d .bool)],[]⟩),(8,4,7,⟨[(54,.any),(58,.d .bool)],[]⟩)],[]⟩else if Nat.beq a 201 then V4 else V4,F,[]⟩
def i0N (F:Nat)(f:List C0)(c:List Int)(e:(List G2)×Int):Option (V0 ((List G2)×Int) (List G2)):=match e with
 | (b,a)=>if decide (a<(c.length:Int))then if B0 c a then .bind (i0i F f (gt c a)) fun d=>if I0 16 b d then some (.next (b++d,W (a+1)))else none else none else some (.done b)
def f0w (F:Nat)(a:List C0)(d:List Int):Option (List G2):=.bind (c7 F a) fun c=>if !c then some []else .bind (α:=List G2) (iter (i0N F a d) F ([],0)) fun b=>some b
def i0E (F:Nat):Sm en.D:=⟨147,[.d (.list (.st 0)),.d (.list (.int .i64))],.own 237 (.st 16),[],fun a=>f0w F a.1 a.2⟩
def A0V (F:Nat):=B2 [b0Q F,o06 F] 147 ⟨[],[(5,⟨[(5,.own 237 (.st 16)),(13,.d (.int .i64))],[]⟩,[(.ex 0,⟨[(5,.own 237 (.st 16)),(13,.any)],[]⟩)])],[],[]⟩ F
def j0b (F:Nat)(f:List C0)(b:List y0)(e:(List Q3)×Int):Option (V0 ((List Q3)×Int) (List Q3)):=match e with
 | (c,a)=>if decide (a<(b.length:Int))then if B0 b a then .bind (f0w F f ((gt b a).Steps)) fun d=>if I0 64 c [(⟨gt b a,d⟩:Q3)]then some (.next (c++[(⟨gt b a,d⟩:Q3)],W (a+1)))else none else none else some (.done c)
def h0o (F:Nat)(b:List C0)(a:List y0):Option (List Q3):=.bind (α:=List Q3) (iter (j0b F b a) F ([],0)) fun c=>some c
def o0W (F:Nat):Sm en.D:=⟨143,[.d (.list (.st 0)),.d (.list (.st 10))],.own 208 (.st 17),[],fun a=>h0o F a.1 a.2⟩
def C0e (F:Nat):=B2 [i0E F] 143 ⟨[],[(3,⟨[(5,.own 208 (.st 17)),(10,.d (.int .i64))],[]⟩,[(.ex 0,⟨[(5,.own 208 (.st 17)),(10,.any)],[]⟩)])],[],[]⟩ F
def o0s (F:Nat)(b:List C0)(e:Int×(List Int)):Option (V0 (Int×(List Int)) (List Int)):=match e with
 | (a,c)=>if decide (a<(b.length:Int))then .bind (α:=List Int) (if B0 b a then .bind (α:=List Int) (if decide (((gt b a).A)>=0)then if B0 c ((gt b a).A)then some (c.set ((gt b a).A).toNat a)else none else some c) fun d=>if decide (((gt b a).B)>=0)then if B0 d ((gt b a).B)then some (d.set ((gt b a).B).toNat a)else none else some d else none) fun f=>some (.next (W (a+1),f))else some (.done c)
def S9 (F:Nat)(a:List C0):Option (List Int):=.bind (c7 F a) fun c=>if !c then some []else if V2 8 (a.length:Int)then if B0 (List.replicate (a.length:Int).toNat 0:List Int) (W ((a.length:Int)-1))then let b:=(List.replicate (a.length:Int).toNat 0:List Int).set (W ((a.length:Int)-1)).toNat (-1);
    .bind (α:=List Int) (iter (o0s F a) F (0,b)) fun d=>some d else none else none
def f0S (F:Nat):Sm en.D:=⟨193,[.d (.list (.st 0))],.own 3 (.int .i64),[],fun a=>S9 F a⟩
def F0f (F:Nat):=B2 [b0Q F] 193 ⟨[(10,[(.nrm,⟨[],[(0,.own 3 (.int .i64))]⟩)]),(12,[(.nrm,⟨[],[(0,.own 3 (.int .i64))]⟩)])],[(6,⟨[(19,.d (.int .i64))],[(0,.own 3 (.int .i64))]⟩,[(.ex 0,⟨[(19,.any)],[(0,.own 3 (.int .i64))]⟩)])],[],[]⟩ F
def o0V (F:Nat)(c:List Int)(d:Int×(List Int)):Option (V0 (Int×(List Int)) (List Int)):=match d with
 | (a,b)=>if decide (a>=0)then .bind (α:=List Int) (if B0 b a then if B0 c a then if decide ((gt c a)>=0)then if B0 (b.set a.toNat 1) a then if B0 c a then if B0 (b.set a.toNat 1) (gt c a)then let e:=W ((gt (b.set a.toNat 1) a)+(gt (b.set a.toNat 1) (gt c a)));
         if B0 (b.set a.toNat 1) a then some ((b.set a.toNat 1).set a.toNat e)else none else none else none else none else some (b.set a.toNat 1)else none else none) fun f=>some (.next (W (a-1),f))else some (.done b)
def a0w (F:Nat)(b:List C0):Option (List Int):=.bind (S9 F b) fun a=>if V2 8 (a.length:Int)then .bind (α:=List Int) (iter (o0V F a) F (W ((a.length:Int)-1),(List.replicate (a.length:Int).toNat 0:List Int))) fun c=>some c else none
def j0S (F:Nat):Sm en.D:=⟨185,[.d (.list (.st 0))],.own 3 (.int .i64),[],fun a=>a0w F a⟩
def v0a (F:Nat):=B2 [f0S F] 185 ⟨[(5,[(.nrm,⟨[],[(1,.own 3 (.int .i64))]⟩)])],[(4,⟨[(5,.d (.int .i64))],[(1,.own 3 (.int .i64))]⟩,[(.ex 0,⟨[(5,.any)],[(1,.own 3 (.int .i64))]⟩)])],[],[]⟩ F
def k04 (F:Nat)(d:Int)(c:Int×(List Int)):Option (V0 (Int×(List Int)) (List Int)):=match c with
 | (a,b)=>if decide (a<d)then if B0 b a then some (.next (W (a+1),b.set a.toNat (-1)))else none else some (.done b)
def l0v (F:Nat)(b:List Int)(d:Int×(List Int)):Option (V0 (Int×(List Int)) (List Int)):=match d with
 | (a,c)=>if decide (a<(b.length:Int))then if B0 b a then if B0 c (gt b a)then some (.next (W (a+1),c.set (gt b a).toNat a))else none else none else some (.done c)
def b0K (F:Nat)(a:List C0):Option (List Int):=.bind (c7 F a) fun c=>if !c then some []else if V2 8 (a.length:Int)then let d:=((List.replicate (a.length:Int).toNat 0:List Int).length:Int);
   .bind (α:=List Int) (iter (k04 F d) F (0,(List.replicate (a.length:Int).toNat 0:List Int))) fun e=>.bind (K7 F a) fun b=>.bind (α:=List Int) (iter (l0v F b) F (0,e)) fun f=>some f else none
def l0E (F:Nat):Sm en.D:=⟨194,[.d (.list (.st 0))],.own 3 (.int .i64),[],fun a=>b0K F a⟩
def E03 (F:Nat):=B2 [e09 F,b0Q F] 194 ⟨[],[(10,⟨[(25,.d (.int .i64))],[(0,.own 3 (.int .i64))]⟩,[(.ex 2,⟨[(25,.any)],[(0,.own 3 (.int .i64))]⟩)]),(5,⟨[(15,.d (.int .i64))],[(0,.own 3 (.int .i64))]⟩,[(.ex 0,⟨[(15,.any)],[(0,.own 3 (.int .i64))]⟩)])],[],[]⟩ F
def m0w (F:Nat)(b:List C0)(d:Int×(List Bool)):Option (V0 (Int×(List Bool)) (List Bool)):=match d with
 | (a,c)=>if decide (a<(b.length:Int))then .bind (α:=List Bool) (if B0 b a then .bind (if((gt b a).Kind)==1 then some (((gt b a).Kind)==1)else if((gt b a).Kind)==5 then some (((gt b a).Kind)==5)else some (((gt b a).Kind)==6)) fun e=>if e then if B0 c a then some (c.set a.toNat true)else none else if((gt b a).Kind)==3 then if B0 c ((gt b a).A)then .bind (if gt c ((gt b a).A)then if B0 c ((gt b a).B)then some (gt c ((gt b a).B))else none else some false) fun f=>if B0 c a then some (c.set a.toNat f)else none else none else if((gt b a).Kind)==4 then if B0 c ((gt b a).A)then .bind (if gt c ((gt b a).A)then some true else if B0 c ((gt b a).B)then some (gt c ((gt b a).B))else none) fun g=>if B0 c a then some (c.set a.toNat g)else none else none else .bind (if((gt b a).Kind)==7 then some (((gt b a).Kind)==7)else some (((gt b a).Kind)==8)) fun h=>if h then if B0 c ((gt b a).A)then if B0 c a then some (c.set a.toNat (gt c ((gt b a).A)))else none else none else some c else none) fun i=>some (.next (W (a+1),i))else some (.done c)
def a0T (F:Nat)(a:List C0):Option (List Bool):=.bind (c7 F a) fun b=>if !b then some []else if V2 1 (a.length:Int)then .bind (α:=List Bool) (iter (m0w F a) F (0,(List.replicate (a.length:Int).toNat false:List Bool))) fun c=>some c else none
def k0q (F:Nat):Sm en.D:=⟨195,[.d (.list (.st 0))],.own 4 .bool,[],fun a=>a0T F a⟩
def D0G (F:Nat):=B2 [b0Q F] 195 ⟨[(11,[(.nrm,⟨[(21,.d .bool)],[]⟩)]),(18,[(.nrm,⟨[(62,.d .bool)],[]⟩)]),(19,[(.nrm,⟨[],[(0,.own 4 .bool)]⟩)])],[(5,⟨[(14,.d (.int .i64))],[(0,.own 4 .bool)]⟩,[(.ex 0,⟨[(14,.any)],[(0,.own 4 .bool)]⟩)])],[(13,8,13,⟨[(37,.any),(43,.d .bool)],[]⟩),(15,8,13,⟨[(54,.any),(60,.d .bool)],[]⟩)],[]⟩ F
def a0Z (F:Nat)(a:List C0):Option ((Unit⊕U4)×Bool):=.bind (c7 F a) fun e=>if !e then some ((.inl ()),false)else .bind (S9 F a) fun f=>.bind (a0w F a) fun c=>.bind (b0K F a) fun d=>.bind (a0T F a) fun b=>some ((.inr (⟨a,f,c,d,b⟩:U4)),true)
def j0L (F:Nat):Sm en.D:=⟨172,[.d (.list (.st 0))],.tup [.alt .nilp (.box 286 [.d (.st 31)]),.d .bool],[],fun a=>a0Z F a⟩
def w0J (F:Nat):=B2 [b0Q F,j0S F,f0S F,l0E F,k0q F] 172 V4 F
def l0p (F:Nat)(d:List y0)(c:Int×(List y0)):Option (V0 (Int×(List y0)) (List y0)):=match c with
 | (a,b)=>if decide (a<(d.length:Int))then if B0 b a then if V2 8 (((gt b a).Steps).length:Int)then if B0 b a then let e:=G4 (List.replicate (((gt b a).Steps).length:Int).toNat 0:List Int) ((gt b a).Steps);
     if B0 b a then some (.next (W (a+1),b.set a.toNat ({ gt b a with Steps:=e })))else none else none else none else none else some (.done b)
def a0H (F:Nat)(a:List y0):Option (List y0):=.bind (α:=List y0) (iter (l0p F a) F (0,a)) fun b=>some b
def i0z (F:Nat):Sm en.D:=⟨173,[.own 194 (.st 10)],.own 194 (.st 10),[],fun a=>a0H F a⟩
def E0S (F:Nat):=B2 [] 173 ⟨[],[(2,⟨[(7,.d (.int .i64))],[(0,.own 194 (.st 10))]⟩,[(.ex 0,⟨[(7,.any)],[(0,.own 194 (.st 10))]⟩)])],[],[]⟩ F
def X6 (F:Nat):Nat->(List C0)->(List Bool)->Int->(List Int)->Option (List Int)
 | 0,_,_,_,_=>none
 | e+1,b,c,a,d=>if I0 8 d [W (2*a)]then if B0 b a then .bind (α:=List Int) (if((gt b a).Kind)==3 then .bind (X6 F e b c ((gt b a).A) (d++[W (2*a)])) fun g=>.bind (X6 F e b c ((gt b a).B) g) fun h=>some h else if((gt b a).Kind)==4 then if B0 c ((gt b a).A)then if gt c ((gt b a).A)then .bind (X6 F e b c ((gt b a).A) (d++[W (2*a)])) fun i=>some i else .bind (X6 F e b c ((gt b a).B) (d++[W (2*a)])) fun j=>some j else none else .bind (if((gt b a).Kind)==7 then some (((gt b a).Kind)==7)else some (((gt b a).Kind)==8)) fun l=>if l then .bind (X6 F e b c ((gt b a).A) (d++[W (2*a)])) fun k=>some k else some (d++[W (2*a)])) fun f=>if I0 8 f [W ((W (2*a))+1)]then some (f++[W ((W (2*a))+1)])else none else none else none
def i07 (F b:Nat):Sm en.D:=⟨200,[.d (.list (.st 0)),.d (.list .bool),.d (.int .i64),.own 3 (.int .i64)],.own 3 (.int .i64),[],fun a=>X6 F b a.1 a.2.1 a.2.2.1 a.2.2.2⟩
def A0f (F a:Nat):=B2 [i07 F a] 200 ⟨[(12,[(.nrm,⟨[(53,.d .bool)],[]⟩)]),(13,[(.nrm,⟨[(3,.own 3 (.int .i64))],[(2,.any)]⟩)])],[],[],[]⟩ F
def a0f (F:Nat)(c:List C0)(a:Int):Option (List Int):=.bind (a0T F c) fun b=>.bind (if decide (a<0)then some true else some (decide (a>=(b.length:Int)))) fun e=>.bind (if e then some true else if B0 b a then some (!(gt b a))else none) fun f=>if f then some []else .bind (X6 F F c b a []) fun d=>some d
def g0L (F:Nat):Sm en.D:=⟨179,[.d (.list (.st 0)),.d (.int .i64)],.own 3 (.int .i64),[],fun a=>a0f F a.1 a.2⟩
def x0H (F:Nat):=B2 [k0q F,i07 F F] 179 ⟨[],[],[(2,3,7,⟨[(10,.any),(15,.d .bool)],[]⟩),(2,9,14,⟨[(16,.any),(22,.d .bool)],[]⟩)],[]⟩ F
def I8 (F:Nat)(a:List Int)(b:List Int):Option (List Int):=if decide ((a.length:Int)=(a.length:Int))&&(I4 a 0 (a.length:Int)&&(decide ((a.length:Int)<=(a.length:Int))&&decide ((a.length:Int)<=(a.length:Int))))then if I0 8 (I1 a 0 (a.length:Int)) b then some ((I1 a 0 (a.length:Int))++b)else none else none
def k0G (F:Nat):Sm en.D:=⟨196,[.d (.list (.int .i64)),.d (.list (.int .i64))],.d (.list (.int .i64)),[],fun a=>I8 F a.1 a.2⟩
def B0G (F:Nat):=B2 [] 196 V4 F
def e6 (F:Nat):Nat->U4->Int->(List Int)->(List y0)->Option (List y0)
 | 0,_,_,_,_=>none
 | e+1,a,b,g,d=>if B0 a.l b then .bind (I8 F g [W (2*b)]) fun c=>.bind (α:=(List y0)⊕(List y0)) (if((gt a.l b).Kind)==2 then if B0 a.index b then if I0 40 d [(⟨gt a.index b,0,c⟩:y0)]then some (.inl (d++[(⟨gt a.index b,0,c⟩:y0)]))else none else none else if((gt a.l b).Kind)==3 then .bind (e6 F e a ((gt a.l b).A) c d) fun f=>if B0 a.can ((gt a.l b).A)then if gt a.can ((gt a.l b).A)then .bind (a0f F a.l ((gt a.l b).A)) fun o=>.bind (I8 F c o) fun m=>.bind (e6 F e a ((gt a.l b).B) m f) fun h=>some (.inr h)else some (.inr f)else none else if((gt a.l b).Kind)==4 then .bind (e6 F e a ((gt a.l b).A) c d) fun i=>.bind (e6 F e a ((gt a.l b).B) c i) fun j=>some (.inr j)else .bind (if((gt a.l b).Kind)==5 then some (((gt a.l b).Kind)==5)else if((gt a.l b).Kind)==6 then some (((gt a.l b).Kind)==6)else if((gt a.l b).Kind)==7 then some (((gt a.l b).Kind)==7)else some (((gt a.l b).Kind)==8)) fun p=>if p then .bind (e6 F e a ((gt a.l b).A) c d) fun k=>some (.inr k)else some (.inr d)) fun r=>match r with
  | .inl q=>some q
  | .inr n=>some n else none
def g0p (F b:Nat):Sm en.D:=⟨174,[.d (.ptr (.st 31)),.d (.int .i64),.d (.list (.int .i64)),.own 194 (.st 10)],.own 194 (.st 10),[],fun a=>e6 F b a.1 a.2.1 a.2.2.1 a.2.2.2⟩
def C0W (F a:Nat):=B2 [g0p F a,g0L F,k0G F] 174 ⟨[(16,[(.nrm,⟨[(82,.d .bool)],[]⟩)]),(17,[(.ret,⟨[(8,.own 194 (.st 10))],[(0,.any)]⟩),(.nrm,⟨[(3,.own 194 (.st 10))],[(0,.any)]⟩)])],[],[],[]⟩ F
def b0O (F:Nat)(b:List C0)(a:Int):Option (List y0):=.bind (α:=(Unit⊕U4)×Bool) (.bind (a0Z F b) fun(h,c)=>match h with
  | .inl _=>some ((.inl ()),c)
  | .inr i=>some ((.inr i),c)) fun(f,d)=>match f with
 | .inl _=>.bind (if !d then some true else some (decide (a<0))) fun m=>.bind (if m then some true else some (decide (a>=(b.length:Int)))) fun n=>if n then some []else none
 | .inr g=>.bind (if !d then some true else some (decide (a<0))) fun k=>.bind (if k then some true else some (decide (a>=(b.length:Int)))) fun l=>if l then some []else .bind (e6 F F g a [] []) fun e=>.bind (a0H F e) fun j=>some j
def o0J (F:Nat):Sm en.D:=⟨144,[.d (.list (.st 0)),.d (.int .i64)],.own 194 (.st 10),[],fun a=>b0O F a.1 a.2⟩
def x0G (F:Nat):=B2 [j0L F,i0z F,g0p F F] 144 ⟨[(2,[(.nrm,⟨[(5,.alt .nilp (.box 286 [.d (.st 31)])),(6,.d .bool)],[]⟩)])],[],[(2,3,5,⟨[(14,.any),(17,.d .bool)],[]⟩),(2,7,11,⟨[(18,.any),(23,.d .bool)],[]⟩)],[]⟩ F
def a0S (F:Nat)(b:List C0)(a:Int):Option ((Unit⊕U4)×Int×Bool):=.bind (α:=(Unit⊕U4)×Bool) (.bind (a0Z F b) fun(i,e)=>match i with
  | .inl _=>some ((.inl ()),e)
  | .inr j=>some ((.inr j),e)) fun(g,f)=>match g with
 | .inl _=>if !f then some ((.inl ()),0,false)else .bind (K7 F b) fun d=>.bind (if decide (a<0)then some true else some (decide (a>=(d.length:Int)))) fun l=>if l then some ((.inl ()),0,false)else if B0 d a then some ((.inl ()),gt d a,true)else none
 | .inr h=>if !f then some ((.inl ()),0,false)else .bind (K7 F b) fun c=>.bind (if decide (a<0)then some true else some (decide (a>=(c.length:Int)))) fun k=>if k then some ((.inl ()),0,false)else if B0 c a then some ((.inr h),gt c a,true)else none
def j0C (F:Nat):Sm en.D:=⟨175,[.d (.list (.st 0)),.d (.int .i64)],.tup [.alt .nilp (.box 286 [.d (.st 31)]),.d (.int .i64),.d .bool],[],fun a=>a0S F a.1 a.2⟩
def D0I (F:Nat):=B2 [e09 F,j0L F] 175 ⟨[(2,[(.nrm,⟨[(7,.alt .nilp (.box 286 [.d (.st 31)])),(8,.d .bool)],[]⟩)])],[],[(5,3,7,⟨[(21,.any),(26,.d .bool)],[]⟩)],[]⟩ F
def l0q (F:Nat)(c:List y0)(b:List y0)(e:Int)(d:Int):Option (V0 Int (Int⊕Unit)):=match d with
 | a=>if decide (a<(b.length:Int))then if B0 b a then if((gt b a).To)==((gt c e).To)then some (.done (.inl a))else some (.next (W (a+1)))else none else some (.done (.inr ()))
def l0x (F:Nat)(e:U4)(d:Int)(b:List y0)(f:(List y0)×Int):Option (V0 ((List y0)×Int) (List y0)):=match f with
 | (c,a)=>if decide (a<(b.length:Int))then .bind (α:=List y0) (if B0 b a then .bind (.bind (α:=Int⊕Unit) (iter (l0q F b c a) F 0) fun k=>match k with
     | .inl j=>some (!(decide (j>=0)))
     | .inr _=>some (!(decide ((-1)>=0)))) fun i=>if i then if B0 e.deep d then if I0 40 c [(⟨(gt b a).To,gt e.deep d,(gt b a).Steps⟩:y0)]then let g:=c++[(⟨(gt b a).To,gt e.deep d,(gt b a).Steps⟩:y0)];
       some g else none else none else some c else none) fun h=>some (.next (h,W (a+1)))else some (.done c)
def a01 (F:Nat)(a:U4)(d:Int)(e:Int)(c:List Int)(f:List y0):Option (List y0):=.bind (e6 F F a e c []) fun b=>.bind (α:=List y0) (iter (l0x F a d b) F (f,0)) fun g=>some g
def m0g (F:Nat):Sm en.D:=⟨197,[.d (.ptr (.st 31)),.d (.int .i64),.d (.int .i64),.d (.list (.int .i64)),.own 194 (.st 10)],.own 194 (.st 10),[],fun a=>a01 F a.1 a.2.1 a.2.2.1 a.2.2.2.1 a.2.2.2.2⟩
def B0w (F:Nat):D4 en:=⟨[g0p F F],fun a=>if Nat.beq a 197 then⟨[(5,[(.nrm,⟨[(25,.d .bool)],[]⟩)]),(7,[(.nrm,⟨[(4,.own 194 (.st 10))],[(2,.any)]⟩)])],[(2,⟨[(4,.own 194 (.st 10)),(18,.d (.int .i64))],[(0,.any)]⟩,[(.ex 0,⟨[(4,.own 194 (.st 10)),(18,.any)],[(0,.any)]⟩)])],[],[]⟩else if Nat.beq a 205 then V4 else if Nat.beq a 206 then V4 else if Nat.beq a 220 then⟨[],[(2,⟨[(8,.d (.int .i64))],[]⟩,[(.ret,⟨[(4,.d (.int .i64)),(8,.any)],[]⟩),(.ex 0,⟨[(8,.any)],[]⟩)])],[],[]⟩else V4,F,[]⟩
def k0S (F:Nat)(a:U4)(f:Int×(List Int)×(List y0)×Int):Option (V0 (Int×(List Int)×(List y0)×Int) ((List y0)⊕((List Int)×(List y0)))):=match f with
 | (j,c,d,b)=>if decide (b>=0)then if B0 a.l b then .bind (α:=(List y0)⊕((List Int)×(List y0))) (.bind (if((gt a.l b).Kind)==3 then some (((gt a.l b).A)==j)else some false) fun o=>if o then .bind (a01 F a b ((gt a.l b).B) c d) fun e=>if B0 a.can ((gt a.l b).B)then if !(gt a.can ((gt a.l b).B))then some (.inl e)else .bind (a0f F a.l ((gt a.l b).B)) fun m=>.bind (I8 F c m) fun g=>some (.inr (g,e))else none else if((gt a.l b).Kind)==5 then .bind (a01 F a b ((gt a.l b).A) c d) fun n=>some (.inr (c,n))else some (.inr (c,d))) fun q=>match q with
   | .inl p=>some (.done (.inl p))
   | .inr (k,i)=>.bind (I8 F k [W ((W (2*b))+1)]) fun h=>if B0 a.up b then some (.next (b,h,i,gt a.up b))else none else none else some (.done (.inr (c,d)))
def a00 (F:Nat)(b:U4)(a:Int):Option ((List y0)×(List Int)):=if B0 b.up a then .bind (α:=(List y0)⊕((List Int)×(List y0))) (iter (k0S F b) F (a,[W ((W (2*a))+1)],[],gt b.up a)) fun f=>match f with
  | .inl e=>some (e,[])
  | .inr (d,c)=>some (c,d)else none
def j0Y (F:Nat):Sm en.D:=⟨176,[.d (.ptr (.st 31)),.d (.int .i64)],.tup [.own 194 (.st 10),.d (.list (.int .i64))],[],fun a=>a00 F a.1 a.2⟩
def C0M (F:Nat):=B2 [g0L F,k0G F,m0g F] 176 ⟨[(14,[(.ret,⟨[(4,.own 194 (.st 10)),(5,.nil),(7,.any)],[(1,.any)]⟩),(.nrm,⟨[(6,.d (.list (.int .i64))),(7,.own 194 (.st 10))],[(1,.any)]⟩)])],[(4,⟨[(1,.d (.int .i64)),(6,.d (.list (.int .i64))),(7,.own 194 (.st 10)),(8,.d (.int .i64))],[(0,.any)]⟩,[(.ret,⟨[(1,.any),(4,.own 194 (.st 10)),(5,.nil),(6,.any),(7,.any),(8,.any)],[(0,.any)]⟩),(.ex 0,⟨[(1,.any),(6,.d (.list (.int .i64))),(7,.own 194 (.st 10)),(8,.any)],[(0,.any)]⟩)])],[(7,4,8,⟨[(42,.any),(47,.d .bool)],[]⟩)],[]⟩ F
def o02 (F:Nat)(b:List y0):Option (List y0):=if b0j (fun a:y0=>a.To) b then some (r7 (fun a:y0=>a.To) b)else none
def q0U (F:Nat):Sm en.D:=⟨177,[.own 194 (.st 10),.fn 178 []],.tup [],[(0,.own 194 (.st 10))],fun a=>o02 F a⟩
def a06 (F:Nat)(j:List C0)(l:Int):Option (List y0):=.bind (α:=(Unit⊕U4)×Int×Bool) (.bind (a0S F j l) fun(d,a,b)=>match d with
  | .inl _=>some ((.inl ()),a,b)
  | .inr e=>some ((.inr e),a,b)) fun(g,m,c)=>match g with
 | .inl _=>if !c then some []else none
 | .inr h=>if !c then some []else .bind (a00 F h m) fun(i,n)=>.bind (o02 F i) fun f=>.bind (a0H F f) fun k=>some k
def p0d (F:Nat):Sm en.D:=⟨145,[.d (.list (.st 0)),.d (.int .i64)],.own 194 (.st 10),[],fun a=>a06 F a.1 a.2⟩
def v0e (F:Nat):=B2 [i0z F,j0C F,j0Y F,q0U F] 145 ⟨[(2,[(.nrm,⟨[(5,.alt .nilp (.box 286 [.d (.st 31)])),(6,.d (.int .i64)),(7,.d .bool)],[]⟩)])],[],[],[]⟩ F
def J9 (F:Nat)(a:List C0)(e:Int):Option (y0×Bool):=.bind (α:=List Int) (if e==(-1)then .bind (a0f F a (W ((a.length:Int)-1))) fun m=>some m else .bind (α:=(Unit⊕U4)×Int×Bool) (.bind (a0S F a e) fun(g,b,c)=>match g with
    | .inl _=>some ((.inl ()),b,c)
    | .inr h=>some ((.inr h),b,c)) fun(i,l,d)=>match i with
   | .inl _=>if d then none else some []
   | .inr j=>if d then .bind (a00 F j l) fun(n,k)=>some k else some []) fun f=>if(f.length:Int)==0 then some ((⟨0,0,[]⟩:y0),false)else some ((⟨(-1),0,f⟩:y0),true)
def o0N (F:Nat):Sm en.D:=⟨146,[.d (.list (.st 0)),.d (.int .i64)],.tup [.d (.st 10),.d .bool],[],fun a=>J9 F a.1 a.2⟩
def v0B (F:Nat):=B2 [j0C F,j0Y F,g0L F] 146 ⟨[(5,[(.nrm,⟨[(7,.alt .nilp (.box 286 [.d (.st 31)])),(8,.d (.int .i64)),(9,.d .bool)],[]⟩)]),(7,[(.nrm,⟨[(6,.d (.list (.int .i64)))],[]⟩)])],[],[],[]⟩ F
def h0y (F:Nat)(b:List C0)(c:List Int)(p:(Int×((List C0)×(List (List Int))×(List Q3)×(List (List Q3))×(List Q3)×(List Bool)×Int×y0))):Option (V0 (Int×((List C0)×(List (List Int))×(List Q3)×(List (List Q3))×(List Q3)×(List Bool)×Int×y0)) ((List C0)×(List (List Int))×(List Q3)×(List (List Q3))×(List Q3)×(List Bool)×Int×y0)):=match p with
 | (a,(l,h,i,g,f,d,o,k))=>if decide (a<(c.length:Int))then if B0 c a then if B0 b (gt c a)then if I0 32 h [(gt b (gt c a)).Set]then .bind (a06 F b a) fun q=>.bind (h0o F b q) fun n=>if I0 24 g [n]then .bind (J9 F b a) fun(e,j)=>.bind (f0w F b e.Steps) fun m=>if I0 64 f [(⟨e,m⟩:Q3)]then if I0 1 d [j]then some (.next (W (a+1),(l,h++[(gt b (gt c a)).Set],i,g++[n],f++[(⟨e,m⟩:Q3)],d++[j],o,k)))else none else none else none else none else none else none else some (.done (l,h,i,g,f,d,o,k))
def j0X (F:Nat)(a:List C0):Option c0c:=.bind (M0q F a) fun p=>.bind (b0O F a (W ((a.length:Int)-1))) fun g=>.bind (h0o F a g) fun l=>.bind (j0A F a) fun n=>.bind (K7 F a) fun i=>.bind (α:=(List C0)×(List (List Int))×(List Q3)×(List (List Q3))×(List Q3)×(List Bool)×Int×y0) (iter (h0y F a i) F (0,(p,[],l,[],[],[],n,(⟨0,0,[]⟩:y0)))) fun(h,m,c,k,f,d,o,q)=>.bind (J9 F a (-1)) fun(b,e)=>.bind (f0w F a b.Steps) fun j=>some (⟨h,m,c,k,f,d,j,e,o,b⟩:c0c)
def m0h (F:Nat):Sm en.D:=⟨106,[.d (.list (.st 0))],.box 196 [.d (.st 18)],[],fun a=>j0X F a⟩
def D0s (F:Nat):=B2 [n0N F,e09 F,N0E F,o0W F,o0J F,p0d F,o0N F,i0E F] 106 ⟨[],[(3,⟨[(24,.d (.int .i64))],[(0,.any),(2,.any),(3,.box 196 [.own 145 (.st 0),.own 143 (.arr 4 (.int .u64)),.own 208 (.st 17),.own 190 (.list (.st 17)),.own 208 (.st 17),.own 4 .bool,.nil,.kb false,.d (.int .i64),.d (.st 10)])]⟩,[(.ex 0,⟨[(24,.any)],[(0,.any),(2,.any),(3,.box 196 [.own 145 (.st 0),.own 143 (.arr 4 (.int .u64)),.own 208 (.st 17),.own 190 (.list (.st 17)),.own 208 (.st 17),.own 4 .bool,.nil,.kb false,.d (.int .i64),.d (.st 10)])]⟩)])],[],[]⟩ F
def c0T (F:Nat)(a:List C0):Option ((Unit⊕N3)×Int):=.bind (c7 F a) fun c=>if !c then some ((.inl ()),11)else .bind (j0X F a) fun b=>some ((.inr (⟨b,0,0,[],[],(⟨[],[]⟩:T3)⟩:N3)),0)
def j0t (F:Nat):Sm en.D:=⟨78,[.d (.list (.st 0))],.tup [.alt .nilp (.box 158 [.d (.st 19)]),.d (.int .i64)],[],fun a=>c0T F a⟩
def x0R (F:Nat):=B2 [b0Q F,m0h F] 78 V4 F
def h0D (F:Nat)(a:List Int):Option (List Int):=if I0 8 ([]:List Int) a then some a else none
def r0U (F:Nat):Sm en.D:=⟨130,[.d (.list (.int .i64))],.own 3 (.int .i64),[],fun a=>h0D F a⟩
def s0p (F:Nat):D4 en:=⟨[],fun _=>⟨[],[],[],[4]⟩,F,[]⟩
def o5 (d c:Int)(b:List Int)(a:G2):List Int:=if a.Group<1\/((b.length:Int)-1) / 2<a.Group then b else if a.Kind=1 then b.set (2*a.Group-1).toNat d else if a.Kind=2 then b.set (2*a.Group).toNat d else if a.Kind=3 then(b.set (2*a.Group-1).toNat c).set (2*a.Group).toNat c else b
def d0i (F:Nat)(a:List Int)(marks:List G2)(c b:Int):Option (List Int):=if I0 8 ([]:List Int) a&&decide (marks.length<=1000000000)then some (marks.foldl (o5 c b) a)else none
def g0T (F:Nat):Sm en.D:=⟨107,[.d (.list (.int .i64)),.d (.list (.st 16)),.d (.int .i64),.d (.int .i64)],.own 3 (.int .i64),[],fun a=>d0i F a.1 a.2.1 a.2.2.1 a.2.2.2⟩
def g0t (F:Nat)(a:Int)(b:Int):Option (Int×Int):=let c:=IntKind.u64.wrap ((C3 .u64 a 4294967295)*(C3 .u64 b 4294967295));
 let d:=IntKind.u64.wrap ((shr .u64 a 32)*(C3 .u64 b 4294967295));
 let e:=C3 .u64 (IntKind.u64.wrap (d+(shr .u64 c 32))) 4294967295;
 let f:=shr .u64 (IntKind.u64.wrap (d+(shr .u64 c 32))) 32;
 let g:=IntKind.u64.wrap ((C3 .u64 a 4294967295)*(shr .u64 b 32));
 let h:=IntKind.u64.wrap ((shr .u64 a 32)*(shr .u64 b 32));
 let i:=IntKind.u64.wrap ((IntKind.u64.wrap (h+f))+(shr .u64 (IntKind.u64.wrap (e+g)) 32));
 some (i,IntKind.u64.wrap (a*b))
def e07 (F:Nat)(c:Int)(d:Int):Option (Int×Int):=.bind (g0t F c d) fun(a,b)=>some (a,b)
def o0d (F:Nat)(b:List Int)(a:Int):Option (List Int):=g0I b a
def q0P (F:Nat):Sm en.D:=⟨181,[.d (.list (.int .i64)),.d (.int .i64)],.own 3 (.int .i64),[],fun a=>o0d F a.1 a.2⟩
def j0Q (F:Nat)(a:Int)(b:Int):Option (List Int):=if decide (a<1)then some []else .bind (o0d F [b] a) fun c=>some c
def m0R (F:Nat):Sm en.D:=⟨149,[.d (.int .i64),.d (.int .i64)],.own 3 (.int .i64),[],fun a=>j0Q F a.1 a.2⟩
def B0W (F:Nat):=B2 [q0P F] 149 V4 F
def f0t (F:Nat)(a:N3):Option (List Int):=.bind (j0Q F a.chart.tags (-1)) fun b=>if B0 b 0 then some (b.set (0:Int).toNat a.at_)else none
def i02 (F:Nat):Sm en.D:=⟨108,[.d (.ptr (.st 19))],.own 3 (.int .i64),[],fun a=>f0t F a⟩
def E05 (F:Nat):=B2 [m0R F] 108 V4 F
def h0M (F:Nat)(a:N3):Option ((List Int)×Bool):=if !a.chart.null then some ([],false)else .bind (f0t F a) fun c=>.bind (d0i F c a.chart.none a.at_ (-1)) fun b=>some (b,true)
def o0D (F:Nat):Sm en.D:=⟨79,[.d (.ptr (.st 19))],.tup [.own 3 (.int .i64),.d .bool],[],fun a=>h0M F a⟩
def C0g (F:Nat):=B2 [g0T F,i02 F] 79 V4 F
def e0B (F:Nat)(g:List C0):Option ((Unit⊕(N3×(List Int)×Int×Bool))×Int):=.bind (α:=(Unit⊕N3)×Int) (.bind (c0T F g) fun(h,c)=>match h with
  | .inl _=>some ((.inl ()),c)
  | .inr i=>some ((.inr i),c)) fun(d,a)=>match d with
 | .inl _=>if a != 0 then some ((.inl ()),a)else none
 | .inr b=>if a != 0 then some ((.inl ()),a)else .bind (h0M F b) fun(e,f)=>some ((.inr (b,e,0,f)),0)
def G0P (F:Nat):Sm en.D:=⟨42,[.d (.list (.st 0))],.tup [.alt .nilp (.box 109 [.box 158 [.d (.st 19)],.d (.list (.int .i64)),.d (.int .i64),.d .bool]),.d (.int .i64)],[],fun a=>e0B F a⟩
def K0e (F:Nat):=B2 [j0t F,o0D F] 42 ⟨[(2,[(.nrm,⟨[(4,.alt .nilp (.box 158 [.d (.st 19)])),(5,.d (.int .i64))],[]⟩)])],[],[],[]⟩ F
def I0v (F:Nat)(a:List (List Int)):Option (List (List Int)):=if I0 24 ([]:List (List Int)) a then some a else none
def N00 (F:Nat):Sm en.D:=⟨150,[.d (.list (.list (.int .i64)))],.own 23 (.list (.int .i64)),[],fun a=>I0v F a⟩
def N0Q (F:Nat):D4 en:=⟨[],fun _=>⟨[],[],[],[4]⟩,F,[]⟩
def h0e (F:Nat)(b:List (List Int))(d:Int)(c:Int):Option (V0 Int (Unit⊕Unit)):=match c with
 | a=>if decide (a<(b.length:Int))then if B0 b a then if((gt b a).length:Int) != d then some (.done (.inl ()))else some (.next (W (a+1)))else none else some (.done (.inr ()))
def h0T (F:Nat)(a:List (List Int))(b:Int):Option Bool:=.bind (α:=Unit⊕Unit) (iter (h0e F a b) F 0) fun c=>match c with
 | .inl _=>some false
 | .inr _=>some ((a.length:Int)==b)
def n0E (F:Nat):Sm en.D:=⟨203,[.d (.list (.list (.int .i64))),.d (.int .i64)],.d .bool,[],fun a=>h0T F a.1 a.2⟩
def v0w (F:Nat):=B2 [] 203 ⟨[],[(2,⟨[(9,.d (.int .i64))],[]⟩,[(.ret,⟨[(4,.kb false),(9,.any)],[]⟩),(.ex 0,⟨[(9,.any)],[]⟩)])],[],[]⟩ F
def g06 (F:Nat)(b:T3)(e:Int)(c:Int)(d:Int):Option (V0 Int (Unit⊕Unit)):=match d with
 | a=>if decide (a<e)then if B0 b.D c then if B0 (gt b.D c) a then if B0 b.B c then if B0 (gt b.B c) a then .bind (if decide ((gt (gt b.B c) a)<0)then some true else .bind (if c != a then if(gt (gt b.D c) a) != 1 then if(gt (gt b.D c) a) != (-1)then some true else if B0 b.D a then if B0 (gt b.D a) c then let f:=(gt (gt b.D a) c) != (W (0-(gt (gt b.D c) a)));
              some f else none else none else if B0 b.D a then if B0 (gt b.D a) c then let g:=(gt (gt b.D a) c) != (W (0-(gt (gt b.D c) a)));
             some g else none else none else some false) fun h=>some h) fun i=>if i then some (.done (.inl ()))else some (.next (W (a+1)))else none else none else none else none else some (.done (.inr ()))
def h0q (F:Nat)(b:T3)(c:Int)(d:Int):Option (V0 Int (Unit⊕Unit)):=match d with
 | a=>if decide (a<c)then if B0 b.B a then if B0 (gt b.B a) a then .bind (if(gt (gt b.B a) a) != 0 then some true else if B0 b.D a then if B0 (gt b.D a) a then some ((gt (gt b.D a) a) != 0)else none else none) fun e=>if e then some (.done (.inl ()))else .bind (α:=Unit⊕Unit) (iter (g06 F b c a) F 0) fun f=>match f with
     | .inl _=>some (.done (.inl ()))
     | .inr _=>some (.next (W (a+1)))else none else none else some (.done (.inr ()))
def k0h (F:Nat)(b:T3)(a:Int):Option Bool:=.bind (h0T F b.B a) fun c=>.bind (if !c then some true else .bind (h0T F b.D a) fun d=>some (!d)) fun e=>if e then some false else .bind (α:=Unit⊕Unit) (iter (h0q F b a) F 0) fun f=>match f with
  | .inl _=>some false
  | .inr _=>some true
def m01 (F:Nat):Sm en.D:=⟨182,[.d (.st 11),.d (.int .i64)],.d .bool,[],fun a=>k0h F a.1 a.2⟩
def E0z (F:Nat):=B2 [n0E F] 182 ⟨[],[(4,⟨[(21,.d (.int .i64))],[]⟩,[(.ret,⟨[(4,.kb false),(21,.any)],[]⟩),(.ex 0,⟨[(21,.any)],[]⟩)]),(9,⟨[(45,.d (.int .i64))],[]⟩,[(.ret,⟨[(4,.kb false),(45,.any)],[]⟩),(.ex 2,⟨[(45,.any)],[]⟩)])],[(1,6,11,⟨[(13,.any),(19,.d .bool)],[]⟩),(6,10,19,⟨[(33,.any),(43,.d .bool)],[]⟩),(12,10,34,⟨[(65,.any),(90,.d .bool)],[]⟩),(12,14,33,⟨[(69,.any),(89,.d .bool)],[]⟩)],[]⟩ F
def d00 (F:Nat)(a:T3):Option Bool:=.bind (k0h F a (a.B.length:Int)) fun b=>some b
def f07 (F:Nat):Sm en.D:=⟨153,[.d (.st 11)],.d .bool,[],fun a=>d00 F a⟩
def v0D (F:Nat):=B2 [m01 F] 153 V4 F
def i0L (F:Nat)(c:Int)(f:Int)(d:Int×(List (List Int))):Option (V0 (Int×(List (List Int))) (List (List Int))):=match d with
 | (a,b)=>if decide (a<f)then if V2 8 c then if B0 b a then let e:=b.set a.toNat (List.replicate c.toNat 0:List Int);
    some (.next (W (a+1),e))else none else none else some (.done b)
def d0Q (F:Nat)(a:Int):Option (List (List Int)):=if V2 24 a then let b:=((List.replicate a.toNat []:List (List Int)).length:Int);
  .bind (α:=List (List Int)) (iter (i0L F a b) F (0,(List.replicate a.toNat []:List (List Int)))) fun c=>some c else none
def i0A (F:Nat):Sm en.D:=⟨157,[.d (.int .i64)],.B1 23 [3] (.list (.int .i64)),[],fun a=>d0Q F a⟩
def B0t (F:Nat):=B2 [] 157 ⟨[],[(3,⟨[(9,.d (.int .i64))],[(0,.B1 23 [3] (.list (.int .i64)))]⟩,[(.ex 0,⟨[(9,.any)],[(0,.B1 23 [3] (.list (.int .i64)))]⟩)])],[],[6]⟩ F
def g0Q (F:Nat)(b:T3)(g:Int×(List (List Int))×(List (List Int))):Option (V0 (Int×(List (List Int))×(List (List Int))) ((List (List Int))×(List (List Int)))):=match g with
 | (a,d,e)=>if decide (a<(b.B.length:Int))then if B0 d a then if B0 b.B a then if B0 e a then if B0 b.D a then let c:=e.set a.toNat (G4 (gt e a) (gt b.D a));
      if B0 c a then if B0 c (b.B.length:Int)then if B0 (gt c a) (b.B.length:Int)then let f:=c.set a.toNat ((gt c a).set (b.B.length:Int).toNat 1);
         if B0 (gt f (b.B.length:Int)) a then let h:=f.set (b.B.length:Int).toNat ((gt f (b.B.length:Int)).set a.toNat (-1));
          some (.next (W (a+1),d.set a.toNat (G4 (gt d a) (gt b.B a)),h))else none else none else none else none else none else none else none else none else some (.done (d,e))
def g0m (F:Nat)(a:T3):Option T3:=.bind (d00 F a) fun b=>if !b then some (⟨[],[]⟩:T3)else .bind (d0Q F (W ((a.B.length:Int)+1))) fun c=>.bind (d0Q F (W ((a.B.length:Int)+1))) fun d=>.bind (α:=(List (List Int))×(List (List Int))) (iter (g0Q F a) F (0,c,d)) fun(e,f)=>some (⟨e,f⟩:T3)
def o0L (F:Nat):Sm en.D:=⟨151,[.d (.st 11)],.d (.st 11),[],fun a=>g0m F a⟩
def D0x (F:Nat):=B2 [f07 F,i0A F] 151 ⟨[],[(6,⟨[(21,.d (.int .i64))],[(2,.B1 23 [3] (.list (.int .i64))),(3,.B1 23 [3] (.list (.int .i64)))]⟩,[(.ex 0,⟨[(21,.any)],[(2,.B1 23 [3] (.list (.int .i64))),(3,.B1 23 [3] (.list (.int .i64)))]⟩)])],[],[]⟩ F
def f0x (F:Nat)(a:N3)(f:(Int×((List (List Int))×(List (List Q3))×T3))):Option (V0 (Int×((List (List Int))×(List (List Q3))×T3)) ((List (List Int))×(List (List Q3))×T3)):=match f with
 | (b,(e,c,d))=>if decide (b<(a.places.length:Int))then if B0 a.places b then if B0 a.chart.roads (gt a.places b)then if I0 24 c [gt a.chart.roads (gt a.places b)]then some (.next (W (b+1),(e,c++[gt a.chart.roads (gt a.places b)],d)))else none else none else none else some (.done (e,c,d))
def f0s (F:Nat)(a:N3)(e:Bool):Option (W8×N3):=.bind (α:=(List (List Int))×T3) (same (.bind (I0v F a.values) fun f=>some (f,a.rank)) (.bind (I0v F a.values) fun g=>some (g,a.rank))) fun(l,h)=>.bind (α:=(List (List Int))×(List (List Q3))×T3) (iter (f0x F a) F (0,(l,[],h))) fun(c,b,i)=>.bind (α:=(List (List Int))×(List (List Q3))×T3) (if e then .bind (f0t F a) fun d=>if I0 24 c [d]then if I0 24 b [a.chart.begin]then .bind (g0m F a.rank) fun n=>some (c++[d],b++[a.chart.begin],n)else none else none else some (c,b,i)) fun(m,k,j)=>some ((⟨m,k,j⟩:W8),a)
def k00 (F:Nat):Sm en.D:=⟨109,[.box 158 [.d (.st 19)],.d .bool],.d (.st 28),[(0,.box 158 [.d (.st 19)])],fun a=>f0s F a.1 a.2⟩
def E0U (F:Nat):=B2 [i02 F,N00 F,o0L F] 109 ⟨[(11,[(.nrm,⟨[],[(3,.box 200 [.own 23 (.list (.int .i64)),.own 190 (.list (.st 17)),.d (.st 11)]),(4,.any),(5,.any)]⟩)])],[(3,⟨[(23,.d (.int .i64))],[(2,.any),(3,.box 200 [.own 23 (.list (.int .i64)),.own 190 (.list (.st 17)),.d (.st 11)])]⟩,[(.ex 0,⟨[(23,.any)],[(2,.any),(3,.box 200 [.own 23 (.list (.int .i64)),.own 190 (.list (.st 17)),.d (.st 11)])]⟩)])],[(1,1000004,11,⟨[(5,.box 200 [.own 23 (.list (.int .i64)),.nil,.d (.st 11)])],[]⟩)],[]⟩ F
def i0b (F:Nat)(b:List Int)(a:Int):Option Bool:=if decide (0<=IntKind.u8.wrap (a.tdiv 64))&&decide (IntKind.u8.wrap (a.tdiv 64)<4)then if !decide (a.tmod 64<0)then let c:=C3 .u64 (gt b (IntKind.u8.wrap (a.tdiv 64))) (shl .u64 1 (a.tmod 64));
   some (c != 0)else none else none
def l0l (F:Nat):Sm en.D:=⟨152,[.d (.arr 4 (.int .u64)),.d (.int .u8)],.d .bool,[],fun a=>i0b F a.1 a.2⟩
def x0y (F:Nat):=B2 [] 152 V4 F
def h0K (F:Nat)(g:N3)(c:W8)(h:Int)(a:Int)(i:Int×(List E7)):Option (V0 (Int×(List E7)) (List E7)):=match i with
 | (b,d)=>if decide (b<((gt c.roads a).length:Int))then .bind (α:=List E7) (if B0 (gt c.roads a) b then if B0 g.chart.sets (((gt (gt c.roads a) b).Hop).To)then let o:=gtZ 4 g.chart.sets (((gt (gt c.roads a) b).Hop).To);
     .bind (i0b F o h) fun j=>if j then if B0 d (((gt (gt c.roads a) b).Hop).To)then if I0 8 ((gt d (((gt (gt c.roads a) b).Hop).To)).from_) [a]then let k:=((gt d (((gt (gt c.roads a) b).Hop).To)).from_)++[a];
        if decide (((gt (gt c.roads a) b).Hop).To=((gt (gt c.roads a) b).Hop).To)then let e:=d.set (((gt (gt c.roads a) b).Hop).To).toNat ({ gt d (((gt (gt c.roads a) b).Hop).To)with from_:=k });
         if I0 64 ((gt e (((gt (gt c.roads a) b).Hop).To)).roads) [gt (gt c.roads a) b]then let l:=((gt e (((gt (gt c.roads a) b).Hop).To)).roads)++[gt (gt c.roads a) b];
          if decide (((gt (gt c.roads a) b).Hop).To=((gt (gt c.roads a) b).Hop).To)then let f:=e.set (((gt (gt c.roads a) b).Hop).To).toNat ({ gt e (((gt (gt c.roads a) b).Hop).To)with roads:=l });
           if I0 40 ((gt f (((gt (gt c.roads a) b).Hop).To)).hops) [(gt (gt c.roads a) b).Hop]then let m:=((gt f (((gt (gt c.roads a) b).Hop).To)).hops)++[(gt (gt c.roads a) b).Hop];
            if decide (((gt (gt c.roads a) b).Hop).To=((gt (gt c.roads a) b).Hop).To)then let n:=f.set (((gt (gt c.roads a) b).Hop).To).toNat ({ gt f (((gt (gt c.roads a) b).Hop).To)with hops:=m });
             some n else none else none else none else none else none else none else none else some d else none else none) fun p=>some (.next (W (b+1),p))else some (.done d)
def h0b (F:Nat)(e:N3)(b:W8)(d:Int)(f:Int×(List E7)):Option (V0 (Int×(List E7)) (List E7)):=match f with
 | (a,c)=>if decide (a<(b.roads.length:Int))then if B0 b.roads a then .bind (α:=List E7) (iter (h0K F e b d a) F (0,c)) fun g=>some (.next (W (a+1),g))else none else some (.done c)
def g0D (F:Nat)(a:N3)(c:W8)(b:Int):Option ((List E7)×N3):=if V2 72 (a.chart.sets.length:Int)then .bind (α:=List E7) (iter (h0b F a c b) F (0,(List.replicate (a.chart.sets.length:Int).toNat (⟨[],[],[]⟩:E7):List E7))) fun d=>some (d,a)else none
def n0v (F:Nat):Sm en.D:=⟨110,[.box 158 [.d (.st 19)],.d (.st 28),.d (.int .u8)],.d (.list (.st 29)),[(0,.box 158 [.d (.st 19)])],fun a=>g0D F a.1 a.2.1 a.2.2⟩
def y0P (F:Nat):D4 en:=⟨[l0l F],fun a=>if Nat.beq a 110 then⟨[(10,[(.nrm,⟨[],[(2,.B1 203 [3,208,194] (.st 29))]⟩)])],[(3,⟨[(24,.d (.int .i64))],[(2,.B1 203 [3,208,194] (.st 29))]⟩,[(.ex 0,⟨[(24,.any)],[(2,.B1 203 [3,208,194] (.st 29))]⟩)]),(6,⟨[(31,.d (.int .i64))],[(2,.B1 203 [3,208,194] (.st 29))]⟩,[(.ex 2,⟨[(31,.any)],[(2,.B1 203 [3,208,194] (.st 29))]⟩)])],[],[20]⟩else if Nat.beq a 112 then V4 else V4,F,[]⟩
def e0p (F:Nat)(b:T3)(a:Int):Option Bool:=.bind (if decide (a>=0)then some (decide (a<(b.B.length:Int)))else some false) fun c=>some c
def g0R (F:Nat):Sm en.D:=⟨154,[.d (.st 11),.d (.int .i64)],.d .bool,[],fun a=>e0p F a.1 a.2⟩
def w04 (F:Nat):=B2 [] 154 ⟨[],[],[(1,3,8,⟨[(7,.any),(13,.d .bool)],[]⟩)],[]⟩ F
def e0M (F:Nat)(a:a0Q)(b:Int)(c:Int):Option Int:=if B0 a.from_ b then if B0 a.Rank.B (gt a.from_ b)then if B0 a.from_ c then if B0 (gt a.Rank.B (gt a.from_ b)) (gt a.from_ c)then let d:=gt (gt a.Rank.B (gt a.from_ b)) (gt a.from_ c);
     if B0 a.hops b then let e:=if(W (((gt a.hops b).Turn)+1))<d then W (((gt a.hops b).Turn)+1)else d;
      some e else none else none else none else none else none
def h03 (F:Nat):Sm en.D:=⟨159,[.d (.st 30),.d (.int .i64),.d (.int .i64)],.d (.int .i64),[],fun a=>e0M F a.1 a.2.1 a.2.2⟩
def D0c (F:Nat):=B2 [] 159 V4 F
def h0v (F:Nat)(a:a0Q)(b:Int)(c:Int):Option Int:=.bind (e0M F a b c) fun d=>.bind (e0M F a c b) fun e=>if decide (d>e)then some 1 else if decide (d<e)then some (-1)else if B0 a.from_ b then if B0 a.Rank.D (gt a.from_ b)then if B0 a.from_ c then if B0 (gt a.Rank.D (gt a.from_ b)) (gt a.from_ c)then let f:=gt (gt a.Rank.D (gt a.from_ b)) (gt a.from_ c);
       some f else none else none else none else none
def j0V (F:Nat):Sm en.D:=⟨155,[.d (.st 30),.d (.int .i64),.d (.int .i64)],.d (.int .i64),[],fun a=>h0v F a.1 a.2.1 a.2.2⟩
def B0S (F:Nat):=B2 [h03 F] 155 V4 F
def j0q (F:Nat)(d:T3)(c:List Int)(i:List y0)(j:Int)(g:Int×Int):Option (V0 (Int×Int) Int):=match g with
 | (b,a)=>if decide (a<j)then .bind (α:=Int) (if B0 c a then .bind (e0p F d (gt c a)) fun h=>.bind (if h then .bind (if decide (b<0)then some true else .bind (h0v F (⟨d,c,i⟩:a0Q) a b) fun e=>some (decide (e>0))) fun k=>some k else some false) fun l=>if l then some a else some b else none) fun f=>some (.next (f,W (a+1)))else some (.done b)
def f0V (F:Nat)(c:T3)(a:List Int)(b:List y0):Option Int:=.bind (d00 F c) fun e=>if !e then some (-1)else let f:=if(b.length:Int)<(a.length:Int)then(b.length:Int)else(a.length:Int);
  .bind (α:=Int) (iter (j0q F c a b f) F ((-1),0)) fun d=>some d
def n08 (F:Nat):Sm en.D:=⟨111,[.d (.st 11),.d (.list (.int .i64)),.d (.list (.st 10))],.d (.int .i64),[],fun a=>f0V F a.1 a.2.1 a.2.2⟩
def x0k (F:Nat):=B2 [f07 F,g0R F,j0V F] 111 ⟨[(10,[(.nrm,⟨[(7,.d (.int .i64))],[]⟩)])],[(6,⟨[(7,.d (.int .i64)),(23,.d (.int .i64))],[]⟩,[(.ex 0,⟨[(7,.d (.int .i64)),(23,.any)],[]⟩)])],[(8,7,16,⟨[(32,.any),(42,.d .bool)],[]⟩),(8,10,15,⟨[(35,.any),(41,.d .bool)],[]⟩)],[]⟩ F
def a0l (d b:List Int)(c:Int)(a:Int):Option (V0 Int Int):=if decide (0<=a)then if B0 b a&&(decide (gt b a<=c)&&decide (c<=a))then some (.done a)else if B0 b a&&B0 d a then some (.next (gt d a))else none else some (.done (-1))
def e0Y (F:Nat)(d:List C0)(a b:Int):Option Int:=.bind (S9 F d) fun c=>if decide (a<0)||(decide (b<0)||(decide (a>=(c.length:Int))||decide (b>=(c.length:Int))))then some (-1)else .bind (R8 F d) fun e=>iter (a0l c e b) F a
def k0R (F:Nat):Sm en.D:=⟨184,[.d (.list (.st 0)),.d (.int .i64),.d (.int .i64)],.d (.int .i64),[],fun a=>e0Y F a.1 a.2.1 a.2.2⟩
def e0L (F:Nat):Nat->(List C0)->y0->y0->Option (Int×Int×Int)
 | 0,_,_,_=>none
 | i+1,d,a,b=>.bind (K7 F d) fun e=>.bind (if decide (a.To>=0)then some (decide (a.To<(e.length:Int)))else some false) fun j=>.bind (if !j then some true else .bind (if decide (b.To>=0)then some (decide (b.To<(e.length:Int)))else some false) fun k=>some (!k)) fun l=>.bind (if l then some true else some (a.To==b.To)) fun m=>if m then some (0,0,0)else if decide (a.Turn>b.Turn)then some (W (a.Turn+1),W (b.Turn+1),1)else if decide (a.Turn<b.Turn)then some (W (a.Turn+1),W (b.Turn+1),(-1))else if decide (a.To>b.To)then .bind (e0L F i d b a) fun(g,h,n)=>some (h,g,(-1))else if B0 e a.To then if B0 e b.To then .bind (e0Y F d (gt e a.To) (gt e b.To)) fun c=>.bind (a0w F d) fun f=>if B0 f c then if B0 d c then if((gt d c).Kind)==3 then some (W ((W ((gt f c)+1))+1),W ((gt f c)+1),1)else some (W ((gt f c)+1),W ((gt f c)+1),1)else none else none else none else none
def k0C (F b:Nat):Sm en.D:=⟨158,[.d (.list (.st 0)),.d (.st 10),.d (.st 10)],.tup [.d (.int .i64),.d (.int .i64),.d (.int .i64)],[],fun a=>e0L F b a.1 a.2.1 a.2.2⟩
def F0j (F b:Nat):D4 en:=⟨[e09 F,k0C F b,k0R F,j0S F],fun a=>if Nat.beq a 158 then⟨[],[],[(3,5,9,⟨[(24,.any),(29,.d .bool)],[]⟩),(3,11,16,⟨[(30,.any),(36,.d .bool)],[]⟩)],[]⟩else if Nat.beq a 183 then⟨[],[],[(1,4,9,⟨[(7,.any),(13,.d .bool)],[]⟩)],[]⟩else V4,F,[]⟩
def g0Z (F:Nat)(e:T3)(b:List Int)(c:Int):Option (V0 Int (Int⊕Unit)):=match c with
 | a=>if decide (a<(b.length:Int))then if B0 b a then .bind (e0p F e (gt b a)) fun d=>if !d then some (.done (.inl a))else some (.next (W (a+1)))else none else some (.done (.inr ()))
def h0Z (F:Nat)(p:List C0)(j:T3)(e:List Int)(f:List y0)(a:Int)(l:Int×(List (List Int))×(List (List Int))):Option (V0 (Int×(List (List Int))×(List (List Int))) ((List (List Int))×(List (List Int)))):=match l with
 | (b,c,d)=>if decide (b<a)then .bind (α:=(List (List Int))×(List (List Int))) (if B0 e a then if B0 e b then if(gt e a)==(gt e b)then if B0 c a then if B0 c b then if B0 d a then if B0 f a then if B0 f b then .bind (e0L F F p (gt f a) (gt f b)) fun(m,n,o)=>if B0 (gt c a) b then let i:=c.set a.toNat ((gt c a).set b.toNat m);
            if B0 (gt i b) a then if B0 (gt d a) b then let r:=d.set a.toNat ((gt d a).set b.toNat o);
              some (i.set b.toNat ((gt i b).set a.toNat n),r)else none else none else none else none else none else none else none else none else if B0 c a then if B0 c b then if B0 d a then .bind (e0M F (⟨j,e,f⟩:a0Q) a b) fun h=>.bind (e0M F (⟨j,e,f⟩:a0Q) b a) fun q=>.bind (h0v F (⟨j,e,f⟩:a0Q) a b) fun k=>if B0 (gt c a) b then if B0 (gt (c.set a.toNat ((gt c a).set b.toNat h)) b) a then let s:=(c.set a.toNat ((gt c a).set b.toNat h)).set b.toNat ((gt (c.set a.toNat ((gt c a).set b.toNat h)) b).set a.toNat q);
           if B0 (gt d a) b then let t:=d.set a.toNat ((gt d a).set b.toNat k);
            some (s,t)else none else none else none else none else none else none else none else none) fun(v,g)=>if B0 g b then if B0 g a then if B0 (gt g a) b then if B0 (gt g b) a then let u:=g.set b.toNat ((gt g b).set a.toNat (W (0-(gt (gt g a) b))));
      some (.next (W (b+1),v,u))else none else none else none else none else some (.done (c,d))
def g0x (F:Nat)(g:List C0)(h:T3)(b:List Int)(f:List y0)(e:Int×(List (List Int))×(List (List Int))):Option (V0 (Int×(List (List Int))×(List (List Int))) ((List (List Int))×(List (List Int)))):=match e with
 | (a,c,d)=>if decide (a<(b.length:Int))then .bind (α:=(List (List Int))×(List (List Int))) (iter (h0Z F g h b f a) F (0,c,d)) fun(i,j)=>some (.next (W (a+1),i,j))else some (.done (c,d))
def g0U (F:Nat)(d:List C0)(b:T3)(a:List Int)(c:List y0):Option T3:=.bind (d00 F b) fun e=>.bind (if !e then some true else some ((a.length:Int) != (c.length:Int))) fun h=>.bind (if h then some true else .bind (α:=Int⊕Unit) (iter (g0Z F b a) F 0) fun m=>match m with
   | .inl j=>some (decide (j>=0))
   | .inr _=>some (decide ((-1)>=0))) fun i=>if i then some (⟨[],[]⟩:T3)else .bind (d0Q F (a.length:Int)) fun f=>.bind (d0Q F (a.length:Int)) fun g=>.bind (α:=(List (List Int))×(List (List Int))) (iter (g0x F d b a c) F (0,f,g)) fun(l,k)=>some (⟨l,k⟩:T3)
def m0y (F:Nat):Sm en.D:=⟨113,[.d (.list (.st 0)),.d (.st 11),.d (.list (.int .i64)),.d (.list (.st 10))],.d (.st 11),[],fun a=>g0U F a.1 a.2.1 a.2.2.1 a.2.2.2⟩
def B04 (F:Nat):D4 en:=⟨[f07 F,g0R F,j0V F,i0A F,k0C F F,h03 F],fun a=>if Nat.beq a 113 then⟨[(14,[(.nrm,⟨[],[(3,.B1 23 [3] (.list (.int .i64))),(4,.B1 23 [3] (.list (.int .i64)))]⟩)])],[(6,⟨[(42,.d (.int .i64))],[(3,.B1 23 [3] (.list (.int .i64))),(4,.B1 23 [3] (.list (.int .i64)))]⟩,[(.ex 0,⟨[(42,.any)],[(3,.B1 23 [3] (.list (.int .i64))),(4,.B1 23 [3] (.list (.int .i64)))]⟩)]),(9,⟨[(46,.d (.int .i64))],[(3,.B1 23 [3] (.list (.int .i64))),(4,.B1 23 [3] (.list (.int .i64)))]⟩,[(.ex 2,⟨[(46,.any)],[(3,.B1 23 [3] (.list (.int .i64))),(4,.B1 23 [3] (.list (.int .i64)))]⟩)])],[(1,4,9,⟨[(16,.any),(22,.d .bool)],[]⟩),(1,11,14,⟨[(23,.any),(27,.d .bool)],[]⟩)],[]⟩else if Nat.beq a 74 then V4 else if Nat.beq a 102 then⟨[],[(2,⟨[(8,.d (.int .i64))],[]⟩,[(.ret,⟨[(4,.d (.int .i64)),(8,.any)],[]⟩),(.ex 0,⟨[(8,.any)],[]⟩)])],[],[]⟩else if Nat.beq a 156 then V4 else V4,F,[]⟩
def d0R (F:Nat)(j:W8)(b:List E7)(l:(List Int)×(List (List Int))×Int×N3×((List Int)×(List Q3)×(List y0))):Option (V0 ((List Int)×(List (List Int))×Int×N3×((List Int)×(List Q3)×(List y0))) ((List Int)×(List (List Int))×N3×((List Int)×(List Q3)×(List y0)))):=match l with
 | (g,i,a,d,(e,h,f))=>if decide (a<(b.length:Int))then .bind (α:=(List Int)×(List (List Int))×N3×((List Int)×(List Q3)×(List y0))) (if B0 b a then .bind (f0V F j.rank ((gt b a).from_) ((gt b a).hops)) fun c=>if decide (c<0)then some (g,i,(⟨d.chart,d.at_,W (d.work+(((gt b a).from_).length:Int)),d.places,d.values,d.rank⟩:N3),(e,h,f))else if I0 8 g [a]then if B0 ((gt b a).from_) c then if B0 j.values (gt ((gt b a).from_) c)then if B0 ((gt b a).roads) c then .bind (d0i F (gt j.values (gt ((gt b a).from_) c)) ((gt ((gt b a).roads) c).marks) d.at_ (-1)) fun k=>if I0 24 i [k]then if B0 ((gt b a).from_) c then if B0 ((gt b a).roads) c then if I0 8 e [gt ((gt b a).from_) c]then if I0 64 h [gt ((gt b a).roads) c]then if I0 40 f [(gt ((gt b a).roads) c).Hop]then some (g++[a],i++[k],(⟨d.chart,d.at_,W (d.work+(((gt b a).from_).length:Int)),d.places,d.values,d.rank⟩:N3),(e++[gt ((gt b a).from_) c],h++[gt ((gt b a).roads) c],f++[(gt ((gt b a).roads) c).Hop]))else none else none else none else none else none else none else none else none else none else none else none) fun(o,q,r,(m,p,n))=>some (.next (o,q,W (a+1),r,(m,p,n)))else some (.done (g,i,d,(e,h,f)))
def e0e (F:Nat)(h:N3)(d:Int)(g:Bool):Option N3:=.bind (f0s F h g) fun(c,e)=>.bind (g0D F e c d) fun(m,f)=>.bind (α:=(List Int)×(List (List Int))×N3×((List Int)×(List Q3)×(List y0))) (iter (d0R F c m) F ([],[],0,f,([],[],[]))) fun(b,n,a,(i,q,j))=>.bind (g0U F a.chart.l c.rank i j) fun k=>let o:=W ((b.length:Int)*(b.length:Int));
 let p:=W ((W ((b.length:Int)*a.chart.tags))+o);
 some (⟨a.chart,W (a.at_+1),W (a.work+p),b,n,k⟩:N3)
def m0c (F:Nat):Sm en.D:=⟨80,[.box 158 [.d (.st 19)],.d (.int .u8),.d .bool],.tup [],[(0,.box 158 [.d (.st 19)])],fun a=>e0e F a.1 a.2.1 a.2.2⟩
def A0R (F:Nat):D4 en:=⟨[g0T F,k00 F,n0v F,n08 F,m0y F],fun a=>if Nat.beq a 80 then⟨[(13,[(.nrm,⟨[(7,.own 3 (.int .i64)),(8,.own 23 (.list (.int .i64)))],[(0,.box 158 [.d (.st 19)]),(3,.box 203 [.own 3 (.int .i64),.own 208 (.st 17),.own 194 (.st 10)]),(5,.any),(6,.any),(8,.any),(9,.any),(10,.any)]⟩)])],[(5,⟨[(7,.own 3 (.int .i64)),(8,.own 23 (.list (.int .i64))),(21,.d (.int .i64))],[(0,.box 158 [.d (.st 19)]),(3,.box 203 [.own 3 (.int .i64),.own 208 (.st 17),.own 194 (.st 10)])]⟩,[(.ex 0,⟨[(7,.own 3 (.int .i64)),(8,.own 23 (.list (.int .i64))),(21,.any)],[(0,.box 158 [.d (.st 19)]),(3,.box 203 [.own 3 (.int .i64),.own 208 (.st 17),.own 194 (.st 10)])]⟩)])],[],[]⟩else if Nat.beq a 112 then V4 else V4,F,[]⟩
def g0u (F:Nat)(a:N3):Option Int:=some a.at_
def H0i (F:Nat):Sm en.D:=⟨81,[.d (.ptr (.st 19))],.d (.int .i64),[],fun a=>g0u F a⟩
def I03 (F:Nat):=B2 [] 81 V4 F
def j0l (F:Nat)(d:T3)(b:List Int)(f:Int×Int):Option (V0 (Int×Int) Int):=match f with
 | (c,a)=>if decide (a<(b.length:Int))then .bind (α:=Int) (if B0 b a then .bind (e0p F d (gt b a)) fun g=>.bind (if g then .bind (if decide (c<0)then some true else if B0 d.D (gt b a)then if B0 (gt d.D (gt b a)) c then some (decide ((gt (gt d.D (gt b a)) c)>0))else none else none) fun h=>some h else some false) fun i=>if i then some (gt b a)else some c else none) fun e=>some (.next (e,W (a+1)))else some (.done c)
def i0l (F:Nat)(a:T3)(c:List Int):Option Int:=.bind (d00 F a) fun d=>if !d then some (-1)else .bind (α:=Int) (iter (j0l F a c) F ((-1),0)) fun b=>some b
def l0c (F:Nat):Sm en.D:=⟨114,[.d (.st 11),.d (.list (.int .i64))],.d (.int .i64),[],fun a=>i0l F a.1 a.2⟩
def E02 (F:Nat):=B2 [f07 F,g0R F] 114 ⟨[(9,[(.nrm,⟨[(5,.d (.int .i64))],[]⟩)])],[(5,⟨[(5,.d (.int .i64)),(14,.d (.int .i64))],[]⟩,[(.ex 0,⟨[(5,.d (.int .i64)),(14,.any)],[]⟩)])],[(7,4,17,⟨[(21,.any),(35,.d .bool)],[]⟩),(7,7,16,⟨[(24,.any),(34,.d .bool)],[]⟩)],[]⟩ F
def h00 (F:Nat)(b:N3)(e:(List Int)×Int):Option (V0 ((List Int)×Int) (List Int)):=match e with
 | (c,a)=>if decide (a<(b.places.length:Int))then .bind (α:=List Int) (if B0 b.places a then if B0 b.chart.can (gt b.places a)then if gt b.chart.can (gt b.places a)then if I0 8 c [a]then some (c++[a])else none else some c else none else none) fun d=>some (.next (d,W (a+1)))else some (.done c)
def g0f (F:Nat)(a:N3):Option ((List Int)×Bool):=.bind (α:=List Int) (iter (h00 F a) F ([],0)) fun d=>.bind (i0l F a.rank d) fun b=>if decide (b<0)then some ([],false)else if B0 a.values b then if B0 a.places b then if B0 a.chart.ends (gt a.places b)then .bind (d0i F (gt a.values b) ((gt a.chart.ends (gt a.places b)).marks) a.at_ (-1)) fun c=>some (c,true)else none else none else none
def o07 (F:Nat):Sm en.D:=⟨82,[.d (.ptr (.st 19))],.tup [.own 3 (.int .i64),.d .bool],[],fun a=>g0f F a⟩
def C0H (F:Nat):=B2 [g0T F,l0c F] 82 ⟨[(7,[(.nrm,⟨[(4,.own 3 (.int .i64))],[(0,.any)]⟩)])],[(3,⟨[(4,.own 3 (.int .i64)),(13,.d (.int .i64))],[]⟩,[(.ex 0,⟨[(4,.own 3 (.int .i64)),(13,.any)],[]⟩)])],[],[]⟩ F
def M0E (F:Nat)(c:List Int)(b:List Int)(e:(List Int)×Int):Option (V0 ((List Int)×Int) (List Int)):=match e with
 | (d,a)=>if decide (a<(b.length:Int))then if B0 b a then if B0 c (gt b a)then if I0 8 d [gt c (gt b a)]then some (.next (d++[gt c (gt b a)],W (a+1)))else none else none else none else some (.done d)
def B0P (F:Nat)(a:List Int)(b:List Int):Option (List Int):=.bind (α:=List Int) (iter (M0E F a b) F ([],0)) fun c=>some c
def M07 (F:Nat):Sm en.D:=⟨115,[.d (.list (.int .i64)),.d (.list (.int .i64))],.own 3 (.int .i64),[],fun a=>B0P F a.1 a.2⟩
def P0c (F:Nat):=B2 [] 115 ⟨[],[(3,⟨[(5,.own 3 (.int .i64)),(10,.d (.int .i64))],[]⟩,[(.ex 0,⟨[(5,.own 3 (.int .i64)),(10,.any)],[]⟩)])],[],[]⟩ F
def M0w (F:Nat)(c:List (List Int))(b:List Int)(e:(List (List Int))×Int):Option (V0 ((List (List Int))×Int) (List (List Int))):=match e with
 | (d,a)=>if decide (a<(b.length:Int))then if B0 b a then if B0 c (gt b a)then if I0 24 d [gt c (gt b a)]then some (.next (d++[gt c (gt b a)],W (a+1)))else none else none else none else some (.done d)
def H0S (F:Nat)(a:List (List Int))(b:List Int):Option (List (List Int)):=.bind (α:=List (List Int)) (iter (M0w F a b) F ([],0)) fun c=>some c
def M0N (F:Nat):Sm en.D:=⟨116,[.d (.list (.list (.int .i64))),.d (.list (.int .i64))],.own 23 (.list (.int .i64)),[],fun a=>H0S F a.1 a.2⟩
def O0E (F:Nat):=B2 [] 116 ⟨[],[(3,⟨[(5,.own 23 (.list (.int .i64))),(10,.d (.int .i64))],[]⟩,[(.ex 0,⟨[(5,.own 23 (.list (.int .i64))),(10,.any)],[]⟩)])],[],[]⟩ F
def E09 (F:Nat)(b:N3)(e:Int)(d:(List Int)×Int):Option (V0 ((List Int)×Int) (List Int)):=match d with
 | (c,a)=>if decide (a<(b.values.length:Int))then .bind (α:=List Int) (if B0 b.values a then if B0 (gt b.values a) 0 then if decide ((gt (gt b.values a) 0)<=e)then if I0 8 c [a]then some (c++[a])else none else some c else none else none) fun f=>some (.next (f,W (a+1)))else some (.done c)
def F0G (F:Nat)(d:List Int)(e:Int×(List (List Int))×(List (List Int))):Option (V0 (Int×(List (List Int))×(List (List Int))) ((List (List Int))×(List (List Int)))):=match e with
 | (a,b,c)=>if decide (a<(d.length:Int))then if B0 b a then if B0 c a then .bind (B0P F (gt b a) d) fun f=>.bind (B0P F (gt c a) d) fun g=>if B0 b a then if B0 c a then some (.next (W (a+1),b.set a.toNat f,c.set a.toNat g))else none else none else none else none else some (.done (b,c))
def h0l (F:Nat)(a:N3)(c:Int):Option N3:=.bind (α:=List Int) (iter (E09 F a c) F ([],0)) fun b=>.bind (B0P F a.places b) fun g=>.bind (H0S F a.values b) fun d=>.bind (H0S F a.rank.B b) fun e=>.bind (H0S F a.rank.D b) fun f=>.bind (α:=(List (List Int))×(List (List Int))) (iter (F0G F b) F (0,e,f)) fun(h,i)=>some (⟨a.chart,a.at_,a.work,g,d,(⟨h,i⟩:T3)⟩:N3)
def H0z (F:Nat):Sm en.D:=⟨83,[.box 158 [.d (.st 19)],.d (.int .i64)],.tup [],[(0,.box 158 [.d (.st 19)])],fun a=>h0l F a.1 a.2⟩
def L07 (F:Nat):=B2 [M07 F,M0N F] 83 ⟨[(6,[(.nrm,⟨[(4,.own 3 (.int .i64))],[(1,.any)]⟩)])],[(10,⟨[(64,.d (.int .i64))],[(4,.own 23 (.list (.int .i64))),(5,.own 23 (.list (.int .i64)))]⟩,[(.ex 2,⟨[(64,.any)],[(4,.own 23 (.list (.int .i64))),(5,.own 23 (.list (.int .i64)))]⟩)]),(2,⟨[(4,.own 3 (.int .i64)),(15,.d (.int .i64))],[]⟩,[(.ex 0,⟨[(4,.own 3 (.int .i64)),(15,.any)],[]⟩)])],[],[]⟩ F
def f0U (F:Nat):(N3×(List Int)×Int×Bool)->Int->Option (N3×(List Int)×Int×Bool)
 | (c,i,j,is),f=>.bind (g0u F c) fun d=>.bind (if d==0 then some true else some (!is)) fun k=>.bind (e0e F c f k) fun a=>.bind (g0f F a) fun(b,h)=>if h then .bind (g0u F a) fun e=>if B0 b 0 then .bind (h0l F a (gt b 0)) fun g=>some (g,b,e,true)else none else some (a,i,j,is)
def G04 (F:Nat):Sm en.D:=⟨43,[.box 109 [.box 158 [.d (.st 19)],.d (.list (.int .i64)),.d (.int .i64),.d .bool],.d (.int .u8)],.tup [],[(0,.box 109 [.box 158 [.d (.st 19)],.d (.list (.int .i64)),.d (.int .i64),.d .bool])],fun a=>f0U F a.1 a.2⟩
def I0W (F:Nat):=B2 [m0c F,H0i F,o07 F,H0z F] 43 ⟨[],[],[(0,12,17,⟨[(17,.any),(23,.d .bool)],[]⟩)],[]⟩ F
def M00 (F:Nat)(a:N3):Option (List Int):=.bind (h0D F a.places) fun b=>some b
def M0L (F:Nat):Sm en.D:=⟨117,[.d (.ptr (.st 19))],.own 3 (.int .i64),[],fun a=>M00 F a⟩
def Q0g (F:Nat):=B2 [r0U F] 117 V4 F
def M0m (F:Nat)(a:e0w):Option Int:=.bind (M00 F a.Crowd) fun b=>some (b.length:Int)
def N0e (F:Nat):Sm en.D:=⟨84,[.d (.ptr (.st 20))],.d (.int .i64),[],fun a=>M0m F a⟩
def O0n (F:Nat):=B2 [M0L F] 84 V4 F
def b04 (F:Nat)(a:Int):Option (Bool×Bool):=.bind (if decide (a>=3)then some (decide (a<=8))else some false) fun b=>.bind (if a==3 then some true else some (a==4)) fun c=>some (b,c)
def o0F (F:Nat):Sm en.D:=⟨95,[.d (.int .i64)],.tup [.d .bool,.d .bool],[],fun a=>b04 F a⟩
def y04 (F:Nat):=B2 [] 95 ⟨[],[],[(1,3,5,⟨[(6,.any),(9,.d .bool)],[]⟩),(1,9,11,⟨[(12,.any),(15,.d .bool)],[]⟩)],[]⟩ F
def m0o (F:Nat)(b:List C0)(c:Int)(d:Int):Option (V0 Int (Unit⊕Unit)):=match d with
 | a=>if decide (a<c)then .bind (if((gt b c).Kind)==7 then if B0 b a then some (((gt b a).Kind)==7)else none else some false) fun e=>.bind (if e then if B0 b a then some (((gt b a).N)==((gt b c).N))else none else some false) fun f=>if f then some (.done (.inl ()))else some (.next (W (a+1)))else some (.done (.inr ()))
def l0w (F:Nat)(b:List C0)(j:Int×Int×(List Int)):Option (V0 (Int×Int×(List Int)) (Unit⊕(Int×(List Int)))):=match j with
 | (f,a,c)=>if decide (a<(b.length:Int))then if B0 b a then .bind (b04 F ((gt b a).Kind)) fun(h,i)=>if B0 c a then .bind (if decide (((gt b a).Kind)<1)then some true else some (decide (((gt b a).Kind)>8))) fun m=>.bind (if m then some true else .bind (if((gt b a).Kind) != 2 then let r:=!(((gt ((gt b a).Set) 0)==0)&&(((gt ((gt b a).Set) 1)==0)&&(((gt ((gt b a).Set) 2)==0)&&((gt ((gt b a).Set) 3)==0))));
        some r else some false) fun s=>some s) fun t=>.bind (if t then some true else .bind (if((gt b a).Kind) != 7 then some (((gt b a).N) != 0)else some false) fun u=>some u) fun v=>.bind (if v then some true else .bind (if((gt b a).Kind)==7 then if decide (((gt b a).N)<1)then some true else some (decide (((gt b a).N)>9))else some false) fun w=>some w) fun x=>if x then some (.done (.inl ()))else .bind (if !h then some (((gt b a).A) != (-1))else some false) fun y=>.bind (if y then some true else .bind (if !i then some (((gt b a).B) != (-1))else some false) fun n=>some n) fun o=>if o then some (.done (.inl ()))else .bind (α:=Int) (if((gt b a).Kind)==2 then some (W (f+1))else some f) fun l=>.bind (α:=Unit⊕Int) (if i then .bind (if((gt b a).B) != (W (a-1))then some true else some (decide ((W (a-1))<0))) fun p=>if p then some (.inl ())else if B0 (c.set a.toNat a) (W (a-1))then some (.inr (W ((gt (c.set a.toNat a) (W (a-1)))-1)))else none else some (.inr (W (a-1)))) fun d=>match d with
      | .inl _=>some (.done (.inl ()))
      | .inr e=>.bind (α:=Unit⊕(List Int)) (if h then .bind (if((gt b a).A) != e then some true else some (decide (e<0))) fun q=>if q then some (.inl ())else if B0 (c.set a.toNat a) e then if B0 (c.set a.toNat a) a then let k:=(c.set a.toNat a).set a.toNat (gt (c.set a.toNat a) e);
            some (.inr k)else none else none else some (.inr (c.set a.toNat a))) fun d=>match d with
       | .inl _=>some (.done (.inl ()))
       | .inr g=>if B0 g a then .bind (α:=Unit⊕Unit) (iter (m0o F b a) F (gt g a)) fun d=>match d with
         | .inl _=>some (.done (.inl ()))
         | .inr _=>some (.next (l,W (a+1),g))else none else none else none else some (.done (.inr (f,c)))
def b0c (F:Nat)(a:List C0):Option (Unit⊕(List Int)):=if V2 8 (a.length:Int)then .bind (α:=Unit⊕(Int×(List Int))) (iter (l0w F a) F (0,0,(List.replicate (a.length:Int).toNat 0:List Int))) fun g=>match g with
  | .inl _=>some (.inl ())
  | .inr (c,b)=>.bind (if(a.length:Int)==0 then some true else some (decide ((a.length:Int)>400))) fun d=>.bind (if d then some true else some (decide (c>64))) fun e=>.bind (if e then some true else if B0 b (W ((a.length:Int)-1))then some ((gt b (W ((a.length:Int)-1))) != 0)else none) fun f=>if f then some (.inl ())else some (.inr b)else none
def i0H (F:Nat):Sm en.D:=⟨53,[.d (.list (.st 0))],.alt .nil (.own 3 (.int .i64)),[],fun a=>b0c F a⟩
def A0d (F:Nat):=B2 [o0F F] 53 ⟨[(15,[(.nrm,⟨[(4,.d (.int .i64))],[]⟩)]),(20,[(.ret,⟨[(2,.nil)],[]⟩),(.nrm,⟨[(9,.d (.int .i64))],[]⟩)]),(24,[(.ret,⟨[(2,.nil)],[]⟩),(.nrm,⟨[],[(0,.own 3 (.int .i64))]⟩)])],[(25,⟨[(10,.d (.int .i64))],[]⟩,[(.ret,⟨[(2,.nil),(10,.any)],[]⟩),(.ex 2,⟨[(10,.any)],[]⟩)]),(4,⟨[(4,.d (.int .i64)),(5,.d (.int .i64))],[(0,.own 3 (.int .i64))]⟩,[(.ret,⟨[(2,.nil),(4,.any),(5,.any)],[(0,.any)]⟩),(.ex 0,⟨[(4,.d (.int .i64)),(5,.any)],[(0,.own 3 (.int .i64))]⟩)])],[(9,4,7,⟨[(37,.any),(41,.d .bool)],[]⟩),(9,9,18,⟨[(42,.any),(52,.d .bool)],[]⟩),(9,13,17,⟨[(46,.any),(51,.d .bool)],[]⟩),(9,20,28,⟨[(53,.any),(62,.d .bool)],[]⟩),(9,24,27,⟨[(57,.any),(61,.d .bool)],[]⟩),(9,30,43,⟨[(63,.any),(77,.d .bool)],[]⟩),(9,34,42,⟨[(67,.any),(76,.d .bool)],[]⟩),(11,3,6,⟨[(80,.any),(84,.d .bool)],[]⟩),(11,8,15,⟨[(85,.any),(93,.d .bool)],[]⟩),(11,11,14,⟨[(88,.any),(92,.d .bool)],[]⟩),(17,5,7,⟨[(106,.any),(109,.d .bool)],[]⟩),(21,5,7,⟨[(120,.any),(123,.d .bool)],[]⟩),(27,4,10,⟨[(143,.any),(150,.d .bool)],[]⟩),(27,12,20,⟨[(151,.any),(160,.d .bool)],[]⟩),(29,4,7,⟨[(164,.any),(168,.d .bool)],[]⟩),(29,9,11,⟨[(169,.any),(172,.d .bool)],[]⟩),(29,13,20,⟨[(173,.any),(181,.d .bool)],[]⟩)],[]⟩ F
def B6 (F:Nat)(a:List C0):Option Bool:=.bind (b0c F a) fun b=>match b with
 | .inl _=>some false
 | .inr c=>if !c.isEmpty then some true else none
def k0E (F:Nat):Sm en.D:=⟨20,[.d (.list (.st 0))],.d .bool,[],fun a=>B6 F a⟩
def A03 (F:Nat):=B2 [i0H F] 20 V4 F
def o0C (F:Nat)(c:List C0)(d:(List Int)×Int):Option (V0 ((List Int)×Int) (List Int)):=match d with
 | (b,a)=>if decide (a<(c.length:Int))then .bind (α:=List Int) (if B0 c a then if((gt c a).Kind)==2 then if I0 8 b [a]then some (b++[a])else none else some b else none) fun e=>some (.next (e,W (a+1)))else some (.done b)
def b0t (F:Nat)(a:List C0):Option (List Int):=.bind (B6 F a) fun c=>if !c then some []else .bind (α:=List Int) (iter (o0C F a) F ([],0)) fun b=>some b
def i0m (F:Nat)(a:List C0):Option (List Int):=.bind (b0c F a) fun b=>match b with
 | .inl _=>some []
 | .inr c=>some c
def n09 (F:Nat):Sm en.D:=⟨134,[.d (.list (.st 0))],.own 3 (.int .i64),[],fun a=>i0m F a⟩
def z0K (F:Nat):=B2 [i0H F] 134 V4 F
def h0u (F:Nat)(b:List C0)(e:Int)(d:Int)(c:Bool×Int):Option (V0 (Bool×Int) Bool):=match c with
 | (is,a)=>if decide (a<=e)then .bind (if is then some true else if B0 b a then .bind (if((gt b a).Kind)==7 then if B0 b a then some (((gt b a).N)==d)else none else some false) fun f=>some f else none) fun g=>some (.next (g,W (a+1)))else some (.done is)
def h0G (F:Nat)(g:List C0)(c:Int)(d:List Int)(e:(List Int)×Int):Option (V0 ((List Int)×Int) (List Int)):=match e with
 | (b,a)=>if decide (a<=9)then .bind (α:=List Int) (if B0 d c then .bind (iter (h0u F g c a) F (false,gt d c)) fun f=>if f then if I0 8 b [a]then some (b++[a])else none else some b else none) fun h=>some (.next (h,W (a+1)))else some (.done b)
def f0M (F:Nat)(b:List C0)(a:Int):Option (List Int):=.bind (i0m F b) fun c=>.bind (if decide (a<0)then some true else some (decide (a>=(c.length:Int)))) fun e=>if e then some []else .bind (α:=List Int) (iter (h0G F b a c) F ([],1)) fun d=>some d
def k0F (F:Nat):Sm en.D:=⟨97,[.d (.list (.st 0)),.d (.int .i64)],.own 3 (.int .i64),[],fun a=>f0M F a.1 a.2⟩
def v05 (F:Nat):=B2 [n09 F] 97 ⟨[(7,[(.nrm,⟨[(6,.own 3 (.int .i64))],[(1,.any)]⟩)])],[(10,⟨[(8,.d .bool),(9,.d (.int .i64))],[]⟩,[(.ex 2,⟨[(8,.d .bool),(9,.any)],[]⟩)]),(6,⟨[(6,.own 3 (.int .i64)),(7,.d (.int .i64))],[]⟩,[(.ex 0,⟨[(6,.own 3 (.int .i64)),(7,.any)],[]⟩)])],[(3,3,7,⟨[(14,.any),(19,.d .bool)],[]⟩),(12,2,17,⟨[(34,.any),(50,.d .bool)],[]⟩),(12,9,16,⟨[(41,.any),(49,.d .bool)],[]⟩)],[]⟩ F
def j00 (F:Nat)(b:List C0):Option Int:=.bind (f0M F b (W ((b.length:Int)-1))) fun a=>if(a.length:Int)==0 then some 0 else if B0 a (W ((a.length:Int)-1))then some (gt a (W ((a.length:Int)-1)))else none
def o0c (F:Nat):Sm en.D:=⟨70,[.d (.list (.st 0))],.d (.int .i64),[],fun a=>j00 F a⟩
def E08 (F:Nat):=B2 [k0F F] 70 V4 F
def O01 (F:Nat)(b:List Int)(d:Int×Int):Option (V0 (Int×Int) (Unit⊕Unit)):=match d with
 | (c,a)=>if decide (a<(b.length:Int))then if B0 b a then .bind (if decide ((gt b a)<0)then some true else some (decide ((gt b a)>c))) fun e=>if e then some (.done (.inl ()))else let f:=if(W ((gt b a)+1))>c then W ((gt b a)+1)else c;
    some (.next (f,W (a+1)))else none else some (.done (.inr ()))
def M03 (F:Nat)(a:List Int):Option Bool:=.bind (α:=Unit⊕Unit) (iter (O01 F a) F (0,0)) fun b=>match b with
 | .inl _=>some false
 | .inr _=>some ((a.length:Int)==256)
def M0A (F:Nat):Sm en.D:=⟨71,[.d (.list (.int .i64))],.d .bool,[],fun a=>M03 F a⟩
def O0z (F:Nat):=B2 [] 71 ⟨[],[(3,⟨[(3,.d (.int .i64)),(8,.d (.int .i64))],[]⟩,[(.ret,⟨[(2,.kb false),(3,.any),(8,.any)],[]⟩),(.ex 0,⟨[(3,.any),(8,.any)],[]⟩)])],[(5,3,6,⟨[(14,.any),(18,.d .bool)],[]⟩)],[]⟩ F
def O0C (F:Nat)(c:List Int)(d:(List Int)×Int):Option (V0 ((List Int)×Int) (List Int)):=match d with
 | (b,a)=>if decide (a<(c.length:Int))then .bind (α:=List Int) (if B0 c a then if(gt c a)==(b.length:Int)then if I0 1 b [IntKind.u8.wrap (a)]then some (b++[IntKind.u8.wrap (a)])else none else some b else none) fun e=>some (.next (e,W (a+1)))else some (.done b)
def N07 (F:Nat)(a:List Int):Option (List Int):=.bind (M03 F a) fun c=>if !c then some []else .bind (α:=List Int) (iter (O0C F a) F ([],0)) fun b=>some b
def M0U (F:Nat):Sm en.D:=⟨72,[.d (.list (.int .i64))],.own 5 (.int .u8),[],fun a=>N07 F a⟩
def P0C (F:Nat):=B2 [M0A F] 72 ⟨[(9,[(.nrm,⟨[(3,.own 5 (.int .u8))],[(0,.any)]⟩)])],[(5,⟨[(3,.own 5 (.int .u8)),(11,.d (.int .i64))],[]⟩,[(.ex 0,⟨[(3,.own 5 (.int .u8)),(11,.any)],[]⟩)])],[],[]⟩ F
def P0M (F:Nat)(c:a0c)(b:a08)(d:Int):Option (V0 Int (Int⊕Unit)):=match d with
 | a=>if decide (a<(b.Moves.length:Int))then if B0 b.Moves a then .bind (if decide (((gt b.Moves a).To)<0)then some true else some (decide (((gt b.Moves a).To)>=c.Regs))) fun h=>.bind (if h then some true else some (decide (((gt b.Moves a).From)<(-1)))) fun i=>.bind (if i then some true else some (decide (((gt b.Moves a).From)>=c.Regs))) fun e=>.bind (if e then some true else let f:=((gt b.Moves a).From)==((gt b.Moves a).To);
     some f) fun g=>if g then some (.done (.inl a))else some (.next (W (a+1)))else none else some (.done (.inr ()))
def N0R (F:Nat)(b:a0c)(a:a08):Option Bool:=.bind (if decide (a.To<(-1))then some true else some (decide (a.To>=(b.Stands.length:Int)))) fun d=>.bind (if d then some true else .bind (if a.To==(-1)then some (decide ((a.Moves.length:Int)>0))else some false) fun e=>some e) fun f=>.bind (if f then some true else let g:=decide ((a.Moves.length:Int)>(W (2*b.Regs)));
   some g) fun h=>if h then some false else .bind (α:=Int⊕Unit) (iter (P0M F b a) F 0) fun i=>match i with
  | .inl c=>some (!(decide (c>=0)))
  | .inr _=>some (!(decide ((-1)>=0)))
def M0X (F:Nat):Sm en.D:=⟨77,[.d (.st 4),.d (.st 2)],.d .bool,[],fun a=>N0R F a.1 a.2⟩
def P0A (F:Nat):D4 en:=⟨[],fun a=>if Nat.beq a 77 then⟨[],[],[(1,4,10,⟨[(8,.any),(15,.d .bool)],[]⟩),(1,12,21,⟨[(16,.any),(26,.d .bool)],[]⟩),(1,16,20,⟨[(20,.any),(25,.d .bool)],[]⟩),(1,23,30,⟨[(27,.any),(35,.d .bool)],[]⟩)],[]⟩else if Nat.beq a 104 then V4 else if Nat.beq a 105 then⟨[],[],[(1,4,9,⟨[(7,.any),(13,.d .bool)],[]⟩),(1,11,14,⟨[(14,.any),(18,.d .bool)],[]⟩),(1,16,21,⟨[(19,.any),(25,.d .bool)],[]⟩),(1,23,28,⟨[(26,.any),(32,.d .bool)],[]⟩)],[]⟩else if Nat.beq a 141 then⟨[],[(2,⟨[(8,.d (.int .i64))],[]⟩,[(.ret,⟨[(4,.d (.int .i64)),(8,.any)],[]⟩),(.ex 0,⟨[(8,.any)],[]⟩)])],[],[]⟩else V4,F,[]⟩
def O0M (F:Nat)(b:a0c)(c:Int)(d:Int):Option (V0 Int (Int⊕Unit)):=match d with
 | a=>let e:=decide (a<(((gt b.Stands c).Accept).length:Int));
 if e then if B0 ((gt b.Stands c).Accept) a then let f:=decide ((gt ((gt b.Stands c).Accept) a)<(-2));
   .bind (if f then some true else let g:=decide ((gt ((gt b.Stands c).Accept) a)>=b.Regs);
     some g) fun h=>if h then some (.done (.inl a))else some (.next (W (a+1)))else none else some (.done (.inr ()))
def P0R (F:Nat)(b:a0c)(c:Int)(d:Int):Option (V0 Int (Int⊕Unit)):=match d with
 | a=>let f:=decide (a<(((gt b.Stands c).j8).length:Int));
 if f then if B0 ((gt b.Stands c).j8) a then .bind (N0R F b (gt ((gt b.Stands c).j8) a)) fun e=>if !e then some (.done (.inl a))else some (.next (W (a+1)))else none else some (.done (.inr ()))
def P0Q (F:Nat)(a:a0c)(f:List Int)(e:Int):Option (V0 Int (Unit⊕Unit)):=match e with
 | b=>if decide (b<(a.Stands.length:Int))then if B0 a.Stands b then .bind (if(((gt a.Stands b).Accept).length:Int) != 0 then let l:=(((gt a.Stands b).Accept).length:Int) != a.Tags;
     some l else some false) fun g=>.bind (if g then some true else .bind (α:=Int⊕Unit) (iter (O0M F a b) F 0) fun d=>match d with
     | .inl c=>some (decide (c>=0))
     | .inr _=>some (decide ((-1)>=0))) fun h=>.bind (if h then some true else let i:=(((gt a.Stands b).j8).length:Int) != (f.length:Int);
     some i) fun j=>if j then some (.done (.inl ()))else .bind (.bind (α:=Int⊕Unit) (iter (P0R F a b) F 0) fun d=>match d with
     | .inl c=>some (decide (c>=0))
     | .inr _=>some (decide ((-1)>=0))) fun k=>if k then some (.done (.inl ()))else some (.next (W (b+1)))else none else some (.done (.inr ()))
def N0a (F:Nat)(a:a0c):Option Bool:=.bind (if decide (a.Tags<1)then some true else some (decide (a.Tags>19))) fun d=>.bind (if d then some true else some ((a.Tags.tmod 2)==0)) fun e=>.bind (if e then some true else some (decide (a.Regs<1))) fun f=>.bind (if f then some true else some (decide (a.Regs>1217))) fun g=>.bind (if g then some true else some ((a.Stands.length:Int)==0)) fun h=>.bind (if h then some true else some (decide ((a.Stands.length:Int)>400))) fun i=>.bind (if i then some true else .bind (M03 F a.Class) fun c=>some (!c)) fun j=>if j then some false else .bind (N07 F a.Class) fun b=>.bind (α:=Unit⊕Unit) (iter (P0Q F a b) F 0) fun k=>match k with
  | .inl _=>some false
  | .inr _=>some true
def N0h (F:Nat):Sm en.D:=⟨41,[.d (.st 4)],.d .bool,[],fun a=>N0a F a⟩
def Q0p (F:Nat):D4 en:=⟨[M0A F,M0U F,M0X F],fun a=>if Nat.beq a 41 then⟨[(11,[(.nrm,⟨[(89,.d .bool)],[]⟩)])],[(6,⟨[(57,.d (.int .i64))],[]⟩,[(.ret,⟨[(2,.kb false),(57,.any)],[]⟩),(.ex 0,⟨[(57,.any)],[]⟩)])],[(1,4,7,⟨[(10,.any),(14,.d .bool)],[]⟩),(1,9,13,⟨[(15,.any),(20,.d .bool)],[]⟩),(1,15,18,⟨[(21,.any),(25,.d .bool)],[]⟩),(1,20,23,⟨[(26,.any),(30,.d .bool)],[]⟩),(1,25,29,⟨[(31,.any),(36,.d .bool)],[]⟩),(1,31,35,⟨[(37,.any),(42,.d .bool)],[]⟩),(1,37,41,⟨[(43,.any),(48,.d .bool)],[]⟩),(8,5,11,⟨[(65,.any),(72,.d .bool)],[]⟩),(8,13,17,⟨[(73,.any),(78,.d .bool)],[]⟩),(8,19,24,⟨[(79,.any),(85,.d .bool)],[]⟩)],[]⟩else if Nat.beq a 73 then⟨[],[],[(1,3,7,⟨[(6,.any),(11,.d .bool)],[]⟩)],[]⟩else if Nat.beq a 74 then V4 else if Nat.beq a 75 then V4 else if Nat.beq a 76 then V4 else if Nat.beq a 102 then⟨[],[(2,⟨[(8,.d (.int .i64))],[]⟩,[(.ret,⟨[(4,.d (.int .i64)),(8,.any)],[]⟩),(.ex 0,⟨[(8,.any)],[]⟩)])],[],[]⟩else if Nat.beq a 103 then⟨[],[(2,⟨[(8,.d (.int .i64))],[]⟩,[(.ret,⟨[(4,.d (.int .i64)),(8,.any)],[]⟩),(.ex 0,⟨[(8,.any)],[]⟩)])],[],[]⟩else V4,F,[]⟩
def K9 (F:Nat)(a:List Int)(b:List Int):Option (List Int):=if I0 8 ([]:List Int) a then if I0 8 ([]++a) b then some (([]++a)++b)else none else none
def Y5 (F:Nat):Nat->(List C0)->(List Bool)->Int->Option (List Int)
 | 0,_,_,_=>none
 | d+1,b,c,a=>.bind (α:=List Int) (if B0 b a then if((gt b a).Kind)==3 then if B0 b a then .bind (Y5 F d b c ((gt b a).A)) fun e=>if I0 8 [W (2*a)] e then if B0 b a then .bind (Y5 F d b c ((gt b a).B)) fun f=>if I0 8 ([W (2*a)]++e) f then some (([W (2*a)]++e)++f)else none else none else none else none else if((gt b a).Kind)==4 then if B0 b a then if B0 c ((gt b a).A)then if gt c ((gt b a).A)then if B0 b a then .bind (Y5 F d b c ((gt b a).A)) fun g=>if I0 8 [W (2*a)] g then some ([W (2*a)]++g)else none else none else if B0 b a then .bind (Y5 F d b c ((gt b a).B)) fun h=>if I0 8 [W (2*a)] h then some ([W (2*a)]++h)else none else none else none else none else .bind (if((gt b a).Kind)==7 then some (((gt b a).Kind)==7)else some (((gt b a).Kind)==8)) fun k=>if k then if B0 b a then .bind (Y5 F d b c ((gt b a).A)) fun i=>if I0 8 [W (2*a)] i then some ([W (2*a)]++i)else none else none else some [W (2*a)]else none) fun j=>if I0 8 j [W ((W (2*a))+1)]then some (j++[W ((W (2*a))+1)])else none
def O6 (F:Nat):Nat->(List C0)->(List Int)->(List Bool)->Int->(List Int)->Option (List y0)
 | 0,_,_,_,_,_=>none
 | f+1,a,d,c,b,k=>if B0 a b then .bind (K9 F k [W (2*b)]) fun e=>if((gt a b).Kind)==2 then if B0 d b then some [(⟨gt d b,0,e⟩:y0)]else none else if((gt a b).Kind)==3 then .bind (O6 F f a d c ((gt a b).A) e) fun g=>.bind (α:=List y0) (if B0 c ((gt a b).A)then if gt c ((gt a b).A)then .bind (Y5 F F a c ((gt a b).A)) fun m=>.bind (K9 F e m) fun o=>.bind (O6 F f a d c ((gt a b).B) o) fun h=>if I0 40 g h then some (g++h)else none else some g else none) fun n=>some n else if((gt a b).Kind)==4 then .bind (O6 F f a d c ((gt a b).A) e) fun i=>.bind (O6 F f a d c ((gt a b).B) e) fun j=>if I0 40 i j then some (i++j)else none else .bind (if((gt a b).Kind)==5 then some (((gt a b).Kind)==5)else if((gt a b).Kind)==6 then some (((gt a b).Kind)==6)else if((gt a b).Kind)==7 then some (((gt a b).Kind)==7)else some (((gt a b).Kind)==8)) fun p=>if p then .bind (O6 F f a d c ((gt a b).A) e) fun l=>some l else some []else none
def l0F (F:Nat)(c:List C0)(e:Int×Int×(List Int)):Option (V0 (Int×Int×(List Int)) (List Int)):=match e with
 | (d,a,b)=>if decide (a<(c.length:Int))then .bind (α:=Int×(List Int)) (if B0 b a then if B0 c a then if((gt c a).Kind)==2 then if B0 (b.set a.toNat (-1)) a then some (W (d+1),(b.set a.toNat (-1)).set a.toNat d)else none else some (d,b.set a.toNat (-1))else none else none) fun(f,g)=>some (.next (f,W (a+1),g))else some (.done b)
def b0p (F:Nat)(a:List C0):Option (List Int):=.bind (B6 F a) fun b=>if !b then some []else if V2 8 (a.length:Int)then .bind (α:=List Int) (iter (l0F F a) F (0,0,(List.replicate (a.length:Int).toNat 0:List Int))) fun c=>some c else none
def m0Y (F:Nat)(b:List C0)(d:Int×(List Bool)):Option (V0 (Int×(List Bool)) (List Bool)):=match d with
 | (a,c)=>if decide (a<(b.length:Int))then .bind (α:=List Bool) (if B0 b a then .bind (if((gt b a).Kind)==1 then some (((gt b a).Kind)==1)else if((gt b a).Kind)==5 then some (((gt b a).Kind)==5)else some (((gt b a).Kind)==6)) fun e=>if e then if B0 c a then some (c.set a.toNat true)else none else if((gt b a).Kind)==3 then if B0 b a then if B0 c ((gt b a).A)then .bind (if gt c ((gt b a).A)then if B0 b a then if B0 c ((gt b a).B)then some (gt c ((gt b a).B))else none else none else some false) fun f=>if B0 c a then some (c.set a.toNat f)else none else none else none else if((gt b a).Kind)==4 then if B0 b a then if B0 c ((gt b a).A)then .bind (if gt c ((gt b a).A)then some true else if B0 b a then if B0 c ((gt b a).B)then some (gt c ((gt b a).B))else none else none) fun g=>if B0 c a then some (c.set a.toNat g)else none else none else none else .bind (if((gt b a).Kind)==7 then some (((gt b a).Kind)==7)else some (((gt b a).Kind)==8)) fun h=>if h then if B0 b a then if B0 c ((gt b a).A)then if B0 c a then some (c.set a.toNat (gt c ((gt b a).A)))else none else none else none else some c else none) fun i=>some (.next (W (a+1),i))else some (.done c)
def a0j (F:Nat)(a:List C0):Option (List Bool):=.bind (B6 F a) fun b=>if !b then some []else if V2 1 (a.length:Int)then .bind (α:=List Bool) (iter (m0Y F a) F (0,(List.replicate (a.length:Int).toNat false:List Bool))) fun c=>some c else none
def m0N (F:Nat)(a:List C0)(b:Int):Option (List y0):=.bind (B6 F a) fun f=>.bind (if !f then some true else some (decide (b<0))) fun g=>.bind (if g then some true else some (decide (b>=(a.length:Int)))) fun h=>if h then some []else .bind (b0p F a) fun e=>.bind (a0j F a) fun d=>.bind (O6 F F a e d b []) fun c=>some c
def l0y (F:Nat)(d:List C0)(c:Int×(List Int)):Option (V0 (Int×(List Int)) (List Int)):=match c with
 | (a,b)=>if decide (a<(d.length:Int))then if B0 b a then some (.next (W (a+1),b.set a.toNat (-1)))else none else some (.done b)
def k0P (F:Nat)(b:List C0)(e:Int×(List Int)):Option (V0 (Int×(List Int)) (List Int)):=match e with
 | (a,c)=>if decide (a<(b.length:Int))then .bind (α:=List Int) (.bind (α:=List Int) (if B0 b a then if decide (((gt b a).A)>=0)then if B0 b a then if B0 c ((gt b a).A)then some (c.set ((gt b a).A).toNat a)else none else none else some c else none) fun d=>if B0 b a then if decide (((gt b a).B)>=0)then if B0 b a then if B0 d ((gt b a).B)then some (d.set ((gt b a).B).toNat a)else none else none else some d else none) fun f=>some (.next (W (a+1),f))else some (.done c)
def c0n (F:Nat)(a:List C0):Option (List Int):=.bind (B6 F a) fun b=>if !b then some []else if V2 8 (a.length:Int)then .bind (α:=List Int) (iter (l0y F a) F (0,(List.replicate (a.length:Int).toNat 0:List Int))) fun c=>.bind (α:=List Int) (iter (k0P F a) F (0,c)) fun d=>some d else none
def l0G (F:Nat)(c:List Int)(d:Int×(List Int)):Option (V0 (Int×(List Int)) (List Int)):=match d with
 | (a,b)=>if decide (a>=0)then .bind (α:=List Int) (if B0 b a then if B0 c a then if decide ((gt c a)>=0)then if B0 c a then if B0 (b.set a.toNat 1) (gt c a)then if B0 (b.set a.toNat 1) a then let e:=(b.set a.toNat 1).set a.toNat (W ((gt (b.set a.toNat 1) (gt c a))+1));
         some e else none else none else none else some (b.set a.toNat 1)else none else none) fun f=>some (.next (W (a-1),f))else some (.done b)
def e0N (F:Nat)(b:List C0):Option (List Int):=.bind (c0n F b) fun a=>if V2 8 (a.length:Int)then .bind (α:=List Int) (iter (l0G F a) F (W ((a.length:Int)-1),(List.replicate (a.length:Int).toNat 0:List Int))) fun c=>some c else none
def o0q (F:Nat)(b:List y0)(d:Int)(c:Int):Option (V0 Int (Unit⊕Unit)):=match c with
 | a=>if decide (a<(b.length:Int))then if B0 b a then if((gt b a).To)==d then some (.done (.inl ()))else some (.next (W (a+1)))else none else some (.done (.inr ()))
def e0b (F:Nat)(a:List y0)(b:Int):Option Bool:=.bind (α:=Unit⊕Unit) (iter (o0q F a b) F 0) fun c=>match c with
 | .inl _=>some true
 | .inr _=>some false
def m0C (F:Nat)(h:List Int)(e:List Int)(f:Int)(i:(List Int)×(List y0)×Int×(List y0)):Option (V0 ((List Int)×(List y0)×Int×(List y0)) ((List Int)×(List y0))):=match i with
 | (g,c,a,b)=>if decide (a<(b.length:Int))then .bind (α:=(List y0)×(List y0)) (if B0 b a then .bind (e0b F c ((gt b a).To)) fun known=>if !known then if B0 e (gt h f)then if B0 b a then let d:=b.set a.toNat ({ gt b a with Turn:=gt e (gt h f) });
       if B0 d a then if I0 40 c [gt d a]then some (c++[gt d a],d)else none else none else none else none else some (c,b)else none) fun(j,k)=>some (.next (g,j,W (a+1),k))else some (.done (g,c))
def l0f (F:Nat)(c:List C0)(b:List Int)(m:List Int)(l:(List Int)×(List Bool)×Int×(List Int)×(List y0)):Option (V0 ((List Int)×(List Bool)×Int×(List Int)×(List y0)) (((List y0)×y0)⊕((List Int)×(List y0)))):=match l with
 | (h,d,a,f,g)=>if B0 b a then if decide ((gt b a)>=0)then if B0 b a then .bind (α:=Int) (if B0 c (gt b a)then .bind (if((gt c (gt b a)).Kind)==3 then if B0 c (gt b a)then some (((gt c (gt b a)).A)==a)else none else some false) fun u=>if u then if B0 c (gt b a)then some ((gt c (gt b a)).B)else none else some (-1)else none) fun n=>.bind (α:=Int) (if B0 c (gt b a)then if((gt c (gt b a)).Kind)==5 then if B0 c (gt b a)then some ((gt c (gt b a)).A)else none else some n else none) fun e=>.bind (α:=(List Int)×(List y0)) (if decide (e>=0)then .bind (O6 F F c h d e f) fun k=>.bind (α:=(List Int)×(List y0)) (iter (m0C F b m a) F (f,g,0,k)) fun(s,p)=>some (s,p)else some (f,g)) fun(j,i)=>.bind (α:=((List y0)×y0)⊕(List Int)) (if B0 c (gt b a)then .bind (if((gt c (gt b a)).Kind)==3 then if B0 c (gt b a)then some (((gt c (gt b a)).A)==a)else none else some false) fun v=>if v then if B0 d e then if !(gt d e)then some (.inl (i,(⟨0,0,[]⟩:y0)))else .bind (Y5 F F c d e) fun o=>.bind (K9 F j o) fun q=>some (.inr q)else none else some (.inr j)else none) fun y=>match y with
    | .inl (w,x)=>some (.done (.inl (w,x)))
    | .inr t=>.bind (K9 F t [W ((W (2*(gt b a)))+1)]) fun r=>some (.next (h,d,gt b a,r,i))else none else some (.done (.inr (f,g)))else none
def e0d (F:Nat)(a:List C0)(c:Int):Option ((List y0)×y0×Bool):=.bind (c0n F a) fun i=>.bind (e0N F a) fun e=>.bind (b0p F a) fun f=>.bind (a0j F a) fun d=>.bind (b0t F a) fun b=>if B0 b c then .bind (α:=((List y0)×y0)⊕((List Int)×(List y0))) (iter (l0f F a i e) F (f,d,gt b c,[W ((W (2*(gt b c)))+1)],[])) fun l=>match l with
  | .inl (j,k)=>some (j,k,false)
  | .inr (h,g)=>some (g,(⟨(-1),0,h⟩:y0),true)else none
def c0i (F:Nat)(c:List C0)(a:Int):Option (List Int):=.bind (a0j F c) fun b=>.bind (if decide (a<0)then some true else some (decide (a>=(b.length:Int)))) fun e=>.bind (if e then some true else if B0 b a then some (!(gt b a))else none) fun f=>if f then some []else .bind (Y5 F F c b a) fun d=>some d
def m0j (F:Nat)(a:List C0)(b:Int):Option (y0×Bool):=.bind (if decide (b<(-1))then some true else .bind (B6 F a) fun g=>some (!g)) fun h=>.bind (if h then some true else .bind (b0t F a) fun f=>some (decide (b>=(f.length:Int)))) fun i=>if i then some ((⟨0,0,[]⟩:y0),false)else if b==(-1)then .bind (c0i F a (W ((a.length:Int)-1))) fun c=>if(c.length:Int)==0 then some ((⟨0,0,[]⟩:y0),false)else some ((⟨(-1),0,c⟩:y0),true)else .bind (e0d F a b) fun(j,d,e)=>some (d,e)
def p09 (F:Nat)(b:List Int)(d:(List G2)×Int):Option (V0 ((List G2)×Int) (List G2)):=match d with
 | (c,a)=>if decide (a<(b.length:Int))then if B0 b a then if I0 16 c [(⟨3,gt b a⟩:G2)]then some (.next (c++[(⟨3,gt b a⟩:G2)],W (a+1)))else none else none else some (.done c)
def u0Z (F:Nat)(c:List C0)(b:List Int)(f:(List G2)×Int):Option (V0 ((List G2)×Int) (List G2)):=match f with
 | (d,a)=>if decide (a<(b.length:Int))then .bind (α:=List G2) (if B0 b a then .bind (if decide ((gt b a)<0)then some true else let k:=decide ((W ((gt b a).tdiv 2))>=(c.length:Int));
      some k) fun l=>if l then some d else if B0 c (W ((gt b a).tdiv 2))then .bind (α:=List G2) (if((gt c (W ((gt b a).tdiv 2))).Kind)==7 then if I0 16 d [(⟨W (1+((gt b a).tmod 2)),(gt c (W ((gt b a).tdiv 2))).N⟩:G2)]then let h:=d++[(⟨W (1+((gt b a).tmod 2)),(gt c (W ((gt b a).tdiv 2))).N⟩:G2)];
         some h else none else some d) fun e=>.bind (if((gt c (W ((gt b a).tdiv 2))).Kind)==8 then some (((gt b a).tmod 2)==0)else some false) fun m=>if m then .bind (f0M F c (W ((gt b a).tdiv 2))) fun g=>.bind (α:=List G2) (iter (p09 F g) F (e,0)) fun i=>some i else some e else none else none) fun j=>some (.next (j,W (a+1)))else some (.done d)
def j07 (F:Nat)(b:List Int)(a:Int):Option Bool:=.bind (if decide (a>=0)then some (decide (a<256))else some false) fun c=>.bind (if c then if decide (0<=W (a.tdiv 64))&&decide (W (a.tdiv 64)<4)then if !decide (a.tmod 64<0)then let d:=C3 .u64 (shr .u64 (gt b (W (a.tdiv 64))) (a.tmod 64)) 1;
     some (d==1)else none else none else some false) fun e=>some e
def k0N (F:Nat):Sm en.D:=⟨125,[.d (.arr 4 (.int .u64)),.d (.int .i64)],.d .bool,[],fun a=>j07 F a.1 a.2⟩
def v0d (F:Nat):=B2 [] 125 ⟨[],[],[(1,3,5,⟨[(7,.any),(10,.d .bool)],[]⟩),(1,7,16,⟨[(11,.any),(21,.d .bool)],[]⟩)],[]⟩ F
def N0K (F:Nat)(a:List b0k):Option (List b0k):=if I0 16 ([]:List b0k) a then some a else none
def N0L (F:Nat):Sm en.D:=⟨131,[.d (.list (.st 1))],.own 169 (.st 1),[],fun a=>N0K F a⟩
def N03 (F:Nat):D4 en:=⟨[],fun _=>⟨[],[],[],[4]⟩,F,[]⟩
def P0v (F:Nat)(b:a0c)(c:Int)(f:Int×((List Int)×(List a08))):Option (V0 (Int×((List Int)×(List a08))) ((List Int)×(List a08))):=match f with
 | (a,(d,j8))=>let h:=decide (a<(((gt b.Stands c).j8).length:Int));
 if h then if B0 ((gt b.Stands c).j8) a then .bind (N0K F ((gt ((gt b.Stands c).j8) a).Moves)) fun e=>if I0 32 j8 [(⟨(gt ((gt b.Stands c).j8) a).To,e⟩:a08)]then let g:=j8++[(⟨(gt ((gt b.Stands c).j8) a).To,e⟩:a08)];
    some (.next (W (a+1),(d,g)))else none else none else some (.done (d,j8))
def N0I (F:Nat)(b:a0c)(j:Int×(Int×Int×(List Int)×(List b0B))):Option (V0 (Int×(Int×Int×(List Int)×(List b0B))) (Int×Int×(List Int)×(List b0B))):=match j with
 | (a,(g,f,e,c))=>if decide (a<(b.Stands.length:Int))then if B0 b.Stands a then .bind (h0D F ((gt b.Stands a).Accept)) fun i=>.bind (α:=(List Int)×(List a08)) (iter (P0v F b a) F (0,(i,[]))) fun(d,h)=>if I0 48 c [(⟨d,h⟩:b0B)]then some (.next (W (a+1),(g,f,e,c++[(⟨d,h⟩:b0B)])))else none else none else some (.done (g,f,e,c))
def M0k (F:Nat)(a:a0c):Option a0c:=.bind (α:=Int×Int×(List Int)) (same (.bind (h0D F a.Class) fun i=>some (a.Tags,a.Regs,i)) (.bind (h0D F a.Class) fun j=>some (a.Tags,a.Regs,j))) fun(g,d,b)=>.bind (α:=Int×Int×(List Int)×(List b0B)) (iter (N0I F a) F (0,(g,d,b,[]))) fun(h,e,c,f)=>some (⟨h,e,c,f⟩:a0c)
def N0i (F:Nat):Sm en.D:=⟨90,[.d (.st 4)],.d (.st 4),[],fun a=>M0k F a⟩
def Q0m (F:Nat):=B2 [r0U F,N0L F] 90 ⟨[],[(3,⟨[(20,.d (.int .i64))],[(2,.any),(3,.box 26 [.d (.int .i64),.d (.int .i64),.own 3 (.int .i64),.own 92 (.st 3)])]⟩,[(.ex 0,⟨[(20,.any)],[(2,.any),(3,.box 26 [.d (.int .i64),.d (.int .i64),.own 3 (.int .i64),.own 92 (.st 3)])]⟩)]),(7,⟨[(31,.d (.int .i64))],[(8,.any),(9,.box 92 [.own 3 (.int .i64),.own 95 (.st 2)])]⟩,[(.ex 2,⟨[(31,.any)],[(8,.any),(9,.box 92 [.own 3 (.int .i64),.own 95 (.st 2)])]⟩)])],[(1,1000006,9,⟨[(3,.box 26 [.d (.int .i64),.d (.int .i64),.own 3 (.int .i64),.nil])],[]⟩)],[]⟩ F
def N0w (F:Nat)(b:d0c)(a:Int):Option Int:=if a==(-1)then some b.at_ else if a==(-2)then some (-1)else if B0 b.regs a then some (gt b.regs a)else none
def M0M (F:Nat):Sm en.D:=⟨92,[.d (.ptr (.st 23)),.d (.int .i64)],.d (.int .i64),[],fun a=>N0w F a.1 a.2⟩
def Q0x (F:Nat):=B2 [] 92 V4 F
def N08 (F:Nat)(a:d0c):Option Bool:=.bind (if decide (a.stand>=0)then if B0 a.p.Stands a.stand then let b:=(((gt a.p.Stands a.stand).Accept).length:Int);
    some (decide (b>0))else none else some false) fun c=>some c
def M0W (F:Nat):Sm en.D:=⟨132,[.d (.ptr (.st 23))],.d .bool,[],fun a=>N08 F a⟩
def O0G (F:Nat):=B2 [] 132 ⟨[],[],[(1,6,20,⟨[(8,.any),(23,.d .bool)],[]⟩)],[]⟩ F
def O06 (F:Nat)(h:a0C)(a:a0c)(f:Int)(b:Int)(j:Int)(i:List Int)(g:(List Int)×Int):Option (V0 ((List Int)×Int) (List Int)):=match g with
 | (d,c)=>let k:=decide (c<(((gt a.Stands b).Accept).length:Int));
 if k then if B0 ((gt a.Stands b).Accept) c then .bind (N0w F (⟨h,a,f,b,j,i⟩:d0c) (gt ((gt a.Stands b).Accept) c)) fun e=>if I0 8 d [e]then some (.next (d++[e],W (c+1)))else none else none else some (.done d)
def N0p (F:Nat):(a0C×a0c×Int×Int×Int×(List Int))->Option (a0C×a0c×Int×Int×Int×(List Int))
 | (f,b,a,c,e,d)=>.bind (N08 F (⟨f,b,a,c,e,d⟩:d0c)) fun g=>if !g then some (f,b,a,c,e,d)else if B0 b.Stands c then .bind (α:=List Int) (iter (O06 F f b a c e d) F ([],0)) fun h=>some ((⟨h,a⟩:a0C),b,a,c,e,d)else none
def M0G (F:Nat):Sm en.D:=⟨91,[.box 167 [.d (.st 22),.d (.st 4),.d (.int .i64),.d (.int .i64),.d (.int .i64),.own 3 (.int .i64)]],.tup [],[(0,.box 167 [.d (.st 22),.d (.st 4),.d (.int .i64),.d (.int .i64),.d (.int .i64),.own 3 (.int .i64)])],fun a=>N0p F a⟩
def O0I (F:Nat):=B2 [M0M F,M0W F] 91 ⟨[],[(3,⟨[(2,.own 3 (.int .i64)),(21,.d (.int .i64))],[]⟩,[(.ex 0,⟨[(2,.own 3 (.int .i64)),(21,.any)],[]⟩)])],[],[]⟩ F
def M0t (F:Nat)(a:a0c):Option ((Unit⊕(a0C×a0c×Int×Int×Int×(List Int)))×Int):=.bind (N0a F a) fun l=>if !l then some ((.inl ()),11)else .bind (α:=a0C×a0c×Int×Int×Int×(List Int)) (same (.bind (M0k F a) fun d=>if V2 8 a.Regs then some ((⟨[],0⟩:a0C),d,0,0,0,(List.replicate a.Regs.toNat 0:List Int))else none) (if V2 8 a.Regs then .bind (M0k F a) fun e=>some ((⟨[],0⟩:a0C),e,0,0,0,(List.replicate a.Regs.toNat 0:List Int))else none)) fun(f,h,b,m,o,j)=>.bind (N0p F (f,h,b,m,o,j)) fun(g,i,c,n,p,k)=>some ((.inr (g,i,c,n,p,k)),0)
def M0S (F:Nat):Sm en.D:=⟨48,[.d (.st 4)],.tup [.alt .nilp (.box 167 [.d (.st 22),.d (.st 4),.d (.int .i64),.d (.int .i64),.d (.int .i64),.own 3 (.int .i64)]),.d (.int .i64)],[],fun a=>M0t F a⟩
def P0s (F:Nat):=B2 [N0h F,N0i F,M0G F] 48 ⟨[],[],[(3,1000001,7,⟨[(4,.box 167 [.d (.st 22),.d (.st 4),.d (.int .i64),.d (.int .i64),.d (.int .i64),.own 3 (.int .i64)])],[]⟩)],[]⟩ F
def G0n (F:Nat)(b:List a07)(d:Int×Int):Option (V0 (Int×Int) (Unit⊕Int)):=match d with
 | (c,a)=>if decide (a<(b.length:Int))then if B0 b a then if decide ((((gt b a).B).length:Int)>24)then some (.done (.inl ()))else if B0 b a then some (.next (W (c+(((gt b a).B).length:Int)),W (a+1)))else none else none else some (.done (.inr c))
def M0l (F:Nat)(a:List a07):Option Bool:=if decide ((a.length:Int)>20)then some false else .bind (α:=Unit⊕Int) (iter (G0n F a) F (0,0)) fun c=>match c with
  | .inl _=>some false
  | .inr b=>some (decide (b<=24))
def N0f (F:Nat):Sm en.D:=⟨19,[.d (.list (.st 6))],.d .bool,[],fun a=>M0l F a⟩
def P02 (F:Nat):=B2 [] 19 ⟨[],[(5,⟨[(3,.d (.int .i64)),(4,.d (.int .i64))],[]⟩,[(.ret,⟨[(2,.kb false),(3,.any),(4,.any)],[]⟩),(.ex 0,⟨[(3,.d (.int .i64)),(4,.any)],[]⟩)])],[],[]⟩ F
def I0a (F:Nat)(g:List C0):Option ((Unit⊕(a0u×(N3×(List Int)×Int×Bool)))×Int):=.bind (α:=((Unit⊕(N3×(List Int)×Int×Bool))×Int)) (.bind (e0B F g) fun(h,b)=>match h with
  | .inl _=>some ((.inl ()),b)
  | .inr (c,i,k,is)=>some ((.inr (c,i,k,is)),b)) fun(e,a)=>match e with
 | .inl _=>if a != 0 then some ((.inl ()),a)else none
 | .inr (d,j,l,f)=>if a != 0 then some ((.inl ()),a)else some ((.inr ((⟨false,0⟩:a0u),(d,j,l,f))),0)
def M0p (F:Nat):Sm en.D:=⟨22,[.d (.list (.st 0))],.tup [.alt .nilp (.box 88 [.d (.st 7),.ifc 120 (.agg [.box 109 [.box 158 [.d (.st 19)],.d (.list (.int .i64)),.d (.int .i64),.d .bool]])]),.d (.int .i64)],[],fun a=>I0a F a⟩
def P05 (F:Nat):=B2 [G0P F] 22 ⟨[(2,[(.nrm,⟨[(4,.alt .nilp (.box 109 [.box 158 [.d (.st 19)],.d (.list (.int .i64)),.d (.int .i64),.d .bool])),(5,.d (.int .i64))],[]⟩)])],[],[],[]⟩ F
def g0v (F:Nat)(b:List Int)(i:Int)(g:(List G1)×Int):Option (V0 ((List G1)×Int) (List G1)):=match g with
 | (c,a)=>if decide (a<(b.length:Int))then .bind (α:=List G1) (if B0 b a then .bind (α:=Unit⊕Int) (.bind (if decide (a>0)then some ((a.tmod 2)==0)else some false) fun j=>if j then some (.inl ())else if decide (a>0)then if B0 b (W (a+1))then some (.inr (gt b (W (a+1))))else none else some (.inr i)) fun l=>match l with
    | .inl _=>some c
    | .inr d=>.bind (α:=Int×Int) (.bind (if decide ((gt b a)<0)then some true else some (decide (d<0))) fun k=>if k then some ((-1),(-1))else some (gt b a,d)) fun(f,e)=>if I0 16 c [(⟨f,e⟩:G1)]then some (c++[(⟨f,e⟩:G1)])else none else none) fun h=>some (.next (h,W (a+1)))else some (.done c)
def h0P (F:Nat)(a:List Int)(c:Int):Option (List G1):=if((a.length:Int).tmod 2)==0 then some []else .bind (α:=List G1) (iter (g0v F a c) F ([],0)) fun b=>some b
def o0R (F:Nat):Sm en.D:=⟨243,[.d (.list (.int .i64)),.d (.int .i64)],.own 118 (.st 8),[],fun a=>h0P F a.1 a.2⟩
def w05 (F:Nat):=B2 [] 243 ⟨[(11,[(.ex 1,⟨[],[]⟩),(.nrm,⟨[(8,.d (.int .i64))],[]⟩)]),(13,[(.nrm,⟨[(7,.d (.int .i64)),(8,.d (.int .i64))],[]⟩)]),(14,[(.nrm,⟨[(5,.own 118 (.st 8))],[(0,.any)]⟩)])],[(5,⟨[(5,.own 118 (.st 8)),(15,.d (.int .i64))],[]⟩,[(.ex 0,⟨[(5,.own 118 (.st 8)),(15,.any)],[]⟩)])],[(8,3,6,⟨[(24,.any),(28,.d .bool)],[]⟩),(11,3,5,⟨[(39,.any),(42,.d .bool)],[]⟩)],[]⟩ F
def F0V (F:Nat):(N3×(List Int)×Int×Bool)->Option (((List G1)×Bool)×(N3×(List Int)×Int×Bool))
 | (c,a,b,is)=>if !is then some (([],false),(c,a,b,is))else .bind (h0P F a b) fun d=>some ((d,true),(c,a,b,is))
def H0j (F:Nat):Sm en.D:=⟨242,[.box 109 [.box 158 [.d (.st 19)],.d (.list (.int .i64)),.d (.int .i64),.d .bool]],.tup [.own 118 (.st 8),.d .bool],[(0,.box 109 [.box 158 [.d (.st 19)],.d (.list (.int .i64)),.d (.int .i64),.d .bool])],fun a=>F0V F a⟩
def I0H (F:Nat):=B2 [o0R F] 242 V4 F
def M0s (F:Nat)(a:e0w):Option Bool:=.bind (if a.is then .bind (M0m F a) fun c=>some (c==0)else some false) fun d=>.bind (if d then .bind (g0u F a.Crowd) fun b=>some (decide (b>0))else some false) fun e=>some e
def M02 (F:Nat):Sm en.D:=⟨246,[.d (.ptr (.st 20))],.d .bool,[],fun a=>M0s F a⟩
def Q0k (F:Nat):=B2 [H0i F,N0e F] 246 ⟨[],[],[(1,5,8,⟨[(7,.any),(11,.d .bool)],[]⟩),(1,10,16,⟨[(12,.any),(19,.d .bool)],[]⟩)],[]⟩ F
def G0c (F:Nat)(a:d0B):Option Bool:=.bind (M0s F a.Hunt) fun b=>some b
def M0h (F:Nat):Sm en.D:=⟨245,[.d (.st 24)],.d .bool,[],fun a=>G0c F a⟩
def P0P (F:Nat):=B2 [M02 F] 245 V4 F
def m0D (F:Nat):(a0u×(N3×(List Int)×Int×Bool))->Option ((Bool×Bool×(List G1))×(a0u×(N3×(List Int)×Int×Bool)))
 | (b,(f,j,k,is))=>.bind (F0V F (f,j,k,is)) fun((g,h),(a,d,e,c))=>.bind (if b.closed then some true else .bind (G0c F (⟨(⟨a,d,e,c⟩:e0w)⟩:d0B)) fun i=>some i) fun l=>some ((h,l,g),(b,(a,d,e,c)))
def L0D (F:Nat):Sm en.D:=⟨56,[.box 88 [.d (.st 7),.ifc 120 (.agg [.box 109 [.box 158 [.d (.st 19)],.d (.list (.int .i64)),.d (.int .i64),.d .bool]])]],.agg [.d .bool,.d .bool,.own 118 (.st 8)],[(0,.box 88 [.d (.st 7),.ifc 120 (.agg [.box 109 [.box 158 [.d (.st 19)],.d (.list (.int .i64)),.d (.int .i64),.d .bool]])])],fun a=>m0D F a⟩
def O0D (F:Nat):=B2 [H0j F,M0h F] 56 ⟨[],[],[(2,7,12,⟨[(19,.any),(25,.d .bool)],[]⟩)],[]⟩ F
def d0o (F:Nat)(f:List Int)(h:Int×(N3×(List Int)×Int×Bool)):Option (V0 (Int×(N3×(List Int)×Int×Bool)) (N3×(List Int)×Int×Bool)):=match h with
 | (e,(a,c,d,b))=>if decide (e<(f.length:Int))then if B0 f e then .bind (G0c F (⟨(⟨a,c,d,b⟩:e0w)⟩:d0B)) fun j=>if j then some (.done (a,c,d,b))else .bind (f0U F (a,c,d,b) (gt f e)) fun(g,k,l,i)=>some (.next (W (e+1),(g,k,l,i)))else none else some (.done (a,c,d,b))
def H0m (F:Nat):(a0u×(N3×(List Int)×Int×Bool))->(List Int)->Option (((Bool×Bool×(List G1))×Int)×(a0u×(N3×(List Int)×Int×Bool)))
 | (a,(b,d,e,is)),c=>if a.closed then some (((false,false,[]),13),(a,(b,d,e,is)))else .bind (α:=N3×(List Int)×Int×Bool) (iter (d0o F c) F (0,(b,d,e,is))) fun(f,k,p,i)=>.bind (m0D F ((⟨a.closed,W (a.count+(c.length:Int))⟩:a0u),(f,k,p,i))) fun((m,n,o),(h,(g,l,q,j)))=>some (((m,n,o),0),(h,(g,l,q,j)))
def M0J (F:Nat):Sm en.D:=⟨23,[.box 88 [.d (.st 7),.ifc 120 (.agg [.box 109 [.box 158 [.d (.st 19)],.d (.list (.int .i64)),.d (.int .i64),.d .bool]])],.d (.list (.int .u8))],.tup [.agg [.d .bool,.d .bool,.d (.list (.st 8))],.d (.int .i64)],[(0,.box 88 [.d (.st 7),.ifc 120 (.agg [.box 109 [.box 158 [.d (.st 19)],.d (.list (.int .i64)),.d (.int .i64),.d .bool]])])],fun a=>H0m F a.1 a.2⟩
def P0d (F:Nat):=B2 [G04 F,L0D F,M0h F] 23 ⟨[],[(4,⟨[(16,.d (.int .i64))],[(0,.any),(1,.box 109 [.box 158 [.d (.st 19)],.d (.list (.int .i64)),.d (.int .i64),.d .bool])]⟩,[(.ex 0,⟨[(16,.any)],[(0,.any),(1,.box 109 [.box 158 [.d (.st 19)],.d (.list (.int .i64)),.d (.int .i64),.d .bool])]⟩)])],[],[]⟩ F
def G0j (F:Nat):(a0u×(N3×(List Int)×Int×Bool))->Option (((Bool×Bool×(List G1))×Int)×(a0u×(N3×(List Int)×Int×Bool)))
 | (a,(b,c,d,is))=>if a.closed then some (((false,false,[]),13),(a,(b,c,d,is)))else .bind (m0D F ((⟨true,a.count⟩:a0u),(b,c,d,is))) fun((i,j,k),(f,(e,h,l,g)))=>some (((i,j,k),0),(f,(e,h,l,g)))
def M0C (F:Nat):Sm en.D:=⟨25,[.box 88 [.d (.st 7),.ifc 120 (.agg [.box 109 [.box 158 [.d (.st 19)],.d (.list (.int .i64)),.d (.int .i64),.d .bool]])]],.tup [.agg [.d .bool,.d .bool,.d (.list (.st 8))],.d (.int .i64)],[(0,.box 88 [.d (.st 7),.ifc 120 (.agg [.box 109 [.box 158 [.d (.st 19)],.d (.list (.int .i64)),.d (.int .i64),.d .bool]])])],fun a=>G0j F a⟩
def O0w (F:Nat):=B2 [L0D F] 25 V4 F
def i0s (F:Nat)(b:List G1)(c:List G1)(d:Int):Option (V0 Int (Unit⊕Unit)):=match d with
 | a=>if decide (a<(b.length:Int))then if B0 b a then if B0 c a then let e:=!((((gt b a).From)==((gt c a).From))&&(((gt b a).To)==((gt c a).To)));
    if e then some (.done (.inl ()))else some (.next (W (a+1)))else none else none else some (.done (.inr ()))
def b08 (F:Nat)(a:List G1)(b:List G1):Option Bool:=if(a.length:Int) != (b.length:Int)then some false else .bind (α:=Unit⊕Unit) (iter (i0s F a b) F 0) fun c=>match c with
  | .inl _=>some false
  | .inr _=>some true
def k0z (F:Nat):Sm en.D:=⟨27,[.d (.list (.st 8)),.d (.list (.st 8))],.d .bool,[],fun a=>b08 F a.1 a.2⟩
def z03 (F:Nat):=B2 [] 27 ⟨[],[(4,⟨[(5,.d (.int .i64))],[]⟩,[(.ret,⟨[(4,.kb false),(5,.any)],[]⟩),(.ex 0,⟨[(5,.any)],[]⟩)])],[],[]⟩ F
def K0x (F:Nat)(g:a0c):Option ((Unit⊕(a0u×(a0C×a0c×Int×Int×Int×(List Int))))×Int):=.bind (α:=((Unit⊕(a0C×a0c×Int×Int×Int×(List Int)))×Int)) (.bind (M0t F g) fun(o,b)=>match o with
  | .inl _=>some ((.inl ()),b)
  | .inr (e,h,c,m,p,k)=>some ((.inr (e,h,c,m,p,k)),b)) fun(j,a)=>match j with
 | .inl _=>if a != 0 then some ((.inl ()),a)else none
 | .inr (f,i,d,n,q,l)=>if a != 0 then some ((.inl ()),a)else some ((.inr ((⟨false,0⟩:a0u),(f,i,d,n,q,l))),0)
def M0O (F:Nat):Sm en.D:=⟨28,[.d (.st 4)],.tup [.alt .nilp (.box 88 [.d (.st 7),.ifc 132 (.agg [.box 167 [.d (.st 22),.d (.st 4),.d (.int .i64),.d (.int .i64),.d (.int .i64),.own 3 (.int .i64)]])]),.d (.int .i64)],[],fun a=>K0x F a⟩
def O0v (F:Nat):=B2 [M0S F] 28 ⟨[(2,[(.nrm,⟨[(4,.alt .nilp (.box 167 [.d (.st 22),.d (.st 4),.d (.int .i64),.d (.int .i64),.d (.int .i64),.own 3 (.int .i64)])),(5,.d (.int .i64))],[]⟩)])],[],[],[]⟩ F
def M0Z (F:Nat):Option (List C0):=some [(⟨2,(-1),(-1),0,[0,8589934592,0,0]⟩:C0),(⟨8,0,(-1),0,[0,0,0,0]⟩:C0),(⟨2,(-1),(-1),0,[0,8589934592,0,0]⟩:C0),(⟨8,2,(-1),0,[0,0,0,0]⟩:C0),(⟨5,3,(-1),0,[0,0,0,0]⟩:C0),(⟨3,1,4,0,[0,0,0,0]⟩:C0)]
def N0o (F:Nat):Sm en.D:=⟨54,[],.own 145 (.st 0),[],fun a=>M0Z F⟩
def Q0o (F:Nat):=B2 [] 54 V4 F
def N02 (F:Nat)(f:List Int)(h:Int×(N3×(List Int)×Int×Bool)):Option (V0 (Int×(N3×(List Int)×Int×Bool)) (N3×(List Int)×Int×Bool)):=match h with
 | (e,(a,c,d,b))=>if decide (e<(f.length:Int))then if B0 f e then .bind (G0c F (⟨(⟨a,c,d,b⟩:e0w)⟩:d0B)) fun j=>if j then some (.done (a,c,d,b))else .bind (f0U F (a,c,d,b) (gt f e)) fun(g,k,l,i)=>some (.next (W (e+1),(g,k,l,i)))else none else some (.done (a,c,d,b))
def M0v (F:Nat):(a0u×(N3×(List Int)×Int×Bool))->(List Int)->Option (((Bool×Bool×(List G1))×Int)×(a0u×(N3×(List Int)×Int×Bool))×(List Int))
 | (b,(c,d,e,is)),a=>if b.closed then some (((false,false,[]),13),(b,(c,d,e,is)),a)else .bind (α:=N3×(List Int)×Int×Bool) (iter (N02 F a) F (0,(c,d,e,is))) fun(f,k,p,i)=>.bind (m0D F ((⟨b.closed,W (b.count+(a.length:Int))⟩:a0u),(f,k,p,i))) fun((m,n,o),(h,(g,l,q,j)))=>some (((m,n,o),0),(h,(g,l,q,j)),a)
def M06 (F:Nat):Sm en.D:=⟨23,[.box 88 [.d (.st 7),.ifc 120 (.agg [.box 109 [.box 158 [.d (.st 19)],.d (.list (.int .i64)),.d (.int .i64),.d .bool]])],.own 5 (.int .u8)],.tup [.agg [.d .bool,.d .bool,.d (.list (.st 8))],.d (.int .i64)],[(0,.box 88 [.d (.st 7),.ifc 120 (.agg [.box 109 [.box 158 [.d (.st 19)],.d (.list (.int .i64)),.d (.int .i64),.d .bool]])]),(1,.own 5 (.int .u8))],fun a=>M0v F a.1 a.2⟩
def P0x (F:Nat):=B2 [G04 F,L0D F,M0h F] 23 ⟨[],[(4,⟨[(16,.d (.int .i64))],[(0,.any),(1,.box 109 [.box 158 [.d (.st 19)],.d (.list (.int .i64)),.d (.int .i64),.d .bool])]⟩,[(.ex 0,⟨[(16,.any)],[(0,.any),(1,.box 109 [.box 158 [.d (.st 19)],.d (.list (.int .i64)),.d (.int .i64),.d .bool])]⟩)])],[],[]⟩ F
def H0n (F:Nat):Option Bool:=.bind (α:=((Unit⊕(a0u×(N3×(List Int)×Int×Bool)))×Int)) (.bind (M0Z F) fun D=>.bind (I0a F D) fun(n,a)=>match n with
  | .inl _=>some ((.inl ()),a)
  | .inr (o,(f,J,P,is))=>some ((.inr (o,(f,J,P,is))),a)) fun(E,b)=>match E with
 | .inl _=>.bind (α:=Int) (.bind (K0x F (⟨0,0,[],[]⟩:a0c)) fun(I,e)=>match I with
   | .inl _=>some e
   | .inr (ap,(a2,a4,am,bb,bf,a9))=>some e) fun u=>.bind (if b != 0 then some true else some true) fun Z=>.bind (if Z then some true else some (u != 11)) fun aa=>if aa then some false else if !([98,97,97]:List Int).isEmpty then none else none
 | .inr (p,(g,L,Q,z))=>.bind (α:=Int) (.bind (K0x F (⟨0,0,[],[]⟩:a0c)) fun(H,d)=>match H with
   | .inl _=>some d
   | .inr (ao,(a1,a3,al,ba,be,a5))=>some d) fun t=>.bind (if b != 0 then some true else some false) fun X=>.bind (if X then some true else some (t != 11)) fun ab=>if ab then some false else if !([98,97,97]:List Int).isEmpty then .bind (H0m F (p,(g,L,Q,z)) [98,97,97]) fun(((v,x,au),av),(q,(h,M,R,A)))=>if !([98]:List Int).isEmpty then .bind (H0m F (q,(h,M,R,A)) [98]) fun(((aw,y,ax),ay),(r,(i,N,S,B)))=>.bind (G0j F (r,(i,N,S,B))) fun(((an,k,l),m),(s,(j,O,T,C)))=>.bind (H0m F (s,(j,O,T,C)) []) fun(((az,aq,ar),w),(c,(ak,bc,bd,a0)))=>.bind (if v then some (!x)else some false) fun ac=>.bind (if ac then some y else some false) fun ae=>.bind (if ae then .bind (b08 F l [(⟨1,3⟩:G1)]) fun G=>some G else some false) fun af=>.bind (if af then some k else some false) fun ag=>.bind (if ag then some (m==0)else some false) fun ah=>.bind (if ah then some (w==13)else some false) fun ai=>.bind (if ai then some c.closed else some false) fun aj=>.bind (if aj then some (c.count==4)else some false) fun Y=>some Y else none else none
def N0c (F:Nat):Sm en.D:=⟨21,[],.d .bool,[],fun a=>H0n F⟩
def P0N (F:Nat):D4 en:=⟨[M0p F,M0J F,M0C F,k0z F,M0O F,N0o F],fun a=>if Nat.beq a 21 then⟨[(2,[(.nrm,⟨[(1,.alt .nilp (.box 88 [.d (.st 7),.ifc 120 (.agg [.box 109 [.box 158 [.d (.st 19)],.d (.list (.int .i64)),.d (.int .i64),.d .bool]])])),(2,.d (.int .i64))],[]⟩)]),(3,[(.nrm,⟨[(4,.d (.int .i64))],[]⟩)])],[],[(3,3,5,⟨[(25,.any),(28,.d .bool)],[]⟩),(3,7,9,⟨[(29,.any),(32,.d .bool)],[]⟩),(9,3,6,⟨[(59,.any),(63,.d .bool)],[]⟩),(9,8,10,⟨[(64,.any),(67,.d .bool)],[]⟩),(9,12,17,⟨[(68,.any),(74,.d .bool)],[]⟩),(9,19,21,⟨[(75,.any),(78,.d .bool)],[]⟩),(9,23,25,⟨[(79,.any),(82,.d .bool)],[]⟩),(9,27,29,⟨[(83,.any),(86,.d .bool)],[]⟩),(9,31,35,⟨[(87,.any),(92,.d .bool)],[]⟩),(9,37,42,⟨[(93,.any),(99,.d .bool)],[]⟩)],[]⟩else if Nat.beq a 33 then V4 else if Nat.beq a 55 then V4 else V4,F,[]⟩
def I0f (F:Nat)(a:a0J)(b:a0J):Option Bool:=.bind (if a.Is==b.Is then some (a.Sure==b.Sure)else some false) fun d=>.bind (if d then .bind (b08 F a.Spans b.Spans) fun c=>some c else some false) fun e=>some e
def M0I (F:Nat):Sm en.D:=⟨24,[.d (.st 9),.d (.st 9)],.d .bool,[],fun a=>I0f F a.1 a.2⟩
def P09 (F:Nat):=B2 [k0z F] 24 ⟨[],[],[(1,6,11,⟨[(10,.any),(16,.d .bool)],[]⟩),(1,13,18,⟨[(17,.any),(23,.d .bool)],[]⟩)],[]⟩ F
def j0e (F:Nat)(a:List C0)(c:List Int):Option Int:=.bind (B6 F a) fun b=>if !b then some 11 else if decide ((c.length:Int)>64)then some 12 else some 0
def l07 (F:Nat):Sm en.D:=⟨57,[.d (.list (.st 0)),.d (.list (.int .u8))],.d (.int .i64),[],fun a=>j0e F a.1 a.2⟩
def C0U (F:Nat):=B2 [k0E F] 57 V4 F
def a7 (F:Nat)(a:S7)(b:Int)(c:Int)(d:Int):Option Bool:=if B0 a.Can b then if B0 (gt a.Can b) (W ((W (c*(W (a.N+1))))+d))then let e:=gt (gt a.Can b) (W ((W (c*(W (a.N+1))))+d));
   some e else none else none
def h0h (F:Nat):Sm en.D:=⟨59,[.d (.st 25),.d (.int .i64),.d (.int .i64),.d (.int .i64)],.d .bool,[],fun a=>a7 F a.1 a.2.1 a.2.2.1 a.2.2.2⟩
def A08 (F:Nat):=B2 [] 59 V4 F
def i0M (F:Nat)(c:List C0)(e:S7)(d:Int)(g:Int)(b:Int)(f:Int):Option (V0 Int (Unit⊕Unit)):=match f with
 | a=>if decide (a<=b)then .bind (a7 F e ((gt c d).A) g a) fun is=>.bind (if is then .bind (a7 F e ((gt c d).B) a b) fun h=>some h else some false) fun i=>if i then some (.done (.inl ()))else some (.next (W (a+1)))else some (.done (.inr ()))
def j09 (F:Nat)(i:List C0)(d:S7)(c:Int)(f:Int)(b:Int)(e:Int):Option (V0 Int (Unit⊕Unit)):=match e with
 | a=>if decide (a<=b)then .bind (a7 F d ((gt i c).A) f a) fun g=>.bind (if g then .bind (a7 F d c a b) fun h=>some h else some false) fun j=>if j then some (.done (.inl ()))else some (.next (W (a+1)))else some (.done (.inr ()))
def g0H (F:Nat)(b:List C0)(g:List Int)(e:S7)(c:Int)(a:Int)(d:Int):Option Bool:=if B0 b c then if((gt b c).Kind)==1 then some (a==d)else if((gt b c).Kind)==2 then .bind (if d==(W (a+1))then if B0 g a then .bind (j07 F ((gt b c).Set) (W (gt g a))) fun h=>some h else none else some false) fun m=>some m else if((gt b c).Kind)==3 then .bind (α:=Unit⊕Unit) (iter (i0M F b e c a d) F a) fun f=>match f with
     | .inl _=>some true
     | .inr _=>some false else if((gt b c).Kind)==4 then .bind (a7 F e ((gt b c).A) a d) fun i=>.bind (if i then some true else .bind (a7 F e ((gt b c).B) a d) fun j=>some j) fun n=>some n else if((gt b c).Kind)==5 then if a==d then some true else .bind (α:=Unit⊕Unit) (iter (j09 F b e c a d) F (W (a+1))) fun f=>match f with
        | .inl _=>some true
        | .inr _=>some false else if((gt b c).Kind)==6 then .bind (if a==d then some true else .bind (a7 F e ((gt b c).A) a d) fun k=>some k) fun o=>some o else .bind (a7 F e ((gt b c).A) a d) fun l=>some l else none
def o0P (F:Nat):Sm en.D:=⟨96,[.d (.list (.st 0)),.d (.list (.int .u8)),.d (.st 25),.d (.int .i64),.d (.int .i64),.d (.int .i64)],.d .bool,[],fun a=>g0H F a.1 a.2.1 a.2.2.1 a.2.2.2.1 a.2.2.2.2.1 a.2.2.2.2.2⟩
def x0g (F:Nat):=B2 [h0h F,k0N F] 96 ⟨[],[(20,⟨[(15,.d (.int .i64))],[]⟩,[(.ret,⟨[(12,.kb true),(15,.any)],[]⟩),(.ex 3,⟨[(15,.any)],[]⟩)]),(9,⟨[(14,.d (.int .i64))],[]⟩,[(.ret,⟨[(12,.kb true),(14,.any)],[]⟩),(.ex 1,⟨[(14,.any)],[]⟩)])],[(6,5,13,⟨[(33,.any),(42,.d .bool)],[]⟩),(11,7,13,⟨[(57,.any),(64,.d .bool)],[]⟩),(15,7,13,⟨[(73,.any),(80,.d .bool)],[]⟩),(22,7,12,⟨[(99,.any),(105,.d .bool)],[]⟩),(26,4,10,⟨[(111,.any),(118,.d .bool)],[]⟩)],[]⟩ F
def h0w (F:Nat)(g:List C0)(j:List Int)(c:Int)(d:Int)(e:Int)(f:Int×(List (List Bool))):Option (V0 (Int×(List (List Bool))) (List (List Bool))):=match f with
 | (b,a)=>if decide (b<=d)then if B0 a c then .bind (g0H F g j (⟨d,a⟩:S7) c e b) fun h=>if B0 (gt a c) (W ((W (e*(W (d+1))))+b))then let i:=a.set c.toNat ((gt a c).set (W ((W (e*(W (d+1))))+b)).toNat h);
    some (.next (W (b+1),i))else none else none else some (.done a)
def h0z (F:Nat)(e:List C0)(g:List Int)(f:Int)(c:Int)(d:Int×(List (List Bool))):Option (V0 (Int×(List (List Bool))) (List (List Bool))):=match d with
 | (a,b)=>if decide (a>=0)then .bind (α:=List (List Bool)) (iter (h0w F e g f c a) F (a,b)) fun h=>some (.next (W (a-1),h))else some (.done b)
def k0r (F:Nat)(d:List C0)(g:List Int)(e:(Int×(Int×(List (List Bool))))):Option (V0 (Int×(Int×(List (List Bool)))) (Int×(List (List Bool)))):=match e with
 | (c,(a,b))=>if decide (c<(d.length:Int))then if V2 1 (W ((W (a+1))*(W (a+1))))then if I0 24 b [(List.replicate (W ((W (a+1))*(W (a+1)))).toNat false:List Bool)]then let f:=b++[(List.replicate (W ((W (a+1))*(W (a+1)))).toNat false:List Bool)];
    .bind (α:=List (List Bool)) (iter (h0z F d g c a) F (a,f)) fun h=>some (.next (W (c+1),(a,h)))else none else none else some (.done (a,b))
def i0J (F:Nat)(d:List C0)(a:List Int):Option S7:=.bind (α:=Int×(List (List Bool))) (iter (k0r F d a) F (0,((a.length:Int),[]))) fun(c,b)=>some (⟨c,b⟩:S7)
def l0A (F:Nat):Sm en.D:=⟨58,[.d (.list (.st 0)),.d (.list (.int .u8))],.d (.st 25),[],fun a=>i0J F a.1 a.2⟩
def y07 (F:Nat):=B2 [o0P F] 58 ⟨[],[(10,⟨[(8,.d (.int .i64))],[(6,.B1 177 [4] (.list .bool))]⟩,[(.ex 4,⟨[(8,.any)],[(6,.B1 177 [4] (.list .bool))]⟩)]),(3,⟨[(6,.d (.int .i64))],[(1,.box 125 [.d (.int .i64),.B1 177 [4] (.list .bool)])]⟩,[(.ex 0,⟨[(6,.any)],[(1,.box 125 [.d (.int .i64),.B1 177 [4] (.list .bool)])]⟩)]),(7,⟨[(7,.d (.int .i64))],[(6,.B1 177 [4] (.list .bool))]⟩,[(.ex 2,⟨[(7,.any)],[(6,.B1 177 [4] (.list .bool))]⟩)])],[],[28]⟩ F
def h0I (F:Nat)(c:Int×(List G1)):Option (V0 (Int×(List G1)) (List G1)):=match c with
 | (a,b)=>if decide (a<(b.length:Int))then if B0 b a then some (.next (W (a+1),b.set a.toNat (⟨(-1),(-1)⟩:G1)))else none else some (.done b)
def g08 (F:Nat)(b:List Int)(d:Int×(List G1)):Option (V0 (Int×(List G1)) (List G1)):=match d with
 | (a,c)=>if decide (a<(b.length:Int))then if B0 b a then if B0 c (gt b a)then let e:=c.set (gt b a).toNat (⟨(-1),(-1)⟩:G1);
    some (.next (W (a+1),e))else none else none else some (.done c)
def f03 (F:Nat)(c:List C0)(b:List Z1)(f:Int×(List G1)):Option (V0 (Int×(List G1)) (List G1)):=match f with
 | (a,d)=>if decide (a<(b.length:Int))then .bind (α:=List G1) (if B0 b a then .bind (if decide (((gt b a).Node)<0)then some true else some (decide (((gt b a).Node)>=(c.length:Int)))) fun i=>if i then some d else .bind (α:=List G1) (if B0 c ((gt b a).Node)then if((gt c ((gt b a).Node)).Kind)==7 then if B0 c ((gt b a).Node)then if B0 b a then if B0 b a then if B0 d ((gt c ((gt b a).Node)).N)then let h:=d.set ((gt c ((gt b a).Node)).N).toNat (⟨(gt b a).From,(gt b a).To⟩:G1);
            some h else none else none else none else none else some d else none) fun e=>if B0 c ((gt b a).Node)then if((gt c ((gt b a).Node)).Kind)==8 then .bind (f0M F c ((gt b a).Node)) fun g=>.bind (α:=List G1) (iter (g08 F g) F (0,e)) fun j=>some j else some e else none else none) fun k=>some (.next (W (a+1),k))else some (.done d)
def i0k (F:Nat)(b:List C0)(a:List Z1):Option (List G1):=.bind (B6 F b) fun f=>if !f then some []else .bind (j00 F b) fun d=>if V2 16 (W (d+1))then .bind (α:=List G1) (iter (h0I F) F (0,(List.replicate (W (d+1)).toNat (⟨0,0⟩:G1):List G1))) fun c=>.bind (α:=List G1) (if decide ((a.length:Int)>0)then if B0 a 0 then if B0 a 0 then if B0 c 0 then let e:=c.set (0:Int).toNat (⟨(gt a 0).From,(gt a 0).To⟩:G1);
        some e else none else none else none else some c) fun g=>.bind (α:=List G1) (iter (f03 F b a) F (0,g)) fun h=>some h else none
def p0f (F:Nat):Sm en.D:=⟨60,[.d (.list (.st 0)),.d (.list (.st 26))],.own 118 (.st 8),[],fun a=>i0k F a.1 a.2⟩
def F0k (F:Nat):=B2 [k0E F,o0c F,k0F F] 60 ⟨[(10,[(.nrm,⟨[],[(0,.own 118 (.st 8))]⟩)]),(12,[(.nrm,⟨[],[(0,.own 118 (.st 8))]⟩)]),(17,[(.nrm,⟨[],[(0,.own 118 (.st 8))]⟩)])],[(11,⟨[(7,.d (.int .i64))],[(0,.own 118 (.st 8))]⟩,[(.ex 2,⟨[(7,.any)],[(0,.own 118 (.st 8))]⟩)]),(20,⟨[(10,.d (.int .i64))],[(0,.own 118 (.st 8))]⟩,[(.ex 4,⟨[(10,.any)],[(0,.own 118 (.st 8))]⟩)]),(5,⟨[(6,.d (.int .i64))],[(0,.own 118 (.st 8))]⟩,[(.ex 0,⟨[(6,.any)],[(0,.own 118 (.st 8))]⟩)])],[(14,3,7,⟨[(55,.any),(60,.d .bool)],[]⟩)],[]⟩ F
def m0a (F:Nat)(b:List C0)(d:S7)(c:Int)(f:Int)(h:Int)(e:Int):Option (V0 Int Int):=match e with
 | a=>.bind (a7 F d ((gt b c).A) f a) fun is=>.bind (if !is then some true else .bind (a7 F d ((gt b c).B) a h) fun g=>some (!g)) fun i=>if i then some (.next (W (a-1)))else some (.done a)
def n0O (F:Nat)(i:List C0)(c:S7)(b:Int)(h:Int)(e:Int)(d:Int):Option (V0 Int Int):=match d with
 | a=>.bind (a7 F c ((gt i b).A) e a) fun f=>.bind (if !f then some true else .bind (a7 F c b a h) fun g=>some (!g)) fun j=>if j then some (.next (W (a-1)))else some (.done a)
def g00 (F:Nat)(o0B:(List C0)->S7->Int->Int->Int->Int->Option (List Z1))(c:List C0)(h:S7)(g:Int)(j:Int)(b:Int)(i:Int×(List Z1)):Option (V0 (Int×(List Z1)) (List Z1)):=match i with
 | (a,d)=>if decide (a<b)then .bind (α:=Int) (iter (n0O F c h g b a) F b) fun f=>.bind (o0B c h ((gt c g).A) (W (j+1)) a f) fun e=>if I0 32 d e then some (.next (f,d++e))else none else some (.done d)
def I7 (F:Nat):Nat->(List C0)->S7->Int->Int->Int->Int->Option (List Z1)
 | 0,_,_,_,_,_,_=>none
 | g+1,d,f,a,e,c,b=>if B0 d a then if((gt d a).Kind)==3 then .bind (α:=Int) (iter (m0a F d f a c b) F b) fun n=>.bind (I7 F g d f ((gt d a).A) (W (e+1)) c n) fun h=>if I0 32 [(⟨e,a,c,b⟩:Z1)] h then .bind (I7 F g d f ((gt d a).B) (W (e+1)) n b) fun i=>if I0 32 ([(⟨e,a,c,b⟩:Z1)]++h) i then let p:=([(⟨e,a,c,b⟩:Z1)]++h)++i;
     some p else none else none else if((gt d a).Kind)==4 then .bind (a7 F f ((gt d a).A) c b) fun o=>if o then .bind (I7 F g d f ((gt d a).A) (W (e+1)) c b) fun j=>if I0 32 [(⟨e,a,c,b⟩:Z1)] j then some ([(⟨e,a,c,b⟩:Z1)]++j)else none else .bind (I7 F g d f ((gt d a).B) (W (e+1)) c b) fun k=>if I0 32 [(⟨e,a,c,b⟩:Z1)] k then some ([(⟨e,a,c,b⟩:Z1)]++k)else none else if((gt d a).Kind)==5 then .bind (α:=List Z1) (iter (g00 F (I7 F g) d f a e b) F (c,[(⟨e,a,c,b⟩:Z1)])) fun q=>some q else if((gt d a).Kind)==6 then if decide (c<b)then .bind (I7 F g d f ((gt d a).A) (W (e+1)) c b) fun l=>if I0 32 [(⟨e,a,c,b⟩:Z1)] l then some ([(⟨e,a,c,b⟩:Z1)]++l)else none else some [(⟨e,a,c,b⟩:Z1)]else .bind (if((gt d a).Kind)==7 then some (((gt d a).Kind)==7)else some (((gt d a).Kind)==8)) fun r=>if r then .bind (I7 F g d f ((gt d a).A) (W (e+1)) c b) fun m=>if I0 32 [(⟨e,a,c,b⟩:Z1)] m then some ([(⟨e,a,c,b⟩:Z1)]++m)else none else some [(⟨e,a,c,b⟩:Z1)]else none
def i00 (F b:Nat):Sm en.D:=⟨61,[.d (.list (.st 0)),.d (.st 25),.d (.int .i64),.d (.int .i64),.d (.int .i64),.d (.int .i64)],.own 180 (.st 26),[],fun a=>I7 F b a.1 a.2.1 a.2.2.1 a.2.2.2.1 a.2.2.2.2.1 a.2.2.2.2.2⟩
def v0O (F a:Nat):=B2 [h0h F,i00 F a] 61 ⟨[(28,[(.nrm,⟨[(155,.d .bool)],[]⟩)])],[(15,⟨[(4,.d (.int .i64)),(14,.own 180 (.st 26))],[(2,.any)]⟩,[(.ex 3,⟨[(4,.any),(14,.own 180 (.st 26))],[(2,.any)]⟩)]),(17,⟨[(16,.d (.int .i64))],[]⟩,[(.ex 5,⟨[(16,.d (.int .i64))],[]⟩)]),(6,⟨[(15,.d (.int .i64))],[]⟩,[(.ex 1,⟨[(15,.d (.int .i64))],[]⟩)])],[(6,8,15,⟨[(39,.any),(47,.d .bool)],[]⟩),(17,8,14,⟨[(115,.any),(122,.d .bool)],[]⟩)],[]⟩ F
def d02 (F:Nat)(b:List C0)(d:S7)(c:Int)(e:Int):Option (V0 Int (((List G1)×Int)⊕Unit)):=match e with
 | a=>if decide (a>=c)then .bind (a7 F d (W ((b.length:Int)-1)) c a) fun is=>if is then .bind (I7 F F b d (W ((b.length:Int)-1)) 1 c a) fun f=>.bind (i0k F b f) fun g=>some (.done (.inl (g,0)))else some (.next (W (a-1)))else some (.done (.inr ()))
def d0S (F:Nat)(d:List C0)(b:List Int)(e:S7)(c:Int):Option (V0 Int (((List G1)×Int)⊕Unit)):=match c with
 | a=>if decide (a<=(b.length:Int))then .bind (α:=((List G1)×Int)⊕Unit) (iter (d02 F d e a) F (b.length:Int)) fun h=>match h with
  | .inl (f,g)=>some (.done (.inl (f,g)))
  | .inr _=>some (.next (W (a+1)))else some (.done (.inr ()))
def d0X (F:Nat)(a:List C0)(b:List Int):Option ((List G1)×Int):=.bind (j0e F a b) fun c=>if c != 0 then some ([],c)else .bind (i0J F a b) fun d=>.bind (α:=((List G1)×Int)⊕Unit) (iter (d0S F a b d) F 0) fun g=>match g with
  | .inl (e,f)=>some (e,f)
  | .inr _=>some ([],7)
def H0O (F:Nat):Sm en.D:=⟨26,[.d (.list (.st 0)),.d (.list (.int .u8))],.tup [.own 118 (.st 8),.d (.int .i64)],[],fun a=>d0X F a.1 a.2⟩
def K0w (F:Nat):=B2 [l07 F,l0A F,h0h F,p0f F,i00 F F] 26 ⟨[],[(6,⟨[(8,.d (.int .i64))],[]⟩,[(.ret,⟨[(4,.own 118 (.st 8)),(5,.d (.int .i64)),(8,.any)],[]⟩),(.ex 0,⟨[(8,.any)],[]⟩)]),(9,⟨[(9,.d (.int .i64))],[]⟩,[(.ret,⟨[(4,.own 118 (.st 8)),(5,.d (.int .i64)),(9,.any)],[]⟩),(.ex 2,⟨[(9,.any)],[]⟩)])],[],[]⟩ F
def M0j (F:Nat)(c:Int×(List Int)):Option (V0 (Int×(List Int)) Unit):=match c with
 | (a,b)=>if decide (a<(b.length:Int))then if B0 b a then if B0 b a then let d:=b.set a.toNat (IntKind.u8.wrap (255-(gt b a)));
    some (.next (W (a+1),d))else none else none else some (.done ())
def J0Z (F:Nat)(b:List a07)(o:((List Int)×Int×(a0u×(N3×(List Int)×Int×Bool))×a0J)):Option (V0 ((List Int)×Int×(a0u×(N3×(List Int)×Int×Bool))×a0J) (Unit⊕((List Int)×(a0u×(N3×(List Int)×Int×Bool))×a0J))):=match o with
 | (c,a,(f,(e,k,l,j)),d)=>if decide (a<(b.length:Int))then if B0 b a then if I0 1 ([]:List Int) ((gt b a).B)then if I0 1 c ([]++((gt b a).B))then .bind (M0v F (f,(e,k,l,j)) ([]++((gt b a).B))) fun(((g,h,i),q),(p,(m,t,u,r)),n)=>.bind (α:=Unit) (iter (M0j F) F (0,n)) fun _=>.bind (if q != 0 then some true else .bind (if d.Sure then .bind (I0f F (⟨g,h,i⟩:a0J) d) fun s=>some (!s)else some false) fun v=>some v) fun w=>if w then some (.done (.inl ()))else some (.next (c++([]++((gt b a).B)),W (a+1),(p,(m,t,u,r)),(⟨g,h,i⟩:a0J)))else none else none else none else some (.done (.inr (c,(f,(e,k,l,j)),d)))
def M08 (F:Nat)(a:List C0)(g:List a07):Option Bool:=.bind (if decide ((a.length:Int)>40)then some true else .bind (M0l F g) fun q=>some (!q)) fun I=>.bind (if I then some true else .bind (B6 F a) fun v=>some (!v)) fun M=>if M then .bind (H0n F) fun z=>some z else .bind (α:=((Unit⊕(a0u×(N3×(List Int)×Int×Bool)))×Int)) (.bind (I0a F a) fun(m,e)=>match m with
   | .inl _=>some ((.inl ()),e)
   | .inr (n,(i,B,E,is))=>some ((.inr (n,(i,B,E,is))),e)) fun(w,f)=>match w with
  | .inl _=>.bind (if f != 0 then some true else some true) fun L=>if L then some false else none
  | .inr (o,(j,C,G,t))=>.bind (if f != 0 then some true else some false) fun N=>if N then some false else .bind (α:=(Unit⊕((List Int)×(a0u×(N3×(List Int)×Int×Bool))×a0J))) (iter (J0Z F g) F ([],0,(o,(j,C,G,t)),(⟨false,false,[]⟩:a0J))) fun S=>match S with
    | .inl _=>some false
    | .inr (f0r,(p,(k,D,H,u)),h)=>.bind (G0j F (p,(k,D,H,u))) fun(((b,c,d),l),(X,(T,Z,aa,Y)))=>.bind (d0X F a f0r) fun(r,s)=>.bind (if l != 0 then some true else some (!c)) fun O=>.bind (if O then some true else some (!(b==(s==0)))) fun P=>.bind (if P then some true else .bind (b08 F d r) fun y=>some (!y)) fun Q=>if Q then some false else .bind (if !h.Sure then some true else .bind (I0f F (⟨b,c,d⟩:a0J) h) fun x=>some x) fun R=>.bind (if R then .bind (H0n F) fun A=>some A else some false) fun J=>some J
def N01 (F:Nat):Sm en.D:=⟨6,[.d (.list (.st 0)),.d (.list (.st 6))],.d .bool,[],fun a=>M08 F a.1 a.2⟩
def P0z (F:Nat):=B2 [M06 F,N0f F,k0E F,N0c F,M0p F,M0I F,M0C F,H0O F,k0z F] 6 ⟨[(4,[(.nrm,⟨[(5,.alt .nilp (.box 88 [.d (.st 7),.ifc 120 (.agg [.box 109 [.box 158 [.d (.st 19)],.d (.list (.int .i64)),.d (.int .i64),.d .bool]])])),(6,.d (.int .i64))],[]⟩)])],[(15,⟨[(13,.d (.int .i64))],[(10,.own 5 (.int .u8))]⟩,[(.ex 2,⟨[(13,.any)],[(10,.any)]⟩)]),(9,⟨[(7,.own 5 (.int .u8)),(9,.d (.int .i64))],[(0,.any),(1,.any),(2,.box 88 [.d (.st 7),.ifc 120 (.agg [.box 109 [.box 158 [.d (.st 19)],.d (.list (.int .i64)),.d (.int .i64),.d .bool]])]),(3,.box 53 [.d (.st 9)])]⟩,[(.ret,⟨[(4,.kb false),(7,.any),(9,.any)],[(0,.any),(1,.any),(2,.any),(3,.any)]⟩),(.ex 0,⟨[(7,.own 5 (.int .u8)),(9,.any)],[(0,.any),(1,.any),(2,.box 88 [.d (.st 7),.ifc 120 (.agg [.box 109 [.box 158 [.d (.st 19)],.d (.list (.int .i64)),.d (.int .i64),.d .bool]])]),(3,.box 53 [.d (.st 9)])]⟩)])],[(1,4,7,⟨[(21,.any),(25,.d .bool)],[]⟩),(1,9,12,⟨[(26,.any),(30,.d .bool)],[]⟩),(4,3,5,⟨[(39,.any),(42,.d .bool)],[]⟩),(18,3,11,⟨[(81,.any),(90,.d .bool)],[]⟩),(18,6,10,⟨[(84,.any),(89,.d .bool)],[]⟩),(23,3,6,⟨[(105,.any),(109,.d .bool)],[]⟩),(23,8,13,⟨[(110,.any),(116,.d .bool)],[]⟩),(23,15,20,⟨[(117,.any),(123,.d .bool)],[]⟩),(25,4,7,⟨[(127,.any),(131,.d .bool)],[]⟩),(25,9,10,⟨[(132,.any),(134,.d .bool)],[]⟩)],[]⟩ F
