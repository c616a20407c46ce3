/- P. Its conditions: none. -/
import Derived.Test.YtmhooikfkhjijaaGreatYEn
import Derived.Test.YtmhooikfkhjijaaGreatYX17
import Derived.Test.YtmhooikfkhjijaaGreatYX14
import Derived.Test.YtmhooikfkhjijaaGreatYVKey
set_option linter.all false
set_option maxRecDepth 100000
noncomputable section
namespace Go.Proofs.YtmhooikfkhjijaaGreat
open Go.V Go.RowKit Go.X
def I0W (F:Nat)(b:b0D)(c:Int)(e:Int):Option (T0 Int (Unit⊕Unit)):=match e with
 | a=>let f:=decide (a<(((gt b.Stands c).c0s).length:Int));
 if f then if y0 ((gt b.Stands c).c0s) a then let d:=(((gt ((gt b.Stands c).c0s) a).Moves).length:Int);
   if decide (d>1300)then some (.done (.inl ()))else some (.next (W (a+1)))else none else some (.done (.inr ()))
def J0D (F:Nat)(b:b0D)(e:Int):Option (T0 Int (Unit⊕Unit)):=match e with
 | a=>if decide (a<(b.Stands.length:Int))then if y0 b.Stands a then let g:=decide ((((gt b.Stands a).Accept).length:Int)>40);
   .bind (if g then some true else let f:=decide ((((gt b.Stands a).c0s).length:Int)>300);
     some f) fun d=>if d then some (.done (.inl ()))else .bind (α:=Unit⊕Unit) (iter (I0W F b a) F 0) fun c=>match c with
    | .inl _=>some (.done (.inl ()))
    | .inr _=>some (.next (W (a+1)))else none else some (.done (.inr ()))
def F0y (F:Nat)(a:b0D):Option Bool:=.bind (if decide ((a.Stands.length:Int)>60)then some true else some (decide ((a.Class.length:Int)>300))) fun d=>.bind (if d then some true else some (decide (a.Regs>600))) fun b=>if b then some false else .bind (α:=Unit⊕Unit) (iter (J0D F a) F 0) fun c=>match c with
  | .inl _=>some false
  | .inr _=>some true
abbrev U1:Ann:=⟨[],[],[],[]⟩
abbrev R0 (l:List (Sm en.D))(n:Nat)(a:Ann)(F:Nat):X1 en:=⟨l,fun g=>if Nat.beq g n then a else U1,F,[]⟩
def G08 (F:Nat):Sm en.D:=⟨9,[.d (.st 4)],.d .bool,[],fun a=>F0y F a⟩
def U0s (F:Nat):=R0 [] 9 ⟨[],[(10,⟨[(5,.d (.int .i64))],[]⟩,[(.ret,⟨[(2,.kb false),(5,.any)],[]⟩),(.ex 2,⟨[(5,.any)],[]⟩)]),(4,⟨[(3,.d (.int .i64))],[]⟩,[(.ret,⟨[(2,.kb false),(3,.any)],[]⟩),(.ex 0,⟨[(3,.any)],[]⟩)])],[(1,5,9,⟨[(10,.any),(15,.d .bool)],[]⟩),(1,11,14,⟨[(16,.any),(20,.d .bool)],[]⟩),(7,5,9,⟨[(37,.any),(42,.d .bool)],[]⟩)],[]⟩ F
def p0i (F:Nat)(b:List U0)(c:List Int)(a:Int):Option Int:=if y0 b a then .bind (α:=Int⊕Unit) (.bind (if((gt b a).Kind)==1 then some (((gt b a).Kind)==1)else some (((gt b a).Kind)==2)) fun g=>if g then .bind (if((gt b a).A)==(-1)then some (((gt b a).B)==(-1))else some false) fun l=>if l then some (.inl a)else some (.inr ())else .bind (if((gt b a).Kind)==3 then some (((gt b a).Kind)==3)else some (((gt b a).Kind)==4)) fun n=>if n then .bind (if decide (((gt b a).B)>=0)then some (((gt b a).B)==(W (a-1)))else some false) fun k=>.bind (if k then some (decide (((gt b a).A)>=0))else some false) fun h=>.bind (if h then if y0 c ((gt b a).B)then let m:=((gt b a).A)==(W ((gt c ((gt b a).B))-1));
        some m else none else some false) fun e=>if e then if y0 c ((gt b a).A)then some (.inl (gt c ((gt b a).A)))else none else some (.inr ())else .bind (if((gt b a).Kind)==5 then some (((gt b a).Kind)==5)else if((gt b a).Kind)==6 then some (((gt b a).Kind)==6)else if((gt b a).Kind)==7 then some (((gt b a).Kind)==7)else some (((gt b a).Kind)==8)) fun f=>if f then .bind (if((gt b a).B)==(-1)then some (decide (((gt b a).A)>=0))else some false) fun j=>.bind (if j then some (((gt b a).A)==(W (a-1)))else some false) fun o=>if o then if y0 c ((gt b a).A)then some (.inl (gt c ((gt b a).A)))else none else some (.inr ())else some (.inr ())) fun d=>match d with
  | .inl i=>some i
  | .inr _=>some (-1)else none
def j0m (F:Nat):Sm en.D:=⟨138,[.d (.list (.st 0)),.d (.list (.int .i64)),.d (.int .i64)],.d (.int .i64),[],fun a=>p0i F a.1 a.2.1 a.2.2⟩
def x0o (F:Nat):=R0 [] 138 ⟨[(15,[(.nrm,⟨[(60,.d .bool)],[]⟩)]),(17,[(.ret,⟨[(6,.d (.int .i64))],[]⟩),(.nrm,⟨[],[]⟩)]),(5,[(.nrm,⟨[(14,.d .bool)],[]⟩)]),(9,[(.nrm,⟨[(26,.d .bool)],[]⟩)])],[],[(5,4,7,⟨[(20,.any),(24,.d .bool)],[]⟩),(9,4,9,⟨[(32,.any),(38,.d .bool)],[]⟩),(9,11,14,⟨[(39,.any),(43,.d .bool)],[]⟩),(9,16,25,⟨[(44,.any),(54,.d .bool)],[]⟩),(15,4,7,⟨[(68,.any),(72,.d .bool)],[]⟩),(15,9,14,⟨[(73,.any),(79,.d .bool)],[]⟩)],[]⟩ F
def m0O (F:Nat)(a:U0):Option Bool:=.bind (if a.Kind != 2 then let b:=!(((gt a.Set 0)==0)&&(((gt a.Set 1)==0)&&(((gt a.Set 2)==0)&&((gt a.Set 3)==0))));
   some b else some false) fun c=>if c then some false else if a.Kind==7 then .bind (if decide (a.N>=1)then some (decide (a.N<=9))else some false) fun d=>some d else some (a.N==0)
def g0I (F:Nat):Sm en.D:=⟨139,[.d (.st 0)],.d .bool,[],fun a=>m0O F a⟩
def w0G (F:Nat):=R0 [] 139 ⟨[],[],[(1,4,8,⟨[(6,.any),(11,.d .bool)],[]⟩),(4,4,7,⟨[(18,.any),(22,.d .bool)],[]⟩)],[]⟩ F
def s0W (F:Nat)(c:U0)(b:List U0)(e:Int):Option (T0 Int (Unit⊕Unit)):=match e with
 | a=>if decide (a<(b.length:Int))then if y0 b a then .bind (if c.Kind==7 then some (((gt b a).Kind)==7)else some false) fun f=>.bind (if f then some (((gt b a).N)==c.N)else some false) fun d=>if d then some (.done (.inl ()))else some (.next (W (a+1)))else none else some (.done (.inr ()))
def o01 (F:Nat)(c:U0)(b:List U0):Option Bool:=.bind (α:=Unit⊕Unit) (iter (s0W F c b) F 0) fun a=>match a with
 | .inl _=>some true
 | .inr _=>some false
def h0t (F:Nat):Sm en.D:=⟨140,[.d (.st 0),.d (.list (.st 0))],.d .bool,[],fun a=>o01 F a.1 a.2⟩
def w07 (F:Nat):=R0 [] 140 ⟨[],[(2,⟨[(9,.d (.int .i64))],[]⟩,[(.ret,⟨[(4,.kb true),(9,.any)],[]⟩),(.ex 0,⟨[(9,.any)],[]⟩)])],[(4,4,7,⟨[(16,.any),(20,.d .bool)],[]⟩),(4,9,14,⟨[(21,.any),(27,.d .bool)],[]⟩)],[]⟩ F
def q0M (F:Nat)(b:List U0)(j:(List Int)×Int×Int):Option (T0 ((List Int)×Int×Int) (Unit⊕((List Int)×Int))):=match j with
 | (d,e,a)=>if decide (a<(b.length:Int))then if y0 b a then .bind (p0i F b d a) fun c=>.bind (if decide (c<0)then some true else .bind (m0O F (gt b a)) fun f=>some (!f)) fun k=>.bind (if k then some true else if C3 b c a then .bind (o01 F (gt b a) (L1 b c a)) fun g=>some g else none) fun i=>if i then some (.done (.inl ()))else .bind (α:=Int) (if((gt b a).Kind)==2 then some (W (e+1))else some e) fun h=>if C1 8 d [c]then some (.next (d++[c],h,W (a+1)))else none else none else some (.done (.inr (d,e)))
def b0e (F:Nat)(a:List U0):Option (List Int):=.bind (if(a.length:Int)==0 then some true else some (decide ((a.length:Int)>400))) fun d=>if d then some []else .bind (α:=Unit⊕((List Int)×Int)) (iter (q0M F a) F ([],0,0)) fun c=>match c with
  | .inl _=>some []
  | .inr (b,f)=>.bind (if decide (f>64)then some true else if y0 b (W ((a.length:Int)-1))then some ((gt b (W ((a.length:Int)-1))) != 0)else none) fun e=>if e then some []else some b
def b0B (F:Nat):Sm en.D:=⟨100,[.d (.list (.st 0))],.own 3 (.int .i64),[],fun a=>b0e F a⟩
def v0F (F:Nat):=R0 [j0m F,g0I F,h0t F] 100 ⟨[(13,[(.nrm,⟨[(4,.d (.int .i64))],[]⟩)])],[(6,⟨[(3,.own 3 (.int .i64)),(4,.d (.int .i64)),(18,.d (.int .i64))],[]⟩,[(.ret,⟨[(2,.nil),(3,.any),(4,.any),(18,.any)],[]⟩),(.ex 0,⟨[(3,.own 3 (.int .i64)),(4,.d (.int .i64)),(18,.any)],[]⟩)])],[(1,4,7,⟨[(11,.any),(15,.d .bool)],[]⟩),(9,3,6,⟨[(29,.any),(33,.d .bool)],[]⟩),(9,8,14,⟨[(34,.any),(41,.d .bool)],[]⟩),(15,3,10,⟨[(54,.any),(62,.d .bool)],[]⟩)],[]⟩ F
def R7 (F:Nat)(b:List U0):Option Bool:=.bind (b0e F b) fun a=>some (decide ((a.length:Int)>0))
def A7 (F:Nat):Sm en.D:=⟨68,[.d (.list (.st 0))],.d .bool,[],fun a=>R7 F a⟩
def v0A (F:Nat):=R0 [b0B F] 68 U1 F
def p09 (F:Nat)(d:List U0)(a:Int)(c:List Int)(j:Int)(h:Int×(List Bool)):Option (T0 (Int×(List Bool)) (List Bool)):=match h with
 | (b,e)=>if decide (b<j)then .bind (α:=List Bool) (if y0 (L1 d (gt c a) (W (a+1))) b then let i:=((gt (L1 d (gt c a) (W (a+1))) b).Kind)==7;
    if i then if decide (0<=(gt (L1 d (gt c a) (W (a+1))) b).N)&&decide ((gt (L1 d (gt c a) (W (a+1))) b).N<10)then let g:=e.set ((gt (L1 d (gt c a) (W (a+1))) b).N).toNat true;
      some g else none else some e else none) fun f=>some (.next (W (b+1),f))else some (.done e)
def x0Q (F:Nat)(d:List Bool)(c:(List Int)×Int):Option (T0 ((List Int)×Int) (List Int)):=match c with
 | (b,a)=>if decide (a<10)then .bind (α:=List Int) (if decide (0<=a)&&decide (a<10)then if gt d a then if C1 8 b [a]then some (b++[a])else none else some b else none) fun e=>some (.next (e,W (a+1)))else some (.done b)
def g0O (F:Nat)(c:List U0)(a:Int):Option (List Int):=.bind (b0e F c) fun b=>.bind (if decide (a<0)then some true else some (decide (a>=(b.length:Int)))) fun d=>if d then some []else if y0 b a then if C3 c (gt b a) (W (a+1))then let g:=((L1 c (gt b a) (W (a+1))).length:Int);
    .bind (α:=List Bool) (iter (p09 F c a b g) F (0,[false,false,false,false,false,false,false,false,false,false])) fun f=>.bind (α:=List Int) (iter (x0Q F f) F ([],0)) fun e=>some e else none else none
def e01 (F:Nat):Sm en.D:=⟨101,[.d (.list (.st 0)),.d (.int .i64)],.own 3 (.int .i64),[],fun a=>g0O F a.1 a.2⟩
def u0x (F:Nat):=R0 [b0B F] 101 ⟨[(10,[(.nrm,⟨[],[(1,.box 232 [.d (.arr 10 .bool)])]⟩)]),(17,[(.nrm,⟨[(9,.own 3 (.int .i64))],[(3,.any)]⟩)])],[(13,⟨[(9,.own 3 (.int .i64)),(41,.d (.int .i64))],[]⟩,[(.ex 2,⟨[(9,.own 3 (.int .i64)),(41,.any)],[]⟩)]),(6,⟨[(30,.d (.int .i64))],[(1,.box 232 [.d (.arr 10 .bool)])]⟩,[(.ex 0,⟨[(30,.any)],[(1,.box 232 [.d (.arr 10 .bool)])]⟩)])],[(2,3,7,⟨[(15,.any),(20,.d .bool)],[]⟩)],[]⟩ F
def u0B (F:Nat)(b:List Int)(c:Int×Int):Option (T0 (Int×Int) Int):=match c with
 | (d,a)=>if decide (a<(b.length:Int))then if y0 b a then some (.next (gt b a,W (a+1)))else none else some (.done d)
def m0R (F:Nat)(a:List U0):Option Int:=.bind (g0O F a (W ((a.length:Int)-1))) fun c=>.bind (α:=Int) (iter (u0B F c) F (0,0)) fun b=>some b
def j0B (F:Nat):Sm en.D:=⟨69,[.d (.list (.st 0))],.d (.int .i64),[],fun a=>m0R F a⟩
def q0L (F:Nat):=R0 [e01 F] 69 ⟨[],[(3,⟨[(3,.d (.int .i64)),(12,.d (.int .i64))],[]⟩,[(.ex 0,⟨[(3,.d (.int .i64)),(12,.any)],[]⟩)])],[],[]⟩ F
def c08 (F:Nat)(a:List U0):Option Int:=.bind (R7 F a) fun b=>if !b then some 0 else .bind (m0R F a) fun c=>some (W (1+(W (2*c))))
def c05 (F:Nat):Sm en.D:=⟨36,[.d (.list (.st 0))],.d (.int .i64),[],fun a=>c08 F a⟩
def v0q (F:Nat):=R0 [A7 F,j0B F] 36 U1 F
def w0O (F:Nat)(c:List U0)(d:(List Int)×Int):Option (T0 ((List Int)×Int) (List Int)):=match d with
 | (b,a)=>if decide (a<(c.length:Int))then .bind (α:=List Int) (if y0 c a then if((gt c a).Kind)==2 then if C1 8 b [a]then some (b++[a])else none else some b else none) fun e=>some (.next (e,W (a+1)))else some (.done b)
def a0I (F:Nat)(a:List U0):Option (List Int):=.bind (R7 F a) fun c=>if !c then some []else .bind (α:=List Int) (iter (w0O F a) F ([],0)) fun b=>some b
def b0f (F:Nat):Sm en.D:=⟨37,[.d (.list (.st 0))],.own 3 (.int .i64),[],fun a=>a0I F a⟩
def w0S (F:Nat):=R0 [A7 F] 37 ⟨[(9,[(.nrm,⟨[(3,.own 3 (.int .i64))],[(0,.any)]⟩)])],[(5,⟨[(3,.own 3 (.int .i64)),(11,.d (.int .i64))],[]⟩,[(.ex 0,⟨[(3,.own 3 (.int .i64)),(11,.any)],[]⟩)])],[],[]⟩ F
def I0m (F:Nat)(a:List U0):Option (List U0):=if C1 64 ([]:List U0) a then some a else none
def M0s (F:Nat):Sm en.D:=⟨142,[.d (.list (.st 0))],.own 145 (.st 0),[],fun a=>I0m F a⟩
def M0X (F:Nat):X1 en:=⟨[],fun _=>⟨[],[],[],[4]⟩,F,[]⟩
def r01 (F:Nat)(b:List Int)(d:(List Z2)×Int):Option (T0 ((List Z2)×Int) (List Z2)):=match d with
 | (c,a)=>if decide (a<(b.length:Int))then if y0 b a then if C1 16 c [(⟨3,gt b a⟩:Z2)]then some (.next (c++[(⟨3,gt b a⟩:Z2)],W (a+1)))else none else none else some (.done c)
def l05 (F:Nat)(b:List U0)(a:Int):Option (List Z2):=.bind (if decide (a<0)then some true else some (decide ((W (a.tdiv 2))>=(b.length:Int)))) fun c=>if c then some []else if y0 b (W (a.tdiv 2))then .bind (if((gt b (W (a.tdiv 2))).Kind)==7 then some ((a.tmod 2)==0)else some false) fun e=>if e then some [(⟨1,(gt b (W (a.tdiv 2))).N⟩:Z2)]else if((gt b (W (a.tdiv 2))).Kind)==7 then some [(⟨2,(gt b (W (a.tdiv 2))).N⟩:Z2)]else .bind (if((gt b (W (a.tdiv 2))).Kind)==8 then some ((a.tmod 2)==0)else some false) fun f=>if f then .bind (g0O F b (W (a.tdiv 2))) fun d=>.bind (α:=List Z2) (iter (r01 F d) F ([],0)) fun g=>some g else some []else none
def k0b (F:Nat):Sm en.D:=⟨180,[.d (.list (.st 0)),.d (.int .i64)],.own 237 (.st 16),[],fun a=>l05 F a.1 a.2⟩
def r0W (F:Nat):X1 en:=⟨[e01 F],fun a=>if Nat.beq a 180 then⟨[],[(11,⟨[(6,.own 237 (.st 16)),(64,.d (.int .i64))],[]⟩,[(.ex 1,⟨[(6,.own 237 (.st 16)),(64,.any)],[]⟩)])],[(1,3,8,⟨[(11,.any),(17,.d .bool)],[]⟩),(4,4,7,⟨[(27,.any),(31,.d .bool)],[]⟩),(8,4,7,⟨[(54,.any),(58,.d .bool)],[]⟩)],[]⟩else if Nat.beq a 201 then U1 else U1,F,[]⟩
def w0y (F:Nat)(f:List U0)(c:List Int)(e:(List Z2)×Int):Option (T0 ((List Z2)×Int) (List Z2)):=match e with
 | (b,a)=>if decide (a<(c.length:Int))then if y0 c a then .bind (l05 F f (gt c a)) fun d=>if C1 16 b d then some (.next (b++d,W (a+1)))else none else none else some (.done b)
def f0M (F:Nat)(a:List U0)(c:List Int):Option (List Z2):=.bind (R7 F a) fun b=>if !b then some []else .bind (α:=List Z2) (iter (w0y F a c) F ([],0)) fun d=>some d
def f01 (F:Nat):Sm en.D:=⟨147,[.d (.list (.st 0)),.d (.list (.int .i64))],.own 237 (.st 16),[],fun a=>f0M F a.1 a.2⟩
def q03 (F:Nat):=R0 [A7 F,k0b F] 147 ⟨[],[(5,⟨[(5,.own 237 (.st 16)),(13,.d (.int .i64))],[]⟩,[(.ex 0,⟨[(5,.own 237 (.st 16)),(13,.any)],[]⟩)])],[],[]⟩ F
def J0m (F:Nat)(f:List U0)(b:List E1)(e:(List z05)×Int):Option (T0 ((List z05)×Int) (List z05)):=match e with
 | (c,a)=>if decide (a<(b.length:Int))then if y0 b a then .bind (f0M F f ((gt b a).Steps)) fun d=>if C1 64 c [(⟨gt b a,d⟩:z05)]then some (.next (c++[(⟨gt b a,d⟩:z05)],W (a+1)))else none else none else some (.done c)
def H0I (F:Nat)(c:List U0)(b:List E1):Option (List z05):=.bind (α:=List z05) (iter (J0m F c b) F ([],0)) fun a=>some a
def L0b (F:Nat):Sm en.D:=⟨143,[.d (.list (.st 0)),.d (.list (.st 10))],.own 208 (.st 17),[],fun a=>H0I F a.1 a.2⟩
def X0x (F:Nat):=R0 [f01 F] 143 ⟨[],[(3,⟨[(5,.own 208 (.st 17)),(10,.d (.int .i64))],[]⟩,[(.ex 0,⟨[(5,.own 208 (.st 17)),(10,.any)],[]⟩)])],[],[]⟩ F
def s01 (F:Nat)(b:List U0)(e:Int×(List Int)):Option (T0 (Int×(List Int)) (List Int)):=match e with
 | (a,c)=>if decide (a<(b.length:Int))then .bind (α:=List Int) (if y0 b a then .bind (α:=List Int) (if decide (((gt b a).A)>=0)then if y0 c ((gt b a).A)then some (c.set ((gt b a).A).toNat a)else none else some c) fun d=>if decide (((gt b a).B)>=0)then if y0 d ((gt b a).B)then some (d.set ((gt b a).B).toNat a)else none else some d else none) fun f=>some (.next (W (a+1),f))else some (.done c)
def d0T (F:Nat)(a:List U0):Option (List Int):=.bind (R7 F a) fun d=>if !d then some []else if S5 8 (a.length:Int)then if y0 (List.replicate (a.length:Int).toNat 0:List Int) (W ((a.length:Int)-1))then let c:=(List.replicate (a.length:Int).toNat 0:List Int).set (W ((a.length:Int)-1)).toNat (-1);
    .bind (α:=List Int) (iter (s01 F a) F (0,c)) fun b=>some b else none else none
def b0Q (F:Nat):Sm en.D:=⟨193,[.d (.list (.st 0))],.own 3 (.int .i64),[],fun a=>d0T F a⟩
def q0J (F:Nat):=R0 [A7 F] 193 ⟨[(10,[(.nrm,⟨[],[(0,.own 3 (.int .i64))]⟩)]),(12,[(.nrm,⟨[],[(0,.own 3 (.int .i64))]⟩)])],[(6,⟨[(19,.d (.int .i64))],[(0,.own 3 (.int .i64))]⟩,[(.ex 0,⟨[(19,.any)],[(0,.own 3 (.int .i64))]⟩)])],[],[]⟩ F
def q0N (F:Nat)(c:List Int)(f:Int×(List Int)):Option (T0 (Int×(List Int)) (List Int)):=match f with
 | (a,b)=>if decide (a>=0)then .bind (α:=List Int) (if y0 b a then if y0 c a then if decide ((gt c a)>=0)then if y0 (b.set a.toNat 1) a then if y0 c a then if y0 (b.set a.toNat 1) (gt c a)then let e:=W ((gt (b.set a.toNat 1) a)+(gt (b.set a.toNat 1) (gt c a)));
         if y0 (b.set a.toNat 1) a then some ((b.set a.toNat 1).set a.toNat e)else none else none else none else none else some (b.set a.toNat 1)else none else none) fun d=>some (.next (W (a-1),d))else some (.done b)
def i0V (F:Nat)(c:List U0):Option (List Int):=.bind (d0T F c) fun a=>if S5 8 (a.length:Int)then .bind (α:=List Int) (iter (q0N F a) F (W ((a.length:Int)-1),(List.replicate (a.length:Int).toNat 0:List Int))) fun b=>some b else none
def f0j (F:Nat):Sm en.D:=⟨185,[.d (.list (.st 0))],.own 3 (.int .i64),[],fun a=>i0V F a⟩
def q0a (F:Nat):=R0 [b0Q F] 185 ⟨[(5,[(.nrm,⟨[],[(1,.own 3 (.int .i64))]⟩)])],[(4,⟨[(5,.d (.int .i64))],[(1,.own 3 (.int .i64))]⟩,[(.ex 0,⟨[(5,.any)],[(1,.own 3 (.int .i64))]⟩)])],[],[]⟩ F
def x0b (F:Nat)(d:Int)(c:Int×(List Int)):Option (T0 (Int×(List Int)) (List Int)):=match c with
 | (a,b)=>if decide (a<d)then if y0 b a then some (.next (W (a+1),b.set a.toNat (-1)))else none else some (.done b)
def w0J (F:Nat)(b:List Int)(d:Int×(List Int)):Option (T0 (Int×(List Int)) (List Int)):=match d with
 | (a,c)=>if decide (a<(b.length:Int))then if y0 b a then if y0 c (gt b a)then some (.next (W (a+1),c.set (gt b a).toNat a))else none else none else some (.done c)
def l0A (F:Nat)(a:List U0):Option (List Int):=.bind (R7 F a) fun d=>if !d then some []else if S5 8 (a.length:Int)then let c:=((List.replicate (a.length:Int).toNat 0:List Int).length:Int);
   .bind (α:=List Int) (iter (x0b F c) F (0,(List.replicate (a.length:Int).toNat 0:List Int))) fun b=>.bind (a0I F a) fun e=>.bind (α:=List Int) (iter (w0J F e) F (0,b)) fun f=>some f else none
def g0Y (F:Nat):Sm en.D:=⟨194,[.d (.list (.st 0))],.own 3 (.int .i64),[],fun a=>l0A F a⟩
def w0o (F:Nat):=R0 [b0f F,A7 F] 194 ⟨[],[(10,⟨[(25,.d (.int .i64))],[(0,.own 3 (.int .i64))]⟩,[(.ex 2,⟨[(25,.any)],[(0,.own 3 (.int .i64))]⟩)]),(5,⟨[(15,.d (.int .i64))],[(0,.own 3 (.int .i64))]⟩,[(.ex 0,⟨[(15,.any)],[(0,.own 3 (.int .i64))]⟩)])],[],[]⟩ F
def t0q (F:Nat)(b:List U0)(g:Int×(List Bool)):Option (T0 (Int×(List Bool)) (List Bool)):=match g with
 | (a,c)=>if decide (a<(b.length:Int))then .bind (α:=List Bool) (if y0 b a then .bind (if((gt b a).Kind)==1 then some (((gt b a).Kind)==1)else if((gt b a).Kind)==5 then some (((gt b a).Kind)==5)else some (((gt b a).Kind)==6)) fun h=>if h then if y0 c a then some (c.set a.toNat true)else none else if((gt b a).Kind)==3 then if y0 c ((gt b a).A)then .bind (if gt c ((gt b a).A)then if y0 c ((gt b a).B)then some (gt c ((gt b a).B))else none else some false) fun i=>if y0 c a then some (c.set a.toNat i)else none else none else if((gt b a).Kind)==4 then if y0 c ((gt b a).A)then .bind (if gt c ((gt b a).A)then some true else if y0 c ((gt b a).B)then some (gt c ((gt b a).B))else none) fun f=>if y0 c a then some (c.set a.toNat f)else none else none else .bind (if((gt b a).Kind)==7 then some (((gt b a).Kind)==7)else some (((gt b a).Kind)==8)) fun e=>if e then if y0 c ((gt b a).A)then if y0 c a then some (c.set a.toNat (gt c ((gt b a).A)))else none else none else some c else none) fun d=>some (.next (W (a+1),d))else some (.done c)
def e0l (F:Nat)(a:List U0):Option (List Bool):=.bind (R7 F a) fun b=>if !b then some []else if S5 1 (a.length:Int)then .bind (α:=List Bool) (iter (t0q F a) F (0,(List.replicate (a.length:Int).toNat false:List Bool))) fun c=>some c else none
def c0y (F:Nat):Sm en.D:=⟨195,[.d (.list (.st 0))],.own 4 .bool,[],fun a=>e0l F a⟩
def y0Y (F:Nat):=R0 [A7 F] 195 ⟨[(11,[(.nrm,⟨[(21,.d .bool)],[]⟩)]),(18,[(.nrm,⟨[(62,.d .bool)],[]⟩)]),(19,[(.nrm,⟨[],[(0,.own 4 .bool)]⟩)])],[(5,⟨[(14,.d (.int .i64))],[(0,.own 4 .bool)]⟩,[(.ex 0,⟨[(14,.any)],[(0,.own 4 .bool)]⟩)])],[(13,8,13,⟨[(37,.any),(43,.d .bool)],[]⟩),(15,8,13,⟨[(54,.any),(60,.d .bool)],[]⟩)],[]⟩ F
def i0z (F:Nat)(a:List U0):Option ((Unit⊕B5)×Bool):=.bind (R7 F a) fun f=>if !f then some ((.inl ()),false)else .bind (d0T F a) fun d=>.bind (i0V F a) fun c=>.bind (l0A F a) fun b=>.bind (e0l F a) fun e=>some ((.inr (⟨a,d,c,b,e⟩:B5)),true)
def f08 (F:Nat):Sm en.D:=⟨172,[.d (.list (.st 0))],.tup [.alt .nilp (.box 286 [.d (.st 31)]),.d .bool],[],fun a=>i0z F a⟩
def t0I (F:Nat):=R0 [A7 F,f0j F,b0Q F,g0Y F,c0y F] 172 U1 F
def y0S (F:Nat)(e:List E1)(d:Int×(List E1)):Option (T0 (Int×(List E1)) (List E1)):=match d with
 | (a,b)=>if decide (a<(e.length:Int))then if y0 b a then if S5 8 (((gt b a).Steps).length:Int)then if y0 b a then let c:=P2 (List.replicate (((gt b a).Steps).length:Int).toNat 0:List Int) ((gt b a).Steps);
     if y0 b a then some (.next (W (a+1),b.set a.toNat ({ gt b a with Steps:=c })))else none else none else none else none else some (.done b)
def j0p (F:Nat)(a:List E1):Option (List E1):=.bind (α:=List E1) (iter (y0S F a) F (0,a)) fun b=>some b
def g0u (F:Nat):Sm en.D:=⟨173,[.own 194 (.st 10)],.own 194 (.st 10),[],fun a=>j0p F a⟩
def v0X (F:Nat):=R0 [] 173 ⟨[],[(2,⟨[(7,.d (.int .i64))],[(0,.own 194 (.st 10))]⟩,[(.ex 0,⟨[(7,.any)],[(0,.own 194 (.st 10))]⟩)])],[],[]⟩ F
def a08 (F:Nat):Nat->(List U0)->(List Bool)->Int->(List Int)->Option (List Int)
 | 0,_,_,_,_=>none
 | e+1,b,c,a,d=>if C1 8 d [W (2*a)]then if y0 b a then .bind (α:=List Int) (if((gt b a).Kind)==3 then .bind (a08 F e b c ((gt b a).A) (d++[W (2*a)])) fun l=>.bind (a08 F e b c ((gt b a).B) l) fun k=>some k else if((gt b a).Kind)==4 then if y0 c ((gt b a).A)then if gt c ((gt b a).A)then .bind (a08 F e b c ((gt b a).A) (d++[W (2*a)])) fun h=>some h else .bind (a08 F e b c ((gt b a).B) (d++[W (2*a)])) fun j=>some j else none else .bind (if((gt b a).Kind)==7 then some (((gt b a).Kind)==7)else some (((gt b a).Kind)==8)) fun g=>if g then .bind (a08 F e b c ((gt b a).A) (d++[W (2*a)])) fun i=>some i else some (d++[W (2*a)])) fun f=>if C1 8 f [W ((W (2*a))+1)]then some (f++[W ((W (2*a))+1)])else none else none else none
def e0o (F b:Nat):Sm en.D:=⟨200,[.d (.list (.st 0)),.d (.list .bool),.d (.int .i64),.own 3 (.int .i64)],.own 3 (.int .i64),[],fun a=>a08 F b a.1 a.2.1 a.2.2.1 a.2.2.2⟩
def x0Z (F a:Nat):=R0 [e0o F a] 200 ⟨[(12,[(.nrm,⟨[(53,.d .bool)],[]⟩)]),(13,[(.nrm,⟨[(3,.own 3 (.int .i64))],[(2,.any)]⟩)])],[],[],[]⟩ F
def g0H (F:Nat)(c:List U0)(a:Int):Option (List Int):=.bind (e0l F c) fun b=>.bind (if decide (a<0)then some true else some (decide (a>=(b.length:Int)))) fun d=>.bind (if d then some true else if y0 b a then some (!(gt b a))else none) fun e=>if e then some []else .bind (a08 F F c b a []) fun f=>some f
def c06 (F:Nat):Sm en.D:=⟨179,[.d (.list (.st 0)),.d (.int .i64)],.own 3 (.int .i64),[],fun a=>g0H F a.1 a.2⟩
def q0n (F:Nat):=R0 [c0y F,e0o F F] 179 ⟨[],[],[(2,3,7,⟨[(10,.any),(15,.d .bool)],[]⟩),(2,9,14,⟨[(16,.any),(22,.d .bool)],[]⟩)],[]⟩ F
def d0i (F:Nat)(a:List Int)(b:List Int):Option (List Int):=if decide ((a.length:Int)=(a.length:Int))&&(C3 a 0 (a.length:Int)&&(decide ((a.length:Int)<=(a.length:Int))&&decide ((a.length:Int)<=(a.length:Int))))then if C1 8 (L1 a 0 (a.length:Int)) b then some ((L1 a 0 (a.length:Int))++b)else none else none
def e0R (F:Nat):Sm en.D:=⟨196,[.d (.list (.int .i64)),.d (.list (.int .i64))],.d (.list (.int .i64)),[],fun a=>d0i F a.1 a.2⟩
def q00 (F:Nat):=R0 [] 196 U1 F
def F9 (F:Nat):Nat->B5->Int->(List Int)->(List E1)->Option (List E1)
 | 0,_,_,_,_=>none
 | e+1,a,b,j,d=>if y0 a.l b then .bind (d0i F j [W (2*b)]) fun c=>.bind (α:=(List E1)⊕(List E1)) (if((gt a.l b).Kind)==2 then if y0 a.index b then if C1 40 d [(⟨gt a.index b,0,c⟩:E1)]then some (.inl (d++[(⟨gt a.index b,0,c⟩:E1)]))else none else none else if((gt a.l b).Kind)==3 then .bind (F9 F e a ((gt a.l b).A) c d) fun f=>if y0 a.can ((gt a.l b).A)then if gt a.can ((gt a.l b).A)then .bind (g0H F a.l ((gt a.l b).A)) fun q=>.bind (d0i F c q) fun h=>.bind (F9 F e a ((gt a.l b).B) h f) fun n=>some (.inr n)else some (.inr f)else none else if((gt a.l b).Kind)==4 then .bind (F9 F e a ((gt a.l b).A) c d) fun o=>.bind (F9 F e a ((gt a.l b).B) c o) fun p=>some (.inr p)else .bind (if((gt a.l b).Kind)==5 then some (((gt a.l b).Kind)==5)else if((gt a.l b).Kind)==6 then some (((gt a.l b).Kind)==6)else if((gt a.l b).Kind)==7 then some (((gt a.l b).Kind)==7)else some (((gt a.l b).Kind)==8)) fun i=>if i then .bind (F9 F e a ((gt a.l b).A) c d) fun k=>some (.inr k)else some (.inr d)) fun g=>match g with
  | .inl m=>some m
  | .inr r=>some r else none
def d0a (F b:Nat):Sm en.D:=⟨174,[.d (.ptr (.st 31)),.d (.int .i64),.d (.list (.int .i64)),.own 194 (.st 10)],.own 194 (.st 10),[],fun a=>F9 F b a.1 a.2.1 a.2.2.1 a.2.2.2⟩
def u0d (F a:Nat):=R0 [d0a F a,c06 F,e0R F] 174 ⟨[(16,[(.nrm,⟨[(82,.d .bool)],[]⟩)]),(17,[(.ret,⟨[(8,.own 194 (.st 10))],[(0,.any)]⟩),(.nrm,⟨[(3,.own 194 (.st 10))],[(0,.any)]⟩)])],[],[],[]⟩ F
def o0v (F:Nat)(b:List U0)(a:Int):Option (List E1):=.bind (α:=(Unit⊕B5)×Bool) (.bind (i0z F b) fun(m,d)=>match m with
  | .inl _=>some ((.inl ()),d)
  | .inr i=>some ((.inr i),d)) fun(j,c)=>match j with
 | .inl _=>.bind (if !c then some true else some (decide (a<0))) fun k=>.bind (if k then some true else some (decide (a>=(b.length:Int)))) fun g=>if g then some []else none
 | .inr e=>.bind (if !c then some true else some (decide (a<0))) fun f=>.bind (if f then some true else some (decide (a>=(b.length:Int)))) fun h=>if h then some []else .bind (F9 F F e a [] []) fun l=>.bind (j0p F l) fun n=>some n
def j0n (F:Nat):Sm en.D:=⟨144,[.d (.list (.st 0)),.d (.int .i64)],.own 194 (.st 10),[],fun a=>o0v F a.1 a.2⟩
def r0q (F:Nat):=R0 [f08 F,g0u F,d0a F F] 144 ⟨[(2,[(.nrm,⟨[(5,.alt .nilp (.box 286 [.d (.st 31)])),(6,.d .bool)],[]⟩)])],[],[(2,3,5,⟨[(14,.any),(17,.d .bool)],[]⟩),(2,7,11,⟨[(18,.any),(23,.d .bool)],[]⟩)],[]⟩ F
def h0N (F:Nat)(c:List U0)(a:Int):Option ((Unit⊕B5)×Int×Bool):=.bind (α:=(Unit⊕B5)×Bool) (.bind (i0z F c) fun(l,f)=>match l with
  | .inl _=>some ((.inl ()),f)
  | .inr j=>some ((.inr j),f)) fun(k,e)=>match k with
 | .inl _=>if !e then some ((.inl ()),0,false)else .bind (a0I F c) fun b=>.bind (if decide (a<0)then some true else some (decide (a>=(b.length:Int)))) fun i=>if i then some ((.inl ()),0,false)else if y0 b a then some ((.inl ()),gt b a,true)else none
 | .inr g=>if !e then some ((.inl ()),0,false)else .bind (a0I F c) fun d=>.bind (if decide (a<0)then some true else some (decide (a>=(d.length:Int)))) fun h=>if h then some ((.inl ()),0,false)else if y0 d a then some ((.inr g),gt d a,true)else none
def f02 (F:Nat):Sm en.D:=⟨175,[.d (.list (.st 0)),.d (.int .i64)],.tup [.alt .nilp (.box 286 [.d (.st 31)]),.d (.int .i64),.d .bool],[],fun a=>h0N F a.1 a.2⟩
def w0x (F:Nat):=R0 [b0f F,f08 F] 175 ⟨[(2,[(.nrm,⟨[(7,.alt .nilp (.box 286 [.d (.st 31)])),(8,.d .bool)],[]⟩)])],[],[(5,3,7,⟨[(21,.any),(26,.d .bool)],[]⟩)],[]⟩ F
def s0X (F:Nat)(e:List E1)(b:List E1)(c:Int)(d:Int):Option (T0 Int (Int⊕Unit)):=match d with
 | a=>if decide (a<(b.length:Int))then if y0 b a then if((gt b a).To)==((gt e c).To)then some (.done (.inl a))else some (.next (W (a+1)))else none else some (.done (.inr ()))
def q0Q (F:Nat)(e:B5)(d:Int)(b:List E1)(g:(List E1)×Int):Option (T0 ((List E1)×Int) (List E1)):=match g with
 | (c,a)=>if decide (a<(b.length:Int))then .bind (α:=List E1) (if y0 b a then .bind (.bind (α:=Int⊕Unit) (iter (s0X F b c a) F 0) fun f=>match f with
     | .inl k=>some (!(decide (k>=0)))
     | .inr _=>some (!(decide ((-1)>=0)))) fun i=>if i then if y0 e.deep d then if C1 40 c [(⟨(gt b a).To,gt e.deep d,(gt b a).Steps⟩:E1)]then let j:=c++[(⟨(gt b a).To,gt e.deep d,(gt b a).Steps⟩:E1)];
       some j else none else none else some c else none) fun h=>some (.next (h,W (a+1)))else some (.done c)
def h0E (F:Nat)(a:B5)(b:Int)(e:Int)(d:List Int)(c:List E1):Option (List E1):=.bind (F9 F F a e d []) fun g=>.bind (α:=List E1) (iter (q0Q F a b g) F (c,0)) fun f=>some f
def j0Z (F:Nat):Sm en.D:=⟨197,[.d (.ptr (.st 31)),.d (.int .i64),.d (.int .i64),.d (.list (.int .i64)),.own 194 (.st 10)],.own 194 (.st 10),[],fun a=>h0E F a.1 a.2.1 a.2.2.1 a.2.2.2.1 a.2.2.2.2⟩
def q0f (F:Nat):X1 en:=⟨[d0a F F],fun a=>if Nat.beq a 197 then⟨[(5,[(.nrm,⟨[(25,.d .bool)],[]⟩)]),(7,[(.nrm,⟨[(4,.own 194 (.st 10))],[(2,.any)]⟩)])],[(2,⟨[(4,.own 194 (.st 10)),(18,.d (.int .i64))],[(0,.any)]⟩,[(.ex 0,⟨[(4,.own 194 (.st 10)),(18,.any)],[(0,.any)]⟩)])],[],[]⟩else if Nat.beq a 205 then U1 else if Nat.beq a 206 then U1 else if Nat.beq a 220 then⟨[],[(2,⟨[(8,.d (.int .i64))],[]⟩,[(.ret,⟨[(4,.d (.int .i64)),(8,.any)],[]⟩),(.ex 0,⟨[(8,.any)],[]⟩)])],[],[]⟩else U1,F,[]⟩
def v0x (F:Nat)(b:B5)(j:Int×(List Int)×(List E1)×Int):Option (T0 (Int×(List Int)×(List E1)×Int) ((List E1)⊕((List Int)×(List E1)))):=match j with
 | (h,c,d,a)=>if decide (a>=0)then if y0 b.l a then .bind (α:=(List E1)⊕((List Int)×(List E1))) (.bind (if((gt b.l a).Kind)==3 then some (((gt b.l a).A)==h)else some false) fun k=>if k then .bind (h0E F b a ((gt b.l a).B) c d) fun e=>if y0 b.can ((gt b.l a).B)then if !(gt b.can ((gt b.l a).B))then some (.inl e)else .bind (g0H F b.l ((gt b.l a).B)) fun p=>.bind (d0i F c p) fun i=>some (.inr (i,e))else none else if((gt b.l a).Kind)==5 then .bind (h0E F b a ((gt b.l a).A) c d) fun m=>some (.inr (c,m))else some (.inr (c,d))) fun f=>match f with
   | .inl n=>some (.done (.inl n))
   | .inr (o,q)=>.bind (d0i F o [W ((W (2*a))+1)]) fun g=>if y0 b.up a then some (.next (a,g,q,gt b.up a))else none else none else some (.done (.inr (c,d)))
def k0q (F:Nat)(b:B5)(a:Int):Option ((List E1)×(List Int)):=if y0 b.up a then .bind (α:=(List E1)⊕((List Int)×(List E1))) (iter (v0x F b) F (a,[W ((W (2*a))+1)],[],gt b.up a)) fun c=>match c with
  | .inl d=>some (d,[])
  | .inr (f,e)=>some (e,f)else none
def e0C (F:Nat):Sm en.D:=⟨176,[.d (.ptr (.st 31)),.d (.int .i64)],.tup [.own 194 (.st 10),.d (.list (.int .i64))],[],fun a=>k0q F a.1 a.2⟩
def q08 (F:Nat):=R0 [c06 F,e0R F,j0Z F] 176 ⟨[(14,[(.ret,⟨[(4,.own 194 (.st 10)),(5,.nil),(7,.any)],[(1,.any)]⟩),(.nrm,⟨[(6,.d (.list (.int .i64))),(7,.own 194 (.st 10))],[(1,.any)]⟩)])],[(4,⟨[(1,.d (.int .i64)),(6,.d (.list (.int .i64))),(7,.own 194 (.st 10)),(8,.d (.int .i64))],[(0,.any)]⟩,[(.ret,⟨[(1,.any),(4,.own 194 (.st 10)),(5,.nil),(6,.any),(7,.any),(8,.any)],[(0,.any)]⟩),(.ex 0,⟨[(1,.any),(6,.d (.list (.int .i64))),(7,.own 194 (.st 10)),(8,.any)],[(0,.any)]⟩)])],[(7,4,8,⟨[(42,.any),(47,.d .bool)],[]⟩)],[]⟩ F
def k0X (F:Nat)(b:List E1):Option (List E1):=if b07 (fun a:E1=>a.To) b then some (K5 (fun a:E1=>a.To) b)else none
def m0t (F:Nat):Sm en.D:=⟨177,[.own 194 (.st 10),.fn 178 []],.tup [],[(0,.own 194 (.st 10))],fun a=>k0X F a⟩
def o04 (F:Nat)(j:List U0)(i:Int):Option (List E1):=.bind (α:=(Unit⊕B5)×Int×Bool) (.bind (h0N F j i) fun(e,a,b)=>match e with
  | .inl _=>some ((.inl ()),a,b)
  | .inr h=>some ((.inr h),a,b)) fun(l,f,c)=>match l with
 | .inl _=>if !c then some []else none
 | .inr d=>if !c then some []else .bind (k0q F d f) fun(g,n)=>.bind (k0X F g) fun k=>.bind (j0p F k) fun m=>some m
def g0U (F:Nat):Sm en.D:=⟨145,[.d (.list (.st 0)),.d (.int .i64)],.own 194 (.st 10),[],fun a=>o04 F a.1 a.2⟩
def x0I (F:Nat):=R0 [g0u F,f02 F,e0C F,m0t F] 145 ⟨[(2,[(.nrm,⟨[(5,.alt .nilp (.box 286 [.d (.st 31)])),(6,.d (.int .i64)),(7,.d .bool)],[]⟩)])],[],[],[]⟩ F
def g0v (F:Nat)(a:List U0)(f:Int):Option (E1×Bool):=.bind (α:=List Int) (if f==(-1)then .bind (g0H F a (W ((a.length:Int)-1))) fun m=>some m else .bind (α:=(Unit⊕B5)×Int×Bool) (.bind (h0N F a f) fun(i,b,c)=>match i with
    | .inl _=>some ((.inl ()),b,c)
    | .inr k=>some ((.inr k),b,c)) fun(l,j,e)=>match l with
   | .inl _=>if e then none else some []
   | .inr h=>if e then .bind (k0q F h j) fun(n,g)=>some g else some []) fun d=>if(d.length:Int)==0 then some ((⟨0,0,[]⟩:E1),false)else some ((⟨(-1),0,d⟩:E1),true)
def f06 (F:Nat):Sm en.D:=⟨146,[.d (.list (.st 0)),.d (.int .i64)],.tup [.d (.st 10),.d .bool],[],fun a=>g0v F a.1 a.2⟩
def w0A (F:Nat):=R0 [f02 F,e0C F,c06 F] 146 ⟨[(5,[(.nrm,⟨[(7,.alt .nilp (.box 286 [.d (.st 31)])),(8,.d (.int .i64)),(9,.d .bool)],[]⟩)]),(7,[(.nrm,⟨[(6,.d (.list (.int .i64)))],[]⟩)])],[],[],[]⟩ F
def G0W (F:Nat)(b:List U0)(c:List Int)(p:(Int×((List U0)×(List (List Int))×(List z05)×(List (List z05))×(List z05)×(List Bool)×Int×E1))):Option (T0 (Int×((List U0)×(List (List Int))×(List z05)×(List (List z05))×(List z05)×(List Bool)×Int×E1)) ((List U0)×(List (List Int))×(List z05)×(List (List z05))×(List z05)×(List Bool)×Int×E1)):=match p with
 | (a,(j,g,i,f,e,h,m,l))=>if decide (a<(c.length:Int))then if y0 c a then if y0 b (gt c a)then if C1 32 g [(gt b (gt c a)).Set]then .bind (o04 F b a) fun q=>.bind (H0I F b q) fun k=>if C1 24 f [k]then .bind (g0v F b a) fun(d,n)=>.bind (f0M F b d.Steps) fun o=>if C1 64 e [(⟨d,o⟩:z05)]then if C1 1 h [n]then some (.next (W (a+1),(j,g++[(gt b (gt c a)).Set],i,f++[k],e++[(⟨d,o⟩:z05)],h++[n],m,l)))else none else none else none else none else none else none else some (.done (j,g,i,f,e,h,m,l))
def I0H (F:Nat)(a:List U0):Option D0S:=.bind (I0m F a) fun j=>.bind (o0v F a (W ((a.length:Int)-1))) fun c=>.bind (H0I F a c) fun k=>.bind (c08 F a) fun e=>.bind (a0I F a) fun p=>.bind (α:=(List U0)×(List (List Int))×(List z05)×(List (List z05))×(List z05)×(List Bool)×Int×E1) (iter (G0W F a p) F (0,(j,[],k,[],[],[],e,(⟨0,0,[]⟩:E1)))) fun(n,l,i,h,m,d,g,q)=>.bind (g0v F a (-1)) fun(b,f)=>.bind (f0M F a b.Steps) fun o=>some (⟨n,l,i,h,m,d,o,f,g,b⟩:D0S)
def J0O (F:Nat):Sm en.D:=⟨106,[.d (.list (.st 0))],.box 196 [.d (.st 18)],[],fun a=>I0H F a⟩
def X0B (F:Nat):=R0 [c05 F,b0f F,M0s F,L0b F,j0n F,g0U F,f06 F,f01 F] 106 ⟨[],[(3,⟨[(24,.d (.int .i64))],[(0,.any),(2,.any),(3,.box 196 [.own 145 (.st 0),.own 143 (.arr 4 (.int .u64)),.own 208 (.st 17),.own 190 (.list (.st 17)),.own 208 (.st 17),.own 4 .bool,.nil,.kb false,.d (.int .i64),.d (.st 10)])]⟩,[(.ex 0,⟨[(24,.any)],[(0,.any),(2,.any),(3,.box 196 [.own 145 (.st 0),.own 143 (.arr 4 (.int .u64)),.own 208 (.st 17),.own 190 (.list (.st 17)),.own 208 (.st 17),.own 4 .bool,.nil,.kb false,.d (.int .i64),.d (.st 10)])]⟩)])],[],[]⟩ F
def H06 (F:Nat)(a:List U0):Option ((Unit⊕h0r)×Int):=.bind (R7 F a) fun c=>if !c then some ((.inl ()),11)else .bind (I0H F a) fun b=>some ((.inr (⟨b,0,0,[],[],(⟨[],[]⟩:P1)⟩:h0r)),0)
def J0N (F:Nat):Sm en.D:=⟨78,[.d (.list (.st 0))],.tup [.alt .nilp (.box 158 [.d (.st 19)]),.d (.int .i64)],[],fun a=>H06 F a⟩
def U0u (F:Nat):=R0 [A7 F,J0O F] 78 U1 F
def D0G (F:Nat)(a:List Int):Option (List Int):=if C1 8 ([]:List Int) a then some a else none
def F0X (F:Nat):Sm en.D:=⟨130,[.d (.list (.int .i64))],.own 3 (.int .i64),[],fun a=>D0G F a⟩
def N0L (F:Nat):X1 en:=⟨[],fun _=>⟨[],[],[],[4]⟩,F,[]⟩
def G4 (d c:Int)(b:List Int)(a:Z2):List Int:=if a.Group<1\/((b.length:Int)-1) / 2<a.Group then b else if a.Kind=1 then b.set (2*a.Group-1).toNat d else if a.Kind=2 then b.set (2*a.Group).toNat d else if a.Kind=3 then(b.set (2*a.Group-1).toNat c).set (2*a.Group).toNat c else b
def b0A (F:Nat)(a:List Int)(marks:List Z2)(c b:Int):Option (List Int):=if C1 8 ([]:List Int) a&&decide (marks.length<=1000000000)then some (marks.foldl (G4 c b) a)else none
def e0k (F:Nat):Sm en.D:=⟨107,[.d (.list (.int .i64)),.d (.list (.st 16)),.d (.int .i64),.d (.int .i64)],.own 3 (.int .i64),[],fun a=>b0A F a.1 a.2.1 a.2.2.1 a.2.2.2⟩
def c03 (F:Nat)(a:Int)(b:Int):Option (Int×Int):=let c:=IntKind.u64.wrap ((R1 .u64 a 4294967295)*(R1 .u64 b 4294967295));
 let d:=IntKind.u64.wrap ((shr .u64 a 32)*(R1 .u64 b 4294967295));
 let h:=R1 .u64 (IntKind.u64.wrap (d+(shr .u64 c 32))) 4294967295;
 let g:=shr .u64 (IntKind.u64.wrap (d+(shr .u64 c 32))) 32;
 let i:=IntKind.u64.wrap ((R1 .u64 a 4294967295)*(shr .u64 b 32));
 let e:=IntKind.u64.wrap ((shr .u64 a 32)*(shr .u64 b 32));
 let f:=IntKind.u64.wrap ((IntKind.u64.wrap (e+g))+(shr .u64 (IntKind.u64.wrap (h+i)) 32));
 some (f,IntKind.u64.wrap (a*b))
def b0T (F:Nat)(d:Int)(b:Int):Option (Int×Int):=.bind (c03 F d b) fun(a,c)=>some (a,c)
def m00 (F:Nat)(a:List Int)(b:Int):Option (List Int):=e0w a b
def o0M (F:Nat):Sm en.D:=⟨181,[.d (.list (.int .i64)),.d (.int .i64)],.own 3 (.int .i64),[],fun a=>m00 F a.1 a.2⟩
def m0n (F:Nat)(a:Int)(c:Int):Option (List Int):=if decide (a<1)then some []else .bind (m00 F [c] a) fun b=>some b
def k0o (F:Nat):Sm en.D:=⟨149,[.d (.int .i64),.d (.int .i64)],.own 3 (.int .i64),[],fun a=>m0n F a.1 a.2⟩
def u0c (F:Nat):=R0 [o0M F] 149 U1 F
def F0t (F:Nat)(a:h0r):Option (List Int):=.bind (m0n F a.chart.tags (-1)) fun b=>if y0 b 0 then some (b.set (0:Int).toNat a.at_)else none
def J0s (F:Nat):Sm en.D:=⟨108,[.d (.ptr (.st 19))],.own 3 (.int .i64),[],fun a=>F0t F a⟩
def W0P (F:Nat):=R0 [k0o F] 108 U1 F
def H07 (F:Nat)(a:h0r):Option ((List Int)×Bool):=if !a.chart.null then some ([],false)else .bind (F0t F a) fun c=>.bind (b0A F c a.chart.none a.at_ (-1)) fun b=>some (b,true)
def M0h (F:Nat):Sm en.D:=⟨79,[.d (.ptr (.st 19))],.tup [.own 3 (.int .i64),.d .bool],[],fun a=>H07 F a⟩
def U03 (F:Nat):=R0 [e0k F,J0s F] 79 U1 F
def H0H (F:Nat)(h:List U0):Option ((Unit⊕(h0r×(List Int)×Int×Bool))×Int):=.bind (α:=(Unit⊕h0r)×Int) (.bind (H06 F h) fun(g,c)=>match g with
  | .inl _=>some ((.inl ()),c)
  | .inr d=>some ((.inr d),c)) fun(i,a)=>match i with
 | .inl _=>if a != 0 then some ((.inl ()),a)else none
 | .inr b=>if a != 0 then some ((.inl ()),a)else .bind (H07 F b) fun(f,e)=>some ((.inr (b,f,0,e)),0)
def L0v (F:Nat):Sm en.D:=⟨42,[.d (.list (.st 0))],.tup [.alt .nilp (.box 109 [.box 158 [.d (.st 19)],.d (.list (.int .i64)),.d (.int .i64),.d .bool]),.d (.int .i64)],[],fun a=>H0H F a⟩
def U0b (F:Nat):=R0 [J0N F,M0h F] 42 ⟨[(2,[(.nrm,⟨[(4,.alt .nilp (.box 158 [.d (.st 19)])),(5,.d (.int .i64))],[]⟩)])],[],[],[]⟩ F
def H0o (F:Nat)(a:List (List Int)):Option (List (List Int)):=if C1 24 ([]:List (List Int)) a then some a else none
def N0s (F:Nat):Sm en.D:=⟨150,[.d (.list (.list (.int .i64)))],.own 23 (.list (.int .i64)),[],fun a=>H0o F a⟩
def M0S (F:Nat):X1 en:=⟨[],fun _=>⟨[],[],[],[4]⟩,F,[]⟩
def z0N (F:Nat)(b:List (List Int))(c:Int)(d:Int):Option (T0 Int (Unit⊕Unit)):=match d with
 | a=>if decide (a<(b.length:Int))then if y0 b a then if((gt b a).length:Int) != c then some (.done (.inl ()))else some (.next (W (a+1)))else none else some (.done (.inr ()))
def h0b (F:Nat)(b:List (List Int))(a:Int):Option Bool:=.bind (α:=Unit⊕Unit) (iter (z0N F b a) F 0) fun c=>match c with
 | .inl _=>some false
 | .inr _=>some ((b.length:Int)==a)
def k0j (F:Nat):Sm en.D:=⟨203,[.d (.list (.list (.int .i64))),.d (.int .i64)],.d .bool,[],fun a=>h0b F a.1 a.2⟩
def x08 (F:Nat):=R0 [] 203 ⟨[],[(2,⟨[(9,.d (.int .i64))],[]⟩,[(.ret,⟨[(4,.kb false),(9,.any)],[]⟩),(.ex 0,⟨[(9,.any)],[]⟩)])],[],[]⟩ F
def u0j (F:Nat)(b:P1)(f:Int)(c:Int)(h:Int):Option (T0 Int (Unit⊕Unit)):=match h with
 | a=>if decide (a<f)then if y0 b.D c then if y0 (gt b.D c) a then if y0 b.B c then if y0 (gt b.B c) a then .bind (if decide ((gt (gt b.B c) a)<0)then some true else .bind (if c != a then if(gt (gt b.D c) a) != 1 then if(gt (gt b.D c) a) != (-1)then some true else if y0 b.D a then if y0 (gt b.D a) c then let i:=(gt (gt b.D a) c) != (W (0-(gt (gt b.D c) a)));
              some i else none else none else if y0 b.D a then if y0 (gt b.D a) c then let d:=(gt (gt b.D a) c) != (W (0-(gt (gt b.D c) a)));
             some d else none else none else some false) fun e=>some e) fun g=>if g then some (.done (.inl ()))else some (.next (W (a+1)))else none else none else none else none else some (.done (.inr ()))
def s02 (F:Nat)(b:P1)(c:Int)(f:Int):Option (T0 Int (Unit⊕Unit)):=match f with
 | a=>if decide (a<c)then if y0 b.B a then if y0 (gt b.B a) a then .bind (if(gt (gt b.B a) a) != 0 then some true else if y0 b.D a then if y0 (gt b.D a) a then some ((gt (gt b.D a) a) != 0)else none else none) fun e=>if e then some (.done (.inl ()))else .bind (α:=Unit⊕Unit) (iter (u0j F b c a) F 0) fun d=>match d with
     | .inl _=>some (.done (.inl ()))
     | .inr _=>some (.next (W (a+1)))else none else none else some (.done (.inr ()))
def i0G (F:Nat)(b:P1)(a:Int):Option Bool:=.bind (h0b F b.B a) fun e=>.bind (if !e then some true else .bind (h0b F b.D a) fun d=>some (!d)) fun f=>if f then some false else .bind (α:=Unit⊕Unit) (iter (s02 F b a) F 0) fun c=>match c with
  | .inl _=>some false
  | .inr _=>some true
def e0y (F:Nat):Sm en.D:=⟨182,[.d (.st 11),.d (.int .i64)],.d .bool,[],fun a=>i0G F a.1 a.2⟩
def w0Q (F:Nat):=R0 [k0j F] 182 ⟨[],[(4,⟨[(21,.d (.int .i64))],[]⟩,[(.ret,⟨[(4,.kb false),(21,.any)],[]⟩),(.ex 0,⟨[(21,.any)],[]⟩)]),(9,⟨[(45,.d (.int .i64))],[]⟩,[(.ret,⟨[(4,.kb false),(45,.any)],[]⟩),(.ex 2,⟨[(45,.any)],[]⟩)])],[(1,6,11,⟨[(13,.any),(19,.d .bool)],[]⟩),(6,10,19,⟨[(33,.any),(43,.d .bool)],[]⟩),(12,10,34,⟨[(65,.any),(90,.d .bool)],[]⟩),(12,14,33,⟨[(69,.any),(89,.d .bool)],[]⟩)],[]⟩ F
def c0K (F:Nat)(a:P1):Option Bool:=.bind (i0G F a (a.B.length:Int)) fun b=>some b
def b0W (F:Nat):Sm en.D:=⟨153,[.d (.st 11)],.d .bool,[],fun a=>c0K F a⟩
def z0F (F:Nat):=R0 [e0y F] 153 U1 F
def y0X (F:Nat)(c:Int)(d:Int)(e:Int×(List (List Int))):Option (T0 (Int×(List (List Int))) (List (List Int))):=match e with
 | (a,b)=>if decide (a<d)then if S5 8 c then if y0 b a then let f:=b.set a.toNat (List.replicate c.toNat 0:List Int);
    some (.next (W (a+1),f))else none else none else some (.done b)
def c0x (F:Nat)(a:Int):Option (List (List Int)):=if S5 24 a then let c:=((List.replicate a.toNat []:List (List Int)).length:Int);
  .bind (α:=List (List Int)) (iter (y0X F a c) F (0,(List.replicate a.toNat []:List (List Int)))) fun b=>some b else none
def g0g (F:Nat):Sm en.D:=⟨157,[.d (.int .i64)],.M0 23 [3] (.list (.int .i64)),[],fun a=>c0x F a⟩
def s0L (F:Nat):=R0 [] 157 ⟨[],[(3,⟨[(9,.d (.int .i64))],[(0,.M0 23 [3] (.list (.int .i64)))]⟩,[(.ex 0,⟨[(9,.any)],[(0,.M0 23 [3] (.list (.int .i64)))]⟩)])],[],[6]⟩ F
def q0h (F:Nat)(b:P1)(g:Int×(List (List Int))×(List (List Int))):Option (T0 (Int×(List (List Int))×(List (List Int))) ((List (List Int))×(List (List Int)))):=match g with
 | (a,e,d)=>if decide (a<(b.B.length:Int))then if y0 e a then if y0 b.B a then if y0 d a then if y0 b.D a then let c:=d.set a.toNat (P2 (gt d a) (gt b.D a));
      if y0 c a then if y0 c (b.B.length:Int)then if y0 (gt c a) (b.B.length:Int)then let f:=c.set a.toNat ((gt c a).set (b.B.length:Int).toNat 1);
         if y0 (gt f (b.B.length:Int)) a then let h:=f.set (b.B.length:Int).toNat ((gt f (b.B.length:Int)).set a.toNat (-1));
          some (.next (W (a+1),e.set a.toNat (P2 (gt e a) (gt b.B a)),h))else none else none else none else none else none else none else none else none else some (.done (e,d))
def m0W (F:Nat)(a:P1):Option P1:=.bind (c0K F a) fun c=>if !c then some (⟨[],[]⟩:P1)else .bind (c0x F (W ((a.B.length:Int)+1))) fun e=>.bind (c0x F (W ((a.B.length:Int)+1))) fun d=>.bind (α:=(List (List Int))×(List (List Int))) (iter (q0h F a) F (0,e,d)) fun(b,f)=>some (⟨b,f⟩:P1)
def j0U (F:Nat):Sm en.D:=⟨151,[.d (.st 11)],.d (.st 11),[],fun a=>m0W F a⟩
def x0l (F:Nat):=R0 [b0W F,g0g F] 151 ⟨[],[(6,⟨[(21,.d (.int .i64))],[(2,.M0 23 [3] (.list (.int .i64))),(3,.M0 23 [3] (.list (.int .i64)))]⟩,[(.ex 0,⟨[(21,.any)],[(2,.M0 23 [3] (.list (.int .i64))),(3,.M0 23 [3] (.list (.int .i64)))]⟩)])],[],[]⟩ F
def G0l (F:Nat)(a:h0r)(f:(Int×((List (List Int))×(List (List z05))×P1))):Option (T0 (Int×((List (List Int))×(List (List z05))×P1)) ((List (List Int))×(List (List z05))×P1)):=match f with
 | (b,(e,c,d))=>if decide (b<(a.places.length:Int))then if y0 a.places b then if y0 a.chart.roads (gt a.places b)then if C1 24 c [gt a.chart.roads (gt a.places b)]then some (.next (W (b+1),(e,c++[gt a.chart.roads (gt a.places b)],d)))else none else none else none else some (.done (e,c,d))
def F0p (F:Nat)(a:h0r)(e:Bool):Option (C08×h0r):=.bind (α:=(List (List Int))×P1) (same (.bind (H0o F a.values) fun k=>some (k,a.rank)) (.bind (H0o F a.values) fun j=>some (j,a.rank))) fun(h,i)=>.bind (α:=(List (List Int))×(List (List z05))×P1) (iter (G0l F a) F (0,(h,[],i))) fun(b,c,f)=>.bind (α:=(List (List Int))×(List (List z05))×P1) (if e then .bind (F0t F a) fun d=>if C1 24 b [d]then if C1 24 c [a.chart.begin]then .bind (m0W F a.rank) fun l=>some (b++[d],c++[a.chart.begin],l)else none else none else some (b,c,f)) fun(n,g,m)=>some ((⟨n,g,m⟩:C08),a)
def L0R (F:Nat):Sm en.D:=⟨109,[.box 158 [.d (.st 19)],.d .bool],.d (.st 28),[(0,.box 158 [.d (.st 19)])],fun a=>F0p F a.1 a.2⟩
def Q0g (F:Nat):=R0 [J0s F,N0s F,j0U F] 109 ⟨[(11,[(.nrm,⟨[],[(3,.box 200 [.own 23 (.list (.int .i64)),.own 190 (.list (.st 17)),.d (.st 11)]),(4,.any),(5,.any)]⟩)])],[(3,⟨[(23,.d (.int .i64))],[(2,.any),(3,.box 200 [.own 23 (.list (.int .i64)),.own 190 (.list (.st 17)),.d (.st 11)])]⟩,[(.ex 0,⟨[(23,.any)],[(2,.any),(3,.box 200 [.own 23 (.list (.int .i64)),.own 190 (.list (.st 17)),.d (.st 11)])]⟩)])],[(1,1000004,11,⟨[(5,.box 200 [.own 23 (.list (.int .i64)),.nil,.d (.st 11)])],[]⟩)],[]⟩ F
def d0G (F:Nat)(b:List Int)(a:Int):Option Bool:=if decide (0<=IntKind.u8.wrap (a.tdiv 64))&&decide (IntKind.u8.wrap (a.tdiv 64)<4)then if !decide (a.tmod 64<0)then let c:=R1 .u64 (gt b (IntKind.u8.wrap (a.tdiv 64))) (shl .u64 1 (a.tmod 64));
   some (c != 0)else none else none
def a0l (F:Nat):Sm en.D:=⟨152,[.d (.arr 4 (.int .u64)),.d (.int .u8)],.d .bool,[],fun a=>d0G F a.1 a.2⟩
def q02 (F:Nat):=R0 [] 152 U1 F
def G0G (F:Nat)(g:h0r)(c:C08)(l:Int)(a:Int)(i:Int×(List C0G)):Option (T0 (Int×(List C0G)) (List C0G)):=match i with
 | (b,d)=>if decide (b<((gt c.roads a).length:Int))then .bind (α:=List C0G) (if y0 (gt c.roads a) b then if y0 g.chart.sets (((gt (gt c.roads a) b).Hop).To)then let p:=gtZ 4 g.chart.sets (((gt (gt c.roads a) b).Hop).To);
     .bind (d0G F p l) fun n=>if n then if y0 d (((gt (gt c.roads a) b).Hop).To)then if C1 8 ((gt d (((gt (gt c.roads a) b).Hop).To)).from_) [a]then let m:=((gt d (((gt (gt c.roads a) b).Hop).To)).from_)++[a];
        if decide (((gt (gt c.roads a) b).Hop).To=((gt (gt c.roads a) b).Hop).To)then let e:=d.set (((gt (gt c.roads a) b).Hop).To).toNat ({ gt d (((gt (gt c.roads a) b).Hop).To)with from_:=m });
         if C1 64 ((gt e (((gt (gt c.roads a) b).Hop).To)).roads) [gt (gt c.roads a) b]then let h:=((gt e (((gt (gt c.roads a) b).Hop).To)).roads)++[gt (gt c.roads a) b];
          if decide (((gt (gt c.roads a) b).Hop).To=((gt (gt c.roads a) b).Hop).To)then let f:=e.set (((gt (gt c.roads a) b).Hop).To).toNat ({ gt e (((gt (gt c.roads a) b).Hop).To)with roads:=h });
           if C1 40 ((gt f (((gt (gt c.roads a) b).Hop).To)).hops) [(gt (gt c.roads a) b).Hop]then let o:=((gt f (((gt (gt c.roads a) b).Hop).To)).hops)++[(gt (gt c.roads a) b).Hop];
            if decide (((gt (gt c.roads a) b).Hop).To=((gt (gt c.roads a) b).Hop).To)then let j:=f.set (((gt (gt c.roads a) b).Hop).To).toNat ({ gt f (((gt (gt c.roads a) b).Hop).To)with hops:=o });
             some j else none else none else none else none else none else none else none else some d else none else none) fun k=>some (.next (W (b+1),k))else some (.done d)
def H0F (F:Nat)(f:h0r)(b:C08)(e:Int)(d:Int×(List C0G)):Option (T0 (Int×(List C0G)) (List C0G)):=match d with
 | (a,c)=>if decide (a<(b.roads.length:Int))then if y0 b.roads a then .bind (α:=List C0G) (iter (G0G F f b e a) F (0,c)) fun g=>some (.next (W (a+1),g))else none else some (.done c)
def G0R (F:Nat)(a:h0r)(c:C08)(b:Int):Option ((List C0G)×h0r):=if S5 72 (a.chart.sets.length:Int)then .bind (α:=List C0G) (iter (H0F F a c b) F (0,(List.replicate (a.chart.sets.length:Int).toNat (⟨[],[],[]⟩:C0G):List C0G))) fun d=>some (d,a)else none
def J0I (F:Nat):Sm en.D:=⟨110,[.box 158 [.d (.st 19)],.d (.st 28),.d (.int .u8)],.d (.list (.st 29)),[(0,.box 158 [.d (.st 19)])],fun a=>G0R F a.1 a.2.1 a.2.2⟩
def S0o (F:Nat):X1 en:=⟨[a0l F],fun a=>if Nat.beq a 110 then⟨[(10,[(.nrm,⟨[],[(2,.M0 203 [3,208,194] (.st 29))]⟩)])],[(3,⟨[(24,.d (.int .i64))],[(2,.M0 203 [3,208,194] (.st 29))]⟩,[(.ex 0,⟨[(24,.any)],[(2,.M0 203 [3,208,194] (.st 29))]⟩)]),(6,⟨[(31,.d (.int .i64))],[(2,.M0 203 [3,208,194] (.st 29))]⟩,[(.ex 2,⟨[(31,.any)],[(2,.M0 203 [3,208,194] (.st 29))]⟩)])],[],[20]⟩else if Nat.beq a 112 then U1 else U1,F,[]⟩
def f0H (F:Nat)(c:P1)(a:Int):Option Bool:=.bind (if decide (a>=0)then some (decide (a<(c.B.length:Int)))else some false) fun b=>some b
def c0W (F:Nat):Sm en.D:=⟨154,[.d (.st 11),.d (.int .i64)],.d .bool,[],fun a=>f0H F a.1 a.2⟩
def q0U (F:Nat):=R0 [] 154 ⟨[],[],[(1,3,8,⟨[(7,.any),(13,.d .bool)],[]⟩)],[]⟩ F
def d0A (F:Nat)(a:k7)(b:Int)(c:Int):Option Int:=if y0 a.from_ b then if y0 a.Rank.B (gt a.from_ b)then if y0 a.from_ c then if y0 (gt a.Rank.B (gt a.from_ b)) (gt a.from_ c)then let d:=gt (gt a.Rank.B (gt a.from_ b)) (gt a.from_ c);
     if y0 a.hops b then let e:=if(W (((gt a.hops b).Turn)+1))<d then W (((gt a.hops b).Turn)+1)else d;
      some e else none else none else none else none else none
def e02 (F:Nat):Sm en.D:=⟨159,[.d (.st 30),.d (.int .i64),.d (.int .i64)],.d (.int .i64),[],fun a=>d0A F a.1 a.2.1 a.2.2⟩
def q0V (F:Nat):=R0 [] 159 U1 F
def j0s (F:Nat)(a:k7)(b:Int)(c:Int):Option Int:=.bind (d0A F a b c) fun e=>.bind (d0A F a c b) fun d=>if decide (e>d)then some 1 else if decide (e<d)then some (-1)else if y0 a.from_ b then if y0 a.Rank.D (gt a.from_ b)then if y0 a.from_ c then if y0 (gt a.Rank.D (gt a.from_ b)) (gt a.from_ c)then let f:=gt (gt a.Rank.D (gt a.from_ b)) (gt a.from_ c);
       some f else none else none else none else none
def f00 (F:Nat):Sm en.D:=⟨155,[.d (.st 30),.d (.int .i64),.d (.int .i64)],.d (.int .i64),[],fun a=>j0s F a.1 a.2.1 a.2.2⟩
def p07 (F:Nat):=R0 [e02 F] 155 U1 F
def s0o (F:Nat)(d:P1)(c:List Int)(e:List E1)(k:Int)(i:Int×Int):Option (T0 (Int×Int) Int):=match i with
 | (b,a)=>if decide (a<k)then .bind (α:=Int) (if y0 c a then .bind (f0H F d (gt c a)) fun l=>.bind (if l then .bind (if decide (b<0)then some true else .bind (j0s F (⟨d,c,e⟩:k7) a b) fun g=>some (decide (g>0))) fun j=>some j else some false) fun h=>if h then some a else some b else none) fun f=>some (.next (f,W (a+1)))else some (.done b)
def l0s (F:Nat)(c:P1)(b:List Int)(a:List E1):Option Int:=.bind (c0K F c) fun f=>if !f then some (-1)else let d:=if(a.length:Int)<(b.length:Int)then(a.length:Int)else(b.length:Int);
  .bind (α:=Int) (iter (s0o F c b a d) F ((-1),0)) fun e=>some e
def j0t (F:Nat):Sm en.D:=⟨111,[.d (.st 11),.d (.list (.int .i64)),.d (.list (.st 10))],.d (.int .i64),[],fun a=>l0s F a.1 a.2.1 a.2.2⟩
def w0u (F:Nat):=R0 [b0W F,c0W F,f00 F] 111 ⟨[(10,[(.nrm,⟨[(7,.d (.int .i64))],[]⟩)])],[(6,⟨[(7,.d (.int .i64)),(23,.d (.int .i64))],[]⟩,[(.ex 0,⟨[(7,.d (.int .i64)),(23,.any)],[]⟩)])],[(8,7,16,⟨[(32,.any),(42,.d .bool)],[]⟩),(8,10,15,⟨[(35,.any),(41,.d .bool)],[]⟩)],[]⟩ F
def J9 (d b:List Int)(c:Int)(a:Int):Option (T0 Int Int):=if decide (0<=a)then if y0 b a&&(decide (gt b a<=c)&&decide (c<=a))then some (.done a)else if y0 b a&&y0 d a then some (.next (gt d a))else none else some (.done (-1))
def g0A (F:Nat)(d:List U0)(c b:Int):Option Int:=.bind (d0T F d) fun a=>if decide (c<0)||(decide (b<0)||(decide (c>=(a.length:Int))||decide (b>=(a.length:Int))))then some (-1)else .bind (b0e F d) fun e=>iter (J9 a e b) F c
def k0t (F:Nat):Sm en.D:=⟨184,[.d (.list (.st 0)),.d (.int .i64),.d (.int .i64)],.d (.int .i64),[],fun a=>g0A F a.1 a.2.1 a.2.2⟩
def g0Z (F:Nat):Nat->(List U0)->E1->E1->Option (Int×Int×Int)
 | 0,_,_,_=>none
 | k+1,e,a,b=>.bind (a0I F e) fun d=>.bind (if decide (a.To>=0)then some (decide (a.To<(d.length:Int)))else some false) fun j=>.bind (if !j then some true else .bind (if decide (b.To>=0)then some (decide (b.To<(d.length:Int)))else some false) fun l=>some (!l)) fun i=>.bind (if i then some true else some (a.To==b.To)) fun h=>if h then some (0,0,0)else if decide (a.Turn>b.Turn)then some (W (a.Turn+1),W (b.Turn+1),1)else if decide (a.Turn<b.Turn)then some (W (a.Turn+1),W (b.Turn+1),(-1))else if decide (a.To>b.To)then .bind (g0Z F k e b a) fun(m,g,n)=>some (g,m,(-1))else if y0 d a.To then if y0 d b.To then .bind (g0A F e (gt d a.To) (gt d b.To)) fun c=>.bind (i0V F e) fun f=>if y0 f c then if y0 e c then if((gt e c).Kind)==3 then some (W ((W ((gt f c)+1))+1),W ((gt f c)+1),1)else some (W ((gt f c)+1),W ((gt f c)+1),1)else none else none else none else none
def f04 (F b:Nat):Sm en.D:=⟨158,[.d (.list (.st 0)),.d (.st 10),.d (.st 10)],.tup [.d (.int .i64),.d (.int .i64),.d (.int .i64)],[],fun a=>g0Z F b a.1 a.2.1 a.2.2⟩
def u0y (F b:Nat):X1 en:=⟨[b0f F,f04 F b,k0t F,f0j F],fun a=>if Nat.beq a 158 then⟨[],[],[(3,5,9,⟨[(24,.any),(29,.d .bool)],[]⟩),(3,11,16,⟨[(30,.any),(36,.d .bool)],[]⟩)],[]⟩else if Nat.beq a 183 then⟨[],[],[(1,4,9,⟨[(7,.any),(13,.d .bool)],[]⟩)],[]⟩else U1,F,[]⟩
def w0f (F:Nat)(c:P1)(b:List Int)(d:Int):Option (T0 Int (Int⊕Unit)):=match d with
 | a=>if decide (a<(b.length:Int))then if y0 b a then .bind (f0H F c (gt b a)) fun e=>if !e then some (.done (.inl a))else some (.next (W (a+1)))else none else some (.done (.inr ()))
def s0s (F:Nat)(o:List U0)(h:P1)(f:List Int)(e:List E1)(a:Int)(k:Int×(List (List Int))×(List (List Int))):Option (T0 (Int×(List (List Int))×(List (List Int))) ((List (List Int))×(List (List Int)))):=match k with
 | (b,c,d)=>if decide (b<a)then .bind (α:=(List (List Int))×(List (List Int))) (if y0 f a then if y0 f b then if(gt f a)==(gt f b)then if y0 c a then if y0 c b then if y0 d a then if y0 e a then if y0 e b then .bind (g0Z F F o (gt e a) (gt e b)) fun(q,u,n)=>if y0 (gt c a) b then let i:=c.set a.toNat ((gt c a).set b.toNat q);
            if y0 (gt i b) a then if y0 (gt d a) b then let p:=d.set a.toNat ((gt d a).set b.toNat n);
              some (i.set b.toNat ((gt i b).set a.toNat u),p)else none else none else none else none else none else none else none else none else if y0 c a then if y0 c b then if y0 d a then .bind (d0A F (⟨h,f,e⟩:k7) a b) fun j=>.bind (d0A F (⟨h,f,e⟩:k7) b a) fun v=>.bind (j0s F (⟨h,f,e⟩:k7) a b) fun m=>if y0 (gt c a) b then if y0 (gt (c.set a.toNat ((gt c a).set b.toNat j)) b) a then let r:=(c.set a.toNat ((gt c a).set b.toNat j)).set b.toNat ((gt (c.set a.toNat ((gt c a).set b.toNat j)) b).set a.toNat v);
           if y0 (gt d a) b then let s:=d.set a.toNat ((gt d a).set b.toNat m);
            some (r,s)else none else none else none else none else none else none else none else none) fun(t,g)=>if y0 g b then if y0 g a then if y0 (gt g a) b then if y0 (gt g b) a then let l:=g.set b.toNat ((gt g b).set a.toNat (W (0-(gt (gt g a) b))));
      some (.next (W (b+1),t,l))else none else none else none else none else some (.done (c,d))
def x04 (F:Nat)(h:List U0)(f:P1)(c:List Int)(e:List E1)(g:Int×(List (List Int))×(List (List Int))):Option (T0 (Int×(List (List Int))×(List (List Int))) ((List (List Int))×(List (List Int)))):=match g with
 | (a,d,b)=>if decide (a<(c.length:Int))then .bind (α:=(List (List Int))×(List (List Int))) (iter (s0s F h f c e a) F (0,d,b)) fun(i,j)=>some (.next (W (a+1),i,j))else some (.done (d,b))
def m0B (F:Nat)(j:List U0)(b:P1)(a:List Int)(c:List E1):Option P1:=.bind (c0K F b) fun m=>.bind (if !m then some true else some ((a.length:Int) != (c.length:Int))) fun g=>.bind (if g then some true else .bind (α:=Int⊕Unit) (iter (w0f F b a) F 0) fun d=>match d with
   | .inl f=>some (decide (f>=0))
   | .inr _=>some (decide ((-1)>=0))) fun l=>if l then some (⟨[],[]⟩:P1)else .bind (c0x F (a.length:Int)) fun i=>.bind (c0x F (a.length:Int)) fun h=>.bind (α:=(List (List Int))×(List (List Int))) (iter (x04 F j b a c) F (0,i,h)) fun(e,k)=>some (⟨e,k⟩:P1)
def i0p (F:Nat):Sm en.D:=⟨113,[.d (.list (.st 0)),.d (.st 11),.d (.list (.int .i64)),.d (.list (.st 10))],.d (.st 11),[],fun a=>m0B F a.1 a.2.1 a.2.2.1 a.2.2.2⟩
def y0T (F:Nat):X1 en:=⟨[b0W F,c0W F,f00 F,g0g F,f04 F F,e02 F],fun a=>if Nat.beq a 113 then⟨[(14,[(.nrm,⟨[],[(3,.M0 23 [3] (.list (.int .i64))),(4,.M0 23 [3] (.list (.int .i64)))]⟩)])],[(6,⟨[(42,.d (.int .i64))],[(3,.M0 23 [3] (.list (.int .i64))),(4,.M0 23 [3] (.list (.int .i64)))]⟩,[(.ex 0,⟨[(42,.any)],[(3,.M0 23 [3] (.list (.int .i64))),(4,.M0 23 [3] (.list (.int .i64)))]⟩)]),(9,⟨[(46,.d (.int .i64))],[(3,.M0 23 [3] (.list (.int .i64))),(4,.M0 23 [3] (.list (.int .i64)))]⟩,[(.ex 2,⟨[(46,.any)],[(3,.M0 23 [3] (.list (.int .i64))),(4,.M0 23 [3] (.list (.int .i64)))]⟩)])],[(1,4,9,⟨[(16,.any),(22,.d .bool)],[]⟩),(1,11,14,⟨[(23,.any),(27,.d .bool)],[]⟩)],[]⟩else if Nat.beq a 74 then U1 else if Nat.beq a 102 then⟨[],[(2,⟨[(8,.d (.int .i64))],[]⟩,[(.ret,⟨[(4,.d (.int .i64)),(8,.any)],[]⟩),(.ex 0,⟨[(8,.any)],[]⟩)])],[],[]⟩else if Nat.beq a 156 then U1 else U1,F,[]⟩
def E00 (F:Nat)(j:C08)(b:List C0G)(n:(List Int)×(List (List Int))×Int×h0r×((List Int)×(List z05)×(List E1))):Option (T0 ((List Int)×(List (List Int))×Int×h0r×((List Int)×(List z05)×(List E1))) ((List Int)×(List (List Int))×h0r×((List Int)×(List z05)×(List E1)))):=match n with
 | (g,f,a,d,(h,i,e))=>if decide (a<(b.length:Int))then .bind (α:=(List Int)×(List (List Int))×h0r×((List Int)×(List z05)×(List E1))) (if y0 b a then .bind (l0s F j.rank ((gt b a).from_) ((gt b a).hops)) fun c=>if decide (c<0)then some (g,f,(⟨d.chart,d.at_,W (d.work+(((gt b a).from_).length:Int)),d.places,d.values,d.rank⟩:h0r),(h,i,e))else if C1 8 g [a]then if y0 ((gt b a).from_) c then if y0 j.values (gt ((gt b a).from_) c)then if y0 ((gt b a).roads) c then .bind (b0A F (gt j.values (gt ((gt b a).from_) c)) ((gt ((gt b a).roads) c).marks) d.at_ (-1)) fun k=>if C1 24 f [k]then if y0 ((gt b a).from_) c then if y0 ((gt b a).roads) c then if C1 8 h [gt ((gt b a).from_) c]then if C1 64 i [gt ((gt b a).roads) c]then if C1 40 e [(gt ((gt b a).roads) c).Hop]then some (g++[a],f++[k],(⟨d.chart,d.at_,W (d.work+(((gt b a).from_).length:Int)),d.places,d.values,d.rank⟩:h0r),(h++[gt ((gt b a).from_) c],i++[gt ((gt b a).roads) c],e++[(gt ((gt b a).roads) c).Hop]))else none else none else none else none else none else none else none else none else none else none else none) fun(o,r,m,(p,q,l))=>some (.next (o,r,W (a+1),m,(p,q,l)))else some (.done (g,f,d,(h,i,e)))
def E0Z (F:Nat)(o:h0r)(g:Int)(d:Bool):Option h0r:=.bind (F0p F o d) fun(c,p)=>.bind (G0R F p c g) fun(n,f)=>.bind (α:=(List Int)×(List (List Int))×h0r×((List Int)×(List z05)×(List E1))) (iter (E00 F c n) F ([],[],0,f,([],[],[]))) fun(b,e,a,(h,q,k))=>.bind (m0B F a.chart.l c.rank h k) fun j=>let i:=W ((b.length:Int)*(b.length:Int));
 let m:=W ((W ((b.length:Int)*a.chart.tags))+i);
 some (⟨a.chart,W (a.at_+1),W (a.work+m),b,e,j⟩:h0r)
def K0p (F:Nat):Sm en.D:=⟨80,[.box 158 [.d (.st 19)],.d (.int .u8),.d .bool],.tup [],[(0,.box 158 [.d (.st 19)])],fun a=>E0Z F a.1 a.2.1 a.2.2⟩
def R0s (F:Nat):X1 en:=⟨[e0k F,L0R F,J0I F,j0t F,i0p F],fun a=>if Nat.beq a 80 then⟨[(13,[(.nrm,⟨[(7,.own 3 (.int .i64)),(8,.own 23 (.list (.int .i64)))],[(0,.box 158 [.d (.st 19)]),(3,.box 203 [.own 3 (.int .i64),.own 208 (.st 17),.own 194 (.st 10)]),(5,.any),(6,.any),(8,.any),(9,.any),(10,.any)]⟩)])],[(5,⟨[(7,.own 3 (.int .i64)),(8,.own 23 (.list (.int .i64))),(21,.d (.int .i64))],[(0,.box 158 [.d (.st 19)]),(3,.box 203 [.own 3 (.int .i64),.own 208 (.st 17),.own 194 (.st 10)])]⟩,[(.ex 0,⟨[(7,.own 3 (.int .i64)),(8,.own 23 (.list (.int .i64))),(21,.any)],[(0,.box 158 [.d (.st 19)]),(3,.box 203 [.own 3 (.int .i64),.own 208 (.st 17),.own 194 (.st 10)])]⟩)])],[],[]⟩else if Nat.beq a 112 then U1 else U1,F,[]⟩
def E0T (F:Nat)(a:h0r):Option Int:=some a.at_
def L0J (F:Nat):Sm en.D:=⟨81,[.d (.ptr (.st 19))],.d (.int .i64),[],fun a=>E0T F a⟩
def T0h (F:Nat):=R0 [] 81 U1 F
def y0b (F:Nat)(d:P1)(b:List Int)(f:Int×Int):Option (T0 (Int×Int) Int):=match f with
 | (c,a)=>if decide (a<(b.length:Int))then .bind (α:=Int) (if y0 b a then .bind (f0H F d (gt b a)) fun h=>.bind (if h then .bind (if decide (c<0)then some true else if y0 d.D (gt b a)then if y0 (gt d.D (gt b a)) c then some (decide ((gt (gt d.D (gt b a)) c)>0))else none else none) fun i=>some i else some false) fun g=>if g then some (gt b a)else some c else none) fun e=>some (.next (e,W (a+1)))else some (.done c)
def o0z (F:Nat)(a:P1)(c:List Int):Option Int:=.bind (c0K F a) fun b=>if !b then some (-1)else .bind (α:=Int) (iter (y0b F a c) F ((-1),0)) fun d=>some d
def j0T (F:Nat):Sm en.D:=⟨114,[.d (.st 11),.d (.list (.int .i64))],.d (.int .i64),[],fun a=>o0z F a.1 a.2⟩
def u0R (F:Nat):=R0 [b0W F,c0W F] 114 ⟨[(9,[(.nrm,⟨[(5,.d (.int .i64))],[]⟩)])],[(5,⟨[(5,.d (.int .i64)),(14,.d (.int .i64))],[]⟩,[(.ex 0,⟨[(5,.d (.int .i64)),(14,.any)],[]⟩)])],[(7,4,17,⟨[(21,.any),(35,.d .bool)],[]⟩),(7,7,16,⟨[(24,.any),(34,.d .bool)],[]⟩)],[]⟩ F
def G0w (F:Nat)(b:h0r)(e:(List Int)×Int):Option (T0 ((List Int)×Int) (List Int)):=match e with
 | (c,a)=>if decide (a<(b.places.length:Int))then .bind (α:=List Int) (if y0 b.places a then if y0 b.chart.can (gt b.places a)then if gt b.chart.can (gt b.places a)then if C1 8 c [a]then some (c++[a])else none else some c else none else none) fun d=>some (.next (d,W (a+1)))else some (.done c)
def E0L (F:Nat)(a:h0r):Option ((List Int)×Bool):=.bind (α:=List Int) (iter (G0w F a) F ([],0)) fun c=>.bind (o0z F a.rank c) fun b=>if decide (b<0)then some ([],false)else if y0 a.values b then if y0 a.places b then if y0 a.chart.ends (gt a.places b)then .bind (b0A F (gt a.values b) ((gt a.chart.ends (gt a.places b)).marks) a.at_ (-1)) fun d=>some (d,true)else none else none else none
def L01 (F:Nat):Sm en.D:=⟨82,[.d (.ptr (.st 19))],.tup [.own 3 (.int .i64),.d .bool],[],fun a=>E0L F a⟩
def W0K (F:Nat):=R0 [e0k F,j0T F] 82 ⟨[(7,[(.nrm,⟨[(4,.own 3 (.int .i64))],[(0,.any)]⟩)])],[(3,⟨[(4,.own 3 (.int .i64)),(13,.d (.int .i64))],[]⟩,[(.ex 0,⟨[(4,.own 3 (.int .i64)),(13,.any)],[]⟩)])],[],[]⟩ F
def I0X (F:Nat)(d:List Int)(b:List Int)(e:(List Int)×Int):Option (T0 ((List Int)×Int) (List Int)):=match e with
 | (c,a)=>if decide (a<(b.length:Int))then if y0 b a then if y0 d (gt b a)then if C1 8 c [gt d (gt b a)]then some (.next (c++[gt d (gt b a)],W (a+1)))else none else none else none else some (.done c)
def E05 (F:Nat)(c:List Int)(b:List Int):Option (List Int):=.bind (α:=List Int) (iter (I0X F c b) F ([],0)) fun a=>some a
def J0X (F:Nat):Sm en.D:=⟨115,[.d (.list (.int .i64)),.d (.list (.int .i64))],.own 3 (.int .i64),[],fun a=>E05 F a.1 a.2⟩
def T0k (F:Nat):=R0 [] 115 ⟨[],[(3,⟨[(5,.own 3 (.int .i64)),(10,.d (.int .i64))],[]⟩,[(.ex 0,⟨[(5,.own 3 (.int .i64)),(10,.any)],[]⟩)])],[],[]⟩ F
def I0r (F:Nat)(d:List (List Int))(b:List Int)(e:(List (List Int))×Int):Option (T0 ((List (List Int))×Int) (List (List Int))):=match e with
 | (c,a)=>if decide (a<(b.length:Int))then if y0 b a then if y0 d (gt b a)then if C1 24 c [gt d (gt b a)]then some (.next (c++[gt d (gt b a)],W (a+1)))else none else none else none else some (.done c)
def G0e (F:Nat)(c:List (List Int))(b:List Int):Option (List (List Int)):=.bind (α:=List (List Int)) (iter (I0r F c b) F ([],0)) fun a=>some a
def K0Q (F:Nat):Sm en.D:=⟨116,[.d (.list (.list (.int .i64))),.d (.list (.int .i64))],.own 23 (.list (.int .i64)),[],fun a=>G0e F a.1 a.2⟩
def U0J (F:Nat):=R0 [] 116 ⟨[],[(3,⟨[(5,.own 23 (.list (.int .i64))),(10,.d (.int .i64))],[]⟩,[(.ex 0,⟨[(5,.own 23 (.list (.int .i64))),(10,.any)],[]⟩)])],[],[]⟩ F
def H0g (F:Nat)(c:h0r)(e:Int)(d:(List Int)×Int):Option (T0 ((List Int)×Int) (List Int)):=match d with
 | (b,a)=>if decide (a<(c.values.length:Int))then .bind (α:=List Int) (if y0 c.values a then if y0 (gt c.values a) 0 then if decide ((gt (gt c.values a) 0)<=e)then if C1 8 b [a]then some (b++[a])else none else some b else none else none) fun f=>some (.next (f,W (a+1)))else some (.done b)
def H0p (F:Nat)(d:List Int)(f:Int×(List (List Int))×(List (List Int))):Option (T0 (Int×(List (List Int))×(List (List Int))) ((List (List Int))×(List (List Int)))):=match f with
 | (a,c,b)=>if decide (a<(d.length:Int))then if y0 c a then if y0 b a then .bind (E05 F (gt c a) d) fun g=>.bind (E05 F (gt b a) d) fun e=>if y0 c a then if y0 b a then some (.next (W (a+1),c.set a.toNat g,b.set a.toNat e))else none else none else none else none else some (.done (c,b))
def E0Y (F:Nat)(a:h0r)(f:Int):Option h0r:=.bind (α:=List Int) (iter (H0g F a f) F ([],0)) fun b=>.bind (E05 F a.places b) fun g=>.bind (G0e F a.values b) fun c=>.bind (G0e F a.rank.B b) fun h=>.bind (G0e F a.rank.D b) fun d=>.bind (α:=(List (List Int))×(List (List Int))) (iter (H0p F b) F (0,h,d)) fun(e,i)=>some (⟨a.chart,a.at_,a.work,g,c,(⟨e,i⟩:P1)⟩:h0r)
def L0a (F:Nat):Sm en.D:=⟨83,[.box 158 [.d (.st 19)],.d (.int .i64)],.tup [],[(0,.box 158 [.d (.st 19)])],fun a=>E0Y F a.1 a.2⟩
def R0P (F:Nat):=R0 [J0X F,K0Q F] 83 ⟨[(6,[(.nrm,⟨[(4,.own 3 (.int .i64))],[(1,.any)]⟩)])],[(10,⟨[(64,.d (.int .i64))],[(4,.own 23 (.list (.int .i64))),(5,.own 23 (.list (.int .i64)))]⟩,[(.ex 2,⟨[(64,.any)],[(4,.own 23 (.list (.int .i64))),(5,.own 23 (.list (.int .i64)))]⟩)]),(2,⟨[(4,.own 3 (.int .i64)),(15,.d (.int .i64))],[]⟩,[(.ex 0,⟨[(4,.own 3 (.int .i64)),(15,.any)],[]⟩)])],[],[]⟩ F
def F0c (F:Nat):(h0r×(List Int)×Int×Bool)->Int->Option (h0r×(List Int)×Int×Bool)
 | (c,d,k,is),i=>.bind (E0T F c) fun e=>.bind (if e==0 then some true else some (!is)) fun g=>.bind (E0Z F c i g) fun a=>.bind (E0L F a) fun(b,f)=>if f then .bind (E0T F a) fun h=>if y0 b 0 then .bind (E0Y F a (gt b 0)) fun j=>some (j,b,h,true)else none else some (a,d,k,is)
def M0p (F:Nat):Sm en.D:=⟨43,[.box 109 [.box 158 [.d (.st 19)],.d (.list (.int .i64)),.d (.int .i64),.d .bool],.d (.int .u8)],.tup [],[(0,.box 109 [.box 158 [.d (.st 19)],.d (.list (.int .i64)),.d (.int .i64),.d .bool])],fun a=>F0c F a.1 a.2⟩
def W0x (F:Nat):=R0 [K0p F,L0J F,L01 F,L0a F] 43 ⟨[],[],[(0,12,17,⟨[(17,.any),(23,.d .bool)],[]⟩)],[]⟩ F
def L0E (F:Nat)(a:h0r):Option (List Int):=.bind (D0G F a.places) fun b=>some b
def L0t (F:Nat):Sm en.D:=⟨117,[.d (.ptr (.st 19))],.own 3 (.int .i64),[],fun a=>L0E F a⟩
def U0A (F:Nat):=R0 [F0X F] 117 U1 F
def J0B (F:Nat)(a:D0R):Option Int:=.bind (L0E F a.Crowd) fun b=>some (b.length:Int)
def M0n (F:Nat):Sm en.D:=⟨84,[.d (.ptr (.st 20))],.d (.int .i64),[],fun a=>J0B F a⟩
def W0j (F:Nat):=R0 [L0t F] 84 U1 F
def K0K (F:Nat)(a:h0r):Option Int:=some a.work
def J0V (F:Nat):Sm en.D:=⟨45,[.d (.ptr (.st 19))],.d (.int .i64),[],fun a=>K0K F a⟩
def T0U (F:Nat):=R0 [] 45 U1 F
def D0T (F:Nat)(a:Int):Option (Bool×Bool):=.bind (if decide (a>=3)then some (decide (a<=8))else some false) fun c=>.bind (if a==3 then some true else some (a==4)) fun b=>some (c,b)
def J0K (F:Nat):Sm en.D:=⟨95,[.d (.int .i64)],.tup [.d .bool,.d .bool],[],fun a=>D0T F a⟩
def U0W (F:Nat):=R0 [] 95 ⟨[],[],[(1,3,5,⟨[(6,.any),(9,.d .bool)],[]⟩),(1,9,11,⟨[(12,.any),(15,.d .bool)],[]⟩)],[]⟩ F
def J0R (F:Nat)(b:List U0)(c:Int)(e:Int):Option (T0 Int (Unit⊕Unit)):=match e with
 | a=>if decide (a<c)then .bind (if((gt b c).Kind)==7 then if y0 b a then some (((gt b a).Kind)==7)else none else some false) fun d=>.bind (if d then if y0 b a then some (((gt b a).N)==((gt b c).N))else none else some false) fun f=>if f then some (.done (.inl ()))else some (.next (W (a+1)))else some (.done (.inr ()))
def J0Z (F:Nat)(b:List U0)(n:Int×Int×(List Int)):Option (T0 (Int×Int×(List Int)) (Unit⊕(Int×(List Int)))):=match n with
 | (g,a,c)=>if decide (a<(b.length:Int))then if y0 b a then .bind (D0T F ((gt b a).Kind)) fun(i,h)=>if y0 c a then .bind (if decide (((gt b a).Kind)<1)then some true else some (decide (((gt b a).Kind)>8))) fun p=>.bind (if p then some true else .bind (if((gt b a).Kind) != 2 then let r:=!(((gt ((gt b a).Set) 0)==0)&&(((gt ((gt b a).Set) 1)==0)&&(((gt ((gt b a).Set) 2)==0)&&((gt ((gt b a).Set) 3)==0))));
        some r else some false) fun t=>some t) fun q=>.bind (if q then some true else .bind (if((gt b a).Kind) != 7 then some (((gt b a).N) != 0)else some false) fun w=>some w) fun s=>.bind (if s then some true else .bind (if((gt b a).Kind)==7 then if decide (((gt b a).N)<1)then some true else some (decide (((gt b a).N)>9))else some false) fun o=>some o) fun j=>if j then some (.done (.inl ()))else .bind (if !i then some (((gt b a).A) != (-1))else some false) fun m=>.bind (if m then some true else .bind (if !h then some (((gt b a).B) != (-1))else some false) fun u=>some u) fun k=>if k then some (.done (.inl ()))else .bind (α:=Int) (if((gt b a).Kind)==2 then some (W (g+1))else some g) fun l=>.bind (α:=Unit⊕Int) (if h then .bind (if((gt b a).B) != (W (a-1))then some true else some (decide ((W (a-1))<0))) fun y=>if y then some (.inl ())else if y0 (c.set a.toNat a) (W (a-1))then some (.inr (W ((gt (c.set a.toNat a) (W (a-1)))-1)))else none else some (.inr (W (a-1)))) fun d=>match d with
      | .inl _=>some (.done (.inl ()))
      | .inr e=>.bind (α:=Unit⊕(List Int)) (if i then .bind (if((gt b a).A) != e then some true else some (decide (e<0))) fun x=>if x then some (.inl ())else if y0 (c.set a.toNat a) e then if y0 (c.set a.toNat a) a then let v:=(c.set a.toNat a).set a.toNat (gt (c.set a.toNat a) e);
            some (.inr v)else none else none else some (.inr (c.set a.toNat a))) fun d=>match d with
       | .inl _=>some (.done (.inl ()))
       | .inr f=>if y0 f a then .bind (α:=Unit⊕Unit) (iter (J0R F b a) F (gt f a)) fun d=>match d with
         | .inl _=>some (.done (.inl ()))
         | .inr _=>some (.next (l,W (a+1),f))else none else none else none else some (.done (.inr (g,c)))
def D0H (F:Nat)(a:List U0):Option (Unit⊕(List Int)):=if S5 8 (a.length:Int)then .bind (α:=Unit⊕(Int×(List Int))) (iter (J0Z F a) F (0,0,(List.replicate (a.length:Int).toNat 0:List Int))) fun c=>match c with
  | .inl _=>some (.inl ())
  | .inr (g,b)=>.bind (if(a.length:Int)==0 then some true else some (decide ((a.length:Int)>400))) fun f=>.bind (if f then some true else some (decide (g>64))) fun e=>.bind (if e then some true else if y0 b (W ((a.length:Int)-1))then some ((gt b (W ((a.length:Int)-1))) != 0)else none) fun d=>if d then some (.inl ())else some (.inr b)else none
def H08 (F:Nat):Sm en.D:=⟨53,[.d (.list (.st 0))],.alt .nil (.own 3 (.int .i64)),[],fun a=>D0H F a⟩
def V0X (F:Nat):=R0 [J0K F] 53 ⟨[(15,[(.nrm,⟨[(4,.d (.int .i64))],[]⟩)]),(20,[(.ret,⟨[(2,.nil)],[]⟩),(.nrm,⟨[(9,.d (.int .i64))],[]⟩)]),(24,[(.ret,⟨[(2,.nil)],[]⟩),(.nrm,⟨[],[(0,.own 3 (.int .i64))]⟩)])],[(25,⟨[(10,.d (.int .i64))],[]⟩,[(.ret,⟨[(2,.nil),(10,.any)],[]⟩),(.ex 2,⟨[(10,.any)],[]⟩)]),(4,⟨[(4,.d (.int .i64)),(5,.d (.int .i64))],[(0,.own 3 (.int .i64))]⟩,[(.ret,⟨[(2,.nil),(4,.any),(5,.any)],[(0,.any)]⟩),(.ex 0,⟨[(4,.d (.int .i64)),(5,.any)],[(0,.own 3 (.int .i64))]⟩)])],[(9,4,7,⟨[(37,.any),(41,.d .bool)],[]⟩),(9,9,18,⟨[(42,.any),(52,.d .bool)],[]⟩),(9,13,17,⟨[(46,.any),(51,.d .bool)],[]⟩),(9,20,28,⟨[(53,.any),(62,.d .bool)],[]⟩),(9,24,27,⟨[(57,.any),(61,.d .bool)],[]⟩),(9,30,43,⟨[(63,.any),(77,.d .bool)],[]⟩),(9,34,42,⟨[(67,.any),(76,.d .bool)],[]⟩),(11,3,6,⟨[(80,.any),(84,.d .bool)],[]⟩),(11,8,15,⟨[(85,.any),(93,.d .bool)],[]⟩),(11,11,14,⟨[(88,.any),(92,.d .bool)],[]⟩),(17,5,7,⟨[(106,.any),(109,.d .bool)],[]⟩),(21,5,7,⟨[(120,.any),(123,.d .bool)],[]⟩),(27,4,10,⟨[(143,.any),(150,.d .bool)],[]⟩),(27,12,20,⟨[(151,.any),(160,.d .bool)],[]⟩),(29,4,7,⟨[(164,.any),(168,.d .bool)],[]⟩),(29,9,11,⟨[(169,.any),(172,.d .bool)],[]⟩),(29,13,20,⟨[(173,.any),(181,.d .bool)],[]⟩)],[]⟩ F
def C0n (F:Nat)(c:List U0):Option Bool:=.bind (D0H F c) fun a=>match a with
 | .inl _=>some false
 | .inr b=>if !b.isEmpty then some true else none
def D0J (F:Nat):Sm en.D:=⟨20,[.d (.list (.st 0))],.d .bool,[],fun a=>C0n F a⟩
def S0T (F:Nat):=R0 [H08 F] 20 U1 F
def K07 (F:Nat)(c:List U0)(d:(List Int)×Int):Option (T0 ((List Int)×Int) (List Int)):=match d with
 | (b,a)=>if decide (a<(c.length:Int))then .bind (α:=List Int) (if y0 c a then if((gt c a).Kind)==2 then if C1 8 b [a]then some (b++[a])else none else some b else none) fun e=>some (.next (e,W (a+1)))else some (.done b)
def C0z (F:Nat)(a:List U0):Option (List Int):=.bind (C0n F a) fun c=>if !c then some []else .bind (α:=List Int) (iter (K07 F a) F ([],0)) fun b=>some b
def E0t (F:Nat):Sm en.D:=⟨39,[.d (.list (.st 0))],.own 3 (.int .i64),[],fun a=>C0z F a⟩
def Q0W (F:Nat):=R0 [D0J F] 39 ⟨[(6,[(.nrm,⟨[(3,.own 3 (.int .i64))],[(0,.any)]⟩)])],[(5,⟨[(3,.own 3 (.int .i64)),(4,.d (.int .i64))],[]⟩,[(.ex 0,⟨[(3,.own 3 (.int .i64)),(4,.any)],[]⟩)])],[],[]⟩ F
def G05 (F:Nat)(c:List U0):Option (List Int):=.bind (D0H F c) fun a=>match a with
 | .inl _=>some []
 | .inr b=>some b
def I09 (F:Nat):Sm en.D:=⟨134,[.d (.list (.st 0))],.own 3 (.int .i64),[],fun a=>G05 F a⟩
def R0J (F:Nat):=R0 [H08 F] 134 U1 F
def H0k (F:Nat)(b:List U0)(d:Int)(c:Int)(e:Bool×Int):Option (T0 (Bool×Int) Bool):=match e with
 | (is,a)=>if decide (a<=d)then .bind (if is then some true else if y0 b a then .bind (if((gt b a).Kind)==7 then if y0 b a then some (((gt b a).N)==c)else none else some false) fun f=>some f else none) fun g=>some (.next (g,W (a+1)))else some (.done is)
def G0Z (F:Nat)(g:List U0)(c:Int)(d:List Int)(e:(List Int)×Int):Option (T0 ((List Int)×Int) (List Int)):=match e with
 | (b,a)=>if decide (a<=9)then .bind (α:=List Int) (if y0 d c then .bind (iter (H0k F g c a) F (false,gt d c)) fun f=>if f then if C1 8 b [a]then some (b++[a])else none else some b else none) fun h=>some (.next (h,W (a+1)))else some (.done b)
def G0C (F:Nat)(c:List U0)(a:Int):Option (List Int):=.bind (G05 F c) fun b=>.bind (if decide (a<0)then some true else some (decide (a>=(b.length:Int)))) fun d=>if d then some []else .bind (α:=List Int) (iter (G0Z F c a b) F ([],1)) fun e=>some e
def J0w (F:Nat):Sm en.D:=⟨97,[.d (.list (.st 0)),.d (.int .i64)],.own 3 (.int .i64),[],fun a=>G0C F a.1 a.2⟩
def P0t (F:Nat):=R0 [I09 F] 97 ⟨[(7,[(.nrm,⟨[(6,.own 3 (.int .i64))],[(1,.any)]⟩)])],[(10,⟨[(8,.d .bool),(9,.d (.int .i64))],[]⟩,[(.ex 2,⟨[(8,.d .bool),(9,.any)],[]⟩)]),(6,⟨[(6,.own 3 (.int .i64)),(7,.d (.int .i64))],[]⟩,[(.ex 0,⟨[(6,.own 3 (.int .i64)),(7,.any)],[]⟩)])],[(3,3,7,⟨[(14,.any),(19,.d .bool)],[]⟩),(12,2,17,⟨[(34,.any),(50,.d .bool)],[]⟩),(12,9,16,⟨[(41,.any),(49,.d .bool)],[]⟩)],[]⟩ F
def I0d (F:Nat)(b:List U0):Option Int:=.bind (G0C F b (W ((b.length:Int)-1))) fun a=>if(a.length:Int)==0 then some 0 else if y0 a (W ((a.length:Int)-1))then some (gt a (W ((a.length:Int)-1)))else none
def L0x (F:Nat):Sm en.D:=⟨70,[.d (.list (.st 0))],.d (.int .i64),[],fun a=>I0d F a⟩
def T0t (F:Nat):=R0 [J0w F] 70 U1 F
def F0l (F:Nat)(a:List U0):Option Int:=.bind (C0n F a) fun b=>if !b then some 0 else .bind (I0d F a) fun c=>some (W (1+(W (2*c))))
def F0R (F:Nat):Sm en.D:=⟨40,[.d (.list (.st 0))],.d (.int .i64),[],fun a=>F0l F a⟩
def P0W (F:Nat):=R0 [D0J F,L0x F] 40 U1 F
def i0s (F:Nat)(b:List Int)(d:Int×Int):Option (T0 (Int×Int) (Unit⊕Unit)):=match d with
 | (c,a)=>if decide (a<(b.length:Int))then if y0 b a then .bind (if decide ((gt b a)<0)then some true else some (decide ((gt b a)>c))) fun e=>if e then some (.done (.inl ()))else let f:=if(W ((gt b a)+1))>c then W ((gt b a)+1)else c;
    some (.next (f,W (a+1)))else none else some (.done (.inr ()))
def c0A (F:Nat)(a:List Int):Option Bool:=.bind (α:=Unit⊕Unit) (iter (i0s F a) F (0,0)) fun b=>match b with
 | .inl _=>some false
 | .inr _=>some ((a.length:Int)==256)
def e0G (F:Nat):Sm en.D:=⟨71,[.d (.list (.int .i64))],.d .bool,[],fun a=>c0A F a⟩
def z0C (F:Nat):=R0 [] 71 ⟨[],[(3,⟨[(3,.d (.int .i64)),(8,.d (.int .i64))],[]⟩,[(.ret,⟨[(2,.kb false),(3,.any),(8,.any)],[]⟩),(.ex 0,⟨[(3,.any),(8,.any)],[]⟩)])],[(5,3,6,⟨[(14,.any),(18,.d .bool)],[]⟩)],[]⟩ F
def j0Y (F:Nat)(c:List Int)(d:(List Int)×Int):Option (T0 ((List Int)×Int) (List Int)):=match d with
 | (b,a)=>if decide (a<(c.length:Int))then .bind (α:=List Int) (if y0 c a then if(gt c a)==(b.length:Int)then if C1 1 b [IntKind.u8.wrap (a)]then some (b++[IntKind.u8.wrap (a)])else none else some b else none) fun e=>some (.next (e,W (a+1)))else some (.done b)
def c0m (F:Nat)(a:List Int):Option (List Int):=.bind (c0A F a) fun c=>if !c then some []else .bind (α:=List Int) (iter (j0Y F a) F ([],0)) fun b=>some b
def e0E (F:Nat):Sm en.D:=⟨72,[.d (.list (.int .i64))],.own 5 (.int .u8),[],fun a=>c0m F a⟩
def x0y (F:Nat):=R0 [e0G F] 72 ⟨[(9,[(.nrm,⟨[(3,.own 5 (.int .u8))],[(0,.any)]⟩)])],[(5,⟨[(3,.own 5 (.int .u8)),(11,.d (.int .i64))],[]⟩,[(.ex 0,⟨[(3,.own 5 (.int .u8)),(11,.any)],[]⟩)])],[],[]⟩ F
def I0b (F:Nat)(c:b0D)(b:C0x)(g:Int):Option (T0 Int (Int⊕Unit)):=match g with
 | a=>if decide (a<(b.Moves.length:Int))then if y0 b.Moves a then .bind (if decide (((gt b.Moves a).To)<0)then some true else some (decide (((gt b.Moves a).To)>=c.Regs))) fun d=>.bind (if d then some true else some (decide (((gt b.Moves a).From)<(-1)))) fun f=>.bind (if f then some true else some (decide (((gt b.Moves a).From)>=c.Regs))) fun i=>.bind (if i then some true else let e:=((gt b.Moves a).From)==((gt b.Moves a).To);
     some e) fun h=>if h then some (.done (.inl a))else some (.next (W (a+1)))else none else some (.done (.inr ()))
def J0c (F:Nat)(b:b0D)(a:C0x):Option Bool:=.bind (if decide (a.To<(-1))then some true else some (decide (a.To>=(b.Stands.length:Int)))) fun f=>.bind (if f then some true else .bind (if a.To==(-1)then some (decide ((a.Moves.length:Int)>0))else some false) fun h=>some h) fun e=>.bind (if e then some true else let d:=decide ((a.Moves.length:Int)>(W (2*b.Regs)));
   some d) fun g=>if g then some false else .bind (α:=Int⊕Unit) (iter (I0b F b a) F 0) fun c=>match c with
  | .inl i=>some (!(decide (i>=0)))
  | .inr _=>some (!(decide ((-1)>=0)))
def L0L (F:Nat):Sm en.D:=⟨77,[.d (.st 4),.d (.st 2)],.d .bool,[],fun a=>J0c F a.1 a.2⟩
def U0h (F:Nat):X1 en:=⟨[],fun a=>if Nat.beq a 77 then⟨[],[],[(1,4,10,⟨[(8,.any),(15,.d .bool)],[]⟩),(1,12,21,⟨[(16,.any),(26,.d .bool)],[]⟩),(1,16,20,⟨[(20,.any),(25,.d .bool)],[]⟩),(1,23,30,⟨[(27,.any),(35,.d .bool)],[]⟩)],[]⟩else if Nat.beq a 104 then U1 else if Nat.beq a 105 then⟨[],[],[(1,4,9,⟨[(7,.any),(13,.d .bool)],[]⟩),(1,11,14,⟨[(14,.any),(18,.d .bool)],[]⟩),(1,16,21,⟨[(19,.any),(25,.d .bool)],[]⟩),(1,23,28,⟨[(26,.any),(32,.d .bool)],[]⟩)],[]⟩else if Nat.beq a 141 then⟨[],[(2,⟨[(8,.d (.int .i64))],[]⟩,[(.ret,⟨[(4,.d (.int .i64)),(8,.any)],[]⟩),(.ex 0,⟨[(8,.any)],[]⟩)])],[],[]⟩else U1,F,[]⟩
def H0h (F:Nat)(b:b0D)(c:Int)(f:Int):Option (T0 Int (Int⊕Unit)):=match f with
 | a=>let g:=decide (a<(((gt b.Stands c).Accept).length:Int));
 if g then if y0 ((gt b.Stands c).Accept) a then let h:=decide ((gt ((gt b.Stands c).Accept) a)<(-2));
   .bind (if h then some true else let e:=decide ((gt ((gt b.Stands c).Accept) a)>=b.Regs);
     some e) fun d=>if d then some (.done (.inl a))else some (.next (W (a+1)))else none else some (.done (.inr ()))
def H0u (F:Nat)(b:b0D)(c:Int)(d:Int):Option (T0 Int (Int⊕Unit)):=match d with
 | a=>let f:=decide (a<(((gt b.Stands c).c0s).length:Int));
 if f then if y0 ((gt b.Stands c).c0s) a then .bind (J0c F b (gt ((gt b.Stands c).c0s) a)) fun e=>if !e then some (.done (.inl a))else some (.next (W (a+1)))else none else some (.done (.inr ()))
def I0c (F:Nat)(b:b0D)(g:List Int)(j:Int):Option (T0 Int (Unit⊕Unit)):=match j with
 | a=>if decide (a<(b.Stands.length:Int))then if y0 b.Stands a then .bind (if(((gt b.Stands a).Accept).length:Int) != 0 then let i:=(((gt b.Stands a).Accept).length:Int) != b.Tags;
     some i else some false) fun k=>.bind (if k then some true else .bind (α:=Int⊕Unit) (iter (H0h F b a) F 0) fun c=>match c with
     | .inl d=>some (decide (d>=0))
     | .inr _=>some (decide ((-1)>=0))) fun f=>.bind (if f then some true else let l:=(((gt b.Stands a).c0s).length:Int) != (g.length:Int);
     some l) fun e=>if e then some (.done (.inl ()))else .bind (.bind (α:=Int⊕Unit) (iter (H0u F b a) F 0) fun c=>match c with
     | .inl d=>some (decide (d>=0))
     | .inr _=>some (decide ((-1)>=0))) fun h=>if h then some (.done (.inl ()))else some (.next (W (a+1)))else none else some (.done (.inr ()))
def H0S (F:Nat)(a:b0D):Option Bool:=.bind (if decide (a.Tags<1)then some true else some (decide (a.Tags>19))) fun d=>.bind (if d then some true else some ((a.Tags.tmod 2)==0)) fun h=>.bind (if h then some true else some (decide (a.Regs<1))) fun j=>.bind (if j then some true else some (decide (a.Regs>1217))) fun g=>.bind (if g then some true else some ((a.Stands.length:Int)==0)) fun f=>.bind (if f then some true else some (decide ((a.Stands.length:Int)>400))) fun i=>.bind (if i then some true else .bind (c0A F a.Class) fun k=>some (!k)) fun c=>if c then some false else .bind (c0m F a.Class) fun e=>.bind (α:=Unit⊕Unit) (iter (I0c F a e) F 0) fun b=>match b with
  | .inl _=>some false
  | .inr _=>some true
def H01 (F:Nat):Sm en.D:=⟨41,[.d (.st 4)],.d .bool,[],fun a=>H0S F a⟩
def U0T (F:Nat):X1 en:=⟨[e0G F,e0E F,L0L F],fun a=>if Nat.beq a 41 then⟨[(11,[(.nrm,⟨[(89,.d .bool)],[]⟩)])],[(6,⟨[(57,.d (.int .i64))],[]⟩,[(.ret,⟨[(2,.kb false),(57,.any)],[]⟩),(.ex 0,⟨[(57,.any)],[]⟩)])],[(1,4,7,⟨[(10,.any),(14,.d .bool)],[]⟩),(1,9,13,⟨[(15,.any),(20,.d .bool)],[]⟩),(1,15,18,⟨[(21,.any),(25,.d .bool)],[]⟩),(1,20,23,⟨[(26,.any),(30,.d .bool)],[]⟩),(1,25,29,⟨[(31,.any),(36,.d .bool)],[]⟩),(1,31,35,⟨[(37,.any),(42,.d .bool)],[]⟩),(1,37,41,⟨[(43,.any),(48,.d .bool)],[]⟩),(8,5,11,⟨[(65,.any),(72,.d .bool)],[]⟩),(8,13,17,⟨[(73,.any),(78,.d .bool)],[]⟩),(8,19,24,⟨[(79,.any),(85,.d .bool)],[]⟩)],[]⟩else if Nat.beq a 73 then⟨[],[],[(1,3,7,⟨[(6,.any),(11,.d .bool)],[]⟩)],[]⟩else if Nat.beq a 74 then U1 else if Nat.beq a 75 then U1 else if Nat.beq a 76 then U1 else if Nat.beq a 102 then⟨[],[(2,⟨[(8,.d (.int .i64))],[]⟩,[(.ret,⟨[(4,.d (.int .i64)),(8,.any)],[]⟩),(.ex 0,⟨[(8,.any)],[]⟩)])],[],[]⟩else if Nat.beq a 103 then⟨[],[(2,⟨[(8,.d (.int .i64))],[]⟩,[(.ret,⟨[(4,.d (.int .i64)),(8,.any)],[]⟩),(.ex 0,⟨[(8,.any)],[]⟩)])],[],[]⟩else U1,F,[]⟩
def i0c (F:Nat)(b:List Int)(g:Int×Int):Option (T0 (Int×Int) (Unit⊕Unit)):=match g with
 | (c,a)=>if decide (a<(b.length:Int))then .bind (α:=Unit⊕Int) (if y0 b a then .bind (if decide ((gt b a)<0)then some true else if y0 b a then some (decide ((gt b a)>c))else none) fun e=>if e then some (.inl ())else if y0 b a then if(gt b a)==c then some (.inr (W (c+1)))else some (.inr c)else none else none) fun d=>match d with
  | .inl _=>some (.done (.inl ()))
  | .inr f=>some (.next (f,W (a+1)))else some (.done (.inr ()))
def c0t (F:Nat)(a:List Int):Option Bool:=.bind (α:=Unit⊕Unit) (iter (i0c F a) F (0,0)) fun b=>match b with
 | .inl _=>some false
 | .inr _=>some ((a.length:Int)==256)
def e0f (F:Nat):Sm en.D:=⟨65,[.d (.list (.int .i64))],.d .bool,[],fun a=>c0t F a⟩
def p0H (F:Nat):=R0 [] 65 ⟨[(4,[(.ret,⟨[(2,.kb false)],[]⟩),(.nrm,⟨[(3,.d (.int .i64))],[]⟩)])],[(3,⟨[(3,.d (.int .i64)),(4,.d (.int .i64))],[]⟩,[(.ret,⟨[(2,.kb false),(3,.any),(4,.any)],[]⟩),(.ex 0,⟨[(3,.any),(4,.any)],[]⟩)])],[(5,6,12,⟨[(16,.any),(23,.d .bool)],[]⟩)],[]⟩ F
def h07 (F:Nat)(c:List Int)(d:(List Int)×Int):Option (T0 ((List Int)×Int) (List Int)):=match d with
 | (b,a)=>if decide (a<256)then .bind (α:=List Int) (if y0 c a then if(gt c a)==(b.length:Int)then if C1 1 b [IntKind.u8.wrap (a)]then some (b++[IntKind.u8.wrap (a)])else none else some b else none) fun e=>some (.next (e,W (a+1)))else some (.done b)
def g0b (F:Nat)(a:List Int):Option (List Int):=.bind (c0t F a) fun c=>if !c then some []else .bind (α:=List Int) (iter (h07 F a) F ([],0)) fun b=>some b
def j06 (F:Nat):Sm en.D:=⟨66,[.d (.list (.int .i64))],.own 5 (.int .u8),[],fun a=>g0b F a⟩
def u0P (F:Nat):=R0 [e0f F] 66 ⟨[(6,[(.nrm,⟨[(3,.own 5 (.int .u8))],[(0,.any)]⟩)])],[(5,⟨[(3,.own 5 (.int .u8)),(4,.d (.int .i64))],[]⟩,[(.ex 0,⟨[(3,.own 5 (.int .u8)),(4,.any)],[]⟩)])],[],[]⟩ F
def H02 (F:Nat)(c:b0D)(b:C0x)(g:Int):Option (T0 Int (Unit⊕Unit)):=match g with
 | a=>if decide (a<(b.Moves.length:Int))then if y0 b.Moves a then .bind (if decide (((gt b.Moves a).To)<0)then some true else some (decide (((gt b.Moves a).To)>=c.Regs))) fun e=>.bind (if e then some true else some (decide (((gt b.Moves a).From)<(-1)))) fun d=>.bind (if d then some true else some (decide (((gt b.Moves a).From)>=c.Regs))) fun f=>.bind (if f then some true else some (((gt b.Moves a).From)==((gt b.Moves a).To))) fun h=>if h then some (.done (.inl ()))else some (.next (W (a+1)))else none else some (.done (.inr ()))
def I0Q (F:Nat)(b:b0D)(a:C0x):Option Bool:=.bind (if decide (a.To<(-1))then some true else some (decide (a.To>=(b.Stands.length:Int)))) fun f=>.bind (if f then some true else .bind (if a.To==(-1)then some (decide ((a.Moves.length:Int)>0))else some false) fun h=>some h) fun e=>.bind (if e then some true else let d:=decide ((a.Moves.length:Int)>(W (2*b.Regs)));
   some d) fun g=>if g then some false else .bind (α:=Unit⊕Unit) (iter (H02 F b a) F 0) fun c=>match c with
  | .inl _=>some false
  | .inr _=>some true
def K0M (F:Nat):Sm en.D:=⟨67,[.d (.st 4),.d (.st 2)],.d .bool,[],fun a=>I0Q F a.1 a.2⟩
def T05 (F:Nat):=R0 [] 67 ⟨[],[(4,⟨[(5,.d (.int .i64))],[]⟩,[(.ret,⟨[(4,.kb false),(5,.any)],[]⟩),(.ex 0,⟨[(5,.any)],[]⟩)])],[(1,4,10,⟨[(10,.any),(17,.d .bool)],[]⟩),(1,12,21,⟨[(18,.any),(28,.d .bool)],[]⟩),(1,16,20,⟨[(22,.any),(27,.d .bool)],[]⟩),(1,23,30,⟨[(29,.any),(37,.d .bool)],[]⟩),(7,4,9,⟨[(53,.any),(59,.d .bool)],[]⟩),(7,11,14,⟨[(60,.any),(64,.d .bool)],[]⟩),(7,16,21,⟨[(65,.any),(71,.d .bool)],[]⟩),(7,23,28,⟨[(72,.any),(78,.d .bool)],[]⟩)],[]⟩ F
def H0t (F:Nat)(b:b0D)(c:Int)(f:Int):Option (T0 Int (Unit⊕Unit)):=match f with
 | a=>let g:=decide (a<(((gt b.Stands c).Accept).length:Int));
 if g then if y0 ((gt b.Stands c).Accept) a then let d:=decide ((gt ((gt b.Stands c).Accept) a)<(-2));
   .bind (if d then some true else if y0 ((gt b.Stands c).Accept) a then let e:=decide ((gt ((gt b.Stands c).Accept) a)>=b.Regs);
      some e else none) fun h=>if h then some (.done (.inl ()))else some (.next (W (a+1)))else none else some (.done (.inr ()))
def H0r (F:Nat)(b:b0D)(d:List Int)(c:Int)(e:Int):Option (T0 Int (Unit⊕Unit)):=match e with
 | a=>if decide (a<(d.length:Int))then if y0 ((gt b.Stands c).c0s) a then .bind (I0Q F b (gt ((gt b.Stands c).c0s) a)) fun f=>if !f then some (.done (.inl ()))else some (.next (W (a+1)))else none else some (.done (.inr ()))
def I0s (F:Nat)(a:b0D)(d:List Int)(h:Int):Option (T0 Int (Unit⊕Unit)):=match h with
 | b=>if decide (b<(a.Stands.length:Int))then if y0 a.Stands b then .bind (if(((gt a.Stands b).Accept).length:Int) != 0 then let e:=(((gt a.Stands b).Accept).length:Int) != a.Tags;
     some e else some false) fun g=>.bind (if g then some true else let i:=(((gt a.Stands b).c0s).length:Int) != (d.length:Int);
     some i) fun f=>if f then some (.done (.inl ()))else .bind (α:=Unit⊕Unit) (iter (H0t F a b) F 0) fun c=>match c with
    | .inl _=>some (.done (.inl ()))
    | .inr _=>.bind (α:=Unit⊕Unit) (iter (H0r F a d b) F 0) fun c=>match c with
     | .inl _=>some (.done (.inl ()))
     | .inr _=>some (.next (W (b+1)))else none else some (.done (.inr ()))
def I0Y (F:Nat)(a:b0D):Option Bool:=.bind (if decide (a.Tags<1)then some true else some (decide (a.Tags>19))) fun d=>.bind (if d then some true else some ((a.Tags.tmod 2)==0)) fun h=>.bind (if h then some true else some (decide (a.Regs<1))) fun j=>.bind (if j then some true else some (decide (a.Regs>1217))) fun g=>.bind (if g then some true else some (decide ((a.Stands.length:Int)<1))) fun f=>.bind (if f then some true else some (decide ((a.Stands.length:Int)>400))) fun i=>.bind (if i then some true else .bind (c0t F a.Class) fun k=>some (!k)) fun c=>if c then some false else .bind (g0b F a.Class) fun e=>.bind (α:=Unit⊕Unit) (iter (I0s F a e) F 0) fun b=>match b with
  | .inl _=>some false
  | .inr _=>some true
def M0g (F:Nat):Sm en.D:=⟨31,[.d (.st 4)],.d .bool,[],fun a=>I0Y F a⟩
def P0X (F:Nat):=R0 [e0f F,j06 F,K0M F] 31 ⟨[],[(11,⟨[(6,.d (.int .i64))],[]⟩,[(.ret,⟨[(2,.kb false),(6,.any)],[]⟩),(.ex 2,⟨[(6,.any)],[]⟩)]),(16,⟨[(7,.d (.int .i64))],[]⟩,[(.ret,⟨[(2,.kb false),(7,.any)],[]⟩),(.ex 4,⟨[(7,.any)],[]⟩)]),(5,⟨[(4,.d (.int .i64))],[]⟩,[(.ret,⟨[(2,.kb false),(4,.any)],[]⟩),(.ex 0,⟨[(4,.any)],[]⟩)])],[(1,4,7,⟨[(11,.any),(15,.d .bool)],[]⟩),(1,9,13,⟨[(16,.any),(21,.d .bool)],[]⟩),(1,15,18,⟨[(22,.any),(26,.d .bool)],[]⟩),(1,20,23,⟨[(27,.any),(31,.d .bool)],[]⟩),(1,25,29,⟨[(32,.any),(37,.d .bool)],[]⟩),(1,31,35,⟨[(38,.any),(43,.d .bool)],[]⟩),(1,37,41,⟨[(44,.any),(49,.d .bool)],[]⟩),(8,5,11,⟨[(70,.any),(77,.d .bool)],[]⟩),(8,13,18,⟨[(78,.any),(84,.d .bool)],[]⟩),(13,7,15,⟨[(98,.any),(107,.d .bool)],[]⟩)],[]⟩ F
def C02 (F:Nat)(a:List Int)(b:List Int):Option (List Int):=if C1 8 ([]:List Int) a then if C1 8 ([]++a) b then some (([]++a)++b)else none else none
def I0Z (F:Nat):Sm en.D:=⟨186,[.d (.list (.int .i64)),.d (.list (.int .i64))],.own 3 (.int .i64),[],fun a=>C02 F a.1 a.2⟩
def S0Y (F:Nat):=R0 [] 186 U1 F
def B08 (F:Nat):Nat->(List U0)->(List Bool)->Int->Option (List Int)
 | 0,_,_,_=>none
 | d+1,b,c,a=>.bind (α:=List Int) (if y0 b a then if((gt b a).Kind)==3 then if y0 b a then .bind (B08 F d b c ((gt b a).A)) fun e=>if C1 8 [W (2*a)] e then if y0 b a then .bind (B08 F d b c ((gt b a).B)) fun h=>if C1 8 ([W (2*a)]++e) h then some (([W (2*a)]++e)++h)else none else none else none else none else if((gt b a).Kind)==4 then if y0 b a then if y0 c ((gt b a).A)then if gt c ((gt b a).A)then if y0 b a then .bind (B08 F d b c ((gt b a).A)) fun i=>if C1 8 [W (2*a)] i then some ([W (2*a)]++i)else none else none else if y0 b a then .bind (B08 F d b c ((gt b a).B)) fun g=>if C1 8 [W (2*a)] g then some ([W (2*a)]++g)else none else none else none else none else .bind (if((gt b a).Kind)==7 then some (((gt b a).Kind)==7)else some (((gt b a).Kind)==8)) fun k=>if k then if y0 b a then .bind (B08 F d b c ((gt b a).A)) fun j=>if C1 8 [W (2*a)] j then some ([W (2*a)]++j)else none else none else some [W (2*a)]else none) fun f=>if C1 8 f [W ((W (2*a))+1)]then some (f++[W ((W (2*a))+1)])else none
def F0G (F b:Nat):Sm en.D:=⟨187,[.d (.list (.st 0)),.d (.list .bool),.d (.int .i64)],.own 3 (.int .i64),[],fun a=>B08 F b a.1 a.2.1 a.2.2⟩
def P0S (F a:Nat):=R0 [F0G F a] 187 ⟨[(12,[(.nrm,⟨[(68,.d .bool)],[]⟩)]),(13,[(.nrm,⟨[(7,.own 3 (.int .i64))],[(0,.any)]⟩)])],[],[],[]⟩ F
def C0h (F:Nat):Nat->(List U0)->(List Int)->(List Bool)->Int->(List Int)->Option (List E1)
 | 0,_,_,_,_,_=>none
 | f+1,a,d,c,b,n=>if y0 a b then .bind (C02 F n [W (2*b)]) fun e=>if((gt a b).Kind)==2 then if y0 d b then some [(⟨gt d b,0,e⟩:E1)]else none else if((gt a b).Kind)==3 then .bind (C0h F f a d c ((gt a b).A) e) fun g=>.bind (α:=List E1) (if y0 c ((gt a b).A)then if gt c ((gt a b).A)then .bind (B08 F F a c ((gt a b).A)) fun p=>.bind (C02 F e p) fun k=>.bind (C0h F f a d c ((gt a b).B) k) fun i=>if C1 40 g i then some (g++i)else none else some g else none) fun l=>some l else if((gt a b).Kind)==4 then .bind (C0h F f a d c ((gt a b).A) e) fun h=>.bind (C0h F f a d c ((gt a b).B) e) fun j=>if C1 40 h j then some (h++j)else none else .bind (if((gt a b).Kind)==5 then some (((gt a b).Kind)==5)else if((gt a b).Kind)==6 then some (((gt a b).Kind)==6)else if((gt a b).Kind)==7 then some (((gt a b).Kind)==7)else some (((gt a b).Kind)==8)) fun m=>if m then .bind (C0h F f a d c ((gt a b).A) e) fun o=>some o else some []else none
def G0U (F b:Nat):Sm en.D:=⟨160,[.d (.list (.st 0)),.d (.list (.int .i64)),.d (.list .bool),.d (.int .i64),.d (.list (.int .i64))],.own 194 (.st 10),[],fun a=>C0h F b a.1 a.2.1 a.2.2.1 a.2.2.2.1 a.2.2.2.2⟩
def P0o (F a:Nat):=R0 [G0U F a,I0Z F,F0G F F] 160 ⟨[(10,[(.nrm,⟨[(13,.own 194 (.st 10))],[(3,.any)]⟩)]),(17,[(.nrm,⟨[(81,.d .bool)],[]⟩)])],[],[],[]⟩ F
def J0F (F:Nat)(d:List U0)(g:Int×Int×(List Int)):Option (T0 (Int×Int×(List Int)) (List Int)):=match g with
 | (c,a,b)=>if decide (a<(d.length:Int))then .bind (α:=Int×(List Int)) (if y0 b a then if y0 d a then if((gt d a).Kind)==2 then if y0 (b.set a.toNat (-1)) a then some (W (c+1),(b.set a.toNat (-1)).set a.toNat c)else none else some (c,b.set a.toNat (-1))else none else none) fun(f,e)=>some (.next (f,W (a+1),e))else some (.done b)
def D0x (F:Nat)(a:List U0):Option (List Int):=.bind (C0n F a) fun b=>if !b then some []else if S5 8 (a.length:Int)then .bind (α:=List Int) (iter (J0F F a) F (0,0,(List.replicate (a.length:Int).toNat 0:List Int))) fun c=>some c else none
def I0R (F:Nat):Sm en.D:=⟨161,[.d (.list (.st 0))],.own 3 (.int .i64),[],fun a=>D0x F a⟩
def T0e (F:Nat):=R0 [D0J F] 161 ⟨[(6,[(.nrm,⟨[(4,.d (.int .i64))],[(0,.own 3 (.int .i64))]⟩)])],[(5,⟨[(4,.d (.int .i64)),(5,.d (.int .i64))],[(0,.own 3 (.int .i64))]⟩,[(.ex 0,⟨[(4,.any),(5,.any)],[(0,.own 3 (.int .i64))]⟩)])],[],[]⟩ F
def J0Y (F:Nat)(b:List U0)(g:Int×(List Bool)):Option (T0 (Int×(List Bool)) (List Bool)):=match g with
 | (a,c)=>if decide (a<(b.length:Int))then .bind (α:=List Bool) (if y0 b a then .bind (if((gt b a).Kind)==1 then some (((gt b a).Kind)==1)else if((gt b a).Kind)==5 then some (((gt b a).Kind)==5)else some (((gt b a).Kind)==6)) fun e=>if e then if y0 c a then some (c.set a.toNat true)else none else if((gt b a).Kind)==3 then if y0 b a then if y0 c ((gt b a).A)then .bind (if gt c ((gt b a).A)then if y0 b a then if y0 c ((gt b a).B)then some (gt c ((gt b a).B))else none else none else some false) fun h=>if y0 c a then some (c.set a.toNat h)else none else none else none else if((gt b a).Kind)==4 then if y0 b a then if y0 c ((gt b a).A)then .bind (if gt c ((gt b a).A)then some true else if y0 b a then if y0 c ((gt b a).B)then some (gt c ((gt b a).B))else none else none) fun i=>if y0 c a then some (c.set a.toNat i)else none else none else none else .bind (if((gt b a).Kind)==7 then some (((gt b a).Kind)==7)else some (((gt b a).Kind)==8)) fun f=>if f then if y0 b a then if y0 c ((gt b a).A)then if y0 c a then some (c.set a.toNat (gt c ((gt b a).A)))else none else none else none else some c else none) fun d=>some (.next (W (a+1),d))else some (.done c)
def D0k (F:Nat)(a:List U0):Option (List Bool):=.bind (C0n F a) fun b=>if !b then some []else if S5 1 (a.length:Int)then .bind (α:=List Bool) (iter (J0Y F a) F (0,(List.replicate (a.length:Int).toNat false:List Bool))) fun c=>some c else none
def G0N (F:Nat):Sm en.D:=⟨162,[.d (.list (.st 0))],.own 4 .bool,[],fun a=>D0k F a⟩
def V0d (F:Nat):=R0 [D0J F] 162 ⟨[(11,[(.nrm,⟨[(22,.d .bool)],[]⟩)]),(18,[(.nrm,⟨[(75,.d .bool)],[]⟩)]),(6,[(.nrm,⟨[],[(0,.own 4 .bool)]⟩)])],[(5,⟨[(4,.d (.int .i64))],[(0,.own 4 .bool)]⟩,[(.ex 0,⟨[(4,.any)],[(0,.own 4 .bool)]⟩)])],[(13,11,19,⟨[(41,.any),(50,.d .bool)],[]⟩),(15,11,19,⟨[(64,.any),(73,.d .bool)],[]⟩)],[]⟩ F
def D0V (F:Nat)(a:List U0)(b:Int):Option (List E1):=.bind (C0n F a) fun h=>.bind (if !h then some true else some (decide (b<0))) fun d=>.bind (if d then some true else some (decide (b>=(a.length:Int)))) fun e=>if e then some []else .bind (D0x F a) fun c=>.bind (D0k F a) fun f=>.bind (C0h F F a c f b []) fun g=>some g
def K0P (F:Nat):Sm en.D:=⟨118,[.d (.list (.st 0)),.d (.int .i64)],.own 194 (.st 10),[],fun a=>D0V F a.1 a.2⟩
def W06 (F:Nat):=R0 [D0J F,G0U F F,I0R F,G0N F] 118 ⟨[],[],[(1,4,6,⟨[(8,.any),(11,.d .bool)],[]⟩),(1,8,12,⟨[(12,.any),(17,.d .bool)],[]⟩)],[]⟩ F
def L0V (F:Nat)(d:List U0)(c:Int×(List Int)):Option (T0 (Int×(List Int)) (List Int)):=match c with
 | (a,b)=>if decide (a<(d.length:Int))then if y0 b a then some (.next (W (a+1),b.set a.toNat (-1)))else none else some (.done b)
def M0o (F:Nat)(b:List U0)(e:Int×(List Int)):Option (T0 (Int×(List Int)) (List Int)):=match e with
 | (a,c)=>if decide (a<(b.length:Int))then .bind (α:=List Int) (.bind (α:=List Int) (if y0 b a then if decide (((gt b a).A)>=0)then if y0 b a then if y0 c ((gt b a).A)then some (c.set ((gt b a).A).toNat a)else none else none else some c else none) fun d=>if y0 b a then if decide (((gt b a).B)>=0)then if y0 b a then if y0 d ((gt b a).B)then some (d.set ((gt b a).B).toNat a)else none else none else some d else none) fun f=>some (.next (W (a+1),f))else some (.done c)
def D0E (F:Nat)(a:List U0):Option (List Int):=.bind (C0n F a) fun b=>if !b then some []else if S5 8 (a.length:Int)then .bind (α:=List Int) (iter (L0V F a) F (0,(List.replicate (a.length:Int).toNat 0:List Int))) fun d=>.bind (α:=List Int) (iter (M0o F a) F (0,d)) fun c=>some c else none
def I0g (F:Nat):Sm en.D:=⟨188,[.d (.list (.st 0))],.own 3 (.int .i64),[],fun a=>D0E F a⟩
def S0D (F:Nat):=R0 [D0J F] 188 ⟨[(10,[(.nrm,⟨[],[(0,.own 3 (.int .i64))]⟩)]),(13,[(.nrm,⟨[],[(0,.own 3 (.int .i64))]⟩)])],[(5,⟨[(4,.d (.int .i64))],[(0,.own 3 (.int .i64))]⟩,[(.ex 0,⟨[(4,.any)],[(0,.own 3 (.int .i64))]⟩)]),(9,⟨[(5,.d (.int .i64))],[(0,.own 3 (.int .i64))]⟩,[(.ex 2,⟨[(5,.any)],[(0,.own 3 (.int .i64))]⟩)])],[],[]⟩ F
def L0X (F:Nat)(c:List Int)(f:Int×(List Int)):Option (T0 (Int×(List Int)) (List Int)):=match f with
 | (a,b)=>if decide (a>=0)then .bind (α:=List Int) (if y0 b a then if y0 c a then if decide ((gt c a)>=0)then if y0 c a then if y0 (b.set a.toNat 1) (gt c a)then if y0 (b.set a.toNat 1) a then let d:=(b.set a.toNat 1).set a.toNat (W ((gt (b.set a.toNat 1) (gt c a))+1));
         some d else none else none else none else some (b.set a.toNat 1)else none else none) fun e=>some (.next (W (a-1),e))else some (.done b)
def D0D (F:Nat)(c:List U0):Option (List Int):=.bind (D0E F c) fun a=>if S5 8 (a.length:Int)then .bind (α:=List Int) (iter (L0X F a) F (W ((a.length:Int)-1),(List.replicate (a.length:Int).toNat 0:List Int))) fun b=>some b else none
def I0N (F:Nat):Sm en.D:=⟨189,[.d (.list (.st 0))],.own 3 (.int .i64),[],fun a=>D0D F a⟩
def T0x (F:Nat):=R0 [I0g F] 189 ⟨[(5,[(.nrm,⟨[],[(1,.own 3 (.int .i64))]⟩)])],[(4,⟨[(5,.d (.int .i64))],[(1,.own 3 (.int .i64))]⟩,[(.ex 0,⟨[(5,.any)],[(1,.own 3 (.int .i64))]⟩)])],[],[]⟩ F
def K0h (F:Nat)(b:List E1)(c:Int)(d:Int):Option (T0 Int (Unit⊕Unit)):=match d with
 | a=>if decide (a<(b.length:Int))then if y0 b a then if((gt b a).To)==c then some (.done (.inl ()))else some (.next (W (a+1)))else none else some (.done (.inr ()))
def D02 (F:Nat)(c:List E1)(b:Int):Option Bool:=.bind (α:=Unit⊕Unit) (iter (K0h F c b) F 0) fun a=>match a with
 | .inl _=>some true
 | .inr _=>some false
def K0q (F:Nat):Sm en.D:=⟨190,[.d (.list (.st 10)),.d (.int .i64)],.d .bool,[],fun a=>D02 F a.1 a.2⟩
def Q0m (F:Nat):=R0 [] 190 ⟨[],[(2,⟨[(5,.d (.int .i64))],[]⟩,[(.ret,⟨[(4,.kb true),(5,.any)],[]⟩),(.ex 0,⟨[(5,.any)],[]⟩)])],[],[]⟩ F
def J06 (F:Nat)(g:List Int)(f:List Int)(e:Int)(j:(List Int)×(List E1)×Int×(List E1)):Option (T0 ((List Int)×(List E1)×Int×(List E1)) ((List Int)×(List E1))):=match j with
 | (h,c,a,b)=>if decide (a<(b.length:Int))then .bind (α:=(List E1)×(List E1)) (if y0 b a then .bind (D02 F c ((gt b a).To)) fun known=>if !known then if y0 f (gt g e)then if y0 b a then let d:=b.set a.toNat ({ gt b a with Turn:=gt f (gt g e) });
       if y0 d a then if C1 40 c [gt d a]then some (c++[gt d a],d)else none else none else none else none else some (c,b)else none) fun(k,i)=>some (.next (h,k,W (a+1),i))else some (.done (h,c))
def L0y (F:Nat)(c:List U0)(b:List Int)(j:List Int)(k:(List Int)×(List Bool)×Int×(List Int)×(List E1)):Option (T0 ((List Int)×(List Bool)×Int×(List Int)×(List E1)) (((List E1)×E1)⊕((List Int)×(List E1)))):=match k with
 | (h,d,a,f,g)=>if y0 b a then if decide ((gt b a)>=0)then if y0 b a then .bind (α:=Int) (if y0 c (gt b a)then .bind (if((gt c (gt b a)).Kind)==3 then if y0 c (gt b a)then some (((gt c (gt b a)).A)==a)else none else some false) fun n=>if n then if y0 c (gt b a)then some ((gt c (gt b a)).B)else none else some (-1)else none) fun w=>.bind (α:=Int) (if y0 c (gt b a)then if((gt c (gt b a)).Kind)==5 then if y0 c (gt b a)then some ((gt c (gt b a)).A)else none else some w else none) fun e=>.bind (α:=(List Int)×(List E1)) (if decide (e>=0)then .bind (C0h F F c h d e f) fun s=>.bind (α:=(List Int)×(List E1)) (iter (J06 F b j a) F (f,g,0,s)) fun(q,u)=>some (q,u)else some (f,g)) fun(s4,i)=>.bind (α:=((List E1)×E1)⊕(List Int)) (if y0 c (gt b a)then .bind (if((gt c (gt b a)).Kind)==3 then if y0 c (gt b a)then some (((gt c (gt b a)).A)==a)else none else some false) fun p=>if p then if y0 d e then if !(gt d e)then some (.inl (i,(⟨0,0,[]⟩:E1)))else .bind (B08 F F c d e) fun l=>.bind (C02 F s4 l) fun v=>some (.inr v)else none else some (.inr s4)else none) fun m=>match m with
    | .inl (r,o)=>some (.done (.inl (r,o)))
    | .inr s5=>.bind (C02 F s5 [W ((W (2*(gt b a)))+1)]) fun t=>some (.next (h,d,gt b a,t,i))else none else some (.done (.inr (f,g)))else none
def D0w (F:Nat)(a:List U0)(c:Int):Option ((List E1)×E1×Bool):=.bind (D0E F a) fun i=>.bind (D0D F a) fun g=>.bind (D0x F a) fun f=>.bind (D0k F a) fun j=>.bind (C0z F a) fun b=>if y0 b c then .bind (α:=((List E1)×E1)⊕((List Int)×(List E1))) (iter (L0y F a i g) F (f,j,gt b c,[W ((W (2*(gt b c)))+1)],[])) fun d=>match d with
  | .inl (h,k)=>some (h,k,false)
  | .inr (s6,e)=>some (e,(⟨(-1),0,s6⟩:E1),true)else none
def I0V (F:Nat):Sm en.D:=⟨163,[.d (.list (.st 0)),.d (.int .i64)],.tup [.own 194 (.st 10),.d (.st 10),.d .bool],[],fun a=>D0w F a.1 a.2⟩
def X0k (F:Nat):=R0 [E0t F,G0U F F,I0R F,G0N F,I0Z F,F0G F F,I0g F,I0N F,K0q F] 163 ⟨[(10,[(.nrm,⟨[(15,.d (.int .i64))],[]⟩)]),(12,[(.nrm,⟨[(15,.d (.int .i64))],[]⟩)]),(16,[(.nrm,⟨[(13,.own 194 (.st 10))],[(9,.own 194 (.st 10)),(10,.any)]⟩)]),(20,[(.nrm,⟨[(12,.d (.list (.int .i64))),(13,.own 194 (.st 10))],[(7,.any),(8,.any)]⟩)]),(24,[(.ret,⟨[(4,.own 194 (.st 10)),(6,.kb false)],[(0,.box 194 [.d (.st 10)]),(9,.any)]⟩),(.nrm,⟨[(12,.d (.list (.int .i64)))],[]⟩)])],[(15,⟨[(12,.d (.list (.int .i64))),(13,.own 194 (.st 10)),(17,.d (.int .i64))],[(7,.any),(8,.any),(9,.own 194 (.st 10))]⟩,[(.ex 2,⟨[(12,.d (.list (.int .i64))),(13,.own 194 (.st 10)),(17,.any)],[(7,.any),(8,.any),(9,.any)]⟩)]),(5,⟨[(9,.d (.list (.int .i64))),(10,.d (.list .bool)),(11,.d (.int .i64)),(12,.own 3 (.int .i64)),(13,.own 194 (.st 10))],[(3,.any),(4,.any),(6,.any)]⟩,[(.ret,⟨[(4,.own 194 (.st 10)),(6,.kb false),(9,.any),(10,.any),(11,.any),(12,.any),(13,.any)],[(0,.box 194 [.d (.st 10)]),(3,.any),(4,.any),(6,.any)]⟩),(.ex 0,⟨[(9,.any),(10,.any),(11,.any),(12,.own 3 (.int .i64)),(13,.own 194 (.st 10))],[(3,.any),(4,.any),(6,.any)]⟩)])],[(8,7,14,⟨[(50,.any),(58,.d .bool)],[]⟩),(20,7,14,⟨[(118,.any),(126,.d .bool)],[]⟩)],[]⟩ F
def L0p (F:Nat)(b:List E1)(d:Int)(f:(List E1)×Int):Option (T0 ((List E1)×Int) (List E1)):=match f with
 | (c,a)=>if decide (a<(b.length:Int))then .bind (α:=List E1) (if y0 b a then if((gt b a).To)==d then if y0 b a then if C1 40 c [gt b a]then some (c++[gt b a])else none else none else some c else none) fun e=>some (.next (e,W (a+1)))else some (.done c)
def K09 (F:Nat)(f:List U0)(c:List E1)(e:(List E1)×Int):Option (T0 ((List E1)×Int) (List E1)):=match e with
 | (b,a)=>.bind (C0z F f) fun d=>if decide (a<(d.length:Int))then .bind (α:=List E1) (iter (L0p F c a) F (b,0)) fun g=>some (.next (g,W (a+1)))else some (.done b)
def D0N (F:Nat)(b:List U0)(a:Int):Option (List E1):=.bind (if decide (a<0)then some true else .bind (C0z F b) fun f=>some (decide (a>=(f.length:Int)))) fun c=>if c then some []else .bind (D0w F b a) fun(d,g,h)=>.bind (α:=List E1) (iter (K09 F b d) F ([],0)) fun e=>some e
def L0C (F:Nat):Sm en.D:=⟨119,[.d (.list (.st 0)),.d (.int .i64)],.own 194 (.st 10),[],fun a=>D0N F a.1 a.2⟩
def S0t (F:Nat):=R0 [E0t F,I0V F] 119 ⟨[(10,[(.nrm,⟨[(8,.own 194 (.st 10))],[(4,.any)]⟩)])],[(6,⟨[(8,.own 194 (.st 10)),(9,.d (.int .i64))],[]⟩,[(.ex 0,⟨[(8,.own 194 (.st 10)),(9,.any)],[]⟩)]),(9,⟨[(8,.own 194 (.st 10)),(10,.d (.int .i64))],[(2,.any),(3,.any)]⟩,[(.ex 2,⟨[(8,.own 194 (.st 10)),(10,.any)],[(2,.any),(3,.any)]⟩)])],[(1,3,8,⟨[(13,.any),(19,.d .bool)],[]⟩)],[]⟩ F
def D0X (F:Nat)(c:List U0)(a:Int):Option (List Int):=.bind (D0k F c) fun b=>.bind (if decide (a<0)then some true else some (decide (a>=(b.length:Int)))) fun d=>.bind (if d then some true else if y0 b a then some (!(gt b a))else none) fun e=>if e then some []else .bind (B08 F F c b a) fun f=>some f
def L03 (F:Nat):Sm en.D:=⟨164,[.d (.list (.st 0)),.d (.int .i64)],.own 3 (.int .i64),[],fun a=>D0X F a.1 a.2⟩
def P0z (F:Nat):=R0 [G0N F,F0G F F] 164 ⟨[],[],[(2,3,7,⟨[(10,.any),(15,.d .bool)],[]⟩),(2,9,14,⟨[(16,.any),(22,.d .bool)],[]⟩)],[]⟩ F
def D0c (F:Nat)(a:List U0)(b:Int):Option (E1×Bool):=.bind (if decide (b<(-1))then some true else .bind (C0n F a) fun i=>some (!i)) fun e=>.bind (if e then some true else .bind (C0z F a) fun g=>some (decide (b>=(g.length:Int)))) fun f=>if f then some ((⟨0,0,[]⟩:E1),false)else if b==(-1)then .bind (D0X F a (W ((a.length:Int)-1))) fun c=>if(c.length:Int)==0 then some ((⟨0,0,[]⟩:E1),false)else some ((⟨(-1),0,c⟩:E1),true)else .bind (D0w F a b) fun(j,d,h)=>some (d,h)
def I0F (F:Nat):Sm en.D:=⟨120,[.d (.list (.st 0)),.d (.int .i64)],.tup [.d (.st 10),.d .bool],[],fun a=>D0c F a.1 a.2⟩
def W0J (F:Nat):=R0 [D0J F,E0t F,I0V F,L03 F] 120 ⟨[],[],[(1,3,6,⟨[(12,.any),(16,.d .bool)],[]⟩),(1,8,13,⟨[(17,.any),(23,.d .bool)],[]⟩)],[]⟩ F
def G0B (F:Nat)(i:List U0)(l:(Int×((List U0)×(List Int)×(List E1)×(List (List E1))×(List (List Int))×Int×Int×P1))):Option (T0 (Int×((List U0)×(List Int)×(List E1)×(List (List E1))×(List (List Int))×Int×Int×P1)) ((List U0)×(List Int)×(List E1)×(List (List E1))×(List (List Int))×Int×Int×P1)):=match l with
 | (a,(j,c,g,b,d,At,h,k))=>if decide (a<(c.length:Int))then .bind (D0N F i a) fun f=>if C1 24 b [f]then .bind (D0c F i a) fun(e,m)=>if C1 24 d [e.Steps]then some (.next (W (a+1),(j,c,g,b++[f],d++[e.Steps],At,h,k)))else none else none else some (.done (j,c,g,b,d,At,h,k))
def J0h (F:Nat)(a:List U0):Option B07:=.bind (C0z F a) fun k=>.bind (D0V F a (W ((a.length:Int)-1))) fun b=>.bind (α:=(List U0)×(List Int)×(List E1)×(List (List E1))×(List (List Int))×Int×Int×P1) (iter (G0B F a) F (0,(a,k,b,[],[],0,0,(⟨[],[]⟩:P1)))) fun(f,i,h,g,j,c,e,d)=>some (⟨f,i,h,g,j,c,e,[],[],d⟩:B07)
def K06 (F:Nat):Sm en.D:=⟨85,[.d (.list (.st 0))],.d (.st 12),[],fun a=>J0h F a⟩
def Q0V (F:Nat):=R0 [E0t F,K0P F,L0C F,I0F F] 85 ⟨[],[(3,⟨[(4,.d (.int .i64))],[(1,.any),(2,.any),(3,.box 72 [.d (.list (.st 0)),.own 3 (.int .i64),.own 194 (.st 10),.own 66 (.list (.st 10)),.own 23 (.list (.int .i64)),.d (.int .i64),.d (.int .i64),.nil,.nil,.d (.st 11)])]⟩,[(.ex 0,⟨[(4,.any)],[(1,.any),(2,.any),(3,.box 72 [.d (.list (.st 0)),.own 3 (.int .i64),.own 194 (.st 10),.own 66 (.list (.st 10)),.own 23 (.list (.int .i64)),.d (.int .i64),.d (.int .i64),.nil,.nil,.d (.st 11)])]⟩)])],[],[]⟩ F
def H0d (F:Nat)(marks:List Z2)(c:Int)(e:Int)(j:Int×(List Int)):Option (T0 (Int×(List Int)) (List Int)):=match j with
 | (a,b)=>if decide (a<(marks.length:Int))then .bind (α:=List Int) (if y0 marks a then .bind (if decide (((gt marks a).Group)<1)then some true else let h:=decide (((gt marks a).Group)>(b.length:Int));
      some h) fun l=>.bind (if l then some true else let i:=decide ((W (2*((gt marks a).Group)))>=(b.length:Int));
      some i) fun k=>if k then some b else if y0 marks a then if((gt marks a).Kind)==1 then if y0 b (W ((W (2*((gt marks a).Group)))-1))then let m:=b.set (W ((W (2*((gt marks a).Group)))-1)).toNat c;
        some m else none else if((gt marks a).Kind)==2 then if y0 b (W (2*((gt marks a).Group)))then let f:=b.set (W (2*((gt marks a).Group))).toNat c;
         some f else none else if((gt marks a).Kind)==3 then if y0 b (W ((W (2*((gt marks a).Group)))-1))then let d:=b.set (W ((W (2*((gt marks a).Group)))-1)).toNat e;
          if y0 d (W (2*((gt marks a).Group)))then let l4:=d.set (W (2*((gt marks a).Group))).toNat e;
           some l4 else none else none else some b else none else none) fun g=>some (.next (W (a+1),g))else some (.done b)
def F0S (F:Nat)(a:List Int)(marks:List Z2)(c:Int)(b:Int):Option (List Int):=if C1 8 ([]:List Int) a then .bind (α:=List Int) (iter (H0d F marks c b) F (0,[]++a)) fun d=>some d else none
def H0y (F:Nat):Sm en.D:=⟨121,[.d (.list (.int .i64)),.d (.list (.st 16)),.d (.int .i64),.d (.int .i64)],.own 3 (.int .i64),[],fun a=>F0S F a.1 a.2.1 a.2.2.1 a.2.2.2⟩
def T0b (F:Nat):=R0 [] 121 ⟨[(4,[(.nrm,⟨[],[(1,.own 3 (.int .i64))]⟩)])],[(3,⟨[(10,.d (.int .i64))],[(1,.own 3 (.int .i64))]⟩,[(.ex 0,⟨[(10,.any)],[(1,.own 3 (.int .i64))]⟩)])],[(6,3,7,⟨[(28,.any),(33,.d .bool)],[]⟩),(6,9,14,⟨[(34,.any),(40,.d .bool)],[]⟩)],[]⟩ F
def I0a (F:Nat)(d:Int)(c:Int)(e:(List Int)×Int):Option (T0 ((List Int)×Int) (List Int)):=match e with
 | (a,b)=>if decide (b<d)then if C1 8 a [c]then some (.next (a++[c],W (b+1)))else none else some (.done a)
def J0C (F:Nat)(a:Int)(b:Int):Option (List Int):=.bind (α:=List Int) (iter (I0a F a b) F ([],0)) fun c=>some c
def L08 (F:Nat):Sm en.D:=⟨165,[.d (.int .i64),.d (.int .i64)],.own 3 (.int .i64),[],fun a=>J0C F a.1 a.2⟩
def P03 (F:Nat):=R0 [] 165 ⟨[],[(3,⟨[(5,.own 3 (.int .i64)),(6,.d (.int .i64))],[]⟩,[(.ex 0,⟨[(5,.own 3 (.int .i64)),(6,.any)],[]⟩)])],[],[]⟩ F
def F0V (F:Nat)(a:B07):Option (List Int):=.bind (F0l F a.L) fun c=>.bind (J0C F c (-1)) fun b=>if y0 b 0 then some (b.set (0:Int).toNat a.At)else none
def H0V (F:Nat):Sm en.D:=⟨122,[.d (.st 12)],.own 3 (.int .i64),[],fun a=>F0V F a⟩
def X0J (F:Nat):=R0 [F0R F,L08 F] 122 U1 F
def N0O (F:Nat)(b:List Int)(d:(List Z2)×Int):Option (T0 ((List Z2)×Int) (List Z2)):=match d with
 | (c,a)=>if decide (a<(b.length:Int))then if y0 b a then if C1 16 c [(⟨3,gt b a⟩:Z2)]then some (.next (c++[(⟨3,gt b a⟩:Z2)],W (a+1)))else none else none else some (.done c)
def G0J (F:Nat)(c:List U0)(b:List Int)(h:(List Z2)×Int):Option (T0 ((List Z2)×Int) (List Z2)):=match h with
 | (d,a)=>if decide (a<(b.length:Int))then .bind (α:=List Z2) (if y0 b a then .bind (if decide ((gt b a)<0)then some true else let g:=decide ((W ((gt b a).tdiv 2))>=(c.length:Int));
      some g) fun j=>if j then some d else if y0 c (W ((gt b a).tdiv 2))then .bind (α:=List Z2) (if((gt c (W ((gt b a).tdiv 2))).Kind)==7 then if C1 16 d [(⟨W (1+((gt b a).tmod 2)),(gt c (W ((gt b a).tdiv 2))).N⟩:Z2)]then let f:=d++[(⟨W (1+((gt b a).tmod 2)),(gt c (W ((gt b a).tdiv 2))).N⟩:Z2)];
         some f else none else some d) fun e=>.bind (if((gt c (W ((gt b a).tdiv 2))).Kind)==8 then some (((gt b a).tmod 2)==0)else some false) fun m=>if m then .bind (G0C F c (W ((gt b a).tdiv 2))) fun i=>.bind (α:=List Z2) (iter (N0O F i) F (e,0)) fun k=>some k else some e else none else none) fun l=>some (.next (l,W (a+1)))else some (.done d)
def F0w (F:Nat)(a:List U0)(c:List Int):Option (List Z2):=.bind (C0n F a) fun d=>if !d then some []else .bind (α:=List Z2) (iter (G0J F a c) F ([],0)) fun b=>some b
def H0C (F:Nat):Sm en.D:=⟨123,[.d (.list (.st 0)),.d (.list (.int .i64))],.own 237 (.st 16),[],fun a=>F0w F a.1 a.2⟩
def R0Y (F:Nat):=R0 [D0J F,J0w F] 123 ⟨[(12,[(.nrm,⟨[(5,.own 237 (.st 16))],[(0,.any)]⟩)]),(6,[(.nrm,⟨[(5,.own 237 (.st 16))],[(0,.any)]⟩)])],[(15,⟨[(5,.own 237 (.st 16)),(10,.d (.int .i64))],[(2,.any)]⟩,[(.ex 2,⟨[(5,.own 237 (.st 16)),(10,.any)],[(2,.any)]⟩)]),(5,⟨[(5,.own 237 (.st 16)),(6,.d (.int .i64))],[]⟩,[(.ex 0,⟨[(5,.own 237 (.st 16)),(6,.any)],[]⟩)])],[(8,3,8,⟨[(26,.any),(32,.d .bool)],[]⟩),(12,4,7,⟨[(53,.any),(57,.d .bool)],[]⟩)],[]⟩ F
def I0w (F:Nat)(a:B07):Option ((List Int)×Bool):=.bind (D0c F a.L (-1)) fun(d,f)=>if !f then some ([],false)else .bind (F0V F a) fun b=>.bind (F0w F a.L d.Steps) fun e=>.bind (F0S F b e a.At (-1)) fun c=>some (c,true)
def K0f (F:Nat):Sm en.D:=⟨86,[.d (.st 12)],.tup [.own 3 (.int .i64),.d .bool],[],fun a=>I0w F a⟩
def V0h (F:Nat):=R0 [I0F F,H0y F,H0V F,H0C F] 86 U1 F
def I0O (F:Nat)(d:List U0):Option C0T:=.bind (J0h F d) fun a=>.bind (I0w F a) fun(b,c)=>some (⟨a,b,0,c⟩:C0T)
def L0A (F:Nat):Sm en.D:=⟨46,[.d (.list (.st 0))],.d (.st 13),[],fun a=>I0O F a⟩
def P0s (F:Nat):=R0 [K06 F,K0f F] 46 U1 F
def G01 (F:Nat)(b:P1)(c:Int)(d:Int):Option (T0 Int (Unit⊕Unit)):=match d with
 | a=>if decide (a<c)then if y0 b.B a then .bind (if((gt b.B a).length:Int) != c then some true else if y0 b.D a then some (((gt b.D a).length:Int) != c)else none) fun e=>if e then some (.done (.inl ()))else some (.next (W (a+1)))else none else some (.done (.inr ()))
def H0K (F:Nat)(b:P1)(f:Int)(a:Int)(j:Int):Option (T0 Int (Unit⊕Unit)):=match j with
 | c=>if decide (c<f)then if y0 b.B a then if y0 (gt b.B a) c then .bind (if decide ((gt (gt b.B a) c)<0)then some true else .bind (if a==c then if y0 b.B a then if y0 (gt b.B a) c then if(gt (gt b.B a) c) != 0 then some true else if y0 b.D a then if y0 (gt b.D a) c then some ((gt (gt b.D a) c) != 0)else none else none else none else none else some false) fun i=>some i) fun g=>if g then some (.done (.inl ()))else .bind (if a != c then if y0 b.D a then if y0 (gt b.D a) c then .bind (if(gt (gt b.D a) c) != 1 then if y0 b.D a then if y0 (gt b.D a) c then some ((gt (gt b.D a) c) != (-1))else none else none else some false) fun k=>.bind (if k then some true else if y0 b.D c then if y0 (gt b.D c) a then if y0 b.D a then if y0 (gt b.D a) c then let d:=(gt (gt b.D c) a) != (W (0-(gt (gt b.D a) c)));
               some d else none else none else none else none) fun e=>some e else none else none else some false) fun h=>if h then some (.done (.inl ()))else some (.next (W (c+1)))else none else none else some (.done (.inr ()))
def G0A (F:Nat)(d:P1)(b:Int)(e:Int):Option (T0 Int (Unit⊕Unit)):=match e with
 | a=>if decide (a<b)then .bind (α:=Unit⊕Unit) (iter (H0K F d b a) F 0) fun c=>match c with
  | .inl _=>some (.done (.inl ()))
  | .inr _=>some (.next (W (a+1)))else some (.done (.inr ()))
def E03 (F:Nat)(b:P1)(a:Int):Option Bool:=.bind (if(b.B.length:Int) != a then some true else some ((b.D.length:Int) != a)) fun d=>if d then some false else .bind (α:=Unit⊕Unit) (iter (G01 F b a) F 0) fun c=>match c with
  | .inl _=>some false
  | .inr _=>.bind (α:=Unit⊕Unit) (iter (G0A F b a) F 0) fun c=>match c with
   | .inl _=>some false
   | .inr _=>some true
def F0O (F:Nat):Sm en.D:=⟨166,[.d (.st 11),.d (.int .i64)],.d .bool,[],fun a=>E03 F a.1 a.2⟩
def P0y (F:Nat):=R0 [] 166 ⟨[],[(12,⟨[(7,.d (.int .i64))],[]⟩,[(.ret,⟨[(4,.kb false),(7,.any)],[]⟩),(.ex 4,⟨[(7,.any)],[]⟩)]),(4,⟨[(5,.d (.int .i64))],[]⟩,[(.ret,⟨[(4,.kb false),(5,.any)],[]⟩),(.ex 0,⟨[(5,.any)],[]⟩)]),(9,⟨[(6,.d (.int .i64))],[]⟩,[(.ret,⟨[(4,.kb false),(6,.any)],[]⟩),(.ex 2,⟨[(6,.any)],[]⟩)])],[(1,6,11,⟨[(13,.any),(19,.d .bool)],[]⟩),(6,9,17,⟨[(33,.any),(42,.d .bool)],[]⟩),(14,10,35,⟨[(62,.any),(88,.d .bool)],[]⟩),(14,14,34,⟨[(66,.any),(87,.d .bool)],[]⟩),(16,4,44,⟨[(92,.any),(133,.d .bool)],[]⟩),(16,14,23,⟨[(102,.any),(112,.d .bool)],[]⟩),(16,25,43,⟨[(113,.any),(132,.d .bool)],[]⟩)],[]⟩ F
def G0T (F:Nat)(a:Int)(e:(Int×((List (List Int))×(List (List Int))))):Option (T0 (Int×((List (List Int))×(List (List Int)))) ((List (List Int))×(List (List Int)))):=match e with
 | (d,(c,b))=>if decide (d<a)then if S5 8 a then if C1 24 c [(List.replicate a.toNat 0:List Int)]then if S5 8 a then if C1 24 b [(List.replicate a.toNat 0:List Int)]then some (.next (W (d+1),(c++[(List.replicate a.toNat 0:List Int)],b++[(List.replicate a.toNat 0:List Int)])))else none else none else none else none else some (.done (c,b))
def H0B (F:Nat)(a:Int):Option ((List (List Int))×(List (List Int))):=.bind (α:=(List (List Int))×(List (List Int))) (iter (G0T F a) F (0,([],[]))) fun(B2,b)=>some (B2,b)
def J0t (F:Nat):Sm en.D:=⟨167,[.d (.int .i64)],.agg [.M0 23 [3] (.list (.int .i64)),.M0 23 [3] (.list (.int .i64))],[],fun a=>H0B F a⟩
def V0b (F:Nat):=R0 [] 167 ⟨[],[(3,⟨[(4,.d (.int .i64))],[(1,.box 70 [.M0 23 [3] (.list (.int .i64)),.M0 23 [3] (.list (.int .i64))])]⟩,[(.ex 0,⟨[(4,.any)],[(1,.box 70 [.M0 23 [3] (.list (.int .i64)),.M0 23 [3] (.list (.int .i64))])]⟩)])],[],[14,21]⟩ F
def H0n (F:Nat)(c:P1)(a:Int)(f:Int×(List (List Int))×(List (List Int))):Option (T0 (Int×(List (List Int))×(List (List Int))) ((List (List Int))×(List (List Int)))):=match f with
 | (b,d,e)=>if decide (b<(c.B.length:Int))then if y0 d a then if y0 c.B a then if y0 (gt c.B a) b then if y0 (gt d a) b then let g:=d.set a.toNat ((gt d a).set b.toNat (gt (gt c.B a) b));
      if y0 e a then if y0 c.D a then if y0 (gt c.D a) b then if y0 (gt e a) b then let h:=e.set a.toNat ((gt e a).set b.toNat (gt (gt c.D a) b));
          some (.next (W (b+1),g,h))else none else none else none else none else none else none else none else none else some (.done (d,e))
def H0v (F:Nat)(b:P1)(g:Int×(List (List Int))×(List (List Int))):Option (T0 (Int×(List (List Int))×(List (List Int))) ((List (List Int))×(List (List Int)))):=match g with
 | (a,f,e)=>if decide (a<(b.B.length:Int))then .bind (α:=(List (List Int))×(List (List Int))) (iter (H0n F b a) F (0,f,e)) fun(i,c)=>if y0 c a then if y0 (gt c a) (b.B.length:Int)then let d:=c.set a.toNat ((gt c a).set (b.B.length:Int).toNat 1);
    if y0 d (b.B.length:Int)then if y0 (gt d (b.B.length:Int)) a then let h:=d.set (b.B.length:Int).toNat ((gt d (b.B.length:Int)).set a.toNat (-1));
      some (.next (W (a+1),i,h))else none else none else none else none else some (.done (f,e))
def H0l (F:Nat)(a:P1):Option P1:=.bind (E03 F a (a.B.length:Int)) fun f=>if !f then some (⟨[],[]⟩:P1)else .bind (H0B F (W ((a.B.length:Int)+1))) fun(e,b)=>.bind (α:=(List (List Int))×(List (List Int))) (iter (H0v F a) F (0,e,b)) fun(c,d)=>some (⟨c,d⟩:P1)
def L0D (F:Nat):Sm en.D:=⟨124,[.d (.st 11)],.d (.st 11),[],fun a=>H0l F a⟩
def V0l (F:Nat):=R0 [F0O F,J0t F] 124 ⟨[],[(6,⟨[(5,.d (.int .i64))],[(2,.M0 23 [3] (.list (.int .i64))),(3,.M0 23 [3] (.list (.int .i64)))]⟩,[(.ex 0,⟨[(5,.any)],[(2,.M0 23 [3] (.list (.int .i64))),(3,.M0 23 [3] (.list (.int .i64)))]⟩)]),(9,⟨[(6,.d (.int .i64))],[(2,.M0 23 [3] (.list (.int .i64))),(3,.M0 23 [3] (.list (.int .i64)))]⟩,[(.ex 2,⟨[(6,.any)],[(2,.M0 23 [3] (.list (.int .i64))),(3,.M0 23 [3] (.list (.int .i64)))]⟩)])],[],[]⟩ F
def I0T (F:Nat)(b:List Int)(a:Int):Option Bool:=.bind (if decide (a>=0)then some (decide (a<256))else some false) fun c=>.bind (if c then if decide (0<=W (a.tdiv 64))&&decide (W (a.tdiv 64)<4)then if !decide (a.tmod 64<0)then let d:=R1 .u64 (shr .u64 (gt b (W (a.tdiv 64))) (a.tmod 64)) 1;
     some (d==1)else none else none else some false) fun e=>some e
def M0i (F:Nat):Sm en.D:=⟨125,[.d (.arr 4 (.int .u64)),.d (.int .i64)],.d .bool,[],fun a=>I0T F a.1 a.2⟩
def T0R (F:Nat):=R0 [] 125 ⟨[],[],[(1,3,5,⟨[(7,.any),(10,.d .bool)],[]⟩),(1,7,16,⟨[(11,.any),(21,.d .bool)],[]⟩)],[]⟩ F
def F0W (F:Nat)(b:List E1)(c:Int)(d:Int):Option (T0 Int (E1⊕Unit)):=match d with
 | a=>if decide (a<(b.length:Int))then if y0 b a then if((gt b a).To)==c then if y0 b a then some (.done (.inl (gt b a)))else none else some (.next (W (a+1)))else none else some (.done (.inr ()))
def J0i (F:Nat)(d:List E1)(c:Int):Option (E1×Bool):=.bind (α:=E1⊕Unit) (iter (F0W F d c) F 0) fun b=>match b with
 | .inl a=>some (a,true)
 | .inr _=>some ((⟨0,0,[]⟩:E1),false)
def J00 (F:Nat):Sm en.D:=⟨126,[.d (.list (.st 10)),.d (.int .i64)],.tup [.d (.st 10),.d .bool],[],fun a=>J0i F a.1 a.2⟩
def T0f (F:Nat):=R0 [] 126 ⟨[],[(2,⟨[(6,.d (.int .i64))],[]⟩,[(.ret,⟨[(5,.kb true),(6,.any)],[(0,.box 194 [.d (.st 10)])]⟩),(.ex 0,⟨[(6,.any)],[]⟩)])],[],[]⟩ F
def G0f (F:Nat)(a:Int)(b:Int):Option Int:=if decide (a<(W (b+1)))then some a else some (W (b+1))
def J0v (F:Nat):Sm en.D:=⟨170,[.d (.int .i64),.d (.int .i64)],.d (.int .i64),[],fun a=>G0f F a.1 a.2⟩
def U0N (F:Nat):=R0 [] 170 U1 F
def H0x (F:Nat)(a:P1)(b:Int)(c:Int)(g:E1)(f:E1):Option Int:=if y0 a.B b then if y0 (gt a.B b) c then if y0 a.B c then if y0 (gt a.B c) b then .bind (G0f F (gt (gt a.B b) c) g.Turn) fun e=>.bind (G0f F (gt (gt a.B c) b) f.Turn) fun d=>if decide (e>d)then some 1 else if decide (e<d)then some (-1)else if y0 a.D b then if y0 (gt a.D b) c then some (gt (gt a.D b) c)else none else none else none else none else none else none
def I0e (F:Nat):Sm en.D:=⟨168,[.d (.st 11),.d (.int .i64),.d (.int .i64),.d (.st 10),.d (.st 10)],.d (.int .i64),[],fun a=>H0x F a.1 a.2.1 a.2.2.1 a.2.2.2.1 a.2.2.2.2⟩
def X0a (F:Nat):=R0 [J0v F] 168 U1 F
def I0U (F:Nat)(e:P1)(b:List Int)(d:List E1)(h:Int×Int):Option (T0 (Int×Int) Int):=match h with
 | (c,a)=>.bind (E03 F e (e.B.length:Int)) fun m=>.bind (if m then some (decide (a<(b.length:Int)))else some false) fun j=>.bind (if j then some (decide (a<(d.length:Int)))else some false) fun l=>if l then .bind (α:=Int) (if y0 b a then .bind (if decide ((gt b a)<0)then some true else if y0 b a then some (decide ((gt b a)>=(e.B.length:Int)))else none) fun i=>if i then some c else .bind (if decide (c<0)then some true else if y0 b a then if y0 b c then if y0 d a then if y0 d c then .bind (H0x F e (gt b a) (gt b c) (gt d a) (gt d c)) fun k=>some (decide (k>0))else none else none else none else none) fun g=>if g then some a else some c else none) fun f=>some (.next (f,W (a+1)))else some (.done c)
def G0Q (F:Nat)(d:P1)(a:List Int)(b:List E1):Option Int:=.bind (α:=Int) (iter (I0U F d a b) F ((-1),0)) fun c=>some c
def J0L (F:Nat):Sm en.D:=⟨127,[.d (.st 11),.d (.list (.int .i64)),.d (.list (.st 10))],.d (.int .i64),[],fun a=>G0Q F a.1 a.2.1 a.2.2⟩
def P01 (F:Nat):=R0 [F0O F,I0e F] 127 ⟨[(4,[(.nrm,⟨[(7,.d (.int .i64))],[]⟩)])],[(3,⟨[(7,.d (.int .i64)),(8,.d (.int .i64))],[]⟩,[(.ex 0,⟨[(7,.d (.int .i64)),(8,.any)],[]⟩)])],[(3,6,10,⟨[(14,.any),(19,.d .bool)],[]⟩),(3,12,16,⟨[(20,.any),(25,.d .bool)],[]⟩),(5,6,14,⟨[(33,.any),(42,.d .bool)],[]⟩),(6,3,22,⟨[(45,.any),(65,.d .bool)],[]⟩)],[]⟩ F
def G00 (F:Nat)(h:List U0)(d:Int)(c:Int)(b:List Int)(g:Int):Option (T0 Int (Int⊕Unit)):=match g with
 | a=>if decide (a<(h.length:Int))then if y0 b a then .bind (if decide ((gt b a)<=d)then some (decide (d<=a))else some false) fun f=>.bind (if f then if y0 b a then some (decide ((gt b a)<=c))else none else some false) fun e=>.bind (if e then some (decide (c<=a))else some false) fun i=>if i then some (.done (.inl a))else some (.next (W (a+1)))else none else some (.done (.inr ()))
def I0t (F:Nat)(d:List U0)(c:Int)(b:Int):Option Int:=.bind (G05 F d) fun a=>.bind (if decide (c<0)then some true else some (decide (b<0))) fun g=>.bind (if g then some true else some (decide (c>=(a.length:Int)))) fun h=>.bind (if h then some true else some (decide (b>=(a.length:Int)))) fun i=>if i then some (-1)else .bind (α:=Int⊕Unit) (iter (G00 F d c b a) F 0) fun f=>match f with
  | .inl e=>some e
  | .inr _=>some (-1)
def L00 (F:Nat):Sm en.D:=⟨191,[.d (.list (.st 0)),.d (.int .i64),.d (.int .i64)],.d (.int .i64),[],fun a=>I0t F a.1 a.2.1 a.2.2⟩
def W0H (F:Nat):=R0 [I09 F] 191 ⟨[],[(5,⟨[(8,.d (.int .i64))],[]⟩,[(.ret,⟨[(6,.d (.int .i64)),(8,.any)],[]⟩),(.ex 0,⟨[(8,.any)],[]⟩)])],[(2,3,5,⟨[(13,.any),(16,.d .bool)],[]⟩),(2,7,11,⟨[(17,.any),(22,.d .bool)],[]⟩),(2,13,17,⟨[(23,.any),(28,.d .bool)],[]⟩),(7,7,10,⟨[(41,.any),(45,.d .bool)],[]⟩),(7,12,18,⟨[(46,.any),(53,.d .bool)],[]⟩),(7,20,23,⟨[(54,.any),(58,.d .bool)],[]⟩)],[]⟩ F
def I0L (F:Nat)(d:List U0)(a:E1)(b:E1):Option (Int×Int×Int):=.bind (C0z F d) fun e=>.bind (if decide (a.To<0)then some true else some (decide (b.To<0))) fun k=>.bind (if k then some true else some (decide (a.To>=(e.length:Int)))) fun o=>.bind (if o then some true else some (decide (b.To>=(e.length:Int)))) fun j=>.bind (if j then some true else some (a.To==b.To)) fun i=>if i then some (0,0,0)else if decide (a.Turn>b.Turn)then some (W (a.Turn+1),W (b.Turn+1),1)else if decide (a.Turn<b.Turn)then some (W (a.Turn+1),W (b.Turn+1),(-1))else if y0 e a.To then if y0 e b.To then .bind (I0t F d (gt e a.To) (gt e b.To)) fun c=>.bind (D0D F d) fun f=>if y0 f c then .bind (α:=Int) (if decide (a.To>b.To)then some (-1)else some 1) fun g=>.bind (α:=Int) (if y0 d c then .bind (if((gt d c).Kind)==3 then some (g==1)else some false) fun n=>if n then some (W ((W ((gt f c)+1))+1))else some (W ((gt f c)+1))else none) fun m=>.bind (α:=Int) (if y0 d c then .bind (if((gt d c).Kind)==3 then some (g==(-1))else some false) fun h=>if h then some (W ((W ((gt f c)+1))+1))else some (W ((gt f c)+1))else none) fun l=>some (m,l,g)else none else none else none
def J0J (F:Nat):Sm en.D:=⟨169,[.d (.list (.st 0)),.d (.st 10),.d (.st 10)],.tup [.d (.int .i64),.d (.int .i64),.d (.int .i64)],[],fun a=>I0L F a.1 a.2.1 a.2.2⟩
def R0B (F:Nat):=R0 [E0t F,I0N F,L00 F] 169 ⟨[(13,[(.nrm,⟨[(14,.d (.int .i64))],[]⟩)]),(15,[(.nrm,⟨[(12,.d (.int .i64))],[]⟩)]),(17,[(.nrm,⟨[(13,.d (.int .i64))],[]⟩)])],[],[(2,4,7,⟨[(20,.any),(24,.d .bool)],[]⟩),(2,9,14,⟨[(25,.any),(31,.d .bool)],[]⟩),(2,16,21,⟨[(32,.any),(38,.d .bool)],[]⟩),(2,23,28,⟨[(39,.any),(45,.d .bool)],[]⟩),(13,7,9,⟨[(99,.any),(102,.d .bool)],[]⟩),(15,7,9,⟨[(111,.any),(114,.d .bool)],[]⟩)],[]⟩ F
def G04 (F:Nat)(c:P1)(b:List Int)(d:Int):Option (T0 Int (P1⊕Unit)):=match d with
 | a=>if decide (a<(b.length:Int))then if y0 b a then .bind (if decide ((gt b a)<0)then some true else if y0 b a then some (decide ((gt b a)>=(c.B.length:Int)))else none) fun e=>if e then some (.done (.inl (⟨[],[]⟩:P1)))else some (.next (W (a+1)))else none else some (.done (.inr ()))
def H0f (F:Nat)(l:List U0)(g:P1)(c:List Int)(d:List E1)(a:Int)(h:Int×(List (List Int))×(List (List Int))):Option (T0 (Int×(List (List Int))×(List (List Int))) ((List (List Int))×(List (List Int)))):=match h with
 | (b,e,f)=>if decide (b<(c.length:Int))then .bind (α:=(List (List Int))×(List (List Int))) (if a==b then some (e,f)else if y0 c a then if y0 c b then if(gt c a)==(gt c b)then if y0 e a then if y0 f a then if y0 d a then if y0 d b then .bind (I0L F l (gt d a) (gt d b)) fun(o,s,j)=>if y0 (gt e a) b then if y0 (gt f a) b then let k:=f.set a.toNat ((gt f a).set b.toNat j);
             some (e.set a.toNat ((gt e a).set b.toNat o),k)else none else none else none else none else none else none else if y0 e a then if y0 c a then if y0 g.B (gt c a)then if y0 c b then if y0 (gt g.B (gt c a)) (gt c b)then if y0 d a then .bind (G0f F (gt (gt g.B (gt c a)) (gt c b)) ((gt d a).Turn)) fun p=>if y0 (gt e a) b then let n:=e.set a.toNat ((gt e a).set b.toNat p);
              if y0 f a then if y0 c a then if y0 c b then if y0 d a then if y0 d b then .bind (H0x F g (gt c a) (gt c b) (gt d a) (gt d b)) fun m=>if y0 (gt f a) b then let q:=f.set a.toNat ((gt f a).set b.toNat m);
                    some (n,q)else none else none else none else none else none else none else none else none else none else none else none else none else none else none else none) fun(r,i)=>some (.next (W (b+1),r,i))else some (.done (e,f))
def G0s (F:Nat)(i:List U0)(g:P1)(d:List Int)(f:List E1)(h:Int×(List (List Int))×(List (List Int))):Option (T0 (Int×(List (List Int))×(List (List Int))) ((List (List Int))×(List (List Int)))):=match h with
 | (a,b,c)=>if decide (a<(d.length:Int))then .bind (α:=(List (List Int))×(List (List Int))) (iter (H0f F i g d f a) F (0,b,c)) fun(j,e)=>some (.next (W (a+1),j,e))else some (.done (b,c))
def H0Y (F:Nat)(h:List U0)(a:P1)(b:List Int)(c:List E1):Option P1:=.bind (E03 F a (a.B.length:Int)) fun l=>.bind (if !l then some true else some ((b.length:Int) != (c.length:Int))) fun g=>if g then some (⟨[],[]⟩:P1)else .bind (α:=P1⊕Unit) (iter (G04 F a b) F 0) fun d=>match d with
  | .inl j=>some j
  | .inr _=>.bind (H0B F (b.length:Int)) fun(k,f)=>.bind (α:=(List (List Int))×(List (List Int))) (iter (G0s F h a b c) F (0,k,f)) fun(i,e)=>some (⟨i,e⟩:P1)
def M0m (F:Nat):Sm en.D:=⟨128,[.d (.list (.st 0)),.d (.st 11),.d (.list (.int .i64)),.d (.list (.st 10))],.d (.st 11),[],fun a=>H0Y F a.1 a.2.1 a.2.2.1 a.2.2.2⟩
def R0N (F:Nat):=R0 [F0O F,J0t F,I0e F,J0J F,J0v F] 128 ⟨[(14,[(.nrm,⟨[],[(2,.M0 23 [3] (.list (.int .i64))),(3,.M0 23 [3] (.list (.int .i64)))]⟩)])],[(10,⟨[(11,.d (.int .i64))],[(2,.M0 23 [3] (.list (.int .i64))),(3,.M0 23 [3] (.list (.int .i64)))]⟩,[(.ex 2,⟨[(11,.any)],[(2,.M0 23 [3] (.list (.int .i64))),(3,.M0 23 [3] (.list (.int .i64)))]⟩)]),(13,⟨[(12,.d (.int .i64))],[(2,.M0 23 [3] (.list (.int .i64))),(3,.M0 23 [3] (.list (.int .i64)))]⟩,[(.ex 4,⟨[(12,.any)],[(2,.M0 23 [3] (.list (.int .i64))),(3,.M0 23 [3] (.list (.int .i64)))]⟩)]),(4,⟨[(9,.d (.int .i64))],[]⟩,[(.ret,⟨[(9,.any)],[(1,.box 70 [.d (.st 11)])]⟩),(.ex 0,⟨[(9,.any)],[]⟩)])],[(1,7,12,⟨[(19,.any),(25,.d .bool)],[]⟩),(6,6,14,⟨[(38,.any),(47,.d .bool)],[]⟩)],[]⟩ F
def H0z (F:Nat)(a:B07)(d:(List (List E1))×Int):Option (T0 ((List (List E1))×Int) (List (List E1))):=match d with
 | (c,b)=>if decide (b<(a.Places.length:Int))then if y0 a.Places b then if y0 a.Hops (gt a.Places b)then if C1 24 c [gt a.Hops (gt a.Places b)]then some (.next (c++[gt a.Hops (gt a.Places b)],W (b+1)))else none else none else none else some (.done c)
def F0Y (F:Nat)(f:List (List E1))(j:Int)(l:(List Int)×(List E1)×Int×(List Int)×(List E1)):Option (T0 ((List Int)×(List E1)×Int×(List Int)×(List E1)) ((List Int)×(List E1)×(List Int)×(List E1))):=match l with
 | (b,c,a,d,e)=>if decide (a<(f.length:Int))then .bind (α:=(List Int)×(List E1)×(List Int)×(List E1)) (if y0 f a then .bind (J0i F (gt f a) j) fun(g,m)=>if m then if C1 8 b [a]then if C1 40 c [g]then some (b++[a],c++[g],d,e)else none else none else some (b,c,d,e)else none) fun(h,i,n,k)=>some (.next (h,i,W (a+1),n,k))else some (.done (b,c,d,e))
def G0o (F:Nat)(d:B07)(O:Int)(t:List (List Int))(H:List (List E1))(I:P1)(x:((List Int)×(List E1)×Int×((List U0)×(List Int)×(List E1)×(List (List E1))×(List (List Int))×Int×Int×(List Int)×(List (List Int))×P1))):Option (T0 ((List Int)×(List E1)×Int×((List U0)×(List Int)×(List E1)×(List (List E1))×(List (List Int))×Int×Int×(List Int)×(List (List Int))×P1)) ((List Int)×(List E1)×((List U0)×(List Int)×(List E1)×(List (List E1))×(List (List Int))×Int×Int×(List Int)×(List (List Int))×P1))):=match x with
 | (q,o,c,(j,h,m,l,n,At,i,g,f,k))=>if decide (c<(d.Leaves.length:Int))then .bind (α:=((List Int)×(List E1)×((List U0)×(List Int)×(List E1)×(List (List E1))×(List (List Int))×Int×Int×(List Int)×(List (List Int))×P1))) (if y0 d.Leaves c then if y0 d.L (gt d.Leaves c)then .bind (I0T F ((gt d.L (gt d.Leaves c)).Set) (W (O))) fun C=>if !C then some (q,o,(j,h,m,l,n,At,i,g,f,k))else .bind (α:=(List Int)×(List E1)×(List Int)×(List E1)) (iter (F0Y F H c) F ([],[],0,q,o)) fun(b,e,r,p)=>.bind (G0Q F I b e) fun a=>if decide (a<0)then some (r,p,(j,h,m,l,n,At,W (i+(b.length:Int)),g,f,k))else if C1 8 g [c]then if y0 b a then if y0 t (gt b a)then if y0 e a then .bind (F0w F d.L ((gt e a).Steps)) fun D=>.bind (F0S F (gt t (gt b a)) D d.At (-1)) fun s=>if C1 24 f [s]then if y0 b a then if C1 8 r [gt b a]then if y0 e a then if C1 40 p [gt e a]then some (r++[gt b a],p++[gt e a],(j,h,m,l,n,At,W (i+(b.length:Int)),g++[c],f++[s],k))else none else none else none else none else none else none else none else none else none else none else none) fun(A,E,(M,y,w,N,B,J,v,z,u,G))=>some (.next (A,E,W (c+1),(M,y,w,N,B,J,v,z,u,G)))else some (.done (q,o,(j,h,m,l,n,At,i,g,f,k)))
def H0T (F:Nat)(a:B07)(w:Int)(j:Bool):Option B07:=.bind (α:=(List (List Int))×(List (List E1))×P1) (same (some (a.Tags,[],a.Rank)) (some (a.Tags,[],a.Rank))) fun(c,h,e)=>.bind (α:=List (List E1)) (iter (H0z F a) F (h,0)) fun d=>.bind (α:=(List (List Int))×(List (List E1))×P1) (if j then if C1 24 ([]:List (List Int)) c then .bind (F0V F a) fun f=>if C1 24 ([]++c) [f]then if C1 24 d [a.First]then .bind (H0l F e) fun s=>some (([]++c)++[f],d++[a.First],s)else none else none else none else some (c,d,e)) fun(i,m,g)=>.bind (α:=((List Int)×(List E1)×((List U0)×(List Int)×(List E1)×(List (List E1))×(List (List Int))×Int×Int×(List Int)×(List (List Int))×P1))) (iter (G0o F a w i m g) F ([],[],0,(a.L,a.Leaves,a.First,a.Hops,a.Ends,a.At,a.Work,[],[],a.Rank))) fun(b,r,(L3,p,n,u,q,A,y,v,o,z))=>.bind (H0Y F a.L g b r) fun x=>let k:=W ((b.length:Int)*(b.length:Int));
 .bind (F0l F a.L) fun t=>let l:=W (y+(W ((b.length:Int)*t)));
 some (⟨L3,p,n,u,q,W (a.At+1),W (l+k),v,o,x⟩:B07)
def L0h (F:Nat):Sm en.D:=⟨87,[.d (.st 12),.d (.int .u8),.d .bool],.d (.st 12),[],fun a=>H0T F a.1 a.2.1 a.2.2⟩
def V0p (F:Nat):=R0 [F0R F,H0y F,H0V F,H0C F,L0D F,M0i F,J00 F,J0L F,M0m F] 87 ⟨[(10,[(.nrm,⟨[(7,.d (.list (.list (.int .i64)))),(8,.own 66 (.list (.st 10)))],[(3,.box 70 [.d (.st 11)]),(4,.any)]⟩)]),(17,[(.nrm,⟨[(12,.own 3 (.int .i64)),(13,.own 194 (.st 10))],[(7,.box 72 [.d (.list (.st 0)),.d (.list (.int .i64)),.d (.list (.st 10)),.d (.list (.list (.st 10))),.d (.list (.list (.int .i64))),.d (.int .i64),.d (.int .i64),.own 3 (.int .i64),.own 23 (.list (.int .i64)),.d (.st 11)]),(8,.any),(9,.any),(10,.any),(11,.any)]⟩)]),(23,[(.nrm,⟨[(15,.own 3 (.int .i64)),(16,.own 194 (.st 10))],[(8,.own 3 (.int .i64)),(9,.own 194 (.st 10)),(13,.any),(14,.any)]⟩)])],[(16,⟨[(12,.own 3 (.int .i64)),(13,.own 194 (.st 10)),(14,.d (.int .i64))],[(7,.box 72 [.d (.list (.st 0)),.d (.list (.int .i64)),.d (.list (.st 10)),.d (.list (.list (.st 10))),.d (.list (.list (.int .i64))),.d (.int .i64),.d (.int .i64),.own 3 (.int .i64),.own 23 (.list (.int .i64)),.d (.st 11)])]⟩,[(.ex 2,⟨[(12,.own 3 (.int .i64)),(13,.own 194 (.st 10)),(14,.any)],[(7,.box 72 [.d (.list (.st 0)),.d (.list (.int .i64)),.d (.list (.st 10)),.d (.list (.list (.st 10))),.d (.list (.list (.int .i64))),.d (.int .i64),.d (.int .i64),.own 3 (.int .i64),.own 23 (.list (.int .i64)),.d (.st 11)])]⟩)]),(22,⟨[(15,.own 3 (.int .i64)),(16,.own 194 (.st 10)),(17,.d (.int .i64))],[(8,.own 3 (.int .i64)),(9,.own 194 (.st 10))]⟩,[(.ex 4,⟨[(15,.own 3 (.int .i64)),(16,.own 194 (.st 10)),(17,.any)],[(8,.own 3 (.int .i64)),(9,.own 194 (.st 10))]⟩)]),(3,⟨[(8,.own 66 (.list (.st 10))),(10,.d (.int .i64))],[(2,.any)]⟩,[(.ex 0,⟨[(8,.own 66 (.list (.st 10))),(10,.any)],[(2,.any)]⟩)])],[(1,1000002,8,⟨[(7,.d (.list (.list (.int .i64)))),(8,.own 66 (.list (.st 10))),(9,.box 70 [.d (.st 11)])],[]⟩)],[]⟩ F
def I0j (F:Nat)(c:P1)(b:List Int)(f:Int×Int):Option (T0 (Int×Int) Int):=match f with
 | (d,a)=>.bind (E03 F c (c.B.length:Int)) fun j=>.bind (if j then some (decide (a<(b.length:Int)))else some false) fun h=>if h then .bind (α:=Int) (if y0 b a then .bind (if decide ((gt b a)<0)then some true else if y0 b a then some (decide ((gt b a)>=(c.B.length:Int)))else none) fun i=>if i then some d else .bind (if decide (d<0)then some true else if y0 b a then if y0 c.D (gt b a)then if y0 (gt c.D (gt b a)) d then some (decide ((gt (gt c.D (gt b a)) d)>0))else none else none else none) fun g=>if g then if y0 b a then some (gt b a)else none else some d else none) fun e=>some (.next (e,W (a+1)))else some (.done d)
def J0l (F:Nat)(c:P1)(a:List Int):Option Int:=.bind (α:=Int) (iter (I0j F c a) F ((-1),0)) fun b=>some b
def K0O (F:Nat):Sm en.D:=⟨129,[.d (.st 11),.d (.list (.int .i64))],.d (.int .i64),[],fun a=>J0l F a.1 a.2⟩
def P0C (F:Nat):=R0 [F0O F] 129 ⟨[(4,[(.nrm,⟨[(5,.d (.int .i64))],[]⟩)])],[(3,⟨[(5,.d (.int .i64)),(6,.d (.int .i64))],[]⟩,[(.ex 0,⟨[(5,.d (.int .i64)),(6,.any)],[]⟩)])],[(3,6,10,⟨[(12,.any),(17,.d .bool)],[]⟩),(5,6,14,⟨[(25,.any),(34,.d .bool)],[]⟩),(6,3,15,⟨[(37,.any),(50,.d .bool)],[]⟩)],[]⟩ F
def H0R (F:Nat)(b:B07)(f:(List Int)×Int):Option (T0 ((List Int)×Int) (List Int)):=match f with
 | (c,a)=>if decide (a<(b.Places.length:Int))then .bind (α:=List Int) (if y0 b.Places a then if y0 b.Ends (gt b.Places a)then let e:=decide (((gt b.Ends (gt b.Places a)).length:Int)>0);
     if e then if C1 8 c [a]then some (c++[a])else none else some c else none else none) fun d=>some (.next (d,W (a+1)))else some (.done c)
def E02 (F:Nat)(a:B07):Option ((List Int)×Bool):=.bind (α:=List Int) (iter (H0R F a) F ([],0)) fun d=>.bind (J0l F a.Rank d) fun b=>if decide (b<0)then some ([],false)else if y0 a.Tags b then if y0 a.Places b then if y0 a.Ends (gt a.Places b)then .bind (F0w F a.L (gt a.Ends (gt a.Places b))) fun e=>.bind (F0S F (gt a.Tags b) e a.At (-1)) fun c=>some (c,true)else none else none else none
def K0J (F:Nat):Sm en.D:=⟨88,[.d (.st 12)],.tup [.own 3 (.int .i64),.d .bool],[],fun a=>E02 F a⟩
def V06 (F:Nat):=R0 [H0y F,H0C F,K0O F] 88 ⟨[(4,[(.nrm,⟨[(4,.own 3 (.int .i64))],[(1,.any)]⟩)])],[(3,⟨[(4,.own 3 (.int .i64)),(5,.d (.int .i64))],[]⟩,[(.ex 0,⟨[(4,.own 3 (.int .i64)),(5,.any)],[]⟩)])],[],[]⟩ F
def G0X (F:Nat)(a:B07)(h:Int)(c:Int)(f:(List Int)×(List Int)×Int):Option (T0 ((List Int)×(List Int)×Int) ((List Int)×(List Int))):=match f with
 | (e,d,b)=>if decide (b<(a.Places.length:Int))then .bind (α:=(List Int)×(List Int)) (if y0 a.Tags b then if y0 (gt a.Tags b) 0 then if decide ((gt (gt a.Tags b) 0)<=h)then if y0 a.Rank.B c then if y0 (gt a.Rank.B c) b then if C1 8 e [gt (gt a.Rank.B c) b]then if y0 a.Rank.D c then if y0 (gt a.Rank.D c) b then if C1 8 d [gt (gt a.Rank.D c) b]then some (e++[gt (gt a.Rank.B c) b],d++[gt (gt a.Rank.D c) b])else none else none else none else none else none else none else some (e,d)else none else none) fun(i,g)=>some (.next (i,g,W (b+1)))else some (.done (e,d))
def H0P (F:Nat)(b:B07)(o:Int)(r:(Int×((List U0)×(List Int)×(List E1)×(List (List E1))×(List (List Int))×Int×Int×(List Int)×(List (List Int))×((List (List Int))×(List (List Int)))))):Option (T0 (Int×((List U0)×(List Int)×(List E1)×(List (List E1))×(List (List Int))×Int×Int×(List Int)×(List (List Int))×((List (List Int))×(List (List Int))))) ((List U0)×(List Int)×(List E1)×(List (List E1))×(List (List Int))×Int×Int×(List Int)×(List (List Int))×((List (List Int))×(List (List Int))))):=match r with
 | (a,(i,g,k,j,l,At,h,d,c,(e,f)))=>if decide (a<(b.Places.length:Int))then .bind (α:=((List U0)×(List Int)×(List E1)×(List (List E1))×(List (List Int))×Int×Int×(List Int)×(List (List Int))×((List (List Int))×(List (List Int))))) (if y0 b.Tags a then if y0 (gt b.Tags a) 0 then if decide ((gt (gt b.Tags a) 0)>o)then some (i,g,k,j,l,At,h,d,c,(e,f))else if y0 b.Places a then if C1 8 d [gt b.Places a]then if y0 b.Tags a then if C1 24 c [gt b.Tags a]then .bind (α:=(List Int)×(List Int)) (iter (G0X F b o a) F ([],[],0)) fun(n,m)=>if C1 24 e [n]then if C1 24 f [m]then some (i,g,k,j,l,At,h,d++[gt b.Places a],c++[gt b.Tags a],(e++[n],f++[m]))else none else none else none else none else none else none else none else none) fun(y,t,s,z,v,x,q,u,p,(w,A))=>some (.next (W (a+1),(y,t,s,z,v,x,q,u,p,(w,A))))else some (.done (i,g,k,j,l,At,h,d,c,(e,f)))
def F03 (F:Nat)(a:B07)(h:Int):Option B07:=.bind (α:=((List U0)×(List Int)×(List E1)×(List (List E1))×(List (List Int))×Int×Int×(List Int)×(List (List Int))×((List (List Int))×(List (List Int))))) (iter (H0P F a h) F (0,(a.L,a.Leaves,a.First,a.Hops,a.Ends,a.At,a.Work,[],[],([],[])))) fun(L3,g,i,d,j,l,k,f,c,(b,e))=>some (⟨L3,g,i,d,j,l,k,f,c,(⟨b,e⟩:P1)⟩:B07)
def K0x (F:Nat):Sm en.D:=⟨89,[.d (.st 12),.d (.int .i64)],.d (.st 12),[],fun a=>F03 F a.1 a.2⟩
def R04 (F:Nat):=R0 [] 89 ⟨[(14,[(.nrm,⟨[(7,.own 3 (.int .i64)),(8,.own 3 (.int .i64))],[(7,.any),(8,.any),(12,.any),(13,.any)]⟩)]),(7,[(.nrm,⟨[],[(2,.box 72 [.d (.list (.st 0)),.d (.list (.int .i64)),.d (.list (.st 10)),.d (.list (.list (.st 10))),.d (.list (.list (.int .i64))),.d (.int .i64),.d (.int .i64),.own 3 (.int .i64),.own 23 (.list (.int .i64)),.agg [.own 23 (.list (.int .i64)),.own 23 (.list (.int .i64))]]),(3,.any),(4,.any),(5,.any),(6,.any),(7,.any)]⟩)])],[(13,⟨[(7,.own 3 (.int .i64)),(8,.own 3 (.int .i64)),(9,.d (.int .i64))],[(7,.any),(8,.any)]⟩,[(.ex 2,⟨[(7,.own 3 (.int .i64)),(8,.own 3 (.int .i64)),(9,.any)],[(7,.any),(8,.any)]⟩)]),(6,⟨[(6,.d (.int .i64))],[(2,.box 72 [.d (.list (.st 0)),.d (.list (.int .i64)),.d (.list (.st 10)),.d (.list (.list (.st 10))),.d (.list (.list (.int .i64))),.d (.int .i64),.d (.int .i64),.own 3 (.int .i64),.own 23 (.list (.int .i64)),.agg [.own 23 (.list (.int .i64)),.own 23 (.list (.int .i64))]])]⟩,[(.ex 0,⟨[(6,.any)],[(2,.box 72 [.d (.list (.st 0)),.d (.list (.int .i64)),.d (.list (.st 10)),.d (.list (.list (.st 10))),.d (.list (.list (.int .i64))),.d (.int .i64),.d (.int .i64),.own 3 (.int .i64),.own 23 (.list (.int .i64)),.agg [.own 23 (.list (.int .i64)),.own 23 (.list (.int .i64))]])]⟩)])],[],[]⟩ F
def G0E (F:Nat)(a:C0T)(i:Int):Option C0T:=.bind (if a.Crowd.At==0 then some true else some (!a.Is)) fun g=>.bind (H0T F a.Crowd i g) fun b=>.bind (E02 F b) fun(c,e)=>.bind (α:=B07×(List Int)×Int×Bool) (if e then if y0 c 0 then .bind (F03 F b (gt c 0)) fun j=>some (j,c,b.At,true)else none else some (b,a.Tags,a.To,a.Is)) fun(k,f,d,h)=>some (⟨k,f,d,h⟩:C0T)
def L0m (F:Nat):Sm en.D:=⟨47,[.d (.st 13),.d (.int .u8)],.d (.st 13),[],fun a=>G0E F a.1 a.2⟩
def R0F (F:Nat):=R0 [L0h F,K0J F,K0x F] 47 ⟨[(6,[(.nrm,⟨[],[(0,.box 74 [.d (.st 12),.d (.list (.int .i64)),.d (.int .i64),.d .bool]),(2,.any)]⟩)])],[],[(1,8,11,⟨[(14,.any),(18,.d .bool)],[]⟩)],[]⟩ F
def H00 (F:Nat)(a:List C0s):Option (List C0s):=if C1 16 ([]:List C0s) a then some a else none
def M07 (F:Nat):Sm en.D:=⟨131,[.d (.list (.st 1))],.own 169 (.st 1),[],fun a=>H00 F a⟩
def M0V (F:Nat):X1 en:=⟨[],fun _=>⟨[],[],[],[4]⟩,F,[]⟩
def I0v (F:Nat)(c:b0D)(b:Int)(f:Int×((List Int)×(List C0x))):Option (T0 (Int×((List Int)×(List C0x))) ((List Int)×(List C0x))):=match f with
 | (a,(e,c0s))=>let h:=decide (a<(((gt c.Stands b).c0s).length:Int));
 if h then if y0 ((gt c.Stands b).c0s) a then .bind (H00 F ((gt ((gt c.Stands b).c0s) a).Moves)) fun d=>if C1 32 c0s [(⟨(gt ((gt c.Stands b).c0s) a).To,d⟩:C0x)]then let g:=c0s++[(⟨(gt ((gt c.Stands b).c0s) a).To,d⟩:C0x)];
    some (.next (W (a+1),(e,g)))else none else none else some (.done (e,c0s))
def H04 (F:Nat)(b:b0D)(j:Int×(Int×Int×(List Int)×(List C05))):Option (T0 (Int×(Int×Int×(List Int)×(List C05))) (Int×Int×(List Int)×(List C05))):=match j with
 | (a,(f,e,g,c))=>if decide (a<(b.Stands.length:Int))then if y0 b.Stands a then .bind (D0G F ((gt b.Stands a).Accept)) fun i=>.bind (α:=(List Int)×(List C0x)) (iter (I0v F b a) F (0,(i,[]))) fun(d,h)=>if C1 48 c [(⟨d,h⟩:C05)]then some (.next (W (a+1),(f,e,g,c++[(⟨d,h⟩:C05)])))else none else none else some (.done (f,e,g,c))
def G06 (F:Nat)(a:b0D):Option b0D:=.bind (α:=Int×Int×(List Int)) (same (.bind (D0G F a.Class) fun h=>some (a.Tags,a.Regs,h)) (.bind (D0G F a.Class) fun g=>some (a.Tags,a.Regs,g))) fun(b,i,f)=>.bind (α:=Int×Int×(List Int)×(List C05)) (iter (H04 F a) F (0,(b,i,f,[]))) fun(c,d,j,e)=>some (⟨c,d,j,e⟩:b0D)
def L05 (F:Nat):Sm en.D:=⟨90,[.d (.st 4)],.d (.st 4),[],fun a=>G06 F a⟩
def W0F (F:Nat):=R0 [F0X F,M07 F] 90 ⟨[],[(3,⟨[(20,.d (.int .i64))],[(2,.any),(3,.box 26 [.d (.int .i64),.d (.int .i64),.own 3 (.int .i64),.own 92 (.st 3)])]⟩,[(.ex 0,⟨[(20,.any)],[(2,.any),(3,.box 26 [.d (.int .i64),.d (.int .i64),.own 3 (.int .i64),.own 92 (.st 3)])]⟩)]),(7,⟨[(31,.d (.int .i64))],[(8,.any),(9,.box 92 [.own 3 (.int .i64),.own 95 (.st 2)])]⟩,[(.ex 2,⟨[(31,.any)],[(8,.any),(9,.box 92 [.own 3 (.int .i64),.own 95 (.st 2)])]⟩)])],[(1,1000006,9,⟨[(3,.box 26 [.d (.int .i64),.d (.int .i64),.own 3 (.int .i64),.nil])],[]⟩)],[]⟩ F
def H0c (F:Nat)(b:D0d)(a:Int):Option Int:=if a==(-1)then some b.at_ else if a==(-2)then some (-1)else if y0 b.regs a then some (gt b.regs a)else none
def I0h (F:Nat):Sm en.D:=⟨92,[.d (.ptr (.st 23)),.d (.int .i64)],.d (.int .i64),[],fun a=>H0c F a.1 a.2⟩
def W0G (F:Nat):=R0 [] 92 U1 F
def K0Y (F:Nat)(a:D0d):Option Bool:=.bind (if decide (a.stand>=0)then if y0 a.p.Stands a.stand then let c:=(((gt a.p.Stands a.stand).Accept).length:Int);
    some (decide (c>0))else none else some false) fun b=>some b
def K0B (F:Nat):Sm en.D:=⟨132,[.d (.ptr (.st 23))],.d .bool,[],fun a=>K0Y F a⟩
def Q02 (F:Nat):=R0 [] 132 ⟨[],[],[(1,6,20,⟨[(8,.any),(23,.d .bool)],[]⟩)],[]⟩ F
def J0j (F:Nat)(f:C0v)(c:b0D)(g:Int)(a:Int)(h:Int)(i:List Int)(j:(List Int)×Int):Option (T0 ((List Int)×Int) (List Int)):=match j with
 | (d,b)=>let k:=decide (b<(((gt c.Stands a).Accept).length:Int));
 if k then if y0 ((gt c.Stands a).Accept) b then .bind (H0c F (⟨f,c,g,a,h,i⟩:D0d) (gt ((gt c.Stands a).Accept) b)) fun e=>if C1 8 d [e]then some (.next (d++[e],W (b+1)))else none else none else some (.done d)
def G0j (F:Nat):(C0v×b0D×Int×Int×Int×(List Int))->Option (C0v×b0D×Int×Int×Int×(List Int))
 | (f,c,b,a,d,e)=>.bind (K0Y F (⟨f,c,b,a,d,e⟩:D0d)) fun h=>if !h then some (f,c,b,a,d,e)else if y0 c.Stands a then .bind (α:=List Int) (iter (J0j F f c b a d e) F ([],0)) fun g=>some ((⟨g,b⟩:C0v),c,b,a,d,e)else none
def J0d (F:Nat):Sm en.D:=⟨91,[.box 167 [.d (.st 22),.d (.st 4),.d (.int .i64),.d (.int .i64),.d (.int .i64),.own 3 (.int .i64)]],.tup [],[(0,.box 167 [.d (.st 22),.d (.st 4),.d (.int .i64),.d (.int .i64),.d (.int .i64),.own 3 (.int .i64)])],fun a=>G0j F a⟩
def Q0I (F:Nat):=R0 [I0h F,K0B F] 91 ⟨[],[(3,⟨[(2,.own 3 (.int .i64)),(21,.d (.int .i64))],[]⟩,[(.ex 0,⟨[(2,.own 3 (.int .i64)),(21,.any)],[]⟩)])],[],[]⟩ F
def H0W (F:Nat)(a:b0D):Option ((Unit⊕(C0v×b0D×Int×Int×Int×(List Int)))×Int):=.bind (H0S F a) fun p=>if !p then some ((.inl ()),11)else .bind (α:=C0v×b0D×Int×Int×Int×(List Int)) (same (.bind (G06 F a) fun d=>if S5 8 a.Regs then some ((⟨[],0⟩:C0v),d,0,0,0,(List.replicate a.Regs.toNat 0:List Int))else none) (if S5 8 a.Regs then .bind (G06 F a) fun g=>some ((⟨[],0⟩:C0v),g,0,0,0,(List.replicate a.Regs.toNat 0:List Int))else none)) fun(b,n,f,c,h,i)=>.bind (G0j F (b,n,f,c,h,i)) fun(e,k,j,o,m,l)=>some ((.inr (e,k,j,o,m,l)),0)
def K0A (F:Nat):Sm en.D:=⟨48,[.d (.st 4)],.tup [.alt .nilp (.box 167 [.d (.st 22),.d (.st 4),.d (.int .i64),.d (.int .i64),.d (.int .i64),.own 3 (.int .i64)]),.d (.int .i64)],[],fun a=>H0W F a⟩
def P0Y (F:Nat):=R0 [H01 F,L05 F,J0d F] 48 ⟨[],[],[(3,1000001,7,⟨[(4,.box 167 [.d (.st 22),.d (.st 4),.d (.int .i64),.d (.int .i64),.d (.int .i64),.own 3 (.int .i64)])],[]⟩)],[]⟩ F
def G0v (F:Nat)(d:C0v)(j:b0D)(g:Int)(f:Int)(h:Int)(b:List C0s)(i:Int×(List Int)):Option (T0 (Int×(List Int)) (List Int)):=match i with
 | (a,c)=>if decide (a<(b.length:Int))then if y0 b a then .bind (H0c F (⟨d,j,g,f,W (h+1),c⟩:D0d) ((gt b a).From)) fun e=>if y0 c ((gt b a).To)then some (.next (W (a+1),c.set ((gt b a).To).toNat e))else none else none else some (.done c)
def J0a (F:Nat):(C0v×b0D×Int×Int×Int×(List Int))->Int->Option (C0v×b0D×Int×Int×Int×(List Int))
 | (d,a,f,b,e,g),c=>.bind (α:=C0v×b0D×Int×Int×Int×(List Int)) (if decide (b>=0)then if y0 a.Stands b then if y0 a.Class c then if y0 ((gt a.Stands b).c0s) (gt a.Class c)then let m:=(gt ((gt a.Stands b).c0s) (gt a.Class c)).Moves;
      .bind (α:=List Int) (iter (G0v F d a f b e m) F (0,g)) fun h=>let q:=(gt ((gt a.Stands b).c0s) (gt a.Class c)).Moves;
      let o:=(gt ((gt a.Stands b).c0s) (gt a.Class c)).To;
      some (d,a,f,o,W ((W (e+1))+(q.length:Int)),h)else none else none else none else some (d,a,f,b,W (e+1),g)) fun(l,u,n,j,p,t)=>.bind (G0j F (l,u,W (n+1),j,p,t)) fun(i,s,v,r,w,k)=>some (i,s,v,r,w,k)
def K0o (F:Nat):Sm en.D:=⟨49,[.box 167 [.d (.st 22),.d (.st 4),.d (.int .i64),.d (.int .i64),.d (.int .i64),.own 3 (.int .i64)],.d (.int .u8)],.tup [],[(0,.box 167 [.d (.st 22),.d (.st 4),.d (.int .i64),.d (.int .i64),.d (.int .i64),.own 3 (.int .i64)])],fun a=>J0a F a.1 a.2⟩
def Q0M (F:Nat):=R0 [J0d F,I0h F] 49 ⟨[(10,[(.nrm,⟨[],[(0,.any),(1,.box 167 [.d (.st 22),.d (.st 4),.d (.int .i64),.d (.int .i64),.d (.int .i64),.own 3 (.int .i64)])]⟩)])],[(4,⟨[(44,.d (.int .i64))],[(0,.own 3 (.int .i64))]⟩,[(.ex 0,⟨[(44,.any)],[(0,.own 3 (.int .i64))]⟩)])],[],[]⟩ F
def O0Q (F:Nat)(a:D0d):Option Int:=some a.work
def K0g (F:Nat):Sm en.D:=⟨50,[.d (.ptr (.st 23))],.d (.int .i64),[],fun a=>O0Q F a⟩
def Q0A (F:Nat):=R0 [] 50 U1 F
def I06 (F:Nat)(a:C0I)(o:Int×(b0D×Int×Int×(List Int)×(List Int)×Int×Bool×Int)):Option (T0 (Int×(b0D×Int×Int×(List Int)×(List Int)×Int×Bool×Int)) (b0D×Int×Int×(List Int)×(List Int)×Int×Bool×Int)):=match o with
 | (b,(i,At,g,d,c,f,h,e))=>let s:=(((gt a.P.Stands a.Stand).Accept).length:Int);
 if decide (b<s)then .bind (α:=b0D×Int×Int×(List Int)×(List Int)×Int×Bool×Int) (if y0 ((gt a.P.Stands a.Stand).Accept) b then let q:=(gt ((gt a.P.Stands a.Stand).Accept) b)==(-1);
    if q then if C1 8 c [At]then some (i,At,g,d,c++[At],f,h,e)else none else if y0 ((gt a.P.Stands a.Stand).Accept) b then let u:=(gt ((gt a.P.Stands a.Stand).Accept) b)==(-2);
      if u then if C1 8 c [(-1)]then some (i,At,g,d,c++[(-1)],f,h,e)else none else if y0 ((gt a.P.Stands a.Stand).Accept) b then if y0 d (gt ((gt a.P.Stands a.Stand).Accept) b)then let j:=gt d (gt ((gt a.P.Stands a.Stand).Accept) b);
         if C1 8 c [j]then some (i,At,g,d,c++[j],f,h,e)else none else none else none else none else none) fun(P2,t,r,k,l,p,m,n)=>some (.next (W (b+1),(P2,t,r,k,l,p,m,n)))else some (.done (i,At,g,d,c,f,h,e))
def E07 (F:Nat)(a:C0I):Option C0I:=.bind (if decide (a.Stand<0)then some true else if y0 a.P.Stands a.Stand then let c:=(((gt a.P.Stands a.Stand).Accept).length:Int);
    some (c==0)else none) fun f=>if f then some a else if y0 a.P.Stands a.Stand then .bind (α:=b0D×Int×Int×(List Int)×(List Int)×Int×Bool×Int) (iter (I06 F a) F (0,(a.P,a.At,a.Stand,a.Regs,[],a.To,a.Is,a.Work))) fun(h,b,g,e,d,j,k,i)=>some (⟨h,b,g,e,d,b,true,i⟩:C0I)else none
def I00 (F:Nat):Sm en.D:=⟨93,[.d (.st 14)],.d (.st 14),[],fun a=>E07 F a⟩
def V0A (F:Nat):=R0 [] 93 ⟨[(7,[(.nrm,⟨[],[(0,.box 76 [.d (.st 4),.d (.int .i64),.d (.int .i64),.d (.list (.int .i64)),.own 3 (.int .i64),.d (.int .i64),.d .bool,.d (.int .i64)]),(2,.any)]⟩)])],[(6,⟨[(4,.d (.int .i64))],[(0,.box 76 [.d (.st 4),.d (.int .i64),.d (.int .i64),.d (.list (.int .i64)),.own 3 (.int .i64),.d (.int .i64),.d .bool,.d (.int .i64)])]⟩,[(.ex 0,⟨[(4,.any)],[(0,.box 76 [.d (.st 4),.d (.int .i64),.d (.int .i64),.d (.list (.int .i64)),.own 3 (.int .i64),.d (.int .i64),.d .bool,.d (.int .i64)])]⟩)])],[(1,4,14,⟨[(8,.any),(19,.d .bool)],[]⟩)],[]⟩ F
def J0f (F:Nat)(a:b0D):Option C0I:=if S5 8 a.Regs then .bind (E07 F (⟨a,0,0,(List.replicate a.Regs.toNat 0:List Int),[],0,false,0⟩:C0I)) fun b=>some b else none
def K0a (F:Nat):Sm en.D:=⟨51,[.d (.st 4)],.d (.st 14),[],fun a=>J0f F a⟩
def Q0J (F:Nat):=R0 [I00 F] 51 U1 F
def K0D (F:Nat)(b:List Int)(a:C0s)(e:Int):Option (Int×Bool):=.bind (if decide (a.To<0)then some true else some (decide (a.To>=(b.length:Int)))) fun d=>.bind (if d then some true else some (decide (a.From>=(b.length:Int)))) fun f=>.bind (if f then some true else some (decide (a.From<(-1)))) fun c=>if c then some (0,false)else if a.From==(-1)then some (e,true)else if y0 b a.From then some (gt b a.From,true)else none
def L0s (F:Nat):Sm en.D:=⟨133,[.d (.list (.int .i64)),.d (.st 1),.d (.int .i64)],.tup [.d (.int .i64),.d .bool],[],fun a=>K0D F a.1 a.2.1 a.2.2⟩
def T0a (F:Nat):=R0 [] 133 ⟨[],[],[(1,4,9,⟨[(11,.any),(17,.d .bool)],[]⟩),(1,11,16,⟨[(18,.any),(24,.d .bool)],[]⟩),(1,18,21,⟨[(25,.any),(29,.d .bool)],[]⟩)],[]⟩ F
def G0u (F:Nat)(b:List C0s)(h:Int)(f:Int×(List Int)):Option (T0 (Int×(List Int)) (List Int)):=match f with
 | (a,c)=>if decide (a<(b.length:Int))then .bind (α:=List Int) (if y0 b a then .bind (K0D F c (gt b a) h) fun(g,d)=>if d then if y0 b a then if y0 c ((gt b a).To)then some (c.set ((gt b a).To).toNat g)else none else none else some c else none) fun e=>some (.next (W (a+1),e))else some (.done c)
def G0K (F:Nat)(a:List Int)(b:List C0s)(c:Int):Option (List Int):=if C1 8 ([]:List Int) a then .bind (α:=List Int) (iter (G0u F b c) F (0,[]++a)) fun d=>some d else none
def K0H (F:Nat):Sm en.D:=⟨94,[.d (.list (.int .i64)),.d (.list (.st 1)),.d (.int .i64)],.own 3 (.int .i64),[],fun a=>G0K F a.1 a.2.1 a.2.2⟩
def X0n (F:Nat):=R0 [L0s F] 94 ⟨[(4,[(.nrm,⟨[],[(1,.own 3 (.int .i64))]⟩)])],[(3,⟨[(8,.d (.int .i64))],[(1,.own 3 (.int .i64))]⟩,[(.ex 0,⟨[(8,.any)],[(1,.own 3 (.int .i64))]⟩)])],[],[]⟩ F
def J0k (F:Nat)(a:C0I)(c:Int):Option C0I:=.bind (α:=b0D×Int×Int×(List Int)×(List Int)×Int×Bool×Int) (if decide (a.Stand>=0)then if y0 a.P.Stands a.Stand then if y0 a.P.Class (W (c))then if y0 ((gt a.P.Stands a.Stand).c0s) (gt a.P.Class (W (c)))then let b:=gt ((gt a.P.Stands a.Stand).c0s) (gt a.P.Class (W (c)));
      .bind (G0K F a.Regs b.Moves a.At) fun f=>some (a.P,a.At,b.To,f,a.Tags,a.To,a.Is,W ((W (a.Work+1))+(b.Moves.length:Int)))else none else none else none else some (a.P,a.At,a.Stand,a.Regs,a.Tags,a.To,a.Is,W (a.Work+1))) fun(i,At,g,k,e,d,h,l)=>.bind (E07 F (⟨i,W (At+1),g,k,e,d,h,l⟩:C0I)) fun j=>some j
def L09 (F:Nat):Sm en.D:=⟨52,[.d (.st 14),.d (.int .u8)],.d (.st 14),[],fun a=>J0k F a.1 a.2⟩
def R0d (F:Nat):=R0 [I00 F,K0H F] 52 ⟨[(7,[(.nrm,⟨[],[(0,.box 76 [.d (.st 4),.d (.int .i64),.d (.int .i64),.d (.list (.int .i64)),.d (.list (.int .i64)),.d (.int .i64),.d .bool,.d (.int .i64)])]⟩)])],[],[],[]⟩ F
def I03 (F:Nat)(b:List F07)(d:Int×Int):Option (T0 (Int×Int) (Unit⊕Int)):=match d with
 | (c,a)=>if decide (a<(b.length:Int))then if y0 b a then if decide ((((gt b a).B).length:Int)>24)then some (.done (.inl ()))else if y0 b a then some (.next (W (c+(((gt b a).B).length:Int)),W (a+1)))else none else none else some (.done (.inr c))
def Z0p (F:Nat)(a:List F07):Option Bool:=if decide ((a.length:Int)>20)then some false else .bind (α:=Unit⊕Int) (iter (I03 F a) F (0,0)) fun b=>match b with
  | .inl _=>some false
  | .inr c=>some (decide (c<=24))
def Z0X (F:Nat):Sm en.D:=⟨19,[.d (.list (.st 6))],.d .bool,[],fun a=>Z0p F a⟩
def a1M (F:Nat):=R0 [] 19 ⟨[],[(5,⟨[(3,.d (.int .i64)),(4,.d (.int .i64))],[]⟩,[(.ret,⟨[(2,.kb false),(3,.any),(4,.any)],[]⟩),(.ex 0,⟨[(3,.d (.int .i64)),(4,.any)],[]⟩)])],[],[]⟩ F
def C0R (F:Nat)(i:List U0):Option ((Unit⊕(F0T×(h0r×(List Int)×Int×Bool)))×Int):=.bind (α:=((Unit⊕(h0r×(List Int)×Int×Bool))×Int)) (.bind (H0H F i) fun(e,b)=>match e with
  | .inl _=>some ((.inl ()),b)
  | .inr (j,d,l,is)=>some ((.inr (j,d,l,is)),b)) fun(c,a)=>match c with
 | .inl _=>if a != 0 then some ((.inl ()),a)else none
 | .inr (k,h,f,g)=>if a != 0 then some ((.inl ()),a)else some ((.inr ((⟨false,0⟩:F0T),(k,h,f,g))),0)
def K0d (F:Nat):Sm en.D:=⟨22,[.d (.list (.st 0))],.tup [.alt .nilp (.box 88 [.d (.st 7),.ifc 120 (.agg [.box 109 [.box 158 [.d (.st 19)],.d (.list (.int .i64)),.d (.int .i64),.d .bool]])]),.d (.int .i64)],[],fun a=>C0R F a⟩
def Y0E (F:Nat):=R0 [L0v F] 22 ⟨[(2,[(.nrm,⟨[(4,.alt .nilp (.box 109 [.box 158 [.d (.st 19)],.d (.list (.int .i64)),.d (.int .i64),.d .bool])),(5,.d (.int .i64))],[]⟩)])],[],[],[]⟩ F
def c0I (F:Nat)(b:List Int)(k:Int)(h:(List V1)×Int):Option (T0 ((List V1)×Int) (List V1)):=match h with
 | (c,a)=>if decide (a<(b.length:Int))then .bind (α:=List V1) (if y0 b a then .bind (α:=Unit⊕Int) (.bind (if decide (a>0)then some ((a.tmod 2)==0)else some false) fun i=>if i then some (.inl ())else if decide (a>0)then if y0 b (W (a+1))then some (.inr (gt b (W (a+1))))else none else some (.inr k)) fun g=>match g with
    | .inl _=>some c
    | .inr d=>.bind (α:=Int×Int) (.bind (if decide ((gt b a)<0)then some true else some (decide (d<0))) fun j=>if j then some ((-1),(-1))else some (gt b a,d)) fun(f,e)=>if C1 16 c [(⟨f,e⟩:V1)]then some (c++[(⟨f,e⟩:V1)])else none else none) fun l=>some (.next (l,W (a+1)))else some (.done c)
def b0E (F:Nat)(a:List Int)(b:Int):Option (List V1):=if((a.length:Int).tmod 2)==0 then some []else .bind (α:=List V1) (iter (c0I F a b) F ([],0)) fun c=>some c
def f0o (F:Nat):Sm en.D:=⟨243,[.d (.list (.int .i64)),.d (.int .i64)],.own 118 (.st 8),[],fun a=>b0E F a.1 a.2⟩
def z0d (F:Nat):=R0 [] 243 ⟨[(11,[(.ex 1,⟨[],[]⟩),(.nrm,⟨[(8,.d (.int .i64))],[]⟩)]),(13,[(.nrm,⟨[(7,.d (.int .i64)),(8,.d (.int .i64))],[]⟩)]),(14,[(.nrm,⟨[(5,.own 118 (.st 8))],[(0,.any)]⟩)])],[(5,⟨[(5,.own 118 (.st 8)),(15,.d (.int .i64))],[]⟩,[(.ex 0,⟨[(5,.own 118 (.st 8)),(15,.any)],[]⟩)])],[(8,3,6,⟨[(24,.any),(28,.d .bool)],[]⟩),(11,3,5,⟨[(39,.any),(42,.d .bool)],[]⟩)],[]⟩ F
def J0G (F:Nat):(h0r×(List Int)×Int×Bool)->Option (((List V1)×Bool)×(h0r×(List Int)×Int×Bool))
 | (c,b,a,is)=>if !is then some (([],false),(c,b,a,is))else .bind (b0E F b a) fun d=>some ((d,true),(c,b,a,is))
def X0t (F:Nat):Sm en.D:=⟨242,[.box 109 [.box 158 [.d (.st 19)],.d (.list (.int .i64)),.d (.int .i64),.d .bool]],.tup [.own 118 (.st 8),.d .bool],[(0,.box 109 [.box 158 [.d (.st 19)],.d (.list (.int .i64)),.d (.int .i64),.d .bool])],fun a=>J0G F a⟩
def Y0Y (F:Nat):=R0 [f0o F] 242 U1 F
def L0q (F:Nat)(a:D0R):Option Bool:=.bind (if a.is then .bind (J0B F a) fun e=>some (e==0)else some false) fun c=>.bind (if c then .bind (E0T F a.Crowd) fun b=>some (decide (b>0))else some false) fun d=>some d
def X0Z (F:Nat):Sm en.D:=⟨246,[.d (.ptr (.st 20))],.d .bool,[],fun a=>L0q F a⟩
def Y0U (F:Nat):=R0 [L0J F,M0n F] 246 ⟨[],[],[(1,5,8,⟨[(7,.any),(11,.d .bool)],[]⟩),(1,10,16,⟨[(12,.any),(19,.d .bool)],[]⟩)],[]⟩ F
def G0a (F:Nat)(b:F00):Option Bool:=.bind (L0q F b.Hunt) fun a=>some a
def M0l (F:Nat):Sm en.D:=⟨245,[.d (.st 24)],.d .bool,[],fun a=>G0a F a⟩
def Y00 (F:Nat):=R0 [X0Z F] 245 U1 F
def a1B (F:Nat)(a:D0d):Option Int:=some a.stand
def Z0U (F:Nat):Sm en.D:=⟨248,[.d (.ptr (.st 23))],.d (.int .i64),[],fun a=>a1B F a⟩
def b18 (F:Nat):=R0 [] 248 U1 F
def Y06 (F:Nat)(b:F0U):Option Bool:=.bind (a1B F b.Run) fun a=>some (decide (a<0))
def Z0C (F:Nat):Sm en.D:=⟨247,[.d (.st 27)],.d .bool,[],fun a=>Y06 F a⟩
def b12 (F:Nat):=R0 [Z0U F] 247 U1 F
def E04 (F:Nat):(F0T×(h0r×(List Int)×Int×Bool))->Option ((Bool×Bool×(List V1))×(F0T×(h0r×(List Int)×Int×Bool)))
 | (b,(j,g,l,is))=>.bind (J0G F (j,g,l,is)) fun((k,i),(e,d,a,c))=>.bind (if b.closed then some true else .bind (G0a F (⟨(⟨e,d,a,c⟩:D0R)⟩:F00)) fun f=>some f) fun h=>some ((i,h,k),(b,(e,d,a,c)))
def I05 (F:Nat):Sm en.D:=⟨56,[.box 88 [.d (.st 7),.ifc 120 (.agg [.box 109 [.box 158 [.d (.st 19)],.d (.list (.int .i64)),.d (.int .i64),.d .bool]])]],.agg [.d .bool,.d .bool,.own 118 (.st 8)],[(0,.box 88 [.d (.st 7),.ifc 120 (.agg [.box 109 [.box 158 [.d (.st 19)],.d (.list (.int .i64)),.d (.int .i64),.d .bool]])])],fun a=>E04 F a⟩
def Y0N (F:Nat):=R0 [X0t F,M0l F] 56 ⟨[],[],[(2,7,12,⟨[(19,.any),(25,.d .bool)],[]⟩)],[]⟩ F
def C0K (F:Nat)(f:List Int)(j:Int×(h0r×(List Int)×Int×Bool)):Option (T0 (Int×(h0r×(List Int)×Int×Bool)) (h0r×(List Int)×Int×Bool)):=match j with
 | (a,(e,d,b,c))=>if decide (a<(f.length:Int))then if y0 f a then .bind (G0a F (⟨(⟨e,d,b,c⟩:D0R)⟩:F00)) fun h=>if h then some (.done (e,d,b,c))else .bind (F0c F (e,d,b,c) (gt f a)) fun(l,g,k,i)=>some (.next (W (a+1),(l,g,k,i)))else none else some (.done (e,d,b,c))
def C0g (F:Nat):(F0T×(h0r×(List Int)×Int×Bool))->(List Int)->Option (((Bool×Bool×(List V1))×Int)×(F0T×(h0r×(List Int)×Int×Bool)))
 | (a,(d,b,e,is)),c=>if a.closed then some (((false,false,[]),13),(a,(d,b,e,is)))else .bind (α:=h0r×(List Int)×Int×Bool) (iter (C0K F c) F (0,(d,b,e,is))) fun(o,p,h,g)=>.bind (E04 F ((⟨a.closed,W (a.count+(c.length:Int))⟩:F0T),(o,p,h,g))) fun((q,f,n),(i,(j,l,m,k)))=>some (((q,f,n),0),(i,(j,l,m,k)))
def J0A (F:Nat):Sm en.D:=⟨23,[.box 88 [.d (.st 7),.ifc 120 (.agg [.box 109 [.box 158 [.d (.st 19)],.d (.list (.int .i64)),.d (.int .i64),.d .bool]])],.d (.list (.int .u8))],.tup [.agg [.d .bool,.d .bool,.d (.list (.st 8))],.d (.int .i64)],[(0,.box 88 [.d (.st 7),.ifc 120 (.agg [.box 109 [.box 158 [.d (.st 19)],.d (.list (.int .i64)),.d (.int .i64),.d .bool]])])],fun a=>C0g F a.1 a.2⟩
def Y03 (F:Nat):=R0 [M0p F,I05 F,M0l F] 23 ⟨[],[(4,⟨[(16,.d (.int .i64))],[(0,.any),(1,.box 109 [.box 158 [.d (.st 19)],.d (.list (.int .i64)),.d (.int .i64),.d .bool])]⟩,[(.ex 0,⟨[(16,.any)],[(0,.any),(1,.box 109 [.box 158 [.d (.st 19)],.d (.list (.int .i64)),.d (.int .i64),.d .bool])]⟩)])],[],[]⟩ F
def O02 (F:Nat):(F0T×(h0r×(List Int)×Int×Bool))->Option (((Bool×Bool×(List V1))×Int)×(F0T×(h0r×(List Int)×Int×Bool)))
 | (a,(c,b,d,is))=>if a.closed then some (((false,false,[]),13),(a,(c,b,d,is)))else .bind (E04 F ((⟨true,a.count⟩:F0T),(c,b,d,is))) fun((k,e,i),(f,(l,j,g,h)))=>some (((k,e,i),0),(f,(l,j,g,h)))
def U0d (F:Nat):Sm en.D:=⟨25,[.box 88 [.d (.st 7),.ifc 120 (.agg [.box 109 [.box 158 [.d (.st 19)],.d (.list (.int .i64)),.d (.int .i64),.d .bool]])]],.tup [.agg [.d .bool,.d .bool,.d (.list (.st 8))],.d (.int .i64)],[(0,.box 88 [.d (.st 7),.ifc 120 (.agg [.box 109 [.box 158 [.d (.st 19)],.d (.list (.int .i64)),.d (.int .i64),.d .bool]])])],fun a=>O02 F a⟩
def Y0X (F:Nat):=R0 [I05 F] 25 U1 F
def e00 (F:Nat)(b:List V1)(c:List V1)(e:Int):Option (T0 Int (Unit⊕Unit)):=match e with
 | a=>if decide (a<(b.length:Int))then if y0 b a then if y0 c a then let d:=!((((gt b a).From)==((gt c a).From))&&(((gt b a).To)==((gt c a).To)));
    if d then some (.done (.inl ()))else some (.next (W (a+1)))else none else none else some (.done (.inr ()))
def H9 (F:Nat)(b:List V1)(a:List V1):Option Bool:=if(b.length:Int) != (a.length:Int)then some false else .bind (α:=Unit⊕Unit) (iter (e00 F b a) F 0) fun c=>match c with
  | .inl _=>some false
  | .inr _=>some true
def d0m (F:Nat):Sm en.D:=⟨27,[.d (.list (.st 8)),.d (.list (.st 8))],.d .bool,[],fun a=>H9 F a.1 a.2⟩
def s0p (F:Nat):=R0 [] 27 ⟨[],[(4,⟨[(5,.d (.int .i64))],[]⟩,[(.ret,⟨[(4,.kb false),(5,.any)],[]⟩),(.ex 0,⟨[(5,.any)],[]⟩)])],[],[]⟩ F
def I0l (F:Nat)(p:b0D):Option ((Unit⊕(F0T×(C0v×b0D×Int×Int×Int×(List Int))))×Int):=.bind (α:=((Unit⊕(C0v×b0D×Int×Int×Int×(List Int)))×Int)) (.bind (H0W F p) fun(o,b)=>match o with
  | .inl _=>some ((.inl ()),b)
  | .inr (c,n,f,d,g,j)=>some ((.inr (c,n,f,d,g,j)),b)) fun(h,a)=>match h with
 | .inl _=>if a != 0 then some ((.inl ()),a)else none
 | .inr (e,i,l,q,m,k)=>if a != 0 then some ((.inl ()),a)else some ((.inr ((⟨false,0⟩:F0T),(e,i,l,q,m,k))),0)
def R0n (F:Nat):Sm en.D:=⟨28,[.d (.st 4)],.tup [.alt .nilp (.box 88 [.d (.st 7),.ifc 132 (.agg [.box 167 [.d (.st 22),.d (.st 4),.d (.int .i64),.d (.int .i64),.d (.int .i64),.own 3 (.int .i64)]])]),.d (.int .i64)],[],fun a=>I0l F a⟩
def Z0b (F:Nat):=R0 [K0A F] 28 ⟨[(2,[(.nrm,⟨[(4,.alt .nilp (.box 167 [.d (.st 22),.d (.st 4),.d (.int .i64),.d (.int .i64),.d (.int .i64),.own 3 (.int .i64)])),(5,.d (.int .i64))],[]⟩)])],[],[],[]⟩ F
def X04 (F:Nat):Option (List U0):=some [(⟨2,(-1),(-1),0,[0,8589934592,0,0]⟩:U0),(⟨8,0,(-1),0,[0,0,0,0]⟩:U0),(⟨2,(-1),(-1),0,[0,8589934592,0,0]⟩:U0),(⟨8,2,(-1),0,[0,0,0,0]⟩:U0),(⟨5,3,(-1),0,[0,0,0,0]⟩:U0),(⟨3,1,4,0,[0,0,0,0]⟩:U0)]
def X0Y (F:Nat):Sm en.D:=⟨54,[],.own 145 (.st 0),[],fun a=>X04 F⟩
def Y07 (F:Nat):=R0 [] 54 U1 F
def X03 (F:Nat):(F0T×(C0v×b0D×Int×Int×Int×(List Int)))->Option ((Bool×Bool×(List V1))×(F0T×(C0v×b0D×Int×Int×Int×(List Int))))
 | (f,(a,g,c,b,d,e))=>.bind (α:=(List V1)×Bool) (if(a.tags.length:Int)==0 then some ([],false)else .bind (b0E F a.tags a.to) fun k=>some (k,true)) fun(j,is)=>.bind (if f.closed then some true else .bind (Y06 F (⟨(⟨a,g,c,b,d,e⟩:D0d)⟩:F0U)) fun h=>some h) fun i=>some ((is,i,j),(f,(a,g,c,b,d,e)))
def Z0w (F:Nat):Sm en.D:=⟨56,[.box 88 [.d (.st 7),.ifc 132 (.agg [.box 167 [.d (.st 22),.d (.st 4),.d (.int .i64),.d (.int .i64),.d (.int .i64),.own 3 (.int .i64)]])]],.agg [.d .bool,.d .bool,.own 118 (.st 8)],[(0,.box 88 [.d (.st 7),.ifc 132 (.agg [.box 167 [.d (.st 22),.d (.st 4),.d (.int .i64),.d (.int .i64),.d (.int .i64),.own 3 (.int .i64)]])])],fun a=>X03 F a⟩
def b1H (F:Nat):X1 en:=⟨[f0o F,Z0C F],fun a=>if Nat.beq a 56 then⟨[(2,[(.nrm,⟨[(3,.own 118 (.st 8)),(4,.d .bool)],[]⟩)])],[],[(2,7,12,⟨[(19,.any),(25,.d .bool)],[]⟩)],[]⟩else if Nat.beq a 244 then U1 else U1,F,[]⟩
def M0b (F:Nat)(h:List Int)(m:Int×(C0v×b0D×Int×Int×Int×(List Int))):Option (T0 (Int×(C0v×b0D×Int×Int×Int×(List Int))) (C0v×b0D×Int×Int×Int×(List Int))):=match m with
 | (b,(a,f,c,g,e,d))=>if decide (b<(h.length:Int))then if y0 h b then .bind (Y06 F (⟨(⟨a,f,c,g,e,d⟩:D0d)⟩:F0U)) fun j=>if j then some (.done (a,f,c,g,e,d))else .bind (J0a F (a,f,c,g,e,d) (gt h b)) fun(o,l,i,k,n,p)=>some (.next (W (b+1),(o,l,i,k,n,p)))else none else some (.done (a,f,c,g,e,d))
def X08 (F:Nat):(F0T×(C0v×b0D×Int×Int×Int×(List Int)))->(List Int)->Option (((Bool×Bool×(List V1))×Int)×(F0T×(C0v×b0D×Int×Int×Int×(List Int))))
 | (a,(b,e,f,d,c,g)),h=>if a.closed then some (((false,false,[]),13),(a,(b,e,f,d,c,g)))else .bind (α:=C0v×b0D×Int×Int×Int×(List Int)) (iter (M0b F h) F (0,(b,e,f,d,c,g))) fun(w,i,l,s,t,q)=>.bind (X03 F ((⟨a.closed,W (a.count+(h.length:Int))⟩:F0T),(w,i,l,s,t,q))) fun((k,m,n),(p,(r,u,j,v,o,x)))=>some (((k,m,n),0),(p,(r,u,j,v,o,x)))
def Z0Q (F:Nat):Sm en.D:=⟨23,[.box 88 [.d (.st 7),.ifc 132 (.agg [.box 167 [.d (.st 22),.d (.st 4),.d (.int .i64),.d (.int .i64),.d (.int .i64),.own 3 (.int .i64)]])],.d (.list (.int .u8))],.tup [.agg [.d .bool,.d .bool,.d (.list (.st 8))],.d (.int .i64)],[(0,.box 88 [.d (.st 7),.ifc 132 (.agg [.box 167 [.d (.st 22),.d (.st 4),.d (.int .i64),.d (.int .i64),.d (.int .i64),.own 3 (.int .i64)]])])],fun a=>X08 F a.1 a.2⟩
def b1p (F:Nat):=R0 [K0o F,Z0C F,Z0w F] 23 ⟨[],[(4,⟨[(16,.d (.int .i64))],[(0,.any),(1,.box 167 [.d (.st 22),.d (.st 4),.d (.int .i64),.d (.int .i64),.d (.int .i64),.own 3 (.int .i64)])]⟩,[(.ex 0,⟨[(16,.any)],[(0,.any),(1,.box 167 [.d (.st 22),.d (.st 4),.d (.int .i64),.d (.int .i64),.d (.int .i64),.own 3 (.int .i64)])]⟩)])],[],[]⟩ F
def Y0P (F:Nat):(F0T×(C0v×b0D×Int×Int×Int×(List Int)))->Option (((Bool×Bool×(List V1))×Int)×(F0T×(C0v×b0D×Int×Int×Int×(List Int))))
 | (a,(b,g,d,c,e,f))=>if a.closed then some (((false,false,[]),13),(a,(b,g,d,c,e,f)))else .bind (X03 F ((⟨true,a.count⟩:F0T),(b,g,d,c,e,f))) fun((q,h,o),(j,(i,n,k,p,m,l)))=>some (((q,h,o),0),(j,(i,n,k,p,m,l)))
def a1a (F:Nat):Sm en.D:=⟨25,[.box 88 [.d (.st 7),.ifc 132 (.agg [.box 167 [.d (.st 22),.d (.st 4),.d (.int .i64),.d (.int .i64),.d (.int .i64),.own 3 (.int .i64)]])]],.tup [.agg [.d .bool,.d .bool,.d (.list (.st 8))],.d (.int .i64)],[(0,.box 88 [.d (.st 7),.ifc 132 (.agg [.box 167 [.d (.st 22),.d (.st 4),.d (.int .i64),.d (.int .i64),.d (.int .i64),.own 3 (.int .i64)]])])],fun a=>Y0P F a⟩
def b1R (F:Nat):=R0 [Z0w F] 25 U1 F
def G0c (F:Nat):Option Bool:=.bind (α:=((Unit⊕(F0T×(h0r×(List Int)×Int×Bool)))×Int)) (.bind (X04 F) fun X=>.bind (C0R F X) fun(aa,d)=>match aa with
  | .inl _=>some ((.inl ()),d)
  | .inr (L,(S,af,ai,is))=>some ((.inr (L,(S,af,ai,is))),d)) fun(R,a)=>match R with
 | .inl _=>.bind (α:=Int) (.bind (I0l F (⟨0,0,[],[]⟩:b0D)) fun(l,e)=>match l with
   | .inl _=>some e
   | .inr (au,(av,be,a4,bb,a5,a9))=>some e) fun q=>.bind (if a != 0 then some true else some true) fun w=>.bind (if w then some true else some (q != 11)) fun u=>if u then some false else if !([98,97,97]:List Int).isEmpty then none else none
 | .inr (O,(N,I,P,G))=>.bind (α:=Int) (.bind (I0l F (⟨0,0,[],[]⟩:b0D)) fun(D,b)=>match D with
   | .inl _=>some b
   | .inr (ap,(ar,ax,ay,bd,a0,ba))=>some b) fun m=>.bind (if a != 0 then some true else some false) fun J=>.bind (if J then some true else some (m != 11)) fun ac=>if ac then some false else if !([98,97,97]:List Int).isEmpty then .bind (C0g F (O,(N,I,P,G)) [98,97,97]) fun(((k,M,ak),az),(h,(aj,r,C,f)))=>if !([98]:List Int).isEmpty then .bind (C0g F (h,(aj,r,C,f)) [98]) fun(((a3,ag,am),a1),(t,(E,ah,o,x)))=>.bind (O02 F (t,(E,ah,o,x))) fun(((a2,Q,i),z),(Z,(j,g,ab,s)))=>.bind (C0g F (Z,(j,g,ab,s)) []) fun(((bf,bc,ao),y),(c,(aw,an,al,aq)))=>.bind (if k then some (!M)else some false) fun n=>.bind (if n then some ag else some false) fun A=>.bind (if A then .bind (H9 F i [(⟨1,3⟩:V1)]) fun H=>some H else some false) fun p=>.bind (if p then some Q else some false) fun B=>.bind (if B then some (z==0)else some false) fun Y=>.bind (if Y then some (y==13)else some false) fun v=>.bind (if v then some c.closed else some false) fun T=>.bind (if T then some (c.count==4)else some false) fun ae=>some ae else none else none
def R0c (F:Nat):Sm en.D:=⟨21,[],.d .bool,[],fun a=>G0c F⟩
def Y0J (F:Nat):X1 en:=⟨[K0d F,J0A F,U0d F,d0m F,R0n F,X0Y F],fun a=>if Nat.beq a 21 then⟨[(2,[(.nrm,⟨[(1,.alt .nilp (.box 88 [.d (.st 7),.ifc 120 (.agg [.box 109 [.box 158 [.d (.st 19)],.d (.list (.int .i64)),.d (.int .i64),.d .bool]])])),(2,.d (.int .i64))],[]⟩)]),(3,[(.nrm,⟨[(4,.d (.int .i64))],[]⟩)])],[],[(3,3,5,⟨[(25,.any),(28,.d .bool)],[]⟩),(3,7,9,⟨[(29,.any),(32,.d .bool)],[]⟩),(9,3,6,⟨[(59,.any),(63,.d .bool)],[]⟩),(9,8,10,⟨[(64,.any),(67,.d .bool)],[]⟩),(9,12,17,⟨[(68,.any),(74,.d .bool)],[]⟩),(9,19,21,⟨[(75,.any),(78,.d .bool)],[]⟩),(9,23,25,⟨[(79,.any),(82,.d .bool)],[]⟩),(9,27,29,⟨[(83,.any),(86,.d .bool)],[]⟩),(9,31,35,⟨[(87,.any),(92,.d .bool)],[]⟩),(9,37,42,⟨[(93,.any),(99,.d .bool)],[]⟩)],[]⟩else if Nat.beq a 33 then U1 else if Nat.beq a 55 then U1 else U1,F,[]⟩
def F06 (F:Nat)(b:G0m)(a:G0m):Option Bool:=.bind (if b.Is==a.Is then some (b.Sure==a.Sure)else some false) fun c=>.bind (if c then .bind (H9 F b.Spans a.Spans) fun e=>some e else some false) fun d=>some d
def X01 (F:Nat):Sm en.D:=⟨24,[.d (.st 9),.d (.st 9)],.d .bool,[],fun a=>F06 F a.1 a.2⟩
def Y0I (F:Nat):=R0 [d0m F] 24 ⟨[],[],[(1,6,11,⟨[(10,.any),(16,.d .bool)],[]⟩),(1,13,18,⟨[(17,.any),(23,.d .bool)],[]⟩)],[]⟩ F
def L0W (F:Nat):(F0T×(h0r×(List Int)×Int×Bool))->Option (Int×(F0T×(h0r×(List Int)×Int×Bool)))
 | (d,(a,b,e,is))=>.bind (K0K F a) fun c=>some (c,(d,(a,b,e,is)))
def X0V (F:Nat):Sm en.D:=⟨34,[.box 88 [.d (.st 7),.ifc 120 (.agg [.box 109 [.box 158 [.d (.st 19)],.d (.list (.int .i64)),.d (.int .i64),.d .bool]])]],.d (.int .i64),[(0,.box 88 [.d (.st 7),.ifc 120 (.agg [.box 109 [.box 158 [.d (.st 19)],.d (.list (.int .i64)),.d (.int .i64),.d .bool]])])],fun a=>L0W F a⟩
def Z0a (F:Nat):=R0 [J0V F] 34 U1 F
def Z0L (F:Nat)(a:C0T):Option Bool:=.bind (if a.Is then some ((a.Crowd.Places.length:Int)==0)else some false) fun c=>.bind (if c then some (decide (a.Crowd.At>0))else some false) fun b=>some b
def Z0Z (F:Nat):Sm en.D:=⟨137,[.d (.st 13)],.d .bool,[],fun a=>Z0L F a⟩
def a11 (F:Nat):=R0 [] 137 ⟨[],[],[(1,3,8,⟨[(5,.any),(11,.d .bool)],[]⟩),(1,10,14,⟨[(12,.any),(17,.d .bool)],[]⟩)],[]⟩ F
def K08 (F:Nat)(a:F0u):Option Bool:=if a.Table then some (decide (a.Run.Stand<0))else .bind (Z0L F a.Hunt) fun b=>some b
def Z0x (F:Nat):Sm en.D:=⟨99,[.d (.st 15)],.d .bool,[],fun a=>K08 F a⟩
def b1O (F:Nat):=R0 [Z0Z F] 99 U1 F
def c0Y (F:Nat)(a:Int)(b:Int):Option V1:=.bind (if decide (a<0)then some true else some (decide (b<0))) fun c=>if c then some (⟨(-1),(-1)⟩:V1)else some (⟨a,b⟩:V1)
def i0Y (F:Nat):Sm en.D:=⟨192,[.d (.int .i64),.d (.int .i64)],.d (.st 8),[],fun a=>c0Y F a.1 a.2⟩
def z0s (F:Nat):=R0 [] 192 ⟨[],[],[(1,3,5,⟨[(7,.any),(10,.d .bool)],[]⟩)],[]⟩ F
def c0B (F:Nat)(b:List Int)(e:(List V1)×Int):Option (T0 ((List V1)×Int) (List V1)):=match e with
 | (c,a)=>if decide ((W (a+1))<(b.length:Int))then if y0 b a then if y0 b (W (a+1))then .bind (c0Y F (gt b a) (gt b (W (a+1)))) fun d=>if C1 16 c [d]then some (.next (c++[d],W (a+2)))else none else none else none else some (.done c)
def d0Y (F:Nat)(a:List Int)(b:Int):Option (List V1):=if((a.length:Int).tmod 2)==0 then some []else if y0 a 0 then .bind (c0Y F (gt a 0) b) fun c=>.bind (α:=List V1) (iter (c0B F a) F ([c],1)) fun d=>some d else none
def h0e (F:Nat):Sm en.D:=⟨171,[.d (.list (.int .i64)),.d (.int .i64)],.own 118 (.st 8),[],fun a=>d0Y F a.1 a.2⟩
def r0L (F:Nat):=R0 [i0Y F] 171 ⟨[],[(5,⟨[(5,.own 118 (.st 8)),(6,.d (.int .i64))],[(0,.any)]⟩,[(.ex 0,⟨[(5,.own 118 (.st 8)),(6,.any)],[(0,.any)]⟩)])],[],[]⟩ F
def Z0F (F:Nat)(a:C0I):Option ((List V1)×Bool):=if !a.Is then some ([],false)else .bind (d0Y F a.Tags a.To) fun b=>some (b,true)
def Z0P (F:Nat):Sm en.D:=⟨135,[.d (.st 14)],.tup [.own 118 (.st 8),.d .bool],[],fun a=>Z0F F a⟩
def b1F (F:Nat):=R0 [h0e F] 135 U1 F
def Z0D (F:Nat)(a:C0T):Option ((List V1)×Bool):=if !a.Is then some ([],false)else .bind (d0Y F a.Tags a.To) fun b=>some (b,true)
def Z03 (F:Nat):Sm en.D:=⟨136,[.d (.st 13)],.tup [.own 118 (.st 8),.d .bool],[],fun a=>Z0D F a⟩
def a1F (F:Nat):=R0 [h0e F] 136 U1 F
def G0S (F:Nat)(a:F0u):Option G0m:=.bind (α:=Bool×(List V1)) (if a.Table then .bind (Z0F F a.Run) fun(i,h)=>some (h,i)else .bind (Z0D F a.Hunt) fun(f,d)=>some (d,f)) fun(e,g)=>.bind (if a.Closed then some true else .bind (K08 F a) fun b=>some b) fun c=>some (⟨e,c,g⟩:G0m)
def Z0A (F:Nat):Sm en.D:=⟨98,[.d (.st 15)],.d (.st 9),[],fun a=>G0S F a⟩
def b1n (F:Nat):=R0 [Z0x F,Z0P F,Z03 F] 98 ⟨[(5,[(.nrm,⟨[],[(2,.box 53 [.d .bool,.kb false,.own 118 (.st 8)])]⟩)])],[],[(5,3,5,⟨[(24,.any),(27,.d .bool)],[]⟩)],[]⟩ F
def E0N (F:Nat)(a:F0u):Option (F0u×G0m×Int):=if a.Closed then some (a,(⟨false,false,[]⟩:G0m),13)else .bind (G0S F (⟨a.Table,a.Hunt,a.Run,a.Count,true⟩:F0u)) fun b=>some ((⟨a.Table,a.Hunt,a.Run,a.Count,true⟩:F0u),b,0)
def Z0I (F:Nat):Sm en.D:=⟨62,[.d (.st 15)],.tup [.d (.st 15),.d (.st 9),.d (.int .i64)],[],fun a=>E0N F a⟩
def b1I (F:Nat):=R0 [Z0A F] 62 U1 F
def D0t (F:Nat)(d:List Int)(f:Int×F0u):Option (T0 (Int×F0u) F0u):=match f with
 | (b,a)=>if decide (b<(d.length:Int))then .bind (α:=F0u) (.bind (K08 F a) fun e=>if !e then if a.Table then if y0 d b then .bind (J0k F a.Run (gt d b)) fun g=>some (⟨a.Table,a.Hunt,g,a.Count,a.Closed⟩:F0u)else none else if y0 d b then .bind (G0E F a.Hunt (gt d b)) fun h=>some (⟨a.Table,h,a.Run,a.Count,a.Closed⟩:F0u)else none else some a) fun c=>some (.next (W (b+1),(⟨c.Table,c.Hunt,c.Run,W (c.Count+1),c.Closed⟩:F0u)))else some (.done a)
def E0O (F:Nat)(a:F0u)(c:List Int):Option (F0u×G0m×Int):=if a.Closed then some (a,(⟨false,false,[]⟩:G0m),13)else .bind (α:=F0u) (iter (D0t F c) F (0,a)) fun b=>.bind (G0S F b) fun d=>some (b,d,0)
def Z0J (F:Nat):Sm en.D:=⟨63,[.d (.st 15),.d (.list (.int .u8))],.tup [.d (.st 15),.d (.st 9),.d (.int .i64)],[],fun a=>E0O F a.1 a.2⟩
def b13 (F:Nat):=R0 [L0m F,L09 F,Z0A F,Z0x F] 63 ⟨[(10,[(.nrm,⟨[],[(0,.box 78 [.d (.st 15)])]⟩)])],[(4,⟨[(7,.d (.int .i64))],[(0,.box 78 [.d (.st 15)])]⟩,[(.ex 0,⟨[(7,.any)],[(0,.box 78 [.d (.st 15)])]⟩)])],[],[]⟩ F
def X00 (F:Nat)(a:F0u):Option Int:=if a.Table then some a.Run.Work else some a.Hunt.Crowd.Work
def Z0G (F:Nat):Sm en.D:=⟨64,[.d (.st 15)],.d (.int .i64),[],fun a=>X00 F a⟩
def b1L (F:Nat):=R0 [] 64 U1 F
def F0e (F:Nat)(b:List F07)(x:(Int×(F0T×(h0r×(List Int)×Int×Bool))×F0u)):Option (T0 (Int×(F0T×(h0r×(List Int)×Int×Bool))×F0u) ((F0T×(h0r×(List Int)×Int×Bool))⊕(F0T×(h0r×(List Int)×Int×Bool)))):=match x with
 | (a,(g,(f,e,h,i)),o)=>if decide (a<(b.length:Int))then .bind (α:=(Int×Int×(F0T×(h0r×(List Int)×Int×Bool))×F0u×G0m×G0m)) (if y0 b a then if(gt b a).Shut then .bind (O02 F (g,(f,e,h,i))) fun(((z,ah,D),N),(ai,(ao,am,Y,u)))=>.bind (E0N F o) fun(H,L,t)=>some (N,t,(ai,(ao,am,Y,u)),H,(⟨z,ah,D⟩:G0m),L)else if y0 b a then .bind (C0g F (g,(f,e,h,i)) ((gt b a).B)) fun(((P,R,y),an),(A,(aj,ak,ab,J)))=>if y0 b a then .bind (E0O F o ((gt b a).B)) fun(C,af,aa)=>some (an,aa,(A,(aj,ak,ab,J)),C,(⟨P,R,y⟩:G0m),af)else none else none else none) fun(w,X,(d,(m,j,n,p)),c,Q,G)=>.bind (F06 F Q G) fun E=>.bind (if !E then some true else some (w != X)) fun S=>.bind (if S then some true else some (!(d.closed==c.Closed))) fun Z=>.bind (if Z then some true else some (d.count != c.Count)) fun O=>.bind (α:=(Bool×(F0T×(h0r×(List Int)×Int×Bool)))) (if O then some (true,(d,(m,j,n,p)))else .bind (L0W F (d,(m,j,n,p))) fun(v,(M,(ac,ae,I,al)))=>.bind (X00 F c) fun T=>some (v != T,(M,(ac,ae,I,al)))) fun(ag,(l,(s,q,r,k)))=>if ag then some (.done (.inl (l,(s,q,r,k))))else some (.next (W (a+1),(l,(s,q,r,k)),c))else some (.done (.inr (g,(f,e,h,i))))
def Y0V (F:Nat):(F0T×(h0r×(List Int)×Int×Bool))->F0u->(List F07)->Option (Bool×(F0T×(h0r×(List Int)×Int×Bool)))
 | (j,(o,c,n,is)),f,m=>.bind (α:=((F0T×(h0r×(List Int)×Int×Bool))⊕(F0T×(h0r×(List Int)×Int×Bool)))) (iter (F0e F m) F (0,(j,(o,c,n,is)),f)) fun b=>match b with
 | .inl (a,(l,e,d,q))=>some (false,(a,(l,e,d,q)))
 | .inr (k,(g,h,i,p))=>some (true,(k,(g,h,i,p)))
def Z0N (F:Nat):Sm en.D:=⟨29,[.box 88 [.d (.st 7),.ifc 120 (.agg [.box 109 [.box 158 [.d (.st 19)],.d (.list (.int .i64)),.d (.int .i64),.d .bool]])],.d (.st 15),.d (.list (.st 6))],.d .bool,[(0,.box 88 [.d (.st 7),.ifc 120 (.agg [.box 109 [.box 158 [.d (.st 19)],.d (.list (.int .i64)),.d (.int .i64),.d .bool]])])],fun a=>Y0V F a.1 a.2.1 a.2.2⟩
def a18 (F:Nat):X1 en:=⟨[J0A F,X01 F,U0d F,X0V F,Z0I F,Z0J F,Z0G F],fun a=>if Nat.beq a 29 then⟨[(11,[(.nrm,⟨[(10,.d (.int .i64)),(11,.d (.int .i64))],[(2,.box 88 [.d (.st 7),.ifc 120 (.agg [.box 109 [.box 158 [.d (.st 19)],.d (.list (.int .i64)),.d (.int .i64),.d .bool]])]),(3,.box 78 [.d (.st 15)]),(4,.any),(5,.any),(8,.box 53 [.d (.st 9)]),(9,.box 53 [.d (.st 9)])]⟩)])],[(2,⟨[(7,.d (.int .i64))],[(0,.any),(1,.any),(2,.box 88 [.d (.st 7),.ifc 120 (.agg [.box 109 [.box 158 [.d (.st 19)],.d (.list (.int .i64)),.d (.int .i64),.d .bool]])]),(3,.box 78 [.d (.st 15)])]⟩,[(.ret,⟨[(6,.kb false),(7,.any)],[(0,.any),(1,.any),(2,.box 88 [.d (.st 7),.ifc 120 (.agg [.box 109 [.box 158 [.d (.st 19)],.d (.list (.int .i64)),.d (.int .i64),.d .bool]])]),(3,.any)]⟩),(.ex 0,⟨[(7,.any)],[(0,.any),(1,.any),(2,.box 88 [.d (.st 7),.ifc 120 (.agg [.box 109 [.box 158 [.d (.st 19)],.d (.list (.int .i64)),.d (.int .i64),.d .bool]])]),(3,.any)]⟩)])],[(11,5,8,⟨[(59,.any),(63,.d .bool)],[]⟩),(11,10,17,⟨[(64,.any),(72,.d .bool)],[]⟩),(11,19,26,⟨[(73,.any),(81,.d .bool)],[]⟩),(11,28,33,⟨[(82,.any),(88,.d .bool)],[(2,.box 88 [.d (.st 7),.ifc 120 (.agg [.box 109 [.box 158 [.d (.st 19)],.d (.list (.int .i64)),.d (.int .i64),.d .bool]])]),(10,.any),(11,.any)]⟩)],[]⟩else if Nat.beq a 33 then U1 else if Nat.beq a 55 then U1 else U1,F,[]⟩
def F02 (F:Nat)(b:List U0):Option F0u:=.bind (I0O F b) fun a=>some (⟨false,a,(⟨(⟨0,0,[],[]⟩:b0D),0,0,[],[],0,false,0⟩:C0I),0,false⟩:F0u)
def Z0T (F:Nat):Sm en.D:=⟨30,[.d (.list (.st 0))],.d (.st 15),[],fun a=>F02 F a⟩
def b1G (F:Nat):=R0 [L0A F] 30 U1 F
def D0s (F:Nat)(b:b0D):Option F0u:=.bind (J0f F b) fun a=>some (⟨true,(⟨(⟨[],[],[],[],[],0,0,[],[],(⟨[],[]⟩:P1)⟩:B07),[],0,false⟩:C0T),a,0,false⟩:F0u)
def Z09 (F:Nat):Sm en.D:=⟨32,[.d (.st 4)],.d (.st 15),[],fun a=>D0s F a⟩
def c1c (F:Nat):=R0 [K0a F] 32 U1 F
def Z07 (F:Nat):(F0T×(C0v×b0D×Int×Int×Int×(List Int)))->Option (Int×(F0T×(C0v×b0D×Int×Int×Int×(List Int))))
 | (h,(a,f,c,b,d,e))=>.bind (O0Q F (⟨a,f,c,b,d,e⟩:D0d)) fun g=>some (g,(h,(a,f,c,b,d,e)))
def Z00 (F:Nat):Sm en.D:=⟨34,[.box 88 [.d (.st 7),.ifc 132 (.agg [.box 167 [.d (.st 22),.d (.st 4),.d (.int .i64),.d (.int .i64),.d (.int .i64),.own 3 (.int .i64)]])]],.d (.int .i64),[(0,.box 88 [.d (.st 7),.ifc 132 (.agg [.box 167 [.d (.st 22),.d (.st 4),.d (.int .i64),.d (.int .i64),.d (.int .i64),.own 3 (.int .i64)]])])],fun a=>Z07 F a⟩
def b1K (F:Nat):=R0 [K0g F] 34 U1 F
def F0n (F:Nat)(b:List F07)(G:(Int×(F0T×(C0v×b0D×Int×Int×Int×(List Int)))×F0u)):Option (T0 (Int×(F0T×(C0v×b0D×Int×Int×Int×(List Int)))×F0u) ((F0T×(C0v×b0D×Int×Int×Int×(List Int)))⊕(F0T×(C0v×b0D×Int×Int×Int×(List Int))))):=match G with
 | (a,(i,(f,j,g,e,h,k)),q)=>if decide (a<(b.length:Int))then .bind (α:=(Int×Int×(F0T×(C0v×b0D×Int×Int×Int×(List Int)))×F0u×G0m×G0m)) (if y0 b a then if(gt b a).Shut then .bind (Y0P F (i,(f,j,g,e,h,k))) fun(((J,ap,N),Y),(au,(a2,an,av,al,I,P)))=>.bind (E0N F q) fun(R,T,A)=>some (Y,A,(au,(a2,an,av,al,I,P)),R,(⟨J,ap,N⟩:G0m),T)else if y0 b a then .bind (X08 F (i,(f,j,g,e,h,k)) ((gt b a).B)) fun(((aa,ae,H),a1),(L,(az,z,S,aw,ay,ao)))=>if y0 b a then .bind (E0O F q ((gt b a).B)) fun(M,aq,aj)=>some (a1,aj,(L,(az,z,S,aw,ay,ao)),M,(⟨aa,ae,H⟩:G0m),aq)else none else none else none) fun(D,ag,(d,(t,v,l,w,o,y)),c,ab,Q)=>.bind (F06 F ab Q) fun O=>.bind (if !O then some true else some (D != ag)) fun ac=>.bind (if ac then some true else some (!(d.closed==c.Closed))) fun ah=>.bind (if ah then some true else some (d.count != c.Count)) fun Z=>.bind (α:=(Bool×(F0T×(C0v×b0D×Int×Int×Int×(List Int))))) (if Z then some (true,(d,(t,v,l,w,o,y)))else .bind (Z07 F (d,(t,v,l,w,o,y))) fun(E,(X,(af,C,a0,ak,am,ai)))=>.bind (X00 F c) fun ax=>some (E != ax,(X,(af,C,a0,ak,am,ai)))) fun(ar,(n,(s,r,x,p,m,u)))=>if ar then some (.done (.inl (n,(s,r,x,p,m,u))))else some (.next (W (a+1),(n,(s,r,x,p,m,u)),c))else some (.done (.inr (i,(f,j,g,e,h,k))))
def K0u (F:Nat):(F0T×(C0v×b0D×Int×Int×Int×(List Int)))->F0u->(List F07)->Option (Bool×(F0T×(C0v×b0D×Int×Int×Int×(List Int))))
 | (m,(a,r,t,q,b,v)),k,p=>.bind (α:=((F0T×(C0v×b0D×Int×Int×Int×(List Int)))⊕(F0T×(C0v×b0D×Int×Int×Int×(List Int))))) (iter (F0n F p) F (0,(m,(a,r,t,q,b,v)),k)) fun j=>match j with
 | .inl (i,(f,w,u,c,d,h))=>some (false,(i,(f,w,u,c,d,h)))
 | .inr (n,(l,p9,e,g,o,s))=>some (true,(n,(l,p9,e,g,o,s)))
def Z08 (F:Nat):Sm en.D:=⟨29,[.box 88 [.d (.st 7),.ifc 132 (.agg [.box 167 [.d (.st 22),.d (.st 4),.d (.int .i64),.d (.int .i64),.d (.int .i64),.own 3 (.int .i64)]])],.d (.st 15),.d (.list (.st 6))],.d .bool,[(0,.box 88 [.d (.st 7),.ifc 132 (.agg [.box 167 [.d (.st 22),.d (.st 4),.d (.int .i64),.d (.int .i64),.d (.int .i64),.own 3 (.int .i64)]])])],fun a=>K0u F a.1 a.2.1 a.2.2⟩
def b1Q (F:Nat):X1 en:=⟨[X01 F,Z0I F,Z0J F,Z0G F,Z0Q F,a1a F,Z00 F],fun a=>if Nat.beq a 29 then⟨[(11,[(.nrm,⟨[(10,.d (.int .i64)),(11,.d (.int .i64))],[(2,.box 88 [.d (.st 7),.ifc 132 (.agg [.box 167 [.d (.st 22),.d (.st 4),.d (.int .i64),.d (.int .i64),.d (.int .i64),.own 3 (.int .i64)]])]),(3,.box 78 [.d (.st 15)]),(4,.any),(5,.any),(8,.box 53 [.d (.st 9)]),(9,.box 53 [.d (.st 9)])]⟩)])],[(2,⟨[(7,.d (.int .i64))],[(0,.any),(1,.any),(2,.box 88 [.d (.st 7),.ifc 132 (.agg [.box 167 [.d (.st 22),.d (.st 4),.d (.int .i64),.d (.int .i64),.d (.int .i64),.own 3 (.int .i64)]])]),(3,.box 78 [.d (.st 15)])]⟩,[(.ret,⟨[(6,.kb false),(7,.any)],[(0,.any),(1,.any),(2,.box 88 [.d (.st 7),.ifc 132 (.agg [.box 167 [.d (.st 22),.d (.st 4),.d (.int .i64),.d (.int .i64),.d (.int .i64),.own 3 (.int .i64)]])]),(3,.any)]⟩),(.ex 0,⟨[(7,.any)],[(0,.any),(1,.any),(2,.box 88 [.d (.st 7),.ifc 132 (.agg [.box 167 [.d (.st 22),.d (.st 4),.d (.int .i64),.d (.int .i64),.d (.int .i64),.own 3 (.int .i64)]])]),(3,.any)]⟩)])],[(11,5,8,⟨[(59,.any),(63,.d .bool)],[]⟩),(11,10,17,⟨[(64,.any),(72,.d .bool)],[]⟩),(11,19,26,⟨[(73,.any),(81,.d .bool)],[]⟩),(11,28,33,⟨[(82,.any),(88,.d .bool)],[(2,.box 88 [.d (.st 7),.ifc 132 (.agg [.box 167 [.d (.st 22),.d (.st 4),.d (.int .i64),.d (.int .i64),.d (.int .i64),.own 3 (.int .i64)]])]),(10,.any),(11,.any)]⟩)],[]⟩else if Nat.beq a 33 then U1 else if Nat.beq a 55 then U1 else U1,F,[]⟩
def Z01 (F:Nat)(b:List U0)(a:b0D)(f:List F07):Option Bool:=.bind (if decide ((b.length:Int)>40)then some true else .bind (F0y F a) fun L=>some (!L)) fun a9=>.bind (if a9 then some true else .bind (Z0p F f) fun R=>some (!R)) fun bz=>if bz then .bind (G0c F) fun cg=>some cg else .bind (C0R F b) fun(bx,e)=>match bx with
  | .inl _=>.bind (I0l F a) fun(T,d)=>match T with
   | .inl _=>.bind (C0n F b) fun ch=>if ch then .bind (if e != 0 then some true else some true) fun a0=>.bind (if a0 then some true else .bind (F02 F b) fun dc=>none) fun ak=>if ak then some false else .bind (I0Y F a) fun cj=>if cj then .bind (if d==0 then some false else some false) fun u=>.bind (if u then .bind (D0s F a) fun c2=>none else some false) fun bq=>.bind (if bq then .bind (G0c F) fun ar=>some ar else some false) fun ba=>some ba else .bind (if d==11 then some true else some false) fun ca=>.bind (if ca then .bind (G0c F) fun bp=>some bp else some false) fun co=>some co else .bind (if e != 11 then some true else some false) fun M=>if M then some false else .bind (I0Y F a) fun bd=>if bd then .bind (if d==0 then some false else some false) fun ag=>.bind (if ag then .bind (D0s F a) fun di=>none else some false) fun B=>.bind (if B then .bind (G0c F) fun cc=>some cc else some false) fun ce=>some ce else .bind (if d==11 then some true else some false) fun aw=>.bind (if aw then .bind (G0c F) fun Z=>some Z else some false) fun bi=>some bi
   | .inr (a3,(E,am,a4,bl,bn,be))=>.bind (C0n F b) fun b3=>if b3 then .bind (if e != 0 then some true else some true) fun ax=>.bind (if ax then some true else .bind (F02 F b) fun dd=>none) fun ai=>if ai then some false else .bind (I0Y F a) fun bf=>if bf then .bind (if d==0 then some true else some false) fun ae=>.bind (if ae then .bind (D0s F a) fun cy=>none else some false) fun al=>.bind (if al then .bind (G0c F) fun ap=>some ap else some false) fun ck=>some ck else .bind (if d==11 then some false else some false) fun A=>.bind (if A then .bind (G0c F) fun D=>some D else some false) fun bc=>some bc else .bind (if e != 11 then some true else some false) fun a1=>if a1 then some false else .bind (I0Y F a) fun bg=>if bg then .bind (if d==0 then some true else some false) fun J=>.bind (if J then .bind (D0s F a) fun bt=>.bind (K0u F (a3,(E,am,a4,bl,bn,be)) bt f) fun(ci,(c0,(dr,cx,dm,dt,c3,db)))=>some ci else some false) fun bh=>.bind (if bh then .bind (G0c F) fun b4=>some b4 else some false) fun Y=>some Y else .bind (if d==11 then some false else some false) fun s=>.bind (if s then .bind (G0c F) fun P=>some P else some false) fun t=>some t
  | .inr (j,(m,o,q,is))=>.bind (I0l F a) fun(aj,c)=>match aj with
   | .inl _=>.bind (C0n F b) fun bm=>if bm then .bind (if e != 0 then some true else some false) fun z=>.bind (if z then some true else .bind (F02 F b) fun cf=>.bind (Y0V F (j,(m,o,q,is)) cf f) fun(r,(dp,(dw,cu,c4,cq)))=>some (!r)) fun br=>if br then some false else .bind (I0Y F a) fun a2=>if a2 then .bind (if c==0 then some false else some false) fun an=>.bind (if an then .bind (D0s F a) fun cs=>none else some false) fun v=>.bind (if v then .bind (G0c F) fun bo=>some bo else some false) fun N=>some N else .bind (if c==11 then some true else some false) fun bk=>.bind (if bk then .bind (G0c F) fun ay=>some ay else some false) fun bu=>some bu else .bind (if e != 11 then some true else some true) fun b1=>if b1 then some false else .bind (I0Y F a) fun cm=>if cm then .bind (if c==0 then some false else some false) fun b2=>.bind (if b2 then .bind (D0s F a) fun ds=>none else some false) fun cb=>.bind (if cb then .bind (G0c F) fun G=>some G else some false) fun bb=>some bb else .bind (if c==11 then some true else some false) fun y=>.bind (if y then .bind (G0c F) fun cd=>some cd else some false) fun cl=>some cl
   | .inr (k,(g,p,h,n,i,l))=>.bind (C0n F b) fun S=>if S then .bind (if e != 0 then some true else some false) fun w=>.bind (if w then some true else .bind (F02 F b) fun aq=>.bind (Y0V F (j,(m,o,q,is)) aq f) fun(Q,(ct,(dh,de,dj,c8)))=>some (!Q)) fun aa=>if aa then some false else .bind (I0Y F a) fun az=>if az then .bind (if c==0 then some true else some false) fun ac=>.bind (if ac then .bind (D0s F a) fun cp=>.bind (K0u F (k,(g,p,h,n,i,l)) cp f) fun(a5,(cr,(c1,dq,df,dn,dg,dl)))=>some a5 else some false) fun bw=>.bind (if bw then .bind (G0c F) fun X=>some X else some false) fun I=>some I else .bind (if c==11 then some false else some false) fun bs=>.bind (if bs then .bind (G0c F) fun af=>some af else some false) fun b0=>some b0 else .bind (if e != 11 then some true else some true) fun x=>if x then some false else .bind (I0Y F a) fun ab=>if ab then .bind (if c==0 then some true else some false) fun O=>.bind (if O then .bind (D0s F a) fun ao=>.bind (K0u F (k,(g,p,h,n,i,l)) ao f) fun(cn,(cv,(du,cw,c6,c5,da,cz)))=>some cn else some false) fun H=>.bind (if H then .bind (G0c F) fun au=>some au else some false) fun bj=>some bj else .bind (if c==11 then some false else some false) fun ah=>.bind (if ah then .bind (G0c F) fun C=>some C else some false) fun av=>some av
def a1e (F:Nat):Sm en.D:=⟨7,[.d (.list (.st 0)),.d (.st 4),.d (.list (.st 6))],.d .bool,[],fun a=>Z01 F a.1 a.2.1 a.2.2⟩
def b1o (F:Nat):=R0 [G08 F,Z0X F,D0J F,R0c F,K0d F,R0n F,Z0N F,Z0T F,M0g F,Z09 F,Z08 F] 7 ⟨[],[],[(1,4,7,⟨[(14,.any),(18,.d .bool)],[]⟩),(1,9,12,⟨[(19,.any),(23,.d .bool)],[]⟩),(6,3,5,⟨[(39,.any),(42,.d .bool)],[]⟩),(6,7,13,⟨[(43,.any),(50,.d .bool)],[(1,.any),(2,.any),(3,.any)]⟩),(8,3,5,⟨[(53,.any),(56,.d .bool)],[]⟩),(11,3,5,⟨[(61,.any),(64,.d .bool)],[]⟩),(11,7,12,⟨[(65,.any),(71,.d .bool)],[(1,.any),(2,.any),(3,.any),(4,.any),(5,.any),(6,.any)]⟩),(11,14,15,⟨[(72,.any),(74,.d .bool)],[]⟩),(12,3,5,⟨[(77,.any),(80,.d .bool)],[]⟩),(12,7,8,⟨[(81,.any),(83,.d .bool)],[]⟩)],[]⟩ F
