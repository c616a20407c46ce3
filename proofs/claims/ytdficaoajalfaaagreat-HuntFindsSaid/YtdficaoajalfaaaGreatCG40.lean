/- P. Its conditions: none. -/
import Derived.Test.YtdficaoajalfaaaGreatCG39
open List (any_cons length_cons mem_singleton mem_append mem_filter)
open Nat (sub_zero lt_or_ge zero_le)
open Bool (false_eq_true)
set_option linter.all false
namespace Go.Proofs.YtdficaoajalfaaaGreat.Old
open Go.V Go.RowKit
def J0a (fuel:Nat)(out:List y0)(to:Int)(g:out.length<fuel)(hl:out.length<=1000000000):e0b fuel out to=some (out.any fun x=>x.To==to):=by
 have key:∀(k i:Nat),i+k=out.length->∀m,k<m->∃t,iter (l0R fuel out to) m (i:Int)=some t/\(match t with|.inl _=>(out.drop i).any (fun x=>x.To==to)=false|.inr r=>r=true/\(out.drop i).any (fun x=>x.To==to)=true):=by
  intro k
  induction k with
  |zero=>
   intro i hi m hm;obtain⟨m,rfl⟩:∃q,m=q+1:=⟨m-1,O'⟩
   refine⟨.inl (),?_,?_⟩
   ·unfold iter l0R;have:¬((i:Int)<(out.length:Int)):=O'
    simp[this]
   ·rw[List.drop_of_length_le O'];rfl
  |succ k ih=>
   intro i hi m hm;obtain⟨m,rfl⟩:∃q,m=q+1:=⟨m-1,O'⟩
   have e:i<out.length:=O'
   have f:B0 out (i:Int)=true:=R0 O' O';have d:(i:Int)<(out.length:Int):=O'
   have b:l0R fuel out to (i:Int)=if((gt out (i:Int)).To==to)=true then some (.done (.inr true))else some (.next ((i+1:Nat):Int)):=by
    unfold l0R;simp only[d,decide_true,if_true,f,G3 (show i<9223372036854775807 from O')]
   unfold iter;rw[b,drop_cons e]
   by_cases c:((gt out (i:Int)).To==to)=true
   ·rw[if_pos c];exact⟨_,rfl,rfl,by simp only[any_cons,c,Bool.true_or]⟩
   ·rw[if_neg c];obtain⟨t,h1,a⟩:=ih (i+1) O' m O';refine⟨t,h1,?_⟩;have c':((gt out (i:Int)).To==to)=false:=by simpa using c
    cases t with
    |inl _=>simp only[any_cons,c',Bool.false_or];exact a
    |inr r=>simp only[any_cons,c',Bool.false_or];exact a
 obtain⟨t,h1,a⟩:=key out.length 0 O' fuel O';unfold e0b;rw[show(0:Int)=((0:Nat):Int)from rfl,h1];rw[List.drop_zero]at a;cases t with
 |inl _=>simp only[G0];rw[a]
 |inr r=>simp only[G0];rw[a.2,a.1]
def I0c {fuel:Nat}{l:List C0}{x6:y0}{x1 x2 x3:List Int}{x4:List Bool}{x7:Int}{x8:List Int}{x9:List y0}{x12:Int}{x14:List y0}{d:Int}(hd:B0 x2 (gt x1 x7)=true)(u:gt x2 (gt x1 x7)=d)(hops:List y0)(J:hops.length<=1000000):
  ∀(k i:Nat) (o a:List y0),a.length=hops.length->a.drop i=hops.drop i->i+k=hops.length->o.length+k<=1000000->1000001<fuel->∀m,k<m->
   iter (o0m fuel l x6 x1 x2 x3 x4 x7 x8 x9 x12 x14) m (o,a,(i:Int))=some (a6 d o (hops.drop i)):=by
 intro k
 induction k with
 |zero=>
  intro i o a hl e hi I z m hm;obtain⟨m,rfl⟩:∃q,m=q+1:=⟨m-1,O'⟩
  rw[List.drop_of_length_le O'];unfold iter o0m;have:¬((i:Int)<(a.length:Int)):=O'
  simp[this,a6]
 |succ k ih=>
  intro i o a hl e hi I z m hm;obtain⟨m,rfl⟩:∃q,m=q+1:=⟨m-1,O'⟩
  have c:i<hops.length:=O'
  have s:B0 a (i:Int)=true:=R0 O' O';have w:(i:Int)<(a.length:Int):=O'
  have t:∀x:y0,I0 40 o [x]=true:=fun x=>Y4 Z';have n:gt a (i:Int)=gt hops (i:Int):=by
   have g:=drop_cons (l:=a) (i:=i) O';have j:=drop_cons (l:=hops) (i:=i) c;rw[e,j]at g;exact(List.cons.inj g).1.symm
  have h:a.drop (i+1)=hops.drop (i+1):=by
   have g:=drop_cons (l:=a) (i:=i) O';have j:=drop_cons (l:=hops) (i:=i) c;rw[e,j]at g;exact(List.cons.inj g).2.symm
  have f:∀y:y0,B0 (a.set i y) (i:Int)=true:=fun y=>R0 O' Z';have p:∀y:y0,gt (a.set i y) (i:Int)=y:=fun y=>b0d O';have r:∀y:y0,(a.set i y).drop (i+1)=hops.drop (i+1):=fun y=>by rw[List.drop_set_of_lt O',h]
  have he:o0m fuel l x6 x1 x2 x3 x4 x7 x8 x9 x12 x14 (o,a,(i:Int))=if o.any (fun x=>x.To==(gt hops (i:Int)).To)then some (.next (o,a,((i+1:Nat):Int)))else some (.next (o++[⟨(gt hops (i:Int)).To,d,(gt hops (i:Int)).Steps⟩],a.set i ⟨(gt hops (i:Int)).To,d,(gt hops (i:Int)).Steps⟩,((i+1:Nat):Int))):=by
   unfold o0m;simp only[q0,w,s,n,J0a fuel o (gt hops (i:Int)).To O' O',hd,u,Int.toNat_natCast,f,p,t,G3 (show i<9223372036854775807 from O')];cases o.any (fun x=>x.To==(gt hops (i:Int)).To)<;>simp
  have v:∃b,b.length=hops.length/\b.drop (i+1)=hops.drop (i+1)/\o0m fuel l x6 x1 x2 x3 x4 x7 x8 x9 x12 x14 (o,a,(i:Int))=some (.next ((if o.any (fun x=>x.To==(gt hops (i:Int)).To)then o else o++[⟨(gt hops (i:Int)).To,d,(gt hops (i:Int)).Steps⟩]),b,((i+1:Nat):Int))):=by
   rw[he];cases o.any (fun x=>x.To==(gt hops (i:Int)).To)with
   |true=>exact⟨a,hl,h,rfl⟩
   |false=>exact⟨a.set i ⟨(gt hops (i:Int)).To,d,(gt hops (i:Int)).Steps⟩,by simpa using hl,r _,rfl⟩
  obtain⟨b,p1,R,C⟩:=v;unfold iter;rw[C,drop_cons c];simp only[a6];refine ih (i+1) _ b p1 R O' ?_ z m O';split
  ·omega
  ·simp only[List.length_append,length_cons,List.length_nil];omega
def M0a {l:List C0}{t:Tm}(I:O2 l t)(hR:K1 l=true){u d:List Int}(hu:UpT u t)(hd:b00 d t){fuel:Nat}(hf:1000001<fuel)(x5:List Int)(p1:Int)(x6:y0):
  ∀(fs:List Fr) (lo:Nat) (s:Tm) (st:List Int) (out:List y0),Ctx t lo s fs->st.length+1000*fs.length<=500000->out.length+1000*fs.length<=500000->∀m,fs.length<m->
   ∃r,iter (m0O fuel l u d (C7 l l.length) (V8 l) x5 p1) m (x6,(s.top lo:Int),st,out)=some r/\
    (match r with|.inl (_,y2,y3)=>(y3,y2,true)|.inr (U,_,_)=>(U,[],false))=n4 lo (L0 l lo) s st out fs/\(∀U z2 z3,r=.inr (U,z2,z3)->z2=⟨0,0,[]⟩/\z3=false):=by
 have h6:=I.le;have c8:=I.len;have b1:=g0B hR;intro fs
 induction fs with
 |nil=>
  intro lo s st out C h1 h2 m hm;obtain⟨m,rfl⟩:∃q,m=q+1:=⟨m-1,O'⟩
  refine⟨.inl (x6,st,out),?_,rfl,fun _ _ _ h=>by cases h⟩;have v:=C.part I hu hd;have e4:B0 u (s.top lo:Int)=true:=R0 O' (by rw[hu.len];have:=v.at_.j5;omega);have b3:=C.root hu;have e:m0O fuel l u d (C7 l l.length) (V8 l) x5 p1 (x6,(s.top lo:Int),st,out)=some (.done (.inl (x6,st,out))):=by
   unfold m0O;simp[e4,b3]
  unfold iter;rw[e]
 |cons f fs ih=>
  intro lo s st out C h1 h2 m hm;obtain⟨m,rfl⟩:∃q,m=q+1:=⟨m-1,O'⟩
  have v:=C.part I hu hd;have g:=C.2.part I hu hd;have i:=C.r0u I hu hd;have a1:=C.2;have R:=z01 I hu hd C;have e5:=C.size;simp only[length_cons]at h1 h2 hm e5;have c5:B0 u (s.top lo:Int)=true:=R0 O' (by rw[hu.len];have:=v.at_.j5;omega);have h5:=g.at_.j5;have hg:=g.at_.D2;have b4:=g.deep.top;generalize j:lo-f.off=lo' at *;generalize y:(f.E2 s).top lo'=r at *;have h3:B0 l (r:Int)=true:=R0 O' O';have b5:B0 d (r:Int)=true:=R0 O' (by rw[hd.len];omega);have e9:(r:Int)>=0:=O'
  have c3:W (W (2*(r:Int))+1)=cls r:=by rw[o7 O',W9 O']
  have o:∀z:List Int,z.length<=st.length+900->K9 fuel z [W (W (2*(r:Int))+1)]=some (z++[cls r]):=fun z hs=>by
   rw[c3,e03 (fuel:=fuel) (a:=z) (b:=[cls r]) Z']
  have plain:n4 lo (L0 l lo) s st out (f :: fs)=n4 lo' (L0 l lo') (f.E2 s) (st++[cls r]) out fs->m0O fuel l u d (C7 l l.length) (V8 l) x5 p1 (x6,(s.top lo:Int),st,out)=some (.next (x6,(r:Int),st++[cls r],out))->
    ∃r',iter (m0O fuel l u d (C7 l l.length) (V8 l) x5 p1) (m+1) (x6,(s.top lo:Int),st,out)=some r'/\(match r' with|.inl (_,y2,y3)=>(y3,y2,true)|.inr (U,_,_)=>(U,[],false))=n4 lo (L0 l lo) s st out (f :: fs)/\(∀U z2 z3,r'=.inr (U,z2,z3)->z2=⟨0,0,[]⟩/\z3=false):=fun e1 e2=>by
   unfold iter;rw[e1,e2];have:=ih lo' (f.E2 s) (st++[cls r]) out a1 Z' O' m O';rw[y]at this;exact this
  have c:m0O fuel l u d (C7 l l.length) (V8 l) x5 p1 (x6,(s.top lo:Int),st,out)=m0O fuel l u d (C7 l l.length) (V8 l) x5 p1 (x6,(s.top lo:Int),st,out):=rfl
  conv at c=>rhs;unfold m0O
  simp only[c5,i,e9,decide_true,if_true,h3,hg]at c;cases f with
  |catL b=>
   simp only[Fr.E2,Fr.off,sub_zero]at j y hg g c;subst j;obtain⟨x,p,_⟩:=(At.bin rfl rfl).1 g.at_;have c4:=b.a0V (lo+s.size) (L0 l lo+s.leaves) st;have e3:=b.a0D;have h7:=b.X8 (lo+s.size);have c6:b.size<=400:=by have:=p.len;omega
   have k:=B00 I hR (show 401<fuel from O') b (lo+s.size) p fuel st O' O';rw[b9 x]at k;have w:∀x14,iter (o0m fuel l x6 u d (C7 l l.length) (V8 l) (s.top lo:Int) st out (b.top (lo+s.size):Int) x14) fuel (out,b.Q0 (lo+s.size) (L0 l lo+s.leaves) st,0)=some (a6 ((fs.length+1:Nat):Int) out (b.Q0 (lo+s.size) (L0 l lo+s.leaves) st)):=fun x14=>by
    have:=I0c (fuel:=fuel) (l:=l) (x6:=x6) (x1:=u) (x2:=d) (x3:=C7 l l.length) (x4:=V8 l) (x7:=(s.top lo:Int)) (x8:=st) (x9:=out) (x12:=(b.top (lo+s.size):Int)) (x14:=x14) (d:=((fs.length+1:Nat):Int)) (by rw[i];exact b5) (by rw[i];exact b4) (b.Q0 (lo+s.size) (L0 l lo+s.leaves) st) O' (b.Q0 (lo+s.size) (L0 l lo+s.leaves) st).length 0 out (b.Q0 (lo+s.size) (L0 l lo+s.leaves) st) rfl rfl O' O' hf fuel O';simpa using this
   have c0:B0 (V8 l) (b.top (lo+s.size):Int)=true:=R0 O' (by rw[b1.len];have:=p.j5;omega);have b2:(b.top (lo+s.size):Int)>=0:=O'
   simp only[q0,Tm.node,beq_self_eq_true,show((3:Int)==5)=false from rfl,b2,k,w,c0,b1.top b _ p]at c;have h0:=f0h ((fs.length+1:Nat):Int) (b.Q0 (lo+s.size) (L0 l lo+s.leaves) st) out;simp only[n4];cases J:b.can with
   |false=>
    simp only[q0,J]at c;refine⟨_,by unfold iter;rw[c],?_,fun U z2 z3 h=>by cases h;exact⟨rfl,rfl⟩⟩;simp
   |true=>
    simp only[q0,J,r0B b1 O' fuel b _ p fuel O',e03 (fuel:=fuel) (a:=st) (b:=b.steps (lo+s.size)) O']at c;rw[o _ Z']at c;unfold iter;rw[c];have:=ih lo (.cat s b) (st++b.steps (lo+s.size)++[cls r]) (a6 ((fs.length+1:Nat):Int) out (b.Q0 (lo+s.size) (L0 l lo+s.leaves) st)) a1 Z' O' m O';rw[y]at this;rw[if_pos rfl,y];exact this
  |star=>
   simp only[Fr.E2,Fr.off,sub_zero]at j y hg g c;subst j;obtain⟨x,_⟩:=(At.un rfl rfl).1 g.at_;have c4:=s.a0V lo (L0 l lo) st;have e3:=s.a0D;have c6:s.size<=400:=by have:=x.len;omega
   have k:=B00 I hR (show 401<fuel from O') s lo x fuel st O' O';have w:∀x14,iter (o0m fuel l x6 u d (C7 l l.length) (V8 l) (s.top lo:Int) st out (s.top lo:Int) x14) fuel (out,s.Q0 lo (L0 l lo) st,0)=some (a6 ((fs.length+1:Nat):Int) out (s.Q0 lo (L0 l lo) st)):=fun x14=>by
    have:=I0c (fuel:=fuel) (l:=l) (x6:=x6) (x1:=u) (x2:=d) (x3:=C7 l l.length) (x4:=V8 l) (x7:=(s.top lo:Int)) (x8:=st) (x9:=out) (x12:=(s.top lo:Int)) (x14:=x14) (d:=((fs.length+1:Nat):Int)) (by rw[i];exact b5) (by rw[i];exact b4) (s.Q0 lo (L0 l lo) st) O' (s.Q0 lo (L0 l lo) st).length 0 out (s.Q0 lo (L0 l lo) st) rfl rfl O' O' hf fuel O';simpa using this
   have b2:(s.top lo:Int)>=0:=O'
   simp only[q0,Tm.node,show((5:Int)==3)=false from rfl,beq_self_eq_true,b2,k,w]at c;rw[o _ O']at c;have h0:=f0h ((fs.length+1:Nat):Int) (s.Q0 lo (L0 l lo) st) out;simp only[n4];unfold iter;rw[c];have:=ih lo (.star s) (st++[cls r]) (a6 ((fs.length+1:Nat):Int) out (s.Q0 lo (L0 l lo) st)) a1 Z' O' m O';rw[y]at this;rw[y];exact this
  |catR a=>
   simp only[Fr.E2,Fr.off]at j y hg g c;have h8:=s.size_pos;have h4:((a.top lo':Int)==(s.top lo:Int))=false:=by
    have:=C.1;have:=a.size_pos;simp only[Fr.off]at *;have:a.top lo'≠s.top lo:=by unfold Tm.top;omega
    simp;omega
   refine plain (by simp only[n4,Fr.off,Fr.v7,j,R,Fr.E2,y]) ?_;rw[c];simp only[q0,Tm.node,h4,beq_self_eq_true,show((3:Int)==5)=false from rfl];simp[o st O']
  |altR a=>
   simp only[Fr.E2,Fr.off]at j y hg g c;refine plain (by simp only[n4,Fr.off,Fr.v7,j,R,Fr.E2,y]) ?_;rw[c];simp only[Tm.node,G0];simp[o st O']
  |altL b|maybe|group n|iter=>
   simp only[Fr.E2,Fr.off,sub_zero]at j y hg g c;subst j;refine plain (by subst y;rfl) ?_;rw[c];simp only[Tm.node,G0];simp[o st O']
def Ctx.down {t:Tm}:∀{s:Tm} {lo:Nat} {fs:List Fr},Ctx t lo s fs->∀i,lo<=i->i<lo+s.size->∃lo' f e,Ctx t lo' f e/\f.top lo'=i:=by
 intro s
 induction s with
 |eps=>intro lo fs h i h1 d;exact⟨lo,.eps,fs,h,by simp only[Tm.top,Tm.size]at *;omega⟩
 |leaf s=>intro lo fs h i h1 d;exact⟨lo,.leaf s,fs,h,by simp only[Tm.top,Tm.size]at *;omega⟩
 |cat a b iha ihb=>
  intro lo fs h i h1 d;simp only[Tm.size]at d;rcases lt_or_ge i (lo+a.size)with c|c
  ·exact iha (fs:=.catL b :: fs) ⟨zero_le _,h⟩ i h1 c
  ·rcases lt_or_ge i (lo+a.size+b.size)with c2|c2
   ·exact ihb (lo:=lo+a.size) (fs:=.catR a :: fs) ⟨by simp[Fr.off],by simpa[Fr.off,Fr.E2]using h⟩ i c c2
   ·exact⟨lo,_,fs,h,J'⟩
 |alt a b iha ihb=>
  intro lo fs h i h1 d;simp only[Tm.size]at d;rcases lt_or_ge i (lo+a.size)with c|c
  ·exact iha (fs:=.altL b :: fs) ⟨zero_le _,h⟩ i h1 c
  ·rcases lt_or_ge i (lo+a.size+b.size)with c2|c2
   ·exact ihb (lo:=lo+a.size) (fs:=.altR a :: fs) ⟨by simp[Fr.off],by simpa[Fr.off,Fr.E2]using h⟩ i c c2
   ·exact⟨lo,_,fs,h,J'⟩
 |star a iha=>
  intro lo fs h i h1 d;simp only[Tm.size]at d;rcases lt_or_ge i (lo+a.size)with c|c
  ·exact iha (fs:=.star :: fs) ⟨zero_le _,h⟩ i h1 c
  ·exact⟨lo,_,fs,h,J'⟩
 |maybe a iha=>
  intro lo fs h i h1 d;simp only[Tm.size]at d;rcases lt_or_ge i (lo+a.size)with c|c
  ·exact iha (fs:=.maybe :: fs) ⟨zero_le _,h⟩ i h1 c
  ·exact⟨lo,_,fs,h,J'⟩
 |group n a iha=>
  intro lo fs h i h1 d;simp only[Tm.size]at d;rcases lt_or_ge i (lo+a.size)with c|c
  ·exact iha (fs:=.group n :: fs) ⟨zero_le _,h⟩ i h1 c
  ·exact⟨lo,_,fs,h,J'⟩
 |iter a iha=>
  intro lo fs h i h1 d;simp only[Tm.size]at d;rcases lt_or_ge i (lo+a.size)with c|c
  ·exact iha (fs:=.iter :: fs) ⟨zero_le _,h⟩ i h1 c
  ·exact⟨lo,_,fs,h,J'⟩
def Ctx.at_ {l:List C0}{t:Tm}(c:O2 l t):∀{fs:List Fr} {lo:Nat} {s:Tm},Ctx t lo s fs->At l lo s
 |[],lo,s,⟨h1,d⟩=>by subst h1;subst d;exact c.at0
 |f :: fs,lo,s,⟨ho,h⟩=>by
  have h1:=Ctx.at_ c h;cases f<;>simp only[Fr.E2,Fr.off,sub_zero]at h1 ho
  case catL b=>exact((At.bin rfl rfl).1 h1).1
  case altL b=>exact((At.bin rfl rfl).1 h1).1
  case catR a=>
   have:=((At.bin rfl rfl).1 h1).2.1
   rwa [show lo-a.size+a.size=lo from O']at this
  case altR a=>
   have:=((At.bin rfl rfl).1 h1).2.1
   rwa [show lo-a.size+a.size=lo from O']at this
  all_goals exact((At.un rfl rfl).1 h1).1
structure b0Y (l:List C0)(t:Tm)(p q:Nat)(S:List Int)(fs:List Fr):Prop where
 ctx:Ctx t q (.leaf S) fs
 num:L0 l q=p
 get:(L2 l l.length)[p]?=some (q:Int)
def A0j {l:List C0}{t:Tm}(d:O2 l t){p:Nat}(hp:p<L0 l l.length):∃q S fs,b0Y l t p q S fs:=by
 obtain⟨q,h1,f,e,g⟩:=c0J l l.length p hp;obtain⟨lo,s,fs,c,a⟩:=Ctx.down (t:=t) (s:=t) (lo:=0) (fs:=[]) ⟨rfl,rfl⟩ q (zero_le _) (by rw[d.len]at h1;omega);have b:=c.at_ d;have hg:=b.D2;rw[a]at hg;cases s with
 |leaf S=>
  simp only[Tm.top,Tm.size,Nat.add_sub_cancel]at a;subst a;exact⟨lo,S,fs,c,g,f⟩
 |_=>rw[hg]at e;simp[Tm.node]at e
def x0r {l:List C0}{t:Tm}(a:O2 l t):L0 l l.length=t.leaves:=by
 have:=b9 a.at0;rw[Nat.zero_add,<-a.len]at this;simpa[L0]using this
def s0h (n:Nat)(h:y0):Prop:=0<=h.To/\h.To<n/\h.Steps.length<=2000000
def Tm.i04 (s:Tm):∀(lo p:Nat) (ahead:List Int),s.size<=400->ahead.length+1000*s.size<=2000000->∀h∈s.Q0 lo p ahead,(p:Int)<=h.To/\h.To<((p+s.leaves:Nat):Int)/\h.Steps.length<=2000000:=by
 induction s with
 |eps=>intro lo p ahead _ _ h c;simp[Tm.Q0]at c
 |leaf s=>intro lo p ahead _ e h c;simp only[Tm.Q0,mem_singleton]at c;subst c;simp only[Tm.leaves,Tm.size]at *;refine⟨Z9,Z',Z'⟩
 |cat a b d ihb=>
  intro lo p ahead f e h c;have g:=a.X8 lo;simp only[Tm.Q0,Tm.size,Tm.leaves,mem_append]at *;rcases c with c|c
  ·have:=d lo p _ O' Z' h c;refine⟨O',O',this.2.2⟩
  ·split at c
   ·have:=ihb (lo+a.size) (p+a.leaves) _ O' Z' h c;refine⟨O',O',this.2.2⟩
   ·simp at c
 |alt a b d ihb=>
  intro lo p ahead f e h c;simp only[Tm.Q0,Tm.size,Tm.leaves,mem_append]at *;rcases c with c|c
  ·have:=d lo p _ O' Z' h c;refine⟨O',O',this.2.2⟩
  ·have:=ihb (lo+a.size) (p+a.leaves) _ O' Z' h c;refine⟨O',O',this.2.2⟩
 |star a d|maybe a d|group _ a d|iter a d=>
  intro lo p ahead f e h c;simp only[Tm.Q0,Tm.size,Tm.leaves]at *;exact d lo p _ O' Z' h c
structure j8 (n:Nat)(out:List y0):Prop where
 ok:∀h∈out,s0h n h
 dist:out.Pairwise fun a b=>a.To≠b.To
def p0a {n:Nat}(d:Int):∀(r out:List y0),j8 n out->(∀h∈r,s0h n h)->j8 n (a6 d out r)
 |[],out,h,_=>h
 |x :: r,out,h,hr=>by
  simp only[a6];refine p0a d r _ ?_ (fun y c=>hr y (by simp[c]));split
  ·exact h
  ·rename_i i;have g:=hr x Z9;refine⟨fun y c=>?_,?_⟩
   ·rcases mem_append.1 c with c|c
    ·exact h.ok y c
    ·simp only[mem_singleton]at c;subst c;exact g
   ·refine List.pairwise_append.2 ⟨h.dist,Z9,fun a ha b f=>?_⟩;simp only[mem_singleton]at f;subst f;intro e;exact i (List.any_eq_true.2 ⟨a,ha,by simpa using e⟩)
def c0z {l:List C0}{t:Tm}(i:O2 l t):∀(fs:List Fr) (lo:Nat) (s:Tm) (st:List Int) (out:List y0),Ctx t lo s fs->j8 t.leaves out->st.length+1000*fs.length<=500000->
  j8 t.leaves (n4 lo (L0 l lo) s st out fs).1/\(n4 lo (L0 l lo) s st out fs).2.1.length<=500000
 |[],lo,s,st,out,g,hw,hl=>⟨hw,by simp only[n4];simpa using hl⟩
 |f :: fs,lo,s,st,out,g,hw,hl=>by
  have c:=g.2.at_ i;have hlen:=c.len;have o:=i.le;have q:=i.len;have d:=h0p l hlen;rw[b9 c,x0r i]at d;have e:L0 l (lo-f.off)=L0 l lo-f.v7:=by
   cases f<;>simp only[Fr.E2,Fr.off,Fr.v7,sub_zero]at c ⊢
   case catR a=>
    have m:=g.1;simp only[Fr.off]at m;have:=b9 ((At.bin rfl rfl).1 c).1;rw[show lo-a.size+a.size=lo from O']at this;omega
   case altR a=>
    have m:=g.1;simp only[Fr.off]at m;have:=b9 ((At.bin rfl rfl).1 c).1;rw[show lo-a.size+a.size=lo from O']at this;omega
  simp only[length_cons]at hl;cases f with
  |catL b=>
   simp only[Fr.E2,Fr.off,sub_zero,Tm.leaves,Tm.size]at c d hlen;have p:=b.X8 (lo+s.size);have j:=p0a (n:=t.leaves) ((fs.length+1:Nat):Int) (b.Q0 (lo+s.size) (L0 l lo+s.leaves) st) out hw (fun h k=>by
    have:=b.i04 (lo+s.size) (L0 l lo+s.leaves) st O' O' h k;exact⟨O',O',this.2.2⟩)
   simp only[n4];split
   ·exact c0z i fs lo (.cat s b) _ _ g.2 j Z'
   ·exact⟨j,Z9⟩
  |star=>
   simp only[Fr.E2,Fr.off,sub_zero,Tm.leaves,Tm.size]at c d hlen;have j:=p0a (n:=t.leaves) ((fs.length+1:Nat):Int) (s.Q0 lo (L0 l lo) st) out hw (fun h k=>by
    have:=s.i04 lo (L0 l lo) st O' O' h k;exact⟨O',O',this.2.2⟩)
   simp only[n4];exact c0z i fs lo (.star s) _ _ g.2 j Z'
  |catR a=>
   have:=c0z i fs (lo-(Fr.catR a).off) ((Fr.catR a).E2 s) (st++[cls (((Fr.catR a).E2 s).top (lo-(Fr.catR a).off))]) out g.2 hw Z';rw[e]at this;exact this
  |altR a=>
   have:=c0z i fs (lo-(Fr.altR a).off) ((Fr.altR a).E2 s) (st++[cls (((Fr.altR a).E2 s).top (lo-(Fr.altR a).off))]) out g.2 hw Z';rw[e]at this;exact this
  |altL b=>
   have:=c0z i fs (lo-(Fr.altL b).off) ((Fr.altL b).E2 s) (st++[cls (((Fr.altL b).E2 s).top (lo-(Fr.altL b).off))]) out g.2 hw Z';rw[e]at this;exact this
  |maybe=>
   have:=c0z i fs (lo-Fr.maybe.off) (Fr.maybe.E2 s) (st++[cls ((Fr.maybe.E2 s).top (lo-Fr.maybe.off))]) out g.2 hw Z';rw[e]at this;exact this
  |group n=>
   have:=c0z i fs (lo-(Fr.group n).off) ((Fr.group n).E2 s) (st++[cls (((Fr.group n).E2 s).top (lo-(Fr.group n).off))]) out g.2 hw Z';rw[e]at this;exact this
  |iter=>
   have:=c0z i fs (lo-Fr.iter.off) (Fr.iter.E2 s) (st++[cls ((Fr.iter.E2 s).top (lo-Fr.iter.off))]) out g.2 hw Z';rw[e]at this;exact this
def j8.b0j {n:Nat}{out:List y0}(h:j8 n out)(hn:n<=1000)(hl:out.length<=1000000):b0j y0.To out=true:=by
 simp only[Go.V.b0j,Bool.and_eq_true,List.all_eq_true,decide_eq_true_eq];refine⟨⟨O',fun x a=>?_⟩,(l0u _ _).2 h.dist⟩;have:=h.ok x a;exact⟨this.1,by have:=this.2.1;omega⟩
def v0j {α:Type}(z:α)(ys:List α):G4 (List.replicate ys.length z) ys=ys:=by
 simp[G4]
def r0A {fuel:Nat}(out:List y0)(hl:out.length<=1000000)(e:out.length<fuel)(d:∀h∈out,h.Steps.length<=2000000):a0H fuel out=some out:=by
 have key:=R4 (step:=f0o fuel out) (fun i=>(out,(i:Int))) out out.length (fun i hi=>.inl (by
  have c:B0 out (i:Int)=true:=R0 O' O';have a:(i:Int)<(out.length:Int):=O'
  have hg:gt out (i:Int)=out[i]:=B4 (by simp[hi]);have h1:=d out[i] (List.getElem_mem _);have b:V2 8 (out[i].Steps.length:Int)=true:=by simp[V2];omega
  unfold f0o;simp only[a,decide_true,if_true,c,hg,b,Int.toNat_natCast,v0j,G3 (show i<9223372036854775807 from O')];rw[show(⟨out[i].To,out[i].Turn,out[i].Steps⟩:y0)=out[i]from rfl];simp)) (by unfold f0o;simp) out.length 0 fuel O' O'
 unfold a0H;rw[show(0:Int)=((0:Nat):Int)from rfl,key];rfl
def bucket (out:List y0):Nat->List y0
 |0=>[]
 |n+1=>bucket out n++out.filter fun h=>h.To==(n:Int)
def H0D (out:List y0):∀n,(bucket out n).Perm (out.filter fun h=>decide (0<=h.To)&&decide (h.To<n))
 |0=>by
  have:(out.filter fun h=>decide (0<=h.To)&&decide (h.To<((0:Nat):Int)))=[]:=by
   rw[List.filter_eq_nil_iff];intro x _;simp
  rw[this];exact List.Perm.refl _
 |n+1=>by
  have b:=H0D out n;simp only[bucket];refine(b.append_right _).trans ?_;have e:out.Perm (out.filter (fun h=>decide (0<=h.To)&&decide (h.To<(n:Int)))++out.filter (fun h=>!(decide (0<=h.To)&&decide (h.To<(n:Int))))):=(List.filter_append_perm _ _).symm;have d:=e.filter fun h=>decide (0<=h.To)&&decide (h.To<((n+1:Nat):Int));refine List.Perm.trans ?_ d.symm;rw[List.filter_append,List.filter_filter,List.filter_filter];have c:(out.filter fun a=>(decide (0<=a.To)&&decide (a.To<((n+1:Nat):Int)))&&(decide (0<=a.To)&&decide (a.To<(n:Int))))=out.filter fun h=>decide (0<=h.To)&&decide (h.To<(n:Int)):=by
   apply List.filter_congr;intro x _;rw[Bool.eq_iff_iff];simp;omega
  have a2:(out.filter fun a=>(decide (0<=a.To)&&decide (a.To<((n+1:Nat):Int)))&&!(decide (0<=a.To)&&decide (a.To<(n:Int))))=out.filter fun h=>h.To==(n:Int):=by
   apply List.filter_congr;intro x _;rw[Bool.eq_iff_iff];simp;omega
  rw[c,a2]
def H02 (out:List y0):∀n,(bucket out n).Pairwise (fun a b=>a.To<=b.To)/\∀h∈bucket out n,h.To<n
 |0=>⟨List.Pairwise.nil,by simp[bucket]⟩
 |n+1=>by
  obtain⟨h1,e⟩:=H02 out n;simp only[bucket];refine⟨List.pairwise_append.2 ⟨h1,?_,fun a ha b d=>?_⟩,fun x c=>?_⟩
  ·refine List.Pairwise.imp_of_mem ?_ (List.pairwise_of_forall (R:=fun _ _=>True) (fun _ _=>trivial));intro a b ha d _;simp only[mem_filter,beq_iff_eq]at ha d;rw[ha.2,d.2];exact Int.le_refl _
  ·have:=e a ha;simp only[mem_filter,beq_iff_eq]at d;omega
  ·rcases mem_append.1 c with c|c
   ·have:=e x c;omega
   ·simp only[mem_filter,beq_iff_eq]at c;omega
def K00 {n:Nat}{out:List y0}(h:j8 n out):bucket out n=r7 y0.To out:=by
 refine E0Z y0.To ?_ (H02 out n).1 ((l0u _ _).2 h.dist);have:=H0D out n
 rwa [List.filter_eq_self.2 (fun x a=>by have:=h.ok x a;simp[this.1,this.2.1])]at this
def J0v (out:List y0):∀n,(bucket out n).length<=out.length:=fun n=>by
 rw[(H0D out n).length_eq];exact List.length_filter_le _ _
def J7 (t:Tm)(p q:Nat)(S:List Int)(fs:List Fr):List y0×List Int×Bool:=n4 q p (.leaf S) [cls q] [] fs
def q0W {l:List C0}(hw:∀x∈l,o3 x){t:Tm}(b:O2 l t)(hR:K1 l=true){fuel:Nat}(a:401<fuel):∃c,a0Z fuel l=some (some c,true)/\h0m c l t:=by
 obtain⟨u,e,hu⟩:=l0S b hR a;obtain⟨d,f,hd⟩:=i0j b hR a;refine⟨⟨l,u,d,C7 l l.length,V8 l⟩,?_,⟨rfl,hu,hd,rfl,rfl⟩⟩;unfold a0Z;rw[c0Q l a,e,f,z0W hw a,s0c hw a];simp[hR,e0h]
def r08 {l:List C0}(hw:∀x∈l,o3 x){t:Tm}(f:O2 l t)(hR:K1 l=true){fuel:Nat}(d:401<fuel){p q:Nat}{S:List Int}{fs:List Fr}(hp:b0Y l t p q S fs)(i:p<L0 l l.length):
  ∃c,a0S fuel l (p:Int)=some (some c,(q:Int),true)/\h0m c l t:=by
 obtain⟨c,e,h⟩:=q0W hw f hR d;refine⟨c,?_,h⟩;have a:a0X l=L2 l l.length:=by simp[a0X,hR]
 have g:¬((p:Int)<0):=O'
 have h1:¬((p:Int)>=((L2 l l.length).length:Int)):=by rw[I9];omega
 have b:B0 (L2 l l.length) (p:Int)=true:=R0 O' (by rw[I9];omega);unfold a0S;rw[e,o0g hw d,a];simp[g,h1,b,B4 hp.get];omega
def s0y {l:List C0}(hw:∀x∈l,o3 x){t:Tm}(b:O2 l t)(hR:K1 l=true){c:U4}(h:h0m c l t){fuel:Nat}(m:1000001<fuel){p q:Nat}{S:List Int}{fs:List Fr}(hp:b0Y l t p q S fs):
  a00 fuel c (q:Int)=some ((J7 t p q S fs).1,if(J7 t p q S fs).2.2 then(J7 t p q S fs).2.1 else[]):=by
 have g:=b.le;have i:=b.len;have a:=hp.ctx.size;have d:=hp.ctx.at_ b;have o:q<l.length:=by have:=d.len;simp only[Tm.size]at this;omega
 have e:B0 c.up (q:Int)=true:=R0 O' (by rw[h.up.len];omega);obtain⟨r,h1,f,k⟩:=E0h hw b hR h m (q:Int) fs q (.leaf S) [cls q] [] hp.ctx (by simp;simp only[Tm.size]at a;omega) (by simp;simp only[Tm.size]at a;omega) fuel (by simp only[Tm.size]at a;omega);unfold a00;rw[hp.num]at f;simp only[Tm.top,Tm.size,Nat.add_sub_cancel]at h1;simp only[e,if_true,o7 (show q<=1000000000 from O'),W9 (show q<=1000000000 from O'),h1,G0];unfold J7;rw[<-f];cases r with
 |inl y=>obtain⟨n,s⟩:=y;rfl
 |inr z=>obtain⟨j,z2⟩:=z;rw[k j z2 rfl];rfl
def I0x {l:List C0}(hw:∀x∈l,o3 x){t:Tm}(b:O2 l t)(hR:K1 l=true){fuel:Nat}(v:1000001<fuel){p q:Nat}{S:List Int}{fs:List Fr}(hp:b0Y l t p q S fs)(n:p<L0 l l.length):
  e0d fuel l (p:Int)=some ((J7 t p q S fs).1,if(J7 t p q S fs).2.2 then(⟨-1,0,(J7 t p q S fs).2.1⟩,true)else(⟨0,0,[]⟩,false)):=by
 have i:=b.le;have o:=b.len;have a:=hp.ctx.size;have c:=hp.ctx.at_ b;have C:q<l.length:=by have:=c.len;simp only[Tm.size]at this;omega
 obtain⟨u,m,hu⟩:=H00 b hR (show 401<fuel from O');obtain⟨d,j,hd⟩:=I0s b hR (show 401<fuel from O');have e:a0X l=L2 l l.length:=by simp[a0X,hR]
 have g:e0h l=C7 l l.length:=by simp[e0h,hR]
 have f:B0 (L2 l l.length) (p:Int)=true:=R0 O' (by rw[I9];omega);obtain⟨r,h1,h,s⟩:=M0a b hR hu hd v (L2 l l.length) (p:Int) ⟨0,0,[]⟩ fs q (.leaf S) [cls q] [] hp.ctx (by simp;simp only[Tm.size]at a;omega) (by simp;simp only[Tm.size]at a;omega) fuel (by simp only[Tm.size]at a;omega);unfold e0d;rw[hp.num]at h;simp only[Tm.top,Tm.size,Nat.add_sub_cancel]at h1;rw[m,j,C00 hw O' O' O',q0H hw O' O' O',x0V hw O' O' O',e,g];simp only[G0,f,if_true,B4 hp.get,o7 (show q<=1000000000 from O'),W9 (show q<=1000000000 from O'),h1];unfold J7;rw[<-h];cases r with
 |inl y=>obtain⟨J,I,w⟩:=y;rfl
 |inr z=>obtain⟨k,z2,z3⟩:=z;obtain⟨rfl,rfl⟩:=s k z2 z3 rfl;rfl
def r0o {l:List C0}{t:Tm}(c:O2 l t){p q:Nat}{S:List Int}{fs:List Fr}(hp:b0Y l t p q S fs):j8 t.leaves (J7 t p q S fs).1/\(J7 t p q S fs).2.1.length<=500000:=by
 have a:=hp.ctx.size;have b:=c.le;have:=c0z c fs q (.leaf S) [cls q] [] hp.ctx ⟨Z9,List.Pairwise.nil⟩ (by simp;simp only[Tm.size]at a;omega);rw[hp.num]at this;exact this
def c0S {l:List C0}{t:Tm}(c:O2 l t):∀(fs:List Fr) (lo p:Nat) (s:Tm) (st:List Int) (out:List y0),Ctx t lo s fs->out.length+1000*fs.length<=500000->(n4 lo p s st out fs).1.length<=500000
 |[],lo,p,s,st,out,d,hl=>by simp only[n4];simpa using hl
 |f :: fs,lo,p,s,st,out,d,hl=>by
  have e:=d.2.at_ c;have hlen:=e.len;have g:=c.le;have i:=c.len;simp only[length_cons]at hl;cases f with
  |catL b=>
   simp only[Fr.E2,Fr.off,sub_zero,Tm.size]at hlen;have h1:=f0h ((fs.length+1:Nat):Int) (b.Q0 (lo+s.size) (p+s.leaves) st) out;have h:=b.a0V (lo+s.size) (p+s.leaves) st;have j:=b.a0D;simp only[n4];split
   ·exact c0S c fs lo p (.cat s b) _ _ d.2 O'
   ·dsimp only;omega
  |star=>
   simp only[Fr.E2,Fr.off,sub_zero,Tm.size]at hlen;have h1:=f0h ((fs.length+1:Nat):Int) (s.Q0 lo p st) out;have h:=s.a0V lo p st;have j:=s.a0D;simp only[n4];exact c0S c fs lo p (.star s) _ _ d.2 O'
  |catR a=>exact c0S c fs (lo-(Fr.catR a).off) (p-(Fr.catR a).v7) ((Fr.catR a).E2 s) _ out d.2 O'
  |altR a=>exact c0S c fs (lo-(Fr.altR a).off) (p-(Fr.altR a).v7) ((Fr.altR a).E2 s) _ out d.2 O'
  |altL b=>exact c0S c fs (lo-(Fr.altL b).off) (p-(Fr.altL b).v7) ((Fr.altL b).E2 s) _ out d.2 O'
  |maybe=>exact c0S c fs (lo-Fr.maybe.off) (p-Fr.maybe.v7) (Fr.maybe.E2 s) _ out d.2 O'
  |group n=>exact c0S c fs (lo-(Fr.group n).off) (p-(Fr.group n).v7) ((Fr.group n).E2 s) _ out d.2 O'
  |iter=>exact c0S c fs (lo-Fr.iter.off) (p-Fr.iter.v7) (Fr.iter.E2 s) _ out d.2 O'
def q0A {l:List C0}{t:Tm}(c:O2 l t){p q:Nat}{S:List Int}{fs:List Fr}(hp:b0Y l t p q S fs):(J7 t p q S fs).1.length<=500000:=by
 have a:=hp.ctx.size;have b:=c.le;exact c0S c fs q p (.leaf S) [cls q] [] hp.ctx (by simp;simp only[Tm.size]at a;omega)
def u0M {l:List C0}(hw:∀x∈l,o3 x){t:Tm}(d:O2 l t)(hR:K1 l=true){fuel:Nat}(j:1000001<fuel){p q:Nat}{S:List Int}{fs:List Fr}(hp:b0Y l t p q S fs)(f:p<L0 l l.length):
  a06 fuel l (p:Int)=some (r7 y0.To (J7 t p q S fs).1):=by
 obtain⟨c,e,i⟩:=r08 hw d hR (show 401<fuel from O') hp f;obtain⟨a,_⟩:=r0o d hp;have hl:=q0A d hp;have k:=d.lv;unfold a06;rw[e];simp only[G0,s0y hw d hR i j hp,a.b0j O' O',if_true];have b:=b0y y0.To (J7 t p q S fs).1;rw[r0A _ (by rw[e0j];omega) (by rw[e0j];omega) (fun h g=>(a.ok h (b.mem_iff.1 g)).2.2)];simp
def L0j {l:List C0}(hw:∀x∈l,o3 x){t:Tm}(b:O2 l t)(hR:K1 l=true){fuel:Nat}(C:1000001<fuel){p q:Nat}{S:List Int}{fs:List Fr}(hp:b0Y l t p q S fs)(m:p<L0 l l.length):
  c0h fuel l (p:Int)=some (r7 y0.To (J7 t p q S fs).1):=by
 obtain⟨e,_⟩:=r0o b hp;have hl:=q0A b hp;have I:=b.lv;have v:=b.le;have z:=b.len;have f:=x0r b;have k:a0X l=L2 l l.length:=by simp[a0X,hR]
 have a:=x0V hw (show l.length*64<=140737488351232 from O') (show 401<fuel from O') O';rw[k]at a;have y:¬((p:Int)<0):=O'
 have h1:¬((p:Int)>=((L2 l l.length).length:Int)):=by rw[I9];omega
 unfold c0h;simp only[q0,y,a,h1,I0x hw b hR C hp m];generalize w:(J7 t p q S fs).1=out at *;generalize j:(out,(if(J7 t p q S fs).2.2=true then((⟨-1,0,(J7 t p q S fs).2.1⟩:y0),true)else(⟨0,0,[]⟩,false)))=x3;have g:x3.1=out:=by rw[<-j]
 have inner:∀(r:Nat) (x4 acc:List y0),acc.length+out.length<=1000000->iter (h0E fuel l x3 x4 (r:Int)) fuel (acc,0)=some (acc++out.filter fun h=>h.To==(r:Int)):=by
  intro r x4 acc u;have:=R4 (step:=h0E fuel l x3 x4 (r:Int)) (fun i=>(acc++(out.take i).filter (fun h=>h.To==(r:Int)),(i:Int))) (acc++out.filter fun h=>h.To==(r:Int)) out.length (fun i hi=>.inl (by
   have n:B0 out (i:Int)=true:=R0 O' O';have d:(i:Int)<(out.length:Int):=O'
   have hg:gt out (i:Int)=out[i]:=B4 (by simp[hi]);have hle:((out.take i).filter (fun h=>h.To==(r:Int))).length<=i:=Nat.le_trans (List.length_filter_le _ _) Z';have o:I0 40 (acc++(out.take i).filter (fun h=>h.To==(r:Int))) [out[i]]=true:=Y4 Z';have s:out.take (i+1)=out.take i++[out[i]]:=List.take_succ_eq_append_getElem hi;unfold h0E;simp only[g,d,decide_true,if_true,n,hg,o,G3 (show i<9223372036854775807 from O'),s,List.filter_append]
   by_cases c:(out[i].To==(r:Int))=true
   ·simp[c]
   ·simp[c])) (by unfold h0E;simp[g]) out.length 0 fuel O' O'
  simpa using this
 have outer:=R4 (step:=t0l fuel l x3) (fun r=>(bucket out r,(r:Int))) (bucket out t.leaves) t.leaves (fun r J=>.inl (by
  have d:(r:Int)<((L2 l l.length).length:Int):=by rw[I9,f];omega
  unfold t0l;have:=J0v out r;simp only[q0,a,d,inner r (bucket out r) (bucket out r) O',G3 (show r<9223372036854775807 from O')];rfl)) (by unfold t0l;simp[a,I9,f]) t.leaves 0 fuel O' O'
 simp only[bucket]at outer;rw[show(([]:List y0),(0:Int))=([],((0:Nat):Int))from rfl,outer,K00 e];rfl
def o8 (s:List Int):y0×Bool:=if s.length=0 then(⟨0,0,[]⟩,false)else(⟨-1,0,s⟩,true)
def e0o:∀(fs:List Fr) (lo p:Nat) (s:Tm) (st:List Int) (out:List y0),st≠[]->(n4 lo p s st out fs).2.2=true->(n4 lo p s st out fs).2.1≠[]
 |[],lo,p,s,st,out,c,_=>by simpa only[n4]using c
 |f :: fs,lo,p,s,st,out,c,h=>by
  cases f with
  |catL b=>
   simp only[n4]at h ⊢;split at h
   ·rename_i d;rw[if_pos d];exact e0o fs _ _ _ _ _ Z9 h
   ·simp at h
  |star=>simp only[n4]at h ⊢;exact e0o fs _ _ _ _ _ Z9 h
  |catR a=>exact e0o fs (lo-(Fr.catR a).off) (p-(Fr.catR a).v7) ((Fr.catR a).E2 s) _ out Z9 h
  |altR a=>exact e0o fs (lo-(Fr.altR a).off) (p-(Fr.altR a).v7) ((Fr.altR a).E2 s) _ out Z9 h
  |altL b=>exact e0o fs (lo-(Fr.altL b).off) (p-(Fr.altL b).v7) ((Fr.altL b).E2 s) _ out Z9 h
  |maybe=>exact e0o fs (lo-Fr.maybe.off) (p-Fr.maybe.v7) (Fr.maybe.E2 s) _ out Z9 h
  |group n=>exact e0o fs (lo-(Fr.group n).off) (p-(Fr.group n).v7) ((Fr.group n).E2 s) _ out Z9 h
  |iter=>exact e0o fs (lo-Fr.iter.off) (p-Fr.iter.v7) (Fr.iter.E2 s) _ out Z9 h
def q0j {l:List C0}(hw:∀x∈l,o3 x){t:Tm}(b:O2 l t)(hR:K1 l=true){fuel:Nat}(g:1000001<fuel){p q:Nat}{S:List Int}{fs:List Fr}(hp:b0Y l t p q S fs)(a:p<L0 l l.length):
  J9 fuel l (p:Int)=some (o8 (if(J7 t p q S fs).2.2 then(J7 t p q S fs).2.1 else[])):=by
 obtain⟨c,e,f⟩:=r08 hw b hR (show 401<fuel from O') hp a;have h1:((p:Int)==-1)=false:=Z9
 unfold J9 o8;simp only[q0,h1,e,s0y hw b hR f g hp];generalize (if(J7 t p q S fs).2.2=true then(J7 t p q S fs).2.1 else[])=s
 by_cases d:s.length=0<;>simp[d]
def J0w {l:List C0}(hw:∀x∈l,o3 x){t:Tm}(b:O2 l t)(hR:K1 l=true){fuel:Nat}(k:1000001<fuel){p q:Nat}{S:List Int}{fs:List Fr}(hp:b0Y l t p q S fs)(d:p<L0 l l.length):
  m0j fuel l (p:Int)=some (o8 (if(J7 t p q S fs).2.2 then(J7 t p q S fs).2.1 else[])):=by
 have h1:((p:Int)==-1)=false:=Z9
 have f:¬((p:Int) < -1):=O'
 have e:=b.le;have i:=b.len;have c:a0X l=L2 l l.length:=by simp[a0X,hR]
 have j:¬((p:Int)>=((L2 l l.length).length:Int)):=by rw[I9];omega
 unfold m0j o8;simp only[q0,f,e0f l (show l.length*64<=140737488351232 from O') (show l.length+1<fuel from O'),hR,x0V hw (show l.length*64<=140737488351232 from O') (show 401<fuel from O') O',c,j,h1,I0x hw b hR k hp d]
 by_cases a:(J7 t p q S fs).2.2=true
 ·have:=e0o fs q p (.leaf S) [cls q] [] Z9 a;have g:(J7 t p q S fs).2.1.length≠0:=fun h=>this (List.eq_nil_of_length_eq_zero h);simp[a,g]
 ·simp[a]
def q0p {l:List C0}(hw:∀x∈l,o3 x){t:Tm}(a:O2 l t)(hR:K1 l=true){fuel:Nat}(h:1000001<fuel):J9 fuel l (-1)=some (o8 (if t.can then t.steps 0 else[]))/\m0j fuel l (-1)=some (o8 (if t.can then t.steps 0 else[])):=by
 have d:=a.le;have f:=a.len;have hp:=t.size_pos;have e:W ((l.length:Int)-1)=(t.top 0:Int):=by rw[n3 O' O'];unfold Tm.top;omega
 have c:a0X l=L2 l l.length:=by simp[a0X,hR]
 have g:¬((-1:Int)>=((L2 l l.length).length:Int)):=O'
 constructor
 ·unfold J9 o8;simp only[beq_self_eq_true,if_true,e,l0k hw a hR (show 401<fuel from O') a.at0,G0];generalize (if t.can=true then t.steps 0 else[])=s
  by_cases b:s.length=0
  ·simp[b]
  ·simp[b]
 ·unfold m0j o8;simp only[q0,show ¬((-1:Int) < -1)from O',e0f l (show l.length*64<=140737488351232 from O') (show l.length+1<fuel from O'),hR,x0V hw (show l.length*64<=140737488351232 from O') (show 401<fuel from O') O',c,g,beq_self_eq_true,e,A0A hw a hR (show 401<fuel from O') a.at0];generalize (if t.can=true then t.steps 0 else[])=s
  by_cases b:s.length=0
  ·simp[b]
  ·simp[b]
def r00 {l:List C0}(hw:∀x∈l,o3 x){t:Tm}(a:O2 l t)(hR:K1 l=true){fuel:Nat}(q:1000001<fuel){lo:Nat}{s:Tm}(h:At l lo s):b0O fuel l (s.top lo:Int)=some (s.Q0 lo (L0 l lo) [])/\m0N fuel l (s.top lo:Int)=some (s.Q0 lo (L0 l lo) []):=by
 have g:=a.le;have m:=a.len;have d:=h.j5;have o:=h.len;have f:¬((s.top lo:Int)<0):=O'
 have h1:¬((s.top lo:Int)>=(l.length:Int)):=O'
 have i:=s.a0V lo (L0 l lo) [];have k:=s.a0D;constructor
 ·obtain⟨c,e,p⟩:=q0W hw a hR (show 401<fuel from O');unfold b0O;rw[e];simp only[Bool.not_true,false_eq_true,if_false,f,decide_false,h1,G0,n05 hw a hR p (show 401<fuel from O') s lo h fuel [] [] O' Z' Z',List.nil_append];rw[r0A _ O' O' (fun j n=>(s.i04 lo (L0 l lo) [] O' Z' j n).2.2)];rfl
 ·unfold m0N;have b:e0h l=C7 l l.length:=by simp[e0h,hR]
  rw[e0f l (show l.length*64<=140737488351232 from O') (show l.length+1<fuel from O'),hR];simp only[Bool.not_true,false_eq_true,if_false,f,decide_false,h1,G0,C00 hw (show l.length*64<=140737488351232 from O') (show 401<fuel from O') O',q0H hw (show l.length*64<=140737488351232 from O') (show 401<fuel from O') O',b,B00 a hR (show 401<fuel from O') s lo h fuel [] O' Z']
