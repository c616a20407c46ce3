/- P. Its conditions: none. -/
import Derived.Test.YtihmgaccbcfgjaaGreatQG39
open List (any_cons length_cons mem_append mem_singleton pairwise_append)
open Nat (sub_zero lt_or_ge zero_le)
open Bool (false_eq_true)
set_option linter.all false
namespace Go.Proofs.YtihmgaccbcfgjaaGreat.Old
open Go.V Go.RowKit
def P0M (fuel:Nat)(out:List B0)(to:Int)(g:out.length<fuel)(hl:out.length<=1000000000):e0K fuel out to=some (out.any fun x=>x.To==to):=by
 have key:∀(k i:Nat),i+k=out.length->∀m,k<m->∃t,iter (n0S fuel out to) m (i:Int)=some t/\t=if(out.drop i).any (fun x=>x.To==to)then .inl ()else .inr ():=by
  intro k
  induction k with
  |zero=>
   intro i hi m hm;obtain⟨m,rfl⟩:∃q,m=q+1:=⟨m-1,O'⟩
   refine⟨.inr (),?_,?_⟩
   ·unfold iter n0S;have:¬((i:Int)<(out.length:Int)):=O'
    simp[this]
   ·rw[List.drop_of_length_le O'];rfl
  |succ k ih=>
   intro i hi m hm;obtain⟨m,rfl⟩:∃q,m=q+1:=⟨m-1,O'⟩
   have d:i<out.length:=O'
   have f:y0 out (i:Int)=true:=V0 O' O';have b:(i:Int)<(out.length:Int):=O'
   have e:n0S fuel out to (i:Int)=if((gt out (i:Int)).To==to)=true then some (.done (.inl ()))else some (.next ((i+1:Nat):Int)):=by
    unfold n0S;simp only[b,decide_true,if_true,f,X1 (show i<9223372036854775807 from O')]
   unfold iter;rw[e,drop_cons d]
   by_cases c:((gt out (i:Int)).To==to)=true
   ·rw[if_pos c];exact⟨_,rfl,by simp only[any_cons,c,Bool.true_or,if_true]⟩
   ·rw[if_neg c];obtain⟨t,h1,a⟩:=ih (i+1) O' m O';refine⟨t,h1,?_⟩;have c':((gt out (i:Int)).To==to)=false:=by simpa using c
    rw[a,any_cons,c',Bool.false_or]
 obtain⟨t,h1,a⟩:=key out.length 0 O' fuel O';unfold e0K;rw[show(0:Int)=((0:Nat):Int)from rfl,h1];rw[List.drop_zero]at a;rw[a];simp only[G0];cases out.any (fun x=>x.To==to)<;>rfl
def M0x {fuel:Nat}{x1 x2:List Int}{x7:Int}{d:Int}(st:List Int)(hd:y0 x2 (gt x1 x7)=true)(v:gt x2 (gt x1 x7)=d)(hops:List B0)(J:hops.length<=1000000):
  ∀(k i:Nat) (o hs:List B0),hs.length=hops.length->hs.drop i=hops.drop i->i+k=hops.length->o.length+k<=1000000->1000001<fuel->∀m,k<m->
   iter (o0K fuel x1 x2 x7) m (st,o,(i:Int),hs)=some (st,Q7 d o (hops.drop i)):=by
 intro k
 induction k with
 |zero=>
  intro i o hs hl c hi I w m hm;obtain⟨m,rfl⟩:∃q,m=q+1:=⟨m-1,O'⟩
  rw[List.drop_of_length_le O'];unfold iter o0K;have:¬((i:Int)<(hs.length:Int)):=O'
  simp[this,Q7]
 |succ k ih=>
  intro i o hs hl c hi I w m hm;obtain⟨m,rfl⟩:∃q,m=q+1:=⟨m-1,O'⟩
  have b:i<hops.length:=O'
  have u:y0 hs (i:Int)=true:=V0 O' O';have h:(i:Int)<(hs.length:Int):=O'
  have j:∀x:B0,K0 40 o [x]=true:=fun x=>B4 Y';have t:gt hs (i:Int)=gt hops (i:Int):=by
   have g:=drop_cons (l:=hs) (i:=i) O';have r:=drop_cons (l:=hops) (i:=i) b;rw[c,r]at g;exact(List.cons.inj g).1.symm
  have e:hs.drop (i+1)=hops.drop (i+1):=by
   have g:=drop_cons (l:=hs) (i:=i) O';have r:=drop_cons (l:=hops) (i:=i) b;rw[c,r]at g;exact(List.cons.inj g).2.symm
  have f:∀y:B0,y0 (hs.set i y) (i:Int)=true:=fun y=>V0 O' Y';have n:∀y:B0,gt (hs.set i y) (i:Int)=y:=fun y=>d0x O';have p:∀y:B0,(hs.set i y).drop (i+1)=hops.drop (i+1):=fun y=>by rw[List.drop_set_of_lt O',e]
  have he:o0K fuel x1 x2 x7 (st,o,(i:Int),hs)=if o.any (fun x=>x.To==(gt hops (i:Int)).To)then some (.next (st,o,((i+1:Nat):Int),hs))else some (.next (st,o++[⟨(gt hops (i:Int)).To,d,(gt hops (i:Int)).Steps⟩],((i+1:Nat):Int),hs.set i ⟨(gt hops (i:Int)).To,d,(gt hops (i:Int)).Steps⟩)):=by
   unfold o0K;simp only[q0,h,u,t,P0M fuel o (gt hops (i:Int)).To O' O',hd,v,Int.toNat_natCast,f,n,j,X1 (show i<9223372036854775807 from O')];cases o.any (fun x=>x.To==(gt hops (i:Int)).To)<;>simp
  have s:∃a,a.length=hops.length/\a.drop (i+1)=hops.drop (i+1)/\o0K fuel x1 x2 x7 (st,o,(i:Int),hs)=some (.next (st,(if o.any (fun x=>x.To==(gt hops (i:Int)).To)then o else o++[⟨(gt hops (i:Int)).To,d,(gt hops (i:Int)).Steps⟩]),((i+1:Nat):Int),a)):=by
   rw[he];cases o.any (fun x=>x.To==(gt hops (i:Int)).To)with
   |true=>exact⟨hs,hl,e,rfl⟩
   |false=>exact⟨hs.set i ⟨(gt hops (i:Int)).To,d,(gt hops (i:Int)).Steps⟩,by simpa using hl,p _,rfl⟩
  obtain⟨a,p1,z,C⟩:=s;unfold iter;rw[C,drop_cons b];simp only[Q7];refine ih (i+1) _ a p1 z O' ?_ w m O';split
  ·omega
  ·simp only[List.length_append,length_cons,List.length_nil];omega
def O03 {l:List C0}{t:Tm}(I:I4 l t)(hR:L2 l=true){u d:List Int}(hu:UpT u t)(hd:b02 d t){fuel:Nat}(hf:1000001<fuel):
  ∀(fs:List Fr) (lo:Nat) (s:Tm) (st:List Int) (out:List B0),Ctx t lo s fs->st.length+1000*fs.length<=500000->out.length+1000*fs.length<=500000->∀m,fs.length<m->
   ∃r,iter (o0o fuel l u d) m (B7 l l.length,M8 l,(s.top lo:Int),st,out)=some r/\
    (match r with|.inr (y2,y3)=>(y3,y2,true)|.inl (R,_)=>(R,[],false))=V4 lo (N0 l lo) s st out fs/\(∀R z2,r=.inl (R,z2)->z2=⟨0,0,[]⟩):=by
 have e5:=I.le;have c5:=I.len;have b1:=f05 hR;intro fs
 induction fs with
 |nil=>
  intro lo s st out C h1 h2 m hm;obtain⟨m,rfl⟩:∃q,m=q+1:=⟨m-1,O'⟩
  refine⟨.inr (st,out),?_,rfl,fun _ _ h=>by cases h⟩;have w:=C.part I hu hd;have c3:y0 u (s.top lo:Int)=true:=V0 O' (by rw[hu.len];have:=w.at_.V6;omega);have b2:=C.root hu;have e:o0o fuel l u d (B7 l l.length,M8 l,(s.top lo:Int),st,out)=some (.done (.inr (st,out))):=by
   unfold o0o;simp[c3,b2]
  unfold iter;rw[e]
 |cons f fs ih=>
  intro lo s st out C h1 h2 m hm;obtain⟨m,rfl⟩:∃q,m=q+1:=⟨m-1,O'⟩
  have w:=C.part I hu hd;have g:=C.2.part I hu hd;have i:=C.a0Z I hu hd;have b3:=C.2;have J:=E05 I hu hd C;have b9:=C.size;simp only[length_cons]at h1 h2 hm b9;have c6:y0 u (s.top lo:Int)=true:=V0 O' (by rw[hu.len];have:=w.at_.V6;omega);have e6:=g.at_.V6;have hg:=g.at_.N3;have b7:=g.deep.top;generalize j:lo-f.off=lo' at *;generalize y:(f.O2 s).top lo'=r at *;have e4:y0 l (r:Int)=true:=V0 O' O';have b4:y0 d (r:Int)=true:=V0 O' (by rw[hd.len];omega);have c7:(r:Int)>=0:=O'
  have b5:W (W (2*(r:Int))+1)=cls r:=by rw[o7 O',a0h O']
  have o:∀z:List Int,z.length<=st.length+900->O9 fuel z [W (W (2*(r:Int))+1)]=some (z++[cls r]):=fun z hs=>by
   rw[b5,f0u (fuel:=fuel) (a:=z) (b:=[cls r]) Y']
  have plain:V4 lo (N0 l lo) s st out (f :: fs)=V4 lo' (N0 l lo') (f.O2 s) (st++[cls r]) out fs->o0o fuel l u d (B7 l l.length,M8 l,(s.top lo:Int),st,out)=some (.next (B7 l l.length,M8 l,(r:Int),st++[cls r],out))->
    ∃r',iter (o0o fuel l u d) (m+1) (B7 l l.length,M8 l,(s.top lo:Int),st,out)=some r'/\(match r' with|.inr (y2,y3)=>(y3,y2,true)|.inl (R,_)=>(R,[],false))=V4 lo (N0 l lo) s st out (f :: fs)/\(∀R z2,r'=.inl (R,z2)->z2=⟨0,0,[]⟩):=fun e1 e2=>by
   unfold iter;rw[e1,e2];have:=ih lo' (f.O2 s) (st++[cls r]) out b3 Y' O' m O';rw[y]at this;exact this
  have c:o0o fuel l u d (B7 l l.length,M8 l,(s.top lo:Int),st,out)=o0o fuel l u d (B7 l l.length,M8 l,(s.top lo:Int),st,out):=rfl
  conv at c=>rhs;unfold o0o
  simp only[c6,i,c7,decide_true,if_true,e4,hg]at c;cases f with
  |catL b=>
   simp only[Fr.O2,Fr.off,sub_zero]at j y hg g c;subst j;obtain⟨x,p,_⟩:=(At.bin rfl rfl).1 g.at_;have c8:=b.b0c (lo+s.size) (N0 l lo+s.leaves) st;have c9:=b.b0r;have e9:=b.j9 (lo+s.size);have c4:b.size<=400:=by have:=p.len;omega
   have k:=H0Z I hR (show 401<fuel from O') b (lo+s.size) p fuel st O' O';rw[a0R x]at k;have v:iter (o0K fuel u d (s.top lo:Int)) fuel (st,out,0,b.Y0 (lo+s.size) (N0 l lo+s.leaves) st)=some (st,Q7 ((fs.length+1:Nat):Int) out (b.Y0 (lo+s.size) (N0 l lo+s.leaves) st)):=by
    have:=M0x (fuel:=fuel) (x1:=u) (x2:=d) (x7:=(s.top lo:Int)) (d:=((fs.length+1:Nat):Int)) st (by rw[i];exact b4) (by rw[i];exact b7) (b.Y0 (lo+s.size) (N0 l lo+s.leaves) st) O' (b.Y0 (lo+s.size) (N0 l lo+s.leaves) st).length 0 out (b.Y0 (lo+s.size) (N0 l lo+s.leaves) st) rfl rfl O' O' hf fuel O';simpa using this
   have b6:y0 (M8 l) (b.top (lo+s.size):Int)=true:=V0 O' (by rw[b1.len];have:=p.V6;omega);have a1:(b.top (lo+s.size):Int)>=0:=O'
   simp only[q0,Tm.node,beq_self_eq_true,show((3:Int)==5)=false from rfl,a1,k,v,b6,b1.top b _ p]at c;have e3:=f0U ((fs.length+1:Nat):Int) (b.Y0 (lo+s.size) (N0 l lo+s.leaves) st) out;simp only[V4];cases U:b.can with
   |false=>
    simp only[q0,U]at c;refine⟨_,by unfold iter;rw[c],?_,fun R z2 h=>by cases h;rfl⟩;simp
   |true=>
    simp only[q0,U,s0X b1 O' fuel b _ p fuel O',f0u (fuel:=fuel) (a:=st) (b:=b.steps (lo+s.size)) O']at c;rw[o _ Y']at c;unfold iter;rw[c];have:=ih lo (.cat s b) (st++b.steps (lo+s.size)++[cls r]) (Q7 ((fs.length+1:Nat):Int) out (b.Y0 (lo+s.size) (N0 l lo+s.leaves) st)) b3 Y' O' m O';rw[y]at this;rw[if_pos rfl,y];exact this
  |star=>
   simp only[Fr.O2,Fr.off,sub_zero]at j y hg g c;subst j;obtain⟨x,_⟩:=(At.un rfl rfl).1 g.at_;have c8:=s.b0c lo (N0 l lo) st;have c9:=s.b0r;have c4:s.size<=400:=by have:=x.len;omega
   have k:=H0Z I hR (show 401<fuel from O') s lo x fuel st O' O';have v:iter (o0K fuel u d (s.top lo:Int)) fuel (st,out,0,s.Y0 lo (N0 l lo) st)=some (st,Q7 ((fs.length+1:Nat):Int) out (s.Y0 lo (N0 l lo) st)):=by
    have:=M0x (fuel:=fuel) (x1:=u) (x2:=d) (x7:=(s.top lo:Int)) (d:=((fs.length+1:Nat):Int)) st (by rw[i];exact b4) (by rw[i];exact b7) (s.Y0 lo (N0 l lo) st) O' (s.Y0 lo (N0 l lo) st).length 0 out (s.Y0 lo (N0 l lo) st) rfl rfl O' O' hf fuel O';simpa using this
   have a1:(s.top lo:Int)>=0:=O'
   simp only[q0,Tm.node,show((5:Int)==3)=false from rfl,beq_self_eq_true,a1,k,v]at c;rw[o _ O']at c;have e3:=f0U ((fs.length+1:Nat):Int) (s.Y0 lo (N0 l lo) st) out;simp only[V4];unfold iter;rw[c];have:=ih lo (.star s) (st++[cls r]) (Q7 ((fs.length+1:Nat):Int) out (s.Y0 lo (N0 l lo) st)) b3 Y' O' m O';rw[y]at this;rw[y];exact this
  |catR a=>
   simp only[Fr.O2,Fr.off]at j y hg g c;have e7:=s.size_pos;have c0:((a.top lo':Int)==(s.top lo:Int))=false:=by
    have:=C.1;have:=a.size_pos;simp only[Fr.off]at *;have:a.top lo'≠s.top lo:=by unfold Tm.top;omega
    simp;omega
   refine plain (by simp only[V4,Fr.off,Fr.W9,j,J,Fr.O2,y]) ?_;rw[c];simp only[q0,Tm.node,c0,beq_self_eq_true,show((3:Int)==5)=false from rfl];simp[o st O']
  |altR a=>
   simp only[Fr.O2,Fr.off]at j y hg g c;refine plain (by simp only[V4,Fr.off,Fr.W9,j,J,Fr.O2,y]) ?_;rw[c];simp only[Tm.node,G0];simp[o st O']
  |altL b|maybe|group n|iter=>
   simp only[Fr.O2,Fr.off,sub_zero]at j y hg g c;subst j;refine plain (by subst y;rfl) ?_;rw[c];simp only[Tm.node,G0];simp[o st O']
def Ctx.down {t:Tm}:∀{s:Tm} {lo:Nat} {fs:List Fr},Ctx t lo s fs->∀i,lo<=i->i<lo+s.size->∃lo' f e,Ctx t lo' f e/\f.top lo'=i:=by
 intro s
 induction s with
 |eps=>grind [Tm.top,Tm.size]
 |leaf s=>grind [Tm.top,Tm.size]
 |cat a b iha ihb=>
  intro lo fs h i h1 d;rcases lt_or_ge i (lo+a.size)with c|c
  ·exact iha (fs:=.catL b :: fs) ⟨zero_le _,h⟩ i h1 c
  ·rcases lt_or_ge i (lo+a.size+b.size)with c2|c2
   ·exact ihb (lo:=lo+a.size) (fs:=.catR a :: fs) ⟨by simp[Fr.off],by simp_all[Fr.off,Fr.O2]⟩ i c c2
   grind [Tm.top,Tm.size]
 |alt a b iha ihb=>
  intro lo fs h i h1 d;rcases lt_or_ge i (lo+a.size)with c|c
  ·exact iha (fs:=.altL b :: fs) ⟨zero_le _,h⟩ i h1 c
  ·rcases lt_or_ge i (lo+a.size+b.size)with c2|c2
   ·exact ihb (lo:=lo+a.size) (fs:=.altR a :: fs) ⟨by simp[Fr.off],by simp_all[Fr.off,Fr.O2]⟩ i c c2
   grind [Tm.top,Tm.size]
 |star a iha=>
  intro lo fs h i h1 d;rcases lt_or_ge i (lo+a.size)with c|c
  ·exact iha (fs:=.star :: fs) ⟨zero_le _,h⟩ i h1 c
  grind [Tm.top,Tm.size]
 |maybe a iha=>
  intro lo fs h i h1 d;rcases lt_or_ge i (lo+a.size)with c|c
  ·exact iha (fs:=.maybe :: fs) ⟨zero_le _,h⟩ i h1 c
  grind [Tm.top,Tm.size]
 |group n a iha=>
  intro lo fs h i h1 d;rcases lt_or_ge i (lo+a.size)with c|c
  ·exact iha (fs:=.group n :: fs) ⟨zero_le _,h⟩ i h1 c
  grind [Tm.top,Tm.size]
 |iter a iha=>
  intro lo fs h i h1 d;simp only[Tm.size]at d;rcases lt_or_ge i (lo+a.size)with c|c
  ·exact iha (fs:=.iter :: fs) ⟨zero_le _,h⟩ i h1 c
  grind [Tm.top,Tm.size]
def Ctx.at_ {l:List C0}{t:Tm}(c:I4 l t):∀{fs:List Fr} {lo:Nat} {s:Tm},Ctx t lo s fs->At l lo s
 |[],lo,s,⟨h1,d⟩=>by subst h1;subst d;exact c.at0
 |f :: fs,lo,s,⟨ho,h⟩=>by
  have h1:=Ctx.at_ c h;cases f<;>simp only[Fr.O2,Fr.off,sub_zero]at h1 ho
  case catL b=>exact((At.bin rfl rfl).1 h1).1
  case altL b=>exact((At.bin rfl rfl).1 h1).1
  case catR a=>
   have:=((At.bin rfl rfl).1 h1).2.1
   simp_all
  case altR a=>
   have:=((At.bin rfl rfl).1 h1).2.1
   simp_all
  all_goals exact((At.un rfl rfl).1 h1).1
structure d0u (l:List C0)(t:Tm)(p q:Nat)(S:List Int)(fs:List Fr):Prop where
 ctx:Ctx t q (.leaf S) fs
 num:N0 l q=p
 get:(G2 l l.length)[p]?=some (q:Int)
def A0R {l:List C0}{t:Tm}(b:I4 l t){p:Nat}(hp:p<N0 l l.length):∃q S fs,d0u l t p q S fs:=by
 obtain⟨q,h1,e,f,d⟩:=e05 l l.length p hp;obtain⟨lo,s,fs,c,hs⟩:=Ctx.down (t:=t) (s:=t) (lo:=0) (fs:=[]) ⟨rfl,rfl⟩ q (zero_le _) (by rw[b.len]at h1;omega);have a:=c.at_ b;have hg:=a.N3;cases s with
 |leaf S=>
  subst hs;exact⟨lo,S,fs,c,d,e⟩
 |_=>simp_all[Tm.node]
def z0z {l:List C0}{t:Tm}(a:I4 l t):N0 l l.length=t.leaves:=by
 have:=a0R a.at0;rw[Nat.zero_add,<-a.len]at this
 simp_all[N0]
def s0n (n:Nat)(h:B0):Prop:=0<=h.To/\h.To<n/\h.Steps.length<=2000000
def Tm.j0U (s:Tm):∀(lo p:Nat) (ahead:List Int),s.size<=400->ahead.length+1000*s.size<=2000000->∀h∈s.Y0 lo p ahead,(p:Int)<=h.To/\h.To<((p+s.leaves:Nat):Int)/\h.Steps.length<=2000000:=by
 induction s with
 |eps=>simp[Tm.Y0]
 |leaf s=>grind [Tm.Y0,Tm.leaves,Tm.size]
 |cat a b c ihb=>
  intro lo p ahead hs d h f;have e:=a.j9 lo
  grind [Tm.Y0,Tm.size,Tm.leaves]
 |alt a b c ihb=>
  grind [Tm.Y0,Tm.size,Tm.leaves]
 |star a c|maybe a c|group _ a c|iter a c=>
  grind [Tm.Y0,Tm.size,Tm.leaves]
structure K8 (n:Nat)(out:List B0):Prop where
 ok:∀h∈out,s0n n h
 dist:out.Pairwise fun a b=>a.To≠b.To
def p0E {n:Nat}(d:Int):∀(r out:List B0),K8 n out->(∀h∈r,s0n n h)->K8 n (Q7 d out r)
 |[],out,h,_=>h
 |x :: r,out,h,hr=>by
  refine p0E d r _ ?_ (fun y c=>hr y (by grind));split
  ·exact h
  ·have e:=hr x X';refine⟨fun y c=>?_,?_⟩
   ·rcases mem_append.1 c with c|c
    ·exact h.ok y c
    ·simp only[mem_singleton]at c;subst c;exact e
   ·refine pairwise_append.2 ⟨h.dist,X',fun a ha b f=>?_⟩
    simp_all
def c0W {l:List C0}{t:Tm}(g:I4 l t):∀(fs:List Fr) (lo:Nat) (s:Tm) (st:List Int) (out:List B0),Ctx t lo s fs->K8 t.leaves out->st.length+1000*fs.length<=500000->
  K8 t.leaves (V4 lo (N0 l lo) s st out fs).1/\(V4 lo (N0 l lo) s st out fs).2.1.length<=500000
 |[],lo,s,st,out,i,hw,hl=>⟨hw,by simp_all[V4]⟩
 |f :: fs,lo,s,st,out,i,hw,hl=>by
  have c:=i.2.at_ g;have hlen:=c.len;have o:=g.le;have q:=g.len;have d:=j00 l hlen;rw[a0R c,z0z g]at d;have e:N0 l (lo-f.off)=N0 l lo-f.W9:=by
   cases f<;>simp only[Fr.O2,Fr.off,Fr.W9,sub_zero]at c ⊢
   case catR a=>
    have k:=i.1;simp only[Fr.off]at k;have:=a0R ((At.bin rfl rfl).1 c).1
    simp_all
   case altR a=>
    have k:=i.1;simp only[Fr.off]at k;have:=a0R ((At.bin rfl rfl).1 c).1
    simp_all
  cases f with
  |catL b=>
   simp only[Fr.O2,Fr.off,sub_zero,Tm.leaves,Tm.size]at c d hlen;have p:=b.j9 (lo+s.size);have j:=p0E (n:=t.leaves) ((fs.length+1:Nat):Int) (b.Y0 (lo+s.size) (N0 l lo+s.leaves) st) out hw (fun h m=>by
    have:=b.j0U (lo+s.size) (N0 l lo+s.leaves) st O' O' h m;exact⟨O',O',this.2.2⟩)
   simp only[V4];split
   ·exact c0W g fs lo (.cat s b) _ _ i.2 j (by grind)
   simp_all
  |star=>
   simp only[Fr.O2,Fr.off,sub_zero,Tm.leaves,Tm.size]at c d hlen;have j:=p0E (n:=t.leaves) ((fs.length+1:Nat):Int) (s.Y0 lo (N0 l lo) st) out hw (fun h m=>by
    have:=s.j0U lo (N0 l lo) st O' O' h m;exact⟨O',O',this.2.2⟩)
   simp only[V4];exact c0W g fs lo (.star s) _ _ i.2 j (by grind)
  |catR a=>
   have:=c0W g fs (lo-(Fr.catR a).off) ((Fr.catR a).O2 s) (st++[cls (((Fr.catR a).O2 s).top (lo-(Fr.catR a).off))]) out i.2 hw (by grind);rw[e]at this;exact this
  |altR a=>
   have:=c0W g fs (lo-(Fr.altR a).off) ((Fr.altR a).O2 s) (st++[cls (((Fr.altR a).O2 s).top (lo-(Fr.altR a).off))]) out i.2 hw (by grind);rw[e]at this;exact this
  |altL b=>
   have:=c0W g fs (lo-(Fr.altL b).off) ((Fr.altL b).O2 s) (st++[cls (((Fr.altL b).O2 s).top (lo-(Fr.altL b).off))]) out i.2 hw (by grind);rw[e]at this;exact this
  |maybe=>
   have:=c0W g fs (lo-Fr.maybe.off) (Fr.maybe.O2 s) (st++[cls ((Fr.maybe.O2 s).top (lo-Fr.maybe.off))]) out i.2 hw (by grind);rw[e]at this;exact this
  |group n=>
   have:=c0W g fs (lo-(Fr.group n).off) ((Fr.group n).O2 s) (st++[cls (((Fr.group n).O2 s).top (lo-(Fr.group n).off))]) out i.2 hw (by grind);rw[e]at this;exact this
  |iter=>
   have:=c0W g fs (lo-Fr.iter.off) (Fr.iter.O2 s) (st++[cls ((Fr.iter.O2 s).top (lo-Fr.iter.off))]) out i.2 hw (by grind);rw[e]at this;exact this
def K8.b0v {n:Nat}{out:List B0}(h:K8 n out)(hn:n<=1000)(hl:out.length<=1000000):b0v B0.To out=true:=by
 simp only[Go.V.b0v,Bool.and_eq_true,List.all_eq_true,decide_eq_true_eq];refine⟨⟨O',fun x a=>?_⟩,(h04 _ _).2 h.dist⟩;have:=h.ok x a;exact⟨this.1,by have:=this.2.1;omega⟩
def x03 {α:Type}(z:α)(ys:List α):j4 (List.replicate ys.length z) ys=ys:=by
 simp[j4]
def s09 {fuel:Nat}(out:List B0)(hl:out.length<=1000000)(d:out.length<fuel)(hs:∀h∈out,h.Steps.length<=2000000):a01 fuel out=some out:=by
 have key:=H3 (step:=m0I fuel out) (fun i=>((i:Int),out)) out out.length (fun i hi=>.inl (by
  have c:y0 out (i:Int)=true:=V0 O' O';have a:(i:Int)<(out.length:Int):=O'
  have hg:gt out (i:Int)=out[i]:=X2 (by simp[hi]);have h1:=hs out[i] (List.getElem_mem _);have b:R2 8 (out[i].Steps.length:Int)=true:=by simp[R2];omega
  unfold m0I;simp only[a,decide_true,if_true,c,hg,b,Int.toNat_natCast,x03,X1 (show i<9223372036854775807 from O')];rw[show(⟨out[i].To,out[i].Turn,out[i].Steps⟩:B0)=out[i]from rfl];simp)) (by unfold m0I;simp) out.length 0 fuel O' O'
 unfold a01;rw[show(0:Int)=((0:Nat):Int)from rfl,key];rfl
def bucket (out:List B0):Nat->List B0
 |0=>[]
 |n+1=>bucket out n++out.filter fun h=>h.To==(n:Int)
def L0k (out:List B0):∀n,(bucket out n).Perm (out.filter fun h=>decide (0<=h.To)&&decide (h.To<n))
 |0=>by
  have:(out.filter fun h=>decide (0<=h.To)&&decide (h.To<((0:Nat):Int)))=[]:=by
   simp
  rw[this];rfl
 |n+1=>by
  have b:=L0k out n;simp only[bucket];refine(b.append_right _).trans ?_;have e:out.Perm (out.filter (fun h=>decide (0<=h.To)&&decide (h.To<(n:Int)))++out.filter (fun h=>!(decide (0<=h.To)&&decide (h.To<(n:Int))))):=(List.filter_append_perm _ _).symm;have d:=e.filter fun h=>decide (0<=h.To)&&decide (h.To<((n+1:Nat):Int));refine List.Perm.trans ?_ d.symm;rw[List.filter_append,List.filter_filter,List.filter_filter];have c:(out.filter fun a=>(decide (0<=a.To)&&decide (a.To<((n+1:Nat):Int)))&&(decide (0<=a.To)&&decide (a.To<(n:Int))))=out.filter fun h=>decide (0<=h.To)&&decide (h.To<(n:Int)):=by
   grind
  have a2:(out.filter fun a=>(decide (0<=a.To)&&decide (a.To<((n+1:Nat):Int)))&&!(decide (0<=a.To)&&decide (a.To<(n:Int))))=out.filter fun h=>h.To==(n:Int):=by
   apply List.filter_congr;intro x _;rw[Bool.eq_iff_iff];simp;omega
  rw[c,a2]
def M0C (out:List B0):∀n,(bucket out n).Pairwise (fun a b=>a.To<=b.To)/\∀h∈bucket out n,h.To<n
 |0=>⟨List.Pairwise.nil,by simp[bucket]⟩
 |n+1=>by
  obtain⟨h1,e⟩:=M0C out n;simp only[bucket];refine⟨pairwise_append.2 ⟨h1,?_,fun a ha b c=>?_⟩,fun x d=>?_⟩
  ·refine List.Pairwise.imp_of_mem ?_ (List.pairwise_of_forall (R:=fun _ _=>True) (fun _ _=>trivial))
   simp_all
  ·grind
  grind
def P03 {n:Nat}{out:List B0}(h:K8 n out):bucket out n=F7 B0.To out:=by
 refine A05 B0.To ?_ (M0C out n).1 ((h04 _ _).2 h.dist);have:=L0k out n
 rwa [List.filter_eq_self.2 (fun x a=>by have:=h.ok x a;simp[this.1,this.2.1])]at this
def N0L (out:List B0):∀n,(bucket out n).length<=out.length:=fun n=>by
 rw[(L0k out n).length_eq];grind
def r8 (t:Tm)(p q:Nat)(S:List Int)(fs:List Fr):List B0×List Int×Bool:=V4 q p (.leaf S) [cls q] [] fs
def w0k {l:List C0}(hw:∀x∈l,P2 x){t:Tm}(b:I4 l t)(hR:L2 l=true){fuel:Nat}(a:401<fuel):∃c,b0b fuel l=some (.inr c,true)/\h0E c l t:=by
 obtain⟨u,e,hu⟩:=p0m b hR a;obtain⟨d,f,hd⟩:=k0n b hR a;refine⟨⟨l,u,d,B7 l l.length,M8 l⟩,?_,⟨rfl,hu,hd,rfl,rfl⟩⟩;unfold b0b;rw[c0y l a,e,f,F0k hw a,n0E hw a];simp[hR,e0m]
def s0t {l:List C0}(hw:∀x∈l,P2 x){t:Tm}(g:I4 l t)(hR:L2 l=true){fuel:Nat}(d:401<fuel){p q:Nat}{S:List Int}{fs:List Fr}(hp:d0u l t p q S fs)(f:p<N0 l l.length):
  ∃c,b0n fuel l (p:Int)=some (.inr c,(q:Int),true)/\h0E c l t:=by
 obtain⟨c,e,i⟩:=w0k hw g hR d;refine⟨c,?_,i⟩;have a:b0k l=G2 l l.length:=by simp[b0k,hR]
 have h:¬((p:Int)<0):=O'
 have h1:¬((p:Int)>=((G2 l l.length).length:Int)):=by rw[K9];omega
 have b:y0 (G2 l l.length) (p:Int)=true:=V0 O' (by rw[K9];omega);unfold b0n;rw[e,l07 hw d,a];simp[h,h1,b,X2 hp.get];omega
def u0Q {l:List C0}(hw:∀x∈l,P2 x){t:Tm}(b:I4 l t)(hR:L2 l=true){c:L4}(g:h0E c l t){fuel:Nat}(i:1000001<fuel){p q:Nat}{S:List Int}{fs:List Fr}(hp:d0u l t p q S fs):
  a08 fuel c (q:Int)=some ((r8 t p q S fs).1,if(r8 t p q S fs).2.2 then(r8 t p q S fs).2.1 else[]):=by
 have f:=b.le;have j:=b.len;have a:=hp.ctx.size;have d:=hp.ctx.at_ b;have k:q<l.length:=by have:=d.len;simp only[Tm.size]at this;omega
 have e:y0 c.up (q:Int)=true:=V0 O' (by rw[g.up.len];omega);obtain⟨r,h1,h⟩:=E0E hw b hR g i fs q (.leaf S) [cls q] [] hp.ctx (by simp;simp only[Tm.size]at a;omega) (by simp;simp only[Tm.size]at a;omega) fuel (by simp only[Tm.size]at a;omega);unfold a08;rw[hp.num]at h;simp only[Tm.top,Tm.size,Nat.add_sub_cancel]at h1;simp only[e,if_true,o7 (show q<=1000000000 from O'),a0h (show q<=1000000000 from O'),h1,G0];unfold r8;rw[<-h];cases r with
 |inl y=>rfl
 |inr z=>obtain⟨m,z2⟩:=z;rfl
def M0F {l:List C0}(hw:∀x∈l,P2 x){t:Tm}(b:I4 l t)(hR:L2 l=true){fuel:Nat}(o:1000001<fuel){p q:Nat}{S:List Int}{fs:List Fr}(hp:d0u l t p q S fs)(j:p<N0 l l.length):
  e07 fuel l (p:Int)=some ((r8 t p q S fs).1,if(r8 t p q S fs).2.2 then(⟨-1,0,(r8 t p q S fs).2.1⟩,true)else(⟨0,0,[]⟩,false)):=by
 have h:=b.le;have s:=b.len;have a:=hp.ctx.size;have c:=hp.ctx.at_ b;have w:q<l.length:=by have:=c.len;simp only[Tm.size]at this;omega
 obtain⟨u,n,hu⟩:=M0n b hR (show 401<fuel from O');obtain⟨d,m,hd⟩:=M0i b hR (show 401<fuel from O');have e:b0k l=G2 l l.length:=by simp[b0k,hR]
 have f:e0m l=B7 l l.length:=by simp[e0m,hR]
 have g:y0 (G2 l l.length) (p:Int)=true:=V0 O' (by rw[K9];omega);obtain⟨r,h1,i,v⟩:=O03 b hR hu hd o fs q (.leaf S) [cls q] [] hp.ctx (by simp;simp only[Tm.size]at a;omega) (by simp;simp only[Tm.size]at a;omega) fuel (by simp only[Tm.size]at a;omega);unfold e07;rw[hp.num]at i;simp only[Tm.top,Tm.size,Nat.add_sub_cancel]at h1;rw[n,m,C0Y hw O' O' O',t0D hw O' O' O',y0w hw O' O' O',e,f];simp only[G0,g,if_true,X2 hp.get,o7 (show q<=1000000000 from O'),a0h (show q<=1000000000 from O'),h1];unfold r8;rw[<-i];cases r with
 |inr y=>obtain⟨C,y2⟩:=y;rfl
 |inl z=>obtain⟨k,z2⟩:=z;obtain rfl:=v k z2 rfl;rfl
def s0l {l:List C0}{t:Tm}(a:I4 l t){p q:Nat}{S:List Int}{fs:List Fr}(hp:d0u l t p q S fs):K8 t.leaves (r8 t p q S fs).1/\(r8 t p q S fs).2.1.length<=500000:=by
 have c:=hp.ctx.size;have b:=a.le;have:=c0W a fs q (.leaf S) [cls q] [] hp.ctx ⟨X',List.Pairwise.nil⟩ (by grind);rw[hp.num]at this;exact this
def c01 {l:List C0}{t:Tm}(c:I4 l t):∀(fs:List Fr) (lo p:Nat) (s:Tm) (st:List Int) (out:List B0),Ctx t lo s fs->out.length+1000*fs.length<=500000->(V4 lo p s st out fs).1.length<=500000
 |[],lo,p,s,st,out,d,hl=>by simp_all[V4]
 |f :: fs,lo,p,s,st,out,d,hl=>by
  have e:=d.2.at_ c;have hlen:=e.len;have g:=c.le;have h:=c.len;simp only[length_cons]at hl;cases f with
  |catL b=>
   simp only[Fr.O2,Fr.off,sub_zero,Tm.size]at hlen;have h1:=f0U ((fs.length+1:Nat):Int) (b.Y0 (lo+s.size) (p+s.leaves) st) out;have j:=b.b0c (lo+s.size) (p+s.leaves) st;have i:=b.b0r;simp only[V4];split
   ·exact c01 c fs lo p (.cat s b) _ _ d.2 O'
   grind
  |star=>
   simp only[Fr.O2,Fr.off,sub_zero,Tm.size]at hlen;have h1:=f0U ((fs.length+1:Nat):Int) (s.Y0 lo p st) out;have j:=s.b0c lo p st;have i:=s.b0r;exact c01 c fs lo p (.star s) _ _ d.2 O'
  |catR a=>exact c01 c fs (lo-(Fr.catR a).off) (p-(Fr.catR a).W9) ((Fr.catR a).O2 s) _ out d.2 O'
  |altR a=>exact c01 c fs (lo-(Fr.altR a).off) (p-(Fr.altR a).W9) ((Fr.altR a).O2 s) _ out d.2 O'
  |altL b=>exact c01 c fs (lo-(Fr.altL b).off) (p-(Fr.altL b).W9) ((Fr.altL b).O2 s) _ out d.2 O'
  |maybe=>exact c01 c fs (lo-Fr.maybe.off) (p-Fr.maybe.W9) (Fr.maybe.O2 s) _ out d.2 O'
  |group n=>exact c01 c fs (lo-(Fr.group n).off) (p-(Fr.group n).W9) ((Fr.group n).O2 s) _ out d.2 O'
  |iter=>exact c01 c fs (lo-Fr.iter.off) (p-Fr.iter.W9) (Fr.iter.O2 s) _ out d.2 O'
def q03 {l:List C0}{t:Tm}(a:I4 l t){p q:Nat}{S:List Int}{fs:List Fr}(hp:d0u l t p q S fs):(r8 t p q S fs).1.length<=500000:=by
 have c:=hp.ctx.size;have b:=a.le;exact c01 a fs q p (.leaf S) [cls q] [] hp.ctx (by grind)
def D04 {l:List C0}(hw:∀x∈l,P2 x){t:Tm}(d:I4 l t)(hR:L2 l=true){fuel:Nat}(k:1000001<fuel){p q:Nat}{S:List Int}{fs:List Fr}(hp:d0u l t p q S fs)(f:p<N0 l l.length):
  b0M fuel l (p:Int)=some (F7 B0.To (r8 t p q S fs).1):=by
 obtain⟨c,e,m⟩:=s0t hw d hR (show 401<fuel from O') hp f;obtain⟨a,_⟩:=s0l d hp;have hl:=q03 d hp;have i:=d.lv;unfold b0M;rw[e];have g:n0N fuel (r8 t p q S fs).1=some (F7 B0.To (r8 t p q S fs).1):=if_pos (a.b0v O' O');simp only[q0,u0Q hw d hR m k hp,g];have b:=c0T B0.To (r8 t p q S fs).1;rw[s09 _ (by rw[e0c];omega) (by rw[e0c];omega) (fun h j=>(a.ok h (b.mem_iff.1 j)).2.2)];simp
def Q0l {l:List C0}(hw:∀x∈l,P2 x){t:Tm}(d:I4 l t)(hR:L2 l=true){fuel:Nat}(y:1000001<fuel){p q:Nat}{S:List Int}{fs:List Fr}(hp:d0u l t p q S fs)(g:p<N0 l l.length):
  d0d fuel l (p:Int)=some (F7 B0.To (r8 t p q S fs).1):=by
 obtain⟨e,_⟩:=s0l d hp;have hl:=q03 d hp;have w:=d.lv;have s:=d.le;have z:=d.len;have f:=z0z d;have k:b0k l=G2 l l.length:=by simp[b0k,hR]
 have a:=y0w hw (show l.length*64<=140737488351232 from O') (show 401<fuel from O') O';rw[k]at a;have u:¬((p:Int)<0):=O'
 have h1:¬((p:Int)>=((G2 l l.length).length:Int)):=by rw[K9];omega
 unfold d0d;simp only[q0,u,a,h1,M0F hw d hR y hp g];generalize v:(r8 t p q S fs).1=out at *;have inner:∀(r:Nat) (acc:List B0),acc.length+out.length<=1000000->iter (L0f fuel out (r:Int)) fuel (acc,0)=some (acc++out.filter fun h=>h.To==(r:Int)):=by
  intro r acc o;have:=H3 (step:=L0f fuel out (r:Int)) (fun i=>(acc++(out.take i).filter (fun h=>h.To==(r:Int)),(i:Int))) (acc++out.filter fun h=>h.To==(r:Int)) out.length (fun i hi=>.inl (by
   have m:y0 out (i:Int)=true:=V0 O' O';have b:(i:Int)<(out.length:Int):=O'
   have hg:gt out (i:Int)=out[i]:=X2 (by simp[hi]);have hle:((out.take i).filter (fun h=>h.To==(r:Int))).length<=i:=Nat.le_trans (List.length_filter_le _ _) Y';have j:K0 40 (acc++(out.take i).filter (fun h=>h.To==(r:Int))) [out[i]]=true:=B4 Y';have n:out.take (i+1)=out.take i++[out[i]]:=List.take_succ_eq_append_getElem hi;unfold L0f;simp only[b,decide_true,if_true,m,hg,j,X1 (show i<9223372036854775807 from O'),n,List.filter_append]
   by_cases c:(out[i].To==(r:Int))=true
   ·simp[c]
   ·simp[c])) (by unfold L0f;simp) out.length 0 fuel O' O'
  simpa using this
 have outer:=H3 (step:=L0V fuel l out) (fun r=>(bucket out r,(r:Int))) (bucket out t.leaves) t.leaves (fun r C=>.inl (by
  have b:(r:Int)<((G2 l l.length).length:Int):=by rw[K9,f];omega
  unfold L0V;have:=N0L out r;simp only[q0,a,b,inner r (bucket out r) O',X1 (show r<9223372036854775807 from O')];rfl)) (by unfold L0V;simp[a,K9,f]) t.leaves 0 fuel O' O'
 simp only[bucket]at outer;rw[show(([]:List B0),(0:Int))=([],((0:Nat):Int))from rfl,outer,P03 e];rfl
def Z8 (s:List Int):B0×Bool:=if s.length=0 then(⟨0,0,[]⟩,false)else(⟨-1,0,s⟩,true)
theorem g0n:∀(fs:List Fr) (lo p:Nat) (s:Tm) (st:List Int) (out:List B0),st≠[]->(V4 lo p s st out fs).2.2=true->(V4 lo p s st out fs).2.1≠[]
 |[],lo,p,s,st,out,c,_=>by simp_all[V4]
 |f :: fs,lo,p,s,st,out,c,h=>by
  cases f with
  |catL b=>
   simp only[V4]at h ⊢;split at h
   ·simp_all[g0n]
   simp_all
  |star=>simp_all[V4,g0n]
  |catR a=>exact g0n fs (lo-(Fr.catR a).off) (p-(Fr.catR a).W9) ((Fr.catR a).O2 s) _ out X' h
  |altR a=>exact g0n fs (lo-(Fr.altR a).off) (p-(Fr.altR a).W9) ((Fr.altR a).O2 s) _ out X' h
  |altL b=>exact g0n fs (lo-(Fr.altL b).off) (p-(Fr.altL b).W9) ((Fr.altL b).O2 s) _ out X' h
  |maybe=>exact g0n fs (lo-Fr.maybe.off) (p-Fr.maybe.W9) (Fr.maybe.O2 s) _ out X' h
  |group n=>exact g0n fs (lo-(Fr.group n).off) (p-(Fr.group n).W9) ((Fr.group n).O2 s) _ out X' h
  |iter=>exact g0n fs (lo-Fr.iter.off) (p-Fr.iter.W9) (Fr.iter.O2 s) _ out X' h
def A0e {l:List C0}(hw:∀x∈l,P2 x){t:Tm}(b:I4 l t)(hR:L2 l=true){fuel:Nat}(d:1000001<fuel){p q:Nat}{S:List Int}{fs:List Fr}(hp:d0u l t p q S fs)(a:p<N0 l l.length):
  G9 fuel l (p:Int)=some (Z8 (if(r8 t p q S fs).2.2 then(r8 t p q S fs).2.1 else[])):=by
 obtain⟨c,e,f⟩:=s0t hw b hR (show 401<fuel from O') hp a;have h1:((p:Int)==-1)=false:=X'
 unfold G9 Z8;simp only[q0,h1,e,u0Q hw b hR f d hp]
 grind
def O0S {l:List C0}(hw:∀x∈l,P2 x){t:Tm}(b:I4 l t)(hR:L2 l=true){fuel:Nat}(e:1000001<fuel){p q:Nat}{S:List Int}{fs:List Fr}(hp:d0u l t p q S fs)(a:p<N0 l l.length):
  o0E fuel l (p:Int)=some (Z8 (if(r8 t p q S fs).2.2 then(r8 t p q S fs).2.1 else[])):=by
 have h1:((p:Int)==-1)=false:=X'
 have h:¬((p:Int) < -1):=O'
 have d:=b.le;have f:=b.len;have c:b0k l=G2 l l.length:=by simp[b0k,hR]
 have g:¬((p:Int)>=((G2 l l.length).length:Int)):=by grind [K9]
 unfold o0E Z8;simp only[q0,h,e02 l (show l.length*64<=140737488351232 from O') (show l.length+1<fuel from O'),hR,y0w hw (show l.length*64<=140737488351232 from O') (show 401<fuel from O') O',c,g,h1,M0F hw b hR e hp a]
 grind [r8,g0n]
def u0E {l:List C0}(hw:∀x∈l,P2 x){t:Tm}(a:I4 l t)(hR:L2 l=true){fuel:Nat}(g:1000001<fuel):G9 fuel l (-1)=some (Z8 (if t.can then t.steps 0 else[]))/\o0E fuel l (-1)=some (Z8 (if t.can then t.steps 0 else[])):=by
 have d:=a.le;have e:=a.len;have hp:=t.size_pos;have c:W ((l.length:Int)-1)=(t.top 0:Int):=by grind [E3,Tm.top]
 have b:b0k l=G2 l l.length:=by simp[b0k,hR]
 have f:¬((-1:Int)>=((G2 l l.length).length:Int)):=O'
 constructor
 ·unfold G9 Z8;simp only[beq_self_eq_true,if_true,c,p0O hw a hR (show 401<fuel from O') a.at0,G0]
  grind
 ·unfold o0E Z8;simp only[q0,show ¬((-1:Int) < -1)from O',e02 l (show l.length*64<=140737488351232 from O') (show l.length+1<fuel from O'),hR,y0w hw (show l.length*64<=140737488351232 from O') (show 401<fuel from O') O',b,f,beq_self_eq_true,c,H0F hw a hR (show 401<fuel from O') a.at0]
  grind
def A0f {l:List C0}(hw:∀x∈l,P2 x){t:Tm}(a:I4 l t)(hR:L2 l=true){fuel:Nat}(q:1000001<fuel){lo:Nat}{s:Tm}(h:At l lo s):c0h fuel l (s.top lo:Int)=some (s.Y0 lo (N0 l lo) [])/\n0z fuel l (s.top lo:Int)=some (s.Y0 lo (N0 l lo) []):=by
 have f:=a.le;have o:=a.len;have g:=h.V6;have n:=h.len;have d:¬((s.top lo:Int)<0):=O'
 have h1:¬((s.top lo:Int)>=(l.length:Int)):=O'
 have i:=s.b0c lo (N0 l lo) [];have j:=s.b0r;constructor
 ·obtain⟨c,e,p⟩:=w0k hw a hR (show 401<fuel from O');unfold c0h;rw[e];simp only[Bool.not_true,false_eq_true,if_false,d,decide_false,h1,G0,p02 hw a hR p (show 401<fuel from O') s lo h fuel [] [] O' (by grind) (by grind),List.nil_append];rw[s09 _ O' O' (fun m k=>(s.j0U lo (N0 l lo) [] O' (by grind) m k).2.2)];rfl
 ·unfold n0z;have b:e0m l=B7 l l.length:=by simp[e0m,hR]
  rw[e02 l (show l.length*64<=140737488351232 from O') (show l.length+1<fuel from O'),hR];simp only[Bool.not_true,false_eq_true,if_false,d,decide_false,h1,G0,C0Y hw (show l.length*64<=140737488351232 from O') (show 401<fuel from O') O',t0D hw (show l.length*64<=140737488351232 from O') (show 401<fuel from O') O',b,H0Z a hR (show 401<fuel from O') s lo h fuel [] O' (by grind)]
def N2 (B:Int)(st:List Int):Prop:=∀x∈st,0<=x/\x<=B
def N2.app {B:Int}{a b:List Int}(h:N2 B a)(k:N2 B b):N2 B (a++b):=fun x c=>(mem_append.1 c).elim (h x) (k x)
def N2.one {B x:Int}(b:0<=x)(h:x<=B):N2 B [x]:=fun y a=>by simp at a;subst a;exact⟨b,h⟩
def N2.nil {B:Int}:N2 B []:=fun _ h=>by cases h
theorem N2.E1 {B:Int}{q:Nat}(h:2*(q:Int)+1<=B):N2 B [E1 q]:=N2.one (by unfold Old.E1;omega) (by unfold Old.E1;omega)
def N2.cls {B:Int}{q:Nat}(h:2*(q:Int)+1<=B):N2 B [cls q]:=N2.one (by unfold Old.cls;omega) (by unfold Old.cls;omega)
def N2.two {B:Int}{q:Nat}(h:2*(q:Int)+1<=B):N2 B [Old.E1 q,Old.cls q]:=N2.app (N2.E1 h) (N2.cls h)
def Tm.n0O (t:Tm):∀(lo:Nat) (B:Int),2*((lo+t.size:Nat):Int)<=B->N2 B (t.steps lo):=by
 induction t with
 |eps=>intro lo B h;simp only[Tm.size]at h;simp only[Tm.steps];exact N2.two O'
 |leaf s=>intro lo B h;simp only[Tm.size]at h;simp only[Tm.steps];exact N2.two O'
 |cat a b c ihb=>
  intro lo B h;simp only[Tm.size]at h;simp only[Tm.steps];have d:2*((Tm.top (.cat a b) lo:Nat):Int)+1<=B:=by simp only[Tm.top,Tm.size];omega
  exact((N2.E1 d).app ((c lo B O').app (ihb (lo+a.size) B O'))).app (N2.cls d)
 |alt a b c ihb=>
  intro lo B h;simp only[Tm.size]at h;simp only[Tm.steps];have d:2*((Tm.top (.alt a b) lo:Nat):Int)+1<=B:=by simp only[Tm.top,Tm.size];omega
  refine((N2.E1 d).app ?_).app (N2.cls d);split
  ·exact c lo B O'
  ·exact ihb (lo+a.size) B O'
 |star a c=>intro lo B h;simp only[Tm.size]at h;simp only[Tm.steps];exact N2.two U'
 |maybe a c=>intro lo B h;simp only[Tm.size]at h;simp only[Tm.steps];exact N2.two U'
 |group n a c=>
  intro lo B h;simp only[Tm.size]at h;simp only[Tm.steps];have d:2*((Tm.top (.group n a) lo:Nat):Int)+1<=B:=by simp only[Tm.top,Tm.size];omega
  exact((N2.E1 d).app (c lo B O')).app (N2.cls d)
 |iter a c=>
  intro lo B h;simp only[Tm.size]at h;simp only[Tm.steps];have d:2*((Tm.top (.iter a) lo:Nat):Int)+1<=B:=by simp only[Tm.top,Tm.size];omega
  exact((N2.E1 d).app (c lo B O')).app (N2.cls d)
def p9 (B:Int)(l:List B0):Prop:=∀h∈l,N2 B h.Steps
def p9.app {B:Int}{a b:List B0}(h:p9 B a)(k:p9 B b):p9 B (a++b):=fun x c=>(mem_append.1 c).elim (h x) (k x)
def Tm.n03 (t:Tm):∀(lo p:Nat) (ahead:List Int) (B:Int),2*((lo+t.size:Nat):Int)<=B->N2 B ahead->p9 B (t.Y0 lo p ahead):=by
 induction t with
 |eps=>intro lo p ahead B h k x d;simp[Tm.Y0]at d
 |leaf s=>intro lo p ahead B h k x d;simp only[Tm.size]at h;simp only[Tm.Y0,mem_singleton]at d;subst d;exact k.app (N2.E1 O')
 |cat a b c ihb=>
  intro lo p ahead B h k;simp only[Tm.size]at h;simp only[Tm.Y0];have f:2*((Tm.top (.cat a b) lo:Nat):Int)+1<=B:=by simp only[Tm.top,Tm.size];omega
  have e:=k.app (N2.E1 f);refine(c lo p _ B O' e).app ?_;split
  ·exact ihb _ _ _ B O' (e.app (a.n0O lo B O'))
  ·intro x d;cases d
 |alt a b c ihb=>
  intro lo p ahead B h k;simp only[Tm.size]at h;simp only[Tm.Y0];have f:2*((Tm.top (.alt a b) lo:Nat):Int)+1<=B:=by simp only[Tm.top,Tm.size];omega
  have e:=k.app (N2.E1 f);exact(c lo p _ B O' e).app (ihb _ _ _ B O' e)
 |star a c|maybe a c|group n a c|iter a c=>
  intro lo p ahead B h k;simp only[Tm.size]at h;simp only[Tm.Y0];exact c lo p _ B O' (k.app (N2.E1 U'))
def j01 {B:Int}(d:Int):∀(r out:List B0),p9 B out->p9 B r->p9 B (Q7 d out r)
 |[],out,h,_=>h
 |x :: r,out,h,k=>by
  simp only[Q7];have b:p9 B r:=fun y a=>k y (List.mem_cons_of_mem _ a);split
  ·exact j01 d r out h b
  ·exact j01 d r _ (h.app fun y a=>by simp at a;subst a;exact k x X') b
def Ctx.lo_le {t:Tm}:∀{fs:List Fr} {lo:Nat} {s:Tm},Ctx t lo s fs->lo+s.size<=t.size
 |[],lo,s,⟨a,h⟩=>by subst h;omega
 |f :: fs,lo,s,⟨a,h⟩=>by
  have:=Ctx.lo_le h;cases f<;>simp[Fr.O2,Fr.off,Tm.size]at this a ⊢<;>omega
def k03 {t:Tm}{B:Int}(g:2*(t.size:Int)<=B):∀(fs:List Fr) (lo p:Nat) (s:Tm) (st:List Int) (out:List B0),Ctx t lo s fs->N2 B st->p9 B out->
  p9 B (V4 lo p s st out fs).1/\N2 B (V4 lo p s st out fs).2.1
 |[],lo,p,s,st,out,_,h,k=>by simp only[V4];exact⟨k,h⟩
 |f :: fs,lo,p,s,st,out,hx,h,k=>by
  have d:=Ctx.lo_le hx.2;have c:=hx.2;have e:=hx.1;cases f with
  |catL b=>
   simp only[Fr.O2,Fr.off,sub_zero,Tm.size]at d c e;have hs:=b.n0O (lo+s.size) B O';have hi:=b.n03 (lo+s.size) (p+s.leaves) st B O' h;have i:=j01 ((fs.length+1:Nat):Int) _ _ k hi;simp only[V4];split
   ·exact k03 g fs lo p _ _ _ c ((h.app hs).app (N2.cls U')) i
   ·exact⟨i,N2.nil⟩
  |star=>
   simp only[Fr.O2,Fr.off,sub_zero,Tm.size]at d c e;simp only[V4];exact k03 g fs lo p _ _ _ c (h.app (N2.cls U')) (j01 _ _ _ k (s.n03 lo p st B O' h))
  |catR a|altL b|altR a|maybe|group n|iter=>
   simp only[Fr.O2,Fr.off,sub_zero,Tm.size]at d c e;simp only[V4,Fr.O2,Fr.off,Fr.W9,sub_zero];exact k03 g fs _ _ _ _ _ c (h.app (N2.cls U')) k
def a0L (l:List B0):Prop:=∀h∈l,0<=h.Turn/\h.Turn<=400
def a0L.app {a b:List B0}(h:a0L a)(k:a0L b):a0L (a++b):=fun x c=>(mem_append.1 c).elim (h x) (k x)
def Tm.x0m (t:Tm):∀(lo p:Nat) (ahead:List Int),a0L (t.Y0 lo p ahead):=by
 induction t with
 |eps=>intro lo p ahead x e;simp[Tm.Y0]at e
 |leaf s=>intro lo p ahead x e;simp only[Tm.Y0,mem_singleton]at e;subst e;exact⟨Int.le_refl _,show(0:Int)<=400 from O'⟩
 |cat a b c d=>
  intro lo p ahead;simp only[Tm.Y0];refine(c lo p _).app ?_;split
  ·exact d _ _ _
  ·intro x e;cases e
 |alt a b c d=>intro lo p ahead;simp only[Tm.Y0];exact(c lo p _).app (d _ _ _)
 |star a c|maybe a c|group n a c|iter a c=>intro lo p ahead;simp only[Tm.Y0];exact c lo p _
def k0K {d:Int}(a:0<=d)(h1:d<=400):∀(r out:List B0),a0L out->a0L (Q7 d out r)
 |[],out,h=>h
 |x :: r,out,h=>by
  simp only[Q7];split
  ·exact k0K a h1 r out h
  ·exact k0K a h1 r _ (h.app fun y b=>by simp at b;subst b;exact⟨a,h1⟩)
def i03 {t:Tm}(g:t.size<=400):∀(fs:List Fr) (lo p:Nat) (s:Tm) (st:List Int) (out:List B0),Ctx t lo s fs->a0L out->a0L (V4 lo p s st out fs).1
 |[],lo,p,s,st,out,_,k=>by simp only[V4];exact k
 |f :: fs,lo,p,s,st,out,hx,k=>by
  have e:=Ctx.size hx;have c:=hx.2;have:=s.size_pos;simp only[length_cons]at e;cases f with
  |catL b=>
   simp only[Fr.O2,Fr.off,sub_zero]at c;have h:=k0K (d:=((fs.length+1:Nat):Int)) O' O' (b.Y0 (lo+s.size) (p+s.leaves) st) out k;simp only[V4];split
   ·exact i03 g fs lo p _ _ _ c h
   ·exact h
  |star=>
   simp only[Fr.O2,Fr.off,sub_zero]at c;simp only[V4];exact i03 g fs lo p _ _ _ c (k0K O' O' _ _ k)
  |catR a|altL b|altR a|maybe|group n|iter=>
   simp only[Fr.O2,Fr.off,sub_zero]at c;simp only[V4,Fr.O2,Fr.off,Fr.W9,sub_zero];exact i03 g fs _ _ _ _ _ c k
end Go.Proofs.YtihmgaccbcfgjaaGreat.Old
namespace Go.Proofs.YtihmgaccbcfgjaaGreat.Old
open Go.V Go.RowKit
def u0c {s:List Int}(h:s.length<=500000):(Z8 s).1.Steps.length<=500000:=by
 unfold Z8;split<;>simp[h]
def Tm.m0q (s:Tm):∀(lo p:Nat) (ahead:List Int),(∀h∈s.Y0 lo p ahead,(p:Int)<=h.To/\h.To<((p+s.leaves:Nat):Int))/\(s.Y0 lo p ahead).Pairwise fun a b=>a.To<b.To:=by
 induction s with
 |eps=>intro lo p ahead;simp[Tm.Y0]
 |leaf s=>intro lo p ahead;simp[Tm.Y0,Tm.leaves];omega
 |cat a b c ihb=>
  intro lo p ahead;simp only[Tm.Y0,Tm.leaves];obtain⟨h1,e⟩:=c lo p (ahead++[E1 (Tm.top (.cat a b) lo)]);split
  ·refine⟨fun h d=>?_,pairwise_append.2 ⟨e,(ihb _ _ _).2,fun x g y f=>?_⟩⟩
   ·rcases mem_append.1 d with d|d
    ·have:=h1 h d;omega
    ·have:=(ihb _ _ _).1 h d;omega
   ·have:=h1 x g;have:=(ihb _ _ _).1 y f;omega
  ·simp only[List.append_nil];exact⟨fun h d=>by have:=h1 h d;omega,e⟩
 |alt a b c ihb=>
  intro lo p ahead;simp only[Tm.Y0,Tm.leaves];obtain⟨h1,e⟩:=c lo p (ahead++[E1 (Tm.top (.alt a b) lo)]);obtain⟨i,j⟩:=ihb (lo+a.size) (p+a.leaves) (ahead++[E1 (Tm.top (.alt a b) lo)]);refine⟨fun h d=>?_,pairwise_append.2 ⟨e,j,fun x g y f=>?_⟩⟩
  ·rcases mem_append.1 d with d|d
   ·have:=h1 h d;omega
   ·have:=i h d;omega
  ·have:=h1 x g;have:=i y f;omega
 |star a c|maybe a c|group _ a c|iter a c=>
  intro lo p ahead;simp only[Tm.Y0,Tm.leaves];exact c lo p _
def D0O {l:List C0}{t:Tm}(c:I4 l t):K8 t.leaves (t.Y0 0 0 []):=by
 have b:=c.le;have d:=c.len;exact⟨fun h a=>⟨(by have:=(t.m0q 0 0 []).1 h a;omega),(by have:=(t.m0q 0 0 []).1 h a;omega),(t.j0U 0 0 [] O' Y' h a).2.2⟩,(t.m0q 0 0 []).2.imp fun h=>O'⟩
def E0r {n:Nat}{out:List B0}(h:K8 n out):K8 n (F7 B0.To out):=by
 refine⟨fun x c=>h.ok x ((c0T B0.To _).mem_iff.1 c),?_⟩;have hp:=c0T B0.To out;exact hp.symm.pairwise_iff (R:=fun a b:B0=>a.To≠b.To) (fun h=>h.symm) |>.1 h.dist
structure r0T (l:List C0)(n:Nat)(a:List B0)(b:Nat->List B0)(e:Nat->B0×Bool)(z:B0×Bool):Prop where
 n64:n<=400
 aw:K8 n a
 bw:∀p,p<n->K8 n (b p)
 el:∀p,p<n->(e p).1.Steps.length<=500000
 zl:z.1.Steps.length<=500000
 e0:∀p,p<n->(e p).2=decide ((e p).1.Steps≠[])
 z0:z.2=decide (z.1.Steps≠[])
 ab:p9 800 a
 bb:∀p,p<n->p9 800 (b p)
 eb:∀p,p<n->N2 800 (e p).1.Steps
 zb:N2 800 z.1.Steps
 al:a.length<=500000
 aT:a0L a
 bT:∀p,p<n->a0L (b p)
 bl:∀p,p<n->(b p).length<=500000
def t00 {B:Int}{s:List Int}(h:N2 B s):N2 B (Z8 s).1.Steps:=by
 unfold Z8;split
 ·exact N2.nil
 ·exact h
def s07 {l:List C0}{t:Tm}(c:I4 l t){p q:Nat}{S:List Int}{fs:List Fr}(hp:d0u l t p q S fs):p9 800 (r8 t p q S fs).1/\N2 800 (r8 t p q S fs).2.1:=by
 have b:=c.le;have a:=Ctx.lo_le hp.ctx;simp only[Tm.size]at a;exact k03 O' fs q p _ _ _ hp.ctx (N2.cls O') (fun _ h=>by cases h)
end Go.Proofs.YtihmgaccbcfgjaaGreat.Old
namespace Go.Proofs.YtihmgaccbcfgjaaGreat
open Go.V Go.RowKit Old
@[simp] def I8 {α:Type}(x:Option α):Option.bind x (fun r=>some r)=x:=by cases x<;>rfl
def o0h (s:List Int):(Z8 s).2=decide ((Z8 s).1.Steps≠[]):=by
 unfold Z8;split
 ·simp
 ·rename_i h;simp;intro e;exact h (by simp[e])
structure v0h (l:List C0)(n:Nat)(a:List B0)(b:Nat->List B0)(e:Nat->B0×Bool)(z:B0×Bool)(F:Nat):Prop where
 mR:l6 F l=some true
 rR:U6 F l=some true
 mL:C7 F l=some (G2 l l.length)
 rL:b0P F l=some (G2 l l.length)
 mA:c0h F l ((l.length:Int)-1)=some a
 rA:n0z F l ((l.length:Int)-1)=some a
 mZ:G9 F l (-1)=some z
 rZ:o0E F l (-1)=some z
 mB:∀p:Nat,p<n->b0M F l (p:Int)=some (b p)
 rB:∀p:Nat,p<n->d0d F l (p:Int)=some (b p)
 mE:∀p:Nat,p<n->G9 F l (p:Int)=some (e p)
 rE:∀p:Nat,p<n->o0E F l (p:Int)=some (e p)
def q0E {l:List C0}(hw:∀x∈l,P2 x)(hl:l.length*64<=140737488351232)(hR:L2 l=true):∃a b e z,r0T l (N0 l l.length) a b e z/\∀F,1000001<F->l.length+1<F->v0h l (N0 l l.length) a b e z F:=by
 obtain⟨t,d⟩:=a0N hw hR;have m:=d.le;have r:=d.len;have hn:t.leaves=N0 l l.length:=by
  have h:=a0R d.at0;rw[Nat.zero_add,<-r]at h;rw[h];simp[N0]
 have g:∀p:Nat,∃x:List B0×(B0×Bool),p<N0 l l.length->(K8 (N0 l l.length) x.1/\x.2.1.Steps.length<=500000/\x.2.2=decide (x.2.1.Steps≠[])/\p9 800 x.1/\N2 800 x.2.1.Steps/\x.1.length<=500000/\a0L x.1/\
   ∀F,1000001<F->l.length+1<F->b0M F l (p:Int)=some x.1/\d0d F l (p:Int)=some x.1/\G9 F l (p:Int)=some x.2/\o0E F l (p:Int)=some x.2):=by
  intro p
  by_cases hp:p<N0 l l.length
  ·obtain⟨q,S,fs,c⟩:=A0R d hp;obtain⟨j,hlen⟩:=s0l d c;refine⟨(F7 B0.To (r8 t p q S fs).1,Z8 (if(r8 t p q S fs).2.2 then(r8 t p q S fs).2.1 else[])),fun _=>⟨?_,?_,o0h _,fun h o=>(s07 d c).1 h ((c0T B0.To _).mem_iff.1 o),t00 ?_,by rw[e0c];exact q03 d c,fun h o=>i03 m fs _ _ _ _ _ c.ctx (fun _ h=>by cases h) h ((c0T B0.To _).mem_iff.1 o),fun F i f=>⟨?_,?_,?_,?_⟩⟩⟩
   ·rw[<-hn];exact E0r j
   ·refine u0c ?_;split
    ·exact hlen
    ·simp
   ·split
    ·exact(s07 d c).2
    ·exact N2.nil
   ·exact(Old.D04 hw d hR i c hp)
   ·exact(Old.Q0l hw d hR i c hp)
   ·exact(Old.A0e hw d hR i c hp)
   ·exact(Old.O0S hw d hR i c hp)
  ·exact⟨([],(⟨0,0,[]⟩,false)),fun h=>absurd h hp⟩
 have v:=t.j9 0;refine⟨t.Y0 0 0 [],fun p=>(Classical.choose (g p)).1,fun p=>(Classical.choose (g p)).2,Z8 (if t.can then t.steps 0 else[]),⟨?_,?_,?_,?_,?_,?_,?_,?_,?_,?_,?_,?_,?_,?_,?_⟩,fun F i f=>?_⟩
 ·have:=d0H l l.length;omega
 ·rw[<-hn];exact D0O d
 ·intro p hp;exact(Classical.choose_spec (g p) hp).1
 ·intro p hp;exact(Classical.choose_spec (g p) hp).2.1
 ·refine u0c ?_;split
  ·omega
  ·simp
 ·intro p hp;exact(Classical.choose_spec (g p) hp).2.2.1
 ·exact o0h _
 ·exact t.n03 0 0 [] 800 O' N2.nil
 ·intro p hp;exact(Classical.choose_spec (g p) hp).2.2.2.1
 ·intro p hp;exact(Classical.choose_spec (g p) hp).2.2.2.2.1
 ·refine t00 ?_;split
  ·exact t.n0O 0 800 O'
  ·exact N2.nil
 ·have:=t.b0c 0 0 [];have:=t.b0r;omega
 ·exact t.x0m 0 0 []
 ·intro p hp;exact(Classical.choose_spec (g p) hp).2.2.2.2.2.2.1
 ·intro p hp;exact(Classical.choose_spec (g p) hp).2.2.2.2.2.1
 ·have k:b0k l=G2 l l.length:=by simp[b0k,hR]
  obtain⟨h1,w⟩:=Old.u0E hw d hR i;obtain⟨u,s⟩:=Old.A0f hw d hR i d.at0;have n:((t.top 0:Nat):Int)=(l.length:Int)-1:=by have:=t.size_pos;unfold Tm.top;omega
  rw[n]at u s;exact⟨(by rw[Old.c0y l O',hR]),(by rw[Old.e02 l hl f,hR]),(by rw[Old.l07 hw O',k]),(by rw[Old.y0w hw hl O' f,k]),
   u,s,h1,w,
   fun p hp=>((Classical.choose_spec (g p) hp).2.2.2.2.2.2.2 F i f).1,fun p hp=>((Classical.choose_spec (g p) hp).2.2.2.2.2.2.2 F i f).2.1,fun p hp=>((Classical.choose_spec (g p) hp).2.2.2.2.2.2.2 F i f).2.2.1,fun p hp=>((Classical.choose_spec (g p) hp).2.2.2.2.2.2.2 F i f).2.2.2⟩
end Go.Proofs.YtihmgaccbcfgjaaGreat
