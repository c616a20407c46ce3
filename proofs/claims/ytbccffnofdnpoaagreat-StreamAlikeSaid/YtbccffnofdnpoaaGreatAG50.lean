/- P. Its conditions: none. -/
import Derived.Test.YtbccffnofdnpoaaGreatAG49
import Derived.Test.YtbccffnofdnpoaaGreatAG47
import Derived.Test.YtbccffnofdnpoaaGreatAG48
import Derived.Test.YtbccffnofdnpoaaGreatAG46
open Bool (false_eq_true)
open Int (toNat_natCast)
open List (length_replicate length_singleton getElem_map length_map)
set_option linter.all false
namespace Go.Proofs.YtbccffnofdnpoaaGreat.Mv
open Go.V Go.RowKit Go.X
variable {F:Nat}
def s0m {B:Int}{m:Nat}{tk:List Bool}{a:List Int}(h:HI B m tk a){k n:Int}(f:0<=n)(h1:n<1217)(hk:0<=k/\k<(m:Int)):
  i0n F (tk,a) k n=some (if n∈a then(false,(tk,a))else(true,(tk.set n.toNat true,a.set k.toNat n))):=by
 have j:=h.al;have g:C0 a k=true:=R0 hk.1 O';have hd:(decide (0<=n)&&decide (n<1217))=true:=by simp[f,h1]
 unfold i0n
 by_cases c:n∈a
 ·simp only[hd,if_true,(h.tk n f h1).2 c,c]
 ·have o:gt tk n=false:=by
   cases q:gt tk n with
   |false=>rfl
   |true=>exact absurd ((h.tk n f h1).1 q) c
  simp only[q0,hd,o,g,c]
def H0X {B:Int}{m:Nat}{tk:List Bool}{a:List Int}(h:HI B m tk a)(hm:m<=1000)(j:(m:Int)<=B)(o:5000<F){k:Nat}(hk:k<m)(hn:gt a (k:Int)<0):
  ∃n:Nat,n<m/\(n:Int)∉a/\k0G F (tk,a) (k:Int)=some (tk.set n true,a.set k (n:Int)):=by
 obtain⟨n,g,c,f⟩:=h.free hk hn;have hl:=b0i (body:=j0u F (k:Int)) n (fun i=>((i:Int),(tk,a))) (tk.set n true,a.set k (n:Int)) (fun i hi=>by
  unfold j0u;simp only[q0,s0m (F:=F) h (k:=(k:Int)) (n:=(i:Int)) O' O' O',f i hi,Ws (show i<=1000000 from O')]) (by
  unfold j0u;simp only[q0,s0m (F:=F) h (k:=(k:Int)) (n:=(n:Int)) O' O' O',c,toNat_natCast]) (fu:=F) O'
 have hl:iter (j0u F (k:Int)) F (0,(tk,a))=_:=hl;refine⟨n,g,c,?_⟩;unfold k0G;simp only[hl,F0]
def v0n {a:List Int}{k:Nat}{v:Int}{j:Nat}(hk:k<a.length)(f:j<a.length):gt (a.set k v) (j:Int)=if j=k then v else gt a (j:Int):=by
 have:=b0S (l:=a) (i:=(k:Int)) (v:=v) (j:=(j:Int)) O' O' O' O';rw[toNat_natCast]at this;rw[this]
 by_cases c:j=k
 ·rw[if_pos c,if_pos O']
 ·rw[if_neg c,if_neg O']
def N0I {from_:List Int}{x:I6}{B:Int}(hF:5000<F)(hl:x.Src.length<=400)(hB:(x.Src.length:Int)<=B)(b3:B<=1217)(o:∀n∈x.Src,n<(from_.length:Int))(J:∀v∈from_,0<=v/\v<B):
  ∃h,k0w F from_ x=some h/\s8 B x.Src.length h:=by
 have t:g0u F [(-1)] (x.Src.length:Int)=some (List.replicate x.Src.length (-1)):=by
  have:(decide (0<=(x.Src.length:Int))&&decide ((x.Src.length:Int)<=1000))=true:=by simp;omega
  unfold g0u h0a;simp only[this,if_true,toNat_natCast]
 obtain⟨⟨U,w⟩,h1,H1⟩:=c0q (body:=g0x F from_ x) (fun s=>∃k:Nat,k<=x.Src.length/\s.1=(k:Int)/\HI B x.Src.length s.2.1 s.2.2/\∀j:Nat,k<=j->j<x.Src.length->gt s.2.2 (j:Int)=-1) (fun s=>(x.Src.length-s.1).toNat) (fun r=>HI B x.Src.length r.1 r.2) (fun s hs=>by
  obtain⟨i,tk,a⟩:=s;obtain⟨k,hk,e,h,f⟩:=hs;simp only at e h f;subst e;have I:=h.al
  by_cases c:k<x.Src.length
  ·left;have b2:=f k (Nat.le_refl _) c;have q:=o _ (P4 c)
   by_cases c0:0<=gt x.Src (k:Int)
   ·have R:=J _ (B8 c0 q);have g:C0 from_ (gt x.Src (k:Int))=true:=R0 c0 q;have e0:decide (gt x.Src (k:Int)>=0)=true:=by simpa using c0
    have y:=s0m (F:=F) h (k:=(k:Int)) R.1 O' O'
    by_cases c1:gt from_ (gt x.Src (k:Int))∈a
    ·refine⟨(((k+1:Nat):Int),(tk,a)),?_,⟨k+1,c,rfl,h,fun j C m=>f j O' m⟩,by simp only;omega⟩;rw[if_pos c1]at y;unfold g0x;simp only[q0,dec_lt c,Q4,c,e0,g,y,Ws (show k<=1000000 from O')]
    ·rw[if_neg c1]at y;refine⟨(((k+1:Nat):Int),(tk.set (gt from_ (gt x.Src (k:Int))).toNat true,a.set k (gt from_ (gt x.Src (k:Int))))),?_,⟨k+1,c,rfl,h.set c O' R.1 R.2 O' c1,fun j C m=>?_⟩,by simp only;omega⟩
     ·unfold g0x;simp only[q0,dec_lt c,Q4,c,e0,g,y,Ws (show k<=1000000 from O'),toNat_natCast]
     ·simp only;rw[v0n O' O',if_neg O'];exact f j O' m
   ·have e0:decide (gt x.Src (k:Int)>=0)=false:=by simpa using c0
    refine⟨(((k+1:Nat):Int),(tk,a)),?_,⟨k+1,c,rfl,h,fun j C m=>f j O' m⟩,by simp only;omega⟩;unfold g0x;simp only[q0,dec_lt c,Q4,c,e0,Ws (show k<=1000000 from O')]
  ·right;have:k=x.Src.length:=O'
   subst this;exact⟨(tk,a),by unfold g0x;simp,h⟩) F (0,(List.replicate 1217 false,List.replicate x.Src.length (-1))) ⟨0,Nat.zero_le _,rfl,HI.zero B _,fun j _ hj=>by
    rw[S6 (by rw[length_replicate];exact hj),List.getElem_replicate]⟩ (by simp only;omega)
 have u:w.length=x.Src.length:=H1.al;obtain⟨⟨b1,a2⟩,h2,H2,d2⟩:=c0q (body:=h0R F w) (fun s=>∃k:Nat,k<=x.Src.length/\s.1=(k:Int)/\HI B x.Src.length s.2.1 s.2.2/\∀j:Nat,j<k->0<=gt s.2.2 (j:Int)) (fun s=>(x.Src.length-s.1).toNat) (fun r=>HI B x.Src.length r.1 r.2/\∀j:Nat,j<x.Src.length->0<=gt r.2 (j:Int)) (fun s hs=>by
  obtain⟨i,tk,a⟩:=s;obtain⟨k,hk,e,h,f⟩:=hs;simp only at e h f;subst e;have I:=h.al
  by_cases c:k<x.Src.length
  ·left;have c':k<w.length:=O'
   have c2:k<a.length:=O'
   by_cases c0:gt a (k:Int)<0
   ·obtain⟨n,n1,n2,n3⟩:=H0X (F:=F) h O' hB hF c c0;refine⟨(((k+1:Nat):Int),(tk.set n true,a.set k (n:Int))),?_,⟨k+1,c,rfl,?_,fun j C=>?_⟩,by simp only;omega⟩
    ·unfold h0R;simp only[q0,dec_lt c',Q4,c2,c0,n3,Ws (show k<=1000000 from O')]
    ·have:=h.set c c0 (v:=(n:Int)) O' O' O' n2
     rwa [toNat_natCast]at this
    ·simp only;rw[v0n c2 O']
     by_cases e:j=k
     ·rw[if_pos e];omega
     ·rw[if_neg e];exact f j O'
   ·refine⟨(((k+1:Nat):Int),(tk,a)),?_,⟨k+1,c,rfl,h,fun j C=>?_⟩,by simp only;omega⟩
    ·unfold h0R;simp only[q0,dec_lt c',Q4,c2,c0,Ws (show k<=1000000 from O')]
    ·by_cases e:j=k
     ·subst e;simp only;omega
     ·exact f j O'
  ·right;have:k=x.Src.length:=O'
   subst this;exact⟨(tk,a),by unfold h0R;simp[u],h,f⟩) F (0,(U,w)) ⟨0,Nat.zero_le _,rfl,H1,fun j hj=>O'⟩ (by simp only;omega)
 refine⟨a2,?_,H2.home d2⟩;unfold k0w;simp only[t,h1,h2,F0]
def n0d {n:Int}(c:0<=n)(h1:n<=1000)(f:5000<F):j0t F n=some (d0L n.toNat):=by
 obtain⟨k,rfl⟩:∃k:Nat,n=(k:Int):=⟨n.toNat,O'⟩
 have h:=b0i (body:=j0K F (k:Int)) k (fun i=>((List.range i).map fun i:Nat=>(i:Int),(i:Int))) (d0L k) (fun i hi=>by
  unfold j0K;simp only[dec_lt hi,if_true,Ws (show i<=1000000 from O')];rw[if_pos (W4 Z'),List.range_succ,List.map_append];rfl) (by unfold j0K;simp[d0L]) (fu:=F) O'
 have h:iter (j0K F (k:Int)) F ([],0)=_:=h;unfold j0t;simp only[h,F0,toNat_natCast]
def U9 (l:List Bool):Nat:=l.countP (!·)
theorem e0a:∀{l:List Bool} {i:Nat},i<l.length->l[i]?=some false->U9 (l.set i true)+1=U9 l
 |[],i,h,_=>by simp at h
 |b :: l,0,_,e=>by cases e;simp[U9]
 |b :: l,i+1,h,e=>by
  have:=e0a (l:=l) (i:=i) (by simpa using h) (by simpa using e);unfold U9 at *;rw[List.set_cons_succ,List.countP_cons,List.countP_cons];omega
def z7 (d:E4)(v:Int):Int:=(gt d.States v).Regs
structure BI (d:E4)(B:Int)(todo:List Int)(out:List (List Int))(come:List Bool):Prop where
 l1:out.length=d.States.length
 l2:come.length=d.States.length
 td:∀v∈todo,(0<=v/\v<d.States.length)/\gt come v=true
 hm:∀v:Int,0<=v->v<d.States.length->gt come v=true->s8 B (z7 d v) (gt out v)
def F0S {d:E4}(R:RdD d){B:Int}(hB:∀s∈d.States,s.Regs<=B)(b3:B<=1217)(hF:5000<F){cur:Int}{r:List Int}{out:List (List Int)}{g:List Bool}(h:BI d B (cur :: r) out g)(hc:U9 g+(cur :: r).length<=d.States.length):
  ∃t j f,iter (f0M F d (cur :: r) ((gt d.States cur).Edges.length:Int)) F (cur :: r,0,out,g)=some (cur :: (r++t),j,f)/\BI d B (cur :: (r++t)) j f/\U9 f+(cur :: (r++t)).length=U9 g+(cur :: r).length:=by
 have hN:=R.sm.st;obtain⟨⟨k0,k1⟩,_⟩:=h.td cur V';have hs:=B8 k0 k1;have c3:=R.sm.ed _ hs;have e0:∀t:List Int,gt (cur :: t) 0=cur:=fun t=>rfl;obtain⟨⟨c4,j,f⟩,h1,⟨t,U⟩,h2,h3⟩:=c0q (body:=f0M F d (cur :: r) ((gt d.States cur).Edges.length:Int))
  (fun s=>∃k:Nat,k<=(gt d.States cur).Edges.length/\s.2.1=(k:Int)/\(∃t,s.1=cur :: (r++t))/\BI d B s.1 s.2.2.1 s.2.2.2/\U9 s.2.2.2+s.1.length=U9 g+(cur :: r).length) (fun s=>((gt d.States cur).Edges.length-s.2.1).toNat)
  (fun q=>(∃t,q.1=cur :: (r++t))/\BI d B q.1 q.2.1 q.2.2/\U9 q.2.2+q.1.length=U9 g+(cur :: r).length) (fun s a1=>by
  obtain⟨td,x,o,w⟩:=s;obtain⟨k,hk,e,⟨t,U⟩,m,u⟩:=a1;simp only at e U m u;subst e;subst U
  by_cases c:k<(gt d.States cur).Edges.length
  ·left;have hx:=R.to _ hs _ (P4 c);have J:=R.sm.sr _ hs _ (P4 c);generalize C:gt (gt d.States cur).Edges (k:Int)=x at hx J;have l1:=m.l1;have l2:=m.l2
   by_cases c0:0<=x.To
   ·have hx:=hx.resolve_left (fun q=>O');obtain⟨_,g1,g2,g3⟩:=hx;have n2:C0 w x.To=true:=R0 c0 O';have n1:C0 o x.To=true:=R0 c0 O';have d0:decide (x.To>=0)=true:=by simpa using c0
    cases I:gt w x.To with
    |false=>
     have y:=m.hm cur k0 k1 (m.td cur V').2;have hl:=y.len;have c5:=hB _ (B8 c0 g1);obtain⟨hv,v1,v2⟩:=N0I (F:=F) (from_:=gt o cur) (x:=x) (B:=B) hF J O' b3 (fun n hn=>by have:=g3 n hn;unfold z7 at hl;have:=R.rg _ hs;omega) y.rng;have n3:C0 (cur :: (r++t)) 0=true:=R0 O' Z';have n4:C0 o cur=true:=R0 k0 O';have b2:J0 8 (cur :: (r++t)) [x.To]=true:=W4 (by simp only[length_singleton];omega);have hq:gt w ((x.To.toNat:Nat):Int)=w[x.To.toNat]' O':=S6 O';rw[show((x.To.toNat:Nat):Int)=x.To from O',I]at hq;have b4:=e0a (l:=w) (i:=x.To.toNat) O' (by rw[List.getElem?_eq_getElem O',<-hq]);refine⟨((cur :: (r++t))++[x.To],((k+1:Nat):Int),o.set x.To.toNat hv,w.set x.To.toNat true),?_,⟨k+1,c,rfl,⟨t++[x.To],V'⟩,⟨by simpa using l1,by simpa using l2,fun v b1=>?_,fun v p0 p1 p2=>?_⟩,?_⟩,by simp only;omega⟩
     ·unfold f0M;simp only[q0,e0,dec_lt c,Q4,c,C,d0,n2,I,n3,n4,v1,n1,b2,Ws (show k<=1000000 from O')]
     ·rcases List.mem_append.1 b1 with q|q
      ·obtain⟨q1,q2⟩:=m.td v q;refine⟨q1,?_⟩;simp only;rw[b0S c0 O' q1.1 O',q2];split<;>rfl
      ·rw[List.mem_singleton]at q;subst q;refine⟨⟨c0,g1⟩,?_⟩;simp only;rw[b0S c0 O' c0 O',if_pos rfl]
     ·simp only at p2 ⊢;rw[b0S c0 O' p0 O']at p2 ⊢
      by_cases e:v=x.To
      ·rw[if_pos e,e];have:z7 d x.To=x.Src.length:=g2.symm;rw[this];exact v2
      ·rw[if_neg e]at p2 ⊢;exact m.hm v p0 p1 p2
     ·simp only[List.length_append,length_singleton];omega
    |true=>
     refine⟨(cur :: (r++t),((k+1:Nat):Int),o,w),?_,⟨k+1,c,rfl,⟨t,rfl⟩,m,u⟩,by simp only;omega⟩;unfold f0M;simp only[q0,e0,dec_lt c,Q4,c,C,d0,n2,I,Ws (show k<=1000000 from O')]
   ·have d0:decide (x.To>=0)=false:=by simpa using c0
    refine⟨(cur :: (r++t),((k+1:Nat):Int),o,w),?_,⟨k+1,c,rfl,⟨t,rfl⟩,m,u⟩,by simp only;omega⟩;unfold f0M;simp only[q0,e0,dec_lt c,Q4,c,C,d0,Ws (show k<=1000000 from O')]
  ·right;have:k=(gt d.States cur).Edges.length:=O'
   subst this;exact⟨(cur :: (r++t),o,w),by unfold f0M;simp,⟨t,rfl⟩,m,u⟩) F (cur :: r,0,out,g) ⟨0,Nat.zero_le _,rfl,⟨[],V'⟩,h,rfl⟩ (by simp only;omega)
 simp only at U h2 h3;subst U;exact⟨t,j,f,h1,h2,h3⟩
def s8.mono {B C r:Int}{h:List Int}(c:s8 B r h)(g:B<=C):s8 C r h:=⟨c.len,c.nd,fun v f=>by have:=c.rng v f;omega⟩
def E01 {y:List (List Int)}{i:Nat}{B m0:Int}(J:5000<F)(hl:(gt y (i:Int)).length<=1000)(I:B<=1217)(C:0<=m0)(hm:m0<=B)(h:∀v∈gt y (i:Int),0<=v/\v<B):
  ∃m1,iter (k0r F (i:Int) y) F (m0,0)=some m1/\m0<=m1/\m1<=B/\∀v∈gt y (i:Int),v<m1:=by
 obtain⟨m1,h1,t,g,o⟩:=c0q (body:=k0r F (i:Int) y) (fun s=>∃k:Nat,k<=(gt y (i:Int)).length/\s.2=(k:Int)/\m0<=s.1/\s.1<=B/\∀j:Nat,j<k->gt (gt y (i:Int)) (j:Int)<s.1) (fun s=>((gt y (i:Int)).length-s.2).toNat) (fun r=>m0<=r/\r<=B/\∀j:Nat,j<(gt y (i:Int)).length->gt (gt y (i:Int)) (j:Int)<r) (fun s hs=>by
  obtain⟨m,x⟩:=s;obtain⟨k,hk,e,g1,g2,g3⟩:=hs;simp only at e g1 g2 g3;subst e
  by_cases c:k<(gt y (i:Int)).length
  ·left;have f:=h _ (P4 c);have u:W (gt (gt y (i:Int)) (k:Int)+1)=gt (gt y (i:Int)) (k:Int)+1:=J3 O' O';refine⟨(if gt (gt y (i:Int)) (k:Int)+1>m then gt (gt y (i:Int)) (k:Int)+1 else m,((k+1:Nat):Int)),?_,⟨k+1,c,rfl,?_,?_,fun j w=>?_⟩,by simp only;omega⟩
   ·unfold k0r;simp only[dec_lt c,Q4,c,decide_true,if_true,u,Ws (show k<=1000000 from O')]
   ·simp only;split<;>omega
   ·simp only;split<;>omega
   ·simp only
    by_cases e:j=k
    ·subst e;split<;>omega
    ·have:=g3 j O';split<;>omega
  ·right;have:k=(gt y (i:Int)).length:=O'
   subst this;exact⟨m,by unfold k0r;simp,g1,g2,g3⟩) F (m0,0) ⟨0,Nat.zero_le _,rfl,Int.le_refl _,hm,fun j w=>O'⟩ (by simp only;omega)
 exact⟨m1,h1,t,g,fun v f=>by obtain⟨j,q,rfl⟩:=mgt f;exact o j q⟩
def M0v {d:E4}(J:RdD d)(hr:d0j d=true){B:Int}(c4:0<=B)(hB:∀s∈d.States,s.Regs<=B)(e1:B<=1000)(hF:5000<F):
  ∃H many,n0C F d=some (H,many)/\H.length=d.States.length/\0<=many/\many<=B/\∀i:Nat,i<d.States.length->s8 many (z7 d i) (gt H (i:Int)):=by
 have hN:=J.sm.st;have w:=J.pos;have b1:gt ((List.replicate d.States.length false).set 0 true) 0=true:=by
  have:=b0S (l:=List.replicate d.States.length false) (i:=0) (v:=true) (j:=0) O' (by rw[length_replicate];omega) O' (by rw[length_replicate];omega);simpa using this
 have c6:U9 ((List.replicate d.States.length false).set 0 true)+1=d.States.length:=by
  rw[e0a (by rw[length_replicate];exact w) (by rw[List.getElem?_replicate,if_pos w])];simp[U9,List.countP_replicate]
 obtain⟨⟨out,f⟩,h1,o1,o2,o3⟩:=c0q (body:=l0U F d) (fun s=>BI d B s.1 s.2.1 s.2.2/\U9 s.2.2+s.1.length<=d.States.length) (fun s=>U9 s.2.2+s.1.length) (fun q=>q.1.length=d.States.length/\q.2.length=d.States.length/\∀v:Int,0<=v->v<d.States.length->gt q.2 v=true->s8 B (z7 d v) (gt q.1 v)) (fun s hs=>by
  obtain⟨td,o,cm⟩:=s;obtain⟨I,C⟩:=hs;simp only at I C;cases td with
  |nil=>exact .inr ⟨(o,cm),by unfold l0U;simp,I.l1,I.l2,I.hm⟩
  |cons cur r=>
   left;obtain⟨⟨k0,k1⟩,_⟩:=I.td cur V';obtain⟨t,o2,a1,q1,R,q3⟩:=F0S (F:=F) J hB O' hF I C;have n1:C0 (cur :: r) 0=true:=R0 O' V';have n2:C0 d.States cur=true:=R0 k0 k1;have e0:gt (cur :: r) 0=cur:=rfl;have hd:decide (((cur :: r).length:Int)>0)=true:=by simp;try omega
   have c5:b5 (cur :: (r++t)) 1 ((cur :: (r++t)).length:Int)=true:=by unfold b5;simp;try omega
   have U:U1 (cur :: (r++t)) 1 ((cur :: (r++t)).length:Int)=r++t:=by
    unfold U1;show List.take _ (List.drop 1 (cur :: (r++t)))=_;rw[List.drop_one,List.tail_cons];exact List.take_of_length_le (by simp;try omega)
   refine⟨(r++t,o2,a1),?_,⟨⟨R.l1,R.l2,fun v g=>R.td v (List.mem_cons_of_mem _ g),R.hm⟩,?_⟩,?_⟩
   ·unfold l0U;simp only[hd,if_true,n1,e0,n2,q1,F0,c5,U]
   ·simp only[List.length_cons]at q3 C ⊢;omega
   ·simp only[List.length_cons]at q3 ⊢;omega) F ([0],List.replicate d.States.length [],(List.replicate d.States.length false).set 0 true) ⟨⟨V',V',fun v g=>by
    rw[List.mem_singleton]at g;subst g;exact⟨⟨O',O'⟩,b1⟩,fun v v0 v1 g=>by
    rw[show(0:Nat)=(0:Int).toNat from rfl,b0S O' Z' v0 Z']at g
    by_cases e:v=0
    ·subst e;have b2:z7 d 0=0:=J.r0;rw[b2,show gt (List.replicate d.States.length ([]:List Int)) 0=[]from by
      have:=S6 (l:=List.replicate d.States.length ([]:List Int)) (i:=0) Z';simpa using this]
     exact⟨rfl,List.nodup_nil,fun v g=>by cases g⟩
    ·rw[if_neg e]at g;obtain⟨n,rfl⟩:∃n:Nat,v=(n:Int):=⟨v.toNat,O'⟩
     rw[S6 (by rw[length_replicate];omega),List.getElem_replicate]at g;cases g⟩,by simp only[length_singleton];omega⟩ (by simp only[length_singleton];omega)
 simp only at o1 o2 o3;obtain⟨⟨many,H⟩,h2,p0,p1,p2,p3⟩:=c0q (body:=n0g F d f) (fun s=>∃k:Nat,k<=d.States.length/\s.2.1=(k:Int)/\0<=s.1/\s.1<=B/\s.2.2.length=d.States.length/\(∀i:Nat,i<k->s8 s.1 (z7 d i) (gt s.2.2 (i:Int)))/\∀i:Nat,k<=i->i<d.States.length->gt f (i:Int)=true->s8 B (z7 d i) (gt s.2.2 (i:Int))) (fun s=>(d.States.length-s.2.1).toNat) (fun q=>0<=q.1/\q.1<=B/\q.2.length=d.States.length/\∀i:Nat,i<d.States.length->s8 q.1 (z7 d i) (gt q.2 (i:Int))) (fun s hs=>by
  obtain⟨m,x,y⟩:=s;obtain⟨k,hk,e,m0,m1,yl,g1,g2⟩:=hs;simp only at e m0 m1 yl g1 g2;subst e
  by_cases c:k<d.States.length
  ·left;have hs:=P4 (l:=d.States) c;have b3:=J.rg _ hs;have c8:=hB _ hs;have cc:k<f.length:=O'
   have cy:k<y.length:=O'
   obtain⟨u,e2,b4,gk,gj⟩:∃u:List (List Int),(if !(gt f (k:Int))then Option.bind (j0t F (gt d.States (k:Int)).Regs) (fun own=>if C0 y (k:Int)then some (y.set (k:Int).toNat own)else none)else some y)=some u/\u.length=d.States.length/\s8 B (z7 d k) (gt u (k:Int))/\∀j:Nat,j<d.States.length->j≠k->gt u (j:Int)=gt y (j:Int):=by
    cases hc:gt f (k:Int)with
    |true=>exact⟨y,rfl,yl,g2 k (Nat.le_refl _) c hc,fun _ _ _=>rfl⟩
    |false=>
     have c3:C0 y (k:Int)=true:=R0 O' O';refine⟨y.set k (d0L (gt d.States (k:Int)).Regs.toNat),by simp only[q0,n0d (F:=F) b3 O' hF,c3,toNat_natCast],by simpa using yl,?_,fun j j1 j2=>?_⟩
     ·have:=b0S (l:=y) (i:=(k:Int)) (v:=d0L (gt d.States (k:Int)).Regs.toNat) (j:=(k:Int)) O' O' O' O';rw[toNat_natCast,if_pos rfl]at this;rw[this];have:=A0X (B:=B) (n:=(gt d.States (k:Int)).Regs.toNat) O'
      rwa [show(((gt d.States (k:Int)).Regs.toNat:Nat):Int)=z7 d k by unfold z7;omega]at this
     ·have:=b0S (l:=y) (i:=(k:Int)) (v:=d0L (gt d.States (k:Int)).Regs.toNat) (j:=(j:Int)) O' O' O' O';rw[toNat_natCast,if_neg O']at this;exact this
   simp only[Q4]at e2;have hl:=gk.len;have hn:C0 u (k:Int)=true:=R0 O' O';obtain⟨m2,q1,R,q3,q4⟩:=E01 (F:=F) (y:=u) (i:=k) (B:=B) (m0:=m) hF (by unfold z7 at hl;omega) O' m0 m1 gk.rng;refine⟨(m2,((k+1:Nat):Int),u),?_,⟨k+1,c,rfl,by simp only;omega,q3,b4,fun j hj=>?_,fun j j1 j2 j3=>?_⟩,by simp only;omega⟩
   ·unfold n0g;simp only[q0,dec_lt c,Q4,c,cc,e2,show k<u.length from O',q1,Ws (show k<=1000000 from O')]
   ·simp only
    by_cases e:j=k
    ·subst e;exact⟨gk.len,gk.nd,fun v g=>⟨(gk.rng v g).1,q4 v g⟩⟩
    ·rw[gj j O' e];exact(g1 j O').mono R
   ·simp only;rw[gj j j2 O'];exact g2 j O' j2 j3
  ·right;have:k=d.States.length:=O'
   subst this;exact⟨(m,y),by unfold n0g;simp,m0,m1,yl,g1⟩) F (0,0,out) ⟨0,Nat.zero_le _,rfl,Int.le_refl _,c4,o1,fun i hi=>O',fun i _ hi hc=>o3 i O' O' hc⟩ (by simp only;omega)
 refine⟨H,many,?_,p2,p0,p1,p3⟩;have k1:F4 24 (d.States.length:Int)=true:=by unfold F4;simp;omega
 have k2:F4 1 (d.States.length:Int)=true:=by unfold F4;simp;omega
 have k3:C0 (List.replicate d.States.length false) 0=true:=R0 O' Z';unfold n0C;simp only[q0,D0g d J.sm (show 2000<F from O'),hr,k1,k2,toNat_natCast,k3,show(0:Int).toNat=0 from rfl,h1,h2]
end Go.Proofs.YtbccffnofdnpoaaGreat.Mv
namespace Go.Proofs.YtbccffnofdnpoaaGreat
open Go.V Go.RowKit Old Go.X
open Classical
def u0U {α β:Type}[Inhabited α][Inhabited β](f:α->β){l:List α}{i:Int}(c:0<=i)(h:i<(l.length:Int)):gt (l.map f) i=f (gt l i):=by
 obtain⟨k,rfl⟩:∃k:Nat,i=(k:Int):=⟨i.toNat,O'⟩
 have hk:k<l.length:=O'
 rw[P2 (x:=(l.map f)[k]'(by simpa using hk)) (by simp[hk]),P2 (x:=l[k]) (by simp[hk]),getElem_map]
def C7 (h:List Int)(v:Int):Int:=if v<0 then v else gt h v
structure h0k (d:E4)(p:N1)(H:Int->List Int):Prop where
 cls:p.Class=d.Class
 hom:∀q:Int,0<=q->q<d.States.length->((H q).length:Int)=(gt d.States q).Regs/\∀v∈H q,0<=v
 acc:∀q:Int,0<=q->q<d.States.length->(gt p.Stands q).Accept=(gt d.States q).Accept.map (C7 (H q))
 way:∀q:Int,0<=q->q<d.States.length->∀c:Nat,c<(gt d.States q).Edges.length->(gt (gt p.Stands q).B2 (c:Int)).To=(gt (gt d.States q).Edges (c:Int)).To/\
  (0<=(gt (gt d.States q).Edges (c:Int)).To->(gt (gt d.States q).Edges (c:Int)).To<d.States.length/\((gt (gt d.States q).Edges (c:Int)).Src.length:Int)=(gt d.States (gt (gt d.States q).Edges (c:Int)).To).Regs/\
   ∀now regs,(regs.length:Int)=p.Regs->∀k:Nat,k<(gt (gt d.States q).Edges (c:Int)).Src.length->
    gt (Pr.Y3 now regs (gt (gt p.Stands q).B2 (c:Int)).Moves) (gt (H (gt (gt d.States q).Edges (c:Int)).To) (k:Int))=if gt (gt (gt d.States q).Edges (c:Int)).Src (k:Int)=-1 then now else gt regs (gt (H q) (gt (gt (gt d.States q).Edges (c:Int)).Src (k:Int))))
def K0b {hs regs row V:List Int}{at_:Int}(j:∀v∈hs,0<=v)(h:Q7 (a0Q (hs.map (gt regs)) at_) row V):(row.map (C7 hs)).map (Pr.a0s at_ regs)=V:=by
 obtain⟨h1,q⟩:=h;refine List.ext_getElem (by simp[h1]) fun i o i2=>?_;have hi:i<row.length:=by simpa using o
 have g:=q i hi;have m:gt row (i:Int)=row[i]:=P2 (List.getElem?_eq_getElem hi);have k:gt V (i:Int)=V[i]:=P2 (List.getElem?_eq_getElem i2);rw[m,k]at g;rw[getElem_map,getElem_map];unfold Pr.a0s C7;rcases g with⟨f,c⟩|⟨f,c⟩|⟨f,c,q3⟩
 ·rw[f,c];rfl
 ·rw[f,c];rfl
 ·rw[length_map]at c;have s:=j _ (B8 f c);rw[if_neg (show ¬row[i]<0 from O'),if_neg O',if_neg O',q3,u0U _ f c]
section
variable {F:Nat}{l:List D0}{n:Nat}{a:List B0}{b:Nat->List B0}{e:Nat->B0×Bool}{z:B0×Bool}{mode:Int}
structure Mch (F:Nat)(l:List D0)(n:Nat)(mode:Int)(cls:List Int)(L:List Y1)(d:E4):Prop where
 ed:d=b0k (V5 F) (V6 F l) (K1 F l mode (O0 cls)) (O0 cls).length (Z2 l) cls L
 cl:∀x,J4 .u8 x->∃c:Nat,gt cls x=(c:Int)/\c<(O0 cls).length/\J4 .u8 (gt (O0 cls) (c:Int))/\∀r,r<n->X1 l (gt (O0 cls) (c:Int)) r=X1 l x r
 nx:∀k∈L,∀c,c<(O0 cls).length->∀x s,K1 F l mode (O0 cls) k c=some (x,s)->x∈L
theorem Mch.at {cls:List Int}{L:List Y1}{d:E4}(M:Mch F l n mode cls L d){k:Y1}(hk:k∈L):((l5 L k:Nat):Int)<d.States.length/\gt d.States ((l5 L k:Nat):Int)=r8 (V5 F) (V6 F l) (K1 F l mode (O0 cls)) (O0 cls).length L k:=by
 rw[M.ed];have hp:=g0i hk;have e:(L.map (r8 (V5 F) (V6 F l) (K1 F l mode (O0 cls)) (O0 cls).length L))[l5 L k]?=some (r8 (V5 F) (V6 F l) (K1 F l mode (O0 cls)) (O0 cls).length L k):=by rw[List.getElem?_map,hp];rfl
 have c:l5 L k<L.length:=(List.getElem?_eq_some_iff.1 hp).1;refine⟨?_,P2 e⟩;show((l5 L k:Nat):Int)<((L.map _).length:Int);rw[length_map];omega
def Mch.d0v (K:Y2 l n a b e z F)(hw:∀x∈l,V2 x)(hm:mode=0\/mode=1){cls:List Int}{L:List Y1}{d:E4}(M:Mch F l n mode cls L d){kd:Kd}{R:Nat}(hk:KOk F l n kd R)(s:kd.K∈L){q:Int}(v:q=((l5 L kd.K:Nat):Int)){x:Int}(u:J4 .u8 x):
  KOk F l n (kd.next l n a b e mode x) (kd.src l n a b e mode x).length/\∃c:Nat,gt d.Class x=(c:Int)/\c<(gt d.States q).Edges.length/\(((kd.next l n a b e mode x).pl=[]/\(kd.next l n a b e mode x).flag=0/\gt (gt d.States q).Edges (c:Int)=⟨-1,[]⟩)\/(¬((kd.next l n a b e mode x).pl=[]/\(kd.next l n a b e mode x).flag=0)/\(kd.next l n a b e mode x).K∈L/\gt (gt d.States q).Edges (c:Int)=⟨((l5 L (kd.next l n a b e mode x).K:Nat):Int),kd.src l n a b e mode x⟩)):=by
 obtain⟨c0,c1,c2,c3,c4⟩:=M.cl x u;obtain⟨k,t,_⟩:=w0x (b_:=gt (O0 cls) (c0:Int)) (mode:=mode) K hw hk hm c3;obtain⟨g1,g2⟩:=E0T (a:=a) (b:=b) (e:=e) c4 mode kd;rw[g1,g2]at k t;have m:d.Class=cls:=by rw[M.ed];rfl
 have f:=(M.at s).2;rw[<-v]at f;have w:(gt d.States q).Edges.length=(O0 cls).length:=by rw[f];show(List.map _ _).length=_;simp
 have g:gt (gt d.States q).Edges (c0:Int)=W7 (K1 F l mode (O0 cls)) L kd.K c0:=by
  rw[f];show gt ((List.range _).map _) (c0:Int)=_;refine P2 ?_;rw[List.getElem?_map,List.getElem?_range c2];rfl
 refine⟨t,c0,by rw[m,c1],O',?_⟩;have j:(((kd.next l n a b e mode x).K.Places.length:Int)==0&&(kd.next l n a b e mode x).K.Flag==0)=true↔((kd.next l n a b e mode x).pl=[]/\(kd.next l n a b e mode x).flag=0):=by
  have:(kd.next l n a b e mode x).K.Places.length=(kd.next l n a b e mode x).pl.length:=c0Q _;rw[this,Bool.and_eq_true,beq_iff_eq,beq_iff_eq];constructor
  ·rintro⟨h1,o⟩;exact⟨List.eq_nil_of_length_eq_zero O',o⟩
  ·rintro⟨h1,o⟩;exact⟨by rw[h1];rfl,o⟩
 by_cases hs:(kd.next l n a b e mode x).pl=[]/\(kd.next l n a b e mode x).flag=0
 ·refine .inl ⟨hs.1,hs.2,?_⟩;rw[g];unfold W7 K1;rw[k];simp only;rw[if_pos (j.2 hs)]
 ·have hn:K1 F l mode (O0 cls) kd.K c0=some ((kd.next l n a b e mode x).K,kd.src l n a b e mode x):=by
   unfold K1;rw[k];simp only;rw[if_neg (fun h=>hs (j.1 h))]
  refine .inr ⟨hs,M.nx _ s c0 c2 _ _ hn,?_⟩;rw[g];unfold W7;rw[hn]
def f0w (r:Pr.RS)(h:Hs):Prop:=if h.is=true then r.tags=h.tags/\r.to=h.to else r.tags=[]
structure T8 (F:Nat)(l:List D0)(n:Nat)(e:Nat->B0×Bool)(z:B0×Bool)(L:List Y1)(H:Int->List Int)(r:Pr.RS)(h:Hs)(i:Nat):Prop where
 at_:r.at_=(i:Int)
 ls:f0w r h
 st:(∃kd R,KOk F l n kd R/\kd.K∈L/\r.stand=((l5 L kd.K:Nat):Int)/\l6 l n e z h kd ((H r.stand).map (gt r.regs)) i/\(i≠0->¬(h.is=true/\h.c.pl=[])))\/(r.stand=-1/\h.is=true/\h.c.pl=[]/\i≠0/\P7 l n h i)
variable {cls:List Int}{L:List Y1}{d:E4}{p:N1}{H:Int->List Int}{r:Pr.RS}{h:Hs}{i:Nat}
def t0Q (K:Y2 l n a b e z F)(M:Mch F l n mode cls L d)(P:h0k d p H){kd:Kd}{R:Nat}(hk:KOk F l n kd R)(o:kd.K∈L)(g:r.at_=(i:Int))(q:r.stand=((l5 L kd.K:Nat):Int))(S:l6 l n e z h kd ((H r.stand).map (gt r.regs)) i)(j:i≠0->¬(h.is=true/\h.c.pl=[]))
  (hl:¬(h.is=true/\h.to=(i:Int))->f0w r h):T8 F l n e z L H (Pr.c0M p r) h i:=by
 obtain⟨s,u⟩:=M.at o;rw[<-q]at s u;have v:(gt d.States r.stand).Accept=L7 l e z kd:=by
  rw[u];show V6 F l kd.K=_;unfold V6;rw[(z0T K hk).1];rfl
 have ha:=S.acc;have w:=k7 l;have f:0<=r.stand:=O'
 have k:=P.acc r.stand f s;rw[v]at k;unfold Pr.c0M;rw[k]
 by_cases m:h.is=true/\h.to=(i:Int)
 ·rw[if_pos m]at ha;have t:(L7 l e z kd).map (C7 (H r.stand))≠[]:=fun h=>by have:=ha.2;rw[List.map_eq_nil_iff]at h;rw[h]at this;simp at this;omega
  rw[if_pos ⟨f,t⟩];refine⟨g,?_,.inl ⟨kd,R,hk,o,q,S,j⟩⟩;unfold f0w;rw[if_pos m.1];refine⟨?_,by rw[m.2];exact g⟩;show List.map (Pr.a0s r.at_ r.regs) _=_;rw[g];exact K0b (P.hom r.stand f s).2 ha.1
 ·rw[if_neg m]at ha;rw[ha,if_neg V'];exact⟨g,hl m,.inl ⟨kd,R,hk,o,q,S,j⟩⟩
def G0r (h:Hs){i:Nat}(g:P7 l n h i){x:Int}(hn:¬((h.feed l n a b e x).is=true/\(h.feed l n a b e x).to=((i+1:Nat):Int))):(h.feed l n a b e x).tags=h.tags/\(h.feed l n a b e x).to=h.to/\(h.feed l n a b e x).is=h.is:=by
 have f:(h.K0 l n a b x).at_=((i+1:Nat):Int):=by
  have:=g.c.a0;show h.c.at_+1=_;omega
 unfold Hs.feed at hn ⊢;cases j:((h.K0 l n a b x).Q2 l e).2 with
 |false=>exact⟨rfl,rfl,rfl⟩
 |true=>rw[j]at hn;exact absurd ⟨rfl,f⟩ hn
def L0i (K:Y2 l n a b e z F)(hw:∀x∈l,V2 x)(M:Mch F l n 0 cls L d)(P:h0k d p H)(b3:(r.regs.length:Int)=p.Regs)(S:T8 F l n e z L H r h i)(hi:i<=100000)(u:h.over=false){x:Int}(hx:J4 .u8 x):T8 F l n e z L H (Pr.d04 p r x) (h.feed l n a b e x) (i+1):=by
 unfold Pr.d04;have b2:=S.at_;rcases S.st with⟨kd,R,hk,hL,hc,Sm,c4⟩|⟨hc,w,hpl,hi0,hok⟩
 ·have m:∀r':Pr.RS,r'.tags=r.tags->r'.to=r.to->¬((h.feed l n a b e x).is=true/\(h.feed l n a b e x).to=((i+1:Nat):Int))->f0w r' (h.feed l n a b e x):=by
   intro r' h1 h2 hn;obtain⟨U,q2,q3⟩:=G0r h Sm.hs hn;have:=S.ls;unfold f0w at this ⊢;rw[U,q2,q3,h1,h2];exact this
  obtain⟨k2,c,c1,c2,a1⟩:=M.d0v K hw (.inl rfl) hk hL hc hx;obtain⟨s,k⟩:=C0d (b_:=x) K hw Sm hi hx;have s:l6 l n e z (h.feed l n a b e x) (kd.next l n a b e 0 x) (a0p ((H r.stand).map (gt r.regs)) (kd.src l n a b e 0 x) (i:Int)) (i+1):=s;have k:∀v∈kd.src l n a b e 0 x,v=-1\/(0<=v/\v<(((H r.stand).map (gt r.regs)).length:Int)):=k;obtain⟨U,q2⟩:=M.at hL;rw[<-hc]at U q2;have t:0<=r.stand:=O'
  obtain⟨w1,w2⟩:=P.way r.stand t U c c2;have J:Pr.K6 p r x=gt (gt p.Stands r.stand).B2 (c:Int):=by unfold Pr.K6;rw[P.cls,c1]
  have f:Pr.goS p r x={ r with at_:=r.at_+1,stand:=(gt (gt d.States r.stand).Edges (c:Int)).To,work:=r.work+1+((gt (gt p.Stands r.stand).B2 (c:Int)).Moves.length:Int),regs:=Pr.Y3 r.at_ r.regs (gt (gt p.Stands r.stand).B2 (c:Int)).Moves }:=by
   unfold Pr.goS;rw[if_pos t,J,w1]
  rcases a1 with⟨e1,e2,e3⟩|⟨e1,e2,e3⟩
  ·rw[e3]at f;have b1:Pr.c0M p (Pr.goS p r x)=Pr.goS p r x:=by
    unfold Pr.c0M;rw[if_neg];rw[f];simp only;omega
   rw[b1];have w:(h.feed l n a b e x).is=true:=by
    have:=s.fl;rw[e2]at this;cases q:(h.feed l n a b e x).is with
    |true=>rfl
    |false=>rw[q]at this;simp at this
   have o:=s.acc;have y:¬((h.feed l n a b e x).is=true/\(h.feed l n a b e x).to=((i+1:Nat):Int)):=fun hh=>by
    rw[if_pos hh]at o;have:L7 l e z (kd.next l n a b e 0 x)=[]:=by
     unfold L7;rw[e1,e2,show l7 (kd.next l n a b e 0 x).fD (B5 e [] ([]:List Nat).length)=-1 from rfl,if_pos (show(-1:Int)<0 from O')];simp
    rw[this]at o;have ht:=k7 l;have:=o.2;simp at this;omega
   refine⟨?_,m _ (by rw[f]) (by rw[f]) y,.inr ⟨by rw[f],w,by rw[<-s.pl];exact e1,O',s.hs⟩⟩;rw[f];show r.at_+1=_;omega
  ·rw[e3]at w2 f;simp only at w2 f;obtain⟨w3,w4,w5⟩:=w2 O';have C:(H ((l5 L (kd.next l n a b e 0 x).K:Nat):Int)).map (gt (Pr.Y3 r.at_ r.regs (gt (gt p.Stands r.stand).B2 (c:Int)).Moves))=a0p ((H r.stand).map (gt r.regs)) (kd.src l n a b e 0 x) (i:Int):=by
    have c5:=(P.hom _ O' w3).1;refine List.ext_getElem (by unfold a0p;rw[length_map,length_map];omega) fun j j1 j2=>?_;have j3:j<(H ((l5 L (kd.next l n a b e 0 x).K:Nat):Int)).length:=by simpa using j1
    have j4:j<(kd.src l n a b e 0 x).length:=by simpa[a0p]using j2
    have g:=w5 r.at_ r.regs b3 j j4;have e6:(a0p ((H r.stand).map (gt r.regs)) (kd.src l n a b e 0 x) (i:Int))[j]=if(kd.src l n a b e 0 x)[j]=-1 then(i:Int)else gt ((H r.stand).map (gt r.regs)) ((kd.src l n a b e 0 x)[j]):=by simp[a0p]
    rw[getElem_map,e6];have e4:gt (H ((l5 L (kd.next l n a b e 0 x).K:Nat):Int)) (j:Int)=(H ((l5 L (kd.next l n a b e 0 x).K:Nat):Int))[j]:=P2 (List.getElem?_eq_getElem j3);have e5:gt (kd.src l n a b e 0 x) (j:Int)=(kd.src l n a b e 0 x)[j]:=P2 (List.getElem?_eq_getElem j4);rw[e4,e5]at g;rw[g,b2];split
    ·rfl
    ·rename_i b4;have:=(k _ (List.getElem_mem j4)).resolve_left b4;rw[length_map]at this;rw[u0U _ this.1 this.2]
   have I:(Pr.goS p r x).stand=((l5 L (kd.next l n a b e 0 x).K:Nat):Int):=by rw[f]
   refine t0Q K M P k2 e2 ?_ I ?_ (fun _ hh=>e1 ?_) (m _ (by rw[f]) (by rw[f]))
   ·rw[f];show r.at_+1=_;omega
   ·rw[I,show(Pr.goS p r x).regs=Pr.Y3 r.at_ r.regs (gt (gt p.Stands r.stand).B2 (c:Int)).Moves by rw[f],C];exact s
   ·have hf:=s.fl;rw[if_pos hh.1,if_neg O']at hf;exact⟨by rw[s.pl];exact hh.2,hf⟩
 ·exfalso;have c3:=hok.c.a0;unfold Hs.over at u;rw[w,hpl]at u;simp at u;omega
def T8.ok (S:T8 F l n e z L H r h i):P7 l n h i:=by
 rcases S.st with⟨_,_,_,_,_,S,_⟩|⟨_,_,_,_,h⟩
 ·exact S.hs
 ·exact h
def T8.ov (S:T8 F l n e z L H r h i):decide (r.stand<0)=h.over:=by
 have k:=S.ok.c.a0;rcases S.st with⟨_,_,_,_,j,_,g⟩|⟨j,his,hpl,hi0,_⟩
 ·rw[decide_eq_false O'];cases f:h.over with
  |false=>rfl
  |true=>
   unfold Hs.over at f;simp only[Bool.and_eq_true,beq_iff_eq,decide_eq_true_eq]at f;exact absurd ⟨f.1,List.eq_nil_of_length_eq_zero f.2.1⟩ (g O')
 ·rw[decide_eq_true O'];unfold Hs.over;rw[his,hpl];simp;omega
end
