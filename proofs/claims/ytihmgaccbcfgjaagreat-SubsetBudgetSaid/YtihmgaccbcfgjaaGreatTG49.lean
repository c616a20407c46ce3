/- P. Its conditions: none. -/
import Derived.Test.YtihmgaccbcfgjaaGreatTG48
import Derived.Test.YtihmgaccbcfgjaaGreatTG47
import Derived.Test.YtihmgaccbcfgjaaGreatTG45
open List (mem_cons length_pos_iff all_eq_true length_zip)
open Bool (false_eq_true and_eq_true)
set_option linter.all false
namespace Go.Proofs.YtihmgaccbcfgjaaGreat
open Go.V Go.RowKit Go.X
variable {F:Nat}
def q0m:∀{l:List Int} {n m:Int},N6 l n=some m->n<=m/\m<=n+l.length/\∀c∈l,0<=c/\c<m
 |[],n,m,h=>by cases h;exact⟨Int.le_refl _,X',X'⟩
 |c :: r,n,m,h=>by
  unfold N6 at h;split at h
  ·cases h
  ·rename_i f;obtain⟨h1,d,b⟩:=q0m h
   by_cases e:c=n
   ·rw[if_pos e]at h1 d;refine⟨O',Z',fun x a=>?_⟩;rcases mem_cons.1 a with rfl|a
    ·omega
    ·exact b x a
   ·rw[if_neg e]at h1 d;refine⟨h1,Z',fun x a=>?_⟩;rcases mem_cons.1 a with rfl|a
    ·omega
    ·exact b x a
def v0b {α:Type}[Inhabited α]{l:List α}{i:Nat}(h:i<l.length):l.drop i=gt l (i:Int) :: l.drop (i+1):=by
 rw[List.drop_eq_getElem_cons h,X2 (x:=l[i]) (by simp[h])]
def r0K {n:Int}(h1:0<=n)(a:n<=1000000):W n=n:=E3 O' O'
def r09 {body:Int×Int->Option (Q0 (Int×Int) (Unit⊕Unit))}(l:List Int)(hl:l.length<=1000)
  (hs:∀(i:Nat) (n:Int),i<l.length->0<=n->n<=i->body (n,(i:Int))=some (if gt l (i:Int)<0\/n<gt l (i:Int)then .done (.inl ())else .next ((if gt l (i:Int)=n then n+1 else n),((i+1:Nat):Int))))
  (he:∀n,body (n,(l.length:Int))=some (.done (.inr ()))) (d:2000<F):iter body F (0,0)=some (if(N6 l 0).isSome then .inr ()else .inl ()):=by
 have key:∀(k i fu:Nat) (n:Int),i+k=l.length->k<fu->0<=n->n<=i->iter body fu (n,(i:Int))=some (if(N6 (l.drop i) n).isSome then .inr ()else .inl ()):=by
  intro k
  induction k with
  |zero=>
   intro i fu n hi a _ _;obtain⟨fu,rfl⟩:∃m,fu=m+1:=⟨fu-1,O'⟩
   obtain rfl:i=l.length:=O'
   unfold iter;rw[he,List.drop_length];rfl
  |succ k ih=>
   intro i fu n hi a c hn;obtain⟨fu,rfl⟩:∃m,fu=m+1:=⟨fu-1,O'⟩
   unfold iter;rw[hs i n O' c hn,v0b (show i<l.length from O')];unfold N6
   by_cases b:gt l (i:Int)<0\/n<gt l (i:Int)
   ·simp only[if_pos b];rfl
   ·simp only[if_neg b]
    by_cases e:gt l (i:Int)=n
    ·simp only[if_pos e];exact ih (i+1) fu (n+1) O' O' O' O'
    ·simp only[if_neg e];exact ih (i+1) fu n O' O' O' O'
 exact key l.length 0 F 0 O' O' O' O'
def w0L (c:List Int)(hl:c.length<=1000)(j:2000<F):g09 F c=some (J8 c):=by
 unfold g09;rw[r09 c hl (fun i n hi k hn=>by
  unfold m0o;simp only[dec_lt hi,Y7,hi,decide_true,if_true]
  by_cases h1:gt c (i:Int)<0
  ·simp[h1]
  ·by_cases a:n<gt c (i:Int)
   ·have:decide (gt c (i:Int)>n)=true:=by simp;omega
    simp[h1,a,this]
   ·have d:decide (gt c (i:Int)>n)=false:=by simp;omega
    have f:decide (gt c (i:Int)<0)=false:=by simp;omega
    have b:W (gt c (i:Int)+1)=gt c (i:Int)+1:=r0K O' O';have g:W ((i:Int)+1)=((i+1:Nat):Int):=Go.V.X1 O';simp only[q0,d,f,b,g,h1,a,or_self]
    by_cases e:gt c (i:Int)=n
    ·simp[e];intro h;omega
    ·have:¬(gt c (i:Int)+1>n):=O'
     simp[e,this]) (fun n=>by unfold m0o;simp) j]
 unfold J8;cases(N6 c 0).isSome<;>simp
def w0D (c:List Int)(hl:c.length<=1000)(h:2000<F):i0J F c=some (J8 c):=by
 unfold i0J;rw[r09 c hl (fun i n hi j hn=>by
  unfold n0w;simp only[dec_lt hi,Y7,hi,decide_true,if_true]
  by_cases h1:gt c (i:Int)<0
  ·simp[h1]
  ·by_cases a:n<gt c (i:Int)
   ·have:decide (gt c (i:Int)>n)=true:=by simp;omega
    simp[h1,a,this]
   ·have d:decide (gt c (i:Int)>n)=false:=by simp;omega
    have f:decide (gt c (i:Int)<0)=false:=by simp;omega
    have b:W (n+1)=n+1:=r0K O' O';have g:W ((i:Int)+1)=((i+1:Nat):Int):=Go.V.X1 O';simp only[q0,d,f,b,g,h1,a,or_self]
    by_cases e:gt c (i:Int)=n
    ·simp[e]
    ·have:(gt c (i:Int)==n)=false:=by simpa using e
     simp[e,this]) (fun n=>by unfold n0w;simp) h]
 unfold J8;cases(N6 c 0).isSome<;>simp
def u0A {body:List Int×Int->Option (Q0 (List Int×Int) (List Int))}(l:List Int)(hl:l.length<=1000)
  (hs:∀(i:Nat) (o:List Int),i<l.length->o.length<=i->body (o,(i:Int))=some (.next ((if gt l (i:Int)=(o.length:Int)then o++[IntKind.u8.wrap (i:Int)]else o),((i+1:Nat):Int))))
  (he:∀o,body (o,(l.length:Int))=some (.done o)) (c:2000<F):iter body F ([],0)=some (M0 l):=by
 have key:∀(k i fu:Nat) (o:List Int),i+k=l.length->k<fu->o.length<=i->iter body fu (o,(i:Int))=some (F9 (l.drop i) i o):=by
  intro k
  induction k with
  |zero=>
   intro i fu o hi a _;obtain⟨fu,rfl⟩:∃m,fu=m+1:=⟨fu-1,O'⟩
   obtain rfl:i=l.length:=O'
   unfold iter;rw[he,List.drop_length];rfl
  |succ k ih=>
   intro i fu o hi a b;obtain⟨fu,rfl⟩:∃m,fu=m+1:=⟨fu-1,O'⟩
   unfold iter;rw[hs i o O' b,v0b (show i<l.length from O')];unfold F9;exact ih (i+1) fu _ O' O' (by
    split
    ·simp;omega
    ·omega)
 exact key l.length 0 F [] O' O' X'
def s0O (c:List Int)(hl:c.length<=1000)(a:2000<F):e0e F c=some (if J8 c then M0 c else[]):=by
 unfold e0e;rw[w0L c hl a];cases J8 c
 ·simp
 ·simp only[q0];rw[u0A c hl (fun i o hi b=>by
   unfold p0d;have ha:K0 1 o [IntKind.u8.wrap (i:Int)]=true:=B4 Z';simp only[dec_lt hi,Y7,hi,decide_true,if_true,ha];rw[Go.V.X1 O']
   by_cases e:gt c (i:Int)=(o.length:Int)
   ·simp[e]
   ·have:(gt c (i:Int)==(o.length:Int))=false:=by simpa using e
    simp[e,this]) (fun o=>by unfold p0d;simp) a]
  rfl
def A0G (c:List Int)(hl:c.length<=1000)(d:2000<F):j0R F c=some (if J8 c then M0 c else[]):=by
 unfold j0R;rw[w0D c hl d];cases b:J8 c
 ·simp
 ·have a:c.length=256:=by
   unfold J8 at b;simp at b;omega
  simp only[q0];rw[u0A c hl (fun i o hi f=>by
   unfold q0G;have ha:K0 1 o [IntKind.u8.wrap (i:Int)]=true:=B4 Z';have hd:decide ((i:Int)<256)=true:=by simp;omega
   simp only[hd,Y7,hi,decide_true,if_true,ha];rw[Go.V.X1 O']
   by_cases e:gt c (i:Int)=(o.length:Int)
   ·simp[e]
   ·have:(gt c (i:Int)==(o.length:Int))=false:=by simpa using e
    simp[e,this]) (fun o=>by unfold q0G;simp[a]) d]
  rfl
def w0l:∀{l:List Int} {n m:Int} {b:Nat} {o:List Int},N6 l n=some m->(o.length:Int)=n->((F9 l b o).length:Int)=m
 |[],n,m,b,o,h,a=>by cases h;exact a
 |c :: r,n,m,b,o,h,a=>by
  unfold N6 at h;split at h
  ·cases h
  ·unfold F9;refine w0l h ?_;rw[a];split<;>simp[a]
def z0k {c:List Int}(h:J8 c=true):∃m:Nat,N6 c 0=some (m:Int)/\(M0 c).length=m/\m<=256/\c.length=256:=by
 unfold J8 at h;simp only[and_eq_true]at h;obtain⟨h1,a⟩:=h;obtain⟨m,hm⟩:=Option.isSome_iff_exists.1 h1;have a:c.length=256:=by simp at a;omega
 obtain⟨d,e,_⟩:=q0m hm;have hl:=w0l (b:=0) (o:=[]) hm X';refine⟨m.toNat,by rw[hm];congr 1;omega,?_,O',a⟩;unfold M0;omega
end Go.Proofs.YtihmgaccbcfgjaaGreat
namespace Go.Proofs.YtihmgaccbcfgjaaGreat
open Go.V Go.RowKit Go.X
variable {F:Nat}
def F01 (d:Y1)(hd:Sm d)(i:Nat)(hi:i<d.States.length)(b:2000<F):iter (h0X F d (i:Int)) F 0=some (if(gt d.States (i:Int)).Edges.all (L7 d (gt d.States (i:Int)).Regs)then .inr ()else .inl ()):=by
 have hm:=b0x hi;obtain⟨k,hk⟩:=c0H (body:=h0X F d (i:Int)) (gt d.States (i:Int)).Edges (L7 d (gt d.States (i:Int)).Regs) (.inr ()) (fun _=>.inl ()) (fun j a=>by
  unfold h0X;have hs:=hd.sr _ hm _ (b0x a);simp only[dec_lt a,Y7,a,decide_true,if_true];rw[I0e d _ _ O' b];cases L7 d (gt d.States (i:Int)).Regs (gt (gt d.States (i:Int)).Edges (j:Int))
  ·simp
  ·simp only[q0];rw[Go.V.X1 (by have:=hd.ed _ hm;omega)]) (by
  unfold h0X;simp) (fu:=F) (by have:=hd.ed _ hm;omega)
 exact hk
def I07 (d:Y1)(hd:Sm d)(b:2000<F):e0X F d=some (a0V d):=by
 unfold e0X a0V
 by_cases h1:d.Tags<1
 ·simp[h1];intro h;omega
 by_cases a:d.Tags>19
 ·simp[h1,a];intro _ h;omega
 have p:decide (d.Tags<1)=false:=by simpa using h1
 have m:decide (d.Tags>19)=false:=by simpa using a
 have o:decide (1<=d.Tags)=true:=by simp;omega
 have g:decide (d.Tags<=19)=true:=by simp;omega
 cases f:d.Tags.tmod 2==0
 ·cases e:(d.States.length:Int)==0
  ·have n:decide ((d.States.length:Int)>400)=false:=by simp;have:=hd.st;omega
   have l:decide ((d.States.length:Int)<=400)=true:=by simp;have:=hd.st;omega
   have j:=hd.cl;simp only[q0,p,m,o,g,n,l,Bool.true_and];rw[w0L d.Class O' b,s0O d.Class O' b];cases r:J8 d.Class
   ·simp
   ·obtain⟨k,hk⟩:=c0H (body:=k0q F d (M0 d.Class)) d.States (b0X d (M0 d.Class).length) (.inr ()) (fun _=>.inl ()) (fun i hi=>by
     have hm:=b0x hi;have hk:=F01 (F:=F) d hd i hi b;have c:=E0a (F:=F) (gt d.States (i:Int)) d.Tags (by have:=hd.ac _ hm;omega) b;unfold k0q b0X;simp only[dec_lt hi,Y7,hi,decide_true,if_true]
     by_cases g1:(gt d.States (i:Int)).Regs<0
     ·have:¬(0<=(gt d.States (i:Int)).Regs):=O'
      simp[g1,this]
     have f1:decide ((gt d.States (i:Int)).Regs<0)=false:=by simpa using g1
     have f2:decide (0<=(gt d.States (i:Int)).Regs)=true:=by simp;omega
     have f3:decide ((gt d.States (i:Int)).Regs>1216)=false:=by simp;have:=hd.rg _ hm;omega
     have f4:decide ((gt d.States (i:Int)).Regs<=1216)=true:=by simp;have:=hd.rg _ hm;omega
     simp only[q0,f1,f2,f3,f4,Bool.true_and];cases g2:((gt d.States (i:Int)).Edges.length:Int)==((M0 d.Class).length:Int)
     ·have:(((gt d.States (i:Int)).Edges.length:Int) != ((M0 d.Class).length:Int))=true:=by simp[bne,g2]
      simp[this]
     ·have:(((gt d.States (i:Int)).Edges.length:Int) != ((M0 d.Class).length:Int))=false:=by simp[bne,g2]
      simp only[q0,this,Bool.true_and,c];cases c0C (gt d.States (i:Int)) d.Tags
      ·simp
      ·simp only[q0,hk,Bool.true_and];cases(gt d.States (i:Int)).Edges.all (L7 d (gt d.States (i:Int)).Regs)
       ·simp
       ·simp only[if_true];rw[Go.V.X1 (by have:=hd.st;omega)]) (by
     unfold k0q;simp) (fu:=F) (by have:=hd.st;omega)
    have q:y0 d.States 0=true:=V0 (Int.le_refl _) (by simp at e;have:=length_pos_iff.2 e;omega);simp only[q0,hk];cases d.States.all (b0X d (M0 d.Class).length)
    ·simp
    ·simp[q]
  ·simp[h1,a,f,e]
 ·simp[h1,a,f]
def G0D (d:Y1)(hd:Sm d)(i:Nat)(hi:i<d.States.length)(b:2000<F):iter (i0D F d (i:Int)) F 0=some (if(gt d.States (i:Int)).Accept.all (fun n=>n==-2||z6 n (gt d.States (i:Int)).Regs)then .inr ()else .inl ()):=by
 have hm:=b0x hi;obtain⟨k,hk⟩:=c0H (body:=i0D F d (i:Int)) (gt d.States (i:Int)).Accept (fun n=>n==-2||z6 n (gt d.States (i:Int)).Regs) (.inr ()) (fun _=>.inl ()) (fun j a=>by
  unfold i0D;simp only[q0,dec_lt a,Y7,a,w0h,Bool.true_and,Bool.or_comm (z6 _ _)];cases(gt (gt d.States (i:Int)).Accept (j:Int)==-2||z6 (gt (gt d.States (i:Int)).Accept (j:Int)) (gt d.States (i:Int)).Regs)
  ·simp
  ·simp only[q0];rw[Go.V.X1 (by have:=hd.ac _ hm;omega)]) (by
  unfold i0D;simp) (fu:=F) (by have:=hd.ac _ hm;omega)
 exact hk
def y0c (d:Y1)(hd:Sm d)(i:Nat)(hi:i<d.States.length)(least:List Int)(hl:(gt d.States (i:Int)).Edges.length=least.length)(b:2000<F):iter (h0b F d least (i:Int)) F 0=some (if(gt d.States (i:Int)).Edges.all (L7 d (gt d.States (i:Int)).Regs)then .inr ()else .inl ()):=by
 have hm:=b0x hi;obtain⟨k,hk⟩:=c0H (body:=h0b F d least (i:Int)) (gt d.States (i:Int)).Edges (L7 d (gt d.States (i:Int)).Regs) (.inr ()) (fun _=>.inl ()) (fun j a=>by
  unfold h0b;have hs:=hd.sr _ hm _ (b0x a);simp only[dec_lt (show j<least.length from O'),Y7,a,decide_true,if_true];rw[y0n d _ _ O' b];cases L7 d (gt d.States (i:Int)).Regs (gt (gt d.States (i:Int)).Edges (j:Int))
  ·simp
  ·simp only[q0];rw[Go.V.X1 (by have:=hd.ed _ hm;omega)]) (by
  unfold h0b;simp[hl]) (fu:=F) (by have:=hd.ed _ hm;omega)
 exact hk
def F0f (d:Y1)(hd:Sm d)(e:2000<F):i04 F d=some (a0V d):=by
 unfold i04 a0V
 by_cases h1:d.Tags<1
 ·simp[h1];intro h;omega
 by_cases f:d.Tags>19
 ·simp[h1,f];intro _ h;omega
 have t:decide (d.Tags<1)=false:=by simpa using h1
 have q:decide (d.Tags>19)=false:=by simpa using f
 have s:decide (1<=d.Tags)=true:=by simp;omega
 have m:decide (d.Tags<=19)=true:=by simp;omega
 cases l:d.Tags.tmod 2==0
 ·cases a:(d.States.length:Int)==0
  ·have r:decide ((d.States.length:Int)>400)=false:=by simp;have:=hd.st;omega
   have p:decide ((d.States.length:Int)<=400)=true:=by simp;have:=hd.st;omega
   have j:decide ((d.States.length:Int)<1)=false:=by simp at a;have:=length_pos_iff.2 a;simp;omega
   have o:=hd.cl;simp only[q0,t,q,s,m,r,p,j,Bool.true_and];rw[w0D d.Class O' e,A0G d.Class O' e];cases v:J8 d.Class
   ·simp
   ·have u:y0 d.States 0=true:=V0 (Int.le_refl _) (by simp at a;have:=length_pos_iff.2 a;omega);simp only[q0,u,Bool.true_and];cases g0:(gt d.States 0).Regs==0
    ·have:((gt d.States 0).Regs != 0)=true:=by simp[bne,g0]
     simp[this]
    ·have:((gt d.States 0).Regs != 0)=false:=by simp[bne,g0]
     obtain⟨k,hk⟩:=c0H (body:=k0V F d (M0 d.Class)) d.States (b0X d (M0 d.Class).length) (.inr ()) (fun _=>.inl ()) (fun i hi=>by
      have hm:=b0x hi;have ha:=G0D (F:=F) d hd i hi e;have hk:=y0c (F:=F) d hd i hi (M0 d.Class);unfold k0V b0X;simp only[dec_lt hi,Y7,hi,decide_true,if_true]
      by_cases g1:(gt d.States (i:Int)).Regs<0
      ·have:¬(0<=(gt d.States (i:Int)).Regs):=O'
       simp[g1,this]
      have f1:decide ((gt d.States (i:Int)).Regs<0)=false:=by simpa using g1
      have f2:decide (0<=(gt d.States (i:Int)).Regs)=true:=by simp;omega
      have f3:decide ((gt d.States (i:Int)).Regs>1216)=false:=by simp;have:=hd.rg _ hm;omega
      have f4:decide ((gt d.States (i:Int)).Regs<=1216)=true:=by simp;have:=hd.rg _ hm;omega
      simp only[q0,f1,f2,f3,f4,Bool.true_and,c0C];cases g3:((gt d.States (i:Int)).Accept.length:Int)==0
      ·have b:(((gt d.States (i:Int)).Accept.length:Int) != 0)=true:=by simp[bne,g3]
       cases g4:((gt d.States (i:Int)).Accept.length:Int)==d.Tags
       ·have g:(((gt d.States (i:Int)).Accept.length:Int) != d.Tags)=true:=by simp[bne,g4]
        simp[b,g]
       ·have g:(((gt d.States (i:Int)).Accept.length:Int) != d.Tags)=false:=by simp[bne,g4]
        cases g2:((gt d.States (i:Int)).Edges.length:Int)==((M0 d.Class).length:Int)
        ·have:(((gt d.States (i:Int)).Edges.length:Int) != ((M0 d.Class).length:Int))=true:=by simp[bne,g2]
         simp[b,g,this]
        ·have:(((gt d.States (i:Int)).Edges.length:Int) != ((M0 d.Class).length:Int))=false:=by simp[bne,g2]
         have hk:=hk (by simp at g2;omega) e;simp only[q0,b,g,this,ha,Bool.false_or,Bool.true_and];cases(gt d.States (i:Int)).Accept.all (fun n=>n==-2||z6 n (gt d.States (i:Int)).Regs)
         ·simp
         ·simp only[if_true,G0,hk,Bool.true_and];cases(gt d.States (i:Int)).Edges.all (L7 d (gt d.States (i:Int)).Regs)
          ·simp
          ·simp only[if_true];rw[Go.V.X1 (by have:=hd.st;omega)]
      ·have b:(((gt d.States (i:Int)).Accept.length:Int) != 0)=false:=by simp[bne,g3]
       have c:(gt d.States (i:Int)).Accept=[]:=by simpa using g3
       cases g2:((gt d.States (i:Int)).Edges.length:Int)==((M0 d.Class).length:Int)
       ·have:(((gt d.States (i:Int)).Edges.length:Int) != ((M0 d.Class).length:Int))=true:=by simp[bne,g2]
        simp[b,this]
       ·have:(((gt d.States (i:Int)).Edges.length:Int) != ((M0 d.Class).length:Int))=false:=by simp[bne,g2]
        have hk:=hk (by simp at g2;omega) e;simp only[q0,b,this,ha,c,List.all_nil,Bool.true_or,Bool.true_and,hk];cases(gt d.States (i:Int)).Edges.all (L7 d (gt d.States (i:Int)).Regs)
        ·simp
        ·simp only[if_true];rw[Go.V.X1 (by have:=hd.st;omega)];rfl) (by
      unfold k0V;simp) (fu:=F) (by have:=hd.st;omega)
     simp only[q0,this,hk,Bool.and_true];cases d.States.all (b0X d (M0 d.Class).length)<;>simp
  ·have j:decide ((d.States.length:Int)<1)=true:=by simp at a;simp[a]
   simp[h1,f,l,a,j]
 ·simp[h1,f,l]
end Go.Proofs.YtihmgaccbcfgjaaGreat
namespace Go.Proofs.YtihmgaccbcfgjaaGreat
open Go.V Go.RowKit Go.X
variable {F:Nat}
end Go.Proofs.YtihmgaccbcfgjaaGreat
namespace Go.Proofs.YtihmgaccbcfgjaaGreat
open Go.V Go.RowKit Go.X
variable {F:Nat}
def B00 (k:Nat)(l:List Int):Prop:=∀n∈l,n=-1\/n=-2\/0<=n/\n<(k:Int)
structure RdD (d:Y1):Prop where
 sm:Sm d
 pos:0<d.States.length
 cl:d.Class.length=256
 r0:(gt d.States 0).Regs=0
 rg:∀s∈d.States,0<=s.Regs
 ac:∀s∈d.States,B00 s.Regs.toNat s.Accept/\(s.Accept=[]\/(s.Accept.length:Int)=d.Tags)
 tg:1<=d.Tags/\d.Tags<=19/\d.Tags % 2=1
 ed:∀s∈d.States,∀c∈d.Class,0<=c/\c<(s.Edges.length:Int)
 to:∀s∈d.States,∀x∈s.Edges,(x.To=-1/\x.Src=[])\/(0<=x.To/\x.To<(d.States.length:Int)/\(x.Src.length:Int)=(gt d.States x.To).Regs)
 sr:∀s∈d.States,∀x∈s.Edges,∀n∈x.Src,n=-1\/0<=n/\n<s.Regs
def w0T {n r:Int}:z6 n r=true↔n=-1\/0<=n/\n<r:=by
 unfold z6;simp
def I0Q {d:Y1}(hs:Sm d)(h:a0V d=true):RdD d:=by
 unfold a0V at h;simp only[and_eq_true,decide_eq_true_eq,Bool.not_eq_true',all_eq_true]at h;obtain⟨⟨⟨⟨⟨⟨⟨h1,r⟩,g⟩,j⟩,t⟩,p⟩,k⟩,l⟩:=h;obtain⟨m,hm,hl,q,e⟩:=z0k p;obtain⟨_,_,i⟩:=q0m hm;have a:∀s∈d.States,0<=s.Regs/\s.Edges.length=m/\c0C s d.Tags=true/\∀x∈s.Edges,L7 d s.Regs x=true:=by
  intro s hs;have:=k s hs;unfold b0X at this;simp only[and_eq_true,decide_eq_true_eq,all_eq_true,beq_iff_eq]at this;obtain⟨⟨⟨⟨g1,_⟩,g2⟩,g3⟩,g4⟩:=this;exact⟨g1,O',g3,g4⟩
 refine⟨hs,?_,e,by simpa using l,fun s hs=>(a s hs).1,fun s hs=>?_,⟨h1,r,?_⟩,fun s hs c o=>?_,fun s hs x f=>?_,fun s hs x f n hn=>?_⟩
 ·simp at j;exact length_pos_iff.2 j
 ·have:=(a s hs).2.2.1;have u:=(a s hs).1;unfold c0C at this;simp only[Bool.or_eq_true,and_eq_true,beq_iff_eq,all_eq_true]at this;rcases this with b|⟨g1,g2⟩
  ·have:s.Accept=[]:=List.eq_nil_of_length_eq_zero O';exact⟨fun n hn=>by rw[this]at hn;simp at hn,.inl this⟩
  ·refine⟨fun n hn=>?_,.inr g1⟩;rcases g2 n hn with b|b
   ·exact .inr (.inl b)
   ·rcases w0T.1 b with b|⟨b,h00⟩
    ·exact .inl b
    ·exact .inr (.inr ⟨b,O'⟩)
 ·have g:¬d.Tags.tmod 2=0:=by simpa using g
  rw[Int.tmod_eq_emod_of_nonneg O']at g;omega
 ·rw[(a s hs).2.1];exact i c o
 ·have:=(a s hs).2.2.2 x f;unfold L7 at this;split at this
  ·rename_i b;exact .inl ⟨b,by simpa using this⟩
  ·simp only[and_eq_true,decide_eq_true_eq,beq_iff_eq]at this;exact .inr ⟨this.1.1.1,this.1.1.2,this.1.2⟩
 ·have:=(a s hs).2.2.2 x f;unfold L7 at this;split at this
  ·rename_i b;have:x.Src=[]:=by simpa using this
   rw[this]at hn;simp at hn
  ·simp only[and_eq_true,all_eq_true]at this;exact w0T.1 (this.2 n hn)
end Go.Proofs.YtihmgaccbcfgjaaGreat
namespace Go.Proofs.YtihmgaccbcfgjaaGreat
open Go.V Go.RowKit Go.X
variable {F:Nat}
end Go.Proofs.YtihmgaccbcfgjaaGreat
namespace Go.Proofs.YtihmgaccbcfgjaaGreat
open Go.V Go.RowKit Go.X
variable {F:Nat}
def E8 {α:Type}(p:α->α->Bool)(a b:List α):Bool:=a.length==b.length&&(a.zip b).all fun x=>p x.1 x.2
def E09 {α:Type}[Inhabited α]{a b:List α}{i:Nat}(ha:i<a.length)(c:i<b.length):gt (a.zip b) (i:Int)=(gt a (i:Int),gt b (i:Int)):=by
 rw[X2 (x:=a[i]) (by simp[ha]),X2 (x:=b[i]) (by simp[c])];exact X2 (by simp[List.getElem?_zip_eq_some,ha,c])
def q0F {α ρ:Type}[Inhabited α](a b:List α)(p:α->α->Bool)(hl:a.length=b.length)(good bad:ρ){body:Int->Option (Q0 Int ρ)}
  (hs:∀i:Nat,i<a.length->i<b.length->body (i:Int)=some (if p (gt a (i:Int)) (gt b (i:Int))then .next ((i+1:Nat):Int)else .done bad)) (he:body (a.length:Int)=some (.done good)) {fu:Nat} (h:a.length<fu):
  iter body fu 0=some (if E8 p a b then good else bad):=by
 obtain⟨k,hk⟩:=c0H (body:=body) (a.zip b) (fun x=>p x.1 x.2) good (fun _=>bad) (fun i hi=>by
  rw[length_zip]at hi;rw[E09 O' O'];exact hs i O' O') (by rw[length_zip,hl,Nat.min_self,<-hl];exact he) (fu:=fu) (by rw[length_zip];omega)
 rw[hk];unfold E8;rw[hl,beq_self_eq_true,Bool.true_and]
def p0R {α:Type}{p:α->α->Bool}{a b:List α}(h:¬a.length=b.length):E8 p a b=false:=by
 unfold E8;simp[h]
def p0N (a b:List Int)(hl:a.length<=1000000)(d:2000001<F):f0t F a b=some (E8 (·==·) a b):=by
 unfold f0t
 by_cases h:a.length=b.length
 ·have e:((a.length:Int) != (b.length:Int))=false:=by simp[h]
  simp only[e,false_eq_true,if_false];rw[q0F a b (·==·) h (.inr ()) (.inl ()) (fun i hi c=>by
   unfold m0T;simp only[dec_lt hi,Y7,hi,c,decide_true,if_true]
   by_cases g:gt a (i:Int)=gt b (i:Int)
   ·simp[g,Go.V.X1 (show i<9223372036854775807 from O')]
   ·simp[g]) (by unfold m0T;simp) (fu:=F) O']
  cases E8 (·==·) a b<;>rfl
 ·have e:((a.length:Int) != (b.length:Int))=true:=by simp;omega
  simp[e,p0R h]
def i0P (a b:H4):Bool:=a.To==b.To&&E8 (·==·) a.Src b.Src
def e0M (a b:L3):Bool:=a.Regs==b.Regs&&E8 (·==·) a.Accept b.Accept&&E8 i0P a.Edges b.Edges
def j0v (a b:Y1):Bool:=a.Tags==b.Tags&&E8 (·==·) a.Class b.Class&&E8 e0M a.States b.States
structure Bd (d:Y1):Prop where
 st:d.States.length<=1000
 cl:d.Class.length<=1000
 ac:∀s∈d.States,s.Accept.length<=1000
 ed:∀s∈d.States,s.Edges.length<=1000
 sr:∀s∈d.States,∀x∈s.Edges,x.Src.length<=100000
def Sm.bd {d:Y1}(h:Sm d):Bd d:=⟨by have:=h.st;omega,by have:=h.cl;omega,fun s hs=>by have:=h.ac s hs;omega,fun s hs=>by have:=h.ed s hs;omega,fun s hs x a=>by have:=h.sr s hs x a;omega⟩
def D0c (a b:L3)(ha:a.Accept.length<=1000)(he:a.Edges.length<=1000)(hs:∀x∈a.Edges,x.Src.length<=100000)(d:2000001<F):k0O F a b=some (e0M a b):=by
 unfold k0O e0M;rw[p0N _ _ O' d]
 by_cases c:a.Regs=b.Regs
 ·have e0:(a.Regs != b.Regs)=false:=by simp[c]
  cases h1:E8 (·==·) a.Accept b.Accept
  ·simp[e0]
  ·by_cases h:a.Edges.length=b.Edges.length
   ·have e:((a.Edges.length:Int) != (b.Edges.length:Int))=false:=by simp[h]
    simp only[q0,e0,e];rw[q0F a.Edges b.Edges i0P h (.inr ()) (.inl ()) (fun i hi f=>by
     unfold o0A i0P;simp only[dec_lt hi,Y7,hi,f,decide_true,if_true];rw[p0N _ _ (by have:=hs _ (b0x hi);omega) d,Go.V.X1 (show i<9223372036854775807 from O')]
     by_cases g:(gt a.Edges (i:Int)).To=(gt b.Edges (i:Int)).To
     ·simp only[q0,g,bne_self_eq_false,beq_self_eq_true,Bool.true_and];cases E8 (·==·) (gt a.Edges (i:Int)).Src (gt b.Edges (i:Int)).Src<;>simp
     ·have g1:((gt a.Edges (i:Int)).To != (gt b.Edges (i:Int)).To)=true:=by simpa using g
      have g2:((gt a.Edges (i:Int)).To==(gt b.Edges (i:Int)).To)=false:=by simpa using g
      simp[g1,g2]) (by unfold o0A;simp) (fu:=F) O']
    cases E8 i0P a.Edges b.Edges<;>simp[c]
   ·have e:((a.Edges.length:Int) != (b.Edges.length:Int))=true:=by simp;omega
    simp[e0,e,p0R h]
 ·have e0:(a.Regs != b.Regs)=true:=by simpa using c
  simp[e0,c]
def D0g (a b:Y1)(ha:Bd a)(d:2000001<F):h0e F a b=some (j0v a b):=by
 have j:=ha.st;have g:=ha.cl;unfold h0e j0v;rw[p0N _ _ O' d]
 by_cases c:a.Tags=b.Tags
 ·have e0:(a.Tags != b.Tags)=false:=by simp[c]
  cases h1:E8 (·==·) a.Class b.Class
  ·simp[e0]
  ·by_cases h:a.States.length=b.States.length
   ·have e:((a.States.length:Int) != (b.States.length:Int))=false:=by simp[h]
    simp only[q0,e0,e];rw[q0F a.States b.States e0M h (.inr ()) (.inl ()) (fun i hi f=>by
     have hm:=b0x hi;unfold m09;simp only[dec_lt hi,Y7,hi,f,decide_true,if_true];rw[D0c _ _ (ha.ac _ hm) (ha.ed _ hm) (ha.sr _ hm) d,Go.V.X1 (show i<9223372036854775807 from O')];cases e0M (gt a.States (i:Int)) (gt b.States (i:Int))<;>simp) (by unfold m09;simp) (fu:=F) O']
    cases E8 e0M a.States b.States<;>simp[c]
   ·have e:((a.States.length:Int) != (b.States.length:Int))=true:=by simp;omega
    simp[e0,e,p0R h]
 ·have e0:(a.Tags != b.Tags)=true:=by simpa using c
  simp[e0,c]
def f09 {α:Type}{p:α->α->Bool}:∀{a:List α},(∀x∈a,p x x=true)->E8 p a a=true
 |[],_=>rfl
 |x :: r,h=>by
  have b:=f09 (p:=p) (a:=r) (fun y c=>h y (by simp[c]));unfold E8 at b ⊢;simp only[beq_self_eq_true,Bool.true_and]at b ⊢;simp[h x X',b]
def z07 (a:Y1):j0v a a=true:=by
 unfold j0v;simp only[beq_self_eq_true,Bool.true_and,and_eq_true];refine⟨f09 X',f09 fun s _=>?_⟩;unfold e0M;simp only[beq_self_eq_true,Bool.true_and,and_eq_true];refine⟨f09 X',f09 fun x _=>?_⟩;unfold i0P;simp only[beq_self_eq_true,Bool.true_and];exact f09 X'
end Go.Proofs.YtihmgaccbcfgjaaGreat
namespace Go.Proofs.YtihmgaccbcfgjaaGreat
open Go.V Go.RowKit Go.X
variable {F:Nat}
def i0C (d:Y1)(i j:Nat):Prop:=∃x∈(gt d.States (i:Int)).Edges,x.To=(j:Int)
inductive c0i (d:Y1):Nat->Prop
 |zero:c0i d 0
 |step {i j:Nat}:c0i d i->i0C d i j->c0i d j
def tt (l:List Bool)(i:Nat):Prop:=l[i]?=some true
def v0o {l:List Bool}{i:Nat}(h:tt l i):i<l.length:=(List.getElem?_eq_some_iff.1 h).1
def a0A {l:List Bool}{i k:Nat}(hi:i<l.length):tt (l.set i true) k↔k=i\/tt l k:=by
 unfold tt;rw[List.getElem?_set]
 by_cases h:i=k
 ·subst h;simp[hi]
 ·simp[h,Ne.symm h]
def l04 {l:List Bool}{i:Nat}(hi:i<l.length):gt l (i:Int)=true↔tt l i:=by
 unfold tt;rw[X2 (x:=l[i]) (by simp[hi])];simp[hi]
def Full (d:Y1)(l:List Bool):Prop:=l.length=d.States.length/\∀k,tt l k↔c0i d k
def r0k {d:Y1}{l:List Bool}(hl:l.length=d.States.length)(a:tt l 0)(hs:∀k,tt l k->c0i d k)(c:∀i j,tt l i->i0C d i j->tt l j):Full d l:=by
 refine⟨hl,fun k=>⟨hs k,fun h=>?_⟩⟩
 induction h with
 |zero=>exact a
 |step _ hs b=>exact c _ _ b hs
def o8 (l:List Bool):Nat:=l.count false
def f0i {l:List Bool}{i:Nat}(hi:i<l.length)(h:¬tt l i):o8 (l.set i true)+1=o8 l:=by
 unfold o8 tt at *;have c:l[i]=false:=by
  rw[List.getElem?_eq_getElem hi]at h;cases e:l[i]
  ·rfl
  ·rw[e]at h;exact absurd rfl h
 have:=List.count_set (a:=true) (b:=false) hi;rw[this,c];have hp:0<l.count false:=List.count_pos_iff.2 (by rw[<-c];exact List.getElem_mem hi);simp;omega
structure QI (d:Y1)(o:List Bool)(t:List Int):Prop where
 len:o.length=d.States.length
 z:tt o 0
 snd:∀k,tt o k->c0i d k
 td:∀x∈t,∃k:Nat,x=(k:Int)/\tt o k
 ex:∀i j,tt o i->(i:Int)∉t->i0C d i j->tt o j
 nd:t.length+o8 o<=d.States.length
structure QJ (d:Y1)(q:Nat)(r:List Int)(c:Nat)(o:List Bool)(t:List Int):Prop where
 len:o.length=d.States.length
 z:tt o 0
 q_:tt o q
 snd:∀k,tt o k->c0i d k
 td:∀x∈t,∃k:Nat,x=(k:Int)/\tt o k
 hd:∃s,t=(q:Int) :: s
 ex:∀i j,tt o i->(i:Int)∉t->i0C d i j->tt o j
 dn:∀k,k<c->∀j:Nat,(gt (gt d.States (q:Int)).Edges (k:Int)).To=(j:Int)->tt o j
 nd:t.length+o8 o<=d.States.length
def A0B {d:Y1}(h:RdD d){o:List Bool}{q:Nat}{s:List Int}(u:QI d o ((q:Int) :: s))(hF:2000<F):
  ∃l I,iter (b0R F d o ((q:Int) :: s)) F (o,(q:Int) :: s,0)=some (l,(q:Int) :: I)/\QI d l I/\I.length+2*o8 l<((q:Int) :: s).length+2*o8 o:=by
 obtain⟨k0,b9,hq⟩:=u.td _ (List.mem_cons_self ..);obtain rfl:q=k0:=O'
 have b3:q<d.States.length:=by rw[<-u.len];exact v0o hq
 have hm:=b0x b3;have c0:=h.sm.ed _ hm;have c4:=h.sm.st;have key:∀(k i fu:Nat) (c:List Bool) (t1:List Int),i+k=(gt d.States (q:Int)).Edges.length->k<fu->QJ d q s i c t1->t1.length+2*o8 c<=((q:Int) :: s).length+2*o8 o->
   ∃l t,iter (b0R F d o ((q:Int) :: s)) fu (c,t1,(i:Int))=some (l,t)/\QJ d q s (gt d.States (q:Int)).Edges.length l t/\t.length+2*o8 l<=((q:Int) :: s).length+2*o8 o:=by
  intro k
  induction k with
  |zero=>
   intro i fu c t1 hi b7 a hn;obtain⟨fu,rfl⟩:∃m,fu=m+1:=⟨fu-1,O'⟩
   obtain rfl:i=(gt d.States (q:Int)).Edges.length:=O'
   refine⟨c,t1,?_,a,hn⟩;unfold iter b0R;have hg:gt ((q:Int) :: s) 0=(q:Int):=rfl;simp[hg]
  |succ k ih=>
   intro i fu c t1 hi b7 a hn;obtain⟨fu,rfl⟩:∃m,fu=m+1:=⟨fu-1,O'⟩
   have f:i<(gt d.States (q:Int)).Edges.length:=O'
   have hg:gt ((q:Int) :: s) 0=(q:Int):=rfl;have n:=b0x f;have b2:=h.to _ hm _ n;have g:∀(o2:List Bool) (t2:List Int),b0R F d o ((q:Int) :: s) (c,t1,(i:Int))=some (.next (o2,t2,((i+1:Nat):Int)))->QJ d q s (i+1) o2 t2->t2.length+2*o8 o2<=((q:Int) :: s).length+2*o8 o->
     ∃l t,iter (b0R F d o ((q:Int) :: s)) (fu+1) (c,t1,(i:Int))=some (l,t)/\QJ d q s (gt d.States (q:Int)).Edges.length l t/\t.length+2*o8 l<=((q:Int) :: s).length+2*o8 o:=by
    intro o2 t2 e b6 b5;unfold iter;rw[e];exact ih (i+1) fu o2 t2 O' O' b6 b5
   have hW:W ((i:Int)+1)=((i+1:Nat):Int):=Go.V.X1 O';rcases b2 with⟨h0,_⟩|⟨h1,h2,_⟩
   ·refine g c t1 ?_ ⟨a.len,a.z,a.q_,a.snd,a.td,a.hd,a.ex,fun k hk j C=>?_,a.nd⟩ hn
    ·unfold b0R;have:decide ((gt (gt d.States (q:Int)).Edges (i:Int)).To>=0)=false:=by simp;omega
     simp only[q0,hg,dec_lt f,Y7,f,this,hW]
    ·by_cases p:k<i
     ·exact a.dn k p j C
     ·obtain rfl:k=i:=O'
      omega
   ·obtain⟨j,C⟩:∃j:Nat,(gt (gt d.States (q:Int)).Edges (i:Int)).To=(j:Int):=⟨_,(Int.toNat_of_nonneg h1).symm⟩
    have b:j<c.length:=by rw[a.len];omega
    have R:i0C d q j:=⟨_,n,C⟩
    have e0:decide ((j:Int)>=0)=true:=X'
    by_cases ht:tt c j
    ·refine g c t1 ?_ ⟨a.len,a.z,a.q_,a.snd,a.td,a.hd,a.ex,fun k hk y w=>?_,a.nd⟩ hn
     ·have g1:gt c (j:Int)=true:=(l04 b).2 ht;unfold b0R;simp only[q0,hg,dec_lt f,Y7,f,C,e0,b,g1,hW]
     ·by_cases p:k<i
      ·exact a.dn k p y w
      ·obtain rfl:k=i:=O'
       obtain rfl:j=y:=O'
       exact ht
    ·have g1:gt c (j:Int)=false:=by
      cases e:gt c (j:Int)
      ·rfl
      ·exact absurd ((l04 b).1 e) ht
     have c3:=f0i b ht;have b4:K0 8 t1 [(j:Int)]=true:=B4 (by have:=a.nd;simp;omega);refine g (c.set j true) (t1++[(j:Int)]) ?_ ⟨by rw[List.length_set];exact a.len,(a0A b).2 (.inr a.z),(a0A b).2 (.inr a.q_),fun k hk=>?_,fun x n=>?_,?_,fun i' y v r hs=>?_,fun k hk y w=>?_,?_⟩ ?_
     ·unfold b0R;simp only[q0,hg,dec_lt f,Y7,f,C,e0,b,g1,b4,Int.toNat_natCast,hW]
     ·rcases(a0A b).1 hk with rfl|hk
      ·exact .step (a.snd _ a.q_) R
      ·exact a.snd k hk
     ·rcases List.mem_append.1 n with n|n
      ·obtain⟨k,h3,h4⟩:=a.td x n;exact⟨k,h3,(a0A b).2 (.inr h4)⟩
      ·exact⟨j,by simpa using n,(a0A b).2 (.inl rfl)⟩
     ·obtain⟨s1,b8⟩:=a.hd;exact⟨s1++[(j:Int)],by rw[b8];rfl⟩
     ·have J:(i':Int)∉t1:=fun h=>r (List.mem_append_left _ h);rcases(a0A b).1 v with rfl|v
      ·exact absurd (List.mem_append_right _ X') r
      ·exact(a0A b).2 (.inr (a.ex _ _ v J hs))
     ·by_cases p:k<i
      ·exact(a0A b).2 (.inr (a.dn k p y w))
      ·obtain rfl:k=i:=O'
       obtain rfl:j=y:=O'
       exact(a0A b).2 (.inl rfl)
     ·have:=a.nd;simp;omega
     ·simp only[List.length_append,List.length_cons,List.length_nil]at hn ⊢;omega
 obtain⟨l,t,e,a,hn⟩:=key (gt d.States (q:Int)).Edges.length 0 F o ((q:Int) :: s) O' O' ⟨u.len,u.z,hq,u.snd,u.td,⟨s,rfl⟩,u.ex,fun k hk=>O',u.nd⟩ (Nat.le_refl _);obtain⟨I,rfl⟩:=a.hd;refine⟨l,I,e,⟨a.len,a.z,a.snd,fun x n=>a.td x (by simp[n]),fun i j hi r hs=>?_,by have:=a.nd;simp at this;omega⟩,by simp at hn ⊢;omega⟩
 by_cases b1:i=q
 ·subst b1;obtain⟨x,n,a1⟩:=hs;obtain⟨k,hk,rfl⟩:=List.getElem_of_mem n;exact a.dn k hk j (by rw[X2 (x:=(gt d.States (i:Int)).Edges[k]) (by simp[hk])];exact a1)
 ·exact a.ex i j hi (fun U=>by rcases mem_cons.1 U with h|h;omega;exact r h) hs
def C03 (d:Y1)(hd:Sm d)(hF:100000<F):∃l,d0P F d=some l/\(a0V d=false/\l=[]\/a0V d=true/\Full d l):=by
 unfold d0P;rw[I07 d hd O'];cases R:a0V d
 ·exact⟨[],rfl,.inl ⟨rfl,rfl⟩⟩
 have h:=I0Q hd R;have J:=hd.st;have hp:=h.pos;have y:R2 1 (d.States.length:Int)=true:=by unfold R2;simp;omega
 have u:y0 (List.replicate (Int.toNat (d.States.length:Int)) false) 0=true:=V0 (Int.le_refl _) Z';simp only[q0,y,u];have c:0<(List.replicate (Int.toNat (d.States.length:Int)) false).length:=by simp;omega
 have p:QI d ((List.replicate (Int.toNat (d.States.length:Int)) false).set (Int.toNat 0) true) [0]:=by
  have g:∀k,¬tt (List.replicate (Int.toNat (d.States.length:Int)) false) k:=fun k hk=>by
   unfold tt at hk;rw[List.getElem?_replicate]at hk;split at hk<;>simp at hk
  have hz:Int.toNat 0=0:=rfl;rw[hz];refine⟨X',(a0A c).2 (.inl rfl),fun k hk=>?_,fun x hx=>⟨0,by simpa using hx,(a0A c).2 (.inl rfl)⟩,fun i j hi r _=>?_,?_⟩
  ·rcases(a0A c).1 hk with rfl|hk
   ·exact .zero
   ·exact absurd hk (g k)
  ·rcases(a0A c).1 hi with rfl|hi
   ·exact absurd X' r
   ·exact absurd hi (g i)
  ·have:=f0i c (g 0);have U:o8 (List.replicate (Int.toNat (d.States.length:Int)) false)=d.States.length:=by unfold o8;simp
   simp only[Int.toNat_natCast,List.length_cons,List.length_nil]at this U ⊢;omega
 have key:∀(n fu:Nat) (o:List Bool) (t:List Int),t.length+2*o8 o<=n->n<fu->QI d o t->∃l,iter (d0t F d) fu (o,t)=some l/\Full d l:=by
  intro n
  induction n with
  |zero=>
   intro fu o t hn w b;obtain⟨fu,rfl⟩:∃m,fu=m+1:=⟨fu-1,O'⟩
   obtain rfl:t=[]:=List.eq_nil_of_length_eq_zero O';refine⟨o,by unfold iter d0t;simp,r0k b.len b.z b.snd fun i j hi hs=>b.ex i j hi X' hs⟩
  |succ n ih=>
   intro fu o t hn w b;obtain⟨fu,rfl⟩:∃m,fu=m+1:=⟨fu-1,O'⟩
   cases t with
   |nil=>exact⟨o,by unfold iter d0t;simp,r0k b.len b.z b.snd fun i j hi hs=>b.ex i j hi X' hs⟩
   |cons x s=>
    obtain⟨q,rfl,hq⟩:=b.td x X';obtain⟨I,f,e,v,a1⟩:=A0B (F:=F) h b O';obtain⟨l,hl,a⟩:=ih fu I f O' O' v;refine⟨l,?_,a⟩;have C:q<d.States.length:=by rw[<-b.len];exact v0o hq
    have hg:gt ((q:Int) :: s) 0=(q:Int):=rfl;have e1:decide (((((q:Int) :: s).length:Nat):Int)>0)=true:=X'
    have e2:y0 ((q:Int) :: s) 0=true:=V0 (Int.le_refl _) X';have e3:P3 ((q:Int) :: f) 1 ((((q:Int) :: f).length:Nat):Int)=true:=by unfold P3;simp;omega
    have e4:G1 ((q:Int) :: f) 1 ((((q:Int) :: f).length:Nat):Int)=f:=by unfold G1;simp
    unfold iter;have hb:d0t F d (o,(q:Int) :: s)=some (.next (I,f)):=by
     unfold d0t;simp only[q0,e1,e2,hg,Y7,C,e,e3,e4]
    rw[hb];exact hl
 obtain⟨l,hl,a⟩:=key (2*d.States.length+1) F _ _ (by have:=p.nd;simp at this ⊢;omega) O' p;exact⟨l,by rw[hl];rfl,.inr ⟨trivial,a⟩⟩
