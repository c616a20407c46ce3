/- P. Its conditions: none. -/
import Derived.Test.YtdficaoajalfaaaGreatCG41
open List (map_append take_succ map_cons map_nil take_length ext_getElem getElem_map getElem_range getElem_mem)
open Bool (false_eq_true)
open Int (toNat_natCast)
set_option linter.all false
namespace Go.Proofs.YtdficaoajalfaaaGreat
open Go.V Go.RowKit Old
def Q2 (l:List C0)(h:y0):Q3:=⟨h,N4 l h.Steps⟩
def Y6 (l:List C0)(n:Nat)(a:List y0)(b:Nat->List y0)(e:Nat->y0×Bool)(z:y0×Bool):c0c:=
 ⟨l,(L2 l l.length).map fun q=>(gt l q).Set,a.map (Q2 l),(List.range n).map fun p=>(b p).map (Q2 l),(List.range n).map fun p=>Q2 l (e p).1,(List.range n).map fun p=>(e p).2,N4 l z.1.Steps,z.2,l5 l,z.1⟩
def y0L (l:List C0)(n:Nat)(a:List y0)(b:Nat->List y0)(e:Nat->y0×Bool)(at_ work:Int)(places:List Int)(tags:List (List Int))(rank:T3):c0b:=
 ⟨l,L2 l l.length,a,(List.range n).map b,(List.range n).map fun p=>(e p).1.Steps,at_,work,places,tags,rank⟩
def P2.sok {st:List Int}(h:P2 800 st):∀s∈st,SOk s:=fun s c=>by have:=h s c;unfold SOk;omega
def A0E {β:Type}(f:Nat->β)(i:Nat):(List.range (i+1)).map f=(List.range i).map f++[f i]:=by
 rw[List.range_succ,map_append];rfl
section
variable {F:Nat}
def u0c {l:List C0}(hR:K1 l=true){hops:List y0}(hlen:hops.length<=500000)(j:2000001<F)(f:N8 800 hops)(d:∀h∈hops,h.Steps.length<=2000000):h0o F l hops=some (hops.map (Q2 l)):=by
 unfold h0o;rw[s9];have:=R4 (step:=j0b F l hops) (fun i=>((hops.take i).map (Q2 l),(i:Int))) (hops.map (Q2 l)) hops.length (fun i hi=>.inl ?_) ?_ hops.length 0 F O' O'
 ·exact this
 ·unfold j0b;have h1:(i:Int)<(hops.length:Int):=O'
  have k:W ((i:Int)+1)=((i+1:Nat):Int):=by rw[n3 O' O'];omega
  have g:hops.take (i+1)=hops.take i++[gt hops (i:Int)]:=by rw[take_succ,u6 hi];rfl
  have hm:=List.mem_of_getElem? (u6 hi);have c:I0 64 ((hops.take i).map (Q2 l)) [(⟨gt hops (i:Int),N4 l (gt hops (i:Int)).Steps⟩:Q3)]=true:=by simp[I0];omega
  simp only[q0,h1,R0 (l:=hops) (i:=(i:Int)) O' h1,k,n0Q hR (d _ hm) j (P2.sok (f _ hm)),c,g,map_append,map_cons,map_nil,Q2]
 ·unfold j0b;have h1:¬((hops.length:Int)<(hops.length:Int)):=O'
  simp only[q0,h1,take_length]
variable {l:List C0}{n:Nat}{a:List y0}{b:Nat->List y0}{e:Nat->y0×Bool}{z:y0×Bool}
def C0Q (hR:K1 l=true)(hn:n=L0 l l.length)(T:j06 l n a b e z)(k:2000001<F)(TF:k0b l n a b e z F):j0X F l=some (Y6 l n a b e z):=by
 have h:=a0M hR;have u:=h.le;have t:=h.pos;have s:=T.n64;have v:(L2 l l.length).length=n:=by rw[I9,hn]
 have m:h08 F l=some l:=by unfold h08;rw[if_pos (by simp[I0];omega)]
 unfold j0X Y6;rw[m,show W ((l.length:Int)-1)=(l.length:Int)-1 from n3 O' O'];simp only[G0,TF.mA,u0c hR T.al k T.ab (fun h r=>(T.aw.ok h r).2.2),D0E hR (show 401<F from O'),TF.mL,TF.mZ,n0Q hR (show z.1.Steps.length<=2000000 by have:=T.zl;omega) k (P2.sok T.zb)];generalize o:L2 l l.length=lv at *;have:=R4 (step:=h0y F l lv) (fun i=>((i:Int),(l,(lv.take i).map (fun q=>(gt l q).Set),a.map (Q2 l),(List.range i).map (fun p=>(b p).map (Q2 l)),(List.range i).map (fun p=>Q2 l (e p).1),(List.range i).map (fun p=>(e p).2),l5 l,(⟨0,0,[]⟩:y0))))
  (l,lv.map (fun q=>(gt l q).Set),a.map (Q2 l),(List.range n).map (fun p=>(b p).map (Q2 l)),(List.range n).map (fun p=>Q2 l (e p).1),(List.range n).map (fun p=>(e p).2),l5 l,(⟨0,0,[]⟩:y0)) n (fun i hi=>.inl ?_) ?_ n 0 F O' O'
 ·have w:iter (h0y F l lv) F (0,(l,[],a.map (Q2 l),[],[],[],l5 l,(⟨0,0,[]⟩:y0)))=_:=this;rw[w];rfl
 ·unfold h0y;have h1:(i:Int)<(lv.length:Int):=O'
  have y:W ((i:Int)+1)=((i+1:Nat):Int):=by rw[n3 O' O'];omega
  obtain⟨q,C,d,_,_⟩:=c0J l l.length i (by rw[<-hn];exact hi);rw[o]at d;have hg:gt lv (i:Int)=(q:Int):=B4 d;have x:lv.take (i+1)=lv.take i++[(q:Int)]:=by rw[take_succ,d];rfl
  have f:I0 32 ((lv.take i).map (fun q=>(gt l q).Set)) [(gt l (q:Int)).Set]=true:=by simp[I0];omega
  have g:I0 24 ((List.range i).map (fun p=>(b p).map (Q2 l))) [(b i).map (Q2 l)]=true:=by simp[I0];omega
  have c:I0 64 ((List.range i).map (fun p=>Q2 l (e p).1)) [(⟨(e i).1,N4 l (e i).1.Steps⟩:Q3)]=true:=by simp[I0];omega
  have j:I0 1 ((List.range i).map (fun p=>(e p).2)) [(e i).2]=true:=by simp[I0];omega
  simp only[h1,decide_true,if_true,R0 (l:=lv) (i:=(i:Int)) O' h1,hg,R0 (l:=l) (i:=(q:Int)) O' O',f,TF.mB i hi,G0,u0c hR (T.bl i hi) k (T.bb i hi) (fun h r=>((T.bw i hi).ok h r).2.2),g,TF.mE i hi,
   n0Q hR (show(e i).1.Steps.length<=2000000 by have:=T.el i hi;omega) k (P2.sok (T.eb i hi)),c,j,y,x,A0E,map_append,map_cons,map_nil,Q2]
  simp only[Q2]at c;rw[if_pos c]
 ·unfold h0y;have h1:¬((n:Int)<(lv.length:Int)):=O'
  simp only[q0,h1];rw[List.take_of_length_le O']
def x0i (hR:K1 l=true)(hn:n=L0 l l.length)(T:j06 l n a b e z)(c:2000001<F)(TF:k0b l n a b e z F):c0T F l=some (.inr ⟨Y6 l n a b e z,0,0,[],[],⟨[],[]⟩⟩,0):=by
 unfold c0T;rw[TF.mR];simp only[q0,C0Q hR hn T c TF]
def L0v (hR:K1 l=true)(hn:n=L0 l l.length)(T:j06 l n a b e z)(r:2000001<F)(TF:k0b l n a b e z F):G0N F l=some (y0L l n a b e 0 0 [] [] ⟨[],[]⟩):=by
 have h:=a0M hR;have j:=h.le;have g:=h.pos;have f:=T.n64;have k:(L2 l l.length).length=n:=by rw[I9,hn]
 unfold G0N y0L;rw[show W ((l.length:Int)-1)=(l.length:Int)-1 from n3 O' O'];simp only[G0,TF.rA,TF.rL];generalize o:L2 l l.length=lv at *;have:=R4 (step:=F0E F l) (fun i=>((i:Int),(l,lv,a,(List.range i).map b,(List.range i).map (fun p=>(e p).1.Steps),0,0,(⟨[],[]⟩:T3))))
  (l,lv,a,(List.range n).map b,(List.range n).map (fun p=>(e p).1.Steps),0,0,(⟨[],[]⟩:T3)) n (fun i hi=>.inl ?_) ?_ n 0 F O' O'
 ·have m:iter (F0E F l) F (0,(l,lv,a,[],[],0,0,(⟨[],[]⟩:T3)))=_:=this;rw[m];rfl
 ·unfold F0E;have h1:(i:Int)<(lv.length:Int):=O'
  have q:W ((i:Int)+1)=((i+1:Nat):Int):=by rw[n3 O' O'];omega
  have c:I0 24 ((List.range i).map b) [b i]=true:=by simp[I0];omega
  have d:I0 24 ((List.range i).map (fun p=>(e p).1.Steps)) [(e i).1.Steps]=true:=by simp[I0];omega
  simp only[q0,h1,TF.rB i hi,c,TF.rE i hi,d,q,A0E]
 ·unfold F0E;have h1:¬((n:Int)<(lv.length:Int)):=O'
  simp only[q0,h1]
end
def V3 (n:Nat)(f:Nat->Int):List Int:=(List.range n).map f
def I2 (m n:Nat)(f:Nat->Nat->Int):List (List Int):=(List.range m).map fun i=>V3 n (f i)
def D3 (n:Nat)(fB fD:Nat->Nat->Int):T3:=⟨I2 n n fB,I2 n n fD⟩
@[simp] def i0R (n:Nat)(f:Nat->Int):(V3 n f).length=n:=by simp[V3]
@[simp] def q0M (m n:Nat)(f:Nat->Nat->Int):(I2 m n f).length=m:=by simp[I2]
def d0w {n i:Nat}(f:Nat->Int)(h:i<n):gt (V3 n f) (i:Int)=f i:=B4 (by simp[V3,h])
def a0g {m n i:Nat}(f:Nat->Nat->Int)(h:i<m):gt (I2 m n f) (i:Int)=V3 n (f i):=B4 (by simp[I2,h])
def a0P {n i:Nat}(f:Nat->Int)(h:i<n):B0 (V3 n f) (i:Int)=true:=R0 O' Z'
def U9 {m n i:Nat}(f:Nat->Nat->Int)(h:i<m):B0 (I2 m n f) (i:Int)=true:=R0 O' Z'
def G3 {i:Nat}(h:i<=1000000000):W ((i:Int)+1)=((i+1:Nat):Int):=by rw[n3 O' O'];omega
structure a0s (n:Nat)(fB fD:Nat->Nat->Int):Prop where
 b0:∀i k,i<n->k<n->0<=fB i k
 bd:∀i,i<n->fB i i=0
 dd:∀i,i<n->fD i i=0
 d1:∀i k,i<n->k<n->i≠k->fD i k=1\/fD i k=-1
 dn:∀i k,i<n->k<n->fD k i=- fD i k
section
variable {F n:Nat}{fB fD:Nat->Nat->Int}
def F0d (hn:n<=1000)(d:2000<F)(f:Nat->Nat->Int):h0T F (I2 n n f) (n:Int)=some true:=by
 unfold h0T;have:=R4 (step:=h0e F (I2 n n f) (n:Int)) (fun i=>(i:Int)) (.inr ()) n (fun i hi=>.inl ?_) ?_ n 0 F O' O'
 ·have c:iter (h0e F (I2 n n f) (n:Int)) F 0=_:=this;rw[c];simp[G0]
 ·unfold h0e;have h1:(i:Int)<((I2 n n f).length:Int):=by simp;omega
  simp only[q0,h1,U9 f hi,a0g f hi,i0R,bne_self_eq_false,G3 (i:=i) O']
 ·unfold h0e;have h1:¬((n:Int)<((I2 n n f).length:Int)):=Z9
  simp only[q0,h1]
def B0c (hn:n<=1000)(j:2000<F)(h:a0s n fB fD):k0h F (D3 n fB fD) (n:Int)=some true:=by
 unfold k0h D3;simp only[q0,F0d hn j];have:=R4 (step:=h0q F ⟨I2 n n fB,I2 n n fD⟩ (n:Int)) (fun i=>(i:Int)) (.inr ()) n (fun i hi=>.inl ?_) ?_ n 0 F O' O'
 ·have c:iter (h0q F ⟨I2 n n fB,I2 n n fD⟩ (n:Int)) F 0=_:=this;rw[c];rfl
 ·have d:=R4 (step:=g06 F ⟨I2 n n fB,I2 n n fD⟩ (n:Int) (i:Int)) (fun k=>(k:Int)) (.inr ()) n (fun k hk=>.inl ?_) ?_ n 0 F O' O'
  ·have c:iter (g06 F ⟨I2 n n fB,I2 n n fD⟩ (n:Int) (i:Int)) F 0=_:=d;unfold h0q;have h1:(i:Int)<(n:Int):=O'
   simp only[q0,h1,U9 _ hi,a0g _ hi,a0P _ hi,d0w _ hi,h.bd i hi,h.dd i hi,bne_self_eq_false,c,G3 (i:=i) O']
  ·unfold g06;have h1:(k:Int)<(n:Int):=O'
   have g:¬fB i k<0:=by have:=h.b0 i k hi hk;omega
   have hd:=h.dn i k hi hk;have m:W (0-fD i k)=- fD i k:=by
    by_cases e:i=k
    ·subst e;rw[h.dd i hi];rfl
    ·rcases h.d1 i k hi hk e with e|e<;>rw[e]<;>rfl
   simp only[q0,h1,U9 _ hi,U9 _ hk,a0g _ hi,a0g _ hk,a0P _ hi,a0P _ hk,d0w _ hi,d0w _ hk,g,s9,hd,m,bne_self_eq_false,G3 (i:=k) O']
   by_cases e:i=k
   ·subst e;simp[G0]
   ·have f:((i:Int) != (k:Int))=true:=by simp;omega
    rcases h.d1 i k hi hk e with e2|e2<;>simp[f,e2,G0]
  ·unfold g06;have h1:¬((n:Int)<(n:Int)):=O'
   simp only[q0,h1]
 ·unfold h0q;have h1:¬((n:Int)<(n:Int)):=O'
  simp only[q0,h1]
def i0o (hn:n<=1000)(c:2000<F)(h:a0s n fB fD):d00 F (D3 n fB fD)=some true:=by
 unfold d00;rw[s9,show((D3 n fB fD).B.length:Int)=(n:Int)from by simp[D3],B0c hn c h]
def i0q (hn:n<=1000)(o:2000<F)(h:a0s n fB fD):e02 F (D3 n fB fD) (n:Int)=some true:=by
 unfold e02 D3;simp only[q0,q0M,bne_self_eq_false];have:=R4 (step:=B0M F ⟨I2 n n fB,I2 n n fD⟩ (n:Int)) (fun i=>(i:Int)) (.inr ()) n (fun i hi=>.inl ?_) ?_ n 0 F O' O'
 ·have d:iter (B0M F ⟨I2 n n fB,I2 n n fD⟩ (n:Int)) F 0=_:=this;rw[d];simp only[G0];have:=R4 (step:=F0Q F ⟨I2 n n fB,I2 n n fD⟩ (n:Int)) (fun i=>(i:Int)) (.inr ()) n (fun i hi=>.inl ?_) ?_ n 0 F O' O'
  ·have d:iter (F0Q F ⟨I2 n n fB,I2 n n fD⟩ (n:Int)) F 0=_:=this;rw[d];rfl
  ·have f:=R4 (step:=F0K F ⟨I2 n n fB,I2 n n fD⟩ (n:Int) (i:Int)) (fun k=>(k:Int)) (.inr ()) n (fun k hk=>.inl ?_) ?_ n 0 F O' O'
   ·have d:iter (F0K F ⟨I2 n n fB,I2 n n fD⟩ (n:Int) (i:Int)) F 0=_:=f;unfold F0Q;have h1:(i:Int)<(n:Int):=O'
    simp only[q0,h1,d,G3 (i:=i) O']
   ·unfold F0K;have h1:(k:Int)<(n:Int):=O'
    have j:¬fB i k<0:=by have:=h.b0 i k hi hk;omega
    have hd:=h.dn i k hi hk;have m:W (0-fD i k)=- fD i k:=by
     by_cases e:i=k
     ·subst e;rw[h.dd i hi];rfl
     ·rcases h.d1 i k hi hk e with e|e<;>rw[e]<;>rfl
    simp only[q0,h1,U9 _ hi,U9 _ hk,a0g _ hi,a0g _ hk,a0P _ hi,a0P _ hk,d0w _ hi,d0w _ hk,j,s9,hd,m,bne_self_eq_false,G3 (i:=k) O']
    by_cases e:i=k
    ·subst e;simp[G0,h.bd i hi,h.dd i hi]
    ·have g:((i:Int) != (k:Int))=true:=by simp;omega
     have c:((i:Int)==(k:Int))=false:=by simp;omega
     rcases h.d1 i k hi hk e with e2|e2<;>simp[g,c,e2,G0]
   ·unfold F0K;have h1:¬((n:Int)<(n:Int)):=O'
    simp only[q0,h1]
  ·unfold F0Q;have h1:¬((n:Int)<(n:Int)):=O'
   simp only[q0,h1]
 ·unfold B0M;have h1:(i:Int)<(n:Int):=O'
  simp only[q0,h1,U9 _ hi,a0g _ hi,i0R,bne_self_eq_false,G3 (i:=i) O']
 ·unfold B0M;have h1:¬((n:Int)<(n:Int)):=O'
  simp only[q0,h1]
end
def C0L {n:Nat}{f g:Nat->Int}(h:∀k,k<n->f k=g k):V3 n f=V3 n g:=List.map_congr_left fun k hk=>h k (List.mem_range.1 hk)
def d0e {m n:Nat}{f g:Nat->Nat->Int}(h:∀i k,i<m->k<n->f i k=g i k):I2 m n f=I2 m n g:=
 List.map_congr_left fun i hi=>C0L fun k hk=>h i k (List.mem_range.1 hi) hk
def m02 {n k:Nat}{f:Nat->Int}{v:Int}:(V3 n f).set k v=V3 n fun j=>if j=k then v else f j:=by
 refine ext_getElem Z9 fun i h1 c=>?_;simp only[V3,List.getElem_set,getElem_map,getElem_range]
 by_cases e:k=i
 ·simp[e]
 ·rw[if_neg e,if_neg (fun h=>e h.symm)]
def l0b {m n i:Nat}{f:Nat->Nat->Int}{g:Nat->Int}:(I2 m n f).set i (V3 n g)=I2 m n fun a=>if a=i then g else f a:=by
 refine ext_getElem Z9 fun j h1 c=>?_;simp only[I2,List.getElem_set,getElem_map,getElem_range]
 by_cases e:i=j
 ·simp[e]
 ·rw[if_neg e,if_neg (fun h=>e h.symm)]
def C0u (n:Nat):List.replicate n (0:Int)=V3 n fun _=>0:=by
 refine ext_getElem Z9 fun i h1 c=>?_;simp[V3]
def z0Y (m n:Nat):List.replicate m (V3 n fun _=>0)=I2 m n fun _ _=>0:=by
 refine ext_getElem Z9 fun i h1 c=>?_;simp[I2]
section
variable {F n:Nat}{fB fD:Nat->Nat->Int}
def p02 (hn:n<=1000)(h:2000<F):d0Q F (n:Int)=some (I2 n n fun _ _=>0):=by
 unfold d0Q;have f:V2 24 (n:Int)=true:=by simp[V2];omega
 have d:V2 8 (n:Int)=true:=by simp[V2];omega
 simp only[f,if_true,toNat_natCast,List.length_replicate,s9];have:=R4 (step:=i0L F (n:Int) (n:Int)) (fun i=>((i:Int),List.replicate i (V3 n fun _=>0)++List.replicate (n-i) ([]:List Int))) (I2 n n fun _ _=>0) n (fun i hi=>.inl ?_) ?_ n 0 F O' O'
 ·exact this
 ·unfold i0L;have h1:(i:Int)<(n:Int):=O'
  have g:B0 (List.replicate i (V3 n fun _=>0)++List.replicate (n-i) ([]:List Int)) (i:Int)=true:=R0 O' Z';have c:(List.replicate i (V3 n fun _=>0)++List.replicate (n-i) ([]:List Int)).set i (V3 n fun _=>0)=List.replicate (i+1) (V3 n fun _=>0)++List.replicate (n-(i+1)) ([]:List Int):=by
   rw[List.set_append_right _ _ Z9,List.length_replicate,Nat.sub_self,show n-i=(n-(i+1))+1 from O',List.replicate_succ,List.set_cons_zero,List.replicate_succ' (n:=i),List.append_assoc];rfl
  simp only[h1,decide_true,if_true,d,g,toNat_natCast,C0u,c,G3 (i:=i) O']
 ·unfold i0L;have h1:¬((n:Int)<(n:Int)):=O'
  simp only[q0,h1,Nat.sub_self,List.replicate_zero,List.append_nil,z0Y]
def c06 (n:Nat)(fB:Nat->Nat->Int)(i k:Nat):Int:=if i<n/\k<n then fB i k else 0
def c0E (n:Nat)(fD:Nat->Nat->Int)(i k:Nat):Int:=if i<n/\k<n then fD i k else if i<n/\k=n then 1 else if i=n/\k<n then -1 else 0
def A0t (h:a0s n fB fD):a0s (n+1) (c06 n fB) (c0E n fD) where
 b0 i k hi hk:=by unfold c06;split;exact h.b0 i k O' O';omega
 bd i hi:=by unfold c06;split;exact h.bd i O';rfl
 dd i hi:=by
  unfold c0E;split
  ·exact h.dd i O'
  ·rw[if_neg O',if_neg O']
 d1 i k hi hk hne:=by
  unfold c0E
  by_cases h1:i<n/\k<n
  ·rw[if_pos h1];exact h.d1 i k h1.1 h1.2 hne
  ·rw[if_neg h1]
   by_cases c:i<n/\k=n
   ·rw[if_pos c];exact .inl rfl
   ·rw[if_neg c,if_pos O'];exact .inr rfl
 dn i k hi hk:=by
  unfold c0E
  by_cases h1:i<n/\k<n
  ·rw[if_pos h1,if_pos ⟨h1.2,h1.1⟩];exact h.dn i k h1.1 h1.2
  ·rw[if_neg h1,if_neg (fun h=>h1 ⟨h.2,h.1⟩)]
   by_cases c:i<n/\k=n
   ·rw[if_pos c,if_neg O',if_pos ⟨c.2,c.1⟩]
   ·rw[if_neg c]
    by_cases d:i=n/\k<n
    ·rw[if_pos d,if_pos ⟨d.2,d.1⟩];rfl
    ·rw[if_neg d,if_neg (fun h=>d ⟨h.2,h.1⟩),if_neg (fun h=>c ⟨h.2,h.1⟩)];rfl
def F0x {m:Nat}(hm:n<=m)(f g:Nat->Int):G4 (V3 m f) (V3 n g)=V3 m fun k=>if k<n then g k else f k:=by
 unfold G4;rw[i0R,i0R,List.take_of_length_le (by simp;exact hm)];refine ext_getElem Z' fun i h1 c=>?_;simp only[i0R]at c
 by_cases e:i<n
 ·rw[List.getElem_append_left (by simpa using e)];simp[V3,e]
 ·rw[List.getElem_append_right Z'];simp only[V3,List.getElem_drop,List.length_map,List.length_range,getElem_map,getElem_range,if_neg e];congr 1;omega
def sB (n:Nat)(fB:Nat->Nat->Int)(i a k:Nat):Int:=if a<i/\k<n then fB a k else 0
def sD (n:Nat)(fD:Nat->Nat->Int)(i a k:Nat):Int:=if a<i/\k<n then fD a k else if a<i/\k=n then 1 else if a=n/\k<i then -1 else 0
def x0d (hn:n<=900)(o:2000<F)(h:a0s n fB fD):g0m F (D3 n fB fD)=some (D3 (n+1) (c06 n fB) (c0E n fD)):=by
 unfold g0m;rw[i0o O' o h];have hlen:((D3 n fB fD).B.length:Int)=(n:Int):=by simp[D3]
 simp only[q0,hlen,G3 (i:=n) O',p02 (n:=n+1) (F:=F) O' o];have:=R4 (step:=g0Q F (D3 n fB fD)) (fun i=>((i:Int),I2 (n+1) (n+1) (sB n fB i),I2 (n+1) (n+1) (sD n fD i))) (I2 (n+1) (n+1) (c06 n fB),I2 (n+1) (n+1) (c0E n fD)) n (fun i hi=>.inl ?_) ?_ n 0 F O' O'
 ·have q:I2 (n+1) (n+1) (sB n fB 0)=I2 (n+1) (n+1) fun _ _=>0:=d0e fun i k _ _=>by unfold sB;rw[if_neg O']
  have c:I2 (n+1) (n+1) (sD n fD 0)=I2 (n+1) (n+1) fun _ _=>0:=d0e fun i k _ _=>by unfold sD;rw[if_neg O',if_neg O',if_neg O']
  rw[q,c]at this;have p:iter (g0Q F (D3 n fB fD)) F (0,I2 (n+1) (n+1) (fun _ _=>0),I2 (n+1) (n+1) fun _ _=>0)=_:=this;rw[p];rfl
 ·unfold g0Q;have h1:(i:Int)<(n:Int):=O'
  have f:i<n+1:=O'
  have g:n<n+1:=O'
  simp only[hlen,h1,decide_true,if_true];simp only[D3,U9 _ hi,U9 _ f,a0g _ hi,a0g _ f,if_true,F0x (show n<=n+1 from O'),toNat_natCast,l0b,U9 _ g,a0P _ g,a0g _ g,m02,a0P _ f,G3 (i:=i) O'];congr 1;congr 1;congr 1;congr 1
  ·refine d0e fun a k ha hk=>?_;unfold sB
   by_cases e:a=i
   ·subst e;simp only[if_true]
    by_cases c:k<n
    ·simp[c]
    ·simp[c]
   ·simp only[e,if_false]
    by_cases c:a<i/\k<n
    ·rw[if_pos c,if_pos O']
    ·rw[if_neg c,if_neg O']
  ·refine d0e fun a k ha hk=>?_;have j:¬n=i:=O'
   unfold sD
   by_cases e:a=n
   ·subst e;simp only[if_true,j,if_false]
    by_cases d:k=i
    ·subst d;simp;omega
    ·simp only[d,if_false];rw[if_neg O',if_neg O',if_neg (show ¬(a<i+1/\k<a) from O'),if_neg (show ¬(a<i+1/\k=a) from O')]
     by_cases m:k<i
     ·rw[if_pos ⟨trivial,m⟩,if_pos ⟨trivial,O'⟩]
     ·rw[if_neg (fun h=>m h.2),if_neg O']
   ·by_cases c:a=i
    ·subst c;simp only[j,if_false,if_true,e]
     by_cases d:k=n
     ·subst d;simp
     ·have:k<n:=O'
      simp[d,this]
    ·simp only[e,c,if_false]
     by_cases d:a<i/\k<n
     ·rw[if_pos d,if_pos O']
     ·rw[if_neg d,if_neg (show ¬(a<i+1/\k<n) from O')]
      by_cases m:a<i/\k=n
      ·rw[if_pos m,if_pos O']
      ·rw[if_neg m,if_neg (show ¬(a<i+1/\k=n) from O'),if_neg (fun h=>h.1),if_neg (fun h=>h.1)]
 ·unfold g0Q;have h1:¬((n:Int)<(n:Int)):=O'
  simp only[q0,hlen,h1];congr 1
def I0z (hn:n<=1000)(g:2000<F):w0V F (n:Int)=some (I2 n n fun _ _=>0,I2 n n fun _ _=>0):=by
 unfold w0V;have:=R4 (step:=F0J F (n:Int)) (fun i=>((i:Int),(I2 i n fun _ _=>0,I2 i n fun _ _=>0))) (I2 n n fun _ _=>0,I2 n n fun _ _=>0) n (fun i hi=>.inl ?_) ?_ n 0 F O' O'
 ·have f:iter (F0J F (n:Int)) F (0,([],[]))=_:=this;rw[f];rfl
 ·unfold F0J;have h1:(i:Int)<(n:Int):=O'
  have hm:V2 8 (n:Int)=true:=by simp[V2];omega
  have c:I0 24 (I2 i n fun _ _=>0) [V3 n fun _=>0]=true:=by simp[I0];omega
  have d:I2 (i+1) n (fun _ _=>0)=I2 i n (fun _ _=>0)++[V3 n fun _=>0]:=A0E _ i;simp only[h1,decide_true,if_true,hm,toNat_natCast,C0u,c,d,G3 (i:=i) O']
 ·unfold F0J;have h1:¬((n:Int)<(n:Int)):=O'
  simp only[q0,h1]
def inB (f:Nat->Nat->Int)(g:Nat->Nat->Int)(i k a j:Nat):Int:=if a=i/\j<k then f a j else g a j
def L0z (hn:n<=900)(p:2000<F){i:Nat}(hi:i<n)(f g:Nat->Nat->Int):iter (C0n F (D3 n fB fD) (i:Int)) F (0,I2 (n+1) (n+1) f,I2 (n+1) (n+1) g)=some (I2 (n+1) (n+1) (inB fB f i n),I2 (n+1) (n+1) (inB fD g i n)):=by
 have hlen:((D3 n fB fD).B.length:Int)=(n:Int):=by simp[D3]
 have c:i<n+1:=O'
 have:=R4 (step:=C0n F (D3 n fB fD) (i:Int)) (fun k=>((k:Int),I2 (n+1) (n+1) (inB fB f i k),I2 (n+1) (n+1) (inB fD g i k))) (I2 (n+1) (n+1) (inB fB f i n),I2 (n+1) (n+1) (inB fD g i n)) n (fun k hk=>.inl ?_) ?_ n 0 F O' O'
 ·have e:∀(u v:Nat->Nat->Int),I2 (n+1) (n+1) (inB u v i 0)=I2 (n+1) (n+1) v:=fun u v=>d0e fun a j _ _=>by unfold inB;rw[if_neg O']
  rw[e,e]at this;exact this
 ·unfold C0n;have h1:(k:Int)<(n:Int):=O'
  have d:k<n+1:=O'
  have e:∀(u v:Nat->Nat->Int),I2 (n+1) (n+1) (fun a=>if a=i then(fun j=>if j=k then u i k else inB u v i k i j)else inB u v i k a)=I2 (n+1) (n+1) (inB u v i (k+1)):=fun u v=>d0e fun a j _ _=>by
   unfold inB
   by_cases h:a=i
   ·subst h;simp only[if_true,true_and]
    by_cases o:j=k
    ·subst o;simp
    ·simp only[o,if_false]
     by_cases m:j<k
     ·rw[if_pos m,if_pos O']
     ·rw[if_neg m,if_neg O']
   ·simp[h]
  simp only[hlen,h1,decide_true,if_true];simp only[D3,U9 _ hi,U9 _ c,a0g _ hi,a0g _ c,a0P _ hk,a0P _ d,d0w _ hk,if_true,toNat_natCast,m02,l0b,e,G3 (i:=k) O']
 ·unfold C0n;have h1:¬((n:Int)<(n:Int)):=O'
  simp only[q0,hlen,h1]
def L0w (hn:n<=900)(o:2000<F)(h:a0s n fB fD):F0S F (D3 n fB fD)=some (D3 (n+1) (c06 n fB) (c0E n fD)):=by
 unfold F0S;have hlen:((D3 n fB fD).B.length:Int)=(n:Int):=by simp[D3]
 rw[hlen,i0q O' o h];simp only[q0,G3 (i:=n) O',I0z (n:=n+1) (F:=F) O' o];have:=R4 (step:=F04 F (D3 n fB fD)) (fun i=>((i:Int),I2 (n+1) (n+1) (sB n fB i),I2 (n+1) (n+1) (sD n fD i))) (I2 (n+1) (n+1) (c06 n fB),I2 (n+1) (n+1) (c0E n fD)) n (fun i hi=>.inl ?_) ?_ n 0 F O' O'
 ·have q:I2 (n+1) (n+1) (sB n fB 0)=I2 (n+1) (n+1) fun _ _=>0:=d0e fun i k _ _=>by unfold sB;rw[if_neg O']
  have c:I2 (n+1) (n+1) (sD n fD 0)=I2 (n+1) (n+1) fun _ _=>0:=d0e fun i k _ _=>by unfold sD;rw[if_neg O',if_neg O',if_neg O']
  rw[q,c]at this;have p:iter (F04 F (D3 n fB fD)) F (0,I2 (n+1) (n+1) (fun _ _=>0),I2 (n+1) (n+1) fun _ _=>0)=_:=this;rw[p];rfl
 ·unfold F04;have h1:(i:Int)<(n:Int):=O'
  have f:i<n+1:=O'
  have g:n<n+1:=O'
  simp only[q0,hlen,h1,L0z hn o hi];simp only[U9 _ f,a0g _ f,if_true,toNat_natCast,l0b,U9 _ g,a0P _ g,a0g _ g,m02,a0P _ f,G3 (i:=i) O'];congr 1;congr 1;congr 1;congr 1
  ·refine d0e fun a k ha hk=>?_;unfold inB sB
   by_cases e:a=i
   ·subst e
    by_cases c:k<n
    ·simp[c]
    ·simp[c]
   ·rw[if_neg (fun h=>e h.1)]
    by_cases c:a<i/\k<n
    ·rw[if_pos c,if_pos O']
    ·rw[if_neg c,if_neg O']
  ·refine d0e fun a k ha hk=>?_;have j:¬n=i:=O'
   unfold inB sD
   by_cases e:a=n
   ·subst e;simp only[if_true,j,if_false,false_and]
    by_cases d:k=i
    ·subst d;simp;omega
    ·simp only[d,if_false];rw[if_neg O',if_neg O',if_neg (show ¬(a<i+1/\k<a) from O'),if_neg (show ¬(a<i+1/\k=a) from O')]
     by_cases m:k<i
     ·rw[if_pos ⟨trivial,m⟩,if_pos ⟨trivial,O'⟩]
     ·rw[if_neg (fun h=>m h.2),if_neg O']
   ·by_cases c:a=i
    ·subst c;simp only[j,if_false,if_true,e]
     by_cases d:k=n
     ·subst d;simp
     ·have:k<n:=O'
      simp[d,this]
    ·simp only[e,c,if_false,false_and]
     by_cases d:a<i/\k<n
     ·rw[if_pos d,if_pos O']
     ·rw[if_neg d,if_neg (show ¬(a<i+1/\k<n) from O')]
      by_cases m:a<i/\k=n
      ·rw[if_pos m,if_pos O']
      ·rw[if_neg m,if_neg (show ¬(a<i+1/\k=n) from O')]
 ·unfold F04;have h1:¬((n:Int)<(n:Int)):=O'
  simp only[q0,hlen,h1];congr 1
end
def J2 (l:List Nat):List Int:=l.map fun n:Nat=>(n:Int)
@[simp] def i0f (l:List Nat):(J2 l).length=l.length:=by simp[J2]
def r0M {l:List Nat}{i:Nat}(h:i<l.length):gt (J2 l) (i:Int)=((l[i]:Nat):Int):=B4 (by simp[J2,h])
def a0h {l:List Nat}{i:Nat}(h:i<l.length):B0 (J2 l) (i:Int)=true:=R0 O' Z'
def a0U (fD:Nat->Nat->Int)(K3:Int)(i:Nat):Int:=if K3<0 then(i:Int)else if 0<fD i K3.toNat then(i:Int)else K3
def q9 (fD:Nat->Nat->Int)(of:List Nat):Int:=of.foldl (a0U fD) (-1)
def p0m {α:Type}{l:List α}{i:Nat}(h:i<l.length):l.take (i+1)=l.take i++[l[i]]:=by rw[take_succ,List.getElem?_eq_getElem h];rfl
def w0E (fD:Nat->Nat->Int)(l:List Nat)(i:Nat):q9 fD (l++[i])=a0U fD (q9 fD l) i:=by simp[q9]
def o0f {n:Nat}{fD:Nat->Nat->Int}(of:List Nat)(h:∀i∈of,i<n):q9 fD of=-1\/∃k:Nat,q9 fD of=k/\k<n:=by
 have:∀(of:List Nat) (b:Int),(b=-1\/∃k:Nat,b=k/\k<n)->(∀i∈of,i<n)->(of.foldl (a0U fD) b=-1\/∃k:Nat,of.foldl (a0U fD) b=k/\k<n):=by
  intro of
  induction of with
  |nil=>intro b c _;exact c
  |cons x r ih=>
   intro b c hi;refine ih _ ?_ (fun i h=>hi i (List.mem_cons_of_mem _ h));have d:=hi x Z9;unfold a0U;split
   ·exact .inr ⟨x,rfl,d⟩
   ·split
    ·exact .inr ⟨x,rfl,d⟩
    ·exact c
 exact this of (-1) (.inl rfl) h
section
variable {F n:Nat}{fB fD:Nat->Nat->Int}
def A0c (hn:n<=1000)(q:2000<F)(h:a0s n fB fD)(of:List Nat)(p:of.length<=1000)(hi:∀i∈of,i<n):i0l F (D3 n fB fD) (J2 of)=some (q9 fD of):=by
 unfold i0l;rw[i0o hn q h];simp only[q0,s9];have:=R4 (step:=j0l F (D3 n fB fD) (J2 of)) (fun i=>(q9 fD (of.take i),(i:Int))) (q9 fD of) of.length (fun i c=>.inl ?_) ?_ of.length 0 F O' O'
 ·exact this
 ·unfold j0l e0p;have h1:(i:Int)<((J2 of).length:Int):=by simp;omega
  have g:=hi of[i] (getElem_mem c);have m:((of[i]:Nat):Int)>=0:=O'
  have j:((of[i]:Nat):Int)<((D3 n fB fD).B.length:Int):=by simp[D3];omega
  simp only[q0,h1,a0h c,r0M c,m,j,s9,p0m c,w0E,G3 (i:=i) O'];have o:=o0f (fD:=fD) (of.take i) (n:=n) (fun i h=>hi i (List.mem_of_mem_take h));generalize q9 fD (of.take i)=b at *;rcases o with rfl|⟨k,rfl,hk⟩
  ·simp[a0U,G0]
  ·have d:¬((k:Int)<0):=O'
   simp only[q0,D3,d,U9 _ g,a0g _ g,a0P _ hk,d0w _ hk,a0U,toNat_natCast]
   by_cases f:0<fD of[i] k
   ·have r:fD of[i] k>0:=f;simp[f,G0]
   ·simp[f,G0]
 ·unfold j0l;have h1:¬((of.length:Int)<((J2 of).length:Int)):=Z9
  simp only[q0,h1,take_length]
def J0z (hn:n<=1000)(g:2000<F)(h:a0s n fB fD)(of:List Nat)(q:of.length<=1000)(hi:∀i∈of,i<n):G0l F (D3 n fB fD) (J2 of)=some (q9 fD of):=by
 unfold G0l;have hlen:((D3 n fB fD).B.length:Int)=(n:Int):=by simp[D3]
 rw[s9];have:=R4 (step:=G0v F (D3 n fB fD) (J2 of)) (fun i=>(q9 fD (of.take i),(i:Int))) (q9 fD of) of.length (fun i c=>.inl ?_) ?_ of.length 0 F O' O'
 ·exact this
 ·unfold G0v;have h1:(i:Int)<((J2 of).length:Int):=by simp;omega
  have f:=hi of[i] (getElem_mem c);have o:¬((of[i]:Nat):Int)<0:=O'
  have m:¬((of[i]:Nat):Int)>=(n:Int):=O'
  simp only[q0,hlen,i0q hn g h,h1,a0h c,r0M c,o,m,s9,p0m c,w0E,G3 (i:=i) O'];have p:=o0f (fD:=fD) (of.take i) (n:=n) (fun i h=>hi i (List.mem_of_mem_take h));generalize q9 fD (of.take i)=b at *;rcases p with rfl|⟨k,rfl,hk⟩
  ·simp[a0U,G0]
  ·have d:¬((k:Int)<0):=O'
   simp only[q0,D3,d,U9 _ f,a0g _ f,a0P _ hk,d0w _ hk,a0U,toNat_natCast]
   by_cases j:0<fD of[i] k
   ·simp[j,G0]
   ·simp[j,G0]
 ·unfold G0v;have h1:¬((of.length:Int)<((J2 of).length:Int)):=Z9
  simp only[q0,hlen,i0q hn g h,h1,take_length]
end
def J4 (b t:Int):Int:=if W (t+1)<b then W (t+1)else b
def i7 (fB fD:Nat->Nat->Int)(a b:Nat)(p q:y0):Int:=
 if J4 (fB a b) p.Turn>J4 (fB b a) q.Turn then 1 else if J4 (fB a b) p.Turn<J4 (fB b a) q.Turn then -1 else fD a b
def e0A (fB fD:Nat->Nat->Int)(fr:List Nat)(hops:List y0)(K3:Int)(i:Nat):Int:=
 if K3<0 then(i:Int)else if 0<i7 fB fD (fr.getD i 0) (fr.getD K3.toNat 0) (gt hops (i:Int)) (gt hops K3)then(i:Int)else K3
def c0a (fB fD:Nat->Nat->Int)(fr:List Nat)(hops:List y0)(k:Nat):Int:=(List.range k).foldl (e0A fB fD fr hops) (-1)
def f0y (fB fD:Nat->Nat->Int)(fr:List Nat)(hops:List y0):Int:=c0a fB fD fr hops fr.length
def i0n (fB fD:Nat->Nat->Int)(fr:List Nat)(hops:List y0)(k:Nat):c0a fB fD fr hops (k+1)=e0A fB fD fr hops (c0a fB fD fr hops k) k:=by simp[c0a,List.range_succ]
def l0Q (fB fD:Nat->Nat->Int)(fr:List Nat)(hops:List y0):∀k,c0a fB fD fr hops k=-1\/∃j:Nat,c0a fB fD fr hops k=j/\j<k:=by
 intro k
 induction k with
 |zero=>exact .inl rfl
 |succ k ih=>
  rw[i0n];unfold e0A;split
  ·exact .inr ⟨k,rfl,O'⟩
  ·split
   ·exact .inr ⟨k,rfl,O'⟩
   ·rcases ih with h|⟨j,h,hj⟩
    ·exact .inl h
    ·exact .inr ⟨j,h,O'⟩
section
variable {F n:Nat}{fB fD:Nat->Nat->Int}{fr:List Nat}{hops:List y0}
def a0G {l:List Nat}{i:Nat}(h:i<l.length):gt (J2 l) (i:Int)=((l.getD i 0:Nat):Int):=by rw[r0M h];simp[List.getD,h]
def E8 (hi:∀i∈fr,i<n){i:Nat}(h:i<fr.length):fr.getD i 0<n:=by
 have:=hi fr[i] (getElem_mem h);simpa[List.getD,h]using this
def j02 (hlen:hops.length=fr.length)(hi:∀i∈fr,i<n){i k:Nat}(h1:i<fr.length)(c:k<fr.length):
  e0M F ⟨D3 n fB fD,J2 fr,hops⟩ (i:Int) (k:Int)=some (J4 (fB (fr.getD i 0) (fr.getD k 0)) (gt hops (i:Int)).Turn):=by
 have x1:=E8 hi h1;have x2:=E8 hi c;unfold e0M J4;simp only[D3,a0h h1,a0h c,a0G h1,a0G c,U9 _ x1,a0g _ x1,a0P _ x2,d0w _ x2,if_true,R0 (l:=hops) (i:=(i:Int)) O' O']
def p0R (hlen:hops.length=fr.length)(hi:∀i∈fr,i<n){i k:Nat}(h1:i<fr.length)(c:k<fr.length):
  h0v F ⟨D3 n fB fD,J2 fr,hops⟩ (i:Int) (k:Int)=some (i7 fB fD (fr.getD i 0) (fr.getD k 0) (gt hops (i:Int)) (gt hops (k:Int))):=by
 have x1:=E8 hi h1;have x2:=E8 hi c;unfold h0v i7;rw[j02 hlen hi h1 c,j02 hlen hi c h1];simp only[G0,D3,a0h h1,a0h c,a0G h1,a0G c,U9 _ x1,a0g _ x1,a0P _ x2,d0w _ x2,if_true,decide_eq_true_eq];split
 ·rfl
 ·split<;>rfl
def I0e (b t:Int):u09 F b t=some (J4 b t):=by
 unfold u09 J4
 by_cases h:b<W (t+1)
 ·simp only[h,decide_true,if_true];rw[if_neg O']
 ·simp only[q0,h]
  by_cases c:W (t+1)<b
  ·rw[if_pos c]
  ·rw[if_neg c];congr 1;omega
def H01 {a b:Nat}(ha:a<n)(c:b<n)(p q:y0):F0H F (D3 n fB fD) (a:Int) (b:Int) p q=some (i7 fB fD a b p q):=by
 unfold F0H i7;simp only[D3,U9 _ ha,U9 _ c,a0g _ ha,a0g _ c,a0P _ ha,a0P _ c,d0w _ ha,d0w _ c,if_true,I0e,G0,decide_eq_true_eq];split
 ·rfl
 ·split<;>rfl
def r0T (hn:n<=1000)(r:2000<F)(h:a0s n fB fD)(hlen:hops.length=fr.length)(q:fr.length<=1000)(hi:∀i∈fr,i<n):f0V F (D3 n fB fD) (J2 fr) hops=some (f0y fB fD fr hops):=by
 unfold f0V;rw[i0o hn r h];have g:(if(hops.length:Int)<((J2 fr).length:Int)then(hops.length:Int)else((J2 fr).length:Int))=(fr.length:Int):=by rw[i0f,hlen];simp
 simp only[q0,s9,g];have:=R4 (step:=j0q F (D3 n fB fD) (J2 fr) hops (fr.length:Int)) (fun i=>(c0a fB fD fr hops i,(i:Int))) (f0y fB fD fr hops) fr.length (fun i c=>.inl ?_) ?_ fr.length 0 F O' O'
 ·exact this
 ·unfold j0q e0p;have h1:(i:Int)<(fr.length:Int):=O'
  have s:=E8 hi c;have m:((fr.getD i 0:Nat):Int)>=0:=O'
  have p:((fr.getD i 0:Nat):Int)<((D3 n fB fD).B.length:Int):=by simp only[D3,q0M];omega
  simp only[q0,h1,a0h c,a0G c,m,p,s9,i0n,G3 (i:=i) O'];have o:=l0Q fB fD fr hops i;generalize c0a fB fD fr hops i=b at *;rcases o with rfl|⟨k,rfl,hk⟩
  ·simp[e0A,G0]
  ·have j:¬((k:Int)<0):=O'
   simp only[q0,j,p0R hlen hi c (show k<fr.length from O'),e0A,toNat_natCast]
   by_cases f:0<i7 fB fD (fr.getD i 0) (fr.getD k 0) (gt hops (i:Int)) (gt hops (k:Int))
   ·have d:i7 fB fD (fr.getD i 0) (fr.getD k 0) (gt hops (i:Int)) (gt hops (k:Int))>0:=f;simp only[q0,f,d]
   ·have d:¬i7 fB fD (fr.getD i 0) (fr.getD k 0) (gt hops (i:Int)) (gt hops (k:Int))>0:=f;simp only[q0,f,d]
 ·unfold j0q;have h1:¬((fr.length:Int)<(fr.length:Int)):=O'
  simp only[q0,h1];rfl
def L09 (hn:n<=1000)(r:2000<F)(h:a0s n fB fD)(hlen:hops.length=fr.length)(w:fr.length<=1000)(hi:∀i∈fr,i<n):B0D F (D3 n fB fD) (J2 fr) hops=some (f0y fB fD fr hops):=by
 unfold B0D;have g:((D3 n fB fD).B.length:Int)=(n:Int):=by simp[D3]
 rw[s9];have:=R4 (step:=G0O F (D3 n fB fD) (J2 fr) hops) (fun i=>(c0a fB fD fr hops i,(i:Int))) (f0y fB fD fr hops) fr.length (fun i c=>.inl ?_) ?_ fr.length 0 F O' O'
 ·exact this
 ·unfold G0O;have h1:(i:Int)<((J2 fr).length:Int):=by simp;omega
  have j:(i:Int)<(hops.length:Int):=O'
  have s:=E8 hi c;have t:¬((fr.getD i 0:Nat):Int)<0:=O'
  have v:¬((fr.getD i 0:Nat):Int)>=(n:Int):=O'
  have q:B0 hops (i:Int)=true:=R0 O' j;simp only[q0,g,i0q hn r h,h1,j,a0h c,a0G c,t,v,s9,i0n,G3 (i:=i) O',q];have u:=l0Q fB fD fr hops i;generalize c0a fB fD fr hops i=b at *;rcases u with rfl|⟨k,rfl,hk⟩
  ·simp[e0A,G0]
  ·have p:¬((k:Int)<0):=O'
   have d:k<fr.length:=O'
   have o:B0 hops (k:Int)=true:=R0 O' O';simp only[q0,p,a0h d,a0G d,o,H01 s (E8 hi d),e0A,toNat_natCast]
   by_cases m:0<i7 fB fD (fr.getD i 0) (fr.getD k 0) (gt hops (i:Int)) (gt hops (k:Int))
   ·have f:i7 fB fD (fr.getD i 0) (fr.getD k 0) (gt hops (i:Int)) (gt hops (k:Int))>0:=m;simp only[q0,m,f]
   ·have f:¬i7 fB fD (fr.getD i 0) (fr.getD k 0) (gt hops (i:Int)) (gt hops (k:Int))>0:=m;simp only[q0,m,f]
 ·unfold G0O;have h1:¬((fr.length:Int)<((J2 fr).length:Int)):=Z9
  simp only[q0,g,i0q hn r h,h1];rfl
end
def S6 (now none_:Int)(tags:List Int)(marks:List G2):List Int:=marks.foldl (o5 now none_) tags
def m0K (now none_:Int)(o:List Int)(m:G2):(o5 now none_ o m).length=o.length:=by
 unfold o5;split
 ·rfl
 ·split
  ·simp
  ·split
   ·simp
   ·split
    ·simp
    ·rfl
def h0s (now none_:Int):∀(marks:List G2) (o:List Int),(S6 now none_ o marks).length=o.length
 |[],o=>rfl
 |m :: r,o=>by
  have h:=h0s now none_ r (o5 now none_ o m);rw[m0K]at h;exact h
section
variable {F:Nat}
def m04 {tags:List Int}{marks:List G2}{now none_:Int}(c:tags.length<=1000)(hm:marks.length<=1000000000):d0i F tags marks now none_=some (S6 now none_ tags marks):=by
 unfold d0i;rw[if_pos (by simp[I0];omega)];rfl
def J0U {marks:List G2}{now none_:Int}{o:List Int}(v:o.length<=1000){i:Nat}(hi:i<marks.length)(hm:marks.length<=1000000000):
  v0Y F marks now none_ ((i:Int),o)=some (.next (((i+1:Nat):Int),o5 now none_ o (gt marks (i:Int)))):=by
 unfold v0Y o5;have h1:(i:Int)<(marks.length:Int):=O'
 have k:B0 marks (i:Int)=true:=R0 O' h1;simp only[h1,decide_true,if_true,k,G3 (i:=i) O'];generalize gt marks (i:Int)=m
 by_cases d:m.Group<1
 ·simp[d,G0]
 ·by_cases r:m.Group>(o.length:Int)
  ·have c:((o.length:Int)-1) / 2<m.Group:=O'
   simp[d,r,c,G0]
  ·have u:W (2*m.Group)=2*m.Group:=n3 O' O';have j:W (2*m.Group-1)=2*m.Group-1:=n3 O' O';simp only[q0,d,r,u,j]
   by_cases q:2*m.Group>=(o.length:Int)
   ·have c:((o.length:Int)-1) / 2<m.Group:=O'
    simp only[q0,q,c,or_true]
   ·have c:¬((o.length:Int)-1) / 2<m.Group:=O'
    have h:B0 o (2*m.Group-1)=true:=R0 O' O';have f:B0 o (2*m.Group)=true:=R0 O' O';have g:B0 (o.set (2*m.Group-1).toNat none_) (2*m.Group)=true:=R0 O' Z';simp only[q0,q,c,or_self,h,f,g,beq_iff_eq]
    by_cases s:m.Kind=1
    ·simp[s,G0]
    ·by_cases t:m.Kind=2
     ·simp[t,G0]
     ·by_cases p:m.Kind=3
      ·simp[p,G0]
      ·simp[s,t,p,G0]
def H0e {tags:List Int}{marks:List G2}{now none_:Int}(d:tags.length<=1000)(hm:marks.length<=1000000000)(f:marks.length<F):t0y F tags marks now none_=some (S6 now none_ tags marks):=by
 unfold t0y;rw[if_pos (by simp[I0];omega),s9,List.nil_append];have:=R4 (step:=v0Y F marks now none_) (fun i=>((i:Int),S6 now none_ tags (marks.take i))) (S6 now none_ tags marks) marks.length (fun i hi=>.inl ?_) ?_ marks.length 0 F O' f
 ·exact this
 ·rw[J0U (by rw[h0s];exact d) hi hm];have c:marks.take (i+1)=marks.take i++[gt marks (i:Int)]:=by rw[take_succ,u6 hi];rfl
  simp only[S6,c,List.foldl_append,List.foldl_cons,List.foldl_nil]
 ·unfold v0Y;have h1:¬((marks.length:Int)<(marks.length:Int)):=O'
  simp only[q0,h1,take_length]
def v08 {n:Nat}{x:Int}(d:1<=n)(hn:n<=1000):j0Q F (n:Int) x=some (List.replicate n x):=by
 unfold j0Q o0d;have h1:¬(n:Int)<1:=O'
 have c:(decide ((0:Int)<=(n:Int))&&decide ((n:Int)<=1000))=true:=by simp;omega
 simp only[q0,h1,s9,Go.X.g0I,c,toNat_natCast]
def I06 {n:Nat}{x:Int}(hn:n<=1000)(d:2000<F):G0t F (n:Int) x=some (List.replicate n x):=by
 unfold G0t;rw[s9];have:=R4 (step:=G0q F (n:Int) x) (fun i=>(List.replicate i x,(i:Int))) (List.replicate n x) n (fun i hi=>.inl ?_) ?_ n 0 F O' O'
 ·exact this
 ·unfold G0q;have h1:(i:Int)<(n:Int):=O'
  have c:I0 8 (List.replicate i x) [x]=true:=by simp[I0];omega
  simp only[h1,decide_true,if_true,c,List.replicate_succ',G3 (i:=i) O']
 ·unfold G0q;have h1:¬((n:Int)<(n:Int)):=O'
  simp only[q0,h1]
end
