/- P. Its conditions: none. -/
import Derived.Test.YtihmgaccbcfgjaaGreatTG40
open Nat (lt_or_ge le_of_lt sub_zero le_refl)
open Int (toNat_natCast)
open Bool (false_eq_true)
set_option linter.all false
theorem Go.V' {P:Prop}(h:P:=by unfold Tm.top;omega):P:=h
theorem Go.U' {P:Prop}(h:P:=by simp only[Tm.top,Tm.size];omega):P:=h
namespace Go.Proofs.YtihmgaccbcfgjaaGreat.Old
open Go.V Go.RowKit
def At.s0D {l:List C0}:∀{s:Tm} {lo:Nat},At l lo s->∀i,lo<=i->i<lo+s.size->∃lo' d,At l lo' d/\d.top lo'=i/\lo<=lo'/\d.size<=s.size:=by
 intro s;have j:∀(t:Tm) (lo:Nat),t.size=1->At l lo t->∀i,lo<=i->i<lo+t.size->∃lo' d,At l lo' d/\d.top lo'=i/\lo<=lo'/\d.size<=t.size:=fun t lo o h i h1 g=>⟨lo,t,h,V',O',O'⟩
 induction s with
 |eps=>exact fun h=>j _ _ rfl h
 |leaf s=>exact fun h=>j _ _ rfl h
 |cat a b iha ihb=>
  intro lo h i h1 g;obtain⟨ha,m,_⟩:=(At.bin rfl rfl).1 h;simp only[Tm.size]at g ⊢;rcases lt_or_ge i (lo+a.size)with c|c
  ·obtain⟨lo',d,p1,e,f,k⟩:=iha ha i h1 c;exact⟨lo',d,p1,e,f,O'⟩
  ·rcases lt_or_ge i (lo+a.size+b.size)with c2|c2
   ·obtain⟨lo',d,p1,e,f,k⟩:=ihb m i c c2;exact⟨lo',d,p1,e,O',O'⟩
   ·exact⟨lo,.cat a b,h,U',O',by simp[Tm.size]⟩
 |alt a b iha ihb=>
  intro lo h i h1 g;obtain⟨ha,m,_⟩:=(At.bin rfl rfl).1 h;simp only[Tm.size]at g ⊢;rcases lt_or_ge i (lo+a.size)with c|c
  ·obtain⟨lo',d,p1,e,f,k⟩:=iha ha i h1 c;exact⟨lo',d,p1,e,f,O'⟩
  ·rcases lt_or_ge i (lo+a.size+b.size)with c2|c2
   ·obtain⟨lo',d,p1,e,f,k⟩:=ihb m i c c2;exact⟨lo',d,p1,e,O',O'⟩
   ·exact⟨lo,.alt a b,h,U',O',by simp[Tm.size]⟩
 |star a iha=>
  intro lo h i h1 g;obtain⟨ha,_⟩:=(At.un rfl rfl).1 h;simp only[Tm.size]at g ⊢;rcases lt_or_ge i (lo+a.size)with c|c
  ·obtain⟨lo',d,p1,e,f,k⟩:=iha ha i h1 c;exact⟨lo',d,p1,e,f,O'⟩
  ·exact⟨lo,.star a,h,U',O',by simp[Tm.size]⟩
 |maybe a iha=>
  intro lo h i h1 g;obtain⟨ha,_⟩:=(At.un rfl rfl).1 h;simp only[Tm.size]at g ⊢;rcases lt_or_ge i (lo+a.size)with c|c
  ·obtain⟨lo',d,p1,e,f,k⟩:=iha ha i h1 c;exact⟨lo',d,p1,e,f,O'⟩
  ·exact⟨lo,.maybe a,h,U',O',by simp[Tm.size]⟩
 |group n a iha=>
  intro lo h i h1 g;obtain⟨ha,_⟩:=(At.un rfl rfl).1 h;simp only[Tm.size]at g ⊢;rcases lt_or_ge i (lo+a.size)with c|c
  ·obtain⟨lo',d,p1,e,f,k⟩:=iha ha i h1 c;exact⟨lo',d,p1,e,f,O'⟩
  ·exact⟨lo,.group n a,h,U',O',by simp[Tm.size]⟩
 |iter a iha=>
  intro lo h i h1 g;obtain⟨ha,_⟩:=(At.un rfl rfl).1 h;simp only[Tm.size]at g ⊢;rcases lt_or_ge i (lo+a.size)with c|c
  ·obtain⟨lo',d,p1,e,f,k⟩:=iha ha i h1 c;exact⟨lo',d,p1,e,f,O'⟩
  ·exact⟨lo,.iter a,h,U',O',by simp[Tm.size]⟩
def I4.node {l:List C0}{t:Tm}(h:I4 l t){i:Nat}(hi:i<l.length):∃lo s,At l lo s/\s.top lo=i:=by
 obtain⟨lo,s,h1,a,_⟩:=h.at0.s0D i O' (by rw[h.len]at hi;omega);exact⟨lo,s,h1,a⟩
def Tm.can:Tm->Bool
 |.eps=>true|.leaf _=>false|.cat a b=>a.can&&b.can|.alt a b=>a.can||b.can
 |.star _=>true|.maybe _=>true|.group _ a=>a.can|.iter a=>a.can
def O7 (l:List C0)(c:List Bool)(i:Nat):Bool:=
 let x:=gt l (i:Int)
 if x.Kind=1\/x.Kind=5\/x.Kind=6 then true
 else if x.Kind=3 then gt c x.A&&gt c x.B else if x.Kind=4 then gt c x.A||gt c x.B else if x.Kind=7\/x.Kind=8 then gt c x.A else false
def l5 (l:List C0):Nat->List Bool
 |0=>[]
 |i+1=>l5 l i++[O7 l (l5 l i) i]
def f0k (l:List C0):∀i,(l5 l i).length=i
 |0=>rfl
 |i+1=>by simp[l5,f0k l i]
def d0W (l:List C0){i j:Nat}(h:j<i):gt (l5 l i) (j:Int)=O7 l (l5 l j) j:=by
 induction i with
 |zero=>omega
 |succ i ih=>
  simp only[l5]
  by_cases e:j=i
  ·subst e;rw[e0v (f0k l j).symm]
  ·rw[b0Y O' (by rw[f0k];omega)];exact ih O'
def I0T {l:List C0}:∀{s:Tm} {lo:Nat},At l lo s->∀i,s.top lo<i->gt (l5 l i) (s.top lo:Int)=s.can:=by
 intro s
 induction s with
 |eps=>intro lo h i hi;rw[d0W l hi];simp[O7,h.N3,Tm.node,Tm.can]
 |leaf s=>intro lo h i hi;rw[d0W l hi];simp[O7,h.N3,Tm.node,Tm.can]
 |cat a b c ihb=>
  intro lo h i hi;rw[d0W l hi];obtain⟨ha,d,_⟩:=(At.bin rfl rfl).1 h;have:=a.size_pos;have:=b.size_pos;simp only[O7,h.N3,Tm.node,Tm.can];simp[c ha _ (show a.top lo<Tm.top (.cat a b) lo from U'),ihb d _ (show b.top (lo+a.size)<Tm.top (.cat a b) lo from U')]
 |alt a b c ihb=>
  intro lo h i hi;rw[d0W l hi];obtain⟨ha,d,_⟩:=(At.bin rfl rfl).1 h;have:=a.size_pos;have:=b.size_pos;simp only[O7,h.N3,Tm.node,Tm.can];simp[c ha _ (show a.top lo<Tm.top (.alt a b) lo from U'),ihb d _ (show b.top (lo+a.size)<Tm.top (.alt a b) lo from U')]
 |star a c=>intro lo h i hi;rw[d0W l hi];simp[O7,h.N3,Tm.node,Tm.can]
 |maybe a c=>intro lo h i hi;rw[d0W l hi];simp[O7,h.N3,Tm.node,Tm.can]
 |group n a c=>
  intro lo h i hi;rw[d0W l hi];obtain⟨ha,_⟩:=(At.un rfl rfl).1 h;have:=a.size_pos;simp only[O7,h.N3,Tm.node,Tm.can];simp[c ha _ (show a.top lo<Tm.top (.group n a) lo from U')]
 |iter a c=>
  intro lo h i hi;rw[d0W l hi];obtain⟨ha,_⟩:=(At.un rfl rfl).1 h;have:=a.size_pos;simp only[O7,h.N3,Tm.node,Tm.can];simp[c ha _ (show a.top lo<Tm.top (.iter a) lo from U')]
def M8 (l:List C0):List Bool:=if L2 l then l5 l l.length else[]
def v0I {l:List C0}{t:Tm}(g:I4 l t){i:Nat}(hi:i<l.length)(fuel:Nat):
  d0Z fuel l (l5 l i++List.replicate (l.length-i) false,(i:Int))=some (.next (l5 l (i+1)++List.replicate (l.length-(i+1)) false,((i+1:Nat):Int)))/\
  d00 fuel l (l5 l i++List.replicate (l.length-i) false,(i:Int))=some (.next (l5 l (i+1)++List.replicate (l.length-(i+1)) false,((i+1:Nat):Int))):=by
 have q:=g.le;have hlen:=g.len;have h1:(i:Int)<(l.length:Int):=O'
 have j:y0 l (i:Int)=true:=V0 O' O';have p:W ((i:Int)+1)=((i+1:Nat):Int):=X1 O';rw[k0H hi false];generalize hm:List.replicate (l.length-(i+1)) false=m;have f:∀(y:Bool),(l5 l i++false :: m).set i y=l5 l i++y :: m:=fun y=>l0M (f0k l i).symm;have d:∀(z:Nat),z<i->gt (l5 l i++false :: m) (z:Int)=gt (l5 l i) (z:Int):=fun z h=>b0Y O' (by rw[f0k];omega);have c:∀(z:Nat),z<=i->y0 (l5 l i++false :: m) (z:Int)=true:=fun z h=>V0 O' (by simp[f0k];omega);have k:=c i O';have r:l5 l (i+1)++m=l5 l i++O7 l (l5 l i) i :: m:=by simp[l5]
 rw[r];unfold d0Z d00;simp only[h1,decide_true,if_true,j,k,p,toNat_natCast,f];obtain⟨lo,s,o,hs⟩:=g.node hi;have hg:=o.N3;rw[hs]at hg;cases s with
 |eps=>simp[hg,Tm.node,O7]
 |leaf s=>simp[hg,Tm.node,O7,f false]
 |cat a b=>
  have:=a.size_pos;have:=b.size_pos;have e:a.top lo<i:=by rw[<-hs];simp only[Tm.top,Tm.size];omega
  have pb:b.top (lo+a.size)<i:=by rw[<-hs];simp only[Tm.top,Tm.size];omega
  simp only[hg,Tm.node,O7,c _ (le_of_lt e),c _ (le_of_lt pb),d _ e,d _ pb];cases gt (l5 l i) (a.top lo:Int)<;>simp
 |alt a b=>
  have:=a.size_pos;have:=b.size_pos;have e:a.top lo<i:=by rw[<-hs];simp only[Tm.top,Tm.size];omega
  have pb:b.top (lo+a.size)<i:=by rw[<-hs];simp only[Tm.top,Tm.size];omega
  simp only[hg,Tm.node,O7,c _ (le_of_lt e),c _ (le_of_lt pb),d _ e,d _ pb];cases gt (l5 l i) (a.top lo:Int)<;>simp
 |star a=>simp[hg,Tm.node,O7]
 |maybe a=>simp[hg,Tm.node,O7]
 |group n a=>
  have:=a.size_pos;have e:a.top lo<i:=by rw[<-hs];simp only[Tm.top,Tm.size];omega
  simp[hg,Tm.node,O7,c _ (le_of_lt e),d _ e]
 |iter a=>
  have:=a.size_pos;have e:a.top lo<i:=by rw[<-hs];simp only[Tm.top,Tm.size];omega
  simp[hg,Tm.node,O7,c _ (le_of_lt e),d _ e]
def n0E {l:List C0}(hw:∀x∈l,P2 x){fuel:Nat}(d:401<fuel):a0v fuel l=some (M8 l):=by
 unfold a0v M8;rw[c0y l d];cases hR:L2 l with
 |false=>rfl
 |true=>
  obtain⟨t,b⟩:=a0N hw hR;have c:=b.le;have hlen:=b.len;have a:R2 1 (l.length:Int)=true:=by simp[R2];omega
  have:=H3 (step:=d0Z fuel l) (fun i=>(l5 l i++List.replicate (l.length-i) false,(i:Int))) (l5 l l.length) l.length
   (fun i hi=>.inl (v0I b hi fuel).1) (by unfold d0Z;simp) l.length 0 fuel O' O'
  simp only[q0,a,toNat_natCast];simp only[l5,List.nil_append,sub_zero]at this;rw[show(0:Int)=((0:Nat):Int)from rfl,this];rfl
def t0D {l:List C0}(hw:∀x∈l,P2 x)(hl:l.length*64<=140737488351232){fuel:Nat}(e:401<fuel)(a:l.length+1<fuel):a0U fuel l=some (M8 l):=by
 unfold a0U M8;rw[e02 l hl a];cases hR:L2 l with
 |false=>rfl
 |true=>
  obtain⟨t,c⟩:=a0N hw hR;have d:=c.le;have hlen:=c.len;have b:R2 1 (l.length:Int)=true:=by simp[R2];omega
  have:=H3 (step:=d00 fuel l) (fun i=>(l5 l i++List.replicate (l.length-i) false,(i:Int))) (l5 l l.length) l.length
   (fun i hi=>.inl (v0I c hi fuel).2) (by unfold d00;simp) l.length 0 fuel O' O'
  simp only[q0,b,toNat_natCast];simp only[l5,List.nil_append,sub_zero]at this;rw[show(0:Int)=((0:Nat):Int)from rfl,this];rfl
def G2 (l:List C0):Nat->List Int
 |0=>[]
 |i+1=>if(gt l (i:Int)).Kind=2 then G2 l i++[(i:Int)]else G2 l i
def K9 (l:List C0):∀i,(G2 l i).length=N0 l i
 |0=>rfl
 |i+1=>by simp only[G2,N0];split<;>simp[K9 l i]
def b0k (l:List C0):List Int:=if L2 l then G2 l l.length else[]
def r0W {l:List C0}(hl:l.length<=400){i:Nat}(hi:i<l.length)(fuel:Nat):
  f0h fuel l (G2 l i,(i:Int))=some (.next (G2 l (i+1),((i+1:Nat):Int)))/\e0i fuel l (G2 l i,(i:Int))=some (.next (G2 l (i+1),((i+1:Nat):Int))):=by
 have h1:(i:Int)<(l.length:Int):=O'
 have a:y0 l (i:Int)=true:=V0 O' O';have c:W ((i:Int)+1)=((i+1:Nat):Int):=X1 O';have hle:=d0H l i;have b:K0 8 (G2 l i) [(i:Int)]=true:=B4 (by rw[K9];simp;omega);unfold f0h e0i
 by_cases hk:(gt l (i:Int)).Kind=2<;>simp[h1,a,c,b,hk,G2]
def l07 {l:List C0}(hw:∀x∈l,P2 x){fuel:Nat}(c:401<fuel):C7 fuel l=some (b0k l):=by
 unfold C7 b0k;rw[c0y l c];cases hR:L2 l with
 |false=>rfl
 |true=>
  obtain⟨t,b⟩:=a0N hw hR;have a:=b.le;have hlen:=b.len;have:=H3 (step:=f0h fuel l) (fun i=>(G2 l i,(i:Int))) (G2 l l.length) l.length (fun i hi=>.inl (r0W O' hi fuel).1) (by unfold f0h;simp) l.length 0 fuel O' O';simp only[q0];simp only[G2]at this;rw[show(0:Int)=((0:Nat):Int)from rfl,this];rfl
def y0w {l:List C0}(hw:∀x∈l,P2 x)(hl:l.length*64<=140737488351232){fuel:Nat}(d:401<fuel)(a:l.length+1<fuel):b0P fuel l=some (b0k l):=by
 unfold b0P b0k;rw[e02 l hl a];cases hR:L2 l with
 |false=>rfl
 |true=>
  obtain⟨t,c⟩:=a0N hw hR;have b:=c.le;have hlen:=c.len;have:=H3 (step:=e0i fuel l) (fun i=>(G2 l i,(i:Int))) (G2 l l.length) l.length (fun i hi=>.inl (r0W O' hi fuel).2) (by unfold e0i;simp) l.length 0 fuel O' O';simp only[q0];simp only[G2]at this;rw[show(0:Int)=((0:Nat):Int)from rfl,this];rfl
def j00 (l:List C0){i j:Nat}(h:i<=j):N0 l i<=N0 l j:=by
 induction j with
 |zero=>
      obtain rfl:i=0:=O'
      exact le_refl _
 |succ j ih=>
  by_cases e:i=j+1
  ·subst e;exact le_refl _
  ·have:=ih O';simp only[N0];omega
def e05 (l:List C0):∀(i p:Nat),p<N0 l i->∃q:Nat,q<i/\(G2 l i)[p]?=some (q:Int)/\(gt l (q:Int)).Kind=2/\N0 l q=p
 |0,p,h=>by simp[N0]at h
 |i+1,p,h=>by
  simp only[N0,G2]at h ⊢
  by_cases hk:(gt l (i:Int)).Kind=2
  ·simp only[hk,if_true]at h ⊢
   by_cases e:p=N0 l i
   ·exact⟨i,O',by rw[List.getElem?_append_right (by rw[K9];omega),K9];simp[e],hk,e.symm⟩
   ·obtain⟨q,h1,c,a,b⟩:=e05 l i p O';exact⟨q,O',by rw[List.getElem?_append_left (by rw[K9];omega)];exact c,a,b⟩
  ·simp only[hk,if_false,Nat.add_zero]at h ⊢;obtain⟨q,h1,c,a,b⟩:=e05 l i p h;exact⟨q,O',c,a,b⟩
def B7 (l:List C0):Nat->List Int
 |0=>[]
 |i+1=>B7 l i++[if(gt l (i:Int)).Kind=2 then(N0 l i:Int)else -1]
def d0s (l:List C0):∀i,(B7 l i).length=i
 |0=>rfl
 |i+1=>by simp[B7,d0s l i]
def m0u (l:List C0):∀(i j:Nat),j<i->(B7 l i)[j]?=some (if(gt l (j:Int)).Kind=2 then(N0 l j:Int)else -1)
 |0,j,h=>O'
 |i+1,j,h=>by
  simp only[B7]
  by_cases e:j=i
  ·subst e;rw[List.getElem?_append_right (by rw[d0s];omega),d0s];simp
  ·rw[List.getElem?_append_left (by rw[d0s];omega)];exact m0u l i j O'
def e0m (l:List C0):List Int:=if L2 l then B7 l l.length else[]
def b0p (l:List C0)(p:Nat):Nat->List Int
 |0=>[]
 |i+1=>b0p l p i++[if(gt l (i:Int)).Kind=2/\N0 l i<p then(N0 l i:Int)else -1]
def c0z (l:List C0)(p:Nat):∀i,(b0p l p i).length=i
 |0=>rfl
 |i+1=>by simp[b0p,c0z l p i]
def k0h (l:List C0)(p:Nat):∀(i j:Nat),j<i->(b0p l p i)[j]?=some (if(gt l (j:Int)).Kind=2/\N0 l j<p then(N0 l j:Int)else -1)
 |0,j,h=>O'
 |i+1,j,h=>by
  simp only[b0p]
  by_cases e:j=i
  ·subst e;rw[List.getElem?_append_right (by rw[c0z];omega),c0z];simp
  ·rw[List.getElem?_append_left (by rw[c0z];omega)];exact k0h l p i j O'
def C0s (l:List C0){i j:Nat}(hi:(gt l (i:Int)).Kind=2)(a:(gt l (j:Int)).Kind=2)(h:N0 l i=N0 l j):i=j:=by
 rcases Nat.lt_trichotomy i j with c|c|c
 ·have:=j00 l (show i+1<=j from c);simp only[N0,hi,if_true]at this;omega
 ·exact c
 ·have:=j00 l (show j+1<=i from c);simp only[N0,a,if_true]at this;omega
def H00 (l:List C0){p q n:Nat}(d:q<n)(hk:(gt l (q:Int)).Kind=2)(hp:N0 l q=p):(b0p l p n).set q (p:Int)=b0p l (p+1) n:=by
 apply List.ext_getElem?;intro j
 by_cases a:j<n
 ·rw[k0h l _ n j a,List.getElem?_set]
  by_cases e:q=j
  ·subst e;simp[c0z,a,hk,hp]
  ·rw[if_neg e,k0h l _ n j a]
   by_cases b:(gt l (j:Int)).Kind=2
   ·have:N0 l j≠p:=fun h=>e (C0s l hk b (hp.trans h.symm));simp only[b,true_and]
    by_cases c:N0 l j<p
    ·rw[if_pos c,if_pos O']
    ·rw[if_neg c,if_neg O']
   ·simp[b]
 ·rw[List.getElem?_eq_none (by simp[c0z];omega),List.getElem?_eq_none (by simp[c0z];omega)]
def t08 (l:List C0):∀n,b0p l 0 n=List.replicate n (-1)
 |0=>rfl
 |n+1=>by simp[b0p,t08 l n,List.replicate_succ']
def y07 (l:List C0)(n:Nat):b0p l (N0 l n) n=B7 l n:=by
 apply List.ext_getElem?;intro j
 by_cases b:j<n
 ·rw[k0h l _ n j b,m0u l n j b]
  by_cases a:(gt l (j:Int)).Kind=2
  ·have:=j00 l (show j+1<=n from b);simp only[N0,a,if_true]at this;simp[a];omega
  ·simp[a]
 ·rw[List.getElem?_eq_none (by simp[c0z];omega),List.getElem?_eq_none (by simp[d0s];omega)]
def F0k {l:List C0}(hw:∀x∈l,P2 x){fuel:Nat}(h:401<fuel):b05 fuel l=some (e0m l):=by
 unfold b05 e0m;rw[c0y l h,l07 hw h];cases hR:L2 l with
 |false=>rfl
 |true=>
  obtain⟨t,e⟩:=a0N hw hR;have j:=e.le;have hlen:=e.len;have c:R2 8 (l.length:Int)=true:=by simp[R2];omega
  have g:=H3 (step:=f07 fuel l) (fun i=>(List.replicate i (-1)++List.replicate (l.length-i) 0,(i:Int))) (List.replicate l.length (-1)) l.length
   (fun i hi=>.inl (by
    have h1:(i:Int)<(l.length:Int):=O'
    have b:y0 (List.replicate i (-1:Int)++List.replicate (l.length-i) 0) (i:Int)=true:=V0 O' Z';unfold f07;simp only[List.length_replicate,toNat_natCast,h1,decide_true,if_true,b,X1 (show i<9223372036854775807 from O')];rw[k0H hi 0,l0M X',List.replicate_succ'];simp)) (by unfold f07;simp) l.length 0 fuel O' O'
  have a:b0k l=G2 l l.length:=by simp[b0k,hR]
  have hle:=d0H l l.length;have d:=H3 (step:=f0q fuel (List.replicate l.length (-1)) (G2 l l.length)) (fun p=>(b0p l p l.length,(p:Int))) (B7 l l.length) (N0 l l.length)
   (fun p hp=>.inl (by
    obtain⟨q,h1,r,n,m⟩:=e05 l l.length p hp;have f:(p:Int)<((G2 l l.length).length:Int):=by rw[K9];omega
    have o:y0 (G2 l l.length) (p:Int)=true:=V0 O' f;have k:y0 (b0p l p l.length) (q:Int)=true:=V0 O' (by rw[c0z];omega);unfold f0q;simp only[f,decide_true,if_true,o,X2 r,k,toNat_natCast,H00 l h1 n m,X1 (show p<9223372036854775807 from O')])) (by unfold f0q;simp[K9,y07]) (N0 l l.length) 0 fuel O' O'
  simp only[q0,c,toNat_natCast,a];simp only[List.replicate_zero,List.nil_append,sub_zero]at g;rw[show((List.replicate l.length (0:Int)),(0:Int))=(List.replicate l.length 0,((0:Nat):Int))from rfl,g,G0];rw[t08]at d;rw[show((List.replicate l.length (-1:Int)),(0:Int))=(List.replicate l.length (-1),((0:Nat):Int))from rfl,d];rfl
def C0Y {l:List C0}(hw:∀x∈l,P2 x)(hl:l.length*64<=140737488351232){fuel:Nat}(k:401<fuel)(d:l.length+1<fuel):b0S fuel l=some (e0m l):=by
 unfold b0S e0m;rw[e02 l hl d];cases hR:L2 l with
 |false=>rfl
 |true=>
  obtain⟨t,f⟩:=a0N hw hR;have h:=f.le;have hlen:=f.len;have e:R2 8 (l.length:Int)=true:=by simp[R2];omega
  have g:=H3 (step:=f0s fuel l) (fun i=>(B7 l i++List.replicate (l.length-i) 0,(N0 l i:Int),(i:Int))) (B7 l l.length) l.length
   (fun i hi=>.inl (by
    have h1:(i:Int)<(l.length:Int):=O'
    have b:y0 l (i:Int)=true:=V0 O' O';have hle:=d0H l i;have c:∀(y:Int) m,y0 (B7 l i++y :: m) (i:Int)=true:=fun y m=>V0 O' (by simp[d0s];omega);have a:∀(x y:Int) m,(B7 l i++x :: m).set i y=B7 l i++y :: m:=fun x y m=>l0M (d0s l i).symm;unfold f0s;rw[k0H hi 0];simp only[h1,decide_true,if_true,c,b,toNat_natCast,a,X1 (show i<9223372036854775807 from O'),X1 (show N0 l i<9223372036854775807 from O'),B7,N0]
    by_cases j:(gt l (i:Int)).Kind=2<;>simp[j])) (by unfold f0s;simp) l.length 0 fuel O' O'
  simp only[q0,e,toNat_natCast];simp only[B7,N0,List.nil_append,sub_zero]at g;rw[show((List.replicate l.length (0:Int)),(0:Int),(0:Int))=(List.replicate l.length 0,((0:Nat):Int),((0:Nat):Int))from rfl,g];rfl
def Q8 (u:List Int)(lo:Nat):Tm->Prop
 |.eps=>True
 |.leaf _=>True
 |.cat a b=>gt u (a.top lo:Int)=(Tm.top (.cat a b) lo:Int)/\gt u (b.top (lo+a.size):Int)=(Tm.top (.cat a b) lo:Int)/\Q8 u lo a/\Q8 u (lo+a.size) b
 |.alt a b=>gt u (a.top lo:Int)=(Tm.top (.alt a b) lo:Int)/\gt u (b.top (lo+a.size):Int)=(Tm.top (.alt a b) lo:Int)/\Q8 u lo a/\Q8 u (lo+a.size) b
 |.star a=>gt u (a.top lo:Int)=(Tm.top (.star a) lo:Int)/\Q8 u lo a
 |.maybe a=>gt u (a.top lo:Int)=(Tm.top (.maybe a) lo:Int)/\Q8 u lo a
 |.group n a=>gt u (a.top lo:Int)=(Tm.top (.group n a) lo:Int)/\Q8 u lo a
 |.iter a=>gt u (a.top lo:Int)=(Tm.top (.iter a) lo:Int)/\Q8 u lo a
def Q8.congr {u v:List Int}:∀{s:Tm} {lo:Nat},(∀j:Nat,lo<=j->j<s.top lo->gt v (j:Int)=gt u (j:Int))->Q8 u lo s->Q8 v lo s:=by
 intro s
 induction s with
 |eps=>intros;trivial
 |leaf s=>intros;trivial
 |cat a b c ihb=>
  intro lo h hu;have:=a.size_pos;have:=b.size_pos;simp only[Tm.top,Tm.size]at h;obtain⟨h1,i,f,g⟩:=hu;exact⟨by rw[h _ V' V'];exact h1,by rw[h _ V' V'];exact i,
   c (fun j e d=>h j e (by unfold Tm.top at d;omega)) f,ihb (fun j e d=>h j O' (by unfold Tm.top at d;omega)) g⟩
 |alt a b c ihb=>
  intro lo h hu;have:=a.size_pos;have:=b.size_pos;simp only[Tm.top,Tm.size]at h;obtain⟨h1,i,f,g⟩:=hu;exact⟨by rw[h _ V' V'];exact h1,by rw[h _ V' V'];exact i,
   c (fun j e d=>h j e (by unfold Tm.top at d;omega)) f,ihb (fun j e d=>h j O' (by unfold Tm.top at d;omega)) g⟩
 |star a c|maybe a c|group _ a c|iter a c=>
  intro lo h hu;have:=a.size_pos;simp only[Tm.top,Tm.size]at h;obtain⟨h1,f⟩:=hu;exact⟨by rw[h _ V' V'];exact h1,c (fun j e d=>h j e (by unfold Tm.top at d;omega)) f⟩
def a0w (l:List C0)(o:List Int)(i:Nat):List Int:=
 let x:=gt l (i:Int)
 let a:=if 0<=x.A then o.set x.A.toNat i else o
 if 0<=x.B then a.set x.B.toNat i else a
def W5 (l:List C0)(lo:Nat):Nat->List Int->List Int
 |0,o=>o
 |k+1,o=>a0w l (W5 l lo k o) (lo+k)
def F0G (l:List C0)(o:List Int)(i:Nat):(a0w l o i).length=o.length:=by
 unfold a0w;simp only;repeat' split
 all_goals simp
def e0g (l:List C0)(lo:Nat)(o:List Int):∀k,(W5 l lo k o).length=o.length
 |0=>rfl
 |k+1=>by simp[W5,F0G,e0g l lo o k]
def u0n (l:List C0)(lo a:Nat)(o:List Int):∀b,W5 l lo (a+b) o=W5 l (lo+a) b (W5 l lo a o)
 |0=>rfl
 |b+1=>by rw[<-Nat.add_assoc];simp only[W5,u0n l lo a o b,Nat.add_assoc]
def Y9 {α:Type}[Inhabited α]{o:List α}{i j:Nat}{x:α}(h:i≠j):gt (o.set i x) (j:Int)=gt o (j:Int):=by
 unfold gt;rw[List.getD_eq_getElem?_getD,List.getD_eq_getElem?_getD,toNat_natCast,List.getElem?_set_ne h]
def d0x {α:Type}[Inhabited α]{o:List α}{i:Nat}{x:α}(h:i<o.length):gt (o.set i x) (i:Int)=x:=X2 (by simp[h])
def D0h {l:List C0}:∀{s:Tm} {lo:Nat},At l lo s->∀o:List Int,lo+s.size<=o.length->
  (∀j:Nat,(j<lo\/s.top lo<=j)->gt (W5 l lo s.size o) (j:Int)=gt o (j:Int))/\Q8 (W5 l lo s.size o) lo s:=by
 intro s
 induction s with
 |eps=>
  intro lo h o f;refine⟨fun j d=>?_,trivial⟩;have hg:=h.N3;simp only[Tm.top,Tm.size,Nat.add_sub_cancel]at hg;simp[W5,Tm.size,a0w,hg,Tm.node]
 |leaf s=>
  intro lo h o f;refine⟨fun j d=>?_,trivial⟩;have hg:=h.N3;simp only[Tm.top,Tm.size,Nat.add_sub_cancel]at hg;simp[W5,Tm.size,a0w,hg,Tm.node]
 |cat a b c g|alt a b c g=>
  intro lo h o f;have hg:=h.N3;obtain⟨ha,w,_⟩:=(At.bin rfl rfl).1 h;have:=a.size_pos;have:=b.size_pos;simp only[Tm.size]at f;obtain⟨n,a2⟩:=c ha o O';obtain⟨q,t⟩:=g w (W5 l lo a.size o) (by rw[e0g];omega);have e:W5 l lo (a.size+b.size+1) o=a0w l (W5 l (lo+a.size) b.size (W5 l lo a.size o)) (lo+(a.size+b.size)):=by simp only[W5,u0n]
  simp only[Tm.size,e];generalize m:W5 l (lo+a.size) b.size (W5 l lo a.size o)=v at *;have k:v.length=o.length:=by rw[<-m,e0g,e0g]
  have hi:lo+(a.size+b.size)=lo+(a.size+b.size+1)-1:=O'
  have hs:a0w l v (lo+(a.size+b.size))=(v.set (a.top lo) ((lo+(a.size+b.size):Nat):Int)).set (b.top (lo+a.size)) ((lo+(a.size+b.size):Nat):Int):=by
   simp only[Tm.top,Tm.size]at hg;rw[<-hi]at hg;generalize lo+(a.size+b.size)=i at hg ⊢;unfold a0w;simp only[hg,Tm.node];simp
  rw[hs];have u:a.top lo=lo+a.size-1:=rfl;have tb:b.top (lo+a.size)=lo+a.size+b.size-1:=rfl;refine⟨fun j d=>?_,?_⟩
  ·simp only[Tm.top,Tm.size]at d;rw[Y9 O',Y9 O',q j O',n j O']
  ·have tt:lo+(a.size+b.size)=lo+(a.size+b.size+1)-1:=O'
   refine⟨?_,?_,?_,?_⟩
   ·rw[Y9 O',d0x O'];simp only[Tm.top,Tm.size,tt]
   ·rw[d0x Z'];simp only[Tm.top,Tm.size,tt]
   ·exact a2.congr fun j r p=>by rw[Y9 O',Y9 O',q j O']
   ·exact t.congr fun j r p=>by rw[Y9 O',Y9 O']
 |star a c|maybe a c|group _ a c|iter a c=>
  intro lo h o f;have hg:=h.N3;obtain⟨ha,_⟩:=(At.un rfl rfl).1 h;have:=a.size_pos;simp only[Tm.size]at f;obtain⟨n,a2⟩:=c ha o O';simp only[Tm.size,W5];generalize m:W5 l lo a.size o=v at *;have k:v.length=o.length:=by rw[<-m,e0g]
  have hs:a0w l v (lo+a.size)=v.set (a.top lo) ((lo+a.size:Nat):Int):=by
   simp only[Tm.top,Tm.size]at hg;rw[show lo+(a.size+1)-1=lo+a.size from O']at hg;generalize lo+a.size=i at hg ⊢;unfold a0w;simp only[hg,Tm.node];simp
  rw[hs];have u:a.top lo=lo+a.size-1:=rfl;refine⟨fun j d=>?_,?_⟩
  ·simp only[Tm.top,Tm.size]at d;rw[Y9 O',n j O']
  ·have tt:lo+a.size=lo+(a.size+1)-1:=O'
   refine⟨?_,?_⟩
   ·rw[d0x O'];simp only[Tm.top,Tm.size,tt]
   ·exact a2.congr fun j r p=>by rw[Y9 O']
structure UpT (u:List Int)(t:Tm):Prop where
 len:u.length=t.size
 root:gt u (t.top 0:Int)=-1
 inner:Q8 u 0 t
def G0h {l:List C0}{t:Tm}(j:I4 l t){o:List Int}(f:o.length=l.length){i:Nat}(hi:i<l.length)(fuel:Nat)(y:List Int):
  e0j fuel l (o,(i:Int))=some (.next (a0w l o i,((i+1:Nat):Int)))/\h0I fuel l y (o,(i:Int))=some (.next (a0w l o i,((i+1:Nat):Int))):=by
 have m:=j.le;have hlen:=j.len;have h1:(i:Int)<(l.length:Int):=O'
 have c:y0 l (i:Int)=true:=V0 O' O';have d:W ((i:Int)+1)=((i+1:Nat):Int):=X1 O';have e:∀(o:List Int) (z:Nat),o.length=l.length->z<i->y0 o (z:Int)=true:=fun o z h n=>V0 O' O';obtain⟨lo,s,k,hs⟩:=j.node hi;have hg:=k.N3;rw[hs]at hg;unfold e0j h0I a0w;cases s with
 |eps=>simp[h1,c,d,hg,Tm.node]
 |leaf s=>simp[h1,c,d,hg,Tm.node]
 |cat a b|alt a b=>
  have:=a.size_pos;have:=b.size_pos;have g:a.top lo<i:=by rw[<-hs];simp only[Tm.top,Tm.size];omega
  have pb:b.top (lo+a.size)<i:=by rw[<-hs];simp only[Tm.top,Tm.size];omega
  simp[h1,c,d,hg,Tm.node,e o _ f g,e (o.set (a.top lo) (i:Int)) _ (by simpa using f) pb]
 |star a|maybe a|group _ a|iter a=>
  have:=a.size_pos;have g:a.top lo<i:=by rw[<-hs];simp only[Tm.top,Tm.size];omega
  simp[h1,c,d,hg,Tm.node,e o _ f g]
def p0m {l:List C0}{t:Tm}(a:I4 l t)(hR:L2 l=true){fuel:Nat}(h:401<fuel):∃u,a0l fuel l=some u/\UpT u t:=by
 have f:=a.le;have hlen:=a.len;have hp:=t.size_pos;have c:R2 8 (l.length:Int)=true:=by simp[R2];omega
 have j:W ((l.length:Int)-1)=((l.length-1:Nat):Int):=by rw[E3 O' O'];omega
 let o:List Int:=(List.replicate l.length (0:Int)).set (l.length-1) (-1)
 have d:o.length=l.length:=by simp[o]
 have e:=H3 (step:=e0j fuel l) (fun i=>(W5 l 0 i o,(i:Int))) (W5 l 0 l.length o) l.length
  (fun i hi=>.inl (by have:=(G0h a (o:=W5 l 0 i o) (by rw[e0g,d]) hi fuel []).1;rw[this];simp[W5])) (by unfold e0j;simp) l.length 0 fuel O' O'
 refine⟨W5 l 0 l.length o,?_,?_⟩
 ·unfold a0l;rw[c0y l h,hR];have b:y0 (List.replicate l.length (0:Int)) ((l.length-1:Nat):Int)=true:=V0 O' Z';simp only[q0,c,toNat_natCast,j,b];simp only[W5]at e;rw[show((List.replicate l.length (0:Int)).set (l.length-1) (-1),(0:Int))=(o,((0:Nat):Int))from rfl,e];rfl
 ·obtain⟨p1,g⟩:=D0h a.at0 o O';rw[hlen];refine⟨by rw[e0g,d,hlen],?_,g⟩;rw[p1 _ (.inr (le_refl _)),show t.top 0=l.length-1 from V'];exact d0x Z'
def B8 (d:List Int)(lo:Nat)(k:Nat):Tm->Prop
 |.eps=>gt d (lo:Int)=k
 |.leaf _=>gt d (lo:Int)=k
 |.cat a b=>gt d (Tm.top (.cat a b) lo:Int)=k/\B8 d lo (k+1) a/\B8 d (lo+a.size) (k+1) b
 |.alt a b=>gt d (Tm.top (.alt a b) lo:Int)=k/\B8 d lo (k+1) a/\B8 d (lo+a.size) (k+1) b
 |.star a=>gt d (Tm.top (.star a) lo:Int)=k/\B8 d lo (k+1) a
 |.maybe a=>gt d (Tm.top (.maybe a) lo:Int)=k/\B8 d lo (k+1) a
 |.group n a=>gt d (Tm.top (.group n a) lo:Int)=k/\B8 d lo (k+1) a
 |.iter a=>gt d (Tm.top (.iter a) lo:Int)=k/\B8 d lo (k+1) a
def B8.top {d:List Int}{lo k:Nat}{s:Tm}(h:B8 d lo k s):gt d (s.top lo:Int)=k:=by
 cases s<;>first|exact h|exact h.1
def B8.of {d u:List Int}:∀{s:Tm} {lo k:Nat},Q8 u lo s->gt d (s.top lo:Int)=k->(∀j p:Nat,lo<=j->j<s.top lo->gt u (j:Int)=p->gt d (j:Int)=gt d (p:Int)+1)->B8 d lo k s:=by
 intro s
 induction s with
 |eps=>intro lo k _ h _;exact h
 |leaf s=>intro lo k _ h _;exact h
 |cat a b c g|alt a b c g=>
  intro lo k hu h hs;obtain⟨h1,o,l,n⟩:=hu;have:=a.size_pos;have:=b.size_pos;simp only[Tm.top,Tm.size]at hs;have m:=hs _ _ (show lo<=a.top lo from V') V' h1;have q:=hs _ _ (show lo<=b.top (lo+a.size) from V') V' o;refine⟨h,c l (by rw[m,h];rfl) fun j p i e f=>hs j p i (by unfold Tm.top at e;omega) f,g n (by rw[q,h];rfl) fun j p i e f=>hs j p O' (by unfold Tm.top at e;omega) f⟩
 |star a c|maybe a c|group _ a c|iter a c=>
  intro lo k hu h hs;obtain⟨h1,l⟩:=hu;have:=a.size_pos;simp only[Tm.top,Tm.size]at hs;have m:=hs _ _ (show lo<=a.top lo from V') V' h1;exact⟨h,c l (by rw[m,h];rfl) fun j p i e f=>hs j p i (by unfold Tm.top at e;omega) f⟩
def Q8.behind {u:List Int}:∀{s:Tm} {lo:Nat},Q8 u lo s->∀j:Nat,lo<=j->j<s.top lo->∃p:Nat,gt u (j:Int)=p/\j<p/\p<=s.top lo:=by
 intro s
 induction s with
 |eps=>intro lo _ j h1 g;simp[Tm.top,Tm.size]at g;omega
 |leaf s=>intro lo _ j h1 g;simp[Tm.top,Tm.size]at g;omega
 |cat a b d h|alt a b d h=>
  intro lo hu j l i;obtain⟨h1,g,k,m⟩:=hu;have:=a.size_pos;have:=b.size_pos;simp only[Tm.top,Tm.size]at i ⊢;rcases Nat.lt_trichotomy j (a.top lo)with c|c|c
  ·obtain⟨p,p1,e,f⟩:=d k j l c;exact⟨p,p1,e,by unfold Tm.top at f;omega⟩
  ·subst c;exact⟨_,h1,U',U'⟩
  ·rcases lt_or_ge j (b.top (lo+a.size))with c2|c2
   ·obtain⟨p,p1,e,f⟩:=h m j (by unfold Tm.top at c;omega) c2;exact⟨p,p1,e,by unfold Tm.top at f;omega⟩
   ·obtain rfl:j=b.top (lo+a.size):=by unfold Tm.top at *;omega
    exact⟨_,g,U',U'⟩
 |star a d|maybe a d|group _ a d|iter a d=>
  intro lo hu j l i;obtain⟨h1,k⟩:=hu;have:=a.size_pos;simp only[Tm.top,Tm.size]at i ⊢;rcases lt_or_ge j (a.top lo)with c|c
  ·obtain⟨p,p1,e,f⟩:=d k j l c;exact⟨p,p1,e,by unfold Tm.top at f;omega⟩
  ·obtain rfl:j=a.top lo:=by unfold Tm.top at *;omega
   exact⟨_,h1,U',U'⟩
def h0a (u o:List Int)(i:Nat):List Int:=if 0<=gt u (i:Int)then o.set i (gt o (gt u (i:Int))+1)else o.set i 1
structure b02 (d:List Int)(t:Tm):Prop where
 len:d.length=t.size
 deep:B8 d 0 1 t
def v06 {u:List Int}{t:Tm}(hu:UpT u t){step:List Int×Int->Option (Q0 (List Int×Int) (List Int))}(hd:∀o:List Int,step (o,-1)=some (.done o))
  (hs:∀(o:List Int) (i:Nat),o.length=t.size->i<t.size->(∀p:Nat,gt u (i:Int)=p->i<p/\p<t.size/\1<=gt o (p:Int)/\gt o (p:Int)<=t.size)->(gt u (i:Int)<0\/∃p:Nat,gt u (i:Int)=p)->step (o,(i:Int))=some (.next (h0a u o i,(i:Int)-1))):
  ∀(k:Nat) (o:List Int),o.length=t.size->k<=t.size->(∀j:Nat,k<=j->j<t.size->1<=gt o (j:Int)/\gt o (j:Int)<=(t.size-j:Nat))->(k<t.size->gt o (t.top 0:Int)=1)->
   (∀j p:Nat,k<=j->j<t.top 0->gt u (j:Int)=p->gt o (j:Int)=gt o (p:Int)+1)->∀m,k<m->∃d,iter step m (o,(k:Int)-1)=some d/\b02 d t
 |0,o,h1,_,h3,h4,h5,m,hm=>by
  obtain⟨m,rfl⟩:∃q,m=q+1:=⟨m-1,O'⟩
  have:=t.size_pos;refine⟨o,by unfold iter;rw[show((0:Nat):Int)-1=-1 from rfl,hd],h1,B8.of hu.inner (h4 O') fun j p g b f=>h5 j p g b f⟩
 |k+1,o,h1,h2,h3,h4,h5,m,hm=>by
  obtain⟨m,rfl⟩:∃q,m=q+1:=⟨m-1,O'⟩
  have s:=t.size_pos;have c:t.top 0=t.size-1:=by unfold Tm.top;omega
  have a:(k=t.size-1/\gt u (k:Int)=-1)\/∃p:Nat,gt u (k:Int)=p/\k<p/\p<t.size/\k<t.top 0:=by
   by_cases e:k=t.size-1
   ·exact .inl ⟨e,by rw[e,<-c];exact hu.root⟩
   ·obtain⟨p,p1,r,x⟩:=hu.inner.behind k (Nat.zero_le _) O';exact .inr ⟨p,p1,r,O',O'⟩
  have n:=hs o k h1 O' (fun p hp=>by
   rcases a with⟨_,e⟩|⟨q,q1,q2,q3,_⟩
   ·omega
   ·obtain rfl:p=q:=O'
    have:=h3 p O' q3;exact⟨q2,q3,this.1,O'⟩) (by rcases a with⟨_,e⟩|⟨q,q1,_⟩;exact .inl O';exact .inr ⟨q,q1⟩)
  rw[show(((k+1:Nat):Int)-1)=(k:Int)from O'];unfold iter;rw[n];have l:(1:Int)<=((t.size-k:Nat):Int):=O'
  have y:∃v:Int,h0a u o k=o.set k v/\1<=v/\v<=(t.size-k:Nat)/\(k=t.top 0->v=1)/\∀p:Nat,gt u (k:Int)=p->v=gt o (p:Int)+1:=by
   rcases a with⟨z,e⟩|⟨q,q1,q2,q3,q4⟩
   ·exact⟨1,by simp[h0a,e],Int.le_refl _,l,fun _=>rfl,fun p hp=>by rw[e]at hp;omega⟩
   ·have:=h3 q O' q3;exact⟨gt o (q:Int)+1,by simp[h0a,q1],O',O',fun h=>O',fun p hp=>by rw[show p=q from O']⟩
  obtain⟨v,v1,v2,v3,v4,v5⟩:=y;rw[v1];refine v06 hu hd hs k (o.set k v) (by simpa using h1) O' (fun j g b=>?_) (fun _=>?_) (fun j p g b f=>?_) m O'
  ·by_cases e:j=k
   ·subst e;rw[d0x O'];exact⟨v2,v3⟩
   ·rw[Y9 O'];exact h3 j O' b
  ·by_cases e:k=t.top 0
   ·rw[<-e,d0x O'];exact v4 e
   ·rw[Y9 e];clear a v5;exact h4 O'
  ·obtain⟨w,p1,r,x⟩:=hu.inner.behind j (Nat.zero_le _) b;obtain rfl:p=w:=O'
   by_cases e:j=k
   ·subst e;rw[d0x O',Y9 O'];exact v5 p f
   ·rw[Y9 O',Y9 O'];exact h5 j p O' b f
def k0n {l:List C0}{t:Tm}(q:I4 l t)(hR:L2 l=true){fuel:Nat}(y:401<fuel):∃d,a0P fuel l=some d/\b02 d t:=by
 obtain⟨u,e,hu⟩:=p0m q hR y;have s:=q.le;have hp:=t.size_pos;have g:=hu.len;have m:R2 8 (u.length:Int)=true:=by simp[R2];omega
 have z:W ((u.length:Int)-1)=(t.size:Int)-1:=by rw[E3 O' O'];omega
 unfold a0P;rw[e];simp only[G0,m,if_true,toNat_natCast,z];obtain⟨d,h1,r⟩:=v06 hu (step:=f0F fuel u) (fun o=>by unfold f0F;simp) (fun o i h1 r w a=>by
  have b:y0 o (i:Int)=true:=V0 O' O';have c:y0 u (i:Int)=true:=V0 O' O';have U:(i:Int)>=0:=O'
  have f:W ((i:Int)-1)=(i:Int)-1:=E3 O' O';unfold f0F h0a;rcases a with a|⟨p,a⟩
  ·have:¬gt u (i:Int)>=0:=O'
   simp[b,c,this,f]
  ·obtain⟨R,C,I,J⟩:=w p a;have v:y0 (o.set i 1) (p:Int)=true:=V0 O' Z';have i2:y0 (o.set i 1) (i:Int)=true:=V0 O' Z';have k:W (1+gt o (p:Int))=gt o (p:Int)+1:=by rw[E3 O' O'];omega
   simp[b,c,a,v,i2,f,d0x (show i<o.length from O'),Y9 (show i≠p from O'),k]) t.size (List.replicate u.length 0) (by simp[g]) (le_refl _) (fun j x n=>O') (fun h=>O') (fun j p x n=>by unfold Tm.top at n;omega) fuel O'
 exact⟨d,by rw[h1];rfl,r⟩
