/- P. Its conditions: none. -/
import Derived.Test.YtmhooikfkhjijaaGreatYG37
open Nat (lt_or_ge le_of_lt sub_zero le_refl)
open Int (toNat_natCast)
open Bool (false_eq_true)
set_option linter.all false
namespace Go.Proofs.YtmhooikfkhjijaaGreat.Old
open Go.V Go.RowKit
def At.q0l {l:List C0}:∀{s:Tm} {lo:Nat},At l lo s->∀i,lo<=i->i<lo+s.size->∃lo' d,At l lo' d/\d.top lo'=i/\lo<=lo'/\d.size<=s.size:=by
 intro s;have j:∀(t:Tm) (lo:Nat),t.size=1->At l lo t->∀i,lo<=i->i<lo+t.size->∃lo' d,At l lo' d/\d.top lo'=i/\lo<=lo'/\d.size<=t.size:=fun t lo o h i h1 g=>⟨lo,t,h,by unfold Tm.top;omega,by omega,by omega⟩
 induction s with
 |eps=>exact fun h=>j _ _ rfl h
 |leaf s=>exact fun h=>j _ _ rfl h
 |cat a b iha ihb=>
  intro lo h i h1 g;obtain⟨ha,m,_⟩:=(At.bin rfl rfl).1 h;simp only[Tm.size]at g ⊢;rcases lt_or_ge i (lo+a.size)with c|c
  ·obtain⟨lo',d,p1,e,f,k⟩:=iha ha i h1 c;exact⟨lo',d,p1,e,f,by omega⟩
  ·rcases lt_or_ge i (lo+a.size+b.size)with c2|c2
   ·obtain⟨lo',d,p1,e,f,k⟩:=ihb m i c c2;exact⟨lo',d,p1,e,by omega,by omega⟩
   ·exact⟨lo,.cat a b,h,by simp only[Tm.top,Tm.size];omega,by omega,by simp[Tm.size]⟩
 |alt a b iha ihb=>
  intro lo h i h1 g;obtain⟨ha,m,_⟩:=(At.bin rfl rfl).1 h;simp only[Tm.size]at g ⊢;rcases lt_or_ge i (lo+a.size)with c|c
  ·obtain⟨lo',d,p1,e,f,k⟩:=iha ha i h1 c;exact⟨lo',d,p1,e,f,by omega⟩
  ·rcases lt_or_ge i (lo+a.size+b.size)with c2|c2
   ·obtain⟨lo',d,p1,e,f,k⟩:=ihb m i c c2;exact⟨lo',d,p1,e,by omega,by omega⟩
   ·exact⟨lo,.alt a b,h,by simp only[Tm.top,Tm.size];omega,by omega,by simp[Tm.size]⟩
 |star a iha=>
  intro lo h i h1 g;obtain⟨ha,_⟩:=(At.un rfl rfl).1 h;simp only[Tm.size]at g ⊢;rcases lt_or_ge i (lo+a.size)with c|c
  ·obtain⟨lo',d,p1,e,f,k⟩:=iha ha i h1 c;exact⟨lo',d,p1,e,f,by omega⟩
  ·exact⟨lo,.star a,h,by simp only[Tm.top,Tm.size];omega,by omega,by simp[Tm.size]⟩
 |maybe a iha=>
  intro lo h i h1 g;obtain⟨ha,_⟩:=(At.un rfl rfl).1 h;simp only[Tm.size]at g ⊢;rcases lt_or_ge i (lo+a.size)with c|c
  ·obtain⟨lo',d,p1,e,f,k⟩:=iha ha i h1 c;exact⟨lo',d,p1,e,f,by omega⟩
  ·exact⟨lo,.maybe a,h,by simp only[Tm.top,Tm.size];omega,by omega,by simp[Tm.size]⟩
 |group n a iha=>
  intro lo h i h1 g;obtain⟨ha,_⟩:=(At.un rfl rfl).1 h;simp only[Tm.size]at g ⊢;rcases lt_or_ge i (lo+a.size)with c|c
  ·obtain⟨lo',d,p1,e,f,k⟩:=iha ha i h1 c;exact⟨lo',d,p1,e,f,by omega⟩
  ·exact⟨lo,.group n a,h,by simp only[Tm.top,Tm.size];omega,by omega,by simp[Tm.size]⟩
 |iter a iha=>
  intro lo h i h1 g;obtain⟨ha,_⟩:=(At.un rfl rfl).1 h;simp only[Tm.size]at g ⊢;rcases lt_or_ge i (lo+a.size)with c|c
  ·obtain⟨lo',d,p1,e,f,k⟩:=iha ha i h1 c;exact⟨lo',d,p1,e,f,by omega⟩
  ·exact⟨lo,.iter a,h,by simp only[Tm.top,Tm.size];omega,by omega,by simp[Tm.size]⟩
def O2.node {l:List C0}{t:Tm}(h:O2 l t){i:Nat}(hi:i<l.length):∃lo s,At l lo s/\s.top lo=i:=by
 obtain⟨lo,s,h1,a,_⟩:=h.at0.q0l i (by omega) (by rw[h.len]at hi;omega);exact⟨lo,s,h1,a⟩
def Tm.can:Tm->Bool
 |.eps=>true|.leaf _=>false|.cat a b=>a.can&&b.can|.alt a b=>a.can||b.can
 |.star _=>true|.maybe _=>true|.group _ a=>a.can|.iter a=>a.can
def T7 (l:List C0)(c:List Bool)(i:Nat):Bool:=
 let x:=gt l (i:Int)
 if x.Kind=1\/x.Kind=5\/x.Kind=6 then true
 else if x.Kind=3 then gt c x.A&&gt c x.B else if x.Kind=4 then gt c x.A||gt c x.B else if x.Kind=7\/x.Kind=8 then gt c x.A else false
def F5 (l:List C0):Nat->List Bool
 |0=>[]
 |i+1=>F5 l i++[T7 l (F5 l i) i]
def d03 (l:List C0):∀i,(F5 l i).length=i
 |0=>rfl
 |i+1=>by simp[F5,d03 l i]
def d0q (l:List C0){i j:Nat}(h:j<i):gt (F5 l i) (j:Int)=T7 l (F5 l j) j:=by
 induction i with
 |zero=>omega
 |succ i ih=>
  simp only[F5]
  by_cases e:j=i
  ·subst e;rw[c08 (d03 l j).symm]
  ·rw[b0u (by omega) (by rw[d03];omega)];exact ih (by omega)
def w0k {l:List C0}:∀{s:Tm} {lo:Nat},At l lo s->∀i,s.top lo<i->gt (F5 l i) (s.top lo:Int)=s.can:=by
 intro s
 induction s with
 |eps=>intro lo h i hi;rw[d0q l hi];simp[T7,h.D2,Tm.node,Tm.can]
 |leaf s=>intro lo h i hi;rw[d0q l hi];simp[T7,h.D2,Tm.node,Tm.can]
 |cat a b c ihb=>
  intro lo h i hi;rw[d0q l hi];obtain⟨ha,d,_⟩:=(At.bin rfl rfl).1 h;have:=a.size_pos;have:=b.size_pos;simp only[T7,h.D2,Tm.node,Tm.can];simp[c ha _ (show a.top lo<Tm.top (.cat a b) lo by simp only[Tm.top,Tm.size];omega),ihb d _ (show b.top (lo+a.size)<Tm.top (.cat a b) lo by simp only[Tm.top,Tm.size];omega)]
 |alt a b c ihb=>
  intro lo h i hi;rw[d0q l hi];obtain⟨ha,d,_⟩:=(At.bin rfl rfl).1 h;have:=a.size_pos;have:=b.size_pos;simp only[T7,h.D2,Tm.node,Tm.can];simp[c ha _ (show a.top lo<Tm.top (.alt a b) lo by simp only[Tm.top,Tm.size];omega),ihb d _ (show b.top (lo+a.size)<Tm.top (.alt a b) lo by simp only[Tm.top,Tm.size];omega)]
 |star a c=>intro lo h i hi;rw[d0q l hi];simp[T7,h.D2,Tm.node,Tm.can]
 |maybe a c=>intro lo h i hi;rw[d0q l hi];simp[T7,h.D2,Tm.node,Tm.can]
 |group n a c=>
  intro lo h i hi;rw[d0q l hi];obtain⟨ha,_⟩:=(At.un rfl rfl).1 h;have:=a.size_pos;simp only[T7,h.D2,Tm.node,Tm.can];simp[c ha _ (show a.top lo<Tm.top (.group n a) lo by simp only[Tm.top,Tm.size];omega)]
 |iter a c=>
  intro lo h i hi;rw[d0q l hi];obtain⟨ha,_⟩:=(At.un rfl rfl).1 h;have:=a.size_pos;simp only[T7,h.D2,Tm.node,Tm.can];simp[c ha _ (show a.top lo<Tm.top (.iter a) lo by simp only[Tm.top,Tm.size];omega)]
def V8 (l:List C0):List Bool:=if K1 l then F5 l l.length else[]
def r0a {l:List C0}{t:Tm}(k:O2 l t){i:Nat}(hi:i<l.length)(fuel:Nat):
  d09 fuel l (F5 l i++List.replicate (l.length-i) false,(i:Int))=some (.next (F5 l (i+1)++List.replicate (l.length-(i+1)) false,((i+1:Nat):Int)))/\
  e0C fuel l (F5 l i++List.replicate (l.length-i) false,(i:Int))=some (.next (F5 l (i+1)++List.replicate (l.length-(i+1)) false,((i+1:Nat):Int))):=by
 have r:=k.le;have hlen:=k.len;have h1:(i:Int)<(l.length:Int):=by omega
 have o:B0 l (i:Int)=true:=R0 (by omega) (by omega);have j:W ((i:Int)+1)=((i+1:Nat):Int):=G3 (by omega);rw[i06 hi false];generalize hm:List.replicate (l.length-(i+1)) false=m;have f:∀(y:Bool),(F5 l i++false :: m).set i y=F5 l i++y :: m:=fun y=>i08 (d03 l i).symm;have d:∀(z:Nat),z<i->gt (F5 l i++false :: m) (z:Int)=gt (F5 l i) (z:Int):=fun z h=>b0u (by omega) (by rw[d03];omega);have c:∀(z:Nat),z<=i->B0 (F5 l i++false :: m) (z:Int)=true:=fun z h=>R0 (by omega) (by simp[d03];omega);have q:=c i (by omega);have u:F5 l (i+1)++m=F5 l i++T7 l (F5 l i) i :: m:=by simp[F5]
 rw[u];unfold d09 e0C;simp only[h1,decide_true,if_true,o,q,j,toNat_natCast,f];obtain⟨lo,s,p,g⟩:=k.node hi;have hg:=p.D2;rw[g]at hg;cases s with
 |eps=>simp[hg,Tm.node,T7]
 |leaf s=>simp[hg,Tm.node,T7,f false]
 |cat a b=>
  have:=a.size_pos;have:=b.size_pos;have e:a.top lo<i:=by rw[<-g];simp only[Tm.top,Tm.size];omega
  have pb:b.top (lo+a.size)<i:=by rw[<-g];simp only[Tm.top,Tm.size];omega
  simp only[hg,Tm.node,T7,c _ (le_of_lt e),c _ (le_of_lt pb),d _ e,d _ pb];cases gt (F5 l i) (a.top lo:Int)<;>simp
 |alt a b=>
  have:=a.size_pos;have:=b.size_pos;have e:a.top lo<i:=by rw[<-g];simp only[Tm.top,Tm.size];omega
  have pb:b.top (lo+a.size)<i:=by rw[<-g];simp only[Tm.top,Tm.size];omega
  simp only[hg,Tm.node,T7,c _ (le_of_lt e),c _ (le_of_lt pb),d _ e,d _ pb];cases gt (F5 l i) (a.top lo:Int)<;>simp
 |star a=>simp[hg,Tm.node,T7]
 |maybe a=>simp[hg,Tm.node,T7]
 |group n a=>
  have:=a.size_pos;have e:a.top lo<i:=by rw[<-g];simp only[Tm.top,Tm.size];omega
  simp[hg,Tm.node,T7,c _ (le_of_lt e),d _ e]
 |iter a=>
  have:=a.size_pos;have e:a.top lo<i:=by rw[<-g];simp only[Tm.top,Tm.size];omega
  simp[hg,Tm.node,T7,c _ (le_of_lt e),d _ e]
def s0c {l:List C0}(hw:∀x∈l,o3 x){fuel:Nat}(d:401<fuel):a0T fuel l=some (V8 l):=by
 unfold a0T V8;rw[c0Q l d];cases hR:K1 l with
 |false=>rfl
 |true=>
  obtain⟨t,b⟩:=a04 hw hR;have c:=b.le;have hlen:=b.len;have a:V2 1 (l.length:Int)=true:=by simp[V2];omega
  have:=R4 (step:=d09 fuel l) (fun i=>(F5 l i++List.replicate (l.length-i) false,(i:Int))) (F5 l l.length) l.length
   (fun i hi=>.inl (r0a b hi fuel).1) (by unfold d09;simp) l.length 0 fuel (by omega) (by omega)
  simp only[q0,a,toNat_natCast];simp only[F5,List.nil_append,sub_zero]at this;rw[show(0:Int)=((0:Nat):Int)from rfl,this];rfl
def q0H {l:List C0}(hw:∀x∈l,o3 x)(hl:l.length*64<=140737488351232){fuel:Nat}(e:401<fuel)(a:l.length+1<fuel):a0j fuel l=some (V8 l):=by
 unfold a0j V8;rw[e0f l hl a];cases hR:K1 l with
 |false=>rfl
 |true=>
  obtain⟨t,c⟩:=a04 hw hR;have d:=c.le;have hlen:=c.len;have b:V2 1 (l.length:Int)=true:=by simp[V2];omega
  have:=R4 (step:=e0C fuel l) (fun i=>(F5 l i++List.replicate (l.length-i) false,(i:Int))) (F5 l l.length) l.length
   (fun i hi=>.inl (r0a c hi fuel).2) (by unfold e0C;simp) l.length 0 fuel (by omega) (by omega)
  simp only[q0,b,toNat_natCast];simp only[F5,List.nil_append,sub_zero]at this;rw[show(0:Int)=((0:Nat):Int)from rfl,this];rfl
def L2 (l:List C0):Nat->List Int
 |0=>[]
 |i+1=>if(gt l (i:Int)).Kind=2 then L2 l i++[(i:Int)]else L2 l i
def I9 (l:List C0):∀i,(L2 l i).length=L0 l i
 |0=>rfl
 |i+1=>by simp only[L2,L0];split<;>simp[I9 l i]
def a0X (l:List C0):List Int:=if K1 l then L2 l l.length else[]
def t0D {l:List C0}(hl:l.length<=400){i:Nat}(hi:i<l.length)(fuel:Nat):
  e0U fuel l (L2 l i,(i:Int))=some (.next (L2 l (i+1),((i+1:Nat):Int)))/\d0D fuel l (L2 l i,(i:Int))=some (.next (L2 l (i+1),((i+1:Nat):Int))):=by
 have h1:(i:Int)<(l.length:Int):=by omega
 have c:B0 l (i:Int)=true:=R0 (by omega) (by omega);have b:W ((i:Int)+1)=((i+1:Nat):Int):=G3 (by omega);have hle:=c0Z l i;have a:I0 8 (L2 l i) [(i:Int)]=true:=Y4 (by rw[I9];simp;omega);unfold e0U d0D
 by_cases hk:(gt l (i:Int)).Kind=2<;>simp[h1,c,b,a,hk,L2]
def o0g {l:List C0}(hw:∀x∈l,o3 x){fuel:Nat}(c:401<fuel):K7 fuel l=some (a0X l):=by
 unfold K7 a0X;rw[c0Q l c];cases hR:K1 l with
 |false=>rfl
 |true=>
  obtain⟨t,a⟩:=a04 hw hR;have b:=a.le;have hlen:=a.len;have:=R4 (step:=e0U fuel l) (fun i=>(L2 l i,(i:Int))) (L2 l l.length) l.length (fun i hi=>.inl (t0D (by omega) hi fuel).1) (by unfold e0U;simp) l.length 0 fuel (by omega) (by omega);simp only[q0];simp only[L2]at this;rw[show(0:Int)=((0:Nat):Int)from rfl,this];rfl
def x0V {l:List C0}(hw:∀x∈l,o3 x)(hl:l.length*64<=140737488351232){fuel:Nat}(d:401<fuel)(a:l.length+1<fuel):b0t fuel l=some (a0X l):=by
 unfold b0t a0X;rw[e0f l hl a];cases hR:K1 l with
 |false=>rfl
 |true=>
  obtain⟨t,b⟩:=a04 hw hR;have c:=b.le;have hlen:=b.len;have:=R4 (step:=d0D fuel l) (fun i=>(L2 l i,(i:Int))) (L2 l l.length) l.length (fun i hi=>.inl (t0D (by omega) hi fuel).2) (by unfold d0D;simp) l.length 0 fuel (by omega) (by omega);simp only[q0];simp only[L2]at this;rw[show(0:Int)=((0:Nat):Int)from rfl,this];rfl
def h0p (l:List C0){i j:Nat}(h:i<=j):L0 l i<=L0 l j:=by
 induction j with
 |zero=>
      obtain rfl:i=0:=by omega
      exact le_refl _
 |succ j ih=>
  by_cases e:i=j+1
  ·subst e;exact le_refl _
  ·have:=ih (by omega);simp only[L0];omega
def c0J (l:List C0):∀(i p:Nat),p<L0 l i->∃q:Nat,q<i/\(L2 l i)[p]?=some (q:Int)/\(gt l (q:Int)).Kind=2/\L0 l q=p
 |0,p,h=>by simp[L0]at h
 |i+1,p,h=>by
  simp only[L0,L2]at h ⊢
  by_cases hk:(gt l (i:Int)).Kind=2
  ·simp only[hk,if_true]at h ⊢
   by_cases e:p=L0 l i
   ·exact⟨i,by omega,by rw[List.getElem?_append_right (by rw[I9];omega),I9];simp[e],hk,e.symm⟩
   ·obtain⟨q,h1,b,a,c⟩:=c0J l i p (by omega);exact⟨q,by omega,by rw[List.getElem?_append_left (by rw[I9];omega)];exact b,a,c⟩
  ·simp only[hk,if_false,Nat.add_zero]at h ⊢;obtain⟨q,h1,b,a,c⟩:=c0J l i p h;exact⟨q,by omega,b,a,c⟩
def C7 (l:List C0):Nat->List Int
 |0=>[]
 |i+1=>C7 l i++[if(gt l (i:Int)).Kind=2 then(L0 l i:Int)else -1]
def d0d (l:List C0):∀i,(C7 l i).length=i
 |0=>rfl
 |i+1=>by simp[C7,d0d l i]
def p0e (l:List C0):∀(i j:Nat),j<i->(C7 l i)[j]?=some (if(gt l (j:Int)).Kind=2 then(L0 l j:Int)else -1)
 |0,j,h=>by omega
 |i+1,j,h=>by
  simp only[C7]
  by_cases e:j=i
  ·subst e;rw[List.getElem?_append_right (by rw[d0d];omega),d0d];simp
  ·rw[List.getElem?_append_left (by rw[d0d];omega)];exact p0e l i j (by omega)
def e0h (l:List C0):List Int:=if K1 l then C7 l l.length else[]
def a0Y (l:List C0)(p:Nat):Nat->List Int
 |0=>[]
 |i+1=>a0Y l p i++[if(gt l (i:Int)).Kind=2/\L0 l i<p then(L0 l i:Int)else -1]
def c0L (l:List C0)(p:Nat):∀i,(a0Y l p i).length=i
 |0=>rfl
 |i+1=>by simp[a0Y,c0L l p i]
def j0M (l:List C0)(p:Nat):∀(i j:Nat),j<i->(a0Y l p i)[j]?=some (if(gt l (j:Int)).Kind=2/\L0 l j<p then(L0 l j:Int)else -1)
 |0,j,h=>by omega
 |i+1,j,h=>by
  simp only[a0Y]
  by_cases e:j=i
  ·subst e;rw[List.getElem?_append_right (by rw[c0L];omega),c0L];simp
  ·rw[List.getElem?_append_left (by rw[c0L];omega)];exact j0M l p i j (by omega)
def u0X (l:List C0){i j:Nat}(hi:(gt l (i:Int)).Kind=2)(a:(gt l (j:Int)).Kind=2)(h:L0 l i=L0 l j):i=j:=by
 rcases Nat.lt_trichotomy i j with c|c|c
 ·have:=h0p l (show i+1<=j from c);simp only[L0,hi,if_true]at this;omega
 ·exact c
 ·have:=h0p l (show j+1<=i from c);simp only[L0,a,if_true]at this;omega
def v0m (l:List C0){p q n:Nat}(d:q<n)(hk:(gt l (q:Int)).Kind=2)(hp:L0 l q=p):(a0Y l p n).set q (p:Int)=a0Y l (p+1) n:=by
 apply List.ext_getElem?;intro j
 by_cases b:j<n
 ·rw[j0M l _ n j b,List.getElem?_set]
  by_cases e:q=j
  ·subst e;simp[c0L,b,hk,hp]
  ·rw[if_neg e,j0M l _ n j b]
   by_cases a:(gt l (j:Int)).Kind=2
   ·have:L0 l j≠p:=fun h=>e (u0X l hk a (hp.trans h.symm));simp only[a,true_and]
    by_cases c:L0 l j<p
    ·rw[if_pos c,if_pos (by omega)]
    ·rw[if_neg c,if_neg (by omega)]
   ·simp[a]
 ·rw[List.getElem?_eq_none (by simp[c0L];omega),List.getElem?_eq_none (by simp[c0L];omega)]
def p0o (l:List C0):∀n,a0Y l 0 n=List.replicate n (-1)
 |0=>rfl
 |n+1=>by simp[a0Y,p0o l n,List.replicate_succ']
def F0A (l:List C0)(n:Nat):a0Y l (L0 l n) n=C7 l n:=by
 apply List.ext_getElem?;intro j
 by_cases a:j<n
 ·rw[j0M l _ n j a,p0e l n j a]
  by_cases b:(gt l (j:Int)).Kind=2
  ·have:=h0p l (show j+1<=n from a);simp only[L0,b,if_true]at this;simp[b];omega
  ·simp[b]
 ·rw[List.getElem?_eq_none (by simp[c0L];omega),List.getElem?_eq_none (by simp[d0d];omega)]
def z0W {l:List C0}(hw:∀x∈l,o3 x){fuel:Nat}(f:401<fuel):b0K fuel l=some (e0h l):=by
 unfold b0K e0h;rw[c0Q l f,o0g hw f];cases hR:K1 l with
 |false=>rfl
 |true=>
  obtain⟨t,e⟩:=a04 hw hR;have g:=e.le;have hlen:=e.len;have a:V2 8 (l.length:Int)=true:=by simp[V2];omega
  have j:=R4 (step:=f0G fuel l) (fun i=>(List.replicate i (-1)++List.replicate (l.length-i) 0,(i:Int))) (List.replicate l.length (-1)) l.length
   (fun i hi=>.inl (by
    have h1:(i:Int)<(l.length:Int):=by omega
    have c:B0 (List.replicate i (-1:Int)++List.replicate (l.length-i) 0) (i:Int)=true:=R0 (by omega) (by simp;omega);unfold f0G;simp only[List.length_replicate,toNat_natCast,h1,decide_true,if_true,c,G3 (show i<9223372036854775807 by omega)];rw[i06 hi 0,i08 (by simp),List.replicate_succ'];simp)) (by unfold f0G;simp) l.length 0 fuel (by omega) (by omega)
  have b:a0X l=L2 l l.length:=by simp[a0X,hR]
  have hle:=c0Z l l.length;have h:=R4 (step:=f0d fuel (List.replicate l.length (-1)) (L2 l l.length)) (fun p=>(a0Y l p l.length,(p:Int))) (C7 l l.length) (L0 l l.length)
   (fun p hp=>.inl (by
    obtain⟨q,h1,r,n,m⟩:=c0J l l.length p hp;have d:(p:Int)<((L2 l l.length).length:Int):=by rw[I9];omega
    have o:B0 (L2 l l.length) (p:Int)=true:=R0 (by omega) d;have k:B0 (a0Y l p l.length) (q:Int)=true:=R0 (by omega) (by rw[c0L];omega);unfold f0d;simp only[d,decide_true,if_true,o,B4 r,k,toNat_natCast,v0m l h1 n m,G3 (show p<9223372036854775807 by omega)])) (by unfold f0d;simp[I9,F0A]) (L0 l l.length) 0 fuel (by omega) (by omega)
  simp only[q0,a,toNat_natCast,b];simp only[List.replicate_zero,List.nil_append,sub_zero]at j;rw[show((List.replicate l.length (0:Int)),(0:Int))=(List.replicate l.length 0,((0:Nat):Int))from rfl,j,G0];rw[p0o]at h;rw[show((List.replicate l.length (-1:Int)),(0:Int))=(List.replicate l.length (-1),((0:Nat):Int))from rfl,h];rfl
def C00 {l:List C0}(hw:∀x∈l,o3 x)(hl:l.length*64<=140737488351232){fuel:Nat}(k:401<fuel)(b:l.length+1<fuel):b0p fuel l=some (e0h l):=by
 unfold b0p e0h;rw[e0f l hl b];cases hR:K1 l with
 |false=>rfl
 |true=>
  obtain⟨t,f⟩:=a04 hw hR;have g:=f.le;have hlen:=f.len;have c:V2 8 (l.length:Int)=true:=by simp[V2];omega
  have h:=R4 (step:=g0c fuel l) (fun i=>(C7 l i++List.replicate (l.length-i) 0,(L0 l i:Int),(i:Int))) (C7 l l.length) l.length
   (fun i hi=>.inl (by
    have h1:(i:Int)<(l.length:Int):=by omega
    have d:B0 l (i:Int)=true:=R0 (by omega) (by omega);have hle:=c0Z l i;have e:∀(y:Int) m,B0 (C7 l i++y :: m) (i:Int)=true:=fun y m=>R0 (by omega) (by simp[d0d];omega);have a:∀(x y:Int) m,(C7 l i++x :: m).set i y=C7 l i++y :: m:=fun x y m=>i08 (d0d l i).symm;unfold g0c;rw[i06 hi 0];simp only[h1,decide_true,if_true,e,d,toNat_natCast,a,G3 (show i<9223372036854775807 by omega),G3 (show L0 l i<9223372036854775807 by omega),C7,L0]
    by_cases j:(gt l (i:Int)).Kind=2<;>simp[j])) (by unfold g0c;simp) l.length 0 fuel (by omega) (by omega)
  simp only[q0,c,toNat_natCast];simp only[C7,L0,List.nil_append,sub_zero]at h;rw[show((List.replicate l.length (0:Int)),(0:Int),(0:Int))=(List.replicate l.length 0,((0:Nat):Int),((0:Nat):Int))from rfl,h];rfl
def J8 (u:List Int)(lo:Nat):Tm->Prop
 |.eps=>True
 |.leaf _=>True
 |.cat a b=>gt u (a.top lo:Int)=(Tm.top (.cat a b) lo:Int)/\gt u (b.top (lo+a.size):Int)=(Tm.top (.cat a b) lo:Int)/\J8 u lo a/\J8 u (lo+a.size) b
 |.alt a b=>gt u (a.top lo:Int)=(Tm.top (.alt a b) lo:Int)/\gt u (b.top (lo+a.size):Int)=(Tm.top (.alt a b) lo:Int)/\J8 u lo a/\J8 u (lo+a.size) b
 |.star a=>gt u (a.top lo:Int)=(Tm.top (.star a) lo:Int)/\J8 u lo a
 |.maybe a=>gt u (a.top lo:Int)=(Tm.top (.maybe a) lo:Int)/\J8 u lo a
 |.group n a=>gt u (a.top lo:Int)=(Tm.top (.group n a) lo:Int)/\J8 u lo a
 |.iter a=>gt u (a.top lo:Int)=(Tm.top (.iter a) lo:Int)/\J8 u lo a
def J8.congr {u v:List Int}:∀{s:Tm} {lo:Nat},(∀j:Nat,lo<=j->j<s.top lo->gt v (j:Int)=gt u (j:Int))->J8 u lo s->J8 v lo s:=by
 intro s
 induction s with
 |eps=>intros;trivial
 |leaf s=>intros;trivial
 |cat a b c ihb=>
  intro lo h hu;have:=a.size_pos;have:=b.size_pos;simp only[Tm.top,Tm.size]at h;obtain⟨h1,i,f,g⟩:=hu;exact⟨by rw[h _ (by unfold Tm.top;omega) (by unfold Tm.top;omega)];exact h1,by rw[h _ (by unfold Tm.top;omega) (by unfold Tm.top;omega)];exact i,
   c (fun j e d=>h j e (by unfold Tm.top at d;omega)) f,ihb (fun j e d=>h j (by omega) (by unfold Tm.top at d;omega)) g⟩
 |alt a b c ihb=>
  intro lo h hu;have:=a.size_pos;have:=b.size_pos;simp only[Tm.top,Tm.size]at h;obtain⟨h1,i,f,g⟩:=hu;exact⟨by rw[h _ (by unfold Tm.top;omega) (by unfold Tm.top;omega)];exact h1,by rw[h _ (by unfold Tm.top;omega) (by unfold Tm.top;omega)];exact i,
   c (fun j e d=>h j e (by unfold Tm.top at d;omega)) f,ihb (fun j e d=>h j (by omega) (by unfold Tm.top at d;omega)) g⟩
 |star a c|maybe a c|group _ a c|iter a c=>
  intro lo h hu;have:=a.size_pos;simp only[Tm.top,Tm.size]at h;obtain⟨h1,f⟩:=hu;exact⟨by rw[h _ (by unfold Tm.top;omega) (by unfold Tm.top;omega)];exact h1,c (fun j e d=>h j e (by unfold Tm.top at d;omega)) f⟩
def a0A (l:List C0)(o:List Int)(i:Nat):List Int:=
 let x:=gt l (i:Int)
 let a:=if 0<=x.A then o.set x.A.toNat i else o
 if 0<=x.B then a.set x.B.toNat i else a
def C6 (l:List C0)(lo:Nat):Nat->List Int->List Int
 |0,o=>o
 |k+1,o=>a0A l (C6 l lo k o) (lo+k)
def A0i (l:List C0)(o:List Int)(i:Nat):(a0A l o i).length=o.length:=by
 unfold a0A;simp only;repeat' split
 all_goals simp
def d05 (l:List C0)(lo:Nat)(o:List Int):∀k,(C6 l lo k o).length=o.length
 |0=>rfl
 |k+1=>by simp[C6,A0i,d05 l lo o k]
def r0g (l:List C0)(lo a:Nat)(o:List Int):∀b,C6 l lo (a+b) o=C6 l (lo+a) b (C6 l lo a o)
 |0=>rfl
 |b+1=>by rw[<-Nat.add_assoc];simp only[C6,r0g l lo a o b,Nat.add_assoc]
def X7 {α:Type}[Inhabited α]{o:List α}{i j:Nat}{x:α}(h:i≠j):gt (o.set i x) (j:Int)=gt o (j:Int):=by
 unfold gt;rw[List.getD_eq_getElem?_getD,List.getD_eq_getElem?_getD,toNat_natCast,List.getElem?_set_ne h]
def b0d {α:Type}[Inhabited α]{o:List α}{i:Nat}{x:α}(h:i<o.length):gt (o.set i x) (i:Int)=x:=B4 (by simp[h])
def A0g {l:List C0}:∀{s:Tm} {lo:Nat},At l lo s->∀o:List Int,lo+s.size<=o.length->
  (∀j:Nat,(j<lo\/s.top lo<=j)->gt (C6 l lo s.size o) (j:Int)=gt o (j:Int))/\J8 (C6 l lo s.size o) lo s:=by
 intro s
 induction s with
 |eps=>
  intro lo h o d;refine⟨fun j g=>?_,trivial⟩;have hg:=h.D2;simp only[Tm.top,Tm.size,Nat.add_sub_cancel]at hg;simp[C6,Tm.size,a0A,hg,Tm.node]
 |leaf s=>
  intro lo h o d;refine⟨fun j g=>?_,trivial⟩;have hg:=h.D2;simp only[Tm.top,Tm.size,Nat.add_sub_cancel]at hg;simp[C6,Tm.size,a0A,hg,Tm.node]
 |cat a b c f|alt a b c f=>
  intro lo h o d;have hg:=h.D2;obtain⟨ha,w,_⟩:=(At.bin rfl rfl).1 h;have:=a.size_pos;have:=b.size_pos;simp only[Tm.size]at d;obtain⟨p,a2⟩:=c ha o (by omega);obtain⟨t,x⟩:=f w (C6 l lo a.size o) (by rw[d05];omega);have e:C6 l lo (a.size+b.size+1) o=a0A l (C6 l (lo+a.size) b.size (C6 l lo a.size o)) (lo+(a.size+b.size)):=by simp only[C6,r0g]
  simp only[Tm.size,e];generalize n:C6 l (lo+a.size) b.size (C6 l lo a.size o)=v at *;have q:v.length=o.length:=by rw[<-n,d05,d05]
  have hi:lo+(a.size+b.size)=lo+(a.size+b.size+1)-1:=by omega
  have m:a0A l v (lo+(a.size+b.size))=(v.set (a.top lo) ((lo+(a.size+b.size):Nat):Int)).set (b.top (lo+a.size)) ((lo+(a.size+b.size):Nat):Int):=by
   simp only[Tm.top,Tm.size]at hg;rw[<-hi]at hg;generalize lo+(a.size+b.size)=i at hg ⊢;unfold a0A;simp only[hg,Tm.node];simp
  rw[m];have y:a.top lo=lo+a.size-1:=rfl;have tb:b.top (lo+a.size)=lo+a.size+b.size-1:=rfl;refine⟨fun j g=>?_,?_⟩
  ·simp only[Tm.top,Tm.size]at g;rw[X7 (by omega),X7 (by omega),t j (by omega),p j (by omega)]
  ·have k:lo+(a.size+b.size)=lo+(a.size+b.size+1)-1:=by omega
   refine⟨?_,?_,?_,?_⟩
   ·rw[X7 (by omega),b0d (by omega)];simp only[Tm.top,Tm.size,k]
   ·rw[b0d (by simp;omega)];simp only[Tm.top,Tm.size,k]
   ·exact a2.congr fun j u r=>by rw[X7 (by omega),X7 (by omega),t j (by omega)]
   ·exact x.congr fun j u r=>by rw[X7 (by omega),X7 (by omega)]
 |star a c|maybe a c|group _ a c|iter a c=>
  intro lo h o d;have hg:=h.D2;obtain⟨ha,_⟩:=(At.un rfl rfl).1 h;have:=a.size_pos;simp only[Tm.size]at d;obtain⟨p,a2⟩:=c ha o (by omega);simp only[Tm.size,C6];generalize n:C6 l lo a.size o=v at *;have q:v.length=o.length:=by rw[<-n,d05]
  have m:a0A l v (lo+a.size)=v.set (a.top lo) ((lo+a.size:Nat):Int):=by
   simp only[Tm.top,Tm.size]at hg;rw[show lo+(a.size+1)-1=lo+a.size from by omega]at hg;generalize lo+a.size=i at hg ⊢;unfold a0A;simp only[hg,Tm.node];simp
  rw[m];have y:a.top lo=lo+a.size-1:=rfl;refine⟨fun j g=>?_,?_⟩
  ·simp only[Tm.top,Tm.size]at g;rw[X7 (by omega),p j (by omega)]
  ·have k:lo+a.size=lo+(a.size+1)-1:=by omega
   refine⟨?_,?_⟩
   ·rw[b0d (by omega)];simp only[Tm.top,Tm.size,k]
   ·exact a2.congr fun j u r=>by rw[X7 (by omega)]
structure UpT (u:List Int)(t:Tm):Prop where
 len:u.length=t.size
 root:gt u (t.top 0:Int)=-1
 inner:J8 u 0 t
def A0W {l:List C0}{t:Tm}(j:O2 l t){o:List Int}(k:o.length=l.length){i:Nat}(hi:i<l.length)(fuel:Nat)(y:List Int):
  e0n fuel l (o,(i:Int))=some (.next (a0A l o i,((i+1:Nat):Int)))/\h0N fuel l y (o,(i:Int))=some (.next (a0A l o i,((i+1:Nat):Int))):=by
 have n:=j.le;have hlen:=j.len;have h1:(i:Int)<(l.length:Int):=by omega
 have d:B0 l (i:Int)=true:=R0 (by omega) (by omega);have c:W ((i:Int)+1)=((i+1:Nat):Int):=G3 (by omega);have e:∀(o:List Int) (z:Nat),o.length=l.length->z<i->B0 o (z:Int)=true:=fun o z h p=>R0 (by omega) (by omega);obtain⟨lo,s,m,f⟩:=j.node hi;have hg:=m.D2;rw[f]at hg;unfold e0n h0N a0A;cases s with
 |eps=>simp[h1,d,c,hg,Tm.node]
 |leaf s=>simp[h1,d,c,hg,Tm.node]
 |cat a b|alt a b=>
  have:=a.size_pos;have:=b.size_pos;have g:a.top lo<i:=by rw[<-f];simp only[Tm.top,Tm.size];omega
  have pb:b.top (lo+a.size)<i:=by rw[<-f];simp only[Tm.top,Tm.size];omega
  simp[h1,d,c,hg,Tm.node,e o _ k g,e (o.set (a.top lo) (i:Int)) _ (by simpa using k) pb]
 |star a|maybe a|group _ a|iter a=>
  have:=a.size_pos;have g:a.top lo<i:=by rw[<-f];simp only[Tm.top,Tm.size];omega
  simp[h1,d,c,hg,Tm.node,e o _ k g]
def l0S {l:List C0}{t:Tm}(a:O2 l t)(hR:K1 l=true){fuel:Nat}(j:401<fuel):∃u,S9 fuel l=some u/\UpT u t:=by
 have f:=a.le;have hlen:=a.len;have hp:=t.size_pos;have b:V2 8 (l.length:Int)=true:=by simp[V2];omega
 have h:W ((l.length:Int)-1)=((l.length-1:Nat):Int):=by rw[n3 (by omega) (by omega)];omega
 let o:List Int:=(List.replicate l.length (0:Int)).set (l.length-1) (-1)
 have d:o.length=l.length:=by simp[o]
 have e:=R4 (step:=e0n fuel l) (fun i=>(C6 l 0 i o,(i:Int))) (C6 l 0 l.length o) l.length
  (fun i hi=>.inl (by have:=(A0W a (o:=C6 l 0 i o) (by rw[d05,d]) hi fuel []).1;rw[this];simp[C6])) (by unfold e0n;simp) l.length 0 fuel (by omega) (by omega)
 refine⟨C6 l 0 l.length o,?_,?_⟩
 ·unfold S9;rw[c0Q l j,hR];have c:B0 (List.replicate l.length (0:Int)) ((l.length-1:Nat):Int)=true:=R0 (by omega) (by simp;omega);simp only[q0,b,toNat_natCast,h,c];simp only[C6]at e;rw[show((List.replicate l.length (0:Int)).set (l.length-1) (-1),(0:Int))=(o,((0:Nat):Int))from rfl,e];rfl
 ·obtain⟨p1,g⟩:=A0g a.at0 o (by omega);rw[hlen];refine⟨by rw[d05,d,hlen],?_,g⟩;rw[p1 _ (.inr (le_refl _)),show t.top 0=l.length-1 from by unfold Tm.top;omega];exact b0d (by simp;omega)
def G7 (d:List Int)(lo:Nat)(k:Nat):Tm->Prop
 |.eps=>gt d (lo:Int)=k
 |.leaf _=>gt d (lo:Int)=k
 |.cat a b=>gt d (Tm.top (.cat a b) lo:Int)=k/\G7 d lo (k+1) a/\G7 d (lo+a.size) (k+1) b
 |.alt a b=>gt d (Tm.top (.alt a b) lo:Int)=k/\G7 d lo (k+1) a/\G7 d (lo+a.size) (k+1) b
 |.star a=>gt d (Tm.top (.star a) lo:Int)=k/\G7 d lo (k+1) a
 |.maybe a=>gt d (Tm.top (.maybe a) lo:Int)=k/\G7 d lo (k+1) a
 |.group n a=>gt d (Tm.top (.group n a) lo:Int)=k/\G7 d lo (k+1) a
 |.iter a=>gt d (Tm.top (.iter a) lo:Int)=k/\G7 d lo (k+1) a
def G7.top {d:List Int}{lo k:Nat}{s:Tm}(h:G7 d lo k s):gt d (s.top lo:Int)=k:=by
 cases s<;>first|exact h|exact h.1
def G7.of {d u:List Int}:∀{s:Tm} {lo k:Nat},J8 u lo s->gt d (s.top lo:Int)=k->(∀j p:Nat,lo<=j->j<s.top lo->gt u (j:Int)=p->gt d (j:Int)=gt d (p:Int)+1)->G7 d lo k s:=by
 intro s
 induction s with
 |eps=>intro lo k _ h _;exact h
 |leaf s=>intro lo k _ h _;exact h
 |cat a b c i|alt a b c i=>
  intro lo k hu h e;obtain⟨h1,r,m,o⟩:=hu;have:=a.size_pos;have:=b.size_pos;simp only[Tm.top,Tm.size]at e;have n:=e _ _ (show lo<=a.top lo by unfold Tm.top;omega) (by unfold Tm.top;omega) h1;have q:=e _ _ (show lo<=b.top (lo+a.size) by unfold Tm.top;omega) (by unfold Tm.top;omega) r;refine⟨h,c m (by rw[n,h];rfl) fun j p l f g=>e j p l (by unfold Tm.top at f;omega) g,i o (by rw[q,h];rfl) fun j p l f g=>e j p (by omega) (by unfold Tm.top at f;omega) g⟩
 |star a c|maybe a c|group _ a c|iter a c=>
  intro lo k hu h e;obtain⟨h1,m⟩:=hu;have:=a.size_pos;simp only[Tm.top,Tm.size]at e;have n:=e _ _ (show lo<=a.top lo by unfold Tm.top;omega) (by unfold Tm.top;omega) h1;exact⟨h,c m (by rw[n,h];rfl) fun j p l f g=>e j p l (by unfold Tm.top at f;omega) g⟩
def J8.behind {u:List Int}:∀{s:Tm} {lo:Nat},J8 u lo s->∀j:Nat,lo<=j->j<s.top lo->∃p:Nat,gt u (j:Int)=p/\j<p/\p<=s.top lo:=by
 intro s
 induction s with
 |eps=>intro lo _ j h1 h;simp[Tm.top,Tm.size]at h;omega
 |leaf s=>intro lo _ j h1 h;simp[Tm.top,Tm.size]at h;omega
 |cat a b d g|alt a b d g=>
  intro lo hu j l i;obtain⟨h1,h,k,m⟩:=hu;have:=a.size_pos;have:=b.size_pos;simp only[Tm.top,Tm.size]at i ⊢;rcases Nat.lt_trichotomy j (a.top lo)with c|c|c
  ·obtain⟨p,p1,e,f⟩:=d k j l c;exact⟨p,p1,e,by unfold Tm.top at f;omega⟩
  ·subst c;exact⟨_,h1,by simp only[Tm.top,Tm.size];omega,by simp only[Tm.top,Tm.size];omega⟩
  ·rcases lt_or_ge j (b.top (lo+a.size))with c2|c2
   ·obtain⟨p,p1,e,f⟩:=g m j (by unfold Tm.top at c;omega) c2;exact⟨p,p1,e,by unfold Tm.top at f;omega⟩
   ·obtain rfl:j=b.top (lo+a.size):=by unfold Tm.top at *;omega
    exact⟨_,h,by simp only[Tm.top,Tm.size];omega,by simp only[Tm.top,Tm.size];omega⟩
 |star a d|maybe a d|group _ a d|iter a d=>
  intro lo hu j l i;obtain⟨h1,k⟩:=hu;have:=a.size_pos;simp only[Tm.top,Tm.size]at i ⊢;rcases lt_or_ge j (a.top lo)with c|c
  ·obtain⟨p,p1,e,f⟩:=d k j l c;exact⟨p,p1,e,by unfold Tm.top at f;omega⟩
  ·obtain rfl:j=a.top lo:=by unfold Tm.top at *;omega
   exact⟨_,h1,by simp only[Tm.top,Tm.size];omega,by simp only[Tm.top,Tm.size];omega⟩
def h0X (u o:List Int)(i:Nat):List Int:=if 0<=gt u (i:Int)then o.set i (gt o (gt u (i:Int))+1)else o.set i 1
structure b00 (d:List Int)(t:Tm):Prop where
 len:d.length=t.size
 deep:G7 d 0 1 t
def t06 {u:List Int}{t:Tm}(hu:UpT u t){step:List Int×Int->Option (V0 (List Int×Int) (List Int))}(hd:∀o:List Int,step (o,-1)=some (.done o))
  (r:∀(o:List Int) (i:Nat),o.length=t.size->i<t.size->(∀p:Nat,gt u (i:Int)=p->i<p/\p<t.size/\1<=gt o (p:Int)/\gt o (p:Int)<=t.size)->(gt u (i:Int)<0\/∃p:Nat,gt u (i:Int)=p)->step (o,(i:Int))=some (.next (h0X u o i,(i:Int)-1))):
  ∀(k:Nat) (o:List Int),o.length=t.size->k<=t.size->(∀j:Nat,k<=j->j<t.size->1<=gt o (j:Int)/\gt o (j:Int)<=(t.size-j:Nat))->(k<t.size->gt o (t.top 0:Int)=1)->
   (∀j p:Nat,k<=j->j<t.top 0->gt u (j:Int)=p->gt o (j:Int)=gt o (p:Int)+1)->∀m,k<m->∃d,iter step m (o,(k:Int)-1)=some d/\b00 d t
 |0,o,h1,_,h3,h4,h5,m,hm=>by
  obtain⟨m,rfl⟩:∃q,m=q+1:=⟨m-1,by omega⟩
  have:=t.size_pos;refine⟨o,by unfold iter;rw[show((0:Nat):Int)-1=-1 from rfl,hd],h1,G7.of hu.inner (h4 (by omega)) fun j p n b f=>h5 j p n b f⟩
 |k+1,o,h1,h2,h3,h4,h5,m,hm=>by
  obtain⟨m,rfl⟩:∃q,m=q+1:=⟨m-1,by omega⟩
  have w:=t.size_pos;have c:t.top 0=t.size-1:=by unfold Tm.top;omega
  have a:(k=t.size-1/\gt u (k:Int)=-1)\/∃p:Nat,gt u (k:Int)=p/\k<p/\p<t.size/\k<t.top 0:=by
   by_cases e:k=t.size-1
   ·exact .inl ⟨e,by rw[e,<-c];exact hu.root⟩
   ·obtain⟨p,p1,s,x⟩:=hu.inner.behind k (Nat.zero_le _) (by omega);exact .inr ⟨p,p1,s,by omega,by omega⟩
  have l:=r o k h1 (by omega) (fun p hp=>by
   rcases a with⟨_,e⟩|⟨q,q1,q2,q3,_⟩
   ·omega
   ·obtain rfl:p=q:=by omega
    have:=h3 p (by omega) q3;exact⟨q2,q3,this.1,by omega⟩) (by rcases a with⟨_,e⟩|⟨q,q1,_⟩;exact .inl (by omega);exact .inr ⟨q,q1⟩)
  rw[show(((k+1:Nat):Int)-1)=(k:Int)from by omega];unfold iter;rw[l];have g:(1:Int)<=((t.size-k:Nat):Int):=by omega
  have y:∃v:Int,h0X u o k=o.set k v/\1<=v/\v<=(t.size-k:Nat)/\(k=t.top 0->v=1)/\∀p:Nat,gt u (k:Int)=p->v=gt o (p:Int)+1:=by
   rcases a with⟨z,e⟩|⟨q,q1,q2,q3,q4⟩
   ·exact⟨1,by simp[h0X,e],Int.le_refl _,g,fun _=>rfl,fun p hp=>by rw[e]at hp;omega⟩
   ·have:=h3 q (by omega) q3;exact⟨gt o (q:Int)+1,by simp[h0X,q1],by omega,by omega,fun h=>by omega,fun p hp=>by rw[show p=q from by omega]⟩
  obtain⟨v,v1,v2,v3,v4,v5⟩:=y;rw[v1];refine t06 hu hd r k (o.set k v) (by simpa using h1) (by omega) (fun j n b=>?_) (fun _=>?_) (fun j p n b f=>?_) m (by omega)
  ·by_cases e:j=k
   ·subst e;rw[b0d (by omega)];exact⟨v2,v3⟩
   ·rw[X7 (by omega)];exact h3 j (by omega) b
  ·by_cases e:k=t.top 0
   ·rw[<-e,b0d (by omega)];exact v4 e
   ·rw[X7 e];clear a v5;exact h4 (by omega)
  ·obtain⟨p',p1,s,x⟩:=hu.inner.behind j (Nat.zero_le _) b;obtain rfl:p=p':=by omega
   by_cases e:j=k
   ·subst e;rw[b0d (by omega),X7 (by omega)];exact v5 p f
   ·rw[X7 (by omega),X7 (by omega)];exact h5 j p (by omega) b f
def i0j {l:List C0}{t:Tm}(n:O2 l t)(hR:K1 l=true){fuel:Nat}(x:401<fuel):∃d,a0w fuel l=some d/\b00 d t:=by
 obtain⟨u,e,hu⟩:=l0S n hR x;have r:=n.le;have hp:=t.size_pos;have k:=hu.len;have g:V2 8 (u.length:Int)=true:=by simp[V2];omega
 have w:W ((u.length:Int)-1)=(t.size:Int)-1:=by rw[n3 (by omega) (by omega)];omega
 unfold a0w;rw[e];simp only[G0,g,if_true,toNat_natCast,w];obtain⟨d,h1,s⟩:=t06 hu (step:=f0P fuel u) (fun o=>by unfold f0P;simp) (fun o i h1 s y c=>by
  have b:B0 o (i:Int)=true:=R0 (by omega) (by omega);have f:B0 u (i:Int)=true:=R0 (by omega) (by omega);have U:(i:Int)>=0:=by omega
  have a:W ((i:Int)-1)=(i:Int)-1:=n3 (by omega) (by omega);unfold f0P h0X;rcases c with c|⟨p,c⟩
  ·have:¬gt u (i:Int)>=0:=by omega
   simp[b,f,this,a]
  ·obtain⟨J,C,R,I⟩:=y p c;have v:B0 (o.set i 1) (p:Int)=true:=R0 (by omega) (by simp;omega);have i2:B0 (o.set i 1) (i:Int)=true:=R0 (by omega) (by simp;omega);have m:W (1+gt o (p:Int))=gt o (p:Int)+1:=by rw[n3 (by omega) (by omega)];omega
   simp[b,f,c,v,i2,a,b0d (show i<o.length by omega),X7 (show i≠p by omega),m]) t.size (List.replicate u.length 0) (by simp[k]) (le_refl _) (fun j z q=>by omega) (fun h=>by omega) (fun j p z q=>by unfold Tm.top at q;omega) fuel (by omega)
 exact⟨d,by rw[h1];rfl,s⟩
