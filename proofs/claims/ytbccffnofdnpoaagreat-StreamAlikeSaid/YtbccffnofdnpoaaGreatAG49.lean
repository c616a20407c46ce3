/- P. Its conditions: none. -/
import Derived.Test.YtbccffnofdnpoaaGreatAG46
import Derived.Test.YtbccffnofdnpoaaGreatAVMap
open Bool (false_eq_true and_eq_true)
open List (mem_cons map_cons length_map nodup_cons length_cons mem_append foldl_cons mem_cons_self mem_map foldl_nil length_set map_append map_map)
set_option linter.all false
namespace Go.Proofs.YtbccffnofdnpoaaGreat.Mv
open Go.V Go.RowKit Go.X
abbrev Mp:=List (Int×Int)
def ks (m:Mp):List Int:=m.map Prod.fst
def t0b (m:Mp)(k v j:Int):B3 (P6 m k v) j=if k=j then v else B3 m j:=by
 induction m with
 |nil=>by_cases h:k=j<;>simp[P6,B3,h]
 |cons p m ih=>
  obtain⟨a,b⟩:=p;simp only[P6]
  by_cases h:a=k
  ·subst h
   by_cases c:a=j<;>simp[B3,c]
  ·simp only[beq_eq_false_iff_ne.2 h,false_eq_true,if_false,B3]
   by_cases c:a=j
   ·subst c;simp[Ne.symm h]
   ·simp[c,ih]
def b0n (m:Mp)(j:Int):T3 m j=true↔j∈ks m:=by
 induction m with
 |nil=>simp[T3,ks]
 |cons p m ih=>
  obtain⟨a,b⟩:=p;have:ks ((a,b) :: m)=a :: ks m:=rfl;rw[this,mem_cons,<-ih,T3,Bool.or_eq_true,beq_iff_eq];exact⟨fun h=>h.elim (fun h=>.inl h.symm) .inr,fun h=>h.elim (fun h=>.inl h.symm) .inr⟩
def G0h {m:Mp}{k v:Int}(h:T3 m k=false):P6 m k v=m++[(k,v)]:=by
 induction m with
 |nil=>rfl
 |cons p m ih=>
  obtain⟨a,b⟩:=p;simp only[T3,Bool.or_eq_false_iff]at h;simp only[P6,h.1,false_eq_true,if_false,ih h.2,List.cons_append]
def C0C {m:Mp}{k v:Int}(h:T3 m k=true):ks (P6 m k v)=ks m:=by
 unfold ks
 induction m with
 |nil=>simp[T3]at h
 |cons p m ih=>
  obtain⟨a,b⟩:=p;simp only[P6]
  by_cases c:a=k
  ·subst c;simp
  ·simp only[T3,beq_eq_false_iff_ne.2 c,Bool.false_or]at h;simp[beq_eq_false_iff_ne.2 c,ih h]
def u0J (m:Mp)(k:Int):ks (a0d m k)=(ks m).erase k:=by
 unfold ks
 induction m with
 |nil=>rfl
 |cons p m ih=>
  obtain⟨a,b⟩:=p;simp only[a0d]
  by_cases c:a=k
  ·subst c;simp
  ·have c':¬(a==k)=true:=by simpa using c
   simp only[beq_eq_false_iff_ne.2 c,false_eq_true,if_false,map_cons,ih];rw[List.erase_cons_tail c']
def L0e {m:Mp}{k j:Int}(h:j≠k):B3 (a0d m k) j=B3 m j:=by
 induction m with
 |nil=>rfl
 |cons p m ih=>
  obtain⟨a,b⟩:=p;simp only[a0d]
  by_cases c:a=k
  ·subst c;simp[B3,Ne.symm h]
  ·simp only[beq_eq_false_iff_ne.2 c,false_eq_true,if_false,B3,ih]
def z0V {m:Mp}{k:Int}(h:k∈ks m):(a0d m k).length+1=m.length:=by
 have:=congrArg List.length (u0J m k);rw[List.length_erase_of_mem h]at this;have a:=List.length_pos_of_mem h;simp only[ks,length_map]at this a;omega
def q0L {l m:List Int}(hn:l.Nodup)(hs:∀x∈l,x∈m):l.length<=m.length:=by
 induction l generalizing m with
 |nil=>simp
 |cons a l ih=>
  have h1:=nodup_cons.1 hn;have ha:a∈m:=hs a V';have:=ih (m:=m.erase a) h1.2 (fun x b=>(List.mem_erase_of_ne (fun e:x=a=>h1.1 (e▸b))).2 (hs x (by simp[b])));rw[List.length_erase_of_mem ha]at this;have:=List.length_pos_of_mem ha;simp only[length_cons];omega
def K0n {l m:List Int}(hn:l.Nodup)(hs:∀x∈l,x∈m)(hl:m.length<=l.length){x:Int}(b:x∈m):x∈l:=by
 refine Classical.byContradiction fun h=>?_;have:=q0L (l:=x :: l) (m:=m) (nodup_cons.2 ⟨h,hn⟩) (fun y a=>by
  rcases mem_cons.1 a with rfl|a
  ·exact b
  ·exact hs y a)
 simp only[length_cons]at this;omega
def d0E (K:List Int)(m:Mp)(E6:Int):Bool:=K.any fun t=>T3 m t&&B3 m t==E6
abbrev So:=Mp×List P1
def c0w (s:So)(t:Int):So:=(a0d s.1 t,s.2++[⟨t,B3 s.1 t⟩])
def u6 (K:List Int)(s:So×Bool)(t:Int):So×Bool:=if T3 s.1.1 t&&!d0E K s.1.1 t then(c0w s.1 t,true)else s
def H8 (K:List Int)(s:So):So×Bool:=K.foldl (u6 K) (s,false)
def W8 (sp a:Int)(m:Mp)(t:Int):Mp:=if T3 m t&&B3 m t==a then P6 m t sp else m
def a0j (K:List Int)(sp:Int)(s:So):So:=match K.find? (T3 s.1)with
 |none=>s
 |some a=>(K.foldl (W8 sp a) s.1,s.2++[⟨sp,a⟩])
def b0u (now:Int)(r:Int->Int)(x:Int):Int:=if x=-1 then now else r x
def b0V (now:Int)(r:Int->Int)(m:P1):Int->Int:=fun x=>if x=m.To then b0u now r m.From else r x
def e0f (now:Int)(r:Int->Int)(out:List P1):Int->Int:=out.foldl (b0V now) r
def f02 (now:Int)(r:Int->Int)(out:List P1)(m:P1):e0f now r (out++[m])=b0V now (e0f now r out) m:=by simp[e0f]
def x0P {now:Int}{r:Int->Int}{m:P1}{x:Int}(h:x≠m.To):b0u now (b0V now r m) x=b0u now r x:=by
 unfold b0u b0V;simp only[if_neg h]
structure j0T (f:Int->Int)(K:List Int)(sp:Int):Prop where
 nd:K.Nodup
 spK:sp∉K
 spf:∀t∈K,f t≠sp
 ne:∀t∈K,f t≠t
 sp1:sp≠-1
structure a0n (f:Int->Int)(K:List Int)(sp:Int)(s:So)(q:Nat):Prop where
 nd:(ks s.1).Nodup
 sub:∀t∈ks s.1,t∈K
 lf:∀t∈ks s.1,B3 s.1 t=f t\/B3 s.1 t=sp
 pend:∀now r0,∀t∈ks s.1,b0u now (e0f now r0 s.2) (B3 s.1 t)=b0u now r0 (f t)
 done:∀now r0,∀t∈K,t∉ks s.1->e0f now r0 s.2 t=b0u now r0 (f t)
 oth:∀now r0 t,t∉K->t≠sp->e0f now r0 s.2 t=r0 t
 ok:∀m∈s.2,m.To≠m.From/\(m.To∈K\/m.To=sp)/\(m.From=sp\/m.From∈K\/∃t∈K,m.From=f t)
 len:s.2.length+s.1.length=K.length+q
variable {f:Int->Int}{K:List Int}{sp:Int}
def a0n.put (S:j0T f K sp){s:So}{q:Nat}(I:a0n f K sp s q){t:Int}(d:t∈ks s.1)(hw:∀u∈ks s.1,B3 s.1 u≠t):a0n f K sp (c0w s t) q:=by
 have i:ks (c0w s t).1=(ks s.1).erase t:=u0J _ _;have hm:∀u,u∈ks (c0w s t).1↔u≠t/\u∈ks s.1:=fun u=>by rw[i];exact I.nd.mem_erase_iff
 have hg:∀u,u≠t->B3 (c0w s t).1 u=B3 s.1 u:=fun u h=>L0e h;have g:=I.sub t d;have a:(c0w s t).2=s.2++[⟨t,B3 s.1 t⟩]:=rfl;refine⟨i▸I.nd.erase t,fun u hu=>I.sub u ((hm u).1 hu).2,fun u hu=>?_,fun now r0 u hu=>?_,fun now r0 u hu b=>?_,fun now r0 u hu b=>?_,fun m c=>?_,?_⟩
 ·rw[hg u ((hm u).1 hu).1];exact I.lf u ((hm u).1 hu).2
 ·obtain⟨h1,j⟩:=(hm u).1 hu;rw[hg u h1,a,f02,x0P (hw u j)];exact I.pend now r0 u j
 ·rw[a,f02];unfold b0V
  by_cases e:u=t
  ·subst e;rw[if_pos rfl];exact I.pend now r0 u d
  ·rw[if_neg e];exact I.done now r0 u hu (fun h=>b ((hm u).2 ⟨e,h⟩))
 ·rw[a,f02];unfold b0V;rw[if_neg (show ¬u=t from fun e=>hu (e▸g))];exact I.oth now r0 u hu b
 ·rw[a]at c;rcases mem_append.1 c with h|h
  ·exact I.ok m h
  ·rw[List.mem_singleton.1 h];refine⟨(hw t d).symm,.inl g,?_⟩;rcases I.lf t d with e|e
   ·exact .inr (.inr ⟨t,g,e⟩)
   ·exact .inl e
 ·have h1:(c0w s t).1.length+1=s.1.length:=z0V d;have:=I.len;rw[a];simp only[List.length_append,List.length_singleton];omega
def F0q (a:Int)(hs:sp≠a):∀(l:List Int) (m:Mp),ks (l.foldl (W8 sp a) m)=ks m/\∀j,B3 (l.foldl (W8 sp a) m) j=if j∈l/\j∈ks m/\B3 m j=a then sp else B3 m j:=by
 intro l
 induction l with
 |nil=>intro m;simp
 |cons t l ih=>
  intro m;rw[foldl_cons];obtain⟨h1,g⟩:=ih (W8 sp a m t)
  by_cases c:(T3 m t&&B3 m t==a)=true
  ·have e:W8 sp a m t=P6 m t sp:=by unfold W8;rw[if_pos c]
   rw[e]at h1 g ⊢;simp only[and_eq_true,beq_iff_eq]at c;have hk:ks (P6 m t sp)=ks m:=C0C c.1;have i:t∈ks m:=(b0n _ _).1 c.1;refine⟨h1.trans hk,fun j=>?_⟩;rw[g j,hk,t0b]
   by_cases b:t=j
   ·subst b;rw[if_pos rfl,if_neg (fun h=>hs h.2.2),if_pos ⟨mem_cons_self ..,i,c.2⟩]
   ·rw[if_neg b];have:(j∈t :: l)↔j∈l:=⟨fun h=>(mem_cons.1 h).resolve_left (Ne.symm b),fun h=>List.mem_cons_of_mem _ h⟩
    simp only[this]
  ·have e:W8 sp a m t=m:=by unfold W8;rw[if_neg c]
   rw[e]at h1 g ⊢;refine⟨h1,fun j=>?_⟩;rw[g j]
   by_cases b:j=t
   ·subst b;have d:¬(j∈ks m/\B3 m j=a):=by
     intro h;apply c;rw[(b0n _ _).2 h.1,h.2];simp
    rw[if_neg (fun h=>d h.2),if_neg (fun h=>d h.2)]
   ·have:(j∈t :: l)↔j∈l:=⟨fun h=>(mem_cons.1 h).resolve_left b,fun h=>List.mem_cons_of_mem _ h⟩
    simp only[this]
def a0n.ring (S:j0T f K sp){s:So}{q:Nat}(I:a0n f K sp s q)(o:∀t∈ks s.1,∃u∈ks s.1,B3 s.1 u=t)(r:s.1≠[]):a0n f K sp (a0j K sp s) (q+1)/\ks (a0j K sp s).1=ks s.1/\∃t∈ks s.1,∀u∈ks s.1,B3 (a0j K sp s).1 u≠t:=by
 have n:∀u∈ks s.1,B3 s.1 u∈ks s.1:=fun u hu=>K0n (m:=(ks s.1).map (B3 s.1)) I.nd (fun t d=>by obtain⟨v,h1,R⟩:=o t d;exact mem_map.2 ⟨v,h1,R⟩) V' (mem_map.2 ⟨u,hu,rfl⟩);have p:∀u∈ks s.1,B3 s.1 u=f u:=fun u hu=>(I.lf u hu).resolve_right (fun e=>S.spK (e▸I.sub _ (n u hu)));obtain⟨b,x⟩:∃b,b∈ks s.1:=by
  cases hl:s.1 with
  |nil=>exact absurd hl r
  |cons b l=>exact⟨b.1,by simp[ks]⟩
 obtain⟨a,ha⟩:∃a,K.find? (T3 s.1)=some a:=by
  cases h:K.find? (T3 s.1)with
  |some a=>exact⟨a,rfl⟩
  |none=>exact absurd ((b0n _ _).2 x) (List.find?_eq_none.1 h b (I.sub b x))
 have w:a∈ks s.1:=(b0n _ _).1 (List.find?_some ha);have z:=I.sub a w;have g:sp≠a:=fun e=>S.spK (e▸z);have C:a0j K sp s=(K.foldl (W8 sp a) s.1,s.2++[⟨sp,a⟩]):=by unfold a0j;rw[ha]
 obtain⟨k,J⟩:=F0q (sp:=sp) a g K s.1;rw[C];have hg:∀j∈ks s.1,B3 (K.foldl (W8 sp a) s.1) j=if B3 s.1 j=a then sp else B3 s.1 j:=by
  intro j y;rw[J j];simp only[I.sub j y,y,true_and]
 refine⟨⟨by rw[k];exact I.nd,fun t d=>I.sub t (k▸d),fun t d=>?_,fun now r0 t d=>?_,fun now r0 t d i=>?_,fun now r0 t d i=>?_,fun m hm=>?_,?_⟩,k,a,w,fun u hu=>?_⟩
 ·rw[k]at d;rw[hg t d];split
  ·exact .inr rfl
  ·exact .inl (p t d)
 ·rw[k]at d;rw[hg t d,f02]
  by_cases c:B3 s.1 t=a
  ·rw[if_pos c];have hp:=I.pend now r0 t d;rw[c]at hp;rw[<-hp];unfold b0u b0V;rw[if_neg S.sp1,if_pos rfl];rfl
  ·rw[if_neg c,x0P (fun e=>S.spK (by have:=I.sub _ (n t d);rw[e]at this;exact this))];exact I.pend now r0 t d
 ·rw[k]at i;rw[f02];unfold b0V;rw[if_neg (show ¬t=sp from fun e=>S.spK (e▸d))];exact I.done now r0 t d i
 ·rw[f02];unfold b0V;rw[if_neg (show ¬t=sp from i)];exact I.oth now r0 t d i
 ·rcases mem_append.1 hm with h|h
  ·exact I.ok m h
  ·rw[List.mem_singleton.1 h];exact⟨g,.inr rfl,.inr (.inl z)⟩
 ·have hl:(K.foldl (W8 sp a) s.1).length=s.1.length:=by simpa[ks]using congrArg List.length k
  have:=I.len;simp only[List.length_append,List.length_singleton,hl];omega
 ·rw[hg u hu];split
  ·exact g
  ·assumption
def a0n.waits {s:So}{q:Nat}(I:a0n f K sp s q){t:Int}:d0E K s.1 t=true↔∃u∈ks s.1,B3 s.1 u=t:=by
 unfold d0E;rw[List.any_eq_true];constructor
 ·rintro⟨u,hu,h⟩
  simp only[and_eq_true,beq_iff_eq]at h;exact⟨u,(b0n _ _).1 h.1,h.2⟩
 ·rintro⟨u,hu,h⟩
  exact⟨u,I.sub u hu,by rw[(b0n _ _).2 hu,h];simp⟩
def I0i (S:j0T f K sp){q:Nat}(l:List Int):∀s:So×Bool,a0n f K sp s.1 q->a0n f K sp (l.foldl (u6 K) s).1 q:=by
 induction l with
 |nil=>intro s I;exact I
 |cons t l ih=>
  intro s I;refine ih _ ?_;unfold u6;split
  ·rename_i c;simp only[and_eq_true,Bool.not_eq_true']at c;exact I.put S ((b0n _ _).1 c.1) (fun x a e=>by have:=I.waits.2 ⟨x,a,e⟩;rw[c.2]at this;cases this)
  ·exact I
def K02 (l:List Int):∀s:So×Bool,s.2=true->(l.foldl (u6 K) s).2=true:=by
 induction l with
 |nil=>intro s h;exact h
 |cons t l a=>intro s h;exact a _ (by unfold u6;split<;>first|rfl|exact h)
def r0n (l:List Int):∀s:So×Bool,(l.foldl (u6 K) s).2=false->l.foldl (u6 K) s=s/\∀t∈l,T3 s.1.1 t=true->d0E K s.1.1 t=true:=by
 induction l with
 |nil=>intro s h;exact⟨rfl,fun t b=>by simp at b⟩
 |cons t l ih=>
  intro s h;rw[foldl_cons]at h ⊢;have e:¬(T3 s.1.1 t&&!d0E K s.1.1 t)=true:=by
   intro c;have:(u6 K s t).2=true:=by unfold u6;rw[if_pos c]
   rw[K02 l _ this]at h;cases h
  have a:u6 K s t=s:=by unfold u6;rw[if_neg e]
  rw[a]at h ⊢;refine⟨(ih s h).1,fun u hu hm=>?_⟩;rcases mem_cons.1 hu with rfl|hu
  ·rw[hm]at e;simpa using e
  ·exact(ih s h).2 u hu hm
def y0I (l:List Int):∀s:So×Bool,(l.foldl (u6 K) s).1.1.length<=s.1.1.length/\(s.2=false->(l.foldl (u6 K) s).2=true->(l.foldl (u6 K) s).1.1.length<s.1.1.length):=by
 induction l with
 |nil=>intro s;exact⟨Nat.le_refl _,fun h1 a=>by rw[foldl_nil]at a;rw[h1]at a;cases a⟩
 |cons t l ih=>
  intro s;rw[foldl_cons];obtain⟨h1,a⟩:=ih (u6 K s t)
  by_cases c:(T3 s.1.1 t&&!d0E K s.1.1 t)=true
  ·have e:u6 K s t=(c0w s.1 t,true):=by unfold u6;rw[if_pos c]
   simp only[and_eq_true]at c;have b:(u6 K s t).1.1.length+1=s.1.1.length:=by rw[e];exact z0V ((b0n _ _).1 c.1)
   exact⟨O',fun _ _=>O'⟩
  ·have e:u6 K s t=s:=by unfold u6;rw[if_neg c]
   rw[e]at h1 a ⊢;exact⟨h1,a⟩
def r9 (K:List Int)(s:So):Nat:=if(H8 K s).2=true then 1 else 0
def H0Q {σ:Type}{body:σ->Option (X0 σ σ)}(g:So->σ)(S:j0T f K sp)(w:∀s:So,s.1=[]->body (g s)=some (.done (g s)))
  (h1:∀(s:So) (q:Nat),a0n f K sp s q->q<=K.length+1->s.1≠[]->body (g s)=some (.next (g (if(H8 K s).2=true then(H8 K s).1 else a0j K sp s)))):
  ∀(k:Nat) (s:So) (q fu:Nat),2*s.1.length+1-r9 K s<k->k<=fu->a0n f K sp s q->q+s.1.length<=K.length+r9 K s->∃out b,iter body fu (g s)=some (g ([],out))/\a0n f K sp ([],out) b/\b<=K.length:=by
 intro k
 induction k with
 |zero=>intro s q fu h;omega
 |succ k ih=>
  intro s q fu hm r I hq;obtain⟨fu,rfl⟩:∃m,fu=m+1:=⟨fu-1,O'⟩
  have x:r9 K s<=1:=by unfold r9;split<;>omega
  by_cases hl:s.1=[]
  ·refine⟨s.2,q,?_,?_,?_⟩
   ·unfold iter;rw[w s hl];simp only;rw[<-hl]
   ·rw[<-hl];exact I
   ·have:r9 K s=0:=by
     unfold r9;rw[if_neg];intro h;have:=(y0I (K:=K) K (s,false)).2 rfl h;simp[hl]at this
    omega
  ·have a:=h1 s q I O' hl;have l:=List.length_pos_iff.2 hl
   by_cases c:(H8 K s).2=true
   ·rw[if_pos c]at a;have i:r9 K s=1:=by unfold r9;rw[if_pos c]
    have v:(H8 K s).1.1.length<s.1.length:=(y0I (K:=K) K (s,false)).2 rfl c;have p:r9 K (H8 K s).1<=1:=by unfold r9;split<;>omega
    obtain⟨o,b,g⟩:=ih (H8 K s).1 q fu O' O' (I0i S K (s,false) I) O';exact⟨o,b,by unfold iter;rw[a];exact g.1,g.2⟩
   ·rw[if_neg c]at a;have i:r9 K s=0:=by unfold r9;rw[if_neg c]
    obtain⟨_,hw⟩:=r0n (K:=K) K (s,false) (by simpa[H8]using c);obtain⟨n,j,t,d,e⟩:=I.ring S (fun t d=>I.waits.1 (hw t (I.sub t d) ((b0n _ _).2 d))) hl;have hlen:(a0j K sp s).1.length=s.1.length:=by simpa[ks]using congrArg List.length j
    have c2:r9 K (a0j K sp s)=1:=by
     unfold r9;rw[if_pos];cases c2:(H8 K (a0j K sp s)).2 with
     |true=>rfl
     |false=>
      have:=(r0n (K:=K) K (a0j K sp s,false) c2).2 t (I.sub t d) ((b0n _ _).2 (j▸d));obtain⟨u,hu,h⟩:=n.waits.1 this;exact absurd h (e u (j▸hu))
    obtain⟨o,b,g⟩:=ih (a0j K sp s) (q+1) fu O' O' n O';exact⟨o,b,by unfold iter;rw[a];exact g.1,g.2⟩
end Go.Proofs.YtbccffnofdnpoaaGreat.Mv
namespace Go.Proofs.YtbccffnofdnpoaaGreat.Mv
open Go.V Go.RowKit Go.X
def c0q {S ρ:Type}{body:S->Option (X0 S ρ)}(I:S->Prop)(μ:S->Nat)(R:ρ->Prop)
  (hs:∀s,I s->(∃a,body s=some (.next a)/\I a/\μ a<μ s)\/∃r,body s=some (.done r)/\R r):∀(fu:Nat) (s:S),I s->μ s<fu->∃r,iter body fu s=some r/\R r:=by
 intro fu
 induction fu with
 |zero=>intro s _ h;omega
 |succ fu ih=>
  intro s c hm;rcases hs s c with⟨a,h1,b,d⟩|⟨r,h1,b⟩
  ·obtain⟨r,g1,g2⟩:=ih a b O';exact⟨r,by unfold iter;rw[h1];exact g1,g2⟩
  ·exact⟨r,by unfold iter;rw[h1],b⟩
def S6 {α:Type}[Inhabited α]{l:List α}{i:Nat}(h:i<l.length):gt l (i:Int)=l[i]:=P2 (by simp[h])
theorem P4 {α:Type}[Inhabited α]{l:List α}{i:Nat}(h:i<l.length):gt l (i:Int)∈l:=by rw[S6 h];exact List.getElem_mem _
def mgt {α:Type}[Inhabited α]{l:List α}{v:α}(h:v∈l):∃i:Nat,i<l.length/\gt l (i:Int)=v:=by
 obtain⟨i,hi,e⟩:=List.mem_iff_getElem.1 h;exact⟨i,hi,by rw[S6 hi,e]⟩
def b0S {α:Type}[Inhabited α]{l:List α}{i:Int}{v:α}{j:Int}(a:0<=i)(hi:i<l.length)(g0:0<=j)(b:j<l.length):gt (l.set i.toNat v) j=if j=i then v else gt l j:=by
 obtain⟨k,rfl⟩:∃k:Nat,j=(k:Int):=⟨j.toNat,O'⟩
 obtain⟨n,rfl⟩:∃n:Nat,i=(n:Int):=⟨i.toNat,O'⟩
 rw[Int.toNat_natCast,S6 (show k<(l.set n v).length by rw[length_set];omega),S6 (show k<l.length from O'),List.getElem_set]
 by_cases c:n=k
 ·subst c;simp
 ·rw[if_neg c,if_neg O']
def d0h (a:List Int):Prop:=∀i j:Nat,i<a.length->j<a.length->i≠j->0<=gt a (i:Int)->gt a (i:Int)≠gt a (j:Int)
structure HI (B:Int)(m:Nat)(tk:List Bool)(a:List Int):Prop where
 tl:tk.length=1217
 tk:∀n:Int,0<=n->n<1217->(gt tk n=true↔n∈a)
 al:a.length=m
 ap:d0h a
 rg:∀v∈a,v=-1\/(0<=v/\v<B)
def HI.set {B:Int}{m:Nat}{tk:List Bool}{a:List Int}(h:HI B m tk a){k:Nat}(hk:k<m)(hn:gt a (k:Int)<0){v:Int}(t:0<=v)(w:v<B)(h1:v<1217)(s:v∉a):HI B m (tk.set v.toNat true) (a.set k v):=by
 have hl:=h.tl;have g:=h.al;have b:∀j:Nat,j<a.length->gt (a.set k v) (j:Int)=if j=k then v else gt a (j:Int):=fun j d=>by
  have:=b0S (l:=a) (i:=(k:Int)) (v:=v) (j:=(j:Int)) O' O' O' O';rw[Int.toNat_natCast]at this;rw[this]
  by_cases c:j=k
  ·rw[if_pos c,if_pos O']
  ·rw[if_neg c,if_neg O']
 refine⟨by simpa using hl,fun n n0 y=>?_,by simpa using g,fun i j hi d r p=>?_,fun x u=>?_⟩
 ·rw[b0S t O' n0 O'];have hm:n∈a.set k v↔n=v\/n∈a:=by
   constructor
   ·intro q;exact(List.mem_or_eq_of_mem_set q).symm
   ·rintro(rfl|q)
    ·exact List.mem_set O' _
    ·obtain⟨j,d,rfl⟩:=mgt q;have o:j≠k:=fun e=>by subst e;omega
     have:=b j d;rw[if_neg o]at this;rw[<-this];exact P4 (by simpa using d)
  rw[hm]
  by_cases c:n=v
  ·simp[c]
  ·rw[if_neg c,h.tk n n0 y];simp[c]
 ·rw[length_set]at hi d;rw[b i hi]at p ⊢;rw[b j d]
  by_cases c1:i=k
  ·rw[if_pos c1,if_neg O'];exact fun e=>s (e▸P4 d)
  ·rw[if_neg c1]at p ⊢
   by_cases c2:j=k
   ·rw[if_pos c2];exact fun e=>s (e▸P4 hi)
   ·rw[if_neg c2];exact h.ap i j hi d r p
 ·rcases List.mem_or_eq_of_mem_set u with q|rfl
  ·exact h.rg x q
  ·exact .inr ⟨t,w⟩
def HI.zero (B:Int)(m:Nat):HI B m (List.replicate 1217 false) (List.replicate m (-1)):=by
 refine⟨List.length_replicate,fun n b h1=>⟨fun h=>?_,fun h=>?_⟩,List.length_replicate,fun i j hi _ _ h=>?_,fun v a=>.inl (List.eq_of_mem_replicate a)⟩
 ·obtain⟨k,rfl⟩:∃k:Nat,n=(k:Int):=⟨n.toNat,O'⟩
  rw[S6 (by rw[List.length_replicate];omega),List.getElem_replicate]at h;cases h
 ·have:=List.eq_of_mem_replicate h;omega
 ·have:=List.eq_of_mem_replicate (P4 hi);omega
def HI.free {B:Int}{m:Nat}{tk:List Bool}{a:List Int}(h:HI B m tk a){k:Nat}(hk:k<m)(hn:gt a (k:Int)<0):∃n:Nat,n<m/\(n:Int)∉a/\∀i:Nat,i<n->(i:Int)∈a:=by
 have key:∀j:Nat,(∀i:Nat,i<j->(i:Int)∈a)\/∃n:Nat,n<j/\(n:Int)∉a/\∀i:Nat,i<n->(i:Int)∈a:=by
  intro j
  induction j with
  |zero=>exact .inl fun i hi=>O'
  |succ j ih=>
   rcases ih with g|⟨n,h1,h2⟩
   ·by_cases c:(j:Int)∈a
    ·refine .inl fun i hi=>?_
     by_cases e:i=j
     ·rw[e];exact c
     ·exact g i O'
    ·exact .inr ⟨j,O',c,g⟩
   ·exact .inr ⟨n,O',h2⟩
 refine(key m).resolve_left fun g=>?_;have d:=h.al;have:=q0L (l:=gt a (k:Int) :: (List.range m).map fun n:Nat=>(n:Int)) (m:=a) (by
  refine nodup_cons.2 ⟨fun h=>?_,?_⟩
  ·obtain⟨n,_,hn⟩:=mem_map.1 h;omega
  ·unfold List.Nodup;rw[List.pairwise_map];exact List.pairwise_lt_range.imp (fun h=>O')) (fun x b=>by
  rcases mem_cons.1 b with rfl|b
  ·exact P4 O'
  ·obtain⟨n,hn,rfl⟩:=mem_map.1 b;exact g n (List.mem_range.1 hn))
 simp only[length_cons,length_map,List.length_range]at this;omega
structure s8 (B r:Int)(h:List Int):Prop where
 len:(h.length:Int)=r
 nd:h.Nodup
 rng:∀v∈h,0<=v/\v<B
def HI.home {B:Int}{m:Nat}{tk:List Bool}{a:List Int}(h:HI B m tk a)(hd:∀j:Nat,j<m->0<=gt a (j:Int)):s8 B m a:=by
 have d:=h.al;refine⟨O',List.pairwise_iff_getElem.2 fun i j hi c e=>?_,fun v b=>?_⟩
 ·have:=h.ap i j hi c O' (hd i O')
  rwa [S6 hi,S6 c]at this
 ·obtain⟨i,hi,rfl⟩:=mgt b;have:=hd i O';rcases h.rg _ b with q|q
  ·omega
  ·exact q
def d0L (n:Nat):List Int:=(List.range n).map fun i:Nat=>(i:Int)
def A0X {B:Int}{n:Nat}(h:(n:Int)<=B):s8 B n (d0L n):=by
 refine⟨by simp[d0L],?_,fun v a=>?_⟩
 ·unfold d0L List.Nodup;rw[List.pairwise_map];exact List.pairwise_lt_range.imp (fun h=>O')
 ·obtain⟨i,hi,rfl⟩:=mem_map.1 a;have:=List.mem_range.1 hi;omega
variable {F:Nat}{K:List Int}{sp:Int}
def h0K {α:Type}[Inhabited α]{l:List α}{i:Nat}(h:i<l.length):l.take (i+1)=l.take i++[gt l (i:Int)]:=by
 rw[List.take_add_one,List.getElem?_eq_getElem h,S6 h];rfl
def Ws {i:Nat}(h:i<=1000000):W ((i:Int)+1)=((i+1:Nat):Int):=Go.V.K2 O'
def bnd {b c:Bool}:(if b=true then some c else some false)=some (b&&c):=by cases b<;>rfl
def N0j (l:List Int):∀s:So×Bool,(l.foldl (u6 K) s).1.2.length<=s.1.2.length+l.length:=by
 induction l with
 |nil=>intro s;exact Nat.le_refl _
 |cons t l ih=>
  intro s;have:=ih (u6 K s t);have h:(u6 K s t).1.2.length<=s.1.2.length+1:=by unfold u6;split<;>simp[c0w]
  simp only[foldl_cons,length_cons];omega
def D0Z {s:So}(e:K.length<=400)(h:s.2.length<=2000)(g:5000<F):m0O F (s.1,K,sp,s.2)=some ((H8 K s).2,((H8 K s).1.1,K,sp,(H8 K s).1.2)):=by
 have hl:=b0i (body:=i0V F K) K.length (fun i=>(((K.take i).foldl (u6 K) (s,false)).2,(i:Int),(((K.take i).foldl (u6 K) (s,false)).1.1,K,sp,((K.take i).foldl (u6 K) (s,false)).1.2))) ((H8 K s).2,((H8 K s).1.1,K,sp,(H8 K s).1.2)) (fun i hi=>by
  have a:=N0j (K:=K) (K.take i) (s,false);rw[List.length_take]at a;rw[h0K hi,List.foldl_append,foldl_cons,foldl_nil];generalize (K.take i).foldl (u6 K) (s,false)=r at a ⊢;obtain⟨⟨m,out⟩,b⟩:=r;have a:out.length<=s.2.length+min i K.length:=a;obtain⟨k,hk⟩:=c0S (body:=l0q F K (i:Int) m K) K (fun t=>!(T3 m t&&B3 m t==gt K (i:Int))) (.inr ()) (fun _=>.inl ()) (fun j d=>by
   unfold l0q;simp only[q0,dec_lt d,Q4,d,bnd,Ws (show j<=1000000 from O')];cases T3 m (gt K (j:Int))&&B3 m (gt K (j:Int))==gt K (i:Int)<;>simp) (by unfold l0q;simp) (fu:=F) O'
  have hw:K.all (fun t=>!(T3 m t&&B3 m t==gt K (i:Int)))=!d0E K m (gt K (i:Int)):=by unfold d0E;rw[List.not_any_eq_all_not]
  rw[hw]at hk;have c:∀x:P1,J0 16 out [x]=true:=fun x=>W4 Z';unfold i0V u6 c0w;simp only[q0,dec_lt hi,Q4,hi,hk,c,Ws (show i<=1000000 from O')];cases T3 m (gt K (i:Int))<;>cases d0E K m (gt K (i:Int))<;>simp) (by
  unfold i0V H8;simp) (fu:=F) O'
 have hl:iter (i0V F K) F (false,0,(s.1,K,sp,s.2))=_:=hl;unfold m0O;simp only[hl,F0]
def J0h {s:So}(q:K.length<=400)(l:s.2.length<=2000)(r:5000<F)(p:∃a∈K,T3 s.1 a=true):m0f F (s.1,K,sp,s.2)=some ((a0j K sp s).1,K,sp,(a0j K sp s).2):=by
 obtain⟨m,out⟩:=s;obtain⟨a,ha⟩:∃a,K.find? (T3 m)=some a:=by
  cases h:K.find? (T3 m)with
  |some a=>exact⟨a,rfl⟩
  |none=>obtain⟨a,h1,k⟩:=p;exact absurd k (List.find?_eq_none.1 h a h1)
 have n:a0j K sp (m,out)=(K.foldl (W8 sp a) m,out++[⟨sp,a⟩]):=by unfold a0j;rw[ha]
 rw[n];obtain⟨h1,i,hi,k,o⟩:=List.find?_eq_some_iff_getElem.1 ha;have hg:gt K (i:Int)=a:=by rw[S6 hi,k]
 have l:out.length<=2000:=l;have e:∀x:P1,J0 16 out [x]=true:=fun x=>W4 Z';have b:=b0i (body:=i0N F K sp (i:Int)) K.length (fun j=>((j:Int),(K.take j).foldl (W8 sp a) m)) (K.foldl (W8 sp a) m) (fun j d=>by
  rw[h0K d,List.foldl_append,foldl_cons,foldl_nil];generalize (K.take j).foldl (W8 sp a) m=y;unfold i0N W8;simp only[q0,dec_lt d,Q4,d,hg,bnd,Ws (show j<=1000000 from O')];cases T3 y (gt K (j:Int))&&B3 y (gt K (j:Int))==a<;>simp) (by unfold i0N;simp) (fu:=F) O'
 have b:iter (i0N F K sp (i:Int)) F (0,m)=_:=b;have hl:=b0i (body:=j0g F m K sp out) i (fun j=>(j:Int)) (.inl (K.foldl (W8 sp a) m,K,sp,out++[⟨sp,a⟩])) (fun j d=>by
  have c:j<K.length:=O'
  have g:T3 m (gt K (j:Int))=false:=by have:=o j d;rw[S6 c];simpa using this
  unfold j0g;simp only[q0,dec_lt c,Q4,c,g,Ws (show j<=1000000 from O')]) (by
  unfold j0g;simp only[q0,dec_lt hi,Q4,hi,hg,h1,e,b]) (fu:=F) O'
 have hl:iter (j0g F m K sp out) F 0=_:=hl;unfold m0f;simp only[hl,F0]
def N0i {ms:List P1}(hl:ms.length<=400)(p:5000<F)(h:∀m∈ms,0<=m.To/\-1<=m.From)(hn:(ms.map P1.To).Nodup):k0I F ms=some true:=by
 obtain⟨r,k,e⟩:=c0q (body:=n0Z F ms) (fun s=>∃i:Nat,i<=ms.length/\s.1=(i:Int)/\∀t,t∉(ms.take i).map P1.To->B3 s.2 t=0) (fun s=>(ms.length-s.1).toNat) (fun r=>r=.inr ()) (fun s hs=>by
  obtain⟨x,y⟩:=s;obtain⟨i,hi,j,g⟩:=hs;simp only at j g;subst j
  by_cases c:i<ms.length
  ·have hm:=P4 c;obtain⟨t0,f0⟩:=h _ hm;have a:B3 y (gt ms (i:Int)).To=0:=g _ (fun n=>by
    have d:ms=ms.take i++ms.drop i:=(List.take_append_drop i ms).symm;rw[d,map_append,List.nodup_append]at hn;refine hn.2.2 _ n _ (mem_map.2 ⟨gt ms (i:Int),?_,rfl⟩) rfl;rw[S6 c,List.drop_eq_getElem_cons c];exact mem_cons_self ..)
   refine .inl ⟨((i+1:Nat),P6 y (gt ms (i:Int)).To 1),?_,⟨i+1,O',rfl,fun t b=>?_⟩,by simp only;omega⟩
   ·have o:decide ((gt ms (i:Int)).To<0)=false:=by simp;omega
    have l:decide ((gt ms (i:Int)).From < -1)=false:=by simp;omega
    unfold n0Z;simp only[q0,dec_lt c,Q4,c,a,o,l,show W (0+1)=1 from rfl,t0b,Ws (show i<=1000000 from O'),show decide ((1:Int)>1)=false from rfl]
   ·rw[h0K c,map_append,mem_append,not_or]at b;simp only[t0b];rw[if_neg (fun e=>b.2 (by simp[e]))];exact g t b.1
  ·have:i=ms.length:=O'
   subst this;exact .inr ⟨.inr (),by unfold n0Z;simp,rfl⟩) F (0,[]) ⟨0,O',rfl,fun t _=>rfl⟩ Z'
 subst e;unfold k0I;rw[k];rfl
def F0l {ms:List P1}(hl:ms.length<=400)(n:5000<F)(e:∀m∈ms,m.To≠m.From)(hn:(ms.map P1.To).Nodup):n0I F ms sp=some (ms.map fun m=>(m.To,m.From),j5 (fun i=>i) (ms.map P1.To),sp):=by
 have h:=b0i (body:=h0J F ms) ms.length (fun i=>((i:Int),((ms.take i).map (fun m=>(m.To,m.From)),(ms.take i).map P1.To,sp))) (ms.map (fun m=>(m.To,m.From)),ms.map P1.To,sp) (fun i hi=>by
  have hm:=P4 hi;have b:T3 ((ms.take i).map fun m=>(m.To,m.From)) (gt ms (i:Int)).To=false:=by
   cases h:T3 ((ms.take i).map fun m=>(m.To,m.From)) (gt ms (i:Int)).To with
   |false=>rfl
   |true=>
    exfalso;have c:=(b0n _ _).1 h;unfold ks at c;rw[map_map]at c;obtain⟨m,j,k⟩:=mem_map.1 c;have d:ms=ms.take i++ms.drop i:=(List.take_append_drop i ms).symm;rw[d,map_append,List.nodup_append]at hn;refine hn.2.2 m.To (mem_map.2 ⟨m,j,rfl⟩) (gt ms (i:Int)).To (mem_map.2 ⟨gt ms (i:Int),?_,rfl⟩) k;rw[S6 hi,List.drop_eq_getElem_cons hi];exact mem_cons_self ..
  have a:J0 8 ((ms.take i).map P1.To) [(gt ms (i:Int)).To]=true:=W4 Z';have l:((gt ms (i:Int)).To != (gt ms (i:Int)).From)=true:=by rw[bne_iff_ne];exact e _ hm
  unfold h0J;simp only[q0,dec_lt hi,Q4,hi,l,a,G0h b,Ws (show i<=1000000 from O')];rw[h0K hi,map_append,map_append];rfl) (by unfold h0J;simp) (fu:=F) O'
 have h:iter (h0J F ms) F (0,(([]:List (Int×Int)),[],sp))=_:=h;have hd:a0H (fun i=>i) (ms.map P1.To)=true:=(g0f (fun i=>i) _).2 hn;have g:decide ((ms.map P1.To).length<4611686018427387904)=true:=by simp;omega
 unfold n0I q0X;simp only[h,F0,hd,g,Bool.and_self,if_true]
def fS (ms:List P1)(x:Int):Int:=match ms.find? (fun m=>m.To==x)with|some m=>m.From|none=>-2
def f08 {ms:List P1}(hn:(ms.map P1.To).Nodup){m:P1}(hm:m∈ms):fS ms m.To=m.From/\B3 (ms.map fun m=>(m.To,m.From)) m.To=m.From:=by
 induction ms with
 |nil=>simp at hm
 |cons a ms ih=>
  rw[map_cons,nodup_cons]at hn;unfold fS;rw[List.find?_cons,map_cons,B3];rcases mem_cons.1 hm with rfl|hm
  ·simp
  ·have:(a.To==m.To)=false:=by
    rw[beq_eq_false_iff_ne];intro e;exact hn.1 (mem_map.2 ⟨m,hm,e.symm⟩)
   rw[this];exact ih hn.2 hm
def apply_get (now:Int)(out:List P1):∀(l:List Int) (r:Int->Int),(∀j:Int,0<=j->j<l.length->gt l j=r j)->(∀m∈out,0<=m.To/\m.To<l.length/\-1<=m.From/\m.From<l.length)->∀j:Int,0<=j->j<l.length->gt (Pr.Y3 now l out) j=e0f now r out j:=by
 induction out with
 |nil=>intro l r h _;exact h
 |cons m out ih=>
  intro l r h hm j c e;have hlen:(l.set m.To.toNat (Pr.a0s now l m.From)).length=l.length:=length_set ..;obtain⟨m1,m2,m3,m4⟩:=hm m V';refine ih _ (b0V now r m) (fun k b a=>?_) (fun x d=>by rw[hlen];exact hm x (by simp[d])) j c (by rw[hlen];exact e);rw[hlen]at a;rw[b0S m1 m2 b a];unfold b0V;split
  ·unfold b0u Pr.a0s;split
   ·rfl
   ·rw[if_neg O'];exact h _ O' m4
  ·exact h k b a
def O05 {ms:List P1}{R:Int}(hF:5000<F)(hl:ms.length<=400)(h:∀m∈ms,(0<=m.To/\m.To<R)/\(-1<=m.From/\m.From<R)/\m.To≠m.From)(hn:(ms.map P1.To).Nodup)(hR:0<=R):
  ∃out,j0G F ms R=some (out,0)/\out.length<=2*ms.length/\(∀m∈out,0<=m.To/\m.To<=R/\-1<=m.From/\m.From<=R/\m.From≠m.To)/\
   ∀now regs,(regs.length:Int)=R+1->(∀m∈ms,gt (Pr.Y3 now regs out) m.To=b0u now (gt regs) m.From)/\∀j:Int,0<=j->j<R->(∀m∈ms,m.To≠j)->gt (Pr.Y3 now regs out) j=gt regs j:=by
 have e:=c0E (fun i:Int=>i) (ms.map P1.To);have d:∀t,t∈j5 (fun i=>i) (ms.map P1.To)↔∃m∈ms,m.To=t:=fun t=>by rw[e.mem_iff,mem_map]
 have hlen:(j5 (fun i=>i) (ms.map P1.To)).length=ms.length:=by rw[e.length_eq,length_map]
 have b4:(j5 (fun i=>i) (ms.map P1.To)).Nodup:=e.nodup_iff.2 hn;have y:=F0l (F:=F) (sp:=R) hl hF (fun m hm=>(h m hm).2.2) hn;generalize j5 (fun i=>i) (ms.map P1.To)=K at *;have S:j0T (fS ms) K R:=⟨b4,fun hc=>by obtain⟨m,h1,v⟩:=(d _).1 hc;have:=h m h1;omega,fun t l=>by obtain⟨m,h1,rfl⟩:=(d _).1 l;rw[(f08 hn h1).1];have:=h m h1;omega,fun t l=>by obtain⟨m,h1,rfl⟩:=(d _).1 l;rw[(f08 hn h1).1];exact(h m h1).2.2.symm,O'⟩
 have C:ks (ms.map fun m=>(m.To,m.From))=ms.map P1.To:=by unfold ks;rw[map_map];rfl
 have p:∀t,t∈ks (ms.map fun m=>(m.To,m.From))↔t∈K:=fun t=>by rw[C,d,mem_map]
 have hg:∀t∈K,B3 (ms.map fun m=>(m.To,m.From)) t=fS ms t:=fun t l=>by
  obtain⟨m,h1,rfl⟩:=(d _).1 l;rw[(f08 hn h1).1,(f08 hn h1).2]
 have I:a0n (fS ms) K R (ms.map (fun m=>(m.To,m.From)),[]) 0:=⟨by rw[C];exact hn,fun t l=>(p t).1 l,fun t l=>.inl (hg t ((p t).1 l)),fun now r0 t l=>by rw[hg t ((p t).1 l)];rfl,fun now r0 t l v=>absurd ((p t).2 l) v,fun now r0 t _ _=>rfl,fun m hm=>by simp at hm,by simp[hlen]⟩
 have c4:∀s,r9 K s<=1:=fun s=>by unfold r9;split<;>omega
 obtain⟨out,q,n,U,hq⟩:=H0Q (body:=j0S F) (fun s=>(s.1,K,R,s.2)) S (fun s hs=>by
   unfold j0S;simp[hs]) (fun s q I hq z=>by
   have b2:=I.len;have c5:=List.length_pos_iff.2 z;have e1:decide ((s.1.length:Int)>0)=true:=by simp;omega
   have hex:∃a∈K,T3 s.1 a=true:=by
    cases hs:s.1 with
    |nil=>exact absurd hs z
    |cons b r=>exact⟨b.1,I.sub b.1 (by rw[hs];simp[ks]),(b0n _ _).2 (by simp[ks])⟩
   have b3:=D0Z (F:=F) (K:=K) (sp:=R) (s:=s) O' O' hF;have c3:=J0h (F:=F) (K:=K) (sp:=R) (s:=s) O' O' hF hex;unfold j0S;simp only[e1,if_true,b3,F0];cases c:(H8 K s).2 with
   |true=>simp
   |false=>
    have e2:H8 K s=(s,false):=(r0n (K:=K) K (s,false) c).1;rw[e2];simp only[q0,c3]) F (ms.map (fun m=>(m.To,m.From)),[]) 0 F (by
   have:=c4 (ms.map (fun m=>(m.To,m.From)),[]);simp only[length_map];omega) (Nat.le_refl _) I (by simp[hlen])
 have n:iter (j0S F) F (ms.map (fun m=>(m.To,m.From)),K,R,[])=some ([],K,R,out):=n;obtain⟨k,o⟩:=c0S (body:=o0C F ms R) ms (fun m=>!(m.To==R||m.From==R)) (.inr ()) (fun i=>.inl (i:Int)) (fun i hi=>by
  unfold o0C;simp only[dec_lt hi,Q4,hi,decide_true,if_true,Ws (show i<=1000000 from O')];cases(gt ms (i:Int)).To==R<;>cases(gt ms (i:Int)).From==R<;>simp) (by unfold o0C;simp) (fu:=F) O'
 rw[if_pos (List.all_eq_true.2 fun m hm=>by
  have:=h m hm;have a1:(m.To==R)=false:=by rw[beq_eq_false_iff_ne];omega
  have a2:(m.From==R)=false:=by rw[beq_eq_false_iff_ne];omega
  rw[a1,a2];rfl)]at o
 have hm:j0G F ms R=some (out,0):=by
  unfold j0G q0f;simp only[q0,N0i hl hF (fun m hm=>by have:=h m hm;omega) hn,show decide (R<0)=false from Z',o,show decide ((-1:Int)>=0)=false from rfl,y,n]
 have b1:=U.len;have u:∀m∈out,0<=m.To/\m.To<=R/\-1<=m.From/\m.From<=R/\m.From≠m.To:=fun m hm=>by
  obtain⟨g1,g2,g3⟩:=U.ok m hm;have hk:∀t∈K,0<=t/\t<R:=fun t l=>by obtain⟨x,J,rfl⟩:=(d _).1 l;exact(h x J).1
  have v:0<=m.To/\m.To<=R:=by
   rcases g2 with g|g
   ·have:=hk _ g;omega
   ·omega
  refine⟨v.1,v.2,?_⟩;rcases g3 with g|g|⟨t,g,g'⟩
  ·exact⟨O',O',g1.symm⟩
  ·have:=hk _ g;exact⟨O',O',g1.symm⟩
  ·obtain⟨x,J,rfl⟩:=(d _).1 g;rw[(f08 hn J).1]at g';have:=(h x J).2.1;exact⟨O',O',g1.symm⟩
 refine⟨out,hm,?_,u,fun now regs hr=>?_⟩
 ·simp only[List.length_nil,Nat.add_zero]at b1;omega
 ·have w:∀j:Int,0<=j->j<regs.length->gt (Pr.Y3 now regs out) j=e0f now (gt regs) out j:=apply_get now out regs (gt regs) (fun _ _ _=>rfl) (fun m hm=>by have:=u m hm;omega);refine⟨fun m hm=>?_,fun j h0 h1 v=>?_⟩
  ·have:=(h m hm).1;rw[w _ O' O',U.done now (gt regs) m.To ((d _).2 ⟨m,hm,rfl⟩) (by simp[ks]),(f08 hn hm).1]
  ·rw[w _ h0 O'];exact U.oth now (gt regs) j (fun hc=>by obtain⟨m,m1,m2⟩:=(d _).1 hc;exact v m m1 m2) O'
