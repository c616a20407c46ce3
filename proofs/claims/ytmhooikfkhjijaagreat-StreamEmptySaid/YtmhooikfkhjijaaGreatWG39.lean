/- A list that is a term is a tree. What is known of the nodes of a term: whether they can be nothing, and how; by the program and by the document. What is known of the nodes of a term: leaves, their numbers, what a node is a part of, and how deep it lies. Its conditions: none. -/
import Derived.Test.YtmhooikfkhjijaaGreatWG38
open Bool (and_eq_true false_eq_true)
open Nat (le_refl lt_or_ge le_of_lt sub_zero)
open Int (toNat_natCast)
set_option linter.all false
namespace Go.Proofs.YtmhooikfkhjijaaGreat.Old
open Go.V Go.RowKit
def W0h (s:List Int):Prop:=s.length=4/\∀ y∈s,inK .u64 y
def Tm.ok:Tm->Prop
 |.eps=>True | .leaf s=>W0h s | .cat a b=>a.ok/\b.ok | .alt a b=>a.ok/\b.ok
 |.star a=>a.ok | .maybe a=>a.ok | .group n a=>1<=n/\n<=9/\a.ok | .iter a=>a.ok
def Tm.leaves:Tm->Nat
 |.eps=>0 | .leaf _=>1 | .cat a b=>a.leaves+b.leaves | .alt a b=>a.leaves+b.leaves
 |.star a=>a.leaves | .maybe a=>a.leaves | .group _ a=>a.leaves | .iter a=>a.leaves
theorem Tm.D0m (t:Tm):t.leaves<=t.size:=by induction t<;>simp [Tm.leaves,Tm.size]<;>omega
def St (l:List U0) (a:List Int):Nat->List Tm->Prop
 |i,[]=>i=0
 |i,t :: ts=>t.size<=i/\At l (i-t.size) t/\t.ok/\gt a ((i-1:Nat):Int)=((i-t.size:Nat):Int)/\u5 l i=u5 l (i-t.size)+t.leaves/\St l a (i-t.size) ts
theorem St.snoc {l:List U0} {a:List Int} {v:Int}:∀ {ts:List Tm} {i:Nat},i<=a.length->St l a i ts->St l (a++[v]) i ts
 |[],_,_,h=>h
 |
  t :: ts,i,hi,⟨h1,h2,h3,h4,h5,h6⟩=>by
  have:=t.size_pos;exact ⟨h1,h2,h3,by rw [z0U (by omega) (by omega)];exact h4,h5,St.snoc (by omega) h6⟩
theorem V0F {x:U0} (hw:l02 x) (h:G0Y x=true):x.Set=Z4:=by
 have hl:=hw.2.2.2.2.1;simp only [G0Y,and_eq_true,beq_iff_eq] at h;obtain ⟨k,A,B,N,S⟩:=x;simp only at *
 match S,hl with
 |
  [s0,s1,s2,s3],_=>
  obtain ⟨a,b,c,d⟩:=h;simp [gt] at a b c d;simp [Z4,a,b,c,d]
theorem O0G {l:List U0} (hw:∀ x∈l,l02 x):∀ {i:Nat} {a:List Int},B0Q l i=some a->i<=l.length->∃ ts,St l a i ts
 |0,a,_,_=>⟨[],rfl⟩
 |
  i+1,a,h,hi=>by
  simp only [B0Q] at h;split at h
  ·cases h
  ·rename_i b hb;split at h
   ·rename_i hg;cases h;obtain ⟨ts,hst⟩:=O0G hw hb (by omega);have ok:=E0m hb;simp only [C0E,and_eq_true,decide_eq_true_eq] at hg;obtain ⟨⟨h0,hf⟩,_⟩:=hg;have hget:l[i]?=some (gt l (i:Int)):=by
     have hil:i<l.length:=by omega
     rw [Y5 (x:=l[i]) (by simp [hil])];simp [hil]
    have hwx:l02 (gt l (i:Int)):=hw _ (List.mem_of_getElem? hget);have hgv:gt (b++[z03 l b i]) ((i:Nat):Int)=z03 l b i:=F0L ok.len.symm;have hst':St l (b++[z03 l b i]) i ts:=hst.snoc (by rw [ok.len];omega);have hlv:u5 l (i+1)=u5 l i+if (gt l (i:Int)).Kind=2 then 1 else 0:=rfl;have mk:∀ (t:Tm) (us:List Tm),t.size<=i+1->At l (i+1-t.size) t->t.ok->z03 l b i=((i+1-t.size:Nat):Int)->u5 l (i+1)=u5 l (i+1-t.size)+t.leaves->St l (b++[z03 l b i]) (i+1-t.size) us->∃ ts,St l (b++[z03 l b i]) (i+1) ts:=
     fun t us h1 h2 h3 h4 h5 h6=>⟨t :: us,h1,h2,h3,by rw [Nat.add_sub_cancel,hgv,h4],h5,h6⟩
    generalize hx:gt l (i:Int)=x at *;have hxz:x.Kind≠2->x.Set=Z4:=fun h2=>V0F hwx (by simp only [D0f,and_eq_true,Bool.or_eq_true,beq_iff_eq] at hf;exact hf.1.resolve_left h2);have hxn:x.Kind≠7->x.N=0:=fun h7=>by simp only [D0f,and_eq_true,Bool.or_eq_true,beq_iff_eq,h7,if_false] at hf;exact hf.2
    have hv:z03 l b i=(if x.Kind=1\/x.Kind=2 then (if x.A=-1/\x.B=-1 then (i:Int) else -1)
      else if x.Kind=3\/x.Kind=4 then (if x.B=(i:Int)-1/\0<=x.B/\0<=x.A/\x.A=gt b x.B-1 then gt b x.A else -1)
      else if x.Kind=5\/x.Kind=6\/x.Kind=7\/x.Kind=8 then (if x.B=-1/\0<=x.A/\x.A=(i:Int)-1 then gt b x.A else -1) else -1):=by
     unfold z03;simp only [hx]
    by_cases c1:x.Kind=1\/x.Kind=2
    ·rw [if_pos c1] at hv
     by_cases cA:x.A=-1/\x.B=-1
     ·rw [if_pos cA] at hv;rcases c1 with c1 | c1
      ·have e:x=Tm.node i .eps:=by
        have:=hxz (by omega);have:=hxn (by omega);obtain ⟨k,A,B,N,S⟩:=x;simp only [Tm.node] at *;simp_all
       exact mk .eps ts (by simp [Tm.size]) ((At.one rfl rfl).2 (by show l[i]?=some (Tm.node i .eps);rw [hget,e])) trivial (by rw [hv];simp [Tm.size]) (by rw [hlv,c1];simp [Tm.size,Tm.leaves]) (by simpa [Tm.size] using hst')
      ·have e:x=Tm.node i (.leaf x.Set):=by
        have:=hxn (by omega);obtain ⟨k,A,B,N,S⟩:=x;simp only [Tm.node] at *;simp_all
       exact mk (.leaf x.Set) ts (by simp [Tm.size]) ((At.one rfl rfl).2 (by show l[i]?=some (Tm.node i (.leaf x.Set));rw [hget];exact congrArg some e)) ⟨hwx.2.2.2.2.1,hwx.2.2.2.2.2⟩ (by rw [hv];simp [Tm.size]) (by rw [hlv,c1];simp [Tm.size,Tm.leaves]) (by simpa [Tm.size] using hst')
     ·rw [if_neg cA] at hv;omega
    ·rw [if_neg c1] at hv
     by_cases c2:x.Kind=3\/x.Kind=4
     ·rw [if_pos c2] at hv
      by_cases cA:x.B=(i:Int)-1/\0<=x.B/\0<=x.A/\x.A=gt b x.B-1
      ·rw [if_pos cA] at hv;obtain ⟨cB,cB0,cA0,cA1⟩:=cA;cases ts with
       |nil=>have:i=0:=hst;omega
       |
        cons tb ts=>
        obtain ⟨p1,p2,p3,p4,p5,p6⟩:=hst;have e1:gt b x.B=((i-tb.size:Nat):Int):=by rw [cB,<-p4];congr 1;omega
        have hA:x.A=((i-tb.size-1:Nat):Int):=by omega
        cases ts with
        |nil=>have:i-tb.size=0:=p6;omega
        |
         cons ta ts=>
         obtain ⟨q1,q2,q3,q4,q5,q6⟩:=p6;have hp:=ta.size_pos;have hp2:=tb.size_pos;have hv2:z03 l b i=((i-tb.size-ta.size:Nat):Int):=by rw [hv,hA,q4]
         have hlo:i+1-(ta.size+tb.size+1)=i-tb.size-ta.size:=by omega
         have hlo2:i-tb.size-ta.size+ta.size=i-tb.size:=by omega
         have hq6:St l (b++[z03 l b i]) (i-tb.size-ta.size) ts:=St.snoc (by rw [ok.len];omega) q6;rcases c2 with c2 | c2
         ·have e:x=Tm.node (i-tb.size-ta.size) (.cat ta tb):=by
           have:=hxz (by omega);have:=hxn (by omega);obtain ⟨k,A,B,N,S⟩:=x;simp only [Tm.node,Tm.top] at *;simp only [U0.mk.injEq];refine ⟨c2,by omega,by omega,by assumption,by assumption⟩
          refine mk (.cat ta tb) ts (by simp [Tm.size];omega) ?_ ⟨q3,p3⟩ (by simp only [Tm.size];omega) (by simp only [Tm.size,Tm.leaves,hlo,hlv,c2];simp;omega) (by simp only [Tm.size,hlo];exact hq6);simp only [Tm.size,hlo];exact (At.bin rfl rfl).2 ⟨q2,by rw [hlo2];exact p2,by rw [hlo2,show i-tb.size+tb.size=i from by omega,hget,e]⟩
         ·have e:x=Tm.node (i-tb.size-ta.size) (.alt ta tb):=by
           have:=hxz (by omega);have:=hxn (by omega);obtain ⟨k,A,B,N,S⟩:=x;simp only [Tm.node,Tm.top] at *;simp only [U0.mk.injEq];refine ⟨c2,by omega,by omega,by assumption,by assumption⟩
          refine mk (.alt ta tb) ts (by simp [Tm.size];omega) ?_ ⟨q3,p3⟩ (by simp only [Tm.size];omega) (by simp only [Tm.size,Tm.leaves,hlo,hlv,c2];simp;omega) (by simp only [Tm.size,hlo];exact hq6);simp only [Tm.size,hlo];exact (At.bin rfl rfl).2 ⟨q2,by rw [hlo2];exact p2,by rw [hlo2,show i-tb.size+tb.size=i from by omega,hget,e]⟩
      ·rw [if_neg cA] at hv;omega
     ·rw [if_neg c2] at hv
      by_cases c3:x.Kind=5\/x.Kind=6\/x.Kind=7\/x.Kind=8
      ·rw [if_pos c3] at hv
       by_cases cA:x.B=-1/\0<=x.A/\x.A=(i:Int)-1
       ·rw [if_pos cA] at hv;obtain ⟨cB,cA0,cA1⟩:=cA;cases ts with
        |nil=>have:i=0:=hst;omega
        |
         cons ta ts=>
         obtain ⟨q1,q2,q3,q4,q5,q6⟩:=hst;have hp:=ta.size_pos;have hA:x.A=((i-1:Nat):Int):=by omega
         have hv2:z03 l b i=((i-ta.size:Nat):Int):=by rw [hv,hA,q4]
         have hlo:i+1-(ta.size+1)=i-ta.size:=by omega
         have hlo2:i-ta.size+ta.size=i:=by omega
         have hq6:St l (b++[z03 l b i]) (i-ta.size) ts:=St.snoc (by rw [ok.len];omega) q6;have fin:∀ t:Tm,t.size=ta.size+1->t.leaves=ta.leaves->t.flat (i-ta.size)=ta.flat (i-ta.size)++[t.node (i-ta.size)]->t.ok->x=t.node (i-ta.size)->∃ ts,St l (b++[z03 l b i]) (i+1) ts:=fun t s1 s2 s3 s4 e=>by
          refine mk t ts (by omega) ?_ s4 (by omega) (by rw [s1,hlo,s2,hlv,if_neg (by omega)];omega) (by rw [s1,hlo];exact hq6);rw [s1,hlo];exact (At.un s1 s3).2 ⟨q2,by rw [hlo2,hget,e]⟩
         have hz:=hxz (by omega);rcases c3 with c3 | c3 | c3 | c3
         ·refine fin (.star ta) rfl rfl rfl q3 ?_;have:=hxn (by omega);obtain ⟨k,A,B,N,S⟩:=x;simp only [Tm.node,Tm.top] at *;simp only [U0.mk.injEq];refine ⟨c3,by omega,cB,by assumption,hz⟩
         ·refine fin (.maybe ta) rfl rfl rfl q3 ?_;have:=hxn (by omega);obtain ⟨k,A,B,N,S⟩:=x;simp only [Tm.node,Tm.top] at *;simp only [U0.mk.injEq];refine ⟨c3,by omega,cB,by assumption,hz⟩
         ·have hn:1<=x.N/\x.N<=9:=by simp only [D0f,c3,and_eq_true,beq_self_eq_true,if_true,decide_eq_true_eq] at hf;exact hf.2
          refine fin (.group x.N ta) rfl rfl rfl ⟨hn.1,hn.2,q3⟩ ?_;obtain ⟨k,A,B,N,S⟩:=x;simp only [Tm.node,Tm.top] at *;simp only [U0.mk.injEq];refine ⟨c3,by omega,cB,trivial,hz⟩
         ·refine fin (.iter ta) rfl rfl rfl q3 ?_;have:=hxn (by omega);obtain ⟨k,A,B,N,S⟩:=x;simp only [Tm.node,Tm.top] at *;simp only [U0.mk.injEq];refine ⟨c3,by omega,cB,by assumption,hz⟩
       ·rw [if_neg cA] at hv;omega
      ·rw [if_neg c3] at hv;omega
   ·cases h
structure n4 (l:List U0) (t:Tm):Prop where
 eq:l=t.flat 0
 at0:At l 0 t
 ok:t.ok
 len:l.length=t.size
 le:t.size<=400
 lv:t.leaves<=64
theorem D0C {l:List U0} (hw:∀ x∈l,l02 x) (h:e0M l=true):∃ t,n4 l t:=by
 unfold e0M A0i at h;cases hL:B0Q l l.length with
 |none=>simp [hL] at h
 |
  some a=>
  simp only [hL] at h;split at h
  ·simp at h
  ·rename_i hc;have ok:=E0m hL;obtain ⟨ts,hst⟩:=O0G hw hL (le_refl _);cases ts with
   |nil=>exact absurd (.inl hst) hc
   |
    cons t ts=>
    obtain ⟨q1,q2,q3,q4,q5,q6⟩:=hst;have h4:gt a ((l.length:Int)-1)=0:=by
     rcases Int.decEq (gt a ((l.length:Int)-1)) 0 with h | h
     ·exact absurd (.inr (.inr (.inr h))) hc
     ·exact h
    have h0:l.length≠0:=fun h=>hc (.inl h);rw [show ((l.length-1:Nat):Int)=(l.length:Int)-1 from by omega,h4] at q4;have hs:t.size=l.length:=by omega
    rw [hs,Nat.sub_self] at q2;have hfl:l=t.flat 0:=by
     have:=q2;unfold At at this
     rwa [List.drop_zero,hs,List.take_length] at this
    have h400:¬ 400<l.length:=fun h=>hc (.inr (.inl h));have h64:¬ 64<u5 l l.length:=fun h=>hc (.inr (.inr (.inl h)));rw [hs,Nat.sub_self] at q5;have:u5 l 0=0:=rfl;exact ⟨t,hfl,q2,q3,hs.symm,by omega,by omega⟩
theorem At.O0J {l:List U0}:∀ {s:Tm} {lo:Nat},At l lo s->∀ i,lo<=i->i<lo+s.size->∃ lo' s',At l lo' s'/\s'.top lo'=i/\lo<=lo'/\s'.size<=s.size:=by
 intro s;have leafc:∀ (t:Tm) (lo:Nat),t.size=1->At l lo t->∀ i,lo<=i->i<lo+t.size->∃ lo' s',At l lo' s'/\s'.top lo'=i/\lo<=lo'/\s'.size<=t.size:=fun t lo ht h i h1 h2=>⟨lo,t,h,by unfold Tm.top;omega,by omega,by omega⟩
 induction s with
 |eps=>exact fun h=>leafc _ _ rfl h
 |leaf s=>exact fun h=>leafc _ _ rfl h
 |
  cat a b iha ihb=>
  intro lo h i h1 h2;obtain ⟨ha,hb,_⟩:=(At.bin rfl rfl).1 h;simp only [Tm.size] at h2 ⊢;rcases lt_or_ge i (lo+a.size) with c | c
  ·obtain ⟨lo',s',p1,p2,p3,p4⟩:=iha ha i h1 c;exact ⟨lo',s',p1,p2,p3,by omega⟩
  ·rcases lt_or_ge i (lo+a.size+b.size) with c2 | c2
   ·obtain ⟨lo',s',p1,p2,p3,p4⟩:=ihb hb i c c2;exact ⟨lo',s',p1,p2,by omega,by omega⟩
   ·exact ⟨lo,.cat a b,h,by simp only [Tm.top,Tm.size];omega,by omega,by simp [Tm.size]⟩
 |
  alt a b iha ihb=>
  intro lo h i h1 h2;obtain ⟨ha,hb,_⟩:=(At.bin rfl rfl).1 h;simp only [Tm.size] at h2 ⊢;rcases lt_or_ge i (lo+a.size) with c | c
  ·obtain ⟨lo',s',p1,p2,p3,p4⟩:=iha ha i h1 c;exact ⟨lo',s',p1,p2,p3,by omega⟩
  ·rcases lt_or_ge i (lo+a.size+b.size) with c2 | c2
   ·obtain ⟨lo',s',p1,p2,p3,p4⟩:=ihb hb i c c2;exact ⟨lo',s',p1,p2,by omega,by omega⟩
   ·exact ⟨lo,.alt a b,h,by simp only [Tm.top,Tm.size];omega,by omega,by simp [Tm.size]⟩
 |
  star a iha=>
  intro lo h i h1 h2;obtain ⟨ha,_⟩:=(At.un rfl rfl).1 h;simp only [Tm.size] at h2 ⊢;rcases lt_or_ge i (lo+a.size) with c | c
  ·obtain ⟨lo',s',p1,p2,p3,p4⟩:=iha ha i h1 c;exact ⟨lo',s',p1,p2,p3,by omega⟩
  ·exact ⟨lo,.star a,h,by simp only [Tm.top,Tm.size];omega,by omega,by simp [Tm.size]⟩
 |
  maybe a iha=>
  intro lo h i h1 h2;obtain ⟨ha,_⟩:=(At.un rfl rfl).1 h;simp only [Tm.size] at h2 ⊢;rcases lt_or_ge i (lo+a.size) with c | c
  ·obtain ⟨lo',s',p1,p2,p3,p4⟩:=iha ha i h1 c;exact ⟨lo',s',p1,p2,p3,by omega⟩
  ·exact ⟨lo,.maybe a,h,by simp only [Tm.top,Tm.size];omega,by omega,by simp [Tm.size]⟩
 |
  group n a iha=>
  intro lo h i h1 h2;obtain ⟨ha,_⟩:=(At.un rfl rfl).1 h;simp only [Tm.size] at h2 ⊢;rcases lt_or_ge i (lo+a.size) with c | c
  ·obtain ⟨lo',s',p1,p2,p3,p4⟩:=iha ha i h1 c;exact ⟨lo',s',p1,p2,p3,by omega⟩
  ·exact ⟨lo,.group n a,h,by simp only [Tm.top,Tm.size];omega,by omega,by simp [Tm.size]⟩
 |
  iter a iha=>
  intro lo h i h1 h2;obtain ⟨ha,_⟩:=(At.un rfl rfl).1 h;simp only [Tm.size] at h2 ⊢;rcases lt_or_ge i (lo+a.size) with c | c
  ·obtain ⟨lo',s',p1,p2,p3,p4⟩:=iha ha i h1 c;exact ⟨lo',s',p1,p2,p3,by omega⟩
  ·exact ⟨lo,.iter a,h,by simp only [Tm.top,Tm.size];omega,by omega,by simp [Tm.size]⟩
theorem n4.node {l:List U0} {t:Tm} (h:n4 l t) {i:Nat} (hi:i<l.length):∃ lo s,At l lo s/\s.top lo=i:=by
 obtain ⟨lo,s,h1,h2,_⟩:=h.at0.O0J i (by omega) (by rw [h.len] at hi;omega);exact ⟨lo,s,h1,h2⟩
def Tm.can:Tm->Bool
 |.eps=>true | .leaf _=>false | .cat a b=>a.can&&b.can | .alt a b=>a.can||b.can
 |.star _=>true | .maybe _=>true | .group _ a=>a.can | .iter a=>a.can
def C0N (l:List U0) (c:List Bool) (i:Nat):Bool:=
 let x:=gt l (i:Int)
 if x.Kind=1\/x.Kind=5\/x.Kind=6 then true
 else if x.Kind=3 then gt c x.A&&gt c x.B else if x.Kind=4 then gt c x.A||gt c x.B else if x.Kind=7\/x.Kind=8 then gt c x.A else false
def B03 (l:List U0):Nat->List Bool
 |0=>[]
 |i+1=>B03 l i++[C0N l (B03 l i) i]
theorem E09 (l:List U0):∀ i,(B03 l i).length=i
 |0=>rfl
 |i+1=>by simp [B03,E09 l i]
theorem E0s (l:List U0) {i j:Nat} (h:j<i):gt (B03 l i) (j:Int)=C0N l (B03 l j) j:=by
 induction i with
 |zero=>omega
 |
  succ i ih=>
  simp only [B03]
  by_cases e:j=i
  ·subst e;rw [F0L (E09 l j).symm]
  ·rw [z0U (by omega) (by rw [E09];omega)];exact ih (by omega)
theorem V0j {l:List U0}:∀ {s:Tm} {lo:Nat},At l lo s->∀ i,s.top lo<i->gt (B03 l i) (s.top lo:Int)=s.can:=by
 intro s
 induction s with
 |eps=>intro lo h i hi;rw [E0s l hi];simp [C0N,h.A0h,Tm.node,Tm.can]
 |leaf s=>intro lo h i hi;rw [E0s l hi];simp [C0N,h.A0h,Tm.node,Tm.can]
 |
  cat a b iha ihb=>
  intro lo h i hi;rw [E0s l hi];obtain ⟨ha,hb,_⟩:=(At.bin rfl rfl).1 h;have:=a.size_pos;have:=b.size_pos;simp only [C0N,h.A0h,Tm.node,Tm.can];simp [iha ha _ (show a.top lo<Tm.top (.cat a b) lo by simp only [Tm.top,Tm.size];omega),ihb hb _ (show b.top (lo+a.size)<Tm.top (.cat a b) lo by simp only [Tm.top,Tm.size];omega)]
 |
  alt a b iha ihb=>
  intro lo h i hi;rw [E0s l hi];obtain ⟨ha,hb,_⟩:=(At.bin rfl rfl).1 h;have:=a.size_pos;have:=b.size_pos;simp only [C0N,h.A0h,Tm.node,Tm.can];simp [iha ha _ (show a.top lo<Tm.top (.alt a b) lo by simp only [Tm.top,Tm.size];omega),ihb hb _ (show b.top (lo+a.size)<Tm.top (.alt a b) lo by simp only [Tm.top,Tm.size];omega)]
 |star a iha=>intro lo h i hi;rw [E0s l hi];simp [C0N,h.A0h,Tm.node,Tm.can]
 |maybe a iha=>intro lo h i hi;rw [E0s l hi];simp [C0N,h.A0h,Tm.node,Tm.can]
 |
  group n a iha=>
  intro lo h i hi;rw [E0s l hi];obtain ⟨ha,_⟩:=(At.un rfl rfl).1 h;have:=a.size_pos;simp only [C0N,h.A0h,Tm.node,Tm.can];simp [iha ha _ (show a.top lo<Tm.top (.group n a) lo by simp only [Tm.top,Tm.size];omega)]
 |
  iter a iha=>
  intro lo h i hi;rw [E0s l hi];obtain ⟨ha,_⟩:=(At.un rfl rfl).1 h;have:=a.size_pos;simp only [C0N,h.A0h,Tm.node,Tm.can];simp [iha ha _ (show a.top lo<Tm.top (.iter a) lo by simp only [Tm.top,Tm.size];omega)]
def C0c (l:List U0):List Bool:=if e0M l then B03 l l.length else []
theorem N0y {l:List U0} {t:Tm} (ht:n4 l t) {i:Nat} (hi:i<l.length) (fuel:Nat) :
  E0X fuel l (B03 l i++List.replicate (l.length-i) false,(i:Int))=some (.next (B03 l (i+1)++List.replicate (l.length-(i+1)) false,((i+1:Nat):Int)))/\
  E0Q fuel l (B03 l i++List.replicate (l.length-i) false,(i:Int))=some (.next (B03 l (i+1)++List.replicate (l.length-(i+1)) false,((i+1:Nat):Int))):=by
 have h400:=ht.le;have hlen:=ht.len;have h1:(i:Int)<(l.length:Int):=by omega
 have hin:y0 l (i:Int)=true:=B4 (by omega) (by omega);have hWi:W ((i:Int)+1)=((i+1:Nat):Int):=R2 (by omega);rw [G0O hi false];generalize hm:List.replicate (l.length-(i+1)) false=m;have hset:∀ (y:Bool),(B03 l i++false :: m).set i y=B03 l i++y :: m:=fun y=>H0a (E09 l i).symm;have hgl:∀ (z:Nat),z<i->gt (B03 l i++false :: m) (z:Int)=gt (B03 l i) (z:Int):=fun z h=>z0U (by omega) (by rw [E09];omega);have hib:∀ (z:Nat),z<=i->y0 (B03 l i++false :: m) (z:Int)=true:=fun z h=>B4 (by omega) (by simp [E09];omega);have hii:=hib i (by omega);have hr:B03 l (i+1)++m=B03 l i++C0N l (B03 l i) i :: m:=by simp [B03]
 rw [hr];unfold E0X E0Q;simp only [h1,decide_true,if_true,hin,hii,hWi,toNat_natCast,hset];obtain ⟨lo,s,hat,hs⟩:=ht.node hi;have hg:=hat.A0h;rw [hs] at hg;cases s with
 |eps=>simp [hg,Tm.node,C0N]
 |leaf s=>simp [hg,Tm.node,C0N,hset false]
 |
  cat a b=>
  have:=a.size_pos;have:=b.size_pos;have pa:a.top lo<i:=by rw [<-hs];simp only [Tm.top,Tm.size];omega
  have pb:b.top (lo+a.size)<i:=by rw [<-hs];simp only [Tm.top,Tm.size];omega
  simp only [hg,Tm.node,C0N,hib _ (le_of_lt pa),hib _ (le_of_lt pb),hgl _ pa,hgl _ pb];cases gt (B03 l i) (a.top lo:Int)<;>simp
 |
  alt a b=>
  have:=a.size_pos;have:=b.size_pos;have pa:a.top lo<i:=by rw [<-hs];simp only [Tm.top,Tm.size];omega
  have pb:b.top (lo+a.size)<i:=by rw [<-hs];simp only [Tm.top,Tm.size];omega
  simp only [hg,Tm.node,C0N,hib _ (le_of_lt pa),hib _ (le_of_lt pb),hgl _ pa,hgl _ pb];cases gt (B03 l i) (a.top lo:Int)<;>simp
 |star a=>simp [hg,Tm.node,C0N]
 |maybe a=>simp [hg,Tm.node,C0N]
 |
  group n a=>
  have:=a.size_pos;have pa:a.top lo<i:=by rw [<-hs];simp only [Tm.top,Tm.size];omega
  simp [hg,Tm.node,C0N,hib _ (le_of_lt pa),hgl _ pa]
 |
  iter a=>
  have:=a.size_pos;have pa:a.top lo<i:=by rw [<-hs];simp only [Tm.top,Tm.size];omega
  simp [hg,Tm.node,C0N,hib _ (le_of_lt pa),hgl _ pa]
theorem N0u {l:List U0} (hw:∀ x∈l,l02 x) {fuel:Nat} (hf:401<fuel):e0l fuel l=some (C0c l):=by
 unfold e0l C0c;rw [E0b l hf];cases hR:e0M l with
 |false=>rfl
 |
  true=>
  obtain ⟨t,ht⟩:=D0C hw hR;have h400:=ht.le;have hlen:=ht.len;have hmk:S5 1 (l.length:Int)=true:=by simp [S5];omega
  have:=j0K (step:=E0X fuel l) (fun i=>(B03 l i++List.replicate (l.length-i) false,(i:Int))) (B03 l l.length) l.length
   (fun i hi=>.inl (N0y ht hi fuel).1) (by unfold E0X;simp) l.length 0 fuel (by omega) (by omega)
  simp only [F1,Bool.not_true,false_eq_true,if_false,hmk,if_true,toNat_natCast];simp only [B03,List.nil_append,sub_zero] at this;rw [show (0:Int)=((0:Nat):Int) from rfl,this];rfl
theorem L0c {l:List U0} (hw:∀ x∈l,l02 x) (hl:l.length*64<=140737488351232) {fuel:Nat} (hf:401<fuel) (hf2:l.length+1<fuel):D0k fuel l=some (C0c l):=by
 unfold D0k C0c;rw [D0v l hl hf2];cases hR:e0M l with
 |false=>rfl
 |
  true=>
  obtain ⟨t,ht⟩:=D0C hw hR;have h400:=ht.le;have hlen:=ht.len;have hmk:S5 1 (l.length:Int)=true:=by simp [S5];omega
  have:=j0K (step:=E0Q fuel l) (fun i=>(B03 l i++List.replicate (l.length-i) false,(i:Int))) (B03 l l.length) l.length
   (fun i hi=>.inl (N0y ht hi fuel).2) (by unfold E0Q;simp) l.length 0 fuel (by omega) (by omega)
  simp only [F1,Bool.not_true,false_eq_true,if_false,hmk,if_true,toNat_natCast];simp only [B03,List.nil_append,sub_zero] at this;rw [show (0:Int)=((0:Nat):Int) from rfl,this];rfl
def e0L (l:List U0):Nat->List Int
 |0=>[]
 |i+1=>if (gt l (i:Int)).Kind=2 then e0L l i++[(i:Int)] else e0L l i
theorem C0e (l:List U0):∀ i,(e0L l i).length=u5 l i
 |0=>rfl
 |i+1=>by simp only [e0L,u5];split<;>simp [C0e l i]
def C0J (l:List U0):List Int:=if e0M l then e0L l l.length else []
theorem M0E {l:List U0} (hl:l.length<=400) {i:Nat} (hi:i<l.length) (fuel:Nat) :
  E0V fuel l (e0L l i,(i:Int))=some (.next (e0L l (i+1),((i+1:Nat):Int)))/\E0P fuel l (e0L l i,(i:Int))=some (.next (e0L l (i+1),((i+1:Nat):Int))):=by
 have h1:(i:Int)<(l.length:Int):=by omega
 have hin:y0 l (i:Int)=true:=B4 (by omega) (by omega);have hWi:W ((i:Int)+1)=((i+1:Nat):Int):=R2 (by omega);have hle:=D06 l i;have hap:C1 8 (e0L l i) [(i:Int)]=true:=a7 (by rw [C0e];simp;omega);unfold E0V E0P
 by_cases hk:(gt l (i:Int)).Kind=2<;>simp [h1,hin,hWi,hap,hk,e0L]
theorem I0x {l:List U0} (hw:∀ x∈l,l02 x) {fuel:Nat} (hf:401<fuel):a0I fuel l=some (C0J l):=by
 unfold a0I C0J;rw [E0b l hf];cases hR:e0M l with
 |false=>rfl
 |
  true=>
  obtain ⟨t,ht⟩:=D0C hw hR;have h400:=ht.le;have hlen:=ht.len;have:=j0K (step:=E0V fuel l) (fun i=>(e0L l i,(i:Int))) (e0L l l.length) l.length (fun i hi=>.inl (M0E (by omega) hi fuel).1) (by unfold E0V;simp) l.length 0 fuel (by omega) (by omega);simp only [F1,Bool.not_true,false_eq_true,if_false,if_true];simp only [e0L] at this;rw [show (0:Int)=((0:Nat):Int) from rfl,this];rfl
theorem F0v {l:List U0} (hw:∀ x∈l,l02 x) (hl:l.length*64<=140737488351232) {fuel:Nat} (hf:401<fuel) (hf2:l.length+1<fuel):C0z fuel l=some (C0J l):=by
 unfold C0z C0J;rw [D0v l hl hf2];cases hR:e0M l with
 |false=>rfl
 |
  true=>
  obtain ⟨t,ht⟩:=D0C hw hR;have h400:=ht.le;have hlen:=ht.len;have:=j0K (step:=E0P fuel l) (fun i=>(e0L l i,(i:Int))) (e0L l l.length) l.length (fun i hi=>.inl (M0E (by omega) hi fuel).2) (by unfold E0P;simp) l.length 0 fuel (by omega) (by omega);simp only [F1,Bool.not_true,false_eq_true,if_false,if_true];simp only [e0L] at this;rw [show (0:Int)=((0:Nat):Int) from rfl,this];rfl
theorem H09 (l:List U0) {i j:Nat} (h:i<=j):u5 l i<=u5 l j:=by
 induction j with
 |zero=>
      obtain rfl:i=0:=by omega
      exact le_refl _
 |
  succ j ih=>
  by_cases e:i=j+1
  ·subst e;exact le_refl _
  ·have:=ih (by omega);simp only [u5];omega
theorem E0C (l:List U0):∀ (i p:Nat),p<u5 l i->∃ q:Nat,q<i/\(e0L l i)[p]?=some (q:Int)/\(gt l (q:Int)).Kind=2/\u5 l q=p
 |0,p,h=>by simp [u5] at h
 |
  i+1,p,h=>by
  simp only [u5,e0L] at h ⊢
  by_cases hk:(gt l (i:Int)).Kind=2
  ·simp only [hk,if_true] at h ⊢
   by_cases e:p=u5 l i
   ·exact ⟨i,by omega,by rw [List.getElem?_append_right (by rw [C0e];omega),C0e];simp [e],hk,e.symm⟩
   ·obtain ⟨q,h1,h2,h3,h4⟩:=E0C l i p (by omega);exact ⟨q,by omega,by rw [List.getElem?_append_left (by rw [C0e];omega)];exact h2,h3,h4⟩
  ·simp only [hk,if_false,Nat.add_zero] at h ⊢;obtain ⟨q,h1,h2,h3,h4⟩:=E0C l i p h;exact ⟨q,by omega,h2,h3,h4⟩
def B00 (l:List U0):Nat->List Int
 |0=>[]
 |i+1=>B00 l i++[if (gt l (i:Int)).Kind=2 then (u5 l i:Int) else -1]
theorem E0H (l:List U0):∀ i,(B00 l i).length=i
 |0=>rfl
 |i+1=>by simp [B00,E0H l i]
theorem J0Q (l:List U0):∀ (i j:Nat),j<i->(B00 l i)[j]?=some (if (gt l (j:Int)).Kind=2 then (u5 l j:Int) else -1)
 |0,j,h=>by omega
 |
  i+1,j,h=>by
  simp only [B00]
  by_cases e:j=i
  ·subst e;rw [List.getElem?_append_right (by rw [E0H];omega),E0H];simp
  ·rw [List.getElem?_append_left (by rw [E0H];omega)];exact J0Q l i j (by omega)
def D09 (l:List U0):List Int:=if e0M l then B00 l l.length else []
def D0z (l:List U0) (p:Nat):Nat->List Int
 |0=>[]
 |i+1=>D0z l p i++[if (gt l (i:Int)).Kind=2/\u5 l i<p then (u5 l i:Int) else -1]
theorem E0p (l:List U0) (p:Nat):∀ i,(D0z l p i).length=i
 |0=>rfl
 |i+1=>by simp [D0z,E0p l p i]
theorem J0r (l:List U0) (p:Nat):∀ (i j:Nat),j<i->(D0z l p i)[j]?=some (if (gt l (j:Int)).Kind=2/\u5 l j<p then (u5 l j:Int) else -1)
 |0,j,h=>by omega
 |
  i+1,j,h=>by
  simp only [D0z]
  by_cases e:j=i
  ·subst e;rw [List.getElem?_append_right (by rw [E0p];omega),E0p];simp
  ·rw [List.getElem?_append_left (by rw [E0p];omega)];exact J0r l p i j (by omega)
theorem Q01 (l:List U0) {i j:Nat} (hi:(gt l (i:Int)).Kind=2) (hj:(gt l (j:Int)).Kind=2) (h:u5 l i=u5 l j):i=j:=by
 rcases Nat.lt_trichotomy i j with c | c | c
 ·have:=H09 l (show i+1<=j from c);simp only [u5,hi,if_true] at this;omega
 ·exact c
 ·have:=H09 l (show j+1<=i from c);simp only [u5,hj,if_true] at this;omega
theorem T0z (l:List U0) {p q n:Nat} (hq:q<n) (hk:(gt l (q:Int)).Kind=2) (hp:u5 l q=p):(D0z l p n).set q (p:Int)=D0z l (p+1) n:=by
 apply List.ext_getElem?;intro j
 by_cases hj:j<n
 ·rw [J0r l _ n j hj,List.getElem?_set]
  by_cases e:q=j
  ·subst e;simp [E0p,hj,hk,hp]
  ·rw [if_neg e,J0r l _ n j hj]
   by_cases k2:(gt l (j:Int)).Kind=2
   ·have:u5 l j≠p:=fun h=>e (Q01 l hk k2 (hp.trans h.symm));simp only [k2,true_and]
    by_cases c:u5 l j<p
    ·rw [if_pos c,if_pos (by omega)]
    ·rw [if_neg c,if_neg (by omega)]
   ·simp [k2]
 ·rw [List.getElem?_eq_none (by simp [E0p];omega),List.getElem?_eq_none (by simp [E0p];omega)]
theorem O09 (l:List U0):∀ n,D0z l 0 n=List.replicate n (-1)
 |0=>rfl
 |n+1=>by simp [D0z,O09 l n,List.replicate_succ']
theorem Q0b (l:List U0) (n:Nat):D0z l (u5 l n) n=B00 l n:=by
 apply List.ext_getElem?;intro j
 by_cases hj:j<n
 ·rw [J0r l _ n j hj,J0Q l n j hj]
  by_cases k2:(gt l (j:Int)).Kind=2
  ·have:=H09 l (show j+1<=n from hj);simp only [u5,k2,if_true] at this;simp [k2];omega
  ·simp [k2]
 ·rw [List.getElem?_eq_none (by simp [E0p];omega),List.getElem?_eq_none (by simp [E0H];omega)]
theorem S0f {l:List U0} (hw:∀ x∈l,l02 x) {fuel:Nat} (hf:401<fuel):l0A fuel l=some (D09 l):=by
 unfold l0A D09;rw [E0b l hf,I0x hw hf];cases hR:e0M l with
 |false=>rfl
 |
  true=>
  obtain ⟨t,ht⟩:=D0C hw hR;have h400:=ht.le;have hlen:=ht.len;have hmk:S5 8 (l.length:Int)=true:=by simp [S5];omega
  have e1:=j0K (step:=F0Z fuel l) (fun i=>(List.replicate i (-1)++List.replicate (l.length-i) 0,(i:Int))) (List.replicate l.length (-1)) l.length
   (fun i hi=>.inl (by
    have h1:(i:Int)<(l.length:Int):=by omega
    have hii:y0 (List.replicate i (-1:Int)++List.replicate (l.length-i) 0) (i:Int)=true:=B4 (by omega) (by simp;omega);unfold F0Z;simp only [List.length_replicate,toNat_natCast,h1,decide_true,if_true,hii,R2 (show i<9223372036854775807 by omega)];rw [G0O hi 0,H0a (by simp),List.replicate_succ'];simp)) (by unfold F0Z;simp) l.length 0 fuel (by omega) (by omega)
  have hLF:C0J l=e0L l l.length:=by simp [C0J,hR]
  have hle:=D06 l l.length;have e2:=j0K (step:=F0F fuel (List.replicate l.length (-1)) (e0L l l.length)) (fun p=>(D0z l p l.length,(p:Int))) (B00 l l.length) (u5 l l.length)
   (fun p hp=>.inl (by
    obtain ⟨q,h1,h2,h3,h4⟩:=E0C l l.length p hp;have h5:(p:Int)<((e0L l l.length).length:Int):=by rw [C0e];omega
    have h6:y0 (e0L l l.length) (p:Int)=true:=B4 (by omega) h5;have h7:y0 (D0z l p l.length) (q:Int)=true:=B4 (by omega) (by rw [E0p];omega);unfold F0F;simp only [h5,decide_true,if_true,h6,Y5 h2,h7,toNat_natCast,T0z l h1 h3 h4,R2 (show p<9223372036854775807 by omega)])) (by unfold F0F;simp [C0e,Q0b]) (u5 l l.length) 0 fuel (by omega) (by omega)
  simp only [F1,Bool.not_true,false_eq_true,if_false,if_true,hmk,toNat_natCast,hLF];simp only [List.replicate_zero,List.nil_append,sub_zero] at e1;rw [show ((List.replicate l.length (0:Int)),(0:Int))=(List.replicate l.length 0,((0:Nat):Int)) from rfl,e1,F1];rw [O09] at e2;rw [show ((List.replicate l.length (-1:Int)),(0:Int))=(List.replicate l.length (-1),((0:Nat):Int)) from rfl,e2];rfl
theorem N06 {l:List U0} (hw:∀ x∈l,l02 x) (hl:l.length*64<=140737488351232) {fuel:Nat} (hf:401<fuel) (hf2:l.length+1<fuel):D0x fuel l=some (D09 l):=by
 unfold D0x D09;rw [D0v l hl hf2];cases hR:e0M l with
 |false=>rfl
 |
  true=>
  obtain ⟨t,ht⟩:=D0C hw hR;have h400:=ht.le;have hlen:=ht.len;have hmk:S5 8 (l.length:Int)=true:=by simp [S5];omega
  have e1:=j0K (step:=F0D fuel l) (fun i=>(B00 l i++List.replicate (l.length-i) 0,(u5 l i:Int),(i:Int))) (B00 l l.length) l.length
   (fun i hi=>.inl (by
    have h1:(i:Int)<(l.length:Int):=by omega
    have hin:y0 l (i:Int)=true:=B4 (by omega) (by omega);have hle:=D06 l i;have hii:∀ (y:Int) m,y0 (B00 l i++y :: m) (i:Int)=true:=fun y m=>B4 (by omega) (by simp [E0H];omega);have hset:∀ (x y:Int) m,(B00 l i++x :: m).set i y=B00 l i++y :: m:=fun x y m=>H0a (E0H l i).symm;unfold F0D;rw [G0O hi 0];simp only [h1,decide_true,if_true,hii,hin,toNat_natCast,hset,R2 (show i<9223372036854775807 by omega),R2 (show u5 l i<9223372036854775807 by omega),B00,u5]
    by_cases k2:(gt l (i:Int)).Kind=2<;>simp [k2])) (by unfold F0D;simp) l.length 0 fuel (by omega) (by omega)
  simp only [F1,Bool.not_true,false_eq_true,if_false,if_true,hmk,toNat_natCast];simp only [B00,u5,List.nil_append,sub_zero] at e1;rw [show ((List.replicate l.length (0:Int)),(0:Int),(0:Int))=(List.replicate l.length 0,((0:Nat):Int),((0:Nat):Int)) from rfl,e1];rfl
