/- A list that is a term is a tree. What is known of the nodes of a term: whether they can be nothing, and how; by the program and by the document. What is known of the nodes of a term: leaves, their numbers, what a node is a part of, and how deep it lies. Its conditions: none. -/
import Derived.Test.YtdficaoajalfaaaGreatTG40
open Bool (and_eq_true false_eq_true)
open Nat (le_refl lt_or_ge le_of_lt sub_zero)
open Int (toNat_natCast)
set_option linter.all false
namespace Go.Proofs.YtdficaoajalfaaaGreat.Old
open Go.V Go.RowKit
def b_rm (s:List Int):Prop:=s.length=4/\∀ y∈s,inK .u64 y
def Tm.ok:Tm->Prop
 |.eps=>True | .leaf s=>b_rm s | .cat a b=>a.ok/\b.ok | .alt a b=>a.ok/\b.ok
 |.star a=>a.ok | .maybe a=>a.ok | .group n a=>1<=n/\n<=9/\a.ok | .iter a=>a.ok
def Tm.leaves:Tm->Nat
 |.eps=>0 | .leaf _=>1 | .cat a b=>a.leaves+b.leaves | .alt a b=>a.leaves+b.leaves
 |.star a=>a.leaves | .maybe a=>a.leaves | .group _ a=>a.leaves | .iter a=>a.leaves
theorem Tm.q_3 (t:Tm):t.leaves<=t.size:=by induction t<;>simp [Tm.leaves,Tm.size]<;>omega
def St (l:List a_2) (a:List Int):Nat->List Tm->Prop
 |i,[]=>i=0
 |i,t :: ts=>t.size<=i/\At l (i-t.size) t/\t.ok/\gt a ((i-1:Nat):Int)=((i-t.size:Nat):Int)/\a_3 l i=a_3 l (i-t.size)+t.leaves/\St l a (i-t.size) ts
theorem St.snoc {l:List a_2} {a:List Int} {v:Int}:∀ {ts:List Tm} {i:Nat},i<=a.length->St l a i ts->St l (a++[v]) i ts
 |[],_,_,h=>h
 |
  t :: ts,i,hi,⟨h1,h2,h3,h4,h5,h6⟩=>by
  have:=t.size_pos
  exact ⟨h1,h2,h3,by rw [m_6 (by omega) (by omega)];exact h4,h5,St.snoc (by omega) h6⟩
theorem b_nf {x:a_2} (hw:d_6 x) (h:a_z6 x=true):x.Set=Z4:=by
 have hl:=hw.2.2.2.2.1
 simp only [a_z6,and_eq_true,beq_iff_eq] at h
 obtain ⟨k,A,B,N,S⟩:=x
 simp only at *
 match S,hl with
 |
  [s0,s1,s2,s3],_=>
  obtain ⟨a,b,c,d⟩:=h
  simp [gt] at a b c d
  simp [Z4,a,b,c,d]
theorem a_6d {l:List a_2} (hw:∀ x∈l,d_6 x):∀ {i:Nat} {a:List Int},k_3 l i=some a->i<=l.length->∃ ts,St l a i ts
 |0,a,_,_=>⟨[],rfl⟩
 |
  i+1,a,h,hi=>by
  simp only [k_3] at h
  split at h
  ·cases h
  ·rename_i b hb
   split at h
   ·rename_i hg
    cases h
    obtain ⟨ts,hst⟩:=a_6d hw hb (by omega)
    have ok:=a_dr hb
    simp only [u_2,and_eq_true,decide_eq_true_eq] at hg
    obtain ⟨⟨h0,hf⟩,_⟩:=hg
    have hget:l[i]?=some (gt l (i:Int)):=by
     have hil:i<l.length:=by omega
     rw [d_4 (x:=l[i]) (by simp [hil])];simp [hil]
    have hwx:d_6 (gt l (i:Int)):=hw _ (List.mem_of_getElem? hget)
    have hgv:gt (b++[g_2 l b i]) ((i:Nat):Int)=g_2 l b i:=x_9 ok.len.symm
    have hst':St l (b++[g_2 l b i]) i ts:=hst.snoc (by rw [ok.len];omega)
    have hlv:a_3 l (i+1)=a_3 l i+if (gt l (i:Int)).Kind=2 then 1 else 0:=rfl
    have mk:∀ (t:Tm) (us:List Tm),t.size<=i+1->At l (i+1-t.size) t->t.ok->g_2 l b i=((i+1-t.size:Nat):Int)->a_3 l (i+1)=a_3 l (i+1-t.size)+t.leaves->St l (b++[g_2 l b i]) (i+1-t.size) us->∃ ts,St l (b++[g_2 l b i]) (i+1) ts:=
     fun t us h1 h2 h3 h4 h5 h6=>⟨t :: us,h1,h2,h3,by rw [Nat.add_sub_cancel,hgv,h4],h5,h6⟩
    generalize hx:gt l (i:Int)=x at *
    have hxz:x.Kind≠2->x.Set=Z4:=fun h2=>b_nf hwx (by simp only [v_0,and_eq_true,Bool.or_eq_true,beq_iff_eq] at hf;exact hf.1.resolve_left h2)
    have hxn:x.Kind≠7->x.N=0:=fun h7=>by simp only [v_0,and_eq_true,Bool.or_eq_true,beq_iff_eq,h7,if_false] at hf;exact hf.2
    have hv:g_2 l b i=(if x.Kind=1\/x.Kind=2 then (if x.A=-1/\x.B=-1 then (i:Int) else -1)
      else if x.Kind=3\/x.Kind=4 then (if x.B=(i:Int)-1/\0<=x.B/\0<=x.A/\x.A=gt b x.B-1 then gt b x.A else -1)
      else if x.Kind=5\/x.Kind=6\/x.Kind=7\/x.Kind=8 then (if x.B=-1/\0<=x.A/\x.A=(i:Int)-1 then gt b x.A else -1) else -1):=by
     unfold g_2;simp only [hx]
    by_cases c1:x.Kind=1\/x.Kind=2
    ·rw [if_pos c1] at hv
     by_cases cA:x.A=-1/\x.B=-1
     ·rw [if_pos cA] at hv
      rcases c1 with c1 | c1
      ·have e:x=Tm.node i .eps:=by
        have:=hxz (by omega);have:=hxn (by omega)
        obtain ⟨k,A,B,N,S⟩:=x;simp only [Tm.node] at *;simp_all
       exact mk .eps ts (by simp [Tm.size]) ((At.one rfl rfl).2 (by show l[i]?=some (Tm.node i .eps);rw [hget,e])) trivial (by rw [hv];simp [Tm.size]) (by rw [hlv,c1];simp [Tm.size,Tm.leaves]) (by simpa [Tm.size] using hst')
      ·have e:x=Tm.node i (.leaf x.Set):=by
        have:=hxn (by omega)
        obtain ⟨k,A,B,N,S⟩:=x;simp only [Tm.node] at *;simp_all
       exact mk (.leaf x.Set) ts (by simp [Tm.size]) ((At.one rfl rfl).2 (by show l[i]?=some (Tm.node i (.leaf x.Set));rw [hget];exact congrArg some e)) ⟨hwx.2.2.2.2.1,hwx.2.2.2.2.2⟩ (by rw [hv];simp [Tm.size]) (by rw [hlv,c1];simp [Tm.size,Tm.leaves]) (by simpa [Tm.size] using hst')
     ·rw [if_neg cA] at hv;omega
    ·rw [if_neg c1] at hv
     by_cases c2:x.Kind=3\/x.Kind=4
     ·rw [if_pos c2] at hv
      by_cases cA:x.B=(i:Int)-1/\0<=x.B/\0<=x.A/\x.A=gt b x.B-1
      ·rw [if_pos cA] at hv
       obtain ⟨cB,cB0,cA0,cA1⟩:=cA
       cases ts with
       |nil=>have:i=0:=hst;omega
       |
        cons tb ts=>
        obtain ⟨p1,p2,p3,p4,p5,p6⟩:=hst
        have e1:gt b x.B=((i-tb.size:Nat):Int):=by rw [cB,<-p4];congr 1;omega
        have hA:x.A=((i-tb.size-1:Nat):Int):=by omega
        cases ts with
        |nil=>have:i-tb.size=0:=p6;omega
        |
         cons ta ts=>
         obtain ⟨q1,q2,q3,q4,q5,q6⟩:=p6
         have hp:=ta.size_pos;have hp2:=tb.size_pos
         have hv2:g_2 l b i=((i-tb.size-ta.size:Nat):Int):=by rw [hv,hA,q4]
         have hlo:i+1-(ta.size+tb.size+1)=i-tb.size-ta.size:=by omega
         have hlo2:i-tb.size-ta.size+ta.size=i-tb.size:=by omega
         have hq6:St l (b++[g_2 l b i]) (i-tb.size-ta.size) ts:=St.snoc (by rw [ok.len];omega) q6
         rcases c2 with c2 | c2
         ·have e:x=Tm.node (i-tb.size-ta.size) (.cat ta tb):=by
           have:=hxz (by omega);have:=hxn (by omega)
           obtain ⟨k,A,B,N,S⟩:=x;simp only [Tm.node,Tm.top] at *;simp only [a_2.mk.injEq];refine ⟨c2,by omega,by omega,by assumption,by assumption⟩
          refine mk (.cat ta tb) ts (by simp [Tm.size];omega) ?_ ⟨q3,p3⟩ (by simp only [Tm.size];omega) (by simp only [Tm.size,Tm.leaves,hlo,hlv,c2];simp;omega) (by simp only [Tm.size,hlo];exact hq6)
          simp only [Tm.size,hlo]
          exact (At.bin rfl rfl).2 ⟨q2,by rw [hlo2];exact p2,by rw [hlo2,show i-tb.size+tb.size=i from by omega,hget,e]⟩
         ·have e:x=Tm.node (i-tb.size-ta.size) (.alt ta tb):=by
           have:=hxz (by omega);have:=hxn (by omega)
           obtain ⟨k,A,B,N,S⟩:=x;simp only [Tm.node,Tm.top] at *;simp only [a_2.mk.injEq];refine ⟨c2,by omega,by omega,by assumption,by assumption⟩
          refine mk (.alt ta tb) ts (by simp [Tm.size];omega) ?_ ⟨q3,p3⟩ (by simp only [Tm.size];omega) (by simp only [Tm.size,Tm.leaves,hlo,hlv,c2];simp;omega) (by simp only [Tm.size,hlo];exact hq6)
          simp only [Tm.size,hlo]
          exact (At.bin rfl rfl).2 ⟨q2,by rw [hlo2];exact p2,by rw [hlo2,show i-tb.size+tb.size=i from by omega,hget,e]⟩
      ·rw [if_neg cA] at hv;omega
     ·rw [if_neg c2] at hv
      by_cases c3:x.Kind=5\/x.Kind=6\/x.Kind=7\/x.Kind=8
      ·rw [if_pos c3] at hv
       by_cases cA:x.B=-1/\0<=x.A/\x.A=(i:Int)-1
       ·rw [if_pos cA] at hv
        obtain ⟨cB,cA0,cA1⟩:=cA
        cases ts with
        |nil=>have:i=0:=hst;omega
        |
         cons ta ts=>
         obtain ⟨q1,q2,q3,q4,q5,q6⟩:=hst
         have hp:=ta.size_pos
         have hA:x.A=((i-1:Nat):Int):=by omega
         have hv2:g_2 l b i=((i-ta.size:Nat):Int):=by rw [hv,hA,q4]
         have hlo:i+1-(ta.size+1)=i-ta.size:=by omega
         have hlo2:i-ta.size+ta.size=i:=by omega
         have hq6:St l (b++[g_2 l b i]) (i-ta.size) ts:=St.snoc (by rw [ok.len];omega) q6
         have fin:∀ t:Tm,t.size=ta.size+1->t.leaves=ta.leaves->t.flat (i-ta.size)=ta.flat (i-ta.size)++[t.node (i-ta.size)]->t.ok->x=t.node (i-ta.size)->∃ ts,St l (b++[g_2 l b i]) (i+1) ts:=fun t s1 s2 s3 s4 e=>by
          refine mk t ts (by omega) ?_ s4 (by omega) (by rw [s1,hlo,s2,hlv,if_neg (by omega)];omega) (by rw [s1,hlo];exact hq6)
          rw [s1,hlo]
          exact (At.un s1 s3).2 ⟨q2,by rw [hlo2,hget,e]⟩
         have hz:=hxz (by omega)
         rcases c3 with c3 | c3 | c3 | c3
         ·refine fin (.star ta) rfl rfl rfl q3 ?_
          have:=hxn (by omega)
          obtain ⟨k,A,B,N,S⟩:=x;simp only [Tm.node,Tm.top] at *;simp only [a_2.mk.injEq];refine ⟨c3,by omega,cB,by assumption,hz⟩
         ·refine fin (.maybe ta) rfl rfl rfl q3 ?_
          have:=hxn (by omega)
          obtain ⟨k,A,B,N,S⟩:=x;simp only [Tm.node,Tm.top] at *;simp only [a_2.mk.injEq];refine ⟨c3,by omega,cB,by assumption,hz⟩
         ·have hn:1<=x.N/\x.N<=9:=by simp only [v_0,c3,and_eq_true,beq_self_eq_true,if_true,decide_eq_true_eq] at hf;exact hf.2
          refine fin (.group x.N ta) rfl rfl rfl ⟨hn.1,hn.2,q3⟩ ?_
          obtain ⟨k,A,B,N,S⟩:=x;simp only [Tm.node,Tm.top] at *;simp only [a_2.mk.injEq];refine ⟨c3,by omega,cB,trivial,hz⟩
         ·refine fin (.iter ta) rfl rfl rfl q3 ?_
          have:=hxn (by omega)
          obtain ⟨k,A,B,N,S⟩:=x;simp only [Tm.node,Tm.top] at *;simp only [a_2.mk.injEq];refine ⟨c3,by omega,cB,by assumption,hz⟩
       ·rw [if_neg cA] at hv;omega
      ·rw [if_neg c3] at hv;omega
   ·cases h
structure IsT (l:List a_2) (t:Tm):Prop where
 eq:l=t.flat 0
 at0:At l 0 t
 ok:t.ok
 len:l.length=t.size
 le:t.size<=400
 lv:t.leaves<=64
theorem a_a5 {l:List a_2} (hw:∀ x∈l,d_6 x) (h:c_0 l=true):∃ t,IsT l t:=by
 unfold c_0 i_9 at h
 cases hL:k_3 l l.length with
 |none=>simp [hL] at h
 |
  some a=>
  simp only [hL] at h
  split at h
  ·simp at h
  ·rename_i hc
   have ok:=a_dr hL
   obtain ⟨ts,hst⟩:=a_6d hw hL (le_refl _)
   cases ts with
   |nil=>exact absurd (.inl hst) hc
   |
    cons t ts=>
    obtain ⟨q1,q2,q3,q4,q5,q6⟩:=hst
    have h4:gt a ((l.length:Int)-1)=0:=by
     rcases Int.decEq (gt a ((l.length:Int)-1)) 0 with h | h
     ·exact absurd (.inr (.inr (.inr h))) hc
     ·exact h
    have h0:l.length≠0:=fun h=>hc (.inl h)
    rw [show ((l.length-1:Nat):Int)=(l.length:Int)-1 from by omega,h4] at q4
    have hs:t.size=l.length:=by omega
    rw [hs,Nat.sub_self] at q2
    have hfl:l=t.flat 0:=by
     have:=q2
     unfold At at this
     rwa [List.drop_zero,hs,List.take_length] at this
    have h400:¬ 400<l.length:=fun h=>hc (.inr (.inl h))
    have h64:¬ 64<a_3 l l.length:=fun h=>hc (.inr (.inr (.inl h)))
    rw [hs,Nat.sub_self] at q5
    have:a_3 l 0=0:=rfl
    exact ⟨t,hfl,q2,q3,hs.symm,by omega,by omega⟩
theorem At.b_dm {l:List a_2}:∀ {s:Tm} {lo:Nat},At l lo s->∀ i,lo<=i->i<lo+s.size->∃ lo' s',At l lo' s'/\s'.top lo'=i/\lo<=lo'/\s'.size<=s.size:=by
 intro s
 have leafc:∀ (t:Tm) (lo:Nat),t.size=1->At l lo t->∀ i,lo<=i->i<lo+t.size->∃ lo' s',At l lo' s'/\s'.top lo'=i/\lo<=lo'/\s'.size<=t.size:=fun t lo ht h i h1 h2=>⟨lo,t,h,by unfold Tm.top;omega,by omega,by omega⟩
 induction s with
 |eps=>exact fun h=>leafc _ _ rfl h
 |leaf s=>exact fun h=>leafc _ _ rfl h
 |
  cat a b iha ihb=>
  intro lo h i h1 h2
  obtain ⟨ha,hb,_⟩:=(At.bin rfl rfl).1 h
  simp only [Tm.size] at h2 ⊢
  rcases lt_or_ge i (lo+a.size) with c | c
  ·obtain ⟨lo',s',p1,p2,p3,p4⟩:=iha ha i h1 c;exact ⟨lo',s',p1,p2,p3,by omega⟩
  ·rcases lt_or_ge i (lo+a.size+b.size) with c2 | c2
   ·obtain ⟨lo',s',p1,p2,p3,p4⟩:=ihb hb i c c2;exact ⟨lo',s',p1,p2,by omega,by omega⟩
   ·exact ⟨lo,.cat a b,h,by simp only [Tm.top,Tm.size];omega,by omega,by simp [Tm.size]⟩
 |
  alt a b iha ihb=>
  intro lo h i h1 h2
  obtain ⟨ha,hb,_⟩:=(At.bin rfl rfl).1 h
  simp only [Tm.size] at h2 ⊢
  rcases lt_or_ge i (lo+a.size) with c | c
  ·obtain ⟨lo',s',p1,p2,p3,p4⟩:=iha ha i h1 c;exact ⟨lo',s',p1,p2,p3,by omega⟩
  ·rcases lt_or_ge i (lo+a.size+b.size) with c2 | c2
   ·obtain ⟨lo',s',p1,p2,p3,p4⟩:=ihb hb i c c2;exact ⟨lo',s',p1,p2,by omega,by omega⟩
   ·exact ⟨lo,.alt a b,h,by simp only [Tm.top,Tm.size];omega,by omega,by simp [Tm.size]⟩
 |
  star a iha=>
  intro lo h i h1 h2
  obtain ⟨ha,_⟩:=(At.un rfl rfl).1 h
  simp only [Tm.size] at h2 ⊢
  rcases lt_or_ge i (lo+a.size) with c | c
  ·obtain ⟨lo',s',p1,p2,p3,p4⟩:=iha ha i h1 c;exact ⟨lo',s',p1,p2,p3,by omega⟩
  ·exact ⟨lo,.star a,h,by simp only [Tm.top,Tm.size];omega,by omega,by simp [Tm.size]⟩
 |
  maybe a iha=>
  intro lo h i h1 h2
  obtain ⟨ha,_⟩:=(At.un rfl rfl).1 h
  simp only [Tm.size] at h2 ⊢
  rcases lt_or_ge i (lo+a.size) with c | c
  ·obtain ⟨lo',s',p1,p2,p3,p4⟩:=iha ha i h1 c;exact ⟨lo',s',p1,p2,p3,by omega⟩
  ·exact ⟨lo,.maybe a,h,by simp only [Tm.top,Tm.size];omega,by omega,by simp [Tm.size]⟩
 |
  group n a iha=>
  intro lo h i h1 h2
  obtain ⟨ha,_⟩:=(At.un rfl rfl).1 h
  simp only [Tm.size] at h2 ⊢
  rcases lt_or_ge i (lo+a.size) with c | c
  ·obtain ⟨lo',s',p1,p2,p3,p4⟩:=iha ha i h1 c;exact ⟨lo',s',p1,p2,p3,by omega⟩
  ·exact ⟨lo,.group n a,h,by simp only [Tm.top,Tm.size];omega,by omega,by simp [Tm.size]⟩
 |
  iter a iha=>
  intro lo h i h1 h2
  obtain ⟨ha,_⟩:=(At.un rfl rfl).1 h
  simp only [Tm.size] at h2 ⊢
  rcases lt_or_ge i (lo+a.size) with c | c
  ·obtain ⟨lo',s',p1,p2,p3,p4⟩:=iha ha i h1 c;exact ⟨lo',s',p1,p2,p3,by omega⟩
  ·exact ⟨lo,.iter a,h,by simp only [Tm.top,Tm.size];omega,by omega,by simp [Tm.size]⟩
theorem IsT.node {l:List a_2} {t:Tm} (h:IsT l t) {i:Nat} (hi:i<l.length):∃ lo s,At l lo s/\s.top lo=i:=by
 obtain ⟨lo,s,h1,h2,_⟩:=h.at0.b_dm i (by omega) (by rw [h.len] at hi;omega)
 exact ⟨lo,s,h1,h2⟩
def Tm.can:Tm->Bool
 |.eps=>true | .leaf _=>false | .cat a b=>a.can&&b.can | .alt a b=>a.can||b.can
 |.star _=>true | .maybe _=>true | .group _ a=>a.can | .iter a=>a.can
def p_0 (l:List a_2) (c:List Bool) (i:Nat):Bool:=
 let x:=gt l (i:Int)
 if x.Kind=1\/x.Kind=5\/x.Kind=6 then true
 else if x.Kind=3 then gt c x.A&&gt c x.B else if x.Kind=4 then gt c x.A||gt c x.B else if x.Kind=7\/x.Kind=8 then gt c x.A else false
def s_1 (l:List a_2):Nat->List Bool
 |0=>[]
 |i+1=>s_1 l i++[p_0 l (s_1 l i) i]
theorem a_hs (l:List a_2):∀ i,(s_1 l i).length=i
 |0=>rfl
 |i+1=>by simp [s_1,a_hs l i]
theorem a_ep (l:List a_2) {i j:Nat} (h:j<i):gt (s_1 l i) (j:Int)=p_0 l (s_1 l j) j:=by
 induction i with
 |zero=>omega
 |
  succ i ih=>
  simp only [s_1]
  by_cases e:j=i
  ·subst e;rw [x_9 (a_hs l j).symm]
  ·rw [m_6 (by omega) (by rw [a_hs];omega)];exact ih (by omega)
theorem b_k2 {l:List a_2}:∀ {s:Tm} {lo:Nat},At l lo s->∀ i,s.top lo<i->gt (s_1 l i) (s.top lo:Int)=s.can:=by
 intro s
 induction s with
 |eps=>intro lo h i hi;rw [a_ep l hi];simp [p_0,h.f_6,Tm.node,Tm.can]
 |leaf s=>intro lo h i hi;rw [a_ep l hi];simp [p_0,h.f_6,Tm.node,Tm.can]
 |
  cat a b iha ihb=>
  intro lo h i hi;rw [a_ep l hi]
  obtain ⟨ha,hb,_⟩:=(At.bin rfl rfl).1 h
  have:=a.size_pos;have:=b.size_pos
  simp only [p_0,h.f_6,Tm.node,Tm.can]
  simp [iha ha _ (show a.top lo<Tm.top (.cat a b) lo by simp only [Tm.top,Tm.size];omega),ihb hb _ (show b.top (lo+a.size)<Tm.top (.cat a b) lo by simp only [Tm.top,Tm.size];omega)]
 |
  alt a b iha ihb=>
  intro lo h i hi;rw [a_ep l hi]
  obtain ⟨ha,hb,_⟩:=(At.bin rfl rfl).1 h
  have:=a.size_pos;have:=b.size_pos
  simp only [p_0,h.f_6,Tm.node,Tm.can]
  simp [iha ha _ (show a.top lo<Tm.top (.alt a b) lo by simp only [Tm.top,Tm.size];omega),ihb hb _ (show b.top (lo+a.size)<Tm.top (.alt a b) lo by simp only [Tm.top,Tm.size];omega)]
 |star a iha=>intro lo h i hi;rw [a_ep l hi];simp [p_0,h.f_6,Tm.node,Tm.can]
 |maybe a iha=>intro lo h i hi;rw [a_ep l hi];simp [p_0,h.f_6,Tm.node,Tm.can]
 |
  group n a iha=>
  intro lo h i hi;rw [a_ep l hi]
  obtain ⟨ha,_⟩:=(At.un rfl rfl).1 h
  have:=a.size_pos
  simp only [p_0,h.f_6,Tm.node,Tm.can]
  simp [iha ha _ (show a.top lo<Tm.top (.group n a) lo by simp only [Tm.top,Tm.size];omega)]
 |
  iter a iha=>
  intro lo h i hi;rw [a_ep l hi]
  obtain ⟨ha,_⟩:=(At.un rfl rfl).1 h
  have:=a.size_pos
  simp only [p_0,h.f_6,Tm.node,Tm.can]
  simp [iha ha _ (show a.top lo<Tm.top (.iter a) lo by simp only [Tm.top,Tm.size];omega)]
def v_2 (l:List a_2):List Bool:=if c_0 l then s_1 l l.length else []
theorem b_ag {l:List a_2} {t:Tm} (ht:IsT l t) {i:Nat} (hi:i<l.length) (fuel:Nat) :
  a_d3 fuel l (s_1 l i++List.replicate (l.length-i) false,(i:Int))=some (.next (s_1 l (i+1)++List.replicate (l.length-(i+1)) false,((i+1:Nat):Int)))/\
  a_cv fuel l (s_1 l i++List.replicate (l.length-i) false,(i:Int))=some (.next (s_1 l (i+1)++List.replicate (l.length-(i+1)) false,((i+1:Nat):Int))):=by
 have h400:=ht.le;have hlen:=ht.len
 have h1:(i:Int)<(l.length:Int):=by omega
 have hin:inb l (i:Int)=true:=a_7 (by omega) (by omega)
 have hWi:W ((i:Int)+1)=((i+1:Nat):Int):=c_3 (by omega)
 rw [a_de hi false]
 generalize hm:List.replicate (l.length-(i+1)) false=m
 have hset:∀ (y:Bool),(s_1 l i++false :: m).set i y=s_1 l i++y :: m:=fun y=>a_q7 (a_hs l i).symm
 have hgl:∀ (z:Nat),z<i->gt (s_1 l i++false :: m) (z:Int)=gt (s_1 l i) (z:Int):=fun z h=>m_6 (by omega) (by rw [a_hs];omega)
 have hib:∀ (z:Nat),z<=i->inb (s_1 l i++false :: m) (z:Int)=true:=fun z h=>a_7 (by omega) (by simp [a_hs];omega)
 have hii:=hib i (by omega)
 have hr:s_1 l (i+1)++m=s_1 l i++p_0 l (s_1 l i) i :: m:=by simp [s_1]
 rw [hr]
 unfold a_d3 a_cv
 simp only [h1,decide_true,if_true,hin,hii,hWi,toNat_natCast,hset]
 obtain ⟨lo,s,hat,hs⟩:=ht.node hi
 have hg:=hat.f_6
 rw [hs] at hg
 cases s with
 |eps=>simp [hg,Tm.node,p_0]
 |leaf s=>simp [hg,Tm.node,p_0,hset false]
 |
  cat a b=>
  have:=a.size_pos;have:=b.size_pos
  have pa:a.top lo<i:=by rw [<-hs];simp only [Tm.top,Tm.size];omega
  have pb:b.top (lo+a.size)<i:=by rw [<-hs];simp only [Tm.top,Tm.size];omega
  simp only [hg,Tm.node,p_0,hib _ (le_of_lt pa),hib _ (le_of_lt pb),hgl _ pa,hgl _ pb]
  cases gt (s_1 l i) (a.top lo:Int)<;>simp
 |
  alt a b=>
  have:=a.size_pos;have:=b.size_pos
  have pa:a.top lo<i:=by rw [<-hs];simp only [Tm.top,Tm.size];omega
  have pb:b.top (lo+a.size)<i:=by rw [<-hs];simp only [Tm.top,Tm.size];omega
  simp only [hg,Tm.node,p_0,hib _ (le_of_lt pa),hib _ (le_of_lt pb),hgl _ pa,hgl _ pb]
  cases gt (s_1 l i) (a.top lo:Int)<;>simp
 |star a=>simp [hg,Tm.node,p_0]
 |maybe a=>simp [hg,Tm.node,p_0]
 |
  group n a=>
  have:=a.size_pos
  have pa:a.top lo<i:=by rw [<-hs];simp only [Tm.top,Tm.size];omega
  simp [hg,Tm.node,p_0,hib _ (le_of_lt pa),hgl _ pa]
 |
  iter a=>
  have:=a.size_pos
  have pa:a.top lo<i:=by rw [<-hs];simp only [Tm.top,Tm.size];omega
  simp [hg,Tm.node,p_0,hib _ (le_of_lt pa),hgl _ pa]
theorem b_mm {l:List a_2} (hw:∀ x∈l,d_6 x) {fuel:Nat} (hf:401<fuel):a_b8 fuel l=some (v_2 l):=by
 unfold a_b8 v_2
 rw [a_f4 l hf]
 cases hR:c_0 l with
 |false=>rfl
 |
  true=>
  obtain ⟨t,ht⟩:=a_a5 hw hR
  have h400:=ht.le;have hlen:=ht.len
  have hmk:g_3 1 (l.length:Int)=true:=by simp [g_3];omega
  have:=c_2 (step:=a_d3 fuel l) (fun i=>(s_1 l i++List.replicate (l.length-i) false,(i:Int))) (s_1 l l.length) l.length
   (fun i hi=>.inl (b_ag ht hi fuel).1) (by unfold a_d3;simp) l.length 0 fuel (by omega) (by omega)
  simp only [a_0,Bool.not_true,false_eq_true,if_false,hmk,if_true,toNat_natCast]
  simp only [s_1,List.nil_append,sub_zero] at this
  rw [show (0:Int)=((0:Nat):Int) from rfl,this]
  rfl
theorem b_ed {l:List a_2} (hw:∀ x∈l,d_6 x) (hl:l.length*64<=140737488351232) {fuel:Nat} (hf:401<fuel) (hf2:l.length+1<fuel):s_2 fuel l=some (v_2 l):=by
 unfold s_2 v_2
 rw [a_cy l hl hf2]
 cases hR:c_0 l with
 |false=>rfl
 |
  true=>
  obtain ⟨t,ht⟩:=a_a5 hw hR
  have h400:=ht.le;have hlen:=ht.len
  have hmk:g_3 1 (l.length:Int)=true:=by simp [g_3];omega
  have:=c_2 (step:=a_cv fuel l) (fun i=>(s_1 l i++List.replicate (l.length-i) false,(i:Int))) (s_1 l l.length) l.length
   (fun i hi=>.inl (b_ag ht hi fuel).2) (by unfold a_cv;simp) l.length 0 fuel (by omega) (by omega)
  simp only [a_0,Bool.not_true,false_eq_true,if_false,hmk,if_true,toNat_natCast]
  simp only [s_1,List.nil_append,sub_zero] at this
  rw [show (0:Int)=((0:Nat):Int) from rfl,this]
  rfl
def b_3 (l:List a_2):Nat->List Int
 |0=>[]
 |i+1=>if (gt l (i:Int)).Kind=2 then b_3 l i++[(i:Int)] else b_3 l i
theorem f_8 (l:List a_2):∀ i,(b_3 l i).length=a_3 l i
 |0=>rfl
 |i+1=>by simp only [b_3,a_3];split<;>simp [f_8 l i]
def q_5 (l:List a_2):List Int:=if c_0 l then b_3 l l.length else []
theorem a_yf {l:List a_2} (hl:l.length<=400) {i:Nat} (hi:i<l.length) (fuel:Nat) :
  p_5 fuel l (b_3 l i,(i:Int))=some (.next (b_3 l (i+1),((i+1:Nat):Int)))/\p_4 fuel l (b_3 l i,(i:Int))=some (.next (b_3 l (i+1),((i+1:Nat):Int))):=by
 have h1:(i:Int)<(l.length:Int):=by omega
 have hin:inb l (i:Int)=true:=a_7 (by omega) (by omega)
 have hWi:W ((i:Int)+1)=((i+1:Nat):Int):=c_3 (by omega)
 have hle:=a_b1 l i
 have hap:a_8 8 (b_3 l i) [(i:Int)]=true:=d_8 (by rw [f_8];simp;omega)
 unfold p_5 p_4
 by_cases hk:(gt l (i:Int)).Kind=2<;>simp [h1,hin,hWi,hap,hk,b_3]
theorem a_yz {l:List a_2} (hw:∀ x∈l,d_6 x) {fuel:Nat} (hf:401<fuel):f_1 fuel l=some (q_5 l):=by
 unfold f_1 q_5
 rw [a_f4 l hf]
 cases hR:c_0 l with
 |false=>rfl
 |
  true=>
  obtain ⟨t,ht⟩:=a_a5 hw hR
  have h400:=ht.le;have hlen:=ht.len
  have:=c_2 (step:=p_5 fuel l) (fun i=>(b_3 l i,(i:Int))) (b_3 l l.length) l.length (fun i hi=>.inl (a_yf (by omega) hi fuel).1) (by unfold p_5;simp) l.length 0 fuel (by omega) (by omega)
  simp only [a_0,Bool.not_true,false_eq_true,if_false,if_true]
  simp only [b_3] at this
  rw [show (0:Int)=((0:Nat):Int) from rfl,this];rfl
theorem a_oo {l:List a_2} (hw:∀ x∈l,d_6 x) (hl:l.length*64<=140737488351232) {fuel:Nat} (hf:401<fuel) (hf2:l.length+1<fuel):e_4 fuel l=some (q_5 l):=by
 unfold e_4 q_5
 rw [a_cy l hl hf2]
 cases hR:c_0 l with
 |false=>rfl
 |
  true=>
  obtain ⟨t,ht⟩:=a_a5 hw hR
  have h400:=ht.le;have hlen:=ht.len
  have:=c_2 (step:=p_4 fuel l) (fun i=>(b_3 l i,(i:Int))) (b_3 l l.length) l.length (fun i hi=>.inl (a_yf (by omega) hi fuel).2) (by unfold p_4;simp) l.length 0 fuel (by omega) (by omega)
  simp only [a_0,Bool.not_true,false_eq_true,if_false,if_true]
  simp only [b_3] at this
  rw [show (0:Int)=((0:Nat):Int) from rfl,this];rfl
theorem a_it (l:List a_2) {i j:Nat} (h:i<=j):a_3 l i<=a_3 l j:=by
 induction j with
 |zero=>
      obtain rfl:i=0:=by omega
      exact le_refl _
 |
  succ j ih=>
  by_cases e:i=j+1
  ·subst e;exact le_refl _
  ·have:=ih (by omega);simp only [a_3];omega
theorem z_9 (l:List a_2):∀ (i p:Nat),p<a_3 l i->∃ q:Nat,q<i/\(b_3 l i)[p]?=some (q:Int)/\(gt l (q:Int)).Kind=2/\a_3 l q=p
 |0,p,h=>by simp [a_3] at h
 |
  i+1,p,h=>by
  simp only [a_3,b_3] at h ⊢
  by_cases hk:(gt l (i:Int)).Kind=2
  ·simp only [hk,if_true] at h ⊢
   by_cases e:p=a_3 l i
   ·exact ⟨i,by omega,by rw [List.getElem?_append_right (by rw [f_8];omega),f_8];simp [e],hk,e.symm⟩
   ·obtain ⟨q,h1,h2,h3,h4⟩:=z_9 l i p (by omega)
    exact ⟨q,by omega,by rw [List.getElem?_append_left (by rw [f_8];omega)];exact h2,h3,h4⟩
  ·simp only [hk,if_false,Nat.add_zero] at h ⊢
   obtain ⟨q,h1,h2,h3,h4⟩:=z_9 l i p h
   exact ⟨q,by omega,h2,h3,h4⟩
def q_8 (l:List a_2):Nat->List Int
 |0=>[]
 |i+1=>q_8 l i++[if (gt l (i:Int)).Kind=2 then (a_3 l i:Int) else -1]
theorem a_et (l:List a_2):∀ i,(q_8 l i).length=i
 |0=>rfl
 |i+1=>by simp [q_8,a_et l i]
theorem a_yq (l:List a_2):∀ (i j:Nat),j<i->(q_8 l i)[j]?=some (if (gt l (j:Int)).Kind=2 then (a_3 l j:Int) else -1)
 |0,j,h=>by omega
 |
  i+1,j,h=>by
  simp only [q_8]
  by_cases e:j=i
  ·subst e;rw [List.getElem?_append_right (by rw [a_et];omega),a_et];simp
  ·rw [List.getElem?_append_left (by rw [a_et];omega)];exact a_yq l i j (by omega)
def a_h9 (l:List a_2):List Int:=if c_0 l then q_8 l l.length else []
def idxQ (l:List a_2) (p:Nat):Nat->List Int
 |0=>[]
 |i+1=>idxQ l p i++[if (gt l (i:Int)).Kind=2/\a_3 l i<p then (a_3 l i:Int) else -1]
theorem a_ds (l:List a_2) (p:Nat):∀ i,(idxQ l p i).length=i
 |0=>rfl
 |i+1=>by simp [idxQ,a_ds l p i]
theorem a_sj (l:List a_2) (p:Nat):∀ (i j:Nat),j<i->(idxQ l p i)[j]?=some (if (gt l (j:Int)).Kind=2/\a_3 l j<p then (a_3 l j:Int) else -1)
 |0,j,h=>by omega
 |
  i+1,j,h=>by
  simp only [idxQ]
  by_cases e:j=i
  ·subst e;rw [List.getElem?_append_right (by rw [a_ds];omega),a_ds];simp
  ·rw [List.getElem?_append_left (by rw [a_ds];omega)];exact a_sj l p i j (by omega)
theorem b_ln (l:List a_2) {i j:Nat} (hi:(gt l (i:Int)).Kind=2) (hj:(gt l (j:Int)).Kind=2) (h:a_3 l i=a_3 l j):i=j:=by
 rcases Nat.lt_trichotomy i j with c | c | c
 ·have:=a_it l (show i+1<=j from c);simp only [a_3,hi,if_true] at this;omega
 ·exact c
 ·have:=a_it l (show j+1<=i from c);simp only [a_3,hj,if_true] at this;omega
theorem b_lf (l:List a_2) {p q n:Nat} (hq:q<n) (hk:(gt l (q:Int)).Kind=2) (hp:a_3 l q=p):(idxQ l p n).set q (p:Int)=idxQ l (p+1) n:=by
 apply List.ext_getElem?
 intro j
 by_cases hj:j<n
 ·rw [a_sj l _ n j hj,List.getElem?_set]
  by_cases e:q=j
  ·subst e;simp [a_ds,hj,hk,hp]
  ·rw [if_neg e,a_sj l _ n j hj]
   by_cases k2:(gt l (j:Int)).Kind=2
   ·have:a_3 l j≠p:=fun h=>e (b_ln l hk k2 (hp.trans h.symm))
    simp only [k2,true_and]
    by_cases c:a_3 l j<p
    ·rw [if_pos c,if_pos (by omega)]
    ·rw [if_neg c,if_neg (by omega)]
   ·simp [k2]
 ·rw [List.getElem?_eq_none (by simp [a_ds];omega),List.getElem?_eq_none (by simp [a_ds];omega)]
theorem a_3p (l:List a_2):∀ n,idxQ l 0 n=List.replicate n (-1)
 |0=>rfl
 |n+1=>by simp [idxQ,a_3p l n,List.replicate_succ']
theorem b_kt (l:List a_2) (n:Nat):idxQ l (a_3 l n) n=q_8 l n:=by
 apply List.ext_getElem?
 intro j
 by_cases hj:j<n
 ·rw [a_sj l _ n j hj,a_yq l n j hj]
  by_cases k2:(gt l (j:Int)).Kind=2
  ·have:=a_it l (show j+1<=n from hj);simp only [a_3,k2,if_true] at this
   simp [k2];omega
  ·simp [k2]
 ·rw [List.getElem?_eq_none (by simp [a_ds];omega),List.getElem?_eq_none (by simp [a_et];omega)]
theorem b_oq {l:List a_2} (hw:∀ x∈l,d_6 x) {fuel:Nat} (hf:401<fuel):a_a9 fuel l=some (a_h9 l):=by
 unfold a_a9 a_h9
 rw [a_f4 l hf,a_yz hw hf]
 cases hR:c_0 l with
 |false=>rfl
 |
  true=>
  obtain ⟨t,ht⟩:=a_a5 hw hR
  have h400:=ht.le;have hlen:=ht.len
  have hmk:g_3 8 (l.length:Int)=true:=by simp [g_3];omega
  have e1:=c_2 (step:=a_dk fuel l) (fun i=>(List.replicate i (-1)++List.replicate (l.length-i) 0,(i:Int))) (List.replicate l.length (-1)) l.length
   (fun i hi=>.inl (by
    have h1:(i:Int)<(l.length:Int):=by omega
    have hii:inb (List.replicate i (-1:Int)++List.replicate (l.length-i) 0) (i:Int)=true:=a_7 (by omega) (by simp;omega)
    unfold a_dk
    simp only [List.length_replicate,toNat_natCast,h1,decide_true,if_true,hii,c_3 (show i<9223372036854775807 by omega)]
    rw [a_de hi 0,a_q7 (by simp),List.replicate_succ']
    simp)) (by unfold a_dk;simp) l.length 0 fuel (by omega) (by omega)
  have hLF:q_5 l=b_3 l l.length:=by simp [q_5,hR]
  have hle:=a_b1 l l.length
  have e2:=c_2 (step:=a_dh fuel (List.replicate l.length (-1)) (b_3 l l.length)) (fun p=>(idxQ l p l.length,(p:Int))) (q_8 l l.length) (a_3 l l.length)
   (fun p hp=>.inl (by
    obtain ⟨q,h1,h2,h3,h4⟩:=z_9 l l.length p hp
    have h5:(p:Int)<((b_3 l l.length).length:Int):=by rw [f_8];omega
    have h6:inb (b_3 l l.length) (p:Int)=true:=a_7 (by omega) h5
    have h7:inb (idxQ l p l.length) (q:Int)=true:=a_7 (by omega) (by rw [a_ds];omega)
    unfold a_dh
    simp only [h5,decide_true,if_true,h6,d_4 h2,h7,toNat_natCast,b_lf l h1 h3 h4,c_3 (show p<9223372036854775807 by omega)])) (by unfold a_dh;simp [f_8,b_kt]) (a_3 l l.length) 0 fuel (by omega) (by omega)
  simp only [a_0,Bool.not_true,false_eq_true,if_false,if_true,hmk,toNat_natCast,hLF]
  simp only [List.replicate_zero,List.nil_append,sub_zero] at e1
  rw [show ((List.replicate l.length (0:Int)),(0:Int))=(List.replicate l.length 0,((0:Nat):Int)) from rfl,e1,a_0]
  rw [a_3p] at e2
  rw [show ((List.replicate l.length (-1:Int)),(0:Int))=(List.replicate l.length (-1),((0:Nat):Int)) from rfl,e2];rfl
theorem b_dl {l:List a_2} (hw:∀ x∈l,d_6 x) (hl:l.length*64<=140737488351232) {fuel:Nat} (hf:401<fuel) (hf2:l.length+1<fuel):t_8 fuel l=some (a_h9 l):=by
 unfold t_8 a_h9
 rw [a_cy l hl hf2]
 cases hR:c_0 l with
 |false=>rfl
 |
  true=>
  obtain ⟨t,ht⟩:=a_a5 hw hR
  have h400:=ht.le;have hlen:=ht.len
  have hmk:g_3 8 (l.length:Int)=true:=by simp [g_3];omega
  have e1:=c_2 (step:=a_di fuel l) (fun i=>(q_8 l i++List.replicate (l.length-i) 0,(a_3 l i:Int),(i:Int))) (q_8 l l.length) l.length
   (fun i hi=>.inl (by
    have h1:(i:Int)<(l.length:Int):=by omega
    have hin:inb l (i:Int)=true:=a_7 (by omega) (by omega)
    have hle:=a_b1 l i
    have hii:∀ (y:Int) m,inb (q_8 l i++y :: m) (i:Int)=true:=fun y m=>a_7 (by omega) (by simp [a_et];omega)
    have hset:∀ (x y:Int) m,(q_8 l i++x :: m).set i y=q_8 l i++y :: m:=fun x y m=>a_q7 (a_et l i).symm
    unfold a_di
    rw [a_de hi 0]
    simp only [h1,decide_true,if_true,hii,hin,toNat_natCast,hset,c_3 (show i<9223372036854775807 by omega),c_3 (show a_3 l i<9223372036854775807 by omega),q_8,a_3]
    by_cases k2:(gt l (i:Int)).Kind=2<;>simp [k2])) (by unfold a_di;simp) l.length 0 fuel (by omega) (by omega)
  simp only [a_0,Bool.not_true,false_eq_true,if_false,if_true,hmk,toNat_natCast]
  simp only [q_8,a_3,List.nil_append,sub_zero] at e1
  rw [show ((List.replicate l.length (0:Int)),(0:Int),(0:Int))=(List.replicate l.length 0,((0:Nat):Int),((0:Nat):Int)) from rfl,e1];rfl
