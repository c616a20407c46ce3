/- The ways c_5 a node; by the program and by the document. From a place up to the root: the ways from there; by the program and by the document. From a place up to the root, by the document. Its conditions: none. -/
import Derived.Test.YtdficaoajalfaaaGreatTG42
open List (length_append length_nil length_cons drop_of_length_le any_cons)
open Nat (add_sub_cancel sub_zero)
open Bool (false_eq_true)
set_option linter.all false
namespace Go.Proofs.YtdficaoajalfaaaGreat.Old
open Go.V Go.RowKit
def Tm.c_5 (lo p:Nat) (ahead:List Int):Tm->List a_1
 |.eps=>[]
 |.leaf _=>[⟨(p:Int),0,ahead++[opn lo]⟩]
 |.cat a b=>a.c_5 lo p (ahead++[opn (Tm.top (.cat a b) lo)])++(if a.can then b.c_5 (lo+a.size) (p+a.leaves) (ahead++[opn (Tm.top (.cat a b) lo)]++a.steps lo) else [])
 |.alt a b=>a.c_5 lo p (ahead++[opn (Tm.top (.alt a b) lo)])++b.c_5 (lo+a.size) (p+a.leaves) (ahead++[opn (Tm.top (.alt a b) lo)])
 |.star a=>a.c_5 lo p (ahead++[opn (Tm.top (.star a) lo)])
 |.maybe a=>a.c_5 lo p (ahead++[opn (Tm.top (.maybe a) lo)])
 |.group n a=>a.c_5 lo p (ahead++[opn (Tm.top (.group n a) lo)])
 |.iter a=>a.c_5 lo p (ahead++[opn (Tm.top (.iter a) lo)])
theorem Tm.t_1 (t:Tm):∀ lo p ahead,(t.c_5 lo p ahead).length<=t.leaves:=by
 induction t with
 |eps=>intro lo p ahead;simp [Tm.c_5]
 |leaf s=>intro lo p ahead;simp [Tm.c_5,Tm.leaves]
 |
  cat a b iha ihb=>
  intro lo p ahead
  have:=iha lo p (ahead++[opn (Tm.top (.cat a b) lo)])
  have:=ihb (lo+a.size) (p+a.leaves) (ahead++[opn (Tm.top (.cat a b) lo)]++a.steps lo)
  simp only [Tm.c_5,Tm.leaves]
  split<;>simp only [length_append,length_nil]<;>omega
 |
  alt a b iha ihb=>
  intro lo p ahead
  have:=iha lo p (ahead++[opn (Tm.top (.alt a b) lo)])
  have:=ihb (lo+a.size) (p+a.leaves) (ahead++[opn (Tm.top (.alt a b) lo)])
  simp only [Tm.c_5,Tm.leaves,length_append];omega
 |star a iha | maybe a iha | group _ a iha | iter a iha=>intro lo p ahead;exact iha _ _ _
theorem o_9 {l:List a_2}:∀ {s:Tm} {lo:Nat},At l lo s->a_3 l (lo+s.size)=a_3 l lo+s.leaves:=by
 intro s
 induction s with
 |eps=>intro lo h;have hg:=h.f_6;simp only [Tm.top,Tm.size,add_sub_cancel] at hg;simp [Tm.size,a_3,hg,Tm.node,Tm.leaves]
 |leaf s=>intro lo h;have hg:=h.f_6;simp only [Tm.top,Tm.size,add_sub_cancel] at hg;simp [Tm.size,a_3,hg,Tm.node,Tm.leaves]
 |
  cat a b iha ihb | alt a b iha ihb=>
  intro lo h
  have hg:=h.f_6
  obtain ⟨ha,hb,_⟩:=(At.bin rfl rfl).1 h
  simp only [Tm.top,Tm.size] at hg
  have e:lo+(a.size+b.size+1)-1=lo+a.size+b.size:=by omega
  rw [e] at hg
  simp only [Tm.size,<-Nat.add_assoc,a_3,hg,Tm.node,Tm.leaves,ihb hb,iha ha]
  simp
 |
  star a iha | maybe a iha | group _ a iha | iter a iha=>
  intro lo h
  have hg:=h.f_6
  obtain ⟨ha,_⟩:=(At.un rfl rfl).1 h
  simp only [Tm.top,Tm.size] at hg
  have e:lo+(a.size+1)-1=lo+a.size:=by omega
  rw [e] at hg
  simp only [Tm.size,<-Nat.add_assoc,a_3,hg,Tm.node,Tm.leaves,iha ha]
  simp
theorem a_k8 {fuel:Nat} {a b:List Int} (h:(a.length+b.length)*8<=140737488355328):j_1 fuel a b=some (a++b):=by
 have hs:k_7 a 0 (a.length:Int)=true:=by simp [k_7]
 have hc:e_1 a 0 (a.length:Int)=a:=by simp [e_1]
 have ha:a_8 8 a b=true:=d_8 h
 unfold j_1
 simp [hs,hc,ha]
theorem a_ps {fuel:Nat} {a b:List Int} (h:(a.length+b.length)*8<=140737488355328):m_3 fuel a b=some (a++b):=by
 have h1:a_8 8 ([]:List Int) a=true:=d_8 (by simp;omega)
 have h2:a_8 8 a b=true:=d_8 h
 unfold m_3
 simp [h1,h2]
structure a_uc (c:d_0) (l:List a_2) (t:Tm):Prop where
 tl:c.l=l
 up:UpT c.up t
 deep:a_ha c.deep t
 index:c.index=q_8 l l.length
 can:c.can=v_2 l
theorem a_7l {l:List a_2} {lo:Nat} {s:List Int} (h:At l lo (.leaf s)):inb (q_8 l l.length) (lo:Int)=true/\gt (q_8 l l.length) (lo:Int)=(a_3 l lo:Int):=by
 have hlen:=h.len
 have hg:=h.f_6
 simp only [Tm.top,Tm.size,add_sub_cancel] at hg hlen
 refine ⟨a_7 (by omega) (by rw [a_et];omega),?_⟩
 rw [d_4 (a_yq l l.length lo (by omega)),hg]
 simp [Tm.node]
theorem a_9r {l:List a_2} (hw:∀ x∈l,d_6 x) {t:Tm} (ht:IsT l t) (hR:c_0 l=true) {c:d_0} (hc:a_uc c l t) {fuel:Nat} (hf:401<fuel) :
  ∀ (s:Tm) (lo:Nat),At l lo s->∀ (k:Nat) (ahead:List Int) (out:List a_1),s.size<=k->ahead.length+1000*s.size<=1000000000->out.length+s.size<=1000000000->
   c_7 fuel k c (s.top lo:Int) ahead out=some (out++s.c_5 lo (a_3 l lo) ahead):=by
 have h400:=ht.le;have hlen0:=ht.len
 have hcl:=hc.tl;have hci:=hc.index;have hcc:=hc.can
 have hct:=canT hR
 intro s
 induction s with
 |
  eps=>
  intro lo h k ahead out hk ho ho2
  obtain ⟨k,rfl⟩:∃ q,k=q+1:=⟨k-1,by simp [Tm.size] at hk;omega⟩
  have htop:=h.k_6
  have hg:=h.f_6
  simp only [Tm.size] at ho ho2
  generalize Tm.top _ lo=r at *
  have hin:inb l (r:Int)=true:=a_7 (by omega) (by omega)
  unfold c_7
  simp only [hcl,hin,if_true,s_0 (show r<=1000000000 by omega),a_k8 (fuel:=fuel) (a:=ahead) (b:=[opn r]) (by simp;omega),a_0,hg,Tm.node]
  simp [Tm.c_5]
 |
  leaf s=>
  intro lo h k ahead out hk ho ho2
  obtain ⟨k,rfl⟩:∃ q,k=q+1:=⟨k-1,by simp [Tm.size] at hk;omega⟩
  have htop:=h.k_6
  have hg:=h.f_6
  obtain ⟨i1,i2⟩:=a_7l h
  simp only [Tm.size] at ho ho2
  simp only [Tm.top,Tm.size,add_sub_cancel] at hg htop ⊢
  have hin:inb l (lo:Int)=true:=a_7 (by omega) (by omega)
  have hap:∀ x:a_1,a_8 40 out [x]=true:=fun x=>d_8 (by simp;omega)
  unfold c_7
  simp only [hcl,hin,if_true,s_0 (show lo<=1000000000 by omega),a_k8 (fuel:=fuel) (a:=ahead) (b:=[opn lo]) (by simp;omega),a_0,hg,Tm.node,hci,i1,i2,hap]
  simp [Tm.c_5]
 |
  cat a b iha ihb=>
  intro lo h k ahead out hk ho ho2
  obtain ⟨k,rfl⟩:∃ q,k=q+1:=⟨k-1,by simp [Tm.size] at hk;omega⟩
  have htop:=h.k_6
  have hlen:=h.len
  have hg:=h.f_6
  obtain ⟨ha,hb,_⟩:=(At.bin rfl rfl).1 h
  have sa:=a.n_8 lo;have la:=a.t_1 lo (a_3 l lo) (ahead++[opn (Tm.top (.cat a b) lo)]);have lla:=a.q_3
  simp only [Tm.c_5]
  simp only [Tm.size] at hlen ho ho2 hk
  generalize Tm.top (.cat a b) lo=r at *
  have hin:inb l (r:Int)=true:=a_7 (by omega) (by omega)
  have hia:inb (v_2 l) (a.top lo:Int)=true:=a_7 (by omega) (by rw [hct.len];have:=ha.k_6;omega)
  have e1:=iha lo ha k (ahead++[opn r]) out (by omega) (by simp;omega) (by omega)
  have e2:=ihb (lo+a.size) hb k (ahead++[opn r]++a.steps lo) (out++a.c_5 lo (a_3 l lo) (ahead++[opn r])) (by omega) (by simp;omega) (by simp;omega)
  rw [o_9 ha] at e2
  unfold c_7
  simp only [hcl,hin,if_true,s_0 (show r<=1000000000 by omega),a_k8 (fuel:=fuel) (a:=ahead) (b:=[opn r]) (by simp;omega),a_0,hg,Tm.node,e1,hcc,hia,hct.top a lo ha]
  rw [show ((3:Int)==2)=false from rfl,show ((3:Int)==3)=true from rfl]
  cases hcan:a.can
  ·simp
  ·simp only [false_eq_true,if_false,if_true,a_28 hw ht hR hf ha,hcan,a_0,a_k8 (fuel:=fuel) (a:=ahead++[opn r]) (b:=a.steps lo) (by simp;omega),e2]
   simp
 |
  alt a b iha ihb=>
  intro lo h k ahead out hk ho ho2
  obtain ⟨k,rfl⟩:∃ q,k=q+1:=⟨k-1,by simp [Tm.size] at hk;omega⟩
  have htop:=h.k_6
  have hlen:=h.len
  have hg:=h.f_6
  obtain ⟨ha,hb,_⟩:=(At.bin rfl rfl).1 h
  have la:=a.t_1 lo (a_3 l lo) (ahead++[opn (Tm.top (.alt a b) lo)]);have lla:=a.q_3
  simp only [Tm.c_5]
  simp only [Tm.size] at hlen ho ho2 hk
  generalize Tm.top (.alt a b) lo=r at *
  have hin:inb l (r:Int)=true:=a_7 (by omega) (by omega)
  have e1:=iha lo ha k (ahead++[opn r]) out (by omega) (by simp;omega) (by omega)
  have e2:=ihb (lo+a.size) hb k (ahead++[opn r]) (out++a.c_5 lo (a_3 l lo) (ahead++[opn r])) (by omega) (by simp;omega) (by simp;omega)
  rw [o_9 ha] at e2
  unfold c_7
  simp only [hcl,hin,if_true,s_0 (show r<=1000000000 by omega),a_k8 (fuel:=fuel) (a:=ahead) (b:=[opn r]) (by simp;omega),a_0,hg,Tm.node,e1,e2]
  simp
 |
  star a iha | maybe a iha | group _ a iha | iter a iha=>
  intro lo h k ahead out hk ho ho2
  obtain ⟨k,rfl⟩:∃ q,k=q+1:=⟨k-1,by simp [Tm.size] at hk;omega⟩
  have htop:=h.k_6
  have hlen:=h.len
  have hg:=h.f_6
  obtain ⟨ha,_⟩:=(At.un rfl rfl).1 h
  simp only [Tm.c_5]
  simp only [Tm.size] at hlen ho ho2 hk
  generalize Tm.top _ lo=r at *
  have hin:inb l (r:Int)=true:=a_7 (by omega) (by omega)
  have e1:=iha lo ha k (ahead++[opn r]) out (by omega) (by simp;omega) (by omega)
  unfold c_7
  simp only [hcl,hin,if_true,s_0 (show r<=1000000000 by omega),a_k8 (fuel:=fuel) (a:=ahead) (b:=[opn r]) (by simp;omega),a_0,hg,Tm.node,e1]
  simp
theorem b_aa {l:List a_2} {t:Tm} (ht:IsT l t) (hR:c_0 l=true) {fuel:Nat} (hf:401<fuel) :
  ∀ (s:Tm) (lo:Nat),At l lo s->∀ (k:Nat) (ahead:List Int),s.size<=k->ahead.length+1000*s.size<=1000000000->
   f_5 fuel k l (q_8 l l.length) (v_2 l) (s.top lo:Int) ahead=some (s.c_5 lo (a_3 l lo) ahead):=by
 have h400:=ht.le;have hlen0:=ht.len
 have hct:=canT hR
 intro s
 induction s with
 |
  eps=>
  intro lo h k ahead hk ho
  obtain ⟨k,rfl⟩:∃ q,k=q+1:=⟨k-1,by simp [Tm.size] at hk;omega⟩
  have htop:=h.k_6
  have hg:=h.f_6
  simp only [Tm.size] at ho
  generalize Tm.top _ lo=r at *
  have hin:inb l (r:Int)=true:=a_7 (by omega) (by omega)
  unfold f_5
  simp only [hin,if_true,s_0 (show r<=1000000000 by omega),a_ps (fuel:=fuel) (a:=ahead) (b:=[opn r]) (by simp;omega),a_0,hg,Tm.node]
  simp [Tm.c_5]
 |
  leaf s=>
  intro lo h k ahead hk ho
  obtain ⟨k,rfl⟩:∃ q,k=q+1:=⟨k-1,by simp [Tm.size] at hk;omega⟩
  have htop:=h.k_6
  have hg:=h.f_6
  obtain ⟨i1,i2⟩:=a_7l h
  simp only [Tm.size] at ho
  simp only [Tm.top,Tm.size,add_sub_cancel] at hg htop ⊢
  have hin:inb l (lo:Int)=true:=a_7 (by omega) (by omega)
  unfold f_5
  simp only [hin,if_true,s_0 (show lo<=1000000000 by omega),a_ps (fuel:=fuel) (a:=ahead) (b:=[opn lo]) (by simp;omega),a_0,hg,Tm.node,i1,i2]
  simp [Tm.c_5]
 |
  cat a b iha ihb=>
  intro lo h k ahead hk ho
  obtain ⟨k,rfl⟩:∃ q,k=q+1:=⟨k-1,by simp [Tm.size] at hk;omega⟩
  have htop:=h.k_6
  have hlen:=h.len
  have hg:=h.f_6
  obtain ⟨ha,hb,_⟩:=(At.bin rfl rfl).1 h
  have sa:=a.n_8 lo;have la:=a.t_1 lo (a_3 l lo) (ahead++[opn (Tm.top (.cat a b) lo)]);have lla:=a.q_3
  have lb:=b.t_1 (lo+a.size) (a_3 l lo+a.leaves) (ahead++[opn (Tm.top (.cat a b) lo)]++a.steps lo);have llb:=b.q_3
  simp only [Tm.c_5]
  simp only [Tm.size] at hlen ho hk
  generalize Tm.top (.cat a b) lo=r at *
  have hin:inb l (r:Int)=true:=a_7 (by omega) (by omega)
  have hia:inb (v_2 l) (a.top lo:Int)=true:=a_7 (by omega) (by rw [hct.len];have:=ha.k_6;omega)
  have e1:=iha lo ha k (ahead++[opn r]) (by omega) (by simp;omega)
  have e2:=ihb (lo+a.size) hb k (ahead++[opn r]++a.steps lo) (by omega) (by simp;omega)
  rw [o_9 ha] at e2
  unfold f_5
  simp only [hin,if_true,s_0 (show r<=1000000000 by omega),a_ps (fuel:=fuel) (a:=ahead) (b:=[opn r]) (by simp;omega),a_0,hg,Tm.node,e1,hia,hct.top a lo ha]
  rw [show ((3:Int)==2)=false from rfl,show ((3:Int)==3)=true from rfl]
  cases hcan:a.can
  ·simp
  ·have hap:a_8 40 (a.c_5 lo (a_3 l lo) (ahead++[opn r])) (b.c_5 (lo+a.size) (a_3 l lo+a.leaves) (ahead++[opn r]++a.steps lo))=true:=d_8 (by omega)
   simp only [false_eq_true,if_false,if_true,r_Of hct (by omega) fuel a lo ha fuel (by omega),a_0,a_ps (fuel:=fuel) (a:=ahead++[opn r]) (b:=a.steps lo) (by simp;omega),e2,hap]
 |
  alt a b iha ihb=>
  intro lo h k ahead hk ho
  obtain ⟨k,rfl⟩:∃ q,k=q+1:=⟨k-1,by simp [Tm.size] at hk;omega⟩
  have htop:=h.k_6
  have hlen:=h.len
  have hg:=h.f_6
  obtain ⟨ha,hb,_⟩:=(At.bin rfl rfl).1 h
  have la:=a.t_1 lo (a_3 l lo) (ahead++[opn (Tm.top (.alt a b) lo)]);have lla:=a.q_3
  have lb:=b.t_1 (lo+a.size) (a_3 l lo+a.leaves) (ahead++[opn (Tm.top (.alt a b) lo)]);have llb:=b.q_3
  simp only [Tm.c_5]
  simp only [Tm.size] at hlen ho hk
  generalize Tm.top (.alt a b) lo=r at *
  have hin:inb l (r:Int)=true:=a_7 (by omega) (by omega)
  have e1:=iha lo ha k (ahead++[opn r]) (by omega) (by simp;omega)
  have e2:=ihb (lo+a.size) hb k (ahead++[opn r]) (by omega) (by simp;omega)
  rw [o_9 ha] at e2
  have hap:a_8 40 (a.c_5 lo (a_3 l lo) (ahead++[opn r])) (b.c_5 (lo+a.size) (a_3 l lo+a.leaves) (ahead++[opn r]))=true:=d_8 (by omega)
  unfold f_5
  simp only [hin,if_true,s_0 (show r<=1000000000 by omega),a_ps (fuel:=fuel) (a:=ahead) (b:=[opn r]) (by simp;omega),a_0,hg,Tm.node,e1,e2,hap]
  simp
 |
  star a iha | maybe a iha | group _ a iha | iter a iha=>
  intro lo h k ahead hk ho
  obtain ⟨k,rfl⟩:∃ q,k=q+1:=⟨k-1,by simp [Tm.size] at hk;omega⟩
  have htop:=h.k_6
  have hlen:=h.len
  have hg:=h.f_6
  obtain ⟨ha,_⟩:=(At.un rfl rfl).1 h
  simp only [Tm.c_5]
  simp only [Tm.size] at hlen ho hk
  generalize Tm.top _ lo=r at *
  have hin:inb l (r:Int)=true:=a_7 (by omega) (by omega)
  have e1:=iha lo ha k (ahead++[opn r]) (by omega) (by simp;omega)
  unfold f_5
  simp only [hin,if_true,s_0 (show r<=1000000000 by omega),a_ps (fuel:=fuel) (a:=ahead) (b:=[opn r]) (by simp;omega),a_0,hg,Tm.node,e1]
  simp
inductive Fr where
 |catL (b:Tm) | catR (a:Tm) | altL (b:Tm) | altR (a:Tm) | star | maybe | group (n:Int) | iter
def Fr.e_8 (s:Tm):Fr->Tm
 |.catL b=>.cat s b | .catR a=>.cat a s | .altL b=>.alt s b | .altR a=>.alt a s
 |.star=>.star s | .maybe=>.maybe s | .group n=>.group n s | .iter=>.iter s
def Fr.off:Fr->Nat
 |.catR a=>a.size | .altR a=>a.size | _=>0
def Fr.lvs:Fr->Nat
 |.catR a=>a.leaves | .altR a=>a.leaves | _=>0
def Ctx (t:Tm):Nat->Tm->List Fr->Prop
 |lo,s,[]=>lo=0/\s=t
 |lo,s,f :: fs=>f.off<=lo/\Ctx t (lo-f.off) (f.e_8 s) fs
theorem Ctx.size {t:Tm}:∀ {fs:List Fr} {lo:Nat} {s:Tm},Ctx t lo s fs->fs.length+s.size<=t.size
 |[],lo,s,⟨_,h⟩=>by subst h;simp
 |
  f :: fs,lo,s,⟨_,h⟩=>by
  have:=Ctx.size h
  cases f<;>simp [Fr.e_8,Tm.size] at this ⊢<;>omega
structure Part (l:List a_2) (u d:List Int) (lo:Nat) (s:Tm) (k:Nat):Prop where
 at_:At l lo s
 up:UpOk u lo s
 deep:u_4 d lo k s
theorem Ctx.part {l:List a_2} {t:Tm} {u d:List Int} (ht:IsT l t) (hu:UpT u t) (hd:a_ha d t):∀ {fs:List Fr} {lo:Nat} {s:Tm},Ctx t lo s fs->Part l u d lo s (fs.length+1)
 |[],lo,s,⟨h1,h2⟩=>by subst h1;subst h2;exact ⟨ht.at0,hu.inner,hd.deep⟩
 |
  f :: fs,lo,s,⟨ho,h⟩=>by
  obtain ⟨h1,h2,h3⟩:=Ctx.part ht hu hd h
  cases f<;>simp only [Fr.e_8,Fr.off,sub_zero] at h1 h2 h3 ho
  case catL b=>exact ⟨((At.bin rfl rfl).1 h1).1,h2.2.2.1,h3.2.1⟩
  case altL b=>exact ⟨((At.bin rfl rfl).1 h1).1,h2.2.2.1,h3.2.1⟩
  case catR a=>
   have e:lo-a.size+a.size=lo:=by omega
   have:=((At.bin rfl rfl).1 h1).2.1
   have g2:=h2.2.2.2
   have g3:=h3.2.2
   rw [e] at this g2 g3
   exact ⟨this,g2,g3⟩
  case altR a=>
   have e:lo-a.size+a.size=lo:=by omega
   have:=((At.bin rfl rfl).1 h1).2.1
   have g2:=h2.2.2.2
   have g3:=h3.2.2
   rw [e] at this g2 g3
   exact ⟨this,g2,g3⟩
  all_goals exact ⟨((At.un rfl rfl).1 h1).1,h2.2,h3.2⟩
theorem Ctx.edge {l:List a_2} {t:Tm} {u d:List Int} (ht:IsT l t) (hu:UpT u t) (hd:a_ha d t) {f:Fr} {fs:List Fr} {lo:Nat} {s:Tm} (h:Ctx t lo s (f :: fs)) :
  gt u (s.top lo:Int)=((f.e_8 s).top (lo-f.off):Int):=by
 obtain ⟨ho,h⟩:=h
 obtain ⟨h1,h2,h3⟩:=Ctx.part ht hu hd h
 cases f<;>simp only [Fr.e_8,Fr.off,sub_zero] at h1 h2 h3 ho ⊢
 case catL b=>exact h2.1
 case altL b=>exact h2.1
 case catR a=>
  have e:lo-a.size+a.size=lo:=by omega
  have:=h2.2.1
  rwa [e] at this
 case altR a=>
  have e:lo-a.size+a.size=lo:=by omega
  have:=h2.2.1
  rwa [e] at this
 all_goals exact h2.1
theorem Ctx.root {t:Tm} {u:List Int} (hu:UpT u t) {lo:Nat} {s:Tm} (h:Ctx t lo s []):gt u (s.top lo:Int)=-1:=by
 obtain ⟨rfl,rfl⟩:=h;exact hu.root
def l_3 (d:Int):List a_1->List a_1->List a_1
 |out,[]=>out
 |out,h :: r=>l_3 d (if out.any (fun x=>x.To==h.To) then out else out++[⟨h.To,d,h.Steps⟩]) r
theorem a_b7 (d:Int):∀ (r out:List a_1),(l_3 d out r).length<=out.length+r.length
 |[],out=>by simp [l_3]
 |
  h :: r,out=>by
  simp only [l_3,length_cons]
  cases out.any (fun x=>x.To==h.To) with
  |true=>have:=a_b7 d r out;simp only [if_true];omega
  |false=>have:=a_b7 d r (out++[⟨h.To,d,h.Steps⟩]);simp only [false_eq_true,if_false];simp only [length_append,length_cons,length_nil] at this;omega
def f_4 (lo p:Nat) (s:Tm) (st:List Int) (out:List a_1):List Fr->List a_1×List Int×Bool
 |[]=>(out,st,true)
 |
  .catL b :: fs=>
  if b.can then f_4 lo p (.cat s b) (st++b.steps (lo+s.size)++[cls (Tm.top (.cat s b) lo)]) (l_3 (fs.length+1:Nat) out (b.c_5 (lo+s.size) (p+s.leaves) st)) fs
  else (l_3 (fs.length+1:Nat) out (b.c_5 (lo+s.size) (p+s.leaves) st),[],false)
 |.star :: fs=>f_4 lo p (.star s) (st++[cls (Tm.top (.star s) lo)]) (l_3 (fs.length+1:Nat) out (s.c_5 lo p st)) fs
 |f :: fs=>f_4 (lo-f.off) (p-f.lvs) (f.e_8 s) (st++[cls ((f.e_8 s).top (lo-f.off))]) out fs
theorem a_x5 {l:List a_2} {t:Tm} {u d:List Int} (ht:IsT l t) (hu:UpT u t) (hd:a_ha d t) {f:Fr} {fs:List Fr} {lo:Nat} {s:Tm} (h:Ctx t lo s (f :: fs)):a_3 l (lo-f.off)=a_3 l lo-f.lvs:=by
 obtain ⟨ho,h⟩:=h
 obtain ⟨h1,h2,h3⟩:=Ctx.part ht hu hd h
 clear h2 h3
 cases f<;>simp only [Fr.e_8,Fr.off,Fr.lvs,sub_zero] at h1 ho ⊢
 case catR a=>
  have:=o_9 ((At.bin rfl rfl).1 h1).1
  rw [show lo-a.size+a.size=lo from by omega] at this;omega
 case altR a=>
  have:=o_9 ((At.bin rfl rfl).1 h1).1
  rw [show lo-a.size+a.size=lo from by omega] at this;omega
theorem b_fm (fuel:Nat) (out:List a_1) (h:a_1) (hf:out.length<fuel) (hl:out.length<=1000000000):g_8 fuel out h=some (out.any fun x=>x.To==h.To):=by
 have key:∀ (k i:Nat),i+k=out.length->∀ m,k<m->∃ t,iter (d_9 fuel out h) m (i:Int)=some t/\(match t with | .inl _=>(out.drop i).any (fun x=>x.To==h.To)=false | .inr r=>0<=r/\(out.drop i).any (fun x=>x.To==h.To)=true):=by
  intro k
  induction k with
  |
   zero=>
   intro i hi m hm
   obtain ⟨m,rfl⟩:∃ q,m=q+1:=⟨m-1,by omega⟩
   refine ⟨.inl (),?_,?_⟩
   ·unfold iter d_9
    have:¬ ((i:Int)<(out.length:Int)):=by omega
    simp [this]
   ·rw [drop_of_length_le (by omega)];rfl
  |
   succ k ih=>
   intro i hi m hm
   obtain ⟨m,rfl⟩:∃ q,m=q+1:=⟨m-1,by omega⟩
   have hlt:i<out.length:=by omega
   have hin:inb out (i:Int)=true:=a_7 (by omega) (by omega)
   have hg:gt out (i:Int)=out[i]:=d_4 (by simp [hlt])
   have hd:out.drop i=out[i] :: out.drop (i+1):=List.drop_eq_getElem_cons hlt
   have hd1:(i:Int)<(out.length:Int):=by omega
   have hst:d_9 fuel out h (i:Int)=if (out[i].To==h.To)=true then some (.done (.inr (i:Int))) else some (.next ((i+1:Nat):Int)):=by
    unfold d_9 a_gs
    simp only [hd1,decide_true,if_true,hin,hg,a_0,c_3 (show i<9223372036854775807 by omega)]
   unfold iter
   rw [hst]
   by_cases c:(out[i].To==h.To)=true
   ·rw [if_pos c]
    exact ⟨_,rfl,by omega,by rw [hd];simp only [any_cons,c,Bool.true_or]⟩
   ·rw [if_neg c]
    obtain ⟨t,h1,h2⟩:=ih (i+1) (by omega) m (by omega)
    refine ⟨t,h1,?_⟩
    rw [hd]
    have c':(out[i].To==h.To)=false:=by simpa using c
    cases t with
    |inl _=>simp only [any_cons,c',Bool.false_or];exact h2
    |inr r=>simp only [any_cons,c',Bool.false_or];exact h2
 obtain ⟨t,h1,h2⟩:=key out.length 0 (by omega) fuel (by omega)
 unfold g_8 l_0
 rw [show (0:Int)=((0:Nat):Int) from rfl,h1]
 rw [List.drop_zero] at h2
 cases t with
 |inl _=>simp only [a_0];rw [h2];rfl
 |inr r=>simp only [a_0];rw [h2.2];simp [h2.1]
theorem drop_cons {α:Type} [Inhabited α] {l:List α} {i:Nat} (h:i<l.length):l.drop i=gt l (i:Int) :: l.drop (i+1):=by
 rw [List.drop_eq_getElem_cons h,d_4 (x:=l[i]) (by simp [h])]
theorem b_di {fuel:Nat} {c:d_0} {at_:Nat} {d:Int} {goal:Int} {st:List Int} {out hops:List a_1} (hinto:c_7 fuel fuel c goal st []=some hops) (hd:inb c.deep (at_:Int)=true) (hdv:gt c.deep (at_:Int)=d)
  (hb:out.length+hops.length<=1000000) (hf:1000001<fuel):j_6 fuel c (at_:Int) goal st out=some (l_3 d out hops):=by
 have key:∀ (k i:Nat) (o:List a_1),i+k=hops.length->o.length+k<=1000000->∀ m,k<m->iter (p_1 fuel c (at_:Int) out hops) m (o,(i:Int))=some (l_3 d o (hops.drop i)):=by
  intro k
  induction k with
  |
   zero=>
   intro i o hi ho m hm
   obtain ⟨m,rfl⟩:∃ q,m=q+1:=⟨m-1,by omega⟩
   rw [drop_of_length_le (by omega)]
   unfold iter p_1
   have:¬ ((i:Int)<(hops.length:Int)):=by omega
   simp [this,l_3]
  |
   succ k ih=>
   intro i o hi ho m hm
   obtain ⟨m,rfl⟩:∃ q,m=q+1:=⟨m-1,by omega⟩
   have hlt:i<hops.length:=by omega
   have hin:inb hops (i:Int)=true:=a_7 (by omega) (by omega)
   have hd1:(i:Int)<(hops.length:Int):=by omega
   have hap:∀ x:a_1,a_8 40 o [x]=true:=fun x=>d_8 (by simp;omega)
   have hst:p_1 fuel c (at_:Int) out hops (o,(i:Int))=some (.next ((if o.any (fun x=>x.To==(gt hops (i:Int)).To) then o else o++[⟨(gt hops (i:Int)).To,d,(gt hops (i:Int)).Steps⟩]),((i+1:Nat):Int))):=by
    unfold p_1
    simp only [hd1,decide_true,if_true,hin,b_fm fuel o (gt hops (i:Int)) (by omega) (by omega),a_0,hd,hdv,hap,c_3 (show i<9223372036854775807 by omega)]
    cases o.any (fun x=>x.To==(gt hops (i:Int)).To)<;>simp
   unfold iter
   rw [hst,drop_cons hlt]
   simp only [l_3]
   refine ih (i+1) _ (by omega) ?_ m (by omega)
   split
   ·omega
   ·simp only [length_append,length_cons,length_nil];omega
 unfold j_6
 rw [hinto]
 simp only [a_0]
 rw [show (0:Int)=((0:Nat):Int) from rfl,key hops.length 0 out (by omega) (by omega) fuel (by omega)]
 simp
theorem b_o8 {l:List a_2} (hw:∀ x∈l,d_6 x) {t:Tm} (ht:IsT l t) (hR:c_0 l=true) {c:d_0} (hc:a_uc c l t) {fuel:Nat} (hf:1000001<fuel) (p1:Int) :
  ∀ (fs:List Fr) (lo:Nat) (s:Tm) (st:List Int) (out:List a_1),Ctx t lo s fs->st.length+1000*fs.length<=500000->out.length+1000*fs.length<=500000->∀ m,fs.length<m->
   ∃ r,iter (i_0 fuel c p1) m ((s.top lo:Int),st,out,gt c.up (s.top lo:Int))=some r/\
    (match r with | .inl (y1,y2)=>(y2,y1,true) | .inr (z1,z2)=>(z1,z2,false))=f_4 lo (a_3 l lo) s st out fs/\(∀ z1 z2,r=.inr (z1,z2)->z2=[]):=by
 have h400:=ht.le;have hlen0:=ht.len
 have hcl:=hc.tl;have hcc:=hc.can
 have hct:=canT hR
 intro fs
 induction fs with
 |
  nil=>
  intro lo s st out hx h1 h2 m hm
  obtain ⟨m,rfl⟩:∃ q,m=q+1:=⟨m-1,by omega⟩
  refine ⟨.inl (st,out),?_,rfl,fun _ _ h=>by cases h⟩
  rw [hx.root hc.up]
  unfold iter i_0
  simp
 |
  cons f fs ih=>
  intro lo s st out hx h1 h2 m hm
  obtain ⟨m,rfl⟩:∃ q,m=q+1:=⟨m-1,by omega⟩
  have hpart:=hx.part ht hc.up hc.deep
  have hpar:=hx.2.part ht hc.up hc.deep
  have hedge:=hx.edge ht hc.up hc.deep
  have hx2:=hx.2
  have hlvs:=a_x5 ht hc.up hc.deep hx
  have hsz:=hx.size
  simp only [length_cons] at h1 h2 hm hsz
  rw [hedge]
  have htop:=hpar.at_.k_6
  have hg:=hpar.at_.f_6
  have hdp:=hpar.deep.top
  generalize hlo:lo-f.off=lo' at *
  generalize hr:(f.e_8 s).top lo'=r at *
  have hin:inb l (r:Int)=true:=a_7 (by omega) (by omega)
  have hiu:inb c.up (r:Int)=true:=a_7 (by omega) (by rw [hc.up.len];omega)
  have hid:inb c.deep (r:Int)=true:=a_7 (by omega) (by rw [hc.deep.len];omega)
  have hr0:(r:Int)>=0:=by omega
  have hcls:W (W (2*(r:Int))+1)=cls r:=by rw [s_0 (by omega),a_cm (by omega)]
  have next:∀ (st':List Int) (out':List a_1),st'.length<=st.length+900->(Option.bind (j_1 fuel st' [W (W (2*(r:Int))+1)]) fun x12=>if inb c.up (r:Int)=true then (some (.next ((r:Int),x12,out',gt c.up (r:Int))):Option (Ctl (Int×List Int×List a_1×Int) ((List Int×List a_1) ⊕ ((List a_1)×(List Int))))) else none)=some (.next ((r:Int),st'++[cls r],out',gt c.up (r:Int))):=fun st' out' hs=>by
   rw [hcls,a_k8 (fuel:=fuel) (a:=st') (b:=[cls r]) (by simp;omega),hiu];rfl
  have plain:∀ (fs':List Fr),f_4 lo (a_3 l lo) s st out (f :: fs)=f_4 lo' (a_3 l lo') (f.e_8 s) (st++[cls r]) out fs->i_0 fuel c p1 ((s.top lo:Int),st,out,(r:Int))=some (.next ((r:Int),st++[cls r],out,gt c.up (r:Int)))->
    ∃ r',iter (i_0 fuel c p1) (m+1) ((s.top lo:Int),st,out,(r:Int))=some r'/\(match r' with | .inl (y1,y2)=>(y2,y1,true) | .inr (z1,z2)=>(z1,z2,false))=f_4 lo (a_3 l lo) s st out (f :: fs)/\(∀ z1 z2,r'=.inr (z1,z2)->z2=[]):=fun _ e1 e2=>by
   unfold iter
   rw [e1,e2]
   have:=ih lo' (f.e_8 s) (st++[cls r]) out hx2 (by simp;omega) (by omega) m (by omega)
   rw [hr] at this
   exact this
  have step0:i_0 fuel c p1 ((s.top lo:Int),st,out,(r:Int))=i_0 fuel c p1 ((s.top lo:Int),st,out,(r:Int)):=rfl
  conv at step0=>rhs;unfold i_0
  simp only [hr0,decide_true,if_true,hcl,hin,hg] at step0
  cases f with
  |
   catL b=>
   simp only [Fr.e_8,Fr.off,sub_zero] at hlo hr hg hpar step0
   subst hlo
   obtain ⟨hats,hatb,_⟩:=(At.bin rfl rfl).1 hpar.at_
   have hbi:=b.t_1 (lo+s.size) (a_3 l lo+s.leaves) st
   have hbl:=b.q_3;have hbs:=b.n_8 (lo+s.size)
   have hsb:b.size<=400:=by have:=hatb.len;omega
   have hinto:=a_9r hw ht hR hc (show 401<fuel by omega) b (lo+s.size) hatb fuel st [] (by omega) (by omega) (by simp;omega)
   rw [o_9 hats,List.nil_append] at hinto
   have hturn:=b_di (at_:=r) (d:=(fs.length+1:Nat)) (st:=st) (out:=out) hinto hid hdp (by omega) hf
   have hbin:inb (v_2 l) (b.top (lo+s.size):Int)=true:=a_7 (by omega) (by rw [hct.len];have:=hatb.k_6;omega)
   simp only [Tm.node,beq_self_eq_true,if_true,a_0,hturn,hcc,hbin,hct.top b _ hatb] at step0
   have htl:=a_b7 ((fs.length+1:Nat):Int) (b.c_5 (lo+s.size) (a_3 l lo+s.leaves) st) out
   simp only [f_4]
   cases hcan:b.can with
   |
    false=>
    simp only [hcan,Bool.not_false,if_true,a_0] at step0
    refine ⟨_,by unfold iter;rw [step0],?_,fun z1 z2 h=>by cases h;rfl⟩
    simp
   |
    true=>
    simp only [hcan,Bool.not_true,false_eq_true,if_false,a_28 hw ht hR (show 401<fuel by omega) hatb,if_true,a_0,a_k8 (fuel:=fuel) (a:=st) (b:=b.steps (lo+s.size)) (by omega)] at step0
    rw [next _ _ (by simp;omega)] at step0
    unfold iter
    rw [step0]
    have:=ih lo (.cat s b) (st++b.steps (lo+s.size)++[cls r]) (l_3 ((fs.length+1:Nat):Int) out (b.c_5 (lo+s.size) (a_3 l lo+s.leaves) st)) hx2 (by simp;omega) (by omega) m (by omega)
    rw [hr] at this
    rw [if_pos rfl,hr]
    exact this
  |
   star=>
   simp only [Fr.e_8,Fr.off,sub_zero] at hlo hr hg hpar step0
   subst hlo
   obtain ⟨hats,_⟩:=(At.un rfl rfl).1 hpar.at_
   have hbi:=s.t_1 lo (a_3 l lo) st
   have hbl:=s.q_3
   have hsb:s.size<=400:=by have:=hats.len;omega
   have hinto:=a_9r hw ht hR hc (show 401<fuel by omega) s lo hats fuel st [] (by omega) (by omega) (by simp;omega)
   rw [List.nil_append] at hinto
   have hturn:=b_di (at_:=r) (d:=(fs.length+1:Nat)) (st:=st) (out:=out) hinto hid hdp (by omega) hf
   simp only [Tm.node,show ((5:Int)==3)=false from rfl,beq_self_eq_true,false_eq_true,if_false,if_true,a_0,hturn] at step0
   rw [next _ _ (by omega)] at step0
   have htl:=a_b7 ((fs.length+1:Nat):Int) (s.c_5 lo (a_3 l lo) st) out
   simp only [f_4]
   unfold iter
   rw [step0]
   have:=ih lo (.star s) (st++[cls r]) (l_3 ((fs.length+1:Nat):Int) out (s.c_5 lo (a_3 l lo) st)) hx2 (by simp;omega) (by omega) m (by omega)
   rw [hr] at this
   rw [hr]
   exact this
  |
   catR a=>
   simp only [Fr.e_8,Fr.off] at hlo hr hg hpar step0
   have hps:=s.size_pos
   have hne:((a.top lo':Int)==(s.top lo:Int))=false:=by
    have:=hx.1
    have:=a.size_pos
    simp only [Fr.off] at *
    have:a.top lo'≠s.top lo:=by unfold Tm.top;omega
    simp;omega
   refine plain fs (by simp only [f_4,Fr.off,Fr.lvs,hlo,hlvs,Fr.e_8,hr]) ?_
   rw [step0]
   simp only [Tm.node,hne,beq_self_eq_true,if_true,a_0,false_eq_true,if_false]
   exact next st out (by omega)
  |
   altR a=>
   simp only [Fr.e_8,Fr.off] at hlo hr hg hpar step0
   refine plain fs (by simp only [f_4,Fr.off,Fr.lvs,hlo,hlvs,Fr.e_8,hr]) ?_
   rw [step0]
   simp only [Tm.node,a_0]
   exact next st out (by omega)
  |
   altL b | maybe | group n | iter=>
   simp only [Fr.e_8,Fr.off,sub_zero] at hlo hr hg hpar step0
   subst hlo
   refine plain fs (by subst hr;rfl) ?_
   rw [step0]
   simp only [Tm.node,a_0]
   exact next st out (by omega)
theorem b_nl (fuel:Nat) (out:List a_1) (to:Int) (hf:out.length<fuel) (hl:out.length<=1000000000):a_bc fuel out to=some (out.any fun x=>x.To==to):=by
 have key:∀ (k i:Nat),i+k=out.length->∀ m,k<m->∃ t,iter (a_at fuel out to) m (i:Int)=some t/\(match t with | .inl _=>(out.drop i).any (fun x=>x.To==to)=false | .inr r=>r=true/\(out.drop i).any (fun x=>x.To==to)=true):=by
  intro k
  induction k with
  |
   zero=>
   intro i hi m hm
   obtain ⟨m,rfl⟩:∃ q,m=q+1:=⟨m-1,by omega⟩
   refine ⟨.inl (),?_,?_⟩
   ·unfold iter a_at
    have:¬ ((i:Int)<(out.length:Int)):=by omega
    simp [this]
   ·rw [drop_of_length_le (by omega)];rfl
  |
   succ k ih=>
   intro i hi m hm
   obtain ⟨m,rfl⟩:∃ q,m=q+1:=⟨m-1,by omega⟩
   have hlt:i<out.length:=by omega
   have hin:inb out (i:Int)=true:=a_7 (by omega) (by omega)
   have hd1:(i:Int)<(out.length:Int):=by omega
   have hst:a_at fuel out to (i:Int)=if ((gt out (i:Int)).To==to)=true then some (.done (.inr true)) else some (.next ((i+1:Nat):Int)):=by
    unfold a_at
    simp only [hd1,decide_true,if_true,hin,c_3 (show i<9223372036854775807 by omega)]
   unfold iter
   rw [hst,drop_cons hlt]
   by_cases c:((gt out (i:Int)).To==to)=true
   ·rw [if_pos c]
    exact ⟨_,rfl,rfl,by simp only [any_cons,c,Bool.true_or]⟩
   ·rw [if_neg c]
    obtain ⟨t,h1,h2⟩:=ih (i+1) (by omega) m (by omega)
    refine ⟨t,h1,?_⟩
    have c':((gt out (i:Int)).To==to)=false:=by simpa using c
    cases t with
    |inl _=>simp only [any_cons,c',Bool.false_or];exact h2
    |inr r=>simp only [any_cons,c',Bool.false_or];exact h2
 obtain ⟨t,h1,h2⟩:=key out.length 0 (by omega) fuel (by omega)
 unfold a_bc
 rw [show (0:Int)=((0:Nat):Int) from rfl,h1]
 rw [List.drop_zero] at h2
 cases t with
 |inl _=>simp only [a_0];rw [h2]
 |inr r=>simp only [a_0];rw [h2.2,h2.1]
theorem b_dt {fuel:Nat} {l:List a_2} {x6:a_1} {x1 x2 x3:List Int} {x4:List Bool} {x7:Int} {x8:List Int} {x9:List a_1} {x12:Int} {x14:List a_1} {d:Int} (hd:inb x2 (gt x1 x7)=true) (hdv:gt x2 (gt x1 x7)=d) (hops:List a_1) (hhl:hops.length<=1000000) :
  ∀ (k i:Nat) (o hs:List a_1),hs.length=hops.length->hs.drop i=hops.drop i->i+k=hops.length->o.length+k<=1000000->1000001<fuel->∀ m,k<m->
   iter (o_0 fuel l x6 x1 x2 x3 x4 x7 x8 x9 x12 x14) m (o,hs,(i:Int))=some (l_3 d o (hops.drop i)):=by
 intro k
 induction k with
 |
  zero=>
  intro i o hs hl hdr hi ho hf m hm
  obtain ⟨m,rfl⟩:∃ q,m=q+1:=⟨m-1,by omega⟩
  rw [drop_of_length_le (by omega)]
  unfold iter o_0
  have:¬ ((i:Int)<(hs.length:Int)):=by omega
  simp [this,l_3]
 |
  succ k ih=>
  intro i o hs hl hdr hi ho hf m hm
  obtain ⟨m,rfl⟩:∃ q,m=q+1:=⟨m-1,by omega⟩
  have hlt:i<hops.length:=by omega
  have hin:inb hs (i:Int)=true:=a_7 (by omega) (by omega)
  have hd1:(i:Int)<(hs.length:Int):=by omega
  have hap:∀ x:a_1,a_8 40 o [x]=true:=fun x=>d_8 (by simp;omega)
  have hge:gt hs (i:Int)=gt hops (i:Int):=by
   have e1:=drop_cons (l:=hs) (i:=i) (by omega)
   have e2:=drop_cons (l:=hops) (i:=i) hlt
   rw [hdr,e2] at e1
   exact (List.cons.inj e1).1.symm
  have hdn:hs.drop (i+1)=hops.drop (i+1):=by
   have e1:=drop_cons (l:=hs) (i:=i) (by omega)
   have e2:=drop_cons (l:=hops) (i:=i) hlt
   rw [hdr,e2] at e1
   exact (List.cons.inj e1).2.symm
  have hin2:∀ y:a_1,inb (hs.set i y) (i:Int)=true:=fun y=>a_7 (by omega) (by simp;omega)
  have hse:∀ y:a_1,gt (hs.set i y) (i:Int)=y:=fun y=>a_bn (by omega)
  have hds:∀ y:a_1,(hs.set i y).drop (i+1)=hops.drop (i+1):=fun y=>by rw [List.drop_set_of_lt (by omega),hdn]
  have he:o_0 fuel l x6 x1 x2 x3 x4 x7 x8 x9 x12 x14 (o,hs,(i:Int))=if o.any (fun x=>x.To==(gt hops (i:Int)).To) then some (.next (o,hs,((i+1:Nat):Int))) else some (.next (o++[⟨(gt hops (i:Int)).To,d,(gt hops (i:Int)).Steps⟩],hs.set i ⟨(gt hops (i:Int)).To,d,(gt hops (i:Int)).Steps⟩,((i+1:Nat):Int))):=by
   unfold o_0
   simp only [hd1,decide_true,if_true,hin,hge,b_nl fuel o (gt hops (i:Int)).To (by omega) (by omega),a_0,hd,hdv,Int.toNat_natCast,hin2,hse,hap,c_3 (show i<9223372036854775807 by omega)]
   cases o.any (fun x=>x.To==(gt hops (i:Int)).To)<;>simp
  have hst:∃ hs',hs'.length=hops.length/\hs'.drop (i+1)=hops.drop (i+1)/\o_0 fuel l x6 x1 x2 x3 x4 x7 x8 x9 x12 x14 (o,hs,(i:Int))=some (.next ((if o.any (fun x=>x.To==(gt hops (i:Int)).To) then o else o++[⟨(gt hops (i:Int)).To,d,(gt hops (i:Int)).Steps⟩]),hs',((i+1:Nat):Int))):=by
   rw [he]
   cases o.any (fun x=>x.To==(gt hops (i:Int)).To) with
   |true=>exact ⟨hs,hl,hdn,rfl⟩
   |false=>exact ⟨hs.set i ⟨(gt hops (i:Int)).To,d,(gt hops (i:Int)).Steps⟩,by simpa using hl,hds _,rfl⟩
  obtain ⟨hs',p1,p2,p3⟩:=hst
  unfold iter
  rw [p3,drop_cons hlt]
  simp only [l_3]
  refine ih (i+1) _ hs' p1 p2 (by omega) ?_ hf m (by omega)
  split
  ·omega
  ·simp only [length_append,length_cons,length_nil];omega
theorem b_nv {l:List a_2} {t:Tm} (ht:IsT l t) (hR:c_0 l=true) {u d:List Int} (hu:UpT u t) (hd:a_ha d t) {fuel:Nat} (hf:1000001<fuel) (x5:List Int) (p1:Int) (x6:a_1) :
  ∀ (fs:List Fr) (lo:Nat) (s:Tm) (st:List Int) (out:List a_1),Ctx t lo s fs->st.length+1000*fs.length<=500000->out.length+1000*fs.length<=500000->∀ m,fs.length<m->
   ∃ r,iter (l_7 fuel l u d (q_8 l l.length) (v_2 l) x5 p1) m (x6,(s.top lo:Int),st,out)=some r/\
    (match r with | .inl (_,y2,y3)=>(y3,y2,true) | .inr (z1,_,_)=>(z1,[],false))=f_4 lo (a_3 l lo) s st out fs/\(∀ z1 z2 z3,r=.inr (z1,z2,z3)->z2=⟨0,0,[]⟩/\z3=false):=by
 have h400:=ht.le;have hlen0:=ht.len
 have hct:=canT hR
 intro fs
 induction fs with
 |
  nil=>
  intro lo s st out hx h1 h2 m hm
  obtain ⟨m,rfl⟩:∃ q,m=q+1:=⟨m-1,by omega⟩
  refine ⟨.inl (x6,st,out),?_,rfl,fun _ _ _ h=>by cases h⟩
  have hpart:=hx.part ht hu hd
  have hiu:inb u (s.top lo:Int)=true:=a_7 (by omega) (by rw [hu.len];have:=hpart.at_.k_6;omega)
  have hroot:=hx.root hu
  have e:l_7 fuel l u d (q_8 l l.length) (v_2 l) x5 p1 (x6,(s.top lo:Int),st,out)=some (.done (.inl (x6,st,out))):=by
   unfold l_7
   simp [hiu,hroot]
  unfold iter
  rw [e]
 |
  cons f fs ih=>
  intro lo s st out hx h1 h2 m hm
  obtain ⟨m,rfl⟩:∃ q,m=q+1:=⟨m-1,by omega⟩
  have hpart:=hx.part ht hu hd
  have hpar:=hx.2.part ht hu hd
  have hedge:=hx.edge ht hu hd
  have hx2:=hx.2
  have hlvs:=a_x5 ht hu hd hx
  have hsz:=hx.size
  simp only [length_cons] at h1 h2 hm hsz
  have hiq:inb u (s.top lo:Int)=true:=a_7 (by omega) (by rw [hu.len];have:=hpart.at_.k_6;omega)
  have htop:=hpar.at_.k_6
  have hg:=hpar.at_.f_6
  have hdp:=hpar.deep.top
  generalize hlo:lo-f.off=lo' at *
  generalize hr:(f.e_8 s).top lo'=r at *
  have hin:inb l (r:Int)=true:=a_7 (by omega) (by omega)
  have hid:inb d (r:Int)=true:=a_7 (by omega) (by rw [hd.len];omega)
  have hr0:(r:Int)>=0:=by omega
  have hcls:W (W (2*(r:Int))+1)=cls r:=by rw [s_0 (by omega),a_cm (by omega)]
  have put1:∀ st':List Int,st'.length<=st.length+900->m_3 fuel st' [W (W (2*(r:Int))+1)]=some (st'++[cls r]):=fun st' hs=>by
   rw [hcls,a_ps (fuel:=fuel) (a:=st') (b:=[cls r]) (by simp;omega)]
  have plain:f_4 lo (a_3 l lo) s st out (f :: fs)=f_4 lo' (a_3 l lo') (f.e_8 s) (st++[cls r]) out fs->l_7 fuel l u d (q_8 l l.length) (v_2 l) x5 p1 (x6,(s.top lo:Int),st,out)=some (.next (x6,(r:Int),st++[cls r],out))->
    ∃ r',iter (l_7 fuel l u d (q_8 l l.length) (v_2 l) x5 p1) (m+1) (x6,(s.top lo:Int),st,out)=some r'/\(match r' with | .inl (_,y2,y3)=>(y3,y2,true) | .inr (z1,_,_)=>(z1,[],false))=f_4 lo (a_3 l lo) s st out (f :: fs)/\(∀ z1 z2 z3,r'=.inr (z1,z2,z3)->z2=⟨0,0,[]⟩/\z3=false):=fun e1 e2=>by
   unfold iter
   rw [e1,e2]
   have:=ih lo' (f.e_8 s) (st++[cls r]) out hx2 (by simp;omega) (by omega) m (by omega)
   rw [hr] at this
   exact this
  have step0:l_7 fuel l u d (q_8 l l.length) (v_2 l) x5 p1 (x6,(s.top lo:Int),st,out)=l_7 fuel l u d (q_8 l l.length) (v_2 l) x5 p1 (x6,(s.top lo:Int),st,out):=rfl
  conv at step0=>rhs;unfold l_7
  simp only [hiq,hedge,hr0,decide_true,if_true,hin,hg] at step0
  cases f with
  |
   catL b=>
   simp only [Fr.e_8,Fr.off,sub_zero] at hlo hr hg hpar step0
   subst hlo
   obtain ⟨hats,hatb,_⟩:=(At.bin rfl rfl).1 hpar.at_
   have hbi:=b.t_1 (lo+s.size) (a_3 l lo+s.leaves) st
   have hbl:=b.q_3;have hbs:=b.n_8 (lo+s.size)
   have hsb:b.size<=400:=by have:=hatb.len;omega
   have hinto:=b_aa ht hR (show 401<fuel by omega) b (lo+s.size) hatb fuel st (by omega) (by omega)
   rw [o_9 hats] at hinto
   have hturn:∀ x14,iter (o_0 fuel l x6 u d (q_8 l l.length) (v_2 l) (s.top lo:Int) st out (b.top (lo+s.size):Int) x14) fuel (out,b.c_5 (lo+s.size) (a_3 l lo+s.leaves) st,0)=some (l_3 ((fs.length+1:Nat):Int) out (b.c_5 (lo+s.size) (a_3 l lo+s.leaves) st)):=fun x14=>by
    have:=b_dt (fuel:=fuel) (l:=l) (x6:=x6) (x1:=u) (x2:=d) (x3:=q_8 l l.length) (x4:=v_2 l) (x7:=(s.top lo:Int)) (x8:=st) (x9:=out) (x12:=(b.top (lo+s.size):Int)) (x14:=x14) (d:=((fs.length+1:Nat):Int)) (by rw [hedge];exact hid) (by rw [hedge];exact hdp) (b.c_5 (lo+s.size) (a_3 l lo+s.leaves) st) (by omega) (b.c_5 (lo+s.size) (a_3 l lo+s.leaves) st).length 0 out (b.c_5 (lo+s.size) (a_3 l lo+s.leaves) st) rfl rfl (by omega) (by omega) hf fuel (by omega)
    simpa using this
   have hbin:inb (v_2 l) (b.top (lo+s.size):Int)=true:=a_7 (by omega) (by rw [hct.len];have:=hatb.k_6;omega)
   have hb0:(b.top (lo+s.size):Int)>=0:=by omega
   simp only [Tm.node,beq_self_eq_true,if_true,a_0,show ((3:Int)==5)=false from rfl,false_eq_true,if_false,hb0,decide_true,hinto,hturn,hbin,hct.top b _ hatb] at step0
   have htl:=a_b7 ((fs.length+1:Nat):Int) (b.c_5 (lo+s.size) (a_3 l lo+s.leaves) st) out
   simp only [f_4]
   cases hcan:b.can with
   |
    false=>
    simp only [hcan,Bool.not_false,if_true,a_0] at step0
    refine ⟨_,by unfold iter;rw [step0],?_,fun z1 z2 z3 h=>by cases h;exact ⟨rfl,rfl⟩⟩
    simp
   |
    true=>
    simp only [hcan,Bool.not_true,false_eq_true,if_false,r_Of hct (by omega) fuel b _ hatb fuel (by omega),a_0,a_ps (fuel:=fuel) (a:=st) (b:=b.steps (lo+s.size)) (by omega)] at step0
    rw [put1 _ (by simp;omega)] at step0
    unfold iter
    rw [step0]
    have:=ih lo (.cat s b) (st++b.steps (lo+s.size)++[cls r]) (l_3 ((fs.length+1:Nat):Int) out (b.c_5 (lo+s.size) (a_3 l lo+s.leaves) st)) hx2 (by simp;omega) (by omega) m (by omega)
    rw [hr] at this
    rw [if_pos rfl,hr]
    exact this
  |
   star=>
   simp only [Fr.e_8,Fr.off,sub_zero] at hlo hr hg hpar step0
   subst hlo
   obtain ⟨hats,_⟩:=(At.un rfl rfl).1 hpar.at_
   have hbi:=s.t_1 lo (a_3 l lo) st
   have hbl:=s.q_3
   have hsb:s.size<=400:=by have:=hats.len;omega
   have hinto:=b_aa ht hR (show 401<fuel by omega) s lo hats fuel st (by omega) (by omega)
   have hturn:∀ x14,iter (o_0 fuel l x6 u d (q_8 l l.length) (v_2 l) (s.top lo:Int) st out (s.top lo:Int) x14) fuel (out,s.c_5 lo (a_3 l lo) st,0)=some (l_3 ((fs.length+1:Nat):Int) out (s.c_5 lo (a_3 l lo) st)):=fun x14=>by
    have:=b_dt (fuel:=fuel) (l:=l) (x6:=x6) (x1:=u) (x2:=d) (x3:=q_8 l l.length) (x4:=v_2 l) (x7:=(s.top lo:Int)) (x8:=st) (x9:=out) (x12:=(s.top lo:Int)) (x14:=x14) (d:=((fs.length+1:Nat):Int)) (by rw [hedge];exact hid) (by rw [hedge];exact hdp) (s.c_5 lo (a_3 l lo) st) (by omega) (s.c_5 lo (a_3 l lo) st).length 0 out (s.c_5 lo (a_3 l lo) st) rfl rfl (by omega) (by omega) hf fuel (by omega)
    simpa using this
   have hb0:(s.top lo:Int)>=0:=by omega
   simp only [Tm.node,show ((5:Int)==3)=false from rfl,beq_self_eq_true,false_eq_true,if_false,if_true,a_0,hb0,decide_true,hinto,hturn] at step0
   rw [put1 _ (by omega)] at step0
   have htl:=a_b7 ((fs.length+1:Nat):Int) (s.c_5 lo (a_3 l lo) st) out
   simp only [f_4]
   unfold iter
   rw [step0]
   have:=ih lo (.star s) (st++[cls r]) (l_3 ((fs.length+1:Nat):Int) out (s.c_5 lo (a_3 l lo) st)) hx2 (by simp;omega) (by omega) m (by omega)
   rw [hr] at this
   rw [hr]
   exact this
  |
   catR a=>
   simp only [Fr.e_8,Fr.off] at hlo hr hg hpar step0
   have hps:=s.size_pos
   have hne:((a.top lo':Int)==(s.top lo:Int))=false:=by
    have:=hx.1
    have:=a.size_pos
    simp only [Fr.off] at *
    have:a.top lo'≠s.top lo:=by unfold Tm.top;omega
    simp;omega
   refine plain (by simp only [f_4,Fr.off,Fr.lvs,hlo,hlvs,Fr.e_8,hr]) ?_
   rw [step0]
   simp only [Tm.node,hne,beq_self_eq_true,if_true,a_0,false_eq_true,if_false,show ((3:Int)==5)=false from rfl]
   simp [put1 st (by omega)]
  |
   altR a=>
   simp only [Fr.e_8,Fr.off] at hlo hr hg hpar step0
   refine plain (by simp only [f_4,Fr.off,Fr.lvs,hlo,hlvs,Fr.e_8,hr]) ?_
   rw [step0]
   simp only [Tm.node,a_0]
   simp [put1 st (by omega)]
  |
   altL b | maybe | group n | iter=>
   simp only [Fr.e_8,Fr.off,sub_zero] at hlo hr hg hpar step0
   subst hlo
   refine plain (by subst hr;rfl) ?_
   rw [step0]
   simp only [Tm.node,a_0]
   simp [put1 st (by omega)]
