/- P. Its conditions: none. -/
import Derived.Test.YtmhooikfkhjijaaGreatYG41
open List (length_append length_nil length_cons drop_of_length_le any_cons)
open Nat (add_sub_cancel sub_zero)
open Bool (false_eq_true)
set_option linter.all false
namespace Go.Proofs.YtmhooikfkhjijaaGreat.Old
open Go.V Go.RowKit
def Tm.b0r (lo p:Nat)(ahead:List Int):Tm->List E1
 |.eps=>[]
 |.leaf _=>[⟨(p:Int),0,ahead++[n3 lo]⟩]
 |.cat a b=>a.b0r lo p (ahead++[n3 (Tm.top (.cat a b) lo)])++(if a.can then b.b0r (lo+a.size) (p+a.leaves) (ahead++[n3 (Tm.top (.cat a b) lo)]++a.steps lo)else[])
 |.alt a b=>a.b0r lo p (ahead++[n3 (Tm.top (.alt a b) lo)])++b.b0r (lo+a.size) (p+a.leaves) (ahead++[n3 (Tm.top (.alt a b) lo)])
 |.star a=>a.b0r lo p (ahead++[n3 (Tm.top (.star a) lo)])
 |.maybe a=>a.b0r lo p (ahead++[n3 (Tm.top (.maybe a) lo)])
 |.group n a=>a.b0r lo p (ahead++[n3 (Tm.top (.group n a) lo)])
 |.iter a=>a.b0r lo p (ahead++[n3 (Tm.top (.iter a) lo)])
def Tm.D0l (t:Tm):∀lo p ahead,(t.b0r lo p ahead).length<=t.leaves:=by
 induction t with
 |eps=>intro lo p ahead;simp[Tm.b0r]
 |leaf s=>intro lo p ahead;simp[Tm.b0r,Tm.leaves]
 |
  cat a b iha ihb=>
  intro lo p ahead;have:=iha lo p (ahead++[n3 (Tm.top (.cat a b) lo)]);have:=ihb (lo+a.size) (p+a.leaves) (ahead++[n3 (Tm.top (.cat a b) lo)]++a.steps lo);simp only[Tm.b0r,Tm.leaves];split<;>simp only[length_append,length_nil]<;>omega
 |
  alt a b iha ihb=>
  intro lo p ahead;have:=iha lo p (ahead++[n3 (Tm.top (.alt a b) lo)]);have:=ihb (lo+a.size) (p+a.leaves) (ahead++[n3 (Tm.top (.alt a b) lo)]);simp only[Tm.b0r,Tm.leaves,length_append];omega
 |star a iha|maybe a iha|group _ a iha|iter a iha=>intro lo p ahead;exact iha _ _ _
def D0o {l:List U0}:∀{s:Tm} {lo:Nat},At l lo s->u5 l (lo+s.size)=u5 l lo+s.leaves:=by
 intro s
 induction s with
 |eps=>intro lo h;have hg:=h.A0h;simp only[Tm.top,Tm.size,add_sub_cancel]at hg;simp[Tm.size,u5,hg,Tm.node,Tm.leaves]
 |leaf s=>intro lo h;have hg:=h.A0h;simp only[Tm.top,Tm.size,add_sub_cancel]at hg;simp[Tm.size,u5,hg,Tm.node,Tm.leaves]
 |
  cat a b iha ihb|alt a b iha ihb=>
  intro lo h;have hg:=h.A0h;obtain⟨ha,hb,_⟩:=(At.bin rfl rfl).1 h;simp only[Tm.top,Tm.size]at hg;have e:lo+(a.size+b.size+1)-1=lo+a.size+b.size:=by omega
  rw[e]at hg;simp only[Tm.size,<-Nat.add_assoc,u5,hg,Tm.node,Tm.leaves,ihb hb,iha ha];simp
 |
  star a iha|maybe a iha|group _ a iha|iter a iha=>
  intro lo h;have hg:=h.A0h;obtain⟨ha,_⟩:=(At.un rfl rfl).1 h;simp only[Tm.top,Tm.size]at hg;have e:lo+(a.size+1)-1=lo+a.size:=by omega
  rw[e]at hg;simp only[Tm.size,<-Nat.add_assoc,u5,hg,Tm.node,Tm.leaves,iha ha];simp
def E0w {fuel:Nat}{a b:List Int}(h:(a.length+b.length)*8<=140737488355328):d0i fuel a b=some (a++b):=by
 have hs:C3 a 0 (a.length:Int)=true:=by simp[C3]
 have hc:L1 a 0 (a.length:Int)=a:=by simp[L1]
 have ha:C1 8 a b=true:=a7 h;unfold d0i;simp[hs,hc,ha]
def E0J {fuel:Nat}{a b:List Int}(h:(a.length+b.length)*8<=140737488355328):C02 fuel a b=some (a++b):=by
 have h1:C1 8 ([]:List Int) a=true:=a7 (by simp;omega);have h2:C1 8 a b=true:=a7 h;unfold C02;simp[h1,h2]
structure H0s (c:B5)(l:List U0)(t:Tm):Prop where
 tl:c.l=l
 up:UpT c.up t
 deep:D0y c.deep t
 index:c.index=B00 l l.length
 can:c.can=C0c l
def O0y {l:List U0}{lo:Nat}{s:List Int}(h:At l lo (.leaf s)):y0 (B00 l l.length) (lo:Int)=true/\gt (B00 l l.length) (lo:Int)=(u5 l lo:Int):=by
 have hlen:=h.len;have hg:=h.A0h;simp only[Tm.top,Tm.size,add_sub_cancel]at hg hlen;refine⟨B4 (by omega) (by rw[E0H];omega),?_⟩;rw[Y5 (J0Q l l.length lo (by omega)),hg];simp[Tm.node]
def L0K {l:List U0}(hw:∀x∈l,l02 x){t:Tm}(ht:n4 l t)(hR:e0M l=true){c:B5}(hc:H0s c l t){fuel:Nat}(hf:401<fuel):
  ∀(s:Tm) (lo:Nat),At l lo s->∀(k:Nat) (ahead:List Int) (out:List E1),s.size<=k->ahead.length+1000*s.size<=1000000000->out.length+s.size<=1000000000->
   F9 fuel k c (s.top lo:Int) ahead out=some (out++s.b0r lo (u5 l lo) ahead):=by
 have h400:=ht.le;have hlen0:=ht.len;have hcl:=hc.tl;have hci:=hc.index;have hcc:=hc.can;have hct:=G0b hR;intro s
 induction s with
 |
  eps=>
  intro lo h k ahead out hk ho ho2;obtain⟨k,rfl⟩:∃q,k=q+1:=⟨k-1,by simp[Tm.size]at hk;omega⟩
  have htop:=h.C0a;have hg:=h.A0h;simp only[Tm.size]at ho ho2;generalize Tm.top _ lo=r at *;have hin:y0 l (r:Int)=true:=B4 (by omega) (by omega);unfold F9;simp only[hcl,hin,if_true,C0A (show r<=1000000000 by omega),E0w (fuel:=fuel) (a:=ahead) (b:=[n3 r]) (by simp;omega),F1,hg,Tm.node];simp[Tm.b0r]
 |
  leaf s=>
  intro lo h k ahead out hk ho ho2;obtain⟨k,rfl⟩:∃q,k=q+1:=⟨k-1,by simp[Tm.size]at hk;omega⟩
  have htop:=h.C0a;have hg:=h.A0h;obtain⟨i1,i2⟩:=O0y h;simp only[Tm.size]at ho ho2;simp only[Tm.top,Tm.size,add_sub_cancel]at hg htop ⊢;have hin:y0 l (lo:Int)=true:=B4 (by omega) (by omega);have hap:∀x:E1,C1 40 out [x]=true:=fun x=>a7 (by simp;omega);unfold F9;simp only[hcl,hin,if_true,C0A (show lo<=1000000000 by omega),E0w (fuel:=fuel) (a:=ahead) (b:=[n3 lo]) (by simp;omega),F1,hg,Tm.node,hci,i1,i2,hap];simp[Tm.b0r]
 |
  cat a b iha ihb=>
  intro lo h k ahead out hk ho ho2;obtain⟨k,rfl⟩:∃q,k=q+1:=⟨k-1,by simp[Tm.size]at hk;omega⟩
  have htop:=h.C0a;have hlen:=h.len;have hg:=h.A0h;obtain⟨ha,hb,_⟩:=(At.bin rfl rfl).1 h;have sa:=a.C0W lo;have la:=a.D0l lo (u5 l lo) (ahead++[n3 (Tm.top (.cat a b) lo)]);have lla:=a.D0m;simp only[Tm.b0r];simp only[Tm.size]at hlen ho ho2 hk;generalize Tm.top (.cat a b) lo=r at *;have hin:y0 l (r:Int)=true:=B4 (by omega) (by omega);have hia:y0 (C0c l) (a.top lo:Int)=true:=B4 (by omega) (by rw[hct.len];have:=ha.C0a;omega);have e1:=iha lo ha k (ahead++[n3 r]) out (by omega) (by simp;omega) (by omega);have e2:=ihb (lo+a.size) hb k (ahead++[n3 r]++a.steps lo) (out++a.b0r lo (u5 l lo) (ahead++[n3 r])) (by omega) (by simp;omega) (by simp;omega);rw[D0o ha]at e2;unfold F9;simp only[hcl,hin,if_true,C0A (show r<=1000000000 by omega),E0w (fuel:=fuel) (a:=ahead) (b:=[n3 r]) (by simp;omega),F1,hg,Tm.node,e1,hcc,hia,hct.top a lo ha];rw[show((3:Int)==2)=false from rfl,show((3:Int)==3)=true from rfl];cases hcan:a.can
  ·simp
  ·simp only[false_eq_true,if_false,if_true,K0S hw ht hR hf ha,hcan,F1,E0w (fuel:=fuel) (a:=ahead++[n3 r]) (b:=a.steps lo) (by simp;omega),e2];simp
 |
  alt a b iha ihb=>
  intro lo h k ahead out hk ho ho2;obtain⟨k,rfl⟩:∃q,k=q+1:=⟨k-1,by simp[Tm.size]at hk;omega⟩
  have htop:=h.C0a;have hlen:=h.len;have hg:=h.A0h;obtain⟨ha,hb,_⟩:=(At.bin rfl rfl).1 h;have la:=a.D0l lo (u5 l lo) (ahead++[n3 (Tm.top (.alt a b) lo)]);have lla:=a.D0m;simp only[Tm.b0r];simp only[Tm.size]at hlen ho ho2 hk;generalize Tm.top (.alt a b) lo=r at *;have hin:y0 l (r:Int)=true:=B4 (by omega) (by omega);have e1:=iha lo ha k (ahead++[n3 r]) out (by omega) (by simp;omega) (by omega);have e2:=ihb (lo+a.size) hb k (ahead++[n3 r]) (out++a.b0r lo (u5 l lo) (ahead++[n3 r])) (by omega) (by simp;omega) (by simp;omega);rw[D0o ha]at e2;unfold F9;simp only[hcl,hin,if_true,C0A (show r<=1000000000 by omega),E0w (fuel:=fuel) (a:=ahead) (b:=[n3 r]) (by simp;omega),F1,hg,Tm.node,e1,e2];simp
 |
  star a iha|maybe a iha|group _ a iha|iter a iha=>
  intro lo h k ahead out hk ho ho2;obtain⟨k,rfl⟩:∃q,k=q+1:=⟨k-1,by simp[Tm.size]at hk;omega⟩
  have htop:=h.C0a;have hlen:=h.len;have hg:=h.A0h;obtain⟨ha,_⟩:=(At.un rfl rfl).1 h;simp only[Tm.b0r];simp only[Tm.size]at hlen ho ho2 hk;generalize Tm.top _ lo=r at *;have hin:y0 l (r:Int)=true:=B4 (by omega) (by omega);have e1:=iha lo ha k (ahead++[n3 r]) out (by omega) (by simp;omega) (by omega);unfold F9;simp only[hcl,hin,if_true,C0A (show r<=1000000000 by omega),E0w (fuel:=fuel) (a:=ahead) (b:=[n3 r]) (by simp;omega),F1,hg,Tm.node,e1];simp
def J0T {l:List U0}{t:Tm}(ht:n4 l t)(hR:e0M l=true){fuel:Nat}(hf:401<fuel):
  ∀(s:Tm) (lo:Nat),At l lo s->∀(k:Nat) (ahead:List Int),s.size<=k->ahead.length+1000*s.size<=1000000000->
   C0h fuel k l (B00 l l.length) (C0c l) (s.top lo:Int) ahead=some (s.b0r lo (u5 l lo) ahead):=by
 have h400:=ht.le;have hlen0:=ht.len;have hct:=G0b hR;intro s
 induction s with
 |
  eps=>
  intro lo h k ahead hk ho;obtain⟨k,rfl⟩:∃q,k=q+1:=⟨k-1,by simp[Tm.size]at hk;omega⟩
  have htop:=h.C0a;have hg:=h.A0h;simp only[Tm.size]at ho;generalize Tm.top _ lo=r at *;have hin:y0 l (r:Int)=true:=B4 (by omega) (by omega);unfold C0h;simp only[hin,if_true,C0A (show r<=1000000000 by omega),E0J (fuel:=fuel) (a:=ahead) (b:=[n3 r]) (by simp;omega),F1,hg,Tm.node];simp[Tm.b0r]
 |
  leaf s=>
  intro lo h k ahead hk ho;obtain⟨k,rfl⟩:∃q,k=q+1:=⟨k-1,by simp[Tm.size]at hk;omega⟩
  have htop:=h.C0a;have hg:=h.A0h;obtain⟨i1,i2⟩:=O0y h;simp only[Tm.size]at ho;simp only[Tm.top,Tm.size,add_sub_cancel]at hg htop ⊢;have hin:y0 l (lo:Int)=true:=B4 (by omega) (by omega);unfold C0h;simp only[hin,if_true,C0A (show lo<=1000000000 by omega),E0J (fuel:=fuel) (a:=ahead) (b:=[n3 lo]) (by simp;omega),F1,hg,Tm.node,i1,i2];simp[Tm.b0r]
 |
  cat a b iha ihb=>
  intro lo h k ahead hk ho;obtain⟨k,rfl⟩:∃q,k=q+1:=⟨k-1,by simp[Tm.size]at hk;omega⟩
  have htop:=h.C0a;have hlen:=h.len;have hg:=h.A0h;obtain⟨ha,hb,_⟩:=(At.bin rfl rfl).1 h;have sa:=a.C0W lo;have la:=a.D0l lo (u5 l lo) (ahead++[n3 (Tm.top (.cat a b) lo)]);have lla:=a.D0m;have lb:=b.D0l (lo+a.size) (u5 l lo+a.leaves) (ahead++[n3 (Tm.top (.cat a b) lo)]++a.steps lo);have llb:=b.D0m;simp only[Tm.b0r];simp only[Tm.size]at hlen ho hk;generalize Tm.top (.cat a b) lo=r at *;have hin:y0 l (r:Int)=true:=B4 (by omega) (by omega);have hia:y0 (C0c l) (a.top lo:Int)=true:=B4 (by omega) (by rw[hct.len];have:=ha.C0a;omega);have e1:=iha lo ha k (ahead++[n3 r]) (by omega) (by simp;omega);have e2:=ihb (lo+a.size) hb k (ahead++[n3 r]++a.steps lo) (by omega) (by simp;omega);rw[D0o ha]at e2;unfold C0h;simp only[hin,if_true,C0A (show r<=1000000000 by omega),E0J (fuel:=fuel) (a:=ahead) (b:=[n3 r]) (by simp;omega),F1,hg,Tm.node,e1,hia,hct.top a lo ha];rw[show((3:Int)==2)=false from rfl,show((3:Int)==3)=true from rfl];cases hcan:a.can
  ·simp
  ·have hap:C1 40 (a.b0r lo (u5 l lo) (ahead++[n3 r])) (b.b0r (lo+a.size) (u5 l lo+a.leaves) (ahead++[n3 r]++a.steps lo))=true:=a7 (by omega);simp only[false_eq_true,if_false,if_true,K0R hct (by omega) fuel a lo ha fuel (by omega),F1,E0J (fuel:=fuel) (a:=ahead++[n3 r]) (b:=a.steps lo) (by simp;omega),e2,hap]
 |
  alt a b iha ihb=>
  intro lo h k ahead hk ho;obtain⟨k,rfl⟩:∃q,k=q+1:=⟨k-1,by simp[Tm.size]at hk;omega⟩
  have htop:=h.C0a;have hlen:=h.len;have hg:=h.A0h;obtain⟨ha,hb,_⟩:=(At.bin rfl rfl).1 h;have la:=a.D0l lo (u5 l lo) (ahead++[n3 (Tm.top (.alt a b) lo)]);have lla:=a.D0m;have lb:=b.D0l (lo+a.size) (u5 l lo+a.leaves) (ahead++[n3 (Tm.top (.alt a b) lo)]);have llb:=b.D0m;simp only[Tm.b0r];simp only[Tm.size]at hlen ho hk;generalize Tm.top (.alt a b) lo=r at *;have hin:y0 l (r:Int)=true:=B4 (by omega) (by omega);have e1:=iha lo ha k (ahead++[n3 r]) (by omega) (by simp;omega);have e2:=ihb (lo+a.size) hb k (ahead++[n3 r]) (by omega) (by simp;omega);rw[D0o ha]at e2;have hap:C1 40 (a.b0r lo (u5 l lo) (ahead++[n3 r])) (b.b0r (lo+a.size) (u5 l lo+a.leaves) (ahead++[n3 r]))=true:=a7 (by omega);unfold C0h;simp only[hin,if_true,C0A (show r<=1000000000 by omega),E0J (fuel:=fuel) (a:=ahead) (b:=[n3 r]) (by simp;omega),F1,hg,Tm.node,e1,e2,hap];simp
 |
  star a iha|maybe a iha|group _ a iha|iter a iha=>
  intro lo h k ahead hk ho;obtain⟨k,rfl⟩:∃q,k=q+1:=⟨k-1,by simp[Tm.size]at hk;omega⟩
  have htop:=h.C0a;have hlen:=h.len;have hg:=h.A0h;obtain⟨ha,_⟩:=(At.un rfl rfl).1 h;simp only[Tm.b0r];simp only[Tm.size]at hlen ho hk;generalize Tm.top _ lo=r at *;have hin:y0 l (r:Int)=true:=B4 (by omega) (by omega);have e1:=iha lo ha k (ahead++[n3 r]) (by omega) (by simp;omega);unfold C0h;simp only[hin,if_true,C0A (show r<=1000000000 by omega),E0J (fuel:=fuel) (a:=ahead) (b:=[n3 r]) (by simp;omega),F1,hg,Tm.node,e1];simp
inductive Fr where
 |catL (b:Tm)|catR (a:Tm)|altL (b:Tm)|altR (a:Tm)|star|maybe|group (n:Int)|iter
def Fr.e09 (s:Tm):Fr->Tm
 |.catL b=>.cat s b|.catR a=>.cat a s|.altL b=>.alt s b|.altR a=>.alt a s
 |.star=>.star s|.maybe=>.maybe s|.group n=>.group n s|.iter=>.iter s
def Fr.off:Fr->Nat
 |.catR a=>a.size|.altR a=>a.size|_=>0
def Fr.lvs:Fr->Nat
 |.catR a=>a.leaves|.altR a=>a.leaves|_=>0
def Ctx (t:Tm):Nat->Tm->List Fr->Prop
 |lo,s,[]=>lo=0/\s=t
 |lo,s,f :: fs=>f.off<=lo/\Ctx t (lo-f.off) (f.e09 s) fs
def Ctx.size {t:Tm}:∀{fs:List Fr} {lo:Nat} {s:Tm},Ctx t lo s fs->fs.length+s.size<=t.size
 |[],lo,s,⟨_,h⟩=>by subst h;simp
 |
  f :: fs,lo,s,⟨_,h⟩=>by
  have:=Ctx.size h;cases f<;>simp[Fr.e09,Tm.size]at this ⊢<;>omega
structure Part (l:List U0)(u d:List Int)(lo:Nat)(s:Tm)(k:Nat):Prop where
 at_:At l lo s
 up:C0X u lo s
 deep:C0U d lo k s
def Ctx.part {l:List U0}{t:Tm}{u d:List Int}(ht:n4 l t)(hu:UpT u t)(hd:D0y d t):∀{fs:List Fr} {lo:Nat} {s:Tm},Ctx t lo s fs->Part l u d lo s (fs.length+1)
 |[],lo,s,⟨h1,h2⟩=>by subst h1;subst h2;exact⟨ht.at0,hu.inner,hd.deep⟩
 |
  f :: fs,lo,s,⟨ho,h⟩=>by
  obtain⟨h1,h2,h3⟩:=Ctx.part ht hu hd h;cases f<;>simp only[Fr.e09,Fr.off,sub_zero]at h1 h2 h3 ho
  case catL b=>exact⟨((At.bin rfl rfl).1 h1).1,h2.2.2.1,h3.2.1⟩
  case altL b=>exact⟨((At.bin rfl rfl).1 h1).1,h2.2.2.1,h3.2.1⟩
  case catR a=>
   have e:lo-a.size+a.size=lo:=by omega
   have:=((At.bin rfl rfl).1 h1).2.1;have g2:=h2.2.2.2;have g3:=h3.2.2;rw[e]at this g2 g3;exact⟨this,g2,g3⟩
  case altR a=>
   have e:lo-a.size+a.size=lo:=by omega
   have:=((At.bin rfl rfl).1 h1).2.1;have g2:=h2.2.2.2;have g3:=h3.2.2;rw[e]at this g2 g3;exact⟨this,g2,g3⟩
  all_goals exact⟨((At.un rfl rfl).1 h1).1,h2.2,h3.2⟩
def Ctx.K0w {l:List U0}{t:Tm}{u d:List Int}(ht:n4 l t)(hu:UpT u t)(hd:D0y d t){f:Fr}{fs:List Fr}{lo:Nat}{s:Tm}(h:Ctx t lo s (f :: fs)):
  gt u (s.top lo:Int)=((f.e09 s).top (lo-f.off):Int):=by
 obtain⟨ho,h⟩:=h;obtain⟨h1,h2,h3⟩:=Ctx.part ht hu hd h;cases f<;>simp only[Fr.e09,Fr.off,sub_zero]at h1 h2 h3 ho ⊢
 case catL b=>exact h2.1
 case altL b=>exact h2.1
 case catR a=>
  have e:lo-a.size+a.size=lo:=by omega
  have:=h2.2.1
  rwa [e]at this
 case altR a=>
  have e:lo-a.size+a.size=lo:=by omega
  have:=h2.2.1
  rwa [e]at this
 all_goals exact h2.1
def Ctx.root {t:Tm}{u:List Int}(hu:UpT u t){lo:Nat}{s:Tm}(h:Ctx t lo s []):gt u (s.top lo:Int)=-1:=by
 obtain⟨rfl,rfl⟩:=h;exact hu.root
def C0i (d:Int):List E1->List E1->List E1
 |out,[]=>out
 |out,h :: r=>C0i d (if out.any (fun x=>x.To==h.To)then out else out++[⟨h.To,d,h.Steps⟩]) r
def E0D (d:Int):∀(r out:List E1),(C0i d out r).length<=out.length+r.length
 |[],out=>by simp[C0i]
 |
  h :: r,out=>by
  simp only[C0i,length_cons];cases out.any (fun x=>x.To==h.To)with
  |true=>have:=E0D d r out;simp only[if_true];omega
  |false=>have:=E0D d r (out++[⟨h.To,d,h.Steps⟩]);simp only[false_eq_true,if_false];simp only[length_append,length_cons,length_nil]at this;omega
def A0c (lo p:Nat)(s:Tm)(st:List Int)(out:List E1):List Fr->List E1×List Int×Bool
 |[]=>(out,st,true)
 |
  .catL b :: fs=>
  if b.can then A0c lo p (.cat s b) (st++b.steps (lo+s.size)++[cls (Tm.top (.cat s b) lo)]) (C0i (fs.length+1:Nat) out (b.b0r (lo+s.size) (p+s.leaves) st)) fs
  else(C0i (fs.length+1:Nat) out (b.b0r (lo+s.size) (p+s.leaves) st),[],false)
 |.star :: fs=>A0c lo p (.star s) (st++[cls (Tm.top (.star s) lo)]) (C0i (fs.length+1:Nat) out (s.b0r lo p st)) fs
 |f :: fs=>A0c (lo-f.off) (p-f.lvs) (f.e09 s) (st++[cls ((f.e09 s).top (lo-f.off))]) out fs
def N0w {l:List U0}{t:Tm}{u d:List Int}(ht:n4 l t)(hu:UpT u t)(hd:D0y d t){f:Fr}{fs:List Fr}{lo:Nat}{s:Tm}(h:Ctx t lo s (f :: fs)):u5 l (lo-f.off)=u5 l lo-f.lvs:=by
 obtain⟨ho,h⟩:=h;obtain⟨h1,h2,h3⟩:=Ctx.part ht hu hd h;clear h2 h3;cases f<;>simp only[Fr.e09,Fr.off,Fr.lvs,sub_zero]at h1 ho ⊢
 case catR a=>
  have:=D0o ((At.bin rfl rfl).1 h1).1;rw[show lo-a.size+a.size=lo from by omega]at this;omega
 case altR a=>
  have:=D0o ((At.bin rfl rfl).1 h1).1;rw[show lo-a.size+a.size=lo from by omega]at this;omega
def R0m (fuel:Nat)(out:List E1)(h:E1)(hf:out.length<fuel)(hl:out.length<=1000000000):J0y fuel out h=some (out.any fun x=>x.To==h.To):=by
 have key:∀(k i:Nat),i+k=out.length->∀m,k<m->∃t,iter (E0S fuel out h) m (i:Int)=some t/\(match t with|.inl _=>(out.drop i).any (fun x=>x.To==h.To)=false|.inr r=>0<=r/\(out.drop i).any (fun x=>x.To==h.To)=true):=by
  intro k
  induction k with
  |
   zero=>
   intro i hi m hm;obtain⟨m,rfl⟩:∃q,m=q+1:=⟨m-1,by omega⟩
   refine⟨.inl (),?_,?_⟩
   ·unfold iter E0S;have:¬((i:Int)<(out.length:Int)):=by omega
    simp[this]
   ·rw[drop_of_length_le (by omega)];rfl
  |
   succ k ih=>
   intro i hi m hm;obtain⟨m,rfl⟩:∃q,m=q+1:=⟨m-1,by omega⟩
   have hlt:i<out.length:=by omega
   have hin:y0 out (i:Int)=true:=B4 (by omega) (by omega);have hg:gt out (i:Int)=out[i]:=Y5 (by simp[hlt]);have hd:out.drop i=out[i] :: out.drop (i+1):=List.drop_eq_getElem_cons hlt;have hd1:(i:Int)<(out.length:Int):=by omega
   have hst:E0S fuel out h (i:Int)=if(out[i].To==h.To)=true then some (.done (.inr (i:Int)))else some (.next ((i+1:Nat):Int)):=by
    unfold E0S L0n;simp only[q0,hd1,hin,hg,R2 (show i<9223372036854775807 by omega)]
   unfold iter;rw[hst]
   by_cases c:(out[i].To==h.To)=true
   ·rw[if_pos c];exact⟨_,rfl,by omega,by rw[hd];simp only[any_cons,c,Bool.true_or]⟩
   ·rw[if_neg c];obtain⟨t,h1,h2⟩:=ih (i+1) (by omega) m (by omega);refine⟨t,h1,?_⟩;rw[hd];have c':(out[i].To==h.To)=false:=by simpa using c
    cases t with
    |inl _=>simp only[any_cons,c',Bool.false_or];exact h2
    |inr r=>simp only[any_cons,c',Bool.false_or];exact h2
 obtain⟨t,h1,h2⟩:=key out.length 0 (by omega) fuel (by omega);unfold J0y K0W;rw[show(0:Int)=((0:Nat):Int)from rfl,h1];rw[List.drop_zero]at h2;cases t with
 |inl _=>simp only[F1];rw[h2];rfl
 |inr r=>simp only[F1];rw[h2.2];simp[h2.1]
def drop_cons {α:Type}[Inhabited α]{l:List α}{i:Nat}(h:i<l.length):l.drop i=gt l (i:Int) :: l.drop (i+1):=by
 rw[List.drop_eq_getElem_cons h,Y5 (x:=l[i]) (by simp[h])]
def N01 {fuel:Nat}{c:B5}{at_:Nat}{d:Int}{goal:Int}{st:List Int}{out hops:List E1}(hinto:F9 fuel fuel c goal st []=some hops)(hd:y0 c.deep (at_:Int)=true)(hdv:gt c.deep (at_:Int)=d)
  (hb:out.length+hops.length<=1000000) (hf:1000001<fuel):h0E fuel c (at_:Int) goal st out=some (C0i d out hops):=by
 have key:∀(k i:Nat) (o:List E1),i+k=hops.length->o.length+k<=1000000->∀m,k<m->iter (F0h fuel c (at_:Int) out hops) m (o,(i:Int))=some (C0i d o (hops.drop i)):=by
  intro k
  induction k with
  |
   zero=>
   intro i o hi ho m hm;obtain⟨m,rfl⟩:∃q,m=q+1:=⟨m-1,by omega⟩
   rw[drop_of_length_le (by omega)];unfold iter F0h;have:¬((i:Int)<(hops.length:Int)):=by omega
   simp[this,C0i]
  |
   succ k ih=>
   intro i o hi ho m hm;obtain⟨m,rfl⟩:∃q,m=q+1:=⟨m-1,by omega⟩
   have hlt:i<hops.length:=by omega
   have hin:y0 hops (i:Int)=true:=B4 (by omega) (by omega);have hd1:(i:Int)<(hops.length:Int):=by omega
   have hap:∀x:E1,C1 40 o [x]=true:=fun x=>a7 (by simp;omega);have hst:F0h fuel c (at_:Int) out hops (o,(i:Int))=some (.next ((if o.any (fun x=>x.To==(gt hops (i:Int)).To)then o else o++[⟨(gt hops (i:Int)).To,d,(gt hops (i:Int)).Steps⟩]),((i+1:Nat):Int))):=by
    unfold F0h;simp only[q0,hd1,hin,R0m fuel o (gt hops (i:Int)) (by omega) (by omega),hd,hdv,hap,R2 (show i<9223372036854775807 by omega)];cases o.any (fun x=>x.To==(gt hops (i:Int)).To)<;>simp
   unfold iter;rw[hst,drop_cons hlt];simp only[C0i];refine ih (i+1) _ (by omega) ?_ m (by omega);split
   ·omega
   ·simp only[length_append,length_cons,length_nil];omega
 unfold h0E;rw[hinto];simp only[F1];rw[show(0:Int)=((0:Nat):Int)from rfl,key hops.length 0 out (by omega) (by omega) fuel (by omega)];simp
def U0G {l:List U0}(hw:∀x∈l,l02 x){t:Tm}(ht:n4 l t)(hR:e0M l=true){c:B5}(hc:H0s c l t){fuel:Nat}(hf:1000001<fuel)(p1:Int):
  ∀(fs:List Fr) (lo:Nat) (s:Tm) (st:List Int) (out:List E1),Ctx t lo s fs->st.length+1000*fs.length<=500000->out.length+1000*fs.length<=500000->∀m,fs.length<m->
   ∃r,iter (D01 fuel c p1) m ((s.top lo:Int),st,out,gt c.up (s.top lo:Int))=some r/\
    (match r with|.inl (y1,y2)=>(y2,y1,true)|.inr (z1,z2)=>(z1,z2,false))=A0c lo (u5 l lo) s st out fs/\(∀z1 z2,r=.inr (z1,z2)->z2=[]):=by
 have h400:=ht.le;have hlen0:=ht.len;have hcl:=hc.tl;have hcc:=hc.can;have hct:=G0b hR;intro fs
 induction fs with
 |
  nil=>
  intro lo s st out hx h1 h2 m hm;obtain⟨m,rfl⟩:∃q,m=q+1:=⟨m-1,by omega⟩
  refine⟨.inl (st,out),?_,rfl,fun _ _ h=>by cases h⟩;rw[hx.root hc.up];unfold iter D01;simp
 |
  cons f fs ih=>
  intro lo s st out hx h1 h2 m hm;obtain⟨m,rfl⟩:∃q,m=q+1:=⟨m-1,by omega⟩
  have hpart:=hx.part ht hc.up hc.deep;have hpar:=hx.2.part ht hc.up hc.deep;have hedge:=hx.K0w ht hc.up hc.deep;have hx2:=hx.2;have hlvs:=N0w ht hc.up hc.deep hx;have hsz:=hx.size;simp only[length_cons]at h1 h2 hm hsz;rw[hedge];have htop:=hpar.at_.C0a;have hg:=hpar.at_.A0h;have hdp:=hpar.deep.top;generalize hlo:lo-f.off=lo' at *;generalize hr:(f.e09 s).top lo'=r at *;have hin:y0 l (r:Int)=true:=B4 (by omega) (by omega);have hiu:y0 c.up (r:Int)=true:=B4 (by omega) (by rw[hc.up.len];omega);have hid:y0 c.deep (r:Int)=true:=B4 (by omega) (by rw[hc.deep.len];omega);have hr0:(r:Int)>=0:=by omega
  have hcls:W (W (2*(r:Int))+1)=cls r:=by rw[C0A (by omega),C09 (by omega)]
  have next:∀(st':List Int) (out':List E1),st'.length<=st.length+900->(Option.bind (d0i fuel st' [W (W (2*(r:Int))+1)]) fun x12=>if y0 c.up (r:Int)=true then(some (.next ((r:Int),x12,out',gt c.up (r:Int))):Option (T0 (Int×List Int×List E1×Int) ((List Int×List E1)⊕((List E1)×(List Int)))))else none)=some (.next ((r:Int),st'++[cls r],out',gt c.up (r:Int))):=fun st' out' hs=>by
   rw[hcls,E0w (fuel:=fuel) (a:=st') (b:=[cls r]) (by simp;omega),hiu];rfl
  have plain:∀(fs':List Fr),A0c lo (u5 l lo) s st out (f :: fs)=A0c lo' (u5 l lo') (f.e09 s) (st++[cls r]) out fs->D01 fuel c p1 ((s.top lo:Int),st,out,(r:Int))=some (.next ((r:Int),st++[cls r],out,gt c.up (r:Int)))->
    ∃r',iter (D01 fuel c p1) (m+1) ((s.top lo:Int),st,out,(r:Int))=some r'/\(match r' with|.inl (y1,y2)=>(y2,y1,true)|.inr (z1,z2)=>(z1,z2,false))=A0c lo (u5 l lo) s st out (f :: fs)/\(∀z1 z2,r'=.inr (z1,z2)->z2=[]):=fun _ e1 e2=>by
   unfold iter;rw[e1,e2];have:=ih lo' (f.e09 s) (st++[cls r]) out hx2 (by simp;omega) (by omega) m (by omega);rw[hr]at this;exact this
  have step0:D01 fuel c p1 ((s.top lo:Int),st,out,(r:Int))=D01 fuel c p1 ((s.top lo:Int),st,out,(r:Int)):=rfl
  conv at step0=>rhs;unfold D01
  simp only[hr0,decide_true,if_true,hcl,hin,hg]at step0;cases f with
  |
   catL b=>
   simp only[Fr.e09,Fr.off,sub_zero]at hlo hr hg hpar step0;subst hlo;obtain⟨hats,hatb,_⟩:=(At.bin rfl rfl).1 hpar.at_;have hbi:=b.D0l (lo+s.size) (u5 l lo+s.leaves) st;have hbl:=b.D0m;have hbs:=b.C0W (lo+s.size);have hsb:b.size<=400:=by have:=hatb.len;omega
   have hinto:=L0K hw ht hR hc (show 401<fuel by omega) b (lo+s.size) hatb fuel st [] (by omega) (by omega) (by simp;omega);rw[D0o hats,List.nil_append]at hinto;have hturn:=N01 (at_:=r) (d:=(fs.length+1:Nat)) (st:=st) (out:=out) hinto hid hdp (by omega) hf;have hbin:y0 (C0c l) (b.top (lo+s.size):Int)=true:=B4 (by omega) (by rw[hct.len];have:=hatb.C0a;omega);simp only[Tm.node,beq_self_eq_true,if_true,F1,hturn,hcc,hbin,hct.top b _ hatb]at step0;have htl:=E0D ((fs.length+1:Nat):Int) (b.b0r (lo+s.size) (u5 l lo+s.leaves) st) out;simp only[A0c];cases hcan:b.can with
   |
    false=>
    simp only[q0,hcan]at step0;refine⟨_,by unfold iter;rw[step0],?_,fun z1 z2 h=>by cases h;rfl⟩;simp
   |
    true=>
    simp only[q0,hcan,K0S hw ht hR (show 401<fuel by omega) hatb,E0w (fuel:=fuel) (a:=st) (b:=b.steps (lo+s.size)) (by omega)]at step0;rw[next _ _ (by simp;omega)]at step0;unfold iter;rw[step0];have:=ih lo (.cat s b) (st++b.steps (lo+s.size)++[cls r]) (C0i ((fs.length+1:Nat):Int) out (b.b0r (lo+s.size) (u5 l lo+s.leaves) st)) hx2 (by simp;omega) (by omega) m (by omega);rw[hr]at this;rw[if_pos rfl,hr];exact this
  |
   star=>
   simp only[Fr.e09,Fr.off,sub_zero]at hlo hr hg hpar step0;subst hlo;obtain⟨hats,_⟩:=(At.un rfl rfl).1 hpar.at_;have hbi:=s.D0l lo (u5 l lo) st;have hbl:=s.D0m;have hsb:s.size<=400:=by have:=hats.len;omega
   have hinto:=L0K hw ht hR hc (show 401<fuel by omega) s lo hats fuel st [] (by omega) (by omega) (by simp;omega);rw[List.nil_append]at hinto;have hturn:=N01 (at_:=r) (d:=(fs.length+1:Nat)) (st:=st) (out:=out) hinto hid hdp (by omega) hf;simp only[q0,Tm.node,show((5:Int)==3)=false from rfl,beq_self_eq_true,hturn]at step0;rw[next _ _ (by omega)]at step0;have htl:=E0D ((fs.length+1:Nat):Int) (s.b0r lo (u5 l lo) st) out;simp only[A0c];unfold iter;rw[step0];have:=ih lo (.star s) (st++[cls r]) (C0i ((fs.length+1:Nat):Int) out (s.b0r lo (u5 l lo) st)) hx2 (by simp;omega) (by omega) m (by omega);rw[hr]at this;rw[hr];exact this
  |
   catR a=>
   simp only[Fr.e09,Fr.off]at hlo hr hg hpar step0;have hps:=s.size_pos;have hne:((a.top lo':Int)==(s.top lo:Int))=false:=by
    have:=hx.1;have:=a.size_pos;simp only[Fr.off]at *;have:a.top lo'≠s.top lo:=by unfold Tm.top;omega
    simp;omega
   refine plain fs (by simp only[A0c,Fr.off,Fr.lvs,hlo,hlvs,Fr.e09,hr]) ?_;rw[step0];simp only[q0,Tm.node,hne,beq_self_eq_true];exact next st out (by omega)
  |
   altR a=>
   simp only[Fr.e09,Fr.off]at hlo hr hg hpar step0;refine plain fs (by simp only[A0c,Fr.off,Fr.lvs,hlo,hlvs,Fr.e09,hr]) ?_;rw[step0];simp only[Tm.node,F1];exact next st out (by omega)
  |
   altL b|maybe|group n|iter=>
   simp only[Fr.e09,Fr.off,sub_zero]at hlo hr hg hpar step0;subst hlo;refine plain fs (by subst hr;rfl) ?_;rw[step0];simp only[Tm.node,F1];exact next st out (by omega)
def X0s (fuel:Nat)(out:List E1)(to:Int)(hf:out.length<fuel)(hl:out.length<=1000000000):D02 fuel out to=some (out.any fun x=>x.To==to):=by
 have key:∀(k i:Nat),i+k=out.length->∀m,k<m->∃t,iter (E0R fuel out to) m (i:Int)=some t/\(match t with|.inl _=>(out.drop i).any (fun x=>x.To==to)=false|.inr r=>r=true/\(out.drop i).any (fun x=>x.To==to)=true):=by
  intro k
  induction k with
  |
   zero=>
   intro i hi m hm;obtain⟨m,rfl⟩:∃q,m=q+1:=⟨m-1,by omega⟩
   refine⟨.inl (),?_,?_⟩
   ·unfold iter E0R;have:¬((i:Int)<(out.length:Int)):=by omega
    simp[this]
   ·rw[drop_of_length_le (by omega)];rfl
  |
   succ k ih=>
   intro i hi m hm;obtain⟨m,rfl⟩:∃q,m=q+1:=⟨m-1,by omega⟩
   have hlt:i<out.length:=by omega
   have hin:y0 out (i:Int)=true:=B4 (by omega) (by omega);have hd1:(i:Int)<(out.length:Int):=by omega
   have hst:E0R fuel out to (i:Int)=if((gt out (i:Int)).To==to)=true then some (.done (.inr true))else some (.next ((i+1:Nat):Int)):=by
    unfold E0R;simp only[hd1,decide_true,if_true,hin,R2 (show i<9223372036854775807 by omega)]
   unfold iter;rw[hst,drop_cons hlt]
   by_cases c:((gt out (i:Int)).To==to)=true
   ·rw[if_pos c];exact⟨_,rfl,rfl,by simp only[any_cons,c,Bool.true_or]⟩
   ·rw[if_neg c];obtain⟨t,h1,h2⟩:=ih (i+1) (by omega) m (by omega);refine⟨t,h1,?_⟩;have c':((gt out (i:Int)).To==to)=false:=by simpa using c
    cases t with
    |inl _=>simp only[any_cons,c',Bool.false_or];exact h2
    |inr r=>simp only[any_cons,c',Bool.false_or];exact h2
 obtain⟨t,h1,h2⟩:=key out.length 0 (by omega) fuel (by omega);unfold D02;rw[show(0:Int)=((0:Nat):Int)from rfl,h1];rw[List.drop_zero]at h2;cases t with
 |inl _=>simp only[F1];rw[h2]
 |inr r=>simp only[F1];rw[h2.2,h2.1]
def M0D {fuel:Nat}{l:List U0}{x6:E1}{x1 x2 x3:List Int}{x4:List Bool}{x7:Int}{x8:List Int}{x9:List E1}{x12:Int}{x14:List E1}{d:Int}(hd:y0 x2 (gt x1 x7)=true)(hdv:gt x2 (gt x1 x7)=d)(hops:List E1)(hhl:hops.length<=1000000):
  ∀(k i:Nat) (o hs:List E1),hs.length=hops.length->hs.drop i=hops.drop i->i+k=hops.length->o.length+k<=1000000->1000001<fuel->∀m,k<m->
   iter (D0W fuel l x6 x1 x2 x3 x4 x7 x8 x9 x12 x14) m (o,hs,(i:Int))=some (C0i d o (hops.drop i)):=by
 intro k
 induction k with
 |
  zero=>
  intro i o hs hl hdr hi ho hf m hm;obtain⟨m,rfl⟩:∃q,m=q+1:=⟨m-1,by omega⟩
  rw[drop_of_length_le (by omega)];unfold iter D0W;have:¬((i:Int)<(hs.length:Int)):=by omega
  simp[this,C0i]
 |
  succ k ih=>
  intro i o hs hl hdr hi ho hf m hm;obtain⟨m,rfl⟩:∃q,m=q+1:=⟨m-1,by omega⟩
  have hlt:i<hops.length:=by omega
  have hin:y0 hs (i:Int)=true:=B4 (by omega) (by omega);have hd1:(i:Int)<(hs.length:Int):=by omega
  have hap:∀x:E1,C1 40 o [x]=true:=fun x=>a7 (by simp;omega);have hge:gt hs (i:Int)=gt hops (i:Int):=by
   have e1:=drop_cons (l:=hs) (i:=i) (by omega);have e2:=drop_cons (l:=hops) (i:=i) hlt;rw[hdr,e2]at e1;exact(List.cons.inj e1).1.symm
  have hdn:hs.drop (i+1)=hops.drop (i+1):=by
   have e1:=drop_cons (l:=hs) (i:=i) (by omega);have e2:=drop_cons (l:=hops) (i:=i) hlt;rw[hdr,e2]at e1;exact(List.cons.inj e1).2.symm
  have hin2:∀y:E1,y0 (hs.set i y) (i:Int)=true:=fun y=>B4 (by omega) (by simp;omega);have hse:∀y:E1,gt (hs.set i y) (i:Int)=y:=fun y=>E0c (by omega);have hds:∀y:E1,(hs.set i y).drop (i+1)=hops.drop (i+1):=fun y=>by rw[List.drop_set_of_lt (by omega),hdn]
  have he:D0W fuel l x6 x1 x2 x3 x4 x7 x8 x9 x12 x14 (o,hs,(i:Int))=if o.any (fun x=>x.To==(gt hops (i:Int)).To)then some (.next (o,hs,((i+1:Nat):Int)))else some (.next (o++[⟨(gt hops (i:Int)).To,d,(gt hops (i:Int)).Steps⟩],hs.set i ⟨(gt hops (i:Int)).To,d,(gt hops (i:Int)).Steps⟩,((i+1:Nat):Int))):=by
   unfold D0W;simp only[q0,hd1,hin,hge,X0s fuel o (gt hops (i:Int)).To (by omega) (by omega),hd,hdv,Int.toNat_natCast,hin2,hse,hap,R2 (show i<9223372036854775807 by omega)];cases o.any (fun x=>x.To==(gt hops (i:Int)).To)<;>simp
  have hst:∃hs',hs'.length=hops.length/\hs'.drop (i+1)=hops.drop (i+1)/\D0W fuel l x6 x1 x2 x3 x4 x7 x8 x9 x12 x14 (o,hs,(i:Int))=some (.next ((if o.any (fun x=>x.To==(gt hops (i:Int)).To)then o else o++[⟨(gt hops (i:Int)).To,d,(gt hops (i:Int)).Steps⟩]),hs',((i+1:Nat):Int))):=by
   rw[he];cases o.any (fun x=>x.To==(gt hops (i:Int)).To)with
   |true=>exact⟨hs,hl,hdn,rfl⟩
   |false=>exact⟨hs.set i ⟨(gt hops (i:Int)).To,d,(gt hops (i:Int)).Steps⟩,by simpa using hl,hds _,rfl⟩
  obtain⟨hs',p1,p2,p3⟩:=hst;unfold iter;rw[p3,drop_cons hlt];simp only[C0i];refine ih (i+1) _ hs' p1 p2 (by omega) ?_ hf m (by omega);split
  ·omega
  ·simp only[length_append,length_cons,length_nil];omega
def T0p {l:List U0}{t:Tm}(ht:n4 l t)(hR:e0M l=true){u d:List Int}(hu:UpT u t)(hd:D0y d t){fuel:Nat}(hf:1000001<fuel)(x5:List Int)(p1:Int)(x6:E1):
  ∀(fs:List Fr) (lo:Nat) (s:Tm) (st:List Int) (out:List E1),Ctx t lo s fs->st.length+1000*fs.length<=500000->out.length+1000*fs.length<=500000->∀m,fs.length<m->
   ∃r,iter (D0K fuel l u d (B00 l l.length) (C0c l) x5 p1) m (x6,(s.top lo:Int),st,out)=some r/\
    (match r with|.inl (_,y2,y3)=>(y3,y2,true)|.inr (z1,_,_)=>(z1,[],false))=A0c lo (u5 l lo) s st out fs/\(∀z1 z2 z3,r=.inr (z1,z2,z3)->z2=⟨0,0,[]⟩/\z3=false):=by
 have h400:=ht.le;have hlen0:=ht.len;have hct:=G0b hR;intro fs
 induction fs with
 |
  nil=>
  intro lo s st out hx h1 h2 m hm;obtain⟨m,rfl⟩:∃q,m=q+1:=⟨m-1,by omega⟩
  refine⟨.inl (x6,st,out),?_,rfl,fun _ _ _ h=>by cases h⟩;have hpart:=hx.part ht hu hd;have hiu:y0 u (s.top lo:Int)=true:=B4 (by omega) (by rw[hu.len];have:=hpart.at_.C0a;omega);have hroot:=hx.root hu;have e:D0K fuel l u d (B00 l l.length) (C0c l) x5 p1 (x6,(s.top lo:Int),st,out)=some (.done (.inl (x6,st,out))):=by
   unfold D0K;simp[hiu,hroot]
  unfold iter;rw[e]
 |
  cons f fs ih=>
  intro lo s st out hx h1 h2 m hm;obtain⟨m,rfl⟩:∃q,m=q+1:=⟨m-1,by omega⟩
  have hpart:=hx.part ht hu hd;have hpar:=hx.2.part ht hu hd;have hedge:=hx.K0w ht hu hd;have hx2:=hx.2;have hlvs:=N0w ht hu hd hx;have hsz:=hx.size;simp only[length_cons]at h1 h2 hm hsz;have hiq:y0 u (s.top lo:Int)=true:=B4 (by omega) (by rw[hu.len];have:=hpart.at_.C0a;omega);have htop:=hpar.at_.C0a;have hg:=hpar.at_.A0h;have hdp:=hpar.deep.top;generalize hlo:lo-f.off=lo' at *;generalize hr:(f.e09 s).top lo'=r at *;have hin:y0 l (r:Int)=true:=B4 (by omega) (by omega);have hid:y0 d (r:Int)=true:=B4 (by omega) (by rw[hd.len];omega);have hr0:(r:Int)>=0:=by omega
  have hcls:W (W (2*(r:Int))+1)=cls r:=by rw[C0A (by omega),C09 (by omega)]
  have put1:∀st':List Int,st'.length<=st.length+900->C02 fuel st' [W (W (2*(r:Int))+1)]=some (st'++[cls r]):=fun st' hs=>by
   rw[hcls,E0J (fuel:=fuel) (a:=st') (b:=[cls r]) (by simp;omega)]
  have plain:A0c lo (u5 l lo) s st out (f :: fs)=A0c lo' (u5 l lo') (f.e09 s) (st++[cls r]) out fs->D0K fuel l u d (B00 l l.length) (C0c l) x5 p1 (x6,(s.top lo:Int),st,out)=some (.next (x6,(r:Int),st++[cls r],out))->
    ∃r',iter (D0K fuel l u d (B00 l l.length) (C0c l) x5 p1) (m+1) (x6,(s.top lo:Int),st,out)=some r'/\(match r' with|.inl (_,y2,y3)=>(y3,y2,true)|.inr (z1,_,_)=>(z1,[],false))=A0c lo (u5 l lo) s st out (f :: fs)/\(∀z1 z2 z3,r'=.inr (z1,z2,z3)->z2=⟨0,0,[]⟩/\z3=false):=fun e1 e2=>by
   unfold iter;rw[e1,e2];have:=ih lo' (f.e09 s) (st++[cls r]) out hx2 (by simp;omega) (by omega) m (by omega);rw[hr]at this;exact this
  have step0:D0K fuel l u d (B00 l l.length) (C0c l) x5 p1 (x6,(s.top lo:Int),st,out)=D0K fuel l u d (B00 l l.length) (C0c l) x5 p1 (x6,(s.top lo:Int),st,out):=rfl
  conv at step0=>rhs;unfold D0K
  simp only[hiq,hedge,hr0,decide_true,if_true,hin,hg]at step0;cases f with
  |
   catL b=>
   simp only[Fr.e09,Fr.off,sub_zero]at hlo hr hg hpar step0;subst hlo;obtain⟨hats,hatb,_⟩:=(At.bin rfl rfl).1 hpar.at_;have hbi:=b.D0l (lo+s.size) (u5 l lo+s.leaves) st;have hbl:=b.D0m;have hbs:=b.C0W (lo+s.size);have hsb:b.size<=400:=by have:=hatb.len;omega
   have hinto:=J0T ht hR (show 401<fuel by omega) b (lo+s.size) hatb fuel st (by omega) (by omega);rw[D0o hats]at hinto;have hturn:∀x14,iter (D0W fuel l x6 u d (B00 l l.length) (C0c l) (s.top lo:Int) st out (b.top (lo+s.size):Int) x14) fuel (out,b.b0r (lo+s.size) (u5 l lo+s.leaves) st,0)=some (C0i ((fs.length+1:Nat):Int) out (b.b0r (lo+s.size) (u5 l lo+s.leaves) st)):=fun x14=>by
    have:=M0D (fuel:=fuel) (l:=l) (x6:=x6) (x1:=u) (x2:=d) (x3:=B00 l l.length) (x4:=C0c l) (x7:=(s.top lo:Int)) (x8:=st) (x9:=out) (x12:=(b.top (lo+s.size):Int)) (x14:=x14) (d:=((fs.length+1:Nat):Int)) (by rw[hedge];exact hid) (by rw[hedge];exact hdp) (b.b0r (lo+s.size) (u5 l lo+s.leaves) st) (by omega) (b.b0r (lo+s.size) (u5 l lo+s.leaves) st).length 0 out (b.b0r (lo+s.size) (u5 l lo+s.leaves) st) rfl rfl (by omega) (by omega) hf fuel (by omega);simpa using this
   have hbin:y0 (C0c l) (b.top (lo+s.size):Int)=true:=B4 (by omega) (by rw[hct.len];have:=hatb.C0a;omega);have hb0:(b.top (lo+s.size):Int)>=0:=by omega
   simp only[q0,Tm.node,beq_self_eq_true,show((3:Int)==5)=false from rfl,hb0,hinto,hturn,hbin,hct.top b _ hatb]at step0;have htl:=E0D ((fs.length+1:Nat):Int) (b.b0r (lo+s.size) (u5 l lo+s.leaves) st) out;simp only[A0c];cases hcan:b.can with
   |
    false=>
    simp only[q0,hcan]at step0;refine⟨_,by unfold iter;rw[step0],?_,fun z1 z2 z3 h=>by cases h;exact⟨rfl,rfl⟩⟩;simp
   |
    true=>
    simp only[q0,hcan,K0R hct (by omega) fuel b _ hatb fuel (by omega),E0J (fuel:=fuel) (a:=st) (b:=b.steps (lo+s.size)) (by omega)]at step0;rw[put1 _ (by simp;omega)]at step0;unfold iter;rw[step0];have:=ih lo (.cat s b) (st++b.steps (lo+s.size)++[cls r]) (C0i ((fs.length+1:Nat):Int) out (b.b0r (lo+s.size) (u5 l lo+s.leaves) st)) hx2 (by simp;omega) (by omega) m (by omega);rw[hr]at this;rw[if_pos rfl,hr];exact this
  |
   star=>
   simp only[Fr.e09,Fr.off,sub_zero]at hlo hr hg hpar step0;subst hlo;obtain⟨hats,_⟩:=(At.un rfl rfl).1 hpar.at_;have hbi:=s.D0l lo (u5 l lo) st;have hbl:=s.D0m;have hsb:s.size<=400:=by have:=hats.len;omega
   have hinto:=J0T ht hR (show 401<fuel by omega) s lo hats fuel st (by omega) (by omega);have hturn:∀x14,iter (D0W fuel l x6 u d (B00 l l.length) (C0c l) (s.top lo:Int) st out (s.top lo:Int) x14) fuel (out,s.b0r lo (u5 l lo) st,0)=some (C0i ((fs.length+1:Nat):Int) out (s.b0r lo (u5 l lo) st)):=fun x14=>by
    have:=M0D (fuel:=fuel) (l:=l) (x6:=x6) (x1:=u) (x2:=d) (x3:=B00 l l.length) (x4:=C0c l) (x7:=(s.top lo:Int)) (x8:=st) (x9:=out) (x12:=(s.top lo:Int)) (x14:=x14) (d:=((fs.length+1:Nat):Int)) (by rw[hedge];exact hid) (by rw[hedge];exact hdp) (s.b0r lo (u5 l lo) st) (by omega) (s.b0r lo (u5 l lo) st).length 0 out (s.b0r lo (u5 l lo) st) rfl rfl (by omega) (by omega) hf fuel (by omega);simpa using this
   have hb0:(s.top lo:Int)>=0:=by omega
   simp only[q0,Tm.node,show((5:Int)==3)=false from rfl,beq_self_eq_true,hb0,hinto,hturn]at step0;rw[put1 _ (by omega)]at step0;have htl:=E0D ((fs.length+1:Nat):Int) (s.b0r lo (u5 l lo) st) out;simp only[A0c];unfold iter;rw[step0];have:=ih lo (.star s) (st++[cls r]) (C0i ((fs.length+1:Nat):Int) out (s.b0r lo (u5 l lo) st)) hx2 (by simp;omega) (by omega) m (by omega);rw[hr]at this;rw[hr];exact this
  |
   catR a=>
   simp only[Fr.e09,Fr.off]at hlo hr hg hpar step0;have hps:=s.size_pos;have hne:((a.top lo':Int)==(s.top lo:Int))=false:=by
    have:=hx.1;have:=a.size_pos;simp only[Fr.off]at *;have:a.top lo'≠s.top lo:=by unfold Tm.top;omega
    simp;omega
   refine plain (by simp only[A0c,Fr.off,Fr.lvs,hlo,hlvs,Fr.e09,hr]) ?_;rw[step0];simp only[q0,Tm.node,hne,beq_self_eq_true,show((3:Int)==5)=false from rfl];simp[put1 st (by omega)]
  |
   altR a=>
   simp only[Fr.e09,Fr.off]at hlo hr hg hpar step0;refine plain (by simp only[A0c,Fr.off,Fr.lvs,hlo,hlvs,Fr.e09,hr]) ?_;rw[step0];simp only[Tm.node,F1];simp[put1 st (by omega)]
  |
   altL b|maybe|group n|iter=>
   simp only[Fr.e09,Fr.off,sub_zero]at hlo hr hg hpar step0;subst hlo;refine plain (by subst hr;rfl) ?_;rw[step0];simp only[Tm.node,F1];simp[put1 st (by omega)]
