/- P. Its conditions: none. -/
import Derived.Test.YtmhooikfkhjijaaGreatYG42
open Nat (lt_or_ge zero_le sub_zero)
open List (mem_singleton mem_append length_cons mem_filter)
set_option linter.all false
namespace Go.Proofs.YtmhooikfkhjijaaGreat.Old
open Go.V Go.RowKit
def Ctx.down {t:Tm}:∀{s:Tm} {lo:Nat} {fs:List Fr},Ctx t lo s fs->∀i,lo<=i->i<lo+s.size->∃lo' s' fs',Ctx t lo' s' fs'/\s'.top lo'=i:=by
 intro s
 induction s with
 |eps=>intro lo fs h i h1 h2;exact⟨lo,.eps,fs,h,by simp only[Tm.top,Tm.size]at *;omega⟩
 |leaf s=>intro lo fs h i h1 h2;exact⟨lo,.leaf s,fs,h,by simp only[Tm.top,Tm.size]at *;omega⟩
 |
  cat a b iha ihb=>
  intro lo fs h i h1 h2;simp only[Tm.size]at h2;rcases lt_or_ge i (lo+a.size)with c|c
  ·exact iha (fs:=.catL b :: fs) ⟨zero_le _,h⟩ i h1 c
  ·rcases lt_or_ge i (lo+a.size+b.size)with c2|c2
   ·exact ihb (lo:=lo+a.size) (fs:=.catR a :: fs) ⟨by simp[Fr.off],by simpa[Fr.off,Fr.e09]using h⟩ i c c2
   ·exact⟨lo,_,fs,h,by simp only[Tm.top,Tm.size];omega⟩
 |
  alt a b iha ihb=>
  intro lo fs h i h1 h2;simp only[Tm.size]at h2;rcases lt_or_ge i (lo+a.size)with c|c
  ·exact iha (fs:=.altL b :: fs) ⟨zero_le _,h⟩ i h1 c
  ·rcases lt_or_ge i (lo+a.size+b.size)with c2|c2
   ·exact ihb (lo:=lo+a.size) (fs:=.altR a :: fs) ⟨by simp[Fr.off],by simpa[Fr.off,Fr.e09]using h⟩ i c c2
   ·exact⟨lo,_,fs,h,by simp only[Tm.top,Tm.size];omega⟩
 |
  star a iha=>
  intro lo fs h i h1 h2;simp only[Tm.size]at h2;rcases lt_or_ge i (lo+a.size)with c|c
  ·exact iha (fs:=.star :: fs) ⟨zero_le _,h⟩ i h1 c
  ·exact⟨lo,_,fs,h,by simp only[Tm.top,Tm.size];omega⟩
 |
  maybe a iha=>
  intro lo fs h i h1 h2;simp only[Tm.size]at h2;rcases lt_or_ge i (lo+a.size)with c|c
  ·exact iha (fs:=.maybe :: fs) ⟨zero_le _,h⟩ i h1 c
  ·exact⟨lo,_,fs,h,by simp only[Tm.top,Tm.size];omega⟩
 |
  group n a iha=>
  intro lo fs h i h1 h2;simp only[Tm.size]at h2;rcases lt_or_ge i (lo+a.size)with c|c
  ·exact iha (fs:=.group n :: fs) ⟨zero_le _,h⟩ i h1 c
  ·exact⟨lo,_,fs,h,by simp only[Tm.top,Tm.size];omega⟩
 |
  iter a iha=>
  intro lo fs h i h1 h2;simp only[Tm.size]at h2;rcases lt_or_ge i (lo+a.size)with c|c
  ·exact iha (fs:=.iter :: fs) ⟨zero_le _,h⟩ i h1 c
  ·exact⟨lo,_,fs,h,by simp only[Tm.top,Tm.size];omega⟩
def Ctx.at_ {l:List U0}{t:Tm}(ht:n4 l t):∀{fs:List Fr} {lo:Nat} {s:Tm},Ctx t lo s fs->At l lo s
 |[],lo,s,⟨h1,h2⟩=>by subst h1;subst h2;exact ht.at0
 |
  f :: fs,lo,s,⟨ho,h⟩=>by
  have h1:=Ctx.at_ ht h;cases f<;>simp only[Fr.e09,Fr.off,sub_zero]at h1 ho
  case catL b=>exact((At.bin rfl rfl).1 h1).1
  case altL b=>exact((At.bin rfl rfl).1 h1).1
  case catR a=>
   have:=((At.bin rfl rfl).1 h1).2.1
   rwa [show lo-a.size+a.size=lo from by omega]at this
  case altR a=>
   have:=((At.bin rfl rfl).1 h1).2.1
   rwa [show lo-a.size+a.size=lo from by omega]at this
  all_goals exact((At.un rfl rfl).1 h1).1
structure D0Q (l:List U0)(t:Tm)(p q:Nat)(S:List Int)(fs:List Fr):Prop where
 ctx:Ctx t q (.leaf S) fs
 num:u5 l q=p
 get:(e0L l l.length)[p]?=some (q:Int)
def W0T {l:List U0}{t:Tm}(ht:n4 l t){p:Nat}(hp:p<u5 l l.length):∃q S fs,D0Q l t p q S fs:=by
 obtain⟨q,h1,h2,h3,h4⟩:=E0C l l.length p hp;obtain⟨lo,s,fs,hx,hs⟩:=Ctx.down (t:=t) (s:=t) (lo:=0) (fs:=[]) ⟨rfl,rfl⟩ q (zero_le _) (by rw[ht.len]at h1;omega);have hat:=hx.at_ ht;have hg:=hat.A0h;rw[hs]at hg;cases s with
 |
  leaf S=>
  simp only[Tm.top,Tm.size,Nat.add_sub_cancel]at hs;subst hs;exact⟨lo,S,fs,hx,h4,h2⟩
 |_=>rw[hg]at h3;simp[Tm.node]at h3
def O05 {l:List U0}{t:Tm}(ht:n4 l t):u5 l l.length=t.leaves:=by
 have:=D0o ht.at0;rw[Nat.zero_add,<-ht.len]at this;simpa[u5]using this
def O0b (n:Nat)(h:E1):Prop:=0<=h.To/\h.To<n/\h.Steps.length<=2000000
def Tm.J0e (s:Tm):∀(lo p:Nat) (ahead:List Int),s.size<=400->ahead.length+1000*s.size<=2000000->∀h∈s.b0r lo p ahead,(p:Int)<=h.To/\h.To<((p+s.leaves:Nat):Int)/\h.Steps.length<=2000000:=by
 induction s with
 |eps=>intro lo p ahead _ _ h hh;simp[Tm.b0r]at hh
 |leaf s=>intro lo p ahead _ ho h hh;simp only[Tm.b0r,mem_singleton]at hh;subst hh;simp only[Tm.leaves,Tm.size]at *;refine⟨by simp,by simp;omega,by simp;omega⟩
 |
  cat a b iha ihb=>
  intro lo p ahead hs ho h hh;have sa:=a.C0W lo;simp only[Tm.b0r,Tm.size,Tm.leaves,mem_append]at *;rcases hh with hh|hh
  ·have:=iha lo p _ (by omega) (by simp;omega) h hh;refine⟨by omega,by omega,this.2.2⟩
  ·split at hh
   ·have:=ihb (lo+a.size) (p+a.leaves) _ (by omega) (by simp;omega) h hh;refine⟨by omega,by omega,this.2.2⟩
   ·simp at hh
 |
  alt a b iha ihb=>
  intro lo p ahead hs ho h hh;simp only[Tm.b0r,Tm.size,Tm.leaves,mem_append]at *;rcases hh with hh|hh
  ·have:=iha lo p _ (by omega) (by simp;omega) h hh;refine⟨by omega,by omega,this.2.2⟩
  ·have:=ihb (lo+a.size) (p+a.leaves) _ (by omega) (by simp;omega) h hh;refine⟨by omega,by omega,this.2.2⟩
 |
  star a iha|maybe a iha|group _ a iha|iter a iha=>
  intro lo p ahead hs ho h hh;simp only[Tm.b0r,Tm.size,Tm.leaves]at *;exact iha lo p _ (by omega) (by simp;omega) h hh
structure c0s (n:Nat)(out:List E1):Prop where
 ok:∀h∈out,O0b n h
 dist:out.Pairwise fun a b=>a.To≠b.To
def J03 {n:Nat}(d:Int):∀(r out:List E1),c0s n out->(∀h∈r,O0b n h)->c0s n (C0i d out r)
 |[],out,h,_=>h
 |
  x :: r,out,h,hr=>by
  simp only[C0i];refine J03 d r _ ?_ (fun y hy=>hr y (by simp[hy]));split
  ·exact h
  ·rename_i hc;have hx:=hr x (by simp);refine⟨fun y hy=>?_,?_⟩
   ·rcases mem_append.1 hy with hy|hy
    ·exact h.ok y hy
    ·simp only[mem_singleton]at hy;subst hy;exact hx
   ·refine List.pairwise_append.2 ⟨h.dist,by simp,fun a ha b hb=>?_⟩;simp only[mem_singleton]at hb;subst hb;intro e;exact hc (List.any_eq_true.2 ⟨a,ha,by simpa using e⟩)
def E0k {l:List U0}{t:Tm}(ht:n4 l t):∀(fs:List Fr) (lo:Nat) (s:Tm) (st:List Int) (out:List E1),Ctx t lo s fs->c0s t.leaves out->st.length+1000*fs.length<=500000->
  c0s t.leaves (A0c lo (u5 l lo) s st out fs).1/\(A0c lo (u5 l lo) s st out fs).2.1.length<=500000
 |[],lo,s,st,out,hx,hw,hl=>⟨hw,by simp only[A0c];simpa using hl⟩
 |
  f :: fs,lo,s,st,out,hx,hw,hl=>by
  have hpar:=hx.2.at_ ht;have hlen:=hpar.len;have h400:=ht.le;have hln:=ht.len;have hmono:=H09 l hlen;rw[D0o hpar,O05 ht]at hmono;have hlv:u5 l (lo-f.off)=u5 l lo-f.lvs:=by
   cases f<;>simp only[Fr.e09,Fr.off,Fr.lvs,sub_zero]at hpar ⊢
   case catR a=>
    have h0:=hx.1;simp only[Fr.off]at h0;have:=D0o ((At.bin rfl rfl).1 hpar).1;rw[show lo-a.size+a.size=lo from by omega]at this;omega
   case altR a=>
    have h0:=hx.1;simp only[Fr.off]at h0;have:=D0o ((At.bin rfl rfl).1 hpar).1;rw[show lo-a.size+a.size=lo from by omega]at this;omega
  simp only[length_cons]at hl;cases f with
  |
   catL b=>
   simp only[Fr.e09,Fr.off,sub_zero,Tm.leaves,Tm.size]at hpar hmono hlen;have hbs:=b.C0W (lo+s.size);have hw':=J03 (n:=t.leaves) ((fs.length+1:Nat):Int) (b.b0r (lo+s.size) (u5 l lo+s.leaves) st) out hw (fun h hh=>by
    have:=b.J0e (lo+s.size) (u5 l lo+s.leaves) st (by omega) (by omega) h hh;exact⟨by omega,by omega,this.2.2⟩)
   simp only[A0c];split
   ·exact E0k ht fs lo (.cat s b) _ _ hx.2 hw' (by simp;omega)
   ·exact⟨hw',by simp⟩
  |
   star=>
   simp only[Fr.e09,Fr.off,sub_zero,Tm.leaves,Tm.size]at hpar hmono hlen;have hw':=J03 (n:=t.leaves) ((fs.length+1:Nat):Int) (s.b0r lo (u5 l lo) st) out hw (fun h hh=>by
    have:=s.J0e lo (u5 l lo) st (by omega) (by omega) h hh;exact⟨by omega,by omega,this.2.2⟩)
   simp only[A0c];exact E0k ht fs lo (.star s) _ _ hx.2 hw' (by simp;omega)
  |
   catR a=>
   have:=E0k ht fs (lo-(Fr.catR a).off) ((Fr.catR a).e09 s) (st++[cls (((Fr.catR a).e09 s).top (lo-(Fr.catR a).off))]) out hx.2 hw (by simp;omega);rw[hlv]at this;exact this
  |
   altR a=>
   have:=E0k ht fs (lo-(Fr.altR a).off) ((Fr.altR a).e09 s) (st++[cls (((Fr.altR a).e09 s).top (lo-(Fr.altR a).off))]) out hx.2 hw (by simp;omega);rw[hlv]at this;exact this
  |
   altL b=>
   have:=E0k ht fs (lo-(Fr.altL b).off) ((Fr.altL b).e09 s) (st++[cls (((Fr.altL b).e09 s).top (lo-(Fr.altL b).off))]) out hx.2 hw (by simp;omega);rw[hlv]at this;exact this
  |
   maybe=>
   have:=E0k ht fs (lo-Fr.maybe.off) (Fr.maybe.e09 s) (st++[cls ((Fr.maybe.e09 s).top (lo-Fr.maybe.off))]) out hx.2 hw (by simp;omega);rw[hlv]at this;exact this
  |
   group n=>
   have:=E0k ht fs (lo-(Fr.group n).off) ((Fr.group n).e09 s) (st++[cls (((Fr.group n).e09 s).top (lo-(Fr.group n).off))]) out hx.2 hw (by simp;omega);rw[hlv]at this;exact this
  |
   iter=>
   have:=E0k ht fs (lo-Fr.iter.off) (Fr.iter.e09 s) (st++[cls ((Fr.iter.e09 s).top (lo-Fr.iter.off))]) out hx.2 hw (by simp;omega);rw[hlv]at this;exact this
def c0s.b07 {n:Nat}{out:List E1}(h:c0s n out)(hn:n<=1000)(hl:out.length<=1000000):b07 E1.To out=true:=by
 simp only[Go.V.b07,Bool.and_eq_true,List.all_eq_true,decide_eq_true_eq];refine⟨⟨by omega,fun x hx=>?_⟩,(i0l _ _).2 h.dist⟩;have:=h.ok x hx;exact⟨this.1,by have:=this.2.1;omega⟩
def T0X {α:Type}(z:α)(ys:List α):P2 (List.replicate ys.length z) ys=ys:=by
 simp[P2]
def s0w {fuel:Nat}(out:List E1)(hl:out.length<=1000000)(hf:out.length<fuel)(hs:∀h∈out,h.Steps.length<=2000000):j0p fuel out=some out:=by
 have key:=j0K (step:=F0z fuel out) (fun i=>(out,(i:Int))) out out.length (fun i hi=>.inl (by
  have hin:y0 out (i:Int)=true:=B4 (by omega) (by omega);have hd1:(i:Int)<(out.length:Int):=by omega
  have hg:gt out (i:Int)=out[i]:=Y5 (by simp[hi]);have h1:=hs out[i] (List.getElem_mem _);have hmk:S5 8 (out[i].Steps.length:Int)=true:=by simp[S5];omega
  unfold F0z;simp only[hd1,decide_true,if_true,hin,hg,hmk,Int.toNat_natCast,T0X,R2 (show i<9223372036854775807 by omega)];rw[show(⟨out[i].To,out[i].Turn,out[i].Steps⟩:E1)=out[i]from rfl];simp)) (by unfold F0z;simp) out.length 0 fuel (by omega) (by omega)
 unfold j0p;rw[show(0:Int)=((0:Nat):Int)from rfl,key];rfl
def bucket (out:List E1):Nat->List E1
 |0=>[]
 |n+1=>bucket out n++out.filter fun h=>h.To==(n:Int)
def L0S (out:List E1):∀n,(bucket out n).Perm (out.filter fun h=>decide (0<=h.To)&&decide (h.To<n))
 |
  0=>by
  have:(out.filter fun h=>decide (0<=h.To)&&decide (h.To<((0:Nat):Int)))=[]:=by
   rw[List.filter_eq_nil_iff];intro x _;simp
  rw[this];exact List.Perm.refl _
 |
  n+1=>by
  have ih:=L0S out n;simp only[bucket];refine(ih.append_right _).trans ?_;have e:out.Perm (out.filter (fun h=>decide (0<=h.To)&&decide (h.To<(n:Int)))++out.filter (fun h=>!(decide (0<=h.To)&&decide (h.To<(n:Int))))):=(List.filter_append_perm _ _).symm;have e2:=e.filter fun h=>decide (0<=h.To)&&decide (h.To<((n+1:Nat):Int));refine List.Perm.trans ?_ e2.symm;rw[List.filter_append,List.filter_filter,List.filter_filter];have a1:(out.filter fun a=>(decide (0<=a.To)&&decide (a.To<((n+1:Nat):Int)))&&(decide (0<=a.To)&&decide (a.To<(n:Int))))=out.filter fun h=>decide (0<=h.To)&&decide (h.To<(n:Int)):=by
   apply List.filter_congr;intro x _;rw[Bool.eq_iff_iff];simp;omega
  have a2:(out.filter fun a=>(decide (0<=a.To)&&decide (a.To<((n+1:Nat):Int)))&&!(decide (0<=a.To)&&decide (a.To<(n:Int))))=out.filter fun h=>h.To==(n:Int):=by
   apply List.filter_congr;intro x _;rw[Bool.eq_iff_iff];simp;omega
  rw[a1,a2]
def O0t (out:List E1):∀n,(bucket out n).Pairwise (fun a b=>a.To<=b.To)/\∀h∈bucket out n,h.To<n
 |0=>⟨List.Pairwise.nil,by simp[bucket]⟩
 |
  n+1=>by
  obtain⟨h1,h2⟩:=O0t out n;simp only[bucket];refine⟨List.pairwise_append.2 ⟨h1,?_,fun a ha b hb=>?_⟩,fun x hx=>?_⟩
  ·refine List.Pairwise.imp_of_mem ?_ (List.pairwise_of_forall (R:=fun _ _=>True) (fun _ _=>trivial));intro a b ha hb _;simp only[mem_filter,beq_iff_eq]at ha hb;rw[ha.2,hb.2];exact Int.le_refl _
  ·have:=h2 a ha;simp only[mem_filter,beq_iff_eq]at hb;omega
  ·rcases mem_append.1 hx with hx|hx
   ·have:=h2 x hx;omega
   ·simp only[mem_filter,beq_iff_eq]at hx;omega
def P0Q {n:Nat}{out:List E1}(h:c0s n out):bucket out n=K5 E1.To out:=by
 refine v07 E1.To ?_ (O0t out n).1 ((i0l _ _).2 h.dist);have:=L0S out n
 rwa [List.filter_eq_self.2 (fun x hx=>by have:=h.ok x hx;simp[this.1,this.2.1])]at this
def W01 (out:List E1):∀n,(bucket out n).length<=out.length:=fun n=>by
 rw[(L0S out n).length_eq];exact List.length_filter_le _ _
def B05 (t:Tm)(p q:Nat)(S:List Int)(fs:List Fr):List E1×List Int×Bool:=A0c q p (.leaf S) [cls q] [] fs
def M0B {l:List U0}(hw:∀x∈l,l02 x){t:Tm}(ht:n4 l t)(hR:e0M l=true){fuel:Nat}(hf:401<fuel):∃c,i0z fuel l=some (some c,true)/\H0s c l t:=by
 obtain⟨u,e1,hu⟩:=K0v ht hR hf;obtain⟨d,e2,hd⟩:=I0G ht hR hf;refine⟨⟨l,u,d,B00 l l.length,C0c l⟩,?_,⟨rfl,hu,hd,rfl,rfl⟩⟩;unfold i0z;rw[E0b l hf,e1,e2,S0f hw hf,N0u hw hf];simp[hR,D09]
def O0V {l:List U0}(hw:∀x∈l,l02 x){t:Tm}(ht:n4 l t)(hR:e0M l=true){fuel:Nat}(hf:401<fuel){p q:Nat}{S:List Int}{fs:List Fr}(hp:D0Q l t p q S fs)(hpl:p<u5 l l.length):
  ∃c,h0N fuel l (p:Int)=some (some c,(q:Int),true)/\H0s c l t:=by
 obtain⟨c,e,hc⟩:=M0B hw ht hR hf;refine⟨c,?_,hc⟩;have hLF:C0J l=e0L l l.length:=by simp[C0J,hR]
 have h0:¬((p:Int)<0):=by omega
 have h1:¬((p:Int)>=((e0L l l.length).length:Int)):=by rw[C0e];omega
 have hin:y0 (e0L l l.length) (p:Int)=true:=B4 (by omega) (by rw[C0e];omega);unfold h0N;rw[e,I0x hw hf,hLF];simp[h0,h1,hin,Y5 hp.get];omega
def N0W {l:List U0}(hw:∀x∈l,l02 x){t:Tm}(ht:n4 l t)(hR:e0M l=true){c:B5}(hc:H0s c l t){fuel:Nat}(hf:1000001<fuel){p q:Nat}{S:List Int}{fs:List Fr}(hp:D0Q l t p q S fs):
  k0q fuel c (q:Int)=some ((B05 t p q S fs).1,if(B05 t p q S fs).2.2 then(B05 t p q S fs).2.1 else[]):=by
 have h400:=ht.le;have hln:=ht.len;have hsz:=hp.ctx.size;have hat:=hp.ctx.at_ ht;have hq:q<l.length:=by have:=hat.len;simp only[Tm.size]at this;omega
 have hiu:y0 c.up (q:Int)=true:=B4 (by omega) (by rw[hc.up.len];omega);obtain⟨r,h1,h2,h3⟩:=U0G hw ht hR hc hf (q:Int) fs q (.leaf S) [cls q] [] hp.ctx (by simp;simp only[Tm.size]at hsz;omega) (by simp;simp only[Tm.size]at hsz;omega) fuel (by simp only[Tm.size]at hsz;omega);unfold k0q;rw[hp.num]at h2;simp only[Tm.top,Tm.size,Nat.add_sub_cancel]at h1;simp only[hiu,if_true,C0A (show q<=1000000000 by omega),C09 (show q<=1000000000 by omega),h1,F1];unfold B05;rw[<-h2];cases r with
 |inl y=>obtain⟨y1,y2⟩:=y;rfl
 |inr z=>obtain⟨z1,z2⟩:=z;rw[h3 z1 z2 rfl];rfl
def O0R {l:List U0}(hw:∀x∈l,l02 x){t:Tm}(ht:n4 l t)(hR:e0M l=true){fuel:Nat}(hf:1000001<fuel){p q:Nat}{S:List Int}{fs:List Fr}(hp:D0Q l t p q S fs)(hpl:p<u5 l l.length):
  D0w fuel l (p:Int)=some ((B05 t p q S fs).1,if(B05 t p q S fs).2.2 then(⟨-1,0,(B05 t p q S fs).2.1⟩,true)else(⟨0,0,[]⟩,false)):=by
 have h400:=ht.le;have hln:=ht.len;have hsz:=hp.ctx.size;have hat:=hp.ctx.at_ ht;have hq:q<l.length:=by have:=hat.len;simp only[Tm.size]at this;omega
 obtain⟨u,e1,hu⟩:=N0R ht hR (show 401<fuel by omega);obtain⟨d,e2,hd⟩:=N0p ht hR (show 401<fuel by omega);have hLF:C0J l=e0L l l.length:=by simp[C0J,hR]
 have hIF:D09 l=B00 l l.length:=by simp[D09,hR]
 have hin:y0 (e0L l l.length) (p:Int)=true:=B4 (by omega) (by rw[C0e];omega);obtain⟨r,h1,h2,h3⟩:=T0p ht hR hu hd hf (e0L l l.length) (p:Int) ⟨0,0,[]⟩ fs q (.leaf S) [cls q] [] hp.ctx (by simp;simp only[Tm.size]at hsz;omega) (by simp;simp only[Tm.size]at hsz;omega) fuel (by simp only[Tm.size]at hsz;omega);unfold D0w;rw[hp.num]at h2;simp only[Tm.top,Tm.size,Nat.add_sub_cancel]at h1;rw[e1,e2,N06 hw (by omega) (by omega) (by omega),L0c hw (by omega) (by omega) (by omega),F0v hw (by omega) (by omega) (by omega),hLF,hIF];simp only[F1,hin,if_true,Y5 hp.get,C0A (show q<=1000000000 by omega),C09 (show q<=1000000000 by omega),h1];unfold B05;rw[<-h2];cases r with
 |inl y=>obtain⟨y1,y2,y3⟩:=y;rfl
 |inr z=>obtain⟨z1,z2,z3⟩:=z;obtain⟨rfl,rfl⟩:=h3 z1 z2 z3 rfl;rfl
def L0I {l:List U0}{t:Tm}(ht:n4 l t){p q:Nat}{S:List Int}{fs:List Fr}(hp:D0Q l t p q S fs):c0s t.leaves (B05 t p q S fs).1/\(B05 t p q S fs).2.1.length<=500000:=by
 have hsz:=hp.ctx.size;have h400:=ht.le;have:=E0k ht fs q (.leaf S) [cls q] [] hp.ctx ⟨by simp,List.Pairwise.nil⟩ (by simp;simp only[Tm.size]at hsz;omega);rw[hp.num]at this;exact this
def D07 {l:List U0}{t:Tm}(ht:n4 l t):∀(fs:List Fr) (lo p:Nat) (s:Tm) (st:List Int) (out:List E1),Ctx t lo s fs->out.length+1000*fs.length<=500000->(A0c lo p s st out fs).1.length<=500000
 |[],lo,p,s,st,out,hx,hl=>by simp only[A0c];simpa using hl
 |
  f :: fs,lo,p,s,st,out,hx,hl=>by
  have hpar:=hx.2.at_ ht;have hlen:=hpar.len;have h400:=ht.le;have hln:=ht.len;simp only[length_cons]at hl;cases f with
  |
   catL b=>
   simp only[Fr.e09,Fr.off,sub_zero,Tm.size]at hlen;have h1:=E0D ((fs.length+1:Nat):Int) (b.b0r (lo+s.size) (p+s.leaves) st) out;have h2:=b.D0l (lo+s.size) (p+s.leaves) st;have h3:=b.D0m;simp only[A0c];split
   ·exact D07 ht fs lo p (.cat s b) _ _ hx.2 (by omega)
   ·dsimp only;omega
  |
   star=>
   simp only[Fr.e09,Fr.off,sub_zero,Tm.size]at hlen;have h1:=E0D ((fs.length+1:Nat):Int) (s.b0r lo p st) out;have h2:=s.D0l lo p st;have h3:=s.D0m;simp only[A0c];exact D07 ht fs lo p (.star s) _ _ hx.2 (by omega)
  |catR a=>exact D07 ht fs (lo-(Fr.catR a).off) (p-(Fr.catR a).lvs) ((Fr.catR a).e09 s) _ out hx.2 (by omega)
  |altR a=>exact D07 ht fs (lo-(Fr.altR a).off) (p-(Fr.altR a).lvs) ((Fr.altR a).e09 s) _ out hx.2 (by omega)
  |altL b=>exact D07 ht fs (lo-(Fr.altL b).off) (p-(Fr.altL b).lvs) ((Fr.altL b).e09 s) _ out hx.2 (by omega)
  |maybe=>exact D07 ht fs (lo-Fr.maybe.off) (p-Fr.maybe.lvs) (Fr.maybe.e09 s) _ out hx.2 (by omega)
  |group n=>exact D07 ht fs (lo-(Fr.group n).off) (p-(Fr.group n).lvs) ((Fr.group n).e09 s) _ out hx.2 (by omega)
  |iter=>exact D07 ht fs (lo-Fr.iter.off) (p-Fr.iter.lvs) (Fr.iter.e09 s) _ out hx.2 (by omega)
def K0E {l:List U0}{t:Tm}(ht:n4 l t){p q:Nat}{S:List Int}{fs:List Fr}(hp:D0Q l t p q S fs):(B05 t p q S fs).1.length<=500000:=by
 have hsz:=hp.ctx.size;have h400:=ht.le;exact D07 ht fs q p (.leaf S) [cls q] [] hp.ctx (by simp;simp only[Tm.size]at hsz;omega)
def T0Y {l:List U0}(hw:∀x∈l,l02 x){t:Tm}(ht:n4 l t)(hR:e0M l=true){fuel:Nat}(hf:1000001<fuel){p q:Nat}{S:List Int}{fs:List Fr}(hp:D0Q l t p q S fs)(hpl:p<u5 l l.length):
  o04 fuel l (p:Int)=some (K5 E1.To (B05 t p q S fs).1):=by
 obtain⟨c,e,hc⟩:=O0V hw ht hR (show 401<fuel by omega) hp hpl;obtain⟨hways,_⟩:=L0I ht hp;have hl:=K0E ht hp;have hlv:=ht.lv;unfold o04;rw[e];simp only[F1,N0W hw ht hR hc hf hp,hways.b07 (by omega) (by omega),if_true];have hperm:=e0x E1.To (B05 t p q S fs).1;rw[s0w _ (by rw[g0F];omega) (by rw[g0F];omega) (fun h hh=>(hways.ok h (hperm.mem_iff.1 hh)).2.2)];simp
def T0H {l:List U0}(hw:∀x∈l,l02 x){t:Tm}(ht:n4 l t)(hR:e0M l=true){fuel:Nat}(hf:1000001<fuel){p q:Nat}{S:List Int}{fs:List Fr}(hp:D0Q l t p q S fs)(hpl:p<u5 l l.length):
  D0N fuel l (p:Int)=some (K5 E1.To (B05 t p q S fs).1):=by
 obtain⟨hways,_⟩:=L0I ht hp;have hl:=K0E ht hp;have hlv:=ht.lv;have h400:=ht.le;have hln:=ht.len;have hla:=O05 ht;have hLF:C0J l=e0L l l.length:=by simp[C0J,hR]
 have hrl:=F0v hw (show l.length*64<=140737488351232 by omega) (show 401<fuel by omega) (by omega);rw[hLF]at hrl;have h0:¬((p:Int)<0):=by omega
 have h1:¬((p:Int)>=((e0L l l.length).length:Int)):=by rw[C0e];omega
 unfold D0N;simp only[q0,h0,hrl,h1,O0R hw ht hR hf hp hpl];generalize hcl:(B05 t p q S fs).1=out at *;generalize hx3:(out,(if(B05 t p q S fs).2.2=true then((⟨-1,0,(B05 t p q S fs).2.1⟩:E1),true)else(⟨0,0,[]⟩,false)))=x3;have hx1:x3.1=out:=by rw[<-hx3]
 have inner:∀(r:Nat) (x4 acc:List E1),acc.length+out.length<=1000000->iter (E08 fuel l x3 x4 (r:Int)) fuel (acc,0)=some (acc++out.filter fun h=>h.To==(r:Int)):=by
  intro r x4 acc hacc;have:=j0K (step:=E08 fuel l x3 x4 (r:Int)) (fun i=>(acc++(out.take i).filter (fun h=>h.To==(r:Int)),(i:Int))) (acc++out.filter fun h=>h.To==(r:Int)) out.length (fun i hi=>.inl (by
   have hin:y0 out (i:Int)=true:=B4 (by omega) (by omega);have hd1:(i:Int)<(out.length:Int):=by omega
   have hg:gt out (i:Int)=out[i]:=Y5 (by simp[hi]);have hle:((out.take i).filter (fun h=>h.To==(r:Int))).length<=i:=Nat.le_trans (List.length_filter_le _ _) (by simp;omega);have hap:C1 40 (acc++(out.take i).filter (fun h=>h.To==(r:Int))) [out[i]]=true:=a7 (by simp;omega);have htk:out.take (i+1)=out.take i++[out[i]]:=List.take_succ_eq_append_getElem hi;unfold E08;simp only[hx1,hd1,decide_true,if_true,hin,hg,hap,R2 (show i<9223372036854775807 by omega),htk,List.filter_append]
   by_cases c:(out[i].To==(r:Int))=true
   ·simp[c]
   ·simp[c])) (by unfold E08;simp[hx1]) out.length 0 fuel (by omega) (by omega)
  simpa using this
 have outer:=j0K (step:=F01 fuel l x3) (fun r=>(bucket out r,(r:Int))) (bucket out t.leaves) t.leaves (fun r hr=>.inl (by
  have hd1:(r:Int)<((e0L l l.length).length:Int):=by rw[C0e,hla];omega
  unfold F01;have:=W01 out r;simp only[q0,hrl,hd1,inner r (bucket out r) (bucket out r) (by omega),R2 (show r<9223372036854775807 by omega)];rfl)) (by unfold F01;simp[hrl,C0e,hla]) t.leaves 0 fuel (by omega) (by omega)
 simp only[bucket]at outer;rw[show(([]:List E1),(0:Int))=([],((0:Nat):Int))from rfl,outer,P0Q hways];rfl
def C03 (s:List Int):E1×Bool:=if s.length=0 then(⟨0,0,[]⟩,false)else(⟨-1,0,s⟩,true)
def E0j:∀(fs:List Fr) (lo p:Nat) (s:Tm) (st:List Int) (out:List E1),st≠[]->(A0c lo p s st out fs).2.2=true->(A0c lo p s st out fs).2.1≠[]
 |[],lo,p,s,st,out,hst,_=>by simpa only[A0c]using hst
 |
  f :: fs,lo,p,s,st,out,hst,h=>by
  cases f with
  |
   catL b=>
   simp only[A0c]at h ⊢;split at h
   ·rename_i hb;rw[if_pos hb];exact E0j fs _ _ _ _ _ (by simp) h
   ·simp at h
  |star=>simp only[A0c]at h ⊢;exact E0j fs _ _ _ _ _ (by simp) h
  |catR a=>exact E0j fs (lo-(Fr.catR a).off) (p-(Fr.catR a).lvs) ((Fr.catR a).e09 s) _ out (by simp) h
  |altR a=>exact E0j fs (lo-(Fr.altR a).off) (p-(Fr.altR a).lvs) ((Fr.altR a).e09 s) _ out (by simp) h
  |altL b=>exact E0j fs (lo-(Fr.altL b).off) (p-(Fr.altL b).lvs) ((Fr.altL b).e09 s) _ out (by simp) h
  |maybe=>exact E0j fs (lo-Fr.maybe.off) (p-Fr.maybe.lvs) (Fr.maybe.e09 s) _ out (by simp) h
  |group n=>exact E0j fs (lo-(Fr.group n).off) (p-(Fr.group n).lvs) ((Fr.group n).e09 s) _ out (by simp) h
  |iter=>exact E0j fs (lo-Fr.iter.off) (p-Fr.iter.lvs) (Fr.iter.e09 s) _ out (by simp) h
def V0r {l:List U0}(hw:∀x∈l,l02 x){t:Tm}(ht:n4 l t)(hR:e0M l=true){fuel:Nat}(hf:1000001<fuel){p q:Nat}{S:List Int}{fs:List Fr}(hp:D0Q l t p q S fs)(hpl:p<u5 l l.length):
  g0v fuel l (p:Int)=some (C03 (if(B05 t p q S fs).2.2 then(B05 t p q S fs).2.1 else[])):=by
 obtain⟨c,e,hc⟩:=O0V hw ht hR (show 401<fuel by omega) hp hpl;have h1:((p:Int)==-1)=false:=by simp
 unfold g0v C03;simp only[q0,h1,e,N0W hw ht hR hc hf hp];generalize (if(B05 t p q S fs).2.2=true then(B05 t p q S fs).2.1 else[])=s
 by_cases hs:s.length=0<;>simp[hs]
def S0O {l:List U0}(hw:∀x∈l,l02 x){t:Tm}(ht:n4 l t)(hR:e0M l=true){fuel:Nat}(hf:1000001<fuel){p q:Nat}{S:List Int}{fs:List Fr}(hp:D0Q l t p q S fs)(hpl:p<u5 l l.length):
  D0c fuel l (p:Int)=some (C03 (if(B05 t p q S fs).2.2 then(B05 t p q S fs).2.1 else[])):=by
 have h1:((p:Int)==-1)=false:=by simp
 have h2:¬((p:Int) < -1):=by omega
 have h400:=ht.le;have hln:=ht.len;have hLF:C0J l=e0L l l.length:=by simp[C0J,hR]
 have h3:¬((p:Int)>=((e0L l l.length).length:Int)):=by rw[C0e];omega
 unfold D0c C03;simp only[q0,h2,D0v l (show l.length*64<=140737488351232 by omega) (show l.length+1<fuel by omega),hR,F0v hw (show l.length*64<=140737488351232 by omega) (show 401<fuel by omega) (by omega),hLF,h3,h1,O0R hw ht hR hf hp hpl]
 by_cases hb:(B05 t p q S fs).2.2=true
 ·have:=E0j fs q p (.leaf S) [cls q] [] (by simp) hb;have h5:(B05 t p q S fs).2.1.length≠0:=fun h=>this (List.eq_nil_of_length_eq_zero h);simp[hb,h5]
 ·simp[hb]
def P0P {l:List U0}(hw:∀x∈l,l02 x){t:Tm}(ht:n4 l t)(hR:e0M l=true){fuel:Nat}(hf:1000001<fuel):g0v fuel l (-1)=some (C03 (if t.can then t.steps 0 else[]))/\D0c fuel l (-1)=some (C03 (if t.can then t.steps 0 else[])):=by
 have h400:=ht.le;have hln:=ht.len;have hp:=t.size_pos;have hW:W ((l.length:Int)-1)=(t.top 0:Int):=by rw[c0R (by omega) (by omega)];unfold Tm.top;omega
 have hLF:C0J l=e0L l l.length:=by simp[C0J,hR]
 have h3:¬((-1:Int)>=((e0L l l.length).length:Int)):=by omega
 constructor
 ·unfold g0v C03;simp only[beq_self_eq_true,if_true,hW,K0S hw ht hR (show 401<fuel by omega) ht.at0,F1];generalize (if t.can=true then t.steps 0 else[])=s
  by_cases hs:s.length=0
  ·simp[hs]
  ·simp[hs]
 ·unfold D0c C03;simp only[q0,show ¬((-1:Int) < -1)from by omega,D0v l (show l.length*64<=140737488351232 by omega) (show l.length+1<fuel by omega),hR,F0v hw (show l.length*64<=140737488351232 by omega) (show 401<fuel by omega) (by omega),hLF,h3,beq_self_eq_true,hW,P0H hw ht hR (show 401<fuel by omega) ht.at0];generalize (if t.can=true then t.steps 0 else[])=s
  by_cases hs:s.length=0
  ·simp[hs]
  ·simp[hs]
def X0f {l:List U0}(hw:∀x∈l,l02 x){t:Tm}(ht:n4 l t)(hR:e0M l=true){fuel:Nat}(hf:1000001<fuel){lo:Nat}{s:Tm}(h:At l lo s):o0v fuel l (s.top lo:Int)=some (s.b0r lo (u5 l lo) [])/\D0V fuel l (s.top lo:Int)=some (s.b0r lo (u5 l lo) []):=by
 have h400:=ht.le;have hln:=ht.len;have htop:=h.C0a;have hsl:=h.len;have h0:¬((s.top lo:Int)<0):=by omega
 have h1:¬((s.top lo:Int)>=(l.length:Int)):=by omega
 have hil:=s.D0l lo (u5 l lo) [];have hls:=s.D0m;constructor
 ·obtain⟨c,e,hc⟩:=M0B hw ht hR (show 401<fuel by omega);unfold o0v;rw[e];simp only[Bool.not_true,Bool.false_eq_true,if_false,h0,decide_false,h1,F1,L0K hw ht hR hc (show 401<fuel by omega) s lo h fuel [] [] (by omega) (by simp;omega) (by simp;omega),List.nil_append];rw[s0w _ (by omega) (by omega) (fun h' hh=>(s.J0e lo (u5 l lo) [] (by omega) (by simp;omega) h' hh).2.2)];rfl
 ·unfold D0V;have hIF:D09 l=B00 l l.length:=by simp[D09,hR]
  rw[D0v l (show l.length*64<=140737488351232 by omega) (show l.length+1<fuel by omega),hR];simp only[Bool.not_true,Bool.false_eq_true,if_false,h0,decide_false,h1,F1,N06 hw (show l.length*64<=140737488351232 by omega) (show 401<fuel by omega) (by omega),L0c hw (show l.length*64<=140737488351232 by omega) (show 401<fuel by omega) (by omega),hIF,J0T ht hR (show 401<fuel by omega) s lo h fuel [] (by omega) (by simp;omega)]
def l4 (B:Int)(st:List Int):Prop:=∀x∈st,0<=x/\x<=B
def l4.app {B:Int}{a b:List Int}(h:l4 B a)(k:l4 B b):l4 B (a++b):=fun x hx=>(mem_append.1 hx).elim (h x) (k x)
def l4.one {B x:Int}(h0:0<=x)(h:x<=B):l4 B [x]:=fun y hy=>by simp at hy;subst hy;exact⟨h0,h⟩
def l4.nil {B:Int}:l4 B []:=fun _ h=>by cases h
def l4.n3 {B:Int}{q:Nat}(h:2*(q:Int)+1<=B):l4 B [n3 q]:=l4.one (by unfold Old.n3;omega) (by unfold Old.n3;omega)
def l4.cls {B:Int}{q:Nat}(h:2*(q:Int)+1<=B):l4 B [cls q]:=l4.one (by unfold Old.cls;omega) (by unfold Old.cls;omega)
def l4.two {B:Int}{q:Nat}(h:2*(q:Int)+1<=B):l4 B [Old.n3 q,Old.cls q]:=l4.app (l4.n3 h) (l4.cls h)
def Tm.M0q (t:Tm):∀(lo:Nat) (B:Int),2*((lo+t.size:Nat):Int)<=B->l4 B (t.steps lo):=by
 induction t with
 |eps=>intro lo B h;simp only[Tm.size]at h;simp only[Tm.steps];exact l4.two (by omega)
 |leaf s=>intro lo B h;simp only[Tm.size]at h;simp only[Tm.steps];exact l4.two (by omega)
 |
  cat a b iha ihb=>
  intro lo B h;simp only[Tm.size]at h;simp only[Tm.steps];have ht:2*((Tm.top (.cat a b) lo:Nat):Int)+1<=B:=by simp only[Tm.top,Tm.size];omega
  exact((l4.n3 ht).app ((iha lo B (by omega)).app (ihb (lo+a.size) B (by omega)))).app (l4.cls ht)
 |
  alt a b iha ihb=>
  intro lo B h;simp only[Tm.size]at h;simp only[Tm.steps];have ht:2*((Tm.top (.alt a b) lo:Nat):Int)+1<=B:=by simp only[Tm.top,Tm.size];omega
  refine((l4.n3 ht).app ?_).app (l4.cls ht);split
  ·exact iha lo B (by omega)
  ·exact ihb (lo+a.size) B (by omega)
 |star a iha=>intro lo B h;simp only[Tm.size]at h;simp only[Tm.steps];exact l4.two (by simp only[Tm.top,Tm.size];omega)
 |maybe a iha=>intro lo B h;simp only[Tm.size]at h;simp only[Tm.steps];exact l4.two (by simp only[Tm.top,Tm.size];omega)
 |
  group n a iha=>
  intro lo B h;simp only[Tm.size]at h;simp only[Tm.steps];have ht:2*((Tm.top (.group n a) lo:Nat):Int)+1<=B:=by simp only[Tm.top,Tm.size];omega
  exact((l4.n3 ht).app (iha lo B (by omega))).app (l4.cls ht)
 |
  iter a iha=>
  intro lo B h;simp only[Tm.size]at h;simp only[Tm.steps];have ht:2*((Tm.top (.iter a) lo:Nat):Int)+1<=B:=by simp only[Tm.top,Tm.size];omega
  exact((l4.n3 ht).app (iha lo B (by omega))).app (l4.cls ht)
def C04 (B:Int)(l:List E1):Prop:=∀h∈l,l4 B h.Steps
def C04.app {B:Int}{a b:List E1}(h:C04 B a)(k:C04 B b):C04 B (a++b):=fun x hx=>(mem_append.1 hx).elim (h x) (k x)
def Tm.L02 (t:Tm):∀(lo p:Nat) (ahead:List Int) (B:Int),2*((lo+t.size:Nat):Int)<=B->l4 B ahead->C04 B (t.b0r lo p ahead):=by
 induction t with
 |eps=>intro lo p ahead B h k x hx;simp[Tm.b0r]at hx
 |leaf s=>intro lo p ahead B h k x hx;simp only[Tm.size]at h;simp only[Tm.b0r,mem_singleton]at hx;subst hx;exact k.app (l4.n3 (by omega))
 |
  cat a b iha ihb=>
  intro lo p ahead B h k;simp only[Tm.size]at h;simp only[Tm.b0r];have ht:2*((Tm.top (.cat a b) lo:Nat):Int)+1<=B:=by simp only[Tm.top,Tm.size];omega
  have k1:=k.app (l4.n3 ht);refine(iha lo p _ B (by omega) k1).app ?_;split
  ·exact ihb _ _ _ B (by omega) (k1.app (a.M0q lo B (by omega)))
  ·intro x hx;cases hx
 |
  alt a b iha ihb=>
  intro lo p ahead B h k;simp only[Tm.size]at h;simp only[Tm.b0r];have ht:2*((Tm.top (.alt a b) lo:Nat):Int)+1<=B:=by simp only[Tm.top,Tm.size];omega
  have k1:=k.app (l4.n3 ht);exact(iha lo p _ B (by omega) k1).app (ihb _ _ _ B (by omega) k1)
 |
  star a iha|maybe a iha|group n a iha|iter a iha=>
  intro lo p ahead B h k;simp only[Tm.size]at h;simp only[Tm.b0r];exact iha lo p _ B (by omega) (k.app (l4.n3 (by simp only[Tm.top,Tm.size];omega)))
def I0J {B:Int}(d:Int):∀(r out:List E1),C04 B out->C04 B r->C04 B (C0i d out r)
 |[],out,h,_=>h
 |
  x :: r,out,h,k=>by
  simp only[C0i];have kr:C04 B r:=fun y hy=>k y (List.mem_cons_of_mem _ hy);split
  ·exact I0J d r out h kr
  ·exact I0J d r _ (h.app fun y hy=>by simp at hy;subst hy;exact k x (by simp)) kr
def Ctx.lo_le {t:Tm}:∀{fs:List Fr} {lo:Nat} {s:Tm},Ctx t lo s fs->lo+s.size<=t.size
 |[],lo,s,⟨h0,h⟩=>by subst h;omega
 |
  f :: fs,lo,s,⟨h0,h⟩=>by
  have:=Ctx.lo_le h;cases f<;>simp[Fr.e09,Fr.off,Tm.size]at this h0 ⊢<;>omega
def I0P {t:Tm}{B:Int}(hB:2*(t.size:Int)<=B):∀(fs:List Fr) (lo p:Nat) (s:Tm) (st:List Int) (out:List E1),Ctx t lo s fs->l4 B st->C04 B out->
  C04 B (A0c lo p s st out fs).1/\l4 B (A0c lo p s st out fs).2.1
 |[],lo,p,s,st,out,_,h,k=>by simp only[A0c];exact⟨k,h⟩
 |
  f :: fs,lo,p,s,st,out,hx,h,k=>by
  have hlo:=Ctx.lo_le hx.2;have hx2:=hx.2;have h0:=hx.1;cases f with
  |
   catL b=>
   simp only[Fr.e09,Fr.off,sub_zero,Tm.size]at hlo hx2 h0;have hs:=b.M0q (lo+s.size) B (by omega);have hi:=b.L02 (lo+s.size) (p+s.leaves) st B (by omega) h;have ht:=I0J ((fs.length+1:Nat):Int) _ _ k hi;simp only[A0c];split
   ·exact I0P hB fs lo p _ _ _ hx2 ((h.app hs).app (l4.cls (by simp only[Tm.top,Tm.size];omega))) ht
   ·exact⟨ht,l4.nil⟩
  |
   star=>
   simp only[Fr.e09,Fr.off,sub_zero,Tm.size]at hlo hx2 h0;simp only[A0c];exact I0P hB fs lo p _ _ _ hx2 (h.app (l4.cls (by simp only[Tm.top,Tm.size];omega))) (I0J _ _ _ k (s.L02 lo p st B (by omega) h))
  |
   catR a|altL b|altR a|maybe|group n|iter=>
   simp only[Fr.e09,Fr.off,sub_zero,Tm.size]at hlo hx2 h0;simp only[A0c,Fr.e09,Fr.off,Fr.lvs,sub_zero];exact I0P hB fs _ _ _ _ _ hx2 (h.app (l4.cls (by simp only[Tm.top,Tm.size];omega))) k
def D0p (l:List E1):Prop:=∀h∈l,0<=h.Turn/\h.Turn<=400
def D0p.app {a b:List E1}(h:D0p a)(k:D0p b):D0p (a++b):=fun x hx=>(mem_append.1 hx).elim (h x) (k x)
def Tm.W0y (t:Tm):∀(lo p:Nat) (ahead:List Int),D0p (t.b0r lo p ahead):=by
 induction t with
 |eps=>intro lo p ahead x hx;simp[Tm.b0r]at hx
 |leaf s=>intro lo p ahead x hx;simp only[Tm.b0r,mem_singleton]at hx;subst hx;exact⟨Int.le_refl _,show(0:Int)<=400 by omega⟩
 |
  cat a b iha ihb=>
  intro lo p ahead;simp only[Tm.b0r];refine(iha lo p _).app ?_;split
  ·exact ihb _ _ _
  ·intro x hx;cases hx
 |alt a b iha ihb=>intro lo p ahead;simp only[Tm.b0r];exact(iha lo p _).app (ihb _ _ _)
 |star a iha|maybe a iha|group n a iha|iter a iha=>intro lo p ahead;simp only[Tm.b0r];exact iha lo p _
def I0o {d:Int}(h0:0<=d)(h1:d<=400):∀(r out:List E1),D0p out->D0p (C0i d out r)
 |[],out,h=>h
 |
  x :: r,out,h=>by
  simp only[C0i];split
  ·exact I0o h0 h1 r out h
  ·exact I0o h0 h1 r _ (h.app fun y hy=>by simp at hy;subst hy;exact⟨h0,h1⟩)
def I0A {t:Tm}(ht:t.size<=400):∀(fs:List Fr) (lo p:Nat) (s:Tm) (st:List Int) (out:List E1),Ctx t lo s fs->D0p out->D0p (A0c lo p s st out fs).1
 |[],lo,p,s,st,out,_,k=>by simp only[A0c];exact k
 |
  f :: fs,lo,p,s,st,out,hx,k=>by
  have hsz:=Ctx.size hx;have hx2:=hx.2;have:=s.size_pos;simp only[length_cons]at hsz;cases f with
  |
   catL b=>
   simp only[Fr.e09,Fr.off,sub_zero]at hx2;have h:=I0o (d:=((fs.length+1:Nat):Int)) (by omega) (by omega) (b.b0r (lo+s.size) (p+s.leaves) st) out k;simp only[A0c];split
   ·exact I0A ht fs lo p _ _ _ hx2 h
   ·exact h
  |
   star=>
   simp only[Fr.e09,Fr.off,sub_zero]at hx2;simp only[A0c];exact I0A ht fs lo p _ _ _ hx2 (I0o (by omega) (by omega) _ _ k)
  |
   catR a|altL b|altR a|maybe|group n|iter=>
   simp only[Fr.e09,Fr.off,sub_zero]at hx2;simp only[A0c,Fr.e09,Fr.off,Fr.lvs,sub_zero];exact I0A ht fs _ _ _ _ _ hx2 k
