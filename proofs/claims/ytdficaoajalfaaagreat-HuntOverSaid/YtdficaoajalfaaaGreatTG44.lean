/- The ways from a place, to the end, and c_5 a node: the program and the document tell the same. How great the numbers of steps may be. Its conditions: none. -/
import Derived.Test.YtdficaoajalfaaaGreatTG43
open Nat (lt_or_ge zero_le sub_zero)
open List (mem_singleton mem_append length_cons mem_filter)
set_option linter.all false
namespace Go.Proofs.YtdficaoajalfaaaGreat.Old
open Go.V Go.RowKit
theorem Ctx.down {t:Tm}:∀ {s:Tm} {lo:Nat} {fs:List Fr},Ctx t lo s fs->∀ i,lo<=i->i<lo+s.size->∃ lo' s' fs',Ctx t lo' s' fs'/\s'.top lo'=i:=by
 intro s
 induction s with
 |eps=>intro lo fs h i h1 h2;exact ⟨lo,.eps,fs,h,by simp only [Tm.top,Tm.size] at *;omega⟩
 |leaf s=>intro lo fs h i h1 h2;exact ⟨lo,.leaf s,fs,h,by simp only [Tm.top,Tm.size] at *;omega⟩
 |
  cat a b iha ihb=>
  intro lo fs h i h1 h2
  simp only [Tm.size] at h2
  rcases lt_or_ge i (lo+a.size) with c | c
  ·exact iha (fs:=.catL b :: fs) ⟨zero_le _,h⟩ i h1 c
  ·rcases lt_or_ge i (lo+a.size+b.size) with c2 | c2
   ·exact ihb (lo:=lo+a.size) (fs:=.catR a :: fs) ⟨by simp [Fr.off],by simpa [Fr.off,Fr.e_8] using h⟩ i c c2
   ·exact ⟨lo,_,fs,h,by simp only [Tm.top,Tm.size];omega⟩
 |
  alt a b iha ihb=>
  intro lo fs h i h1 h2
  simp only [Tm.size] at h2
  rcases lt_or_ge i (lo+a.size) with c | c
  ·exact iha (fs:=.altL b :: fs) ⟨zero_le _,h⟩ i h1 c
  ·rcases lt_or_ge i (lo+a.size+b.size) with c2 | c2
   ·exact ihb (lo:=lo+a.size) (fs:=.altR a :: fs) ⟨by simp [Fr.off],by simpa [Fr.off,Fr.e_8] using h⟩ i c c2
   ·exact ⟨lo,_,fs,h,by simp only [Tm.top,Tm.size];omega⟩
 |
  star a iha=>
  intro lo fs h i h1 h2
  simp only [Tm.size] at h2
  rcases lt_or_ge i (lo+a.size) with c | c
  ·exact iha (fs:=.star :: fs) ⟨zero_le _,h⟩ i h1 c
  ·exact ⟨lo,_,fs,h,by simp only [Tm.top,Tm.size];omega⟩
 |
  maybe a iha=>
  intro lo fs h i h1 h2
  simp only [Tm.size] at h2
  rcases lt_or_ge i (lo+a.size) with c | c
  ·exact iha (fs:=.maybe :: fs) ⟨zero_le _,h⟩ i h1 c
  ·exact ⟨lo,_,fs,h,by simp only [Tm.top,Tm.size];omega⟩
 |
  group n a iha=>
  intro lo fs h i h1 h2
  simp only [Tm.size] at h2
  rcases lt_or_ge i (lo+a.size) with c | c
  ·exact iha (fs:=.group n :: fs) ⟨zero_le _,h⟩ i h1 c
  ·exact ⟨lo,_,fs,h,by simp only [Tm.top,Tm.size];omega⟩
 |
  iter a iha=>
  intro lo fs h i h1 h2
  simp only [Tm.size] at h2
  rcases lt_or_ge i (lo+a.size) with c | c
  ·exact iha (fs:=.iter :: fs) ⟨zero_le _,h⟩ i h1 c
  ·exact ⟨lo,_,fs,h,by simp only [Tm.top,Tm.size];omega⟩
theorem Ctx.at_ {l:List a_2} {t:Tm} (ht:IsT l t):∀ {fs:List Fr} {lo:Nat} {s:Tm},Ctx t lo s fs->At l lo s
 |[],lo,s,⟨h1,h2⟩=>by subst h1;subst h2;exact ht.at0
 |
  f :: fs,lo,s,⟨ho,h⟩=>by
  have h1:=Ctx.at_ ht h
  cases f<;>simp only [Fr.e_8,Fr.off,sub_zero] at h1 ho
  case catL b=>exact ((At.bin rfl rfl).1 h1).1
  case altL b=>exact ((At.bin rfl rfl).1 h1).1
  case catR a=>
   have:=((At.bin rfl rfl).1 h1).2.1
   rwa [show lo-a.size+a.size=lo from by omega] at this
  case altR a=>
   have:=((At.bin rfl rfl).1 h1).2.1
   rwa [show lo-a.size+a.size=lo from by omega] at this
  all_goals exact ((At.un rfl rfl).1 h1).1
structure a_c7 (l:List a_2) (t:Tm) (p q:Nat) (S:List Int) (fs:List Fr):Prop where
 ctx:Ctx t q (.leaf S) fs
 num:a_3 l q=p
 get:(b_3 l l.length)[p]?=some (q:Int)
theorem b_jn {l:List a_2} {t:Tm} (ht:IsT l t) {p:Nat} (hp:p<a_3 l l.length):∃ q S fs,a_c7 l t p q S fs:=by
 obtain ⟨q,h1,h2,h3,h4⟩:=z_9 l l.length p hp
 obtain ⟨lo,s,fs,hx,hs⟩:=Ctx.down (t:=t) (s:=t) (lo:=0) (fs:=[]) ⟨rfl,rfl⟩ q (zero_le _) (by rw [ht.len] at h1;omega)
 have hat:=hx.at_ ht
 have hg:=hat.f_6
 rw [hs] at hg
 cases s with
 |
  leaf S=>
  simp only [Tm.top,Tm.size,Nat.add_sub_cancel] at hs
  subst hs
  exact ⟨lo,S,fs,hx,h4,h2⟩
 |_=>rw [hg] at h3;simp [Tm.node] at h3
theorem a_xk {l:List a_2} {t:Tm} (ht:IsT l t):a_3 l l.length=t.leaves:=by
 have:=o_9 ht.at0
 rw [Nat.zero_add,<-ht.len] at this
 simpa [a_3] using this
def b_ml (n:Nat) (h:a_1):Prop:=0<=h.To/\h.To<n/\h.Steps.length<=2000000
theorem Tm.a_wr (s:Tm):∀ (lo p:Nat) (ahead:List Int),s.size<=400->ahead.length+1000*s.size<=2000000->∀ h∈s.c_5 lo p ahead,(p:Int)<=h.To/\h.To<((p+s.leaves:Nat):Int)/\h.Steps.length<=2000000:=by
 induction s with
 |eps=>intro lo p ahead _ _ h hh;simp [Tm.c_5] at hh
 |leaf s=>intro lo p ahead _ ho h hh;simp only [Tm.c_5,mem_singleton] at hh;subst hh;simp only [Tm.leaves,Tm.size] at *;refine ⟨by simp,by simp;omega,by simp;omega⟩
 |
  cat a b iha ihb=>
  intro lo p ahead hs ho h hh
  have sa:=a.n_8 lo
  simp only [Tm.c_5,Tm.size,Tm.leaves,mem_append] at *
  rcases hh with hh | hh
  ·have:=iha lo p _ (by omega) (by simp;omega) h hh;refine ⟨by omega,by omega,this.2.2⟩
  ·split at hh
   ·have:=ihb (lo+a.size) (p+a.leaves) _ (by omega) (by simp;omega) h hh;refine ⟨by omega,by omega,this.2.2⟩
   ·simp at hh
 |
  alt a b iha ihb=>
  intro lo p ahead hs ho h hh
  simp only [Tm.c_5,Tm.size,Tm.leaves,mem_append] at *
  rcases hh with hh | hh
  ·have:=iha lo p _ (by omega) (by simp;omega) h hh;refine ⟨by omega,by omega,this.2.2⟩
  ·have:=ihb (lo+a.size) (p+a.leaves) _ (by omega) (by simp;omega) h hh;refine ⟨by omega,by omega,this.2.2⟩
 |
  star a iha | maybe a iha | group _ a iha | iter a iha=>
  intro lo p ahead hs ho h hh
  simp only [Tm.c_5,Tm.size,Tm.leaves] at *
  exact iha lo p _ (by omega) (by simp;omega) h hh
structure Ways (n:Nat) (out:List a_1):Prop where
 ok:∀ h∈out,b_ml n h
 dist:out.Pairwise fun a b=>a.To≠b.To
theorem a_p3 {n:Nat} (d:Int):∀ (r out:List a_1),Ways n out->(∀ h∈r,b_ml n h)->Ways n (l_3 d out r)
 |[],out,h,_=>h
 |
  x :: r,out,h,hr=>by
  simp only [l_3]
  refine a_p3 d r _ ?_ (fun y hy=>hr y (by simp [hy]))
  split
  ·exact h
  ·rename_i hc
   have hx:=hr x (by simp)
   refine ⟨fun y hy=>?_,?_⟩
   ·rcases mem_append.1 hy with hy | hy
    ·exact h.ok y hy
    ·simp only [mem_singleton] at hy;subst hy;exact hx
   ·refine List.pairwise_append.2 ⟨h.dist,by simp,fun a ha b hb=>?_⟩
    simp only [mem_singleton] at hb
    subst hb
    intro e
    exact hc (List.any_eq_true.2 ⟨a,ha,by simpa using e⟩)
theorem v_6 {l:List a_2} {t:Tm} (ht:IsT l t):∀ (fs:List Fr) (lo:Nat) (s:Tm) (st:List Int) (out:List a_1),Ctx t lo s fs->Ways t.leaves out->st.length+1000*fs.length<=500000->
  Ways t.leaves (f_4 lo (a_3 l lo) s st out fs).1/\(f_4 lo (a_3 l lo) s st out fs).2.1.length<=500000
 |[],lo,s,st,out,hx,hw,hl=>⟨hw,by simp only [f_4];simpa using hl⟩
 |
  f :: fs,lo,s,st,out,hx,hw,hl=>by
  have hpar:=hx.2.at_ ht
  have hlen:=hpar.len
  have h400:=ht.le;have hln:=ht.len
  have hmono:=a_it l hlen
  rw [o_9 hpar,a_xk ht] at hmono
  have hlv:a_3 l (lo-f.off)=a_3 l lo-f.lvs:=by
   cases f<;>simp only [Fr.e_8,Fr.off,Fr.lvs,sub_zero] at hpar ⊢
   case catR a=>
    have h0:=hx.1;simp only [Fr.off] at h0
    have:=o_9 ((At.bin rfl rfl).1 hpar).1
    rw [show lo-a.size+a.size=lo from by omega] at this;omega
   case altR a=>
    have h0:=hx.1;simp only [Fr.off] at h0
    have:=o_9 ((At.bin rfl rfl).1 hpar).1
    rw [show lo-a.size+a.size=lo from by omega] at this;omega
  simp only [length_cons] at hl
  cases f with
  |
   catL b=>
   simp only [Fr.e_8,Fr.off,sub_zero,Tm.leaves,Tm.size] at hpar hmono hlen
   have hbs:=b.n_8 (lo+s.size)
   have hw':=a_p3 (n:=t.leaves) ((fs.length+1:Nat):Int) (b.c_5 (lo+s.size) (a_3 l lo+s.leaves) st) out hw (fun h hh=>by
    have:=b.a_wr (lo+s.size) (a_3 l lo+s.leaves) st (by omega) (by omega) h hh
    exact ⟨by omega,by omega,this.2.2⟩)
   simp only [f_4]
   split
   ·exact v_6 ht fs lo (.cat s b) _ _ hx.2 hw' (by simp;omega)
   ·exact ⟨hw',by simp⟩
  |
   star=>
   simp only [Fr.e_8,Fr.off,sub_zero,Tm.leaves,Tm.size] at hpar hmono hlen
   have hw':=a_p3 (n:=t.leaves) ((fs.length+1:Nat):Int) (s.c_5 lo (a_3 l lo) st) out hw (fun h hh=>by
    have:=s.a_wr lo (a_3 l lo) st (by omega) (by omega) h hh
    exact ⟨by omega,by omega,this.2.2⟩)
   simp only [f_4]
   exact v_6 ht fs lo (.star s) _ _ hx.2 hw' (by simp;omega)
  |
   catR a=>
   have:=v_6 ht fs (lo-(Fr.catR a).off) ((Fr.catR a).e_8 s) (st++[cls (((Fr.catR a).e_8 s).top (lo-(Fr.catR a).off))]) out hx.2 hw (by simp;omega)
   rw [hlv] at this;exact this
  |
   altR a=>
   have:=v_6 ht fs (lo-(Fr.altR a).off) ((Fr.altR a).e_8 s) (st++[cls (((Fr.altR a).e_8 s).top (lo-(Fr.altR a).off))]) out hx.2 hw (by simp;omega)
   rw [hlv] at this;exact this
  |
   altL b=>
   have:=v_6 ht fs (lo-(Fr.altL b).off) ((Fr.altL b).e_8 s) (st++[cls (((Fr.altL b).e_8 s).top (lo-(Fr.altL b).off))]) out hx.2 hw (by simp;omega)
   rw [hlv] at this;exact this
  |
   maybe=>
   have:=v_6 ht fs (lo-Fr.maybe.off) (Fr.maybe.e_8 s) (st++[cls ((Fr.maybe.e_8 s).top (lo-Fr.maybe.off))]) out hx.2 hw (by simp;omega)
   rw [hlv] at this;exact this
  |
   group n=>
   have:=v_6 ht fs (lo-(Fr.group n).off) ((Fr.group n).e_8 s) (st++[cls (((Fr.group n).e_8 s).top (lo-(Fr.group n).off))]) out hx.2 hw (by simp;omega)
   rw [hlv] at this;exact this
  |
   iter=>
   have:=v_6 ht fs (lo-Fr.iter.off) (Fr.iter.e_8 s) (st++[cls ((Fr.iter.e_8 s).top (lo-Fr.iter.off))]) out hx.2 hw (by simp;omega)
   rw [hlv] at this;exact this
theorem Ways.soOk {n:Nat} {out:List a_1} (h:Ways n out) (hn:n<=1000) (hl:out.length<=1000000):soOk a_1.To out=true:=by
 simp only [Go.V.soOk,Bool.and_eq_true,List.all_eq_true,decide_eq_true_eq]
 refine ⟨⟨by omega,fun x hx=>?_⟩,(a_mp _ _).2 h.dist⟩
 have:=h.ok x hx
 exact ⟨this.1,by have:=this.2.1;omega⟩
theorem b_gi {α:Type} (z:α) (ys:List α):i_1 (List.replicate ys.length z) ys=ys:=by
 simp [i_1]
theorem b_my {fuel:Nat} (out:List a_1) (hl:out.length<=1000000) (hf:out.length<fuel) (hs:∀ h∈out,h.Steps.length<=2000000):w_6 fuel out=some out:=by
 have key:=c_2 (step:=a_em fuel out) (fun i=>(out,(i:Int))) out out.length (fun i hi=>.inl (by
  have hin:inb out (i:Int)=true:=a_7 (by omega) (by omega)
  have hd1:(i:Int)<(out.length:Int):=by omega
  have hg:gt out (i:Int)=out[i]:=d_4 (by simp [hi])
  have h1:=hs out[i] (List.getElem_mem _)
  have hmk:g_3 8 (out[i].Steps.length:Int)=true:=by simp [g_3];omega
  unfold a_em
  simp only [hd1,decide_true,if_true,hin,hg,hmk,Int.toNat_natCast,b_gi,c_3 (show i<9223372036854775807 by omega)]
  rw [show (⟨out[i].To,out[i].Turn,out[i].Steps⟩:a_1)=out[i] from rfl]
  simp)) (by unfold a_em;simp) out.length 0 fuel (by omega) (by omega)
 unfold w_6
 rw [show (0:Int)=((0:Nat):Int) from rfl,key];rfl
def bucket (out:List a_1):Nat->List a_1
 |0=>[]
 |n+1=>bucket out n++out.filter fun h=>h.To==(n:Int)
theorem a_p4 (out:List a_1):∀ n,(bucket out n).Perm (out.filter fun h=>decide (0<=h.To)&&decide (h.To<n))
 |
  0=>by
  have:(out.filter fun h=>decide (0<=h.To)&&decide (h.To<((0:Nat):Int)))=[]:=by
   rw [List.filter_eq_nil_iff];intro x _;simp
  rw [this];exact List.Perm.refl _
 |
  n+1=>by
  have ih:=a_p4 out n
  simp only [bucket]
  refine (ih.append_right _).trans ?_
  have e:out.Perm (out.filter (fun h=>decide (0<=h.To)&&decide (h.To<(n:Int)))++out.filter (fun h=>!(decide (0<=h.To)&&decide (h.To<(n:Int))))):=(List.filter_append_perm _ _).symm
  have e2:=e.filter fun h=>decide (0<=h.To)&&decide (h.To<((n+1:Nat):Int))
  refine List.Perm.trans ?_ e2.symm
  rw [List.filter_append,List.filter_filter,List.filter_filter]
  have a1:(out.filter fun a=>(decide (0<=a.To)&&decide (a.To<((n+1:Nat):Int)))&&(decide (0<=a.To)&&decide (a.To<(n:Int))))=out.filter fun h=>decide (0<=h.To)&&decide (h.To<(n:Int)):=by
   apply List.filter_congr;intro x _;rw [Bool.eq_iff_iff];simp;omega
  have a2:(out.filter fun a=>(decide (0<=a.To)&&decide (a.To<((n+1:Nat):Int)))&&!(decide (0<=a.To)&&decide (a.To<(n:Int))))=out.filter fun h=>h.To==(n:Int):=by
   apply List.filter_congr;intro x _;rw [Bool.eq_iff_iff];simp;omega
  rw [a1,a2]
theorem a_s7 (out:List a_1):∀ n,(bucket out n).Pairwise (fun a b=>a.To<=b.To)/\∀ h∈bucket out n,h.To<n
 |0=>⟨List.Pairwise.nil,by simp [bucket]⟩
 |
  n+1=>by
  obtain ⟨h1,h2⟩:=a_s7 out n
  simp only [bucket]
  refine ⟨List.pairwise_append.2 ⟨h1,?_,fun a ha b hb=>?_⟩,fun x hx=>?_⟩
  ·refine List.Pairwise.imp_of_mem ?_ (List.pairwise_of_forall (R:=fun _ _=>True) (fun _ _=>trivial))
   intro a b ha hb _
   simp only [mem_filter,beq_iff_eq] at ha hb
   rw [ha.2,hb.2];exact Int.le_refl _
  ·have:=h2 a ha
   simp only [mem_filter,beq_iff_eq] at hb
   omega
  ·rcases mem_append.1 hx with hx | hx
   ·have:=h2 x hx;omega
   ·simp only [mem_filter,beq_iff_eq] at hx;omega
theorem b_b3 {n:Nat} {out:List a_1} (h:Ways n out):bucket out n=t_2 a_1.To out:=by
 refine a_7c a_1.To ?_ (a_s7 out n).1 ((a_mp _ _).2 h.dist)
 have:=a_p4 out n
 rwa [List.filter_eq_self.2 (fun x hx=>by have:=h.ok x hx;simp [this.1,this.2.1])] at this
theorem b_gu (out:List a_1):∀ n,(bucket out n).length<=out.length:=fun n=>by
 rw [(a_p4 out n).length_eq];exact List.length_filter_le _ _
def i_7 (t:Tm) (p q:Nat) (S:List Int) (fs:List Fr):List a_1×List Int×Bool:=f_4 q p (.leaf S) [cls q] [] fs
theorem m_of {l:List a_2} (hw:∀ x∈l,d_6 x) {t:Tm} (ht:IsT l t) (hR:c_0 l=true) {fuel:Nat} (hf:401<fuel):∃ c,o_4 fuel l=some (some c,true)/\a_uc c l t:=by
 obtain ⟨u,e1,hu⟩:=m_Up ht hR hf
 obtain ⟨d,e2,hd⟩:=a_06 ht hR hf
 refine ⟨⟨l,u,d,q_8 l l.length,v_2 l⟩,?_,⟨rfl,hu,hd,rfl,rfl⟩⟩
 unfold o_4
 rw [a_f4 l hf,e1,e2,b_oq hw hf,b_mm hw hf]
 simp [hR,a_h9]
theorem m_at {l:List a_2} (hw:∀ x∈l,d_6 x) {t:Tm} (ht:IsT l t) (hR:c_0 l=true) {fuel:Nat} (hf:401<fuel) {p q:Nat} {S:List Int} {fs:List Fr} (hp:a_c7 l t p q S fs) (hpl:p<a_3 l l.length) :
  ∃ c,o_5 fuel l (p:Int)=some (some c,(q:Int),true)/\a_uc c l t:=by
 obtain ⟨c,e,hc⟩:=m_of hw ht hR hf
 refine ⟨c,?_,hc⟩
 have hLF:q_5 l=b_3 l l.length:=by simp [q_5,hR]
 have h0:¬ ((p:Int)<0):=by omega
 have h1:¬ ((p:Int)>=((b_3 l l.length).length:Int)):=by rw [f_8];omega
 have hin:inb (b_3 l l.length) (p:Int)=true:=a_7 (by omega) (by rw [f_8];omega)
 unfold o_5
 rw [e,a_yz hw hf,hLF]
 simp [h0,h1,hin,d_4 hp.get]
 omega
theorem a_1o {l:List a_2} (hw:∀ x∈l,d_6 x) {t:Tm} (ht:IsT l t) (hR:c_0 l=true) {c:d_0} (hc:a_uc c l t) {fuel:Nat} (hf:1000001<fuel) {p q:Nat} {S:List Int} {fs:List Fr} (hp:a_c7 l t p q S fs) :
  j_8 fuel c (q:Int)=some ((i_7 t p q S fs).1,if (i_7 t p q S fs).2.2 then (i_7 t p q S fs).2.1 else []):=by
 have h400:=ht.le;have hln:=ht.len
 have hsz:=hp.ctx.size
 have hat:=hp.ctx.at_ ht
 have hq:q<l.length:=by have:=hat.len;simp only [Tm.size] at this;omega
 have hiu:inb c.up (q:Int)=true:=a_7 (by omega) (by rw [hc.up.len];omega)
 obtain ⟨r,h1,h2,h3⟩:=b_o8 hw ht hR hc hf (q:Int) fs q (.leaf S) [cls q] [] hp.ctx (by simp;simp only [Tm.size] at hsz;omega) (by simp;simp only [Tm.size] at hsz;omega) fuel (by simp only [Tm.size] at hsz;omega)
 unfold j_8
 rw [hp.num] at h2
 simp only [Tm.top,Tm.size,Nat.add_sub_cancel] at h1
 simp only [hiu,if_true,s_0 (show q<=1000000000 by omega),a_cm (show q<=1000000000 by omega),h1,a_0]
 unfold i_7
 rw [<-h2]
 cases r with
 |inl y=>obtain ⟨y1,y2⟩:=y;rfl
 |inr z=>obtain ⟨z1,z2⟩:=z;rw [h3 z1 z2 rfl];rfl
theorem a_1h {l:List a_2} (hw:∀ x∈l,d_6 x) {t:Tm} (ht:IsT l t) (hR:c_0 l=true) {fuel:Nat} (hf:1000001<fuel) {p q:Nat} {S:List Int} {fs:List Fr} (hp:a_c7 l t p q S fs) (hpl:p<a_3 l l.length) :
  t_9 fuel l (p:Int)=some ((i_7 t p q S fs).1,if (i_7 t p q S fs).2.2 then (⟨-1,0,(i_7 t p q S fs).2.1⟩,true) else (⟨0,0,[]⟩,false)):=by
 have h400:=ht.le;have hln:=ht.len
 have hsz:=hp.ctx.size
 have hat:=hp.ctx.at_ ht
 have hq:q<l.length:=by have:=hat.len;simp only [Tm.size] at this;omega
 obtain ⟨u,e1,hu⟩:=r_Up ht hR (show 401<fuel by omega)
 obtain ⟨d,e2,hd⟩:=b_g4 ht hR (show 401<fuel by omega)
 have hLF:q_5 l=b_3 l l.length:=by simp [q_5,hR]
 have hIF:a_h9 l=q_8 l l.length:=by simp [a_h9,hR]
 have hin:inb (b_3 l l.length) (p:Int)=true:=a_7 (by omega) (by rw [f_8];omega)
 obtain ⟨r,h1,h2,h3⟩:=b_nv ht hR hu hd hf (b_3 l l.length) (p:Int) ⟨0,0,[]⟩ fs q (.leaf S) [cls q] [] hp.ctx (by simp;simp only [Tm.size] at hsz;omega) (by simp;simp only [Tm.size] at hsz;omega) fuel (by simp only [Tm.size] at hsz;omega)
 unfold t_9
 rw [hp.num] at h2
 simp only [Tm.top,Tm.size,Nat.add_sub_cancel] at h1
 rw [e1,e2,b_dl hw (by omega) (by omega) (by omega),b_ed hw (by omega) (by omega) (by omega),a_oo hw (by omega) (by omega) (by omega),hLF,hIF]
 simp only [a_0,hin,if_true,d_4 hp.get,s_0 (show q<=1000000000 by omega),a_cm (show q<=1000000000 by omega),h1]
 unfold i_7
 rw [<-h2]
 cases r with
 |inl y=>obtain ⟨y1,y2,y3⟩:=y;rfl
 |inr z=>obtain ⟨z1,z2,z3⟩:=z;obtain ⟨rfl,rfl⟩:=h3 z1 z2 z3 rfl;rfl
theorem a_p2 {l:List a_2} {t:Tm} (ht:IsT l t) {p q:Nat} {S:List Int} {fs:List Fr} (hp:a_c7 l t p q S fs):Ways t.leaves (i_7 t p q S fs).1/\(i_7 t p q S fs).2.1.length<=500000:=by
 have hsz:=hp.ctx.size
 have h400:=ht.le
 have:=v_6 ht fs q (.leaf S) [cls q] [] hp.ctx ⟨by simp,List.Pairwise.nil⟩ (by simp;simp only [Tm.size] at hsz;omega)
 rw [hp.num] at this
 exact this
theorem z_2 {l:List a_2} {t:Tm} (ht:IsT l t):∀ (fs:List Fr) (lo p:Nat) (s:Tm) (st:List Int) (out:List a_1),Ctx t lo s fs->out.length+1000*fs.length<=500000->(f_4 lo p s st out fs).1.length<=500000
 |[],lo,p,s,st,out,hx,hl=>by simp only [f_4];simpa using hl
 |
  f :: fs,lo,p,s,st,out,hx,hl=>by
  have hpar:=hx.2.at_ ht
  have hlen:=hpar.len
  have h400:=ht.le;have hln:=ht.len
  simp only [length_cons] at hl
  cases f with
  |
   catL b=>
   simp only [Fr.e_8,Fr.off,sub_zero,Tm.size] at hlen
   have h1:=a_b7 ((fs.length+1:Nat):Int) (b.c_5 (lo+s.size) (p+s.leaves) st) out
   have h2:=b.t_1 (lo+s.size) (p+s.leaves) st
   have h3:=b.q_3
   simp only [f_4]
   split
   ·exact z_2 ht fs lo p (.cat s b) _ _ hx.2 (by omega)
   ·dsimp only;omega
  |
   star=>
   simp only [Fr.e_8,Fr.off,sub_zero,Tm.size] at hlen
   have h1:=a_b7 ((fs.length+1:Nat):Int) (s.c_5 lo p st) out
   have h2:=s.t_1 lo p st
   have h3:=s.q_3
   simp only [f_4]
   exact z_2 ht fs lo p (.star s) _ _ hx.2 (by omega)
  |catR a=>exact z_2 ht fs (lo-(Fr.catR a).off) (p-(Fr.catR a).lvs) ((Fr.catR a).e_8 s) _ out hx.2 (by omega)
  |altR a=>exact z_2 ht fs (lo-(Fr.altR a).off) (p-(Fr.altR a).lvs) ((Fr.altR a).e_8 s) _ out hx.2 (by omega)
  |altL b=>exact z_2 ht fs (lo-(Fr.altL b).off) (p-(Fr.altL b).lvs) ((Fr.altL b).e_8 s) _ out hx.2 (by omega)
  |maybe=>exact z_2 ht fs (lo-Fr.maybe.off) (p-Fr.maybe.lvs) (Fr.maybe.e_8 s) _ out hx.2 (by omega)
  |group n=>exact z_2 ht fs (lo-(Fr.group n).off) (p-(Fr.group n).lvs) ((Fr.group n).e_8 s) _ out hx.2 (by omega)
  |iter=>exact z_2 ht fs (lo-Fr.iter.off) (p-Fr.iter.lvs) (Fr.iter.e_8 s) _ out hx.2 (by omega)
theorem a_rs {l:List a_2} {t:Tm} (ht:IsT l t) {p q:Nat} {S:List Int} {fs:List Fr} (hp:a_c7 l t p q S fs):(i_7 t p q S fs).1.length<=500000:=by
 have hsz:=hp.ctx.size
 have h400:=ht.le
 exact z_2 ht fs q p (.leaf S) [cls q] [] hp.ctx (by simp;simp only [Tm.size] at hsz;omega)
theorem b_qt {l:List a_2} (hw:∀ x∈l,d_6 x) {t:Tm} (ht:IsT l t) (hR:c_0 l=true) {fuel:Nat} (hf:1000001<fuel) {p q:Nat} {S:List Int} {fs:List Fr} (hp:a_c7 l t p q S fs) (hpl:p<a_3 l l.length) :
  m_1 fuel l (p:Int)=some (t_2 a_1.To (i_7 t p q S fs).1):=by
 obtain ⟨c,e,hc⟩:=m_at hw ht hR (show 401<fuel by omega) hp hpl
 obtain ⟨hways,_⟩:=a_p2 ht hp
 have hl:=a_rs ht hp
 have hlv:=ht.lv
 unfold m_1
 rw [e]
 simp only [a_0,a_1o hw ht hR hc hf hp,hways.soOk (by omega) (by omega),if_true]
 have hperm:=z_4 a_1.To (i_7 t p q S fs).1
 rw [b_my _ (by rw [a_ev];omega) (by rw [a_ev];omega) (fun h hh=>(hways.ok h (hperm.mem_iff.1 hh)).2.2)]
 simp
theorem b_rf {l:List a_2} (hw:∀ x∈l,d_6 x) {t:Tm} (ht:IsT l t) (hR:c_0 l=true) {fuel:Nat} (hf:1000001<fuel) {p q:Nat} {S:List Int} {fs:List Fr} (hp:a_c7 l t p q S fs) (hpl:p<a_3 l l.length) :
  n_7 fuel l (p:Int)=some (t_2 a_1.To (i_7 t p q S fs).1):=by
 obtain ⟨hways,_⟩:=a_p2 ht hp
 have hl:=a_rs ht hp
 have hlv:=ht.lv;have h400:=ht.le;have hln:=ht.len
 have hla:=a_xk ht
 have hLF:q_5 l=b_3 l l.length:=by simp [q_5,hR]
 have hrl:=a_oo hw (show l.length*64<=140737488351232 by omega) (show 401<fuel by omega) (by omega)
 rw [hLF] at hrl
 have h0:¬ ((p:Int)<0):=by omega
 have h1:¬ ((p:Int)>=((b_3 l l.length).length:Int)):=by rw [f_8];omega
 unfold n_7
 simp only [h0,decide_false,Bool.false_eq_true,if_false,hrl,a_0,h1,a_1h hw ht hR hf hp hpl]
 generalize hcl:(i_7 t p q S fs).1=out at *
 generalize hx3:(out,(if (i_7 t p q S fs).2.2=true then ((⟨-1,0,(i_7 t p q S fs).2.1⟩:a_1),true) else (⟨0,0,[]⟩,false)))=x3
 have hx1:x3.1=out:=by rw [<-hx3]
 have inner:∀ (r:Nat) (x4 acc:List a_1),acc.length+out.length<=1000000->iter (s_5 fuel l x3 x4 (r:Int)) fuel (acc,0)=some (acc++out.filter fun h=>h.To==(r:Int)):=by
  intro r x4 acc hacc
  have:=c_2 (step:=s_5 fuel l x3 x4 (r:Int)) (fun i=>(acc++(out.take i).filter (fun h=>h.To==(r:Int)),(i:Int))) (acc++out.filter fun h=>h.To==(r:Int)) out.length (fun i hi=>.inl (by
   have hin:inb out (i:Int)=true:=a_7 (by omega) (by omega)
   have hd1:(i:Int)<(out.length:Int):=by omega
   have hg:gt out (i:Int)=out[i]:=d_4 (by simp [hi])
   have hle:((out.take i).filter (fun h=>h.To==(r:Int))).length<=i:=Nat.le_trans (List.length_filter_le _ _) (by simp;omega)
   have hap:a_8 40 (acc++(out.take i).filter (fun h=>h.To==(r:Int))) [out[i]]=true:=d_8 (by simp;omega)
   have htk:out.take (i+1)=out.take i++[out[i]]:=List.take_succ_eq_append_getElem hi
   unfold s_5
   simp only [hx1,hd1,decide_true,if_true,hin,hg,hap,c_3 (show i<9223372036854775807 by omega),htk,List.filter_append]
   by_cases c:(out[i].To==(r:Int))=true
   ·simp [c]
   ·simp [c])) (by unfold s_5;simp [hx1]) out.length 0 fuel (by omega) (by omega)
  simpa using this
 have outer:=c_2 (step:=x_8 fuel l x3) (fun r=>(bucket out r,(r:Int))) (bucket out t.leaves) t.leaves (fun r hr=>.inl (by
  have hd1:(r:Int)<((b_3 l l.length).length:Int):=by rw [f_8,hla];omega
  unfold x_8
  have:=b_gu out r
  simp only [hrl,a_0,hd1,decide_true,if_true,inner r (bucket out r) (bucket out r) (by omega),c_3 (show r<9223372036854775807 by omega)]
  rfl)) (by unfold x_8;simp [hrl,f_8,hla]) t.leaves 0 fuel (by omega) (by omega)
 simp only [bucket] at outer
 rw [show (([]:List a_1),(0:Int))=([],((0:Nat):Int)) from rfl,outer,b_b3 hways]
 rfl
def EndR (s:List Int):a_1×Bool:=if s.length=0 then (⟨0,0,[]⟩,false) else (⟨-1,0,s⟩,true)
theorem z_3:∀ (fs:List Fr) (lo p:Nat) (s:Tm) (st:List Int) (out:List a_1),st≠[]->(f_4 lo p s st out fs).2.2=true->(f_4 lo p s st out fs).2.1≠[]
 |[],lo,p,s,st,out,hst,_=>by simpa only [f_4] using hst
 |
  f :: fs,lo,p,s,st,out,hst,h=>by
  cases f with
  |
   catL b=>
   simp only [f_4] at h ⊢
   split at h
   ·rename_i hb;rw [if_pos hb];exact z_3 fs _ _ _ _ _ (by simp) h
   ·simp at h
  |star=>simp only [f_4] at h ⊢;exact z_3 fs _ _ _ _ _ (by simp) h
  |catR a=>exact z_3 fs (lo-(Fr.catR a).off) (p-(Fr.catR a).lvs) ((Fr.catR a).e_8 s) _ out (by simp) h
  |altR a=>exact z_3 fs (lo-(Fr.altR a).off) (p-(Fr.altR a).lvs) ((Fr.altR a).e_8 s) _ out (by simp) h
  |altL b=>exact z_3 fs (lo-(Fr.altL b).off) (p-(Fr.altL b).lvs) ((Fr.altL b).e_8 s) _ out (by simp) h
  |maybe=>exact z_3 fs (lo-Fr.maybe.off) (p-Fr.maybe.lvs) (Fr.maybe.e_8 s) _ out (by simp) h
  |group n=>exact z_3 fs (lo-(Fr.group n).off) (p-(Fr.group n).lvs) ((Fr.group n).e_8 s) _ out (by simp) h
  |iter=>exact z_3 fs (lo-Fr.iter.off) (p-Fr.iter.lvs) (Fr.iter.e_8 s) _ out (by simp) h
theorem b_r5 {l:List a_2} (hw:∀ x∈l,d_6 x) {t:Tm} (ht:IsT l t) (hR:c_0 l=true) {fuel:Nat} (hf:1000001<fuel) {p q:Nat} {S:List Int} {fs:List Fr} (hp:a_c7 l t p q S fs) (hpl:p<a_3 l l.length) :
  i_4 fuel l (p:Int)=some (EndR (if (i_7 t p q S fs).2.2 then (i_7 t p q S fs).2.1 else [])):=by
 obtain ⟨c,e,hc⟩:=m_at hw ht hR (show 401<fuel by omega) hp hpl
 have h1:((p:Int)==-1)=false:=by simp
 unfold i_4 EndR
 simp only [h1,Bool.false_eq_true,if_false,e,a_0,if_true,a_1o hw ht hR hc hf hp]
 generalize (if (i_7 t p q S fs).2.2=true then (i_7 t p q S fs).2.1 else [])=s
 by_cases hs:s.length=0<;>simp [hs]
theorem b_r8 {l:List a_2} (hw:∀ x∈l,d_6 x) {t:Tm} (ht:IsT l t) (hR:c_0 l=true) {fuel:Nat} (hf:1000001<fuel) {p q:Nat} {S:List Int} {fs:List Fr} (hp:a_c7 l t p q S fs) (hpl:p<a_3 l l.length) :
  k_0 fuel l (p:Int)=some (EndR (if (i_7 t p q S fs).2.2 then (i_7 t p q S fs).2.1 else [])):=by
 have h1:((p:Int)==-1)=false:=by simp
 have h2:¬ ((p:Int) < -1):=by omega
 have h400:=ht.le;have hln:=ht.len
 have hLF:q_5 l=b_3 l l.length:=by simp [q_5,hR]
 have h3:¬ ((p:Int)>=((b_3 l l.length).length:Int)):=by rw [f_8];omega
 unfold k_0 EndR
 simp only [h2,decide_false,Bool.false_eq_true,if_false,a_cy l (show l.length*64<=140737488351232 by omega) (show l.length+1<fuel by omega),hR,Bool.not_true,a_0,a_oo hw (show l.length*64<=140737488351232 by omega) (show 401<fuel by omega) (by omega),hLF,h3,h1,a_1h hw ht hR hf hp hpl]
 by_cases hb:(i_7 t p q S fs).2.2=true
 ·have:=z_3 fs q p (.leaf S) [cls q] [] (by simp) hb
  have h5:(i_7 t p q S fs).2.1.length≠0:=fun h=>this (List.eq_nil_of_length_eq_zero h)
  simp [hb,h5]
 ·simp [hb]
theorem b_b5 {l:List a_2} (hw:∀ x∈l,d_6 x) {t:Tm} (ht:IsT l t) (hR:c_0 l=true) {fuel:Nat} (hf:1000001<fuel):i_4 fuel l (-1)=some (EndR (if t.can then t.steps 0 else []))/\k_0 fuel l (-1)=some (EndR (if t.can then t.steps 0 else [])):=by
 have h400:=ht.le;have hln:=ht.len;have hp:=t.size_pos
 have hW:W ((l.length:Int)-1)=(t.top 0:Int):=by rw [f_2 (by omega) (by omega)];unfold Tm.top;omega
 have hLF:q_5 l=b_3 l l.length:=by simp [q_5,hR]
 have h3:¬ ((-1:Int)>=((b_3 l l.length).length:Int)):=by omega
 constructor
 ·unfold i_4 EndR
  simp only [beq_self_eq_true,if_true,hW,a_28 hw ht hR (show 401<fuel by omega) ht.at0,a_0]
  generalize (if t.can=true then t.steps 0 else [])=s
  by_cases hs:s.length=0
  ·simp [hs]
  ·simp [hs]
 ·unfold k_0 EndR
  simp only [show ¬ ((-1:Int) < -1) from by omega,decide_false,Bool.false_eq_true,if_false,a_cy l (show l.length*64<=140737488351232 by omega) (show l.length+1<fuel by omega),hR,Bool.not_true,a_0,a_oo hw (show l.length*64<=140737488351232 by omega) (show 401<fuel by omega) (by omega),hLF,h3,beq_self_eq_true,if_true,hW,b_or hw ht hR (show 401<fuel by omega) ht.at0]
  generalize (if t.can=true then t.steps 0 else [])=s
  by_cases hs:s.length=0
  ·simp [hs]
  ·simp [hs]
theorem b_ov {l:List a_2} (hw:∀ x∈l,d_6 x) {t:Tm} (ht:IsT l t) (hR:c_0 l=true) {fuel:Nat} (hf:1000001<fuel) {lo:Nat} {s:Tm} (h:At l lo s):m_5 fuel l (s.top lo:Int)=some (s.c_5 lo (a_3 l lo) [])/\o_6 fuel l (s.top lo:Int)=some (s.c_5 lo (a_3 l lo) []):=by
 have h400:=ht.le;have hln:=ht.len
 have htop:=h.k_6
 have hsl:=h.len
 have h0:¬ ((s.top lo:Int)<0):=by omega
 have h1:¬ ((s.top lo:Int)>=(l.length:Int)):=by omega
 have hil:=s.t_1 lo (a_3 l lo) []
 have hls:=s.q_3
 constructor
 ·obtain ⟨c,e,hc⟩:=m_of hw ht hR (show 401<fuel by omega)
  unfold m_5
  rw [e]
  simp only [Bool.not_true,Bool.false_eq_true,if_false,h0,decide_false,h1,a_0,a_9r hw ht hR hc (show 401<fuel by omega) s lo h fuel [] [] (by omega) (by simp;omega) (by simp;omega),List.nil_append]
  rw [b_my _ (by omega) (by omega) (fun h' hh=>(s.a_wr lo (a_3 l lo) [] (by omega) (by simp;omega) h' hh).2.2)]
  rfl
 ·unfold o_6
  have hIF:a_h9 l=q_8 l l.length:=by simp [a_h9,hR]
  rw [a_cy l (show l.length*64<=140737488351232 by omega) (show l.length+1<fuel by omega),hR]
  simp only [Bool.not_true,Bool.false_eq_true,if_false,h0,decide_false,h1,a_0,b_dl hw (show l.length*64<=140737488351232 by omega) (show 401<fuel by omega) (by omega),b_ed hw (show l.length*64<=140737488351232 by omega) (show 401<fuel by omega) (by omega),hIF,b_aa ht hR (show 401<fuel by omega) s lo h fuel [] (by omega) (by simp;omega)]
def Bnd (B:Int) (st:List Int):Prop:=∀ x∈st,0<=x/\x<=B
theorem Bnd.app {B:Int} {a b:List Int} (h:Bnd B a) (k:Bnd B b):Bnd B (a++b):=fun x hx=>(mem_append.1 hx).elim (h x) (k x)
theorem Bnd.one {B x:Int} (h0:0<=x) (h:x<=B):Bnd B [x]:=fun y hy=>by simp at hy;subst hy;exact ⟨h0,h⟩
theorem Bnd.nil {B:Int}:Bnd B []:=fun _ h=>by cases h
theorem Bnd.opn {B:Int} {q:Nat} (h:2*(q:Int)+1<=B):Bnd B [opn q]:=Bnd.one (by unfold Old.opn;omega) (by unfold Old.opn;omega)
theorem Bnd.cls {B:Int} {q:Nat} (h:2*(q:Int)+1<=B):Bnd B [cls q]:=Bnd.one (by unfold Old.cls;omega) (by unfold Old.cls;omega)
theorem Bnd.two {B:Int} {q:Nat} (h:2*(q:Int)+1<=B):Bnd B [Old.opn q,Old.cls q]:=Bnd.app (Bnd.opn h) (Bnd.cls h)
theorem Tm.a_yy (t:Tm):∀ (lo:Nat) (B:Int),2*((lo+t.size:Nat):Int)<=B->Bnd B (t.steps lo):=by
 induction t with
 |eps=>intro lo B h;simp only [Tm.size] at h;simp only [Tm.steps];exact Bnd.two (by omega)
 |leaf s=>intro lo B h;simp only [Tm.size] at h;simp only [Tm.steps];exact Bnd.two (by omega)
 |
  cat a b iha ihb=>
  intro lo B h;simp only [Tm.size] at h;simp only [Tm.steps]
  have ht:2*((Tm.top (.cat a b) lo:Nat):Int)+1<=B:=by simp only [Tm.top,Tm.size];omega
  exact ((Bnd.opn ht).app ((iha lo B (by omega)).app (ihb (lo+a.size) B (by omega)))).app (Bnd.cls ht)
 |
  alt a b iha ihb=>
  intro lo B h;simp only [Tm.size] at h;simp only [Tm.steps]
  have ht:2*((Tm.top (.alt a b) lo:Nat):Int)+1<=B:=by simp only [Tm.top,Tm.size];omega
  refine ((Bnd.opn ht).app ?_).app (Bnd.cls ht)
  split
  ·exact iha lo B (by omega)
  ·exact ihb (lo+a.size) B (by omega)
 |star a iha=>intro lo B h;simp only [Tm.size] at h;simp only [Tm.steps];exact Bnd.two (by simp only [Tm.top,Tm.size];omega)
 |maybe a iha=>intro lo B h;simp only [Tm.size] at h;simp only [Tm.steps];exact Bnd.two (by simp only [Tm.top,Tm.size];omega)
 |
  group n a iha=>
  intro lo B h;simp only [Tm.size] at h;simp only [Tm.steps]
  have ht:2*((Tm.top (.group n a) lo:Nat):Int)+1<=B:=by simp only [Tm.top,Tm.size];omega
  exact ((Bnd.opn ht).app (iha lo B (by omega))).app (Bnd.cls ht)
 |
  iter a iha=>
  intro lo B h;simp only [Tm.size] at h;simp only [Tm.steps]
  have ht:2*((Tm.top (.iter a) lo:Nat):Int)+1<=B:=by simp only [Tm.top,Tm.size];omega
  exact ((Bnd.opn ht).app (iha lo B (by omega))).app (Bnd.cls ht)
def BndH (B:Int) (l:List a_1):Prop:=∀ h∈l,Bnd B h.Steps
theorem BndH.app {B:Int} {a b:List a_1} (h:BndH B a) (k:BndH B b):BndH B (a++b):=fun x hx=>(mem_append.1 hx).elim (h x) (k x)
theorem Tm.a_2r (t:Tm):∀ (lo p:Nat) (ahead:List Int) (B:Int),2*((lo+t.size:Nat):Int)<=B->Bnd B ahead->BndH B (t.c_5 lo p ahead):=by
 induction t with
 |eps=>intro lo p ahead B h k x hx;simp [Tm.c_5] at hx
 |leaf s=>intro lo p ahead B h k x hx;simp only [Tm.size] at h;simp only [Tm.c_5,mem_singleton] at hx;subst hx;exact k.app (Bnd.opn (by omega))
 |
  cat a b iha ihb=>
  intro lo p ahead B h k;simp only [Tm.size] at h;simp only [Tm.c_5]
  have ht:2*((Tm.top (.cat a b) lo:Nat):Int)+1<=B:=by simp only [Tm.top,Tm.size];omega
  have k1:=k.app (Bnd.opn ht)
  refine (iha lo p _ B (by omega) k1).app ?_
  split
  ·exact ihb _ _ _ B (by omega) (k1.app (a.a_yy lo B (by omega)))
  ·intro x hx;cases hx
 |
  alt a b iha ihb=>
  intro lo p ahead B h k;simp only [Tm.size] at h;simp only [Tm.c_5]
  have ht:2*((Tm.top (.alt a b) lo:Nat):Int)+1<=B:=by simp only [Tm.top,Tm.size];omega
  have k1:=k.app (Bnd.opn ht)
  exact (iha lo p _ B (by omega) k1).app (ihb _ _ _ B (by omega) k1)
 |
  star a iha | maybe a iha | group n a iha | iter a iha=>
  intro lo p ahead B h k;simp only [Tm.size] at h;simp only [Tm.c_5]
  exact iha lo p _ B (by omega) (k.app (Bnd.opn (by simp only [Tm.top,Tm.size];omega)))
theorem a_pb {B:Int} (d:Int):∀ (r out:List a_1),BndH B out->BndH B r->BndH B (l_3 d out r)
 |[],out,h,_=>h
 |
  x :: r,out,h,k=>by
  simp only [l_3]
  have kr:BndH B r:=fun y hy=>k y (List.mem_cons_of_mem _ hy)
  split
  ·exact a_pb d r out h kr
  ·exact a_pb d r _ (h.app fun y hy=>by simp at hy;subst hy;exact k x (by simp)) kr
theorem Ctx.lo_le {t:Tm}:∀ {fs:List Fr} {lo:Nat} {s:Tm},Ctx t lo s fs->lo+s.size<=t.size
 |[],lo,s,⟨h0,h⟩=>by subst h;omega
 |
  f :: fs,lo,s,⟨h0,h⟩=>by
  have:=Ctx.lo_le h
  cases f<;>simp [Fr.e_8,Fr.off,Tm.size] at this h0 ⊢<;>omega
theorem a_pc {t:Tm} {B:Int} (hB:2*(t.size:Int)<=B):∀ (fs:List Fr) (lo p:Nat) (s:Tm) (st:List Int) (out:List a_1),Ctx t lo s fs->Bnd B st->BndH B out->
  BndH B (f_4 lo p s st out fs).1/\Bnd B (f_4 lo p s st out fs).2.1
 |[],lo,p,s,st,out,_,h,k=>by simp only [f_4];exact ⟨k,h⟩
 |
  f :: fs,lo,p,s,st,out,hx,h,k=>by
  have hlo:=Ctx.lo_le hx.2
  have hx2:=hx.2
  have h0:=hx.1
  cases f with
  |
   catL b=>
   simp only [Fr.e_8,Fr.off,sub_zero,Tm.size] at hlo hx2 h0
   have hs:=b.a_yy (lo+s.size) B (by omega)
   have hi:=b.a_2r (lo+s.size) (p+s.leaves) st B (by omega) h
   have ht:=a_pb ((fs.length+1:Nat):Int) _ _ k hi
   simp only [f_4]
   split
   ·exact a_pc hB fs lo p _ _ _ hx2 ((h.app hs).app (Bnd.cls (by simp only [Tm.top,Tm.size];omega))) ht
   ·exact ⟨ht,Bnd.nil⟩
  |
   star=>
   simp only [Fr.e_8,Fr.off,sub_zero,Tm.size] at hlo hx2 h0
   simp only [f_4]
   exact a_pc hB fs lo p _ _ _ hx2 (h.app (Bnd.cls (by simp only [Tm.top,Tm.size];omega))) (a_pb _ _ _ k (s.a_2r lo p st B (by omega) h))
  |
   catR a | altL b | altR a | maybe | group n | iter=>
   simp only [Fr.e_8,Fr.off,sub_zero,Tm.size] at hlo hx2 h0
   simp only [f_4,Fr.e_8,Fr.off,Fr.lvs,sub_zero]
   exact a_pc hB fs _ _ _ _ _ hx2 (h.app (Bnd.cls (by simp only [Tm.top,Tm.size];omega))) k
def TrnH (l:List a_1):Prop:=∀ h∈l,0<=h.Turn/\h.Turn<=400
theorem TrnH.app {a b:List a_1} (h:TrnH a) (k:TrnH b):TrnH (a++b):=fun x hx=>(mem_append.1 hx).elim (h x) (k x)
theorem Tm.b_l7 (t:Tm):∀ (lo p:Nat) (ahead:List Int),TrnH (t.c_5 lo p ahead):=by
 induction t with
 |eps=>intro lo p ahead x hx;simp [Tm.c_5] at hx
 |leaf s=>intro lo p ahead x hx;simp only [Tm.c_5,mem_singleton] at hx;subst hx;exact ⟨Int.le_refl _,show (0:Int)<=400 by omega⟩
 |
  cat a b iha ihb=>
  intro lo p ahead;simp only [Tm.c_5]
  refine (iha lo p _).app ?_
  split
  ·exact ihb _ _ _
  ·intro x hx;cases hx
 |alt a b iha ihb=>intro lo p ahead;simp only [Tm.c_5];exact (iha lo p _).app (ihb _ _ _)
 |star a iha | maybe a iha | group n a iha | iter a iha=>intro lo p ahead;simp only [Tm.c_5];exact iha lo p _
theorem a_m2 {d:Int} (h0:0<=d) (h1:d<=400):∀ (r out:List a_1),TrnH out->TrnH (l_3 d out r)
 |[],out,h=>h
 |
  x :: r,out,h=>by
  simp only [l_3]
  split
  ·exact a_m2 h0 h1 r out h
  ·exact a_m2 h0 h1 r _ (h.app fun y hy=>by simp at hy;subst hy;exact ⟨h0,h1⟩)
theorem a_m5 {t:Tm} (ht:t.size<=400):∀ (fs:List Fr) (lo p:Nat) (s:Tm) (st:List Int) (out:List a_1),Ctx t lo s fs->TrnH out->TrnH (f_4 lo p s st out fs).1
 |[],lo,p,s,st,out,_,k=>by simp only [f_4];exact k
 |
  f :: fs,lo,p,s,st,out,hx,k=>by
  have hsz:=Ctx.size hx
  have hx2:=hx.2
  have:=s.size_pos
  simp only [length_cons] at hsz
  cases f with
  |
   catL b=>
   simp only [Fr.e_8,Fr.off,sub_zero] at hx2
   have h:=a_m2 (d:=((fs.length+1:Nat):Int)) (by omega) (by omega) (b.c_5 (lo+s.size) (p+s.leaves) st) out k
   simp only [f_4]
   split
   ·exact a_m5 ht fs lo p _ _ _ hx2 h
   ·exact h
  |
   star=>
   simp only [Fr.e_8,Fr.off,sub_zero] at hx2
   simp only [f_4]
   exact a_m5 ht fs lo p _ _ _ hx2 (a_m2 (by omega) (by omega) _ _ k)
  |
   catR a | altL b | altR a | maybe | group n | iter=>
   simp only [Fr.e_8,Fr.off,sub_zero] at hx2
   simp only [f_4,Fr.e_8,Fr.off,Fr.lvs,sub_zero]
   exact a_m5 ht fs _ _ _ _ _ hx2 k
