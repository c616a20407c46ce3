/- From a place up to the root, by the document. The ways from a place, to the end, and Z0 a node: the program and the document tell the same. Its conditions: none. -/
import Derived.Test.YtdficaoajalfaaaGreatWG40
open List (any_cons length_cons mem_singleton mem_append mem_filter)
open Nat (sub_zero lt_or_ge zero_le)
open Bool (false_eq_true)
set_option linter.all false
namespace Go.Proofs.YtdficaoajalfaaaGreat.Old
open Go.V Go.RowKit
theorem y01 (fuel:Nat) (out:List B0) (to:Int) (hf:out.length<fuel) (hl:out.length<=1000000000):b03 fuel out to=some (out.any fun x=>x.To==to):=by
 have key:∀ (k i:Nat),i+k=out.length->∀ m,k<m->∃ t,iter (d02 fuel out to) m (i:Int)=some t/\(match t with | .inl _=>(out.drop i).any (fun x=>x.To==to)=false | .inr r=>r=true/\(out.drop i).any (fun x=>x.To==to)=true):=by
  intro k
  induction k with
  |
   zero=>
   intro i hi m hm;obtain ⟨m,rfl⟩:∃ q,m=q+1:=⟨m-1,by omega⟩
   refine ⟨.inl (),?_,?_⟩
   ·unfold iter d02;have:¬ ((i:Int)<(out.length:Int)):=by omega
    simp [this]
   ·rw [List.drop_of_length_le (by omega)];rfl
  |
   succ k ih=>
   intro i hi m hm;obtain ⟨m,rfl⟩:∃ q,m=q+1:=⟨m-1,by omega⟩
   have hlt:i<out.length:=by omega
   have hin:y0 out (i:Int)=true:=P0 (by omega) (by omega);have hd1:(i:Int)<(out.length:Int):=by omega
   have hst:d02 fuel out to (i:Int)=if ((gt out (i:Int)).To==to)=true then some (.done (.inr true)) else some (.next ((i+1:Nat):Int)):=by
    unfold d02;simp only [hd1,decide_true,if_true,hin,E2 (show i<9223372036854775807 by omega)]
   unfold iter;rw [hst,drop_cons hlt]
   by_cases c:((gt out (i:Int)).To==to)=true
   ·rw [if_pos c];exact ⟨_,rfl,rfl,by simp only [any_cons,c,Bool.true_or]⟩
   ·rw [if_neg c];obtain ⟨t,h1,h2⟩:=ih (i+1) (by omega) m (by omega);refine ⟨t,h1,?_⟩;have c':((gt out (i:Int)).To==to)=false:=by simpa using c
    cases t with
    |inl _=>simp only [any_cons,c',Bool.false_or];exact h2
    |inr r=>simp only [any_cons,c',Bool.false_or];exact h2
 obtain ⟨t,h1,h2⟩:=key out.length 0 (by omega) fuel (by omega);unfold b03;rw [show (0:Int)=((0:Nat):Int) from rfl,h1];rw [List.drop_zero] at h2;cases t with
 |inl _=>simp only [E0];rw [h2]
 |inr r=>simp only [E0];rw [h2.2,h2.1]
theorem t0D {fuel:Nat} {l:List D0} {x6:B0} {x1 x2 x3:List Int} {x4:List Bool} {x7:Int} {x8:List Int} {x9:List B0} {x12:Int} {x14:List B0} {d:Int} (hd:y0 x2 (gt x1 x7)=true) (hdv:gt x2 (gt x1 x7)=d) (hops:List B0) (hhl:hops.length<=1000000) :
  ∀ (k i:Nat) (o hs:List B0),hs.length=hops.length->hs.drop i=hops.drop i->i+k=hops.length->o.length+k<=1000000->1000001<fuel->∀ m,k<m->
   iter (b0R fuel l x6 x1 x2 x3 x4 x7 x8 x9 x12 x14) m (o,hs,(i:Int))=some (E6 d o (hops.drop i)):=by
 intro k
 induction k with
 |
  zero=>
  intro i o hs hl hdr hi ho hf m hm;obtain ⟨m,rfl⟩:∃ q,m=q+1:=⟨m-1,by omega⟩
  rw [List.drop_of_length_le (by omega)];unfold iter b0R;have:¬ ((i:Int)<(hs.length:Int)):=by omega
  simp [this,E6]
 |
  succ k ih=>
  intro i o hs hl hdr hi ho hf m hm;obtain ⟨m,rfl⟩:∃ q,m=q+1:=⟨m-1,by omega⟩
  have hlt:i<hops.length:=by omega
  have hin:y0 hs (i:Int)=true:=P0 (by omega) (by omega);have hd1:(i:Int)<(hs.length:Int):=by omega
  have hap:∀ x:B0,I0 40 o [x]=true:=fun x=>o5 (by simp;omega);have hge:gt hs (i:Int)=gt hops (i:Int):=by
   have e1:=drop_cons (l:=hs) (i:=i) (by omega);have e2:=drop_cons (l:=hops) (i:=i) hlt;rw [hdr,e2] at e1;exact (List.cons.inj e1).1.symm
  have hdn:hs.drop (i+1)=hops.drop (i+1):=by
   have e1:=drop_cons (l:=hs) (i:=i) (by omega);have e2:=drop_cons (l:=hops) (i:=i) hlt;rw [hdr,e2] at e1;exact (List.cons.inj e1).2.symm
  have hin2:∀ y:B0,y0 (hs.set i y) (i:Int)=true:=fun y=>P0 (by omega) (by simp;omega);have hse:∀ y:B0,gt (hs.set i y) (i:Int)=y:=fun y=>c0J (by omega);have hds:∀ y:B0,(hs.set i y).drop (i+1)=hops.drop (i+1):=fun y=>by rw [List.drop_set_of_lt (by omega),hdn]
  have he:b0R fuel l x6 x1 x2 x3 x4 x7 x8 x9 x12 x14 (o,hs,(i:Int))=if o.any (fun x=>x.To==(gt hops (i:Int)).To) then some (.next (o,hs,((i+1:Nat):Int))) else some (.next (o++[⟨(gt hops (i:Int)).To,d,(gt hops (i:Int)).Steps⟩],hs.set i ⟨(gt hops (i:Int)).To,d,(gt hops (i:Int)).Steps⟩,((i+1:Nat):Int))):=by
   unfold b0R;simp only [hd1,decide_true,if_true,hin,hge,y01 fuel o (gt hops (i:Int)).To (by omega) (by omega),E0,hd,hdv,Int.toNat_natCast,hin2,hse,hap,E2 (show i<9223372036854775807 by omega)];cases o.any (fun x=>x.To==(gt hops (i:Int)).To)<;>simp
  have hst:∃ hs',hs'.length=hops.length/\hs'.drop (i+1)=hops.drop (i+1)/\b0R fuel l x6 x1 x2 x3 x4 x7 x8 x9 x12 x14 (o,hs,(i:Int))=some (.next ((if o.any (fun x=>x.To==(gt hops (i:Int)).To) then o else o++[⟨(gt hops (i:Int)).To,d,(gt hops (i:Int)).Steps⟩]),hs',((i+1:Nat):Int))):=by
   rw [he];cases o.any (fun x=>x.To==(gt hops (i:Int)).To) with
   |true=>exact ⟨hs,hl,hdn,rfl⟩
   |false=>exact ⟨hs.set i ⟨(gt hops (i:Int)).To,d,(gt hops (i:Int)).Steps⟩,by simpa using hl,hds _,rfl⟩
  obtain ⟨hs',p1,p2,p3⟩:=hst;unfold iter;rw [p3,drop_cons hlt];simp only [E6];refine ih (i+1) _ hs' p1 p2 (by omega) ?_ hf m (by omega);split
  ·omega
  ·simp only [List.length_append,length_cons,List.length_nil];omega
theorem F0B {l:List D0} {t:Tm} (ht:J4 l t) (hR:J2 l=true) {u d:List Int} (hu:UpT u t) (hd:a0A d t) {fuel:Nat} (hf:1000001<fuel) (x5:List Int) (p1:Int) (x6:B0) :
  ∀ (fs:List Fr) (lo:Nat) (s:Tm) (st:List Int) (out:List B0),Ctx t lo s fs->st.length+1000*fs.length<=500000->out.length+1000*fs.length<=500000->∀ m,fs.length<m->
   ∃ r,iter (b0h fuel l u d (E5 l l.length) (i6 l) x5 p1) m (x6,(s.top lo:Int),st,out)=some r/\
    (match r with | .inl (_,y2,y3)=>(y3,y2,true) | .inr (z1,_,_)=>(z1,[],false))=V3 lo (N0 l lo) s st out fs/\(∀ z1 z2 z3,r=.inr (z1,z2,z3)->z2=⟨0,0,[]⟩/\z3=false):=by
 have h400:=ht.le;have hlen0:=ht.len;have hct:=e0p hR;intro fs
 induction fs with
 |
  nil=>
  intro lo s st out hx h1 h2 m hm;obtain ⟨m,rfl⟩:∃ q,m=q+1:=⟨m-1,by omega⟩
  refine ⟨.inl (x6,st,out),?_,rfl,fun _ _ _ h=>by cases h⟩;have hpart:=hx.part ht hu hd;have hiu:y0 u (s.top lo:Int)=true:=P0 (by omega) (by rw [hu.len];have:=hpart.at_.u6;omega);have hroot:=hx.root hu;have e:b0h fuel l u d (E5 l l.length) (i6 l) x5 p1 (x6,(s.top lo:Int),st,out)=some (.done (.inl (x6,st,out))):=by
   unfold b0h;simp [hiu,hroot]
  unfold iter;rw [e]
 |
  cons f fs ih=>
  intro lo s st out hx h1 h2 m hm;obtain ⟨m,rfl⟩:∃ q,m=q+1:=⟨m-1,by omega⟩
  have hpart:=hx.part ht hu hd;have hpar:=hx.2.part ht hu hd;have hedge:=hx.m0V ht hu hd;have hx2:=hx.2;have hlvs:=r00 ht hu hd hx;have hsz:=hx.size;simp only [length_cons] at h1 h2 hm hsz;have hiq:y0 u (s.top lo:Int)=true:=P0 (by omega) (by rw [hu.len];have:=hpart.at_.u6;omega);have htop:=hpar.at_.u6;have hg:=hpar.at_.Z3;have hdp:=hpar.deep.top;generalize hlo:lo-f.off=lo' at *;generalize hr:(f.O2 s).top lo'=r at *;have hin:y0 l (r:Int)=true:=P0 (by omega) (by omega);have hid:y0 d (r:Int)=true:=P0 (by omega) (by rw [hd.len];omega);have hr0:(r:Int)>=0:=by omega
  have hcls:W (W (2*(r:Int))+1)=cls r:=by rw [Y6 (by omega),V8 (by omega)]
  have put1:∀ st':List Int,st'.length<=st.length+900->I8 fuel st' [W (W (2*(r:Int))+1)]=some (st'++[cls r]):=fun st' hs=>by
   rw [hcls,d0k (fuel:=fuel) (a:=st') (b:=[cls r]) (by simp;omega)]
  have plain:V3 lo (N0 l lo) s st out (f :: fs)=V3 lo' (N0 l lo') (f.O2 s) (st++[cls r]) out fs->b0h fuel l u d (E5 l l.length) (i6 l) x5 p1 (x6,(s.top lo:Int),st,out)=some (.next (x6,(r:Int),st++[cls r],out))->
    ∃ r',iter (b0h fuel l u d (E5 l l.length) (i6 l) x5 p1) (m+1) (x6,(s.top lo:Int),st,out)=some r'/\(match r' with | .inl (_,y2,y3)=>(y3,y2,true) | .inr (z1,_,_)=>(z1,[],false))=V3 lo (N0 l lo) s st out (f :: fs)/\(∀ z1 z2 z3,r'=.inr (z1,z2,z3)->z2=⟨0,0,[]⟩/\z3=false):=fun e1 e2=>by
   unfold iter;rw [e1,e2];have:=ih lo' (f.O2 s) (st++[cls r]) out hx2 (by simp;omega) (by omega) m (by omega);rw [hr] at this;exact this
  have step0:b0h fuel l u d (E5 l l.length) (i6 l) x5 p1 (x6,(s.top lo:Int),st,out)=b0h fuel l u d (E5 l l.length) (i6 l) x5 p1 (x6,(s.top lo:Int),st,out):=rfl
  conv at step0=>rhs;unfold b0h
  simp only [hiq,hedge,hr0,decide_true,if_true,hin,hg] at step0;cases f with
  |
   catL b=>
   simp only [Fr.O2,Fr.off,sub_zero] at hlo hr hg hpar step0;subst hlo;obtain ⟨hats,hatb,_⟩:=(At.bin rfl rfl).1 hpar.at_;have hbi:=b.a0c (lo+s.size) (N0 l lo+s.leaves) st;have hbl:=b.P9;have hbs:=b.L8 (lo+s.size);have hsb:b.size<=400:=by have:=hatb.len;omega
   have hinto:=n0H ht hR (show 401<fuel by omega) b (lo+s.size) hatb fuel st (by omega) (by omega);rw [a0h hats] at hinto;have hturn:∀ x14,iter (b0R fuel l x6 u d (E5 l l.length) (i6 l) (s.top lo:Int) st out (b.top (lo+s.size):Int) x14) fuel (out,b.Z0 (lo+s.size) (N0 l lo+s.leaves) st,0)=some (E6 ((fs.length+1:Nat):Int) out (b.Z0 (lo+s.size) (N0 l lo+s.leaves) st)):=fun x14=>by
    have:=t0D (fuel:=fuel) (l:=l) (x6:=x6) (x1:=u) (x2:=d) (x3:=E5 l l.length) (x4:=i6 l) (x7:=(s.top lo:Int)) (x8:=st) (x9:=out) (x12:=(b.top (lo+s.size):Int)) (x14:=x14) (d:=((fs.length+1:Nat):Int)) (by rw [hedge];exact hid) (by rw [hedge];exact hdp) (b.Z0 (lo+s.size) (N0 l lo+s.leaves) st) (by omega) (b.Z0 (lo+s.size) (N0 l lo+s.leaves) st).length 0 out (b.Z0 (lo+s.size) (N0 l lo+s.leaves) st) rfl rfl (by omega) (by omega) hf fuel (by omega);simpa using this
   have hbin:y0 (i6 l) (b.top (lo+s.size):Int)=true:=P0 (by omega) (by rw [hct.len];have:=hatb.u6;omega);have hb0:(b.top (lo+s.size):Int)>=0:=by omega
   simp only [Tm.node,beq_self_eq_true,if_true,E0,show ((3:Int)==5)=false from rfl,false_eq_true,if_false,hb0,decide_true,hinto,hturn,hbin,hct.top b _ hatb] at step0;have htl:=d0d ((fs.length+1:Nat):Int) (b.Z0 (lo+s.size) (N0 l lo+s.leaves) st) out;simp only [V3];cases hcan:b.can with
   |
    false=>
    simp only [hcan,Bool.not_false,if_true,E0] at step0;refine ⟨_,by unfold iter;rw [step0],?_,fun z1 z2 z3 h=>by cases h;exact ⟨rfl,rfl⟩⟩;simp
   |
    true=>
    simp only [hcan,Bool.not_true,false_eq_true,if_false,m0q hct (by omega) fuel b _ hatb fuel (by omega),E0,d0k (fuel:=fuel) (a:=st) (b:=b.steps (lo+s.size)) (by omega)] at step0;rw [put1 _ (by simp;omega)] at step0;unfold iter;rw [step0];have:=ih lo (.cat s b) (st++b.steps (lo+s.size)++[cls r]) (E6 ((fs.length+1:Nat):Int) out (b.Z0 (lo+s.size) (N0 l lo+s.leaves) st)) hx2 (by simp;omega) (by omega) m (by omega);rw [hr] at this;rw [if_pos rfl,hr];exact this
  |
   star=>
   simp only [Fr.O2,Fr.off,sub_zero] at hlo hr hg hpar step0;subst hlo;obtain ⟨hats,_⟩:=(At.un rfl rfl).1 hpar.at_;have hbi:=s.a0c lo (N0 l lo) st;have hbl:=s.P9;have hsb:s.size<=400:=by have:=hats.len;omega
   have hinto:=n0H ht hR (show 401<fuel by omega) s lo hats fuel st (by omega) (by omega);have hturn:∀ x14,iter (b0R fuel l x6 u d (E5 l l.length) (i6 l) (s.top lo:Int) st out (s.top lo:Int) x14) fuel (out,s.Z0 lo (N0 l lo) st,0)=some (E6 ((fs.length+1:Nat):Int) out (s.Z0 lo (N0 l lo) st)):=fun x14=>by
    have:=t0D (fuel:=fuel) (l:=l) (x6:=x6) (x1:=u) (x2:=d) (x3:=E5 l l.length) (x4:=i6 l) (x7:=(s.top lo:Int)) (x8:=st) (x9:=out) (x12:=(s.top lo:Int)) (x14:=x14) (d:=((fs.length+1:Nat):Int)) (by rw [hedge];exact hid) (by rw [hedge];exact hdp) (s.Z0 lo (N0 l lo) st) (by omega) (s.Z0 lo (N0 l lo) st).length 0 out (s.Z0 lo (N0 l lo) st) rfl rfl (by omega) (by omega) hf fuel (by omega);simpa using this
   have hb0:(s.top lo:Int)>=0:=by omega
   simp only [Tm.node,show ((5:Int)==3)=false from rfl,beq_self_eq_true,false_eq_true,if_false,if_true,E0,hb0,decide_true,hinto,hturn] at step0;rw [put1 _ (by omega)] at step0;have htl:=d0d ((fs.length+1:Nat):Int) (s.Z0 lo (N0 l lo) st) out;simp only [V3];unfold iter;rw [step0];have:=ih lo (.star s) (st++[cls r]) (E6 ((fs.length+1:Nat):Int) out (s.Z0 lo (N0 l lo) st)) hx2 (by simp;omega) (by omega) m (by omega);rw [hr] at this;rw [hr];exact this
  |
   catR a=>
   simp only [Fr.O2,Fr.off] at hlo hr hg hpar step0;have hps:=s.size_pos;have hne:((a.top lo':Int)==(s.top lo:Int))=false:=by
    have:=hx.1;have:=a.size_pos;simp only [Fr.off] at *;have:a.top lo'≠s.top lo:=by unfold Tm.top;omega
    simp;omega
   refine plain (by simp only [V3,Fr.off,Fr.l7,hlo,hlvs,Fr.O2,hr]) ?_;rw [step0];simp only [Tm.node,hne,beq_self_eq_true,if_true,E0,false_eq_true,if_false,show ((3:Int)==5)=false from rfl];simp [put1 st (by omega)]
  |
   altR a=>
   simp only [Fr.O2,Fr.off] at hlo hr hg hpar step0;refine plain (by simp only [V3,Fr.off,Fr.l7,hlo,hlvs,Fr.O2,hr]) ?_;rw [step0];simp only [Tm.node,E0];simp [put1 st (by omega)]
  |
   altL b | maybe | group n | iter=>
   simp only [Fr.O2,Fr.off,sub_zero] at hlo hr hg hpar step0;subst hlo;refine plain (by subst hr;rfl) ?_;rw [step0];simp only [Tm.node,E0];simp [put1 st (by omega)]
theorem Ctx.down {t:Tm}:∀ {s:Tm} {lo:Nat} {fs:List Fr},Ctx t lo s fs->∀ i,lo<=i->i<lo+s.size->∃ lo' s' fs',Ctx t lo' s' fs'/\s'.top lo'=i:=by
 intro s
 induction s with
 |eps=>intro lo fs h i h1 h2;exact ⟨lo,.eps,fs,h,by simp only [Tm.top,Tm.size] at *;omega⟩
 |leaf s=>intro lo fs h i h1 h2;exact ⟨lo,.leaf s,fs,h,by simp only [Tm.top,Tm.size] at *;omega⟩
 |
  cat a b iha ihb=>
  intro lo fs h i h1 h2;simp only [Tm.size] at h2;rcases lt_or_ge i (lo+a.size) with c | c
  ·exact iha (fs:=.catL b :: fs) ⟨zero_le _,h⟩ i h1 c
  ·rcases lt_or_ge i (lo+a.size+b.size) with c2 | c2
   ·exact ihb (lo:=lo+a.size) (fs:=.catR a :: fs) ⟨by simp [Fr.off],by simpa [Fr.off,Fr.O2] using h⟩ i c c2
   ·exact ⟨lo,_,fs,h,by simp only [Tm.top,Tm.size];omega⟩
 |
  alt a b iha ihb=>
  intro lo fs h i h1 h2;simp only [Tm.size] at h2;rcases lt_or_ge i (lo+a.size) with c | c
  ·exact iha (fs:=.altL b :: fs) ⟨zero_le _,h⟩ i h1 c
  ·rcases lt_or_ge i (lo+a.size+b.size) with c2 | c2
   ·exact ihb (lo:=lo+a.size) (fs:=.altR a :: fs) ⟨by simp [Fr.off],by simpa [Fr.off,Fr.O2] using h⟩ i c c2
   ·exact ⟨lo,_,fs,h,by simp only [Tm.top,Tm.size];omega⟩
 |
  star a iha=>
  intro lo fs h i h1 h2;simp only [Tm.size] at h2;rcases lt_or_ge i (lo+a.size) with c | c
  ·exact iha (fs:=.star :: fs) ⟨zero_le _,h⟩ i h1 c
  ·exact ⟨lo,_,fs,h,by simp only [Tm.top,Tm.size];omega⟩
 |
  maybe a iha=>
  intro lo fs h i h1 h2;simp only [Tm.size] at h2;rcases lt_or_ge i (lo+a.size) with c | c
  ·exact iha (fs:=.maybe :: fs) ⟨zero_le _,h⟩ i h1 c
  ·exact ⟨lo,_,fs,h,by simp only [Tm.top,Tm.size];omega⟩
 |
  group n a iha=>
  intro lo fs h i h1 h2;simp only [Tm.size] at h2;rcases lt_or_ge i (lo+a.size) with c | c
  ·exact iha (fs:=.group n :: fs) ⟨zero_le _,h⟩ i h1 c
  ·exact ⟨lo,_,fs,h,by simp only [Tm.top,Tm.size];omega⟩
 |
  iter a iha=>
  intro lo fs h i h1 h2;simp only [Tm.size] at h2;rcases lt_or_ge i (lo+a.size) with c | c
  ·exact iha (fs:=.iter :: fs) ⟨zero_le _,h⟩ i h1 c
  ·exact ⟨lo,_,fs,h,by simp only [Tm.top,Tm.size];omega⟩
theorem Ctx.at_ {l:List D0} {t:Tm} (ht:J4 l t):∀ {fs:List Fr} {lo:Nat} {s:Tm},Ctx t lo s fs->At l lo s
 |[],lo,s,⟨h1,h2⟩=>by subst h1;subst h2;exact ht.at0
 |
  f :: fs,lo,s,⟨ho,h⟩=>by
  have h1:=Ctx.at_ ht h;cases f<;>simp only [Fr.O2,Fr.off,sub_zero] at h1 ho
  case catL b=>exact ((At.bin rfl rfl).1 h1).1
  case altL b=>exact ((At.bin rfl rfl).1 h1).1
  case catR a=>
   have:=((At.bin rfl rfl).1 h1).2.1
   rwa [show lo-a.size+a.size=lo from by omega] at this
  case altR a=>
   have:=((At.bin rfl rfl).1 h1).2.1
   rwa [show lo-a.size+a.size=lo from by omega] at this
  all_goals exact ((At.un rfl rfl).1 h1).1
structure a06 (l:List D0) (t:Tm) (p q:Nat) (S:List Int) (fs:List Fr):Prop where
 ctx:Ctx t q (.leaf S) fs
 num:N0 l q=p
 get:(Q1 l l.length)[p]?=some (q:Int)
theorem E09 {l:List D0} {t:Tm} (ht:J4 l t) {p:Nat} (hp:p<N0 l l.length):∃ q S fs,a06 l t p q S fs:=by
 obtain ⟨q,h1,h2,h3,h4⟩:=b07 l l.length p hp;obtain ⟨lo,s,fs,hx,hs⟩:=Ctx.down (t:=t) (s:=t) (lo:=0) (fs:=[]) ⟨rfl,rfl⟩ q (zero_le _) (by rw [ht.len] at h1;omega);have hat:=hx.at_ ht;have hg:=hat.Z3;rw [hs] at hg;cases s with
 |
  leaf S=>
  simp only [Tm.top,Tm.size,Nat.add_sub_cancel] at hs;subst hs;exact ⟨lo,S,fs,hx,h4,h2⟩
 |_=>rw [hg] at h3;simp [Tm.node] at h3
theorem r0m {l:List D0} {t:Tm} (ht:J4 l t):N0 l l.length=t.leaves:=by
 have:=a0h ht.at0;rw [Nat.zero_add,<-ht.len] at this;simpa [N0] using this
def u0V (n:Nat) (h:B0):Prop:=0<=h.To/\h.To<n/\h.Steps.length<=2000000
theorem Tm.k00 (s:Tm):∀ (lo p:Nat) (ahead:List Int),s.size<=400->ahead.length+1000*s.size<=2000000->∀ h∈s.Z0 lo p ahead,(p:Int)<=h.To/\h.To<((p+s.leaves:Nat):Int)/\h.Steps.length<=2000000:=by
 induction s with
 |eps=>intro lo p ahead _ _ h hh;simp [Tm.Z0] at hh
 |leaf s=>intro lo p ahead _ ho h hh;simp only [Tm.Z0,mem_singleton] at hh;subst hh;simp only [Tm.leaves,Tm.size] at *;refine ⟨by simp,by simp;omega,by simp;omega⟩
 |
  cat a b iha ihb=>
  intro lo p ahead hs ho h hh;have sa:=a.L8 lo;simp only [Tm.Z0,Tm.size,Tm.leaves,mem_append] at *;rcases hh with hh | hh
  ·have:=iha lo p _ (by omega) (by simp;omega) h hh;refine ⟨by omega,by omega,this.2.2⟩
  ·split at hh
   ·have:=ihb (lo+a.size) (p+a.leaves) _ (by omega) (by simp;omega) h hh;refine ⟨by omega,by omega,this.2.2⟩
   ·simp at hh
 |
  alt a b iha ihb=>
  intro lo p ahead hs ho h hh;simp only [Tm.Z0,Tm.size,Tm.leaves,mem_append] at *;rcases hh with hh | hh
  ·have:=iha lo p _ (by omega) (by simp;omega) h hh;refine ⟨by omega,by omega,this.2.2⟩
  ·have:=ihb (lo+a.size) (p+a.leaves) _ (by omega) (by simp;omega) h hh;refine ⟨by omega,by omega,this.2.2⟩
 |
  star a iha | maybe a iha | group _ a iha | iter a iha=>
  intro lo p ahead hs ho h hh;simp only [Tm.Z0,Tm.size,Tm.leaves] at *;exact iha lo p _ (by omega) (by simp;omega) h hh
structure A8 (n:Nat) (out:List B0):Prop where
 ok:∀ h∈out,u0V n h
 dist:out.Pairwise fun a b=>a.To≠b.To
theorem p0o {n:Nat} (d:Int):∀ (r out:List B0),A8 n out->(∀ h∈r,u0V n h)->A8 n (E6 d out r)
 |[],out,h,_=>h
 |
  x :: r,out,h,hr=>by
  simp only [E6];refine p0o d r _ ?_ (fun y hy=>hr y (by simp [hy]));split
  ·exact h
  ·rename_i hc;have hx:=hr x (by simp);refine ⟨fun y hy=>?_,?_⟩
   ·rcases mem_append.1 hy with hy | hy
    ·exact h.ok y hy
    ·simp only [mem_singleton] at hy;subst hy;exact hx
   ·refine List.pairwise_append.2 ⟨h.dist,by simp,fun a ha b hb=>?_⟩;simp only [mem_singleton] at hb;subst hb;intro e;exact hc (List.any_eq_true.2 ⟨a,ha,by simpa using e⟩)
theorem c0F {l:List D0} {t:Tm} (ht:J4 l t):∀ (fs:List Fr) (lo:Nat) (s:Tm) (st:List Int) (out:List B0),Ctx t lo s fs->A8 t.leaves out->st.length+1000*fs.length<=500000->
  A8 t.leaves (V3 lo (N0 l lo) s st out fs).1/\(V3 lo (N0 l lo) s st out fs).2.1.length<=500000
 |[],lo,s,st,out,hx,hw,hl=>⟨hw,by simp only [V3];simpa using hl⟩
 |
  f :: fs,lo,s,st,out,hx,hw,hl=>by
  have hpar:=hx.2.at_ ht;have hlen:=hpar.len;have h400:=ht.le;have hln:=ht.len;have hmono:=l0p l hlen;rw [a0h hpar,r0m ht] at hmono;have hlv:N0 l (lo-f.off)=N0 l lo-f.l7:=by
   cases f<;>simp only [Fr.O2,Fr.off,Fr.l7,sub_zero] at hpar ⊢
   case catR a=>
    have h0:=hx.1;simp only [Fr.off] at h0;have:=a0h ((At.bin rfl rfl).1 hpar).1;rw [show lo-a.size+a.size=lo from by omega] at this;omega
   case altR a=>
    have h0:=hx.1;simp only [Fr.off] at h0;have:=a0h ((At.bin rfl rfl).1 hpar).1;rw [show lo-a.size+a.size=lo from by omega] at this;omega
  simp only [length_cons] at hl;cases f with
  |
   catL b=>
   simp only [Fr.O2,Fr.off,sub_zero,Tm.leaves,Tm.size] at hpar hmono hlen;have hbs:=b.L8 (lo+s.size);have hw':=p0o (n:=t.leaves) ((fs.length+1:Nat):Int) (b.Z0 (lo+s.size) (N0 l lo+s.leaves) st) out hw (fun h hh=>by
    have:=b.k00 (lo+s.size) (N0 l lo+s.leaves) st (by omega) (by omega) h hh;exact ⟨by omega,by omega,this.2.2⟩)
   simp only [V3];split
   ·exact c0F ht fs lo (.cat s b) _ _ hx.2 hw' (by simp;omega)
   ·exact ⟨hw',by simp⟩
  |
   star=>
   simp only [Fr.O2,Fr.off,sub_zero,Tm.leaves,Tm.size] at hpar hmono hlen;have hw':=p0o (n:=t.leaves) ((fs.length+1:Nat):Int) (s.Z0 lo (N0 l lo) st) out hw (fun h hh=>by
    have:=s.k00 lo (N0 l lo) st (by omega) (by omega) h hh;exact ⟨by omega,by omega,this.2.2⟩)
   simp only [V3];exact c0F ht fs lo (.star s) _ _ hx.2 hw' (by simp;omega)
  |
   catR a=>
   have:=c0F ht fs (lo-(Fr.catR a).off) ((Fr.catR a).O2 s) (st++[cls (((Fr.catR a).O2 s).top (lo-(Fr.catR a).off))]) out hx.2 hw (by simp;omega);rw [hlv] at this;exact this
  |
   altR a=>
   have:=c0F ht fs (lo-(Fr.altR a).off) ((Fr.altR a).O2 s) (st++[cls (((Fr.altR a).O2 s).top (lo-(Fr.altR a).off))]) out hx.2 hw (by simp;omega);rw [hlv] at this;exact this
  |
   altL b=>
   have:=c0F ht fs (lo-(Fr.altL b).off) ((Fr.altL b).O2 s) (st++[cls (((Fr.altL b).O2 s).top (lo-(Fr.altL b).off))]) out hx.2 hw (by simp;omega);rw [hlv] at this;exact this
  |
   maybe=>
   have:=c0F ht fs (lo-Fr.maybe.off) (Fr.maybe.O2 s) (st++[cls ((Fr.maybe.O2 s).top (lo-Fr.maybe.off))]) out hx.2 hw (by simp;omega);rw [hlv] at this;exact this
  |
   group n=>
   have:=c0F ht fs (lo-(Fr.group n).off) ((Fr.group n).O2 s) (st++[cls (((Fr.group n).O2 s).top (lo-(Fr.group n).off))]) out hx.2 hw (by simp;omega);rw [hlv] at this;exact this
  |
   iter=>
   have:=c0F ht fs (lo-Fr.iter.off) (Fr.iter.O2 s) (st++[cls ((Fr.iter.O2 s).top (lo-Fr.iter.off))]) out hx.2 hw (by simp;omega);rw [hlv] at this;exact this
theorem A8.b0k {n:Nat} {out:List B0} (h:A8 n out) (hn:n<=1000) (hl:out.length<=1000000):b0k B0.To out=true:=by
 simp only [Go.V.b0k,Bool.and_eq_true,List.all_eq_true,decide_eq_true_eq];refine ⟨⟨by omega,fun x hx=>?_⟩,(f0B _ _).2 h.dist⟩;have:=h.ok x hx;exact ⟨this.1,by have:=this.2.1;omega⟩
theorem B0N {α:Type} (z:α) (ys:List α):M4 (List.replicate ys.length z) ys=ys:=by
 simp [M4]
theorem r0s {fuel:Nat} (out:List B0) (hl:out.length<=1000000) (hf:out.length<fuel) (hs:∀ h∈out,h.Steps.length<=2000000):a0L fuel out=some out:=by
 have key:=V2 (step:=f0Z fuel out) (fun i=>(out,(i:Int))) out out.length (fun i hi=>.inl (by
  have hin:y0 out (i:Int)=true:=P0 (by omega) (by omega);have hd1:(i:Int)<(out.length:Int):=by omega
  have hg:gt out (i:Int)=out[i]:=I3 (by simp [hi]);have h1:=hs out[i] (List.getElem_mem _);have hmk:B3 8 (out[i].Steps.length:Int)=true:=by simp [B3];omega
  unfold f0Z;simp only [hd1,decide_true,if_true,hin,hg,hmk,Int.toNat_natCast,B0N,E2 (show i<9223372036854775807 by omega)];rw [show (⟨out[i].To,out[i].Turn,out[i].Steps⟩:B0)=out[i] from rfl];simp)) (by unfold f0Z;simp) out.length 0 fuel (by omega) (by omega)
 unfold a0L;rw [show (0:Int)=((0:Nat):Int) from rfl,key];rfl
def bucket (out:List B0):Nat->List B0
 |0=>[]
 |n+1=>bucket out n++out.filter fun h=>h.To==(n:Int)
theorem n08 (out:List B0):∀ n,(bucket out n).Perm (out.filter fun h=>decide (0<=h.To)&&decide (h.To<n))
 |
  0=>by
  have:(out.filter fun h=>decide (0<=h.To)&&decide (h.To<((0:Nat):Int)))=[]:=by
   rw [List.filter_eq_nil_iff];intro x _;simp
  rw [this];exact List.Perm.refl _
 |
  n+1=>by
  have ih:=n08 out n;simp only [bucket];refine (ih.append_right _).trans ?_;have e:out.Perm (out.filter (fun h=>decide (0<=h.To)&&decide (h.To<(n:Int)))++out.filter (fun h=>!(decide (0<=h.To)&&decide (h.To<(n:Int))))):=(List.filter_append_perm _ _).symm;have e2:=e.filter fun h=>decide (0<=h.To)&&decide (h.To<((n+1:Nat):Int));refine List.Perm.trans ?_ e2.symm;rw [List.filter_append,List.filter_filter,List.filter_filter];have a1:(out.filter fun a=>(decide (0<=a.To)&&decide (a.To<((n+1:Nat):Int)))&&(decide (0<=a.To)&&decide (a.To<(n:Int))))=out.filter fun h=>decide (0<=h.To)&&decide (h.To<(n:Int)):=by
   apply List.filter_congr;intro x _;rw [Bool.eq_iff_iff];simp;omega
  have a2:(out.filter fun a=>(decide (0<=a.To)&&decide (a.To<((n+1:Nat):Int)))&&!(decide (0<=a.To)&&decide (a.To<(n:Int))))=out.filter fun h=>h.To==(n:Int):=by
   apply List.filter_congr;intro x _;rw [Bool.eq_iff_iff];simp;omega
  rw [a1,a2]
theorem t00 (out:List B0):∀ n,(bucket out n).Pairwise (fun a b=>a.To<=b.To)/\∀ h∈bucket out n,h.To<n
 |0=>⟨List.Pairwise.nil,by simp [bucket]⟩
 |
  n+1=>by
  obtain ⟨h1,h2⟩:=t00 out n;simp only [bucket];refine ⟨List.pairwise_append.2 ⟨h1,?_,fun a ha b hb=>?_⟩,fun x hx=>?_⟩
  ·refine List.Pairwise.imp_of_mem ?_ (List.pairwise_of_forall (R:=fun _ _=>True) (fun _ _=>trivial));intro a b ha hb _;simp only [mem_filter,beq_iff_eq] at ha hb;rw [ha.2,hb.2];exact Int.le_refl _
  ·have:=h2 a ha;simp only [mem_filter,beq_iff_eq] at hb;omega
  ·rcases mem_append.1 hx with hx | hx
   ·have:=h2 x hx;omega
   ·simp only [mem_filter,beq_iff_eq] at hx;omega
theorem E0a {n:Nat} {out:List B0} (h:A8 n out):bucket out n=j7 B0.To out:=by
 refine t0L B0.To ?_ (t00 out n).1 ((f0B _ _).2 h.dist);have:=n08 out n
 rwa [List.filter_eq_self.2 (fun x hx=>by have:=h.ok x hx;simp [this.1,this.2.1])] at this
theorem I0a (out:List B0):∀ n,(bucket out n).length<=out.length:=fun n=>by
 rw [(n08 out n).length_eq];exact List.length_filter_le _ _
def M5 (t:Tm) (p q:Nat) (S:List Int) (fs:List Fr):List B0×List Int×Bool:=V3 q p (.leaf S) [cls q] [] fs
theorem s0U {l:List D0} (hw:∀ x∈l,C3 x) {t:Tm} (ht:J4 l t) (hR:J2 l=true) {fuel:Nat} (hf:401<fuel):∃ c,a0F fuel l=some (some c,true)/\g0O c l t:=by
 obtain ⟨u,e1,hu⟩:=o0p ht hR hf;obtain ⟨d,e2,hd⟩:=k0o ht hR hf;refine ⟨⟨l,u,d,E5 l l.length,i6 l⟩,?_,⟨rfl,hu,hd,rfl,rfl⟩⟩;unfold a0F;rw [c0N l hf,e1,e2,B0p hw hf,q0h hw hf];simp [hR,c0E]
theorem q0C {l:List D0} (hw:∀ x∈l,C3 x) {t:Tm} (ht:J4 l t) (hR:J2 l=true) {fuel:Nat} (hf:401<fuel) {p q:Nat} {S:List Int} {fs:List Fr} (hp:a06 l t p q S fs) (hpl:p<N0 l l.length) :
  ∃ c,a0E fuel l (p:Int)=some (some c,(q:Int),true)/\g0O c l t:=by
 obtain ⟨c,e,hc⟩:=s0U hw ht hR hf;refine ⟨c,?_,hc⟩;have hLF:v8 l=Q1 l l.length:=by simp [v8,hR]
 have h0:¬ ((p:Int)<0):=by omega
 have h1:¬ ((p:Int)>=((Q1 l l.length).length:Int)):=by rw [S6];omega
 have hin:y0 (Q1 l l.length) (p:Int)=true:=P0 (by omega) (by rw [S6];omega);unfold a0E;rw [e,m0s hw hf,hLF];simp [h0,h1,hin,I3 hp.get];omega
theorem t0G {l:List D0} (hw:∀ x∈l,C3 x) {t:Tm} (ht:J4 l t) (hR:J2 l=true) {c:X4} (hc:g0O c l t) {fuel:Nat} (hf:1000001<fuel) {p q:Nat} {S:List Int} {fs:List Fr} (hp:a06 l t p q S fs) :
  a0Q fuel c (q:Int)=some ((M5 t p q S fs).1,if (M5 t p q S fs).2.2 then (M5 t p q S fs).2.1 else []):=by
 have h400:=ht.le;have hln:=ht.len;have hsz:=hp.ctx.size;have hat:=hp.ctx.at_ ht;have hq:q<l.length:=by have:=hat.len;simp only [Tm.size] at this;omega
 have hiu:y0 c.up (q:Int)=true:=P0 (by omega) (by rw [hc.up.len];omega);obtain ⟨r,h1,h2,h3⟩:=x0s hw ht hR hc hf (q:Int) fs q (.leaf S) [cls q] [] hp.ctx (by simp;simp only [Tm.size] at hsz;omega) (by simp;simp only [Tm.size] at hsz;omega) fuel (by simp only [Tm.size] at hsz;omega);unfold a0Q;rw [hp.num] at h2;simp only [Tm.top,Tm.size,Nat.add_sub_cancel] at h1;simp only [hiu,if_true,Y6 (show q<=1000000000 by omega),V8 (show q<=1000000000 by omega),h1,E0];unfold M5;rw [<-h2];cases r with
 |inl y=>obtain ⟨y1,y2⟩:=y;rfl
 |inr z=>obtain ⟨z1,z2⟩:=z;rw [h3 z1 z2 rfl];rfl
theorem u0s {l:List D0} (hw:∀ x∈l,C3 x) {t:Tm} (ht:J4 l t) (hR:J2 l=true) {fuel:Nat} (hf:1000001<fuel) {p q:Nat} {S:List Int} {fs:List Fr} (hp:a06 l t p q S fs) (hpl:p<N0 l l.length) :
  a0P fuel l (p:Int)=some ((M5 t p q S fs).1,if (M5 t p q S fs).2.2 then (⟨-1,0,(M5 t p q S fs).2.1⟩,true) else (⟨0,0,[]⟩,false)):=by
 have h400:=ht.le;have hln:=ht.len;have hsz:=hp.ctx.size;have hat:=hp.ctx.at_ ht;have hq:q<l.length:=by have:=hat.len;simp only [Tm.size] at this;omega
 obtain ⟨u,e1,hu⟩:=s0j ht hR (show 401<fuel by omega);obtain ⟨d,e2,hd⟩:=s0N ht hR (show 401<fuel by omega);have hLF:v8 l=Q1 l l.length:=by simp [v8,hR]
 have hIF:c0E l=E5 l l.length:=by simp [c0E,hR]
 have hin:y0 (Q1 l l.length) (p:Int)=true:=P0 (by omega) (by rw [S6];omega);obtain ⟨r,h1,h2,h3⟩:=F0B ht hR hu hd hf (Q1 l l.length) (p:Int) ⟨0,0,[]⟩ fs q (.leaf S) [cls q] [] hp.ctx (by simp;simp only [Tm.size] at hsz;omega) (by simp;simp only [Tm.size] at hsz;omega) fuel (by simp only [Tm.size] at hsz;omega);unfold a0P;rw [hp.num] at h2;simp only [Tm.top,Tm.size,Nat.add_sub_cancel] at h1;rw [e1,e2,v0E hw (by omega) (by omega) (by omega),p0l hw (by omega) (by omega) (by omega),g08 hw (by omega) (by omega) (by omega),hLF,hIF];simp only [E0,hin,if_true,I3 hp.get,Y6 (show q<=1000000000 by omega),V8 (show q<=1000000000 by omega),h1];unfold M5;rw [<-h2];cases r with
 |inl y=>obtain ⟨y1,y2,y3⟩:=y;rfl
 |inr z=>obtain ⟨z1,z2,z3⟩:=z;obtain ⟨rfl,rfl⟩:=h3 z1 z2 z3 rfl;rfl
theorem m0b {l:List D0} {t:Tm} (ht:J4 l t) {p q:Nat} {S:List Int} {fs:List Fr} (hp:a06 l t p q S fs):A8 t.leaves (M5 t p q S fs).1/\(M5 t p q S fs).2.1.length<=500000:=by
 have hsz:=hp.ctx.size;have h400:=ht.le;have:=c0F ht fs q (.leaf S) [cls q] [] hp.ctx ⟨by simp,List.Pairwise.nil⟩ (by simp;simp only [Tm.size] at hsz;omega);rw [hp.num] at this;exact this
theorem c0R {l:List D0} {t:Tm} (ht:J4 l t):∀ (fs:List Fr) (lo p:Nat) (s:Tm) (st:List Int) (out:List B0),Ctx t lo s fs->out.length+1000*fs.length<=500000->(V3 lo p s st out fs).1.length<=500000
 |[],lo,p,s,st,out,hx,hl=>by simp only [V3];simpa using hl
 |
  f :: fs,lo,p,s,st,out,hx,hl=>by
  have hpar:=hx.2.at_ ht;have hlen:=hpar.len;have h400:=ht.le;have hln:=ht.len;simp only [length_cons] at hl;cases f with
  |
   catL b=>
   simp only [Fr.O2,Fr.off,sub_zero,Tm.size] at hlen;have h1:=d0d ((fs.length+1:Nat):Int) (b.Z0 (lo+s.size) (p+s.leaves) st) out;have h2:=b.a0c (lo+s.size) (p+s.leaves) st;have h3:=b.P9;simp only [V3];split
   ·exact c0R ht fs lo p (.cat s b) _ _ hx.2 (by omega)
   ·dsimp only;omega
  |
   star=>
   simp only [Fr.O2,Fr.off,sub_zero,Tm.size] at hlen;have h1:=d0d ((fs.length+1:Nat):Int) (s.Z0 lo p st) out;have h2:=s.a0c lo p st;have h3:=s.P9;simp only [V3];exact c0R ht fs lo p (.star s) _ _ hx.2 (by omega)
  |catR a=>exact c0R ht fs (lo-(Fr.catR a).off) (p-(Fr.catR a).l7) ((Fr.catR a).O2 s) _ out hx.2 (by omega)
  |altR a=>exact c0R ht fs (lo-(Fr.altR a).off) (p-(Fr.altR a).l7) ((Fr.altR a).O2 s) _ out hx.2 (by omega)
  |altL b=>exact c0R ht fs (lo-(Fr.altL b).off) (p-(Fr.altL b).l7) ((Fr.altL b).O2 s) _ out hx.2 (by omega)
  |maybe=>exact c0R ht fs (lo-Fr.maybe.off) (p-Fr.maybe.l7) (Fr.maybe.O2 s) _ out hx.2 (by omega)
  |group n=>exact c0R ht fs (lo-(Fr.group n).off) (p-(Fr.group n).l7) ((Fr.group n).O2 s) _ out hx.2 (by omega)
  |iter=>exact c0R ht fs (lo-Fr.iter.off) (p-Fr.iter.l7) (Fr.iter.O2 s) _ out hx.2 (by omega)
theorem q0c {l:List D0} {t:Tm} (ht:J4 l t) {p q:Nat} {S:List Int} {fs:List Fr} (hp:a06 l t p q S fs):(M5 t p q S fs).1.length<=500000:=by
 have hsz:=hp.ctx.size;have h400:=ht.le;exact c0R ht fs q p (.leaf S) [cls q] [] hp.ctx (by simp;simp only [Tm.size] at hsz;omega)
theorem F0g {l:List D0} (hw:∀ x∈l,C3 x) {t:Tm} (ht:J4 l t) (hR:J2 l=true) {fuel:Nat} (hf:1000001<fuel) {p q:Nat} {S:List Int} {fs:List Fr} (hp:a06 l t p q S fs) (hpl:p<N0 l l.length) :
  a09 fuel l (p:Int)=some (j7 B0.To (M5 t p q S fs).1):=by
 obtain ⟨c,e,hc⟩:=q0C hw ht hR (show 401<fuel by omega) hp hpl;obtain ⟨hways,_⟩:=m0b ht hp;have hl:=q0c ht hp;have hlv:=ht.lv;unfold a09;rw [e];simp only [E0,t0G hw ht hR hc hf hp,hways.b0k (by omega) (by omega),if_true];have hperm:=c0f B0.To (M5 t p q S fs).1;rw [r0s _ (by rw [e0x];omega) (by rw [e0x];omega) (fun h hh=>(hways.ok h (hperm.mem_iff.1 hh)).2.2)];simp
theorem G0H {l:List D0} (hw:∀ x∈l,C3 x) {t:Tm} (ht:J4 l t) (hR:J2 l=true) {fuel:Nat} (hf:1000001<fuel) {p q:Nat} {S:List Int} {fs:List Fr} (hp:a06 l t p q S fs) (hpl:p<N0 l l.length) :
  b0r fuel l (p:Int)=some (j7 B0.To (M5 t p q S fs).1):=by
 obtain ⟨hways,_⟩:=m0b ht hp;have hl:=q0c ht hp;have hlv:=ht.lv;have h400:=ht.le;have hln:=ht.len;have hla:=r0m ht;have hLF:v8 l=Q1 l l.length:=by simp [v8,hR]
 have hrl:=g08 hw (show l.length*64<=140737488351232 by omega) (show 401<fuel by omega) (by omega);rw [hLF] at hrl;have h0:¬ ((p:Int)<0):=by omega
 have h1:¬ ((p:Int)>=((Q1 l l.length).length:Int)):=by rw [S6];omega
 unfold b0r;simp only [h0,decide_false,false_eq_true,if_false,hrl,E0,h1,u0s hw ht hR hf hp hpl];generalize hcl:(M5 t p q S fs).1=out at *;generalize hx3:(out,(if (M5 t p q S fs).2.2=true then ((⟨-1,0,(M5 t p q S fs).2.1⟩:B0),true) else (⟨0,0,[]⟩,false)))=x3;have hx1:x3.1=out:=by rw [<-hx3]
 have inner:∀ (r:Nat) (x4 acc:List B0),acc.length+out.length<=1000000->iter (d08 fuel l x3 x4 (r:Int)) fuel (acc,0)=some (acc++out.filter fun h=>h.To==(r:Int)):=by
  intro r x4 acc hacc;have:=V2 (step:=d08 fuel l x3 x4 (r:Int)) (fun i=>(acc++(out.take i).filter (fun h=>h.To==(r:Int)),(i:Int))) (acc++out.filter fun h=>h.To==(r:Int)) out.length (fun i hi=>.inl (by
   have hin:y0 out (i:Int)=true:=P0 (by omega) (by omega);have hd1:(i:Int)<(out.length:Int):=by omega
   have hg:gt out (i:Int)=out[i]:=I3 (by simp [hi]);have hle:((out.take i).filter (fun h=>h.To==(r:Int))).length<=i:=Nat.le_trans (List.length_filter_le _ _) (by simp;omega);have hap:I0 40 (acc++(out.take i).filter (fun h=>h.To==(r:Int))) [out[i]]=true:=o5 (by simp;omega);have htk:out.take (i+1)=out.take i++[out[i]]:=List.take_succ_eq_append_getElem hi;unfold d08;simp only [hx1,hd1,decide_true,if_true,hin,hg,hap,E2 (show i<9223372036854775807 by omega),htk,List.filter_append]
   by_cases c:(out[i].To==(r:Int))=true
   ·simp [c]
   ·simp [c])) (by unfold d08;simp [hx1]) out.length 0 fuel (by omega) (by omega)
  simpa using this
 have outer:=V2 (step:=f0u fuel l x3) (fun r=>(bucket out r,(r:Int))) (bucket out t.leaves) t.leaves (fun r hr=>.inl (by
  have hd1:(r:Int)<((Q1 l l.length).length:Int):=by rw [S6,hla];omega
  unfold f0u;have:=I0a out r;simp only [hrl,E0,hd1,decide_true,if_true,inner r (bucket out r) (bucket out r) (by omega),E2 (show r<9223372036854775807 by omega)];rfl)) (by unfold f0u;simp [hrl,S6,hla]) t.leaves 0 fuel (by omega) (by omega)
 simp only [bucket] at outer;rw [show (([]:List B0),(0:Int))=([],((0:Nat):Int)) from rfl,outer,E0a hways];rfl
def D8 (s:List Int):B0×Bool:=if s.length=0 then (⟨0,0,[]⟩,false) else (⟨-1,0,s⟩,true)
theorem c0x:∀ (fs:List Fr) (lo p:Nat) (s:Tm) (st:List Int) (out:List B0),st≠[]->(V3 lo p s st out fs).2.2=true->(V3 lo p s st out fs).2.1≠[]
 |[],lo,p,s,st,out,hst,_=>by simpa only [V3] using hst
 |
  f :: fs,lo,p,s,st,out,hst,h=>by
  cases f with
  |
   catL b=>
   simp only [V3] at h ⊢;split at h
   ·rename_i hb;rw [if_pos hb];exact c0x fs _ _ _ _ _ (by simp) h
   ·simp at h
  |star=>simp only [V3] at h ⊢;exact c0x fs _ _ _ _ _ (by simp) h
  |catR a=>exact c0x fs (lo-(Fr.catR a).off) (p-(Fr.catR a).l7) ((Fr.catR a).O2 s) _ out (by simp) h
  |altR a=>exact c0x fs (lo-(Fr.altR a).off) (p-(Fr.altR a).l7) ((Fr.altR a).O2 s) _ out (by simp) h
  |altL b=>exact c0x fs (lo-(Fr.altL b).off) (p-(Fr.altL b).l7) ((Fr.altL b).O2 s) _ out (by simp) h
  |maybe=>exact c0x fs (lo-Fr.maybe.off) (p-Fr.maybe.l7) (Fr.maybe.O2 s) _ out (by simp) h
  |group n=>exact c0x fs (lo-(Fr.group n).off) (p-(Fr.group n).l7) ((Fr.group n).O2 s) _ out (by simp) h
  |iter=>exact c0x fs (lo-Fr.iter.off) (p-Fr.iter.l7) (Fr.iter.O2 s) _ out (by simp) h
theorem H0j {l:List D0} (hw:∀ x∈l,C3 x) {t:Tm} (ht:J4 l t) (hR:J2 l=true) {fuel:Nat} (hf:1000001<fuel) {p q:Nat} {S:List Int} {fs:List Fr} (hp:a06 l t p q S fs) (hpl:p<N0 l l.length) :
  Y8 fuel l (p:Int)=some (D8 (if (M5 t p q S fs).2.2 then (M5 t p q S fs).2.1 else [])):=by
 obtain ⟨c,e,hc⟩:=q0C hw ht hR (show 401<fuel by omega) hp hpl;have h1:((p:Int)==-1)=false:=by simp
 unfold Y8 D8;simp only [h1,false_eq_true,if_false,e,E0,if_true,t0G hw ht hR hc hf hp];generalize (if (M5 t p q S fs).2.2=true then (M5 t p q S fs).2.1 else [])=s
 by_cases hs:s.length=0<;>simp [hs]
theorem w02 {l:List D0} (hw:∀ x∈l,C3 x) {t:Tm} (ht:J4 l t) (hR:J2 l=true) {fuel:Nat} (hf:1000001<fuel) {p q:Nat} {S:List Int} {fs:List Fr} (hp:a06 l t p q S fs) (hpl:p<N0 l l.length) :
  J9 fuel l (p:Int)=some (D8 (if (M5 t p q S fs).2.2 then (M5 t p q S fs).2.1 else [])):=by
 have h1:((p:Int)==-1)=false:=by simp
 have h2:¬ ((p:Int) < -1):=by omega
 have h400:=ht.le;have hln:=ht.len;have hLF:v8 l=Q1 l l.length:=by simp [v8,hR]
 have h3:¬ ((p:Int)>=((Q1 l l.length).length:Int)):=by rw [S6];omega
 unfold J9 D8;simp only [h2,decide_false,false_eq_true,if_false,b0g l (show l.length*64<=140737488351232 by omega) (show l.length+1<fuel by omega),hR,Bool.not_true,E0,g08 hw (show l.length*64<=140737488351232 by omega) (show 401<fuel by omega) (by omega),hLF,h3,h1,u0s hw ht hR hf hp hpl]
 by_cases hb:(M5 t p q S fs).2.2=true
 ·have:=c0x fs q p (.leaf S) [cls q] [] (by simp) hb;have h5:(M5 t p q S fs).2.1.length≠0:=fun h=>this (List.eq_nil_of_length_eq_zero h);simp [hb,h5]
 ·simp [hb]
theorem t0q {l:List D0} (hw:∀ x∈l,C3 x) {t:Tm} (ht:J4 l t) (hR:J2 l=true) {fuel:Nat} (hf:1000001<fuel):Y8 fuel l (-1)=some (D8 (if t.can then t.steps 0 else []))/\J9 fuel l (-1)=some (D8 (if t.can then t.steps 0 else [])):=by
 have h400:=ht.le;have hln:=ht.len;have hp:=t.size_pos;have hW:W ((l.length:Int)-1)=(t.top 0:Int):=by rw [Z2 (by omega) (by omega)];unfold Tm.top;omega
 have hLF:v8 l=Q1 l l.length:=by simp [v8,hR]
 have h3:¬ ((-1:Int)>=((Q1 l l.length).length:Int)):=by omega
 constructor
 ·unfold Y8 D8;simp only [beq_self_eq_true,if_true,hW,q0n hw ht hR (show 401<fuel by omega) ht.at0,E0];generalize (if t.can=true then t.steps 0 else [])=s
  by_cases hs:s.length=0
  ·simp [hs]
  ·simp [hs]
 ·unfold J9 D8;simp only [show ¬ ((-1:Int) < -1) from by omega,decide_false,false_eq_true,if_false,b0g l (show l.length*64<=140737488351232 by omega) (show l.length+1<fuel by omega),hR,Bool.not_true,E0,g08 hw (show l.length*64<=140737488351232 by omega) (show 401<fuel by omega) (by omega),hLF,h3,beq_self_eq_true,if_true,hW,z05 hw ht hR (show 401<fuel by omega) ht.at0];generalize (if t.can=true then t.steps 0 else [])=s
  by_cases hs:s.length=0
  ·simp [hs]
  ·simp [hs]
theorem A00 {l:List D0} (hw:∀ x∈l,C3 x) {t:Tm} (ht:J4 l t) (hR:J2 l=true) {fuel:Nat} (hf:1000001<fuel) {lo:Nat} {s:Tm} (h:At l lo s):b0u fuel l (s.top lo:Int)=some (s.Z0 lo (N0 l lo) [])/\b0w fuel l (s.top lo:Int)=some (s.Z0 lo (N0 l lo) []):=by
 have h400:=ht.le;have hln:=ht.len;have htop:=h.u6;have hsl:=h.len;have h0:¬ ((s.top lo:Int)<0):=by omega
 have h1:¬ ((s.top lo:Int)>=(l.length:Int)):=by omega
 have hil:=s.a0c lo (N0 l lo) [];have hls:=s.P9;constructor
 ·obtain ⟨c,e,hc⟩:=s0U hw ht hR (show 401<fuel by omega);unfold b0u;rw [e];simp only [Bool.not_true,false_eq_true,if_false,h0,decide_false,h1,E0,n0d hw ht hR hc (show 401<fuel by omega) s lo h fuel [] [] (by omega) (by simp;omega) (by simp;omega),List.nil_append];rw [r0s _ (by omega) (by omega) (fun h' hh=>(s.k00 lo (N0 l lo) [] (by omega) (by simp;omega) h' hh).2.2)];rfl
 ·unfold b0w;have hIF:c0E l=E5 l l.length:=by simp [c0E,hR]
  rw [b0g l (show l.length*64<=140737488351232 by omega) (show l.length+1<fuel by omega),hR];simp only [Bool.not_true,false_eq_true,if_false,h0,decide_false,h1,E0,v0E hw (show l.length*64<=140737488351232 by omega) (show 401<fuel by omega) (by omega),p0l hw (show l.length*64<=140737488351232 by omega) (show 401<fuel by omega) (by omega),hIF,n0H ht hR (show 401<fuel by omega) s lo h fuel [] (by omega) (by simp;omega)]
