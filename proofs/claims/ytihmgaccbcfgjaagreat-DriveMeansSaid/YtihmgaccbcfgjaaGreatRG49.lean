/- P. Its conditions: none. -/
import Derived.Test.YtihmgaccbcfgjaaGreatRG48
import Derived.Test.YtihmgaccbcfgjaaGreatRG45
import Derived.Test.YtihmgaccbcfgjaaGreatRPLDriveAnswers
import Derived.Test.YtihmgaccbcfgjaaGreatRE16
set_option linter.all false
namespace Go.Proofs.YtihmgaccbcfgjaaGreat
open Go.V Go.RowKit Old Go.X
open Classical
theorem U0Y {regs row V:List Int}{at_:Int}(h:h0G (w0v regs at_) row V):a0j at_ regs row=V:=by
 obtain⟨h1,m⟩:=h;unfold a0j;refine List.ext_getElem (by grind) fun i o i2=>?_;have hi:i<row.length:=O'
 have g:=m i hi;have j:gt row (i:Int)=row[i]:=X2 (List.getElem?_eq_getElem hi);have k:gt V (i:Int)=V[i]:=X2 (List.getElem?_eq_getElem i2);rw[j,k]at g;rw[List.getElem_map];unfold h0Y;rcases g with⟨c,f⟩|⟨c,f⟩|⟨c,f,q3⟩
 ·omega
 ·omega
 omega
theorem U0J {regs src:List Int}{at_:Int}(h:∀v∈src,v=-1\/(0<=v/\v<(regs.length:Int))):a0j at_ regs src=f0l regs src at_:=by
 refine List.map_congr_left fun v c=>?_;unfold h0Y
 grind
section
variable {F:Nat}{l:List C0}{n:Nat}{a:List B0}{b:Nat->List B0}{e:Nat->B0×Bool}{z:B0×Bool}{mode:Int}
structure Mch (F:Nat)(l:List C0)(n:Nat)(mode:Int)(cls:List Int)(L:List F1)(d:Y1):Prop where
 ed:d=b0F (K6 F) (V8 F l) (J1 F l mode (M0 cls)) (M0 cls).length (C4 l) cls L
 cl:∀x,L5 .u8 x->∃c:Nat,gt cls x=(c:Int)/\c<(M0 cls).length/\L5 .u8 (gt (M0 cls) (c:Int))/\∀r,r<n->s7 l (gt (M0 cls) (c:Int)) r=s7 l x r
 nx:∀k∈L,∀c,c<(M0 cls).length->∀x s,J1 F l mode (M0 cls) k c=some (x,s)->x∈L
theorem Mch.at {cls:List Int}{L:List F1}{d:Y1}(M:Mch F l n mode cls L d){k:F1}(hk:k∈L):gt d.States ((X6 L k:Nat):Int)=T9 (K6 F) (V8 F l) (J1 F l mode (M0 cls)) (M0 cls).length L k:=by
 rw[M.ed];refine X2 ?_;show(L.map _)[X6 L k]?=_
 grind [h0o]
def Mch.a0Z (K:U3 l n a b e z F)(hw:∀x∈l,P2 x)(hm:mode=0\/mode=1){cls:List Int}{L:List F1}{d:Y1}(M:Mch F l n mode cls L d){kd:Kd}{R:Nat}(hk:KOk F l n kd R)(h:kd.K∈L){c:f0L}(o:c.state=((X6 L kd.K:Nat):Int)){x:Int}(k:L5 .u8 x):
  KOk F l n (kd.next l n a b e mode x) (kd.src l n a b e mode x).length/\(((kd.next l n a b e mode x).pl=[]/\(kd.next l n a b e mode x).flag=0/\a0b d c x=⟨-1,[]⟩)\/(¬((kd.next l n a b e mode x).pl=[]/\(kd.next l n a b e mode x).flag=0)/\(kd.next l n a b e mode x).K∈L/\a0b d c x=⟨((X6 L (kd.next l n a b e mode x).K:Nat):Int),kd.src l n a b e mode x⟩)):=by
 obtain⟨f,c1,c2,c3,c4⟩:=M.cl x k;obtain⟨p,i,_⟩:=x0l (b_:=gt (M0 cls) (f:Int)) (mode:=mode) K hw hk hm c3;obtain⟨g1,g2⟩:=P0z (a:=a) (b:=b) (e:=e) c4 mode kd;rw[g1,g2]at p i;refine⟨i,?_⟩;have j:a0b d c x=U8 (J1 F l mode (M0 cls)) L kd.K f:=by
  unfold a0b;rw[o,M.at h];have:d.Class=cls:=by rw[M.ed];rfl
  rw[this,c1];show gt ((List.range _).map _) (f:Int)=_
  simp_all[X2]
 have m:(((kd.next l n a b e mode x).K.Places.length:Int)==0&&(kd.next l n a b e mode x).K.Flag==0)=true↔((kd.next l n a b e mode x).pl=[]/\(kd.next l n a b e mode x).flag=0):=by
  have:(kd.next l n a b e mode x).K.Places.length=(kd.next l n a b e mode x).pl.length:=e0b _;rw[this,Bool.and_eq_true,beq_iff_eq,beq_iff_eq];constructor
  ·rintro⟨h1,g⟩;exact⟨List.eq_nil_of_length_eq_zero O',g⟩
  ·rintro⟨h1,g⟩;exact⟨by simp_all,g⟩
 by_cases hs:(kd.next l n a b e mode x).pl=[]/\(kd.next l n a b e mode x).flag=0
 ·simp_all[U8,J1]
 ·have hn:J1 F l mode (M0 cls) kd.K f=some ((kd.next l n a b e mode x).K,kd.src l n a b e mode x):=by
   simp_all[J1]
  refine .inr ⟨hs,M.nx _ h f c2 _ _ hn,?_⟩
  simp_all[U8]
def Q0O (x:e0A)(h:Hs):Prop:=if h.is=true then x=⟨h.tags,h.to⟩else x.tags=[]
structure Q0y (F:Nat)(l:List C0)(n:Nat)(e:Nat->B0×Bool)(z:B0×Bool)(L:List F1)(c:f0L)(h:Hs)(i:Nat):Prop where
 at_:c.at_=(i:Int)
 ls:Q0O c.last h
 st:(∃kd R,KOk F l n kd R/\kd.K∈L/\c.state=((X6 L kd.K:Nat):Int)/\O6 l n e z h kd c.regs i)\/(c.state=-1/\h.is=true/\h.c.pl=[]/\i≠0/\B0U l n h i)
theorem U0a (K:U3 l n a b e z F){cls:List Int}{L:List F1}{d:Y1}(M:Mch F l n mode cls L d){kd:Kd}{R:Nat}(hk:KOk F l n kd R)(j:kd.K∈L){c:f0L}{h:Hs}{i:Nat}(f:c.at_=(i:Int))(k:c.state=((X6 L kd.K:Nat):Int))(S:O6 l n e z h kd c.regs i)
  (hl:¬(h.is=true/\h.to=(i:Int))->Q0O c.last h):Q0y F l n e z L (a02 d c) h i:=by
 have o:(gt d.States c.state).Accept=a06 l e z kd:=by
  rw[k,M.at j];show V8 F l kd.K=_;unfold V8;rw[(D0j K hk).1];rfl
 have ha:=S.acc;have p:=a07 l;unfold a02;rw[o]
 by_cases m:h.is=true/\h.to=(i:Int)
 ·have g:a06 l e z kd≠[]:=fun h=>by grind
  rw[if_pos ⟨O',g⟩];refine⟨f,?_,.inl ⟨kd,R,hk,j,k,S⟩⟩;unfold Q0O
  grind [U0Y]
 ·rw[if_neg m]at ha;rw[ha,if_neg Z'];exact⟨f,hl m,.inl ⟨kd,R,hk,j,k,S⟩⟩
theorem V0Q (h:Hs){i:Nat}(f:B0U l n h i){x:Int}(hn:¬((h.feed l n a b e x).is=true/\(h.feed l n a b e x).to=((i+1:Nat):Int))):(h.feed l n a b e x).tags=h.tags/\(h.feed l n a b e x).to=h.to/\(h.feed l n a b e x).is=h.is:=by
 have g:(h.j0o l n a b x).at_=((i+1:Nat):Int):=by
  have:=f.c.a0;show h.c.at_+1=_;omega
 unfold Hs.feed at hn ⊢
 grind
theorem V01 (K:U3 l n a b e z F)(hw:∀x∈l,P2 x){cls:List Int}{L:List F1}{d:Y1}(M:Mch F l n 0 cls L d){c:f0L}{h:Hs}{i:Nat}(S:Q0y F l n e z L c h i)(hi:i<=100000){x:Int}(hx:L5 .u8 x):Q0y F l n e z L (m01 d c x) (h.feed l n a b e x) (i+1):=by
 unfold m01;have g:∀c':f0L,B0U l n h i->c'.last=c.last->¬((h.feed l n a b e x).is=true/\(h.feed l n a b e x).to=((i+1:Nat):Int))->Q0O c'.last (h.feed l n a b e x):=by
  intro c' k he hn;obtain⟨q1,q2,q3⟩:=V0Q h k hn;have:=S.ls
  simp_all[Q0O]
 rcases S.st with⟨kd,R,hk,hL,hc,Sm⟩|⟨hc,o,hpl,hi0,k⟩
 ·obtain⟨k2,U⟩:=M.a0Z K hw (.inl rfl) hk hL hc hx;obtain⟨q,j⟩:=V0U (b_:=x) K hw Sm hi hx;have q:O6 l n e z (h.feed l n a b e x) (kd.next l n a b e 0 x) (f0l c.regs (kd.src l n a b e 0 x) (i:Int)) (i+1):=q;have j:∀v∈kd.src l n a b e 0 x,v=-1\/(0<=v/\v<(c.regs.length:Int)):=j;have m:0<=c.state:=O'
  rcases U with⟨J,e2,e3⟩|⟨J,e2,e3⟩
  ·have f:c03 d c x={ c with at_:=c.at_+1,state:=-1,work:=c.work+1+(([]:List Int).length:Int),regs:=[] }:=by
    unfold c03;rw[if_pos m,e3];rfl
   have p:a02 d (c03 d c x)=c03 d c x:=by
    simp_all[a02]
   rw[p];have o:(h.feed l n a b e x).is=true:=by
    have:=q.fl
    simp_all
   have b1:=q.acc;have C:¬((h.feed l n a b e x).is=true/\(h.feed l n a b e x).to=((i+1:Nat):Int)):=fun hh=>by
    have:a06 l e z (kd.next l n a b e 0 x)=[]:=by
     unfold a06;rw[J,e2,show D8 (kd.next l n a b e 0 x).fD (E7 e [] ([]:List Nat).length)=-1 from rfl,if_pos (show(-1:Int)<0 from O')];simp
    have ht:=a07 l
    grind
   refine⟨?_,g _ Sm.hs (by rw[f]) C,.inr ⟨by rw[f],o,by rw[<-q.pl];exact J,O',q.hs⟩⟩;have:=S.at_
   simp_all
  ·have f:c03 d c x={ c with at_:=c.at_+1,state:=((X6 L (kd.next l n a b e 0 x).K:Nat):Int),work:=c.work+1+((kd.src l n a b e 0 x).length:Int),regs:=f0l c.regs (kd.src l n a b e 0 x) (i:Int) }:=by
    unfold c03;rw[if_pos m,e3];simp only;rw[S.at_,U0J j]
   refine U0a K M k2 e2 ?_ (by rw[f]) (by simp_all) (g _ Sm.hs (by rw[f]));rw[f];have:=S.at_
   simp_all
 ·have f:c03 d c x={ c with at_:=c.at_+1,work:=c.work+1 }:=by
   simp_all[c03]
  have p:a02 d (c03 d c x)=c03 d c x:=by
   simp_all[a02]
  rw[p];have a1:=k.c.a0;have s:(h.c.at_==0||!h.is)=false:=by
   simp_all
  have y:(h.j0o l n a b x).pl=[]:=by
   show Z3 l n a b h.c.pl x (h.c.at_==0||!h.is)=[];rw[s,hpl];exact List.eq_nil_iff_forall_not_mem.2 fun r hr=>(c09 hr).2 rfl
  have I:((h.j0o l n a b x).P6 l e).2=false:=by
   unfold Cs.P6 B0o;rw[y];rfl
  have hF:h.feed l n a b e x=⟨h.j0o l n a b x,h.tags,h.to,h.is⟩:=by simp_all[Hs.feed]
  have u:=T0F (e:=e) K hw k x;rw[hF]at u ⊢;refine⟨?_,?_,.inr ⟨by simp_all,o,y,O',u⟩⟩
  ·rw[f];have:=S.at_
   simp_all
  ·rw[f];exact S.ls
end
section
variable {F:Nat}{l:List C0}{n:Nat}{a:List B0}{b:Nat->List B0}{e:Nat->B0×Bool}{z:B0×Bool}{mode:Int}{cls:List Int}{L:List F1}{d:Y1}{w:List Int}
def X0C (z:B0×Bool):Kd.zero z 0=⟨if z.2 then 2 else 1,[],[],fun _ _=>0,fun _ _=>0⟩:=by
 simp[Kd.zero]
def W0b (K:U3 l n a b e z F)(hw:∀x∈l,P2 x)(M:Mch F l n 0 cls L d)(c:(Kd.zero z 0).K∈L)(hp:X6 L (Kd.zero z 0).K=0):Q0y F l n e z L (J0h d) (Hs.zero l z) 0:=by
 refine U0a K M (A0M K hw (.inl rfl)).2 c rfl (by simp_all) (by simp[X0C,V0t]) (fun h=>?_);unfold Q0O
 by_cases hs:(Hs.zero l z).is=true
 ·exact absurd ⟨hs,rfl⟩ h
 simp_all
def U0x (K:U3 l n a b e z F)(hw:∀x∈l,P2 x)(M:Mch F l n 0 cls L d)(f:(Kd.zero z 0).K∈L)(hp:X6 L (Kd.zero z 0).K=0)(c:∀x∈w,L5 .u8 x)(hl:w.length<=1000):∀i,i<=w.length->Q0y F l n e z L (a0n d w i) (J0U l n a b e z w i) i
 |0,_=>by exact W0b K hw M f hp
 |i+1,h=>by
  rw[L04 d w (show i<w.length from O')];exact V01 K hw M (U0x K hw M f hp c hl i O') O' (c _ (b8 O'))
def Q0y.ho {c:f0L}{h:Hs}{i:Nat}(S:Q0y F l n e z L c h i):B0U l n h i:=by
 rcases S.st with⟨_,_,_,_,_,S⟩|⟨_,_,_,_,h⟩
 ·exact S.hs
 omega
theorem V0E (K:U3 l n a b e z F)(hw:∀x∈l,P2 x)(M:Mch F l n 0 cls L d)(h:(Kd.zero z 0).K∈L)(hp:X6 L (Kd.zero z 0).K=0)(g:∀x∈w,L5 .u8 x)(hl:w.length<=1000)(j:a0V d=true):
  J0n d w=if(J0U l n a b e z w w.length).found.2 then((J0U l n a b e z w w.length).found.1,0)else([],7):=by
 have S:=U0x (w:=w) K hw M h hp g hl w.length (Nat.le_refl _);have f:=S.ls;have ho:=S.ho;have i:=a07 l;unfold J0n h03;unfold Q0O at f;unfold Hs.found
 by_cases c:(J0U l n a b e z w w.length).is=true
 ·obtain⟨t1,_⟩:=ho.is c
  grind
 simp_all
structure S0n (F:Nat)(l:List C0)(n:Nat)(e:Nat->B0×Bool)(z:B0×Bool)(L:List F1)(d:Y1)(c:f0L)(s:Cs)(i:Nat):Prop where
 at_:c.at_=(i:Int)
 st:(∃kd R,KOk F l n kd R/\kd.K∈L/\c.state=((X6 L kd.K:Nat):Int)/\R0Z l n s kd c.regs i)\/(c.state=-1/\s.pl=[]/\i≠0/\w04 l n s i)
 yes:0<=c.state/\(gt d.States c.state).Accept≠[]->(if i=0 then s0N l z 0 else s.P6 l e).2=true/\c.last=⟨(if i=0 then s0N l z 0 else s.P6 l e).1,(i:Int)⟩/\(if i=0 then s0N l z 0 else s.P6 l e).1≠[]
 no:¬(0<=c.state/\(gt d.States c.state).Accept≠[])->(if i=0 then s0N l z 0 else s.P6 l e).2=false
theorem U0n (K:U3 l n a b e z F)(M:Mch F l n mode cls L d){kd:Kd}{R:Nat}(hk:KOk F l n kd R)(j:kd.K∈L){c:f0L}{s:Cs}{i:Nat}(g:c.at_=(i:Int))(k:c.state=((X6 L kd.K:Nat):Int))(S:R0Z l n s kd c.regs i)
  (m:((if i=0 then s0N l z 0 else s.P6 l e).2=true->h0G (w0v c.regs (i:Int)) (a06 l e z kd) (if i=0 then s0N l z 0 else s.P6 l e).1/\a06 l e z kd≠[])/\((if i=0 then s0N l z 0 else s.P6 l e).2=false->a06 l e z kd=[])):S0n F l n e z L d (a02 d c) s i:=by
 have r:(gt d.States c.state).Accept=a06 l e z kd:=by
  rw[k,M.at j];show V8 F l kd.K=_;unfold V8;rw[(D0j K hk).1];rfl
 have f:0<=c.state:=O'
 unfold a02;cases q:(if i=0 then s0N l z 0 else s.P6 l e).2 with
 |true=>
  obtain⟨h1,o⟩:=m.1 q;rw[if_pos ⟨f,by simp_all⟩];refine⟨g,.inl ⟨kd,R,hk,j,k,S⟩,fun _=>⟨q,?_,?_⟩,fun h=>absurd ⟨f,by simp_all⟩ h⟩
  ·grind [U0Y]
  ·intro p;have:=h1.1
   simp_all
 |false=>
  have hn:¬(0<=c.state/\(gt d.States c.state).Accept≠[]):=fun h=>h.2 (by simp_all);rw[if_neg hn];exact⟨g,.inl ⟨kd,R,hk,j,k,S⟩,fun h=>absurd h hn,fun _=>q⟩
theorem T09 (K:U3 l n a b e z F){kd:Kd}{V:List Int}{P:Int->Int->Prop}(h:h0G P (a06 l e z kd) V)(f:V.length=(C4 l).toNat):a06 l e z kd≠[]:=fun g=>by
 have c:=a07 l;have:=h.1
 grind
def V02 (K:U3 l n a b e z F)(hw:∀x∈l,P2 x)(M:Mch F l n 1 cls L d)(f:(Kd.zero z 1).K∈L)(hp:X6 L (Kd.zero z 1).K=0):S0n F l n e z L d (J0h d) Cs.zero 0:=by
 refine U0n K M (A0M K hw (.inr rfl)).2 f rfl (by simp_all) (W0g l n z) ?_;obtain⟨h1,c⟩:=W0G (l:=l) (e:=e) (z:=z);refine⟨fun h=>⟨h1 h,T09 K (h1 h) ?_⟩,c⟩;unfold s0N at h ⊢;cases q:z.2 with
 |false=>simp_all
 |true=>simp[e0V,B0S]
def W0C (K:U3 l n a b e z F)(hw:∀x∈l,P2 x)(M:Mch F l n 1 cls L d){c:f0L}{s:Cs}{i:Nat}(S:S0n F l n e z L d c s i){x:Int}(hx:L5 .u8 x):S0n F l n e z L d (m01 d c x) (s.step l n a b x (i==0)) (i+1):=by
 unfold m01;have v:¬i+1=0:=O'
 have dead:∀(c':f0L) (q:Cs),q.pl=[]->(q.P6 l e).2=false:=fun c' q h=>by
  unfold Cs.P6 B0o;rw[h];rfl
 rcases S.st with⟨kd,R,hk,hL,J,Sm⟩|⟨J,hpl,hi0,hok⟩
 ·obtain⟨U,u⟩:=M.a0Z K hw (.inr rfl) hk hL J hx;obtain⟨p,m⟩:=V0w (e:=e) K hw Sm x;have g:0<=c.state:=O'
  rcases u with⟨C,I,y⟩|⟨C,I,y⟩
  ·have f:c03 d c x={ c with at_:=c.at_+1,state:=-1,work:=c.work+1+(([]:List Int).length:Int),regs:=[] }:=by
    unfold c03;rw[if_pos g,y];rfl
   have j:a02 d (c03 d c x)=c03 d c x:=by
    simp_all[a02]
   have hn:¬(0<=(c03 d c x).state/\(gt d.States (c03 d c x).state).Accept≠[]):=by simp_all
   have k:(s.step l n a b x (i==0)).pl=[]:=by rw[<-p.pl];exact C
   rw[j];refine⟨?_,.inr ⟨by rw[f],k,O',p.ok⟩,fun h=>absurd h hn,fun _=>by simp_all⟩;have:=S.at_
   simp_all
  ·have f:c03 d c x={ c with at_:=c.at_+1,state:=((X6 L (kd.next l n a b e 1 x).K:Nat):Int),work:=c.work+1+((kd.src l n a b e 1 x).length:Int),regs:=f0l c.regs (kd.src l n a b e 1 x) (i:Int) }:=by
    unfold c03;rw[if_pos g,y];rw[S.at_,U0J m]
   refine U0n K M U I ?_ (by rw[f]) (by simp_all) ?_
   ·have:=S.at_
    simp_all
   ·obtain⟨h1,h2⟩:=W09 (z:=z) (e:=e) p v;rw[f];refine⟨fun h=>⟨h1 h,T09 K (h1 h) ?_⟩,h2⟩;exact(U0o (e:=e) (at_:=(s.step l n a b x (i==0)).at_) p.ok.ok h).1
 ·have f:c03 d c x={ c with at_:=c.at_+1,work:=c.work+1 }:=by
   simp_all[c03]
  have j:a02 d (c03 d c x)=c03 d c x:=by
   simp_all[a02]
  have hn:¬(0<=(c03 d c x).state/\(gt d.States (c03 d c x).state).Accept≠[]):=by simp_all
  have o:(i==0)=false:=by simp_all
  have k:(s.step l n a b x (i==0)).pl=[]:=by
   show Z3 l n a b s.pl x (i==0)=[];rw[o,hpl];exact List.eq_nil_iff_forall_not_mem.2 fun r hr=>(c09 hr).2 rfl
  rw[j];refine⟨?_,.inr ⟨by simp_all,k,O',S0Q K hw hok x _⟩,fun h=>absurd h hn,fun _=>by simp_all⟩;have:=S.at_
  simp_all
def T0U (K:U3 l n a b e z F)(hw:∀x∈l,P2 x)(M:Mch F l n 1 cls L d)(f:(Kd.zero z 1).K∈L)(hp:X6 L (Kd.zero z 1).K=0)(c:∀x∈w,L5 .u8 x):∀i,i<=w.length->S0n F l n e z L d (a0n d w i) (R08 l n a b w i) i
 |0,_=>by exact V02 K hw M f hp
 |i+1,h=>by
  rw[L04 d w (show i<w.length from O')];exact W0C K hw M (T0U K hw M f hp c i O') (c _ (b8 O'))
def V0z (K:U3 l n a b e z F)(hw:∀x∈l,P2 x)(M:Mch F l n 1 cls L d)(h:(Kd.zero z 1).K∈L)(hp:X6 L (Kd.zero z 1).K=0)(g:∀x∈w,L5 .u8 x)(i:a0V d=true):
  C0b d w=if(i0U l n a b e z w w.length).2 then(f02 (i0U l n a b e z w w.length).1 (w.length:Int),0)else([],7):=by
 have S:=T0U (w:=w) K hw M h hp g w.length (Nat.le_refl _);unfold C0b h03;have f:(if w.length=0 then s0N l z 0 else(R08 l n a b w w.length).P6 l e)=i0U l n a b e z w w.length:=rfl
 by_cases c:0<=(a0n d w w.length).state/\(gt d.States (a0n d w w.length).state).Accept≠[]
 ·obtain⟨h1,j,k⟩:=S.yes c
  simp_all
 ·have h1:=S.no c
  simp_all
end
end Go.Proofs.YtihmgaccbcfgjaaGreat
namespace Go.Proofs.YtihmgaccbcfgjaaGreat
open Go.V Go.RowKit Go.X
def L0M {α:Type}[Inhabited α]{a b:List α}{i:Nat}(h:i<a.length):gt (a++b) (i:Int)=gt a (i:Int):=by
 have c:gt a (i:Int)=a[i]:=X2 (List.getElem?_eq_getElem h);rw[c];exact X2 (by rw[List.getElem?_append_left h,List.getElem?_eq_getElem h])
def L0c {α:Type}[Inhabited α]{a:List α}{x:α}{i:Nat}(h:i=a.length):gt (a++[x]) (i:Int)=x:=X2 (by subst h;simp)
def L0b (key:Nat->List Bool):∀b,∀x,x<b->∃c:Nat,gt (I3 key b).2 (x:Int)=(c:Int)/\(I3 key b).1[c]?=some (key x)
 |0,x,h=>absurd h (Nat.not_lt_zero x)
 |b+1,x,h=>by
  obtain⟨h1,_,_,_⟩:=k08 key b;rw[show I3 key (b+1)=g0L (I3 key b) (key b)from rfl];unfold g0L;split
  ·rename_i g;rcases Nat.lt_or_ge x b with q|q
   ·obtain⟨c,c1,c2⟩:=L0b key b x q;exact⟨c,by simp only;rw[L0M O'];exact c1,c2⟩
   ·obtain rfl:x=b:=O'
    have hi:=List.idxOf_lt_length_of_mem (List.contains_iff_mem.1 g);refine⟨(I3 key x).1.idxOf (key x),L0c h1.symm,?_⟩;simp only;rw[List.getElem?_eq_getElem hi,List.getElem_idxOf hi]
  ·rcases Nat.lt_or_ge x b with q|q
   ·obtain⟨c,c1,c2⟩:=L0b key b x q;have f:=(List.getElem?_eq_some_iff.1 c2).1;exact⟨c,by simp only;rw[L0M O'];exact c1,by simp only;rw[List.getElem?_append_left f];exact c2⟩
   ·obtain rfl:x=b:=O'
    exact⟨(I3 key x).1.length,L0c h1.symm,Z'⟩
def M09 (key:Nat->List Bool):∀b,b<=256->∀c,c<(I3 key b).1.length->∃x:Nat,x<b/\gt (M0 (I3 key b).2) (c:Int)=(x:Int)/\(I3 key b).1[c]?=some (key x)
 |0,_,c,h=>absurd h (Nat.not_lt_zero c)
 |b+1,hb,c,h=>by
  obtain⟨h1,_,f,_⟩:=k08 key b;rw[show I3 key (b+1)=g0L (I3 key b) (key b)from rfl]at h ⊢;unfold M0 at f ⊢;have i:=M09 key b O';unfold M0 at i;unfold g0L at h ⊢;split at h
  ·rename_i g;rw[if_pos g];have hi:=List.idxOf_lt_length_of_mem (List.contains_iff_mem.1 g);obtain⟨x,m,k,j⟩:=i c h;refine⟨x,O',?_,j⟩;simp only;rw[n0C,F9,f,if_neg O'];exact k
  ·rename_i g;rw[if_neg g];simp only[List.length_append,List.length_cons,List.length_nil]at h;simp only;rw[n0C,F9,f,if_pos rfl,Nat.zero_add,h1];show ∃x:Nat,x<b+1/\gt (F9 (I3 key b).2 0 []++[IntKind.u8.wrap (b:Int)]) (c:Int)=(x:Int)/\_;rcases Nat.lt_or_ge c (I3 key b).1.length with q|q
   ·obtain⟨x,m,k,j⟩:=i c q;refine⟨x,O',?_,?_⟩
    ·rw[L0M O'];exact k
    ·rw[List.getElem?_append_left q];exact j
   ·obtain rfl:c=(I3 key b).1.length:=O'
    refine⟨b,O',?_,Z'⟩;rw[L0c f.symm];have:IntKind.u8.wrap (b:Int)=(b:Int) % 256:=by rfl
    rw[this];omega
def N0c (key:Nat->List Bool){x:Int}(g:L5 .u8 x):∃c:Nat,gt (I3 key 256).2 x=(c:Int)/\c<(M0 (I3 key 256).2).length/\L5 .u8 (gt (M0 (I3 key 256).2) (c:Int))/\∃y:Nat,gt (M0 (I3 key 256).2) (c:Int)=(y:Int)/\key y=key x.toNat:=by
 have k:0<=x/\x<256:=⟨g.1,by have:=g.2;rw[show IntKind.u8.max=255 from rfl]at this;omega⟩
 obtain⟨_,_,m,_⟩:=k08 key 256;obtain⟨c,c1,c2⟩:=L0b key 256 x.toNat O';have f:=(List.getElem?_eq_some_iff.1 c2).1;obtain⟨y,j,h,i⟩:=M09 key 256 (Nat.le_refl _) c f;rw[show((x.toNat:Nat):Int)=x from O']at c1;refine⟨c,c1,O',?_,y,h,?_⟩
 ·rw[h];refine⟨by show(0:Int)<=_;omega,by show(y:Int)<=255;omega⟩
 ·rw[c2]at i;exact(Option.some.inj i).symm
end Go.Proofs.YtihmgaccbcfgjaaGreat
namespace Go.Proofs.YtihmgaccbcfgjaaGreat
open Go.V Go.RowKit Old Go.X
open Classical
section
variable {F:Nat}{l:List C0}{n:Nat}{a:List B0}{b:Nat->List B0}{e:Nat->B0×Bool}{z:B0×Bool}{mode:Int}{w:List Int}{t:Tm}
def U0d (K:U3 l n a b e z F)(hw:∀x∈l,P2 x)(hm:mode=0\/mode=1)(hn:n<=64){key:Nat->List Bool}(hk:∀x y:Nat,key x=key y->∀r,r<n->s7 l (x:Int) r=s7 l (y:Int) r){B m:Nat}(h:Y4 (J1 F l mode (M0 (I3 key 256).2)) (M0 (I3 key 256).2).length (Kd.zero z mode).K B m):
  ∃L,Mch F l n mode (I3 key 256).2 L (j8 F l mode (I3 key 256).2 (Kd.zero z mode).K B).1/\(Kd.zero z mode).K∈L/\X6 L (Kd.zero z mode).K=0:=by
 obtain⟨_,p,z2⟩:=q0I (z:=z) K hw hm;have q:=j0l (I3 key 256).2 0 [] (fun x f=>by cases f);obtain⟨ok,U⟩:=r0E (R:=K6 F) (acc:=V8 F l) (tags:=C4 l) h (PM F l n) p (fun k hk c i x s f=>by
   obtain⟨x',s',g,o,u,J⟩:=j0B (mode:=mode) K hw hm (least:=M0 (I3 key 256).2) q hk i;unfold J1 at f;rw[g]at f;simp only at f;split at f
   ·cases f
   ·cases f;exact⟨o,u,J⟩)
  (fun k hk=>by
   obtain⟨_,g,o⟩:=h0s K hk;exact⟨g,O'⟩)
  (fun k hk=>(n0r K hk).2)
 have hp:=d0g (J1 F l mode (M0 (I3 key 256).2)) (M0 (I3 key 256).2).length (Kd.zero z mode).K (Nat.zero_le m);have j:(Kd.zero z mode).K∈runK (J1 F l mode (M0 (I3 key 256).2)) (M0 (I3 key 256).2).length (Kd.zero z mode).K 0:=by simp[runK]
 refine⟨runK (J1 F l mode (M0 (I3 key 256).2)) (M0 (I3 key 256).2).length (Kd.zero z mode).K m,⟨by rw[e0k h],fun x f=>?_,fun k hk c i x s f=>(ok.nx k hk c i x s f).1⟩,hp.subset j,?_⟩
 ·obtain⟨c,c1,c2,c3,y,C,v⟩:=N0c key f;refine⟨c,c1,c2,c3,fun r I=>?_⟩;rw[C,hk y x.toNat v r I];have:((x.toNat:Nat):Int)=x:=by have:=f.1;rw[show IntKind.u8.min=0 from rfl]at this;omega
  rw[this]
 ·rw[v09 j hp];unfold X6 runK;simp[List.findIdx_cons]
def T05 (K:U3 l n a b e z F)(hw:∀x∈l,P2 x):∀m,B0U l n (J0U l n a b e z w m) m
 |0=>U09
 |m+1=>T0F K hw (T05 K hw m) _
def W0L (K:U3 l n a b e z F)(hw:∀x∈l,P2 x)(g:I4 l t)(hl:l.length*64<=140737488351232)(hn:n<=64){key:Nat->List Bool}(hk:∀x y:Nat,key x=key y->∀r,r<n->s7 l (x:Int) r=s7 l (y:Int) r)(j:∀x∈w,L5 .u8 x)(o:w.length<=64){B:Nat}(p:B<=400):
  (j8 F l 0 (I3 key 256).2 (Kd.zero z 0).K B).2=14\/((j8 F l 0 (I3 key 256).2 (Kd.zero z 0).K B).2=0/\a0V (j8 F l 0 (I3 key 256).2 (Kd.zero z 0).K B).1=true/\(j8 F l 0 (I3 key 256).2 (Kd.zero z 0).K B).1.States.length<=B/\L0O F l w=some (J0n (j8 F l 0 (I3 key 256).2 (Kd.zero z 0).K B).1 w)):=by
 rcases h0m (J1 F l 0 (M0 (I3 key 256).2)) (M0 (I3 key 256).2).length (Kd.zero z 0).K B with⟨m,m1,h⟩|⟨i,i1,h⟩
 ·right;obtain⟨L,M,h1,k⟩:=U0d K hw (.inl rfl) hn hk h;have f:=t0e K hw (.inl rfl) hn p h;have hs:=V0j K hw g hl j o (U0B (w:=w) K hw g (fun m hm=>(T05 K hw m).c.a0) w.length (Nat.le_refl _));refine⟨by rw[e0k h],f.1,by rw[f.2.2];exact m1,?_⟩;rw[V0E K hw M h1 k j O' f.1];exact hs
 ·exact .inl (by rw[h0Z h])
def W07 (K:U3 l n a b e z F)(hw:∀x∈l,P2 x)(g:I4 l t)(hl:l.length*64<=140737488351232)(hn:n<=64){key:Nat->List Bool}(hk:∀x y:Nat,key x=key y->∀r,r<n->s7 l (x:Int) r=s7 l (y:Int) r)(f:∀x∈w,L5 .u8 x)(k:w.length<=64){B:Nat}(o:B<=400):
  (j8 F l 1 (I3 key 256).2 (Kd.zero z 1).K B).2=14\/((j8 F l 1 (I3 key 256).2 (Kd.zero z 1).K B).2=0/\a0V (j8 F l 1 (I3 key 256).2 (Kd.zero z 1).K B).1=true/\(j8 F l 1 (I3 key 256).2 (Kd.zero z 1).K B).1.States.length<=B/\R03 F l w=some (C0b (j8 F l 1 (I3 key 256).2 (Kd.zero z 1).K B).1 w)):=by
 rcases h0m (J1 F l 1 (M0 (I3 key 256).2)) (M0 (I3 key 256).2).length (Kd.zero z 1).K B with⟨m,m1,h⟩|⟨i,i1,h⟩
 ·right;obtain⟨L,M,h1,j⟩:=U0d K hw (.inr rfl) hn hk h;have c:=t0e K hw (.inr rfl) hn o h;have hs:=X0G (m:=w.length) K hw g hl f k (Nat.le_refl _);rw[show G1 w 0 (w.length:Int)=w by simp[G1]]at hs;refine⟨by rw[e0k h],c.1,by rw[c.2.2];exact m1,?_⟩;rw[V0z K hw M h1 j f c.1];exact hs
 ·exact .inl (by rw[h0Z h])
end
