/- A search, by the program and by the document: step by step. Its conditions: none. -/
import Derived.Test.YtdficaoajalfaaaGreatTG50
open Bool (false_eq_true)
set_option linter.all false
namespace Go.Proofs.YtdficaoajalfaaaGreat
open Go.V Go.RowKit Old Go.X
structure Hs where
 c:Cs
 tags:List Int
 to:Int
 is:Bool
section
variable (l:List a_2) (n:Nat) (a:List a_1) (b:Nat->List a_1) (e:Nat->a_1×Bool) (z:a_1×Bool)
def Hs.zero:Hs:=⟨Cs.zero,(s_7 l z 0).1,0,(s_7 l z 0).2⟩
def Hs.a_ew (h:Hs) (b_:Int):Cs:=h.c.step l n a b b_ (h.c.at_==0||!h.is)
def Hs.feed (h:Hs) (b_:Int):Hs:=
 if ((h.a_ew l n a b b_).f_0 l e).2 then ⟨(h.a_ew l n a b b_).e_0 (gt ((h.a_ew l n a b b_).f_0 l e).1 0),((h.a_ew l n a b b_).f_0 l e).1,(h.a_ew l n a b b_).at_,true⟩
 else ⟨h.a_ew l n a b b_,h.tags,h.to,h.is⟩
def Hs.C (h:Hs):b_1×List Int×Int×Bool:=(h.c.C l n a b e z,h.tags,h.to,h.is)
def Hs.H (h:Hs):a_hy:=⟨h.c.C l n a b e z,h.tags,h.to,h.is⟩
def Hs.X (h:Hs):u_8:=⟨h.c.X l n a b e,h.tags,h.to,h.is⟩
end
def Hs.found (h:Hs):List h_6×Bool:=if h.is then (y_6 h.tags h.to,true) else ([],false)
def Hs.over (h:Hs):Bool:=h.is&&(h.c.pl.length==0&&decide (h.c.at_>0))
structure HsOk (l:List a_2) (n:Nat) (h:Hs) (i:Nat):Prop where
 c:CsOk l n h.c i
 t0:0<=h.to
 len:h.tags.length<=1000
 pos:∀ v∈h.c.vals,0<=gt v 0
 is:h.is=true->h.tags.length=(h_2 l).toNat/\0<=gt h.tags 0/\∀ v∈h.c.vals,gt v 0<=gt h.tags 0
section
variable {F:Nat} {l:List a_2} {n:Nat} {a:List a_1} {b:Nat->List a_1} {e:Nat->a_1×Bool} {z:a_1×Bool}
theorem b_sn:HsOk l n (Hs.zero l z) 0 where
 c:=b_ry l n
 t0:=Int.le_refl _
 len:=a_0s
 pos:=by intro v h;cases h
 is:=fun h=>by
  obtain ⟨h1,h2⟩:=b_ej (l:=l) (z:=z) (at_:=0) h
  exact ⟨h1,by show 0<=gt (s_7 l z 0).1 0;omega,by intro v h;cases h⟩
theorem b_vq (K:l_1 l n a b e z F):a_gb F l=some (.inr ((Hs.zero l z).C l n a b e z),0):=by
 unfold a_gb
 rw [b_ma K.hR K.hn K.T K.f1 K.TF]
 have h0:(⟨m_0 l n a b e z,0,0,[],[],⟨[],[]⟩⟩:b_1)=mkC l n a b e z 0 0 [] [] (fun _ _=>0) (fun _ _=>0):=rfl
 simp only [a_0,show ((0:Int) != 0)=false from rfl,false_eq_true,if_false,h0,b_ct K]
 rfl
theorem b_wz (K:l_1 l n a b e z F):a_uj F l=some ((Hs.zero l z).X l n a b e):=by
 unfold a_uj
 rw [b_iy K.hR K.hn K.T K.f1 K.TF]
 have h0:s_9 l n a b e 0 0 [] [] ⟨[],[]⟩=mkX l n a b e 0 0 [] [] (fun _ _=>0) (fun _ _=>0):=rfl
 simp only [a_0,h0,b_dw K]
 rfl
theorem b_i9 {h:Hs} {i:Nat} (ho:HsOk l n h i) (hf:2000<F):a_fb F (h.C l n a b e z)=some (h.found,h.C l n a b e z):=by
 unfold a_fb Hs.C Hs.found
 cases hi:h.is with
 |false=>simp only [Bool.not_false,if_true,false_eq_true,if_false]
 |true=>simp only [Bool.not_true,if_true,false_eq_true,if_false,b_a9 ho.len hf,a_0]
theorem b_tl {h:Hs} {i:Nat} (ho:HsOk l n h i) (hf:2000<F):a_u6 F (h.X l n a b e)=some h.found:=by
 unfold a_u6 Hs.X Hs.found
 cases hi:h.is with
 |false=>simp only [Bool.not_false,if_true,false_eq_true,if_false]
 |true=>simp only [Bool.not_true,if_true,false_eq_true,if_false,b_f9 ho.len hf,a_0]
theorem b_e1 {h:Hs} {i:Nat} (ho:HsOk l n h i):h.found.1.length<=1000:=by
 unfold Hs.found
 split
 ·exact a_0k _ _ ho.len
 ·simp
theorem b_s5 {h:Hs} {i:Nat} (ho:HsOk l n h i) (hn:n<=1000):a_go F (h.H l n a b e z)=some (h.c.pl.length:Int):=by
 have:=ho.c.ok.le
 unfold a_go a_a2 m_8 Hs.H
 have:a_8 8 ([]:List Int) (b_7 h.c.pl)=true:=by simp [a_8];omega
 simp only [Cs.C,mkC,this,if_true,a_0,a_hm]
theorem len0 (p:List Nat):(((p.length:Int))==0)=(p.length==0):=by rw [Bool.eq_iff_iff];simp
theorem b_lv {h:Hs} {i:Nat} (ho:HsOk l n h i) (hn:n<=1000):a_ge F (h.H l n a b e z)=some h.over:=by
 have hr:=b_s5 (F:=F) (a:=a) (b:=b) (e:=e) (z:=z) ho hn
 unfold a_ge Hs.over
 rw [hr]
 unfold Hs.H a_i5
 cases hi:h.is with
 |false=>simp only [false_eq_true,if_false,a_0,Bool.false_and]
 |
  true=>
  simp only [if_true,a_0,len0,Bool.true_and]
  cases hp:h.c.pl.length==0 with
  |false=>simp only [false_eq_true,if_false,Bool.false_and,a_0]
  |true=>simp only [if_true,Bool.true_and,Cs.C,mkC,a_0];rfl
theorem b_uv {h:Hs}:a_zw F (h.X l n a b e)=some h.over:=by
 unfold a_zw Hs.over Hs.X
 have:((((h.c.X l n a b e).Places.length:Int))==0)=(h.c.pl.length==0):=by
  rw [<-len0];simp [Cs.X,mkX,s_9]
 cases hi:h.is with
 |false=>simp only [false_eq_true,if_false,a_0,Bool.false_and]
 |
  true=>
  simp only [if_true,a_0,this,Bool.true_and]
  cases hp:h.c.pl.length==0 with
  |false=>simp only [false_eq_true,if_false,Bool.false_and,a_0]
  |true=>simp only [if_true,Bool.true_and,Cs.X,mkX,s_9,a_0];rfl
theorem b_va (K:l_1 l n a b e z F) {s:Cs} {i:Nat} (h:CsOk l n s i) (b_:Int) (beg:Bool):∀ v∈(s.step l n a b b_ beg).vals,(∃ u∈s.vals,gt v 0=gt u 0)\/(beg=true/\gt v 0=(i:Int)):=by
 intro v hv
 obtain ⟨r,hr,rfl⟩:=List.mem_map.1 hv
 unfold stV
 rw [a_rv]
 rcases b_qg (at_:=s.at_) h.ok hr with ⟨h1,h3⟩ | ⟨h1,_,h3⟩
 ·rw [h3]
  exact .inl ⟨_,gtm (by rw [h.ok.len];exact h1),rfl⟩
 ·rw [h3,b_ce,h.a0]
  exact .inr ⟨h1,rfl⟩
theorem b_u8 {s:Cs} {from_:Int} (hl:s.vals.length=s.pl.length):∀ v∈(s.e_0 from_).vals,v∈s.vals/\gt v 0<=from_:=by
 intro v hv
 obtain ⟨k,hk,rfl⟩:=List.mem_map.1 hv
 have h2:=(List.mem_filter.1 hk).2
 exact ⟨gtm (by rw [hl];exact a_7g hk),by simpa using h2⟩
theorem b_uu (K:l_1 l n a b e z F) (hw:∀ x∈l,d_6 x) {h:Hs} {i:Nat} (ho:HsOk l n h i) (hi:i<=100000) {b_:Int} (hb:inK .u8 b_) :
  a_e6 F (h.C l n a b e z) b_=some ((h.feed l n a b e b_).C l n a b e z)/\a_qg F (h.X l n a b e) b_=some ((h.feed l n a b e b_).X l n a b e)/\HsOk l n (h.feed l n a b e b_) (i+1)/\
   ((h.feed l n a b e b_=⟨h.a_ew l n a b b_,h.tags,h.to,h.is⟩/\((h.a_ew l n a b b_).f_0 l e).2=false)\/(((h.a_ew l n a b b_).f_0 l e).2=true/\(h.feed l n a b e b_).to=((i+1:Nat):Int)/\(h.feed l n a b e b_).is=true/\(h.is=true->gt (h.feed l n a b e b_).tags 0<=gt h.tags 0))):=by
 obtain ⟨s1,s2,s3⟩:=a_17 (e:=e) (z:=z) K hw ho.c hi hb (h.c.at_==0||!h.is)
 have hfst:=b_va K ho.c b_ (h.c.at_==0||!h.is)
 obtain ⟨b1,b2⟩:=b_d1 K s3
 have ha:a_i5 F (h.c.C l n a b e z)=some h.c.at_:=rfl
 have ha2:a_i5 F ((h.a_ew l n a b b_).C l n a b e z)=some (h.a_ew l n a b b_).at_:=rfl
 have hx:(if h.c.at_==0 then some true else some (!h.is))=some (h.c.at_==0||!h.is):=by cases h.c.at_==0<;>rfl
 have hpos:∀ v∈(h.a_ew l n a b b_).vals,0<=gt v 0:=fun v hv=>by
  rcases hfst v hv with ⟨u,hu,h2⟩ | ⟨_,h2⟩
  ·rw [h2];exact ho.pos u hu
  ·rw [h2];omega
 have hle:h.is=true->∀ v∈(h.a_ew l n a b b_).vals,gt v 0<=gt h.tags 0:=fun his v hv=>by
  obtain ⟨_,i2,i3⟩:=ho.is his
  rcases hfst v hv with ⟨u,hu,h2⟩ | ⟨hbeg,h2⟩
  ·rw [h2];exact i3 u hu
  ·rw [h2]
   have h0:=ho.c.a0
   rw [his] at hbeg
   have:h.c.at_=0:=by simpa using hbeg
   omega
 have hat:(h.a_ew l n a b b_).at_=((i+1:Nat):Int):=s3.a0
 cases hB:((h.a_ew l n a b b_).f_0 l e).2 with
 |
  false=>
  have hF:h.feed l n a b e b_=⟨h.a_ew l n a b b_,h.tags,h.to,h.is⟩:=by unfold Hs.feed;rw [hB];rfl
  rw [hF]
  refine ⟨?_,?_,⟨s3,ho.t0,ho.len,hpos,fun his=>?_⟩,.inl ⟨rfl,rfl⟩⟩
  ·unfold a_e6 Hs.C
   simp only [ha,a_0,hx,s1]
   rw [show h.c.step l n a b b_ (h.c.at_==0||!h.is)=h.a_ew l n a b b_ from rfl,show p_3 F ((h.a_ew l n a b b_).C l n a b e z)=some ((h.a_ew l n a b b_).f_0 l e) from b1]
   generalize hq:(h.a_ew l n a b b_).f_0 l e=q at hB ⊢
   obtain ⟨q1,q2⟩:=q
   simp only at hB
   subst hB
   rfl
  ·unfold a_qg Hs.X
   rw [show ((h.c.X l n a b e).At==0)=(h.c.at_==0) from rfl]
   simp only [hx,a_0,s2]
   rw [show h.c.step l n a b b_ (h.c.at_==0||!h.is)=h.a_ew l n a b b_ from rfl,show a_c8 F ((h.a_ew l n a b b_).X l n a b e)=some ((h.a_ew l n a b b_).f_0 l e) from b2]
   generalize hq:(h.a_ew l n a b b_).f_0 l e=q at hB ⊢
   obtain ⟨q1,q2⟩:=q
   simp only at hB
   subst hB
   rfl
  ·obtain ⟨i1,i2,_⟩:=ho.is his
   exact ⟨i1,i2,hle his⟩
 |
  true=>
  obtain ⟨t1,v,v1,v2⟩:=b_i1 (e:=e) (at_:=(h.a_ew l n a b b_).at_) s3.ok hB
  have ht:=p_6 l
  obtain ⟨k1,k2,k3⟩:=b_ws (e:=e) (z:=z) K s3 (gt ((h.a_ew l n a b b_).f_0 l e).1 0)
  have hF:h.feed l n a b e b_=⟨(h.a_ew l n a b b_).e_0 (gt ((h.a_ew l n a b b_).f_0 l e).1 0),((h.a_ew l n a b b_).f_0 l e).1,(h.a_ew l n a b b_).at_,true⟩:=by unfold Hs.feed;rw [hB];rfl
  have t1':((h.a_ew l n a b b_).f_0 l e).1.length=(h_2 l).toNat:=t1
  have v2':gt ((h.a_ew l n a b b_).f_0 l e).1 0=gt v 0:=v2
  have hin:inb ((h.a_ew l n a b b_).f_0 l e).1 0=true:=a_7 (by omega) (by rw [t1'];omega)
  rw [hF]
  have kf:=b_u8 (s:=h.a_ew l n a b b_) (from_:=gt ((h.a_ew l n a b b_).f_0 l e).1 0) s3.ok.len
  refine ⟨?_,?_,⟨k3,?_,?_,?_,fun _=>⟨t1',?_,fun u hu=>(kf u hu).2⟩⟩,.inr ⟨rfl,hat,rfl,fun his=>?_⟩⟩
  ·unfold a_e6 Hs.C
   simp only [ha,a_0,hx,s1]
   rw [show h.c.step l n a b b_ (h.c.at_==0||!h.is)=h.a_ew l n a b b_ from rfl,show p_3 F ((h.a_ew l n a b b_).C l n a b e z)=some ((h.a_ew l n a b b_).f_0 l e) from b1]
   have k1':a_ck F ((h.a_ew l n a b b_).C l n a b e z) (gt ((h.a_ew l n a b b_).f_0 l e).1 0)=_:=k1
   generalize hq:(h.a_ew l n a b b_).f_0 l e=q at hB hin k1' ⊢
   obtain ⟨q1,q2⟩:=q
   simp only at hB hin k1'
   subst hB
   simp only [a_0,if_true,hin,ha2,k1'];rfl
  ·unfold a_qg Hs.X
   rw [show ((h.c.X l n a b e).At==0)=(h.c.at_==0) from rfl]
   simp only [hx,a_0,s2]
   rw [show h.c.step l n a b b_ (h.c.at_==0||!h.is)=h.a_ew l n a b b_ from rfl,show a_c8 F ((h.a_ew l n a b b_).X l n a b e)=some ((h.a_ew l n a b b_).f_0 l e) from b2]
   have k2':a_i4 F ((h.a_ew l n a b b_).X l n a b e) (gt ((h.a_ew l n a b b_).f_0 l e).1 0)=_:=k2
   generalize hq:(h.a_ew l n a b b_).f_0 l e=q at hB hin k2' ⊢
   obtain ⟨q1,q2⟩:=q
   simp only at hB hin k2'
   subst hB
   simp only [a_0,if_true,hin,k2']
   rfl
  ·show 0<=(h.a_ew l n a b b_).at_;omega
  ·show ((h.a_ew l n a b b_).f_0 l e).1.length<=1000;omega
  ·intro u hu;exact hpos u (kf u hu).1
  ·show 0<=gt ((h.a_ew l n a b b_).f_0 l e).1 0
   rw [v2'];exact hpos v v1
  ·show gt ((h.a_ew l n a b b_).f_0 l e).1 0<=gt h.tags 0
   rw [v2'];exact hle his v v1
theorem b_vs (K:l_1 l n a b e z F) (hw:∀ x∈l,d_6 x) {h:Hs} {i:Nat} (ho:HsOk l n h i) (hi:i<=100000) {b_:Int} (hb:inK .u8 b_) (hov:h.over=true) :
  (h.feed l n a b e b_).over=true/\(h.feed l n a b e b_).found=h.found:=by
 unfold Hs.over at hov
 simp only [Bool.and_eq_true,beq_iff_eq,decide_eq_true_eq] at hov
 obtain ⟨h1,h2,h3⟩:=hov
 obtain ⟨_,_,s3⟩:=a_17 (e:=e) (z:=z) K hw ho.c hi hb (h.c.at_==0||!h.is)
 have s3:CsOk l n (h.a_ew l n a b b_) (i+1):=s3
 have hbeg:(h.c.at_==0||!h.is)=false:=by rw [h1];simp;omega
 have hpl:h.c.pl=[]:=List.eq_nil_of_length_eq_zero h2
 have hst:stP l n a b h.c.pl b_ false=[]:=by
  rw [hpl]
  unfold stP j_5 goW
  rw [List.filter_eq_nil_iff]
  intro r _
  simp [g_0]
 have hpl2:(h.a_ew l n a b b_).pl=[]:=by
  show stP l n a b h.c.pl b_ (h.c.at_==0||!h.is)=[]
  rw [hbeg];exact hst
 have hv:(h.a_ew l n a b b_).vals=[]:=List.eq_nil_of_length_eq_zero (by rw [s3.ok.len];exact congrArg List.length hpl2)
 have hB:((h.a_ew l n a b b_).f_0 l e).2=false:=by
  cases hB:((h.a_ew l n a b b_).f_0 l e).2 with
  |false=>rfl
  |
   true=>
   obtain ⟨_,v,v1,_⟩:=b_i1 (e:=e) (at_:=(h.a_ew l n a b b_).at_) s3.ok hB
   exact absurd (show v∈(h.a_ew l n a b b_).vals from v1) (by rw [hv];simp)
 have hF:h.feed l n a b e b_=⟨h.a_ew l n a b b_,h.tags,h.to,h.is⟩:=by unfold Hs.feed;rw [hB];rfl
 rw [hF]
 have hat:(h.a_ew l n a b b_).at_=((i+1:Nat):Int):=s3.a0
 refine ⟨?_,rfl⟩
 unfold Hs.over
 simp only [h1,hpl2,hat]
 simp<;>omega
end
