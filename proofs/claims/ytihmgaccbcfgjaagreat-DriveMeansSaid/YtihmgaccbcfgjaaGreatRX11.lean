/- P. Its conditions: none. -/
import Derived.Test.YtihmgaccbcfgjaaGreatRX10
set_option linter.all false
namespace Go.X
open Go.V Go.RowKit
section
variable {E:Env}{s:St E.D}{ρ:Nat->Value}{S:D0}{a:Act}{as:List Act}{w:World}
def w0c (E:Env)(C:J3 E):Prop:=∀(inl:Inl E),e0G E inl->∀(R:Type) (cs:List (Nat×Nat×Cut)) (id:Nat) (ops:Array Oper) (s:St E.D) (k:St E.D->Option R) (r:R),U5 E C inl ops 100000 cs 0 ops.size (Array.replicate ops.size false) [] s k=some r->
 ∀(A:E4) (ρ:Nat->Value) (S:D0) (a:Act) (as:List Act) (w:World),Rp E A s ρ S a as w->∀Q:Exit->Act->World->Prop,NoP Q->(∀b ρ' d c w',k b=some r->Rp E A b ρ' d c as w'->Ext s b->Q .normal c w')->(Code.region id ops true).wp E.P Q a w
def m06 (E:Env)(C:J3 E)(f:Nat):Prop:=∀(R:Type) (c:Code) (g:Ann) (s:St E.D) (k:Ex->St E.D->Option R) (r:R),mod E C f c g s k=some r->
 ∀(A:E4) (ρ:Nat->Value) (S:D0) (a:Act) (as:List Act) (w:World),Rp E A s ρ S a as w->∀Q:Exit->Act->World->Prop,(∀e b ρ' h d w',k e b=some r->Rp E A b ρ' h d as w'->Ext s b->Q e.out d w')->c.wp E.P Q a w
def q00 (z:T1 E){C:J3 E}{f:Nat}(t:m06 E C f):e0G E (fun g args s k=>match e0x E g with
   |none=>none
   |some (fn,body)=>match Nat.ble args.length fn.ntmps with
    |false=>none
    |true=>mod E C f body (C.ann g) { s with n:=fn.ntmps,fr:=P9 args 0,stk:=(s.n,s.fr) :: s.stk } fun e d=>match e with
     |.ex _=>none
     |.nrm=>leave E k fn d
     |.ret=>leave E k fn d):=by
 intro R g args s k r hk A ρ S a as w us h y;replace hk:(match e0x E g with
   |none=>none
   |some (fn,body)=>match Nat.ble args.length fn.ntmps with
    |false=>none
    |true=>mod E C f body (C.ann g) { s with n:=fn.ntmps,fr:=P9 args 0,stk:=(s.n,s.fr) :: s.stk } fun e d=>match e with
     |.ex _=>none
     |.nrm=>leave E k fn d
     |.ret=>leave E k fn d)=some r:=hk
 split at hk<;>try cases hk
 rename_i fn body p;obtain⟨o,J⟩:=w0g p;split at hk<;>try cases hk
 rename_i hn;rw[Nat.ble_eq]at hn;refine calls_of_wp o J ?_;refine t _ body _ _ _ r hk A ρ S _ (a :: as) w (h.enter y hn) _ ?_;intro e d ρ' x q w' b c he;have fin:leave E k fn d=some r->q.defers=[]/\∃v,(results fn q.tmps).run E.P w'=.ok v w'/\v0j E A s a as k r (.returned v) w':=by
  intro b;unfold leave at b;split at b<;>try cases b
  rename_i v m;obtain⟨u,h1,I⟩:=r0y z c m;have j:d.stk=(s.n,s.fr) :: s.stk:=he.stk;rw[j]at b;have l:=c.stk;rw[j]at l;refine⟨c.fr.defers,u,I,u,rfl,_,v,ρ',x,b,⟨c.cx,l.1,l.2,c.th,c.ow,c.dj,c.lt,c.rf,c.kp,c.hp⟩,h1,⟨rfl,⟨[],rfl⟩,he.th,rfl,he.nid⟩,rfl⟩
 cases e with
 |nrm=>exact fin b
 |ret=>exact fin b
 |ex i=>cases b
def s0S (hE:T1 E){C:J3 E}(hs:d0j E C)(hD:∀p,w0c E (J3.at E C p)):∀f,m06 E C f
 |0=>by intro R c p s k r hk;simp[mod]at hk
 |f+1=>by
  have q:m06 E C f:=s0S hE hs hD f;have hi:=q00 hE q;intro R c p s k r hk A ρ S a as w h Q o;cases c with
  |skip=>exact wp_skip (o .nrm s ρ S a w hk h (Ext.refl s))
  |region id ops draw=>
   simp only[mod]at hk;cases draw with
   |false=>
    refine wp_region_list ?_;refine d06 hE (C:=J3.at E C p) hi hs _ _ 0 ops.size ops.toList s _ r hk (Nat.zero_le _) ρ S a w h Q fun j ρ' l m w' g n he=>?_;rw[Nat.sub_zero,List.drop_of_length_le Z'];exact o .nrm j ρ' l m w' g n he
   |true=>
    refine wp_mono (Q:=fun e m w'=>∃j ρ' l,e=.normal/\k .nrm j=some r/\Rp E A j ρ' l m as w'/\Ext s j) ?_ ?_
    ·exact hD p _ hi _ _ id ops s _ r hk A ρ S a as w h _ (by rintro c a w ⟨_,_,_,h,_⟩;cases h) fun j ρ' l m w' g n he=>⟨j,ρ',l,rfl,g,n,he⟩
    ·rintro e m w' ⟨j,ρ',l,rfl,g,n,he⟩
     exact o .nrm j ρ' l m w' g n he
  |seq x y=>
   simp only[mod]at hk;refine wp_seq ?_;have tail:∀{e:Ex} {j:St E.D} {ρ' l m w'},(match e with|.nrm=>mod E C f y p j k|e=>k e j)=some r->Rp E A j ρ' l m as w'->Ext s j->Exit.then (y.wp E.P Q) Q e.out m w':=by
    intro e j ρ' l m w' g n he;cases e with
    |nrm=>exact q _ y p j k r g A ρ' l m as w' n Q fun e2 s2 ρ2 S2 a2 w2 U z v=>o e2 s2 ρ2 S2 a2 w2 U z (he.trans v)
    |ex i=>exact o (.ex i) j ρ' l m w' g n he
    |ret=>exact o .ret j ρ' l m w' g n he
   split at hk
   ·rename_i xs b4;obtain⟨d,hd,hk⟩:=a0c hk;refine q _ x p s _ d hd A ρ S a as w h _ fun e j ρ' l m w' hp n he=>?_;obtain⟨u,ρ1,S1,h1,z,h3⟩:=p0T hE (fun i u ha=>(h.hp i u ha).1) h n he xs d hp hk;exact tail h1 z h3
   ·exact q _ x p s _ r hk A ρ S a as w h _ fun e j ρ' l m w' g n he=>tail g n he
  |cond c x y=>
   simp only[mod]at hk;have hc:=h.val c;split at hk
   ·rename_i hv;rw[hv]at hc;exact wp_cond_true (L9 (x:=true) rfl hc) (q _ x p s k r hk A ρ S a as w h Q o)
   ·rename_i hv;rw[hv]at hc;exact wp_cond_false (L9 (x:=false) rfl hc) (q _ y p s k r hk A ρ S a as w h Q o)
   ·split at hk<;>try cases hk
    rename_i b hb;have b2:=L9 hb hc;split at hk
    ·rename_i e;subst e;exact wp_cond_true b2 (q _ x p s k r hk A ρ S a as w h Q o)
    ·rename_i e;have e:b=false:=by simpa using e
     subst e;exact wp_cond_false b2 (q _ y p s k r hk A ρ S a as w h Q o)
  |block id x=>
   simp only[mod]at hk;refine wp_block (q _ x p s _ r hk A ρ S a as w h _ fun e j ρ' l m w' g n he=>?_);split at g
   ·rename_i e2;have:=Ex.k0F e2;subst this;simp only[Ex.out,Exit.inBlock,if_true];exact o .nrm j ρ' l m w' g n he
   ·rename_i e2;cases e with
    |nrm=>exact o .nrm j ρ' l m w' g n he
    |ret=>exact o .ret j ρ' l m w' g n he
    |ex i=>
     have:i≠id:=by rintro rfl;simp[Ex.eq]at e2
     simp only[Ex.out,Exit.inBlock,if_neg this];exact o (.ex i) j ρ' l m w' g n he
  |loop x=>
   simp only[mod]at hk;split at hk<;>try cases hk
   rename_i c xs hL;split at hk<;>try cases hk
   rename_i d0 b3;obtain⟨t,ht,hk⟩:=a0c hk;refine wp_mono (k0i (I:=fun d m w'=>∃j ρ' l,Rp E A j ρ' l m as w'/\Ext s j/\b0E E s j c=some d)
    (D:=fun t e m w'=>∃ex j ρ' l,e=Ex.out ex/\Rp E A j ρ' l m as w'/\Ext s j/\c0Z E s ex j xs=some t) ?_ C.fuel d0 t a w ht ⟨s,ρ,S,h,Ext.refl s,b3⟩) ?_
   ·rintro d b1 a1 w1 ⟨s1,ρ1,S1,h1,he1,hp1⟩ hstep
    obtain⟨u,ρ2,S2,U,z,v,_⟩:=d0N hE (fun i u ha=>(h.hp i u ha).1) h h1 he1 hp1 hstep;refine q _ x p u _ b1 U A ρ2 S2 a1 as w1 z _ fun e j ρ' l m w' g n he=>?_;have key:∀e,e≠.nrm->(match c0Z E s e j xs with|some d'=>some (Q0.done d')|none=>none)=some b1->∃t,b1=.done t/\∃ex j ρ' l,e.out=Ex.out ex/\Rp E A j ρ' l m as w'/\Ext s j/\c0Z E s ex j xs=some t:=by
     intro e _ g;split at g<;>try cases g
     rename_i d' J;exact⟨d',rfl,e,j,ρ',l,rfl,n,v.trans he,J⟩
    cases e with
    |nrm=>
     simp only at g;split at g<;>try cases g
     rename_i d' J;exact⟨d',rfl,j,ρ',l,n,v.trans he,J⟩
    |ex i=>exact key (.ex i) Z' g
    |ret=>exact key .ret Z' g
   ·rintro e m w' ⟨ex,j,ρ',l,rfl,n,he,hp⟩
    obtain⟨u,ρ1,S1,h1,z,h3⟩:=p0T hE (fun i u ha=>(h.hp i u ha).1) h n he xs t hp hk;exact o ex u ρ1 S1 m w' h1 z h3
  |exit id=>exact wp_exit (o (.ex id) s ρ S a w hk h (Ext.refl s))
  |ret=>exact wp_ret (o .ret s ρ S a w hk h (Ext.refl s))
  |rangeFunc=>simp[mod]at hk
  |scope=>simp[mod]at hk
  |label=>simp[mod]at hk
  |goto=>simp[mod]at hk
  |refuse=>simp[mod]at hk
end
