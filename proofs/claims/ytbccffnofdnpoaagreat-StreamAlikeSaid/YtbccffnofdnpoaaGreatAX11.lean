/- P. Its conditions: none. -/
import Derived.Test.YtbccffnofdnpoaaGreatAX10
set_option linter.all false
namespace Go.X
open Go.V Go.RowKit
section
variable {E:Env}{s:St E.D}{ρ:Nat->Value}{S:E0}{a:Act}{as:List Act}{w:World}
def v0u (E:Env)(C:P3 E):Prop:=∀(inl:Inl E),e0J E inl->∀(R:Type) (cs:List (Nat×Nat×Cut)) (id:Nat) (ops:Array Oper) (s:St E.D) (k:St E.D->Option R) (r:R),O6 E C inl ops 100000 cs 0 ops.size (Array.replicate ops.size false) [] s k=some r->
 ∀(A:A5) (ρ:Nat->Value) (S:E0) (a:Act) (as:List Act) (w:World),Rp E A s ρ S a as w->∀Q:Exit->Act->World->Prop,NoP Q->(∀b ρ' d c w',k b=some r->Rp E A b ρ' d c as w'->Ext s b->Q .normal c w')->(Code.region id ops true).wp E.P Q a w
def r04 (E:Env)(C:P3 E)(f:Nat):Prop:=∀(R:Type) (c:Code) (h:Ann) (s:St E.D) (k:Ex->St E.D->Option R) (r:R),mod E C f c h s k=some r->
 ∀(A:A5) (ρ:Nat->Value) (S:E0) (a:Act) (as:List Act) (w:World),Rp E A s ρ S a as w->∀Q:Exit->Act->World->Prop,(∀e b ρ' g d w',k e b=some r->Rp E A b ρ' g d as w'->Ext s b->Q e.out d w')->c.wp E.P Q a w
def u0i (t:G2 E){C:P3 E}{f:Nat}(x:r04 E C f):e0J E (fun g args s k=>match e06 E g with
   |none=>none
   |some (fn,body)=>match Nat.ble args.length fn.ntmps with
    |false=>none
    |true=>mod E C f body (C.ann g) { s with n:=fn.ntmps,fr:=V9 args 0,stk:=(s.n,s.fr) :: s.stk } fun e d=>match e with
     |.ex _=>none
     |.nrm=>leave E k fn d
     |.ret=>leave E k fn d):=by
 intro R g args s k r hk A ρ S a as w us h I;replace hk:(match e06 E g with
   |none=>none
   |some (fn,body)=>match Nat.ble args.length fn.ntmps with
    |false=>none
    |true=>mod E C f body (C.ann g) { s with n:=fn.ntmps,fr:=V9 args 0,stk:=(s.n,s.fr) :: s.stk } fun e d=>match e with
     |.ex _=>none
     |.nrm=>leave E k fn d
     |.ret=>leave E k fn d)=some r:=hk
 split at hk<;>try cases hk
 rename_i fn body o;obtain⟨p,z⟩:=u0q o;split at hk<;>try cases hk
 rename_i hn;rw[Nat.ble_eq]at hn;refine calls_of_wp p z ?_;refine x _ body _ _ _ r hk A ρ S _ (a :: as) w (h.enter I hn) _ ?_;intro e d ρ' y q w' b c he;have fin:leave E k fn d=some r->q.defers=[]/\∃v,(results fn q.tmps).run E.P w'=.ok v w'/\v07 E A s a as k r (.returned v) w':=by
  intro b;unfold leave at b;split at b<;>try cases b
  rename_i v m;obtain⟨u,h1,J⟩:=z0D t c m;have j:d.stk=(s.n,s.fr) :: s.stk:=he.stk;rw[j]at b;have l:=c.stk;rw[j]at l;refine⟨c.fr.defers,u,J,u,rfl,_,v,ρ',y,b,⟨c.cx,l.1,l.2,c.th,c.ow,c.dj,c.lt,c.rf,c.kp,c.hp⟩,h1,⟨rfl,⟨[],rfl⟩,he.th,rfl,he.nid⟩,rfl⟩
 cases e with
 |nrm=>exact fin b
 |ret=>exact fin b
 |ex i=>cases b
def u0F (hE:G2 E){C:P3 E}(hs:e0q E C)(hD:∀p,v0u E (P3.at E C p)):∀f,r04 E C f
 |0=>by intro R c p s k r hk;simp[mod]at hk
 |f+1=>by
  have q:r04 E C f:=u0F hE hs hD f;have hi:=u0i hE q;intro R c p s k r hk A ρ S a as w h Q o;cases c with
  |skip=>exact wp_skip (o .nrm s ρ S a w hk h (Ext.refl s))
  |region id ops draw=>
   simp only[mod]at hk;cases draw with
   |false=>
    refine wp_region_list ?_;refine e0M hE (C:=P3.at E C p) hi hs _ _ 0 ops.size ops.toList s _ r hk (Nat.zero_le _) ρ S a w h Q fun j ρ' l m w' g n he=>?_;rw[Nat.sub_zero,List.drop_of_length_le V'];exact o .nrm j ρ' l m w' g n he
   |true=>
    refine wp_mono (Q:=fun e m w'=>∃j ρ' l,e=.normal/\k .nrm j=some r/\Rp E A j ρ' l m as w'/\Ext s j) ?_ ?_
    ·exact hD p _ hi _ _ id ops s _ r hk A ρ S a as w h _ (by rintro c a w ⟨_,_,_,h,_⟩;cases h) fun j ρ' l m w' g n he=>⟨j,ρ',l,rfl,g,n,he⟩
    ·rintro e m w' ⟨j,ρ',l,rfl,g,n,he⟩
     exact o .nrm j ρ' l m w' g n he
  |seq x y=>
   simp only[mod]at hk;refine wp_seq ?_;have tail:∀{e:Ex} {j:St E.D} {ρ' l m w'},(match e with|.nrm=>mod E C f y p j k|e=>k e j)=some r->Rp E A j ρ' l m as w'->Ext s j->Exit.then (y.wp E.P Q) Q e.out m w':=by
    intro e j ρ' l m w' g n he;cases e with
    |nrm=>exact q _ y p j k r g A ρ' l m as w' n Q fun e2 s2 ρ2 S2 a2 w2 b1 U v=>o e2 s2 ρ2 S2 a2 w2 b1 U (he.trans v)
    |ex i=>exact o (.ex i) j ρ' l m w' g n he
    |ret=>exact o .ret j ρ' l m w' g n he
   split at hk
   ·rename_i xs b4;obtain⟨d,hd,hk⟩:=c0p hk;refine q _ x p s _ d hd A ρ S a as w h _ fun e j ρ' l m w' hp n he=>?_;obtain⟨u,ρ1,S1,h1,U,h3⟩:=t0B hE (fun i u ha=>(h.hp i u ha).1) h n he xs d hp hk;exact tail h1 U h3
   ·exact q _ x p s _ r hk A ρ S a as w h _ fun e j ρ' l m w' g n he=>tail g n he
  |cond c x y=>
   simp only[mod]at hk;have hc:=h.val c;split at hk
   ·rename_i hv;rw[hv]at hc;exact wp_cond_true (O9 (x:=true) rfl hc) (q _ x p s k r hk A ρ S a as w h Q o)
   ·rename_i hv;rw[hv]at hc;exact wp_cond_false (O9 (x:=false) rfl hc) (q _ y p s k r hk A ρ S a as w h Q o)
   ·split at hk<;>try cases hk
    rename_i b hb;have b2:=O9 hb hc;split at hk
    ·rename_i e;subst e;exact wp_cond_true b2 (q _ x p s k r hk A ρ S a as w h Q o)
    ·rename_i e;have e:b=false:=by simpa using e
     subst e;exact wp_cond_false b2 (q _ y p s k r hk A ρ S a as w h Q o)
  |block id x=>
   simp only[mod]at hk;refine wp_block (q _ x p s _ r hk A ρ S a as w h _ fun e j ρ' l m w' g n he=>?_);split at g
   ·rename_i e2;have:=Ex.n0S e2;subst this;simp only[Ex.out,Exit.inBlock,if_true];exact o .nrm j ρ' l m w' g n he
   ·rename_i e2;cases e with
    |nrm=>exact o .nrm j ρ' l m w' g n he
    |ret=>exact o .ret j ρ' l m w' g n he
    |ex i=>
     have:i≠id:=by rintro rfl;simp[Ex.eq]at e2
     simp only[Ex.out,Exit.inBlock,if_neg this];exact o (.ex i) j ρ' l m w' g n he
  |loop x=>
   simp only[mod]at hk;split at hk<;>try cases hk
   rename_i c xs hL;split at hk<;>try cases hk
   rename_i d0 b3;obtain⟨t,ht,hk⟩:=c0p hk;refine wp_mono (w0C (I:=fun d m w'=>∃j ρ' l,Rp E A j ρ' l m as w'/\Ext s j/\b0I E s j c=some d)
    (D:=fun t e m w'=>∃ex j ρ' l,e=Ex.out ex/\Rp E A j ρ' l m as w'/\Ext s j/\d0z E s ex j xs=some t) ?_ C.fuel d0 t a w ht ⟨s,ρ,S,h,Ext.refl s,b3⟩) ?_
   ·rintro d z a1 w1 ⟨s1,ρ1,S1,h1,he1,hp1⟩ hstep
    obtain⟨u,ρ2,S2,b1,U,v,_⟩:=d0T hE (fun i u ha=>(h.hp i u ha).1) h h1 he1 hp1 hstep;refine q _ x p u _ z b1 A ρ2 S2 a1 as w1 U _ fun e j ρ' l m w' g n he=>?_;have key:∀e,e≠.nrm->(match d0z E s e j xs with|some d'=>some (X0.done d')|none=>none)=some z->∃t,z=.done t/\∃ex j ρ' l,e.out=Ex.out ex/\Rp E A j ρ' l m as w'/\Ext s j/\d0z E s ex j xs=some t:=by
     intro e _ g;split at g<;>try cases g
     rename_i d' J;exact⟨d',rfl,e,j,ρ',l,rfl,n,v.trans he,J⟩
    cases e with
    |nrm=>
     simp only at g;split at g<;>try cases g
     rename_i d' J;exact⟨d',rfl,j,ρ',l,n,v.trans he,J⟩
    |ex i=>exact key (.ex i) V' g
    |ret=>exact key .ret V' g
   ·rintro e m w' ⟨ex,j,ρ',l,rfl,n,he,hp⟩
    obtain⟨u,ρ1,S1,h1,U,h3⟩:=t0B hE (fun i u ha=>(h.hp i u ha).1) h n he xs t hp hk;exact o ex u ρ1 S1 m w' h1 U h3
  |exit id=>exact wp_exit (o (.ex id) s ρ S a w hk h (Ext.refl s))
  |ret=>exact wp_ret (o .ret s ρ S a w hk h (Ext.refl s))
  |rangeFunc=>simp[mod]at hk
  |scope=>simp[mod]at hk
  |label=>simp[mod]at hk
  |goto=>simp[mod]at hk
  |refuse=>simp[mod]at hk
end
