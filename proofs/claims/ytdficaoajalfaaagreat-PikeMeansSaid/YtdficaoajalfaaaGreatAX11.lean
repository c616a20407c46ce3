/- Code: sound. Its conditions: none. -/
import Derived.Test.YtdficaoajalfaaaGreatAX10
set_option linter.all false
namespace Go.X
open Go.V Go.RowKit
section
variable {E:Env} {s:St E.D} {ρ:Nat->Value} {S:D0} {a:Act} {as:List Act} {w:World}
def q0x (E:Env) (C:D4 E):Prop:=∀ (inl:Inl E),e0v E inl->∀ (R:Type) (cs:List (Nat×Nat×Cut)) (id:Nat) (ops:Array Oper) (s:St E.D) (k:St E.D->Option R) (r:R),E6 E C inl ops 100000 cs 0 ops.size (Array.replicate ops.size false) [] s k=some r->
 ∀ (A:O4) (ρ:Nat->Value) (S:D0) (a:Act) (as:List Act) (w:World),Rp E A s ρ S a as w->∀ Q:Exit->Act->World->Prop,NoP Q->(∀ s' ρ' S' a' w',k s'=some r->Rp E A s' ρ' S' a' as w'->Ext s s'->Q .normal a' w')->(Code.region id ops true).wp E.P Q a w
def n0w (E:Env) (C:D4 E) (f:Nat):Prop:=∀ (R:Type) (c:Code) (An:Ann) (s:St E.D) (k:Ex->St E.D->Option R) (r:R),mod E C f c An s k=some r->
 ∀ (A:O4) (ρ:Nat->Value) (S:D0) (a:Act) (as:List Act) (w:World),Rp E A s ρ S a as w->∀ Q:Exit->Act->World->Prop,(∀ e s' ρ' S' a' w',k e s'=some r->Rp E A s' ρ' S' a' as w'->Ext s s'->Q e.out a' w')->c.wp E.P Q a w
theorem r01 (hE:Q1 E) {C:D4 E} {f:Nat} (hf:n0w E C f):e0v E (fun g args s k=>match e0P E g with
   |none=>none
   |
    some (fn,body)=>match Nat.ble args.length fn.ntmps with
    |false=>none
    |
     true=>mod E C f body (C.ann g) { s with n:=fn.ntmps,fr:=G9 args 0,stk:=(s.n,s.fr) :: s.stk } fun e s'=>match e with
     |.ex _=>none
     |.nrm=>leave E k fn s'
     |.ret=>leave E k fn s'):=by
 intro R g args s k r hk A ρ S a as w us h hv;replace hk:(match e0P E g with
   |none=>none
   |
    some (fn,body)=>match Nat.ble args.length fn.ntmps with
    |false=>none
    |
     true=>mod E C f body (C.ann g) { s with n:=fn.ntmps,fr:=G9 args 0,stk:=(s.n,s.fr) :: s.stk } fun e s'=>match e with
     |.ex _=>none
     |.nrm=>leave E k fn s'
     |.ret=>leave E k fn s')=some r:=hk
 split at hk<;>try cases hk
 rename_i fn body hbo;obtain ⟨hfn,hb⟩:=r0F hbo;split at hk<;>try cases hk
 rename_i hn;rw [Nat.ble_eq] at hn;refine calls_of_wp hfn hb ?_;refine hf _ body _ _ _ r hk A ρ S _ (a :: as) w (h.enter hv hn) _ ?_;intro e s' ρ' S' a' w' hk' h' he;have fin:leave E k fn s'=some r->a'.defers=[]/\∃ v,(results fn a'.tmps).run E.P w'=.ok v w'/\r0p E A s a as k r (.returned v) w':=by
  intro hk';unfold leave at hk';split at hk'<;>try cases hk'
  rename_i v hres;obtain ⟨u,h1,h2⟩:=s0H hE h' hres;have hstk:s'.stk=(s.n,s.fr) :: s.stk:=he.stk;rw [hstk] at hk';have hst:=h'.stk;rw [hstk] at hst;refine ⟨h'.fr.defers,u,h2,u,rfl,_,v,ρ',S',hk',⟨h'.cx,hst.1,hst.2,h'.th,h'.ow,h'.dj,h'.lt,h'.rf,h'.kp,h'.hp⟩,h1,⟨rfl,⟨[],rfl⟩,he.th,rfl,he.nid⟩,rfl⟩
 cases e with
 |nrm=>exact fin hk'
 |ret=>exact fin hk'
 |ex i=>cases hk'
theorem p0T (hE:Q1 E) {C:D4 E} (hs:d0x E C) (hD:∀ An,q0x E (D4.at E C An)):∀ f,n0w E C f
 |0=>by intro R c An s k r hk;simp [mod] at hk
 |
  f+1=>by
  have ih:n0w E C f:=p0T hE hs hD f;have hi:=r01 hE ih;intro R c An s k r hk A ρ S a as w h Q hQ;cases c with
  |skip=>exact wp_skip (hQ .nrm s ρ S a w hk h (Ext.refl s))
  |
   region id ops draw=>
   simp only [mod] at hk;cases draw with
   |
    false=>
    refine wp_region_list ?_;refine d0V hE (C:=D4.at E C An) hi hs _ _ 0 ops.size ops.toList s _ r hk (Nat.zero_le _) ρ S a w h Q fun s' ρ' S' a' w' hk' h' he=>?_;rw [Nat.sub_zero,List.drop_of_length_le (by simp)];exact hQ .nrm s' ρ' S' a' w' hk' h' he
   |
    true=>
    refine wp_mono (Q:=fun e a' w'=>∃ s' ρ' S',e=.normal/\k .nrm s'=some r/\Rp E A s' ρ' S' a' as w'/\Ext s s') ?_ ?_
    ·exact hD An _ hi _ _ id ops s _ r hk A ρ S a as w h _ (by rintro c a w ⟨_,_,_,h,_⟩;cases h) fun s' ρ' S' a' w' hk' h' he=>⟨s',ρ',S',rfl,hk',h',he⟩
    ·rintro e a' w' ⟨s',ρ',S',rfl,hk',h',he⟩
     exact hQ .nrm s' ρ' S' a' w' hk' h' he
  |
   seq x y=>
   simp only [mod] at hk;refine wp_seq ?_;have tail:∀ {e:Ex} {s':St E.D} {ρ' S' a' w'},(match e with | .nrm=>mod E C f y An s' k | e=>k e s')=some r->Rp E A s' ρ' S' a' as w'->Ext s s'->Exit.then (y.wp E.P Q) Q e.out a' w':=by
    intro e s' ρ' S' a' w' hk' h' he;cases e with
    |nrm=>exact ih _ y An s' k r hk' A ρ' S' a' as w' h' Q fun e2 s2 ρ2 S2 a2 w2 hk2 h2 he2=>hQ e2 s2 ρ2 S2 a2 w2 hk2 h2 (he.trans he2)
    |ex i=>exact hQ (.ex i) s' ρ' S' a' w' hk' h' he
    |ret=>exact hQ .ret s' ρ' S' a' w' hk' h' he
   split at hk
   ·rename_i xs hxs;obtain ⟨d,hd,hk⟩:=b0Z hk;refine ih _ x An s _ d hd A ρ S a as w h _ fun e s' ρ' S' a' w' hp h' he=>?_;obtain ⟨u,ρ1,S1,h1,h2,h3⟩:=o0U hE (fun i u ha=>(h.hp i u ha).1) h h' he xs d hp hk;exact tail h1 h2 h3
   ·exact ih _ x An s _ r hk A ρ S a as w h _ fun e s' ρ' S' a' w' hk' h' he=>tail hk' h' he
  |
   cond c x y=>
   simp only [mod] at hk;have hc:=h.val c;split at hk
   ·rename_i hv;rw [hv] at hc;exact wp_cond_true (P8 (x:=true) rfl hc) (ih _ x An s k r hk A ρ S a as w h Q hQ)
   ·rename_i hv;rw [hv] at hc;exact wp_cond_false (P8 (x:=false) rfl hc) (ih _ y An s k r hk A ρ S a as w h Q hQ)
   ·split at hk<;>try cases hk
    rename_i b hb;have hcb:=P8 hb hc;split at hk
    ·rename_i e;subst e;exact wp_cond_true hcb (ih _ x An s k r hk A ρ S a as w h Q hQ)
    ·rename_i e;have e:b=false:=by simpa using e
     subst e;exact wp_cond_false hcb (ih _ y An s k r hk A ρ S a as w h Q hQ)
  |
   block id x=>
   simp only [mod] at hk;refine wp_block (ih _ x An s _ r hk A ρ S a as w h _ fun e s' ρ' S' a' w' hk' h' he=>?_);split at hk'
   ·rename_i e2;have:=Ex.h06 e2;subst this;simp only [Ex.out,Exit.inBlock,if_true];exact hQ .nrm s' ρ' S' a' w' hk' h' he
   ·rename_i e2;cases e with
    |nrm=>exact hQ .nrm s' ρ' S' a' w' hk' h' he
    |ret=>exact hQ .ret s' ρ' S' a' w' hk' h' he
    |
     ex i=>
     have:i≠id:=by rintro rfl;simp [Ex.eq] at e2
     simp only [Ex.out,Exit.inBlock,if_neg this];exact hQ (.ex i) s' ρ' S' a' w' hk' h' he
  |
   loop x=>
   simp only [mod] at hk;split at hk<;>try cases hk
   rename_i c xs hL;split at hk<;>try cases hk
   rename_i d0 hd0;obtain ⟨t,ht,hk⟩:=b0Z hk;refine wp_mono (s0e (I:=fun d a' w'=>∃ s' ρ' S',Rp E A s' ρ' S' a' as w'/\Ext s s'/\b0w E s s' c=some d)
    (D:=fun t e a' w'=>∃ ex s' ρ' S',e=Ex.out ex/\Rp E A s' ρ' S' a' as w'/\Ext s s'/\c0G E s ex s' xs=some t) ?_ C.fuel d0 t a w ht ⟨s,ρ,S,h,Ext.refl s,hd0⟩) ?_
   ·rintro d ctl a1 w1 ⟨s1,ρ1,S1,h1,he1,hp1⟩ hstep
    obtain ⟨u,ρ2,S2,hk2,h2,he2,_⟩:=e0t hE (fun i u ha=>(h.hp i u ha).1) h h1 he1 hp1 hstep;refine ih _ x An u _ ctl hk2 A ρ2 S2 a1 as w1 h2 _ fun e s' ρ' S' a' w' hk' h' he=>?_;have key:∀ e,e≠.nrm->(match c0G E s e s' xs with | some d'=>some (V0.done d') | none=>none)=some ctl->∃ t,ctl=.done t/\∃ ex s' ρ' S',e.out=Ex.out ex/\Rp E A s' ρ' S' a' as w'/\Ext s s'/\c0G E s ex s' xs=some t:=by
     intro e _ hk';split at hk'<;>try cases hk'
     rename_i d' hd';exact ⟨d',rfl,e,s',ρ',S',rfl,h',he2.trans he,hd'⟩
    cases e with
    |
     nrm=>
     simp only at hk';split at hk'<;>try cases hk'
     rename_i d' hd';exact ⟨d',rfl,s',ρ',S',h',he2.trans he,hd'⟩
    |ex i=>exact key (.ex i) (by simp) hk'
    |ret=>exact key .ret (by simp) hk'
   ·rintro e a' w' ⟨ex,s',ρ',S',rfl,h',he,hp⟩
    obtain ⟨u,ρ1,S1,h1,h2,h3⟩:=o0U hE (fun i u ha=>(h.hp i u ha).1) h h' he xs t hp hk;exact hQ ex u ρ1 S1 a' w' h1 h2 h3
  |exit id=>exact wp_exit (hQ (.ex id) s ρ S a w hk h (Ext.refl s))
  |ret=>exact wp_ret (hQ .ret s ρ S a w hk h (Ext.refl s))
  |rangeFunc=>simp [mod] at hk
  |scope=>simp [mod] at hk
  |label=>simp [mod] at hk
  |goto=>simp [mod] at hk
  |refuse=>simp [mod] at hk
end
