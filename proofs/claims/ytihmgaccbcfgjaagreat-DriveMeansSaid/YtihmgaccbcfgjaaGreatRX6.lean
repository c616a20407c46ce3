/- P. Its conditions: none. -/
import Derived.Test.YtihmgaccbcfgjaaGreatRX5
open Nat (le_refl)
set_option linter.all false
namespace Go.X
open Go.V Go.RowKit
section
variable {E:Env}
theorem c0D {D:Nat->Type}{t u:U}{x:Den D t}{y:Den D u}(h:d0i t u x=some y):∃e:t=u,e▸x=y:=by
 simp_all[d0i]
theorem a0u {D:Nat->Type}{t u:U}{x:List (Den D t)}{y:List (Den D u)}(h:N9 t u x=some y):∃e:t=u,e▸x=y:=by
 simp_all[N9]
section
variable {ρ:Nat->Value}{n:Nat}{H:I0}{S:D0}{s:St E.D}
def VC.d0Q {t:U}{x:Den E.D t}{c:List Value}(h:VC E ρ n H S (.d t x) c):(J0 E t).R H S c x:=by simp_all[VC]
theorem q07 (l:∀id,K3 E ρ n H S (F0 s id) (ρ id)){r:TD E}(o:∀(t:U) (m:List (V E.D)) (x:Den E.D t) (c:List Value),r.M t m=some x->T0 E ρ n H S m c->(J0 E t).R H S c x)
  {t:U} {v:V E.D} {x:Den E.D t} {c:List Value} (h:d0I E s r t v=some x) (i:VC E ρ n H S v c):∃u,c=[u]/\PtR (J0 E t) H S u x:=by
 unfold d0I at h;split at h
 ·grind [c0D,VC]
 ·obtain⟨e,h⟩:=c0D h;subst e;subst h;exact i.d0Q
 ·rename_i id;split at h<;>try cases h
  rename_i T cs hl;obtain⟨_,_,b,k,rfl⟩:=i;have:=l id;rw[hl]at this;obtain⟨b',cc,d,p,g,_,f⟩:=this;obtain rfl:b=b':=by rw[d]at k;simpa[hd,eq_comm]using k
  refine⟨_,rfl,b,0,cc,rfl,getElem?_lt p,f,o _ _ _ _ h g,fun j u q=>?_⟩
  simp_all[O1]
 grind
def z0e {d:IntKind}{v:V E.D}{x:Int}{c:List Value}(h:d04 d v=some x)(f:VC E ρ n H S v c):c=[.int d x]:=by
 unfold d04 at h;split at h<;>try cases h
 rename_i e y b;split at h<;>try cases h
 rename_i he;have he:=of_decide_eq_true he;subst he;cases v<;>simp only[B5]at b<;>try cases b
 ·simp_all[VC]
 ·rename_i t z;cases t<;>simp only[]at b<;>try cases b
  exact f.d0Q
def y00 {v:V E.D}{x:Bool}{c:List Value}(h:G6 v=some x)(b:VC E ρ n H S v c):c=[.bool x]:=by
 cases v<;>simp only[G6]at h<;>try cases h
 ·simp_all[VC]
 ·rename_i t z;cases t<;>simp only[]at h<;>try cases h
  exact b.d0Q
theorem B0f (d:∀id,K3 E ρ n H S (F0 s id) (ρ id)){t:U}{v:V E.D}{x:List (Den E.D t)}{c:List Value}(h:e0J E s t v=some x)(b:VC E ρ n H S v c):(J0 E (.list t)).R H S c x:=by
 unfold e0J at h;split at h
 ·cases h;subst b;exact⟨none,0,rfl,Sl.nil⟩
 ·obtain⟨e,h⟩:=a0u h;subst e;subst h;exact b.d0Q
 ·rename_i id;split at h<;>try cases h
  rename_i g xs hl;obtain⟨e,h⟩:=a0u h;subst e;subst h;obtain⟨_,_,rfl⟩:=b;have:=d id;rw[hl]at this;obtain⟨A',c',h1,f⟩:=this;exact⟨A',c',by rw[h1],f⟩
 grind
def i0I (E:Env)(ρ:Nat->Value)(n:Nat)(H:I0)(S:D0)(r:TD E):Prop:=
  (∀(t:U) (v:V E.D) (x:Den E.D t) (c:List Value),r.D t v=some x->VC E ρ n H S v c->(J0 E t).R H S c x)/\
  (∀(t:U) (m:List (V E.D)) (x:Den E.D t) (c:List Value),r.M t m=some x->T0 E ρ n H S m c->(J0 E t).R H S c x)/\
  (∀(ts:List U) (l q:List (V E.D)) (h:HL E.D ts) (c:List Value),r.F ts l=some (h,q)->T0 E ρ n H S l c->∃c1 c2,c=c1++c2/\(a0S E ts).R H S c1 h/\T0 E ρ n H S q c2)/\
  (∀(t:U) (m:Nat) (l q:List (V E.D)) (xs:List (Den E.D t)) (c:List Value),r.A t m l=some (xs,q)->T0 E ρ n H S l c->∃c1 c2,c=c1++c2/\xs.length=m/\R1 (J0 E t) H S c1 xs/\T0 E ρ n H S q c2)
def f0N {D:Nat->Type}{v:V D}{t:U}{x:Den D t}(h:unD v=some ⟨t,x⟩):v=.d t x:=by
 cases v<;>simp[unD]at h
 simp_all
def k0r {D:Nat->Type}{v:V D}{l:List (V D)}(h:d0X v=some l):v=.agg l:=by
 cases v<;>simp[d0X]at h
 simp_all
theorem v0g {D:Nat->Type}{v:V D}(h:o0n v=true):v=.nilp:=by
 grind [o0n]
theorem u0H {α β:Type}{x:α}:∀{o:Option (α×List β)},f0C o=some x->o=some (x,[])
 |none,h=>by grind [f0C]
 |some (y,[]),h=>by simp_all[f0C]
 |some (y,_ :: _),h=>by grind [f0C]
def D0V (f:T1 E){r:TD E}(j:i0I E ρ n H S r){i:Nat}{v:V E.D}{x:E.D i}{c:List Value}(h:e01 E r i v=some x)(d:VC E ρ n H S v c):(J0 E (.st i)).R H S c x:=by
 unfold e01 at h;split at h
 ·rename_i hd;obtain rfl:=f0N hd;obtain⟨e,h⟩:=c0D h;subst e;subst h;exact d.d0Q
 ·split at h<;>try cases h
  rename_i l hl;obtain rfl:=k0r hl;split at h<;>try cases h
  rename_i k b;have b:=u0H b;obtain⟨c1,c2,rfl,h1,g⟩:=j.2.2.1 _ _ _ _ _ b d;subst g;rw[List.append_nil];refine(f.st i H S c1 _).2 ?_;rw[f.unmk];exact h1
def G0r {r:TD E}(i:i0I E ρ n H S r){m:Nat}{t:U}{v:V E.D}{x:List (Den E.D t)}{c:List Value}(h:e0C E r m t v=some x)(b:VC E ρ n H S v c):(J0 E (.arr m t)).R H S c x:=by
 unfold e0C at h;split at h
 ·rename_i hd;obtain rfl:=f0N hd;obtain⟨e,h⟩:=c0D h;subst e;subst h;exact b.d0Q
 ·split at h<;>try cases h
  rename_i l hl;obtain rfl:=k0r hl;have d:=u0H h;obtain⟨c1,c2,rfl,h1,f,g⟩:=i.2.2.2 _ _ _ _ _ _ d b;subst g;rw[List.append_nil];exact⟨h1,f⟩
theorem E0G (d:∀id,K3 E ρ n H S (F0 s id) (ρ id)){r:TD E}(g:i0I E ρ n H S r){t:U}{v:V E.D}{x:Option (Den E.D t)}{c:List Value}(h:e0N E s r t v=some x)(b:VC E ρ n H S v c):(J0 E (.opt t)).R H S c x:=by
 unfold e0N at h;split at h
 ·rename_i hn;obtain rfl:=v0g hn;simp only[Option.some.injEq]at h;subst h;exact⟨_,b,rfl⟩
 ·split at h
  ·rename_i hd;obtain rfl:=f0N hd;obtain⟨e,h⟩:=c0D h;subst e;subst h;exact b.d0Q
  ·split at h
   ·rename_i y f;simp only[Option.some.injEq]at h;subst h;obtain⟨u,hu,hp⟩:=q07 d g.2.1 f b;exact⟨u,hu,hp⟩
   grind
theorem G0p {v:V E.D}{x:ByteArray}{c:List Value}(h:f0a v=some x)(b:VC E ρ n H S v c):(J0 E .str).R H S c x:=by
 unfold f0a at h;split at h
 ·rename_i y;obtain rfl:y=x:=Option.some.inj h;exact b.d0Q
 grind
def y0q (g:T1 E)(e:∀id,K3 E ρ n H S (F0 s id) (ρ id)){r:TD E}(d:i0I E ρ n H S r):∀(t:U) (v:V E.D) (x:Den E.D t) (c:List Value),k0e E s r t v=some x->VC E ρ n H S v c->(J0 E t).R H S c x
 |.int f,v,x,c,h,b=>z0e (show d04 f v=some x from h) b
 |.bool,v,x,c,h,b=>y00 (show G6 v=some x from h) b
 |.str,v,x,c,h,b=>G0p (show f0a v=some x from h) b
 |.list t,v,x,c,h,b=>B0f e (show e0J E s t v=some x from h) b
 |.st i,v,x,c,h,b=>D0V g d (show e01 E r i v=some x from h) b
 |.arr m t,v,x,c,h,b=>G0r d (show e0C E r m t v=some x from h) b
 |.ptr t,v,x,c,h,b=>q07 e d.2.1 (show d0I E s r t v=some x from h) b
 |.opt t,v,x,c,h,b=>E0G e d (show e0N E s r t v=some x from h) b
theorem E0F (d:T1 E)(j:∀id,K3 E ρ n H S (F0 s id) (ρ id)):∀k:Nat,i0I E ρ n H S (td E s k):=by
 intro k
 induction k with
 |zero=>exact⟨(fun _ _ _ _ h=>by cases h),(fun _ _ _ _ h=>by cases h),(fun _ _ _ _ _ h=>by cases h),(fun _ _ _ _ _ _ h=>by cases h)⟩
 |succ k ih=>
  refine⟨y0q d j ih,fun t m x c h hm=>?_,fun ts l r u c h hl=>?_,fun t m l r xs c h hl=>?_⟩
  ·replace h:p0U E (td E s k) t m=some x:=h;unfold p0U at h;split at h<;>try cases h
   rename_i v ha;exact ih.1 _ _ _ _ h (f0x d ha hm).1
  ·replace h:p0Z E (td E s k) ts l=some (u,r):=h;unfold p0Z at h;split at h
   ·obtain⟨rfl,rfl⟩:=h;exact⟨[],c,rfl,rfl,hl⟩
   ·split at h<;>try cases h
    rename_i m r' g;split at h<;>try cases h
    rename_i x y e i;obtain⟨c1,c2,rfl,_,hm,b⟩:=b0z d _ _ _ _ _ g c hl;obtain⟨d1,d2,rfl,h1,f⟩:=ih.2.2.1 _ _ _ _ _ i b;exact⟨c1++d1,d2,Z',⟨c1,d1,rfl,ih.2.1 _ _ _ _ e hm,h1⟩,f⟩
  ·replace h:m0t E (td E s k) t m l=some (xs,r):=h;unfold m0t at h;split at h
   ·obtain⟨rfl,rfl⟩:=h;exact⟨[],c,rfl,rfl,R1.nil,hl⟩
   ·split at h<;>try cases h
    rename_i q r' g;split at h<;>try cases h
    rename_i x p e i;obtain⟨c1,c2,rfl,_,hm,b⟩:=b0z d _ _ _ _ _ g c hl;obtain⟨d1,d2,rfl,h1,f,o⟩:=ih.2.2.2 _ _ _ _ _ _ i b;refine⟨c1++d1,d2,Z',by grind,?_,o⟩;exact(R1.one (ih.2.1 _ _ _ _ e hm)).append f
def g0J (e:T1 E)(d:∀id,K3 E ρ n H S (F0 s id) (ρ id)){k:Nat}{t:U}{v:V E.D}{x:Den E.D t}{c:List Value}(h:toD E s k t v=some x)(b:VC E ρ n H S v c):(J0 E t).R H S c x:=(E0F e d k).1 _ _ _ _ h b
end
section
variable {A:E4}{s s1:St E.D}{ρ:Nat->Value}{S:D0}{a:Act}{as:List Act}{w:World}
structure Ext {D:Nat->Type}(s s1:St D):Prop where
 n:s1.n=s.n
 fr:∃l,s1.fr=l++s.fr
 th:∃l,s1.th=l++s.th
 stk:s1.stk=s.stk
 nid:s.nid<=s1.nid
def Ext.refl {D:Nat->Type}(s:St D):Ext s s:=⟨rfl,⟨[],rfl⟩,⟨[],rfl⟩,rfl,le_refl _⟩
def Ext.trans {D:Nat->Type}{s s1 s2:St D}(h:Ext s s1)(k:Ext s1 s2):Ext s s2:=by
 obtain⟨l,hl⟩:=h.fr;obtain⟨l',d⟩:=k.fr;obtain⟨m,hm⟩:=h.th;obtain⟨b,c⟩:=k.th;exact⟨k.n.trans h.n,⟨l'++l,by simp_all⟩,⟨b++m,by simp_all⟩,k.stk.trans h.stk,Nat.le_trans h.nid k.nid⟩
theorem Ext.at {D:Nat->Type}(s:St D)(id:Nat)(x:Th D):Ext s (s.at id x):=⟨rfl,⟨[],rfl⟩,⟨[(id,x)],rfl⟩,rfl,le_refl _⟩
theorem Ext.new {D:Nat->Type}(s:St D)(x:Th D):Ext s (s.new x):=⟨rfl,⟨[],rfl⟩,⟨[(s.nid,x)],rfl⟩,rfl,Nat.le_succ _⟩
def Ext.put {D:Nat->Type}(s:St D)(d:Option Nat)(v:V D):Ext s (s.put d v):=by
 cases d with
 |none=>exact Ext.refl s
 |some t=>exact⟨rfl,⟨[(t,v)],rfl⟩,⟨[],rfl⟩,rfl,le_refl _⟩
theorem Rp.freeze (h:Rp E A s ρ S a as w){id:Nat}{x:Th E.D}(ho:Q1 (F0 s id)=true)(C:Q1 x=false)(hg:x≠.gone)
  (v:∀S1:D0,(∀k,S1 k->S k)->(∀k,Bk (ρ id) k->¬S1 k)->K3 E ρ s.nid w.heap S1 (F0 s id) (ρ id)->K3 E ρ s.nid w.heap S1 x (ρ id)) (a1:∀q i f,x≠.rof q i f:=by intros;simp):
  ∃S1,(∀k,S1 k->S k)/\Rp E A (s.at id x) ρ S1 a as w:=by
 have hk:P0 w.heap S w.heap (fun k=>S k/\¬Bk (ρ id) k):=P0.less fun _ h=>h.1;have J:id<s.nid:=h.i7 (by rintro e;rw[e]at ho;cases ho);have hl:∀j,F0 { s with th:=(id,x) :: s.th,nid:=s.nid } j=if id=j then x else F0 s j:=fun j=>T8 s id j x;have d:∀j,j≠id->j<s.nid->b0V s { s with th:=(id,x) :: s.th,nid:=s.nid } ρ ρ (fun k=>S k/\¬Bk (ρ id) k) w w j:=fun j I l=>
  ⟨by grind,l,rfl,fun c k g=>⟨rfl,(h.ow j c k g).1,fun U=>h.dj id j (Ne.symm I) ho c k U g⟩⟩
 refine⟨fun k=>S k/\¬Bk (ρ id) k,fun _ h=>h.1,h.step (nid1:=s.nid) (th1:=(id,x) :: s.th) ⟨⟨h.cx.bel,fun b o=>⟨h.cx.sub b o,fun e=>(h.ow id ho b e).2.1 o⟩,fun b o=>h.cx.lt b o.1,h.cx.lt0⟩,hk,fun _ _=>rfl,le_refl _⟩ (fun j=>?_) fun r q i f z e F t xs u=>?_⟩
 ·by_cases e:id=j
  ·subst e;refine .inr ⟨?_,fun R=>?_,fun R=>O'⟩
   ·rw[hl,if_pos rfl];exact v _ (fun _ h=>h.1) (fun k g h=>h.2 g) ((h.th id).mono (fun _ _=>rfl) (le_refl _) hk (fun _ _ _=>rfl))
   simp_all
  ·by_cases l:j<s.nid
   ·grind
   ·rw[hl,if_neg e];refine .inr ⟨?_,fun c=>?_,fun _=>h.lt j O'⟩
    ·rw[h.lt j O'];trivial
    ·rw[h.lt j O']at c;cases c
 ·rw[hl]at z;split at z
  ·simp_all
  ·rename_i y;have p:=h.c0a z;rw[hl]at u;split at u
   ·rw[u]at C;cases C
   ·rename_i m;exact .inl ⟨d r (Ne.symm y) (h.i7 (by simp_all)),d q (Ne.symm m) p⟩
theorem k0f {t:U}{H:I0}{S:D0}{e:Nat}{v:Value}{xs:List (Den E.D t)}{cs:List Value}(b:Row H e (J0 E t).sz v xs.length cs)(d:R1 (J0 E t) H S cs xs)(hn:∀k,B1 v=some k->¬S k):
  ∃A' c,v=.slice A' xs.length c/\Sl (J0 E t) H S A' c xs:=by
 obtain⟨o,b⟩:=b;rcases b with⟨m,a,rfl⟩|⟨g,cap,cur,rfl,hp,hg,hnc,hmx,hsz,htk⟩
 ·have:xs=[]:=List.eq_nil_of_length_eq_zero m;subst this;exact⟨a,0,rfl,le_refl _,fun h=>absurd rfl h,fun i x f=>by grind⟩
 ·refine⟨some ⟨g,0,none⟩,cap,rfl,hnc,fun _=>⟨g,0,rfl,getElem?_lt hg,hn g (e0S hp)⟩,fun i x f=>⟨g,0,_,rfl,d.2 i x f,fun j v p=>?_⟩⟩;have l:j<(J0 E t).sz:=by
   grind
  unfold O1
  grind
theorem w0G {H:I0}{S:D0}:∀(l:List U) (h:HL E.D l) (R0:List Value),b0B l=true->R0.length=l.length->
  (∀f u (y:List (Den E.D u)),I5 l h f=some ⟨.list u,y⟩->∃r A' c,R0[f]?=some r/\r=.slice A' y.length c/\Sl (J0 E u) H S A' c y)->(a0S E l).R H S R0 h
 |[],_,R0,_,hl,_=>by
  have:R0=[]:=List.eq_nil_of_length_eq_zero O';subst this;rfl
 |t :: l,h,[],_,hl,_=>by grind
 |t :: l,h,v :: R0,hb,hl,hr=>by
  simp only[b0B,Bool.and_eq_true]at hb;obtain⟨d,b⟩:=hb;cases t<;>simp only[i0f,Bool.false_eq_true]at d
  rename_i u;obtain⟨r,A',c,h1,g,i⟩:=hr 0 u h.1 rfl;simp only[List.getElem?_cons_zero,Option.some.injEq]at h1;subst h1;refine⟨[v],R0,rfl,⟨A',c,by rw[g],i⟩,w0G l h.2 R0 b (by simp_all) fun f w y j=>?_⟩;obtain⟨r',e,c',k,o,m⟩:=hr (f+1) w y j
  grind
theorem v7.els (hE:T1 E){H:I0}{S S1:D0}{e:Nat}{F:List Nat}{t:U}{xs:List (Den E.D t)}{v:Value}{cs:List Value}(h:v7 E H S e F t xs none v cs)(hs:∀k,S1 k->S k)(hn:∀k,Bk v k->¬S1 k):R1 (J0 E t) H S1 cs xs:=by
 refine⟨h.row.1,fun i x C=>?_⟩;have hi:i<xs.length:=(List.getElem?_eq_some_iff.1 C).1;obtain⟨z,I⟩:=d0C h.ok;have g:=h.sz;have hle:i*F.length+F.length<=cs.length:=by rw[g,<-Nat.succ_mul];exact Nat.mul_le_mul_right _ hi
 rw[z];have hlen:((cs.drop (i*F.length)).take F.length).length=F.length:=by grind
 have key:∀f u (y:List (Den E.D u)),f<F.length->V2 E t x f=some ⟨u,y⟩->∃r A' c,((cs.drop (i*F.length)).take F.length)[f]?=some r/\r=.slice A' y.length c/\Sl (J0 E u) H S1 A' c y:=by
  intro f u y m q;obtain⟨r,h1,a1,R,J⟩:=h.rows i x f u y _ C q (List.getElem?_eq_getElem m) Z';have h8:=e0P (o:=none) m Z' h1 Z';rw[<-h.tl]at h8;obtain⟨A',c,p,h5⟩:=k0f R (J.L0 (P0.less hs)) fun k hk=>hn k (Bk.tl (List.mem_of_getElem? h8) hk);exact⟨r,A',c,by rw[List.getElem?_take_of_lt m,List.getElem?_drop];exact h1,p,h5⟩
 have d:=h.ok;simp only[C9,Bool.and_eq_true,Nat.beq_eq]at d;obtain⟨⟨_,b⟩,hk⟩:=d;cases t<;>simp only at hk<;>try cases hk
 ·rename_i u _;have h1:F.length=1:=b;obtain⟨r,A',c,R,J,p⟩:=key 0 u x O' rfl;refine⟨A',c,?_,p⟩;refine List.ext_getElem? fun j=>?_
  grind
 ·rename_i k _;refine(hE.st k H S1 _ x).2 (w0G _ _ _ hk (by rw[hlen];exact b) fun f u y q=>?_);refine key f u y ?_ (show c0N _=_ by rw[q];rfl);rcases Nat.lt_or_ge f F.length with h9|h9
  ·exact h9
  ·have b:F.length=(E.fs k).length:=b;have:∀(l:List U) (h:HL E.D l) (f:Nat),l.length<=f->I5 l h f=none:=by
    intro l
    induction l with
    |nil=>intro h f _;rfl
    |cons t l ih=>
     intro h f m;cases f with
     |zero=>grind
     |succ f=>exact ih h.2 f (by simp_all)
   simp_all
theorem a0g (g:T1 E):∀(k:Nat) (s:St E.D) (l:List (V E.D)) (s1:St E.D),T6 E k s l=some s1->∀(S:D0),Rp E A s ρ S a as w->∃S1,(∀k,S1 k->S k)/\Rp E A s1 ρ S1 a as w/\Ext s s1/\s1.fr=s.fr/\s1.nid=s.nid
 |0,s,l,s1,h=>by grind [T6]
 |k+1,s,[],s1,h=>by
  intro S f;simp only[T6,Option.some.injEq]at h;subst h;exact⟨S,fun _ h=>h,f,Ext.refl s,rfl,rfl⟩
 |k+1,s,v :: r,s1,h=>by
  intro S f;simp only[T6]at h;split at h
  ·rename_i id;split at h<;>try cases h
   ·rename_i e t xs hl;obtain⟨S1,h1,j⟩:=f.freeze (id:=id) (x:=.fz t xs) (by rw[hl];rfl) rfl Z' (by
     intro S1 hs hn d;rw[hl]at d;obtain⟨cs,i,I⟩:=d;obtain⟨_,_,e1⟩:=Row.form i;have:=k0f i I (fun k hk=>hn k (by rw[e1]at hk ⊢;exact hk));obtain⟨A',c,h1,j⟩:=this;exact⟨A',c,by rw[h1];rfl,j⟩)
    obtain⟨J,u,p,C,q,z⟩:=a0g g k _ r s1 h _ j;exact⟨J,fun b m=>h1 b (u b m),p,(Ext.at s id _).trans C,q,z⟩
   ·exact a0g g k _ r s1 h _ f
   ·rename_i e F t xs hl;obtain⟨S1,h1,j⟩:=f.freeze (id:=id) (x:=.fz t xs) (by rw[hl];rfl) rfl Z' (by
     intro S1 hs hn d;have d:=f.th id;rw[hl]at d;obtain⟨cs,d⟩:=d;exact k0f d.row (d.els g hs hn) fun k hk=>hn k (Bk.hd hk))
    obtain⟨J,u,p,C,q,z⟩:=a0g g k _ r s1 h _ j;exact⟨J,fun b m=>h1 b (u b m),p,(Ext.at s id _).trans C,q,z⟩
  ·rename_i id;split at h<;>try cases h
   ·rename_i T cs hl;split at h<;>try cases h
    rename_i s2 hf;obtain⟨J,u,p,C,q,z⟩:=a0g g k _ cs s2 hf _ f;split at h<;>try cases h
    rename_i T' a1 o;obtain⟨S1,h1,j⟩:=p.freeze (id:=id) (x:=.fzb T' a1) (by rw[o];rfl) rfl Z' (by
     intro S1 hs hn d;rw[o]at d;obtain⟨b,cc,hv,m,b1,y⟩:=d;exact⟨b,cc,hv,m,b1,y,hn b (by rw[hv];rfl)⟩)
    obtain⟨S3,h8,h9,R,U,b2⟩:=a0g g k _ r s1 h _ j;exact⟨S3,fun b m=>u b (h1 b (h8 b m)),h9,(C.trans (Ext.at s2 id _)).trans R,U.trans q,b2.trans z⟩
   ·exact a0g g k _ r s1 h _ f
  ·exact a0g g k _ _ s1 h _ f
  ·exact a0g g k _ _ s1 h _ f
  ·exact a0g g k _ _ s1 h _ f
theorem b0g:∀(k:Nat) (s:St E.D) (l:List (V E.D)) (s1:St E.D),T6 E k s l=some s1->∀id,Q1 (F0 s1 id)=true->F0 s id=F0 s1 id
 |0,s,l,s1,h=>by grind [T6]
 |k+1,s,[],s1,h=>by
  simp only[T6,Option.some.injEq]at h;simp_all
 |k+1,s,v :: r,s1,h=>by
  have at_:∀(c:St E.D) (i:Nat) (x:Th E.D),Q1 x=false->∀id,(∀id,Q1 (F0 s1 id)=true->F0 (c.at i x) id=F0 s1 id)->Q1 (F0 s1 id)=true->F0 c id=F0 s1 id:=by
   grind [T8]
  simp only[T6]at h;split at h
  ·rename_i id;split at h<;>try cases h
   ·exact fun j b=>at_ s id _ (by rfl) j (b0g k _ r s1 h) b
   ·exact b0g k s r s1 h
   ·exact fun j b=>at_ s id _ (by rfl) j (b0g k _ r s1 h) b
  ·rename_i id;split at h<;>try cases h
   ·split at h<;>try cases h
    rename_i s2 d;split at h<;>try cases h
    intro j b;have f:=at_ s2 id _ (by rfl) j (b0g k _ r s1 h) b;have e:=b0g k s _ s2 d j (by simp_all)
    simp_all
   ·exact b0g k s r s1 h
  ·exact b0g k s _ s1 h
  ·exact b0g k s _ s1 h
  ·exact b0g k s r s1 h
end
end
