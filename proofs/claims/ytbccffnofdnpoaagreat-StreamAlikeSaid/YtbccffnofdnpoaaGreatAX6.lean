/- P. Its conditions: none. -/
import Derived.Test.YtbccffnofdnpoaaGreatAX5
open Nat (le_refl)
set_option linter.all false
namespace Go.X
open Go.V Go.RowKit
section
variable {E:Env}
theorem d0H {D:Nat->Type}{t u:U}{x:Den D t}{y:Den D u}(h:e0t t u x=some y):∃e:t=u,e▸x=y:=by
 simp_all[e0t]
theorem W9 {D:Nat->Type}{t u:U}{x:List (Den D t)}{y:List (Den D u)}(h:J9 t u x=some y):∃e:t=u,e▸x=y:=by
 simp_all[J9]
section
variable {ρ:Nat->Value}{n:Nat}{H:M0}{S:E0}{s:St E.D}
def VC.d0P {t:U}{x:Den E.D t}{c:List Value}(h:VC E ρ n H S (.d t x) c):(L0 E t).R H S c x:=by simp_all[VC]
theorem v0Y (l:∀id,M4 E ρ n H S (G0 s id) (ρ id)){r:TD E}(p:∀(t:U) (m:List (V E.D)) (x:Den E.D t) (c:List Value),r.M t m=some x->F1 E ρ n H S m c->(L0 E t).R H S c x)
  {t:U} {v:V E.D} {x:Den E.D t} {c:List Value} (h:d0M E s r t v=some x) (k:VC E ρ n H S v c):∃u,c=[u]/\PtR (L0 E t) H S u x:=by
 unfold d0M at h;split at h
 ·grind [d0H,VC]
 ·obtain⟨e,h⟩:=d0H h;subst e;subst h;exact k.d0P
 ·rename_i id;split at h<;>try cases h
  rename_i T cs hl;obtain⟨_,_,b,i,rfl⟩:=k;have:=l id;rw[hl]at this;obtain⟨b',o,g,q,d,_,f⟩:=this;obtain rfl:b=b':=by rw[g]at i;simpa[hd,eq_comm]using i
  refine⟨_,rfl,b,0,o,rfl,getElem?_lt q,f,p _ _ _ _ h d,fun j u y=>?_⟩
  simp_all[D2]
 grind
def C0m {d:IntKind}{v:V E.D}{x:Int}{c:List Value}(h:e0R d v=some x)(f:VC E ρ n H S v c):c=[.int d x]:=by
 unfold e0R at h;split at h<;>try cases h
 rename_i e y b;split at h<;>try cases h
 rename_i he;have he:=of_decide_eq_true he;subst he;cases v<;>simp only[o6]at b<;>try cases b
 ·simp_all[VC]
 ·rename_i t z;cases t<;>simp only[]at b<;>try cases b
  exact f.d0P
def I0y {v:V E.D}{x:Bool}{c:List Value}(h:M7 v=some x)(b:VC E ρ n H S v c):c=[.bool x]:=by
 cases v<;>simp only[M7]at h<;>try cases h
 ·simp_all[VC]
 ·rename_i t z;cases t<;>simp only[]at h<;>try cases h
  exact b.d0P
theorem H0o (g:∀id,M4 E ρ n H S (G0 s id) (ρ id)){t:U}{v:V E.D}{x:List (Den E.D t)}{c:List Value}(h:e00 E s t v=some x)(b:VC E ρ n H S v c):(L0 E (.list t)).R H S c x:=by
 unfold e00 at h;split at h
 ·cases h;subst b;exact⟨none,0,rfl,Sl.nil⟩
 ·obtain⟨e,h⟩:=W9 h;subst e;subst h;exact b.d0P
 ·rename_i id;split at h<;>try cases h
  rename_i i xs hl;obtain⟨e,h⟩:=W9 h;subst e;subst h;obtain⟨_,_,rfl⟩:=b;have:=g id;rw[hl]at this;obtain⟨d,c',h1,f⟩:=this;exact⟨d,c',by rw[h1],f⟩
 grind
def i0D (E:Env)(ρ:Nat->Value)(n:Nat)(H:M0)(S:E0)(r:TD E):Prop:=
  (∀(t:U) (v:V E.D) (x:Den E.D t) (c:List Value),r.D t v=some x->VC E ρ n H S v c->(L0 E t).R H S c x)/\
  (∀(t:U) (m:List (V E.D)) (x:Den E.D t) (c:List Value),r.M t m=some x->F1 E ρ n H S m c->(L0 E t).R H S c x)/\
  (∀(ts:List U) (l q:List (V E.D)) (h:HL E.D ts) (c:List Value),r.F ts l=some (h,q)->F1 E ρ n H S l c->∃c1 c2,c=c1++c2/\(a0O E ts).R H S c1 h/\F1 E ρ n H S q c2)/\
  (∀(t:U) (m:Nat) (l q:List (V E.D)) (xs:List (Den E.D t)) (c:List Value),r.A t m l=some (xs,q)->F1 E ρ n H S l c->∃c1 c2,c=c1++c2/\xs.length=m/\V1 (L0 E t) H S c1 xs/\F1 E ρ n H S q c2)
def g0c {D:Nat->Type}{v:V D}{t:U}{x:Den D t}(h:unD v=some ⟨t,x⟩):v=.d t x:=by
 cases v<;>simp[unD]at h
 simp_all
def m0I {D:Nat->Type}{v:V D}{l:List (V D)}(h:f0K v=some l):v=.agg l:=by
 cases v<;>simp[f0K]at h
 simp_all
theorem w0F {D:Nat->Type}{v:V D}(h:o08 v=true):v=.nilp:=by
 grind [o08]
theorem v0Z {α β:Type}{x:α}:∀{o:Option (α×List β)},g0D o=some x->o=some (x,[])
 |none,h=>by grind [g0D]
 |some (y,[]),h=>by simp_all[g0D]
 |some (y,_ :: _),h=>by grind [g0D]
def O0Y (d:G2 E){r:TD E}(j:i0D E ρ n H S r){i:Nat}{v:V E.D}{x:E.D i}{c:List Value}(h:e0H E r i v=some x)(f:VC E ρ n H S v c):(L0 E (.st i)).R H S c x:=by
 unfold e0H at h;split at h
 ·rename_i hd;obtain rfl:=g0c hd;obtain⟨e,h⟩:=d0H h;subst e;subst h;exact f.d0P
 ·split at h<;>try cases h
  rename_i l hl;obtain rfl:=m0I hl;split at h<;>try cases h
  rename_i k b;have b:=v0Z b;obtain⟨c1,c2,rfl,h1,g⟩:=j.2.2.1 _ _ _ _ _ b f;subst g;rw[List.append_nil];refine(d.st i H S c1 _).2 ?_;rw[d.unmk];exact h1
def F04 {r:TD E}(g:i0D E ρ n H S r){m:Nat}{t:U}{v:V E.D}{x:List (Den E.D t)}{c:List Value}(h:f0B E r m t v=some x)(b:VC E ρ n H S v c):(L0 E (.arr m t)).R H S c x:=by
 unfold f0B at h;split at h
 ·rename_i hd;obtain rfl:=g0c hd;obtain⟨e,h⟩:=d0H h;subst e;subst h;exact b.d0P
 ·split at h<;>try cases h
  rename_i l hl;obtain rfl:=m0I hl;have d:=v0Z h;obtain⟨c1,c2,rfl,h1,i,f⟩:=g.2.2.2 _ _ _ _ _ _ d b;subst f;rw[List.append_nil];exact⟨h1,i⟩
theorem E08 (d:∀id,M4 E ρ n H S (G0 s id) (ρ id)){r:TD E}(g:i0D E ρ n H S r){t:U}{v:V E.D}{x:Option (Den E.D t)}{c:List Value}(h:f0x E s r t v=some x)(b:VC E ρ n H S v c):(L0 E (.opt t)).R H S c x:=by
 unfold f0x at h;split at h
 ·rename_i hn;obtain rfl:=w0F hn;simp only[Option.some.injEq]at h;subst h;exact⟨_,b,rfl⟩
 ·split at h
  ·rename_i hd;obtain rfl:=g0c hd;obtain⟨e,h⟩:=d0H h;subst e;subst h;exact b.d0P
  ·split at h
   ·rename_i y f;simp only[Option.some.injEq]at h;subst h;obtain⟨u,hu,hp⟩:=v0Y d g.2.1 f b;exact⟨u,hu,hp⟩
   grind
theorem D0S {v:V E.D}{x:ByteArray}{c:List Value}(h:f0q v=some x)(b:VC E ρ n H S v c):(L0 E .str).R H S c x:=by
 unfold f0q at h;split at h
 ·rename_i y;obtain rfl:y=x:=Option.some.inj h;exact b.d0P
 grind
def B0i (f:G2 E)(e:∀id,M4 E ρ n H S (G0 s id) (ρ id)){r:TD E}(d:i0D E ρ n H S r):∀(t:U) (v:V E.D) (x:Den E.D t) (c:List Value),l0m E s r t v=some x->VC E ρ n H S v c->(L0 E t).R H S c x
 |.int g,v,x,c,h,b=>C0m (show e0R g v=some x from h) b
 |.bool,v,x,c,h,b=>I0y (show M7 v=some x from h) b
 |.str,v,x,c,h,b=>D0S (show f0q v=some x from h) b
 |.list t,v,x,c,h,b=>H0o e (show e00 E s t v=some x from h) b
 |.st i,v,x,c,h,b=>O0Y f d (show e0H E r i v=some x from h) b
 |.arr m t,v,x,c,h,b=>F04 d (show f0B E r m t v=some x from h) b
 |.ptr t,v,x,c,h,b=>v0Y e d.2.1 (show d0M E s r t v=some x from h) b
 |.opt t,v,x,c,h,b=>E08 e d (show f0x E s r t v=some x from h) b
theorem C0Y (d:G2 E)(o:∀id,M4 E ρ n H S (G0 s id) (ρ id)):∀k:Nat,i0D E ρ n H S (td E s k):=by
 intro k
 induction k with
 |zero=>exact⟨(fun _ _ _ _ h=>by cases h),(fun _ _ _ _ h=>by cases h),(fun _ _ _ _ _ h=>by cases h),(fun _ _ _ _ _ _ h=>by cases h)⟩
 |succ k ih=>
  refine⟨B0i d o ih,fun t m x c h hm=>?_,fun ts l r p c h hl=>?_,fun t m l r xs c h hl=>?_⟩
  ·replace h:s04 E (td E s k) t m=some x:=h;unfold s04 at h;split at h<;>try cases h
   rename_i v ha;exact ih.1 _ _ _ _ h (g0t d ha hm).1
  ·replace h:p0n E (td E s k) ts l=some (p,r):=h;unfold p0n at h;split at h
   ·obtain⟨rfl,rfl⟩:=h;exact⟨[],c,rfl,rfl,hl⟩
   ·split at h<;>try cases h
    rename_i m r' f;split at h<;>try cases h
    rename_i x y e i;obtain⟨c1,c2,rfl,_,hm,b⟩:=b00 d _ _ _ _ _ f c hl;obtain⟨d1,d2,rfl,h1,g⟩:=ih.2.2.1 _ _ _ _ _ i b;exact⟨c1++d1,d2,V',⟨c1,d1,rfl,ih.2.1 _ _ _ _ e hm,h1⟩,g⟩
  ·replace h:p01 E (td E s k) t m l=some (xs,r):=h;unfold p01 at h;split at h
   ·obtain⟨rfl,rfl⟩:=h;exact⟨[],c,rfl,rfl,V1.nil,hl⟩
   ·split at h<;>try cases h
    rename_i q r' f;split at h<;>try cases h
    rename_i x u e i;obtain⟨c1,c2,rfl,_,hm,b⟩:=b00 d _ _ _ _ _ f c hl;obtain⟨d1,d2,rfl,h1,g,j⟩:=ih.2.2.2 _ _ _ _ _ _ i b;refine⟨c1++d1,d2,V',by grind,?_,j⟩;exact(V1.one (ih.2.1 _ _ _ _ e hm)).append g
def i0s (b:G2 E)(e:∀id,M4 E ρ n H S (G0 s id) (ρ id)){k:Nat}{t:U}{v:V E.D}{x:Den E.D t}{c:List Value}(h:toD E s k t v=some x)(d:VC E ρ n H S v c):(L0 E t).R H S c x:=(C0Y b e k).1 _ _ _ _ h d
end
section
variable {A:A5}{s s1:St E.D}{ρ:Nat->Value}{S:E0}{a:Act}{as:List Act}{w:World}
structure Ext {D:Nat->Type}(s s1:St D):Prop where
 n:s1.n=s.n
 fr:∃l,s1.fr=l++s.fr
 th:∃l,s1.th=l++s.th
 stk:s1.stk=s.stk
 nid:s.nid<=s1.nid
def Ext.refl {D:Nat->Type}(s:St D):Ext s s:=⟨rfl,⟨[],rfl⟩,⟨[],rfl⟩,rfl,le_refl _⟩
def Ext.trans {D:Nat->Type}{s s1 s2:St D}(h:Ext s s1)(k:Ext s1 s2):Ext s s2:=by
 obtain⟨l,hl⟩:=h.fr;obtain⟨l',d⟩:=k.fr;obtain⟨m,hm⟩:=h.th;obtain⟨b,c⟩:=k.th;exact⟨k.n.trans h.n,⟨l'++l,by simp_all⟩,⟨b++m,by simp_all⟩,k.stk.trans h.stk,Nat.le_trans h.nid k.nid⟩
theorem Ext.at {D:Nat->Type}(s:St D)(id:Nat)(x:Th D):Ext s (s.at id x):=⟨rfl,⟨[],rfl⟩,⟨[(id,x)],rfl⟩,rfl,le_refl _⟩
theorem Ext.new {D:Nat->Type}(s:St D)(x:Th D):Ext s (s.new x):=⟨rfl,⟨[],rfl⟩,⟨[(s.nid,x)],rfl⟩,rfl,Nat.le_succ _⟩
def Ext.put {D:Nat->Type}(s:St D)(d:Option Nat)(v:V D):Ext s (s.put d v):=by
 cases d with
 |none=>exact Ext.refl s
 |some t=>exact⟨rfl,⟨[(t,v)],rfl⟩,⟨[],rfl⟩,rfl,le_refl _⟩
theorem Rp.freeze (h:Rp E A s ρ S a as w){id:Nat}{x:Th E.D}(p:E2 (G0 s id)=true)(C:E2 x=false)(hg:x≠.gone)
  (v:∀S1:E0,(∀k,S1 k->S k)->(∀k,Bk (ρ id) k->¬S1 k)->M4 E ρ s.nid w.heap S1 (G0 s id) (ρ id)->M4 E ρ s.nid w.heap S1 x (ρ id)) (U:∀q i f,x≠.rof q i f:=by intros;simp):
  ∃S1,(∀k,S1 k->S k)/\Rp E A (s.at id x) ρ S1 a as w:=by
 have hk:Y0 w.heap S w.heap (fun k=>S k/\¬Bk (ρ id) k):=Y0.less fun _ h=>h.1;have a1:id<s.nid:=h.F7 (by rintro e;rw[e]at p;cases p);have hl:∀j,G0 { s with th:=(id,x) :: s.th,nid:=s.nid } j=if id=j then x else G0 s j:=fun j=>M9 s id j x;have c:∀j,j≠id->j<s.nid->b0M s { s with th:=(id,x) :: s.th,nid:=s.nid } ρ ρ (fun k=>S k/\¬Bk (ρ id) k) w w j:=fun j I l=>
  ⟨by grind,l,rfl,fun d k g=>⟨rfl,(h.ow j d k g).1,fun J=>h.dj id j (Ne.symm I) p d k J g⟩⟩
 refine⟨fun k=>S k/\¬Bk (ρ id) k,fun _ h=>h.1,h.step (nid1:=s.nid) (th1:=(id,x) :: s.th) ⟨⟨h.cx.bel,fun b o=>⟨h.cx.sub b o,fun e=>(h.ow id p b e).2.1 o⟩,fun b o=>h.cx.lt b o.1,h.cx.lt0⟩,hk,fun _ _=>rfl,le_refl _⟩ (fun j=>?_) fun r q i f z e F t xs hq=>?_⟩
 ·by_cases e:id=j
  ·subst e;refine .inr ⟨?_,fun R=>?_,fun R=>O'⟩
   ·rw[hl,if_pos rfl];exact v _ (fun _ h=>h.1) (fun k g h=>h.2 g) ((h.th id).mono (fun _ _=>rfl) (le_refl _) hk (fun _ _ _=>rfl))
   simp_all
  ·by_cases l:j<s.nid
   ·grind
   ·rw[hl,if_neg e];refine .inr ⟨?_,fun d=>?_,fun _=>h.lt j O'⟩
    ·rw[h.lt j O'];trivial
    ·rw[h.lt j O']at d;cases d
 ·rw[hl]at z;split at z
  ·simp_all
  ·rename_i y;have u:=h.c0C z;rw[hl]at hq;split at hq
   ·rw[hq]at C;cases C
   ·rename_i m;exact .inl ⟨c r (Ne.symm y) (h.F7 (by simp_all)),c q (Ne.symm m) u⟩
def n0n {t:U}{H:M0}{S:E0}{e:Nat}{v:Value}{xs:List (Den E.D t)}{cs:List Value}(b:Row H e (L0 E t).sz v xs.length cs)(f:V1 (L0 E t) H S cs xs)(hn:∀k,D1 v=some k->¬S k):
  ∃p c,v=.slice p xs.length c/\Sl (L0 E t) H S p c xs:=by
 obtain⟨r,b⟩:=b;rcases b with⟨q,a,rfl⟩|⟨g,o,cap,cur,rfl,hp,hg,hnc,hmx,hsz,htk,_⟩
 ·have:xs=[]:=List.eq_nil_of_length_eq_zero q;subst this;exact⟨a,0,rfl,le_refl _,fun h=>absurd rfl h,fun i x l=>by simp at l⟩
 ·refine⟨some ⟨g,o*(L0 E t).sz,none⟩,cap,rfl,hnc,fun _=>⟨g,o*(L0 E t).sz,rfl,getElem?_lt hg,hn g (c0m hp)⟩,fun i x l=>⟨g,o*(L0 E t).sz,_,rfl,f.2 i x l,fun j v d=>?_⟩⟩;have hi:i<xs.length:=(List.getElem?_eq_some_iff.1 l).1;have m:j<(L0 E t).sz:=by
   rcases Nat.lt_or_ge j (L0 E t).sz with h|h
   ·exact h
   ·rw[List.getElem?_eq_none Z']at d;cases d
  rw[List.getElem?_take_of_lt m,List.getElem?_drop]at d;unfold D2;rw[hg];simp only;rw[<-htk]at d;have hle:i*(L0 E t).sz+(L0 E t).sz<=xs.length*(L0 E t).sz:=by rw[<-Nat.succ_mul];exact Nat.mul_le_mul_right _ hi
  rw[List.getElem?_take_of_lt O',List.getElem?_drop]at d;rw[Nat.add_assoc];simpa using d
theorem y02 {H:M0}{S:E0}:∀(l:List U) (h:HL E.D l) (B1:List Value),b07 l=true->B1.length=l.length->
  (∀f u (y:List (Den E.D u)),F6 l h f=some ⟨.list u,y⟩->∃r b c,B1[f]?=some r/\r=.slice b y.length c/\Sl (L0 E u) H S b c y)->(a0O E l).R H S B1 h
 |[],_,B1,_,hl,_=>by
  have:B1=[]:=List.eq_nil_of_length_eq_zero O';subst this;rfl
 |t :: l,h,[],_,hl,_=>by grind
 |t :: l,h,v :: B1,hb,hl,hr=>by
  simp only[b07,Bool.and_eq_true]at hb;obtain⟨d,e⟩:=hb;cases t<;>simp only[i0t,Bool.false_eq_true]at d
  rename_i u;obtain⟨r,b,c,h1,j,g⟩:=hr 0 u h.1 rfl;simp only[List.getElem?_cons_zero,Option.some.injEq]at h1;subst h1;refine⟨[v],B1,rfl,⟨b,c,by rw[j],g⟩,y02 l h.2 B1 e (by simp_all) fun f w y k=>?_⟩;obtain⟨r',i,c',m,o,p⟩:=hr (f+1) w y k
  grind
theorem N7.els (hE:G2 E){H:M0}{S S1:E0}{e:Nat}{F:List Nat}{t:U}{xs:List (Den E.D t)}{v:Value}{cs:List Value}(h:N7 E H S e F t xs none v cs)(hs:∀k,S1 k->S k)(hn:∀k,Bk v k->¬S1 k):V1 (L0 E t) H S1 cs xs:=by
 refine⟨h.row.1,fun i x R=>?_⟩;have hi:i<xs.length:=(List.getElem?_eq_some_iff.1 R).1;obtain⟨C,J⟩:=d01 h.ok;have g:=h.sz;have hle:i*F.length+F.length<=cs.length:=by rw[g,<-Nat.succ_mul];exact Nat.mul_le_mul_right _ hi
 rw[C];have hlen:((cs.drop (i*F.length)).take F.length).length=F.length:=by grind
 have key:∀f u (y:List (Den E.D u)),f<F.length->L3 E t x f=some ⟨u,y⟩->∃r d c,((cs.drop (i*F.length)).take F.length)[f]?=some r/\r=.slice d y.length c/\Sl (L0 E u) H S1 d c y:=by
  intro f u y p z;obtain⟨r,h1,a1,h2,I⟩:=h.rows i x f u y _ R z (List.getElem?_eq_getElem p) V';have h8:=f0Q (o:=none) p V' h1 V';rw[<-h.tl]at h8;obtain⟨d,c,q,h5⟩:=n0n h2 (I.J1 (Y0.less hs)) fun k hk=>hn k (Bk.tl (List.mem_of_getElem? h8) hk);exact⟨r,d,c,by rw[List.getElem?_take_of_lt p,List.getElem?_drop];exact h1,q,h5⟩
 have m:=h.ok;simp only[A9,Bool.and_eq_true,Nat.beq_eq]at m;obtain⟨⟨_,b⟩,hk⟩:=m;cases t<;>simp only at hk<;>try cases hk
 ·rename_i u _;have h1:F.length=1:=b;obtain⟨r,d,c,h2,I,q⟩:=key 0 u x O' rfl;refine⟨d,c,?_,q⟩;refine List.ext_getElem? fun j=>?_
  grind
 ·rename_i k _;refine(hE.st k H S1 _ x).2 (y02 _ _ _ hk (by rw[hlen];exact b) fun f u y z=>?_);refine key f u y ?_ (show d0x _=_ by rw[z];rfl);rcases Nat.lt_or_ge f F.length with h9|h9
  ·exact h9
  ·have b:F.length=(E.fs k).length:=b;have:∀(l:List U) (h:HL E.D l) (f:Nat),l.length<=f->F6 l h f=none:=by
    intro l
    induction l with
    |nil=>intro h f _;rfl
    |cons t l ih=>
     intro h f p;cases f with
     |zero=>grind
     |succ f=>exact ih h.2 f (by simp_all)
   simp_all
theorem a0w (g:G2 E):∀(k:Nat) (s:St E.D) (l:List (V E.D)) (s1:St E.D),s7 E k s l=some s1->∀(S:E0),Rp E A s ρ S a as w->∃S1,(∀k,S1 k->S k)/\Rp E A s1 ρ S1 a as w/\Ext s s1/\s1.fr=s.fr/\s1.nid=s.nid
 |0,s,l,s1,h=>by grind [s7]
 |k+1,s,[],s1,h=>by
  intro S f;simp only[s7,Option.some.injEq]at h;subst h;exact⟨S,fun _ h=>h,f,Ext.refl s,rfl,rfl⟩
 |k+1,s,v :: r,s1,h=>by
  intro S f;simp only[s7]at h;split at h
  ·rename_i id;split at h<;>try cases h
   ·rename_i e t xs hl;obtain⟨S1,h1,m⟩:=f.freeze (id:=id) (x:=.fz t xs) (by rw[hl];rfl) rfl V' (by
     intro S1 hs hn d;rw[hl]at d;obtain⟨cs,i,o⟩:=d;obtain⟨_,_,e1⟩:=Row.form i;have:=n0n i o (fun k hk=>hn k (by rw[e1]at hk ⊢;exact hk));obtain⟨A',c,h1,m⟩:=this;exact⟨A',c,by rw[h1];rfl,m⟩)
    obtain⟨J,p,u,y,I,q⟩:=a0w g k _ r s1 h _ m;exact⟨J,fun b j=>h1 b (p b j),u,(Ext.at s id _).trans y,I,q⟩
   ·exact a0w g k _ r s1 h _ f
   ·rename_i e F t xs hl;obtain⟨S1,h1,m⟩:=f.freeze (id:=id) (x:=.fz t xs) (by rw[hl];rfl) rfl V' (by
     intro S1 hs hn d;have d:=f.th id;rw[hl]at d;obtain⟨cs,d⟩:=d;exact n0n d.row (d.els g hs hn) fun k hk=>hn k (Bk.hd hk))
    obtain⟨J,p,u,y,I,q⟩:=a0w g k _ r s1 h _ m;exact⟨J,fun b j=>h1 b (p b j),u,(Ext.at s id _).trans y,I,q⟩
  ·rename_i id;split at h<;>try cases h
   ·rename_i T cs hl;split at h<;>try cases h
    rename_i s2 hf;obtain⟨J,p,u,y,I,q⟩:=a0w g k _ cs s2 hf _ f;split at h<;>try cases h
    rename_i T' a1 z;obtain⟨S1,h1,m⟩:=u.freeze (id:=id) (x:=.fzb T' a1) (by rw[z];rfl) rfl V' (by
     intro S1 hs hn d;rw[z]at d;obtain⟨b,cc,hv,j,U,C⟩:=d;exact⟨b,cc,hv,j,U,C,hn b (by rw[hv];rfl)⟩)
    obtain⟨S3,h8,h9,b1,b2,R⟩:=a0w g k _ r s1 h _ m;exact⟨S3,fun b j=>p b (h1 b (h8 b j)),h9,(y.trans (Ext.at s2 id _)).trans b1,b2.trans I,R.trans q⟩
   ·exact a0w g k _ r s1 h _ f
  ·exact a0w g k _ _ s1 h _ f
  ·exact a0w g k _ _ s1 h _ f
  ·exact a0w g k _ _ s1 h _ f
theorem b0f:∀(k:Nat) (s:St E.D) (l:List (V E.D)) (s1:St E.D),s7 E k s l=some s1->∀id,E2 (G0 s1 id)=true->G0 s id=G0 s1 id
 |0,s,l,s1,h=>by grind [s7]
 |k+1,s,[],s1,h=>by
  simp only[s7,Option.some.injEq]at h;simp_all
 |k+1,s,v :: r,s1,h=>by
  have at_:∀(c:St E.D) (i:Nat) (x:Th E.D),E2 x=false->∀id,(∀id,E2 (G0 s1 id)=true->G0 (c.at i x) id=G0 s1 id)->E2 (G0 s1 id)=true->G0 c id=G0 s1 id:=by
   grind [M9]
  simp only[s7]at h;split at h
  ·rename_i id;split at h<;>try cases h
   ·exact fun j b=>at_ s id _ (by rfl) j (b0f k _ r s1 h) b
   ·exact b0f k s r s1 h
   ·exact fun j b=>at_ s id _ (by rfl) j (b0f k _ r s1 h) b
  ·rename_i id;split at h<;>try cases h
   ·split at h<;>try cases h
    rename_i s2 d;split at h<;>try cases h
    intro j b;have f:=at_ s2 id _ (by rfl) j (b0f k _ r s1 h) b;have e:=b0f k s _ s2 d j (by simp_all)
    simp_all
   ·exact b0f k s r s1 h
  ·exact b0f k s _ s1 h
  ·exact b0f k s _ s1 h
  ·exact b0f k s r s1 h
end
end
