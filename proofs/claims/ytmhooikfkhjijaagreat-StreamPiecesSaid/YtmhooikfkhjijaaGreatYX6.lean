/- P. Its conditions: none. -/
import Derived.Test.YtmhooikfkhjijaaGreatYX5
open Nat (le_refl)
set_option linter.all false
namespace Go.X
open Go.V Go.RowKit
section
variable {E:Env}
def c0q {D:Nat->Type}{t u:U}{x:Den D t}{y:Den D u}(h:d0m t u x=some y):∃e:t=u,e▸x=y:=by
 unfold d0m at h;split at h
 ·rename_i e;simp at h;exact⟨e,h⟩
 ·cases h
def L9 {D:Nat->Type}{t u:U}{x:List (Den D t)}{y:List (Den D u)}(h:B9 t u x=some y):∃e:t=u,e▸x=y:=by
 unfold B9 at h;split at h
 ·rename_i e;simp at h;exact⟨e,h⟩
 ·cases h
section
variable {ρ:Nat->Value}{n:Nat}{H:K0}{S:D0}{s:St E.D}
def VC.d0h {t:U}{x:Den E.D t}{c:List Value}(h:VC E ρ n H S (.d t x) c):(J0 E t).R H S c x:=by unfold VC at h;exact h
def s0o (o:∀id,X3 E ρ n H S (E0 s id) (ρ id)){r:TD E}(q:∀(t:U) (m:List (V E.D)) (x:Den E.D t) (c:List Value),r.M t m=some x->N0 E ρ n H S m c->(J0 E t).R H S c x)
  {t:U} {v:V E.D} {x:Den E.D t} {c:List Value} (h:d0a E s r t v=some x) (d:VC E ρ n H S v c):∃u,c=[u]/\PtR (J0 E t) H S u x:=by
 unfold d0a at h;split at h
 ·obtain⟨e,h⟩:=c0q h;subst e;subst h;unfold VC at d;exact d
 ·obtain⟨e,h⟩:=c0q h;subst e;subst h;exact d.d0h
 ·rename_i id;split at h<;>try cases h
  rename_i T cs hl;unfold VC at d;obtain⟨_,_,b,k,rfl⟩:=d;have:=o id;rw[hl]at this;obtain⟨b',cc,g,l,f,_,i⟩:=this;obtain rfl:b=b':=by rw[g]at k;simpa[hd,eq_comm]using k
  refine⟨_,rfl,b,0,cc,rfl,getElem?_lt l,i,q _ _ _ _ h f,fun j u p=>?_⟩;unfold U2;rw[l];simpa using p
 ·cases h
def y08 {e:IntKind}{v:V E.D}{x:Int}{c:List Value}(h:e0l e v=some x)(d:VC E ρ n H S v c):c=[.int e x]:=by
 unfold e0l at h;split at h<;>try cases h
 rename_i f y b;split at h<;>try cases h
 rename_i he;have he:=of_decide_eq_true he;subst he;cases v<;>simp only[L5]at b<;>try cases b
 ·unfold VC at d;exact d
 ·rename_i t z;cases t<;>simp only[L5]at b<;>try cases b
  exact d.d0h
def x0u {v:V E.D}{x:Bool}{c:List Value}(h:V6 v=some x)(b:VC E ρ n H S v c):c=[.bool x]:=by
 cases v<;>simp only[V6]at h<;>try cases h
 ·unfold VC at b;exact b
 ·rename_i t z;cases t<;>simp only[V6]at h<;>try cases h
  exact b.d0h
def C09 (d:∀id,X3 E ρ n H S (E0 s id) (ρ id)){t:U}{v:V E.D}{x:List (Den E.D t)}{c:List Value}(h:d0O E s t v=some x)(b:VC E ρ n H S v c):(J0 E (.list t)).R H S c x:=by
 unfold d0O at h;split at h
 ·cases h;unfold VC at b;subst b;exact⟨none,0,rfl,Sl.nil⟩
 ·obtain⟨e,h⟩:=L9 h;subst e;subst h;exact b.d0h
 ·rename_i id;split at h<;>try cases h
  rename_i g xs hl;obtain⟨e,h⟩:=L9 h;subst e;subst h;unfold VC at b;obtain⟨_,_,rfl⟩:=b;have:=d id;rw[hl]at this;obtain⟨A',c',h1,f⟩:=this;exact⟨A',c',by rw[h1],f⟩
 ·cases h
def h0O (E:Env)(ρ:Nat->Value)(n:Nat)(H:K0)(S:D0)(r:TD E):Prop:=
  (∀(t:U) (v:V E.D) (x:Den E.D t) (c:List Value),r.D t v=some x->VC E ρ n H S v c->(J0 E t).R H S c x)/\
  (∀(t:U) (m:List (V E.D)) (x:Den E.D t) (c:List Value),r.M t m=some x->N0 E ρ n H S m c->(J0 E t).R H S c x)/\
  (∀(ts:List U) (l q:List (V E.D)) (h:HL E.D ts) (c:List Value),r.F ts l=some (h,q)->N0 E ρ n H S l c->∃c1 c2,c=c1++c2/\(a0r E ts).R H S c1 h/\N0 E ρ n H S q c2)/\
  (∀(t:U) (m:Nat) (l q:List (V E.D)) (xs:List (Den E.D t)) (c:List Value),r.A t m l=some (xs,q)->N0 E ρ n H S l c->∃c1 c2,c=c1++c2/\xs.length=m/\U1 (J0 E t) H S c1 xs/\N0 E ρ n H S q c2)
def f0z {D:Nat->Type}{v:V D}{t:U}{x:Den D t}(h:unD v=some ⟨t,x⟩):v=.d t x:=by
 cases v<;>simp[unD]at h
 obtain⟨rfl,h⟩:=h;have h:=eq_of_heq h;subst h;rfl
def j0u {D:Nat->Type}{v:V D}{l:List (V D)}(h:e0W v=some l):v=.agg l:=by
 cases v<;>simp[e0W]at h
 subst h;rfl
def q0r {D:Nat->Type}{v:V D}(h:o0I v=true):v=.nilp:=by
 cases v<;>simp[o0I]at h
 rfl
def s0t {α β:Type}{x:α}:∀{o:Option (α×List β)},e01 o=some x->o=some (x,[])
 |none,h=>by simp[e01]at h
 |some (y,[]),h=>by simp[e01]at h;rw[h]
 |some (y,_ :: _),h=>by simp[e01]at h
def w0U (g:Q1 E){r:TD E}(j:h0O E ρ n H S r){i:Nat}{v:V E.D}{x:E.D i}{c:List Value}(h:e0y E r i v=some x)(b:VC E ρ n H S v c):(J0 E (.st i)).R H S c x:=by
 unfold e0y at h;split at h
 ·rename_i hd;obtain rfl:=f0z hd;obtain⟨e,h⟩:=c0q h;subst e;subst h;exact b.d0h
 ·split at h<;>try cases h
  rename_i l hl;obtain rfl:=j0u hl;split at h<;>try cases h
  rename_i k d;have d:=s0t d;unfold VC at b;obtain⟨c1,c2,rfl,h1,f⟩:=j.2.2.1 _ _ _ _ _ d b;unfold N0 at f;subst f;rw[List.append_nil];refine(g.st i H S c1 _).2 ?_;rw[g.unmk];exact h1
def A0H {r:TD E}(f:h0O E ρ n H S r){m:Nat}{t:U}{v:V E.D}{x:List (Den E.D t)}{c:List Value}(h:d0P E r m t v=some x)(b:VC E ρ n H S v c):(J0 E (.arr m t)).R H S c x:=by
 unfold d0P at h;split at h
 ·rename_i hd;obtain rfl:=f0z hd;obtain⟨e,h⟩:=c0q h;subst e;subst h;exact b.d0h
 ·split at h<;>try cases h
  rename_i l hl;obtain rfl:=j0u hl;have g:=s0t h;unfold VC at b;obtain⟨c1,c2,rfl,h1,i,d⟩:=f.2.2.2 _ _ _ _ _ _ g b;unfold N0 at d;subst d;rw[List.append_nil];exact⟨h1,i⟩
def x0Y (d:∀id,X3 E ρ n H S (E0 s id) (ρ id)){r:TD E}(f:h0O E ρ n H S r){t:U}{v:V E.D}{x:Option (Den E.D t)}{c:List Value}(h:d0C E s r t v=some x)(b:VC E ρ n H S v c):(J0 E (.opt t)).R H S c x:=by
 unfold d0C at h;split at h
 ·rename_i hn;obtain rfl:=q0r hn;simp only[Option.some.injEq]at h;subst h;unfold VC at b;exact⟨_,b,rfl⟩
 ·split at h
  ·rename_i hd;obtain rfl:=f0z hd;obtain⟨e,h⟩:=c0q h;subst e;subst h;exact b.d0h
  ·split at h
   ·rename_i y g;simp only[Option.some.injEq]at h;subst h;obtain⟨u,hu,hp⟩:=s0o d f.2.1 g b;exact⟨u,hu,hp⟩
   ·cases h
def C0w {v:V E.D}{x:ByteArray}{c:List Value}(h:d0J v=some x)(b:VC E ρ n H S v c):(J0 E .str).R H S c x:=by
 unfold d0J at h;split at h
 ·rename_i y;obtain rfl:y=x:=Option.some.inj h;exact b.d0h
 ·cases h
def z0w (g:Q1 E)(e:∀id,X3 E ρ n H S (E0 s id) (ρ id)){r:TD E}(d:h0O E ρ n H S r):∀(t:U) (v:V E.D) (x:Den E.D t) (c:List Value),k0x E s r t v=some x->VC E ρ n H S v c->(J0 E t).R H S c x
 |.int f,v,x,c,h,b=>y08 (show e0l f v=some x from h) b
 |.bool,v,x,c,h,b=>x0u (show V6 v=some x from h) b
 |.str,v,x,c,h,b=>C0w (show d0J v=some x from h) b
 |.list t,v,x,c,h,b=>C09 e (show d0O E s t v=some x from h) b
 |.st i,v,x,c,h,b=>w0U g d (show e0y E r i v=some x from h) b
 |.arr m t,v,x,c,h,b=>A0H d (show d0P E r m t v=some x from h) b
 |.ptr t,v,x,c,h,b=>s0o e d.2.1 (show d0a E s r t v=some x from h) b
 |.opt t,v,x,c,h,b=>x0Y e d (show d0C E s r t v=some x from h) b
def z0T (d:Q1 E)(p:∀id,X3 E ρ n H S (E0 s id) (ρ id)):∀k:Nat,h0O E ρ n H S (td E s k):=by
 intro k
 induction k with
 |zero=>exact⟨(fun _ _ _ _ h=>by cases h),(fun _ _ _ _ h=>by cases h),(fun _ _ _ _ _ h=>by cases h),(fun _ _ _ _ _ _ h=>by cases h)⟩
 |succ k ih=>
  refine⟨z0w d p ih,fun t m x c h hm=>?_,fun ts l r j c h hl=>?_,fun t m l r xs c h hl=>?_⟩
  ·replace h:o0r E (td E s k) t m=some x:=h;unfold o0r at h;split at h<;>try cases h
   rename_i v ha;exact ih.1 _ _ _ _ h (f0Y d ha hm).1
  ·replace h:m0A E (td E s k) ts l=some (j,r):=h;unfold m0A at h;split at h
   ·simp only[Option.some.injEq,Prod.mk.injEq]at h;obtain⟨rfl,rfl⟩:=h;exact⟨[],c,rfl,rfl,hl⟩
   ·split at h<;>try cases h
    rename_i m r' e;split at h<;>try cases h
    rename_i x y f i;obtain⟨c1,c2,rfl,_,hm,b⟩:=b0g d _ _ _ _ _ e c hl;obtain⟨d1,d2,rfl,h1,g⟩:=ih.2.2.1 _ _ _ _ _ i b;exact⟨c1++d1,d2,by simp,⟨c1,d1,rfl,ih.2.1 _ _ _ _ f hm,h1⟩,g⟩
  ·replace h:n0l E (td E s k) t m l=some (xs,r):=h;unfold n0l at h;split at h
   ·simp only[Option.some.injEq,Prod.mk.injEq]at h;obtain⟨rfl,rfl⟩:=h;exact⟨[],c,rfl,rfl,U1.nil,hl⟩
   ·split at h<;>try cases h
    rename_i q r' e;split at h<;>try cases h
    rename_i x o f i;obtain⟨c1,c2,rfl,_,hm,b⟩:=b0g d _ _ _ _ _ e c hl;obtain⟨d1,d2,rfl,h1,g,u⟩:=ih.2.2.2 _ _ _ _ _ _ i b;refine⟨c1++d1,d2,by simp,by simp[h1],?_,u⟩;exact(U1.one (ih.2.1 _ _ _ _ f hm)).append g
def h0c (e:Q1 E)(b:∀id,X3 E ρ n H S (E0 s id) (ρ id)){k:Nat}{t:U}{v:V E.D}{x:Den E.D t}{c:List Value}(h:toD E s k t v=some x)(d:VC E ρ n H S v c):(J0 E t).R H S c x:=(z0T e b k).1 _ _ _ _ h d
end
section
variable {A:O4}{s s1:St E.D}{ρ:Nat->Value}{S:D0}{a:Act}{as:List Act}{w:World}
structure Ext {D:Nat->Type}(s s1:St D):Prop where
 n:s1.n=s.n
 fr:∃l,s1.fr=l++s.fr
 th:∃l,s1.th=l++s.th
 stk:s1.stk=s.stk
 nid:s.nid<=s1.nid
def Ext.refl {D:Nat->Type}(s:St D):Ext s s:=⟨rfl,⟨[],rfl⟩,⟨[],rfl⟩,rfl,le_refl _⟩
def Ext.trans {D:Nat->Type}{s s1 s2:St D}(h:Ext s s1)(k:Ext s1 s2):Ext s s2:=by
 obtain⟨l,hl⟩:=h.fr;obtain⟨l',c⟩:=k.fr;obtain⟨m,hm⟩:=h.th;obtain⟨d,b⟩:=k.th;exact⟨k.n.trans h.n,⟨l'++l,by rw[c,hl,List.append_assoc]⟩,⟨d++m,by rw[b,hm,List.append_assoc]⟩,k.stk.trans h.stk,Nat.le_trans h.nid k.nid⟩
def Ext.at {D:Nat->Type}(s:St D)(id:Nat)(x:Th D):Ext s (s.at id x):=⟨rfl,⟨[],rfl⟩,⟨[(id,x)],rfl⟩,rfl,le_refl _⟩
def Ext.new {D:Nat->Type}(s:St D)(x:Th D):Ext s (s.new x):=⟨rfl,⟨[],rfl⟩,⟨[(s.nid,x)],rfl⟩,rfl,Nat.le_succ _⟩
def Ext.put {D:Nat->Type}(s:St D)(d:Option Nat)(v:V D):Ext s (s.put d v):=by
 cases d with
 |none=>exact Ext.refl s
 |some t=>exact⟨rfl,⟨[(t,v)],rfl⟩,⟨[],rfl⟩,rfl,le_refl _⟩
def Rp.freeze (h:Rp E A s ρ S a as w){id:Nat}{x:Th E.D}(p:P1 (E0 s id)=true)(v:P1 x=false)(hg:x≠.gone)
  (I:∀S1:D0,(∀k,S1 k->S k)->(∀k,Bk (ρ id) k->¬S1 k)->X3 E ρ s.nid w.heap S1 (E0 s id) (ρ id)->X3 E ρ s.nid w.heap S1 x (ρ id)) (J:∀q i f,x≠.rof q i f:=by intros;simp):
  ∃S1,(∀k,S1 k->S k)/\Rp E A (s.at id x) ρ S1 a as w:=by
 have hk:U0 w.heap S w.heap (fun k=>S k/\¬Bk (ρ id) k):=U0.less fun _ h=>h.1;have a1:id<s.nid:=h.F7 (by rintro e;rw[e]at p;cases p);have hl:∀j,E0 { s with th:=(id,x) :: s.th,nid:=s.nid } j=if id=j then x else E0 s j:=fun j=>G8 s id j x;have c:∀j,j≠id->j<s.nid->b0o s { s with th:=(id,x) :: s.th,nid:=s.nid } ρ ρ (fun k=>S k/\¬Bk (ρ id) k) w w j:=fun j U l=>
  ⟨by rw[hl,if_neg (Ne.symm U)],l,rfl,fun d k g=>⟨rfl,(h.ow j d k g).1,fun e2=>h.dj id j (Ne.symm U) p d k e2 g⟩⟩
 refine⟨fun k=>S k/\¬Bk (ρ id) k,fun _ h=>h.1,h.step (nid1:=s.nid) (th1:=(id,x) :: s.th) ⟨⟨h.cx.bel,fun b u=>⟨h.cx.sub b u,fun e=>(h.ow id p b e).2.1 u⟩,fun b u=>h.cx.lt b u.1,h.cx.lt0⟩,hk,fun _ _=>rfl,le_refl _⟩ (fun j=>?_) fun r q i f o e F t xs R=>?_⟩
 ·by_cases e:id=j
  ·subst e;refine .inr ⟨?_,fun z=>?_,fun z=>by omega⟩
   ·rw[hl,if_pos rfl];exact I _ (fun _ h=>h.1) (fun k g h=>h.2 g) ((h.th id).mono (fun _ _=>rfl) (le_refl _) hk (fun _ _ _=>rfl))
   ·rw[hl,if_pos rfl,v]at z;cases z
  ·by_cases l:j<s.nid
   ·exact .inl (c j (fun h=>e h.symm) l)
   ·rw[hl,if_neg e];refine .inr ⟨?_,fun d=>?_,fun _=>h.lt j (by omega)⟩
    ·rw[h.lt j (by omega)];trivial
    ·rw[h.lt j (by omega)]at d;cases d
 ·rw[hl]at o;split at o
  ·exact absurd o (J q i f)
  ·rename_i y;have C:=h.b0T o;rw[hl]at R;split at R
   ·rw[R]at v;cases v
   ·rename_i m;exact .inl ⟨c r (Ne.symm y) (h.F7 (by rw[o];simp)),c q (Ne.symm m) C⟩
def i0P {t:U}{H:K0}{S:D0}{e:Nat}{v:Value}{xs:List (Den E.D t)}{cs:List Value}(b:Row H e (J0 E t).sz v xs.length cs)(f:U1 (J0 E t) H S cs xs)(hn:∀k,D1 v=some k->¬S k):
  ∃A' c,v=.slice A' xs.length c/\Sl (J0 E t) H S A' c xs:=by
 obtain⟨o,b⟩:=b;rcases b with⟨p,a,rfl⟩|⟨g,cap,cur,rfl,hp,hg,hnc,hmx,hsz,htk⟩
 ·have:xs=[]:=List.eq_nil_of_length_eq_zero p;subst this;exact⟨a,0,rfl,le_refl _,fun h=>absurd rfl h,fun i x l=>by simp at l⟩
 ·refine⟨some ⟨g,0,none⟩,cap,rfl,hnc,fun _=>⟨g,0,rfl,getElem?_lt hg,hn g (e0I hp)⟩,fun i x l=>⟨g,0,_,rfl,f.2 i x l,fun j v d=>?_⟩⟩;have hi:i<xs.length:=(List.getElem?_eq_some_iff.1 l).1;have m:j<(J0 E t).sz:=by
   rcases Nat.lt_or_ge j (J0 E t).sz with h|h
   ·exact h
   ·rw[List.getElem?_eq_none (by simp;omega)]at d;cases d
  rw[List.getElem?_take_of_lt m,List.getElem?_drop]at d;unfold U2;rw[hg];simp only;rw[<-htk]at d;have hle:i*(J0 E t).sz+(J0 E t).sz<=xs.length*(J0 E t).sz:=by rw[<-Nat.succ_mul];exact Nat.mul_le_mul_right _ hi
  rw[List.getElem?_take_of_lt (by omega)]at d;rw[Nat.zero_add];simpa using d
def q0h {H:K0}{S:D0}:∀(l:List U) (h:HL E.D l) (M0:List Value),b0v l=true->M0.length=l.length->
  (∀f u (y:List (Den E.D u)),N5 l h f=some ⟨.list u,y⟩->∃r A' c,M0[f]?=some r/\r=.slice A' y.length c/\Sl (J0 E u) H S A' c y)->(a0r E l).R H S M0 h
 |[],_,M0,_,hl,_=>by
  have:M0=[]:=List.eq_nil_of_length_eq_zero (by simpa using hl);subst this;rfl
 |t :: l,h,[],_,hl,_=>by simp at hl
 |t :: l,h,v :: M0,hb,hl,hr=>by
  simp only[b0v,Bool.and_eq_true]at hb;obtain⟨b,e⟩:=hb;cases t<;>simp only[g02,Bool.false_eq_true]at b
  rename_i u;obtain⟨r,A',c,h1,o,j⟩:=hr 0 u h.1 rfl;simp only[List.getElem?_cons_zero,Option.some.injEq]at h1;subst h1;refine⟨[v],M0,rfl,⟨A',c,by rw[o],j⟩,q0h l h.2 M0 e (by simpa using hl) fun f w y k=>?_⟩;obtain⟨r',d,c',i,g,m⟩:=hr (f+1) w y k;exact⟨r',d,c',by simpa using i,g,m⟩
def H8.els (hE:Q1 E){H:K0}{S S1:D0}{e:Nat}{F:List Nat}{t:U}{xs:List (Den E.D t)}{v:Value}{cs:List Value}(h:H8 E H S e F t xs none v cs)(hs:∀k,S1 k->S k)(hn:∀k,Bk v k->¬S1 k):U1 (J0 E t) H S1 cs xs:=by
 refine⟨h.row.1,fun i x R=>?_⟩;have hi:i<xs.length:=(List.getElem?_eq_some_iff.1 R).1;obtain⟨C,J⟩:=d0v h.ok;have g:=h.sz;have hle:i*F.length+F.length<=cs.length:=by rw[g,<-Nat.succ_mul];exact Nat.mul_le_mul_right _ hi
 rw[C];have hlen:((cs.drop (i*F.length)).take F.length).length=F.length:=by rw[List.length_take,List.length_drop];omega
 have key:∀f u (y:List (Den E.D u)),f<F.length->V3 E t x f=some ⟨u,y⟩->∃r A' c,((cs.drop (i*F.length)).take F.length)[f]?=some r/\r=.slice A' y.length c/\Sl (J0 E u) H S1 A' c y:=by
  intro f u y d p;obtain⟨r,h1,a1,q,I⟩:=h.rows i x f u y _ R p (List.getElem?_eq_getElem d) (by simp);have h8:=d0I (o:=none) d (by simp) h1 (by simp);rw[<-h.tl]at h8;obtain⟨A',c,z,h5⟩:=i0P q (I.L1 (U0.less hs)) fun k hk=>hn k (Bk.tl (List.mem_of_getElem? h8) hk);exact⟨r,A',c,by rw[List.getElem?_take_of_lt d,List.getElem?_drop];exact h1,z,h5⟩
 have m:=h.ok;simp only[l9,Bool.and_eq_true,Nat.beq_eq]at m;obtain⟨⟨_,b⟩,hk⟩:=m;cases t<;>simp only at hk<;>try cases hk
 ·rename_i u _;have h1:F.length=1:=b;obtain⟨r,A',c,q,I,z⟩:=key 0 u x (by omega) rfl;refine⟨A',c,?_,z⟩;rw[<-I];refine List.ext_getElem? fun j=>?_;cases j with
  |zero=>exact q
  |succ j=>rw[List.getElem?_eq_none (by rw[hlen];omega),List.getElem?_eq_none (by simp)]
 ·rename_i k _;refine(hE.st k H S1 _ x).2 (q0h _ _ _ hk (by rw[hlen];exact b) fun f u y p=>?_);refine key f u y ?_ (show c0v _=_ by rw[p];rfl);rcases Nat.lt_or_ge f F.length with h9|h9
  ·exact h9
  ·have b:F.length=(E.fs k).length:=b;have:∀(l:List U) (h:HL E.D l) (f:Nat),l.length<=f->N5 l h f=none:=by
    intro l
    induction l with
    |nil=>intro h f _;rfl
    |cons t l ih=>
     intro h f d;cases f with
     |zero=>simp at d
     |succ f=>exact ih h.2 f (by simpa using d)
   rw[this _ _ _ (by omega)]at p;cases p
def a0a (g:Q1 E):∀(k:Nat) (s:St E.D) (l:List (V E.D)) (s1:St E.D),b7 E k s l=some s1->∀(S:D0),Rp E A s ρ S a as w->∃S1,(∀k,S1 k->S k)/\Rp E A s1 ρ S1 a as w/\Ext s s1/\s1.fr=s.fr/\s1.nid=s.nid
 |0,s,l,s1,h=>by simp[b7]at h
 |k+1,s,[],s1,h=>by
  intro S f;simp only[b7,Option.some.injEq]at h;subst h;exact⟨S,fun _ h=>h,f,Ext.refl s,rfl,rfl⟩
 |k+1,s,v :: r,s1,h=>by
  intro S f;simp only[b7]at h;split at h
  ·rename_i id;split at h<;>try cases h
   ·rename_i e t xs hl;obtain⟨S1,h1,j⟩:=f.freeze (id:=id) (x:=.fz t xs) (by rw[hl];rfl) rfl (by simp) (by
     intro S1 R hn d;rw[hl]at d;obtain⟨cs,i,u⟩:=d;obtain⟨_,_,e1⟩:=Row.form i;have:=i0P i u (fun k hk=>hn k (by rw[e1]at hk ⊢;exact hk));obtain⟨A',c,h1,j⟩:=this;exact⟨A',c,by rw[h1];rfl,j⟩)
    obtain⟨J,I,C,o,q,y⟩:=a0a g k _ r s1 h _ j;exact⟨J,fun b m=>h1 b (I b m),C,(Ext.at s id _).trans o,q,y⟩
   ·exact a0a g k _ r s1 h _ f
   ·rename_i e F t xs hl;obtain⟨S1,h1,j⟩:=f.freeze (id:=id) (x:=.fz t xs) (by rw[hl];rfl) rfl (by simp) (by
     intro S1 R hn d;have d:=f.th id;rw[hl]at d;obtain⟨cs,d⟩:=d;exact i0P d.row (d.els g R hn) fun k hk=>hn k (Bk.hd hk))
    obtain⟨J,I,C,o,q,y⟩:=a0a g k _ r s1 h _ j;exact⟨J,fun b m=>h1 b (I b m),C,(Ext.at s id _).trans o,q,y⟩
  ·rename_i id;split at h<;>try cases h
   ·rename_i T cs hl;split at h<;>try cases h
    rename_i s2 hf;obtain⟨J,I,C,o,q,y⟩:=a0a g k _ cs s2 hf _ f;split at h<;>try cases h
    rename_i T' a1 z;obtain⟨S1,h1,j⟩:=C.freeze (id:=id) (x:=.fzb T' a1) (by rw[z];rfl) rfl (by simp) (by
     intro S1 R hn d;rw[z]at d;obtain⟨b,cc,hv,m,b1,p⟩:=d;exact⟨b,cc,hv,m,b1,p,hn b (by rw[hv];rfl)⟩)
    obtain⟨S3,h8,h9,b2,b3,U⟩:=a0a g k _ r s1 h _ j;exact⟨S3,fun b m=>I b (h1 b (h8 b m)),h9,(o.trans (Ext.at s2 id _)).trans b2,b3.trans q,U.trans y⟩
   ·exact a0a g k _ r s1 h _ f
  ·exact a0a g k _ _ s1 h _ f
  ·exact a0a g k _ _ s1 h _ f
  ·exact a0a g k _ _ s1 h _ f
def a0R:∀(k:Nat) (s:St E.D) (l:List (V E.D)) (s1:St E.D),b7 E k s l=some s1->∀id,P1 (E0 s1 id)=true->E0 s id=E0 s1 id
 |0,s,l,s1,h=>by simp[b7]at h
 |k+1,s,[],s1,h=>by
  simp only[b7,Option.some.injEq]at h;subst h;exact fun _ _=>rfl
 |k+1,s,v :: r,s1,h=>by
  have at_:∀(d:St E.D) (i:Nat) (x:Th E.D),P1 x=false->∀id,(∀id,P1 (E0 s1 id)=true->E0 (d.at i x) id=E0 s1 id)->P1 (E0 s1 id)=true->E0 d id=E0 s1 id:=by
   intro d i x m id g e;have c:=g id e;rw[G8]at c;split at c
   ·rw[<-c,m]at e;cases e
   ·exact c
  simp only[b7]at h;split at h
  ·rename_i id;split at h<;>try cases h
   ·exact fun j b=>at_ s id _ (by rfl) j (a0R k _ r s1 h) b
   ·exact a0R k s r s1 h
   ·exact fun j b=>at_ s id _ (by rfl) j (a0R k _ r s1 h) b
  ·rename_i id;split at h<;>try cases h
   ·split at h<;>try cases h
    rename_i s2 c;split at h<;>try cases h
    intro j b;have f:=at_ s2 id _ (by rfl) j (a0R k _ r s1 h) b;have o:=a0R k s _ s2 c j (by rw[f];exact b);exact o.trans f
   ·exact a0R k s r s1 h
  ·exact a0R k s _ s1 h
  ·exact a0R k s _ s1 h
  ·exact a0R k s r s1 h
end
end
