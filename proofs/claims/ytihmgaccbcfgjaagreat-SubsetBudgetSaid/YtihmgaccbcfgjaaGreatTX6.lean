/- P. Its conditions: none. -/
import Derived.Test.YtihmgaccbcfgjaaGreatTX5
open Nat (le_refl)
set_option linter.all false
namespace Go.X
open Go.V Go.RowKit
section
variable {E:Env}
def c0D {D:Nat->Type}{t u:U}{x:Den D t}{y:Den D u}(h:d0i t u x=some y):∃e:t=u,e▸x=y:=by
 unfold d0i at h;split at h
 ·rename_i e;simp at h;exact⟨e,h⟩
 ·cases h
def a0u {D:Nat->Type}{t u:U}{x:List (Den D t)}{y:List (Den D u)}(h:N9 t u x=some y):∃e:t=u,e▸x=y:=by
 unfold N9 at h;split at h
 ·rename_i e;simp at h;exact⟨e,h⟩
 ·cases h
section
variable {ρ:Nat->Value}{n:Nat}{H:I0}{S:D0}{s:St E.D}
def VC.d0Q {t:U}{x:Den E.D t}{c:List Value}(h:VC E ρ n H S (.d t x) c):(J0 E t).R H S c x:=by unfold VC at h;exact h
def q07 (p:∀id,K3 E ρ n H S (F0 s id) (ρ id)){r:TD E}(y:∀(t:U) (m:List (V E.D)) (x:Den E.D t) (c:List Value),r.M t m=some x->T0 E ρ n H S m c->(J0 E t).R H S c x)
  {t:U} {v:V E.D} {x:Den E.D t} {c:List Value} (h:d0I E s r t v=some x) (d:VC E ρ n H S v c):∃u,c=[u]/\PtR (J0 E t) H S u x:=by
 unfold d0I at h;split at h
 ·obtain⟨e,h⟩:=c0D h;subst e;subst h;unfold VC at d;exact d
 ·obtain⟨e,h⟩:=c0D h;subst e;subst h;exact d.d0Q
 ·rename_i id;split at h<;>try cases h
  rename_i T cs hl;unfold VC at d;obtain⟨_,_,b,k,rfl⟩:=d;have:=p id;rw[hl]at this;obtain⟨b',q,g,l,f,_,i⟩:=this;obtain rfl:b=b':=by rw[g]at k;simpa[hd,eq_comm]using k
  refine⟨_,rfl,b,0,q,rfl,getElem?_lt l,i,y _ _ _ _ h f,fun j u o=>?_⟩;unfold O1;rw[l];simpa using o
 ·cases h
def z0e {e:IntKind}{v:V E.D}{x:Int}{c:List Value}(h:d04 e v=some x)(d:VC E ρ n H S v c):c=[.int e x]:=by
 unfold d04 at h;split at h<;>try cases h
 rename_i f y b;split at h<;>try cases h
 rename_i he;have he:=of_decide_eq_true he;subst he;cases v<;>simp only[B5]at b<;>try cases b
 ·unfold VC at d;exact d
 ·rename_i t z;cases t<;>simp only[B5]at b<;>try cases b
  exact d.d0Q
def y00 {v:V E.D}{x:Bool}{c:List Value}(h:G6 v=some x)(b:VC E ρ n H S v c):c=[.bool x]:=by
 cases v<;>simp only[G6]at h<;>try cases h
 ·unfold VC at b;exact b
 ·rename_i t z;cases t<;>simp only[G6]at h<;>try cases h
  exact b.d0Q
def B0f (g:∀id,K3 E ρ n H S (F0 s id) (ρ id)){t:U}{v:V E.D}{x:List (Den E.D t)}{c:List Value}(h:e0J E s t v=some x)(b:VC E ρ n H S v c):(J0 E (.list t)).R H S c x:=by
 unfold e0J at h;split at h
 ·cases h;unfold VC at b;subst b;exact⟨none,0,rfl,Sl.nil⟩
 ·obtain⟨e,h⟩:=a0u h;subst e;subst h;exact b.d0Q
 ·rename_i id;split at h<;>try cases h
  rename_i i xs hl;obtain⟨e,h⟩:=a0u h;subst e;subst h;unfold VC at b;obtain⟨_,_,rfl⟩:=b;have:=g id;rw[hl]at this;obtain⟨f,c',h1,d⟩:=this;exact⟨f,c',by rw[h1],d⟩
 ·cases h
def i0I (E:Env)(ρ:Nat->Value)(n:Nat)(H:I0)(S:D0)(r:TD E):Prop:=
  (∀(t:U) (v:V E.D) (x:Den E.D t) (c:List Value),r.D t v=some x->VC E ρ n H S v c->(J0 E t).R H S c x)/\
  (∀(t:U) (m:List (V E.D)) (x:Den E.D t) (c:List Value),r.M t m=some x->T0 E ρ n H S m c->(J0 E t).R H S c x)/\
  (∀(ts:List U) (l q:List (V E.D)) (h:HL E.D ts) (c:List Value),r.F ts l=some (h,q)->T0 E ρ n H S l c->∃c1 c2,c=c1++c2/\(a0S E ts).R H S c1 h/\T0 E ρ n H S q c2)/\
  (∀(t:U) (m:Nat) (l q:List (V E.D)) (xs:List (Den E.D t)) (c:List Value),r.A t m l=some (xs,q)->T0 E ρ n H S l c->∃c1 c2,c=c1++c2/\xs.length=m/\R1 (J0 E t) H S c1 xs/\T0 E ρ n H S q c2)
def f0N {D:Nat->Type}{v:V D}{t:U}{x:Den D t}(h:unD v=some ⟨t,x⟩):v=.d t x:=by
 cases v<;>simp[unD]at h
 obtain⟨rfl,h⟩:=h;have h:=eq_of_heq h;subst h;rfl
def k0r {D:Nat->Type}{v:V D}{l:List (V D)}(h:d0X v=some l):v=.agg l:=by
 cases v<;>simp[d0X]at h
 subst h;rfl
def v0g {D:Nat->Type}{v:V D}(h:o0n v=true):v=.nilp:=by
 cases v<;>simp[o0n]at h
 rfl
def u0H {α β:Type}{x:α}:∀{o:Option (α×List β)},f0C o=some x->o=some (x,[])
 |none,h=>by simp[f0C]at h
 |some (y,[]),h=>by simp[f0C]at h;rw[h]
 |some (y,_ :: _),h=>by simp[f0C]at h
def D0V (f:T1 E){r:TD E}(j:i0I E ρ n H S r){i:Nat}{v:V E.D}{x:E.D i}{c:List Value}(h:e01 E r i v=some x)(b:VC E ρ n H S v c):(J0 E (.st i)).R H S c x:=by
 unfold e01 at h;split at h
 ·rename_i hd;obtain rfl:=f0N hd;obtain⟨e,h⟩:=c0D h;subst e;subst h;exact b.d0Q
 ·split at h<;>try cases h
  rename_i l hl;obtain rfl:=k0r hl;split at h<;>try cases h
  rename_i k d;have d:=u0H d;unfold VC at b;obtain⟨c1,c2,rfl,h1,g⟩:=j.2.2.1 _ _ _ _ _ d b;unfold T0 at g;subst g;rw[List.append_nil];refine(f.st i H S c1 _).2 ?_;rw[f.unmk];exact h1
def G0r {r:TD E}(f:i0I E ρ n H S r){m:Nat}{t:U}{v:V E.D}{x:List (Den E.D t)}{c:List Value}(h:e0C E r m t v=some x)(b:VC E ρ n H S v c):(J0 E (.arr m t)).R H S c x:=by
 unfold e0C at h;split at h
 ·rename_i hd;obtain rfl:=f0N hd;obtain⟨e,h⟩:=c0D h;subst e;subst h;exact b.d0Q
 ·split at h<;>try cases h
  rename_i l hl;obtain rfl:=k0r hl;have i:=u0H h;unfold VC at b;obtain⟨c1,c2,rfl,h1,g,d⟩:=f.2.2.2 _ _ _ _ _ _ i b;unfold T0 at d;subst d;rw[List.append_nil];exact⟨h1,g⟩
def E0G (d:∀id,K3 E ρ n H S (F0 s id) (ρ id)){r:TD E}(g:i0I E ρ n H S r){t:U}{v:V E.D}{x:Option (Den E.D t)}{c:List Value}(h:e0N E s r t v=some x)(b:VC E ρ n H S v c):(J0 E (.opt t)).R H S c x:=by
 unfold e0N at h;split at h
 ·rename_i hn;obtain rfl:=v0g hn;simp only[Option.some.injEq]at h;subst h;unfold VC at b;exact⟨_,b,rfl⟩
 ·split at h
  ·rename_i hd;obtain rfl:=f0N hd;obtain⟨e,h⟩:=c0D h;subst e;subst h;exact b.d0Q
  ·split at h
   ·rename_i y f;simp only[Option.some.injEq]at h;subst h;obtain⟨u,hu,hp⟩:=q07 d g.2.1 f b;exact⟨u,hu,hp⟩
   ·cases h
def G0p {v:V E.D}{x:ByteArray}{c:List Value}(h:f0a v=some x)(b:VC E ρ n H S v c):(J0 E .str).R H S c x:=by
 unfold f0a at h;split at h
 ·rename_i y;obtain rfl:y=x:=Option.some.inj h;exact b.d0Q
 ·cases h
def y0q (f:T1 E)(e:∀id,K3 E ρ n H S (F0 s id) (ρ id)){r:TD E}(d:i0I E ρ n H S r):∀(t:U) (v:V E.D) (x:Den E.D t) (c:List Value),k0e E s r t v=some x->VC E ρ n H S v c->(J0 E t).R H S c x
 |.int g,v,x,c,h,b=>z0e (show d04 g v=some x from h) b
 |.bool,v,x,c,h,b=>y00 (show G6 v=some x from h) b
 |.str,v,x,c,h,b=>G0p (show f0a v=some x from h) b
 |.list t,v,x,c,h,b=>B0f e (show e0J E s t v=some x from h) b
 |.st i,v,x,c,h,b=>D0V f d (show e01 E r i v=some x from h) b
 |.arr m t,v,x,c,h,b=>G0r d (show e0C E r m t v=some x from h) b
 |.ptr t,v,x,c,h,b=>q07 e d.2.1 (show d0I E s r t v=some x from h) b
 |.opt t,v,x,c,h,b=>E0G e d (show e0N E s r t v=some x from h) b
def E0F (d:T1 E)(u:∀id,K3 E ρ n H S (F0 s id) (ρ id)):∀k:Nat,i0I E ρ n H S (td E s k):=by
 intro k
 induction k with
 |zero=>exact⟨(fun _ _ _ _ h=>by cases h),(fun _ _ _ _ h=>by cases h),(fun _ _ _ _ _ h=>by cases h),(fun _ _ _ _ _ _ h=>by cases h)⟩
 |succ k ih=>
  refine⟨y0q d u ih,fun t m x c h hm=>?_,fun ts l r p c h hl=>?_,fun t m l r xs c h hl=>?_⟩
  ·replace h:p0U E (td E s k) t m=some x:=h;unfold p0U at h;split at h<;>try cases h
   rename_i v ha;exact ih.1 _ _ _ _ h (f0x d ha hm).1
  ·replace h:p0Z E (td E s k) ts l=some (p,r):=h;unfold p0Z at h;split at h
   ·simp only[Option.some.injEq,Prod.mk.injEq]at h;obtain⟨rfl,rfl⟩:=h;exact⟨[],c,rfl,rfl,hl⟩
   ·split at h<;>try cases h
    rename_i m r' e;split at h<;>try cases h
    rename_i x y i f;obtain⟨c1,c2,rfl,_,hm,b⟩:=b0z d _ _ _ _ _ e c hl;obtain⟨d1,d2,rfl,h1,g⟩:=ih.2.2.1 _ _ _ _ _ f b;exact⟨c1++d1,d2,X',⟨c1,d1,rfl,ih.2.1 _ _ _ _ i hm,h1⟩,g⟩
  ·replace h:m0t E (td E s k) t m l=some (xs,r):=h;unfold m0t at h;split at h
   ·simp only[Option.some.injEq,Prod.mk.injEq]at h;obtain⟨rfl,rfl⟩:=h;exact⟨[],c,rfl,rfl,R1.nil,hl⟩
   ·split at h<;>try cases h
    rename_i q r' e;split at h<;>try cases h
    rename_i x o i f;obtain⟨c1,c2,rfl,_,hm,b⟩:=b0z d _ _ _ _ _ e c hl;obtain⟨d1,d2,rfl,h1,g,j⟩:=ih.2.2.2 _ _ _ _ _ _ f b;refine⟨c1++d1,d2,X',by simp[h1],?_,j⟩;exact(R1.one (ih.2.1 _ _ _ _ i hm)).append g
def g0J (d:T1 E)(e:∀id,K3 E ρ n H S (F0 s id) (ρ id)){k:Nat}{t:U}{v:V E.D}{x:Den E.D t}{c:List Value}(h:toD E s k t v=some x)(b:VC E ρ n H S v c):(J0 E t).R H S c x:=(E0F d e k).1 _ _ _ _ h b
end
section
variable {A:E4}{s s1:St E.D}{ρ:Nat->Value}{S:D0}{a:Act}{as:List Act}{w:World}
structure Ext {D:Nat->Type}(s s1:St D):Prop where
 n:s1.n=s.n
 fr:∃l,s1.fr=l++s.fr
 th:∃l,s1.th=l++s.th
 stk:s1.stk=s.stk
 nid:s.nid<=s1.nid
def Ext.refl {D:Nat->Type}(s:St D):Ext s s:=⟨rfl,⟨[],rfl⟩,⟨[],rfl⟩,rfl,le_refl _⟩
def Ext.trans {D:Nat->Type}{s s1 s2:St D}(h:Ext s s1)(k:Ext s1 s2):Ext s s2:=by
 obtain⟨l,hl⟩:=h.fr;obtain⟨l',c⟩:=k.fr;obtain⟨m,hm⟩:=h.th;obtain⟨d,b⟩:=k.th;exact⟨k.n.trans h.n,⟨l'++l,by rw[c,hl,List.append_assoc]⟩,⟨d++m,by rw[b,hm,List.append_assoc]⟩,k.stk.trans h.stk,Nat.le_trans h.nid k.nid⟩
def Ext.at {D:Nat->Type}(s:St D)(id:Nat)(x:Th D):Ext s (s.at id x):=⟨rfl,⟨[],rfl⟩,⟨[(id,x)],rfl⟩,rfl,le_refl _⟩
def Ext.new {D:Nat->Type}(s:St D)(x:Th D):Ext s (s.new x):=⟨rfl,⟨[],rfl⟩,⟨[(s.nid,x)],rfl⟩,rfl,Nat.le_succ _⟩
def Ext.put {D:Nat->Type}(s:St D)(d:Option Nat)(v:V D):Ext s (s.put d v):=by
 cases d with
 |none=>exact Ext.refl s
 |some t=>exact⟨rfl,⟨[(t,v)],rfl⟩,⟨[],rfl⟩,rfl,le_refl _⟩
def Rp.freeze (h:Rp E A s ρ S a as w){id:Nat}{x:Th E.D}(p:Q1 (F0 s id)=true)(I:Q1 x=false)(hg:x≠.gone)
  (J:∀S1:D0,(∀k,S1 k->S k)->(∀k,Bk (ρ id) k->¬S1 k)->K3 E ρ s.nid w.heap S1 (F0 s id) (ρ id)->K3 E ρ s.nid w.heap S1 x (ρ id)) (z:∀q i f,x≠.rof q i f:=by intros;simp):
  ∃S1,(∀k,S1 k->S k)/\Rp E A (s.at id x) ρ S1 a as w:=by
 have hk:P0 w.heap S w.heap (fun k=>S k/\¬Bk (ρ id) k):=P0.less fun _ h=>h.1;have a1:id<s.nid:=h.i7 (by rintro e;rw[e]at p;cases p);have hl:∀j,F0 { s with th:=(id,x) :: s.th,nid:=s.nid } j=if id=j then x else F0 s j:=fun j=>T8 s id j x;have c:∀j,j≠id->j<s.nid->b0V s { s with th:=(id,x) :: s.th,nid:=s.nid } ρ ρ (fun k=>S k/\¬Bk (ρ id) k) w w j:=fun j U l=>
  ⟨by rw[hl,if_neg (Ne.symm U)],l,rfl,fun d k g=>⟨rfl,(h.ow j d k g).1,fun e2=>h.dj id j (Ne.symm U) p d k e2 g⟩⟩
 refine⟨fun k=>S k/\¬Bk (ρ id) k,fun _ h=>h.1,h.step (nid1:=s.nid) (th1:=(id,x) :: s.th) ⟨⟨h.cx.bel,fun b u=>⟨h.cx.sub b u,fun e=>(h.ow id p b e).2.1 u⟩,fun b u=>h.cx.lt b u.1,h.cx.lt0⟩,hk,fun _ _=>rfl,le_refl _⟩ (fun j=>?_) fun r q i f o e F t xs R=>?_⟩
 ·by_cases e:id=j
  ·subst e;refine .inr ⟨?_,fun y=>?_,fun y=>O'⟩
   ·rw[hl,if_pos rfl];exact J _ (fun _ h=>h.1) (fun k g h=>h.2 g) ((h.th id).mono (fun _ _=>rfl) (le_refl _) hk (fun _ _ _=>rfl))
   ·rw[hl,if_pos rfl,I]at y;cases y
  ·by_cases l:j<s.nid
   ·exact .inl (c j (fun h=>e h.symm) l)
   ·rw[hl,if_neg e];refine .inr ⟨?_,fun d=>?_,fun _=>h.lt j O'⟩
    ·rw[h.lt j O'];trivial
    ·rw[h.lt j O']at d;cases d
 ·rw[hl]at o;split at o
  ·exact absurd o (z q i f)
  ·rename_i C;have v:=h.c0a o;rw[hl]at R;split at R
   ·rw[R]at I;cases I
   ·rename_i m;exact .inl ⟨c r (Ne.symm C) (h.i7 (by rw[o];simp)),c q (Ne.symm m) v⟩
def k0f {t:U}{H:I0}{S:D0}{e:Nat}{v:Value}{xs:List (Den E.D t)}{cs:List Value}(b:Row H e (J0 E t).sz v xs.length cs)(f:R1 (J0 E t) H S cs xs)(hn:∀k,B1 v=some k->¬S k):
  ∃o c,v=.slice o xs.length c/\Sl (J0 E t) H S o c xs:=by
 obtain⟨q,b⟩:=b;rcases b with⟨p,a,rfl⟩|⟨g,cap,cur,rfl,hp,hg,hnc,hmx,hsz,htk⟩
 ·have:xs=[]:=List.eq_nil_of_length_eq_zero p;subst this;exact⟨a,0,rfl,le_refl _,fun h=>absurd rfl h,fun i x l=>by simp at l⟩
 ·refine⟨some ⟨g,0,none⟩,cap,rfl,hnc,fun _=>⟨g,0,rfl,getElem?_lt hg,hn g (e0S hp)⟩,fun i x l=>⟨g,0,_,rfl,f.2 i x l,fun j v d=>?_⟩⟩;have hi:i<xs.length:=(List.getElem?_eq_some_iff.1 l).1;have m:j<(J0 E t).sz:=by
   rcases Nat.lt_or_ge j (J0 E t).sz with h|h
   ·exact h
   ·rw[List.getElem?_eq_none Z']at d;cases d
  rw[List.getElem?_take_of_lt m,List.getElem?_drop]at d;unfold O1;rw[hg];simp only;rw[<-htk]at d;have hle:i*(J0 E t).sz+(J0 E t).sz<=xs.length*(J0 E t).sz:=by rw[<-Nat.succ_mul];exact Nat.mul_le_mul_right _ hi
  rw[List.getElem?_take_of_lt O']at d;rw[Nat.zero_add];simpa using d
def w0G {H:I0}{S:D0}:∀(l:List U) (h:HL E.D l) (R0:List Value),b0B l=true->R0.length=l.length->
  (∀f u (y:List (Den E.D u)),I5 l h f=some ⟨.list u,y⟩->∃r b c,R0[f]?=some r/\r=.slice b y.length c/\Sl (J0 E u) H S b c y)->(a0S E l).R H S R0 h
 |[],_,R0,_,hl,_=>by
  have:R0=[]:=List.eq_nil_of_length_eq_zero (by simpa using hl);subst this;rfl
 |t :: l,h,[],_,hl,_=>by simp at hl
 |t :: l,h,v :: R0,hb,hl,hr=>by
  simp only[b0B,Bool.and_eq_true]at hb;obtain⟨e,g⟩:=hb;cases t<;>simp only[i0f,Bool.false_eq_true]at e
  rename_i u;obtain⟨r,b,c,h1,p,m⟩:=hr 0 u h.1 rfl;simp only[List.getElem?_cons_zero,Option.some.injEq]at h1;subst h1;refine⟨[v],R0,rfl,⟨b,c,by rw[p],m⟩,w0G l h.2 R0 g (by simpa using hl) fun f w y k=>?_⟩;obtain⟨r',d,c',i,j,o⟩:=hr (f+1) w y k;exact⟨r',d,c',by simpa using i,j,o⟩
def v7.els (hE:T1 E){H:I0}{S S1:D0}{e:Nat}{F:List Nat}{t:U}{xs:List (Den E.D t)}{v:Value}{cs:List Value}(h:v7 E H S e F t xs none v cs)(hs:∀k,S1 k->S k)(hn:∀k,Bk v k->¬S1 k):R1 (J0 E t) H S1 cs xs:=by
 refine⟨h.row.1,fun i x hx=>?_⟩;have hi:i<xs.length:=(List.getElem?_eq_some_iff.1 hx).1;obtain⟨z,a1⟩:=d0C h.ok;have m:=h.sz;have hle:i*F.length+F.length<=cs.length:=by rw[m,<-Nat.succ_mul];exact Nat.mul_le_mul_right _ hi
 rw[z];have hlen:((cs.drop (i*F.length)).take F.length).length=F.length:=by rw[List.length_take,List.length_drop];omega
 have key:∀f u (y:List (Den E.D u)),f<F.length->V2 E t x f=some ⟨u,y⟩->∃r g c,((cs.drop (i*F.length)).take F.length)[f]?=some r/\r=.slice g y.length c/\Sl (J0 E u) H S1 g c y:=by
  intro f u y d q;obtain⟨r,h1,b1,I,C⟩:=h.rows i x f u y _ hx q (List.getElem?_eq_getElem d) X';have R:=e0P (o:=none) d X' h1 X';rw[<-h.tl]at R;obtain⟨g,c,J,h5⟩:=k0f I (C.L0 (P0.less hs)) fun k hk=>hn k (Bk.tl (List.mem_of_getElem? R) hk);exact⟨r,g,c,by rw[List.getElem?_take_of_lt d,List.getElem?_drop];exact h1,J,h5⟩
 have p:=h.ok;simp only[C9,Bool.and_eq_true,Nat.beq_eq]at p;obtain⟨⟨_,b⟩,hk⟩:=p;cases t<;>simp only at hk<;>try cases hk
 ·rename_i u _;have h1:F.length=1:=b;obtain⟨r,g,c,I,C,J⟩:=key 0 u x O' rfl;refine⟨g,c,?_,J⟩;rw[<-C];refine List.ext_getElem? fun j=>?_;cases j with
  |zero=>exact I
  |succ j=>rw[List.getElem?_eq_none (by rw[hlen];omega),List.getElem?_eq_none X']
 ·rename_i k _;refine(hE.st k H S1 _ x).2 (w0G _ _ _ hk (by rw[hlen];exact b) fun f u y q=>?_);refine key f u y ?_ (show c0N _=_ by rw[q];rfl);rcases Nat.lt_or_ge f F.length with h9|h9
  ·exact h9
  ·have b:F.length=(E.fs k).length:=b;have:∀(l:List U) (h:HL E.D l) (f:Nat),l.length<=f->I5 l h f=none:=by
    intro l
    induction l with
    |nil=>intro h f _;rfl
    |cons t l ih=>
     intro h f d;cases f with
     |zero=>simp at d
     |succ f=>exact ih h.2 f (by simpa using d)
   rw[this _ _ _ O']at q;cases q
def a0g (g:T1 E):∀(k:Nat) (s:St E.D) (l:List (V E.D)) (s1:St E.D),T6 E k s l=some s1->∀(S:D0),Rp E A s ρ S a as w->∃S1,(∀k,S1 k->S k)/\Rp E A s1 ρ S1 a as w/\Ext s s1/\s1.fr=s.fr/\s1.nid=s.nid
 |0,s,l,s1,h=>by simp[T6]at h
 |k+1,s,[],s1,h=>by
  intro S f;simp only[T6,Option.some.injEq]at h;subst h;exact⟨S,fun _ h=>h,f,Ext.refl s,rfl,rfl⟩
 |k+1,s,v :: r,s1,h=>by
  intro S f;simp only[T6]at h;split at h
  ·rename_i id;split at h<;>try cases h
   ·rename_i e t xs hl;obtain⟨S1,h1,j⟩:=f.freeze (id:=id) (x:=.fz t xs) (by rw[hl];rfl) rfl X' (by
     intro S1 hs hn d;rw[hl]at d;obtain⟨cs,i,q⟩:=d;obtain⟨_,_,e1⟩:=Row.form i;have:=k0f i q (fun k hk=>hn k (by rw[e1]at hk ⊢;exact hk));obtain⟨A',c,h1,j⟩:=this;exact⟨A',c,by rw[h1];rfl,j⟩)
    obtain⟨J,p,C,o,u,z⟩:=a0g g k _ r s1 h _ j;exact⟨J,fun b m=>h1 b (p b m),C,(Ext.at s id _).trans o,u,z⟩
   ·exact a0g g k _ r s1 h _ f
   ·rename_i e F t xs hl;obtain⟨S1,h1,j⟩:=f.freeze (id:=id) (x:=.fz t xs) (by rw[hl];rfl) rfl X' (by
     intro S1 hs hn d;have d:=f.th id;rw[hl]at d;obtain⟨cs,d⟩:=d;exact k0f d.row (d.els g hs hn) fun k hk=>hn k (Bk.hd hk))
    obtain⟨J,p,C,o,u,z⟩:=a0g g k _ r s1 h _ j;exact⟨J,fun b m=>h1 b (p b m),C,(Ext.at s id _).trans o,u,z⟩
  ·rename_i id;split at h<;>try cases h
   ·rename_i T cs hl;split at h<;>try cases h
    rename_i s2 hf;obtain⟨J,p,C,o,u,z⟩:=a0g g k _ cs s2 hf _ f;split at h<;>try cases h
    rename_i T' U y;obtain⟨S1,h1,j⟩:=C.freeze (id:=id) (x:=.fzb T' U) (by rw[y];rfl) rfl X' (by
     intro S1 hs hn d;rw[y]at d;obtain⟨b,cc,hv,m,a1,I⟩:=d;exact⟨b,cc,hv,m,a1,I,hn b (by rw[hv];rfl)⟩)
    obtain⟨S3,h8,h9,b1,R,b2⟩:=a0g g k _ r s1 h _ j;exact⟨S3,fun b m=>p b (h1 b (h8 b m)),h9,(o.trans (Ext.at s2 id _)).trans b1,R.trans u,b2.trans z⟩
   ·exact a0g g k _ r s1 h _ f
  ·exact a0g g k _ _ s1 h _ f
  ·exact a0g g k _ _ s1 h _ f
  ·exact a0g g k _ _ s1 h _ f
def b0g:∀(k:Nat) (s:St E.D) (l:List (V E.D)) (s1:St E.D),T6 E k s l=some s1->∀id,Q1 (F0 s1 id)=true->F0 s id=F0 s1 id
 |0,s,l,s1,h=>by simp[T6]at h
 |k+1,s,[],s1,h=>by
  simp only[T6,Option.some.injEq]at h;subst h;exact fun _ _=>rfl
 |k+1,s,v :: r,s1,h=>by
  have at_:∀(e:St E.D) (i:Nat) (x:Th E.D),Q1 x=false->∀id,(∀id,Q1 (F0 s1 id)=true->F0 (e.at i x) id=F0 s1 id)->Q1 (F0 s1 id)=true->F0 e id=F0 s1 id:=by
   intro e i x m id o d;have c:=o id d;rw[T8]at c;split at c
   ·rw[<-c,m]at d;cases d
   ·exact c
  simp only[T6]at h;split at h
  ·rename_i id;split at h<;>try cases h
   ·exact fun j b=>at_ s id _ (by rfl) j (b0g k _ r s1 h) b
   ·exact b0g k s r s1 h
   ·exact fun j b=>at_ s id _ (by rfl) j (b0g k _ r s1 h) b
  ·rename_i id;split at h<;>try cases h
   ·split at h<;>try cases h
    rename_i s2 c;split at h<;>try cases h
    intro j b;have f:=at_ s2 id _ (by rfl) j (b0g k _ r s1 h) b;have g:=b0g k s _ s2 c j (by rw[f];exact b);exact g.trans f
   ·exact b0g k s r s1 h
  ·exact b0g k s _ s1 h
  ·exact b0g k s _ s1 h
  ·exact b0g k s r s1 h
end
end
