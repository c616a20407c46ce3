/- P. Its conditions: none. -/
import Derived.Test.YtmhooikfkhjijaaGreatYAp
import Derived.Test.YtmhooikfkhjijaaGreatYG02
import Derived.ProofKit
import Derived.SizedLaws
import Derived.Carry
import Derived.OpenShut
set_option linter.all false
set_option maxRecDepth 100000
namespace Go.Proofs.YtmhooikfkhjijaaGreat
open Go.RowKit Go.Proofs
open Go.V hiding Row
open Go.X
def v06 {E:Env}{H:K0}{S:D0}{cs:List Value}{y:List Int}(he:U1 (J0 E (.int .i64)) H S cs y){i:Nat}(hi:i<y.length):cs[i]?=some (.int .i64 (y.getD i 0)):=by
 have h1:=he.2 i (y.getD i 0) (by rw[show y.getD i 0=y[i]from by simp[List.getD,hi]];exact List.getElem?_eq_getElem hi);have h1:(cs.drop (i*1)).take 1=[.int .i64 (y.getD i 0)]:=h1;rw[Nat.mul_one]at h1;have:=congrArg (fun l=>l[0]?) h1;simpa using this
def w0m {E:Env}{H:K0}{S:D0}{cs:List Value}{y:List Int}(hl:cs.length=y.length)(h:∀i,i<y.length->cs[i]?=some (.int .i64 (y.getD i 0))):U1 (J0 E (.int .i64)) H S cs y:=by
 refine⟨by rw[hl];exact(Nat.mul_one _).symm,fun i (x:Int) hx=>?_⟩;have hi:i<y.length:=(List.getElem?_eq_some_iff.1 hx).1;have d:y.getD i 0=x:=by
  have b:@Eq (Option Int) y[i]? (some x):=hx;rw[List.getD_eq_getElem?_getD,b];rfl
 have c:=h i hi;rw[d]at c;show(cs.drop (i*1)).take 1=[.int .i64 x];rw[Nat.mul_one];have a:i<cs.length:=by omega
 rw[List.drop_eq_getElem_cons a];rw[List.getElem?_eq_getElem a]at c;rw[Option.some.inj c];rfl
def x02 {F:Nat}(h:C1 en (r0U F)){w:World}{S:D0}{l y:List Int}{c:List Value}(hm:h0D F l=some y)(hl:(J0 en (.list (.int .i64))).R w.heap S c l)(hS:∀b,S b->b<w.heap.size):
  Calls en.P 130 #[H4 false c] w fun e w1=>∃v,e=.returned v/\(∃ao cap,v=.slice ao y.length cap)/\l8 w v y w1/\(∀k,D1 v=some k->w.heap.size<=k)/\∀k,k<w.heap.size->w1.heap[k]?=w.heap[k]?:=by
 have z:I3 en w.heap S [.d (.list (.int .i64))] l [H4 false c] []:=by
  refine e0i (x:=.d (.list (.int .i64))) (r:=[]) ⟨c,H4 false c,[],[],[],rfl,rfl,rfl,?_,d0N⟩;unfold SR;exact⟨rfl,hl⟩
 refine(h w S [H4 false c] [] l y hm z hS (by rintro b ⟨v,C,_⟩;simp at C) (by intro i j v v' _ C;simp at C)).mono ?_
 rintro e w1 ⟨v,S1,pl1,rfl,n,hb,hk,hs1,hs2,hap,hbl⟩
 have n:I3 en w1.heap S1 [.own 3 (.int .i64)] y [v] pl1:=n;unfold I3 at n;obtain⟨c1,u,b2,p1,p2,e0,rfl,e1,h1,p⟩:=n;cases e0;obtain⟨_,rfl⟩:=d04 p;unfold SR at h1;obtain⟨v1,cs,rfl,rfl,h5,m,s⟩:=h1;have e1:v=v1:=e1;subst e1;have f:∀k,k<w.heap.size->w1.heap[k]?=w.heap[k]?:=fun k hk=>hb.block k hk (by rintro⟨v,C,_⟩;simp at C);have J:∀k,D1 v=some k->w.heap.size<=k:=fun k hk=>by
  have b1:Bk v k:=by
   obtain⟨A,cc,I⟩:=Row.form m;rw[I]at hk ⊢;exact hk
  rcases(hbl k ⟨v,by simp,b1⟩).2 with⟨v2,U,_⟩|h
  ·simp at U
  ·exact h
 refine⟨v,rfl,Row.form m,⟨hb.os,hb.tape,hb.output,hb.size,fun k hk _=>f k hk,?_⟩,J,f⟩;obtain⟨h0,⟨h1,a,rfl⟩|⟨g,cap,cur,rfl,hc,hg,hn,a1,hz,ht⟩⟩:=m
 ·exact .inl ⟨List.eq_nil_of_length_eq_zero h1,a,rfl⟩
 ·obtain⟨o,rfl⟩:∃q,cap=q+1:=⟨cap-1,by omega⟩
  refine .inr ⟨g,o,cur,rfl,hg,?_,hn,a1,fun i hi=>?_⟩
  ·have hz:cur.size=(o+1)*1:=hz;omega
  ·have p:=v06 s hi;have hl:(cur.toList.take (y.length*1))=cs:=ht;rw[Nat.mul_one]at hl;have p:cs[i]?=some (.int .i64 (y.getD i 0)):=p;rw[<-hl,List.getElem?_take_of_lt hi]at p;rw[<-p];simp
def x06 {H:K0}{S:D0}{c:List Value}{marks:List G2}(h:(J0 en (.list (.st 16))).R H S c marks):∃A cc,c=[.slice A marks.length cc]/\(marks≠[]->∃b o,A=some ⟨b,o,none⟩/\b<H.size/\∀k:Nat,k<marks.length->U2 H b (o+k*2)=some (.int .i64 (gt marks (k:Int)).Kind)/\U2 H b (o+k*2+1)=some (.int .i64 (gt marks (k:Int)).Group)):=by
 obtain⟨A,cc,rfl,d⟩:=(show(E3 (J0 en (.st 16))).R H S c marks from h)
 refine⟨A,cc,rfl,fun i=>?_⟩;obtain⟨b,o,rfl,m,_⟩:=d.2.1 i;refine⟨b,o,rfl,m,fun k hk=>?_⟩;have hg:marks[k]?=some (gt marks (k:Int)):=by rw[B4 (x:=marks[k]) (by simp[hk])];simp[hk]
 obtain⟨b',q,cs,e,hR,a⟩:=d.2.2 k (show G2 from gt marks (k:Int)) hg;cases e;have l:cs=[.int .i64 (gt marks (k:Int)).Kind,.int .i64 (gt marks (k:Int)).Group]:=by
  have p:=(o0j 16 H S cs (show G2 from gt marks (k:Int))).1 hR;obtain⟨c1,c2,rfl,f,c3,n,rfl,j,g⟩:=p;have f:c1=[.int .i64 (gt marks (k:Int)).Kind]:=f;have j:c3=[.int .i64 (gt marks (k:Int)).Group]:=j;have g:n=[]:=g;rw[f,j,g];rfl
 subst l;exact⟨a 0 _ rfl,a 1 _ rfl⟩
def x0z {w:World}{S:D0}{us pl:List Value}{x:S4 en.D [.d (.list (.int .i64)),.d (.list (.st 16)),.d (.int .i64),.d (.int .i64)]}(f:I3 en w.heap S [.d (.list (.int .i64)),.d (.list (.st 16)),.d (.int .i64),.d (.int .i64)] x us pl):
  pl=[]/\∃c c2,us=[H4 false c,H4 false c2,.int .i64 (show Int from x.2.2.1),.int .i64 (show Int from x.2.2.2)]/\(J0 en (.list (.int .i64))).R w.heap S c x.1/\(J0 en (.list (.st 16))).R w.heap S c2 x.2.1:=by
 skip
 unfold I3 at f;obtain⟨c,u,r,p1,U,rfl,rfl,k,h1,m⟩:=f;unfold I3 at m;obtain⟨c2,y,p,p3,J,rfl,rfl,j,g,n⟩:=m;unfold I3 at n;obtain⟨c3,q,z,I,p6,rfl,rfl,h,a,l⟩:=n;unfold I3 at l;obtain⟨v,s,o,p7,p8,rfl,rfl,i,b,C⟩:=l;obtain⟨rfl,rfl⟩:=d04 C;unfold SR at h1 g a b;obtain⟨rfl,h1⟩:=h1;obtain⟨rfl,g⟩:=g;obtain⟨rfl,a⟩:=a;obtain⟨rfl,b⟩:=b;have a:c3=[.int .i64 (show Int from x.2.2.1)]:=a;have b:v=[.int .i64 (show Int from x.2.2.2)]:=b;subst a;subst b;have k:u=H4 false c:=k;have j:y=H4 false c2:=j;have h:q=.int .i64 (show Int from x.2.2.1):=h;have i:s=.int .i64 (show Int from x.2.2.2):=i;subst k;subst j;subst h;subst i;exact⟨rfl,c,c2,rfl,h1,g⟩
def A0M (F:Nat)(f:C1 en (r0U F))(w:World)(S:D0)(c c2:List Value)(tags:List Int)(marks:List G2)(now nn:Int)(y:List Int)(hm:d0i F tags marks now nn=some y)
  (h1:(J0 en (.list (.int .i64))).R w.heap S c tags) (l:(J0 en (.list (.st 16))).R w.heap S c2 marks) (j:∀b,S b->b<w.heap.size):
  Calls Tryz.prog 107 #[H4 false c,H4 false c2,.int .i64 now,.int .i64 nn] w fun e w1=>∃v,e=.returned v/\l8 w v y w1/\(∀k,D1 v=some k->w.heap.size<=k)/\∀k,k<w.heap.size->w1.heap[k]?=w.heap[k]?:=by
 obtain⟨A,cc,rfl,g⟩:=x06 l;unfold d0i at hm;split at hm
 rotate_left
 ·cases hm
 rename_i a;cases hm;simp only[Bool.and_eq_true,decide_eq_true_eq]at a;obtain⟨d,m⟩:=a;have h:tags.length<=20000000000000:=by simp[I0]at d;omega
 have i:h0D F tags=some tags:=by unfold h0D;rw[if_pos d]
 exact w0i (H4 false c) tags marks now nn A cc w (x02 f i h1 j) g (by omega) h
def x0a {w W:World}{v:Value}{o:List Int}(h:l8 w v o W){E:Env}{S:D0}:∃cs,Row W.heap 3 1 v o.length cs/\U1 (J0 E (.int .i64)) W.heap S cs o/\∃a c,v=.slice a o.length c:=by
 rcases h.own with⟨rfl,a,rfl⟩|⟨g,cap,cur,rfl,hg,hs,hn,hm,hc⟩
 ·exact⟨[],⟨rfl,.inl ⟨rfl,a,rfl⟩⟩,U1.nil,a,0,rfl⟩
 ·refine⟨cur.toList.take o.length,⟨by simp;omega,.inr ⟨g,cap+1,cur,rfl,by omega,hg,hn,hm,by omega,by rw[Nat.mul_one]⟩⟩,w0m (by simp;omega) (fun i hi=>?_),_,_,rfl⟩;rw[List.getElem?_take_of_lt hi];simpa using hc i hi
def C0D (F:Nat)(m:C1 en (r0U F)):C1 en (g0T F):=by
 intro w S us pl x y hm s u I J;obtain⟨rfl,c,c2,rfl,h1,p⟩:=x0z s;refine(A0M F m w S c c2 x.1 x.2.1 x.2.2.1 x.2.2.2 y hm h1 p u).mono ?_
 rintro e w1 ⟨v,rfl,hI,hge,hbl⟩
 obtain⟨cs,d,g,a,cc,C⟩:=x0a (E:=en) (S:=fun k=>S k\/D1 v=some k) hI;have l:∀k,Bk v k->D1 v=some k:=fun k hk=>by rw[C]at hk ⊢;exact hk
 have f:v.oneCell'=true:=by rw[C];rfl
 refine⟨v,fun k=>S k\/D1 v=some k,[v],rfl,?_,⟨hI.os,hI.tape,hI.output,hI.size,fun k hk _=>hbl k hk⟩,⟨hI.size,fun b n hn=>⟨fun h=>h.elim hn (fun h=>by have:=hge b h;omega),hbl b n⟩⟩,fun b h _=>.inl h,fun b h=>?_,?_,?_⟩
 ·refine e0i (x:=.own 3 (.int .i64)) (r:=[]) ⟨[v],v,[],[v],[],rfl,rfl,rfl,?_,d0N⟩;unfold SR;exact⟨v,cs,rfl,rfl,f,d,g⟩
 ·rcases h with h|h
  ·exact Nat.lt_of_lt_of_le (u b h) hI.size
  ·exact d.live b h
 ·intro i j v1 v2 o h1 p;have e:∀{q:Nat} {z:Value},[v][q]?=some z->q=0:=fun {q z} h=>by
   cases q with
   |zero=>rfl
   |succ q=>simp at h
  exact absurd ((e h1).trans (e p).symm) o
 ·rintro b ⟨v1,hv1,hb1⟩
  simp only[List.mem_singleton]at hv1;subst hv1;exact⟨.inr (l b hb1),.inr (hge b (l b hb1))⟩
end Go.Proofs.YtmhooikfkhjijaaGreat
namespace Go.V
open Go.RowKit Go.ChangeShapes Go.WideShapes Go.ChangeAt
def Z5 (k:IntKind)(x:Int):Prop:=k.min<=x/\x<=k.max
structure Rd (P:Program)(t:TypeId){α:Type}(T:Ty α)(wf:α->Prop):Prop where
 get:∀{H:Type} {enc:TypeId×Value->H} {W:World} {sp:Nat->Bool} {held:Bool} {fuel:Nat} {cs:List Value} {d:DataW H} {ps:List MemPlace},
  DataW.trod enc P W 0 sp held fuel t cs=some (d,ps)->(∀p∈ps,p.block<W.heap.size)->∃x,T.R W.heap Q5 cs x/\wf x
section
variable {P:Program}{t e:TypeId}
def Rd.int {k:IntKind}(a:P.underlying t=some (.int k)):Rd P t (C2 k) (Z5 k):=⟨by
 intro H enc W sp held fuel cs d ps h _;cases fuel with
 |zero=>simp[DataW.trod]at h
 |succ f=>
  simp only[DataW.trod,a]at h;split at h<;>simp_all
  obtain⟨⟨rfl,hw⟩,_⟩:=h;simp only[Lit.wf,Bool.and_eq_true,decide_eq_true_eq]at hw;exact⟨_,rfl,hw⟩⟩
def Rd.bool (a:P.underlying t=some .bool):Rd P t b0E (fun _=>True):=⟨fun h _=>by
 obtain⟨b,rfl,_⟩:=DataW.trod_bool a h;exact⟨b,rfl,trivial⟩⟩
def s0W {α β:Type}{f:α->Option β}:∀{l:List α} {r:List β},l.mapM f=some r->l.length=r.length/\∀(i:Nat) (x:α),l[i]?=some x->∃y,r[i]?=some y/\f x=some y
 |[],r,h=>by simp at h;subst h;simp
 |x :: xs,r,h=>by
  rw[List.mapM_cons]at h;cases b:f x with
  |none=>simp[b]at h
  |some y=>
   cases a:xs.mapM f with
   |none=>simp[b,a]at h
   |some ys=>
    simp[b,a]at h;subst h;obtain⟨h1,d⟩:=s0W a;refine⟨by simp[h1],fun i z c=>?_⟩;cases i with
    |zero=>simp at c;subst c;exact⟨y,rfl,b⟩
    |succ i=>simpa using d i z (by simpa using c)
def cells?_get {W:World}{base:Nat}{a:Addr}{n:Nat}{cs:List Value}(h:W.cells? base a n=some cs):cs.length=n/\∀(j:Nat) (v:Value),cs[j]?=some v->W.cell? (a.add j)=some v:=by
 unfold World.cells? at h;split at h
 ·obtain⟨h1,f⟩:=s0W h;simp at h1;refine⟨h1.symm,fun j v b=>?_⟩;have hl:j<n:=by
   rcases Nat.lt_or_ge j n with h|h
   ·exact h
   ·rw[List.getElem?_eq_none (by omega)]at b;cases b
  obtain⟨y,d,c⟩:=f j j (by simp[hl]);rw[d]at b;cases b;exact c
 ·cases h
def o0b {α:Type}{Q:Nat->α->Prop}:∀(n:Nat),(∀i,i<n->∃x,Q i x)->∃xs:List α,xs.length=n/\∀(i:Nat) (x:α),xs[i]?=some x->Q i x
 |0,_=>⟨[],rfl,fun i x h=>by simp at h⟩
 |n+1,h=>by
  obtain⟨xs,hl,a⟩:=o0b n (fun i hi=>h i (by omega));obtain⟨y,b⟩:=h n (by omega);refine⟨xs++[y],by simp[hl],fun i x hi=>?_⟩;rcases Nat.lt_or_ge i xs.length with h1|h1
  ·rw[List.getElem?_append_left h1]at hi;exact a i x hi
  ·rw[List.getElem?_append_right h1]at hi;have:i-xs.length=0:=by
    rcases Nat.eq_zero_or_pos (i-xs.length)with h|h
    ·exact h
    ·rw[List.getElem?_eq_none (by simp;omega)]at hi;cases hi
   rw[this]at hi;simp at hi;subst hi;have:i=n:=by omega
   subst this;exact b
def Rd.slice {α:Type}{T:Ty α}{wf:α->Prop}(ht:P.underlying t=some (.slice e))(hE:P.cellsOf e=T.sz)(C:0<T.sz)(R:Rd P e T wf):Rd P t (E3 T) (fun l=>∀x∈l,wf x):=⟨by
 intro H enc W sp held fuel cs d ps h hp;rcases DataW.trod_slice ht h with⟨rfl,_⟩|⟨a,len,cap,elems,rest,f,rfl,rfl,k,_,hle,_,hel,hget,_,_⟩
 ·exact⟨[],⟨none,0,rfl,Sl.nil⟩,by simp⟩
 ·cases k;have m:∀j,j<len*P.cellsOf e->MemPlace.cell a.block (a.off+j)∈MemPlace.row a ((elems.length+rest.length)*P.cellsOf e):=fun j I=>MemPlace.mem_row.2 ⟨j,Nat.lt_of_lt_of_le I (Nat.mul_le_mul_right _ (by omega)),rfl⟩;have key:∀i,i<len->∃x,(∃cs,T.R W.heap Q5 cs x/\∀j v,cs[j]?=some v->W.cell? ((a.add (i*P.cellsOf e)).add j)=some v)/\wf x:=fun i hi=>by
   have z:=hget i hi;rw[List.getElem?_eq_getElem (by omega)]at z;simp only[Option.bind_eq_some_iff]at z;obtain⟨cs,y,u⟩:=z;obtain⟨x,k,hw⟩:=R.get u (fun p w=>hp p (by
    simp only[List.mem_append,List.mem_flatMap];exact .inr ⟨_,.inl (List.getElem_mem _),w⟩))
   exact⟨x,⟨cs,k,(cells?_get y).2⟩,hw⟩
  obtain⟨xs,n,q⟩:=o0b len key;have g:xs≠[]->∃b o,a=⟨b,o,none⟩/\b<W.heap.size:=fun c=>by
   have U:0<len:=by
    rcases Nat.eq_zero_or_pos len with h|h
    ·exact absurd (List.eq_nil_of_length_eq_zero (n.trans h)) c
    ·exact h
   obtain⟨x,⟨⟨cs,hR,r⟩,_⟩⟩:=key 0 U;have s:=T.len hR;have h1:=r 0 cs[0] (by simp[s,C]);obtain⟨b,o,spot⟩:=a;have:spot=none:=by
    have:=World.cell?_spot h1;simpa[Addr.add]using this
   subst this;refine⟨b,o,rfl,?_⟩;have:=hp (.cell b (o+0)) (by
    simp only[List.mem_append];exact .inl (m 0 (Nat.mul_pos U (by omega))))
   exact this
  subst n;refine⟨xs,⟨some a,cap,rfl,hle,fun c=>?_,fun i x k=>?_⟩,fun x k=>?_⟩
  ·obtain⟨b,o,rfl,J⟩:=g c;exact⟨b,o,rfl,J,fun h=>h⟩
  ·have c:xs≠[]:=by rintro rfl;simp at k
   obtain⟨b,o,rfl,J⟩:=g c;obtain⟨⟨cs,hR,r⟩,_⟩:=q i x k;refine⟨b,o,cs,rfl,hR,fun j v I=>?_⟩;have:=r j v I;rw[D0A,hE]at this;exact this
  ·obtain⟨i,hi⟩:=List.getElem?_of_mem k;exact(q i x hi).2⟩
def v0g {H:Type}{enc:TypeId×Value->H}{W:World}{sp:Nat->Bool}{held:Bool}{fuel:Nat}{cs:List Value}{d:DataW H}{ps:List MemPlace}{fs:Array Field}(j:P.underlying t=some (.struct fs))
  (h:DataW.trod enc P W 0 sp held fuel t cs=some (d,ps)) (hp:∀p∈ps,p.block<W.heap.size):
  cs.length=P.cellsOf t/\∀(i:Nat) (f:Field),fs[i]?=some f->∃n l a,DataW.trod enc P W 0 sp held n f.type ((cs.drop f.offset).take (P.cellsOf f.type))=some (l,a)/\∀p∈a,p.block<W.heap.size:=by
 obtain⟨xs,n,rfl,k,hl,m,b⟩:=DataW.trod_struct j h;cases k;refine⟨hl,fun i f g=>?_⟩;have hi:i<fs.size:=by
  rcases Nat.lt_or_ge i fs.size with h|h
  ·exact h
  ·rw[Array.getElem?_eq_none h]at g;cases g
 have:=b i f g;rw[List.getElem?_eq_getElem (by omega)]at this;exact⟨n,_,_,this,fun p c=>hp p (List.mem_flatMap.2 ⟨_,List.getElem_mem _,c⟩)⟩
def Rd.field {α:Type}{T:Ty α}{wf:α->Prop}{f:Field}{H:Type}{enc:TypeId×Value->H}{W:World}{sp:Nat->Bool}{held:Bool}{cs:List Value}(R:Rd P f.type T wf)
  (h:∃n b a,DataW.trod enc P W 0 sp held n f.type ((cs.drop f.offset).take (P.cellsOf f.type))=some (b,a)/\∀p∈a,p.block<W.heap.size):
  ∃x,T.R W.heap Q5 ((cs.drop f.offset).take (P.cellsOf f.type)) x/\wf x:=by
 obtain⟨n,b,a,h1,c⟩:=h;exact R.get h1 c
def s0b {H:Type}{enc:TypeId×Value->H}(hl:laidOutB P=true){W f:World}(g:Below W.heap.size W f):∀{ts:List TypeId} {vs:List Value} {c:List (DataW H)} {ps:List MemPlace},
  (ts.all fun t=>P.readableRec t&&decide (t<P.types.size))=true->DataW.TrodAll enc P W 0 (fun _=>true) true ts vs c ps->(∀x∈ps,x.block<W.heap.size)->DataW.TrodAll enc P f 0 (fun b=>decide (b<W.heap.size)) true ts vs c ps
 |[],[],[],_,_,h,_=>h
 |[],[],_ :: _,_,_,h,_=>h.elim
 |[],_ :: _,_,_,_,h,_=>h.elim
 |_ :: _,[],_,_,_,h,_=>h.elim
 |_ :: _,_ :: _,[],_,_,h,_=>h.elim
 |t :: ts,v :: vs,d :: c,ps,hr,⟨p,q,h1,h2,e⟩,hp=>by
  simp only[List.all_cons,Bool.and_eq_true,decide_eq_true_eq]at hr;subst e;exact⟨p,q,Below.trod hl hr.1.1 hr.1.2 h1 g (fun x a=>hp x (List.mem_append_left _ a)),s0b hl g hr.2 h2 (fun x a=>hp x (List.mem_append_right _ a)),rfl⟩
def C0X {C:Checked}{os:Os}{f:FuncId}{fn:Func}{s:ChangeSpec}{tb:TypeId}{H:Type}{enc:TypeId×Value->H}(own:ownKnob C.prog.godebug=none)(started:os.Started)(b:C.prog.inits.idxOf? f=none)(z:C.prog.funcs[f]?=some fn)(hl:laidOutB C.prog=true)
  (m:fn.resultTypes=#[tb]) (r:C.prog.underlying tb=some .bool) (d:s.vars=[]) (c:(fn.params.toList.all fun t=>C.prog.readableRec t&&decide (t<C.prog.types.size))=true)
  (witness:∃(w:World) (tape:Tape) (i:Input),w.os=os/\(w.forCall tape i).Shaped C.prog/\i.vars=[]/\Input.okWide C.prog (w.forCall tape i) .any w.heap.size f i/\
   s.pre6 enc C.prog fn [] false (w.forCall tape i).memory i.args/\({}:Assume).holds C.prog (lone (Frame.enter C.prog f i.args .normal) [] (w.forCall tape i)))
  (g:∀(W:World) (args:Array Value) (a:List (DataW H)) (p:List MemPlace),DataW.TrodAll enc C.prog W 0 (fun _=>true) true fn.params.toList args.toList a p->(s.fn H (a++[])).results=[.lit (.bool true)]/\(s.fn H (a++[])).args=a/\(s.fn H (a++[])).vars=[])
  (body:∀(W:World) (base:Nat) (args:Array Value) (a:List (DataW H)) (p:List MemPlace),(∀(j:Nat) t v,fn.params[j]?=some t->args[j]?=some v->Value.okWide C.prog W .any base t v)->
   DataW.TrodAll enc C.prog W 0 (fun _=>true) true fn.params.toList args.toList a p->(∀x∈p,x.block<W.heap.size)->(DataW.weightsEach C.prog fn.params.toList a).all (·<=reachBytes)=true->
   Calls C.prog f args W fun e J=>e=.returned (.bool true)/\Below W.heap.size W J):
  ReturnsInHanded {} C os f .any (s.pre6 enc C.prog fn [] false) (s.post enc C.prog fn false true false false):=by
 refine returnsInHanded_of_change_sized own started b z witness ?_;intro W base args a gs before k I _ o _;have n:=I;obtain⟨p,q,y,R,rfl,_,_⟩:=I;rw[d]at R;obtain⟨rfl,rfl⟩:=trodVars_none R;have l:∀x∈p,x.block<W.heap.size:=fun x U=>by simpa using n.lt x (List.mem_append_left _ U)
 have u:s.plain.varTypes C.prog=[]:=by unfold ChangeSpec.plain;simp[DataSpec.varTypes,d]
 rw[u,List.append_nil,List.append_nil]at o;refine(body W base args a p k y l o).mono fun e J ⟨he,hb⟩=>?_;subst he;obtain⟨s1,s2,s3⟩:=g W args a p y;refine⟨_,rfl,a,[],p++[],[],p,[],n,?_,?_,?_,hb.frame _,fun h=>by cases h⟩
 ·rw[s1,m];exact trodAll_cons_mk (shut_bool r _) trodAll_mk0
 ·rw[s2];exact s0b hl hb c y l
 ·rw[s3,d];rfl
def E0a {H:Type}{enc:TypeId×Value->H}{W:World}{fuel n c:Nat}{A:Option Addr}{d:DataW H}{ps:List MemPlace}{ts:List TypeId}{i:List (DataW H)}{j:Nat}(g:P.underlying t=some (.slice e))
  (h:DataW.trod enc P W 0 (fun _=>true) true fuel t (Value.slice A n c).cells.toList=some (d,ps)) (b:(DataW.weightsEach P ts i).all (·<=reachBytes)=true) (k:ts[j]?=some t) (hd:i[j]?=some d):n*P.bytesOf e<=140737488351232:=by
 rcases DataW.trod_slice g h with⟨he,_⟩|⟨a,len,cap,elems,rest,f,rfl,he,hx,_,hle,_,hel,hget,_,_⟩
 ·simp[Value.cells]at he;rw[he.2.1];omega
 ·cases hx;simp[Value.cells]at he;have:=sized_slice b k hd g;simp only[List.length_map,hel]at this;have m:n*P.bytesOf e<=(len+rest.length)*P.bytesOf e:=Nat.mul_le_mul_right _ (by omega);have l:reachBytes=140737488351232:=rfl;omega
end
