/- P. Its conditions: none. -/
import Derived.Test.YtmhooikfkhjijaaGreatYG01
import Derived.ArgAppend
import Derived.Laws.CopyRow
import Derived.Laws.IdiomCopy
import Derived.Lib.SlBytesConst
open Nat (le_trans min_eq_left le_total zero_add mul_one)
open List (length_append length_take length_drop take_zero)
set_option linter.all false
namespace Go.V
open Go.RowKit
section
variable {P:Program}{ops:Array Oper}{n:Nat}{Q:Exit->Act->World->Prop}{l:FL}{a:Act}{w:World}{o:Oper}{rest:List Oper}
def r0i {α:Type}{T:Ty α}{H:K0}{S:D0}{t e:TypeId}{lo hi mx:Option Value}{A:Option Addr}{c:Nat}{xs:List α}{vlo vhi vmx:Int}
  (ht:P.underlying t=some (.slice e)) (hE:(P.info? e).map (·.size)=some T.sz) (C:Sl T H S A c xs)
  (d:(match lo with|none=>vlo=0|some y=>∃k,y=.int k vlo)) (g:(match hi with|none=>vhi=xs.length/\mx=none|some y=>∃k,y=.int k vhi)) (f:(match mx with|none=>vmx=c|some y=>∃k,y=.int k vmx))
  (hk:I4 xs vlo vhi=true) (hm:(mx=none\/(vhi<=vmx/\vmx<=xs.length))):
  ∃R,(∀w,(Instr.sliceAt t (.slice A xs.length c) lo hi mx).run P w=.ok (.slice R (I1 xs vlo vhi).length (vmx-vlo).toNat) w)/\Sl T H S R (vmx-vlo).toNat (I1 xs vlo vhi):=by
 have p:=hk;simp only[I4,Bool.and_eq_true,decide_eq_true_eq]at p;obtain⟨⟨x,h1⟩,h2⟩:=p;have J:=C.1;obtain⟨inf,i,u⟩:=Option.map_eq_some_iff.1 hE;have a1:vhi<=vmx/\vmx<=c:=by
  cases mx with
  |none=>simp only at f;omega
  |some y=>
   rcases hm with hm|hm
   ·cases hm
   ·omega
 have hlen:=c04 hk;refine⟨if vmx.toNat=vlo.toNat then A else A.map (·.add (vlo.toNat*T.sz)),fun w=>?_,C.cut (m:=(vmx-vlo).toNat) (c':=(vmx-vlo).toNat) hk (by omega) ?_⟩
 ·have e1:vhi.toNat-vlo.toNat=(vhi-vlo).toNat:=by omega
  have U:vmx.toNat-vlo.toNat=(vmx-vlo).toNat:=by omega
  rw[hlen];unfold Instr.sliceAt Instr.slice;simp only[Sem.run_bind,run_underlying ht,Result.andThen_ok];have h:(Instr.sliceBounds true xs.length c lo hi mx).run P w=.ok (vlo.toNat,vhi.toNat,vmx.toNat) w:=by
   unfold Instr.sliceBounds;cases mx with
   |none=>
    simp only at f;cases hi with
    |none=>
     simp only at g;cases lo with
     |none=>simp only at d;subst d;simp[g.1,f]
     |some y=>
      obtain⟨k,rfl⟩:=d;have:=run_sliceBound (P:=P) (w:=w) k vlo xs.length .sliceB x (by omega);simp[g.1,f,this]
    |some z=>
     obtain⟨s,rfl⟩:=g;have j:=run_sliceBound (P:=P) (w:=w) s vhi c .sliceAcap (by omega) (by omega);cases lo with
     |none=>simp only at d;subst d;simp[f,j]
     |some y=>
      obtain⟨k,rfl⟩:=d;have v:=run_sliceBound (P:=P) (w:=w) k vlo vhi.toNat .sliceB x (by omega);simp[f,v,j]
   |some q=>
    obtain⟨k3,rfl⟩:=f;have I:=run_sliceBound (P:=P) (w:=w) k3 vmx c .slice3Acap (by omega) (by omega);cases hi with
    |none=>exact absurd g.2 (by simp)
    |some z=>
     obtain⟨s,rfl⟩:=g;have j:=run_sliceBound (P:=P) (w:=w) s vhi vmx.toNat .slice3B (by omega) (by omega);cases lo with
     |none=>simp only at d;subst d;simp[j,I]
     |some y=>
      obtain⟨k,rfl⟩:=d;have v:=run_sliceBound (P:=P) (w:=w) k vlo vhi.toNat .slice3C x (by omega);simp[v,j,I]
  simp only[h,Result.andThen_ok,sizeOf,typeInfo,Sem.run_bind];simp[i,u,e1,U]
 ·by_cases hz:vmx.toNat=vlo.toNat
  ·right;refine⟨by omega,List.eq_nil_of_length_eq_zero (by rw[hlen];omega)⟩
  ·left;rw[if_neg hz]
def p0n {t:TypeId}{x:Operand}{lo hi mx:Option Operand}{v:Value}(w:World)(c:o.op=.slice t x lo hi mx)
  (h:(Instr.sliceAt t (lk l x) (lo.map (lk l)) (hi.map (lk l)) (mx.map (lk l))).run P w=.ok v w):(execOp (lk l) o).run P w=.ok (.value v) w:=by
 simp[execOp,c,h]
def A0p {α:Type}{T:Ty α}{H:K0}{S M:D0}{t e:TypeId}{hi:Value}{A:Option Addr}{c:Nat}{xs:List α}{k:IntKind}{vhi:Int}(p:P.underlying t=some (.slice e))(u:(P.info? e).map (·.size)=some T.sz)
  (d:Ow T e M H S (.slice A xs.length c) xs) (hk:I4 xs 0 vhi=true) (h:hi=.int k vhi:=by rfl):
  (∀w,(Instr.sliceAt t (.slice A xs.length c) none (some hi) none).run P w=.ok (.slice A (I1 xs 0 vhi).length c) w)/\Ow T e M H S (.slice A (I1 xs 0 vhi).length c) (I1 xs 0 vhi):=by
 subst h;have g:=hk;simp only[I4,Bool.and_eq_true,decide_eq_true_eq]at g;obtain⟨⟨_,h1⟩,s⟩:=g;have j:=d.cap;have hlen:=c04 hk;obtain⟨inf,f,i⟩:=Option.map_eq_some_iff.1 u;refine⟨fun w=>?_,d.take h1 s⟩;have q:=run_sliceBound (P:=P) (w:=w) k vhi c .sliceAcap (by omega) (by omega);simp only[Instr.sliceAt,Instr.slice,Instr.sliceBounds,Sem.run_bind,run_underlying p,Result.andThen_ok];simp[q,sizeOf,typeInfo,f,i,hlen];cases A<;>simp[Addr.add]
def Pt {α:Type}(T:Ty α)(t:TypeId)(H:K0)(S:D0)(r:Option α)(v:Value):Prop:=
 match r with
 |none=>v=.pointer none
 |some x=>∃b cs,v=.pointer (some ⟨b,0,none⟩)/\Bx H S b t cs/\T.R H S cs x
def Pt.L1 {α:Type}{T:Ty α}{t:TypeId}{H H':K0}{S S':D0}{r:Option α}{v:Value}(k:U0 H S H' S')(h:Pt T t H S r v):Pt T t H' S' r v:=by
 cases r with
 |none=>exact h
 |some x=>obtain⟨b,cs,h1,d,c⟩:=h;exact⟨b,cs,h1,d.L1 k,T.L1 k c⟩
def Pt.get {α:Type}{T:Ty α}{t:TypeId}{H:K0}{S:D0}{r:Option α}{x:α}{v:Value}(h:Pt T t H S r v)(c:r=some x):∃b cs,v=.pointer (some ⟨b,0,none⟩)/\Bx H S b t cs/\T.R H S cs x:=by
 subst c;exact h
def Pt.none {α:Type}{T:Ty α}{t:TypeId}{H:K0}{S:D0}:Pt T t H S Option.none (.pointer Option.none):=rfl
def obl (vs:List Value):D0:=fun k=>∃v∈vs,v.ownBlock=some k
def inL (vs:List Value)(S:D0):D0:=fun k=>S k\/obl vs k
def all_cons {C:Nat->Prop}{v:Value}{vs:List Value}(h:∀k,v.ownBlock=some k->C k)(t:∀k,obl vs k->C k):∀k,obl (v :: vs) k->C k:=fun k ⟨u,hu,hk⟩=>by
 rcases List.mem_cons.1 hu with rfl|hu
 ·exact h k hk
 ·exact t k ⟨u,hu,hk⟩
def Mb.own {M:D0}{H:K0}{S:D0}{b:Nat}{t:TypeId}{cs:List Value}(h:Mb M H S b t cs):∀k,(bv b).ownBlock=some k->S k/\M k:=fun k hk=>by cases hk;exact h.2
def Mb.e0z {M M':D0}{H:K0}{S:D0}{b:Nat}{t:TypeId}{cs:List Value}(h:Mb M H S b t cs)(hm:∀k,(bv b).ownBlock=some k->M' k):Mb M' H S b t cs:=⟨h.1,h.2.1,hm b rfl⟩
def Ow.out {α:Type}{T:Ty α}{e:TypeId}{M:D0}{H:K0}{S S0:D0}{v:Value}{xs:List α}{vs:List Value}(h:Ow T e M H S v xs)(c:∀k,inL vs S0 k->S k)(d:∀k,v.ownBlock=some k->obl vs k):Ow T e M H (inL vs S0) v xs:=
 h.p0E c (fun b f=>.inr (d b f))
def Mb.out {M:D0}{H:K0}{S S0:D0}{b:Nat}{t:TypeId}{cs:List Value}{vs:List Value}(h:Mb M H S b t cs)(c:∀k,(bv b).ownBlock=some k->obl vs k):Mb M H (inL vs S0) b t cs:=⟨h.1,.inr (c b rfl),h.2.2⟩
def Q8.refl (W0:D0)(w:World):Q8 W0 w w:=⟨rfl,rfl,rfl,Nat.le_refl _,fun _ _ _=>rfl⟩
def back {w0 w w1:World}{W0 S0 S:D0}{us vs:List Value}(cx:Cx w0 W0 S0 w S)(hu:∀k,obl us k->S k/\Wr W0 w0 k)(d:Q8 (obl us) w w1)(g:∀k,obl vs k->k<w1.heap.size/\Wr (obl us) w k):
  Cx w0 W0 S0 w1 (inL vs S)/\U0 w.heap S w1.heap (inL vs S)/\(∀b,S b->inL vs S b)/\(∀k,k<w.heap.size->¬obl us k->w1.heap[k]?=w.heap[k]?):=by
 refine⟨⟨⟨d.os.trans cx.bel.os,d.tape.trans cx.bel.tape,d.output.trans cx.bel.output,le_trans cx.bel.size d.size,fun k hk c=>(d.block k (by have:=cx.size;omega) (fun e=>?_)).trans (cx.bel.block k hk c)⟩,fun b h=>.inl (cx.sub b h),fun b h=>h.elim (fun h=>Nat.lt_of_lt_of_le (cx.lt b h) d.size) (fun h=>(g b h).1),cx.lt0⟩,
  ⟨d.size,fun b h c=>⟨fun hi=>hi.elim c (fun i=>?_),d.block b h (fun e=>c (hu b e).1)⟩⟩,fun _ h=>.inl h,fun k hk f=>d.block k hk f⟩
 ·rcases(hu k e).2 with h|h
  ·exact c h
  ·omega
 ·rcases(g b i).2 with h3|h3
  ·exact c (hu b h3).1
  ·omega
def G4 {α:Type}(xs ys:List α):List α:=ys.take xs.length++xs.drop ys.length
def b05 {α:Type}(xs ys:List α):(G4 xs ys).length=xs.length:=by simp only[G4,length_append,length_take,length_drop];omega
def U1.cut {α:Type}{T:Ty α}{H:K0}{S:D0}{cs:List Value}{xs:List α}(h:U1 T H S cs xs)(k:Nat):U1 T H S (cs.take (k*T.sz)) (xs.take k):=by
 refine⟨by rw[length_take,length_take,h.1];exact(Nat.mul_min_mul_right k xs.length T.sz),fun i x c=>?_⟩;have hi:i<k:=by
  rcases Nat.lt_or_ge i k with h|h
  ·exact h
  ·rw[List.getElem?_take_eq_none (by omega)]at c;cases c
 rw[List.getElem?_take_of_lt hi]at c;have d:=h.2 i x c;have hle:i*T.sz+T.sz<=k*T.sz:=by rw[<-Nat.succ_mul];exact Nat.mul_le_mul_right _ hi
 rw[List.drop_take,List.take_take,min_eq_left (by omega)];exact d
def U1.tail {α:Type}{T:Ty α}{H:K0}{S:D0}{cs:List Value}{xs:List α}(h:U1 T H S cs xs)(k:Nat):U1 T H S (cs.drop (k*T.sz)) (xs.drop k):=by
 refine⟨by rw[length_drop,length_drop,h.1,Nat.sub_mul],fun i x c=>?_⟩;rw[List.getElem?_drop]at c;have d:=h.2 _ x c;rw[List.drop_drop,<-Nat.add_mul];exact d
def x04 {α:Type}{T:Ty α}{w0:World}{W0 Wf S0 S:D0}{t e:TypeId}{x y:Operand}{A B:Option Addr}{c d:Nat}{xs ys:List α}(ha:Ag n l a)(cx:Cx w0 W0 S0 w S)(hf:(gate ops l o==some true&&fit n l o)=true)
  (ho:o.op=.call { callee:=.builtin .copy,args:=#[x,y],argTypes:=#[t,t] }) (hx:lk l x=.slice A xs.length c) (hy:lk l y=.slice B ys.length d) (ht:P.underlying t=some (.slice e)) (hE:(P.info? e).map (·.size)=some 1) (C:T.sz=1)
  (hW:∀k,Wr Wf w0 k->Wr W0 w0 k) (q:Ow T e (Wr Wf w0) w.heap S (.slice A xs.length c) xs) (a1:V5 T w.heap S B ys)
  (h:∀w1,Cx w0 W0 S0 w1 S->(∀k,k<w.heap.size->(Value.slice A xs.length c).ownBlock≠some k->w1.heap[k]?=w.heap[k]?)->U0 w.heap S w1.heap S->Ow T e (Wr Wf w0) w1.heap S (.slice A xs.length c) (G4 xs ys)->
   ∀a',Ag n (A8 l o.dst (.int .i64 (Nat.min ys.length xs.length:Nat))) a'->wpList P ops Q rest a' w1):wpList P ops Q (o :: rest) a w:=by
 have fin:∀(w1:World) (m:Nat),(Builtin.copy_ #[t,t] o.type #[.slice A xs.length c,.slice B ys.length d]).run P w=.ok (goInt m) w1->m=Nat.min ys.length xs.length->
   Cx w0 W0 S0 w1 S->(∀k,k<w.heap.size->(Value.slice A xs.length c).ownBlock≠some k->w1.heap[k]?=w.heap[k]?)->U0 w.heap S w1.heap S->Ow T e (Wr Wf w0) w1.heap S (.slice A xs.length c) (G4 xs ys)->wpList P ops Q (o :: rest) a w:=by
  intro w1 m hr hm h1 I h3 h4;refine c0A ha hf (v:=.int .i64 (Nat.min ys.length xs.length:Nat)) (w':=w1) ?_ fun a' c4=>h w1 h1 I h3 h4 a' c4;subst hm;simp only[execOp,ho,resolve,invoke,builtin,Sem.run_bind,Sem.run_pure,Result.andThen_ok,List.map_toArray,List.map_cons,List.map_nil,hx,hy,hr];rfl
 by_cases J:Nat.min ys.length xs.length=0
 ·refine fin w 0 (run_copy_none w t t o.type e A B xs.length c ys.length d ht hE J) J.symm cx (fun _ _ _=>rfl) (U0.refl _ _) ?_;have:G4 xs ys=xs:=by
   rcases Nat.eq_zero_or_pos xs.length with p|p
   ·have:=List.eq_nil_of_length_eq_zero p;subst this;simp[G4]
   ·have b4:ys.length=0:=by
     rcases le_total ys.length xs.length with hle|hle
     ·rwa [show Nat.min ys.length xs.length=ys.length from min_eq_left hle]at J
     ·rw[show Nat.min ys.length xs.length=xs.length from Nat.min_eq_right hle]at J;omega
    have:=List.eq_nil_of_length_eq_zero b4;subst this;simp[G4]
  rw[this];exact q
 ·have c8:0<xs.length:=by
   rcases Nat.eq_zero_or_pos xs.length with p|p
   ·exact absurd (by rw[p];exact Nat.min_zero _) J
   ·exact p
  have hyp:0<ys.length:=by
   rcases Nat.eq_zero_or_pos ys.length with p|p
   ·exact absurd (by rw[p];exact Nat.zero_min _) J
   ·exact p
  obtain⟨b,off,_,hB,_⟩:=a1 0 ys[0] (by simp[hyp]);subst hB;obtain⟨news,z,s⟩:=V5.news (w:=w) (xs:=ys) (k:=0) (A:=some ⟨b,off,none⟩) (T:=T) (S:=S) (fun i x hx=>by
   obtain⟨b,o,cs,h1,I,h3⟩:=a1 i x hx;exact⟨b,o,cs,h1,I,fun j v hj=>by rw[zero_add];exact h3 j v hj⟩)
  have c6:=q.lt;obtain⟨b3,cs,⟨R,U⟩,b2⟩:=q;rcases U with⟨hv,p⟩|⟨g,cap,cur,hv,hg,hnc,hm,hcs,htake⟩
  ·omega
  ·simp at hv;obtain⟨rfl,rfl⟩:=hv;rw[C,mul_one]at R hcs htake;have c3:news.length=ys.length:=by rw[z.1,C,mul_one]
   have f:(news.take xs.length).length=Nat.min ys.length xs.length:=by rw[length_take,c3];exact Nat.min_comm _ _
   have hr:=run_copy_row (P:=P) w t t o.type e g 0 xs.length c ⟨b,off,none⟩ ys.length d cur e (news.take xs.length) ht hE hg f (fun j v hj=>by
    rw[b0a];have c0:news[j]?=some v:=by
     rcases Nat.lt_or_ge j xs.length with h|h
     ·rwa [List.getElem?_take_of_lt h]at hj
     ·rw[List.getElem?_take_eq_none h]at hj;cases hj
    have:=s b off rfl j v c0;simpa using this) (by rw[f,hcs,zero_add];exact le_trans (Nat.min_le_right _ _) hnc) (fun v hv=>z.f01 v (List.mem_of_mem_take hv))
   simp only[take_zero,List.nil_append,zero_add]at hr;have b1:=b3 g (by simp[Value.ownBlock]);have c5:=getElem?_lt hg;have u:k7 g w (w.setRow g (news.take xs.length++cur.toList.drop (news.take xs.length).length).toArray):=⟨rfl,rfl,rfl,by simp[World.setRow],fun k _ hk=>by simp[World.setRow,Array.getElem?_modify,Ne.symm hk]⟩
   have hk:=u.L1 b1.1;refine fin _ _ hr f (u.cx cx (hW _ b1.2)) (fun k hk b5=>u.block k hk (fun e=>b5 (by rw[e];simp[Value.ownBlock]))) hk ⟨b3,news.take xs.length++cs.drop ys.length,⟨?_,.inr ⟨g,c,(news.take xs.length++cur.toList.drop (news.take xs.length).length).toArray,by rw[b05],setRow_heap w g cur _ e _ hg,by rw[b05];exact hnc,hm,?_,?_⟩⟩,?_⟩
   ·rw[b05,C,mul_one,length_append,f,length_drop,R];rcases le_total ys.length xs.length with hle|hle
    ·rw[show Nat.min ys.length xs.length=ys.length from min_eq_left hle];omega
    ·rw[show Nat.min ys.length xs.length=xs.length from Nat.min_eq_right hle];omega
   ·have h9:(news.take xs.length).length<=c:=by rw[f];exact le_trans (Nat.min_le_right _ _) hnc
    simp only[C,mul_one,List.size_toArray,length_append,length_drop,Array.length_toList,hcs];omega
   ·rw[b05,C,mul_one];show List.take xs.length (news.take xs.length++cur.toList.drop (news.take xs.length).length)=_;rw[List.take_append,List.take_take,Nat.min_self,<-htake];congr 1;rw[List.drop_take];rcases le_total ys.length xs.length with hle|hle
    ·have:(news.take xs.length).length=ys.length:=by rw[f];exact min_eq_left hle
     rw[this]
    ·have:(news.take xs.length).length=xs.length:=by rw[f];exact Nat.min_eq_right hle
     rw[this,Nat.sub_self,take_zero,Nat.sub_eq_zero_of_le hle,take_zero]
   ·have h1:=(z.L1 hk).cut xs.length;have I:=(b2.L1 hk).tail ys.length;rw[C,mul_one]at h1 I;exact h1.append I
end
section
variable {P:Program}{ops:Array Oper}{n:Nat}{Q:Exit->Act->World->Prop}{l:FL}{a:Act}{w:World}{o:Oper}{rest:List Oper}
end
def b0s (es:List MapEntry)(m:List (Int×Int)):Prop:=es.map (fun e=>(e.key,e.val))=m.map (fun p=>(.int .i64 p.1,.int .i64 p.2))
def b0s.cons_inv {e:MapEntry}{es:List MapEntry}{m:List (Int×Int)}(h:b0s (e :: es) m):∃a b c,m=(a,b) :: c/\e.key=.int .i64 a/\e.val=.int .i64 b/\b0s es c:=by
 cases m with
 |nil=>simp[b0s]at h
 |cons p c=>simp[b0s]at h;exact⟨p.1,p.2,c,rfl,h.1.1,h.1.2,h.2⟩
def b0s.b0n {m:List (Int×Int)}(h:b0s [] m):m=[]:=by simpa[b0s]using h.symm
def Mp (M:D0)(H:K0)(S:D0)(r:Nat)(m:List (Int×Int)):Prop:=(∃es clock,H[r]?=some (.map es clock)/\b0s es.toList m)/\S r/\M r
def Mr (H:K0)(S:D0)(r:Nat)(m:List (Int×Int)):Prop:=(∃es clock,H[r]?=some (.map es clock)/\b0s es.toList m)/\¬S r
section
variable {M M':D0}{H H':K0}{S S' S0:D0}{r b:Nat}{m:List (Int×Int)}{w w1 w0:World}{W0 Wf:D0}
def Mp.e0S (h:Mp M H S r m):r<H.size:=by obtain⟨⟨_,_,h1,_⟩,_⟩:=h;exact getElem?_lt h1
def Mr.e0S (h:Mr H S r m):r<H.size:=by obtain⟨⟨_,_,h1,_⟩,_⟩:=h;exact getElem?_lt h1
def Mr.L1 (k:U0 H S H' S')(h:Mr H S r m):Mr H' S' r m:=by
 obtain⟨h1,c⟩:=k.blk r h.e0S h.2;obtain⟨⟨es,cl,he,hm⟩,_⟩:=h;exact⟨⟨es,cl,c.trans he,hm⟩,h1⟩
def Mp.L1 (h:Mp M H S r m)(c:∀b,S b->S' b)(e:H'[r]?=H[r]?):Mp M H' S' r m:=by
 obtain⟨⟨es,cl,he,hm⟩,h1,d⟩:=h;exact⟨⟨es,cl,e.trans he,hm⟩,c r h1,d⟩
def Mp.ext (h:Mp M w.heap S r m)(c:Below w.heap.size w w1):Mp M w1.heap S r m:=h.L1 (fun _ h=>h) (c.block r h.e0S)
def Mp.lt (h:Mp M H S r m):∀k,(bv r).ownBlock=some k->k<H.size:=fun k hk=>by cases hk;exact h.e0S
def Mp.own (h:Mp M H S r m):∀k,(bv r).ownBlock=some k->S k/\M k:=fun k hk=>by cases hk;exact h.2
def Mp.only (h:Mp M w.heap S r m)(c:k7 b w w1)(hd:r≠b):Mp M w1.heap S r m:=h.L1 (fun _ h=>h) (c.block r h.e0S hd)
def Mp.e0z (h:Mp M H S r m)(hm:∀k,(bv r).ownBlock=some k->M' k):Mp M' H S r m:=⟨h.1,h.2.1,hm r rfl⟩
def Mp.out {vs:List Value}(h:Mp M H S r m)(c:∀k,(bv r).ownBlock=some k->obl vs k):Mp M H (inL vs S0) r m:=⟨h.1,.inr (c r rfl),h.2.2⟩
variable {P:Program}{ops:Array Oper}{n:Nat}{Q:Exit->Act->World->Prop}{l:FL}{a:Act}{o:Oper}{rest:List Oper}
def n01 (w:World)(r:Nat)(m:List (Int×Int)):Prop:=∃es clock,w.heap[r]?=some (.map es clock)/\b0s es.toList m
def n01.old {c:World}(h:n01 w r m)(e:c.heap[r]?=w.heap[r]?):n01 c r m:=by
 obtain⟨es,cl,he,hm⟩:=h;exact⟨es,cl,e.trans he,hm⟩
end
