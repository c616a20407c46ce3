/- P. Its conditions: none. -/
import Derived.Test.YtmhooikfkhjijaaGreatYG02
import Derived.Test.YtmhooikfkhjijaaGreatYVKey
import Derived.Shelf.SlSortCmp.NoneTotal
open List (map_cons flatten_cons size_toArray)
set_option linter.all false
namespace Go.V
open Go.RowKit
inductive P7 {α β:Type} (R:α->β->Prop):List α->List β->Prop
 |nil:P7 R [] []
 |cons {a b l m} (h:R a b) (t:P7 R l m):P7 R (a :: l) (b :: m)
def P7.perm {α β:Type}{R:α->β->Prop}{l l':List α}(h:l.Perm l'):∀{m:List β},P7 R l m->∃b,m.Perm b/\P7 R l' b:=by
 induction h with
 |nil=>intro m h;exact⟨m,.refl _,h⟩
 |cons x _ ih=>
  intro m h;cases h with
  |cons h t=>
   obtain⟨b,hp,a⟩:=ih t;exact⟨_ :: b,hp.cons _,.cons h a⟩
 |swap x y l=>
  intro m h;cases h with
  |cons h t=>
   cases t with
   |cons a t=>exact⟨_ :: _ :: _,List.Perm.swap _ _ _,.cons a (.cons h t)⟩
 |trans _ _ ih1 ih2=>
  intro m h;obtain⟨m1,p1,h1⟩:=ih1 h;obtain⟨m2,c,a⟩:=ih2 h1;exact⟨m2,p1.trans c,a⟩
def P7.length {α β:Type}{R:α->β->Prop}{l:List α}{m:List β}(h:P7 R l m):l.length=m.length:=by
 induction h with
 |nil=>rfl
 |cons _ _ a=>simp[a]
def P7.get {α β:Type}{R:α->β->Prop}{l:List α}{m:List β}(h:P7 R l m):∀(i:Nat) (a:α) (b:β),l[i]?=some a->m[i]?=some b->R a b:=by
 induction h with
 |nil=>intro i a b h;simp at h
 |cons h _ ih=>
  intro i a b h1 c;cases i with
  |zero=>simp at h1 c;subst h1;subst c;exact h
  |succ i=>exact ih i a b (by simpa using h1) (by simpa using c)
def P7.of {α β:Type}{R:α->β->Prop}:∀{l:List α} {m:List β},l.length=m.length->(∀(i:Nat) (a:α) (b:β),l[i]?=some a->m[i]?=some b->R a b)->P7 R l m
 |[],[],_,_=>.nil
 |[],_ :: _,h,_=>by simp at h
 |_ :: _,[],h,_=>by simp at h
 |a :: l,b :: m,h,c=>.cons (c 0 a b rfl rfl) (P7.of (by simpa using h) fun i x y d e=>c (i+1) x y (by simpa using d) (by simpa using e))
def P7.pair {α β:Type}{R:α->β->Prop}{f:α->Int}{g:β->Int}(hR:∀a b,R a b->f a=g b){l:List α}{m:List β}(h:P7 R l m)(hp:l.Pairwise (fun a b=>f a<=f b)):m.Pairwise (fun a b=>g a<=g b):=by
 induction h with
 |nil=>exact List.Pairwise.nil
 |cons h t ih=>
  rename_i a b l m;obtain⟨h1,d⟩:=List.pairwise_cons.1 hp;refine List.pairwise_cons.2 ⟨fun y c=>?_,ih d⟩;obtain⟨i,hi,rfl⟩:=List.mem_iff_getElem.1 c;have hl:i<l.length:=by rw[t.length];exact hi
  have:=t.get i l[i] m[i] (by simp[hl]) (by simp[hi]);rw[<-hR _ _ h,<-hR _ _ this];exact h1 _ (List.getElem_mem hl)
structure J3 where
 to:Int
 turn:Int
 st:Value
 lo:0<=to
 hi:to<4294967296
 h1:st.oneCell'=true
instance:Inhabited J3:=⟨⟨0,0,.slice none 0 0,by decide,by decide,rfl⟩⟩
def J3.cells (x:J3):List Value:=[.int .i64 x.to,.int .i64 x.turn,x.st]
def J3.less (x y:J3):Int:=x.to-y.to
def J3.swo:Go.Sort.SWO (Go.Proofs.ltOf J3.less) where
 irrefl x:=by simp[Go.Proofs.ltOf,J3.less]
 trans x y z h1 h2:=by simp only[Go.Proofs.ltOf,decide_eq_true_eq]at *;simp only[J3.less]at *;omega
 ntrans x y z h1 h2:=by simp only[Go.Proofs.ltOf,decide_eq_false_iff_not]at *;simp only[J3.less]at *;omega
def J3.wrap (x y:J3):IntKind.i64.wrap (x.to-y.to)=x.to-y.to:=by
 have:=x.lo;have:=x.hi;have:=y.lo;have:=y.hi;simp[IntKind.wrap,IntKind.bits,IntKind.signed];omega
section
variable {α:Type}{T:Ty α}{key:α->Int}
open Go.Sort in
def u0j (d:Array J3)(i j:Nat)(hi:i<d.size)(a:j<3):(flatK J3.cells 3 d)[i*3+j]! = (d[i]!.cells)[j]!:=by
 rw[get_flatK _ _ _ _ (by omega)];rw[show(i*3+j) / 3=i from by omega,show(i*3+j) % 3=j from by omega]
open Go.Sort in
def p0s {H:K0}{S:D0}(a:∀cs x,T.R H S cs x->∃turn st,cs=[.int .i64 (key x),.int .i64 turn,st])(d:T.sz=3):
  ∀(xs:List α) (cs:List Value),U1 T H S cs xs->(∀x∈xs,0<=key x/\key x<4294967296)->∃c:List J3,P7 (fun(r:J3) x=>T.R H S r.cells x/\r.to=key x) c xs/\cs=(c.map J3.cells).flatten
 |[],cs,h,_=>⟨[],.nil,by have:=h.1;simp at this;simpa using this⟩
 |x :: xs,cs,h,hk=>by
  have b:=h.2 0 x (by simp);simp only[Nat.zero_mul,List.drop_zero]at b;obtain⟨turn,st,e⟩:=a _ _ b;have h1:st.oneCell'=true:=T.one b st (by rw[e];simp);have i:U1 T H S (cs.drop T.sz) xs:=by
   have:=h.tail 1;simpa using this
  obtain⟨c,ha,g⟩:=p0s a d xs _ i (fun y j=>hk y (by simp[j]));have f:=hk x (by simp);refine⟨⟨key x,turn,st,f.1,f.2,h1⟩ :: c,.cons ⟨by rw[e]at b;exact b,rfl⟩ ha,?_⟩;rw[map_cons,flatten_cons,<-g]
  conv=>lhs;rw[<-List.take_append_drop T.sz cs]
  rw[e];rfl
def B0y {H:K0}{S:D0}{a:List J3}{xs:List α}(h:P7 (fun(r:J3) x=>T.R H S r.cells x) a xs):U1 T H S (a.map J3.cells).flatten xs:=by
 induction h with
 |nil=>exact U1.nil
 |cons h _ ih=>
  have:=(U1.one h).append ih;simpa using this
def o6:∀a:List J3,((a.map J3.cells).flatten).length=a.length*3
 |[]=>rfl
 |d :: a=>by rw[map_cons,flatten_cons,List.length_append,o6 a];simp[J3.cells];omega
def l0s:∀(a:List J3) (i j:Nat) (hi:i<a.length),j<3->((a.map J3.cells).flatten)[i*3+j]?=(a[i].cells)[j]?
 |d :: a,0,j,hi,hj=>by
  simp only[map_cons,flatten_cons,Nat.zero_mul,Nat.zero_add,List.getElem_cons_zero];rw[List.getElem?_append_left (by simp[J3.cells];omega)]
 |d :: a,i+1,j,hi,hj=>by
  simp only[map_cons,flatten_cons,List.getElem_cons_succ];rw[List.getElem?_append_right (by simp[J3.cells];omega)];have:=l0s a i j (by simpa using hi) hj;rw[<-this];congr 1;simp[J3.cells];omega
open Go.Sort in
def z0p {w:World}{g:Nat}{cur:Array Value}{e:TypeId}{a:List J3}(hg:w.heap[g]?=some (.cells cur e (0,0)))(d:cur.toList.take (a.length*3)=(a.map J3.cells).flatten):HoldsK J3.cells 3 w g 0 a.toArray:=by
 intro t b;simp only[size_flatK,size_toArray]at b;refine⟨?_,by simp[World.frozen?,hg]⟩;obtain⟨i,j,c,rfl⟩:∃i j,j<3/\t=i*3+j:=⟨t / 3,t % 3,by omega,by omega⟩
 have hi:i<a.length:=by omega
 rw[u0j _ _ _ (by simpa using hi) c];have h1:(cur.toList.take (a.length*3))[i*3+j]?=(a[i].cells)[j]?:=by rw[d];exact l0s a i j hi c
 rw[List.getElem?_take_of_lt b]at h1;rw[h0f];unfold U2;rw[hg];simp only[Nat.zero_add];rw[<-Array.getElem?_toList,h1];have hl:j<(a[i].cells).length:=by simp[J3.cells];omega
 simp[hi,hl]
open Go.Sort in
def A0Z (cur:Array Value)(d:Array J3)(h:d.size*3<=cur.size):(putCells id 0 (flatK J3.cells 3 d) cur).toList.take (d.size*3)=(d.toList.map J3.cells).flatten:=by
 apply List.ext_getElem?;intro t
 by_cases b:t<d.size*3
 ·obtain⟨i,j,c,rfl⟩:∃i j,j<3/\t=i*3+j:=⟨t / 3,t % 3,by omega,by omega⟩
  have hi:i<d.size:=by omega
  rw[l0s d.toList i j (by simpa using hi) c];rw[List.getElem?_take_of_lt b,Array.getElem?_toList];have e:=u0j d i j hi c;have hl:j<(d[i].cells).length:=by simp[J3.cells];omega
  have a:i*3+j<cur.size:=by omega
  simp only[putCells,Array.getElem?_mapIdx,Array.getElem?_eq_getElem a,Option.map_some,size_flatK,Nat.zero_le,Nat.zero_add,b,and_self,if_true,Nat.sub_zero,id,e];simp[hi,hl]
 ·rw[List.getElem?_take_eq_none (by omega),List.getElem?_eq_none (by rw[o6];simp;omega)]
open Go.Sort Go.Shelf Go.Proofs in
def C0r {P:Program}{ρ:Ren}(L:SlLaysF0.n6 P ρ)(U:∀w,(isAgg (ρ.t 24)).run P w=.ok true w)(b3:∀w,(Go.sizeOf (ρ.t 24)).run P w=.ok 3 w){g:Nat}(eg:∀args w,(callFunc g args).run P w=.ok (.enter g args) w)
  (c3:∀(x y:J3) (w:World),Calls P g #[.agg x.cells.toArray,.agg y.cells.toArray] w fun e w'=>e=.returned (.int .i64 (x.to-y.to))/\∃q c8,w'=grow (w.drewN q) c8)
  {w:World} {S M:D0} {e:TypeId} {A:Option Addr} {c:Nat} {xs:List α} (c5:∀(S:D0) cs x,T.R w.heap S cs x->∃turn st,cs=[.int .i64 (key x),.int .i64 turn,st]) (o:T.sz=3)
  (ho:Ow T e M w.heap S (.slice A xs.length c) xs) (p:b0j key xs=true):
  Calls P (ρ.f 6) #[.slice A xs.length c,.func (.func g) #[] #[]] w fun ee w1=>ee=.returned (.tuple #[])/\w1.os=w.os/\w1.tape=w.tape/\w1.output=w.output/\w.heap.size<=w1.heap.size/\
   (∀k,k<w.heap.size->(Value.slice A xs.length c).ownBlock≠some k->w1.heap[k]?=w.heap[k]?)/\(∀S1,U0 w.heap S w1.heap S1->(∀k,S k->S1 k)->Ow T e M w1.heap S1 (.slice A xs.length c) (r7 key xs)):=by
 simp only[b0j,Bool.and_eq_true,List.all_eq_true,decide_eq_true_eq]at p;obtain⟨c0,cs,⟨b5,J⟩,b4⟩:=ho;rcases J with⟨s,h0⟩|⟨gb,cap,cur,s,hgb,hnc,hm,hcs,htake⟩
 ·have hx:xs=[]:=List.eq_nil_of_length_eq_zero h0;subst hx;simp at s;obtain⟨rfl,rfl⟩:=s;refine(AnyF.slices_SortFunc_none L none 0 _ w).mono ?_
  rintro ee w1 ⟨rfl,rfl⟩
  refine⟨rfl,rfl,rfl,rfl,Nat.le_refl _,fun _ _ _=>rfl,fun S1 _ _=>⟨fun k hk=>by simp[Value.ownBlock]at hk,[],⟨by simp[r7],.inl ⟨rfl,rfl⟩⟩,U1.nil⟩⟩
 ·simp at s;obtain⟨rfl,rfl⟩:=s;rw[o]at b5 hcs htake;obtain⟨ds,u,I⟩:=p0s (T:=T) (key:=key) (c5 S) o xs cs b4 p.1.2;have l:ds.length=xs.length:=u.length;have hH:HoldsK J3.cells 3 w gb 0 ds.toArray:=z0p hgb (by rw[l,htake,I]);have b1:gb<w.heap.size:=getElem?_lt hgb;have hS:=AnyQ.slices_SortFunc L 3 U b3 J3.cells (fun _=>rfl) (fun x v s=>by
    simp only[J3.cells,List.mem_cons,List.not_mem_nil,or_false]at s;rcases s with rfl|rfl|rfl
    ·rfl
    ·rfl
    ·exact x.h1) J3.less J3.swo g #[] gb 0 c ds.toArray w eg (fun m os dk _ x y=>c3 x y _) hH b1 (by simp only[size_toArray,l];exact p.1.1)
  rw[size_toArray,l]at hS;refine hS.mono ?_
  rintro ee w1 ⟨rfl,d',m,os,hp,hso,rfl⟩
  obtain⟨n,_,z⟩:=hp;simp only[size_toArray,l]at n;have e1:d'.extract 0 xs.length=d':=by rw[<-n];exact Array.extract_size
  have e2:ds.toArray.extract 0 xs.length=ds.toArray:=by rw[<-l];simp
  rw[e1,e2]at z;simp only at z;obtain⟨C,a1,d⟩:=u.perm z.symm;have h5:C.length=xs.length:=a1.symm.length_eq;have e5:C.Pairwise (fun a b=>key a<=key b):=by
   refine P7.pair (f:=J3.to) (fun a b h=>h.2) d ?_;rw[List.pairwise_iff_getElem];intro i j hi hj c4;have h3:=hso i j (Nat.zero_le _) c4 (by simp at hj;omega);simp at hi hj;rw[getElem!_pos d' i hi,getElem!_pos d' j hj]at h3;simp only[ltOf,decide_eq_false_iff_not]at h3;simp only[J3.less]at h3;simp only[Array.getElem_toList];omega
  have c6:C=r7 key xs:=E0Z key a1.symm e5 p.2;subst c6;have e3:(sortWorldK J3.cells 3 w gb 0 m d' os).heap[gb]?=some (.cells (putCells id 0 (flatK J3.cells 3 d') cur) e (0,0)):=by
   unfold sortWorldK putRowK;rw[heap_grow_old _ _ (by simpa using b1)];simp[putRow,mapBlock,Sort.ahead,Array.getElem?_modify,hgb,onCells]
  refine⟨rfl,rfl,rfl,rfl,by simp[sortWorldK,putRowK],fun k hk e4=>?_,fun S1 kp e9=>⟨fun k hk=>⟨e9 k (c0 k hk).1,(c0 k hk).2⟩,(d'.toList.map J3.cells).flatten,⟨?_,.inr ⟨gb,c,_,by rw[e0j],e3,by rw[e0j];exact hnc,hm,by rw[o];simpa[putCells]using hcs,?_⟩⟩,?_⟩⟩
  ·have b2:gb≠k:=fun e=>e4 (by rw[e];simp[Value.ownBlock]);unfold sortWorldK putRowK;rw[heap_grow_old _ _ (by simpa using hk)];simp[putRow,mapBlock,Sort.ahead,Array.getElem?_modify,b2]
  ·rw[o6,o,e0j];simp[n]
  ·rw[o,e0j];have:=A0Z cur d' (by rw[n,hcs];omega);rw[n]at this;exact this
  ·have h4:P7 (fun(r:J3) x=>T.R w.heap S r.cells x) d'.toList (r7 key xs):=P7.of d.length fun i a b h1 h2=>(d.get i a b h1 h2).1;exact(B0y h4).L1 kp
open Go.Sort Go.Shelf Go.Proofs in
end
