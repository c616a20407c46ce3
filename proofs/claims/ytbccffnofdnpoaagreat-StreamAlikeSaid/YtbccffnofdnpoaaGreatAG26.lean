/- P. Its conditions: none. -/
import Derived.WalkKit
import Derived.Handy
import Derived.Test.YtbccffnofdnpoaaGreatAAp
import Derived.Test.YtbccffnofdnpoaaGreatAG01
import Derived.Test.YtbccffnofdnpoaaGreatAVKey
import Derived.Shelf.SlSortCmp.NoneTotal
set_option linter.all false
set_option maxRecDepth 100000
namespace Go.Proofs.YtbccffnofdnpoaaGreat
open Go.RowKit Go.Proofs
open Go.V hiding Row
open Go.X
def I07:(Tryz.prog.info? 27).map (fun i=>(i.zero,i.size,i.bytes))=some (some (.slice none 0 0),1,24):=Y'
abbrev rowOf (rows:List Value)(i:Int):Value:=rows.getD i.toNat (.int .i64 0)
def D06 {rows:List Value}{of:List Int}{k:Nat}{x:Int}(h:of[k]?=some x):((of.take k).map (rowOf rows))++[rowOf rows x]=(of.take (k+1)).map (rowOf rows):=by
 rw[List.take_succ,h,List.map_append];rfl
def K0U {w wr w1:World}{v:Value}{k:Nat}{xs:List Value}{o:Obj}(c:Below w.heap.size w wr)(a:wr.ownsRow w.heap.size 27 1 v k xs)(hg:(wr.alloc o).grownBy w1 v.ownBlock):Below w.heap.size w w1:=by
 have hs:=c.size;refine(c.grown (World.grownBy_alloc wr o none) hs (by intro k hk;cases hk)).grown hg Z' ?_
 rintro g b
 rcases a.2 with⟨rfl,_⟩|⟨g',cap,cur,rfl,h1,_⟩
 ·cases b
 ·cases b;exact h1
set_option maxHeartbeats 4000000 in
def F0m (rows:List Value)(of:List Int)(A B:Option Addr)(c d:Nat)(w:World)
  (I:∀u∈rows,∃a m c,u=.slice a m c)
  (hA:rows≠[]->∃b,A=some ⟨b,0,none⟩/\b<w.heap.size/\∀k:Nat,k<rows.length->D2 w.heap b k=some (rows.getD k (.int .i64 0)))
  (hB:of≠[]->∃b o,B=some ⟨b,o,none⟩/\b<w.heap.size/\∀k:Nat,k<of.length->D2 w.heap b (o+k)=some (.int .i64 (gt of (k:Int))))
  (s:∀i∈of,0<=i/\i<(rows.length:Int)) (hlen:of.length<=5864062014805):
  Calls Tryz.prog 141 #[.slice A rows.length c,.slice B of.length d] w fun e w1=>∃v,e=.returned v/\w1.ownsRow w.heap.size 27 1 v of.length (of.map (rowOf rows))/\Below w.heap.size w w1:=by
 obtain⟨i0,hi,a1,R,J⟩:=info_parts I07
 go_enter Tryz.func141,Tryz.ntmps141
 go_wp2
 go_loopw [5,10] (fun v i wr=>∃k:Nat,k<=of.length/\i=.int .i64 k/\wr.ownsRow w.heap.size 27 1 v k ((of.take k).map (rowOf rows))/\Below w.heap.size w wr) (fun _ i _=>of.length-(intOf i).toNat)
 case atStart=>exact⟨0,Nat.zero_le _,rfl,World.ownsRow_nil _ _ _ _,Below.refl _ _⟩
 case round=>
  obtain⟨k,hk,rfl,f,y⟩:=hrel
  by_cases hd:k=of.length
  ·have d1:decide ((k:Int)<(of.length:Int))=false:=by simp;omega
   have g:=f;rw[hd,List.take_length]at g
   go_wp2
   go_ret
   exact⟨_,rfl,g,y⟩
  ·have p:k<of.length:=O'
   have d1:decide ((k:Int)<(of.length:Int))=true:=by simp;omega
   obtain⟨bb,oo,rfl,b2,l⟩:=hB (by intro e;simp[e]at p);have c0:=l k p;have hx:of[k]?=some (gt of (k:Int)):=by rw[P2 (x:=of[k]) (by simp[p])];simp[p]
   obtain⟨x0,x1⟩:=s _ (List.mem_of_getElem? hx);have b1:=D06 (rows:=rows) hx;generalize gt of (k:Int)=x at *;obtain⟨q,rfl⟩:∃q:Nat,x=q:=⟨x.toNat,O'⟩
   have hq:q<rows.length:=O'
   obtain⟨ba,rfl,C,t⟩:=hA (by intro e;simp[e]at hq);have c1:=t q hq;have e0:wr.cell? ⟨bb,oo+k,none⟩=some (.int .i64 (q:Int)):=cell_of (by unfold D2 at c0 ⊢;rw[y.block bb b2];exact c0);have e1:wr.cell? ⟨ba,q,none⟩=some (rowOf rows (q:Int)):=cell_of (by unfold D2 at c1 ⊢;rw[y.block ba C];exact c1);have U:∃a m c,rowOf rows (q:Int)=.slice a m c:=I _ (by
    have:rowOf rows (q:Int)=rows[q]:=by simp[rowOf,hq]
    rw[this];exact List.getElem_mem hq)
   have b4:=y.size;have b3:rows.getD ((q:Int)).toNat (.int .i64 0)=rowOf rows (q:Int):=rfl;generalize rowOf rows (q:Int)=rq at *;obtain⟨ra,rm,rc,rfl⟩:=U;clear l c0 c1 t hA hB s
   go_wp2_with (at_builtin;refine wpList_append_own _ rfl _ _ 66 rfl w.heap.size 27 i0 (.slice none 0 0) 1 24 Tryz.underlying66 hi a1 R J rfl (by decide) _ _ _ rfl (f.alloc _) ⟨wr.heap.size,0,none⟩ 1 1 [.slice ra rm rc] rfl rfl ?c1 ?c2 ?c3 ?c4 ?c5 ?_)
   case c1=>
    intro j u z
    match j,z with
    |0,z=>simp at z;subst z;simp[Addr.add]
   case c2=>intro u hu;simp at hu;subst hu;rfl
   case c3=>unfold maxLen;omega
   case c4=>omega
   case c5=>simp;omega
   intro v' w1 n h _;have r:=K0U y f h;rw[<-List.map_take,b1]at n;clear h f
   go_wp2
   go_roundw
   case rel=>exact⟨k+1,O',by go_num,n,r⟩
   case measure=>simp[intOf];omega
end Go.Proofs.YtbccffnofdnpoaaGreat
namespace Go.V
open Go.RowKit
inductive X7 {α β:Type} (R:α->β->Prop):List α->List β->Prop
 |nil:X7 R [] []
 |cons {a b l m} (h:R a b) (t:X7 R l m):X7 R (a :: l) (b :: m)
def X7.perm {α β:Type}{R:α->β->Prop}{l l':List α}(h:l.Perm l'):∀{m:List β},X7 R l m->∃b,m.Perm b/\X7 R l' b:=by
 induction h with
 |nil=>intro m h;exact⟨m,.refl _,h⟩
 |cons x _ ih=>
  intro m h;cases h with
  |cons h t=>
   obtain⟨b,hp,a⟩:=ih t;exact⟨_ :: b,hp.cons _,.cons h a⟩
 |swap x y l=>
  intro m h;cases h with
  |cons h t=>
   cases t with
   |cons a t=>exact⟨_ :: _ :: _,List.Perm.swap _ _ _,.cons a (.cons h t)⟩
 |trans _ _ ih1 ih2=>
  intro m h;obtain⟨m1,p1,h1⟩:=ih1 h;obtain⟨m2,c,a⟩:=ih2 h1;exact⟨m2,p1.trans c,a⟩
theorem X7.length {α β:Type}{R:α->β->Prop}{l:List α}{m:List β}(h:X7 R l m):l.length=m.length:=by
 induction h with
 |nil=>rfl
 |cons _ _ a=>grind
theorem X7.get {α β:Type}{R:α->β->Prop}{l:List α}{m:List β}(h:X7 R l m):∀(i:Nat) (a:α) (b:β),l[i]?=some a->m[i]?=some b->R a b:=by
 induction h with
 |nil=>simp
 |cons h _ ih=>
  grind
theorem X7.of {α β:Type}{R:α->β->Prop}:∀{l:List α} {m:List β},l.length=m.length->(∀(i:Nat) (a:α) (b:β),l[i]?=some a->m[i]?=some b->R a b)->X7 R l m
 |[],[],_,_=>.nil
 |[],_ :: _,h,_=>by grind
 |_ :: _,[],h,_=>by grind
 |a :: l,b :: m,h,c=>.cons (c 0 a b rfl rfl) (X7.of (by simp_all) fun i x y d e=>c (i+1) x y (by simp_all) (by simp_all))
theorem X7.pair {α β:Type}{R:α->β->Prop}{f:α->Int}{g:β->Int}(hR:∀a b,R a b->f a=g b){l:List α}{m:List β}(h:X7 R l m)(hp:l.Pairwise (fun a b=>f a<=f b)):m.Pairwise (fun a b=>g a<=g b):=by
 induction h with
 |nil=>simp
 |cons h t ih=>
  rename_i a b l m;obtain⟨h1,c⟩:=List.pairwise_cons.1 hp;refine List.pairwise_cons.2 ⟨fun y d=>?_,ih c⟩;obtain⟨i,hi,rfl⟩:=List.mem_iff_getElem.1 d;have hl:i<l.length:=by rw[t.length];exact hi
  have:=t.get i l[i] m[i] V' V'
  grind
structure X3 where
 to:Int
 turn:Int
 st:Value
 lo:0<=to
 hi:to<4294967296
 h1:st.oneCell'=true
instance:Inhabited X3:=⟨⟨0,0,.slice none 0 0,by decide,by decide,rfl⟩⟩
def X3.cells (x:X3):List Value:=[.int .i64 x.to,.int .i64 x.turn,x.st]
def X3.less (x y:X3):Int:=x.to-y.to
theorem X3.swo:Go.Sort.SWO (Go.Proofs.ltOf X3.less) where
 irrefl x:=by simp[Go.Proofs.ltOf,X3.less]
 trans x y z h1 h2:=by simp only[Go.Proofs.ltOf,decide_eq_true_eq]at *;grind [X3.less]
 ntrans x y z h1 h2:=by grind [Go.Proofs.ltOf,X3.less]
theorem X3.wrap (x y:X3):IntKind.i64.wrap (x.to-y.to)=x.to-y.to:=by
 have:=x.lo;have:=x.hi;have:=y.lo;have:=y.hi
 grind [IntKind.wrap,IntKind.bits,IntKind.signed]
section
variable {α:Type}{T:Ty α}{key:α->Int}
open Go.Sort in
theorem w0k (d:Array X3)(i j:Nat)(hi:i<d.size)(a:j<3):(flatK X3.cells 3 d)[i*3+j]! = (d[i]!.cells)[j]!:=by
 rw[get_flatK _ _ _ _ O']
 grind
open Go.Sort in
theorem t0L {H:M0}{S:E0}(b:∀cs x,T.R H S cs x->∃turn st,cs=[.int .i64 (key x),.int .i64 turn,st])(d:T.sz=3):
  ∀(xs:List α) (cs:List Value),V1 T H S cs xs->(∀x∈xs,0<=key x/\key x<4294967296)->∃c:List X3,X7 (fun(r:X3) x=>T.R H S r.cells x/\r.to=key x) c xs/\cs=(c.map X3.cells).flatten
 |[],cs,h,_=>⟨[],.nil,by have:=h.1;simp_all⟩
 |x :: xs,cs,h,hk=>by
  have a:=h.2 0 x V';simp only[Nat.zero_mul,List.drop_zero]at a;obtain⟨turn,st,e⟩:=b _ _ a;have h1:st.oneCell'=true:=T.one a st (by simp_all);have i:V1 T H S (cs.drop T.sz) xs:=by
   have:=h.tail 1
   simp_all
  obtain⟨c,ha,g⟩:=t0L b d xs _ i (fun y j=>hk y (by grind));have f:=hk x V';refine⟨⟨key x,turn,st,f.1,f.2,h1⟩ :: c,.cons ⟨by rw[e]at a;exact a,rfl⟩ ha,?_⟩;rw[List.map_cons,List.flatten_cons,<-g]
  conv=>lhs;rw[<-List.take_append_drop T.sz cs]
  rw[e];rfl
def N0u {H:M0}{S:E0}{a:List X3}{xs:List α}(h:X7 (fun(r:X3) x=>T.R H S r.cells x) a xs):V1 T H S (a.map X3.cells).flatten xs:=by
 induction h with
 |nil=>exact V1.nil
 |cons h _ ih=>
  have:=(V1.one h).append ih
  simp_all
theorem v8:∀a:List X3,((a.map X3.cells).flatten).length=a.length*3
 |[]=>rfl
 |d :: a=>by rw[List.map_cons,List.flatten_cons,List.length_append,v8 a];grind [X3.cells]
theorem flat_get:∀(a:List X3) (i j:Nat) (hi:i<a.length),j<3->((a.map X3.cells).flatten)[i*3+j]?=(a[i].cells)[j]?
 |d :: a,0,j,hi,hj=>by
  grind [X3.cells]
 |d :: a,i+1,j,hi,hj=>by
  simp only[List.map_cons,List.flatten_cons,List.getElem_cons_succ];have:=flat_get a i j (by simp_all) hj
  grind [X3.cells]
open Go.Sort in
def N0C {w:World}{g:Nat}{cur:Array Value}{e:TypeId}{a:List X3}(hg:w.heap[g]?=some (.cells cur e (0,0)))(c:cur.toList.take (a.length*3)=(a.map X3.cells).flatten):HoldsK X3.cells 3 w g 0 a.toArray:=by
 intro t hs;simp only[size_flatK,List.size_toArray]at hs;refine⟨?_,by simp[World.frozen?,hg]⟩;obtain⟨i,j,b,rfl⟩:∃i j,j<3/\t=i*3+j:=⟨t / 3,t % 3,O',O'⟩
 have hi:i<a.length:=O'
 rw[w0k _ _ _ O' b];have h1:(cur.toList.take (a.length*3))[i*3+j]?=(a[i].cells)[j]?:=by simp_all[flat_get]
 rw[List.getElem?_take_of_lt hs]at h1
 simp_all[g0Y,D2,X3.cells]
open Go.Sort in
theorem L0Q (cur:Array Value)(d:Array X3)(h:d.size*3<=cur.size):(putCells id 0 (flatK X3.cells 3 d) cur).toList.take (d.size*3)=(d.toList.map X3.cells).flatten:=by
 apply List.ext_getElem?;intro t
 by_cases hs:t<d.size*3
 ·obtain⟨i,j,b,rfl⟩:∃i j,j<3/\t=i*3+j:=⟨t / 3,t % 3,O',O'⟩
  have hi:i<d.size:=O'
  rw[flat_get d.toList i j O' b];have c:=w0k d i j hi b;have hl:j<(d[i].cells).length:=by grind [X3.cells]
  have a:i*3+j<cur.size:=O'
  simp only[putCells,Array.getElem?_mapIdx,Array.getElem?_eq_getElem a,Option.map_some,size_flatK,Nat.zero_le,Nat.zero_add,hs,and_self,if_true,Nat.sub_zero,id,c]
  simp_all
 grind [v8]
open Go.Sort Go.Shelf Go.Proofs in
theorem M0e {P:Program}{ρ:Ren}(L:SlLaysF0.n6 P ρ)(b1:∀w,(isAgg (ρ.t 24)).run P w=.ok true w)(C:∀w,(Go.sizeOf (ρ.t 24)).run P w=.ok 3 w){g:Nat}(eg:∀args w,(callFunc g args).run P w=.ok (.enter g args) w)
  (e4:∀(x y:X3) (w:World),Calls P g #[.agg x.cells.toArray,.agg y.cells.toArray] w fun e w'=>e=.returned (.int .i64 (x.to-y.to))/\∃q e6,w'=grow (w.drewN q) e6)
  {w:World} {S M:E0} {e:TypeId} {A:Option Addr} {c:Nat} {xs:List α} (c8:∀(S:E0) cs x,T.R w.heap S cs x->∃turn st,cs=[.int .i64 (key x),.int .i64 turn,st]) (n:T.sz=3)
  (ho:Ow T e M w.heap S (.slice A xs.length c) xs) (p:c0P key xs=true):
  Calls P (ρ.f 6) #[.slice A xs.length c,.func (.func g) #[] #[]] w fun ee w1=>ee=.returned (.tuple #[])/\w1.os=w.os/\w1.tape=w.tape/\w1.output=w.output/\w.heap.size<=w1.heap.size/\
   (∀k,k<w.heap.size->(Value.slice A xs.length c).ownBlock≠some k->w1.heap[k]?=w.heap[k]?)/\(∀S1,Y0 w.heap S w1.heap S1->(∀k,S k->S1 k)->Ow T e M w1.heap S1 (.slice A xs.length c) (j5 key xs)):=by
 simp only[c0P,Bool.and_eq_true,List.all_eq_true,decide_eq_true_eq]at p;obtain⟨U,cs,⟨I,z⟩,J⟩:=ho;rcases z with⟨u,h0⟩|⟨gb,cap,cur,u,hgb,hnc,hm,hcs,htake⟩
 ·have hx:xs=[]:=List.eq_nil_of_length_eq_zero h0;subst hx;obtain⟨rfl,rfl⟩:=u;refine(AnyF.slices_SortFunc_none L none 0 _ w).mono ?_
  rintro ee w1 ⟨rfl,rfl⟩
  refine⟨rfl,rfl,rfl,rfl,Nat.le_refl _,fun _ _ _=>rfl,fun S1 _ _=>⟨fun k hk=>by simp_all,[],⟨by simp[j5],.inl ⟨rfl,rfl⟩⟩,V1.nil⟩⟩
 ·obtain⟨rfl,rfl⟩:=u;rw[n]at I hcs htake;obtain⟨ds,l,c5⟩:=t0L (T:=T) (key:=key) (c8 S) n xs cs J p.1.2;have b3:ds.length=xs.length:=l.length;have hH:HoldsK X3.cells 3 w gb 0 ds.toArray:=N0C hgb (by simp_all);have c4:gb<w.heap.size:=getElem?_lt hgb;have hS:=AnyQ.slices_SortFunc L 3 b1 C X3.cells (fun _=>rfl) (fun x v u=>by
    simp only[X3.cells,List.mem_cons,List.not_mem_nil,or_false]at u;rcases u with rfl|rfl|rfl
    ·rfl
    ·rfl
    ·exact x.h1) X3.less X3.swo g #[] gb 0 c ds.toArray w eg (fun m os dk _ x y=>e4 x y _) hH c4 (by simp_all)
  rw[List.size_toArray,b3]at hS;refine hS.mono ?_
  rintro ee w1 ⟨rfl,d',m,os,hp,hso,rfl⟩
  obtain⟨e9,_,o⟩:=hp;simp only[List.size_toArray,b3]at e9;have e1:d'.extract 0 xs.length=d':=by simp_all
  have e2:ds.toArray.extract 0 xs.length=ds.toArray:=by grind
  rw[e1,e2]at o;simp only at o;obtain⟨s,a1,d⟩:=l.perm o.symm;have h5:s.length=xs.length:=a1.symm.length_eq;have e3:s.Pairwise (fun a b=>key a<=key b):=by
   refine X7.pair (f:=X3.to) (fun a b h=>h.2) d ?_;rw[List.pairwise_iff_getElem];intro i j hi hj b4;have h3:=hso i j (Nat.zero_le _) b4 (by simp_all);simp at hi hj;rw[getElem!_pos d' i hi,getElem!_pos d' j hj]at h3;simp only[ltOf,decide_eq_false_iff_not]at h3
   simp_all[X3.less]
  have e5:s=j5 key xs:=y0L key a1.symm e3 p.2;subst e5;have e7:(sortWorldK X3.cells 3 w gb 0 m d' os).heap[gb]?=some (.cells (putCells id 0 (flatK X3.cells 3 d') cur) e (0,0)):=by
   unfold sortWorldK putRowK;rw[heap_grow_old _ _ (by simp_all)];simp[putRow,mapBlock,Sort.ahead,Array.getElem?_modify,hgb,onCells]
  refine⟨rfl,rfl,rfl,rfl,by simp[sortWorldK,putRowK],fun k hk c6=>?_,fun S1 kp c3=>⟨fun k hk=>⟨c3 k (U k hk).1,(U k hk).2⟩,(d'.toList.map X3.cells).flatten,⟨?_,.inr ⟨gb,c,_,by simp_all,e7,O',hm,by rw[n];simpa[putCells]using hcs,?_⟩⟩,?_⟩⟩
  ·have b2:gb≠k:=fun e=>c6 (by simp_all[Value.ownBlock]);unfold sortWorldK putRowK;rw[heap_grow_old _ _ (by simp_all)];simp[putRow,mapBlock,Sort.ahead,Array.getElem?_modify,b2]
  ·grind
  ·grind [L0Q]
  ·have h4:X7 (fun(r:X3) x=>T.R w.heap S r.cells x) d'.toList (j5 key xs):=X7.of d.length fun i a b h1 h2=>(d.get i a b h1 h2).1;exact(N0u h4).J1 kp
open Go.Sort Go.Shelf Go.Proofs in
end
