/- P. Its conditions: none. -/
import Derived.WalkKit
import Derived.Handy
import Derived.Test.YtihmgaccbcfgjaaGreatRAp
import Derived.Test.YtihmgaccbcfgjaaGreatRG01
import Derived.Test.YtihmgaccbcfgjaaGreatRVKey
import Derived.Shelf.SlSortCmp.NoneTotal
set_option linter.all false
set_option maxRecDepth 100000
namespace Go.Proofs.YtihmgaccbcfgjaaGreat
open Go.RowKit Go.Proofs
open Go.V hiding Row
open Go.X
def D0S:(Tryz.prog.info? 22).map (fun i=>(i.zero,i.size,i.bytes))=some (some (.slice none 0 0),1,24):=X'
abbrev rowOf (rows:List Value)(i:Int):Value:=rows.getD i.toNat (.int .i64 0)
def F0N {rows:List Value}{of:List Int}{k:Nat}{x:Int}(h:of[k]?=some x):((of.take k).map (rowOf rows))++[rowOf rows x]=(of.take (k+1)).map (rowOf rows):=by
 rw[List.take_succ,h,List.map_append];rfl
def y0Y {w wr w1:World}{v:Value}{k:Nat}{xs:List Value}{o:Obj}(c:Below w.heap.size w wr)(b:wr.ownsRow w.heap.size 22 1 v k xs)(hg:(wr.alloc o).grownBy w1 v.ownBlock):Below w.heap.size w w1:=by
 have hs:=c.size;refine(c.grown (World.grownBy_alloc wr o none) hs (by intro k hk;cases hk)).grown hg V' ?_
 rintro g a
 rcases b.2 with⟨rfl,_⟩|⟨g',cap,cur,rfl,h1,_⟩
 ·cases a
 ·cases a;exact h1
set_option maxHeartbeats 4000000 in
def E00 (rows:List Value)(of:List Int)(A B:Option Addr)(c d:Nat)(w:World)
  (a1:∀u∈rows,∃a m c,u=.slice a m c)
  (hA:rows≠[]->∃b,A=some ⟨b,0,none⟩/\b<w.heap.size/\∀k:Nat,k<rows.length->O1 w.heap b k=some (rows.getD k (.int .i64 0)))
  (hB:of≠[]->∃b o,B=some ⟨b,o,none⟩/\b<w.heap.size/\∀k:Nat,k<of.length->O1 w.heap b (o+k)=some (.int .i64 (gt of (k:Int))))
  (r:∀i∈of,0<=i/\i<(rows.length:Int)) (hlen:of.length<=5864062014805):
  Calls Tryz.prog 207 #[.slice A rows.length c,.slice B of.length d] w fun e w1=>∃v,e=.returned v/\w1.ownsRow w.heap.size 22 1 v of.length (of.map (rowOf rows))/\Below w.heap.size w w1:=by
 obtain⟨i0,hi,b4,I,R⟩:=info_parts D0S
 go_enter Tryz.func207,Tryz.ntmps207
 go_wp2
 go_loopw [5,10] (fun v i wr=>∃k:Nat,k<=of.length/\i=.int .i64 k/\wr.ownsRow w.heap.size 22 1 v k ((of.take k).map (rowOf rows))/\Below w.heap.size w wr) (fun _ i _=>of.length-(intOf i).toNat)
 case atStart=>exact⟨0,Nat.zero_le _,rfl,World.ownsRow_nil _ _ _ _,Below.refl _ _⟩
 case round=>
  obtain⟨k,hk,rfl,f,t⟩:=hrel
  by_cases hd:k=of.length
  ·have d1:decide ((k:Int)<(of.length:Int))=false:=by simp;omega
   have h:=f;rw[hd,List.take_length]at h
   go_wp2
   go_ret
   exact⟨_,rfl,h,t⟩
  ·have p:k<of.length:=O'
   have d1:decide ((k:Int)<(of.length:Int))=true:=by simp;omega
   obtain⟨bb,oo,rfl,b2,l⟩:=hB (by intro e;simp[e]at p);have U:=l k p;have hx:of[k]?=some (gt of (k:Int)):=by rw[X2 (x:=of[k]) (by simp[p])];simp[p]
   obtain⟨x0,x1⟩:=r _ (List.mem_of_getElem? hx);have b1:=F0N (rows:=rows) hx;generalize gt of (k:Int)=x at *;obtain⟨q,rfl⟩:∃q:Nat,x=q:=⟨x.toNat,O'⟩
   have z:q<rows.length:=O'
   obtain⟨ba,rfl,J,s⟩:=hA (by intro e;simp[e]at z);have c1:=s q z;have e0:wr.cell? ⟨bb,oo+k,none⟩=some (.int .i64 (q:Int)):=cell_of (by unfold O1 at U ⊢;rw[t.block bb b2];exact U);have e1:wr.cell? ⟨ba,q,none⟩=some (rowOf rows (q:Int)):=cell_of (by unfold O1 at c1 ⊢;rw[t.block ba J];exact c1);have b3:∃a m c,rowOf rows (q:Int)=.slice a m c:=a1 _ (by
    have:rowOf rows (q:Int)=rows[q]:=by simp[rowOf,z]
    rw[this];exact List.getElem_mem z)
   have c6:=t.size;have b5:rows.getD ((q:Int)).toNat (.int .i64 0)=rowOf rows (q:Int):=rfl;generalize rowOf rows (q:Int)=rq at *;obtain⟨ra,rm,rc,rfl⟩:=b3;clear l U c1 s hA hB r
   go_wp2_with (at_builtin;refine wpList_append_own _ rfl _ _ 44 rfl w.heap.size 22 i0 (.slice none 0 0) 1 24 Tryz.underlying44 hi b4 I R rfl (by decide) _ _ _ rfl (f.alloc _) ⟨wr.heap.size,0,none⟩ 1 1 [.slice ra rm rc] rfl rfl ?c1 ?c2 ?c3 ?c4 ?c5 ?_)
   case c1=>
    intro j u C
    match j,C with
    |0,C=>simp at C;subst C;simp[Addr.add]
   case c2=>intro u hu;simp at hu;subst hu;rfl
   case c3=>unfold maxLen;omega
   case c4=>omega
   case c5=>simp;omega
   intro v' w1 n g _;have y:=y0Y t f g;rw[<-List.map_take,b1]at n;clear g f
   go_wp2
   go_roundw
   case rel=>exact⟨k+1,O',by go_num,n,y⟩
   case measure=>simp[intOf];omega
end Go.Proofs.YtihmgaccbcfgjaaGreat
namespace Go.V
open Go.RowKit
inductive G7 {α β:Type} (R:α->β->Prop):List α->List β->Prop
 |nil:G7 R [] []
 |cons {a b l m} (h:R a b) (t:G7 R l m):G7 R (a :: l) (b :: m)
def G7.perm {α β:Type}{R:α->β->Prop}{l l':List α}(h:l.Perm l'):∀{m:List β},G7 R l m->∃b,m.Perm b/\G7 R l' b:=by
 induction h with
 |nil=>intro m h;exact⟨m,.refl _,h⟩
 |cons x _ ih=>
  intro m h;cases h with
  |cons h t=>
   obtain⟨b,hp,a⟩:=ih t;exact⟨_ :: b,hp.cons _,.cons h a⟩
 |swap x y l=>
  intro m h;cases h with
  |cons h t=>
   cases t with
   |cons a t=>exact⟨_ :: _ :: _,List.Perm.swap _ _ _,.cons a (.cons h t)⟩
 |trans _ _ ih1 ih2=>
  intro m h;obtain⟨m1,p1,h1⟩:=ih1 h;obtain⟨m2,c,a⟩:=ih2 h1;exact⟨m2,p1.trans c,a⟩
theorem G7.length {α β:Type}{R:α->β->Prop}{l:List α}{m:List β}(h:G7 R l m):l.length=m.length:=by
 induction h with
 |nil=>rfl
 |cons _ _ a=>grind
theorem G7.get {α β:Type}{R:α->β->Prop}{l:List α}{m:List β}(h:G7 R l m):∀(i:Nat) (a:α) (b:β),l[i]?=some a->m[i]?=some b->R a b:=by
 induction h with
 |nil=>simp
 |cons h _ ih=>
  grind
theorem G7.of {α β:Type}{R:α->β->Prop}:∀{l:List α} {m:List β},l.length=m.length->(∀(i:Nat) (a:α) (b:β),l[i]?=some a->m[i]?=some b->R a b)->G7 R l m
 |[],[],_,_=>.nil
 |[],_ :: _,h,_=>by grind
 |_ :: _,[],h,_=>by grind
 |a :: l,b :: m,h,c=>.cons (c 0 a b rfl rfl) (G7.of (by simp_all) fun i x y e d=>c (i+1) x y (by simp_all) (by simp_all))
theorem G7.pair {α β:Type}{R:α->β->Prop}{f:α->Int}{g:β->Int}(hR:∀a b,R a b->f a=g b){l:List α}{m:List β}(h:G7 R l m)(hp:l.Pairwise (fun a b=>f a<=f b)):m.Pairwise (fun a b=>g a<=g b):=by
 induction h with
 |nil=>simp
 |cons h t ih=>
  rename_i a b l m;obtain⟨h1,d⟩:=List.pairwise_cons.1 hp;refine List.pairwise_cons.2 ⟨fun y c=>?_,ih d⟩;obtain⟨i,hi,rfl⟩:=List.mem_iff_getElem.1 c;have hl:i<l.length:=by rw[t.length];exact hi
  have:=t.get i l[i] m[i] Z' Z'
  grind
structure Y2 where
 to:Int
 turn:Int
 st:Value
 lo:0<=to
 hi:to<4294967296
 h1:st.oneCell'=true
instance:Inhabited Y2:=⟨⟨0,0,.slice none 0 0,by decide,by decide,rfl⟩⟩
def Y2.cells (x:Y2):List Value:=[.int .i64 x.to,.int .i64 x.turn,x.st]
def Y2.less (x y:Y2):Int:=x.to-y.to
theorem Y2.swo:Go.Sort.SWO (Go.Proofs.ltOf Y2.less) where
 irrefl x:=by simp[Go.Proofs.ltOf,Y2.less]
 trans x y z h1 h2:=by simp only[Go.Proofs.ltOf,decide_eq_true_eq]at *;grind [Y2.less]
 ntrans x y z h1 h2:=by grind [Go.Proofs.ltOf,Y2.less]
theorem Y2.wrap (x y:Y2):IntKind.i64.wrap (x.to-y.to)=x.to-y.to:=by
 have:=x.lo;have:=x.hi;have:=y.lo;have:=y.hi
 grind [IntKind.wrap,IntKind.bits,IntKind.signed]
section
variable {α:Type}{T:Ty α}{key:α->Int}
open Go.Sort in
theorem v0Q (d:Array Y2)(i j:Nat)(hi:i<d.size)(a:j<3):(flatK Y2.cells 3 d)[i*3+j]! = (d[i]!.cells)[j]!:=by
 rw[get_flatK _ _ _ _ O']
 grind
open Go.Sort in
theorem u03 {H:I0}{S:D0}(a:∀cs x,T.R H S cs x->∃turn st,cs=[.int .i64 (key x),.int .i64 turn,st])(d:T.sz=3):
  ∀(xs:List α) (cs:List Value),R1 T H S cs xs->(∀x∈xs,0<=key x/\key x<4294967296)->∃c:List Y2,G7 (fun(r:Y2) x=>T.R H S r.cells x/\r.to=key x) c xs/\cs=(c.map Y2.cells).flatten
 |[],cs,h,_=>⟨[],.nil,by have:=h.1;simp_all⟩
 |x :: xs,cs,h,hk=>by
  have b:=h.2 0 x Z';simp only[Nat.zero_mul,List.drop_zero]at b;obtain⟨turn,st,e⟩:=a _ _ b;have h1:st.oneCell'=true:=T.one b st (by simp_all);have g:R1 T H S (cs.drop T.sz) xs:=by
   have:=h.tail 1
   simp_all
  obtain⟨c,ha,i⟩:=u03 a d xs _ g (fun y j=>hk y (by grind));have f:=hk x Z';refine⟨⟨key x,turn,st,f.1,f.2,h1⟩ :: c,.cons ⟨by rw[e]at b;exact b,rfl⟩ ha,?_⟩;rw[List.map_cons,List.flatten_cons,<-i]
  conv=>lhs;rw[<-List.take_append_drop T.sz cs]
  rw[e];rfl
def E0Q {H:I0}{S:D0}{a:List Y2}{xs:List α}(h:G7 (fun(r:Y2) x=>T.R H S r.cells x) a xs):R1 T H S (a.map Y2.cells).flatten xs:=by
 induction h with
 |nil=>exact R1.nil
 |cons h _ ih=>
  have:=(R1.one h).append ih
  simp_all
theorem O5:∀a:List Y2,((a.map Y2.cells).flatten).length=a.length*3
 |[]=>rfl
 |d :: a=>by rw[List.map_cons,List.flatten_cons,List.length_append,O5 a];grind [Y2.cells]
theorem flat_get:∀(a:List Y2) (i j:Nat) (hi:i<a.length),j<3->((a.map Y2.cells).flatten)[i*3+j]?=(a[i].cells)[j]?
 |d :: a,0,j,hi,hj=>by
  grind [Y2.cells]
 |d :: a,i+1,j,hi,hj=>by
  simp only[List.map_cons,List.flatten_cons,List.getElem_cons_succ];have:=flat_get a i j (by simp_all) hj
  grind [Y2.cells]
open Go.Sort in
def x0X {w:World}{g:Nat}{cur:Array Value}{e:TypeId}{a:List Y2}(hg:w.heap[g]?=some (.cells cur e (0,0)))(c:cur.toList.take (a.length*3)=(a.map Y2.cells).flatten):HoldsK Y2.cells 3 w g 0 a.toArray:=by
 intro t hs;simp only[size_flatK,List.size_toArray]at hs;refine⟨?_,by simp[World.frozen?,hg]⟩;obtain⟨i,j,b,rfl⟩:∃i j,j<3/\t=i*3+j:=⟨t / 3,t % 3,O',O'⟩
 have hi:i<a.length:=O'
 rw[v0Q _ _ _ O' b];have h1:(cur.toList.take (a.length*3))[i*3+j]?=(a[i].cells)[j]?:=by simp_all[flat_get]
 rw[List.getElem?_take_of_lt hs]at h1
 simp_all[e0W,O1,Y2.cells]
open Go.Sort in
theorem G0F (cur:Array Value)(d:Array Y2)(h:d.size*3<=cur.size):(putCells id 0 (flatK Y2.cells 3 d) cur).toList.take (d.size*3)=(d.toList.map Y2.cells).flatten:=by
 apply List.ext_getElem?;intro t
 by_cases hs:t<d.size*3
 ·obtain⟨i,j,b,rfl⟩:∃i j,j<3/\t=i*3+j:=⟨t / 3,t % 3,O',O'⟩
  have hi:i<d.size:=O'
  rw[flat_get d.toList i j O' b];have c:=v0Q d i j hi b;have hl:j<(d[i].cells).length:=by grind [Y2.cells]
  have a:i*3+j<cur.size:=O'
  simp only[putCells,Array.getElem?_mapIdx,Array.getElem?_eq_getElem a,Option.map_some,size_flatK,Nat.zero_le,Nat.zero_add,hs,and_self,if_true,Nat.sub_zero,id,c]
  simp_all
 grind [O5]
open Go.Sort Go.Shelf Go.Proofs in
theorem C05 {P:Program}{ρ:Ren}(L:SlLaysF0.n6 P ρ)(a1:∀w,(isAgg (ρ.t 24)).run P w=.ok true w)(U:∀w,(Go.sizeOf (ρ.t 24)).run P w=.ok 3 w){g:Nat}(eg:∀args w,(callFunc g args).run P w=.ok (.enter g args) w)
  (e4:∀(x y:Y2) (w:World),Calls P g #[.agg x.cells.toArray,.agg y.cells.toArray] w fun e w'=>e=.returned (.int .i64 (x.to-y.to))/\∃q c8,w'=grow (w.drewN q) c8)
  {w:World} {S M:D0} {e:TypeId} {A:Option Addr} {c:Nat} {xs:List α} (e6:∀(S:D0) cs x,T.R w.heap S cs x->∃turn st,cs=[.int .i64 (key x),.int .i64 turn,st]) (o:T.sz=3)
  (ho:Ow T e M w.heap S (.slice A xs.length c) xs) (n:b0v key xs=true):
  Calls P (ρ.f 6) #[.slice A xs.length c,.func (.func g) #[] #[]] w fun ee w1=>ee=.returned (.tuple #[])/\w1.os=w.os/\w1.tape=w.tape/\w1.output=w.output/\w.heap.size<=w1.heap.size/\
   (∀k,k<w.heap.size->(Value.slice A xs.length c).ownBlock≠some k->w1.heap[k]?=w.heap[k]?)/\(∀S1,P0 w.heap S w1.heap S1->(∀k,S k->S1 k)->Ow T e M w1.heap S1 (.slice A xs.length c) (F7 key xs)):=by
 simp only[b0v,Bool.and_eq_true,List.all_eq_true,decide_eq_true_eq]at n;obtain⟨C,cs,⟨b1,J⟩,z⟩:=ho;rcases J with⟨u,h0⟩|⟨gb,cap,cur,u,hgb,hnc,hm,hcs,htake⟩
 ·have hx:xs=[]:=List.eq_nil_of_length_eq_zero h0;subst hx;obtain⟨rfl,rfl⟩:=u;refine(AnyF.slices_SortFunc_none L none 0 _ w).mono ?_
  rintro ee w1 ⟨rfl,rfl⟩
  refine⟨rfl,rfl,rfl,rfl,Nat.le_refl _,fun _ _ _=>rfl,fun S1 _ _=>⟨fun k hk=>by simp_all,[],⟨by simp[F7],.inl ⟨rfl,rfl⟩⟩,R1.nil⟩⟩
 ·obtain⟨rfl,rfl⟩:=u;rw[o]at b1 hcs htake;obtain⟨ds,l,c3⟩:=u03 (T:=T) (key:=key) (e6 S) o xs cs z n.1.2;have b3:ds.length=xs.length:=l.length;have hH:HoldsK Y2.cells 3 w gb 0 ds.toArray:=x0X hgb (by simp_all);have b4:gb<w.heap.size:=getElem?_lt hgb;have hS:=AnyQ.slices_SortFunc L 3 a1 U Y2.cells (fun _=>rfl) (fun x v u=>by
    simp only[Y2.cells,List.mem_cons,List.not_mem_nil,or_false]at u;rcases u with rfl|rfl|rfl
    ·rfl
    ·rfl
    ·exact x.h1) Y2.less Y2.swo g #[] gb 0 c ds.toArray w eg (fun m os dk _ x y=>e4 x y _) hH b4 (by simp_all)
  rw[List.size_toArray,b3]at hS;refine hS.mono ?_
  rintro ee w1 ⟨rfl,d',m,os,hp,hso,rfl⟩
  obtain⟨e3,_,s⟩:=hp;simp only[List.size_toArray,b3]at e3;have e1:d'.extract 0 xs.length=d':=by simp_all
  have e2:ds.toArray.extract 0 xs.length=ds.toArray:=by grind
  rw[e1,e2]at s;simp only at s;obtain⟨p,b2,d⟩:=l.perm s.symm;have e7:p.length=xs.length:=b2.symm.length_eq;have c0:p.Pairwise (fun a b=>key a<=key b):=by
   refine G7.pair (f:=Y2.to) (fun a b h=>h.2) d ?_;rw[List.pairwise_iff_getElem];intro i j hi hj c5;have h3:=hso i j (Nat.zero_le _) c5 (by simp_all);simp at hi hj;rw[getElem!_pos d' i hi,getElem!_pos d' j hj]at h3;simp only[ltOf,decide_eq_false_iff_not]at h3
   simp_all[Y2.less]
  have b5:p=F7 key xs:=A05 key b2.symm c0 n.2;subst b5;have c4:(sortWorldK Y2.cells 3 w gb 0 m d' os).heap[gb]?=some (.cells (putCells id 0 (flatK Y2.cells 3 d') cur) e (0,0)):=by
   unfold sortWorldK putRowK;rw[heap_grow_old _ _ (by simp_all)];simp[putRow,mapBlock,Sort.ahead,Array.getElem?_modify,hgb,onCells]
  refine⟨rfl,rfl,rfl,rfl,by simp[sortWorldK,putRowK],fun k hk e5=>?_,fun S1 kp c6=>⟨fun k hk=>⟨c6 k (C k hk).1,(C k hk).2⟩,(d'.toList.map Y2.cells).flatten,⟨?_,.inr ⟨gb,c,_,by simp_all,c4,O',hm,by rw[o];simpa[putCells]using hcs,?_⟩⟩,?_⟩⟩
  ·have I:gb≠k:=fun e=>e5 (by simp_all[Value.ownBlock]);unfold sortWorldK putRowK;rw[heap_grow_old _ _ (by simp_all)];simp[putRow,mapBlock,Sort.ahead,Array.getElem?_modify,I]
  ·grind
  ·grind [G0F]
  ·have h4:G7 (fun(r:Y2) x=>T.R w.heap S r.cells x) d'.toList (F7 key xs):=G7.of d.length fun i a b h1 h2=>(d.get i a b h1 h2).1;exact(E0Q h4).L0 kp
open Go.Sort Go.Shelf Go.Proofs in
end
