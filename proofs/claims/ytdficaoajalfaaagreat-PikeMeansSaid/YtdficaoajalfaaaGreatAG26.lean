/- Some rows of a table, moved. slices.SortFunc of structs whose first cell is a small number, by that number; slices.Sort of numbers: on slices of the call's own. Its conditions: none. -/
import Derived.WalkKit
import Derived.Handy
import Derived.Test.YtdficaoajalfaaaGreatAAp
import Derived.Test.YtdficaoajalfaaaGreatAG02
import Derived.Test.YtdficaoajalfaaaGreatAVKey
import Derived.Shelf.SlSortCmp.NoneTotal
open List (map_cons flatten_cons size_toArray)
set_option linter.all false
set_option maxRecDepth 100000
namespace Go.Proofs.YtdficaoajalfaaaGreat
open Go.RowKit Go.Proofs
open Go.V hiding Row
open Go.X
end Go.Proofs.YtdficaoajalfaaaGreat
namespace Go.V
open Go.RowKit
inductive P7 {α β:Type} (R:α->β->Prop):List α->List β->Prop
 |nil:P7 R [] []
 |cons {a b l m} (h:R a b) (t:P7 R l m):P7 R (a :: l) (b :: m)
theorem P7.perm {α β:Type} {R:α->β->Prop} {l l':List α} (h:l.Perm l'):∀ {m:List β},P7 R l m->∃ m',m.Perm m'/\P7 R l' m':=by
 induction h with
 |nil=>intro m h;exact ⟨m,.refl _,h⟩
 |
  cons x _ ih=>
  intro m h;cases h with
  |
   cons h t=>
   obtain ⟨m',hp,h2⟩:=ih t;exact ⟨_ :: m',hp.cons _,.cons h h2⟩
 |
  swap x y l=>
  intro m h;cases h with
  |
   cons h t=>
   cases t with
   |cons h2 t=>exact ⟨_ :: _ :: _,List.Perm.swap _ _ _,.cons h2 (.cons h t)⟩
 |
  trans _ _ ih1 ih2=>
  intro m h;obtain ⟨m1,p1,h1⟩:=ih1 h;obtain ⟨m2,p2,h2⟩:=ih2 h1;exact ⟨m2,p1.trans p2,h2⟩
theorem P7.length {α β:Type} {R:α->β->Prop} {l:List α} {m:List β} (h:P7 R l m):l.length=m.length:=by
 induction h with
 |nil=>rfl
 |cons _ _ ih=>simp [ih]
theorem P7.get {α β:Type} {R:α->β->Prop} {l:List α} {m:List β} (h:P7 R l m):∀ (i:Nat) (a:α) (b:β),l[i]?=some a->m[i]?=some b->R a b:=by
 induction h with
 |nil=>intro i a b h;simp at h
 |
  cons h _ ih=>
  intro i a b h1 h2;cases i with
  |zero=>simp at h1 h2;subst h1;subst h2;exact h
  |succ i=>exact ih i a b (by simpa using h1) (by simpa using h2)
theorem P7.of {α β:Type} {R:α->β->Prop}:∀ {l:List α} {m:List β},l.length=m.length->(∀ (i:Nat) (a:α) (b:β),l[i]?=some a->m[i]?=some b->R a b)->P7 R l m
 |[],[],_,_=>.nil
 |[],_ :: _,h,_=>by simp at h
 |_ :: _,[],h,_=>by simp at h
 |a :: l,b :: m,h,h2=>.cons (h2 0 a b rfl rfl) (P7.of (by simpa using h) fun i x y hx hy=>h2 (i+1) x y (by simpa using hx) (by simpa using hy))
theorem P7.pair {α β:Type} {R:α->β->Prop} {f:α->Int} {g:β->Int} (hR:∀ a b,R a b->f a=g b) {l:List α} {m:List β} (h:P7 R l m) (hp:l.Pairwise (fun a b=>f a<=f b)):m.Pairwise (fun a b=>g a<=g b):=by
 induction h with
 |nil=>exact List.Pairwise.nil
 |
  cons h t ih=>
  rename_i a b l m;obtain ⟨h1,h2⟩:=List.pairwise_cons.1 hp;refine List.pairwise_cons.2 ⟨fun y hy=>?_,ih h2⟩;obtain ⟨i,hi,rfl⟩:=List.mem_iff_getElem.1 hy;have hl:i<l.length:=by rw [t.length];exact hi
  have:=t.get i l[i] m[i] (by simp [hl]) (by simp [hi]);rw [<-hR _ _ h,<-hR _ _ this];exact h1 _ (List.getElem_mem hl)
structure J3 where
 to:Int
 turn:Int
 st:Value
 lo:0<=to
 hi:to<4294967296
 h1:st.oneCell'=true
instance:Inhabited J3:=⟨⟨0,0,.slice none 0 0,by decide,by decide,rfl⟩⟩
def J3.cells (x:J3):List Value:=[.int .i64 x.to,.int .i64 x.turn,x.st]
def J3.less (x y:J3):Int:=x.to-y.to
theorem J3.swo:Go.Sort.SWO (Go.Proofs.ltOf J3.less) where
 irrefl x:=by simp [Go.Proofs.ltOf,J3.less]
 trans x y z h1 h2:=by simp only [Go.Proofs.ltOf,decide_eq_true_eq] at *;simp only [J3.less] at *;omega
 ntrans x y z h1 h2:=by simp only [Go.Proofs.ltOf,decide_eq_false_iff_not] at *;simp only [J3.less] at *;omega
theorem J3.wrap (x y:J3):IntKind.i64.wrap (x.to-y.to)=x.to-y.to:=by
 have:=x.lo;have:=x.hi;have:=y.lo;have:=y.hi;simp [IntKind.wrap,IntKind.bits,IntKind.signed];omega
section
variable {α:Type} {T:Ty α} {key:α->Int}
open Go.Sort in
theorem u0j (d:Array J3) (i j:Nat) (hi:i<d.size) (hj:j<3):(flatK J3.cells 3 d)[i*3+j]! = (d[i]!.cells)[j]!:=by
 rw [get_flatK _ _ _ _ (by omega)];rw [show (i*3+j) / 3=i from by omega,show (i*3+j) % 3=j from by omega]
open Go.Sort in
theorem p0s {H:K0} {S:D0} (hsh:∀ cs x,T.R H S cs x->∃ turn st,cs=[.int .i64 (key x),.int .i64 turn,st]) (hsz:T.sz=3) :
  ∀ (xs:List α) (cs:List Value),U1 T H S cs xs->(∀ x∈xs,0<=key x/\key x<4294967296)->∃ ds:List J3,P7 (fun (r:J3) x=>T.R H S r.cells x/\r.to=key x) ds xs/\cs=(ds.map J3.cells).flatten
 |[],cs,h,_=>⟨[],.nil,by have:=h.1;simp at this;simpa using this⟩
 |
  x :: xs,cs,h,hk=>by
  have h0:=h.2 0 x (by simp);simp only [Nat.zero_mul,List.drop_zero] at h0;obtain ⟨turn,st,e⟩:=hsh _ _ h0;have h1:st.oneCell'=true:=T.one h0 st (by rw [e];simp);have ht:U1 T H S (cs.drop T.sz) xs:=by
   have:=h.tail 1;simpa using this
  obtain ⟨ds,ha,hc⟩:=p0s hsh hsz xs _ ht (fun y hy=>hk y (by simp [hy]));have hx:=hk x (by simp);refine ⟨⟨key x,turn,st,hx.1,hx.2,h1⟩ :: ds,.cons ⟨by rw [e] at h0;exact h0,rfl⟩ ha,?_⟩;rw [map_cons,flatten_cons,<-hc]
  conv=>lhs;rw [<-List.take_append_drop T.sz cs]
  rw [e];rfl
theorem B0y {H:K0} {S:D0} {ds:List J3} {xs:List α} (h:P7 (fun (r:J3) x=>T.R H S r.cells x) ds xs):U1 T H S (ds.map J3.cells).flatten xs:=by
 induction h with
 |nil=>exact U1.nil
 |
  cons h _ ih=>
  have:=(U1.one h).append ih;simpa using this
theorem o6:∀ ds:List J3,((ds.map J3.cells).flatten).length=ds.length*3
 |[]=>rfl
 |d :: ds=>by rw [map_cons,flatten_cons,List.length_append,o6 ds];simp [J3.cells];omega
theorem l0s:∀ (ds:List J3) (i j:Nat) (hi:i<ds.length),j<3->((ds.map J3.cells).flatten)[i*3+j]?=(ds[i].cells)[j]?
 |
  d :: ds,0,j,hi,hj=>by
  simp only [map_cons,flatten_cons,Nat.zero_mul,Nat.zero_add,List.getElem_cons_zero];rw [List.getElem?_append_left (by simp [J3.cells];omega)]
 |
  d :: ds,i+1,j,hi,hj=>by
  simp only [map_cons,flatten_cons,List.getElem_cons_succ];rw [List.getElem?_append_right (by simp [J3.cells];omega)];have:=l0s ds i j (by simpa using hi) hj;rw [<-this];congr 1;simp [J3.cells];omega
open Go.Sort in
theorem z0p {w:World} {g:Nat} {cur:Array Value} {e:TypeId} {ds:List J3} (hg:w.heap[g]?=some (.cells cur e (0,0))) (ht:cur.toList.take (ds.length*3)=(ds.map J3.cells).flatten):HoldsK J3.cells 3 w g 0 ds.toArray:=by
 intro t hs;simp only [size_flatK,size_toArray] at hs;refine ⟨?_,by simp [World.frozen?,hg]⟩;obtain ⟨i,j,hj,rfl⟩:∃ i j,j<3/\t=i*3+j:=⟨t / 3,t % 3,by omega,by omega⟩
 have hi:i<ds.length:=by omega
 rw [u0j _ _ _ (by simpa using hi) hj];have h1:(cur.toList.take (ds.length*3))[i*3+j]?=(ds[i].cells)[j]?:=by rw [ht];exact l0s ds i j hi hj
 rw [List.getElem?_take_of_lt hs] at h1;rw [h0f];unfold U2;rw [hg];simp only [Nat.zero_add];rw [<-Array.getElem?_toList,h1];have hl:j<(ds[i].cells).length:=by simp [J3.cells];omega
 simp [hi,hl]
open Go.Sort in
theorem A0Z (cur:Array Value) (d:Array J3) (h:d.size*3<=cur.size):(putCells id 0 (flatK J3.cells 3 d) cur).toList.take (d.size*3)=(d.toList.map J3.cells).flatten:=by
 apply List.ext_getElem?;intro t
 by_cases hs:t<d.size*3
 ·obtain ⟨i,j,hj,rfl⟩:∃ i j,j<3/\t=i*3+j:=⟨t / 3,t % 3,by omega,by omega⟩
  have hi:i<d.size:=by omega
  rw [l0s d.toList i j (by simpa using hi) hj];rw [List.getElem?_take_of_lt hs,Array.getElem?_toList];have h2:=u0j d i j hi hj;have hl:j<(d[i].cells).length:=by simp [J3.cells];omega
  have hlt:i*3+j<cur.size:=by omega
  simp only [putCells,Array.getElem?_mapIdx,Array.getElem?_eq_getElem hlt,Option.map_some,size_flatK,Nat.zero_le,Nat.zero_add,hs,and_self,if_true,Nat.sub_zero,id,h2];simp [hi,hl]
 ·rw [List.getElem?_take_eq_none (by omega),List.getElem?_eq_none (by rw [o6];simp;omega)]
open Go.Sort Go.Shelf Go.Proofs in
theorem C0r {P:Program} {ρ:Ren} (L:SlLaysF0.n6 P ρ) (hagg:∀ w,(isAgg (ρ.t 24)).run P w=.ok true w) (hszt:∀ w,(Go.sizeOf (ρ.t 24)).run P w=.ok 3 w) {g:Nat} (eg:∀ args w,(callFunc g args).run P w=.ok (.enter g args) w)
  (hcl:∀ (x y:J3) (w:World),Calls P g #[.agg x.cells.toArray,.agg y.cells.toArray] w fun e w'=>e=.returned (.int .i64 (x.to-y.to))/\∃ q os',w'=grow (w.drewN q) os')
  {w:World} {S M:D0} {e:TypeId} {A:Option Addr} {c:Nat} {xs:List α} (hsh:∀ (S:D0) cs x,T.R w.heap S cs x->∃ turn st,cs=[.int .i64 (key x),.int .i64 turn,st]) (hsz:T.sz=3)
  (ho:Ow T e M w.heap S (.slice A xs.length c) xs) (hok:b0j key xs=true) :
  Calls P (ρ.f 6) #[.slice A xs.length c,.func (.func g) #[] #[]] w fun ee w1=>ee=.returned (.tuple #[])/\w1.os=w.os/\w1.tape=w.tape/\w1.output=w.output/\w.heap.size<=w1.heap.size/\
   (∀ k,k<w.heap.size->(Value.slice A xs.length c).ownBlock≠some k->w1.heap[k]?=w.heap[k]?)/\(∀ S1,U0 w.heap S w1.heap S1->(∀ k,S k->S1 k)->Ow T e M w1.heap S1 (.slice A xs.length c) (r7 key xs)):=by
 simp only [b0j,Bool.and_eq_true,List.all_eq_true,decide_eq_true_eq] at hok;obtain ⟨hs0,cs,⟨hcl0,hrow⟩,hels⟩:=ho;rcases hrow with ⟨hv,h0⟩ | ⟨gb,cap,cur,hv,hgb,hnc,hm,hcs,htake⟩
 ·have hx:xs=[]:=List.eq_nil_of_length_eq_zero h0;subst hx;simp at hv;obtain ⟨rfl,rfl⟩:=hv;refine (AnyF.slices_SortFunc_none L none 0 _ w).mono ?_
  rintro ee w1 ⟨rfl,rfl⟩
  refine ⟨rfl,rfl,rfl,rfl,Nat.le_refl _,fun _ _ _=>rfl,fun S1 _ _=>⟨fun k hk=>by simp [Value.ownBlock] at hk,[],⟨by simp [r7],.inl ⟨rfl,rfl⟩⟩,U1.nil⟩⟩
 ·simp at hv;obtain ⟨rfl,rfl⟩:=hv;rw [hsz] at hcl0 hcs htake;obtain ⟨ds,hall,hflat⟩:=p0s (T:=T) (key:=key) (hsh S) hsz xs cs hels hok.1.2;have hdl:ds.length=xs.length:=hall.length;have hH:HoldsK J3.cells 3 w gb 0 ds.toArray:=z0p hgb (by rw [hdl,htake,hflat]);have hgl:gb<w.heap.size:=getElem?_lt hgb;have hS:=AnyQ.slices_SortFunc L 3 hagg hszt J3.cells (fun _=>rfl) (fun x v hv=>by
    simp only [J3.cells,List.mem_cons,List.not_mem_nil,or_false] at hv;rcases hv with rfl | rfl | rfl
    ·rfl
    ·rfl
    ·exact x.h1) J3.less J3.swo g #[] gb 0 c ds.toArray w eg (fun m os dk _ x y=>hcl x y _) hH hgl (by simp only [size_toArray,hdl];exact hok.1.1)
  rw [size_toArray,hdl] at hS;refine hS.mono ?_
  rintro ee w1 ⟨rfl,d',m,os,hp,hso,rfl⟩
  obtain ⟨hp1,_,hp3⟩:=hp;simp only [size_toArray,hdl] at hp1;have e1:d'.extract 0 xs.length=d':=by rw [<-hp1];exact Array.extract_size
  have e2:ds.toArray.extract 0 xs.length=ds.toArray:=by rw [<-hdl];simp
  rw [e1,e2] at hp3;simp only at hp3;obtain ⟨xs',hpx,hall'⟩:=hall.perm hp3.symm;have hxl:xs'.length=xs.length:=hpx.symm.length_eq;have hpw:xs'.Pairwise (fun a b=>key a<=key b):=by
   refine P7.pair (f:=J3.to) (fun a b h=>h.2) hall' ?_;rw [List.pairwise_iff_getElem];intro i j hi hj hij;have h3:=hso i j (Nat.zero_le _) hij (by simp at hj;omega);simp at hi hj;rw [getElem!_pos d' i hi,getElem!_pos d' j hj] at h3;simp only [ltOf,decide_eq_false_iff_not] at h3;simp only [J3.less] at h3;simp only [Array.getElem_toList];omega
  have hxs:xs'=r7 key xs:=E0Z key hpx.symm hpw hok.2;subst hxs;have hb1:(sortWorldK J3.cells 3 w gb 0 m d' os).heap[gb]?=some (.cells (putCells id 0 (flatK J3.cells 3 d') cur) e (0,0)):=by
   unfold sortWorldK putRowK;rw [heap_grow_old _ _ (by simpa using hgl)];simp [putRow,mapBlock,Sort.ahead,Array.getElem?_modify,hgb,onCells]
  refine ⟨rfl,rfl,rfl,rfl,by simp [sortWorldK,putRowK],fun k hk hne=>?_,fun S1 kp hs1=>⟨fun k hk=>⟨hs1 k (hs0 k hk).1,(hs0 k hk).2⟩,(d'.toList.map J3.cells).flatten,⟨?_,.inr ⟨gb,c,_,by rw [e0j],hb1,by rw [e0j];exact hnc,hm,by rw [hsz];simpa [putCells] using hcs,?_⟩⟩,?_⟩⟩
  ·have hne2:gb≠k:=fun e=>hne (by rw [e];simp [Value.ownBlock]);unfold sortWorldK putRowK;rw [heap_grow_old _ _ (by simpa using hk)];simp [putRow,mapBlock,Sort.ahead,Array.getElem?_modify,hne2]
  ·rw [o6,hsz,e0j];simp [hp1]
  ·rw [hsz,e0j];have:=A0Z cur d' (by rw [hp1,hcs];omega);rw [hp1] at this;exact this
  ·have h4:P7 (fun (r:J3) x=>T.R w.heap S r.cells x) d'.toList (r7 key xs):=P7.of hall'.length fun i a b h1 h2=>(hall'.get i a b h1 h2).1;exact (B0y h4).L1 kp
open Go.Sort Go.Shelf Go.Proofs in
end
