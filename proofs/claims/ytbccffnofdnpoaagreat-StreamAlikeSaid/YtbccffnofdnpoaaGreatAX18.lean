/- P. Its conditions: none. -/
import Derived.Test.YtbccffnofdnpoaaGreatAX17
import Derived.Test.YtbccffnofdnpoaaGreatAVKey
import Derived.Shelf.Sort.Plain
import Derived.Shelf.Slices.In.SortNone
set_option linter.all false
namespace Go.X
open Go.V Go.RowKit Go.Sort Go.Shelf Go.Proofs
def o0i {H:M0}{S:E0}{cs:List Value}{xs:List Int}:V1 (Z1 .i64) H S cs xs↔cs=xs.map (.int .i64):=by
 constructor
 ·rintro⟨h1,a⟩
  simp only[Z1,Nat.mul_one]at h1 a;apply List.ext_getElem (by simp[h1]);intro i b d;have:=a i xs[i] V';have e:List.take 1 (List.drop i cs)=[cs[i]]:=by rw[List.drop_eq_getElem_cons b,List.take_succ_cons,List.take_zero]
  rw[e]at this;simpa using this
 ·rintro rfl
  refine⟨by simp[Z1],fun i x c=>?_⟩;obtain⟨hi,rfl⟩:=List.getElem?_eq_some_iff.1 c;simp only[Z1,Nat.mul_one];rw[List.drop_eq_getElem_cons (by simpa using hi),List.take_succ_cons,List.take_zero];simp
def F0f {xs:List Int}(hd:a0H (fun i=>i) xs=true):(xs.mergeSort fun x y=>decide (x<=y))=j5 (fun i=>i) xs:=by
 refine y0L (fun i=>i) (List.mergeSort_perm xs _) ?_ hd;have:=List.pairwise_mergeSort (le:=fun x y:Int=>decide (x<=y)) (fun a b c h1 d=>by simp at h1 d ⊢;omega) (fun a b=>Z') xs;simpa using this
def K01 {P:Program}{ρ:Ren}{f:FuncId}(L:Lays.n189 P ρ)(R:ρ.f 189=f){w:World}{S:E0}{e:TypeId}{v:Value}{xs:List Int}{cs:List Value}
  (b:Row w.heap e (Z1 .i64).sz v xs.length cs) (l:V1 (Z1 .i64) w.heap S cs xs) (h1:xs.length<4611686018427387904) (U:a0H (fun i=>i) xs=true) (he:e<Qe):
  Calls P f #[v] w fun s w1=>s=.returned (.tuple #[])/\w1.os=w.os/\w1.tape=w.tape/\w1.output=w.output/\w.heap.size<=w1.heap.size/\
   (∀k,k<w.heap.size->D1 v≠some k->w1.heap[k]?=w.heap[k]?)/\∃o,Row w1.heap e (Z1 .i64).sz v (j5 (fun i=>i) xs).length o/\V1 (Z1 .i64) w1.heap S o (j5 (fun i=>i) xs):=by
 subst R;rcases b.h0Z he with⟨hV,u⟩|⟨z,hc0,hnone,a0,q⟩
 ·rw[<-u];obtain⟨n,b⟩:=hV;rcases b with⟨q,z⟩|⟨gb,cap,cur,q,hgb,hnc,hm,hcs,htake⟩
  ·have C:xs=[]:=List.eq_nil_of_length_eq_zero z;subst C;subst q;refine(Any.slices_Sort_int_none L none 0 w).mono ?_
   rintro s w1 ⟨rfl,rfl⟩
   exact⟨rfl,rfl,rfl,rfl,Nat.le_refl _,fun _ _ _=>rfl,[],Row.ofV he ⟨by simp[j5],.inl ⟨rfl,rfl⟩⟩,o0i.2 rfl⟩
  ·subst q;have h:(Z1 .i64).sz=1:=rfl;rw[h,Nat.mul_one]at n htake;rw[h,Nat.mul_one]at hcs;have d:=o0i.1 l;have p:gb<w.heap.size:=getElem?_lt hgb;have hH:Holds (Value.int .i64) w gb 0 xs.toArray:=by
    intro j y;simp only[List.size_toArray]at y;refine⟨?_,by simp[World.frozen?,hgb]⟩;rw[g0Y];unfold D2;rw[hgb];simp only[Nat.zero_add];have h1:(cur.toList.take xs.length)[j]?=(xs.map (Value.int .i64))[j]?:=by rw[htake,d]
    rw[List.getElem?_take_of_lt y]at h1;rw[<-Array.getElem?_toList,h1];simp[y]
   have a:=Any.slices_Sort_int L gb 0 cap xs w hH p h1;rw[F0f U]at a;refine a.mono ?_
   rintro s w1 ⟨rfl,m,os,rfl⟩
   have c:(j5 (fun i=>i) xs).length=xs.length:=l0x _ xs;have I:(grow (putRow (Value.int .i64) (Sort.ahead w m) gb 0 (j5 (fun i=>i) xs).toArray) os).heap[gb]?=some (.cells (putCells (Value.int .i64) 0 (j5 (fun i=>i) xs).toArray cur) e (0,0)):=by
    rw[heap_grow_old _ _ (by simpa[putRow,mapBlock,Sort.ahead]using p)];simp[putRow,mapBlock,Sort.ahead,Array.getElem?_modify,hgb,onCells]
   refine⟨rfl,rfl,rfl,rfl,by simp[grow,putRow,mapBlock,Sort.ahead],fun k hk J=>?_,(j5 (fun i=>i) xs).map (.int .i64),Row.ofV he ⟨by simp[Z1],.inr ⟨gb,cap,_,by rw[c],I,by rw[c];exact hnc,hm,by simpa[putCells,Z1]using hcs,?_⟩⟩,o0i.2 rfl⟩
   ·have r:gb≠k:=fun e=>J (by rw[e];simp[Value.ownBlock]);rw[heap_grow_old _ _ (by simpa[putRow,mapBlock,Sort.ahead]using hk)];simp[putRow,mapBlock,Sort.ahead,Array.getElem?_modify,r]
   ·rw[c,h,Nat.mul_one];apply List.ext_getElem?;intro t
    by_cases hs:t<xs.length
    ·rw[List.getElem?_take_of_lt hs,Array.getElem?_toList];have x:t<cur.size:=O'
     simp only[putCells,Array.getElem?_mapIdx,Array.getElem?_eq_getElem x,Option.map_some,List.size_toArray,c,Nat.zero_le,Nat.zero_add,hs,and_self,if_true,Nat.sub_zero];have g:t<(j5 (fun i=>i) xs).length:=O'
     rw[List.getElem?_map,List.getElem?_eq_getElem g];simp;rw[List.getElem?_eq_getElem g];rfl
    ·rw[List.getElem?_take_eq_none O',List.getElem?_eq_none (by rw[List.length_map];omega)]
 ·subst q;subst hc0;have C:xs=[]:=List.eq_nil_of_length_eq_zero z;subst C;refine(Any.slices_Sort_int_none L (some a0) 0 w).mono ?_
  rintro s w1 ⟨rfl,rfl⟩
  exact⟨rfl,rfl,rfl,rfl,Nat.le_refl _,fun _ _ _=>rfl,[],⟨by simp[j5],.inl ⟨rfl,_,rfl⟩⟩,o0i.2 rfl⟩
def D0G {E:Env}{ρ:Ren}{f e:Nat}(L:Lays.n189 E.P ρ)(I:ρ.f 189=f)(he:e<Qe:=by unfold Qe;omega):
  N0 E ⟨f,[.own e (.int .i64)],.tup [],[(0,.own e (.int .i64))],fun(x:List Int)=>if decide (x.length<4611686018427387904)&&a0H (fun i=>i) x then some (j5 (fun i=>i) x)else none⟩:=by
 intro w S us pl x y hm g R s U;have hm:(if decide (x.length<4611686018427387904)&&a0H (fun i=>i) x then some (j5 (fun i=>i) x)else none)=some y:=hm;split at hm<;>try cases hm
 rename_i m;simp only[Bool.and_eq_true,decide_eq_true_eq]at m;have g:G3 E w.heap S [.own e (.int .i64)] x us pl:=g;unfold G3 at g;obtain⟨c,u,a1,p1,p2,rfl,rfl,r,h1,t⟩:=g;obtain⟨rfl,rfl⟩:=c0y t;unfold SR at h1;obtain⟨v,cs,rfl,rfl,J,d,n⟩:=h1;have r:u=v:=r;subst r;have o:∀k,D1 u=some k->S k:=fun k hk=>s k ⟨u,V',(by obtain⟨A,c,l⟩:=Row.form d;rw[l]at hk ⊢;exact hk)⟩;refine(K01 L I d n m.1 m.2 he).mono ?_
 rintro ee w1 ⟨rfl,q1,q2,q3,q4,q5,cs2,q7,q8⟩
 have kp:Y0 w.heap S w1.heap S:=⟨q4,fun b j hn=>⟨hn,q5 b j (fun e=>hn (o b e))⟩⟩
 obtain⟨A,cc,l⟩:=Row.form d;have p:∀k,Bk u k↔D1 u=some k:=fun k=>by rw[l];exact Iff.rfl
 refine⟨_,S,[u],rfl,?_,⟨q1,q2,q3,q4,fun k hk hn=>q5 k hk (fun e=>hn ⟨u,V',(p k).2 e⟩)⟩,kp,fun b j _=>j,fun b j=>Nat.lt_of_lt_of_le (R b j) q4,?_,?_⟩
 ·show G3 E w1.heap S [.tup [],.own e (.int .i64)] (j5 (fun i=>i) x) [.tuple #[],u] [u];refine a0f ⟨[.tuple #[]],.tuple #[],[u],[],[u],rfl,rfl,rfl,?_,a0f ⟨[u],u,[],[u],[],rfl,rfl,rfl,?_,a04⟩⟩
  ·unfold SR;exact⟨[],rfl,a04⟩
  ·unfold SR;exact⟨u,cs2,rfl,rfl,J,q7,q8⟩
 ·intro a b v1 v2 C h1 t;have e:∀{q:Nat} {z:Value},[u][q]?=some z->q=0:=fun {q z} h=>by
   cases q with
   |zero=>rfl
   |succ q=>simp at h
  exact absurd ((e h1).trans (e t).symm) C
 ·rintro b ⟨v1,hv1,j⟩
  simp at hv1;subst hv1;exact⟨o b ((p b).1 j),.inl ⟨v1,V',j⟩⟩
