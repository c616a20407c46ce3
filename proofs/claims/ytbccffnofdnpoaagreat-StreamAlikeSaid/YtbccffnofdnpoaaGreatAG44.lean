/- P. Its conditions: none. -/
import Derived.Test.YtbccffnofdnpoaaGreatAG43
open List (length_cons take_succ set_set length_append length_nil take_length getD_eq_getElem?_getD mem_map)
open Bool (false_eq_true)
set_option linter.all false
namespace Go.Proofs.YtbccffnofdnpoaaGreat
open Go.V Go.RowKit Old Go.X
def o9:Nat->List Int->List (Int×Int)
 |_,[]=>[]
 |k,v :: r=>(v,(k:Int)) :: o9 (k+1) r
theorem y0V (v:Int):∀(s:List Int) (k:Nat),o9 k (s++[v])=o9 k s++[(v,((k+s.length:Nat):Int))]
 |[],k=>rfl
 |x :: r,k=>by
  simp only[List.cons_append,o9,y0V v r (k+1),length_cons]
  grind
theorem p0R (v:Int):∀(s:List Int) (k:Nat),T3 (o9 k s) v=decide (v∈s)
 |[],k=>by rfl
 |x :: r,k=>by
  simp only[o9,T3,p0R v r (k+1),List.mem_cons]
  grind
theorem A0a (v:Int):∀(s:List Int) (k:Nat),v∈s->B3 (o9 k s) v=((k+s.idxOf v:Nat):Int)
 |x :: r,k,h=>by
  simp only[o9,B3,List.idxOf_cons]
  by_cases e:x=v
  ·simp_all
  ·have c:v∈r:=by
    grind
   have eb:(x==v)=false:=by simp_all
   simp only[eb,false_eq_true,if_false,A0a v r (k+1) c,cond_false];omega
def w02 (v n:Int):∀m:List (Int×Int),T3 m v=false->P6 m v n=m++[(v,n)]
 |[],_=>rfl
 |(a,b) :: r,h=>by
  simp_all[T3,Bool.or_eq_false_iff,P6,false_eq_true,if_false,w02,List.cons_append]
def A7 (s:List Int)(v:Int):List Int:=if v=-2\/v∈s then s else s++[v]
def R4 (s r:List Int):List Int:=r.foldl A7 s
def L4 (s:List Int)(v:Int):Int:=if v=-2 then -2 else(s.idxOf v:Int)
theorem v0M (s:List Int)(v:Int):s <+: A7 s v:=by
 unfold A7;grind
theorem n0m:∀(r s:List Int),s <+: R4 s r
 |[],s=>List.prefix_refl _
 |v :: r,s=>(v0M s v).trans (n0m r (A7 s v))
theorem i0h (s r t:List Int):R4 s (r++t)=R4 (R4 s r) t:=by simp[R4]
theorem n0t:∀(r s:List Int),(R4 s r).length<=s.length+r.length
 |[],s=>by simp[R4]
 |v :: r,s=>by
  have h1:=n0t r (A7 s v)
  grind [R4,A7]
theorem t0u {x:Int}:∀(r s:List Int),x∈R4 s r->x∈s\/(x∈r/\x≠-2)
 |[],s,h=>.inl h
 |v :: r,s,h=>by
  rcases t0u r (A7 s v) h with h1|⟨h1,h2⟩
  ·grind [A7]
  simp_all
theorem A0j {s t:List Int}{v:Int}(h:s <+: t)(c:v∈s):t.idxOf v=s.idxOf v:=by
 obtain⟨u,rfl⟩:=h
 grind
theorem I0X {s:List Int}{v:Int}(c:v∉s):(s++[v]).idxOf v=s.length:=by
 grind
def o05 {s t:List Int}{v:Int}(h:A7 s v <+: t):(v=-2/\L4 t v=-2/\A7 s v=s)\/(v≠-2/\v∈s/\A7 s v=s/\L4 t v=(s.idxOf v:Int)/\s.idxOf v<s.length)\/(v≠-2/\v∉s/\A7 s v=s++[v]/\L4 t v=(s.length:Int)):=by
 by_cases c:v=-2
 ·simp_all[L4,A7]
 ·by_cases hm:v∈s
  ·have e:A7 s v=s:=by simp_all[A7]
   rw[e]at h;exact .inr (.inl ⟨c,hm,e,by unfold L4;rw[if_neg c,A0j h hm],List.idxOf_lt_length_of_mem hm⟩)
  ·have e:A7 s v=s++[v]:=by simp_all[A7]
   rw[e]at h;exact .inr (.inr ⟨c,hm,e,by unfold L4;rw[if_neg c,A0j h V',I0X hm]⟩)
section
variable {F:Nat}
theorem G0D {row:List Int}{f:Int->Int}{j:Nat}(c:j<row.length):((row.take j).map f++row.drop j).set j (f (gt row (j:Int)))=(row.take (j+1)).map f++row.drop (j+1):=by
 grind [X4,take_succ,List.drop_eq_getElem_cons]
def l0v {row s:List Int}{j:Nat}(c:j<row.length):R4 s (row.take (j+1))=A7 (R4 s (row.take j)) (gt row (j:Int)):=by
 have hg:row[j]?=some (gt row (j:Int)):=X4 c;rw[take_succ,hg,i0h];rfl
theorem F0p {src t:List Int}{y:List (List Int)}{x:Nat}(U:x<y.length){row:List Int}(C:gt y (x:Int)=row)(I:R4 src row <+: t)(hlen:t.length<=1000000)(a1:row.length<=1000)(hf:2000<F):
  iter (j08 F (x:Int) y) F (src,0,y,o9 0 src)=some (R4 src row,y.set x (row.map (L4 t)),o9 0 (R4 src row)):=by
 have:=V3 (step:=j08 F (x:Int) y) (fun j=>(R4 src (row.take j),(j:Int),y.set x ((row.take j).map (L4 t)++row.drop j),o9 0 (R4 src (row.take j)))) (R4 src row,y.set x (row.map (L4 t)),o9 0 (R4 src row)) row.length (fun j J=>.inl ?_) ?_ row.length 0 F O' O'
 ·have e0:y.set x ((row.take 0).map (L4 t)++row.drop 0)=y:=by
   refine List.ext_getElem? fun i=>?_
   grind [X4]
  rw[<-this];simp only[e0];rfl
 ·have w:(j:Int)<((gt y (x:Int)).length:Int):=by simp_all
  have q:gt (y.set x ((row.take j).map (L4 t)++row.drop j)) (x:Int)=(row.take j).map (L4 t)++row.drop j:=P2 (List.getElem?_set_self U);have R:((row.take j).map (L4 t)++row.drop j).length=row.length:=by grind
  have u:C0 ((row.take j).map (L4 t)++row.drop j) (j:Int)=true:=R0 O' O';have h:gt ((row.take j).map (L4 t)++row.drop j) (j:Int)=gt row (j:Int):=by
   refine P2 ?_
   grind [X4]
  have p:=l0v (s:=src) J;have hp:A7 (R4 src (row.take j)) (gt row (j:Int)) <+: t:=by
   grind [i0h,List.take_append_drop,n0m]
  have c:=G0D (f:=L4 t) J;unfold j08;simp only[w,decide_true,if_true,q,u,h,p,K2 (i:=j) O'];have k:=hp.length_le;generalize R4 src (row.take j)=s at *;generalize gt row (j:Int)=v at *;rcases o05 hp with⟨h1,d,g⟩|⟨h1,d,g,h4,h5⟩|⟨h1,d,g,h4⟩
  ·have m:(v==-2)=true:=by simpa using h1
   rw[g];simp only[m,if_true,F0];rw[d]at c;have:((row.take j).map (L4 t)++row.drop j).set j (-2)=(row.take j).map (L4 t)++row.drop j:=by
    refine List.ext_getElem? fun i=>?_
    by_cases e:j=i
    ·subst e;rw[List.getElem?_set_self O',X4 O',h,h1]
    ·rw[List.getElem?_set_ne e]
   rw[this]at c;rw[c]
  ·have m:(v==-2)=false:=by simpa using h1
   have hm:T3 (o9 0 s) v=true:=by rw[p0R];simpa using d
   have hg:=A0a v s 0 d;rw[Nat.zero_add]at hg;rw[g];simp only[q0,m,hm,hg,Int.toNat_natCast,set_set];rw[h4]at c;rw[c]
  ·have m:(v==-2)=false:=by simpa using h1
   have hm:T3 (o9 0 s) v=false:=by rw[p0R];simpa using d
   rw[g]at k ⊢;simp only[length_append,length_cons,length_nil]at k;have o:J0 8 s [v]=true:=by simp[J0];omega
   have r:P6 (o9 0 s) v (s.length:Int)=o9 0 (s++[v]):=by rw[w02 _ _ _ hm,y0V,Nat.zero_add]
   simp only[q0,m,hm,o,r,Int.toNat_natCast,set_set];rw[h4]at c;rw[c]
 simp_all[j08]
theorem m0n:∀(maps:List (List Int)) (m:Nat),(∀r∈maps,r.length<=m)->maps.flatten.length<=maps.length*m
 |[],m,_=>V'
 |r :: t,m,h=>by
  have h1:=m0n t m (fun x c=>h x (List.mem_cons_of_mem _ c))
  grind [Nat.succ_mul]
def N4 (maps:List (List Int)):List Int:=R4 [] maps.flatten
def R5 (maps:List (List Int)):List (List Int):=maps.map fun r=>r.map (L4 (N4 maps))
theorem i0q {maps:List (List Int)}{i:Nat}(hi:i<maps.length):R4 (R4 [] (maps.take i).flatten) (gt maps (i:Int))=R4 [] (maps.take (i+1)).flatten:=by
 grind [i0h,take_succ,X4]
theorem z05 (maps:List (List Int))(i:Nat):R4 [] (maps.take i).flatten <+: N4 maps:=by
 grind [N4,i0h,List.take_append_drop,n0m]
theorem I0V {fl:Int}{V7:List Int}{maps:List (List Int)}{rk:J2}(k:∀r∈maps,r.length<=1000)(hm:maps.length<=1000)(m:2000<F):
  i0U F (fl,V7,maps,rk)=some (⟨fl,V7,R5 maps,rk⟩,N4 maps):=by
 have p:=m0n maps 1000 k;have f:(N4 maps).length<=1000000:=by
  grind [n0t,N4]
 unfold i0U;have:=V3 (step:=i0u F maps) (fun i=>(R4 [] (maps.take i).flatten,(i:Int),(maps.take i).map (fun r=>r.map (L4 (N4 maps)))++maps.drop i,o9 0 (R4 [] (maps.take i).flatten))) (N4 maps,R5 maps) maps.length (fun i hi=>.inl ?_) ?_ maps.length 0 F O' O'
 ·have u:iter (i0u F maps) F ([],0,maps,[])=some (N4 maps,R5 maps):=this
  simp_all
 ·have h1:(i:Int)<(maps.length:Int):=O'
  have o:((maps.take i).map (fun r=>r.map (L4 (N4 maps)))++maps.drop i).length=maps.length:=by grind
  have h:C0 ((maps.take i).map (fun r=>r.map (L4 (N4 maps)))++maps.drop i) (i:Int)=true:=R0 O' O';have g:gt ((maps.take i).map (fun r=>r.map (L4 (N4 maps)))++maps.drop i) (i:Int)=gt maps (i:Int):=by
   refine P2 ?_
   grind [X4]
  have j:=k _ (List.mem_of_getElem? (X4 hi));have d:=F0p (F:=F) (src:=R4 [] (maps.take i).flatten) (t:=N4 maps) (y:=(maps.take i).map (fun r=>r.map (L4 (N4 maps)))++maps.drop i) (x:=i) O' g (by simp_all[i0q,z05]) f j m;have c:((maps.take i).map (fun r=>r.map (L4 (N4 maps)))++maps.drop i).set i ((gt maps (i:Int)).map (L4 (N4 maps)))=(maps.take (i+1)).map (fun r=>r.map (L4 (N4 maps)))++maps.drop (i+1):=by
   have s:maps.take (i+1)=maps.take i++[gt maps (i:Int)]:=by grind [take_succ,X4]
   have q:i-((maps.take i).map (fun r=>r.map (L4 (N4 maps)))).length=0:=by grind
   grind [List.drop_eq_getElem_cons]
  unfold i0u;simp only[q0,h1,h,d,i0q hi,c,K2 (i:=i) O']
 ·have h1:¬(maps.length:Int)<(maps.length:Int):=O'
  unfold i0u;simp only[q0,h1,take_length,List.drop_length,List.append_nil];rfl
theorem N0g {src t:List Int}{y:List (List Int)}{x:Nat}{row:List Int}(h:gt y (x:Int)=row.map (L4 t))(w:R4 src row <+: t)(hlen:t.length<=1000000)(I:row.length<=1000)(R:2000<F):
  iter (j0i F y (x:Int)) F ((src.length:Int),0)=some (.inr ((R4 src row).length:Int))/\∀k:Y1,iter (k0b F ⟨k.Flag,k.Places,y,k.Rank⟩ (x:Int)) F ((src.length:Int),0)=some ((R4 src row).length:Int):=by
 have hp:∀j,j<row.length->A7 (R4 src (row.take j)) (gt row (j:Int)) <+: t:=fun j m=>by
  rw[<-l0v m]
  grind [i0h,List.take_append_drop,n0m]
 have J:(row.map (L4 t)).length=row.length:=V'
 have r:∀j,j<row.length->gt (row.map (L4 t)) (j:Int)=L4 t (gt row (j:Int)):=fun j m=>P2 (by grind [X4]);refine⟨?_,fun k=>?_⟩
 ·have:=V3 (step:=j0i F y (x:Int)) (fun j=>(((R4 src (row.take j)).length:Int),(j:Int))) (.inr ((R4 src row).length:Int)) row.length (fun j m=>.inl ?_) ?_ row.length 0 F O' O'
  ·exact this
  ·have c:(j:Int)<((row.map (L4 t)).length:Int):=O'
   have p:C0 (row.map (L4 t)) (j:Int)=true:=R0 O' c;have g:=hp j m;have d:=g.length_le;unfold j0i;simp only[h,c,decide_true,if_true,p,r j m,l0v (s:=src) m,K2 (i:=j) O'];generalize R4 src (row.take j)=s at *;generalize gt row (j:Int)=v at *;rcases o05 g with⟨h1,q,f⟩|⟨h1,q,f,h4,h5⟩|⟨h1,q,f,h4⟩
   ·simp_all
   ·have o:(((s.idxOf v:Nat):Int)==-2)=false:=by rfl
    have C:¬((s.idxOf v:Nat):Int)<0:=O'
    have u:¬((s.idxOf v:Nat):Int)>(s.length:Int):=O'
    have U:(((s.idxOf v:Nat):Int)==(s.length:Int))=false:=by grind
    grind
   ·have o:(((s.length:Nat):Int)==-2)=false:=by rw[beq_eq_false_iff_ne];omega
    have C:¬((s.length:Nat):Int)<0:=O'
    have u:¬((s.length:Nat):Int)>(s.length:Int):=O'
    rw[f]at d;simp only[length_append,length_cons,length_nil]at d;rw[h4,f];simp only[q0,o,C,u,beq_self_eq_true,K2 (i:=s.length) O',length_append,length_cons,length_nil]
  simp_all[j0i]
 ·have:=V3 (step:=k0b F ⟨k.Flag,k.Places,y,k.Rank⟩ (x:Int)) (fun j=>(((R4 src (row.take j)).length:Int),(j:Int))) ((R4 src row).length:Int) row.length (fun j m=>.inl ?_) ?_ row.length 0 F O' O'
  ·exact this
  ·have c:(j:Int)<((row.map (L4 t)).length:Int):=O'
   have p:C0 (row.map (L4 t)) (j:Int)=true:=R0 O' c;have g:=hp j m;have d:=g.length_le;unfold k0b;simp only[h,c,decide_true,if_true,p,r j m,l0v (s:=src) m,K2 (i:=j) O'];generalize R4 src (row.take j)=s at *;generalize gt row (j:Int)=v at *;rcases o05 g with⟨h1,q,f⟩|⟨h1,q,f,h4,h5⟩|⟨h1,q,f,h4⟩
   ·have o:¬(W (-2+1)>(s.length:Int)):=by rw[J3 O' O'];omega
    rw[q,f,if_neg o]
   ·rw[f]at d;have o:¬(W (((s.idxOf v:Nat):Int)+1)>(s.length:Int)):=by rw[J3 O' O'];omega
    rw[h4,f,if_neg o]
   ·rw[f]at d;simp only[length_append,length_cons,length_nil]at d;have o:(W (((s.length:Nat):Int)+1)>(s.length:Int)):=by rw[J3 O' O'];omega
    rw[h4,f,if_pos o,K2 (i:=s.length) O'];simp
  ·have c:¬(row.length:Int)<((row.map (L4 t)).length:Int):=O'
   unfold k0b;simp only[q0,h,c,take_length]
theorem G0x {maps:List (List Int)}{tags:Nat}(o:∀r∈maps,r.length=tags)(v:tags<=1000)(hm:maps.length<=1000)(p:2000<F)(k:Y1):
  j0n F (R5 maps) (tags:Int)=some true/\d0s F ⟨k.Flag,k.Places,R5 maps,k.Rank⟩=some ((N4 maps).length:Int):=by
 have s:=m0n maps 1000 (fun r h=>by simp_all);have f:(N4 maps).length<=1000000:=by
  grind [n0t,N4]
 have u:(R5 maps).length=maps.length:=by simp[R5]
 have j:∀i,i<maps.length->gt (R5 maps) (i:Int)=(gt maps (i:Int)).map (L4 (N4 maps)):=fun i hi=>P2 (by grind [R5,X4]);have c:∀i,i<maps.length->_:=fun i hi=>N0g (F:=F) (src:=R4 [] (maps.take i).flatten) (t:=N4 maps) (y:=R5 maps) (x:=i) (j i hi) (by simp_all[i0q,z05]) f (by have:=o _ (List.mem_of_getElem? (X4 hi));omega) p;have m:R4 [] (maps.take maps.length).flatten=N4 maps:=by rw[take_length];rfl
 constructor
 ·unfold j0n;have:=V3 (step:=k0s F (R5 maps) (tags:Int)) (fun i=>(((R4 [] (maps.take i).flatten).length:Int),(i:Int))) (.inr ()) maps.length (fun i hi=>.inl ?_) ?_ maps.length 0 F O' O'
  ·have q:iter (k0s F (R5 maps) (tags:Int)) F (0,0)=some (.inr ()):=this
   simp_all
  ·have h1:(i:Int)<((R5 maps).length:Int):=O'
   have d:C0 (R5 maps) (i:Int)=true:=R0 O' h1;have hl:=o _ (List.mem_of_getElem? (X4 hi));have g:(((gt (R5 maps) (i:Int)).length:Int) != (tags:Int))=false:=by simp_all
   unfold k0s;simp only[q0,h1,d,g,(c i hi).1,i0q hi,K2 (i:=i) O']
  simp[R5,k0s]
 ·unfold d0s;have:=V3 (step:=k0g F ⟨k.Flag,k.Places,R5 maps,k.Rank⟩) (fun i=>(((R4 [] (maps.take i).flatten).length:Int),(i:Int))) ((N4 maps).length:Int) maps.length (fun i hi=>.inl ?_) ?_ maps.length 0 F O' O'
  ·have q:iter (k0g F ⟨k.Flag,k.Places,R5 maps,k.Rank⟩) F (0,0)=some ((N4 maps).length:Int):=this
   simp_all
  ·have h1:(i:Int)<((R5 maps).length:Int):=O'
   have d:C0 (R5 maps) (i:Int)=true:=R0 O' h1;unfold k0g;simp only[q0,h1,d,(c i hi).2 k,i0q hi,K2 (i:=i) O']
  simp_all[k0g]
end
def v0r {S ρ:Type}{body:S->Option (X0 S ρ)}(n:Nat)(g:Nat->S)(res:ρ)(hs:∀i,i<n->body (g i)=some (.next (g (i+1))))(he:body (g n)=some (.done res)){fu:Nat}(h:n<fu):iter body fu (g 0)=some res:=by
 have key:∀(k i fu:Nat),i+k=n->k<fu->iter body fu (g i)=some res:=by
  intro k
  induction k with
  |zero=>
   intro i fu hi c;obtain⟨fu,rfl⟩:∃m,fu=m+1:=⟨fu-1,O'⟩
   unfold iter;rw[show i=n from O',he]
  |succ k ih=>
   intro i fu hi c;obtain⟨fu,rfl⟩:∃m,fu=m+1:=⟨fu-1,O'⟩
   unfold iter;rw[hs i O'];exact ih (i+1) fu O' O'
 exact key n 0 fu O' h
def G0C {ρ:Type}{body:Int->Option (X0 Int ρ)}(n:Nat)(res:ρ)(hs:∀i:Nat,i<n->body (i:Int)=some (.next ((i+1:Nat):Int)))(he:body (n:Int)=some (.done res)){fu:Nat}(h:n<fu):iter body fu 0=some res:=
 v0r n (fun i=>(i:Int)) res hs he h
def e0e (a b:Int):D5:=if a<0\/b<0 then⟨-1,-1⟩else⟨a,b⟩
def b0g (tags:List Int)(to:Int):Nat->List D5
 |0=>[e0e (gt tags 0) to]
 |k+1=>b0g tags to k++[e0e (gt tags ((2*k+1:Nat):Int)) (gt tags ((2*k+2:Nat):Int))]
def g0R (tags:List Int)(to:Int):List D5:=if tags.length % 2=0 then[]else b0g tags to (tags.length / 2)
def q03 (tags:List Int)(to:Int):∀k,(b0g tags to k).length=k+1
 |0=>rfl
 |k+1=>by simp[b0g,q03 tags to k]
def y0a (n:Nat):Int.tmod (n:Int) 2=((n % 2:Nat):Int):=rfl
def t0N {tags:List Int}{to:Int}{fuel:Nat}(hl:tags.length<=1000)(u:2000<fuel):j0P fuel tags to=some (g0R tags to):=by
 unfold j0P g0R;rw[y0a]
 by_cases c:tags.length % 2=0
 ·simp[c]
 have c':(((tags.length % 2:Nat):Int)==0)=false:=by rw[beq_eq_false_iff_ne];omega
 rw[if_neg c];simp only[c',false_eq_true,if_false];have p:tags.length % 2=1:=O'
 have h:=v0r (body:=i03 fuel tags to) (fu:=fuel) tags.length (fun i=>((if i=0 then[]else b0g tags to (i / 2)),(i:Int))) (b0g tags to (tags.length / 2)) (fun i hi=>by
  have o:C0 tags (i:Int)=true:=R0 O' O';have hd:(i:Int)<(tags.length:Int):=O'
  unfold i03;simp only[q0,hd,o,K2 (show i<=1000000000 from O'),y0a,Nat.succ_ne_zero]
  by_cases c0:i=0
  ·subst c0;have q:¬((0:Nat):Int)>0:=O'
   by_cases g:gt tags 0<0
   ·simp[g,b0g,e0e,W4]
   ·by_cases k:to<0
    ·simp[g,k,b0g,e0e,W4]
    ·simp[g,k,b0g,e0e,W4]
  ·have q:(i:Int)>0:=O'
   simp only[q0,q,c0]
   by_cases c2:i % 2=0
   ·have f:(((i % 2:Nat):Int)==0)=true:=by simp[c2]
    have m:(i+1) / 2=i / 2:=O'
    simp only[f,if_true,F0,m]
   ·have f:(((i % 2:Nat):Int)==0)=false:=by rw[beq_eq_false_iff_ne];omega
    have j:C0 tags ((i+1:Nat):Int)=true:=R0 O' O';have m:(i+1) / 2=i / 2+1:=O'
    have t:2*(i / 2)+1=i:=O'
    have s:2*(i / 2)+2=i+1:=O'
    have d:∀y,J0 16 (b0g tags to (i / 2)) [y]=true:=fun y=>W4 (by rw[q03];simp;omega);simp only[q0,f,j,m,b0g,t,s]
    by_cases g:gt tags (i:Int)<0
    ·simp[g,e0e,d]
    ·by_cases k:gt tags ((i+1:Nat):Int)<0
     ·simp only[q0,g,k,d,e0e,or_true]
     ·simp only[q0,g,k,d,e0e,or_self]) (by
  unfold i03;have:¬tags.length=0:=O'
  simp[this]) O'
 have r:iter (i03 fuel tags to) fuel (([]:List D5),0)=some (b0g tags to (tags.length / 2)):=h;rw[r];rfl
def L0Y (tags:List Int)(to:Int)(h:tags.length<=1000):(g0R tags to).length<=1000:=by
 unfold g0R;split
 ·simp
 ·rw[q03];omega
def I0d {a:List D5}{fuel:Nat}(hl:a.length<=1000)(d:2000<fuel):g0k fuel a a=some true:=by
 unfold g0k;have h:=G0C (body:=k0T fuel a a) (fu:=fuel) a.length (.inr ()) (fun i hi=>by
  have c:C0 a (i:Int)=true:=R0 O' O';have hd:(i:Int)<(a.length:Int):=O'
  unfold k0T;simp[hd,c,K2 (show i<=1000000000 from O')]) (by unfold k0T;simp) O'
 simp[h]
structure Cs where
 at_:Int
 work:Int
 pl:List Nat
 vals:List (List Int)
 fB:Nat->Nat->Int
 fD:Nat->Nat->Int
def Cs.zero:Cs:=⟨0,0,[],[],fun _ _=>0,fun _ _=>0⟩
def Cs.step (l:List D0)(n:Nat)(a:List B0)(b:Nat->List B0)(s:Cs)(b_:Int)(y0:Bool):Cs:=
 ⟨s.at_+1,s.work+stW l n a b s.pl b_ y0,Q1 l n a b s.pl b_ y0,(Q1 l n a b s.pl b_ y0).map (O7 l a b s.at_ s.pl s.vals s.fB s.fD y0),
  b6 l (Q3 s.pl y0 s.fB) ((Q1 l n a b s.pl b_ y0).map (O2 a b s.pl s.fB s.fD y0)) ((Q1 l n a b s.pl b_ y0).map (D4 a b s.pl s.fB s.fD y0)),
  M6 l (Q3 s.pl y0 s.fB) (I4 s.pl y0 s.fD) ((Q1 l n a b s.pl b_ y0).map (O2 a b s.pl s.fB s.fD y0)) ((Q1 l n a b s.pl b_ y0).map (D4 a b s.pl s.fB s.fD y0))⟩
def Cs.J1 (s:Cs)(from_:Int):Cs:=
 let st:=U4 s.vals from_ s.pl.length
 ⟨s.at_,s.work,st.map fun i=>s.pl.getD i 0,st.map fun i:Nat=>gt s.vals (i:Int),fun i k=>s.fB (st.getD i 0) (st.getD k 0),fun i k=>s.fD (st.getD i 0) (st.getD k 0)⟩
section
variable (l:List D0)(n:Nat)(a:List B0)(b:Nat->List B0)(e:Nat->B0×Bool)(z:B0×Bool)
def Cs.C (s:Cs):L2:=B6 l n a b e z s.at_ s.work s.pl s.vals s.fB s.fD
def Cs.Q2 (s:Cs):List Int×Bool:=d0C l e s.at_ s.pl s.vals s.fD
end
structure b9 (l:List D0)(n:Nat)(s:Cs)(i:Nat):Prop where
 ok:C4 l n s.pl s.vals s.fB s.fD
 a0:s.at_=i
 w0:0<=s.work
 w1:s.work<=1000000*i
section
variable {F:Nat}{l:List D0}{n:Nat}{a:List B0}{b:Nat->List B0}{e:Nat->B0×Bool}{z:B0×Bool}
def N06 (l:List D0)(n:Nat):b9 l n Cs.zero 0:=⟨r0A l n,rfl,Int.le_refl _,by show(0:Int)<=_;omega⟩
def v0Q (K:Y2 l n a b e z F)(hw:∀x∈l,V2 x){s:Cs}{i:Nat}(h:b9 l n s i)(b_:Int)(y0:Bool):b9 l n (s.step l n a b b_ y0) (i+1):=by
 have c:=h.a0;have h1:=h.w0;have d:=h.w1;have f:=t0H K h.ok b_ y0;refine⟨q0A K h.ok hw b_ y0,?_,?_,?_⟩
 ·show s.at_+1=_;omega
 ·show 0<=s.work+_;omega
 ·show s.work+_<=_;omega
def O0h (K:Y2 l n a b e z F)(hw:∀x∈l,V2 x){s:Cs}{i:Nat}(h:b9 l n s i)(hi:i<=100000){b_:Int}(c:J4 .u8 b_)(y0:Bool):
  e05 F (s.C l n a b e z) b_ y0=some ((s.step l n a b b_ y0).C l n a b e z)/\b9 l n (s.step l n a b b_ y0) (i+1):=by
 have d:=h.a0;have h1:=h.w0;have f:=h.w1;have g:=t0H K h.ok b_ y0;refine⟨D0M K h.ok hw c y0 O' O' h1 O',q0A K h.ok hw b_ y0,?_,?_,?_⟩
 ·show s.at_+1=_;omega
 ·show 0<=s.work+_;omega
 ·show s.work+_<=_;omega
def F0d (K:Y2 l n a b e z F){s:Cs}{i:Nat}(h:b9 l n s i)(from_:Int):
  e01 F (s.C l n a b e z) from_=some ((s.J1 from_).C l n a b e z)/\b9 l n (s.J1 from_) i:=by
 have s1:=K0x (at_:=s.at_) (work:=s.work) K h.ok from_ rfl;rw[h.ok.len]at s1;exact⟨s1,o0X h.ok (q09 s.vals from_ s.pl.length) (fun i h=>g05 h),h.a0,h.w0,h.w1⟩
def F0F (K:Y2 l n a b e z F){s:Cs}{i:Nat}(h:b9 l n s i):e0b F (s.C l n a b e z)=some (s.Q2 l e):=K0u K h.ok
end
def m0W {o:List Int}{j:Nat}{x:Int}(h:1<=j):gt (o.set j x) 0=gt o 0:=by
 unfold gt;rw[getD_eq_getElem?_getD,getD_eq_getElem?_getD];have:(0:Int).toNat=0:=rfl;rw[this,List.getElem?_set_ne O']
def C0N (now none_:Int)(o:List Int)(m:R3):gt (s5 now none_ o m) 0=gt o 0:=by
 unfold s5;split
 ·rfl
 ·rename_i h;have h1:1<=m.Group:=O'
  split
  ·exact m0W O'
  ·split
   ·exact m0W O'
   ·split
    ·rw[m0W O',m0W O']
    ·rfl
def f0R (now none_:Int):∀(marks:List R3) (o:List Int),gt (Y3 now none_ o marks) 0=gt o 0
 |[],o=>rfl
 |m :: r,o=>by
  have h:=f0R now none_ r (s5 now none_ o m);rw[C0N]at h;exact h
def e0X (l:List D0)(at_:Int):gt (a0A l at_) 0=at_:=by
 have d:=k7 l;unfold a0A;obtain⟨t,c⟩:∃t:Nat,(Z2 l).toNat=t+1:=⟨(Z2 l).toNat-1,O'⟩
 rw[c];rfl
section
variable {F:Nat}{l:List D0}{n:Nat}{a:List B0}{b:Nat->List B0}{e:Nat->B0×Bool}{z:B0×Bool}
def h0G {at_:Int}{pl:List Nat}{vals:List (List Int)}{fB fD:Nat->Nat->Int}(C:C4 l n pl vals fB fD){y0:Bool}{b_:Int}{r:Nat}(f:r∈Q1 l n a b pl b_ y0):
  (O2 a b pl fB fD y0 r<pl.length/\gt (z6 l at_ vals y0) (O2 a b pl fB fD y0 r:Int)=gt vals (O2 a b pl fB fD y0 r:Int))\/(y0=true/\O2 a b pl fB fD y0 r=pl.length/\gt (z6 l at_ vals y0) (O2 a b pl fB fD y0 r:Int)=a0A l at_):=by
 have c:O2 a b pl fB fD y0 r<H4 pl y0:=by rw[<-b0d a b];exact c0F (b0W f).2
 have d:=C.len
 by_cases h:O2 a b pl fB fD y0 r<pl.length
 ·refine .inl ⟨h,?_⟩;unfold z6;exact b0l O' O'
 ·cases y0 with
  |false=>unfold H4 at c;simp at c;exact absurd c h
  |true=>
   unfold H4 at c;simp only[if_true]at c;have e:O2 a b pl fB fD true r=pl.length:=O'
   refine .inr ⟨rfl,e,?_⟩;rw[e];unfold z6;exact c0Z d.symm
def w0p {at_:Int}{pl:List Nat}{vals:List (List Int)}{fB fD:Nat->Nat->Int}(C:C4 l n pl vals fB fD)(hs:(d0C l e at_ pl vals fD).2=true):(d0C l e at_ pl vals fD).1.length=(Z2 l).toNat/\∃v∈vals,gt (d0C l e at_ pl vals fD).1 0=gt v 0:=by
 unfold d0C at hs ⊢
 by_cases c:l7 fD (B5 e pl pl.length)<0
 ·rw[if_pos c]at hs;cases hs
 ·rw[if_neg c];rcases e0w (fD:=fD) (B5 e pl pl.length) (n:=pl.length) (fun i h=>c0c h)with hb2|⟨k,hb2,hk⟩
  ·rw[hb2]at c;exact absurd (show(-1:Int)<0 from O') c
  ·have hm:=P4 (l:=vals) (i:=k) (by rw[C.len];exact hk);rw[hb2];exact⟨by rw[q9];exact C.row _ hm,_,hm,by rw[f0R]⟩
def L0M {at_:Int}(hs:(a0v l z at_).2=true):(a0v l z at_).1.length=(Z2 l).toNat/\gt (a0v l z at_).1 0=at_:=by
 unfold a0v at hs ⊢
 by_cases c:z.2=true
 ·rw[if_pos c];exact⟨by rw[q9,m0Z],by rw[f0R,e0X]⟩
 ·rw[if_neg c]at hs;cases hs
end
structure Hs where
 c:Cs
 tags:List Int
 to:Int
 is:Bool
section
variable (l:List D0)(n:Nat)(a:List B0)(b:Nat->List B0)(e:Nat->B0×Bool)(z:B0×Bool)
def Hs.zero:Hs:=⟨Cs.zero,(a0v l z 0).1,0,(a0v l z 0).2⟩
def Hs.K0 (h:Hs)(b_:Int):Cs:=h.c.step l n a b b_ (h.c.at_==0||!h.is)
def Hs.feed (h:Hs)(b_:Int):Hs:=
 if((h.K0 l n a b b_).Q2 l e).2 then⟨(h.K0 l n a b b_).J1 (gt ((h.K0 l n a b b_).Q2 l e).1 0),((h.K0 l n a b b_).Q2 l e).1,(h.K0 l n a b b_).at_,true⟩
 else⟨h.K0 l n a b b_,h.tags,h.to,h.is⟩
def Hs.C (h:Hs):L2×List Int×Int×Bool:=(h.c.C l n a b e z,h.tags,h.to,h.is)
def Hs.H (h:Hs):a05:=⟨h.c.C l n a b e z,h.tags,h.to,h.is⟩
end
def Hs.found (h:Hs):List D5×Bool:=if h.is then(g0R h.tags h.to,true)else([],false)
def Hs.over (h:Hs):Bool:=h.is&&(h.c.pl.length==0&&decide (h.c.at_>0))
structure P7 (l:List D0)(n:Nat)(h:Hs)(i:Nat):Prop where
 c:b9 l n h.c i
 t0:0<=h.to
 len:h.tags.length<=1000
 pos:∀v∈h.c.vals,0<=gt v 0
 is:h.is=true->h.tags.length=(Z2 l).toNat/\0<=gt h.tags 0/\∀v∈h.c.vals,gt v 0<=gt h.tags 0
section
variable {F:Nat}{l:List D0}{n:Nat}{a:List B0}{b:Nat->List B0}{e:Nat->B0×Bool}{z:B0×Bool}
def H0r:P7 l n (Hs.zero l z) 0 where
 c:=N06 l n
 t0:=Int.le_refl _
 len:=K0M
 pos:=by intro v h;cases h
 is:=fun h=>by
  obtain⟨h1,d⟩:=L0M (l:=l) (z:=z) (at_:=0) h;exact⟨h1,by show 0<=gt (a0v l z 0).1 0;omega,by intro v h;cases h⟩
def O0V (K:Y2 l n a b e z F):n07 F l=some (.inr ((Hs.zero l z).C l n a b e z),0):=by
 unfold n07;rw[I0n K.hR K.hn K.T K.f1 K.TF];have c:(⟨i7 l n a b e z,0,0,[],[],⟨[],[]⟩⟩:L2)=B6 l n a b e z 0 0 [] [] (fun _ _=>0) (fun _ _=>0):=rfl;simp only[q0,show((0:Int) != 0)=false from rfl,c,G0Q K];rfl
def L0U {h:Hs}{i:Nat}(d:P7 l n h i)(c:2000<F):n0r F (h.C l n a b e z)=some (h.found,h.C l n a b e z):=by
 unfold n0r Hs.C Hs.found;cases hi:h.is with
 |false=>simp only[q0]
 |true=>simp only[q0,t0N d.len c]
def y0G {h:Hs}{i:Nat}(c:P7 l n h i):h.found.1.length<=1000:=by
 unfold Hs.found;split
 ·exact L0Y _ _ c.len
 ·simp
def H0B {h:Hs}{i:Nat}(d:P7 l n h i)(hn:n<=1000):n0E F (h.H l n a b e z)=some (h.c.pl.length:Int):=by
 have:=d.c.ok.le;unfold n0E s0q K9 Hs.H;have:J0 8 ([]:List Int) (Q0 h.c.pl)=true:=by simp[J0];omega
 simp only[Cs.C,B6,this,if_true,F0,c0Q]
def w0i (p:List Nat):(((p.length:Int))==0)=(p.length==0):=by rw[Bool.eq_iff_iff];simp
def N0d {h:Hs}{i:Nat}(d:P7 l n h i)(hn:n<=1000):n0M F (h.H l n a b e z)=some h.over:=by
 have f:=H0B (F:=F) (a:=a) (b:=b) (e:=e) (z:=z) d hn;unfold n0M Hs.over;rw[f];unfold Hs.H d0l;cases hi:h.is with
 |false=>simp only[q0,Bool.false_and]
 |true=>
  simp only[if_true,F0,w0i,Bool.true_and];cases hp:h.c.pl.length==0 with
  |false=>simp only[q0,Bool.false_and]
  |true=>simp only[if_true,Bool.true_and,Cs.C,B6,F0];rfl
def y0Z (K:Y2 l n a b e z F){s:Cs}{i:Nat}(h:b9 l n s i)(b_:Int)(y0:Bool):∀v∈(s.step l n a b b_ y0).vals,(∃u∈s.vals,gt v 0=gt u 0)\/(y0=true/\gt v 0=(i:Int)):=by
 intro v f;obtain⟨r,d,rfl⟩:=mem_map.1 f;unfold O7;rw[f0R];rcases h0G (at_:=s.at_) h.ok d with⟨h1,c⟩|⟨h1,_,c⟩
 ·rw[c];exact .inl ⟨_,P4 (by rw[h.ok.len];exact h1),rfl⟩
 ·rw[c,e0X,h.a0];exact .inr ⟨h1,rfl⟩
def s0o {s:Cs}{from_:Int}(hl:s.vals.length=s.pl.length):∀v∈(s.J1 from_).vals,v∈s.vals/\gt v 0<=from_:=by
 intro v d;obtain⟨k,hk,rfl⟩:=mem_map.1 d;have c:=(List.mem_filter.1 hk).2;exact⟨P4 (by rw[hl];exact g05 hk),by simpa using c⟩
def B08 (K:Y2 l n a b e z F)(hw:∀x∈l,V2 x){h:Hs}{i:Nat}(j:P7 l n h i)(b_:Int):P7 l n (h.feed l n a b e b_) (i+1):=by
 have k:b9 l n (h.K0 l n a b b_) (i+1):=v0Q K hw j.c b_ (h.c.at_==0||!h.is);have g:=y0Z K j.c b_ (h.c.at_==0||!h.is);have d:∀v∈(h.K0 l n a b b_).vals,0<=gt v 0:=fun v q=>by
  rcases g v q with⟨u,hu,m⟩|⟨_,m⟩
  ·rw[m];exact j.pos u hu
  ·rw[m];omega
 have hle:h.is=true->∀v∈(h.K0 l n a b b_).vals,gt v 0<=gt h.tags 0:=fun f v q=>by
  obtain⟨_,i2,i3⟩:=j.is f;rcases g v q with⟨u,hu,m⟩|⟨hbeg,m⟩
  ·rw[m];exact i3 u hu
  ·rw[m];have J:=j.c.a0;rw[f]at hbeg;have:h.c.at_=0:=by simpa using hbeg
   omega
 have y:(h.K0 l n a b b_).at_=((i+1:Nat):Int):=k.a0;cases r:((h.K0 l n a b b_).Q2 l e).2 with
 |false=>
  have t:h.feed l n a b e b_=⟨h.K0 l n a b b_,h.tags,h.to,h.is⟩:=by unfold Hs.feed;rw[r];rfl
  rw[t];refine⟨k,j.t0,j.len,d,fun f=>?_⟩;obtain⟨I,i2,_⟩:=j.is f;exact⟨I,i2,hle f⟩
 |true=>
  obtain⟨t1,v,v1,v2⟩:=w0p (e:=e) (at_:=(h.K0 l n a b b_).at_) k.ok r;have R:=k7 l;have C:b9 l n ((h.K0 l n a b b_).J1 (gt ((h.K0 l n a b b_).Q2 l e).1 0)) (i+1):=⟨o0X k.ok (q09 _ _ _) (fun i h=>g05 h),k.a0,k.w0,k.w1⟩
  have t:h.feed l n a b e b_=⟨(h.K0 l n a b b_).J1 (gt ((h.K0 l n a b b_).Q2 l e).1 0),((h.K0 l n a b b_).Q2 l e).1,(h.K0 l n a b b_).at_,true⟩:=by unfold Hs.feed;rw[r];rfl
  have p:((h.K0 l n a b b_).Q2 l e).1.length=(Z2 l).toNat:=t1;have o:gt ((h.K0 l n a b b_).Q2 l e).1 0=gt v 0:=v2;rw[t];have w:=s0o (s:=h.K0 l n a b b_) (from_:=gt ((h.K0 l n a b b_).Q2 l e).1 0) k.ok.len;refine⟨C,?_,?_,?_,fun _=>⟨p,?_,fun u hu=>(w u hu).2⟩⟩
  ·show 0<=(h.K0 l n a b b_).at_;omega
  ·show((h.K0 l n a b b_).Q2 l e).1.length<=1000;omega
  ·intro u hu;exact d u (w u hu).1
  ·show 0<=gt ((h.K0 l n a b b_).Q2 l e).1 0;rw[o];exact d v v1
def K0G (K:Y2 l n a b e z F)(hw:∀x∈l,V2 x){h:Hs}{i:Nat}(k:P7 l n h i)(hi:i<=100000){b_:Int}(hb:J4 .u8 b_):
  f0o F (h.C l n a b e z) b_=some ((h.feed l n a b e b_).C l n a b e z)/\P7 l n (h.feed l n a b e b_) (i+1)/\
   ((h.feed l n a b e b_=⟨h.K0 l n a b b_,h.tags,h.to,h.is⟩/\((h.K0 l n a b b_).Q2 l e).2=false)\/(((h.K0 l n a b b_).Q2 l e).2=true/\(h.feed l n a b e b_).to=((i+1:Nat):Int)/\(h.feed l n a b e b_).is=true/\(h.is=true->gt (h.feed l n a b e b_).tags 0<=gt h.tags 0))):=by
 obtain⟨s1,r⟩:=O0h (e:=e) (z:=z) K hw k.c hi hb (h.c.at_==0||!h.is);have j:=y0Z K k.c b_ (h.c.at_==0||!h.is);have U:=F0F K r;have ha:d0l F (h.c.C l n a b e z)=some h.c.at_:=rfl;have R:d0l F ((h.K0 l n a b b_).C l n a b e z)=some (h.K0 l n a b b_).at_:=rfl;have hx:(if h.c.at_==0 then some true else some (!h.is))=some (h.c.at_==0||!h.is):=by cases h.c.at_==0<;>rfl
 have f:∀v∈(h.K0 l n a b b_).vals,0<=gt v 0:=fun v I=>by
  rcases j v I with⟨u,hu,o⟩|⟨_,o⟩
  ·rw[o];exact k.pos u hu
  ·rw[o];omega
 have hle:h.is=true->∀v∈(h.K0 l n a b b_).vals,gt v 0<=gt h.tags 0:=fun d v I=>by
  obtain⟨_,i2,i3⟩:=k.is d;rcases j v I with⟨u,hu,o⟩|⟨hbeg,o⟩
  ·rw[o];exact i3 u hu
  ·rw[o];have h0:=k.c.a0;rw[d]at hbeg;have:h.c.at_=0:=by simpa using hbeg
   omega
 have y:(h.K0 l n a b b_).at_=((i+1:Nat):Int):=r.a0;cases g:((h.K0 l n a b b_).Q2 l e).2 with
 |false=>
  have J:h.feed l n a b e b_=⟨h.K0 l n a b b_,h.tags,h.to,h.is⟩:=by unfold Hs.feed;rw[g];rfl
  rw[J];refine⟨?_,⟨r,k.t0,k.len,f,fun d=>?_⟩,.inl ⟨rfl,rfl⟩⟩
  ·unfold f0o Hs.C;simp only[ha,F0,hx,s1];rw[show h.c.step l n a b b_ (h.c.at_==0||!h.is)=h.K0 l n a b b_ from rfl,show e0b F ((h.K0 l n a b b_).C l n a b e z)=some ((h.K0 l n a b b_).Q2 l e)from U];generalize hq:(h.K0 l n a b b_).Q2 l e=q at g ⊢;obtain⟨q1,q2⟩:=q;simp only at g;subst g;rfl
  ·obtain⟨i1,i2,_⟩:=k.is d;exact⟨i1,i2,hle d⟩
 |true=>
  obtain⟨t1,v,v1,v2⟩:=w0p (e:=e) (at_:=(h.K0 l n a b b_).at_) r.ok g;have ht:=k7 l;obtain⟨k1,k3⟩:=F0d (e:=e) (z:=z) K r (gt ((h.K0 l n a b b_).Q2 l e).1 0);have J:h.feed l n a b e b_=⟨(h.K0 l n a b b_).J1 (gt ((h.K0 l n a b b_).Q2 l e).1 0),((h.K0 l n a b b_).Q2 l e).1,(h.K0 l n a b b_).at_,true⟩:=by unfold Hs.feed;rw[g];rfl
  have w:((h.K0 l n a b b_).Q2 l e).1.length=(Z2 l).toNat:=t1;have t:gt ((h.K0 l n a b b_).Q2 l e).1 0=gt v 0:=v2;have m:C0 ((h.K0 l n a b b_).Q2 l e).1 0=true:=R0 O' (by rw[w];omega);rw[J];have kf:=s0o (s:=h.K0 l n a b b_) (from_:=gt ((h.K0 l n a b b_).Q2 l e).1 0) r.ok.len;refine⟨?_,⟨k3,?_,?_,?_,fun _=>⟨w,?_,fun u hu=>(kf u hu).2⟩⟩,.inr ⟨rfl,y,rfl,fun d=>?_⟩⟩
  ·unfold f0o Hs.C;simp only[ha,F0,hx,s1];rw[show h.c.step l n a b b_ (h.c.at_==0||!h.is)=h.K0 l n a b b_ from rfl,show e0b F ((h.K0 l n a b b_).C l n a b e z)=some ((h.K0 l n a b b_).Q2 l e)from U];have p:e01 F ((h.K0 l n a b b_).C l n a b e z) (gt ((h.K0 l n a b b_).Q2 l e).1 0)=_:=k1;generalize hq:(h.K0 l n a b b_).Q2 l e=q at g m p ⊢;obtain⟨q1,q2⟩:=q;simp only at g m p;subst g;simp only[F0,if_true,m,R,p];rfl
  ·show 0<=(h.K0 l n a b b_).at_;omega
  ·show((h.K0 l n a b b_).Q2 l e).1.length<=1000;omega
  ·intro u hu;exact f u (kf u hu).1
  ·show 0<=gt ((h.K0 l n a b b_).Q2 l e).1 0;rw[t];exact f v v1
  ·show gt ((h.K0 l n a b b_).Q2 l e).1 0<=gt h.tags 0;rw[t];exact hle d v v1
end
def n0x {o:List Int}{j m:Nat}{x:Int}:gt (o.set j x) (m:Int)=gt o (m:Int)\/gt (o.set j x) (m:Int)=x:=by
 unfold gt;rw[getD_eq_getElem?_getD,getD_eq_getElem?_getD];simp only[Int.toNat_natCast]
 by_cases e:j=m
 ·subst e
  by_cases h:j<o.length
  ·right;rw[List.getElem?_set_self h];rfl
  ·left;rw[List.set_eq_of_length_le O']
 ·left;rw[List.getElem?_set_ne e]
def K0r (now none_:Int)(o:List Int)(k:R3)(m:Nat):gt (s5 now none_ o k) (m:Int)=gt o (m:Int)\/gt (s5 now none_ o k) (m:Int)=now\/gt (s5 now none_ o k) (m:Int)=none_:=by
 unfold s5;split
 ·exact .inl rfl
 ·split
  ·rcases n0x (o:=o) (j:=(2*k.Group-1).toNat) (m:=m) (x:=now)with h|h
   ·exact .inl h
   ·exact .inr (.inl h)
  ·split
   ·rcases n0x (o:=o) (j:=(2*k.Group).toNat) (m:=m) (x:=now)with h|h
    ·exact .inl h
    ·exact .inr (.inl h)
   ·split
    ·rcases n0x (o:=o.set (2*k.Group-1).toNat none_) (j:=(2*k.Group).toNat) (m:=m) (x:=none_)with h|h
     ·rw[h];rcases n0x (o:=o) (j:=(2*k.Group-1).toNat) (m:=m) (x:=none_)with h|h
      ·exact .inl h
      ·exact .inr (.inr h)
     ·exact .inr (.inr h)
    ·exact .inl rfl
def l0F (now none_:Int)(m:Nat):∀(marks:List R3) (o:List Int),gt (Y3 now none_ o marks) (m:Int)=gt o (m:Int)\/gt (Y3 now none_ o marks) (m:Int)=now\/gt (Y3 now none_ o marks) (m:Int)=none_
 |[],o=>.inl rfl
 |k :: r,o=>by
  have h:=l0F now none_ m r (s5 now none_ o k);have e:Y3 now none_ o (k :: r)=Y3 now none_ (s5 now none_ o k) r:=rfl;rw[e];rcases h with h|h
  ·rw[h];exact K0r now none_ o k m
  ·exact .inr h
def K0X (l:List D0)(at_:Int)(m:Nat)(h:1<=m)(hm:m<(Z2 l).toNat):gt (a0A l at_) (m:Int)=-1:=by
 unfold a0A gt;rw[getD_eq_getElem?_getD,Int.toNat_natCast,List.getElem?_set_ne O',List.getElem?_replicate,if_pos hm];rfl
structure Inv (l:List D0)(may:Nat->Bool)(i:Nat)(vals:List (List Int))(fB fD:Nat->Nat->Int):Prop where
 first:∀v∈vals,∃j:Nat,j<i/\gt v 0=(j:Int)/\may j=true
 rest:∀v∈vals,∀m:Nat,1<=m->m<(Z2 l).toNat->gt v (m:Int)=-1\/(gt v 0<=gt v (m:Int)/\gt v (m:Int)<(i:Int))
 ahead:∀k m:Nat,k<vals.length->m<vals.length->gt (gt vals (k:Int)) 0≠gt (gt vals (m:Int)) 0->fB k m=0/\(0<fD k m↔gt (gt vals (k:Int)) 0<gt (gt vals (m:Int)) 0)
section
variable {F:Nat}{l:List D0}{n:Nat}{a:List B0}{b:Nat->List B0}{e:Nat->B0×Bool}{z:B0×Bool}
def s0x {t:Int}(c:0<=t)(h1:t<=400):j9 0 t=0:=by
 unfold j9;rw[J3 O' O',if_neg O']
def I00 (K:Y2 l n a b e z F){s:Cs}{i:Nat}(h:b9 l n s i){may:Nat->Bool}(C:Inv l may i s.vals s.fB s.fD)(b_:Int)(y0:Bool)(I:y0=true->may i=true):
  Inv l may (i+1) (s.step l n a b b_ y0).vals (s.step l n a b b_ y0).fB (s.step l n a b b_ y0).fD:=by
 have w:=h.a0;have b2:=h.ok.len;have src:∀r∈Q1 l n a b s.pl b_ y0,(∃j:Nat,j<i+1/\gt (gt (z6 l s.at_ s.vals y0) (O2 a b s.pl s.fB s.fD y0 r:Int)) 0=(j:Int)/\may j=true)/\
   (∀m:Nat,1<=m->m<(Z2 l).toNat->gt (gt (z6 l s.at_ s.vals y0) (O2 a b s.pl s.fB s.fD y0 r:Int)) (m:Int)=-1\/(gt (gt (z6 l s.at_ s.vals y0) (O2 a b s.pl s.fB s.fD y0 r:Int)) 0<=gt (gt (z6 l s.at_ s.vals y0) (O2 a b s.pl s.fB s.fD y0 r:Int)) (m:Int)/\gt (gt (z6 l s.at_ s.vals y0) (O2 a b s.pl s.fB s.fD y0 r:Int)) (m:Int)<(i:Int))):=by
  intro r U;rcases h0G (at_:=s.at_) h.ok U with⟨h1,o⟩|⟨h1,_,o⟩
  ·rw[o];have hm:=P4 (l:=s.vals) (i:=O2 a b s.pl s.fB s.fD y0 r) O';obtain⟨j,j1,u,j3⟩:=C.first _ hm
   exact⟨⟨j,O',u,j3⟩,C.rest _ hm⟩
  ·rw[o,e0X];exact⟨⟨i,O',w,I h1⟩,fun m m1 m2=>.inl (K0X l _ m m1 m2)⟩
 have d:∀r,gt (O7 l a b s.at_ s.pl s.vals s.fB s.fD y0 r) 0=gt (gt (z6 l s.at_ s.vals y0) (O2 a b s.pl s.fB s.fD y0 r:Int)) 0:=fun r=>by unfold O7;rw[f0R]
 refine⟨fun v y=>?_,fun v y m m1 m2=>?_,fun k m hk hm c=>?_⟩
 ·obtain⟨r,U,rfl⟩:=mem_map.1 y;rw[d];exact(src r U).1
 ·obtain⟨r,U,rfl⟩:=mem_map.1 y;obtain⟨⟨j,j1,u,_⟩,s2⟩:=src r U;rw[d];unfold O7;rcases l0F s.at_ (-1) m (L5 l (D4 a b s.pl s.fB s.fD y0 r).Steps) (gt (z6 l s.at_ s.vals y0) (O2 a b s.pl s.fB s.fD y0 r:Int))with h1|h1|h1
  ·rw[h1];rcases s2 m m1 m2 with o|⟨o,t⟩
   ·exact .inl o
   ·exact .inr ⟨o,O'⟩
  ·rw[h1,u];exact .inr ⟨O',O'⟩
  ·exact .inl h1
 ·have hlen:(s.step l n a b b_ y0).vals.length=(Q1 l n a b s.pl b_ y0).length:=by simp[Cs.step]
  rw[hlen]at hk hm;have a1:=List.getElem_mem hk;have b1:=List.getElem_mem hm;have gv:∀q (hq:q<(Q1 l n a b s.pl b_ y0).length),gt (s.step l n a b b_ y0).vals (q:Int)=O7 l a b s.at_ s.pl s.vals s.fB s.fD y0 (Q1 l n a b s.pl b_ y0)[q]:=fun q hq=>P2 (by simp[Cs.step,hq]);rw[gv k hk,gv m hm,d,d]at c ⊢;generalize J:(Q1 l n a b s.pl b_ y0)[k]=rk at *;generalize x:(Q1 l n a b s.pl b_ y0)[m]=rm at *;have g:=j05 K h.ok b_ y0;have a0I:O8 n (gt ((Q1 l n a b s.pl b_ y0).map (D4 a b s.pl s.fB s.fD y0)) (k:Int)):=c0t g.hop (by simpa using hk);have p:O8 n (gt ((Q1 l n a b s.pl b_ y0).map (D4 a b s.pl s.fB s.fD y0)) (m:Int)):=c0t g.hop (by simpa using hm);have fk:((Q1 l n a b s.pl b_ y0).map (O2 a b s.pl s.fB s.fD y0)).getD k 0=O2 a b s.pl s.fB s.fD y0 rk:=by simp[List.getD,hk,J]
  have fm:((Q1 l n a b s.pl b_ y0).map (O2 a b s.pl s.fB s.fD y0)).getD m 0=O2 a b s.pl s.fB s.fD y0 rm:=by simp[List.getD,hm,x]
  have f:O2 a b s.pl s.fB s.fD y0 rk≠O2 a b s.pl s.fB s.fD y0 rm:=fun e=>c (by rw[e]);have R:k≠m:=fun e=>by subst e;rw[J]at x;exact f (by rw[x])
  have key:Q3 s.pl y0 s.fB (O2 a b s.pl s.fB s.fD y0 rk) (O2 a b s.pl s.fB s.fD y0 rm)=0/\Q3 s.pl y0 s.fB (O2 a b s.pl s.fB s.fD y0 rm) (O2 a b s.pl s.fB s.fD y0 rk)=0/\
    (0<I4 s.pl y0 s.fD (O2 a b s.pl s.fB s.fD y0 rk) (O2 a b s.pl s.fB s.fD y0 rm)↔gt (gt (z6 l s.at_ s.vals y0) (O2 a b s.pl s.fB s.fD y0 rk:Int)) 0<gt (gt (z6 l s.at_ s.vals y0) (O2 a b s.pl s.fB s.fD y0 rm:Int)) 0):=by
   rcases h0G (at_:=s.at_) h.ok a1 with⟨h1,o⟩|⟨h1,h1',o⟩<;>rcases h0G (at_:=s.at_) h.ok b1 with⟨t,h4⟩|⟨t,h3',h4⟩
   ·rw[o,h4]at c ⊢;obtain⟨p1,p2⟩:=C.ahead _ _ O' O' c;obtain⟨p3,_⟩:=C.ahead _ _ O' O' (fun e=>c e.symm);unfold Q3 I4 c0i c0I;cases y0 with
    |false=>exact⟨p1,p3,p2⟩
    |true=>simp only[if_true];rw[if_pos ⟨h1,t⟩,if_pos ⟨t,h1⟩,if_pos ⟨h1,t⟩];exact⟨p1,p3,p2⟩
   ·rw[o,h4,e0X]at c ⊢;obtain⟨j,j1,u,_⟩:=C.first _ (P4 (l:=s.vals) (i:=O2 a b s.pl s.fB s.fD y0 rk) O')
    subst t;unfold Q3 I4 c0i c0I;simp only[if_true];rw[if_neg O',if_neg O',if_neg O',if_pos ⟨h1,h3'⟩,u,w];exact⟨rfl,rfl,O'⟩
   ·rw[o,h4,e0X]at c ⊢;obtain⟨j,j1,u,_⟩:=C.first _ (P4 (l:=s.vals) (i:=O2 a b s.pl s.fB s.fD y0 rm) O')
    subst h1;unfold Q3 I4 c0i c0I;simp only[if_true];rw[if_neg O',if_neg O',if_neg O',if_neg O',if_pos ⟨h1',t⟩,u,w];exact⟨rfl,rfl,O'⟩
   ·exact absurd O' f
  obtain⟨k1,k2,k3⟩:=key;show b6 l _ _ _ k m=0/\(0<M6 l _ _ _ _ k m↔_);unfold b6 M6;rw[if_neg R,if_neg R,fk,fm,if_neg f,if_neg f,k1,s0x a0I.t0 a0I.t1];refine⟨rfl,?_⟩;unfold agF;rw[k1,k2,s0x a0I.t0 a0I.t1,s0x p.t0 p.t1,if_neg O',if_neg O'];exact k3
end
