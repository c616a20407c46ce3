/- Kernels: registers are numbered anew. Kernels and hunts: the same runs stay, and the same one is ahead. Kernels: the first one, the next one, what is accepted, and that they are right. Kernels, whichever: that they are right is told, and what it n02. What is sure of law 23. Its conditions: none. -/
import Derived.Test.YtdficaoajalfaaaGreatWG45
open List (length_cons mem_cons take_succ set_set length_append length_nil take_length mem_map)
open Bool (false_eq_true)
set_option linter.all false
namespace Go.Proofs.YtdficaoajalfaaaGreat
open Go.V Go.RowKit Old Go.X
def E8:Nat->List Int->List (Int×Int)
 |_,[]=>[]
 |k,v :: r=>(v,(k:Int)) :: E8 (k+1) r
theorem t0Y (v:Int):∀ (s:List Int) (k:Nat),E8 k (s++[v])=E8 k s++[(v,((k+s.length:Nat):Int))]
 |[],k=>rfl
 |
  x :: r,k=>by
  simp only [List.cons_append,E8,t0Y v r (k+1),length_cons];rw [show k+1+r.length=k+(r.length+1) by omega]
theorem o0e (v:Int):∀ (s:List Int) (k:Nat),P7 (E8 k s) v=decide (v∈s)
 |[],k=>by simp [E8,P7]
 |
  x :: r,k=>by
  simp only [E8,P7,o0e v r (k+1),mem_cons]
  by_cases h:x=v
  ·subst h;simp
  ·have:¬ v=x:=fun e=>h e.symm;simp [h,this]
theorem q0W (v:Int):∀ (s:List Int) (k:Nat),v∈s->U7 (E8 k s) v=((k+s.idxOf v:Nat):Int)
 |
  x :: r,k,h=>by
  simp only [E8,U7,List.idxOf_cons]
  by_cases e:x=v
  ·subst e;simp
  ·have hr:v∈r:=by
    rcases mem_cons.1 h with h | h
    ·exact absurd h.symm e
    ·exact h
   have eb:(x==v)=false:=by simpa using e
   simp only [eb,false_eq_true,if_false,q0W v r (k+1) hr,cond_false];congr 1;omega
theorem s0v (v n:Int):∀ m:List (Int×Int),P7 m v=false->a0M m v n=m++[(v,n)]
 |[],_=>rfl
 |
  (a,b) :: r,h=>by
  simp only [P7,Bool.or_eq_false_iff] at h;simp only [a0M,h.1,false_eq_true,if_false,s0v v n r h.2,List.cons_append]
def V6 (s:List Int) (v:Int):List Int:=if v=-2\/v∈s then s else s++[v]
def N3 (s r:List Int):List Int:=r.foldl V6 s
def j4 (s:List Int) (v:Int):Int:=if v=-2 then -2 else (s.idxOf v:Int)
theorem u0a (s:List Int) (v:Int):s <+: V6 s v:=by
 unfold V6;split
 ·exact List.prefix_refl _
 ·exact ⟨[v],rfl⟩
theorem l0K:∀ (r s:List Int),s <+: N3 s r
 |[],s=>List.prefix_refl _
 |v :: r,s=>(u0a s v).trans (l0K r (V6 s v))
theorem h0b (s r t:List Int):N3 s (r++t)=N3 (N3 s r) t:=by unfold N3;rw [List.foldl_append]
theorem H0H (s:List Int) (v:Int):(V6 s v).length<=s.length+1:=by unfold V6;split<;>simp
theorem k0w:∀ (r s:List Int),(N3 s r).length<=s.length+r.length
 |[],s=>by simp [N3]
 |
  v :: r,s=>by
  have h1:=k0w r (V6 s v);have h2:=H0H s v;show (N3 (V6 s v) r).length<=_;simp only [length_cons];omega
theorem B0c:∀ (r s:List Int),s.Nodup->(N3 s r).Nodup
 |[],s,h=>h
 |
  v :: r,s,h=>B0c r (V6 s v) (by
  unfold V6;split
  ·exact h
  ·rename_i hn;rw [List.nodup_append];refine ⟨h,by simp,fun a ha b hb=>?_⟩;simp at hb;subst hb;exact fun e=>hn (.inr (e▸ha)))
theorem t0j {x:Int}:∀ (r s:List Int),x∈N3 s r->x∈s\/(x∈r/\x≠-2)
 |[],s,h=>.inl h
 |
  v :: r,s,h=>by
  rcases t0j r (V6 s v) h with h1 | ⟨h1,h2⟩
  ·unfold V6 at h1;split at h1
   ·exact .inl h1
   ·rename_i hn;rcases List.mem_append.1 h1 with h1 | h1
    ·exact .inl h1
    ·simp at h1;subst h1;exact .inr ⟨by simp,fun e=>hn (.inl e)⟩
  ·exact .inr ⟨List.mem_cons_of_mem _ h1,h2⟩
theorem r0R {s t:List Int} {v:Int} (h:s <+: t) (hv:v∈s):t.idxOf v=s.idxOf v:=by
 obtain ⟨u,rfl⟩:=h;rw [List.idxOf_append,if_pos hv]
theorem I0f {s:List Int} {v:Int} (hv:v∉s):(s++[v]).idxOf v=s.length:=by
 rw [List.idxOf_append,if_neg hv];simp
theorem p0X {s t:List Int} {v:Int} (h:V6 s v <+: t):(v=-2/\j4 t v=-2/\V6 s v=s)\/(v≠-2/\v∈s/\V6 s v=s/\j4 t v=(s.idxOf v:Int)/\s.idxOf v<s.length)\/(v≠-2/\v∉s/\V6 s v=s++[v]/\j4 t v=(s.length:Int)):=by
 by_cases h2:v=-2
 ·exact .inl ⟨h2,by unfold j4;rw [if_pos h2],by unfold V6;rw [if_pos (.inl h2)]⟩
 ·by_cases hm:v∈s
  ·have e:V6 s v=s:=by unfold V6;rw [if_pos (.inr hm)]
   rw [e] at h;exact .inr (.inl ⟨h2,hm,e,by unfold j4;rw [if_neg h2,r0R h hm],List.idxOf_lt_length_of_mem hm⟩)
  ·have e:V6 s v=s++[v]:=by unfold V6;rw [if_neg (by rintro (h | h);exact h2 h;exact hm h)]
   rw [e] at h;exact .inr (.inr ⟨h2,hm,e,by unfold j4;rw [if_neg h2,r0R h (by simp),I0f hm]⟩)
section
variable {F:Nat}
theorem x0D {row:List Int} {f:Int->Int} {j:Nat} (hj:j<row.length):((row.take j).map f++row.drop j).set j (f (gt row (j:Int)))=(row.take (j+1)).map f++row.drop (j+1):=by
 have hg:row[j]?=some (gt row (j:Int)):=E4 hj;have ht:row.take (j+1)=row.take j++[gt row (j:Int)]:=by rw [take_succ,hg];rfl
 have h0:j-((row.take j).map f).length=0:=by simp;omega
 rw [List.set_append_right _ _ (by simp;omega),ht,List.map_append,List.append_assoc,h0,List.drop_eq_getElem_cons hj,List.set_cons_zero];rfl
theorem k0E {row s:List Int} {j:Nat} (hj:j<row.length):N3 s (row.take (j+1))=V6 (N3 s (row.take j)) (gt row (j:Int)):=by
 have hg:row[j]?=some (gt row (j:Int)):=E4 hj;rw [take_succ,hg,h0b];rfl
theorem z02 {src t:List Int} {y:List (List Int)} {x:Nat} (hx:x<y.length) {row:List Int} (hrow:gt y (x:Int)=row) (hpre:N3 src row <+: t) (hlen:t.length<=1000000) (hrl:row.length<=1000) (hf:2000<F) :
  iter (i0i F (x:Int) y) F (src,0,y,E8 0 src)=some (N3 src row,y.set x (row.map (j4 t)),E8 0 (N3 src row)):=by
 have:=V2 (step:=i0i F (x:Int) y) (fun j=>(N3 src (row.take j),(j:Int),y.set x ((row.take j).map (j4 t)++row.drop j),E8 0 (N3 src (row.take j)))) (N3 src row,y.set x (row.map (j4 t)),E8 0 (N3 src row)) row.length (fun j hj=>.inl ?_) ?_ row.length 0 F (by omega) (by omega)
 ·have e0:y.set x ((row.take 0).map (j4 t)++row.drop 0)=y:=by
   simp only [List.take_zero,List.map_nil,List.drop_zero,List.nil_append];rw [<-hrow];refine List.ext_getElem? fun i=>?_
   by_cases e:x=i
   ·subst e;rw [List.getElem?_set_self hx,E4 hx]
   ·rw [List.getElem?_set_ne e]
  rw [<-this];simp only [e0];rfl
 ·have hj1:(j:Int)<((gt y (x:Int)).length:Int):=by rw [hrow];omega
  have hgy:gt (y.set x ((row.take j).map (j4 t)++row.drop j)) (x:Int)=(row.take j).map (j4 t)++row.drop j:=I3 (List.getElem?_set_self hx);have hRl:((row.take j).map (j4 t)++row.drop j).length=row.length:=by simp;omega
  have hin:y0 ((row.take j).map (j4 t)++row.drop j) (j:Int)=true:=P0 (by omega) (by omega);have hgR:gt ((row.take j).map (j4 t)++row.drop j) (j:Int)=gt row (j:Int):=by
   refine I3 ?_;rw [List.getElem?_append_right (by simp;omega)];simp [Nat.min_eq_left (Nat.le_of_lt hj),E4 hj]
  have hnx:=k0E (s:=src) hj;have hp:V6 (N3 src (row.take j)) (gt row (j:Int)) <+: t:=by
   rw [<-hnx];refine List.IsPrefix.trans ?_ hpre;have:N3 src row=N3 (N3 src (row.take (j+1))) (row.drop (j+1)):=by rw [<-h0b,List.take_append_drop]
   rw [this];exact l0K _ _
  have hst:=x0D (f:=j4 t) hj;unfold i0i;simp only [hj1,decide_true,if_true,hgy,hin,hgR,hnx,E2 (i:=j) (by omega)];have hsl:=hp.length_le;generalize N3 src (row.take j)=s at *;generalize gt row (j:Int)=v at *;rcases p0X hp with ⟨h1,h2,h3⟩ | ⟨h1,h2,h3,h4,h5⟩ | ⟨h1,h2,h3,h4⟩
  ·have hb:(v==-2)=true:=by simpa using h1
   rw [h3];simp only [hb,if_true,E0];rw [h2] at hst;have:((row.take j).map (j4 t)++row.drop j).set j (-2)=(row.take j).map (j4 t)++row.drop j:=by
    refine List.ext_getElem? fun i=>?_
    by_cases e:j=i
    ·subst e;rw [List.getElem?_set_self (by omega),E4 (by omega),hgR,h1]
    ·rw [List.getElem?_set_ne e]
   rw [this] at hst;rw [hst]
  ·have hb:(v==-2)=false:=by simpa using h1
   have hm:P7 (E8 0 s) v=true:=by rw [o0e];simpa using h2
   have hg:=q0W v s 0 h2;rw [Nat.zero_add] at hg;rw [h3];simp only [hb,false_eq_true,if_false,hm,Bool.not_true,E0,hgy,hin,if_true,hg,Int.toNat_natCast,set_set];rw [h4] at hst;rw [hst]
  ·have hb:(v==-2)=false:=by simpa using h1
   have hm:P7 (E8 0 s) v=false:=by rw [o0e];simpa using h2
   rw [h3] at hsl ⊢;simp only [length_append,length_cons,length_nil] at hsl;have hap:I0 8 s [v]=true:=by simp [I0];omega
   have hmp:a0M (E8 0 s) v (s.length:Int)=E8 0 (s++[v]):=by rw [s0v _ _ _ hm,t0Y,Nat.zero_add]
   simp only [hb,false_eq_true,if_false,hm,Bool.not_false,if_true,hap,E0,hgy,hin,hmp,Int.toNat_natCast,set_set];rw [h4] at hst;rw [hst]
 ·have hj1:¬ (row.length:Int)<((gt y (x:Int)).length:Int):=by rw [hrow];omega
  unfold i0i;simp only [hj1,decide_false,false_eq_true,if_false,take_length,List.drop_length,List.append_nil]
theorem k0V:∀ (maps:List (List Int)) (m:Nat),(∀ r∈maps,r.length<=m)->maps.flatten.length<=maps.length*m
 |[],m,_=>by simp
 |
  r :: t,m,h=>by
  have h1:=k0V t m (fun x hx=>h x (List.mem_cons_of_mem _ hx));have h2:=h r (by simp);simp only [List.flatten_cons,length_append,length_cons,Nat.succ_mul];omega
def G4 (maps:List (List Int)):List Int:=N3 [] maps.flatten
def A5 (maps:List (List Int)):List (List Int):=maps.map fun r=>r.map (j4 (G4 maps))
theorem g0S {maps:List (List Int)} {i:Nat} (hi:i<maps.length):N3 (N3 [] (maps.take i).flatten) (gt maps (i:Int))=N3 [] (maps.take (i+1)).flatten:=by
 rw [<-h0b,take_succ,E4 hi];simp
theorem r0z (maps:List (List Int)) (i:Nat):N3 [] (maps.take i).flatten <+: G4 maps:=by
 have:G4 maps=N3 (N3 [] (maps.take i).flatten) (maps.drop i).flatten:=by
  unfold G4;rw [<-h0b,<-List.flatten_append,List.take_append_drop]
 rw [this];exact l0K _ _
theorem H09 {fl:Int} {H7:List Int} {maps:List (List Int)} {rk:E1} (hr:∀ r∈maps,r.length<=1000) (hm:maps.length<=1000) (hf:2000<F) :
  g0T F (fl,H7,maps,rk)=some (⟨fl,H7,A5 maps,rk⟩,G4 maps):=by
 have hfl:=k0V maps 1000 hr;have hall:(G4 maps).length<=1000000:=by
  have:=k0w maps.flatten [];have h2:maps.length*1000<=1000*1000:=Nat.mul_le_mul_right _ hm;simp only [length_nil] at this;unfold G4;omega
 unfold g0T;have:=V2 (step:=i0e F maps) (fun i=>(N3 [] (maps.take i).flatten,(i:Int),(maps.take i).map (fun r=>r.map (j4 (G4 maps)))++maps.drop i,E8 0 (N3 [] (maps.take i).flatten))) (G4 maps,A5 maps) maps.length (fun i hi=>.inl ?_) ?_ maps.length 0 F (by omega) (by omega)
 ·have h2:iter (i0e F maps) F ([],0,maps,[])=some (G4 maps,A5 maps):=this;simp only [h2,E0]
 ·have h1:(i:Int)<(maps.length:Int):=by omega
  have hyl:((maps.take i).map (fun r=>r.map (j4 (G4 maps)))++maps.drop i).length=maps.length:=by simp;omega
  have hin:y0 ((maps.take i).map (fun r=>r.map (j4 (G4 maps)))++maps.drop i) (i:Int)=true:=P0 (by omega) (by omega);have hgy:gt ((maps.take i).map (fun r=>r.map (j4 (G4 maps)))++maps.drop i) (i:Int)=gt maps (i:Int):=by
   refine I3 ?_;rw [List.getElem?_append_right (by simp;omega)];simp [Nat.min_eq_left (Nat.le_of_lt hi),E4 hi]
  have hrl:=hr _ (List.mem_of_getElem? (E4 hi));have hrow:=z02 (F:=F) (src:=N3 [] (maps.take i).flatten) (t:=G4 maps) (y:=(maps.take i).map (fun r=>r.map (j4 (G4 maps)))++maps.drop i) (x:=i) (by omega) hgy (by rw [g0S hi];exact r0z maps (i+1)) hall hrl hf;have hset:((maps.take i).map (fun r=>r.map (j4 (G4 maps)))++maps.drop i).set i ((gt maps (i:Int)).map (j4 (G4 maps)))=(maps.take (i+1)).map (fun r=>r.map (j4 (G4 maps)))++maps.drop (i+1):=by
   have ht:maps.take (i+1)=maps.take i++[gt maps (i:Int)]:=by rw [take_succ,E4 hi];rfl
   have h0:i-((maps.take i).map (fun r=>r.map (j4 (G4 maps)))).length=0:=by simp;omega
   rw [List.set_append_right _ _ (by simp;omega),ht,List.map_append,List.append_assoc,h0,List.drop_eq_getElem_cons hi,List.set_cons_zero];rfl
  unfold i0e;simp only [h1,decide_true,if_true,hin,hrow,E0,g0S hi,hset,E2 (i:=i) (by omega)]
 ·have h1:¬ (maps.length:Int)<(maps.length:Int):=by omega
  unfold i0e;simp only [h1,decide_false,false_eq_true,if_false,take_length,List.drop_length,List.append_nil];rfl
theorem x0v {src t:List Int} {y:List (List Int)} {x:Nat} {row:List Int} (hrow:gt y (x:Int)=row.map (j4 t)) (hpre:N3 src row <+: t) (hlen:t.length<=1000000) (hrl:row.length<=1000) (hf:2000<F) :
  iter (h0K F y (x:Int)) F ((src.length:Int),0)=some (.inr ((N3 src row).length:Int))/\∀ k:N4,iter (g04 F ⟨k.Flag,k.Places,y,k.Rank⟩ (x:Int)) F ((src.length:Int),0)=some ((N3 src row).length:Int):=by
 have hp:∀ j,j<row.length->V6 (N3 src (row.take j)) (gt row (j:Int)) <+: t:=fun j hj=>by
  rw [<-k0E hj];refine List.IsPrefix.trans ?_ hpre;have:N3 src row=N3 (N3 src (row.take (j+1))) (row.drop (j+1)):=by rw [<-h0b,List.take_append_drop]
  rw [this];exact l0K _ _
 have hml:(row.map (j4 t)).length=row.length:=by simp
 have hgm:∀ j,j<row.length->gt (row.map (j4 t)) (j:Int)=j4 t (gt row (j:Int)):=fun j hj=>I3 (by rw [List.getElem?_map,E4 hj];rfl);refine ⟨?_,fun k=>?_⟩
 ·have:=V2 (step:=h0K F y (x:Int)) (fun j=>(((N3 src (row.take j)).length:Int),(j:Int))) (.inr ((N3 src row).length:Int)) row.length (fun j hj=>.inl ?_) ?_ row.length 0 F (by omega) (by omega)
  ·exact this
  ·have hj1:(j:Int)<((row.map (j4 t)).length:Int):=by omega
   have hin:y0 (row.map (j4 t)) (j:Int)=true:=P0 (by omega) hj1;have hpj:=hp j hj;have hsl:=hpj.length_le;unfold h0K;simp only [hrow,hj1,decide_true,if_true,hin,hgm j hj,k0E (s:=src) hj,E2 (i:=j) (by omega)];generalize N3 src (row.take j)=s at *;generalize gt row (j:Int)=v at *;rcases p0X hpj with ⟨h1,h2,h3⟩ | ⟨h1,h2,h3,h4,h5⟩ | ⟨h1,h2,h3,h4⟩
   ·rw [h2,h3];rfl
   ·have b1:(((s.idxOf v:Nat):Int)==-2)=false:=by rw [beq_eq_false_iff_ne];omega
    have b2:¬ ((s.idxOf v:Nat):Int)<0:=by omega
    have b3:¬ ((s.idxOf v:Nat):Int)>(s.length:Int):=by omega
    have b4:(((s.idxOf v:Nat):Int)==(s.length:Int))=false:=by rw [beq_eq_false_iff_ne];omega
    rw [h4,h3];simp only [b1,b2,b3,b4,decide_false,false_eq_true,if_false,E0]
   ·have b1:(((s.length:Nat):Int)==-2)=false:=by rw [beq_eq_false_iff_ne];omega
    have b2:¬ ((s.length:Nat):Int)<0:=by omega
    have b3:¬ ((s.length:Nat):Int)>(s.length:Int):=by omega
    rw [h3] at hsl;simp only [length_append,length_cons,length_nil] at hsl;rw [h4,h3];simp only [b1,b2,b3,decide_false,false_eq_true,if_false,E0,beq_self_eq_true,if_true,E2 (i:=s.length) (by omega),length_append,length_cons,length_nil]
  ·have hj1:¬ (row.length:Int)<((row.map (j4 t)).length:Int):=by omega
   unfold h0K;simp only [hrow,hj1,decide_false,false_eq_true,if_false,take_length]
 ·have:=V2 (step:=g04 F ⟨k.Flag,k.Places,y,k.Rank⟩ (x:Int)) (fun j=>(((N3 src (row.take j)).length:Int),(j:Int))) ((N3 src row).length:Int) row.length (fun j hj=>.inl ?_) ?_ row.length 0 F (by omega) (by omega)
  ·exact this
  ·have hj1:(j:Int)<((row.map (j4 t)).length:Int):=by omega
   have hin:y0 (row.map (j4 t)) (j:Int)=true:=P0 (by omega) hj1;have hpj:=hp j hj;have hsl:=hpj.length_le;unfold g04;simp only [hrow,hj1,decide_true,if_true,hin,hgm j hj,k0E (s:=src) hj,E2 (i:=j) (by omega)];generalize N3 src (row.take j)=s at *;generalize gt row (j:Int)=v at *;rcases p0X hpj with ⟨h1,h2,h3⟩ | ⟨h1,h2,h3,h4,h5⟩ | ⟨h1,h2,h3,h4⟩
   ·have b1:¬ (W (-2+1)>(s.length:Int)):=by rw [Z2 (by omega) (by omega)];omega
    rw [h2,h3,if_neg b1]
   ·rw [h3] at hsl;have b1:¬ (W (((s.idxOf v:Nat):Int)+1)>(s.length:Int)):=by rw [Z2 (by omega) (by omega)];omega
    rw [h4,h3,if_neg b1]
   ·rw [h3] at hsl;simp only [length_append,length_cons,length_nil] at hsl;have b1:(W (((s.length:Nat):Int)+1)>(s.length:Int)):=by rw [Z2 (by omega) (by omega)];omega
    rw [h4,h3,if_pos b1,E2 (i:=s.length) (by omega)];simp
  ·have hj1:¬ (row.length:Int)<((row.map (j4 t)).length:Int):=by omega
   unfold g04;simp only [hrow,hj1,decide_false,false_eq_true,if_false,take_length]
theorem u03 {maps:List (List Int)} {tags:Nat} (hr:∀ r∈maps,r.length=tags) (ht:tags<=1000) (hm:maps.length<=1000) (hf:2000<F) (k:N4) :
  i0r F (A5 maps) (tags:Int)=some true/\g0b F ⟨k.Flag,k.Places,A5 maps,k.Rank⟩=some ((G4 maps).length:Int):=by
 have hfl:=k0V maps 1000 (fun r h=>by have:=hr r h;omega);have hall:(G4 maps).length<=1000000:=by
  have:=k0w maps.flatten [];have h2:maps.length*1000<=1000*1000:=Nat.mul_le_mul_right _ hm;simp only [length_nil] at this;unfold G4;omega
 have hrl:(A5 maps).length=maps.length:=by simp [A5]
 have hgm:∀ i,i<maps.length->gt (A5 maps) (i:Int)=(gt maps (i:Int)).map (j4 (G4 maps)):=fun i hi=>I3 (by unfold A5;rw [List.getElem?_map,E4 hi];rfl);have hrow:∀ i,i<maps.length->_:=fun i hi=>x0v (F:=F) (src:=N3 [] (maps.take i).flatten) (t:=G4 maps) (y:=A5 maps) (x:=i) (hgm i hi) (by rw [g0S hi];exact r0z maps (i+1)) hall (by have:=hr _ (List.mem_of_getElem? (E4 hi));omega) hf;have hfin:N3 [] (maps.take maps.length).flatten=G4 maps:=by rw [take_length];rfl
 constructor
 ·unfold i0r;have:=V2 (step:=g01 F (A5 maps) (tags:Int)) (fun i=>(((N3 [] (maps.take i).flatten).length:Int),(i:Int))) (.inr ()) maps.length (fun i hi=>.inl ?_) ?_ maps.length 0 F (by omega) (by omega)
  ·have h2:iter (g01 F (A5 maps) (tags:Int)) F (0,0)=some (.inr ()):=this;rw [h2];rfl
  ·have h1:(i:Int)<((A5 maps).length:Int):=by omega
   have hin:y0 (A5 maps) (i:Int)=true:=P0 (by omega) h1;have hl:=hr _ (List.mem_of_getElem? (E4 hi));have hne:(((gt (A5 maps) (i:Int)).length:Int) != (tags:Int))=false:=by rw [hgm i hi];simp [hl]
   unfold g01;simp only [h1,decide_true,if_true,hin,hne,false_eq_true,if_false,(hrow i hi).1,E0,g0S hi,E2 (i:=i) (by omega)]
  ·have h1:¬ (maps.length:Int)<((A5 maps).length:Int):=by omega
   unfold g01;simp only [h1,decide_false,false_eq_true,if_false]
 ·unfold g0b;have:=V2 (step:=g0C F ⟨k.Flag,k.Places,A5 maps,k.Rank⟩) (fun i=>(((N3 [] (maps.take i).flatten).length:Int),(i:Int))) ((G4 maps).length:Int) maps.length (fun i hi=>.inl ?_) ?_ maps.length 0 F (by omega) (by omega)
  ·have h2:iter (g0C F ⟨k.Flag,k.Places,A5 maps,k.Rank⟩) F (0,0)=some ((G4 maps).length:Int):=this;rw [h2];rfl
  ·have h1:(i:Int)<((A5 maps).length:Int):=by omega
   have hin:y0 (A5 maps) (i:Int)=true:=P0 (by omega) h1;unfold g0C;simp only [h1,decide_true,if_true,hin,(hrow i hi).2 k,E0,g0S hi,E2 (i:=i) (by omega)]
  ·have h1:¬ (maps.length:Int)<((A5 maps).length:Int):=by omega
   unfold g0C;simp only [h1,decide_false,false_eq_true,if_false,hfin]
end
section
variable {F:Nat} {l:List D0} {n:Nat} {a:List B0} {b:Nat->List B0} {e:Nat->B0×Bool} {z:B0×Bool}
end
section
variable {vals:List (List Int)} {fD:Nat->Nat->Int}
end
section
variable {F:Nat} {l:List D0} {n:Nat} {a:List B0} {b:Nat->List B0} {e:Nat->B0×Bool} {z:B0×Bool}
theorem x0T {pl:List Nat} (hp:∀ p∈pl,p<n) (ha:pl.Pairwise fun a b=>a<b) (hl:pl.length<=1000) (hf:2000<F):h0j F (O0 pl) (n:Int)=some true:=by
 unfold h0j;have:=V2 (step:=g0J F (O0 pl) (n:Int)) (fun i=>(if i=0 then -1 else ((pl.getD (i-1) 0:Nat):Int),(i:Int))) (.inr ()) pl.length (fun i hi=>.inl ?_) ?_ pl.length 0 F (by omega) (by omega)
 ·have h2:iter (g0J F (O0 pl) (n:Int)) F (-1,0)=some (.inr ()):=this;rw [h2];rfl
 ·unfold g0J;have h1:(i:Int)<((O0 pl).length:Int):=by simp;omega
  have hpi:=hp _ (List.getElem_mem hi);have h2:¬ ((pl[i]:Nat):Int)<=(if i=0 then -1 else ((pl.getD (i-1) 0:Nat):Int)):=by
   by_cases c:i=0
   ·rw [if_pos c];omega
   ·rw [if_neg c];have:=List.pairwise_iff_getElem.1 ha (i-1) i (by omega) hi (by omega);have e:pl.getD (i-1) 0=pl[i-1]:=by simp [List.getD,show i-1<pl.length by omega]
    rw [e];omega
  have h3:¬ ((pl[i]:Nat):Int)>=(n:Int):=by omega
  have h4:(if i+1=0 then (-1:Int) else ((pl.getD (i+1-1) 0:Nat):Int))=((pl[i]:Nat):Int):=by
   rw [if_neg (by omega),Nat.add_sub_cancel];simp [List.getD,hi]
  simp only [h1,decide_true,if_true,A6 hi,f07 hi,h2,h3,decide_false,false_eq_true,if_false,E0,E2 (i:=i) (by omega),h4]
 ·unfold g0J;have h1:¬ (pl.length:Int)<((O0 pl).length:Int):=by simp
  simp only [h1,decide_false,false_eq_true,if_false]
theorem q0x (K:Q4 l n a b e z F) {k:Kd} (C:U3 l n k.pl k.maps k.fB k.fD) (h0:0<=k.flag) (h2:k.flag<=2) (hnum:i0r F k.maps (T3 l)=some true):a0W F l k.K=some true:=by
 have f1:=K.f1;have hm:=C.le;have hn:=K.T.n64;have hvl:=C.len;have hll:=S6 l l.length;have hKn:=K.hn;unfold a0W Kd.K a8;have c1:¬ k.flag<0:=by omega
 have c2:¬ k.flag>2:=by omega
 have c3:((k.maps.length:Int) != (k.pl.length:Int))=false:=by simp [hvl]
 have c4:h0j F (O0 k.pl) ((Q1 l l.length).length:Int)=some true:=by
  have:=x0T (F:=F) (n:=n) C.pln C.asc (by omega) (by omega);rw [show ((Q1 l l.length).length:Int)=(n:Int) by omega];exact this
 simp only [K.TF.mR,E0,Bool.not_true,false_eq_true,if_false,c1,c2,decide_false,c3,K.TF.mL,c4,if_true,v0V K.hR (show 401<F by omega),hnum,d0T,u0X (show k.pl.length<=1000 by omega) (show 2000<F by omega) C.rk]
def Kd.step (l:List D0) (n:Nat) (a:List B0) (b:Nat->List B0) (k:Kd) (b_:Int):Kd:=
 ⟨if k.flag==1 then 1 else 0,R1 l n a b k.pl b_ (!(k.flag==0)),(R1 l n a b k.pl b_ (!(k.flag==0))).map (stM l a b k.pl k.maps k.fB k.fD (!(k.flag==0))),
  H4 l (R3 k.pl (!(k.flag==0)) k.fB) ((R1 l n a b k.pl b_ (!(k.flag==0))).map (G2 a b k.pl k.fB k.fD (!(k.flag==0)))) ((R1 l n a b k.pl b_ (!(k.flag==0))).map (F4 a b k.pl k.fB k.fD (!(k.flag==0)))),
  U4 l (R3 k.pl (!(k.flag==0)) k.fB) (C4 k.pl (!(k.flag==0)) k.fD) ((R1 l n a b k.pl b_ (!(k.flag==0))).map (G2 a b k.pl k.fB k.fD (!(k.flag==0)))) ((R1 l n a b k.pl b_ (!(k.flag==0))).map (F4 a b k.pl k.fB k.fD (!(k.flag==0))))⟩
def Kd.M7 (e:Nat->B0×Bool) (mode:Int) (k:Kd):Kd:=if mode==0 then k.cut e else k
def Kd.num (k:Kd):Kd:=⟨k.flag,k.pl,A5 k.maps,k.fB,k.fD⟩
theorem n0v (K:Q4 l n a b e z F) (hw:∀ x∈l,C3 x) {k:Kd} (C:U3 l n k.pl k.maps k.fB k.fD) (b_:Int):U3 l n (k.step l n a b b_).pl (k.step l n a b b_).maps (k.step l n a b b_).fB (k.step l n a b b_).fD:=by
 have h:=s0p (at_:=0) K C hw b_ (!(k.flag==0));refine ⟨by simp [Kd.step],h.pln,h.asc,fun v hv=>?_,h.rk⟩;obtain ⟨r,hr,rfl⟩:=mem_map.1 hv;unfold stM;rw [c0B];exact (l0u (v07 C _) (v0o C _) (by rw [<-a0B a b];exact c0m (b0P hr).2)).1
theorem m0I {k:Kd} (mode:Int) (C:U3 l n k.pl k.maps k.fB k.fD):U3 l n (k.M7 e mode).pl (k.M7 e mode).maps (k.M7 e mode).fB (k.M7 e mode).fD:=by
 unfold Kd.M7;split
 ·exact c0S C
 ·exact C
theorem k04 {k:Kd} (C:U3 l n k.pl k.maps k.fB k.fD):U3 l n k.num.pl k.num.maps k.num.fB k.num.fD:=by
 refine ⟨by simp [Kd.num,A5,C.len],C.pln,C.asc,fun v hv=>?_,C.rk⟩;unfold Kd.num A5 at hv;obtain ⟨r,hr,rfl⟩:=mem_map.1 hv;rw [List.length_map];exact C.row r hr
theorem x0g (K:Q4 l n a b e z F) {k:Kd} (C:U3 l n k.pl k.maps k.fB k.fD) (h0:0<=k.flag) (h2:k.flag<=2):a0W F l k.num.K=some true/\g0b F k.num.K=some ((G4 k.maps).length:Int):=by
 have f1:=K.f1;have hm:=C.le;have hn:=K.T.n64;have hvl:=C.len;have ht:=l8 l;have hk:=u03 (F:=F) (maps:=k.maps) (tags:=(T3 l).toNat) C.row (by omega) (by omega) (by omega) k.num.K;have e:(((T3 l).toNat:Nat):Int)=T3 l:=by omega
 rw [e] at hk;exact ⟨q0x K (k04 C) h0 h2 hk.1,hk.2⟩
theorem D0R (K:Q4 l n a b e z F) (hw:∀ x∈l,C3 x) {k:Kd} (C:U3 l n k.pl k.maps k.fB k.fD) (hR:a0W F l k.K=some true) {mode:Int} (hmode:mode=0\/mode=1) {b_:Int} (hb:C7 .u8 b_) :
  d0n F l mode k.K b_=some (((k.step l n a b b_).M7 e mode).num.K,G4 ((k.step l n a b b_).M7 e mode).maps):=by
 have f1:=K.f1;have hn:=K.T.n64;have ht:=l8 l;have C1:=n0v K hw C b_;have C2:=m0I (e:=e) mode C1;have hM:=l0t K C (!(k.flag==0));have hmr:g0a F mode=some true:=by
  unfold g0a;rcases hmode with rfl | rfl<;>rfl
 have hg:=E0c (flag:=k.flag) K C (beg:=!(k.flag==0)) (by simp);have hfl:(if k.flag==1 then some ((1,[],[],(⟨[],[]⟩:E1)):Int×List Int×List (List Int)×E1) else some (0,[],[],(⟨[],[]⟩:E1)))=some ((k.step l n a b b_).flag,[],[],(⟨[],[]⟩:E1)):=by
  unfold Kd.step;cases k.flag==1<;>rfl
 have hlp:=C0l K C hw hb (!(k.flag==0)) (k.step l n a b b_).flag (⟨[],[]⟩:E1);have hnx:=A0E (F:=F) hw K.hR K.hn (show 2000<F by omega) K.TF.mL (show o4 k.pl (!(k.flag==0))<=1000 by omega) (h07 C (!(k.flag==0))) (i0j K C b_ (!(k.flag==0)));have hT:(k.step l n a b b_).T=((k.step l n a b b_).flag,O0 (R1 l n a b k.pl b_ (!(k.flag==0))),(R1 l n a b k.pl b_ (!(k.flag==0))).map (stM l a b k.pl k.maps k.fB k.fD (!(k.flag==0))),O1 (R1 l n a b k.pl b_ (!(k.flag==0))).length (H4 l (R3 k.pl (!(k.flag==0)) k.fB) ((R1 l n a b k.pl b_ (!(k.flag==0))).map (G2 a b k.pl k.fB k.fD (!(k.flag==0)))) ((R1 l n a b k.pl b_ (!(k.flag==0))).map (F4 a b k.pl k.fB k.fD (!(k.flag==0))))) (U4 l (R3 k.pl (!(k.flag==0)) k.fB) (C4 k.pl (!(k.flag==0)) k.fD) ((R1 l n a b k.pl b_ (!(k.flag==0))).map (G2 a b k.pl k.fB k.fD (!(k.flag==0)))) ((R1 l n a b k.pl b_ (!(k.flag==0))).map (F4 a b k.pl k.fB k.fD (!(k.flag==0)))))):=rfl;have hcut:=I0k K C1;rw [hT] at hcut;have hkf:k.K.Flag=k.flag:=rfl;have hnum:∀ q:Kd,U3 l n q.pl q.maps q.fB q.fD->Option.bind (g0T F q.T) (fun x=>some (x.1,x.2))=some (q.num.K,G4 q.maps):=fun q Cq=>by
  unfold Kd.T;rw [H09 (F:=F) (fun r hr=>by have:=Cq.row r hr;omega) (by have:=Cq.len;have:=Cq.le;omega) (by omega)];rfl
 unfold d0n;rw [hmr,hR];simp only [E0,Bool.not_true,false_eq_true,if_false];rw [show g02 F l k.K=_ from hg];simp only [E0,hkf,hfl,K.TF.mL,hlp,hnx,List.length_map];rcases hmode with rfl | rfl
 ·simp only [beq_self_eq_true,if_true,hcut,E0];have h3:=hnum _ C2;unfold Kd.M7 at h3 ⊢;simp only [beq_self_eq_true,if_true] at h3 ⊢;exact h3
 ·simp only [show ((1:Int)==0)=false from rfl,false_eq_true,if_false,E0];have h3:=hnum _ C2;unfold Kd.M7 at h3 ⊢;simp only [show ((1:Int)==0)=false from rfl,false_eq_true,if_false] at h3 ⊢;exact h3
end
theorem a0i {σ τ:Type} {step:σ->Option (U0 σ τ)} (I:Nat->σ->Prop) (P:τ->Prop) {n:Nat} (hs:∀ i s,i<n->I i s->(∃ s',step s=some (.next s')/\I (i+1) s')\/∃ r,step s=some (.done r)/\P r) (hd:∀ s,I n s->∃ r,step s=some (.done r)/\P r) :
  ∀ (k i:Nat) (s:σ) (fu:Nat),i+k=n->I i s->k<fu->∃ r,iter step fu s=some r/\P r:=by
 intro k
 induction k with
 |
  zero=>
  intro i s fu hi hI hfu;obtain ⟨fu,rfl⟩:∃ m,fu=m+1:=⟨fu-1,by omega⟩
  obtain ⟨r,h1,h2⟩:=hd s (by rw [<-show i=n by omega];exact hI);exact ⟨r,g0d h1,h2⟩
 |
  succ k ih=>
  intro i s fu hi hI hfu;obtain ⟨fu,rfl⟩:∃ m,fu=m+1:=⟨fu-1,by omega⟩
  rcases hs i s (by omega) hI with ⟨s',h1,h2⟩ | ⟨r,h1,h2⟩
  ·rw [l0A h1];exact ih (i+1) s' fu (by omega) h2 (by omega)
  ·exact ⟨r,g0d h1,h2⟩
section
variable {F:Nat}
theorem J0i {places:List Int} {many:Int} (hl:places.length<=1000) (hf:2000<F):∃ r,h0j F places many=some r/\(r=true->∀ i:Nat,i<places.length->(if i=0 then (-1:Int) else gt places ((i-1:Nat):Int))<gt places (i:Int)/\gt places (i:Int)<many):=by
 have hp:=a0i (step:=g0J F places many) (fun i s=>s=(if i=0 then (-1:Int) else gt places ((i-1:Nat):Int),(i:Int))/\∀ m:Nat,m<i->(if m=0 then (-1:Int) else gt places ((m-1:Nat):Int))<gt places (m:Int)/\gt places (m:Int)<many)
  (fun r=>r=.inr ()->∀ m:Nat,m<places.length->(if m=0 then (-1:Int) else gt places ((m-1:Nat):Int))<gt places (m:Int)/\gt places (m:Int)<many) (n:=places.length) (fun i s hi hI=>?_) (fun s hI=>?_) places.length 0 (-1,0) F (by omega) ⟨rfl,fun m hm=>by omega⟩ (by omega)
 ·obtain ⟨r,h1,h2⟩:=hp;unfold h0j;rw [h1];rcases r with r | r
  ·exact ⟨false,rfl,fun h=>by cases h⟩
  ·exact ⟨true,rfl,fun _=>h2 rfl⟩
 ·obtain ⟨rfl,hI⟩:=hI;have c1:(i:Int)<(places.length:Int):=by omega
  have hin:y0 places (i:Int)=true:=P0 (by omega) c1;unfold g0J;simp only [c1,decide_true,if_true,hin,E2 (i:=i) (by omega)]
  by_cases c2:gt places (i:Int)<=(if i=0 then (-1:Int) else gt places ((i-1:Nat):Int))
  ·simp only [c2,decide_true,if_true,E0];exact .inr ⟨_,rfl,fun h=>by cases h⟩
  ·by_cases c3:gt places (i:Int)>=many
   ·simp only [c2,c3,decide_true,decide_false,false_eq_true,if_false,if_true,E0];exact .inr ⟨_,rfl,fun h=>by cases h⟩
   ·simp only [c2,c3,decide_false,false_eq_true,if_false,E0];refine .inl ⟨_,rfl,⟨?_,fun m hm=>?_⟩⟩
    ·rw [if_neg (by omega),Nat.add_sub_cancel]
    ·by_cases e:m=i
     ·subst e;exact ⟨by omega,by omega⟩
     ·exact hI m (by omega)
 ·obtain ⟨rfl,hI⟩:=hI;have c1:¬ (places.length:Int)<(places.length:Int):=by omega
  unfold g0J;simp only [c1,decide_false,false_eq_true,if_false];exact ⟨_,rfl,fun _=>hI⟩
theorem x0n {maps:List (List Int)} {x:Nat} (hl:(gt maps (x:Int)).length<=1000) (hf:2000<F) (nx:Int):∃ r,iter (h0K F maps (x:Int)) F (nx,0)=some r/\(∀ q,r=.inr q->∀ m:Nat,m<(gt maps (x:Int)).length->gt (gt maps (x:Int)) (m:Int)=-2\/0<=gt (gt maps (x:Int)) (m:Int)):=by
 refine a0i (step:=h0K F maps (x:Int)) (fun i s=>s.2=(i:Int)/\∀ m:Nat,m<i->gt (gt maps (x:Int)) (m:Int)=-2\/0<=gt (gt maps (x:Int)) (m:Int))
  (fun r=>∀ q,r=.inr q->∀ m:Nat,m<(gt maps (x:Int)).length->gt (gt maps (x:Int)) (m:Int)=-2\/0<=gt (gt maps (x:Int)) (m:Int)) (n:=(gt maps (x:Int)).length) (fun i s hi hI=>?_) (fun s hI=>?_) (gt maps (x:Int)).length 0 (nx,0) F (by omega) ⟨rfl,fun m hm=>by omega⟩ (by omega)
 ·obtain ⟨s1,s2⟩:=s;obtain ⟨h0,hI⟩:=hI;simp only at h0;subst h0;have c1:(i:Int)<((gt maps (x:Int)).length:Int):=by omega
  have hin:y0 (gt maps (x:Int)) (i:Int)=true:=P0 (by omega) c1;have hnext:(gt (gt maps (x:Int)) (i:Int)=-2\/0<=gt (gt maps (x:Int)) (i:Int))->∀ m:Nat,m<i+1->gt (gt maps (x:Int)) (m:Int)=-2\/0<=gt (gt maps (x:Int)) (m:Int):=fun h m hm=>by
   by_cases e:m=i
   ·subst e;exact h
   ·exact hI m (by omega)
  unfold h0K;simp only [c1,decide_true,if_true,hin,E2 (i:=i) (by omega)]
  by_cases c2:gt (gt maps (x:Int)) (i:Int)=-2
  ·rw [c2];exact .inl ⟨_,rfl,rfl,hnext (.inl c2)⟩
  ·have b2:(gt (gt maps (x:Int)) (i:Int)==-2)=false:=beq_eq_false_iff_ne.2 c2
   by_cases c3:gt (gt maps (x:Int)) (i:Int)<0
   ·simp only [b2,c3,decide_true,false_eq_true,if_false,if_true,E0];exact .inr ⟨_,rfl,fun q h=>by cases h⟩
   ·by_cases c4:gt (gt maps (x:Int)) (i:Int)>s1
    ·simp only [b2,c3,c4,decide_true,decide_false,false_eq_true,if_false,if_true,E0];exact .inr ⟨_,rfl,fun q h=>by cases h⟩
    ·simp only [b2,c3,c4,decide_false,false_eq_true,if_false,E0];cases c5:gt (gt maps (x:Int)) (i:Int)==s1
     ·simp only [false_eq_true,if_false,E0];exact .inl ⟨_,rfl,rfl,hnext (.inr (by omega))⟩
     ·simp only [if_true,E0];exact .inl ⟨_,rfl,rfl,hnext (.inr (by omega))⟩
 ·obtain ⟨s1,s2⟩:=s;obtain ⟨h0,hI⟩:=hI;simp only at h0;subst h0;have c1:¬ ((gt maps (x:Int)).length:Int)<((gt maps (x:Int)).length:Int):=by omega
  unfold h0K;simp only [c1,decide_false,false_eq_true,if_false];exact ⟨_,rfl,fun q _=>hI⟩
theorem E0P {maps:List (List Int)} {tags:Int} (hm:maps.length<=1000) (hl:∀ r∈maps,r.length<=1000) (hf:2000<F):∃ r,i0r F maps tags=some r/\(r=true->∀ v∈maps,(v.length:Int)=tags/\∀ y∈v,y=-2\/0<=y):=by
 have hall:∀ {v:List Int},(∀ m:Nat,m<v.length->gt v (m:Int)=-2\/0<=gt v (m:Int))->∀ y∈v,y=-2\/0<=y:=fun {v} h y hy=>by
  obtain ⟨m,hm⟩:=List.getElem?_of_mem hy;have e:gt v (m:Int)=y:=I3 hm;rw [<-e];exact h m (List.getElem?_eq_some_iff.1 hm).1
 have hp:=a0i (step:=g01 F maps tags) (fun i s=>s.2=(i:Int)/\∀ m:Nat,m<i->((gt maps (m:Int)).length:Int)=tags/\∀ y∈gt maps (m:Int),y=-2\/0<=y)
  (fun r=>r=.inr ()->∀ m:Nat,m<maps.length->((gt maps (m:Int)).length:Int)=tags/\∀ y∈gt maps (m:Int),y=-2\/0<=y) (n:=maps.length) (fun i s hi hI=>?_) (fun s hI=>?_) maps.length 0 (0,0) F (by omega) ⟨rfl,fun m hm=>by omega⟩ (by omega)
 ·obtain ⟨r,h1,h2⟩:=hp;unfold i0r;rw [h1];rcases r with r | r
  ·exact ⟨false,rfl,fun h=>by cases h⟩
  ·refine ⟨true,rfl,fun _ v hv=>?_⟩;obtain ⟨m,hm⟩:=List.getElem?_of_mem hv;have e:gt maps (m:Int)=v:=I3 hm;rw [<-e];exact h2 rfl m (List.getElem?_eq_some_iff.1 hm).1
 ·obtain ⟨s1,s2⟩:=s;obtain ⟨h0,hI⟩:=hI;simp only at h0;subst h0;have c1:(i:Int)<(maps.length:Int):=by omega
  have hin:y0 maps (i:Int)=true:=P0 (by omega) c1;obtain ⟨r,g1,g2⟩:=x0n (F:=F) (maps:=maps) (x:=i) (hl _ (L9 hi)) hf s1;unfold g01;simp only [c1,decide_true,if_true,hin,E2 (i:=i) (by omega)];cases c2:((gt maps (i:Int)).length:Int) != tags
  ·simp only [false_eq_true,if_false,g1,E0];rcases r with r | r
   ·exact .inr ⟨_,rfl,fun h=>by cases h⟩
   ·refine .inl ⟨_,rfl,rfl,fun m hm=>?_⟩
    by_cases e:m=i
    ·subst e;exact ⟨by simpa using c2,hall (g2 r rfl)⟩
    ·exact hI m (by omega)
  ·simp only [if_true];exact .inr ⟨_,rfl,fun h=>by cases h⟩
 ·obtain ⟨s1,s2⟩:=s;obtain ⟨h0,hI⟩:=hI;simp only at h0;subst h0;have c1:¬ (maps.length:Int)<(maps.length:Int):=by omega
  unfold g01;simp only [c1,decide_false,false_eq_true,if_false];exact ⟨_,rfl,fun _=>hI⟩
theorem z0N {B:List (List Int)} {n:Nat} (hl:B.length<=1000) (hf:2000<F):∃ r,i0M F B (n:Int)=some r/\(r=true->B=Q0 n n fun i j=>gt (gt B (i:Int)) (j:Int)):=by
 have hp:=a0i (step:=g06 F B (n:Int)) (fun i s=>s=(i:Int)/\∀ m:Nat,m<i->(gt B (m:Int)).length=n) (fun r=>r=.inr ()->∀ m:Nat,m<B.length->(gt B (m:Int)).length=n) (n:=B.length) (fun i s hi hI=>?_) (fun s hI=>?_) B.length 0 0 F (by omega) ⟨rfl,fun m hm=>by omega⟩ (by omega)
 ·obtain ⟨r,h1,h2⟩:=hp;unfold i0M;rw [h1];rcases r with r | r
  ·exact ⟨false,rfl,fun h=>by cases h⟩
  ·refine ⟨_,rfl,fun h=>?_⟩;have hn:B.length=n:=by
    have:((B.length:Int)==(n:Int))=true:=h;have:=beq_iff_eq.1 this;omega
   refine List.ext_getElem (by simp [hn]) fun i i1 i2=>?_;have hi:=h2 rfl i i1;have e1:gt B (i:Int)=B[i]:=I3 (List.getElem?_eq_getElem i1);rw [e1] at hi;simp only [Q0,List.getElem_map,List.getElem_range];unfold E3;refine List.ext_getElem (by simp [hi]) fun j j1 j2=>?_;simp only [List.getElem_map,List.getElem_range,e1];exact (I3 (List.getElem?_eq_getElem j1)).symm
 ·obtain ⟨rfl,hI⟩:=hI;have c1:(i:Int)<(B.length:Int):=by omega
  have hin:y0 B (i:Int)=true:=P0 (by omega) c1;unfold g06;simp only [c1,decide_true,if_true,hin,E2 (i:=i) (by omega)];cases c2:((gt B (i:Int)).length:Int) != (n:Int)
  ·simp only [false_eq_true,if_false];refine .inl ⟨_,rfl,rfl,fun m hm=>?_⟩
   by_cases e:m=i
   ·subst e;have:((gt B (m:Int)).length:Int)=(n:Int):=by simpa using c2
    omega
   ·exact hI m (by omega)
  ·simp only [if_true];exact .inr ⟨_,rfl,fun h=>by cases h⟩
 ·obtain ⟨rfl,hI⟩:=hI;have c1:¬ (B.length:Int)<(B.length:Int):=by omega
  unfold g06;simp only [c1,decide_false,false_eq_true,if_false];exact ⟨_,rfl,fun _=>hI⟩
theorem G0F {n:Nat} {fB fD:Nat->Nat->Int} (hn:n<=1000) (hf:2000<F) {i:Nat} (hi:i<n):∃ r,iter (i0A F (O1 n fB fD) (n:Int) (i:Int)) F 0=some r/\(r=.inr ()->∀ k,k<n->0<=fB i k/\(i≠k->(fD i k=1\/fD i k=-1)/\fD k i=W (0-fD i k))):=by
 refine a0i (step:=i0A F (O1 n fB fD) (n:Int) (i:Int)) (fun k s=>s=(k:Int)/\∀ m,m<k->0<=fB i m/\(i≠m->(fD i m=1\/fD i m=-1)/\fD m i=W (0-fD i m))) (fun r=>r=.inr ()->∀ k,k<n->0<=fB i k/\(i≠k->(fD i k=1\/fD i k=-1)/\fD k i=W (0-fD i k))) (n:=n) (fun k s hk hI=>?_) (fun s hI=>?_) n 0 0 F (by omega) ⟨rfl,fun m hm=>by omega⟩ (by omega)
 ·obtain ⟨rfl,hI⟩:=hI;have c1:(k:Int)<(n:Int):=by omega
  have hgo:(0<=fB i k/\(i≠k->(fD i k=1\/fD i k=-1)/\fD k i=W (0-fD i k)))->∀ m,m<k+1->0<=fB i m/\(i≠m->(fD i m=1\/fD i m=-1)/\fD m i=W (0-fD i m)):=fun h m hm=>by
   by_cases e:m=k
   ·subst e;exact h
   ·exact hI m (by omega)
  unfold i0A;simp only [c1,decide_true,if_true,O1,P5 _ hi,P5 _ hk,F5 _ hi,F5 _ hk,l6 _ hi,l6 _ hk,j8 _ hi,j8 _ hk,E2 (i:=k) (by omega),z6]
  by_cases c2:fB i k<0
  ·simp only [c2,decide_true,if_true,E0];exact .inr ⟨_,rfl,fun h=>by cases h⟩
  ·simp only [c2,decide_false,false_eq_true,if_false]
   by_cases e:i=k
   ·subst e;simp only [bne_self_eq_false,false_eq_true,if_false,E0];exact .inl ⟨_,rfl,rfl,hgo ⟨by omega,fun h=>absurd rfl h⟩⟩
   ·have hne:((i:Int) != (k:Int))=true:=by simp;omega
    simp only [hne,if_true];have h3:∀ c:Bool,c=(fD k i != W (0-fD i k))->(fD i k=1\/fD i k=-1)->(∃ s',(Option.bind (some c) fun x9=>if x9=true then (some (U0.done (Sum.inl ())):Option (U0 Int (Unit ⊕ Unit))) else some (U0.next ((k+1:Nat):Int)))=some (U0.next s')/\(s'=((k+1:Nat):Int)/\∀ m,m<k+1->0<=fB i m/\(i≠m->(fD i m=1\/fD i m=-1)/\fD m i=W (0-fD i m))))\/∃ r:Unit ⊕ Unit,(Option.bind (some c) fun x9=>if x9=true then (some (U0.done (Sum.inl ())):Option (U0 Int (Unit ⊕ Unit))) else some (U0.next ((k+1:Nat):Int)))=some (U0.done r)/\(r=.inr ()->∀ k,k<n->0<=fB i k/\(i≠k->(fD i k=1\/fD i k=-1)/\fD k i=W (0-fD i k))):=fun c hc hd=>by
     cases c with
     |true=>exact .inr ⟨_,rfl,fun h=>by cases h⟩
     |false=>exact .inl ⟨_,rfl,rfl,hgo ⟨by omega,fun _=>⟨hd,by simpa using hc.symm⟩⟩⟩
    by_cases d1:fD i k=1
    ·have b1:(fD i k != 1)=false:=by simp [d1]
     simp only [b1,false_eq_true,if_false];exact h3 _ rfl (.inl d1)
    ·have b1:(fD i k != 1)=true:=by simp [d1]
     by_cases d2:fD i k=-1
     ·have b2:(fD i k != -1)=false:=by simp [d2]
      simp only [b1,b2,false_eq_true,if_false,if_true];exact h3 _ rfl (.inr d2)
     ·have b2:(fD i k != -1)=true:=by simp [d2]
      simp only [b1,b2,if_true,E0];exact .inr ⟨_,rfl,fun h=>by cases h⟩
 ·obtain ⟨rfl,hI⟩:=hI;have c1:¬ (n:Int)<(n:Int):=by omega
  unfold i0A;simp only [c1,decide_false,false_eq_true,if_false];exact ⟨_,rfl,fun _=>hI⟩
theorem I02 {x:E1} {n:Nat} (hB:x.B.length<=1000) (hD:x.D.length<=1000) (hn:n<=1000) (hf:2000<F):∃ r,h0O F x (n:Int)=some r/\(r=true->∃ fB fD,x=O1 n fB fD/\e8 n fB fD):=by
 obtain ⟨r1,h1,h2⟩:=z0N (F:=F) (B:=x.B) (n:=n) hB hf;obtain ⟨r3,h3,h4⟩:=z0N (F:=F) (B:=x.D) (n:=n) hD hf;unfold h0O;rw [h1];cases r1 with
 |false=>exact ⟨false,rfl,fun h=>by cases h⟩
 |
  true=>
  cases r3 with
  |false=>rw [h3];exact ⟨false,rfl,fun h=>by cases h⟩
  |
   true=>
   rw [h3];have e1:=h2 rfl;have e2:=h4 rfl;generalize (fun (i j:Nat)=>gt (gt x.B (i:Int)) (j:Int))=fB at e1;generalize (fun (i j:Nat)=>gt (gt x.D (i:Int)) (j:Int))=fD at e2;have ex:x=O1 n fB fD:=by
    obtain ⟨xB,xD⟩:=x;simp only at e1 e2;unfold O1;rw [<-e1,<-e2]
   subst ex;have hp:=a0i (step:=i0l F (O1 n fB fD) (n:Int)) (fun i s=>s=(i:Int)/\∀ m,m<i->fB m m=0/\fD m m=0/\∀ k,k<n->0<=fB m k/\(m≠k->(fD m k=1\/fD m k=-1)/\fD k m=W (0-fD m k)))
    (fun r=>r=.inr ()->∀ m,m<n->fB m m=0/\fD m m=0/\∀ k,k<n->0<=fB m k/\(m≠k->(fD m k=1\/fD m k=-1)/\fD k m=W (0-fD m k))) (n:=n) (fun i s hi hI=>?_) (fun s hI=>?_) n 0 0 F (by omega) ⟨rfl,fun m hm=>by omega⟩ (by omega)
   ·obtain ⟨r,g1,g2⟩:=hp;simp only [E0,Bool.not_true,false_eq_true,if_false,g1];rcases r with r | r
    ·exact ⟨false,rfl,fun h=>by cases h⟩
    ·have g:=g2 rfl;refine ⟨true,rfl,fun _=>⟨fB,fD,rfl,fun i k hi hk=>((g i hi).2.2 k hk).1,fun i hi=>(g i hi).1,fun i hi=>(g i hi).2.1,fun i k hi hk hne=>(((g i hi).2.2 k hk).2 hne).1,fun i k hi hk=>?_⟩⟩
     by_cases e:i=k
     ·subst e;rw [(g i hi).2.1];rfl
     ·obtain ⟨d1,d2⟩:=((g i hi).2.2 k hk).2 e;rw [d2,C0N d1]
   ·obtain ⟨rfl,hI⟩:=hI;have c1:(i:Int)<(n:Int):=by omega
    obtain ⟨r,k1,k2⟩:=G0F (F:=F) (fB:=fB) (fD:=fD) hn hf hi;unfold i0l;unfold O1 at k1 ⊢;simp only [c1,decide_true,if_true,P5 _ hi,F5 _ hi,l6 _ hi,j8 _ hi,E2 (i:=i) (by omega)]
    by_cases c2:fB i i=0
    ·have b2:(fB i i != 0)=false:=by simp [c2]
     by_cases c3:fD i i=0
     ·have b3:(fD i i != 0)=false:=by simp [c3]
      simp only [b2,b3,false_eq_true,if_false,E0,k1];rcases r with r | r
      ·exact .inr ⟨_,rfl,fun h=>by cases h⟩
      ·refine .inl ⟨_,rfl,rfl,fun m hm=>?_⟩
       by_cases e:m=i
       ·subst e;exact ⟨c2,c3,k2 rfl⟩
       ·exact hI m (by omega)
     ·have b3:(fD i i != 0)=true:=by simp [c3]
      simp only [b2,b3,false_eq_true,if_false,if_true,E0];exact .inr ⟨_,rfl,fun h=>by cases h⟩
    ·have b2:(fB i i != 0)=true:=by simp [c2]
     simp only [b2,if_true,E0];exact .inr ⟨_,rfl,fun h=>by cases h⟩
   ·obtain ⟨rfl,hI⟩:=hI;have c1:¬ (n:Int)<(n:Int):=by omega
    unfold i0l;simp only [c1,decide_false,false_eq_true,if_false];exact ⟨_,rfl,fun _=>hI⟩
end
theorem F0z {α β:Type} (x:Option (α×β)):(Option.bind x fun p=>some (p.1,p.2))=x:=by cases x<;>rfl
set_option maxHeartbeats 2000000 in
theorem l0y:e0t Fb=some true:=by
 unfold e0t;simp only [c0u,E0,z6,F0z,j0o];kernel_rfl
