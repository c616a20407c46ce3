/- The rank of runs that went on: Next, by the program and by the document. Which byte is in a set: the program and the document tell the same. All that come to places: the program's lists. One byte more: the program and the document tell the same. One byte more: the steps themselves. Its conditions: none. -/
import Derived.Test.YtdficaoajalfaaaGreatUG44
open Bool (false_eq_true)
open List (mem_filter mem_map)
set_option linter.all false
namespace Go.Proofs.YtdficaoajalfaaaGreat
open Go.V Go.RowKit Old
def n5 (i k:Nat) (f:Nat->Nat->Int) (a b:Nat):Int:=if (a<i/\b<i)\/(a=i/\b<k)\/(b=i/\a<k) then f a b else 0
def B6 (i k:Nat) (f:Nat->Nat->Int) (a b:Nat):Int:=if a<i\/(a=i/\b<k) then f a b else 0
theorem x0H {m i k:Nat} (hk:k<i) (f:Nat->Nat->Int) :
  Q0 m m (fun a=>if a=k then (fun j=>if j=i then f k i else (if k=i then (fun j=>if j=k then f i k else n5 i k f i j) else n5 i k f k) j) else (if a=i then (fun j=>if j=k then f i k else n5 i k f i j) else n5 i k f a))=Q0 m m (n5 i (k+1) f):=by
 refine V7 fun a b _ _=>?_;have hki:¬ k=i:=by omega
 by_cases e1:a=k
 ·rw [if_pos e1]
  by_cases e2:b=i
  ·rw [if_pos e2];unfold n5;rw [if_pos (by omega),e1,e2]
  ·rw [if_neg e2,if_neg hki,e1];unfold n5
   by_cases e3:b<i
   ·rw [if_pos (by omega),if_pos (by omega)]
   ·rw [if_neg (by omega),if_neg (by omega)]
 ·rw [if_neg e1]
  by_cases e2:a=i
  ·rw [if_pos e2]
   by_cases e3:b=k
   ·rw [if_pos e3];unfold n5;rw [if_pos (by omega),e2,e3]
   ·rw [if_neg e3,e2];unfold n5
    by_cases e4:b<k
    ·rw [if_pos (by omega),if_pos (by omega)]
    ·rw [if_neg (by omega),if_neg (by omega)]
  ·rw [if_neg e2];unfold n5
   by_cases e4:(a<i/\b<i)\/(a=i/\b<k)\/(b=i/\a<k)
   ·rw [if_pos e4,if_pos (by omega)]
   ·rw [if_neg e4,if_neg (by omega)]
theorem u02 {m i:Nat} (f:Nat->Nat->Int) (h:f i i=0):Q0 m m (n5 i i f)=Q0 m m (n5 (i+1) 0 f):=by
 refine V7 fun a b _ _=>?_;unfold n5
 by_cases e:a=i/\b=i
 ·rw [if_neg (by omega),if_pos (by omega),e.1,e.2,h]
 ·by_cases e4:(a<i/\b<i)\/(a=i/\b<i)\/(b=i/\a<i)
  ·rw [if_pos e4,if_pos (by omega)]
  ·rw [if_neg e4,if_neg (by omega)]
theorem t0K {m i k:Nat} (f:Nat->Nat->Int):Q0 m m (fun a=>if a=i then (fun j=>if j=k then f i k else B6 i k f i j) else B6 i k f a)=Q0 m m (B6 i (k+1) f):=by
 refine V7 fun a b _ _=>?_
 by_cases e2:a=i
 ·rw [if_pos e2]
  by_cases e3:b=k
  ·rw [if_pos e3];unfold B6;rw [if_pos (by omega),e2,e3]
  ·rw [if_neg e3,e2];unfold B6
   by_cases e4:b<k
   ·rw [if_pos (by omega),if_pos (by omega)]
   ·rw [if_neg (by omega),if_neg (by omega)]
 ·rw [if_neg e2];unfold B6
  by_cases e4:a<i
  ·rw [if_pos (by omega),if_pos (by omega)]
  ·rw [if_neg (by omega),if_neg (by omega)]
theorem s0J {m i:Nat} (f:Nat->Nat->Int) (h:f i i=0):Q0 m m (B6 i i f)=Q0 m m (B6 i (i+1) f):=by
 refine V7 fun a b _ _=>?_;unfold B6
 by_cases e:a=i/\b=i
 ·rw [if_neg (by omega),if_pos (by omega),e.1,e.2,h]
 ·by_cases e4:a<i\/(a=i/\b<i)
  ·rw [if_pos e4,if_pos (by omega)]
  ·rw [if_neg e4,if_neg (by omega)]
theorem u00 {m i:Nat} (f:Nat->Nat->Int):Q0 m m (B6 i m f)=Q0 m m (B6 (i+1) 0 f):=by
 refine V7 fun a b ha hb=>?_;unfold B6
 by_cases e4:a<i\/(a=i/\b<m)
 ·rw [if_pos e4,if_pos (by omega)]
 ·rw [if_neg e4,if_neg (by omega)]
theorem v0D {fr:List Nat} {i k:Nat}:(((fr.getD i 0:Nat):Int)==((fr.getD k 0:Nat):Int))=decide (fr.getD i 0=fr.getD k 0):=by
 by_cases h:fr.getD i 0=fr.getD k 0
 ·rw [h];simp
 ·have:¬ ((fr.getD i 0:Nat):Int)=((fr.getD k 0:Nat):Int):=by omega
  simp only [h,decide_false,beq_eq_false_iff_ne,ne_eq,this,not_false_eq_true]
section
variable {F:Nat} {l:List D0} {n m:Nat} {fB fD:Nat->Nat->Int} {fr:List Nat} {hops:List B0}
structure h0r (l:List D0) (n m:Nat) (fr:List Nat) (hops:List B0):Prop where
 lt:∀ i∈fr,i<m
 len:hops.length=fr.length
 le:fr.length<=500
 hop:∀ x∈hops,J7 n x
 asc:hops.Pairwise fun a b=>a.To<b.To
theorem C0N {d:Int} (h:d=1\/d=-1):W (0-d)=- d:=by rcases h with h | h<;>rw [h]<;>rfl
theorem F0v (hw:∀ x∈l,C3 x) (hR:J2 l=true) (hn:n=N0 l l.length) (hf:2000<F) (hL:E7 F l=some (Q1 l l.length)) (h:e8 m fB fD) (g:h0r l n m fr hops) {i:Nat} (hi:i<fr.length) :
  iter (h0I F l (O1 m fB fD) (O0 fr) hops (i:Int)) F (0,Q0 fr.length fr.length (n5 i 0 (H4 l fB fr hops)),Q0 fr.length fr.length (n5 i 0 (U4 l fB fD fr hops)))=some (Q0 fr.length fr.length (n5 (i+1) 0 (H4 l fB fr hops)),Q0 fr.length fr.length (n5 (i+1) 0 (U4 l fB fD fr hops))):=by
 have hle:=g.le;have ok:=p03 hw hR hn h g.lt g.len g.hop g.asc;rw [<-u02 _ (ok.bd i hi),<-u02 _ (ok.dd i hi)];have:=V2 (step:=h0I F l (O1 m fB fD) (O0 fr) hops (i:Int)) (fun k=>((k:Int),Q0 fr.length fr.length (n5 i k (H4 l fB fr hops)),Q0 fr.length fr.length (n5 i k (U4 l fB fD fr hops)))) (Q0 fr.length fr.length (n5 i i (H4 l fB fr hops)),Q0 fr.length fr.length (n5 i i (U4 l fB fD fr hops))) i (fun k hk=>.inl ?_) ?_ i 0 F (by omega) (by omega)
 ·exact this
 ·have hkl:k<fr.length:=by omega
  have h1:(k:Int)<(i:Int):=by omega
  have hih:y0 hops (i:Int)=true:=P0 (by omega) (by rw [g.len];omega);have hkh:y0 hops (k:Int)=true:=P0 (by omega) (by rw [g.len];omega);have xi:=a0O g.hop (i:=i) (by rw [g.len];exact hi);have xk:=a0O g.hop (i:=k) (by rw [g.len];exact hkl);have hto:=o0W g.asc (i:=i) (k:=k) (by rw [g.len];exact hi) (by rw [g.len];exact hkl) (by omega);have hne:¬ i=k:=by omega
  have hne':¬ k=i:=by omega
  have hdn:=ok.dn i k hi hkl;have hd1:=ok.d1 i k hi hkl hne;have hWd:W (0-U4 l fB fD fr hops i k)=U4 l fB fD fr hops k i:=by rw [hdn];exact C0N hd1
  have key:∀ p q r:Int,p=H4 l fB fr hops i k->q=H4 l fB fr hops k i->r=U4 l fB fD fr hops i k->
    (Option.bind (some (Q0 fr.length fr.length (fun a=>if a=k then (fun j=>if j=i then q else (if k=i then (fun j=>if j=k then p else n5 i k (H4 l fB fr hops) i j) else n5 i k (H4 l fB fr hops) k) j) else (if a=i then (fun j=>if j=k then p else n5 i k (H4 l fB fr hops) i j) else n5 i k (H4 l fB fr hops) a)),
     Q0 fr.length fr.length (fun a=>if a=i then (fun j=>if j=k then r else n5 i k (U4 l fB fD fr hops) i j) else n5 i k (U4 l fB fD fr hops) a))) fun (y5,y6)=>
    (if y0 y6 (k:Int) then
     if y0 y6 (i:Int) then
      if y0 (gt y6 (i:Int)) (k:Int) then
       if y0 (gt y6 (k:Int)) (i:Int) then
        let t5:=y6.set (k:Int).toNat ((gt y6 (k:Int)).set (i:Int).toNat (W (0-(gt (gt y6 (i:Int)) (k:Int)))))
        some (.next (W ((k:Int)+1),y5,t5))
       else none
      else none
     else none
    else none:Option (U0 (Int×(List (List Int))×(List (List Int))) ((List (List Int))×(List (List Int))))))=some (.next (((k+1:Nat):Int),Q0 fr.length fr.length (n5 i (k+1) (H4 l fB fr hops)),Q0 fr.length fr.length (n5 i (k+1) (U4 l fB fD fr hops)))):=by
   rintro p q r rfl rfl rfl
   simp only [E0,P5 _ hi,P5 _ hkl,F5 _ hi,F5 _ hkl,l6 _ hi,l6 _ hkl,if_true,j8 _ hi,j8 _ hkl,Int.toNat_natCast,f04,f0v,x0H hk,hWd,E2 (i:=k) (by omega)]
  unfold h0I;simp only [h1,decide_true,if_true,A6 hi,A6 hkl,e7 hi,e7 hkl,v0D,decide_eq_true_eq,P5 _ hi,P5 _ hkl,hih,hkh,I0P hw hR hn (show 1000<F by omega) hL xi xk hto,F5 _ hi,F5 _ hkl,l6 _ hi,l6 _ hkl,k0j g.len g.lt hi hkl,k0j g.len g.lt hkl hi,u0L g.len g.lt hi hkl,Int.toNat_natCast,f04,f0v]
  by_cases he:fr.getD i 0=fr.getD k 0
  ·rw [if_pos he];refine key _ _ _ ?_ ?_ ?_
   ·unfold H4;rw [if_neg hne,if_pos he]
   ·unfold H4;rw [if_neg hne',if_pos he.symm,m0H l _ _ hto]
   ·unfold U4;rw [if_neg hne,if_pos he]
  ·rw [if_neg he];refine key _ _ _ ?_ ?_ ?_
   ·unfold H4;rw [if_neg hne,if_neg he]
   ·unfold H4;rw [if_neg hne',if_neg (fun e=>he e.symm)]
   ·unfold U4;rw [if_neg hne,if_neg he]
 ·unfold h0I;have h1:¬ ((i:Int)<(i:Int)):=by omega
  simp only [h1,decide_false,if_false,false_eq_true]
theorem A0E (hw:∀ x∈l,C3 x) (hR:J2 l=true) (hn:n=N0 l l.length) (hf:2000<F) (hL:E7 F l=some (Q1 l l.length)) (hm:m<=1000) (h:e8 m fB fD) (g:h0r l n m fr hops) :
  j0K F l (O1 m fB fD) (O0 fr) hops=some (O1 fr.length (H4 l fB fr hops) (U4 l fB fD fr hops)):=by
 have hle:=g.le;unfold j0K;rw [j0O hm hf h];have hlen:(((O0 fr).length:Int) != (hops.length:Int))=false:=by rw [d0T,g.len];simp
 have t1:=V2 (step:=i0a F (O1 m fB fD) (O0 fr)) (fun i=>(i:Int)) (.inr ()) fr.length (fun i hi=>.inl ?_) ?_ fr.length 0 F (by omega) (by omega)
 ·have e1:iter (i0a F (O1 m fB fD) (O0 fr)) F 0=_:=t1;have t2:=V2 (step:=i0u F l (O1 m fB fD) (O0 fr) hops) (fun i=>((i:Int),Q0 fr.length fr.length (n5 i 0 (H4 l fB fr hops)),Q0 fr.length fr.length (n5 i 0 (U4 l fB fD fr hops)))) (Q0 fr.length fr.length (H4 l fB fr hops),Q0 fr.length fr.length (U4 l fB fD fr hops)) fr.length (fun i hi=>.inl ?_) ?_ fr.length 0 F (by omega) (by omega)
  ·have z:∀ f,Q0 fr.length fr.length (n5 0 0 f)=Q0 fr.length fr.length fun _ _=>0:=fun f=>V7 fun a b _ _=>by unfold n5;rw [if_neg (by omega)]
   rw [z,z] at t2;have e2:iter (i0u F l (O1 m fB fD) (O0 fr) hops) F (0,Q0 fr.length fr.length (fun _ _=>0),Q0 fr.length fr.length fun _ _=>0)=_:=t2;simp only [E0,Bool.not_true,false_eq_true,if_false,hlen,e1,show decide ((-1:Int)>=0)=false from rfl];rw [d0T,r0N (by omega) hf];simp only [E0,e2];rfl
  ·unfold i0u;have h1:(i:Int)<((O0 fr).length:Int):=by simp;omega
   simp only [h1,decide_true,if_true,F0v hw hR hn hf hL h g hi,E0,E2 (i:=i) (by omega)]
  ·unfold i0u;have h1:¬ ((fr.length:Int)<((O0 fr).length:Int)):=by simp
   have z:∀ f,Q0 fr.length fr.length (n5 fr.length 0 f)=Q0 fr.length fr.length f:=fun f=>V7 fun a b _ _=>by unfold n5;rw [if_pos (by omega)]
   simp only [h1,decide_false,if_false,false_eq_true,z]
 ·unfold i0a e0y;have h1:(i:Int)<((O0 fr).length:Int):=by simp;omega
  have hx:=T6 g.lt hi;have h2:((fr.getD i 0:Nat):Int)>=0:=by omega
  have h3:((fr.getD i 0:Nat):Int)<((O1 m fB fD).B.length:Int):=by simp only [O1,k07];omega
  simp only [h1,decide_true,if_true,A6 hi,e7 hi,h2,h3,E0,Bool.not_true,false_eq_true,if_false,E2 (i:=i) (by omega)]
 ·unfold i0a;have h1:¬ ((fr.length:Int)<((O0 fr).length:Int)):=by simp
  simp only [h1,decide_false,if_false,false_eq_true]
theorem I0p (hw:∀ x∈l,C3 x) (hR:J2 l=true) (hn:n=N0 l l.length) (hl:l.length*64<=140737488351232) (hf:2000<F) (hf2:l.length+1<F) (hL:u7 F l=some (Q1 l l.length)) (h:e8 m fB fD) (g:h0r l n m fr hops) {i:Nat} (hi:i<fr.length) :
  iter (i0E F l (O1 m fB fD) (O0 fr) hops (i:Int)) F (0,Q0 fr.length fr.length (B6 i 0 (H4 l fB fr hops)),Q0 fr.length fr.length (B6 i 0 (U4 l fB fD fr hops)))=some (Q0 fr.length fr.length (B6 (i+1) 0 (H4 l fB fr hops)),Q0 fr.length fr.length (B6 (i+1) 0 (U4 l fB fD fr hops))):=by
 have hle:=g.le;have ok:=p03 hw hR hn h g.lt g.len g.hop g.asc;rw [<-u00,<-u00];have:=V2 (step:=i0E F l (O1 m fB fD) (O0 fr) hops (i:Int)) (fun k=>((k:Int),Q0 fr.length fr.length (B6 i k (H4 l fB fr hops)),Q0 fr.length fr.length (B6 i k (U4 l fB fD fr hops)))) (Q0 fr.length fr.length (B6 i fr.length (H4 l fB fr hops)),Q0 fr.length fr.length (B6 i fr.length (U4 l fB fD fr hops))) fr.length (fun k hkl=>.inl ?_) ?_ fr.length 0 F (by omega) (by omega)
 ·exact this
 ·have h1:(k:Int)<((O0 fr).length:Int):=by simp;omega
  have hih:y0 hops (i:Int)=true:=P0 (by omega) (by rw [g.len];omega);have hkh:y0 hops (k:Int)=true:=P0 (by omega) (by rw [g.len];omega);have xi:=a0O g.hop (i:=i) (by rw [g.len];exact hi);have xk:=a0O g.hop (i:=k) (by rw [g.len];exact hkl);unfold i0E
  by_cases hik:i=k
  ·subst hik;simp only [h1,decide_true,if_true,beq_self_eq_true,E0,E2 (i:=i) (by omega),s0J _ (ok.bd i hi),s0J _ (ok.dd i hi)]
  ·have hto:=o0W g.asc (i:=i) (k:=k) (by rw [g.len];exact hi) (by rw [g.len];exact hkl) hik;have hb:((i:Int)==(k:Int))=false:=by simp;omega
   have xa:=T6 g.lt hi;have xb:=T6 g.lt hkl;simp only [h1,decide_true,if_true,hb,false_eq_true,if_false,A6 hi,A6 hkl,e7 hi,e7 hkl,v0D,decide_eq_true_eq,P5 _ hi,P5 _ hkl,hih,hkh,B06 hw hR hn hl (show 1000<F by omega) hf2 hL xi xk hto,q0H,t0N xa xb,F5 _ hi,F5 _ hkl,l6 _ hi,l6 _ hkl,
    show (O1 m fB fD).B=Q0 m m fB from rfl,P5 _ xa,F5 _ xa,l6 _ xb,j8 _ xb,Int.toNat_natCast,f04,f0v,E0,E2 (i:=k) (by omega)]
   have eB:=t0K (m:=fr.length) (i:=i) (k:=k) (H4 l fB fr hops);have eD:=t0K (m:=fr.length) (i:=i) (k:=k) (U4 l fB fD fr hops)
   by_cases he:fr.getD i 0=fr.getD k 0
   ·rw [if_pos he];have q1:H4 l fB fr hops i k=(r7 l (gt hops (i:Int)) (gt hops (k:Int))).1:=by unfold H4;rw [if_neg hik,if_pos he]
    have q2:U4 l fB fD fr hops i k=(r7 l (gt hops (i:Int)) (gt hops (k:Int))).2.2:=by unfold U4;rw [if_neg hik,if_pos he]
    rw [q1] at eB;rw [q2] at eD;simp only [E0,eB,eD]
   ·rw [if_neg he];have q1:H4 l fB fr hops i k=K7 (fB (fr.getD i 0) (fr.getD k 0)) (gt hops (i:Int)).Turn:=by unfold H4;rw [if_neg hik,if_neg he]
    have q2:U4 l fB fD fr hops i k=N7 fB fD (fr.getD i 0) (fr.getD k 0) (gt hops (i:Int)) (gt hops (k:Int)):=by unfold U4;rw [if_neg hik,if_neg he]
    rw [q1] at eB;rw [q2] at eD;simp only [E0,eB,eD]
 ·unfold i0E;have h1:¬ ((fr.length:Int)<((O0 fr).length:Int)):=by simp
  simp only [h1,decide_false,if_false,false_eq_true]
theorem y0R (hw:∀ x∈l,C3 x) (hR:J2 l=true) (hn:n=N0 l l.length) (hl:l.length*64<=140737488351232) (hf:2000<F) (hf2:l.length+1<F) (hL:u7 F l=some (Q1 l l.length)) (hm:m<=1000) (h:e8 m fB fD) (g:h0r l n m fr hops) :
  l0c F l (O1 m fB fD) (O0 fr) hops=some (O1 fr.length (H4 l fB fr hops) (U4 l fB fD fr hops)):=by
 have hle:=g.le;unfold l0c;have hrl:((O1 m fB fD).B.length:Int)=(m:Int):=by simp [O1]
 rw [hrl,e0V hm hf h];have hlen:(((O0 fr).length:Int) != (hops.length:Int))=false:=by rw [d0T,g.len];simp
 have t1:=V2 (step:=i0D F (O1 m fB fD) (O0 fr)) (fun i=>(i:Int)) (.inr ()) fr.length (fun i hi=>.inl ?_) ?_ fr.length 0 F (by omega) (by omega)
 ·have e1:iter (i0D F (O1 m fB fD) (O0 fr)) F 0=_:=t1;have t2:=V2 (step:=h0J F l (O1 m fB fD) (O0 fr) hops) (fun i=>((i:Int),Q0 fr.length fr.length (B6 i 0 (H4 l fB fr hops)),Q0 fr.length fr.length (B6 i 0 (U4 l fB fD fr hops)))) (Q0 fr.length fr.length (H4 l fB fr hops),Q0 fr.length fr.length (U4 l fB fD fr hops)) fr.length (fun i hi=>.inl ?_) ?_ fr.length 0 F (by omega) (by omega)
  ·have z:∀ f,Q0 fr.length fr.length (B6 0 0 f)=Q0 fr.length fr.length fun _ _=>0:=fun f=>V7 fun a b _ _=>by unfold B6;rw [if_neg (by omega)]
   rw [z,z] at t2;have e2:iter (h0J F l (O1 m fB fD) (O0 fr) hops) F (0,Q0 fr.length fr.length (fun _ _=>0),Q0 fr.length fr.length fun _ _=>0)=_:=t2;simp only [E0,Bool.not_true,false_eq_true,if_false,hlen,e1];rw [d0T,t0m (by omega) hf];simp only [E0,e2];rfl
  ·unfold h0J;have h1:(i:Int)<((O0 fr).length:Int):=by simp;omega
   simp only [h1,decide_true,if_true,I0p hw hR hn hl hf hf2 hL h g hi,E0,E2 (i:=i) (by omega)]
  ·unfold h0J;have h1:¬ ((fr.length:Int)<((O0 fr).length:Int)):=by simp
   have z:∀ f,Q0 fr.length fr.length (B6 fr.length 0 f)=Q0 fr.length fr.length f:=fun f=>V7 fun a b _ _=>by unfold B6;rw [if_pos (by omega)]
   simp only [h1,decide_false,if_false,false_eq_true,z]
 ·unfold i0D;have h1:(i:Int)<((O0 fr).length:Int):=by simp;omega
  have hx:=T6 g.lt hi;have h2:¬ ((fr.getD i 0:Nat):Int)<0:=by omega
  have h3:¬ ((fr.getD i 0:Nat):Int)>=((O1 m fB fD).B.length:Int):=by simp only [O1,k07];omega
  simp only [h1,decide_true,if_true,A6 hi,e7 hi,h2,h3,decide_false,false_eq_true,if_false,E0,E2 (i:=i) (by omega)]
 ·unfold i0D;have h1:¬ ((fr.length:Int)<((O0 fr).length:Int)):=by simp
  simp only [h1,decide_false,if_false,false_eq_true]
end
theorem wrap_u64 {n:Nat} (h:n<18446744073709551616):IntKind.wrap .u64 (n:Int)=n:=by
 simp [IntKind.wrap,IntKind.bits,IntKind.signed];omega
theorem v0p (x y:BitVec 64):D3 .u64 (x.toNat:Int) (y.toNat:Int)=((x&&& y).toNat:Int):=by
 unfold D3;simp only [IntKind.bits,BitVec.ofInt_natCast,BitVec.ofNat_toNat,BitVec.setWidth_eq];exact wrap_u64 (x&&& y).isLt
theorem B0Z {k:Nat} (h:k<64):shl .u64 1 (k:Int)=((BitVec.twoPow 64 k).toNat:Int):=by
 have h1:min k 64=k:=by omega
 have h2:2 ^ k<18446744073709551616:=Nat.pow_lt_pow_right (a:=2) (by omega) (show k<64 from h);unfold shl;rw [show (IntKind.u64).bits=64 from rfl,Int.toNat_natCast,h1,Int.one_mul,BitVec.toNat_twoPow,Nat.mod_eq_of_lt h2];rw [show ((2:Int) ^ k)=((2 ^ k:Nat):Int) by simp];exact wrap_u64 h2
theorem C0E (x:BitVec 64) {k:Nat} (h:k<64):shr .u64 (x.toNat:Int) (k:Int)=((x >>> k).toNat:Int):=by
 have h1:min k 64=k:=by omega
 unfold shr;rw [show (IntKind.u64).bits=64 from rfl,Int.toNat_natCast,h1,BitVec.toNat_ushiftRight,Nat.shiftRight_eq_div_pow,show ((2:Int) ^ k)=((2 ^ k:Nat):Int) by simp,Int.fdiv_eq_ediv_of_nonneg _ (Int.natCast_nonneg _),Int.natCast_ediv]
theorem y0X {v:Int} (h0:0<=v) (h1:v<18446744073709551616) {k:Nat} (hk:k<64):(D3 .u64 v (shl .u64 1 (k:Int)) != 0)=(D3 .u64 (shr .u64 v (k:Int)) 1==1):=by
 obtain ⟨x,rfl⟩:∃ x:BitVec 64,v=(x.toNat:Int):=⟨BitVec.ofNat 64 v.toNat,by rw [BitVec.toNat_ofNat,Nat.mod_eq_of_lt (by omega)];omega⟩
 rw [B0Z hk,C0E x hk,v0p,show (1:Int)=((BitVec.twoPow 64 0).toNat:Int) from rfl,v0p,BitVec.and_twoPow,BitVec.and_twoPow];have hb:(x >>> k).getLsbD 0=x.getLsbD k:=by simp
 rw [hb];have hp:(BitVec.twoPow 64 k).toNat≠0:=by
  rw [BitVec.toNat_twoPow,Nat.mod_eq_of_lt (Nat.pow_lt_pow_right (a:=2) (by omega) (show k<64 from hk))];exact Nat.ne_of_gt (Nat.two_pow_pos k)
 cases x.getLsbD k with
 |false=>simp
 |
  true=>
  have:((BitVec.twoPow 64 k).toNat:Int)≠0:=by omega
  simp only [if_true,bne_iff_ne,ne_eq,this,not_false_eq_true,beq_self_eq_true,bne,beq_eq_false_iff_ne.2 this,Bool.not_false]
def hasB (s:List Int) (b:Int):Bool:=D3 .u64 (gt s (Int.tdiv b 64)) (shl .u64 1 (Int.tmod b 64)) != 0
theorem w0c (fuel:Nat) {s:List Int} (hs:s.length=4/\∀ y∈s,C7 .u64 y) {b:Int} (hb:C7 .u8 b):l0m fuel s b=some (hasB s b)/\l0r fuel s (W b)=some (hasB s b):=by
 have hb':0<=b/\b<256:=⟨hb.1,by have:=hb.2;rw [show IntKind.u8.max=255 from rfl] at this;omega⟩
 obtain ⟨n,rfl⟩:∃ n:Nat,b=n:=⟨b.toNat,by omega⟩
 have hn:n<256:=by omega
 have hd:Int.tdiv (n:Int) 64=((n / 64:Nat):Int):=by rw [Int.tdiv_eq_ediv_of_nonneg (by omega)];simp
 have hm:Int.tmod (n:Int) 64=((n % 64:Nat):Int):=by rw [Int.tmod_eq_emod_of_nonneg (by omega)];simp
 have hw8:IntKind.wrap .u8 ((n / 64:Nat):Int)=((n / 64:Nat):Int):=by simp [IntKind.wrap,IntKind.bits,IntKind.signed];omega
 have hWn:W (n:Int)=n:=r0w (by omega);have hWd:W ((n / 64:Nat):Int)=((n / 64:Nat):Int):=r0w (by omega);have hin:w0n 4 ((n / 64:Nat):Int)=true:=by simp [w0n];omega
 have hmem:=hs.2 _ (List.mem_of_getElem? (E4 (l:=s) (i:=n / 64) (by omega)));have hv:0<=gt s ((n / 64:Nat):Int)/\gt s ((n / 64:Nat):Int)<18446744073709551616:=⟨hmem.1,by have:=hmem.2;rw [show IntKind.u64.max=18446744073709551615 from rfl] at this;omega⟩
 have h0:(0:Int)<=((n % 64:Nat):Int):=by omega
 unfold l0m l0r hasB;have q1:(0:Int)<=((n / 64:Nat):Int):=by omega
 have q2:((n / 64:Nat):Int)<4:=by omega
 have q3:¬ ((n % 64:Nat):Int)<0:=by omega
 have q4:(n:Int)>=0:=by omega
 have q5:(n:Int)<256:=by omega
 simp only [hWn,hd,hm,hw8,hWd,q1,q2,q3,q4,q5,decide_true,decide_false,Bool.not_false,Bool.and_self,if_true,E0,y0X hv.1 hv.2 (show n % 64<64 by omega),and_self]
def R6 (ws:List B0) (r:Nat):Option B0:=ws.find? fun h=>h.To==(r:Int)
def a0J (ws:List B0) (r:Nat):B0:=(R6 ws r).getD ⟨0,0,[]⟩
def K3 (Ws:List (List B0)) (r k:Nat):List Nat:=(List.range k).filter fun i=>(R6 (Ws.getD i []) r).isSome
def I5 (Ws:List (List B0)) (r k:Nat):List B0:=(K3 Ws r k).map fun i=>a0J (Ws.getD i []) r
theorem p0s (Ws:List (List B0)) (r k:Nat):K3 Ws r (k+1)=K3 Ws r k++if (R6 (Ws.getD k []) r).isSome then [k] else []:=by
 unfold K3;rw [List.range_succ,List.filter_append];congr 1;cases h:(R6 (Ws.getD k []) r).isSome
 ·simp only [List.filter_cons,h,false_eq_true,if_false,List.filter_nil]
 ·simp only [List.filter_cons,h,if_true,List.filter_nil]
theorem r0p (Ws:List (List B0)) (r k:Nat):I5 Ws r (k+1)=I5 Ws r k++if (R6 (Ws.getD k []) r).isSome then [a0J (Ws.getD k []) r] else []:=by
 unfold I5;rw [p0s,List.map_append];congr 1;split<;>rfl
theorem u0w {Ws:List (List B0)} {r k i:Nat} (h:i∈K3 Ws r k):i<k:=List.mem_range.1 (mem_filter.1 h).1
theorem j0u (Ws:List (List B0)) (r k:Nat):(K3 Ws r k).length<=k:=Nat.le_trans (List.length_filter_le _ _) (by simp)
theorem j0s (Ws:List (List B0)) (r k:Nat):(I5 Ws r k).length=(K3 Ws r k).length:=by simp [I5]
theorem C0I {ws:List B0} {r:Nat} (h:(R6 ws r).isSome=true):a0J ws r∈ws/\(a0J ws r).To=r:=by
 unfold a0J;cases e:R6 ws r with
 |none=>rw [e] at h;simp at h
 |
  some x=>
  have:=List.find?_some e;exact ⟨List.mem_of_find?_eq_some e,by simpa using this⟩
def H9 (fB fD:Nat->Nat->Int) (Ws:List (List B0)) (r:Nat):Nat:=(d0z fB fD (K3 Ws r Ws.length) (I5 Ws r Ws.length)).toNat
def d0R (fB fD:Nat->Nat->Int) (Ws:List (List B0)) (r:Nat):Nat:=(K3 Ws r Ws.length).getD (H9 fB fD Ws r) 0
def V9 (fB fD:Nat->Nat->Int) (Ws:List (List B0)) (r:Nat):B0:=a0J (Ws.getD (d0R fB fD Ws r) []) r
def O4 (hs:Nat->Bool) (Ws:List (List B0)) (k:Nat):List Nat:=(List.range k).filter fun r=>hs r&&!(K3 Ws r Ws.length).isEmpty
theorem t0g (hs:Nat->Bool) (Ws:List (List B0)) (k:Nat):O4 hs Ws (k+1)=O4 hs Ws k++if hs k&&!(K3 Ws k Ws.length).isEmpty then [k] else []:=by
 unfold O4;rw [List.range_succ,List.filter_append];congr 1;cases h:(hs k&&!(K3 Ws k Ws.length).isEmpty)<;>simp [h]
theorem F0k {hs:Nat->Bool} {Ws:List (List B0)} {k i:Nat} (h:i∈O4 hs Ws k):i<k:=List.mem_range.1 (mem_filter.1 h).1
theorem o0F (hs:Nat->Bool) (Ws:List (List B0)) (k:Nat):(O4 hs Ws k).length<=k:=Nat.le_trans (List.length_filter_le _ _) (by simp)
theorem v0A (hs:Nat->Bool) (Ws:List (List B0)) (k:Nat):(O4 hs Ws k).Pairwise fun a b=>a<b:=List.Pairwise.filter _ List.pairwise_lt_range
theorem z0q {hs:Nat->Bool} {Ws:List (List B0)} {k r:Nat} (h:r∈O4 hs Ws k):hs r=true/\K3 Ws r Ws.length≠[]:=by
 have:=(mem_filter.1 h).2;simpa using this
theorem B0h {fB fD:Nat->Nat->Int} {fr:List Nat} {hops:List B0}:∀ k,0<k->∃ j:Nat,b0f fB fD fr hops k=j/\j<k:=by
 intro k
 induction k with
 |zero=>intro h;omega
 |
  succ k ih=>
  intro _;rw [l0M];unfold c09;split
  ·exact ⟨k,rfl,by omega⟩
  ·split
   ·exact ⟨k,rfl,by omega⟩
   ·rcases n0X fB fD fr hops k with h | ⟨j,h,hj⟩
    ·rename_i hneg _;rw [h] at hneg;exact absurd (show (-1:Int)<0 by omega) hneg
    ·exact ⟨j,h,by omega⟩
theorem C00 {fB fD:Nat->Nat->Int} {fr:List Nat} {hops:List B0} (h:fr≠[]):∃ j:Nat,d0z fB fD fr hops=j/\j<fr.length:=B0h _ (List.length_pos_iff.2 h)
theorem v0C {fB fD:Nat->Nat->Int} {hops:List B0}:d0z fB fD [] hops=-1:=rfl
section
variable {fB fD:Nat->Nat->Int} {Ws:List (List B0)} {r:Nat}
theorem j0w (h:K3 Ws r Ws.length≠[]):d0z fB fD (K3 Ws r Ws.length) (I5 Ws r Ws.length)=(H9 fB fD Ws r:Int)/\H9 fB fD Ws r<(K3 Ws r Ws.length).length:=by
 obtain ⟨j,h1,h2⟩:=C00 (fB:=fB) (fD:=fD) (hops:=I5 Ws r Ws.length) h;unfold H9;rw [h1];exact ⟨rfl,h2⟩
theorem r09 (h:K3 Ws r Ws.length≠[]):d0R fB fD Ws r∈K3 Ws r Ws.length:=by
 have:=(j0w (fB:=fB) (fD:=fD) h).2;unfold d0R;rw [show (K3 Ws r Ws.length).getD (H9 fB fD Ws r) 0=(K3 Ws r Ws.length)[H9 fB fD Ws r] from by simp [List.getD,this]];exact List.getElem_mem this
theorem c0m (h:K3 Ws r Ws.length≠[]):d0R fB fD Ws r<Ws.length:=u0w (r09 h)
theorem u05 (h:K3 Ws r Ws.length≠[]):gt (I5 Ws r Ws.length) (H9 fB fD Ws r:Int)=V9 fB fD Ws r:=by
 have:=(j0w (fB:=fB) (fD:=fD) h).2;refine I3 ?_;unfold V9 d0R I5;simp [List.getD,this]
theorem k0n (h:K3 Ws r Ws.length≠[]):V9 fB fD Ws r∈Ws.getD (d0R fB fD Ws r) []/\(V9 fB fD Ws r).To=r:=C0I (mem_filter.1 (r09 h)).2
end
def z8 (hs:Nat->Bool) (Ws:List (List B0)):Nat->Nat
 |0=>0
 |r+1=>z8 hs Ws r+if hs r then (K3 Ws r Ws.length).length else 0
theorem n0z (hs:Nat->Bool) (Ws:List (List B0)):∀ k,z8 hs Ws k<=k*Ws.length
 |0=>by simp [z8]
 |
  k+1=>by
  have h1:=n0z hs Ws k;have h2:=j0u Ws k Ws.length;simp only [z8,Nat.succ_mul];split<;>omega
end Go.Proofs.YtdficaoajalfaaaGreat
namespace Go.Proofs.YtdficaoajalfaaaGreat
open Go.V Go.RowKit Old Go.X
section
variable {F:Nat} {l:List D0} {n:Nat}
theorem y0w {ws:List B0} {j r:Nat} (hj:j<ws.length) (h:(gt ws (j:Int)).To≠(r:Int)):R6 (ws.take (j+1)) r=R6 (ws.take j) r:=by
 unfold R6;rw [List.take_succ,E4 hj,List.find?_append];simp [List.find?_cons,h]
theorem F0a {n:Nat} {ws:List B0} (hw:A8 n ws) {j r:Nat} (hj:j<ws.length) (h:(gt ws (j:Int)).To=(r:Int)):R6 (ws.take (j+1)) r=some (gt ws (j:Int))/\R6 (ws.take j) r=none:=by
 have hnone:R6 (ws.take j) r=none:=by
  unfold R6;rw [List.find?_eq_none];intro x hx;obtain ⟨i,hi,he⟩:=List.mem_iff_getElem.1 hx;simp only [List.length_take] at hi;have hd:=List.pairwise_iff_getElem.1 hw.dist i j (by omega) hj (by omega);rw [List.getElem_take] at he;rw [<-he];have e2:gt ws (j:Int)=ws[j]:=I3 (by simp [hj]);rw [e2] at h;simp only [beq_iff_eq];omega
 refine ⟨?_,hnone⟩;unfold R6 at hnone ⊢;rw [List.take_succ,E4 hj,List.find?_append,hnone];simp [h]
theorem setOf (l:List D0) {n:Nat} (hn:n=N0 l l.length) (hw:∀ x∈l,C3 x) {r:Nat} (hr:r<n):y0 ((Q1 l l.length).map fun q=>(gt l q).Set) (r:Int)=true/\gtZ 4 ((Q1 l l.length).map fun q=>(gt l q).Set) (r:Int)=(gt l (gt (Q1 l l.length) (r:Int))).Set/\
  ((gt l (gt (Q1 l l.length) (r:Int))).Set.length=4/\∀ y∈(gt l (gt (Q1 l l.length) (r:Int))).Set,C7 .u64 y):=by
 obtain ⟨q,h2,h3,h4⟩:=d0M l hn (x:=(r:Int)) (by omega) (by omega);have hlen:=S6 l l.length;refine ⟨P0 (by omega) (by simp;omega),?_,?_⟩
 ·unfold gtZ;have:(Q1 l l.length)[r]?=some (gt (Q1 l l.length) (r:Int)):=E4 (by omega);exact @I3 _ ⟨List.replicate 4 0⟩ _ _ _ (by rw [List.getElem?_map,this];rfl)
 ·rw [h3];have:=hw _ (List.mem_of_getElem? (E4 (l:=l) (i:=q) h2));exact this.2.2.2.2
def J3 (l:List D0) (b_:Int) (r:Nat):Bool:=hasB (gt l (gt (Q1 l l.length) (r:Int))).Set b_
end
def R0 (a:List B0) (b:Nat->List B0) (pl:List Nat) (C0:Bool):List (List B0):=pl.map b++if C0 then [a] else []
def b6 (l:List D0) (at_:Int) (vals:List (List Int)) (C0:Bool):List (List Int):=vals++if C0 then [Z8 l at_] else []
def o4 (pl:List Nat) (C0:Bool):Nat:=if C0 then pl.length+1 else pl.length
def R3 (pl:List Nat) (C0:Bool) (fB:Nat->Nat->Int):Nat->Nat->Int:=if C0 then a0T pl.length fB else fB
def C4 (pl:List Nat) (C0:Bool) (fD:Nat->Nat->Int):Nat->Nat->Int:=if C0 then a0S pl.length fD else fD
theorem a0B (a:List B0) (b:Nat->List B0) (pl:List Nat) (C0:Bool):(R0 a b pl C0).length=o4 pl C0:=by unfold R0 o4;cases C0<;>simp
section
variable {F:Nat} {l:List D0} {n:Nat} {a:List B0} {b:Nat->List B0} {e:Nat->B0×Bool} {z:B0×Bool} {at_ work:Int} {pl:List Nat} {vals:List (List Int)} {fB fD:Nat->Nat->Int}
theorem v0U (C:U3 l n pl vals fB fD) (C0:Bool):(b6 l at_ vals C0).length=o4 pl C0:=by unfold b6 o4;cases C0<;>simp [C.len]
theorem h07 (C:U3 l n pl vals fB fD) (C0:Bool):e8 (o4 pl C0) (R3 pl C0 fB) (C4 pl C0 fD):=by
 unfold o4 R3 C4;cases C0 with
 |false=>exact C.rk
 |true=>exact D0W C.rk
theorem s0D (C:U3 l n pl vals fB fD) (C0:Bool):∀ v∈b6 l at_ vals C0,v.length=(T3 l).toNat:=by
 intro v hv;unfold b6 at hv;rcases List.mem_append.1 hv with h | h
 ·exact C.row v h
 ·cases C0 with
  |false=>simp at h
  |true=>simp at h;subst h;exact l0a l at_
theorem h0U (K:Q4 l n a b e z F) (C:U3 l n pl vals fB fD) (C0:Bool):∀ i,i<(R0 a b pl C0).length->A8 n ((R0 a b pl C0).getD i [])/\((R0 a b pl C0).getD i []).length<=500000/\(∀ h∈(R0 a b pl C0).getD i [],J7 n h)/\S8 800 ((R0 a b pl C0).getD i []):=by
 intro i hi;have hm:(R0 a b pl C0).getD i []∈R0 a b pl C0:=by
  rw [show (R0 a b pl C0).getD i []=(R0 a b pl C0)[i] from by simp [List.getD,hi]];exact List.getElem_mem hi
 have hop:∀ {ws:List B0},A8 n ws->a0q ws->∀ h∈ws,J7 n h:=fun hw ht h hh=>⟨(hw.ok h hh).1,(hw.ok h hh).2.1,(ht h hh).1,(ht h hh).2⟩
 generalize (R0 a b pl C0).getD i []=ws at *;unfold R0 at hm;rcases List.mem_append.1 hm with h | h
 ·obtain ⟨p,hp,rfl⟩:=mem_map.1 h;have:=C.pln p hp;exact ⟨K.T.bw p this,K.T.bl p this,hop (K.T.bw p this) (K.T.bT p this),K.T.bb p this⟩
 ·cases C0 with
  |false=>simp at h
  |true=>simp at h;subst h;exact ⟨K.T.aw,K.T.al,hop K.T.aw K.T.aT,K.T.ab⟩
def R1 (l:List D0) (n:Nat) (a:List B0) (b:Nat->List B0) (pl:List Nat) (b_:Int) (C0:Bool):List Nat:=O4 (J3 l b_) (R0 a b pl C0) n
def G2 (a:List B0) (b:Nat->List B0) (pl:List Nat) (fB fD:Nat->Nat->Int) (C0:Bool) (r:Nat):Nat:=d0R (R3 pl C0 fB) (C4 pl C0 fD) (R0 a b pl C0) r
def F4 (a:List B0) (b:Nat->List B0) (pl:List Nat) (fB fD:Nat->Nat->Int) (C0:Bool) (r:Nat):B0:=V9 (R3 pl C0 fB) (C4 pl C0 fD) (R0 a b pl C0) r
def D7 (l:List D0) (a:List B0) (b:Nat->List B0) (at_:Int) (pl:List Nat) (vals:List (List Int)) (fB fD:Nat->Nat->Int) (C0:Bool) (r:Nat):List Int:=
 a6 at_ (-1) (gt (b6 l at_ vals C0) (G2 a b pl fB fD C0 r:Int)) (j5 l (F4 a b pl fB fD C0 r).Steps)
def stW (l:List D0) (n:Nat) (a:List B0) (b:Nat->List B0) (pl:List Nat) (b_:Int) (C0:Bool):Int:=
 (z8 (J3 l b_) (R0 a b pl C0) n:Int)+(((R1 l n a b pl b_ C0).length:Int)*T3 l+((R1 l n a b pl b_ C0).length:Int)*((R1 l n a b pl b_ C0).length:Int))
theorem b0P {b_:Int} {C0:Bool} {r:Nat} (h:r∈R1 l n a b pl b_ C0):r<n/\K3 (R0 a b pl C0) r (R0 a b pl C0).length≠[]:=⟨F0k h,(z0q h).2⟩
theorem v0j {b_:Int} {C0:Bool}:(R1 l n a b pl b_ C0).length<=n:=o0F _ _ _
theorem i0j (K:Q4 l n a b e z F) (C:U3 l n pl vals fB fD) (b_:Int) (C0:Bool):h0r l n (o4 pl C0) ((R1 l n a b pl b_ C0).map (G2 a b pl fB fD C0)) ((R1 l n a b pl b_ C0).map (F4 a b pl fB fD C0)) where
 lt i hi:=by
  obtain ⟨r,hr,rfl⟩:=mem_map.1 hi;rw [<-a0B a b];exact c0m (b0P hr).2
 len:=by simp
 le:=by have:=v0j (l:=l) (n:=n) (a:=a) (b:=b) (pl:=pl) (b_:=b_) (C0:=C0);have:=K.T.n64;simp;omega
 hop x hx:=by
  obtain ⟨r,hr,rfl⟩:=mem_map.1 hx;have hm:=k0n (fB:=R3 pl C0 fB) (fD:=C4 pl C0 fD) (b0P hr).2;exact (h0U K C C0 _ (c0m (b0P hr).2)).2.2.1 _ hm.1
 asc:=by
  rw [List.pairwise_map];refine (v0A _ _ _).imp_of_mem fun {x y} hx hy hxy=>?_;have h1:=(k0n (fB:=R3 pl C0 fB) (fD:=C4 pl C0 fD) (b0P hx).2).2;have h2:=(k0n (fB:=R3 pl C0 fB) (fD:=C4 pl C0 fD) (b0P hy).2).2;unfold F4;rw [h1,h2];omega
theorem l0u {V:List (List Int)} {m:Nat} (h:∀ v∈V,v.length=(T3 l).toNat) (hl:V.length=m) {k:Nat} (hk:k<m):(gt V (k:Int)).length=(T3 l).toNat/\y0 V (k:Int)=true:=
 ⟨h _ (List.mem_of_getElem? (E4 (by omega))),P0 (by omega) (by omega)⟩
theorem s0p (K:Q4 l n a b e z F) (C:U3 l n pl vals fB fD) (hw:∀ x∈l,C3 x) (b_:Int) (C0:Bool) :
  U3 l n (R1 l n a b pl b_ C0) ((R1 l n a b pl b_ C0).map (D7 l a b at_ pl vals fB fD C0)) (H4 l (R3 pl C0 fB) ((R1 l n a b pl b_ C0).map (G2 a b pl fB fD C0)) ((R1 l n a b pl b_ C0).map (F4 a b pl fB fD C0))) (U4 l (R3 pl C0 fB) (C4 pl C0 fD) ((R1 l n a b pl b_ C0).map (G2 a b pl fB fD C0)) ((R1 l n a b pl b_ C0).map (F4 a b pl fB fD C0))) where
 len:=by simp
 pln r hr:=(b0P hr).1
 asc:=v0A _ _ _
 row v hv:=by
  obtain ⟨r,hr,rfl⟩:=mem_map.1 hv;unfold D7;rw [c0B];exact (l0u (s0D C C0) (v0U C C0) (by rw [<-a0B a b];exact c0m (b0P hr).2)).1
 rk:=by
  have g:=i0j K C b_ C0;have:=p03 hw K.hR K.hn (h07 C C0) g.lt g.len g.hop g.asc;simpa using this
theorem v0f (K:Q4 l n a b e z F) (C:U3 l n pl vals fB fD) (b_:Int) (C0:Bool):0<=stW l n a b pl b_ C0/\stW l n a b pl b_ C0<=1000000/\(z8 (J3 l b_) (R0 a b pl C0) n:Int)<=200000/\0<=((R1 l n a b pl b_ C0).length:Int)*T3 l/\((R1 l n a b pl b_ C0).length:Int)*T3 l<=10000/\0<=((R1 l n a b pl b_ C0).length:Int)*((R1 l n a b pl b_ C0).length:Int)/\((R1 l n a b pl b_ C0).length:Int)*((R1 l n a b pl b_ C0).length:Int)<=160000:=by
 have hm:=C.le;have hn:=K.T.n64;have h1:=n0z (J3 l b_) (R0 a b pl C0) n;have h2:(R0 a b pl C0).length<=401:=by rw [a0B];unfold o4;split<;>omega
 have h3:n*(R0 a b pl C0).length<=400*401:=Nat.mul_le_mul hn h2;have h4:=v0j (l:=l) (n:=n) (a:=a) (b:=b) (pl:=pl) (b_:=b_) (C0:=C0);have ht:=l8 l;unfold stW;generalize (R1 l n a b pl b_ C0).length=p at *;have h5:(p:Int)*T3 l<=400*19:=Int.mul_le_mul (by omega) ht.2 (by omega) (by omega);have h6:(p:Int)*(p:Int)<=400*400:=Int.mul_le_mul (by omega) (by omega) (by omega) (by omega);have h7:0<=(p:Int)*T3 l:=Int.mul_nonneg (by omega) (by omega);have h8:0<=(p:Int)*(p:Int):=Int.mul_nonneg (by omega) (by omega);generalize (p:Int)*T3 l=x at *;generalize (p:Int)*(p:Int)=y at *;refine ⟨by omega,by omega,by omega,by omega,by omega,by omega,by omega⟩
end
section
variable {F:Nat} {l:List D0} {n:Nat} {a:List B0} {b:Nat->List B0} {e:Nat->B0×Bool} {z:B0×Bool} {at_ work:Int} {pl:List Nat} {vals:List (List Int)} {fB fD:Nat->Nat->Int}
theorem t0P (K:Q4 l n a b e z F) (C:U3 l n pl vals fB fD) (C0:Bool) (r:Nat):(K3 (R0 a b pl C0) r (R0 a b pl C0).length).length<=500/\∀ i∈K3 (R0 a b pl C0) r (R0 a b pl C0).length,i<o4 pl C0:=by
 have hm:=C.le;have hn:=K.T.n64;have h1:=j0u (R0 a b pl C0) r (R0 a b pl C0).length;rw [a0B] at h1;refine ⟨by
       have:o4 pl C0<=pl.length+1:=by unfold o4;split<;>omega
       rw [a0B];omega,fun i hi=>?_⟩
 rw [<-a0B a b];exact u0w hi
theorem l0t (K:Q4 l n a b e z F) (C:U3 l n pl vals fB fD) (C0:Bool):o4 pl C0<=401:=by
 have hm:=C.le;have hn:=K.T.n64;unfold o4;split<;>omega
theorem t08 (K:Q4 l n a b e z F) (C:U3 l n pl vals fB fD) {b_:Int} {C0:Bool} {r:Nat} (h:K3 (R0 a b pl C0) r (R0 a b pl C0).length≠[]):(F4 a b pl fB fD C0 r).Steps.length<=2000000/\n3 800 (F4 a b pl fB fD C0 r).Steps:=by
 have hm:=k0n (fB:=R3 pl C0 fB) (fD:=C4 pl C0 fD) h;have hw:=h0U K C C0 _ (c0m (fB:=R3 pl C0 fB) (fD:=C4 pl C0 fD) h);exact ⟨(hw.1.ok _ hm.1).2.2,hw.2.2.2 _ hm.1⟩
end
