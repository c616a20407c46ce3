/- The rank of runs that went on: Next, by the program and by the document. Which byte is in a set: the program and the document tell the same. All that come to places: the program's lists. One byte more: the program and the document tell the same. Its conditions: none. -/
import Derived.Test.YtdficaoajalfaaaGreatAG42
open Bool (false_eq_true)
open List (mem_of_getElem? map_append mem_range mem_filter mem_map map_cons map_nil)
set_option linter.all false
namespace Go.Proofs.YtdficaoajalfaaaGreat
open Go.V Go.RowKit Old
def W4 (i k:Nat) (f:Nat->Nat->Int) (a b:Nat):Int:=if (a<i/\b<i)\/(a=i/\b<k)\/(b=i/\a<k) then f a b else 0
theorem z0J {m i k:Nat} (hk:k<i) (f:Nat->Nat->Int) :
  I2 m m (fun a=>if a=k then (fun j=>if j=i then f k i else (if k=i then (fun j=>if j=k then f i k else W4 i k f i j) else W4 i k f k) j) else (if a=i then (fun j=>if j=k then f i k else W4 i k f i j) else W4 i k f a))=I2 m m (W4 i (k+1) f):=by
 refine d0e fun a b _ _=>?_;have hki:¬ k=i:=by omega
 by_cases e1:a=k
 ·rw [if_pos e1]
  by_cases e2:b=i
  ·rw [if_pos e2];unfold W4;rw [if_pos (by omega),e1,e2]
  ·rw [if_neg e2,if_neg hki,e1];unfold W4
   by_cases e3:b<i
   ·rw [if_pos (by omega),if_pos (by omega)]
   ·rw [if_neg (by omega),if_neg (by omega)]
 ·rw [if_neg e1]
  by_cases e2:a=i
  ·rw [if_pos e2]
   by_cases e3:b=k
   ·rw [if_pos e3];unfold W4;rw [if_pos (by omega),e2,e3]
   ·rw [if_neg e3,e2];unfold W4
    by_cases e4:b<k
    ·rw [if_pos (by omega),if_pos (by omega)]
    ·rw [if_neg (by omega),if_neg (by omega)]
  ·rw [if_neg e2];unfold W4
   by_cases e4:(a<i/\b<i)\/(a=i/\b<k)\/(b=i/\a<k)
   ·rw [if_pos e4,if_pos (by omega)]
   ·rw [if_neg e4,if_neg (by omega)]
theorem t0o {m i:Nat} (f:Nat->Nat->Int) (h:f i i=0):I2 m m (W4 i i f)=I2 m m (W4 (i+1) 0 f):=by
 refine d0e fun a b _ _=>?_;unfold W4
 by_cases e:a=i/\b=i
 ·rw [if_neg (by omega),if_pos (by omega),e.1,e.2,h]
 ·by_cases e4:(a<i/\b<i)\/(a=i/\b<i)\/(b=i/\a<i)
  ·rw [if_pos e4,if_pos (by omega)]
  ·rw [if_neg e4,if_neg (by omega)]
theorem F0C {fr:List Nat} {i k:Nat}:(((fr.getD i 0:Nat):Int)==((fr.getD k 0:Nat):Int))=decide (fr.getD i 0=fr.getD k 0):=by
 by_cases h:fr.getD i 0=fr.getD k 0
 ·rw [h];simp
 ·have:¬ ((fr.getD i 0:Nat):Int)=((fr.getD k 0:Nat):Int):=by omega
  simp only [h,decide_false,beq_eq_false_iff_ne,ne_eq,this,not_false_eq_true]
section
variable {F:Nat} {l:List C0} {n m:Nat} {fB fD:Nat->Nat->Int} {fr:List Nat} {hops:List y0}
structure k0X (l:List C0) (n m:Nat) (fr:List Nat) (hops:List y0):Prop where
 lt:∀ i∈fr,i<m
 len:hops.length=fr.length
 le:fr.length<=500
 hop:∀ x∈hops,a0L n x
 asc:hops.Pairwise fun a b=>a.To<b.To
theorem D03 {d:Int} (h:d=1\/d=-1):W (0-d)=- d:=by rcases h with h | h<;>rw [h]<;>rfl
theorem C0h (hw:∀ x∈l,o3 x) (hR:K1 l=true) (hn:n=L0 l l.length) (hf:2000<F) (hL:K7 F l=some (L2 l l.length)) (h:a0s m fB fD) (g:k0X l n m fr hops) {i:Nat} (hi:i<fr.length) :
  iter (h0Z F l (D3 m fB fD) (J2 fr) hops (i:Int)) F (0,I2 fr.length fr.length (W4 i 0 (P5 l fB fr hops)),I2 fr.length fr.length (W4 i 0 (N6 l fB fD fr hops)))=some (I2 fr.length fr.length (W4 (i+1) 0 (P5 l fB fr hops)),I2 fr.length fr.length (W4 (i+1) 0 (N6 l fB fD fr hops))):=by
 have hle:=g.le;have ok:=p0k hw hR hn h g.lt g.len g.hop g.asc;rw [<-t0o _ (ok.bd i hi),<-t0o _ (ok.dd i hi)];have:=R4 (step:=h0Z F l (D3 m fB fD) (J2 fr) hops (i:Int)) (fun k=>((k:Int),I2 fr.length fr.length (W4 i k (P5 l fB fr hops)),I2 fr.length fr.length (W4 i k (N6 l fB fD fr hops)))) (I2 fr.length fr.length (W4 i i (P5 l fB fr hops)),I2 fr.length fr.length (W4 i i (N6 l fB fD fr hops))) i (fun k hk=>.inl ?_) ?_ i 0 F (by omega) (by omega)
 ·exact this
 ·have hkl:k<fr.length:=by omega
  have h1:(k:Int)<(i:Int):=by omega
  have hih:B0 hops (i:Int)=true:=R0 (by omega) (by rw [g.len];omega);have hkh:B0 hops (k:Int)=true:=R0 (by omega) (by rw [g.len];omega);have xi:=e08 g.hop (i:=i) (by rw [g.len];exact hi);have xk:=e08 g.hop (i:=k) (by rw [g.len];exact hkl);have hto:=p0X g.asc (i:=i) (k:=k) (by rw [g.len];exact hi) (by rw [g.len];exact hkl) (by omega);have hne:¬ i=k:=by omega
  have hne':¬ k=i:=by omega
  have hdn:=ok.dn i k hi hkl;have hd1:=ok.d1 i k hi hkl hne;have hWd:W (0-N6 l fB fD fr hops i k)=N6 l fB fD fr hops k i:=by rw [hdn];exact D03 hd1
  have key:∀ p q r:Int,p=P5 l fB fr hops i k->q=P5 l fB fr hops k i->r=N6 l fB fD fr hops i k->
    (Option.bind (some (I2 fr.length fr.length (fun a=>if a=k then (fun j=>if j=i then q else (if k=i then (fun j=>if j=k then p else W4 i k (P5 l fB fr hops) i j) else W4 i k (P5 l fB fr hops) k) j) else (if a=i then (fun j=>if j=k then p else W4 i k (P5 l fB fr hops) i j) else W4 i k (P5 l fB fr hops) a)),
     I2 fr.length fr.length (fun a=>if a=i then (fun j=>if j=k then r else W4 i k (N6 l fB fD fr hops) i j) else W4 i k (N6 l fB fD fr hops) a))) fun (y5,y6)=>
    (if B0 y6 (k:Int) then
     if B0 y6 (i:Int) then
      if B0 (gt y6 (i:Int)) (k:Int) then
       if B0 (gt y6 (k:Int)) (i:Int) then
        let t5:=y6.set (k:Int).toNat ((gt y6 (k:Int)).set (i:Int).toNat (W (0-(gt (gt y6 (i:Int)) (k:Int)))))
        some (.next (W ((k:Int)+1),y5,t5))
       else none
      else none
     else none
    else none:Option (V0 (Int×(List (List Int))×(List (List Int))) ((List (List Int))×(List (List Int))))))=some (.next (((k+1:Nat):Int),I2 fr.length fr.length (W4 i (k+1) (P5 l fB fr hops)),I2 fr.length fr.length (W4 i (k+1) (N6 l fB fD fr hops)))):=by
   rintro p q r rfl rfl rfl
   simp only [G0,U9 _ hi,U9 _ hkl,a0g _ hi,a0g _ hkl,a0P _ hi,a0P _ hkl,if_true,d0w _ hi,d0w _ hkl,Int.toNat_natCast,m02,l0b,z0J hk,hWd,G3 (i:=k) (by omega)]
  unfold h0Z;simp only [h1,decide_true,if_true,a0h hi,a0h hkl,a0G hi,a0G hkl,F0C,decide_eq_true_eq,U9 _ hi,U9 _ hkl,hih,hkh,y0s hw hR hn (show 1000<F by omega) hL xi xk hto,a0g _ hi,a0g _ hkl,a0P _ hi,a0P _ hkl,j02 g.len g.lt hi hkl,j02 g.len g.lt hkl hi,p0R g.len g.lt hi hkl,Int.toNat_natCast,m02,l0b]
  by_cases he:fr.getD i 0=fr.getD k 0
  ·rw [if_pos he];refine key _ _ _ ?_ ?_ ?_
   ·unfold P5;rw [if_neg hne,if_pos he]
   ·unfold P5;rw [if_neg hne',if_pos he.symm,j0v l _ _ hto]
   ·unfold N6;rw [if_neg hne,if_pos he]
  ·rw [if_neg he];refine key _ _ _ ?_ ?_ ?_
   ·unfold P5;rw [if_neg hne,if_neg he]
   ·unfold P5;rw [if_neg hne',if_neg (fun e=>he e.symm)]
   ·unfold N6;rw [if_neg hne,if_neg he]
 ·unfold h0Z;have h1:¬ ((i:Int)<(i:Int)):=by omega
  simp only [h1,decide_false,if_false,false_eq_true]
theorem v0I (hw:∀ x∈l,o3 x) (hR:K1 l=true) (hn:n=L0 l l.length) (hf:2000<F) (hL:K7 F l=some (L2 l l.length)) (hm:m<=1000) (h:a0s m fB fD) (g:k0X l n m fr hops) :
  g0U F l (D3 m fB fD) (J2 fr) hops=some (D3 fr.length (P5 l fB fr hops) (N6 l fB fD fr hops)):=by
 have hle:=g.le;unfold g0U;rw [i0o hm hf h];have hlen:(((J2 fr).length:Int) != (hops.length:Int))=false:=by rw [i0f,g.len];simp
 have t1:=R4 (step:=g0Z F (D3 m fB fD) (J2 fr)) (fun i=>(i:Int)) (.inr ()) fr.length (fun i hi=>.inl ?_) ?_ fr.length 0 F (by omega) (by omega)
 ·have e1:iter (g0Z F (D3 m fB fD) (J2 fr)) F 0=_:=t1;have t2:=R4 (step:=g0x F l (D3 m fB fD) (J2 fr) hops) (fun i=>((i:Int),I2 fr.length fr.length (W4 i 0 (P5 l fB fr hops)),I2 fr.length fr.length (W4 i 0 (N6 l fB fD fr hops)))) (I2 fr.length fr.length (P5 l fB fr hops),I2 fr.length fr.length (N6 l fB fD fr hops)) fr.length (fun i hi=>.inl ?_) ?_ fr.length 0 F (by omega) (by omega)
  ·have z:∀ f,I2 fr.length fr.length (W4 0 0 f)=I2 fr.length fr.length fun _ _=>0:=fun f=>d0e fun a b _ _=>by unfold W4;rw [if_neg (by omega)]
   rw [z,z] at t2;have e2:iter (g0x F l (D3 m fB fD) (J2 fr) hops) F (0,I2 fr.length fr.length (fun _ _=>0),I2 fr.length fr.length fun _ _=>0)=_:=t2;simp only [G0,Bool.not_true,false_eq_true,if_false,hlen,e1,show decide ((-1:Int)>=0)=false from rfl];rw [i0f,p02 (by omega) hf];simp only [G0,e2];rfl
  ·unfold g0x;have h1:(i:Int)<((J2 fr).length:Int):=by simp;omega
   simp only [h1,decide_true,if_true,C0h hw hR hn hf hL h g hi,G0,G3 (i:=i) (by omega)]
  ·unfold g0x;have h1:¬ ((fr.length:Int)<((J2 fr).length:Int)):=by simp
   have z:∀ f,I2 fr.length fr.length (W4 fr.length 0 f)=I2 fr.length fr.length f:=fun f=>d0e fun a b _ _=>by unfold W4;rw [if_pos (by omega)]
   simp only [h1,decide_false,if_false,false_eq_true,z]
 ·unfold g0Z e0p;have h1:(i:Int)<((J2 fr).length:Int):=by simp;omega
  have hx:=E8 g.lt hi;have h2:((fr.getD i 0:Nat):Int)>=0:=by omega
  have h3:((fr.getD i 0:Nat):Int)<((D3 m fB fD).B.length:Int):=by simp only [D3,q0M];omega
  simp only [h1,decide_true,if_true,a0h hi,a0G hi,h2,h3,G0,Bool.not_true,false_eq_true,if_false,G3 (i:=i) (by omega)]
 ·unfold g0Z;have h1:¬ ((fr.length:Int)<((J2 fr).length:Int)):=by simp
  simp only [h1,decide_false,if_false,false_eq_true]
end
theorem wrap_u64 {n:Nat} (h:n<18446744073709551616):IntKind.wrap .u64 (n:Int)=n:=by
 simp [IntKind.wrap,IntKind.bits,IntKind.signed];omega
theorem r0E (x y:BitVec 64):C3 .u64 (x.toNat:Int) (y.toNat:Int)=((x&&& y).toNat:Int):=by
 unfold C3;simp only [IntKind.bits,BitVec.ofInt_natCast,BitVec.ofNat_toNat,BitVec.setWidth_eq];exact wrap_u64 (x&&& y).isLt
theorem D0p {k:Nat} (h:k<64):shl .u64 1 (k:Int)=((BitVec.twoPow 64 k).toNat:Int):=by
 have h1:min k 64=k:=by omega
 have h2:2 ^ k<18446744073709551616:=Nat.pow_lt_pow_right (a:=2) (by omega) (show k<64 from h);unfold shl;rw [show (IntKind.u64).bits=64 from rfl,Int.toNat_natCast,h1,Int.one_mul,BitVec.toNat_twoPow,Nat.mod_eq_of_lt h2];rw [show ((2:Int) ^ k)=((2 ^ k:Nat):Int) by simp];exact wrap_u64 h2
theorem v0C (x:BitVec 64) {k:Nat} (h:k<64):shr .u64 (x.toNat:Int) (k:Int)=((x >>> k).toNat:Int):=by
 have h1:min k 64=k:=by omega
 unfold shr;rw [show (IntKind.u64).bits=64 from rfl,Int.toNat_natCast,h1,BitVec.toNat_ushiftRight,Nat.shiftRight_eq_div_pow,show ((2:Int) ^ k)=((2 ^ k:Nat):Int) by simp,Int.fdiv_eq_ediv_of_nonneg _ (Int.natCast_nonneg _),Int.natCast_ediv]
theorem w0z {v:Int} (h0:0<=v) (h1:v<18446744073709551616) {k:Nat} (hk:k<64):(C3 .u64 v (shl .u64 1 (k:Int)) != 0)=(C3 .u64 (shr .u64 v (k:Int)) 1==1):=by
 obtain ⟨x,rfl⟩:∃ x:BitVec 64,v=(x.toNat:Int):=⟨BitVec.ofNat 64 v.toNat,by rw [BitVec.toNat_ofNat,Nat.mod_eq_of_lt (by omega)];omega⟩
 rw [D0p hk,v0C x hk,r0E,show (1:Int)=((BitVec.twoPow 64 0).toNat:Int) from rfl,r0E,BitVec.and_twoPow,BitVec.and_twoPow];have hb:(x >>> k).getLsbD 0=x.getLsbD k:=by simp
 rw [hb];have hp:(BitVec.twoPow 64 k).toNat≠0:=by
  rw [BitVec.toNat_twoPow,Nat.mod_eq_of_lt (Nat.pow_lt_pow_right (a:=2) (by omega) (show k<64 from hk))];exact Nat.ne_of_gt (Nat.two_pow_pos k)
 cases x.getLsbD k with
 |false=>simp
 |
  true=>
  have:((BitVec.twoPow 64 k).toNat:Int)≠0:=by omega
  simp only [if_true,bne_iff_ne,ne_eq,this,not_false_eq_true,beq_self_eq_true,bne,beq_eq_false_iff_ne.2 this,Bool.not_false]
def hasB (s:List Int) (b:Int):Bool:=C3 .u64 (gt s (Int.tdiv b 64)) (shl .u64 1 (Int.tmod b 64)) != 0
theorem p0t (fuel:Nat) {s:List Int} (hs:s.length=4/\∀ y∈s,Z5 .u64 y) {b:Int} (hb:Z5 .u8 b):i0b fuel s b=some (hasB s b)/\j07 fuel s (W b)=some (hasB s b):=by
 have hb':0<=b/\b<256:=⟨hb.1,by have:=hb.2;rw [show IntKind.u8.max=255 from rfl] at this;omega⟩
 obtain ⟨n,rfl⟩:∃ n:Nat,b=n:=⟨b.toNat,by omega⟩
 have hn:n<256:=by omega
 have hd:Int.tdiv (n:Int) 64=((n / 64:Nat):Int):=by rw [Int.tdiv_eq_ediv_of_nonneg (by omega)];simp
 have hm:Int.tmod (n:Int) 64=((n % 64:Nat):Int):=by rw [Int.tmod_eq_emod_of_nonneg (by omega)];simp
 have hw8:IntKind.wrap .u8 ((n / 64:Nat):Int)=((n / 64:Nat):Int):=by simp [IntKind.wrap,IntKind.bits,IntKind.signed];omega
 have hWn:W (n:Int)=n:=t0C (by omega);have hWd:W ((n / 64:Nat):Int)=((n / 64:Nat):Int):=t0C (by omega);have hin:s0w 4 ((n / 64:Nat):Int)=true:=by simp [s0w];omega
 have hmem:=hs.2 _ (mem_of_getElem? (u6 (l:=s) (i:=n / 64) (by omega)));have hv:0<=gt s ((n / 64:Nat):Int)/\gt s ((n / 64:Nat):Int)<18446744073709551616:=⟨hmem.1,by have:=hmem.2;rw [show IntKind.u64.max=18446744073709551615 from rfl] at this;omega⟩
 have h0:(0:Int)<=((n % 64:Nat):Int):=by omega
 unfold i0b j07 hasB;have q1:(0:Int)<=((n / 64:Nat):Int):=by omega
 have q2:((n / 64:Nat):Int)<4:=by omega
 have q3:¬ ((n % 64:Nat):Int)<0:=by omega
 have q4:(n:Int)>=0:=by omega
 have q5:(n:Int)<256:=by omega
 simp only [hWn,hd,hm,hw8,hWd,q1,q2,q3,q4,q5,decide_true,decide_false,Bool.not_false,Bool.and_self,if_true,G0,w0z hv.1 hv.2 (show n % 64<64 by omega),and_self]
def J5 (ws:List y0) (r:Nat):Option y0:=ws.find? fun h=>h.To==(r:Int)
def l7 (ws:List y0) (r:Nat):y0:=(J5 ws r).getD ⟨0,0,[]⟩
def N1 (Ws:List (List y0)) (r k:Nat):List Nat:=(List.range k).filter fun i=>(J5 (Ws.getD i []) r).isSome
def n5 (Ws:List (List y0)) (r k:Nat):List y0:=(N1 Ws r k).map fun i=>l7 (Ws.getD i []) r
theorem t00 (Ws:List (List y0)) (r k:Nat):N1 Ws r (k+1)=N1 Ws r k++if (J5 (Ws.getD k []) r).isSome then [k] else []:=by
 unfold N1;rw [List.range_succ,List.filter_append];congr 1;cases h:(J5 (Ws.getD k []) r).isSome
 ·simp only [List.filter_cons,h,false_eq_true,if_false,List.filter_nil]
 ·simp only [List.filter_cons,h,if_true,List.filter_nil]
theorem E0o (Ws:List (List y0)) (r k:Nat):n5 Ws r (k+1)=n5 Ws r k++if (J5 (Ws.getD k []) r).isSome then [l7 (Ws.getD k []) r] else []:=by
 unfold n5;rw [t00,map_append];congr 1;split<;>rfl
theorem l0Y {Ws:List (List y0)} {r k i:Nat} (h:i∈N1 Ws r k):i<k:=mem_range.1 (mem_filter.1 h).1
theorem n0s (Ws:List (List y0)) (r k:Nat):(N1 Ws r k).length<=k:=Nat.le_trans (List.length_filter_le _ _) (by simp)
theorem n0a (Ws:List (List y0)) (r k:Nat):(n5 Ws r k).length=(N1 Ws r k).length:=by simp [n5]
theorem j0a {ws:List y0} {r:Nat} (h:(J5 ws r).isSome=true):l7 ws r∈ws/\(l7 ws r).To=r:=by
 unfold l7;cases e:J5 ws r with
 |none=>rw [e] at h;simp at h
 |
  some x=>
  have:=List.find?_some e;exact ⟨List.mem_of_find?_eq_some e,by simpa using this⟩
def a0K (fB fD:Nat->Nat->Int) (Ws:List (List y0)) (r:Nat):Nat:=(f0y fB fD (N1 Ws r Ws.length) (n5 Ws r Ws.length)).toNat
def d0W (fB fD:Nat->Nat->Int) (Ws:List (List y0)) (r:Nat):Nat:=(N1 Ws r Ws.length).getD (a0K fB fD Ws r) 0
def g01 (fB fD:Nat->Nat->Int) (Ws:List (List y0)) (r:Nat):y0:=l7 (Ws.getD (d0W fB fD Ws r) []) r
def X5 (hs:Nat->Bool) (Ws:List (List y0)) (k:Nat):List Nat:=(List.range k).filter fun r=>hs r&&!(N1 Ws r Ws.length).isEmpty
theorem B0k (hs:Nat->Bool) (Ws:List (List y0)) (k:Nat):X5 hs Ws (k+1)=X5 hs Ws k++if hs k&&!(N1 Ws k Ws.length).isEmpty then [k] else []:=by
 unfold X5;rw [List.range_succ,List.filter_append];congr 1;cases h:(hs k&&!(N1 Ws k Ws.length).isEmpty)<;>simp [h]
theorem w0c {hs:Nat->Bool} {Ws:List (List y0)} {k i:Nat} (h:i∈X5 hs Ws k):i<k:=mem_range.1 (mem_filter.1 h).1
theorem t0k (hs:Nat->Bool) (Ws:List (List y0)) (k:Nat):(X5 hs Ws k).length<=k:=Nat.le_trans (List.length_filter_le _ _) (by simp)
theorem n0W (hs:Nat->Bool) (Ws:List (List y0)) (k:Nat):(X5 hs Ws k).Pairwise fun a b=>a<b:=List.Pairwise.filter _ List.pairwise_lt_range
theorem u0u {hs:Nat->Bool} {Ws:List (List y0)} {k r:Nat} (h:r∈X5 hs Ws k):hs r=true/\N1 Ws r Ws.length≠[]:=by
 have:=(mem_filter.1 h).2;simpa using this
theorem s0Z {fB fD:Nat->Nat->Int} {fr:List Nat} {hops:List y0}:∀ k,0<k->∃ j:Nat,c0a fB fD fr hops k=j/\j<k:=by
 intro k
 induction k with
 |zero=>intro h;omega
 |
  succ k ih=>
  intro _;rw [i0n];unfold e0A;split
  ·exact ⟨k,rfl,by omega⟩
  ·split
   ·exact ⟨k,rfl,by omega⟩
   ·rcases l0Q fB fD fr hops k with h | ⟨j,h,hj⟩
    ·rename_i hneg _;rw [h] at hneg;exact absurd (show (-1:Int)<0 by omega) hneg
    ·exact ⟨j,h,by omega⟩
theorem y0X {fB fD:Nat->Nat->Int} {fr:List Nat} {hops:List y0} (h:fr≠[]):∃ j:Nat,f0y fB fD fr hops=j/\j<fr.length:=s0Z _ (List.length_pos_iff.2 h)
theorem s0j {fB fD:Nat->Nat->Int} {hops:List y0}:f0y fB fD [] hops=-1:=rfl
section
variable {fB fD:Nat->Nat->Int} {Ws:List (List y0)} {r:Nat}
theorem i09 (h:N1 Ws r Ws.length≠[]):f0y fB fD (N1 Ws r Ws.length) (n5 Ws r Ws.length)=(a0K fB fD Ws r:Int)/\a0K fB fD Ws r<(N1 Ws r Ws.length).length:=by
 obtain ⟨j,h1,h2⟩:=y0X (fB:=fB) (fD:=fD) (hops:=n5 Ws r Ws.length) h;unfold a0K;rw [h1];exact ⟨rfl,h2⟩
theorem m0s (h:N1 Ws r Ws.length≠[]):d0W fB fD Ws r∈N1 Ws r Ws.length:=by
 have:=(i09 (fB:=fB) (fD:=fD) h).2;unfold d0W;rw [show (N1 Ws r Ws.length).getD (a0K fB fD Ws r) 0=(N1 Ws r Ws.length)[a0K fB fD Ws r] from by simp [List.getD,this]];exact List.getElem_mem this
theorem g0V (h:N1 Ws r Ws.length≠[]):d0W fB fD Ws r<Ws.length:=l0Y (m0s h)
theorem A0B (h:N1 Ws r Ws.length≠[]):gt (n5 Ws r Ws.length) (a0K fB fD Ws r:Int)=g01 fB fD Ws r:=by
 have:=(i09 (fB:=fB) (fD:=fD) h).2;refine B4 ?_;unfold g01 d0W n5;simp [List.getD,this]
theorem j08 (h:N1 Ws r Ws.length≠[]):g01 fB fD Ws r∈Ws.getD (d0W fB fD Ws r) []/\(g01 fB fD Ws r).To=r:=j0a (mem_filter.1 (m0s h)).2
end
def Q7 (hs:Nat->Bool) (Ws:List (List y0)):Nat->Nat
 |0=>0
 |r+1=>Q7 hs Ws r+if hs r then (N1 Ws r Ws.length).length else 0
theorem n0M (hs:Nat->Bool) (Ws:List (List y0)):∀ k,Q7 hs Ws k<=k*Ws.length
 |0=>by simp [Q7]
 |
  k+1=>by
  have h1:=n0M hs Ws k;have h2:=n0s Ws k Ws.length;simp only [Q7,Nat.succ_mul];split<;>omega
end Go.Proofs.YtdficaoajalfaaaGreat
namespace Go.Proofs.YtdficaoajalfaaaGreat
open Go.V Go.RowKit Old Go.X
section
variable {F:Nat} {l:List C0} {n:Nat}
def A6 (l:List C0) (hs:Nat->Bool) (Ws:List (List y0)) (i j r:Nat):E7:=
 if hs r then ⟨J2 (N1 Ws r i++if (J5 ((Ws.getD i []).take j) r).isSome then [i] else []),(n5 Ws r i++if (J5 ((Ws.getD i []).take j) r).isSome then [l7 ((Ws.getD i []).take j) r] else []).map (Q2 l),n5 Ws r i++if (J5 ((Ws.getD i []).take j) r).isSome then [l7 ((Ws.getD i []).take j) r] else []⟩ else ⟨[],[],[]⟩
theorem D0K {ws:List y0} {j r:Nat} (hj:j<ws.length) (h:(gt ws (j:Int)).To≠(r:Int)):J5 (ws.take (j+1)) r=J5 (ws.take j) r:=by
 unfold J5;rw [List.take_succ,u6 hj,List.find?_append];simp [List.find?_cons,h]
theorem E0C {n:Nat} {ws:List y0} (hw:j8 n ws) {j r:Nat} (hj:j<ws.length) (h:(gt ws (j:Int)).To=(r:Int)):J5 (ws.take (j+1)) r=some (gt ws (j:Int))/\J5 (ws.take j) r=none:=by
 have hnone:J5 (ws.take j) r=none:=by
  unfold J5;rw [List.find?_eq_none];intro x hx;obtain ⟨i,hi,he⟩:=List.mem_iff_getElem.1 hx;simp only [List.length_take] at hi;have hd:=List.pairwise_iff_getElem.1 hw.dist i j (by omega) hj (by omega);rw [List.getElem_take] at he;rw [<-he];have e2:gt ws (j:Int)=ws[j]:=B4 (by simp [hj]);rw [e2] at h;simp only [beq_iff_eq];omega
 refine ⟨?_,hnone⟩;unfold J5 at hnone ⊢;rw [List.take_succ,u6 hj,List.find?_append,hnone];simp [h]
theorem l0t {β:Type} {n:Nat} {f g:Nat->β} (h:∀ r,r<n->f r=g r):(List.range n).map f=(List.range n).map g:=List.map_congr_left fun r hr=>h r (mem_range.1 hr)
theorem p0g (l:List C0) (hs:Nat->Bool) (Ws:List (List y0)) (i r:Nat):A6 l hs Ws i 0 r=if hs r then ⟨J2 (N1 Ws r i),(n5 Ws r i).map (Q2 l),n5 Ws r i⟩ else ⟨[],[],[]⟩:=by
 unfold A6;have:J5 ((Ws.getD i []).take 0) r=none:=rfl;simp only [this,Option.isSome_none,false_eq_true,if_false,List.append_nil]
theorem B0J (l:List C0) (hs:Nat->Bool) (Ws:List (List y0)) (i r:Nat):A6 l hs Ws i (Ws.getD i []).length r=A6 l hs Ws (i+1) 0 r:=by
 rw [p0g];unfold A6;rw [List.take_length,t00,E0o]
theorem setOf (l:List C0) {n:Nat} (hn:n=L0 l l.length) (hw:∀ x∈l,o3 x) {r:Nat} (hr:r<n):B0 ((L2 l l.length).map fun q=>(gt l q).Set) (r:Int)=true/\gtZ 4 ((L2 l l.length).map fun q=>(gt l q).Set) (r:Int)=(gt l (gt (L2 l l.length) (r:Int))).Set/\
  ((gt l (gt (L2 l l.length) (r:Int))).Set.length=4/\∀ y∈(gt l (gt (L2 l l.length) (r:Int))).Set,Z5 .u64 y):=by
 obtain ⟨q,h2,h3,h4⟩:=n0J l hn (x:=(r:Int)) (by omega) (by omega);have hlen:=I9 l l.length;refine ⟨R0 (by omega) (by simp;omega),?_,?_⟩
 ·unfold gtZ;have:(L2 l l.length)[r]?=some (gt (L2 l l.length) (r:Int)):=u6 (by omega);exact @B4 _ ⟨List.replicate 4 0⟩ _ _ _ (by rw [List.getElem?_map,this];rfl)
 ·rw [h3];have:=hw _ (mem_of_getElem? (u6 (l:=l) (i:=q) h2));exact this.2.2.2.2
def Z2 (l:List C0) (b_:Int) (r:Nat):Bool:=hasB (gt l (gt (L2 l l.length) (r:Int))).Set b_
theorem z0G {a:List y0} {b:Nat->List y0} {e:Nat->y0×Bool} {z:y0×Bool} (hw:∀ x∈l,o3 x) (hn:n=L0 l l.length) (hn64:n<=400) (hf:2000001<F) {c:N3} (hc:c.chart=Y6 l n a b e z) {g:W8} {b_:Int} (hb:Z5 .u8 b_)
  {Ws:List (List y0)} (hW:∀ i,i<Ws.length->j8 n (Ws.getD i [])/\(Ws.getD i []).length<=500000) (hM:Ws.length<=1000) (hg:g.roads=Ws.map fun w=>w.map (Q2 l)) {i:Nat} (hi:i<Ws.length) :
  iter (h0K F c g b_ (i:Int)) F (0,(List.range n).map (A6 l (Z2 l b_) Ws i 0))=some ((List.range n).map (A6 l (Z2 l b_) Ws (i+1) 0)):=by
 obtain ⟨hWi,hlen⟩:=hW i hi;have hgi:gt g.roads (i:Int)=(Ws.getD i []).map (Q2 l):=by
  rw [hg];refine B4 ?_;rw [List.getElem?_map,show Ws.getD i []=Ws[i] from by simp [List.getD,hi],List.getElem?_eq_getElem hi];rfl
 generalize hws:Ws.getD i []=ws at *;have:=R4 (step:=h0K F c g b_ (i:Int)) (fun j=>((j:Int),(List.range n).map (A6 l (Z2 l b_) Ws i j))) ((List.range n).map (A6 l (Z2 l b_) Ws (i+1) 0)) ws.length (fun j hj=>.inl ?_) ?_ ws.length 0 F (by omega) (by omega)
 ·exact this
 ·have hk:=hWi.ok _ (mem_of_getElem? (u6 hj));obtain ⟨r,hr⟩:∃ r:Nat,(gt ws (j:Int)).To=r:=⟨(gt ws (j:Int)).To.toNat,by have:=hk.1;omega⟩
  have hrn:r<n:=by have:=hk.2.1;omega
  obtain ⟨s1,s2,s3⟩:=setOf l hn hw hrn;obtain ⟨t1,t2⟩:=E0C hWi hj hr;have hne:∀ q,q≠r->A6 l (Z2 l b_) Ws i (j+1) q=A6 l (Z2 l b_) Ws i j q:=fun q hq=>by
   have e:=D0K (ws:=ws) (j:=j) (r:=q) hj (by rw [hr];omega);unfold A6 l7;rw [hws,e]
  have hj1:(j:Int)<((ws.map (Q2 l)).length:Int):=by simp;omega
  have hgj:gt (ws.map (Q2 l)) (j:Int)=Q2 l (gt ws (j:Int)):=B4 (by rw [List.getElem?_map,u6 hj];rfl);have hin:B0 (ws.map (Q2 l)) (j:Int)=true:=R0 (by omega) hj1;have hhop:(Q2 l (gt ws (j:Int))).Hop.To=(r:Int):=hr;unfold h0K;simp only [hgi,hj1,decide_true,if_true,hin,hgj,hhop,hc,Y6,s1,s2,(p0t F s3 hb).1,G0,G3 (i:=j) (by omega)];have hH:hasB (gt l (gt (L2 l l.length) (r:Int))).Set b_=Z2 l b_ r:=rfl;rw [hH];cases hP:Z2 l b_ r with
  |
   false=>
   simp only [false_eq_true,if_false,G0];congr 1;congr 1;congr 1;refine l0t fun q _=>?_
   by_cases hq:q=r
   ·subst hq;unfold A6;rw [hP];rfl
   ·exact (hne q hq).symm
  |
   true=>
   have hl1:=n0s Ws r i;have hl2:=n0a Ws r i;have hcom:A6 l (Z2 l b_) Ws i j r=⟨J2 (N1 Ws r i),(n5 Ws r i).map (Q2 l),n5 Ws r i⟩:=by
    unfold A6;rw [hP,hws,t2];simp
   have ap1:I0 8 (J2 (N1 Ws r i)) [(i:Int)]=true:=by simp [I0];omega
   have ap2:I0 64 ((n5 Ws r i).map (Q2 l)) [Q2 l (gt ws (j:Int))]=true:=by simp [I0];omega
   have ap3:I0 40 (n5 Ws r i) [(Q2 l (gt ws (j:Int))).Hop]=true:=by simp [I0];omega
   simp only [if_true,g0n hrn,g0l hrn,hcom,ap1,decide_true,v0W,Int.toNat_natCast,ap2,ap3,G0];congr 1;congr 1;congr 1;refine l0t fun q _=>?_
   by_cases hq:q=r
   ·subst hq;simp only [if_true];unfold A6;rw [hP,hws,t1,l7,t1];simp [o0h,Q2]
   ·simp only [hq,if_false];exact (hne q hq).symm
 ·unfold h0K;have h1:¬ ((ws.length:Int)<((ws.map (Q2 l)).length:Int)):=by simp
  simp only [hgi,h1,decide_false,if_false,false_eq_true];congr 1;congr 1;refine l0t fun q _=>?_;rw [<-hws,B0J]
theorem D0M {a:List y0} {b:Nat->List y0} {e:Nat->y0×Bool} {z:y0×Bool} (hw:∀ x∈l,o3 x) (hn:n=L0 l l.length) (hn64:n<=400) (hf:2000001<F) {c:N3} (hc:c.chart=Y6 l n a b e z) {g:W8} {b_:Int} (hb:Z5 .u8 b_)
  {Ws:List (List y0)} (hW:∀ i,i<Ws.length->j8 n (Ws.getD i [])/\(Ws.getD i []).length<=500000) (hM:Ws.length<=1000) (hg:g.roads=Ws.map fun w=>w.map (Q2 l)) :
  g0D F c g b_=some ((List.range n).map (A6 l (Z2 l b_) Ws Ws.length 0),c):=by
 have hsets:(c.chart.sets.length:Int)=(n:Int):=by rw [hc];simp only [Y6,List.length_map,I9];omega
 have hmk:V2 72 (n:Int)=true:=by simp [V2];omega
 have hrep:List.replicate n (⟨[],[],[]⟩:E7)=(List.range n).map (A6 l (Z2 l b_) Ws 0 0):=by
  refine List.ext_getElem (by simp) fun r h1 h2=>?_;simp only [List.getElem_replicate,List.getElem_map,List.getElem_range,p0g];split
  ·rfl
  ·rfl
 unfold g0D;rw [hsets,hmk];simp only [if_true,Int.toNat_natCast];have:=R4 (step:=h0b F c g b_) (fun i=>((i:Int),(List.range n).map (A6 l (Z2 l b_) Ws i 0))) ((List.range n).map (A6 l (Z2 l b_) Ws Ws.length 0)) Ws.length (fun i hi=>.inl ?_) ?_ Ws.length 0 F (by omega) (by omega)
 ·have h2:iter (h0b F c g b_) F (0,(List.range n).map (A6 l (Z2 l b_) Ws 0 0))=_:=this;rw [hrep,h2];rfl
 ·unfold h0b;have h1:(i:Int)<(g.roads.length:Int):=by rw [hg];simp;omega
  simp only [h1,decide_true,if_true,R0 (l:=g.roads) (i:=(i:Int)) (by omega) h1,z0G hw hn hn64 hf hc hb hW hM hg hi,G0,G3 (i:=i) (by omega)]
 ·unfold h0b;have h1:¬ ((Ws.length:Int)<(g.roads.length:Int)):=by rw [hg];simp
  simp only [h1,decide_false,if_false,false_eq_true]
end
def F0 (a:List y0) (b:Nat->List y0) (pl:List Nat) (beg:Bool):List (List y0):=pl.map b++if beg then [a] else []
def E9 (l:List C0) (at_:Int) (vals:List (List Int)) (beg:Bool):List (List Int):=vals++if beg then [O7 l at_] else []
def A5 (pl:List Nat) (beg:Bool):Nat:=if beg then pl.length+1 else pl.length
def Y2 (pl:List Nat) (beg:Bool) (fB:Nat->Nat->Int):Nat->Nat->Int:=if beg then c06 pl.length fB else fB
def j4 (pl:List Nat) (beg:Bool) (fD:Nat->Nat->Int):Nat->Nat->Int:=if beg then c0E pl.length fD else fD
theorem b0b (a:List y0) (b:Nat->List y0) (pl:List Nat) (beg:Bool):(F0 a b pl beg).length=A5 pl beg:=by unfold F0 A5;cases beg<;>simp
section
variable {F:Nat} {l:List C0} {n:Nat} {a:List y0} {b:Nat->List y0} {e:Nat->y0×Bool} {z:y0×Bool} {at_ work:Int} {pl:List Nat} {vals:List (List Int)} {fB fD:Nat->Nat->Int}
theorem r0P (C:F6 l n pl vals fB fD) (beg:Bool):(E9 l at_ vals beg).length=A5 pl beg:=by unfold E9 A5;cases beg<;>simp [C.len]
theorem g03 (C:F6 l n pl vals fB fD) (beg:Bool):a0s (A5 pl beg) (Y2 pl beg fB) (j4 pl beg fD):=by
 unfold A5 Y2 j4;cases beg with
 |false=>exact C.rk
 |true=>exact A0t C.rk
theorem u0H (C:F6 l n pl vals fB fD) (beg:Bool):∀ v∈E9 l at_ vals beg,v.length=(l5 l).toNat:=by
 intro v hv;unfold E9 at hv;rcases List.mem_append.1 hv with h | h
 ·exact C.row v h
 ·cases beg with
  |false=>simp at h
  |true=>simp at h;subst h;exact k0w l at_
theorem g0i (K:H5 l n a b e z F) (C:F6 l n pl vals fB fD) (beg:Bool):∀ i,i<(F0 a b pl beg).length->j8 n ((F0 a b pl beg).getD i [])/\((F0 a b pl beg).getD i []).length<=500000/\(∀ h∈(F0 a b pl beg).getD i [],a0L n h)/\N8 800 ((F0 a b pl beg).getD i []):=by
 intro i hi;have hm:(F0 a b pl beg).getD i []∈F0 a b pl beg:=by
  rw [show (F0 a b pl beg).getD i []=(F0 a b pl beg)[i] from by simp [List.getD,hi]];exact List.getElem_mem hi
 have hop:∀ {ws:List y0},j8 n ws->a0m ws->∀ h∈ws,a0L n h:=fun hw ht h hh=>⟨(hw.ok h hh).1,(hw.ok h hh).2.1,(ht h hh).1,(ht h hh).2⟩
 generalize (F0 a b pl beg).getD i []=ws at *;unfold F0 at hm;rcases List.mem_append.1 hm with h | h
 ·obtain ⟨p,hp,rfl⟩:=mem_map.1 h;have:=C.pln p hp;exact ⟨K.T.bw p this,K.T.bl p this,hop (K.T.bw p this) (K.T.bT p this),K.T.bb p this⟩
 ·cases beg with
  |false=>simp at h
  |true=>simp at h;subst h;exact ⟨K.T.aw,K.T.al,hop K.T.aw K.T.aT,K.T.ab⟩
theorem y0e (K:H5 l n a b e z F) (C:F6 l n pl vals fB fD) (beg:Bool):f0s F (B7 l n a b e z at_ work pl vals fB fD) beg =
  some (⟨E9 l at_ vals beg,(F0 a b pl beg).map (fun w=>w.map (Q2 l)),D3 (A5 pl beg) (Y2 pl beg fB) (j4 pl beg fD)⟩,B7 l n a b e z at_ work pl vals fB fD):=by
 have f1:=K.f1;have hm:=C.le;have hn:=K.T.n64;have hvl:=C.len;unfold f0s h0D;have hap:I0 24 ([]:List (List Int)) vals=true:=by simp [I0];omega
 rw [c0y];simp only [B7,hap,if_true,G0];have:=R4 (step:=f0x F (B7 l n a b e z at_ work pl vals fB fD)) (fun i=>((i:Int),(vals,(pl.take i).map (fun p=>(b p).map (Q2 l)),D3 pl.length fB fD))) (vals,pl.map (fun p=>(b p).map (Q2 l)),D3 pl.length fB fD) pl.length (fun i hi=>.inl ?_) ?_ pl.length 0 F (by omega) (by omega)
 ·have h2:iter (f0x F ⟨Y6 l n a b e z,at_,work,J2 pl,vals,D3 pl.length fB fD⟩) F (0,(vals,[],D3 pl.length fB fD))=_:=this;rw [h2];simp only [G0];unfold E9 F0 A5 Y2 j4;cases beg with
  |false=>simp
  |
   true=>
   have ap1:I0 24 vals [O7 l at_]=true:=by simp [I0];omega
   have ap2:I0 24 (pl.map fun p=>(b p).map (Q2 l)) [a.map (Q2 l)]=true:=by simp [I0];omega
   have hb:=q0J K ⟨Y6 l n a b e z,at_,work,J2 pl,vals,D3 pl.length fB fD⟩ rfl;have hcb:(Y6 l n a b e z).begin=a.map (Q2 l):=rfl;simp only [if_true,hb,G0,ap1,hcb,ap2,x0d (show pl.length<=900 by omega) (show 2000<F by omega) C.rk,map_append,List.map_map,map_cons,map_nil,Function.comp_def]
 ·unfold f0x;have h1:(i:Int)<((J2 pl).length:Int):=by simp;omega
  have hp:=E8 C.pln hi;have hap:I0 24 ((pl.take i).map (fun p=>(b p).map (Q2 l))) [(b (pl.getD i 0)).map (Q2 l)]=true:=by simp [I0];omega
  have ht:pl.take (i+1)=pl.take i++[pl.getD i 0]:=by rw [p0m hi];simp [List.getD,hi]
  simp only [B7,h1,decide_true,if_true,a0h hi,a0G hi,Y6,g0n hp,g0l hp,hap,ht,map_append,map_cons,map_nil,G3 (i:=i) (by omega)]
 ·unfold f0x;have h1:¬ ((pl.length:Int)<((J2 pl).length:Int)):=by simp
  simp only [B7,h1,decide_false,if_false,false_eq_true,List.take_length]
def F1 (l:List C0) (n:Nat) (a:List y0) (b:Nat->List y0) (pl:List Nat) (b_:Int) (beg:Bool):List Nat:=X5 (Z2 l b_) (F0 a b pl beg) n
def F4 (a:List y0) (b:Nat->List y0) (pl:List Nat) (fB fD:Nat->Nat->Int) (beg:Bool) (r:Nat):Nat:=d0W (Y2 pl beg fB) (j4 pl beg fD) (F0 a b pl beg) r
def K4 (a:List y0) (b:Nat->List y0) (pl:List Nat) (fB fD:Nat->Nat->Int) (beg:Bool) (r:Nat):y0:=g01 (Y2 pl beg fB) (j4 pl beg fD) (F0 a b pl beg) r
def stV (l:List C0) (a:List y0) (b:Nat->List y0) (at_:Int) (pl:List Nat) (vals:List (List Int)) (fB fD:Nat->Nat->Int) (beg:Bool) (r:Nat):List Int:=
 S6 at_ (-1) (gt (E9 l at_ vals beg) (F4 a b pl fB fD beg r:Int)) (N4 l (K4 a b pl fB fD beg r).Steps)
def stW (l:List C0) (n:Nat) (a:List y0) (b:Nat->List y0) (pl:List Nat) (b_:Int) (beg:Bool):Int:=
 (Q7 (Z2 l b_) (F0 a b pl beg) n:Int)+(((F1 l n a b pl b_ beg).length:Int)*l5 l+((F1 l n a b pl b_ beg).length:Int)*((F1 l n a b pl b_ beg).length:Int))
theorem d0n {b_:Int} {beg:Bool} {r:Nat} (h:r∈F1 l n a b pl b_ beg):r<n/\N1 (F0 a b pl beg) r (F0 a b pl beg).length≠[]:=⟨w0c h,(u0u h).2⟩
theorem r0Q {b_:Int} {beg:Bool}:(F1 l n a b pl b_ beg).length<=n:=t0k _ _ _
theorem u0q (K:H5 l n a b e z F) (C:F6 l n pl vals fB fD) (b_:Int) (beg:Bool):k0X l n (A5 pl beg) ((F1 l n a b pl b_ beg).map (F4 a b pl fB fD beg)) ((F1 l n a b pl b_ beg).map (K4 a b pl fB fD beg)) where
 lt i hi:=by
  obtain ⟨r,hr,rfl⟩:=mem_map.1 hi;rw [<-b0b a b];exact g0V (d0n hr).2
 len:=by simp
 le:=by have:=r0Q (l:=l) (n:=n) (a:=a) (b:=b) (pl:=pl) (b_:=b_) (beg:=beg);have:=K.T.n64;simp;omega
 hop x hx:=by
  obtain ⟨r,hr,rfl⟩:=mem_map.1 hx;have hm:=j08 (fB:=Y2 pl beg fB) (fD:=j4 pl beg fD) (d0n hr).2;exact (g0i K C beg _ (g0V (d0n hr).2)).2.2.1 _ hm.1
 asc:=by
  rw [List.pairwise_map];refine (n0W _ _ _).imp_of_mem fun {x y} hx hy hxy=>?_;have h1:=(j08 (fB:=Y2 pl beg fB) (fD:=j4 pl beg fD) (d0n hx).2).2;have h2:=(j08 (fB:=Y2 pl beg fB) (fD:=j4 pl beg fD) (d0n hy).2).2;unfold K4;rw [h1,h2];omega
theorem r0W {V:List (List Int)} {m:Nat} (h:∀ v∈V,v.length=(l5 l).toNat) (hl:V.length=m) {k:Nat} (hk:k<m):(gt V (k:Int)).length=(l5 l).toNat/\B0 V (k:Int)=true:=
 ⟨h _ (mem_of_getElem? (u6 (by omega))),R0 (by omega) (by omega)⟩
theorem p0i (K:H5 l n a b e z F) (C:F6 l n pl vals fB fD) (hw:∀ x∈l,o3 x) (b_:Int) (beg:Bool) :
  F6 l n (F1 l n a b pl b_ beg) ((F1 l n a b pl b_ beg).map (stV l a b at_ pl vals fB fD beg)) (P5 l (Y2 pl beg fB) ((F1 l n a b pl b_ beg).map (F4 a b pl fB fD beg)) ((F1 l n a b pl b_ beg).map (K4 a b pl fB fD beg))) (N6 l (Y2 pl beg fB) (j4 pl beg fD) ((F1 l n a b pl b_ beg).map (F4 a b pl fB fD beg)) ((F1 l n a b pl b_ beg).map (K4 a b pl fB fD beg))) where
 len:=by simp
 pln r hr:=(d0n hr).1
 asc:=n0W _ _ _
 row v hv:=by
  obtain ⟨r,hr,rfl⟩:=mem_map.1 hv;unfold stV;rw [h0s];exact (r0W (u0H C beg) (r0P C beg) (by rw [<-b0b a b];exact g0V (d0n hr).2)).1
 rk:=by
  have g:=u0q K C b_ beg;have:=p0k hw K.hR K.hn (g03 C beg) g.lt g.len g.hop g.asc;simpa using this
theorem t09 (K:H5 l n a b e z F) (C:F6 l n pl vals fB fD) (b_:Int) (beg:Bool):0<=stW l n a b pl b_ beg/\stW l n a b pl b_ beg<=1000000/\(Q7 (Z2 l b_) (F0 a b pl beg) n:Int)<=200000/\0<=((F1 l n a b pl b_ beg).length:Int)*l5 l/\((F1 l n a b pl b_ beg).length:Int)*l5 l<=10000/\0<=((F1 l n a b pl b_ beg).length:Int)*((F1 l n a b pl b_ beg).length:Int)/\((F1 l n a b pl b_ beg).length:Int)*((F1 l n a b pl b_ beg).length:Int)<=160000:=by
 have hm:=C.le;have hn:=K.T.n64;have h1:=n0M (Z2 l b_) (F0 a b pl beg) n;have h2:(F0 a b pl beg).length<=401:=by rw [b0b];unfold A5;split<;>omega
 have h3:n*(F0 a b pl beg).length<=400*401:=Nat.mul_le_mul hn h2;have h4:=r0Q (l:=l) (n:=n) (a:=a) (b:=b) (pl:=pl) (b_:=b_) (beg:=beg);have ht:=f0m l;unfold stW;generalize (F1 l n a b pl b_ beg).length=p at *;have h5:(p:Int)*l5 l<=400*19:=Int.mul_le_mul (by omega) ht.2 (by omega) (by omega);have h6:(p:Int)*(p:Int)<=400*400:=Int.mul_le_mul (by omega) (by omega) (by omega) (by omega);have h7:0<=(p:Int)*l5 l:=Int.mul_nonneg (by omega) (by omega);have h8:0<=(p:Int)*(p:Int):=Int.mul_nonneg (by omega) (by omega);generalize (p:Int)*l5 l=x at *;generalize (p:Int)*(p:Int)=y at *;refine ⟨by omega,by omega,by omega,by omega,by omega,by omega,by omega⟩
end
