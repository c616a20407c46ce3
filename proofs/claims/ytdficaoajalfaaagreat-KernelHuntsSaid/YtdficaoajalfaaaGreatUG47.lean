/- Kernels: all that goes on with a byte. Kernels: which run is ahead of all that can end, and which ones stay. Kernels: registers are numbered anew. Its conditions: none. -/
import Derived.Test.YtdficaoajalfaaaGreatUG46
open Bool (false_eq_true)
open List (range_succ map_append map_cons map_nil append_nil take_length getElem_mem length_map length_cons mem_cons take_succ set_set length_append length_nil)
set_option linter.all false
namespace Go.Proofs.YtdficaoajalfaaaGreat
open Go.V Go.RowKit Old Go.X
def N9 (l:List D0):List Int:=(List.replicate (T3 l).toNat (-2)).set 0 (-1)
def a0N (l:List D0) (maps:List (List Int)) (C0:Bool):List (List Int):=maps++if C0 then [N9 l] else []
def goG (l:List D0) (a:List B0) (b:Nat->List B0) (pl:List Nat) (maps:List (List Int)) (C0:Bool):List O5:=((List.range pl.length).map fun (i:Nat)=>(⟨gt maps (i:Int),b (pl.getD i 0)⟩:O5))++if C0 then [⟨N9 l,a⟩] else []
def a8 (flag:Int) (pl:List Nat) (maps:List (List Int)) (fB fD:Nat->Nat->Int):N4:=⟨flag,O0 pl,maps,O1 pl.length fB fD⟩
def stM (l:List D0) (a:List B0) (b:Nat->List B0) (pl:List Nat) (maps:List (List Int)) (fB fD:Nat->Nat->Int) (C0:Bool) (r:Nat):List Int:=
 a6 (-1) (-2) (gt (a0N l maps C0) (G2 a b pl fB fD C0 r:Int)) (j5 l (F4 a b pl fB fD C0 r).Steps)
theorem p0i (l:List D0):(N9 l).length=(T3 l).toNat:=by simp [N9]
section
variable {F:Nat} {l:List D0} {n:Nat} {a:List B0} {b:Nat->List B0} {e:Nat->B0×Bool} {z:B0×Bool} {pl:List Nat} {maps:List (List Int)} {fB fD:Nat->Nat->Int} {flag:Int}
theorem v0o (C:U3 l n pl maps fB fD) (C0:Bool):(a0N l maps C0).length=o4 pl C0:=by unfold a0N o4;cases C0<;>simp [C.len]
theorem v07 (C:U3 l n pl maps fB fD) (C0:Bool):∀ v∈a0N l maps C0,v.length=(T3 l).toNat:=by
 intro v hv;unfold a0N at hv;rcases List.mem_append.1 hv with h | h
 ·exact C.row v h
 ·cases C0 with
  |false=>simp at h
  |true=>simp at h;subst h;exact p0i l
theorem u0o (C0:Bool):(goG l a b pl maps C0).length=o4 pl C0:=by unfold goG o4;cases C0<;>simp
theorem u0d (C:U3 l n pl maps fB fD) {C0:Bool} {i:Nat} (hi:i<o4 pl C0):gt (goG l a b pl maps C0) (i:Int)=⟨gt (a0N l maps C0) (i:Int),(R0 a b pl C0).getD i []⟩:=by
 have hvl:=C.len;refine I3 ?_;unfold goG a0N R0;unfold o4 at hi
 by_cases h:i<pl.length
 ·have e:(pl.map b++if C0 then [a] else []).getD i []=b (pl.getD i 0):=by
   rw [List.getD_eq_getElem?_getD,List.getElem?_append_left (by simp [h])];simp [List.getD,h]
  rw [List.getElem?_append_left (by simp [h]),a0R (by omega) (by omega),e];simp [h]
 ·cases C0 with
  |false=>simp at hi;omega
  |
   true=>
   simp only [if_true] at hi;have e:i=pl.length:=by omega
   subst e;rw [List.getElem?_append_right (by simp)];simp only [if_true];rw [c0I hvl.symm];simp [List.getD]
theorem s0Y (K:Q4 l n a b e z F):h04 F l=some (N9 l):=by
 have f1:=K.f1;have ht:=l8 l;obtain ⟨t,hT⟩:∃ t:Nat,T3 l=t:=⟨(T3 l).toNat,by omega⟩
 unfold h04 N9;rw [v0V K.hR (by omega),hT];simp only [E0,D0G (F:=F) (n:=t) (x:=-2) (by omega) (by omega),Int.toNat_natCast];rw [if_pos (P0 (by omega) (by simp;omega))];rfl
theorem E0c (K:Q4 l n a b e z F) (C:U3 l n pl maps fB fD) {C0:Bool} (hbeg:(flag==0)=!C0):g02 F l (a8 flag pl maps fB fD) =
  some (goG l a b pl maps C0,O1 (o4 pl C0) (R3 pl C0 fB) (C4 pl C0 fD)):=by
 have f1:=K.f1;have hm:=C.le;have hn:=K.T.n64;have hvl:=C.len;have hl:=K.hl;unfold g02;have:=V2 (step:=g0K F l (a8 flag pl maps fB fD)) (fun i=>((List.range i).map (fun (i:Nat)=>(⟨gt maps (i:Int),b (pl.getD i 0)⟩:O5)),(i:Int))) ((List.range pl.length).map (fun (i:Nat)=>(⟨gt maps (i:Int),b (pl.getD i 0)⟩:O5))) pl.length (fun i hi=>.inl ?_) ?_ pl.length 0 F (by omega) (by omega)
 ·have h2:iter (g0K F l (a8 flag pl maps fB fD)) F ([],0)=_:=this;rw [h2];simp only [E0,a8,hbeg];unfold goG o4 R3 C4;cases C0 with
  |false=>simp
  |
   true=>
   have ap1:I0 48 ((List.range pl.length).map (fun (i:Nat)=>(⟨gt maps (i:Int),b (pl.getD i 0)⟩:O5))) [(⟨N9 l,a⟩:O5)]=true:=by simp [I0];omega
   have hW:W ((l.length:Int)-1)=(l.length:Int)-1:=Z2 (by omega) (by omega);simp only [Bool.not_true,false_eq_true,if_false,s0Y K,E0,hW,K.TF.mA,ap1,if_true,D0m (show pl.length<=900 by omega) (show 2000<F by omega) C.rk]
 ·unfold g0K;have h1:(i:Int)<((O0 pl).length:Int):=by simp;omega
  have hp:=T6 C.pln hi;have hin:y0 maps (i:Int)=true:=P0 (by omega) (by omega);have hap:I0 48 ((List.range i).map (fun (i:Nat)=>(⟨gt maps (i:Int),b (pl.getD i 0)⟩:O5))) [(⟨gt maps (i:Int),b (pl.getD i 0)⟩:O5)]=true:=by simp [I0];omega
  simp only [a8,h1,decide_true,if_true,A6 hi,e7 hi,hin,K.TF.mB _ hp,E0,hap,range_succ,map_append,map_cons,map_nil,E2 (i:=i) (by omega)]
 ·unfold g0K;have h1:¬ ((pl.length:Int)<((O0 pl).length:Int)):=by simp
  simp only [a8,h1,decide_false,if_false,false_eq_true]
theorem C0o {Ws:List (List B0)} {all:List O5} (hl:all.length=Ws.length) (hg:∀ i:Nat,i<Ws.length->(gt all (i:Int)).ways=Ws.getD i []) (hW:∀ i,i<Ws.length->A8 n (Ws.getD i [])/\(Ws.getD i []).length<=500000) (hM:Ws.length<=1000) (hf:2000001<F) (r:Nat) :
  j0V F all (r:Int)=some (O0 (K3 Ws r Ws.length),I5 Ws r Ws.length):=by
 unfold j0V;have:=V2 (step:=h00 F all (r:Int)) (fun i=>(O0 (K3 Ws r i),I5 Ws r i,(i:Int))) (O0 (K3 Ws r Ws.length),I5 Ws r Ws.length) Ws.length (fun i hi=>.inl ?_) ?_ Ws.length 0 F (by omega) (by omega)
 ·have h2:iter (h00 F all (r:Int)) F ([],[],0)=_:=this;rw [h2];rfl
 ·have h1:(i:Int)<(all.length:Int):=by omega
  have hin:y0 all (i:Int)=true:=P0 (by omega) h1;obtain ⟨hWi,hlen⟩:=hW i hi;have hgi:=hg i hi;have hl1:=j0u Ws r i;have hl2:=j0s Ws r i;have inner:=V2 (step:=i0b F all (r:Int) (i:Int)) (fun j=>(O0 (K3 Ws r i++if (R6 ((Ws.getD i []).take j) r).isSome then [i] else []),I5 Ws r i++(if (R6 ((Ws.getD i []).take j) r).isSome then [a0J ((Ws.getD i []).take j) r] else []),(j:Int)))
   (O0 (K3 Ws r (i+1)),I5 Ws r (i+1)) (Ws.getD i []).length (fun j hj=>.inl ?_) ?_ (Ws.getD i []).length 0 F (by omega) (by omega)
  ·have h0:R6 ((Ws.getD i []).take 0) r=none:=rfl;have e0:iter (i0b F all (r:Int) (i:Int)) F (O0 (K3 Ws r i),I5 Ws r i,0)=some (O0 (K3 Ws r (i+1)),I5 Ws r (i+1)):=by
    rw [<-inner];simp only [h0,Option.isSome_none,false_eq_true,if_false,append_nil];rfl
   unfold h00;simp only [h1,decide_true,if_true,hin,e0,E0,E2 (i:=i) (by omega)]
  ·unfold i0b;have hj1:(j:Int)<(((Ws.getD i []).length:Nat):Int):=by omega
   have hinj:y0 (Ws.getD i []) (j:Int)=true:=P0 (by omega) hj1;simp only [hgi,hj1,decide_true,if_true,hinj]
   by_cases ht:(gt (Ws.getD i []) (j:Int)).To=(r:Int)
   ·obtain ⟨t1,t2⟩:=F0a hWi hj ht;have hb:((gt (Ws.getD i []) (j:Int)).To==(r:Int))=true:=beq_iff_eq.2 ht;have ap1:I0 8 (O0 (K3 Ws r i)) [(i:Int)]=true:=by simp [I0];omega
    have ap2:I0 40 (I5 Ws r i) [gt (Ws.getD i []) (j:Int)]=true:=by simp [I0];omega
    simp only [hb,if_true,t1,t2,Option.isSome_none,false_eq_true,if_false,append_nil,Option.isSome_some,ap1,ap2,E0,E2 (i:=j) (by omega),c0c];congr 4;unfold a0J;rw [t1];rfl
   ·have t1:=y0w hj ht;have hb:((gt (Ws.getD i []) (j:Int)).To==(r:Int))=false:=beq_eq_false_iff_ne.2 ht;simp only [hb,false_eq_true,if_false,t1,E0,E2 (i:=j) (by omega)];congr 4;unfold a0J;rw [t1]
  ·unfold i0b;have h3:¬ (((Ws.getD i []).length:Nat):Int)<(((Ws.getD i []).length:Nat):Int):=by omega
   simp only [hgi,h3,decide_false,if_false,false_eq_true];rw [take_length,p0s,r0p]
 ·unfold h00;have h1:¬ (Ws.length:Int)<(all.length:Int):=by omega
  simp only [h1,decide_false,if_false,false_eq_true]
set_option maxHeartbeats 2000000 in
theorem z0d (K:Q4 l n a b e z F) (C:U3 l n pl maps fB fD) (hw:∀ x∈l,C3 x) {b_:Int} (hb:C7 .u8 b_) (C0:Bool) {fl:Int} {rk:E1} {r:Nat} (hr:r<n) :
  f0J F l b_ (O1 (o4 pl C0) (R3 pl C0 fB) (C4 pl C0 fD)) (Q1 l l.length)
   (goG l a b pl maps C0,O0 ((O4 (J3 l b_) (R0 a b pl C0) r).map (G2 a b pl fB fD C0)),(O4 (J3 l b_) (R0 a b pl C0) r).map (F4 a b pl fB fD C0),(r:Int),(fl,O0 (O4 (J3 l b_) (R0 a b pl C0) r),(O4 (J3 l b_) (R0 a b pl C0) r).map (stM l a b pl maps fB fD C0),rk)) =
  some (.next (goG l a b pl maps C0,O0 ((O4 (J3 l b_) (R0 a b pl C0) (r+1)).map (G2 a b pl fB fD C0)),(O4 (J3 l b_) (R0 a b pl C0) (r+1)).map (F4 a b pl fB fD C0),((r+1:Nat):Int),(fl,O0 (O4 (J3 l b_) (R0 a b pl C0) (r+1)),(O4 (J3 l b_) (R0 a b pl C0) (r+1)).map (stM l a b pl maps fB fD C0),rk))):=by
 have f1:=K.f1;have hn:=K.T.n64;have hM:=l0t K C C0;have hWl:=a0B a b pl C0;obtain ⟨hc1,hc2⟩:=t0P K C C0 r;have hch:=j0s (R0 a b pl C0) r (R0 a b pl C0).length;have hPl:=o0F (J3 l b_) (R0 a b pl C0) r;have ht:=l8 l;have hll:=S6 l l.length;have hKn:=K.hn;have hx:(r:Int)<((Q1 l l.length).length:Int):=by omega
 obtain ⟨q,q1,q2,q3⟩:=d0M l K.hn (x:=(r:Int)) (by omega) (by omega);obtain ⟨_,_,s3⟩:=setOf l K.hn hw hr;have hH:hasB (gt l (gt (Q1 l l.length) (r:Int))).Set b_=J3 l b_ r:=rfl;have hgr:=h07 C C0;have hcm:=C0o (F:=F) (n:=n) (Ws:=R0 a b pl C0) (all:=goG l a b pl maps C0) (by rw [u0o,hWl]) (fun i hi=>by rw [u0d C (by rw [<-hWl];exact hi)]) (fun i hi=>⟨(h0U K C C0 i hi).1,(h0U K C C0 i hi).2.1⟩) (by omega) f1 r;unfold f0J;simp only [hx,decide_true,if_true,q3,P0 (l:=l) (i:=gt (Q1 l l.length) (r:Int)) (by omega) (by omega),(w0c F s3 hb).1,hH,E0,t0g,E2 (i:=r) (by omega),hcm];cases hP:J3 l b_ r with
 |false=>simp only [Bool.not_false,if_true,E0,Bool.false_and,false_eq_true,if_false,append_nil]
 |
  true=>
  simp only [Bool.not_true,false_eq_true,if_false,if_true,Bool.true_and];have hpk:=G0v (F:=F) (n:=o4 pl C0) (fB:=R3 pl C0 fB) (fD:=C4 pl C0 fD) (fr:=K3 (R0 a b pl C0) r (R0 a b pl C0).length) (hops:=I5 (R0 a b pl C0) r (R0 a b pl C0).length) (by omega) (by omega) hgr hch (by omega) hc2
  by_cases h0:K3 (R0 a b pl C0) r (R0 a b pl C0).length=[]
  ·have hpk2:h0Y F (O1 (o4 pl C0) (R3 pl C0 fB) (C4 pl C0 fD)) (O0 (K3 (R0 a b pl C0) r (R0 a b pl C0).length)) (I5 (R0 a b pl C0) r (R0 a b pl C0).length)=some (-1):=by
    rw [hpk,h0,v0C]
   simp only [hpk2,E0,show decide ((-1:Int)<0)=true from rfl,if_true];simp only [h0,List.isEmpty_nil,Bool.not_true,false_eq_true,if_false,append_nil]
  ·obtain ⟨k1,k2⟩:=j0w (fB:=R3 pl C0 fB) (fD:=C4 pl C0 fD) h0;have hne:(K3 (R0 a b pl C0) r (R0 a b pl C0).length).isEmpty=false:=by simpa using h0
   rw [k1] at hpk;have k3:¬ ((H9 (R3 pl C0 fB) (C4 pl C0 fD) (R0 a b pl C0) r:Nat):Int)<0:=by omega
   have hsl:G2 a b pl fB fD C0 r<o4 pl C0:=by rw [<-hWl];exact c0m h0
   obtain ⟨v1,v2⟩:=l0u (v07 C C0) (v0o C C0) hsl;obtain ⟨p1,p2⟩:=t08 K C (b_:=b_) (C0:=C0) h0;have hsrc:(((K3 (R0 a b pl C0) r (R0 a b pl C0).length).getD (H9 (R3 pl C0 fB) (C4 pl C0 fD) (R0 a b pl C0) r) 0:Nat):Int)=(G2 a b pl fB fD C0 r:Int):=rfl;have hgin:y0 (goG l a b pl maps C0) (G2 a b pl fB fD C0 r:Int)=true:=P0 (by omega) (by rw [u0o];omega);have hgat:(gt (goG l a b pl maps C0) (G2 a b pl fB fD C0 r:Int)).tags=gt (a0N l maps C0) (G2 a b pl fB fD C0 r:Int):=by rw [u0d C hsl]
   have hhop:gt (I5 (R0 a b pl C0) r (R0 a b pl C0).length) ((H9 (R3 pl C0 fB) (C4 pl C0 fD) (R0 a b pl C0) r:Nat):Int)=F4 a b pl fB fD C0 r:=u05 h0;have hrin:y0 (I5 (R0 a b pl C0) r (R0 a b pl C0).length) ((H9 (R3 pl C0 fB) (C4 pl C0 fD) (R0 a b pl C0) r:Nat):Int)=true:=P0 (by omega) (by omega);have ap1:I0 8 (O0 (O4 (J3 l b_) (R0 a b pl C0) r)) [(r:Int)]=true:=by simp [I0];omega
   have ap2:I0 24 ((O4 (J3 l b_) (R0 a b pl C0) r).map (stM l a b pl maps fB fD C0)) [stM l a b pl maps fB fD C0 r]=true:=by simp [I0];omega
   have ap3:I0 8 (O0 ((O4 (J3 l b_) (R0 a b pl C0) r).map (G2 a b pl fB fD C0))) [(G2 a b pl fB fD C0 r:Int)]=true:=by simp [I0];omega
   have ap5:I0 40 ((O4 (J3 l b_) (R0 a b pl C0) r).map (F4 a b pl fB fD C0)) [F4 a b pl fB fD C0 r]=true:=by simp [I0];omega
   have hol:=d0w l (F4 a b pl fB fD C0 r).Steps;have hof:=m0D K.hR p1 K.f1 (n3.sok p2);have hap:=m07 (F:=F) (marks:=j5 l (F4 a b pl fB fD C0 r).Steps) (now:=-1) (none_:=-2) (show (gt (a0N l maps C0) (G2 a b pl fB fD C0 r:Int)).length<=1000 by omega) (by omega);have hav:a6 (-1) (-2) (gt (a0N l maps C0) (G2 a b pl fB fD C0 r:Int)) (j5 l (F4 a b pl fB fD C0 r).Steps)=stM l a b pl maps fB fD C0 r:=rfl;rw [hav] at hap;simp only [hpk,E0,k3,decide_false,false_eq_true,if_false,ap1,A6 k2,e7 k2,hsrc,hgin,hgat,hrin,hhop,hof,hap,ap2,ap3,ap5,if_true,hne,Bool.not_false,c0c,map_append,map_cons,map_nil]
theorem C0l (K:Q4 l n a b e z F) (C:U3 l n pl maps fB fD) (hw:∀ x∈l,C3 x) {b_:Int} (hb:C7 .u8 b_) (C0:Bool) (fl:Int) (rk:E1) :
  iter (f0J F l b_ (O1 (o4 pl C0) (R3 pl C0 fB) (C4 pl C0 fD)) (Q1 l l.length)) F (goG l a b pl maps C0,[],[],0,(fl,[],[],rk)) =
   some (O0 ((R1 l n a b pl b_ C0).map (G2 a b pl fB fD C0)),(R1 l n a b pl b_ C0).map (F4 a b pl fB fD C0),(fl,O0 (R1 l n a b pl b_ C0),(R1 l n a b pl b_ C0).map (stM l a b pl maps fB fD C0),rk)):=by
 have f1:=K.f1;have hn:=K.T.n64;have hll:=S6 l l.length;have hKn:=K.hn;have:=V2 (step:=f0J F l b_ (O1 (o4 pl C0) (R3 pl C0 fB) (C4 pl C0 fD)) (Q1 l l.length))
  (fun r=>(goG l a b pl maps C0,O0 ((O4 (J3 l b_) (R0 a b pl C0) r).map (G2 a b pl fB fD C0)),(O4 (J3 l b_) (R0 a b pl C0) r).map (F4 a b pl fB fD C0),(r:Int),(fl,O0 (O4 (J3 l b_) (R0 a b pl C0) r),(O4 (J3 l b_) (R0 a b pl C0) r).map (stM l a b pl maps fB fD C0),rk)))
  (O0 ((R1 l n a b pl b_ C0).map (G2 a b pl fB fD C0)),(R1 l n a b pl b_ C0).map (F4 a b pl fB fD C0),(fl,O0 (R1 l n a b pl b_ C0),(R1 l n a b pl b_ C0).map (stM l a b pl maps fB fD C0),rk)) n
  (fun r hr=>.inl (z0d K C hw hb C0 hr)) ?_ n 0 F (by omega) (by omega)
 ·exact this
 ·unfold f0J;have h1:¬ ((n:Int)<((Q1 l l.length).length:Int)):=by omega
  simp only [h1,decide_false,if_false,false_eq_true];rfl
end
def i0g (fB fD:Nat->Nat->Int) (ah x:Nat):Bool:=x==ah||(decide (fB x ah>0)||decide (fD ah x<0))
def H8 (fB fD:Nat->Nat->Int) (ah k:Nat):List Nat:=(List.range k).filter (i0g fB fD ah)
theorem H0e (fB fD:Nat->Nat->Int) (ah k:Nat):H8 fB fD ah (k+1)=if i0g fB fD ah k=true then H8 fB fD ah k++[k] else H8 fB fD ah k:=by
 unfold H8;rw [range_succ,List.filter_append]
 by_cases h:i0g fB fD ah k=true
 ·rw [if_pos h];simp only [List.filter_cons,h,if_true,List.filter_nil]
 ·rw [if_neg h];simp only [List.filter_cons,h,if_false,List.filter_nil,append_nil,false_eq_true]
theorem r0u (fB fD:Nat->Nat->Int) (ah k:Nat):(H8 fB fD ah k).length<=k:=Nat.le_trans (List.length_filter_le _ _) (by simp)
theorem u0G {fB fD:Nat->Nat->Int} {ah k i:Nat} (h:i∈H8 fB fD ah k):i<k:=List.mem_range.1 (List.mem_filter.1 h).1
theorem q0A (fB fD:Nat->Nat->Int) (ah k:Nat):(H8 fB fD ah k).Pairwise fun a b=>a<b:=List.Pairwise.filter _ List.pairwise_lt_range
section
variable {F:Nat}
theorem q0S {x:List Int} {of:List Nat} (h:∀ i∈of,i<x.length) (hl:of.length<=1000) (hf:2000<F):g0k F x (O0 of)=some (of.map fun i:Nat=>gt x (i:Int)):=by
 unfold g0k;rw [z6];have:=V2 (step:=l0R F x (O0 of)) (fun i=>((of.take i).map fun i:Nat=>gt x (i:Int),(i:Int))) (of.map fun i:Nat=>gt x (i:Int)) of.length (fun i hi=>.inl ?_) ?_ of.length 0 F (by omega) (by omega)
 ·exact this
 ·unfold l0R;have h1:(i:Int)<((O0 of).length:Int):=by simp;omega
  have hx:=h of[i] (getElem_mem hi);have hap:I0 8 ((of.take i).map fun i:Nat=>gt x (i:Int)) [gt x ((of[i]:Nat):Int)]=true:=by simp [I0];omega
  simp only [h1,decide_true,if_true,A6 hi,f07 hi,P0 (l:=x) (i:=((of[i]:Nat):Int)) (by omega) (by omega),hap,g0W hi,map_append,map_cons,map_nil,E2 (i:=i) (by omega)]
 ·unfold l0R;have h1:¬ ((of.length:Int)<((O0 of).length:Int)):=by simp
  simp only [h1,decide_false,if_false,false_eq_true,take_length]
theorem x0d {x:List (List Int)} {of:List Nat} (h:∀ i∈of,i<x.length) (hl:of.length<=1000) (hf:2000<F):l0v F x (O0 of)=some (of.map fun i:Nat=>gt x (i:Int)):=by
 unfold l0v;rw [z6];have:=V2 (step:=j01 F x (O0 of)) (fun i=>((of.take i).map fun i:Nat=>gt x (i:Int),(i:Int))) (of.map fun i:Nat=>gt x (i:Int)) of.length (fun i hi=>.inl ?_) ?_ of.length 0 F (by omega) (by omega)
 ·exact this
 ·unfold j01;have h1:(i:Int)<((O0 of).length:Int):=by simp;omega
  have hx:=h of[i] (getElem_mem hi);have hap:I0 24 ((of.take i).map fun i:Nat=>gt x (i:Int)) [gt x ((of[i]:Nat):Int)]=true:=by simp [I0];omega
  simp only [h1,decide_true,if_true,A6 hi,f07 hi,P0 (l:=x) (i:=((of[i]:Nat):Int)) (by omega) (by omega),hap,g0W hi,map_append,map_cons,map_nil,E2 (i:=i) (by omega)]
 ·unfold j01;have h1:¬ ((of.length:Int)<((O0 of).length:Int)):=by simp
  simp only [h1,decide_false,if_false,false_eq_true,take_length]
theorem B0q {x:List (List Int)} {of:List Nat} (h:∀ i∈of,i<x.length) (hl:of.length<=1000) (ha:of.Pairwise fun a b=>a<b):g0l F x (O0 of)=some (of.map fun i:Nat=>gt x (i:Int)):=by
 unfold g0l;have h1:d0l (fun i=>i) (O0 of)=true:=by
  rw [f0B];unfold O0;rw [List.pairwise_map];exact ha.imp fun hab=>by omega
 have h2:(O0 of).all (fun i=>y0 x i)=true:=by
  rw [List.all_eq_true];intro i hi;obtain ⟨k,hk,rfl⟩:=List.mem_map.1 hi;exact P0 (by omega) (by have:=h k hk;omega)
 have h3:((O0 of).map fun i=>gt x i)=of.map fun i:Nat=>gt x (i:Int):=by simp [O0]
 have h4:I0 24 ([]:List (List Int)) (of.map fun i:Nat=>gt x (i:Int))=true:=by simp [I0];omega
 simp only [h1,h2,h3,h4,Bool.and_self,if_true]
theorem z0b {m:Nat} {st:List Nat} (h:∀ i∈st,i<m) (hl:st.length<=1000) (hf:2000<F) (g:Nat->Int):g0k F (E3 m g) (O0 st)=some (E3 st.length fun k=>g (st.getD k 0)):=by
 rw [q0S (by simpa using h) hl hf];congr 1;refine List.ext_getElem (by simp) fun j h1 h2=>?_;simp only [length_map] at h1;have hj:=h st[j] (getElem_mem h1);simp only [List.getElem_map,j8 g hj];simp [E3,List.getD,h1]
theorem E0F {m:Nat} {st:List Nat} (h:∀ i∈st,i<m) (hl:st.length<=1000) (hf:2000<F) (f:Nat->Nat->Int):i0P F (Q0 m m f) (O0 st)=some (Q0 st.length st.length (fun i k=>f (st.getD i 0) (st.getD k 0))):=by
 unfold i0P;rw [x0d (by simpa using h) hl hf];simp only [E0,z6];have hg:∀ i,i<st.length->gt (st.map fun i:Nat=>gt (Q0 m m f) (i:Int)) (i:Int)=E3 m (f (st.getD i 0)):=fun i hi=>by
  have hj:=h st[i] (getElem_mem hi);rw [I3 (x:=gt (Q0 m m f) ((st[i]:Nat):Int)) (by simp [hi]),F5 f hj];simp [List.getD,hi]
 have:=V2 (step:=j0X F (O0 st) (st.map fun i:Nat=>gt (Q0 m m f) (i:Int))) (fun i=>((List.range i).map (fun i=>E3 st.length fun k=>f (st.getD i 0) (st.getD k 0)),(i:Int))) (Q0 st.length st.length (fun i k=>f (st.getD i 0) (st.getD k 0))) st.length (fun i hi=>.inl ?_) ?_ st.length 0 F (by omega) (by omega)
 ·exact this
 ·unfold j0X;have h1:(i:Int)<((st.map fun i:Nat=>gt (Q0 m m f) (i:Int)).length:Int):=by simp;omega
  have hin:y0 (st.map fun i:Nat=>gt (Q0 m m f) (i:Int)) (i:Int)=true:=P0 (by omega) h1;have hap:I0 24 ((List.range i).map (fun i=>E3 st.length fun k=>f (st.getD i 0) (st.getD k 0))) [E3 st.length fun k=>f (st.getD i 0) (st.getD k 0)]=true:=by simp [I0];omega
  simp only [h1,decide_true,if_true,hin,hg i hi,z0b h hl hf,E0,hap,range_succ,map_append,map_cons,map_nil,E2 (i:=i) (by omega)]
 ·unfold j0X;have h1:¬ ((st.length:Int)<((st.map fun i:Nat=>gt (Q0 m m f) (i:Int)).length:Int)):=by simp
  simp only [h1,decide_false,if_false,false_eq_true];rfl
end
section
variable {F:Nat} {l:List D0} {n:Nat} {a:List B0} {b:Nat->List B0} {e:Nat->B0×Bool} {z:B0×Bool} {pl:List Nat} {maps:List (List Int)} {fB fD:Nat->Nat->Int} {flag:Int}
theorem v0O (K:Q4 l n a b e z F) (C:U3 l n pl maps fB fD):f0m F l (a8 flag pl maps fB fD)=some (R5 fD (l5 e pl pl.length)):=by
 have f1:=K.f1;have hm:=C.le;have hn:=K.T.n64;unfold f0m;have:=V2 (step:=i0o F l (a8 flag pl maps fB fD)) (fun i=>(O0 (l5 e pl i),(i:Int))) (O0 (l5 e pl pl.length)) pl.length (fun i hi=>.inl ?_) ?_ pl.length 0 F (by omega) (by omega)
 ·have h2:iter (i0o F l (a8 flag pl maps fB fD)) F ([],0)=_:=this;rw [h2];simp only [E0,a8];rw [A02 (by omega) (by omega) C.rk _ (by have:=l0w e pl pl.length;omega) (fun i h=>c0P h)];rfl
 ·unfold i0o;have h1:(i:Int)<((O0 pl).length:Int):=by simp;omega
  have hp:=T6 C.pln hi;have hap:I0 8 (O0 (l5 e pl i)) [(i:Int)]=true:=by have:=l0w e pl i;simp [I0];omega
  simp only [a8,h1,decide_true,if_true,A6 hi,e7 hi,K.TF.mE _ hp,E0,hap,E2 (i:=i) (by omega),s09]
  by_cases h2:(e (pl.getD i 0)).2=true
  ·simp only [h2,if_true,E0,c0c]
  ·have h2:(e (pl.getD i 0)).2=false:=by simpa using h2
   simp only [h2,false_eq_true,if_false,E0]
 ·unfold i0o;have h1:¬ ((pl.length:Int)<((O0 pl).length:Int)):=by simp
  simp only [a8,h1,decide_false,if_false,false_eq_true]
structure Kd where
 flag:Int
 pl:List Nat
 maps:List (List Int)
 fB:Nat->Nat->Int
 fD:Nat->Nat->Int
def Kd.K (k:Kd):N4:=a8 k.flag k.pl k.maps k.fB k.fD
def Kd.T (k:Kd):Int×List Int×List (List Int)×E1:=(k.flag,O0 k.pl,k.maps,O1 k.pl.length k.fB k.fD)
def Kd.of (k:Kd) (fl:Int) (st:List Nat):Kd:=⟨fl,st.map fun i=>k.pl.getD i 0,st.map fun i:Nat=>gt k.maps (i:Int),fun i j=>k.fB (st.getD i 0) (st.getD j 0),fun i j=>k.fD (st.getD i 0) (st.getD j 0)⟩
def Kd.cut (e:Nat->B0×Bool) (k:Kd):Kd:=
 if R5 k.fD (l5 e k.pl k.pl.length)<0 then k else k.of 0 (H8 k.fB k.fD (R5 k.fD (l5 e k.pl k.pl.length)).toNat k.pl.length)
theorem I0k (K:Q4 l n a b e z F) {k:Kd} (C:U3 l n k.pl k.maps k.fB k.fD):k0T F l k.T=some (k.cut e).T:=by
 have f1:=K.f1;have hm:=C.le;have hn:=K.T.n64;unfold k0T Kd.T;have hah:=v0O (flag:=k.flag) K C;unfold a8 at hah;simp only [hah,E0];unfold Kd.cut;rcases d0g (fD:=k.fD) (l5 e k.pl k.pl.length) (n:=k.pl.length) (fun i h=>c0P h) with hb | ⟨q,hb,hq⟩
 ·rw [hb];rfl
 ·have hk0:¬ ((q:Int)<0):=by omega
  rw [hb];simp only [hk0,decide_false,false_eq_true,if_false,Int.toNat_natCast];have hlt:∀ i∈H8 k.fB k.fD q k.pl.length,i<k.pl.length:=fun i h=>u0G h;have hsl:(H8 k.fB k.fD q k.pl.length).length<=1000:=by have:=r0u k.fB k.fD q k.pl.length;omega
  have hasc:=q0A k.fB k.fD q k.pl.length;have hstay:iter (g0U F (O0 k.pl) (O1 k.pl.length k.fB k.fD) (q:Int)) F ([],0)=some (O0 (H8 k.fB k.fD q k.pl.length)):=by
   have:=V2 (step:=g0U F (O0 k.pl) (O1 k.pl.length k.fB k.fD) (q:Int)) (fun i=>(O0 (H8 k.fB k.fD q i),(i:Int))) (O0 (H8 k.fB k.fD q k.pl.length)) k.pl.length (fun i hi=>.inl ?_) ?_ k.pl.length 0 F (by omega) (by omega)
   ·exact this
   ·unfold g0U;have h1:(i:Int)<((O0 k.pl).length:Int):=by simp;omega
    have hap:I0 8 (O0 (H8 k.fB k.fD q i)) [(i:Int)]=true:=by have:=r0u k.fB k.fD q i;simp [I0];omega
    have heq:((i:Int)==(q:Int))=(i==q):=by rw [Bool.eq_iff_iff];simp only [beq_iff_eq];omega
    simp only [h1,decide_true,if_true,O1,P5 _ hi,P5 _ hq,F5 _ hi,F5 _ hq,l6 _ hi,l6 _ hq,j8 _ hi,j8 _ hq,heq,hap,H0e,E2 (i:=i) (by omega)];unfold i0g;cases c1:i==q
    ·cases c2:decide (k.fB i q>0)
     ·cases c3:decide (k.fD q i<0)
      ·simp only [false_eq_true,if_false,E0,Bool.or_self]
      ·simp only [false_eq_true,if_false,if_true,E0,Bool.or_true,c0c]
     ·simp only [false_eq_true,if_false,if_true,E0,Bool.true_or,Bool.or_true,c0c]
    ·simp only [if_true,E0,Bool.true_or,c0c]
   ·unfold g0U;have h1:¬ ((k.pl.length:Int)<((O0 k.pl).length:Int)):=by simp
    simp only [h1,decide_false,if_false,false_eq_true]
  rw [hstay];generalize H8 k.fB k.fD q k.pl.length=st at *;simp only [E0,q0S (x:=O0 k.pl) (of:=st) (F:=F) (by simpa using hlt) hsl (by omega),B0q (F:=F) (x:=k.maps) (of:=st) (by rw [C.len];exact hlt) hsl hasc,O1,E0F hlt hsl (show 2000<F by omega)];unfold Kd.of;have he:(st.map fun i:Nat=>gt (O0 k.pl) (i:Int))=O0 (st.map fun i=>k.pl.getD i 0):=by
   refine List.ext_getElem (by simp) fun j h1 h2=>?_;simp only [length_map] at h1;have:=e7 (hlt st[j] (getElem_mem h1));simp only [O0,List.getElem_map] at this ⊢;exact this
  simp only [length_map,he]
theorem c0S {k:Kd} (C:U3 l n k.pl k.maps k.fB k.fD):U3 l n (k.cut e).pl (k.cut e).maps (k.cut e).fB (k.cut e).fD:=by
 unfold Kd.cut;split
 ·exact C
 ·exact u0t C (q0A _ _ _ _) (fun i h=>u0G h)
end
def E8:Nat->List Int->List (Int×Int)
 |_,[]=>[]
 |k,v :: r=>(v,(k:Int)) :: E8 (k+1) r
theorem t0Y (v:Int):∀ (s:List Int) (k:Nat),E8 k (s++[v])=E8 k s++[(v,((k+s.length:Nat):Int))]
 |[],k=>rfl
 |
  x :: r,k=>by
  simp only [List.cons_append,E8,t0Y v r (k+1),length_cons];rw [show k+1+r.length=k+(r.length+1) by omega]
theorem o0e (v:Int):∀ (s:List Int) (k:Nat),P7 (E8 k s) v=decide (v∈s)
 |[],k=>by simp [E8,P7]
 |
  x :: r,k=>by
  simp only [E8,P7,o0e v r (k+1),mem_cons]
  by_cases h:x=v
  ·subst h;simp
  ·have:¬ v=x:=fun e=>h e.symm;simp [h,this]
theorem q0W (v:Int):∀ (s:List Int) (k:Nat),v∈s->U7 (E8 k s) v=((k+s.idxOf v:Nat):Int)
 |
  x :: r,k,h=>by
  simp only [E8,U7,List.idxOf_cons]
  by_cases e:x=v
  ·subst e;simp
  ·have hr:v∈r:=by
    rcases mem_cons.1 h with h | h
    ·exact absurd h.symm e
    ·exact h
   have eb:(x==v)=false:=by simpa using e
   simp only [eb,false_eq_true,if_false,q0W v r (k+1) hr,cond_false];congr 1;omega
theorem s0v (v n:Int):∀ m:List (Int×Int),P7 m v=false->a0M m v n=m++[(v,n)]
 |[],_=>rfl
 |
  (a,b) :: r,h=>by
  simp only [P7,Bool.or_eq_false_iff] at h;simp only [a0M,h.1,false_eq_true,if_false,s0v v n r h.2,List.cons_append]
def V6 (s:List Int) (v:Int):List Int:=if v=-2\/v∈s then s else s++[v]
def N3 (s r:List Int):List Int:=r.foldl V6 s
def j4 (s:List Int) (v:Int):Int:=if v=-2 then -2 else (s.idxOf v:Int)
theorem u0a (s:List Int) (v:Int):s <+: V6 s v:=by
 unfold V6;split
 ·exact List.prefix_refl _
 ·exact ⟨[v],rfl⟩
theorem l0K:∀ (r s:List Int),s <+: N3 s r
 |[],s=>List.prefix_refl _
 |v :: r,s=>(u0a s v).trans (l0K r (V6 s v))
theorem h0b (s r t:List Int):N3 s (r++t)=N3 (N3 s r) t:=by unfold N3;rw [List.foldl_append]
theorem H0H (s:List Int) (v:Int):(V6 s v).length<=s.length+1:=by unfold V6;split<;>simp
theorem k0w:∀ (r s:List Int),(N3 s r).length<=s.length+r.length
 |[],s=>by simp [N3]
 |
  v :: r,s=>by
  have h1:=k0w r (V6 s v);have h2:=H0H s v;show (N3 (V6 s v) r).length<=_;simp only [length_cons];omega
theorem t0j {x:Int}:∀ (r s:List Int),x∈N3 s r->x∈s\/(x∈r/\x≠-2)
 |[],s,h=>.inl h
 |
  v :: r,s,h=>by
  rcases t0j r (V6 s v) h with h1 | ⟨h1,h2⟩
  ·unfold V6 at h1;split at h1
   ·exact .inl h1
   ·rename_i hn;rcases List.mem_append.1 h1 with h1 | h1
    ·exact .inl h1
    ·simp at h1;subst h1;exact .inr ⟨by simp,fun e=>hn (.inl e)⟩
  ·exact .inr ⟨List.mem_cons_of_mem _ h1,h2⟩
theorem r0R {s t:List Int} {v:Int} (h:s <+: t) (hv:v∈s):t.idxOf v=s.idxOf v:=by
 obtain ⟨u,rfl⟩:=h;rw [List.idxOf_append,if_pos hv]
theorem I0f {s:List Int} {v:Int} (hv:v∉s):(s++[v]).idxOf v=s.length:=by
 rw [List.idxOf_append,if_neg hv];simp
theorem p0X {s t:List Int} {v:Int} (h:V6 s v <+: t):(v=-2/\j4 t v=-2/\V6 s v=s)\/(v≠-2/\v∈s/\V6 s v=s/\j4 t v=(s.idxOf v:Int)/\s.idxOf v<s.length)\/(v≠-2/\v∉s/\V6 s v=s++[v]/\j4 t v=(s.length:Int)):=by
 by_cases h2:v=-2
 ·exact .inl ⟨h2,by unfold j4;rw [if_pos h2],by unfold V6;rw [if_pos (.inl h2)]⟩
 ·by_cases hm:v∈s
  ·have e:V6 s v=s:=by unfold V6;rw [if_pos (.inr hm)]
   rw [e] at h;exact .inr (.inl ⟨h2,hm,e,by unfold j4;rw [if_neg h2,r0R h hm],List.idxOf_lt_length_of_mem hm⟩)
  ·have e:V6 s v=s++[v]:=by unfold V6;rw [if_neg (by rintro (h | h);exact h2 h;exact hm h)]
   rw [e] at h;exact .inr (.inr ⟨h2,hm,e,by unfold j4;rw [if_neg h2,r0R h (by simp),I0f hm]⟩)
section
variable {F:Nat}
theorem x0D {row:List Int} {f:Int->Int} {j:Nat} (hj:j<row.length):((row.take j).map f++row.drop j).set j (f (gt row (j:Int)))=(row.take (j+1)).map f++row.drop (j+1):=by
 have hg:row[j]?=some (gt row (j:Int)):=E4 hj;have ht:row.take (j+1)=row.take j++[gt row (j:Int)]:=by rw [take_succ,hg];rfl
 have h0:j-((row.take j).map f).length=0:=by simp;omega
 rw [List.set_append_right _ _ (by simp;omega),ht,map_append,List.append_assoc,h0,List.drop_eq_getElem_cons hj,List.set_cons_zero];rfl
theorem k0E {row s:List Int} {j:Nat} (hj:j<row.length):N3 s (row.take (j+1))=V6 (N3 s (row.take j)) (gt row (j:Int)):=by
 have hg:row[j]?=some (gt row (j:Int)):=E4 hj;rw [take_succ,hg,h0b];rfl
theorem z02 {src t:List Int} {y:List (List Int)} {x:Nat} (hx:x<y.length) {row:List Int} (hrow:gt y (x:Int)=row) (hpre:N3 src row <+: t) (hlen:t.length<=1000000) (hrl:row.length<=1000) (hf:2000<F) :
  iter (i0i F (x:Int) y) F (src,0,y,E8 0 src)=some (N3 src row,y.set x (row.map (j4 t)),E8 0 (N3 src row)):=by
 have:=V2 (step:=i0i F (x:Int) y) (fun j=>(N3 src (row.take j),(j:Int),y.set x ((row.take j).map (j4 t)++row.drop j),E8 0 (N3 src (row.take j)))) (N3 src row,y.set x (row.map (j4 t)),E8 0 (N3 src row)) row.length (fun j hj=>.inl ?_) ?_ row.length 0 F (by omega) (by omega)
 ·have e0:y.set x ((row.take 0).map (j4 t)++row.drop 0)=y:=by
   simp only [List.take_zero,map_nil,List.drop_zero,List.nil_append];rw [<-hrow];refine List.ext_getElem? fun i=>?_
   by_cases e:x=i
   ·subst e;rw [List.getElem?_set_self hx,E4 hx]
   ·rw [List.getElem?_set_ne e]
  rw [<-this];simp only [e0];rfl
 ·have hj1:(j:Int)<((gt y (x:Int)).length:Int):=by rw [hrow];omega
  have hgy:gt (y.set x ((row.take j).map (j4 t)++row.drop j)) (x:Int)=(row.take j).map (j4 t)++row.drop j:=I3 (List.getElem?_set_self hx);have hRl:((row.take j).map (j4 t)++row.drop j).length=row.length:=by simp;omega
  have hin:y0 ((row.take j).map (j4 t)++row.drop j) (j:Int)=true:=P0 (by omega) (by omega);have hgR:gt ((row.take j).map (j4 t)++row.drop j) (j:Int)=gt row (j:Int):=by
   refine I3 ?_;rw [List.getElem?_append_right (by simp;omega)];simp [Nat.min_eq_left (Nat.le_of_lt hj),E4 hj]
  have hnx:=k0E (s:=src) hj;have hp:V6 (N3 src (row.take j)) (gt row (j:Int)) <+: t:=by
   rw [<-hnx];refine List.IsPrefix.trans ?_ hpre;have:N3 src row=N3 (N3 src (row.take (j+1))) (row.drop (j+1)):=by rw [<-h0b,List.take_append_drop]
   rw [this];exact l0K _ _
  have hst:=x0D (f:=j4 t) hj;unfold i0i;simp only [hj1,decide_true,if_true,hgy,hin,hgR,hnx,E2 (i:=j) (by omega)];have hsl:=hp.length_le;generalize N3 src (row.take j)=s at *;generalize gt row (j:Int)=v at *;rcases p0X hp with ⟨h1,h2,h3⟩ | ⟨h1,h2,h3,h4,h5⟩ | ⟨h1,h2,h3,h4⟩
  ·have hb:(v==-2)=true:=by simpa using h1
   rw [h3];simp only [hb,if_true,E0];rw [h2] at hst;have:((row.take j).map (j4 t)++row.drop j).set j (-2)=(row.take j).map (j4 t)++row.drop j:=by
    refine List.ext_getElem? fun i=>?_
    by_cases e:j=i
    ·subst e;rw [List.getElem?_set_self (by omega),E4 (by omega),hgR,h1]
    ·rw [List.getElem?_set_ne e]
   rw [this] at hst;rw [hst]
  ·have hb:(v==-2)=false:=by simpa using h1
   have hm:P7 (E8 0 s) v=true:=by rw [o0e];simpa using h2
   have hg:=q0W v s 0 h2;rw [Nat.zero_add] at hg;rw [h3];simp only [hb,false_eq_true,if_false,hm,Bool.not_true,E0,hgy,hin,if_true,hg,Int.toNat_natCast,set_set];rw [h4] at hst;rw [hst]
  ·have hb:(v==-2)=false:=by simpa using h1
   have hm:P7 (E8 0 s) v=false:=by rw [o0e];simpa using h2
   rw [h3] at hsl ⊢;simp only [length_append,length_cons,length_nil] at hsl;have hap:I0 8 s [v]=true:=by simp [I0];omega
   have hmp:a0M (E8 0 s) v (s.length:Int)=E8 0 (s++[v]):=by rw [s0v _ _ _ hm,t0Y,Nat.zero_add]
   simp only [hb,false_eq_true,if_false,hm,Bool.not_false,if_true,hap,E0,hgy,hin,hmp,Int.toNat_natCast,set_set];rw [h4] at hst;rw [hst]
 ·have hj1:¬ (row.length:Int)<((gt y (x:Int)).length:Int):=by rw [hrow];omega
  unfold i0i;simp only [hj1,decide_false,false_eq_true,if_false,take_length,List.drop_length,append_nil]
theorem k0V:∀ (maps:List (List Int)) (m:Nat),(∀ r∈maps,r.length<=m)->maps.flatten.length<=maps.length*m
 |[],m,_=>by simp
 |
  r :: t,m,h=>by
  have h1:=k0V t m (fun x hx=>h x (List.mem_cons_of_mem _ hx));have h2:=h r (by simp);simp only [List.flatten_cons,length_append,length_cons,Nat.succ_mul];omega
def G4 (maps:List (List Int)):List Int:=N3 [] maps.flatten
def A5 (maps:List (List Int)):List (List Int):=maps.map fun r=>r.map (j4 (G4 maps))
theorem g0S {maps:List (List Int)} {i:Nat} (hi:i<maps.length):N3 (N3 [] (maps.take i).flatten) (gt maps (i:Int))=N3 [] (maps.take (i+1)).flatten:=by
 rw [<-h0b,take_succ,E4 hi];simp
theorem r0z (maps:List (List Int)) (i:Nat):N3 [] (maps.take i).flatten <+: G4 maps:=by
 have:G4 maps=N3 (N3 [] (maps.take i).flatten) (maps.drop i).flatten:=by
  unfold G4;rw [<-h0b,<-List.flatten_append,List.take_append_drop]
 rw [this];exact l0K _ _
theorem H09 {fl:Int} {H7:List Int} {maps:List (List Int)} {rk:E1} (hr:∀ r∈maps,r.length<=1000) (hm:maps.length<=1000) (hf:2000<F) :
  g0T F (fl,H7,maps,rk)=some (⟨fl,H7,A5 maps,rk⟩,G4 maps):=by
 have hfl:=k0V maps 1000 hr;have hall:(G4 maps).length<=1000000:=by
  have:=k0w maps.flatten [];have h2:maps.length*1000<=1000*1000:=Nat.mul_le_mul_right _ hm;simp only [length_nil] at this;unfold G4;omega
 unfold g0T;have:=V2 (step:=i0e F maps) (fun i=>(N3 [] (maps.take i).flatten,(i:Int),(maps.take i).map (fun r=>r.map (j4 (G4 maps)))++maps.drop i,E8 0 (N3 [] (maps.take i).flatten))) (G4 maps,A5 maps) maps.length (fun i hi=>.inl ?_) ?_ maps.length 0 F (by omega) (by omega)
 ·have h2:iter (i0e F maps) F ([],0,maps,[])=some (G4 maps,A5 maps):=this;simp only [h2,E0]
 ·have h1:(i:Int)<(maps.length:Int):=by omega
  have hyl:((maps.take i).map (fun r=>r.map (j4 (G4 maps)))++maps.drop i).length=maps.length:=by simp;omega
  have hin:y0 ((maps.take i).map (fun r=>r.map (j4 (G4 maps)))++maps.drop i) (i:Int)=true:=P0 (by omega) (by omega);have hgy:gt ((maps.take i).map (fun r=>r.map (j4 (G4 maps)))++maps.drop i) (i:Int)=gt maps (i:Int):=by
   refine I3 ?_;rw [List.getElem?_append_right (by simp;omega)];simp [Nat.min_eq_left (Nat.le_of_lt hi),E4 hi]
  have hrl:=hr _ (List.mem_of_getElem? (E4 hi));have hrow:=z02 (F:=F) (src:=N3 [] (maps.take i).flatten) (t:=G4 maps) (y:=(maps.take i).map (fun r=>r.map (j4 (G4 maps)))++maps.drop i) (x:=i) (by omega) hgy (by rw [g0S hi];exact r0z maps (i+1)) hall hrl hf;have hset:((maps.take i).map (fun r=>r.map (j4 (G4 maps)))++maps.drop i).set i ((gt maps (i:Int)).map (j4 (G4 maps)))=(maps.take (i+1)).map (fun r=>r.map (j4 (G4 maps)))++maps.drop (i+1):=by
   have ht:maps.take (i+1)=maps.take i++[gt maps (i:Int)]:=by rw [take_succ,E4 hi];rfl
   have h0:i-((maps.take i).map (fun r=>r.map (j4 (G4 maps)))).length=0:=by simp;omega
   rw [List.set_append_right _ _ (by simp;omega),ht,map_append,List.append_assoc,h0,List.drop_eq_getElem_cons hi,List.set_cons_zero];rfl
  unfold i0e;simp only [h1,decide_true,if_true,hin,hrow,E0,g0S hi,hset,E2 (i:=i) (by omega)]
 ·have h1:¬ (maps.length:Int)<(maps.length:Int):=by omega
  unfold i0e;simp only [h1,decide_false,false_eq_true,if_false,take_length,List.drop_length,append_nil];rfl
theorem x0v {src t:List Int} {y:List (List Int)} {x:Nat} {row:List Int} (hrow:gt y (x:Int)=row.map (j4 t)) (hpre:N3 src row <+: t) (hlen:t.length<=1000000) (hrl:row.length<=1000) (hf:2000<F) :
  iter (h0K F y (x:Int)) F ((src.length:Int),0)=some (.inr ((N3 src row).length:Int))/\∀ k:N4,iter (g04 F ⟨k.Flag,k.Places,y,k.Rank⟩ (x:Int)) F ((src.length:Int),0)=some ((N3 src row).length:Int):=by
 have hp:∀ j,j<row.length->V6 (N3 src (row.take j)) (gt row (j:Int)) <+: t:=fun j hj=>by
  rw [<-k0E hj];refine List.IsPrefix.trans ?_ hpre;have:N3 src row=N3 (N3 src (row.take (j+1))) (row.drop (j+1)):=by rw [<-h0b,List.take_append_drop]
  rw [this];exact l0K _ _
 have hml:(row.map (j4 t)).length=row.length:=by simp
 have hgm:∀ j,j<row.length->gt (row.map (j4 t)) (j:Int)=j4 t (gt row (j:Int)):=fun j hj=>I3 (by rw [List.getElem?_map,E4 hj];rfl);refine ⟨?_,fun k=>?_⟩
 ·have:=V2 (step:=h0K F y (x:Int)) (fun j=>(((N3 src (row.take j)).length:Int),(j:Int))) (.inr ((N3 src row).length:Int)) row.length (fun j hj=>.inl ?_) ?_ row.length 0 F (by omega) (by omega)
  ·exact this
  ·have hj1:(j:Int)<((row.map (j4 t)).length:Int):=by omega
   have hin:y0 (row.map (j4 t)) (j:Int)=true:=P0 (by omega) hj1;have hpj:=hp j hj;have hsl:=hpj.length_le;unfold h0K;simp only [hrow,hj1,decide_true,if_true,hin,hgm j hj,k0E (s:=src) hj,E2 (i:=j) (by omega)];generalize N3 src (row.take j)=s at *;generalize gt row (j:Int)=v at *;rcases p0X hpj with ⟨h1,h2,h3⟩ | ⟨h1,h2,h3,h4,h5⟩ | ⟨h1,h2,h3,h4⟩
   ·rw [h2,h3];rfl
   ·have b1:(((s.idxOf v:Nat):Int)==-2)=false:=by rw [beq_eq_false_iff_ne];omega
    have b2:¬ ((s.idxOf v:Nat):Int)<0:=by omega
    have b3:¬ ((s.idxOf v:Nat):Int)>(s.length:Int):=by omega
    have b4:(((s.idxOf v:Nat):Int)==(s.length:Int))=false:=by rw [beq_eq_false_iff_ne];omega
    rw [h4,h3];simp only [b1,b2,b3,b4,decide_false,false_eq_true,if_false,E0]
   ·have b1:(((s.length:Nat):Int)==-2)=false:=by rw [beq_eq_false_iff_ne];omega
    have b2:¬ ((s.length:Nat):Int)<0:=by omega
    have b3:¬ ((s.length:Nat):Int)>(s.length:Int):=by omega
    rw [h3] at hsl;simp only [length_append,length_cons,length_nil] at hsl;rw [h4,h3];simp only [b1,b2,b3,decide_false,false_eq_true,if_false,E0,beq_self_eq_true,if_true,E2 (i:=s.length) (by omega),length_append,length_cons,length_nil]
  ·have hj1:¬ (row.length:Int)<((row.map (j4 t)).length:Int):=by omega
   unfold h0K;simp only [hrow,hj1,decide_false,false_eq_true,if_false,take_length]
 ·have:=V2 (step:=g04 F ⟨k.Flag,k.Places,y,k.Rank⟩ (x:Int)) (fun j=>(((N3 src (row.take j)).length:Int),(j:Int))) ((N3 src row).length:Int) row.length (fun j hj=>.inl ?_) ?_ row.length 0 F (by omega) (by omega)
  ·exact this
  ·have hj1:(j:Int)<((row.map (j4 t)).length:Int):=by omega
   have hin:y0 (row.map (j4 t)) (j:Int)=true:=P0 (by omega) hj1;have hpj:=hp j hj;have hsl:=hpj.length_le;unfold g04;simp only [hrow,hj1,decide_true,if_true,hin,hgm j hj,k0E (s:=src) hj,E2 (i:=j) (by omega)];generalize N3 src (row.take j)=s at *;generalize gt row (j:Int)=v at *;rcases p0X hpj with ⟨h1,h2,h3⟩ | ⟨h1,h2,h3,h4,h5⟩ | ⟨h1,h2,h3,h4⟩
   ·have b1:¬ (W (-2+1)>(s.length:Int)):=by rw [Z2 (by omega) (by omega)];omega
    rw [h2,h3,if_neg b1]
   ·rw [h3] at hsl;have b1:¬ (W (((s.idxOf v:Nat):Int)+1)>(s.length:Int)):=by rw [Z2 (by omega) (by omega)];omega
    rw [h4,h3,if_neg b1]
   ·rw [h3] at hsl;simp only [length_append,length_cons,length_nil] at hsl;have b1:(W (((s.length:Nat):Int)+1)>(s.length:Int)):=by rw [Z2 (by omega) (by omega)];omega
    rw [h4,h3,if_pos b1,E2 (i:=s.length) (by omega)];simp
  ·have hj1:¬ (row.length:Int)<((row.map (j4 t)).length:Int):=by omega
   unfold g04;simp only [hrow,hj1,decide_false,false_eq_true,if_false,take_length]
theorem u03 {maps:List (List Int)} {tags:Nat} (hr:∀ r∈maps,r.length=tags) (ht:tags<=1000) (hm:maps.length<=1000) (hf:2000<F) (k:N4) :
  i0r F (A5 maps) (tags:Int)=some true/\g0b F ⟨k.Flag,k.Places,A5 maps,k.Rank⟩=some ((G4 maps).length:Int):=by
 have hfl:=k0V maps 1000 (fun r h=>by have:=hr r h;omega);have hall:(G4 maps).length<=1000000:=by
  have:=k0w maps.flatten [];have h2:maps.length*1000<=1000*1000:=Nat.mul_le_mul_right _ hm;simp only [length_nil] at this;unfold G4;omega
 have hrl:(A5 maps).length=maps.length:=by simp [A5]
 have hgm:∀ i,i<maps.length->gt (A5 maps) (i:Int)=(gt maps (i:Int)).map (j4 (G4 maps)):=fun i hi=>I3 (by unfold A5;rw [List.getElem?_map,E4 hi];rfl);have hrow:∀ i,i<maps.length->_:=fun i hi=>x0v (F:=F) (src:=N3 [] (maps.take i).flatten) (t:=G4 maps) (y:=A5 maps) (x:=i) (hgm i hi) (by rw [g0S hi];exact r0z maps (i+1)) hall (by have:=hr _ (List.mem_of_getElem? (E4 hi));omega) hf;have hfin:N3 [] (maps.take maps.length).flatten=G4 maps:=by rw [take_length];rfl
 constructor
 ·unfold i0r;have:=V2 (step:=g01 F (A5 maps) (tags:Int)) (fun i=>(((N3 [] (maps.take i).flatten).length:Int),(i:Int))) (.inr ()) maps.length (fun i hi=>.inl ?_) ?_ maps.length 0 F (by omega) (by omega)
  ·have h2:iter (g01 F (A5 maps) (tags:Int)) F (0,0)=some (.inr ()):=this;rw [h2];rfl
  ·have h1:(i:Int)<((A5 maps).length:Int):=by omega
   have hin:y0 (A5 maps) (i:Int)=true:=P0 (by omega) h1;have hl:=hr _ (List.mem_of_getElem? (E4 hi));have hne:(((gt (A5 maps) (i:Int)).length:Int) != (tags:Int))=false:=by rw [hgm i hi];simp [hl]
   unfold g01;simp only [h1,decide_true,if_true,hin,hne,false_eq_true,if_false,(hrow i hi).1,E0,g0S hi,E2 (i:=i) (by omega)]
  ·have h1:¬ (maps.length:Int)<((A5 maps).length:Int):=by omega
   unfold g01;simp only [h1,decide_false,false_eq_true,if_false]
 ·unfold g0b;have:=V2 (step:=g0C F ⟨k.Flag,k.Places,A5 maps,k.Rank⟩) (fun i=>(((N3 [] (maps.take i).flatten).length:Int),(i:Int))) ((G4 maps).length:Int) maps.length (fun i hi=>.inl ?_) ?_ maps.length 0 F (by omega) (by omega)
  ·have h2:iter (g0C F ⟨k.Flag,k.Places,A5 maps,k.Rank⟩) F (0,0)=some ((G4 maps).length:Int):=this;rw [h2];rfl
  ·have h1:(i:Int)<((A5 maps).length:Int):=by omega
   have hin:y0 (A5 maps) (i:Int)=true:=P0 (by omega) h1;unfold g0C;simp only [h1,decide_true,if_true,hin,(hrow i hi).2 k,E0,g0S hi,E2 (i:=i) (by omega)]
  ·have h1:¬ (maps.length:Int)<((A5 maps).length:Int):=by omega
   unfold g0C;simp only [h1,decide_false,false_eq_true,if_false,hfin]
end
