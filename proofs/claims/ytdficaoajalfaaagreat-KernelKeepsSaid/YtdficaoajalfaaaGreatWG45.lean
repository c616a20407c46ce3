/- Runs over bytes, by the program and by the document. Tags: where a run began; the last time that something is found. What holds of any crowd: where its runs began, what their tags are, which one is ahead. A search, by the program and by the document: step by step. Kernels: all that goes on with a byte. Kernels: which run is ahead of all that can end, and which ones stay. Its conditions: none. -/
import Derived.Test.YtdficaoajalfaaaGreatWG44
open Bool (false_eq_true)
open List (range_succ map_append map_cons map_nil append_nil take_length getElem_mem length_map)
set_option linter.all false
namespace Go.Proofs.YtdficaoajalfaaaGreat
open Go.V Go.RowKit Old Go.X
structure Cs where
 at_:Int
 work:Int
 pl:List Nat
 vals:List (List Int)
 fB:Nat->Nat->Int
 fD:Nat->Nat->Int
def Cs.zero:Cs:=⟨0,0,[],[],fun _ _=>0,fun _ _=>0⟩
def Cs.step (l:List D0) (n:Nat) (a:List B0) (b:Nat->List B0) (s:Cs) (b_:Int) (beg:Bool):Cs:=
 ⟨s.at_+1,s.work+stW l n a b s.pl b_ beg,R1 l n a b s.pl b_ beg,(R1 l n a b s.pl b_ beg).map (D7 l a b s.at_ s.pl s.vals s.fB s.fD beg),
  H4 l (R3 s.pl beg s.fB) ((R1 l n a b s.pl b_ beg).map (G2 a b s.pl s.fB s.fD beg)) ((R1 l n a b s.pl b_ beg).map (F4 a b s.pl s.fB s.fD beg)),
  U4 l (R3 s.pl beg s.fB) (C4 s.pl beg s.fD) ((R1 l n a b s.pl b_ beg).map (G2 a b s.pl s.fB s.fD beg)) ((R1 l n a b s.pl b_ beg).map (F4 a b s.pl s.fB s.fD beg))⟩
def Cs.N1 (s:Cs) (from_:Int):Cs:=
 let st:=K2 s.vals from_ s.pl.length
 ⟨s.at_,s.work,st.map fun i=>s.pl.getD i 0,st.map fun i:Nat=>gt s.vals (i:Int),fun i k=>s.fB (st.getD i 0) (st.getD k 0),fun i k=>s.fD (st.getD i 0) (st.getD k 0)⟩
section
variable (l:List D0) (n:Nat) (a:List B0) (b:Nat->List B0) (e:Nat->B0×Bool) (z:B0×Bool)
def Cs.C (s:Cs):b0Y:=mkC l n a b e z s.at_ s.work s.pl s.vals s.fB s.fD
def Cs.X (s:Cs):T5:=O3 l n a b e s.at_ s.work s.pl s.vals s.fB s.fD
def Cs.U2 (s:Cs):List Int×Bool:=c0r l e s.at_ s.pl s.vals s.fD
end
section
variable {F:Nat} {l:List D0} {n:Nat} {a:List B0} {b:Nat->List B0} {e:Nat->B0×Bool} {z:B0×Bool}
end
section
variable {F:Nat} {l:List D0} {n:Nat} {a:List B0} {b:Nat->List B0} {e:Nat->B0×Bool} {z:B0×Bool}
end
theorem i0Y {o:List Int} {j m:Nat} {x:Int}:gt (o.set j x) (m:Int)=gt o (m:Int)\/gt (o.set j x) (m:Int)=x:=by
 unfold gt;rw [List.getD_eq_getElem?_getD,List.getD_eq_getElem?_getD];simp only [Int.toNat_natCast]
 by_cases e:j=m
 ·subst e
  by_cases h:j<o.length
  ·right;rw [List.getElem?_set_self h];rfl
  ·left;rw [List.set_eq_of_length_le (by omega)]
 ·left;rw [List.getElem?_set_ne e]
theorem F0t (now none_:Int) (o:List Int) (k:P2) (m:Nat):gt (L4 now none_ o k) (m:Int)=gt o (m:Int)\/gt (L4 now none_ o k) (m:Int)=now\/gt (L4 now none_ o k) (m:Int)=none_:=by
 unfold L4;split
 ·exact .inl rfl
 ·split
  ·rcases i0Y (o:=o) (j:=(2*k.Group-1).toNat) (m:=m) (x:=now) with h | h
   ·exact .inl h
   ·exact .inr (.inl h)
  ·split
   ·rcases i0Y (o:=o) (j:=(2*k.Group).toNat) (m:=m) (x:=now) with h | h
    ·exact .inl h
    ·exact .inr (.inl h)
   ·split
    ·rcases i0Y (o:=o.set (2*k.Group-1).toNat none_) (j:=(2*k.Group).toNat) (m:=m) (x:=none_) with h | h
     ·rw [h];rcases i0Y (o:=o) (j:=(2*k.Group-1).toNat) (m:=m) (x:=none_) with h | h
      ·exact .inl h
      ·exact .inr (.inr h)
     ·exact .inr (.inr h)
    ·exact .inl rfl
theorem t0T (now none_:Int) (m:Nat):∀ (marks:List P2) (o:List Int),gt (a6 now none_ o marks) (m:Int)=gt o (m:Int)\/gt (a6 now none_ o marks) (m:Int)=now\/gt (a6 now none_ o marks) (m:Int)=none_
 |[],o=>.inl rfl
 |
  k :: r,o=>by
  have h:=t0T now none_ m r (L4 now none_ o k);have e:a6 now none_ o (k :: r)=a6 now none_ (L4 now none_ o k) r:=rfl;rw [e];rcases h with h | h
  ·rw [h];exact F0t now none_ o k m
  ·exact .inr h
section
variable {F:Nat} {l:List D0} {n:Nat} {a:List B0} {b:Nat->List B0} {e:Nat->B0×Bool} {z:B0×Bool}
end
structure Hs where
 c:Cs
 tags:List Int
 to:Int
 is:Bool
section
variable (l:List D0) (n:Nat) (a:List B0) (b:Nat->List B0) (e:Nat->B0×Bool) (z:B0×Bool)
def Hs.zero:Hs:=⟨Cs.zero,(W9 l z 0).1,0,(W9 l z 0).2⟩
def Hs.M0 (h:Hs) (b_:Int):Cs:=h.c.step l n a b b_ (h.c.at_==0||!h.is)
def Hs.C (h:Hs):b0Y×List Int×Int×Bool:=(h.c.C l n a b e z,h.tags,h.to,h.is)
def Hs.H (h:Hs):e0w:=⟨h.c.C l n a b e z,h.tags,h.to,h.is⟩
def Hs.X (h:Hs):M9:=⟨h.c.X l n a b e,h.tags,h.to,h.is⟩
end
def Hs.over (h:Hs):Bool:=h.is&&(h.c.pl.length==0&&decide (h.c.at_>0))
section
variable {F:Nat} {l:List D0} {n:Nat} {a:List B0} {b:Nat->List B0} {e:Nat->B0×Bool} {z:B0×Bool}
end
def N9 (l:List D0):List Int:=(List.replicate (T3 l).toNat (-2)).set 0 (-1)
def a0N (l:List D0) (maps:List (List Int)) (beg:Bool):List (List Int):=maps++if beg then [N9 l] else []
def L2 (l:List D0) (a:List B0) (b:Nat->List B0) (pl:List Nat) (maps:List (List Int)) (beg:Bool):List O5:=((List.range pl.length).map fun (i:Nat)=>(⟨gt maps (i:Int),b (pl.getD i 0)⟩:O5))++if beg then [⟨N9 l,a⟩] else []
def a8 (flag:Int) (pl:List Nat) (maps:List (List Int)) (fB fD:Nat->Nat->Int):N4:=⟨flag,O0 pl,maps,O1 pl.length fB fD⟩
def stM (l:List D0) (a:List B0) (b:Nat->List B0) (pl:List Nat) (maps:List (List Int)) (fB fD:Nat->Nat->Int) (beg:Bool) (r:Nat):List Int:=
 a6 (-1) (-2) (gt (a0N l maps beg) (G2 a b pl fB fD beg r:Int)) (j5 l (F4 a b pl fB fD beg r).Steps)
theorem p0i (l:List D0):(N9 l).length=(T3 l).toNat:=by simp [N9]
section
variable {F:Nat} {l:List D0} {n:Nat} {a:List B0} {b:Nat->List B0} {e:Nat->B0×Bool} {z:B0×Bool} {pl:List Nat} {maps:List (List Int)} {fB fD:Nat->Nat->Int} {flag:Int}
theorem v0o (C:U3 l n pl maps fB fD) (beg:Bool):(a0N l maps beg).length=o4 pl beg:=by unfold a0N o4;cases beg<;>simp [C.len]
theorem v07 (C:U3 l n pl maps fB fD) (beg:Bool):∀ v∈a0N l maps beg,v.length=(T3 l).toNat:=by
 intro v hv;unfold a0N at hv;rcases List.mem_append.1 hv with h | h
 ·exact C.row v h
 ·cases beg with
  |false=>simp at h
  |true=>simp at h;subst h;exact p0i l
theorem u0o (beg:Bool):(L2 l a b pl maps beg).length=o4 pl beg:=by unfold L2 o4;cases beg<;>simp
theorem u0d (C:U3 l n pl maps fB fD) {beg:Bool} {i:Nat} (hi:i<o4 pl beg):gt (L2 l a b pl maps beg) (i:Int)=⟨gt (a0N l maps beg) (i:Int),(R0 a b pl beg).getD i []⟩:=by
 have hvl:=C.len;refine I3 ?_;unfold L2 a0N R0;unfold o4 at hi
 by_cases h:i<pl.length
 ·have e:(pl.map b++if beg then [a] else []).getD i []=b (pl.getD i 0):=by
   rw [List.getD_eq_getElem?_getD,List.getElem?_append_left (by simp [h])];simp [List.getD,h]
  rw [List.getElem?_append_left (by simp [h]),a0R (by omega) (by omega),e];simp [h]
 ·cases beg with
  |false=>simp at hi;omega
  |
   true=>
   simp only [if_true] at hi;have e:i=pl.length:=by omega
   subst e;rw [List.getElem?_append_right (by simp)];simp only [if_true];rw [c0I hvl.symm];simp [List.getD]
theorem s0Y (K:Q4 l n a b e z F):h04 F l=some (N9 l):=by
 have f1:=K.f1;have ht:=l8 l;obtain ⟨t,hT⟩:∃ t:Nat,T3 l=t:=⟨(T3 l).toNat,by omega⟩
 unfold h04 N9;rw [v0V K.hR (by omega),hT];simp only [E0,D0G (F:=F) (n:=t) (x:=-2) (by omega) (by omega),Int.toNat_natCast];rw [if_pos (P0 (by omega) (by simp;omega))];rfl
theorem E0c (K:Q4 l n a b e z F) (C:U3 l n pl maps fB fD) {beg:Bool} (hbeg:(flag==0)=!beg):g02 F l (a8 flag pl maps fB fD) =
  some (L2 l a b pl maps beg,O1 (o4 pl beg) (R3 pl beg fB) (C4 pl beg fD)):=by
 have f1:=K.f1;have hm:=C.le;have hn:=K.T.n64;have hvl:=C.len;have hl:=K.hl;unfold g02;have:=V2 (step:=g0K F l (a8 flag pl maps fB fD)) (fun i=>((List.range i).map (fun (i:Nat)=>(⟨gt maps (i:Int),b (pl.getD i 0)⟩:O5)),(i:Int))) ((List.range pl.length).map (fun (i:Nat)=>(⟨gt maps (i:Int),b (pl.getD i 0)⟩:O5))) pl.length (fun i hi=>.inl ?_) ?_ pl.length 0 F (by omega) (by omega)
 ·have h2:iter (g0K F l (a8 flag pl maps fB fD)) F ([],0)=_:=this;rw [h2];simp only [E0,a8,hbeg];unfold L2 o4 R3 C4;cases beg with
  |false=>simp
  |
   true=>
   have ap1:I0 48 ((List.range pl.length).map (fun (i:Nat)=>(⟨gt maps (i:Int),b (pl.getD i 0)⟩:O5))) [(⟨N9 l,a⟩:O5)]=true:=by simp [I0];omega
   have hW:W ((l.length:Int)-1)=(l.length:Int)-1:=Z2 (by omega) (by omega);simp only [Bool.not_true,false_eq_true,if_false,s0Y K,E0,hW,K.TF.mA,ap1,if_true,D0m (show pl.length<=900 by omega) (show 2000<F by omega) C.rk]
 ·unfold g0K;have h1:(i:Int)<((O0 pl).length:Int):=by simp;omega
  have hp:=T6 C.pln hi;have hin:y0 maps (i:Int)=true:=P0 (by omega) (by omega);have hap:I0 48 ((List.range i).map (fun (i:Nat)=>(⟨gt maps (i:Int),b (pl.getD i 0)⟩:O5))) [(⟨gt maps (i:Int),b (pl.getD i 0)⟩:O5)]=true:=by simp [I0];omega
  simp only [a8,h1,decide_true,if_true,A6 hi,e7 hi,hin,K.TF.mB _ hp,E0,hap,range_succ,map_append,map_cons,map_nil,E2 (i:=i) (by omega)]
 ·unfold g0K;have h1:¬ ((pl.length:Int)<((O0 pl).length:Int)):=by simp
  simp only [a8,h1,decide_false,if_false,false_eq_true]
theorem C0o {Ws:List (List B0)} {all:List O5} (hl:all.length=Ws.length) (hg:∀ i:Nat,i<Ws.length->(gt all (i:Int)).ways=Ws.getD i []) (hW:∀ i,i<Ws.length->A8 n (Ws.getD i [])/\(Ws.getD i []).length<=500000) (hM:Ws.length<=1000) (hf:2000001<F) (r:Nat) :
  j0V F all (r:Int)=some (O0 (K3 Ws r Ws.length),I5 Ws r Ws.length):=by
 unfold j0V;have:=V2 (step:=h00 F all (r:Int)) (fun i=>(O0 (K3 Ws r i),I5 Ws r i,(i:Int))) (O0 (K3 Ws r Ws.length),I5 Ws r Ws.length) Ws.length (fun i hi=>.inl ?_) ?_ Ws.length 0 F (by omega) (by omega)
 ·have h2:iter (h00 F all (r:Int)) F ([],[],0)=_:=this;rw [h2];rfl
 ·have h1:(i:Int)<(all.length:Int):=by omega
  have hin:y0 all (i:Int)=true:=P0 (by omega) h1;obtain ⟨hWi,hlen⟩:=hW i hi;have hgi:=hg i hi;have hl1:=j0u Ws r i;have hl2:=j0s Ws r i;have inner:=V2 (step:=i0b F all (r:Int) (i:Int)) (fun j=>(O0 (K3 Ws r i++if (R6 ((Ws.getD i []).take j) r).isSome then [i] else []),I5 Ws r i++(if (R6 ((Ws.getD i []).take j) r).isSome then [a0J ((Ws.getD i []).take j) r] else []),(j:Int)))
   (O0 (K3 Ws r (i+1)),I5 Ws r (i+1)) (Ws.getD i []).length (fun j hj=>.inl ?_) ?_ (Ws.getD i []).length 0 F (by omega) (by omega)
  ·have h0:R6 ((Ws.getD i []).take 0) r=none:=rfl;have e0:iter (i0b F all (r:Int) (i:Int)) F (O0 (K3 Ws r i),I5 Ws r i,0)=some (O0 (K3 Ws r (i+1)),I5 Ws r (i+1)):=by
    rw [<-inner];simp only [h0,Option.isSome_none,false_eq_true,if_false,append_nil];rfl
   unfold h00;simp only [h1,decide_true,if_true,hin,e0,E0,E2 (i:=i) (by omega)]
  ·unfold i0b;have hj1:(j:Int)<(((Ws.getD i []).length:Nat):Int):=by omega
   have hinj:y0 (Ws.getD i []) (j:Int)=true:=P0 (by omega) hj1;simp only [hgi,hj1,decide_true,if_true,hinj]
   by_cases ht:(gt (Ws.getD i []) (j:Int)).To=(r:Int)
   ·obtain ⟨t1,t2⟩:=F0a hWi hj ht;have hb:((gt (Ws.getD i []) (j:Int)).To==(r:Int))=true:=beq_iff_eq.2 ht;have ap1:I0 8 (O0 (K3 Ws r i)) [(i:Int)]=true:=by simp [I0];omega
    have ap2:I0 40 (I5 Ws r i) [gt (Ws.getD i []) (j:Int)]=true:=by simp [I0];omega
    simp only [hb,if_true,t1,t2,Option.isSome_none,false_eq_true,if_false,append_nil,Option.isSome_some,ap1,ap2,E0,E2 (i:=j) (by omega),c0c];congr 4;unfold a0J;rw [t1];rfl
   ·have t1:=y0w hj ht;have hb:((gt (Ws.getD i []) (j:Int)).To==(r:Int))=false:=beq_eq_false_iff_ne.2 ht;simp only [hb,false_eq_true,if_false,t1,E0,E2 (i:=j) (by omega)];congr 4;unfold a0J;rw [t1]
  ·unfold i0b;have h3:¬ (((Ws.getD i []).length:Nat):Int)<(((Ws.getD i []).length:Nat):Int):=by omega
   simp only [hgi,h3,decide_false,if_false,false_eq_true];rw [take_length,p0s,r0p]
 ·unfold h00;have h1:¬ (Ws.length:Int)<(all.length:Int):=by omega
  simp only [h1,decide_false,if_false,false_eq_true]
set_option maxHeartbeats 2000000 in
theorem z0d (K:Q4 l n a b e z F) (C:U3 l n pl maps fB fD) (hw:∀ x∈l,C3 x) {b_:Int} (hb:C7 .u8 b_) (beg:Bool) {fl:Int} {rk:E1} {r:Nat} (hr:r<n) :
  f0J F l b_ (O1 (o4 pl beg) (R3 pl beg fB) (C4 pl beg fD)) (Q1 l l.length)
   (L2 l a b pl maps beg,O0 ((O4 (J3 l b_) (R0 a b pl beg) r).map (G2 a b pl fB fD beg)),(O4 (J3 l b_) (R0 a b pl beg) r).map (F4 a b pl fB fD beg),(r:Int),(fl,O0 (O4 (J3 l b_) (R0 a b pl beg) r),(O4 (J3 l b_) (R0 a b pl beg) r).map (stM l a b pl maps fB fD beg),rk)) =
  some (.next (L2 l a b pl maps beg,O0 ((O4 (J3 l b_) (R0 a b pl beg) (r+1)).map (G2 a b pl fB fD beg)),(O4 (J3 l b_) (R0 a b pl beg) (r+1)).map (F4 a b pl fB fD beg),((r+1:Nat):Int),(fl,O0 (O4 (J3 l b_) (R0 a b pl beg) (r+1)),(O4 (J3 l b_) (R0 a b pl beg) (r+1)).map (stM l a b pl maps fB fD beg),rk))):=by
 have f1:=K.f1;have hn:=K.T.n64;have hM:=l0t K C beg;have hWl:=a0B a b pl beg;obtain ⟨hc1,hc2⟩:=t0P K C beg r;have hch:=j0s (R0 a b pl beg) r (R0 a b pl beg).length;have hPl:=o0F (J3 l b_) (R0 a b pl beg) r;have ht:=l8 l;have hll:=S6 l l.length;have hKn:=K.hn;have hx:(r:Int)<((Q1 l l.length).length:Int):=by omega
 obtain ⟨q,q1,q2,q3⟩:=d0M l K.hn (x:=(r:Int)) (by omega) (by omega);obtain ⟨_,_,s3⟩:=setOf l K.hn hw hr;have hH:hasB (gt l (gt (Q1 l l.length) (r:Int))).Set b_=J3 l b_ r:=rfl;have hgr:=h07 C beg;have hcm:=C0o (F:=F) (n:=n) (Ws:=R0 a b pl beg) (all:=L2 l a b pl maps beg) (by rw [u0o,hWl]) (fun i hi=>by rw [u0d C (by rw [<-hWl];exact hi)]) (fun i hi=>⟨(h0U K C beg i hi).1,(h0U K C beg i hi).2.1⟩) (by omega) f1 r;unfold f0J;simp only [hx,decide_true,if_true,q3,P0 (l:=l) (i:=gt (Q1 l l.length) (r:Int)) (by omega) (by omega),(w0c F s3 hb).1,hH,E0,t0g,E2 (i:=r) (by omega),hcm];cases hP:J3 l b_ r with
 |false=>simp only [Bool.not_false,if_true,E0,Bool.false_and,false_eq_true,if_false,append_nil]
 |
  true=>
  simp only [Bool.not_true,false_eq_true,if_false,if_true,Bool.true_and];have hpk:=G0v (F:=F) (n:=o4 pl beg) (fB:=R3 pl beg fB) (fD:=C4 pl beg fD) (fr:=K3 (R0 a b pl beg) r (R0 a b pl beg).length) (hops:=I5 (R0 a b pl beg) r (R0 a b pl beg).length) (by omega) (by omega) hgr hch (by omega) hc2
  by_cases h0:K3 (R0 a b pl beg) r (R0 a b pl beg).length=[]
  ·have hpk2:h0Y F (O1 (o4 pl beg) (R3 pl beg fB) (C4 pl beg fD)) (O0 (K3 (R0 a b pl beg) r (R0 a b pl beg).length)) (I5 (R0 a b pl beg) r (R0 a b pl beg).length)=some (-1):=by
    rw [hpk,h0,v0C]
   simp only [hpk2,E0,show decide ((-1:Int)<0)=true from rfl,if_true];simp only [h0,List.isEmpty_nil,Bool.not_true,false_eq_true,if_false,append_nil]
  ·obtain ⟨k1,k2⟩:=j0w (fB:=R3 pl beg fB) (fD:=C4 pl beg fD) h0;have hne:(K3 (R0 a b pl beg) r (R0 a b pl beg).length).isEmpty=false:=by simpa using h0
   rw [k1] at hpk;have k3:¬ ((H9 (R3 pl beg fB) (C4 pl beg fD) (R0 a b pl beg) r:Nat):Int)<0:=by omega
   have hsl:G2 a b pl fB fD beg r<o4 pl beg:=by rw [<-hWl];exact c0m h0
   obtain ⟨v1,v2⟩:=l0u (v07 C beg) (v0o C beg) hsl;obtain ⟨p1,p2⟩:=t08 K C (b_:=b_) (beg:=beg) h0;have hsrc:(((K3 (R0 a b pl beg) r (R0 a b pl beg).length).getD (H9 (R3 pl beg fB) (C4 pl beg fD) (R0 a b pl beg) r) 0:Nat):Int)=(G2 a b pl fB fD beg r:Int):=rfl;have hgin:y0 (L2 l a b pl maps beg) (G2 a b pl fB fD beg r:Int)=true:=P0 (by omega) (by rw [u0o];omega);have hgat:(gt (L2 l a b pl maps beg) (G2 a b pl fB fD beg r:Int)).tags=gt (a0N l maps beg) (G2 a b pl fB fD beg r:Int):=by rw [u0d C hsl]
   have hhop:gt (I5 (R0 a b pl beg) r (R0 a b pl beg).length) ((H9 (R3 pl beg fB) (C4 pl beg fD) (R0 a b pl beg) r:Nat):Int)=F4 a b pl fB fD beg r:=u05 h0;have hrin:y0 (I5 (R0 a b pl beg) r (R0 a b pl beg).length) ((H9 (R3 pl beg fB) (C4 pl beg fD) (R0 a b pl beg) r:Nat):Int)=true:=P0 (by omega) (by omega);have ap1:I0 8 (O0 (O4 (J3 l b_) (R0 a b pl beg) r)) [(r:Int)]=true:=by simp [I0];omega
   have ap2:I0 24 ((O4 (J3 l b_) (R0 a b pl beg) r).map (stM l a b pl maps fB fD beg)) [stM l a b pl maps fB fD beg r]=true:=by simp [I0];omega
   have ap3:I0 8 (O0 ((O4 (J3 l b_) (R0 a b pl beg) r).map (G2 a b pl fB fD beg))) [(G2 a b pl fB fD beg r:Int)]=true:=by simp [I0];omega
   have ap5:I0 40 ((O4 (J3 l b_) (R0 a b pl beg) r).map (F4 a b pl fB fD beg)) [F4 a b pl fB fD beg r]=true:=by simp [I0];omega
   have hol:=d0w l (F4 a b pl fB fD beg r).Steps;have hof:=m0D K.hR p1 K.f1 (n3.sok p2);have hap:=m07 (F:=F) (marks:=j5 l (F4 a b pl fB fD beg r).Steps) (now:=-1) (none_:=-2) (show (gt (a0N l maps beg) (G2 a b pl fB fD beg r:Int)).length<=1000 by omega) (by omega);have hav:a6 (-1) (-2) (gt (a0N l maps beg) (G2 a b pl fB fD beg r:Int)) (j5 l (F4 a b pl fB fD beg r).Steps)=stM l a b pl maps fB fD beg r:=rfl;rw [hav] at hap;simp only [hpk,E0,k3,decide_false,false_eq_true,if_false,ap1,A6 k2,e7 k2,hsrc,hgin,hgat,hrin,hhop,hof,hap,ap2,ap3,ap5,if_true,hne,Bool.not_false,c0c,map_append,map_cons,map_nil]
theorem C0l (K:Q4 l n a b e z F) (C:U3 l n pl maps fB fD) (hw:∀ x∈l,C3 x) {b_:Int} (hb:C7 .u8 b_) (beg:Bool) (fl:Int) (rk:E1) :
  iter (f0J F l b_ (O1 (o4 pl beg) (R3 pl beg fB) (C4 pl beg fD)) (Q1 l l.length)) F (L2 l a b pl maps beg,[],[],0,(fl,[],[],rk)) =
   some (O0 ((R1 l n a b pl b_ beg).map (G2 a b pl fB fD beg)),(R1 l n a b pl b_ beg).map (F4 a b pl fB fD beg),(fl,O0 (R1 l n a b pl b_ beg),(R1 l n a b pl b_ beg).map (stM l a b pl maps fB fD beg),rk)):=by
 have f1:=K.f1;have hn:=K.T.n64;have hll:=S6 l l.length;have hKn:=K.hn;have:=V2 (step:=f0J F l b_ (O1 (o4 pl beg) (R3 pl beg fB) (C4 pl beg fD)) (Q1 l l.length))
  (fun r=>(L2 l a b pl maps beg,O0 ((O4 (J3 l b_) (R0 a b pl beg) r).map (G2 a b pl fB fD beg)),(O4 (J3 l b_) (R0 a b pl beg) r).map (F4 a b pl fB fD beg),(r:Int),(fl,O0 (O4 (J3 l b_) (R0 a b pl beg) r),(O4 (J3 l b_) (R0 a b pl beg) r).map (stM l a b pl maps fB fD beg),rk)))
  (O0 ((R1 l n a b pl b_ beg).map (G2 a b pl fB fD beg)),(R1 l n a b pl b_ beg).map (F4 a b pl fB fD beg),(fl,O0 (R1 l n a b pl b_ beg),(R1 l n a b pl b_ beg).map (stM l a b pl maps fB fD beg),rk)) n
  (fun r hr=>.inl (z0d K C hw hb beg hr)) ?_ n 0 F (by omega) (by omega)
 ·exact this
 ·unfold f0J;have h1:¬ ((n:Int)<((Q1 l l.length).length:Int)):=by omega
  simp only [h1,decide_false,if_false,false_eq_true];rfl
end
def i0g (fB fD:Nat->Nat->Int) (ah x:Nat):Bool:=x==ah||(decide (fB x ah>0)||decide (fD ah x<0))
def H8 (fB fD:Nat->Nat->Int) (ah k:Nat):List Nat:=(List.range k).filter (i0g fB fD ah)
theorem H0e (fB fD:Nat->Nat->Int) (ah k:Nat):H8 fB fD ah (k+1)=if i0g fB fD ah k=true then H8 fB fD ah k++[k] else H8 fB fD ah k:=by
 unfold H8;rw [range_succ,List.filter_append]
 by_cases h:i0g fB fD ah k=true
 ·rw [if_pos h];simp only [List.filter_cons,h,if_true,List.filter_nil]
 ·rw [if_neg h];simp only [List.filter_cons,h,if_false,List.filter_nil,append_nil,false_eq_true]
theorem r0u (fB fD:Nat->Nat->Int) (ah k:Nat):(H8 fB fD ah k).length<=k:=Nat.le_trans (List.length_filter_le _ _) (by simp)
theorem u0G {fB fD:Nat->Nat->Int} {ah k i:Nat} (h:i∈H8 fB fD ah k):i<k:=List.mem_range.1 (List.mem_filter.1 h).1
theorem q0A (fB fD:Nat->Nat->Int) (ah k:Nat):(H8 fB fD ah k).Pairwise fun a b=>a<b:=List.Pairwise.filter _ List.pairwise_lt_range
section
variable {F:Nat}
theorem q0S {x:List Int} {of:List Nat} (h:∀ i∈of,i<x.length) (hl:of.length<=1000) (hf:2000<F):g0k F x (O0 of)=some (of.map fun i:Nat=>gt x (i:Int)):=by
 unfold g0k;rw [z6];have:=V2 (step:=l0R F x (O0 of)) (fun i=>((of.take i).map fun i:Nat=>gt x (i:Int),(i:Int))) (of.map fun i:Nat=>gt x (i:Int)) of.length (fun i hi=>.inl ?_) ?_ of.length 0 F (by omega) (by omega)
 ·exact this
 ·unfold l0R;have h1:(i:Int)<((O0 of).length:Int):=by simp;omega
  have hx:=h of[i] (getElem_mem hi);have hap:I0 8 ((of.take i).map fun i:Nat=>gt x (i:Int)) [gt x ((of[i]:Nat):Int)]=true:=by simp [I0];omega
  simp only [h1,decide_true,if_true,A6 hi,f07 hi,P0 (l:=x) (i:=((of[i]:Nat):Int)) (by omega) (by omega),hap,g0W hi,map_append,map_cons,map_nil,E2 (i:=i) (by omega)]
 ·unfold l0R;have h1:¬ ((of.length:Int)<((O0 of).length:Int)):=by simp
  simp only [h1,decide_false,if_false,false_eq_true,take_length]
theorem x0d {x:List (List Int)} {of:List Nat} (h:∀ i∈of,i<x.length) (hl:of.length<=1000) (hf:2000<F):l0v F x (O0 of)=some (of.map fun i:Nat=>gt x (i:Int)):=by
 unfold l0v;rw [z6];have:=V2 (step:=j01 F x (O0 of)) (fun i=>((of.take i).map fun i:Nat=>gt x (i:Int),(i:Int))) (of.map fun i:Nat=>gt x (i:Int)) of.length (fun i hi=>.inl ?_) ?_ of.length 0 F (by omega) (by omega)
 ·exact this
 ·unfold j01;have h1:(i:Int)<((O0 of).length:Int):=by simp;omega
  have hx:=h of[i] (getElem_mem hi);have hap:I0 24 ((of.take i).map fun i:Nat=>gt x (i:Int)) [gt x ((of[i]:Nat):Int)]=true:=by simp [I0];omega
  simp only [h1,decide_true,if_true,A6 hi,f07 hi,P0 (l:=x) (i:=((of[i]:Nat):Int)) (by omega) (by omega),hap,g0W hi,map_append,map_cons,map_nil,E2 (i:=i) (by omega)]
 ·unfold j01;have h1:¬ ((of.length:Int)<((O0 of).length:Int)):=by simp
  simp only [h1,decide_false,if_false,false_eq_true,take_length]
theorem B0q {x:List (List Int)} {of:List Nat} (h:∀ i∈of,i<x.length) (hl:of.length<=1000) (ha:of.Pairwise fun a b=>a<b):g0l F x (O0 of)=some (of.map fun i:Nat=>gt x (i:Int)):=by
 unfold g0l;have h1:d0l (fun i=>i) (O0 of)=true:=by
  rw [f0B];unfold O0;rw [List.pairwise_map];exact ha.imp fun hab=>by omega
 have h2:(O0 of).all (fun i=>y0 x i)=true:=by
  rw [List.all_eq_true];intro i hi;obtain ⟨k,hk,rfl⟩:=List.mem_map.1 hi;exact P0 (by omega) (by have:=h k hk;omega)
 have h3:((O0 of).map fun i=>gt x i)=of.map fun i:Nat=>gt x (i:Int):=by simp [O0]
 have h4:I0 24 ([]:List (List Int)) (of.map fun i:Nat=>gt x (i:Int))=true:=by simp [I0];omega
 simp only [h1,h2,h3,h4,Bool.and_self,if_true]
theorem z0b {m:Nat} {st:List Nat} (h:∀ i∈st,i<m) (hl:st.length<=1000) (hf:2000<F) (g:Nat->Int):g0k F (E3 m g) (O0 st)=some (E3 st.length fun k=>g (st.getD k 0)):=by
 rw [q0S (by simpa using h) hl hf];congr 1;refine List.ext_getElem (by simp) fun j h1 h2=>?_;simp only [length_map] at h1;have hj:=h st[j] (getElem_mem h1);simp only [List.getElem_map,j8 g hj];simp [E3,List.getD,h1]
theorem E0F {m:Nat} {st:List Nat} (h:∀ i∈st,i<m) (hl:st.length<=1000) (hf:2000<F) (f:Nat->Nat->Int):i0P F (Q0 m m f) (O0 st)=some (Q0 st.length st.length (fun i k=>f (st.getD i 0) (st.getD k 0))):=by
 unfold i0P;rw [x0d (by simpa using h) hl hf];simp only [E0,z6];have hg:∀ i,i<st.length->gt (st.map fun i:Nat=>gt (Q0 m m f) (i:Int)) (i:Int)=E3 m (f (st.getD i 0)):=fun i hi=>by
  have hj:=h st[i] (getElem_mem hi);rw [I3 (x:=gt (Q0 m m f) ((st[i]:Nat):Int)) (by simp [hi]),F5 f hj];simp [List.getD,hi]
 have:=V2 (step:=j0X F (O0 st) (st.map fun i:Nat=>gt (Q0 m m f) (i:Int))) (fun i=>((List.range i).map (fun i=>E3 st.length fun k=>f (st.getD i 0) (st.getD k 0)),(i:Int))) (Q0 st.length st.length (fun i k=>f (st.getD i 0) (st.getD k 0))) st.length (fun i hi=>.inl ?_) ?_ st.length 0 F (by omega) (by omega)
 ·exact this
 ·unfold j0X;have h1:(i:Int)<((st.map fun i:Nat=>gt (Q0 m m f) (i:Int)).length:Int):=by simp;omega
  have hin:y0 (st.map fun i:Nat=>gt (Q0 m m f) (i:Int)) (i:Int)=true:=P0 (by omega) h1;have hap:I0 24 ((List.range i).map (fun i=>E3 st.length fun k=>f (st.getD i 0) (st.getD k 0))) [E3 st.length fun k=>f (st.getD i 0) (st.getD k 0)]=true:=by simp [I0];omega
  simp only [h1,decide_true,if_true,hin,hg i hi,z0b h hl hf,E0,hap,range_succ,map_append,map_cons,map_nil,E2 (i:=i) (by omega)]
 ·unfold j0X;have h1:¬ ((st.length:Int)<((st.map fun i:Nat=>gt (Q0 m m f) (i:Int)).length:Int)):=by simp
  simp only [h1,decide_false,if_false,false_eq_true];rfl
end
section
variable {F:Nat} {l:List D0} {n:Nat} {a:List B0} {b:Nat->List B0} {e:Nat->B0×Bool} {z:B0×Bool} {pl:List Nat} {maps:List (List Int)} {fB fD:Nat->Nat->Int} {flag:Int}
theorem v0O (K:Q4 l n a b e z F) (C:U3 l n pl maps fB fD):f0m F l (a8 flag pl maps fB fD)=some (R5 fD (l5 e pl pl.length)):=by
 have f1:=K.f1;have hm:=C.le;have hn:=K.T.n64;unfold f0m;have:=V2 (step:=i0o F l (a8 flag pl maps fB fD)) (fun i=>(O0 (l5 e pl i),(i:Int))) (O0 (l5 e pl pl.length)) pl.length (fun i hi=>.inl ?_) ?_ pl.length 0 F (by omega) (by omega)
 ·have h2:iter (i0o F l (a8 flag pl maps fB fD)) F ([],0)=_:=this;rw [h2];simp only [E0,a8];rw [A02 (by omega) (by omega) C.rk _ (by have:=l0w e pl pl.length;omega) (fun i h=>c0P h)];rfl
 ·unfold i0o;have h1:(i:Int)<((O0 pl).length:Int):=by simp;omega
  have hp:=T6 C.pln hi;have hap:I0 8 (O0 (l5 e pl i)) [(i:Int)]=true:=by have:=l0w e pl i;simp [I0];omega
  simp only [a8,h1,decide_true,if_true,A6 hi,e7 hi,K.TF.mE _ hp,E0,hap,E2 (i:=i) (by omega),s09]
  by_cases h2:(e (pl.getD i 0)).2=true
  ·simp only [h2,if_true,E0,c0c]
  ·have h2:(e (pl.getD i 0)).2=false:=by simpa using h2
   simp only [h2,false_eq_true,if_false,E0]
 ·unfold i0o;have h1:¬ ((pl.length:Int)<((O0 pl).length:Int)):=by simp
  simp only [a8,h1,decide_false,if_false,false_eq_true]
structure Kd where
 flag:Int
 pl:List Nat
 maps:List (List Int)
 fB:Nat->Nat->Int
 fD:Nat->Nat->Int
def Kd.K (k:Kd):N4:=a8 k.flag k.pl k.maps k.fB k.fD
def Kd.T (k:Kd):Int×List Int×List (List Int)×E1:=(k.flag,O0 k.pl,k.maps,O1 k.pl.length k.fB k.fD)
def Kd.of (k:Kd) (fl:Int) (st:List Nat):Kd:=⟨fl,st.map fun i=>k.pl.getD i 0,st.map fun i:Nat=>gt k.maps (i:Int),fun i j=>k.fB (st.getD i 0) (st.getD j 0),fun i j=>k.fD (st.getD i 0) (st.getD j 0)⟩
def Kd.cut (e:Nat->B0×Bool) (k:Kd):Kd:=
 if R5 k.fD (l5 e k.pl k.pl.length)<0 then k else k.of 0 (H8 k.fB k.fD (R5 k.fD (l5 e k.pl k.pl.length)).toNat k.pl.length)
theorem I0k (K:Q4 l n a b e z F) {k:Kd} (C:U3 l n k.pl k.maps k.fB k.fD):k0T F l k.T=some (k.cut e).T:=by
 have f1:=K.f1;have hm:=C.le;have hn:=K.T.n64;unfold k0T Kd.T;have hah:=v0O (flag:=k.flag) K C;unfold a8 at hah;simp only [hah,E0];unfold Kd.cut;rcases d0g (fD:=k.fD) (l5 e k.pl k.pl.length) (n:=k.pl.length) (fun i h=>c0P h) with hb | ⟨q,hb,hq⟩
 ·rw [hb];rfl
 ·have hk0:¬ ((q:Int)<0):=by omega
  rw [hb];simp only [hk0,decide_false,false_eq_true,if_false,Int.toNat_natCast];have hlt:∀ i∈H8 k.fB k.fD q k.pl.length,i<k.pl.length:=fun i h=>u0G h;have hsl:(H8 k.fB k.fD q k.pl.length).length<=1000:=by have:=r0u k.fB k.fD q k.pl.length;omega
  have hasc:=q0A k.fB k.fD q k.pl.length;have hstay:iter (g0U F (O0 k.pl) (O1 k.pl.length k.fB k.fD) (q:Int)) F ([],0)=some (O0 (H8 k.fB k.fD q k.pl.length)):=by
   have:=V2 (step:=g0U F (O0 k.pl) (O1 k.pl.length k.fB k.fD) (q:Int)) (fun i=>(O0 (H8 k.fB k.fD q i),(i:Int))) (O0 (H8 k.fB k.fD q k.pl.length)) k.pl.length (fun i hi=>.inl ?_) ?_ k.pl.length 0 F (by omega) (by omega)
   ·exact this
   ·unfold g0U;have h1:(i:Int)<((O0 k.pl).length:Int):=by simp;omega
    have hap:I0 8 (O0 (H8 k.fB k.fD q i)) [(i:Int)]=true:=by have:=r0u k.fB k.fD q i;simp [I0];omega
    have heq:((i:Int)==(q:Int))=(i==q):=by rw [Bool.eq_iff_iff];simp only [beq_iff_eq];omega
    simp only [h1,decide_true,if_true,O1,P5 _ hi,P5 _ hq,F5 _ hi,F5 _ hq,l6 _ hi,l6 _ hq,j8 _ hi,j8 _ hq,heq,hap,H0e,E2 (i:=i) (by omega)];unfold i0g;cases c1:i==q
    ·cases c2:decide (k.fB i q>0)
     ·cases c3:decide (k.fD q i<0)
      ·simp only [false_eq_true,if_false,E0,Bool.or_self]
      ·simp only [false_eq_true,if_false,if_true,E0,Bool.or_true,c0c]
     ·simp only [false_eq_true,if_false,if_true,E0,Bool.true_or,Bool.or_true,c0c]
    ·simp only [if_true,E0,Bool.true_or,c0c]
   ·unfold g0U;have h1:¬ ((k.pl.length:Int)<((O0 k.pl).length:Int)):=by simp
    simp only [h1,decide_false,if_false,false_eq_true]
  rw [hstay];generalize H8 k.fB k.fD q k.pl.length=st at *;simp only [E0,q0S (x:=O0 k.pl) (of:=st) (F:=F) (by simpa using hlt) hsl (by omega),B0q (F:=F) (x:=k.maps) (of:=st) (by rw [C.len];exact hlt) hsl hasc,O1,E0F hlt hsl (show 2000<F by omega)];unfold Kd.of;have he:(st.map fun i:Nat=>gt (O0 k.pl) (i:Int))=O0 (st.map fun i=>k.pl.getD i 0):=by
   refine List.ext_getElem (by simp) fun j h1 h2=>?_;simp only [length_map] at h1;have:=e7 (hlt st[j] (getElem_mem h1));simp only [O0,List.getElem_map] at this ⊢;exact this
  simp only [length_map,he]
theorem c0S {k:Kd} (C:U3 l n k.pl k.maps k.fB k.fD):U3 l n (k.cut e).pl (k.cut e).maps (k.cut e).fB (k.cut e).fD:=by
 unfold Kd.cut;split
 ·exact C
 ·exact u0t C (q0A _ _ _ _) (fun i h=>u0G h)
end
