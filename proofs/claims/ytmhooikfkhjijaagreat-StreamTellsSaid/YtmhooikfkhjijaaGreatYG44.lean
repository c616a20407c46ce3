/- P. Its conditions: none. -/
import Derived.Test.YtmhooikfkhjijaaGreatYG43
import Derived.Test.YtmhooikfkhjijaaGreatYBr2
open List (append_nil map_append length_map take_succ mem_of_getElem? take_length map_cons map_nil flatMap_cons flatMap_nil)
open Bool (false_eq_true)
set_option linter.all false
namespace Go.Proofs.YtmhooikfkhjijaaGreat.Old
open Go.V Go.RowKit
def N0v {s:List Int}(h:s.length<=500000):(C03 s).1.Steps.length<=500000:=by
 unfold C03;split<;>simp[h]
def Tm.J08 (s:Tm):∀(lo p:Nat) (ahead:List Int),(∀h∈s.b0r lo p ahead,(p:Int)<=h.To/\h.To<((p+s.leaves:Nat):Int))/\(s.b0r lo p ahead).Pairwise fun a b=>a.To<b.To:=by
 induction s with
 |eps=>intro lo p ahead;simp[Tm.b0r]
 |leaf s=>intro lo p ahead;simp[Tm.b0r,Tm.leaves];omega
 |
  cat a b iha ihb=>
  intro lo p ahead;simp only[Tm.b0r,Tm.leaves];obtain⟨h1,h2⟩:=iha lo p (ahead++[n3 (Tm.top (.cat a b) lo)]);split
  ·refine⟨fun h hh=>?_,List.pairwise_append.2 ⟨h2,(ihb _ _ _).2,fun x hx y hy=>?_⟩⟩
   ·rcases List.mem_append.1 hh with hh|hh
    ·have:=h1 h hh;omega
    ·have:=(ihb _ _ _).1 h hh;omega
   ·have:=h1 x hx;have:=(ihb _ _ _).1 y hy;omega
  ·simp only[append_nil];exact⟨fun h hh=>by have:=h1 h hh;omega,h2⟩
 |
  alt a b iha ihb=>
  intro lo p ahead;simp only[Tm.b0r,Tm.leaves];obtain⟨h1,h2⟩:=iha lo p (ahead++[n3 (Tm.top (.alt a b) lo)]);obtain⟨h3,h4⟩:=ihb (lo+a.size) (p+a.leaves) (ahead++[n3 (Tm.top (.alt a b) lo)]);refine⟨fun h hh=>?_,List.pairwise_append.2 ⟨h2,h4,fun x hx y hy=>?_⟩⟩
  ·rcases List.mem_append.1 hh with hh|hh
   ·have:=h1 h hh;omega
   ·have:=h3 h hh;omega
  ·have:=h1 x hx;have:=h3 y hy;omega
 |
  star a iha|maybe a iha|group _ a iha|iter a iha=>
  intro lo p ahead;simp only[Tm.b0r,Tm.leaves];exact iha lo p _
def U0g {l:List U0}{t:Tm}(ht:n4 l t):c0s t.leaves (t.b0r 0 0 []):=by
 have h400:=ht.le;have hln:=ht.len;exact⟨fun h hh=>⟨(by have:=(t.J08 0 0 []).1 h hh;omega),(by have:=(t.J08 0 0 []).1 h hh;omega),(t.J0e 0 0 [] (by omega) (by simp;omega) h hh).2.2⟩,(t.J08 0 0 []).2.imp fun h=>by omega⟩
def R0l {n:Nat}{out:List E1}(h:c0s n out):c0s n (K5 E1.To out):=by
 refine⟨fun x hx=>h.ok x ((e0x E1.To _).mem_iff.1 hx),?_⟩;have hp:=e0x E1.To out;exact hp.symm.pairwise_iff (R:=fun a b:E1=>a.To≠b.To) (fun h=>h.symm) |>.1 h.dist
structure G0z (l:List U0)(n:Nat)(a:List E1)(b:Nat->List E1)(e:Nat->E1×Bool)(z:E1×Bool):Prop where
 n64:n<=400
 aw:c0s n a
 bw:∀p,p<n->c0s n (b p)
 el:∀p,p<n->(e p).1.Steps.length<=500000
 zl:z.1.Steps.length<=500000
 e0:∀p,p<n->(e p).2=decide ((e p).1.Steps≠[])
 z0:z.2=decide (z.1.Steps≠[])
 ab:C04 800 a
 bb:∀p,p<n->C04 800 (b p)
 eb:∀p,p<n->l4 800 (e p).1.Steps
 zb:l4 800 z.1.Steps
 al:a.length<=500000
 aT:D0p a
 bT:∀p,p<n->D0p (b p)
 bl:∀p,p<n->(b p).length<=500000
def M0Q {B:Int}{s:List Int}(h:l4 B s):l4 B (C03 s).1.Steps:=by
 unfold C03;split
 ·exact l4.nil
 ·exact h
def O0h {l:List U0}{t:Tm}(ht:n4 l t){p q:Nat}{S:List Int}{fs:List Fr}(hp:D0Q l t p q S fs):C04 800 (B05 t p q S fs).1/\l4 800 (B05 t p q S fs).2.1:=by
 have h400:=ht.le;have hlo:=Ctx.lo_le hp.ctx;simp only[Tm.size]at hlo;exact I0P (by omega) fs q p _ _ _ hp.ctx (l4.cls (by omega)) (fun _ h=>by cases h)
end Go.Proofs.YtmhooikfkhjijaaGreat.Old
namespace Go.Proofs.YtmhooikfkhjijaaGreat
open Go.V Go.RowKit Old
def M0u (s:List Int):(C03 s).2=decide ((C03 s).1.Steps≠[]):=by
 unfold C03;split
 ·simp
 ·rename_i h;simp;intro e;exact h (by simp[e])
structure H0G (l:List U0)(n:Nat)(a:List E1)(b:Nat->List E1)(e:Nat->E1×Bool)(z:E1×Bool)(F:Nat):Prop where
 mR:R7 F l=some true
 rR:C0n F l=some true
 mL:a0I F l=some (e0L l l.length)
 rL:C0z F l=some (e0L l l.length)
 mA:o0v F l ((l.length:Int)-1)=some a
 rA:D0V F l ((l.length:Int)-1)=some a
 mZ:g0v F l (-1)=some z
 rZ:D0c F l (-1)=some z
 mB:∀p:Nat,p<n->o04 F l (p:Int)=some (b p)
 rB:∀p:Nat,p<n->D0N F l (p:Int)=some (b p)
 mE:∀p:Nat,p<n->g0v F l (p:Int)=some (e p)
 rE:∀p:Nat,p<n->D0c F l (p:Int)=some (e p)
def C0p {α:Type}{o n:Option α}(h:Ref o n Eq){x:α}(e:o=some x):n=some x:=by
 obtain⟨y,h1,h2⟩:=h.run x e;rw[h1,h2]
def L0Z {l:List U0}(hw:∀x∈l,l02 x)(hl:l.length*64<=140737488351232)(hR:e0M l=true):∃a b e z,G0z l (u5 l l.length) a b e z/\∀F,1000001<F->l.length+1<F->H0G l (u5 l l.length) a b e z F:=by
 obtain⟨t,ht⟩:=D0C hw hR;have h400:=ht.le;have hln:=ht.len;have hn:t.leaves=u5 l l.length:=by
  have h:=D0o ht.at0;rw[Nat.zero_add,<-hln]at h;rw[h];simp[u5]
 have hP:∀p:Nat,∃x:List E1×(E1×Bool),p<u5 l l.length->(c0s (u5 l l.length) x.1/\x.2.1.Steps.length<=500000/\x.2.2=decide (x.2.1.Steps≠[])/\C04 800 x.1/\l4 800 x.2.1.Steps/\x.1.length<=500000/\D0p x.1/\
   ∀F,1000001<F->l.length+1<F->o04 F l (p:Int)=some x.1/\D0N F l (p:Int)=some x.1/\g0v F l (p:Int)=some x.2/\D0c F l (p:Int)=some x.2):=by
  intro p
  by_cases hp:p<u5 l l.length
  ·obtain⟨q',S,fs,hpl⟩:=W0T ht hp;obtain⟨hways,hlen⟩:=L0I ht hpl;refine⟨(K5 E1.To (B05 t p q' S fs).1,C03 (if(B05 t p q' S fs).2.2 then(B05 t p q' S fs).2.1 else[])),fun _=>⟨?_,?_,M0u _,fun h hh=>(O0h ht hpl).1 h ((e0x E1.To _).mem_iff.1 hh),M0Q ?_,by rw[g0F];exact K0E ht hpl,fun h hh=>I0A h400 fs _ _ _ _ _ hpl.ctx (fun _ h=>by cases h) h ((e0x E1.To _).mem_iff.1 hh),fun F hF hF2=>⟨?_,?_,?_,?_⟩⟩⟩
   ·rw[<-hn];exact R0l hways
   ·refine N0v ?_;split
    ·exact hlen
    ·simp
   ·split
    ·exact(O0h ht hpl).2
    ·exact l4.nil
   ·exact C0p U0E (Old.T0Y hw ht hR hF hpl hp)
   ·exact C0p P0n (Old.T0H hw ht hR hF hpl hp)
   ·exact C0p N00 (Old.V0r hw ht hR hF hpl hp)
   ·exact C0p N0E (Old.S0O hw ht hR hF hpl hp)
  ·exact⟨([],(⟨0,0,[]⟩,false)),fun h=>absurd h hp⟩
 have hst:=t.C0W 0;refine⟨t.b0r 0 0 [],fun p=>(Classical.choose (hP p)).1,fun p=>(Classical.choose (hP p)).2,C03 (if t.can then t.steps 0 else[]),⟨?_,?_,?_,?_,?_,?_,?_,?_,?_,?_,?_,?_,?_,?_,?_⟩,fun F hF hF2=>?_⟩
 ·have:=D06 l l.length;omega
 ·rw[<-hn];exact U0g ht
 ·intro p hp;exact(Classical.choose_spec (hP p) hp).1
 ·intro p hp;exact(Classical.choose_spec (hP p) hp).2.1
 ·refine N0v ?_;split
  ·omega
  ·simp
 ·intro p hp;exact(Classical.choose_spec (hP p) hp).2.2.1
 ·exact M0u _
 ·exact t.L02 0 0 [] 800 (by omega) l4.nil
 ·intro p hp;exact(Classical.choose_spec (hP p) hp).2.2.2.1
 ·intro p hp;exact(Classical.choose_spec (hP p) hp).2.2.2.2.1
 ·refine M0Q ?_;split
  ·exact t.M0q 0 800 (by omega)
  ·exact l4.nil
 ·have:=t.D0l 0 0 [];have:=t.D0m;omega
 ·exact t.W0y 0 0 []
 ·intro p hp;exact(Classical.choose_spec (hP p) hp).2.2.2.2.2.2.1
 ·intro p hp;exact(Classical.choose_spec (hP p) hp).2.2.2.2.2.1
 ·have hLF:C0J l=e0L l l.length:=by simp[C0J,hR]
  obtain⟨h1,h2⟩:=Old.P0P hw ht hR hF;obtain⟨h3,h4⟩:=Old.X0f hw ht hR hF ht.at0;have htop:((t.top 0:Nat):Int)=(l.length:Int)-1:=by have:=t.size_pos;unfold Tm.top;omega
  rw[htop]at h3 h4;exact⟨C0p H0Q (by rw[Old.E0b l (by omega),hR]),C0p F0s (by rw[Old.D0v l hl hF2,hR]),C0p K0k (by rw[Old.I0x hw (by omega),hLF]),C0p L07 (by rw[Old.F0v hw hl (by omega) hF2,hLF]),
   C0p T06 h3,C0p S00 h4,C0p N00 h1,C0p N0E h2,
   fun p hp=>((Classical.choose_spec (hP p) hp).2.2.2.2.2.2.2 F hF hF2).1,fun p hp=>((Classical.choose_spec (hP p) hp).2.2.2.2.2.2.2 F hF hF2).2.1,fun p hp=>((Classical.choose_spec (hP p) hp).2.2.2.2.2.2.2 F hF hF2).2.2.1,fun p hp=>((Classical.choose_spec (hP p) hp).2.2.2.2.2.2.2 F hF hF2).2.2.2⟩
end Go.Proofs.YtmhooikfkhjijaaGreat
namespace Go.Proofs.YtmhooikfkhjijaaGreat
open Go.V Go.RowKit Old
def C0F (Y2:List U0)(n:Nat):Bool:=Y2.any fun x=>x.Kind==7&&x.N==(n:Int)
def D0e (Y2:List U0)(k:Nat):List Int:=((List.range k).filter (C0F Y2)).map fun n:Nat=>(n:Int)
def M0x (Y2:List U0):D0e Y2 0=[]:=rfl
def B01 {α:Type}[Inhabited α]{l:List α}{i:Nat}(h:i<l.length):l[i]?=some (gt l (i:Int)):=by
 have:=n0q (B4 (l:=l) (i:=(i:Int)) (by omega) (by omega));simpa using this
def E0U (Y2:List U0):List Int:=D0e Y2 10
def Gok (Y2:List U0):Prop:=∀x∈Y2,x.Kind=7->1<=x.N/\x.N<=9
def K0L (Y2:List U0)(k:Nat):D0e Y2 (k+1)=if C0F Y2 k then D0e Y2 k++[(k:Int)]else D0e Y2 k:=by
 unfold D0e;rw[List.range_succ,List.filter_append,map_append];cases h:C0F Y2 k<;>simp[h]
def K0m (Y2:List U0)(k:Nat):(D0e Y2 k).length<=k:=by
 unfold D0e;rw[length_map];exact Nat.le_trans (List.length_filter_le _ _) (by simp)
def X0N {Y2:List U0}(h:Gok Y2):C0F Y2 0=false:=by
 unfold C0F;rw[List.any_eq_false];intro x hx;simp;intro h7 h0;have:=(h x hx h7).1;omega
def flags (Y2:List U0):List Bool:=(List.range 10).map (C0F Y2)
def P0u (Y2:List U0){n:Nat}(h:n<10):gt (flags Y2) (n:Int)=C0F Y2 n:=by
 refine Y5 ?_;simp[flags,h]
def V0K {Y2:List U0}{i:Nat}(hi:i<Y2.length)(hk:Gok Y2):flags (Y2.take (i+1))=if(gt Y2 (i:Int)).Kind==7 then(flags (Y2.take i)).set (gt Y2 (i:Int)).N.toNat true else flags (Y2.take i):=by
 have hx:Y2[i]?=some (gt Y2 (i:Int)):=B01 hi;have ht:Y2.take (i+1)=Y2.take i++[gt Y2 (i:Int)]:=by rw[take_succ,hx];rfl
 have hm:=hk _ (mem_of_getElem? hx);generalize gt Y2 (i:Int)=x at *;cases h7:x.Kind==7
 ·simp only[if_false,false_eq_true];unfold flags;refine List.map_congr_left fun n _=>?_;simp[C0F,ht,h7]
 ·simp only[if_true];have hm:=hm (by simpa using h7);refine List.ext_getElem (by simp[flags]) fun n h1 h2=>?_;simp only[flags,length_map,List.length_range]at h1;rw[List.getElem_set];simp only[flags,List.getElem_map,List.getElem_range];rw[show C0F (Y2.take (i+1)) n=(C0F (Y2.take i) n||(x.N==(n:Int)))from by simp[C0F,ht,h7]];split
  ·rename_i e;have:x.N=(n:Int):=by omega
   simp[this]
  ·rename_i e;have:(x.N==(n:Int))=false:=by simp;omega
   simp[this]
section
variable {F:Nat}
def P0O {l:List U0}{q:Int}{low:List Int}{Y2:List U0}(hs:L1 l (gt low q) (W (q+1))=Y2)(hk:Gok Y2)(hl:Y2.length<=400)(hF:401<F):
  iter (p09 F l q low (Y2.length:Int)) F (0,[false,false,false,false,false,false,false,false,false,false])=some (flags Y2):=by
 have h0:flags (Y2.take 0)=[false,false,false,false,false,false,false,false,false,false]:=by simp[flags,C0F];decide
 rw[<-h0];have:=j0K (step:=p09 F l q low (Y2.length:Int)) (fun i=>((i:Int),flags (Y2.take i))) (flags Y2) Y2.length (fun i hi=>.inl ?_) ?_ Y2.length 0 F (by omega) (by omega)
 ·exact this
 ·unfold p09;have h1:(i:Int)<(Y2.length:Int):=by omega
  have hin:y0 Y2 (i:Int)=true:=B4 (by omega) (by omega);have hm:=hk _ (mem_of_getElem? (n0q hin));have hW:W ((i:Int)+1)=((i+1:Nat):Int):=by rw[c0R (by omega) (by omega)];omega
  simp only[hs,h1,decide_true,if_true,hin,hW];rw[V0K hi hk];cases h7:(gt Y2 (i:Int)).Kind==7
  ·simp only[q0]
  ·have hm:=hm (by simpa using h7);have h2:(decide (0<=(gt Y2 (i:Int)).N)&&decide ((gt Y2 (i:Int)).N<10))=true:=by simp;omega
   simp only[if_true,h2,F1]
 ·unfold p09;have h1:¬((Y2.length:Int)<(Y2.length:Int)):=by omega
  simp only[q0,h1,take_length]
def V0e {Y2:List U0}(hF:401<F):iter (x0Q F (flags Y2)) F ([],0)=some (E0U Y2):=by
 have:=j0K (step:=x0Q F (flags Y2)) (fun i=>(D0e Y2 i,(i:Int))) (E0U Y2) 10 (fun i hi=>.inl ?_) ?_ 10 0 F (by omega) (by omega)
 ·rw[M0x]at this;exact this
 ·unfold x0Q;have h1:(i:Int)<10:=by omega
  have h2:(0:Int)<=(i:Int):=by omega
  have hW:W ((i:Int)+1)=((i+1:Nat):Int):=by rw[c0R (by omega) (by omega)];omega
  have hap:C1 8 (D0e Y2 i) [(i:Int)]=true:=by have:=K0m Y2 i;simp[C1];omega
  simp only[h1,h2,decide_true,if_true,Bool.and_self,P0u Y2 hi,hW,hap];rw[K0L];cases C0F Y2 i<;>simp only[q0]
 ·unfold x0Q;simp[E0U]
def R07 {l:List U0}{q lo:Nat}(hq:q<l.length)(hl:l.length<=400)(hlo:lo<=q)(n:Nat)(hF:401<F):
  iter (H0k F l (q:Int) (n:Int)) F (false,(lo:Int))=some (C0F (L1 l (lo:Int) ((q+1:Nat):Int)) n):=by
 have hcut:L1 l (lo:Int) ((q+1:Nat):Int)=(l.drop lo).take (q+1-lo):=by unfold L1;congr 1;omega
 have:=j0K (step:=H0k F l (q:Int) (n:Int)) (fun i=>(C0F ((l.drop lo).take i) n,((lo+i:Nat):Int))) (C0F (L1 l (lo:Int) ((q+1:Nat):Int)) n) (q+1-lo) (fun i hi=>.inl ?_) ?_ (q+1-lo) 0 F (by omega) (by omega)
 ·exact this
 ·unfold H0k;have h1:((lo+i:Nat):Int)<=(q:Int):=by omega
  have hin:y0 l ((lo+i:Nat):Int)=true:=B4 (by omega) (by omega);have hx:(l.drop lo)[i]?=some (gt l ((lo+i:Nat):Int)):=by rw[List.getElem?_drop];exact B01 (by omega)
  have ht:(l.drop lo).take (i+1)=(l.drop lo).take i++[gt l ((lo+i:Nat):Int)]:=by rw[take_succ,hx];rfl
  have hW:W (((lo+i:Nat):Int)+1)=((lo+(i+1):Nat):Int):=by rw[c0R (by omega) (by omega)];omega
  have hg:C0F ((l.drop lo).take (i+1)) n=(C0F ((l.drop lo).take i) n||((gt l ((lo+i:Nat):Int)).Kind==7&&(gt l ((lo+i:Nat):Int)).N==(n:Int))):=by simp[C0F,ht]
  rw[hg];simp only[h1,decide_true,if_true,hin,hW,C0k];cases C0F ((l.drop lo).take i) n<;>cases(gt l ((lo+i:Nat):Int)).Kind==7<;>simp[F1]
 ·unfold H0k;have h1:¬(((lo+(q+1-lo):Nat):Int)<=(q:Int)):=by omega
  simp only[q0,h1,hcut]
def V07 {l:List U0}{q lo:Nat}{low:List Int}(hq:q<l.length)(hl:l.length<=400)(hlo:lo<=q)(hin:y0 low (q:Int)=true)(hg:gt low (q:Int)=(lo:Int))(hk:Gok (L1 l (lo:Int) ((q+1:Nat):Int)))(hF:401<F):
  iter (G0Z F l (q:Int) low) F ([],1)=some (E0U (L1 l (lo:Int) ((q+1:Nat):Int))):=by
 generalize hseg:L1 l (lo:Int) ((q+1:Nat):Int)=Y2 at *;have h0:D0e Y2 1=[]:=by rw[K0L,X0N hk,M0x];simp
 rw[<-h0];have:=j0K (step:=G0Z F l (q:Int) low) (fun i=>(D0e Y2 (i+1),((i+1:Nat):Int))) (E0U Y2) 9 (fun i hi=>.inl ?_) ?_ 9 0 F (by omega) (by omega)
 ·exact this
 ·unfold G0Z;have h1:((i+1:Nat):Int)<=9:=by omega
  have hW:W (((i+1:Nat):Int)+1)=((i+1+1:Nat):Int):=by rw[c0R (by omega) (by omega)];omega
  have hap:C1 8 (D0e Y2 (i+1)) [((i+1:Nat):Int)]=true:=by have:=K0m Y2 (i+1);simp[C1];omega
  have hi:=R07 (F:=F) hq hl hlo (i+1) hF;rw[hseg]at hi;simp only[q0,h1,hin,hg,hi,hW,hap];rw[K0L Y2 (i+1)];cases C0F Y2 (i+1)<;>simp only[q0]
 ·unfold G0Z;simp[E0U]
def S0M {l:List U0}:∀{i:Nat} {a:List Int},B0Q l i=some a->∀j:Nat,j<i->D0f (gt l (j:Int))=true:=by
 intro i
 induction i with
 |zero=>intro a _ j hj;omega
 |
  succ i ih=>
  intro a h j hj;unfold B0Q at h;cases e:B0Q l i with
  |none=>rw[e]at h;cases h
  |
   some b=>
   rw[e]at h;dsimp only at h;split at h
   ·rename_i hg;rcases Nat.lt_or_ge j i with h1|h1
    ·exact ih e j h1
    ·obtain rfl:j=i:=by omega
     simp only[C0E,Bool.and_eq_true]at hg;exact hg.1.2
   ·cases h
structure M0W (l:List U0):Prop where
 ne:A0i l≠[]
 len:(A0i l).length=l.length
 rng:∀j:Nat,j<l.length->0<=gt (A0i l) (j:Int)/\gt (A0i l) (j:Int)<=j
 grp:∀x∈l,x.Kind=7->1<=x.N/\x.N<=9
 pos:0<l.length
 le:l.length<=400
def D0A {l:List U0}(hR:e0M l=true):M0W l:=by
 have hne:A0i l≠[]:=by intro e;simp[e0M,e]at hR
 have h:=hne;unfold A0i at h;cases e:B0Q l l.length with
 |none=>rw[e]at h;exact absurd rfl h
 |
  some a=>
  have hok:=E0m e;rw[e]at h;dsimp only at h;split at h
  ·exact absurd rfl h
  ·rename_i hn;have hL:A0i l=a:=by unfold A0i;rw[e];dsimp only;rw[if_neg hn]
   refine⟨hne,by rw[hL];exact hok.len,fun j hj=>by rw[hL];exact hok.rng j hj,fun x hx h7=>?_,by omega,by omega⟩;obtain⟨j,hj,rfl⟩:=List.getElem_of_mem hx;have hf:=S0M e j hj;have hg:gt l (j:Int)=l[j]:=Y5 (List.getElem?_eq_getElem hj);rw[hg]at hf;simp[D0f,h7]at hf;exact hf.2
def C01 (l:List U0)(q:Int):List Int:=if q<0\/(l.length:Int)<=q then[]else E0U (L1 l (gt (A0i l) q) (q+1))
def N0c {l:List U0}(hf:401<F):b0e F l=some (A0i l):=C0p M0O (Old.N0Q l hf)
def N0I {l:List U0}(hR:e0M l=true)(hl:l.length*64<=140737488351232)(hf:l.length+1<F):G05 F l=some (A0i l):=by
 obtain⟨b,h1,h2⟩:=(M0w (F:=F) (l:=l)).run _ (Old.N0k l hl hf);unfold G05;rw[h1];cases b with
 |inl u=>exact absurd h2 (D0A hR).ne
 |inr y=>rw[h2.1];rfl
def O03 {l:List U0}(h:M0W l)(a b:Int):Gok (L1 l a b):=fun x hx h7=>h.grp x (List.mem_of_mem_drop (List.mem_of_mem_take hx)) h7
def O0Z {l:List U0}(hR:e0M l=true)(q:Int)(hf:401<F):g0O F l q=some (C01 l q):=by
 have h:=D0A hR;have h400:=h.le;have hlen:=h.len;unfold g0O C01;rw[N0c hf];simp only[F1,hlen]
 by_cases h0:q<0
 ·simp[h0]
 ·by_cases h1:(l.length:Int)<=q
  ·have:q>=(l.length:Int):=h1;simp[h0,this]
  ·obtain⟨n,rfl⟩:∃n:Nat,q=n:=⟨q.toNat,by omega⟩
   have hn:n<l.length:=by omega
   have hr:=h.rng n hn;have hW:W ((n:Int)+1)=(n:Int)+1:=c0R (by omega) (by omega);have h2:¬((n:Int)>=(l.length:Int)):=h1;have hsl:C3 l (gt (A0i l) (n:Int)) ((n:Int)+1)=true:=by simp[C3];omega
   have hin:y0 (A0i l) (n:Int)=true:=B4 (by omega) (by omega);simp only[q0,h0,h1,h2,hin,hW,hsl,or_self];rw[P0O (by rw[hW]) (O03 h _ _) (by rw[a0X hsl];omega) hf,F1,V0e hf,F1]
def O0x {l:List U0}(hR:e0M l=true)(hl:l.length*64<=140737488351232)(q:Int)(hf:401<F)(hf2:l.length+1<F):G0C F l q=some (C01 l q):=by
 have h:=D0A hR;have h400:=h.le;have hlen:=h.len;unfold G0C C01;rw[N0I hR hl hf2];simp only[F1,hlen]
 by_cases h0:q<0
 ·simp[h0]
 ·by_cases h1:(l.length:Int)<=q
  ·have:q>=(l.length:Int):=h1;simp[h0,this]
  ·obtain⟨n,rfl⟩:∃n:Nat,q=n:=⟨q.toNat,by omega⟩
   have hn:n<l.length:=by omega
   have hr:=h.rng n hn;have h2:¬((n:Int)>=(l.length:Int)):=h1;have hin:y0 (A0i l) (n:Int)=true:=B4 (by omega) (by omega);obtain⟨lo,hlo⟩:∃lo:Nat,gt (A0i l) (n:Int)=lo:=⟨(gt (A0i l) (n:Int)).toNat,by omega⟩
   rw[hlo]at hr;simp only[q0,h0,h1,h2,or_self,C0k,hlo];exact V07 hn h400 (by omega) hin hlo (O03 h _ _) hf
end
def T0g {Y2:List U0}{k:Nat}{x:Int}(h:x∈D0e Y2 k):0<=x/\x<k:=by
 unfold D0e at h;obtain⟨n,hn,rfl⟩:=List.mem_map.1 h;have:=List.mem_range.1 (List.mem_filter.1 hn).1;omega
def R01 {l:List U0}{q x:Int}(h:x∈C01 l q):0<=x/\x<10:=by
 unfold C01 at h;split at h
 ·cases h
 ·exact T0g h
def G0H (l:List U0)(q:Int):(C01 l q).length<=10:=by
 unfold C01;split
 ·simp
 ·exact K0m _ 10
def D0U (l:List U0):Int:=(C01 l ((l.length:Int)-1)).getLast?.getD 0
def f0n (l:List U0):Int:=1+2*D0U l
def J04 (l:List U0):0<=D0U l/\D0U l<10:=by
 unfold D0U;cases h:(C01 l ((l.length:Int)-1)).getLast? with
 |none=>simp
 |some x=>exact R01 (List.mem_of_getLast? h)
section
variable {F:Nat}
def W0o {l:List U0}(hR:e0M l=true)(hf:401<F):m0R F l=some (D0U l):=by
 have h:=D0A hR;have h400:=h.le;have hpos:=h.pos;unfold m0R D0U;rw[show W ((l.length:Int)-1)=(l.length:Int)-1 from c0R (by omega) (by omega),O0Z hR _ hf,F1,C0k];have hgl:=G0H l ((l.length:Int)-1);generalize C01 l ((l.length:Int)-1)=g at *;have:=j0K (step:=u0B F g) (fun i=>((g.take i).getLast?.getD 0,(i:Int))) (g.getLast?.getD 0) g.length (fun i hi=>.inl ?_) ?_ g.length 0 F (by omega) (by omega)
 ·exact this
 ·unfold u0B;have h1:(i:Int)<(g.length:Int):=by omega
  have hW:W ((i:Int)+1)=((i+1:Nat):Int):=by rw[c0R (by omega) (by omega)];omega
  have ht:g.take (i+1)=g.take i++[gt g (i:Int)]:=by rw[take_succ,B01 hi];rfl
  simp only[h1,decide_true,if_true,B4 (l:=g) (i:=(i:Int)) (by omega) h1,hW,ht,List.getLast?_append,List.getLast?_singleton,Option.some_or,Option.getD_some]
 ·unfold u0B;have h1:¬((g.length:Int)<(g.length:Int)):=by omega
  simp only[q0,h1,take_length]
def U0Q {l:List U0}(hR:e0M l=true)(hl:l.length*64<=140737488351232)(hf:401<F)(hf2:l.length+1<F):I0d F l=some (D0U l):=by
 have h:=D0A hR;have h400:=h.le;have hpos:=h.pos;unfold I0d D0U;rw[show W ((l.length:Int)-1)=(l.length:Int)-1 from c0R (by omega) (by omega),O0x hR hl _ hf hf2,F1];have hgl:=G0H l ((l.length:Int)-1);generalize C01 l ((l.length:Int)-1)=g at *
 by_cases h0:g=[]
 ·subst h0;rfl
 ·have hp:0<g.length:=List.length_pos_iff.2 h0;have hne:((g.length:Int)==0)=false:=by simp;omega
  have hW:W ((g.length:Int)-1)=((g.length-1:Nat):Int):=by rw[c0R (by omega) (by omega)];omega
  rw[if_neg (by rw[hne];simp),hW,if_pos (B4 (by omega) (by omega))];have:g.getLast?=some (gt g ((g.length-1:Nat):Int)):=by rw[List.getLast?_eq_getElem?,B01 (by omega)]
  rw[this];rfl
def K0V {l:List U0}(hR:e0M l=true)(hf:401<F):c08 F l=some (f0n l):=by
 have ht:=J04 l;unfold c08 f0n;rw[C0p H0Q (Old.E0b l hf),hR];simp only[q0,W0o hR hf];rw[c0R (n:=2*D0U l) (by omega) (by omega),c0R (by omega) (by omega)]
def J0o {l:List U0}(hR:e0M l=true)(hl:l.length*64<=140737488351232)(hf:401<F)(hf2:l.length+1<F):F0l F l=some (f0n l):=by
 have ht:=J04 l;unfold F0l f0n;rw[C0p F0s (Old.D0v l hl hf2),hR];simp only[q0,U0Q hR hl hf hf2];rw[c0R (n:=2*D0U l) (by omega) (by omega),c0R (by omega) (by omega)]
def E0a (l:List U0)(s:Int):List Z2:=
 if s<0\/(l.length:Int)<=s / 2 then[]else
 if(gt l (s / 2)).Kind=7 then[⟨1+s % 2,(gt l (s / 2)).N⟩]else
 if(gt l (s / 2)).Kind=8/\s % 2=0 then(C01 l (s / 2)).map fun g=>⟨3,g⟩else[]
def L0u (l:List U0)(s:Int):(E0a l s).length<=10:=by
 unfold E0a;have:=G0H l (s / 2);split
 ·simp
 ·split
  ·simp
  ·split
   ·rw[length_map];exact this
   ·simp
def OfF (l:List U0)(steps:List Int):List Z2:=steps.flatMap (E0a l)
def O0m {g:List Int}{step:List Z2×Int->Option (T0 (List Z2×Int) (List Z2))}(hstep:∀o (i:Int),step (o,i)=if decide (i<(g.length:Int))then if y0 g i then if C1 16 o [(⟨3,gt g i⟩:Z2)]then some (.next (o++[(⟨3,gt g i⟩:Z2)],W (i+1)))else none else none else some (.done o))
  (hg:g.length<=10) (hf:401<F) (o:List Z2) (ho:o.length<=100000000):iter step F (o,0)=some (o++g.map fun g=>⟨3,g⟩):=by
 have:=j0K (step:=step) (fun i=>(o++(g.take i).map fun g=>(⟨3,g⟩:Z2),(i:Int))) (o++g.map fun g=>⟨3,g⟩) g.length (fun i hi=>.inl ?_) ?_ g.length 0 F (by omega) (by omega)
 ·simpa using this
 ·rw[hstep];have h1:(i:Int)<(g.length:Int):=by omega
  have hW:W ((i:Int)+1)=((i+1:Nat):Int):=by rw[c0R (by omega) (by omega)];omega
  have ht:g.take (i+1)=g.take i++[gt g (i:Int)]:=by rw[take_succ,B01 hi];rfl
  have hap:C1 16 (o++(g.take i).map fun g=>(⟨3,g⟩:Z2)) [(⟨3,gt g (i:Int)⟩:Z2)]=true:=by simp[C1];omega
  simp only[h1,decide_true,if_true,B4 (l:=g) (i:=(i:Int)) (by omega) h1,hW,ht,hap,map_append,map_cons,map_nil,List.append_assoc]
 ·rw[hstep];have h1:¬((g.length:Int)<(g.length:Int)):=by omega
  simp only[q0,h1,take_length]
def SOk (s:Int):Prop:=-9223372036854775808<=s/\s<=9223372036854775807
def S0R {l:List U0}(hR:e0M l=true)(hf:401<F){s:Int}(hs:SOk s):l05 F l s=some (E0a l s):=by
 have h:=D0A hR;have h400:=h.le;unfold l05 E0a
 by_cases h0:s<0
 ·simp[h0]
 ·obtain⟨n,rfl⟩:∃n:Nat,s=n:=⟨s.toNat,by omega⟩
  obtain⟨_,hs2⟩:=hs;have e1:(n:Int).tdiv 2=((n / 2:Nat):Int):=rfl;have e2:(n:Int).tmod 2=((n % 2:Nat):Int):=rfl;have e3:(n:Int) / 2=((n / 2:Nat):Int):=by omega
  have e4:(n:Int) % 2=((n % 2:Nat):Int):=by omega
  have hW:W ((n / 2:Nat):Int)=((n / 2:Nat):Int):=c0R (by omega) (by omega);simp only[q0,e1,e2,e3,e4,hW,h0,false_or]
  by_cases h1:(l.length:Int)<=((n / 2:Nat):Int)
  ·have h1':((n / 2:Nat):Int)>=(l.length:Int):=h1;simp only[h1,h1',decide_true,if_true]
  ·have h1':¬((n / 2:Nat):Int)>=(l.length:Int):=h1;have hin:y0 l ((n / 2:Nat):Int)=true:=B4 (by omega) (by omega);simp only[q0,h1,h1',hin];have hr:((n % 2:Nat):Int)=0\/((n % 2:Nat):Int)=1:=by omega
   generalize ((n % 2:Nat):Int)=r at *;generalize ((n / 2:Nat):Int)=k at *
   by_cases h7:(gt l k).Kind=7
   ·rcases hr with rfl|rfl<;>simp[h7,F1]
   ·have h7':((gt l k).Kind==7)=false:=by simp[h7]
    by_cases h8:(gt l k).Kind=8
    ·rcases hr with rfl|rfl
     ·have h8':((gt l k).Kind==8)=true:=by simp[h8]
      simp only[q0,h7',h8',h8,h7,beq_self_eq_true,and_self,O0Z hR _ hf,C0k];have:=O0m (F:=F) (g:=C01 l k) (step:=r01 F (C01 l k)) (fun o i=>rfl) (G0H _ _) hf [] (by simp);simpa using this
     ·simp[h7,h8,F1]
    ·simp[h7,h8,F1]
def K0y {l:List U0}(hR:e0M l=true){st:List Int}(hst:st.length<=2000000)(hf:2000001<F)(hs:∀s∈st,SOk s):f0M F l st=some (OfF l st):=by
 unfold f0M;rw[C0p H0Q (Old.E0b l (by omega)),hR];simp only[q0,C0k];have hlen:∀i,i<=st.length->(OfF l (st.take i)).length<=10*i:=by
  intro i
  induction i with
  |zero=>intro _;simp[OfF]
  |
   succ i ih=>
   intro hi;have:=ih (by omega);have h2:=L0u l (gt st (i:Int));rw[show st.take (i+1)=st.take i++[gt st (i:Int)]from by rw[take_succ,B01 (by omega)];rfl];simp only[OfF,List.flatMap_append,List.length_append,flatMap_cons,flatMap_nil,append_nil]at *;omega
 have:=j0K (step:=w0y F l st) (fun i=>(OfF l (st.take i),(i:Int))) (OfF l st) st.length (fun i hi=>.inl ?_) ?_ st.length 0 F (by omega) (by omega)
 ·exact this
 ·unfold w0y;have h1:(i:Int)<(st.length:Int):=by omega
  have hW:W ((i:Int)+1)=((i+1:Nat):Int):=by rw[c0R (by omega) (by omega)];omega
  have ht:st.take (i+1)=st.take i++[gt st (i:Int)]:=by rw[take_succ,B01 hi];rfl
  have h2:=L0u l (gt st (i:Int));have h3:=hlen i (by omega);have hap:C1 16 (OfF l (st.take i)) (E0a l (gt st (i:Int)))=true:=by simp[C1];omega
  simp only[q0,h1,B4 (l:=st) (i:=(i:Int)) (by omega) h1,hW,S0R hR (show 401<F by omega) (hs _ (mem_of_getElem? (B01 hi))),hap,ht,OfF,List.flatMap_append,flatMap_cons,flatMap_nil,append_nil];rw[show OfF l (List.take i st)=List.flatMap (E0a l) (List.take i st)from rfl]at hap;rw[if_pos hap]
 ·unfold w0y;have h1:¬((st.length:Int)<(st.length:Int)):=by omega
  simp only[q0,h1,take_length]
def E0y (l:List U0):∀st:List Int,(OfF l st).length<=10*st.length
 |[]=>by simp[OfF]
 |
  x :: r=>by
  have h:=E0y l r;have h2:=L0u l x;simp only[OfF,flatMap_cons,List.length_append,List.length_cons]at *;omega
def L0d {l:List U0}(hR:e0M l=true)(hl:l.length*64<=140737488351232)(hf:401<F)(hf2:l.length+1<F){st:List Int}{i:Nat}(hi:i<st.length)(hlen:st.length<=2000000)(hs:SOk (gt st (i:Int))){o:List Z2}(ho:o.length<=50000000):
  G0J F l st (o,(i:Int))=some (.next (o++E0a l (gt st (i:Int)),((i+1:Nat):Int))):=by
 have h:=D0A hR;have h400:=h.le;have hi1:(i:Int)<(st.length:Int):=by omega
 have hW1:W ((i:Int)+1)=((i+1:Nat):Int):=by rw[c0R (by omega) (by omega)];omega
 unfold G0J E0a;simp only[hi1,decide_true,if_true,B4 (l:=st) (i:=(i:Int)) (by omega) hi1,hW1];generalize gt st (i:Int)=s at *
 by_cases h0:s<0
 ·simp[h0]
 ·obtain⟨n,rfl⟩:∃n:Nat,s=n:=⟨s.toNat,by omega⟩
  obtain⟨_,hs2⟩:=hs;have e1:(n:Int).tdiv 2=((n / 2:Nat):Int):=rfl;have e2:(n:Int).tmod 2=((n % 2:Nat):Int):=rfl;have e3:(n:Int) / 2=((n / 2:Nat):Int):=by omega
  have e4:(n:Int) % 2=((n % 2:Nat):Int):=by omega
  have hW:W ((n / 2:Nat):Int)=((n / 2:Nat):Int):=c0R (by omega) (by omega);have hW2:W (1+((n % 2:Nat):Int))=1+((n % 2:Nat):Int):=c0R (by omega) (by omega);simp only[q0,e1,e2,e3,e4,hW,hW2,h0,false_or]
  by_cases h1:(l.length:Int)<=((n / 2:Nat):Int)
  ·have h1':((n / 2:Nat):Int)>=(l.length:Int):=h1;simp only[q0,h1,h1',append_nil]
  ·have h1':¬((n / 2:Nat):Int)>=(l.length:Int):=h1;have hin:y0 l ((n / 2:Nat):Int)=true:=B4 (by omega) (by omega);simp only[q0,h1,h1',hin];have hr:((n % 2:Nat):Int)=0\/((n % 2:Nat):Int)=1:=by omega
   generalize ((n % 2:Nat):Int)=r at *;generalize ((n / 2:Nat):Int)=k at *
   by_cases h7:(gt l k).Kind=7
   ·have hap:C1 16 o [(⟨1+r,(gt l k).N⟩:Z2)]=true:=by simp[C1];omega
    simp[h7,F1,hap]
   ·have h7':((gt l k).Kind==7)=false:=by simp[h7]
    by_cases h8:(gt l k).Kind=8
    ·rcases hr with rfl|rfl
     ·have h8':((gt l k).Kind==8)=true:=by simp[h8]
      rw[if_neg h7,if_pos (show(gt l k).Kind=8/\(0:Int)=0 from⟨h8,rfl⟩)];simp only[q0,h7',h8',beq_self_eq_true,O0x hR hl _ hf hf2,C0k];rw[O0m (F:=F) (g:=C01 l k) (step:=N0O F (C01 l k)) (fun o i=>rfl) (G0H _ _) hf o (by omega)];simp[F1]
     ·simp[h7,h8,F1]
    ·simp[h7,h8,F1]
def M0a {l:List U0}(hR:e0M l=true)(hl:l.length*64<=140737488351232){st:List Int}(hst:st.length<=2000000)(hf:2000001<F)(hf2:l.length+1<F)(hs:∀s∈st,SOk s):F0w F l st=some (OfF l st):=by
 unfold F0w;rw[C0p F0s (Old.D0v l hl hf2),hR];simp only[q0,C0k];have:=j0K (step:=G0J F l st) (fun i=>(OfF l (st.take i),(i:Int))) (OfF l st) st.length (fun i hi=>.inl ?_) ?_ st.length 0 F (by omega) (by omega)
 ·exact this
 ·have h3:=E0y l (st.take i);rw[List.length_take]at h3;rw[L0d hR hl (by omega) hf2 hi hst (hs _ (mem_of_getElem? (B01 hi))) (by omega)];have ht:st.take (i+1)=st.take i++[gt st (i:Int)]:=by rw[take_succ,B01 hi];rfl
  simp only[ht,OfF,List.flatMap_append,flatMap_cons,flatMap_nil,append_nil]
 ·unfold G0J;have h1:¬((st.length:Int)<(st.length:Int)):=by omega
  simp only[q0,h1,take_length]
end
def j04 (l:List U0)(h:E1):z05:=⟨h,OfF l h.Steps⟩
def C0y (l:List U0)(n:Nat)(a:List E1)(b:Nat->List E1)(e:Nat->E1×Bool)(z:E1×Bool):D0S:=
 ⟨l,(e0L l l.length).map fun q=>(gt l q).Set,a.map (j04 l),(List.range n).map fun p=>(b p).map (j04 l),(List.range n).map fun p=>j04 l (e p).1,(List.range n).map fun p=>(e p).2,OfF l z.1.Steps,z.2,f0n l,z.1⟩
def C0V (l:List U0)(n:Nat)(a:List E1)(b:Nat->List E1)(e:Nat->E1×Bool)(at_ work:Int)(places:List Int)(tags:List (List Int))(rank:P1):B07:=
 ⟨l,e0L l l.length,a,(List.range n).map b,(List.range n).map fun p=>(e p).1.Steps,at_,work,places,tags,rank⟩
def l4.sok {st:List Int}(h:l4 800 st):∀s∈st,SOk s:=fun s hs=>by have:=h s hs;unfold SOk;omega
def L0z {β:Type}(f:Nat->β)(i:Nat):(List.range (i+1)).map f=(List.range i).map f++[f i]:=by
 rw[List.range_succ,map_append];rfl
section
variable {F:Nat}
def N0b {l:List U0}(hR:e0M l=true){hops:List E1}(hlen:hops.length<=500000)(hf:2000001<F)(hb:C04 800 hops)(hs:∀h∈hops,h.Steps.length<=2000000):H0I F l hops=some (hops.map (j04 l)):=by
 unfold H0I;rw[C0k];have:=j0K (step:=J0m F l hops) (fun i=>((hops.take i).map (j04 l),(i:Int))) (hops.map (j04 l)) hops.length (fun i hi=>.inl ?_) ?_ hops.length 0 F (by omega) (by omega)
 ·exact this
 ·unfold J0m;have h1:(i:Int)<(hops.length:Int):=by omega
  have hW:W ((i:Int)+1)=((i+1:Nat):Int):=by rw[c0R (by omega) (by omega)];omega
  have ht:hops.take (i+1)=hops.take i++[gt hops (i:Int)]:=by rw[take_succ,B01 hi];rfl
  have hm:=mem_of_getElem? (B01 hi);have hap:C1 64 ((hops.take i).map (j04 l)) [(⟨gt hops (i:Int),OfF l (gt hops (i:Int)).Steps⟩:z05)]=true:=by simp[C1];omega
  simp only[q0,h1,B4 (l:=hops) (i:=(i:Int)) (by omega) h1,hW,K0y hR (hs _ hm) hf (l4.sok (hb _ hm)),hap,ht,map_append,map_cons,map_nil,j04]
 ·unfold J0m;have h1:¬((hops.length:Int)<(hops.length:Int)):=by omega
  simp only[q0,h1,take_length]
variable {l:List U0}{n:Nat}{a:List E1}{b:Nat->List E1}{e:Nat->E1×Bool}{z:E1×Bool}
def V0t (hR:e0M l=true)(hn:n=u5 l l.length)(T:G0z l n a b e z)(hf:2000001<F)(TF:H0G l n a b e z F):I0H F l=some (C0y l n a b e z):=by
 have h:=D0A hR;have h400:=h.le;have hpos:=h.pos;have hn64:=T.n64;have hll:(e0L l l.length).length=n:=by rw[C0e,hn]
 have hcl:I0m F l=some l:=by unfold I0m;rw[if_pos (by simp[C1];omega)]
 unfold I0H C0y;rw[hcl,show W ((l.length:Int)-1)=(l.length:Int)-1 from c0R (by omega) (by omega)];simp only[F1,TF.mA,N0b hR T.al hf T.ab (fun h hh=>(T.aw.ok h hh).2.2),K0V hR (show 401<F by omega),TF.mL,TF.mZ,K0y hR (show z.1.Steps.length<=2000000 by have:=T.zl;omega) hf (l4.sok T.zb)];generalize hLv:e0L l l.length=lv at *;have:=j0K (step:=G0W F l lv) (fun i=>((i:Int),(l,(lv.take i).map (fun q=>(gt l q).Set),a.map (j04 l),(List.range i).map (fun p=>(b p).map (j04 l)),(List.range i).map (fun p=>j04 l (e p).1),(List.range i).map (fun p=>(e p).2),f0n l,(⟨0,0,[]⟩:E1))))
  (l,lv.map (fun q=>(gt l q).Set),a.map (j04 l),(List.range n).map (fun p=>(b p).map (j04 l)),(List.range n).map (fun p=>j04 l (e p).1),(List.range n).map (fun p=>(e p).2),f0n l,(⟨0,0,[]⟩:E1)) n (fun i hi=>.inl ?_) ?_ n 0 F (by omega) (by omega)
 ·have h2:iter (G0W F l lv) F (0,(l,[],a.map (j04 l),[],[],[],f0n l,(⟨0,0,[]⟩:E1)))=_:=this;rw[h2];rfl
 ·unfold G0W;have h1:(i:Int)<(lv.length:Int):=by omega
  have hW:W ((i:Int)+1)=((i+1:Nat):Int):=by rw[c0R (by omega) (by omega)];omega
  obtain⟨q,hq,hq2,_,_⟩:=E0C l l.length i (by rw[<-hn];exact hi);rw[hLv]at hq2;have hg:gt lv (i:Int)=(q:Int):=Y5 hq2;have ht:lv.take (i+1)=lv.take i++[(q:Int)]:=by rw[take_succ,hq2];rfl
  have hap1:C1 32 ((lv.take i).map (fun q=>(gt l q).Set)) [(gt l (q:Int)).Set]=true:=by simp[C1];omega
  have hap2:C1 24 ((List.range i).map (fun p=>(b p).map (j04 l))) [(b i).map (j04 l)]=true:=by simp[C1];omega
  have hap3:C1 64 ((List.range i).map (fun p=>j04 l (e p).1)) [(⟨(e i).1,OfF l (e i).1.Steps⟩:z05)]=true:=by simp[C1];omega
  have hap4:C1 1 ((List.range i).map (fun p=>(e p).2)) [(e i).2]=true:=by simp[C1];omega
  simp only[h1,decide_true,if_true,B4 (l:=lv) (i:=(i:Int)) (by omega) h1,hg,B4 (l:=l) (i:=(q:Int)) (by omega) (by omega),hap1,TF.mB i hi,F1,N0b hR (T.bl i hi) hf (T.bb i hi) (fun h hh=>((T.bw i hi).ok h hh).2.2),hap2,TF.mE i hi,
   K0y hR (show(e i).1.Steps.length<=2000000 by have:=T.el i hi;omega) hf (l4.sok (T.eb i hi)),hap3,hap4,hW,ht,L0z,map_append,map_cons,map_nil,j04]
  simp only[j04]at hap3;rw[if_pos hap3]
 ·unfold G0W;have h1:¬((n:Int)<(lv.length:Int)):=by omega
  simp only[q0,h1];rw[List.take_of_length_le (by omega)]
def R0R (hR:e0M l=true)(hn:n=u5 l l.length)(T:G0z l n a b e z)(hf:2000001<F)(TF:H0G l n a b e z F):H06 F l=some (.inr ⟨C0y l n a b e z,0,0,[],[],⟨[],[]⟩⟩,0):=by
 unfold H06;rw[TF.mR];simp only[q0,V0t hR hn T hf TF]
def P0J (hR:e0M l=true)(hn:n=u5 l l.length)(T:G0z l n a b e z)(hf:2000001<F)(TF:H0G l n a b e z F):J0h F l=some (C0V l n a b e 0 0 [] [] ⟨[],[]⟩):=by
 have h:=D0A hR;have h400:=h.le;have hpos:=h.pos;have hn64:=T.n64;have hll:(e0L l l.length).length=n:=by rw[C0e,hn]
 unfold J0h C0V;rw[show W ((l.length:Int)-1)=(l.length:Int)-1 from c0R (by omega) (by omega)];simp only[F1,TF.rA,TF.rL];generalize hLv:e0L l l.length=lv at *;have:=j0K (step:=G0B F l) (fun i=>((i:Int),(l,lv,a,(List.range i).map b,(List.range i).map (fun p=>(e p).1.Steps),0,0,(⟨[],[]⟩:P1))))
  (l,lv,a,(List.range n).map b,(List.range n).map (fun p=>(e p).1.Steps),0,0,(⟨[],[]⟩:P1)) n (fun i hi=>.inl ?_) ?_ n 0 F (by omega) (by omega)
 ·have h2:iter (G0B F l) F (0,(l,lv,a,[],[],0,0,(⟨[],[]⟩:P1)))=_:=this;rw[h2];rfl
 ·unfold G0B;have h1:(i:Int)<(lv.length:Int):=by omega
  have hW:W ((i:Int)+1)=((i+1:Nat):Int):=by rw[c0R (by omega) (by omega)];omega
  have hap1:C1 24 ((List.range i).map b) [b i]=true:=by simp[C1];omega
  have hap2:C1 24 ((List.range i).map (fun p=>(e p).1.Steps)) [(e i).1.Steps]=true:=by simp[C1];omega
  simp only[q0,h1,TF.rB i hi,hap1,TF.rE i hi,hap2,hW,L0z]
 ·unfold G0B;have h1:¬((n:Int)<(lv.length:Int)):=by omega
  simp only[q0,h1]
end
