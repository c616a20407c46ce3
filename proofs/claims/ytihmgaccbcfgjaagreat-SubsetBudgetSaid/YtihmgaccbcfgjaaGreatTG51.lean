/- P. Its conditions: none. -/
import Derived.Test.YtihmgaccbcfgjaaGreatTG50
import Derived.Test.YtihmgaccbcfgjaaGreatTMd
set_option linter.all false
namespace Go.Proofs.YtihmgaccbcfgjaaGreat
open Go.V Go.RowKit Old Go.X
open Classical
section
variable {F:Nat}{l:List C0}{n:Nat}{a:List B0}{b:Nat->List B0}{e:Nat->B0×Bool}{z:B0×Bool}{mode:Int}
def z0L (K:U3 l n a b e z F)(hw:∀x∈l,P2 x)(hm:mode=0\/mode=1){least:List Int}(i:∀x∈least,L5 .u8 x){k x:F1}{s:List Int}{c:Nat}(h:PM F l n k)(j:c<least.length)(d:J1 F l mode least k c=some (x,s)):PM F l n x:=by
 obtain⟨x',m,f,g,_⟩:=j0B (mode:=mode) K hw hm i h j;unfold J1 at d;rw[f]at d;simp only at d;split at d
 ·cases d
 ·cases d;exact g
noncomputable def a0G (F:Nat)(l:List C0)(mode:Int)(least:List Int)(k0:F1)(i:Nat):List L3:=
 (List.range i).map fun q=>T9 (K6 F) (V8 F l) (J1 F l mode least) least.length (runK (J1 F l mode least) least.length k0 (q+1)) ((runK (J1 F l mode least) least.length k0 q).getD q default)
def x0N {least:List Int}{d:F1}{m B:Nat}(h:Y4 (J1 F l mode least) least.length d B m):a0G F l mode least d m=(runK (J1 F l mode least) least.length d m).map (T9 (K6 F) (V8 F l) (J1 F l mode least) least.length (runK (J1 F l mode least) least.length d m)):=by
 have hm:=h.1;unfold a0G;refine List.ext_getElem Z' fun i g i2=>?_;have hi:i<m:=by simpa using g
 have hl:=(h.2 i hi).1;rw[List.getElem_map,List.getElem_range,List.getElem_map];have f:(runK (J1 F l mode least) least.length d i).getD i default=(runK (J1 F l mode least) least.length d m)[i]' O':=by
  rw[<-h0k _ _ _ (Nat.le_of_lt hi) hl];simp[List.getD,show i<(runK (J1 F l mode least) least.length d m).length from O']
 rw[<-f];unfold T9;congr 1;refine List.map_congr_left fun c j=>?_;exact(u00 (d0g _ _ _ (show i+1<=m from O')) (fun x s k=>t0o _ _ _ (Nat.lt_succ_self i) hl (List.mem_range.1 j) k)).symm
def D0G (K:U3 l n a b e z F)(hw:∀x∈l,P2 x)(hm:mode=0\/mode=1){cls:List Int}{t2:Int}(C:f0z F l=some (cls,t2))(t:e0e F cls=some (M0 cls))(p:(M0 cls).length<=256)(v:∀x∈M0 cls,L5 .u8 x){B:Nat}(R:B<=400):
  a05 F l mode (B:Int)=some (j8 F l mode cls (Kd.zero z mode).K B):=by
 have f1:=K.f1;obtain⟨J,y,z2⟩:=q0I (z:=z) K hw hm;have I:∀i,∀k∈runK (J1 F l mode (M0 cls)) (M0 cls).length (Kd.zero z mode).K i,PM F l n k:=by
  intro i
  induction i with
  |zero=>intro k hk;simp[runK]at hk;rw[hk];exact y
  |succ i ih=>
   intro k hk;rw[show runK (J1 F l mode (M0 cls)) (M0 cls).length (Kd.zero z mode).K (i+1)=if i<(runK (J1 F l mode (M0 cls)) (M0 cls).length (Kd.zero z mode).K i).length then X3 (J1 F l mode (M0 cls)) ((runK (J1 F l mode (M0 cls)) (M0 cls).length (Kd.zero z mode).K i).getD i default) (runK (J1 F l mode (M0 cls)) (M0 cls).length (Kd.zero z mode).K i) (M0 cls).length else runK (J1 F l mode (M0 cls)) (M0 cls).length (Kd.zero z mode).K i from rfl]at hk;split at hk
   ·rename_i hi;rcases g0M _ _ _ _ hk with h1|⟨_,d,s,w,h3⟩
    ·exact ih k h1
    ·exact z0L K hw hm v (ih ((runK (J1 F l mode (M0 cls)) (M0 cls).length (Kd.zero z mode).K i).getD i default) (by
      rw[show(runK (J1 F l mode (M0 cls)) (M0 cls).length (Kd.zero z mode).K i).getD i default=(runK (J1 F l mode (M0 cls)) (M0 cls).length (Kd.zero z mode).K i)[i] by simp[List.getD,hi]];exact List.getElem_mem hi)) w h3
   ·exact ih k hk
 have step:∀i,i<(runK (J1 F l mode (M0 cls)) (M0 cls).length (Kd.zero z mode).K i).length->(runK (J1 F l mode (M0 cls)) (M0 cls).length (Kd.zero z mode).K i).length<=B->
   b0H F (B:Int) ((i:Int),(l,mode,M0 cls,runK (J1 F l mode (M0 cls)) (M0 cls).length (Kd.zero z mode).K i),(C4 l,cls,a0G F l mode (M0 cls) (Kd.zero z mode).K i)) =
    some (.next (((i+1:Nat):Int),(l,mode,M0 cls,runK (J1 F l mode (M0 cls)) (M0 cls).length (Kd.zero z mode).K (i+1)),(C4 l,cls,a0G F l mode (M0 cls) (Kd.zero z mode).K (i+1)))):=by
  intro i hi U;have hg:gt (runK (J1 F l mode (M0 cls)) (M0 cls).length (Kd.zero z mode).K i) (i:Int)=(runK (J1 F l mode (M0 cls)) (M0 cls).length (Kd.zero z mode).K i).getD i default:=t0O _ _;have g:=gtm hi;have j:=A0n K hw hm v p (I i _ g) (all:=runK (J1 F l mode (M0 cls)) (M0 cls).length (Kd.zero z mode).K i) O';have f:X3 (J1 F l mode (M0 cls)) (gt (runK (J1 F l mode (M0 cls)) (M0 cls).length (Kd.zero z mode).K i) (i:Int)) (runK (J1 F l mode (M0 cls)) (M0 cls).length (Kd.zero z mode).K i) (M0 cls).length=runK (J1 F l mode (M0 cls)) (M0 cls).length (Kd.zero z mode).K (i+1):=by
   rw[hg]
   conv=>rhs;rw[runK]
   rw[if_pos hi]
  rw[f]at j;have c1:(i:Int)<((runK (J1 F l mode (M0 cls)) (M0 cls).length (Kd.zero z mode).K i).length:Int):=O'
  have c2:¬(400:Int)<(B:Int):=O'
  have c3:¬((runK (J1 F l mode (M0 cls)) (M0 cls).length (Kd.zero z mode).K i).length:Int)>(B:Int):=O'
  have o:=V0 (l:=runK (J1 F l mode (M0 cls)) (M0 cls).length (Kd.zero z mode).K i) (i:=(i:Int)) O' c1;have ap:∀s:L3,K0 56 (a0G F l mode (M0 cls) (Kd.zero z mode).K i) [s]=true:=fun s=>B4 (by simp[a0G];omega);unfold b0H;simp only[q0,c1,c2,c3,o,j,ap,X1 (i:=i) O'];have hs:a0G F l mode (M0 cls) (Kd.zero z mode).K (i+1)=a0G F l mode (M0 cls) (Kd.zero z mode).K i++[T9 (K6 F) (V8 F l) (J1 F l mode (M0 cls)) (M0 cls).length (runK (J1 F l mode (M0 cls)) (M0 cls).length (Kd.zero z mode).K (i+1)) (gt (runK (J1 F l mode (M0 cls)) (M0 cls).length (Kd.zero z mode).K i) (i:Int))]:=by
   unfold a0G;rw[List.range_succ,List.map_append,List.map_cons,List.map_nil,hg]
  rw[hs]
 have r:iter (q0r F) F ()=some ():=by
  obtain⟨m,rfl⟩:∃m,F=m+1:=⟨F-1,O'⟩
  rfl
 have q:K0 104 ([]:List F1) [(Kd.zero z mode).K]=true:=B4 X';have u:a0G F l mode (M0 cls) (Kd.zero z mode).K 0=[]:=rfl;unfold a05;simp only[q0,J,bne_self_eq_false,C,t,r,show((-1:Int)<0)=True from X',q,List.nil_append,o0r K.hR (show 401<F from O')];rcases h0m (J1 F l mode (M0 cls)) (M0 cls).length (Kd.zero z mode).K B with⟨m,m1,h⟩|⟨m,m1,h⟩
 ·have c:=H3 (step:=b0H F (B:Int)) (fun i=>((i:Int),(l,mode,M0 cls,runK (J1 F l mode (M0 cls)) (M0 cls).length (Kd.zero z mode).K i),(C4 l,cls,a0G F l mode (M0 cls) (Kd.zero z mode).K i))) (.inr (C4 l,cls,a0G F l mode (M0 cls) (Kd.zero z mode).K m)) m (fun i hi=>.inl (step i (h.2 i hi).1 (h.2 i hi).2)) (by
   have hm:=h.1;have c1:¬(m:Int)<((runK (J1 F l mode (M0 cls)) (M0 cls).length (Kd.zero z mode).K m).length:Int):=O'
   unfold b0H;simp only[q0,c1]) m 0 F O' O'
  have c:iter (b0H F (B:Int)) F (0,(l,mode,M0 cls,[(Kd.zero z mode).K]),(C4 l,cls,[]))=_:=c;rw[c,e0k h];simp only[G0,x0N h];rfl
 ·have c:=H3 (step:=b0H F (B:Int)) (fun i=>((i:Int),(l,mode,M0 cls,runK (J1 F l mode (M0 cls)) (M0 cls).length (Kd.zero z mode).K i),(C4 l,cls,a0G F l mode (M0 cls) (Kd.zero z mode).K i))) (.inl (14,⟨0,[],[]⟩)) m (fun i hi=>.inl (step i (h.2.2 i hi).1 (h.2.2 i hi).2)) (by
   have h1:=h.1;have w:=h.2.1;have c1:(m:Int)<((runK (J1 F l mode (M0 cls)) (M0 cls).length (Kd.zero z mode).K m).length:Int):=O'
   have c2:¬(400:Int)<(B:Int):=O'
   have c3:((runK (J1 F l mode (M0 cls)) (M0 cls).length (Kd.zero z mode).K m).length:Int)>(B:Int):=O'
   unfold b0H;simp only[q0,c1,c2,c3]) m 0 F O' O'
  have c:iter (b0H F (B:Int)) F (0,(l,mode,M0 cls,[(Kd.zero z mode).K]),(C4 l,cls,[]))=_:=c;rw[c,h0Z h];rfl
end
end Go.Proofs.YtihmgaccbcfgjaaGreat
namespace Go.Proofs.YtihmgaccbcfgjaaGreat
open Go.V Go.RowKit Old Go.X
section
variable {F:Nat}{l:List C0}{n:Nat}{a:List B0}{b:Nat->List B0}{e:Nat->B0×Bool}{z:B0×Bool}
def r0z {c:Int}(d:L5 .u8 c):∀(s:List (List Int)),(∀r∈s,r.length=4/\∀y∈r,L5 .u64 y)->d0l F c s=some (s.map fun r=>hasB r c)
 |[],_=>rfl
 |r :: s,h=>by
  unfold d0l;rw[(t0N F (h r X') d).1,r0z d s (fun x f=>h x (List.mem_cons_of_mem _ f))];rfl
def G0L {i:Nat}(h:i<l.length):a0z (l.take (i+1))=a0z (l.take i)++if(gt l (i:Int)).Kind==2 then[(gt l (i:Int)).Set]else[]:=by
 unfold a0z;rw[List.take_succ,P4 h];simp only[Option.toList,List.filter_append,List.map_append];congr 1;cases c:(gt l (i:Int)).Kind==2 with
 |true=>rw[List.filter_cons_of_pos (by simpa using c)];rfl
 |false=>rw[List.filter_cons_of_neg (by simpa using c)];rfl
def r0s:(a0z l).length<=l.length:=by
 unfold a0z;rw[List.length_map];exact List.length_filter_le _ _
def I0v (K:U3 l n a b e z F)(hw:∀x∈l,P2 x)(hl:l.length<=1000):f0z F l=some ((I3 (a0K l) 256).2,((I3 (a0K l) 256).1.length:Int)):=by
 have f1:=K.f1;have hs:∀r∈a0z l,r.length=4/\∀y∈r,L5 .u64 y:=fun r h=>by
  unfold a0z at h;obtain⟨x,j,rfl⟩:=List.mem_map.1 h;have:=hw x (List.mem_filter.1 j).1;unfold P2 at this;exact this.2.2.2.2
 have d:=H3 (step:=g08 F l) (fun i=>(a0z (l.take i),(i:Int))) (a0z l) l.length (fun i hi=>.inl ?_) ?_ l.length 0 F O' O'
 ·have d:iter (g08 F l) F ([],0)=some (a0z l):=d;have f:f0P F (a0z l)=some ((I3 (a0K l) 256).2,((I3 (a0K l) 256).1.length:Int)):=by
   have:=r0s (l:=l);unfold f0P;rw[if_pos Z',r0X (key:=a0K l) 256 (fun c k s=>?_)]
   ·rfl
   ·unfold f04;rw[r0z (c:=(c:Int)) ⟨by show(0:Int)<=_;omega,by show(c:Int)<=255;omega⟩ _ hs];show(if s.1.contains (a0K l c)then _ else _)=_;unfold g0L;split<;>rfl
  unfold f0z;simp only[q0,K.TF.mR,d,f]
 ·have c1:(i:Int)<(l.length:Int):=O'
  have g:=r0s (l:=l.take i);rw[List.length_take]at g;have ap:K0 32 (a0z (l.take i)) [(gt l (i:Int)).Set]=true:=B4 Z';unfold g08;simp only[c1,decide_true,if_true,V0 (l:=l) (i:=(i:Int)) O' c1,ap,X1 (i:=i) O'];rw[G0L hi];cases c:(gt l (i:Int)).Kind==2 with
  |true=>simp
  |false=>simp
 ·have c1:¬(l.length:Int)<(l.length:Int):=O'
  unfold g08;simp only[q0,c1,List.take_length]
end
end Go.Proofs.YtihmgaccbcfgjaaGreat
set_option maxRecDepth 100000
noncomputable section
namespace Go.Proofs.YtihmgaccbcfgjaaGreat
open Go.V Go.RowKit Go.X
def g0z {α β:Type}(x:Option (α×β)):(Option.bind x fun p=>some (p.1,p.2))=x:=by cases x<;>rfl
def m0Y (F:Nat):((List C0)×Int×(List Int)×(List F1))->F1->Int->Option (H4×((List C0)×Int×(List Int)×(List F1)))
 |(l,mode,least,d),k,c=>
 if y0 least c then
  Option.bind (α:=(F1×(List Int))) (
   (
   Option.bind (c0Q F l mode k (gt least c)) fun(g,next_2)=>
   some (g,next_2))) fun(f,src)=>
  Option.bind (α:=Bool) (
   if(f.Places.length:Int)==0 then
    some (f.Flag==0)
   else
    some false) fun x=>
  if x then
   some ((⟨(-1),[]⟩:H4),(l,mode,least,d))
  else
   Option.bind (α:=Int) (
    Option.bind (α:=(Int⊕Unit)) (
     iter (e0D F d f) F 0) fun h=>match h with
    |.inl x3=>
     some x3
    |.inr _=>
     some (-1)) fun i=>
   Option.bind (α:=(Int×((List C0)×Int×(List Int)×(List F1)))) (
    if decide (i<0)then
     if K0 104 d [f]then
      some ((d.length:Int),(l,mode,least,d++[f]))
     else none
    else
     some (i,(l,mode,least,d))) fun(i2,(l2,mode2,least2,states2))=>
   some ((⟨i2,src⟩:H4),(l2,mode2,least2,states2))
 else none
def E0K:f0S=m0Y:=by
 funext c;unfold f0S m0Y;simp only[c0V,g0z]<;>rfl
def p0D (F:Nat)(least:(List Int))(k:F1)(d:(Int×((List C0)×Int×(List Int)×(List F1))×(Int×(List Int)×(List H4)))):Option (Q0 (Int×((List C0)×Int×(List Int)×(List F1))×(Int×(List Int)×(List H4))) (((List C0)×Int×(List Int)×(List F1))×(Int×(List Int)×(List H4)))):=
 match d with
 |(x,(j,h,g,f),(i,c,Edges))=>
 if decide (x<(least.length:Int))then
  Option.bind (m0Y F (j,h,g,f) k x) fun(a0Z,(l3,mode3,least3,states3))=>
  if K0 32 Edges [a0Z]then
   some (.next (W (x+1),(l3,mode3,least3,states3),(i,c,Edges++[a0Z])))
  else none
 else
  some (.done ((j,h,g,f),(i,c,Edges)))
def E0j:e0z=p0D:=by
 funext d f c g;unfold e0z p0D;simp only[c0V,g0z,E0K]<;>rfl
def l09 (F:Nat):((List C0)×Int×(List Int)×(List F1))->F1->Option (L3×((List C0)×Int×(List Int)×(List F1)))
 |(l,mode,least,c),k=>
 Option.bind (α:=(Int×(List Int))) (
  (
  Option.bind (c0k F k) fun regs=>
  Option.bind (α:=(Int×(List Int))) (
   (
   Option.bind (c0s F l k) fun accept=>
   some (regs,accept))) fun(Regs,Accept)=>
  some (Regs,Accept))) fun(d,Accept2)=>
 Option.bind (α:=(((List C0)×Int×(List Int)×(List F1))×(Int×(List Int)×(List H4)))) (
  iter (p0D F least k) F (0,(l,mode,least,c),(d,Accept2,[]))) fun((f,mode4,least4,states4),(Regs4,Accept4,Edges2))=>
 some ((⟨Regs4,Accept4,Edges2⟩:L3),(f,mode4,least4,states4))
def C0B:f0T=l09:=by
 funext c;unfold f0T l09;simp only[c0V,g0z,E0j]<;>rfl
def p0H (F:Nat)(f:Int)(d:(Int×((List C0)×Int×(List Int)×(List F1))×(Int×(List Int)×(List L3)))):Option (Q0 (Int×((List C0)×Int×(List Int)×(List F1))×(Int×(List Int)×(List L3))) ((Int×Y1)⊕(Int×(List Int)×(List L3)))):=
 match d with
 |(i2,(i,h,g,c),(Tags,Class,States))=>
 if decide (i2<(c.length:Int))then
  let x:=decide ((c.length:Int)>(if 400<f then 400 else f))
  if x then
   some (.done (.inl (14,(⟨0,[],[]⟩:Y1))))
  else
   if y0 c i2 then
    Option.bind (l09 F (i,h,g,c) (gt c i2)) fun(state,(l4,mode4,least4,states3))=>
    if K0 56 States [state]then
     some (.next (W (i2+1),(l4,mode4,least4,states3),(Tags,Class,States++[state])))
    else none
   else none
 else
  some (.done (.inr (Tags,Class,States)))
def I0q:b0H=p0H:=by
 funext f c d;unfold b0H p0H;simp only[c0V,g0z,C0B]<;>rfl
def k00 (F:Nat)(l:(List C0))(mode:Int)(c:Int):Option (Y1×Int):=
 Option.bind (d0z F l mode) fun(begin,begin2)=>
 if begin2 != 0 then
  some ((⟨0,[],[]⟩:Y1),begin2)
 else
  Option.bind (f0z F l) fun(term,term2)=>
  Option.bind (e0e F term) fun least=>
  Option.bind (α:=Unit) (
   iter (q0r F) F ()) fun _=>
  Option.bind (α:=(Int×((List C0)×Int×(List Int)×(List F1)))) (
   if decide ((-1)<0)then
    if K0 104 ([]:List F1) [begin]then
     some (0,(l,mode,least,[]++[begin]))
    else none
   else
    some ((-1),(l,mode,least,[]))) fun(i,(l2,mode2,least2,states))=>
  Option.bind (d0Y F l) fun tags=>
  Option.bind (α:=((Int×Y1)⊕(Int×(List Int)×(List L3)))) (
   iter (p0H F c) F (0,(l2,mode2,least2,states),(tags,term,[]))) fun d=>match d with
  |.inl (x2,y)=>
   some (y,x2)
  |.inr (Tags2,Class2,States2)=>
   some ((⟨Tags2,Class2,States2⟩:Y1),0)
def z0s:a05=k00:=by
 funext d f c g;unfold a05 k00;simp only[c0V,g0z,I0q]<;>rfl
def w0S (F:Nat):Option Bool:=
 Option.bind (i0e F) fun star=>
 Option.bind (k00 F star 0 2) fun(build,build2)=>
 Option.bind (i0e F) fun d=>
 Option.bind (k00 F d 0 1) fun(f,build4)=>
 Option.bind (α:=Bool) (
  if build2==0 then
   some (build4==14)
  else
   some false) fun x=>
 Option.bind (α:=Bool) (
  if x then
   Option.bind (e0X F build) fun right=>
   some right
  else
   some false) fun p=>
 Option.bind (α:=Bool) (
  if p then
   Option.bind (p0u F build build) fun c=>
   some c
  else
   some false) fun m=>
 Option.bind (α:=Bool) (
  if m then
   some ((build.States.length:Int)==2)
  else
   some false) fun q=>
 Option.bind (α:=Bool) (
  if q then
   some ((build.Class.length:Int)==256)
  else
   some false) fun k=>
 Option.bind (α:=Bool) (
  if k then
   if y0 build.Class 97 then
    some ((gt build.Class 97)==1)
   else none
  else
   some false) fun j=>
 Option.bind (α:=Bool) (
  if j then
   if y0 build.States 1 then
    let o:=(((gt build.States 1).Edges).length:Int)==2
    some o
   else none
  else
   some false) fun i=>
 Option.bind (α:=Bool) (
  if i then
   if y0 build.States 1 then
    if y0 ((gt build.States 1).Edges) 1 then
     some (((gt ((gt build.States 1).Edges) 1).To)==1)
    else none
   else none
  else
   some false) fun h=>
 Option.bind (α:=Bool) (
  if h then
   Option.bind (d0P F build) fun reach=>
   some ((reach.length:Int)==2)
  else
   some false) fun g=>
 some g
def E0W:d0n=w0S:=by
 funext c;unfold d0n w0S;simp only[c0V,g0z,z0s]<;>rfl
end Go.Proofs.YtihmgaccbcfgjaaGreat
end
namespace Go.Proofs.YtihmgaccbcfgjaaGreat
open Go.V Go.RowKit Go.X
abbrev Fc:Nat:=10000000000000
def x0w:d0n Fc=some true:=by rw[E0W];kernel_rfl
