/- The document grows the tree that is told. The document grows the tree that is told: all of it. The document's tree of all bytes. The part that is ahead of all is the document's tree. What groups span: by tags, and by the document's tree. What tags and trees tell of groups is the same. Its conditions: none. -/
import Derived.Test.YtdficaoajalfaaaGreatAG48
open Bool (false_eq_true and_eq_true or_eq_true or_eq_false_iff)
open Nat (le_refl add_assoc)
open List (any_eq_true mem_range)
set_option linter.all false
namespace Go.Proofs.YtdficaoajalfaaaGreat
open Go.V Go.RowKit Old Go.X
section
variable {F:Nat} {l:List C0} {w:List Int} {Can:List (List Bool)}
theorem x0Z {r:List C0->S7->Int->Int->Int->Int->Option (List Z1)} {a:Old.Tm} {lo deep:Nat} {j:Nat} {q:Int} (hd:deep<=100000) (hj:j<=64) (hf:2000<F)
  (hA:∀ i k:Nat,i<=k->k<=j->a7 F ⟨(w.length:Int),Can⟩ ((gt l q).A) (i:Int) (k:Int)=some (den w a i k)) (hQ:∀ k:Nat,k<=j->a7 F ⟨(w.length:Int),Can⟩ q (k:Int) (j:Int)=some (K5 (den w a) k j))
  (hr:∀ i k:Nat,den w a i k=true->i<=k->k<=j->r l ⟨(w.length:Int),Can⟩ ((gt l q).A) (((deep+1:Nat)):Int) (i:Int) (k:Int)=some (M3 w a lo (deep+1) i k)) :
  ∀ (d i:Nat) (out:List Z1) (fu:Nat),j-i<=d->K5 (den w a) i j=true->out.length+a.size*(j-i)<=100000->d<fu->iter (g00 F r l ⟨(w.length:Int),Can⟩ q (deep:Int) (j:Int)) fu ((i:Int),out)=some (out++b0r (fun i k=>M3 w a lo (deep+1) i k) (den w a) d i j):=by
 intro d
 induction d with
 |
  zero=>
  intro i out fu h1 h2 h3 h4;obtain ⟨fu,rfl⟩:∃ m,fu=m+1:=⟨fu-1,by omega⟩
  have c1:¬ (i:Int)<(j:Int):=by omega
  have e0:b0r (fun i k=>M3 w a lo (deep+1) i k) (den w a) 0 i j=[]:=rfl;rw [e0,List.append_nil];refine a0o ?_;unfold g00;simp only [c1,decide_false,false_eq_true,if_false]
 |
  succ d ih=>
  intro i out fu h1 h2 h3 h4;obtain ⟨fu,rfl⟩:∃ m,fu=m+1:=⟨fu-1,by omega⟩
  unfold b0r
  by_cases hij:i<j
  ·have c1:(i:Int)<(j:Int):=by omega
   rw [if_pos hij];obtain ⟨⟨g1,g2⟩,g3,g4⟩:=t0Q h2 hij;have hdn:=n0k (step:=n0O F l ⟨(w.length:Int),Can⟩ q (j:Int) (i:Int)) (fun k=>den w a i k&&K5 (den w a) k j) (lo:=T5 (fun k=>den w a i k&&K5 (den w a) k j) j) (by simp [g1,g2]) j g4 (fun k k1 k2=>by
    unfold n0O;have hW:W ((k:Int)-1)=(k:Int)-1:=n3 (by omega) (by omega);simp only [hA i k (by omega) k2,hQ k k2,G0,hW];cases den w a i k
    ·rfl
    ·cases K5 (den w a) k j<;>rfl) F (by omega)
   generalize T5 (fun k=>den w a i k&&K5 (den w a) k j) j=k at *;have hlen:=b0C w a lo (deep+1) i k g1;rw [show max (k-i) 1=k-i by omega] at hlen;have e:a.size*(k-i)+a.size*(j-k)=a.size*(j-i):=by rw [<-Nat.mul_add];congr 1;omega
   have hap:I0 32 out (M3 w a lo (deep+1) i k)=true:=by simp [I0];omega
   have hnx:=ih k (out++M3 w a lo (deep+1) i k) fu (by omega) g2 (by rw [List.length_append];omega) (by omega);rw [List.append_assoc] at hnx;rw [<-hnx];refine e0m ?_;unfold g00;simp only [c1,decide_true,if_true,hdn,G0,G3 (i:=deep) (by omega),hr i k g1 (by omega) g4,hap]
  ·have c1:¬ (i:Int)<(j:Int):=by omega
   rw [if_neg hij];rw [List.append_nil];refine a0o ?_;unfold g00;simp only [c1,decide_false,false_eq_true,if_false]
end
section
variable {F:Nat} {l:List C0} {w:List Int} {Can:List (List Bool)}
theorem E0G (hN:w.length<=64) (hf:2000<F) (hlen:Can.length=l.length) (B1:∀ lo s,Old.At l lo s->c0F Can w.length (s.top lo) (den w s)) :
  ∀ (s:Old.Tm) (lo n deep i j:Nat),Old.At l lo s->s.size<=n->s.size<=400->deep+s.size<=1000->den w s i j=true->j<=w.length->I7 F n l ⟨(w.length:Int),Can⟩ (s.top lo:Int) (deep:Int) (i:Int) (j:Int)=some (M3 w s lo deep i j):=by
 have isq:∀ {s:Old.Tm} {lo i j:Nat},Old.At l lo s->i<=j->j<=w.length->a7 F ⟨(w.length:Int),Can⟩ (s.top lo:Int) (i:Int) (j:Int)=some (den w s i j):=fun {s lo i j} hat h1 h2=>by
  have:=hat.len;have:=s.size_pos;exact b0S (B1 lo s hat) (by rw [hlen];unfold Old.Tm.top;omega) hN h1 h2
 have ap:∀ {x y:List Z1},x.length<=100000->y.length<=100000->I0 32 x y=true:=fun {x y} h1 h2=>by simp [I0];omega
 have gl:∀ {s:Old.Tm} {lo deep i j:Nat},s.size<=400->den w s i j=true->j<=w.length->(M3 w s lo deep i j).length<=30000:=fun {s lo deep i j} h1 h2 h3=>by
  have h4:=b0C w s lo deep i j h2;have h5:s.size*max (j-i) 1<=400*64:=Nat.mul_le_mul h1 (by omega);omega
 intro s
 induction s with
 |
  eps=>
  intro lo n deep i j hat hn h4 hd hden hj;obtain ⟨n,rfl⟩:∃ m,n=m+1:=⟨n-1,by simp only [Old.Tm.size] at hn;omega⟩
  have hl:=hat.len;have hin:B0 l (Old.Tm.top .eps lo:Int)=true:=R0 (by omega) (by unfold Old.Tm.top;simp only [Old.Tm.size] at hl ⊢;omega);unfold I7;rw [hat.D2];simp only [hin,if_true,Old.Tm.node];rfl
 |
  leaf st=>
  intro lo n deep i j hat hn h4 hd hden hj;obtain ⟨n,rfl⟩:∃ m,n=m+1:=⟨n-1,by simp only [Old.Tm.size] at hn;omega⟩
  have hl:=hat.len;have hin:B0 l (Old.Tm.top (.leaf st) lo:Int)=true:=R0 (by omega) (by unfold Old.Tm.top;simp only [Old.Tm.size] at hl ⊢;omega);unfold I7;rw [hat.D2];simp only [hin,if_true,Old.Tm.node];rfl
 |
  cat a b iha ihb=>
  intro lo n deep i j hat hn h4 hd hden hj;obtain ⟨n,rfl⟩:∃ m,n=m+1:=⟨n-1,by simp only [Old.Tm.size] at hn;omega⟩
  have hl:=hat.len;simp only [Old.Tm.size] at hn h4 hd hl;have hin:B0 l (Old.Tm.top (.cat a b) lo:Int)=true:=R0 (by omega) (by unfold Old.Tm.top;simp only [Old.Tm.size];omega);obtain ⟨ha,hb,_⟩:=(Old.At.bin (a:=a) (b:=b) rfl rfl).1 hat;obtain ⟨⟨g1,g2⟩,g3,g4⟩:=p0C hden;have hdn:=n0k (step:=m0a F l ⟨(w.length:Int),Can⟩ (Old.Tm.top (.cat a b) lo:Int) (i:Int) (j:Int)) (fun k=>den w a i k&&den w b k j) (lo:=T5 (fun k=>den w a i k&&den w b k j) j) (by simp [g1,g2]) j g4 (fun k k1 k2=>by
   unfold m0a;have hW:W ((k:Int)-1)=(k:Int)-1:=n3 (by omega) (by omega);rw [hat.D2];simp only [Old.Tm.node,isq ha (show i<=k by omega) (show k<=w.length by omega),isq hb k2 hj,G0,hW];cases den w a i k
   ·rfl
   ·cases den w b k j<;>rfl) F (by omega)
  unfold M3;generalize T5 (fun k=>den w a i k&&den w b k j) j=k at *;have e1:=iha lo n (deep+1) i k ha (by omega) (by omega) (by omega) g1 (by omega);have e2:=ihb (lo+a.size) n (deep+1) k j hb (by omega) (by omega) (by omega) g2 hj;have l1:=gl (lo:=lo) (deep:=deep+1) (show a.size<=400 by omega) g1 (show k<=w.length by omega);have l2:=gl (lo:=lo+a.size) (deep:=deep+1) (show b.size<=400 by omega) g2 hj;unfold I7;rw [hat.D2];have hap1:I0 32 [(⟨(deep:Int),(Old.Tm.top (.cat a b) lo:Int),(i:Int),(j:Int)⟩:Z1)] (M3 w a lo (deep+1) i k)=true:=ap (by simp) (by omega);have hap2:I0 32 ([(⟨(deep:Int),(Old.Tm.top (.cat a b) lo:Int),(i:Int),(j:Int)⟩:Z1)]++M3 w a lo (deep+1) i k) (M3 w b (lo+a.size) (deep+1) k j)=true:=ap (by simp;omega) (by omega);simp only [hin,if_true,Old.Tm.node,beq_self_eq_true,hdn,G0,G3 (i:=deep) (by omega),e1,hap1,e2,hap2];simp
 |
  alt a b iha ihb=>
  intro lo n deep i j hat hn h4 hd hden hj;obtain ⟨n,rfl⟩:∃ m,n=m+1:=⟨n-1,by simp only [Old.Tm.size] at hn;omega⟩
  have hl:=hat.len;simp only [Old.Tm.size] at hn h4 hd hl;have hin:B0 l (Old.Tm.top (.alt a b) lo:Int)=true:=R0 (by omega) (by unfold Old.Tm.top;simp only [Old.Tm.size];omega);obtain ⟨ha,hb,_⟩:=(Old.At.bin (a:=a) (b:=b) rfl rfl).1 hat;have hij:=d0k w _ i j hden;unfold M3 I7;rw [hat.D2];simp only [hin,if_true,Old.Tm.node,show ((4:Int)==3)=false from rfl,false_eq_true,if_false,beq_self_eq_true,isq ha hij hj,G0,G3 (i:=deep) (by omega)];cases c:den w a i j with
  |
   true=>
   have e1:=iha lo n (deep+1) i j ha (by omega) (by omega) (by omega) c hj;have hap:I0 32 [(⟨(deep:Int),(Old.Tm.top (.alt a b) lo:Int),(i:Int),(j:Int)⟩:Z1)] (M3 w a lo (deep+1) i j)=true:=ap (by simp) (by have:=gl (lo:=lo) (deep:=deep+1) (show a.size<=400 by omega) c hj;omega);simp only [if_true,e1,G0,hap];rfl
  |
   false=>
   have hb2:den w b i j=true:=by simp only [den,c,Bool.false_or] at hden;exact hden
   have e1:=ihb (lo+a.size) n (deep+1) i j hb (by omega) (by omega) (by omega) hb2 hj;have hap:I0 32 [(⟨(deep:Int),(Old.Tm.top (.alt a b) lo:Int),(i:Int),(j:Int)⟩:Z1)] (M3 w b (lo+a.size) (deep+1) i j)=true:=ap (by simp) (by have:=gl (lo:=lo+a.size) (deep:=deep+1) (show b.size<=400 by omega) hb2 hj;omega);simp only [false_eq_true,if_false,e1,G0,hap];rfl
 |
  star a iha=>
  intro lo n deep i j hat hn h4 hd hden hj;obtain ⟨n,rfl⟩:∃ m,n=m+1:=⟨n-1,by simp only [Old.Tm.size] at hn;omega⟩
  have hl:=hat.len;simp only [Old.Tm.size] at hn h4 hd hl;have hin:B0 l (Old.Tm.top (.star a) lo:Int)=true:=R0 (by omega) (by unfold Old.Tm.top;simp only [Old.Tm.size];omega);obtain ⟨ha,_⟩:=(Old.At.un (a:=a) rfl rfl).1 hat;have hA:(gt l (Old.Tm.top (.star a) lo:Int)).A=(a.top lo:Int):=by rw [hat.D2];rfl
  have hst:=x0Z (F:=F) (l:=l) (w:=w) (Can:=Can) (r:=I7 F n) (a:=a) (lo:=lo) (deep:=deep) (j:=j) (q:=(Old.Tm.top (.star a) lo:Int)) (by omega) (by omega) hf
   (fun i k h1 h2=>by rw [hA];exact isq ha h1 (by omega)) (fun k h1=>isq hat h1 hj) (fun i k h1 h2 h3=>by rw [hA];exact iha lo n (deep+1) i k ha (by omega) (by omega) (by omega) h1 (by omega))
   (j-i) i [(⟨(deep:Int),(Old.Tm.top (.star a) lo:Int),(i:Int),(j:Int)⟩:Z1)] F (le_refl _) hden (by
    have:a.size*(j-i)<=400*64:=Nat.mul_le_mul (by omega) (by omega);simp;omega) (by omega)
  unfold M3 I7;rw [hat.D2];simp only [hin,if_true,Old.Tm.node,show ((5:Int)==3)=false from rfl,show ((5:Int)==4)=false from rfl,false_eq_true,if_false,beq_self_eq_true,hst,G0];rfl
 |
  maybe a iha=>
  intro lo n deep i j hat hn h4 hd hden hj;obtain ⟨n,rfl⟩:∃ m,n=m+1:=⟨n-1,by simp only [Old.Tm.size] at hn;omega⟩
  have hl:=hat.len;simp only [Old.Tm.size] at hn h4 hd hl;have hin:B0 l (Old.Tm.top (.maybe a) lo:Int)=true:=R0 (by omega) (by unfold Old.Tm.top;simp only [Old.Tm.size];omega);obtain ⟨ha,_⟩:=(Old.At.un (a:=a) rfl rfl).1 hat;have hij:=d0k w _ i j hden;unfold M3 I7;rw [hat.D2];simp only [hin,if_true,Old.Tm.node,show ((6:Int)==3)=false from rfl,show ((6:Int)==4)=false from rfl,show ((6:Int)==5)=false from rfl,false_eq_true,if_false,beq_self_eq_true,G3 (i:=deep) (by omega)]
  by_cases c:i<j
  ·have c1:(i:Int)<(j:Int):=by omega
   have hda:den w a i j=true:=by
    simp only [den] at hden;have:(i==j)=false:=by rw [beq_eq_false_iff_ne];omega
    rw [this,Bool.false_or] at hden;exact hden
   have e1:=iha lo n (deep+1) i j ha (by omega) (by omega) (by omega) hda hj;have hap:I0 32 [(⟨(deep:Int),(Old.Tm.top (.maybe a) lo:Int),(i:Int),(j:Int)⟩:Z1)] (M3 w a lo (deep+1) i j)=true:=ap (by simp) (by have:=gl (lo:=lo) (deep:=deep+1) (show a.size<=400 by omega) hda hj;omega);simp only [c,c1,decide_true,if_true,e1,G0,hap];rfl
  ·have c1:¬ (i:Int)<(j:Int):=by omega
   simp only [c,c1,decide_false,false_eq_true,if_false]
 |
  group m a iha=>
  intro lo n deep i j hat hn h4 hd hden hj;obtain ⟨n,rfl⟩:∃ m,n=m+1:=⟨n-1,by simp only [Old.Tm.size] at hn;omega⟩
  have hl:=hat.len;simp only [Old.Tm.size] at hn h4 hd hl;have hin:B0 l (Old.Tm.top (.group m a) lo:Int)=true:=R0 (by omega) (by unfold Old.Tm.top;simp only [Old.Tm.size];omega);obtain ⟨ha,_⟩:=(Old.At.un (a:=a) rfl rfl).1 hat;have hda:den w a i j=true:=hden;have e1:=iha lo n (deep+1) i j ha (by omega) (by omega) (by omega) hda hj;have hap:I0 32 [(⟨(deep:Int),(Old.Tm.top (.group m a) lo:Int),(i:Int),(j:Int)⟩:Z1)] (M3 w a lo (deep+1) i j)=true:=ap (by simp) (by have:=gl (lo:=lo) (deep:=deep+1) (show a.size<=400 by omega) hda hj;omega);unfold M3 I7;rw [hat.D2];simp only [hin,if_true,Old.Tm.node,show ((7:Int)==3)=false from rfl,show ((7:Int)==4)=false from rfl,show ((7:Int)==5)=false from rfl,show ((7:Int)==6)=false from rfl,false_eq_true,if_false,beq_self_eq_true,G3 (i:=deep) (by omega),e1,G0,hap];rfl
 |
  iter a iha=>
  intro lo n deep i j hat hn h4 hd hden hj;obtain ⟨n,rfl⟩:∃ m,n=m+1:=⟨n-1,by simp only [Old.Tm.size] at hn;omega⟩
  have hl:=hat.len;simp only [Old.Tm.size] at hn h4 hd hl;have hin:B0 l (Old.Tm.top (.iter a) lo:Int)=true:=R0 (by omega) (by unfold Old.Tm.top;simp only [Old.Tm.size];omega);obtain ⟨ha,_⟩:=(Old.At.un (a:=a) rfl rfl).1 hat;have hda:den w a i j=true:=hden;have e1:=iha lo n (deep+1) i j ha (by omega) (by omega) (by omega) hda hj;have hap:I0 32 [(⟨(deep:Int),(Old.Tm.top (.iter a) lo:Int),(i:Int),(j:Int)⟩:Z1)] (M3 w a lo (deep+1) i j)=true:=ap (by simp) (by have:=gl (lo:=lo) (deep:=deep+1) (show a.size<=400 by omega) hda hj;omega);unfold M3 I7;rw [hat.D2];simp only [hin,if_true,Old.Tm.node,show ((8:Int)==3)=false from rfl,show ((8:Int)==4)=false from rfl,show ((8:Int)==5)=false from rfl,show ((8:Int)==6)=false from rfl,show ((8:Int)==7)=false from rfl,false_eq_true,if_false,beq_self_eq_true,G3 (i:=deep) (by omega),e1,G0,hap];rfl
end
section
variable {F:Nat} {l:List C0} {w:List Int} {t:Old.Tm}
theorem x0J (ht:Old.O2 l t) (hw:∀ x∈l,o3 x) (hb:∀ x∈w,Z5 .u8 x) (hN:w.length<=64) (hf:2000<F) (hR:B6 F l=some true) :
  g0A F l w=some (if den w t 0 w.length then (M3 w t 0 1 0 w.length,0) else ([],7)):=by
 have h400:=ht.le;have hln:=ht.len;have hp:=t.size_pos;obtain ⟨Can,c1,c2,c3⟩:=w0G (F:=F) ht hw hb hN hf;have hW:W ((l.length:Int)-1)=(t.top 0:Int):=by rw [n3 (by omega) (by omega)];unfold Old.Tm.top;omega
 have hw64:¬ (w.length:Int)>64:=by omega
 have his:=b0S (F:=F) (c3 0 t ht.at0) (show t.top 0<Can.length by rw [c2];unfold Old.Tm.top;omega) hN (Nat.zero_le w.length) (le_refl _);have his':a7 F ⟨(w.length:Int),Can⟩ (t.top 0:Int) 0 (w.length:Int)=some (den w t 0 w.length):=his;unfold g0A j0e;simp only [hR,G0,Bool.not_true,false_eq_true,if_false,hw64,decide_false,bne_self_eq_false,c1,hW,his'];cases c:den w t 0 w.length with
 |false=>simp only [Bool.not_false,if_true,false_eq_true,if_false]
 |
  true=>
  have hg:=E0G (F:=F) (l:=l) hN hf c2 c3 t 0 F 1 0 w.length ht.at0 (by omega) (by omega) (by omega) c (le_refl _);have hg':I7 F F l ⟨(w.length:Int),Can⟩ (t.top 0:Int) 1 0 (w.length:Int)=some (M3 w t 0 1 0 w.length):=hg;simp only [Bool.not_true,false_eq_true,if_false,hg',G0,if_true]
end
section
variable {w:List Int}
theorem Fit.den {s:Tm} {i:Nat} {P:Pt} (h:Fit w s i P):Go.Proofs.YtdficaoajalfaaaGreat.den w s i (i+P.wid)=true:=by
 induction h with
 |eps=>simp [Go.Proofs.YtdficaoajalfaaaGreat.den,Pt.wid]
 |leaf h1 h2=>simp [Go.Proofs.YtdficaoajalfaaaGreat.den,Pt.wid,h1,h2]
 |
  @cat a b i x y _ _ i1 i2=>
  simp only [Go.Proofs.YtdficaoajalfaaaGreat.den,Pt.wid,any_eq_true,mem_range,and_eq_true,decide_eq_true_eq];exact ⟨i+x.wid,by omega,by omega,i1,by rw [<-add_assoc];exact i2⟩
 |altL _ ih=>simp only [Go.Proofs.YtdficaoajalfaaaGreat.den,Pt.wid,ih,Bool.true_or]
 |altR _ ih=>simp only [Go.Proofs.YtdficaoajalfaaaGreat.den,Pt.wid,ih,Bool.or_true]
 |star0=>simp only [Go.Proofs.YtdficaoajalfaaaGreat.den];rw [f0k];simp [Pt.wid]
 |
  @star a i x r _ hp _ i1 i2=>
  simp only [Go.Proofs.YtdficaoajalfaaaGreat.den] at i2 ⊢;rw [f0k];simp only [Pt.wid,or_eq_true,any_eq_true,mem_range,and_eq_true,decide_eq_true_eq];exact .inr ⟨i+x.wid,by omega,by omega,i1,by rw [<-add_assoc];exact i2⟩
 |maybe0=>simp [Go.Proofs.YtdficaoajalfaaaGreat.den,Pt.wid]
 |maybe _ _ ih=>simp only [Go.Proofs.YtdficaoajalfaaaGreat.den,Pt.wid,ih,Bool.or_true]
 |group _ ih=>exact ih
 |iter _ ih=>exact ih
theorem f0Q:∀ {s:Tm} {i j:Nat},den w s i j=true->∃ P,Fit w s i P/\i+P.wid=j:=by
 intro s
 induction s with
 |eps=>intro i j h;exact ⟨.nil,.eps,by simpa [den,Pt.wid] using h⟩
 |
  leaf S=>
  intro i j h;simp only [den,and_eq_true,beq_iff_eq,decide_eq_true_eq] at h;exact ⟨.byte,.leaf h.2.1 h.2.2,h.1.symm⟩
 |
  cat a b ia ib=>
  intro i j h;simp only [den,any_eq_true,mem_range,and_eq_true,decide_eq_true_eq] at h;obtain ⟨k,_,_,h1,h2⟩:=h;obtain ⟨x,x1,rfl⟩:=ia h1;obtain ⟨y,y1,rfl⟩:=ib h2;exact ⟨.two x y,.cat x1 y1,by simp only [Pt.wid];omega⟩
 |
  alt a b ia ib=>
  intro i j h;simp only [den,or_eq_true] at h;rcases h with h | h
  ·obtain ⟨x,x1,x2⟩:=ia h;exact ⟨.one x,.altL x1,x2⟩
  ·obtain ⟨x,x1,x2⟩:=ib h;exact ⟨.other x,.altR x1,x2⟩
 |
  star a ia=>
  have key:∀ (n i j:Nat),j-i<=n->den w (.star a) i j=true->∃ P,Fit w (.star a) i P/\i+P.wid=j:=by
   intro n
   induction n with
   |
    zero=>
    intro i j hn h;have hle:=d0k w _ _ _ h;exact ⟨.nil,.star0,by simp only [Pt.wid];omega⟩
   |
    succ n ih=>
    intro i j hn h;simp only [den] at h;rw [f0k] at h;simp only [or_eq_true,beq_iff_eq,any_eq_true,mem_range,and_eq_true,decide_eq_true_eq] at h;rcases h with h | ⟨k,h1,h2,h3,h4⟩
    ·exact ⟨.nil,.star0,by simp only [Pt.wid];omega⟩
    ·obtain ⟨x,x1,rfl⟩:=ia h3;obtain ⟨r,r1,r2⟩:=ih (i+x.wid) j (by omega) (by simp only [den];exact h4);exact ⟨.two x r,.star x1 (by omega) r1,by simp only [Pt.wid];omega⟩
  intro i j h;exact key (j-i) i j (le_refl _) h
 |
  maybe a ia=>
  intro i j h;simp only [den,or_eq_true,beq_iff_eq] at h
  by_cases c:i=j
  ·exact ⟨.nil,.maybe0,by simp only [Pt.wid];omega⟩
  ·rcases h with h | h
   ·exact absurd h c
   ·obtain ⟨x,x1,x2⟩:=ia h;exact ⟨.one x,.maybe x1 (by omega),x2⟩
 |group m a ia=>intro i j h;obtain ⟨x,x1,x2⟩:=ia (show den w a i j=true from h);exact ⟨.one x,.group x1,x2⟩
 |iter a ia=>intro i j h;obtain ⟨x,x1,x2⟩:=ia (show den w a i j=true from h);exact ⟨.one x,.iter x1,x2⟩
def Mn (w:List Int) (s:Tm) (i:Nat) (P:Pt):Prop:=∀ Q,Fit w s i Q->P.wid=Q.wid->P=Q\/PA P Q
def stE (F:Nat->Pt->List Z1):Nat->Pt->List Z1
 |k,.two x r=>F k x++stE F (k+x.wid) r
 |_,_=>[]
def K2:Tm->Nat->Nat->Nat->Pt->List Z1
 |.eps,lo,d,k,P=>[⟨(d:Int),(Tm.top .eps lo:Int),(k:Int),((k+P.wid:Nat):Int)⟩]
 |.leaf S,lo,d,k,P=>[⟨(d:Int),(Tm.top (.leaf S) lo:Int),(k:Int),((k+P.wid:Nat):Int)⟩]
 |.cat a b,lo,d,k,P=>(⟨(d:Int),(Tm.top (.cat a b) lo:Int),(k:Int),((k+P.wid:Nat):Int)⟩:Z1) :: (match P with | .two x y=>K2 a lo (d+1) k x++K2 b (lo+a.size) (d+1) (k+x.wid) y | _=>[])
 |.alt a b,lo,d,k,P=>(⟨(d:Int),(Tm.top (.alt a b) lo:Int),(k:Int),((k+P.wid:Nat):Int)⟩:Z1) :: (match P with | .one x=>K2 a lo (d+1) k x | .other x=>K2 b (lo+a.size) (d+1) k x | _=>[])
 |.star a,lo,d,k,P=>(⟨(d:Int),(Tm.top (.star a) lo:Int),(k:Int),((k+P.wid:Nat):Int)⟩:Z1) :: stE (fun k x=>K2 a lo (d+1) k x) k P
 |.maybe a,lo,d,k,P=>(⟨(d:Int),(Tm.top (.maybe a) lo:Int),(k:Int),((k+P.wid:Nat):Int)⟩:Z1) :: (match P with | .one x=>K2 a lo (d+1) k x | _=>[])
 |.group m a,lo,d,k,P=>(⟨(d:Int),(Tm.top (.group m a) lo:Int),(k:Int),((k+P.wid:Nat):Int)⟩:Z1) :: (match P with | .one x=>K2 a lo (d+1) k x | _=>[])
 |.iter a,lo,d,k,P=>(⟨(d:Int),(Tm.top (.iter a) lo:Int),(k:Int),((k+P.wid:Nat):Int)⟩:Z1) :: (match P with | .one x=>K2 a lo (d+1) k x | _=>[])
theorem t0R {c:Nat->Bool} {j k:Nat} (h:k<=j) (hc:c k=true) (hm:∀ k',k<=k'->k'<=j->c k'=true->k'=k):T5 c j=k:=by
 obtain ⟨h1,h2,h3⟩:=j0s h hc;exact hm _ h2 h3 h1
theorem r0m {x x' y y':Pt} (h:Pt.two x y=.two x' y'\/PA (.two x y) (.two x' y')):x'.wid<=x.wid:=by
 rcases h with h | h
 ·injection h with h1 h2;rw [h1];exact le_refl _
 ·cases h with
  |wid h=>omega
  |fst h _=>omega
  |snd _=>exact le_refl _
theorem s0Y {x x' y y':Pt} (hw:x.wid=x'.wid) (h:Pt.two x y=.two x' y'\/PA (.two x y) (.two x' y')):x=x'\/PA x x':=by
 rcases h with h | h
 ·injection h with h1 h2;exact .inl h1
 ·cases h with
  |wid h=>omega
  |fst _ h=>exact .inr h
  |snd _=>exact .inl rfl
theorem PA.irr {x:Pt} (h:PA x x):False:=by
 induction x with
 |nil=>cases h
 |byte=>cases h
 |
  two x y ix iy=>
  cases h with
  |wid h=>omega
  |fst _ h=>exact ix h
  |snd h=>exact iy h
 |one x ix=>cases h with | one h=>exact ix h
 |other x ix=>cases h with | other h=>exact ix h
theorem q03 {x y y':Pt} (h:Pt.two x y=.two x y'\/PA (.two x y) (.two x y')):y=y'\/PA y y':=by
 rcases h with h | h
 ·injection h with h1 h2;exact .inl h2
 ·cases h with
  |wid h=>omega
  |fst _ h=>exact h.irr.elim
  |snd h=>exact .inr h
theorem C0c:∀ (s:Tm) (lo d i:Nat) (P:Pt),Fit w s i P->Mn w s i P->M3 w s lo d i (i+P.wid)=K2 s lo d i P:=by
 intro s
 induction s with
 |eps=>intro lo d i P _ _;rfl
 |leaf S=>intro lo d i P _ _;rfl
 |
  cat a b ia ib=>
  intro lo d i P h hm;cases h with | @cat _ _ _ x y hx hy=>
  have hk:T5 (fun k=>den w a i k&&den w b k (i+(Pt.two x y).wid)) (i+(Pt.two x y).wid)=i+x.wid:=by
   refine t0R (by simp only [Pt.wid];omega) ?_ fun k' h1 h2 h3=>?_
   ·have:=hx.den;have h2:=hy.den;simp only [Pt.wid,and_eq_true];exact ⟨this,by rw [<-add_assoc];exact h2⟩
   ·simp only [and_eq_true] at h3;obtain ⟨x',x1,rfl⟩:=f0Q h3.1;obtain ⟨y',y1,y2⟩:=f0Q h3.2;have:=r0m (hm (.two x' y') (.cat x1 y1) (by simp only [Pt.wid] at y2 ⊢;omega));omega
  simp only [M3,K2,hk];have e1:=ia lo (d+1) i x hx (fun x' h1 h2=>s0Y h2 (hm (.two x' y) (.cat h1 (by rw [<-h2];exact hy)) (by simp only [Pt.wid];omega)));have e2:=ib (lo+a.size) (d+1) (i+x.wid) y hy (fun y' h1 h2=>q03 (hm (.two x y') (.cat hx h1) (by simp only [Pt.wid];omega)));rw [e1,show i+(Pt.two x y).wid=i+x.wid+y.wid by simp only [Pt.wid];omega,e2]
 |
  alt a b ia ib=>
  intro lo d i P h hm;cases h with
  |
   @altL _ _ _ x hx=>
   simp only [M3,K2,Pt.wid,hx.den,if_true];rw [ia lo (d+1) i x hx (fun x' h1 h2=>by
    rcases hm (.one x') (.altL h1) h2 with h | h
    ·injection h with h;exact .inl h
    ·cases h with | one h=>exact .inr h)]
  |
   @altR _ _ _ x hx=>
   have hn:den w a i (i+x.wid)=false:=by
    cases c:den w a i (i+x.wid) with
    |false=>rfl
    |
     true=>
     obtain ⟨x',x1,x2⟩:=f0Q c;rcases hm (.one x') (.altL x1) (by simp only [Pt.wid];omega) with h | h
     ·cases h
     ·cases h
   simp only [M3,K2,Pt.wid,hn,if_false,false_eq_true];rw [ib (lo+a.size) (d+1) i x hx (fun x' h1 h2=>by
    rcases hm (.other x') (.altR h1) h2 with h | h
    ·injection h with h;exact .inl h
    ·cases h with | other h=>exact .inr h)]
 |
  star a ia=>
  intro lo d i P h hm;simp only [M3,K2];rw [show i+P.wid-i=P.wid by omega];have key:∀ (n i:Nat) (P:Pt),P.wid<=n->Fit w (.star a) i P->Mn w (.star a) i P->b0r (fun i k=>M3 w a lo (d+1) i k) (den w a) n i (i+P.wid)=stE (fun k x=>K2 a lo (d+1) k x) i P:=by
   intro n
   induction n with
   |
    zero=>
    intro i P hn h hm;cases h with
    |star0=>rfl
    |star hx hp _=>simp only [Pt.wid] at hn;omega
   |
    succ n ih=>
    intro i P hn h hm;cases h with
    |star0=>simp [b0r,stE,Pt.wid]
    |
     @star _ _ x r hx hp hr=>
     have hk:T5 (fun k=>den w a i k&&K5 (den w a) k (i+(Pt.two x r).wid)) (i+(Pt.two x r).wid)=i+x.wid:=by
      refine t0R (by simp only [Pt.wid];omega) ?_ fun k' h1 h2 h3=>?_
      ·have:=hx.den;have h2:=hr.den;simp only [den] at h2;simp only [Pt.wid,and_eq_true];exact ⟨this,by rw [<-add_assoc];exact h2⟩
      ·simp only [and_eq_true] at h3;obtain ⟨x',x1,rfl⟩:=f0Q h3.1;obtain ⟨y',y1,y2⟩:=f0Q (s:=.star a) (i:=i+x'.wid) (j:=i+(Pt.two x r).wid) (by simp only [den];exact h3.2);have:=r0m (hm (.two x' y') (.star x1 (by omega) y1) (by simp only [Pt.wid] at y2 ⊢;omega));omega
     simp only [b0r,stE,hk];have e1:=ia lo (d+1) i x hx (fun x' h1 h2=>s0Y h2 (hm (.two x' r) (.star h1 (by omega) (by rw [<-h2];exact hr)) (by simp only [Pt.wid];omega)));have e2:=ih (i+x.wid) r (by simp only [Pt.wid] at hn;omega) hr (fun y' h1 h2=>q03 (hm (.two x y') (.star hx hp h1) (by simp only [Pt.wid];omega)));rw [if_pos (by simp only [Pt.wid];omega),e1,show i+(Pt.two x r).wid=i+x.wid+r.wid by simp only [Pt.wid];omega,e2]
  rw [key P.wid i P (le_refl _) h hm]
 |
  maybe a ia=>
  intro lo d i P h hm;cases h with
  |maybe0=>simp [M3,K2,Pt.wid]
  |
   @maybe _ _ x hx hp=>
   simp only [M3,K2];rw [if_pos (show i<i+(Pt.one x).wid by simp only [Pt.wid];omega)];simp only [Pt.wid];rw [ia lo (d+1) i x hx (fun x' h1 h2=>by
    rcases hm (.one x') (.maybe h1 (by omega)) h2 with h | h
    ·injection h with h;exact .inl h
    ·cases h with | one h=>exact .inr h)]
 |
  group m a ia=>
  intro lo d i P h hm;cases h with | @group _ _ _ x hx=>
  simp only [M3,K2,Pt.wid];rw [ia lo (d+1) i x hx (fun x' h1 h2=>by
   rcases hm (.one x') (.group h1) h2 with h | h
   ·injection h with h;exact .inl h
   ·cases h with | one h=>exact .inr h)]
 |
  iter a ia=>
  intro lo d i P h hm;cases h with | @iter _ _ x hx=>
  simp only [M3,K2,Pt.wid];rw [ia lo (d+1) i x hx (fun x' h1 h2=>by
   rcases hm (.one x') (.iter h1) h2 with h | h
   ·injection h with h;exact .inl h
   ·cases h with | one h=>exact .inr h)]
end
theorem V7 {α:Type} [Inhabited α] {o:List α} {i j:Nat} {x:α} (h:i<o.length):gt (o.set i x) (j:Int)=if j=i then x else gt o (j:Int):=by
 by_cases c:j=i
 ·subst c;rw [if_pos rfl];exact b0d h
 ·rw [if_neg c];exact X7 (Ne.symm c)
def C5:Tm->Int->Bool
 |.eps,_=>false
 |.leaf _,_=>false
 |.cat a b,g=>C5 a g||C5 b g
 |.alt a b,g=>C5 a g||C5 b g
 |.star a,g=>C5 a g
 |.maybe a,g=>C5 a g
 |.group m a,g=>m==g||C5 a g
 |.iter a,g=>C5 a g
def P9 (g:Int) (y:C0):Bool:=y.Kind==7&&y.N==g
theorem h0H (g:Int):∀ (s:Tm) (lo:Nat),(s.flat lo).any (P9 g)=C5 s g:=by
 intro s
 induction s with
 |eps=>intro lo;rfl
 |leaf S=>intro lo;rfl
 |cat a b ia ib=>intro lo;simp [Tm.flat,ia,ib,C5,P9,Tm.node]
 |alt a b ia ib=>intro lo;simp [Tm.flat,ia,ib,C5,P9,Tm.node]
 |star a ia=>intro lo;simp [Tm.flat,ia,C5,P9,Tm.node]
 |maybe a ia=>intro lo;simp [Tm.flat,ia,C5,P9,Tm.node]
 |group m a ia=>intro lo;simp [Tm.flat,ia,C5,P9,Tm.node,Bool.or_comm]
 |iter a ia=>intro lo;simp [Tm.flat,ia,C5,P9,Tm.node]
theorem s0R {M0:List C0} {g:Nat} (h:g<10):(g:Int)∈c0e M0↔M0.any (P9 (g:Int))=true:=by
 unfold c0e O8;rw [List.mem_map];constructor
 ·rintro ⟨n,h1,h2⟩
  have:n=g:=by omega
  subst this;exact (List.mem_filter.1 h1).2
 ·intro h1;exact ⟨g,List.mem_filter.2 ⟨mem_range.2 h,h1⟩,rfl⟩
section
variable {l:List C0} {t:Tm}
theorem n0u (hR:K1 l=true) {s:Tm} {lo g:Nat} (h:At l lo s) (hg:g<10):(g:Int)∈Z3 l (s.top lo:Int)↔C5 s (g:Int)=true:=by
 have ht:=h.j5;have hp:=s.size_pos;unfold Z3;rw [if_neg (by omega),s0R hg,c0P hR h];have e:I1 l (lo:Int) ((s.top lo:Int)+1)=s.flat lo:=by
  unfold I1;rw [show ((s.top lo:Int)+1-(lo:Int)).toNat=s.size by unfold Tm.top;omega,Int.toNat_natCast];exact h
 rw [e,h0H]
theorem le_last {xs:List Int} (h:xs.Pairwise (· < ·)) {x:Int} (hx:x∈xs):x<=xs.getLast?.getD 0:=by
 cases c:xs.getLast? with
 |none=>rw [List.getLast?_eq_none_iff] at c;subst c;simp at hx
 |
  some y=>
  obtain ⟨ys,rfl⟩:=List.getLast?_eq_some_iff.1 c;rcases List.mem_append.1 hx with h1 | h1
  ·have:=(List.pairwise_append.1 h).2.2 x h1 y (by simp);simp only [Option.getD_some];omega
  ·simp only [List.mem_singleton] at h1;subst h1;simp
theorem o04 (hR:K1 l=true) (ht:O2 l t) {g:Int} (h:C5 t g=true) (h1:1<=g) (h2:g<=9):g<=o9 l:=by
 obtain ⟨k,rfl⟩:∃ k:Nat,g=(k:Int):=⟨g.toNat,by omega⟩
 have:=(n0u hR ht.at0 (g:=k) (by omega)).2 h;have htop:((t.top 0:Nat):Int)=(l.length:Int)-1:=by have:=t.size_pos;have:=ht.len;unfold Tm.top;omega
 rw [htop] at this;refine le_last ?_ this;unfold Z3;split
 ·exact List.Pairwise.nil
 ·unfold c0e O8;rw [List.pairwise_map];exact (List.Pairwise.filter _ List.pairwise_lt_range).imp fun h=>by omega
def Ng:Tm->Prop
 |.eps=>True | .leaf _=>True | .cat a b=>Ng a/\Ng b | .alt a b=>Ng a/\Ng b
 |.star a=>Ng a | .maybe a=>Ng a | .group m a=>1<=m/\m<=9/\C5 a m=false/\Ng a | .iter a=>Ng a
theorem s0u:∀ {n:Nat} {a:List Int},T4 l n=some a->∀ j,j<n->∃ b,K6 l b j=true/\gt a (j:Int)=L3 l b j
 |0,a,h,j,hj=>by omega
 |
  n+1,a,h,j,hj=>by
  simp only [T4] at h;split at h
  ·cases h
  ·rename_i b hb;split at h
   ·rename_i hg;cases h;have hl:=(b0U hb).len
    by_cases e:j=n
    ·subst e;exact ⟨b,hg,c08 hl.symm⟩
    ·obtain ⟨c,h1,h2⟩:=s0u hb j (by omega);exact ⟨c,h1,by rw [b0u (by omega) (by omega)];exact h2⟩
   ·cases h
theorem y00 (hR:K1 l=true) {s:Tm} {lo:Nat} (h:At l lo s):∃ b,K6 l b (s.top lo)=true/\L3 l b (s.top lo)=lo:=by
 have ht:=h.j5;have h2:=c0P hR h;have hR':=hR;unfold K1 at hR';unfold P4 at hR' h2;cases e:T4 l l.length with
 |none=>rw [e] at hR';simp at hR'
 |
  some a=>
  rw [e] at hR' h2;dsimp only at hR' h2;split at h2
  ·rename_i hc;rw [if_pos hc] at hR';simp at hR'
  ·obtain ⟨b,b1,b2⟩:=s0u e (s.top lo) ht;exact ⟨b,b1,by rw [<-b2];exact h2⟩
theorem t0c (hR:K1 l=true):∀ (s:Tm) (lo:Nat),At l lo s->Ng s:=by
 intro s
 induction s with
 |eps=>intro lo _;trivial
 |leaf S=>intro lo _;trivial
 |cat a b ia ib=>intro lo h;obtain ⟨h1,h2,_⟩:=(At.bin (t:=.cat a b) rfl rfl).1 h;exact ⟨ia _ h1,ib _ h2⟩
 |alt a b ia ib=>intro lo h;obtain ⟨h1,h2,_⟩:=(At.bin (t:=.alt a b) rfl rfl).1 h;exact ⟨ia _ h1,ib _ h2⟩
 |star a ia=>intro lo h;exact ia _ ((At.un (t:=.star a) rfl rfl).1 h).1
 |maybe a ia=>intro lo h;exact ia _ ((At.un (t:=.maybe a) rfl rfl).1 h).1
 |
  group m a ia=>
  intro lo h;have ha:=((At.un (t:=.group m a) rfl rfl).1 h).1;obtain ⟨b,b1,b2⟩:=y00 hR h;have hg:=h.D2;unfold K6 at b1;rw [hg,b2,Int.toNat_natCast] at b1;simp only [and_eq_true,Bool.not_eq_true',decide_eq_true_eq] at b1;obtain ⟨⟨_,b3⟩,b4⟩:=b1;have e:M8 l lo (Tm.top (.group m a) lo)=a.flat lo:=by
   unfold M8;rw [show Tm.top (.group m a) lo-lo=a.size by simp only [Tm.top,Tm.size];omega];exact ha
  unfold a0O at b4;rw [e] at b4;have b5:(a.flat lo).any (P9 m)=false:=by simpa [Tm.node,P9] using b4
  rw [h0H] at b5;simp only [T8,Tm.node,beq_self_eq_true,if_true,and_eq_true,decide_eq_true_eq] at b3;exact ⟨of_decide_eq_true b3.2.1,of_decide_eq_true b3.2.2,b5,ia _ ha⟩
 |iter a ia=>intro lo h;exact ia _ ((At.un (t:=.iter a) rfl rfl).1 h).1
end
def stG (F:Nat->Pt->Int×Int->Int×Int):Nat->Pt->Int×Int->Int×Int
 |k,.two x r,c=>stG F (k+x.wid) r (F k x c)
 |_,_,c=>c
def E4 (g:Int):Tm->Nat->Pt->Int×Int->Int×Int
 |.cat a b,k,.two x y,c=>E4 g b (k+x.wid) y (E4 g a k x c)
 |.alt a _,k,.one x,c=>E4 g a k x c
 |.alt _ b,k,.other x,c=>E4 g b k x c
 |.star a,k,P,c=>stG (fun k x c=>E4 g a k x c) k P c
 |.maybe a,k,.one x,c=>E4 g a k x c
 |.group m a,k,.one x,c=>if m=g then ((k:Int),((k+x.wid:Nat):Int)) else E4 g a k x c
 |.iter a,k,.one x,c=>E4 g a k x (if C5 a g=true then (-1,-1) else c)
 |_,_,_,c=>c
theorem p0u {w:List Int} {g:Int} {s:Tm} {k:Nat} {P:Pt} (h:Fit w s k P):∀ c,C5 s g=false->E4 g s k P c=c:=by
 induction h with
 |eps=>intro c _;rfl
 |leaf _ _=>intro c _;rfl
 |
  cat _ _ i1 i2=>
  intro c h;simp only [C5,or_eq_false_iff] at h;simp only [E4,i1 c h.1,i2 c h.2]
 |altL _ ih=>intro c h;simp only [C5,or_eq_false_iff] at h;exact ih c h.1
 |altR _ ih=>intro c h;simp only [C5,or_eq_false_iff] at h;exact ih c h.2
 |star0=>intro c _;rfl
 |
  star _ _ _ i1 i2=>
  intro c h;have h1:=i1 c h;have h2:=i2 c h;simp only [E4] at h2;simp only [E4,stG,h1,h2]
 |maybe0=>intro c _;rfl
 |maybe _ _ ih=>intro c h;exact ih c h
 |
  group _ ih=>
  intro c h;simp only [C5,or_eq_false_iff,beq_eq_false_iff_ne] at h;simp only [E4,if_neg h.1,ih c h.2]
 |
  iter _ ih=>
  intro c h;simp only [C5] at h;simp only [E4,h,false_eq_true,if_false];exact ih _ h
def Wh (c:Int×Int):Prop:=c=(-1,-1)\/(0<=c.1/\0<=c.2)
theorem v0F {w:List Int} {g:Int} {s:Tm} {k:Nat} {P:Pt} (h:Fit w s k P):∀ c,Wh c->Wh (E4 g s k P c):=by
 induction h with
 |eps=>intro c h;exact h
 |leaf _ _=>intro c h;exact h
 |cat _ _ i1 i2=>intro c h;exact i2 _ (i1 _ h)
 |altL _ ih=>intro c h;exact ih _ h
 |altR _ ih=>intro c h;exact ih _ h
 |star0=>intro c h;exact h
 |star _ _ _ i1 i2=>intro c h;exact i2 _ (i1 _ h)
 |maybe0=>intro c h;exact h
 |maybe _ _ ih=>intro c h;exact ih _ h
 |
  group _ ih=>
  intro c h;simp only [E4];split
  ·exact .inr ⟨by simp only;omega,by simp only;omega⟩
  ·exact ih _ h
 |
  iter _ ih=>
  intro c h;simp only [E4];refine ih _ ?_;split
  ·exact .inl rfl
  ·exact h
def pr (v:List Int) (g:Nat):Int×Int:=(gt v ((2*g-1:Nat):Int),gt v ((2*g:Nat):Int))
section
variable {l:List C0} {t:Tm} {T g:Nat}
theorem j0m (k:Int) (v:List Int) (ms:List G2):(S6 k (-1) v ms).length=v.length:=h0s ..
theorem o0Q {k:Int} {v:List Int} (hv:v.length=1+2*T) (h1:1<=g) (h2:g<=T) (K G:Int) (hK:K=1\/K=2\/K=3) :
  pr (o5 k (-1) v ⟨K,G⟩) g=if G=(g:Int) then (if K=1 then (k,(pr v g).2) else if K=2 then ((pr v g).1,k) else (-1,-1)) else pr v g:=by
 unfold o5;simp only;have hT:((v.length:Int)-1) / 2=T:=by rw [hv];omega
 rw [hT]
 by_cases c:G<1\/(T:Int)<G
 ·rw [if_pos c,if_neg (show ¬ G=(g:Int) by omega)]
 ·rw [if_neg c];obtain ⟨G',rfl⟩:∃ n:Nat,G=(n:Int):=⟨G.toNat,by omega⟩
  have e1:(2*(G':Int)-1).toNat=2*G'-1:=by omega
  have e2:(2*(G':Int)).toNat=2*G':=by omega
  rw [e1,e2];have i1:2*G'-1<v.length:=by omega
  have i2:2*G'<v.length:=by omega
  have i3:∀ x:Int,2*G'<(v.set (2*G'-1) x).length:=fun x=>by simpa using i2
  unfold pr
  by_cases e:G'=g
  ·subst e;rw [if_pos rfl];rcases hK with rfl | rfl | rfl
   ·simp only [if_true];rw [V7 i1,V7 i1,if_pos rfl,if_neg (by omega)]
   ·simp only [show ¬ (2:Int)=1 by omega,if_false,if_true];rw [V7 i2,V7 i2,if_neg (by omega),if_pos rfl]
   ·simp only [show ¬ (3:Int)=1 by omega,show ¬ (3:Int)=2 by omega,if_false,if_true];rw [V7 (i3 _),V7 (i3 _),V7 i1,if_neg (by omega),if_pos rfl,if_pos rfl]
  ·rw [if_neg (show ¬ (G':Int)=(g:Int) by omega)];rcases hK with rfl | rfl | rfl
   ·simp only [if_true];rw [V7 i1,V7 i1,if_neg (by omega),if_neg (by omega)]
   ·simp only [show ¬ (2:Int)=1 by omega,if_false,if_true];rw [V7 i2,V7 i2,if_neg (by omega),if_neg (by omega)]
   ·simp only [show ¬ (3:Int)=1 by omega,show ¬ (3:Int)=2 by omega,if_false,if_true];rw [V7 (i3 _),V7 (i3 _),V7 i1,V7 i1,if_neg (by omega),if_neg (by omega),if_neg (by omega),if_neg (by omega)]
theorem E0e (k:Int) {v:List Int} (hv:v.length=1+2*T) (m:G2):gt (o5 k (-1) v m) 0=gt v 0:=by
 unfold o5;have h0:∀ (o:List Int) (i:Nat) (x:Int),1<=i->gt (o.set i x) 0=gt o 0:=fun o i x h=>X7 (j:=0) (by omega);split
 ·rfl
 ·rename_i c;split
  ·exact h0 _ _ _ (by omega)
  ·split
   ·exact h0 _ _ _ (by omega)
   ·split
    ·rw [h0 _ _ _ (by omega),h0 _ _ _ (by omega)]
    ·rfl
theorem u0d (H7:List (Nat×Int)):∀ v,(r8 l v H7).length=v.length:=by
 induction H7 with
 |nil=>intro v;rfl
 |cons e r ih=>intro v;exact (ih _).trans (j0m _ _ _)
theorem B05 (H7:List (Nat×Int)):∀ v,v.length=1+2*T->gt (r8 l v H7) 0=gt v 0:=by
 have one:∀ (ms:List G2) (k:Int) (v:List Int),v.length=1+2*T->gt (S6 k (-1) v ms) 0=gt v 0:=by
  intro ms
  induction ms with
  |nil=>intro k v _;rfl
  |cons m r ih=>intro k v h;exact (ih k _ (by rw [m0K];exact h)).trans (E0e k h m)
 induction H7 with
 |nil=>intro v _;rfl
 |cons e r ih=>intro v h;exact (ih _ (by rw [j0m];exact h)).trans (one _ _ v h)
theorem b0D (k:Nat) (x:Int) (r:List (Nat×Int)) (v:List Int):r8 l v ((k,x) :: r)=r8 l (S6 (k:Int) (-1) v (N4 l [x])) r:=rfl
theorem o0o (q:Nat) (hq:q<l.length):N9 l (O0 q)=if (gt l (q:Int)).Kind=7 then [⟨1,(gt l (q:Int)).N⟩] else if (gt l (q:Int)).Kind=8 then (Z3 l (q:Int)).map fun g=>⟨3,g⟩ else []:=by
 unfold N9 O0;rw [show 2*(q:Int) / 2=q by omega,show 2*(q:Int) % 2=0 by omega,if_neg (by omega)];simp
theorem m0X (q:Nat) (hq:q<l.length):N9 l (cls q)=if (gt l (q:Int)).Kind=7 then [⟨2,(gt l (q:Int)).N⟩] else []:=by
 unfold N9 cls;rw [show (2*(q:Int)+1) / 2=q by omega,show (2*(q:Int)+1) % 2=1 by omega,if_neg (by omega)];simp
theorem f0T (x:Int):N4 l [x]=N9 l x:=by simp [N4]
theorem x0B (k:Int) (v:List Int):S6 k (-1) v []=v:=rfl
theorem r0C {k:Int} (h1:1<=g) (h2:g<=T):∀ (gs:List Int) (v:List Int),v.length=1+2*T->pr (S6 k (-1) v (gs.map fun g=>⟨3,g⟩)) g=if (g:Int)∈gs then (-1,-1) else pr v g
 |[],v,_=>by simp [S6]
 |
  x :: r,v,hv=>by
  have h:=r0C (k:=k) h1 h2 r (o5 k (-1) v ⟨3,x⟩) (by rw [m0K];exact hv);have e:pr (o5 k (-1) v ⟨3,x⟩) g=if x=(g:Int) then (-1,-1) else pr v g:=o0Q (k:=k) hv h1 h2 3 x (.inr (.inr rfl));unfold S6 at h ⊢;rw [List.map_cons,List.foldl_cons,h,e]
  by_cases c:(g:Int)∈r
  ·rw [if_pos c,if_pos (List.mem_cons_of_mem _ c)]
  ·rw [if_neg c]
   by_cases c2:x=(g:Int)
   ·rw [if_pos c2,if_pos (show (g:Int)∈x :: r by rw [c2];simp)]
   ·rw [if_neg c2,if_neg (show ¬ (g:Int)∈x :: r by simp [c];omega)]
theorem f06 {s:Tm} {lo:Nat} (h:At l lo s) (h7:(s.node lo).Kind≠7) (h8:(s.node lo).Kind≠8) (k:Int) (v:List Int):S6 k (-1) v (N4 l [O0 (s.top lo)])=v/\S6 k (-1) v (N4 l [cls (s.top lo)])=v:=by
 rw [f0T,f0T,o0o _ h.j5,m0X _ h.j5,h.D2,if_neg h7,if_neg h8,if_neg h7];exact ⟨rfl,rfl⟩
theorem w0r (hR:K1 l=true) (h1:1<=g) (h2:g<=T) (h9:T<=9) {w:List Int}:∀ {s:Tm} {lo k:Nat} {P:Pt} {v:List Int},At l lo s->Fit w s k P->v.length=1+2*T->pr (r8 l v (U3 s lo k P)) g=E4 (g:Int) s k P (pr v g):=by
 intro s;have ln:∀ {H7:List (Nat×Int)} {v:List Int},v.length=1+2*T->(r8 l v H7).length=1+2*T:=fun h=>by rw [u0d];exact h
 have nil:∀ v:List Int,r8 l v []=v:=fun _=>rfl
 induction s with
 |
  eps=>
  intro lo k P v h f hv;cases f;have e:Tm.top .eps lo=lo:=by simp [Tm.top,Tm.size]
  have p:=fun k v=>f06 h (by simp [Tm.node]) (by simp [Tm.node]) k v;rw [e] at p;simp only [U3,b0D,(p _ _).1,(p _ _).2,nil,E4]
 |
  leaf S=>
  intro lo k P v h f hv;cases f;have e:Tm.top (.leaf S) lo=lo:=by simp [Tm.top,Tm.size]
  have p:=fun k v=>f06 h (by simp [Tm.node]) (by simp [Tm.node]) k v;rw [e] at p;simp only [U3,b0D,(p _ _).1,(p _ _).2,nil,E4]
 |
  cat a b ia ib=>
  intro lo k P v h f hv;cases f with | @cat _ _ _ x y f1 f2=>
  obtain ⟨ha,hb,_⟩:=(At.bin (t:=.cat a b) rfl rfl).1 h;have p:=fun k v=>f06 h (by simp [Tm.node]) (by simp [Tm.node]) k v;simp only [U3,b0D,b0i,(p _ _).1,(p _ _).2,nil,E4];rw [ib hb f2 (ln hv),ia ha f1 hv]
 |
  alt a b ia ib=>
  intro lo k P v h f hv;obtain ⟨ha,hb,_⟩:=(At.bin (t:=.alt a b) rfl rfl).1 h;have p:=fun k v=>f06 h (by simp [Tm.node]) (by simp [Tm.node]) k v;cases f with
  |
   altL f=>
   simp only [U3,b0D,b0i,(p _ _).1,(p _ _).2,nil,E4];exact ia ha f hv
  |
   altR f=>
   simp only [U3,b0D,b0i,(p _ _).1,(p _ _).2,nil,E4];exact ib hb f hv
 |
  star a ia=>
  intro lo k P v h f hv;have ha:=((At.un (t:=.star a) rfl rfl).1 h).1;have p:=fun k v=>f06 h (by simp [Tm.node]) (by simp [Tm.node]) k v;simp only [U3,b0D,b0i,(p _ _).1,(p _ _).2,nil,E4];have key:∀ (P:Pt) (k:Nat) (v:List Int),Fit w (.star a) k P->v.length=1+2*T->pr (r8 l v (stw (fun k x=>U3 a lo k x) k P)) g=stG (fun k x c=>E4 (g:Int) a k x c) k P (pr v g):=by
   intro P
   induction P with
   |nil=>intro k v _ _;rfl
   |byte=>intro k v f _;cases f
   |one x _=>intro k v f _;cases f
   |other x _=>intro k v f _;cases f
   |
    two x r _ ir=>
    intro k v f hv;cases f with | star f1 _ f2=>
    simp only [stw,stG,b0i];rw [ir _ _ f2 (ln hv),ia ha f1 hv]
  exact key P k v f hv
 |
  maybe a ia=>
  intro lo k P v h f hv;have ha:=((At.un (t:=.maybe a) rfl rfl).1 h).1;have p:=fun k v=>f06 h (by simp [Tm.node]) (by simp [Tm.node]) k v;cases f with
  |maybe0=>simp only [U3,b0D,b0i,(p _ _).1,(p _ _).2,nil,E4]
  |
   maybe f=>
   simp only [U3,b0D,b0i,(p _ _).1,(p _ _).2,nil,E4];exact ia ha f hv
 |
  group m a ia=>
  intro lo k P v h f hv;have ha:=((At.un (t:=.group m a) rfl rfl).1 h).1;have hn:=t0c hR _ _ h;cases f with | @group _ _ _ x f=>
  have ho:N4 l [O0 (Tm.top (.group m a) lo)]=[⟨1,m⟩]:=by rw [f0T,o0o _ h.j5,h.D2];rfl
  have hc:N4 l [cls (Tm.top (.group m a) lo)]=[⟨2,m⟩]:=by rw [f0T,m0X _ h.j5,h.D2];rfl
  have e1:∀ (k:Int) (v:List Int),v.length=1+2*T->pr (S6 k (-1) v [⟨1,m⟩]) g=if m=(g:Int) then (k,(pr v g).2) else pr v g:=fun k v hv=>o0Q hv h1 h2 1 m (.inl rfl);have e2:∀ (k:Int) (v:List Int),v.length=1+2*T->pr (S6 k (-1) v [⟨2,m⟩]) g=if m=(g:Int) then ((pr v g).1,k) else pr v g:=fun k v hv=>o0Q hv h1 h2 2 m (.inr (.inl rfl));have hv1:(S6 (k:Int) (-1) v [⟨1,m⟩]).length=1+2*T:=by rw [j0m];exact hv
  simp only [U3,b0D,b0i,nil,E4,ho,hc];rw [e2 _ _ (ln hv1),ia ha f hv1,e1 _ _ hv]
  by_cases c:m=(g:Int)
  ·rw [if_pos c,if_pos c,if_pos c,p0u f _ (by rw [<-c];exact hn.2.2.1)];simp only [Pt.wid]
  ·rw [if_neg c,if_neg c,if_neg c]
 |
  iter a ia=>
  intro lo k P v h f hv;have ha:=((At.un (t:=.iter a) rfl rfl).1 h).1;cases f with | @iter _ _ x f=>
  have ho:N4 l [O0 (Tm.top (.iter a) lo)]=(Z3 l (Tm.top (.iter a) lo:Int)).map fun g=>⟨3,g⟩:=by rw [f0T,o0o _ h.j5,h.D2];rfl
  have hc:N4 l [cls (Tm.top (.iter a) lo)]=[]:=by rw [f0T,m0X _ h.j5,h.D2];rfl
  have hg:=n0u hR h (g:=g) (by omega);simp only [C5] at hg;simp only [U3,b0D,b0i,nil,E4,ho,hc,x0B];rw [ia ha f (by rw [j0m];exact hv),r0C h1 h2 _ _ hv];congr 1
  by_cases c:C5 a (g:Int)=true
  ·rw [if_pos c,if_pos (hg.2 c)]
  ·rw [if_neg c,if_neg (fun h=>c (hg.1 h))]
end
