/- A kernel with registers goes as a hunt does: of the models. Its conditions: none. -/
import Derived.Test.YtdficaoajalfaaaGreatUPKg
import Derived.Test.YtdficaoajalfaaaGreatUDKernelHunts
open Bool (false_eq_true)
set_option linter.all false
namespace Go.Proofs.YtdficaoajalfaaaGreat
open Go.V Go.RowKit Old Go.X
theorem F0z {α β:Type} (x:Option (α×β)):(Option.bind x fun p=>some (p.1,p.2))=x:=by cases x<;>rfl
set_option maxHeartbeats 2000000 in
theorem l0y:e0t Fb=some true:=by
 unfold e0t;simp only [c0u,E0,z6,F0z,j0o];kernel_rfl
section
variable {F:Nat} {l:List D0} {n:Nat} {a:List B0} {b:Nat->List B0} {e:Nat->B0×Bool} {z:B0×Bool}
theorem v0Q (K:Q4 l n a b e z F) {h:Hs} {k:Kd} {regs:List Int} {i:Nat} (S:S5 l n e z h k regs i):iter (h03 F regs k.K (h.X l n a b e)) F 0=some (.inr ()):=by
 have f1:=K.f1;have hn:=K.T.n64;have ht:=l8 l;have hml:=S.C.len;have hmle:=S.C.le;have hvl:=S.hs.c.ok.len;have hpl:=S.pl;have:=V2 (step:=h03 F regs k.K (h.X l n a b e)) (fun r=>(r:Int)) (.inr ()) k.maps.length (fun r hr=>.inl ?_) ?_ k.maps.length 0 F (by omega) (by omega)
 ·exact this
 ·have h1:(r:Int)<(k.K.Maps.length:Int):=by show (r:Int)<(k.maps.length:Int);omega
  have hin:y0 k.K.Maps (r:Int)=true:=P0 (by omega) h1;have hrow:=S.C.row _ (L9 hr);have hrd:=t0Q (F:=F) (regs:=regs) (row:=gt k.maps (r:Int)) (V:=gt h.c.vals (r:Int)) (now:=-1) ((S.rel r hr).mono fun e v hh=>hh.n _) (by omega) (by omega);have hrd':e0H F regs (gt k.K.Maps (r:Int)) (-1)=some (gt h.c.vals (r:Int),true):=hrd;have hvr:r<h.c.vals.length:=by rw [hvl,<-hpl];omega
  have hrow2:=S.hs.c.ok.row _ (L9 hvr);have hin2:y0 (h.X l n a b e).Crowd.Tags (r:Int)=true:=P0 (by omega) (by show (r:Int)<(h.c.vals.length:Int);omega);have hint:F9 F (gt h.c.vals (r:Int)) (gt (h.X l n a b e).Crowd.Tags (r:Int))=some true:=l0F (by omega) f1;unfold h03;simp only [h1,decide_true,if_true,hin,hrd',E0,Bool.not_true,false_eq_true,if_false,hin2,hint,E2 (i:=r) (by omega)]
 ·have h1:¬ (k.maps.length:Int)<(k.K.Maps.length:Int):=by show ¬ (k.maps.length:Int)<(k.maps.length:Int);omega
  unfold h03;simp only [h1,decide_false,false_eq_true,if_false]
theorem w0A (K:Q4 l n a b e z F) {h:Hs} {k:Kd} {regs:List Int} {i:Nat} (S:S5 l n e z h k regs i) :
  (if decide (((a0v l e z k).length:Int)>0) then
    Option.bind (e0H F regs (a0v l e z k) (i:Int)) fun (read3,read4)=>
    Option.bind (α:=Bool) (
     if !read4 then
      some true
     else
      some (!(h.X l n a b e).Is)) fun x7=>
    Option.bind (α:=Bool) (
     if x7 then
      some true
     else
      some ((h.X l n a b e).To != (i:Int))) fun x8=>
    Option.bind (α:=Bool) (
     if x8 then
      some true
     else
      Option.bind (F9 F read3 (h.X l n a b e).Tags) fun ints3=>
      some (!ints3)) fun x9=>
    if x9 then
     some (.inl ())
    else
     some (.inr ())
   else
    Option.bind (α:=Bool) (
     if (h.X l n a b e).Is then
      some ((h.X l n a b e).To==(i:Int))
     else
      some false) fun x10=>
    if x10 then
     some (.inl ())
    else
     some (.inr ()))=some (.inr ():Unit ⊕ Unit):=by
 have f1:=K.f1;have ht:=l8 l;have hacc:=S.acc;have e1:(h.X l n a b e).Is=h.is:=rfl;have e2:(h.X l n a b e).To=h.to:=rfl;have e3:(h.X l n a b e).Tags=h.tags:=rfl;rw [e1,e2,e3]
 by_cases hnew:h.is=true/\h.to=(i:Int)
 ·rw [if_pos hnew] at hacc;obtain ⟨h1,h2⟩:=hacc;have hgt:((a0v l e z k).length:Int)>0:=by omega
  have hrd:=t0Q (F:=F) h1 (by omega) (by omega);have hlen:=S.hs.len;simp only [hgt,decide_true,if_true,hrd,E0,Bool.not_true,false_eq_true,if_false,hnew.1,hnew.2,bne_self_eq_false,l0F (show h.tags.length<=1000000 by omega) f1]
 ·rw [if_neg hnew] at hacc;rw [hacc];have hx:(if h.is=true then some (h.to==(i:Int)) else some false)=some false:=by
   cases his:h.is with
   |false=>rfl
   |
    true=>
    have:¬ h.to=(i:Int):=fun hh=>hnew ⟨his,hh⟩;have:(h.to==(i:Int))=false:=beq_eq_false_iff_ne.2 this;rw [this];rfl
  simp only [List.length_nil,show ¬ (((0:Nat):Int)>0) from by omega,decide_false,false_eq_true,if_false,hx,E0]
theorem F00 (K:Q4 l n a b e z F) (hw:∀ x∈l,C3 x) {w:List Int} (hb:∀ x∈w,C7 .u8 x) (hl:w.length<=20) (hsure:e0t F=some true) :
  ∀ (t i:Nat),i+t=w.length->∀ (h:Hs) (k:Kd) (regs:List Int),S5 l n e z h k regs i->a0W F l k.K=some true->∀ m,t<m->
   iter (i0I F l w) m (regs,(i:Int),k.K,h.X l n a b e)=some (.inl true):=by
 have f1:=K.f1;have hn:=K.T.n64;have ht:=l8 l;intro t
 induction t with
 |
  zero=>
  intro i hi h k regs S hR m hm;obtain ⟨m,rfl⟩:∃ q,m=q+1:=⟨m-1,by omega⟩
  have h1:(i:Int)<=(w.length:Int):=by omega
  have h2:((i:Int)==(w.length:Int))=true:=by simp;omega
  have hml:=S.C.len;have hmle:=S.C.le;have hp:F9 F k.K.Places (h.X l n a b e).Crowd.Places=some true:=by
   have:k.K.Places=(h.X l n a b e).Crowd.Places:=by show O0 k.pl=O0 h.c.pl;rw [S.pl]
   rw [<-this];exact l0F (by show (O0 k.pl).length<=1000000;simp;omega) f1
  have hne:((k.K.Maps.length:Int) != (k.K.Places.length:Int))=false:=by
   show ((k.maps.length:Int) != ((O0 k.pl).length:Int))=false;simp [hml]
  have hac:=w0A (a:=a) (b:=b) K S;refine g0d ?_;unfold i0I;simp only [h1,decide_true,if_true,hp,E0,Bool.not_true,false_eq_true,if_false,hne,hR,v0Q K S,t0l K S.C hR,hac,h2,hsure]
 |
  succ t ih=>
  intro i hi h k regs S hR m hm;obtain ⟨m,rfl⟩:∃ q,m=q+1:=⟨m-1,by omega⟩
  have h1:(i:Int)<=(w.length:Int):=by omega
  have h2:((i:Int)==(w.length:Int))=false:=by rw [beq_eq_false_iff_ne];omega
  have hin:y0 w (i:Int)=true:=P0 (by omega) (by omega);have hby:=hb _ (L9 (show i<w.length by omega));have hml:=S.C.len;have hmle:=S.C.le;have hp:F9 F k.K.Places (h.X l n a b e).Crowd.Places=some true:=by
   have:k.K.Places=(h.X l n a b e).Crowd.Places:=by show O0 k.pl=O0 h.c.pl;rw [S.pl]
   rw [<-this];exact l0F (by show (O0 k.pl).length<=1000000;simp;omega) f1
  have hne:((k.K.Maps.length:Int) != (k.K.Places.length:Int))=false:=by
   show ((k.maps.length:Int) != ((O0 k.pl).length:Int))=false;simp [hml]
  have hac:=w0A (a:=a) (b:=b) K S;have hnx:=D0R K hw S.C hR (mode:=0) (.inl rfl) hby;obtain ⟨S2,hsrc⟩:=z0A K hw S (by omega) hby;have C2:=m0I (e:=e) 0 (n0v K hw S.C (gt w (i:Int)));have hfl:0<=((k.step l n a b (gt w (i:Int))).M7 e 0).flag/\((k.step l n a b (gt w (i:Int))).M7 e 0).flag<=2:=S2.f0;obtain ⟨R2,g2⟩:=x0g K C2 hfl.1 hfl.2;have hfl2:=k0V ((k.step l n a b (gt w (i:Int))).M7 e 0).maps 1000 (fun r hr=>by have:=C2.row r hr;omega);have hsl:(G4 ((k.step l n a b (gt w (i:Int))).M7 e 0).maps).length<=1000000:=by
   have h3:=k0w ((k.step l n a b (gt w (i:Int))).M7 e 0).maps.flatten [];have h4:=C2.len;have h5:=C2.le;have h6:((k.step l n a b (gt w (i:Int))).M7 e 0).maps.length*1000<=400*1000:=Nat.mul_le_mul_right _ (by omega);simp only [List.length_nil] at h3;unfold G4;omega
  have hfill:=D0N (F:=F) (now:=(i:Int)) hsrc hsl f1;have hfeed:=(r0x (e:=e) K hw S.hs (by omega) hby).1;rw [<-ih (i+1) (by omega) _ _ _ S2 R2 m (by omega)];refine l0A ?_;unfold i0I;simp only [h1,decide_true,if_true,hp,E0,Bool.not_true,false_eq_true,if_false,hne,hR,v0Q K S,t0l K S.C hR,hac,h2,hin,j0o,hnx,hfill,g2,bne_self_eq_false,hfeed,E2 (i:=i) (by omega)]
end
theorem G0G:r0A:=by
 intro l w hl0 hw0 hl hwl;have hw:=F0n hl0;have hb:=x0Q hw0;refine ⟨Fb,?_⟩;unfold m0K
 by_cases hf:l.length<=40/\w.length<=20
 ·have h1:¬ (l.length:Int)>40:=by omega
  have h2:¬ (w.length:Int)>20:=by omega
  simp only [h1,h2,decide_false,false_eq_true,if_false,E0];cases hR:J2 l with
  |
   false=>
   rw [(y0o hR hl (by omega)).2];simp only [E0,Bool.not_false,if_true,l0y]
  |
   true=>
   obtain ⟨a,b,e,z,K⟩:=known hw hR hl (by omega);have S0:=G0O l (N0 l l.length) e z;have hR0:a0W Fb l (Kd.K ⟨if z.2 then 2 else 1,[],[],fun _ _=>0,fun _ _=>0⟩)=some true:=by
    refine q0x K S0.C S0.f0.1 S0.f0.2 ?_;have ht:=l8 l;have:=(u03 (F:=Fb) (maps:=[]) (tags:=(T3 l).toNat) (fun r h=>by cases h) (by omega) (by simp) (by unfold Fb;omega) default).1;rw [show (((T3 l).toNat:Nat):Int)=T3 l by omega] at this;exact this
   have hlp:=F00 K hw hb hf.2 l0y w.length 0 (by omega) _ _ _ S0 hR0 Fb (by unfold Fb;omega);rw [K.TF.rR,B0D K hw,B0n K];have hlp':iter (i0I Fb l w) Fb ([],0,a8 (if z.2 then 2 else 1) [] [] (fun _ _=>0) (fun _ _=>0),(Hs.zero l z).X l (N0 l l.length) a b e)=some (.inl true):=hlp;simp only [E0,Bool.not_true,false_eq_true,if_false,bne_self_eq_false,hlp']
 ·by_cases h1:l.length>40
  ·have h1':(l.length:Int)>40:=by omega
   simp only [h1',decide_true,if_true,E0,l0y]
  ·have h1':¬ (l.length:Int)>40:=by omega
   have h2:(w.length:Int)>20:=by omega
   simp only [h1',h2,decide_false,decide_true,false_eq_true,if_false,if_true,E0,l0y]
