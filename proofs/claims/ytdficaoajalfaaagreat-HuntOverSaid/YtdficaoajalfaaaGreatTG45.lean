/- What the program and the document tell of a term's ways. The groups of a term: the program and the document tell the same. Marks: the program and the document tell the same. What is known of a term before it runs: the program's chart, the document's crowd of no runs. Its conditions: none. -/
import Derived.Test.YtdficaoajalfaaaGreatTG44
import Derived.Test.YtdficaoajalfaaaGreatTBr2
open List (append_nil map_append length_map take_succ mem_of_getElem? take_length map_cons map_nil flatMap_cons flatMap_nil)
open Bool (false_eq_true)
set_option linter.all false
namespace Go.Proofs.YtdficaoajalfaaaGreat.Old
open Go.V Go.RowKit
theorem a_9h {s:List Int} (h:s.length<=500000):(EndR s).1.Steps.length<=500000:=by
 unfold EndR;split<;>simp [h]
theorem Tm.a_3c (s:Tm):∀ (lo p:Nat) (ahead:List Int),(∀ h∈s.c_5 lo p ahead,(p:Int)<=h.To/\h.To<((p+s.leaves:Nat):Int))/\(s.c_5 lo p ahead).Pairwise fun a b=>a.To<b.To:=by
 induction s with
 |eps=>intro lo p ahead;simp [Tm.c_5]
 |leaf s=>intro lo p ahead;simp [Tm.c_5,Tm.leaves];omega
 |
  cat a b iha ihb=>
  intro lo p ahead
  simp only [Tm.c_5,Tm.leaves]
  obtain ⟨h1,h2⟩:=iha lo p (ahead++[opn (Tm.top (.cat a b) lo)])
  split
  ·refine ⟨fun h hh=>?_,List.pairwise_append.2 ⟨h2,(ihb _ _ _).2,fun x hx y hy=>?_⟩⟩
   ·rcases List.mem_append.1 hh with hh | hh
    ·have:=h1 h hh;omega
    ·have:=(ihb _ _ _).1 h hh;omega
   ·have:=h1 x hx;have:=(ihb _ _ _).1 y hy;omega
  ·simp only [append_nil]
   exact ⟨fun h hh=>by have:=h1 h hh;omega,h2⟩
 |
  alt a b iha ihb=>
  intro lo p ahead
  simp only [Tm.c_5,Tm.leaves]
  obtain ⟨h1,h2⟩:=iha lo p (ahead++[opn (Tm.top (.alt a b) lo)])
  obtain ⟨h3,h4⟩:=ihb (lo+a.size) (p+a.leaves) (ahead++[opn (Tm.top (.alt a b) lo)])
  refine ⟨fun h hh=>?_,List.pairwise_append.2 ⟨h2,h4,fun x hx y hy=>?_⟩⟩
  ·rcases List.mem_append.1 hh with hh | hh
   ·have:=h1 h hh;omega
   ·have:=h3 h hh;omega
  ·have:=h1 x hx;have:=h3 y hy;omega
 |
  star a iha | maybe a iha | group _ a iha | iter a iha=>
  intro lo p ahead
  simp only [Tm.c_5,Tm.leaves]
  exact iha lo p _
theorem b_hr {l:List a_2} {t:Tm} (ht:IsT l t):Ways t.leaves (t.c_5 0 0 []):=by
 have h400:=ht.le;have hln:=ht.len
 exact ⟨fun h hh=>⟨(by have:=(t.a_3c 0 0 []).1 h hh;omega),(by have:=(t.a_3c 0 0 []).1 h hh;omega),(t.a_wr 0 0 [] (by omega) (by simp;omega) h hh).2.2⟩,(t.a_3c 0 0 []).2.imp fun h=>by omega⟩
theorem b_hc {n:Nat} {out:List a_1} (h:Ways n out):Ways n (t_2 a_1.To out):=by
 refine ⟨fun x hx=>h.ok x ((z_4 a_1.To _).mem_iff.1 hx),?_⟩
 have hp:=z_4 a_1.To out
 exact hp.symm.pairwise_iff (R:=fun a b:a_1=>a.To≠b.To) (fun h=>h.symm) |>.1 h.dist
structure a_zz (l:List a_2) (n:Nat) (a:List a_1) (b:Nat->List a_1) (e:Nat->a_1×Bool) (z:a_1×Bool):Prop where
 n64:n<=400
 aw:Ways n a
 bw:∀ p,p<n->Ways n (b p)
 el:∀ p,p<n->(e p).1.Steps.length<=500000
 zl:z.1.Steps.length<=500000
 e0:∀ p,p<n->(e p).2=decide ((e p).1.Steps≠[])
 z0:z.2=decide (z.1.Steps≠[])
 ab:BndH 800 a
 bb:∀ p,p<n->BndH 800 (b p)
 eb:∀ p,p<n->Bnd 800 (e p).1.Steps
 zb:Bnd 800 z.1.Steps
 al:a.length<=500000
 aT:TrnH a
 bT:∀ p,p<n->TrnH (b p)
 bl:∀ p,p<n->(b p).length<=500000
theorem a_8g {B:Int} {s:List Int} (h:Bnd B s):Bnd B (EndR s).1.Steps:=by
 unfold EndR;split
 ·exact Bnd.nil
 ·exact h
theorem a_3y {l:List a_2} {t:Tm} (ht:IsT l t) {p q:Nat} {S:List Int} {fs:List Fr} (hp:a_c7 l t p q S fs):BndH 800 (i_7 t p q S fs).1/\Bnd 800 (i_7 t p q S fs).2.1:=by
 have h400:=ht.le
 have hlo:=Ctx.lo_le hp.ctx
 simp only [Tm.size] at hlo
 exact a_pc (by omega) fs q p _ _ _ hp.ctx (Bnd.cls (by omega)) (fun _ h=>by cases h)
end Go.Proofs.YtdficaoajalfaaaGreat.Old
namespace Go.Proofs.YtdficaoajalfaaaGreat
open Go.V Go.RowKit Old
theorem a_7m (s:List Int):(EndR s).2=decide ((EndR s).1.Steps≠[]):=by
 unfold EndR;split
 ·simp
 ·rename_i h;simp;intro e;exact h (by simp [e])
structure a_uf (l:List a_2) (n:Nat) (a:List a_1) (b:Nat->List a_1) (e:Nat->a_1×Bool) (z:a_1×Bool) (F:Nat):Prop where
 mR:f_3 F l=some true
 rR:d_1 F l=some true
 mL:f_1 F l=some (b_3 l l.length)
 rL:e_4 F l=some (b_3 l l.length)
 mA:m_5 F l ((l.length:Int)-1)=some a
 rA:o_6 F l ((l.length:Int)-1)=some a
 mZ:i_4 F l (-1)=some z
 rZ:k_0 F l (-1)=some z
 mB:∀ p:Nat,p<n->m_1 F l (p:Int)=some (b p)
 rB:∀ p:Nat,p<n->n_7 F l (p:Int)=some (b p)
 mE:∀ p:Nat,p<n->i_4 F l (p:Int)=some (e p)
 rE:∀ p:Nat,p<n->k_0 F l (p:Int)=some (e p)
theorem eqOf {α:Type} {o n:Option α} (h:Ref o n Eq) {x:α} (e:o=some x):n=some x:=by
 obtain ⟨y,h1,h2⟩:=h.run x e
 rw [h1,h2]
theorem b_e4 {l:List a_2} (hw:∀ x∈l,d_6 x) (hl:l.length*64<=140737488351232) (hR:c_0 l=true):∃ a b e z,a_zz l (a_3 l l.length) a b e z/\∀ F,1000001<F->l.length+1<F->a_uf l (a_3 l l.length) a b e z F:=by
 obtain ⟨t,ht⟩:=a_a5 hw hR
 have h400:=ht.le;have hln:=ht.len
 have hn:t.leaves=a_3 l l.length:=by
  have h:=o_9 ht.at0
  rw [Nat.zero_add,<-hln] at h
  rw [h];simp [a_3]
 have hP:∀ p:Nat,∃ x:List a_1×(a_1×Bool),p<a_3 l l.length->(Ways (a_3 l l.length) x.1/\x.2.1.Steps.length<=500000/\x.2.2=decide (x.2.1.Steps≠[])/\BndH 800 x.1/\Bnd 800 x.2.1.Steps/\x.1.length<=500000/\TrnH x.1/\
   ∀ F,1000001<F->l.length+1<F->m_1 F l (p:Int)=some x.1/\n_7 F l (p:Int)=some x.1/\i_4 F l (p:Int)=some x.2/\k_0 F l (p:Int)=some x.2):=by
  intro p
  by_cases hp:p<a_3 l l.length
  ·obtain ⟨q',S,fs,hpl⟩:=b_jn ht hp
   obtain ⟨hways,hlen⟩:=a_p2 ht hpl
   refine ⟨(t_2 a_1.To (i_7 t p q' S fs).1,EndR (if (i_7 t p q' S fs).2.2 then (i_7 t p q' S fs).2.1 else [])),fun _=>⟨?_,?_,a_7m _,fun h hh=>(a_3y ht hpl).1 h ((z_4 a_1.To _).mem_iff.1 hh),a_8g ?_,by rw [a_ev];exact a_rs ht hpl,fun h hh=>a_m5 h400 fs _ _ _ _ _ hpl.ctx (fun _ h=>by cases h) h ((z_4 a_1.To _).mem_iff.1 hh),fun F hF hF2=>⟨?_,?_,?_,?_⟩⟩⟩
   ·rw [<-hn];exact b_hc hways
   ·refine a_9h ?_
    split
    ·exact hlen
    ·simp
   ·split
    ·exact (a_3y ht hpl).2
    ·exact Bnd.nil
   ·exact eqOf b_ra (Old.b_qt hw ht hR hF hpl hp)
   ·exact eqOf b_np (Old.b_rf hw ht hR hF hpl hp)
   ·exact eqOf b_mw (Old.b_r5 hw ht hR hF hpl hp)
   ·exact eqOf b_iq (Old.b_r8 hw ht hR hF hpl hp)
  ·exact ⟨([],(⟨0,0,[]⟩,false)),fun h=>absurd h hp⟩
 have hst:=t.n_8 0
 refine ⟨t.c_5 0 0 [],fun p=>(Classical.choose (hP p)).1,fun p=>(Classical.choose (hP p)).2,EndR (if t.can then t.steps 0 else []),⟨?_,?_,?_,?_,?_,?_,?_,?_,?_,?_,?_,?_,?_,?_,?_⟩,fun F hF hF2=>?_⟩
 ·have:=a_b1 l l.length;omega
 ·rw [<-hn];exact b_hr ht
 ·intro p hp;exact (Classical.choose_spec (hP p) hp).1
 ·intro p hp;exact (Classical.choose_spec (hP p) hp).2.1
 ·refine a_9h ?_
  split
  ·omega
  ·simp
 ·intro p hp;exact (Classical.choose_spec (hP p) hp).2.2.1
 ·exact a_7m _
 ·exact t.a_2r 0 0 [] 800 (by omega) Bnd.nil
 ·intro p hp;exact (Classical.choose_spec (hP p) hp).2.2.2.1
 ·intro p hp;exact (Classical.choose_spec (hP p) hp).2.2.2.2.1
 ·refine a_8g ?_
  split
  ·exact t.a_yy 0 800 (by omega)
  ·exact Bnd.nil
 ·have:=t.t_1 0 0 [];have:=t.q_3;omega
 ·exact t.b_l7 0 0 []
 ·intro p hp;exact (Classical.choose_spec (hP p) hp).2.2.2.2.2.2.1
 ·intro p hp;exact (Classical.choose_spec (hP p) hp).2.2.2.2.2.1
 ·have hLF:q_5 l=b_3 l l.length:=by simp [q_5,hR]
  obtain ⟨h1,h2⟩:=Old.b_b5 hw ht hR hF
  obtain ⟨h3,h4⟩:=Old.b_ov hw ht hR hF ht.at0
  have htop:((t.top 0:Nat):Int)=(l.length:Int)-1:=by have:=t.size_pos;unfold Tm.top;omega
  rw [htop] at h3 h4
  exact ⟨eqOf a_q5 (by rw [Old.a_f4 l (by omega),hR]),eqOf a_oe (by rw [Old.a_cy l hl hF2,hR]),eqOf a_7u (by rw [Old.a_yz hw (by omega),hLF]),eqOf a_3m (by rw [Old.a_oo hw hl (by omega) hF2,hLF]),
   eqOf b_nn h3,eqOf b_kf h4,eqOf b_mw h1,eqOf b_iq h2,
   fun p hp=>((Classical.choose_spec (hP p) hp).2.2.2.2.2.2.2 F hF hF2).1,fun p hp=>((Classical.choose_spec (hP p) hp).2.2.2.2.2.2.2 F hF hF2).2.1,fun p hp=>((Classical.choose_spec (hP p) hp).2.2.2.2.2.2.2 F hF hF2).2.2.1,fun p hp=>((Classical.choose_spec (hP p) hp).2.2.2.2.2.2.2 F hF hF2).2.2.2⟩
end Go.Proofs.YtdficaoajalfaaaGreat
namespace Go.Proofs.YtdficaoajalfaaaGreat
open Go.V Go.RowKit Old
def hasG (seg:List a_2) (n:Nat):Bool:=seg.any fun x=>x.Kind==7&&x.N==(n:Int)
def grpN (seg:List a_2) (k:Nat):List Int:=((List.range k).filter (hasG seg)).map fun n:Nat=>(n:Int)
theorem a_3l (seg:List a_2):grpN seg 0=[]:=rfl
theorem n_3 {α:Type} [Inhabited α] {l:List α} {i:Nat} (h:i<l.length):l[i]?=some (gt l (i:Int)):=by
 have:=a_1m (a_7 (l:=l) (i:=(i:Int)) (by omega) (by omega));simpa using this
def grpL (seg:List a_2):List Int:=grpN seg 10
def Gok (seg:List a_2):Prop:=∀ x∈seg,x.Kind=7->1<=x.N/\x.N<=9
theorem a_tv (seg:List a_2) (k:Nat):grpN seg (k+1)=if hasG seg k then grpN seg k++[(k:Int)] else grpN seg k:=by
 unfold grpN
 rw [List.range_succ,List.filter_append,map_append]
 cases h:hasG seg k<;>simp [h]
theorem a_zu (seg:List a_2) (k:Nat):(grpN seg k).length<=k:=by
 unfold grpN
 rw [length_map]
 exact Nat.le_trans (List.length_filter_le _ _) (by simp)
theorem b_ik {seg:List a_2} (h:Gok seg):hasG seg 0=false:=by
 unfold hasG
 rw [List.any_eq_false]
 intro x hx
 simp
 intro h7 h0
 have:=(h x hx h7).1
 omega
def flags (seg:List a_2):List Bool:=(List.range 10).map (hasG seg)
theorem b_h7 (seg:List a_2) {n:Nat} (h:n<10):gt (flags seg) (n:Int)=hasG seg n:=by
 refine d_4 ?_
 simp [flags,h]
theorem b_e3 {seg:List a_2} {i:Nat} (hi:i<seg.length) (hk:Gok seg):flags (seg.take (i+1))=if (gt seg (i:Int)).Kind==7 then (flags (seg.take i)).set (gt seg (i:Int)).N.toNat true else flags (seg.take i):=by
 have hx:seg[i]?=some (gt seg (i:Int)):=n_3 hi
 have ht:seg.take (i+1)=seg.take i++[gt seg (i:Int)]:=by rw [take_succ,hx];rfl
 have hm:=hk _ (mem_of_getElem? hx)
 generalize gt seg (i:Int)=x at *
 cases h7:x.Kind==7
 ·simp only [if_false,false_eq_true]
  unfold flags
  refine List.map_congr_left fun n _=>?_
  simp [hasG,ht,h7]
 ·simp only [if_true]
  have hm:=hm (by simpa using h7)
  refine List.ext_getElem (by simp [flags]) fun n h1 h2=>?_
  simp only [flags,length_map,List.length_range] at h1
  rw [List.getElem_set]
  simp only [flags,List.getElem_map,List.getElem_range]
  rw [show hasG (seg.take (i+1)) n=(hasG (seg.take i) n||(x.N==(n:Int))) from by simp [hasG,ht,h7]]
  split
  ·rename_i e
   have:x.N=(n:Int):=by omega
   simp [this]
  ·rename_i e
   have:(x.N==(n:Int))=false:=by simp;omega
   simp [this]
section
variable {F:Nat}
theorem b_hs {l:List a_2} {q:Int} {low:List Int} {seg:List a_2} (hs:e_1 l (gt low q) (W (q+1))=seg) (hk:Gok seg) (hl:seg.length<=400) (hF:401<F) :
  iter (a_av F l q low (seg.length:Int)) F (0,[false,false,false,false,false,false,false,false,false,false])=some (flags seg):=by
 have h0:flags (seg.take 0)=[false,false,false,false,false,false,false,false,false,false]:=by simp [flags,hasG];decide
 rw [<-h0]
 have:=c_2 (step:=a_av F l q low (seg.length:Int)) (fun i=>((i:Int),flags (seg.take i))) (flags seg) seg.length (fun i hi=>.inl ?_) ?_ seg.length 0 F (by omega) (by omega)
 ·exact this
 ·unfold a_av
  have h1:(i:Int)<(seg.length:Int):=by omega
  have hin:inb seg (i:Int)=true:=a_7 (by omega) (by omega)
  have hm:=hk _ (mem_of_getElem? (a_1m hin))
  have hW:W ((i:Int)+1)=((i+1:Nat):Int):=by rw [f_2 (by omega) (by omega)];omega
  simp only [hs,h1,decide_true,if_true,hin,hW]
  rw [b_e3 hi hk]
  cases h7:(gt seg (i:Int)).Kind==7
  ·simp only [if_false,false_eq_true,a_0]
  ·have hm:=hm (by simpa using h7)
   have h2:(decide (0<=(gt seg (i:Int)).N)&&decide ((gt seg (i:Int)).N<10))=true:=by simp;omega
   simp only [if_true,h2,a_0]
 ·unfold a_av
  have h1:¬ ((seg.length:Int)<(seg.length:Int)):=by omega
  simp only [h1,decide_false,if_false,false_eq_true,take_length]
theorem b_e8 {seg:List a_2} (hF:401<F):iter (y_8 F (flags seg)) F ([],0)=some (grpL seg):=by
 have:=c_2 (step:=y_8 F (flags seg)) (fun i=>(grpN seg i,(i:Int))) (grpL seg) 10 (fun i hi=>.inl ?_) ?_ 10 0 F (by omega) (by omega)
 ·rw [a_3l] at this;exact this
 ·unfold y_8
  have h1:(i:Int)<10:=by omega
  have h2:(0:Int)<=(i:Int):=by omega
  have hW:W ((i:Int)+1)=((i+1:Nat):Int):=by rw [f_2 (by omega) (by omega)];omega
  have hap:a_8 8 (grpN seg i) [(i:Int)]=true:=by have:=a_zu seg i;simp [a_8];omega
  simp only [h1,h2,decide_true,if_true,Bool.and_self,b_h7 seg hi,hW,hap]
  rw [a_tv]
  cases hasG seg i<;>simp only [if_true,if_false,false_eq_true,a_0]
 ·unfold y_8
  simp [grpL]
theorem b_oh {l:List a_2} {q lo:Nat} (hq:q<l.length) (hl:l.length<=400) (hlo:lo<=q) (n:Nat) (hF:401<F) :
  iter (x_2 F l (q:Int) (n:Int)) F (false,(lo:Int))=some (hasG (e_1 l (lo:Int) ((q+1:Nat):Int)) n):=by
 have hcut:e_1 l (lo:Int) ((q+1:Nat):Int)=(l.drop lo).take (q+1-lo):=by unfold e_1;congr 1;omega
 have:=c_2 (step:=x_2 F l (q:Int) (n:Int)) (fun i=>(hasG ((l.drop lo).take i) n,((lo+i:Nat):Int))) (hasG (e_1 l (lo:Int) ((q+1:Nat):Int)) n) (q+1-lo) (fun i hi=>.inl ?_) ?_ (q+1-lo) 0 F (by omega) (by omega)
 ·exact this
 ·unfold x_2
  have h1:((lo+i:Nat):Int)<=(q:Int):=by omega
  have hin:inb l ((lo+i:Nat):Int)=true:=a_7 (by omega) (by omega)
  have hx:(l.drop lo)[i]?=some (gt l ((lo+i:Nat):Int)):=by rw [List.getElem?_drop];exact n_3 (by omega)
  have ht:(l.drop lo).take (i+1)=(l.drop lo).take i++[gt l ((lo+i:Nat):Int)]:=by rw [take_succ,hx];rfl
  have hW:W (((lo+i:Nat):Int)+1)=((lo+(i+1):Nat):Int):=by rw [f_2 (by omega) (by omega)];omega
  have hg:hasG ((l.drop lo).take (i+1)) n=(hasG ((l.drop lo).take i) n||((gt l ((lo+i:Nat):Int)).Kind==7&&(gt l ((lo+i:Nat):Int)).N==(n:Int))):=by simp [hasG,ht]
  rw [hg]
  simp only [h1,decide_true,if_true,hin,hW,i_2]
  cases hasG ((l.drop lo).take i) n<;>cases (gt l ((lo+i:Nat):Int)).Kind==7<;>simp [a_0]
 ·unfold x_2
  have h1:¬ (((lo+(q+1-lo):Nat):Int)<=(q:Int)):=by omega
  simp only [h1,decide_false,if_false,false_eq_true,hcut]
theorem b_qk {l:List a_2} {q lo:Nat} {low:List Int} (hq:q<l.length) (hl:l.length<=400) (hlo:lo<=q) (hin:inb low (q:Int)=true) (hg:gt low (q:Int)=(lo:Int)) (hk:Gok (e_1 l (lo:Int) ((q+1:Nat):Int))) (hF:401<F) :
  iter (y_5 F l (q:Int) low) F ([],1)=some (grpL (e_1 l (lo:Int) ((q+1:Nat):Int))):=by
 generalize hseg:e_1 l (lo:Int) ((q+1:Nat):Int)=seg at *
 have h0:grpN seg 1=[]:=by rw [a_tv,b_ik hk,a_3l];simp
 rw [<-h0]
 have:=c_2 (step:=y_5 F l (q:Int) low) (fun i=>(grpN seg (i+1),((i+1:Nat):Int))) (grpL seg) 9 (fun i hi=>.inl ?_) ?_ 9 0 F (by omega) (by omega)
 ·exact this
 ·unfold y_5
  have h1:((i+1:Nat):Int)<=9:=by omega
  have hW:W (((i+1:Nat):Int)+1)=((i+1+1:Nat):Int):=by rw [f_2 (by omega) (by omega)];omega
  have hap:a_8 8 (grpN seg (i+1)) [((i+1:Nat):Int)]=true:=by have:=a_zu seg (i+1);simp [a_8];omega
  have hi:=b_oh (F:=F) hq hl hlo (i+1) hF
  rw [hseg] at hi
  simp only [h1,decide_true,if_true,hin,hg,hi,a_0,hW,hap]
  rw [a_tv seg (i+1)]
  cases hasG seg (i+1)<;>simp only [if_true,if_false,false_eq_true,a_0]
 ·unfold y_5
  simp [grpL]
theorem b_ip {l:List a_2}:∀ {i:Nat} {a:List Int},k_3 l i=some a->∀ j:Nat,j<i->v_0 (gt l (j:Int))=true:=by
 intro i
 induction i with
 |zero=>intro a _ j hj;omega
 |
  succ i ih=>
  intro a h j hj
  unfold k_3 at h
  cases e:k_3 l i with
  |none=>rw [e] at h;cases h
  |
   some b=>
   rw [e] at h
   dsimp only at h
   split at h
   ·rename_i hg
    rcases Nat.lt_or_ge j i with h1 | h1
    ·exact ih e j h1
    ·obtain rfl:j=i:=by omega
     simp only [u_2,Bool.and_eq_true] at hg
     exact hg.1.2
   ·cases h
structure b_l9 (l:List a_2):Prop where
 ne:i_9 l≠[]
 len:(i_9 l).length=l.length
 rng:∀ j:Nat,j<l.length->0<=gt (i_9 l) (j:Int)/\gt (i_9 l) (j:Int)<=j
 grp:∀ x∈l,x.Kind=7->1<=x.N/\x.N<=9
 pos:0<l.length
 le:l.length<=400
theorem a_iz {l:List a_2} (hR:c_0 l=true):b_l9 l:=by
 have hne:i_9 l≠[]:=by intro e;simp [c_0,e] at hR
 have h:=hne
 unfold i_9 at h
 cases e:k_3 l l.length with
 |none=>rw [e] at h;exact absurd rfl h
 |
  some a=>
  have hok:=a_dr e
  rw [e] at h
  dsimp only at h
  split at h
  ·exact absurd rfl h
  ·rename_i hn
   have hL:i_9 l=a:=by unfold i_9;rw [e];dsimp only;rw [if_neg hn]
   refine ⟨hne,by rw [hL];exact hok.len,fun j hj=>by rw [hL];exact hok.rng j hj,fun x hx h7=>?_,by omega,by omega⟩
   obtain ⟨j,hj,rfl⟩:=List.getElem_of_mem hx
   have hf:=b_ip e j hj
   have hg:gt l (j:Int)=l[j]:=d_4 (List.getElem?_eq_getElem hj)
   rw [hg] at hf
   simp [v_0,h7] at hf
   exact hf.2
def r_4 (l:List a_2) (q:Int):List Int:=if q<0\/(l.length:Int)<=q then [] else grpL (e_1 l (gt (i_9 l) q) (q+1))
theorem b_m6 {l:List a_2} (hf:401<F):k_5 F l=some (i_9 l):=eqOf b_mn (Old.b_mq l hf)
theorem b_ir {l:List a_2} (hR:c_0 l=true) (hl:l.length*64<=140737488351232) (hf:l.length+1<F):a_gv F l=some (i_9 l):=by
 obtain ⟨b,h1,h2⟩:=(b_is (F:=F) (l:=l)).run _ (Old.b_mh l hl hf)
 unfold a_gv
 rw [h1]
 cases b with
 |inl u=>exact absurd h2 (a_iz hR).ne
 |inr y=>rw [h2.1];rfl
theorem b_cz {l:List a_2} (h:b_l9 l) (a b:Int):Gok (e_1 l a b):=fun x hx h7=>h.grp x (List.mem_of_mem_drop (List.mem_of_mem_take hx)) h7
theorem a_9v {l:List a_2} (hR:c_0 l=true) (q:Int) (hf:401<F):a_dy F l q=some (r_4 l q):=by
 have h:=a_iz hR
 have h400:=h.le;have hlen:=h.len
 unfold a_dy r_4
 rw [b_m6 hf]
 simp only [a_0,hlen]
 by_cases h0:q<0
 ·simp [h0]
 ·by_cases h1:(l.length:Int)<=q
  ·have:q>=(l.length:Int):=h1
   simp [h0,this]
  ·obtain ⟨n,rfl⟩:∃ n:Nat,q=n:=⟨q.toNat,by omega⟩
   have hn:n<l.length:=by omega
   have hr:=h.rng n hn
   have hW:W ((n:Int)+1)=(n:Int)+1:=f_2 (by omega) (by omega)
   have h2:¬ ((n:Int)>=(l.length:Int)):=h1
   have hsl:k_7 l (gt (i_9 l) (n:Int)) ((n:Int)+1)=true:=by simp [k_7];omega
   have hin:inb (i_9 l) (n:Int)=true:=a_7 (by omega) (by omega)
   simp only [h0,h1,h2,decide_false,if_false,a_0,false_eq_true,hin,if_true,hW,hsl,or_self]
   rw [b_hs (by rw [hW]) (b_cz h _ _) (by rw [a_e0 hsl];omega) hf,a_0,b_e8 hf,a_0]
theorem a_4f {l:List a_2} (hR:c_0 l=true) (hl:l.length*64<=140737488351232) (q:Int) (hf:401<F) (hf2:l.length+1<F):a_cw F l q=some (r_4 l q):=by
 have h:=a_iz hR
 have h400:=h.le;have hlen:=h.len
 unfold a_cw r_4
 rw [b_ir hR hl hf2]
 simp only [a_0,hlen]
 by_cases h0:q<0
 ·simp [h0]
 ·by_cases h1:(l.length:Int)<=q
  ·have:q>=(l.length:Int):=h1
   simp [h0,this]
  ·obtain ⟨n,rfl⟩:∃ n:Nat,q=n:=⟨q.toNat,by omega⟩
   have hn:n<l.length:=by omega
   have hr:=h.rng n hn
   have h2:¬ ((n:Int)>=(l.length:Int)):=h1
   have hin:inb (i_9 l) (n:Int)=true:=a_7 (by omega) (by omega)
   obtain ⟨lo,hlo⟩:∃ lo:Nat,gt (i_9 l) (n:Int)=lo:=⟨(gt (i_9 l) (n:Int)).toNat,by omega⟩
   rw [hlo] at hr
   simp only [h0,h1,h2,decide_false,if_false,a_0,false_eq_true,or_self,i_2,hlo]
   exact b_qk hn h400 (by omega) hin hlo (b_cz h _ _) hf
end
theorem b_lq {seg:List a_2} {k:Nat} {x:Int} (h:x∈grpN seg k):0<=x/\x<k:=by
 unfold grpN at h
 obtain ⟨n,hn,rfl⟩:=List.mem_map.1 h
 have:=List.mem_range.1 (List.mem_filter.1 hn).1
 omega
theorem b_bs {l:List a_2} {q x:Int} (h:x∈r_4 l q):0<=x/\x<10:=by
 unfold r_4 at h
 split at h
 ·cases h
 ·exact b_lq h
theorem a_g4 (l:List a_2) (q:Int):(r_4 l q).length<=10:=by
 unfold r_4
 split
 ·simp
 ·exact a_zu _ 10
def TopF (l:List a_2):Int:=(r_4 l ((l.length:Int)-1)).getLast?.getD 0
def h_2 (l:List a_2):Int:=1+2*TopF l
theorem a_rh (l:List a_2):0<=TopF l/\TopF l<10:=by
 unfold TopF
 cases h:(r_4 l ((l.length:Int)-1)).getLast? with
 |none=>simp
 |some x=>exact b_bs (List.mem_of_getLast? h)
section
variable {F:Nat}
theorem b_rt {l:List a_2} (hR:c_0 l=true) (hf:401<F):a_mz F l=some (TopF l):=by
 have h:=a_iz hR
 have h400:=h.le;have hpos:=h.pos
 unfold a_mz TopF
 rw [show W ((l.length:Int)-1)=(l.length:Int)-1 from f_2 (by omega) (by omega),a_9v hR _ hf,a_0,i_2]
 have hgl:=a_g4 l ((l.length:Int)-1)
 generalize r_4 l ((l.length:Int)-1)=g at *
 have:=c_2 (step:=a_g6 F g) (fun i=>((g.take i).getLast?.getD 0,(i:Int))) (g.getLast?.getD 0) g.length (fun i hi=>.inl ?_) ?_ g.length 0 F (by omega) (by omega)
 ·exact this
 ·unfold a_g6
  have h1:(i:Int)<(g.length:Int):=by omega
  have hW:W ((i:Int)+1)=((i+1:Nat):Int):=by rw [f_2 (by omega) (by omega)];omega
  have ht:g.take (i+1)=g.take i++[gt g (i:Int)]:=by rw [take_succ,n_3 hi];rfl
  simp only [h1,decide_true,if_true,a_7 (l:=g) (i:=(i:Int)) (by omega) h1,hW,ht,List.getLast?_append,List.getLast?_singleton,Option.some_or,Option.getD_some]
 ·unfold a_g6
  have h1:¬ ((g.length:Int)<(g.length:Int)):=by omega
  simp only [h1,decide_false,if_false,false_eq_true,take_length]
theorem b_re {l:List a_2} (hR:c_0 l=true) (hl:l.length*64<=140737488351232) (hf:401<F) (hf2:l.length+1<F):a_ky F l=some (TopF l):=by
 have h:=a_iz hR
 have h400:=h.le;have hpos:=h.pos
 unfold a_ky TopF
 rw [show W ((l.length:Int)-1)=(l.length:Int)-1 from f_2 (by omega) (by omega),a_4f hR hl _ hf hf2,a_0]
 have hgl:=a_g4 l ((l.length:Int)-1)
 generalize r_4 l ((l.length:Int)-1)=g at *
 by_cases h0:g=[]
 ·subst h0;rfl
 ·have hp:0<g.length:=List.length_pos_iff.2 h0
  have hne:((g.length:Int)==0)=false:=by simp;omega
  have hW:W ((g.length:Int)-1)=((g.length-1:Nat):Int):=by rw [f_2 (by omega) (by omega)];omega
  rw [if_neg (by rw [hne];simp),hW,if_pos (a_7 (by omega) (by omega))]
  have:g.getLast?=some (gt g ((g.length-1:Nat):Int)):=by rw [List.getLast?_eq_getElem?,n_3 (by omega)]
  rw [this];rfl
theorem b_qu {l:List a_2} (hR:c_0 l=true) (hf:401<F):a_ko F l=some (h_2 l):=by
 have ht:=a_rh l
 unfold a_ko h_2
 rw [eqOf a_q5 (Old.a_f4 l hf),hR]
 simp only [a_0,Bool.not_true,false_eq_true,if_false,b_rt hR hf]
 rw [f_2 (n:=2*TopF l) (by omega) (by omega),f_2 (by omega) (by omega)]
theorem b_cl {l:List a_2} (hR:c_0 l=true) (hl:l.length*64<=140737488351232) (hf:401<F) (hf2:l.length+1<F):a_e9 F l=some (h_2 l):=by
 have ht:=a_rh l
 unfold a_e9 h_2
 rw [eqOf a_oe (Old.a_cy l hl hf2),hR]
 simp only [a_0,Bool.not_true,false_eq_true,if_false,b_re hR hl hf hf2]
 rw [f_2 (n:=2*TopF l) (by omega) (by omega),f_2 (by omega) (by omega)]
def a_my (l:List a_2) (s:Int):List d_5:=
 if s<0\/(l.length:Int)<=s / 2 then [] else
 if (gt l (s / 2)).Kind=7 then [⟨1+s % 2,(gt l (s / 2)).N⟩] else
 if (gt l (s / 2)).Kind=8/\s % 2=0 then (r_4 l (s / 2)).map fun g=>⟨3,g⟩ else []
theorem a_t9 (l:List a_2) (s:Int):(a_my l s).length<=10:=by
 unfold a_my
 have:=a_g4 l (s / 2)
 split
 ·simp
 ·split
  ·simp
  ·split
   ·rw [length_map];exact this
   ·simp
def OfF (l:List a_2) (steps:List Int):List d_5:=steps.flatMap (a_my l)
theorem a_1i {g:List Int} {step:List d_5×Int->Option (Ctl (List d_5×Int) (List d_5))} (hstep:∀ o (i:Int),step (o,i)=if decide (i<(g.length:Int)) then if inb g i then if a_8 16 o [(⟨3,gt g i⟩:d_5)] then some (.next (o++[(⟨3,gt g i⟩:d_5)],W (i+1))) else none else none else some (.done o))
  (hg:g.length<=10) (hf:401<F) (o:List d_5) (ho:o.length<=100000000):iter step F (o,0)=some (o++g.map fun g=>⟨3,g⟩):=by
 have:=c_2 (step:=step) (fun i=>(o++(g.take i).map fun g=>(⟨3,g⟩:d_5),(i:Int))) (o++g.map fun g=>⟨3,g⟩) g.length (fun i hi=>.inl ?_) ?_ g.length 0 F (by omega) (by omega)
 ·simpa using this
 ·rw [hstep]
  have h1:(i:Int)<(g.length:Int):=by omega
  have hW:W ((i:Int)+1)=((i+1:Nat):Int):=by rw [f_2 (by omega) (by omega)];omega
  have ht:g.take (i+1)=g.take i++[gt g (i:Int)]:=by rw [take_succ,n_3 hi];rfl
  have hap:a_8 16 (o++(g.take i).map fun g=>(⟨3,g⟩:d_5)) [(⟨3,gt g (i:Int)⟩:d_5)]=true:=by simp [a_8];omega
  simp only [h1,decide_true,if_true,a_7 (l:=g) (i:=(i:Int)) (by omega) h1,hW,ht,hap,map_append,map_cons,map_nil,List.append_assoc]
 ·rw [hstep]
  have h1:¬ ((g.length:Int)<(g.length:Int)):=by omega
  simp only [h1,decide_false,if_false,false_eq_true,take_length]
def SOk (s:Int):Prop:=-9223372036854775808<=s/\s<=9223372036854775807
theorem b_q0 {l:List a_2} (hR:c_0 l=true) (hf:401<F) {s:Int} (hs:SOk s):a_k1 F l s=some (a_my l s):=by
 have h:=a_iz hR
 have h400:=h.le
 unfold a_k1 a_my
 by_cases h0:s<0
 ·simp [h0]
 ·obtain ⟨n,rfl⟩:∃ n:Nat,s=n:=⟨s.toNat,by omega⟩
  obtain ⟨_,hs2⟩:=hs
  have e1:(n:Int).tdiv 2=((n / 2:Nat):Int):=rfl
  have e2:(n:Int).tmod 2=((n % 2:Nat):Int):=rfl
  have e3:(n:Int) / 2=((n / 2:Nat):Int):=by omega
  have e4:(n:Int) % 2=((n % 2:Nat):Int):=by omega
  have hW:W ((n / 2:Nat):Int)=((n / 2:Nat):Int):=f_2 (by omega) (by omega)
  simp only [e1,e2,e3,e4,hW,h0,decide_false,if_false,false_eq_true,a_0,false_or]
  by_cases h1:(l.length:Int)<=((n / 2:Nat):Int)
  ·have h1':((n / 2:Nat):Int)>=(l.length:Int):=h1
   simp only [h1,h1',decide_true,if_true]
  ·have h1':¬ ((n / 2:Nat):Int)>=(l.length:Int):=h1
   have hin:inb l ((n / 2:Nat):Int)=true:=a_7 (by omega) (by omega)
   simp only [h1,h1',decide_false,if_false,false_eq_true,hin,if_true]
   have hr:((n % 2:Nat):Int)=0\/((n % 2:Nat):Int)=1:=by omega
   generalize ((n % 2:Nat):Int)=r at *
   generalize ((n / 2:Nat):Int)=k at *
   by_cases h7:(gt l k).Kind=7
   ·rcases hr with rfl | rfl<;>simp [h7,a_0]
   ·have h7':((gt l k).Kind==7)=false:=by simp [h7]
    by_cases h8:(gt l k).Kind=8
    ·rcases hr with rfl | rfl
     ·have h8':((gt l k).Kind==8)=true:=by simp [h8]
      simp only [h7',h8',h8,h7,false_eq_true,if_false,if_true,a_0,beq_self_eq_true,and_self,a_9v hR _ hf,i_2]
      have:=a_1i (F:=F) (g:=r_4 l k) (step:=a_pd F (r_4 l k)) (fun o i=>rfl) (a_g4 _ _) hf [] (by simp)
      simpa using this
     ·simp [h7,h8,a_0]
    ·simp [h7,h8,a_0]
theorem n_Of {l:List a_2} (hR:c_0 l=true) {st:List Int} (hst:st.length<=2000000) (hf:2000001<F) (hs:∀ s∈st,SOk s):a_h3 F l st=some (OfF l st):=by
 unfold a_h3
 rw [eqOf a_q5 (Old.a_f4 l (by omega)),hR]
 simp only [a_0,Bool.not_true,false_eq_true,if_false,i_2]
 have hlen:∀ i,i<=st.length->(OfF l (st.take i)).length<=10*i:=by
  intro i
  induction i with
  |zero=>intro _;simp [OfF]
  |
   succ i ih=>
   intro hi
   have:=ih (by omega)
   have h2:=a_t9 l (gt st (i:Int))
   rw [show st.take (i+1)=st.take i++[gt st (i:Int)] from by rw [take_succ,n_3 (by omega)];rfl]
   simp only [OfF,List.flatMap_append,List.length_append,flatMap_cons,flatMap_nil,append_nil] at *
   omega
 have:=c_2 (step:=a_h7 F l st) (fun i=>(OfF l (st.take i),(i:Int))) (OfF l st) st.length (fun i hi=>.inl ?_) ?_ st.length 0 F (by omega) (by omega)
 ·exact this
 ·unfold a_h7
  have h1:(i:Int)<(st.length:Int):=by omega
  have hW:W ((i:Int)+1)=((i+1:Nat):Int):=by rw [f_2 (by omega) (by omega)];omega
  have ht:st.take (i+1)=st.take i++[gt st (i:Int)]:=by rw [take_succ,n_3 hi];rfl
  have h2:=a_t9 l (gt st (i:Int))
  have h3:=hlen i (by omega)
  have hap:a_8 16 (OfF l (st.take i)) (a_my l (gt st (i:Int)))=true:=by simp [a_8];omega
  simp only [h1,decide_true,if_true,a_7 (l:=st) (i:=(i:Int)) (by omega) h1,hW,b_q0 hR (show 401<F by omega) (hs _ (mem_of_getElem? (n_3 hi))),a_0,hap,ht,OfF,List.flatMap_append,flatMap_cons,flatMap_nil,append_nil]
  rw [show OfF l (List.take i st)=List.flatMap (a_my l) (List.take i st) from rfl] at hap
  rw [if_pos hap]
 ·unfold a_h7
  have h1:¬ ((st.length:Int)<(st.length:Int)):=by omega
  simp only [h1,decide_false,if_false,false_eq_true,take_length]
theorem a_h4 (l:List a_2):∀ st:List Int,(OfF l st).length<=10*st.length
 |[]=>by simp [OfF]
 |
  x :: r=>by
  have h:=a_h4 l r
  have h2:=a_t9 l x
  simp only [OfF,flatMap_cons,List.length_append,List.length_cons] at *
  omega
theorem a_73 {l:List a_2} (hR:c_0 l=true) (hl:l.length*64<=140737488351232) (hf:401<F) (hf2:l.length+1<F) {st:List Int} {i:Nat} (hi:i<st.length) (hlen:st.length<=2000000) (hs:SOk (gt st (i:Int))) {o:List d_5} (ho:o.length<=50000000) :
  a_dw F l st (o,(i:Int))=some (.next (o++a_my l (gt st (i:Int)),((i+1:Nat):Int))):=by
 have h:=a_iz hR
 have h400:=h.le
 have hi1:(i:Int)<(st.length:Int):=by omega
 have hW1:W ((i:Int)+1)=((i+1:Nat):Int):=by rw [f_2 (by omega) (by omega)];omega
 unfold a_dw a_my
 simp only [hi1,decide_true,if_true,a_7 (l:=st) (i:=(i:Int)) (by omega) hi1,hW1]
 generalize gt st (i:Int)=s at *
 by_cases h0:s<0
 ·simp [h0]
 ·obtain ⟨n,rfl⟩:∃ n:Nat,s=n:=⟨s.toNat,by omega⟩
  obtain ⟨_,hs2⟩:=hs
  have e1:(n:Int).tdiv 2=((n / 2:Nat):Int):=rfl
  have e2:(n:Int).tmod 2=((n % 2:Nat):Int):=rfl
  have e3:(n:Int) / 2=((n / 2:Nat):Int):=by omega
  have e4:(n:Int) % 2=((n % 2:Nat):Int):=by omega
  have hW:W ((n / 2:Nat):Int)=((n / 2:Nat):Int):=f_2 (by omega) (by omega)
  have hW2:W (1+((n % 2:Nat):Int))=1+((n % 2:Nat):Int):=f_2 (by omega) (by omega)
  simp only [e1,e2,e3,e4,hW,hW2,h0,decide_false,if_false,false_eq_true,a_0,false_or]
  by_cases h1:(l.length:Int)<=((n / 2:Nat):Int)
  ·have h1':((n / 2:Nat):Int)>=(l.length:Int):=h1
   simp only [h1,h1',decide_true,if_true,a_0,append_nil]
  ·have h1':¬ ((n / 2:Nat):Int)>=(l.length:Int):=h1
   have hin:inb l ((n / 2:Nat):Int)=true:=a_7 (by omega) (by omega)
   simp only [h1,h1',decide_false,if_false,false_eq_true,hin,if_true]
   have hr:((n % 2:Nat):Int)=0\/((n % 2:Nat):Int)=1:=by omega
   generalize ((n % 2:Nat):Int)=r at *
   generalize ((n / 2:Nat):Int)=k at *
   by_cases h7:(gt l k).Kind=7
   ·have hap:a_8 16 o [(⟨1+r,(gt l k).N⟩:d_5)]=true:=by simp [a_8];omega
    simp [h7,a_0,hap]
   ·have h7':((gt l k).Kind==7)=false:=by simp [h7]
    by_cases h8:(gt l k).Kind=8
    ·rcases hr with rfl | rfl
     ·have h8':((gt l k).Kind==8)=true:=by simp [h8]
      rw [if_neg h7,if_pos (show (gt l k).Kind=8/\(0:Int)=0 from ⟨h8,rfl⟩)]
      simp only [h7',h8',false_eq_true,if_false,if_true,a_0,beq_self_eq_true,a_4f hR hl _ hf hf2,i_2]
      rw [a_1i (F:=F) (g:=r_4 l k) (step:=a_qt F (r_4 l k)) (fun o i=>rfl) (a_g4 _ _) hf o (by omega)]
      simp [a_0]
     ·simp [h7,h8,a_0]
    ·simp [h7,h8,a_0]
theorem b_ev {l:List a_2} (hR:c_0 l=true) (hl:l.length*64<=140737488351232) {st:List Int} (hst:st.length<=2000000) (hf:2000001<F) (hf2:l.length+1<F) (hs:∀ s∈st,SOk s):a_ft F l st=some (OfF l st):=by
 unfold a_ft
 rw [eqOf a_oe (Old.a_cy l hl hf2),hR]
 simp only [a_0,Bool.not_true,false_eq_true,if_false,i_2]
 have:=c_2 (step:=a_dw F l st) (fun i=>(OfF l (st.take i),(i:Int))) (OfF l st) st.length (fun i hi=>.inl ?_) ?_ st.length 0 F (by omega) (by omega)
 ·exact this
 ·have h3:=a_h4 l (st.take i)
  rw [List.length_take] at h3
  rw [a_73 hR hl (by omega) hf2 hi hst (hs _ (mem_of_getElem? (n_3 hi))) (by omega)]
  have ht:st.take (i+1)=st.take i++[gt st (i:Int)]:=by rw [take_succ,n_3 hi];rfl
  simp only [ht,OfF,List.flatMap_append,flatMap_cons,flatMap_nil,append_nil]
 ·unfold a_dw
  have h1:¬ ((st.length:Int)<(st.length:Int)):=by omega
  simp only [h1,decide_false,if_false,false_eq_true,take_length]
end
def e_7 (l:List a_2) (h:a_1):c_8:=⟨h,OfF l h.Steps⟩
def m_0 (l:List a_2) (n:Nat) (a:List a_1) (b:Nat->List a_1) (e:Nat->a_1×Bool) (z:a_1×Bool):v_8:=
 ⟨l,(b_3 l l.length).map fun q=>(gt l q).Set,a.map (e_7 l),(List.range n).map fun p=>(b p).map (e_7 l),(List.range n).map fun p=>e_7 l (e p).1,(List.range n).map fun p=>(e p).2,OfF l z.1.Steps,z.2,h_2 l,z.1⟩
def s_9 (l:List a_2) (n:Nat) (a:List a_1) (b:Nat->List a_1) (e:Nat->a_1×Bool) (at_ work:Int) (places:List Int) (tags:List (List Int)) (rank:b_9):b_4:=
 ⟨l,b_3 l l.length,a,(List.range n).map b,(List.range n).map fun p=>(e p).1.Steps,at_,work,places,tags,rank⟩
theorem Bnd.sok {st:List Int} (h:Bnd 800 st):∀ s∈st,SOk s:=fun s hs=>by have:=h s hs;unfold SOk;omega
theorem a_so {β:Type} (f:Nat->β) (i:Nat):(List.range (i+1)).map f=(List.range i).map f++[f i]:=by
 rw [List.range_succ,map_append];rfl
section
variable {F:Nat}
theorem b_ch {l:List a_2} (hR:c_0 l=true) {hops:List a_1} (hlen:hops.length<=500000) (hf:2000001<F) (hb:BndH 800 hops) (hs:∀ h∈hops,h.Steps.length<=2000000):a_cx F l hops=some (hops.map (e_7 l)):=by
 unfold a_cx
 rw [i_2]
 have:=c_2 (step:=a_cl F l hops) (fun i=>((hops.take i).map (e_7 l),(i:Int))) (hops.map (e_7 l)) hops.length (fun i hi=>.inl ?_) ?_ hops.length 0 F (by omega) (by omega)
 ·exact this
 ·unfold a_cl
  have h1:(i:Int)<(hops.length:Int):=by omega
  have hW:W ((i:Int)+1)=((i+1:Nat):Int):=by rw [f_2 (by omega) (by omega)];omega
  have ht:hops.take (i+1)=hops.take i++[gt hops (i:Int)]:=by rw [take_succ,n_3 hi];rfl
  have hm:=mem_of_getElem? (n_3 hi)
  have hap:a_8 64 ((hops.take i).map (e_7 l)) [(⟨gt hops (i:Int),OfF l (gt hops (i:Int)).Steps⟩:c_8)]=true:=by simp [a_8];omega
  simp only [h1,decide_true,if_true,a_7 (l:=hops) (i:=(i:Int)) (by omega) h1,hW,n_Of hR (hs _ hm) hf (Bnd.sok (hb _ hm)),a_0,hap,ht,map_append,map_cons,map_nil,e_7]
 ·unfold a_cl
  have h1:¬ ((hops.length:Int)<(hops.length:Int)):=by omega
  simp only [h1,decide_false,if_false,false_eq_true,take_length]
variable {l:List a_2} {n:Nat} {a:List a_1} {b:Nat->List a_1} {e:Nat->a_1×Bool} {z:a_1×Bool}
theorem b_ol (hR:c_0 l=true) (hn:n=a_3 l l.length) (T:a_zz l n a b e z) (hf:2000001<F) (TF:a_uf l n a b e z F):a_fx F l=some (m_0 l n a b e z):=by
 have h:=a_iz hR
 have h400:=h.le;have hpos:=h.pos;have hn64:=T.n64
 have hll:(b_3 l l.length).length=n:=by rw [f_8,hn]
 have hcl:a_bw F l=some l:=by unfold a_bw;rw [if_pos (by simp [a_8];omega)]
 unfold a_fx m_0
 rw [hcl,show W ((l.length:Int)-1)=(l.length:Int)-1 from f_2 (by omega) (by omega)]
 simp only [a_0,TF.mA,b_ch hR T.al hf T.ab (fun h hh=>(T.aw.ok h hh).2.2),b_qu hR (show 401<F by omega),TF.mL,TF.mZ,n_Of hR (show z.1.Steps.length<=2000000 by have:=T.zl;omega) hf (Bnd.sok T.zb)]
 generalize hLv:b_3 l l.length=lv at *
 have:=c_2 (step:=z_0 F l lv) (fun i=>((i:Int),(l,(lv.take i).map (fun q=>(gt l q).Set),a.map (e_7 l),(List.range i).map (fun p=>(b p).map (e_7 l)),(List.range i).map (fun p=>e_7 l (e p).1),(List.range i).map (fun p=>(e p).2),h_2 l,(⟨0,0,[]⟩:a_1))))
  (l,lv.map (fun q=>(gt l q).Set),a.map (e_7 l),(List.range n).map (fun p=>(b p).map (e_7 l)),(List.range n).map (fun p=>e_7 l (e p).1),(List.range n).map (fun p=>(e p).2),h_2 l,(⟨0,0,[]⟩:a_1)) n (fun i hi=>.inl ?_) ?_ n 0 F (by omega) (by omega)
 ·have h2:iter (z_0 F l lv) F (0,(l,[],a.map (e_7 l),[],[],[],h_2 l,(⟨0,0,[]⟩:a_1)))=_:=this
  rw [h2]
  rfl
 ·unfold z_0
  have h1:(i:Int)<(lv.length:Int):=by omega
  have hW:W ((i:Int)+1)=((i+1:Nat):Int):=by rw [f_2 (by omega) (by omega)];omega
  obtain ⟨q,hq,hq2,_,_⟩:=z_9 l l.length i (by rw [<-hn];exact hi)
  rw [hLv] at hq2
  have hg:gt lv (i:Int)=(q:Int):=d_4 hq2
  have ht:lv.take (i+1)=lv.take i++[(q:Int)]:=by rw [take_succ,hq2];rfl
  have hap1:a_8 32 ((lv.take i).map (fun q=>(gt l q).Set)) [(gt l (q:Int)).Set]=true:=by simp [a_8];omega
  have hap2:a_8 24 ((List.range i).map (fun p=>(b p).map (e_7 l))) [(b i).map (e_7 l)]=true:=by simp [a_8];omega
  have hap3:a_8 64 ((List.range i).map (fun p=>e_7 l (e p).1)) [(⟨(e i).1,OfF l (e i).1.Steps⟩:c_8)]=true:=by simp [a_8];omega
  have hap4:a_8 1 ((List.range i).map (fun p=>(e p).2)) [(e i).2]=true:=by simp [a_8];omega
  simp only [h1,decide_true,if_true,a_7 (l:=lv) (i:=(i:Int)) (by omega) h1,hg,a_7 (l:=l) (i:=(q:Int)) (by omega) (by omega),hap1,TF.mB i hi,a_0,b_ch hR (T.bl i hi) hf (T.bb i hi) (fun h hh=>((T.bw i hi).ok h hh).2.2),hap2,TF.mE i hi,
   n_Of hR (show (e i).1.Steps.length<=2000000 by have:=T.el i hi;omega) hf (Bnd.sok (T.eb i hi)),hap3,hap4,hW,ht,a_so,map_append,map_cons,map_nil,e_7]
  simp only [e_7] at hap3
  rw [if_pos hap3]
 ·unfold z_0
  have h1:¬ ((n:Int)<(lv.length:Int)):=by omega
  simp only [h1,decide_false,if_false,false_eq_true]
  rw [List.take_of_length_le (by omega)]
theorem b_ma (hR:c_0 l=true) (hn:n=a_3 l l.length) (T:a_zz l n a b e z) (hf:2000001<F) (TF:a_uf l n a b e z F):w_0 F l=some (.inr ⟨m_0 l n a b e z,0,0,[],[],⟨[],[]⟩⟩,0):=by
 unfold w_0
 rw [TF.mR]
 simp only [a_0,Bool.not_true,false_eq_true,if_false,b_ol hR hn T hf TF]
theorem b_iy (hR:c_0 l=true) (hn:n=a_3 l l.length) (T:a_zz l n a b e z) (hf:2000001<F) (TF:a_uf l n a b e z F):a_d8 F l=some (s_9 l n a b e 0 0 [] [] ⟨[],[]⟩):=by
 have h:=a_iz hR
 have h400:=h.le;have hpos:=h.pos;have hn64:=T.n64
 have hll:(b_3 l l.length).length=n:=by rw [f_8,hn]
 unfold a_d8 s_9
 rw [show W ((l.length:Int)-1)=(l.length:Int)-1 from f_2 (by omega) (by omega)]
 simp only [a_0,TF.rA,TF.rL]
 generalize hLv:b_3 l l.length=lv at *
 have:=c_2 (step:=a_df F l) (fun i=>((i:Int),(l,lv,a,(List.range i).map b,(List.range i).map (fun p=>(e p).1.Steps),0,0,(⟨[],[]⟩:b_9))))
  (l,lv,a,(List.range n).map b,(List.range n).map (fun p=>(e p).1.Steps),0,0,(⟨[],[]⟩:b_9)) n (fun i hi=>.inl ?_) ?_ n 0 F (by omega) (by omega)
 ·have h2:iter (a_df F l) F (0,(l,lv,a,[],[],0,0,(⟨[],[]⟩:b_9)))=_:=this
  rw [h2]
  rfl
 ·unfold a_df
  have h1:(i:Int)<(lv.length:Int):=by omega
  have hW:W ((i:Int)+1)=((i+1:Nat):Int):=by rw [f_2 (by omega) (by omega)];omega
  have hap1:a_8 24 ((List.range i).map b) [b i]=true:=by simp [a_8];omega
  have hap2:a_8 24 ((List.range i).map (fun p=>(e p).1.Steps)) [(e i).1.Steps]=true:=by simp [a_8];omega
  simp only [h1,decide_true,if_true,TF.rB i hi,a_0,hap1,TF.rE i hi,hap2,hW,a_so]
 ·unfold a_df
  have h1:¬ ((n:Int)<(lv.length:Int)):=by omega
  simp only [h1,decide_false,if_false,false_eq_true]
end
