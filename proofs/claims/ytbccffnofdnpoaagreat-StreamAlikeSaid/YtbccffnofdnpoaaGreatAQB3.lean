/- P. Its conditions: none. -/
import Derived.Test.YtbccffnofdnpoaaGreatAG50
open List (mem_map mem_range length_map all_eq_true)
set_option linter.all false
namespace Go.Proofs.YtbccffnofdnpoaaGreat.Mv
open Go.V Go.RowKit Go.X
variable {F:Nat}
def k9 (hq a src:List Int)(i:Nat):P1:=⟨gt a (i:Int),C7 hq (gt src (i:Int))⟩
def H9 (hq a src:List Int)(k:Nat):List P1:=((List.range k).map (k9 hq a src)).filter fun m=>m.To != m.From
def B09 (hq a src:List Int)(k:Nat):H9 hq a src (k+1)=H9 hq a src k++if(k9 hq a src k).To != (k9 hq a src k).From then[k9 hq a src k]else[]:=by
 unfold H9;rw[List.range_succ,List.map_append,List.filter_append,List.map_singleton];congr 1;cases h:(k9 hq a src k).To != (k9 hq a src k).From<;>simp[List.filter,h]
def q0Z {hq c src:List Int}{k:Nat}{m:P1}:m∈H9 hq c src k↔∃i,i<k/\k9 hq c src i=m/\m.To≠m.From:=by
 unfold H9;rw[List.mem_filter,mem_map,bne_iff_ne];constructor
 ·rintro⟨⟨i,h1,a⟩,b⟩;exact⟨i,mem_range.1 h1,a,b⟩
 ·rintro⟨i,h1,a,b⟩;exact⟨⟨i,mem_range.2 h1,a⟩,b⟩
def x0F (hq a src:List Int)(k:Nat):(H9 hq a src k).length<=k:=by
 have:=List.length_filter_le (fun m:P1=>m.To != m.From) ((List.range k).map (k9 hq a src));rw[length_map,List.length_range]at this;exact this
def G0G {hq a src:List Int}(hn:a.Nodup):((H9 hq a src a.length).map P1.To).Nodup:=by
 have hs:((H9 hq a src a.length).map P1.To).Sublist (((List.range a.length).map (k9 hq a src)).map P1.To):=List.filter_sublist.map _;refine hs.nodup ?_;have:((List.range a.length).map (k9 hq a src)).map P1.To=a:=by
  rw[List.map_map];refine List.ext_getElem V' fun i h1 b=>?_;rw[List.getElem_map,List.getElem_range];exact S6 b
 rw[this];exact hn
structure i09 (H:List (List Int))(many q:Int)(x:I6)(y:I5):Prop where
 to:y.To=x.To
 no:x.Src=[]->y.Moves=[]
 ln:y.Moves.length<=2*x.Src.length
 mv:∀m∈y.Moves,0<=m.To/\m.To<=many/\-1<=m.From/\m.From<=many/\m.From≠m.To
 ap:∀now regs,(regs.length:Int)=many+1->∀k:Nat,k<x.Src.length->gt (Pr.Y3 now regs y.Moves) (gt (gt H x.To) (k:Int))=if gt x.Src (k:Int)=-1 then now else gt regs (gt (gt H q) (gt x.Src (k:Int)))
section
variable {d:E4}{H:List (List Int)}{many:Int}
def j0M (hH:H.length=d.States.length){q:Int}(uq:0<=q)(e:q<d.States.length){n:Int}(hn:n<((gt H q).length:Int)):g0r F ⟨d,H,many⟩ q n=some (C7 (gt H q) n):=by
 have b:C0 H q=true:=R0 uq O';unfold g0r C7
 by_cases c:n<0
 ·simp only[c,decide_true,if_true]
 ·have a:C0 (gt H q) n=true:=R0 O' hn;simp only[q0,c,b,a]
def H0x (w:RdD d)(hF:5000<F)(z:0<=many)(hH:H.length=d.States.length)(hh:∀i:Nat,i<d.States.length->s8 many (z7 d i) (gt H (i:Int))){q:Int}(uq:0<=q)(C:q<d.States.length){x:I6}(J:x∈(gt d.States q).Edges):
  ∃y,l08 F ⟨d,H,many⟩ q x=some y/\i09 H many q x y:=by
 have hs:=B8 uq C;have b1:=w.sm.sr _ hs _ J;have h:s8 many (z7 d q) (gt H q):=by have:=hh q.toNat O';rwa [show((q.toNat:Nat):Int)=q from O']at this
 have v:=h.len;have a1:=w.rg _ hs;have a:x.Src=[]\/(0<=x.To/\x.To<(d.States.length:Int)/\s8 many x.Src.length (gt H x.To)/\∀n∈x.Src,n=-1\/0<=n/\n<(gt d.States q).Regs):=by
  rcases w.to _ hs _ J with⟨_,g⟩|⟨g1,g2,g3,g4⟩
  ·exact .inl g
  ·have:=hh x.To.toNat O';rw[show((x.To.toNat:Nat):Int)=x.To from O']at this;refine .inr ⟨g1,g2,?_,g4⟩;rw[g3];exact this
 have b:∀k,k<x.Src.length->C7 (gt H q) (gt x.Src (k:Int))=-1/\gt x.Src (k:Int)=-1\/(0<=gt x.Src (k:Int)/\gt x.Src (k:Int)<(gt H q).length/\C7 (gt H q) (gt x.Src (k:Int))=gt (gt H q) (gt x.Src (k:Int))/\0<=gt (gt H q) (gt x.Src (k:Int))/\gt (gt H q) (gt x.Src (k:Int))<many):=fun k hk=>by
  have a:=a.resolve_left (fun e=>by rw[e]at hk;simp at hk);have hg:=a.2.2.2 _ (P4 hk);unfold z7 at v;rcases hg with g|⟨g1,g2⟩
  ·rw[g];exact .inl ⟨rfl,rfl⟩
  ·have:=h.rng _ (B8 g1 (show gt x.Src (k:Int)<((gt H q).length:Int) from O'));exact .inr ⟨g1,O',by unfold C7;rw[if_neg O'],this.1,this.2⟩
 have hl:=b0i (body:=h00 F ⟨d,H,many⟩ q x) x.Src.length (fun k=>(H9 (gt H q) (gt H x.To) x.Src k,(k:Int))) (H9 (gt H q) (gt H x.To) x.Src x.Src.length) (fun k hk=>by
  have a:=a.resolve_left (fun e=>by rw[e]at hk;simp at hk);have l:=a.2.2.1.len;have n1:C0 H x.To=true:=R0 a.1 O';have n2:C0 (gt H x.To) (k:Int)=true:=R0 O' O';have s:=j0M (F:=F) (d:=d) (H:=H) (many:=many) hH uq C (n:=gt x.Src (k:Int)) (by rcases b k hk with⟨_,g⟩|⟨g1,g2,_⟩<;>omega);have p:=x0F (gt H q) (gt H x.To) x.Src k;have u:∀m:P1,J0 16 (H9 (gt H q) (gt H x.To) x.Src k) [m]=true:=fun m=>W4 Z';rw[B09];unfold h00;simp only[q0,dec_lt hk,Q4,hk,n1,show k<(gt H x.To).length from O',s,l9,u,Ws (show k<=1000000 from O')];show Option.bind (if((k9 (gt H q) (gt H x.To) x.Src k).To != (k9 (gt H q) (gt H x.To) x.Src k).From)=true then some (H9 (gt H q) (gt H x.To) x.Src k++[k9 (gt H q) (gt H x.To) x.Src k])else some (H9 (gt H q) (gt H x.To) x.Src k)) _=_;cases(k9 (gt H q) (gt H x.To) x.Src k).To != (k9 (gt H q) (gt H x.To) x.Src k).From<;>simp) (by unfold h00;simp) (fu:=F) O'
 have hl:iter (h00 F ⟨d,H,many⟩ q x) F ([],0)=_:=hl;have p:=x0F (gt H q) (gt H x.To) x.Src x.Src.length;have t:((H9 (gt H q) (gt H x.To) x.Src x.Src.length).map P1.To).Nodup:=by
  rcases a with e|⟨g1,g2,g3,g4⟩
  ·rw[e];exact List.nodup_nil
  ·have h1:=g3.len;have:=G0G (hq:=gt H q) (src:=x.Src) g3.nd
   rwa [show(gt H x.To).length=x.Src.length from O']at this
 obtain⟨out,o1,I,o3,o4⟩:=O05 (F:=F) (ms:=H9 (gt H q) (gt H x.To) x.Src x.Src.length) (R:=many) hF O' (fun m hm=>by
  obtain⟨i,hi,rfl,f⟩:=q0Z.1 hm;have a:=a.resolve_left (fun e=>by rw[e]at hi;simp at hi);have l:=a.2.2.1.len;have h1:=a.2.2.1.rng _ (P4 (show i<(gt H x.To).length from O'));refine⟨h1,?_,f⟩;show -1<=C7 _ _/\C7 _ _<many;rcases b i hi with⟨g,_⟩|⟨g1,g2,g3,g4,g5⟩
  ·rw[g];omega
  ·rw[g3];omega) t z
 have r:out.length<=2*x.Src.length:=O'
 refine⟨⟨x.To,out⟩,?_,⟨rfl,fun e=>?_,r,o3,fun now regs hr k hk=>?_⟩⟩
 ·unfold l08;simp only[hl,F0,o1]
 ·have:out.length<=0:=by
   rw[e]at I;simpa[H9]using I
  show out=[];exact List.eq_nil_of_length_eq_zero O'
 ·obtain⟨p1,p2⟩:=o4 now regs hr;have a:=a.resolve_left (fun e=>by rw[e]at hk;simp at hk);have l:=a.2.2.1.len;have j:k<(gt H x.To).length:=O'
  have h1:=a.2.2.1.rng _ (P4 j);simp only
  by_cases c:(k9 (gt H q) (gt H x.To) x.Src k).To≠(k9 (gt H q) (gt H x.To) x.Src k).From
  ·have:=p1 _ (q0Z.2 ⟨k,hk,rfl,c⟩);refine this.trans ?_;show b0u now (gt regs) (C7 _ _)=_;unfold b0u;rcases b k hk with⟨g,U⟩|⟨g1,g2,g3,g4,g5⟩
   ·rw[g,U,if_pos rfl,if_pos rfl]
   ·rw[g3,if_neg O',if_neg O']
  ·have c':gt (gt H x.To) (k:Int)=C7 (gt H q) (gt x.Src (k:Int)):=Classical.not_not.1 c;rcases b k hk with⟨g,U⟩|⟨g1,g2,g3,g4,g5⟩
   ·omega
   ·rw[if_neg O',p2 _ h1.1 h1.2 (fun m hm e=>?_),c',g3];obtain⟨i,hi,rfl,f⟩:=q0Z.1 hm;have o:i<(gt H x.To).length:=O'
    have e:gt (gt H x.To) (i:Int)=gt (gt H x.To) (k:Int):=e;rw[S6 o,S6 j]at e;have:i=k:=(List.getElem_inj a.2.2.1.nd).1 e;subst this;exact c f
structure StF (d:E4)(H:List (List Int))(many q:Int)(y:U6):Prop where
 ac:y.Accept=(gt d.States q).Accept.map (C7 (gt H q))
 wl:y.B2.length=(gt d.States q).Edges.length
 wy:∀c:Nat,c<y.B2.length->i09 H many q (gt (gt d.States q).Edges (c:Int)) (gt y.B2 (c:Int))
def M0D (b:RdD d)(hF:5000<F)(t:0<=many)(hH:H.length=d.States.length)(J:∀i:Nat,i<d.States.length->s8 many (z7 d i) (gt H (i:Int))){q:Int}(uq:0<=q)(f:q<d.States.length):
  ∃y,l0Z F ⟨d,H,many⟩ q=some y/\StF d H many q y:=by
 have hs:=B8 uq f;have a1:=b.sm.ac _ hs;have b1:=b.sm.ed _ hs;have h:s8 many (z7 d q) (gt H q):=by have:=J q.toNat O';rwa [show((q.toNat:Nat):Int)=q from O']at this
 have p:=h.len;have U:=b.rg _ hs;have l:C0 d.States q=true:=R0 uq f;have m:=(b.ac _ hs).1;have h1:=b0i (body:=j0f F ⟨d,H,many⟩ q) (gt d.States q).Accept.length (fun k=>((k:Int),(((gt d.States q).Accept.take k).map (C7 (gt H q)),([]:List I5)))) ((gt d.States q).Accept.map (C7 (gt H q)),([]:List I5)) (fun k hk=>by
  have ha:=m _ (P4 hk);have o:=j0M (F:=F) (d:=d) (H:=H) (many:=many) hH uq f (n:=gt (gt d.States q).Accept (k:Int)) (by unfold z7 at p;omega);have a:∀z:Int,J0 8 (((gt d.States q).Accept.take k).map (C7 (gt H q))) [z]=true:=fun z=>W4 Z';unfold j0f;simp only[q0,dec_lt hk,Q4,hk,o,a,Ws (show k<=1000000 from O')];rw[h0K hk,List.map_append];rfl) (by unfold j0f;simp) (fu:=F) O'
 have h1:iter (j0f F ⟨d,H,many⟩ q) F (0,([],[]))=_:=h1;obtain⟨⟨A,Wy⟩,h2,u,v,I⟩:=c0q (body:=l05 F ⟨d,H,many⟩ q) (fun s=>∃k:Nat,k<=(gt d.States q).Edges.length/\s.1=(k:Int)/\s.2.1=(gt d.States q).Accept.map (C7 (gt H q))/\s.2.2.length=k/\∀c:Nat,c<k->i09 H many q (gt (gt d.States q).Edges (c:Int)) (gt s.2.2 (c:Int))) (fun s=>((gt d.States q).Edges.length-s.1).toNat)
  (fun r=>r.1=(gt d.States q).Accept.map (C7 (gt H q))/\r.2.length=(gt d.States q).Edges.length/\∀c:Nat,c<(gt d.States q).Edges.length->i09 H many q (gt (gt d.States q).Edges (c:Int)) (gt r.2 (c:Int))) (fun s g=>by
  obtain⟨x,A,w⟩:=s;obtain⟨k,hk,e,g1,g2,g3⟩:=g;simp only at e g1 g2 g3;subst e
  by_cases c:k<(gt d.States q).Edges.length
  ·left;obtain⟨y,R,y2⟩:=H0x (F:=F) b hF t hH J uq f (P4 c);have a:∀z:I5,J0 32 w [z]=true:=fun z=>W4 Z';refine⟨(((k+1:Nat):Int),A,w++[y]),?_,⟨k+1,c,rfl,g1,by simp[g2],fun j hj=>?_⟩,by simp only;omega⟩
   ·unfold l05;simp only[q0,dec_lt c,Q4,c,R,a,Ws (show k<=1000000 from O')]
   ·simp only
    by_cases e:j=k
    ·subst e;rw[show gt (w++[y]) (j:Int)=y by rw[S6 Z'];simp[<-g2]];exact y2
    ·rw[show gt (w++[y]) (j:Int)=gt w (j:Int) by rw[S6 Z',S6 (show j<w.length from O'),List.getElem_append_left O']];exact g3 j O'
  ·right;have:k=(gt d.States q).Edges.length:=O'
   subst this;exact⟨(A,w),by unfold l05;simp,g1,g2,g3⟩) F (0,((gt d.States q).Accept.map (C7 (gt H q)),[])) ⟨0,Nat.zero_le _,rfl,rfl,rfl,fun c C=>O'⟩ (by simp only;omega)
 simp only at u v I;subst u;refine⟨⟨_,Wy⟩,?_,⟨rfl,v,fun c C=>I c (by simp only at C;omega)⟩⟩;unfold l0Z;simp only[l,if_true,h1,F0,h2]
end
def B0F {d:E4}(f:RdD d)(hr:d0j d=true)(hF:5000<F)(h0:d.States.length<=60):∃p H,l0A F d=some (p,0)/\h0k d p H/\Pr.Sm p/\Pr.d03 p=true:=by
 obtain⟨H,many,h1,hH,b4,h3,hh⟩:=M0v (F:=F) f hr (B:=400) O' f.sm.rg O' hF;have e7:=f.pos;have c5:H.isEmpty=false:=by cases H with
  |nil=>simp at hH;omega
  |cons a r=>rfl
 have e6:=f.sm.cl;have hW:W (many+1)=many+1:=J3 O' O';have b3:K9 F d.Class=some d.Class:=by unfold K9;rw[if_pos (W4 Z')]
 obtain⟨⟨T,R,C,S⟩,h2,e1,e2,e3,e4,e5⟩:=c0q (body:=k05 F d) (fun s=>s.1=⟨d,H,many⟩/\∃k:Nat,k<=d.States.length/\s.2.1=(k:Int)/\s.2.2.1=d.Tags/\s.2.2.2.1=many+1/\s.2.2.2.2.1=d.Class/\s.2.2.2.2.2.length=k/\∀j:Nat,j<k->StF d H many (j:Int) (gt s.2.2.2.2.2 (j:Int))) (fun s=>(d.States.length-s.2.1).toNat)
  (fun r=>r.1=d.Tags/\r.2.1=many+1/\r.2.2.1=d.Class/\r.2.2.2.length=d.States.length/\∀j:Nat,j<d.States.length->StF d H many (j:Int) (gt r.2.2.2 (j:Int))) (fun s hs=>by
  obtain⟨m,x,T,R,C,S⟩:=s;obtain⟨em,k,hk,e,g1,g2,g3,g4,g5⟩:=hs;simp only at em e g1 g2 g3 g4 g5;subst em;subst e
  by_cases c:k<d.States.length
  ·left;obtain⟨y,y1,y2⟩:=M0D (F:=F) f hF b4 hH hh (q:=(k:Int)) O' O';have c3:∀z:U6,J0 48 S [z]=true:=fun z=>W4 Z';refine⟨(⟨d,H,many⟩,((k+1:Nat):Int),T,R,C,S++[y]),?_,⟨rfl,k+1,c,rfl,g1,g2,g3,by simp[g4],fun j hj=>?_⟩,by simp only;omega⟩
   ·unfold k05;simp only[dec_lt c,if_true,y1,F0,c3,Ws (show k<=1000000 from O')]
   ·simp only
    by_cases e:j=k
    ·subst e;rw[show gt (S++[y]) (j:Int)=y by rw[S6 Z'];simp[<-g4]];exact y2
    ·rw[show gt (S++[y]) (j:Int)=gt S (j:Int) by rw[S6 Z',S6 (show j<S.length from O'),List.getElem_append_left O']];exact g5 j O'
  ·right;have:k=d.States.length:=O'
   subst this;exact⟨(T,R,C,S),by unfold k05;simp,g1,g2,g3,g4,g5⟩) F (⟨d,H,many⟩,0,(d.Tags,many+1,d.Class,[])) ⟨rfl,0,Nat.zero_le _,rfl,rfl,rfl,rfl,rfl,fun j hj=>O'⟩ (by simp only;omega)
 simp only at e1 e2 e3 e4 e5;subst e1;subst e2;subst e3;have b1:∀q:Int,0<=q->q<d.States.length->StF d H many q (gt S q):=fun q uq b=>by have:=e5 q.toNat O';rwa [show((q.toNat:Nat):Int)=q from O']at this
 have u:∀q:Int,0<=q->q<d.States.length->s8 many (z7 d q) (gt H q):=fun q uq b=>by have:=hh q.toNat O';rwa [show((q.toNat:Nat):Int)=q from O']at this
 have t:∀s∈S,∃q:Int,0<=q/\q<d.States.length/\StF d H many q s:=fun s hs=>by
  obtain⟨i,hi,rfl⟩:=mgt hs;exact⟨(i:Int),O',O',e5 i O'⟩
 have I:∀s∈S,∀x∈s.B2,∃q:Int,∃e:I6,0<=q/\q<d.States.length/\e∈(gt d.States q).Edges/\i09 H many q e x:=fun s hs x hx=>by
  obtain⟨q,uq,b,hq⟩:=t s hs;obtain⟨i,hi,rfl⟩:=mgt hx;exact⟨q,_,uq,b,P4 (by rw[<-hq.wl];exact hi),hq.wy i hi⟩
 have w:∀s∈S,(s.Accept.length<=40/\(s.Accept.length=0\/(s.Accept.length:Int)=d.Tags))/\∀v∈s.Accept,-2<=v/\v<many+1:=fun s hs=>by
  obtain⟨q,uq,b,hq⟩:=t s hs;have hm:=B8 uq b;have c6:=f.sm.ac _ hm;obtain⟨a1,a2⟩:=f.ac _ hm;have e9:=(u q uq b).len;rw[hq.ac];refine⟨⟨by rw[length_map];exact c6,?_⟩,fun v U=>?_⟩
  ·rw[length_map];rcases a2 with a2|a2
   ·exact .inl (by rw[a2];rfl)
   ·exact .inr a2
  ·obtain⟨n,n1,rfl⟩:=mem_map.1 U;unfold C7 z7 at *;rcases a1 n n1 with g|g|⟨g1,g2⟩
   ·rw[g,if_pos O'];omega
   ·rw[g,if_pos O'];omega
   ·rw[if_neg O'];have:=(u q uq b).rng _ (B8 g1 (show n<((gt H q).length:Int) from O'));omega
 refine⟨⟨d.Tags,many+1,d.Class,S⟩,gt H,?_,⟨rfl,fun q uq b=>?_,fun q uq b=>(b1 q uq b).ac,fun q uq b c hc=>?_⟩,⟨by simp only;omega,e6,by simp only;omega,fun s hs=>(w s hs).1.1,fun s hs=>?_,fun s hs x hx=>?_⟩,?_⟩
 ·unfold l0A;simp only[q0,h1,c5,b3,l9,hW,h2]
 ·have:=u q uq b;exact⟨this.len,fun v U=>(this.rng v U).1⟩
 ·have hq:=b1 q uq b;have hw:=hq.wy c (by rw[hq.wl];exact hc);refine⟨hw.to,fun t0=>?_⟩;have J:=(f.to _ (B8 uq b) _ (P4 hc)).resolve_left (fun g=>O');exact⟨J.2.1,J.2.2.1,hw.ap⟩
 ·obtain⟨q,uq,b,hq⟩:=t s hs;rw[hq.wl];exact f.sm.ed _ (B8 uq b)
 ·obtain⟨q,e,uq,b,he,hw⟩:=I s hs x hx;have h1:=hw.ln;have h2:=f.sm.sr _ (B8 uq b) _ he;omega
 ·have tg:=f.tg;have st4:=f.st4;unfold Pr.d03 Pr.e0n;have b2:((S.length:Int)==0)=false:=by rw[beq_eq_false_iff_ne];omega
  simp only[tg.1,tg.2.1,tg.2.2,b2,f.cl,decide_true,Bool.not_false,Bool.and_self,Bool.true_and,show(1:Int)<=many+1 from O',show many+1<=(1217:Int) from O',show(S.length:Int)<=400 from O',all_eq_true];intro s hs;obtain⟨q,uq,b,hq⟩:=t s hs;obtain⟨⟨_,a1⟩,a2⟩:=w s hs;unfold Pr.a0r Pr.b0e;simp only[Bool.and_eq_true,Bool.or_eq_true,beq_iff_eq,all_eq_true];refine⟨⟨⟨by show _\/(s.Accept.length:Int)=d.Tags;omega,fun v U=>?_⟩,?_⟩,fun x hx=>?_⟩
  ·have:=a2 v U;unfold Pr.c0z;simp only[Bool.and_eq_true,decide_eq_true_eq];exact this
  ·rw[hq.wl,f.en _ (B8 uq b)]
  ·obtain⟨q',e,c4,c8,he,hw⟩:=I s hs x hx;have hl:=hw.ln;have J:=hw.to;have o:=f.to _ (B8 c4 c8) _ he;unfold Pr.c0g Pr.g0B;simp only[Bool.and_eq_true,decide_eq_true_eq,all_eq_true];refine⟨⟨⟨⟨?_,?_⟩,?_⟩,?_⟩,fun m hm=>?_⟩
   ·rcases o with g|g<;>omega
   ·rcases o with g|g<;>omega
   ·rcases o with⟨g1,g2⟩|g
    ·rw[hw.no g2];simp
    ·have:(x.To==-1)=false:=by rw[beq_eq_false_iff_ne];omega
     rw[this];rfl
   ·have h4:(e.Src.length:Int)<=many:=by
     rcases o with⟨g1,g2⟩|⟨g1,g2,g3,_⟩
     ·rw[g2];exact b4
     ·have h:=u e.To g1 g2;have:=q0L (l:=gt H e.To) (m:=(List.range many.toNat).map fun n:Nat=>(n:Int)) h.nd (fun v U=>by
       have:=h.rng v U;exact mem_map.2 ⟨v.toNat,mem_range.2 O',O'⟩)
      have h9:=h.len;unfold z7 at h9;simp at this;omega
    omega
   ·have:=hw.mv m hm;unfold Pr.e0x;have h9:(m.From==m.To)=false:=by rw[beq_eq_false_iff_ne];exact this.2.2.2.2
    rw[h9];simp only[Bool.and_eq_true,decide_eq_true_eq];refine⟨⟨⟨⟨?_,?_⟩,?_⟩,?_⟩,rfl⟩<;>omega
