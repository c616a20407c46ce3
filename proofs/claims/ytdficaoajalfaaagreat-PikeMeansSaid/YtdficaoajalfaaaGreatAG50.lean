/- What groups span in the document's tree is what the tags of that part tell. What all runs at once tell is what the document's tree f08. Its conditions: none. -/
import Derived.Test.YtdficaoajalfaaaGreatAG49
open List (foldl_cons mem_cons_of_mem any_eq_true foldl_nil foldl_append length_replicate length_cons)
open Nat (mul_le_mul mul_add add_mul le_refl zero_add)
set_option linter.all false
namespace Go.Proofs.YtdficaoajalfaaaGreat
open Go.V Go.RowKit Old Go.X
def Y7 (y:List G1) (gs:List Int):List G1:=gs.foldl (fun y g=>y.set g.toNat ⟨-1,-1⟩) y
def M7 (l:List C0) (y:List G1) (e:Z1):List G1:=
 if (gt l e.Node).Kind=8 then Y7 (if (gt l e.Node).Kind=7 then y.set (gt l e.Node).N.toNat ⟨e.From,e.To⟩ else y) (Z3 l e.Node)
 else if (gt l e.Node).Kind=7 then y.set (gt l e.Node).N.toNat ⟨e.From,e.To⟩ else y
theorem k0g:∀ (gs:List Int) (y:List G1),(Y7 y gs).length=y.length
 |[],y=>rfl
 |g :: r,y=>by unfold Y7;rw [foldl_cons];exact (k0g r _).trans (by simp)
theorem q08 (l:List C0) (y:List G1) (e:Z1):(M7 l y e).length=y.length:=by
 unfold M7;split
 ·rw [k0g];split<;>simp
 ·split<;>simp
theorem i0w (l:List C0) (es:List Z1):∀ y,(es.foldl (M7 l) y).length=y.length:=by
 induction es with
 |nil=>intro y;rfl
 |cons e r ih=>intro y;exact (ih _).trans (q08 l y e)
def pm (x:G1):Int×Int:=(x.From,x.To)
section
variable {l:List C0} {t:Tm} {T g:Nat} {F:Nat}
theorem t0S {g:Nat}:∀ (gs:List Int) (y:List G1),(∀ x∈gs,0<=x/\x<y.length)->pm (gt (Y7 y gs) (g:Int))=if (g:Int)∈gs then (-1,-1) else pm (gt y (g:Int))
 |[],y,_=>by simp [Y7]
 |
  x :: r,y,h=>by
  have hx:=h x (by simp);have ih:=t0S (g:=g) r (y.set x.toNat ⟨-1,-1⟩) (fun z hz=>by rw [List.length_set];exact h z (mem_cons_of_mem _ hz));have e:Y7 y (x :: r)=Y7 (y.set x.toNat ⟨-1,-1⟩) r:=rfl;rw [e,ih,V7 (by omega)]
  by_cases c:(g:Int)∈r
  ·rw [if_pos c,if_pos (mem_cons_of_mem _ c)]
  ·rw [if_neg c]
   by_cases c2:g=x.toNat
   ·rw [if_pos c2,if_pos (show (g:Int)∈x :: r by rw [show (g:Int)=x by omega];simp)];rfl
   ·rw [if_neg c2,if_neg (show ¬ (g:Int)∈x :: r by simp [c];omega)]
theorem l0T (hR:K1 l=true) (ht:O2 l t) (hT:o9 l=T) {q x:Int} (h:x∈Z3 l q):1<=x/\x<=T:=by
 have h0:=r0v h;obtain ⟨k,rfl⟩:∃ k:Nat,x=(k:Int):=⟨x.toNat,by omega⟩
 have hL:=a0M hR;have hany:∃ y∈l,P9 (k:Int) y=true:=by
  unfold Z3 at h;split at h
  ·cases h
  ·rw [s0R (by omega),any_eq_true] at h;obtain ⟨y,h1,h2⟩:=h;exact ⟨y,List.mem_of_mem_drop (List.mem_of_mem_take h1),h2⟩
 obtain ⟨y,h1,h2⟩:=hany;have h3:y.Kind=7/\y.N=(k:Int):=by simpa [P9] using h2
 have h4:=hL.grp y h1 h3.1;have h5:C5 t (k:Int)=true:=by
  rw [<-h0H (k:Int) t 0,<-ht.eq,any_eq_true];exact ⟨y,h1,h2⟩
 have:=o04 hR ht h5 (by omega) (by omega);omega
theorem d0y {s:Tm} {lo:Nat} (h:At l lo s) (h7:(s.node lo).Kind≠7) (h8:(s.node lo).Kind≠8) (d a b:Int) (y:List G1):M7 l y ⟨d,(s.top lo:Int),a,b⟩=y:=by
 unfold M7;simp only [h.D2,if_neg h7,if_neg h8]
theorem C0I (hR:K1 l=true) (ht:O2 l t) (hT:o9 l=T) (h1:1<=g) (h2:g<=T) {w:List Int}:∀ {s:Tm} {lo d k:Nat} {P:Pt} {y:List G1},At l lo s->Fit w s k P->y.length=T+1->pm (gt ((K2 s lo d k P).foldl (M7 l) y) (g:Int))=E4 (g:Int) s k P (pm (gt y (g:Int))):=by
 have h9:T<=9:=by have:=g0o l;omega
 intro s;have ln:∀ {es:List Z1} {y:List G1},y.length=T+1->(es.foldl (M7 l) y).length=T+1:=fun h=>by rw [i0w];exact h
 induction s with
 |
  eps=>
  intro lo d k P y h f hy;cases f;simp only [K2,foldl_cons,foldl_nil,E4,d0y h (by simp [Tm.node]) (by simp [Tm.node])]
 |
  leaf S=>
  intro lo d k P y h f hy;cases f;simp only [K2,foldl_cons,foldl_nil,E4,d0y h (by simp [Tm.node]) (by simp [Tm.node])]
 |
  cat a b ia ib=>
  intro lo d k P y h f hy;cases f with | @cat _ _ _ x x' f1 f2=>
  obtain ⟨ha,hb,_⟩:=(At.bin (t:=.cat a b) rfl rfl).1 h;simp only [K2,foldl_cons,foldl_append,E4,d0y h (by simp [Tm.node]) (by simp [Tm.node])];rw [ib hb f2 (ln hy),ia ha f1 hy]
 |
  alt a b ia ib=>
  intro lo d k P y h f hy;obtain ⟨ha,hb,_⟩:=(At.bin (t:=.alt a b) rfl rfl).1 h;cases f with
  |
   altL f=>
   simp only [K2,foldl_cons,E4,d0y h (by simp [Tm.node]) (by simp [Tm.node])];exact ia ha f hy
  |
   altR f=>
   simp only [K2,foldl_cons,E4,d0y h (by simp [Tm.node]) (by simp [Tm.node])];exact ib hb f hy
 |
  star a ia=>
  intro lo d k P y h f hy;have ha:=((At.un (t:=.star a) rfl rfl).1 h).1;simp only [K2,foldl_cons,E4,d0y h (by simp [Tm.node]) (by simp [Tm.node])];have key:∀ (P:Pt) (k:Nat) (y:List G1),Fit w (.star a) k P->y.length=T+1->pm (gt ((stE (fun k x=>K2 a lo (d+1) k x) k P).foldl (M7 l) y) (g:Int))=stG (fun k x c=>E4 (g:Int) a k x c) k P (pm (gt y (g:Int))):=by
   intro P
   induction P with
   |nil=>intro k y _ _;rfl
   |byte=>intro k y f _;cases f
   |one x _=>intro k y f _;cases f
   |other x _=>intro k y f _;cases f
   |
    two x r _ ir=>
    intro k y f hy;cases f with | star f1 _ f2=>
    simp only [stE,stG,foldl_append];rw [ir _ _ f2 (ln hy),ia ha f1 hy]
  exact key P k y f hy
 |
  maybe a ia=>
  intro lo d k P y h f hy;have ha:=((At.un (t:=.maybe a) rfl rfl).1 h).1;cases f with
  |maybe0=>simp only [K2,foldl_cons,foldl_nil,E4,d0y h (by simp [Tm.node]) (by simp [Tm.node])]
  |
   maybe f=>
   simp only [K2,foldl_cons,E4,d0y h (by simp [Tm.node]) (by simp [Tm.node])];exact ia ha f hy
 |
  group m a ia=>
  intro lo d k P y h f hy;have ha:=((At.un (t:=.group m a) rfl rfl).1 h).1;have hn:=t0c hR _ _ h;cases f with | @group _ _ _ x f=>
  have e:∀ d' a' b',M7 l y ⟨d',(Tm.top (.group m a) lo:Int),a',b'⟩=y.set m.toNat ⟨a',b'⟩:=fun d' a' b'=>by
   unfold M7;simp only [h.D2,Tm.node];simp
  have hin:C5 t m=true:=by
   have h5:(gt l (Tm.top (.group m a) lo:Int))∈l:=gtm h.j5;rw [<-h0H m t 0,<-ht.eq,any_eq_true];exact ⟨_,h5,by rw [h.D2];simp [P9,Tm.node]⟩
  have hm:=o04 hR ht hin hn.1 hn.2.1;simp only [K2,foldl_cons,E4,e];rw [ia ha f (by simpa using hy),V7 (by omega)];have hn1:=hn.1
  by_cases c:m=(g:Int)
  ·rw [if_pos (by omega),if_pos c,p0u f _ (by rw [<-c];exact hn.2.2.1)];simp only [pm,Pt.wid]
  ·rw [if_neg (by omega),if_neg c]
 |
  iter a ia=>
  intro lo d k P y h f hy;have ha:=((At.un (t:=.iter a) rfl rfl).1 h).1;cases f with | @iter _ _ x f=>
  have e:∀ d' a' b',M7 l y ⟨d',(Tm.top (.iter a) lo:Int),a',b'⟩=Y7 y (Z3 l (Tm.top (.iter a) lo:Int)):=fun d' a' b'=>by
   unfold M7;simp only [h.D2,Tm.node];simp
  have hg:=n0u hR h (g:=g) (by omega);simp only [C5] at hg;simp only [K2,foldl_cons,E4,e];rw [ia ha f (by rw [k0g];exact hy),t0S _ _ (fun x hx=>by have:=l0T hR ht hT hx;omega)];congr 1
  by_cases c:C5 a (g:Int)=true
  ·rw [if_pos c,if_pos (hg.2 c)]
  ·rw [if_neg c,if_neg (fun h=>c (hg.1 h))]
theorem t0M (hR:K1 l=true) (ht:O2 l t) (hT:o9 l=T):∀ (es:List Z1) (y:List G1),y.length=T+1->(∀ e∈es,0<=e.Node/\e.Node<(l.length:Int))->gt (es.foldl (M7 l) y) 0=gt y 0
 |[],y,_,_=>rfl
 |
  e :: r,y,hy,h=>by
  rw [foldl_cons,t0M hR ht hT r _ (by rw [q08];exact hy) (fun e he=>h e (mem_cons_of_mem _ he))];have hL:=a0M hR;obtain ⟨q,hq⟩:∃ q:Nat,e.Node=(q:Int):=⟨e.Node.toNat,by have:=h e (by simp);omega⟩
  have hq2:q<l.length:=by have:=h e (by simp);omega
  have s7:(gt l e.Node).Kind=7->gt (y.set (gt l e.Node).N.toNat ⟨e.From,e.To⟩) 0=gt y 0:=fun h7=>by
   have:=(hL.grp _ (by rw [hq];exact gtm hq2) h7).1;exact X7 (j:=0) (by omega)
  have su:∀ (gs:List Int) (y:List G1),(∀ x∈gs,1<=x)->gt (Y7 y gs) 0=gt y 0:=by
   intro gs
   induction gs with
   |nil=>intro y _;rfl
   |
    cons x r ih=>
    intro y h;have hx:=h x (by simp);have e:Y7 y (x :: r)=Y7 (y.set x.toNat ⟨-1,-1⟩) r:=rfl;rw [e,ih _ (fun z hz=>h z (mem_cons_of_mem _ hz))];exact X7 (j:=0) (by omega)
  unfold M7;split
  ·rw [su _ _ (fun x hx=>(l0T hR ht hT hx).1)];split
   ·rename_i h7;exact s7 h7
   ·rfl
  ·split
   ·rename_i h7;exact s7 h7
   ·rfl
theorem B0T {w:List Int} {s:Tm} {k:Nat} {P:Pt} (f:Fit w s k P):∀ {lo d:Nat},At l lo s->∀ e∈K2 s lo d k P,0<=e.Node/\e.Node<(l.length:Int):=by
 have top:∀ {s:Tm} {lo:Nat},At l lo s->∀ d a b:Int,∀ r:List Z1,(∀ e∈r,0<=e.Node/\e.Node<(l.length:Int))->∀ e∈(⟨d,(s.top lo:Int),a,b⟩:Z1) :: r,0<=e.Node/\e.Node<(l.length:Int):=by
  intro s lo h d a b r hr e he;rcases List.mem_cons.1 he with rfl | he
  ·have:=h.j5;simp only;omega
  ·exact hr e he
 have no:∀ e∈([]:List Z1),0<=e.Node/\e.Node<(l.length:Int):=by intro e he;simp at he
 induction f with
 |eps=>intro lo d h;exact top h _ _ _ _ no
 |leaf _ _=>intro lo d h;exact top h _ _ _ _ no
 |
  @cat a b _ _ _ _ _ i1 i2=>
  intro lo d h;obtain ⟨ha,hb,_⟩:=(At.bin (t:=.cat a b) rfl rfl).1 h;refine top h _ _ _ _ fun e he=>?_;rcases List.mem_append.1 he with he | he
  ·exact i1 ha e he
  ·exact i2 hb e he
 |@altL a b _ _ _ ih=>intro lo d h;exact top h _ _ _ _ (ih ((At.bin (t:=.alt a b) rfl rfl).1 h).1)
 |@altR a b _ _ _ ih=>intro lo d h;exact top h _ _ _ _ (ih ((At.bin (t:=.alt a b) rfl rfl).1 h).2.1)
 |star0=>intro lo d h;exact top h _ _ _ _ no
 |
  @star a _ _ _ _ _ _ i1 i2=>
  intro lo d h;refine top h _ _ _ _ fun e he=>?_;rcases List.mem_append.1 he with he | he
  ·exact i1 ((At.un (t:=.star a) rfl rfl).1 h).1 e he
  ·exact i2 h e (mem_cons_of_mem _ he)
 |maybe0=>intro lo d h;exact top h _ _ _ _ no
 |@maybe a _ _ _ _ ih=>intro lo d h;exact top h _ _ _ _ (ih ((At.un (t:=.maybe a) rfl rfl).1 h).1)
 |@group m a _ _ _ ih=>intro lo d h;exact top h _ _ _ _ (ih ((At.un (t:=.group m a) rfl rfl).1 h).1)
 |@iter a _ _ _ ih=>intro lo d h;exact top h _ _ _ _ (ih ((At.un (t:=.iter a) rfl rfl).1 h).1)
theorem y0I (s:Tm) (lo d k:Nat) (P:Pt):∃ r,K2 s lo d k P=(⟨(d:Int),(s.top lo:Int),(k:Int),((k+P.wid:Nat):Int)⟩:Z1) :: r:=by
 cases s<;>exact ⟨_,rfl⟩
theorem y0x (hR:K1 l=true) (ht:O2 l t) (hT:o9 l=T) (hl:l.length*64<=140737488351232) (hf:401<F) (hf2:l.length+1<F) {es:List Z1} {i:Nat} (hi:i<es.length) (he:0<=(gt es (i:Int)).Node/\(gt es (i:Int)).Node<(l.length:Int)) (hb:i<=1000000000) {y:List G1} (hy:y.length=T+1) :
  f03 F l es ((i:Int),y)=some (.next (((i+1:Nat):Int),M7 l y (gt es (i:Int)))):=by
 have hL:=a0M hR;have h9:T<=9:=by have:=g0o l;omega
 have d1:(i:Int)<(es.length:Int):=by omega
 have hin:B0 es (i:Int)=true:=R0 (by omega) d1;unfold f03;dsimp only;generalize gt es (i:Int)=e at *;have d2:¬ e.Node<0:=by omega
 have d3:¬ e.Node>=(l.length:Int):=by omega
 have hin2:B0 l e.Node=true:=R0 he.1 he.2;obtain ⟨q,hq⟩:∃ q:Nat,e.Node=(q:Int):=⟨e.Node.toNat,by omega⟩
 have hmem:gt l e.Node∈l:=by rw [hq];exact gtm (by omega)
 simp only [d1,decide_true,if_true,hin,d2,d3,decide_false,Bool.false_eq_true,if_false,G0,hin2,G3 (i:=i) (by omega)];have hun:∀ y':List G1,y'.length=T+1->iter (g08 F (Z3 l e.Node)) F (0,y')=some (Y7 y' (Z3 l e.Node)):=fun y' hy'=>by
  have hgl:=f0F l e.Node;have:=R4 (step:=g08 F (Z3 l e.Node)) (fun k=>((k:Int),Y7 y' ((Z3 l e.Node).take k))) (Y7 y' (Z3 l e.Node)) (Z3 l e.Node).length (fun k hk=>.inl ?_) ?_ (Z3 l e.Node).length 0 F (by omega) (by omega)
  ·simpa [Y7] using this
  ·unfold g08;have k1:(k:Int)<((Z3 l e.Node).length:Int):=by omega
   have k2:=l0T hR ht hT (gtm hk);have ht':(Z3 l e.Node).take (k+1)=(Z3 l e.Node).take k++[gt (Z3 l e.Node) (k:Int)]:=by rw [List.take_succ,u6 hk];rfl
   have k3:B0 (Y7 y' ((Z3 l e.Node).take k)) (gt (Z3 l e.Node) (k:Int))=true:=R0 (by omega) (by rw [k0g];omega);have k4:Y7 y' ((Z3 l e.Node).take (k+1))=(Y7 y' ((Z3 l e.Node).take k)).set (gt (Z3 l e.Node) (k:Int)).toNat ⟨-1,-1⟩:=by rw [ht'];simp [Y7]
   simp only [k1,decide_true,if_true,R0 (l:=Z3 l e.Node) (i:=(k:Int)) (by omega) k1,k3,G3 (i:=k) (by omega),k4]
  ·unfold g08;simp
 unfold M7
 by_cases h7:(gt l e.Node).Kind=7
 ·have hN:=hL.grp _ hmem h7;have hNT:(gt l e.Node).N<=T:=by
   have hin':C5 t (gt l e.Node).N=true:=by
    rw [<-h0H _ t 0,<-ht.eq,any_eq_true];exact ⟨_,hmem,by simp [P9,h7]⟩
   have:=o04 hR ht hin' hN.1 hN.2;omega
  have hiy:B0 y (gt l e.Node).N=true:=R0 (by omega) (by omega);simp [h7,hiy]
 ·by_cases h8:(gt l e.Node).Kind=8
  ·simp [h8,n0z hR hl _ hf hf2,hun y hy]
  ·simp [h7,h8]
theorem z0A (hR:K1 l=true) (ht:O2 l t) (hl:l.length*64<=140737488351232) (hf:2000<F) (hf2:l.length+1<F) (hmR:B6 F l=some true) {w:List Int} {i:Nat} {P:Pt} (f:Fit w t i P) (hlen:(K2 t 0 1 i P).length<F) (hlen2:(K2 t 0 1 i P).length<=1000000000) :
  i0k F l (K2 t 0 1 i P)=some (a0x (r8 l (O7 l (i:Int)) (U3 t 0 i P)) ((i+P.wid:Nat):Int)):=by
 have htr:=g0o l;obtain ⟨T,hT⟩:∃ T:Nat,o9 l=T:=⟨(o9 l).toNat,by omega⟩
 have h9:T<=9:=by omega
 unfold i0k;rw [hmR,E0F hR hl (by omega) hf2,hT];have hW:W ((T:Int)+1)=((T+1:Nat):Int):=G3 (by omega);have hmk:V2 16 ((T+1:Nat):Int)=true:=by simp [V2];omega
 simp only [G0,Bool.not_true,Bool.false_eq_true,if_false,hW,hmk,if_true,Int.toNat_natCast];have h5:iter (h0I F) F (0,List.replicate (T+1) (⟨0,0⟩:G1))=some (List.replicate (T+1) (⟨-1,-1⟩:G1)):=by
  have:=R4 (step:=h0I F) (fun k=>((k:Int),List.replicate k (⟨-1,-1⟩:G1)++List.replicate (T+1-k) (⟨0,0⟩:G1))) (List.replicate (T+1) (⟨-1,-1⟩:G1)) (T+1) (fun k hk=>.inl ?_) ?_ (T+1) 0 F (by omega) (by omega)
  ·simpa using this
  ·unfold h0I;have hlen:(List.replicate k (⟨-1,-1⟩:G1)++List.replicate (T+1-k) (⟨0,0⟩:G1)).length=T+1:=by simp;omega
   have k1:(k:Int)<((List.replicate k (⟨-1,-1⟩:G1)++List.replicate (T+1-k) (⟨0,0⟩:G1)).length:Int):=by rw [hlen];omega
   simp only [k1,decide_true,if_true,R0 (by omega) k1,G3 (i:=k) (by omega),Int.toNat_natCast];have k2:(List.replicate k (⟨-1,-1⟩:G1)++List.replicate (T+1-k) (⟨0,0⟩:G1)).set k ⟨-1,-1⟩=List.replicate (k+1) (⟨-1,-1⟩:G1)++List.replicate (T+1-(k+1)) (⟨0,0⟩:G1):=by
    rw [show T+1-k=(T+1-(k+1))+1 by omega,List.replicate_succ,List.set_append_right _ _ (by simp),length_replicate,Nat.sub_self,List.set_cons_zero];rw [show List.replicate (k+1) (⟨-1,-1⟩:G1)=List.replicate k ⟨-1,-1⟩++[⟨-1,-1⟩] from List.replicate_succ'];simp
   rw [k2]
  ·unfold h0I;have k1:¬ (((T+1:Nat):Int)<((List.replicate (T+1) (⟨-1,-1⟩:G1)++List.replicate (T+1-(T+1)) (⟨0,0⟩:G1)).length:Int)):=by simp
   simp only [k1,decide_false,Bool.false_eq_true,if_false];simp
 rw [h5];obtain ⟨r,hr⟩:=y0I t 0 1 i P;have hg0:gt (K2 t 0 1 i P) 0=⟨1,(t.top 0:Int),(i:Int),((i+P.wid:Nat):Int)⟩:=by rw [hr];rfl
 have hpos:((K2 t 0 1 i P).length:Int)>0:=by rw [hr,length_cons];omega
 have hi0:B0 (K2 t 0 1 i P) 0=true:=R0 (by omega) (by omega);have hi1:B0 (List.replicate (T+1) (⟨-1,-1⟩:G1)) 0=true:=R0 (by omega) (by rw [length_replicate];omega);simp only [G0,hpos,decide_true,if_true,hi0,hi1,hg0,show (0:Int).toNat=0 from rfl];have hy0:((List.replicate (T+1) (⟨-1,-1⟩:G1)).set 0 ⟨(i:Int),((i+P.wid:Nat):Int)⟩).length=T+1:=by simp
 generalize hY:(List.replicate (T+1) (⟨-1,-1⟩:G1)).set 0 ⟨(i:Int),((i+P.wid:Nat):Int)⟩=Y at *;have hrng:=B0T f (l:=l) (d:=1) ht.at0;have hloop:iter (f03 F l (K2 t 0 1 i P)) F (0,Y)=some ((K2 t 0 1 i P).foldl (M7 l) Y):=by
  have:=R4 (step:=f03 F l (K2 t 0 1 i P)) (fun k=>((k:Int),((K2 t 0 1 i P).take k).foldl (M7 l) Y)) ((K2 t 0 1 i P).foldl (M7 l) Y) (K2 t 0 1 i P).length (fun k hk=>.inl ?_) ?_ (K2 t 0 1 i P).length 0 F (by omega) (by omega)
  ·simpa using this
  ·have ht':(K2 t 0 1 i P).take (k+1)=(K2 t 0 1 i P).take k++[gt (K2 t 0 1 i P) (k:Int)]:=by rw [List.take_succ,u6 hk];rfl
   rw [ht',foldl_append];exact y0x hR ht hT hl (by omega) hf2 hk (hrng _ (gtm hk)) (by omega) (by rw [i0w];exact hy0)
  ·unfold f03;simp
 rw [hloop];simp only [G0,Option.some.injEq];have hv:(O7 l (i:Int)).length=1+2*T:=by rw [k0w];unfold l5;rw [hT];omega
 have hvl:(r8 l (O7 l (i:Int)) (U3 t 0 i P)).length=1+2*T:=by rw [u0d];exact hv
 unfold a0x;rw [hvl,if_neg (by omega),show (1+2*T) / 2=T by omega];have hgs:∀ (v:List Int) (to:Int) (k g:Nat),g<=k->(R9 v to k)[g]?=some (if g=0 then a0v (gt v 0) to else a0v (pr v g).1 (pr v g).2):=by
  intro v to k
  induction k with
  |zero=>
       intro g hg;obtain rfl:g=0:=by omega
       rfl
  |
   succ k ih=>
   intro g hg;simp only [R9];rcases Nat.lt_or_ge k g with c | c
   ·obtain rfl:g=k+1:=by omega
    rw [List.getElem?_append_right (by rw [e0a];omega),e0a,Nat.sub_self,if_neg (by omega)];unfold pr;rw [show 2*(k+1)-1=2*k+1 by omega,show 2*(k+1)=2*k+2 by omega];rfl
   ·rw [List.getElem?_append_left (by rw [e0a];omega)];exact ih g c
 apply List.ext_getElem?;intro g;rcases Nat.lt_or_ge T g with c | c
 ·rw [List.getElem?_eq_none (by rw [i0w,hy0];omega),List.getElem?_eq_none (by rw [e0a];omega)]
 ·rw [hgs _ _ _ _ c,u6 (by rw [i0w,hy0];omega)]
  by_cases c0:g=0
  ·subst c0;rw [if_pos rfl];have e0:=t0M hR ht hT (K2 t 0 1 i P) Y hy0 hrng;rw [show ((0:Nat):Int)=0 from rfl,e0,B05 (T:=T) _ _ hv];have e1:gt Y 0=⟨(i:Int),((i+P.wid:Nat):Int)⟩:=by
    rw [<-hY];exact b0d (i:=0) (by simp)
   have e2:gt (O7 l (i:Int)) 0=(i:Int):=by
    unfold O7;exact b0d (i:=0) (by simp;unfold l5;omega)
   rw [e1,e2];unfold a0v;rw [if_neg (by omega)]
  ·rw [if_neg c0,w0r hR (show 1<=g by omega) c h9 ht.at0 f hv];have e1:=C0I (d:=1) hR ht hT (show 1<=g by omega) c ht.at0 f hy0;have e2:pm (gt Y (g:Int))=(-1,-1):=by
    have:gt Y (g:Int)=⟨-1,-1⟩:=by
     rw [<-hY,V7 (by rw [length_replicate];omega),if_neg c0];exact B4 (by rw [List.getElem?_replicate,if_pos (by omega)])
    rw [this];rfl
   have e3:pr (O7 l (i:Int)) g=(-1,-1):=by
    have h:∀ j:Nat,1<=j->j<1+2*T->gt (O7 l (i:Int)) (j:Int)=-1:=fun j h1 h2=>by
     have hl':(l5 l).toNat=1+2*T:=by unfold l5;omega
     unfold O7;rw [hl',V7 (by rw [length_replicate];omega),if_neg (by omega)];exact B4 (by rw [List.getElem?_replicate,if_pos (by omega)])
    unfold pr;rw [h _ (by omega) (by omega),h _ (by omega) (by omega)]
   rw [e2] at e1;rw [e3];have hwh:=v0F (g:=(g:Int)) f (-1,-1) (.inl rfl);rw [<-e1] at hwh ⊢;generalize gt ((K2 t 0 1 i P).foldl (M7 l) Y) (g:Int)=sp at *;obtain ⟨x1,x2⟩:=sp;have hs:a0v x1 x2=⟨x1,x2⟩:=by
    have hw2:Wh (x1,x2):=hwh;unfold a0v;rcases hw2 with h | ⟨h,h'⟩
    ·cases h;rfl
    ·simp only at h h';rw [if_neg (by omega)]
   exact congrArg some hs.symm
end
theorem Fit.more {w v:List Int} {k:Nat} (hk:∀ j,j<k->j<w.length->j<v.length/\gt v (j:Int)=gt w (j:Int)) {s:Tm} {i:Nat} {P:Pt} (h:Fit w s i P):i+P.wid<=k->Fit v s i P:=by
 induction h with
 |eps=>exact fun _=>.eps
 |
  @leaf S i h1 h2=>
  intro h;simp only [Pt.wid] at h;obtain ⟨e1,e2⟩:=hk i (by omega) h1;exact .leaf e1 (by rw [e2];exact h2)
 |cat _ _ i1 i2=>intro h;simp only [Pt.wid] at h;exact .cat (i1 (by omega)) (i2 (by omega))
 |altL _ ih=>exact fun h=>.altL (ih h)
 |altR _ ih=>exact fun h=>.altR (ih h)
 |star0=>exact fun _=>.star0
 |star _ hp _ i1 i2=>intro h;simp only [Pt.wid] at h;exact .star (i1 (by omega)) hp (i2 (by omega))
 |maybe0=>exact fun _=>.maybe0
 |maybe _ hp ih=>exact fun h=>.maybe (ih h) hp
 |group _ ih=>exact fun h=>.group (ih h)
 |iter _ ih=>exact fun h=>.iter (ih h)
theorem Fit.end {w:List Int} {s:Tm} {i:Nat} {P:Pt} (h:Fit w s i P):0<P.wid->i+P.wid<=w.length:=by
 induction h with
 |eps=>intro h;simp [Pt.wid] at h
 |leaf h1 _=>intro _;simp only [Pt.wid];omega
 |
  @cat _ _ _ x y _ _ i1 i2=>
  intro h;simp only [Pt.wid] at h ⊢
  by_cases c:0<y.wid
  ·have:=i2 c;omega
  ·have:=i1 (by omega);omega
 |altL _ ih=>exact ih
 |altR _ ih=>exact ih
 |star0=>intro h;simp [Pt.wid] at h
 |
  @star _ _ x r _ _ _ i1 i2=>
  intro h;simp only [Pt.wid] at h ⊢
  by_cases c:0<r.wid
  ·have:=i2 c;omega
  ·have:=i1 (by omega);omega
 |maybe0=>intro h;simp [Pt.wid] at h
 |maybe _ _ ih=>exact ih
 |group _ ih=>exact ih
 |iter _ ih=>exact ih
theorem y0E {w:List Int} {s:Tm} {k:Nat} {P:Pt} (f:Fit w s k P):∀ lo d,(K2 s lo d k P).length<=s.size+s.size*s.size*P.wid:=by
 have mono:∀ {a b c:Nat},a<=b->a*a*c<=b*b*c:=fun h=>Nat.mul_le_mul_right _ (mul_le_mul h h)
 induction f with
 |eps=>intro lo d;simp [K2,Tm.size]
 |leaf _ _=>intro lo d;simp [K2,Tm.size]
 |
  @cat a b i x y _ _ i1 i2=>
  intro lo d;have h1:=i1 lo (d+1);have h2:=i2 (lo+a.size) (d+1);have m1:=mono (c:=x.wid) (show a.size<=a.size+b.size+1 by omega);have m2:=mono (c:=y.wid) (show b.size<=a.size+b.size+1 by omega);simp only [K2,length_cons,List.length_append,Tm.size,Pt.wid];rw [mul_add ((a.size+b.size+1)*(a.size+b.size+1)) x.wid y.wid];omega
 |
  @altL a b i x _ ih=>
  intro lo d;have h1:=ih lo (d+1);have m1:=mono (c:=x.wid) (show a.size<=a.size+b.size+1 by omega);simp only [K2,length_cons,Tm.size,Pt.wid];omega
 |
  @altR a b i x _ ih=>
  intro lo d;have h1:=ih (lo+a.size) (d+1);have m1:=mono (c:=x.wid) (show b.size<=a.size+b.size+1 by omega);simp only [K2,length_cons,Tm.size,Pt.wid];omega
 |star0=>intro lo d;simp [K2,stE,Tm.size,Pt.wid]
 |
  @star a i x r _ hp _ i1 i2=>
  intro lo d;have h1:=i1 lo (d+1);have h2:=i2 lo d;have m1:a.size+a.size*a.size*x.wid<=(a.size+1)*(a.size+1)*x.wid:=by
   have e:(a.size+1)*(a.size+1)*x.wid=a.size*a.size*x.wid+a.size*x.wid+(a.size+1)*x.wid:=by
    rw [show (a.size+1)*(a.size+1)=a.size*a.size+a.size+(a.size+1) by rw [add_mul,mul_add];omega];rw [add_mul,add_mul]
   have:a.size<=a.size*x.wid:=Nat.le_mul_of_pos_right _ hp;omega
  simp only [K2,length_cons,List.length_append,stE,Tm.size,Pt.wid] at h2 ⊢;rw [mul_add ((a.size+1)*(a.size+1)) x.wid r.wid];omega
 |maybe0=>intro lo d;simp [K2,Tm.size,Pt.wid]
 |
  @maybe a i x _ _ ih=>
  intro lo d;have h1:=ih lo (d+1);have m1:=mono (c:=x.wid) (show a.size<=a.size+1 by omega);simp only [K2,length_cons,Tm.size,Pt.wid];omega
 |
  @group m a i x _ ih=>
  intro lo d;have h1:=ih lo (d+1);have m1:=mono (c:=x.wid) (show a.size<=a.size+1 by omega);simp only [K2,length_cons,Tm.size,Pt.wid];omega
 |
  @iter a i x _ ih=>
  intro lo d;have h1:=ih lo (d+1);have m1:=mono (c:=x.wid) (show a.size<=a.size+1 by omega);simp only [K2,length_cons,Tm.size,Pt.wid];omega
section
variable {F:Nat} {l:List C0} {n:Nat} {a:List y0} {b:Nat->List y0} {e:Nat->y0×Bool} {z:y0×Bool} {t:Tm} {w:List Int}
theorem r0j (K:H5 l n a b e z F) (hw:∀ x∈l,o3 x) (ht:O2 l t):∀ m,m<=w.length->∃ G,R7 w l n t m (V9 l n a b w m) G (fun i=>i=0) (fun i=>i=0)
 |0,_=>⟨fun _=>(0,.leaf),.zero _ _ _ _ _ _ _⟩
 |
  m+1,h=>by
  obtain ⟨G,I⟩:=r0j K hw ht m (by omega);exact I.step K hw ht (by omega) (m==0) (fun _ h=>h) (fun h=>by simpa using h) (fun _ _ h=>h) (fun h=>by simpa using h)
theorem z0y (ht:O2 l t) {w:List Int} (hw64:w.length<=64) {i:Nat} {P:Pt} (f:Fit w t i P):(K2 t 0 1 i P).length<=100000000:=by
 have h:=y0E f 0 1;have h400:=ht.le;have hw:P.wid<=64:=by
  by_cases c:0<P.wid
  ·have:=f.end c;omega
  ·omega
 have h1:t.size*t.size<=400*400:=mul_le_mul h400 h400;have h2:t.size*t.size*P.wid<=400*400*64:=mul_le_mul h1 hw;omega
theorem E06 (K:H5 l n a b e z F) (hw:∀ x∈l,o3 x) (ht:O2 l t) (w:List Int):((U8 l z 0).2=t.can)/\(t.can=true->Fit w t 0 (emp t)/\(emp t).wid=0/\Mn w t 0 (emp t)/\(U8 l z 0).1=r8 l (O7 l 0) (U3 t 0 0 (emp t))):=by
 have hz:=(m0u K hw ht).2;have hne:t.steps 0≠[]:=by cases t<;>simp [Tm.steps]
 have hz2:z.2=t.can/\(t.can=true->z.1.Steps=t.steps 0):=by
  rw [hz];cases t.can<;>simp [o8,hne]
 unfold U8;cases c:t.can with
 |false=>rw [hz2.1,c];simp
 |
  true=>
  rw [hz2.1,c,hz2.2 c];refine ⟨rfl,fun _=>⟨(F9 c).fit w 0,(F9 c).wid,fun Q h1 h2=>o0S (h1.emp (by rw [<-h2];exact (F9 c).wid)),?_⟩⟩;rw [o0v 0 0 c,i0c];rfl
def u5 (l:List C0) (n:Nat) (a:List y0) (b:Nat->List y0) (e:Nat->y0×Bool) (z:y0×Bool) (w:List Int) (m:Nat):List Int×Bool:=if m=0 then U8 l z 0 else (V9 l n a b w m).K3 l e
theorem u07 (K:H5 l n a b e z F) (hw:∀ x∈l,o3 x) (ht:O2 l t) {m:Nat} (hm:m<=w.length) :
  ((u5 l n a b e z w m).2=true->∃ P,Fit w t 0 P/\P.wid=m/\Mn w t 0 P/\(u5 l n a b e z w m).1=r8 l (O7 l 0) (U3 t 0 0 P))/\((u5 l n a b e z w m).2=false->∀ P,Fit w t 0 P->P.wid=m->False):=by
 unfold u5
 by_cases c:m=0
 ·rw [if_pos c];obtain ⟨h1,h2⟩:=E06 K hw ht w;rw [h1];refine ⟨fun h=>?_,fun h P h3 h4=>?_⟩
  ·obtain ⟨a1,a2,a3,a4⟩:=h2 h;exact ⟨_,a1,by omega,a3,a4⟩
  ·rw [(h3.emp (by omega)).can] at h;cases h
 ·rw [if_neg c];obtain ⟨G,I⟩:=r0j (w:=w) K hw ht m hm;obtain ⟨h1,h2⟩:=I.K3 K hw ht;refine ⟨fun h=>?_,fun h P h3 h4=>h2 h 0 P rfl h3 (by omega) (by omega)⟩;obtain ⟨k,P,hk,B⟩:=h1 h;have h0:(G k).1=0:=I.st0 k hk;have hf:=B.fit;have hwd:=B.wid;have htg:=B.tag;rw [h0] at hf hwd htg;refine ⟨P,hf,by omega,fun Q q1 q2=>?_,htg⟩;have:=B.all 0 Q rfl q1 (by omega) (by omega);rw [h0] at this;rcases this with h | ⟨_,h⟩
  ·omega
  ·exact h
theorem r0z (w:List Int):∀ m,I6 l n a b e z w true m=((u5 l n a b e z w m).1,(u5 l n a b e z w m).2,(m:Int))
 |0=>rfl
 |
  m+1=>by
  unfold I6 u5;rw [if_pos (by simp),if_neg (by omega)]
theorem n0S {w:List Int} {k:Nat} (hk:(u5 l n a b e z w k).2=true):∀ m,k<=m->(∀ j,k<j->j<=m->(u5 l n a b e z w j).2=false)->I6 l n a b e z w false m=((u5 l n a b e z w k).1,true,(k:Int))
 |
  0,h,_=>by
  obtain rfl:k=0:=by omega
  unfold u5 at hk ⊢;rw [if_pos rfl] at hk ⊢;show ((U8 l z 0).1,(U8 l z 0).2,(0:Int))=_;rw [hk];rfl
 |
  m+1,h,hj=>by
  unfold I6;have e1:u5 l n a b e z w (m+1)=(V9 l n a b w (m+1)).K3 l e:=if_neg (by omega)
  by_cases c:k=m+1
  ·subst c;rw [e1] at hk ⊢;rw [hk];simp
  ·have:=hj (m+1) (by omega) (le_refl _);rw [e1] at this;rw [this];simp only [Bool.or_self,Bool.false_eq_true,if_false];exact n0S hk m (by omega) (fun j h1 h2=>hj j h1 (by omega))
theorem q0Z {w:List Int}:∀ m,(∀ j,j<=m->(u5 l n a b e z w j).2=false)->(I6 l n a b e z w false m).2.1=false
 |0,h=>by have:=h 0 (le_refl _);unfold u5 at this;rw [if_pos rfl] at this;exact this
 |
  m+1,h=>by
  unfold I6;have e1:u5 l n a b e z w (m+1)=(V9 l n a b w (m+1)).K3 l e:=if_neg (by omega);have:=h (m+1) (le_refl _);rw [e1] at this;rw [this];simp only [Bool.or_self,Bool.false_eq_true,if_false];exact q0Z m (fun j hj=>h j (by omega))
theorem v0Q (w:List Int) {m:Nat} (hm:m<=w.length):I1 w 0 (m:Int)=w.take m:=by simp [I1]
theorem z09 (K:H5 l n a b e z F) (hw:∀ x∈l,o3 x) (ht:O2 l t) (hl:l.length*64<=140737488351232) (hb:∀ x∈w,Z5 .u8 x) (hw64:w.length<=64) {m:Nat} (hm:m<=w.length) :
  d0F F l (I1 w 0 (m:Int))=some (if (u5 l n a b e z w m).2 then (a0x (u5 l n a b e z w m).1 (m:Int),0) else ([],7)):=by
 have f1:=K.f1;have f3:=K.f3;rw [v0Q w hm];have hlen:(w.take m).length=m:=by rw [List.length_take];omega
 have hgt:∀ j,j<m->gt (w.take m) (j:Int)=gt w (j:Int):=fun j hj=>by
  rw [n0Z,n0Z,List.getD_eq_getElem?_getD,List.getD_eq_getElem?_getD,List.getElem?_take_of_lt hj]
 have up:∀ {s:Tm} {i:Nat} {P:Pt},Fit (w.take m) s i P->i+P.wid<=m->Fit w s i P:=fun h hh=>h.more (fun j h1 h2=>⟨by omega,(hgt j h1).symm⟩) hh;have dn:∀ {s:Tm} {i:Nat} {P:Pt},Fit w s i P->i+P.wid<=m->Fit (w.take m) s i P:=fun h hh=>h.more (fun j h1 h2=>⟨by omega,hgt j h1⟩) hh;have hbt:∀ x∈w.take m,Z5 .u8 x:=fun x hx=>hb x (List.mem_of_mem_take hx);obtain ⟨r1,r2⟩:=u07 (w:=w) K hw ht hm;unfold d0F;rw [x0J ht hw hbt (by omega) (by omega) K.TF.rR,hlen];cases c:(u5 l n a b e z w m).2 with
 |
  false=>
  have hd:den (w.take m) t 0 m=false:=by
   cases d:den (w.take m) t 0 m with
   |false=>rfl
   |
    true=>
    obtain ⟨P,p1,p2⟩:=f0Q d;exact (r2 c P (up p1 (by omega)) (by omega)).elim
  rw [hd];rfl
 |
  true=>
  obtain ⟨P,p1,p2,p3,p4⟩:=r1 c;have q1:=dn p1 (by omega);have hd:den (w.take m) t 0 m=true:=by have:=q1.den;rwa [p2,zero_add] at this
  have hmn:Mn (w.take m) t 0 P:=fun Q h1 h2=>p3 Q (up h1 (by omega)) h2;have hg:=C0c t 0 1 0 P q1 hmn;rw [zero_add,p2] at hg;have hb1:=z0y ht (show (w.take m).length<=64 by omega) q1;have hs:=z0A (F:=F) K.hR ht hl (by omega) K.f2 K.TF.rR q1 (by omega) (by omega);rw [hd,if_pos rfl];simp only [G0,bne_self_eq_false,Bool.false_eq_true,if_false,hg,hs,zero_add,p2,if_true,p4];rfl
end
