/- P. Its conditions: none. -/
import Derived.Test.YtdficaoajalfaaaGreatCG40
import Derived.Test.YtdficaoajalfaaaGreatCBr2
open List (mem_append append_nil length_map take_succ mem_of_getElem? take_length flatMap_cons flatMap_nil)
open Nat (sub_zero)
open Bool (false_eq_true)
set_option linter.all false
namespace Go.Proofs.YtdficaoajalfaaaGreat.Old
open Go.V Go.RowKit
def P2 (B:Int)(st:List Int):Prop:=∀x∈st,0<=x/\x<=B
def P2.app {B:Int}{a b:List Int}(h:P2 B a)(k:P2 B b):P2 B (a++b):=fun x c=>(mem_append.1 c).elim (h x) (k x)
def P2.one {B x:Int}(b:0<=x)(h:x<=B):P2 B [x]:=fun y a=>by simp at a;subst a;exact⟨b,h⟩
def P2.nil {B:Int}:P2 B []:=fun _ h=>by cases h
def P2.O0 {B:Int}{q:Nat}(h:2*(q:Int)+1<=B):P2 B [O0 q]:=P2.one (by unfold Old.O0;omega) (by unfold Old.O0;omega)
def P2.cls {B:Int}{q:Nat}(h:2*(q:Int)+1<=B):P2 B [cls q]:=P2.one (by unfold Old.cls;omega) (by unfold Old.cls;omega)
def P2.two {B:Int}{q:Nat}(h:2*(q:Int)+1<=B):P2 B [Old.O0 q,Old.cls q]:=P2.app (P2.O0 h) (P2.cls h)
def Tm.m0I (t:Tm):∀(lo:Nat) (B:Int),2*((lo+t.size:Nat):Int)<=B->P2 B (t.steps lo):=by
 induction t with
 |eps=>intro lo B h;simp only[Tm.size]at h;simp only[Tm.steps];exact P2.two O'
 |leaf s=>intro lo B h;simp only[Tm.size]at h;simp only[Tm.steps];exact P2.two O'
 |cat a b c ihb=>
  intro lo B h;simp only[Tm.size]at h;simp only[Tm.steps];have d:2*((Tm.top (.cat a b) lo:Nat):Int)+1<=B:=by simp only[Tm.top,Tm.size];omega
  exact((P2.O0 d).app ((c lo B O').app (ihb (lo+a.size) B O'))).app (P2.cls d)
 |alt a b c ihb=>
  intro lo B h;simp only[Tm.size]at h;simp only[Tm.steps];have d:2*((Tm.top (.alt a b) lo:Nat):Int)+1<=B:=by simp only[Tm.top,Tm.size];omega
  refine((P2.O0 d).app ?_).app (P2.cls d);split
  ·exact c lo B O'
  ·exact ihb (lo+a.size) B O'
 |star a c=>intro lo B h;simp only[Tm.size]at h;simp only[Tm.steps];exact P2.two J'
 |maybe a c=>intro lo B h;simp only[Tm.size]at h;simp only[Tm.steps];exact P2.two J'
 |group n a c=>
  intro lo B h;simp only[Tm.size]at h;simp only[Tm.steps];have d:2*((Tm.top (.group n a) lo:Nat):Int)+1<=B:=by simp only[Tm.top,Tm.size];omega
  exact((P2.O0 d).app (c lo B O')).app (P2.cls d)
 |iter a c=>
  intro lo B h;simp only[Tm.size]at h;simp only[Tm.steps];have d:2*((Tm.top (.iter a) lo:Nat):Int)+1<=B:=by simp only[Tm.top,Tm.size];omega
  exact((P2.O0 d).app (c lo B O')).app (P2.cls d)
def N8 (B:Int)(l:List y0):Prop:=∀h∈l,P2 B h.Steps
def N8.app {B:Int}{a b:List y0}(h:N8 B a)(k:N8 B b):N8 B (a++b):=fun x c=>(mem_append.1 c).elim (h x) (k x)
def Tm.m0Q (t:Tm):∀(lo p:Nat) (ahead:List Int) (B:Int),2*((lo+t.size:Nat):Int)<=B->P2 B ahead->N8 B (t.Q0 lo p ahead):=by
 induction t with
 |eps=>intro lo p ahead B h k x d;simp[Tm.Q0]at d
 |leaf s=>intro lo p ahead B h k x d;simp only[Tm.size]at h;simp only[Tm.Q0,List.mem_singleton]at d;subst d;exact k.app (P2.O0 O')
 |cat a b c ihb=>
  intro lo p ahead B h k;simp only[Tm.size]at h;simp only[Tm.Q0];have f:2*((Tm.top (.cat a b) lo:Nat):Int)+1<=B:=by simp only[Tm.top,Tm.size];omega
  have e:=k.app (P2.O0 f);refine(c lo p _ B O' e).app ?_;split
  ·exact ihb _ _ _ B O' (e.app (a.m0I lo B O'))
  ·intro x d;cases d
 |alt a b c ihb=>
  intro lo p ahead B h k;simp only[Tm.size]at h;simp only[Tm.Q0];have f:2*((Tm.top (.alt a b) lo:Nat):Int)+1<=B:=by simp only[Tm.top,Tm.size];omega
  have e:=k.app (P2.O0 f);exact(c lo p _ B O' e).app (ihb _ _ _ B O' e)
 |star a c|maybe a c|group n a c|iter a c=>
  intro lo p ahead B h k;simp only[Tm.size]at h;simp only[Tm.Q0];exact c lo p _ B O' (k.app (P2.O0 J'))
def j0h {B:Int}(d:Int):∀(r out:List y0),N8 B out->N8 B r->N8 B (a6 d out r)
 |[],out,h,_=>h
 |x :: r,out,h,k=>by
  simp only[a6];have b:N8 B r:=fun y a=>k y (List.mem_cons_of_mem _ a);split
  ·exact j0h d r out h b
  ·exact j0h d r _ (h.app fun y a=>by simp at a;subst a;exact k x Z9) b
def Ctx.lo_le {t:Tm}:∀{fs:List Fr} {lo:Nat} {s:Tm},Ctx t lo s fs->lo+s.size<=t.size
 |[],lo,s,⟨a,h⟩=>by subst h;omega
 |f :: fs,lo,s,⟨a,h⟩=>by
  have:=Ctx.lo_le h;cases f<;>simp[Fr.E2,Fr.off,Tm.size]at this a ⊢<;>omega
def j0p {t:Tm}{B:Int}(e:2*(t.size:Int)<=B):∀(fs:List Fr) (lo p:Nat) (s:Tm) (st:List Int) (out:List y0),Ctx t lo s fs->P2 B st->N8 B out->
  N8 B (n4 lo p s st out fs).1/\P2 B (n4 lo p s st out fs).2.1
 |[],lo,p,s,st,out,_,h,k=>by simp only[n4];exact⟨k,h⟩
 |f :: fs,lo,p,s,st,out,hx,h,k=>by
  have d:=Ctx.lo_le hx.2;have c:=hx.2;have g:=hx.1;cases f with
  |catL b=>
   simp only[Fr.E2,Fr.off,sub_zero,Tm.size]at d c g;have j:=b.m0I (lo+s.size) B O';have hi:=b.m0Q (lo+s.size) (p+s.leaves) st B O' h;have i:=j0h ((fs.length+1:Nat):Int) _ _ k hi;simp only[n4];split
   ·exact j0p e fs lo p _ _ _ c ((h.app j).app (P2.cls J')) i
   ·exact⟨i,P2.nil⟩
  |star=>
   simp only[Fr.E2,Fr.off,sub_zero,Tm.size]at d c g;simp only[n4];exact j0p e fs lo p _ _ _ c (h.app (P2.cls J')) (j0h _ _ _ k (s.m0Q lo p st B O' h))
  |catR a|altL b|altR a|maybe|group n|iter=>
   simp only[Fr.E2,Fr.off,sub_zero,Tm.size]at d c g;simp only[n4,Fr.E2,Fr.off,Fr.v7,sub_zero];exact j0p e fs _ _ _ _ _ c (h.app (P2.cls J')) k
def a0m (l:List y0):Prop:=∀h∈l,0<=h.Turn/\h.Turn<=400
def a0m.app {a b:List y0}(h:a0m a)(k:a0m b):a0m (a++b):=fun x c=>(mem_append.1 c).elim (h x) (k x)
def Tm.D0L (t:Tm):∀(lo p:Nat) (ahead:List Int),a0m (t.Q0 lo p ahead):=by
 induction t with
 |eps=>intro lo p ahead x e;simp[Tm.Q0]at e
 |leaf s=>intro lo p ahead x e;simp only[Tm.Q0,List.mem_singleton]at e;subst e;exact⟨Int.le_refl _,show(0:Int)<=400 from O'⟩
 |cat a b c d=>
  intro lo p ahead;simp only[Tm.Q0];refine(c lo p _).app ?_;split
  ·exact d _ _ _
  ·intro x e;cases e
 |alt a b c d=>intro lo p ahead;simp only[Tm.Q0];exact(c lo p _).app (d _ _ _)
 |star a c|maybe a c|group n a c|iter a c=>intro lo p ahead;simp only[Tm.Q0];exact c lo p _
def j0T {d:Int}(a:0<=d)(h1:d<=400):∀(r out:List y0),a0m out->a0m (a6 d out r)
 |[],out,h=>h
 |x :: r,out,h=>by
  simp only[a6];split
  ·exact j0T a h1 r out h
  ·exact j0T a h1 r _ (h.app fun y b=>by simp at b;subst b;exact⟨a,h1⟩)
def k0A {t:Tm}(e:t.size<=400):∀(fs:List Fr) (lo p:Nat) (s:Tm) (st:List Int) (out:List y0),Ctx t lo s fs->a0m out->a0m (n4 lo p s st out fs).1
 |[],lo,p,s,st,out,_,k=>by simp only[n4];exact k
 |f :: fs,lo,p,s,st,out,hx,k=>by
  have g:=Ctx.size hx;have c:=hx.2;have:=s.size_pos;simp only[List.length_cons]at g;cases f with
  |catL b=>
   simp only[Fr.E2,Fr.off,sub_zero]at c;have h:=j0T (d:=((fs.length+1:Nat):Int)) O' O' (b.Q0 (lo+s.size) (p+s.leaves) st) out k;simp only[n4];split
   ·exact k0A e fs lo p _ _ _ c h
   ·exact h
  |star=>
   simp only[Fr.E2,Fr.off,sub_zero]at c;simp only[n4];exact k0A e fs lo p _ _ _ c (j0T O' O' _ _ k)
  |catR a|altL b|altR a|maybe|group n|iter=>
   simp only[Fr.E2,Fr.off,sub_zero]at c;simp only[n4,Fr.E2,Fr.off,Fr.v7,sub_zero];exact k0A e fs _ _ _ _ _ c k
end Go.Proofs.YtdficaoajalfaaaGreat.Old
namespace Go.Proofs.YtdficaoajalfaaaGreat.Old
open Go.V Go.RowKit
def p0J {s:List Int}(h:s.length<=500000):(o8 s).1.Steps.length<=500000:=by
 unfold o8;split<;>simp[h]
def Tm.l0n (s:Tm):∀(lo p:Nat) (ahead:List Int),(∀h∈s.Q0 lo p ahead,(p:Int)<=h.To/\h.To<((p+s.leaves:Nat):Int))/\(s.Q0 lo p ahead).Pairwise fun a b=>a.To<b.To:=by
 induction s with
 |eps=>intro lo p ahead;simp[Tm.Q0]
 |leaf s=>intro lo p ahead;simp[Tm.Q0,Tm.leaves];omega
 |cat a b c ihb=>
  intro lo p ahead;simp only[Tm.Q0,Tm.leaves];obtain⟨h1,e⟩:=c lo p (ahead++[O0 (Tm.top (.cat a b) lo)]);split
  ·refine⟨fun h d=>?_,List.pairwise_append.2 ⟨e,(ihb _ _ _).2,fun x f y g=>?_⟩⟩
   ·rcases mem_append.1 d with d|d
    ·have:=h1 h d;omega
    ·have:=(ihb _ _ _).1 h d;omega
   ·have:=h1 x f;have:=(ihb _ _ _).1 y g;omega
  ·simp only[append_nil];exact⟨fun h d=>by have:=h1 h d;omega,e⟩
 |alt a b c ihb=>
  intro lo p ahead;simp only[Tm.Q0,Tm.leaves];obtain⟨h1,e⟩:=c lo p (ahead++[O0 (Tm.top (.alt a b) lo)]);obtain⟨i,j⟩:=ihb (lo+a.size) (p+a.leaves) (ahead++[O0 (Tm.top (.alt a b) lo)]);refine⟨fun h d=>?_,List.pairwise_append.2 ⟨e,j,fun x f y g=>?_⟩⟩
  ·rcases mem_append.1 d with d|d
   ·have:=h1 h d;omega
   ·have:=i h d;omega
  ·have:=h1 x f;have:=i y g;omega
 |star a c|maybe a c|group _ a c|iter a c=>
  intro lo p ahead;simp only[Tm.Q0,Tm.leaves];exact c lo p _
def v0i {l:List C0}{t:Tm}(b:O2 l t):j8 t.leaves (t.Q0 0 0 []):=by
 have c:=b.le;have d:=b.len;exact⟨fun h a=>⟨(by have:=(t.l0n 0 0 []).1 h a;omega),(by have:=(t.l0n 0 0 []).1 h a;omega),(t.i04 0 0 [] O' Z' h a).2.2⟩,(t.l0n 0 0 []).2.imp fun h=>O'⟩
def v07 {n:Nat}{out:List y0}(h:j8 n out):j8 n (r7 y0.To out):=by
 refine⟨fun x c=>h.ok x ((b0y y0.To _).mem_iff.1 c),?_⟩;have hp:=b0y y0.To out;exact hp.symm.pairwise_iff (R:=fun a b:y0=>a.To≠b.To) (fun h=>h.symm) |>.1 h.dist
structure j06 (l:List C0)(n:Nat)(a:List y0)(b:Nat->List y0)(e:Nat->y0×Bool)(z:y0×Bool):Prop where
 n64:n<=400
 aw:j8 n a
 bw:∀p,p<n->j8 n (b p)
 el:∀p,p<n->(e p).1.Steps.length<=500000
 zl:z.1.Steps.length<=500000
 e0:∀p,p<n->(e p).2=decide ((e p).1.Steps≠[])
 z0:z.2=decide (z.1.Steps≠[])
 ab:N8 800 a
 bb:∀p,p<n->N8 800 (b p)
 eb:∀p,p<n->P2 800 (e p).1.Steps
 zb:P2 800 z.1.Steps
 al:a.length<=500000
 aT:a0m a
 bT:∀p,p<n->a0m (b p)
 bl:∀p,p<n->(b p).length<=500000
def p0W {B:Int}{s:List Int}(h:P2 B s):P2 B (o8 s).1.Steps:=by
 unfold o8;split
 ·exact P2.nil
 ·exact h
def s0Q {l:List C0}{t:Tm}(c:O2 l t){p q:Nat}{S:List Int}{fs:List Fr}(hp:b0Y l t p q S fs):N8 800 (J7 t p q S fs).1/\P2 800 (J7 t p q S fs).2.1:=by
 have b:=c.le;have a:=Ctx.lo_le hp.ctx;simp only[Tm.size]at a;exact j0p O' fs q p _ _ _ hp.ctx (P2.cls O') (fun _ h=>by cases h)
end Go.Proofs.YtdficaoajalfaaaGreat.Old
namespace Go.Proofs.YtdficaoajalfaaaGreat
open Go.V Go.RowKit Old
def q0q (s:List Int):(o8 s).2=decide ((o8 s).1.Steps≠[]):=by
 unfold o8;split
 ·simp
 ·rename_i h;simp;intro e;exact h (by simp[e])
structure k0b (l:List C0)(n:Nat)(a:List y0)(b:Nat->List y0)(e:Nat->y0×Bool)(z:y0×Bool)(F:Nat):Prop where
 mR:c7 F l=some true
 rR:B6 F l=some true
 mL:K7 F l=some (L2 l l.length)
 rL:b0t F l=some (L2 l l.length)
 mA:b0O F l ((l.length:Int)-1)=some a
 rA:m0N F l ((l.length:Int)-1)=some a
 mZ:J9 F l (-1)=some z
 rZ:m0j F l (-1)=some z
 mB:∀p:Nat,p<n->a06 F l (p:Int)=some (b p)
 rB:∀p:Nat,p<n->c0h F l (p:Int)=some (b p)
 mE:∀p:Nat,p<n->J9 F l (p:Int)=some (e p)
 rE:∀p:Nat,p<n->m0j F l (p:Int)=some (e p)
def B8 {α:Type}{o n:Option α}(h:Ref o n Eq){x:α}(e:o=some x):n=some x:=by
 obtain⟨y,h1,a⟩:=h.run x e;rw[h1,a]
def f08 {l:List C0}(hw:∀x∈l,o3 x)(hl:l.length*64<=140737488351232)(hR:K1 l=true):∃a b e z,j06 l (L0 l l.length) a b e z/\∀F,1000001<F->l.length+1<F->k0b l (L0 l l.length) a b e z F:=by
 obtain⟨t,d⟩:=a04 hw hR;have m:=d.le;have o:=d.len;have hn:t.leaves=L0 l l.length:=by
  have h:=b9 d.at0;rw[Nat.zero_add,<-o]at h;rw[h];simp[L0]
 have g:∀p:Nat,∃x:List y0×(y0×Bool),p<L0 l l.length->(j8 (L0 l l.length) x.1/\x.2.1.Steps.length<=500000/\x.2.2=decide (x.2.1.Steps≠[])/\N8 800 x.1/\P2 800 x.2.1.Steps/\x.1.length<=500000/\a0m x.1/\
   ∀F,1000001<F->l.length+1<F->a06 F l (p:Int)=some x.1/\c0h F l (p:Int)=some x.1/\J9 F l (p:Int)=some x.2/\m0j F l (p:Int)=some x.2):=by
  intro p
  by_cases hp:p<L0 l l.length
  ·obtain⟨r,S,fs,c⟩:=A0j d hp;obtain⟨j,hlen⟩:=r0o d c;refine⟨(r7 y0.To (J7 t p r S fs).1,o8 (if(J7 t p r S fs).2.2 then(J7 t p r S fs).2.1 else[])),fun _=>⟨?_,?_,q0q _,fun h q=>(s0Q d c).1 h ((b0y y0.To _).mem_iff.1 q),p0W ?_,by rw[e0j];exact q0A d c,fun h q=>k0A m fs _ _ _ _ _ c.ctx (fun _ h=>by cases h) h ((b0y y0.To _).mem_iff.1 q),fun F i f=>⟨?_,?_,?_,?_⟩⟩⟩
   ·rw[<-hn];exact v07 j
   ·refine p0J ?_;split
    ·exact hlen
    ·simp
   ·split
    ·exact(s0Q d c).2
    ·exact P2.nil
   ·exact B8 t0d (Old.u0M hw d hR i c hp)
   ·exact B8 K02 (Old.L0j hw d hR i c hp)
   ·exact B8 j0d (Old.q0j hw d hR i c hp)
   ·exact B8 H06 (Old.J0w hw d hR i c hp)
  ·exact⟨([],(⟨0,0,[]⟩,false)),fun h=>absurd h hp⟩
 have w:=t.X8 0;refine⟨t.Q0 0 0 [],fun p=>(Classical.choose (g p)).1,fun p=>(Classical.choose (g p)).2,o8 (if t.can then t.steps 0 else[]),⟨?_,?_,?_,?_,?_,?_,?_,?_,?_,?_,?_,?_,?_,?_,?_⟩,fun F i f=>?_⟩
 ·have:=c0Z l l.length;omega
 ·rw[<-hn];exact v0i d
 ·intro p hp;exact(Classical.choose_spec (g p) hp).1
 ·intro p hp;exact(Classical.choose_spec (g p) hp).2.1
 ·refine p0J ?_;split
  ·omega
  ·simp
 ·intro p hp;exact(Classical.choose_spec (g p) hp).2.2.1
 ·exact q0q _
 ·exact t.m0Q 0 0 [] 800 O' P2.nil
 ·intro p hp;exact(Classical.choose_spec (g p) hp).2.2.2.1
 ·intro p hp;exact(Classical.choose_spec (g p) hp).2.2.2.2.1
 ·refine p0W ?_;split
  ·exact t.m0I 0 800 O'
  ·exact P2.nil
 ·have:=t.a0V 0 0 [];have:=t.a0D;omega
 ·exact t.D0L 0 0 []
 ·intro p hp;exact(Classical.choose_spec (g p) hp).2.2.2.2.2.2.1
 ·intro p hp;exact(Classical.choose_spec (g p) hp).2.2.2.2.2.1
 ·have n:a0X l=L2 l l.length:=by simp[a0X,hR]
  obtain⟨h1,v⟩:=Old.q0p hw d hR i;obtain⟨u,s⟩:=Old.r00 hw d hR i d.at0;have k:((t.top 0:Nat):Int)=(l.length:Int)-1:=by have:=t.size_pos;unfold Tm.top;omega
  rw[k]at u s;exact⟨B8 g0k (by rw[Old.c0Q l O',hR]),B8 o0w (by rw[Old.e0f l hl f,hR]),B8 u0E (by rw[Old.o0g hw O',n]),B8 w0u (by rw[Old.x0V hw hl O' f,n]),
   B8 q0Y u,B8 M0b s,B8 j0d h1,B8 H06 v,
   fun p hp=>((Classical.choose_spec (g p) hp).2.2.2.2.2.2.2 F i f).1,fun p hp=>((Classical.choose_spec (g p) hp).2.2.2.2.2.2.2 F i f).2.1,fun p hp=>((Classical.choose_spec (g p) hp).2.2.2.2.2.2.2 F i f).2.2.1,fun p hp=>((Classical.choose_spec (g p) hp).2.2.2.2.2.2.2 F i f).2.2.2⟩
end Go.Proofs.YtdficaoajalfaaaGreat
namespace Go.Proofs.YtdficaoajalfaaaGreat
open Go.V Go.RowKit Old
def A7 (M0:List C0)(n:Nat):Bool:=M0.any fun x=>x.Kind==7&&x.N==(n:Int)
def O8 (M0:List C0)(k:Nat):List Int:=((List.range k).filter (A7 M0)).map fun n:Nat=>(n:Int)
def p00 (M0:List C0):O8 M0 0=[]:=rfl
def u6 {α:Type}[Inhabited α]{l:List α}{i:Nat}(h:i<l.length):l[i]?=some (gt l (i:Int)):=by
 have:=i0e (R0 (l:=l) (i:=(i:Int)) O' O');simpa using this
def c0e (M0:List C0):List Int:=O8 M0 10
def Gok (M0:List C0):Prop:=∀x∈M0,x.Kind=7->1<=x.N/\x.N<=9
def n03 (M0:List C0)(k:Nat):O8 M0 (k+1)=if A7 M0 k then O8 M0 k++[(k:Int)]else O8 M0 k:=by
 unfold O8;rw[List.range_succ,List.filter_append,List.map_append];cases h:A7 M0 k<;>simp[h]
def l0I (M0:List C0)(k:Nat):(O8 M0 k).length<=k:=by
 unfold O8;rw[length_map];exact Nat.le_trans (List.length_filter_le _ _) Z9
def E0v {M0:List C0}(h:Gok M0):A7 M0 0=false:=by
 unfold A7;rw[List.any_eq_false];intro x a;simp;intro b c;have:=(h x a b).1;omega
def flags (M0:List C0):List Bool:=(List.range 10).map (A7 M0)
def E0m (M0:List C0){n:Nat}(h:n<10):gt (flags M0) (n:Int)=A7 M0 n:=by
 refine B4 ?_;simp[flags,h]
def B0I {M0:List C0}{i:Nat}(hi:i<M0.length)(hk:Gok M0):flags (M0.take (i+1))=if(gt M0 (i:Int)).Kind==7 then(flags (M0.take i)).set (gt M0 (i:Int)).N.toNat true else flags (M0.take i):=by
 have b:M0[i]?=some (gt M0 (i:Int)):=u6 hi;have c:M0.take (i+1)=M0.take i++[gt M0 (i:Int)]:=by rw[take_succ,b];rfl
 have hm:=hk _ (mem_of_getElem? b);generalize gt M0 (i:Int)=x at *;cases a:x.Kind==7
 ·simp only[if_false,false_eq_true];unfold flags;refine List.map_congr_left fun n _=>?_;simp[A7,c,a]
 ·simp only[if_true];have hm:=hm (by simpa using a);refine List.ext_getElem (by simp[flags]) fun n h1 d=>?_;simp only[flags,length_map,List.length_range]at h1;rw[List.getElem_set];simp only[flags,List.getElem_map,List.getElem_range];rw[show A7 (M0.take (i+1)) n=(A7 (M0.take i) n||(x.N==(n:Int)))from by simp[A7,c,a]];split
  ·rename_i e;have:x.N=(n:Int):=O'
   simp[this]
  ·rename_i e;have:(x.N==(n:Int))=false:=by simp;omega
   simp[this]
section
variable {F:Nat}
def C0o {l:List C0}{q:Int}{low:List Int}{M0:List C0}(b:I1 l (gt low q) (W (q+1))=M0)(hk:Gok M0)(hl:M0.length<=400)(g:401<F):
  iter (h0R F l q low (M0.length:Int)) F (0,[false,false,false,false,false,false,false,false,false,false])=some (flags M0):=by
 have d:flags (M0.take 0)=[false,false,false,false,false,false,false,false,false,false]:=by simp[flags,A7];decide
 rw[<-d];have:=R4 (step:=h0R F l q low (M0.length:Int)) (fun i=>((i:Int),flags (M0.take i))) (flags M0) M0.length (fun i hi=>.inl ?_) ?_ M0.length 0 F O' O'
 ·exact this
 ·unfold h0R;have h1:(i:Int)<(M0.length:Int):=O'
  have a:B0 M0 (i:Int)=true:=R0 O' O';have hm:=hk _ (mem_of_getElem? (i0e a));have f:W ((i:Int)+1)=((i+1:Nat):Int):=by rw[n3 O' O'];omega
  simp only[b,h1,decide_true,if_true,a,f];rw[B0I hi hk];cases e:(gt M0 (i:Int)).Kind==7
  ·simp only[q0]
  ·have hm:=hm (by simpa using e);have c:(decide (0<=(gt M0 (i:Int)).N)&&decide ((gt M0 (i:Int)).N<10))=true:=by simp;omega
   simp only[if_true,c,G0]
 ·unfold h0R;have h1:¬((M0.length:Int)<(M0.length:Int)):=O'
  simp only[q0,h1,take_length]
def w0t {M0:List C0}(d:401<F):iter (g0J F (flags M0)) F ([],0)=some (c0e M0):=by
 have:=R4 (step:=g0J F (flags M0)) (fun i=>(O8 M0 i,(i:Int))) (c0e M0) 10 (fun i hi=>.inl ?_) ?_ 10 0 F O' O'
 ·rw[p00]at this;exact this
 ·unfold g0J;have h1:(i:Int)<10:=O'
  have b:(0:Int)<=(i:Int):=O'
  have c:W ((i:Int)+1)=((i+1:Nat):Int):=by rw[n3 O' O'];omega
  have a:I0 8 (O8 M0 i) [(i:Int)]=true:=by have:=l0I M0 i;simp[I0];omega
  simp only[h1,b,decide_true,if_true,Bool.and_self,E0m M0 hi,c,a];rw[n03];cases A7 M0 i<;>simp only[q0]
 ·unfold g0J;simp[c0e]
def B0a {l:List C0}{q lo:Nat}(h:q<l.length)(hl:l.length<=400)(c:lo<=q)(n:Nat)(g:401<F):
  iter (h0u F l (q:Int) (n:Int)) F (false,(lo:Int))=some (A7 (I1 l (lo:Int) ((q+1:Nat):Int)) n):=by
 have a:I1 l (lo:Int) ((q+1:Nat):Int)=(l.drop lo).take (q+1-lo):=by unfold I1;congr 1;omega
 have:=R4 (step:=h0u F l (q:Int) (n:Int)) (fun i=>(A7 ((l.drop lo).take i) n,((lo+i:Nat):Int))) (A7 (I1 l (lo:Int) ((q+1:Nat):Int)) n) (q+1-lo) (fun i hi=>.inl ?_) ?_ (q+1-lo) 0 F O' O'
 ·exact this
 ·unfold h0u;have h1:((lo+i:Nat):Int)<=(q:Int):=O'
  have b:B0 l ((lo+i:Nat):Int)=true:=R0 O' O';have d:(l.drop lo)[i]?=some (gt l ((lo+i:Nat):Int)):=by rw[List.getElem?_drop];exact u6 O'
  have e:(l.drop lo).take (i+1)=(l.drop lo).take i++[gt l ((lo+i:Nat):Int)]:=by rw[take_succ,d];rfl
  have f:W (((lo+i:Nat):Int)+1)=((lo+(i+1):Nat):Int):=by rw[n3 O' O'];omega
  have hg:A7 ((l.drop lo).take (i+1)) n=(A7 ((l.drop lo).take i) n||((gt l ((lo+i:Nat):Int)).Kind==7&&(gt l ((lo+i:Nat):Int)).N==(n:Int))):=by simp[A7,e]
  rw[hg];simp only[h1,decide_true,if_true,b,f,s9];cases A7 ((l.drop lo).take i) n<;>cases(gt l ((lo+i:Nat):Int)).Kind==7<;>simp[G0]
 ·unfold h0u;have h1:¬(((lo+(q+1-lo):Nat):Int)<=(q:Int)):=O'
  simp only[q0,h1,a]
def C0S {l:List C0}{q lo:Nat}{low:List Int}(g:q<l.length)(hl:l.length<=400)(c:lo<=q)(d:B0 low (q:Int)=true)(hg:gt low (q:Int)=(lo:Int))(hk:Gok (I1 l (lo:Int) ((q+1:Nat):Int)))(e:401<F):
  iter (h0G F l (q:Int) low) F ([],1)=some (c0e (I1 l (lo:Int) ((q+1:Nat):Int))):=by
 generalize a:I1 l (lo:Int) ((q+1:Nat):Int)=M0 at *;have f:O8 M0 1=[]:=by rw[n03,E0v hk,p00];simp
 rw[<-f];have:=R4 (step:=h0G F l (q:Int) low) (fun i=>(O8 M0 (i+1),((i+1:Nat):Int))) (c0e M0) 9 (fun i hi=>.inl ?_) ?_ 9 0 F O' O'
 ·exact this
 ·unfold h0G;have h1:((i+1:Nat):Int)<=9:=O'
  have h:W (((i+1:Nat):Int)+1)=((i+1+1:Nat):Int):=by rw[n3 O' O'];omega
  have b:I0 8 (O8 M0 (i+1)) [((i+1:Nat):Int)]=true:=by have:=l0I M0 (i+1);simp[I0];omega
  have hi:=B0a (F:=F) g hl c (i+1) e;rw[a]at hi;simp only[q0,h1,d,hg,hi,h,b];rw[n03 M0 (i+1)];cases A7 M0 (i+1)<;>simp only[q0]
 ·unfold h0G;simp[c0e]
def B08 {l:List C0}:∀{i:Nat} {a:List Int},T4 l i=some a->∀j:Nat,j<i->T8 (gt l (j:Int))=true:=by
 intro i
 induction i with
 |zero=>intro a _ j c;omega
 |succ i ih=>
  intro a h j c;unfold T4 at h;cases e:T4 l i with
  |none=>rw[e]at h;cases h
  |some b=>
   rw[e]at h;dsimp only at h;split at h
   ·rename_i hg;rcases Nat.lt_or_ge j i with h1|h1
    ·exact ih e j h1
    ·obtain rfl:j=i:=O'
     simp only[K6,Bool.and_eq_true]at hg;exact hg.1.2
   ·cases h
structure s01 (l:List C0):Prop where
 ne:P4 l≠[]
 len:(P4 l).length=l.length
 rng:∀j:Nat,j<l.length->0<=gt (P4 l) (j:Int)/\gt (P4 l) (j:Int)<=j
 grp:∀x∈l,x.Kind=7->1<=x.N/\x.N<=9
 pos:0<l.length
 le:l.length<=400
def a0M {l:List C0}(hR:K1 l=true):s01 l:=by
 have c:P4 l≠[]:=by intro e;simp[K1,e]at hR
 have h:=c;unfold P4 at h;cases e:T4 l l.length with
 |none=>rw[e]at h;exact absurd rfl h
 |some a=>
  have b:=b0U e;rw[e]at h;dsimp only at h;split at h
  ·exact absurd rfl h
  ·rename_i hn;have g:P4 l=a:=by unfold P4;rw[e];dsimp only;rw[if_neg hn]
   refine⟨c,by rw[g];exact b.len,fun j d=>by rw[g];exact b.rng j d,fun x i k=>?_,O',O'⟩;obtain⟨j,d,rfl⟩:=List.getElem_of_mem i;have f:=B08 e j d;have hg:gt l (j:Int)=l[j]:=B4 (List.getElem?_eq_getElem d);rw[hg]at f;simp[T8,k]at f;exact f.2
def Z3 (l:List C0)(q:Int):List Int:=if q<0\/(l.length:Int)<=q then[]else c0e (I1 l (gt (P4 l) q) (q+1))
def t0e {l:List C0}(a:401<F):R8 F l=some (P4 l):=B8 q09 (Old.s08 l a)
def E07 {l:List C0}(hR:K1 l=true)(hl:l.length*64<=140737488351232)(c:l.length+1<F):i0m F l=some (P4 l):=by
 obtain⟨b,h1,a⟩:=(u0x (F:=F) (l:=l)).run _ (Old.u0n l hl c);unfold i0m;rw[h1];cases b with
 |inl u=>exact absurd a (a0M hR).ne
 |inr y=>rw[a.1];rfl
def q0K {l:List C0}(h:s01 l)(a b:Int):Gok (I1 l a b):=fun x c d=>h.grp x (List.mem_of_mem_drop (List.mem_of_mem_take c)) d
def u0e {l:List C0}(hR:K1 l=true)(q:Int)(c:401<F):g0X F l q=some (Z3 l q):=by
 have h:=a0M hR;have e:=h.le;have hlen:=h.len;unfold g0X Z3;rw[t0e c];simp only[G0,hlen]
 by_cases b:q<0
 ·simp[b]
 ·by_cases h1:(l.length:Int)<=q
  ·have:q>=(l.length:Int):=h1;simp[b,this]
  ·obtain⟨n,rfl⟩:∃n:Nat,q=n:=⟨q.toNat,O'⟩
   have hn:n<l.length:=O'
   have i:=h.rng n hn;have f:W ((n:Int)+1)=(n:Int)+1:=n3 O' O';have g:¬((n:Int)>=(l.length:Int)):=h1;have a:I4 l (gt (P4 l) (n:Int)) ((n:Int)+1)=true:=by simp[I4];omega
   have d:B0 (P4 l) (n:Int)=true:=R0 O' O';simp only[q0,b,h1,g,d,f,a,or_self];rw[C0o (by rw[f]) (q0K h _ _) (by rw[c04 a];omega) c,G0,w0t c,G0]
def n0z {l:List C0}(hR:K1 l=true)(hl:l.length*64<=140737488351232)(q:Int)(i:401<F)(c:l.length+1<F):f0M F l q=some (Z3 l q):=by
 have h:=a0M hR;have b:=h.le;have hlen:=h.len;unfold f0M Z3;rw[E07 hR hl c];simp only[G0,hlen]
 by_cases e:q<0
 ·simp[e]
 ·by_cases h1:(l.length:Int)<=q
  ·have:q>=(l.length:Int):=h1;simp[e,this]
  ·obtain⟨n,rfl⟩:∃n:Nat,q=n:=⟨q.toNat,O'⟩
   have hn:n<l.length:=O'
   have g:=h.rng n hn;have f:¬((n:Int)>=(l.length:Int)):=h1;have d:B0 (P4 l) (n:Int)=true:=R0 O' O';obtain⟨lo,a⟩:∃lo:Nat,gt (P4 l) (n:Int)=lo:=⟨(gt (P4 l) (n:Int)).toNat,O'⟩
   rw[a]at g;simp only[q0,e,h1,f,or_self,s9,a];exact C0S hn b O' d a (q0K h _ _) i
end
def y0p {M0:List C0}{k:Nat}{x:Int}(h:x∈O8 M0 k):0<=x/\x<k:=by
 unfold O8 at h;obtain⟨n,hn,rfl⟩:=List.mem_map.1 h;have:=List.mem_range.1 (List.mem_filter.1 hn).1;omega
def r0v {l:List C0}{q x:Int}(h:x∈Z3 l q):0<=x/\x<10:=by
 unfold Z3 at h;split at h
 ·cases h
 ·exact y0p h
def f0F (l:List C0)(q:Int):(Z3 l q).length<=10:=by
 unfold Z3;split
 ·simp
 ·exact l0I _ 10
def o9 (l:List C0):Int:=(Z3 l ((l.length:Int)-1)).getLast?.getD 0
def l5 (l:List C0):Int:=1+2*o9 l
def g0o (l:List C0):0<=o9 l/\o9 l<10:=by
 unfold o9;cases h:(Z3 l ((l.length:Int)-1)).getLast? with
 |none=>simp
 |some x=>exact r0v (List.mem_of_getLast? h)
section
variable {F:Nat}
def B0H {l:List C0}(hR:K1 l=true)(e:401<F):k0p F l=some (o9 l):=by
 have h:=a0M hR;have a:=h.le;have b:=h.pos;unfold k0p o9;rw[show W ((l.length:Int)-1)=(l.length:Int)-1 from n3 O' O',u0e hR _ e,G0,s9];have c:=f0F l ((l.length:Int)-1);generalize Z3 l ((l.length:Int)-1)=g at *;have:=R4 (step:=h07 F g) (fun i=>((g.take i).getLast?.getD 0,(i:Int))) (g.getLast?.getD 0) g.length (fun i hi=>.inl ?_) ?_ g.length 0 F O' O'
 ·exact this
 ·unfold h07;have h1:(i:Int)<(g.length:Int):=O'
  have f:W ((i:Int)+1)=((i+1:Nat):Int):=by rw[n3 O' O'];omega
  have d:g.take (i+1)=g.take i++[gt g (i:Int)]:=by rw[take_succ,u6 hi];rfl
  simp only[h1,decide_true,if_true,R0 (l:=g) (i:=(i:Int)) O' h1,f,d,List.getLast?_append,List.getLast?_singleton,Option.some_or,Option.getD_some]
 ·unfold h07;have h1:¬((g.length:Int)<(g.length:Int)):=O'
  simp only[q0,h1,take_length]
def E0F {l:List C0}(hR:K1 l=true)(hl:l.length*64<=140737488351232)(i:401<F)(a:l.length+1<F):j00 F l=some (o9 l):=by
 have h:=a0M hR;have d:=h.le;have e:=h.pos;unfold j00 o9;rw[show W ((l.length:Int)-1)=(l.length:Int)-1 from n3 O' O',n0z hR hl _ i a,G0];have f:=f0F l ((l.length:Int)-1);generalize Z3 l ((l.length:Int)-1)=g at *
 by_cases c:g=[]
 ·subst c;rfl
 ·have hp:0<g.length:=List.length_pos_iff.2 c;have b:((g.length:Int)==0)=false:=by simp;omega
  have j:W ((g.length:Int)-1)=((g.length-1:Nat):Int):=by rw[n3 O' O'];omega
  rw[if_neg (by rw[b];simp),j,if_pos (R0 O' O')];have:g.getLast?=some (gt g ((g.length-1:Nat):Int)):=by rw[List.getLast?_eq_getElem?,u6 O']
  rw[this];rfl
def D0E {l:List C0}(hR:K1 l=true)(a:401<F):j0A F l=some (l5 l):=by
 have b:=g0o l;unfold j0A l5;rw[B8 g0k (Old.c0Q l a),hR];simp only[q0,B0H hR a];rw[n3 (n:=2*o9 l) O' O',n3 O' O']
def I0h {l:List C0}(hR:K1 l=true)(hl:l.length*64<=140737488351232)(b:401<F)(a:l.length+1<F):F06 F l=some (l5 l):=by
 have c:=g0o l;unfold F06 l5;rw[B8 o0w (Old.e0f l hl a),hR];simp only[q0,E0F hR hl b a];rw[n3 (n:=2*o9 l) O' O',n3 O' O']
def N9 (l:List C0)(s:Int):List G2:=
 if s<0\/(l.length:Int)<=s / 2 then[]else
 if(gt l (s / 2)).Kind=7 then[⟨1+s % 2,(gt l (s / 2)).N⟩]else
 if(gt l (s / 2)).Kind=8/\s % 2=0 then(Z3 l (s / 2)).map fun g=>⟨3,g⟩else[]
def m06 (l:List C0)(s:Int):(N9 l s).length<=10:=by
 unfold N9;have:=f0F l (s / 2);split
 ·simp
 ·split
  ·simp
  ·split
   ·rw[length_map];exact this
   ·simp
def N4 (l:List C0)(steps:List Int):List G2:=steps.flatMap (N9 l)
def u0Y {g:List Int}{step:List G2×Int->Option (V0 (List G2×Int) (List G2))}(a:∀o (i:Int),step (o,i)=if decide (i<(g.length:Int))then if B0 g i then if I0 16 o [(⟨3,gt g i⟩:G2)]then some (.next (o++[(⟨3,gt g i⟩:G2)],W (i+1)))else none else none else some (.done o))
  (hg:g.length<=10) (f:401<F) (o:List G2) (e:o.length<=100000000):iter step F (o,0)=some (o++g.map fun g=>⟨3,g⟩):=by
 have:=R4 (step:=step) (fun i=>(o++(g.take i).map fun g=>(⟨3,g⟩:G2),(i:Int))) (o++g.map fun g=>⟨3,g⟩) g.length (fun i hi=>.inl ?_) ?_ g.length 0 F O' O'
 ·simpa using this
 ·rw[a];have h1:(i:Int)<(g.length:Int):=O'
  have d:W ((i:Int)+1)=((i+1:Nat):Int):=by rw[n3 O' O'];omega
  have c:g.take (i+1)=g.take i++[gt g (i:Int)]:=by rw[take_succ,u6 hi];rfl
  have b:I0 16 (o++(g.take i).map fun g=>(⟨3,g⟩:G2)) [(⟨3,gt g (i:Int)⟩:G2)]=true:=by simp[I0];omega
  simp only[h1,decide_true,if_true,R0 (l:=g) (i:=(i:Int)) O' h1,d,c,b,List.map_append,List.map_cons,List.map_nil,List.append_assoc]
 ·rw[a];have h1:¬((g.length:Int)<(g.length:Int)):=O'
  simp only[q0,h1,take_length]
def SOk (s:Int):Prop:=-9223372036854775808<=s/\s<=9223372036854775807
def y0m {l:List C0}(hR:K1 l=true)(q:401<F){s:Int}(t:SOk s):i0i F l s=some (N9 l s):=by
 have h:=a0M hR;have p:=h.le;unfold i0i N9
 by_cases m:s<0
 ·simp[m]
 ·obtain⟨n,rfl⟩:∃n:Nat,s=n:=⟨s.toNat,O'⟩
  obtain⟨_,u⟩:=t;have x:(n:Int).tdiv 2=((n / 2:Nat):Int):=rfl;have v:(n:Int).tmod 2=((n % 2:Nat):Int):=rfl;have y:(n:Int) / 2=((n / 2:Nat):Int):=O'
  have w:(n:Int) % 2=((n % 2:Nat):Int):=O'
  have z:W ((n / 2:Nat):Int)=((n / 2:Nat):Int):=n3 O' O';simp only[q0,x,v,y,w,z,m,false_or]
  by_cases h1:(l.length:Int)<=((n / 2:Nat):Int)
  ·have a:((n / 2:Nat):Int)>=(l.length:Int):=h1;simp only[h1,a,decide_true,if_true]
  ·have a:¬((n / 2:Nat):Int)>=(l.length:Int):=h1;have f:B0 l ((n / 2:Nat):Int)=true:=R0 O' O';simp only[q0,h1,a,f];have j:((n % 2:Nat):Int)=0\/((n % 2:Nat):Int)=1:=O'
   generalize ((n % 2:Nat):Int)=r at *;generalize ((n / 2:Nat):Int)=k at *
   by_cases b:(gt l k).Kind=7
   ·rcases j with rfl|rfl<;>simp[b,G0]
   ·have e:((gt l k).Kind==7)=false:=by simp[b]
    by_cases c:(gt l k).Kind=8
    ·rcases j with rfl|rfl
     ·have d:((gt l k).Kind==8)=true:=by simp[c]
      simp only[q0,e,d,c,b,beq_self_eq_true,and_self,u0e hR _ q,s9];have:=u0Y (F:=F) (g:=Z3 l k) (step:=p0y F (Z3 l k)) (fun o i=>rfl) (f0F _ _) q [] Z9;simpa using this
     ·simp[b,c,G0]
    ·simp[b,c,G0]
def n0Q {l:List C0}(hR:K1 l=true){st:List Int}(d:st.length<=2000000)(h:2000001<F)(b:∀s∈st,SOk s):f0w F l st=some (N4 l st):=by
 unfold f0w;rw[B8 g0k (Old.c0Q l O'),hR];simp only[q0,s9];have hlen:∀i,i<=st.length->(N4 l (st.take i)).length<=10*i:=by
  intro i
  induction i with
  |zero=>intro _;simp[N4]
  |succ i ih=>
   intro hi;have:=ih O';have c:=m06 l (gt st (i:Int));rw[show st.take (i+1)=st.take i++[gt st (i:Int)]from by rw[take_succ,u6 O'];rfl];simp only[N4,List.flatMap_append,List.length_append,flatMap_cons,flatMap_nil,append_nil]at *;omega
 have:=R4 (step:=i0N F l st) (fun i=>(N4 l (st.take i),(i:Int))) (N4 l st) st.length (fun i hi=>.inl ?_) ?_ st.length 0 F O' O'
 ·exact this
 ·unfold i0N;have h1:(i:Int)<(st.length:Int):=O'
  have f:W ((i:Int)+1)=((i+1:Nat):Int):=by rw[n3 O' O'];omega
  have e:st.take (i+1)=st.take i++[gt st (i:Int)]:=by rw[take_succ,u6 hi];rfl
  have c:=m06 l (gt st (i:Int));have g:=hlen i O';have a:I0 16 (N4 l (st.take i)) (N9 l (gt st (i:Int)))=true:=by simp[I0];omega
  simp only[q0,h1,R0 (l:=st) (i:=(i:Int)) O' h1,f,y0m hR (show 401<F from O') (b _ (mem_of_getElem? (u6 hi))),a,e,N4,List.flatMap_append,flatMap_cons,flatMap_nil,append_nil];rw[show N4 l (List.take i st)=List.flatMap (N9 l) (List.take i st)from rfl]at a;rw[if_pos a]
 ·unfold i0N;have h1:¬((st.length:Int)<(st.length:Int)):=O'
  simp only[q0,h1,take_length]
def i0I (l:List C0):∀st:List Int,(N4 l st).length<=10*st.length
 |[]=>by simp[N4]
 |x :: r=>by
  have h:=i0I l r;have a:=m06 l x;simp only[N4,flatMap_cons,List.length_append,List.length_cons]at *;omega
def r04 {l:List C0}(hR:K1 l=true)(hl:l.length*64<=140737488351232)(w:401<F)(f:l.length+1<F){st:List Int}{i:Nat}(hi:i<st.length)(hlen:st.length<=2000000)(x:SOk (gt st (i:Int))){o:List G2}(ho:o.length<=50000000):
  u0Z F l st (o,(i:Int))=some (.next (o++N9 l (gt st (i:Int)),((i+1:Nat):Int))):=by
 have h:=a0M hR;have v:=h.le;have c:(i:Int)<(st.length:Int):=O'
 have q:W ((i:Int)+1)=((i+1:Nat):Int):=by rw[n3 O' O'];omega
 unfold u0Z N9;simp only[c,decide_true,if_true,R0 (l:=st) (i:=(i:Int)) O' c,q];generalize gt st (i:Int)=s at *
 by_cases u:s<0
 ·simp[u]
 ·obtain⟨n,rfl⟩:∃n:Nat,s=n:=⟨s.toNat,O'⟩
  obtain⟨_,y⟩:=x;have I:(n:Int).tdiv 2=((n / 2:Nat):Int):=rfl;have z:(n:Int).tmod 2=((n % 2:Nat):Int):=rfl;have U:(n:Int) / 2=((n / 2:Nat):Int):=O'
  have R:(n:Int) % 2=((n % 2:Nat):Int):=O'
  have J:W ((n / 2:Nat):Int)=((n / 2:Nat):Int):=n3 O' O';have t:W (1+((n % 2:Nat):Int))=1+((n % 2:Nat):Int):=n3 O' O';simp only[q0,I,z,U,R,J,t,u,false_or]
  by_cases h1:(l.length:Int)<=((n / 2:Nat):Int)
  ·have a:((n / 2:Nat):Int)>=(l.length:Int):=h1;simp only[q0,h1,a,append_nil]
  ·have a:¬((n / 2:Nat):Int)>=(l.length:Int):=h1;have m:B0 l ((n / 2:Nat):Int)=true:=R0 O' O';simp only[q0,h1,a,m];have C:((n % 2:Nat):Int)=0\/((n % 2:Nat):Int)=1:=O'
   generalize ((n % 2:Nat):Int)=r at *;generalize ((n / 2:Nat):Int)=k at *
   by_cases b:(gt l k).Kind=7
   ·have p:I0 16 o [(⟨1+r,(gt l k).N⟩:G2)]=true:=by simp[I0];omega
    simp[b,G0,p]
   ·have j:((gt l k).Kind==7)=false:=by simp[b]
    by_cases d:(gt l k).Kind=8
    ·rcases C with rfl|rfl
     ·have e:((gt l k).Kind==8)=true:=by simp[d]
      rw[if_neg b,if_pos (show(gt l k).Kind=8/\(0:Int)=0 from⟨d,rfl⟩)];simp only[q0,j,e,beq_self_eq_true,n0z hR hl _ w f,s9];rw[u0Y (F:=F) (g:=Z3 l k) (step:=p09 F (Z3 l k)) (fun o i=>rfl) (f0F _ _) w o O'];simp[G0]
     ·simp[b,d,G0]
    ·simp[b,d,G0]
def H0k {l:List C0}(hR:K1 l=true)(hl:l.length*64<=140737488351232){st:List Int}(b:st.length<=2000000)(f:2000001<F)(a:l.length+1<F)(c:∀s∈st,SOk s):k0O F l st=some (N4 l st):=by
 unfold k0O;rw[B8 o0w (Old.e0f l hl a),hR];simp only[q0,s9];have:=R4 (step:=u0Z F l st) (fun i=>(N4 l (st.take i),(i:Int))) (N4 l st) st.length (fun i hi=>.inl ?_) ?_ st.length 0 F O' O'
 ·exact this
 ·have d:=i0I l (st.take i);rw[List.length_take]at d;rw[r04 hR hl O' a hi b (c _ (mem_of_getElem? (u6 hi))) O'];have e:st.take (i+1)=st.take i++[gt st (i:Int)]:=by rw[take_succ,u6 hi];rfl
  simp only[e,N4,List.flatMap_append,flatMap_cons,flatMap_nil,append_nil]
 ·unfold u0Z;have h1:¬((st.length:Int)<(st.length:Int)):=O'
  simp only[q0,h1,take_length]
end
