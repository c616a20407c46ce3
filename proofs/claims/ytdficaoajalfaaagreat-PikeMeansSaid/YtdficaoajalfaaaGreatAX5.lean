/- What only reads: sound. Its conditions: none. -/
import Derived.Test.YtdficaoajalfaaaGreatAX4
open Bool (and_eq_true)
open Nat (add_assoc beq_eq)
open List (length_append map_cons)
open Option (map_none map_some)
set_option linter.all false
namespace Go.X
open Go.V Go.RowKit
section
variable {E:Env} {A:O4} {s:St E.D} {ρ:Nat->Value} {S:D0} {a:Act} {as:List Act} {w:World} {n:Nat} {H:K0}
def o4 {D:Nat->Type} (r:QR D) (P:V D->Prop):Prop:=match r with
 |.bad=>True
 |.ok v=>P v
 |.chk b v=>b=true->P v
theorem o4.mono {D:Nat->Type} {r:QR D} {P P':V D->Prop} (h:o4 r P) (hp:∀ v,P v->P' v):o4 r P':=by
 cases r with
 |bad=>trivial
 |ok v=>exact hp v h
 |chk b v=>exact fun hb=>hp v (h hb)
theorem VS.d {t:U} {x:Den E.D t} {u:Value} (ht:Y8 t=false) (h:VS E ρ n H S (.d t x) u):(J0 E t).R H S [u] x:=by
 obtain ⟨c,h1,h2⟩:=h;unfold VC at h1;have:vl (D:=E.D) (.d t x) c=c.headD Go.undef:=by simp only [vl,C4,ht,H4]
 rw [this] at h2;have hl:c.length=1:=by
  have:=(J0 E t).len h1;cases t<;>simp [Y8] at ht<;>exact this
 match c,hl with
 |[z],_=>simp at h2;subst h2;exact h1
theorem VS.of {v:V E.D} {u:Value} (hv:C4 v=false) (h:VC E ρ n H S v [u]):VS E ρ n H S v u:=⟨[u],h,by unfold vl;rw [hv];rfl⟩
theorem r9 {v:V E.D} {k:IntKind} {x:Int} {u:Value} (h:L5 v=some (k,x)) (hv:VS E ρ n H S v u):u=.int k x:=by
 cases v<;>simp only [L5] at h<;>try cases h
 ·obtain ⟨c,h1,rfl⟩:=hv;unfold VC at h1;subst h1;rfl
 ·rename_i t y;cases t<;>simp only [L5] at h<;>try cases h
  have:=hv.d (t:=.int k) rfl;simpa [J0,C2] using this
theorem P8 {v:V E.D} {x:Bool} {u:Value} (h:V6 v=some x) (hv:VS E ρ n H S v u):u=.bool x:=by
 cases v<;>simp only [V6] at h<;>try cases h
 ·obtain ⟨c,h1,rfl⟩:=hv;unfold VC at h1;subst h1;rfl
 ·rename_i t y;cases t<;>simp only [V6] at h<;>try cases h
  have:=hv.d (t:=.bool) rfl;simpa [J0,b0E] using this
theorem VS.dI {k:IntKind} {x:Int}:VS E ρ n H S (Go.X.dI k x) (.int k x):=VS.of rfl (by unfold Go.X.dI VC;rfl)
theorem VS.ki {k:IntKind} {x:Int}:VS E ρ n H S (.ki k x) (.int k x):=VS.of rfl (by unfold VC;rfl)
theorem VS.dB {x:Bool}:VS E ρ n H S (Go.X.dB x) (.bool x):=VS.of rfl (by unfold Go.X.dB VC;rfl)
theorem VS.kb {x:Bool}:VS E ρ n H S (.kb x) (.bool x):=VS.of rfl (by unfold VC;rfl)
theorem k0m {v:V E.D} {x:Int} {k:IntKind} {m:Int} (h:L5 v=some (k,x)) (hl:f0p v=some m):m=x:=by
 cases v<;>simp [f0p,L5] at h hl
 rw [<-hl,h.2]
def K8 (E:Env) (s:St E.D) (S:D0) (w:World) (own:Nat->Prop) (w':World):Prop:=(∃ S',U0 w.heap S w'.heap S')/\∀ k,own k->k<w.heap.size->w'.heap[k]?=w.heap[k]?
def i0S {E:Env} (s:St E.D) (ρ:Nat->Value) (v:V E.D) (k:Nat):Prop:=d0Z s v=true/\∀ q,rdP s v=some q->D1 (hd (ρ q))=some k
theorem K8.e0z {E:Env} {s:St E.D} {S:D0} {w w':World} {own own':Nat->Prop} (h:K8 E s S w own' w') (ho:∀ k,own k->own' k):K8 E s S w own w':=⟨h.1,fun k e=>h.2 k (ho k e)⟩
theorem D01 {E:Env} {s:St E.D} {id z q:Nat} {i:Int} {p:List P6} (h:rdP s (.pe id i z p)=some q):q=id:=by
 simp only [rdP] at h;split at h<;>cases h
 rfl
theorem pbK {E:Env} {s:St E.D} {ρ:Nat->Value} {id off k:Nat} {p:List P6} (h:P1 (E0 s id)=true/\D1 (hd (ρ id))=some k):i0S s ρ (.pb id off p) k:=by
 refine ⟨h.1,fun q hq=>?_⟩;simp only [rdP] at hq;split at hq<;>cases hq
 exact h.2
def d06 (E:Env) (s:St E.D) (ρ:Nat->Value) (o:Oper) (k:Nat):Prop:=A9 E s o=true/\∀ q,D9 E s o=some q->D1 (hd (ρ q))=some k
theorem E0Q {op:BinOp} {k:IntKind} {x y:Int} {ly:Option Int} (hl:∀ m,ly=some m->m=y) (hs:g0K op=false) (T:Nat) :
  o4 (l00 op k x y ly:QR E.D) (fun v=>∃ u,VS E ρ n H S v u/\∀ w':World,(binOp op T (.int k x) (.int k y)).run E.P w'=.ok u w'):=by
 cases op<;>simp only [g0K,Bool.true_eq_false] at hs<;>simp only [l00,o4]
 all_goals first
  |trivial
  |exact ⟨_,VS.dI,fun w'=>by simp [binOp,Op.intArith,Op.intBits,C3,bor,i0u,q0O]⟩
  |exact ⟨_,VS.dB,fun w'=>by simp [binOp,Op.intCmp]⟩
  |skip
 ·cases ly with
  |
   none=>
   simp only;intro h0;have h0:y≠0:=by simpa using h0
   exact ⟨_,VS.dI,fun w'=>by simp [binOp,Op.intDiv,h0]⟩
  |
   some m=>
   have:=hl m rfl;subst this;simp only
   by_cases h0:m=0
   ·simp [h0]
   ·simp only [h0,decide_false];exact ⟨_,VS.dI,fun w'=>by simp [binOp,Op.intDiv,h0]⟩
 ·cases ly with
  |
   none=>
   simp only;intro h0;have h0:y≠0:=by simpa using h0
   exact ⟨_,VS.dI,fun w'=>by simp [binOp,Op.intDiv,h0]⟩
  |
   some m=>
   have:=hl m rfl;subst this;simp only
   by_cases h0:m=0
   ·simp [h0]
   ·simp only [h0,decide_false];exact ⟨_,VS.dI,fun w'=>by simp [binOp,Op.intDiv,h0]⟩
theorem E0j {op:BinOp} {k k':IntKind} {x y:Int} {ly:Option Int} (hl:∀ m,ly=some m->m=y) (hs:g0K op=true) (T:Nat) :
  o4 (k0L op k x y ly:QR E.D) (fun v=>∃ u,VS E ρ n H S v u/\∀ w':World,(binOp op T (.int k x) (.int k' y)).run E.P w'=.ok u w'):=by
 have key:¬ y<0->∃ u,VS E ρ n H S (match op with | .shl=>Go.X.dI k (shl k x y) | _=>Go.X.dI k (shr k x y)) u/\∀ w':World,(binOp op T (.int k x) (.int k' y)).run E.P w'=.ok u w':=by
  intro h0;cases op<;>simp only [g0K,Bool.false_eq_true] at hs
  ·exact ⟨_,VS.dI,fun w'=>by simp [binOp,Op.shift,h0,shl]⟩
  ·exact ⟨_,VS.dI,fun w'=>by simp [binOp,Op.shift,h0,shr]⟩
 unfold k0L;cases ly with
 |
  none=>
  simp only [o4];intro h0;exact key (by simpa using h0)
 |
  some m=>
  have:=hl m rfl;subst this;simp only [o4]
  by_cases h0:m<0
  ·simp [h0]
  ·simp only [h0,decide_false];exact key h0
theorem s0E {op:BinOp} {pos:Bool} (h:isEq op=some pos):(pos=true/\op=.eql)\/(pos=false/\op=.neq):=by
 cases op<;>simp [isEq] at h<;>simp [h]
theorem VS.Q6 {pos r:Bool}:VS E ρ n H S (Go.X.Q6 pos r) (.bool (sgn pos r)):=VS.kb
theorem VS.eqR {pos r:Bool}:VS E ρ n H S (Go.X.eqR pos r) (.bool (sgn pos r)):=VS.dB
theorem b0F {op:BinOp} {pos:Bool} (h:isEq op=some pos) {T:Nat} {u1 u2:Value} {r:Bool} {w':World} (hi:∀ k a,u1≠.int k a) (hs:∀ a,u1≠.string a) (hf:∀ k b,u1≠.float k b) (hc:∀ k a b,u1≠.complex k a b) (hr:(Op.equal T u1 u2).run E.P w'=.ok r w') :
  (binOp op T u1 u2).run E.P w'=.ok (.bool (sgn pos r)) w':=by
 rcases s0E h with ⟨rfl,rfl⟩ | ⟨rfl,rfl⟩
 ·cases u1<;>simp_all [binOp,sgn]
 ·cases u1<;>simp_all [binOp,sgn]
theorem i0Z {T:Nat}:(c0t E T=1->E.P.underlying T=some .bool)/\(c0t E T=2->∃ e,E.P.underlying T=some (.pointer e))/\(c0t E T=3->∃ e,E.P.underlying T=some (.slice e))/\(c0t E T=4->∃ e,E.P.underlying T=some (.interface e)):=by
 unfold c0t;split<;>simp_all
theorem h0d (T:Nat) (x y:Value):∃ d,Op.equal T x y=Op.equalIn (d+1) T x y:=⟨9999,rfl⟩
section
variable {P:Program} {T:Nat}
theorem i0U {e:Nat} (hT:P.underlying T=some (.pointer e)) (b:Option Addr) (w:World):(Op.equal T (.pointer none) (.pointer b)).run P w=.ok b.isNone w:=by
 obtain ⟨d,h⟩:=h0d T (.pointer none) (.pointer b);rw [h];simp [Op.equalIn,run_underlying hT]
theorem n0d {e:Nat} (hT:P.underlying T=some (.pointer e)) (b:Addr) (w:World):(Op.equal T (.pointer (some b)) (.pointer none)).run P w=.ok false w:=by
 obtain ⟨d,h⟩:=h0d T (.pointer (some b)) (.pointer none);rw [h];simp [Op.equalIn,run_underlying hT]
theorem B0n (hT:P.underlying T=some .bool) (x y:Bool) (w:World):(Op.equal T (.bool x) (.bool y)).run P w=.ok (x==y) w:=by
 obtain ⟨d,h⟩:=h0d T (.bool x) (.bool y);rw [h];simp [Op.equalIn,run_underlying hT]
theorem C08 {e:Nat} (hT:P.underlying T=some (.slice e)) (w:World):(Op.equal T (.slice none 0 0) (.slice none 0 0)).run P w=.ok true w:=by
 obtain ⟨d,h⟩:=h0d T (.slice none 0 0) (.slice none 0 0);rw [h];simp [Op.equalIn,run_underlying hT]
theorem C0N {e:Array (String×TypeId)} (hT:P.underlying T=some (.interface e)) (t:Nat) (u:Value) (w:World):(Op.equal T (.iface t u) .nilIface).run P w=.ok false w:=by
 obtain ⟨d,h⟩:=h0d T (.iface t u) .nilIface;rw [h];simp [Op.equalIn,run_underlying hT]
end
theorem VS.e0u {u:Value} (h:VS E ρ n H S (.nilp:V E.D) u):u=.pointer none:=by
 obtain ⟨c,h1,rfl⟩:=h;unfold VC at h1;subst h1;rfl
theorem VS.b0n {u:Value} (h:VS E ρ n H S (.nil:V E.D) u):u=.slice none 0 0:=by
 obtain ⟨c,h1,rfl⟩:=h;unfold VC at h1;subst h1;rfl
theorem VS.i0B {u:Value} (h:VS E ρ n H S (.nilif:V E.D) u):u=.nilIface:=by
 obtain ⟨c,h1,rfl⟩:=h;unfold VC at h1;subst h1;rfl
theorem VS.n0H {T:Nat} {v:V E.D} {u:Value} (h:VS E ρ n H S (.ifc T v:V E.D) u):∃ u',u=.iface T u'/\VS E ρ n H S v u':=by
 obtain ⟨c,h1,rfl⟩:=h;unfold VC at h1;obtain ⟨c',h2,rfl⟩:=h1;exact ⟨_,rfl,c',h2,rfl⟩
theorem VS.b0l {id off:Nat} {p:List P6} {u:Value} (h:VS E ρ n H S (.pb id off p:V E.D) u):id<n/\e8 p/\∃ b,hd (ρ id)=.pointer (some ⟨b,0,none⟩)/\u=.pointer (some ⟨b,off+M4 p,none⟩):=by
 obtain ⟨c,h1,rfl⟩:=h;unfold VC at h1;obtain ⟨h0,h2,b,h3,rfl⟩:=h1;exact ⟨h0,h2,b,h3,rfl⟩
theorem VS.c05 {id z:Nat} {i:Int} {p:List P6} {u:Value} (h:VS E ρ n H S (.pe id i z p:V E.D) u):id<n/\e8 p/\∃ b o m c,hd (ρ id)=.slice (some ⟨b,o,none⟩) m c/\(0<=i/\i<m)/\u=.pointer (some ⟨b,o+i.toNat*z+M4 p,none⟩):=by
 obtain ⟨c,h1,rfl⟩:=h;unfold VC at h1;obtain ⟨h0,h2,b,o,m,cc,h3,h4,rfl⟩:=h1;exact ⟨h0,h2,b,o,m,cc,h3,h4,rfl⟩
theorem VS.f0b {t:U} {x:Den E.D t} {u:Value} (h:VS E ρ n H S (.pd t x:V E.D) u):PtR (J0 E t) H S u x:=by
 obtain ⟨c,h1,rfl⟩:=h;unfold VC at h1;obtain ⟨v,rfl,h2⟩:=h1;exact h2
theorem VS.pd {t:U} {x:Den E.D t} {u:Value} (h:PtR (J0 E t) H S u x):VS E ρ n H S (.pd t x:V E.D) u:=VS.of rfl (by unfold VC;exact ⟨u,rfl,h⟩)
theorem VS.X9 {id:Nat} {u:Value} (h:VS E ρ n H S (.sl id:V E.D) u):id<n/\u=hd (ρ id):=by
 obtain ⟨c,h1,rfl⟩:=h;unfold VC at h1;obtain ⟨h0,_,rfl⟩:=h1;exact ⟨h0,rfl⟩
theorem VS.s0a {l:List (V E.D)} {u:Value} (h:VS E ρ n H S (.tup l:V E.D) u):∃ us,u=.tuple us.toArray/\VT E ρ n H S l us:=by
 obtain ⟨c,h1,rfl⟩:=h;unfold VC at h1;obtain ⟨us,rfl,h2⟩:=h1;exact ⟨us,rfl,h2⟩
theorem VS.f04 {t:U} {xs:List (Den E.D t)} {u:Value} (h:VS E ρ n H S (.d (.list t) xs:V E.D) u):∃ A c,u=.slice A xs.length c/\Sl (J0 E t) H S A c xs:=by
 have:=h.d rfl;obtain ⟨A,c,h1,h2⟩:=this;simp at h1;exact ⟨A,c,h1,h2⟩
def a0W (u:Value):Prop:=(∀ l,u≠.agg l)/\u≠.nilIface
theorem C0V {op:BinOp} {T:Nat} {x y:Operand} {ua ub:Value} (h:a0W ua) (w':World):(eqGuard op T x y ua ub).run E.P w'=.ok () w':=by
 unfold eqGuard;obtain ⟨h1,h2⟩:=h;cases op<;>simp<;>(cases ua<;>first | exact absurd rfl (h1 _) | exact absurd rfl h2 | simp)
def s8 (E:Env) (op:BinOp) (T:Nat) (ua ub:Value):Prop:=∀ (x y:Operand) (w':World),(eqGuard op T x y ua ub).run E.P w'=.ok () w'
theorem s8.of {op:BinOp} {T:Nat} {ua ub:Value} (h:a0W ua):s8 E op T ua ub:=fun _ _ w'=>C0V h w'
theorem E04 {T e:Nat} (hT:E.P.underlying T=some (.pointer e)) {op:BinOp} {pos:Bool} (ho:isEq op=some pos) {a b:V E.D} {ua ub:Value} (ha:VS E ρ n H S a ua) (hb:VS E ρ n H S b ub) :
  o4 (eqP pos a b) (fun v=>∃ u,VS E ρ n H S v u/\∀ w':World,(binOp op T ua ub).run E.P w'=.ok u w'/\s8 E op T ua ub):=by
 have key:∀ r,(∀ w':World,(Op.equal T ua ub).run E.P w'=.ok r w')->(∃ q,ua=.pointer q)->∃ u,VS E ρ n H S (Go.X.Q6 pos r) u/\∀ w':World,(binOp op T ua ub).run E.P w'=.ok u w'/\s8 E op T ua ub:=by
  rintro r hr ⟨q,rfl⟩
  exact ⟨_,VS.Q6,fun w'=>⟨b0F ho (by simp) (by simp) (by simp) (by simp) (hr w'),s8.of (by simp [a0W])⟩⟩
 unfold eqP;split<;>simp only [o4]
 ·obtain rfl:=ha.e0u;obtain rfl:=hb.e0u;exact key true (fun w'=>i0U hT _ w') ⟨_,rfl⟩
 ·obtain rfl:=ha.e0u;obtain ⟨_,_,b',_,rfl⟩:=hb.b0l;exact key false (fun w'=>i0U hT _ w') ⟨_,rfl⟩
 ·obtain rfl:=ha.e0u;obtain ⟨b',o',cs',rfl,_⟩:=hb.f0b;exact key false (fun w'=>i0U hT _ w') ⟨_,rfl⟩
 ·obtain ⟨_,_,b',_,rfl⟩:=ha.b0l;obtain rfl:=hb.e0u;exact key false (fun w'=>n0d hT _ w') ⟨_,rfl⟩
 ·obtain ⟨b',o',cs',rfl,_⟩:=ha.f0b;obtain rfl:=hb.e0u;exact key false (fun w'=>n0d hT _ w') ⟨_,rfl⟩
 ·rename_i t x;obtain rfl:=hb.e0u;have h1:(J0 E (.opt t)).R H S [ua] x:=ha.d rfl;obtain ⟨v,hv,h2⟩:=h1;simp at hv;subst hv;refine ⟨_,VS.eqR,fun w'=>?_⟩;have hx:∀ y:Option (Den E.D t),i0O (J0 E t) H S ua y->(∃ q,ua=.pointer q)/\(Op.equal T ua (.pointer none)).run E.P w'=.ok y.isNone w':=by
   intro y hy;cases y with
   |none=>unfold i0O at hy;subst hy;exact ⟨⟨_,rfl⟩,i0U hT _ w'⟩
   |some z=>obtain ⟨b',o',cs',rfl,_⟩:=hy;exact ⟨⟨_,rfl⟩,n0d hT _ w'⟩
  obtain ⟨⟨q,rfl⟩,hr⟩:=hx x h2;exact ⟨b0F ho (by simp) (by simp) (by simp) (by simp) hr,s8.of (by simp [a0W])⟩
 all_goals trivial
theorem d0l {T n:Nat} (h:R5 E T=some n) (w:World):(sizeOf T).run E.P w=.ok n w:=by
 unfold R5 at h;split at h
 ·rename_i i hi;simp at h;subst h;simp [sizeOf,typeInfo,hi]
 ·cases h
theorem n07 {T:Nat} {ag:Bool} (h:p9 E T=some ag) (w:World):(isAgg T).run E.P w=.ok ag w:=by
 unfold p9 at h;split at h<;>try cases h
 ·rename_i hd;simp [isAgg,run_underlying hd]
 ·rename_i hd;simp [isAgg,run_underlying hd]
 ·rename_i d h1 h2 hd;simp only [isAgg,Sem.run_bind,run_underlying hd,Result.andThen_ok];cases d<;>simp_all
theorem i0d (hE:Q1 E):∀ (k:Nat) {v:V E.D} {c:List Value},VC E ρ n H S v c->VC E ρ n H S (leaf E k v) c
 |0,v,c,h=>h
 |
  k+1,v,c,h=>by
  simp only [leaf];split
  ·rename_i u he;exact i0d hE k (k0Z hE he h).a0p
  ·exact h
theorem D0g {v:V E.D} {k:IntKind} {x:Int} {c:List Value} (h:L5 v=some (k,x)) (hv:VC E ρ n H S v c):c=[.int k x]:=by
 cases v<;>simp only [L5] at h<;>try cases h
 ·unfold VC at hv;exact hv
 ·rename_i t z;cases t<;>simp only [L5] at h<;>try cases h
  unfold VC at hv;exact hv
theorem u0C {v:V E.D} {x:Bool} {c:List Value} (h:V6 v=some x) (hv:VC E ρ n H S v c):c=[.bool x]:=by
 cases v<;>simp only [V6] at h<;>try cases h
 ·unfold VC at hv;exact hv
 ·rename_i t z;cases t<;>simp only [V6] at h<;>try cases h
  unfold VC at hv;exact hv
theorem f0N (hE:Q1 E) {v:V E.D} {k:IntKind} {x:Int} {c:List Value} (h:d0L E v=some (k,x)) (hv:VC E ρ n H S v c):c=[.int k x]:=D0g h (i0d hE 10 hv)
theorem j03 {α:Type} {l:List α} {v:α} (h:f0e l=some v):l=[v]:=by
 unfold f0e at h;split at h<;>cases h
 rfl
def allEq:List Int->List Int->Bool
 |[],_=>true
 |[a],b :: _=>a==b
 |a :: l,b :: r=>(a==b)&&allEq l r
 |_,_=>true
theorem s0F (hE:Q1 E) {k:IntKind}:∀ {l r:List (V E.D)} {b:Bool} {cx cy:List Value},b0V E k l r=some b->N0 E ρ n H S l cx->N0 E ρ n H S r cy->∃ xs ys:List Int,cx=xs.map (.int k)/\cy=ys.map (.int k)/\xs.length=l.length/\ys.length=r.length/\xs.length=ys.length/\b=allEq xs ys
 |
  [],[],b,cx,cy,h,hx,hy=>by
  unfold N0 at hx hy;subst hx;subst hy;simp [b0V] at h;exact ⟨[],[],rfl,rfl,rfl,rfl,rfl,by simp [allEq,h]⟩
 |[],_ :: _,b,cx,cy,h,hx,hy=>by simp [b0V] at h
 |_ :: _,[],b,cx,cy,h,hx,hy=>by simp [b0V] at h
 |
  [a],[c],b,cx,cy,h,hx,hy=>by
  simp only [b0V] at h;split at h<;>try cases h
  rename_i k1 x k2 y h1 h2;split at h<;>try cases h
  rename_i hk;simp only [and_eq_true,decide_eq_true_eq] at hk;obtain ⟨rfl,rfl⟩:=hk;obtain rfl:=f0N hE h1 hx.a0p;obtain rfl:=f0N hE h2 hy.a0p;exact ⟨[x],[y],rfl,rfl,rfl,rfl,rfl,rfl⟩
 |
  [a],c :: d :: r,b,cx,cy,h,hx,hy=>by
  simp only [b0V] at h;split at h<;>try cases h
  rename_i h3;simp [b0V] at h3
 |
  a :: a2 :: l,c :: r,b,cx,cy,h,hx,hy=>by
  simp only [b0V] at h;split at h<;>try cases h
  rename_i k1 x k2 y q h1 h2 h3;split at h<;>try cases h
  rename_i hk;simp only [and_eq_true,decide_eq_true_eq] at hk;obtain ⟨rfl,rfl⟩:=hk;unfold N0 at hx hy;obtain ⟨c1,c2,rfl,x1,x2⟩:=hx;obtain ⟨d1,d2,rfl,y1,y2⟩:=hy;obtain rfl:=f0N hE h1 x1;obtain rfl:=f0N hE h2 y1;obtain ⟨xs,ys,rfl,rfl,e1,e2,e3,e4⟩:=s0F hE h3 x2 y2;refine ⟨x :: xs,y :: ys,rfl,rfl,by simp [e1],by simp [e2],by simp [e3],?_⟩;cases xs with
  |nil=>simp at e1
  |
   cons x' xs=>cases ys with
   |nil=>simp at e3
   |cons y' ys=>rw [e4];rfl
theorem l0e (hE:Q1 E):∀ (k m:Nat) (l q:List (V E.D)) (c:List Value),w9.cutA E k m l=some q->N0 E ρ n H S l c->N0 E ρ n H S q c/\q.length=m
 |0,m,l,q,c,h,_=>by simp [w9.cutA] at h
 |k+1,0,[],q,c,h,hc=>by simp [w9.cutA] at h;subst h;exact ⟨hc,rfl⟩
 |k+1,0,_ :: _,q,c,h,hc=>by simp [w9.cutA] at h
 |
  k+1,m+1,l,q,c,h,hc=>by
  simp only [w9.cutA] at h;split at h<;>try cases h
  rename_i v r hct;split at h<;>try cases h
  rename_i q' hq;obtain ⟨c1,c2,rfl,_,h1,h2⟩:=b0g hE _ _ _ _ _ hct c hc;obtain ⟨h3,h4⟩:=l0e hE k m r q' c2 hq h2;exact ⟨by unfold N0;exact ⟨c1,c2,rfl,h1.a0p,h3⟩,by simp [h4]⟩
theorem C0j (P:Program) (d t e:Nat) (k:IntKind) (ht:P.underlying t=some (.array 4 e)) (he:P.underlying e=some (.int k)) (hs:(P.info? e).map (·.size)=some 1) (a0 a1 a2 a3 b0 b1 b2 b3:Int) (w:World) :
  (Op.equalIn (d+2) t (.agg #[.int k a0,.int k a1,.int k a2,.int k a3]) (.agg #[.int k b0,.int k b1,.int k b2,.int k b3])).run P w=.ok ((a0==b0)&&((a1==b1)&&((a2==b2)&&(a3==b3)))) w:=by
 obtain ⟨inf,hinf,hsz⟩:=Option.map_eq_some_iff.1 hs;have hag:(isAgg e).run P w=.ok false w:=by unfold isAgg;simp only [run_underlying he,Sem.run_bind];simp
 unfold Op.equalIn;simp [run_underlying ht,sizeOf,typeInfo,hinf,hsz,List.range',part,hag,run_equalIn_int w d e k k _ _ he]
 by_cases h0:a0=b0<;>by_cases h1:a1=b1<;>by_cases h2:a2=b2<;>by_cases h3:a3=b3<;>simp [h0,h1,h2,h3]
theorem u04 {T m:Nat} {ag:Bool} (hag:p9 E T=some ag) (hsz:R5 E T=some m) (h1:ag=false->m=1) {c1 c2 c3:List Value} (hl:c2.length=m) (w:World) :
  (part T (c1++(c2++c3)).toArray c1.length).run E.P w=.ok (H4 ag c2) w:=by
 have e1:=n07 hag w;have e2:=d0l hsz w;cases ag with
 |
  true=>
  simp [part,e1,e2,H4];rw [<-hl];simp
 |
  false=>
  have h1:=h1 rfl
  match c2,hl.trans h1 with
  |
   [z],_=>
   have:(c1++([z]++c3))[c1.length]?=some z:=by simp
   simp [part,e1,H4]
theorem q0z (hE:Q1 E):∀ (d T:Nat) (xs ys:List (V E.D)) (b:Bool),w9 E d T xs ys=some b->∀ (cx cy:List Value),N0 E ρ n H S xs cx->N0 E ρ n H S ys cy->∀ (m:Nat) (ag:Bool) (w:World),p9 E T=some ag->d+1<=m->(Op.equalIn m T (H4 ag cx) (H4 ag cy)).run E.P w=.ok b w
 |0,T,xs,ys,b,h=>by simp [w9] at h
 |
  d+1,T,xs,ys,b,h=>by
  intro cx cy hx hy m ag w hag hm;obtain ⟨m,rfl⟩:∃ q,m=q+2:=⟨m-2,by omega⟩
  simp only [w9] at h;split at h<;>try cases h
  ·rename_i k0 hT;have hag2:ag=false:=by unfold p9 at hag;rw [hT] at hag;simpa using hag.symm
   subst hag2;split at h<;>try cases h
   rename_i a c ha hc;split at h<;>try cases h
   rename_i k1 x k2 y h1 h2;split at h<;>try cases h
   rename_i hk;have hk:=of_decide_eq_true hk;subst hk;have e1:=j03 ha;have e2:=j03 hc;subst e1;subst e2;obtain rfl:=f0N hE h1 hx.a0p;obtain rfl:=f0N hE h2 hy.a0p;exact run_equalIn_int w (m+1) T k1 k0 x y hT
  ·rename_i hT;have hag2:ag=false:=by unfold p9 at hag;rw [hT] at hag;simpa using hag.symm
   subst hag2;split at h<;>try cases h
   rename_i a c ha hc;split at h<;>try cases h
   rename_i x y h1 h2;have e1:=j03 ha;have e2:=j03 hc;subst e1;subst e2;obtain rfl:=u0C h1 (i0d hE 10 hx.a0p);obtain rfl:=u0C h2 (i0d hE 10 hy.a0p);exact run_equalIn_bool w (m+1) T x y hT
  ·rename_i fs hT;have hag2:ag=true:=by unfold p9 at hag;rw [hT] at hag;simpa using hag.symm
   subst hag2;split at h<;>try cases h
   rename_i hp;have hfs:E.P.fieldsOf T=fs:=by unfold Program.fieldsOf;rw [hT]
   show (Op.equalIn (m+1+1) T (.agg cx.toArray) (.agg cy.toArray)).run E.P w=_;rw [run_equalIn_struct w (m+1) T cx.toArray cy.toArray (by rw [hfs];exact hT) hp,hfs];have key:∀ (l:List Field) (r:Option Bool),w9.eqFs E (w9 E d) l xs ys=some r->(Op.eqFields (m+1) cx.toArray cy.toArray l).run E.P w=.ok (match r with | some c=>c | none=>true) w:=by
    intro l
    induction l with
    |
     nil=>
     intro r hr;simp only [w9.eqFs,Option.some.injEq] at hr;subst hr;simp [Op.eqFields]
    |
     cons f l ih=>
     intro r hr;simp only [w9.eqFs] at hr;split at hr<;>try cases hr
     rename_i n0 hnm hsz heag;split at hr<;>try cases hr
     rename_i x1 mx x2 y1 my y2 hsx hsy;split at hr<;>try cases hr
     rename_i q r' hq hr';obtain ⟨c1,c2,c3,rfl,hl1,hl2,_,hc2,_⟩:=g0e hE hsx hx;obtain ⟨d1,d2,d3,rfl,hm1,hm2,_,hd2,_⟩:=g0e hE hsy hy;have hagf:∃ ag,p9 E f.type=some ag/\(ag=false->n0=1):=by
      unfold w9.eqAg at heag;rw [hsz] at heag;split at heag
      ·rename_i h _;exact ⟨true,h,by simp⟩
      ·rename_i h h2;exact ⟨false,h,fun _=>by simpa using h2⟩
      ·cases heag
     obtain ⟨agf,hagf,hag1⟩:=hagf;have p1:=u04 (c1:=c1) (c3:=c3) hagf hsz hag1 hl2 w;have p2:=u04 (c1:=d1) (c3:=d3) hagf hsz hag1 hm2 w;rw [hl1] at p1;rw [hm1] at p2;have p3:=q0z hE d f.type mx my q hq c2 d2 hc2 hd2 (m+1) agf w hagf (by omega);have p4:=ih r' hr';have hnm:f.name≠ "_":=by simpa using hnm
     simp only [Op.eqFields,if_pos hnm,ne_eq,not_false_eq_true,Sem.run_bind,p1,Result.andThen_ok,p2,p3];cases q with
     |false=>cases r'<;>simp [m0M]
     |
      true=>
      simp only [Bool.not_true,Bool.false_eq_true,if_false];rw [p4];cases r'<;>simp [m0M]
   split at h<;>try cases h
   ·rename_i c hc;rw [key _ _ hc]
   ·rename_i hc;rw [key _ _ hc]
  ·rename_i e hT;have hag2:ag=true:=by unfold p9 at hag;rw [hT] at hag;simpa using hag.symm
   subst hag2;split at h<;>try cases h
   rename_i k hk;split at h<;>try cases h
   rename_i l r hs hlx hly;obtain ⟨h1,h2⟩:=l0e hE _ _ _ _ cx hlx hx;obtain ⟨h3,h4⟩:=l0e hE _ _ _ _ cy hly hy;obtain ⟨as,bs,rfl,rfl,e1,e2,e3,e4⟩:=s0F hE h h1 h3;have hs2:(E.P.info? e).map (·.size)=some 1:=by
    unfold R5 at hs;split at hs
    ·rename_i i hi;rw [hi];simpa using hs
    ·cases hs
   match as,bs,e1.trans h2,e2.trans h4 with
   |
    [a0,a1,a2,a3],[b0,b1,b2,b3],_,_=>
    rw [e4];exact C0j E.P m T e k hT hk hs2 a0 a1 a2 a3 b0 b1 b2 b3 w
theorem y05 (hE:Q1 E) {T:Nat} {op:BinOp} {pos:Bool} (ho:isEq op=some pos) {a b:V E.D} {ua ub:Value} (ha:VS E ρ n H S a ua) (hb:VS E ρ n H S b ub) :
  o4 (eqV E T pos a b) (fun v=>∃ u,VS E ρ n H S v u/\∀ w':World,(binOp op T ua ub).run E.P w'=.ok u w'/\s8 E op T ua ub):=by
 obtain ⟨k1,k2,k3,k4⟩:=i0Z (E:=E) (T:=T);unfold eqV;split
 ·rename_i hk;have hT:=k1 hk;split<;>simp only [o4]
  rename_i x y hx hy;obtain rfl:=P8 hx ha;obtain rfl:=P8 hy hb;exact ⟨_,VS.eqR,fun w'=>⟨b0F ho (by simp) (by simp) (by simp) (by simp) (B0n hT _ _ w'),s8.of (by simp [a0W])⟩⟩
 ·rename_i hk;obtain ⟨e,hT⟩:=k2 hk;exact E04 hT ho ha hb
 ·rename_i hk;obtain ⟨e,hT⟩:=k3 hk;split<;>simp only [o4]
  ·obtain rfl:=ha.b0n;obtain rfl:=hb.b0n;exact ⟨_,VS.Q6,fun w'=>⟨b0F ho (by simp) (by simp) (by simp) (by simp) (C08 hT w'),s8.of (by simp [a0W])⟩⟩
  ·rename_i t xs;intro hne;obtain rfl:=hb.b0n;obtain ⟨A',c,rfl,hsl⟩:=ha.f04;have hx:xs≠[]:=by rintro rfl;simp at hne
   obtain ⟨b,o,hA,_,_⟩:=hsl.2.1 hx;subst hA;have heq:∀ w':World,(Op.equal T (.slice (some ⟨b,o,none⟩) xs.length c) (.slice none 0 0)).run E.P w'=.ok false w':=fun w'=>by
    unfold Op.equal Op.maxDepth Op.equalIn;simp [run_underlying hT]
   exact ⟨_,VS.Q6,fun w'=>⟨b0F ho (by simp) (by simp) (by simp) (by simp) (heq w'),s8.of (by simp [a0W])⟩⟩
 ·rename_i hk;obtain ⟨e,hT⟩:=k4 hk;split<;>simp only [o4]
  obtain ⟨u',rfl,_⟩:=ha.n0H;obtain rfl:=hb.i0B;exact ⟨_,VS.Q6,fun w'=>⟨b0F ho (by simp) (by simp) (by simp) (by simp) (C0N hT _ _ w'),s8.of (by simp [a0W])⟩⟩
 ·split<;>try trivial
  rename_i hg;simp only [and_eq_true,Bool.not_eq_true'] at hg;obtain ⟨⟨⟨hag,hbg⟩,hm⟩,hfg⟩:=hg;split<;>try trivial
  rename_i r hr;have fl:∀ {v:V E.D} {u:Value},C4 v=true->VS E ρ n H S v u->∃ c,N0 E ρ n H S (H6 v) c/\u=.agg c.toArray:=by
   rintro v u hv ⟨c,hc,rfl⟩
   refine ⟨c,?_,by unfold vl;rw [hv];rfl⟩;cases v<;>first | exact N0.one hc | (unfold VC at hc;exact hc)
  obtain ⟨ca,hca,rfl⟩:=fl hag ha;obtain ⟨cb,hcb,rfl⟩:=fl hbg hb;have hfl:p9 E T=some true:=by
   unfold q0B at hfg;split at hfg
   ·rename_i b hb;rw [hb,hfg]
   ·cases hfg
  have heq:∀ w':World,(Op.equal T (.agg ca.toArray) (.agg cb.toArray)).run E.P w'=.ok r w':=fun w'=>by
   unfold Op.equal Op.maxDepth;exact q0z hE 50 T _ _ r hr ca cb hca hcb 10000 true w' hfl (by omega)
  refine ⟨_,VS.eqR,fun w'=>⟨b0F ho (by simp) (by simp) (by simp) (by simp) (heq w'),fun x y w2=>run_eqGuard_agg (P:=E.P) w2 op T x y ca.toArray cb.toArray hm⟩⟩
theorem D0V (hE:Q1 E) {T:Nat} {op:BinOp} {a b:V E.D} {ua ub:Value} (ha:VS E ρ n H S a ua) (hb:VS E ρ n H S b ub) :
  o4 (m0H E op T a b) (fun v=>∃ u,VS E ρ n H S v u/\∀ w':World,(binOp op T ua ub).run E.P w'=.ok u w'/\s8 E op T ua ub):=by
 unfold m0H;split
 ·rename_i k x k' y hx hy;obtain rfl:=r9 hx ha;obtain rfl:=r9 hy hb;split
  ·rename_i hs;exact (E0j (fun m hm=>k0m hy hm) hs T).mono fun v ⟨u,h1,h2⟩=>⟨u,h1,fun w'=>⟨h2 w',s8.of (by simp [a0W])⟩⟩
  ·rename_i hs;split
   ·rename_i hk;have hk:=of_decide_eq_true hk;subst hk;exact (E0Q (fun m hm=>k0m hy hm) hs T).mono fun v ⟨u,h1,h2⟩=>⟨u,h1,fun w'=>⟨h2 w',s8.of (by simp [a0W])⟩⟩
   ·trivial
 ·split
  ·rename_i pos ho;exact y05 hE ho ha hb
  ·trivial
theorem D0o {op:UnOp} {a:V E.D} {ua:Value} (ha:VS E ρ n H S a ua) :
  o4 (unV op a) (fun v=>∃ u,VS E ρ n H S v u/\∀ w':World,(Op.unary op ua).run E.P w'=.ok u w'):=by
 unfold unV;split
 ·split<;>simp only [o4]
  ·rename_i b;obtain rfl:=P8 (x:=b) rfl ha;exact ⟨_,VS.kb,fun w'=>by simp [Op.unary]⟩
  ·rename_i x;obtain rfl:=P8 (x:=x) rfl ha;exact ⟨_,VS.dB,fun w'=>by simp [Op.unary]⟩
 ·split<;>simp only [o4]
  rename_i k x hx;obtain rfl:=r9 hx ha;exact ⟨_,VS.dI,fun w'=>by simp [Op.unary,Op.intArith]⟩
 ·split<;>simp only [o4]
  rename_i k x hx;obtain rfl:=r9 hx ha;exact ⟨_,VS.dI,fun w'=>by simp [Op.unary,Op.intBits,i0u]⟩
 ·trivial
section
variable {E:Env} {A:O4} {s:St E.D} {ρ:Nat->Value} {S:D0} {a:Act} {as:List Act} {w:World}
theorem j0K (b o m:Nat):(⟨b,o,none⟩:Addr).add m=⟨b,o+m,none⟩:=by
 unfold Addr.add;split
 ·rename_i h;subst h;rfl
 ·rfl
theorem l0o (p q:List P6):M4 (p++q)=M4 p+M4 q:=by
 induction p with
 |nil=>simp [M4]
 |
  cons x p ih=>
  rcases x with ⟨j,o⟩ | ⟨i,z,m⟩<;>simp [M4,ih,add_assoc]
theorem m0T (p q:List P6):e8 (p++q)↔e8 p/\e8 q:=by
 induction p with
 |nil=>simp [e8]
 |
  cons x p ih=>
  rcases x with ⟨j,o⟩ | ⟨i,z,m⟩<;>simp [e8,ih,and_assoc]
theorem l0W:∀ {ts:List U} {h:HL E.D ts} {j:Nat} {t:U} {y:Den E.D t},N5 ts h j=some ⟨t,y⟩->∀ (H:K0) (S:D0) (cs:List Value),(a0r E ts).R H S cs h->
  ∃ c1 c2 c3,cs=c1++(c2++c3)/\c1.length=b0A E ts j/\(J0 E t).R H S c2 y
 |[],_,_,_,_,h=>by simp [N5] at h
 |
  t' :: ts,hh,0,t,y,h=>by
  intro H S cs hr;simp only [N5,Option.some.injEq,Sigma.mk.injEq] at h;obtain ⟨rfl,h⟩:=h;have h:=eq_of_heq h;subst h;obtain ⟨c1,c2,rfl,h1,h2⟩:=hr;exact ⟨[],c1,c2,by simp,rfl,h1⟩
 |
  t' :: ts,hh,j+1,t,y,h=>by
  intro H S cs hr;simp only [N5] at h;obtain ⟨c1,c2,rfl,h1,h2⟩:=hr;obtain ⟨d1,d2,d3,rfl,hl,hy⟩:=l0W h _ _ _ h2;exact ⟨c1++d1,d2,d3,by simp,by rw [length_append,(J0 E t').len h1,hl];rfl,hy⟩
theorem Y9 {t:U} {xs:List (Den E.D t)} {i:Int} (h0:0<=i) (h1:i<xs.length):xs[i.toNat]?=some (U6 E t xs i):=by
 unfold U6;exact @i0e _ ⟨dfl E t⟩ _ _ (by simp [B0,h0,h1])
theorem j0x (hE:Q1 E):∀ {p:List P6} {t:U} {x:Den E.D t} {u:U} {y:Den E.D u},d0j E t x p=some ⟨u,y⟩->e8 p->∀ (H:K0) (S:D0) (cs:List Value),(J0 E t).R H S cs x->
  ∃ c1 c2 c3,cs=c1++(c2++c3)/\c1.length=M4 p/\(J0 E u).R H S c2 y
 |
  [],t,x,u,y,h,_=>by
  intro H S cs hr;simp only [d0j,Option.some.injEq,Sigma.mk.injEq] at h;obtain ⟨rfl,h⟩:=h;have h:=eq_of_heq h;subst h;exact ⟨[],cs,[],by simp,rfl,hr⟩
 |
  .inl (j,o) :: p,t,x,u,y,h,hp=>by
  intro H S cs hr;cases t<;>simp only [d0j] at h<;>try cases h
  rename_i i;split at h
  ·rename_i ho;rw [beq_eq] at ho;split at h
   ·rename_i u' y' hg;obtain ⟨c1,c2,c3,rfl,hl,hy⟩:=l0W hg _ _ _ ((hE.st i H S cs x).1 hr);obtain ⟨d1,d2,d3,rfl,hl2,hy2⟩:=j0x hE h hp _ _ _ hy;exact ⟨c1++d1,d2,d3++c3,by simp,by rw [length_append,hl,ho,hl2];rfl,hy2⟩
   ·cases h
  ·cases h
 |
  .inr (i,z,m) :: p,t,x,u,y,h,hp=>by
  intro H S cs hr;cases t<;>simp only [d0j] at h<;>try cases h
  rename_i m' t';split at h
  ·rename_i hz;rw [and_eq_true,beq_eq,beq_eq] at hz;obtain ⟨hz,rfl⟩:=hz;obtain ⟨hi,hp⟩:=hp;obtain ⟨hlen,hels⟩:=hr;have hsz:(J0 E t').sz=z:=hz;have hget:=Y9 (E:=E) (t:=t') (xs:=x) hi.1 (by rw [hlen];exact hi.2);have hy:=hels.2 i.toNat _ hget;obtain ⟨d1,d2,d3,hd,hl2,hy2⟩:=j0x hE h hp _ _ _ hy;refine ⟨cs.take (i.toNat*z)++d1,d2,d3++(cs.drop (i.toNat*z)).drop z,?_,?_,hy2⟩
   ·rw [hsz] at hd;have e1:cs=cs.take (i.toNat*z)++((cs.drop (i.toNat*z)).take z++(cs.drop (i.toNat*z)).drop z):=by rw [List.take_append_drop,List.take_append_drop]
    rw [hd] at e1
    conv=>lhs;rw [e1]
    simp
   ·have hcl:cs.length=m'*z:=by rw [hels.1,hlen,hsz]
    have hit:i.toNat<m':=by omega
    have:i.toNat*z<=m'*z:=Nat.mul_le_mul_right _ (Nat.le_of_lt hit);rw [length_append,List.length_take,hl2,hcl,Nat.min_eq_left this];rfl
  ·cases h
theorem E0k {t:U} (h:Y8 t=false):(J0 E t).sz=1:=by cases t<;>first | rfl | cases h
theorem VC.k0I {n:Nat} {H:K0} {v:V E.D} {c:List Value} (hE:Q1 E) (h:VC E ρ n H S v c) (ha:C4 v=false):c.length=1:=by
 have:=h.len hE (by rintro l rfl;cases ha);rw [this];cases v<;>first | rfl | skip
 rename_i t x;exact E0k ha
theorem q0w {n:Nat} {H:K0} {v:V E.D} {c:List Value} {ag:Bool} (ha:C4 v=ag):vl v c=H4 ag c:=by subst ha;rfl
theorem j0J {n:Nat} {H:K0} {t:U} {x:Den E.D t} {c:List Value} (h:VC E ρ n H S (.d t x) c):VC E ρ n H S (ofD t x) c:=by
 cases t<;>exact h
theorem k0o {t:U} {x:Den E.D t}:C4 (ofD (D:=E.D) t x)=Y8 t:=by cases t<;>rfl
theorem u0l {T b o n:Nat} {ag:Bool} (hag:p9 E T=some ag) (hsz:R5 E T=some n) {c:List Value} (hl:c.length=n) (h1:ag=false->n=1) {w:World} (hc:∀ j v,c[j]?=some v->U2 w.heap b (o+j)=some v) :
  (loadVar T ⟨b,o,none⟩).run E.P w=.ok (H4 ag c) w:=by
 have e1:=n07 hag w;have e2:=d0l hsz w;cases ag with
 |
  true=>
  have e3:=l02 (P:=E.P) ⟨b,o,none⟩ w c 0 #[] (fun j v hj=>by rw [b0a,Nat.zero_add];exact hc j v hj);rw [hl] at e3;simp [loadVar,e1,e2,loadCells,e3,H4]
 |
  false=>
  have hn:=h1 rfl
  match c,hl.trans hn with
  |
   [z],_=>
   have h2:=hc 0 z rfl;have h3:w.cell? ⟨b,o,none⟩=some z:=by rw [h0f];simpa using h2
   simp [loadVar,e1,load,Sem.run,h3,H4]
theorem r0R {H:K0} {b T:Nat} {cs:List Value} (h:H[b]?=some (.cells cs.toArray T (0,0))) {c1 c2 c3:List Value} (e:cs=c1++(c2++c3)) {o:Nat} (ho:c1.length=o) (j:Nat) (v:Value) (hj:c2[j]?=some v):U2 H b (o+j)=some v:=by
 unfold U2;rw [h];subst ho;have hlt:j<c2.length:=(List.getElem?_eq_some_iff.1 hj).1;simp only [e];rw [List.getElem?_toArray,List.getElem?_append_right (by omega),Nat.add_sub_cancel_left,List.getElem?_append_left hlt];exact hj
theorem Rp.q0C (h:Rp E A s ρ S a as w) {id:Nat} {l:List (V E.D)} (hb:j0F E s id=some l) {b:Nat} (hr:hd (ρ id)=.pointer (some ⟨b,0,none⟩)) :
  ∃ cs,N0 E ρ s.nid w.heap S l cs/\(∀ u∈cs,u.oneCell'=true)/\∃ T,∀ w',K8 E s S w (fun k=>P1 (E0 s id)=true/\D1 (hd (ρ id))=some k) w'->w'.heap[b]?=some (.cells cs.toArray T (0,0)):=by
 have ht:=h.th id;unfold j0F at hb;split at hb
 ·rename_i T l' hl;simp at hb;subst hb;rw [hl] at ht ⊢;obtain ⟨b',cs,hv,h1,h2,h3⟩:=ht;rw [hv] at hr;simp [hd] at hr;subst hr;exact ⟨cs,h2,h3,T,fun w' hw=>(hw.2 b' ⟨rfl,by rw [hv];rfl⟩ (getElem?_lt h1)).trans h1⟩
 ·rename_i T l' hl;simp at hb;subst hb;rw [hl] at ht ⊢;obtain ⟨b',cs,hv,h1,h2,h3,h4⟩:=ht;rw [hv] at hr;simp [hd] at hr;subst hr;refine ⟨cs,h2,h3,T,fun w' hw=>?_⟩;obtain ⟨S',k⟩:=hw.1;exact (k.blk b' (getElem?_lt h1) h4).2.trans h1
 ·cases hb
theorem Row.cell {H:K0} {e sz n b o m c:Nat} {cs:List Value} (h:Row H e sz (.slice (some ⟨b,o,none⟩) m c) n cs) (hm:0<m):m=n/\b<H.size/\D1 (.slice (some ⟨b,o,none⟩) m c)=some b/\∀ (H':K0),H'[b]?=H[b]?->∀ j,j<n*sz->U2 H' b (o+j)=cs[j]?:=by
 obtain ⟨hcl,hrow⟩:=h;rcases hrow with ⟨_,a,hv⟩ | ⟨g,cap,cur,hv,hp,hg,hnc,hmx,hsz,htk⟩
 ·simp at hv;omega
 ·simp at hv;obtain ⟨⟨e1,e2⟩,e3,e4⟩:=hv;subst e1;subst e2;subst e3;subst e4;refine ⟨rfl,getElem?_lt hg,e0I hp,fun H' hH j hj=>?_⟩;unfold U2;rw [hH,hg];simp only;rw [<-htk,List.getElem?_take_of_lt hj,Nat.zero_add];simp
theorem S5.el {H:K0} {e b o m c:Nat} {t:U} {xs:List (Den E.D t)} (h:S5 E H S e t xs (.slice (some ⟨b,o,none⟩) m c)) :
  xs.length=m/\∀ i:Int,0<=i->i<m->(b<H.size/\D1 (.slice (some ⟨b,o,none⟩) m c)=some b)/\∃ cs,(J0 E t).R H S cs (U6 E t xs i)/\∀ H':K0,H'[b]?=H[b]?->∀ j v,cs[j]?=some v->U2 H' b (o+i.toNat*X2 E t+j)=some v:=by
 obtain ⟨cs,hrow,hels⟩:=h;obtain ⟨rfl,_⟩:=hrow.cap;refine ⟨rfl,fun i h0 h1=>?_⟩;obtain ⟨_,hb,hob,hc⟩:=Row.cell hrow (by omega);refine ⟨⟨hb,hob⟩,_,hels.2 i.toNat _ (Y9 h0 h1),fun H' hH j v hj=>?_⟩;have hjs:j<(J0 E t).sz:=by
  rcases Nat.lt_or_ge j (J0 E t).sz with h | h
  ·exact h
  ·rw [List.getElem?_eq_none (by simp;omega)] at hj;cases hj
 rw [List.getElem?_take_of_lt hjs,List.getElem?_drop] at hj;have hit:i.toNat<xs.length:=by omega
 have hle:i.toNat*(J0 E t).sz+(J0 E t).sz<=xs.length*(J0 E t).sz:=by rw [<-Nat.succ_mul];exact Nat.mul_le_mul_right _ hit
 have e:X2 E t=(J0 E t).sz:=rfl;rw [e,add_assoc,hc H' hH _ (by omega)];exact hj
theorem S5.form {H:K0} {e:Nat} {t:U} {xs:List (Den E.D t)} {v:Value} (h:S5 E H S e t xs v):∃ A' c,v=.slice A' xs.length c:=by
 obtain ⟨cs,hrow,_⟩:=h;exact Row.form hrow
theorem Rp.h0a (h:Rp E A s ρ S a as w) {id q f:Nat} {i:Int} {u:U} {ys:List (Den E.D u)} (hl:E0 s id=.rof q i f) (hv:a09 E s q i f=some ⟨u,ys⟩) :
  P1 (E0 s q)=true/\hd (ρ id)=ρ id/\(∃ e,S5 E w.heap S e u ys (ρ id))/\∀ b,D1 (ρ id)=some b->Bk (ρ q) b/\D1 (hd (ρ q))≠some b:=by
 unfold a09 at hv;split at hv<;>try cases hv
 rename_i e F t xs hq;have ht:=h.th q;rw [hq] at ht;obtain ⟨cs,ht⟩:=ht;have hr:=h.th id;rw [hl] at hr;obtain ⟨b,o,m,c,h1,h2,h3,h4⟩:=h.rf id q i f hl e F t xs hq;have hrow:=ht.row;rw [h1] at hrow;obtain ⟨rfl,hb,hob,hc⟩:=Row.cell hrow (by omega);have hget:=Y9 (E:=E) (t:=t) (xs:=xs) h2.1 h2.2;obtain ⟨r,h5,h6⟩:=ht.rows i.toNat _ f u ys _ hget hv (List.getElem?_eq_getElem h3) (by simp);have hlt:rowAt F i.toNat f<xs.length*(J0 E t).sz:=by rw [<-ht.row.1];exact (List.getElem?_eq_some_iff.1 h5).1
 have:=hc w.heap rfl _ hlt;rw [h5] at this;have h4:U2 w.heap b (o+rowAt F i.toNat f)=some (ρ id):=h4;rw [h4] at this;obtain rfl:=Option.some.inj this;have h8:=d0I (o:=none) h3 (by simp) h5 (by simp);rw [<-ht.tl] at h8;refine ⟨by rw [hq];rfl,hr.2.2,⟨_,h6⟩,fun k hk=>⟨Bk.tl (List.mem_of_getElem? h8) hk,fun hk2=>?_⟩⟩;exact ht.ap 0 (rowAt F i.toNat f+1) (hd (ρ q)) (ρ id) (by omega) rfl (by simpa using h8) k hk2 hk
theorem Rp.o0Z (h:Rp E A s ρ S a as w) {id:Nat} {t:U} {xs:List (Den E.D t)} (hx:b0I E s (.sl id)=some ⟨t,xs⟩) :
  (∃ e,S5 E w.heap S e t xs (hd (ρ id))/\∀ z i q,d0Z s (.pe id i z q)=true)\/∃ A' c,hd (ρ id)=.slice A' xs.length c/\Sl (J0 E t) w.heap S A' c xs:=by
 have ht:=h.th id;unfold b0I at hx;simp only at hx;split at hx<;>try cases hx
 ·rename_i e hl;rw [hl] at ht;obtain ⟨cs,hrow,hels⟩:=ht;obtain ⟨_,_,e2⟩:=Row.form hrow;rw [e2] at hrow;exact .inl ⟨e,⟨cs,by rw [e2];exact hrow,hels⟩,fun _ _ _=>by simp only [d0Z];rw [hl];rfl⟩
 ·rename_i hl;rw [hl] at ht;obtain ⟨A',c,hv,hsl⟩:=ht;exact .inr ⟨A',c,hv,hsl⟩
 ·rename_i q i f hl;obtain ⟨_,h2,⟨e,h3⟩,_⟩:=h.h0a hl hx;exact .inl ⟨e,by rw [h2];exact h3,fun _ _ _=>by simp only [d0Z];rw [hl]⟩
theorem Rp.z02 (h:Rp E A s ρ S a as w) {v:V E.D} {u:Value} (hv:VS E ρ s.nid w.heap S v u) {t:U} {xs:List (Den E.D t)} (hx:g0W E s v=some ⟨t,xs⟩):∃ A' c,u=.slice A' xs.length c:=by
 have main:b0I E s v=some ⟨t,xs⟩->∃ A' c,u=.slice A' xs.length c:=by
  intro hx;have hx0:=hx;unfold b0I at hx;split at hx
  ·cases hx;obtain ⟨A',c,h1,_⟩:=hv.f04;exact ⟨A',c,h1⟩
  ·rename_i id _;obtain ⟨_,rfl⟩:=hv.X9;rcases h.o0Z hx0 with ⟨e,h1,_⟩ | ⟨A',c,h1,_⟩
   ·exact h1.form
   ·exact ⟨A',c,h1⟩
  ·cases hx
 unfold g0W at hx;split at hx
 ·rename_i id;split at hx
  ·rename_i hl;cases hx;obtain ⟨_,rfl⟩:=hv.X9;have ht:=h.th id;rw [hl] at ht;obtain ⟨cs,ht⟩:=ht;exact Row.form ht.row
  ·exact main hx
 ·exact main hx
theorem Rp.elC (h:Rp E A s ρ S a as w) {id:Nat} {t:U} {xs:List (Den E.D t)} (hx:b0I E s (.sl id)=some ⟨t,xs⟩) {b o m c:Nat} (hr:hd (ρ id)=.slice (some ⟨b,o,none⟩) m c) :
  xs.length=m/\∀ i:Int,0<=i->i<m->∃ cs,(J0 E t).R w.heap S cs (U6 E t xs i)/\∀ w' z k q,K8 E s S w (i0S s ρ (.pe id k z q)) w'->∀ j v,cs[j]?=some v->U2 w'.heap b (o+i.toNat*X2 E t+j)=some v:=by
 rcases h.o0Z hx with ⟨e,h1,h2⟩ | ⟨A',c',hv,hsl⟩
 ·rw [hr] at h1;obtain ⟨h3,h5⟩:=h1.el;refine ⟨h3,fun i h6 h7=>?_⟩;obtain ⟨⟨h4,hob⟩,cs,h8,h9⟩:=h5 i h6 h7;exact ⟨cs,h8,fun w' z k q hw=>h9 w'.heap (hw.2 b ⟨h2 z k q,fun q' hq'=>by rw [D01 hq',hr];exact hob⟩ h4)⟩
 ·rw [hr] at hv;simp at hv;obtain ⟨rfl,rfl,rfl⟩:=hv;refine ⟨rfl,fun i h0 h1=>?_⟩;obtain ⟨b',o',cs,hA,hR,hc⟩:=hsl.2.2 i.toNat _ (Y9 h0 h1);simp at hA;obtain ⟨rfl,rfl⟩:=hA;refine ⟨cs,hR,fun w' z k2 q hw j v hj=>?_⟩;obtain ⟨S',k⟩:=hw.1;have hne:xs≠[]:=by rintro rfl;simp at h1;omega
  obtain ⟨b2,o2,hA2,hlt,hns⟩:=hsl.2.1 hne;simp at hA2;obtain ⟨rfl,rfl⟩:=hA2;rw [f0O (k.blk b hlt hns).2];exact hc j v hj
def O3 (E:Env) (s:St E.D) (ρ:Nat->Value) (S:D0) (w:World) (own:Nat->Prop) (f:Sem Value) (v:V E.D):Prop:=∃ u,VS E ρ s.nid w.heap S v u/\∀ w',K8 E s S w own w'->f.run E.P w'=.ok u w'
theorem u0G (hE:Q1 E) (h:Rp E A s ρ S a as w) {T:Nat} {p:V E.D} {up:Value} (hp:VS E ρ s.nid w.heap S p up) :
  o4 (j0Z E s T p) (O3 E s ρ S w (i0S s ρ p) (Instr.loadAt T up)):=by
 unfold j0Z;split<;>try trivial
 rename_i ag m hag hsz;have fin:∀ {v:V E.D} {c:List Value} {b o:Nat} {own:Nat->Prop},VC E ρ s.nid w.heap S v c->C4 v=ag->c.length=m->up=.pointer (some ⟨b,o,none⟩)->(∀ w',K8 E s S w own w'->∀ j u,c[j]?=some u->U2 w'.heap b (o+j)=some u)->O3 E s ρ S w own (Instr.loadAt T up) v:=by
  intro v c b o own hv ha hl hu hc;refine ⟨vl v c,⟨c,hv,rfl⟩,fun w' hw=>?_⟩;have h1:ag=false->m=1:=fun e=>by rw [<-hl];exact hv.k0I hE (by rw [ha,e])
  have:=u0l hag hsz hl h1 (hc w' hw);rw [<-q0w (n:=s.nid) (H:=w.heap) ha] at this;subst hu;simp [Instr.loadAt,Instr.sureAddr,this]
 have fin2:∀ {u:U} {y:Den E.D u} {c:List Value} {b o:Nat} {own:Nat->Prop},((Y8 u==ag)&&(X2 E u==m))=true->(J0 E u).R w.heap S c y->up=.pointer (some ⟨b,o,none⟩)->(∀ w',K8 E s S w own w'->∀ j u,c[j]?=some u->U2 w'.heap b (o+j)=some u)->O3 E s ρ S w own (Instr.loadAt T up) (ofD u y):=by
  intro u y c b o own hk hv hu hc;simp only [and_eq_true,beq_iff_eq] at hk;exact fin (j0J (show VC E ρ s.nid w.heap S (.d u y) c from hv)) (by rw [k0o];exact hk.1) (by rw [(J0 E u).len hv];exact hk.2) hu hc
 split
 ·rename_i id off;obtain ⟨_,_,b,hr,hu⟩:=hp.b0l;simp only [M4,Nat.add_zero] at hu;split<;>try trivial
  rename_i cs hb;obtain ⟨cc,hcs,h1,T',hw'⟩:=h.q0C hb hr;split<;>try trivial
  rename_i x1 m1 x2 hsg;obtain ⟨c1,c2,c3,e,hl1,hl2,_,hm,_⟩:=g0e hE hsg hcs;have hcell:∀ w',K8 E s S w (i0S s ρ (.pb id off [])) w'->∀ j u,c2[j]?=some u->U2 w'.heap b (off+j)=some u:=fun w' hw j u hj=>r0R (hw' w' (hw.e0z fun _=>pbK)) e hl1 j u hj;split<;>try trivial
  ·rename_i t x ha;obtain ⟨hv,hi⟩:=f0Y hE ha hm;exact fin (j0J hv) (by rw [k0o];exact hi) hl2 hu hcell
  ·rename_i v _ ha;obtain ⟨hv,hi⟩:=f0Y hE ha hm;exact fin hv hi hl2 hu hcell
 ·rename_i id off i q;obtain ⟨_,hok,b,hr,hu⟩:=hp.b0l;split<;>try trivial
  rename_i cs hb;obtain ⟨cc,hcs,h1,T',hw'⟩:=h.q0C hb hr;split<;>try trivial
  rename_i x1 k t x x2 hct;obtain ⟨c1,c2,e,hl1,_,hb2⟩:=b0g hE _ _ _ _ _ hct cc hcs;unfold N0 at hb2;obtain ⟨d1,d2,rfl,hd,_⟩:=hb2;split<;>try trivial
  rename_i u y hg;obtain ⟨e1,e2,e3,hd1,hle,hy⟩:=j0x hE hg hok _ _ _ hd;split<;>try trivial
  rename_i hk;refine fin2 hk hy hu fun w' hw j u hj=>?_;refine r0R (c1:=c1++e1) (c2:=e2) (c3:=e3++d2) (hw' w' (hw.e0z fun _=>pbK)) (by rw [e,hd1];simp) (by rw [length_append,hl1,hle]) j u hj
 ·rename_i id i z q;obtain ⟨_,hok,b,o,mm,c,hr,⟨h0,h1⟩,hu⟩:=hp.c05;split<;>try trivial
  rename_i t xs hx;obtain ⟨hl,hel⟩:=h.elC hx hr;obtain ⟨cs,hR,hc⟩:=hel i h0 h1;split<;>try trivial
  rename_i u y hg;obtain ⟨e1,e2,e3,hd1,hle,hy⟩:=j0x hE hg hok _ _ _ hR;split<;>try trivial
  rename_i hk;rw [and_eq_true,beq_eq] at hk;obtain ⟨hk,rfl⟩:=hk;refine fin2 hk hy hu fun w' hw j u hj=>?_;have hlt:j<e2.length:=(List.getElem?_eq_some_iff.1 hj).1;have:=hc w' _ _ _ hw (e1.length+j) u (by rw [hd1,List.getElem?_append_right (by omega),Nat.add_sub_cancel_left,List.getElem?_append_left hlt];exact hj);rw [hle] at this
  rwa [show o+i.toNat*X2 E t+M4 q+j=o+i.toNat*X2 E t+(M4 q+j) from by omega]
 ·rename_i t x;obtain ⟨b,o,cs,hu,hlt,hns,hR,hc⟩:=hp.f0b;split<;>try trivial
  rename_i hk;refine fin2 hk hR hu fun w' hw j u hj=>?_;obtain ⟨S',k⟩:=hw.1;rw [f0O (k.blk b hlt hns).2];exact hc j u hj
 ·trivial
theorem O3.pure {own:Nat->Prop} {f:Sem Value} {v:V E.D} {u:Value} (hv:VS E ρ s.nid w.heap S v u) (hf:∀ w',f.run E.P w'=.ok u w'):O3 E s ρ S w own f v:=⟨u,hv,fun w' _=>hf w'⟩
theorem VS.pb {n:Nat} {H:K0} {id off b:Nat} {p:List P6} (h1:id<n) (h2:e8 p) (h3:hd (ρ id)=.pointer (some ⟨b,0,none⟩)):VS E ρ n H S (.pb id off p:V E.D) (.pointer (some ⟨b,off+M4 p,none⟩)):=
 VS.of rfl (by unfold VC;exact ⟨h1,h2,b,h3,rfl⟩)
theorem VS.pe {n:Nat} {H:K0} {id z b o m c:Nat} {i:Int} {p:List P6} (h1:id<n) (h2:e8 p) (h3:hd (ρ id)=.slice (some ⟨b,o,none⟩) m c) (h4:0<=i/\i<m):VS E ρ n H S (.pe id i z p:V E.D) (.pointer (some ⟨b,o+i.toNat*z+M4 p,none⟩)):=
 VS.of rfl (by unfold VC;exact ⟨h1,h2,b,o,m,c,h3,h4,rfl⟩)
theorem w0g (hE:Q1 E) (_h:Rp E A s ρ S a as w) {T f:Nat} {p:V E.D} {up:Value} (hp:VS E ρ s.nid w.heap S p up) :
  o4 (m0P E s T p f) (O3 E s ρ S w (fun _=>False) (Instr.fieldAt T up f)):=by
 unfold m0P;split<;>try trivial
 rename_i o ho;have run:∀ (b q:Nat) (w':World),up=.pointer (some ⟨b,q,none⟩)->(Instr.fieldAt T up f).run E.P w'=.ok (.pointer (some ⟨b,q+o,none⟩)) w':=by
  intro b q w' hu;subst hu;unfold q0n at ho;split at ho<;>try cases ho
  rename_i l hl;split at ho<;>try cases ho
  rename_i x hx;split at ho<;>try cases ho
  rename_i m hm;have:=d0l hm w';simp [Instr.fieldAt,run_underlying hl,hx,Instr.sureAddr,fieldPlace,this,j0K]
 split
 ·rename_i id off;obtain ⟨h1,h2,b,hr,hu⟩:=hp.b0l;refine O3.pure (VS.pb (off:=off+o) h1 (p:=[]) trivial hr) fun w'=>?_;rw [run b _ w' hu];simp [M4]
 ·rename_i id off q _;obtain ⟨h1,h2,b,hr,hu⟩:=hp.b0l;refine O3.pure (VS.pb (off:=off) h1 (p:=q++[.inl (f,o)]) ((m0T _ _).2 ⟨h2,(show e8 [.inl (f,o)] from trivial)⟩) hr) fun w'=>?_;rw [run b _ w' hu,l0o];simp [M4,add_assoc]
 ·rename_i id i z q;obtain ⟨h1,h2,b,o',m,c,hr,h4,hu⟩:=hp.c05;split<;>try trivial
  split<;>try trivial
  split<;>try trivial
  refine O3.pure (VS.pe h1 (p:=q++[.inl (f,o)]) ((m0T _ _).2 ⟨h2,(show e8 [.inl (f,o)] from trivial)⟩) hr h4) fun w'=>?_;rw [run b _ w' hu,l0o];simp [M4,add_assoc]
 ·rename_i k x;obtain ⟨b,q,cs,hu,hlt,hns,hR,hc⟩:=hp.f0b;split<;>try trivial
  rename_i hb;rw [beq_eq] at hb;split<;>try trivial
  rename_i u y hg;obtain ⟨c1,c2,c3,e,hl,hy⟩:=l0W hg _ _ _ ((hE.st k w.heap S cs x).1 hR);refine O3.pure (VS.pd ⟨b,q+o,c2,rfl,hlt,hns,hy,fun j v hj=>?_⟩) fun w'=>run b q w' hu;have hlt:j<c2.length:=(List.getElem?_eq_some_iff.1 hj).1;have:=hc (c1.length+j) v (by rw [e,List.getElem?_append_right (by omega),Nat.add_sub_cancel_left,List.getElem?_append_left hlt];exact hj)
  rwa [hl,hb,show q+(o+j)=q+o+j from by omega] at this
 ·trivial
theorem VS.flat {n:Nat} {H:K0} {v:V E.D} {u:Value} (h:VS E ρ n H S v u):∃ c,N0 E ρ n H S (H6 v) c/\(C4 v=true->u=.agg c.toArray)/\(C4 v=false->u=c.headD Go.undef)/\VC E ρ n H S v c:=by
 obtain ⟨c,h1,rfl⟩:=h;refine ⟨c,?_,fun e=>by unfold vl;rw [e];rfl,fun e=>by unfold vl;rw [e];rfl,h1⟩;cases v<;>first | exact N0.one h1 | (unfold VC at h1;exact h1)
theorem w0N (hE:Q1 E) (_h:Rp E A s ρ S a as w) {T f:Nat} {v:V E.D} {uv:Value} (hv:VS E ρ s.nid w.heap S v uv) :
  o4 (n06 E T v f) (O3 E s ρ S w (fun _=>False) (Instr.field T uv f)):=by
 unfold n06;split<;>try trivial
 rename_i l hl;split<;>try trivial
 rename_i x hx;split<;>try trivial
 rename_i ag m hag hsz;split<;>try trivial
 rename_i hav;split<;>try trivial
 rename_i a1 m1 c1 hsg;obtain ⟨cc,hcs,hA1,_,hVC⟩:=hv.flat;obtain ⟨d1,d2,d3,e,hl1,hl2,_,hm,_⟩:=g0e hE hsg hcs;have fin:∀ {v':V E.D},VC E ρ s.nid w.heap S v' d2->C4 v'=ag->C4 v=true->O3 E s ρ S w (fun _=>False) (Instr.field T uv f) v':=by
  intro v' hv' ha hav;refine O3.pure ⟨d2,hv',rfl⟩ fun w'=>?_;rw [q0w (E:=E) (n:=s.nid) (H:=w.heap) ha];have e1:=n07 hag w';have e2:=d0l hsz w';rw [hA1 hav];cases ag with
  |
   true=>
   simp [Instr.field,run_underlying hl,hx,asAgg,part,e1,e2,H4,e];rw [<-hl1,<-hl2];simp
  |
   false=>
   have h1:=hv'.k0I hE ha
   match d2,h1 with
   |
    [z],_=>
    have:(d1++([z]++d3))[x.offset]?=some z:=by rw [<-hl1];simp
    simp [Instr.field,run_underlying hl,hx,asAgg,part,e1,H4,e];simp at this;rw [this];simp
 split<;>try trivial
 ·rename_i t y ha;obtain ⟨h3,hi⟩:=f0Y hE ha hm;exact fin (j0J h3) (by rw [k0o];exact hi) hav
 ·rename_i u _ ha;obtain ⟨h3,hi⟩:=f0Y hE ha hm;exact fin h3 hi hav
theorem e0q {e:Nat} {t:U} (h:a0N E e t=true) (w:World):(sizeOf e).run E.P w=.ok (X2 E t) w:=by
 unfold a0N at h;split at h
 ·rename_i n hn;rw [beq_eq] at h;subst h;exact d0l hn w
 ·cases h
theorem q0I {t:U} {H:K0} {A':Option Addr} {c:Nat} {xs:List (Den E.D t)} (h:Sl (J0 E t) H S A' c xs) {j:Int} (hj:B0 xs j=true) :
  ∃ b o,A'=some ⟨b,o,none⟩/\PtR (J0 E t) H S (.pointer (some ⟨b,o+j.toNat*X2 E t,none⟩)) (U6 E t xs j):=by
 obtain ⟨h0,h1⟩:=c0g hj;obtain ⟨b,o,cs,hA,hR,hc⟩:=h.2.2 j.toNat _ (Y9 h0 h1);have hne:xs≠[]:=by rintro rfl;simp at h1;omega
 obtain ⟨b2,o2,hA2,hlt,hns⟩:=h.2.1 hne;rw [hA] at hA2;simp at hA2;obtain ⟨rfl,rfl⟩:=hA2;exact ⟨b,o,hA,b,_,cs,rfl,hlt,hns,hR,hc⟩
theorem A0Q (hE:Q1 E) (h:Rp E A s ρ S a as w) {T:Nat} {p i:V E.D} {up ui:Value} (hp:VS E ρ s.nid w.heap S p up) (hi:VS E ρ s.nid w.heap S i ui) :
  o4 (m0G E s T p i) (O3 E s ρ S w (fun _=>False) (Instr.indexAt T up ui)):=by
 unfold m0G;split<;>try trivial
 rename_i k j hj;obtain rfl:=r9 hj hi;split<;>try trivial
 ·rename_i e hT;have run:∀ {b o m c z:Nat} (w':World),up=.slice (some ⟨b,o,none⟩) m c->(sizeOf e).run E.P w'=.ok z w'->0<=j->j<m->(Instr.indexAt T up (.int k j)).run E.P w'=.ok (.pointer (some ⟨b,o+j.toNat*z,none⟩)) w':=by
   intro b o m c z w' hu hz h0 h1;subst hu;simp [Instr.indexAt,asIntOf,run_underlying hT,hz,h0,h1,j0K]
  split
  ·rename_i t xs;split<;>try trivial
   rename_i hz;intro hin;obtain ⟨A',c,rfl,hsl⟩:=hp.f04;obtain ⟨b,o,rfl,hpt⟩:=q0I hsl hin;obtain ⟨h0,h1⟩:=c0g hin;exact O3.pure (VS.pd hpt) fun w'=>run w' rfl (e0q hz w') h0 (by omega)
  ·rename_i id;obtain ⟨hid,rfl⟩:=hp.X9;have ht:=h.th id;split<;>try trivial
   ·rename_i e' t xs hl;split<;>try trivial
    rename_i hz;intro hin;obtain ⟨h0,h1⟩:=c0g hin;rw [hl] at ht;obtain ⟨cs,⟨hcl,hrow⟩,hels⟩:=ht;rcases hrow with ⟨_,h3⟩ | ⟨g,cap,cur,hv,_⟩
    ·omega
    ·have hv:hd (ρ id)=_:=congrArg hd hv;have:=VS.pe (E:=E) (S:=S) (H:=w.heap) (z:=X2 E t) hid (p:=[]) trivial hv ⟨h0,h1⟩;exact O3.pure this fun w'=>by rw [run w' hv (e0q hz w') h0 h1];simp [M4]
   ·rename_i t xs hl;split<;>try trivial
    rename_i hz;intro hin;obtain ⟨h0,h1⟩:=c0g hin;rw [hl] at ht;obtain ⟨A',c,hv,hsl⟩:=ht;obtain ⟨b,o,rfl,hpt⟩:=q0I hsl hin;exact O3.pure (VS.pd hpt) fun w'=>run w' hv (e0q hz w') h0 h1
   ·rename_i e' F t xs o hl;split<;>try trivial
    rename_i hz;intro hin;obtain ⟨h0,h1⟩:=c0g hin;rw [hl] at ht;obtain ⟨cs,ht⟩:=ht;rcases ht.row.2 with ⟨_,h3⟩ | ⟨g,cap,cur,hv,_⟩
    ·omega
    ·have:=VS.pe (E:=E) (S:=S) (H:=w.heap) (z:=X2 E t) hid (p:=[]) trivial hv ⟨h0,h1⟩;exact O3.pure this fun w'=>by rw [run w' hv (e0q hz w') h0 h1];simp [M4]
   ·rename_i q k2 f hl;split<;>try trivial
    rename_i t xs hx;split<;>try trivial
    rename_i hz;intro hin;obtain ⟨h0,h1⟩:=c0g hin;obtain ⟨_,e1,⟨e2,cs,hrow,_⟩,_⟩:=h.h0a hl hx;rw [<-e1] at hrow;rcases hrow.2 with ⟨_,h3⟩ | ⟨g,cap,cur,hv,_⟩
    ·omega
    ·have:=VS.pe (E:=E) (S:=S) (H:=w.heap) (z:=X2 E t) hid (p:=[]) trivial hv ⟨h0,h1⟩;exact O3.pure this fun w'=>by rw [run w' hv (e0q hz w') h0 h1];simp [M4]
  ·trivial
 ·rename_i m e hT;have run:∀ {b o z:Nat} (w':World),up=.pointer (some ⟨b,o,none⟩)->(sizeOf e).run E.P w'=.ok z w'->0<=j->j<m->(Instr.indexAt T up (.int k j)).run E.P w'=.ok (.pointer (some ⟨b,o+j.toNat*z,none⟩)) w':=by
   intro b o z w' hu hz h0 h1;subst hu;simp [Instr.indexAt,Instr.sureAddr,asIntOf,run_underlying hT,hz,h0,h1,j0K]
  have out:∀ {v:V E.D},(0<=j->j<m->O3 E s ρ S w (fun _=>False) (Instr.indexAt T up (.int k j)) v)->
    o4 (f0i i j m v) (O3 E s ρ S w (fun _=>False) (Instr.indexAt T up (.int k j))):=by
   intro v hv;unfold f0i;split
   ·rename_i hl;unfold p04 at hl;split at hl
    ·rename_i m' hm;have:=k0m hj hm;subst this;simp only [and_eq_true,decide_eq_true_eq] at hl;exact hv hl.1 hl.2
    ·cases hl
   ·intro hb;simp only [and_eq_true,decide_eq_true_eq] at hb;exact hv hb.1 hb.2
  split
  ·rename_i id off;obtain ⟨h1,h2,b,hr,hu⟩:=hp.b0l;split
   ·rename_i m' hm;have hlit:=k0m hj hm;split<;>try trivial
    rename_i z hz;refine out fun h3 h4=>O3.pure (VS.pb (off:=off+m'.toNat*z) h1 (p:=[]) trivial hr) fun w'=>?_;rw [run w' hu (d0l hz w') h3 h4,hlit];simp [M4]
   ·split
    ·rename_i z hz;refine out fun h3 h4=>O3.pure (VS.pb (off:=off) h1 (p:=[.inr (j,z,m)]) ⟨⟨h3,h4⟩,trivial⟩ hr) fun w'=>?_;rw [run w' hu (d0l hz w') h3 h4];simp [M4]
    ·trivial
  ·rename_i id k2 z q;obtain ⟨h1,h2,b,o,mm,c,hr,h4,hu⟩:=hp.c05;split<;>try trivial
   split<;>try trivial
   split<;>try trivial
   rename_i hz;rw [and_eq_true] at hz;refine out fun h5 h6=>O3.pure (VS.pe h1 (p:=q++[.inr (j,_,m)]) ((m0T _ _).2 ⟨h2,(show e8 [.inr (j,_,m)] from ⟨⟨h5,h6⟩,trivial⟩)⟩) hr h4) fun w'=>?_;rw [run w' hu (e0q hz.2 w') h5 h6,l0o];simp [M4,add_assoc]
  ·rename_i n' u x;split<;>try trivial
   rename_i hz;rw [and_eq_true,beq_eq] at hz;obtain ⟨rfl,hz⟩:=hz;refine out fun h5 h6=>?_;obtain ⟨b,q,cs,hu,hlt,hns,⟨hlen,hels⟩,hc⟩:=hp.f0b;have hget:=Y9 (E:=E) (t:=u) (xs:=x) h5 (by rw [hlen];exact h6);refine O3.pure (VS.pd ⟨b,q+j.toNat*X2 E u,_,rfl,hlt,hns,hels.2 _ _ hget,fun jj v hj=>?_⟩) fun w'=>run w' hu (e0q hz w') h5 h6;have hjs:jj<(J0 E u).sz:=by
    rcases Nat.lt_or_ge jj (J0 E u).sz with h | h
    ·exact h
    ·rw [List.getElem?_eq_none (by simp;omega)] at hj;cases hj
   rw [List.getElem?_take_of_lt hjs,List.getElem?_drop] at hj;have:=hc _ v hj
   rwa [show q+(j.toNat*(J0 E u).sz+jj)=q+j.toNat*X2 E u+jj from by unfold X2;omega] at this
  ·trivial
theorem l0U:∀ (l:List Value) (k off:Nat) (cells:Array Value) (d1 d2 d3:List Value),cells.toList=d1++(d2++d3)->d1.length=off+k->d2.length=l.length->
  ((l.zipIdx k).foldl (fun cs (p:Value×Nat)=>cs.setIfInBounds (off+p.2) p.1) cells).toList=d1++(l++d3)
 |
  [],k,off,cells,d1,d2,d3,h,_,h2=>by
  have:d2=[]:=List.eq_nil_of_length_eq_zero (by simpa using h2);subst this;simpa using h
 |c :: l,k,off,cells,d1,[],d3,h,h1,h2=>by simp at h2
 |
  c :: l,k,off,cells,d1,x :: d2,d3,h,h1,h2=>by
  simp only [List.zipIdx_cons,List.foldl_cons];have:=l0U l (k+1) off (cells.setIfInBounds (off+k) c) (d1++[c]) d2 d3 (by
   rw [Array.toList_setIfInBounds,h,<-h1];simp) (by simp;omega) (by simpa using h2)
  rw [this];simp
theorem VT.get {n:Nat} {H:K0}:∀ {l:List (V E.D)} {us:List Value},VT E ρ n H S l us->∀ {j:Nat},o4 (o08 l j) (fun v=>∃ u,us[j]?=some u/\VS E ρ n H S v u)
 |[],us,h,j=>by cases j<;>trivial
 |
  v :: l,us,h,0=>by
  unfold VT at h;obtain ⟨c,u',h1,rfl,h2⟩:=h;exact ⟨_,rfl,c,h1,rfl⟩
 |
  v :: l,us,h,j+1=>by
  unfold VT at h;obtain ⟨c,u',h1,rfl,h2⟩:=h;exact (VT.get h2 (j:=j)).mono fun v hv=>by simpa using hv
inductive PR (E:Env) (ρ:Nat->Value) (n:Nat) (H:K0) (S:D0):List (Nat×V E.D)->List (Nat×Value)->Prop
 |nil:PR E ρ n H S [] []
 |cons {i:Nat} {v:V E.D} {u:Value} {l:List (Nat×V E.D)} {l':List (Nat×Value)}:VS E ρ n H S v u->PR E ρ n H S l l'->PR E ρ n H S ((i,v) :: l) ((i,u) :: l')
theorem VC.one {n:Nat} {H:K0} {v:V E.D} {c:List Value} (h:VC E ρ n H S v c) (hs:h0J v=true):∀ u∈c,u.oneCell'=true:=by
 cases v<;>simp only [h0J] at hs<;>try cases hs
 case d t x=>exact (J0 E t).one h
 case pd t x=>unfold VC at h;obtain ⟨v,rfl,b,o,cs,rfl,_⟩:=h;simp [Value.oneCell']
 case df t x=>unfold VC at h;obtain ⟨_,rfl,_⟩:=h;simp [Value.oneCell']
 case kb=>unfold VC at h;subst h;simp [Value.oneCell']
 case ki=>unfold VC at h;subst h;simp [Value.oneCell']
 case nil=>unfold VC at h;subst h;simp [Value.oneCell']
 case nilp=>unfold VC at h;subst h;simp [Value.oneCell']
 case nilif=>unfold VC at h;subst h;simp [Value.oneCell']
 case nilfn=>unfold VC at h;subst h;simp [Value.oneCell']
 case pb=>unfold VC at h;obtain ⟨_,_,_,_,rfl⟩:=h;simp [Value.oneCell']
 case pe=>unfold VC at h;obtain ⟨_,_,_,_,_,_,_,_,rfl⟩:=h;simp [Value.oneCell']
 case fn=>unfold VC at h;obtain ⟨_,rfl,_⟩:=h;simp [Value.oneCell']
 case ifc=>unfold VC at h;obtain ⟨_,_,rfl⟩:=h;simp [Value.oneCell']
 case sl id=>unfold VC at h;obtain ⟨_,h0,rfl⟩:=h;simpa using h0
 case mp id=>unfold VC at h;obtain ⟨_,h0,rfl⟩:=h;simpa using h0
theorem N0.t05 {n:Nat} {H:K0}:∀ {l:List (V E.D)} {c:List Value},N0 E ρ n H S l c->l.all h0J=true->∀ u∈c,u.oneCell'=true
 |[],c,h,_=>by unfold N0 at h;subst h;intro u hu;cases hu
 |
  v :: l,c,h,hs=>by
  unfold N0 at h;obtain ⟨c1,c2,rfl,h1,h2⟩:=h;simp only [List.all_cons,and_eq_true] at hs;intro u hu;rcases List.mem_append.1 hu with h | h
  ·exact h1.one hs.1 u h
  ·exact N0.t05 h2 hs.2 u h
theorem cells_one {v:Value} (h:v.oneCell'=true):v.cells=#[v]:=by cases v<;>simp_all [Value.cells,Value.oneCell']
theorem VS.cells {n:Nat} {H:K0} {v:V E.D} {u:Value} (hE:Q1 E) (h:VS E ρ n H S v u) (hs:c0k v=true):∃ c,N0 E ρ n H S (H6 v) c/\u.cells=c.toArray/\(∀ x∈c,x.oneCell'=true)/\VC E ρ n H S v c:=by
 obtain ⟨c,h1,h2,h3,h4⟩:=h.flat;have hone:∀ x∈c,x.oneCell'=true:=by
  refine N0.t05 h1 ?_;cases v<;>simp_all [H6,c0k]
 cases ha:C4 v with
 |true=>exact ⟨c,h1,by rw [h2 ha];rfl,hone,h4⟩
 |
  false=>
  have hl:=h4.k0I hE ha
  match c,hl with
  |
   [z],_=>
   have:=h3 ha;simp at this;subst this;exact ⟨[u],h1,cells_one (hone u (by simp)),hone,h4⟩
theorem u0U {n:Nat} {H:K0} (hE:Q1 E):∀ {l:List (V E.D)} {c:List Value},N0 E ρ n H S l c->(∀ v∈l,∀ l',v≠.agg l')->c.length=szs E l
 |[],c,h,_=>by unfold N0 at h;subst h;rfl
 |
  v :: l,c,h,hs=>by
  unfold N0 at h;obtain ⟨c1,c2,rfl,h1,h2⟩:=h;unfold szs;rw [length_append,h1.len hE (hs v (by simp)),u0U hE h2 (fun x hx=>hs x (by simp [hx]))]
theorem i0G {n:Nat} {H:K0} (hE:Q1 E) {v:V E.D} {c:List Value} (h:VC E ρ n H S v c) (hs:c0k v=true):c.length=vsz E v:=by
 cases v<;>first | exact h.len hE (by simp) | skip
 rename_i l;unfold VC at h;refine u0U hE h fun x hx l' e=>?_;subst e;have:=List.all_eq_true.1 hs _ hx;cases this
theorem s0B {n:Nat} {H:K0} (hE:Q1 E) {pl:List (Nat×Nat)} {place:Nat->Option (Nat×Nat)} (hp:∀ i p,pl[i]?=some p->place i=some p):∀ {l:List (Nat×V E.D)} {l':List (Nat×Value)},PR E ρ n H S l l'->∀ {cs cs':List (V E.D)} {c:Array Value},
  d0G E pl l cs=some cs'->N0 E ρ n H S cs c.toList->∃ c',Instr.fill place c l'=some c'/\N0 E ρ n H S cs' c'.toList
 |
  _,_,.nil,cs,cs',c,h,hc=>by
  simp only [d0G,Option.some.injEq] at h;subst h;exact ⟨c,rfl,hc⟩
 |
  _,_,.cons (i:=i) (v:=v) (u:=u) hv hr,cs,cs',c,h,hc=>by
  simp only [d0G] at h;split at h<;>try cases h
  rename_i off m hpl;split at h<;>try cases h
  rename_i hz;rw [and_eq_true,beq_eq] at hz;split at h<;>try cases h
  rename_i a b d hsg;obtain ⟨c1,c2,c3,e,hl1,hl2,ha,_,hd⟩:=g0e hE hsg hc;obtain ⟨cu,hcu,hcells,_,hVC⟩:=hv.cells hE hz.2;have hlen:cu.length=m:=(i0G hE hVC hz.2).trans hz.1;have hfold:=l0U cu 0 off c c1 c2 c3 e (by omega) (by omega);have key:N0 E ρ n H S (a++H6 v++d) ((u.cells.zipIdx.foldl (fun cs (p:Value×Nat)=>cs.setIfInBounds (off+p.2) p.1) c).toList):=by
   rw [hcells];have:(cu.toArray.zipIdx.foldl (fun cs (p:Value×Nat)=>cs.setIfInBounds (off+p.2) p.1) c).toList=c1++(cu++c3):=by
    rw [<-hfold];simp [<-Array.foldl_toList]
   rw [this,List.append_assoc];exact ha.app (hcu.app hd)
  obtain ⟨c',hf,hc'⟩:=s0B hE hp hr h key;refine ⟨c',?_,hc'⟩;have hsz:c.toList.length=off+(m+c3.length):=by rw [e];simp [hl1,hl2]
  simp only [Instr.fill,hp i _ hpl];rw [if_neg]
  ·exact hf
  ·rw [hcells];simp only [Array.length_toList] at hsz;simp [hlen];omega
theorem VS.a8 {n:Nat} {H:K0} (v:Value):VS E ρ n H S (a8 v:V E.D) v/\(C4 (a8 v:V E.D)=false):=by
 unfold Go.X.a8;split<;>first | exact ⟨⟨[_],by unfold VC;rfl,rfl⟩,rfl⟩ | exact ⟨VS.undef _,rfl⟩
theorem VC.a8 {n:Nat} {H:K0} (v:Value):VC E ρ n H S (a8 v:V E.D) [v]:=by
 unfold Go.X.a8;split<;>unfold VC<;>first | rfl | exact ⟨_,rfl⟩
theorem N0.s0z {n:Nat} {H:K0}:∀ (l:List Value),N0 E ρ n H S (l.map Go.X.a8:List (V E.D)) l
 |[]=>N0.nil
 |
  v :: l=>by
  rw [map_cons];unfold N0;exact ⟨[v],l,rfl,VC.a8 v,N0.s0z l⟩
theorem s0f (v:Value):H6 (Go.X.a8 v:V E.D)=[Go.X.a8 v]:=by
 unfold Go.X.a8;split<;>rfl
theorem i0g {n:Nat} {H:K0} (z:Value):N0 E ρ n H S (H6 (ofZ E z)) z.cells.toList:=by
 have key:∀ v:Value,(∀ l,v≠.agg l)->N0 E ρ n H S (H6 (Go.X.a8 v:V E.D)) v.cells.toList:=by
  intro v hv;rw [s0f];have:v.cells=#[v]:=by cases v<;>first | rfl | exact absurd rfl (hv _)
  rw [this];exact N0.one (VC.a8 v)
 unfold ofZ;split
 ·rename_i cs;exact N0.s0z cs.toList
 ·rename_i h;exact key z (fun l e=>h l e)
theorem q0t:∀ {fs:List Field} {pl:List (Nat×Nat)},h0Q E fs=some pl->fs.mapM (fun f=>(E.P.info? f.type).map fun i=>(f.offset,i.size))=some pl
 |[],pl,h=>by simp [h0Q] at h;subst h;rfl
 |
  f :: fs,pl,h=>by
  simp only [h0Q] at h;split at h<;>try cases h
  rename_i n l hn hl;unfold R5 at hn;split at hn<;>try cases hn
  rename_i i hi;simp [List.mapM_cons,hi,q0t hl]
theorem PR.of {n:Nat} (hval:∀ x,VS E ρ n w.heap S (T1 E s x) (a.eval x)):∀ (l:List (Nat×Operand)),PR E ρ n w.heap S (l.map fun p=>(p.1,T1 E s p.2)) (l.map fun p=>(p.1,a.eval p.2))
 |[]=>.nil
 |p :: l=>.cons (hval p.2) (PR.of hval l)
theorem v0b (hE:Q1 E) (h:Rp E A s ρ S a as w) {T:Nat} {parts:Array (Nat×Operand)} :
  o4 (m0t E s T parts.toList) (O3 E s ρ S w (fun _=>False) (Instr.build T (parts.map fun p=>(p.1,a.eval p.2)))):=by
 have hpr:=PR.of (E:=E) h.val parts.toList;unfold m0t;split<;>try trivial
 rename_i i hi;split<;>try trivial
 rename_i z hz;have fin:∀ {pl:List (Nat×Nat)} {place:Nat->Option (Nat×Nat)} {cs:List (V E.D)},(∀ i p,pl[i]?=some p->place i=some p)->d0G E pl (parts.toList.map fun p=>(p.1,T1 E s p.2)) (H6 (ofZ E z))=some cs->
   (∀ c',Instr.fill place z.cells (parts.toList.map fun p=>(p.1,a.eval p.2))=some c'->E.P.built T (parts.toList.map fun p=>(p.1,a.eval p.2))=some c')->O3 E s ρ S w (fun _=>False) (Instr.build T (parts.map fun p=>(p.1,a.eval p.2))) (.agg cs):=by
  intro pl place cs hp hf hb;obtain ⟨c',h1,h2⟩:=s0B hE hp hpr hf (i0g z);refine O3.pure ⟨c'.toList,by unfold VC;exact h2,rfl⟩ fun w'=>?_;rw [run_build w' T _ c' (by rw [Array.toList_map];exact hb c' h1)];simp [vl,C4,H4]
 split<;>try trivial
 ·rename_i fs hT;split<;>try trivial
  rename_i pl hpl;split<;>try trivial
  rename_i cs hf;refine fin (place:=fun i=>pl.toArray[i]?) (fun i p hp=>by simpa using hp) hf fun c' hc'=>?_;unfold Program.built;simp only [hi,hT,hz];rw [q0t hpl];exact hc'
 ·rename_i n e hT;split<;>try trivial
  rename_i m hm;split<;>try trivial
  rename_i cs hf;unfold R5 at hm;split at hm<;>try cases hm
  rename_i ie hie;refine fin (place:=fun i=>some (i*ie.size,ie.size)) (fun i p hp=>?_) hf fun c' hc'=>?_
  ·rw [List.getElem?_map] at hp;obtain ⟨j,hj,rfl⟩:=Option.map_eq_some_iff.1 hp;have:=List.getElem?_eq_some_iff.1 hj;obtain ⟨h1,h2⟩:=this;simp at h2;subst h2;rfl
  ·unfold Program.built;simp only [hi,hT,hz,hie];exact hc'
theorem VS.A0L {n:Nat} {H:K0} {x:ByteArray} {u:Value} (h:VS E ρ n H S (.d .str x) u):u=.string x:=by
 have:(J0 E .str).R H S [u] x:=h.d rfl;simpa [J0,q07] using this
theorem VS.p0x {n:Nat} {H:K0} {id:Nat} {u:Value} (h:VS E ρ n H S (.mp id:V E.D) u):id<n/\u=hd (ρ id):=by
 obtain ⟨c,h1,rfl⟩:=h;unfold VC at h1;obtain ⟨h0,_,rfl⟩:=h1;exact ⟨h0,rfl⟩
def k0Y {D:Nat->Type}:V D->Bool
 |.mp _=>true
 |_=>false
theorem D0w (h:Rp E A s ρ S a as w) {v:V E.D} {u:Value} (hv:VS E ρ s.nid w.heap S v u) {T:Nat} {ty:Nat} {ts:Array TypeId} (hts:ts[0]?=some T) :
  o4 (n0b E s T v) (O3 E s ρ S w (fun _=>k0Y v=true) (Builtin.len_ ts ty #[u])):=by
 unfold n0b;split<;>try trivial
 ·rename_i e hT;split
  ·obtain rfl:=hv.b0n;exact O3.pure (VS.ki (x:=0)) fun w'=>by simp [Builtin.len_,hts,run_underlying hT,goInt]
  ·split<;>try trivial
   rename_i t xs hx;obtain ⟨A',c,rfl⟩:=h.z02 hv hx;exact O3.pure VS.dI fun w'=>by simp [Builtin.len_,hts,run_underlying hT,goInt]
 ·rename_i hT;split<;>try trivial
  obtain rfl:=hv.A0L;exact O3.pure VS.dI fun w'=>by simp [Builtin.len_,hts,run_underlying hT,goInt]
 ·rename_i n e hT;exact O3.pure (VS.ki (x:=n)) fun w'=>by cases u<;>simp [Builtin.len_,hts,run_underlying hT,goInt]
 ·rename_i k e hT;split<;>try trivial
  rename_i id;obtain ⟨hid,rfl⟩:=hv.p0x;have ht:=h.th id;split<;>try trivial
  rename_i m hl;rw [hl] at ht;obtain ⟨r,es,cl,hv2,hg,hm⟩:=ht;refine ⟨_,VS.dI,fun w' hw=>?_⟩;have hb:=(hw.2 r rfl (getElem?_lt hg)).trans hg;have hlen:es.size=m.length:=by have:=congrArg List.length hm;simpa using this
  rw [hv2];simp [hd,Builtin.len_,hts,run_underlying hT,goInt,getObj,Sem.run,hb,hlen]
theorem y0v {n:Nat} {H:K0} {c x y:V E.D} {uc ux uy:Value} (hc:VS E ρ n H S c uc) (hx:VS E ρ n H S x ux) (hy:VS E ρ n H S y uy) :
  o4 (k0V c x y) (fun v=>∃ u,VS E ρ n H S v u/\∃ b,uc=.bool b/\u=if b then ux else uy):=by
 unfold k0V;split<;>try trivial
 ·obtain rfl:=P8 (x:=true) rfl hc;exact ⟨_,hx,_,rfl,rfl⟩
 ·obtain rfl:=P8 (x:=false) rfl hc;exact ⟨_,hy,_,rfl,rfl⟩
 ·split<;>try trivial
  rename_i b hb;obtain rfl:=P8 hb hc;split<;>try trivial
  rename_i p q hp hq;obtain rfl:=P8 hp hx;obtain rfl:=P8 hq hy;exact ⟨_,VS.dB,_,rfl,by cases b<;>rfl⟩
theorem VT.of (h:Rp E A s ρ S a as w):∀ (l:List Operand),VT E ρ s.nid w.heap S (l.map (T1 E s)) (l.map a.eval)
 |[]=>by unfold List.map VT;rfl
 |
  x :: l=>by
  obtain ⟨c,h1,h2⟩:=h.val x;rw [map_cons,map_cons];unfold VT;exact ⟨c,_,h1,by rw [h2],VT.of h l⟩
theorem y0c {T:Nat} {v:V E.D} {u:Value} (hv:VS E ρ s.nid w.heap S v u):o4 (mkIf E T v) (O3 E s ρ S w (fun _=>False) (Instr.makeInterface T u)):=by
 unfold mkIf;split<;>try trivial
 rename_i d hd hT;obtain ⟨c,h1,rfl⟩:=hv;refine O3.pure (VS.of rfl (by unfold VC;exact ⟨c,h1,rfl⟩)) fun w'=>?_;cases d<;>first | exact absurd rfl (hd _) | simp [Instr.makeInterface,run_underlying hT]
theorem C0q {v:V E.D} {u:Value} (hv:VS E ρ s.nid w.heap S v u):o4 (l0K v) (fun v'=>VS E ρ s.nid w.heap S v' u/\((∃ b,u=.pointer (some b))\/(∃ t x,u=.iface t x)\/∃ f x,u=.func (.func f) #[] x)):=by
 unfold l0K;split<;>try trivial
 ·obtain ⟨_,_,b,_,rfl⟩:=hv.b0l;exact ⟨hv,.inl ⟨_,rfl⟩⟩
 ·obtain ⟨_,_,b,o,m,c,_,_,rfl⟩:=hv.c05;exact ⟨hv,.inl ⟨_,rfl⟩⟩
 ·obtain ⟨b,o,cs,rfl,_⟩:=hv.f0b;exact ⟨hv,.inl ⟨_,rfl⟩⟩
 ·obtain ⟨u',rfl,_⟩:=hv.n0H;exact ⟨hv,.inr (.inl ⟨_,_,rfl⟩)⟩
 ·obtain ⟨c,h1,rfl⟩:=id hv;unfold VC at h1;obtain ⟨us,rfl,_⟩:=h1;exact ⟨hv,.inr (.inr ⟨_,_,rfl⟩)⟩
theorem F0l {x y:Nat} {v:V E.D} {u:Value} (hv:VS E ρ s.nid w.heap S v u):o4 (n0h E x y v) (O3 E s ρ S w (fun _=>False) (convert x y u)):=by
 unfold n0h;split<;>try trivial
 rename_i d k h1 h2;split<;>try trivial
 rename_i k' z hz;obtain rfl:=r9 hz hv;exact O3.pure VS.dI fun w'=>by simp [convert,run_underlying h1,run_underlying h2,Conv.intToInt]
theorem o4.imp {D:Nat->Type} {r:QR D} {P P':V D->Prop} (hp:∀ v,P v->P' v) (h:o4 r P):o4 r P':=h.mono hp
theorem x0c {T:Nat} {xT:Nat} {v:V E.D} {u:Value} {ok:Bool} (hv:VS E ρ s.nid w.heap S v u):o4 (i01 E T ok v) (O3 E s ρ S w (fun _=>False) (Instr.typeAssert u xT T ok)):=by
 unfold i01;split<;>try trivial
 rename_i dsc hni hT;split<;>try trivial
 rename_i hz;have hz:∃ i z,E.P.info? T=some i/\i.zero=some z:=by
  unfold i01.zeroInfo at hz;split at hz
  ·rename_i i hi;exact ⟨i,_,hi,(Option.eq_some_of_isSome hz)⟩
  ·cases hz
 obtain ⟨inf,z,hinf,hz⟩:=hz;have tup:∀ {x y:V E.D} {ux uy:Value},VS E ρ s.nid w.heap S x ux->VS E ρ s.nid w.heap S y uy->VS E ρ s.nid w.heap S (.tup [x,y]) (.tuple #[ux,uy]):=by
  rintro x y ux uy ⟨c,hc,rfl⟩ ⟨d,hd,rfl⟩
  refine VS.of rfl ?_;unfold VC VT;refine ⟨[vl x c,vl y d],rfl,c,[vl y d],hc,rfl,?_⟩;unfold VT;exact ⟨d,[],hd,rfl,by unfold VT;rfl⟩
 split<;>try trivial
 ·rename_i t x;obtain ⟨u',rfl,hx⟩:=hv.n0H;split
  ·rename_i hb;rw [beq_eq] at hb;subst hb;refine O3.pure (tup hx VS.kb) fun w'=>?_;cases dsc<;>simp [Instr.typeAssert,run_underlying hT]<;>exact absurd rfl (hni _)
  ·rename_i hb;have hne:t≠T:=fun e=>by rw [<-beq_eq,hb] at e;cases e
   refine O3.pure (tup (VS.undef z) VS.kb) fun w'=>?_;cases dsc<;>simp [Instr.typeAssert,run_underlying hT,hne,zeroValue,typeInfo,hinf,hz]<;>first | rfl | exact absurd rfl (hni _)
 ·obtain rfl:=hv.i0B;refine O3.pure (tup (VS.undef z) VS.kb) fun w'=>?_;cases dsc<;>simp [Instr.typeAssert,run_underlying hT,zeroValue,typeInfo,hinf,hz]<;>first | rfl | exact absurd rfl (hni _)
theorem E0n (h:Rp E A s ρ S a as w) {v:V E.D} {u:Value} {t:U} {xs:List (Den E.D t)} (hv:VS E ρ s.nid w.heap S v u) (hd:m0U E s v=some ⟨t,xs⟩):∃ A' c,u=.slice A' xs.length c/\Sl (J0 E t) w.heap S A' c xs:=by
 unfold m0U at hd;split at hd<;>try cases hd
 ·exact hv.f04
 ·rename_i id;split at hd<;>try cases hd
  rename_i hl;obtain ⟨_,rfl⟩:=hv.X9;have:=h.th id;rw [hl] at this;exact this
theorem t02 {e:Nat} {t:U} (h:a0N E e t=true):(E.P.info? e).map (·.size)=some (J0 E t).sz:=by
 unfold a0N at h;split at h
 ·rename_i n hn;rw [beq_eq] at h;subst h;unfold R5 at hn;split at hn
  ·rename_i i hi;simp only [Option.some.injEq] at hn;rw [hi];exact congrArg some hn
  ·cases hn
 ·cases h
theorem x0C (h:Rp E A s ρ S a as w) {T:Nat} {x:V E.D} {ux:Value} (hx:VS E ρ s.nid w.heap S x ux) (hval:∀ y,VS E ρ s.nid w.heap S (T1 E s y) (a.eval y)) (lo hi mx:Option Operand) :
  o4 (m07 E s T x (lo.map (T1 E s)) (hi.map (T1 E s)) (mx.map (T1 E s)) (l06 hi mx)) (O3 E s ρ S w (fun _=>False) (Instr.sliceAt T ux (lo.map a.eval) (hi.map a.eval) (mx.map a.eval))):=by
 unfold m07;split<;>try trivial
 rename_i t xs e hd hT;split<;>try trivial
 rename_i l hh hz hlo hhi;obtain ⟨A',c,rfl,hsl⟩:=E0n h hx hd;have hlo2:(match lo.map a.eval with | none=>l=0 | some y=>∃ k,y=.int k l):=by
  cases lo with
  |none=>simp only [map_none,loI,Option.some.injEq] at hlo;exact hlo.symm
  |
   some y=>
   simp only [map_some,loI] at hlo ⊢;split at hlo<;>cases hlo
   rename_i k hk;exact ⟨k,r9 hk (hval y)⟩
 have hhi2:∀ y,hi=some y->∃ k,a.eval y=.int k hh:=fun y hy=>by
  subst hy;simp only [map_some,hiI] at hhi;split at hhi<;>cases hhi
  rename_i k hk;exact ⟨k,r9 hk (hval y)⟩
 have data:∀ (A1:Option Addr) (c1:Nat),Sl (J0 E t) w.heap S A1 c1 (I1 xs l hh)->VS E ρ s.nid w.heap S (.d (.list t) (I1 xs l hh)) (.slice A1 (I1 xs l hh).length c1):=fun A1 c1 h1=>VS.of rfl (by unfold VC;exact ⟨A1,c1,rfl,h1⟩);cases mx with
 |
  none=>
  simp only [map_none];intro hok;obtain ⟨A1,h1,h2⟩:=r0i (lo:=lo.map a.eval) (hi:=hi.map a.eval) (mx:=none) (vlo:=l) (vhi:=hh) (vmx:=c) hT (t02 hz) hsl hlo2 (by
   cases hi with
   |none=>simp only [map_none,hiI,Option.some.injEq] at hhi;exact ⟨hhi.symm,rfl⟩
   |some y=>exact hhi2 y rfl) rfl hok (.inl rfl)
  exact O3.pure (data A1 _ h2) h1
 |
  some m=>
  simp only [map_some];split<;>try trivial
  rename_i km mm y hm hy;cases hi with
  |none=>cases hy
  |
   some hy0=>
   have hmv:=r9 hm (hval m);have main:(I4 xs l hh&&(decide (hh<=mm)&&decide (mm<=(xs.length:Int))))=true->∃ A1,(∀ w',(Instr.sliceAt T (.slice A' xs.length c) (lo.map a.eval) (some (a.eval hy0)) (some (a.eval m))).run E.P w'=.ok (.slice A1 (I1 xs l hh).length (mm-l).toNat) w')/\Sl (J0 E t) w.heap S A1 (mm-l).toNat (I1 xs l hh):=by
    intro hok;simp only [and_eq_true,decide_eq_true_eq] at hok;exact r0i (lo:=lo.map a.eval) (hi:=some (a.eval hy0)) (mx:=some (a.eval m)) (vlo:=l) (vhi:=hh) (vmx:=mm) hT (t02 hz) hsl hlo2 (hhi2 hy0 rfl) ⟨km,hmv⟩ hok.1 (.inr hok.2)
   have fin:(I4 xs l hh&&(decide (hh<=mm)&&decide (mm<=(xs.length:Int))))=true->mm=hh->O3 E s ρ S w (fun _=>False) (Instr.sliceAt T (.slice A' xs.length c) (lo.map a.eval) (some (a.eval hy0)) (some (a.eval m))) (.df t (I1 xs l hh)):=by
    intro hok hmh;obtain ⟨A1,h1,h2⟩:=main hok;simp only [and_eq_true,decide_eq_true_eq] at hok;have hlen:=c04 hok.1;subst hmh;refine O3.pure (VS.of (v:=.df t (I1 xs l mm)) rfl ?_) h1;unfold VC;rw [<-hlen] at h2 ⊢;exact ⟨A1,rfl,h2⟩
   split
   ·rename_i hsame;intro hok;have hmh:mm=hh:=by
     unfold l06 at hsame;split at hsame
     ·rename_i a1 b1 e1 e2;rw [beq_eq] at hsame;cases e1;cases e2;subst hsame;obtain ⟨k,hk⟩:=hhi2 _ rfl;rw [hk] at hmv;cases hmv;rfl
     ·cases hsame
    exact fin hok hmh
   ·intro hok;rw [and_eq_true,decide_eq_true_eq] at hok;exact fin hok.2 hok.1.symm
theorem y0k (h:Rp E A s ρ S a as w) {op:BinOp} {T:Nat} {x y:Operand} {r:QR E.D} (hx:VS E ρ s.nid w.heap S (T1 E s x) (a.eval x)) (hy:VS E ρ s.nid w.heap S (T1 E s y) (a.eval y)) (hn:n0V E s op T (T1 E s x) (T1 E s y) (t0b y)=some r) :
  o4 r (O3 E s ρ S w (fun _=>False) (do eqGuard op T x y (a.eval x) (a.eval y);binOp op T (a.eval x) (a.eval y))):=by
 unfold n0V at hn;split at hn<;>try cases hn
 rotate_left
 ·rename_i ex ey;split at hn<;>try cases hn
  rename_i pos' hk ho hc;obtain ⟨e,hT⟩:=(i0Z (E:=E) (T:=T)).2.2.2 hk;rw [ex] at hx;rw [ey] at hy;have hux:=hx.i0B;have huy:=hy.i0B;have heq:∀ w':World,(Op.equal T .nilIface .nilIface).run E.P w'=.ok true w':=fun w'=>by
   unfold Op.equal Op.maxDepth Op.equalIn;simp [run_underlying hT]
  rw [hux,huy];refine O3.pure VS.Q6 fun w'=>?_;have h1:=b0F ho (by simp) (by simp) (by simp) (by simp) (heq w');have h2:(eqGuard op T x y .nilIface .nilIface).run E.P w'=.ok () w':=by
   cases y with
   |const v=>rcases s0E ho with ⟨_,rfl⟩ | ⟨_,rfl⟩<;>simp [eqGuard]
   |_=>cases hc
  simp [h1,h2]
 rename_i id ex ey;split at hn<;>try cases hn
 rename_i pos' hk ho;obtain ⟨e,hT⟩:=(i0Z (E:=E) (T:=T)).2.2.1 hk;rw [ex] at hx;rw [ey] at hy;obtain ⟨_,hux⟩:=hx.X9;have huy:=hy.b0n;have ht:=h.th id;have key:∀ {b':Bool},(b'=true->∃ g m c,hd (ρ id)=.slice (some g) m c)->o4 (.chk b' (Q6 pos' false)) (O3 E s ρ S w (fun _=>False) (do eqGuard op T x y (a.eval x) (a.eval y);binOp op T (a.eval x) (a.eval y))):=by
  intro b' hb hne;obtain ⟨g,m,c,hg⟩:=hb hne;rw [hux,huy,hg];have heq:∀ w':World,(Op.equal T (.slice (some g) m c) (.slice none 0 0)).run E.P w'=.ok false w':=fun w'=>by
   unfold Op.equal Op.maxDepth Op.equalIn;simp [run_underlying hT]
  refine O3.pure VS.Q6 fun w'=>?_;have h1:=b0F ho (by simp) (by simp) (by simp) (by simp) (heq w');have h2:=s8.of (E:=E) (op:=op) (T:=T) (ua:=.slice (some g) m c) (ub:=.slice none 0 0) (by simp [a0W]) x y w';simp [h1,h2]
 split at hn
 ·rename_i e' t xs hl;rw [<-Option.some.inj hn];rw [hl] at ht;obtain ⟨cs,hrow,_⟩:=ht;refine key (b':=!xs.isEmpty) (fun hne=>?_);rcases hrow.2 with ⟨_,h0⟩ | ⟨g,cap,cur,hv,_⟩
  ·cases xs<;>simp_all
  ·exact ⟨_,_,_,by rw [hv];rfl⟩
 ·rename_i t xs hl;rw [<-Option.some.inj hn];rw [hl] at ht;obtain ⟨A',c,hv,hsl⟩:=ht;refine key (b':=!xs.isEmpty) (fun hne=>?_);have hx:xs≠[]:=by rintro rfl;simp at hne
  obtain ⟨b0,o,hA,_,_⟩:=hsl.2.1 hx;subst hA;exact ⟨_,_,_,hv⟩
 ·cases hn
theorem n00 (hE:Q1 E) (h:Rp E A s ρ S a as w) (o:Oper) :
  o4 (evQ E s o) (fun v=>∃ u,VS E ρ s.nid w.heap S v u/\∀ w',K8 E s S w (d06 E s ρ o) w'->(execOp a.eval o).run E.P w'=.ok (.value u) w'):=by
 have up:∀ {own:Nat->Prop} {f:Sem Value} {r:QR E.D},(∀ k,own k->d06 E s ρ o k)->execOp a.eval o=(do pure (.value (<-f)))->o4 r (O3 E s ρ S w own f)->
   o4 r (fun v=>∃ u,VS E ρ s.nid w.heap S v u/\∀ w',K8 E s S w (d06 E s ρ o) w'->(execOp a.eval o).run E.P w'=.ok (.value u) w'):=by
  intro own f r ho hf hr;refine hr.mono fun v ⟨u,hv,hu⟩=>⟨u,hv,fun w' hw=>?_⟩
  rw [hf];simp [hu w' (hw.e0z ho)]
 unfold evQ;split
 ·rename_i x ho;exact ⟨_,h.val x,fun w' _=>by simp [execOp,ho]⟩
 ·rename_i x ho;exact ⟨_,h.val x,fun w' _=>by simp [execOp,ho]⟩
 ·rename_i c x y ho;refine (y0v (h.val c) (h.val x) (h.val y)).mono fun v ⟨u,hv,b,hb,hu⟩=>⟨u,hv,fun w' _=>?_⟩
  subst hu;simp [execOp,ho,hb,asBool]
 ·rename_i x ho;refine (C0q (h.val x)).mono fun v ⟨hv,hu⟩=>⟨_,hv,fun w' _=>?_⟩
  rcases hu with ⟨b,hb⟩ | ⟨t,y,hb⟩ | ⟨f,y,hb⟩<;>simp [execOp,ho,hb]
 ·rename_i op T x y T2 ho;split
  ·rename_i r hn;exact up (own:=fun _=>False) (fun _ e=>e.elim) (by simp [execOp,ho]) (y0k h (h.val x) (h.val y) hn)
  refine (D0V hE (h.val x) (h.val y)).mono fun v ⟨u,hv,hu⟩=>⟨u,hv,fun w' _=>?_⟩
  have h1:=(hu w').1;have h2:=(hu w').2 x y w';simp [execOp,ho,h1,h2]
 ·rename_i op T x ho;refine (D0o (h.val x)).mono fun v ⟨u,hv,hu⟩=>⟨u,hv,fun w' _=>?_⟩
  simp [execOp,ho,hu w']
 ·rename_i x y z ho;exact up (fun _ e=>e.elim) (by simp [execOp,ho]) (F0l (h.val z))
 ·rename_i T x f ho;exact up (fun _ e=>e.elim) (by simp [execOp,ho]) (w0g hE h (h.val x))
 ·rename_i T x f ho;exact up (fun _ e=>e.elim) (by simp [execOp,ho]) (w0N hE h (h.val x))
 ·rename_i T x i ho;exact up (fun _ e=>e.elim) (by simp [execOp,ho]) (A0Q hE h (h.val x) (h.val i))
 ·rename_i T x ho;exact up (fun k e=>by unfold d06 A9 D9;rw [ho];exact e) (by simp [execOp,ho]) (u0G hE h (h.val x))
 ·rename_i x i ho;split<;>try trivial
  rename_i l hl;have hx:=h.val x;rw [hl] at hx;obtain ⟨us,hu,hvt⟩:=hx.s0a;refine (VT.get hvt (j:=i)).mono fun v ⟨u,hg,hv⟩=>⟨u,hv,fun w' _=>?_⟩
  simp [execOp,ho,hu,Instr.extract,hg]
 ·rename_i T parts ho;exact up (fun _ e=>e.elim) (by simp [execOp,ho]) (v0b hE h)
 ·rename_i fn first caps ho
  split<;>try trivial
  rename_i f hf;refine ⟨_,VS.of rfl (by unfold VC;exact ⟨caps.toList.map a.eval,rfl,VT.of h _⟩),fun w' _=>?_⟩;have:first=#[]:=by simpa using hf
  subst this;have e:Array.map a.eval caps=(List.map a.eval caps.toList).toArray:=by rw [<-Array.toList_map]
  simp [execOp,ho,Instr.makeFunc,e]
 ·rename_i T x ho;exact up (fun _ e=>e.elim) (by simp [execOp,ho]) (y0c (h.val x))
 ·rename_i x T T' ok ho;exact up (fun _ e=>e.elim) (by simp [execOp,ho]) (x0c (xT:=T) (h.val x))
 ·rename_i T x lo hi mx ho;exact up (fun _ e=>e.elim) (by simp [execOp,ho]) (x0C h (h.val x) (fun y=>h.val y) lo hi mx)
 ·rename_i c ho;split<;>try trivial
  ·rename_i x hc hx;split<;>try trivial
   rename_i T r hT;have hts:c.argTypes[0]?=some T:=by rw [<-Array.getElem?_toList,hT];rfl
   have hargs:c.args=#[x]:=by have:=congrArg List.toArray hx;simpa using this
   refine up (own:=fun _=>k0Y (T1 E s x)=true) (fun k e=>?_) ?_ (D0w h (h.val x) (ty:=o.type) hts)
   ·refine ⟨?_,fun q hq=>by unfold D9 at hq;rw [ho] at hq;cases hq⟩;unfold A9;rw [ho];simp only [hx];cases hv:T1 E s x<;>rw [hv] at e<;>simp_all [k0Y]
   ·simp [execOp,ho,resolve,hc,hargs,invoke,builtin]
  ·rename_i x y hc hx;have hargs:c.args=#[x,y]:=by have:=congrArg List.toArray hx;simpa using this
   unfold q0i;split<;>try trivial
   rename_i k p k' q hp hq;have e1:=r9 hp (h.val x);have e2:=r9 hq (h.val y);refine ⟨_,VS.dI,fun w' _=>?_⟩;simp [execOp,ho,resolve,hc,hargs,invoke,builtin,Builtin.min_,Builtin.min2,e1,e2]
  ·rename_i x y hc hx;have hargs:c.args=#[x,y]:=by have:=congrArg List.toArray hx;simpa using this
   unfold q0o;split<;>try trivial
   rename_i k p k' q hp hq;have e1:=r9 hp (h.val x);have e2:=r9 hq (h.val y);refine ⟨_,VS.dI,fun w' _=>?_⟩;simp [execOp,ho,resolve,hc,hargs,invoke,builtin,Builtin.max_,Builtin.max2,e1,e2]
 ·trivial
end
end
