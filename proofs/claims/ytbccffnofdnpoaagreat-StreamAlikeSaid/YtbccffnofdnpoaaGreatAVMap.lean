/- P. Its conditions: none. -/
import Derived.Test.YtbccffnofdnpoaaGreatAG01
import Derived.Lib.SlBytesConst
set_option linter.all false
namespace Go.V
open Go.RowKit
section
variable {P:Program}{ops:Array Oper}{n:Nat}{Q:Exit->Act->World->Prop}{l:FL}{a:Act}{w:World}{o:Oper}{rest:List Oper}
end
def B3:List (Int×Int)->Int->Int
 |[],_=>0
 |(a,b) :: r,k=>if a==k then b else B3 r k
def T3:List (Int×Int)->Int->Bool
 |[],_=>false
 |(a,_) :: r,k=>a==k||T3 r k
def P6:List (Int×Int)->Int->Int->List (Int×Int)
 |[],k,v=>[(k,v)]
 |(a,b) :: r,k,v=>if a==k then(k,v) :: r else(a,b) :: P6 r k v
def a0d:List (Int×Int)->Int->List (Int×Int)
 |[],_=>[]
 |(a,b) :: r,k=>if a==k then r else(a,b) :: a0d r k
def I8 (es:List MapEntry)(m:List (Int×Int)):Prop:=es.map (fun e=>(e.key,e.val))=m.map (fun p=>(.int .i64 p.1,.int .i64 p.2))
theorem I8.cons_inv {e:MapEntry}{es:List MapEntry}{m:List (Int×Int)}(h:I8 (e :: es) m):∃a b c,m=(a,b) :: c/\e.key=.int .i64 a/\e.val=.int .i64 b/\I8 es c:=by
 cases m with
 |nil=>grind [I8]
 |cons p c=>simp[I8]at h;exact⟨p.1,p.2,c,rfl,h.1.1,h.1.2,h.2⟩
def I8.b0m {m:List (Int×Int)}(h:I8 [] m):m=[]:=by simp_all[I8]
theorem k0L (k:Int):∀(es:List MapEntry) (m:List (Int×Int)),I8 es m->∀i:Nat,
  (Instr.findNow (.int .i64) (.int .i64 k) es i=some none/\T3 m k=false/\B3 m k=0/\∀v,P6 m k v=m++[(k,v)]/\a0d m k=m)\/
  ∃j,Instr.findNow (.int .i64) (.int .i64 k) es i=some (some (i+j,.int .i64 (B3 m k)))/\j<es.length/\T3 m k=true/\m[j]?=some (k,B3 m k)/\(∀v,P6 m k v=m.set j (k,v))/\a0d m k=m.eraseIdx j
 |[],m,h,i=>by obtain rfl:=h.b0m;exact .inl ⟨rfl,rfl,rfl,fun v=>⟨rfl,rfl⟩⟩
 |e :: es,m,h,i=>by
  obtain⟨a,b,f,rfl,h1,g,d⟩:=h.cons_inv
  by_cases hk:a=k
  ·simp_all[T3,B3,P6,a0d,Instr.findNow,Instr.sameNow]
  ·have c:(a==k)=false:=by simp_all
   have hs:Instr.sameNow (.int .i64) (.int .i64 k) e.key=some false:=by
    grind [Instr.sameNow]
   rcases k0L k es f d (i+1)with⟨f1,f2,f3,f4⟩|⟨j,f1,f2,f3,f4,f5,f6⟩
   ·refine .inl ⟨?_,by simp_all[T3],by simp_all[B3],fun v=>⟨by simp_all[P6],by simp[a0d,c,(f4 v).2]⟩⟩
    simp_all[Instr.findNow]
   ·refine .inr ⟨j+1,?_,by grind,by simp_all[T3],by simp_all[B3],fun v=>by simp_all[P6],by simp_all[a0d]⟩
    grind [Instr.findNow,B3]
def Mp (M:E0)(H:M0)(S:E0)(r:Nat)(m:List (Int×Int)):Prop:=(∃es clock,H[r]?=some (.map es clock)/\I8 es.toList m)/\S r/\M r
def Mr (H:M0)(S:E0)(r:Nat)(m:List (Int×Int)):Prop:=(∃es clock,H[r]?=some (.map es clock)/\I8 es.toList m)/\¬S r
section
variable {M M':E0}{H H':M0}{S S' S0:E0}{r b:Nat}{m:List (Int×Int)}{w w1 w0:World}{W0 Wf:E0}
theorem Mp.f0D (h:Mp M H S r m):r<H.size:=by obtain⟨⟨_,_,h1,_⟩,_⟩:=h;grind
theorem Mr.f0D (h:Mr H S r m):r<H.size:=by obtain⟨⟨_,_,h1,_⟩,_⟩:=h;grind
def Mr.J1 (k:Y0 H S H' S')(h:Mr H S r m):Mr H' S' r m:=by
 obtain⟨h1,c⟩:=k.blk r h.f0D h.2;obtain⟨⟨es,cl,he,hm⟩,_⟩:=h;exact⟨⟨es,cl,c.trans he,hm⟩,h1⟩
def Mp.J1 (h:Mp M H S r m)(hs:∀b,S b->S' b)(d:H'[r]?=H[r]?):Mp M H' S' r m:=by
 obtain⟨⟨es,cl,he,hm⟩,h1,c⟩:=h;exact⟨⟨es,cl,d.trans he,hm⟩,hs r h1,c⟩
def Mp.ext (h:Mp M w.heap S r m)(c:Below w.heap.size w w1):Mp M w1.heap S r m:=h.J1 (fun _ h=>h) (c.block r h.f0D)
def Mp.lt (h:Mp M H S r m):∀k,(bv r).ownBlock=some k->k<H.size:=fun k hk=>by cases hk;exact h.f0D
def Mp.own (h:Mp M H S r m):∀k,(bv r).ownBlock=some k->S k/\M k:=fun k hk=>by cases hk;exact h.2
def Mp.only (h:Mp M w.heap S r m)(c:T6 b w w1)(hd:r≠b):Mp M w1.heap S r m:=h.J1 (fun _ h=>h) (c.block r h.f0D hd)
def Mp.c04 (h:Mp M H S r m)(hm:∀k,(bv r).ownBlock=some k->M' k):Mp M' H S r m:=⟨h.1,h.2.1,hm r rfl⟩
def Mp.out {vs:List Value}(h:Mp M H S r m)(c:∀k,(bv r).ownBlock=some k->obl vs k):Mp M H (inL vs S0) r m:=⟨h.1,.inr (c r rfl),h.2.2⟩
variable {P:Program}{ops:Array Oper}{n:Nat}{Q:Exit->Act->World->Prop}{l:FL}{a:Act}{o:Oper}{rest:List Oper}
def p00 (w:World)(r:Nat)(m:List (Int×Int)):Prop:=∃es clock,w.heap[r]?=some (.map es clock)/\I8 es.toList m
def p00.old {c:World}(h:p00 w r m)(e:c.heap[r]?=w.heap[r]?):p00 c r m:=by
 obtain⟨es,cl,he,hm⟩:=h;exact⟨es,cl,e.trans he,hm⟩
def g08 {em:Bool}{c:TypeId}{k:Int}(hk:P.underlying c=some (.int .i64))(w:World):(Instr.checkKey em 10000 c (.int .i64 k)).run P w=.ok () w:=by
 show(Instr.checkKey em (9999+1) c (.int .i64 k)).run P w=.ok () w;generalize 9999=q;simp[Instr.checkKey,run_underlying hk]
def d0B {es:Array MapEntry}{cl:Nat}(h:w.heap[r]?=some (.map es cl)):(getObj r).run P w=.ok (.map es cl) w:=by
 simp[getObj,Sem.run,h]
def b0B (w:World)(r:Nat)(c:Obj):World:={ w with heap:=w.heap.setIfInBounds r c }
theorem v0a {d c:Obj}(h:w.heap[r]?=some c):(b0B w r d).heap[r]?=some d:=by
 grind [b0B]
def m0H (w:World)(r:Nat)(c:Obj):T6 r w (b0B w r c):=⟨rfl,rfl,rfl,by simp[b0B],fun k _ hk=>by simp[b0B,Ne.symm hk]⟩
def h01 {c:Obj}{es:Array MapEntry}{cl:Nat}(h:w.heap[r]?=some (.map es cl)):(setObj r c).run P w=.ok () (b0B w r c):=by
 simp[setObj,Sem.run,h,b0B]
def O0M (w:World)(k:Int):(Instr.keyThatStays (.int .i64 k) (.int .i64 k)).run P w=.ok (.int .i64 k) w:=by
 simp[Instr.keyThatStays,Instr.sameBits]
theorem J0y {t g q:TypeId}{es:Array MapEntry}{cl:Nat}{k v:Int}(h:P.underlying t=some (.map g q))(hk:P.underlying g=some (.int .i64))(he:w.heap[r]?=some (.map es cl))(hm:I8 es.toList m):
  ∃c f,(Instr.mapUpdate t (.map (some r)) (.int .i64 k) (.int .i64 v)).run P w=.ok () (b0B w r (.map c f))/\I8 c.toList (P6 m k v):=by
 rcases k0L k es.toList m hm 0 with⟨f1,f2,f3,f4⟩|⟨j,f1,f2,f3,f4,f5,f6⟩
 ·refine⟨es.push ⟨.int .i64 k,.int .i64 v,cl⟩,cl+1,?_,?_⟩
  ·simp[Instr.mapUpdate,run_underlying h,d0B he,g08 hk,Instr.findKey,run_underlying hk,f1,h01 he]
  simp_all[I8]
 ·have s:j<es.size:=O'
  have d:es[j].key=.int .i64 k:=by
   have h1:(es.toList.map (fun e=>(e.key,e.val)))[j]?=(m.map (fun p=>((.int .i64 p.1,.int .i64 p.2):Value×Value)))[j]?:=by rw[hm]
   simp_all
  refine⟨es.modify j fun e=>{ e with key:=.int .i64 k,val:=.int .i64 v },cl,?_,?_⟩
  ·simp[Instr.mapUpdate,run_underlying h,d0B he,g08 hk,Instr.findKey,run_underlying hk,f1,s,d,O0M,h01 he]
  ·apply List.ext_getElem?;intro i;have h1:(es.toList.map (fun e=>(e.key,e.val)))[i]?=(m.map (fun p=>((.int .i64 p.1,.int .i64 p.2):Value×Value)))[i]?:=by rw[hm]
   grind
theorem C0V {t f h k2:TypeId}{ty:TypeId}{es:Array MapEntry}{cl:Nat}{k:Int}(g:P.underlying t=some (.map f h))(hk:P.underlying f=some (.int .i64))(he:w.heap[r]?=some (.map es cl))(hm:I8 es.toList m):
  ∃c d,(Builtin.delete_ #[t,k2] ty #[.map (some r),.int .i64 k]).run P w=.ok (.tuple #[]) (b0B w r (.map c d))/\I8 c.toList (a0d m k):=by
 rcases k0L k es.toList m hm 0 with⟨f1,f2,f3,f4⟩|⟨j,f1,f2,f3,f4,f5,f6⟩
 ·refine⟨es,cl,?_,?_⟩
  ·simp[Builtin.delete_,run_underlying g,d0B he,g08 hk,Instr.findKey,run_underlying hk,f1,h01 he]
  ·rw[(f4 0).2];exact hm
 ·have q:j<es.size:=O'
  refine⟨es.eraseIdxIfInBounds j,cl,?_,?_⟩
  ·simp[Builtin.delete_,run_underlying g,d0B he,g08 hk,Instr.findKey,run_underlying hk,f1,h01 he]
  ·rw[Array.eraseIdxIfInBounds,dif_pos q,Array.toList_eraseIdx];apply List.ext_getElem?;have h1:∀i:Nat,(es.toList.map (fun e=>(e.key,e.val)))[i]?=(m.map (fun p=>((.int .i64 p.1,.int .i64 p.2):Value×Value)))[i]?:=fun i=>by rw[hm]
   simp only[List.getElem?_map]at h1
   grind
end
