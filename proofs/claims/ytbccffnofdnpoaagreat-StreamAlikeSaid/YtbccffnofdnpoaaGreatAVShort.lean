/- P. Its conditions: none. -/
import Derived.Test.YtbccffnofdnpoaaGreatAVMap
set_option linter.all false
namespace Go.V
open Go.RowKit
abbrev ad (b o:Nat):Option Addr:=some ⟨b,o,none⟩
abbrev vI (x:Int):Value:=.int .i64 x
abbrev vB (x:Bool):Value:=.bool x
abbrev vS {α:Type}(A:Option Addr)(xs:List α)(c:Nat):Value:=.slice A xs.length c
section
variable {P:Program}{ops:Array Oper}{n:Nat}{Q:Exit->Act->World->Prop}{l:FL}{a:Act}{w:World}{o:Oper}{rest:List Oper}
def sg {xs:List Oper}(ha:Ag n l a)(k:Nat)(l':FL)(w':World)(hk:∀b,Ag n l' b->wpList P ops Q (xs.drop k) b w')
  (h:a0K P ops n k (l'.map Prod.fst) xs l w=some (xs.drop k,l',w'):=by kernel_rfl):wpList P ops Q xs a w:=j0w ha h hk
def ov (v:Value){w':World}(ha:Ag n l a)(d:(execOp (lk l) o).run P w=.ok (.value v) w')(h:∀b,Ag n (E8 l o.dst v) b->wpList P ops Q rest b w')
  (c:(gate ops l o==some true&&fit n l o)=true:=by kernel_rfl):wpList P ops Q (o :: rest) a w:=d0b ha c d h
variable {listed:Array Bool}{m fuel:Nat}{T:E0}{w0:World}
def dv (i:Nat)(v:Value)(ha:Ag n l a)(hq:NoP Q){o:Oper}(hi:ops[i]?=some o)(f:∀b,Sk T w0 b->(f0z ops m i=true->Q8 w0 b)->(execOp (lk l) o).run P b=.ok (.value v) b)(d:Sd m T w0 listed w)
  (h:Sd m T w0 (listed.setIfInBounds i true) w->∀c,Ag n (E8 l o.dst v) c->wpS P ops Q (Sd m T w0) fuel (listed.setIfInBounds i true) c w)
  (hm:may ops listed m i=true:=by kernel_rfl) (e:(gate ops l o==some true&&fit n l o)=true:=by kernel_rfl):wpS P ops Q (Sd m T w0) (fuel+1) listed a w:=
 y09 ha hq hi hm e f d h
def dk (i:Nat)(v:Value)(ha:Ag n l a)(hq:NoP Q){o:Oper}(hi:ops[i]?=some o)(d:Sd m T w0 listed w)
  (h:Sd m T w0 (listed.setIfInBounds i true) w->∀c,Ag n (E8 l o.dst v) c->wpS P ops Q (Sd m T w0) fuel (listed.setIfInBounds i true) c w)
  (hm:may ops listed m i=true:=by kernel_rfl) (e:(gate ops l o==some true&&fit n l o)=true:=by kernel_rfl) (f:∀b,(execOp (lk l) o).run P b=.ok (.value v) b:=by intro _;kernel_rfl):wpS P ops Q (Sd m T w0) (fuel+1) listed a w:=
 y09 ha hq hi hm e (fun b _ _=>f b) d h
def sq {Q:Exit->Act->World->Prop}{x y:Code}(h:∀K:Act->World->Prop,(∀{a w},y.wp P Q a w->K a w)->x.wp P (Exit.then K Q) a w):(x.seq y).wp P Q a w:=wp_seq_k (fun K b=>h K (fun {a w}=>b a w))
def sj {α:Type _}{x y:α}(h:some x=some y):x=y:=Option.some.inj h
def wn {fn:Func}{R:Value->World->Prop}{c:Code}(h:NoP (bodyPost P fn (fun e w'=>∃v,e=.returned v/\R v w'))->c.wp P (bodyPost P fn (fun e w'=>∃v,e=.returned v/\R v w')) a w):c.wp P (bodyPost P fn (fun e w'=>∃v,e=.returned v/\R v w')) a w:=x0D (O0I _ _) h
abbrev RR {α:Type}(p:World->E0->α->Value->World->Prop)(w:World)(S:E0)(r:α):Ending->World->Prop:=fun e w1=>∃v,e=.returned v/\Below w.heap.size w w1/\p w S r v w1
def pO {α:Type}(T:Ty α)(e:TypeId)(w:World)(S:E0)(r:List α)(v:Value)(w1:World):Prop:=∃(A:Option Addr) (c:Nat),v=.slice A r.length c/\Ow T e (Wr C6 w) w1.heap (inV v S) v r
def itT {α:Sort _}{b:Bool}{x y r:α}(c:b=true)(h:(if b then x else y)=r):x=r:=(J0e c).symm.trans h
def itF {α:Sort _}{b:Bool}{x y r:α}(c:b=false)(h:(if b then x else y)=r):y=r:=(J0a c).symm.trans h
end
