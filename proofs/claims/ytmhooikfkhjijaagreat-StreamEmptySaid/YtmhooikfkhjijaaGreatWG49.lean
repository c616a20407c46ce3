/- What can be reckoned, in place of models that cannot. What is sure. Its conditions: none. -/
import Derived.Test.YtmhooikfkhjijaaGreatWMd
import Derived.Test.YtmhooikfkhjijaaGreatWG48
set_option linter.all false
set_option maxRecDepth 100000
noncomputable section
namespace Go.Proofs.YtmhooikfkhjijaaGreat
open Go.V Go.RowKit Go.X
theorem B7 {α β:Type} (x:Option (α×β)):(Option.bind x fun p=>some (p.1,p.2))=x:=by cases x<;>rfl
def J0S (F:Nat) (c:h0r) (begin:Bool):Option (C08×h0r):=
 Option.bind (α:=((List (List Int))×P1)) (
  (
  Option.bind (H0o F c.values) fun clone=>
  some (clone,c.rank))) fun (values,rank)=>
 Option.bind (α:=((List (List Int))×(List (List z05))×P1)) (
  iter (G0l F c) F (0,(values,[],rank))) fun (values3,roads2,rank3)=>
 Option.bind (α:=((List (List Int))×(List (List z05))×P1)) (
  if begin then
   Option.bind (F0t F c) fun begun=>
   if C1 24 values3 [begun] then
    if C1 24 roads2 [c.chart.begin] then
     Option.bind (m0W F c.rank) fun with_=>
     some (values3++[begun],roads2++[c.chart.begin],with_)
    else none
   else none
  else
   some (values3,roads2,rank3)) fun (values4,roads3,rank4)=>
 some ((⟨values4,roads3,rank4⟩:C08),c)
theorem P0I:F0p=J0S:=by
 funext x0 x1 x2;unfold F0p J0S;simp only [s6,B7]<;>rfl
def J09 (F:Nat) (c:h0r) (b:Int) (begin:Bool):Option h0r:=
 Option.bind (J0S F c begin) fun (goers,b0)=>
 Option.bind (G0R F b0 goers b) fun (to,b02)=>
 Option.bind (α:=((List Int)×(List (List Int))×h0r×((List Int)×(List z05)×(List E1)))) (
  iter (E00 F goers to) F ([],[],0,b02,([],[],[]))) fun (places3,values3,y3,(from_3,roads3,hops3))=>
 Option.bind (m0B F y3.chart.l goers.rank from_3 hops3) fun next_=>
 let x2:=W ((places3.length:Int)*(places3.length:Int))
 let x3:=W ((W ((places3.length:Int)*y3.chart.tags))+x2)
 some (⟨y3.chart,W (y3.at_+1),W (y3.work+x3),places3,values3,next_⟩:h0r)
theorem T0i:E0Z=J09:=by
 funext x0 x1 x2 x3;unfold E0Z J09;simp only [s6,B7,P0I]<;>rfl
def K0i (F:Nat):(h0r×(List Int)×Int×Bool)->Int->Option (h0r×(List Int)×Int×Bool)
 |(Crowd,tags,to,is),b=>
 Option.bind (E0T F Crowd) fun at_=>
 Option.bind (α:=Bool) (
  if at_==0 then
   some true
  else
   some (!is)) fun x=>
 Option.bind (J09 F Crowd b x) fun b0=>
 Option.bind (E0L F b0) fun (c0U,best2)=>
 if best2 then
  Option.bind (E0T F b0) fun at_2=>
  if y0 c0U 0 then
   Option.bind (E0Y F b0 (gt c0U 0)) fun b02=>
   some (b02,c0U,at_2,true)
  else none
 else
  some (b0,tags,to,is)
theorem U0Y:F0c=K0i:=by
 funext x0;unfold F0c K0i;simp only [s6,B7,T0i]<;>rfl
def X02 (F:Nat) (p:b0D):Option b0D:=
 Option.bind (α:=(Int×Int×(List Int))) (
  (
  Option.bind (D0G F p.Class) fun clone=>
  some (p.Tags,p.Regs,clone))) fun (Tags,Regs,Class)=>
 Option.bind (α:=(Int×Int×(List Int)×(List C05))) (
  iter (H04 F p) F (0,(Tags,Regs,Class,[]))) fun (Tags3,Regs3,Class3,Stands2)=>
 some (⟨Tags3,Regs3,Class3,Stands2⟩:b0D)
theorem Y0H:G06=X02:=by
 funext x0 x1;unfold G06 X02;simp only [s6,B7]<;>rfl
def P0G (F:Nat) (p:b0D):Option ((Unit ⊕ (C0v×b0D×Int×Int×Int×(List Int)))×Int):=
 Option.bind (H0S F p) fun right=>
 if !right then
  some ((.inl ()),11)
 else
  Option.bind (α:=(C0v×b0D×Int×Int×Int×(List Int))) (
   (
   Option.bind (X02 F p) fun copied=>
   if S5 8 p.Regs then
    some ((⟨[],0⟩:C0v),copied,0,0,0,(List.replicate p.Regs.toNat 0:List Int))
   else none)) fun (last,p2,at_,stand,work,regs)=>
  Option.bind (G0j F (last,p2,at_,stand,work,regs)) fun (last2,p3,at_2,stand2,work2,regs2)=>
  some ((.inr (last2,p3,at_2,stand2,work2,regs2)),0)
theorem Z0q {α β:Type} (o:Option α):(Option.bind o fun _=>(none:Option β))=none:=by cases o<;>rfl
theorem Y02:H0W=P0G:=by
 funext x0 x1;unfold H0W P0G;cases h:S5 8 x1.Regs<;>simp only [s6,B7,Y0H,Bool.false_eq_true,if_true,if_false,Z0q]<;>rfl
def X0U (F:Nat) (b:(List Int)) (d:(Int×(h0r×(List Int)×Int×Bool))):Option (T0 (Int×(h0r×(List Int)×Int×Bool)) (h0r×(List Int)×Int×Bool)):=
 match d with
 |(x,(Crowd2,tags2,to2,is2))=>
 if decide (x<(b.length:Int)) then
  if y0 b x then
   Option.bind (G0a F (⟨(⟨Crowd2,tags2,to2,is2⟩:D0R)⟩:F00)) fun sure=>
   if sure then
    some (.done (Crowd2,tags2,to2,is2))
   else
    Option.bind (K0i F (Crowd2,tags2,to2,is2) (gt b x)) fun (Crowd3,tags3,to3,is3)=>
    some (.next (W (x+1),(Crowd3,tags3,to3,is3)))
  else none
 else
  some (.done (Crowd2,tags2,to2,is2))
theorem Z0e:C0K=X0U:=by
 funext x0 x1 x2;unfold C0K X0U;simp only [s6,B7,U0Y]<;>rfl
def H03 (F:Nat):(F0T×(h0r×(List Int)×Int×Bool))->(List Int)->Option (((Bool×Bool×(List V1))×Int)×(F0T×(h0r×(List Int)×Int×Bool)))
 |(ending,(Crowd,tags,to,is)),b=>
 if ending.closed then
  some (((false,false,[]),13),(ending,(Crowd,tags,to,is)))
 else
  Option.bind (α:=(h0r×(List Int)×Int×Bool)) (
   iter (X0U F b) F (0,(Crowd,tags,to,is))) fun (Crowd4,tags4,to4,is4)=>
  Option.bind (E04 F ((⟨ending.closed,W (ending.count+(b.length:Int))⟩:F0T),(Crowd4,tags4,to4,is4))) fun ((tell,tell2,tell3),(ending2,(Crowd5,tags5,to5,is5)))=>
  some (((tell,tell2,tell3),0),(ending2,(Crowd5,tags5,to5,is5)))
theorem Y0n:C0g=H03:=by
 funext x0;unfold C0g H03;simp only [s6,B7,Z0e]<;>rfl
def I0E (F:Nat) (p:b0D):Option ((Unit ⊕ (F0T×D0d))×Int):=
 Option.bind (α:=((Unit ⊕ (C0v×b0D×Int×Int×Int×(List Int)))×Int)) (
  Option.bind (P0G F p) fun (start,start2)=>
  match start with
  |
   .inl _=>
   some ((.inl ()),start2)
  |
   .inr (last,p2,at_,stand,work,regs)=>
   some ((.inr (last,p2,at_,stand,work,regs)),start2)) fun (r,e)=>
 match r with
 |
  .inl _=>
  if e != 0 then
   some ((.inl ()),e)
  else
   none
 |
  .inr (last2,p3,at_2,stand2,work2,regs2)=>
  if e != 0 then
   some ((.inl ()),e)
  else
   some ((.inr ((⟨false,0⟩:F0T),(⟨last2,p3,at_2,stand2,work2,regs2⟩:D0d))),0)
theorem Y0T:I0l=I0E:=by
 funext x0 x1;unfold I0l I0E;simp only [s6,B7,Y02]<;>rfl
def Y0f (F:Nat):Option Bool:=
 Option.bind (α:=((Unit ⊕ (F0T×(h0r×(List Int)×Int×Bool)))×Int)) (
  Option.bind (X04 F) fun plus=>
  Option.bind (C0R F plus) fun (crowd,crowd2)=>
  match crowd with
  |
   .inl _=>
   some ((.inl ()),crowd2)
  |
   .inr (ending,(Crowd,tags,to,is))=>
   some ((.inr (ending,(Crowd,tags,to,is))),crowd2)) fun (s,e)=>
 match s with
 |
  .inl _=>
  Option.bind (α:=Int) (
   Option.bind (I0E F (⟨0,0,[],[]⟩:b0D)) fun (table3,table4)=>
   match table3 with
   |
    .inl _=>
    some table4
   |
    .inr (ending8,m2)=>
    some table4) fun f2=>
  Option.bind (α:=Bool) (
   if e != 0 then
    some true
   else
    some true) fun x11=>
  Option.bind (α:=Bool) (
   if x11 then
    some true
   else
    some (f2 != 11)) fun x12=>
  if x12 then
   some false
  else
   if !([98,97,97]:List Int).isEmpty then
    none
   else none
 |
  .inr (ending2,(Crowd2,tags2,to2,is2))=>
  Option.bind (α:=Int) (
   Option.bind (I0E F (⟨0,0,[],[]⟩:b0D)) fun (table,table2)=>
   match table with
   |
    .inl _=>
    some table2
   |
    .inr (ending3,m)=>
    some table2) fun f=>
  Option.bind (α:=Bool) (
   if e != 0 then
    some true
   else
    some false) fun x=>
  Option.bind (α:=Bool) (
   if x then
    some true
   else
    some (f != 11)) fun x2=>
  if x2 then
   some false
  else
   if !([98,97,97]:List Int).isEmpty then
    Option.bind (H03 F (ending2,(Crowd2,tags2,to2,is2)) [98,97,97]) fun (((feed,feed2,feed3),feed4),(ending4,(Crowd3,tags3,to3,is3)))=>
    if !([98]:List Int).isEmpty then
     Option.bind (H03 F (ending4,(Crowd3,tags3,to3,is3)) [98]) fun (((feed5,feed6,feed7),feed8),(ending5,(Crowd4,tags4,to4,is4)))=>
     Option.bind (O02 F (ending5,(Crowd4,tags4,to4,is4))) fun (((close,close2,close3),close4),(ending6,(Crowd5,tags5,to5,is5)))=>
     Option.bind (H03 F (ending6,(Crowd5,tags5,to5,is5)) []) fun (((feed9,feed10,feed11),feed12),(ending7,(Crowd6,tags6,to6,is6)))=>
     Option.bind (α:=Bool) (
      if feed then
       some (!feed2)
      else
       some false) fun x3=>
     Option.bind (α:=Bool) (
      if x3 then
       some feed6
      else
       some false) fun x4=>
     Option.bind (α:=Bool) (
      if x4 then
       Option.bind (H9 F close3 [(⟨1,3⟩:V1)]) fun spanne=>
       some spanne
      else
       some false) fun x5=>
     Option.bind (α:=Bool) (
      if x5 then
       some close2
      else
       some false) fun x6=>
     Option.bind (α:=Bool) (
      if x6 then
       some (close4==0)
      else
       some false) fun x7=>
     Option.bind (α:=Bool) (
      if x7 then
       some (feed12==13)
      else
       some false) fun x8=>
     Option.bind (α:=Bool) (
      if x8 then
       some ending7.closed
      else
       some false) fun x9=>
     Option.bind (α:=Bool) (
      if x9 then
       some (ending7.count==4)
      else
       some false) fun x10=>
     some x10
    else none
   else none
theorem Z0k:G0c=Y0f:=by
 funext x0;unfold G0c Y0f;simp only [s6,B7,Y0n,Y0T]<;>rfl
end Go.Proofs.YtmhooikfkhjijaaGreat
end
set_option maxRecDepth 100000
namespace Go.Proofs.YtmhooikfkhjijaaGreat
open Go.V Go.RowKit Old Go.X
theorem H0L:G0c Fb=some true:=by rw [Z0k];kernel_rfl
