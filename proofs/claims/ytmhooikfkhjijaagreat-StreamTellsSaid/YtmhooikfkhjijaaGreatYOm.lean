/- P. Its conditions: none. -/
import Derived.Test.YtmhooikfkhjijaaGreatYMd
import Derived.Test.YtmhooikfkhjijaaGreatYG26
set_option linter.all false
set_option maxRecDepth 20000
namespace Go.Proofs.YtmhooikfkhjijaaGreat.Old
open Go.V Go.RowKit
def l02 (a:U0):Prop:=(inK .i64) a.Kind/\(inK .i64) a.A/\(inK .i64) a.B/\(inK .i64) a.N/\(a.Set.length=4/\∀y∈a.Set,inK .u64 y)
def D0T (c:Nat)(a:Int):Option (Bool×Bool):=
 Option.bind ((
 if(decide (a>=3))then
  if(a==3)then
   some ((decide (a<=8)),true)
  else
   some ((decide (a<=8)),(a==4))
 else
  if(a==3)then
   some (false,true)
  else
   some (false,(a==4))):Option (Bool×Bool)) fun b=>match b with
|
 (x1,x2)=>
 some (x1,x2)
def E0E (f:Nat)(a:(List U0))(g:List Int)(h:Int)(c:Int)(d:Int):Option (T0 (Int) ((Unit)⊕((List Int)))):=
 let b:=d
 if(decide (b<c))then
  Option.bind ((
   if(((gt a c).Kind)==7)then
    if y0 a b then
     if(((gt a b).Kind)==7)then
      if y0 a b then
       some (((gt a b).N)==((gt a c).N))
      else none
     else
      some false
    else none
   else
    some false):Option (Bool)) fun e=>
   if e then
    some (.done (.inr ([]:List Int)))
   else
    some (.next (W (b+1)))
 else
  some (.done (.inl ()))
def F0j (d:Nat)(a:(List U0))(f:List Int×Int×Int):Option (T0 (List Int×Int×Int) ((List Int×Int)⊕((List Int)))):=
 let(x1,x2,x3):=f
 if(decide (x3<(a.length:Int)))then
  if y0 a x3 then
   Option.bind (D0T d ((gt a x3).Kind)) fun b=>
    if y0 x1 x3 then
     Option.bind ((
      if(decide (((gt a x3).Kind)<1))then
       some true
      else
       if(decide (((gt a x3).Kind)>8))then
        some true
       else
        if(((gt a x3).Kind) != 2)then
         if(!(((gt ((gt a x3).Set) 0)==0)&&(((gt ((gt a x3).Set) 1)==0)&&(((gt ((gt a x3).Set) 2)==0)&&((gt ((gt a x3).Set) 3)==0)))))then
          some true
         else
          if(((gt a x3).Kind) != 7)then
           if(((gt a x3).N) != 0)then
            some true
           else
            if(((gt a x3).Kind)==7)then
             if(decide (((gt a x3).N)<1))then
              some true
             else
              some (decide (((gt a x3).N)>9))
            else
             some false
          else
           if(((gt a x3).Kind)==7)then
            if(decide (((gt a x3).N)<1))then
             some true
            else
             some (decide (((gt a x3).N)>9))
           else
            some false
        else
         if(((gt a x3).Kind) != 7)then
          if(((gt a x3).N) != 0)then
           some true
          else
           if(((gt a x3).Kind)==7)then
            if(decide (((gt a x3).N)<1))then
             some true
            else
             some (decide (((gt a x3).N)>9))
           else
            some false
         else
          if(((gt a x3).Kind)==7)then
           if(decide (((gt a x3).N)<1))then
            some true
           else
            some (decide (((gt a x3).N)>9))
          else
           some false):Option (Bool)) fun g=>
      if g then
       some (.done (.inr ([]:List Int)))
      else
       Option.bind ((
        if(!b.1)then
         if(((gt a x3).A) != (-1))then
          some true
         else
          if(!b.2)then
           some (((gt a x3).B) != (-1))
          else
           some false
        else
         if(!b.2)then
          some (((gt a x3).B) != (-1))
         else
          some false):Option (Bool)) fun k=>
        if k then
         some (.done (.inr ([]:List Int)))
        else
         Option.bind ((
          if(((gt a x3).Kind)==2)then
           some (W (x2+1))
          else
           some x2):Option (Int)) fun e=>
          Option.bind ((
           if b.2 then
            Option.bind ((
             if(((gt a x3).B) != (W (x3-1)))then
              some true
             else
              some (decide ((W (x3-1))<0))):Option (Bool)) fun m=>
             if m then
              some (.inr ([]:List Int))
             else
              if y0 (x1.set (Int.toNat x3) x3) (W (x3-1))then
               some (.inl (W ((gt (x1.set (Int.toNat x3) x3) (W (x3-1)))-1)))
              else none
           else
            some (.inl (W (x3-1)))):Option ((Int)⊕((List Int)))) fun j=>match j with
          |
           .inl x8=>
           Option.bind ((
            if b.1 then
             Option.bind ((
              if(((gt a x3).A) != x8)then
               some true
              else
               some (decide (x8<0))):Option (Bool)) fun i=>
              if i then
               some (.inr ([]:List Int))
              else
               if y0 (x1.set (Int.toNat x3) x3) x8 then
                if y0 (x1.set (Int.toNat x3) x3) x3 then
                 some (.inl ((x1.set (Int.toNat x3) x3).set (Int.toNat x3) (gt (x1.set (Int.toNat x3) x3) x8)))
                else none
               else none
            else
             some (.inl (x1.set (Int.toNat x3) x3))):Option ((List Int)⊕((List Int)))) fun h=>match h with
           |
            .inl x10=>
            if y0 x10 x3 then
             Option.bind (iter (E0E d a x10 e x3) d (gt x10 x3)) fun l=>match l with
             |
              .inl _=>
              some (.next (x10,e,(W (x3+1))))
             |.inr c=>some (.done (.inr c))
            else none
           |.inr c=>some (.done (.inr c))
          |.inr c=>some (.done (.inr c))
    else none
  else none
 else
  some (.done (.inl (x1,x2)))
def D0H (b:Nat)(a:(List U0)):Option ((List Int)):=
 if S5 8 (a.length:Int)then
 Option.bind (iter (F0j b a) b ((List.replicate (Int.toNat (a.length:Int)) (0:Int)),0,0)) fun e=>match e with
 |
  .inl (y1,y2)=>
  Option.bind ((
   if((a.length:Int)==0)then
    some true
   else
    if(decide ((a.length:Int)>400))then
     some true
    else
     if(decide (y2>64))then
      some true
     else
      if y0 y1 (W ((a.length:Int)-1))then
       some ((gt y1 (W ((a.length:Int)-1))) != 0)
      else none):Option (Bool)) fun c=>
   if c then
    some ([]:List Int)
   else
    if H0b y1 then some y1 else none
 |.inr d=>some d
else none
def C0n (c:Nat)(a:(List U0)):Option (Bool):=
 Option.bind (D0H c a) fun b=>
 some (!(b.isEmpty))
def p0i (m:Nat)(b:(List U0))(c:(List Int))(a:Int):Option (Int):=
 if y0 b a then
 Option.bind ((
  Option.bind ((
   Option.bind ((
    if(((gt b a).Kind)==1)then
     some (((gt b a).Kind)==1)
    else
     some (((gt b a).Kind)==2)):Option (Bool)) fun f=>
    if f then
     Option.bind ((
      if(((gt b a).A)==(-1))then
       some (((gt b a).B)==(-1))
      else
       some false):Option (Bool)) fun e=>
      if e then
       some (.inr a)
      else
       some (.inl ())
    else
     Option.bind ((
      if(((gt b a).Kind)==3)then
       some (((gt b a).Kind)==3)
      else
       some (((gt b a).Kind)==4)):Option (Bool)) fun j=>
      if j then
       Option.bind ((
        if(decide (((gt b a).B)>=0))then
         if(((gt b a).B)==(W (a-1)))then
          if(decide (((gt b a).A)>=0))then
           if y0 c ((gt b a).B)then
            some (((gt b a).A)==(W ((gt c ((gt b a).B))-1)))
           else none
          else
           some false
         else
          some false
        else
         some false):Option (Bool)) fun h=>
        if h then
         if y0 c ((gt b a).A)then
          some (.inr (gt c ((gt b a).A)))
         else none
        else
         some (.inl ())
      else
       Option.bind ((
        if(((gt b a).Kind)==5)then
         some (((gt b a).Kind)==5)
        else
         if(((gt b a).Kind)==6)then
          some (((gt b a).Kind)==6)
         else
          if(((gt b a).Kind)==7)then
           some (((gt b a).Kind)==7)
          else
           some (((gt b a).Kind)==8)):Option (Bool)) fun g=>
        if g then
         Option.bind ((
          if(((gt b a).B)==(-1))then
           if(decide (((gt b a).A)>=0))then
            some (((gt b a).A)==(W (a-1)))
           else
            some false
          else
           some false):Option (Bool)) fun k=>
          if k then
           if y0 c ((gt b a).A)then
            some (.inr (gt c ((gt b a).A)))
           else none
          else
           some (.inl ())
        else
         some (.inl ())):Option ((Unit)⊕(Int))) fun l=>match l with
  |
   .inl _=>
   some (.inl ())
  |.inr d=>some (.inr d)):Option ((Unit)⊕(Int))) fun i=>match i with
 |
  .inl _=>
  some (-1)
 |.inr d=>some d
else none
def m0O (d:Nat)(a:U0):Option (Bool):=
 Option.bind ((
 if(a.Kind != 2)then
  some (!(((gt a.Set 0)==0)&&(((gt a.Set 1)==0)&&(((gt a.Set 2)==0)&&((gt a.Set 3)==0)))))
 else
  some false):Option (Bool)) fun b=>
 if b then
  some false
 else
  if(a.Kind==7)then
   Option.bind ((
    if(decide (a.N>=1))then
     some (decide (a.N<=9))
    else
     some false):Option (Bool)) fun c=>
    some c
  else
   some (a.N==0)
def E0n (f:Nat)(c:U0)(b:(List U0))(e:Int):Option (T0 (Int) ((Unit)⊕(Bool))):=
 let a:=e
 if(decide (a<(b.length:Int)))then
  if y0 b a then
   Option.bind ((
    if(c.Kind==7)then
     if(((gt b a).Kind)==7)then
      some (((gt b a).N)==c.N)
     else
      some false
    else
     some false):Option (Bool)) fun d=>
    if d then
     some (.done (.inr true))
    else
     some (.next (W (a+1)))
  else none
 else
  some (.done (.inl ()))
def o01 (a:Nat)(b:U0)(c:(List U0)):Option (Bool):=
 Option.bind (iter (E0n a b c) a 0) fun e=>match e with
|
 .inl _=>
 some false
|.inr d=>some d
def E06 (c:Nat)(a:(List U0))(d:List Int×Int×Int):Option (T0 (List Int×Int×Int) ((List Int×Int)⊕((List Int)))):=
 let(x2,x3,x4):=d
 if(decide (x4<(a.length:Int)))then
  if y0 a x4 then
   Option.bind (p0i c a x2 x4) fun b=>
    Option.bind ((
     if(decide (b<0))then
      some true
     else
      Option.bind (m0O c (gt a x4)) fun e=>
       if(!e)then
        some true
       else
        if C3 a b x4 then
         Option.bind (o01 c (gt a x4) (L1 a b x4)) fun f=>
          some f
        else none):Option (Bool)) fun g=>
     if g then
      some (.done (.inr ([]:List Int)))
     else
      Option.bind ((
       if(((gt a x4).Kind)==2)then
        some (W (x3+1))
       else
        some x3):Option (Int)) fun h=>
       if C1 8 x2 [b]then
        some (.next ((x2++[b]),h,(W (x4+1))))
       else none
  else none
 else
  some (.done (.inl (x2,x3)))
def b0e (b:Nat)(a:(List U0)):Option ((List Int)):=
 Option.bind ((
 if((a.length:Int)==0)then
  some true
 else
  some (decide ((a.length:Int)>400))):Option (Bool)) fun d=>
 if d then
  some ([]:List Int)
 else
  Option.bind (iter (E06 b a) b (([]:List Int),0,0)) fun f=>match f with
  |
   .inl (y1,y2)=>
   Option.bind ((
    if(decide (y2>64))then
     some true
    else
     if y0 y1 (W ((a.length:Int)-1))then
      some ((gt y1 (W ((a.length:Int)-1))) != 0)
     else none):Option (Bool)) fun c=>
    if c then
     some ([]:List Int)
    else
     if H0b y1 then some y1 else none
  |.inr e=>some e
def R7 (c:Nat)(a:(List U0)):Option (Bool):=
 Option.bind (b0e c a) fun b=>
 some (decide ((b.length:Int)>0))
def E0X (i:Nat)(a:(List U0))(b:List Bool×Int):Option (T0 (List Bool×Int) (List Bool)):=
 let(x2,x3):=b
 if(decide (x3<(a.length:Int)))then
  Option.bind ((
   if y0 a x3 then
    Option.bind ((
     Option.bind ((
      if(((gt a x3).Kind)==1)then
       some (((gt a x3).Kind)==1)
      else
       if(((gt a x3).Kind)==5)then
        some (((gt a x3).Kind)==5)
       else
        some (((gt a x3).Kind)==6)):Option (Bool)) fun g=>
      if g then
       if y0 x2 x3 then
        some (x2.set (Int.toNat x3) true)
       else none
      else
       if(((gt a x3).Kind)==3)then
        Option.bind ((
         if y0 x2 ((gt a x3).A)then
          if(gt x2 ((gt a x3).A))then
           if y0 x2 ((gt a x3).B)then
            if y0 x2 x3 then
             some (x2.set (Int.toNat x3) (gt x2 ((gt a x3).B)))
            else none
           else none
          else
           if y0 x2 x3 then
            some (x2.set (Int.toNat x3) false)
           else none
         else none):Option (List Bool)) fun e=>
         some e
       else
        if(((gt a x3).Kind)==4)then
         Option.bind ((
          if y0 x2 ((gt a x3).A)then
           if(gt x2 ((gt a x3).A))then
            if y0 x2 x3 then
             some (x2.set (Int.toNat x3) true)
            else none
           else
            if y0 x2 ((gt a x3).B)then
             if y0 x2 x3 then
              some (x2.set (Int.toNat x3) (gt x2 ((gt a x3).B)))
             else none
            else none
          else none):Option (List Bool)) fun f=>
          some f
        else
         Option.bind ((
          if(((gt a x3).Kind)==7)then
           some (((gt a x3).Kind)==7)
          else
           some (((gt a x3).Kind)==8)):Option (Bool)) fun h=>
          if h then
           if y0 x2 ((gt a x3).A)then
            if y0 x2 x3 then
             some (x2.set (Int.toNat x3) (gt x2 ((gt a x3).A)))
            else none
           else none
          else
           some x2):Option (List Bool)) fun c=>
     some c
   else none):Option (List Bool)) fun d=>
   some (.next (d,(W (x3+1))))
 else
  some (.done x2)
def e0l (b:Nat)(a:(List U0)):Option ((List Bool)):=
 Option.bind (R7 b a) fun c=>
 if(!c)then
  some ([]:List Bool)
 else
  if S5 1 (a.length:Int)then
   Option.bind (iter (E0X b a) b ((List.replicate (Int.toNat (a.length:Int)) false),0)) fun d=>
    some d
  else none
def a08 (a:Nat):Nat->(List U0)->(List Bool)->Int->(List Int)->Option ((List Int))
 |0,_,_,_,_=>none
 |
  k+1,p0,p1,p2,p3=>
  if C1 8 p3 [(W (2*p2))]then
   if y0 p0 p2 then
    Option.bind ((
     Option.bind ((
      if(((gt p0 p2).Kind)==3)then
       Option.bind (a08 a k p0 p1 ((gt p0 p2).A) (p3++[(W (2*p2))])) fun f=>
        Option.bind (a08 a k p0 p1 ((gt p0 p2).B) f) fun e=>
         some e
      else
       if(((gt p0 p2).Kind)==4)then
        if y0 p1 ((gt p0 p2).A)then
         if(gt p1 ((gt p0 p2).A))then
          Option.bind (a08 a k p0 p1 ((gt p0 p2).A) (p3++[(W (2*p2))])) fun d=>
           some d
         else
          Option.bind (a08 a k p0 p1 ((gt p0 p2).B) (p3++[(W (2*p2))])) fun i=>
           some i
        else none
       else
        Option.bind ((
         if(((gt p0 p2).Kind)==7)then
          some (((gt p0 p2).Kind)==7)
         else
          some (((gt p0 p2).Kind)==8)):Option (Bool)) fun g=>
         if g then
          Option.bind (a08 a k p0 p1 ((gt p0 p2).A) (p3++[(W (2*p2))])) fun h=>
           some h
         else
          some (p3++[(W (2*p2))])):Option (List Int)) fun c=>
      some c):Option (List Int)) fun b=>
     if C1 8 b [(W ((W (2*p2))+1))]then
      some (b++[(W ((W (2*p2))+1))])
     else none
   else none
  else none
def g0H (c:Nat)(d:(List U0))(a:Int):Option ((List Int)):=
 Option.bind (e0l c d) fun b=>
 Option.bind ((
  if(decide (a<0))then
   some true
  else
   if(decide (a>=(b.length:Int)))then
    some true
   else
    if y0 b a then
     some (!(gt b a))
    else none):Option (Bool)) fun e=>
  if e then
   some ([]:List Int)
  else
   Option.bind (a08 c c d b a ([]:List Int)) fun f=>
    some f
def F0k (e:Nat)(a:(List U0))(c:List Int×Int):Option (T0 (List Int×Int) (List Int)):=
 let(x2,x3):=c
 if(decide (x3<(a.length:Int)))then
  Option.bind ((
   if y0 a x3 then
    Option.bind ((
     if(decide (((gt a x3).A)>=0))then
      if y0 x2 ((gt a x3).A)then
       some (x2.set (Int.toNat ((gt a x3).A)) x3)
      else none
     else
      some x2):Option (List Int)) fun b=>
     if(decide (((gt a x3).B)>=0))then
      if y0 b ((gt a x3).B)then
       some (b.set (Int.toNat ((gt a x3).B)) x3)
      else none
     else
      some b
   else none):Option (List Int)) fun d=>
   some (.next (d,(W (x3+1))))
 else
  some (.done x2)
def d0T (b:Nat)(a:(List U0)):Option ((List Int)):=
 Option.bind (R7 b a) fun c=>
 if(!c)then
  some ([]:List Int)
 else
  if S5 8 (a.length:Int)then
   if y0 (List.replicate (Int.toNat (a.length:Int)) (0:Int)) (W ((a.length:Int)-1))then
    Option.bind (iter (F0k b a) b (((List.replicate (Int.toNat (a.length:Int)) (0:Int)).set (Int.toNat (W ((a.length:Int)-1))) (-1)),0)) fun d=>
     some d
   else none
  else none
def F0P (d:Nat)(a:(List Int))(b:List Int×Int):Option (T0 (List Int×Int) (List Int)):=
 let(x2,x3):=b
 if(decide (x3>=0))then
  Option.bind ((
   if y0 x2 x3 then
    if y0 a x3 then
     if(decide ((gt a x3)>=0))then
      if y0 (x2.set (Int.toNat x3) 1) x3 then
       if y0 a x3 then
        if y0 (x2.set (Int.toNat x3) 1) (gt a x3)then
         if y0 (x2.set (Int.toNat x3) 1) x3 then
          some ((x2.set (Int.toNat x3) 1).set (Int.toNat x3) (W ((gt (x2.set (Int.toNat x3) 1) x3)+(gt (x2.set (Int.toNat x3) 1) (gt a x3)))))
         else none
        else none
       else none
      else none
     else
      some (x2.set (Int.toNat x3) 1)
    else none
   else none):Option (List Int)) fun c=>
   some (.next (c,(W (x3-1))))
 else
  some (.done x2)
def i0V (b:Nat)(c:(List U0)):Option ((List Int)):=
 Option.bind (d0T b c) fun a=>
 if S5 8 (a.length:Int)then
  Option.bind (iter (F0P b a) b ((List.replicate (Int.toNat (a.length:Int)) (0:Int)),(W ((a.length:Int)-1)))) fun d=>
   some d
 else none
def E0V (d:Nat)(a:(List U0))(b:List Int×Int):Option (T0 (List Int×Int) (List Int)):=
 let(x2,x3):=b
 if(decide (x3<(a.length:Int)))then
  Option.bind ((
   if y0 a x3 then
    if(((gt a x3).Kind)==2)then
     if C1 8 x2 [x3]then
      some (x2++[x3])
     else none
    else
     some x2
   else none):Option (List Int)) fun c=>
   some (.next (c,(W (x3+1))))
 else
  some (.done x2)
def a0I (a:Nat)(b:(List U0)):Option ((List Int)):=
 Option.bind (R7 a b) fun c=>
 if(!c)then
  some ([]:List Int)
 else
  Option.bind (iter (E0V a b) a (([]:List Int),0)) fun d=>
   some d
def F0Z (c:Nat)(a:(List U0))(b:List Int×Int):Option (T0 (List Int×Int) (List Int)):=
 let(x2,x3):=b
 if(decide (x3<((List.replicate (Int.toNat (a.length:Int)) (0:Int)).length:Int)))then
  if y0 x2 x3 then
   some (.next ((x2.set (Int.toNat x3) (-1)),(W (x3+1))))
  else none
 else
  some (.done x2)
def F0F (c:Nat)(d:List Int)(a:(List Int))(b:List Int×Int):Option (T0 (List Int×Int) (List Int)):=
 let(x5,x6):=b
 if(decide (x6<(a.length:Int)))then
  if y0 a x6 then
   if y0 x5 (gt a x6)then
    some (.next ((x5.set (Int.toNat (gt a x6)) x6),(W (x6+1))))
   else none
  else none
 else
  some (.done x5)
def l0A (a:Nat)(b:(List U0)):Option ((List Int)):=
 Option.bind (R7 a b) fun d=>
 if(!d)then
  some ([]:List Int)
 else
  if S5 8 (b.length:Int)then
   Option.bind (iter (F0Z a b) a ((List.replicate (Int.toNat (b.length:Int)) (0:Int)),0)) fun c=>
    Option.bind (a0I a b) fun f=>
     Option.bind (iter (F0F a c f) a (c,0)) fun e=>
      some e
  else none
def i0z (b:Nat)(a:(List U0)):Option ((Option B5)×Bool):=
 Option.bind (R7 b a) fun d=>
 if(!d)then
  some (none,false)
 else
  Option.bind (d0T b a) fun c=>
   Option.bind (i0V b a) fun g=>
    Option.bind (l0A b a) fun f=>
     Option.bind (e0l b a) fun e=>
      some ((some (⟨a,c,g,f,e⟩:B5)),true)
def h0N (d:Nat)(c:(List U0))(a:Int):Option ((Option B5)×Int×Bool):=
 Option.bind (i0z d c) fun e=>
 if(!e.2)then
  some (none,0,false)
 else
  Option.bind (a0I d c) fun b=>
   Option.bind ((
    if(decide (a<0))then
     some true
    else
     some (decide (a>=(b.length:Int)))):Option (Bool)) fun f=>
    if f then
     some (none,0,false)
    else
     if y0 b a then
      some (e.1,(gt b a),true)
     else none
def d0i (c:Nat)(a:(List Int))(b:(List Int)):Option ((List Int)):=
 if C3 a 0 (a.length:Int)then
 if(decide ((a.length:Int)<=(a.length:Int))&&decide ((a.length:Int)<=(a.length:Int)))then
  if C1 8 (L1 a 0 (a.length:Int)) b then
   some ((L1 a 0 (a.length:Int))++b)
  else none
 else none
else none
def F9 (a:Nat):Nat->B5->Int->(List Int)->(List E1)->Option ((List E1))
 |0,_,_,_,_=>none
 |
  k+1,p0,p1,p2,p3=>
  if y0 p0.l p1 then
   Option.bind (d0i a p2 [(W (2*p1))]) fun b=>
    Option.bind ((
     Option.bind ((
      if(((gt p0.l p1).Kind)==2)then
       if y0 p0.index p1 then
        if C1 40 p3 [(⟨(gt p0.index p1),(0:Int),b⟩:E1)]then
         some (.inr (p3++[(⟨(gt p0.index p1),(0:Int),b⟩:E1)]))
        else none
       else none
      else
       if(((gt p0.l p1).Kind)==3)then
        Option.bind (F9 a k p0 ((gt p0.l p1).A) b p3) fun d=>
         if y0 p0.can ((gt p0.l p1).A)then
          if(gt p0.can ((gt p0.l p1).A))then
           Option.bind (g0H a p0.l ((gt p0.l p1).A)) fun f=>
            Option.bind (d0i a b f) fun m=>
             Option.bind (F9 a k p0 ((gt p0.l p1).B) m d) fun h=>
              some (.inl h)
          else
           some (.inl d)
         else none
       else
        if(((gt p0.l p1).Kind)==4)then
         Option.bind (F9 a k p0 ((gt p0.l p1).A) b p3) fun j=>
          Option.bind (F9 a k p0 ((gt p0.l p1).B) b j) fun o=>
           some (.inl o)
        else
         Option.bind ((
          if(((gt p0.l p1).Kind)==5)then
           some (((gt p0.l p1).Kind)==5)
          else
           if(((gt p0.l p1).Kind)==6)then
            some (((gt p0.l p1).Kind)==6)
           else
            if(((gt p0.l p1).Kind)==7)then
             some (((gt p0.l p1).Kind)==7)
            else
             some (((gt p0.l p1).Kind)==8)):Option (Bool)) fun e=>
          if e then
           Option.bind (F9 a k p0 ((gt p0.l p1).A) b p3) fun i=>
            some (.inl i)
          else
           some (.inl p3)):Option ((List E1)⊕((List E1)))) fun n=>match n with
     |
      .inl x3=>
      some (.inl x3)
     |.inr c=>some (.inr c)):Option ((List E1)⊕((List E1)))) fun g=>match g with
    |
     .inl x2=>
     some x2
    |.inr c=>some c
  else none
def L0n (c:Nat)(a:E1)(b:E1):Option (Bool):=
 some (a.To==b.To)
def E0S (d:Nat)(b:(List E1))(c:E1)(f:Int):Option (T0 (Int) ((Unit)⊕(Int))):=
 let a:=f
 if(decide (a<(b.length:Int)))then
  if y0 b a then
   Option.bind (L0n d (gt b a) c) fun e=>
    if e then
     some (.done (.inr a))
    else
     some (.next (W (a+1)))
  else none
 else
  some (.done (.inl ()))
def K0W (a:Nat)(b:(List E1))(c:E1):Option (Int):=
 Option.bind (iter (E0S a b c) a 0) fun e=>match e with
|
 .inl _=>
 some (-1)
|.inr d=>some d
def J0y (d:Nat)(a:(List E1))(b:E1):Option (Bool):=
 Option.bind (K0W d a b) fun c=>
 some (decide (c>=0))
def F0h (d:Nat)(b:B5)(c:Int)(h:(List E1))(a:(List E1))(e:List E1×Int):Option (T0 (List E1×Int) (List E1)):=
 let(x2,x3):=e
 if(decide (x3<(a.length:Int)))then
  Option.bind ((
   if y0 a x3 then
    Option.bind (J0y d x2 (gt a x3)) fun f=>
     if(!f)then
      if y0 b.deep c then
       if C1 40 x2 [(⟨(gt a x3).To,(gt b.deep c),(gt a x3).Steps⟩:E1)]then
        some (x2++[(⟨(gt a x3).To,(gt b.deep c),(gt a x3).Steps⟩:E1)])
       else none
      else none
     else
      some x2
   else none):Option (List E1)) fun g=>
   some (.next (g,(W (x3+1))))
 else
  some (.done x2)
def h0E (a:Nat)(b:B5)(d:Int)(h:Int)(g:(List Int))(c:(List E1)):Option ((List E1)):=
 Option.bind (F9 a a b h g ([]:List E1)) fun f=>
 Option.bind (iter (F0h a b d c f) a (c,0)) fun e=>
  some e
def D01 (b:Nat)(a:B5)(m:Int)(f:Int×List Int×List E1×Int):Option (T0 (Int×List Int×List E1×Int) ((List Int×List E1)⊕((List E1)×(List Int)))):=
 let(x1,x2,x3,x4):=f
 if(decide (x4>=0))then
  if y0 a.l x4 then
   Option.bind ((
    Option.bind ((
     if(((gt a.l x4).Kind)==3)then
      some (((gt a.l x4).A)==x1)
     else
      some false):Option (Bool)) fun h=>
     if h then
      Option.bind (h0E b a x4 ((gt a.l x4).B) x2 x3) fun c=>
       if y0 a.can ((gt a.l x4).B)then
        if(!(gt a.can ((gt a.l x4).B)))then
         some (.inr (c,([]:List Int)))
        else
         Option.bind (g0H b a.l ((gt a.l x4).B)) fun k=>
          Option.bind (d0i b x2 k) fun e=>
           some (.inl (e,c))
       else none
     else
      if(((gt a.l x4).Kind)==5)then
       Option.bind (h0E b a x4 ((gt a.l x4).A) x2 x3) fun i=>
        some (.inl (x2,i))
      else
       some (.inl (x2,x3))):Option ((List Int×List E1)⊕((List E1)×(List Int)))) fun g=>match g with
   |
    .inl (x5,x6)=>
    Option.bind (d0i b x5 [(W ((W (2*x4))+1))]) fun d=>
     if y0 a.up x4 then
      some (.next (x4,d,x6,(gt a.up x4)))
     else none
   |.inr j=>some (.done (.inr j))
  else none
 else
  some (.done (.inl (x2,x3)))
def k0q (c:Nat)(b:B5)(a:Int):Option ((List E1)×(List Int)):=
 if y0 b.up a then
 Option.bind (iter (D01 c b a) c (a,[(W ((W (2*a))+1))],([]:List E1),(gt b.up a))) fun e=>match e with
 |
  .inl (y1,y2)=>
  some (y2,y1)
 |.inr d=>some d
else none
def g0v (b:Nat)(a:(List U0))(d:Int):Option (E1×Bool):=
 Option.bind ((
 if(d==(-1))then
  Option.bind (g0H b a (W ((a.length:Int)-1))) fun f=>
   some f
 else
  Option.bind (h0N b a d) fun c=>
   if c.2.2 then
    Option.bind c.1 fun h=>
     Option.bind (k0q b h c.2.1) fun g=>
      some g.2
   else
    some ([]:List Int)):Option (List Int)) fun e=>
 if((e.length:Int)==0)then
  some ((⟨(0:Int),(0:Int),[]⟩:E1),false)
 else
  some ((⟨(-1),(0:Int),e⟩:E1),true)
def F0z (c:Nat)(a:(List E1))(b:List E1×Int):Option (T0 (List E1×Int) (List E1)):=
 let(x1,x2):=b
 if(decide (x2<(a.length:Int)))then
  if y0 x1 x2 then
   if S5 8 (((gt x1 x2).Steps).length:Int)then
    if y0 x1 x2 then
     if y0 x1 x2 then
      some (.next ((x1.set (Int.toNat x2) (⟨(gt x1 x2).To,(gt x1 x2).Turn,(P2 (List.replicate (Int.toNat (((gt x1 x2).Steps).length:Int)) (0:Int)) ((gt x1 x2).Steps))⟩:E1)),(W (x2+1))))
     else none
    else none
   else none
  else none
 else
  some (.done x1)
def j0p (b:Nat)(a:(List E1)):Option ((List E1)):=
 Option.bind (iter (F0z b a) b (a,0)) fun c=>
 some c
def o0v (a:Nat)(c:(List U0))(b:Int):Option ((List E1)):=
 Option.bind (i0z a c) fun d=>
 Option.bind ((
  if(!d.2)then
   some true
  else
   if(decide (b<0))then
    some true
   else
    some (decide (b>=(c.length:Int)))):Option (Bool)) fun e=>
  if e then
   some ([]:List E1)
  else
   Option.bind d.1 fun h=>
    Option.bind (F9 a a h b ([]:List Int) ([]:List E1)) fun g=>
     Option.bind (j0p a g) fun f=>
      some f
def o04 (a:Nat)(d:(List U0))(e:Int):Option ((List E1)):=
 Option.bind (h0N a d e) fun b=>
 if(!b.2.2)then
  some ([]:List E1)
 else
  Option.bind b.1 fun f=>
   Option.bind (k0q a f b.2.1) fun c=>
    if b07 E1.To c.1 then
     Option.bind (j0p a (K5 E1.To c.1)) fun g=>
      some g
    else none
def E0P (d:Nat)(a:(List U0))(b:List Int×Int):Option (T0 (List Int×Int) (List Int)):=
 let(x2,x3):=b
 if(decide (x3<(a.length:Int)))then
  Option.bind ((
   if y0 a x3 then
    if(((gt a x3).Kind)==2)then
     if C1 8 x2 [x3]then
      some (x2++[x3])
     else none
    else
     some x2
   else none):Option (List Int)) fun c=>
   some (.next (c,(W (x3+1))))
 else
  some (.done x2)
def C0z (a:Nat)(b:(List U0)):Option ((List Int)):=
 Option.bind (C0n a b) fun c=>
 if(!c)then
  some ([]:List Int)
 else
  Option.bind (iter (E0P a b) a (([]:List Int),0)) fun d=>
   some d
def E0Q (i:Nat)(a:(List U0))(b:List Bool×Int):Option (T0 (List Bool×Int) (List Bool)):=
 let(x2,x3):=b
 if(decide (x3<(a.length:Int)))then
  Option.bind ((
   if y0 a x3 then
    Option.bind ((
     Option.bind ((
      if(((gt a x3).Kind)==1)then
       some (((gt a x3).Kind)==1)
      else
       if(((gt a x3).Kind)==5)then
        some (((gt a x3).Kind)==5)
       else
        some (((gt a x3).Kind)==6)):Option (Bool)) fun g=>
      if g then
       if y0 x2 x3 then
        some (x2.set (Int.toNat x3) true)
       else none
      else
       if(((gt a x3).Kind)==3)then
        Option.bind ((
         if y0 a x3 then
          if y0 x2 ((gt a x3).A)then
           if(gt x2 ((gt a x3).A))then
            if y0 a x3 then
             if y0 x2 ((gt a x3).B)then
              if y0 x2 x3 then
               some (x2.set (Int.toNat x3) (gt x2 ((gt a x3).B)))
              else none
             else none
            else none
           else
            if y0 x2 x3 then
             some (x2.set (Int.toNat x3) false)
            else none
          else none
         else none):Option (List Bool)) fun e=>
         some e
       else
        if(((gt a x3).Kind)==4)then
         Option.bind ((
          if y0 a x3 then
           if y0 x2 ((gt a x3).A)then
            if(gt x2 ((gt a x3).A))then
             if y0 x2 x3 then
              some (x2.set (Int.toNat x3) true)
             else none
            else
             if y0 a x3 then
              if y0 x2 ((gt a x3).B)then
               if y0 x2 x3 then
                some (x2.set (Int.toNat x3) (gt x2 ((gt a x3).B)))
               else none
              else none
             else none
           else none
          else none):Option (List Bool)) fun f=>
          some f
        else
         Option.bind ((
          if(((gt a x3).Kind)==7)then
           some (((gt a x3).Kind)==7)
          else
           some (((gt a x3).Kind)==8)):Option (Bool)) fun h=>
          if h then
           if y0 a x3 then
            if y0 x2 ((gt a x3).A)then
             if y0 x2 x3 then
              some (x2.set (Int.toNat x3) (gt x2 ((gt a x3).A)))
             else none
            else none
           else none
          else
           some x2):Option (List Bool)) fun c=>
     some c
   else none):Option (List Bool)) fun d=>
   some (.next (d,(W (x3+1))))
 else
  some (.done x2)
def D0k (b:Nat)(a:(List U0)):Option ((List Bool)):=
 Option.bind (C0n b a) fun c=>
 if(!c)then
  some ([]:List Bool)
 else
  if S5 1 (a.length:Int)then
   Option.bind (iter (E0Q b a) b ((List.replicate (Int.toNat (a.length:Int)) false),0)) fun d=>
    some d
  else none
def B08 (a:Nat):Nat->(List U0)->(List Bool)->Int->Option ((List Int))
 |0,_,_,_=>none
 |
  k+1,p0,p1,p2=>
  Option.bind ((
   if y0 p0 p2 then
    Option.bind ((
     if(((gt p0 p2).Kind)==3)then
      if y0 p0 p2 then
       Option.bind (B08 a k p0 p1 ((gt p0 p2).A)) fun b=>
        if C1 8 [(W (2*p2))] b then
         if y0 p0 p2 then
          Option.bind (B08 a k p0 p1 ((gt p0 p2).B)) fun e=>
           if C1 8 ([(W (2*p2))]++b) e then
            some (([(W (2*p2))]++b)++e)
           else none
         else none
        else none
      else none
     else
      if(((gt p0 p2).Kind)==4)then
       if y0 p0 p2 then
        if y0 p1 ((gt p0 p2).A)then
         if(gt p1 ((gt p0 p2).A))then
          if y0 p0 p2 then
           Option.bind (B08 a k p0 p1 ((gt p0 p2).A)) fun d=>
            if C1 8 [(W (2*p2))] d then
             some ([(W (2*p2))]++d)
            else none
          else none
         else
          if y0 p0 p2 then
           Option.bind (B08 a k p0 p1 ((gt p0 p2).B)) fun g=>
            if C1 8 [(W (2*p2))] g then
             some ([(W (2*p2))]++g)
            else none
          else none
        else none
       else none
      else
       Option.bind ((
        if(((gt p0 p2).Kind)==7)then
         some (((gt p0 p2).Kind)==7)
        else
         some (((gt p0 p2).Kind)==8)):Option (Bool)) fun i=>
        if i then
         if y0 p0 p2 then
          Option.bind (B08 a k p0 p1 ((gt p0 p2).A)) fun f=>
           if C1 8 [(W (2*p2))] f then
            some ([(W (2*p2))]++f)
           else none
         else none
        else
         some [(W (2*p2))]):Option (List Int)) fun h=>
     some h
   else none):Option (List Int)) fun c=>
   if C1 8 c [(W ((W (2*p2))+1))]then
    some (c++[(W ((W (2*p2))+1))])
   else none
def D0X (c:Nat)(d:(List U0))(a:Int):Option ((List Int)):=
 Option.bind (D0k c d) fun b=>
 Option.bind ((
  if(decide (a<0))then
   some true
  else
   if(decide (a>=(b.length:Int)))then
    some true
   else
    if y0 b a then
     some (!(gt b a))
    else none):Option (Bool)) fun e=>
  if e then
   some ([]:List Int)
  else
   Option.bind (B08 c c d b a) fun f=>
    some f
def F0D (d:Nat)(a:(List U0))(c:List Int×Int×Int):Option (T0 (List Int×Int×Int) (List Int)):=
 let(x2,x3,x4):=c
 if(decide (x4<(a.length:Int)))then
  Option.bind ((
   if y0 x2 x4 then
    if y0 a x4 then
     if(((gt a x4).Kind)==2)then
      if y0 (x2.set (Int.toNat x4) (-1)) x4 then
       some (((x2.set (Int.toNat x4) (-1)).set (Int.toNat x4) x3),(W (x3+1)))
      else none
     else
      some ((x2.set (Int.toNat x4) (-1)),x3)
    else none
   else none):Option (List Int×Int)) fun b=>match b with
  |
   (x5,x6)=>
   some (.next (x5,x6,(W (x4+1))))
 else
  some (.done x2)
def D0x (b:Nat)(a:(List U0)):Option ((List Int)):=
 Option.bind (C0n b a) fun c=>
 if(!c)then
  some ([]:List Int)
 else
  if S5 8 (a.length:Int)then
   Option.bind (iter (F0D b a) b ((List.replicate (Int.toNat (a.length:Int)) (0:Int)),0,0)) fun d=>
    some d
  else none
def G0q (c:Nat)(a:(List U0))(b:List Int×Int):Option (T0 (List Int×Int) (List Int)):=
 let(x2,x3):=b
 if(decide (x3<(a.length:Int)))then
  if y0 x2 x3 then
   some (.next ((x2.set (Int.toNat x3) (-1)),(W (x3+1))))
  else none
 else
  some (.done x2)
def F0a (e:Nat)(a:(List U0))(f:List Int)(c:List Int×Int):Option (T0 (List Int×Int) (List Int)):=
 let(x4,x5):=c
 if(decide (x5<(a.length:Int)))then
  Option.bind ((
   Option.bind ((
    if y0 a x5 then
     if(decide (((gt a x5).A)>=0))then
      if y0 a x5 then
       if y0 x4 ((gt a x5).A)then
        some (x4.set (Int.toNat ((gt a x5).A)) x5)
       else none
      else none
     else
      some x4
    else none):Option (List Int)) fun b=>
    if y0 a x5 then
     if(decide (((gt a x5).B)>=0))then
      if y0 a x5 then
       if y0 b ((gt a x5).B)then
        some (b.set (Int.toNat ((gt a x5).B)) x5)
       else none
      else none
     else
      some b
    else none):Option (List Int)) fun d=>
   some (.next (d,(W (x5+1))))
 else
  some (.done x4)
def D0E (b:Nat)(a:(List U0)):Option ((List Int)):=
 Option.bind (C0n b a) fun d=>
 if(!d)then
  some ([]:List Int)
 else
  if S5 8 (a.length:Int)then
   Option.bind (iter (G0q b a) b ((List.replicate (Int.toNat (a.length:Int)) (0:Int)),0)) fun c=>
    Option.bind (iter (F0a b a c) b (c,0)) fun e=>
     some e
  else none
def C02 (c:Nat)(a:(List Int))(b:(List Int)):Option ((List Int)):=
 if C1 8 ([]:List Int) a then
 if C1 8 (([]:List Int)++a) b then
  some ((([]:List Int)++a)++b)
 else none
else none
def C0h (a:Nat):Nat->(List U0)->(List Int)->(List Bool)->Int->(List Int)->Option ((List E1))
 |0,_,_,_,_,_=>none
 |
  k+1,p0,p1,p2,p3,p4=>
  if y0 p0 p3 then
   Option.bind (C02 a p4 [(W (2*p3))]) fun b=>
    if(((gt p0 p3).Kind)==2)then
     if y0 p1 p3 then
      some [(⟨(gt p1 p3),(0:Int),b⟩:E1)]
     else none
    else
     if(((gt p0 p3).Kind)==3)then
      Option.bind (C0h a k p0 p1 p2 ((gt p0 p3).A) b) fun c=>
       Option.bind ((
        if y0 p2 ((gt p0 p3).A)then
         if(gt p2 ((gt p0 p3).A))then
          Option.bind (B08 a a p0 p2 ((gt p0 p3).A)) fun i=>
           Option.bind (C02 a b i) fun h=>
            Option.bind (C0h a k p0 p1 p2 ((gt p0 p3).B) h) fun f=>
             if C1 40 c f then
              some (c++f)
             else none
         else
          some c
        else none):Option (List E1)) fun j=>
        some j
     else
      if(((gt p0 p3).Kind)==4)then
       Option.bind (C0h a k p0 p1 p2 ((gt p0 p3).A) b) fun d=>
        Option.bind (C0h a k p0 p1 p2 ((gt p0 p3).B) b) fun e=>
         if C1 40 d e then
          some (d++e)
         else none
      else
       Option.bind ((
        if(((gt p0 p3).Kind)==5)then
         some (((gt p0 p3).Kind)==5)
        else
         if(((gt p0 p3).Kind)==6)then
          some (((gt p0 p3).Kind)==6)
         else
          if(((gt p0 p3).Kind)==7)then
           some (((gt p0 p3).Kind)==7)
          else
           some (((gt p0 p3).Kind)==8)):Option (Bool)) fun l=>
        if l then
         Option.bind (C0h a k p0 p1 p2 ((gt p0 p3).A) b) fun g=>
          some g
        else
         some ([]:List E1)
  else none
def F0B (d:Nat)(a:(List Int))(b:List Int×Int):Option (T0 (List Int×Int) (List Int)):=
 let(x2,x3):=b
 if(decide (x3>=0))then
  Option.bind ((
   if y0 x2 x3 then
    if y0 a x3 then
     if(decide ((gt a x3)>=0))then
      if y0 a x3 then
       if y0 (x2.set (Int.toNat x3) 1) (gt a x3)then
        if y0 (x2.set (Int.toNat x3) 1) x3 then
         some ((x2.set (Int.toNat x3) 1).set (Int.toNat x3) (W ((gt (x2.set (Int.toNat x3) 1) (gt a x3))+1)))
        else none
       else none
      else none
     else
      some (x2.set (Int.toNat x3) 1)
    else none
   else none):Option (List Int)) fun c=>
   some (.next (c,(W (x3-1))))
 else
  some (.done x2)
def D0D (b:Nat)(c:(List U0)):Option ((List Int)):=
 Option.bind (D0E b c) fun a=>
 if S5 8 (a.length:Int)then
  Option.bind (iter (F0B b a) b ((List.replicate (Int.toNat (a.length:Int)) (0:Int)),(W ((a.length:Int)-1)))) fun d=>
   some d
 else none
def E0R (e:Nat)(b:(List E1))(c:Int)(d:Int):Option (T0 (Int) ((Unit)⊕(Bool))):=
 let a:=d
 if(decide (a<(b.length:Int)))then
  if y0 b a then
   if(((gt b a).To)==c)then
    some (.done (.inr true))
   else
    some (.next (W (a+1)))
  else none
 else
  some (.done (.inl ()))
def D02 (a:Nat)(b:(List E1))(c:Int):Option (Bool):=
 Option.bind (iter (E0R a b c) a 0) fun e=>match e with
|
 .inl _=>
 some false
|.inr d=>some d
def D0W (e:Nat)(h:(List U0))(n:E1)(b:(List Int))(a:(List Int))(l:(List Int))(k:(List Bool))(c:Int)(m:List Int)(o:List E1)(i:Int)(j:(List E1))(f:List E1×List E1×Int):Option (T0 (List E1×List E1×Int) (List E1)):=
 let(x15,x16,x17):=f
 if(decide (x17<(x16.length:Int)))then
  Option.bind ((
   if y0 x16 x17 then
    Option.bind (D02 e x15 ((gt x16 x17).To)) fun g=>
     if(!g)then
      if y0 a (gt b c)then
       if y0 x16 x17 then
        if y0 (x16.set (Int.toNat x17) (⟨(gt x16 x17).To,(gt a (gt b c)),(gt x16 x17).Steps⟩:E1)) x17 then
         if C1 40 x15 [(gt (x16.set (Int.toNat x17) (⟨(gt x16 x17).To,(gt a (gt b c)),(gt x16 x17).Steps⟩:E1)) x17)]then
          some ((x15++[(gt (x16.set (Int.toNat x17) (⟨(gt x16 x17).To,(gt a (gt b c)),(gt x16 x17).Steps⟩:E1)) x17)]),(x16.set (Int.toNat x17) (⟨(gt x16 x17).To,(gt a (gt b c)),(gt x16 x17).Steps⟩:E1)))
         else none
        else none
       else none
      else none
     else
      some (x15,x16)
   else none):Option (List E1×List E1)) fun d=>match d with
  |
   (x18,x19)=>
   some (.next (x18,x19,(W (x17+1))))
 else
  some (.done x15)
def D0K (c:Nat)(b:(List U0))(a:(List Int))(i:(List Int))(h:(List Int))(e:(List Bool))(u:(List Int))(t:Int)(p:E1×Int×List Int×List E1):Option (T0 (E1×Int×List Int×List E1) ((E1×List Int×List E1)⊕((List E1)×E1×Bool))):=
 let(x6,x7,x8,x9):=p
 if y0 a x7 then
  if(decide ((gt a x7)>=0))then
   if y0 a x7 then
    Option.bind ((
     Option.bind ((
      if y0 b (gt a x7)then
       if(((gt b (gt a x7)).Kind)==3)then
        if y0 b (gt a x7)then
         some (((gt b (gt a x7)).A)==x7)
        else none
       else
        some false
      else none):Option (Bool)) fun r=>
      if r then
       if y0 b (gt a x7)then
        some ((gt b (gt a x7)).B)
       else none
      else
       some (-1)):Option (Int)) fun m=>
     Option.bind ((
      if y0 b (gt a x7)then
       if(((gt b (gt a x7)).Kind)==5)then
        if y0 b (gt a x7)then
         some ((gt b (gt a x7)).A)
        else none
       else
        some m
      else none):Option (Int)) fun d=>
      Option.bind ((
       if(decide (d>=0))then
        Option.bind (C0h c c b h e d x8) fun f=>
         Option.bind (iter (D0W c b x6 a i h e x7 x8 x9 d f) c (x9,f,0)) fun j=>
          some j
       else
        some x9):Option (List E1)) fun g=>
       Option.bind ((
        Option.bind ((
         if y0 b (gt a x7)then
          if(((gt b (gt a x7)).Kind)==3)then
           if y0 b (gt a x7)then
            some (((gt b (gt a x7)).A)==x7)
           else none
          else
           some false
         else none):Option (Bool)) fun k=>
         if k then
          if y0 e d then
           if(!(gt e d))then
            some (.inr (g,(⟨(0:Int),(0:Int),[]⟩:E1),false))
           else
            Option.bind (B08 c c b e d) fun o=>
             Option.bind (C02 c x8 o) fun l=>
              some (.inl l)
          else none
         else
          some (.inl x8)):Option ((List Int)⊕((List E1)×E1×Bool))) fun q=>match q with
       |
        .inl x21=>
        Option.bind (C02 c x21 [(W ((W (2*(gt a x7)))+1))]) fun s=>
         some (.next (x6,(gt a x7),s,g))
       |.inr n=>some (.done (.inr n))
   else none
  else
   some (.done (.inl (x6,x8,x9)))
 else none
def D0w (a:Nat)(b:(List U0))(c:Int):Option ((List E1)×E1×Bool):=
 Option.bind (D0E a b) fun f=>
 Option.bind (D0D a b) fun e=>
  Option.bind (D0x a b) fun h=>
   Option.bind (D0k a b) fun g=>
    Option.bind (C0z a b) fun d=>
     if y0 d c then
      Option.bind (iter (D0K a b f e h g d c) a ((⟨(0:Int),(0:Int),[]⟩:E1),(gt d c),[(W ((W (2*(gt d c)))+1))],([]:List E1))) fun j=>match j with
      |
       .inl (y1,y2,y3)=>
       some (y3,(⟨(-1),(0:Int),y2⟩:E1),true)
      |.inr i=>some i
     else none
def D0c (c:Nat)(a:(List U0))(b:Int):Option (E1×Bool):=
 Option.bind ((
 if(decide (b<(-1)))then
  some true
 else
  Option.bind (C0n c a) fun f=>
   if(!f)then
    some true
   else
    Option.bind (C0z c a) fun h=>
     some (decide (b>=(h.length:Int)))):Option (Bool)) fun g=>
 if g then
  some ((⟨(0:Int),(0:Int),[]⟩:E1),false)
 else
  if(b==(-1))then
   Option.bind (D0X c a (W ((a.length:Int)-1))) fun e=>
    if((e.length:Int)==0)then
     some ((⟨(0:Int),(0:Int),[]⟩:E1),false)
    else
     some ((⟨(-1),(0:Int),e⟩:E1),true)
  else
   Option.bind (D0w c a b) fun d=>
    some (d.2.1,d.2.2)
def D0V (b:Nat)(a:(List U0))(c:Int):Option ((List E1)):=
 Option.bind ((
 Option.bind (C0n b a) fun d=>
  if(!d)then
   some true
  else
   if(decide (c<0))then
    some true
   else
    some (decide (c>=(a.length:Int)))):Option (Bool)) fun e=>
 if e then
  some ([]:List E1)
 else
  Option.bind (D0x b a) fun h=>
   Option.bind (D0k b a) fun g=>
    Option.bind (C0h b b a h g c ([]:List Int)) fun f=>
     some f
def E08 (f:Nat)(e:(List U0))(a:(List E1)×E1×Bool)(g:List E1)(c:Int)(b:List E1×Int):Option (T0 (List E1×Int) (List E1)):=
 let(x7,x8):=b
 if(decide (x8<(a.1.length:Int)))then
  Option.bind ((
   if y0 a.1 x8 then
    if(((gt a.1 x8).To)==c)then
     if y0 a.1 x8 then
      if C1 40 x7 [(gt a.1 x8)]then
       some (x7++[(gt a.1 x8)])
      else none
     else none
    else
     some x7
   else none):Option (List E1)) fun d=>
   some (.next (d,(W (x8+1))))
 else
  some (.done x7)
def F01 (a:Nat)(b:(List U0))(e:(List E1)×E1×Bool)(d:List E1×Int):Option (T0 (List E1×Int) (List E1)):=
 let(x4,x5):=d
 Option.bind (C0z a b) fun f=>
  if(decide (x5<(f.length:Int)))then
   Option.bind (iter (E08 a b e x4 x5) a (x4,0)) fun c=>
    some (.next (c,(W (x5+1))))
  else
   some (.done x4)
def D0N (a:Nat)(b:(List U0))(c:Int):Option ((List E1)):=
 Option.bind ((
 if(decide (c<0))then
  some true
 else
  Option.bind (C0z a b) fun d=>
   some (decide (c>=(d.length:Int)))):Option (Bool)) fun f=>
 if f then
  some ([]:List E1)
 else
  Option.bind (D0w a b c) fun g=>
   Option.bind (iter (F01 a b g) a (([]:List E1),0)) fun e=>
    some e
