/- P. Its conditions: none. -/
import Derived.Test.YtmhooikfkhjijaaGreatYMd
import Derived.Test.YtmhooikfkhjijaaGreatYG26
set_option linter.all false
set_option maxRecDepth 20000
namespace Go.Proofs.YtmhooikfkhjijaaGreat.Old
open Go.V Go.RowKit
def o3 (a:C0):Prop:=(Z5 .i64) a.Kind/\(Z5 .i64) a.A/\(Z5 .i64) a.B/\(Z5 .i64) a.N/\(a.Set.length=4/\∀y∈a.Set,Z5 .u64 y)
def b04 (c:Nat)(a:Int):Option (Bool×Bool):=
 Option.bind ((
 if(decide (a>=3))then
  if(a==3)then
   some ((decide (a<=8)),true)
  else
   some ((decide (a<=8)),(a==4))
 else
  if(a==3)then
   some (false,true)
  else
   some (false,(a==4))):Option (Bool×Bool)) fun b=>match b with
|(x1,x2)=>
 some (x1,x2)
def c0V (f:Nat)(a:(List C0))(g:List Int)(h:Int)(c:Int)(d:Int):Option (V0 (Int) ((Unit)⊕((List Int)))):=
 let b:=d
 if(decide (b<c))then
  Option.bind ((
   if(((gt a c).Kind)==7)then
    if B0 a b then
     if(((gt a b).Kind)==7)then
      if B0 a b then
       some (((gt a b).N)==((gt a c).N))
      else none
     else
      some false
    else none
   else
    some false):Option (Bool)) fun e=>
   if e then
    some (.done (.inr ([]:List Int)))
   else
    some (.next (W (b+1)))
 else
  some (.done (.inl ()))
def e0D (d:Nat)(a:(List C0))(h:List Int×Int×Int):Option (V0 (List Int×Int×Int) ((List Int×Int)⊕((List Int)))):=
 let(x1,x2,x3):=h
 if(decide (x3<(a.length:Int)))then
  if B0 a x3 then
   Option.bind (b04 d ((gt a x3).Kind)) fun c=>
    if B0 x1 x3 then
     Option.bind ((
      if(decide (((gt a x3).Kind)<1))then
       some true
      else
       if(decide (((gt a x3).Kind)>8))then
        some true
       else
        if(((gt a x3).Kind) != 2)then
         if(!(((gt ((gt a x3).Set) 0)==0)&&(((gt ((gt a x3).Set) 1)==0)&&(((gt ((gt a x3).Set) 2)==0)&&((gt ((gt a x3).Set) 3)==0)))))then
          some true
         else
          if(((gt a x3).Kind) != 7)then
           if(((gt a x3).N) != 0)then
            some true
           else
            if(((gt a x3).Kind)==7)then
             if(decide (((gt a x3).N)<1))then
              some true
             else
              some (decide (((gt a x3).N)>9))
            else
             some false
          else
           if(((gt a x3).Kind)==7)then
            if(decide (((gt a x3).N)<1))then
             some true
            else
             some (decide (((gt a x3).N)>9))
           else
            some false
        else
         if(((gt a x3).Kind) != 7)then
          if(((gt a x3).N) != 0)then
           some true
          else
           if(((gt a x3).Kind)==7)then
            if(decide (((gt a x3).N)<1))then
             some true
            else
             some (decide (((gt a x3).N)>9))
           else
            some false
         else
          if(((gt a x3).Kind)==7)then
           if(decide (((gt a x3).N)<1))then
            some true
           else
            some (decide (((gt a x3).N)>9))
          else
           some false):Option (Bool)) fun k=>
      if k then
       some (.done (.inr ([]:List Int)))
      else
       Option.bind ((
        if(!c.1)then
         if(((gt a x3).A) != (-1))then
          some true
         else
          if(!c.2)then
           some (((gt a x3).B) != (-1))
          else
           some false
        else
         if(!c.2)then
          some (((gt a x3).B) != (-1))
         else
          some false):Option (Bool)) fun l=>
        if l then
         some (.done (.inr ([]:List Int)))
        else
         Option.bind ((
          if(((gt a x3).Kind)==2)then
           some (W (x2+1))
          else
           some x2):Option (Int)) fun e=>
          Option.bind ((
           if c.2 then
            Option.bind ((
             if(((gt a x3).B) != (W (x3-1)))then
              some true
             else
              some (decide ((W (x3-1))<0))):Option (Bool)) fun m=>
             if m then
              some (.inr ([]:List Int))
             else
              if B0 (x1.set (Int.toNat x3) x3) (W (x3-1))then
               some (.inl (W ((gt (x1.set (Int.toNat x3) x3) (W (x3-1)))-1)))
              else none
           else
            some (.inl (W (x3-1)))):Option ((Int)⊕((List Int)))) fun f=>match f with
          |.inl x8=>
           Option.bind ((
            if c.1 then
             Option.bind ((
              if(((gt a x3).A) != x8)then
               some true
              else
               some (decide (x8<0))):Option (Bool)) fun j=>
              if j then
               some (.inr ([]:List Int))
              else
               if B0 (x1.set (Int.toNat x3) x3) x8 then
                if B0 (x1.set (Int.toNat x3) x3) x3 then
                 some (.inl ((x1.set (Int.toNat x3) x3).set (Int.toNat x3) (gt (x1.set (Int.toNat x3) x3) x8)))
                else none
               else none
            else
             some (.inl (x1.set (Int.toNat x3) x3))):Option ((List Int)⊕((List Int)))) fun g=>match g with
           |.inl x10=>
            if B0 x10 x3 then
             Option.bind (iter (c0V d a x10 e x3) d (gt x10 x3)) fun i=>match i with
             |.inl _=>
              some (.next (x10,e,(W (x3+1))))
             |.inr b=>some (.done (.inr b))
            else none
           |.inr b=>some (.done (.inr b))
          |.inr b=>some (.done (.inr b))
    else none
  else none
 else
  some (.done (.inl (x1,x2)))
def b0c (b:Nat)(a:(List C0)):Option ((List Int)):=
 if V2 8 (a.length:Int)then
 Option.bind (iter (e0D b a) b ((List.replicate (Int.toNat (a.length:Int)) (0:Int)),0,0)) fun d=>match d with
 |.inl (y1,y2)=>
  Option.bind ((
   if((a.length:Int)==0)then
    some true
   else
    if(decide ((a.length:Int)>400))then
     some true
    else
     if(decide (y2>64))then
      some true
     else
      if B0 y1 (W ((a.length:Int)-1))then
       some ((gt y1 (W ((a.length:Int)-1))) != 0)
      else none):Option (Bool)) fun e=>
   if e then
    some ([]:List Int)
   else
    if h0r y1 then some y1 else none
 |.inr c=>some c
else none
def B6 (a:Nat)(b:(List C0)):Option (Bool):=
 Option.bind (b0c a b) fun c=>
 some (!(c.isEmpty))
def b0z (m:Nat)(b:(List C0))(c:(List Int))(a:Int):Option (Int):=
 if B0 b a then
 Option.bind ((
  Option.bind ((
   Option.bind ((
    if(((gt b a).Kind)==1)then
     some (((gt b a).Kind)==1)
    else
     some (((gt b a).Kind)==2)):Option (Bool)) fun g=>
    if g then
     Option.bind ((
      if(((gt b a).A)==(-1))then
       some (((gt b a).B)==(-1))
      else
       some false):Option (Bool)) fun h=>
      if h then
       some (.inr a)
      else
       some (.inl ())
    else
     Option.bind ((
      if(((gt b a).Kind)==3)then
       some (((gt b a).Kind)==3)
      else
       some (((gt b a).Kind)==4)):Option (Bool)) fun i=>
      if i then
       Option.bind ((
        if(decide (((gt b a).B)>=0))then
         if(((gt b a).B)==(W (a-1)))then
          if(decide (((gt b a).A)>=0))then
           if B0 c ((gt b a).B)then
            some (((gt b a).A)==(W ((gt c ((gt b a).B))-1)))
           else none
          else
           some false
         else
          some false
        else
         some false):Option (Bool)) fun j=>
        if j then
         if B0 c ((gt b a).A)then
          some (.inr (gt c ((gt b a).A)))
         else none
        else
         some (.inl ())
      else
       Option.bind ((
        if(((gt b a).Kind)==5)then
         some (((gt b a).Kind)==5)
        else
         if(((gt b a).Kind)==6)then
          some (((gt b a).Kind)==6)
         else
          if(((gt b a).Kind)==7)then
           some (((gt b a).Kind)==7)
          else
           some (((gt b a).Kind)==8)):Option (Bool)) fun k=>
        if k then
         Option.bind ((
          if(((gt b a).B)==(-1))then
           if(decide (((gt b a).A)>=0))then
            some (((gt b a).A)==(W (a-1)))
           else
            some false
          else
           some false):Option (Bool)) fun l=>
          if l then
           if B0 c ((gt b a).A)then
            some (.inr (gt c ((gt b a).A)))
           else none
          else
           some (.inl ())
        else
         some (.inl ())):Option ((Unit)⊕(Int))) fun f=>match f with
  |.inl _=>
   some (.inl ())
  |.inr d=>some (.inr d)):Option ((Unit)⊕(Int))) fun e=>match e with
 |.inl _=>
  some (-1)
 |.inr d=>some d
else none
def b0P (d:Nat)(a:C0):Option (Bool):=
 Option.bind ((
 if(a.Kind != 2)then
  some (!(((gt a.Set 0)==0)&&(((gt a.Set 1)==0)&&(((gt a.Set 2)==0)&&((gt a.Set 3)==0)))))
 else
  some false):Option (Bool)) fun b=>
 if b then
  some false
 else
  if(a.Kind==7)then
   Option.bind ((
    if(decide (a.N>=1))then
     some (decide (a.N<=9))
    else
     some false):Option (Bool)) fun c=>
    some c
  else
   some (a.N==0)
def c0u (f:Nat)(c:C0)(b:(List C0))(d:Int):Option (V0 (Int) ((Unit)⊕(Bool))):=
 let a:=d
 if(decide (a<(b.length:Int)))then
  if B0 b a then
   Option.bind ((
    if(c.Kind==7)then
     if(((gt b a).Kind)==7)then
      some (((gt b a).N)==c.N)
     else
      some false
    else
     some false):Option (Bool)) fun e=>
    if e then
     some (.done (.inr true))
    else
     some (.next (W (a+1)))
  else none
 else
  some (.done (.inl ()))
def b09 (a:Nat)(b:C0)(c:(List C0)):Option (Bool):=
 Option.bind (iter (c0u a b c) a 0) fun e=>match e with
|.inl _=>
 some false
|.inr d=>some d
def d0Y (c:Nat)(a:(List C0))(d:List Int×Int×Int):Option (V0 (List Int×Int×Int) ((List Int×Int)⊕((List Int)))):=
 let(x2,x3,x4):=d
 if(decide (x4<(a.length:Int)))then
  if B0 a x4 then
   Option.bind (b0z c a x2 x4) fun b=>
    Option.bind ((
     if(decide (b<0))then
      some true
     else
      Option.bind (b0P c (gt a x4)) fun f=>
       if(!f)then
        some true
       else
        if I4 a b x4 then
         Option.bind (b09 c (gt a x4) (I1 a b x4)) fun g=>
          some g
        else none):Option (Bool)) fun e=>
     if e then
      some (.done (.inr ([]:List Int)))
     else
      Option.bind ((
       if(((gt a x4).Kind)==2)then
        some (W (x3+1))
       else
        some x3):Option (Int)) fun h=>
       if I0 8 x2 [b]then
        some (.next ((x2++[b]),h,(W (x4+1))))
       else none
  else none
 else
  some (.done (.inl (x2,x3)))
def R8 (b:Nat)(a:(List C0)):Option ((List Int)):=
 Option.bind ((
 if((a.length:Int)==0)then
  some true
 else
  some (decide ((a.length:Int)>400))):Option (Bool)) fun e=>
 if e then
  some ([]:List Int)
 else
  Option.bind (iter (d0Y b a) b (([]:List Int),0,0)) fun d=>match d with
  |.inl (y1,y2)=>
   Option.bind ((
    if(decide (y2>64))then
     some true
    else
     if B0 y1 (W ((a.length:Int)-1))then
      some ((gt y1 (W ((a.length:Int)-1))) != 0)
     else none):Option (Bool)) fun f=>
    if f then
     some ([]:List Int)
    else
     if h0r y1 then some y1 else none
  |.inr c=>some c
def c7 (a:Nat)(b:(List C0)):Option (Bool):=
 Option.bind (R8 a b) fun c=>
 some (decide ((c.length:Int)>0))
def d09 (i:Nat)(a:(List C0))(b:List Bool×Int):Option (V0 (List Bool×Int) (List Bool)):=
 let(x2,x3):=b
 if(decide (x3<(a.length:Int)))then
  Option.bind ((
   if B0 a x3 then
    Option.bind ((
     Option.bind ((
      if(((gt a x3).Kind)==1)then
       some (((gt a x3).Kind)==1)
      else
       if(((gt a x3).Kind)==5)then
        some (((gt a x3).Kind)==5)
       else
        some (((gt a x3).Kind)==6)):Option (Bool)) fun e=>
      if e then
       if B0 x2 x3 then
        some (x2.set (Int.toNat x3) true)
       else none
      else
       if(((gt a x3).Kind)==3)then
        Option.bind ((
         if B0 x2 ((gt a x3).A)then
          if(gt x2 ((gt a x3).A))then
           if B0 x2 ((gt a x3).B)then
            if B0 x2 x3 then
             some (x2.set (Int.toNat x3) (gt x2 ((gt a x3).B)))
            else none
           else none
          else
           if B0 x2 x3 then
            some (x2.set (Int.toNat x3) false)
           else none
         else none):Option (List Bool)) fun f=>
         some f
       else
        if(((gt a x3).Kind)==4)then
         Option.bind ((
          if B0 x2 ((gt a x3).A)then
           if(gt x2 ((gt a x3).A))then
            if B0 x2 x3 then
             some (x2.set (Int.toNat x3) true)
            else none
           else
            if B0 x2 ((gt a x3).B)then
             if B0 x2 x3 then
              some (x2.set (Int.toNat x3) (gt x2 ((gt a x3).B)))
             else none
            else none
          else none):Option (List Bool)) fun g=>
          some g
        else
         Option.bind ((
          if(((gt a x3).Kind)==7)then
           some (((gt a x3).Kind)==7)
          else
           some (((gt a x3).Kind)==8)):Option (Bool)) fun h=>
          if h then
           if B0 x2 ((gt a x3).A)then
            if B0 x2 x3 then
             some (x2.set (Int.toNat x3) (gt x2 ((gt a x3).A)))
            else none
           else none
          else
           some x2):Option (List Bool)) fun d=>
     some d
   else none):Option (List Bool)) fun c=>
   some (.next (c,(W (x3+1))))
 else
  some (.done x2)
def a0T (b:Nat)(a:(List C0)):Option ((List Bool)):=
 Option.bind (c7 b a) fun c=>
 if(!c)then
  some ([]:List Bool)
 else
  if V2 1 (a.length:Int)then
   Option.bind (iter (d09 b a) b ((List.replicate (Int.toNat (a.length:Int)) false),0)) fun d=>
    some d
  else none
def X6 (a:Nat):Nat->(List C0)->(List Bool)->Int->(List Int)->Option ((List Int))
 |0,_,_,_,_=>none
 |k+1,p0,p1,p2,p3=>
  if I0 8 p3 [(W (2*p2))]then
   if B0 p0 p2 then
    Option.bind ((
     Option.bind ((
      if(((gt p0 p2).Kind)==3)then
       Option.bind (X6 a k p0 p1 ((gt p0 p2).A) (p3++[(W (2*p2))])) fun d=>
        Option.bind (X6 a k p0 p1 ((gt p0 p2).B) d) fun e=>
         some e
      else
       if(((gt p0 p2).Kind)==4)then
        if B0 p1 ((gt p0 p2).A)then
         if(gt p1 ((gt p0 p2).A))then
          Option.bind (X6 a k p0 p1 ((gt p0 p2).A) (p3++[(W (2*p2))])) fun f=>
           some f
         else
          Option.bind (X6 a k p0 p1 ((gt p0 p2).B) (p3++[(W (2*p2))])) fun g=>
           some g
        else none
       else
        Option.bind ((
         if(((gt p0 p2).Kind)==7)then
          some (((gt p0 p2).Kind)==7)
         else
          some (((gt p0 p2).Kind)==8)):Option (Bool)) fun h=>
         if h then
          Option.bind (X6 a k p0 p1 ((gt p0 p2).A) (p3++[(W (2*p2))])) fun i=>
           some i
         else
          some (p3++[(W (2*p2))])):Option (List Int)) fun c=>
      some c):Option (List Int)) fun b=>
     if I0 8 b [(W ((W (2*p2))+1))]then
      some (b++[(W ((W (2*p2))+1))])
     else none
   else none
  else none
def a0f (c:Nat)(d:(List C0))(a:Int):Option ((List Int)):=
 Option.bind (a0T c d) fun b=>
 Option.bind ((
  if(decide (a<0))then
   some true
  else
   if(decide (a>=(b.length:Int)))then
    some true
   else
    if B0 b a then
     some (!(gt b a))
    else none):Option (Bool)) fun e=>
  if e then
   some ([]:List Int)
  else
   Option.bind (X6 c c d b a ([]:List Int)) fun f=>
    some f
def e0n (e:Nat)(a:(List C0))(c:List Int×Int):Option (V0 (List Int×Int) (List Int)):=
 let(x2,x3):=c
 if(decide (x3<(a.length:Int)))then
  Option.bind ((
   if B0 a x3 then
    Option.bind ((
     if(decide (((gt a x3).A)>=0))then
      if B0 x2 ((gt a x3).A)then
       some (x2.set (Int.toNat ((gt a x3).A)) x3)
      else none
     else
      some x2):Option (List Int)) fun b=>
     if(decide (((gt a x3).B)>=0))then
      if B0 b ((gt a x3).B)then
       some (b.set (Int.toNat ((gt a x3).B)) x3)
      else none
     else
      some b
   else none):Option (List Int)) fun d=>
   some (.next (d,(W (x3+1))))
 else
  some (.done x2)
def S9 (b:Nat)(a:(List C0)):Option ((List Int)):=
 Option.bind (c7 b a) fun c=>
 if(!c)then
  some ([]:List Int)
 else
  if V2 8 (a.length:Int)then
   if B0 (List.replicate (Int.toNat (a.length:Int)) (0:Int)) (W ((a.length:Int)-1))then
    Option.bind (iter (e0n b a) b (((List.replicate (Int.toNat (a.length:Int)) (0:Int)).set (Int.toNat (W ((a.length:Int)-1))) (-1)),0)) fun d=>
     some d
   else none
  else none
def f0P (d:Nat)(a:(List Int))(b:List Int×Int):Option (V0 (List Int×Int) (List Int)):=
 let(x2,x3):=b
 if(decide (x3>=0))then
  Option.bind ((
   if B0 x2 x3 then
    if B0 a x3 then
     if(decide ((gt a x3)>=0))then
      if B0 (x2.set (Int.toNat x3) 1) x3 then
       if B0 a x3 then
        if B0 (x2.set (Int.toNat x3) 1) (gt a x3)then
         if B0 (x2.set (Int.toNat x3) 1) x3 then
          some ((x2.set (Int.toNat x3) 1).set (Int.toNat x3) (W ((gt (x2.set (Int.toNat x3) 1) x3)+(gt (x2.set (Int.toNat x3) 1) (gt a x3)))))
         else none
        else none
       else none
      else none
     else
      some (x2.set (Int.toNat x3) 1)
    else none
   else none):Option (List Int)) fun c=>
   some (.next (c,(W (x3-1))))
 else
  some (.done x2)
def a0w (b:Nat)(c:(List C0)):Option ((List Int)):=
 Option.bind (S9 b c) fun a=>
 if V2 8 (a.length:Int)then
  Option.bind (iter (f0P b a) b ((List.replicate (Int.toNat (a.length:Int)) (0:Int)),(W ((a.length:Int)-1)))) fun d=>
   some d
 else none
def e0U (d:Nat)(a:(List C0))(b:List Int×Int):Option (V0 (List Int×Int) (List Int)):=
 let(x2,x3):=b
 if(decide (x3<(a.length:Int)))then
  Option.bind ((
   if B0 a x3 then
    if(((gt a x3).Kind)==2)then
     if I0 8 x2 [x3]then
      some (x2++[x3])
     else none
    else
     some x2
   else none):Option (List Int)) fun c=>
   some (.next (c,(W (x3+1))))
 else
  some (.done x2)
def K7 (a:Nat)(b:(List C0)):Option ((List Int)):=
 Option.bind (c7 a b) fun c=>
 if(!c)then
  some ([]:List Int)
 else
  Option.bind (iter (e0U a b) a (([]:List Int),0)) fun d=>
   some d
def f0G (c:Nat)(a:(List C0))(b:List Int×Int):Option (V0 (List Int×Int) (List Int)):=
 let(x2,x3):=b
 if(decide (x3<((List.replicate (Int.toNat (a.length:Int)) (0:Int)).length:Int)))then
  if B0 x2 x3 then
   some (.next ((x2.set (Int.toNat x3) (-1)),(W (x3+1))))
  else none
 else
  some (.done x2)
def f0d (c:Nat)(d:List Int)(a:(List Int))(b:List Int×Int):Option (V0 (List Int×Int) (List Int)):=
 let(x5,x6):=b
 if(decide (x6<(a.length:Int)))then
  if B0 a x6 then
   if B0 x5 (gt a x6)then
    some (.next ((x5.set (Int.toNat (gt a x6)) x6),(W (x6+1))))
   else none
  else none
 else
  some (.done x5)
def b0K (a:Nat)(b:(List C0)):Option ((List Int)):=
 Option.bind (c7 a b) fun d=>
 if(!d)then
  some ([]:List Int)
 else
  if V2 8 (b.length:Int)then
   Option.bind (iter (f0G a b) a ((List.replicate (Int.toNat (b.length:Int)) (0:Int)),0)) fun c=>
    Option.bind (K7 a b) fun e=>
     Option.bind (iter (f0d a c e) a (c,0)) fun f=>
      some f
  else none
def a0Z (b:Nat)(a:(List C0)):Option ((Option U4)×Bool):=
 Option.bind (c7 b a) fun c=>
 if(!c)then
  some (none,false)
 else
  Option.bind (S9 b a) fun d=>
   Option.bind (a0w b a) fun e=>
    Option.bind (b0K b a) fun f=>
     Option.bind (a0T b a) fun g=>
      some ((some (⟨a,d,e,f,g⟩:U4)),true)
def a0S (c:Nat)(d:(List C0))(a:Int):Option ((Option U4)×Int×Bool):=
 Option.bind (a0Z c d) fun e=>
 if(!e.2)then
  some (none,0,false)
 else
  Option.bind (K7 c d) fun b=>
   Option.bind ((
    if(decide (a<0))then
     some true
    else
     some (decide (a>=(b.length:Int)))):Option (Bool)) fun f=>
    if f then
     some (none,0,false)
    else
     if B0 b a then
      some (e.1,(gt b a),true)
     else none
def I8 (c:Nat)(a:(List Int))(b:(List Int)):Option ((List Int)):=
 if I4 a 0 (a.length:Int)then
 if(decide ((a.length:Int)<=(a.length:Int))&&decide ((a.length:Int)<=(a.length:Int)))then
  if I0 8 (I1 a 0 (a.length:Int)) b then
   some ((I1 a 0 (a.length:Int))++b)
  else none
 else none
else none
def e6 (a:Nat):Nat->U4->Int->(List Int)->(List y0)->Option ((List y0))
 |0,_,_,_,_=>none
 |k+1,p0,p1,p2,p3=>
  if B0 p0.l p1 then
   Option.bind (I8 a p2 [(W (2*p1))]) fun b=>
    Option.bind ((
     Option.bind ((
      if(((gt p0.l p1).Kind)==2)then
       if B0 p0.index p1 then
        if I0 40 p3 [(⟨(gt p0.index p1),(0:Int),b⟩:y0)]then
         some (.inr (p3++[(⟨(gt p0.index p1),(0:Int),b⟩:y0)]))
        else none
       else none
      else
       if(((gt p0.l p1).Kind)==3)then
        Option.bind (e6 a k p0 ((gt p0.l p1).A) b p3) fun d=>
         if B0 p0.can ((gt p0.l p1).A)then
          if(gt p0.can ((gt p0.l p1).A))then
           Option.bind (a0f a p0.l ((gt p0.l p1).A)) fun i=>
            Option.bind (I8 a b i) fun j=>
             Option.bind (e6 a k p0 ((gt p0.l p1).B) j d) fun m=>
              some (.inl m)
          else
           some (.inl d)
         else none
       else
        if(((gt p0.l p1).Kind)==4)then
         Option.bind (e6 a k p0 ((gt p0.l p1).A) b p3) fun n=>
          Option.bind (e6 a k p0 ((gt p0.l p1).B) b n) fun o=>
           some (.inl o)
        else
         Option.bind ((
          if(((gt p0.l p1).Kind)==5)then
           some (((gt p0.l p1).Kind)==5)
          else
           if(((gt p0.l p1).Kind)==6)then
            some (((gt p0.l p1).Kind)==6)
           else
            if(((gt p0.l p1).Kind)==7)then
             some (((gt p0.l p1).Kind)==7)
            else
             some (((gt p0.l p1).Kind)==8)):Option (Bool)) fun g=>
          if g then
           Option.bind (e6 a k p0 ((gt p0.l p1).A) b p3) fun h=>
            some (.inl h)
          else
           some (.inl p3)):Option ((List y0)⊕((List y0)))) fun f=>match f with
     |.inl x3=>
      some (.inl x3)
     |.inr c=>some (.inr c)):Option ((List y0)⊕((List y0)))) fun e=>match e with
    |.inl x2=>
     some x2
    |.inr c=>some c
  else none
def o0n (c:Nat)(a:y0)(b:y0):Option (Bool):=
 some (a.To==b.To)
def d01 (c:Nat)(b:(List y0))(d:y0)(e:Int):Option (V0 (Int) ((Unit)⊕(Int))):=
 let a:=e
 if(decide (a<(b.length:Int)))then
  if B0 b a then
   Option.bind (o0n c (gt b a) d) fun f=>
    if f then
     some (.done (.inr a))
    else
     some (.next (W (a+1)))
  else none
 else
  some (.done (.inl ()))
def l0M (a:Nat)(b:(List y0))(c:y0):Option (Int):=
 Option.bind (iter (d01 a b c) a 0) fun e=>match e with
|.inl _=>
 some (-1)
|.inr d=>some d
def j0G (a:Nat)(b:(List y0))(c:y0):Option (Bool):=
 Option.bind (l0M a b c) fun d=>
 some (decide (d>=0))
def d0H (d:Nat)(b:U4)(c:Int)(h:(List y0))(a:(List y0))(e:List y0×Int):Option (V0 (List y0×Int) (List y0)):=
 let(x2,x3):=e
 if(decide (x3<(a.length:Int)))then
  Option.bind ((
   if B0 a x3 then
    Option.bind (j0G d x2 (gt a x3)) fun g=>
     if(!g)then
      if B0 b.deep c then
       if I0 40 x2 [(⟨(gt a x3).To,(gt b.deep c),(gt a x3).Steps⟩:y0)]then
        some (x2++[(⟨(gt a x3).To,(gt b.deep c),(gt a x3).Steps⟩:y0)])
       else none
      else none
     else
      some x2
   else none):Option (List y0)) fun f=>
   some (.next (f,(W (x3+1))))
 else
  some (.done x2)
def a01 (a:Nat)(b:U4)(d:Int)(e:Int)(f:(List Int))(c:(List y0)):Option ((List y0)):=
 Option.bind (e6 a a b e f ([]:List y0)) fun g=>
 Option.bind (iter (d0H a b d c g) a (c,0)) fun h=>
  some h
def b0G (b:Nat)(a:U4)(m:Int)(f:Int×List Int×List y0×Int):Option (V0 (Int×List Int×List y0×Int) ((List Int×List y0)⊕((List y0)×(List Int)))):=
 let(x1,x2,x3,x4):=f
 if(decide (x4>=0))then
  if B0 a.l x4 then
   Option.bind ((
    Option.bind ((
     if(((gt a.l x4).Kind)==3)then
      some (((gt a.l x4).A)==x1)
     else
      some false):Option (Bool)) fun j=>
     if j then
      Option.bind (a01 b a x4 ((gt a.l x4).B) x2 x3) fun c=>
       if B0 a.can ((gt a.l x4).B)then
        if(!(gt a.can ((gt a.l x4).B)))then
         some (.inr (c,([]:List Int)))
        else
         Option.bind (a0f b a.l ((gt a.l x4).B)) fun k=>
          Option.bind (I8 b x2 k) fun g=>
           some (.inl (g,c))
       else none
     else
      if(((gt a.l x4).Kind)==5)then
       Option.bind (a01 b a x4 ((gt a.l x4).A) x2 x3) fun h=>
        some (.inl (x2,h))
      else
       some (.inl (x2,x3))):Option ((List Int×List y0)⊕((List y0)×(List Int)))) fun d=>match d with
   |.inl (x5,x6)=>
    Option.bind (I8 b x5 [(W ((W (2*x4))+1))]) fun i=>
     if B0 a.up x4 then
      some (.next (x4,i,x6,(gt a.up x4)))
     else none
   |.inr e=>some (.done (.inr e))
  else none
 else
  some (.done (.inl (x2,x3)))
def a00 (c:Nat)(b:U4)(a:Int):Option ((List y0)×(List Int)):=
 if B0 b.up a then
 Option.bind (iter (b0G c b a) c (a,[(W ((W (2*a))+1))],([]:List y0),(gt b.up a))) fun e=>match e with
 |.inl (y1,y2)=>
  some (y2,y1)
 |.inr d=>some d
else none
def J9 (a:Nat)(b:(List C0))(d:Int):Option (y0×Bool):=
 Option.bind ((
 if(d==(-1))then
  Option.bind (a0f a b (W ((b.length:Int)-1))) fun f=>
   some f
 else
  Option.bind (a0S a b d) fun c=>
   if c.2.2 then
    Option.bind c.1 fun g=>
     Option.bind (a00 a g c.2.1) fun h=>
      some h.2
   else
    some ([]:List Int)):Option (List Int)) fun e=>
 if((e.length:Int)==0)then
  some ((⟨(0:Int),(0:Int),[]⟩:y0),false)
 else
  some ((⟨(-1),(0:Int),e⟩:y0),true)
def f0o (c:Nat)(a:(List y0))(b:List y0×Int):Option (V0 (List y0×Int) (List y0)):=
 let(x1,x2):=b
 if(decide (x2<(a.length:Int)))then
  if B0 x1 x2 then
   if V2 8 (((gt x1 x2).Steps).length:Int)then
    if B0 x1 x2 then
     if B0 x1 x2 then
      some (.next ((x1.set (Int.toNat x2) (⟨(gt x1 x2).To,(gt x1 x2).Turn,(G4 (List.replicate (Int.toNat (((gt x1 x2).Steps).length:Int)) (0:Int)) ((gt x1 x2).Steps))⟩:y0)),(W (x2+1))))
     else none
    else none
   else none
  else none
 else
  some (.done x1)
def a0H (a:Nat)(b:(List y0)):Option ((List y0)):=
 Option.bind (iter (f0o a b) a (b,0)) fun c=>
 some c
def b0O (a:Nat)(c:(List C0))(b:Int):Option ((List y0)):=
 Option.bind (a0Z a c) fun d=>
 Option.bind ((
  if(!d.2)then
   some true
  else
   if(decide (b<0))then
    some true
   else
    some (decide (b>=(c.length:Int)))):Option (Bool)) fun e=>
  if e then
   some ([]:List y0)
  else
   Option.bind d.1 fun f=>
    Option.bind (e6 a a f b ([]:List Int) ([]:List y0)) fun g=>
     Option.bind (a0H a g) fun h=>
      some h
def a06 (a:Nat)(d:(List C0))(e:Int):Option ((List y0)):=
 Option.bind (a0S a d e) fun b=>
 if(!b.2.2)then
  some ([]:List y0)
 else
  Option.bind b.1 fun f=>
   Option.bind (a00 a f b.2.1) fun c=>
    if b0j y0.To c.1 then
     Option.bind (a0H a (r7 y0.To c.1)) fun g=>
      some g
    else none
def d0D (d:Nat)(a:(List C0))(b:List Int×Int):Option (V0 (List Int×Int) (List Int)):=
 let(x2,x3):=b
 if(decide (x3<(a.length:Int)))then
  Option.bind ((
   if B0 a x3 then
    if(((gt a x3).Kind)==2)then
     if I0 8 x2 [x3]then
      some (x2++[x3])
     else none
    else
     some x2
   else none):Option (List Int)) fun c=>
   some (.next (c,(W (x3+1))))
 else
  some (.done x2)
def b0t (a:Nat)(b:(List C0)):Option ((List Int)):=
 Option.bind (B6 a b) fun c=>
 if(!c)then
  some ([]:List Int)
 else
  Option.bind (iter (d0D a b) a (([]:List Int),0)) fun d=>
   some d
def e0C (i:Nat)(a:(List C0))(b:List Bool×Int):Option (V0 (List Bool×Int) (List Bool)):=
 let(x2,x3):=b
 if(decide (x3<(a.length:Int)))then
  Option.bind ((
   if B0 a x3 then
    Option.bind ((
     Option.bind ((
      if(((gt a x3).Kind)==1)then
       some (((gt a x3).Kind)==1)
      else
       if(((gt a x3).Kind)==5)then
        some (((gt a x3).Kind)==5)
       else
        some (((gt a x3).Kind)==6)):Option (Bool)) fun e=>
      if e then
       if B0 x2 x3 then
        some (x2.set (Int.toNat x3) true)
       else none
      else
       if(((gt a x3).Kind)==3)then
        Option.bind ((
         if B0 a x3 then
          if B0 x2 ((gt a x3).A)then
           if(gt x2 ((gt a x3).A))then
            if B0 a x3 then
             if B0 x2 ((gt a x3).B)then
              if B0 x2 x3 then
               some (x2.set (Int.toNat x3) (gt x2 ((gt a x3).B)))
              else none
             else none
            else none
           else
            if B0 x2 x3 then
             some (x2.set (Int.toNat x3) false)
            else none
          else none
         else none):Option (List Bool)) fun f=>
         some f
       else
        if(((gt a x3).Kind)==4)then
         Option.bind ((
          if B0 a x3 then
           if B0 x2 ((gt a x3).A)then
            if(gt x2 ((gt a x3).A))then
             if B0 x2 x3 then
              some (x2.set (Int.toNat x3) true)
             else none
            else
             if B0 a x3 then
              if B0 x2 ((gt a x3).B)then
               if B0 x2 x3 then
                some (x2.set (Int.toNat x3) (gt x2 ((gt a x3).B)))
               else none
              else none
             else none
           else none
          else none):Option (List Bool)) fun g=>
          some g
        else
         Option.bind ((
          if(((gt a x3).Kind)==7)then
           some (((gt a x3).Kind)==7)
          else
           some (((gt a x3).Kind)==8)):Option (Bool)) fun h=>
          if h then
           if B0 a x3 then
            if B0 x2 ((gt a x3).A)then
             if B0 x2 x3 then
              some (x2.set (Int.toNat x3) (gt x2 ((gt a x3).A)))
             else none
            else none
           else none
          else
           some x2):Option (List Bool)) fun d=>
     some d
   else none):Option (List Bool)) fun c=>
   some (.next (c,(W (x3+1))))
 else
  some (.done x2)
def a0j (b:Nat)(a:(List C0)):Option ((List Bool)):=
 Option.bind (B6 b a) fun c=>
 if(!c)then
  some ([]:List Bool)
 else
  if V2 1 (a.length:Int)then
   Option.bind (iter (e0C b a) b ((List.replicate (Int.toNat (a.length:Int)) false),0)) fun d=>
    some d
  else none
def Y5 (a:Nat):Nat->(List C0)->(List Bool)->Int->Option ((List Int))
 |0,_,_,_=>none
 |k+1,p0,p1,p2=>
  Option.bind ((
   if B0 p0 p2 then
    Option.bind ((
     if(((gt p0 p2).Kind)==3)then
      if B0 p0 p2 then
       Option.bind (Y5 a k p0 p1 ((gt p0 p2).A)) fun b=>
        if I0 8 [(W (2*p2))] b then
         if B0 p0 p2 then
          Option.bind (Y5 a k p0 p1 ((gt p0 p2).B)) fun d=>
           if I0 8 ([(W (2*p2))]++b) d then
            some (([(W (2*p2))]++b)++d)
           else none
         else none
        else none
      else none
     else
      if(((gt p0 p2).Kind)==4)then
       if B0 p0 p2 then
        if B0 p1 ((gt p0 p2).A)then
         if(gt p1 ((gt p0 p2).A))then
          if B0 p0 p2 then
           Option.bind (Y5 a k p0 p1 ((gt p0 p2).A)) fun e=>
            if I0 8 [(W (2*p2))] e then
             some ([(W (2*p2))]++e)
            else none
          else none
         else
          if B0 p0 p2 then
           Option.bind (Y5 a k p0 p1 ((gt p0 p2).B)) fun f=>
            if I0 8 [(W (2*p2))] f then
             some ([(W (2*p2))]++f)
            else none
          else none
        else none
       else none
      else
       Option.bind ((
        if(((gt p0 p2).Kind)==7)then
         some (((gt p0 p2).Kind)==7)
        else
         some (((gt p0 p2).Kind)==8)):Option (Bool)) fun i=>
        if i then
         if B0 p0 p2 then
          Option.bind (Y5 a k p0 p1 ((gt p0 p2).A)) fun g=>
           if I0 8 [(W (2*p2))] g then
            some ([(W (2*p2))]++g)
           else none
         else none
        else
         some [(W (2*p2))]):Option (List Int)) fun h=>
     some h
   else none):Option (List Int)) fun c=>
   if I0 8 c [(W ((W (2*p2))+1))]then
    some (c++[(W ((W (2*p2))+1))])
   else none
def c0i (c:Nat)(d:(List C0))(a:Int):Option ((List Int)):=
 Option.bind (a0j c d) fun b=>
 Option.bind ((
  if(decide (a<0))then
   some true
  else
   if(decide (a>=(b.length:Int)))then
    some true
   else
    if B0 b a then
     some (!(gt b a))
    else none):Option (Bool)) fun e=>
  if e then
   some ([]:List Int)
  else
   Option.bind (Y5 c c d b a) fun f=>
    some f
def g0c (d:Nat)(a:(List C0))(c:List Int×Int×Int):Option (V0 (List Int×Int×Int) (List Int)):=
 let(x2,x3,x4):=c
 if(decide (x4<(a.length:Int)))then
  Option.bind ((
   if B0 x2 x4 then
    if B0 a x4 then
     if(((gt a x4).Kind)==2)then
      if B0 (x2.set (Int.toNat x4) (-1)) x4 then
       some (((x2.set (Int.toNat x4) (-1)).set (Int.toNat x4) x3),(W (x3+1)))
      else none
     else
      some ((x2.set (Int.toNat x4) (-1)),x3)
    else none
   else none):Option (List Int×Int)) fun b=>match b with
  |(x5,x6)=>
   some (.next (x5,x6,(W (x4+1))))
 else
  some (.done x2)
def b0p (b:Nat)(a:(List C0)):Option ((List Int)):=
 Option.bind (B6 b a) fun c=>
 if(!c)then
  some ([]:List Int)
 else
  if V2 8 (a.length:Int)then
   Option.bind (iter (g0c b a) b ((List.replicate (Int.toNat (a.length:Int)) (0:Int)),0,0)) fun d=>
    some d
  else none
def n0c (c:Nat)(a:(List C0))(b:List Int×Int):Option (V0 (List Int×Int) (List Int)):=
 let(x2,x3):=b
 if(decide (x3<(a.length:Int)))then
  if B0 x2 x3 then
   some (.next ((x2.set (Int.toNat x3) (-1)),(W (x3+1))))
  else none
 else
  some (.done x2)
def h0N (e:Nat)(a:(List C0))(f:List Int)(c:List Int×Int):Option (V0 (List Int×Int) (List Int)):=
 let(x4,x5):=c
 if(decide (x5<(a.length:Int)))then
  Option.bind ((
   Option.bind ((
    if B0 a x5 then
     if(decide (((gt a x5).A)>=0))then
      if B0 a x5 then
       if B0 x4 ((gt a x5).A)then
        some (x4.set (Int.toNat ((gt a x5).A)) x5)
       else none
      else none
     else
      some x4
    else none):Option (List Int)) fun b=>
    if B0 a x5 then
     if(decide (((gt a x5).B)>=0))then
      if B0 a x5 then
       if B0 b ((gt a x5).B)then
        some (b.set (Int.toNat ((gt a x5).B)) x5)
       else none
      else none
     else
      some b
    else none):Option (List Int)) fun d=>
   some (.next (d,(W (x5+1))))
 else
  some (.done x4)
def c0n (a:Nat)(b:(List C0)):Option ((List Int)):=
 Option.bind (B6 a b) fun d=>
 if(!d)then
  some ([]:List Int)
 else
  if V2 8 (b.length:Int)then
   Option.bind (iter (n0c a b) a ((List.replicate (Int.toNat (b.length:Int)) (0:Int)),0)) fun c=>
    Option.bind (iter (h0N a b c) a (c,0)) fun e=>
     some e
  else none
def K9 (c:Nat)(a:(List Int))(b:(List Int)):Option ((List Int)):=
 if I0 8 ([]:List Int) a then
 if I0 8 (([]:List Int)++a) b then
  some ((([]:List Int)++a)++b)
 else none
else none
def O6 (a:Nat):Nat->(List C0)->(List Int)->(List Bool)->Int->(List Int)->Option ((List y0))
 |0,_,_,_,_,_=>none
 |k+1,p0,p1,p2,p3,p4=>
  if B0 p0 p3 then
   Option.bind (K9 a p4 [(W (2*p3))]) fun b=>
    if(((gt p0 p3).Kind)==2)then
     if B0 p1 p3 then
      some [(⟨(gt p1 p3),(0:Int),b⟩:y0)]
     else none
    else
     if(((gt p0 p3).Kind)==3)then
      Option.bind (O6 a k p0 p1 p2 ((gt p0 p3).A) b) fun c=>
       Option.bind ((
        if B0 p2 ((gt p0 p3).A)then
         if(gt p2 ((gt p0 p3).A))then
          Option.bind (Y5 a a p0 p2 ((gt p0 p3).A)) fun i=>
           Option.bind (K9 a b i) fun j=>
            Option.bind (O6 a k p0 p1 p2 ((gt p0 p3).B) j) fun d=>
             if I0 40 c d then
              some (c++d)
             else none
         else
          some c
        else none):Option (List y0)) fun h=>
        some h
     else
      if(((gt p0 p3).Kind)==4)then
       Option.bind (O6 a k p0 p1 p2 ((gt p0 p3).A) b) fun e=>
        Option.bind (O6 a k p0 p1 p2 ((gt p0 p3).B) b) fun f=>
         if I0 40 e f then
          some (e++f)
         else none
      else
       Option.bind ((
        if(((gt p0 p3).Kind)==5)then
         some (((gt p0 p3).Kind)==5)
        else
         if(((gt p0 p3).Kind)==6)then
          some (((gt p0 p3).Kind)==6)
         else
          if(((gt p0 p3).Kind)==7)then
           some (((gt p0 p3).Kind)==7)
          else
           some (((gt p0 p3).Kind)==8)):Option (Bool)) fun l=>
        if l then
         Option.bind (O6 a k p0 p1 p2 ((gt p0 p3).A) b) fun g=>
          some g
        else
         some ([]:List y0)
  else none
def o0u (d:Nat)(a:(List Int))(b:List Int×Int):Option (V0 (List Int×Int) (List Int)):=
 let(x2,x3):=b
 if(decide (x3>=0))then
  Option.bind ((
   if B0 x2 x3 then
    if B0 a x3 then
     if(decide ((gt a x3)>=0))then
      if B0 a x3 then
       if B0 (x2.set (Int.toNat x3) 1) (gt a x3)then
        if B0 (x2.set (Int.toNat x3) 1) x3 then
         some ((x2.set (Int.toNat x3) 1).set (Int.toNat x3) (W ((gt (x2.set (Int.toNat x3) 1) (gt a x3))+1)))
        else none
       else none
      else none
     else
      some (x2.set (Int.toNat x3) 1)
    else none
   else none):Option (List Int)) fun c=>
   some (.next (c,(W (x3-1))))
 else
  some (.done x2)
def e0N (b:Nat)(c:(List C0)):Option ((List Int)):=
 Option.bind (c0n b c) fun a=>
 if V2 8 (a.length:Int)then
  Option.bind (iter (o0u b a) b ((List.replicate (Int.toNat (a.length:Int)) (0:Int)),(W ((a.length:Int)-1)))) fun d=>
   some d
 else none
def l0R (e:Nat)(b:(List y0))(c:Int)(d:Int):Option (V0 (Int) ((Unit)⊕(Bool))):=
 let a:=d
 if(decide (a<(b.length:Int)))then
  if B0 b a then
   if(((gt b a).To)==c)then
    some (.done (.inr true))
   else
    some (.next (W (a+1)))
  else none
 else
  some (.done (.inl ()))
def e0b (a:Nat)(b:(List y0))(c:Int):Option (Bool):=
 Option.bind (iter (l0R a b c) a 0) fun e=>match e with
|.inl _=>
 some false
|.inr d=>some d
def o0m (d:Nat)(h:(List C0))(m:y0)(a:(List Int))(b:(List Int))(k:(List Int))(l:(List Bool))(c:Int)(n:List Int)(o:List y0)(i:Int)(j:(List y0))(f:List y0×List y0×Int):Option (V0 (List y0×List y0×Int) (List y0)):=
 let(x15,x16,x17):=f
 if(decide (x17<(x16.length:Int)))then
  Option.bind ((
   if B0 x16 x17 then
    Option.bind (e0b d x15 ((gt x16 x17).To)) fun g=>
     if(!g)then
      if B0 b (gt a c)then
       if B0 x16 x17 then
        if B0 (x16.set (Int.toNat x17) (⟨(gt x16 x17).To,(gt b (gt a c)),(gt x16 x17).Steps⟩:y0)) x17 then
         if I0 40 x15 [(gt (x16.set (Int.toNat x17) (⟨(gt x16 x17).To,(gt b (gt a c)),(gt x16 x17).Steps⟩:y0)) x17)]then
          some ((x15++[(gt (x16.set (Int.toNat x17) (⟨(gt x16 x17).To,(gt b (gt a c)),(gt x16 x17).Steps⟩:y0)) x17)]),(x16.set (Int.toNat x17) (⟨(gt x16 x17).To,(gt b (gt a c)),(gt x16 x17).Steps⟩:y0)))
         else none
        else none
       else none
      else none
     else
      some (x15,x16)
   else none):Option (List y0×List y0)) fun e=>match e with
  |(x18,x19)=>
   some (.next (x18,x19,(W (x17+1))))
 else
  some (.done x15)
def m0O (c:Nat)(b:(List C0))(a:(List Int))(n:(List Int))(h:(List Int))(e:(List Bool))(u:(List Int))(t:Int)(k:y0×Int×List Int×List y0):Option (V0 (y0×Int×List Int×List y0) ((y0×List Int×List y0)⊕((List y0)×y0×Bool))):=
 let(x6,x7,x8,x9):=k
 if B0 a x7 then
  if(decide ((gt a x7)>=0))then
   if B0 a x7 then
    Option.bind ((
     Option.bind ((
      if B0 b (gt a x7)then
       if(((gt b (gt a x7)).Kind)==3)then
        if B0 b (gt a x7)then
         some (((gt b (gt a x7)).A)==x7)
        else none
       else
        some false
      else none):Option (Bool)) fun m=>
      if m then
       if B0 b (gt a x7)then
        some ((gt b (gt a x7)).B)
       else none
      else
       some (-1)):Option (Int)) fun l=>
     Option.bind ((
      if B0 b (gt a x7)then
       if(((gt b (gt a x7)).Kind)==5)then
        if B0 b (gt a x7)then
         some ((gt b (gt a x7)).A)
        else none
       else
        some l
      else none):Option (Int)) fun d=>
      Option.bind ((
       if(decide (d>=0))then
        Option.bind (O6 c c b h e d x8) fun g=>
         Option.bind (iter (o0m c b x6 a n h e x7 x8 x9 d g) c (x9,g,0)) fun s=>
          some s
       else
        some x9):Option (List y0)) fun f=>
       Option.bind ((
        Option.bind ((
         if B0 b (gt a x7)then
          if(((gt b (gt a x7)).Kind)==3)then
           if B0 b (gt a x7)then
            some (((gt b (gt a x7)).A)==x7)
           else none
          else
           some false
         else none):Option (Bool)) fun o=>
         if o then
          if B0 e d then
           if(!(gt e d))then
            some (.inr (f,(⟨(0:Int),(0:Int),[]⟩:y0),false))
           else
            Option.bind (Y5 c c b e d) fun p=>
             Option.bind (K9 c x8 p) fun q=>
              some (.inl q)
          else none
         else
          some (.inl x8)):Option ((List Int)⊕((List y0)×y0×Bool))) fun i=>match i with
       |.inl x21=>
        Option.bind (K9 c x21 [(W ((W (2*(gt a x7)))+1))]) fun r=>
         some (.next (x6,(gt a x7),r,f))
       |.inr j=>some (.done (.inr j))
   else none
  else
   some (.done (.inl (x6,x8,x9)))
 else none
def e0d (a:Nat)(b:(List C0))(c:Int):Option ((List y0)×y0×Bool):=
 Option.bind (c0n a b) fun g=>
 Option.bind (e0N a b) fun h=>
  Option.bind (b0p a b) fun i=>
   Option.bind (a0j a b) fun j=>
    Option.bind (b0t a b) fun d=>
     if B0 d c then
      Option.bind (iter (m0O a b g h i j d c) a ((⟨(0:Int),(0:Int),[]⟩:y0),(gt d c),[(W ((W (2*(gt d c)))+1))],([]:List y0))) fun f=>match f with
      |.inl (y1,y2,y3)=>
       some (y3,(⟨(-1),(0:Int),y2⟩:y0),true)
      |.inr e=>some e
     else none
def m0j (b:Nat)(a:(List C0))(c:Int):Option (y0×Bool):=
 Option.bind ((
 if(decide (c<(-1)))then
  some true
 else
  Option.bind (B6 b a) fun g=>
   if(!g)then
    some true
   else
    Option.bind (b0t b a) fun h=>
     some (decide (c>=(h.length:Int)))):Option (Bool)) fun f=>
 if f then
  some ((⟨(0:Int),(0:Int),[]⟩:y0),false)
 else
  if(c==(-1))then
   Option.bind (c0i b a (W ((a.length:Int)-1))) fun d=>
    if((d.length:Int)==0)then
     some ((⟨(0:Int),(0:Int),[]⟩:y0),false)
    else
     some ((⟨(-1),(0:Int),d⟩:y0),true)
  else
   Option.bind (e0d b a c) fun e=>
    some (e.2.1,e.2.2)
def m0N (a:Nat)(b:(List C0))(c:Int):Option ((List y0)):=
 Option.bind ((
 Option.bind (B6 a b) fun e=>
  if(!e)then
   some true
  else
   if(decide (c<0))then
    some true
   else
    some (decide (c>=(b.length:Int)))):Option (Bool)) fun d=>
 if d then
  some ([]:List y0)
 else
  Option.bind (b0p a b) fun f=>
   Option.bind (a0j a b) fun g=>
    Option.bind (O6 a a b f g c ([]:List Int)) fun h=>
     some h
