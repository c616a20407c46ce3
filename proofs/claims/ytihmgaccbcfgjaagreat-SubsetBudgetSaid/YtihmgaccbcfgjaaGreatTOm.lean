/- P. Its conditions: none. -/
import Derived.Test.YtihmgaccbcfgjaaGreatTMd
import Derived.Test.YtihmgaccbcfgjaaGreatTG28
set_option linter.all false
set_option maxRecDepth 20000
namespace Go.Proofs.YtihmgaccbcfgjaaGreat.Old
open Go.V Go.RowKit
def P2 (a:C0):Prop:=(L5 .i64) a.Kind/\(L5 .i64) a.A/\(L5 .i64) a.B/\(L5 .i64) a.N/\(a.Set.length=4/\∀y∈a.Set,L5 .u64 y)
def c0t (c:Nat)(a:Int):Option (Bool×Bool):=
 Option.bind ((
 if(decide (a>=3))then
  if(a==3)then
   some ((decide (a<=8)),true)
  else
   some ((decide (a<=8)),(a==4))
 else
  if(a==3)then
   some (false,true)
  else
   some (false,(a==4))):Option (Bool×Bool)) fun b=>match b with
|(x1,x2)=>
 some (x1,x2)
def d0A (f:Nat)(a:(List C0))(g:List Int)(h:Int)(c:Int)(d:Int):Option (Q0 (Int) ((Unit)⊕((List Int)))):=
 let b:=d
 if(decide (b<c))then
  Option.bind ((
   if(((gt a c).Kind)==7)then
    if y0 a b then
     if(((gt a b).Kind)==7)then
      if y0 a b then
       some (((gt a b).N)==((gt a c).N))
      else none
     else
      some false
    else none
   else
    some false):Option (Bool)) fun e=>
   if e then
    some (.done (.inr ([]:List Int)))
   else
    some (.next (W (b+1)))
 else
  some (.done (.inl ()))
def e0h (d:Nat)(a:(List C0))(h:List Int×Int×Int):Option (Q0 (List Int×Int×Int) ((List Int×Int)⊕((List Int)))):=
 let(x1,x2,x3):=h
 if(decide (x3<(a.length:Int)))then
  if y0 a x3 then
   Option.bind (c0t d ((gt a x3).Kind)) fun c=>
    if y0 x1 x3 then
     Option.bind ((
      if(decide (((gt a x3).Kind)<1))then
       some true
      else
       if(decide (((gt a x3).Kind)>8))then
        some true
       else
        if(((gt a x3).Kind) != 2)then
         if(!(((gt ((gt a x3).Set) 0)==0)&&(((gt ((gt a x3).Set) 1)==0)&&(((gt ((gt a x3).Set) 2)==0)&&((gt ((gt a x3).Set) 3)==0)))))then
          some true
         else
          if(((gt a x3).Kind) != 7)then
           if(((gt a x3).N) != 0)then
            some true
           else
            if(((gt a x3).Kind)==7)then
             if(decide (((gt a x3).N)<1))then
              some true
             else
              some (decide (((gt a x3).N)>9))
            else
             some false
          else
           if(((gt a x3).Kind)==7)then
            if(decide (((gt a x3).N)<1))then
             some true
            else
             some (decide (((gt a x3).N)>9))
           else
            some false
        else
         if(((gt a x3).Kind) != 7)then
          if(((gt a x3).N) != 0)then
           some true
          else
           if(((gt a x3).Kind)==7)then
            if(decide (((gt a x3).N)<1))then
             some true
            else
             some (decide (((gt a x3).N)>9))
           else
            some false
         else
          if(((gt a x3).Kind)==7)then
           if(decide (((gt a x3).N)<1))then
            some true
           else
            some (decide (((gt a x3).N)>9))
          else
           some false):Option (Bool)) fun k=>
      if k then
       some (.done (.inr ([]:List Int)))
      else
       Option.bind ((
        if(!c.1)then
         if(((gt a x3).A) != (-1))then
          some true
         else
          if(!c.2)then
           some (((gt a x3).B) != (-1))
          else
           some false
        else
         if(!c.2)then
          some (((gt a x3).B) != (-1))
         else
          some false):Option (Bool)) fun l=>
        if l then
         some (.done (.inr ([]:List Int)))
        else
         Option.bind ((
          if(((gt a x3).Kind)==2)then
           some (W (x2+1))
          else
           some x2):Option (Int)) fun e=>
          Option.bind ((
           if c.2 then
            Option.bind ((
             if(((gt a x3).B) != (W (x3-1)))then
              some true
             else
              some (decide ((W (x3-1))<0))):Option (Bool)) fun m=>
             if m then
              some (.inr ([]:List Int))
             else
              if y0 (x1.set (Int.toNat x3) x3) (W (x3-1))then
               some (.inl (W ((gt (x1.set (Int.toNat x3) x3) (W (x3-1)))-1)))
              else none
           else
            some (.inl (W (x3-1)))):Option ((Int)⊕((List Int)))) fun f=>match f with
          |.inl x8=>
           Option.bind ((
            if c.1 then
             Option.bind ((
              if(((gt a x3).A) != x8)then
               some true
              else
               some (decide (x8<0))):Option (Bool)) fun j=>
              if j then
               some (.inr ([]:List Int))
              else
               if y0 (x1.set (Int.toNat x3) x3) x8 then
                if y0 (x1.set (Int.toNat x3) x3) x3 then
                 some (.inl ((x1.set (Int.toNat x3) x3).set (Int.toNat x3) (gt (x1.set (Int.toNat x3) x3) x8)))
                else none
               else none
            else
             some (.inl (x1.set (Int.toNat x3) x3))):Option ((List Int)⊕((List Int)))) fun g=>match g with
           |.inl x10=>
            if y0 x10 x3 then
             Option.bind (iter (d0A d a x10 e x3) d (gt x10 x3)) fun i=>match i with
             |.inl _=>
              some (.next (x10,e,(W (x3+1))))
             |.inr b=>some (.done (.inr b))
            else none
           |.inr b=>some (.done (.inr b))
          |.inr b=>some (.done (.inr b))
    else none
  else none
 else
  some (.done (.inl (x1,x2)))
def b0G (b:Nat)(a:(List C0)):Option ((List Int)):=
 if R2 8 (a.length:Int)then
 Option.bind (iter (e0h b a) b ((List.replicate (Int.toNat (a.length:Int)) (0:Int)),0,0)) fun d=>match d with
 |.inl (y1,y2)=>
  Option.bind ((
   if((a.length:Int)==0)then
    some true
   else
    if(decide ((a.length:Int)>400))then
     some true
    else
     if(decide (y2>64))then
      some true
     else
      if y0 y1 (W ((a.length:Int)-1))then
       some ((gt y1 (W ((a.length:Int)-1))) != 0)
      else none):Option (Bool)) fun e=>
   if e then
    some ([]:List Int)
   else
    if h08 y1 then some y1 else none
 |.inr c=>some c
else none
def U6 (a:Nat)(b:(List C0)):Option (Bool):=
 Option.bind (b0G a b) fun c=>
 some (!(c.isEmpty))
def c0u (m:Nat)(b:(List C0))(c:(List Int))(a:Int):Option (Int):=
 if y0 b a then
 Option.bind ((
  Option.bind ((
   Option.bind ((
    if(((gt b a).Kind)==1)then
     some (((gt b a).Kind)==1)
    else
     some (((gt b a).Kind)==2)):Option (Bool)) fun g=>
    if g then
     Option.bind ((
      if(((gt b a).A)==(-1))then
       some (((gt b a).B)==(-1))
      else
       some false):Option (Bool)) fun h=>
      if h then
       some (.inr a)
      else
       some (.inl ())
    else
     Option.bind ((
      if(((gt b a).Kind)==3)then
       some (((gt b a).Kind)==3)
      else
       some (((gt b a).Kind)==4)):Option (Bool)) fun i=>
      if i then
       Option.bind ((
        if(decide (((gt b a).B)>=0))then
         if(((gt b a).B)==(W (a-1)))then
          if(decide (((gt b a).A)>=0))then
           if y0 c ((gt b a).B)then
            some (((gt b a).A)==(W ((gt c ((gt b a).B))-1)))
           else none
          else
           some false
         else
          some false
        else
         some false):Option (Bool)) fun j=>
        if j then
         if y0 c ((gt b a).A)then
          some (.inr (gt c ((gt b a).A)))
         else none
        else
         some (.inl ())
      else
       Option.bind ((
        if(((gt b a).Kind)==5)then
         some (((gt b a).Kind)==5)
        else
         if(((gt b a).Kind)==6)then
          some (((gt b a).Kind)==6)
         else
          if(((gt b a).Kind)==7)then
           some (((gt b a).Kind)==7)
          else
           some (((gt b a).Kind)==8)):Option (Bool)) fun k=>
        if k then
         Option.bind ((
          if(((gt b a).B)==(-1))then
           if(decide (((gt b a).A)>=0))then
            some (((gt b a).A)==(W (a-1)))
           else
            some false
          else
           some false):Option (Bool)) fun l=>
          if l then
           if y0 c ((gt b a).A)then
            some (.inr (gt c ((gt b a).A)))
           else none
          else
           some (.inl ())
        else
         some (.inl ())):Option ((Unit)⊕(Int))) fun f=>match f with
  |.inl _=>
   some (.inl ())
  |.inr d=>some (.inr d)):Option ((Unit)⊕(Int))) fun e=>match e with
 |.inl _=>
  some (-1)
 |.inr d=>some d
else none
def c0v (d:Nat)(a:C0):Option (Bool):=
 Option.bind ((
 if(a.Kind != 2)then
  some (!(((gt a.Set 0)==0)&&(((gt a.Set 1)==0)&&(((gt a.Set 2)==0)&&((gt a.Set 3)==0)))))
 else
  some false):Option (Bool)) fun b=>
 if b then
  some false
 else
  if(a.Kind==7)then
   Option.bind ((
    if(decide (a.N>=1))then
     some (decide (a.N<=9))
    else
     some false):Option (Bool)) fun c=>
    some c
  else
   some (a.N==0)
def c0B (f:Nat)(c:C0)(b:(List C0))(d:Int):Option (Q0 (Int) ((Unit)⊕(Bool))):=
 let a:=d
 if(decide (a<(b.length:Int)))then
  if y0 b a then
   Option.bind ((
    if(c.Kind==7)then
     if(((gt b a).Kind)==7)then
      some (((gt b a).N)==c.N)
     else
      some false
    else
     some false):Option (Bool)) fun e=>
    if e then
     some (.done (.inr true))
    else
     some (.next (W (a+1)))
  else none
 else
  some (.done (.inl ()))
def c0b (a:Nat)(b:C0)(c:(List C0)):Option (Bool):=
 Option.bind (iter (c0B a b c) a 0) fun e=>match e with
|.inl _=>
 some false
|.inr d=>some d
def e0O (c:Nat)(a:(List C0))(d:List Int×Int×Int):Option (Q0 (List Int×Int×Int) ((List Int×Int)⊕((List Int)))):=
 let(x2,x3,x4):=d
 if(decide (x4<(a.length:Int)))then
  if y0 a x4 then
   Option.bind (c0u c a x2 x4) fun b=>
    Option.bind ((
     if(decide (b<0))then
      some true
     else
      Option.bind (c0v c (gt a x4)) fun f=>
       if(!f)then
        some true
       else
        if P3 a b x4 then
         Option.bind (c0b c (gt a x4) (G1 a b x4)) fun g=>
          some g
        else none):Option (Bool)) fun e=>
     if e then
      some (.done (.inr ([]:List Int)))
     else
      Option.bind ((
       if(((gt a x4).Kind)==2)then
        some (W (x3+1))
       else
        some x3):Option (Int)) fun h=>
       if K0 8 x2 [b]then
        some (.next ((x2++[b]),h,(W (x4+1))))
       else none
  else none
 else
  some (.done (.inl (x2,x3)))
def I9 (b:Nat)(a:(List C0)):Option ((List Int)):=
 Option.bind ((
 if((a.length:Int)==0)then
  some true
 else
  some (decide ((a.length:Int)>400))):Option (Bool)) fun e=>
 if e then
  some ([]:List Int)
 else
  Option.bind (iter (e0O b a) b (([]:List Int),0,0)) fun d=>match d with
  |.inl (y1,y2)=>
   Option.bind ((
    if(decide (y2>64))then
     some true
    else
     if y0 y1 (W ((a.length:Int)-1))then
      some ((gt y1 (W ((a.length:Int)-1))) != 0)
     else none):Option (Bool)) fun f=>
    if f then
     some ([]:List Int)
    else
     if h08 y1 then some y1 else none
  |.inr c=>some c
def l6 (a:Nat)(b:(List C0)):Option (Bool):=
 Option.bind (I9 a b) fun c=>
 some (decide ((c.length:Int)>0))
def d0Z (i:Nat)(a:(List C0))(b:List Bool×Int):Option (Q0 (List Bool×Int) (List Bool)):=
 let(x2,x3):=b
 if(decide (x3<(a.length:Int)))then
  Option.bind ((
   if y0 a x3 then
    Option.bind ((
     Option.bind ((
      if(((gt a x3).Kind)==1)then
       some (((gt a x3).Kind)==1)
      else
       if(((gt a x3).Kind)==5)then
        some (((gt a x3).Kind)==5)
       else
        some (((gt a x3).Kind)==6)):Option (Bool)) fun e=>
      if e then
       if y0 x2 x3 then
        some (x2.set (Int.toNat x3) true)
       else none
      else
       if(((gt a x3).Kind)==3)then
        Option.bind ((
         if y0 x2 ((gt a x3).A)then
          if(gt x2 ((gt a x3).A))then
           if y0 x2 ((gt a x3).B)then
            if y0 x2 x3 then
             some (x2.set (Int.toNat x3) (gt x2 ((gt a x3).B)))
            else none
           else none
          else
           if y0 x2 x3 then
            some (x2.set (Int.toNat x3) false)
           else none
         else none):Option (List Bool)) fun f=>
         some f
       else
        if(((gt a x3).Kind)==4)then
         Option.bind ((
          if y0 x2 ((gt a x3).A)then
           if(gt x2 ((gt a x3).A))then
            if y0 x2 x3 then
             some (x2.set (Int.toNat x3) true)
            else none
           else
            if y0 x2 ((gt a x3).B)then
             if y0 x2 x3 then
              some (x2.set (Int.toNat x3) (gt x2 ((gt a x3).B)))
             else none
            else none
          else none):Option (List Bool)) fun g=>
          some g
        else
         Option.bind ((
          if(((gt a x3).Kind)==7)then
           some (((gt a x3).Kind)==7)
          else
           some (((gt a x3).Kind)==8)):Option (Bool)) fun h=>
          if h then
           if y0 x2 ((gt a x3).A)then
            if y0 x2 x3 then
             some (x2.set (Int.toNat x3) (gt x2 ((gt a x3).A)))
            else none
           else none
          else
           some x2):Option (List Bool)) fun d=>
     some d
   else none):Option (List Bool)) fun c=>
   some (.next (c,(W (x3+1))))
 else
  some (.done x2)
def a0v (b:Nat)(a:(List C0)):Option ((List Bool)):=
 Option.bind (l6 b a) fun c=>
 if(!c)then
  some ([]:List Bool)
 else
  if R2 1 (a.length:Int)then
   Option.bind (iter (d0Z b a) b ((List.replicate (Int.toNat (a.length:Int)) false),0)) fun d=>
    some d
  else none
def L6 (a:Nat):Nat->(List C0)->(List Bool)->Int->(List Int)->Option ((List Int))
 |0,_,_,_,_=>none
 |k+1,p0,p1,p2,p3=>
  if K0 8 p3 [(W (2*p2))]then
   if y0 p0 p2 then
    Option.bind ((
     Option.bind ((
      if(((gt p0 p2).Kind)==3)then
       Option.bind (L6 a k p0 p1 ((gt p0 p2).A) (p3++[(W (2*p2))])) fun d=>
        Option.bind (L6 a k p0 p1 ((gt p0 p2).B) d) fun e=>
         some e
      else
       if(((gt p0 p2).Kind)==4)then
        if y0 p1 ((gt p0 p2).A)then
         if(gt p1 ((gt p0 p2).A))then
          Option.bind (L6 a k p0 p1 ((gt p0 p2).A) (p3++[(W (2*p2))])) fun f=>
           some f
         else
          Option.bind (L6 a k p0 p1 ((gt p0 p2).B) (p3++[(W (2*p2))])) fun g=>
           some g
        else none
       else
        Option.bind ((
         if(((gt p0 p2).Kind)==7)then
          some (((gt p0 p2).Kind)==7)
         else
          some (((gt p0 p2).Kind)==8)):Option (Bool)) fun h=>
         if h then
          Option.bind (L6 a k p0 p1 ((gt p0 p2).A) (p3++[(W (2*p2))])) fun i=>
           some i
         else
          some (p3++[(W (2*p2))])):Option (List Int)) fun c=>
      some c):Option (List Int)) fun b=>
     if K0 8 b [(W ((W (2*p2))+1))]then
      some (b++[(W ((W (2*p2))+1))])
     else none
   else none
  else none
def a0e (c:Nat)(d:(List C0))(a:Int):Option ((List Int)):=
 Option.bind (a0v c d) fun b=>
 Option.bind ((
  if(decide (a<0))then
   some true
  else
   if(decide (a>=(b.length:Int)))then
    some true
   else
    if y0 b a then
     some (!(gt b a))
    else none):Option (Bool)) fun e=>
  if e then
   some ([]:List Int)
  else
   Option.bind (L6 c c d b a ([]:List Int)) fun f=>
    some f
def e0j (e:Nat)(a:(List C0))(c:List Int×Int):Option (Q0 (List Int×Int) (List Int)):=
 let(x2,x3):=c
 if(decide (x3<(a.length:Int)))then
  Option.bind ((
   if y0 a x3 then
    Option.bind ((
     if(decide (((gt a x3).A)>=0))then
      if y0 x2 ((gt a x3).A)then
       some (x2.set (Int.toNat ((gt a x3).A)) x3)
      else none
     else
      some x2):Option (List Int)) fun b=>
     if(decide (((gt a x3).B)>=0))then
      if y0 b ((gt a x3).B)then
       some (b.set (Int.toNat ((gt a x3).B)) x3)
      else none
     else
      some b
   else none):Option (List Int)) fun d=>
   some (.next (d,(W (x3+1))))
 else
  some (.done x2)
def a0l (b:Nat)(a:(List C0)):Option ((List Int)):=
 Option.bind (l6 b a) fun c=>
 if(!c)then
  some ([]:List Int)
 else
  if R2 8 (a.length:Int)then
   if y0 (List.replicate (Int.toNat (a.length:Int)) (0:Int)) (W ((a.length:Int)-1))then
    Option.bind (iter (e0j b a) b (((List.replicate (Int.toNat (a.length:Int)) (0:Int)).set (Int.toNat (W ((a.length:Int)-1))) (-1)),0)) fun d=>
     some d
   else none
  else none
def f0F (d:Nat)(a:(List Int))(b:List Int×Int):Option (Q0 (List Int×Int) (List Int)):=
 let(x2,x3):=b
 if(decide (x3>=0))then
  Option.bind ((
   if y0 x2 x3 then
    if y0 a x3 then
     if(decide ((gt a x3)>=0))then
      if y0 (x2.set (Int.toNat x3) 1) x3 then
       if y0 a x3 then
        if y0 (x2.set (Int.toNat x3) 1) (gt a x3)then
         if y0 (x2.set (Int.toNat x3) 1) x3 then
          some ((x2.set (Int.toNat x3) 1).set (Int.toNat x3) (W ((gt (x2.set (Int.toNat x3) 1) x3)+(gt (x2.set (Int.toNat x3) 1) (gt a x3)))))
         else none
        else none
       else none
      else none
     else
      some (x2.set (Int.toNat x3) 1)
    else none
   else none):Option (List Int)) fun c=>
   some (.next (c,(W (x3-1))))
 else
  some (.done x2)
def a0P (b:Nat)(c:(List C0)):Option ((List Int)):=
 Option.bind (a0l b c) fun a=>
 if R2 8 (a.length:Int)then
  Option.bind (iter (f0F b a) b ((List.replicate (Int.toNat (a.length:Int)) (0:Int)),(W ((a.length:Int)-1)))) fun d=>
   some d
 else none
def f0h (d:Nat)(a:(List C0))(b:List Int×Int):Option (Q0 (List Int×Int) (List Int)):=
 let(x2,x3):=b
 if(decide (x3<(a.length:Int)))then
  Option.bind ((
   if y0 a x3 then
    if(((gt a x3).Kind)==2)then
     if K0 8 x2 [x3]then
      some (x2++[x3])
     else none
    else
     some x2
   else none):Option (List Int)) fun c=>
   some (.next (c,(W (x3+1))))
 else
  some (.done x2)
def C7 (a:Nat)(b:(List C0)):Option ((List Int)):=
 Option.bind (l6 a b) fun c=>
 if(!c)then
  some ([]:List Int)
 else
  Option.bind (iter (f0h a b) a (([]:List Int),0)) fun d=>
   some d
def f07 (c:Nat)(a:(List C0))(b:List Int×Int):Option (Q0 (List Int×Int) (List Int)):=
 let(x2,x3):=b
 if(decide (x3<((List.replicate (Int.toNat (a.length:Int)) (0:Int)).length:Int)))then
  if y0 x2 x3 then
   some (.next ((x2.set (Int.toNat x3) (-1)),(W (x3+1))))
  else none
 else
  some (.done x2)
def f0q (c:Nat)(d:List Int)(a:(List Int))(b:List Int×Int):Option (Q0 (List Int×Int) (List Int)):=
 let(x5,x6):=b
 if(decide (x6<(a.length:Int)))then
  if y0 a x6 then
   if y0 x5 (gt a x6)then
    some (.next ((x5.set (Int.toNat (gt a x6)) x6),(W (x6+1))))
   else none
  else none
 else
  some (.done x5)
def b05 (a:Nat)(b:(List C0)):Option ((List Int)):=
 Option.bind (l6 a b) fun d=>
 if(!d)then
  some ([]:List Int)
 else
  if R2 8 (b.length:Int)then
   Option.bind (iter (f07 a b) a ((List.replicate (Int.toNat (b.length:Int)) (0:Int)),0)) fun c=>
    Option.bind (C7 a b) fun e=>
     Option.bind (iter (f0q a c e) a (c,0)) fun f=>
      some f
  else none
def b0b (b:Nat)(a:(List C0)):Option ((Option L4)×Bool):=
 Option.bind (l6 b a) fun c=>
 if(!c)then
  some (none,false)
 else
  Option.bind (a0l b a) fun d=>
   Option.bind (a0P b a) fun e=>
    Option.bind (b05 b a) fun f=>
     Option.bind (a0v b a) fun g=>
      some ((some (⟨a,d,e,f,g⟩:L4)),true)
def b0n (c:Nat)(d:(List C0))(a:Int):Option ((Option L4)×Int×Bool):=
 Option.bind (b0b c d) fun e=>
 if(!e.2)then
  some (none,0,false)
 else
  Option.bind (C7 c d) fun b=>
   Option.bind ((
    if(decide (a<0))then
     some true
    else
     some (decide (a>=(b.length:Int)))):Option (Bool)) fun f=>
    if f then
     some (none,0,false)
    else
     if y0 b a then
      some (e.1,(gt b a),true)
     else none
def N8 (c:Nat)(a:(List Int))(b:(List Int)):Option ((List Int)):=
 if P3 a 0 (a.length:Int)then
 if(decide ((a.length:Int)<=(a.length:Int))&&decide ((a.length:Int)<=(a.length:Int)))then
  if K0 8 (G1 a 0 (a.length:Int)) b then
   some ((G1 a 0 (a.length:Int))++b)
  else none
 else none
else none
def P5 (a:Nat):Nat->L4->Int->(List Int)->(List B0)->Option ((List B0))
 |0,_,_,_,_=>none
 |k+1,p0,p1,p2,p3=>
  if y0 p0.l p1 then
   Option.bind (N8 a p2 [(W (2*p1))]) fun b=>
    Option.bind ((
     Option.bind ((
      if(((gt p0.l p1).Kind)==2)then
       if y0 p0.index p1 then
        if K0 40 p3 [(⟨(gt p0.index p1),(0:Int),b⟩:B0)]then
         some (.inr (p3++[(⟨(gt p0.index p1),(0:Int),b⟩:B0)]))
        else none
       else none
      else
       if(((gt p0.l p1).Kind)==3)then
        Option.bind (P5 a k p0 ((gt p0.l p1).A) b p3) fun d=>
         if y0 p0.can ((gt p0.l p1).A)then
          if(gt p0.can ((gt p0.l p1).A))then
           Option.bind (a0e a p0.l ((gt p0.l p1).A)) fun i=>
            Option.bind (N8 a b i) fun j=>
             Option.bind (P5 a k p0 ((gt p0.l p1).B) j d) fun m=>
              some (.inl m)
          else
           some (.inl d)
         else none
       else
        if(((gt p0.l p1).Kind)==4)then
         Option.bind (P5 a k p0 ((gt p0.l p1).A) b p3) fun n=>
          Option.bind (P5 a k p0 ((gt p0.l p1).B) b n) fun o=>
           some (.inl o)
        else
         Option.bind ((
          if(((gt p0.l p1).Kind)==5)then
           some (((gt p0.l p1).Kind)==5)
          else
           if(((gt p0.l p1).Kind)==6)then
            some (((gt p0.l p1).Kind)==6)
           else
            if(((gt p0.l p1).Kind)==7)then
             some (((gt p0.l p1).Kind)==7)
            else
             some (((gt p0.l p1).Kind)==8)):Option (Bool)) fun g=>
          if g then
           Option.bind (P5 a k p0 ((gt p0.l p1).A) b p3) fun h=>
            some (.inl h)
          else
           some (.inl p3)):Option ((List B0)⊕((List B0)))) fun f=>match f with
     |.inl x3=>
      some (.inl x3)
     |.inr c=>some (.inr c)):Option ((List B0)⊕((List B0)))) fun e=>match e with
    |.inl x2=>
     some x2
    |.inr c=>some c
  else none
def o0u (c:Nat)(a:B0)(b:B0):Option (Bool):=
 some (a.To==b.To)
def e0f (c:Nat)(b:(List B0))(d:B0)(e:Int):Option (Q0 (Int) ((Unit)⊕(Int))):=
 let a:=e
 if(decide (a<(b.length:Int)))then
  if y0 b a then
   Option.bind (o0u c (gt b a) d) fun f=>
    if f then
     some (.done (.inr a))
    else
     some (.next (W (a+1)))
  else none
 else
  some (.done (.inl ()))
def n0J (a:Nat)(b:(List B0))(c:B0):Option (Int):=
 Option.bind (iter (e0f a b c) a 0) fun e=>match e with
|.inl _=>
 some (-1)
|.inr d=>some d
def j0r (a:Nat)(b:(List B0))(c:B0):Option (Bool):=
 Option.bind (n0J a b c) fun d=>
 some (decide (d>=0))
def d09 (d:Nat)(b:L4)(c:Int)(h:(List B0))(a:(List B0))(e:List B0×Int):Option (Q0 (List B0×Int) (List B0)):=
 let(x2,x3):=e
 if(decide (x3<(a.length:Int)))then
  Option.bind ((
   if y0 a x3 then
    Option.bind (j0r d x2 (gt a x3)) fun g=>
     if(!g)then
      if y0 b.deep c then
       if K0 40 x2 [(⟨(gt a x3).To,(gt b.deep c),(gt a x3).Steps⟩:B0)]then
        some (x2++[(⟨(gt a x3).To,(gt b.deep c),(gt a x3).Steps⟩:B0)])
       else none
      else none
     else
      some x2
   else none):Option (List B0)) fun f=>
   some (.next (f,(W (x3+1))))
 else
  some (.done x2)
def b0h (a:Nat)(b:L4)(d:Int)(e:Int)(f:(List Int))(c:(List B0)):Option ((List B0)):=
 Option.bind (P5 a a b e f ([]:List B0)) fun g=>
 Option.bind (iter (d09 a b d c g) a (c,0)) fun h=>
  some h
def c0n (b:Nat)(a:L4)(m:Int)(f:Int×List Int×List B0×Int):Option (Q0 (Int×List Int×List B0×Int) ((List Int×List B0)⊕((List B0)×(List Int)))):=
 let(x1,x2,x3,x4):=f
 if(decide (x4>=0))then
  if y0 a.l x4 then
   Option.bind ((
    Option.bind ((
     if(((gt a.l x4).Kind)==3)then
      some (((gt a.l x4).A)==x1)
     else
      some false):Option (Bool)) fun j=>
     if j then
      Option.bind (b0h b a x4 ((gt a.l x4).B) x2 x3) fun c=>
       if y0 a.can ((gt a.l x4).B)then
        if(!(gt a.can ((gt a.l x4).B)))then
         some (.inr (c,([]:List Int)))
        else
         Option.bind (a0e b a.l ((gt a.l x4).B)) fun k=>
          Option.bind (N8 b x2 k) fun g=>
           some (.inl (g,c))
       else none
     else
      if(((gt a.l x4).Kind)==5)then
       Option.bind (b0h b a x4 ((gt a.l x4).A) x2 x3) fun h=>
        some (.inl (x2,h))
      else
       some (.inl (x2,x3))):Option ((List Int×List B0)⊕((List B0)×(List Int)))) fun d=>match d with
   |.inl (x5,x6)=>
    Option.bind (N8 b x5 [(W ((W (2*x4))+1))]) fun i=>
     if y0 a.up x4 then
      some (.next (x4,i,x6,(gt a.up x4)))
     else none
   |.inr e=>some (.done (.inr e))
  else none
 else
  some (.done (.inl (x2,x3)))
def a08 (c:Nat)(b:L4)(a:Int):Option ((List B0)×(List Int)):=
 if y0 b.up a then
 Option.bind (iter (c0n c b a) c (a,[(W ((W (2*a))+1))],([]:List B0),(gt b.up a))) fun e=>match e with
 |.inl (y1,y2)=>
  some (y2,y1)
 |.inr d=>some d
else none
def G9 (a:Nat)(b:(List C0))(d:Int):Option (B0×Bool):=
 Option.bind ((
 if(d==(-1))then
  Option.bind (a0e a b (W ((b.length:Int)-1))) fun f=>
   some f
 else
  Option.bind (b0n a b d) fun c=>
   if c.2.2 then
    Option.bind c.1 fun g=>
     Option.bind (a08 a g c.2.1) fun h=>
      some h.2
   else
    some ([]:List Int)):Option (List Int)) fun e=>
 if((e.length:Int)==0)then
  some ((⟨(0:Int),(0:Int),[]⟩:B0),false)
 else
  some ((⟨(-1),(0:Int),e⟩:B0),true)
def g0j (c:Nat)(a:(List B0))(b:List B0×Int):Option (Q0 (List B0×Int) (List B0)):=
 let(x1,x2):=b
 if(decide (x2<(a.length:Int)))then
  if y0 x1 x2 then
   if R2 8 (((gt x1 x2).Steps).length:Int)then
    if y0 x1 x2 then
     if y0 x1 x2 then
      some (.next ((x1.set (Int.toNat x2) (⟨(gt x1 x2).To,(gt x1 x2).Turn,(j4 (List.replicate (Int.toNat (((gt x1 x2).Steps).length:Int)) (0:Int)) ((gt x1 x2).Steps))⟩:B0)),(W (x2+1))))
     else none
    else none
   else none
  else none
 else
  some (.done x1)
def a01 (a:Nat)(b:(List B0)):Option ((List B0)):=
 Option.bind (iter (g0j a b) a (b,0)) fun c=>
 some c
def c0h (a:Nat)(c:(List C0))(b:Int):Option ((List B0)):=
 Option.bind (b0b a c) fun d=>
 Option.bind ((
  if(!d.2)then
   some true
  else
   if(decide (b<0))then
    some true
   else
    some (decide (b>=(c.length:Int)))):Option (Bool)) fun e=>
  if e then
   some ([]:List B0)
  else
   Option.bind d.1 fun f=>
    Option.bind (P5 a a f b ([]:List Int) ([]:List B0)) fun g=>
     Option.bind (a01 a g) fun h=>
      some h
def b0M (a:Nat)(d:(List C0))(e:Int):Option ((List B0)):=
 Option.bind (b0n a d e) fun b=>
 if(!b.2.2)then
  some ([]:List B0)
 else
  Option.bind b.1 fun f=>
   Option.bind (a08 a f b.2.1) fun c=>
    if b0v B0.To c.1 then
     Option.bind (a01 a (F7 B0.To c.1)) fun g=>
      some g
    else none
def e0i (d:Nat)(a:(List C0))(b:List Int×Int):Option (Q0 (List Int×Int) (List Int)):=
 let(x2,x3):=b
 if(decide (x3<(a.length:Int)))then
  Option.bind ((
   if y0 a x3 then
    if(((gt a x3).Kind)==2)then
     if K0 8 x2 [x3]then
      some (x2++[x3])
     else none
    else
     some x2
   else none):Option (List Int)) fun c=>
   some (.next (c,(W (x3+1))))
 else
  some (.done x2)
def b0P (a:Nat)(b:(List C0)):Option ((List Int)):=
 Option.bind (U6 a b) fun c=>
 if(!c)then
  some ([]:List Int)
 else
  Option.bind (iter (e0i a b) a (([]:List Int),0)) fun d=>
   some d
def d00 (i:Nat)(a:(List C0))(b:List Bool×Int):Option (Q0 (List Bool×Int) (List Bool)):=
 let(x2,x3):=b
 if(decide (x3<(a.length:Int)))then
  Option.bind ((
   if y0 a x3 then
    Option.bind ((
     Option.bind ((
      if(((gt a x3).Kind)==1)then
       some (((gt a x3).Kind)==1)
      else
       if(((gt a x3).Kind)==5)then
        some (((gt a x3).Kind)==5)
       else
        some (((gt a x3).Kind)==6)):Option (Bool)) fun e=>
      if e then
       if y0 x2 x3 then
        some (x2.set (Int.toNat x3) true)
       else none
      else
       if(((gt a x3).Kind)==3)then
        Option.bind ((
         if y0 a x3 then
          if y0 x2 ((gt a x3).A)then
           if(gt x2 ((gt a x3).A))then
            if y0 a x3 then
             if y0 x2 ((gt a x3).B)then
              if y0 x2 x3 then
               some (x2.set (Int.toNat x3) (gt x2 ((gt a x3).B)))
              else none
             else none
            else none
           else
            if y0 x2 x3 then
             some (x2.set (Int.toNat x3) false)
            else none
          else none
         else none):Option (List Bool)) fun f=>
         some f
       else
        if(((gt a x3).Kind)==4)then
         Option.bind ((
          if y0 a x3 then
           if y0 x2 ((gt a x3).A)then
            if(gt x2 ((gt a x3).A))then
             if y0 x2 x3 then
              some (x2.set (Int.toNat x3) true)
             else none
            else
             if y0 a x3 then
              if y0 x2 ((gt a x3).B)then
               if y0 x2 x3 then
                some (x2.set (Int.toNat x3) (gt x2 ((gt a x3).B)))
               else none
              else none
             else none
           else none
          else none):Option (List Bool)) fun g=>
          some g
        else
         Option.bind ((
          if(((gt a x3).Kind)==7)then
           some (((gt a x3).Kind)==7)
          else
           some (((gt a x3).Kind)==8)):Option (Bool)) fun h=>
          if h then
           if y0 a x3 then
            if y0 x2 ((gt a x3).A)then
             if y0 x2 x3 then
              some (x2.set (Int.toNat x3) (gt x2 ((gt a x3).A)))
             else none
            else none
           else none
          else
           some x2):Option (List Bool)) fun d=>
     some d
   else none):Option (List Bool)) fun c=>
   some (.next (c,(W (x3+1))))
 else
  some (.done x2)
def a0U (b:Nat)(a:(List C0)):Option ((List Bool)):=
 Option.bind (U6 b a) fun c=>
 if(!c)then
  some ([]:List Bool)
 else
  if R2 1 (a.length:Int)then
   Option.bind (iter (d00 b a) b ((List.replicate (Int.toNat (a.length:Int)) false),0)) fun d=>
    some d
  else none
def R5 (a:Nat):Nat->(List C0)->(List Bool)->Int->Option ((List Int))
 |0,_,_,_=>none
 |k+1,p0,p1,p2=>
  Option.bind ((
   if y0 p0 p2 then
    Option.bind ((
     if(((gt p0 p2).Kind)==3)then
      if y0 p0 p2 then
       Option.bind (R5 a k p0 p1 ((gt p0 p2).A)) fun b=>
        if K0 8 [(W (2*p2))] b then
         if y0 p0 p2 then
          Option.bind (R5 a k p0 p1 ((gt p0 p2).B)) fun d=>
           if K0 8 ([(W (2*p2))]++b) d then
            some (([(W (2*p2))]++b)++d)
           else none
         else none
        else none
      else none
     else
      if(((gt p0 p2).Kind)==4)then
       if y0 p0 p2 then
        if y0 p1 ((gt p0 p2).A)then
         if(gt p1 ((gt p0 p2).A))then
          if y0 p0 p2 then
           Option.bind (R5 a k p0 p1 ((gt p0 p2).A)) fun e=>
            if K0 8 [(W (2*p2))] e then
             some ([(W (2*p2))]++e)
            else none
          else none
         else
          if y0 p0 p2 then
           Option.bind (R5 a k p0 p1 ((gt p0 p2).B)) fun f=>
            if K0 8 [(W (2*p2))] f then
             some ([(W (2*p2))]++f)
            else none
          else none
        else none
       else none
      else
       Option.bind ((
        if(((gt p0 p2).Kind)==7)then
         some (((gt p0 p2).Kind)==7)
        else
         some (((gt p0 p2).Kind)==8)):Option (Bool)) fun i=>
        if i then
         if y0 p0 p2 then
          Option.bind (R5 a k p0 p1 ((gt p0 p2).A)) fun g=>
           if K0 8 [(W (2*p2))] g then
            some ([(W (2*p2))]++g)
           else none
         else none
        else
         some [(W (2*p2))]):Option (List Int)) fun h=>
     some h
   else none):Option (List Int)) fun c=>
   if K0 8 c [(W ((W (2*p2))+1))]then
    some (c++[(W ((W (2*p2))+1))])
   else none
def c0Y (c:Nat)(d:(List C0))(a:Int):Option ((List Int)):=
 Option.bind (a0U c d) fun b=>
 Option.bind ((
  if(decide (a<0))then
   some true
  else
   if(decide (a>=(b.length:Int)))then
    some true
   else
    if y0 b a then
     some (!(gt b a))
    else none):Option (Bool)) fun e=>
  if e then
   some ([]:List Int)
  else
   Option.bind (R5 c c d b a) fun f=>
    some f
def f0s (d:Nat)(a:(List C0))(c:List Int×Int×Int):Option (Q0 (List Int×Int×Int) (List Int)):=
 let(x2,x3,x4):=c
 if(decide (x4<(a.length:Int)))then
  Option.bind ((
   if y0 x2 x4 then
    if y0 a x4 then
     if(((gt a x4).Kind)==2)then
      if y0 (x2.set (Int.toNat x4) (-1)) x4 then
       some (((x2.set (Int.toNat x4) (-1)).set (Int.toNat x4) x3),(W (x3+1)))
      else none
     else
      some ((x2.set (Int.toNat x4) (-1)),x3)
    else none
   else none):Option (List Int×Int)) fun b=>match b with
  |(x5,x6)=>
   some (.next (x5,x6,(W (x4+1))))
 else
  some (.done x2)
def b0S (b:Nat)(a:(List C0)):Option ((List Int)):=
 Option.bind (U6 b a) fun c=>
 if(!c)then
  some ([]:List Int)
 else
  if R2 8 (a.length:Int)then
   Option.bind (iter (f0s b a) b ((List.replicate (Int.toNat (a.length:Int)) (0:Int)),0,0)) fun d=>
    some d
  else none
def n0A (c:Nat)(a:(List C0))(b:List Int×Int):Option (Q0 (List Int×Int) (List Int)):=
 let(x2,x3):=b
 if(decide (x3<(a.length:Int)))then
  if y0 x2 x3 then
   some (.next ((x2.set (Int.toNat x3) (-1)),(W (x3+1))))
  else none
 else
  some (.done x2)
def h0I (e:Nat)(a:(List C0))(f:List Int)(c:List Int×Int):Option (Q0 (List Int×Int) (List Int)):=
 let(x4,x5):=c
 if(decide (x5<(a.length:Int)))then
  Option.bind ((
   Option.bind ((
    if y0 a x5 then
     if(decide (((gt a x5).A)>=0))then
      if y0 a x5 then
       if y0 x4 ((gt a x5).A)then
        some (x4.set (Int.toNat ((gt a x5).A)) x5)
       else none
      else none
     else
      some x4
    else none):Option (List Int)) fun b=>
    if y0 a x5 then
     if(decide (((gt a x5).B)>=0))then
      if y0 a x5 then
       if y0 b ((gt a x5).B)then
        some (b.set (Int.toNat ((gt a x5).B)) x5)
       else none
      else none
     else
      some b
    else none):Option (List Int)) fun d=>
   some (.next (d,(W (x5+1))))
 else
  some (.done x4)
def c0E (a:Nat)(b:(List C0)):Option ((List Int)):=
 Option.bind (U6 a b) fun d=>
 if(!d)then
  some ([]:List Int)
 else
  if R2 8 (b.length:Int)then
   Option.bind (iter (n0A a b) a ((List.replicate (Int.toNat (b.length:Int)) (0:Int)),0)) fun c=>
    Option.bind (iter (h0I a b c) a (c,0)) fun e=>
     some e
  else none
def O9 (c:Nat)(a:(List Int))(b:(List Int)):Option ((List Int)):=
 if K0 8 ([]:List Int) a then
 if K0 8 (([]:List Int)++a) b then
  some ((([]:List Int)++a)++b)
 else none
else none
def D6 (a:Nat):Nat->(List C0)->(List Int)->(List Bool)->Int->(List Int)->Option ((List B0))
 |0,_,_,_,_,_=>none
 |k+1,p0,p1,p2,p3,p4=>
  if y0 p0 p3 then
   Option.bind (O9 a p4 [(W (2*p3))]) fun b=>
    if(((gt p0 p3).Kind)==2)then
     if y0 p1 p3 then
      some [(⟨(gt p1 p3),(0:Int),b⟩:B0)]
     else none
    else
     if(((gt p0 p3).Kind)==3)then
      Option.bind (D6 a k p0 p1 p2 ((gt p0 p3).A) b) fun c=>
       Option.bind ((
        if y0 p2 ((gt p0 p3).A)then
         if(gt p2 ((gt p0 p3).A))then
          Option.bind (R5 a a p0 p2 ((gt p0 p3).A)) fun i=>
           Option.bind (O9 a b i) fun j=>
            Option.bind (D6 a k p0 p1 p2 ((gt p0 p3).B) j) fun d=>
             if K0 40 c d then
              some (c++d)
             else none
         else
          some c
        else none):Option (List B0)) fun h=>
        some h
     else
      if(((gt p0 p3).Kind)==4)then
       Option.bind (D6 a k p0 p1 p2 ((gt p0 p3).A) b) fun e=>
        Option.bind (D6 a k p0 p1 p2 ((gt p0 p3).B) b) fun f=>
         if K0 40 e f then
          some (e++f)
         else none
      else
       Option.bind ((
        if(((gt p0 p3).Kind)==5)then
         some (((gt p0 p3).Kind)==5)
        else
         if(((gt p0 p3).Kind)==6)then
          some (((gt p0 p3).Kind)==6)
         else
          if(((gt p0 p3).Kind)==7)then
           some (((gt p0 p3).Kind)==7)
          else
           some (((gt p0 p3).Kind)==8)):Option (Bool)) fun l=>
        if l then
         Option.bind (D6 a k p0 p1 p2 ((gt p0 p3).A) b) fun g=>
          some g
        else
         some ([]:List B0)
  else none
def m0h (d:Nat)(a:(List Int))(b:List Int×Int):Option (Q0 (List Int×Int) (List Int)):=
 let(x2,x3):=b
 if(decide (x3>=0))then
  Option.bind ((
   if y0 x2 x3 then
    if y0 a x3 then
     if(decide ((gt a x3)>=0))then
      if y0 a x3 then
       if y0 (x2.set (Int.toNat x3) 1) (gt a x3)then
        if y0 (x2.set (Int.toNat x3) 1) x3 then
         some ((x2.set (Int.toNat x3) 1).set (Int.toNat x3) (W ((gt (x2.set (Int.toNat x3) 1) (gt a x3))+1)))
        else none
       else none
      else none
     else
      some (x2.set (Int.toNat x3) 1)
    else none
   else none):Option (List Int)) fun c=>
   some (.next (c,(W (x3-1))))
 else
  some (.done x2)
def e0d (b:Nat)(c:(List C0)):Option ((List Int)):=
 Option.bind (c0E b c) fun a=>
 if R2 8 (a.length:Int)then
  Option.bind (iter (m0h b a) b ((List.replicate (Int.toNat (a.length:Int)) (0:Int)),(W ((a.length:Int)-1)))) fun d=>
   some d
 else none
def n0u (e:Nat)(b:(List B0))(c:Int)(d:Int):Option (Q0 (Int) ((Unit)⊕(Bool))):=
 let a:=d
 if(decide (a<(b.length:Int)))then
  if y0 b a then
   if(((gt b a).To)==c)then
    some (.done (.inr true))
   else
    some (.next (W (a+1)))
  else none
 else
  some (.done (.inl ()))
def e0K (a:Nat)(b:(List B0))(c:Int):Option (Bool):=
 Option.bind (iter (n0u a b c) a 0) fun e=>match e with
|.inl _=>
 some false
|.inr d=>some d
def o0R (d:Nat)(h:(List C0))(m:B0)(a:(List Int))(b:(List Int))(k:(List Int))(l:(List Bool))(c:Int)(n:List Int)(o:List B0)(i:Int)(j:(List B0))(f:List B0×List B0×Int):Option (Q0 (List B0×List B0×Int) (List B0)):=
 let(x15,x16,x17):=f
 if(decide (x17<(x16.length:Int)))then
  Option.bind ((
   if y0 x16 x17 then
    Option.bind (e0K d x15 ((gt x16 x17).To)) fun g=>
     if(!g)then
      if y0 b (gt a c)then
       if y0 x16 x17 then
        if y0 (x16.set (Int.toNat x17) (⟨(gt x16 x17).To,(gt b (gt a c)),(gt x16 x17).Steps⟩:B0)) x17 then
         if K0 40 x15 [(gt (x16.set (Int.toNat x17) (⟨(gt x16 x17).To,(gt b (gt a c)),(gt x16 x17).Steps⟩:B0)) x17)]then
          some ((x15++[(gt (x16.set (Int.toNat x17) (⟨(gt x16 x17).To,(gt b (gt a c)),(gt x16 x17).Steps⟩:B0)) x17)]),(x16.set (Int.toNat x17) (⟨(gt x16 x17).To,(gt b (gt a c)),(gt x16 x17).Steps⟩:B0)))
         else none
        else none
       else none
      else none
     else
      some (x15,x16)
   else none):Option (List B0×List B0)) fun e=>match e with
  |(x18,x19)=>
   some (.next (x18,x19,(W (x17+1))))
 else
  some (.done x15)
def p0b (c:Nat)(b:(List C0))(a:(List Int))(n:(List Int))(h:(List Int))(e:(List Bool))(u:(List Int))(t:Int)(k:B0×Int×List Int×List B0):Option (Q0 (B0×Int×List Int×List B0) ((B0×List Int×List B0)⊕((List B0)×B0×Bool))):=
 let(x6,x7,x8,x9):=k
 if y0 a x7 then
  if(decide ((gt a x7)>=0))then
   if y0 a x7 then
    Option.bind ((
     Option.bind ((
      if y0 b (gt a x7)then
       if(((gt b (gt a x7)).Kind)==3)then
        if y0 b (gt a x7)then
         some (((gt b (gt a x7)).A)==x7)
        else none
       else
        some false
      else none):Option (Bool)) fun m=>
      if m then
       if y0 b (gt a x7)then
        some ((gt b (gt a x7)).B)
       else none
      else
       some (-1)):Option (Int)) fun l=>
     Option.bind ((
      if y0 b (gt a x7)then
       if(((gt b (gt a x7)).Kind)==5)then
        if y0 b (gt a x7)then
         some ((gt b (gt a x7)).A)
        else none
       else
        some l
      else none):Option (Int)) fun d=>
      Option.bind ((
       if(decide (d>=0))then
        Option.bind (D6 c c b h e d x8) fun g=>
         Option.bind (iter (o0R c b x6 a n h e x7 x8 x9 d g) c (x9,g,0)) fun s=>
          some s
       else
        some x9):Option (List B0)) fun f=>
       Option.bind ((
        Option.bind ((
         if y0 b (gt a x7)then
          if(((gt b (gt a x7)).Kind)==3)then
           if y0 b (gt a x7)then
            some (((gt b (gt a x7)).A)==x7)
           else none
          else
           some false
         else none):Option (Bool)) fun o=>
         if o then
          if y0 e d then
           if(!(gt e d))then
            some (.inr (f,(⟨(0:Int),(0:Int),[]⟩:B0),false))
           else
            Option.bind (R5 c c b e d) fun p=>
             Option.bind (O9 c x8 p) fun q=>
              some (.inl q)
          else none
         else
          some (.inl x8)):Option ((List Int)⊕((List B0)×B0×Bool))) fun i=>match i with
       |.inl x21=>
        Option.bind (O9 c x21 [(W ((W (2*(gt a x7)))+1))]) fun r=>
         some (.next (x6,(gt a x7),r,f))
       |.inr j=>some (.done (.inr j))
   else none
  else
   some (.done (.inl (x6,x8,x9)))
 else none
def e07 (a:Nat)(b:(List C0))(c:Int):Option ((List B0)×B0×Bool):=
 Option.bind (c0E a b) fun g=>
 Option.bind (e0d a b) fun h=>
  Option.bind (b0S a b) fun i=>
   Option.bind (a0U a b) fun j=>
    Option.bind (b0P a b) fun d=>
     if y0 d c then
      Option.bind (iter (p0b a b g h i j d c) a ((⟨(0:Int),(0:Int),[]⟩:B0),(gt d c),[(W ((W (2*(gt d c)))+1))],([]:List B0))) fun f=>match f with
      |.inl (y1,y2,y3)=>
       some (y3,(⟨(-1),(0:Int),y2⟩:B0),true)
      |.inr e=>some e
     else none
def o0E (b:Nat)(a:(List C0))(c:Int):Option (B0×Bool):=
 Option.bind ((
 if(decide (c<(-1)))then
  some true
 else
  Option.bind (U6 b a) fun g=>
   if(!g)then
    some true
   else
    Option.bind (b0P b a) fun h=>
     some (decide (c>=(h.length:Int)))):Option (Bool)) fun f=>
 if f then
  some ((⟨(0:Int),(0:Int),[]⟩:B0),false)
 else
  if(c==(-1))then
   Option.bind (c0Y b a (W ((a.length:Int)-1))) fun d=>
    if((d.length:Int)==0)then
     some ((⟨(0:Int),(0:Int),[]⟩:B0),false)
    else
     some ((⟨(-1),(0:Int),d⟩:B0),true)
  else
   Option.bind (e07 b a c) fun e=>
    some (e.2.1,e.2.2)
def n0z (a:Nat)(b:(List C0))(c:Int):Option ((List B0)):=
 Option.bind ((
 Option.bind (U6 a b) fun e=>
  if(!e)then
   some true
  else
   if(decide (c<0))then
    some true
   else
    some (decide (c>=(b.length:Int)))):Option (Bool)) fun d=>
 if d then
  some ([]:List B0)
 else
  Option.bind (b0S a b) fun f=>
   Option.bind (a0U a b) fun g=>
    Option.bind (D6 a a b f g c ([]:List Int)) fun h=>
     some h
