/- The older form of what the functions compute, over the same data. Its conditions: none. -/
import Derived.Test.YtmhooikfkhjijaaGreatTMd
import Derived.Test.YtmhooikfkhjijaaGreatTG26
set_option linter.all false
set_option maxRecDepth 20000
namespace Go.Proofs.YtmhooikfkhjijaaGreat.Old
open Go.V Go.RowKit
def l02 (x:U0):Prop:=(inK .i64) x.Kind/\(inK .i64) x.A/\(inK .i64) x.B/\(inK .i64) x.N/\(x.Set.length=4/\∀ y∈x.Set,inK .u64 y)
def D0T (fuel:Nat) (p0:Int):Option (Bool×Bool):=
 Option.bind ((
 if (decide (p0>=3)) then
  if (p0==3) then
   some ((decide (p0<=8)),true)
  else
   some ((decide (p0<=8)),(p0==4))
 else
  if (p0==3) then
   some (false,true)
  else
   some (false,(p0==4))):Option (Bool×Bool)) fun q1=>match q1 with
|
 (x1,x2)=>
 some (x1,x2)
def E0E (fuel:Nat) (p0:(List U0)) (x10:List Int) (x7:Int) (x3:Int) (s_:Int):Option (T0 (Int) ((Unit) ⊕ ((List Int)))):=
 let x12:=s_
 if (decide (x12<x3)) then
  Option.bind ((
   if (((gt p0 x3).Kind)==7) then
    if y0 p0 x12 then
     if (((gt p0 x12).Kind)==7) then
      if y0 p0 x12 then
       some (((gt p0 x12).N)==((gt p0 x3).N))
      else none
     else
      some false
    else none
   else
    some false):Option (Bool)) fun x13=>
   if x13 then
    some (.done (.inr ([]:List Int)))
   else
    some (.next (W (x12+1)))
 else
  some (.done (.inl ()))
def F0j (fuel:Nat) (p0:(List U0)) (s_:List Int×Int×Int):Option (T0 (List Int×Int×Int) ((List Int×Int) ⊕ ((List Int)))):=
 let (x1,x2,x3):=s_
 if (decide (x3<(p0.length:Int))) then
  if y0 p0 x3 then
   Option.bind (D0T fuel ((gt p0 x3).Kind)) fun x4=>
    if y0 x1 x3 then
     Option.bind ((
      if (decide (((gt p0 x3).Kind)<1)) then
       some true
      else
       if (decide (((gt p0 x3).Kind)>8)) then
        some true
       else
        if (((gt p0 x3).Kind) != 2) then
         if (!(((gt ((gt p0 x3).Set) 0)==0)&&(((gt ((gt p0 x3).Set) 1)==0)&&(((gt ((gt p0 x3).Set) 2)==0)&&((gt ((gt p0 x3).Set) 3)==0))))) then
          some true
         else
          if (((gt p0 x3).Kind) != 7) then
           if (((gt p0 x3).N) != 0) then
            some true
           else
            if (((gt p0 x3).Kind)==7) then
             if (decide (((gt p0 x3).N)<1)) then
              some true
             else
              some (decide (((gt p0 x3).N)>9))
            else
             some false
          else
           if (((gt p0 x3).Kind)==7) then
            if (decide (((gt p0 x3).N)<1)) then
             some true
            else
             some (decide (((gt p0 x3).N)>9))
           else
            some false
        else
         if (((gt p0 x3).Kind) != 7) then
          if (((gt p0 x3).N) != 0) then
           some true
          else
           if (((gt p0 x3).Kind)==7) then
            if (decide (((gt p0 x3).N)<1)) then
             some true
            else
             some (decide (((gt p0 x3).N)>9))
           else
            some false
         else
          if (((gt p0 x3).Kind)==7) then
           if (decide (((gt p0 x3).N)<1)) then
            some true
           else
            some (decide (((gt p0 x3).N)>9))
          else
           some false):Option (Bool)) fun x5=>
      if x5 then
       some (.done (.inr ([]:List Int)))
      else
       Option.bind ((
        if (!x4.1) then
         if (((gt p0 x3).A) != (-1)) then
          some true
         else
          if (!x4.2) then
           some (((gt p0 x3).B) != (-1))
          else
           some false
        else
         if (!x4.2) then
          some (((gt p0 x3).B) != (-1))
         else
          some false):Option (Bool)) fun x6=>
        if x6 then
         some (.done (.inr ([]:List Int)))
        else
         Option.bind ((
          if (((gt p0 x3).Kind)==2) then
           some (W (x2+1))
          else
           some x2):Option (Int)) fun x7=>
          Option.bind ((
           if x4.2 then
            Option.bind ((
             if (((gt p0 x3).B) != (W (x3-1))) then
              some true
             else
              some (decide ((W (x3-1))<0))):Option (Bool)) fun x9=>
             if x9 then
              some (.inr ([]:List Int))
             else
              if y0 (x1.set (Int.toNat x3) x3) (W (x3-1)) then
               some (.inl (W ((gt (x1.set (Int.toNat x3) x3) (W (x3-1)))-1)))
              else none
           else
            some (.inl (W (x3-1)))):Option ((Int) ⊕ ((List Int)))) fun q4=>match q4 with
          |
           .inl x8=>
           Option.bind ((
            if x4.1 then
             Option.bind ((
              if (((gt p0 x3).A) != x8) then
               some true
              else
               some (decide (x8<0))):Option (Bool)) fun x11=>
              if x11 then
               some (.inr ([]:List Int))
              else
               if y0 (x1.set (Int.toNat x3) x3) x8 then
                if y0 (x1.set (Int.toNat x3) x3) x3 then
                 some (.inl ((x1.set (Int.toNat x3) x3).set (Int.toNat x3) (gt (x1.set (Int.toNat x3) x3) x8)))
                else none
               else none
            else
             some (.inl (x1.set (Int.toNat x3) x3))):Option ((List Int) ⊕ ((List Int)))) fun q6=>match q6 with
           |
            .inl x10=>
            if y0 x10 x3 then
             Option.bind (iter (E0E fuel p0 x10 x7 x3) fuel (gt x10 x3)) fun t2=>match t2 with
             |
              .inl _=>
              some (.next (x10,x7,(W (x3+1))))
             |.inr r1=>some (.done (.inr r1))
            else none
           |.inr r1=>some (.done (.inr r1))
          |.inr r1=>some (.done (.inr r1))
    else none
  else none
 else
  some (.done (.inl (x1,x2)))
def D0H (fuel:Nat) (p0:(List U0)):Option ((List Int)):=
 if S5 8 (p0.length:Int) then
 Option.bind (iter (F0j fuel p0) fuel ((List.replicate (Int.toNat (p0.length:Int)) (0:Int)),0,0)) fun t1=>match t1 with
 |
  .inl (y1,y2)=>
  Option.bind ((
   if ((p0.length:Int)==0) then
    some true
   else
    if (decide ((p0.length:Int)>400)) then
     some true
    else
     if (decide (y2>64)) then
      some true
     else
      if y0 y1 (W ((p0.length:Int)-1)) then
       some ((gt y1 (W ((p0.length:Int)-1))) != 0)
      else none):Option (Bool)) fun x14=>
   if x14 then
    some ([]:List Int)
   else
    if H0b y1 then some y1 else none
 |.inr r1=>some r1
else none
def C0n (fuel:Nat) (p0:(List U0)):Option (Bool):=
 Option.bind (D0H fuel p0) fun x1=>
 some (!(x1.isEmpty))
def p0i (fuel:Nat) (p0:(List U0)) (p1:(List Int)) (p2:Int):Option (Int):=
 if y0 p0 p2 then
 Option.bind ((
  Option.bind ((
   Option.bind ((
    if (((gt p0 p2).Kind)==1) then
     some (((gt p0 p2).Kind)==1)
    else
     some (((gt p0 p2).Kind)==2)):Option (Bool)) fun x1=>
    if x1 then
     Option.bind ((
      if (((gt p0 p2).A)==(-1)) then
       some (((gt p0 p2).B)==(-1))
      else
       some false):Option (Bool)) fun x2=>
      if x2 then
       some (.inr p2)
      else
       some (.inl ())
    else
     Option.bind ((
      if (((gt p0 p2).Kind)==3) then
       some (((gt p0 p2).Kind)==3)
      else
       some (((gt p0 p2).Kind)==4)):Option (Bool)) fun x3=>
      if x3 then
       Option.bind ((
        if (decide (((gt p0 p2).B)>=0)) then
         if (((gt p0 p2).B)==(W (p2-1))) then
          if (decide (((gt p0 p2).A)>=0)) then
           if y0 p1 ((gt p0 p2).B) then
            some (((gt p0 p2).A)==(W ((gt p1 ((gt p0 p2).B))-1)))
           else none
          else
           some false
         else
          some false
        else
         some false):Option (Bool)) fun x4=>
        if x4 then
         if y0 p1 ((gt p0 p2).A) then
          some (.inr (gt p1 ((gt p0 p2).A)))
         else none
        else
         some (.inl ())
      else
       Option.bind ((
        if (((gt p0 p2).Kind)==5) then
         some (((gt p0 p2).Kind)==5)
        else
         if (((gt p0 p2).Kind)==6) then
          some (((gt p0 p2).Kind)==6)
         else
          if (((gt p0 p2).Kind)==7) then
           some (((gt p0 p2).Kind)==7)
          else
           some (((gt p0 p2).Kind)==8)):Option (Bool)) fun x5=>
        if x5 then
         Option.bind ((
          if (((gt p0 p2).B)==(-1)) then
           if (decide (((gt p0 p2).A)>=0)) then
            some (((gt p0 p2).A)==(W (p2-1)))
           else
            some false
          else
           some false):Option (Bool)) fun x6=>
          if x6 then
           if y0 p1 ((gt p0 p2).A) then
            some (.inr (gt p1 ((gt p0 p2).A)))
           else none
          else
           some (.inl ())
        else
         some (.inl ())):Option ((Unit) ⊕ (Int))) fun q2=>match q2 with
  |
   .inl _=>
   some (.inl ())
  |.inr r1=>some (.inr r1)):Option ((Unit) ⊕ (Int))) fun q1=>match q1 with
 |
  .inl _=>
  some (-1)
 |.inr r1=>some r1
else none
def m0O (fuel:Nat) (p0:U0):Option (Bool):=
 Option.bind ((
 if (p0.Kind != 2) then
  some (!(((gt p0.Set 0)==0)&&(((gt p0.Set 1)==0)&&(((gt p0.Set 2)==0)&&((gt p0.Set 3)==0)))))
 else
  some false):Option (Bool)) fun x1=>
 if x1 then
  some false
 else
  if (p0.Kind==7) then
   Option.bind ((
    if (decide (p0.N>=1)) then
     some (decide (p0.N<=9))
    else
     some false):Option (Bool)) fun x2=>
    some x2
  else
   some (p0.N==0)
def E0n (fuel:Nat) (p0:U0) (p1:(List U0)) (s_:Int):Option (T0 (Int) ((Unit) ⊕ (Bool))):=
 let x1:=s_
 if (decide (x1<(p1.length:Int))) then
  if y0 p1 x1 then
   Option.bind ((
    if (p0.Kind==7) then
     if (((gt p1 x1).Kind)==7) then
      some (((gt p1 x1).N)==p0.N)
     else
      some false
    else
     some false):Option (Bool)) fun x2=>
    if x2 then
     some (.done (.inr true))
    else
     some (.next (W (x1+1)))
  else none
 else
  some (.done (.inl ()))
def o01 (fuel:Nat) (p0:U0) (p1:(List U0)):Option (Bool):=
 Option.bind (iter (E0n fuel p0 p1) fuel 0) fun t1=>match t1 with
|
 .inl _=>
 some false
|.inr r1=>some r1
def E06 (fuel:Nat) (p0:(List U0)) (s_:List Int×Int×Int):Option (T0 (List Int×Int×Int) ((List Int×Int) ⊕ ((List Int)))):=
 let (x2,x3,x4):=s_
 if (decide (x4<(p0.length:Int))) then
  if y0 p0 x4 then
   Option.bind (p0i fuel p0 x2 x4) fun x5=>
    Option.bind ((
     if (decide (x5<0)) then
      some true
     else
      Option.bind (m0O fuel (gt p0 x4)) fun x7=>
       if (!x7) then
        some true
       else
        if C3 p0 x5 x4 then
         Option.bind (o01 fuel (gt p0 x4) (L1 p0 x5 x4)) fun x8=>
          some x8
        else none):Option (Bool)) fun x6=>
     if x6 then
      some (.done (.inr ([]:List Int)))
     else
      Option.bind ((
       if (((gt p0 x4).Kind)==2) then
        some (W (x3+1))
       else
        some x3):Option (Int)) fun x9=>
       if C1 8 x2 [x5] then
        some (.next ((x2++[x5]),x9,(W (x4+1))))
       else none
  else none
 else
  some (.done (.inl (x2,x3)))
def b0e (fuel:Nat) (p0:(List U0)):Option ((List Int)):=
 Option.bind ((
 if ((p0.length:Int)==0) then
  some true
 else
  some (decide ((p0.length:Int)>400))):Option (Bool)) fun x1=>
 if x1 then
  some ([]:List Int)
 else
  Option.bind (iter (E06 fuel p0) fuel (([]:List Int),0,0)) fun t1=>match t1 with
  |
   .inl (y1,y2)=>
   Option.bind ((
    if (decide (y2>64)) then
     some true
    else
     if y0 y1 (W ((p0.length:Int)-1)) then
      some ((gt y1 (W ((p0.length:Int)-1))) != 0)
     else none):Option (Bool)) fun x10=>
    if x10 then
     some ([]:List Int)
    else
     if H0b y1 then some y1 else none
  |.inr r1=>some r1
def R7 (fuel:Nat) (p0:(List U0)):Option (Bool):=
 Option.bind (b0e fuel p0) fun x1=>
 some (decide ((x1.length:Int)>0))
def E0X (fuel:Nat) (p0:(List U0)) (s_:List Bool×Int):Option (T0 (List Bool×Int) (List Bool)):=
 let (x2,x3):=s_
 if (decide (x3<(p0.length:Int))) then
  Option.bind ((
   if y0 p0 x3 then
    Option.bind ((
     Option.bind ((
      if (((gt p0 x3).Kind)==1) then
       some (((gt p0 x3).Kind)==1)
      else
       if (((gt p0 x3).Kind)==5) then
        some (((gt p0 x3).Kind)==5)
       else
        some (((gt p0 x3).Kind)==6)):Option (Bool)) fun x6=>
      if x6 then
       if y0 x2 x3 then
        some (x2.set (Int.toNat x3) true)
       else none
      else
       if (((gt p0 x3).Kind)==3) then
        Option.bind ((
         if y0 x2 ((gt p0 x3).A) then
          if (gt x2 ((gt p0 x3).A)) then
           if y0 x2 ((gt p0 x3).B) then
            if y0 x2 x3 then
             some (x2.set (Int.toNat x3) (gt x2 ((gt p0 x3).B)))
            else none
           else none
          else
           if y0 x2 x3 then
            some (x2.set (Int.toNat x3) false)
           else none
         else none):Option (List Bool)) fun x7=>
         some x7
       else
        if (((gt p0 x3).Kind)==4) then
         Option.bind ((
          if y0 x2 ((gt p0 x3).A) then
           if (gt x2 ((gt p0 x3).A)) then
            if y0 x2 x3 then
             some (x2.set (Int.toNat x3) true)
            else none
           else
            if y0 x2 ((gt p0 x3).B) then
             if y0 x2 x3 then
              some (x2.set (Int.toNat x3) (gt x2 ((gt p0 x3).B)))
             else none
            else none
          else none):Option (List Bool)) fun x8=>
          some x8
        else
         Option.bind ((
          if (((gt p0 x3).Kind)==7) then
           some (((gt p0 x3).Kind)==7)
          else
           some (((gt p0 x3).Kind)==8)):Option (Bool)) fun x9=>
          if x9 then
           if y0 x2 ((gt p0 x3).A) then
            if y0 x2 x3 then
             some (x2.set (Int.toNat x3) (gt x2 ((gt p0 x3).A)))
            else none
           else none
          else
           some x2):Option (List Bool)) fun x5=>
     some x5
   else none):Option (List Bool)) fun x4=>
   some (.next (x4,(W (x3+1))))
 else
  some (.done x2)
def e0l (fuel:Nat) (p0:(List U0)):Option ((List Bool)):=
 Option.bind (R7 fuel p0) fun x1=>
 if (!x1) then
  some ([]:List Bool)
 else
  if S5 1 (p0.length:Int) then
   Option.bind (iter (E0X fuel p0) fuel ((List.replicate (Int.toNat (p0.length:Int)) false),0)) fun y1=>
    some y1
  else none
def a08 (fuel:Nat):Nat->(List U0)->(List Bool)->Int->(List Int)->Option ((List Int))
 |0,_,_,_,_=>none
 |
  k+1,p0,p1,p2,p3=>
  if C1 8 p3 [(W (2*p2))] then
   if y0 p0 p2 then
    Option.bind ((
     Option.bind ((
      if (((gt p0 p2).Kind)==3) then
       Option.bind (a08 fuel k p0 p1 ((gt p0 p2).A) (p3++[(W (2*p2))])) fun x3=>
        Option.bind (a08 fuel k p0 p1 ((gt p0 p2).B) x3) fun x4=>
         some x4
      else
       if (((gt p0 p2).Kind)==4) then
        if y0 p1 ((gt p0 p2).A) then
         if (gt p1 ((gt p0 p2).A)) then
          Option.bind (a08 fuel k p0 p1 ((gt p0 p2).A) (p3++[(W (2*p2))])) fun x5=>
           some x5
         else
          Option.bind (a08 fuel k p0 p1 ((gt p0 p2).B) (p3++[(W (2*p2))])) fun x6=>
           some x6
        else none
       else
        Option.bind ((
         if (((gt p0 p2).Kind)==7) then
          some (((gt p0 p2).Kind)==7)
         else
          some (((gt p0 p2).Kind)==8)):Option (Bool)) fun x7=>
         if x7 then
          Option.bind (a08 fuel k p0 p1 ((gt p0 p2).A) (p3++[(W (2*p2))])) fun x8=>
           some x8
         else
          some (p3++[(W (2*p2))])):Option (List Int)) fun x2=>
      some x2):Option (List Int)) fun x1=>
     if C1 8 x1 [(W ((W (2*p2))+1))] then
      some (x1++[(W ((W (2*p2))+1))])
     else none
   else none
  else none
def g0H (fuel:Nat) (p0:(List U0)) (p1:Int):Option ((List Int)):=
 Option.bind (e0l fuel p0) fun x1=>
 Option.bind ((
  if (decide (p1<0)) then
   some true
  else
   if (decide (p1>=(x1.length:Int))) then
    some true
   else
    if y0 x1 p1 then
     some (!(gt x1 p1))
    else none):Option (Bool)) fun x2=>
  if x2 then
   some ([]:List Int)
  else
   Option.bind (a08 fuel fuel p0 x1 p1 ([]:List Int)) fun x3=>
    some x3
def F0k (fuel:Nat) (p0:(List U0)) (s_:List Int×Int):Option (T0 (List Int×Int) (List Int)):=
 let (x2,x3):=s_
 if (decide (x3<(p0.length:Int))) then
  Option.bind ((
   if y0 p0 x3 then
    Option.bind ((
     if (decide (((gt p0 x3).A)>=0)) then
      if y0 x2 ((gt p0 x3).A) then
       some (x2.set (Int.toNat ((gt p0 x3).A)) x3)
      else none
     else
      some x2):Option (List Int)) fun x5=>
     if (decide (((gt p0 x3).B)>=0)) then
      if y0 x5 ((gt p0 x3).B) then
       some (x5.set (Int.toNat ((gt p0 x3).B)) x3)
      else none
     else
      some x5
   else none):Option (List Int)) fun x4=>
   some (.next (x4,(W (x3+1))))
 else
  some (.done x2)
def d0T (fuel:Nat) (p0:(List U0)):Option ((List Int)):=
 Option.bind (R7 fuel p0) fun x1=>
 if (!x1) then
  some ([]:List Int)
 else
  if S5 8 (p0.length:Int) then
   if y0 (List.replicate (Int.toNat (p0.length:Int)) (0:Int)) (W ((p0.length:Int)-1)) then
    Option.bind (iter (F0k fuel p0) fuel (((List.replicate (Int.toNat (p0.length:Int)) (0:Int)).set (Int.toNat (W ((p0.length:Int)-1))) (-1)),0)) fun y1=>
     some y1
   else none
  else none
def F0P (fuel:Nat) (x1:(List Int)) (s_:List Int×Int):Option (T0 (List Int×Int) (List Int)):=
 let (x2,x3):=s_
 if (decide (x3>=0)) then
  Option.bind ((
   if y0 x2 x3 then
    if y0 x1 x3 then
     if (decide ((gt x1 x3)>=0)) then
      if y0 (x2.set (Int.toNat x3) 1) x3 then
       if y0 x1 x3 then
        if y0 (x2.set (Int.toNat x3) 1) (gt x1 x3) then
         if y0 (x2.set (Int.toNat x3) 1) x3 then
          some ((x2.set (Int.toNat x3) 1).set (Int.toNat x3) (W ((gt (x2.set (Int.toNat x3) 1) x3)+(gt (x2.set (Int.toNat x3) 1) (gt x1 x3)))))
         else none
        else none
       else none
      else none
     else
      some (x2.set (Int.toNat x3) 1)
    else none
   else none):Option (List Int)) fun x4=>
   some (.next (x4,(W (x3-1))))
 else
  some (.done x2)
def i0V (fuel:Nat) (p0:(List U0)):Option ((List Int)):=
 Option.bind (d0T fuel p0) fun x1=>
 if S5 8 (x1.length:Int) then
  Option.bind (iter (F0P fuel x1) fuel ((List.replicate (Int.toNat (x1.length:Int)) (0:Int)),(W ((x1.length:Int)-1)))) fun y1=>
   some y1
 else none
def E0V (fuel:Nat) (p0:(List U0)) (s_:List Int×Int):Option (T0 (List Int×Int) (List Int)):=
 let (x2,x3):=s_
 if (decide (x3<(p0.length:Int))) then
  Option.bind ((
   if y0 p0 x3 then
    if (((gt p0 x3).Kind)==2) then
     if C1 8 x2 [x3] then
      some (x2++[x3])
     else none
    else
     some x2
   else none):Option (List Int)) fun x4=>
   some (.next (x4,(W (x3+1))))
 else
  some (.done x2)
def a0I (fuel:Nat) (p0:(List U0)):Option ((List Int)):=
 Option.bind (R7 fuel p0) fun x1=>
 if (!x1) then
  some ([]:List Int)
 else
  Option.bind (iter (E0V fuel p0) fuel (([]:List Int),0)) fun y1=>
   some y1
def F0Z (fuel:Nat) (p0:(List U0)) (s_:List Int×Int):Option (T0 (List Int×Int) (List Int)):=
 let (x2,x3):=s_
 if (decide (x3<((List.replicate (Int.toNat (p0.length:Int)) (0:Int)).length:Int))) then
  if y0 x2 x3 then
   some (.next ((x2.set (Int.toNat x3) (-1)),(W (x3+1))))
  else none
 else
  some (.done x2)
def F0F (fuel:Nat) (y1:List Int) (x4:(List Int)) (s_:List Int×Int):Option (T0 (List Int×Int) (List Int)):=
 let (x5,x6):=s_
 if (decide (x6<(x4.length:Int))) then
  if y0 x4 x6 then
   if y0 x5 (gt x4 x6) then
    some (.next ((x5.set (Int.toNat (gt x4 x6)) x6),(W (x6+1))))
   else none
  else none
 else
  some (.done x5)
def l0A (fuel:Nat) (p0:(List U0)):Option ((List Int)):=
 Option.bind (R7 fuel p0) fun x1=>
 if (!x1) then
  some ([]:List Int)
 else
  if S5 8 (p0.length:Int) then
   Option.bind (iter (F0Z fuel p0) fuel ((List.replicate (Int.toNat (p0.length:Int)) (0:Int)),0)) fun y1=>
    Option.bind (a0I fuel p0) fun x4=>
     Option.bind (iter (F0F fuel y1 x4) fuel (y1,0)) fun y2=>
      some y2
  else none
def i0z (fuel:Nat) (p0:(List U0)):Option ((Option B5)×Bool):=
 Option.bind (R7 fuel p0) fun x1=>
 if (!x1) then
  some (none,false)
 else
  Option.bind (d0T fuel p0) fun x2=>
   Option.bind (i0V fuel p0) fun x3=>
    Option.bind (l0A fuel p0) fun x4=>
     Option.bind (e0l fuel p0) fun x5=>
      some ((some (⟨p0,x2,x3,x4,x5⟩:B5)),true)
def h0N (fuel:Nat) (p0:(List U0)) (p1:Int):Option ((Option B5)×Int×Bool):=
 Option.bind (i0z fuel p0) fun x1=>
 if (!x1.2) then
  some (none,0,false)
 else
  Option.bind (a0I fuel p0) fun x2=>
   Option.bind ((
    if (decide (p1<0)) then
     some true
    else
     some (decide (p1>=(x2.length:Int)))):Option (Bool)) fun x3=>
    if x3 then
     some (none,0,false)
    else
     if y0 x2 p1 then
      some (x1.1,(gt x2 p1),true)
     else none
def d0i (fuel:Nat) (p0:(List Int)) (p1:(List Int)):Option ((List Int)):=
 if C3 p0 0 (p0.length:Int) then
 if (decide ((p0.length:Int)<=(p0.length:Int))&&decide ((p0.length:Int)<=(p0.length:Int))) then
  if C1 8 (L1 p0 0 (p0.length:Int)) p1 then
   some ((L1 p0 0 (p0.length:Int))++p1)
  else none
 else none
else none
def F9 (fuel:Nat):Nat->B5->Int->(List Int)->(List E1)->Option ((List E1))
 |0,_,_,_,_=>none
 |
  k+1,p0,p1,p2,p3=>
  if y0 p0.l p1 then
   Option.bind (d0i fuel p2 [(W (2*p1))]) fun x1=>
    Option.bind ((
     Option.bind ((
      if (((gt p0.l p1).Kind)==2) then
       if y0 p0.index p1 then
        if C1 40 p3 [(⟨(gt p0.index p1),(0:Int),x1⟩:E1)] then
         some (.inr (p3++[(⟨(gt p0.index p1),(0:Int),x1⟩:E1)]))
        else none
       else none
      else
       if (((gt p0.l p1).Kind)==3) then
        Option.bind (F9 fuel k p0 ((gt p0.l p1).A) x1 p3) fun x4=>
         if y0 p0.can ((gt p0.l p1).A) then
          if (gt p0.can ((gt p0.l p1).A)) then
           Option.bind (g0H fuel p0.l ((gt p0.l p1).A)) fun x5=>
            Option.bind (d0i fuel x1 x5) fun x6=>
             Option.bind (F9 fuel k p0 ((gt p0.l p1).B) x6 x4) fun x7=>
              some (.inl x7)
          else
           some (.inl x4)
         else none
       else
        if (((gt p0.l p1).Kind)==4) then
         Option.bind (F9 fuel k p0 ((gt p0.l p1).A) x1 p3) fun x8=>
          Option.bind (F9 fuel k p0 ((gt p0.l p1).B) x1 x8) fun x9=>
           some (.inl x9)
        else
         Option.bind ((
          if (((gt p0.l p1).Kind)==5) then
           some (((gt p0.l p1).Kind)==5)
          else
           if (((gt p0.l p1).Kind)==6) then
            some (((gt p0.l p1).Kind)==6)
           else
            if (((gt p0.l p1).Kind)==7) then
             some (((gt p0.l p1).Kind)==7)
            else
             some (((gt p0.l p1).Kind)==8)):Option (Bool)) fun x10=>
          if x10 then
           Option.bind (F9 fuel k p0 ((gt p0.l p1).A) x1 p3) fun x11=>
            some (.inl x11)
          else
           some (.inl p3)):Option ((List E1) ⊕ ((List E1)))) fun q2=>match q2 with
     |
      .inl x3=>
      some (.inl x3)
     |.inr r1=>some (.inr r1)):Option ((List E1) ⊕ ((List E1)))) fun q1=>match q1 with
    |
     .inl x2=>
     some x2
    |.inr r1=>some r1
  else none
def L0n (fuel:Nat) (p0:E1) (p1:E1):Option (Bool):=
 some (p0.To==p1.To)
def E0S (fuel:Nat) (p0:(List E1)) (p1:E1) (s_:Int):Option (T0 (Int) ((Unit) ⊕ (Int))):=
 let x1:=s_
 if (decide (x1<(p0.length:Int))) then
  if y0 p0 x1 then
   Option.bind (L0n fuel (gt p0 x1) p1) fun x2=>
    if x2 then
     some (.done (.inr x1))
    else
     some (.next (W (x1+1)))
  else none
 else
  some (.done (.inl ()))
def K0W (fuel:Nat) (p0:(List E1)) (p1:E1):Option (Int):=
 Option.bind (iter (E0S fuel p0 p1) fuel 0) fun t1=>match t1 with
|
 .inl _=>
 some (-1)
|.inr r1=>some r1
def J0y (fuel:Nat) (p0:(List E1)) (p1:E1):Option (Bool):=
 Option.bind (K0W fuel p0 p1) fun x1=>
 some (decide (x1>=0))
def F0h (fuel:Nat) (p0:B5) (p1:Int) (p4:(List E1)) (x1:(List E1)) (s_:List E1×Int):Option (T0 (List E1×Int) (List E1)):=
 let (x2,x3):=s_
 if (decide (x3<(x1.length:Int))) then
  Option.bind ((
   if y0 x1 x3 then
    Option.bind (J0y fuel x2 (gt x1 x3)) fun x5=>
     if (!x5) then
      if y0 p0.deep p1 then
       if C1 40 x2 [(⟨(gt x1 x3).To,(gt p0.deep p1),(gt x1 x3).Steps⟩:E1)] then
        some (x2++[(⟨(gt x1 x3).To,(gt p0.deep p1),(gt x1 x3).Steps⟩:E1)])
       else none
      else none
     else
      some x2
   else none):Option (List E1)) fun x4=>
   some (.next (x4,(W (x3+1))))
 else
  some (.done x2)
def h0E (fuel:Nat) (p0:B5) (p1:Int) (p2:Int) (p3:(List Int)) (p4:(List E1)):Option ((List E1)):=
 Option.bind (F9 fuel fuel p0 p2 p3 ([]:List E1)) fun x1=>
 Option.bind (iter (F0h fuel p0 p1 p4 x1) fuel (p4,0)) fun y1=>
  some y1
def D01 (fuel:Nat) (p0:B5) (p1:Int) (s_:Int×List Int×List E1×Int):Option (T0 (Int×List Int×List E1×Int) ((List Int×List E1) ⊕ ((List E1)×(List Int)))):=
 let (x1,x2,x3,x4):=s_
 if (decide (x4>=0)) then
  if y0 p0.l x4 then
   Option.bind ((
    Option.bind ((
     if (((gt p0.l x4).Kind)==3) then
      some (((gt p0.l x4).A)==x1)
     else
      some false):Option (Bool)) fun x7=>
     if x7 then
      Option.bind (h0E fuel p0 x4 ((gt p0.l x4).B) x2 x3) fun x8=>
       if y0 p0.can ((gt p0.l x4).B) then
        if (!(gt p0.can ((gt p0.l x4).B))) then
         some (.inr (x8,([]:List Int)))
        else
         Option.bind (g0H fuel p0.l ((gt p0.l x4).B)) fun x9=>
          Option.bind (d0i fuel x2 x9) fun x10=>
           some (.inl (x10,x8))
       else none
     else
      if (((gt p0.l x4).Kind)==5) then
       Option.bind (h0E fuel p0 x4 ((gt p0.l x4).A) x2 x3) fun x11=>
        some (.inl (x2,x11))
      else
       some (.inl (x2,x3))):Option ((List Int×List E1) ⊕ ((List E1)×(List Int)))) fun q1=>match q1 with
   |
    .inl (x5,x6)=>
    Option.bind (d0i fuel x5 [(W ((W (2*x4))+1))]) fun x12=>
     if y0 p0.up x4 then
      some (.next (x4,x12,x6,(gt p0.up x4)))
     else none
   |.inr r1=>some (.done (.inr r1))
  else none
 else
  some (.done (.inl (x2,x3)))
def k0q (fuel:Nat) (p0:B5) (p1:Int):Option ((List E1)×(List Int)):=
 if y0 p0.up p1 then
 Option.bind (iter (D01 fuel p0 p1) fuel (p1,[(W ((W (2*p1))+1))],([]:List E1),(gt p0.up p1))) fun t1=>match t1 with
 |
  .inl (y1,y2)=>
  some (y2,y1)
 |.inr r1=>some r1
else none
def g0v (fuel:Nat) (p0:(List U0)) (p1:Int):Option (E1×Bool):=
 Option.bind ((
 if (p1==(-1)) then
  Option.bind (g0H fuel p0 (W ((p0.length:Int)-1))) fun x2=>
   some x2
 else
  Option.bind (h0N fuel p0 p1) fun x3=>
   if x3.2.2 then
    Option.bind x3.1 fun x4=>
     Option.bind (k0q fuel x4 x3.2.1) fun x5=>
      some x5.2
   else
    some ([]:List Int)):Option (List Int)) fun x1=>
 if ((x1.length:Int)==0) then
  some ((⟨(0:Int),(0:Int),[]⟩:E1),false)
 else
  some ((⟨(-1),(0:Int),x1⟩:E1),true)
def F0z (fuel:Nat) (p0:(List E1)) (s_:List E1×Int):Option (T0 (List E1×Int) (List E1)):=
 let (x1,x2):=s_
 if (decide (x2<(p0.length:Int))) then
  if y0 x1 x2 then
   if S5 8 (((gt x1 x2).Steps).length:Int) then
    if y0 x1 x2 then
     if y0 x1 x2 then
      some (.next ((x1.set (Int.toNat x2) (⟨(gt x1 x2).To,(gt x1 x2).Turn,(P2 (List.replicate (Int.toNat (((gt x1 x2).Steps).length:Int)) (0:Int)) ((gt x1 x2).Steps))⟩:E1)),(W (x2+1))))
     else none
    else none
   else none
  else none
 else
  some (.done x1)
def j0p (fuel:Nat) (p0:(List E1)):Option ((List E1)):=
 Option.bind (iter (F0z fuel p0) fuel (p0,0)) fun y1=>
 some y1
def o0v (fuel:Nat) (p0:(List U0)) (p1:Int):Option ((List E1)):=
 Option.bind (i0z fuel p0) fun x1=>
 Option.bind ((
  if (!x1.2) then
   some true
  else
   if (decide (p1<0)) then
    some true
   else
    some (decide (p1>=(p0.length:Int)))):Option (Bool)) fun x2=>
  if x2 then
   some ([]:List E1)
  else
   Option.bind x1.1 fun x3=>
    Option.bind (F9 fuel fuel x3 p1 ([]:List Int) ([]:List E1)) fun x4=>
     Option.bind (j0p fuel x4) fun x5=>
      some x5
def o04 (fuel:Nat) (p0:(List U0)) (p1:Int):Option ((List E1)):=
 Option.bind (h0N fuel p0 p1) fun x1=>
 if (!x1.2.2) then
  some ([]:List E1)
 else
  Option.bind x1.1 fun x2=>
   Option.bind (k0q fuel x2 x1.2.1) fun x3=>
    if b07 E1.To x3.1 then
     Option.bind (j0p fuel (K5 E1.To x3.1)) fun x4=>
      some x4
    else none
def E0P (fuel:Nat) (p0:(List U0)) (s_:List Int×Int):Option (T0 (List Int×Int) (List Int)):=
 let (x2,x3):=s_
 if (decide (x3<(p0.length:Int))) then
  Option.bind ((
   if y0 p0 x3 then
    if (((gt p0 x3).Kind)==2) then
     if C1 8 x2 [x3] then
      some (x2++[x3])
     else none
    else
     some x2
   else none):Option (List Int)) fun x4=>
   some (.next (x4,(W (x3+1))))
 else
  some (.done x2)
def C0z (fuel:Nat) (p0:(List U0)):Option ((List Int)):=
 Option.bind (C0n fuel p0) fun x1=>
 if (!x1) then
  some ([]:List Int)
 else
  Option.bind (iter (E0P fuel p0) fuel (([]:List Int),0)) fun y1=>
   some y1
def E0Q (fuel:Nat) (p0:(List U0)) (s_:List Bool×Int):Option (T0 (List Bool×Int) (List Bool)):=
 let (x2,x3):=s_
 if (decide (x3<(p0.length:Int))) then
  Option.bind ((
   if y0 p0 x3 then
    Option.bind ((
     Option.bind ((
      if (((gt p0 x3).Kind)==1) then
       some (((gt p0 x3).Kind)==1)
      else
       if (((gt p0 x3).Kind)==5) then
        some (((gt p0 x3).Kind)==5)
       else
        some (((gt p0 x3).Kind)==6)):Option (Bool)) fun x6=>
      if x6 then
       if y0 x2 x3 then
        some (x2.set (Int.toNat x3) true)
       else none
      else
       if (((gt p0 x3).Kind)==3) then
        Option.bind ((
         if y0 p0 x3 then
          if y0 x2 ((gt p0 x3).A) then
           if (gt x2 ((gt p0 x3).A)) then
            if y0 p0 x3 then
             if y0 x2 ((gt p0 x3).B) then
              if y0 x2 x3 then
               some (x2.set (Int.toNat x3) (gt x2 ((gt p0 x3).B)))
              else none
             else none
            else none
           else
            if y0 x2 x3 then
             some (x2.set (Int.toNat x3) false)
            else none
          else none
         else none):Option (List Bool)) fun x7=>
         some x7
       else
        if (((gt p0 x3).Kind)==4) then
         Option.bind ((
          if y0 p0 x3 then
           if y0 x2 ((gt p0 x3).A) then
            if (gt x2 ((gt p0 x3).A)) then
             if y0 x2 x3 then
              some (x2.set (Int.toNat x3) true)
             else none
            else
             if y0 p0 x3 then
              if y0 x2 ((gt p0 x3).B) then
               if y0 x2 x3 then
                some (x2.set (Int.toNat x3) (gt x2 ((gt p0 x3).B)))
               else none
              else none
             else none
           else none
          else none):Option (List Bool)) fun x8=>
          some x8
        else
         Option.bind ((
          if (((gt p0 x3).Kind)==7) then
           some (((gt p0 x3).Kind)==7)
          else
           some (((gt p0 x3).Kind)==8)):Option (Bool)) fun x9=>
          if x9 then
           if y0 p0 x3 then
            if y0 x2 ((gt p0 x3).A) then
             if y0 x2 x3 then
              some (x2.set (Int.toNat x3) (gt x2 ((gt p0 x3).A)))
             else none
            else none
           else none
          else
           some x2):Option (List Bool)) fun x5=>
     some x5
   else none):Option (List Bool)) fun x4=>
   some (.next (x4,(W (x3+1))))
 else
  some (.done x2)
def D0k (fuel:Nat) (p0:(List U0)):Option ((List Bool)):=
 Option.bind (C0n fuel p0) fun x1=>
 if (!x1) then
  some ([]:List Bool)
 else
  if S5 1 (p0.length:Int) then
   Option.bind (iter (E0Q fuel p0) fuel ((List.replicate (Int.toNat (p0.length:Int)) false),0)) fun y1=>
    some y1
  else none
def B08 (fuel:Nat):Nat->(List U0)->(List Bool)->Int->Option ((List Int))
 |0,_,_,_=>none
 |
  k+1,p0,p1,p2=>
  Option.bind ((
   if y0 p0 p2 then
    Option.bind ((
     if (((gt p0 p2).Kind)==3) then
      if y0 p0 p2 then
       Option.bind (B08 fuel k p0 p1 ((gt p0 p2).A)) fun x3=>
        if C1 8 [(W (2*p2))] x3 then
         if y0 p0 p2 then
          Option.bind (B08 fuel k p0 p1 ((gt p0 p2).B)) fun x4=>
           if C1 8 ([(W (2*p2))]++x3) x4 then
            some (([(W (2*p2))]++x3)++x4)
           else none
         else none
        else none
      else none
     else
      if (((gt p0 p2).Kind)==4) then
       if y0 p0 p2 then
        if y0 p1 ((gt p0 p2).A) then
         if (gt p1 ((gt p0 p2).A)) then
          if y0 p0 p2 then
           Option.bind (B08 fuel k p0 p1 ((gt p0 p2).A)) fun x5=>
            if C1 8 [(W (2*p2))] x5 then
             some ([(W (2*p2))]++x5)
            else none
          else none
         else
          if y0 p0 p2 then
           Option.bind (B08 fuel k p0 p1 ((gt p0 p2).B)) fun x6=>
            if C1 8 [(W (2*p2))] x6 then
             some ([(W (2*p2))]++x6)
            else none
          else none
        else none
       else none
      else
       Option.bind ((
        if (((gt p0 p2).Kind)==7) then
         some (((gt p0 p2).Kind)==7)
        else
         some (((gt p0 p2).Kind)==8)):Option (Bool)) fun x7=>
        if x7 then
         if y0 p0 p2 then
          Option.bind (B08 fuel k p0 p1 ((gt p0 p2).A)) fun x8=>
           if C1 8 [(W (2*p2))] x8 then
            some ([(W (2*p2))]++x8)
           else none
         else none
        else
         some [(W (2*p2))]):Option (List Int)) fun x2=>
     some x2
   else none):Option (List Int)) fun x1=>
   if C1 8 x1 [(W ((W (2*p2))+1))] then
    some (x1++[(W ((W (2*p2))+1))])
   else none
def D0X (fuel:Nat) (p0:(List U0)) (p1:Int):Option ((List Int)):=
 Option.bind (D0k fuel p0) fun x1=>
 Option.bind ((
  if (decide (p1<0)) then
   some true
  else
   if (decide (p1>=(x1.length:Int))) then
    some true
   else
    if y0 x1 p1 then
     some (!(gt x1 p1))
    else none):Option (Bool)) fun x2=>
  if x2 then
   some ([]:List Int)
  else
   Option.bind (B08 fuel fuel p0 x1 p1) fun x3=>
    some x3
def F0D (fuel:Nat) (p0:(List U0)) (s_:List Int×Int×Int):Option (T0 (List Int×Int×Int) (List Int)):=
 let (x2,x3,x4):=s_
 if (decide (x4<(p0.length:Int))) then
  Option.bind ((
   if y0 x2 x4 then
    if y0 p0 x4 then
     if (((gt p0 x4).Kind)==2) then
      if y0 (x2.set (Int.toNat x4) (-1)) x4 then
       some (((x2.set (Int.toNat x4) (-1)).set (Int.toNat x4) x3),(W (x3+1)))
      else none
     else
      some ((x2.set (Int.toNat x4) (-1)),x3)
    else none
   else none):Option (List Int×Int)) fun q1=>match q1 with
  |
   (x5,x6)=>
   some (.next (x5,x6,(W (x4+1))))
 else
  some (.done x2)
def D0x (fuel:Nat) (p0:(List U0)):Option ((List Int)):=
 Option.bind (C0n fuel p0) fun x1=>
 if (!x1) then
  some ([]:List Int)
 else
  if S5 8 (p0.length:Int) then
   Option.bind (iter (F0D fuel p0) fuel ((List.replicate (Int.toNat (p0.length:Int)) (0:Int)),0,0)) fun y1=>
    some y1
  else none
def G0q (fuel:Nat) (p0:(List U0)) (s_:List Int×Int):Option (T0 (List Int×Int) (List Int)):=
 let (x2,x3):=s_
 if (decide (x3<(p0.length:Int))) then
  if y0 x2 x3 then
   some (.next ((x2.set (Int.toNat x3) (-1)),(W (x3+1))))
  else none
 else
  some (.done x2)
def F0a (fuel:Nat) (p0:(List U0)) (y1:List Int) (s_:List Int×Int):Option (T0 (List Int×Int) (List Int)):=
 let (x4,x5):=s_
 if (decide (x5<(p0.length:Int))) then
  Option.bind ((
   Option.bind ((
    if y0 p0 x5 then
     if (decide (((gt p0 x5).A)>=0)) then
      if y0 p0 x5 then
       if y0 x4 ((gt p0 x5).A) then
        some (x4.set (Int.toNat ((gt p0 x5).A)) x5)
       else none
      else none
     else
      some x4
    else none):Option (List Int)) fun x7=>
    if y0 p0 x5 then
     if (decide (((gt p0 x5).B)>=0)) then
      if y0 p0 x5 then
       if y0 x7 ((gt p0 x5).B) then
        some (x7.set (Int.toNat ((gt p0 x5).B)) x5)
       else none
      else none
     else
      some x7
    else none):Option (List Int)) fun x6=>
   some (.next (x6,(W (x5+1))))
 else
  some (.done x4)
def D0E (fuel:Nat) (p0:(List U0)):Option ((List Int)):=
 Option.bind (C0n fuel p0) fun x1=>
 if (!x1) then
  some ([]:List Int)
 else
  if S5 8 (p0.length:Int) then
   Option.bind (iter (G0q fuel p0) fuel ((List.replicate (Int.toNat (p0.length:Int)) (0:Int)),0)) fun y1=>
    Option.bind (iter (F0a fuel p0 y1) fuel (y1,0)) fun y2=>
     some y2
  else none
def C02 (fuel:Nat) (p0:(List Int)) (p1:(List Int)):Option ((List Int)):=
 if C1 8 ([]:List Int) p0 then
 if C1 8 (([]:List Int)++p0) p1 then
  some ((([]:List Int)++p0)++p1)
 else none
else none
def C0h (fuel:Nat):Nat->(List U0)->(List Int)->(List Bool)->Int->(List Int)->Option ((List E1))
 |0,_,_,_,_,_=>none
 |
  k+1,p0,p1,p2,p3,p4=>
  if y0 p0 p3 then
   Option.bind (C02 fuel p4 [(W (2*p3))]) fun x1=>
    if (((gt p0 p3).Kind)==2) then
     if y0 p1 p3 then
      some [(⟨(gt p1 p3),(0:Int),x1⟩:E1)]
     else none
    else
     if (((gt p0 p3).Kind)==3) then
      Option.bind (C0h fuel k p0 p1 p2 ((gt p0 p3).A) x1) fun x2=>
       Option.bind ((
        if y0 p2 ((gt p0 p3).A) then
         if (gt p2 ((gt p0 p3).A)) then
          Option.bind (B08 fuel fuel p0 p2 ((gt p0 p3).A)) fun x4=>
           Option.bind (C02 fuel x1 x4) fun x5=>
            Option.bind (C0h fuel k p0 p1 p2 ((gt p0 p3).B) x5) fun x6=>
             if C1 40 x2 x6 then
              some (x2++x6)
             else none
         else
          some x2
        else none):Option (List E1)) fun x3=>
        some x3
     else
      if (((gt p0 p3).Kind)==4) then
       Option.bind (C0h fuel k p0 p1 p2 ((gt p0 p3).A) x1) fun x7=>
        Option.bind (C0h fuel k p0 p1 p2 ((gt p0 p3).B) x1) fun x8=>
         if C1 40 x7 x8 then
          some (x7++x8)
         else none
      else
       Option.bind ((
        if (((gt p0 p3).Kind)==5) then
         some (((gt p0 p3).Kind)==5)
        else
         if (((gt p0 p3).Kind)==6) then
          some (((gt p0 p3).Kind)==6)
         else
          if (((gt p0 p3).Kind)==7) then
           some (((gt p0 p3).Kind)==7)
          else
           some (((gt p0 p3).Kind)==8)):Option (Bool)) fun x9=>
        if x9 then
         Option.bind (C0h fuel k p0 p1 p2 ((gt p0 p3).A) x1) fun x10=>
          some x10
        else
         some ([]:List E1)
  else none
def F0B (fuel:Nat) (x1:(List Int)) (s_:List Int×Int):Option (T0 (List Int×Int) (List Int)):=
 let (x2,x3):=s_
 if (decide (x3>=0)) then
  Option.bind ((
   if y0 x2 x3 then
    if y0 x1 x3 then
     if (decide ((gt x1 x3)>=0)) then
      if y0 x1 x3 then
       if y0 (x2.set (Int.toNat x3) 1) (gt x1 x3) then
        if y0 (x2.set (Int.toNat x3) 1) x3 then
         some ((x2.set (Int.toNat x3) 1).set (Int.toNat x3) (W ((gt (x2.set (Int.toNat x3) 1) (gt x1 x3))+1)))
        else none
       else none
      else none
     else
      some (x2.set (Int.toNat x3) 1)
    else none
   else none):Option (List Int)) fun x4=>
   some (.next (x4,(W (x3-1))))
 else
  some (.done x2)
def D0D (fuel:Nat) (p0:(List U0)):Option ((List Int)):=
 Option.bind (D0E fuel p0) fun x1=>
 if S5 8 (x1.length:Int) then
  Option.bind (iter (F0B fuel x1) fuel ((List.replicate (Int.toNat (x1.length:Int)) (0:Int)),(W ((x1.length:Int)-1)))) fun y1=>
   some y1
 else none
def E0R (fuel:Nat) (p0:(List E1)) (p1:Int) (s_:Int):Option (T0 (Int) ((Unit) ⊕ (Bool))):=
 let x1:=s_
 if (decide (x1<(p0.length:Int))) then
  if y0 p0 x1 then
   if (((gt p0 x1).To)==p1) then
    some (.done (.inr true))
   else
    some (.next (W (x1+1)))
  else none
 else
  some (.done (.inl ()))
def D02 (fuel:Nat) (p0:(List E1)) (p1:Int):Option (Bool):=
 Option.bind (iter (E0R fuel p0 p1) fuel 0) fun t1=>match t1 with
|
 .inl _=>
 some false
|.inr r1=>some r1
def D0W (fuel:Nat) (p0:(List U0)) (x6:E1) (x1:(List Int)) (x2:(List Int)) (x3:(List Int)) (x4:(List Bool)) (x7:Int) (x8:List Int) (x9:List E1) (x12:Int) (x14:(List E1)) (s_:List E1×List E1×Int):Option (T0 (List E1×List E1×Int) (List E1)):=
 let (x15,x16,x17):=s_
 if (decide (x17<(x16.length:Int))) then
  Option.bind ((
   if y0 x16 x17 then
    Option.bind (D02 fuel x15 ((gt x16 x17).To)) fun x20=>
     if (!x20) then
      if y0 x2 (gt x1 x7) then
       if y0 x16 x17 then
        if y0 (x16.set (Int.toNat x17) (⟨(gt x16 x17).To,(gt x2 (gt x1 x7)),(gt x16 x17).Steps⟩:E1)) x17 then
         if C1 40 x15 [(gt (x16.set (Int.toNat x17) (⟨(gt x16 x17).To,(gt x2 (gt x1 x7)),(gt x16 x17).Steps⟩:E1)) x17)] then
          some ((x15++[(gt (x16.set (Int.toNat x17) (⟨(gt x16 x17).To,(gt x2 (gt x1 x7)),(gt x16 x17).Steps⟩:E1)) x17)]),(x16.set (Int.toNat x17) (⟨(gt x16 x17).To,(gt x2 (gt x1 x7)),(gt x16 x17).Steps⟩:E1)))
         else none
        else none
       else none
      else none
     else
      some (x15,x16)
   else none):Option (List E1×List E1)) fun q5=>match q5 with
  |
   (x18,x19)=>
   some (.next (x18,x19,(W (x17+1))))
 else
  some (.done x15)
def D0K (fuel:Nat) (p0:(List U0)) (x1:(List Int)) (x2:(List Int)) (x3:(List Int)) (x4:(List Bool)) (x5:(List Int)) (p1:Int) (s_:E1×Int×List Int×List E1):Option (T0 (E1×Int×List Int×List E1) ((E1×List Int×List E1) ⊕ ((List E1)×E1×Bool))):=
 let (x6,x7,x8,x9):=s_
 if y0 x1 x7 then
  if (decide ((gt x1 x7)>=0)) then
   if y0 x1 x7 then
    Option.bind ((
     Option.bind ((
      if y0 p0 (gt x1 x7) then
       if (((gt p0 (gt x1 x7)).Kind)==3) then
        if y0 p0 (gt x1 x7) then
         some (((gt p0 (gt x1 x7)).A)==x7)
        else none
       else
        some false
      else none):Option (Bool)) fun x11=>
      if x11 then
       if y0 p0 (gt x1 x7) then
        some ((gt p0 (gt x1 x7)).B)
       else none
      else
       some (-1)):Option (Int)) fun x10=>
     Option.bind ((
      if y0 p0 (gt x1 x7) then
       if (((gt p0 (gt x1 x7)).Kind)==5) then
        if y0 p0 (gt x1 x7) then
         some ((gt p0 (gt x1 x7)).A)
        else none
       else
        some x10
      else none):Option (Int)) fun x12=>
      Option.bind ((
       if (decide (x12>=0)) then
        Option.bind (C0h fuel fuel p0 x3 x4 x12 x8) fun x14=>
         Option.bind (iter (D0W fuel p0 x6 x1 x2 x3 x4 x7 x8 x9 x12 x14) fuel (x9,x14,0)) fun y4=>
          some y4
       else
        some x9):Option (List E1)) fun x13=>
       Option.bind ((
        Option.bind ((
         if y0 p0 (gt x1 x7) then
          if (((gt p0 (gt x1 x7)).Kind)==3) then
           if y0 p0 (gt x1 x7) then
            some (((gt p0 (gt x1 x7)).A)==x7)
           else none
          else
           some false
         else none):Option (Bool)) fun x22=>
         if x22 then
          if y0 x4 x12 then
           if (!(gt x4 x12)) then
            some (.inr (x13,(⟨(0:Int),(0:Int),[]⟩:E1),false))
           else
            Option.bind (B08 fuel fuel p0 x4 x12) fun x23=>
             Option.bind (C02 fuel x8 x23) fun x24=>
              some (.inl x24)
          else none
         else
          some (.inl x8)):Option ((List Int) ⊕ ((List E1)×E1×Bool))) fun q6=>match q6 with
       |
        .inl x21=>
        Option.bind (C02 fuel x21 [(W ((W (2*(gt x1 x7)))+1))]) fun x25=>
         some (.next (x6,(gt x1 x7),x25,x13))
       |.inr r1=>some (.done (.inr r1))
   else none
  else
   some (.done (.inl (x6,x8,x9)))
 else none
def D0w (fuel:Nat) (p0:(List U0)) (p1:Int):Option ((List E1)×E1×Bool):=
 Option.bind (D0E fuel p0) fun x1=>
 Option.bind (D0D fuel p0) fun x2=>
  Option.bind (D0x fuel p0) fun x3=>
   Option.bind (D0k fuel p0) fun x4=>
    Option.bind (C0z fuel p0) fun x5=>
     if y0 x5 p1 then
      Option.bind (iter (D0K fuel p0 x1 x2 x3 x4 x5 p1) fuel ((⟨(0:Int),(0:Int),[]⟩:E1),(gt x5 p1),[(W ((W (2*(gt x5 p1)))+1))],([]:List E1))) fun t1=>match t1 with
      |
       .inl (y1,y2,y3)=>
       some (y3,(⟨(-1),(0:Int),y2⟩:E1),true)
      |.inr r1=>some r1
     else none
def D0c (fuel:Nat) (p0:(List U0)) (p1:Int):Option (E1×Bool):=
 Option.bind ((
 if (decide (p1<(-1))) then
  some true
 else
  Option.bind (C0n fuel p0) fun x2=>
   if (!x2) then
    some true
   else
    Option.bind (C0z fuel p0) fun x3=>
     some (decide (p1>=(x3.length:Int)))):Option (Bool)) fun x1=>
 if x1 then
  some ((⟨(0:Int),(0:Int),[]⟩:E1),false)
 else
  if (p1==(-1)) then
   Option.bind (D0X fuel p0 (W ((p0.length:Int)-1))) fun x4=>
    if ((x4.length:Int)==0) then
     some ((⟨(0:Int),(0:Int),[]⟩:E1),false)
    else
     some ((⟨(-1),(0:Int),x4⟩:E1),true)
  else
   Option.bind (D0w fuel p0 p1) fun x5=>
    some (x5.2.1,x5.2.2)
def D0V (fuel:Nat) (p0:(List U0)) (p1:Int):Option ((List E1)):=
 Option.bind ((
 Option.bind (C0n fuel p0) fun x2=>
  if (!x2) then
   some true
  else
   if (decide (p1<0)) then
    some true
   else
    some (decide (p1>=(p0.length:Int)))):Option (Bool)) fun x1=>
 if x1 then
  some ([]:List E1)
 else
  Option.bind (D0x fuel p0) fun x3=>
   Option.bind (D0k fuel p0) fun x4=>
    Option.bind (C0h fuel fuel p0 x3 x4 p1 ([]:List Int)) fun x5=>
     some x5
def E08 (fuel:Nat) (p0:(List U0)) (x3:(List E1)×E1×Bool) (x4:List E1) (x5:Int) (s_:List E1×Int):Option (T0 (List E1×Int) (List E1)):=
 let (x7,x8):=s_
 if (decide (x8<(x3.1.length:Int))) then
  Option.bind ((
   if y0 x3.1 x8 then
    if (((gt x3.1 x8).To)==x5) then
     if y0 x3.1 x8 then
      if C1 40 x7 [(gt x3.1 x8)] then
       some (x7++[(gt x3.1 x8)])
      else none
     else none
    else
     some x7
   else none):Option (List E1)) fun x9=>
   some (.next (x9,(W (x8+1))))
 else
  some (.done x7)
def F01 (fuel:Nat) (p0:(List U0)) (x3:(List E1)×E1×Bool) (s_:List E1×Int):Option (T0 (List E1×Int) (List E1)):=
 let (x4,x5):=s_
 Option.bind (C0z fuel p0) fun x6=>
  if (decide (x5<(x6.length:Int))) then
   Option.bind (iter (E08 fuel p0 x3 x4 x5) fuel (x4,0)) fun y2=>
    some (.next (y2,(W (x5+1))))
  else
   some (.done x4)
def D0N (fuel:Nat) (p0:(List U0)) (p1:Int):Option ((List E1)):=
 Option.bind ((
 if (decide (p1<0)) then
  some true
 else
  Option.bind (C0z fuel p0) fun x2=>
   some (decide (p1>=(x2.length:Int)))):Option (Bool)) fun x1=>
 if x1 then
  some ([]:List E1)
 else
  Option.bind (D0w fuel p0 p1) fun x3=>
   Option.bind (iter (F01 fuel p0 x3) fuel (([]:List E1),0)) fun y1=>
    some y1
