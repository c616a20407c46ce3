/- The older form of what the functions compute, over the same data. Its conditions: none. -/
import Derived.Test.YtdficaoajalfaaaGreatAMd
import Derived.Test.YtdficaoajalfaaaGreatAG28
set_option linter.all false
set_option maxRecDepth 20000
namespace Go.Proofs.YtdficaoajalfaaaGreat.Old
open Go.V Go.RowKit
def o3 (x:C0):Prop:=(Z5 .i64) x.Kind/\(Z5 .i64) x.A/\(Z5 .i64) x.B/\(Z5 .i64) x.N/\(x.Set.length=4/\∀ y∈x.Set,Z5 .u64 y)
def b04 (fuel:Nat) (p0:Int):Option (Bool×Bool):=
 Option.bind ((
 if (decide (p0>=3)) then
  if (p0==3) then
   some ((decide (p0<=8)),true)
  else
   some ((decide (p0<=8)),(p0==4))
 else
  if (p0==3) then
   some (false,true)
  else
   some (false,(p0==4))):Option (Bool×Bool)) fun q1=>match q1 with
|
 (x1,x2)=>
 some (x1,x2)
def c0V (fuel:Nat) (p0:(List C0)) (x10:List Int) (x7:Int) (x3:Int) (s_:Int):Option (V0 (Int) ((Unit) ⊕ ((List Int)))):=
 let x12:=s_
 if (decide (x12<x3)) then
  Option.bind ((
   if (((gt p0 x3).Kind)==7) then
    if B0 p0 x12 then
     if (((gt p0 x12).Kind)==7) then
      if B0 p0 x12 then
       some (((gt p0 x12).N)==((gt p0 x3).N))
      else none
     else
      some false
    else none
   else
    some false):Option (Bool)) fun x13=>
   if x13 then
    some (.done (.inr ([]:List Int)))
   else
    some (.next (W (x12+1)))
 else
  some (.done (.inl ()))
def e0D (fuel:Nat) (p0:(List C0)) (s_:List Int×Int×Int):Option (V0 (List Int×Int×Int) ((List Int×Int) ⊕ ((List Int)))):=
 let (x1,x2,x3):=s_
 if (decide (x3<(p0.length:Int))) then
  if B0 p0 x3 then
   Option.bind (b04 fuel ((gt p0 x3).Kind)) fun x4=>
    if B0 x1 x3 then
     Option.bind ((
      if (decide (((gt p0 x3).Kind)<1)) then
       some true
      else
       if (decide (((gt p0 x3).Kind)>8)) then
        some true
       else
        if (((gt p0 x3).Kind) != 2) then
         if (!(((gt ((gt p0 x3).Set) 0)==0)&&(((gt ((gt p0 x3).Set) 1)==0)&&(((gt ((gt p0 x3).Set) 2)==0)&&((gt ((gt p0 x3).Set) 3)==0))))) then
          some true
         else
          if (((gt p0 x3).Kind) != 7) then
           if (((gt p0 x3).N) != 0) then
            some true
           else
            if (((gt p0 x3).Kind)==7) then
             if (decide (((gt p0 x3).N)<1)) then
              some true
             else
              some (decide (((gt p0 x3).N)>9))
            else
             some false
          else
           if (((gt p0 x3).Kind)==7) then
            if (decide (((gt p0 x3).N)<1)) then
             some true
            else
             some (decide (((gt p0 x3).N)>9))
           else
            some false
        else
         if (((gt p0 x3).Kind) != 7) then
          if (((gt p0 x3).N) != 0) then
           some true
          else
           if (((gt p0 x3).Kind)==7) then
            if (decide (((gt p0 x3).N)<1)) then
             some true
            else
             some (decide (((gt p0 x3).N)>9))
           else
            some false
         else
          if (((gt p0 x3).Kind)==7) then
           if (decide (((gt p0 x3).N)<1)) then
            some true
           else
            some (decide (((gt p0 x3).N)>9))
          else
           some false):Option (Bool)) fun x5=>
      if x5 then
       some (.done (.inr ([]:List Int)))
      else
       Option.bind ((
        if (!x4.1) then
         if (((gt p0 x3).A) != (-1)) then
          some true
         else
          if (!x4.2) then
           some (((gt p0 x3).B) != (-1))
          else
           some false
        else
         if (!x4.2) then
          some (((gt p0 x3).B) != (-1))
         else
          some false):Option (Bool)) fun x6=>
        if x6 then
         some (.done (.inr ([]:List Int)))
        else
         Option.bind ((
          if (((gt p0 x3).Kind)==2) then
           some (W (x2+1))
          else
           some x2):Option (Int)) fun x7=>
          Option.bind ((
           if x4.2 then
            Option.bind ((
             if (((gt p0 x3).B) != (W (x3-1))) then
              some true
             else
              some (decide ((W (x3-1))<0))):Option (Bool)) fun x9=>
             if x9 then
              some (.inr ([]:List Int))
             else
              if B0 (x1.set (Int.toNat x3) x3) (W (x3-1)) then
               some (.inl (W ((gt (x1.set (Int.toNat x3) x3) (W (x3-1)))-1)))
              else none
           else
            some (.inl (W (x3-1)))):Option ((Int) ⊕ ((List Int)))) fun q4=>match q4 with
          |
           .inl x8=>
           Option.bind ((
            if x4.1 then
             Option.bind ((
              if (((gt p0 x3).A) != x8) then
               some true
              else
               some (decide (x8<0))):Option (Bool)) fun x11=>
              if x11 then
               some (.inr ([]:List Int))
              else
               if B0 (x1.set (Int.toNat x3) x3) x8 then
                if B0 (x1.set (Int.toNat x3) x3) x3 then
                 some (.inl ((x1.set (Int.toNat x3) x3).set (Int.toNat x3) (gt (x1.set (Int.toNat x3) x3) x8)))
                else none
               else none
            else
             some (.inl (x1.set (Int.toNat x3) x3))):Option ((List Int) ⊕ ((List Int)))) fun q6=>match q6 with
           |
            .inl x10=>
            if B0 x10 x3 then
             Option.bind (iter (c0V fuel p0 x10 x7 x3) fuel (gt x10 x3)) fun t2=>match t2 with
             |
              .inl _=>
              some (.next (x10,x7,(W (x3+1))))
             |.inr r1=>some (.done (.inr r1))
            else none
           |.inr r1=>some (.done (.inr r1))
          |.inr r1=>some (.done (.inr r1))
    else none
  else none
 else
  some (.done (.inl (x1,x2)))
def b0c (fuel:Nat) (p0:(List C0)):Option ((List Int)):=
 if V2 8 (p0.length:Int) then
 Option.bind (iter (e0D fuel p0) fuel ((List.replicate (Int.toNat (p0.length:Int)) (0:Int)),0,0)) fun t1=>match t1 with
 |
  .inl (y1,y2)=>
  Option.bind ((
   if ((p0.length:Int)==0) then
    some true
   else
    if (decide ((p0.length:Int)>400)) then
     some true
    else
     if (decide (y2>64)) then
      some true
     else
      if B0 y1 (W ((p0.length:Int)-1)) then
       some ((gt y1 (W ((p0.length:Int)-1))) != 0)
      else none):Option (Bool)) fun x14=>
   if x14 then
    some ([]:List Int)
   else
    if h0r y1 then some y1 else none
 |.inr r1=>some r1
else none
def B6 (fuel:Nat) (p0:(List C0)):Option (Bool):=
 Option.bind (b0c fuel p0) fun x1=>
 some (!(x1.isEmpty))
def b0z (fuel:Nat) (p0:(List C0)) (p1:(List Int)) (p2:Int):Option (Int):=
 if B0 p0 p2 then
 Option.bind ((
  Option.bind ((
   Option.bind ((
    if (((gt p0 p2).Kind)==1) then
     some (((gt p0 p2).Kind)==1)
    else
     some (((gt p0 p2).Kind)==2)):Option (Bool)) fun x1=>
    if x1 then
     Option.bind ((
      if (((gt p0 p2).A)==(-1)) then
       some (((gt p0 p2).B)==(-1))
      else
       some false):Option (Bool)) fun x2=>
      if x2 then
       some (.inr p2)
      else
       some (.inl ())
    else
     Option.bind ((
      if (((gt p0 p2).Kind)==3) then
       some (((gt p0 p2).Kind)==3)
      else
       some (((gt p0 p2).Kind)==4)):Option (Bool)) fun x3=>
      if x3 then
       Option.bind ((
        if (decide (((gt p0 p2).B)>=0)) then
         if (((gt p0 p2).B)==(W (p2-1))) then
          if (decide (((gt p0 p2).A)>=0)) then
           if B0 p1 ((gt p0 p2).B) then
            some (((gt p0 p2).A)==(W ((gt p1 ((gt p0 p2).B))-1)))
           else none
          else
           some false
         else
          some false
        else
         some false):Option (Bool)) fun x4=>
        if x4 then
         if B0 p1 ((gt p0 p2).A) then
          some (.inr (gt p1 ((gt p0 p2).A)))
         else none
        else
         some (.inl ())
      else
       Option.bind ((
        if (((gt p0 p2).Kind)==5) then
         some (((gt p0 p2).Kind)==5)
        else
         if (((gt p0 p2).Kind)==6) then
          some (((gt p0 p2).Kind)==6)
         else
          if (((gt p0 p2).Kind)==7) then
           some (((gt p0 p2).Kind)==7)
          else
           some (((gt p0 p2).Kind)==8)):Option (Bool)) fun x5=>
        if x5 then
         Option.bind ((
          if (((gt p0 p2).B)==(-1)) then
           if (decide (((gt p0 p2).A)>=0)) then
            some (((gt p0 p2).A)==(W (p2-1)))
           else
            some false
          else
           some false):Option (Bool)) fun x6=>
          if x6 then
           if B0 p1 ((gt p0 p2).A) then
            some (.inr (gt p1 ((gt p0 p2).A)))
           else none
          else
           some (.inl ())
        else
         some (.inl ())):Option ((Unit) ⊕ (Int))) fun q2=>match q2 with
  |
   .inl _=>
   some (.inl ())
  |.inr r1=>some (.inr r1)):Option ((Unit) ⊕ (Int))) fun q1=>match q1 with
 |
  .inl _=>
  some (-1)
 |.inr r1=>some r1
else none
def b0P (fuel:Nat) (p0:C0):Option (Bool):=
 Option.bind ((
 if (p0.Kind != 2) then
  some (!(((gt p0.Set 0)==0)&&(((gt p0.Set 1)==0)&&(((gt p0.Set 2)==0)&&((gt p0.Set 3)==0)))))
 else
  some false):Option (Bool)) fun x1=>
 if x1 then
  some false
 else
  if (p0.Kind==7) then
   Option.bind ((
    if (decide (p0.N>=1)) then
     some (decide (p0.N<=9))
    else
     some false):Option (Bool)) fun x2=>
    some x2
  else
   some (p0.N==0)
def c0u (fuel:Nat) (p0:C0) (p1:(List C0)) (s_:Int):Option (V0 (Int) ((Unit) ⊕ (Bool))):=
 let x1:=s_
 if (decide (x1<(p1.length:Int))) then
  if B0 p1 x1 then
   Option.bind ((
    if (p0.Kind==7) then
     if (((gt p1 x1).Kind)==7) then
      some (((gt p1 x1).N)==p0.N)
     else
      some false
    else
     some false):Option (Bool)) fun x2=>
    if x2 then
     some (.done (.inr true))
    else
     some (.next (W (x1+1)))
  else none
 else
  some (.done (.inl ()))
def b09 (fuel:Nat) (p0:C0) (p1:(List C0)):Option (Bool):=
 Option.bind (iter (c0u fuel p0 p1) fuel 0) fun t1=>match t1 with
|
 .inl _=>
 some false
|.inr r1=>some r1
def d0Y (fuel:Nat) (p0:(List C0)) (s_:List Int×Int×Int):Option (V0 (List Int×Int×Int) ((List Int×Int) ⊕ ((List Int)))):=
 let (x2,x3,x4):=s_
 if (decide (x4<(p0.length:Int))) then
  if B0 p0 x4 then
   Option.bind (b0z fuel p0 x2 x4) fun x5=>
    Option.bind ((
     if (decide (x5<0)) then
      some true
     else
      Option.bind (b0P fuel (gt p0 x4)) fun x7=>
       if (!x7) then
        some true
       else
        if I4 p0 x5 x4 then
         Option.bind (b09 fuel (gt p0 x4) (I1 p0 x5 x4)) fun x8=>
          some x8
        else none):Option (Bool)) fun x6=>
     if x6 then
      some (.done (.inr ([]:List Int)))
     else
      Option.bind ((
       if (((gt p0 x4).Kind)==2) then
        some (W (x3+1))
       else
        some x3):Option (Int)) fun x9=>
       if I0 8 x2 [x5] then
        some (.next ((x2++[x5]),x9,(W (x4+1))))
       else none
  else none
 else
  some (.done (.inl (x2,x3)))
def R8 (fuel:Nat) (p0:(List C0)):Option ((List Int)):=
 Option.bind ((
 if ((p0.length:Int)==0) then
  some true
 else
  some (decide ((p0.length:Int)>400))):Option (Bool)) fun x1=>
 if x1 then
  some ([]:List Int)
 else
  Option.bind (iter (d0Y fuel p0) fuel (([]:List Int),0,0)) fun t1=>match t1 with
  |
   .inl (y1,y2)=>
   Option.bind ((
    if (decide (y2>64)) then
     some true
    else
     if B0 y1 (W ((p0.length:Int)-1)) then
      some ((gt y1 (W ((p0.length:Int)-1))) != 0)
     else none):Option (Bool)) fun x10=>
    if x10 then
     some ([]:List Int)
    else
     if h0r y1 then some y1 else none
  |.inr r1=>some r1
def c7 (fuel:Nat) (p0:(List C0)):Option (Bool):=
 Option.bind (R8 fuel p0) fun x1=>
 some (decide ((x1.length:Int)>0))
def d09 (fuel:Nat) (p0:(List C0)) (s_:List Bool×Int):Option (V0 (List Bool×Int) (List Bool)):=
 let (x2,x3):=s_
 if (decide (x3<(p0.length:Int))) then
  Option.bind ((
   if B0 p0 x3 then
    Option.bind ((
     Option.bind ((
      if (((gt p0 x3).Kind)==1) then
       some (((gt p0 x3).Kind)==1)
      else
       if (((gt p0 x3).Kind)==5) then
        some (((gt p0 x3).Kind)==5)
       else
        some (((gt p0 x3).Kind)==6)):Option (Bool)) fun x6=>
      if x6 then
       if B0 x2 x3 then
        some (x2.set (Int.toNat x3) true)
       else none
      else
       if (((gt p0 x3).Kind)==3) then
        Option.bind ((
         if B0 x2 ((gt p0 x3).A) then
          if (gt x2 ((gt p0 x3).A)) then
           if B0 x2 ((gt p0 x3).B) then
            if B0 x2 x3 then
             some (x2.set (Int.toNat x3) (gt x2 ((gt p0 x3).B)))
            else none
           else none
          else
           if B0 x2 x3 then
            some (x2.set (Int.toNat x3) false)
           else none
         else none):Option (List Bool)) fun x7=>
         some x7
       else
        if (((gt p0 x3).Kind)==4) then
         Option.bind ((
          if B0 x2 ((gt p0 x3).A) then
           if (gt x2 ((gt p0 x3).A)) then
            if B0 x2 x3 then
             some (x2.set (Int.toNat x3) true)
            else none
           else
            if B0 x2 ((gt p0 x3).B) then
             if B0 x2 x3 then
              some (x2.set (Int.toNat x3) (gt x2 ((gt p0 x3).B)))
             else none
            else none
          else none):Option (List Bool)) fun x8=>
          some x8
        else
         Option.bind ((
          if (((gt p0 x3).Kind)==7) then
           some (((gt p0 x3).Kind)==7)
          else
           some (((gt p0 x3).Kind)==8)):Option (Bool)) fun x9=>
          if x9 then
           if B0 x2 ((gt p0 x3).A) then
            if B0 x2 x3 then
             some (x2.set (Int.toNat x3) (gt x2 ((gt p0 x3).A)))
            else none
           else none
          else
           some x2):Option (List Bool)) fun x5=>
     some x5
   else none):Option (List Bool)) fun x4=>
   some (.next (x4,(W (x3+1))))
 else
  some (.done x2)
def a0T (fuel:Nat) (p0:(List C0)):Option ((List Bool)):=
 Option.bind (c7 fuel p0) fun x1=>
 if (!x1) then
  some ([]:List Bool)
 else
  if V2 1 (p0.length:Int) then
   Option.bind (iter (d09 fuel p0) fuel ((List.replicate (Int.toNat (p0.length:Int)) false),0)) fun y1=>
    some y1
  else none
def X6 (fuel:Nat):Nat->(List C0)->(List Bool)->Int->(List Int)->Option ((List Int))
 |0,_,_,_,_=>none
 |
  k+1,p0,p1,p2,p3=>
  if I0 8 p3 [(W (2*p2))] then
   if B0 p0 p2 then
    Option.bind ((
     Option.bind ((
      if (((gt p0 p2).Kind)==3) then
       Option.bind (X6 fuel k p0 p1 ((gt p0 p2).A) (p3++[(W (2*p2))])) fun x3=>
        Option.bind (X6 fuel k p0 p1 ((gt p0 p2).B) x3) fun x4=>
         some x4
      else
       if (((gt p0 p2).Kind)==4) then
        if B0 p1 ((gt p0 p2).A) then
         if (gt p1 ((gt p0 p2).A)) then
          Option.bind (X6 fuel k p0 p1 ((gt p0 p2).A) (p3++[(W (2*p2))])) fun x5=>
           some x5
         else
          Option.bind (X6 fuel k p0 p1 ((gt p0 p2).B) (p3++[(W (2*p2))])) fun x6=>
           some x6
        else none
       else
        Option.bind ((
         if (((gt p0 p2).Kind)==7) then
          some (((gt p0 p2).Kind)==7)
         else
          some (((gt p0 p2).Kind)==8)):Option (Bool)) fun x7=>
         if x7 then
          Option.bind (X6 fuel k p0 p1 ((gt p0 p2).A) (p3++[(W (2*p2))])) fun x8=>
           some x8
         else
          some (p3++[(W (2*p2))])):Option (List Int)) fun x2=>
      some x2):Option (List Int)) fun x1=>
     if I0 8 x1 [(W ((W (2*p2))+1))] then
      some (x1++[(W ((W (2*p2))+1))])
     else none
   else none
  else none
def a0f (fuel:Nat) (p0:(List C0)) (p1:Int):Option ((List Int)):=
 Option.bind (a0T fuel p0) fun x1=>
 Option.bind ((
  if (decide (p1<0)) then
   some true
  else
   if (decide (p1>=(x1.length:Int))) then
    some true
   else
    if B0 x1 p1 then
     some (!(gt x1 p1))
    else none):Option (Bool)) fun x2=>
  if x2 then
   some ([]:List Int)
  else
   Option.bind (X6 fuel fuel p0 x1 p1 ([]:List Int)) fun x3=>
    some x3
def e0n (fuel:Nat) (p0:(List C0)) (s_:List Int×Int):Option (V0 (List Int×Int) (List Int)):=
 let (x2,x3):=s_
 if (decide (x3<(p0.length:Int))) then
  Option.bind ((
   if B0 p0 x3 then
    Option.bind ((
     if (decide (((gt p0 x3).A)>=0)) then
      if B0 x2 ((gt p0 x3).A) then
       some (x2.set (Int.toNat ((gt p0 x3).A)) x3)
      else none
     else
      some x2):Option (List Int)) fun x5=>
     if (decide (((gt p0 x3).B)>=0)) then
      if B0 x5 ((gt p0 x3).B) then
       some (x5.set (Int.toNat ((gt p0 x3).B)) x3)
      else none
     else
      some x5
   else none):Option (List Int)) fun x4=>
   some (.next (x4,(W (x3+1))))
 else
  some (.done x2)
def S9 (fuel:Nat) (p0:(List C0)):Option ((List Int)):=
 Option.bind (c7 fuel p0) fun x1=>
 if (!x1) then
  some ([]:List Int)
 else
  if V2 8 (p0.length:Int) then
   if B0 (List.replicate (Int.toNat (p0.length:Int)) (0:Int)) (W ((p0.length:Int)-1)) then
    Option.bind (iter (e0n fuel p0) fuel (((List.replicate (Int.toNat (p0.length:Int)) (0:Int)).set (Int.toNat (W ((p0.length:Int)-1))) (-1)),0)) fun y1=>
     some y1
   else none
  else none
def f0P (fuel:Nat) (x1:(List Int)) (s_:List Int×Int):Option (V0 (List Int×Int) (List Int)):=
 let (x2,x3):=s_
 if (decide (x3>=0)) then
  Option.bind ((
   if B0 x2 x3 then
    if B0 x1 x3 then
     if (decide ((gt x1 x3)>=0)) then
      if B0 (x2.set (Int.toNat x3) 1) x3 then
       if B0 x1 x3 then
        if B0 (x2.set (Int.toNat x3) 1) (gt x1 x3) then
         if B0 (x2.set (Int.toNat x3) 1) x3 then
          some ((x2.set (Int.toNat x3) 1).set (Int.toNat x3) (W ((gt (x2.set (Int.toNat x3) 1) x3)+(gt (x2.set (Int.toNat x3) 1) (gt x1 x3)))))
         else none
        else none
       else none
      else none
     else
      some (x2.set (Int.toNat x3) 1)
    else none
   else none):Option (List Int)) fun x4=>
   some (.next (x4,(W (x3-1))))
 else
  some (.done x2)
def a0w (fuel:Nat) (p0:(List C0)):Option ((List Int)):=
 Option.bind (S9 fuel p0) fun x1=>
 if V2 8 (x1.length:Int) then
  Option.bind (iter (f0P fuel x1) fuel ((List.replicate (Int.toNat (x1.length:Int)) (0:Int)),(W ((x1.length:Int)-1)))) fun y1=>
   some y1
 else none
def e0U (fuel:Nat) (p0:(List C0)) (s_:List Int×Int):Option (V0 (List Int×Int) (List Int)):=
 let (x2,x3):=s_
 if (decide (x3<(p0.length:Int))) then
  Option.bind ((
   if B0 p0 x3 then
    if (((gt p0 x3).Kind)==2) then
     if I0 8 x2 [x3] then
      some (x2++[x3])
     else none
    else
     some x2
   else none):Option (List Int)) fun x4=>
   some (.next (x4,(W (x3+1))))
 else
  some (.done x2)
def K7 (fuel:Nat) (p0:(List C0)):Option ((List Int)):=
 Option.bind (c7 fuel p0) fun x1=>
 if (!x1) then
  some ([]:List Int)
 else
  Option.bind (iter (e0U fuel p0) fuel (([]:List Int),0)) fun y1=>
   some y1
def f0G (fuel:Nat) (p0:(List C0)) (s_:List Int×Int):Option (V0 (List Int×Int) (List Int)):=
 let (x2,x3):=s_
 if (decide (x3<((List.replicate (Int.toNat (p0.length:Int)) (0:Int)).length:Int))) then
  if B0 x2 x3 then
   some (.next ((x2.set (Int.toNat x3) (-1)),(W (x3+1))))
  else none
 else
  some (.done x2)
def f0d (fuel:Nat) (y1:List Int) (x4:(List Int)) (s_:List Int×Int):Option (V0 (List Int×Int) (List Int)):=
 let (x5,x6):=s_
 if (decide (x6<(x4.length:Int))) then
  if B0 x4 x6 then
   if B0 x5 (gt x4 x6) then
    some (.next ((x5.set (Int.toNat (gt x4 x6)) x6),(W (x6+1))))
   else none
  else none
 else
  some (.done x5)
def b0K (fuel:Nat) (p0:(List C0)):Option ((List Int)):=
 Option.bind (c7 fuel p0) fun x1=>
 if (!x1) then
  some ([]:List Int)
 else
  if V2 8 (p0.length:Int) then
   Option.bind (iter (f0G fuel p0) fuel ((List.replicate (Int.toNat (p0.length:Int)) (0:Int)),0)) fun y1=>
    Option.bind (K7 fuel p0) fun x4=>
     Option.bind (iter (f0d fuel y1 x4) fuel (y1,0)) fun y2=>
      some y2
  else none
def a0Z (fuel:Nat) (p0:(List C0)):Option ((Option U4)×Bool):=
 Option.bind (c7 fuel p0) fun x1=>
 if (!x1) then
  some (none,false)
 else
  Option.bind (S9 fuel p0) fun x2=>
   Option.bind (a0w fuel p0) fun x3=>
    Option.bind (b0K fuel p0) fun x4=>
     Option.bind (a0T fuel p0) fun x5=>
      some ((some (⟨p0,x2,x3,x4,x5⟩:U4)),true)
def a0S (fuel:Nat) (p0:(List C0)) (p1:Int):Option ((Option U4)×Int×Bool):=
 Option.bind (a0Z fuel p0) fun x1=>
 if (!x1.2) then
  some (none,0,false)
 else
  Option.bind (K7 fuel p0) fun x2=>
   Option.bind ((
    if (decide (p1<0)) then
     some true
    else
     some (decide (p1>=(x2.length:Int)))):Option (Bool)) fun x3=>
    if x3 then
     some (none,0,false)
    else
     if B0 x2 p1 then
      some (x1.1,(gt x2 p1),true)
     else none
def I8 (fuel:Nat) (p0:(List Int)) (p1:(List Int)):Option ((List Int)):=
 if I4 p0 0 (p0.length:Int) then
 if (decide ((p0.length:Int)<=(p0.length:Int))&&decide ((p0.length:Int)<=(p0.length:Int))) then
  if I0 8 (I1 p0 0 (p0.length:Int)) p1 then
   some ((I1 p0 0 (p0.length:Int))++p1)
  else none
 else none
else none
def e6 (fuel:Nat):Nat->U4->Int->(List Int)->(List y0)->Option ((List y0))
 |0,_,_,_,_=>none
 |
  k+1,p0,p1,p2,p3=>
  if B0 p0.l p1 then
   Option.bind (I8 fuel p2 [(W (2*p1))]) fun x1=>
    Option.bind ((
     Option.bind ((
      if (((gt p0.l p1).Kind)==2) then
       if B0 p0.index p1 then
        if I0 40 p3 [(⟨(gt p0.index p1),(0:Int),x1⟩:y0)] then
         some (.inr (p3++[(⟨(gt p0.index p1),(0:Int),x1⟩:y0)]))
        else none
       else none
      else
       if (((gt p0.l p1).Kind)==3) then
        Option.bind (e6 fuel k p0 ((gt p0.l p1).A) x1 p3) fun x4=>
         if B0 p0.can ((gt p0.l p1).A) then
          if (gt p0.can ((gt p0.l p1).A)) then
           Option.bind (a0f fuel p0.l ((gt p0.l p1).A)) fun x5=>
            Option.bind (I8 fuel x1 x5) fun x6=>
             Option.bind (e6 fuel k p0 ((gt p0.l p1).B) x6 x4) fun x7=>
              some (.inl x7)
          else
           some (.inl x4)
         else none
       else
        if (((gt p0.l p1).Kind)==4) then
         Option.bind (e6 fuel k p0 ((gt p0.l p1).A) x1 p3) fun x8=>
          Option.bind (e6 fuel k p0 ((gt p0.l p1).B) x1 x8) fun x9=>
           some (.inl x9)
        else
         Option.bind ((
          if (((gt p0.l p1).Kind)==5) then
           some (((gt p0.l p1).Kind)==5)
          else
           if (((gt p0.l p1).Kind)==6) then
            some (((gt p0.l p1).Kind)==6)
           else
            if (((gt p0.l p1).Kind)==7) then
             some (((gt p0.l p1).Kind)==7)
            else
             some (((gt p0.l p1).Kind)==8)):Option (Bool)) fun x10=>
          if x10 then
           Option.bind (e6 fuel k p0 ((gt p0.l p1).A) x1 p3) fun x11=>
            some (.inl x11)
          else
           some (.inl p3)):Option ((List y0) ⊕ ((List y0)))) fun q2=>match q2 with
     |
      .inl x3=>
      some (.inl x3)
     |.inr r1=>some (.inr r1)):Option ((List y0) ⊕ ((List y0)))) fun q1=>match q1 with
    |
     .inl x2=>
     some x2
    |.inr r1=>some r1
  else none
def o0n (fuel:Nat) (p0:y0) (p1:y0):Option (Bool):=
 some (p0.To==p1.To)
def d01 (fuel:Nat) (p0:(List y0)) (p1:y0) (s_:Int):Option (V0 (Int) ((Unit) ⊕ (Int))):=
 let x1:=s_
 if (decide (x1<(p0.length:Int))) then
  if B0 p0 x1 then
   Option.bind (o0n fuel (gt p0 x1) p1) fun x2=>
    if x2 then
     some (.done (.inr x1))
    else
     some (.next (W (x1+1)))
  else none
 else
  some (.done (.inl ()))
def l0M (fuel:Nat) (p0:(List y0)) (p1:y0):Option (Int):=
 Option.bind (iter (d01 fuel p0 p1) fuel 0) fun t1=>match t1 with
|
 .inl _=>
 some (-1)
|.inr r1=>some r1
def j0G (fuel:Nat) (p0:(List y0)) (p1:y0):Option (Bool):=
 Option.bind (l0M fuel p0 p1) fun x1=>
 some (decide (x1>=0))
def d0H (fuel:Nat) (p0:U4) (p1:Int) (p4:(List y0)) (x1:(List y0)) (s_:List y0×Int):Option (V0 (List y0×Int) (List y0)):=
 let (x2,x3):=s_
 if (decide (x3<(x1.length:Int))) then
  Option.bind ((
   if B0 x1 x3 then
    Option.bind (j0G fuel x2 (gt x1 x3)) fun x5=>
     if (!x5) then
      if B0 p0.deep p1 then
       if I0 40 x2 [(⟨(gt x1 x3).To,(gt p0.deep p1),(gt x1 x3).Steps⟩:y0)] then
        some (x2++[(⟨(gt x1 x3).To,(gt p0.deep p1),(gt x1 x3).Steps⟩:y0)])
       else none
      else none
     else
      some x2
   else none):Option (List y0)) fun x4=>
   some (.next (x4,(W (x3+1))))
 else
  some (.done x2)
def a01 (fuel:Nat) (p0:U4) (p1:Int) (p2:Int) (p3:(List Int)) (p4:(List y0)):Option ((List y0)):=
 Option.bind (e6 fuel fuel p0 p2 p3 ([]:List y0)) fun x1=>
 Option.bind (iter (d0H fuel p0 p1 p4 x1) fuel (p4,0)) fun y1=>
  some y1
def b0G (fuel:Nat) (p0:U4) (p1:Int) (s_:Int×List Int×List y0×Int):Option (V0 (Int×List Int×List y0×Int) ((List Int×List y0) ⊕ ((List y0)×(List Int)))):=
 let (x1,x2,x3,x4):=s_
 if (decide (x4>=0)) then
  if B0 p0.l x4 then
   Option.bind ((
    Option.bind ((
     if (((gt p0.l x4).Kind)==3) then
      some (((gt p0.l x4).A)==x1)
     else
      some false):Option (Bool)) fun x7=>
     if x7 then
      Option.bind (a01 fuel p0 x4 ((gt p0.l x4).B) x2 x3) fun x8=>
       if B0 p0.can ((gt p0.l x4).B) then
        if (!(gt p0.can ((gt p0.l x4).B))) then
         some (.inr (x8,([]:List Int)))
        else
         Option.bind (a0f fuel p0.l ((gt p0.l x4).B)) fun x9=>
          Option.bind (I8 fuel x2 x9) fun x10=>
           some (.inl (x10,x8))
       else none
     else
      if (((gt p0.l x4).Kind)==5) then
       Option.bind (a01 fuel p0 x4 ((gt p0.l x4).A) x2 x3) fun x11=>
        some (.inl (x2,x11))
      else
       some (.inl (x2,x3))):Option ((List Int×List y0) ⊕ ((List y0)×(List Int)))) fun q1=>match q1 with
   |
    .inl (x5,x6)=>
    Option.bind (I8 fuel x5 [(W ((W (2*x4))+1))]) fun x12=>
     if B0 p0.up x4 then
      some (.next (x4,x12,x6,(gt p0.up x4)))
     else none
   |.inr r1=>some (.done (.inr r1))
  else none
 else
  some (.done (.inl (x2,x3)))
def a00 (fuel:Nat) (p0:U4) (p1:Int):Option ((List y0)×(List Int)):=
 if B0 p0.up p1 then
 Option.bind (iter (b0G fuel p0 p1) fuel (p1,[(W ((W (2*p1))+1))],([]:List y0),(gt p0.up p1))) fun t1=>match t1 with
 |
  .inl (y1,y2)=>
  some (y2,y1)
 |.inr r1=>some r1
else none
def J9 (fuel:Nat) (p0:(List C0)) (p1:Int):Option (y0×Bool):=
 Option.bind ((
 if (p1==(-1)) then
  Option.bind (a0f fuel p0 (W ((p0.length:Int)-1))) fun x2=>
   some x2
 else
  Option.bind (a0S fuel p0 p1) fun x3=>
   if x3.2.2 then
    Option.bind x3.1 fun x4=>
     Option.bind (a00 fuel x4 x3.2.1) fun x5=>
      some x5.2
   else
    some ([]:List Int)):Option (List Int)) fun x1=>
 if ((x1.length:Int)==0) then
  some ((⟨(0:Int),(0:Int),[]⟩:y0),false)
 else
  some ((⟨(-1),(0:Int),x1⟩:y0),true)
def f0o (fuel:Nat) (p0:(List y0)) (s_:List y0×Int):Option (V0 (List y0×Int) (List y0)):=
 let (x1,x2):=s_
 if (decide (x2<(p0.length:Int))) then
  if B0 x1 x2 then
   if V2 8 (((gt x1 x2).Steps).length:Int) then
    if B0 x1 x2 then
     if B0 x1 x2 then
      some (.next ((x1.set (Int.toNat x2) (⟨(gt x1 x2).To,(gt x1 x2).Turn,(G4 (List.replicate (Int.toNat (((gt x1 x2).Steps).length:Int)) (0:Int)) ((gt x1 x2).Steps))⟩:y0)),(W (x2+1))))
     else none
    else none
   else none
  else none
 else
  some (.done x1)
def a0H (fuel:Nat) (p0:(List y0)):Option ((List y0)):=
 Option.bind (iter (f0o fuel p0) fuel (p0,0)) fun y1=>
 some y1
def b0O (fuel:Nat) (p0:(List C0)) (p1:Int):Option ((List y0)):=
 Option.bind (a0Z fuel p0) fun x1=>
 Option.bind ((
  if (!x1.2) then
   some true
  else
   if (decide (p1<0)) then
    some true
   else
    some (decide (p1>=(p0.length:Int)))):Option (Bool)) fun x2=>
  if x2 then
   some ([]:List y0)
  else
   Option.bind x1.1 fun x3=>
    Option.bind (e6 fuel fuel x3 p1 ([]:List Int) ([]:List y0)) fun x4=>
     Option.bind (a0H fuel x4) fun x5=>
      some x5
def a06 (fuel:Nat) (p0:(List C0)) (p1:Int):Option ((List y0)):=
 Option.bind (a0S fuel p0 p1) fun x1=>
 if (!x1.2.2) then
  some ([]:List y0)
 else
  Option.bind x1.1 fun x2=>
   Option.bind (a00 fuel x2 x1.2.1) fun x3=>
    if b0j y0.To x3.1 then
     Option.bind (a0H fuel (r7 y0.To x3.1)) fun x4=>
      some x4
    else none
def d0D (fuel:Nat) (p0:(List C0)) (s_:List Int×Int):Option (V0 (List Int×Int) (List Int)):=
 let (x2,x3):=s_
 if (decide (x3<(p0.length:Int))) then
  Option.bind ((
   if B0 p0 x3 then
    if (((gt p0 x3).Kind)==2) then
     if I0 8 x2 [x3] then
      some (x2++[x3])
     else none
    else
     some x2
   else none):Option (List Int)) fun x4=>
   some (.next (x4,(W (x3+1))))
 else
  some (.done x2)
def b0t (fuel:Nat) (p0:(List C0)):Option ((List Int)):=
 Option.bind (B6 fuel p0) fun x1=>
 if (!x1) then
  some ([]:List Int)
 else
  Option.bind (iter (d0D fuel p0) fuel (([]:List Int),0)) fun y1=>
   some y1
def e0C (fuel:Nat) (p0:(List C0)) (s_:List Bool×Int):Option (V0 (List Bool×Int) (List Bool)):=
 let (x2,x3):=s_
 if (decide (x3<(p0.length:Int))) then
  Option.bind ((
   if B0 p0 x3 then
    Option.bind ((
     Option.bind ((
      if (((gt p0 x3).Kind)==1) then
       some (((gt p0 x3).Kind)==1)
      else
       if (((gt p0 x3).Kind)==5) then
        some (((gt p0 x3).Kind)==5)
       else
        some (((gt p0 x3).Kind)==6)):Option (Bool)) fun x6=>
      if x6 then
       if B0 x2 x3 then
        some (x2.set (Int.toNat x3) true)
       else none
      else
       if (((gt p0 x3).Kind)==3) then
        Option.bind ((
         if B0 p0 x3 then
          if B0 x2 ((gt p0 x3).A) then
           if (gt x2 ((gt p0 x3).A)) then
            if B0 p0 x3 then
             if B0 x2 ((gt p0 x3).B) then
              if B0 x2 x3 then
               some (x2.set (Int.toNat x3) (gt x2 ((gt p0 x3).B)))
              else none
             else none
            else none
           else
            if B0 x2 x3 then
             some (x2.set (Int.toNat x3) false)
            else none
          else none
         else none):Option (List Bool)) fun x7=>
         some x7
       else
        if (((gt p0 x3).Kind)==4) then
         Option.bind ((
          if B0 p0 x3 then
           if B0 x2 ((gt p0 x3).A) then
            if (gt x2 ((gt p0 x3).A)) then
             if B0 x2 x3 then
              some (x2.set (Int.toNat x3) true)
             else none
            else
             if B0 p0 x3 then
              if B0 x2 ((gt p0 x3).B) then
               if B0 x2 x3 then
                some (x2.set (Int.toNat x3) (gt x2 ((gt p0 x3).B)))
               else none
              else none
             else none
           else none
          else none):Option (List Bool)) fun x8=>
          some x8
        else
         Option.bind ((
          if (((gt p0 x3).Kind)==7) then
           some (((gt p0 x3).Kind)==7)
          else
           some (((gt p0 x3).Kind)==8)):Option (Bool)) fun x9=>
          if x9 then
           if B0 p0 x3 then
            if B0 x2 ((gt p0 x3).A) then
             if B0 x2 x3 then
              some (x2.set (Int.toNat x3) (gt x2 ((gt p0 x3).A)))
             else none
            else none
           else none
          else
           some x2):Option (List Bool)) fun x5=>
     some x5
   else none):Option (List Bool)) fun x4=>
   some (.next (x4,(W (x3+1))))
 else
  some (.done x2)
def a0j (fuel:Nat) (p0:(List C0)):Option ((List Bool)):=
 Option.bind (B6 fuel p0) fun x1=>
 if (!x1) then
  some ([]:List Bool)
 else
  if V2 1 (p0.length:Int) then
   Option.bind (iter (e0C fuel p0) fuel ((List.replicate (Int.toNat (p0.length:Int)) false),0)) fun y1=>
    some y1
  else none
def Y5 (fuel:Nat):Nat->(List C0)->(List Bool)->Int->Option ((List Int))
 |0,_,_,_=>none
 |
  k+1,p0,p1,p2=>
  Option.bind ((
   if B0 p0 p2 then
    Option.bind ((
     if (((gt p0 p2).Kind)==3) then
      if B0 p0 p2 then
       Option.bind (Y5 fuel k p0 p1 ((gt p0 p2).A)) fun x3=>
        if I0 8 [(W (2*p2))] x3 then
         if B0 p0 p2 then
          Option.bind (Y5 fuel k p0 p1 ((gt p0 p2).B)) fun x4=>
           if I0 8 ([(W (2*p2))]++x3) x4 then
            some (([(W (2*p2))]++x3)++x4)
           else none
         else none
        else none
      else none
     else
      if (((gt p0 p2).Kind)==4) then
       if B0 p0 p2 then
        if B0 p1 ((gt p0 p2).A) then
         if (gt p1 ((gt p0 p2).A)) then
          if B0 p0 p2 then
           Option.bind (Y5 fuel k p0 p1 ((gt p0 p2).A)) fun x5=>
            if I0 8 [(W (2*p2))] x5 then
             some ([(W (2*p2))]++x5)
            else none
          else none
         else
          if B0 p0 p2 then
           Option.bind (Y5 fuel k p0 p1 ((gt p0 p2).B)) fun x6=>
            if I0 8 [(W (2*p2))] x6 then
             some ([(W (2*p2))]++x6)
            else none
          else none
        else none
       else none
      else
       Option.bind ((
        if (((gt p0 p2).Kind)==7) then
         some (((gt p0 p2).Kind)==7)
        else
         some (((gt p0 p2).Kind)==8)):Option (Bool)) fun x7=>
        if x7 then
         if B0 p0 p2 then
          Option.bind (Y5 fuel k p0 p1 ((gt p0 p2).A)) fun x8=>
           if I0 8 [(W (2*p2))] x8 then
            some ([(W (2*p2))]++x8)
           else none
         else none
        else
         some [(W (2*p2))]):Option (List Int)) fun x2=>
     some x2
   else none):Option (List Int)) fun x1=>
   if I0 8 x1 [(W ((W (2*p2))+1))] then
    some (x1++[(W ((W (2*p2))+1))])
   else none
def c0i (fuel:Nat) (p0:(List C0)) (p1:Int):Option ((List Int)):=
 Option.bind (a0j fuel p0) fun x1=>
 Option.bind ((
  if (decide (p1<0)) then
   some true
  else
   if (decide (p1>=(x1.length:Int))) then
    some true
   else
    if B0 x1 p1 then
     some (!(gt x1 p1))
    else none):Option (Bool)) fun x2=>
  if x2 then
   some ([]:List Int)
  else
   Option.bind (Y5 fuel fuel p0 x1 p1) fun x3=>
    some x3
def g0c (fuel:Nat) (p0:(List C0)) (s_:List Int×Int×Int):Option (V0 (List Int×Int×Int) (List Int)):=
 let (x2,x3,x4):=s_
 if (decide (x4<(p0.length:Int))) then
  Option.bind ((
   if B0 x2 x4 then
    if B0 p0 x4 then
     if (((gt p0 x4).Kind)==2) then
      if B0 (x2.set (Int.toNat x4) (-1)) x4 then
       some (((x2.set (Int.toNat x4) (-1)).set (Int.toNat x4) x3),(W (x3+1)))
      else none
     else
      some ((x2.set (Int.toNat x4) (-1)),x3)
    else none
   else none):Option (List Int×Int)) fun q1=>match q1 with
  |
   (x5,x6)=>
   some (.next (x5,x6,(W (x4+1))))
 else
  some (.done x2)
def b0p (fuel:Nat) (p0:(List C0)):Option ((List Int)):=
 Option.bind (B6 fuel p0) fun x1=>
 if (!x1) then
  some ([]:List Int)
 else
  if V2 8 (p0.length:Int) then
   Option.bind (iter (g0c fuel p0) fuel ((List.replicate (Int.toNat (p0.length:Int)) (0:Int)),0,0)) fun y1=>
    some y1
  else none
def n0c (fuel:Nat) (p0:(List C0)) (s_:List Int×Int):Option (V0 (List Int×Int) (List Int)):=
 let (x2,x3):=s_
 if (decide (x3<(p0.length:Int))) then
  if B0 x2 x3 then
   some (.next ((x2.set (Int.toNat x3) (-1)),(W (x3+1))))
  else none
 else
  some (.done x2)
def h0N (fuel:Nat) (p0:(List C0)) (y1:List Int) (s_:List Int×Int):Option (V0 (List Int×Int) (List Int)):=
 let (x4,x5):=s_
 if (decide (x5<(p0.length:Int))) then
  Option.bind ((
   Option.bind ((
    if B0 p0 x5 then
     if (decide (((gt p0 x5).A)>=0)) then
      if B0 p0 x5 then
       if B0 x4 ((gt p0 x5).A) then
        some (x4.set (Int.toNat ((gt p0 x5).A)) x5)
       else none
      else none
     else
      some x4
    else none):Option (List Int)) fun x7=>
    if B0 p0 x5 then
     if (decide (((gt p0 x5).B)>=0)) then
      if B0 p0 x5 then
       if B0 x7 ((gt p0 x5).B) then
        some (x7.set (Int.toNat ((gt p0 x5).B)) x5)
       else none
      else none
     else
      some x7
    else none):Option (List Int)) fun x6=>
   some (.next (x6,(W (x5+1))))
 else
  some (.done x4)
def c0n (fuel:Nat) (p0:(List C0)):Option ((List Int)):=
 Option.bind (B6 fuel p0) fun x1=>
 if (!x1) then
  some ([]:List Int)
 else
  if V2 8 (p0.length:Int) then
   Option.bind (iter (n0c fuel p0) fuel ((List.replicate (Int.toNat (p0.length:Int)) (0:Int)),0)) fun y1=>
    Option.bind (iter (h0N fuel p0 y1) fuel (y1,0)) fun y2=>
     some y2
  else none
def K9 (fuel:Nat) (p0:(List Int)) (p1:(List Int)):Option ((List Int)):=
 if I0 8 ([]:List Int) p0 then
 if I0 8 (([]:List Int)++p0) p1 then
  some ((([]:List Int)++p0)++p1)
 else none
else none
def O6 (fuel:Nat):Nat->(List C0)->(List Int)->(List Bool)->Int->(List Int)->Option ((List y0))
 |0,_,_,_,_,_=>none
 |
  k+1,p0,p1,p2,p3,p4=>
  if B0 p0 p3 then
   Option.bind (K9 fuel p4 [(W (2*p3))]) fun x1=>
    if (((gt p0 p3).Kind)==2) then
     if B0 p1 p3 then
      some [(⟨(gt p1 p3),(0:Int),x1⟩:y0)]
     else none
    else
     if (((gt p0 p3).Kind)==3) then
      Option.bind (O6 fuel k p0 p1 p2 ((gt p0 p3).A) x1) fun x2=>
       Option.bind ((
        if B0 p2 ((gt p0 p3).A) then
         if (gt p2 ((gt p0 p3).A)) then
          Option.bind (Y5 fuel fuel p0 p2 ((gt p0 p3).A)) fun x4=>
           Option.bind (K9 fuel x1 x4) fun x5=>
            Option.bind (O6 fuel k p0 p1 p2 ((gt p0 p3).B) x5) fun x6=>
             if I0 40 x2 x6 then
              some (x2++x6)
             else none
         else
          some x2
        else none):Option (List y0)) fun x3=>
        some x3
     else
      if (((gt p0 p3).Kind)==4) then
       Option.bind (O6 fuel k p0 p1 p2 ((gt p0 p3).A) x1) fun x7=>
        Option.bind (O6 fuel k p0 p1 p2 ((gt p0 p3).B) x1) fun x8=>
         if I0 40 x7 x8 then
          some (x7++x8)
         else none
      else
       Option.bind ((
        if (((gt p0 p3).Kind)==5) then
         some (((gt p0 p3).Kind)==5)
        else
         if (((gt p0 p3).Kind)==6) then
          some (((gt p0 p3).Kind)==6)
         else
          if (((gt p0 p3).Kind)==7) then
           some (((gt p0 p3).Kind)==7)
          else
           some (((gt p0 p3).Kind)==8)):Option (Bool)) fun x9=>
        if x9 then
         Option.bind (O6 fuel k p0 p1 p2 ((gt p0 p3).A) x1) fun x10=>
          some x10
        else
         some ([]:List y0)
  else none
def o0u (fuel:Nat) (x1:(List Int)) (s_:List Int×Int):Option (V0 (List Int×Int) (List Int)):=
 let (x2,x3):=s_
 if (decide (x3>=0)) then
  Option.bind ((
   if B0 x2 x3 then
    if B0 x1 x3 then
     if (decide ((gt x1 x3)>=0)) then
      if B0 x1 x3 then
       if B0 (x2.set (Int.toNat x3) 1) (gt x1 x3) then
        if B0 (x2.set (Int.toNat x3) 1) x3 then
         some ((x2.set (Int.toNat x3) 1).set (Int.toNat x3) (W ((gt (x2.set (Int.toNat x3) 1) (gt x1 x3))+1)))
        else none
       else none
      else none
     else
      some (x2.set (Int.toNat x3) 1)
    else none
   else none):Option (List Int)) fun x4=>
   some (.next (x4,(W (x3-1))))
 else
  some (.done x2)
def e0N (fuel:Nat) (p0:(List C0)):Option ((List Int)):=
 Option.bind (c0n fuel p0) fun x1=>
 if V2 8 (x1.length:Int) then
  Option.bind (iter (o0u fuel x1) fuel ((List.replicate (Int.toNat (x1.length:Int)) (0:Int)),(W ((x1.length:Int)-1)))) fun y1=>
   some y1
 else none
def l0R (fuel:Nat) (p0:(List y0)) (p1:Int) (s_:Int):Option (V0 (Int) ((Unit) ⊕ (Bool))):=
 let x1:=s_
 if (decide (x1<(p0.length:Int))) then
  if B0 p0 x1 then
   if (((gt p0 x1).To)==p1) then
    some (.done (.inr true))
   else
    some (.next (W (x1+1)))
  else none
 else
  some (.done (.inl ()))
def e0b (fuel:Nat) (p0:(List y0)) (p1:Int):Option (Bool):=
 Option.bind (iter (l0R fuel p0 p1) fuel 0) fun t1=>match t1 with
|
 .inl _=>
 some false
|.inr r1=>some r1
def o0m (fuel:Nat) (p0:(List C0)) (x6:y0) (x1:(List Int)) (x2:(List Int)) (x3:(List Int)) (x4:(List Bool)) (x7:Int) (x8:List Int) (x9:List y0) (x12:Int) (x14:(List y0)) (s_:List y0×List y0×Int):Option (V0 (List y0×List y0×Int) (List y0)):=
 let (x15,x16,x17):=s_
 if (decide (x17<(x16.length:Int))) then
  Option.bind ((
   if B0 x16 x17 then
    Option.bind (e0b fuel x15 ((gt x16 x17).To)) fun x20=>
     if (!x20) then
      if B0 x2 (gt x1 x7) then
       if B0 x16 x17 then
        if B0 (x16.set (Int.toNat x17) (⟨(gt x16 x17).To,(gt x2 (gt x1 x7)),(gt x16 x17).Steps⟩:y0)) x17 then
         if I0 40 x15 [(gt (x16.set (Int.toNat x17) (⟨(gt x16 x17).To,(gt x2 (gt x1 x7)),(gt x16 x17).Steps⟩:y0)) x17)] then
          some ((x15++[(gt (x16.set (Int.toNat x17) (⟨(gt x16 x17).To,(gt x2 (gt x1 x7)),(gt x16 x17).Steps⟩:y0)) x17)]),(x16.set (Int.toNat x17) (⟨(gt x16 x17).To,(gt x2 (gt x1 x7)),(gt x16 x17).Steps⟩:y0)))
         else none
        else none
       else none
      else none
     else
      some (x15,x16)
   else none):Option (List y0×List y0)) fun q5=>match q5 with
  |
   (x18,x19)=>
   some (.next (x18,x19,(W (x17+1))))
 else
  some (.done x15)
def m0O (fuel:Nat) (p0:(List C0)) (x1:(List Int)) (x2:(List Int)) (x3:(List Int)) (x4:(List Bool)) (x5:(List Int)) (p1:Int) (s_:y0×Int×List Int×List y0):Option (V0 (y0×Int×List Int×List y0) ((y0×List Int×List y0) ⊕ ((List y0)×y0×Bool))):=
 let (x6,x7,x8,x9):=s_
 if B0 x1 x7 then
  if (decide ((gt x1 x7)>=0)) then
   if B0 x1 x7 then
    Option.bind ((
     Option.bind ((
      if B0 p0 (gt x1 x7) then
       if (((gt p0 (gt x1 x7)).Kind)==3) then
        if B0 p0 (gt x1 x7) then
         some (((gt p0 (gt x1 x7)).A)==x7)
        else none
       else
        some false
      else none):Option (Bool)) fun x11=>
      if x11 then
       if B0 p0 (gt x1 x7) then
        some ((gt p0 (gt x1 x7)).B)
       else none
      else
       some (-1)):Option (Int)) fun x10=>
     Option.bind ((
      if B0 p0 (gt x1 x7) then
       if (((gt p0 (gt x1 x7)).Kind)==5) then
        if B0 p0 (gt x1 x7) then
         some ((gt p0 (gt x1 x7)).A)
        else none
       else
        some x10
      else none):Option (Int)) fun x12=>
      Option.bind ((
       if (decide (x12>=0)) then
        Option.bind (O6 fuel fuel p0 x3 x4 x12 x8) fun x14=>
         Option.bind (iter (o0m fuel p0 x6 x1 x2 x3 x4 x7 x8 x9 x12 x14) fuel (x9,x14,0)) fun y4=>
          some y4
       else
        some x9):Option (List y0)) fun x13=>
       Option.bind ((
        Option.bind ((
         if B0 p0 (gt x1 x7) then
          if (((gt p0 (gt x1 x7)).Kind)==3) then
           if B0 p0 (gt x1 x7) then
            some (((gt p0 (gt x1 x7)).A)==x7)
           else none
          else
           some false
         else none):Option (Bool)) fun x22=>
         if x22 then
          if B0 x4 x12 then
           if (!(gt x4 x12)) then
            some (.inr (x13,(⟨(0:Int),(0:Int),[]⟩:y0),false))
           else
            Option.bind (Y5 fuel fuel p0 x4 x12) fun x23=>
             Option.bind (K9 fuel x8 x23) fun x24=>
              some (.inl x24)
          else none
         else
          some (.inl x8)):Option ((List Int) ⊕ ((List y0)×y0×Bool))) fun q6=>match q6 with
       |
        .inl x21=>
        Option.bind (K9 fuel x21 [(W ((W (2*(gt x1 x7)))+1))]) fun x25=>
         some (.next (x6,(gt x1 x7),x25,x13))
       |.inr r1=>some (.done (.inr r1))
   else none
  else
   some (.done (.inl (x6,x8,x9)))
 else none
def e0d (fuel:Nat) (p0:(List C0)) (p1:Int):Option ((List y0)×y0×Bool):=
 Option.bind (c0n fuel p0) fun x1=>
 Option.bind (e0N fuel p0) fun x2=>
  Option.bind (b0p fuel p0) fun x3=>
   Option.bind (a0j fuel p0) fun x4=>
    Option.bind (b0t fuel p0) fun x5=>
     if B0 x5 p1 then
      Option.bind (iter (m0O fuel p0 x1 x2 x3 x4 x5 p1) fuel ((⟨(0:Int),(0:Int),[]⟩:y0),(gt x5 p1),[(W ((W (2*(gt x5 p1)))+1))],([]:List y0))) fun t1=>match t1 with
      |
       .inl (y1,y2,y3)=>
       some (y3,(⟨(-1),(0:Int),y2⟩:y0),true)
      |.inr r1=>some r1
     else none
def m0j (fuel:Nat) (p0:(List C0)) (p1:Int):Option (y0×Bool):=
 Option.bind ((
 if (decide (p1<(-1))) then
  some true
 else
  Option.bind (B6 fuel p0) fun x2=>
   if (!x2) then
    some true
   else
    Option.bind (b0t fuel p0) fun x3=>
     some (decide (p1>=(x3.length:Int)))):Option (Bool)) fun x1=>
 if x1 then
  some ((⟨(0:Int),(0:Int),[]⟩:y0),false)
 else
  if (p1==(-1)) then
   Option.bind (c0i fuel p0 (W ((p0.length:Int)-1))) fun x4=>
    if ((x4.length:Int)==0) then
     some ((⟨(0:Int),(0:Int),[]⟩:y0),false)
    else
     some ((⟨(-1),(0:Int),x4⟩:y0),true)
  else
   Option.bind (e0d fuel p0 p1) fun x5=>
    some (x5.2.1,x5.2.2)
def m0N (fuel:Nat) (p0:(List C0)) (p1:Int):Option ((List y0)):=
 Option.bind ((
 Option.bind (B6 fuel p0) fun x2=>
  if (!x2) then
   some true
  else
   if (decide (p1<0)) then
    some true
   else
    some (decide (p1>=(p0.length:Int)))):Option (Bool)) fun x1=>
 if x1 then
  some ([]:List y0)
 else
  Option.bind (b0p fuel p0) fun x3=>
   Option.bind (a0j fuel p0) fun x4=>
    Option.bind (O6 fuel fuel p0 x3 x4 p1 ([]:List Int)) fun x5=>
     some x5
