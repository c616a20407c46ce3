/- The structures of the program, and their codes. Its conditions: none. -/
import Derived.Test.YtdficaoajalfaaaGreatProg
import Derived.Test.YtdficaoajalfaaaGreatWX3
set_option linter.all false
namespace Go.Proofs.YtdficaoajalfaaaGreat
open Go.V Go.RowKit Go.X
structure D0 where
 Kind:Int
 A:Int
 B:Int
 N:Int
 Set:(List Int)
instance:Inhabited D0:=⟨⟨0,0,0,0,List.replicate 4 0⟩⟩
def j0n:Ty D0:=Z6 (fun x=>(x.Kind,x.A,x.B,x.N,x.Set,())) (V1 (X2 .i64) (V1 (X2 .i64) (V1 (X2 .i64) (V1 (X2 .i64) (V1 (m00 4 (X2 .u64)) F6)))))
structure b0G where
 From:Int
 To:Int
instance:Inhabited b0G:=⟨⟨0,0⟩⟩
def y0z:Ty b0G:=Z6 (fun x=>(x.From,x.To,())) (V1 (X2 .i64) (V1 (X2 .i64) F6))
structure f0a where
 Kind:Int
 N:Int
 B:Int
 Begin:Bool
instance:Inhabited f0a:=⟨⟨0,0,0,false⟩⟩
def G0L:Ty f0a:=Z6 (fun x=>(x.Kind,x.N,x.B,x.Begin,())) (V1 (X2 .i64) (V1 (X2 .i64) (V1 (X2 .u8) (V1 b0V F6))))
structure B0 where
 To:Int
 Turn:Int
 Steps:(List Int)
instance:Inhabited B0:=⟨⟨0,0,[]⟩⟩
def d0r:Ty B0:=Z6 (fun x=>(x.To,x.Turn,x.Steps,())) (V1 (X2 .i64) (V1 (X2 .i64) (V1 (H3 (X2 .i64)) F6)))
structure P2 where
 Kind:Int
 Group:Int
instance:Inhabited P2:=⟨⟨0,0⟩⟩
def o0x:Ty P2:=Z6 (fun x=>(x.Kind,x.Group,())) (V1 (X2 .i64) (V1 (X2 .i64) F6))
structure a00 where
 Hop:B0
 marks:(List P2)
instance:Inhabited a00:=⟨⟨default,[]⟩⟩
def f0P:Ty a00:=Z6 (fun x=>(x.Hop,x.marks,())) (V1 d0r (V1 (H3 o0x) F6))
structure c0U where
 l:(List D0)
 sets:(List (List Int))
 begin:(List a00)
 roads:(List (List a00))
 ends:(List a00)
 can:(List Bool)
 none:(List P2)
 null:Bool
 tags:Int
 ending:B0
instance:Inhabited c0U:=⟨⟨[],[],[],[],[],[],[],false,0,default⟩⟩
def t0Z:Ty c0U:=Z6 (fun x=>(x.l,x.sets,x.begin,x.roads,x.ends,x.can,x.none,x.null,x.tags,x.ending,())) (V1 (H3 j0n) (V1 (H3 (m00 4 (X2 .u64))) (V1 (H3 f0P) (V1 (H3 (H3 f0P)) (V1 (H3 f0P) (V1 (H3 b0V) (V1 (H3 o0x) (V1 b0V (V1 (X2 .i64) (V1 d0r F6))))))))))
structure E1 where
 B:(List (List Int))
 D:(List (List Int))
instance:Inhabited E1:=⟨⟨[],[]⟩⟩
def f03:Ty E1:=Z6 (fun x=>(x.B,x.D,())) (V1 (H3 (H3 (X2 .i64))) (V1 (H3 (H3 (X2 .i64))) F6))
structure b0Y where
 chart:c0U
 at_:Int
 work:Int
 places:(List Int)
 values:(List (List Int))
 rank:E1
instance:Inhabited b0Y:=⟨⟨default,0,0,[],[],default⟩⟩
def s0F:Ty b0Y:=Z6 (fun x=>(x.chart,x.at_,x.work,x.places,x.values,x.rank,())) (V1 (n07 t0Z) (V1 (X2 .i64) (V1 (X2 .i64) (V1 (H3 (X2 .i64)) (V1 (H3 (H3 (X2 .i64))) (V1 f03 F6))))))
structure T5 where
 L:(List D0)
 Leaves:(List Int)
 First:(List B0)
 Hops:(List (List B0))
 Ends:(List (List Int))
 At:Int
 Work:Int
 Places:(List Int)
 Tags:(List (List Int))
 Rank:E1
instance:Inhabited T5:=⟨⟨[],[],[],[],[],0,0,[],[],default⟩⟩
def r0W:Ty T5:=Z6 (fun x=>(x.L,x.Leaves,x.First,x.Hops,x.Ends,x.At,x.Work,x.Places,x.Tags,x.Rank,())) (V1 (H3 j0n) (V1 (H3 (X2 .i64)) (V1 (H3 d0r) (V1 (H3 (H3 d0r)) (V1 (H3 (H3 (X2 .i64))) (V1 (X2 .i64) (V1 (X2 .i64) (V1 (H3 (X2 .i64)) (V1 (H3 (H3 (X2 .i64))) (V1 f03 F6))))))))))
structure e0w where
 Crowd:b0Y
 tags:(List Int)
 to:Int
 is:Bool
instance:Inhabited e0w:=⟨⟨default,[],0,false⟩⟩
def E0T:Ty e0w:=Z6 (fun x=>(x.Crowd,x.tags,x.to,x.is,())) (V1 (n07 s0F) (V1 (H3 (X2 .i64)) (V1 (X2 .i64) (V1 b0V F6))))
structure M9 where
 Crowd:T5
 Tags:(List Int)
 To:Int
 Is:Bool
instance:Inhabited M9:=⟨⟨default,[],0,false⟩⟩
def I0D:Ty M9:=Z6 (fun x=>(x.Crowd,x.Tags,x.To,x.Is,())) (V1 r0W (V1 (H3 (X2 .i64)) (V1 (X2 .i64) (V1 b0V F6))))
structure N4 where
 Flag:Int
 Places:(List Int)
 Maps:(List (List Int))
 Rank:E1
instance:Inhabited N4:=⟨⟨0,[],[],default⟩⟩
def E0h:Ty N4:=Z6 (fun x=>(x.Flag,x.Places,x.Maps,x.Rank,())) (V1 (X2 .i64) (V1 (H3 (X2 .i64)) (V1 (H3 (H3 (X2 .i64))) (V1 f03 F6))))
structure g0m where
 Mode:Int
 B:Int
instance:Inhabited g0m:=⟨⟨0,0⟩⟩
def A0F:Ty g0m:=Z6 (fun x=>(x.Mode,x.B,())) (V1 (X2 .i64) (V1 (X2 .u8) F6))
structure e0Z where
 Depth:Int
 Node:Int
 From:Int
 To:Int
instance:Inhabited e0Z:=⟨⟨0,0,0,0⟩⟩
def B0t:Ty e0Z:=Z6 (fun x=>(x.Depth,x.Node,x.From,x.To,())) (V1 (X2 .i64) (V1 (X2 .i64) (V1 (X2 .i64) (V1 (X2 .i64) F6))))
structure f01 where
 values:(List (List Int))
 roads:(List (List a00))
 rank:E1
instance:Inhabited f01:=⟨⟨[],[],default⟩⟩
def I0m:Ty f01:=Z6 (fun x=>(x.values,x.roads,x.rank,())) (V1 (H3 (H3 (X2 .i64))) (V1 (H3 (H3 f0P)) (V1 f03 F6)))
structure e03 where
 from_:(List Int)
 roads:(List a00)
 hops:(List B0)
instance:Inhabited e03:=⟨⟨[],[],[]⟩⟩
def G0x:Ty e03:=Z6 (fun x=>(x.from_,x.roads,x.hops,())) (V1 (H3 (X2 .i64)) (V1 (H3 f0P) (V1 (H3 d0r) F6)))
structure f0Y where
 N:Int
 Can:(List (List Bool))
instance:Inhabited f0Y:=⟨⟨0,[]⟩⟩
def G06:Ty f0Y:=Z6 (fun x=>(x.N,x.Can,())) (V1 (X2 .i64) (V1 (H3 (H3 b0V)) F6))
structure O5 where
 tags:(List Int)
 ways:(List B0)
instance:Inhabited O5:=⟨⟨[],[]⟩⟩
def A0S:Ty O5:=Z6 (fun x=>(x.tags,x.ways,())) (V1 (H3 (X2 .i64)) (V1 (H3 d0r) F6))
structure a0y where
 Rank:E1
 from_:(List Int)
 hops:(List B0)
instance:Inhabited a0y:=⟨⟨default,[],[]⟩⟩
def C0k:Ty a0y:=Z6 (fun x=>(x.Rank,x.from_,x.hops,())) (V1 f03 (V1 (H3 (X2 .i64)) (V1 (H3 d0r) F6)))
structure X4 where
 l:(List D0)
 up:(List Int)
 deep:(List Int)
 index:(List Int)
 can:(List Bool)
instance:Inhabited X4:=⟨⟨[],[],[],[],[]⟩⟩
def A06:Ty X4:=Z6 (fun x=>(x.l,x.up,x.deep,x.index,x.can,())) (V1 (H3 j0n) (V1 (H3 (X2 .i64)) (V1 (H3 (X2 .i64)) (V1 (H3 (X2 .i64)) (V1 (H3 b0V) F6)))))
structure e0T where
 now:Int
instance:Inhabited e0T:=⟨⟨0⟩⟩
def C0y:Ty e0T:=Z6 (fun x=>(x.now,())) (V1 (X2 .i64) F6)
structure g0g where
 now:Int
instance:Inhabited g0g:=⟨⟨0⟩⟩
def F0I:Ty g0g:=Z6 (fun x=>(x.now,())) (V1 (X2 .i64) F6)
structure f0V where
 none:Int
instance:Inhabited f0V:=⟨⟨0⟩⟩
def E0U:Ty f0V:=Z6 (fun x=>(x.none,())) (V1 (X2 .i64) F6)
def enD:Nat->Type
 |0=>D0
 |1=>b0G
 |2=>f0a
 |3=>B0
 |4=>P2
 |5=>a00
 |6=>c0U
 |7=>E1
 |8=>b0Y
 |9=>T5
 |10=>e0w
 |11=>M9
 |12=>N4
 |13=>g0m
 |14=>e0Z
 |15=>f01
 |16=>e03
 |17=>f0Y
 |18=>O5
 |19=>a0y
 |20=>X4
 |21=>e0T
 |22=>g0g
 |23=>f0V
 |_=>Unit
def F0w:(i:Nat)->enD i
 |0=>(default:D0)
 |1=>(default:b0G)
 |2=>(default:f0a)
 |3=>(default:B0)
 |4=>(default:P2)
 |5=>(default:a00)
 |6=>(default:c0U)
 |7=>(default:E1)
 |8=>(default:b0Y)
 |9=>(default:T5)
 |10=>(default:e0w)
 |11=>(default:M9)
 |12=>(default:N4)
 |13=>(default:g0m)
 |14=>(default:e0Z)
 |15=>(default:f01)
 |16=>(default:e03)
 |17=>(default:f0Y)
 |18=>(default:O5)
 |19=>(default:a0y)
 |20=>(default:X4)
 |21=>(default:e0T)
 |22=>(default:g0g)
 |23=>(default:f0V)
 |_+24=>()
def q0l:Nat->List U
 |0=>[.int .i64,.int .i64,.int .i64,.int .i64,.arr 4 (.int .u64)]
 |1=>[.int .i64,.int .i64]
 |2=>[.int .i64,.int .i64,.int .u8,.bool]
 |3=>[.int .i64,.int .i64,.list (.int .i64)]
 |4=>[.int .i64,.int .i64]
 |5=>[.st 3,.list (.st 4)]
 |6=>[.list (.st 0),.list (.arr 4 (.int .u64)),.list (.st 5),.list (.list (.st 5)),.list (.st 5),.list .bool,.list (.st 4),.bool,.int .i64,.st 3]
 |7=>[.list (.list (.int .i64)),.list (.list (.int .i64))]
 |8=>[.ptr (.st 6),.int .i64,.int .i64,.list (.int .i64),.list (.list (.int .i64)),.st 7]
 |9=>[.list (.st 0),.list (.int .i64),.list (.st 3),.list (.list (.st 3)),.list (.list (.int .i64)),.int .i64,.int .i64,.list (.int .i64),.list (.list (.int .i64)),.st 7]
 |10=>[.ptr (.st 8),.list (.int .i64),.int .i64,.bool]
 |11=>[.st 9,.list (.int .i64),.int .i64,.bool]
 |12=>[.int .i64,.list (.int .i64),.list (.list (.int .i64)),.st 7]
 |13=>[.int .i64,.int .u8]
 |14=>[.int .i64,.int .i64,.int .i64,.int .i64]
 |15=>[.list (.list (.int .i64)),.list (.list (.st 5)),.st 7]
 |16=>[.list (.int .i64),.list (.st 5),.list (.st 3)]
 |17=>[.int .i64,.list (.list .bool)]
 |18=>[.list (.int .i64),.list (.st 3)]
 |19=>[.st 7,.list (.int .i64),.list (.st 3)]
 |20=>[.list (.st 0),.list (.int .i64),.list (.int .i64),.list (.int .i64),.list .bool]
 |21=>[.int .i64]
 |22=>[.int .i64]
 |23=>[.int .i64]
 |_=>[]
def w0M:(i:Nat)->enD i->HL enD (q0l i)
 |0,x=>let x:D0:=x;(x.Kind,x.A,x.B,x.N,x.Set,())
 |1,x=>let x:b0G:=x;(x.From,x.To,())
 |2,x=>let x:f0a:=x;(x.Kind,x.N,x.B,x.Begin,())
 |3,x=>let x:B0:=x;(x.To,x.Turn,x.Steps,())
 |4,x=>let x:P2:=x;(x.Kind,x.Group,())
 |5,x=>let x:a00:=x;(x.Hop,x.marks,())
 |6,x=>let x:c0U:=x;(x.l,x.sets,x.begin,x.roads,x.ends,x.can,x.none,x.null,x.tags,x.ending,())
 |7,x=>let x:E1:=x;(x.B,x.D,())
 |8,x=>let x:b0Y:=x;(x.chart,x.at_,x.work,x.places,x.values,x.rank,())
 |9,x=>let x:T5:=x;(x.L,x.Leaves,x.First,x.Hops,x.Ends,x.At,x.Work,x.Places,x.Tags,x.Rank,())
 |10,x=>let x:e0w:=x;(x.Crowd,x.tags,x.to,x.is,())
 |11,x=>let x:M9:=x;(x.Crowd,x.Tags,x.To,x.Is,())
 |12,x=>let x:N4:=x;(x.Flag,x.Places,x.Maps,x.Rank,())
 |13,x=>let x:g0m:=x;(x.Mode,x.B,())
 |14,x=>let x:e0Z:=x;(x.Depth,x.Node,x.From,x.To,())
 |15,x=>let x:f01:=x;(x.values,x.roads,x.rank,())
 |16,x=>let x:e03:=x;(x.from_,x.roads,x.hops,())
 |17,x=>let x:f0Y:=x;(x.N,x.Can,())
 |18,x=>let x:O5:=x;(x.tags,x.ways,())
 |19,x=>let x:a0y:=x;(x.Rank,x.from_,x.hops,())
 |20,x=>let x:X4:=x;(x.l,x.up,x.deep,x.index,x.can,())
 |21,x=>let x:e0T:=x;(x.now,())
 |22,x=>let x:g0g:=x;(x.now,())
 |23,x=>let x:f0V:=x;(x.none,())
 |_+24,_=>()
def z0J:(i:Nat)->HL enD (q0l i)->enD i
 |0,h=>(⟨h.1,h.2.1,h.2.2.1,h.2.2.2.1,h.2.2.2.2.1⟩:D0)
 |1,h=>(⟨h.1,h.2.1⟩:b0G)
 |2,h=>(⟨h.1,h.2.1,h.2.2.1,h.2.2.2.1⟩:f0a)
 |3,h=>(⟨h.1,h.2.1,h.2.2.1⟩:B0)
 |4,h=>(⟨h.1,h.2.1⟩:P2)
 |5,h=>(⟨h.1,h.2.1⟩:a00)
 |6,h=>(⟨h.1,h.2.1,h.2.2.1,h.2.2.2.1,h.2.2.2.2.1,h.2.2.2.2.2.1,h.2.2.2.2.2.2.1,h.2.2.2.2.2.2.2.1,h.2.2.2.2.2.2.2.2.1,h.2.2.2.2.2.2.2.2.2.1⟩:c0U)
 |7,h=>(⟨h.1,h.2.1⟩:E1)
 |8,h=>(⟨h.1,h.2.1,h.2.2.1,h.2.2.2.1,h.2.2.2.2.1,h.2.2.2.2.2.1⟩:b0Y)
 |9,h=>(⟨h.1,h.2.1,h.2.2.1,h.2.2.2.1,h.2.2.2.2.1,h.2.2.2.2.2.1,h.2.2.2.2.2.2.1,h.2.2.2.2.2.2.2.1,h.2.2.2.2.2.2.2.2.1,h.2.2.2.2.2.2.2.2.2.1⟩:T5)
 |10,h=>(⟨h.1,h.2.1,h.2.2.1,h.2.2.2.1⟩:e0w)
 |11,h=>(⟨h.1,h.2.1,h.2.2.1,h.2.2.2.1⟩:M9)
 |12,h=>(⟨h.1,h.2.1,h.2.2.1,h.2.2.2.1⟩:N4)
 |13,h=>(⟨h.1,h.2.1⟩:g0m)
 |14,h=>(⟨h.1,h.2.1,h.2.2.1,h.2.2.2.1⟩:e0Z)
 |15,h=>(⟨h.1,h.2.1,h.2.2.1⟩:f01)
 |16,h=>(⟨h.1,h.2.1,h.2.2.1⟩:e03)
 |17,h=>(⟨h.1,h.2.1⟩:f0Y)
 |18,h=>(⟨h.1,h.2.1⟩:O5)
 |19,h=>(⟨h.1,h.2.1,h.2.2.1⟩:a0y)
 |20,h=>(⟨h.1,h.2.1,h.2.2.1,h.2.2.2.1,h.2.2.2.2.1⟩:X4)
 |21,h=>(⟨h.1⟩:e0T)
 |22,h=>(⟨h.1⟩:g0g)
 |23,h=>(⟨h.1⟩:f0V)
 |_+24,_=>()
def D0n:(i:Nat)->Ty (enD i)
 |0=>j0n
 |1=>y0z
 |2=>G0L
 |3=>d0r
 |4=>o0x
 |5=>f0P
 |6=>t0Z
 |7=>f03
 |8=>s0F
 |9=>r0W
 |10=>E0T
 |11=>I0D
 |12=>E0h
 |13=>A0F
 |14=>B0t
 |15=>I0m
 |16=>G0x
 |17=>G06
 |18=>A0S
 |19=>C0k
 |20=>A06
 |21=>C0y
 |22=>F0I
 |23=>E0U
 |_+24=>F6
def enU:Nat->Option U:=fun t=>V4 ([(2,.int .i64),(3,.int .i64),(4,.bool),(5,.int .u8),(6,.int .u8),(9,.str),(10,.str),(11,.str),(12,.int .u64),(21,.int .i32),(22,.list (.st 0)),(23,.list (.int .u8)),(26,.list (.st 1)),(27,.int .i64),(36,.st 1),(38,.list (.st 2)),(39,.ptr (.st 8)),(42,.list .bool),(45,.st 2),(47,.list (.int .i64)),(49,.list (.list (.int .i64))),(52,.st 7),(56,.list (.st 3)),(57,.list (.list (.st 3))),(59,.st 9),(65,.ptr (.st 10)),(73,.st 11),(78,.st 10),(81,.st 12),(93,.st 13),(100,.list (.st 14)),(105,.ptr (.st 6)),(108,.st 8),(109,.list (.list (.st 5))),(111,.st 15),(113,.list (.st 5)),(115,.st 16),(116,.list (.st 16)),(121,.st 3),(122,.list (.st 4)),(124,.st 5),(127,.list (.arr 4 (.int .u64))),(129,.st 6),(143,.int .u64),(144,.arr 4 (.int .u64)),(145,.arr 4 (.int .u64)),(147,.st 0),(152,.list (.list .bool)),(154,.st 17),(164,.list (.st 18)),(171,.st 18),(177,.st 14),(185,.st 19),(188,.st 4),(193,.ptr (.int .i64)),(194,.ptr (.st 16)),(209,.ptr (.st 20)),(227,.st 21),(228,.st 22),(230,.st 23),(239,.st 20),(246,.int .u64),(250,.arr 10 .bool),(255,.int .i64),(262,.int .u32),(269,.int .u64),(274,.ptr (.int .u64)),(283,.int .u8),(284,.int .u8),(286,.ptr (.int .u8)),(287,.int .i32),(288,.int .i32)]:List (Nat×U)) t
noncomputable def en:Env:={ P:=Tryz.prog,D:=enD,inh:=F0w,fs:=q0l,un:=w0M,mkS:=z0J,ty:=D0n,uT:=enU }
