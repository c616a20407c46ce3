/- P. Its conditions: none. -/
import Derived.Test.YtihmgaccbcfgjaaGreatProg
import Derived.Test.YtihmgaccbcfgjaaGreatRX3
set_option linter.all false
namespace Go.Proofs.YtihmgaccbcfgjaaGreat
open Go.V Go.RowKit Go.X
structure H4 where
 To:Int
 Src:(List Int)
instance:Inhabited H4:=⟨⟨0,[]⟩⟩
def c0w:Ty H4:=r7 (fun x=>(x.To,x.Src,())) (I2 (P1 .i64) (I2 (O4 (P1 .i64)) R6))
structure L3 where
 Regs:Int
 Accept:(List Int)
 Edges:(List H4)
instance:Inhabited L3:=⟨⟨0,[],[]⟩⟩
def a0W:Ty L3:=r7 (fun x=>(x.Regs,x.Accept,x.Edges,())) (I2 (P1 .i64) (I2 (O4 (P1 .i64)) (I2 (O4 c0w) R6)))
structure Y1 where
 Tags:Int
 Class:(List Int)
 States:(List L3)
instance:Inhabited Y1:=⟨⟨0,[],[]⟩⟩
def i0k:Ty Y1:=r7 (fun x=>(x.Tags,x.Class,x.States,())) (I2 (P1 .i64) (I2 (O4 (P1 .i64)) (I2 (O4 a0W) R6)))
structure C0 where
 Kind:Int
 A:Int
 B:Int
 N:Int
 Set:(List Int)
instance:Inhabited C0:=⟨⟨0,0,0,0,List.replicate 4 0⟩⟩
def r05:Ty C0:=r7 (fun x=>(x.Kind,x.A,x.B,x.N,x.Set,())) (I2 (P1 .i64) (I2 (P1 .i64) (I2 (P1 .i64) (I2 (P1 .i64) (I2 (s0G 4 (P1 .u64)) R6)))))
structure g0c where
 Mode:Int
 Budget:Int
instance:Inhabited g0c:=⟨⟨0,0⟩⟩
def x0E:Ty g0c:=r7 (fun x=>(x.Mode,x.Budget,())) (I2 (P1 .i64) (I2 (P1 .i64) R6))
structure D2 where
 B:(List (List Int))
 D:(List (List Int))
instance:Inhabited D2:=⟨⟨[],[]⟩⟩
def m04:Ty D2:=r7 (fun x=>(x.B,x.D,())) (I2 (O4 (O4 (P1 .i64))) (I2 (O4 (O4 (P1 .i64))) R6))
structure F1 where
 Flag:Int
 Places:(List Int)
 Maps:(List (List Int))
 Rank:D2
instance:Inhabited F1:=⟨⟨0,[],[],default⟩⟩
def F0l:Ty F1:=r7 (fun x=>(x.Flag,x.Places,x.Maps,x.Rank,())) (I2 (P1 .i64) (I2 (O4 (P1 .i64)) (I2 (O4 (O4 (P1 .i64))) (I2 m04 R6))))
structure g0p where
 From:Int
 To:Int
instance:Inhabited g0p:=⟨⟨0,0⟩⟩
def z0f:Ty g0p:=r7 (fun x=>(x.From,x.To,())) (I2 (P1 .i64) (I2 (P1 .i64) R6))
structure e0A where
 tags:(List Int)
 to:Int
instance:Inhabited e0A:=⟨⟨[],0⟩⟩
def s0h:Ty e0A:=r7 (fun x=>(x.tags,x.to,())) (I2 (O4 (P1 .i64)) (I2 (P1 .i64) R6))
structure f0L where
 last:e0A
 d:Y1
 at_:Int
 state:Int
 work:Int
 regs:(List Int)
instance:Inhabited f0L:=⟨⟨default,default,0,0,0,[]⟩⟩
def C0u:Ty f0L:=r7 (fun x=>(x.last,x.d,x.at_,x.state,x.work,x.regs,())) (I2 s0h (I2 i0k (I2 (P1 .i64) (I2 (P1 .i64) (I2 (P1 .i64) (I2 (O4 (P1 .i64)) R6))))))
structure g0t where
 D:Y1
 At:Int
 State:Int
 Regs:(List Int)
 Tags:(List Int)
 To:Int
 Is:Bool
 Work:Int
instance:Inhabited g0t:=⟨⟨default,0,0,[],[],0,false,0⟩⟩
def E0d:Ty g0t:=r7 (fun x=>(x.D,x.At,x.State,x.Regs,x.Tags,x.To,x.Is,x.Work,())) (I2 i0k (I2 (P1 .i64) (I2 (P1 .i64) (I2 (O4 (P1 .i64)) (I2 (O4 (P1 .i64)) (I2 (P1 .i64) (I2 l8 (I2 (P1 .i64) R6))))))))
structure B0 where
 To:Int
 Turn:Int
 Steps:(List Int)
instance:Inhabited B0:=⟨⟨0,0,[]⟩⟩
def o0V:Ty B0:=r7 (fun x=>(x.To,x.Turn,x.Steps,())) (I2 (P1 .i64) (I2 (P1 .i64) (I2 (O4 (P1 .i64)) R6)))
structure J2 where
 Kind:Int
 Group:Int
instance:Inhabited J2:=⟨⟨0,0⟩⟩
def I09:Ty J2:=r7 (fun x=>(x.Kind,x.Group,())) (I2 (P1 .i64) (I2 (P1 .i64) R6))
structure f0r where
 N:Int
 Can:(List (List Bool))
instance:Inhabited f0r:=⟨⟨0,[]⟩⟩
def B0R:Ty f0r:=r7 (fun x=>(x.N,x.Can,())) (I2 (P1 .i64) (I2 (O4 (O4 l8)) R6))
structure g0A where
 Depth:Int
 Node:Int
 From:Int
 To:Int
instance:Inhabited g0A:=⟨⟨0,0,0,0⟩⟩
def z0u:Ty g0A:=r7 (fun x=>(x.Depth,x.Node,x.From,x.To,())) (I2 (P1 .i64) (I2 (P1 .i64) (I2 (P1 .i64) (I2 (P1 .i64) R6))))
structure L4 where
 l:(List C0)
 up:(List Int)
 deep:(List Int)
 index:(List Int)
 can:(List Bool)
instance:Inhabited L4:=⟨⟨[],[],[],[],[]⟩⟩
def I0A:Ty L4:=r7 (fun x=>(x.l,x.up,x.deep,x.index,x.can,())) (I2 (O4 r05) (I2 (O4 (P1 .i64)) (I2 (O4 (P1 .i64)) (I2 (O4 (P1 .i64)) (I2 (O4 l8) R6)))))
structure G5 where
 tags:(List Int)
 ways:(List B0)
instance:Inhabited G5:=⟨⟨[],[]⟩⟩
def H0Q:Ty G5:=r7 (fun x=>(x.tags,x.ways,())) (I2 (O4 (P1 .i64)) (I2 (O4 o0V) R6))
structure g0s where
 now:Int
instance:Inhabited g0s:=⟨⟨0⟩⟩
def B0d:Ty g0s:=r7 (fun x=>(x.now,())) (I2 (P1 .i64) R6)
structure f0V where
 now:Int
instance:Inhabited f0V:=⟨⟨0⟩⟩
def D02:Ty f0V:=r7 (fun x=>(x.now,())) (I2 (P1 .i64) R6)
structure g0B where
 none:Int
instance:Inhabited g0B:=⟨⟨0⟩⟩
def H0R:Ty g0B:=r7 (fun x=>(x.none,())) (I2 (P1 .i64) R6)
structure b0o where
 Rank:D2
 from_:(List Int)
 hops:(List B0)
instance:Inhabited b0o:=⟨⟨default,[],[]⟩⟩
def H0y:Ty b0o:=r7 (fun x=>(x.Rank,x.from_,x.hops,())) (I2 m04 (I2 (O4 (P1 .i64)) (I2 (O4 o0V) R6)))
def enD:Nat->Type
 |0=>H4
 |1=>L3
 |2=>Y1
 |3=>C0
 |4=>g0c
 |5=>D2
 |6=>F1
 |7=>g0p
 |8=>e0A
 |9=>f0L
 |10=>g0t
 |11=>B0
 |12=>J2
 |13=>f0r
 |14=>g0A
 |15=>L4
 |16=>G5
 |17=>g0s
 |18=>f0V
 |19=>g0B
 |20=>b0o
 |_=>Unit
def C0h:(i:Nat)->enD i
 |0=>(default:H4)
 |1=>(default:L3)
 |2=>(default:Y1)
 |3=>(default:C0)
 |4=>(default:g0c)
 |5=>(default:D2)
 |6=>(default:F1)
 |7=>(default:g0p)
 |8=>(default:e0A)
 |9=>(default:f0L)
 |10=>(default:g0t)
 |11=>(default:B0)
 |12=>(default:J2)
 |13=>(default:f0r)
 |14=>(default:g0A)
 |15=>(default:L4)
 |16=>(default:G5)
 |17=>(default:g0s)
 |18=>(default:f0V)
 |19=>(default:g0B)
 |20=>(default:b0o)
 |_+21=>()
def m0l:Nat->List U
 |0=>[.int .i64,.list (.int .i64)]
 |1=>[.int .i64,.list (.int .i64),.list (.st 0)]
 |2=>[.int .i64,.list (.int .i64),.list (.st 1)]
 |3=>[.int .i64,.int .i64,.int .i64,.int .i64,.arr 4 (.int .u64)]
 |4=>[.int .i64,.int .i64]
 |5=>[.list (.list (.int .i64)),.list (.list (.int .i64))]
 |6=>[.int .i64,.list (.int .i64),.list (.list (.int .i64)),.st 5]
 |7=>[.int .i64,.int .i64]
 |8=>[.list (.int .i64),.int .i64]
 |9=>[.st 8,.st 2,.int .i64,.int .i64,.int .i64,.list (.int .i64)]
 |10=>[.st 2,.int .i64,.int .i64,.list (.int .i64),.list (.int .i64),.int .i64,.bool,.int .i64]
 |11=>[.int .i64,.int .i64,.list (.int .i64)]
 |12=>[.int .i64,.int .i64]
 |13=>[.int .i64,.list (.list .bool)]
 |14=>[.int .i64,.int .i64,.int .i64,.int .i64]
 |15=>[.list (.st 3),.list (.int .i64),.list (.int .i64),.list (.int .i64),.list .bool]
 |16=>[.list (.int .i64),.list (.st 11)]
 |17=>[.int .i64]
 |18=>[.int .i64]
 |19=>[.int .i64]
 |20=>[.st 5,.list (.int .i64),.list (.st 11)]
 |_=>[]
def I03:(i:Nat)->enD i->HL enD (m0l i)
 |0,x=>let x:H4:=x;(x.To,x.Src,())
 |1,x=>let x:L3:=x;(x.Regs,x.Accept,x.Edges,())
 |2,x=>let x:Y1:=x;(x.Tags,x.Class,x.States,())
 |3,x=>let x:C0:=x;(x.Kind,x.A,x.B,x.N,x.Set,())
 |4,x=>let x:g0c:=x;(x.Mode,x.Budget,())
 |5,x=>let x:D2:=x;(x.B,x.D,())
 |6,x=>let x:F1:=x;(x.Flag,x.Places,x.Maps,x.Rank,())
 |7,x=>let x:g0p:=x;(x.From,x.To,())
 |8,x=>let x:e0A:=x;(x.tags,x.to,())
 |9,x=>let x:f0L:=x;(x.last,x.d,x.at_,x.state,x.work,x.regs,())
 |10,x=>let x:g0t:=x;(x.D,x.At,x.State,x.Regs,x.Tags,x.To,x.Is,x.Work,())
 |11,x=>let x:B0:=x;(x.To,x.Turn,x.Steps,())
 |12,x=>let x:J2:=x;(x.Kind,x.Group,())
 |13,x=>let x:f0r:=x;(x.N,x.Can,())
 |14,x=>let x:g0A:=x;(x.Depth,x.Node,x.From,x.To,())
 |15,x=>let x:L4:=x;(x.l,x.up,x.deep,x.index,x.can,())
 |16,x=>let x:G5:=x;(x.tags,x.ways,())
 |17,x=>let x:g0s:=x;(x.now,())
 |18,x=>let x:f0V:=x;(x.now,())
 |19,x=>let x:g0B:=x;(x.none,())
 |20,x=>let x:b0o:=x;(x.Rank,x.from_,x.hops,())
 |_+21,_=>()
def z0C:(i:Nat)->HL enD (m0l i)->enD i
 |0,h=>(⟨h.1,h.2.1⟩:H4)
 |1,h=>(⟨h.1,h.2.1,h.2.2.1⟩:L3)
 |2,h=>(⟨h.1,h.2.1,h.2.2.1⟩:Y1)
 |3,h=>(⟨h.1,h.2.1,h.2.2.1,h.2.2.2.1,h.2.2.2.2.1⟩:C0)
 |4,h=>(⟨h.1,h.2.1⟩:g0c)
 |5,h=>(⟨h.1,h.2.1⟩:D2)
 |6,h=>(⟨h.1,h.2.1,h.2.2.1,h.2.2.2.1⟩:F1)
 |7,h=>(⟨h.1,h.2.1⟩:g0p)
 |8,h=>(⟨h.1,h.2.1⟩:e0A)
 |9,h=>(⟨h.1,h.2.1,h.2.2.1,h.2.2.2.1,h.2.2.2.2.1,h.2.2.2.2.2.1⟩:f0L)
 |10,h=>(⟨h.1,h.2.1,h.2.2.1,h.2.2.2.1,h.2.2.2.2.1,h.2.2.2.2.2.1,h.2.2.2.2.2.2.1,h.2.2.2.2.2.2.2.1⟩:g0t)
 |11,h=>(⟨h.1,h.2.1,h.2.2.1⟩:B0)
 |12,h=>(⟨h.1,h.2.1⟩:J2)
 |13,h=>(⟨h.1,h.2.1⟩:f0r)
 |14,h=>(⟨h.1,h.2.1,h.2.2.1,h.2.2.2.1⟩:g0A)
 |15,h=>(⟨h.1,h.2.1,h.2.2.1,h.2.2.2.1,h.2.2.2.2.1⟩:L4)
 |16,h=>(⟨h.1,h.2.1⟩:G5)
 |17,h=>(⟨h.1⟩:g0s)
 |18,h=>(⟨h.1⟩:f0V)
 |19,h=>(⟨h.1⟩:g0B)
 |20,h=>(⟨h.1,h.2.1,h.2.2.1⟩:b0o)
 |_+21,_=>()
def F0h:(i:Nat)->Ty (enD i)
 |0=>c0w
 |1=>a0W
 |2=>i0k
 |3=>r05
 |4=>x0E
 |5=>m04
 |6=>F0l
 |7=>z0f
 |8=>s0h
 |9=>C0u
 |10=>E0d
 |11=>o0V
 |12=>I09
 |13=>B0R
 |14=>z0u
 |15=>I0A
 |16=>H0Q
 |17=>B0d
 |18=>D02
 |19=>H0R
 |20=>H0y
 |_+21=>R6
def enU:Nat->Option U:=fun t=>F4 ([(2,.int .i64),(3,.int .i64),(4,.bool),(5,.int .u8),(6,.int .u8),(9,.str),(10,.str),(11,.str),(12,.int .u64),(21,.int .i32),(22,.list (.int .i64)),(23,.list (.st 1)),(25,.st 2),(28,.list .bool),(31,.list (.st 3)),(33,.st 4),(34,.int .i64),(40,.arr 2 (.int .u8)),(43,.list (.int .u8)),(44,.list (.list (.int .i64))),(46,.st 5),(48,.st 6),(51,.list (.st 0)),(53,.st 1),(57,.st 0),(61,.list (.st 7)),(70,.ptr (.st 9)),(79,.st 10),(84,.st 8),(86,.st 9),(103,.list (.st 6)),(116,.st 11),(120,.list (.st 12)),(122,.list (.list (.st 11))),(123,.list (.st 11)),(128,.int .u64),(129,.arr 4 (.int .u64)),(130,.arr 4 (.int .u64)),(132,.st 3),(138,.st 7),(143,.list (.list .bool)),(145,.st 13),(149,.list (.st 14)),(156,.ptr (.st 8)),(163,.list (.arr 4 (.int .u64))),(184,.st 12),(195,.st 14),(219,.arr 10 .bool),(222,.ptr (.st 15)),(231,.ptr (.int .i64)),(233,.list (.st 16)),(239,.st 16),(240,.ptr (.int .u8)),(246,.st 15),(250,.st 17),(251,.st 18),(253,.st 19),(257,.st 20),(266,.int .u64),(273,.int .u32),(284,.int .i64),(292,.int .u64),(297,.ptr (.int .u64)),(305,.int .u8),(306,.int .u8),(308,.int .i32),(309,.int .i32)]:List (Nat×U)) t
noncomputable def en:Env:={ P:=Tryz.prog,D:=enD,inh:=C0h,fs:=m0l,un:=I03,mkS:=z0C,ty:=F0h,uT:=enU }
