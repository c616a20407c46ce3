/- P. Its conditions: none. -/
import Derived.Test.YtdficaoajalfaaaGreatProg
import Derived.Test.YtdficaoajalfaaaGreatCX3
set_option linter.all false
namespace Go.Proofs.YtdficaoajalfaaaGreat
open Go.V Go.RowKit Go.X
structure C0 where
 Kind:Int
 A:Int
 B:Int
 N:Int
 Set:(List Int)
instance:Inhabited C0:=⟨⟨0,0,0,0,List.replicate 4 0⟩⟩
def j0R:Ty C0:=T6 (fun x=>(x.Kind,x.A,x.B,x.N,x.Set,())) (J1 (C2 .i64) (J1 (C2 .i64) (J1 (C2 .i64) (J1 (C2 .i64) (J1 (l0B 4 (C2 .u64)) G6)))))
structure G1 where
 From:Int
 To:Int
instance:Inhabited G1:=⟨⟨0,0⟩⟩
def A06:Ty G1:=T6 (fun x=>(x.From,x.To,())) (J1 (C2 .i64) (J1 (C2 .i64) G6))
structure e04 where
 Kind:Int
 N:Int
 B:Int
 Begin:Bool
instance:Inhabited e04:=⟨⟨0,0,0,false⟩⟩
def w06:Ty e04:=T6 (fun x=>(x.Kind,x.N,x.B,x.Begin,())) (J1 (C2 .i64) (J1 (C2 .i64) (J1 (C2 .u8) (J1 b0E G6))))
structure y0 where
 To:Int
 Turn:Int
 Steps:(List Int)
instance:Inhabited y0:=⟨⟨0,0,[]⟩⟩
def d0f:Ty y0:=T6 (fun x=>(x.To,x.Turn,x.Steps,())) (J1 (C2 .i64) (J1 (C2 .i64) (J1 (E3 (C2 .i64)) G6)))
structure G2 where
 Kind:Int
 Group:Int
instance:Inhabited G2:=⟨⟨0,0⟩⟩
def o0M:Ty G2:=T6 (fun x=>(x.Kind,x.Group,())) (J1 (C2 .i64) (J1 (C2 .i64) G6))
structure Q3 where
 Hop:y0
 marks:(List G2)
instance:Inhabited Q3:=⟨⟨default,[]⟩⟩
def f0X:Ty Q3:=T6 (fun x=>(x.Hop,x.marks,())) (J1 d0f (J1 (E3 o0M) G6))
structure c0c where
 l:(List C0)
 sets:(List (List Int))
 begin:(List Q3)
 roads:(List (List Q3))
 ends:(List Q3)
 can:(List Bool)
 none:(List G2)
 null:Bool
 tags:Int
 ending:y0
instance:Inhabited c0c:=⟨⟨[],[],[],[],[],[],[],false,0,default⟩⟩
def r0y:Ty c0c:=T6 (fun x=>(x.l,x.sets,x.begin,x.roads,x.ends,x.can,x.none,x.null,x.tags,x.ending,())) (J1 (E3 j0R) (J1 (E3 (l0B 4 (C2 .u64))) (J1 (E3 f0X) (J1 (E3 (E3 f0X)) (J1 (E3 f0X) (J1 (E3 b0E) (J1 (E3 o0M) (J1 b0E (J1 (C2 .i64) (J1 d0f G6))))))))))
structure T3 where
 B:(List (List Int))
 D:(List (List Int))
instance:Inhabited T3:=⟨⟨[],[]⟩⟩
def f0A:Ty T3:=T6 (fun x=>(x.B,x.D,())) (J1 (E3 (E3 (C2 .i64))) (J1 (E3 (E3 (C2 .i64))) G6))
structure N3 where
 chart:c0c
 at_:Int
 work:Int
 places:(List Int)
 values:(List (List Int))
 rank:T3
instance:Inhabited N3:=⟨⟨default,0,0,[],[],default⟩⟩
def t0A:Ty N3:=T6 (fun x=>(x.chart,x.at_,x.work,x.places,x.values,x.rank,())) (J1 (l08 r0y) (J1 (C2 .i64) (J1 (C2 .i64) (J1 (E3 (C2 .i64)) (J1 (E3 (E3 (C2 .i64))) (J1 f0A G6))))))
structure c0b where
 L:(List C0)
 Leaves:(List Int)
 First:(List y0)
 Hops:(List (List y0))
 Ends:(List (List Int))
 At:Int
 Work:Int
 Places:(List Int)
 Tags:(List (List Int))
 Rank:T3
instance:Inhabited c0b:=⟨⟨[],[],[],[],[],0,0,[],[],default⟩⟩
def u0a:Ty c0b:=T6 (fun x=>(x.L,x.Leaves,x.First,x.Hops,x.Ends,x.At,x.Work,x.Places,x.Tags,x.Rank,())) (J1 (E3 j0R) (J1 (E3 (C2 .i64)) (J1 (E3 d0f) (J1 (E3 (E3 d0f)) (J1 (E3 (E3 (C2 .i64))) (J1 (C2 .i64) (J1 (C2 .i64) (J1 (E3 (C2 .i64)) (J1 (E3 (E3 (C2 .i64))) (J1 f0A G6))))))))))
structure e0w where
 Crowd:N3
 tags:(List Int)
 to:Int
 is:Bool
instance:Inhabited e0w:=⟨⟨default,[],0,false⟩⟩
def v0U:Ty e0w:=T6 (fun x=>(x.Crowd,x.tags,x.to,x.is,())) (J1 (l08 t0A) (J1 (E3 (C2 .i64)) (J1 (C2 .i64) (J1 b0E G6))))
structure e0x where
 Crowd:c0b
 Tags:(List Int)
 To:Int
 Is:Bool
instance:Inhabited e0x:=⟨⟨default,[],0,false⟩⟩
def x0O:Ty e0x:=T6 (fun x=>(x.Crowd,x.Tags,x.To,x.Is,())) (J1 u0a (J1 (E3 (C2 .i64)) (J1 (C2 .i64) (J1 b0E G6))))
structure c00 where
 Flag:Int
 Places:(List Int)
 Maps:(List (List Int))
 Rank:T3
instance:Inhabited c00:=⟨⟨0,[],[],default⟩⟩
def C0y:Ty c00:=T6 (fun x=>(x.Flag,x.Places,x.Maps,x.Rank,())) (J1 (C2 .i64) (J1 (E3 (C2 .i64)) (J1 (E3 (E3 (C2 .i64))) (J1 f0A G6))))
structure f0I where
 Mode:Int
 B:Int
instance:Inhabited f0I:=⟨⟨0,0⟩⟩
def w0Y:Ty f0I:=T6 (fun x=>(x.Mode,x.B,())) (J1 (C2 .i64) (J1 (C2 .u8) G6))
structure Z1 where
 Depth:Int
 Node:Int
 From:Int
 To:Int
instance:Inhabited Z1:=⟨⟨0,0,0,0⟩⟩
def y0w:Ty Z1:=T6 (fun x=>(x.Depth,x.Node,x.From,x.To,())) (J1 (C2 .i64) (J1 (C2 .i64) (J1 (C2 .i64) (J1 (C2 .i64) G6))))
structure W8 where
 values:(List (List Int))
 roads:(List (List Q3))
 rank:T3
instance:Inhabited W8:=⟨⟨[],[],default⟩⟩
def x0w:Ty W8:=T6 (fun x=>(x.values,x.roads,x.rank,())) (J1 (E3 (E3 (C2 .i64))) (J1 (E3 (E3 f0X)) (J1 f0A G6)))
structure E7 where
 from_:(List Int)
 roads:(List Q3)
 hops:(List y0)
instance:Inhabited E7:=⟨⟨[],[],[]⟩⟩
def z0h:Ty E7:=T6 (fun x=>(x.from_,x.roads,x.hops,())) (J1 (E3 (C2 .i64)) (J1 (E3 f0X) (J1 (E3 d0f) G6)))
structure S7 where
 N:Int
 Can:(List (List Bool))
instance:Inhabited S7:=⟨⟨0,[]⟩⟩
def x09:Ty S7:=T6 (fun x=>(x.N,x.Can,())) (J1 (C2 .i64) (J1 (E3 (E3 b0E)) G6))
structure f0C where
 tags:(List Int)
 ways:(List y0)
instance:Inhabited f0C:=⟨⟨[],[]⟩⟩
def F0i:Ty f0C:=T6 (fun x=>(x.tags,x.ways,())) (J1 (E3 (C2 .i64)) (J1 (E3 d0f) G6))
structure a0Q where
 Rank:T3
 from_:(List Int)
 hops:(List y0)
instance:Inhabited a0Q:=⟨⟨default,[],[]⟩⟩
def E0L:Ty a0Q:=T6 (fun x=>(x.Rank,x.from_,x.hops,())) (J1 f0A (J1 (E3 (C2 .i64)) (J1 (E3 d0f) G6)))
structure U4 where
 l:(List C0)
 up:(List Int)
 deep:(List Int)
 index:(List Int)
 can:(List Bool)
instance:Inhabited U4:=⟨⟨[],[],[],[],[]⟩⟩
def E0K:Ty U4:=T6 (fun x=>(x.l,x.up,x.deep,x.index,x.can,())) (J1 (E3 j0R) (J1 (E3 (C2 .i64)) (J1 (E3 (C2 .i64)) (J1 (E3 (C2 .i64)) (J1 (E3 b0E) G6)))))
structure f0D where
 now:Int
instance:Inhabited f0D:=⟨⟨0⟩⟩
def B0b:Ty f0D:=T6 (fun x=>(x.now,())) (J1 (C2 .i64) G6)
structure e00 where
 now:Int
instance:Inhabited e00:=⟨⟨0⟩⟩
def v0A:Ty e00:=T6 (fun x=>(x.now,())) (J1 (C2 .i64) G6)
structure f0v where
 none:Int
instance:Inhabited f0v:=⟨⟨0⟩⟩
def v0J:Ty f0v:=T6 (fun x=>(x.none,())) (J1 (C2 .i64) G6)
def enD:Nat->Type
 |0=>C0
 |1=>G1
 |2=>e04
 |3=>y0
 |4=>G2
 |5=>Q3
 |6=>c0c
 |7=>T3
 |8=>N3
 |9=>c0b
 |10=>e0w
 |11=>e0x
 |12=>c00
 |13=>f0I
 |14=>Z1
 |15=>W8
 |16=>E7
 |17=>S7
 |18=>f0C
 |19=>a0Q
 |20=>U4
 |21=>f0D
 |22=>e00
 |23=>f0v
 |_=>Unit
def A0q:(i:Nat)->enD i
 |0=>(default:C0)
 |1=>(default:G1)
 |2=>(default:e04)
 |3=>(default:y0)
 |4=>(default:G2)
 |5=>(default:Q3)
 |6=>(default:c0c)
 |7=>(default:T3)
 |8=>(default:N3)
 |9=>(default:c0b)
 |10=>(default:e0w)
 |11=>(default:e0x)
 |12=>(default:c00)
 |13=>(default:f0I)
 |14=>(default:Z1)
 |15=>(default:W8)
 |16=>(default:E7)
 |17=>(default:S7)
 |18=>(default:f0C)
 |19=>(default:a0Q)
 |20=>(default:U4)
 |21=>(default:f0D)
 |22=>(default:e00)
 |23=>(default:f0v)
 |_+24=>()
def o0Y:Nat->List U
 |0=>[.int .i64,.int .i64,.int .i64,.int .i64,.arr 4 (.int .u64)]
 |1=>[.int .i64,.int .i64]
 |2=>[.int .i64,.int .i64,.int .u8,.bool]
 |3=>[.int .i64,.int .i64,.list (.int .i64)]
 |4=>[.int .i64,.int .i64]
 |5=>[.st 3,.list (.st 4)]
 |6=>[.list (.st 0),.list (.arr 4 (.int .u64)),.list (.st 5),.list (.list (.st 5)),.list (.st 5),.list .bool,.list (.st 4),.bool,.int .i64,.st 3]
 |7=>[.list (.list (.int .i64)),.list (.list (.int .i64))]
 |8=>[.ptr (.st 6),.int .i64,.int .i64,.list (.int .i64),.list (.list (.int .i64)),.st 7]
 |9=>[.list (.st 0),.list (.int .i64),.list (.st 3),.list (.list (.st 3)),.list (.list (.int .i64)),.int .i64,.int .i64,.list (.int .i64),.list (.list (.int .i64)),.st 7]
 |10=>[.ptr (.st 8),.list (.int .i64),.int .i64,.bool]
 |11=>[.st 9,.list (.int .i64),.int .i64,.bool]
 |12=>[.int .i64,.list (.int .i64),.list (.list (.int .i64)),.st 7]
 |13=>[.int .i64,.int .u8]
 |14=>[.int .i64,.int .i64,.int .i64,.int .i64]
 |15=>[.list (.list (.int .i64)),.list (.list (.st 5)),.st 7]
 |16=>[.list (.int .i64),.list (.st 5),.list (.st 3)]
 |17=>[.int .i64,.list (.list .bool)]
 |18=>[.list (.int .i64),.list (.st 3)]
 |19=>[.st 7,.list (.int .i64),.list (.st 3)]
 |20=>[.list (.st 0),.list (.int .i64),.list (.int .i64),.list (.int .i64),.list .bool]
 |21=>[.int .i64]
 |22=>[.int .i64]
 |23=>[.int .i64]
 |_=>[]
def v0k:(i:Nat)->enD i->HL enD (o0Y i)
 |0,x=>let x:C0:=x;(x.Kind,x.A,x.B,x.N,x.Set,())
 |1,x=>let x:G1:=x;(x.From,x.To,())
 |2,x=>let x:e04:=x;(x.Kind,x.N,x.B,x.Begin,())
 |3,x=>let x:y0:=x;(x.To,x.Turn,x.Steps,())
 |4,x=>let x:G2:=x;(x.Kind,x.Group,())
 |5,x=>let x:Q3:=x;(x.Hop,x.marks,())
 |6,x=>let x:c0c:=x;(x.l,x.sets,x.begin,x.roads,x.ends,x.can,x.none,x.null,x.tags,x.ending,())
 |7,x=>let x:T3:=x;(x.B,x.D,())
 |8,x=>let x:N3:=x;(x.chart,x.at_,x.work,x.places,x.values,x.rank,())
 |9,x=>let x:c0b:=x;(x.L,x.Leaves,x.First,x.Hops,x.Ends,x.At,x.Work,x.Places,x.Tags,x.Rank,())
 |10,x=>let x:e0w:=x;(x.Crowd,x.tags,x.to,x.is,())
 |11,x=>let x:e0x:=x;(x.Crowd,x.Tags,x.To,x.Is,())
 |12,x=>let x:c00:=x;(x.Flag,x.Places,x.Maps,x.Rank,())
 |13,x=>let x:f0I:=x;(x.Mode,x.B,())
 |14,x=>let x:Z1:=x;(x.Depth,x.Node,x.From,x.To,())
 |15,x=>let x:W8:=x;(x.values,x.roads,x.rank,())
 |16,x=>let x:E7:=x;(x.from_,x.roads,x.hops,())
 |17,x=>let x:S7:=x;(x.N,x.Can,())
 |18,x=>let x:f0C:=x;(x.tags,x.ways,())
 |19,x=>let x:a0Q:=x;(x.Rank,x.from_,x.hops,())
 |20,x=>let x:U4:=x;(x.l,x.up,x.deep,x.index,x.can,())
 |21,x=>let x:f0D:=x;(x.now,())
 |22,x=>let x:e00:=x;(x.now,())
 |23,x=>let x:f0v:=x;(x.none,())
 |_+24,_=>()
def A0K:(i:Nat)->HL enD (o0Y i)->enD i
 |0,h=>(⟨h.1,h.2.1,h.2.2.1,h.2.2.2.1,h.2.2.2.2.1⟩:C0)
 |1,h=>(⟨h.1,h.2.1⟩:G1)
 |2,h=>(⟨h.1,h.2.1,h.2.2.1,h.2.2.2.1⟩:e04)
 |3,h=>(⟨h.1,h.2.1,h.2.2.1⟩:y0)
 |4,h=>(⟨h.1,h.2.1⟩:G2)
 |5,h=>(⟨h.1,h.2.1⟩:Q3)
 |6,h=>(⟨h.1,h.2.1,h.2.2.1,h.2.2.2.1,h.2.2.2.2.1,h.2.2.2.2.2.1,h.2.2.2.2.2.2.1,h.2.2.2.2.2.2.2.1,h.2.2.2.2.2.2.2.2.1,h.2.2.2.2.2.2.2.2.2.1⟩:c0c)
 |7,h=>(⟨h.1,h.2.1⟩:T3)
 |8,h=>(⟨h.1,h.2.1,h.2.2.1,h.2.2.2.1,h.2.2.2.2.1,h.2.2.2.2.2.1⟩:N3)
 |9,h=>(⟨h.1,h.2.1,h.2.2.1,h.2.2.2.1,h.2.2.2.2.1,h.2.2.2.2.2.1,h.2.2.2.2.2.2.1,h.2.2.2.2.2.2.2.1,h.2.2.2.2.2.2.2.2.1,h.2.2.2.2.2.2.2.2.2.1⟩:c0b)
 |10,h=>(⟨h.1,h.2.1,h.2.2.1,h.2.2.2.1⟩:e0w)
 |11,h=>(⟨h.1,h.2.1,h.2.2.1,h.2.2.2.1⟩:e0x)
 |12,h=>(⟨h.1,h.2.1,h.2.2.1,h.2.2.2.1⟩:c00)
 |13,h=>(⟨h.1,h.2.1⟩:f0I)
 |14,h=>(⟨h.1,h.2.1,h.2.2.1,h.2.2.2.1⟩:Z1)
 |15,h=>(⟨h.1,h.2.1,h.2.2.1⟩:W8)
 |16,h=>(⟨h.1,h.2.1,h.2.2.1⟩:E7)
 |17,h=>(⟨h.1,h.2.1⟩:S7)
 |18,h=>(⟨h.1,h.2.1⟩:f0C)
 |19,h=>(⟨h.1,h.2.1,h.2.2.1⟩:a0Q)
 |20,h=>(⟨h.1,h.2.1,h.2.2.1,h.2.2.2.1,h.2.2.2.2.1⟩:U4)
 |21,h=>(⟨h.1⟩:f0D)
 |22,h=>(⟨h.1⟩:e00)
 |23,h=>(⟨h.1⟩:f0v)
 |_+24,_=>()
def B0E:(i:Nat)->Ty (enD i)
 |0=>j0R
 |1=>A06
 |2=>w06
 |3=>d0f
 |4=>o0M
 |5=>f0X
 |6=>r0y
 |7=>f0A
 |8=>t0A
 |9=>u0a
 |10=>v0U
 |11=>x0O
 |12=>C0y
 |13=>w0Y
 |14=>y0w
 |15=>x0w
 |16=>z0h
 |17=>x09
 |18=>F0i
 |19=>E0L
 |20=>E0K
 |21=>B0b
 |22=>v0A
 |23=>v0J
 |_+24=>G6
def enU:Nat->Option U:=fun t=>Q4 ([(2,.int .i64),(3,.int .i64),(4,.bool),(5,.int .u8),(6,.int .u8),(9,.str),(10,.str),(11,.str),(12,.int .u64),(21,.int .i32),(22,.list (.st 0)),(23,.list (.int .u8)),(26,.list (.st 1)),(27,.int .i64),(36,.st 1),(38,.list (.st 2)),(39,.ptr (.st 8)),(42,.list .bool),(45,.st 2),(47,.list (.int .i64)),(49,.list (.list (.int .i64))),(52,.st 7),(56,.list (.st 3)),(57,.list (.list (.st 3))),(59,.st 9),(65,.ptr (.st 10)),(73,.st 11),(78,.st 10),(81,.st 12),(93,.st 13),(100,.list (.st 14)),(105,.ptr (.st 6)),(108,.st 8),(109,.list (.list (.st 5))),(111,.st 15),(113,.list (.st 5)),(115,.st 16),(116,.list (.st 16)),(121,.st 3),(122,.list (.st 4)),(124,.st 5),(127,.list (.arr 4 (.int .u64))),(129,.st 6),(143,.int .u64),(144,.arr 4 (.int .u64)),(145,.arr 4 (.int .u64)),(147,.st 0),(152,.list (.list .bool)),(154,.st 17),(164,.list (.st 18)),(171,.st 18),(177,.st 14),(185,.st 19),(188,.st 4),(193,.ptr (.int .i64)),(194,.ptr (.st 16)),(209,.ptr (.st 20)),(227,.st 21),(228,.st 22),(230,.st 23),(239,.st 20),(246,.int .u64),(250,.arr 10 .bool),(255,.int .i64),(262,.int .u32),(269,.int .u64),(274,.ptr (.int .u64)),(283,.int .u8),(284,.int .u8),(286,.ptr (.int .u8)),(287,.int .i32),(288,.int .i32)]:List (Nat×U)) t
noncomputable def en:Env:={ P:=Tryz.prog,D:=enD,inh:=A0q,fs:=o0Y,un:=v0k,mkS:=A0K,ty:=B0E,uT:=enU }
