/- P. Its conditions: none. -/
import Derived.Test.YtmhooikfkhjijaaGreatProg
import Derived.Test.YtmhooikfkhjijaaGreatYX3
set_option linter.all false
namespace Go.Proofs.YtmhooikfkhjijaaGreat
open Go.V Go.RowKit Go.X
structure C0 where
 Kind:Int
 A:Int
 B:Int
 N:Int
 Set:(List Int)
instance:Inhabited C0:=⟨⟨0,0,0,0,List.replicate 4 0⟩⟩
def j0R:Ty C0:=T6 (fun x=>(x.Kind,x.A,x.B,x.N,x.Set,())) (J1 (C2 .i64) (J1 (C2 .i64) (J1 (C2 .i64) (J1 (C2 .i64) (J1 (l0B 4 (C2 .u64)) G6)))))
structure b0k where
 To:Int
 From:Int
instance:Inhabited b0k:=⟨⟨0,0⟩⟩
def N0t:Ty b0k:=T6 (fun x=>(x.To,x.From,())) (J1 (C2 .i64) (J1 (C2 .i64) G6))
structure a08 where
 To:Int
 Moves:(List b0k)
instance:Inhabited a08:=⟨⟨0,[]⟩⟩
def N0A:Ty a08:=T6 (fun x=>(x.To,x.Moves,())) (J1 (C2 .i64) (J1 (E3 N0t) G6))
structure b0B where
 Accept:(List Int)
 j8:(List a08)
instance:Inhabited b0B:=⟨⟨[],[]⟩⟩
def N04:Ty b0B:=T6 (fun x=>(x.Accept,x.j8,())) (J1 (E3 (C2 .i64)) (J1 (E3 N0A) G6))
structure a0c where
 Tags:Int
 Regs:Int
 Class:(List Int)
 Stands:(List b0B)
instance:Inhabited a0c:=⟨⟨0,0,[],[]⟩⟩
def M0Y:Ty a0c:=T6 (fun x=>(x.Tags,x.Regs,x.Class,x.Stands,())) (J1 (C2 .i64) (J1 (C2 .i64) (J1 (E3 (C2 .i64)) (J1 (E3 N04) G6))))
structure H0J where
 Work:Int
 Most:Int
 Words:Int
 Room:Int
instance:Inhabited H0J:=⟨⟨0,0,0,0⟩⟩
def O0e:Ty H0J:=T6 (fun x=>(x.Work,x.Most,x.Words,x.Room,())) (J1 (C2 .i64) (J1 (C2 .i64) (J1 (C2 .i64) (J1 (C2 .i64) G6))))
structure a07 where
 Shut:Bool
 B:(List Int)
instance:Inhabited a07:=⟨⟨false,[]⟩⟩
def Q0l:Ty a07:=T6 (fun x=>(x.Shut,x.B,())) (J1 b0E (J1 (E3 (C2 .u8)) G6))
structure a0u where
 closed:Bool
 count:Int
instance:Inhabited a0u:=⟨⟨false,0⟩⟩
def P0n:Ty a0u:=T6 (fun x=>(x.closed,x.count,())) (J1 b0E (J1 (C2 .i64) G6))
structure G1 where
 From:Int
 To:Int
instance:Inhabited G1:=⟨⟨0,0⟩⟩
def A06:Ty G1:=T6 (fun x=>(x.From,x.To,())) (J1 (C2 .i64) (J1 (C2 .i64) G6))
structure a0J where
 Is:Bool
 Sure:Bool
 Spans:(List G1)
instance:Inhabited a0J:=⟨⟨false,false,[]⟩⟩
def O0r:Ty a0J:=T6 (fun x=>(x.Is,x.Sure,x.Spans,())) (J1 b0E (J1 b0E (J1 (E3 A06) G6)))
structure y0 where
 To:Int
 Turn:Int
 Steps:(List Int)
instance:Inhabited y0:=⟨⟨0,0,[]⟩⟩
def d0f:Ty y0:=T6 (fun x=>(x.To,x.Turn,x.Steps,())) (J1 (C2 .i64) (J1 (C2 .i64) (J1 (E3 (C2 .i64)) G6)))
structure T3 where
 B:(List (List Int))
 D:(List (List Int))
instance:Inhabited T3:=⟨⟨[],[]⟩⟩
def f0A:Ty T3:=T6 (fun x=>(x.B,x.D,())) (J1 (E3 (E3 (C2 .i64))) (J1 (E3 (E3 (C2 .i64))) G6))
structure c0b where
 L:(List C0)
 Leaves:(List Int)
 First:(List y0)
 Hops:(List (List y0))
 Ends:(List (List Int))
 At:Int
 Work:Int
 Places:(List Int)
 Tags:(List (List Int))
 Rank:T3
instance:Inhabited c0b:=⟨⟨[],[],[],[],[],0,0,[],[],default⟩⟩
def u0a:Ty c0b:=T6 (fun x=>(x.L,x.Leaves,x.First,x.Hops,x.Ends,x.At,x.Work,x.Places,x.Tags,x.Rank,())) (J1 (E3 j0R) (J1 (E3 (C2 .i64)) (J1 (E3 d0f) (J1 (E3 (E3 d0f)) (J1 (E3 (E3 (C2 .i64))) (J1 (C2 .i64) (J1 (C2 .i64) (J1 (E3 (C2 .i64)) (J1 (E3 (E3 (C2 .i64))) (J1 f0A G6))))))))))
structure e0x where
 Crowd:c0b
 Tags:(List Int)
 To:Int
 Is:Bool
instance:Inhabited e0x:=⟨⟨default,[],0,false⟩⟩
def x0O:Ty e0x:=T6 (fun x=>(x.Crowd,x.Tags,x.To,x.Is,())) (J1 u0a (J1 (E3 (C2 .i64)) (J1 (C2 .i64) (J1 b0E G6))))
structure m0E where
 P:a0c
 At:Int
 Stand:Int
 Regs:(List Int)
 Tags:(List Int)
 To:Int
 Is:Bool
 Work:Int
instance:Inhabited m0E:=⟨⟨default,0,0,[],[],0,false,0⟩⟩
def N0G:Ty m0E:=T6 (fun x=>(x.P,x.At,x.Stand,x.Regs,x.Tags,x.To,x.Is,x.Work,())) (J1 M0Y (J1 (C2 .i64) (J1 (C2 .i64) (J1 (E3 (C2 .i64)) (J1 (E3 (C2 .i64)) (J1 (C2 .i64) (J1 b0E (J1 (C2 .i64) G6))))))))
structure G09 where
 Table:Bool
 Hunt:e0x
 Run:m0E
 Count:Int
 Closed:Bool
instance:Inhabited G09:=⟨⟨false,default,default,0,false⟩⟩
def Q0r:Ty G09:=T6 (fun x=>(x.Table,x.Hunt,x.Run,x.Count,x.Closed,())) (J1 b0E (J1 x0O (J1 N0G (J1 (C2 .i64) (J1 b0E G6)))))
structure G2 where
 Kind:Int
 Group:Int
instance:Inhabited G2:=⟨⟨0,0⟩⟩
def o0M:Ty G2:=T6 (fun x=>(x.Kind,x.Group,())) (J1 (C2 .i64) (J1 (C2 .i64) G6))
structure Q3 where
 Hop:y0
 marks:(List G2)
instance:Inhabited Q3:=⟨⟨default,[]⟩⟩
def f0X:Ty Q3:=T6 (fun x=>(x.Hop,x.marks,())) (J1 d0f (J1 (E3 o0M) G6))
structure c0c where
 l:(List C0)
 sets:(List (List Int))
 begin:(List Q3)
 roads:(List (List Q3))
 ends:(List Q3)
 can:(List Bool)
 none:(List G2)
 null:Bool
 tags:Int
 ending:y0
instance:Inhabited c0c:=⟨⟨[],[],[],[],[],[],[],false,0,default⟩⟩
def r0y:Ty c0c:=T6 (fun x=>(x.l,x.sets,x.begin,x.roads,x.ends,x.can,x.none,x.null,x.tags,x.ending,())) (J1 (E3 j0R) (J1 (E3 (l0B 4 (C2 .u64))) (J1 (E3 f0X) (J1 (E3 (E3 f0X)) (J1 (E3 f0X) (J1 (E3 b0E) (J1 (E3 o0M) (J1 b0E (J1 (C2 .i64) (J1 d0f G6))))))))))
structure N3 where
 chart:c0c
 at_:Int
 work:Int
 places:(List Int)
 values:(List (List Int))
 rank:T3
instance:Inhabited N3:=⟨⟨default,0,0,[],[],default⟩⟩
def t0A:Ty N3:=T6 (fun x=>(x.chart,x.at_,x.work,x.places,x.values,x.rank,())) (J1 (l08 r0y) (J1 (C2 .i64) (J1 (C2 .i64) (J1 (E3 (C2 .i64)) (J1 (E3 (E3 (C2 .i64))) (J1 f0A G6))))))
structure e0w where
 Crowd:N3
 tags:(List Int)
 to:Int
 is:Bool
instance:Inhabited e0w:=⟨⟨default,[],0,false⟩⟩
def v0U:Ty e0w:=T6 (fun x=>(x.Crowd,x.tags,x.to,x.is,())) (J1 (l08 t0A) (J1 (E3 (C2 .i64)) (J1 (C2 .i64) (J1 b0E G6))))
structure I0j where
 Hunt:e0w
 tags:Int
 words:Int
instance:Inhabited I0j:=⟨⟨default,0,0⟩⟩
def P0h:Ty I0j:=T6 (fun x=>(x.Hunt,x.tags,x.words,())) (J1 (l08 v0U) (J1 (C2 .i64) (J1 (C2 .i64) G6)))
structure a0C where
 tags:(List Int)
 to:Int
instance:Inhabited a0C:=⟨⟨[],0⟩⟩
def N0N:Ty a0C:=T6 (fun x=>(x.tags,x.to,())) (J1 (E3 (C2 .i64)) (J1 (C2 .i64) G6))
structure d0c where
 last:a0C
 p:a0c
 at_:Int
 stand:Int
 work:Int
 regs:(List Int)
instance:Inhabited d0c:=⟨⟨default,default,0,0,0,[]⟩⟩
def N05:Ty d0c:=T6 (fun x=>(x.last,x.p,x.at_,x.stand,x.work,x.regs,())) (J1 N0N (J1 M0Y (J1 (C2 .i64) (J1 (C2 .i64) (J1 (C2 .i64) (J1 (E3 (C2 .i64)) G6))))))
structure d0B where
 Hunt:e0w
instance:Inhabited d0B:=⟨⟨default⟩⟩
def P0f:Ty d0B:=T6 (fun x=>(x.Hunt,())) (J1 (l08 v0U) G6)
structure S7 where
 N:Int
 Can:(List (List Bool))
instance:Inhabited S7:=⟨⟨0,[]⟩⟩
def x09:Ty S7:=T6 (fun x=>(x.N,x.Can,())) (J1 (C2 .i64) (J1 (E3 (E3 b0E)) G6))
structure Z1 where
 Depth:Int
 Node:Int
 From:Int
 To:Int
instance:Inhabited Z1:=⟨⟨0,0,0,0⟩⟩
def y0w:Ty Z1:=T6 (fun x=>(x.Depth,x.Node,x.From,x.To,())) (J1 (C2 .i64) (J1 (C2 .i64) (J1 (C2 .i64) (J1 (C2 .i64) G6))))
structure G0z where
 Run:d0c
instance:Inhabited G0z:=⟨⟨default⟩⟩
def P0Z:Ty G0z:=T6 (fun x=>(x.Run,())) (J1 (l08 N05) G6)
structure W8 where
 values:(List (List Int))
 roads:(List (List Q3))
 rank:T3
instance:Inhabited W8:=⟨⟨[],[],default⟩⟩
def x0w:Ty W8:=T6 (fun x=>(x.values,x.roads,x.rank,())) (J1 (E3 (E3 (C2 .i64))) (J1 (E3 (E3 f0X)) (J1 f0A G6)))
structure E7 where
 from_:(List Int)
 roads:(List Q3)
 hops:(List y0)
instance:Inhabited E7:=⟨⟨[],[],[]⟩⟩
def z0h:Ty E7:=T6 (fun x=>(x.from_,x.roads,x.hops,())) (J1 (E3 (C2 .i64)) (J1 (E3 f0X) (J1 (E3 d0f) G6)))
structure a0Q where
 Rank:T3
 from_:(List Int)
 hops:(List y0)
instance:Inhabited a0Q:=⟨⟨default,[],[]⟩⟩
def E0L:Ty a0Q:=T6 (fun x=>(x.Rank,x.from_,x.hops,())) (J1 f0A (J1 (E3 (C2 .i64)) (J1 (E3 d0f) G6)))
structure U4 where
 l:(List C0)
 up:(List Int)
 deep:(List Int)
 index:(List Int)
 can:(List Bool)
instance:Inhabited U4:=⟨⟨[],[],[],[],[]⟩⟩
def E0K:Ty U4:=T6 (fun x=>(x.l,x.up,x.deep,x.index,x.can,())) (J1 (E3 j0R) (J1 (E3 (C2 .i64)) (J1 (E3 (C2 .i64)) (J1 (E3 (C2 .i64)) (J1 (E3 b0E) G6)))))
structure f0D where
 now:Int
instance:Inhabited f0D:=⟨⟨0⟩⟩
def B0b:Ty f0D:=T6 (fun x=>(x.now,())) (J1 (C2 .i64) G6)
structure e00 where
 now:Int
instance:Inhabited e00:=⟨⟨0⟩⟩
def v0A:Ty e00:=T6 (fun x=>(x.now,())) (J1 (C2 .i64) G6)
structure f0v where
 none:Int
instance:Inhabited f0v:=⟨⟨0⟩⟩
def v0J:Ty f0v:=T6 (fun x=>(x.none,())) (J1 (C2 .i64) G6)
def enD:Nat->Type
 |0=>C0
 |1=>b0k
 |2=>a08
 |3=>b0B
 |4=>a0c
 |5=>H0J
 |6=>a07
 |7=>a0u
 |8=>G1
 |9=>a0J
 |10=>y0
 |11=>T3
 |12=>c0b
 |13=>e0x
 |14=>m0E
 |15=>G09
 |16=>G2
 |17=>Q3
 |18=>c0c
 |19=>N3
 |20=>e0w
 |21=>I0j
 |22=>a0C
 |23=>d0c
 |24=>d0B
 |25=>S7
 |26=>Z1
 |27=>G0z
 |28=>W8
 |29=>E7
 |30=>a0Q
 |31=>U4
 |32=>f0D
 |33=>e00
 |34=>f0v
 |_=>Unit
def A0q:(i:Nat)->enD i
 |0=>(default:C0)
 |1=>(default:b0k)
 |2=>(default:a08)
 |3=>(default:b0B)
 |4=>(default:a0c)
 |5=>(default:H0J)
 |6=>(default:a07)
 |7=>(default:a0u)
 |8=>(default:G1)
 |9=>(default:a0J)
 |10=>(default:y0)
 |11=>(default:T3)
 |12=>(default:c0b)
 |13=>(default:e0x)
 |14=>(default:m0E)
 |15=>(default:G09)
 |16=>(default:G2)
 |17=>(default:Q3)
 |18=>(default:c0c)
 |19=>(default:N3)
 |20=>(default:e0w)
 |21=>(default:I0j)
 |22=>(default:a0C)
 |23=>(default:d0c)
 |24=>(default:d0B)
 |25=>(default:S7)
 |26=>(default:Z1)
 |27=>(default:G0z)
 |28=>(default:W8)
 |29=>(default:E7)
 |30=>(default:a0Q)
 |31=>(default:U4)
 |32=>(default:f0D)
 |33=>(default:e00)
 |34=>(default:f0v)
 |_+35=>()
def o0Y:Nat->List U
 |0=>[.int .i64,.int .i64,.int .i64,.int .i64,.arr 4 (.int .u64)]
 |1=>[.int .i64,.int .i64]
 |2=>[.int .i64,.list (.st 1)]
 |3=>[.list (.int .i64),.list (.st 2)]
 |4=>[.int .i64,.int .i64,.list (.int .i64),.list (.st 3)]
 |5=>[.int .i64,.int .i64,.int .i64,.int .i64]
 |6=>[.bool,.list (.int .u8)]
 |7=>[.bool,.int .i64]
 |8=>[.int .i64,.int .i64]
 |9=>[.bool,.bool,.list (.st 8)]
 |10=>[.int .i64,.int .i64,.list (.int .i64)]
 |11=>[.list (.list (.int .i64)),.list (.list (.int .i64))]
 |12=>[.list (.st 0),.list (.int .i64),.list (.st 10),.list (.list (.st 10)),.list (.list (.int .i64)),.int .i64,.int .i64,.list (.int .i64),.list (.list (.int .i64)),.st 11]
 |13=>[.st 12,.list (.int .i64),.int .i64,.bool]
 |14=>[.st 4,.int .i64,.int .i64,.list (.int .i64),.list (.int .i64),.int .i64,.bool,.int .i64]
 |15=>[.bool,.st 13,.st 14,.int .i64,.bool]
 |16=>[.int .i64,.int .i64]
 |17=>[.st 10,.list (.st 16)]
 |18=>[.list (.st 0),.list (.arr 4 (.int .u64)),.list (.st 17),.list (.list (.st 17)),.list (.st 17),.list .bool,.list (.st 16),.bool,.int .i64,.st 10]
 |19=>[.ptr (.st 18),.int .i64,.int .i64,.list (.int .i64),.list (.list (.int .i64)),.st 11]
 |20=>[.ptr (.st 19),.list (.int .i64),.int .i64,.bool]
 |21=>[.ptr (.st 20),.int .i64,.int .i64]
 |22=>[.list (.int .i64),.int .i64]
 |23=>[.st 22,.st 4,.int .i64,.int .i64,.int .i64,.list (.int .i64)]
 |24=>[.ptr (.st 20)]
 |25=>[.int .i64,.list (.list .bool)]
 |26=>[.int .i64,.int .i64,.int .i64,.int .i64]
 |27=>[.ptr (.st 23)]
 |28=>[.list (.list (.int .i64)),.list (.list (.st 17)),.st 11]
 |29=>[.list (.int .i64),.list (.st 17),.list (.st 10)]
 |30=>[.st 11,.list (.int .i64),.list (.st 10)]
 |31=>[.list (.st 0),.list (.int .i64),.list (.int .i64),.list (.int .i64),.list .bool]
 |32=>[.int .i64]
 |33=>[.int .i64]
 |34=>[.int .i64]
 |_=>[]
def v0k:(i:Nat)->enD i->HL enD (o0Y i)
 |0,x=>let x:C0:=x;(x.Kind,x.A,x.B,x.N,x.Set,())
 |1,x=>let x:b0k:=x;(x.To,x.From,())
 |2,x=>let x:a08:=x;(x.To,x.Moves,())
 |3,x=>let x:b0B:=x;(x.Accept,x.j8,())
 |4,x=>let x:a0c:=x;(x.Tags,x.Regs,x.Class,x.Stands,())
 |5,x=>let x:H0J:=x;(x.Work,x.Most,x.Words,x.Room,())
 |6,x=>let x:a07:=x;(x.Shut,x.B,())
 |7,x=>let x:a0u:=x;(x.closed,x.count,())
 |8,x=>let x:G1:=x;(x.From,x.To,())
 |9,x=>let x:a0J:=x;(x.Is,x.Sure,x.Spans,())
 |10,x=>let x:y0:=x;(x.To,x.Turn,x.Steps,())
 |11,x=>let x:T3:=x;(x.B,x.D,())
 |12,x=>let x:c0b:=x;(x.L,x.Leaves,x.First,x.Hops,x.Ends,x.At,x.Work,x.Places,x.Tags,x.Rank,())
 |13,x=>let x:e0x:=x;(x.Crowd,x.Tags,x.To,x.Is,())
 |14,x=>let x:m0E:=x;(x.P,x.At,x.Stand,x.Regs,x.Tags,x.To,x.Is,x.Work,())
 |15,x=>let x:G09:=x;(x.Table,x.Hunt,x.Run,x.Count,x.Closed,())
 |16,x=>let x:G2:=x;(x.Kind,x.Group,())
 |17,x=>let x:Q3:=x;(x.Hop,x.marks,())
 |18,x=>let x:c0c:=x;(x.l,x.sets,x.begin,x.roads,x.ends,x.can,x.none,x.null,x.tags,x.ending,())
 |19,x=>let x:N3:=x;(x.chart,x.at_,x.work,x.places,x.values,x.rank,())
 |20,x=>let x:e0w:=x;(x.Crowd,x.tags,x.to,x.is,())
 |21,x=>let x:I0j:=x;(x.Hunt,x.tags,x.words,())
 |22,x=>let x:a0C:=x;(x.tags,x.to,())
 |23,x=>let x:d0c:=x;(x.last,x.p,x.at_,x.stand,x.work,x.regs,())
 |24,x=>let x:d0B:=x;(x.Hunt,())
 |25,x=>let x:S7:=x;(x.N,x.Can,())
 |26,x=>let x:Z1:=x;(x.Depth,x.Node,x.From,x.To,())
 |27,x=>let x:G0z:=x;(x.Run,())
 |28,x=>let x:W8:=x;(x.values,x.roads,x.rank,())
 |29,x=>let x:E7:=x;(x.from_,x.roads,x.hops,())
 |30,x=>let x:a0Q:=x;(x.Rank,x.from_,x.hops,())
 |31,x=>let x:U4:=x;(x.l,x.up,x.deep,x.index,x.can,())
 |32,x=>let x:f0D:=x;(x.now,())
 |33,x=>let x:e00:=x;(x.now,())
 |34,x=>let x:f0v:=x;(x.none,())
 |_+35,_=>()
def A0K:(i:Nat)->HL enD (o0Y i)->enD i
 |0,h=>(⟨h.1,h.2.1,h.2.2.1,h.2.2.2.1,h.2.2.2.2.1⟩:C0)
 |1,h=>(⟨h.1,h.2.1⟩:b0k)
 |2,h=>(⟨h.1,h.2.1⟩:a08)
 |3,h=>(⟨h.1,h.2.1⟩:b0B)
 |4,h=>(⟨h.1,h.2.1,h.2.2.1,h.2.2.2.1⟩:a0c)
 |5,h=>(⟨h.1,h.2.1,h.2.2.1,h.2.2.2.1⟩:H0J)
 |6,h=>(⟨h.1,h.2.1⟩:a07)
 |7,h=>(⟨h.1,h.2.1⟩:a0u)
 |8,h=>(⟨h.1,h.2.1⟩:G1)
 |9,h=>(⟨h.1,h.2.1,h.2.2.1⟩:a0J)
 |10,h=>(⟨h.1,h.2.1,h.2.2.1⟩:y0)
 |11,h=>(⟨h.1,h.2.1⟩:T3)
 |12,h=>(⟨h.1,h.2.1,h.2.2.1,h.2.2.2.1,h.2.2.2.2.1,h.2.2.2.2.2.1,h.2.2.2.2.2.2.1,h.2.2.2.2.2.2.2.1,h.2.2.2.2.2.2.2.2.1,h.2.2.2.2.2.2.2.2.2.1⟩:c0b)
 |13,h=>(⟨h.1,h.2.1,h.2.2.1,h.2.2.2.1⟩:e0x)
 |14,h=>(⟨h.1,h.2.1,h.2.2.1,h.2.2.2.1,h.2.2.2.2.1,h.2.2.2.2.2.1,h.2.2.2.2.2.2.1,h.2.2.2.2.2.2.2.1⟩:m0E)
 |15,h=>(⟨h.1,h.2.1,h.2.2.1,h.2.2.2.1,h.2.2.2.2.1⟩:G09)
 |16,h=>(⟨h.1,h.2.1⟩:G2)
 |17,h=>(⟨h.1,h.2.1⟩:Q3)
 |18,h=>(⟨h.1,h.2.1,h.2.2.1,h.2.2.2.1,h.2.2.2.2.1,h.2.2.2.2.2.1,h.2.2.2.2.2.2.1,h.2.2.2.2.2.2.2.1,h.2.2.2.2.2.2.2.2.1,h.2.2.2.2.2.2.2.2.2.1⟩:c0c)
 |19,h=>(⟨h.1,h.2.1,h.2.2.1,h.2.2.2.1,h.2.2.2.2.1,h.2.2.2.2.2.1⟩:N3)
 |20,h=>(⟨h.1,h.2.1,h.2.2.1,h.2.2.2.1⟩:e0w)
 |21,h=>(⟨h.1,h.2.1,h.2.2.1⟩:I0j)
 |22,h=>(⟨h.1,h.2.1⟩:a0C)
 |23,h=>(⟨h.1,h.2.1,h.2.2.1,h.2.2.2.1,h.2.2.2.2.1,h.2.2.2.2.2.1⟩:d0c)
 |24,h=>(⟨h.1⟩:d0B)
 |25,h=>(⟨h.1,h.2.1⟩:S7)
 |26,h=>(⟨h.1,h.2.1,h.2.2.1,h.2.2.2.1⟩:Z1)
 |27,h=>(⟨h.1⟩:G0z)
 |28,h=>(⟨h.1,h.2.1,h.2.2.1⟩:W8)
 |29,h=>(⟨h.1,h.2.1,h.2.2.1⟩:E7)
 |30,h=>(⟨h.1,h.2.1,h.2.2.1⟩:a0Q)
 |31,h=>(⟨h.1,h.2.1,h.2.2.1,h.2.2.2.1,h.2.2.2.2.1⟩:U4)
 |32,h=>(⟨h.1⟩:f0D)
 |33,h=>(⟨h.1⟩:e00)
 |34,h=>(⟨h.1⟩:f0v)
 |_+35,_=>()
def B0E:(i:Nat)->Ty (enD i)
 |0=>j0R
 |1=>N0t
 |2=>N0A
 |3=>N04
 |4=>M0Y
 |5=>O0e
 |6=>Q0l
 |7=>P0n
 |8=>A06
 |9=>O0r
 |10=>d0f
 |11=>f0A
 |12=>u0a
 |13=>x0O
 |14=>N0G
 |15=>Q0r
 |16=>o0M
 |17=>f0X
 |18=>r0y
 |19=>t0A
 |20=>v0U
 |21=>P0h
 |22=>N0N
 |23=>N05
 |24=>P0f
 |25=>x09
 |26=>y0w
 |27=>P0Z
 |28=>x0w
 |29=>z0h
 |30=>E0L
 |31=>E0K
 |32=>B0b
 |33=>v0A
 |34=>v0J
 |_+35=>G6
def enU:Nat->Option U:=fun t=>Q4 ([(2,.int .i64),(3,.int .i64),(4,.bool),(5,.int .u8),(6,.int .u8),(9,.str),(10,.str),(11,.str),(12,.int .u64),(21,.int .i32),(22,.list (.st 0)),(23,.list (.int .i64)),(24,.list (.st 3)),(26,.st 4),(30,.st 5),(31,.int .i64),(39,.list (.int .u8)),(45,.list (.st 6)),(51,.list (.st 8)),(53,.st 9),(55,.st 6),(66,.list (.st 10)),(67,.list (.list (.st 10))),(68,.list (.list (.int .i64))),(70,.st 11),(72,.st 12),(74,.st 13),(76,.st 14),(78,.st 15),(84,.st 7),(90,.list (.st 2)),(92,.st 3),(93,.list (.st 1)),(95,.st 2),(100,.ptr (.st 20)),(103,.ptr (.st 21)),(105,.st 21),(107,.ptr (.st 19)),(109,.st 20),(112,.ptr (.st 23)),(118,.st 8),(120,.st 24),(123,.list (.list .bool)),(125,.st 25),(129,.list (.st 26)),(132,.st 27),(140,.ptr (.st 7)),(141,.int .u64),(142,.arr 4 (.int .u64)),(143,.arr 4 (.int .u64)),(145,.st 0),(156,.ptr (.st 18)),(158,.st 19),(165,.st 22),(167,.st 23),(169,.st 1),(177,.list .bool),(180,.st 26),(189,.list (.arr 4 (.int .u64))),(190,.list (.st 17)),(191,.list (.list (.st 17))),(192,.list (.st 16)),(194,.st 10),(196,.st 18),(200,.st 28),(203,.st 29),(204,.list (.st 29)),(208,.st 17),(232,.arr 10 .bool),(237,.st 16),(242,.ptr (.int .i64)),(248,.st 30),(251,.ptr (.st 29)),(262,.ptr (.st 31)),(275,.st 32),(276,.st 33),(278,.st 34),(286,.st 31),(291,.int .u64),(302,.int .i64),(309,.int .u32),(316,.int .u64),(321,.ptr (.int .u64)),(330,.int .u8),(331,.int .u8),(333,.ptr (.int .u8)),(334,.int .i32),(335,.int .i32),(338,.ptr (.st 22))]:List (Nat×U)) t
noncomputable def en:Env:={ P:=Tryz.prog,D:=enD,inh:=A0q,fs:=o0Y,un:=v0k,mkS:=A0K,ty:=B0E,uT:=enU }
