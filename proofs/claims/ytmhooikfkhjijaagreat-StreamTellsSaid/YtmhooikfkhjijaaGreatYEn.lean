/- P. Its conditions: none. -/
import Derived.Test.YtmhooikfkhjijaaGreatProg
import Derived.Test.YtmhooikfkhjijaaGreatYX3
set_option linter.all false
namespace Go.Proofs.YtmhooikfkhjijaaGreat
open Go.V Go.RowKit Go.X
structure U0 where
 Kind:Int
 A:Int
 B:Int
 N:Int
 Set:(List Int)
instance:Inhabited U0:=⟨⟨0,0,0,0,List.replicate 4 0⟩⟩
def m09:Ty U0:=Q4 (fun x=>(x.Kind,x.A,x.B,x.N,x.Set,())) (K1 (J1 .i64) (K1 (J1 .i64) (K1 (J1 .i64) (K1 (J1 .i64) (K1 (k00 4 (J1 .u64)) H4)))))
structure C0s where
 To:Int
 From:Int
instance:Inhabited C0s:=⟨⟨0,0⟩⟩
def N0d:Ty C0s:=Q4 (fun x=>(x.To,x.From,())) (K1 (J1 .i64) (K1 (J1 .i64) H4))
structure C0x where
 To:Int
 Moves:(List C0s)
instance:Inhabited C0x:=⟨⟨0,[]⟩⟩
def O0B:Ty C0x:=Q4 (fun x=>(x.To,x.Moves,())) (K1 (J1 .i64) (K1 (Q2 N0d) H4))
structure C05 where
 Accept:(List Int)
 c0s:(List C0x)
instance:Inhabited C05:=⟨⟨[],[]⟩⟩
def O0g:Ty C05:=Q4 (fun x=>(x.Accept,x.c0s,())) (K1 (Q2 (J1 .i64)) (K1 (Q2 O0B) H4))
structure b0D where
 Tags:Int
 Regs:Int
 Class:(List Int)
 Stands:(List C05)
instance:Inhabited b0D:=⟨⟨0,0,[],[]⟩⟩
def L0B:Ty b0D:=Q4 (fun x=>(x.Tags,x.Regs,x.Class,x.Stands,())) (K1 (J1 .i64) (K1 (J1 .i64) (K1 (Q2 (J1 .i64)) (K1 (Q2 O0g) H4))))
structure t0v where
 Work:Int
 Most:Int
 Words:Int
 Room:Int
instance:Inhabited t0v:=⟨⟨0,0,0,0⟩⟩
def S0J:Ty t0v:=Q4 (fun x=>(x.Work,x.Most,x.Words,x.Room,())) (K1 (J1 .i64) (K1 (J1 .i64) (K1 (J1 .i64) (K1 (J1 .i64) H4))))
structure F07 where
 Shut:Bool
 B:(List Int)
instance:Inhabited F07:=⟨⟨false,[]⟩⟩
def X0u:Ty F07:=Q4 (fun x=>(x.Shut,x.B,())) (K1 c0g (K1 (Q2 (J1 .u8)) H4))
structure F0T where
 closed:Bool
 count:Int
instance:Inhabited F0T:=⟨⟨false,0⟩⟩
def W0S:Ty F0T:=Q4 (fun x=>(x.closed,x.count,())) (K1 c0g (K1 (J1 .i64) H4))
structure V1 where
 From:Int
 To:Int
instance:Inhabited V1:=⟨⟨0,0⟩⟩
def s0R:Ty V1:=Q4 (fun x=>(x.From,x.To,())) (K1 (J1 .i64) (K1 (J1 .i64) H4))
structure G0m where
 Is:Bool
 Sure:Bool
 Spans:(List V1)
instance:Inhabited G0m:=⟨⟨false,false,[]⟩⟩
def T0j:Ty G0m:=Q4 (fun x=>(x.Is,x.Sure,x.Spans,())) (K1 c0g (K1 c0g (K1 (Q2 s0R) H4)))
structure E1 where
 To:Int
 Turn:Int
 Steps:(List Int)
instance:Inhabited E1:=⟨⟨0,0,[]⟩⟩
def i0o:Ty E1:=Q4 (fun x=>(x.To,x.Turn,x.Steps,())) (K1 (J1 .i64) (K1 (J1 .i64) (K1 (Q2 (J1 .i64)) H4)))
structure P1 where
 B:(List (List Int))
 D:(List (List Int))
instance:Inhabited P1:=⟨⟨[],[]⟩⟩
def h0V:Ty P1:=Q4 (fun x=>(x.B,x.D,())) (K1 (Q2 (Q2 (J1 .i64))) (K1 (Q2 (Q2 (J1 .i64))) H4))
structure B07 where
 L:(List U0)
 Leaves:(List Int)
 First:(List E1)
 Hops:(List (List E1))
 Ends:(List (List Int))
 At:Int
 Work:Int
 Places:(List Int)
 Tags:(List (List Int))
 Rank:P1
instance:Inhabited B07:=⟨⟨[],[],[],[],[],0,0,[],[],default⟩⟩
def O0D:Ty B07:=Q4 (fun x=>(x.L,x.Leaves,x.First,x.Hops,x.Ends,x.At,x.Work,x.Places,x.Tags,x.Rank,())) (K1 (Q2 m09) (K1 (Q2 (J1 .i64)) (K1 (Q2 i0o) (K1 (Q2 (Q2 i0o)) (K1 (Q2 (Q2 (J1 .i64))) (K1 (J1 .i64) (K1 (J1 .i64) (K1 (Q2 (J1 .i64)) (K1 (Q2 (Q2 (J1 .i64))) (K1 h0V H4))))))))))
structure C0T where
 Crowd:B07
 Tags:(List Int)
 To:Int
 Is:Bool
instance:Inhabited C0T:=⟨⟨default,[],0,false⟩⟩
def M0M:Ty C0T:=Q4 (fun x=>(x.Crowd,x.Tags,x.To,x.Is,())) (K1 O0D (K1 (Q2 (J1 .i64)) (K1 (J1 .i64) (K1 c0g H4))))
structure C0I where
 P:b0D
 At:Int
 Stand:Int
 Regs:(List Int)
 Tags:(List Int)
 To:Int
 Is:Bool
 Work:Int
instance:Inhabited C0I:=⟨⟨default,0,0,[],[],0,false,0⟩⟩
def N0B:Ty C0I:=Q4 (fun x=>(x.P,x.At,x.Stand,x.Regs,x.Tags,x.To,x.Is,x.Work,())) (K1 L0B (K1 (J1 .i64) (K1 (J1 .i64) (K1 (Q2 (J1 .i64)) (K1 (Q2 (J1 .i64)) (K1 (J1 .i64) (K1 c0g (K1 (J1 .i64) H4))))))))
structure F0u where
 Table:Bool
 Hunt:C0T
 Run:C0I
 Count:Int
 Closed:Bool
instance:Inhabited F0u:=⟨⟨false,default,default,0,false⟩⟩
def P0M:Ty F0u:=Q4 (fun x=>(x.Table,x.Hunt,x.Run,x.Count,x.Closed,())) (K1 c0g (K1 M0M (K1 N0B (K1 (J1 .i64) (K1 c0g H4)))))
structure Z2 where
 Kind:Int
 Group:Int
instance:Inhabited Z2:=⟨⟨0,0⟩⟩
def r0x:Ty Z2:=Q4 (fun x=>(x.Kind,x.Group,())) (K1 (J1 .i64) (K1 (J1 .i64) H4))
structure z05 where
 Hop:E1
 marks:(List Z2)
instance:Inhabited z05:=⟨⟨default,[]⟩⟩
def F0E:Ty z05:=Q4 (fun x=>(x.Hop,x.marks,())) (K1 i0o (K1 (Q2 r0x) H4))
structure D0S where
 l:(List U0)
 sets:(List (List Int))
 begin:(List z05)
 roads:(List (List z05))
 ends:(List z05)
 can:(List Bool)
 none:(List Z2)
 null:Bool
 tags:Int
 ending:E1
instance:Inhabited D0S:=⟨⟨[],[],[],[],[],[],[],false,0,default⟩⟩
def O0f:Ty D0S:=Q4 (fun x=>(x.l,x.sets,x.begin,x.roads,x.ends,x.can,x.none,x.null,x.tags,x.ending,())) (K1 (Q2 m09) (K1 (Q2 (k00 4 (J1 .u64))) (K1 (Q2 F0E) (K1 (Q2 (Q2 F0E)) (K1 (Q2 F0E) (K1 (Q2 c0g) (K1 (Q2 r0x) (K1 c0g (K1 (J1 .i64) (K1 i0o H4))))))))))
structure h0r where
 chart:D0S
 at_:Int
 work:Int
 places:(List Int)
 values:(List (List Int))
 rank:P1
instance:Inhabited h0r:=⟨⟨default,0,0,[],[],default⟩⟩
def O0d:Ty h0r:=Q4 (fun x=>(x.chart,x.at_,x.work,x.places,x.values,x.rank,())) (K1 (y0L O0f) (K1 (J1 .i64) (K1 (J1 .i64) (K1 (Q2 (J1 .i64)) (K1 (Q2 (Q2 (J1 .i64))) (K1 h0V H4))))))
structure D0R where
 Crowd:h0r
 tags:(List Int)
 to:Int
 is:Bool
instance:Inhabited D0R:=⟨⟨default,[],0,false⟩⟩
def L0Y:Ty D0R:=Q4 (fun x=>(x.Crowd,x.tags,x.to,x.is,())) (K1 (y0L O0d) (K1 (Q2 (J1 .i64)) (K1 (J1 .i64) (K1 c0g H4))))
structure F05 where
 Hunt:D0R
 tags:Int
 words:Int
instance:Inhabited F05:=⟨⟨default,0,0⟩⟩
def Q0w:Ty F05:=Q4 (fun x=>(x.Hunt,x.tags,x.words,())) (K1 (y0L L0Y) (K1 (J1 .i64) (K1 (J1 .i64) H4)))
structure C0v where
 tags:(List Int)
 to:Int
instance:Inhabited C0v:=⟨⟨[],0⟩⟩
def N0h:Ty C0v:=Q4 (fun x=>(x.tags,x.to,())) (K1 (Q2 (J1 .i64)) (K1 (J1 .i64) H4))
structure D0d where
 last:C0v
 p:b0D
 at_:Int
 stand:Int
 work:Int
 regs:(List Int)
instance:Inhabited D0d:=⟨⟨default,default,0,0,0,[]⟩⟩
def N0N:Ty D0d:=Q4 (fun x=>(x.last,x.p,x.at_,x.stand,x.work,x.regs,())) (K1 N0h (K1 L0B (K1 (J1 .i64) (K1 (J1 .i64) (K1 (J1 .i64) (K1 (Q2 (J1 .i64)) H4))))))
structure F00 where
 Hunt:D0R
instance:Inhabited F00:=⟨⟨default⟩⟩
def W0V:Ty F00:=Q4 (fun x=>(x.Hunt,())) (K1 (y0L L0Y) H4)
structure b0t where
 N:Int
 Can:(List (List Bool))
instance:Inhabited b0t:=⟨⟨0,[]⟩⟩
def x0w:Ty b0t:=Q4 (fun x=>(x.N,x.Can,())) (K1 (J1 .i64) (K1 (Q2 (Q2 c0g)) H4))
structure b0J where
 Depth:Int
 Node:Int
 From:Int
 To:Int
instance:Inhabited b0J:=⟨⟨0,0,0,0⟩⟩
def u0C:Ty b0J:=Q4 (fun x=>(x.Depth,x.Node,x.From,x.To,())) (K1 (J1 .i64) (K1 (J1 .i64) (K1 (J1 .i64) (K1 (J1 .i64) H4))))
structure F0U where
 Run:D0d
instance:Inhabited F0U:=⟨⟨default⟩⟩
def T0E:Ty F0U:=Q4 (fun x=>(x.Run,())) (K1 (y0L N0N) H4)
structure C08 where
 values:(List (List Int))
 roads:(List (List z05))
 rank:P1
instance:Inhabited C08:=⟨⟨[],[],default⟩⟩
def T0y:Ty C08:=Q4 (fun x=>(x.values,x.roads,x.rank,())) (K1 (Q2 (Q2 (J1 .i64))) (K1 (Q2 (Q2 F0E)) (K1 h0V H4)))
structure C0G where
 from_:(List Int)
 roads:(List z05)
 hops:(List E1)
instance:Inhabited C0G:=⟨⟨[],[],[]⟩⟩
def R0o:Ty C0G:=Q4 (fun x=>(x.from_,x.roads,x.hops,())) (K1 (Q2 (J1 .i64)) (K1 (Q2 F0E) (K1 (Q2 i0o) H4)))
structure k7 where
 Rank:P1
 from_:(List Int)
 hops:(List E1)
instance:Inhabited k7:=⟨⟨default,[],[]⟩⟩
def y0s:Ty k7:=Q4 (fun x=>(x.Rank,x.from_,x.hops,())) (K1 h0V (K1 (Q2 (J1 .i64)) (K1 (Q2 i0o) H4)))
structure B5 where
 l:(List U0)
 up:(List Int)
 deep:(List Int)
 index:(List Int)
 can:(List Bool)
instance:Inhabited B5:=⟨⟨[],[],[],[],[]⟩⟩
def r0b:Ty B5:=Q4 (fun x=>(x.l,x.up,x.deep,x.index,x.can,())) (K1 (Q2 m09) (K1 (Q2 (J1 .i64)) (K1 (Q2 (J1 .i64)) (K1 (Q2 (J1 .i64)) (K1 (Q2 c0g) H4)))))
structure b0q where
 now:Int
instance:Inhabited b0q:=⟨⟨0⟩⟩
def r02:Ty b0q:=Q4 (fun x=>(x.now,())) (K1 (J1 .i64) H4)
structure c0q where
 now:Int
instance:Inhabited c0q:=⟨⟨0⟩⟩
def v09:Ty c0q:=Q4 (fun x=>(x.now,())) (K1 (J1 .i64) H4)
structure b08 where
 none:Int
instance:Inhabited b08:=⟨⟨0⟩⟩
def v0E:Ty b08:=Q4 (fun x=>(x.none,())) (K1 (J1 .i64) H4)
def enD:Nat->Type
 |0=>U0
 |1=>C0s
 |2=>C0x
 |3=>C05
 |4=>b0D
 |5=>t0v
 |6=>F07
 |7=>F0T
 |8=>V1
 |9=>G0m
 |10=>E1
 |11=>P1
 |12=>B07
 |13=>C0T
 |14=>C0I
 |15=>F0u
 |16=>Z2
 |17=>z05
 |18=>D0S
 |19=>h0r
 |20=>D0R
 |21=>F05
 |22=>C0v
 |23=>D0d
 |24=>F00
 |25=>b0t
 |26=>b0J
 |27=>F0U
 |28=>C08
 |29=>C0G
 |30=>k7
 |31=>B5
 |32=>b0q
 |33=>c0q
 |34=>b08
 |_=>Unit
def w0F:(i:Nat)->enD i
 |0=>(default:U0)
 |1=>(default:C0s)
 |2=>(default:C0x)
 |3=>(default:C05)
 |4=>(default:b0D)
 |5=>(default:t0v)
 |6=>(default:F07)
 |7=>(default:F0T)
 |8=>(default:V1)
 |9=>(default:G0m)
 |10=>(default:E1)
 |11=>(default:P1)
 |12=>(default:B07)
 |13=>(default:C0T)
 |14=>(default:C0I)
 |15=>(default:F0u)
 |16=>(default:Z2)
 |17=>(default:z05)
 |18=>(default:D0S)
 |19=>(default:h0r)
 |20=>(default:D0R)
 |21=>(default:F05)
 |22=>(default:C0v)
 |23=>(default:D0d)
 |24=>(default:F00)
 |25=>(default:b0t)
 |26=>(default:b0J)
 |27=>(default:F0U)
 |28=>(default:C08)
 |29=>(default:C0G)
 |30=>(default:k7)
 |31=>(default:B5)
 |32=>(default:b0q)
 |33=>(default:c0q)
 |34=>(default:b08)
 |_+35=>()
def j0h:Nat->List U
 |0=>[.int .i64,.int .i64,.int .i64,.int .i64,.arr 4 (.int .u64)]
 |1=>[.int .i64,.int .i64]
 |2=>[.int .i64,.list (.st 1)]
 |3=>[.list (.int .i64),.list (.st 2)]
 |4=>[.int .i64,.int .i64,.list (.int .i64),.list (.st 3)]
 |5=>[.int .i64,.int .i64,.int .i64,.int .i64]
 |6=>[.bool,.list (.int .u8)]
 |7=>[.bool,.int .i64]
 |8=>[.int .i64,.int .i64]
 |9=>[.bool,.bool,.list (.st 8)]
 |10=>[.int .i64,.int .i64,.list (.int .i64)]
 |11=>[.list (.list (.int .i64)),.list (.list (.int .i64))]
 |12=>[.list (.st 0),.list (.int .i64),.list (.st 10),.list (.list (.st 10)),.list (.list (.int .i64)),.int .i64,.int .i64,.list (.int .i64),.list (.list (.int .i64)),.st 11]
 |13=>[.st 12,.list (.int .i64),.int .i64,.bool]
 |14=>[.st 4,.int .i64,.int .i64,.list (.int .i64),.list (.int .i64),.int .i64,.bool,.int .i64]
 |15=>[.bool,.st 13,.st 14,.int .i64,.bool]
 |16=>[.int .i64,.int .i64]
 |17=>[.st 10,.list (.st 16)]
 |18=>[.list (.st 0),.list (.arr 4 (.int .u64)),.list (.st 17),.list (.list (.st 17)),.list (.st 17),.list .bool,.list (.st 16),.bool,.int .i64,.st 10]
 |19=>[.ptr (.st 18),.int .i64,.int .i64,.list (.int .i64),.list (.list (.int .i64)),.st 11]
 |20=>[.ptr (.st 19),.list (.int .i64),.int .i64,.bool]
 |21=>[.ptr (.st 20),.int .i64,.int .i64]
 |22=>[.list (.int .i64),.int .i64]
 |23=>[.st 22,.st 4,.int .i64,.int .i64,.int .i64,.list (.int .i64)]
 |24=>[.ptr (.st 20)]
 |25=>[.int .i64,.list (.list .bool)]
 |26=>[.int .i64,.int .i64,.int .i64,.int .i64]
 |27=>[.ptr (.st 23)]
 |28=>[.list (.list (.int .i64)),.list (.list (.st 17)),.st 11]
 |29=>[.list (.int .i64),.list (.st 17),.list (.st 10)]
 |30=>[.st 11,.list (.int .i64),.list (.st 10)]
 |31=>[.list (.st 0),.list (.int .i64),.list (.int .i64),.list (.int .i64),.list .bool]
 |32=>[.int .i64]
 |33=>[.int .i64]
 |34=>[.int .i64]
 |_=>[]
def x0d:(i:Nat)->enD i->HL enD (j0h i)
 |0,x=>let x:U0:=x;(x.Kind,x.A,x.B,x.N,x.Set,())
 |1,x=>let x:C0s:=x;(x.To,x.From,())
 |2,x=>let x:C0x:=x;(x.To,x.Moves,())
 |3,x=>let x:C05:=x;(x.Accept,x.c0s,())
 |4,x=>let x:b0D:=x;(x.Tags,x.Regs,x.Class,x.Stands,())
 |5,x=>let x:t0v:=x;(x.Work,x.Most,x.Words,x.Room,())
 |6,x=>let x:F07:=x;(x.Shut,x.B,())
 |7,x=>let x:F0T:=x;(x.closed,x.count,())
 |8,x=>let x:V1:=x;(x.From,x.To,())
 |9,x=>let x:G0m:=x;(x.Is,x.Sure,x.Spans,())
 |10,x=>let x:E1:=x;(x.To,x.Turn,x.Steps,())
 |11,x=>let x:P1:=x;(x.B,x.D,())
 |12,x=>let x:B07:=x;(x.L,x.Leaves,x.First,x.Hops,x.Ends,x.At,x.Work,x.Places,x.Tags,x.Rank,())
 |13,x=>let x:C0T:=x;(x.Crowd,x.Tags,x.To,x.Is,())
 |14,x=>let x:C0I:=x;(x.P,x.At,x.Stand,x.Regs,x.Tags,x.To,x.Is,x.Work,())
 |15,x=>let x:F0u:=x;(x.Table,x.Hunt,x.Run,x.Count,x.Closed,())
 |16,x=>let x:Z2:=x;(x.Kind,x.Group,())
 |17,x=>let x:z05:=x;(x.Hop,x.marks,())
 |18,x=>let x:D0S:=x;(x.l,x.sets,x.begin,x.roads,x.ends,x.can,x.none,x.null,x.tags,x.ending,())
 |19,x=>let x:h0r:=x;(x.chart,x.at_,x.work,x.places,x.values,x.rank,())
 |20,x=>let x:D0R:=x;(x.Crowd,x.tags,x.to,x.is,())
 |21,x=>let x:F05:=x;(x.Hunt,x.tags,x.words,())
 |22,x=>let x:C0v:=x;(x.tags,x.to,())
 |23,x=>let x:D0d:=x;(x.last,x.p,x.at_,x.stand,x.work,x.regs,())
 |24,x=>let x:F00:=x;(x.Hunt,())
 |25,x=>let x:b0t:=x;(x.N,x.Can,())
 |26,x=>let x:b0J:=x;(x.Depth,x.Node,x.From,x.To,())
 |27,x=>let x:F0U:=x;(x.Run,())
 |28,x=>let x:C08:=x;(x.values,x.roads,x.rank,())
 |29,x=>let x:C0G:=x;(x.from_,x.roads,x.hops,())
 |30,x=>let x:k7:=x;(x.Rank,x.from_,x.hops,())
 |31,x=>let x:B5:=x;(x.l,x.up,x.deep,x.index,x.can,())
 |32,x=>let x:b0q:=x;(x.now,())
 |33,x=>let x:c0q:=x;(x.now,())
 |34,x=>let x:b08:=x;(x.none,())
 |_+35,_=>()
def t0R:(i:Nat)->HL enD (j0h i)->enD i
 |0,h=>(⟨h.1,h.2.1,h.2.2.1,h.2.2.2.1,h.2.2.2.2.1⟩:U0)
 |1,h=>(⟨h.1,h.2.1⟩:C0s)
 |2,h=>(⟨h.1,h.2.1⟩:C0x)
 |3,h=>(⟨h.1,h.2.1⟩:C05)
 |4,h=>(⟨h.1,h.2.1,h.2.2.1,h.2.2.2.1⟩:b0D)
 |5,h=>(⟨h.1,h.2.1,h.2.2.1,h.2.2.2.1⟩:t0v)
 |6,h=>(⟨h.1,h.2.1⟩:F07)
 |7,h=>(⟨h.1,h.2.1⟩:F0T)
 |8,h=>(⟨h.1,h.2.1⟩:V1)
 |9,h=>(⟨h.1,h.2.1,h.2.2.1⟩:G0m)
 |10,h=>(⟨h.1,h.2.1,h.2.2.1⟩:E1)
 |11,h=>(⟨h.1,h.2.1⟩:P1)
 |12,h=>(⟨h.1,h.2.1,h.2.2.1,h.2.2.2.1,h.2.2.2.2.1,h.2.2.2.2.2.1,h.2.2.2.2.2.2.1,h.2.2.2.2.2.2.2.1,h.2.2.2.2.2.2.2.2.1,h.2.2.2.2.2.2.2.2.2.1⟩:B07)
 |13,h=>(⟨h.1,h.2.1,h.2.2.1,h.2.2.2.1⟩:C0T)
 |14,h=>(⟨h.1,h.2.1,h.2.2.1,h.2.2.2.1,h.2.2.2.2.1,h.2.2.2.2.2.1,h.2.2.2.2.2.2.1,h.2.2.2.2.2.2.2.1⟩:C0I)
 |15,h=>(⟨h.1,h.2.1,h.2.2.1,h.2.2.2.1,h.2.2.2.2.1⟩:F0u)
 |16,h=>(⟨h.1,h.2.1⟩:Z2)
 |17,h=>(⟨h.1,h.2.1⟩:z05)
 |18,h=>(⟨h.1,h.2.1,h.2.2.1,h.2.2.2.1,h.2.2.2.2.1,h.2.2.2.2.2.1,h.2.2.2.2.2.2.1,h.2.2.2.2.2.2.2.1,h.2.2.2.2.2.2.2.2.1,h.2.2.2.2.2.2.2.2.2.1⟩:D0S)
 |19,h=>(⟨h.1,h.2.1,h.2.2.1,h.2.2.2.1,h.2.2.2.2.1,h.2.2.2.2.2.1⟩:h0r)
 |20,h=>(⟨h.1,h.2.1,h.2.2.1,h.2.2.2.1⟩:D0R)
 |21,h=>(⟨h.1,h.2.1,h.2.2.1⟩:F05)
 |22,h=>(⟨h.1,h.2.1⟩:C0v)
 |23,h=>(⟨h.1,h.2.1,h.2.2.1,h.2.2.2.1,h.2.2.2.2.1,h.2.2.2.2.2.1⟩:D0d)
 |24,h=>(⟨h.1⟩:F00)
 |25,h=>(⟨h.1,h.2.1⟩:b0t)
 |26,h=>(⟨h.1,h.2.1,h.2.2.1,h.2.2.2.1⟩:b0J)
 |27,h=>(⟨h.1⟩:F0U)
 |28,h=>(⟨h.1,h.2.1,h.2.2.1⟩:C08)
 |29,h=>(⟨h.1,h.2.1,h.2.2.1⟩:C0G)
 |30,h=>(⟨h.1,h.2.1,h.2.2.1⟩:k7)
 |31,h=>(⟨h.1,h.2.1,h.2.2.1,h.2.2.2.1,h.2.2.2.2.1⟩:B5)
 |32,h=>(⟨h.1⟩:b0q)
 |33,h=>(⟨h.1⟩:c0q)
 |34,h=>(⟨h.1⟩:b08)
 |_+35,_=>()
def y0g:(i:Nat)->Ty (enD i)
 |0=>m09
 |1=>N0d
 |2=>O0B
 |3=>O0g
 |4=>L0B
 |5=>S0J
 |6=>X0u
 |7=>W0S
 |8=>s0R
 |9=>T0j
 |10=>i0o
 |11=>h0V
 |12=>O0D
 |13=>M0M
 |14=>N0B
 |15=>P0M
 |16=>r0x
 |17=>F0E
 |18=>O0f
 |19=>O0d
 |20=>L0Y
 |21=>Q0w
 |22=>N0h
 |23=>N0N
 |24=>W0V
 |25=>x0w
 |26=>u0C
 |27=>T0E
 |28=>T0y
 |29=>R0o
 |30=>y0s
 |31=>r0b
 |32=>r02
 |33=>v09
 |34=>v0E
 |_+35=>H4
def enU:Nat->Option U:=fun t=>J2 ([(2,.int .i64),(3,.int .i64),(4,.bool),(5,.int .u8),(6,.int .u8),(9,.str),(10,.str),(11,.str),(12,.int .u64),(21,.int .i32),(22,.list (.st 0)),(23,.list (.int .i64)),(24,.list (.st 3)),(26,.st 4),(30,.st 5),(31,.int .i64),(39,.list (.int .u8)),(45,.list (.st 6)),(51,.list (.st 8)),(53,.st 9),(55,.st 6),(66,.list (.st 10)),(67,.list (.list (.st 10))),(68,.list (.list (.int .i64))),(70,.st 11),(72,.st 12),(74,.st 13),(76,.st 14),(78,.st 15),(84,.st 7),(90,.list (.st 2)),(92,.st 3),(93,.list (.st 1)),(95,.st 2),(100,.ptr (.st 20)),(103,.ptr (.st 21)),(105,.st 21),(107,.ptr (.st 19)),(109,.st 20),(112,.ptr (.st 23)),(118,.st 8),(120,.st 24),(123,.list (.list .bool)),(125,.st 25),(129,.list (.st 26)),(132,.st 27),(140,.ptr (.st 7)),(141,.int .u64),(142,.arr 4 (.int .u64)),(143,.arr 4 (.int .u64)),(145,.st 0),(156,.ptr (.st 18)),(158,.st 19),(165,.st 22),(167,.st 23),(169,.st 1),(177,.list .bool),(180,.st 26),(189,.list (.arr 4 (.int .u64))),(190,.list (.st 17)),(191,.list (.list (.st 17))),(192,.list (.st 16)),(194,.st 10),(196,.st 18),(200,.st 28),(203,.st 29),(204,.list (.st 29)),(208,.st 17),(232,.arr 10 .bool),(237,.st 16),(242,.ptr (.int .i64)),(248,.st 30),(251,.ptr (.st 29)),(262,.ptr (.st 31)),(275,.st 32),(276,.st 33),(278,.st 34),(286,.st 31),(291,.int .u64),(302,.int .i64),(309,.int .u32),(316,.int .u64),(321,.ptr (.int .u64)),(330,.int .u8),(331,.int .u8),(333,.ptr (.int .u8)),(334,.int .i32),(335,.int .i32),(338,.ptr (.st 22))]:List (Nat×U)) t
noncomputable def en:Env:={ P:=Tryz.prog,D:=enD,inh:=w0F,fs:=j0h,un:=x0d,mkS:=t0R,ty:=y0g,uT:=enU }
