/- P. Its conditions: none. -/
import Derived.Test.YtbccffnofdnpoaaGreatProg
import Derived.Test.YtbccffnofdnpoaaGreatAX3
set_option linter.all false
namespace Go.Proofs.YtbccffnofdnpoaaGreat
open Go.V Go.RowKit Go.X
structure D0 where
 Kind:Int
 A:Int
 B:Int
 N:Int
 Set:(List Int)
instance:Inhabited D0:=⟨⟨0,0,0,0,List.replicate 4 0⟩⟩
def p0H:Ty D0:=O5 (fun x=>(x.Kind,x.A,x.B,x.N,x.Set,())) (O1 (Z1 .i64) (O1 (Z1 .i64) (O1 (Z1 .i64) (O1 (Z1 .i64) (O1 (n0L 4 (Z1 .u64)) G5)))))
structure a0u where
 Shut:Bool
 B:(List Int)
instance:Inhabited a0u:=⟨⟨false,[]⟩⟩
def J0S:Ty a0u:=O5 (fun x=>(x.Shut,x.B,())) (O1 b0h (O1 (I3 (Z1 .u8)) G5))
structure I6 where
 To:Int
 Src:(List Int)
instance:Inhabited I6:=⟨⟨0,[]⟩⟩
def u0f:Ty I6:=O5 (fun x=>(x.To,x.Src,())) (O1 (Z1 .i64) (O1 (I3 (Z1 .i64)) G5))
structure j7 where
 Regs:Int
 Accept:(List Int)
 Edges:(List I6)
instance:Inhabited j7:=⟨⟨0,[],[]⟩⟩
def v0W:Ty j7:=O5 (fun x=>(x.Regs,x.Accept,x.Edges,())) (O1 (Z1 .i64) (O1 (I3 (Z1 .i64)) (O1 (I3 u0f) G5)))
structure E4 where
 Tags:Int
 Class:(List Int)
 States:(List j7)
instance:Inhabited E4:=⟨⟨0,[],[]⟩⟩
def v0R:Ty E4:=O5 (fun x=>(x.Tags,x.Class,x.States,())) (O1 (Z1 .i64) (O1 (I3 (Z1 .i64)) (O1 (I3 v0W) G5)))
structure P1 where
 To:Int
 From:Int
instance:Inhabited P1:=⟨⟨0,0⟩⟩
def w06:Ty P1:=O5 (fun x=>(x.To,x.From,())) (O1 (Z1 .i64) (O1 (Z1 .i64) G5))
structure I5 where
 To:Int
 Moves:(List P1)
instance:Inhabited I5:=⟨⟨0,[]⟩⟩
def v0e:Ty I5:=O5 (fun x=>(x.To,x.Moves,())) (O1 (Z1 .i64) (O1 (I3 w06) G5))
structure U6 where
 Accept:(List Int)
 B2:(List I5)
instance:Inhabited U6:=⟨⟨[],[]⟩⟩
def z0p:Ty U6:=O5 (fun x=>(x.Accept,x.B2,())) (O1 (I3 (Z1 .i64)) (O1 (I3 v0e) G5))
structure N1 where
 Tags:Int
 Regs:Int
 Class:(List Int)
 Stands:(List U6)
instance:Inhabited N1:=⟨⟨0,0,[],[]⟩⟩
def y0b:Ty N1:=O5 (fun x=>(x.Tags,x.Regs,x.Class,x.Stands,())) (O1 (Z1 .i64) (O1 (Z1 .i64) (O1 (I3 (Z1 .i64)) (O1 (I3 z0p) G5))))
structure Y4 where
 closed:Bool
 count:Int
instance:Inhabited Y4:=⟨⟨false,0⟩⟩
def F0j:Ty Y4:=O5 (fun x=>(x.closed,x.count,())) (O1 b0h (O1 (Z1 .i64) G5))
structure D5 where
 From:Int
 To:Int
instance:Inhabited D5:=⟨⟨0,0⟩⟩
def A0t:Ty D5:=O5 (fun x=>(x.From,x.To,())) (O1 (Z1 .i64) (O1 (Z1 .i64) G5))
structure b0c where
 Is:Bool
 Sure:Bool
 Spans:(List D5)
instance:Inhabited b0c:=⟨⟨false,false,[]⟩⟩
def M0b:Ty b0c:=O5 (fun x=>(x.Is,x.Sure,x.Spans,())) (O1 b0h (O1 b0h (O1 (I3 A0t) G5)))
structure J2 where
 B:(List (List Int))
 D:(List (List Int))
instance:Inhabited J2:=⟨⟨[],[]⟩⟩
def j0L:Ty J2:=O5 (fun x=>(x.B,x.D,())) (O1 (I3 (I3 (Z1 .i64))) (O1 (I3 (I3 (Z1 .i64))) G5))
structure Y1 where
 Flag:Int
 Places:(List Int)
 Maps:(List (List Int))
 Rank:J2
instance:Inhabited Y1:=⟨⟨0,[],[],default⟩⟩
def C0T:Ty Y1:=O5 (fun x=>(x.Flag,x.Places,x.Maps,x.Rank,())) (O1 (Z1 .i64) (O1 (I3 (Z1 .i64)) (O1 (I3 (I3 (Z1 .i64))) (O1 j0L G5))))
structure a0e where
 d:E4
 homes:(List (List Int))
 many:Int
instance:Inhabited a0e:=⟨⟨default,[],0⟩⟩
def H0P:Ty a0e:=O5 (fun x=>(x.d,x.homes,x.many,())) (O1 v0R (O1 (I3 (I3 (Z1 .i64))) (O1 (Z1 .i64) G5)))
structure B0 where
 To:Int
 Turn:Int
 Steps:(List Int)
instance:Inhabited B0:=⟨⟨0,0,[]⟩⟩
def g0P:Ty B0:=O5 (fun x=>(x.To,x.Turn,x.Steps,())) (O1 (Z1 .i64) (O1 (Z1 .i64) (O1 (I3 (Z1 .i64)) G5)))
structure R3 where
 Kind:Int
 Group:Int
instance:Inhabited R3:=⟨⟨0,0⟩⟩
def t0g:Ty R3:=O5 (fun x=>(x.Kind,x.Group,())) (O1 (Z1 .i64) (O1 (Z1 .i64) G5))
structure G4 where
 Hop:B0
 marks:(List R3)
instance:Inhabited G4:=⟨⟨default,[]⟩⟩
def h0n:Ty G4:=O5 (fun x=>(x.Hop,x.marks,())) (O1 g0P (O1 (I3 t0g) G5))
structure c0r where
 l:(List D0)
 sets:(List (List Int))
 begin:(List G4)
 roads:(List (List G4))
 ends:(List G4)
 can:(List Bool)
 none:(List R3)
 null:Bool
 tags:Int
 ending:B0
instance:Inhabited c0r:=⟨⟨[],[],[],[],[],[],[],false,0,default⟩⟩
def y0h:Ty c0r:=O5 (fun x=>(x.l,x.sets,x.begin,x.roads,x.ends,x.can,x.none,x.null,x.tags,x.ending,())) (O1 (I3 p0H) (O1 (I3 (n0L 4 (Z1 .u64))) (O1 (I3 h0n) (O1 (I3 (I3 h0n)) (O1 (I3 h0n) (O1 (I3 b0h) (O1 (I3 t0g) (O1 b0h (O1 (Z1 .i64) (O1 g0P G5))))))))))
structure L2 where
 chart:c0r
 at_:Int
 work:Int
 places:(List Int)
 values:(List (List Int))
 rank:J2
instance:Inhabited L2:=⟨⟨default,0,0,[],[],default⟩⟩
def v0t:Ty L2:=O5 (fun x=>(x.chart,x.at_,x.work,x.places,x.values,x.rank,())) (O1 (i0g y0h) (O1 (Z1 .i64) (O1 (Z1 .i64) (O1 (I3 (Z1 .i64)) (O1 (I3 (I3 (Z1 .i64))) (O1 j0L G5))))))
structure a05 where
 Crowd:L2
 tags:(List Int)
 to:Int
 is:Bool
instance:Inhabited a05:=⟨⟨default,[],0,false⟩⟩
def w0J:Ty a05:=O5 (fun x=>(x.Crowd,x.tags,x.to,x.is,())) (O1 (i0g v0t) (O1 (I3 (Z1 .i64)) (O1 (Z1 .i64) (O1 b0h G5))))
structure c0A where
 Hunt:a05
instance:Inhabited c0A:=⟨⟨default⟩⟩
def C0r:Ty c0A:=O5 (fun x=>(x.Hunt,())) (O1 (i0g w0J) G5)
structure V4 where
 tags:(List Int)
 to:Int
instance:Inhabited V4:=⟨⟨[],0⟩⟩
def v0w:Ty V4:=O5 (fun x=>(x.tags,x.to,())) (O1 (I3 (Z1 .i64)) (O1 (Z1 .i64) G5))
structure S9 where
 last:V4
 p:N1
 at_:Int
 stand:Int
 work:Int
 regs:(List Int)
instance:Inhabited S9:=⟨⟨default,default,0,0,0,[]⟩⟩
def y0O:Ty S9:=O5 (fun x=>(x.last,x.p,x.at_,x.stand,x.work,x.regs,())) (O1 v0w (O1 y0b (O1 (Z1 .i64) (O1 (Z1 .i64) (O1 (Z1 .i64) (O1 (I3 (Z1 .i64)) G5))))))
structure d0c where
 Run:S9
instance:Inhabited d0c:=⟨⟨default⟩⟩
def C0o:Ty d0c:=O5 (fun x=>(x.Run,())) (O1 (i0g y0O) G5)
structure g0O where
 taken:(List Bool)
 at_:(List Int)
instance:Inhabited g0O:=⟨⟨List.replicate 1217 false,[]⟩⟩
def F0H:Ty g0O:=O5 (fun x=>(x.taken,x.at_,())) (O1 (n0L 1217 b0h) (O1 (I3 (Z1 .i64)) G5))
structure u7 where
 l:(List D0)
 up:(List Int)
 deep:(List Int)
 index:(List Int)
 can:(List Bool)
instance:Inhabited u7:=⟨⟨[],[],[],[],[]⟩⟩
def G0n:Ty u7:=O5 (fun x=>(x.l,x.up,x.deep,x.index,x.can,())) (O1 (I3 p0H) (O1 (I3 (Z1 .i64)) (O1 (I3 (Z1 .i64)) (O1 (I3 (Z1 .i64)) (O1 (I3 b0h) G5)))))
structure s6 where
 tags:(List Int)
 ways:(List B0)
instance:Inhabited s6:=⟨⟨[],[]⟩⟩
def G0p:Ty s6:=O5 (fun x=>(x.tags,x.ways,())) (O1 (I3 (Z1 .i64)) (O1 (I3 g0P) G5))
structure h0F where
 now:Int
instance:Inhabited h0F:=⟨⟨0⟩⟩
def L0c:Ty h0F:=O5 (fun x=>(x.now,())) (O1 (Z1 .i64) G5)
structure f09 where
 now:Int
instance:Inhabited f09:=⟨⟨0⟩⟩
def J0F:Ty f09:=O5 (fun x=>(x.now,())) (O1 (Z1 .i64) G5)
structure g0o where
 none:Int
instance:Inhabited g0o:=⟨⟨0⟩⟩
def G0R:Ty g0o:=O5 (fun x=>(x.none,())) (O1 (Z1 .i64) G5)
structure b0E where
 Rank:J2
 from_:(List Int)
 hops:(List B0)
instance:Inhabited b0E:=⟨⟨default,[],[]⟩⟩
def D01:Ty b0E:=O5 (fun x=>(x.Rank,x.from_,x.hops,())) (O1 j0L (O1 (I3 (Z1 .i64)) (O1 (I3 g0P) G5)))
structure s9 where
 values:(List (List Int))
 roads:(List (List G4))
 rank:J2
instance:Inhabited s9:=⟨⟨[],[],default⟩⟩
def A0B:Ty s9:=O5 (fun x=>(x.values,x.roads,x.rank,())) (O1 (I3 (I3 (Z1 .i64))) (O1 (I3 (I3 h0n)) (O1 j0L G5)))
structure J7 where
 from_:(List Int)
 roads:(List G4)
 hops:(List B0)
instance:Inhabited J7:=⟨⟨[],[],[]⟩⟩
def B0D:Ty J7:=O5 (fun x=>(x.from_,x.roads,x.hops,())) (O1 (I3 (Z1 .i64)) (O1 (I3 h0n) (O1 (I3 g0P) G5)))
def enD:Nat->Type
 |0=>D0
 |1=>a0u
 |2=>I6
 |3=>j7
 |4=>E4
 |5=>P1
 |6=>I5
 |7=>U6
 |8=>N1
 |9=>Y4
 |10=>D5
 |11=>b0c
 |12=>J2
 |13=>Y1
 |14=>a0e
 |15=>B0
 |16=>R3
 |17=>G4
 |18=>c0r
 |19=>L2
 |20=>a05
 |21=>c0A
 |22=>V4
 |23=>S9
 |24=>d0c
 |25=>g0O
 |26=>u7
 |27=>s6
 |28=>h0F
 |29=>f09
 |30=>g0o
 |31=>b0E
 |32=>s9
 |33=>J7
 |_=>Unit
def N0n:(i:Nat)->enD i
 |0=>(default:D0)
 |1=>(default:a0u)
 |2=>(default:I6)
 |3=>(default:j7)
 |4=>(default:E4)
 |5=>(default:P1)
 |6=>(default:I5)
 |7=>(default:U6)
 |8=>(default:N1)
 |9=>(default:Y4)
 |10=>(default:D5)
 |11=>(default:b0c)
 |12=>(default:J2)
 |13=>(default:Y1)
 |14=>(default:a0e)
 |15=>(default:B0)
 |16=>(default:R3)
 |17=>(default:G4)
 |18=>(default:c0r)
 |19=>(default:L2)
 |20=>(default:a05)
 |21=>(default:c0A)
 |22=>(default:V4)
 |23=>(default:S9)
 |24=>(default:d0c)
 |25=>(default:g0O)
 |26=>(default:u7)
 |27=>(default:s6)
 |28=>(default:h0F)
 |29=>(default:f09)
 |30=>(default:g0o)
 |31=>(default:b0E)
 |32=>(default:s9)
 |33=>(default:J7)
 |_+34=>()
def p0A:Nat->List U
 |0=>[.int .i64,.int .i64,.int .i64,.int .i64,.arr 4 (.int .u64)]
 |1=>[.bool,.list (.int .u8)]
 |2=>[.int .i64,.list (.int .i64)]
 |3=>[.int .i64,.list (.int .i64),.list (.st 2)]
 |4=>[.int .i64,.list (.int .i64),.list (.st 3)]
 |5=>[.int .i64,.int .i64]
 |6=>[.int .i64,.list (.st 5)]
 |7=>[.list (.int .i64),.list (.st 6)]
 |8=>[.int .i64,.int .i64,.list (.int .i64),.list (.st 7)]
 |9=>[.bool,.int .i64]
 |10=>[.int .i64,.int .i64]
 |11=>[.bool,.bool,.list (.st 10)]
 |12=>[.list (.list (.int .i64)),.list (.list (.int .i64))]
 |13=>[.int .i64,.list (.int .i64),.list (.list (.int .i64)),.st 12]
 |14=>[.st 4,.list (.list (.int .i64)),.int .i64]
 |15=>[.int .i64,.int .i64,.list (.int .i64)]
 |16=>[.int .i64,.int .i64]
 |17=>[.st 15,.list (.st 16)]
 |18=>[.list (.st 0),.list (.arr 4 (.int .u64)),.list (.st 17),.list (.list (.st 17)),.list (.st 17),.list .bool,.list (.st 16),.bool,.int .i64,.st 15]
 |19=>[.ptr (.st 18),.int .i64,.int .i64,.list (.int .i64),.list (.list (.int .i64)),.st 12]
 |20=>[.ptr (.st 19),.list (.int .i64),.int .i64,.bool]
 |21=>[.ptr (.st 20)]
 |22=>[.list (.int .i64),.int .i64]
 |23=>[.st 22,.st 8,.int .i64,.int .i64,.int .i64,.list (.int .i64)]
 |24=>[.ptr (.st 23)]
 |25=>[.arr 1217 .bool,.list (.int .i64)]
 |26=>[.list (.st 0),.list (.int .i64),.list (.int .i64),.list (.int .i64),.list .bool]
 |27=>[.list (.int .i64),.list (.st 15)]
 |28=>[.int .i64]
 |29=>[.int .i64]
 |30=>[.int .i64]
 |31=>[.st 12,.list (.int .i64),.list (.st 15)]
 |32=>[.list (.list (.int .i64)),.list (.list (.st 17)),.st 12]
 |33=>[.list (.int .i64),.list (.st 17),.list (.st 15)]
 |_=>[]
def H0d:(i:Nat)->enD i->HL enD (p0A i)
 |0,x=>let x:D0:=x;(x.Kind,x.A,x.B,x.N,x.Set,())
 |1,x=>let x:a0u:=x;(x.Shut,x.B,())
 |2,x=>let x:I6:=x;(x.To,x.Src,())
 |3,x=>let x:j7:=x;(x.Regs,x.Accept,x.Edges,())
 |4,x=>let x:E4:=x;(x.Tags,x.Class,x.States,())
 |5,x=>let x:P1:=x;(x.To,x.From,())
 |6,x=>let x:I5:=x;(x.To,x.Moves,())
 |7,x=>let x:U6:=x;(x.Accept,x.B2,())
 |8,x=>let x:N1:=x;(x.Tags,x.Regs,x.Class,x.Stands,())
 |9,x=>let x:Y4:=x;(x.closed,x.count,())
 |10,x=>let x:D5:=x;(x.From,x.To,())
 |11,x=>let x:b0c:=x;(x.Is,x.Sure,x.Spans,())
 |12,x=>let x:J2:=x;(x.B,x.D,())
 |13,x=>let x:Y1:=x;(x.Flag,x.Places,x.Maps,x.Rank,())
 |14,x=>let x:a0e:=x;(x.d,x.homes,x.many,())
 |15,x=>let x:B0:=x;(x.To,x.Turn,x.Steps,())
 |16,x=>let x:R3:=x;(x.Kind,x.Group,())
 |17,x=>let x:G4:=x;(x.Hop,x.marks,())
 |18,x=>let x:c0r:=x;(x.l,x.sets,x.begin,x.roads,x.ends,x.can,x.none,x.null,x.tags,x.ending,())
 |19,x=>let x:L2:=x;(x.chart,x.at_,x.work,x.places,x.values,x.rank,())
 |20,x=>let x:a05:=x;(x.Crowd,x.tags,x.to,x.is,())
 |21,x=>let x:c0A:=x;(x.Hunt,())
 |22,x=>let x:V4:=x;(x.tags,x.to,())
 |23,x=>let x:S9:=x;(x.last,x.p,x.at_,x.stand,x.work,x.regs,())
 |24,x=>let x:d0c:=x;(x.Run,())
 |25,x=>let x:g0O:=x;(x.taken,x.at_,())
 |26,x=>let x:u7:=x;(x.l,x.up,x.deep,x.index,x.can,())
 |27,x=>let x:s6:=x;(x.tags,x.ways,())
 |28,x=>let x:h0F:=x;(x.now,())
 |29,x=>let x:f09:=x;(x.now,())
 |30,x=>let x:g0o:=x;(x.none,())
 |31,x=>let x:b0E:=x;(x.Rank,x.from_,x.hops,())
 |32,x=>let x:s9:=x;(x.values,x.roads,x.rank,())
 |33,x=>let x:J7:=x;(x.from_,x.roads,x.hops,())
 |_+34,_=>()
def F09:(i:Nat)->HL enD (p0A i)->enD i
 |0,h=>(⟨h.1,h.2.1,h.2.2.1,h.2.2.2.1,h.2.2.2.2.1⟩:D0)
 |1,h=>(⟨h.1,h.2.1⟩:a0u)
 |2,h=>(⟨h.1,h.2.1⟩:I6)
 |3,h=>(⟨h.1,h.2.1,h.2.2.1⟩:j7)
 |4,h=>(⟨h.1,h.2.1,h.2.2.1⟩:E4)
 |5,h=>(⟨h.1,h.2.1⟩:P1)
 |6,h=>(⟨h.1,h.2.1⟩:I5)
 |7,h=>(⟨h.1,h.2.1⟩:U6)
 |8,h=>(⟨h.1,h.2.1,h.2.2.1,h.2.2.2.1⟩:N1)
 |9,h=>(⟨h.1,h.2.1⟩:Y4)
 |10,h=>(⟨h.1,h.2.1⟩:D5)
 |11,h=>(⟨h.1,h.2.1,h.2.2.1⟩:b0c)
 |12,h=>(⟨h.1,h.2.1⟩:J2)
 |13,h=>(⟨h.1,h.2.1,h.2.2.1,h.2.2.2.1⟩:Y1)
 |14,h=>(⟨h.1,h.2.1,h.2.2.1⟩:a0e)
 |15,h=>(⟨h.1,h.2.1,h.2.2.1⟩:B0)
 |16,h=>(⟨h.1,h.2.1⟩:R3)
 |17,h=>(⟨h.1,h.2.1⟩:G4)
 |18,h=>(⟨h.1,h.2.1,h.2.2.1,h.2.2.2.1,h.2.2.2.2.1,h.2.2.2.2.2.1,h.2.2.2.2.2.2.1,h.2.2.2.2.2.2.2.1,h.2.2.2.2.2.2.2.2.1,h.2.2.2.2.2.2.2.2.2.1⟩:c0r)
 |19,h=>(⟨h.1,h.2.1,h.2.2.1,h.2.2.2.1,h.2.2.2.2.1,h.2.2.2.2.2.1⟩:L2)
 |20,h=>(⟨h.1,h.2.1,h.2.2.1,h.2.2.2.1⟩:a05)
 |21,h=>(⟨h.1⟩:c0A)
 |22,h=>(⟨h.1,h.2.1⟩:V4)
 |23,h=>(⟨h.1,h.2.1,h.2.2.1,h.2.2.2.1,h.2.2.2.2.1,h.2.2.2.2.2.1⟩:S9)
 |24,h=>(⟨h.1⟩:d0c)
 |25,h=>(⟨h.1,h.2.1⟩:g0O)
 |26,h=>(⟨h.1,h.2.1,h.2.2.1,h.2.2.2.1,h.2.2.2.2.1⟩:u7)
 |27,h=>(⟨h.1,h.2.1⟩:s6)
 |28,h=>(⟨h.1⟩:h0F)
 |29,h=>(⟨h.1⟩:f09)
 |30,h=>(⟨h.1⟩:g0o)
 |31,h=>(⟨h.1,h.2.1,h.2.2.1⟩:b0E)
 |32,h=>(⟨h.1,h.2.1,h.2.2.1⟩:s9)
 |33,h=>(⟨h.1,h.2.1,h.2.2.1⟩:J7)
 |_+34,_=>()
def K00:(i:Nat)->Ty (enD i)
 |0=>p0H
 |1=>J0S
 |2=>u0f
 |3=>v0W
 |4=>v0R
 |5=>w06
 |6=>v0e
 |7=>z0p
 |8=>y0b
 |9=>F0j
 |10=>A0t
 |11=>M0b
 |12=>j0L
 |13=>C0T
 |14=>H0P
 |15=>g0P
 |16=>t0g
 |17=>h0n
 |18=>y0h
 |19=>v0t
 |20=>w0J
 |21=>C0r
 |22=>v0w
 |23=>y0O
 |24=>C0o
 |25=>F0H
 |26=>G0n
 |27=>G0p
 |28=>L0c
 |29=>J0F
 |30=>G0R
 |31=>D01
 |32=>A0B
 |33=>B0D
 |_+34=>G5
def enU:Nat->Option U:=fun t=>C5 ([(2,.int .i64),(3,.int .i64),(4,.bool),(5,.int .u8),(6,.int .u8),(9,.str),(10,.str),(11,.str),(12,.int .u64),(21,.int .i32),(22,.list (.st 0)),(23,.list (.st 1)),(27,.list (.int .i64)),(28,.list (.st 3)),(30,.st 4),(31,.int .i64),(34,.list (.st 7)),(36,.st 8),(43,.list (.st 10)),(45,.st 11),(48,.list (.int .u8)),(50,.st 1),(54,.st 9),(65,.st 10),(66,.list (.list (.int .i64))),(68,.st 12),(70,.st 13),(77,.list (.st 13)),(85,.list (.st 2)),(87,.st 3),(91,.ptr (.st 14)),(93,.st 14),(95,.list (.st 6)),(97,.st 7),(99,.ptr (.st 20)),(103,.st 21),(104,.ptr (.st 23)),(108,.st 24),(111,.ptr (.st 9)),(112,.int .u64),(113,.arr 4 (.int .u64)),(114,.arr 4 (.int .u64)),(116,.st 0),(120,.list .bool),(122,.list (.arr 4 (.int .u64))),(136,.st 2),(142,.list (.st 5)),(144,.st 6),(146,.ptr (.st 19)),(150,.st 20),(156,.st 22),(158,.st 23),(169,.st 15),(173,.list (.st 16)),(179,.ptr (.st 25)),(181,.arr 1217 .bool),(183,.st 25),(187,.st 5),(190,.ptr (.st 18)),(193,.st 19),(194,.list (.st 17)),(195,.list (.list (.st 17))),(197,.st 18),(216,.arr 10 .bool),(221,.ptr (.st 26)),(224,.list (.st 15)),(228,.st 16),(233,.ptr (.int .i64)),(236,.list (.st 27)),(243,.st 27),(247,.int .u64),(262,.st 17),(265,.ptr (.int .u8)),(271,.st 26),(275,.st 28),(276,.st 29),(278,.st 30),(282,.st 31),(288,.int .u32),(312,.int .i64),(325,.int .u64),(332,.ptr (.int .u64)),(341,.int .u8),(342,.int .u8),(344,.int .i32),(345,.int .i32),(351,.st 32),(354,.st 33),(355,.list (.st 33)),(359,.ptr (.st 33)),(360,.ptr (.st 22))]:List (Nat×U)) t
noncomputable def en:Env:={ P:=Tryz.prog,D:=enD,inh:=N0n,fs:=p0A,un:=H0d,mkS:=F09,ty:=K00,uT:=enU }
