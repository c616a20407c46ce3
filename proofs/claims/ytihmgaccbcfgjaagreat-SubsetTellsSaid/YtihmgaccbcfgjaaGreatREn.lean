/- The structures of the program, and their codes. Its conditions: none. -/
import Derived.Test.YtihmgaccbcfgjaaGreatProg
import Derived.Test.YtihmgaccbcfgjaaGreatRX3
set_option linter.all false
namespace Go.Proofs.YtihmgaccbcfgjaaGreat
open Go.V Go.RowKit Go.X
structure L2 where
 To:Int
 Src:(List Int)
instance:Inhabited L2:=⟨⟨0,[]⟩⟩
def k0Q:Ty L2:=Q4 (fun x=>(x.To,x.Src,())) (K1 (J1 .i64) (K1 (Q2 (J1 .i64)) H4))
structure Z1 where
 Regs:Int
 Accept:(List Int)
 Edges:(List L2)
instance:Inhabited Z1:=⟨⟨0,[],[]⟩⟩
def n0p:Ty Z1:=Q4 (fun x=>(x.Regs,x.Accept,x.Edges,())) (K1 (J1 .i64) (K1 (Q2 (J1 .i64)) (K1 (Q2 k0Q) H4)))
structure K0 where
 Tags:Int
 Class:(List Int)
 States:(List Z1)
instance:Inhabited K0:=⟨⟨0,[],[]⟩⟩
def h0J:Ty K0:=Q4 (fun x=>(x.Tags,x.Class,x.States,())) (K1 (J1 .i64) (K1 (Q2 (J1 .i64)) (K1 (Q2 n0p) H4)))
structure U0 where
 Kind:Int
 A:Int
 B:Int
 N:Int
 Set:(List Int)
instance:Inhabited U0:=⟨⟨0,0,0,0,List.replicate 4 0⟩⟩
def m09:Ty U0:=Q4 (fun x=>(x.Kind,x.A,x.B,x.N,x.Set,())) (K1 (J1 .i64) (K1 (J1 .i64) (K1 (J1 .i64) (K1 (J1 .i64) (K1 (k00 4 (J1 .u64)) H4)))))
structure b09 where
 Mode:Int
 Budget:Int
instance:Inhabited b09:=⟨⟨0,0⟩⟩
def v0d:Ty b09:=Q4 (fun x=>(x.Mode,x.Budget,())) (K1 (J1 .i64) (K1 (J1 .i64) H4))
structure P1 where
 B:(List (List Int))
 D:(List (List Int))
instance:Inhabited P1:=⟨⟨[],[]⟩⟩
def h0V:Ty P1:=Q4 (fun x=>(x.B,x.D,())) (K1 (Q2 (Q2 (J1 .i64))) (K1 (Q2 (Q2 (J1 .i64))) H4))
structure I1 where
 Flag:Int
 Places:(List Int)
 Maps:(List (List Int))
 Rank:P1
instance:Inhabited I1:=⟨⟨0,[],[],default⟩⟩
def s0g:Ty I1:=Q4 (fun x=>(x.Flag,x.Places,x.Maps,x.Rank,())) (K1 (J1 .i64) (K1 (Q2 (J1 .i64)) (K1 (Q2 (Q2 (J1 .i64))) (K1 h0V H4))))
structure V1 where
 From:Int
 To:Int
instance:Inhabited V1:=⟨⟨0,0⟩⟩
def s0R:Ty V1:=Q4 (fun x=>(x.From,x.To,())) (K1 (J1 .i64) (K1 (J1 .i64) H4))
structure P7 where
 tags:(List Int)
 to:Int
instance:Inhabited P7:=⟨⟨[],0⟩⟩
def k0Z:Ty P7:=Q4 (fun x=>(x.tags,x.to,())) (K1 (Q2 (J1 .i64)) (K1 (J1 .i64) H4))
structure X0 where
 last:P7
 d:K0
 at_:Int
 state:Int
 work:Int
 regs:(List Int)
instance:Inhabited X0:=⟨⟨default,default,0,0,0,[]⟩⟩
def r0s:Ty X0:=Q4 (fun x=>(x.last,x.d,x.at_,x.state,x.work,x.regs,())) (K1 k0Z (K1 h0J (K1 (J1 .i64) (K1 (J1 .i64) (K1 (J1 .i64) (K1 (Q2 (J1 .i64)) H4))))))
structure P3 where
 D:K0
 At:Int
 State:Int
 Regs:(List Int)
 Tags:(List Int)
 To:Int
 Is:Bool
 Work:Int
instance:Inhabited P3:=⟨⟨default,0,0,[],[],0,false,0⟩⟩
def p05:Ty P3:=Q4 (fun x=>(x.D,x.At,x.State,x.Regs,x.Tags,x.To,x.Is,x.Work,())) (K1 h0J (K1 (J1 .i64) (K1 (J1 .i64) (K1 (Q2 (J1 .i64)) (K1 (Q2 (J1 .i64)) (K1 (J1 .i64) (K1 c0g (K1 (J1 .i64) H4))))))))
structure E1 where
 To:Int
 Turn:Int
 Steps:(List Int)
instance:Inhabited E1:=⟨⟨0,0,[]⟩⟩
def i0o:Ty E1:=Q4 (fun x=>(x.To,x.Turn,x.Steps,())) (K1 (J1 .i64) (K1 (J1 .i64) (K1 (Q2 (J1 .i64)) H4)))
structure Z2 where
 Kind:Int
 Group:Int
instance:Inhabited Z2:=⟨⟨0,0⟩⟩
def r0x:Ty Z2:=Q4 (fun x=>(x.Kind,x.Group,())) (K1 (J1 .i64) (K1 (J1 .i64) H4))
structure b0t where
 N:Int
 Can:(List (List Bool))
instance:Inhabited b0t:=⟨⟨0,[]⟩⟩
def x0w:Ty b0t:=Q4 (fun x=>(x.N,x.Can,())) (K1 (J1 .i64) (K1 (Q2 (Q2 c0g)) H4))
structure b0J where
 Depth:Int
 Node:Int
 From:Int
 To:Int
instance:Inhabited b0J:=⟨⟨0,0,0,0⟩⟩
def u0C:Ty b0J:=Q4 (fun x=>(x.Depth,x.Node,x.From,x.To,())) (K1 (J1 .i64) (K1 (J1 .i64) (K1 (J1 .i64) (K1 (J1 .i64) H4))))
structure B5 where
 l:(List U0)
 up:(List Int)
 deep:(List Int)
 index:(List Int)
 can:(List Bool)
instance:Inhabited B5:=⟨⟨[],[],[],[],[]⟩⟩
def r0b:Ty B5:=Q4 (fun x=>(x.l,x.up,x.deep,x.index,x.can,())) (K1 (Q2 m09) (K1 (Q2 (J1 .i64)) (K1 (Q2 (J1 .i64)) (K1 (Q2 (J1 .i64)) (K1 (Q2 c0g) H4)))))
structure S4 where
 tags:(List Int)
 ways:(List E1)
instance:Inhabited S4:=⟨⟨[],[]⟩⟩
def u0r:Ty S4:=Q4 (fun x=>(x.tags,x.ways,())) (K1 (Q2 (J1 .i64)) (K1 (Q2 i0o) H4))
structure b0q where
 now:Int
instance:Inhabited b0q:=⟨⟨0⟩⟩
def r02:Ty b0q:=Q4 (fun x=>(x.now,())) (K1 (J1 .i64) H4)
structure c0q where
 now:Int
instance:Inhabited c0q:=⟨⟨0⟩⟩
def v09:Ty c0q:=Q4 (fun x=>(x.now,())) (K1 (J1 .i64) H4)
structure b08 where
 none:Int
instance:Inhabited b08:=⟨⟨0⟩⟩
def v0E:Ty b08:=Q4 (fun x=>(x.none,())) (K1 (J1 .i64) H4)
structure k7 where
 Rank:P1
 from_:(List Int)
 hops:(List E1)
instance:Inhabited k7:=⟨⟨default,[],[]⟩⟩
def y0s:Ty k7:=Q4 (fun x=>(x.Rank,x.from_,x.hops,())) (K1 h0V (K1 (Q2 (J1 .i64)) (K1 (Q2 i0o) H4)))
def enD:Nat->Type
 |0=>L2
 |1=>Z1
 |2=>K0
 |3=>U0
 |4=>b09
 |5=>P1
 |6=>I1
 |7=>V1
 |8=>P7
 |9=>X0
 |10=>P3
 |11=>E1
 |12=>Z2
 |13=>b0t
 |14=>b0J
 |15=>B5
 |16=>S4
 |17=>b0q
 |18=>c0q
 |19=>b08
 |20=>k7
 |_=>Unit
def w0F:(i:Nat)->enD i
 |0=>(default:L2)
 |1=>(default:Z1)
 |2=>(default:K0)
 |3=>(default:U0)
 |4=>(default:b09)
 |5=>(default:P1)
 |6=>(default:I1)
 |7=>(default:V1)
 |8=>(default:P7)
 |9=>(default:X0)
 |10=>(default:P3)
 |11=>(default:E1)
 |12=>(default:Z2)
 |13=>(default:b0t)
 |14=>(default:b0J)
 |15=>(default:B5)
 |16=>(default:S4)
 |17=>(default:b0q)
 |18=>(default:c0q)
 |19=>(default:b08)
 |20=>(default:k7)
 |_+21=>()
def j0h:Nat->List U
 |0=>[.int .i64,.list (.int .i64)]
 |1=>[.int .i64,.list (.int .i64),.list (.st 0)]
 |2=>[.int .i64,.list (.int .i64),.list (.st 1)]
 |3=>[.int .i64,.int .i64,.int .i64,.int .i64,.arr 4 (.int .u64)]
 |4=>[.int .i64,.int .i64]
 |5=>[.list (.list (.int .i64)),.list (.list (.int .i64))]
 |6=>[.int .i64,.list (.int .i64),.list (.list (.int .i64)),.st 5]
 |7=>[.int .i64,.int .i64]
 |8=>[.list (.int .i64),.int .i64]
 |9=>[.st 8,.st 2,.int .i64,.int .i64,.int .i64,.list (.int .i64)]
 |10=>[.st 2,.int .i64,.int .i64,.list (.int .i64),.list (.int .i64),.int .i64,.bool,.int .i64]
 |11=>[.int .i64,.int .i64,.list (.int .i64)]
 |12=>[.int .i64,.int .i64]
 |13=>[.int .i64,.list (.list .bool)]
 |14=>[.int .i64,.int .i64,.int .i64,.int .i64]
 |15=>[.list (.st 3),.list (.int .i64),.list (.int .i64),.list (.int .i64),.list .bool]
 |16=>[.list (.int .i64),.list (.st 11)]
 |17=>[.int .i64]
 |18=>[.int .i64]
 |19=>[.int .i64]
 |20=>[.st 5,.list (.int .i64),.list (.st 11)]
 |_=>[]
def x0d:(i:Nat)->enD i->HL enD (j0h i)
 |0,x=>let x:L2:=x;(x.To,x.Src,())
 |1,x=>let x:Z1:=x;(x.Regs,x.Accept,x.Edges,())
 |2,x=>let x:K0:=x;(x.Tags,x.Class,x.States,())
 |3,x=>let x:U0:=x;(x.Kind,x.A,x.B,x.N,x.Set,())
 |4,x=>let x:b09:=x;(x.Mode,x.Budget,())
 |5,x=>let x:P1:=x;(x.B,x.D,())
 |6,x=>let x:I1:=x;(x.Flag,x.Places,x.Maps,x.Rank,())
 |7,x=>let x:V1:=x;(x.From,x.To,())
 |8,x=>let x:P7:=x;(x.tags,x.to,())
 |9,x=>let x:X0:=x;(x.last,x.d,x.at_,x.state,x.work,x.regs,())
 |10,x=>let x:P3:=x;(x.D,x.At,x.State,x.Regs,x.Tags,x.To,x.Is,x.Work,())
 |11,x=>let x:E1:=x;(x.To,x.Turn,x.Steps,())
 |12,x=>let x:Z2:=x;(x.Kind,x.Group,())
 |13,x=>let x:b0t:=x;(x.N,x.Can,())
 |14,x=>let x:b0J:=x;(x.Depth,x.Node,x.From,x.To,())
 |15,x=>let x:B5:=x;(x.l,x.up,x.deep,x.index,x.can,())
 |16,x=>let x:S4:=x;(x.tags,x.ways,())
 |17,x=>let x:b0q:=x;(x.now,())
 |18,x=>let x:c0q:=x;(x.now,())
 |19,x=>let x:b08:=x;(x.none,())
 |20,x=>let x:k7:=x;(x.Rank,x.from_,x.hops,())
 |_+21,_=>()
def t0R:(i:Nat)->HL enD (j0h i)->enD i
 |0,h=>(⟨h.1,h.2.1⟩:L2)
 |1,h=>(⟨h.1,h.2.1,h.2.2.1⟩:Z1)
 |2,h=>(⟨h.1,h.2.1,h.2.2.1⟩:K0)
 |3,h=>(⟨h.1,h.2.1,h.2.2.1,h.2.2.2.1,h.2.2.2.2.1⟩:U0)
 |4,h=>(⟨h.1,h.2.1⟩:b09)
 |5,h=>(⟨h.1,h.2.1⟩:P1)
 |6,h=>(⟨h.1,h.2.1,h.2.2.1,h.2.2.2.1⟩:I1)
 |7,h=>(⟨h.1,h.2.1⟩:V1)
 |8,h=>(⟨h.1,h.2.1⟩:P7)
 |9,h=>(⟨h.1,h.2.1,h.2.2.1,h.2.2.2.1,h.2.2.2.2.1,h.2.2.2.2.2.1⟩:X0)
 |10,h=>(⟨h.1,h.2.1,h.2.2.1,h.2.2.2.1,h.2.2.2.2.1,h.2.2.2.2.2.1,h.2.2.2.2.2.2.1,h.2.2.2.2.2.2.2.1⟩:P3)
 |11,h=>(⟨h.1,h.2.1,h.2.2.1⟩:E1)
 |12,h=>(⟨h.1,h.2.1⟩:Z2)
 |13,h=>(⟨h.1,h.2.1⟩:b0t)
 |14,h=>(⟨h.1,h.2.1,h.2.2.1,h.2.2.2.1⟩:b0J)
 |15,h=>(⟨h.1,h.2.1,h.2.2.1,h.2.2.2.1,h.2.2.2.2.1⟩:B5)
 |16,h=>(⟨h.1,h.2.1⟩:S4)
 |17,h=>(⟨h.1⟩:b0q)
 |18,h=>(⟨h.1⟩:c0q)
 |19,h=>(⟨h.1⟩:b08)
 |20,h=>(⟨h.1,h.2.1,h.2.2.1⟩:k7)
 |_+21,_=>()
def y0g:(i:Nat)->Ty (enD i)
 |0=>k0Q
 |1=>n0p
 |2=>h0J
 |3=>m09
 |4=>v0d
 |5=>h0V
 |6=>s0g
 |7=>s0R
 |8=>k0Z
 |9=>r0s
 |10=>p05
 |11=>i0o
 |12=>r0x
 |13=>x0w
 |14=>u0C
 |15=>r0b
 |16=>u0r
 |17=>r02
 |18=>v09
 |19=>v0E
 |20=>y0s
 |_+21=>H4
def enU:Nat->Option U:=fun t=>J2 ([(2,.int .i64),(3,.int .i64),(4,.bool),(5,.int .u8),(6,.int .u8),(9,.str),(10,.str),(11,.str),(12,.int .u64),(21,.int .i32),(22,.list (.int .i64)),(23,.list (.st 1)),(25,.st 2),(28,.list .bool),(31,.list (.st 3)),(33,.st 4),(34,.int .i64),(40,.arr 2 (.int .u8)),(43,.list (.int .u8)),(44,.list (.list (.int .i64))),(46,.st 5),(48,.st 6),(51,.list (.st 0)),(53,.st 1),(57,.st 0),(61,.list (.st 7)),(70,.ptr (.st 9)),(79,.st 10),(84,.st 8),(86,.st 9),(103,.list (.st 6)),(116,.st 11),(120,.list (.st 12)),(122,.list (.list (.st 11))),(123,.list (.st 11)),(128,.int .u64),(129,.arr 4 (.int .u64)),(130,.arr 4 (.int .u64)),(132,.st 3),(138,.st 7),(143,.list (.list .bool)),(145,.st 13),(149,.list (.st 14)),(156,.ptr (.st 8)),(163,.list (.arr 4 (.int .u64))),(184,.st 12),(195,.st 14),(219,.arr 10 .bool),(222,.ptr (.st 15)),(231,.ptr (.int .i64)),(233,.list (.st 16)),(239,.st 16),(240,.ptr (.int .u8)),(246,.st 15),(250,.st 17),(251,.st 18),(253,.st 19),(257,.st 20),(266,.int .u64),(273,.int .u32),(284,.int .i64),(292,.int .u64),(297,.ptr (.int .u64)),(305,.int .u8),(306,.int .u8),(308,.int .i32),(309,.int .i32)]:List (Nat×U)) t
noncomputable def en:Env:={ P:=Tryz.prog,D:=enD,inh:=w0F,fs:=j0h,un:=x0d,mkS:=t0R,ty:=y0g,uT:=enU }
