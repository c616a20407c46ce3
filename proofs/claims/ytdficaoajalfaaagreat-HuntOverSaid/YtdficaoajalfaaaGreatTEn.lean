/- The structures of the program, and their codes. Its conditions: none. -/
import Derived.Test.YtdficaoajalfaaaGreatProg
import Derived.Test.YtdficaoajalfaaaGreatTX3
set_option linter.all false
namespace Go.Proofs.YtdficaoajalfaaaGreat
open Go.V Go.RowKit Go.X
structure a_2 where
 Kind:Int
 A:Int
 B:Int
 N:Int
 Set:(List Int)
instance:Inhabited a_2:=⟨⟨0,0,0,0,List.replicate 4 0⟩⟩
def a_50:Ty a_2:=r_9 (fun x=>(x.Kind,x.A,x.B,x.N,x.Set,())) (b_8 (f_7 .i64) (b_8 (f_7 .i64) (b_8 (f_7 .i64) (b_8 (f_7 .i64) (b_8 (tArr 4 (f_7 .u64)) l_2)))))
structure h_6 where
 From:Int
 To:Int
instance:Inhabited h_6:=⟨⟨0,0⟩⟩
def b_r1:Ty h_6:=r_9 (fun x=>(x.From,x.To,())) (b_8 (f_7 .i64) (b_8 (f_7 .i64) l_2))
structure k_1 where
 Kind:Int
 N:Int
 B:Int
 Begin:Bool
instance:Inhabited k_1:=⟨⟨0,0,0,false⟩⟩
def a_zs:Ty k_1:=r_9 (fun x=>(x.Kind,x.N,x.B,x.Begin,())) (b_8 (f_7 .i64) (b_8 (f_7 .i64) (b_8 (f_7 .u8) (b_8 a_kp l_2))))
structure a_1 where
 To:Int
 Turn:Int
 Steps:(List Int)
instance:Inhabited a_1:=⟨⟨0,0,[]⟩⟩
def tHop:Ty a_1:=r_9 (fun x=>(x.To,x.Turn,x.Steps,())) (b_8 (f_7 .i64) (b_8 (f_7 .i64) (b_8 (tSl (f_7 .i64)) l_2)))
structure d_5 where
 Kind:Int
 Group:Int
instance:Inhabited d_5:=⟨⟨0,0⟩⟩
def b_em:Ty d_5:=r_9 (fun x=>(x.Kind,x.Group,())) (b_8 (f_7 .i64) (b_8 (f_7 .i64) l_2))
structure c_8 where
 Hop:a_1
 marks:(List d_5)
instance:Inhabited c_8:=⟨⟨default,[]⟩⟩
def a_h5:Ty c_8:=r_9 (fun x=>(x.Hop,x.marks,())) (b_8 tHop (b_8 (tSl b_em) l_2))
structure v_8 where
 l:(List a_2)
 sets:(List (List Int))
 begin:(List c_8)
 roads:(List (List c_8))
 ends:(List c_8)
 can:(List Bool)
 none:(List d_5)
 null:Bool
 tags:Int
 ending:a_1
instance:Inhabited v_8:=⟨⟨[],[],[],[],[],[],[],false,0,default⟩⟩
def a_z3:Ty v_8:=r_9 (fun x=>(x.l,x.sets,x.begin,x.roads,x.ends,x.can,x.none,x.null,x.tags,x.ending,())) (b_8 (tSl a_50) (b_8 (tSl (tArr 4 (f_7 .u64))) (b_8 (tSl a_h5) (b_8 (tSl (tSl a_h5)) (b_8 (tSl a_h5) (b_8 (tSl a_kp) (b_8 (tSl b_em) (b_8 a_kp (b_8 (f_7 .i64) (b_8 tHop l_2))))))))))
structure b_9 where
 B:(List (List Int))
 D:(List (List Int))
instance:Inhabited b_9:=⟨⟨[],[]⟩⟩
def a_v4:Ty b_9:=r_9 (fun x=>(x.B,x.D,())) (b_8 (tSl (tSl (f_7 .i64))) (b_8 (tSl (tSl (f_7 .i64))) l_2))
structure b_1 where
 chart:v_8
 at_:Int
 work:Int
 places:(List Int)
 values:(List (List Int))
 rank:b_9
instance:Inhabited b_1:=⟨⟨default,0,0,[],[],default⟩⟩
def a_z4:Ty b_1:=r_9 (fun x=>(x.chart,x.at_,x.work,x.places,x.values,x.rank,())) (b_8 (tPtr a_z3) (b_8 (f_7 .i64) (b_8 (f_7 .i64) (b_8 (tSl (f_7 .i64)) (b_8 (tSl (tSl (f_7 .i64))) (b_8 a_v4 l_2))))))
structure b_4 where
 L:(List a_2)
 Leaves:(List Int)
 First:(List a_1)
 Hops:(List (List a_1))
 Ends:(List (List Int))
 At:Int
 Work:Int
 Places:(List Int)
 Tags:(List (List Int))
 Rank:b_9
instance:Inhabited b_4:=⟨⟨[],[],[],[],[],0,0,[],[],default⟩⟩
def a_l7:Ty b_4:=r_9 (fun x=>(x.L,x.Leaves,x.First,x.Hops,x.Ends,x.At,x.Work,x.Places,x.Tags,x.Rank,())) (b_8 (tSl a_50) (b_8 (tSl (f_7 .i64)) (b_8 (tSl tHop) (b_8 (tSl (tSl tHop)) (b_8 (tSl (tSl (f_7 .i64))) (b_8 (f_7 .i64) (b_8 (f_7 .i64) (b_8 (tSl (f_7 .i64)) (b_8 (tSl (tSl (f_7 .i64))) (b_8 a_v4 l_2))))))))))
structure a_hy where
 Crowd:b_1
 tags:(List Int)
 to:Int
 is:Bool
instance:Inhabited a_hy:=⟨⟨default,[],0,false⟩⟩
def b_hg:Ty a_hy:=r_9 (fun x=>(x.Crowd,x.tags,x.to,x.is,())) (b_8 (tPtr a_z4) (b_8 (tSl (f_7 .i64)) (b_8 (f_7 .i64) (b_8 a_kp l_2))))
structure u_8 where
 Crowd:b_4
 Tags:(List Int)
 To:Int
 Is:Bool
instance:Inhabited u_8:=⟨⟨default,[],0,false⟩⟩
def a_zm:Ty u_8:=r_9 (fun x=>(x.Crowd,x.Tags,x.To,x.Is,())) (b_8 a_l7 (b_8 (tSl (f_7 .i64)) (b_8 (f_7 .i64) (b_8 a_kp l_2))))
structure a_ni where
 Flag:Int
 Places:(List Int)
 Maps:(List (List Int))
 Rank:b_9
instance:Inhabited a_ni:=⟨⟨0,[],[],default⟩⟩
def b_o7:Ty a_ni:=r_9 (fun x=>(x.Flag,x.Places,x.Maps,x.Rank,())) (b_8 (f_7 .i64) (b_8 (tSl (f_7 .i64)) (b_8 (tSl (tSl (f_7 .i64))) (b_8 a_v4 l_2))))
structure x_4 where
 Mode:Int
 B:Int
instance:Inhabited x_4:=⟨⟨0,0⟩⟩
def a_z2:Ty x_4:=r_9 (fun x=>(x.Mode,x.B,())) (b_8 (f_7 .i64) (b_8 (f_7 .u8) l_2))
structure a_rc where
 Depth:Int
 Node:Int
 From:Int
 To:Int
instance:Inhabited a_rc:=⟨⟨0,0,0,0⟩⟩
def b_py:Ty a_rc:=r_9 (fun x=>(x.Depth,x.Node,x.From,x.To,())) (b_8 (f_7 .i64) (b_8 (f_7 .i64) (b_8 (f_7 .i64) (b_8 (f_7 .i64) l_2))))
structure k_4 where
 values:(List (List Int))
 roads:(List (List c_8))
 rank:b_9
instance:Inhabited k_4:=⟨⟨[],[],default⟩⟩
def b_fi:Ty k_4:=r_9 (fun x=>(x.values,x.roads,x.rank,())) (b_8 (tSl (tSl (f_7 .i64))) (b_8 (tSl (tSl a_h5)) (b_8 a_v4 l_2)))
structure g_6 where
 from_:(List Int)
 roads:(List c_8)
 hops:(List a_1)
instance:Inhabited g_6:=⟨⟨[],[],[]⟩⟩
def b_bv:Ty g_6:=r_9 (fun x=>(x.from_,x.roads,x.hops,())) (b_8 (tSl (f_7 .i64)) (b_8 (tSl a_h5) (b_8 (tSl tHop) l_2)))
structure t_6 where
 N:Int
 Can:(List (List Bool))
instance:Inhabited t_6:=⟨⟨0,[]⟩⟩
def a_wz:Ty t_6:=r_9 (fun x=>(x.N,x.Can,())) (b_8 (f_7 .i64) (b_8 (tSl (tSl a_kp)) l_2))
structure a_d7 where
 tags:(List Int)
 ways:(List a_1)
instance:Inhabited a_d7:=⟨⟨[],[]⟩⟩
def b_b9:Ty a_d7:=r_9 (fun x=>(x.tags,x.ways,())) (b_8 (tSl (f_7 .i64)) (b_8 (tSl tHop) l_2))
structure r_0 where
 Rank:b_9
 from_:(List Int)
 hops:(List a_1)
instance:Inhabited r_0:=⟨⟨default,[],[]⟩⟩
def b_e6:Ty r_0:=r_9 (fun x=>(x.Rank,x.from_,x.hops,())) (b_8 a_v4 (b_8 (tSl (f_7 .i64)) (b_8 (tSl tHop) l_2)))
structure d_0 where
 l:(List a_2)
 up:(List Int)
 deep:(List Int)
 index:(List Int)
 can:(List Bool)
instance:Inhabited d_0:=⟨⟨[],[],[],[],[]⟩⟩
def a_6l:Ty d_0:=r_9 (fun x=>(x.l,x.up,x.deep,x.index,x.can,())) (b_8 (tSl a_50) (b_8 (tSl (f_7 .i64)) (b_8 (tSl (f_7 .i64)) (b_8 (tSl (f_7 .i64)) (b_8 (tSl a_kp) l_2)))))
structure a_ea where
 now:Int
instance:Inhabited a_ea:=⟨⟨0⟩⟩
def b_bj:Ty a_ea:=r_9 (fun x=>(x.now,())) (b_8 (f_7 .i64) l_2)
structure a_hw where
 now:Int
instance:Inhabited a_hw:=⟨⟨0⟩⟩
def b_iv:Ty a_hw:=r_9 (fun x=>(x.now,())) (b_8 (f_7 .i64) l_2)
structure a_f5 where
 none:Int
instance:Inhabited a_f5:=⟨⟨0⟩⟩
def b_e9:Ty a_f5:=r_9 (fun x=>(x.none,())) (b_8 (f_7 .i64) l_2)
def enD:Nat->Type
 |0=>a_2
 |1=>h_6
 |2=>k_1
 |3=>a_1
 |4=>d_5
 |5=>c_8
 |6=>v_8
 |7=>b_9
 |8=>b_1
 |9=>b_4
 |10=>a_hy
 |11=>u_8
 |12=>a_ni
 |13=>x_4
 |14=>a_rc
 |15=>k_4
 |16=>g_6
 |17=>t_6
 |18=>a_d7
 |19=>r_0
 |20=>d_0
 |21=>a_ea
 |22=>a_hw
 |23=>a_f5
 |_=>Unit
def b_rw:(i:Nat)->enD i
 |0=>(default:a_2)
 |1=>(default:h_6)
 |2=>(default:k_1)
 |3=>(default:a_1)
 |4=>(default:d_5)
 |5=>(default:c_8)
 |6=>(default:v_8)
 |7=>(default:b_9)
 |8=>(default:b_1)
 |9=>(default:b_4)
 |10=>(default:a_hy)
 |11=>(default:u_8)
 |12=>(default:a_ni)
 |13=>(default:x_4)
 |14=>(default:a_rc)
 |15=>(default:k_4)
 |16=>(default:g_6)
 |17=>(default:t_6)
 |18=>(default:a_d7)
 |19=>(default:r_0)
 |20=>(default:d_0)
 |21=>(default:a_ea)
 |22=>(default:a_hw)
 |23=>(default:a_f5)
 |_+24=>()
def enFs:Nat->List U
 |0=>[.int .i64,.int .i64,.int .i64,.int .i64,.arr 4 (.int .u64)]
 |1=>[.int .i64,.int .i64]
 |2=>[.int .i64,.int .i64,.int .u8,.bool]
 |3=>[.int .i64,.int .i64,.list (.int .i64)]
 |4=>[.int .i64,.int .i64]
 |5=>[.st 3,.list (.st 4)]
 |6=>[.list (.st 0),.list (.arr 4 (.int .u64)),.list (.st 5),.list (.list (.st 5)),.list (.st 5),.list .bool,.list (.st 4),.bool,.int .i64,.st 3]
 |7=>[.list (.list (.int .i64)),.list (.list (.int .i64))]
 |8=>[.ptr (.st 6),.int .i64,.int .i64,.list (.int .i64),.list (.list (.int .i64)),.st 7]
 |9=>[.list (.st 0),.list (.int .i64),.list (.st 3),.list (.list (.st 3)),.list (.list (.int .i64)),.int .i64,.int .i64,.list (.int .i64),.list (.list (.int .i64)),.st 7]
 |10=>[.ptr (.st 8),.list (.int .i64),.int .i64,.bool]
 |11=>[.st 9,.list (.int .i64),.int .i64,.bool]
 |12=>[.int .i64,.list (.int .i64),.list (.list (.int .i64)),.st 7]
 |13=>[.int .i64,.int .u8]
 |14=>[.int .i64,.int .i64,.int .i64,.int .i64]
 |15=>[.list (.list (.int .i64)),.list (.list (.st 5)),.st 7]
 |16=>[.list (.int .i64),.list (.st 5),.list (.st 3)]
 |17=>[.int .i64,.list (.list .bool)]
 |18=>[.list (.int .i64),.list (.st 3)]
 |19=>[.st 7,.list (.int .i64),.list (.st 3)]
 |20=>[.list (.st 0),.list (.int .i64),.list (.int .i64),.list (.int .i64),.list .bool]
 |21=>[.int .i64]
 |22=>[.int .i64]
 |23=>[.int .i64]
 |_=>[]
def enUn:(i:Nat)->enD i->HL enD (enFs i)
 |0,x=>let x:a_2:=x;(x.Kind,x.A,x.B,x.N,x.Set,())
 |1,x=>let x:h_6:=x;(x.From,x.To,())
 |2,x=>let x:k_1:=x;(x.Kind,x.N,x.B,x.Begin,())
 |3,x=>let x:a_1:=x;(x.To,x.Turn,x.Steps,())
 |4,x=>let x:d_5:=x;(x.Kind,x.Group,())
 |5,x=>let x:c_8:=x;(x.Hop,x.marks,())
 |6,x=>let x:v_8:=x;(x.l,x.sets,x.begin,x.roads,x.ends,x.can,x.none,x.null,x.tags,x.ending,())
 |7,x=>let x:b_9:=x;(x.B,x.D,())
 |8,x=>let x:b_1:=x;(x.chart,x.at_,x.work,x.places,x.values,x.rank,())
 |9,x=>let x:b_4:=x;(x.L,x.Leaves,x.First,x.Hops,x.Ends,x.At,x.Work,x.Places,x.Tags,x.Rank,())
 |10,x=>let x:a_hy:=x;(x.Crowd,x.tags,x.to,x.is,())
 |11,x=>let x:u_8:=x;(x.Crowd,x.Tags,x.To,x.Is,())
 |12,x=>let x:a_ni:=x;(x.Flag,x.Places,x.Maps,x.Rank,())
 |13,x=>let x:x_4:=x;(x.Mode,x.B,())
 |14,x=>let x:a_rc:=x;(x.Depth,x.Node,x.From,x.To,())
 |15,x=>let x:k_4:=x;(x.values,x.roads,x.rank,())
 |16,x=>let x:g_6:=x;(x.from_,x.roads,x.hops,())
 |17,x=>let x:t_6:=x;(x.N,x.Can,())
 |18,x=>let x:a_d7:=x;(x.tags,x.ways,())
 |19,x=>let x:r_0:=x;(x.Rank,x.from_,x.hops,())
 |20,x=>let x:d_0:=x;(x.l,x.up,x.deep,x.index,x.can,())
 |21,x=>let x:a_ea:=x;(x.now,())
 |22,x=>let x:a_hw:=x;(x.now,())
 |23,x=>let x:a_f5:=x;(x.none,())
 |_+24,_=>()
def enMk:(i:Nat)->HL enD (enFs i)->enD i
 |0,h=>(⟨h.1,h.2.1,h.2.2.1,h.2.2.2.1,h.2.2.2.2.1⟩:a_2)
 |1,h=>(⟨h.1,h.2.1⟩:h_6)
 |2,h=>(⟨h.1,h.2.1,h.2.2.1,h.2.2.2.1⟩:k_1)
 |3,h=>(⟨h.1,h.2.1,h.2.2.1⟩:a_1)
 |4,h=>(⟨h.1,h.2.1⟩:d_5)
 |5,h=>(⟨h.1,h.2.1⟩:c_8)
 |6,h=>(⟨h.1,h.2.1,h.2.2.1,h.2.2.2.1,h.2.2.2.2.1,h.2.2.2.2.2.1,h.2.2.2.2.2.2.1,h.2.2.2.2.2.2.2.1,h.2.2.2.2.2.2.2.2.1,h.2.2.2.2.2.2.2.2.2.1⟩:v_8)
 |7,h=>(⟨h.1,h.2.1⟩:b_9)
 |8,h=>(⟨h.1,h.2.1,h.2.2.1,h.2.2.2.1,h.2.2.2.2.1,h.2.2.2.2.2.1⟩:b_1)
 |9,h=>(⟨h.1,h.2.1,h.2.2.1,h.2.2.2.1,h.2.2.2.2.1,h.2.2.2.2.2.1,h.2.2.2.2.2.2.1,h.2.2.2.2.2.2.2.1,h.2.2.2.2.2.2.2.2.1,h.2.2.2.2.2.2.2.2.2.1⟩:b_4)
 |10,h=>(⟨h.1,h.2.1,h.2.2.1,h.2.2.2.1⟩:a_hy)
 |11,h=>(⟨h.1,h.2.1,h.2.2.1,h.2.2.2.1⟩:u_8)
 |12,h=>(⟨h.1,h.2.1,h.2.2.1,h.2.2.2.1⟩:a_ni)
 |13,h=>(⟨h.1,h.2.1⟩:x_4)
 |14,h=>(⟨h.1,h.2.1,h.2.2.1,h.2.2.2.1⟩:a_rc)
 |15,h=>(⟨h.1,h.2.1,h.2.2.1⟩:k_4)
 |16,h=>(⟨h.1,h.2.1,h.2.2.1⟩:g_6)
 |17,h=>(⟨h.1,h.2.1⟩:t_6)
 |18,h=>(⟨h.1,h.2.1⟩:a_d7)
 |19,h=>(⟨h.1,h.2.1,h.2.2.1⟩:r_0)
 |20,h=>(⟨h.1,h.2.1,h.2.2.1,h.2.2.2.1,h.2.2.2.2.1⟩:d_0)
 |21,h=>(⟨h.1⟩:a_ea)
 |22,h=>(⟨h.1⟩:a_hw)
 |23,h=>(⟨h.1⟩:a_f5)
 |_+24,_=>()
def enTy:(i:Nat)->Ty (enD i)
 |0=>a_50
 |1=>b_r1
 |2=>a_zs
 |3=>tHop
 |4=>b_em
 |5=>a_h5
 |6=>a_z3
 |7=>a_v4
 |8=>a_z4
 |9=>a_l7
 |10=>b_hg
 |11=>a_zm
 |12=>b_o7
 |13=>a_z2
 |14=>b_py
 |15=>b_fi
 |16=>b_bv
 |17=>a_wz
 |18=>b_b9
 |19=>b_e6
 |20=>a_6l
 |21=>b_bj
 |22=>b_iv
 |23=>b_e9
 |_+24=>l_2
def enU:Nat->Option U:=fun t=>lkp ([(2,.int .i64),(3,.int .i64),(4,.bool),(5,.int .u8),(6,.int .u8),(9,.str),(10,.str),(11,.str),(12,.int .u64),(21,.int .i32),(22,.list (.st 0)),(23,.list (.int .u8)),(26,.list (.st 1)),(27,.int .i64),(36,.st 1),(38,.list (.st 2)),(39,.ptr (.st 8)),(42,.list .bool),(45,.st 2),(47,.list (.int .i64)),(49,.list (.list (.int .i64))),(52,.st 7),(56,.list (.st 3)),(57,.list (.list (.st 3))),(59,.st 9),(65,.ptr (.st 10)),(73,.st 11),(78,.st 10),(81,.st 12),(93,.st 13),(100,.list (.st 14)),(105,.ptr (.st 6)),(108,.st 8),(109,.list (.list (.st 5))),(111,.st 15),(113,.list (.st 5)),(115,.st 16),(116,.list (.st 16)),(121,.st 3),(122,.list (.st 4)),(124,.st 5),(127,.list (.arr 4 (.int .u64))),(129,.st 6),(143,.int .u64),(144,.arr 4 (.int .u64)),(145,.arr 4 (.int .u64)),(147,.st 0),(152,.list (.list .bool)),(154,.st 17),(164,.list (.st 18)),(171,.st 18),(177,.st 14),(185,.st 19),(188,.st 4),(193,.ptr (.int .i64)),(194,.ptr (.st 16)),(209,.ptr (.st 20)),(227,.st 21),(228,.st 22),(230,.st 23),(239,.st 20),(246,.int .u64),(250,.arr 10 .bool),(255,.int .i64),(262,.int .u32),(269,.int .u64),(274,.ptr (.int .u64)),(283,.int .u8),(284,.int .u8),(286,.ptr (.int .u8)),(287,.int .i32),(288,.int .i32)]:List (Nat×U)) t
noncomputable def en:Env:={ P:=Tryz.prog,D:=enD,inh:=b_rw,fs:=enFs,un:=enUn,mkS:=enMk,ty:=enTy,uT:=enU }
