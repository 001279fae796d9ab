import Derived.Test.YtgeoiflbjcehcaaGreatDoorDj2
import Derived.Test.YtgeoiflbjcehcaaGreatDoorProg
import Derived.KernelRfl
set_option maxHeartbeats 4000000
set_option maxRecDepth 2000
set_option linter.unusedVariables false
set_option linter.unusedSimpArgs false
namespace Go.Proofs.YtgeoiflbjcehcaaGreatDoor
namespace X
open Go
@[reducible] def ty1:Ty:=⟨.func,1,8,[.nilFunc]⟩
@[reducible] def Sz:Ty:=⟨.int .i64,1,8,[.int .i64 0]⟩
@[reducible] def HZ:Ty:=⟨.int .i64,1,8,[.int .i64 0]⟩
@[reducible] def Xt:Ty:=⟨.bool,1,1,[.bool false]⟩
@[reducible] def ty5:Ty:=⟨.int .u8,1,1,[.int .u8 0]⟩
@[reducible] def ty6:Ty:=⟨.int .u8,1,1,[.int .u8 0]⟩
@[reducible] def ty7:Ty:=⟨.struct [(2,0),(3,1),(4,2),(6,3)],4,24,[.int .i64 0,.int .i64 0,.bool false,.int .u8 0]⟩
@[reducible] def ty8:Ty:=⟨.struct [(2,0),(3,1),(4,2),(6,3)],4,24,[.int .i64 0,.int .i64 0,.bool false,.int .u8 0]⟩
@[reducible] def ty9:Ty:=⟨.string,1,16,[.string ByteArray.empty]⟩
@[reducible] def Td:Ty:=⟨.string,1,16,[.string ByteArray.empty]⟩
@[reducible] def Te:Ty:=⟨.string,1,16,[.string ByteArray.empty]⟩
@[reducible] def Tf:Ty:=⟨.int .u64,1,8,[.int .u64 0]⟩
@[reducible] def Tg:Ty:=⟨.struct [(9,0),(12,1)],2,24,[.string ByteArray.empty,.int .u64 0]⟩
@[reducible] def Ti:Ty:=⟨.struct [(9,0),(12,1)],2,24,[.string ByteArray.empty,.int .u64 0]⟩
@[reducible] def Tj:Ty:=⟨.pointer 313,1,8,[.pointer none]⟩
@[reducible] def Tl:Ty:=⟨.pointer 316,1,8,[.pointer none]⟩
@[reducible] def Tm:Ty:=⟨.pointer 323,1,8,[.pointer none]⟩
@[reducible] def Tn:Ty:=⟨.struct [(17,0)],1,8,[.pointer none]⟩
@[reducible] def To:Ty:=⟨.struct [(17,0)],1,8,[.pointer none]⟩
@[reducible] def Tp:Ty:=⟨.iface,1,16,[.nilIface]⟩
@[reducible] def Tq:Ty:=⟨.int .i32,1,4,[.int .i32 0]⟩
@[reducible] def Tr:Ty:=⟨.slice 9,1,24,[.slice none 0 0]⟩
@[reducible] def Ts:Ty:=⟨.func,1,8,[.nilFunc]⟩
@[reducible] def Tt:Ty:=⟨.func,1,8,[.nilFunc]⟩
@[reducible] def Tv:Ty:=⟨.pointer 49,1,8,[.pointer none]⟩
@[reducible] def Tw:Ty:=⟨.func,1,8,[.nilFunc]⟩
@[reducible] def Tx:Ty:=⟨.pointer 31,1,8,[.pointer none]⟩
@[reducible] def Tz:Ty:=⟨.slice 2,1,24,[.slice none 0 0]⟩
@[reducible] def TA:Ty:=⟨.pointer 104,1,8,[.pointer none]⟩
@[reducible] def TB:Ty:=⟨.struct [(9,0),(22,1),(28,2),(29,3)],4,72,[.string ByteArray.empty,.slice none 0 0,.slice none 0 0,.pointer none]⟩
@[reducible] def TC:Ty:=⟨.struct [(9,0),(22,1),(28,2),(29,3)],4,72,[.string ByteArray.empty,.slice none 0 0,.slice none 0 0,.pointer none]⟩
@[reducible] def TD:Ty:=⟨.slice 22,1,24,[.slice none 0 0]⟩
@[reducible] def TE:Ty:=⟨.struct [(3,0),(3,1)],2,16,[.int .i64 0,.int .i64 0]⟩
@[reducible] def O9:Ty:=⟨.struct [(3,0),(3,1)],2,16,[.int .i64 0,.int .i64 0]⟩
@[reducible] def TF:Ty:=⟨.func,1,8,[.nilFunc]⟩
@[reducible] def TG:Ty:=⟨.func,1,8,[.nilFunc]⟩
@[reducible] def TH:Ty:=⟨.func,1,8,[.nilFunc]⟩
@[reducible] def TI:Ty:=⟨.func,1,8,[.nilFunc]⟩
@[reducible] def TJ:Ty:=⟨.int .u64,1,8,[.int .u64 0]⟩
@[reducible] def TL:Ty:=⟨.func,1,8,[.nilFunc]⟩
@[reducible] def TM:Ty:=⟨.func,1,8,[.nilFunc]⟩
@[reducible] def TN:Ty:=⟨.pointer 46,1,8,[.pointer none]⟩
@[reducible] def TO:Ty:=⟨.slice 5,1,24,[.slice none 0 0]⟩
@[reducible] def TP:Ty:=⟨.struct [(43,0),(44,1)],2,32,[.pointer none,.slice none 0 0]⟩
@[reducible] def TQ:Ty:=⟨.struct [(43,0),(44,1)],2,32,[.pointer none,.slice none 0 0]⟩
@[reducible] def TR:Ty:=⟨.pointer 125,1,8,[.pointer none]⟩
@[reducible] def TS:Ty:=⟨.struct [(46,0),(22,2),(28,3),(47,4)],5,88,[.pointer none,.slice none 0 0,.slice none 0 0,.slice none 0 0,.pointer none]⟩
@[reducible] def TT:Ty:=⟨.struct [(46,0),(22,2),(28,3),(47,4)],5,88,[.pointer none,.slice none 0 0,.slice none 0 0,.slice none 0 0,.pointer none]⟩
@[reducible] def TU:Ty:=⟨.func,1,8,[.nilFunc]⟩
@[reducible] def TV:Ty:=⟨.func,1,8,[.nilFunc]⟩
@[reducible] def TW:Ty:=⟨.func,1,8,[.nilFunc]⟩
@[reducible] def TX:Ty:=⟨.func,1,8,[.nilFunc]⟩
@[reducible] def TY:Ty:=⟨.func,1,8,[.nilFunc]⟩
@[reducible] def T3:Ty:=⟨.func,1,8,[.nilFunc]⟩
@[reducible] def T4:Ty:=⟨.func,1,8,[.nilFunc]⟩
@[reducible] def T5:Ty:=⟨.func,1,8,[.nilFunc]⟩
@[reducible] def T6:Ty:=⟨.func,1,8,[.nilFunc]⟩
@[reducible] def T7:Ty:=⟨.func,1,8,[.nilFunc]⟩
@[reducible] def T8:Ty:=⟨.func,1,8,[.nilFunc]⟩
@[reducible] def T9:Ty:=⟨.pointer 5,1,8,[.pointer none]⟩
@[reducible] def Ua:Ty:=⟨.func,1,8,[.nilFunc]⟩
@[reducible] def Ub:Ty:=⟨.slice 134,1,24,[.slice none 0 0]⟩
@[reducible] def Uc:Ty:=⟨.slice 140,1,24,[.slice none 0 0]⟩
@[reducible] def Fg:Ty:=⟨.struct [(66,0),(67,1)],2,48,[.slice none 0 0,.slice none 0 0]⟩
@[reducible] def Ud:Ty:=⟨.func,1,8,[.nilFunc]⟩
@[reducible] def Ue:Ty:=⟨.func,1,8,[.nilFunc]⟩
@[reducible] def Uf:Ty:=⟨.func,1,8,[.nilFunc]⟩
@[reducible] def Ug:Ty:=⟨.struct [(3,0),(28,1),(28,2)],3,56,[.int .i64 0,.slice none 0 0,.slice none 0 0]⟩
@[reducible] def xk:Ty:=⟨.struct [(3,0),(28,1),(28,2)],3,56,[.int .i64 0,.slice none 0 0,.slice none 0 0]⟩
@[reducible] def Uh:Ty:=⟨.int .u64,1,8,[.int .u64 0]⟩
@[reducible] def Ui:Ty:=⟨.struct [(3,0),(3,1),(3,2),(80,3)],4,32,[.int .i64 0,.int .i64 0,.int .i64 0,.int .u64 0]⟩
@[reducible] def Pa:Ty:=⟨.iface,1,16,[.nilIface]⟩
@[reducible] def Uj:Ty:=⟨.func,1,8,[.nilFunc]⟩
@[reducible] def Uk:Ty:=⟨.struct [(3,0),(28,1),(3,2),(3,3),(3,4),(28,5)],6,80,[.int .i64 0,.slice none 0 0,.int .i64 0,.int .i64 0,.int .i64 0,.slice none 0 0]⟩
@[reducible] def Ul:Ty:=⟨.struct [(3,0),(28,1),(3,2),(3,3),(3,4),(28,5)],6,80,[.int .i64 0,.slice none 0 0,.int .i64 0,.int .i64 0,.int .i64 0,.slice none 0 0]⟩
@[reducible] def L9:Ty:=⟨.slice 145,1,24,[.slice none 0 0]⟩
@[reducible] def Ma:Ty:=⟨.func,1,8,[.nilFunc]⟩
@[reducible] def Mb:Ty:=⟨.func,1,8,[.nilFunc]⟩
@[reducible] def Mc:Ty:=⟨.struct [(100,0),(28,1),(99,2),(99,8),(28,14),(4,15)],16,240,[.slice none 0 0,.slice none 0 0,.int .i64 0,.slice none 0 0,.int .i64 0,.int .i64 0,.int .i64 0,.slice none 0 0,.int .i64 0,.slice none 0 0,.int .i64 0,.int .i64 0,.int .i64 0,.slice none 0 0,.slice none 0 0,.bool false]⟩
@[reducible] def Md:Ty:=⟨.struct [(100,0),(28,1),(99,2),(99,8),(28,14),(4,15)],16,240,[.slice none 0 0,.slice none 0 0,.int .i64 0,.slice none 0 0,.int .i64 0,.int .i64 0,.int .i64 0,.slice none 0 0,.int .i64 0,.slice none 0 0,.int .i64 0,.int .i64 0,.int .i64 0,.slice none 0 0,.slice none 0 0,.bool false]⟩
@[reducible] def Mf:Ty:=⟨.func,1,8,[.nilFunc]⟩
@[reducible] def Mg:Ty:=⟨.func,1,8,[.nilFunc]⟩
@[reducible] def Mh:Ty:=⟨.func,1,8,[.nilFunc]⟩
@[reducible] def Mj:Ty:=⟨.func,1,8,[.nilFunc]⟩
@[reducible] def Mk:Ty:=⟨.func,1,8,[.nilFunc]⟩
@[reducible] def Ml:Ty:=⟨.func,1,8,[.nilFunc]⟩
@[reducible] def Mm:Ty:=⟨.func,1,8,[.nilFunc]⟩
@[reducible] def Mn:Ty:=⟨.func,1,8,[.nilFunc]⟩
@[reducible] def Mp:Ty:=⟨.func,1,8,[.nilFunc]⟩
@[reducible] def Mq:Ty:=⟨.func,1,8,[.nilFunc]⟩
@[reducible] def Mr:Ty:=⟨.func,1,8,[.nilFunc]⟩
@[reducible] def Ms:Ty:=⟨.func,1,8,[.nilFunc]⟩
@[reducible] def Mt:Ty:=⟨.pointer 179,1,8,[.pointer none]⟩
@[reducible] def Mu:Ty:=⟨.pointer 225,1,8,[.pointer none]⟩
@[reducible] def Mv:Ty:=⟨.pointer 168,1,8,[.pointer none]⟩
@[reducible] def Mw:Ty:=⟨.slice 219,1,24,[.slice none 0 0]⟩
@[reducible] def Mx:Ty:=⟨.struct [(120,0),(121,1),(122,2),(123,3),(28,4),(3,5)],6,80,[.pointer none,.pointer none,.pointer none,.slice none 0 0,.slice none 0 0,.int .i64 0]⟩
@[reducible] def My:Ty:=⟨.struct [(120,0),(121,1),(122,2),(123,3),(28,4),(3,5)],6,80,[.pointer none,.pointer none,.pointer none,.slice none 0 0,.slice none 0 0,.int .i64 0]⟩
@[reducible] def Mz:Ty:=⟨.slice 185,1,24,[.slice none 0 0]⟩
@[reducible] def MA:Ty:=⟨.pointer 132,1,8,[.pointer none]⟩
@[reducible] def MB:Ty:=⟨.struct [(127,0),(3,1),(3,2),(34,3),(66,5)],6,80,[.slice none 0 0,.int .i64 0,.int .i64 0,.int .i64 0,.int .i64 0,.slice none 0 0]⟩
@[reducible] def MC:Ty:=⟨.struct [(9,0),(3,1)],2,24,[.string ByteArray.empty,.int .i64 0]⟩
@[reducible] def MD:Ty:=⟨.slice 138,1,24,[.slice none 0 0]⟩
@[reducible] def uu:Ty:=⟨.struct [(3,0),(3,1),(2,2),(136,3)],4,48,[.int .i64 0,.int .i64 0,.int .i64 0,.slice none 0 0]⟩
@[reducible] def ME:Ty:=⟨.struct [(3,0),(3,1),(138,2),(138,6),(67,10),(67,11)],12,160,[.int .i64 0,.int .i64 0,.int .i64 0,.int .i64 0,.int .i64 0,.slice none 0 0,.int .i64 0,.int .i64 0,.int .i64 0,.slice none 0 0,.slice none 0 0,.slice none 0 0]⟩
@[reducible] def MF:Ty:=⟨.struct [(3,0),(3,1),(3,2),(2,3)],4,32,[.int .i64 0,.int .i64 0,.int .i64 0,.int .i64 0]⟩
@[reducible] def MG:Ty:=⟨.struct [(3,0),(3,1),(3,2),(2,3)],4,32,[.int .i64 0,.int .i64 0,.int .i64 0,.int .i64 0]⟩
@[reducible] def MH:Ty:=⟨.int .u32,1,4,[.int .u32 0]⟩
@[reducible] def MI:Ty:=⟨.int .i64,1,8,[.int .i64 0]⟩
@[reducible] def MJ:Ty:=⟨.pointer 200,1,8,[.pointer none]⟩
@[reducible] def MK:Ty:=⟨.array 24 5,24,24,List.replicate 24 (.int .u8 0)⟩
@[reducible] def ML:Ty:=⟨.func,1,8,[.nilFunc]⟩
@[reducible] def MN:Ty:=⟨.struct [(28,0),(3,1)],2,32,[.slice none 0 0,.int .i64 0]⟩
@[reducible] def MO:Ty:=⟨.pointer 172,1,8,[.pointer none]⟩
@[reducible] def MP:Ty:=⟨.struct [(69,0),(28,2),(28,3),(28,4),(3,5)],6,128,[.slice none 0 0,.slice none 0 0,.slice none 0 0,.slice none 0 0,.slice none 0 0,.int .i64 0]⟩
@[reducible] def MQ:Ty:=⟨.int .i64,1,8,[.int .i64 0]⟩
@[reducible] def MR:Ty:=⟨.pointer 242,1,8,[.pointer none]⟩
@[reducible] def MS:Ty:=⟨.struct [(177,0),(123,1),(28,2),(122,3),(3,4),(4,5)],6,80,[.pointer none,.slice none 0 0,.slice none 0 0,.pointer none,.int .i64 0,.bool false]⟩
@[reducible] def MT:Ty:=⟨.struct [(3,0),(9,1),(4,2),(2,3)],4,40,[.int .i64 0,.string ByteArray.empty,.bool false,.int .i64 0]⟩
@[reducible] def MU:Ty:=⟨.func,1,8,[.nilFunc]⟩
@[reducible] def MV:Ty:=⟨.pointer 194,1,8,[.pointer none]⟩
@[reducible] def MW:Ty:=⟨.struct [(69,0),(3,2),(3,3)],4,64,[.slice none 0 0,.slice none 0 0,.int .i64 0,.int .i64 0]⟩
@[reducible] def MX:Ty:=⟨.struct [(9,0),(9,1),(87,2)],3,48,[.string ByteArray.empty,.string ByteArray.empty,.nilIface]⟩
@[reducible] def MY:Ty:=⟨.array 20 80,20,160,List.replicate 20 (.int .u64 0)⟩
@[reducible] def MZ:Ty:=⟨.array 65 5,65,65,List.replicate 65 (.int .u8 0)⟩
@[reducible] def M4:Ty:=⟨.slice 257,1,24,[.slice none 0 0]⟩
@[reducible] def M5:Ty:=⟨.struct [(3,0),(3,1)],2,16,[.int .i64 0,.int .i64 0]⟩
@[reducible] def M6:Ty:=⟨.pointer 213,1,8,[.pointer none]⟩
@[reducible] def M7:Ty:=⟨.struct [(206,0),(3,1),(66,2)],3,56,[.slice none 0 0,.int .i64 0,.slice none 0 0]⟩
@[reducible] def M8:Ty:=⟨.pointer 217,1,8,[.pointer none]⟩
@[reducible] def M9:Ty:=⟨.struct [(69,0),(123,2)],3,72,[.slice none 0 0,.slice none 0 0,.slice none 0 0]⟩
@[reducible] def Na:Ty:=⟨.struct [(3,0),(3,1),(3,2),(2,3)],4,32,[.int .i64 0,.int .i64 0,.int .i64 0,.int .i64 0]⟩
@[reducible] def BI:Ty:=⟨.array 8 2,8,64,[.int .i64 0,.int .i64 0,.int .i64 0,.int .i64 0,.int .i64 0,.int .i64 0,.int .i64 0,.int .i64 0]⟩
@[reducible] def Nb:Ty:=⟨.array 34 221,272,2176,List.replicate 272 (.int .i64 0)⟩
@[reducible] def Nc:Ty:=⟨.slice 278,1,24,[.slice none 0 0]⟩
@[reducible] def BJ:Ty:=⟨.struct [(222,0),(223,272)],273,2200,List.replicate 272 (.int .i64 0)++List.replicate 1 (.slice none 0 0)⟩
@[reducible] def Nd:Ty:=⟨.pointer 265,1,8,[.pointer none]⟩
@[reducible] def Nf:Ty:=⟨.func,1,8,[.nilFunc]⟩
@[reducible] def Ng:Ty:=⟨.pointer 233,1,8,[.pointer none]⟩
@[reducible] def Nh:Ty:=⟨.struct [(66,0),(3,1),(3,2)],3,40,[.slice none 0 0,.int .i64 0,.int .i64 0]⟩
@[reducible] def Fh:Ty:=⟨.array 14 4,14,14,List.replicate 14 (.bool false)⟩
@[reducible] def Ni:Ty:=⟨.array 14 221,112,896,List.replicate 112 (.int .i64 0)⟩
@[reducible] def Nj:Ty:=⟨.struct [(228,0),(239,1),(239,15),(240,29)],141,936,List.replicate 1 (.pointer none)++List.replicate 28 (.bool false)++List.replicate 112 (.int .i64 0)⟩
@[reducible] def Nk:Ty:=⟨.struct [(228,0),(239,1),(239,15),(240,29)],141,936,List.replicate 1 (.pointer none)++List.replicate 28 (.bool false)++List.replicate 112 (.int .i64 0)⟩
@[reducible] def Nl:Ty:=⟨.array 256 5,256,256,List.replicate 256 (.int .u8 0)⟩
@[reducible] def Nn:Ty:=⟨.struct [(5,0),(5,1)],2,2,[.int .u8 0,.int .u8 0]⟩
@[reducible] def Np:Ty:=⟨.array 16 250,32,32,List.replicate 32 (.int .u8 0)⟩
@[reducible] def Nq:Ty:=⟨.pointer 254,1,8,[.pointer none]⟩
@[reducible] def Nr:Ty:=⟨.struct [(9,0)],1,16,[.string ByteArray.empty]⟩
@[reducible] def Ns:Ty:=⟨.struct [(3,0),(9,1),(4,2),(2,3)],4,40,[.int .i64 0,.string ByteArray.empty,.bool false,.int .i64 0]⟩
@[reducible] def Nt:Ty:=⟨.array 2 3,2,16,[.int .i64 0,.int .i64 0]⟩
@[reducible] def Nu:Ty:=⟨.array 14 3,14,112,List.replicate 14 (.int .i64 0)⟩
@[reducible] def Fi:Ty:=⟨.struct [(2,0),(260,1),(261,3)],17,136,List.replicate 17 (.int .i64 0)⟩
@[reducible] def Nv:Ty:=⟨.struct [(121,0),(263,1)],18,144,[.pointer none,.int .i64 0,.int .i64 0,.int .i64 0,.int .i64 0,.int .i64 0,.int .i64 0,.int .i64 0,.int .i64 0,.int .i64 0,.int .i64 0,.int .i64 0,.int .i64 0,.int .i64 0,.int .i64 0,.int .i64 0,.int .i64 0,.int .i64 0]⟩
@[reducible] def Nw:Ty:=⟨.func,1,8,[.nilFunc]⟩
@[reducible] def Nx:Ty:=⟨.struct [(3,0),(221,1)],9,72,[.int .i64 0,.int .i64 0,.int .i64 0,.int .i64 0,.int .i64 0,.int .i64 0,.int .i64 0,.int .i64 0,.int .i64 0]⟩
@[reducible] def Ny:Ty:=⟨.array 32 5,32,32,List.replicate 32 (.int .u8 0)⟩
@[reducible] def Nz:Ty:=⟨.array 64 5,64,64,List.replicate 64 (.int .u8 0)⟩
@[reducible] def BK:Ty:=⟨.array 2 2,2,16,[.int .i64 0,.int .i64 0]⟩
@[reducible] def NA:Ty:=⟨.slice 292,1,24,[.slice none 0 0]⟩
@[reducible] def NB:Ty:=⟨.array 8 9,8,128,[.string ByteArray.empty,.string ByteArray.empty,.string ByteArray.empty,.string ByteArray.empty,.string ByteArray.empty,.string ByteArray.empty,.string ByteArray.empty,.string ByteArray.empty]⟩
@[reducible] def NC:Ty:=⟨.struct [(3,0),(221,1)],9,72,[.int .i64 0,.int .i64 0,.int .i64 0,.int .i64 0,.int .i64 0,.int .i64 0,.int .i64 0,.int .i64 0,.int .i64 0]⟩
@[reducible] def ND:Ty:=⟨.array 9 9,9,144,[.string ByteArray.empty,.string ByteArray.empty,.string ByteArray.empty,.string ByteArray.empty,.string ByteArray.empty,.string ByteArray.empty,.string ByteArray.empty,.string ByteArray.empty,.string ByteArray.empty]⟩
@[reducible] def NF:Ty:=⟨.array 9 3,9,72,[.int .i64 0,.int .i64 0,.int .i64 0,.int .i64 0,.int .i64 0,.int .i64 0,.int .i64 0,.int .i64 0,.int .i64 0]⟩
@[reducible] def NG:Ty:=⟨.pointer 301,1,8,[.pointer none]⟩
@[reducible] def BL:Ty:=⟨.slice 3,1,24,[.slice none 0 0]⟩
@[reducible] def NH:Ty:=⟨.struct [(228,0),(3,1),(263,2),(299,19)],20,176,[.pointer none,.int .i64 0,.int .i64 0,.int .i64 0,.int .i64 0,.int .i64 0,.int .i64 0,.int .i64 0,.int .i64 0,.int .i64 0,.int .i64 0,.int .i64 0,.int .i64 0,.int .i64 0,.int .i64 0,.int .i64 0,.int .i64 0,.int .i64 0,.int .i64 0,.slice none 0 0]⟩
@[reducible] def NI:Ty:=⟨.func,1,8,[.nilFunc]⟩
@[reducible] def NJ:Ty:=⟨.pointer 263,1,8,[.pointer none]⟩
@[reducible] def NK:Ty:=⟨.struct [(17,0),(17,1),(17,2),(9,3)],4,40,[.pointer none,.pointer none,.pointer none,.string ByteArray.empty]⟩
@[reducible] def NL:Ty:=⟨.array 0 16,0,0,[]⟩
@[reducible] def NM:Ty:=⟨.struct [(314,0)],0,0,[]⟩
@[reducible] def NN:Ty:=⟨.int .u8,1,1,[.int .u8 0]⟩
@[reducible] def NO:Ty:=⟨.int .u8,1,1,[.int .u8 0]⟩
@[reducible] def NP:Ty:=⟨.func,1,8,[.nilFunc]⟩
@[reducible] def NQ:Ty:=⟨.int .i32,1,4,[.int .i32 0]⟩
@[reducible] def NR:Ty:=⟨.int .i32,1,4,[.int .i32 0]⟩
@[reducible] def NS:Ty:=⟨.struct [(12,0),(12,1),(147,2),(317,3),(5,4),(5,5),(318,6),(319,7),(62,8),(320,9),(321,10)],11,48,[.int .u64 0,.int .u64 0,.int .u32 0,.int .u8 0,.int .u8 0,.int .u8 0,.int .u8 0,.nilFunc,.pointer none,.int .i32 0,.int .i32 0]⟩
@[reducible] def tab (T:Nat):Option Ty:=(match Nat.blt T 116 with|true=>(match Nat.blt T 46 with|true=>(match Nat.blt T 23 with|true=>(match Nat.blt T 12 with|true=>(match Nat.blt T 6 with|true=>(match Nat.blt T 3 with|true=>(match Nat.blt T 2 with|true=>(match Nat.beq T 1 with|true=>some ty1|false=>none)|false=>(match Nat.beq T 2 with|true=>some Sz|false=>none))|false=>(match Nat.blt T 4 with|true=>(match Nat.beq T 3 with|true=>some HZ|false=>none)|false=>(match Nat.blt T 5 with|true=>(match Nat.beq T 4 with|true=>some Xt|false=>none)|false=>(match Nat.beq T 5 with|true=>some ty5|false=>none))))|false=>(match Nat.blt T 9 with|true=>(match Nat.blt T 7 with|true=>(match Nat.beq T 6 with|true=>some ty6|false=>none)|false=>(match Nat.blt T 8 with|true=>(match Nat.beq T 7 with|true=>some ty7|false=>none)|false=>(match Nat.beq T 8 with|true=>some ty8|false=>none)))|false=>(match Nat.blt T 10 with|true=>(match Nat.beq T 9 with|true=>some ty9|false=>none)|false=>(match Nat.blt T 11 with|true=>(match Nat.beq T 10 with|true=>some Td|false=>none)|false=>(match Nat.beq T 11 with|true=>some Te|false=>none)))))|false=>(match Nat.blt T 17 with|true=>(match Nat.blt T 14 with|true=>(match Nat.blt T 13 with|true=>(match Nat.beq T 12 with|true=>some Tf|false=>none)|false=>(match Nat.beq T 13 with|true=>some Tg|false=>none))|false=>(match Nat.blt T 15 with|true=>(match Nat.beq T 14 with|true=>some Ti|false=>none)|false=>(match Nat.blt T 16 with|true=>(match Nat.beq T 15 with|true=>some Tj|false=>none)|false=>(match Nat.beq T 16 with|true=>some Tl|false=>none))))|false=>(match Nat.blt T 20 with|true=>(match Nat.blt T 18 with|true=>(match Nat.beq T 17 with|true=>some Tm|false=>none)|false=>(match Nat.blt T 19 with|true=>(match Nat.beq T 18 with|true=>some Tn|false=>none)|false=>(match Nat.beq T 19 with|true=>some To|false=>none)))|false=>(match Nat.blt T 21 with|true=>(match Nat.beq T 20 with|true=>some Tp|false=>none)|false=>(match Nat.blt T 22 with|true=>(match Nat.beq T 21 with|true=>some Tq|false=>none)|false=>(match Nat.beq T 22 with|true=>some Tr|false=>none))))))|false=>(match Nat.blt T 34 with|true=>(match Nat.blt T 28 with|true=>(match Nat.blt T 25 with|true=>(match Nat.blt T 24 with|true=>(match Nat.beq T 23 with|true=>some Ts|false=>none)|false=>(match Nat.beq T 24 with|true=>some Tt|false=>none))|false=>(match Nat.blt T 26 with|true=>(match Nat.beq T 25 with|true=>some Tv|false=>none)|false=>(match Nat.blt T 27 with|true=>(match Nat.beq T 26 with|true=>some Tw|false=>none)|false=>(match Nat.beq T 27 with|true=>some Tx|false=>none))))|false=>(match Nat.blt T 31 with|true=>(match Nat.blt T 29 with|true=>(match Nat.beq T 28 with|true=>some Tz|false=>none)|false=>(match Nat.blt T 30 with|true=>(match Nat.beq T 29 with|true=>some TA|false=>none)|false=>(match Nat.beq T 30 with|true=>some TB|false=>none)))|false=>(match Nat.blt T 32 with|true=>(match Nat.beq T 31 with|true=>some TC|false=>none)|false=>(match Nat.blt T 33 with|true=>(match Nat.beq T 32 with|true=>some TD|false=>none)|false=>(match Nat.beq T 33 with|true=>some TE|false=>none)))))|false=>(match Nat.blt T 40 with|true=>(match Nat.blt T 37 with|true=>(match Nat.blt T 36 with|true=>(match Nat.beq T 34 with|true=>some O9|false=>none)|false=>(match Nat.beq T 36 with|true=>some TF|false=>none))|false=>(match Nat.blt T 38 with|true=>(match Nat.beq T 37 with|true=>some TG|false=>none)|false=>(match Nat.blt T 39 with|true=>(match Nat.beq T 38 with|true=>some TH|false=>none)|false=>(match Nat.beq T 39 with|true=>some TI|false=>none))))|false=>(match Nat.blt T 43 with|true=>(match Nat.blt T 41 with|true=>(match Nat.beq T 40 with|true=>some TJ|false=>none)|false=>(match Nat.blt T 42 with|true=>(match Nat.beq T 41 with|true=>some TL|false=>none)|false=>(match Nat.beq T 42 with|true=>some TM|false=>none)))|false=>(match Nat.blt T 44 with|true=>(match Nat.beq T 43 with|true=>some TN|false=>none)|false=>(match Nat.blt T 45 with|true=>(match Nat.beq T 44 with|true=>some TO|false=>none)|false=>(match Nat.beq T 45 with|true=>some TP|false=>none)))))))|false=>(match Nat.blt T 73 with|true=>(match Nat.blt T 57 with|true=>(match Nat.blt T 51 with|true=>(match Nat.blt T 48 with|true=>(match Nat.blt T 47 with|true=>(match Nat.beq T 46 with|true=>some TQ|false=>none)|false=>(match Nat.beq T 47 with|true=>some TR|false=>none))|false=>(match Nat.blt T 49 with|true=>(match Nat.beq T 48 with|true=>some TS|false=>none)|false=>(match Nat.blt T 50 with|true=>(match Nat.beq T 49 with|true=>some TT|false=>none)|false=>(match Nat.beq T 50 with|true=>some TU|false=>none))))|false=>(match Nat.blt T 54 with|true=>(match Nat.blt T 52 with|true=>(match Nat.beq T 51 with|true=>some TV|false=>none)|false=>(match Nat.blt T 53 with|true=>(match Nat.beq T 52 with|true=>some TW|false=>none)|false=>(match Nat.beq T 53 with|true=>some TX|false=>none)))|false=>(match Nat.blt T 55 with|true=>(match Nat.beq T 54 with|true=>some TY|false=>none)|false=>(match Nat.blt T 56 with|true=>(match Nat.beq T 55 with|true=>some T3|false=>none)|false=>(match Nat.beq T 56 with|true=>some T4|false=>none)))))|false=>(match Nat.blt T 65 with|true=>(match Nat.blt T 60 with|true=>(match Nat.blt T 59 with|true=>(match Nat.beq T 57 with|true=>some T5|false=>none)|false=>(match Nat.beq T 59 with|true=>some T6|false=>none))|false=>(match Nat.blt T 61 with|true=>(match Nat.beq T 60 with|true=>some T7|false=>none)|false=>(match Nat.blt T 62 with|true=>(match Nat.beq T 61 with|true=>some T8|false=>none)|false=>(match Nat.beq T 62 with|true=>some T9|false=>none))))|false=>(match Nat.blt T 69 with|true=>(match Nat.blt T 66 with|true=>(match Nat.beq T 65 with|true=>some Ua|false=>none)|false=>(match Nat.blt T 67 with|true=>(match Nat.beq T 66 with|true=>some Ub|false=>none)|false=>(match Nat.beq T 67 with|true=>some Uc|false=>none)))|false=>(match Nat.blt T 71 with|true=>(match Nat.beq T 69 with|true=>some Fg|false=>none)|false=>(match Nat.blt T 72 with|true=>(match Nat.beq T 71 with|true=>some Ud|false=>none)|false=>(match Nat.beq T 72 with|true=>some Ue|false=>none))))))|false=>(match Nat.blt T 102 with|true=>(match Nat.blt T 87 with|true=>(match Nat.blt T 75 with|true=>(match Nat.blt T 74 with|true=>(match Nat.beq T 73 with|true=>some Uf|false=>none)|false=>(match Nat.beq T 74 with|true=>some Ug|false=>none))|false=>(match Nat.blt T 80 with|true=>(match Nat.beq T 75 with|true=>some xk|false=>none)|false=>(match Nat.blt T 82 with|true=>(match Nat.beq T 80 with|true=>some Uh|false=>none)|false=>(match Nat.beq T 82 with|true=>some Ui|false=>none))))|false=>(match Nat.blt T 99 with|true=>(match Nat.blt T 97 with|true=>(match Nat.beq T 87 with|true=>some Pa|false=>none)|false=>(match Nat.blt T 98 with|true=>(match Nat.beq T 97 with|true=>some Uj|false=>none)|false=>(match Nat.beq T 98 with|true=>some Uk|false=>none)))|false=>(match Nat.blt T 100 with|true=>(match Nat.beq T 99 with|true=>some Ul|false=>none)|false=>(match Nat.blt T 101 with|true=>(match Nat.beq T 100 with|true=>some L9|false=>none)|false=>(match Nat.beq T 101 with|true=>some Ma|false=>none)))))|false=>(match Nat.blt T 108 with|true=>(match Nat.blt T 105 with|true=>(match Nat.blt T 103 with|true=>(match Nat.beq T 102 with|true=>some Mb|false=>none)|false=>(match Nat.blt T 104 with|true=>(match Nat.beq T 103 with|true=>some Mc|false=>none)|false=>(match Nat.beq T 104 with|true=>some Md|false=>none)))|false=>(match Nat.blt T 106 with|true=>(match Nat.beq T 105 with|true=>some Mf|false=>none)|false=>(match Nat.blt T 107 with|true=>(match Nat.beq T 106 with|true=>some Mg|false=>none)|false=>(match Nat.beq T 107 with|true=>some Mh|false=>none))))|false=>(match Nat.blt T 111 with|true=>(match Nat.blt T 109 with|true=>(match Nat.beq T 108 with|true=>some Mj|false=>none)|false=>(match Nat.blt T 110 with|true=>(match Nat.beq T 109 with|true=>some Mk|false=>none)|false=>(match Nat.beq T 110 with|true=>some Ml|false=>none)))|false=>(match Nat.blt T 113 with|true=>(match Nat.beq T 111 with|true=>some Mm|false=>none)|false=>(match Nat.blt T 114 with|true=>(match Nat.beq T 113 with|true=>some Mn|false=>none)|false=>(match Nat.beq T 114 with|true=>some Mp|false=>none))))))))|false=>(match Nat.blt T 222 with|true=>(match Nat.blt T 160 with|true=>(match Nat.blt T 132 with|true=>(match Nat.blt T 122 with|true=>(match Nat.blt T 119 with|true=>(match Nat.blt T 118 with|true=>(match Nat.beq T 116 with|true=>some Mq|false=>none)|false=>(match Nat.beq T 118 with|true=>some Mr|false=>none))|false=>(match Nat.blt T 120 with|true=>(match Nat.beq T 119 with|true=>some Ms|false=>none)|false=>(match Nat.blt T 121 with|true=>(match Nat.beq T 120 with|true=>some Mt|false=>none)|false=>(match Nat.beq T 121 with|true=>some Mu|false=>none))))|false=>(match Nat.blt T 125 with|true=>(match Nat.blt T 123 with|true=>(match Nat.beq T 122 with|true=>some Mv|false=>none)|false=>(match Nat.blt T 124 with|true=>(match Nat.beq T 123 with|true=>some Mw|false=>none)|false=>(match Nat.beq T 124 with|true=>some Mx|false=>none)))|false=>(match Nat.blt T 127 with|true=>(match Nat.beq T 125 with|true=>some My|false=>none)|false=>(match Nat.blt T 130 with|true=>(match Nat.beq T 127 with|true=>some Mz|false=>none)|false=>(match Nat.beq T 130 with|true=>some MA|false=>none)))))|false=>(match Nat.blt T 144 with|true=>(match Nat.blt T 136 with|true=>(match Nat.blt T 134 with|true=>(match Nat.beq T 132 with|true=>some MB|false=>none)|false=>(match Nat.beq T 134 with|true=>some MC|false=>none))|false=>(match Nat.blt T 138 with|true=>(match Nat.beq T 136 with|true=>some MD|false=>none)|false=>(match Nat.blt T 140 with|true=>(match Nat.beq T 138 with|true=>some uu|false=>none)|false=>(match Nat.beq T 140 with|true=>some ME|false=>none))))|false=>(match Nat.blt T 153 with|true=>(match Nat.blt T 145 with|true=>(match Nat.beq T 144 with|true=>some MF|false=>none)|false=>(match Nat.blt T 147 with|true=>(match Nat.beq T 145 with|true=>some MG|false=>none)|false=>(match Nat.beq T 147 with|true=>some MH|false=>none)))|false=>(match Nat.blt T 156 with|true=>(match Nat.beq T 153 with|true=>some MI|false=>none)|false=>(match Nat.blt T 159 with|true=>(match Nat.beq T 156 with|true=>some MJ|false=>none)|false=>(match Nat.beq T 159 with|true=>some MK|false=>none))))))|false=>(match Nat.blt T 200 with|true=>(match Nat.blt T 177 with|true=>(match Nat.blt T 170 with|true=>(match Nat.blt T 168 with|true=>(match Nat.beq T 160 with|true=>some ML|false=>none)|false=>(match Nat.beq T 168 with|true=>some MN|false=>none))|false=>(match Nat.blt T 172 with|true=>(match Nat.beq T 170 with|true=>some MO|false=>none)|false=>(match Nat.blt T 173 with|true=>(match Nat.beq T 172 with|true=>some MP|false=>none)|false=>(match Nat.beq T 173 with|true=>some MQ|false=>none))))|false=>(match Nat.blt T 186 with|true=>(match Nat.blt T 179 with|true=>(match Nat.beq T 177 with|true=>some MR|false=>none)|false=>(match Nat.blt T 185 with|true=>(match Nat.beq T 179 with|true=>some MS|false=>none)|false=>(match Nat.beq T 185 with|true=>some MT|false=>none)))|false=>(match Nat.blt T 192 with|true=>(match Nat.beq T 186 with|true=>some MU|false=>none)|false=>(match Nat.blt T 194 with|true=>(match Nat.beq T 192 with|true=>some MV|false=>none)|false=>(match Nat.beq T 194 with|true=>some MW|false=>none)))))|false=>(match Nat.blt T 211 with|true=>(match Nat.blt T 204 with|true=>(match Nat.blt T 203 with|true=>(match Nat.beq T 200 with|true=>some MX|false=>none)|false=>(match Nat.beq T 203 with|true=>some MY|false=>none))|false=>(match Nat.blt T 206 with|true=>(match Nat.beq T 204 with|true=>some MZ|false=>none)|false=>(match Nat.blt T 209 with|true=>(match Nat.beq T 206 with|true=>some M4|false=>none)|false=>(match Nat.beq T 209 with|true=>some M5|false=>none))))|false=>(match Nat.blt T 217 with|true=>(match Nat.blt T 213 with|true=>(match Nat.beq T 211 with|true=>some M6|false=>none)|false=>(match Nat.blt T 215 with|true=>(match Nat.beq T 213 with|true=>some M7|false=>none)|false=>(match Nat.beq T 215 with|true=>some M8|false=>none)))|false=>(match Nat.blt T 219 with|true=>(match Nat.beq T 217 with|true=>some M9|false=>none)|false=>(match Nat.blt T 221 with|true=>(match Nat.beq T 219 with|true=>some Na|false=>none)|false=>(match Nat.beq T 221 with|true=>some BI|false=>none)))))))|false=>(match Nat.blt T 278 with|true=>(match Nat.blt T 248 with|true=>(match Nat.blt T 231 with|true=>(match Nat.blt T 225 with|true=>(match Nat.blt T 223 with|true=>(match Nat.beq T 222 with|true=>some Nb|false=>none)|false=>(match Nat.beq T 223 with|true=>some Nc|false=>none))|false=>(match Nat.blt T 228 with|true=>(match Nat.beq T 225 with|true=>some BJ|false=>none)|false=>(match Nat.blt T 229 with|true=>(match Nat.beq T 228 with|true=>some Nd|false=>none)|false=>(match Nat.beq T 229 with|true=>some Nf|false=>none))))|false=>(match Nat.blt T 240 with|true=>(match Nat.blt T 233 with|true=>(match Nat.beq T 231 with|true=>some Ng|false=>none)|false=>(match Nat.blt T 239 with|true=>(match Nat.beq T 233 with|true=>some Nh|false=>none)|false=>(match Nat.beq T 239 with|true=>some Fh|false=>none)))|false=>(match Nat.blt T 241 with|true=>(match Nat.beq T 240 with|true=>some Ni|false=>none)|false=>(match Nat.blt T 242 with|true=>(match Nat.beq T 241 with|true=>some Nj|false=>none)|false=>(match Nat.beq T 242 with|true=>some Nk|false=>none)))))|false=>(match Nat.blt T 257 with|true=>(match Nat.blt T 251 with|true=>(match Nat.blt T 250 with|true=>(match Nat.beq T 248 with|true=>some Nl|false=>none)|false=>(match Nat.beq T 250 with|true=>some Nn|false=>none))|false=>(match Nat.blt T 252 with|true=>(match Nat.beq T 251 with|true=>some Np|false=>none)|false=>(match Nat.blt T 254 with|true=>(match Nat.beq T 252 with|true=>some Nq|false=>none)|false=>(match Nat.beq T 254 with|true=>some Nr|false=>none))))|false=>(match Nat.blt T 263 with|true=>(match Nat.blt T 260 with|true=>(match Nat.beq T 257 with|true=>some Ns|false=>none)|false=>(match Nat.blt T 261 with|true=>(match Nat.beq T 260 with|true=>some Nt|false=>none)|false=>(match Nat.beq T 261 with|true=>some Nu|false=>none)))|false=>(match Nat.blt T 265 with|true=>(match Nat.beq T 263 with|true=>some Fi|false=>none)|false=>(match Nat.blt T 269 with|true=>(match Nat.beq T 265 with|true=>some Nv|false=>none)|false=>(match Nat.beq T 269 with|true=>some Nw|false=>none))))))|false=>(match Nat.blt T 301 with|true=>(match Nat.blt T 290 with|true=>(match Nat.blt T 280 with|true=>(match Nat.blt T 279 with|true=>(match Nat.beq T 278 with|true=>some Nx|false=>none)|false=>(match Nat.beq T 279 with|true=>some Ny|false=>none))|false=>(match Nat.blt T 286 with|true=>(match Nat.beq T 280 with|true=>some Nz|false=>none)|false=>(match Nat.blt T 287 with|true=>(match Nat.beq T 286 with|true=>some BK|false=>none)|false=>(match Nat.beq T 287 with|true=>some NA|false=>none))))|false=>(match Nat.blt T 296 with|true=>(match Nat.blt T 292 with|true=>(match Nat.beq T 290 with|true=>some NB|false=>none)|false=>(match Nat.blt T 295 with|true=>(match Nat.beq T 292 with|true=>some NC|false=>none)|false=>(match Nat.beq T 295 with|true=>some ND|false=>none)))|false=>(match Nat.blt T 298 with|true=>(match Nat.beq T 296 with|true=>some NF|false=>none)|false=>(match Nat.blt T 299 with|true=>(match Nat.beq T 298 with|true=>some NG|false=>none)|false=>(match Nat.beq T 299 with|true=>some BL|false=>none)))))|false=>(match Nat.blt T 317 with|true=>(match Nat.blt T 313 with|true=>(match Nat.blt T 306 with|true=>(match Nat.beq T 301 with|true=>some NH|false=>none)|false=>(match Nat.blt T 307 with|true=>(match Nat.beq T 306 with|true=>some NI|false=>none)|false=>(match Nat.beq T 307 with|true=>some NJ|false=>none)))|false=>(match Nat.blt T 314 with|true=>(match Nat.beq T 313 with|true=>some NK|false=>none)|false=>(match Nat.blt T 316 with|true=>(match Nat.beq T 314 with|true=>some NL|false=>none)|false=>(match Nat.beq T 316 with|true=>some NM|false=>none))))|false=>(match Nat.blt T 320 with|true=>(match Nat.blt T 318 with|true=>(match Nat.beq T 317 with|true=>some NN|false=>none)|false=>(match Nat.blt T 319 with|true=>(match Nat.beq T 318 with|true=>some NO|false=>none)|false=>(match Nat.beq T 319 with|true=>some NP|false=>none)))|false=>(match Nat.blt T 321 with|true=>(match Nat.beq T 320 with|true=>some NQ|false=>none)|false=>(match Nat.blt T 323 with|true=>(match Nat.beq T 321 with|true=>some NR|false=>none)|false=>(match Nat.beq T 323 with|true=>some NS|false=>none)))))))))
theorem Um:av Tryz.prog 1=some ty1:=by kernel_rfl
theorem Un:av Tryz.prog 2=some Sz:=by kernel_rfl
theorem Uo:av Tryz.prog 3=some HZ:=by kernel_rfl
theorem Up:av Tryz.prog 4=some Xt:=by kernel_rfl
theorem Uq:av Tryz.prog 5=some ty5:=by kernel_rfl
theorem Ur:av Tryz.prog 6=some ty6:=by kernel_rfl
theorem Us:av Tryz.prog 7=some ty7:=by kernel_rfl
theorem Ut:av Tryz.prog 8=some ty8:=by kernel_rfl
theorem Uu:av Tryz.prog 9=some ty9:=by kernel_rfl
theorem Pb:av Tryz.prog 10=some Td:=by kernel_rfl
theorem Pc:av Tryz.prog 11=some Te:=by kernel_rfl
theorem Pd:av Tryz.prog 12=some Tf:=by kernel_rfl
theorem Pe:av Tryz.prog 13=some Tg:=by kernel_rfl
theorem Pf:av Tryz.prog 14=some Ti:=by kernel_rfl
theorem Pg:av Tryz.prog 15=some Tj:=by kernel_rfl
theorem Ph:av Tryz.prog 16=some Tl:=by kernel_rfl
theorem Pj:av Tryz.prog 17=some Tm:=by kernel_rfl
theorem Pk:av Tryz.prog 18=some Tn:=by kernel_rfl
theorem Pl:av Tryz.prog 19=some To:=by kernel_rfl
theorem Pm:av Tryz.prog 20=some Tp:=by kernel_rfl
theorem Pn:av Tryz.prog 21=some Tq:=by kernel_rfl
theorem Po:av Tryz.prog 22=some Tr:=by kernel_rfl
theorem Pp:av Tryz.prog 23=some Ts:=by kernel_rfl
theorem Pq:av Tryz.prog 24=some Tt:=by kernel_rfl
theorem Ps:av Tryz.prog 25=some Tv:=by kernel_rfl
theorem Pt:av Tryz.prog 26=some Tw:=by kernel_rfl
theorem Pu:av Tryz.prog 27=some Tx:=by kernel_rfl
theorem Pv:av Tryz.prog 28=some Tz:=by kernel_rfl
theorem Pw:av Tryz.prog 29=some TA:=by kernel_rfl
theorem Px:av Tryz.prog 30=some TB:=by kernel_rfl
theorem Py:av Tryz.prog 31=some TC:=by kernel_rfl
theorem Pz:av Tryz.prog 32=some TD:=by kernel_rfl
theorem PA:av Tryz.prog 33=some TE:=by kernel_rfl
theorem PB:av Tryz.prog 34=some O9:=by kernel_rfl
theorem PC:av Tryz.prog 36=some TF:=by kernel_rfl
theorem PD:av Tryz.prog 37=some TG:=by kernel_rfl
theorem PE:av Tryz.prog 38=some TH:=by kernel_rfl
theorem PF:av Tryz.prog 39=some TI:=by kernel_rfl
theorem PG:av Tryz.prog 40=some TJ:=by kernel_rfl
theorem PI:av Tryz.prog 41=some TL:=by kernel_rfl
theorem PJ:av Tryz.prog 42=some TM:=by kernel_rfl
theorem PK:av Tryz.prog 43=some TN:=by kernel_rfl
theorem PL:av Tryz.prog 44=some TO:=by kernel_rfl
theorem PN:av Tryz.prog 45=some TP:=by kernel_rfl
theorem PO:av Tryz.prog 46=some TQ:=by kernel_rfl
theorem PQ:av Tryz.prog 47=some TR:=by kernel_rfl
theorem PS:av Tryz.prog 48=some TS:=by kernel_rfl
theorem PT:av Tryz.prog 49=some TT:=by kernel_rfl
theorem PU:av Tryz.prog 50=some TU:=by kernel_rfl
theorem PV:av Tryz.prog 51=some TV:=by kernel_rfl
theorem PW:av Tryz.prog 52=some TW:=by kernel_rfl
theorem PX:av Tryz.prog 53=some TX:=by kernel_rfl
theorem PY:av Tryz.prog 54=some TY:=by kernel_rfl
theorem PZ:av Tryz.prog 55=some T3:=by kernel_rfl
theorem P0:av Tryz.prog 56=some T4:=by kernel_rfl
theorem P1:av Tryz.prog 57=some T5:=by kernel_rfl
theorem P2:av Tryz.prog 59=some T6:=by kernel_rfl
theorem P3:av Tryz.prog 60=some T7:=by kernel_rfl
theorem P4:av Tryz.prog 61=some T8:=by kernel_rfl
theorem P5:av Tryz.prog 62=some T9:=by kernel_rfl
theorem P6:av Tryz.prog 65=some Ua:=by kernel_rfl
theorem P7:av Tryz.prog 66=some Ub:=by kernel_rfl
theorem P8:av Tryz.prog 67=some Uc:=by kernel_rfl
theorem P9:av Tryz.prog 69=some Fg:=by kernel_rfl
theorem Qa:av Tryz.prog 71=some Ud:=by kernel_rfl
theorem Qb:av Tryz.prog 72=some Ue:=by kernel_rfl
theorem Qc:av Tryz.prog 73=some Uf:=by kernel_rfl
theorem Qd:av Tryz.prog 74=some Ug:=by kernel_rfl
theorem Qe:av Tryz.prog 75=some xk:=by kernel_rfl
theorem Qf:av Tryz.prog 80=some Uh:=by kernel_rfl
theorem Qg:av Tryz.prog 82=some Ui:=by kernel_rfl
theorem Qh:av Tryz.prog 87=some Pa:=by kernel_rfl
theorem Qi:av Tryz.prog 97=some Uj:=by kernel_rfl
theorem Qj:av Tryz.prog 98=some Uk:=by kernel_rfl
theorem Qk:av Tryz.prog 99=some Ul:=by kernel_rfl
theorem Ix:av Tryz.prog 100=some L9:=by kernel_rfl
theorem Iy:av Tryz.prog 101=some Ma:=by kernel_rfl
theorem Iz:av Tryz.prog 102=some Mb:=by kernel_rfl
theorem IA:av Tryz.prog 103=some Mc:=by kernel_rfl
theorem IB:av Tryz.prog 104=some Md:=by kernel_rfl
theorem IC:av Tryz.prog 105=some Mf:=by kernel_rfl
theorem IE:av Tryz.prog 106=some Mg:=by kernel_rfl
theorem IF:av Tryz.prog 107=some Mh:=by kernel_rfl
theorem IG:av Tryz.prog 108=some Mj:=by kernel_rfl
theorem IH:av Tryz.prog 109=some Mk:=by kernel_rfl
theorem II:av Tryz.prog 110=some Ml:=by kernel_rfl
theorem IJ:av Tryz.prog 111=some Mm:=by kernel_rfl
theorem IK:av Tryz.prog 113=some Mn:=by kernel_rfl
theorem IL:av Tryz.prog 114=some Mp:=by kernel_rfl
theorem IN:av Tryz.prog 116=some Mq:=by kernel_rfl
theorem IP:av Tryz.prog 118=some Mr:=by kernel_rfl
theorem IQ:av Tryz.prog 119=some Ms:=by kernel_rfl
theorem IS:av Tryz.prog 120=some Mt:=by kernel_rfl
theorem IT:av Tryz.prog 121=some Mu:=by kernel_rfl
theorem IU:av Tryz.prog 122=some Mv:=by kernel_rfl
theorem IV:av Tryz.prog 123=some Mw:=by kernel_rfl
theorem IW:av Tryz.prog 124=some Mx:=by kernel_rfl
theorem IX:av Tryz.prog 125=some My:=by kernel_rfl
theorem IY:av Tryz.prog 127=some Mz:=by kernel_rfl
theorem IZ:av Tryz.prog 130=some MA:=by kernel_rfl
theorem I0:av Tryz.prog 132=some MB:=by kernel_rfl
theorem I1:av Tryz.prog 134=some MC:=by kernel_rfl
theorem I3:av Tryz.prog 136=some MD:=by kernel_rfl
theorem I4:av Tryz.prog 138=some uu:=by kernel_rfl
theorem I5:av Tryz.prog 140=some ME:=by kernel_rfl
theorem I6:av Tryz.prog 144=some MF:=by kernel_rfl
theorem I7:av Tryz.prog 145=some MG:=by kernel_rfl
theorem I8:av Tryz.prog 147=some MH:=by kernel_rfl
theorem I9:av Tryz.prog 153=some MI:=by kernel_rfl
theorem Ja:av Tryz.prog 156=some MJ:=by kernel_rfl
theorem Jb:av Tryz.prog 159=some MK:=by kernel_rfl
theorem Jc:av Tryz.prog 160=some ML:=by kernel_rfl
theorem Jd:av Tryz.prog 168=some MN:=by kernel_rfl
theorem Je:av Tryz.prog 170=some MO:=by kernel_rfl
theorem Jf:av Tryz.prog 172=some MP:=by kernel_rfl
theorem Jg:av Tryz.prog 173=some MQ:=by kernel_rfl
theorem Jh:av Tryz.prog 177=some MR:=by kernel_rfl
theorem Ji:av Tryz.prog 179=some MS:=by kernel_rfl
theorem Jj:av Tryz.prog 185=some MT:=by kernel_rfl
theorem Jk:av Tryz.prog 186=some MU:=by kernel_rfl
theorem Jl:av Tryz.prog 192=some MV:=by kernel_rfl
theorem Jm:av Tryz.prog 194=some MW:=by kernel_rfl
theorem Jn:av Tryz.prog 200=some MX:=by kernel_rfl
theorem Jo:av Tryz.prog 203=some MY:=by kernel_rfl
theorem Jp:av Tryz.prog 204=some MZ:=by kernel_rfl
theorem Jq:av Tryz.prog 206=some M4:=by kernel_rfl
theorem Jr:av Tryz.prog 209=some M5:=by kernel_rfl
theorem Js:av Tryz.prog 211=some M6:=by kernel_rfl
theorem Jt:av Tryz.prog 213=some M7:=by kernel_rfl
theorem Ju:av Tryz.prog 215=some M8:=by kernel_rfl
theorem Jv:av Tryz.prog 217=some M9:=by kernel_rfl
theorem Jw:av Tryz.prog 219=some Na:=by kernel_rfl
theorem Jx:av Tryz.prog 221=some BI:=by kernel_rfl
theorem Jy:av Tryz.prog 222=some Nb:=by kernel_rfl
theorem Jz:av Tryz.prog 223=some Nc:=by kernel_rfl
theorem JA:av Tryz.prog 225=some BJ:=by kernel_rfl
theorem JB:av Tryz.prog 228=some Nd:=by kernel_rfl
theorem JC:av Tryz.prog 229=some Nf:=by kernel_rfl
theorem JD:av Tryz.prog 231=some Ng:=by kernel_rfl
theorem JF:av Tryz.prog 233=some Nh:=by kernel_rfl
theorem JG:av Tryz.prog 239=some Fh:=by kernel_rfl
theorem JH:av Tryz.prog 240=some Ni:=by kernel_rfl
theorem JJ:av Tryz.prog 241=some Nj:=by kernel_rfl
theorem JK:av Tryz.prog 242=some Nk:=by kernel_rfl
theorem JL:av Tryz.prog 248=some Nl:=by kernel_rfl
theorem JM:av Tryz.prog 250=some Nn:=by kernel_rfl
theorem JN:av Tryz.prog 251=some Np:=by kernel_rfl
theorem JO:av Tryz.prog 252=some Nq:=by kernel_rfl
theorem JP:av Tryz.prog 254=some Nr:=by kernel_rfl
theorem JQ:av Tryz.prog 257=some Ns:=by kernel_rfl
theorem JR:av Tryz.prog 260=some Nt:=by kernel_rfl
theorem JS:av Tryz.prog 261=some Nu:=by kernel_rfl
theorem JT:av Tryz.prog 263=some Fi:=by kernel_rfl
theorem JU:av Tryz.prog 265=some Nv:=by kernel_rfl
theorem JV:av Tryz.prog 269=some Nw:=by kernel_rfl
theorem JW:av Tryz.prog 278=some Nx:=by kernel_rfl
theorem JX:av Tryz.prog 279=some Ny:=by kernel_rfl
theorem JY:av Tryz.prog 280=some Nz:=by kernel_rfl
theorem JZ:av Tryz.prog 286=some BK:=by kernel_rfl
theorem J0:av Tryz.prog 287=some NA:=by kernel_rfl
theorem J1:av Tryz.prog 290=some NB:=by kernel_rfl
theorem J2:av Tryz.prog 292=some NC:=by kernel_rfl
theorem J3:av Tryz.prog 295=some ND:=by kernel_rfl
theorem J4:av Tryz.prog 296=some NF:=by kernel_rfl
theorem J5:av Tryz.prog 298=some NG:=by kernel_rfl
theorem J6:av Tryz.prog 299=some BL:=by kernel_rfl
theorem J7:av Tryz.prog 301=some NH:=by kernel_rfl
theorem J8:av Tryz.prog 306=some NI:=by kernel_rfl
theorem J9:av Tryz.prog 307=some NJ:=by kernel_rfl
theorem Ka:av Tryz.prog 313=some NK:=by kernel_rfl
theorem Kb:av Tryz.prog 314=some NL:=by kernel_rfl
theorem Kc:av Tryz.prog 316=some NM:=by kernel_rfl
theorem Ke:av Tryz.prog 317=some NN:=by kernel_rfl
theorem Kf:av Tryz.prog 318=some NO:=by kernel_rfl
theorem Kg:av Tryz.prog 319=some NP:=by kernel_rfl
theorem Kh:av Tryz.prog 320=some NQ:=by kernel_rfl
theorem Ki:av Tryz.prog 321=some NR:=by kernel_rfl
theorem Kj:av Tryz.prog 323=some NS:=by kernel_rfl
theorem aq {P:Program} {k T:Nat} {t r:Ty} (hk:av P k=some t) (h:(match Nat.beq T k with|true=>some t|false=>none)=some r):av P T=some r:=by
 split at h
 ·rename_i e;rw[Nat.eq_of_beq_eq_true e,hk,h]
 ·cases h
theorem ar {G:Prop} {r:Ty} {c:Bool} {a b:Option Ty} (h:(match c with|true=>a|false=>b)=some r) (ha:a=some r→G) (hb:b=some r→G):G:=by
 split at h
 ·exact ha h
 ·exact hb h
theorem ad {T:Nat} {r:Ty} (h0:tab T=some r):av Tryz.prog T=some r:=(ar h0 (fun h1=>(ar h1 (fun h2=>(ar h2 (fun h3=>(ar h3 (fun h4=>(ar h4 (fun h5=>(ar h5 (fun h6=>(ar h6 (fun h7=>(aq Um h7)) (fun h7=>(aq Un h7)))) (fun h6=>(ar h6 (fun h7=>(aq Uo h7)) (fun h7=>(ar h7 (fun h8=>(aq Up h8)) (fun h8=>(aq Uq h8)))))))) (fun h5=>(ar h5 (fun h6=>(ar h6 (fun h7=>(aq Ur h7)) (fun h7=>(ar h7 (fun h8=>(aq Us h8)) (fun h8=>(aq Ut h8)))))) (fun h6=>(ar h6 (fun h7=>(aq Uu h7)) (fun h7=>(ar h7 (fun h8=>(aq Pb h8)) (fun h8=>(aq Pc h8)))))))))) (fun h4=>(ar h4 (fun h5=>(ar h5 (fun h6=>(ar h6 (fun h7=>(aq Pd h7)) (fun h7=>(aq Pe h7)))) (fun h6=>(ar h6 (fun h7=>(aq Pf h7)) (fun h7=>(ar h7 (fun h8=>(aq Pg h8)) (fun h8=>(aq Ph h8)))))))) (fun h5=>(ar h5 (fun h6=>(ar h6 (fun h7=>(aq Pj h7)) (fun h7=>(ar h7 (fun h8=>(aq Pk h8)) (fun h8=>(aq Pl h8)))))) (fun h6=>(ar h6 (fun h7=>(aq Pm h7)) (fun h7=>(ar h7 (fun h8=>(aq Pn h8)) (fun h8=>(aq Po h8)))))))))))) (fun h3=>(ar h3 (fun h4=>(ar h4 (fun h5=>(ar h5 (fun h6=>(ar h6 (fun h7=>(aq Pp h7)) (fun h7=>(aq Pq h7)))) (fun h6=>(ar h6 (fun h7=>(aq Ps h7)) (fun h7=>(ar h7 (fun h8=>(aq Pt h8)) (fun h8=>(aq Pu h8)))))))) (fun h5=>(ar h5 (fun h6=>(ar h6 (fun h7=>(aq Pv h7)) (fun h7=>(ar h7 (fun h8=>(aq Pw h8)) (fun h8=>(aq Px h8)))))) (fun h6=>(ar h6 (fun h7=>(aq Py h7)) (fun h7=>(ar h7 (fun h8=>(aq Pz h8)) (fun h8=>(aq PA h8)))))))))) (fun h4=>(ar h4 (fun h5=>(ar h5 (fun h6=>(ar h6 (fun h7=>(aq PB h7)) (fun h7=>(aq PC h7)))) (fun h6=>(ar h6 (fun h7=>(aq PD h7)) (fun h7=>(ar h7 (fun h8=>(aq PE h8)) (fun h8=>(aq PF h8)))))))) (fun h5=>(ar h5 (fun h6=>(ar h6 (fun h7=>(aq PG h7)) (fun h7=>(ar h7 (fun h8=>(aq PI h8)) (fun h8=>(aq PJ h8)))))) (fun h6=>(ar h6 (fun h7=>(aq PK h7)) (fun h7=>(ar h7 (fun h8=>(aq PL h8)) (fun h8=>(aq PN h8)))))))))))))) (fun h2=>(ar h2 (fun h3=>(ar h3 (fun h4=>(ar h4 (fun h5=>(ar h5 (fun h6=>(ar h6 (fun h7=>(aq PO h7)) (fun h7=>(aq PQ h7)))) (fun h6=>(ar h6 (fun h7=>(aq PS h7)) (fun h7=>(ar h7 (fun h8=>(aq PT h8)) (fun h8=>(aq PU h8)))))))) (fun h5=>(ar h5 (fun h6=>(ar h6 (fun h7=>(aq PV h7)) (fun h7=>(ar h7 (fun h8=>(aq PW h8)) (fun h8=>(aq PX h8)))))) (fun h6=>(ar h6 (fun h7=>(aq PY h7)) (fun h7=>(ar h7 (fun h8=>(aq PZ h8)) (fun h8=>(aq P0 h8)))))))))) (fun h4=>(ar h4 (fun h5=>(ar h5 (fun h6=>(ar h6 (fun h7=>(aq P1 h7)) (fun h7=>(aq P2 h7)))) (fun h6=>(ar h6 (fun h7=>(aq P3 h7)) (fun h7=>(ar h7 (fun h8=>(aq P4 h8)) (fun h8=>(aq P5 h8)))))))) (fun h5=>(ar h5 (fun h6=>(ar h6 (fun h7=>(aq P6 h7)) (fun h7=>(ar h7 (fun h8=>(aq P7 h8)) (fun h8=>(aq P8 h8)))))) (fun h6=>(ar h6 (fun h7=>(aq P9 h7)) (fun h7=>(ar h7 (fun h8=>(aq Qa h8)) (fun h8=>(aq Qb h8)))))))))))) (fun h3=>(ar h3 (fun h4=>(ar h4 (fun h5=>(ar h5 (fun h6=>(ar h6 (fun h7=>(aq Qc h7)) (fun h7=>(aq Qd h7)))) (fun h6=>(ar h6 (fun h7=>(aq Qe h7)) (fun h7=>(ar h7 (fun h8=>(aq Qf h8)) (fun h8=>(aq Qg h8)))))))) (fun h5=>(ar h5 (fun h6=>(ar h6 (fun h7=>(aq Qh h7)) (fun h7=>(ar h7 (fun h8=>(aq Qi h8)) (fun h8=>(aq Qj h8)))))) (fun h6=>(ar h6 (fun h7=>(aq Qk h7)) (fun h7=>(ar h7 (fun h8=>(aq Ix h8)) (fun h8=>(aq Iy h8)))))))))) (fun h4=>(ar h4 (fun h5=>(ar h5 (fun h6=>(ar h6 (fun h7=>(aq Iz h7)) (fun h7=>(ar h7 (fun h8=>(aq IA h8)) (fun h8=>(aq IB h8)))))) (fun h6=>(ar h6 (fun h7=>(aq IC h7)) (fun h7=>(ar h7 (fun h8=>(aq IE h8)) (fun h8=>(aq IF h8)))))))) (fun h5=>(ar h5 (fun h6=>(ar h6 (fun h7=>(aq IG h7)) (fun h7=>(ar h7 (fun h8=>(aq IH h8)) (fun h8=>(aq II h8)))))) (fun h6=>(ar h6 (fun h7=>(aq IJ h7)) (fun h7=>(ar h7 (fun h8=>(aq IK h8)) (fun h8=>(aq IL h8)))))))))))))))) (fun h1=>(ar h1 (fun h2=>(ar h2 (fun h3=>(ar h3 (fun h4=>(ar h4 (fun h5=>(ar h5 (fun h6=>(ar h6 (fun h7=>(aq IN h7)) (fun h7=>(aq IP h7)))) (fun h6=>(ar h6 (fun h7=>(aq IQ h7)) (fun h7=>(ar h7 (fun h8=>(aq IS h8)) (fun h8=>(aq IT h8)))))))) (fun h5=>(ar h5 (fun h6=>(ar h6 (fun h7=>(aq IU h7)) (fun h7=>(ar h7 (fun h8=>(aq IV h8)) (fun h8=>(aq IW h8)))))) (fun h6=>(ar h6 (fun h7=>(aq IX h7)) (fun h7=>(ar h7 (fun h8=>(aq IY h8)) (fun h8=>(aq IZ h8)))))))))) (fun h4=>(ar h4 (fun h5=>(ar h5 (fun h6=>(ar h6 (fun h7=>(aq I0 h7)) (fun h7=>(aq I1 h7)))) (fun h6=>(ar h6 (fun h7=>(aq I3 h7)) (fun h7=>(ar h7 (fun h8=>(aq I4 h8)) (fun h8=>(aq I5 h8)))))))) (fun h5=>(ar h5 (fun h6=>(ar h6 (fun h7=>(aq I6 h7)) (fun h7=>(ar h7 (fun h8=>(aq I7 h8)) (fun h8=>(aq I8 h8)))))) (fun h6=>(ar h6 (fun h7=>(aq I9 h7)) (fun h7=>(ar h7 (fun h8=>(aq Ja h8)) (fun h8=>(aq Jb h8)))))))))))) (fun h3=>(ar h3 (fun h4=>(ar h4 (fun h5=>(ar h5 (fun h6=>(ar h6 (fun h7=>(aq Jc h7)) (fun h7=>(aq Jd h7)))) (fun h6=>(ar h6 (fun h7=>(aq Je h7)) (fun h7=>(ar h7 (fun h8=>(aq Jf h8)) (fun h8=>(aq Jg h8)))))))) (fun h5=>(ar h5 (fun h6=>(ar h6 (fun h7=>(aq Jh h7)) (fun h7=>(ar h7 (fun h8=>(aq Ji h8)) (fun h8=>(aq Jj h8)))))) (fun h6=>(ar h6 (fun h7=>(aq Jk h7)) (fun h7=>(ar h7 (fun h8=>(aq Jl h8)) (fun h8=>(aq Jm h8)))))))))) (fun h4=>(ar h4 (fun h5=>(ar h5 (fun h6=>(ar h6 (fun h7=>(aq Jn h7)) (fun h7=>(aq Jo h7)))) (fun h6=>(ar h6 (fun h7=>(aq Jp h7)) (fun h7=>(ar h7 (fun h8=>(aq Jq h8)) (fun h8=>(aq Jr h8)))))))) (fun h5=>(ar h5 (fun h6=>(ar h6 (fun h7=>(aq Js h7)) (fun h7=>(ar h7 (fun h8=>(aq Jt h8)) (fun h8=>(aq Ju h8)))))) (fun h6=>(ar h6 (fun h7=>(aq Jv h7)) (fun h7=>(ar h7 (fun h8=>(aq Jw h8)) (fun h8=>(aq Jx h8)))))))))))))) (fun h2=>(ar h2 (fun h3=>(ar h3 (fun h4=>(ar h4 (fun h5=>(ar h5 (fun h6=>(ar h6 (fun h7=>(aq Jy h7)) (fun h7=>(aq Jz h7)))) (fun h6=>(ar h6 (fun h7=>(aq JA h7)) (fun h7=>(ar h7 (fun h8=>(aq JB h8)) (fun h8=>(aq JC h8)))))))) (fun h5=>(ar h5 (fun h6=>(ar h6 (fun h7=>(aq JD h7)) (fun h7=>(ar h7 (fun h8=>(aq JF h8)) (fun h8=>(aq JG h8)))))) (fun h6=>(ar h6 (fun h7=>(aq JH h7)) (fun h7=>(ar h7 (fun h8=>(aq JJ h8)) (fun h8=>(aq JK h8)))))))))) (fun h4=>(ar h4 (fun h5=>(ar h5 (fun h6=>(ar h6 (fun h7=>(aq JL h7)) (fun h7=>(aq JM h7)))) (fun h6=>(ar h6 (fun h7=>(aq JN h7)) (fun h7=>(ar h7 (fun h8=>(aq JO h8)) (fun h8=>(aq JP h8)))))))) (fun h5=>(ar h5 (fun h6=>(ar h6 (fun h7=>(aq JQ h7)) (fun h7=>(ar h7 (fun h8=>(aq JR h8)) (fun h8=>(aq JS h8)))))) (fun h6=>(ar h6 (fun h7=>(aq JT h7)) (fun h7=>(ar h7 (fun h8=>(aq JU h8)) (fun h8=>(aq JV h8)))))))))))) (fun h3=>(ar h3 (fun h4=>(ar h4 (fun h5=>(ar h5 (fun h6=>(ar h6 (fun h7=>(aq JW h7)) (fun h7=>(aq JX h7)))) (fun h6=>(ar h6 (fun h7=>(aq JY h7)) (fun h7=>(ar h7 (fun h8=>(aq JZ h8)) (fun h8=>(aq J0 h8)))))))) (fun h5=>(ar h5 (fun h6=>(ar h6 (fun h7=>(aq J1 h7)) (fun h7=>(ar h7 (fun h8=>(aq J2 h8)) (fun h8=>(aq J3 h8)))))) (fun h6=>(ar h6 (fun h7=>(aq J4 h7)) (fun h7=>(ar h7 (fun h8=>(aq J5 h8)) (fun h8=>(aq J6 h8)))))))))) (fun h4=>(ar h4 (fun h5=>(ar h5 (fun h6=>(ar h6 (fun h7=>(aq J7 h7)) (fun h7=>(ar h7 (fun h8=>(aq J8 h8)) (fun h8=>(aq J9 h8)))))) (fun h6=>(ar h6 (fun h7=>(aq Ka h7)) (fun h7=>(ar h7 (fun h8=>(aq Kb h8)) (fun h8=>(aq Kc h8)))))))) (fun h5=>(ar h5 (fun h6=>(ar h6 (fun h7=>(aq Ke h7)) (fun h7=>(ar h7 (fun h8=>(aq Kf h8)) (fun h8=>(aq Kg h8)))))) (fun h6=>(ar h6 (fun h7=>(aq Kh h7)) (fun h7=>(ar h7 (fun h8=>(aq Ki h8)) (fun h8=>(aq Kj h8)))))))))))))))))
end X
namespace X
open Go
section
variable {P:Program} {ρ:Env} {S:Heap→Prop} {ty:TypeId}
end
end X
end Go.Proofs.YtgeoiflbjcehcaaGreatDoor
