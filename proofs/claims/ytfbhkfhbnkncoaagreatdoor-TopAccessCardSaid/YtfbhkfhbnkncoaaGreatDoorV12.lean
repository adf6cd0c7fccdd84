import Derived.Test.YtfbhkfhbnkncoaaGreatDoorV11
import Derived.KernelRfl
import Derived.Test.YtfbhkfhbnkncoaaGreatDoorProg
import Derived.Orders
set_option linter.all false
namespace Go.Proofs.YtfbhkfhbnkncoaaGreatDoor
open Go.RowKit Tryz
open Tryz renaming prog→a6
namespace Sx
variable{c:Code}{Kp:D->MS->Prop}{fn:Func}{f:FuncId}{m:MS}{d i n:Nat}{K:Out->MS->Prop}{b:Prop}{G:Prop->Prop}{α β:Type}{T:TypeId}
def z24:ZT:=.H (.z .i64) (.H (.X (.st)) (.H (.st) .un))
def LG:ZT:=.ar 32 (.z .i64)
def FX:ZT:=.H (LG) (.H (LG) .un)
def Cf:ZT:=.ar 2 (.z .i64)
def TY:ZT:=.H (.X (Cf)) (.H (.z .i64) .un)
def TZ:ZT:=.ar 8 (.z .i64)
def T0:ZT:=.H (.z .i64) (.H (.z .i64) (.H (TY) (.H (TZ) .un)))
def T1:ZT:=.ar 32 (T0)
def ye:ZT:=.H (FX) (.H (T1) .un)
def zS:ZT:=.ar 8 (.I)
def FY:ZT:=.H (.z .i64) (.H (.z .i64) (.H (zS) .un))
def LI:ZT:=.H (.X (.z .i64)) (.H (.X (FY)) .un)
def T4:ZT:=.H (.z .i64) (.H (.z .i64) (.H (.z .i64) (.H (.I) (.H (.z .i64) .un))))
def T5:ZT:=.ar 32 (T4)
def zR:ZT:=.H (FX) (.H (T5) .un)
def T6:ZT:=.H (ye) (.H (LI) (.H (zR) .un))
def LH:ZT:=.H (.z .i64) (.H (.z .u64) (.H (.z .i64) (.H (.I) .un)))
def T7:ZT:=.H (.X (LH)) (.H (.I) .un)
def T8:ZT:=.ar 8 (T7)
def T9:ZT:=.ar 32 (.X (.z .u8))
def pn:ZT:=.H (T6) (.H (T8) (.H (zS) (.H (zS) (.H (T9) (.H (.X (Cf)) .un)))))
def FZ:ZT:=.H (.z .u8) (.H (.z .u32) (.H (.z .u32) (.H (.z .u32) (.H (.z .u32) (.H (.z .u64) .un)))))
def vE:ZT:=.H (.z .i64) (.H (.z .i64) .un)
def LJ:ZT:=.H (.z .i64) (.H (.z .u64) (.H (.z .u32) .un))
def LK:ZT:=.H (.z .i64) (.H (FZ) (.H (vE) (.H (LJ) (.H (.z .i64) (.H (.z .i64) .un)))))
def Ua:ZT:=.H (.z .u32) (.H (.I) (.H (.I) .un))
def Ub:ZT:=.ar 32 (Ua)
def Ga:ZT:=.H (Ub) .un
def Uc:ZT:=.H (Ga) .un
def Ud:ZT:=.H (.X (vE)) (.H (.z .i64) .un)
def Ue:ZT:=.ar 8 (.z .u32)
def Uf:ZT:=.H (.z .u32) (.H (.z .i64) (.H (Ud) (.H (Ue) .un)))
def Ug:ZT:=.ar 32 (Uf)
def uG:ZT:=.H (Uc) (.H (Ug) .un)
def Uh:ZT:=.H (.z .u8) (.H (.z .u8) (.H (.z .u8) .un))
def Tv:ZT:=.H (.z .u32) (.H (Uh) .un)
def Tw:ZT:=.ar 32 (Tv)
def Tx:ZT:=.H (Tw) .un
def Tz:ZT:=.H (.z .u32) (.H (.z .u8) (.H (.z .u8) (.H (.I) (.H (.z .u32) .un))))
def TA:ZT:=.ar 16 (Tz)
def Ce:ZT:=.H (Ga) (.H (TA) .un)
def TB:ZT:=.H (uG) (.H (Tx) (.H (Ce) .un))
def Lz:ZT:=.H (.z .u8) (.H (.z .u64) (.H (.z .u32) (.H (.I) .un)))
def TC:ZT:=.ar 4 (Lz)
def TD:ZT:=.H (TC) (.H (.z .i64) (.H (.z .i64) (.H (.I) .un)))
def TE:ZT:=.ar 8 (TD)
def LA:ZT:=.H (TB) (.H (TE) (.H (zS) (.H (zS) .un)))
def TG:ZT:=.ar 8 (.z .u8)
def TH:ZT:=.H (.z .u8) (.H (.z .i64) (.H (TG) .un))
def TJ:ZT:=.ar 32 (TH)
def TL:ZT:=.H (TJ) .un
def zff:ZT:=.H (LA) (.H (.np) (.H (TL) (.H (.ow (.z .i64)) .un)))
def TM:ZT:=.H (.z .i64) (.H (.z .i64) (.H (.z .i64) (.H (.z .i64) .un)))
def LB:ZT:=.H (.X (vE)) .un
def TN:ZT:=.H (.z .i64) (.H (.z .i64) (.H (.z .i64) (.H (.z .i64) (.H (.z .i64) (.H (.z .i64) (.H (.I) (.H (.I) .un)))))))
def TO:ZT:=.ar 8 (TN)
def TP:ZT:=.ar 23 (.z .i64)
def zfg:ZT:=.H (.z .i64) (.H (TO) (.H (TP) (.H (TM) (.H (.X (.z .i64)) .un))))
def zfh:ZT:=.H (.z .i64) (.H (.X (.st)) (.H (.X (.z .u8)) .un))
def TQ:ZT:=.ar 8 (.z .u64)
def LF:ZT:=.H (.z .u8) (.H (.z .u8) (.H (.z .u8) (.H (.z .u8) (.H (.z .u16) .un))))
def TR:ZT:=.H (.X (LF)) (.H (.z .i64) (.H (TQ) .un))
def LC:ZT:=.H (.z .i64) (.H (FZ) (.H (.I) (.H (.X (.z .u32)) (.H (vE) (.H (.z .i64) .un)))))
def TS:ZT:=.H (TR) (.H (LC) (.H (.I) (.H (.z .i64) .un)))
def TU:ZT:=.ar 8 (TS)
def LD:ZT:=.H (.np) (.H (TU) (.H (.z .i64) (.H (.ow (LK)) .un)))
def zfi:ZT:=.H (.z .i64) (.H (.z .i64) (.H (.z .i64) (.H (.z .i64) (.H (.z .i64) (.H (.z .u64) .un)))))
def sP:ZT:=.H (.z .i64) (.H (.z .u64) (.H (.z .i64) .un))
def zfj:ZT:=.ar 64 (.I)
def zfk:ZT:=.H (LA) (.H (.z .i64) (.H (FZ) (.H (vE) (.H (.z .i64) (.H (.I) (.H (.ow (vE)) .un))))))
def TV:ZT:=.ar 32 (.z .u8)
def TW:ZT:=.ar 64 (TV)
def zfl:ZT:=.H (.z .i64) (.H (LB) (.H (TW) .un))
def TX:ZT:=.H (.z .i64) (.H (.z .i64) (.H (.z .i64) (.H (.z .i64) (.H (.z .i64) .un))))
def zfm:ZT:=.ar 6 (.z .u8)
def zfn:ZT:=.H (.np) (.H (LC) (.H (LJ) (.H (.I) .un)))
def zfo:ZT:=.ar 5 (.nf)
def zfp:ZT:=.ar 32 (.I)
def i3:TI:={size:=1,ag:=false,k:=.int .i64,zero:=.z .i64}
def i4:TI:={size:=1,ag:=false,k:=.bool,zero:=.I}
def i5:TI:={size:=1,ag:=false,k:=.int .u8,zero:=.z .u8}
def i9:TI:={size:=1,ag:=false,k:=.str,zero:=.st}
def ZK:TI:={size:=1,ag:=false,k:=.iface,zero:=.ni}
def ZR:TI:={size:=1,ag:=false,k:=.slice 9,zero:=.X (.st)}
def ZU:TI:={size:=3,ag:=true,k:=.struct [(0,3),(1,22),(2,9)],zero:=z24}
def Z1:TI:={size:=1,ag:=false,k:=.other,zero:=.nf}
def Z4:TI:={size:=1,ag:=false,k:=.ptr 167,zero:=.np}
def d6:TI:={size:=32,ag:=true,k:=.array 32 3,zero:=LG}
def d7:TI:={size:=64,ag:=true,k:=.struct [(0,29),(32,29)],zero:=FX}
def i32:TI:={size:=1,ag:=false,k:=.slice 179,zero:=.X (Cf)}
def fd:TI:={size:=2,ag:=true,k:=.struct [(0,32),(1,3)],zero:=TY}
def io:TI:={size:=8,ag:=true,k:=.array 8 3,zero:=TZ}
def li:TI:={size:=12,ag:=true,k:=.struct [(0,3),(1,3),(2,34),(4,35)],zero:=T0}
def mt:TI:={size:=384,ag:=true,k:=.array 32 37,zero:=T1}
def pi:TI:={size:=448,ag:=true,k:=.struct [(0,31),(64,38)],zero:=ye}
def Py:TI:={size:=1,ag:=false,k:=.slice 3,zero:=.X (.z .i64)}
def Pz:TI:={size:=1,ag:=false,k:=.slice 316,zero:=.X (FY)}
def PA:TI:={size:=2,ag:=true,k:=.struct [(0,41),(1,42)],zero:=LI}
def s1:TI:={size:=5,ag:=true,k:=.struct [(0,3),(1,3),(2,3),(3,4),(4,3)],zero:=T4}
def t3:TI:={size:=160,ag:=true,k:=.array 32 46,zero:=T5}
def t5:TI:={size:=224,ag:=true,k:=.struct [(0,31),(64,47)],zero:=zR}
def t6:TI:={size:=674,ag:=true,k:=.struct [(0,40),(448,44),(450,49)],zero:=T6}
def t7:TI:={size:=1,ag:=false,k:=.slice 323,zero:=.X (LH)}
def t8:TI:={size:=2,ag:=true,k:=.struct [(0,52),(1,4)],zero:=T7}
def t9:TI:={size:=16,ag:=true,k:=.array 8 54,zero:=T8}
def ul:TI:={size:=8,ag:=true,k:=.array 8 4,zero:=zS}
def ut:TI:={size:=1,ag:=false,k:=.slice 5,zero:=.X (.z .u8)}
def v0:TI:={size:=32,ag:=true,k:=.array 32 57,zero:=T9}
def v6:TI:={size:=739,ag:=true,k:=.struct [(0,51),(674,55),(690,56),(698,56),(706,58),(738,32)],zero:=pn}
def El:TI:={size:=1,ag:=false,k:=.int .i64,zero:=.z .i64}
def i64:TI:={size:=1,ag:=false,k:=.slice 78,zero:=.X (LK)}
def wd:TI:={size:=1,ag:=false,k:=.int .u32,zero:=.z .u32}
def wl:TI:={size:=1,ag:=false,k:=.int .u32,zero:=.z .u32}
def wn:TI:={size:=1,ag:=false,k:=.int .u64,zero:=.z .u64}
def wp:TI:={size:=6,ag:=true,k:=.struct [(0,5),(1,69),(2,69),(3,68),(4,68),(5,70)],zero:=FZ}
def tm:TI:={size:=2,ag:=true,k:=.struct [(0,3),(1,3)],zero:=vE}
def Em:TI:={size:=3,ag:=true,k:=.struct [(0,62),(1,70),(2,69)],zero:=LJ}
def ww:TI:={size:=14,ag:=true,k:=.struct [(0,3),(1,72),(7,74),(9,76),(12,3),(13,3)],zero:=LK}
def xs:TI:={size:=3,ag:=true,k:=.struct [(0,68),(1,4),(2,4)],zero:=Ua}
def AC:TI:={size:=96,ag:=true,k:=.array 32 82,zero:=Ub}
def Do:TI:={size:=96,ag:=true,k:=.struct [(0,83)],zero:=Ga}
def EQ:TI:={size:=96,ag:=true,k:=.struct [(0,85)],zero:=Uc}
def Fd:TI:={size:=1,ag:=false,k:=.slice 74,zero:=.X (vE)}
def Fr:TI:={size:=2,ag:=true,k:=.struct [(0,88),(1,3)],zero:=Ud}
def GE:TI:={size:=8,ag:=true,k:=.array 8 69,zero:=Ue}
def GT:TI:={size:=12,ag:=true,k:=.struct [(0,69),(1,3),(2,90),(4,91)],zero:=Uf}
def Id:TI:={size:=384,ag:=true,k:=.array 32 93,zero:=Ug}
def If:TI:={size:=480,ag:=true,k:=.struct [(0,87),(96,94)],zero:=uG}
def In:TI:={size:=3,ag:=true,k:=.struct [(0,5),(1,5),(2,5)],zero:=Uh}
def Y7:TI:={size:=4,ag:=true,k:=.struct [(0,69),(1,98)],zero:=Tv}
def Y8:TI:={size:=128,ag:=true,k:=.array 32 100,zero:=Tw}
def Y9:TI:={size:=128,ag:=true,k:=.struct [(0,101)],zero:=Tx}
def Za:TI:={size:=5,ag:=true,k:=.struct [(0,69),(1,5),(2,5),(3,4),(4,69)],zero:=Tz}
def Zb:TI:={size:=80,ag:=true,k:=.array 16 105,zero:=TA}
def Zc:TI:={size:=176,ag:=true,k:=.struct [(0,85),(96,106)],zero:=Ce}
def Zd:TI:={size:=784,ag:=true,k:=.struct [(0,96),(480,103),(608,108)],zero:=TB}
def Ze:TI:={size:=4,ag:=true,k:=.struct [(0,5),(1,70),(2,69),(3,4)],zero:=Lz}
def Zf:TI:={size:=16,ag:=true,k:=.array 4 112,zero:=TC}
def Zg:TI:={size:=19,ag:=true,k:=.struct [(0,113),(16,3),(17,3),(18,4)],zero:=TD}
def Zh:TI:={size:=152,ag:=true,k:=.array 8 115,zero:=TE}
def Zi:TI:={size:=952,ag:=true,k:=.struct [(0,110),(784,116),(936,56),(944,56)],zero:=LA}
def Zj:TI:={size:=1,ag:=false,k:=.ptr 205,zero:=.np}
def Zk:TI:={size:=8,ag:=true,k:=.array 8 5,zero:=TG}
def Zl:TI:={size:=10,ag:=true,k:=.struct [(0,5),(1,3),(2,120)],zero:=TH}
def Zm:TI:={size:=320,ag:=true,k:=.array 32 122,zero:=TJ}
def IL:TI:={size:=320,ag:=true,k:=.struct [(0,123)],zero:=TL}
def Zn:TI:={size:=1274,ag:=true,k:=.struct [(0,118),(952,119),(953,125),(1273,41)],zero:=zff}
def Ej:TI:={size:=4,ag:=true,k:=.struct [(0,3),(1,3),(2,3),(3,3)],zero:=TM}
def Zo:TI:={size:=1,ag:=true,k:=.struct [(0,88)],zero:=LB}
def Zq:TI:={size:=1,ag:=false,k:=.slice 69,zero:=.X (.z .u32)}
def Zr:TI:={size:=1,ag:=false,k:=.other,zero:=.nf}
def Zs:TI:={size:=1,ag:=false,k:=.other,zero:=.nf}
def tk:TI:={size:=8,ag:=true,k:=.struct [(0,3),(1,3),(2,3),(3,3),(4,3),(5,3),(6,4),(7,4)],zero:=TN}
def Zt:TI:={size:=64,ag:=true,k:=.array 8 143,zero:=TO}
def Zu:TI:={size:=23,ag:=true,k:=.array 23 3,zero:=TP}
def wi:TI:={size:=93,ag:=true,k:=.struct [(0,3),(1,144),(65,145),(88,130),(92,41)],zero:=zfg}
def Zv:TI:={size:=3,ag:=true,k:=.struct [(0,3),(1,22),(2,57)],zero:=zfh}
def Zw:TI:={size:=1,ag:=false,k:=.ptr 127,zero:=.np}
def Zx:TI:={size:=1,ag:=false,k:=.slice 280,zero:=.X (LF)}
def Zy:TI:={size:=8,ag:=true,k:=.array 8 70,zero:=TQ}
def mG:TI:={size:=10,ag:=true,k:=.struct [(0,157),(1,3),(2,158)],zero:=TR}
def Ek:TI:={size:=12,ag:=true,k:=.struct [(0,3),(1,72),(7,4),(8,139),(9,74),(11,3)],zero:=LC}
def Zz:TI:={size:=24,ag:=true,k:=.struct [(0,160),(10,162),(22,4),(23,3)],zero:=TS}
def ZA:TI:={size:=192,ag:=true,k:=.array 8 164,zero:=TU}
def ZB:TI:={size:=195,ag:=true,k:=.struct [(0,156),(1,165),(193,3),(194,64)],zero:=LD}
def ZD:TI:={size:=6,ag:=true,k:=.struct [(0,3),(1,3),(2,3),(3,3),(4,3),(5,70)],zero:=zfi}
def ZE:TI:={size:=3,ag:=true,k:=.struct [(0,62),(1,70),(2,3)],zero:=sP}
def ZF:TI:={size:=2,ag:=true,k:=.array 2 3,zero:=Cf}
def ZG:TI:={size:=64,ag:=true,k:=.array 64 4,zero:=zfj}
def ZH:TI:={size:=1,ag:=false,k:=.ptr 130,zero:=.np}
def ZI:TI:={size:=1,ag:=false,k:=.ptr 3,zero:=.np}
def ZJ:TI:={size:=1,ag:=false,k:=.ptr 200,zero:=.np}
def ZL:TI:={size:=964,ag:=true,k:=.struct [(0,118),(952,3),(953,72),(959,74),(961,3),(962,4),(963,88)],zero:=zfk}
def ZM:TI:={size:=32,ag:=true,k:=.array 32 5,zero:=TV}
def ZN:TI:={size:=2048,ag:=true,k:=.array 64 202,zero:=TW}
def ZO:TI:={size:=2050,ag:=true,k:=.struct [(0,3),(1,136),(2,203)],zero:=zfl}
def ZP:TI:={size:=1,ag:=false,k:=.slice 258,zero:=.X (TX)}
def ZQ:TI:={size:=1,ag:=false,k:=.other,zero:=.nf}
def ZS:TI:={size:=1,ag:=false,k:=.other,zero:=.nf}
def ZV:TI:={size:=1,ag:=false,k:=.ptr 5,zero:=.np}
def ZW:TI:={size:=1,ag:=false,k:=.other,zero:=.nf}
def ZX:TI:={size:=1,ag:=false,k:=.other,zero:=.nf}
def ZY:TI:={size:=1,ag:=false,k:=.map .u8 (.nf),zero:=.nm}
def ZZ:TI:={size:=5,ag:=true,k:=.struct [(0,3),(1,3),(2,3),(3,3),(4,3)],zero:=TX}
def Z2:TI:={size:=1,ag:=false,k:=.other,zero:=.nf}
def Z3:TI:={size:=1,ag:=false,k:=.other,zero:=.nf}
def Z5:TI:={size:=1,ag:=false,k:=.ptr 202,zero:=.np}
def Z6:TI:={size:=1,ag:=false,k:=.other,zero:=.nf}
def Z7:TI:={size:=1,ag:=false,k:=.int .u16,zero:=.z .u16}
def Z8:TI:={size:=5,ag:=true,k:=.struct [(0,5),(1,5),(2,5),(3,5),(4,278)],zero:=LF}
def Z9:TI:={size:=1,ag:=false,k:=.ptr 70,zero:=.np}
def dl:TI:={size:=1,ag:=false,k:=.map .u8 (.nf),zero:=.nm}
def Px:TI:={size:=10,ag:=true,k:=.struct [(0,3),(1,3),(2,56)],zero:=FY}
def d8:TI:={size:=4,ag:=true,k:=.struct [(0,3),(1,70),(2,3),(3,4)],zero:=LH}
def d9:TI:={size:=1,ag:=false,k:=.map .u8 (.nf),zero:=.nm}
def em:TI:={size:=1,ag:=false,k:=.other,zero:=.nf}
def gs:TI:={size:=1,ag:=false,k:=.other,zero:=.nf}
def ii:TI:={size:=6,ag:=true,k:=.array 6 5,zero:=zfm}
def ip:TI:={size:=1,ag:=false,k:=.ptr 352,zero:=.np}
def jp:TI:={size:=17,ag:=true,k:=.struct [(0,156),(1,162),(13,76),(16,4)],zero:=zfn}
def kw:TI:={size:=5,ag:=true,k:=.array 5 26,zero:=zfo}
def lc:TI:={size:=32,ag:=true,k:=.array 32 4,zero:=zfp}
def lw:TI:={size:=1,ag:=false,k:=.other,zero:=.nf}
def nl:TI:={size:=1,ag:=false,k:=.other,zero:=.nf}
def ol:TI:={size:=1,ag:=false,k:=.other,zero:=.nf}
def pm:TI:={size:=1,ag:=false,k:=.map .u8 (.nf),zero:=.nm}
def pu:TI:={size:=1,ag:=false,k:=.ptr 122,zero:=.np}
def qr:TI:={size:=1,ag:=false,k:=.slice 88,zero:=.X (.X (vE))}
def rc:TI:={size:=1,ag:=false,k:=.other,zero:=.nf}
def sp:TI:={size:=1,ag:=false,k:=.slice 112,zero:=.X (Lz)}
def t4:TI:={size:=1,ag:=false,k:=.map .u32 (.I),zero:=.nm}
def ff:TT:=.node 123 Zm (.node 68 wd (.node 40 pi (.node 27 Z4 (.node 20 ZK (.node 5 i5 (.node 4 i4 (.node 3 i3 (.leaf) (.leaf)) (.leaf)) (.node 9 i9 (.leaf) (.leaf))) (.node 24 ZU (.node 22 ZR (.leaf) (.leaf)) (.node 26 Z1 (.leaf) (.leaf)))) (.node 34 fd (.node 31 d7 (.node 29 d6 (.leaf) (.leaf)) (.node 32 i32 (.leaf) (.leaf))) (.node 37 li (.node 35 io (.leaf) (.leaf)) (.node 38 mt (.leaf) (.leaf))))) (.node 54 t8 (.node 47 t3 (.node 44 PA (.node 42 Pz (.node 41 Py (.leaf) (.leaf)) (.leaf)) (.node 46 s1 (.leaf) (.leaf))) (.node 51 t6 (.node 49 t5 (.leaf) (.leaf)) (.node 52 t7 (.leaf) (.leaf)))) (.node 58 v0 (.node 56 ul (.node 55 t9 (.leaf) (.leaf)) (.node 57 ut (.leaf) (.leaf))) (.node 62 El (.node 60 v6 (.leaf) (.leaf)) (.node 64 i64 (.leaf) (.leaf)))))) (.node 98 In (.node 85 Do (.node 76 Em (.node 72 wp (.node 70 wn (.node 69 wl (.leaf) (.leaf)) (.leaf)) (.node 74 tm (.leaf) (.leaf))) (.node 82 xs (.node 78 ww (.leaf) (.leaf)) (.node 83 AC (.leaf) (.leaf)))) (.node 91 GE (.node 88 Fd (.node 87 EQ (.leaf) (.leaf)) (.node 90 Fr (.leaf) (.leaf))) (.node 94 Id (.node 93 GT (.leaf) (.leaf)) (.node 96 If (.leaf) (.leaf))))) (.node 112 Ze (.node 105 Za (.node 101 Y8 (.node 100 Y7 (.leaf) (.leaf)) (.node 103 Y9 (.leaf) (.leaf))) (.node 108 Zc (.node 106 Zb (.leaf) (.leaf)) (.node 110 Zd (.leaf) (.leaf)))) (.node 118 Zi (.node 115 Zg (.node 113 Zf (.leaf) (.leaf)) (.node 116 Zh (.leaf) (.leaf))) (.node 120 Zk (.node 119 Zj (.leaf) (.leaf)) (.node 122 Zl (.leaf) (.leaf))))))) (.node 238 ZS (.node 162 Ek (.node 144 Zt (.node 139 Zq (.node 130 Ej (.node 127 Zn (.node 125 IL (.leaf) (.leaf)) (.leaf)) (.node 136 Zo (.leaf) (.leaf))) (.node 141 Zs (.node 140 Zr (.leaf) (.leaf)) (.node 143 tk (.leaf) (.leaf)))) (.node 156 Zw (.node 147 wi (.node 145 Zu (.leaf) (.leaf)) (.node 154 Zv (.leaf) (.leaf))) (.node 158 Zy (.node 157 Zx (.leaf) (.leaf)) (.node 160 mG (.leaf) (.leaf))))) (.node 196 ZI (.node 176 ZE (.node 167 ZB (.node 165 ZA (.node 164 Zz (.leaf) (.leaf)) (.leaf)) (.node 172 ZD (.leaf) (.leaf))) (.node 191 ZG (.node 179 ZF (.leaf) (.leaf)) (.node 195 ZH (.leaf) (.leaf)))) (.node 203 ZN (.node 200 ZL (.node 198 ZJ (.leaf) (.leaf)) (.node 202 ZM (.leaf) (.leaf))) (.node 210 ZP (.node 205 ZO (.leaf) (.leaf)) (.node 217 ZQ (.leaf) (.leaf)))))) (.node 335 em (.node 277 Z6 (.node 258 ZZ (.node 244 ZX (.node 243 ZW (.node 242 ZV (.leaf) (.leaf)) (.leaf)) (.node 252 ZY (.leaf) (.leaf))) (.node 269 Z3 (.node 266 Z2 (.leaf) (.leaf)) (.node 274 Z5 (.leaf) (.leaf)))) (.node 289 dl (.node 280 Z8 (.node 278 Z7 (.leaf) (.leaf)) (.node 288 Z9 (.leaf) (.leaf))) (.node 323 d8 (.node 316 Px (.leaf) (.leaf)) (.node 330 d9 (.leaf) (.leaf))))) (.node 381 nl (.node 352 jp (.node 345 ii (.node 343 gs (.leaf) (.leaf)) (.node 350 ip (.leaf) (.leaf))) (.node 368 lc (.node 353 kw (.leaf) (.leaf)) (.node 379 lw (.leaf) (.leaf)))) (.node 407 qr (.node 401 pm (.node 391 ol (.leaf) (.leaf)) (.node 403 pu (.leaf) (.leaf))) (.node 455 sp (.node 436 rc (.leaf) (.leaf)) (.node 475 t4 (.leaf) (.leaf)))))))
def TK.of:TypeDesc->TK
 | .bool=>.bool| .int k=>.int k| .slice e=>.slice e| .array n e=>.array n e| .struct j=>.struct (j.toList.map λf=>(f.offset,f.type))| .pointer e=>.ptr e| .string=>.str| .interface _=>.iface|_=>.other
def V0(d:TypeDesc):Bool:=match d with| .struct _| .array _ _=>true|_=>false
def TT.list:TT->List (Nat×TI)
 | .leaf=>[]
 | .node t i l r=>(t,i)::(l.list++r.list)
def TT.get_mem:∀{tb:TT} {n:Nat} {i:TI},tb.get n=some i->(n,i)∈tb.list
 | .leaf,_,_,h=>by simp[TT.get]at h
 | .node t j l r,n,i,h=>by
  simp only[TT.get]at h;split at h
  .rename_i f;have:=fp f;cases h;subst this;exact fQ ..
  .split at h
   .exact fA _ (eP.2 (.inl (TT.get_mem h)))
   .exact fA _ (eP.2 (.inr (TT.get_mem h)))
def DR(P:Program)(T:Nat):=((P.info? T).map λx=>(x.size,x.zero,Nat.ble x.bytes 65536),(P.underlying T).map λd=>(V0 d,TK.of d))
def TK.flat:TK->TK
 | .map _ _=>.other|k=>k
def TK.E6:TK->Bool
 | .map _ _=>true|_=>false
def DQ(i:TI):=(some (i.size,some (if i.ag then Value.agg i.zero.cells.toArray else i.zero.cells.headD undef),true),some (i.ag,i.k.flat))
def AY(P:Program)(T:Nat):Option (Option TypeDesc×Option (Option Value)):=match P.underlying T with
 |some (.map Z e)=>some (P.underlying Z,(P.info? e).map (·.zero))|_=>none
def AV:TK->Option (Option TypeDesc×Option (Option Value)×Bool)
 | .map k z=>some (some (.int k),some (some (z.cells.headD undef)),z.d.agg)|_=>none
def TK.I5{P:Program}{d:TypeDesc}{k:TK}(h:P.underlying T=some d)(f:TK.of d=k.flat)(j:k.E6=true->(AY P T).map (λx=>(x.1,x.2,false))=AV k):k.ok P T:=by
 cases k with
 |map k z=>
  have:=j rfl;unfold AY at this;rw[h]at this;cases d<;>simp only[qs,Option.map_none,AV,fW,CM,reduceCtorEq]at this;exact⟨_,_,h,this.1,this.2.1,this.2.2.symm⟩
 |_=>cases d<;>simp only[TK.of,TK.flat,reduceCtorEq]at f<;>first|exact trivial|(cases f;first|exact h|exact⟨_,h,rfl⟩|exact⟨_,h⟩)
def zbc{P:Program}{T:Nat}{i:TI}(h:DR P T=DQ i)(g:i.zero.d.agg=i.ag)(k:i.k.E6=true->(AY P T).map (λx=>(x.1,x.2,false))=AV i.k):i.ok P T:=by simp only[DR,DQ,CM]at h;obtain⟨f,j⟩:=h;obtain⟨x,c,a⟩:=fB.1 f;obtain⟨d,e,b⟩:=fB.1 j;simp only[CM]at a b;refine⟨⟨by rw[c];simp[a.1],d,e,by rw[<-b.1];rfl⟩,TK.I5 e b.2 k,by rw[c];simp[a.2.1],g,by rw[c];simp[a.2.2]⟩
def zen:ff.list.map (λe=>DR a6 e.1)=ff.list.map (λe=>DQ e.2):=ey
def zem:ff.list.all (λe=>e.2.zero.d.agg==e.2.ag)=true:=ey
def zeo:(ff.list.filter (·.2.k.E6)).map (λe=>(AY a6 e.1).map λx=>(x.1,x.2,false))=(ff.list.filter (·.2.k.E6)).map (λe=>AV e.2.k):=ey
def Jg{α β:Type}{f g:α->β}:∀{l:List α},l.map f=l.map g->∀x∈l,f x=g x
 |[],_,_,a=>by cases a
 |y::r,h,x,a=>by
  simp only[oT,oP]at h;rcases iB.1 a with rfl|a
  .exact h.1
  .exact Jg h.2 x a
def QG{P:Program}{tb:TT}(a:tb.list.map (λe=>DR P e.1)=tb.list.map λe=>DQ e.2)(b:tb.list.all (λe=>e.2.zero.d.agg==e.2.ag)=true)(c:(tb.list.filter (·.2.k.E6)).map (λe=>(AY P e.1).map λx=>(x.1,x.2,false))=(tb.list.filter (·.2.k.E6)).map λe=>AV e.2.k):tb.ok P:=
 λT i h=>zbc (Jg a (T,i) (TT.get_mem h)) (gG.1 (pQ.1 b (T,i) (TT.get_mem h))) λd=>Jg c (T,i) (jM.2 ⟨TT.get_mem h,d⟩)
def c6:ff.ok a6:=QG zen zem zeo
def v8{P:Program}(e:P.funcs[f]?=some fn)(g:(fn.name== "runtime.NumGoroutine")=false)(d:fn.body.isNone=false):uJ P f:=λc w=>by
 have b:¬fn.name= "runtime.NumGoroutine":=b8 g
 have a:¬fn.body=none:=by intro h;rw[h]at d;cases d
 simp[callFunc,jt,e,b,a]
def SV.le(u v:SV):Prop:=∀O J x,du O J u x->du O J v x
def SV.le_refl(u:SV):u.le u:=λ_ _ _ h=>h
def zy(b:a6.funcs[f]?=some fn)(a:fn.body=some c)(g:(fn.name== "runtime.NumGoroutine")=false)(e:Nat.ble fn.results.toList.length 3=true){args:List SV}(d:Nat.ble args.length fn.ntmps=true)(h:ji a6 ff fn.ntmps false c (kc 0 args) m (xn ff fn.results.toList K)):b6 a6 f args m K:=
 XG c6 b a (v8 b g (by rw[a];rfl)) (dF e) (dF d) h
def XD(b:a6.funcs[f]?=some fn)(a:fn.body=some c)(g:(fn.name== "runtime.NumGoroutine")=false)(e:Nat.ble fn.results.toList.length 3=true){args:List SV}(d:Nat.ble args.length fn.ntmps=true)(h:ji a6 ff fn.ntmps false c (kc 0 args) m (gS ff m.c.length m.t.length m.o.length fn.results.toList K)):b6 a6 f args m K:=
 HF c6 b a (v8 b g (by rw[a];rfl)) (dF e) (dF d) h
def zbI(i:a6.funcs[f]?=some fn)(d:fn.body=some c)(A:(fn.name== "runtime.NumGoroutine")=false)(z:Nat.ble fn.results.toList.length 3=true){args:List SV}(s:Nat.ble args.length fn.ntmps=true)(y:eV 0 0 0 args=true){v:SV}(h:ji a6 ff fn.ntmps false c (kc 0 args) ⟨[],[],[]⟩ (gS ff 0 0 0 fn.results.toList λo m=>(∃u,o=.ret u/\u.le v)/\m=⟨[],[],[]⟩)):c5 a6 f args v:=by
 have q:=v8 i A (by rw[d];rfl);have g:=HF c6 i d q (dF z) (dF s) (m:=⟨[],[],[]⟩) h;have:b6 a6 f args ⟨[],[],[]⟩ (λo m=>o=.ret v/\m=⟨[],[],[]⟩):=⟨g.1,λE O J w G r p=>(g.2 E O J w G r p).mono (by
  rintro e M ⟨b,a,U,K,j,k,l,⟨u,rfl,C⟩,n⟩;obtain⟨x,t,F⟩:=l;exact⟨b,a,U,.ret v,j,k,⟨x,t,C _ _ _ F⟩,rfl,n⟩)⟩
 exact ES y this
def ub{v u:SV}(h:u.le v):((∃w,Out.ret u=.ret w/\w.le v)/\(⟨[],[],[]⟩:MS)=⟨[],[],[]⟩):=⟨⟨u,rfl,h⟩,rfl⟩
def uY{u v:SV}(h:u=v):((∃w,Out.ret u=.ret w/\w.le v)/\(⟨[],[],[]⟩:MS)=⟨[],[],[]⟩):=⟨⟨u,rfl,h▸SV.le_refl _⟩,rfl⟩
def iU(g:α->β)(f:Nat->α)(i:Nat)(x:α):a7 (λj=>g (f j)) i (g x)=λj=>g (a7 f i x j):=by
 funext j;unfold a7;split<;>rfl
def OF{P:Program}{k:IntKind}(h:P.underlying T=some (.int k))(a b:Int)(w:World):(Op.equalIn (d+1) T (.int k a) (.int k b)).run P w=.ok (a==b) w:=by unfold Op.equalIn;simp[run_underlying h]
def uc{P:Program}(h:P.underlying T=some .bool)(a b:Bool)(w:World):(Op.equalIn (d+1) T (.bool a) (.bool b)).run P w=.ok (a==b) w:=by unfold Op.equalIn;simp[run_underlying h]
def a4{a:Prop}(h:a)(k:b):a/\b:=⟨h,k⟩
def b0{a:Prop}(h:b):(false=true->a)/\(false=false->b):=⟨ef,λ_=>h⟩
def ej{a:Prop}(h:a):(true=true->a)/\(true=false->b):=⟨λ_=>h,ef⟩
def fS{q:Prop}(k:q)(h:i<n:=by omega):((0:Int)<=(i:Int)/\(i:Int)<(n:Int))/\q:=⟨⟨by omega,by omega⟩,k⟩
def b7{b:Bool}{u v:SV}(h:u=v:=by rfl)(a:b=true:=by rfl):b=true/\((∃w,Out.ret u=.ret w/\w.le v)/\(⟨[],[],[]⟩:MS)=⟨[],[],[]⟩):=⟨a,uY h⟩
def ev{args:List SV}(d:a6.funcs[f]?=some fn)(h:ji a6 ff fn.ntmps false c (kc 0 args) m (xn ff fn.results.toList K))(b:fn.body=some c:=by rfl)(g:(fn.name== "runtime.NumGoroutine")=false:=by kernel_rfl)(e:Nat.ble fn.results.toList.length 3=true:=by rfl)(a:Nat.ble args.length fn.ntmps=true:=by rfl):b6 a6 f args m K:=zy d b g e a h
def fm{args:List SV}(d:a6.funcs[f]?=some fn)(h:ji a6 ff fn.ntmps false c (kc 0 args) m (gS ff m.c.length m.t.length m.o.length fn.results.toList K))(b:fn.body=some c:=by rfl)(g:(fn.name== "runtime.NumGoroutine")=false:=by kernel_rfl)(e:Nat.ble fn.results.toList.length 3=true:=by rfl)(a:Nat.ble args.length fn.ntmps=true:=by rfl):b6 a6 f args m K:=XD d b g e a h
def dq{args:List SV}{v:SV}(d:a6.funcs[f]?=some fn)(h:ji a6 ff fn.ntmps false c (kc 0 args) ⟨[],[],[]⟩ (gS ff 0 0 0 fn.results.toList λo m=>(∃u,o=.ret u/\u.le v)/\m=⟨[],[],[]⟩))(b:fn.body=some c:=by rfl)(i:(fn.name== "runtime.NumGoroutine")=false:=by kernel_rfl)(g:Nat.ble fn.results.toList.length 3=true:=by rfl)(a:Nat.ble args.length fn.ntmps=true:=by rfl)(e:eV 0 0 0 args=true:=by rfl):c5 a6 f args v:=zbI d b i g a e h
def eZ(h:decide ((i:Int)<(n:Int))=true):i<n:=by have:=gM h;omega
def e9(h:decide ((i:Int)<(n:Int))=false)(k:i<=n:=by omega):i=n:=by have:=lK h;omega
variable {P:Program} {tb:TT}
def NJ{ρ a:Operand->Option SV}:∀{l:List Operand},(∀x∈l,ρ x=a x)->mP ρ l=mP a l
 |[],_=>rfl
 |x::r,h=>by simp only[mP];rw[h x eA,NJ λy b=>h y (by simp[b])]
def Ag{ρ a:Operand->Option SV}:∀{l:List Operand},(∀x∈l,ρ x=a x)->nb ρ l=nb a l
 |[],_=>rfl
 |x::r,h=>by simp only[nb];rw[h x eA,Ag λy b=>h y (by simp[b])]
def Nu{ρ a:Operand->Option SV}{T:TypeId}:∀{l:List (Nat×Operand)} {v:SV},(∀x∈l,ρ x.2=a x.2)->tV tb T ρ l v=tV tb T a l v
 |[],_,_=>rfl
 |x::r,v,h=>by
  simp only[tV];rw[h x eA]
  repeat' split
  all_goals first|rfl|exact Nu λy b=>h y (by simp[b])
def KA{ρ a:Operand->Option SV}{t:Ty}:∀{l:List (Nat×Operand)} {i:Nat},(∀x∈l,ρ x.2=a x.2)->qk ρ t l i=qk a t l i
 |[],_,_=>rfl
 |x::r,i,h=>by simp only[qk];rw[h x eA,KA (l:=r) λy b=>h y (by simp[b])]
def yB{ρ a:Operand->Option SV}{o:Option Operand}(h:∀x,o=some x->ρ x=a x):ot ρ o=ot a o:=by
 cases o with
 |none=>rfl
 |some x=>simp only[ot];rw[h x rfl]
def ze5{i:Op}{ρ e:Operand->Option SV}{q:Bool}{K:SV->MS->Prop}(h:∀x∈i.operands.toList,ρ x=e x):gu P tb i m ρ G q K Kp=gu P tb i m e G q K Kp:=by
 cases i
 case call c=>
  obtain⟨g,p,j⟩:=c;cases g with
  |value f=>simp only[gu];rw[h f (by simp[Op.operands,Call.operands]),Ag λy d=>h y (by simp[Op.operands,Call.operands];simp at d;exact .inr d)]
  |invoke r s=>simp only[gu]
  |builtin b=>simp only[gu];cases b<;>first|rfl|(rw[Ag λy d=>h y (by simp[Op.operands,Call.operands];simpa using d)])
 case buildSlice T n ps=>
  simp only[gu];have:∀t,qk ρ t ps.toList 0=qk e t ps.toList 0:=λt=>KA (λy d=>h y.2 (by simp[Op.operands];exact⟨y.1,b8 d⟩));simp only[this]
 case slice T x lo hi mx=>
  simp only[gu];rw[h x (by simp[Op.operands]),yB (o:=lo) λy d=>h y (by subst d;simp[Op.operands]),yB (o:=hi) λy d=>h y (by subst d;cases lo<;>simp[Op.operands]),yB (o:=mx) λy d=>h y (by subst d;cases lo<;>cases hi<;>simp[Op.operands])]
 case build T ps=>
  simp only[gu,pv];have:∀z,tV tb T ρ ps.toList z=tV tb T e ps.toList z:=λz=>Nu (λy d=>h y.2 (by simp[Op.operands];exact⟨y.1,b8 d⟩));simp only[this]
 case makeFunc f a b=>
  have v:mP ρ b.toList=mP e b.toList:=NJ (λy d=>h y (by simp[Op.operands];simp at d;exact .inr d));have u:∀x∈a.toList,ρ x=e x:=λy d=>h y (by simp[Op.operands];simp at d;exact .inl d);simp only[gu,pv];rw[v];generalize a.toList=l at u;rcases l with _|⟨x,_|⟨y,r⟩⟩<;>simp_all
 case store T x y=>simp only[gu];rw[h x (by simp[Op.operands]),h y (by simp[Op.operands])]
 case indexAddr T x y=>simp only[gu];rw[h x (by simp[Op.operands]),h y (by simp[Op.operands])]
 case index T x y=>simp only[gu];rw[h x (by simp[Op.operands]),h y (by simp[Op.operands])]
 case binOp i T x y yT=>simp only[gu,pv];rw[h x (by simp[Op.operands]),h y (by simp[Op.operands])]
 case box T x=>simp only[gu];rw[h x (by simp[Op.operands])]
 case convert S T x=>simp only[gu];rw[h x (by simp[Op.operands])]
 case move x=>simp only[gu,pv];rw[h x (by simp[Op.operands])]
 case assign x=>simp only[gu,pv];rw[h x (by simp[Op.operands])]
 case load T x=>simp only[gu,pv];rw[h x (by simp[Op.operands])]
 case fieldAddr T x k=>simp only[gu,pv];rw[h x (by simp[Op.operands])]
 case field T x k=>simp only[gu,pv];rw[h x (by simp[Op.operands])]
 case extract x k=>simp only[gu,pv];rw[h x (by simp[Op.operands])]
 case unOp i T x=>cases i<;>simp only[gu,pv]<;>rw[h x (by simp[Op.operands])]
 case nilCheck x=>simp only[gu,pv];rw[h x (by simp[Op.operands])]
 case makeInterface T x=>simp only[gu,pv];rw[h x (by simp[Op.operands])]
 all_goals simp only[gu,pv]
def Nq{ρ a:Operand->Option SV}{n:Nat}{t:Ty}:∀{l:List (Nat×Operand)} {v:SV},(∀x∈l,ρ x.2=a x.2)->tU ρ n t l v=tU a n t l v
 |[],_,_=>rfl
 |x::r,v,h=>by
  simp only[tU];rw[h x eA]
  repeat' split
  all_goals first|rfl|exact Nq λy b=>h y (by simp[b])
def zaZ{i:Op}{ρ e:Operand->Option SV}{j:Bool}(h:∀x∈i.operands.toList,ρ x=e x):rN tb i ρ j=rN tb i e j:=by
 cases i
 case call c=>
  obtain⟨a,d,g⟩:=c;cases a with
  |value f=>simp only[rN];rw[h f (by simp[Op.operands,Call.operands])]
  |invoke r s=>rfl
  |builtin b=>
   have k:∀x∈d.toList,ρ x=e x:=λy m=>h y (by simp[Op.operands,Call.operands];simpa using m);cases b<;>first
    |rfl
    |(simp only[rN];generalize d.toList=l at k;rcases l with _|⟨x,_|⟨y,_|⟨z,r⟩⟩⟩<;>simp_all)
 case slice T x lo hi mx=>simp only[rN];rw[h x (by simp[Op.operands])]
 case store T x y=>simp only[rN];rw[h x (by simp[Op.operands])]
 case indexAddr T x y=>simp only[rN];rw[h x (by simp[Op.operands])]
 case index T x y=>simp only[rN];rw[h x (by simp[Op.operands])]
 case convert S T x=>simp only[rN];rw[h x (by simp[Op.operands])]
 case load T x=>simp only[rN];rw[h x (by simp[Op.operands])]
 all_goals rfl
def ze8{i:Op}{ρ e:Operand->Option SV}{k:Bool}{K:SV->MS->Prop}(h:∀x∈i.operands.toList,ρ x=e x):ib P tb i m ρ G k K Kp=ib P tb i m e G k K Kp:=by
 cases i
 case call c=>
  obtain⟨d,j,g⟩:=c;cases d with
  |value f=>simp only[ib];rw[h f (by simp[Op.operands,Call.operands]),Ag λy a=>h y (by simp[Op.operands,Call.operands];simp at a;exact .inr a)]
  |invoke r s=>simp only[ib]
  |builtin b=>simp only[ib];cases b<;>first|rfl|(simp only[];rw[Ag λy a=>h y (by simp[Op.operands,Call.operands];simpa using a)])
 case buildSlice T n ps=>
  simp only[ib];have:∀t,qk ρ t ps.toList 0=qk e t ps.toList 0:=λt=>KA (λy a=>h y.2 (by simp[Op.operands];exact⟨y.1,b8 a⟩));simp only[this]
 case slice T x lo hi mx=>
  simp only[ib];rw[h x (by simp[Op.operands]),yB (o:=lo) λy a=>h y (by subst a;simp[Op.operands]),yB (o:=hi) λy a=>h y (by subst a;cases lo<;>simp[Op.operands]),yB (o:=mx) λy a=>h y (by subst a;cases lo<;>cases hi<;>simp[Op.operands])]
 case build T ps=>
  simp only[ib];have:∀n t z,tU ρ n t ps.toList z=tU e n t ps.toList z:=λn t z=>Nq (λy a=>h y.2 (by simp[Op.operands];exact⟨y.1,b8 a⟩));simp only[this]
 case store T x y=>simp only[ib];rw[h x (by simp[Op.operands]),h y (by simp[Op.operands])]
 case indexAddr T x y=>simp only[ib];rw[h x (by simp[Op.operands]),h y (by simp[Op.operands])]
 case index T x y=>simp only[ib];rw[h x (by simp[Op.operands]),h y (by simp[Op.operands])]
 case convert S T x=>simp only[ib];rw[h x (by simp[Op.operands])]
 case load T x=>simp only[ib];rw[h x (by simp[Op.operands])]
 case makeSlice T x y=>simp only[ib];rw[h x (by simp[Op.operands]),h y (by simp[Op.operands])]
 case insert T x y z=>simp only[ib];rw[h x (by simp[Op.operands]),h y (by simp[Op.operands]),h z (by simp[Op.operands])]
 case mapUpdate T x y z=>simp only[ib];rw[h x (by simp[Op.operands]),h y (by simp[Op.operands]),h z (by simp[Op.operands])]
 case lookup T x y ok=>simp only[ib];rw[h x (by simp[Op.operands]),h y (by simp[Op.operands])]
 case typeAssert x A T ok=>simp only[ib];rw[h x (by simp[Op.operands])]
 case panic x=>simp only[ib];rw[h x (by simp[Op.operands])]
 all_goals simp only[ib]
def Tr{b:Op}{ρ a:Operand->Option SV}{c:Bool}{K:SV->MS->Prop}(h:∀x∈b.operands.toList,ρ x=a x):lN P tb b m ρ G c K Kp=lN P tb b m a G c K Kp:=by unfold lN;rw[zaZ h,ze8 h,ze5 h]
def Qh(a:List Nat)(o:Oper):Nat:=o.after.toList.foldl (λs e=>if Region.binds .any e then s|||2 ^ e.on|||a.getD e.on 0 else s) 0
def vf:List Oper->List Nat->List Nat
 |[],C=>C
 |o::r,C=>vf r (C++[Qh C o])
def OX{ms:List Nat}{j:Nat}:∀{l:List Edge} {s:Nat},(l.foldl (λs e=>if Region.binds .any e then s|||2 ^ e.on|||ms.getD e.on 0 else s) s).testBit j=true->
 s.testBit j=true\/∃e∈l,Region.binds .any e=true/\(e.on=j\/(ms.getD e.on 0).testBit j=true)
 |[],s,h=>.inl h
 |e::l,s,h=>by
  rw[uN]at h;rcases OX (l:=l) h with h|⟨x,hx,hb⟩
  .split at h
   .rename_i hb;simp only[Nat.testBit_or,pP,Vv,fY]at h;rcases h with(h|h)|h
    .exact .inl h
    .exact .inr ⟨e,fQ ..,hb,.inl h⟩
    .exact .inr ⟨e,fQ ..,hb,.inr h⟩
   .exact .inl h
  .exact .inr ⟨x,fA _ hx,hb⟩
def re(a:List Oper)(b:Nat->Bool):Prop:=∀i o,a[i]?=some o->b i=true->∀e∈o.after,Region.binds .any e=true->b e.on=true
def pw(a:List Oper)(b:Nat->Bool)(i:Nat):Prop:=∃o,a[i]?=some o/\∀e∈o.after,Region.binds .any e=true->b e.on=true
def Qi{n:Nat->Bool}{all:List Oper}(x:re all n):∀{r:List Oper} {C:List Nat},all=all.take C.length++r->(∀k,k<C.length->∀j,(C.getD k 0).testBit j=true->pw all n k->n j=true)->
 ∀k j,((vf r C).getD k 0).testBit j=true->pw all n k->n j=true
 |[],C,_,h,k,j,a,g=>by
  rcases jB k C.length with i|i
  .exact h k i j a g
  .simp only[vf]at a;rw[eu,wT i]at a;simp at a
 |o::r,C,q,h,k,j,a,g=>by
  have c:C.length<=all.length:=by
   rcases jB all.length C.length with l|l
   .have:=dE List.length q;rw[pX a3]at this;simp at this
   .exact l
  have b:all[C.length]?=some o:=by rw[q,oh (by simp[sY c])];simp[sY c]
  refine Qi x (r:=r) (C:=C++[Qh C o]) ?_ ?_ k j a g
  .have d:all.take (C.length+1)=all.take C.length++[o]:=by rw[js,b];rfl
   simp only[ew,CA];rw[d,iJ];exact q
  .intro k i j a g;rcases jB k C.length with f|f
   .rw[eu,pV f,<-eu]at a;exact h k f j a g
   .have:k=C.length:=by simp at i;omega
    subst this;rw[eu,oh (a9 _)]at a;simp at a;obtain⟨E,m,v⟩:=g;rw[b]at m;cases m;rcases OX a with z|⟨e,A,t,d⟩
    .simp at z
    .have l:=v e (b8 A) t;rcases d with rfl|d
     .exact l
     .rcases jB e.on C.length with p|p
      .refine h e.on p j d ?_;have w:e.on<all.length:=a3
       exact⟨all[e.on],ed w,λy u s=>x e.on _ (ed w) l y u s⟩
      .rw[eu,wT p]at d;simp at d
def uE(l:List Operand):List Nat:=l.filterMap λ| .tmp t=>some t|_=>none
end Sx
end Go.Proofs.YtfbhkfhbnkncoaaGreatDoor
