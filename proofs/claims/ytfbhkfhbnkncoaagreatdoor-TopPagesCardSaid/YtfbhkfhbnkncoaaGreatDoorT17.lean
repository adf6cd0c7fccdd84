import Derived.Test.YtfbhkfhbnkncoaaGreatDoorT16
import Derived.KernelRfl
import Derived.Test.YtfbhkfhbnkncoaaGreatDoorProg
set_option linter.all false
namespace Go.Proofs.YtfbhkfhbnkncoaaGreatDoor
open Go.RowKit
namespace Sx
def z24:ZT:=.pr (.z .i64) (.pr (.sl (.st)) (.pr (.st) .un))
def z29:ZT:=.ar 32 (.z .i64)
def z31:ZT:=.pr (z29) (.pr (z29) .un)
def zBY:ZT:=.ar 2 (.z .i64)
def z34:ZT:=.pr (.sl (zBY)) (.pr (.z .i64) .un)
def z35:ZT:=.ar 8 (.z .i64)
def z37:ZT:=.pr (.z .i64) (.pr (.z .i64) (.pr (z34) (.pr (z35) .un)))
def z38:ZT:=.ar 32 (z37)
def z40:ZT:=.pr (z31) (.pr (z38) .un)
def z56:ZT:=.ar 8 (.bo)
def zDj:ZT:=.pr (.z .i64) (.pr (.z .i64) (.pr (z56) .un))
def z44:ZT:=.pr (.sl (.z .i64)) (.pr (.sl (zDj)) .un)
def z46:ZT:=.pr (.z .i64) (.pr (.z .i64) (.pr (.z .i64) (.pr (.bo) (.pr (.z .i64) .un))))
def z47:ZT:=.ar 32 (z46)
def z49:ZT:=.pr (z31) (.pr (z47) .un)
def z51:ZT:=.pr (z40) (.pr (z44) (.pr (z49) .un))
def zDk:ZT:=.pr (.z .i64) (.pr (.z .u64) (.pr (.z .i64) (.pr (.bo) .un)))
def z54:ZT:=.pr (.sl (zDk)) (.pr (.bo) .un)
def z55:ZT:=.ar 8 (z54)
def z58:ZT:=.ar 32 (.sl (.z .u8))
def z60:ZT:=.pr (z51) (.pr (z55) (.pr (z56) (.pr (z56) (.pr (z58) (.pr (.sl (zBY)) .un)))))
def z72:ZT:=.pr (.z .u8) (.pr (.z .u32) (.pr (.z .u32) (.pr (.z .u32) (.pr (.z .u32) (.pr (.z .u64) .un)))))
def z74:ZT:=.pr (.z .i64) (.pr (.z .i64) .un)
def z76:ZT:=.pr (.z .i64) (.pr (.z .u64) (.pr (.z .u32) .un))
def z78:ZT:=.pr (.z .i64) (.pr (z72) (.pr (z74) (.pr (z76) (.pr (.z .i64) (.pr (.z .i64) .un)))))
def z82:ZT:=.pr (.z .u32) (.pr (.bo) (.pr (.bo) .un))
def z83:ZT:=.ar 32 (z82)
def z85:ZT:=.pr (z83) .un
def z87:ZT:=.pr (z85) .un
def z90:ZT:=.pr (.sl (z74)) (.pr (.z .i64) .un)
def z91:ZT:=.ar 8 (.z .u32)
def z93:ZT:=.pr (.z .u32) (.pr (.z .i64) (.pr (z90) (.pr (z91) .un)))
def z94:ZT:=.ar 32 (z93)
def z96:ZT:=.pr (z87) (.pr (z94) .un)
def z98:ZT:=.pr (.z .u8) (.pr (.z .u8) (.pr (.z .u8) .un))
def zBX:ZT:=.pr (.z .u32) (.pr (z98) .un)
def zDw:ZT:=.ar 32 (zBX)
def zDx:ZT:=.pr (zDw) .un
def zDy:ZT:=.pr (.z .u32) (.pr (.z .u8) (.pr (.z .u8) (.pr (.bo) (.pr (.z .u32) .un))))
def zDz:ZT:=.ar 16 (zDy)
def zBv:ZT:=.pr (z85) (.pr (zDz) .un)
def zDA:ZT:=.pr (z96) (.pr (zDx) (.pr (zBv) .un))
def zDd:ZT:=.pr (.z .u8) (.pr (.z .u64) (.pr (.z .u32) (.pr (.bo) .un)))
def zDB:ZT:=.ar 4 (zDd)
def zDC:ZT:=.pr (zDB) (.pr (.z .i64) (.pr (.z .i64) (.pr (.bo) .un)))
def zDD:ZT:=.ar 8 (zDC)
def zDe:ZT:=.pr (zDA) (.pr (zDD) (.pr (z56) (.pr (z56) .un)))
def zDE:ZT:=.ar 8 (.z .u8)
def zDF:ZT:=.pr (.z .u8) (.pr (.z .i64) (.pr (zDE) .un))
def zDG:ZT:=.ar 32 (zDF)
def zDH:ZT:=.pr (zDG) .un
def zFq:ZT:=.pr (zDe) (.pr (.np) (.pr (zDH) (.pr (.ow (.z .i64)) .un)))
def zDI:ZT:=.pr (.z .i64) (.pr (.z .i64) (.pr (.z .i64) (.pr (.z .i64) .un)))
def zDf:ZT:=.pr (.sl (z74)) .un
def zDJ:ZT:=.pr (.z .i64) (.pr (.z .i64) (.pr (.z .i64) (.pr (.z .i64) (.pr (.z .i64) (.pr (.z .i64) (.pr (.bo) (.pr (.bo) .un)))))))
def zDK:ZT:=.ar 8 (zDJ)
def zDL:ZT:=.ar 23 (.z .i64)
def zFr:ZT:=.pr (.z .i64) (.pr (zDK) (.pr (zDL) (.pr (zDI) (.pr (.sl (.z .i64)) .un))))
def zFs:ZT:=.pr (.z .i64) (.pr (.sl (.st)) (.pr (.sl (.z .u8)) .un))
def zDM:ZT:=.ar 8 (.z .u64)
def zDi:ZT:=.pr (.z .u8) (.pr (.z .u8) (.pr (.z .u8) (.pr (.z .u8) (.pr (.z .u16) .un))))
def zDN:ZT:=.pr (.sl (zDi)) (.pr (.z .i64) (.pr (zDM) .un))
def zDg:ZT:=.pr (.z .i64) (.pr (z72) (.pr (.bo) (.pr (.sl (.z .u32)) (.pr (z74) (.pr (.z .i64) .un)))))
def zDO:ZT:=.pr (zDN) (.pr (zDg) (.pr (.bo) (.pr (.z .i64) .un)))
def zDP:ZT:=.ar 8 (zDO)
def zDh:ZT:=.pr (.np) (.pr (zDP) (.pr (.z .i64) (.pr (.ow (z78)) .un)))
def zFt:ZT:=.pr (.z .i64) (.pr (.z .i64) (.pr (.z .i64) (.pr (.z .i64) (.pr (.z .i64) (.pr (.z .u64) .un)))))
def zFu:ZT:=.pr (.z .i64) (.pr (.z .u64) (.pr (.z .i64) .un))
def zFv:ZT:=.ar 64 (.bo)
def zFw:ZT:=.pr (zDe) (.pr (.z .i64) (.pr (z72) (.pr (z74) (.pr (.z .i64) (.pr (.bo) (.pr (.ow (z74)) .un))))))
def zDQ:ZT:=.ar 32 (.z .u8)
def zDR:ZT:=.ar 64 (zDQ)
def zFx:ZT:=.pr (.z .i64) (.pr (zDf) (.pr (zDR) .un))
def zDS:ZT:=.pr (.z .i64) (.pr (.z .i64) (.pr (.z .i64) (.pr (.z .i64) (.pr (.z .i64) .un))))
def zFy:ZT:=.ar 6 (.z .u8)
def zFz:ZT:=.pr (.np) (.pr (zDg) (.pr (z76) (.pr (.bo) .un)))
def zFA:ZT:=.ar 5 (.nf)
def zFB:ZT:=.ar 32 (.bo)
def i3:TI:={size:=1,ag:=false,k:=.int .i64,zero:=.z .i64}
def i4:TI:={size:=1,ag:=false,k:=.other,zero:=.bo}
def i5:TI:={size:=1,ag:=false,k:=.int .u8,zero:=.z .u8}
def i9:TI:={size:=1,ag:=false,k:=.str,zero:=.st}
def i20:TI:={size:=1,ag:=false,k:=.iface,zero:=.ni}
def i22:TI:={size:=1,ag:=false,k:=.slice 9,zero:=.sl (.st)}
def i24:TI:={size:=3,ag:=true,k:=.struct [(0,3),(1,22),(2,9)],zero:=z24}
def i26:TI:={size:=1,ag:=false,k:=.other,zero:=.nf}
def i27:TI:={size:=1,ag:=false,k:=.ptr 167,zero:=.np}
def i29:TI:={size:=32,ag:=true,k:=.array 32 3,zero:=z29}
def i31:TI:={size:=64,ag:=true,k:=.struct [(0,29),(32,29)],zero:=z31}
def i32:TI:={size:=1,ag:=false,k:=.slice 179,zero:=.sl (zBY)}
def i34:TI:={size:=2,ag:=true,k:=.struct [(0,32),(1,3)],zero:=z34}
def i35:TI:={size:=8,ag:=true,k:=.array 8 3,zero:=z35}
def i37:TI:={size:=12,ag:=true,k:=.struct [(0,3),(1,3),(2,34),(4,35)],zero:=z37}
def i38:TI:={size:=384,ag:=true,k:=.array 32 37,zero:=z38}
def i40:TI:={size:=448,ag:=true,k:=.struct [(0,31),(64,38)],zero:=z40}
def i41:TI:={size:=1,ag:=false,k:=.slice 3,zero:=.sl (.z .i64)}
def i42:TI:={size:=1,ag:=false,k:=.slice 316,zero:=.sl (zDj)}
def i44:TI:={size:=2,ag:=true,k:=.struct [(0,41),(1,42)],zero:=z44}
def i46:TI:={size:=5,ag:=true,k:=.struct [(0,3),(1,3),(2,3),(3,4),(4,3)],zero:=z46}
def i47:TI:={size:=160,ag:=true,k:=.array 32 46,zero:=z47}
def i49:TI:={size:=224,ag:=true,k:=.struct [(0,31),(64,47)],zero:=z49}
def i51:TI:={size:=674,ag:=true,k:=.struct [(0,40),(448,44),(450,49)],zero:=z51}
def i52:TI:={size:=1,ag:=false,k:=.slice 323,zero:=.sl (zDk)}
def i54:TI:={size:=2,ag:=true,k:=.struct [(0,52),(1,4)],zero:=z54}
def i55:TI:={size:=16,ag:=true,k:=.array 8 54,zero:=z55}
def i56:TI:={size:=8,ag:=true,k:=.array 8 4,zero:=z56}
def i57:TI:={size:=1,ag:=false,k:=.slice 5,zero:=.sl (.z .u8)}
def i58:TI:={size:=32,ag:=true,k:=.array 32 57,zero:=z58}
def i60:TI:={size:=739,ag:=true,k:=.struct [(0,51),(674,55),(690,56),(698,56),(706,58),(738,32)],zero:=z60}
def i62:TI:={size:=1,ag:=false,k:=.int .i64,zero:=.z .i64}
def i64:TI:={size:=1,ag:=false,k:=.slice 78,zero:=.sl (z78)}
def i68:TI:={size:=1,ag:=false,k:=.int .u32,zero:=.z .u32}
def i69:TI:={size:=1,ag:=false,k:=.int .u32,zero:=.z .u32}
def i70:TI:={size:=1,ag:=false,k:=.int .u64,zero:=.z .u64}
def i72:TI:={size:=6,ag:=true,k:=.struct [(0,5),(1,69),(2,69),(3,68),(4,68),(5,70)],zero:=z72}
def i74:TI:={size:=2,ag:=true,k:=.struct [(0,3),(1,3)],zero:=z74}
def i76:TI:={size:=3,ag:=true,k:=.struct [(0,62),(1,70),(2,69)],zero:=z76}
def i78:TI:={size:=14,ag:=true,k:=.struct [(0,3),(1,72),(7,74),(9,76),(12,3),(13,3)],zero:=z78}
def i82:TI:={size:=3,ag:=true,k:=.struct [(0,68),(1,4),(2,4)],zero:=z82}
def i83:TI:={size:=96,ag:=true,k:=.array 32 82,zero:=z83}
def i85:TI:={size:=96,ag:=true,k:=.struct [(0,83)],zero:=z85}
def i87:TI:={size:=96,ag:=true,k:=.struct [(0,85)],zero:=z87}
def i88:TI:={size:=1,ag:=false,k:=.slice 74,zero:=.sl (z74)}
def i90:TI:={size:=2,ag:=true,k:=.struct [(0,88),(1,3)],zero:=z90}
def i91:TI:={size:=8,ag:=true,k:=.array 8 69,zero:=z91}
def i93:TI:={size:=12,ag:=true,k:=.struct [(0,69),(1,3),(2,90),(4,91)],zero:=z93}
def i94:TI:={size:=384,ag:=true,k:=.array 32 93,zero:=z94}
def i96:TI:={size:=480,ag:=true,k:=.struct [(0,87),(96,94)],zero:=z96}
def i98:TI:={size:=3,ag:=true,k:=.struct [(0,5),(1,5),(2,5)],zero:=z98}
def zCF:TI:={size:=4,ag:=true,k:=.struct [(0,69),(1,98)],zero:=zBX}
def zBH:TI:={size:=128,ag:=true,k:=.array 32 100,zero:=zDw}
def zD3:TI:={size:=128,ag:=true,k:=.struct [(0,101)],zero:=zDx}
def zD4:TI:={size:=5,ag:=true,k:=.struct [(0,69),(1,5),(2,5),(3,4),(4,69)],zero:=zDy}
def zD5:TI:={size:=80,ag:=true,k:=.array 16 105,zero:=zDz}
def zD6:TI:={size:=176,ag:=true,k:=.struct [(0,85),(96,106)],zero:=zBv}
def zD7:TI:={size:=784,ag:=true,k:=.struct [(0,96),(480,103),(608,108)],zero:=zDA}
def zD8:TI:={size:=4,ag:=true,k:=.struct [(0,5),(1,70),(2,69),(3,4)],zero:=zDd}
def zD9:TI:={size:=16,ag:=true,k:=.array 4 112,zero:=zDB}
def zEa:TI:={size:=19,ag:=true,k:=.struct [(0,113),(16,3),(17,3),(18,4)],zero:=zDC}
def zEb:TI:={size:=152,ag:=true,k:=.array 8 115,zero:=zDD}
def zEc:TI:={size:=952,ag:=true,k:=.struct [(0,110),(784,116),(936,56),(944,56)],zero:=zDe}
def zEd:TI:={size:=1,ag:=false,k:=.ptr 205,zero:=.np}
def zEe:TI:={size:=8,ag:=true,k:=.array 8 5,zero:=zDE}
def zEf:TI:={size:=10,ag:=true,k:=.struct [(0,5),(1,3),(2,120)],zero:=zDF}
def zEg:TI:={size:=320,ag:=true,k:=.array 32 122,zero:=zDG}
def zCG:TI:={size:=320,ag:=true,k:=.struct [(0,123)],zero:=zDH}
def zEh:TI:={size:=1274,ag:=true,k:=.struct [(0,118),(952,119),(953,125),(1273,41)],zero:=zFq}
def zBI:TI:={size:=4,ag:=true,k:=.struct [(0,3),(1,3),(2,3),(3,3)],zero:=zDI}
def zEi:TI:={size:=1,ag:=true,k:=.struct [(0,88)],zero:=zDf}
def zEj:TI:={size:=1,ag:=false,k:=.slice 69,zero:=.sl (.z .u32)}
def zEk:TI:={size:=1,ag:=false,k:=.other,zero:=.nf}
def zEl:TI:={size:=1,ag:=false,k:=.other,zero:=.nf}
def zr5:TI:={size:=8,ag:=true,k:=.struct [(0,3),(1,3),(2,3),(3,3),(4,3),(5,3),(6,4),(7,4)],zero:=zDJ}
def zEm:TI:={size:=64,ag:=true,k:=.array 8 143,zero:=zDK}
def zEn:TI:={size:=23,ag:=true,k:=.array 23 3,zero:=zDL}
def zv4:TI:={size:=93,ag:=true,k:=.struct [(0,3),(1,144),(65,145),(88,130),(92,41)],zero:=zFr}
def zEo:TI:={size:=3,ag:=true,k:=.struct [(0,3),(1,22),(2,57)],zero:=zFs}
def zEp:TI:={size:=1,ag:=false,k:=.ptr 127,zero:=.np}
def zEq:TI:={size:=1,ag:=false,k:=.slice 280,zero:=.sl (zDi)}
def zEr:TI:={size:=8,ag:=true,k:=.array 8 70,zero:=zDM}
def ziV:TI:={size:=10,ag:=true,k:=.struct [(0,157),(1,3),(2,158)],zero:=zDN}
def zBJ:TI:={size:=12,ag:=true,k:=.struct [(0,3),(1,72),(7,4),(8,139),(9,74),(11,3)],zero:=zDg}
def zEs:TI:={size:=24,ag:=true,k:=.struct [(0,160),(10,162),(22,4),(23,3)],zero:=zDO}
def zEt:TI:={size:=192,ag:=true,k:=.array 8 164,zero:=zDP}
def zEu:TI:={size:=195,ag:=true,k:=.struct [(0,156),(1,165),(193,3),(194,64)],zero:=zDh}
def zEv:TI:={size:=6,ag:=true,k:=.struct [(0,3),(1,3),(2,3),(3,3),(4,3),(5,70)],zero:=zFt}
def zEw:TI:={size:=3,ag:=true,k:=.struct [(0,62),(1,70),(2,3)],zero:=zFu}
def zEx:TI:={size:=2,ag:=true,k:=.array 2 3,zero:=zBY}
def zEy:TI:={size:=64,ag:=true,k:=.array 64 4,zero:=zFv}
def zEz:TI:={size:=1,ag:=false,k:=.ptr 130,zero:=.np}
def zEA:TI:={size:=1,ag:=false,k:=.ptr 3,zero:=.np}
def zEB:TI:={size:=1,ag:=false,k:=.ptr 200,zero:=.np}
def zEC:TI:={size:=964,ag:=true,k:=.struct [(0,118),(952,3),(953,72),(959,74),(961,3),(962,4),(963,88)],zero:=zFw}
def zED:TI:={size:=32,ag:=true,k:=.array 32 5,zero:=zDQ}
def zEE:TI:={size:=2048,ag:=true,k:=.array 64 202,zero:=zDR}
def zEF:TI:={size:=2050,ag:=true,k:=.struct [(0,3),(1,136),(2,203)],zero:=zFx}
def zEG:TI:={size:=1,ag:=false,k:=.slice 258,zero:=.sl (zDS)}
def zEH:TI:={size:=1,ag:=false,k:=.other,zero:=.nf}
def zEI:TI:={size:=1,ag:=false,k:=.other,zero:=.nf}
def zEJ:TI:={size:=1,ag:=false,k:=.ptr 5,zero:=.np}
def zEK:TI:={size:=1,ag:=false,k:=.other,zero:=.nf}
def zEL:TI:={size:=1,ag:=false,k:=.other,zero:=.nf}
def zEM:TI:={size:=1,ag:=false,k:=.map .u8 (.nf),zero:=.nm}
def zEN:TI:={size:=5,ag:=true,k:=.struct [(0,3),(1,3),(2,3),(3,3),(4,3)],zero:=zDS}
def zEO:TI:={size:=1,ag:=false,k:=.other,zero:=.nf}
def zEP:TI:={size:=1,ag:=false,k:=.other,zero:=.nf}
def zEQ:TI:={size:=1,ag:=false,k:=.ptr 202,zero:=.np}
def zER:TI:={size:=1,ag:=false,k:=.other,zero:=.nf}
def zES:TI:={size:=1,ag:=false,k:=.int .u16,zero:=.z .u16}
def zET:TI:={size:=5,ag:=true,k:=.struct [(0,5),(1,5),(2,5),(3,5),(4,278)],zero:=zDi}
def zEU:TI:={size:=1,ag:=false,k:=.ptr 70,zero:=.np}
def zEV:TI:={size:=1,ag:=false,k:=.map .u8 (.nf),zero:=.nm}
def zEW:TI:={size:=10,ag:=true,k:=.struct [(0,3),(1,3),(2,56)],zero:=zDj}
def zEX:TI:={size:=4,ag:=true,k:=.struct [(0,3),(1,70),(2,3),(3,4)],zero:=zDk}
def zEY:TI:={size:=1,ag:=false,k:=.map .u8 (.nf),zero:=.nm}
def zEZ:TI:={size:=1,ag:=false,k:=.other,zero:=.nf}
def zE0:TI:={size:=1,ag:=false,k:=.other,zero:=.nf}
def zE1:TI:={size:=6,ag:=true,k:=.array 6 5,zero:=zFy}
def zE2:TI:={size:=1,ag:=false,k:=.ptr 352,zero:=.np}
def zE3:TI:={size:=17,ag:=true,k:=.struct [(0,156),(1,162),(13,76),(16,4)],zero:=zFz}
def zE4:TI:={size:=5,ag:=true,k:=.array 5 26,zero:=zFA}
def zE5:TI:={size:=32,ag:=true,k:=.array 32 4,zero:=zFB}
def zE6:TI:={size:=1,ag:=false,k:=.other,zero:=.nf}
def zE7:TI:={size:=1,ag:=false,k:=.other,zero:=.nf}
def zE8:TI:={size:=1,ag:=false,k:=.other,zero:=.nf}
def zE9:TI:={size:=1,ag:=false,k:=.map .u8 (.nf),zero:=.nm}
def zFa:TI:={size:=1,ag:=false,k:=.ptr 122,zero:=.np}
def zFb:TI:={size:=1,ag:=false,k:=.slice 88,zero:=.sl (.sl (z74))}
def zFc:TI:={size:=1,ag:=false,k:=.other,zero:=.nf}
def zFd:TI:={size:=1,ag:=false,k:=.slice 112,zero:=.sl (zDd)}
def zFe:TI:={size:=1,ag:=false,k:=.map .u32 (.bo),zero:=.nm}
def tbl:TT:=.node 123 zEg (.node 68 i68 (.node 40 i40 (.node 27 i27 (.node 20 i20 (.node 5 i5 (.node 4 i4 (.node 3 i3 (.leaf) (.leaf)) (.leaf)) (.node 9 i9 (.leaf) (.leaf))) (.node 24 i24 (.node 22 i22 (.leaf) (.leaf)) (.node 26 i26 (.leaf) (.leaf)))) (.node 34 i34 (.node 31 i31 (.node 29 i29 (.leaf) (.leaf)) (.node 32 i32 (.leaf) (.leaf))) (.node 37 i37 (.node 35 i35 (.leaf) (.leaf)) (.node 38 i38 (.leaf) (.leaf))))) (.node 54 i54 (.node 47 i47 (.node 44 i44 (.node 42 i42 (.node 41 i41 (.leaf) (.leaf)) (.leaf)) (.node 46 i46 (.leaf) (.leaf))) (.node 51 i51 (.node 49 i49 (.leaf) (.leaf)) (.node 52 i52 (.leaf) (.leaf)))) (.node 58 i58 (.node 56 i56 (.node 55 i55 (.leaf) (.leaf)) (.node 57 i57 (.leaf) (.leaf))) (.node 62 i62 (.node 60 i60 (.leaf) (.leaf)) (.node 64 i64 (.leaf) (.leaf)))))) (.node 98 i98 (.node 85 i85 (.node 76 i76 (.node 72 i72 (.node 70 i70 (.node 69 i69 (.leaf) (.leaf)) (.leaf)) (.node 74 i74 (.leaf) (.leaf))) (.node 82 i82 (.node 78 i78 (.leaf) (.leaf)) (.node 83 i83 (.leaf) (.leaf)))) (.node 91 i91 (.node 88 i88 (.node 87 i87 (.leaf) (.leaf)) (.node 90 i90 (.leaf) (.leaf))) (.node 94 i94 (.node 93 i93 (.leaf) (.leaf)) (.node 96 i96 (.leaf) (.leaf))))) (.node 112 zD8 (.node 105 zD4 (.node 101 zBH (.node 100 zCF (.leaf) (.leaf)) (.node 103 zD3 (.leaf) (.leaf))) (.node 108 zD6 (.node 106 zD5 (.leaf) (.leaf)) (.node 110 zD7 (.leaf) (.leaf)))) (.node 118 zEc (.node 115 zEa (.node 113 zD9 (.leaf) (.leaf)) (.node 116 zEb (.leaf) (.leaf))) (.node 120 zEe (.node 119 zEd (.leaf) (.leaf)) (.node 122 zEf (.leaf) (.leaf))))))) (.node 238 zEI (.node 162 zBJ (.node 144 zEm (.node 139 zEj (.node 130 zBI (.node 127 zEh (.node 125 zCG (.leaf) (.leaf)) (.leaf)) (.node 136 zEi (.leaf) (.leaf))) (.node 141 zEl (.node 140 zEk (.leaf) (.leaf)) (.node 143 zr5 (.leaf) (.leaf)))) (.node 156 zEp (.node 147 zv4 (.node 145 zEn (.leaf) (.leaf)) (.node 154 zEo (.leaf) (.leaf))) (.node 158 zEr (.node 157 zEq (.leaf) (.leaf)) (.node 160 ziV (.leaf) (.leaf))))) (.node 196 zEA (.node 176 zEw (.node 167 zEu (.node 165 zEt (.node 164 zEs (.leaf) (.leaf)) (.leaf)) (.node 172 zEv (.leaf) (.leaf))) (.node 191 zEy (.node 179 zEx (.leaf) (.leaf)) (.node 195 zEz (.leaf) (.leaf)))) (.node 203 zEE (.node 200 zEC (.node 198 zEB (.leaf) (.leaf)) (.node 202 zED (.leaf) (.leaf))) (.node 210 zEG (.node 205 zEF (.leaf) (.leaf)) (.node 217 zEH (.leaf) (.leaf)))))) (.node 335 zEZ (.node 277 zER (.node 258 zEN (.node 244 zEL (.node 243 zEK (.node 242 zEJ (.leaf) (.leaf)) (.leaf)) (.node 252 zEM (.leaf) (.leaf))) (.node 269 zEP (.node 266 zEO (.leaf) (.leaf)) (.node 274 zEQ (.leaf) (.leaf)))) (.node 289 zEV (.node 280 zET (.node 278 zES (.leaf) (.leaf)) (.node 288 zEU (.leaf) (.leaf))) (.node 323 zEX (.node 316 zEW (.leaf) (.leaf)) (.node 330 zEY (.leaf) (.leaf))))) (.node 381 zE7 (.node 352 zE3 (.node 345 zE1 (.node 343 zE0 (.leaf) (.leaf)) (.node 350 zE2 (.leaf) (.leaf))) (.node 368 zE5 (.node 353 zE4 (.leaf) (.leaf)) (.node 379 zE6 (.leaf) (.leaf)))) (.node 407 zFb (.node 401 zE9 (.node 391 zE8 (.leaf) (.leaf)) (.node 403 zFa (.leaf) (.leaf))) (.node 455 zFd (.node 436 zFc (.leaf) (.leaf)) (.node 475 zFe (.leaf) (.leaf)))))))
def TK.of:TypeDesc→TK
 | .int k=>.int k| .slice e=>.slice e| .array n e=>.array n e| .struct fs=>.struct (fs.toList.map fun f=>(f.offset,f.type))| .pointer e=>.ptr e| .string=>.str| .interface _=>.iface|_=>.other
def zDU(d:TypeDesc):Bool:=match d with| .struct _| .array _ _=>true|_=>false
def TT.list:TT→List (Nat×TI)
 | .leaf=>[]
 | .node t i l r=>(t,i)::(l.list++r.list)
theorem TT.get_mem:∀{tb:TT} {n:Nat} {i:TI},tb.get n=some i→(n,i)∈tb.list
 | .leaf,_,_,h=>by simp[TT.get]at h
 | .node t j l r,n,i,h=>by
  simp only[TT.get]at h;split at h
  ·rename_i hb;have:=zGk hb;cases h;subst this;exact zF3 ..
  ·split at h
   ·exact zF4 _ (zF2.2 (.inl (TT.get_mem h)))
   ·exact zF4 _ (zF2.2 (.inr (TT.get_mem h)))
def zo2(P:Program)(T:Nat):=((P.info? T).map (fun x=>(x.size,x.zero,Nat.ble x.bytes 65536)),(P.underlying T).map fun d=>(zDU d,TK.of d))
def TK.flat:TK→TK
 | .map _ _=>.other|k=>k
def TK.isMap:TK→Bool
 | .map _ _=>true|_=>false
def zo1(i:TI):=(some (i.size,some (if i.ag then Value.agg i.zero.cells.toArray else i.zero.cells.headD undef),true),some (i.ag,i.k.flat))
def zAC(P:Program)(T:Nat):Option (Option TypeDesc×Option (Option Value)):=match P.underlying T with
 |some (.map kt e)=>some (P.underlying kt,(P.info? e).map (·.zero))|_=>none
def zAB:TK→Option (Option TypeDesc×Option (Option Value)×Bool)
 | .map k z=>some (some (.int k),some (some (z.cells.headD undef)),z.d.agg)|_=>none
theorem TK.of_ok{P:Program}{T:TypeId}{d:TypeDesc}{k:TK}(h:P.underlying T=some d)(hk:TK.of d=k.flat)(hm:k.isMap=true→(zAC P T).map (fun x=>(x.1,x.2,false))=zAB k):k.ok P T:=by
 cases k with
 |map k z=>
  have:=hm rfl;unfold zAC at this;rw[h]at this;cases d<;>simp only[zGE,Option.map_none,zAB,zGh,zGg,reduceCtorEq]at this;exact⟨_,_,h,this.1,this.2.1,this.2.2.symm⟩
 |_=>cases d<;>simp only[TK.of,TK.flat,reduceCtorEq]at hk<;>first|exact trivial|(cases hk;first|exact h|exact⟨_,h,rfl⟩|exact⟨_,h⟩)
theorem zCM{P:Program}{T:Nat}{i:TI}(h:zo2 P T=zo1 i)(h2:i.zero.d.agg=i.ag)(hm:i.k.isMap=true→(zAC P T).map (fun x=>(x.1,x.2,false))=zAB i.k):i.ok P T:=by simp only[zo2,zo1,zGg]at h;obtain⟨h1,h3⟩:=h;obtain⟨x,hx,hxe⟩:=zGj.1 h1;obtain⟨d,hd,hde⟩:=zGj.1 h3;simp only[zGg]at hxe hde;refine⟨⟨by rw[hx];simp[hxe.1],d,hd,by rw[←hde.1];rfl⟩,TK.of_ok hd hde.2 hm,by rw[hx];simp[hxe.2.1],h2,by rw[hx];simp[hxe.2.2]⟩
theorem zto:tbl.list.map (fun e=>zo2 Tryz.prog e.1)=tbl.list.map (fun e=>zo1 e.2):=by kernel_rfl
theorem zyS:tbl.list.all (fun e=>e.2.zero.d.agg==e.2.ag)=true:=by kernel_rfl
theorem zvq:(tbl.list.filter (·.2.k.isMap)).map (fun e=>(zAC Tryz.prog e.1).map (fun x=>(x.1,x.2,false)))=(tbl.list.filter (·.2.k.isMap)).map (fun e=>zAB e.2.k):=by kernel_rfl
theorem znV{α β:Type}{f g:α→β}:∀{l:List α},l.map f=l.map g→∀x∈l,f x=g x
 |[],_,_,hx=>by cases hx
 |y::r,h,x,hx=>by
  simp only[zGF,zFD]at h;rcases zGm.1 hx with rfl|hx
  ·exact h.1
  ·exact znV h.2 x hx
theorem zya{P:Program}{tb:TT}(h1:tb.list.map (fun e=>zo2 P e.1)=tb.list.map (fun e=>zo1 e.2))(h2:tb.list.all (fun e=>e.2.zero.d.agg==e.2.ag)=true)(h3:(tb.list.filter (·.2.k.isMap)).map (fun e=>(zAC P e.1).map (fun x=>(x.1,x.2,false)))=(tb.list.filter (·.2.k.isMap)).map (fun e=>zAB e.2.k)):tb.ok P:=
 fun T i h=>zCM (znV h1 (T,i) (TT.get_mem h)) (zGG.1 (zGr.1 h2 (T,i) (TT.get_mem h))) fun hm=>znV h3 (T,i) (zGH.2 ⟨TT.get_mem h,hm⟩)
theorem zaa:tbl.ok Tryz.prog:=zya zto zyS zvq
theorem zdY{P:Program}{f:FuncId}{fn:Func}(hf:P.funcs[f]?=some fn)(hn:(fn.name== "runtime.NumGoroutine")=false)(hb:fn.body.isNone=false):zgs P f:=fun args w=>by
 have hn':¬fn.name= "runtime.NumGoroutine":=by simpa using hn
 have hb':¬fn.body=none:=by intro h;rw[h]at hb;cases hb
 simp[callFunc,Sem.run_bind,hf,hn',hb']
def SV.le(u v:SV):Prop:=∀ro bl x,zaX ro bl u x→zaX ro bl v x
theorem SV.le_refl(u:SV):u.le u:=fun _ _ _ h=>h
theorem zaM{f:FuncId}{fn:Func}{c:Code}(hf:Tryz.prog.funcs[f]?=some fn)(hb:fn.body=some c)(hn:(fn.name== "runtime.NumGoroutine")=false)(hl:Nat.ble fn.results.toList.length 3=true){args:List SV}(ha:Nat.ble args.length fn.ntmps=true){m:MS}{K:Out→MS→Prop}
 (h:sxC Tryz.prog tbl fn.ntmps false c (zen 0 args) m (zy9 tbl fn.results.toList K)):Con Tryz.prog f args m K:=
 zxr zaa hf hb (zdY hf hn (by rw[hb];rfl)) (zFG hl) (zFG ha) h
theorem za3{f:FuncId}{fn:Func}{c:Code}(hf:Tryz.prog.funcs[f]?=some fn)(hb:fn.body=some c)(hn:(fn.name== "runtime.NumGoroutine")=false)(hl:Nat.ble fn.results.toList.length 3=true){args:List SV}(ha:Nat.ble args.length fn.ntmps=true){m:MS}{K:Out→MS→Prop}
 (h:sxC Tryz.prog tbl fn.ntmps false c (zen 0 args) m (zeJ tbl m.c.length m.t.length m.o.length fn.results.toList K)):Con Tryz.prog f args m K:=
 zvW zaa hf hb (zdY hf hn (by rw[hb];rfl)) (zFG hl) (zFG ha) h
theorem zat{f:FuncId}{fn:Func}{c:Code}(hf:Tryz.prog.funcs[f]?=some fn)(hb:fn.body=some c)(hn:(fn.name== "runtime.NumGoroutine")=false)(hl:Nat.ble fn.results.toList.length 3=true){args:List SV}(ha:Nat.ble args.length fn.ntmps=true)(hi:zaG 0 0 0 args=true){v:SV}
 (h:sxC Tryz.prog tbl fn.ntmps false c (zen 0 args) ⟨[],[],[]⟩ (zeJ tbl 0 0 0 fn.results.toList fun o m=>(∃u,o=.ret u∧u.le v)∧m=⟨[],[],[]⟩)):zay Tryz.prog f args v:=by
 have hE:=zdY hf hn (by rw[hb];rfl);have hc:=zvW zaa hf hb hE (zFG hl) (zFG ha) (m:=⟨[],[],[]⟩) h;have:Con Tryz.prog f args ⟨[],[],[]⟩ (fun o m=>o=.ret v∧m=⟨[],[],[]⟩):=⟨hc.1,fun E ro bl w xs hM hA=>(hc.2 E ro bl w xs hM hA).mono (by
  rintro e w' ⟨ro',bl',m',out,h1,h2,h3,⟨u,rfl,hu⟩,h4⟩;obtain⟨x,he,hx⟩:=h3;exact⟨ro',bl',m',.ret v,h1,h2,⟨x,he,hu _ _ _ hx⟩,rfl,h4⟩)⟩
 exact zlv hi this
theorem zeU{v u:SV}(h:u.le v):((∃w,Out.ret u=.ret w∧w.le v)∧(⟨[],[],[]⟩:MS)=⟨[],[],[]⟩):=⟨⟨u,rfl,h⟩,rfl⟩
theorem zae{u v:SV}(h:u=v):((∃w,Out.ret u=.ret w∧w.le v)∧(⟨[],[],[]⟩:MS)=⟨[],[],[]⟩):=⟨⟨u,rfl,h▸SV.le_refl _⟩,rfl⟩
theorem zaY{α β:Type}(g:α→β)(f:Nat→α)(i:Nat)(x:α):zaq (fun j=>g (f j)) i (g x)=fun j=>g (zaq f i x j):=by
 funext j;unfold zaq;split<;>rfl
theorem zoZ{P:Program}{d:Nat}{T:TypeId}{k:IntKind}(h:P.underlying T=some (.int k))(a b:Int)(w:World):(Op.equalIn (d+1) T (.int k a) (.int k b)).run P w=.ok (a==b) w:=by unfold Op.equalIn;simp[run_underlying h]
theorem zew{P:Program}{d:Nat}{T:TypeId}(h:P.underlying T=some .bool)(a b:Bool)(w:World):(Op.equalIn (d+1) T (.bool a) (.bool b)).run P w=.ok (a==b) w:=by unfold Op.equalIn;simp[run_underlying h]
end Sx
end Go.Proofs.YtfbhkfhbnkncoaaGreatDoor
