/- UpdateDecode holds for all inputs -/
import Derived.Test.YtegimnpiojonmaaGreatDoorBZ6
import Derived.Test.YtegimnpiojonmaaGreatDoorBZ2
import Derived.Test.YtegimnpiojonmaaGreatDoorProg
import Derived.Test.YtegimnpiojonmaaGreatDoorBZ4
import Derived.Tactics
import Derived.Tactics2
import Derived.StillTactics
import Derived.Laws.RangeString
import Derived.Laws.RangeAny
import Derived.Laws.Runes
import Derived.Laws.Small
import Derived.Laws.Strings
import Derived.Scope
import Derived.LoopTactic
import Derived.Handy
import Derived.Laws.CopyRow
import Derived.Laws.Slices
import Derived.Laws.MathBits
import Derived.Laws.Bits128
import Derived.Room.MakeNoZero
import Derived.Laws.AppendOwn
set_option linter.all false
namespace Go.Proofs.Tryz.S
open Go Go.Sw
set_option maxRecDepth 100000
def t2:TI:=⟨1,8,[.int .i64 0],(.int .i64)⟩
theorem t2ok:TOk Tryz.prog 2 t2:=yK (by kernel_rfl) (by kernel_rfl) rfl
def t3:TI:=⟨1,8,[.int .i64 0],(.int .i64)⟩
theorem t3ok:TOk Tryz.prog 3 t3:=yK (by kernel_rfl) (by kernel_rfl) rfl
def t4:TI:=⟨1,1,[.bool false],.bool⟩
theorem t4ok:TOk Tryz.prog 4 t4:=yK (by kernel_rfl) (by kernel_rfl) rfl
def t5:TI:=⟨1,1,[.int .u8 0],(.int .u8)⟩
theorem t5ok:TOk Tryz.prog 5 t5:=yK (by kernel_rfl) (by kernel_rfl) rfl
def t6:TI:=⟨1,1,[.int .u8 0],(.int .u8)⟩
theorem t6ok:TOk Tryz.prog 6 t6:=yK (by kernel_rfl) (by kernel_rfl) rfl
def t7:TI:=⟨4,24,[.int .i64 0,.int .i64 0,.bool false,.int .u8 0],(.struct [(2,0),(3,1),(4,2),(6,3)])⟩
theorem t7ok:TOk Tryz.prog 7 t7:=yK (by kernel_rfl) (by kernel_rfl) rfl
def t8:TI:=⟨4,24,[.int .i64 0,.int .i64 0,.bool false,.int .u8 0],(.struct [(2,0),(3,1),(4,2),(6,3)])⟩
theorem t8ok:TOk Tryz.prog 8 t8:=yK (by kernel_rfl) (by kernel_rfl) rfl
def t9:TI:=⟨1,16,[.str []],.str⟩
theorem t9ok:TOk Tryz.prog 9 t9:=yK (by kernel_rfl) (by kernel_rfl) rfl
def t10:TI:=⟨1,16,[.str []],.str⟩
theorem yGl:TOk Tryz.prog 10 t10:=yK (by kernel_rfl) (by kernel_rfl) rfl
def t11:TI:=⟨1,16,[.str []],.str⟩
theorem yFv:TOk Tryz.prog 11 t11:=yK (by kernel_rfl) (by kernel_rfl) rfl
def t12:TI:=⟨1,8,[.int .u64 0],(.int .u64)⟩
theorem yFz:TOk Tryz.prog 12 t12:=yK (by kernel_rfl) (by kernel_rfl) rfl
def t22:TI:=⟨1,24,[.bytes []],(.slice 5)⟩
theorem yGd:TOk Tryz.prog 22 t22:=yK (by kernel_rfl) (by kernel_rfl) rfl
def t23:TI:=⟨1,24,[.sl 1 []],(.slice 3)⟩
theorem yGi:TOk Tryz.prog 23 t23:=yK (by kernel_rfl) (by kernel_rfl) rfl
def t26:TI:=⟨1,24,[.sl 1 []],(.slice 71)⟩
theorem yDk:TOk Tryz.prog 26 t26:=yK (by kernel_rfl) (by kernel_rfl) rfl
def t28:TI:=⟨5,72,[.int .i64 0,.int .i64 0,.int .i64 0,.bytes [],.bytes []],(.struct [(3,0),(3,1),(3,2),(22,3),(22,4)])⟩
theorem yC7:TOk Tryz.prog 28 t28:=yK (by kernel_rfl) (by kernel_rfl) rfl
def t30:TI:=⟨8,128,[.int .i64 0,.sl 1 [],.int .i64 0,.int .i64 0,.int .i64 0,.bytes [],.bytes [],.bytes []],(.struct [(3,0),(26,1),(28,2),(22,7)])⟩
theorem yEv:TOk Tryz.prog 30 t30:=yK (by kernel_rfl) (by kernel_rfl) rfl
def t33:TI:=⟨1,8,[.int .u64 0],(.int .u64)⟩
theorem yFr:TOk Tryz.prog 33 t33:=yK (by kernel_rfl) (by kernel_rfl) rfl
def t35:TI:=⟨1,24,[.sl 1 []],(.slice 22)⟩
theorem yDu:TOk Tryz.prog 35 t35:=yK (by kernel_rfl) (by kernel_rfl) rfl
def t36:TI:=⟨1,8,[.int .i64 0],(.int .i64)⟩
theorem yEf:TOk Tryz.prog 36 t36:=yK (by kernel_rfl) (by kernel_rfl) rfl
def t43:TI:=⟨5,56,[.sl 1 [],.int .i64 0,.int .i64 0,.int .i64 0,.bool false],(.struct [(35,0),(3,1),(3,2),(3,3),(4,4)])⟩
theorem yDd:TOk Tryz.prog 43 t43:=yK (by kernel_rfl) (by kernel_rfl) rfl
def t44:TI:=⟨1,24,[.sl 1 []],(.slice 35)⟩
theorem yD6:TOk Tryz.prog 44 t44:=yK (by kernel_rfl) (by kernel_rfl) rfl
def t46:TI:=⟨2,32,[.sl 1 [],.int .i64 0],(.struct [(44,0),(3,1)])⟩
theorem yC3:TOk Tryz.prog 46 t46:=yK (by kernel_rfl) (by kernel_rfl) rfl
def t47:TI:=⟨1,24,[.sl 8 []],(.slice 116)⟩
theorem yDo:TOk Tryz.prog 47 t47:=yK (by kernel_rfl) (by kernel_rfl) rfl
def t49:TI:=⟨6,48,[.int .i64 0,.int .i64 0,.int .i64 0,.int .i64 0,.int .i64 0,.int .i64 0],(.struct [(3,0),(3,1),(3,2),(3,3),(3,4),(3,5)])⟩
theorem yD4:TOk Tryz.prog 49 t49:=yK (by kernel_rfl) (by kernel_rfl) rfl
def t50:TI:=⟨1,24,[.sl 2 []],(.slice 213)⟩
theorem yGu:TOk Tryz.prog 50 t50:=yK (by kernel_rfl) (by kernel_rfl) rfl
def t52:TI:=⟨19,248,[.sl 1 [],.sl 1 [],.bytes [],.int .i64 0,.int .i64 0,.int .i64 0,.int .i64 0,.bool false,.sl 1 [],.int .i64 0,.int .i64 0,.sl 8 [],.int .i64 0,.int .i64 0,.int .i64 0,.int .i64 0,.int .i64 0,.int .i64 0,.sl 2 []],(.struct [(35,0),(35,1),(22,2),(3,3),(3,4),(3,5),(3,6),(4,7),(46,8),(3,10),(47,11),(49,12),(50,18)])⟩
theorem yGj:TOk Tryz.prog 52 t52:=yK (by kernel_rfl) (by kernel_rfl) rfl
def t53:TI:=⟨1,24,[.sl 8 []],(.slice 331)⟩
theorem yFo:TOk Tryz.prog 53 t53:=yK (by kernel_rfl) (by kernel_rfl) rfl
def t54:TI:=⟨1,24,[.sl 9 []],(.slice 235)⟩
theorem yDw:TOk Tryz.prog 54 t54:=yK (by kernel_rfl) (by kernel_rfl) rfl
def t56:TI:=⟨11,160,[.bool false,.bool false,.sl 1 [],.int .i64 0,.int .i64 0,.bool false,.int .i64 0,.sl 8 [],.sl 9 [],.sl 1 [],.sl 1 []],(.struct [(4,0),(4,1),(46,2),(3,4),(4,5),(3,6),(53,7),(54,8),(23,9),(23,10)])⟩
theorem yFc:TOk Tryz.prog 56 t56:=yK (by kernel_rfl) (by kernel_rfl) rfl
def t58:TI:=⟨30,408,[.sl 1 [],.sl 1 [],.bytes [],.int .i64 0,.int .i64 0,.int .i64 0,.int .i64 0,.bool false,.sl 1 [],.int .i64 0,.int .i64 0,.sl 8 [],.int .i64 0,.int .i64 0,.int .i64 0,.int .i64 0,.int .i64 0,.int .i64 0,.sl 2 [],.bool false,.bool false,.sl 1 [],.int .i64 0,.int .i64 0,.bool false,.int .i64 0,.sl 8 [],.sl 9 [],.sl 1 [],.sl 1 []],(.struct [(52,0),(56,19)])⟩
theorem yD9:TOk Tryz.prog 58 t58:=yK (by kernel_rfl) (by kernel_rfl) rfl
def t60:TI:=⟨37,480,[.sl 1 [],.int .i64 0,.int .i64 0,.int .i64 0,.bool false,.sl 1 [],.sl 1 [],.bytes [],.int .i64 0,.int .i64 0,.int .i64 0,.int .i64 0,.bool false,.sl 1 [],.int .i64 0,.int .i64 0,.sl 8 [],.int .i64 0,.int .i64 0,.int .i64 0,.int .i64 0,.int .i64 0,.int .i64 0,.sl 2 [],.bool false,.bool false,.sl 1 [],.int .i64 0,.int .i64 0,.bool false,.int .i64 0,.sl 8 [],.sl 9 [],.sl 1 [],.sl 1 [],.bool false,.int .i64 0],(.struct [(43,0),(58,5),(4,35),(3,36)])⟩
theorem yEk:TOk Tryz.prog 60 t60:=yK (by kernel_rfl) (by kernel_rfl) rfl
def t61:TI:=⟨1,24,[.sl 8 []],(.slice 486)⟩
theorem yEg:TOk Tryz.prog 61 t61:=yK (by kernel_rfl) (by kernel_rfl) rfl
def t63:TI:=⟨40,520,[.int .i64 0,.sl 1 [],.int .i64 0,.int .i64 0,.int .i64 0,.bool false,.sl 1 [],.sl 1 [],.bytes [],.int .i64 0,.int .i64 0,.int .i64 0,.int .i64 0,.bool false,.sl 1 [],.int .i64 0,.int .i64 0,.sl 8 [],.int .i64 0,.int .i64 0,.int .i64 0,.int .i64 0,.int .i64 0,.int .i64 0,.sl 2 [],.bool false,.bool false,.sl 1 [],.int .i64 0,.int .i64 0,.bool false,.int .i64 0,.sl 8 [],.sl 9 [],.sl 1 [],.sl 1 [],.bool false,.int .i64 0,.bool false,.sl 8 []],(.struct [(3,0),(60,1),(4,38),(61,39)])⟩
theorem yGp:TOk Tryz.prog 63 t63:=yK (by kernel_rfl) (by kernel_rfl) rfl
def t64:TI:=⟨1,24,[.sl 5 []],(.slice 28)⟩
theorem yFg:TOk Tryz.prog 64 t64:=yK (by kernel_rfl) (by kernel_rfl) rfl
def t66:TI:=⟨3,72,[.bytes [],.bytes [],.bytes []],(.struct [(22,0),(22,1),(22,2)])⟩
theorem yEc:TOk Tryz.prog 66 t66:=yK (by kernel_rfl) (by kernel_rfl) rfl
def t68:TI:=⟨11,184,[.int .i64 0,.int .i64 0,.sl 5 [],.bytes [],.bytes [],.bytes [],.int .i64 0,.int .i64 0,.int .i64 0,.bytes [],.bytes []],(.struct [(3,0),(3,1),(64,2),(66,3),(28,6)])⟩
theorem yD0:TOk Tryz.prog 68 t68:=yK (by kernel_rfl) (by kernel_rfl) rfl
def t71:TI:=⟨1,24,[.sl 4 []],(.slice 113)⟩
theorem yF2:TOk Tryz.prog 71 t71:=yK (by kernel_rfl) (by kernel_rfl) rfl
def t88:TI:=⟨1,8,[.nilp],(.ptr 135)⟩
theorem yE3:TOk Tryz.prog 88 t88:=yK (by kernel_rfl) (by kernel_rfl) rfl
def t97:TI:=⟨1,8,[.nilp],(.ptr 146)⟩
theorem yEx:TOk Tryz.prog 97 t97:=yK (by kernel_rfl) (by kernel_rfl) rfl
def t105:TI:=⟨1,8,[.nilp],(.ptr 111)⟩
theorem yBr:TOk Tryz.prog 105 t105:=yK (by kernel_rfl) (by kernel_rfl) rfl
def t111:TI:=⟨38,504,[.sl 1 [],.int .i64 0,.int .i64 0,.int .i64 0,.bool false,.sl 1 [],.sl 1 [],.bytes [],.int .i64 0,.int .i64 0,.int .i64 0,.int .i64 0,.bool false,.sl 1 [],.int .i64 0,.int .i64 0,.sl 8 [],.int .i64 0,.int .i64 0,.int .i64 0,.int .i64 0,.int .i64 0,.int .i64 0,.sl 2 [],.bool false,.bool false,.sl 1 [],.int .i64 0,.int .i64 0,.bool false,.int .i64 0,.sl 8 [],.sl 9 [],.sl 1 [],.sl 1 [],.bool false,.int .i64 0,.sl 1 []],(.struct [(60,0),(23,37)])⟩
theorem yAc:TOk Tryz.prog 111 t111:=yK (by kernel_rfl) (by kernel_rfl) rfl
def t113:TI:=⟨4,56,[.int .i64 0,.str [],.int .i64 0,.bytes []],(.struct [(3,0),(9,1),(3,2),(22,3)])⟩
theorem yAt:TOk Tryz.prog 113 t113:=yK (by kernel_rfl) (by kernel_rfl) rfl
def yBn:TI:=⟨8,112,[.int .i64 0,.int .i64 0,.int .i64 0,.int .i64 0,.bytes [],.bytes [],.bool false,.bytes []],(.struct [(3,0),(3,1),(3,2),(3,3),(22,4),(22,5),(4,6),(22,7)])⟩
theorem yA1:TOk Tryz.prog 116 yBn:=yK (by kernel_rfl) (by kernel_rfl) rfl
def t118:TI:=⟨21,296,[.nilp,.int .i64 0,.sl 1 [],.int .i64 0,.int .i64 0,.int .i64 0,.bytes [],.bytes [],.bytes [],.bool false,.int .i64 0,.int .i64 0,.int .i64 0,.int .i64 0,.int .i64 0,.bytes [],.bytes [],.bool false,.bytes [],.int .i64 0,.bytes []],(.struct [(105,0),(30,1),(4,9),(3,10),(116,11),(3,19),(22,20)])⟩
theorem yAf:TOk Tryz.prog 118 t118:=yK (by kernel_rfl) (by kernel_rfl) rfl
def t129:TI:=⟨1,8,[.int .u64 0],(.int .u64)⟩
theorem yBc:TOk Tryz.prog 129 t129:=yK (by kernel_rfl) (by kernel_rfl) rfl
def t131:TI:=⟨1,8,[.nilp],(.ptr 198)⟩
theorem yCq:TOk Tryz.prog 131 t131:=yK (by kernel_rfl) (by kernel_rfl) rfl
def t135:TI:=⟨3,40,[.bytes [],.int .i64 0,.int .i64 0],(.struct [(22,0),(3,1),(36,2)])⟩
theorem yBs:TOk Tryz.prog 135 t135:=yK (by kernel_rfl) (by kernel_rfl) rfl
def t140:TI:=⟨1,8,[.nilp],(.ptr 3)⟩
theorem yBt:TOk Tryz.prog 140 t140:=yK (by kernel_rfl) (by kernel_rfl) rfl
def t141:TI:=⟨1,24,[.sl 1 []],(.slice 140)⟩
theorem yCj:TOk Tryz.prog 141 t141:=yK (by kernel_rfl) (by kernel_rfl) rfl
def t142:TI:=⟨1,8,[.nilp],(.ptr 22)⟩
theorem zZ4:TOk Tryz.prog 142 t142:=yK (by kernel_rfl) (by kernel_rfl) rfl
def t143:TI:=⟨1,24,[.sl 1 []],(.slice 142)⟩
theorem yCu:TOk Tryz.prog 143 t143:=yK (by kernel_rfl) (by kernel_rfl) rfl
def t146:TI:=⟨3,40,[.bytes [],.int .i64 0,.int .i64 0],(.struct [(22,0),(3,1),(36,2)])⟩
theorem yB6:TOk Tryz.prog 146 t146:=yK (by kernel_rfl) (by kernel_rfl) rfl
def t149:TI:=⟨5,5,[.bool false,.bool false,.bool false,.bool false,.bool false],(.arr 5 4)⟩
theorem yBy:TOk Tryz.prog 149 t149:=yK (by kernel_rfl) (by kernel_rfl) rfl
def t166:TI:=⟨4,80,[.int .i64 0,.sl 1 [],.sl 1 [],.sl 1 []],(.struct [(36,0),(23,1),(35,2),(35,3)])⟩
theorem yB8:TOk Tryz.prog 166 t166:=yK (by kernel_rfl) (by kernel_rfl) rfl
def t169:TI:=⟨1,24,[.sl 3 []],(.slice 230)⟩
theorem yCw:TOk Tryz.prog 169 t169:=yK (by kernel_rfl) (by kernel_rfl) rfl
def t171:TI:=⟨5,104,[.int .i64 0,.sl 1 [],.sl 3 [],.sl 1 [],.sl 1 []],(.struct [(3,0),(23,1),(169,2),(23,3),(35,4)])⟩
theorem yBj:TOk Tryz.prog 171 t171:=yK (by kernel_rfl) (by kernel_rfl) rfl
def t176:TI:=⟨1,24,[.sl 4 []],(.slice 179)⟩
theorem yBd:TOk Tryz.prog 176 t176:=yK (by kernel_rfl) (by kernel_rfl) rfl
def t179:TI:=⟨4,64,[.int .i64 0,.int .i64 0,.sl 1 [],.bytes []],(.struct [(3,0),(3,1),(35,2),(22,3)])⟩
theorem yAl:TOk Tryz.prog 179 t179:=yK (by kernel_rfl) (by kernel_rfl) rfl
def t184:TI:=⟨2,16,[.int .i64 0,.int .i64 0],(.arr 2 3)⟩
theorem yCb:TOk Tryz.prog 184 t184:=yK (by kernel_rfl) (by kernel_rfl) rfl
def t198:TI:=⟨2,32,[.bytes [],.int .i64 0],(.struct [(22,0),(3,1)])⟩
theorem yBa:TOk Tryz.prog 198 t198:=yK (by kernel_rfl) (by kernel_rfl) rfl
def t199:TI:=⟨5,80,[.str [],.str [],.str [],.str [],.str []],(.arr 5 9)⟩
theorem yCx:TOk Tryz.prog 199 t199:=yK (by kernel_rfl) (by kernel_rfl) rfl
def t213:TI:=⟨2,32,[.bytes [],.int .i64 0],(.struct [(22,0),(3,1)])⟩
theorem yAq:TOk Tryz.prog 213 t213:=yK (by kernel_rfl) (by kernel_rfl) rfl
def t214:TI:=⟨2,48,[.bytes [],.bytes []],(.arr 2 22)⟩
theorem yBh:TOk Tryz.prog 214 t214:=yK (by kernel_rfl) (by kernel_rfl) rfl
def t217:TI:=⟨1,8,[.nilp],(.ptr 219)⟩
theorem yCc:TOk Tryz.prog 217 t217:=yK (by kernel_rfl) (by kernel_rfl) rfl
def t219:TI:=⟨2,16,[.nilp,.int .i64 0],(.struct [(88,0),(36,1)])⟩
theorem yBo:TOk Tryz.prog 219 t219:=yK (by kernel_rfl) (by kernel_rfl) rfl
def t223:TI:=⟨1,8,[.nilp],(.ptr 49)⟩
theorem yCp:TOk Tryz.prog 223 t223:=yK (by kernel_rfl) (by kernel_rfl) rfl
def t230:TI:=⟨3,56,[.int .i64 0,.bytes [],.bytes []],(.struct [(3,0),(22,1),(22,2)])⟩
theorem yAi:TOk Tryz.prog 230 t230:=yK (by kernel_rfl) (by kernel_rfl) rfl
def yCl:TI:=⟨9,152,[.int .i64 0,.int .i64 0,.int .i64 0,.bytes [],.bytes [],.bytes [],.bytes [],.bytes [],.int .i64 0],(.struct [(28,0),(66,5),(3,8)])⟩
theorem yAn:TOk Tryz.prog 235 yCl:=yK (by kernel_rfl) (by kernel_rfl) rfl
def t237:TI:=⟨5,120,[.sl 4 [],.sl 4 [],.sl 4 [],.sl 4 [],.sl 4 []],(.arr 5 176)⟩
theorem yBk:TOk Tryz.prog 237 t237:=yK (by kernel_rfl) (by kernel_rfl) rfl
def t246:TI:=⟨10,160,[.int .i64 0,.int .i64 0,.int .i64 0,.bytes [],.int .i64 0,.int .i64 0,.bytes [],.bytes [],.bytes [],.sl 1 []],(.struct [(3,0),(184,1),(22,3),(3,4),(3,5),(22,6),(22,7),(22,8),(35,9)])⟩
theorem yBi:TOk Tryz.prog 246 t246:=yK (by kernel_rfl) (by kernel_rfl) rfl
def t261:TI:=⟨1,8,[.nilp],(.ptr 35)⟩
theorem yC2:TOk Tryz.prog 261 t261:=yK (by kernel_rfl) (by kernel_rfl) rfl
def t262:TI:=⟨1,24,[.sl 1 []],(.slice 261)⟩
theorem yCd:TOk Tryz.prog 262 t262:=yK (by kernel_rfl) (by kernel_rfl) rfl
def t267:TI:=⟨5,40,[.int .i64 0,.int .i64 0,.int .i64 0,.int .i64 0,.int .i64 0],(.arr 5 3)⟩
theorem yA3:TOk Tryz.prog 267 t267:=yK (by kernel_rfl) (by kernel_rfl) rfl
def t268:TI:=⟨1,4,[.int .u32 0],(.int .u32)⟩
theorem yCs:TOk Tryz.prog 268 t268:=yK (by kernel_rfl) (by kernel_rfl) rfl
def t269:TI:=⟨5,20,[.int .u32 0,.int .u32 0,.int .u32 0,.int .u32 0,.int .u32 0],(.arr 5 268)⟩
theorem yAo:TOk Tryz.prog 269 t269:=yK (by kernel_rfl) (by kernel_rfl) rfl
def t271:TI:=⟨1,8,[.nilp],(.ptr 269)⟩
theorem yBx:TOk Tryz.prog 271 t271:=yK (by kernel_rfl) (by kernel_rfl) rfl
def t273:TI:=⟨1,24,[.sl 1 []],(.slice 268)⟩
theorem yAd:TOk Tryz.prog 273 t273:=yK (by kernel_rfl) (by kernel_rfl) rfl
def t274:TI:=⟨8,32,[.int .u32 0,.int .u32 0,.int .u32 0,.int .u32 0,.int .u32 0,.int .u32 0,.int .u32 0,.int .u32 0],(.arr 8 268)⟩
theorem yC1:TOk Tryz.prog 274 t274:=yK (by kernel_rfl) (by kernel_rfl) rfl
def t276:TI:=⟨1,8,[.nilp],(.ptr 274)⟩
theorem yAs:TOk Tryz.prog 276 t276:=yK (by kernel_rfl) (by kernel_rfl) rfl
def t280:TI:=⟨3,40,[.int .i64 0,.int .i64 0,.sl 4 []],(.struct [(3,0),(3,1),(176,2)])⟩
theorem yCf:TOk Tryz.prog 280 t280:=yK (by kernel_rfl) (by kernel_rfl) rfl
def t281:TI:=⟨1,24,[.sl 10 []],(.slice 246)⟩
theorem yBz:TOk Tryz.prog 281 t281:=yK (by kernel_rfl) (by kernel_rfl) rfl
def t283:TI:=⟨6,96,[.str [],.str [],.str [],.str [],.str [],.str []],(.arr 6 9)⟩
theorem yAu:TOk Tryz.prog 283 t283:=yK (by kernel_rfl) (by kernel_rfl) rfl
def t289:TI:=⟨2,2,[.int .u8 0,.int .u8 0],(.arr 2 5)⟩
theorem yCt:TOk Tryz.prog 289 t289:=yK (by kernel_rfl) (by kernel_rfl) rfl
def t296:TI:=⟨80,320,List.replicate 80 (.int .u32 0),(.arr 80 268)⟩
theorem yCh:TOk Tryz.prog 296 t296:=yK (by kernel_rfl) (by kernel_rfl) rfl
def t299:TI:=⟨64,256,List.replicate 64 (.int .u32 0),(.arr 64 268)⟩
theorem yA2:TOk Tryz.prog 299 t299:=yK (by kernel_rfl) (by kernel_rfl) rfl
def t306:TI:=⟨5,40,[.int .i64 0,.int .i64 0,.int .i64 0,.int .i64 0,.int .i64 0],(.struct [(3,0),(3,1),(3,2),(3,3),(3,4)])⟩
theorem yA9:TOk Tryz.prog 306 t306:=yK (by kernel_rfl) (by kernel_rfl) rfl
def t307:TI:=⟨160,1280,List.replicate 160 (.int .i64 0),(.arr 32 306)⟩
theorem yBg:TOk Tryz.prog 307 t307:=yK (by kernel_rfl) (by kernel_rfl) rfl
def yBb:TI:=⟨8,96,[.int .i64 0,.bytes [],.bytes [],.int .i64 0,.int .i64 0,.int .i64 0,.int .i64 0,.bool false],(.struct [(3,0),(22,1),(22,2),(3,3),(3,4),(3,5),(3,6),(4,7)])⟩
theorem yAj:TOk Tryz.prog 331 yBb:=yK (by kernel_rfl) (by kernel_rfl) rfl
def t335:TI:=⟨39,576,[.sl 1 [],.sl 1 [],.bytes [],.int .i64 0,.int .i64 0,.int .i64 0,.int .i64 0,.bool false,.sl 1 [],.int .i64 0,.int .i64 0,.sl 8 [],.int .i64 0,.int .i64 0,.int .i64 0,.int .i64 0,.int .i64 0,.int .i64 0,.sl 2 [],.bool false,.bool false,.sl 1 [],.int .i64 0,.int .i64 0,.bool false,.int .i64 0,.sl 8 [],.sl 9 [],.sl 1 [],.sl 1 [],.int .i64 0,.sl 1 [],.sl 3 [],.sl 1 [],.sl 1 [],.int .i64 0,.bytes [],.bytes [],.int .i64 0],(.struct [(58,0),(171,30),(230,35),(3,38)])⟩
theorem yCn:TOk Tryz.prog 335 t335:=yK (by kernel_rfl) (by kernel_rfl) rfl
def t350:TI:=⟨4,80,[.bytes [],.bytes [],.bytes [],.bool false],(.struct [(22,0),(22,1),(22,2),(4,3)])⟩
theorem yAv:TOk Tryz.prog 350 t350:=yK (by kernel_rfl) (by kernel_rfl) rfl
def t458:TI:=⟨256,256,List.replicate 256 (.bool false),(.arr 256 4)⟩
theorem zZz:TOk Tryz.prog 458 t458:=yK (by kernel_rfl) (by kernel_rfl) rfl
def t462:TI:=⟨1,8,[.nilp],(.ptr 458)⟩
theorem yBv:TOk Tryz.prog 462 t462:=yK (by kernel_rfl) (by kernel_rfl) rfl
def t486:TI:=⟨8,128,[.int .i64 0,.int .i64 0,.int .i64 0,.int .i64 0,.bytes [],.bytes [],.bytes [],.sl 1 []],(.struct [(3,0),(28,1),(22,6),(35,7)])⟩
theorem zZ8:TOk Tryz.prog 486 t486:=yK (by kernel_rfl) (by kernel_rfl) rfl
def tr:Tr:=(.node 135 t135 (.node 49 t49 (.node 22 t22 (.node 7 t7 (.node 4 t4 (.node 3 t3 (.node 2 t2 .leaf .leaf) .leaf) (.node 6 t6 (.node 5 t5 .leaf .leaf) .leaf)) (.node 10 t10 (.node 9 t9 (.node 8 t8 .leaf .leaf) .leaf) (.node 12 t12 (.node 11 t11 .leaf .leaf) .leaf))) (.node 35 t35 (.node 28 t28 (.node 26 t26 (.node 23 t23 .leaf .leaf) .leaf) (.node 33 t33 (.node 30 t30 .leaf .leaf) .leaf)) (.node 44 t44 (.node 43 t43 (.node 36 t36 .leaf .leaf) .leaf) (.node 47 t47 (.node 46 t46 .leaf .leaf) .leaf)))) (.node 68 t68 (.node 58 t58 (.node 53 t53 (.node 52 t52 (.node 50 t50 .leaf .leaf) .leaf) (.node 56 t56 (.node 54 t54 .leaf .leaf) .leaf)) (.node 63 t63 (.node 61 t61 (.node 60 t60 .leaf .leaf) .leaf) (.node 66 t66 (.node 64 t64 .leaf .leaf) .leaf))) (.node 113 t113 (.node 97 t97 (.node 88 t88 (.node 71 t71 .leaf .leaf) .leaf) (.node 111 t111 (.node 105 t105 .leaf .leaf) .leaf)) (.node 129 t129 (.node 118 t118 (.node 116 yBn .leaf .leaf) .leaf) (.node 131 t131 .leaf .leaf))))) (.node 261 t261 (.node 184 t184 (.node 149 t149 (.node 142 t142 (.node 141 t141 (.node 140 t140 .leaf .leaf) .leaf) (.node 146 t146 (.node 143 t143 .leaf .leaf) .leaf)) (.node 171 t171 (.node 169 t169 (.node 166 t166 .leaf .leaf) .leaf) (.node 179 t179 (.node 176 t176 .leaf .leaf) .leaf))) (.node 219 t219 (.node 213 t213 (.node 199 t199 (.node 198 t198 .leaf .leaf) .leaf) (.node 217 t217 (.node 214 t214 .leaf .leaf) .leaf)) (.node 235 yCl (.node 230 t230 (.node 223 t223 .leaf .leaf) .leaf) (.node 246 t246 (.node 237 t237 .leaf .leaf) .leaf)))) (.node 289 t289 (.node 273 t273 (.node 268 t268 (.node 267 t267 (.node 262 t262 .leaf .leaf) .leaf) (.node 271 t271 (.node 269 t269 .leaf .leaf) .leaf)) (.node 280 t280 (.node 276 t276 (.node 274 t274 .leaf .leaf) .leaf) (.node 283 t283 (.node 281 t281 .leaf .leaf) .leaf))) (.node 335 t335 (.node 306 t306 (.node 299 t299 (.node 296 t296 .leaf .leaf) .leaf) (.node 331 yBb (.node 307 t307 .leaf .leaf) .leaf)) (.node 462 t462 (.node 458 t458 (.node 350 t350 .leaf .leaf) .leaf) (.node 486 t486 .leaf .leaf))))))
def te:TE:=tr.get
theorem yQ:yX Tryz.prog te:=Tr.ok tr ⟨yBs,⟨yD4,⟨yGd,⟨t7ok,⟨t4ok,⟨t3ok,⟨t2ok,trivial,trivial⟩,trivial⟩,⟨t6ok,⟨t5ok,trivial,trivial⟩,trivial⟩⟩,⟨yGl,⟨t9ok,⟨t8ok,trivial,trivial⟩,trivial⟩,⟨yFz,⟨yFv,trivial,trivial⟩,trivial⟩⟩⟩,⟨yDu,⟨yC7,⟨yDk,⟨yGi,trivial,trivial⟩,trivial⟩,⟨yFr,⟨yEv,trivial,trivial⟩,trivial⟩⟩,⟨yD6,⟨yDd,⟨yEf,trivial,trivial⟩,trivial⟩,⟨yDo,⟨yC3,trivial,trivial⟩,trivial⟩⟩⟩⟩,⟨yD0,⟨yD9,⟨yFo,⟨yGj,⟨yGu,trivial,trivial⟩,trivial⟩,⟨yFc,⟨yDw,trivial,trivial⟩,trivial⟩⟩,⟨yGp,⟨yEg,⟨yEk,trivial,trivial⟩,trivial⟩,⟨yEc,⟨yFg,trivial,trivial⟩,trivial⟩⟩⟩,⟨yAt,⟨yEx,⟨yE3,⟨yF2,trivial,trivial⟩,trivial⟩,⟨yAc,⟨yBr,trivial,trivial⟩,trivial⟩⟩,⟨yBc,⟨yAf,⟨yA1,trivial,trivial⟩,trivial⟩,⟨yCq,trivial,trivial⟩⟩⟩⟩⟩,⟨yC2,⟨yCb,⟨yBy,⟨zZ4,⟨yCj,⟨yBt,trivial,trivial⟩,trivial⟩,⟨yB6,⟨yCu,trivial,trivial⟩,trivial⟩⟩,⟨yBj,⟨yCw,⟨yB8,trivial,trivial⟩,trivial⟩,⟨yAl,⟨yBd,trivial,trivial⟩,trivial⟩⟩⟩,⟨yBo,⟨yAq,⟨yCx,⟨yBa,trivial,trivial⟩,trivial⟩,⟨yCc,⟨yBh,trivial,trivial⟩,trivial⟩⟩,⟨yAn,⟨yAi,⟨yCp,trivial,trivial⟩,trivial⟩,⟨yBi,⟨yBk,trivial,trivial⟩,trivial⟩⟩⟩⟩,⟨yCt,⟨yAd,⟨yCs,⟨yA3,⟨yCd,trivial,trivial⟩,trivial⟩,⟨yBx,⟨yAo,trivial,trivial⟩,trivial⟩⟩,⟨yCf,⟨yAs,⟨yC1,trivial,trivial⟩,trivial⟩,⟨yAu,⟨yBz,trivial,trivial⟩,trivial⟩⟩⟩,⟨yCn,⟨yA9,⟨yA2,⟨yCh,trivial,trivial⟩,trivial⟩,⟨yAj,⟨yBg,trivial,trivial⟩,trivial⟩⟩,⟨yBv,⟨zZz,⟨yAv,trivial,trivial⟩,trivial⟩,⟨zZ8,trivial,trivial⟩⟩⟩⟩⟩⟩
end Go.Proofs.Tryz.S
namespace Go.Proofs.H
open Go Go.Proofs
def nameByte (c:UInt8):Bool:=(decide (97<=c.toNat)&&decide (c.toNat<=122))||(decide (48<=c.toNat)&&decide (c.toNat<=57))||decide (c.toNat=45)
def nameAll (s:ByteArray) (pos:Nat):Bool:=(s.data.toList.drop pos).all nameByte
theorem nb_len {n:Nat} {x:Bool} (h:¬ (1<=n/\n<=12)):(decide (1<=n)&&decide (n<=12)&&x)=false:=by
 by_cases h1:1<=n
 ·have:¬ n<=12:=λh2=>h ⟨h1,h2⟩
  simp [this]
 ·simp [h1]
theorem nb_in {n:Nat} {x:Bool} (h:1<=n/\n<=12):(decide (1<=n)&&decide (n<=12)&&x)=x:=by simp [h.1,h.2]
theorem nameAll_step {s:ByteArray} {pos:Nat} (hp:pos<s.size):nameAll s pos=(nameByte (s[pos]'hp)&&nameAll s (pos+1)):=by
 unfold nameAll
 rw [List.drop_eq_getElem_cons (by simpa using hp)]
 simp only [List.all_cons]
 rfl
theorem name_facts (s:ByteArray) (pos:Nat) (hp:pos<s.size) {rn:Nat×Nat} (hd:Utf8.decode s pos=rn) :
  (rn.1<128->rn.2=1/\nameAll s pos=((decide (97<=rn.1)&&decide (rn.1<=122)||decide (48<=rn.1)&&decide (rn.1<=57)||decide (rn.1=45))&&nameAll s (pos+1)))/\(128<=rn.1->nameAll s pos=false):=by
 rw [nameAll_step hp]
 by_cases ha:(s[pos]'hp).toNat<128
 ·rw [decode_ascii s pos hp ha] at hd
  subst hd
  exact ⟨λ_=>⟨rfl,rfl⟩,λh=>by simp only at h;omega⟩
 ·have h2:=decode_high s pos hp (by omega)
  rw [hd] at h2
  refine ⟨λh=>by omega,λ_=>?_⟩
  have:nameByte (s[pos]'hp)=false:=by
   unfold nameByte
   simp only [Bool.or_eq_false_iff,Bool.and_eq_false_iff,decide_eq_false_iff_not]
   omega
  simp [this]
theorem name_no (s:ByteArray) (pos:Nat) (hp:pos<s.size) {rn:Nat×Nat} (hd:Utf8.decode s pos=rn) (h1:rn.1<97∨122<rn.1) (h2:rn.1<48∨57<rn.1) (h3:rn.1≠45):nameAll s pos=false:=by
 obtain ⟨f1,f2⟩:=name_facts s pos hp hd
 by_cases h:rn.1<128
 ·rw [(f1 h).2]
  have:(decide (97<=rn.1)&&decide (rn.1<=122)||decide (48<=rn.1)&&decide (rn.1<=57)||decide (rn.1=45))=false:=by
   simp only [Bool.or_eq_false_iff,Bool.and_eq_false_iff,decide_eq_false_iff_not]
   omega
  simp [this]
 ·exact f2 (by omega)
theorem name_yes (s:ByteArray) (pos:Nat) (hp:pos<s.size) {rn:Nat×Nat} (hd:Utf8.decode s pos=rn) (h1:(97<=rn.1/\rn.1<=122)∨(48<=rn.1/\rn.1<=57)∨rn.1=45):rn.2=1/\nameAll s pos=nameAll s (pos+1):=by
 obtain ⟨f1,_⟩:=name_facts s pos hp hd
 obtain ⟨f2,f3⟩:=f1 (by omega)
 refine ⟨f2,?_⟩
 rw [f3]
 have:(decide (97<=rn.1)&&decide (rn.1<=122)||decide (48<=rn.1)&&decide (rn.1<=57)||decide (rn.1=45))=true:=by
  simp only [Bool.or_eq_true,Bool.and_eq_true,decide_eq_true_eq]
  omega
 simp [this]
set_option maxRecDepth 1000000 in
set_option maxHeartbeats 4000000 in
theorem walk_named (s:ByteArray) (w:World) :
  Calls Tryz.prog 126 #[.string s] w λe w'=>e=.returned (.bool (decide (1<=s.size)&&decide (s.size<=12)&&nameAll s 0))/\(w'=w∨∃ pos,w'=w.iter s pos):=by
 go_enter Tryz.func126,Tryz.ntmps126
 go_wp2
 ·rename_i h1 h2
  go_ret
  refine ⟨?_,.inl rfl⟩
  rw [nb_len (by omega)]
  rfl
 ·rename_i h1 h2
  go_loopw [] (λw'=>∃ (pos:Nat),w'=w.iter s pos/\pos<=s.size/\nameAll s pos=nameAll s 0) (λw'=>s.size - w'.iterPos w.heap.size)
  case atStart=>exact ⟨0,rfl,by omega,rfl⟩
  case round=>
   obtain ⟨pos,rfl,hb,hc⟩:=hrel
   by_cases hp:pos<s.size
   ·have hnx:∀ ty,(Instr.next (.pointer (some ⟨w.heap.size,0,none⟩)) true ty).run Tryz.prog (w.iter s pos)=_:=λty=>run_next_any w s pos ty hp
    generalize hd:Utf8.decode s pos=rn at hnx
    go_wp2
    ·go_ret
     refine ⟨?_,.inr ⟨_,rfl⟩⟩
     rw [nb_in (by omega),<- hc]
     try simp only [bne_iff_ne,ne_eq] at *
     rw [name_no s pos hp hd (by omega) (by omega) (by omega)]
     rfl
    ·have hy:(97<=rn.1/\rn.1<=122)∨(48<=rn.1/\rn.1<=57)∨rn.1=45:=by
      try simp only [bne_eq_false_iff_eq] at *
      omega
     obtain ⟨y1,y2⟩:=name_yes s pos hp hd hy
     refine ⟨⟨pos+rn.snd,rfl,by omega,?_⟩,?_⟩
     ·rw [y1,<- y2];exact hc
     ·simp
      omega
    ·have hy:(97<=rn.1/\rn.1<=122)∨(48<=rn.1/\rn.1<=57)∨rn.1=45:=by
      try simp only [bne_eq_false_iff_eq] at *
      omega
     obtain ⟨y1,y2⟩:=name_yes s pos hp hd hy
     refine ⟨⟨pos+rn.snd,rfl,by omega,?_⟩,?_⟩
     ·rw [y1,<- y2];exact hc
     ·simp
      omega
    ·go_ret
     refine ⟨?_,.inr ⟨_,rfl⟩⟩
     rw [nb_in (by omega),<- hc]
     try simp only [bne_iff_ne,ne_eq] at *
     rw [name_no s pos hp hd (by omega) (by omega) (by omega)]
     rfl
    ·have hy:(97<=rn.1/\rn.1<=122)∨(48<=rn.1/\rn.1<=57)∨rn.1=45:=by
      try simp only [bne_eq_false_iff_eq] at *
      omega
     obtain ⟨y1,y2⟩:=name_yes s pos hp hd hy
     refine ⟨⟨pos+rn.snd,rfl,by omega,?_⟩,?_⟩
     ·rw [y1,<- y2];exact hc
     ·simp
      omega
    ·have hy:(97<=rn.1/\rn.1<=122)∨(48<=rn.1/\rn.1<=57)∨rn.1=45:=by
      try simp only [bne_eq_false_iff_eq] at *
      omega
     obtain ⟨y1,y2⟩:=name_yes s pos hp hd hy
     refine ⟨⟨pos+rn.snd,rfl,by omega,?_⟩,?_⟩
     ·rw [y1,<- y2];exact hc
     ·simp
      omega
    ·go_ret
     refine ⟨?_,.inr ⟨_,rfl⟩⟩
     rw [nb_in (by omega),<- hc]
     try simp only [bne_iff_ne,ne_eq] at *
     rw [name_no s pos hp hd (by omega) (by omega) (by omega)]
     rfl
    ·have hy:(97<=rn.1/\rn.1<=122)∨(48<=rn.1/\rn.1<=57)∨rn.1=45:=by
      try simp only [bne_eq_false_iff_eq] at *
      omega
     obtain ⟨y1,y2⟩:=name_yes s pos hp hd hy
     refine ⟨⟨pos+rn.snd,rfl,by omega,?_⟩,?_⟩
     ·rw [y1,<- y2];exact hc
     ·simp
      omega
   ·have hnx:∀ ty,(Instr.next (.pointer (some ⟨w.heap.size,0,none⟩)) true ty).run Tryz.prog (w.iter s pos)=_:=λty=>run_next_end w s pos ty hp
    go_wp2
    go_ret
    refine ⟨?_,.inr ⟨_,rfl⟩⟩
    rw [nb_in (by omega),<- hc]
    have:nameAll s pos=true:=by
     unfold nameAll
     rw [List.drop_eq_nil_of_le (by simp;omega)]
     rfl
    rw [this]
    rfl
 ·rename_i h1
  go_ret
  refine ⟨?_,.inl rfl⟩
  rw [nb_len (by omega)]
  rfl
open Go Go.Proofs Go.RowKit
theorem u22:Tryz.prog.underlying 22=some (.slice 5):=by kernel_rfl
theorem i5:(Tryz.prog.info? 5).map (·.size)=some 1:=by kernel_rfl
theorem run_mnz (w:World) (n:Nat) (hn:n<=64):∃ cs:Array Value,(callFunc 267 #[.int .i64 n]).run Tryz.prog w=.ok (.value (.slice (some ⟨w.heap.size,0,none⟩) n cs.size)) (w.drew.drew.alloc (.cells cs 5))/\n<=cs.size:=by
 obtain ⟨cs,h1,h2,h3,h4⟩:=Lib.run_makeNoZero_cap (P:=Tryz.prog) w #[3] 22 5 u22 n (by omega)
 refine ⟨cs,?_,h2⟩
 have:=run_callFunc_extern (P:=Tryz.prog) Tryz.func267 (by kernel_rfl) (by kernel_rfl) (by kernel_rfl) (e:=Extern.BytealgMakeNoZero.makeNoZero #[3] #[22]) (by kernel_rfl) #[.int .i64 n] w
 rw [h1] at this
 exact this
def dr (d:Nat) (w:World):World:={ w with drawn:=d }
set_option maxRecDepth 1000000 in
set_option maxHeartbeats 4000000 in
theorem walk_rep32 (b o c:Nat) (x:UInt8) (w:World) (hc:w.cell? ⟨b,o,none⟩=some (.int .u8 x.toNat)) :
  Calls Tryz.prog 233 #[.slice (some ⟨b,o,none⟩) 1 c,.int .i64 32] w λe w'=>e=.returned (.slice (some ⟨w.heap.size,0,none⟩) 32 32)/\∃ cs d cur,w'=(dr d (w.alloc (.cells cs 5))).setRow w.heap.size cur/\∀ j,j<32->cur[j]? = some (.int .u8 x.toNat):=by
 obtain ⟨cs,hm,hcs⟩:=run_mnz w 32 (by omega)
 have hm':(callFunc 267 #[.int .i64 32]).run Tryz.prog w=.ok (.value (.slice (some ⟨w.heap.size,0,none⟩) 32 cs.size)) (w.drew.drew.alloc (.cells cs 5)):=hm
 have hblt:b<w.heap.size:=World.block_lt_of_cell? w _ hc
 have hg2:(w.alloc (.cells cs 5)).drew.drew.heap[w.heap.size]? = some (.cells cs 5 (0,0)):=heap_alloc_new w _
 have hc2:(w.alloc (.cells cs 5)).drew.drew.cell? ⟨b,o,none⟩=some (.int .u8 x.toNat):=by
  have:=World.cell?_alloc_lt w (.cells cs 5) ⟨b,o,none⟩ hblt
  rw [<- hc,<- this]
  rfl
 have hcp:∀ ty,(Builtin.copy_ #[22,22] ty #[.slice (some ⟨w.heap.size,0,none⟩) 32 32,.slice (some ⟨b,o,none⟩) 1 c]).run Tryz.prog (w.alloc (.cells cs 5)).drew.drew=_:=λty=>
  run_copy_row (P:=Tryz.prog) (w.alloc (.cells cs 5)).drew.drew 22 22 ty 5 w.heap.size 0 32 32 ⟨b,o,none⟩ 1 c cs 5 [.int .u8 x.toNat] u22 i5 hg2 rfl (by intro j v hj;rcases j with _ | j;(simp at hj;subst hj;simpa [Addr.add] using hc2);simp at hj) (by simp;omega) (by simp [Value.oneCell'])
 go_enter Tryz.func233,Tryz.ntmps233
 go_wp2
 have hg3:∀ d,(dr d (w.alloc (.cells cs 5))).heap[w.heap.size]? = some (.cells cs 5 (0,0)):=λ_=>hg2
 go_loopw [10] (λv wr=>∃ (bp d:Nat) (cur:Array Value),v=.int .i64 bp/\1<=bp/\bp<=32/\wr=(dr d (w.alloc (.cells cs 5))).setRow w.heap.size cur/\cur.size=cs.size/\∀ j,j<bp->cur[j]? = some (.int .u8 x.toNat)) (λv _=>32 - (intOf v).toNat)
 case atStart=>
  refine ⟨1,w.drawn+2,_,rfl,by omega,by omega,rfl,by simp;omega,λj hj=>(match j,hj with | 0,_=>rfl)⟩
 case round=>
  obtain ⟨bp,d,cur,rfl,hb1,hb2,rfl,hsz,hcur⟩:=hrel
  by_cases hlt:bp<32
  ·obtain ⟨m,hm0,hm1,hm2,hm3⟩:∃ m,m=Nat.min bp (32 - bp)/\m<=bp/\m<=32 - bp/\1<=m:=⟨_,rfl,Nat.min_le_left _ _,Nat.min_le_right _ _,by show 1<=min bp (32 - bp);omega⟩
   have hcp2:∀ ty,(Builtin.copy_ #[22,22] ty #[.slice (some ⟨w.heap.size,bp,none⟩) (32 - bp) (32 - bp),.slice (some ⟨w.heap.size,0,none⟩) bp 32]).run Tryz.prog ((dr d (w.alloc (.cells cs 5))).setRow w.heap.size cur).drew=_:=λty=>
    run_copy_row (P:=Tryz.prog) ((dr d (w.alloc (.cells cs 5))).setRow w.heap.size cur).drew 22 22 ty 5 w.heap.size bp (32 - bp) (32 - bp) ⟨w.heap.size,0,none⟩ bp 32 cur 5 (List.replicate m (.int .u8 x.toNat)) u22 i5 (setRow_heap _ _ _ _ _ _ (hg3 d)) (by simp [hm0]) (by
     intro j v hj
     rw [List.getElem?_replicate] at hj
     split at hj
     ·cases hj
      have:(⟨w.heap.size,0,none⟩:Addr).add j=⟨w.heap.size,j,none⟩:=by rw [Sw.add_off,Nat.zero_add]
      rw [this]
      exact (cell_setRow_same (dr d (w.alloc (.cells cs 5))) _ _ _ _ _ _ (hg3 d)).trans (hcur j (by omega))
     ·cases hj) (by simp;omega) (by intro v hv;rw [List.eq_of_mem_replicate hv];rfl)
   go_wp2
   go_region
   go_wp2
   rw [<- hm0]
   refine ⟨⟨bp+m,d+1,(cur.toList.take bp++(List.replicate m (Value.int .u8 x.toNat)++cur.toList.drop (bp+m))).toArray,by simp,by omega,by omega,?_,?_,?_⟩,?_⟩
   ·show (((dr (d+1) (w.alloc (.cells cs 5))).setRow w.heap.size cur).setRow w.heap.size _)=_
    rw [setRow_setRow]
   ·simp
    omega
   ·intro j hj
    simp only [List.getElem?_toArray]
    by_cases h1:j<bp
    ·rw [List.getElem?_append_left (by simp;omega),List.getElem?_take,if_pos h1]
     simpa using hcur j h1
    ·rw [List.getElem?_append_right (by simp;omega),List.getElem?_append_left (by simp;omega),List.getElem?_replicate,if_pos (by simp;omega)]
   ·simp [intOf]
    omega
  ·have:bp=32:=by omega
   subst this
   go_wp2
   go_ret
   exact ⟨rfl,cs,d,cur,rfl,hcur⟩
set_option maxRecDepth 1000000 in
set_option maxHeartbeats 4000000 in
theorem walk_rep20 (b o c:Nat) (x:UInt8) (w:World) (hc:w.cell? ⟨b,o,none⟩=some (.int .u8 x.toNat)) :
  Calls Tryz.prog 233 #[.slice (some ⟨b,o,none⟩) 1 c,.int .i64 20] w λe w'=>e=.returned (.slice (some ⟨w.heap.size,0,none⟩) 20 20)/\∃ cs d cur,w'=(dr d (w.alloc (.cells cs 5))).setRow w.heap.size cur/\∀ j,j<20->cur[j]? = some (.int .u8 x.toNat):=by
 obtain ⟨cs,hm,hcs⟩:=run_mnz w 20 (by omega)
 have hm':(callFunc 267 #[.int .i64 20]).run Tryz.prog w=.ok (.value (.slice (some ⟨w.heap.size,0,none⟩) 20 cs.size)) (w.drew.drew.alloc (.cells cs 5)):=hm
 have hblt:b<w.heap.size:=World.block_lt_of_cell? w _ hc
 have hg2:(w.alloc (.cells cs 5)).drew.drew.heap[w.heap.size]? = some (.cells cs 5 (0,0)):=heap_alloc_new w _
 have hc2:(w.alloc (.cells cs 5)).drew.drew.cell? ⟨b,o,none⟩=some (.int .u8 x.toNat):=by
  have:=World.cell?_alloc_lt w (.cells cs 5) ⟨b,o,none⟩ hblt
  rw [<- hc,<- this]
  rfl
 have hcp:∀ ty,(Builtin.copy_ #[22,22] ty #[.slice (some ⟨w.heap.size,0,none⟩) 20 20,.slice (some ⟨b,o,none⟩) 1 c]).run Tryz.prog (w.alloc (.cells cs 5)).drew.drew=_:=λty=>
  run_copy_row (P:=Tryz.prog) (w.alloc (.cells cs 5)).drew.drew 22 22 ty 5 w.heap.size 0 20 20 ⟨b,o,none⟩ 1 c cs 5 [.int .u8 x.toNat] u22 i5 hg2 rfl (by intro j v hj;rcases j with _ | j;(simp at hj;subst hj;simpa [Addr.add] using hc2);simp at hj) (by simp;omega) (by simp [Value.oneCell'])
 go_enter Tryz.func233,Tryz.ntmps233
 go_wp2
 have hg3:∀ d,(dr d (w.alloc (.cells cs 5))).heap[w.heap.size]? = some (.cells cs 5 (0,0)):=λ_=>hg2
 go_loopw [10] (λv wr=>∃ (bp d:Nat) (cur:Array Value),v=.int .i64 bp/\1<=bp/\bp<=20/\wr=(dr d (w.alloc (.cells cs 5))).setRow w.heap.size cur/\cur.size=cs.size/\∀ j,j<bp->cur[j]? = some (.int .u8 x.toNat)) (λv _=>20 - (intOf v).toNat)
 case atStart=>
  refine ⟨1,w.drawn+2,_,rfl,by omega,by omega,rfl,by simp;omega,λj hj=>(match j,hj with | 0,_=>rfl)⟩
 case round=>
  obtain ⟨bp,d,cur,rfl,hb1,hb2,rfl,hsz,hcur⟩:=hrel
  by_cases hlt:bp<20
  ·obtain ⟨m,hm0,hm1,hm2,hm3⟩:∃ m,m=Nat.min bp (20 - bp)/\m<=bp/\m<=20 - bp/\1<=m:=⟨_,rfl,Nat.min_le_left _ _,Nat.min_le_right _ _,by show 1<=min bp (20 - bp);omega⟩
   have hcp2:∀ ty,(Builtin.copy_ #[22,22] ty #[.slice (some ⟨w.heap.size,bp,none⟩) (20 - bp) (20 - bp),.slice (some ⟨w.heap.size,0,none⟩) bp 20]).run Tryz.prog ((dr d (w.alloc (.cells cs 5))).setRow w.heap.size cur).drew=_:=λty=>
    run_copy_row (P:=Tryz.prog) ((dr d (w.alloc (.cells cs 5))).setRow w.heap.size cur).drew 22 22 ty 5 w.heap.size bp (20 - bp) (20 - bp) ⟨w.heap.size,0,none⟩ bp 20 cur 5 (List.replicate m (.int .u8 x.toNat)) u22 i5 (setRow_heap _ _ _ _ _ _ (hg3 d)) (by simp [hm0]) (by
     intro j v hj
     rw [List.getElem?_replicate] at hj
     split at hj
     ·cases hj
      have:(⟨w.heap.size,0,none⟩:Addr).add j=⟨w.heap.size,j,none⟩:=by rw [Sw.add_off,Nat.zero_add]
      rw [this]
      exact (cell_setRow_same (dr d (w.alloc (.cells cs 5))) _ _ _ _ _ _ (hg3 d)).trans (hcur j (by omega))
     ·cases hj) (by simp;omega) (by intro v hv;rw [List.eq_of_mem_replicate hv];rfl)
   go_wp2
   go_region
   go_wp2
   rw [<- hm0]
   refine ⟨⟨bp+m,d+1,(cur.toList.take bp++(List.replicate m (Value.int .u8 x.toNat)++cur.toList.drop (bp+m))).toArray,by simp,by omega,by omega,?_,?_,?_⟩,?_⟩
   ·show (((dr (d+1) (w.alloc (.cells cs 5))).setRow w.heap.size cur).setRow w.heap.size _)=_
    rw [setRow_setRow]
   ·simp
    omega
   ·intro j hj
    simp only [List.getElem?_toArray]
    by_cases h1:j<bp
    ·rw [List.getElem?_append_left (by simp;omega),List.getElem?_take,if_pos h1]
     simpa using hcur j h1
    ·rw [List.getElem?_append_right (by simp;omega),List.getElem?_append_left (by simp;omega),List.getElem?_replicate,if_pos (by simp;omega)]
   ·simp [intOf]
    omega
  ·have:bp=20:=by omega
   subst this
   go_wp2
   go_ret
   exact ⟨rfl,cs,d,cur,rfl,hcur⟩
end Go.Proofs.H
namespace Go.Sw
open Go
theorem hand_env {P:Program} {f:FuncId} {ps:List PV} {rs:AS} (hc:Callable P f)
  (h:∀ (w:World) (M:Mem) (args:Array Value) (ob:List Nat) (nk:∀ e∈([]:List (Nat×Nat)),e.1<BIG),(∀ b∈ob,b<w.heap.size/\∀ o,M b o=none)->GlobOk w M->(∀ b o x,M b o=some x->w.cell? ⟨b,o,none⟩=some x)->args.size=ps.length->(∀ (j:Nat) (p:PV),ps[j]? = some p->Rep M p (args.getD j undef)) ->
   Calls P f args w λe w'=>∃ v,e=.returned v/\SRel ⟨w,M,⟨[],ob,nk⟩,1,[]⟩ rs ⟨#[v],[]⟩ w'):Ok P f ps.length (mkS (argE 0 ps) []) rs:=by
 refine ⟨hc,λw M pk args κ tip hi hp=>?_⟩
 obtain ⟨pl,ob,nk⟩:=pk
 have hpk:pl=[]:=by
  cases pl with
  | nil=>rfl
  | cons e l=>
   have:=(hp e (by simp)).1
   rw [hi.dom e.1 rfl] at this
   cases this
 subst hpk
 refine h w M args ob nk hi.old.2 hi.glob hi.mem hi.size ?_
 intro j p hj
 have hget:∀ (l:List PV) (i j:Nat) (p:PV),l[j]? = some p->lk (argE i l) (i+j)=some (.p p):=by
  intro l
  induction l with
  | nil=>intro i j p h;simp at h
  | cons q r ih=>
   intro i j p h
   cases j with
   | zero=>simp at h;subst h;simp [argE,lk]
   | succ j=>
    have:Nat.beq (i+(j+1)) i=false:=by rw [Bool.eq_false_iff];intro e;have:=Nat.eq_of_beq_eq_true e;omega
    simp only [argE,lk,this,cond_false]
    rw [show i+(j+1)=(i+1)+j by omega]
    exact ih (i+1) j p (by simpa using h)
 obtain ⟨x,h1,h2⟩:=hi.env j (.p p) (by have:=hget ps 0 j p hj;rw [Nat.zero_add] at this;exact this)
 rw [Array.getD_eq_getD_getElem?]
 simp only at h1
 rw [h1]
 exact repA_pv h2
theorem ok_handG {P:Program} {f:FuncId} {ps:List PV} {r:AV} (hc:Callable P f)
  (h:∀ (w:World) (M:Mem) (args:Array Value),GlobOk w M->(∀ b o x,M b o=some x->w.cell? ⟨b,o,none⟩=some x)->args.size=ps.length->(∀ (j:Nat) (p:PV),ps[j]? = some p->Rep M p (args.getD j undef)) ->
   Calls P f args w λe w'=>∃ v M',e=.returned v/\w'.os=w.os/\w'.tape=w.tape/\w'.output=w.output/\w.heap.size<=w'.heap.size/\(∀ b,b<w.heap.size->w'.heap[b]? = w.heap[b]?)/\M.le M'/\(∀ b o x,M' b o=some x->w'.cell? ⟨b,o,none⟩=some x)/\(∀ b o,b<w.heap.size->M' b o=M b o)/\RepA M' (λ_=>none) (λ_=>undef) (λ_=>none) r v) :
  Ok P f ps.length (mkS (argE 0 ps) []) (mkS [(0,r)] []):=
 hand_env hc λw M args ob nk hob hg hm hs hr=>(h w M args hg hm hs hr).mono <| by
  rintro e w' ⟨v,M',rfl,h1,h2,h3,h4,h5,h6,h7,h8,h9⟩
  refine ⟨v,rfl,M',λ_=>none,λ_=>undef,h6,by simp,{
   defers:=rfl
   size:=rfl
   fr:=⟨h1,h2,h3,h4,λb hb _ _=>h5 b hb⟩
   mem:=h7
   env:=λt u e=>by
    simp only [mkS,lk] at e
    cases hb:Nat.beq t 0 with
    | true=>
     have:=Nat.eq_of_beq_eq_true hb
     subst this
     simp at e
     subst e
     exact ⟨v,rfl,h9⟩
    | false=>simp [hb] at e
   vars:=λk l h=>by simp [mkS,lk] at h
   bufs:=λk c h=>by simp [mkS,lk] at h
   inj:=λk k' b h=>by simp at h
   dom:=λ_ _=>rfl
   old:=⟨λb o hb=>h8 b o hb,hob⟩
   glob:=hg.mono h6
   owns:=λk wd l h=>by simp [mkS,lk] at h }⟩
theorem ok_hand {P:Program} {f:FuncId} {ps:List PV} {r:PV} (hc:Callable P f)
  (h:∀ (w:World) (M:Mem) (args:Array Value),(∀ b o x,M b o=some x->w.cell? ⟨b,o,none⟩=some x)->args.size=ps.length->(∀ (j:Nat) (p:PV),ps[j]? = some p->Rep M p (args.getD j undef)) ->
   Calls P f args w λe w'=>∃ v M',e=.returned v/\w'.os=w.os/\w'.tape=w.tape/\w'.output=w.output/\w.heap.size<=w'.heap.size/\(∀ b,b<w.heap.size->w'.heap[b]? = w.heap[b]?)/\M.le M'/\(∀ b o x,M' b o=some x->w'.cell? ⟨b,o,none⟩=some x)/\(∀ b o,b<w.heap.size->M' b o=M b o)/\Rep M' r v) :
  Ok P f ps.length (mkS (argE 0 ps) []) (mkS [(0,.p r)] []):=
 ok_handG hc λw M args _ a b c=>(h w M args a b c).mono λe w' ⟨v,M',h0,h1,h2,h3,h4,h5,h6,h7,h8,h9⟩ =>⟨v,M',h0,h1,h2,h3,h4,h5,h6,h7,h8,.p _ _ h9⟩
theorem ok_handO {P:Program} {f:FuncId} {ps:List PV} {n wd:Nat} {l:List PV} (hwd:0<wd) (hl:n*wd=l.length) (hc:Callable P f)
  (h:∀ (w:World) (M:Mem) (args:Array Value),(∀ b o x,M b o=some x->w.cell? ⟨b,o,none⟩=some x)->args.size=ps.length->(∀ (j:Nat) (p:PV),ps[j]? = some p->Rep M p (args.getD j undef)) ->
   Calls P f args w λe w'=>∃ v t news,e=.returned v/\w'.os=w.os/\w'.tape=w.tape/\w'.output=w.output/\w.heap.size<=w'.heap.size/\(∀ b,b<w.heap.size->w'.heap[b]? = w.heap[b]?)/\w'.ownsRow w.heap.size t wd v n news/\(∀ (j:Nat) (q:PV),l[j]? = some q->∃ x,news[j]? = some x/\Rep M q x)) :
  Ok P f ps.length (mkS (argE 0 ps) []) (mkS [(0,.own 500 n)] [(500,.own wd (l.map .p))]):=
 hand_env hc λw M args ob nk hob hg hm hs hr=>(h w M args hm hs hr).mono <| by
  rintro e w' ⟨v,t,news,rfl,h1,h2,h3,h4,h5,⟨h6,h7⟩,h8⟩
  have hmw:∀ b o,w.heap.size<=b->M b o=none:=λb o hb=>by
   cases hx:M b o with
   | none=>rfl
   | some x=>have:=World.block_lt_of_cell? w _ (hm b o x hx);simp at this;omega
  have h500:∀ k,lk [(500,ABlk.own wd (l.map AV.p))] k=if k=500 then some (.own wd (l.map AV.p)) else none:=λk=>by
   unfold lk
   by_cases hk:k=500
   ·subst hk;rfl
   ·rw [if_neg hk,show Nat.beq k 500=false by rw [Bool.eq_false_iff];intro e;exact hk (Nat.eq_of_beq_eq_true e)];rfl
  refine ⟨v,rfl,M,λk=>if k=500 then v.ownBlock else none,λ_=>v,Mem.le_refl M,by simp,{
   defers:=rfl
   size:=rfl
   fr:=⟨h1,h2,h3,h4,λb hb _ _=>h5 b hb⟩
   mem:=λb o x hx=>by
    have:=hm b o x hx
    rw [World.cell?_of_block (h5 b (World.block_lt_of_cell? w _ this))]
    exact this
   env:=λt u e=>by
    simp only [mkS,lk] at e
    cases hb:Nat.beq t 0 with
    | true=>
     have:=Nat.eq_of_beq_eq_true hb
     subst this
     simp at e
     subst e
     refine ⟨v,rfl,.own 500 n wd (l.map AV.p) v (h500 500) (by simp;omega) (λ_=>rfl) ?_⟩
     rcases h7 with ⟨rfl,_⟩ | ⟨g,cap,cur,rfl,_⟩
     ·exact ⟨_,_,_,rfl⟩
     ·exact ⟨_,_,_,rfl⟩
    | false=>simp [hb] at e
   vars:=λk x h=>by
    have h:lk [(500,ABlk.own wd (l.map AV.p))] k=some (.var x):=h
    rw [h500] at h;split at h<;>cases h
   bufs:=λk c h=>by
    have h:lk [(500,ABlk.own wd (l.map AV.p))] k=some (.buf c):=h
    rw [h500] at h;split at h<;>cases h
   inj:=λk k' b h h'=>by
    have h:(if k=500 then v.ownBlock else none)=some b:=h
    have h':(if k'=500 then v.ownBlock else none)=some b:=h'
    by_cases hk:k=500
    ·by_cases hk':k'=500
     ·rw [hk,hk']
     ·rw [if_neg hk'] at h';cases h'
    ·rw [if_neg hk] at h;cases h
   dom:=λk h=>by
    have h:lk [(500,ABlk.own wd (l.map AV.p))] k=none:=h
    rw [h500] at h
    split at h
    ·cases h
    ·rename_i hk;simp [hk]
   old:=⟨λb o hb=>rfl,hob⟩
   glob:=hg
   owns:=λk wd' l' h=>by
    have h:lk [(500,ABlk.own wd (l.map AV.p))] k=some (.own wd' l'):=h
    rw [h500] at h
    split at h
    ·rename_i hk
     subst hk
     cases h
     refine .inr ⟨hwd,?_⟩
     rcases h7 with ⟨rfl,hn0⟩ | ⟨g,cap,cur,rfl,hgb,hcur,hcap,hmax,hsz,htake⟩
     ·refine .inl ⟨rfl,rfl,?_⟩
      subst hn0
      have:l=[]:=List.length_eq_zero_iff.1 (by omega)
      rw [this];rfl
     ·refine .inr ⟨g,n,cap,cur,t,(0,0),rfl,rfl,.inl hgb,hcur,.inl rfl,by rw [List.length_map];exact hl,by omega,hcap,hmax,λj q hq=>?_,λo=>hmw g o hgb⟩
      rw [List.getElem?_map] at hq
      cases hlj:l[j]? with
      | none=>rw [hlj] at hq;cases hq
      | some q'=>
       rw [hlj] at hq
       cases hq
       obtain ⟨x,hx,hrep⟩:=h8 j q' hlj
       have hj:j<n*wd:=by rw [hl];exact (List.getElem?_eq_some_iff.1 hlj).1
       have:cur.getD j undef=x:=by
        rw [<- htake] at hx
        rw [List.getElem?_take,if_pos hj] at hx
        rw [Array.getD_eq_getD_getElem?,<- Array.getElem?_toList,hx];rfl
       rw [this]
       exact .p _ _ hrep
    ·cases h }⟩
end Go.Sw
