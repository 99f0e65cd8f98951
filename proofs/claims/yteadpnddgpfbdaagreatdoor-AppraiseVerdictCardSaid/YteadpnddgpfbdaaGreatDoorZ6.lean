/- AppraiseVerdict (law 37: the verdict about evidence that is right but for up to two changes) is proved for every input, under no condition of ours; this text is a part of that proof. -/
import Derived.Test.YteadpnddgpfbdaaGreatDoorZ5
import Derived.Test.YteadpnddgpfbdaaGreatDoorZ2
import Derived.Test.YteadpnddgpfbdaaGreatDoorProg
import Derived.Test.YteadpnddgpfbdaaGreatDoorZ4
import Derived.Tactics
import Derived.Tactics2
import Derived.StillTactics
import Derived.Laws.RangeString
import Derived.Laws.RangeAny
import Derived.Laws.Runes
import Derived.Laws.Small
import Derived.Laws.Strings
import Derived.Scope
import Derived.LoopTactic
import Derived.Handy
import Derived.Laws.CopyRow
import Derived.Laws.Slices
import Derived.Laws.MathBits
import Derived.Laws.Bits128
import Derived.Room.MakeNoZero
set_option linter.all false
namespace Go.Proofs.Tryz.S
open Go Go.Sw
set_option maxRecDepth 100000
def t2:TI:=⟨1,8,[.int .i64 0],(.int .i64)⟩
theorem t2ok:TOk Tryz.prog 2 t2:=zW (by kernel_rfl) (by kernel_rfl) rfl
def t3:TI:=⟨1,8,[.int .i64 0],(.int .i64)⟩
theorem t3ok:TOk Tryz.prog 3 t3:=zW (by kernel_rfl) (by kernel_rfl) rfl
def t4:TI:=⟨1,1,[.bool false],.bool⟩
theorem t4ok:TOk Tryz.prog 4 t4:=zW (by kernel_rfl) (by kernel_rfl) rfl
def t5:TI:=⟨1,1,[.int .u8 0],(.int .u8)⟩
theorem t5ok:TOk Tryz.prog 5 t5:=zW (by kernel_rfl) (by kernel_rfl) rfl
def t6:TI:=⟨1,1,[.int .u8 0],(.int .u8)⟩
theorem t6ok:TOk Tryz.prog 6 t6:=zW (by kernel_rfl) (by kernel_rfl) rfl
def t7:TI:=⟨4,24,[.int .i64 0,.int .i64 0,.bool false,.int .u8 0],(.struct [(2,0),(3,1),(4,2),(6,3)])⟩
theorem t7ok:TOk Tryz.prog 7 t7:=zW (by kernel_rfl) (by kernel_rfl) rfl
def t8:TI:=⟨4,24,[.int .i64 0,.int .i64 0,.bool false,.int .u8 0],(.struct [(2,0),(3,1),(4,2),(6,3)])⟩
theorem t8ok:TOk Tryz.prog 8 t8:=zW (by kernel_rfl) (by kernel_rfl) rfl
def t9:TI:=⟨1,16,[.str []],.str⟩
theorem t9ok:TOk Tryz.prog 9 t9:=zW (by kernel_rfl) (by kernel_rfl) rfl
def t10:TI:=⟨1,16,[.str []],.str⟩
theorem yDz:TOk Tryz.prog 10 t10:=zW (by kernel_rfl) (by kernel_rfl) rfl
def t11:TI:=⟨1,16,[.str []],.str⟩
theorem yA1:TOk Tryz.prog 11 t11:=zW (by kernel_rfl) (by kernel_rfl) rfl
def t12:TI:=⟨1,8,[.int .u64 0],(.int .u64)⟩
theorem yE2:TOk Tryz.prog 12 t12:=zW (by kernel_rfl) (by kernel_rfl) rfl
def t13:TI:=⟨2,24,[.str [],.int .u64 0],(.struct [(9,0),(12,1)])⟩
theorem yC7:TOk Tryz.prog 13 t13:=zW (by kernel_rfl) (by kernel_rfl) rfl
def t14:TI:=⟨2,24,[.str [],.int .u64 0],(.struct [(9,0),(12,1)])⟩
theorem yCq:TOk Tryz.prog 14 t14:=zW (by kernel_rfl) (by kernel_rfl) rfl
def t15:TI:=⟨1,8,[.nilp],(.ptr 309)⟩
theorem yEp:TOk Tryz.prog 15 t15:=zW (by kernel_rfl) (by kernel_rfl) rfl
def t16:TI:=⟨1,8,[.nilp],(.ptr 312)⟩
theorem yBs:TOk Tryz.prog 16 t16:=zW (by kernel_rfl) (by kernel_rfl) rfl
def t17:TI:=⟨1,8,[.nilp],(.ptr 319)⟩
theorem yBh:TOk Tryz.prog 17 t17:=zW (by kernel_rfl) (by kernel_rfl) rfl
def t18:TI:=⟨1,8,[.nilp],(.struct [(17,0)])⟩
theorem yEy:TOk Tryz.prog 18 t18:=zW (by kernel_rfl) (by kernel_rfl) rfl
def t19:TI:=⟨1,8,[.nilp],(.struct [(17,0)])⟩
theorem yEe:TOk Tryz.prog 19 t19:=zW (by kernel_rfl) (by kernel_rfl) rfl
def t20:TI:=⟨1,16,[.err false],.iface⟩
theorem yE1:TOk Tryz.prog 20 t20:=zW (by kernel_rfl) (by kernel_rfl) rfl
def t21:TI:=⟨1,4,[.int .i32 0],(.int .i32)⟩
theorem yD1:TOk Tryz.prog 21 t21:=zW (by kernel_rfl) (by kernel_rfl) rfl
def t22:TI:=⟨1,24,[.bytes []],(.slice 5)⟩
theorem yCw:TOk Tryz.prog 22 t22:=zW (by kernel_rfl) (by kernel_rfl) rfl
def t23:TI:=⟨4,80,[.int .i64 0,.bytes [],.bytes [],.bytes []],(.struct [(3,0),(22,1),(22,2),(22,3)])⟩
theorem yEn:TOk Tryz.prog 23 t23:=zW (by kernel_rfl) (by kernel_rfl) rfl
def t24:TI:=⟨4,80,[.int .i64 0,.bytes [],.bytes [],.bytes []],(.struct [(3,0),(22,1),(22,2),(22,3)])⟩
theorem yCm:TOk Tryz.prog 24 t24:=zW (by kernel_rfl) (by kernel_rfl) rfl
def t27:TI:=⟨1,24,[.sl 4 []],(.slice 107)⟩
theorem yD9:TOk Tryz.prog 27 t27:=zW (by kernel_rfl) (by kernel_rfl) rfl
def t28:TI:=⟨3,40,[.int .i64 0,.int .i64 0,.sl 4 []],(.struct [(3,0),(3,1),(27,2)])⟩
theorem yEd:TOk Tryz.prog 28 t28:=zW (by kernel_rfl) (by kernel_rfl) rfl
def t29:TI:=⟨3,40,[.int .i64 0,.int .i64 0,.sl 4 []],(.struct [(3,0),(3,1),(27,2)])⟩
theorem yB4:TOk Tryz.prog 29 t29:=zW (by kernel_rfl) (by kernel_rfl) rfl
def t30:TI:=⟨1,24,[.sl 7 []],(.slice 65)⟩
theorem yBw:TOk Tryz.prog 30 t30:=zW (by kernel_rfl) (by kernel_rfl) rfl
def t33:TI:=⟨1,24,[.sl 5 []],(.slice 37)⟩
theorem yC8:TOk Tryz.prog 33 t33:=zW (by kernel_rfl) (by kernel_rfl) rfl
def t34:TI:=⟨3,72,[.bytes [],.bytes [],.bytes []],(.struct [(22,0),(22,1),(22,2)])⟩
theorem yEc:TOk Tryz.prog 34 t34:=zW (by kernel_rfl) (by kernel_rfl) rfl
def t35:TI:=⟨3,72,[.bytes [],.bytes [],.bytes []],(.struct [(22,0),(22,1),(22,2)])⟩
theorem yDh:TOk Tryz.prog 35 t35:=zW (by kernel_rfl) (by kernel_rfl) rfl
def t36:TI:=⟨5,72,[.int .i64 0,.int .i64 0,.int .i64 0,.bytes [],.bytes []],(.struct [(3,0),(3,1),(3,2),(22,3),(22,4)])⟩
theorem yBm:TOk Tryz.prog 36 t36:=zW (by kernel_rfl) (by kernel_rfl) rfl
def t37:TI:=⟨5,72,[.int .i64 0,.int .i64 0,.int .i64 0,.bytes [],.bytes []],(.struct [(3,0),(3,1),(3,2),(22,3),(22,4)])⟩
theorem yCy:TOk Tryz.prog 37 t37:=zW (by kernel_rfl) (by kernel_rfl) rfl
def t38:TI:=⟨11,184,[.int .i64 0,.int .i64 0,.sl 5 [],.bytes [],.bytes [],.bytes [],.int .i64 0,.int .i64 0,.int .i64 0,.bytes [],.bytes []],(.struct [(3,0),(3,1),(33,2),(35,3),(37,6)])⟩
theorem yCo:TOk Tryz.prog 38 t38:=zW (by kernel_rfl) (by kernel_rfl) rfl
def t39:TI:=⟨11,184,[.int .i64 0,.int .i64 0,.sl 5 [],.bytes [],.bytes [],.bytes [],.int .i64 0,.int .i64 0,.int .i64 0,.bytes [],.bytes []],(.struct [(3,0),(3,1),(33,2),(35,3),(37,6)])⟩
theorem yBd:TOk Tryz.prog 39 t39:=zW (by kernel_rfl) (by kernel_rfl) rfl
def t42:TI:=⟨1,24,[.sl 4 []],(.slice 24)⟩
theorem yDp:TOk Tryz.prog 42 t42:=zW (by kernel_rfl) (by kernel_rfl) rfl
def t43:TI:=⟨2,16,[.int .i64 0,.int .i64 0],(.arr 2 3)⟩
theorem yCl:TOk Tryz.prog 43 t43:=zW (by kernel_rfl) (by kernel_rfl) rfl
def t44:TI:=⟨2,16,[.int .i64 0,.int .i64 0],(.arr 2 3)⟩
theorem yD3:TOk Tryz.prog 44 t44:=zW (by kernel_rfl) (by kernel_rfl) rfl
def t45:TI:=⟨10,128,[.bytes [],.bytes [],.int .i64 0,.int .i64 0,.int .i64 0,.bool false,.int .i64 0,.int .i64 0,.int .i64 0,.bytes []],(.struct [(22,0),(22,1),(3,2),(3,3),(3,4),(4,5),(3,6),(44,7),(22,9)])⟩
theorem yCn:TOk Tryz.prog 45 t45:=zW (by kernel_rfl) (by kernel_rfl) rfl
def t46:TI:=⟨10,128,[.bytes [],.bytes [],.int .i64 0,.int .i64 0,.int .i64 0,.bool false,.int .i64 0,.int .i64 0,.int .i64 0,.bytes []],(.struct [(22,0),(22,1),(3,2),(3,3),(3,4),(4,5),(3,6),(44,7),(22,9)])⟩
theorem yCg:TOk Tryz.prog 46 t46:=zW (by kernel_rfl) (by kernel_rfl) rfl
def t47:TI:=⟨1,8,[.int .i64 0],(.int .i64)⟩
theorem yBi:TOk Tryz.prog 47 t47:=zW (by kernel_rfl) (by kernel_rfl) rfl
def t53:TI:=⟨1,8,[.int .u64 0],(.int .u64)⟩
theorem yEq:TOk Tryz.prog 53 t53:=zW (by kernel_rfl) (by kernel_rfl) rfl
def t55:TI:=⟨1,24,[.sl 2 []],(.slice 132)⟩
theorem yDf:TOk Tryz.prog 55 t55:=zW (by kernel_rfl) (by kernel_rfl) rfl
def t56:TI:=⟨4,48,[.int .i64 0,.int .i64 0,.sl 2 [],.int .i64 0],(.struct [(47,0),(3,1),(55,2),(3,3)])⟩
theorem yC9:TOk Tryz.prog 56 t56:=zW (by kernel_rfl) (by kernel_rfl) rfl
def t57:TI:=⟨4,48,[.int .i64 0,.int .i64 0,.sl 2 [],.int .i64 0],(.struct [(47,0),(3,1),(55,2),(3,3)])⟩
theorem yB0:TOk Tryz.prog 57 t57:=zW (by kernel_rfl) (by kernel_rfl) rfl
def t60:TI:=⟨1,24,[.sl 4 []],(.slice 87)⟩
theorem yE7:TOk Tryz.prog 60 t60:=zW (by kernel_rfl) (by kernel_rfl) rfl
def t62:TI:=⟨1,24,[.sl 4 []],(.slice 102)⟩
theorem yDu:TOk Tryz.prog 62 t62:=zW (by kernel_rfl) (by kernel_rfl) rfl
def t63:TI:=⟨1,24,[.sl 4 []],(.slice 68)⟩
theorem yEt:TOk Tryz.prog 63 t63:=zW (by kernel_rfl) (by kernel_rfl) rfl
def t64:TI:=⟨7,96,[.str [],.int .i64 0,.int .i64 0,.int .i64 0,.int .i64 0,.sl 4 [],.sl 4 []],(.struct [(9,0),(3,1),(3,2),(3,3),(3,4),(62,5),(63,6)])⟩
theorem yEg:TOk Tryz.prog 64 t64:=zW (by kernel_rfl) (by kernel_rfl) rfl
def t65:TI:=⟨7,96,[.str [],.int .i64 0,.int .i64 0,.int .i64 0,.int .i64 0,.sl 4 [],.sl 4 []],(.struct [(9,0),(3,1),(3,2),(3,3),(3,4),(62,5),(63,6)])⟩
theorem yFe:TOk Tryz.prog 65 t65:=zW (by kernel_rfl) (by kernel_rfl) rfl
def t67:TI:=⟨4,40,[.int .i64 0,.str [],.int .i64 0,.int .i64 0],(.struct [(3,0),(9,1),(3,2),(3,3)])⟩
theorem yBu:TOk Tryz.prog 67 t67:=zW (by kernel_rfl) (by kernel_rfl) rfl
def t68:TI:=⟨4,40,[.int .i64 0,.str [],.int .i64 0,.int .i64 0],(.struct [(3,0),(9,1),(3,2),(3,3)])⟩
theorem yEi:TOk Tryz.prog 68 t68:=zW (by kernel_rfl) (by kernel_rfl) rfl
def t86:TI:=⟨4,56,[.int .i64 0,.str [],.int .i64 0,.bytes []],(.struct [(3,0),(9,1),(3,2),(22,3)])⟩
theorem yDx:TOk Tryz.prog 86 t86:=zW (by kernel_rfl) (by kernel_rfl) rfl
def t87:TI:=⟨4,56,[.int .i64 0,.str [],.int .i64 0,.bytes []],(.struct [(3,0),(9,1),(3,2),(22,3)])⟩
theorem yD6:TOk Tryz.prog 87 t87:=zW (by kernel_rfl) (by kernel_rfl) rfl
def t89:TI:=⟨1,8,[.nilp],(.ptr 136)⟩
theorem yCk:TOk Tryz.prog 89 t89:=zW (by kernel_rfl) (by kernel_rfl) rfl
def t101:TI:=⟨4,56,[.int .i64 0,.str [],.int .i64 0,.bytes []],(.struct [(3,0),(9,1),(3,2),(22,3)])⟩
theorem zXk:TOk Tryz.prog 101 t101:=zW (by kernel_rfl) (by kernel_rfl) rfl
def t102:TI:=⟨4,56,[.int .i64 0,.str [],.int .i64 0,.bytes []],(.struct [(3,0),(9,1),(3,2),(22,3)])⟩
theorem zZi:TOk Tryz.prog 102 t102:=zW (by kernel_rfl) (by kernel_rfl) rfl
def t105:TI:=⟨1,24,[.sl 1 []],(.slice 22)⟩
theorem zXs:TOk Tryz.prog 105 t105:=zW (by kernel_rfl) (by kernel_rfl) rfl
def t106:TI:=⟨4,64,[.int .i64 0,.int .i64 0,.sl 1 [],.bytes []],(.struct [(3,0),(3,1),(105,2),(22,3)])⟩
theorem zZf:TOk Tryz.prog 106 t106:=zW (by kernel_rfl) (by kernel_rfl) rfl
def t107:TI:=⟨4,64,[.int .i64 0,.int .i64 0,.sl 1 [],.bytes []],(.struct [(3,0),(3,1),(105,2),(22,3)])⟩
theorem zZc:TOk Tryz.prog 107 t107:=zW (by kernel_rfl) (by kernel_rfl) rfl
def t125:TI:=⟨1,24,[.sl 1 []],(.slice 105)⟩
theorem zXt:TOk Tryz.prog 125 t125:=zW (by kernel_rfl) (by kernel_rfl) rfl
def t126:TI:=⟨2,32,[.sl 1 [],.int .i64 0],(.struct [(125,0),(3,1)])⟩
theorem zZm:TOk Tryz.prog 126 t126:=zW (by kernel_rfl) (by kernel_rfl) rfl
def t127:TI:=⟨2,32,[.sl 1 [],.int .i64 0],(.struct [(125,0),(3,1)])⟩
theorem zYt:TOk Tryz.prog 127 t127:=zW (by kernel_rfl) (by kernel_rfl) rfl
def t131:TI:=⟨2,16,[.int .i64 0,.int .i64 0],(.struct [(3,0),(3,1)])⟩
theorem zYd:TOk Tryz.prog 131 t131:=zW (by kernel_rfl) (by kernel_rfl) rfl
def t132:TI:=⟨2,16,[.int .i64 0,.int .i64 0],(.struct [(3,0),(3,1)])⟩
theorem zYk:TOk Tryz.prog 132 t132:=zW (by kernel_rfl) (by kernel_rfl) rfl
def t135:TI:=⟨2,32,[.bytes [],.int .i64 0],(.struct [(22,0),(3,1)])⟩
theorem zXw:TOk Tryz.prog 135 t135:=zW (by kernel_rfl) (by kernel_rfl) rfl
def t136:TI:=⟨2,32,[.bytes [],.int .i64 0],(.struct [(22,0),(3,1)])⟩
theorem zYf:TOk Tryz.prog 136 t136:=zW (by kernel_rfl) (by kernel_rfl) rfl
def t139:TI:=⟨1,4,[.int .u32 0],(.int .u32)⟩
theorem yAq:TOk Tryz.prog 139 t139:=zW (by kernel_rfl) (by kernel_rfl) rfl
def t140:TI:=⟨64,256,List.replicate 64 (.int .u32 0),(.arr 64 139)⟩
theorem zY2:TOk Tryz.prog 140 t140:=zW (by kernel_rfl) (by kernel_rfl) rfl
def t142:TI:=⟨1,24,[.sl 1 []],(.slice 139)⟩
theorem zYx:TOk Tryz.prog 142 t142:=zW (by kernel_rfl) (by kernel_rfl) rfl
def t146:TI:=⟨6,6,[.bool false,.bool false,.bool false,.bool false,.bool false,.bool false],(.arr 6 4)⟩
theorem zZj:TOk Tryz.prog 146 t146:=zW (by kernel_rfl) (by kernel_rfl) rfl
def t147:TI:=⟨8,24,[.int .i64 0,.int .i64 0,.bool false,.bool false,.bool false,.bool false,.bool false,.bool false],(.struct [(3,0),(3,1),(146,2)])⟩
theorem yAu:TOk Tryz.prog 147 t147:=zW (by kernel_rfl) (by kernel_rfl) rfl
def t148:TI:=⟨8,24,[.int .i64 0,.int .i64 0,.bool false,.bool false,.bool false,.bool false,.bool false,.bool false],(.struct [(3,0),(3,1),(146,2)])⟩
theorem yAa:TOk Tryz.prog 148 t148:=zW (by kernel_rfl) (by kernel_rfl) rfl
def t159:TI:=⟨5,80,[.str [],.str [],.str [],.str [],.str []],(.arr 5 9)⟩
theorem yAj:TOk Tryz.prog 159 t159:=zW (by kernel_rfl) (by kernel_rfl) rfl
def t168:TI:=⟨1,8,[.int .u64 0],(.int .u64)⟩
theorem zY4:TOk Tryz.prog 168 t168:=zW (by kernel_rfl) (by kernel_rfl) rfl
def t178:TI:=⟨1,8,[.nilp],(.ptr 215)⟩
theorem zY3:TOk Tryz.prog 178 t178:=zW (by kernel_rfl) (by kernel_rfl) rfl
def t194:TI:=⟨1,24,[.sl 1 []],(.slice 3)⟩
theorem zYc:TOk Tryz.prog 194 t194:=zW (by kernel_rfl) (by kernel_rfl) rfl
def t196:TI:=⟨3,48,[.str [],.str [],.str []],(.arr 3 9)⟩
theorem yAw:TOk Tryz.prog 196 t196:=zW (by kernel_rfl) (by kernel_rfl) rfl
def t201:TI:=⟨1,8,[.nilp],(.ptr 204)⟩
theorem zY9:TOk Tryz.prog 201 t201:=zW (by kernel_rfl) (by kernel_rfl) rfl
def t203:TI:=⟨3,40,[.bytes [],.int .i64 0,.int .i64 0],(.struct [(22,0),(3,1),(47,2)])⟩
theorem zZr:TOk Tryz.prog 203 t203:=zW (by kernel_rfl) (by kernel_rfl) rfl
def t204:TI:=⟨3,40,[.bytes [],.int .i64 0,.int .i64 0],(.struct [(22,0),(3,1),(47,2)])⟩
theorem zZs:TOk Tryz.prog 204 t204:=zW (by kernel_rfl) (by kernel_rfl) rfl
def t205:TI:=⟨1,8,[.nilp],(.ptr 148)⟩
theorem zYr:TOk Tryz.prog 205 t205:=zW (by kernel_rfl) (by kernel_rfl) rfl
def t214:TI:=⟨3,40,[.bytes [],.int .i64 0,.int .i64 0],(.struct [(22,0),(3,1),(47,2)])⟩
theorem zZt:TOk Tryz.prog 214 t214:=zW (by kernel_rfl) (by kernel_rfl) rfl
def t215:TI:=⟨3,40,[.bytes [],.int .i64 0,.int .i64 0],(.struct [(22,0),(3,1),(47,2)])⟩
theorem zX6:TOk Tryz.prog 215 t215:=zW (by kernel_rfl) (by kernel_rfl) rfl
def t222:TI:=⟨5,20,[.int .u32 0,.int .u32 0,.int .u32 0,.int .u32 0,.int .u32 0],(.arr 5 139)⟩
theorem zZ3:TOk Tryz.prog 222 t222:=zW (by kernel_rfl) (by kernel_rfl) rfl
def t224:TI:=⟨1,8,[.nilp],(.ptr 222)⟩
theorem zZp:TOk Tryz.prog 224 t224:=zW (by kernel_rfl) (by kernel_rfl) rfl
def t225:TI:=⟨8,32,[.int .u32 0,.int .u32 0,.int .u32 0,.int .u32 0,.int .u32 0,.int .u32 0,.int .u32 0,.int .u32 0],(.arr 8 139)⟩
theorem zZ1:TOk Tryz.prog 225 t225:=zW (by kernel_rfl) (by kernel_rfl) rfl
def t227:TI:=⟨1,8,[.nilp],(.ptr 225)⟩
theorem zZ2:TOk Tryz.prog 227 t227:=zW (by kernel_rfl) (by kernel_rfl) rfl
def t230:TI:=⟨5,40,[.int .i64 0,.int .i64 0,.int .i64 0,.int .i64 0,.int .i64 0],(.arr 5 3)⟩
theorem zZz:TOk Tryz.prog 230 t230:=zW (by kernel_rfl) (by kernel_rfl) rfl
def t235:TI:=⟨6,96,[.str [],.str [],.str [],.str [],.str [],.str []],(.arr 6 9)⟩
theorem zZn:TOk Tryz.prog 235 t235:=zW (by kernel_rfl) (by kernel_rfl) rfl
def t236:TI:=⟨7,112,[.str [],.str [],.str [],.str [],.str [],.str [],.str []],(.arr 7 9)⟩
theorem yAo:TOk Tryz.prog 236 t236:=zW (by kernel_rfl) (by kernel_rfl) rfl
def t238:TI:=⟨80,320,List.replicate 80 (.int .u32 0),(.arr 80 139)⟩
theorem zZg:TOk Tryz.prog 238 t238:=zW (by kernel_rfl) (by kernel_rfl) rfl
def t246:TI:=⟨1,16,[.err false],.iface⟩
theorem zYq:TOk Tryz.prog 246 t246:=zW (by kernel_rfl) (by kernel_rfl) rfl
def t247:TI:=⟨1,16,[.err false],.iface⟩
theorem zYl:TOk Tryz.prog 247 t247:=zW (by kernel_rfl) (by kernel_rfl) rfl
def t252:TI:=⟨24,24,List.replicate 24 (.int .u8 0),(.arr 24 5)⟩
theorem zZe:TOk Tryz.prog 252 t252:=zW (by kernel_rfl) (by kernel_rfl) rfl
def t258:TI:=⟨256,256,List.replicate 256 (.bool false),(.arr 256 4)⟩
theorem zYo:TOk Tryz.prog 258 t258:=zW (by kernel_rfl) (by kernel_rfl) rfl
def t259:TI:=⟨256,256,List.replicate 256 (.bool false),(.arr 256 4)⟩
theorem zXx:TOk Tryz.prog 259 t259:=zW (by kernel_rfl) (by kernel_rfl) rfl
def t263:TI:=⟨1,8,[.nilp],(.ptr 259)⟩
theorem yAp:TOk Tryz.prog 263 t263:=zW (by kernel_rfl) (by kernel_rfl) rfl
def t266:TI:=⟨1,24,[.sl 1 []],(.slice 4)⟩
theorem zX7:TOk Tryz.prog 266 t266:=zW (by kernel_rfl) (by kernel_rfl) rfl
def t273:TI:=⟨20,160,List.replicate 20 (.int .u64 0),(.arr 20 168)⟩
theorem zYg:TOk Tryz.prog 273 t273:=zW (by kernel_rfl) (by kernel_rfl) rfl
def t274:TI:=⟨65,65,List.replicate 65 (.int .u8 0),(.arr 65 5)⟩
theorem zZu:TOk Tryz.prog 274 t274:=zW (by kernel_rfl) (by kernel_rfl) rfl
def t280:TI:=⟨1,8,[.int .i64 0],(.int .i64)⟩
theorem zYs:TOk Tryz.prog 280 t280:=zW (by kernel_rfl) (by kernel_rfl) rfl
def t283:TI:=⟨1,8,[.nilp],(.ptr 292)⟩
theorem zXj:TOk Tryz.prog 283 t283:=zW (by kernel_rfl) (by kernel_rfl) rfl
def t291:TI:=⟨3,48,[.str [],.str [],.err false],(.struct [(9,0),(9,1),(247,2)])⟩
theorem zZv:TOk Tryz.prog 291 t291:=zW (by kernel_rfl) (by kernel_rfl) rfl
def t292:TI:=⟨3,48,[.str [],.str [],.err false],(.struct [(9,0),(9,1),(247,2)])⟩
theorem yAs:TOk Tryz.prog 292 t292:=zW (by kernel_rfl) (by kernel_rfl) rfl
def t294:TI:=⟨32,32,List.replicate 32 (.int .u8 0),(.arr 32 5)⟩
theorem yAv:TOk Tryz.prog 294 t294:=zW (by kernel_rfl) (by kernel_rfl) rfl
def t295:TI:=⟨64,64,List.replicate 64 (.int .u8 0),(.arr 64 5)⟩
theorem zZk:TOk Tryz.prog 295 t295:=zW (by kernel_rfl) (by kernel_rfl) rfl
def t296:TI:=⟨256,256,List.replicate 256 (.int .u8 0),(.arr 256 5)⟩
theorem yAd:TOk Tryz.prog 296 t296:=zW (by kernel_rfl) (by kernel_rfl) rfl
def t297:TI:=⟨2,2,[.int .u8 0,.int .u8 0],(.struct [(5,0),(5,1)])⟩
theorem zZb:TOk Tryz.prog 297 t297:=zW (by kernel_rfl) (by kernel_rfl) rfl
def t298:TI:=⟨2,2,[.int .u8 0,.int .u8 0],(.struct [(5,0),(5,1)])⟩
theorem zXq:TOk Tryz.prog 298 t298:=zW (by kernel_rfl) (by kernel_rfl) rfl
def t299:TI:=⟨32,32,List.replicate 32 (.int .u8 0),(.arr 16 298)⟩
theorem zX0:TOk Tryz.prog 299 t299:=zW (by kernel_rfl) (by kernel_rfl) rfl
def t303:TI:=⟨1,8,[.nilp],(.ptr 5)⟩
theorem yAl:TOk Tryz.prog 303 t303:=zW (by kernel_rfl) (by kernel_rfl) rfl
def t304:TI:=⟨1,8,[.nilp],(.ptr 306)⟩
theorem yAb:TOk Tryz.prog 304 t304:=zW (by kernel_rfl) (by kernel_rfl) rfl
def t305:TI:=⟨1,16,[.str []],(.struct [(9,0)])⟩
theorem zYp:TOk Tryz.prog 305 t305:=zW (by kernel_rfl) (by kernel_rfl) rfl
def t306:TI:=⟨1,16,[.str []],(.struct [(9,0)])⟩
theorem zX8:TOk Tryz.prog 306 t306:=zW (by kernel_rfl) (by kernel_rfl) rfl
def t308:TI:=⟨4,40,[.nilp,.nilp,.nilp,.str []],(.struct [(17,0),(17,1),(17,2),(9,3)])⟩
theorem zZ8:TOk Tryz.prog 308 t308:=zW (by kernel_rfl) (by kernel_rfl) rfl
def t309:TI:=⟨4,40,[.nilp,.nilp,.nilp,.str []],(.struct [(17,0),(17,1),(17,2),(9,3)])⟩
theorem zX9:TOk Tryz.prog 309 t309:=zW (by kernel_rfl) (by kernel_rfl) rfl
def t310:TI:=⟨0,0,[],(.arr 0 16)⟩
theorem yAf:TOk Tryz.prog 310 t310:=zW (by kernel_rfl) (by kernel_rfl) rfl
def t311:TI:=⟨0,0,[],(.struct [(310,0)])⟩
theorem zY6:TOk Tryz.prog 311 t311:=zW (by kernel_rfl) (by kernel_rfl) rfl
def t312:TI:=⟨0,0,[],(.struct [(310,0)])⟩
theorem zZ9:TOk Tryz.prog 312 t312:=zW (by kernel_rfl) (by kernel_rfl) rfl
def t313:TI:=⟨1,1,[.int .u8 0],(.int .u8)⟩
theorem zZa:TOk Tryz.prog 313 t313:=zW (by kernel_rfl) (by kernel_rfl) rfl
def t314:TI:=⟨1,1,[.int .u8 0],(.int .u8)⟩
theorem yAx:TOk Tryz.prog 314 t314:=zW (by kernel_rfl) (by kernel_rfl) rfl
def t316:TI:=⟨1,4,[.int .i32 0],(.int .i32)⟩
theorem zX1:TOk Tryz.prog 316 t316:=zW (by kernel_rfl) (by kernel_rfl) rfl
def t317:TI:=⟨1,4,[.int .i32 0],(.int .i32)⟩
theorem zZo:TOk Tryz.prog 317 t317:=zW (by kernel_rfl) (by kernel_rfl) rfl
def tr:Tr:=(.node 127 t127 (.node 36 t36 (.node 17 t17 (.node 9 t9 (.node 5 t5 (.node 3 t3 (.node 2 t2 .leaf .leaf) (.node 4 t4 .leaf .leaf)) (.node 7 t7 (.node 6 t6 .leaf .leaf) (.node 8 t8 .leaf .leaf))) (.node 13 t13 (.node 11 t11 (.node 10 t10 .leaf .leaf) (.node 12 t12 .leaf .leaf)) (.node 15 t15 (.node 14 t14 .leaf .leaf) (.node 16 t16 .leaf .leaf)))) (.node 27 t27 (.node 21 t21 (.node 19 t19 (.node 18 t18 .leaf .leaf) (.node 20 t20 .leaf .leaf)) (.node 23 t23 (.node 22 t22 .leaf .leaf) (.node 24 t24 .leaf .leaf))) (.node 33 t33 (.node 29 t29 (.node 28 t28 .leaf .leaf) (.node 30 t30 .leaf .leaf)) (.node 35 t35 (.node 34 t34 .leaf .leaf) .leaf)))) (.node 63 t63 (.node 46 t46 (.node 42 t42 (.node 38 t38 (.node 37 t37 .leaf .leaf) (.node 39 t39 .leaf .leaf)) (.node 44 t44 (.node 43 t43 .leaf .leaf) (.node 45 t45 .leaf .leaf))) (.node 56 t56 (.node 53 t53 (.node 47 t47 .leaf .leaf) (.node 55 t55 .leaf .leaf)) (.node 60 t60 (.node 57 t57 .leaf .leaf) (.node 62 t62 .leaf .leaf)))) (.node 101 t101 (.node 68 t68 (.node 65 t65 (.node 64 t64 .leaf .leaf) (.node 67 t67 .leaf .leaf)) (.node 87 t87 (.node 86 t86 .leaf .leaf) (.node 89 t89 .leaf .leaf))) (.node 107 t107 (.node 105 t105 (.node 102 t102 .leaf .leaf) (.node 106 t106 .leaf .leaf)) (.node 126 t126 (.node 125 t125 .leaf .leaf) .leaf))))) (.node 247 t247 (.node 201 t201 (.node 146 t146 (.node 136 t136 (.node 132 t132 (.node 131 t131 .leaf .leaf) (.node 135 t135 .leaf .leaf)) (.node 140 t140 (.node 139 t139 .leaf .leaf) (.node 142 t142 .leaf .leaf))) (.node 168 t168 (.node 148 t148 (.node 147 t147 .leaf .leaf) (.node 159 t159 .leaf .leaf)) (.node 194 t194 (.node 178 t178 .leaf .leaf) (.node 196 t196 .leaf .leaf)))) (.node 225 t225 (.node 214 t214 (.node 204 t204 (.node 203 t203 .leaf .leaf) (.node 205 t205 .leaf .leaf)) (.node 222 t222 (.node 215 t215 .leaf .leaf) (.node 224 t224 .leaf .leaf))) (.node 236 t236 (.node 230 t230 (.node 227 t227 .leaf .leaf) (.node 235 t235 .leaf .leaf)) (.node 246 t246 (.node 238 t238 .leaf .leaf) .leaf)))) (.node 298 t298 (.node 280 t280 (.node 263 t263 (.node 258 t258 (.node 252 t252 .leaf .leaf) (.node 259 t259 .leaf .leaf)) (.node 273 t273 (.node 266 t266 .leaf .leaf) (.node 274 t274 .leaf .leaf))) (.node 294 t294 (.node 291 t291 (.node 283 t283 .leaf .leaf) (.node 292 t292 .leaf .leaf)) (.node 296 t296 (.node 295 t295 .leaf .leaf) (.node 297 t297 .leaf .leaf)))) (.node 310 t310 (.node 305 t305 (.node 303 t303 (.node 299 t299 .leaf .leaf) (.node 304 t304 .leaf .leaf)) (.node 308 t308 (.node 306 t306 .leaf .leaf) (.node 309 t309 .leaf .leaf))) (.node 314 t314 (.node 312 t312 (.node 311 t311 .leaf .leaf) (.node 313 t313 .leaf .leaf)) (.node 317 t317 (.node 316 t316 .leaf .leaf) .leaf))))))
def te:TE:=tr.get
theorem wM:yP Tryz.prog te:=Tr.ok tr ⟨zYt,⟨yBm,⟨yBh,⟨t9ok,⟨t5ok,⟨t3ok,⟨t2ok,trivial,trivial⟩,⟨t4ok,trivial,trivial⟩⟩,⟨t7ok,⟨t6ok,trivial,trivial⟩,⟨t8ok,trivial,trivial⟩⟩⟩,⟨yC7,⟨yA1,⟨yDz,trivial,trivial⟩,⟨yE2,trivial,trivial⟩⟩,⟨yEp,⟨yCq,trivial,trivial⟩,⟨yBs,trivial,trivial⟩⟩⟩⟩,⟨yD9,⟨yD1,⟨yEe,⟨yEy,trivial,trivial⟩,⟨yE1,trivial,trivial⟩⟩,⟨yEn,⟨yCw,trivial,trivial⟩,⟨yCm,trivial,trivial⟩⟩⟩,⟨yC8,⟨yB4,⟨yEd,trivial,trivial⟩,⟨yBw,trivial,trivial⟩⟩,⟨yDh,⟨yEc,trivial,trivial⟩,trivial⟩⟩⟩⟩,⟨yEt,⟨yCg,⟨yDp,⟨yCo,⟨yCy,trivial,trivial⟩,⟨yBd,trivial,trivial⟩⟩,⟨yD3,⟨yCl,trivial,trivial⟩,⟨yCn,trivial,trivial⟩⟩⟩,⟨yC9,⟨yEq,⟨yBi,trivial,trivial⟩,⟨yDf,trivial,trivial⟩⟩,⟨yE7,⟨yB0,trivial,trivial⟩,⟨yDu,trivial,trivial⟩⟩⟩⟩,⟨zXk,⟨yEi,⟨yFe,⟨yEg,trivial,trivial⟩,⟨yBu,trivial,trivial⟩⟩,⟨yD6,⟨yDx,trivial,trivial⟩,⟨yCk,trivial,trivial⟩⟩⟩,⟨zZc,⟨zXs,⟨zZi,trivial,trivial⟩,⟨zZf,trivial,trivial⟩⟩,⟨zZm,⟨zXt,trivial,trivial⟩,trivial⟩⟩⟩⟩⟩,⟨zYl,⟨zY9,⟨zZj,⟨zYf,⟨zYk,⟨zYd,trivial,trivial⟩,⟨zXw,trivial,trivial⟩⟩,⟨zY2,⟨yAq,trivial,trivial⟩,⟨zYx,trivial,trivial⟩⟩⟩,⟨zY4,⟨yAa,⟨yAu,trivial,trivial⟩,⟨yAj,trivial,trivial⟩⟩,⟨zYc,⟨zY3,trivial,trivial⟩,⟨yAw,trivial,trivial⟩⟩⟩⟩,⟨zZ1,⟨zZt,⟨zZs,⟨zZr,trivial,trivial⟩,⟨zYr,trivial,trivial⟩⟩,⟨zZ3,⟨zX6,trivial,trivial⟩,⟨zZp,trivial,trivial⟩⟩⟩,⟨yAo,⟨zZz,⟨zZ2,trivial,trivial⟩,⟨zZn,trivial,trivial⟩⟩,⟨zYq,⟨zZg,trivial,trivial⟩,trivial⟩⟩⟩⟩,⟨zXq,⟨zYs,⟨yAp,⟨zYo,⟨zZe,trivial,trivial⟩,⟨zXx,trivial,trivial⟩⟩,⟨zYg,⟨zX7,trivial,trivial⟩,⟨zZu,trivial,trivial⟩⟩⟩,⟨yAv,⟨zZv,⟨zXj,trivial,trivial⟩,⟨yAs,trivial,trivial⟩⟩,⟨yAd,⟨zZk,trivial,trivial⟩,⟨zZb,trivial,trivial⟩⟩⟩⟩,⟨yAf,⟨zYp,⟨yAl,⟨zX0,trivial,trivial⟩,⟨yAb,trivial,trivial⟩⟩,⟨zZ8,⟨zX8,trivial,trivial⟩,⟨zX9,trivial,trivial⟩⟩⟩,⟨yAx,⟨zZ9,⟨zY6,trivial,trivial⟩,⟨zZa,trivial,trivial⟩⟩,⟨zZo,⟨zX1,trivial,trivial⟩,trivial⟩⟩⟩⟩⟩⟩
end Go.Proofs.Tryz.S
namespace Go.Proofs.H
open Go Go.Proofs
def nameByte (c:UInt8):Bool:=(decide (97<=c.toNat)&&decide (c.toNat<=122))||(decide (48<=c.toNat)&&decide (c.toNat<=57))||decide (c.toNat=45)
def nameAll (s:ByteArray) (pos:Nat):Bool:=(s.data.toList.drop pos).all nameByte
theorem width_pos (s:ByteArray) (pos:Nat) (h:pos<s.size):1<=(Utf8.decode s pos).2:=by
 by_cases ha:(s[pos]'h).toNat<128
 ·rw [decode_ascii s pos h ha]
  exact Nat.le_refl _
 ·exact (decode_high s pos h (by omega)).2
theorem nb_len {n:Nat} {x:Bool} (h:¬ (1<=n/\n<=12)):(decide (1<=n)&&decide (n<=12)&&x)=false:=by
 by_cases h1:1<=n
 ·have:¬ n<=12:=λh2=>h ⟨h1,h2⟩
  simp [this]
 ·simp [h1]
theorem nb_in {n:Nat} {x:Bool} (h:1<=n/\n<=12):(decide (1<=n)&&decide (n<=12)&&x)=x:=by simp [h.1,h.2]
theorem nameAll_step {s:ByteArray} {pos:Nat} (hp:pos<s.size):nameAll s pos=(nameByte (s[pos]'hp)&&nameAll s (pos+1)):=by
 unfold nameAll
 rw [List.drop_eq_getElem_cons (by simpa using hp)]
 simp only [List.all_cons]
 rfl
theorem name_facts (s:ByteArray) (pos:Nat) (hp:pos<s.size) {rn:Nat×Nat} (hd:Utf8.decode s pos=rn) :
  (rn.1<128->rn.2=1/\nameAll s pos=((decide (97<=rn.1)&&decide (rn.1<=122)||decide (48<=rn.1)&&decide (rn.1<=57)||decide (rn.1=45))&&nameAll s (pos+1)))/\(128<=rn.1->nameAll s pos=false):=by
 rw [nameAll_step hp]
 by_cases ha:(s[pos]'hp).toNat<128
 ·rw [decode_ascii s pos hp ha] at hd
  subst hd
  exact ⟨λ_=>⟨rfl,rfl⟩,λh=>by simp only at h;omega⟩
 ·have h2:=decode_high s pos hp (by omega)
  rw [hd] at h2
  refine ⟨λh=>by omega,λ_=>?_⟩
  have:nameByte (s[pos]'hp)=false:=by
   unfold nameByte
   simp only [Bool.or_eq_false_iff,Bool.and_eq_false_iff,decide_eq_false_iff_not]
   omega
  simp [this]
theorem name_no (s:ByteArray) (pos:Nat) (hp:pos<s.size) {rn:Nat×Nat} (hd:Utf8.decode s pos=rn) (h1:rn.1<97∨122<rn.1) (h2:rn.1<48∨57<rn.1) (h3:rn.1≠45):nameAll s pos=false:=by
 obtain ⟨f1,f2⟩:=name_facts s pos hp hd
 by_cases h:rn.1<128
 ·rw [(f1 h).2]
  have:(decide (97<=rn.1)&&decide (rn.1<=122)||decide (48<=rn.1)&&decide (rn.1<=57)||decide (rn.1=45))=false:=by
   simp only [Bool.or_eq_false_iff,Bool.and_eq_false_iff,decide_eq_false_iff_not]
   omega
  simp [this]
 ·exact f2 (by omega)
theorem name_yes (s:ByteArray) (pos:Nat) (hp:pos<s.size) {rn:Nat×Nat} (hd:Utf8.decode s pos=rn) (h1:(97<=rn.1/\rn.1<=122)∨(48<=rn.1/\rn.1<=57)∨rn.1=45):rn.2=1/\nameAll s pos=nameAll s (pos+1):=by
 obtain ⟨f1,_⟩:=name_facts s pos hp hd
 obtain ⟨f2,f3⟩:=f1 (by omega)
 refine ⟨f2,?_⟩
 rw [f3]
 have:(decide (97<=rn.1)&&decide (rn.1<=122)||decide (48<=rn.1)&&decide (rn.1<=57)||decide (rn.1=45))=true:=by
  simp only [Bool.or_eq_true,Bool.and_eq_true,decide_eq_true_eq]
  omega
 simp [this]
set_option maxRecDepth 1000000 in
set_option maxHeartbeats 4000000 in
theorem walk_named (s:ByteArray) (w:World) :
  Calls Tryz.prog 242 #[.string s] w λe w'=>e=.returned (.bool (decide (1<=s.size)&&decide (s.size<=12)&&nameAll s 0))/\(w'=w∨∃ pos,w'=w.iter s pos):=by
 go_enter Tryz.func242,Tryz.ntmps242
 go_wp2
 ·rename_i h1 h2
  go_ret
  refine ⟨?_,.inl rfl⟩
  rw [nb_len (by omega)]
  rfl
 ·rename_i h1 h2
  go_loopw [] (λw'=>∃ (pos:Nat),w'=w.iter s pos/\pos<=s.size/\nameAll s pos=nameAll s 0) (λw'=>s.size - w'.iterPos w.heap.size)
  case atStart=>exact ⟨0,rfl,by omega,rfl⟩
  case round=>
   obtain ⟨pos,rfl,hb,hc⟩:=hrel
   by_cases hp:pos<s.size
   ·have hnx:∀ ty,(Instr.next (.pointer (some ⟨w.heap.size,0,none⟩)) true ty).run Tryz.prog (w.iter s pos)=_:=λty=>run_next_any w s pos ty hp
    generalize hd:Utf8.decode s pos=rn at hnx
    go_wp2
    ·go_ret
     refine ⟨?_,.inr ⟨_,rfl⟩⟩
     rw [nb_in (by omega),<- hc]
     try simp only [bne_iff_ne,ne_eq] at *
     rw [name_no s pos hp hd (by omega) (by omega) (by omega)]
     rfl
    ·have hy:(97<=rn.1/\rn.1<=122)∨(48<=rn.1/\rn.1<=57)∨rn.1=45:=by
      try simp only [bne_eq_false_iff_eq] at *
      omega
     obtain ⟨y1,y2⟩:=name_yes s pos hp hd hy
     refine ⟨⟨pos+rn.snd,rfl,by omega,?_⟩,?_⟩
     ·rw [y1,<- y2];exact hc
     ·simp
      omega
    ·have hy:(97<=rn.1/\rn.1<=122)∨(48<=rn.1/\rn.1<=57)∨rn.1=45:=by
      try simp only [bne_eq_false_iff_eq] at *
      omega
     obtain ⟨y1,y2⟩:=name_yes s pos hp hd hy
     refine ⟨⟨pos+rn.snd,rfl,by omega,?_⟩,?_⟩
     ·rw [y1,<- y2];exact hc
     ·simp
      omega
    ·go_ret
     refine ⟨?_,.inr ⟨_,rfl⟩⟩
     rw [nb_in (by omega),<- hc]
     try simp only [bne_iff_ne,ne_eq] at *
     rw [name_no s pos hp hd (by omega) (by omega) (by omega)]
     rfl
    ·have hy:(97<=rn.1/\rn.1<=122)∨(48<=rn.1/\rn.1<=57)∨rn.1=45:=by
      try simp only [bne_eq_false_iff_eq] at *
      omega
     obtain ⟨y1,y2⟩:=name_yes s pos hp hd hy
     refine ⟨⟨pos+rn.snd,rfl,by omega,?_⟩,?_⟩
     ·rw [y1,<- y2];exact hc
     ·simp
      omega
    ·have hy:(97<=rn.1/\rn.1<=122)∨(48<=rn.1/\rn.1<=57)∨rn.1=45:=by
      try simp only [bne_eq_false_iff_eq] at *
      omega
     obtain ⟨y1,y2⟩:=name_yes s pos hp hd hy
     refine ⟨⟨pos+rn.snd,rfl,by omega,?_⟩,?_⟩
     ·rw [y1,<- y2];exact hc
     ·simp
      omega
    ·go_ret
     refine ⟨?_,.inr ⟨_,rfl⟩⟩
     rw [nb_in (by omega),<- hc]
     try simp only [bne_iff_ne,ne_eq] at *
     rw [name_no s pos hp hd (by omega) (by omega) (by omega)]
     rfl
    ·have hy:(97<=rn.1/\rn.1<=122)∨(48<=rn.1/\rn.1<=57)∨rn.1=45:=by
      try simp only [bne_eq_false_iff_eq] at *
      omega
     obtain ⟨y1,y2⟩:=name_yes s pos hp hd hy
     refine ⟨⟨pos+rn.snd,rfl,by omega,?_⟩,?_⟩
     ·rw [y1,<- y2];exact hc
     ·simp
      omega
   ·have hnx:∀ ty,(Instr.next (.pointer (some ⟨w.heap.size,0,none⟩)) true ty).run Tryz.prog (w.iter s pos)=_:=λty=>run_next_end w s pos ty hp
    go_wp2
    go_ret
    refine ⟨?_,.inr ⟨_,rfl⟩⟩
    rw [nb_in (by omega),<- hc]
    have:nameAll s pos=true:=by
     unfold nameAll
     rw [List.drop_eq_nil_of_le (by simp;omega)]
     rfl
    rw [this]
    rfl
 ·rename_i h1
  go_ret
  refine ⟨?_,.inl rfl⟩
  rw [nb_len (by omega)]
  rfl
open Go Go.Proofs Go.RowKit
theorem u22:Tryz.prog.underlying 22=some (.slice 5):=by kernel_rfl
theorem i5:(Tryz.prog.info? 5).map (·.size)=some 1:=by kernel_rfl
theorem run_mnz (w:World) (n:Nat) (hn:n<=64):∃ cs:Array Value,(callFunc 241 #[.int .i64 n]).run Tryz.prog w=.ok (.value (.slice (some ⟨w.heap.size,0,none⟩) n cs.size)) (w.drew.drew.alloc (.cells cs 5))/\n<=cs.size:=by
 obtain ⟨cs,h1,h2,h3,h4⟩:=Lib.run_makeNoZero_cap (P:=Tryz.prog) w #[3] 22 5 u22 n (by omega)
 refine ⟨cs,?_,h2⟩
 have:=run_callFunc_extern (P:=Tryz.prog) Tryz.func241 (by kernel_rfl) (by kernel_rfl) (by kernel_rfl) (e:=Extern.BytealgMakeNoZero.makeNoZero #[3] #[22]) (by kernel_rfl) #[.int .i64 n] w
 rw [h1] at this
 exact this
def dr (d:Nat) (w:World):World:={ w with drawn:=d }
set_option maxRecDepth 1000000 in
set_option maxHeartbeats 4000000 in
theorem walk_rep32 (b o c:Nat) (x:UInt8) (w:World) (hc:w.cell? ⟨b,o,none⟩=some (.int .u8 x.toNat)) :
  Calls Tryz.prog 225 #[.slice (some ⟨b,o,none⟩) 1 c,.int .i64 32] w λe w'=>e=.returned (.slice (some ⟨w.heap.size,0,none⟩) 32 32)/\∃ cs d cur,w'=(dr d (w.alloc (.cells cs 5))).setRow w.heap.size cur/\∀ j,j<32->cur[j]? = some (.int .u8 x.toNat):=by
 obtain ⟨cs,hm,hcs⟩:=run_mnz w 32 (by omega)
 have hm':(callFunc 241 #[.int .i64 32]).run Tryz.prog w=.ok (.value (.slice (some ⟨w.heap.size,0,none⟩) 32 cs.size)) (w.drew.drew.alloc (.cells cs 5)):=hm
 have hblt:b<w.heap.size:=World.block_lt_of_cell? w _ hc
 have hg2:(w.alloc (.cells cs 5)).drew.drew.heap[w.heap.size]? = some (.cells cs 5 (0,0)):=heap_alloc_new w _
 have hc2:(w.alloc (.cells cs 5)).drew.drew.cell? ⟨b,o,none⟩=some (.int .u8 x.toNat):=by
  have:=World.cell?_alloc_lt w (.cells cs 5) ⟨b,o,none⟩ hblt
  rw [<- hc,<- this]
  rfl
 have hcp:∀ ty,(Builtin.copy_ #[22,22] ty #[.slice (some ⟨w.heap.size,0,none⟩) 32 32,.slice (some ⟨b,o,none⟩) 1 c]).run Tryz.prog (w.alloc (.cells cs 5)).drew.drew=_:=λty=>
  run_copy_row (P:=Tryz.prog) (w.alloc (.cells cs 5)).drew.drew 22 22 ty 5 w.heap.size 0 32 32 ⟨b,o,none⟩ 1 c cs 5 [.int .u8 x.toNat] u22 i5 hg2 rfl (by intro j v hj;rcases j with _ | j;(simp at hj;subst hj;simpa [Addr.add] using hc2);simp at hj) (by simp;omega) (by simp [Value.oneCell'])
 go_enter Tryz.func225,Tryz.ntmps225
 go_wp2
 have hg3:∀ d,(dr d (w.alloc (.cells cs 5))).heap[w.heap.size]? = some (.cells cs 5 (0,0)):=λ_=>hg2
 go_loopw [10] (λv wr=>∃ (bp d:Nat) (cur:Array Value),v=.int .i64 bp/\1<=bp/\bp<=32/\wr=(dr d (w.alloc (.cells cs 5))).setRow w.heap.size cur/\cur.size=cs.size/\∀ j,j<bp->cur[j]? = some (.int .u8 x.toNat)) (λv _=>32 - (intOf v).toNat)
 case atStart=>
  refine ⟨1,w.drawn+2,_,rfl,by omega,by omega,rfl,by simp;omega,λj hj=>(match j,hj with | 0,_=>rfl)⟩
 case round=>
  obtain ⟨bp,d,cur,rfl,hb1,hb2,rfl,hsz,hcur⟩:=hrel
  by_cases hlt:bp<32
  ·obtain ⟨m,hm0,hm1,hm2,hm3⟩:∃ m,m=Nat.min bp (32 - bp)/\m<=bp/\m<=32 - bp/\1<=m:=⟨_,rfl,Nat.min_le_left _ _,Nat.min_le_right _ _,by show 1<=min bp (32 - bp);omega⟩
   have hcp2:∀ ty,(Builtin.copy_ #[22,22] ty #[.slice (some ⟨w.heap.size,bp,none⟩) (32 - bp) (32 - bp),.slice (some ⟨w.heap.size,0,none⟩) bp 32]).run Tryz.prog ((dr d (w.alloc (.cells cs 5))).setRow w.heap.size cur).drew=_:=λty=>
    run_copy_row (P:=Tryz.prog) ((dr d (w.alloc (.cells cs 5))).setRow w.heap.size cur).drew 22 22 ty 5 w.heap.size bp (32 - bp) (32 - bp) ⟨w.heap.size,0,none⟩ bp 32 cur 5 (List.replicate m (.int .u8 x.toNat)) u22 i5 (setRow_heap _ _ _ _ _ _ (hg3 d)) (by simp [hm0]) (by
     intro j v hj
     rw [List.getElem?_replicate] at hj
     split at hj
     ·cases hj
      have:(⟨w.heap.size,0,none⟩:Addr).add j=⟨w.heap.size,j,none⟩:=by rw [Sw.add_off,Nat.zero_add]
      rw [this]
      exact (cell_setRow_same (dr d (w.alloc (.cells cs 5))) _ _ _ _ _ _ (hg3 d)).trans (hcur j (by omega))
     ·cases hj) (by simp;omega) (by intro v hv;rw [List.eq_of_mem_replicate hv];rfl)
   go_wp2
   go_region
   go_wp2
   rw [<- hm0]
   refine ⟨⟨bp+m,d+1,(cur.toList.take bp++(List.replicate m (Value.int .u8 x.toNat)++cur.toList.drop (bp+m))).toArray,by simp,by omega,by omega,?_,?_,?_⟩,?_⟩
   ·show (((dr (d+1) (w.alloc (.cells cs 5))).setRow w.heap.size cur).setRow w.heap.size _)=_
    rw [setRow_setRow]
   ·simp
    omega
   ·intro j hj
    simp only [List.getElem?_toArray]
    by_cases h1:j<bp
    ·rw [List.getElem?_append_left (by simp;omega),List.getElem?_take,if_pos h1]
     simpa using hcur j h1
    ·rw [List.getElem?_append_right (by simp;omega),List.getElem?_append_left (by simp;omega),List.getElem?_replicate,if_pos (by simp;omega)]
   ·simp [intOf]
    omega
  ·have:bp=32:=by omega
   subst this
   go_wp2
   go_ret
   exact ⟨rfl,cs,d,cur,rfl,hcur⟩
set_option maxRecDepth 1000000 in
set_option maxHeartbeats 4000000 in
theorem walk_rep20 (b o c:Nat) (x:UInt8) (w:World) (hc:w.cell? ⟨b,o,none⟩=some (.int .u8 x.toNat)) :
  Calls Tryz.prog 225 #[.slice (some ⟨b,o,none⟩) 1 c,.int .i64 20] w λe w'=>e=.returned (.slice (some ⟨w.heap.size,0,none⟩) 20 20)/\∃ cs d cur,w'=(dr d (w.alloc (.cells cs 5))).setRow w.heap.size cur/\∀ j,j<20->cur[j]? = some (.int .u8 x.toNat):=by
 obtain ⟨cs,hm,hcs⟩:=run_mnz w 20 (by omega)
 have hm':(callFunc 241 #[.int .i64 20]).run Tryz.prog w=.ok (.value (.slice (some ⟨w.heap.size,0,none⟩) 20 cs.size)) (w.drew.drew.alloc (.cells cs 5)):=hm
 have hblt:b<w.heap.size:=World.block_lt_of_cell? w _ hc
 have hg2:(w.alloc (.cells cs 5)).drew.drew.heap[w.heap.size]? = some (.cells cs 5 (0,0)):=heap_alloc_new w _
 have hc2:(w.alloc (.cells cs 5)).drew.drew.cell? ⟨b,o,none⟩=some (.int .u8 x.toNat):=by
  have:=World.cell?_alloc_lt w (.cells cs 5) ⟨b,o,none⟩ hblt
  rw [<- hc,<- this]
  rfl
 have hcp:∀ ty,(Builtin.copy_ #[22,22] ty #[.slice (some ⟨w.heap.size,0,none⟩) 20 20,.slice (some ⟨b,o,none⟩) 1 c]).run Tryz.prog (w.alloc (.cells cs 5)).drew.drew=_:=λty=>
  run_copy_row (P:=Tryz.prog) (w.alloc (.cells cs 5)).drew.drew 22 22 ty 5 w.heap.size 0 20 20 ⟨b,o,none⟩ 1 c cs 5 [.int .u8 x.toNat] u22 i5 hg2 rfl (by intro j v hj;rcases j with _ | j;(simp at hj;subst hj;simpa [Addr.add] using hc2);simp at hj) (by simp;omega) (by simp [Value.oneCell'])
 go_enter Tryz.func225,Tryz.ntmps225
 go_wp2
 have hg3:∀ d,(dr d (w.alloc (.cells cs 5))).heap[w.heap.size]? = some (.cells cs 5 (0,0)):=λ_=>hg2
 go_loopw [10] (λv wr=>∃ (bp d:Nat) (cur:Array Value),v=.int .i64 bp/\1<=bp/\bp<=20/\wr=(dr d (w.alloc (.cells cs 5))).setRow w.heap.size cur/\cur.size=cs.size/\∀ j,j<bp->cur[j]? = some (.int .u8 x.toNat)) (λv _=>20 - (intOf v).toNat)
 case atStart=>
  refine ⟨1,w.drawn+2,_,rfl,by omega,by omega,rfl,by simp;omega,λj hj=>(match j,hj with | 0,_=>rfl)⟩
 case round=>
  obtain ⟨bp,d,cur,rfl,hb1,hb2,rfl,hsz,hcur⟩:=hrel
  by_cases hlt:bp<20
  ·obtain ⟨m,hm0,hm1,hm2,hm3⟩:∃ m,m=Nat.min bp (20 - bp)/\m<=bp/\m<=20 - bp/\1<=m:=⟨_,rfl,Nat.min_le_left _ _,Nat.min_le_right _ _,by show 1<=min bp (20 - bp);omega⟩
   have hcp2:∀ ty,(Builtin.copy_ #[22,22] ty #[.slice (some ⟨w.heap.size,bp,none⟩) (20 - bp) (20 - bp),.slice (some ⟨w.heap.size,0,none⟩) bp 20]).run Tryz.prog ((dr d (w.alloc (.cells cs 5))).setRow w.heap.size cur).drew=_:=λty=>
    run_copy_row (P:=Tryz.prog) ((dr d (w.alloc (.cells cs 5))).setRow w.heap.size cur).drew 22 22 ty 5 w.heap.size bp (20 - bp) (20 - bp) ⟨w.heap.size,0,none⟩ bp 20 cur 5 (List.replicate m (.int .u8 x.toNat)) u22 i5 (setRow_heap _ _ _ _ _ _ (hg3 d)) (by simp [hm0]) (by
     intro j v hj
     rw [List.getElem?_replicate] at hj
     split at hj
     ·cases hj
      have:(⟨w.heap.size,0,none⟩:Addr).add j=⟨w.heap.size,j,none⟩:=by rw [Sw.add_off,Nat.zero_add]
      rw [this]
      exact (cell_setRow_same (dr d (w.alloc (.cells cs 5))) _ _ _ _ _ _ (hg3 d)).trans (hcur j (by omega))
     ·cases hj) (by simp;omega) (by intro v hv;rw [List.eq_of_mem_replicate hv];rfl)
   go_wp2
   go_region
   go_wp2
   rw [<- hm0]
   refine ⟨⟨bp+m,d+1,(cur.toList.take bp++(List.replicate m (Value.int .u8 x.toNat)++cur.toList.drop (bp+m))).toArray,by simp,by omega,by omega,?_,?_,?_⟩,?_⟩
   ·show (((dr (d+1) (w.alloc (.cells cs 5))).setRow w.heap.size cur).setRow w.heap.size _)=_
    rw [setRow_setRow]
   ·simp
    omega
   ·intro j hj
    simp only [List.getElem?_toArray]
    by_cases h1:j<bp
    ·rw [List.getElem?_append_left (by simp;omega),List.getElem?_take,if_pos h1]
     simpa using hcur j h1
    ·rw [List.getElem?_append_right (by simp;omega),List.getElem?_append_left (by simp;omega),List.getElem?_replicate,if_pos (by simp;omega)]
   ·simp [intOf]
    omega
  ·have:bp=20:=by omega
   subst this
   go_wp2
   go_ret
   exact ⟨rfl,cs,d,cur,rfl,hcur⟩
end Go.Proofs.H
namespace Go.Sw
open Go
theorem ok_handG {P:Program} {f:FuncId} {ps:List PV} {r:AV} (hc:Callable P f)
  (h:∀ (w:World) (M:Mem) (args:Array Value),GlobOk w M->(∀ b o x,M b o=some x->w.cell? ⟨b,o,none⟩=some x)->args.size=ps.length->(∀ (j:Nat) (p:PV),ps[j]? = some p->Rep M p (args.getD j undef)) ->
   Calls P f args w λe w'=>∃ v M',e=.returned v/\w'.os=w.os/\w'.tape=w.tape/\w'.output=w.output/\w.heap.size<=w'.heap.size/\(∀ b,b<w.heap.size->w'.heap[b]? = w.heap[b]?)/\M.le M'/\(∀ b o x,M' b o=some x->w'.cell? ⟨b,o,none⟩=some x)/\(∀ b o,b<w.heap.size->M' b o=M b o)/\RepA M' (λ_=>none) (λ_=>undef) (lk []) r v) :
  Ok P f ps.length (mkS (argE 0 ps) []) (mkS [(0,r)] []):=by
 refine ⟨hc,λw M pk args κ tip hi hp=>?_⟩
 have hpk:pk=[]:=by
  cases pk with
  | nil=>rfl
  | cons e l=>
   have:=(hp e (by simp)).1
   rw [hi.dom e.1 rfl] at this
   cases this
 subst hpk
 refine (h w M args hi.glob hi.mem hi.size ?_).mono ?_
 ·intro j p hj
  have hlt:j<ps.length:=(List.getElem?_eq_some_iff.1 hj).1
  have hget:∀ (l:List PV) (i j:Nat) (p:PV),l[j]? = some p->lk (argE i l) (i+j)=some (.p p):=by
   intro l
   induction l with
   | nil=>intro i j p h;simp at h
   | cons q r ih=>
    intro i j p h
    cases j with
    | zero=>simp at h;subst h;simp [argE,lk]
    | succ j=>
     have:Nat.beq (i+(j+1)) i=false:=by rw [Bool.eq_false_iff];intro e;have:=Nat.eq_of_beq_eq_true e;omega
     simp only [argE,lk,this,cond_false]
     rw [show i+(j+1)=(i+1)+j by omega]
     exact ih (i+1) j p (by simpa using h)
  obtain ⟨x,h1,h2⟩:=hi.env j (.p p) (by have:=hget ps 0 j p hj;rw [Nat.zero_add] at this;exact this)
  rw [Array.getD_eq_getD_getElem?]
  simp only at h1
  rw [h1]
  exact repA_pv h2
 ·rintro e w' ⟨v,M',rfl,h1,h2,h3,h4,h5,h6,h7,h8,h9⟩
  refine ⟨v,rfl,M',λ_=>none,λ_=>undef,h6,by simp,{
   defers:=rfl
   size:=rfl
   fr:=⟨h1,h2,h3,h4,λb hb _=>h5 b hb⟩
   mem:=h7
   env:=λt u e=>by
    simp only [mkS,lk] at e
    cases hb:Nat.beq t 0 with
    | true=>
     have:=Nat.eq_of_beq_eq_true hb
     subst this
     simp at e
     subst e
     exact ⟨v,rfl,h9⟩
    | false=>simp [hb] at e
   vars:=λk l h=>by simp [mkS,lk] at h
   bufs:=λk c h=>by simp [mkS,lk] at h
   inj:=λk k' b h=>by simp at h
   dom:=λ_ _=>rfl
   old:=λb o hb=>h8 b o hb
   glob:=hi.glob.mono h6
   owns:=λk wd l h=>by simp [mkS,lk] at h }⟩
theorem ok_hand {P:Program} {f:FuncId} {ps:List PV} {r:PV} (hc:Callable P f)
  (h:∀ (w:World) (M:Mem) (args:Array Value),(∀ b o x,M b o=some x->w.cell? ⟨b,o,none⟩=some x)->args.size=ps.length->(∀ (j:Nat) (p:PV),ps[j]? = some p->Rep M p (args.getD j undef)) ->
   Calls P f args w λe w'=>∃ v M',e=.returned v/\w'.os=w.os/\w'.tape=w.tape/\w'.output=w.output/\w.heap.size<=w'.heap.size/\(∀ b,b<w.heap.size->w'.heap[b]? = w.heap[b]?)/\M.le M'/\(∀ b o x,M' b o=some x->w'.cell? ⟨b,o,none⟩=some x)/\(∀ b o,b<w.heap.size->M' b o=M b o)/\Rep M' r v) :
  Ok P f ps.length (mkS (argE 0 ps) []) (mkS [(0,.p r)] []):=
 ok_handG hc λw M args _ a b c=>(h w M args a b c).mono λe w' ⟨v,M',h0,h1,h2,h3,h4,h5,h6,h7,h8,h9⟩ =>⟨v,M',h0,h1,h2,h3,h4,h5,h6,h7,h8,.p _ _ h9⟩
end Go.Sw
