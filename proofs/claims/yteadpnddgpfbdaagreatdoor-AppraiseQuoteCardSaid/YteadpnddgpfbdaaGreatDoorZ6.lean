/- AppraiseQuote (law 37: the program and the reference say the same of a quote, or give the same error) is proved for every input, under no condition of ours; this text is a part of that proof. -/
import Derived.Test.YteadpnddgpfbdaaGreatDoorZ5
import Derived.Test.YteadpnddgpfbdaaGreatDoorZ2
import Derived.Test.YteadpnddgpfbdaaGreatDoorProg
import Derived.Test.YteadpnddgpfbdaaGreatDoorZ4
import Derived.Tactics
import Derived.Tactics2
import Derived.StillTactics
import Derived.Laws.RangeString
import Derived.Laws.RangeAny
import Derived.Laws.Runes
import Derived.Laws.Small
import Derived.Laws.Strings
import Derived.Scope
import Derived.LoopTactic
import Derived.Handy
import Derived.Laws.CopyRow
import Derived.Laws.Slices
import Derived.Laws.MathBits
import Derived.Laws.Bits128
import Derived.Room.MakeNoZero
set_option linter.all false
namespace Go.Proofs.Tryz.S
open Go Go.Sw
set_option maxRecDepth 100000
def t2:TI:=⟨1,8,[.int .i64 0],(.int .i64)⟩
theorem t2ok:TOk Tryz.prog 2 t2:=tok_of (by kernel_rfl) (by kernel_rfl) rfl
def t3:TI:=⟨1,8,[.int .i64 0],(.int .i64)⟩
theorem t3ok:TOk Tryz.prog 3 t3:=tok_of (by kernel_rfl) (by kernel_rfl) rfl
def t4:TI:=⟨1,1,[.bool false],.bool⟩
theorem t4ok:TOk Tryz.prog 4 t4:=tok_of (by kernel_rfl) (by kernel_rfl) rfl
def t5:TI:=⟨1,1,[.int .u8 0],(.int .u8)⟩
theorem t5ok:TOk Tryz.prog 5 t5:=tok_of (by kernel_rfl) (by kernel_rfl) rfl
def t6:TI:=⟨1,1,[.int .u8 0],(.int .u8)⟩
theorem t6ok:TOk Tryz.prog 6 t6:=tok_of (by kernel_rfl) (by kernel_rfl) rfl
def t7:TI:=⟨4,24,[.int .i64 0,.int .i64 0,.bool false,.int .u8 0],(.struct [(2,0),(3,1),(4,2),(6,3)])⟩
theorem t7ok:TOk Tryz.prog 7 t7:=tok_of (by kernel_rfl) (by kernel_rfl) rfl
def t8:TI:=⟨4,24,[.int .i64 0,.int .i64 0,.bool false,.int .u8 0],(.struct [(2,0),(3,1),(4,2),(6,3)])⟩
theorem t8ok:TOk Tryz.prog 8 t8:=tok_of (by kernel_rfl) (by kernel_rfl) rfl
def t9:TI:=⟨1,16,[.str []],.str⟩
theorem t9ok:TOk Tryz.prog 9 t9:=tok_of (by kernel_rfl) (by kernel_rfl) rfl
def t10:TI:=⟨1,16,[.str []],.str⟩
theorem t10ok:TOk Tryz.prog 10 t10:=tok_of (by kernel_rfl) (by kernel_rfl) rfl
def t11:TI:=⟨1,16,[.str []],.str⟩
theorem t11ok:TOk Tryz.prog 11 t11:=tok_of (by kernel_rfl) (by kernel_rfl) rfl
def t12:TI:=⟨1,8,[.int .u64 0],(.int .u64)⟩
theorem t12ok:TOk Tryz.prog 12 t12:=tok_of (by kernel_rfl) (by kernel_rfl) rfl
def t13:TI:=⟨2,24,[.str [],.int .u64 0],(.struct [(9,0),(12,1)])⟩
theorem t13ok:TOk Tryz.prog 13 t13:=tok_of (by kernel_rfl) (by kernel_rfl) rfl
def t14:TI:=⟨2,24,[.str [],.int .u64 0],(.struct [(9,0),(12,1)])⟩
theorem t14ok:TOk Tryz.prog 14 t14:=tok_of (by kernel_rfl) (by kernel_rfl) rfl
def t15:TI:=⟨1,8,[.nilp],(.ptr 309)⟩
theorem t15ok:TOk Tryz.prog 15 t15:=tok_of (by kernel_rfl) (by kernel_rfl) rfl
def t16:TI:=⟨1,8,[.nilp],(.ptr 312)⟩
theorem t16ok:TOk Tryz.prog 16 t16:=tok_of (by kernel_rfl) (by kernel_rfl) rfl
def t17:TI:=⟨1,8,[.nilp],(.ptr 319)⟩
theorem t17ok:TOk Tryz.prog 17 t17:=tok_of (by kernel_rfl) (by kernel_rfl) rfl
def t18:TI:=⟨1,8,[.nilp],(.struct [(17,0)])⟩
theorem t18ok:TOk Tryz.prog 18 t18:=tok_of (by kernel_rfl) (by kernel_rfl) rfl
def t19:TI:=⟨1,8,[.nilp],(.struct [(17,0)])⟩
theorem t19ok:TOk Tryz.prog 19 t19:=tok_of (by kernel_rfl) (by kernel_rfl) rfl
def t20:TI:=⟨1,16,[.err false],.iface⟩
theorem t20ok:TOk Tryz.prog 20 t20:=tok_of (by kernel_rfl) (by kernel_rfl) rfl
def t21:TI:=⟨1,4,[.int .i32 0],(.int .i32)⟩
theorem t21ok:TOk Tryz.prog 21 t21:=tok_of (by kernel_rfl) (by kernel_rfl) rfl
def t22:TI:=⟨1,24,[.bytes []],(.slice 5)⟩
theorem t22ok:TOk Tryz.prog 22 t22:=tok_of (by kernel_rfl) (by kernel_rfl) rfl
def t23:TI:=⟨4,80,[.int .i64 0,.bytes [],.bytes [],.bytes []],(.struct [(3,0),(22,1),(22,2),(22,3)])⟩
theorem t23ok:TOk Tryz.prog 23 t23:=tok_of (by kernel_rfl) (by kernel_rfl) rfl
def t24:TI:=⟨4,80,[.int .i64 0,.bytes [],.bytes [],.bytes []],(.struct [(3,0),(22,1),(22,2),(22,3)])⟩
theorem t24ok:TOk Tryz.prog 24 t24:=tok_of (by kernel_rfl) (by kernel_rfl) rfl
def t27:TI:=⟨1,24,[.sl 4 []],(.slice 107)⟩
theorem t27ok:TOk Tryz.prog 27 t27:=tok_of (by kernel_rfl) (by kernel_rfl) rfl
def t28:TI:=⟨3,40,[.int .i64 0,.int .i64 0,.sl 4 []],(.struct [(3,0),(3,1),(27,2)])⟩
theorem t28ok:TOk Tryz.prog 28 t28:=tok_of (by kernel_rfl) (by kernel_rfl) rfl
def t29:TI:=⟨3,40,[.int .i64 0,.int .i64 0,.sl 4 []],(.struct [(3,0),(3,1),(27,2)])⟩
theorem t29ok:TOk Tryz.prog 29 t29:=tok_of (by kernel_rfl) (by kernel_rfl) rfl
def t30:TI:=⟨1,24,[.sl 7 []],(.slice 65)⟩
theorem t30ok:TOk Tryz.prog 30 t30:=tok_of (by kernel_rfl) (by kernel_rfl) rfl
def t33:TI:=⟨1,24,[.sl 5 []],(.slice 37)⟩
theorem t33ok:TOk Tryz.prog 33 t33:=tok_of (by kernel_rfl) (by kernel_rfl) rfl
def t34:TI:=⟨3,72,[.bytes [],.bytes [],.bytes []],(.struct [(22,0),(22,1),(22,2)])⟩
theorem t34ok:TOk Tryz.prog 34 t34:=tok_of (by kernel_rfl) (by kernel_rfl) rfl
def t35:TI:=⟨3,72,[.bytes [],.bytes [],.bytes []],(.struct [(22,0),(22,1),(22,2)])⟩
theorem t35ok:TOk Tryz.prog 35 t35:=tok_of (by kernel_rfl) (by kernel_rfl) rfl
def t36:TI:=⟨5,72,[.int .i64 0,.int .i64 0,.int .i64 0,.bytes [],.bytes []],(.struct [(3,0),(3,1),(3,2),(22,3),(22,4)])⟩
theorem t36ok:TOk Tryz.prog 36 t36:=tok_of (by kernel_rfl) (by kernel_rfl) rfl
def t37:TI:=⟨5,72,[.int .i64 0,.int .i64 0,.int .i64 0,.bytes [],.bytes []],(.struct [(3,0),(3,1),(3,2),(22,3),(22,4)])⟩
theorem t37ok:TOk Tryz.prog 37 t37:=tok_of (by kernel_rfl) (by kernel_rfl) rfl
def t38:TI:=⟨11,184,[.int .i64 0,.int .i64 0,.sl 5 [],.bytes [],.bytes [],.bytes [],.int .i64 0,.int .i64 0,.int .i64 0,.bytes [],.bytes []],(.struct [(3,0),(3,1),(33,2),(35,3),(37,6)])⟩
theorem t38ok:TOk Tryz.prog 38 t38:=tok_of (by kernel_rfl) (by kernel_rfl) rfl
def t39:TI:=⟨11,184,[.int .i64 0,.int .i64 0,.sl 5 [],.bytes [],.bytes [],.bytes [],.int .i64 0,.int .i64 0,.int .i64 0,.bytes [],.bytes []],(.struct [(3,0),(3,1),(33,2),(35,3),(37,6)])⟩
theorem t39ok:TOk Tryz.prog 39 t39:=tok_of (by kernel_rfl) (by kernel_rfl) rfl
def t42:TI:=⟨1,24,[.sl 4 []],(.slice 24)⟩
theorem t42ok:TOk Tryz.prog 42 t42:=tok_of (by kernel_rfl) (by kernel_rfl) rfl
def t43:TI:=⟨2,16,[.int .i64 0,.int .i64 0],(.arr 2 3)⟩
theorem t43ok:TOk Tryz.prog 43 t43:=tok_of (by kernel_rfl) (by kernel_rfl) rfl
def t44:TI:=⟨2,16,[.int .i64 0,.int .i64 0],(.arr 2 3)⟩
theorem t44ok:TOk Tryz.prog 44 t44:=tok_of (by kernel_rfl) (by kernel_rfl) rfl
def t45:TI:=⟨10,128,[.bytes [],.bytes [],.int .i64 0,.int .i64 0,.int .i64 0,.bool false,.int .i64 0,.int .i64 0,.int .i64 0,.bytes []],(.struct [(22,0),(22,1),(3,2),(3,3),(3,4),(4,5),(3,6),(44,7),(22,9)])⟩
theorem t45ok:TOk Tryz.prog 45 t45:=tok_of (by kernel_rfl) (by kernel_rfl) rfl
def t46:TI:=⟨10,128,[.bytes [],.bytes [],.int .i64 0,.int .i64 0,.int .i64 0,.bool false,.int .i64 0,.int .i64 0,.int .i64 0,.bytes []],(.struct [(22,0),(22,1),(3,2),(3,3),(3,4),(4,5),(3,6),(44,7),(22,9)])⟩
theorem t46ok:TOk Tryz.prog 46 t46:=tok_of (by kernel_rfl) (by kernel_rfl) rfl
def t47:TI:=⟨1,8,[.int .i64 0],(.int .i64)⟩
theorem t47ok:TOk Tryz.prog 47 t47:=tok_of (by kernel_rfl) (by kernel_rfl) rfl
def t53:TI:=⟨1,8,[.int .u64 0],(.int .u64)⟩
theorem t53ok:TOk Tryz.prog 53 t53:=tok_of (by kernel_rfl) (by kernel_rfl) rfl
def t55:TI:=⟨1,24,[.sl 2 []],(.slice 132)⟩
theorem t55ok:TOk Tryz.prog 55 t55:=tok_of (by kernel_rfl) (by kernel_rfl) rfl
def t56:TI:=⟨4,48,[.int .i64 0,.int .i64 0,.sl 2 [],.int .i64 0],(.struct [(47,0),(3,1),(55,2),(3,3)])⟩
theorem t56ok:TOk Tryz.prog 56 t56:=tok_of (by kernel_rfl) (by kernel_rfl) rfl
def t57:TI:=⟨4,48,[.int .i64 0,.int .i64 0,.sl 2 [],.int .i64 0],(.struct [(47,0),(3,1),(55,2),(3,3)])⟩
theorem t57ok:TOk Tryz.prog 57 t57:=tok_of (by kernel_rfl) (by kernel_rfl) rfl
def t60:TI:=⟨1,24,[.sl 4 []],(.slice 87)⟩
theorem t60ok:TOk Tryz.prog 60 t60:=tok_of (by kernel_rfl) (by kernel_rfl) rfl
def t62:TI:=⟨1,24,[.sl 4 []],(.slice 102)⟩
theorem t62ok:TOk Tryz.prog 62 t62:=tok_of (by kernel_rfl) (by kernel_rfl) rfl
def t63:TI:=⟨1,24,[.sl 4 []],(.slice 68)⟩
theorem t63ok:TOk Tryz.prog 63 t63:=tok_of (by kernel_rfl) (by kernel_rfl) rfl
def t64:TI:=⟨7,96,[.str [],.int .i64 0,.int .i64 0,.int .i64 0,.int .i64 0,.sl 4 [],.sl 4 []],(.struct [(9,0),(3,1),(3,2),(3,3),(3,4),(62,5),(63,6)])⟩
theorem t64ok:TOk Tryz.prog 64 t64:=tok_of (by kernel_rfl) (by kernel_rfl) rfl
def t65:TI:=⟨7,96,[.str [],.int .i64 0,.int .i64 0,.int .i64 0,.int .i64 0,.sl 4 [],.sl 4 []],(.struct [(9,0),(3,1),(3,2),(3,3),(3,4),(62,5),(63,6)])⟩
theorem t65ok:TOk Tryz.prog 65 t65:=tok_of (by kernel_rfl) (by kernel_rfl) rfl
def t67:TI:=⟨4,40,[.int .i64 0,.str [],.int .i64 0,.int .i64 0],(.struct [(3,0),(9,1),(3,2),(3,3)])⟩
theorem t67ok:TOk Tryz.prog 67 t67:=tok_of (by kernel_rfl) (by kernel_rfl) rfl
def t68:TI:=⟨4,40,[.int .i64 0,.str [],.int .i64 0,.int .i64 0],(.struct [(3,0),(9,1),(3,2),(3,3)])⟩
theorem t68ok:TOk Tryz.prog 68 t68:=tok_of (by kernel_rfl) (by kernel_rfl) rfl
def t86:TI:=⟨4,56,[.int .i64 0,.str [],.int .i64 0,.bytes []],(.struct [(3,0),(9,1),(3,2),(22,3)])⟩
theorem t86ok:TOk Tryz.prog 86 t86:=tok_of (by kernel_rfl) (by kernel_rfl) rfl
def t87:TI:=⟨4,56,[.int .i64 0,.str [],.int .i64 0,.bytes []],(.struct [(3,0),(9,1),(3,2),(22,3)])⟩
theorem t87ok:TOk Tryz.prog 87 t87:=tok_of (by kernel_rfl) (by kernel_rfl) rfl
def t89:TI:=⟨1,8,[.nilp],(.ptr 136)⟩
theorem t89ok:TOk Tryz.prog 89 t89:=tok_of (by kernel_rfl) (by kernel_rfl) rfl
def t101:TI:=⟨4,56,[.int .i64 0,.str [],.int .i64 0,.bytes []],(.struct [(3,0),(9,1),(3,2),(22,3)])⟩
theorem t101ok:TOk Tryz.prog 101 t101:=tok_of (by kernel_rfl) (by kernel_rfl) rfl
def t102:TI:=⟨4,56,[.int .i64 0,.str [],.int .i64 0,.bytes []],(.struct [(3,0),(9,1),(3,2),(22,3)])⟩
theorem t102ok:TOk Tryz.prog 102 t102:=tok_of (by kernel_rfl) (by kernel_rfl) rfl
def t105:TI:=⟨1,24,[.sl 1 []],(.slice 22)⟩
theorem t105ok:TOk Tryz.prog 105 t105:=tok_of (by kernel_rfl) (by kernel_rfl) rfl
def t106:TI:=⟨4,64,[.int .i64 0,.int .i64 0,.sl 1 [],.bytes []],(.struct [(3,0),(3,1),(105,2),(22,3)])⟩
theorem t106ok:TOk Tryz.prog 106 t106:=tok_of (by kernel_rfl) (by kernel_rfl) rfl
def t107:TI:=⟨4,64,[.int .i64 0,.int .i64 0,.sl 1 [],.bytes []],(.struct [(3,0),(3,1),(105,2),(22,3)])⟩
theorem t107ok:TOk Tryz.prog 107 t107:=tok_of (by kernel_rfl) (by kernel_rfl) rfl
def t125:TI:=⟨1,24,[.sl 1 []],(.slice 105)⟩
theorem t125ok:TOk Tryz.prog 125 t125:=tok_of (by kernel_rfl) (by kernel_rfl) rfl
def t126:TI:=⟨2,32,[.sl 1 [],.int .i64 0],(.struct [(125,0),(3,1)])⟩
theorem t126ok:TOk Tryz.prog 126 t126:=tok_of (by kernel_rfl) (by kernel_rfl) rfl
def t127:TI:=⟨2,32,[.sl 1 [],.int .i64 0],(.struct [(125,0),(3,1)])⟩
theorem t127ok:TOk Tryz.prog 127 t127:=tok_of (by kernel_rfl) (by kernel_rfl) rfl
def t131:TI:=⟨2,16,[.int .i64 0,.int .i64 0],(.struct [(3,0),(3,1)])⟩
theorem t131ok:TOk Tryz.prog 131 t131:=tok_of (by kernel_rfl) (by kernel_rfl) rfl
def t132:TI:=⟨2,16,[.int .i64 0,.int .i64 0],(.struct [(3,0),(3,1)])⟩
theorem t132ok:TOk Tryz.prog 132 t132:=tok_of (by kernel_rfl) (by kernel_rfl) rfl
def t135:TI:=⟨2,32,[.bytes [],.int .i64 0],(.struct [(22,0),(3,1)])⟩
theorem t135ok:TOk Tryz.prog 135 t135:=tok_of (by kernel_rfl) (by kernel_rfl) rfl
def t136:TI:=⟨2,32,[.bytes [],.int .i64 0],(.struct [(22,0),(3,1)])⟩
theorem t136ok:TOk Tryz.prog 136 t136:=tok_of (by kernel_rfl) (by kernel_rfl) rfl
def t139:TI:=⟨1,4,[.int .u32 0],(.int .u32)⟩
theorem t139ok:TOk Tryz.prog 139 t139:=tok_of (by kernel_rfl) (by kernel_rfl) rfl
def t140:TI:=⟨64,256,List.replicate 64 (.int .u32 0),(.arr 64 139)⟩
theorem t140ok:TOk Tryz.prog 140 t140:=tok_of (by kernel_rfl) (by kernel_rfl) rfl
def t142:TI:=⟨1,24,[.sl 1 []],(.slice 139)⟩
theorem t142ok:TOk Tryz.prog 142 t142:=tok_of (by kernel_rfl) (by kernel_rfl) rfl
def t146:TI:=⟨6,6,[.bool false,.bool false,.bool false,.bool false,.bool false,.bool false],(.arr 6 4)⟩
theorem t146ok:TOk Tryz.prog 146 t146:=tok_of (by kernel_rfl) (by kernel_rfl) rfl
def t147:TI:=⟨8,24,[.int .i64 0,.int .i64 0,.bool false,.bool false,.bool false,.bool false,.bool false,.bool false],(.struct [(3,0),(3,1),(146,2)])⟩
theorem t147ok:TOk Tryz.prog 147 t147:=tok_of (by kernel_rfl) (by kernel_rfl) rfl
def t148:TI:=⟨8,24,[.int .i64 0,.int .i64 0,.bool false,.bool false,.bool false,.bool false,.bool false,.bool false],(.struct [(3,0),(3,1),(146,2)])⟩
theorem t148ok:TOk Tryz.prog 148 t148:=tok_of (by kernel_rfl) (by kernel_rfl) rfl
def t159:TI:=⟨5,80,[.str [],.str [],.str [],.str [],.str []],(.arr 5 9)⟩
theorem t159ok:TOk Tryz.prog 159 t159:=tok_of (by kernel_rfl) (by kernel_rfl) rfl
def t168:TI:=⟨1,8,[.int .u64 0],(.int .u64)⟩
theorem t168ok:TOk Tryz.prog 168 t168:=tok_of (by kernel_rfl) (by kernel_rfl) rfl
def t178:TI:=⟨1,8,[.nilp],(.ptr 215)⟩
theorem t178ok:TOk Tryz.prog 178 t178:=tok_of (by kernel_rfl) (by kernel_rfl) rfl
def t194:TI:=⟨1,24,[.sl 1 []],(.slice 3)⟩
theorem t194ok:TOk Tryz.prog 194 t194:=tok_of (by kernel_rfl) (by kernel_rfl) rfl
def t196:TI:=⟨3,48,[.str [],.str [],.str []],(.arr 3 9)⟩
theorem t196ok:TOk Tryz.prog 196 t196:=tok_of (by kernel_rfl) (by kernel_rfl) rfl
def t201:TI:=⟨1,8,[.nilp],(.ptr 204)⟩
theorem t201ok:TOk Tryz.prog 201 t201:=tok_of (by kernel_rfl) (by kernel_rfl) rfl
def t203:TI:=⟨3,40,[.bytes [],.int .i64 0,.int .i64 0],(.struct [(22,0),(3,1),(47,2)])⟩
theorem t203ok:TOk Tryz.prog 203 t203:=tok_of (by kernel_rfl) (by kernel_rfl) rfl
def t204:TI:=⟨3,40,[.bytes [],.int .i64 0,.int .i64 0],(.struct [(22,0),(3,1),(47,2)])⟩
theorem t204ok:TOk Tryz.prog 204 t204:=tok_of (by kernel_rfl) (by kernel_rfl) rfl
def t205:TI:=⟨1,8,[.nilp],(.ptr 148)⟩
theorem t205ok:TOk Tryz.prog 205 t205:=tok_of (by kernel_rfl) (by kernel_rfl) rfl
def t214:TI:=⟨3,40,[.bytes [],.int .i64 0,.int .i64 0],(.struct [(22,0),(3,1),(47,2)])⟩
theorem t214ok:TOk Tryz.prog 214 t214:=tok_of (by kernel_rfl) (by kernel_rfl) rfl
def t215:TI:=⟨3,40,[.bytes [],.int .i64 0,.int .i64 0],(.struct [(22,0),(3,1),(47,2)])⟩
theorem t215ok:TOk Tryz.prog 215 t215:=tok_of (by kernel_rfl) (by kernel_rfl) rfl
def t222:TI:=⟨5,20,[.int .u32 0,.int .u32 0,.int .u32 0,.int .u32 0,.int .u32 0],(.arr 5 139)⟩
theorem t222ok:TOk Tryz.prog 222 t222:=tok_of (by kernel_rfl) (by kernel_rfl) rfl
def t224:TI:=⟨1,8,[.nilp],(.ptr 222)⟩
theorem t224ok:TOk Tryz.prog 224 t224:=tok_of (by kernel_rfl) (by kernel_rfl) rfl
def t225:TI:=⟨8,32,[.int .u32 0,.int .u32 0,.int .u32 0,.int .u32 0,.int .u32 0,.int .u32 0,.int .u32 0,.int .u32 0],(.arr 8 139)⟩
theorem t225ok:TOk Tryz.prog 225 t225:=tok_of (by kernel_rfl) (by kernel_rfl) rfl
def t227:TI:=⟨1,8,[.nilp],(.ptr 225)⟩
theorem t227ok:TOk Tryz.prog 227 t227:=tok_of (by kernel_rfl) (by kernel_rfl) rfl
def t230:TI:=⟨5,40,[.int .i64 0,.int .i64 0,.int .i64 0,.int .i64 0,.int .i64 0],(.arr 5 3)⟩
theorem t230ok:TOk Tryz.prog 230 t230:=tok_of (by kernel_rfl) (by kernel_rfl) rfl
def t235:TI:=⟨6,96,[.str [],.str [],.str [],.str [],.str [],.str []],(.arr 6 9)⟩
theorem t235ok:TOk Tryz.prog 235 t235:=tok_of (by kernel_rfl) (by kernel_rfl) rfl
def t236:TI:=⟨7,112,[.str [],.str [],.str [],.str [],.str [],.str [],.str []],(.arr 7 9)⟩
theorem t236ok:TOk Tryz.prog 236 t236:=tok_of (by kernel_rfl) (by kernel_rfl) rfl
def t238:TI:=⟨80,320,List.replicate 80 (.int .u32 0),(.arr 80 139)⟩
theorem t238ok:TOk Tryz.prog 238 t238:=tok_of (by kernel_rfl) (by kernel_rfl) rfl
def t246:TI:=⟨1,16,[.err false],.iface⟩
theorem t246ok:TOk Tryz.prog 246 t246:=tok_of (by kernel_rfl) (by kernel_rfl) rfl
def t247:TI:=⟨1,16,[.err false],.iface⟩
theorem t247ok:TOk Tryz.prog 247 t247:=tok_of (by kernel_rfl) (by kernel_rfl) rfl
def t252:TI:=⟨24,24,List.replicate 24 (.int .u8 0),(.arr 24 5)⟩
theorem t252ok:TOk Tryz.prog 252 t252:=tok_of (by kernel_rfl) (by kernel_rfl) rfl
def t258:TI:=⟨256,256,List.replicate 256 (.bool false),(.arr 256 4)⟩
theorem t258ok:TOk Tryz.prog 258 t258:=tok_of (by kernel_rfl) (by kernel_rfl) rfl
def t259:TI:=⟨256,256,List.replicate 256 (.bool false),(.arr 256 4)⟩
theorem t259ok:TOk Tryz.prog 259 t259:=tok_of (by kernel_rfl) (by kernel_rfl) rfl
def t263:TI:=⟨1,8,[.nilp],(.ptr 259)⟩
theorem t263ok:TOk Tryz.prog 263 t263:=tok_of (by kernel_rfl) (by kernel_rfl) rfl
def t266:TI:=⟨1,24,[.sl 1 []],(.slice 4)⟩
theorem t266ok:TOk Tryz.prog 266 t266:=tok_of (by kernel_rfl) (by kernel_rfl) rfl
def t273:TI:=⟨20,160,List.replicate 20 (.int .u64 0),(.arr 20 168)⟩
theorem t273ok:TOk Tryz.prog 273 t273:=tok_of (by kernel_rfl) (by kernel_rfl) rfl
def t274:TI:=⟨65,65,List.replicate 65 (.int .u8 0),(.arr 65 5)⟩
theorem t274ok:TOk Tryz.prog 274 t274:=tok_of (by kernel_rfl) (by kernel_rfl) rfl
def t280:TI:=⟨1,8,[.int .i64 0],(.int .i64)⟩
theorem t280ok:TOk Tryz.prog 280 t280:=tok_of (by kernel_rfl) (by kernel_rfl) rfl
def t283:TI:=⟨1,8,[.nilp],(.ptr 292)⟩
theorem t283ok:TOk Tryz.prog 283 t283:=tok_of (by kernel_rfl) (by kernel_rfl) rfl
def t291:TI:=⟨3,48,[.str [],.str [],.err false],(.struct [(9,0),(9,1),(247,2)])⟩
theorem t291ok:TOk Tryz.prog 291 t291:=tok_of (by kernel_rfl) (by kernel_rfl) rfl
def t292:TI:=⟨3,48,[.str [],.str [],.err false],(.struct [(9,0),(9,1),(247,2)])⟩
theorem t292ok:TOk Tryz.prog 292 t292:=tok_of (by kernel_rfl) (by kernel_rfl) rfl
def t294:TI:=⟨32,32,List.replicate 32 (.int .u8 0),(.arr 32 5)⟩
theorem t294ok:TOk Tryz.prog 294 t294:=tok_of (by kernel_rfl) (by kernel_rfl) rfl
def t295:TI:=⟨64,64,List.replicate 64 (.int .u8 0),(.arr 64 5)⟩
theorem t295ok:TOk Tryz.prog 295 t295:=tok_of (by kernel_rfl) (by kernel_rfl) rfl
def t296:TI:=⟨256,256,List.replicate 256 (.int .u8 0),(.arr 256 5)⟩
theorem t296ok:TOk Tryz.prog 296 t296:=tok_of (by kernel_rfl) (by kernel_rfl) rfl
def t297:TI:=⟨2,2,[.int .u8 0,.int .u8 0],(.struct [(5,0),(5,1)])⟩
theorem t297ok:TOk Tryz.prog 297 t297:=tok_of (by kernel_rfl) (by kernel_rfl) rfl
def t298:TI:=⟨2,2,[.int .u8 0,.int .u8 0],(.struct [(5,0),(5,1)])⟩
theorem t298ok:TOk Tryz.prog 298 t298:=tok_of (by kernel_rfl) (by kernel_rfl) rfl
def t299:TI:=⟨32,32,List.replicate 32 (.int .u8 0),(.arr 16 298)⟩
theorem t299ok:TOk Tryz.prog 299 t299:=tok_of (by kernel_rfl) (by kernel_rfl) rfl
def t303:TI:=⟨1,8,[.nilp],(.ptr 5)⟩
theorem t303ok:TOk Tryz.prog 303 t303:=tok_of (by kernel_rfl) (by kernel_rfl) rfl
def t304:TI:=⟨1,8,[.nilp],(.ptr 306)⟩
theorem t304ok:TOk Tryz.prog 304 t304:=tok_of (by kernel_rfl) (by kernel_rfl) rfl
def t305:TI:=⟨1,16,[.str []],(.struct [(9,0)])⟩
theorem t305ok:TOk Tryz.prog 305 t305:=tok_of (by kernel_rfl) (by kernel_rfl) rfl
def t306:TI:=⟨1,16,[.str []],(.struct [(9,0)])⟩
theorem t306ok:TOk Tryz.prog 306 t306:=tok_of (by kernel_rfl) (by kernel_rfl) rfl
def t308:TI:=⟨4,40,[.nilp,.nilp,.nilp,.str []],(.struct [(17,0),(17,1),(17,2),(9,3)])⟩
theorem t308ok:TOk Tryz.prog 308 t308:=tok_of (by kernel_rfl) (by kernel_rfl) rfl
def t309:TI:=⟨4,40,[.nilp,.nilp,.nilp,.str []],(.struct [(17,0),(17,1),(17,2),(9,3)])⟩
theorem t309ok:TOk Tryz.prog 309 t309:=tok_of (by kernel_rfl) (by kernel_rfl) rfl
def t310:TI:=⟨0,0,[],(.arr 0 16)⟩
theorem t310ok:TOk Tryz.prog 310 t310:=tok_of (by kernel_rfl) (by kernel_rfl) rfl
def t311:TI:=⟨0,0,[],(.struct [(310,0)])⟩
theorem t311ok:TOk Tryz.prog 311 t311:=tok_of (by kernel_rfl) (by kernel_rfl) rfl
def t312:TI:=⟨0,0,[],(.struct [(310,0)])⟩
theorem t312ok:TOk Tryz.prog 312 t312:=tok_of (by kernel_rfl) (by kernel_rfl) rfl
def t313:TI:=⟨1,1,[.int .u8 0],(.int .u8)⟩
theorem t313ok:TOk Tryz.prog 313 t313:=tok_of (by kernel_rfl) (by kernel_rfl) rfl
def t314:TI:=⟨1,1,[.int .u8 0],(.int .u8)⟩
theorem t314ok:TOk Tryz.prog 314 t314:=tok_of (by kernel_rfl) (by kernel_rfl) rfl
def t316:TI:=⟨1,4,[.int .i32 0],(.int .i32)⟩
theorem t316ok:TOk Tryz.prog 316 t316:=tok_of (by kernel_rfl) (by kernel_rfl) rfl
def t317:TI:=⟨1,4,[.int .i32 0],(.int .i32)⟩
theorem t317ok:TOk Tryz.prog 317 t317:=tok_of (by kernel_rfl) (by kernel_rfl) rfl
def tr:Tr:=(.node 127 t127 (.node 36 t36 (.node 17 t17 (.node 9 t9 (.node 5 t5 (.node 3 t3 (.node 2 t2 .leaf .leaf) (.node 4 t4 .leaf .leaf)) (.node 7 t7 (.node 6 t6 .leaf .leaf) (.node 8 t8 .leaf .leaf))) (.node 13 t13 (.node 11 t11 (.node 10 t10 .leaf .leaf) (.node 12 t12 .leaf .leaf)) (.node 15 t15 (.node 14 t14 .leaf .leaf) (.node 16 t16 .leaf .leaf)))) (.node 27 t27 (.node 21 t21 (.node 19 t19 (.node 18 t18 .leaf .leaf) (.node 20 t20 .leaf .leaf)) (.node 23 t23 (.node 22 t22 .leaf .leaf) (.node 24 t24 .leaf .leaf))) (.node 33 t33 (.node 29 t29 (.node 28 t28 .leaf .leaf) (.node 30 t30 .leaf .leaf)) (.node 35 t35 (.node 34 t34 .leaf .leaf) .leaf)))) (.node 63 t63 (.node 46 t46 (.node 42 t42 (.node 38 t38 (.node 37 t37 .leaf .leaf) (.node 39 t39 .leaf .leaf)) (.node 44 t44 (.node 43 t43 .leaf .leaf) (.node 45 t45 .leaf .leaf))) (.node 56 t56 (.node 53 t53 (.node 47 t47 .leaf .leaf) (.node 55 t55 .leaf .leaf)) (.node 60 t60 (.node 57 t57 .leaf .leaf) (.node 62 t62 .leaf .leaf)))) (.node 101 t101 (.node 68 t68 (.node 65 t65 (.node 64 t64 .leaf .leaf) (.node 67 t67 .leaf .leaf)) (.node 87 t87 (.node 86 t86 .leaf .leaf) (.node 89 t89 .leaf .leaf))) (.node 107 t107 (.node 105 t105 (.node 102 t102 .leaf .leaf) (.node 106 t106 .leaf .leaf)) (.node 126 t126 (.node 125 t125 .leaf .leaf) .leaf))))) (.node 247 t247 (.node 201 t201 (.node 146 t146 (.node 136 t136 (.node 132 t132 (.node 131 t131 .leaf .leaf) (.node 135 t135 .leaf .leaf)) (.node 140 t140 (.node 139 t139 .leaf .leaf) (.node 142 t142 .leaf .leaf))) (.node 168 t168 (.node 148 t148 (.node 147 t147 .leaf .leaf) (.node 159 t159 .leaf .leaf)) (.node 194 t194 (.node 178 t178 .leaf .leaf) (.node 196 t196 .leaf .leaf)))) (.node 225 t225 (.node 214 t214 (.node 204 t204 (.node 203 t203 .leaf .leaf) (.node 205 t205 .leaf .leaf)) (.node 222 t222 (.node 215 t215 .leaf .leaf) (.node 224 t224 .leaf .leaf))) (.node 236 t236 (.node 230 t230 (.node 227 t227 .leaf .leaf) (.node 235 t235 .leaf .leaf)) (.node 246 t246 (.node 238 t238 .leaf .leaf) .leaf)))) (.node 298 t298 (.node 280 t280 (.node 263 t263 (.node 258 t258 (.node 252 t252 .leaf .leaf) (.node 259 t259 .leaf .leaf)) (.node 273 t273 (.node 266 t266 .leaf .leaf) (.node 274 t274 .leaf .leaf))) (.node 294 t294 (.node 291 t291 (.node 283 t283 .leaf .leaf) (.node 292 t292 .leaf .leaf)) (.node 296 t296 (.node 295 t295 .leaf .leaf) (.node 297 t297 .leaf .leaf)))) (.node 310 t310 (.node 305 t305 (.node 303 t303 (.node 299 t299 .leaf .leaf) (.node 304 t304 .leaf .leaf)) (.node 308 t308 (.node 306 t306 .leaf .leaf) (.node 309 t309 .leaf .leaf))) (.node 314 t314 (.node 312 t312 (.node 311 t311 .leaf .leaf) (.node 313 t313 .leaf .leaf)) (.node 317 t317 (.node 316 t316 .leaf .leaf) .leaf))))))
def te:TE:=tr.get
theorem teok:TEOk Tryz.prog te:=Tr.ok tr ⟨t127ok,⟨t36ok,⟨t17ok,⟨t9ok,⟨t5ok,⟨t3ok,⟨t2ok,trivial,trivial⟩,⟨t4ok,trivial,trivial⟩⟩,⟨t7ok,⟨t6ok,trivial,trivial⟩,⟨t8ok,trivial,trivial⟩⟩⟩,⟨t13ok,⟨t11ok,⟨t10ok,trivial,trivial⟩,⟨t12ok,trivial,trivial⟩⟩,⟨t15ok,⟨t14ok,trivial,trivial⟩,⟨t16ok,trivial,trivial⟩⟩⟩⟩,⟨t27ok,⟨t21ok,⟨t19ok,⟨t18ok,trivial,trivial⟩,⟨t20ok,trivial,trivial⟩⟩,⟨t23ok,⟨t22ok,trivial,trivial⟩,⟨t24ok,trivial,trivial⟩⟩⟩,⟨t33ok,⟨t29ok,⟨t28ok,trivial,trivial⟩,⟨t30ok,trivial,trivial⟩⟩,⟨t35ok,⟨t34ok,trivial,trivial⟩,trivial⟩⟩⟩⟩,⟨t63ok,⟨t46ok,⟨t42ok,⟨t38ok,⟨t37ok,trivial,trivial⟩,⟨t39ok,trivial,trivial⟩⟩,⟨t44ok,⟨t43ok,trivial,trivial⟩,⟨t45ok,trivial,trivial⟩⟩⟩,⟨t56ok,⟨t53ok,⟨t47ok,trivial,trivial⟩,⟨t55ok,trivial,trivial⟩⟩,⟨t60ok,⟨t57ok,trivial,trivial⟩,⟨t62ok,trivial,trivial⟩⟩⟩⟩,⟨t101ok,⟨t68ok,⟨t65ok,⟨t64ok,trivial,trivial⟩,⟨t67ok,trivial,trivial⟩⟩,⟨t87ok,⟨t86ok,trivial,trivial⟩,⟨t89ok,trivial,trivial⟩⟩⟩,⟨t107ok,⟨t105ok,⟨t102ok,trivial,trivial⟩,⟨t106ok,trivial,trivial⟩⟩,⟨t126ok,⟨t125ok,trivial,trivial⟩,trivial⟩⟩⟩⟩⟩,⟨t247ok,⟨t201ok,⟨t146ok,⟨t136ok,⟨t132ok,⟨t131ok,trivial,trivial⟩,⟨t135ok,trivial,trivial⟩⟩,⟨t140ok,⟨t139ok,trivial,trivial⟩,⟨t142ok,trivial,trivial⟩⟩⟩,⟨t168ok,⟨t148ok,⟨t147ok,trivial,trivial⟩,⟨t159ok,trivial,trivial⟩⟩,⟨t194ok,⟨t178ok,trivial,trivial⟩,⟨t196ok,trivial,trivial⟩⟩⟩⟩,⟨t225ok,⟨t214ok,⟨t204ok,⟨t203ok,trivial,trivial⟩,⟨t205ok,trivial,trivial⟩⟩,⟨t222ok,⟨t215ok,trivial,trivial⟩,⟨t224ok,trivial,trivial⟩⟩⟩,⟨t236ok,⟨t230ok,⟨t227ok,trivial,trivial⟩,⟨t235ok,trivial,trivial⟩⟩,⟨t246ok,⟨t238ok,trivial,trivial⟩,trivial⟩⟩⟩⟩,⟨t298ok,⟨t280ok,⟨t263ok,⟨t258ok,⟨t252ok,trivial,trivial⟩,⟨t259ok,trivial,trivial⟩⟩,⟨t273ok,⟨t266ok,trivial,trivial⟩,⟨t274ok,trivial,trivial⟩⟩⟩,⟨t294ok,⟨t291ok,⟨t283ok,trivial,trivial⟩,⟨t292ok,trivial,trivial⟩⟩,⟨t296ok,⟨t295ok,trivial,trivial⟩,⟨t297ok,trivial,trivial⟩⟩⟩⟩,⟨t310ok,⟨t305ok,⟨t303ok,⟨t299ok,trivial,trivial⟩,⟨t304ok,trivial,trivial⟩⟩,⟨t308ok,⟨t306ok,trivial,trivial⟩,⟨t309ok,trivial,trivial⟩⟩⟩,⟨t314ok,⟨t312ok,⟨t311ok,trivial,trivial⟩,⟨t313ok,trivial,trivial⟩⟩,⟨t317ok,⟨t316ok,trivial,trivial⟩,trivial⟩⟩⟩⟩⟩⟩
end Go.Proofs.Tryz.S
namespace Go.Proofs.H
open Go Go.Proofs
def nameByte (c:UInt8):Bool:=(decide (97<=c.toNat)&&decide (c.toNat<=122))||(decide (48<=c.toNat)&&decide (c.toNat<=57))||decide (c.toNat=45)
def nameAll (s:ByteArray) (pos:Nat):Bool:=(s.data.toList.drop pos).all nameByte
theorem width_pos (s:ByteArray) (pos:Nat) (h:pos<s.size):1<=(Utf8.decode s pos).2:=by
 by_cases ha:(s[pos]'h).toNat<128
 ·rw [decode_ascii s pos h ha]
  exact Nat.le_refl _
 ·exact (decode_high s pos h (by omega)).2
theorem nb_len {n:Nat} {x:Bool} (h:¬ (1<=n/\n<=12)):(decide (1<=n)&&decide (n<=12)&&x)=false:=by
 by_cases h1:1<=n
 ·have:¬ n<=12:=λh2=>h ⟨h1,h2⟩
  simp [this]
 ·simp [h1]
theorem nb_in {n:Nat} {x:Bool} (h:1<=n/\n<=12):(decide (1<=n)&&decide (n<=12)&&x)=x:=by simp [h.1,h.2]
theorem nameAll_step {s:ByteArray} {pos:Nat} (hp:pos<s.size):nameAll s pos=(nameByte (s[pos]'hp)&&nameAll s (pos+1)):=by
 unfold nameAll
 rw [List.drop_eq_getElem_cons (by simpa using hp)]
 simp only [List.all_cons]
 rfl
theorem name_facts (s:ByteArray) (pos:Nat) (hp:pos<s.size) {rn:Nat×Nat} (hd:Utf8.decode s pos=rn) :
  (rn.1<128->rn.2=1/\nameAll s pos=((decide (97<=rn.1)&&decide (rn.1<=122)||decide (48<=rn.1)&&decide (rn.1<=57)||decide (rn.1=45))&&nameAll s (pos+1)))/\(128<=rn.1->nameAll s pos=false):=by
 rw [nameAll_step hp]
 by_cases ha:(s[pos]'hp).toNat<128
 ·rw [decode_ascii s pos hp ha] at hd
  subst hd
  exact ⟨λ_=>⟨rfl,rfl⟩,λh=>by simp only at h;omega⟩
 ·have h2:=decode_high s pos hp (by omega)
  rw [hd] at h2
  refine ⟨λh=>by omega,λ_=>?_⟩
  have:nameByte (s[pos]'hp)=false:=by
   unfold nameByte
   simp only [Bool.or_eq_false_iff,Bool.and_eq_false_iff,decide_eq_false_iff_not]
   omega
  simp [this]
theorem name_no (s:ByteArray) (pos:Nat) (hp:pos<s.size) {rn:Nat×Nat} (hd:Utf8.decode s pos=rn) (h1:rn.1<97∨122<rn.1) (h2:rn.1<48∨57<rn.1) (h3:rn.1≠45):nameAll s pos=false:=by
 obtain ⟨f1,f2⟩:=name_facts s pos hp hd
 by_cases h:rn.1<128
 ·rw [(f1 h).2]
  have:(decide (97<=rn.1)&&decide (rn.1<=122)||decide (48<=rn.1)&&decide (rn.1<=57)||decide (rn.1=45))=false:=by
   simp only [Bool.or_eq_false_iff,Bool.and_eq_false_iff,decide_eq_false_iff_not]
   omega
  simp [this]
 ·exact f2 (by omega)
theorem name_yes (s:ByteArray) (pos:Nat) (hp:pos<s.size) {rn:Nat×Nat} (hd:Utf8.decode s pos=rn) (h1:(97<=rn.1/\rn.1<=122)∨(48<=rn.1/\rn.1<=57)∨rn.1=45):rn.2=1/\nameAll s pos=nameAll s (pos+1):=by
 obtain ⟨f1,_⟩:=name_facts s pos hp hd
 obtain ⟨f2,f3⟩:=f1 (by omega)
 refine ⟨f2,?_⟩
 rw [f3]
 have:(decide (97<=rn.1)&&decide (rn.1<=122)||decide (48<=rn.1)&&decide (rn.1<=57)||decide (rn.1=45))=true:=by
  simp only [Bool.or_eq_true,Bool.and_eq_true,decide_eq_true_eq]
  omega
 simp [this]
set_option maxRecDepth 1000000 in
set_option maxHeartbeats 4000000 in
theorem walk_named (s:ByteArray) (w:World) :
  Calls Tryz.prog 242 #[.string s] w λe w'=>e=.returned (.bool (decide (1<=s.size)&&decide (s.size<=12)&&nameAll s 0))/\(w'=w∨∃ pos,w'=w.iter s pos):=by
 go_enter Tryz.func242,Tryz.ntmps242
 go_wp2
 ·rename_i h1 h2
  go_ret
  refine ⟨?_,.inl rfl⟩
  rw [nb_len (by omega)]
  rfl
 ·rename_i h1 h2
  go_loopw [] (λw'=>∃ (pos:Nat),w'=w.iter s pos/\pos<=s.size/\nameAll s pos=nameAll s 0) (λw'=>s.size - w'.iterPos w.heap.size)
  case atStart=>exact ⟨0,rfl,by omega,rfl⟩
  case round=>
   obtain ⟨pos,rfl,hb,hc⟩:=hrel
   by_cases hp:pos<s.size
   ·have hnx:∀ ty,(Instr.next (.pointer (some ⟨w.heap.size,0,none⟩)) true ty).run Tryz.prog (w.iter s pos)=_:=λty=>run_next_any w s pos ty hp
    generalize hd:Utf8.decode s pos=rn at hnx
    go_wp2
    ·go_ret
     refine ⟨?_,.inr ⟨_,rfl⟩⟩
     rw [nb_in (by omega),<- hc]
     try simp only [bne_iff_ne,ne_eq] at *
     rw [name_no s pos hp hd (by omega) (by omega) (by omega)]
     rfl
    ·have hy:(97<=rn.1/\rn.1<=122)∨(48<=rn.1/\rn.1<=57)∨rn.1=45:=by
      try simp only [bne_eq_false_iff_eq] at *
      omega
     obtain ⟨y1,y2⟩:=name_yes s pos hp hd hy
     refine ⟨⟨pos+rn.snd,rfl,by omega,?_⟩,?_⟩
     ·rw [y1,<- y2];exact hc
     ·simp
      omega
    ·have hy:(97<=rn.1/\rn.1<=122)∨(48<=rn.1/\rn.1<=57)∨rn.1=45:=by
      try simp only [bne_eq_false_iff_eq] at *
      omega
     obtain ⟨y1,y2⟩:=name_yes s pos hp hd hy
     refine ⟨⟨pos+rn.snd,rfl,by omega,?_⟩,?_⟩
     ·rw [y1,<- y2];exact hc
     ·simp
      omega
    ·go_ret
     refine ⟨?_,.inr ⟨_,rfl⟩⟩
     rw [nb_in (by omega),<- hc]
     try simp only [bne_iff_ne,ne_eq] at *
     rw [name_no s pos hp hd (by omega) (by omega) (by omega)]
     rfl
    ·have hy:(97<=rn.1/\rn.1<=122)∨(48<=rn.1/\rn.1<=57)∨rn.1=45:=by
      try simp only [bne_eq_false_iff_eq] at *
      omega
     obtain ⟨y1,y2⟩:=name_yes s pos hp hd hy
     refine ⟨⟨pos+rn.snd,rfl,by omega,?_⟩,?_⟩
     ·rw [y1,<- y2];exact hc
     ·simp
      omega
    ·have hy:(97<=rn.1/\rn.1<=122)∨(48<=rn.1/\rn.1<=57)∨rn.1=45:=by
      try simp only [bne_eq_false_iff_eq] at *
      omega
     obtain ⟨y1,y2⟩:=name_yes s pos hp hd hy
     refine ⟨⟨pos+rn.snd,rfl,by omega,?_⟩,?_⟩
     ·rw [y1,<- y2];exact hc
     ·simp
      omega
    ·go_ret
     refine ⟨?_,.inr ⟨_,rfl⟩⟩
     rw [nb_in (by omega),<- hc]
     try simp only [bne_iff_ne,ne_eq] at *
     rw [name_no s pos hp hd (by omega) (by omega) (by omega)]
     rfl
    ·have hy:(97<=rn.1/\rn.1<=122)∨(48<=rn.1/\rn.1<=57)∨rn.1=45:=by
      try simp only [bne_eq_false_iff_eq] at *
      omega
     obtain ⟨y1,y2⟩:=name_yes s pos hp hd hy
     refine ⟨⟨pos+rn.snd,rfl,by omega,?_⟩,?_⟩
     ·rw [y1,<- y2];exact hc
     ·simp
      omega
   ·have hnx:∀ ty,(Instr.next (.pointer (some ⟨w.heap.size,0,none⟩)) true ty).run Tryz.prog (w.iter s pos)=_:=λty=>run_next_end w s pos ty hp
    go_wp2
    go_ret
    refine ⟨?_,.inr ⟨_,rfl⟩⟩
    rw [nb_in (by omega),<- hc]
    have:nameAll s pos=true:=by
     unfold nameAll
     rw [List.drop_eq_nil_of_le (by simp;omega)]
     rfl
    rw [this]
    rfl
 ·rename_i h1
  go_ret
  refine ⟨?_,.inl rfl⟩
  rw [nb_len (by omega)]
  rfl
end Go.Proofs.H
namespace Go.Proofs.H
open Go Go.Proofs Go.RowKit
theorem u22:Tryz.prog.underlying 22=some (.slice 5):=by kernel_rfl
theorem i5:(Tryz.prog.info? 5).map (·.size)=some 1:=by kernel_rfl
theorem run_mnz (w:World) (n:Nat) (hn:n<=64):∃ cs:Array Value,(callFunc 241 #[.int .i64 n]).run Tryz.prog w=.ok (.value (.slice (some ⟨w.heap.size,0,none⟩) n cs.size)) (w.drew.drew.alloc (.cells cs 5))/\n<=cs.size:=by
 obtain ⟨cs,h1,h2,h3,h4⟩:=Lib.run_makeNoZero_cap (P:=Tryz.prog) w #[3] 22 5 u22 n (by omega)
 refine ⟨cs,?_,h2⟩
 have:=run_callFunc_extern (P:=Tryz.prog) Tryz.func241 (by kernel_rfl) (by kernel_rfl) (by kernel_rfl) (e:=Extern.BytealgMakeNoZero.makeNoZero #[3] #[22]) (by kernel_rfl) #[.int .i64 n] w
 rw [h1] at this
 exact this
def dr (d:Nat) (w:World):World:={ w with drawn:=d }
set_option maxRecDepth 1000000 in
set_option maxHeartbeats 4000000 in
theorem walk_rep32 (b o c:Nat) (x:UInt8) (w:World) (hc:w.cell? ⟨b,o,none⟩=some (.int .u8 x.toNat)) :
  Calls Tryz.prog 225 #[.slice (some ⟨b,o,none⟩) 1 c,.int .i64 32] w λe w'=>e=.returned (.slice (some ⟨w.heap.size,0,none⟩) 32 32)/\∃ cs d cur,w'=(dr d (w.alloc (.cells cs 5))).setRow w.heap.size cur/\∀ j,j<32->cur[j]? = some (.int .u8 x.toNat):=by
 obtain ⟨cs,hm,hcs⟩:=run_mnz w 32 (by omega)
 have hm':(callFunc 241 #[.int .i64 32]).run Tryz.prog w=.ok (.value (.slice (some ⟨w.heap.size,0,none⟩) 32 cs.size)) (w.drew.drew.alloc (.cells cs 5)):=hm
 have hblt:b<w.heap.size:=World.block_lt_of_cell? w _ hc
 have hg2:(w.alloc (.cells cs 5)).drew.drew.heap[w.heap.size]? = some (.cells cs 5 (0,0)):=heap_alloc_new w _
 have hc2:(w.alloc (.cells cs 5)).drew.drew.cell? ⟨b,o,none⟩=some (.int .u8 x.toNat):=by
  have:=World.cell?_alloc_lt w (.cells cs 5) ⟨b,o,none⟩ hblt
  rw [<- hc,<- this]
  rfl
 have hcp:∀ ty,(Builtin.copy_ #[22,22] ty #[.slice (some ⟨w.heap.size,0,none⟩) 32 32,.slice (some ⟨b,o,none⟩) 1 c]).run Tryz.prog (w.alloc (.cells cs 5)).drew.drew=_:=λty=>
  run_copy_row (P:=Tryz.prog) (w.alloc (.cells cs 5)).drew.drew 22 22 ty 5 w.heap.size 0 32 32 ⟨b,o,none⟩ 1 c cs 5 [.int .u8 x.toNat] u22 i5 hg2 rfl (by intro j v hj;rcases j with _ | j;(simp at hj;subst hj;simpa [Addr.add] using hc2);simp at hj) (by simp;omega) (by simp [Value.oneCell'])
 go_enter Tryz.func225,Tryz.ntmps225
 go_wp2
 have hg3:∀ d,(dr d (w.alloc (.cells cs 5))).heap[w.heap.size]? = some (.cells cs 5 (0,0)):=λ_=>hg2
 go_loopw [10] (λv wr=>∃ (bp d:Nat) (cur:Array Value),v=.int .i64 bp/\1<=bp/\bp<=32/\wr=(dr d (w.alloc (.cells cs 5))).setRow w.heap.size cur/\cur.size=cs.size/\∀ j,j<bp->cur[j]? = some (.int .u8 x.toNat)) (λv _=>32 - (intOf v).toNat)
 case atStart=>
  refine ⟨1,w.drawn+2,_,rfl,by omega,by omega,rfl,by simp;omega,λj hj=>(match j,hj with | 0,_=>rfl)⟩
 case round=>
  obtain ⟨bp,d,cur,rfl,hb1,hb2,rfl,hsz,hcur⟩:=hrel
  by_cases hlt:bp<32
  ·obtain ⟨m,hm0,hm1,hm2,hm3⟩:∃ m,m=Nat.min bp (32 - bp)/\m<=bp/\m<=32 - bp/\1<=m:=⟨_,rfl,Nat.min_le_left _ _,Nat.min_le_right _ _,by show 1<=min bp (32 - bp);omega⟩
   have hcp2:∀ ty,(Builtin.copy_ #[22,22] ty #[.slice (some ⟨w.heap.size,bp,none⟩) (32 - bp) (32 - bp),.slice (some ⟨w.heap.size,0,none⟩) bp 32]).run Tryz.prog ((dr d (w.alloc (.cells cs 5))).setRow w.heap.size cur).drew=_:=λty=>
    run_copy_row (P:=Tryz.prog) ((dr d (w.alloc (.cells cs 5))).setRow w.heap.size cur).drew 22 22 ty 5 w.heap.size bp (32 - bp) (32 - bp) ⟨w.heap.size,0,none⟩ bp 32 cur 5 (List.replicate m (.int .u8 x.toNat)) u22 i5 (setRow_heap _ _ _ _ _ _ (hg3 d)) (by simp [hm0]) (by
     intro j v hj
     rw [List.getElem?_replicate] at hj
     split at hj
     ·cases hj
      have:(⟨w.heap.size,0,none⟩:Addr).add j=⟨w.heap.size,j,none⟩:=by rw [Sw.add_off,Nat.zero_add]
      rw [this]
      exact (cell_setRow_same (dr d (w.alloc (.cells cs 5))) _ _ _ _ _ _ (hg3 d)).trans (hcur j (by omega))
     ·cases hj) (by simp;omega) (by intro v hv;rw [List.eq_of_mem_replicate hv];rfl)
   go_wp2
   go_region
   go_wp2
   rw [<- hm0]
   refine ⟨⟨bp+m,d+1,(cur.toList.take bp++(List.replicate m (Value.int .u8 x.toNat)++cur.toList.drop (bp+m))).toArray,by simp,by omega,by omega,?_,?_,?_⟩,?_⟩
   ·show (((dr (d+1) (w.alloc (.cells cs 5))).setRow w.heap.size cur).setRow w.heap.size _)=_
    rw [setRow_setRow]
   ·simp
    omega
   ·intro j hj
    simp only [List.getElem?_toArray]
    by_cases h1:j<bp
    ·rw [List.getElem?_append_left (by simp;omega),List.getElem?_take,if_pos h1]
     simpa using hcur j h1
    ·rw [List.getElem?_append_right (by simp;omega),List.getElem?_append_left (by simp;omega),List.getElem?_replicate,if_pos (by simp;omega)]
   ·simp [intOf]
    omega
  ·have:bp=32:=by omega
   subst this
   go_wp2
   go_ret
   exact ⟨rfl,cs,d,cur,rfl,hcur⟩
set_option maxRecDepth 1000000 in
set_option maxHeartbeats 4000000 in
theorem walk_rep20 (b o c:Nat) (x:UInt8) (w:World) (hc:w.cell? ⟨b,o,none⟩=some (.int .u8 x.toNat)) :
  Calls Tryz.prog 225 #[.slice (some ⟨b,o,none⟩) 1 c,.int .i64 20] w λe w'=>e=.returned (.slice (some ⟨w.heap.size,0,none⟩) 20 20)/\∃ cs d cur,w'=(dr d (w.alloc (.cells cs 5))).setRow w.heap.size cur/\∀ j,j<20->cur[j]? = some (.int .u8 x.toNat):=by
 obtain ⟨cs,hm,hcs⟩:=run_mnz w 20 (by omega)
 have hm':(callFunc 241 #[.int .i64 20]).run Tryz.prog w=.ok (.value (.slice (some ⟨w.heap.size,0,none⟩) 20 cs.size)) (w.drew.drew.alloc (.cells cs 5)):=hm
 have hblt:b<w.heap.size:=World.block_lt_of_cell? w _ hc
 have hg2:(w.alloc (.cells cs 5)).drew.drew.heap[w.heap.size]? = some (.cells cs 5 (0,0)):=heap_alloc_new w _
 have hc2:(w.alloc (.cells cs 5)).drew.drew.cell? ⟨b,o,none⟩=some (.int .u8 x.toNat):=by
  have:=World.cell?_alloc_lt w (.cells cs 5) ⟨b,o,none⟩ hblt
  rw [<- hc,<- this]
  rfl
 have hcp:∀ ty,(Builtin.copy_ #[22,22] ty #[.slice (some ⟨w.heap.size,0,none⟩) 20 20,.slice (some ⟨b,o,none⟩) 1 c]).run Tryz.prog (w.alloc (.cells cs 5)).drew.drew=_:=λty=>
  run_copy_row (P:=Tryz.prog) (w.alloc (.cells cs 5)).drew.drew 22 22 ty 5 w.heap.size 0 20 20 ⟨b,o,none⟩ 1 c cs 5 [.int .u8 x.toNat] u22 i5 hg2 rfl (by intro j v hj;rcases j with _ | j;(simp at hj;subst hj;simpa [Addr.add] using hc2);simp at hj) (by simp;omega) (by simp [Value.oneCell'])
 go_enter Tryz.func225,Tryz.ntmps225
 go_wp2
 have hg3:∀ d,(dr d (w.alloc (.cells cs 5))).heap[w.heap.size]? = some (.cells cs 5 (0,0)):=λ_=>hg2
 go_loopw [10] (λv wr=>∃ (bp d:Nat) (cur:Array Value),v=.int .i64 bp/\1<=bp/\bp<=20/\wr=(dr d (w.alloc (.cells cs 5))).setRow w.heap.size cur/\cur.size=cs.size/\∀ j,j<bp->cur[j]? = some (.int .u8 x.toNat)) (λv _=>20 - (intOf v).toNat)
 case atStart=>
  refine ⟨1,w.drawn+2,_,rfl,by omega,by omega,rfl,by simp;omega,λj hj=>(match j,hj with | 0,_=>rfl)⟩
 case round=>
  obtain ⟨bp,d,cur,rfl,hb1,hb2,rfl,hsz,hcur⟩:=hrel
  by_cases hlt:bp<20
  ·obtain ⟨m,hm0,hm1,hm2,hm3⟩:∃ m,m=Nat.min bp (20 - bp)/\m<=bp/\m<=20 - bp/\1<=m:=⟨_,rfl,Nat.min_le_left _ _,Nat.min_le_right _ _,by show 1<=min bp (20 - bp);omega⟩
   have hcp2:∀ ty,(Builtin.copy_ #[22,22] ty #[.slice (some ⟨w.heap.size,bp,none⟩) (20 - bp) (20 - bp),.slice (some ⟨w.heap.size,0,none⟩) bp 20]).run Tryz.prog ((dr d (w.alloc (.cells cs 5))).setRow w.heap.size cur).drew=_:=λty=>
    run_copy_row (P:=Tryz.prog) ((dr d (w.alloc (.cells cs 5))).setRow w.heap.size cur).drew 22 22 ty 5 w.heap.size bp (20 - bp) (20 - bp) ⟨w.heap.size,0,none⟩ bp 20 cur 5 (List.replicate m (.int .u8 x.toNat)) u22 i5 (setRow_heap _ _ _ _ _ _ (hg3 d)) (by simp [hm0]) (by
     intro j v hj
     rw [List.getElem?_replicate] at hj
     split at hj
     ·cases hj
      have:(⟨w.heap.size,0,none⟩:Addr).add j=⟨w.heap.size,j,none⟩:=by rw [Sw.add_off,Nat.zero_add]
      rw [this]
      exact (cell_setRow_same (dr d (w.alloc (.cells cs 5))) _ _ _ _ _ _ (hg3 d)).trans (hcur j (by omega))
     ·cases hj) (by simp;omega) (by intro v hv;rw [List.eq_of_mem_replicate hv];rfl)
   go_wp2
   go_region
   go_wp2
   rw [<- hm0]
   refine ⟨⟨bp+m,d+1,(cur.toList.take bp++(List.replicate m (Value.int .u8 x.toNat)++cur.toList.drop (bp+m))).toArray,by simp,by omega,by omega,?_,?_,?_⟩,?_⟩
   ·show (((dr (d+1) (w.alloc (.cells cs 5))).setRow w.heap.size cur).setRow w.heap.size _)=_
    rw [setRow_setRow]
   ·simp
    omega
   ·intro j hj
    simp only [List.getElem?_toArray]
    by_cases h1:j<bp
    ·rw [List.getElem?_append_left (by simp;omega),List.getElem?_take,if_pos h1]
     simpa using hcur j h1
    ·rw [List.getElem?_append_right (by simp;omega),List.getElem?_append_left (by simp;omega),List.getElem?_replicate,if_pos (by simp;omega)]
   ·simp [intOf]
    omega
  ·have:bp=20:=by omega
   subst this
   go_wp2
   go_ret
   exact ⟨rfl,cs,d,cur,rfl,hcur⟩
end Go.Proofs.H
namespace Go.Sw
open Go
theorem ok_hand {P:Program} {f:FuncId} {ps:List PV} {r:PV} (hc:Callable P f)
  (h:∀ (w:World) (M:Mem) (args:Array Value),(∀ b o x,M b o=some x->w.cell? ⟨b,o,none⟩=some x)->args.size=ps.length->(∀ (j:Nat) (p:PV),ps[j]? = some p->Rep M p (args.getD j undef)) ->
   Calls P f args w λe w'=>∃ v M',e=.returned v/\w'.os=w.os/\w'.tape=w.tape/\w'.output=w.output/\w.heap.size<=w'.heap.size/\(∀ b,b<w.heap.size->w'.heap[b]? = w.heap[b]?)/\M.le M'/\(∀ b o x,M' b o=some x->w'.cell? ⟨b,o,none⟩=some x)/\(∀ b o,b<w.heap.size->M' b o=M b o)/\Rep M' r v) :
  Ok P f ps.length (mkS (argE 0 ps) []) (mkS [(0,.p r)] []):=by
 refine ⟨hc,λw M pk args κ tip hi hp=>?_⟩
 have hpk:pk=[]:=by
  cases pk with
  | nil=>rfl
  | cons e l=>
   have:=(hp e (by simp)).1
   rw [hi.dom e.1 rfl] at this
   cases this
 subst hpk
 refine (h w M args hi.mem hi.size ?_).mono ?_
 ·intro j p hj
  have hlt:j<ps.length:=(List.getElem?_eq_some_iff.1 hj).1
  have hget:∀ (l:List PV) (i j:Nat) (p:PV),l[j]? = some p->lk (argE i l) (i+j)=some (.p p):=by
   intro l
   induction l with
   | nil=>intro i j p h;simp at h
   | cons q r ih=>
    intro i j p h
    cases j with
    | zero=>simp at h;subst h;simp [argE,lk]
    | succ j=>
     have:Nat.beq (i+(j+1)) i=false:=by rw [Bool.eq_false_iff];intro e;have:=Nat.eq_of_beq_eq_true e;omega
     simp only [argE,lk,this,cond_false]
     rw [show i+(j+1)=(i+1)+j by omega]
     exact ih (i+1) j p (by simpa using h)
  obtain ⟨x,h1,h2⟩:=hi.env j (.p p) (by have:=hget ps 0 j p hj;rw [Nat.zero_add] at this;exact this)
  rw [Array.getD_eq_getD_getElem?]
  simp only at h1
  rw [h1]
  exact repA_pv h2
 ·rintro e w' ⟨v,M',rfl,h1,h2,h3,h4,h5,h6,h7,h8,h9⟩
  refine ⟨v,rfl,M',λ_=>none,λ_=>undef,h6,by simp,{
   defers:=rfl
   size:=rfl
   fr:=⟨h1,h2,h3,h4,λb hb _=>h5 b hb⟩
   mem:=h7
   env:=λt u e=>by
    simp only [mkS,lk] at e
    cases hb:Nat.beq t 0 with
    | true=>
     have:=Nat.eq_of_beq_eq_true hb
     subst this
     simp at e
     subst e
     exact ⟨v,rfl,.p _ _ h9⟩
    | false=>simp [hb] at e
   vars:=λk l h=>by simp [mkS,lk] at h
   bufs:=λk c h=>by simp [mkS,lk] at h
   inj:=λk k' b h=>by simp at h
   dom:=λ_ _=>rfl
   old:=λb o hb=>h8 b o hb
   glob:=hi.glob.mono h6
   owns:=λk wd l h=>by simp [mkS,lk] at h }⟩
end Go.Sw
namespace Go.Proofs.Tryz.S
open Go Go.Sw Go.Proofs.TT
theorem mixed:Tryz.prog.follows .mixedOrders=true:=by kernel_rfl
abbrev Z (f na:Nat) (l:List PV) (v:AV) (b:List (Nat×ABlk)):Prop:=Ok Tryz.prog f na (mkS (argE 0 l) []) (mkS [(0,v)] b)
theorem Y {cx:Ctx} {q:Exit->AS->Prop} {s:AS} {ops:Array Oper} {id n:Nat} (hnt:cx.nt=n) (h:RK Tryz.prog ops ops.toList s λs' ms=>wsOk n ms=true/\(orderOk ops ms&&onOk ops)=true/\q .normal s'):awp Tryz.prog cx (.region id ops true) q s:=rgd hnt mixed h
instance tenv:TEnv Tryz.prog:=⟨te,teok⟩
theorem image_named_ok {s:List UInt8} {r:Bool} (h:image_named s=some r):Ok Tryz.prog 242 1 (mkS (argE 0 [.str s]) []) (mkS [(0,qB r)] []):=by
 cases h
 refine ok_hand (ps:=[.str s]) ⟨_,Tryz.func242,by kernel_rfl,by kernel_rfl⟩ λw M args hm hs hr=>?_
 have ha:args=#[.string ⟨s.toArray⟩]:=by
  have h0:=rep_str (hr 0 _ rfl)
  obtain ⟨al⟩:=args
  match al,hs,h0 with
  | [a],_,h0=>simp at h0;rw [h0]
 subst ha
 refine (H.walk_named ⟨s.toArray⟩ w).mono ?_
 rintro e w' ⟨rfl,hw⟩
 have hb:(decide (1<=(⟨s.toArray⟩:ByteArray).size)&&decide ((⟨s.toArray⟩:ByteArray).size<=12)&&H.nameAll ⟨s.toArray⟩ 0)=(decide (1<=s.length)&&decide (s.length<=12)&&s.all nameByte):=rfl
 rw [hb]
 rcases hw with rfl | ⟨pos,rfl⟩
 ·exact ⟨_,M,rfl,rfl,rfl,rfl,Nat.le_refl _,λ_ _=>rfl,Mem.le_refl M,hm,λ_ _ _=>rfl,.bool _⟩
 ·refine ⟨_,M,rfl,rfl,rfl,rfl,?_,?_,Mem.le_refl M,?_,λ_ _ _=>rfl,.bool _⟩
  ·simp [World.iter]
  ·intro b hb
   exact hao w _ b hb
  ·intro b o x hx
   have h1:=hm b o x hx
   rw [<- h1]
   exact World.cell?_alloc_lt w _ ⟨b,o,none⟩ (World.block_lt_of_cell? w _ h1)
theorem bytes_Repeat_ok {b:List UInt8} {n:Int} {r:List UInt8} (h:bytes_Repeat b n=some r):Ok Tryz.prog 225 2 (mkS (argE 0 [.bytes b,.int .i64 n]) []) (mkS [(0,qY r)] []):=by
 unfold bytes_Repeat at h
 split at h
 ·rename_i x
  rcases cond_some h with ⟨hn,h⟩ | ⟨hn,h⟩
  ·cases h
   have key:∀ (m:Nat),(∀ (b o c:Nat) (w:World),w.cell? ⟨b,o,none⟩=some (.int .u8 x.toNat)->Calls Tryz.prog 225 #[.slice (some ⟨b,o,none⟩) 1 c,.int .i64 (m:Int)] w λe w'=>e=.returned (.slice (some ⟨w.heap.size,0,none⟩) m m)/\∃ cs d cur,w'=(H.dr d (w.alloc (.cells cs 5))).setRow w.heap.size cur/\∀ j,j<m->cur[j]? = some (.int .u8 x.toNat)) ->
     Ok Tryz.prog 225 2 (mkS (argE 0 [.bytes [x],.int .i64 (m:Int)]) []) (mkS [(0,qY (List.replicate m x))] []):=by
    intro m hwalk
    refine ok_hand (ps:=[.bytes [x],.int .i64 m]) ⟨_,Tryz.func225,by kernel_rfl,by kernel_rfl⟩ λw M args hm hs hr=>?_
    have h0:=hr 0 _ rfl
    have h1:=rep_int (hr 1 _ rfl)
    obtain ⟨al⟩:=args
    match al,hs,h0,h1 with
    | [a0,a1],_,h0,h1=>
    simp at h0 h1
    subst h1
    cases h0 with
    | bytes _ b o n c g1 g2 g3=>
    simp at g1
    subst g1
    have hc:w.cell? ⟨b,o,none⟩=some (.int .u8 x.toNat):=hm _ _ _ (by simpa using g3 0 x rfl)
    refine (hwalk b o c w hc).mono ?_
    rintro e w' ⟨rfl,cs,d,cur,rfl,hcur⟩
    have hold:∀ i,i<w.heap.size->((H.dr d (w.alloc (.cells cs 5))).setRow w.heap.size cur).heap[i]? = w.heap[i]?:=by
     intro i hi
     rw [setRow_other _ _ _ _ (by omega)]
     exact hao w _ i hi
    have hg:((H.dr d (w.alloc (.cells cs 5))).setRow w.heap.size cur).heap[w.heap.size]? = some (.cells cur 5 (0,0)):=setRow_heap _ _ _ _ _ _ (heap_alloc_new w _)
    refine ⟨_,addM M w.heap.size 0 m (cur[·]?),rfl,rfl,rfl,rfl,?_,hold,addM_le ?_,?_,?_,?_⟩
    ·rw [setRow_size]
     show w.heap.size<=(w.alloc (.cells cs 5)).heap.size
     simp
    ·intro o _ _
     cases hmm:M w.heap.size o with
     | none=>rfl
     | some y=>have:=World.block_lt_of_cell? w _ (hm _ _ _ hmm);simp at this
    ·intro b' o' y hy
     unfold addM at hy
     split at hy
     ·rename_i hcc
      obtain ⟨rfl,_,_⟩:=hcc
      simp only [World.cell?,hg]
      simpa using hy
     ·have h2:=hm b' o' y hy
      have hlt:=World.block_lt_of_cell? w _ h2
      rw [World.cell?_of_block (hold b' hlt)]
      exact h2
    ·intro b' o' hlt
     unfold addM
     rw [if_neg (by omega)]
    ·refine .bytes _ _ 0 m m (by simp) (Nat.le_refl _) λi y hy=>?_
     rw [List.getElem?_replicate] at hy
     split at hy
     ·cases hy
      rename_i hlt
      simp only [addM,Nat.zero_add]
      rw [if_pos ⟨trivial,Nat.zero_le _,hlt⟩]
      exact hcur i hlt
     ·cases hy
   simp only [Bool.or_eq_true,beq_iff_eq] at hn
   rcases hn with rfl | rfl
   ·exact key 20 λb o c w hc=>H.walk_rep20 b o c x w hc
   ·exact key 32 λb o c w hc=>H.walk_rep32 b o c x w hc
  ·cases h
 ·cases h
end Go.Proofs.Tryz.S
namespace Go.Sw
open Go
abbrev qP (k:Nat):Nat×AV:=(k,.ptr k 0)
theorem R {α:Sort _} {a:α}:a=a:=rfl
section
variable {P:Program} {cx:Ctx} {q:Exit->AS->Prop} {s:AS} {α β I:Type} {r:β} {ks:List Nat}
theorem bS {m:Option α} {k:α->Option β} (h:m.bind k=some r):∃ x,m=some x/\k x=some r:=bind_some h
theorem O {G:Prop} {m:Option α} {k:α->Option β} (h:m.bind k=some r) (K:∀ x,m=some x->k x=some r->G):G:=(bind_some h).elim λx h=>K x h.1 h.2
theorem V {G:Prop} {e:α} {f:α->Option β} (h:lt e f=some r) (K:∀ v,e=v->f v=some r->G):G:=K e rfl h
theorem C {G:Prop} {c:Bool} {a b:Option β} (h:(bif c then a else b)=some r) (x:c=true->a=some r->G) (y:c=false->b=some r->G):G:=(cond_some h).elim (λh=>x h.1 h.2) λh=>y h.1 h.2
theorem N {G:Prop} (h:none=some r):G:=by cases h
theorem D {c:Code} {m:Option α} {k:α->Option β} (h:m.bind k=some r) (f:α->Exit×AS) (x:∀ j,m=some j->awp P cx c (OQ cx f j) s) (y:∀ j,k j=some r->q (f j).1 (f j).2):awp P cx c q s:=(bind_some h).elim λj h=>awp_oq f j (x j h.1) (y j h.2)
theorem J {c:Code} {m:Option α} {k:α->Option β} (h:m.bind k=some r) (f:α->AS) (x:∀ j,m=some j->awp P cx c (OQ cx (λj=>(.normal,f j)) j) s) (y:∀ j,k j=some r->q .normal (f j)):awp P cx c q s:=D h _ x y
theorem U {X:Type} {body:Code} {step:X->Option (X ⊕ α)} {n:Nat} {x0:X} {k:α->Option β} (h:(loopT step n x0).bind k=some r) (E:X->AS) (f:α->Exit×AS) (hi:Imp cx.pk s (E x0)) (hne:∀ y,(f y).1≠.normal)
  (hb:∀ x r,step x=some r->awp P cx body (OQ cx (LF E f) r) (E x)) (y:∀ j,k j=some r->q (f j).1 (f j).2):awp P cx (.loop body) q s:=(bind_some h).elim λj h=>loop_oq E f h.1 hi hne hb (y j h.2)
theorem Q {X:Type} {body:Code} {step:X->Option (X ⊕ α)} {n:Nat} {x0:X} {k:α->Option β} (h:(loopT step n x0).bind k=some r) (i:Nat) (E:X->AS) (f:α->AS) (hi:Imp cx.pk s (E x0))
  (hb:∀ x r,step x=some r->awp P cx body (OQ cx (LF E λy=>(.exit i,f y)) r) (E x)) (y:∀ j,k j=some r->q (.exit i) (f j)):awp P cx (.loop body) q s:=U h E _ hi (λ_ h=>by cases h) hb y
theorem K (h:q .normal s):awp P cx .skip q s:=awp_skip h
theorem X {id:Nat} (h:q (.exit id) s):awp P cx (.exit id) q s:=awp_exit h
theorem T (h:q .ret s):awp P cx .ret q s:=awp_ret h
theorem B {id:Nat} {c:Code} (h:awp P cx c (blockQ id q) s):awp P cx (.block id c) q s:=awp_block h
theorem L {l:Nat} (h:q .normal s):awp P cx (.label l) q s:=awp_label h
theorem A {t:Nat} {x y:Code} {b:Bool} (he:b=true) (hc:s.env t=some (.p (.bool b))) (h:awp P cx x q s):awp P cx (.cond (.tmp t) x y) q s:=cT he hc h
theorem F {t:Nat} {x y:Code} {b:Bool} (he:b=false) (hc:s.env t=some (.p (.bool b))) (h:awp P cx y q s):awp P cx (.cond (.tmp t) x y) q s:=cF he hc h
theorem G {ops:Array Oper} {id n:Nat} (hnt:cx.nt=n) (h:RK P ops ops.toList s λs' ms=>wsOk n ms=true/\q .normal s'):awp P cx (.region id ops false) q s:=rgn hnt h
theorem S {x y:Code} (h:awp P cx x (thenQ (awp P cx y q) q) s):awp P cx (.seq x y) q s:=awp_seq h
theorem lpX {env:List (Nat×AV)} {blk:List (Nat×ABlk)} (hpk:PK cx ks) (H:(gE s env,gB s id blk,(cloE (lk blk) env&&ks.all (λk=>(lk blk k).isSome)))=(vE id env,vB id blk,true)) (h:cloB (lk blk) blk=true):Imp cx.pk s (mkS env blk):=have ⟨a,H⟩:=pq H;have ⟨b,c⟩:=pq H;lp hpk a b c h
theorem lP {env:List (Nat×AV)} {blk:List (Nat×ABlk)} (hpk:PK cx ks) (H:(gE s env,gB s id blk,(cloE (lk blk) env&&ks.all (λk=>(lk blk k).isSome)),cloB (lk blk) blk)=(vE id env,vB id blk,true,true)):Imp cx.pk s (mkS env blk):=have ⟨a,H⟩:=pq H;have ⟨b,H⟩:=pq H;have ⟨c,d⟩:=pq H;lp hpk a b c d
theorem iX {c:Code} (env:List (Nat×AV)) (blk:List (Nat×ABlk)) (hpk:PK cx ks) (H:(gE s env,gB s id blk,(cloE (lk blk) env&&ks.all (λk=>(lk blk k).isSome)),cloB (lk blk) blk)=(vE id env,vB id blk,true,true)) (k:awp P cx c q (mkS env blk)):awp P cx c q s:=im (lP hpk H) k
theorem E {f:I->Exit×AS} {j i:I} {e:Exit} (h:some j=some i) (hpk:PK cx ks) {env:List (Nat×AV)} {blk:List (Nat×ABlk)} (H:(f j,gE s env,gB s id blk,(cloE (lk blk) env&&ks.all (λk=>(lk blk k).isSome)),cloB (lk blk) blk)=((e,mkS env blk),vE id env,vB id blk,true,true)):OQ cx f i e s:=by
 cases h;have ⟨a,H⟩:=pq H;exact ⟨by rw [a],by rw [a];exact lP hpk H⟩
theorem W {f:I->Exit×AS} {j i:I} {e:Exit} (h:some j=some i) (a:e=(f j).1) (b:Imp cx.pk s (f j).2):OQ cx f i e s:=by cases h;exact ⟨a,b⟩
theorem lR {env:List (Nat×AV)} {blk:List (Nat×ABlk)} (hpk:PK cx ks) (m:List (Nat×Nat))
  (H:(gE s env,gB s (rho m) blk,(cloE (lk (bR (rho m) blk)) (rE (rho m) env)&&(ks.all (λk=>(lk (bR (rho m) blk) k).isSome) &&
   (((kR (rho m) blk).all λj=>(kR (rho m) blk).all λj'=>!Nat.beq (rho (swp m) j) (rho (swp m) j')||Nat.beq j j')&&ks.all λk=>Nat.beq (rho (swp m) k) k))),
   cloB (lk (bR (rho m) blk)) (bR (rho m) blk),rE (rho (swp m)) (rE (rho m) env),bR (rho (swp m)) (bR (rho m) blk))=(vE (AV.ren (rho m)) env,vB (ABlk.ren (rho m)) blk,true,true,env,blk)):Imp cx.pk s (mkS env blk):=
 have ⟨a,H⟩:=pq H;have ⟨b,H⟩:=pq H;have ⟨c,H⟩:=pq H;have ⟨d,H⟩:=pq H;have ⟨e,g⟩:=pq H;lr hpk m a b c d e g
theorem pU {pk:List (Nat×Nat)} (t:Nat) {v:AV} {p:PV} {bs:List (Nat×ABlk)} (H:(s.env t,s.rd v)=(some v,some (p,bs))):Imp pk s (s.put t (.p p)):=have ⟨a,b⟩:=pq H;Imp.pure a b
theorem pV {pk:List (Nat×Nat)} (t:Nat) {v:AV} {p:PV} {bs:List (Nat×ABlk)} (a:s.env t=some v) (b:s.rd v=some (p,bs)):Imp pk s (s.put t (.p p)):=Imp.pure a b
theorem pC {pk:List (Nat×Nat)} (k:Nat) {l:List AV} (j:Nat) {z:AV} {p:PV} {bs:List (Nat×ABlk)} (H:(s.blk k,l[j]?,s.rd z)=(some (.var l),some z,some (p,bs))):Imp pk s (s.setb k (.var (l.set j (.p p)))):=have ⟨a,H⟩:=pq H;have ⟨b,c⟩:=pq H;Imp.pureC j a b c
theorem pD {pk:List (Nat×Nat)} (k:Nat) {l:List AV} (j:Nat) {z:AV} {p:PV} {bs:List (Nat×ABlk)} (H:(s.blk k,l[j]?)=(some (.var l),some z)) (c:s.rd z=some (p,bs)):Imp pk s (s.setb k (.var (l.set j (.p p)))):=have ⟨a,b⟩:=pq H;Imp.pureC j a b c
theorem pM {pk:List (Nat×Nat)} (t k:Nat) {c:PV} (H:(s.env t,s.blk k,Nat.blt 0 c.width)=(some (.nl c),none,true)):Imp pk s ((s.setb k (.buf c)).put t (.buf k 0)):=have ⟨a,H⟩:=pq H;have ⟨b,d⟩:=pq H;Imp.promote a b (Nat.le_of_ble_eq_true d)
theorem hA {f:FuncId} {fn:Func} {body:Code} {na:Nat} {en:List (Nat×AV)} {rs:AS} (E:I->AS) (j:I) (hf:P.funcs[f]? = some fn) (H:(fn.body,(fn.name == "runtime.NumGoroutine"),Nat.ble na fn.ntmps)=(some body,false,true))
  (hr:∀ cx:Ctx,PK cx []->ResTo P fn cx (E j) rs) (h:∀ cx:Ctx,cx.nt=fn.ntmps->PK cx []->awp P cx body (OQ cx (λj=>(.ret,E j)) j) (mkS en [])):Ok P f na (mkS en []) rs:=
 have ⟨a,H⟩:=pq H;have ⟨b,c⟩:=pq H;ok_oq (E j) hf a b (Nat.le_of_ble_eq_true c) (pk_nil rfl) hr λcx n p=>awp_oq (λj=>(.ret,E j)) j (h cx n p) ⟨rfl,Imp.refl⟩
theorem hB {f:FuncId} {fn:Func} {body:Code} {na:Nat} {en:List (Nat×AV)} {bl:ABlk} {rs:AS} (E:I->AS) (j:I) (hf:P.funcs[f]? = some fn) (H:(fn.body,(fn.name == "runtime.NumGoroutine"),Nat.ble na fn.ntmps)=(some body,false,true))
  (hr:∀ cx:Ctx,PK cx [0]->ResTo P fn cx (E j) rs) (h:∀ cx:Ctx,cx.nt=fn.ntmps->PK cx [0]->awp P cx body (OQ cx (λj=>(.ret,E j)) j) (mkS en [(0,bl)])):Ok P f na (mkS en [(0,bl)]) rs:=
 have ⟨a,H⟩:=pq H;have ⟨b,c⟩:=pq H;ok_oq (E j) hf a b (Nat.le_of_ble_eq_true c) (pk_zero rfl) hr λcx n p=>awp_oq (λj=>(.ret,E j)) j (h cx n p) ⟨rfl,Imp.refl⟩
theorem r1 [T:TEnv P] {fn:Func} {rs:AS} {t:Nat} {av:AV} (H:(fn.results,s.env t,({ env:=lk [(0,av)],blk:=s.blk }:AS))=(#[.tmp t],some av,rs)):∀ cx:Ctx,PK cx ks->ResTo P fn cx s rs:=λ_ _=>have ⟨a,H⟩:=pq H;have ⟨b,c⟩:=pq H;res_one T.ok a (.tmp _ _ b) (c▸Imp.refl)
section
variable {te:TE} {t1 t2 t3 t4 t5:TypeId} {x1 x2 x3 x4 x5:Operand} {v1 v2 v3 v4 v5:AV} {p1 p2 p3 p4 p5:PV} {b1 b2 b3 b4 b5:List (Nat×ABlk)}
theorem a1 (H:(s.get te t1 x1,s.rd v1)=(some v1,some (p1,b1))):Args s te [x1] [t1] [p1] (opS x1 v1++[]) (b1++[]):=have ⟨a,b⟩:=pq H;ac a b an
theorem a2 (H:(s.get te t1 x1,s.rd v1,s.get te t2 x2,s.rd v2)=(some v1,some (p1,b1),some v2,some (p2,b2))):Args s te [x1,x2] [t1,t2] [p1,p2] (opS x1 v1++(opS x2 v2++[])) (b1++(b2++[])):=have ⟨a,H⟩:=pq H;have ⟨b,H⟩:=pq H;ac a b (a1 H)
theorem a3 (H:(s.get te t1 x1,s.rd v1,s.get te t2 x2,s.rd v2,s.get te t3 x3,s.rd v3)=(some v1,some (p1,b1),some v2,some (p2,b2),some v3,some (p3,b3))):Args s te [x1,x2,x3] [t1,t2,t3] [p1,p2,p3] (opS x1 v1++(opS x2 v2++(opS x3 v3++[]))) (b1++(b2++(b3++[]))):=have ⟨a,H⟩:=pq H;have ⟨b,H⟩:=pq H;ac a b (a2 H)
theorem a4 (H:(s.get te t1 x1,s.rd v1,s.get te t2 x2,s.rd v2,s.get te t3 x3,s.rd v3,s.get te t4 x4,s.rd v4)=(some v1,some (p1,b1),some v2,some (p2,b2),some v3,some (p3,b3),some v4,some (p4,b4))):Args s te [x1,x2,x3,x4] [t1,t2,t3,t4] [p1,p2,p3,p4] (opS x1 v1++(opS x2 v2++(opS x3 v3++(opS x4 v4++[])))) (b1++(b2++(b3++(b4++[])))):=have ⟨a,H⟩:=pq H;have ⟨b,H⟩:=pq H;ac a b (a3 H)
end
end
section
variable {P:Program} {ops:Array Oper} {s:AS} {K:AS->List Mic->Prop} {A B D:Prop} {n:Nat} {ms:List Mic}
theorem RK.e (H:(K s [],wsOk n ms)=((wsOk n ms=true/\B),true)) (b:B):RK P ops [] s K:=have ⟨h,a⟩:=pq H;.nil (h▸⟨a,b⟩)
theorem RK.d (H:(K s [],wsOk n ms)=((wsOk n ms=true/\B/\D),true)) (b:B) (d:D):RK P ops [] s K:=have ⟨h,a⟩:=pq H;.nil (h▸⟨a,b,d⟩)
end
end Go.Sw
