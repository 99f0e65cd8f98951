/- what a machine does whose chosen slot has no chain -/
import Derived.Test.YtmfjfpfolbnogaaGreatDoorDZ5
import Derived.Test.YtmfjfpfolbnogaaGreatDoorDZ2
import Derived.Test.YtmfjfpfolbnogaaGreatDoorProg
import Derived.Test.YtmfjfpfolbnogaaGreatDoorDZ4
import Derived.Tactics
import Derived.Tactics2
import Derived.StillTactics
import Derived.Laws.RangeString
import Derived.Laws.RangeAny
import Derived.Laws.Runes
import Derived.Laws.Small
import Derived.Laws.Strings
import Derived.Scope
import Derived.LoopTactic
import Derived.Handy
import Derived.Laws.CopyRow
import Derived.Laws.Slices
import Derived.Laws.MathBits
import Derived.Laws.Bits128
import Derived.Room.MakeNoZero
set_option linter.all false
namespace Go.Proofs.Tryz.S
open Go Go.Sw
set_option maxRecDepth 100000
def t2:TI:=⟨1,8,[.int .i64 0],(.int .i64)⟩
theorem t2ok:TOk Tryz.prog 2 t2:=zR (by kernel_rfl) (by kernel_rfl) rfl
def t3:TI:=⟨1,8,[.int .i64 0],(.int .i64)⟩
theorem t3ok:TOk Tryz.prog 3 t3:=zR (by kernel_rfl) (by kernel_rfl) rfl
def t4:TI:=⟨1,1,[.bool false],.bool⟩
theorem t4ok:TOk Tryz.prog 4 t4:=zR (by kernel_rfl) (by kernel_rfl) rfl
def t5:TI:=⟨1,1,[.int .u8 0],(.int .u8)⟩
theorem t5ok:TOk Tryz.prog 5 t5:=zR (by kernel_rfl) (by kernel_rfl) rfl
def t6:TI:=⟨1,1,[.int .u8 0],(.int .u8)⟩
theorem t6ok:TOk Tryz.prog 6 t6:=zR (by kernel_rfl) (by kernel_rfl) rfl
def t7:TI:=⟨4,24,[.int .i64 0,.int .i64 0,.bool false,.int .u8 0],(.struct [(2,0),(3,1),(4,2),(6,3)])⟩
theorem t7ok:TOk Tryz.prog 7 t7:=zR (by kernel_rfl) (by kernel_rfl) rfl
def t8:TI:=⟨4,24,[.int .i64 0,.int .i64 0,.bool false,.int .u8 0],(.struct [(2,0),(3,1),(4,2),(6,3)])⟩
theorem t8ok:TOk Tryz.prog 8 t8:=zR (by kernel_rfl) (by kernel_rfl) rfl
def t9:TI:=⟨1,16,[.str []],.str⟩
theorem t9ok:TOk Tryz.prog 9 t9:=zR (by kernel_rfl) (by kernel_rfl) rfl
def t10:TI:=⟨1,16,[.str []],.str⟩
theorem yA4:TOk Tryz.prog 10 t10:=zR (by kernel_rfl) (by kernel_rfl) rfl
def t11:TI:=⟨1,16,[.str []],.str⟩
theorem zZ2:TOk Tryz.prog 11 t11:=zR (by kernel_rfl) (by kernel_rfl) rfl
def t12:TI:=⟨1,8,[.int .u64 0],(.int .u64)⟩
theorem yB8:TOk Tryz.prog 12 t12:=zR (by kernel_rfl) (by kernel_rfl) rfl
def t13:TI:=⟨2,24,[.str [],.int .u64 0],(.struct [(9,0),(12,1)])⟩
theorem yCb:TOk Tryz.prog 13 t13:=zR (by kernel_rfl) (by kernel_rfl) rfl
def t14:TI:=⟨2,24,[.str [],.int .u64 0],(.struct [(9,0),(12,1)])⟩
theorem yBa:TOk Tryz.prog 14 t14:=zR (by kernel_rfl) (by kernel_rfl) rfl
def t15:TI:=⟨1,8,[.nilp],(.ptr 442)⟩
theorem zZ6:TOk Tryz.prog 15 t15:=zR (by kernel_rfl) (by kernel_rfl) rfl
def t16:TI:=⟨1,8,[.nilp],(.ptr 445)⟩
theorem zZc:TOk Tryz.prog 16 t16:=zR (by kernel_rfl) (by kernel_rfl) rfl
def t17:TI:=⟨1,8,[.nilp],(.ptr 453)⟩
theorem yA3:TOk Tryz.prog 17 t17:=zR (by kernel_rfl) (by kernel_rfl) rfl
def t18:TI:=⟨1,8,[.nilp],(.struct [(17,0)])⟩
theorem yAd:TOk Tryz.prog 18 t18:=zR (by kernel_rfl) (by kernel_rfl) rfl
def t19:TI:=⟨1,8,[.nilp],(.struct [(17,0)])⟩
theorem yAw:TOk Tryz.prog 19 t19:=zR (by kernel_rfl) (by kernel_rfl) rfl
def t20:TI:=⟨1,16,[.err false],.iface⟩
theorem yA1:TOk Tryz.prog 20 t20:=zR (by kernel_rfl) (by kernel_rfl) rfl
def t21:TI:=⟨1,4,[.int .i32 0],(.int .i32)⟩
theorem zZl:TOk Tryz.prog 21 t21:=zR (by kernel_rfl) (by kernel_rfl) rfl
def t22:TI:=⟨1,24,[.bytes []],(.slice 5)⟩
theorem yDv:TOk Tryz.prog 22 t22:=zR (by kernel_rfl) (by kernel_rfl) rfl
def t25:TI:=⟨1,24,[.sl 4 []],(.slice 106)⟩
theorem yB0:TOk Tryz.prog 25 t25:=zR (by kernel_rfl) (by kernel_rfl) rfl
def t27:TI:=⟨1,24,[.sl 1 []],(.slice 22)⟩
theorem yBf:TOk Tryz.prog 27 t27:=zR (by kernel_rfl) (by kernel_rfl) rfl
def t28:TI:=⟨5,56,[.sl 1 [],.int .i64 0,.int .i64 0,.int .i64 0,.bool false],(.struct [(27,0),(3,1),(3,2),(3,3),(4,4)])⟩
theorem yA5:TOk Tryz.prog 28 t28:=zR (by kernel_rfl) (by kernel_rfl) rfl
def t29:TI:=⟨5,56,[.sl 1 [],.int .i64 0,.int .i64 0,.int .i64 0,.bool false],(.struct [(27,0),(3,1),(3,2),(3,3),(4,4)])⟩
theorem yDz:TOk Tryz.prog 29 t29:=zR (by kernel_rfl) (by kernel_rfl) rfl
def t30:TI:=⟨1,24,[.sl 1 []],(.slice 27)⟩
theorem yDs:TOk Tryz.prog 30 t30:=zR (by kernel_rfl) (by kernel_rfl) rfl
def t31:TI:=⟨2,32,[.sl 1 [],.int .i64 0],(.struct [(30,0),(3,1)])⟩
theorem yAu:TOk Tryz.prog 31 t31:=zR (by kernel_rfl) (by kernel_rfl) rfl
def t32:TI:=⟨2,32,[.sl 1 [],.int .i64 0],(.struct [(30,0),(3,1)])⟩
theorem yB7:TOk Tryz.prog 32 t32:=zR (by kernel_rfl) (by kernel_rfl) rfl
def t33:TI:=⟨1,24,[.sl 8 []],(.slice 218)⟩
theorem yC6:TOk Tryz.prog 33 t33:=zR (by kernel_rfl) (by kernel_rfl) rfl
def t34:TI:=⟨6,48,[.int .i64 0,.int .i64 0,.int .i64 0,.int .i64 0,.int .i64 0,.int .i64 0],(.struct [(3,0),(3,1),(3,2),(3,3),(3,4),(3,5)])⟩
theorem yCp:TOk Tryz.prog 34 t34:=zR (by kernel_rfl) (by kernel_rfl) rfl
def t35:TI:=⟨6,48,[.int .i64 0,.int .i64 0,.int .i64 0,.int .i64 0,.int .i64 0,.int .i64 0],(.struct [(3,0),(3,1),(3,2),(3,3),(3,4),(3,5)])⟩
theorem yC0:TOk Tryz.prog 35 t35:=zR (by kernel_rfl) (by kernel_rfl) rfl
def t36:TI:=⟨1,24,[.sl 2 []],(.slice 220)⟩
theorem yBk:TOk Tryz.prog 36 t36:=zR (by kernel_rfl) (by kernel_rfl) rfl
def t37:TI:=⟨19,248,[.sl 1 [],.sl 1 [],.bytes [],.int .i64 0,.int .i64 0,.int .i64 0,.int .i64 0,.bool false,.sl 1 [],.int .i64 0,.int .i64 0,.sl 8 [],.int .i64 0,.int .i64 0,.int .i64 0,.int .i64 0,.int .i64 0,.int .i64 0,.sl 2 []],(.struct [(27,0),(27,1),(22,2),(3,3),(3,4),(3,5),(3,6),(4,7),(32,8),(3,10),(33,11),(35,12),(36,18)])⟩
theorem zZo:TOk Tryz.prog 37 t37:=zR (by kernel_rfl) (by kernel_rfl) rfl
def t38:TI:=⟨19,248,[.sl 1 [],.sl 1 [],.bytes [],.int .i64 0,.int .i64 0,.int .i64 0,.int .i64 0,.bool false,.sl 1 [],.int .i64 0,.int .i64 0,.sl 8 [],.int .i64 0,.int .i64 0,.int .i64 0,.int .i64 0,.int .i64 0,.int .i64 0,.sl 2 []],(.struct [(27,0),(27,1),(22,2),(3,3),(3,4),(3,5),(3,6),(4,7),(32,8),(3,10),(33,11),(35,12),(36,18)])⟩
theorem yDo:TOk Tryz.prog 38 t38:=zR (by kernel_rfl) (by kernel_rfl) rfl
def t39:TI:=⟨1,24,[.sl 8 []],(.slice 283)⟩
theorem zZq:TOk Tryz.prog 39 t39:=zR (by kernel_rfl) (by kernel_rfl) rfl
def t40:TI:=⟨1,24,[.sl 9 []],(.slice 273)⟩
theorem yDm:TOk Tryz.prog 40 t40:=zR (by kernel_rfl) (by kernel_rfl) rfl
def t41:TI:=⟨1,24,[.sl 1 []],(.slice 3)⟩
theorem yBi:TOk Tryz.prog 41 t41:=zR (by kernel_rfl) (by kernel_rfl) rfl
def t42:TI:=⟨11,160,[.bool false,.bool false,.sl 1 [],.int .i64 0,.int .i64 0,.bool false,.int .i64 0,.sl 8 [],.sl 9 [],.sl 1 [],.sl 1 []],(.struct [(4,0),(4,1),(32,2),(3,4),(4,5),(3,6),(39,7),(40,8),(41,9),(41,10)])⟩
theorem yBw:TOk Tryz.prog 42 t42:=zR (by kernel_rfl) (by kernel_rfl) rfl
def t43:TI:=⟨11,160,[.bool false,.bool false,.sl 1 [],.int .i64 0,.int .i64 0,.bool false,.int .i64 0,.sl 8 [],.sl 9 [],.sl 1 [],.sl 1 []],(.struct [(4,0),(4,1),(32,2),(3,4),(4,5),(3,6),(39,7),(40,8),(41,9),(41,10)])⟩
theorem yBj:TOk Tryz.prog 43 t43:=zR (by kernel_rfl) (by kernel_rfl) rfl
def t44:TI:=⟨30,408,[.sl 1 [],.sl 1 [],.bytes [],.int .i64 0,.int .i64 0,.int .i64 0,.int .i64 0,.bool false,.sl 1 [],.int .i64 0,.int .i64 0,.sl 8 [],.int .i64 0,.int .i64 0,.int .i64 0,.int .i64 0,.int .i64 0,.int .i64 0,.sl 2 [],.bool false,.bool false,.sl 1 [],.int .i64 0,.int .i64 0,.bool false,.int .i64 0,.sl 8 [],.sl 9 [],.sl 1 [],.sl 1 []],(.struct [(38,0),(43,19)])⟩
theorem yAo:TOk Tryz.prog 44 t44:=zR (by kernel_rfl) (by kernel_rfl) rfl
def t45:TI:=⟨30,408,[.sl 1 [],.sl 1 [],.bytes [],.int .i64 0,.int .i64 0,.int .i64 0,.int .i64 0,.bool false,.sl 1 [],.int .i64 0,.int .i64 0,.sl 8 [],.int .i64 0,.int .i64 0,.int .i64 0,.int .i64 0,.int .i64 0,.int .i64 0,.sl 2 [],.bool false,.bool false,.sl 1 [],.int .i64 0,.int .i64 0,.bool false,.int .i64 0,.sl 8 [],.sl 9 [],.sl 1 [],.sl 1 []],(.struct [(38,0),(43,19)])⟩
theorem zZj:TOk Tryz.prog 45 t45:=zR (by kernel_rfl) (by kernel_rfl) rfl
def t46:TI:=⟨37,480,[.sl 1 [],.int .i64 0,.int .i64 0,.int .i64 0,.bool false,.sl 1 [],.sl 1 [],.bytes [],.int .i64 0,.int .i64 0,.int .i64 0,.int .i64 0,.bool false,.sl 1 [],.int .i64 0,.int .i64 0,.sl 8 [],.int .i64 0,.int .i64 0,.int .i64 0,.int .i64 0,.int .i64 0,.int .i64 0,.sl 2 [],.bool false,.bool false,.sl 1 [],.int .i64 0,.int .i64 0,.bool false,.int .i64 0,.sl 8 [],.sl 9 [],.sl 1 [],.sl 1 [],.bool false,.int .i64 0],(.struct [(29,0),(45,5),(4,35),(3,36)])⟩
theorem yC3:TOk Tryz.prog 46 t46:=zR (by kernel_rfl) (by kernel_rfl) rfl
def t47:TI:=⟨37,480,[.sl 1 [],.int .i64 0,.int .i64 0,.int .i64 0,.bool false,.sl 1 [],.sl 1 [],.bytes [],.int .i64 0,.int .i64 0,.int .i64 0,.int .i64 0,.bool false,.sl 1 [],.int .i64 0,.int .i64 0,.sl 8 [],.int .i64 0,.int .i64 0,.int .i64 0,.int .i64 0,.int .i64 0,.int .i64 0,.sl 2 [],.bool false,.bool false,.sl 1 [],.int .i64 0,.int .i64 0,.bool false,.int .i64 0,.sl 8 [],.sl 9 [],.sl 1 [],.sl 1 [],.bool false,.int .i64 0],(.struct [(29,0),(45,5),(4,35),(3,36)])⟩
theorem zZ3:TOk Tryz.prog 47 t47:=zR (by kernel_rfl) (by kernel_rfl) rfl
def t51:TI:=⟨1,8,[.int .i64 0],(.int .i64)⟩
theorem zZ1:TOk Tryz.prog 51 t51:=zR (by kernel_rfl) (by kernel_rfl) rfl
def t62:TI:=⟨1,24,[.sl 3 []],(.slice 168)⟩
theorem zZg:TOk Tryz.prog 62 t62:=zR (by kernel_rfl) (by kernel_rfl) rfl
def t63:TI:=⟨5,104,[.int .i64 0,.sl 1 [],.sl 3 [],.sl 1 [],.sl 1 []],(.struct [(3,0),(41,1),(62,2),(41,3),(27,4)])⟩
theorem zZa:TOk Tryz.prog 63 t63:=zR (by kernel_rfl) (by kernel_rfl) rfl
def t64:TI:=⟨5,104,[.int .i64 0,.sl 1 [],.sl 3 [],.sl 1 [],.sl 1 []],(.struct [(3,0),(41,1),(62,2),(41,3),(27,4)])⟩
theorem yA7:TOk Tryz.prog 64 t64:=zR (by kernel_rfl) (by kernel_rfl) rfl
def t67:TI:=⟨4,80,[.int .i64 0,.sl 1 [],.sl 1 [],.sl 1 []],(.struct [(51,0),(41,1),(27,2),(27,3)])⟩
theorem yDx:TOk Tryz.prog 67 t67:=zR (by kernel_rfl) (by kernel_rfl) rfl
def t68:TI:=⟨4,80,[.int .i64 0,.sl 1 [],.sl 1 [],.sl 1 []],(.struct [(51,0),(41,1),(27,2),(27,3)])⟩
theorem yAj:TOk Tryz.prog 68 t68:=zR (by kernel_rfl) (by kernel_rfl) rfl
def t90:TI:=⟨1,24,[.sl 4 []],(.slice 97)⟩
theorem yB5:TOk Tryz.prog 90 t90:=zR (by kernel_rfl) (by kernel_rfl) rfl
def t91:TI:=⟨3,40,[.int .i64 0,.int .i64 0,.sl 4 []],(.struct [(3,0),(3,1),(90,2)])⟩
theorem zYy:TOk Tryz.prog 91 t91:=zR (by kernel_rfl) (by kernel_rfl) rfl
def t92:TI:=⟨3,40,[.int .i64 0,.int .i64 0,.sl 4 []],(.struct [(3,0),(3,1),(90,2)])⟩
theorem yAe:TOk Tryz.prog 92 t92:=zR (by kernel_rfl) (by kernel_rfl) rfl
def t96:TI:=⟨4,64,[.int .i64 0,.int .i64 0,.sl 1 [],.bytes []],(.struct [(3,0),(3,1),(27,2),(22,3)])⟩
theorem zZy:TOk Tryz.prog 96 t96:=zR (by kernel_rfl) (by kernel_rfl) rfl
def t97:TI:=⟨4,64,[.int .i64 0,.int .i64 0,.sl 1 [],.bytes []],(.struct [(3,0),(3,1),(27,2),(22,3)])⟩
theorem yAx:TOk Tryz.prog 97 t97:=zR (by kernel_rfl) (by kernel_rfl) rfl
def t103:TI:=⟨1,8,[.nilp],(.ptr 162)⟩
theorem zWb:TOk Tryz.prog 103 t103:=zR (by kernel_rfl) (by kernel_rfl) rfl
def t105:TI:=⟨4,56,[.int .i64 0,.str [],.int .i64 0,.bytes []],(.struct [(3,0),(9,1),(3,2),(22,3)])⟩
theorem zX1:TOk Tryz.prog 105 t105:=zR (by kernel_rfl) (by kernel_rfl) rfl
def t106:TI:=⟨4,56,[.int .i64 0,.str [],.int .i64 0,.bytes []],(.struct [(3,0),(9,1),(3,2),(22,3)])⟩
theorem zVv:TOk Tryz.prog 106 t106:=zR (by kernel_rfl) (by kernel_rfl) rfl
def t109:TI:=⟨1,8,[.nilp],(.ptr 112)⟩
theorem zXg:TOk Tryz.prog 109 t109:=zR (by kernel_rfl) (by kernel_rfl) rfl
def t111:TI:=⟨38,504,[.sl 1 [],.int .i64 0,.int .i64 0,.int .i64 0,.bool false,.sl 1 [],.sl 1 [],.bytes [],.int .i64 0,.int .i64 0,.int .i64 0,.int .i64 0,.bool false,.sl 1 [],.int .i64 0,.int .i64 0,.sl 8 [],.int .i64 0,.int .i64 0,.int .i64 0,.int .i64 0,.int .i64 0,.int .i64 0,.sl 2 [],.bool false,.bool false,.sl 1 [],.int .i64 0,.int .i64 0,.bool false,.int .i64 0,.sl 8 [],.sl 9 [],.sl 1 [],.sl 1 [],.bool false,.int .i64 0,.sl 1 []],(.struct [(47,0),(41,37)])⟩
theorem zWo:TOk Tryz.prog 111 t111:=zR (by kernel_rfl) (by kernel_rfl) rfl
def t112:TI:=⟨38,504,[.sl 1 [],.int .i64 0,.int .i64 0,.int .i64 0,.bool false,.sl 1 [],.sl 1 [],.bytes [],.int .i64 0,.int .i64 0,.int .i64 0,.int .i64 0,.bool false,.sl 1 [],.int .i64 0,.int .i64 0,.sl 8 [],.int .i64 0,.int .i64 0,.int .i64 0,.int .i64 0,.int .i64 0,.int .i64 0,.sl 2 [],.bool false,.bool false,.sl 1 [],.int .i64 0,.int .i64 0,.bool false,.int .i64 0,.sl 8 [],.sl 9 [],.sl 1 [],.sl 1 [],.bool false,.int .i64 0,.sl 1 []],(.struct [(47,0),(41,37)])⟩
theorem zVn:TOk Tryz.prog 112 t112:=zR (by kernel_rfl) (by kernel_rfl) rfl
def t125:TI:=⟨1,8,[.nilp],(.ptr 185)⟩
theorem zWg:TOk Tryz.prog 125 t125:=zR (by kernel_rfl) (by kernel_rfl) rfl
def t127:TI:=⟨1,8,[.nilp],(.ptr 27)⟩
theorem zX9:TOk Tryz.prog 127 t127:=zR (by kernel_rfl) (by kernel_rfl) rfl
def t128:TI:=⟨1,24,[.sl 1 []],(.slice 127)⟩
theorem zYt:TOk Tryz.prog 128 t128:=zR (by kernel_rfl) (by kernel_rfl) rfl
def t148:TI:=⟨1,8,[.int .u64 0],(.int .u64)⟩
theorem zYa:TOk Tryz.prog 148 t148:=zR (by kernel_rfl) (by kernel_rfl) rfl
def t149:TI:=⟨12,96,List.replicate 12 (.int .i64 0),(.arr 12 3)⟩
theorem zYw:TOk Tryz.prog 149 t149:=zR (by kernel_rfl) (by kernel_rfl) rfl
def t161:TI:=⟨2,32,[.bytes [],.int .i64 0],(.struct [(22,0),(3,1)])⟩
theorem zYr:TOk Tryz.prog 161 t161:=zR (by kernel_rfl) (by kernel_rfl) rfl
def t162:TI:=⟨2,32,[.bytes [],.int .i64 0],(.struct [(22,0),(3,1)])⟩
theorem zW1:TOk Tryz.prog 162 t162:=zR (by kernel_rfl) (by kernel_rfl) rfl
def t163:TI:=⟨5,80,[.str [],.str [],.str [],.str [],.str []],(.arr 5 9)⟩
theorem zYm:TOk Tryz.prog 163 t163:=zR (by kernel_rfl) (by kernel_rfl) rfl
def t167:TI:=⟨3,56,[.int .i64 0,.bytes [],.bytes []],(.struct [(3,0),(22,1),(22,2)])⟩
theorem zVp:TOk Tryz.prog 167 t167:=zR (by kernel_rfl) (by kernel_rfl) rfl
def t168:TI:=⟨3,56,[.int .i64 0,.bytes [],.bytes []],(.struct [(3,0),(22,1),(22,2)])⟩
theorem zWi:TOk Tryz.prog 168 t168:=zR (by kernel_rfl) (by kernel_rfl) rfl
def t170:TI:=⟨5,120,[.sl 4 [],.sl 4 [],.sl 4 [],.sl 4 [],.sl 4 []],(.arr 5 90)⟩
theorem zYi:TOk Tryz.prog 170 t170:=zR (by kernel_rfl) (by kernel_rfl) rfl
def t178:TI:=⟨2,2,[.int .u8 0,.int .u8 0],(.arr 2 5)⟩
theorem zVi:TOk Tryz.prog 178 t178:=zR (by kernel_rfl) (by kernel_rfl) rfl
def t184:TI:=⟨3,40,[.bytes [],.int .i64 0,.int .i64 0],(.struct [(22,0),(3,1),(51,2)])⟩
theorem zYx:TOk Tryz.prog 184 t184:=zR (by kernel_rfl) (by kernel_rfl) rfl
def t185:TI:=⟨3,40,[.bytes [],.int .i64 0,.int .i64 0],(.struct [(22,0),(3,1),(51,2)])⟩
theorem zXd:TOk Tryz.prog 185 t185:=zR (by kernel_rfl) (by kernel_rfl) rfl
def t188:TI:=⟨1,8,[.int .u64 0],(.int .u64)⟩
theorem zYu:TOk Tryz.prog 188 t188:=zR (by kernel_rfl) (by kernel_rfl) rfl
def t192:TI:=⟨5,5,[.bool false,.bool false,.bool false,.bool false,.bool false],(.arr 5 4)⟩
theorem zWs:TOk Tryz.prog 192 t192:=zR (by kernel_rfl) (by kernel_rfl) rfl
def t194:TI:=⟨1,4,[.int .u32 0],(.int .u32)⟩
theorem zXa:TOk Tryz.prog 194 t194:=zR (by kernel_rfl) (by kernel_rfl) rfl
def t195:TI:=⟨5,20,[.int .u32 0,.int .u32 0,.int .u32 0,.int .u32 0,.int .u32 0],(.arr 5 194)⟩
theorem zW2:TOk Tryz.prog 195 t195:=zR (by kernel_rfl) (by kernel_rfl) rfl
def t197:TI:=⟨1,8,[.nilp],(.ptr 195)⟩
theorem zVu:TOk Tryz.prog 197 t197:=zR (by kernel_rfl) (by kernel_rfl) rfl
def t199:TI:=⟨1,24,[.sl 1 []],(.slice 194)⟩
theorem zV5:TOk Tryz.prog 199 t199:=zR (by kernel_rfl) (by kernel_rfl) rfl
def t200:TI:=⟨8,32,[.int .u32 0,.int .u32 0,.int .u32 0,.int .u32 0,.int .u32 0,.int .u32 0,.int .u32 0,.int .u32 0],(.arr 8 194)⟩
theorem zYj:TOk Tryz.prog 200 t200:=zR (by kernel_rfl) (by kernel_rfl) rfl
def t202:TI:=⟨1,8,[.nilp],(.ptr 200)⟩
theorem zXr:TOk Tryz.prog 202 t202:=zR (by kernel_rfl) (by kernel_rfl) rfl
def t217:TI:=⟨8,112,[.int .i64 0,.int .i64 0,.int .i64 0,.int .i64 0,.bytes [],.bytes [],.bool false,.bytes []],(.struct [(3,0),(3,1),(3,2),(3,3),(22,4),(22,5),(4,6),(22,7)])⟩
theorem zW3:TOk Tryz.prog 217 t217:=zR (by kernel_rfl) (by kernel_rfl) rfl
def t218:TI:=⟨8,112,[.int .i64 0,.int .i64 0,.int .i64 0,.int .i64 0,.bytes [],.bytes [],.bool false,.bytes []],(.struct [(3,0),(3,1),(3,2),(3,3),(22,4),(22,5),(4,6),(22,7)])⟩
theorem zUx:TOk Tryz.prog 218 t218:=zR (by kernel_rfl) (by kernel_rfl) rfl
def t219:TI:=⟨2,32,[.bytes [],.int .i64 0],(.struct [(22,0),(3,1)])⟩
theorem zWn:TOk Tryz.prog 219 t219:=zR (by kernel_rfl) (by kernel_rfl) rfl
def t220:TI:=⟨2,32,[.bytes [],.int .i64 0],(.struct [(22,0),(3,1)])⟩
theorem zWj:TOk Tryz.prog 220 t220:=zR (by kernel_rfl) (by kernel_rfl) rfl
def t221:TI:=⟨2,48,[.bytes [],.bytes []],(.arr 2 22)⟩
theorem zV0:TOk Tryz.prog 221 t221:=zR (by kernel_rfl) (by kernel_rfl) rfl
def t224:TI:=⟨1,8,[.nilp],(.ptr 226)⟩
theorem zXj:TOk Tryz.prog 224 t224:=zR (by kernel_rfl) (by kernel_rfl) rfl
def t225:TI:=⟨2,16,[.nilp,.int .i64 0],(.struct [(125,0),(51,1)])⟩
theorem zYc:TOk Tryz.prog 225 t225:=zR (by kernel_rfl) (by kernel_rfl) rfl
def t226:TI:=⟨2,16,[.nilp,.int .i64 0],(.struct [(125,0),(51,1)])⟩
theorem zU9:TOk Tryz.prog 226 t226:=zR (by kernel_rfl) (by kernel_rfl) rfl
def t230:TI:=⟨1,8,[.nilp],(.ptr 35)⟩
theorem zXi:TOk Tryz.prog 230 t230:=zR (by kernel_rfl) (by kernel_rfl) rfl
def t231:TI:=⟨1,8,[.nilp],(.ptr 3)⟩
theorem zWd:TOk Tryz.prog 231 t231:=zR (by kernel_rfl) (by kernel_rfl) rfl
def t232:TI:=⟨1,24,[.sl 1 []],(.slice 231)⟩
theorem zWc:TOk Tryz.prog 232 t232:=zR (by kernel_rfl) (by kernel_rfl) rfl
def t238:TI:=⟨5,40,[.int .i64 0,.int .i64 0,.int .i64 0,.int .i64 0,.int .i64 0],(.arr 5 3)⟩
theorem zU8:TOk Tryz.prog 238 t238:=zR (by kernel_rfl) (by kernel_rfl) rfl
def t242:TI:=⟨5,40,[.int .i64 0,.int .i64 0,.int .i64 0,.int .i64 0,.int .i64 0],(.struct [(3,0),(3,1),(3,2),(3,3),(3,4)])⟩
theorem zU2:TOk Tryz.prog 242 t242:=zR (by kernel_rfl) (by kernel_rfl) rfl
def t243:TI:=⟨5,40,[.int .i64 0,.int .i64 0,.int .i64 0,.int .i64 0,.int .i64 0],(.struct [(3,0),(3,1),(3,2),(3,3),(3,4)])⟩
theorem zX6:TOk Tryz.prog 243 t243:=zR (by kernel_rfl) (by kernel_rfl) rfl
def t244:TI:=⟨160,1280,List.replicate 160 (.int .i64 0),(.arr 32 243)⟩
theorem zV1:TOk Tryz.prog 244 t244:=zR (by kernel_rfl) (by kernel_rfl) rfl
def t254:TI:=⟨80,320,List.replicate 80 (.int .u32 0),(.arr 80 194)⟩
theorem zYo:TOk Tryz.prog 254 t254:=zR (by kernel_rfl) (by kernel_rfl) rfl
def t257:TI:=⟨64,256,List.replicate 64 (.int .u32 0),(.arr 64 194)⟩
theorem zXx:TOk Tryz.prog 257 t257:=zR (by kernel_rfl) (by kernel_rfl) rfl
def t265:TI:=⟨6,96,[.str [],.str [],.str [],.str [],.str [],.str []],(.arr 6 9)⟩
theorem zWf:TOk Tryz.prog 265 t265:=zR (by kernel_rfl) (by kernel_rfl) rfl
def t268:TI:=⟨5,72,[.int .i64 0,.int .i64 0,.int .i64 0,.bytes [],.bytes []],(.struct [(3,0),(3,1),(3,2),(22,3),(22,4)])⟩
theorem zU3:TOk Tryz.prog 268 t268:=zR (by kernel_rfl) (by kernel_rfl) rfl
def t269:TI:=⟨5,72,[.int .i64 0,.int .i64 0,.int .i64 0,.bytes [],.bytes []],(.struct [(3,0),(3,1),(3,2),(22,3),(22,4)])⟩
theorem zWu:TOk Tryz.prog 269 t269:=zR (by kernel_rfl) (by kernel_rfl) rfl
def t270:TI:=⟨3,72,[.bytes [],.bytes [],.bytes []],(.struct [(22,0),(22,1),(22,2)])⟩
theorem zVe:TOk Tryz.prog 270 t270:=zR (by kernel_rfl) (by kernel_rfl) rfl
def t271:TI:=⟨3,72,[.bytes [],.bytes [],.bytes []],(.struct [(22,0),(22,1),(22,2)])⟩
theorem zXu:TOk Tryz.prog 271 t271:=zR (by kernel_rfl) (by kernel_rfl) rfl
def t272:TI:=⟨9,152,[.int .i64 0,.int .i64 0,.int .i64 0,.bytes [],.bytes [],.bytes [],.bytes [],.bytes [],.int .i64 0],(.struct [(269,0),(271,5),(3,8)])⟩
theorem zVj:TOk Tryz.prog 272 t272:=zR (by kernel_rfl) (by kernel_rfl) rfl
def t273:TI:=⟨9,152,[.int .i64 0,.int .i64 0,.int .i64 0,.bytes [],.bytes [],.bytes [],.bytes [],.bytes [],.int .i64 0],(.struct [(269,0),(271,5),(3,8)])⟩
theorem zWe:TOk Tryz.prog 273 t273:=zR (by kernel_rfl) (by kernel_rfl) rfl
def t282:TI:=⟨8,96,[.int .i64 0,.bytes [],.bytes [],.int .i64 0,.int .i64 0,.int .i64 0,.int .i64 0,.bool false],(.struct [(3,0),(22,1),(22,2),(3,3),(3,4),(3,5),(3,6),(4,7)])⟩
theorem zYk:TOk Tryz.prog 282 t282:=zR (by kernel_rfl) (by kernel_rfl) rfl
def t283:TI:=⟨8,96,[.int .i64 0,.bytes [],.bytes [],.int .i64 0,.int .i64 0,.int .i64 0,.int .i64 0,.bool false],(.struct [(3,0),(22,1),(22,2),(3,3),(3,4),(3,5),(3,6),(4,7)])⟩
theorem zW5:TOk Tryz.prog 283 t283:=zR (by kernel_rfl) (by kernel_rfl) rfl
def t286:TI:=⟨39,576,[.sl 1 [],.sl 1 [],.bytes [],.int .i64 0,.int .i64 0,.int .i64 0,.int .i64 0,.bool false,.sl 1 [],.int .i64 0,.int .i64 0,.sl 8 [],.int .i64 0,.int .i64 0,.int .i64 0,.int .i64 0,.int .i64 0,.int .i64 0,.sl 2 [],.bool false,.bool false,.sl 1 [],.int .i64 0,.int .i64 0,.bool false,.int .i64 0,.sl 8 [],.sl 9 [],.sl 1 [],.sl 1 [],.int .i64 0,.sl 1 [],.sl 3 [],.sl 1 [],.sl 1 [],.int .i64 0,.bytes [],.bytes [],.int .i64 0],(.struct [(45,0),(64,30),(168,35),(3,38)])⟩
theorem zX7:TOk Tryz.prog 286 t286:=zR (by kernel_rfl) (by kernel_rfl) rfl
def t287:TI:=⟨39,576,[.sl 1 [],.sl 1 [],.bytes [],.int .i64 0,.int .i64 0,.int .i64 0,.int .i64 0,.bool false,.sl 1 [],.int .i64 0,.int .i64 0,.sl 8 [],.int .i64 0,.int .i64 0,.int .i64 0,.int .i64 0,.int .i64 0,.int .i64 0,.sl 2 [],.bool false,.bool false,.sl 1 [],.int .i64 0,.int .i64 0,.bool false,.int .i64 0,.sl 8 [],.sl 9 [],.sl 1 [],.sl 1 [],.int .i64 0,.sl 1 [],.sl 3 [],.sl 1 [],.sl 1 [],.int .i64 0,.bytes [],.bytes [],.int .i64 0],(.struct [(45,0),(64,30),(168,35),(3,38)])⟩
theorem zYb:TOk Tryz.prog 287 t287:=zR (by kernel_rfl) (by kernel_rfl) rfl
def t296:TI:=⟨4,80,[.bytes [],.bytes [],.bytes [],.bool false],(.struct [(22,0),(22,1),(22,2),(4,3)])⟩
theorem zV7:TOk Tryz.prog 296 t296:=zR (by kernel_rfl) (by kernel_rfl) rfl
def t297:TI:=⟨4,80,[.bytes [],.bytes [],.bytes [],.bool false],(.struct [(22,0),(22,1),(22,2),(4,3)])⟩
theorem zWw:TOk Tryz.prog 297 t297:=zR (by kernel_rfl) (by kernel_rfl) rfl
def t306:TI:=⟨2,16,[.int .i64 0,.int .i64 0],(.arr 2 3)⟩
theorem zXy:TOk Tryz.prog 306 t306:=zR (by kernel_rfl) (by kernel_rfl) rfl
def t307:TI:=⟨2,16,[.int .i64 0,.int .i64 0],(.arr 2 3)⟩
theorem zVa:TOk Tryz.prog 307 t307:=zR (by kernel_rfl) (by kernel_rfl) rfl
def t308:TI:=⟨10,160,[.int .i64 0,.int .i64 0,.int .i64 0,.bytes [],.int .i64 0,.int .i64 0,.bytes [],.bytes [],.bytes [],.sl 1 []],(.struct [(3,0),(307,1),(22,3),(3,4),(3,5),(22,6),(22,7),(22,8),(27,9)])⟩
theorem zVb:TOk Tryz.prog 308 t308:=zR (by kernel_rfl) (by kernel_rfl) rfl
def t309:TI:=⟨10,160,[.int .i64 0,.int .i64 0,.int .i64 0,.bytes [],.int .i64 0,.int .i64 0,.bytes [],.bytes [],.bytes [],.sl 1 []],(.struct [(3,0),(307,1),(22,3),(3,4),(3,5),(22,6),(22,7),(22,8),(27,9)])⟩
theorem zVm:TOk Tryz.prog 309 t309:=zR (by kernel_rfl) (by kernel_rfl) rfl
def t312:TI:=⟨1,8,[.nilp],(.ptr 22)⟩
theorem zX5:TOk Tryz.prog 312 t312:=zR (by kernel_rfl) (by kernel_rfl) rfl
def t313:TI:=⟨1,24,[.sl 1 []],(.slice 312)⟩
theorem zVo:TOk Tryz.prog 313 t313:=zR (by kernel_rfl) (by kernel_rfl) rfl
def t341:TI:=⟨10,128,[.bytes [],.bytes [],.int .i64 0,.int .i64 0,.int .i64 0,.bool false,.int .i64 0,.int .i64 0,.int .i64 0,.bytes []],(.struct [(22,0),(22,1),(3,2),(3,3),(3,4),(4,5),(3,6),(307,7),(22,9)])⟩
theorem zX2:TOk Tryz.prog 341 t341:=zR (by kernel_rfl) (by kernel_rfl) rfl
def t342:TI:=⟨10,128,[.bytes [],.bytes [],.int .i64 0,.int .i64 0,.int .i64 0,.bool false,.int .i64 0,.int .i64 0,.int .i64 0,.bytes []],(.struct [(22,0),(22,1),(3,2),(3,3),(3,4),(4,5),(3,6),(307,7),(22,9)])⟩
theorem zUy:TOk Tryz.prog 342 t342:=zR (by kernel_rfl) (by kernel_rfl) rfl
def t364:TI:=⟨24,24,List.replicate 24 (.int .u8 0),(.arr 24 5)⟩
theorem zVh:TOk Tryz.prog 364 t364:=zR (by kernel_rfl) (by kernel_rfl) rfl
def t397:TI:=⟨20,160,List.replicate 20 (.int .u64 0),(.arr 20 188)⟩
theorem zWm:TOk Tryz.prog 397 t397:=zR (by kernel_rfl) (by kernel_rfl) rfl
def t398:TI:=⟨65,65,List.replicate 65 (.int .u8 0),(.arr 65 5)⟩
theorem zXb:TOk Tryz.prog 398 t398:=zR (by kernel_rfl) (by kernel_rfl) rfl
def t421:TI:=⟨32,32,List.replicate 32 (.int .u8 0),(.arr 32 5)⟩
theorem zV4:TOk Tryz.prog 421 t421:=zR (by kernel_rfl) (by kernel_rfl) rfl
def t422:TI:=⟨64,64,List.replicate 64 (.int .u8 0),(.arr 64 5)⟩
theorem zWt:TOk Tryz.prog 422 t422:=zR (by kernel_rfl) (by kernel_rfl) rfl
def t426:TI:=⟨256,256,List.replicate 256 (.bool false),(.arr 256 4)⟩
theorem zVr:TOk Tryz.prog 426 t426:=zR (by kernel_rfl) (by kernel_rfl) rfl
def t427:TI:=⟨256,256,List.replicate 256 (.bool false),(.arr 256 4)⟩
theorem zYf:TOk Tryz.prog 427 t427:=zR (by kernel_rfl) (by kernel_rfl) rfl
def t431:TI:=⟨1,8,[.nilp],(.ptr 427)⟩
theorem zX0:TOk Tryz.prog 431 t431:=zR (by kernel_rfl) (by kernel_rfl) rfl
def t436:TI:=⟨256,256,List.replicate 256 (.int .u8 0),(.arr 256 5)⟩
theorem zVg:TOk Tryz.prog 436 t436:=zR (by kernel_rfl) (by kernel_rfl) rfl
def t437:TI:=⟨2,2,[.int .u8 0,.int .u8 0],(.struct [(5,0),(5,1)])⟩
theorem zWv:TOk Tryz.prog 437 t437:=zR (by kernel_rfl) (by kernel_rfl) rfl
def t438:TI:=⟨2,2,[.int .u8 0,.int .u8 0],(.struct [(5,0),(5,1)])⟩
theorem zUz:TOk Tryz.prog 438 t438:=zR (by kernel_rfl) (by kernel_rfl) rfl
def t439:TI:=⟨32,32,List.replicate 32 (.int .u8 0),(.arr 16 438)⟩
theorem zVz:TOk Tryz.prog 439 t439:=zR (by kernel_rfl) (by kernel_rfl) rfl
def t441:TI:=⟨4,40,[.nilp,.nilp,.nilp,.str []],(.struct [(17,0),(17,1),(17,2),(9,3)])⟩
theorem zXf:TOk Tryz.prog 441 t441:=zR (by kernel_rfl) (by kernel_rfl) rfl
def t442:TI:=⟨4,40,[.nilp,.nilp,.nilp,.str []],(.struct [(17,0),(17,1),(17,2),(9,3)])⟩
theorem zU0:TOk Tryz.prog 442 t442:=zR (by kernel_rfl) (by kernel_rfl) rfl
def t443:TI:=⟨0,0,[],(.arr 0 16)⟩
theorem zWk:TOk Tryz.prog 443 t443:=zR (by kernel_rfl) (by kernel_rfl) rfl
def t444:TI:=⟨0,0,[],(.struct [(443,0)])⟩
theorem zWy:TOk Tryz.prog 444 t444:=zR (by kernel_rfl) (by kernel_rfl) rfl
def t445:TI:=⟨0,0,[],(.struct [(443,0)])⟩
theorem zVk:TOk Tryz.prog 445 t445:=zR (by kernel_rfl) (by kernel_rfl) rfl
def t446:TI:=⟨1,1,[.int .u8 0],(.int .u8)⟩
theorem zU7:TOk Tryz.prog 446 t446:=zR (by kernel_rfl) (by kernel_rfl) rfl
def t447:TI:=⟨1,1,[.int .u8 0],(.int .u8)⟩
theorem zYd:TOk Tryz.prog 447 t447:=zR (by kernel_rfl) (by kernel_rfl) rfl
def t449:TI:=⟨1,8,[.nilp],(.ptr 5)⟩
theorem zXn:TOk Tryz.prog 449 t449:=zR (by kernel_rfl) (by kernel_rfl) rfl
def t450:TI:=⟨1,4,[.int .i32 0],(.int .i32)⟩
theorem zVt:TOk Tryz.prog 450 t450:=zR (by kernel_rfl) (by kernel_rfl) rfl
def t451:TI:=⟨1,4,[.int .i32 0],(.int .i32)⟩
theorem zXq:TOk Tryz.prog 451 t451:=zR (by kernel_rfl) (by kernel_rfl) rfl
def tr:Tr:=(.node 178 t178 (.node 40 t40 (.node 19 t19 (.node 10 t10 (.node 6 t6 (.node 4 t4 (.node 3 t3 (.node 2 t2 .leaf .leaf) .leaf) (.node 5 t5 .leaf .leaf)) (.node 8 t8 (.node 7 t7 .leaf .leaf) (.node 9 t9 .leaf .leaf))) (.node 15 t15 (.node 13 t13 (.node 12 t12 (.node 11 t11 .leaf .leaf) .leaf) (.node 14 t14 .leaf .leaf)) (.node 17 t17 (.node 16 t16 .leaf .leaf) (.node 18 t18 .leaf .leaf)))) (.node 31 t31 (.node 27 t27 (.node 22 t22 (.node 21 t21 (.node 20 t20 .leaf .leaf) .leaf) (.node 25 t25 .leaf .leaf)) (.node 29 t29 (.node 28 t28 .leaf .leaf) (.node 30 t30 .leaf .leaf))) (.node 36 t36 (.node 34 t34 (.node 33 t33 (.node 32 t32 .leaf .leaf) .leaf) (.node 35 t35 .leaf .leaf)) (.node 38 t38 (.node 37 t37 .leaf .leaf) (.node 39 t39 .leaf .leaf))))) (.node 97 t97 (.node 62 t62 (.node 45 t45 (.node 43 t43 (.node 42 t42 (.node 41 t41 .leaf .leaf) .leaf) (.node 44 t44 .leaf .leaf)) (.node 47 t47 (.node 46 t46 .leaf .leaf) (.node 51 t51 .leaf .leaf))) (.node 90 t90 (.node 67 t67 (.node 64 t64 (.node 63 t63 .leaf .leaf) .leaf) (.node 68 t68 .leaf .leaf)) (.node 92 t92 (.node 91 t91 .leaf .leaf) (.node 96 t96 .leaf .leaf)))) (.node 128 t128 (.node 111 t111 (.node 106 t106 (.node 105 t105 (.node 103 t103 .leaf .leaf) .leaf) (.node 109 t109 .leaf .leaf)) (.node 125 t125 (.node 112 t112 .leaf .leaf) (.node 127 t127 .leaf .leaf))) (.node 163 t163 (.node 161 t161 (.node 149 t149 (.node 148 t148 .leaf .leaf) .leaf) (.node 162 t162 .leaf .leaf)) (.node 168 t168 (.node 167 t167 .leaf .leaf) (.node 170 t170 .leaf .leaf)))))) (.node 283 t283 (.node 226 t226 (.node 200 t200 (.node 194 t194 (.node 188 t188 (.node 185 t185 (.node 184 t184 .leaf .leaf) .leaf) (.node 192 t192 .leaf .leaf)) (.node 197 t197 (.node 195 t195 .leaf .leaf) (.node 199 t199 .leaf .leaf))) (.node 220 t220 (.node 218 t218 (.node 217 t217 (.node 202 t202 .leaf .leaf) .leaf) (.node 219 t219 .leaf .leaf)) (.node 224 t224 (.node 221 t221 .leaf .leaf) (.node 225 t225 .leaf .leaf)))) (.node 257 t257 (.node 242 t242 (.node 232 t232 (.node 231 t231 (.node 230 t230 .leaf .leaf) .leaf) (.node 238 t238 .leaf .leaf)) (.node 244 t244 (.node 243 t243 .leaf .leaf) (.node 254 t254 .leaf .leaf))) (.node 271 t271 (.node 269 t269 (.node 268 t268 (.node 265 t265 .leaf .leaf) .leaf) (.node 270 t270 .leaf .leaf)) (.node 273 t273 (.node 272 t272 .leaf .leaf) (.node 282 t282 .leaf .leaf))))) (.node 426 t426 (.node 312 t312 (.node 306 t306 (.node 296 t296 (.node 287 t287 (.node 286 t286 .leaf .leaf) .leaf) (.node 297 t297 .leaf .leaf)) (.node 308 t308 (.node 307 t307 .leaf .leaf) (.node 309 t309 .leaf .leaf))) (.node 397 t397 (.node 342 t342 (.node 341 t341 (.node 313 t313 .leaf .leaf) .leaf) (.node 364 t364 .leaf .leaf)) (.node 421 t421 (.node 398 t398 .leaf .leaf) (.node 422 t422 .leaf .leaf)))) (.node 443 t443 (.node 438 t438 (.node 436 t436 (.node 431 t431 (.node 427 t427 .leaf .leaf) .leaf) (.node 437 t437 .leaf .leaf)) (.node 441 t441 (.node 439 t439 .leaf .leaf) (.node 442 t442 .leaf .leaf))) (.node 447 t447 (.node 445 t445 (.node 444 t444 .leaf .leaf) (.node 446 t446 .leaf .leaf)) (.node 450 t450 (.node 449 t449 .leaf .leaf) (.node 451 t451 .leaf .leaf)))))))
def te:TE:=tr.get
theorem wM:yN Tryz.prog te:=Tr.ok tr ⟨zVi,⟨yDm,⟨yAw,⟨yA4,⟨t6ok,⟨t4ok,⟨t3ok,⟨t2ok,trivial,trivial⟩,trivial⟩,⟨t5ok,trivial,trivial⟩⟩,⟨t8ok,⟨t7ok,trivial,trivial⟩,⟨t9ok,trivial,trivial⟩⟩⟩,⟨zZ6,⟨yCb,⟨yB8,⟨zZ2,trivial,trivial⟩,trivial⟩,⟨yBa,trivial,trivial⟩⟩,⟨yA3,⟨zZc,trivial,trivial⟩,⟨yAd,trivial,trivial⟩⟩⟩⟩,⟨yAu,⟨yBf,⟨yDv,⟨zZl,⟨yA1,trivial,trivial⟩,trivial⟩,⟨yB0,trivial,trivial⟩⟩,⟨yDz,⟨yA5,trivial,trivial⟩,⟨yDs,trivial,trivial⟩⟩⟩,⟨yBk,⟨yCp,⟨yC6,⟨yB7,trivial,trivial⟩,trivial⟩,⟨yC0,trivial,trivial⟩⟩,⟨yDo,⟨zZo,trivial,trivial⟩,⟨zZq,trivial,trivial⟩⟩⟩⟩⟩,⟨yAx,⟨zZg,⟨zZj,⟨yBj,⟨yBw,⟨yBi,trivial,trivial⟩,trivial⟩,⟨yAo,trivial,trivial⟩⟩,⟨zZ3,⟨yC3,trivial,trivial⟩,⟨zZ1,trivial,trivial⟩⟩⟩,⟨yB5,⟨yDx,⟨yA7,⟨zZa,trivial,trivial⟩,trivial⟩,⟨yAj,trivial,trivial⟩⟩,⟨yAe,⟨zYy,trivial,trivial⟩,⟨zZy,trivial,trivial⟩⟩⟩⟩,⟨zYt,⟨zWo,⟨zVv,⟨zX1,⟨zWb,trivial,trivial⟩,trivial⟩,⟨zXg,trivial,trivial⟩⟩,⟨zWg,⟨zVn,trivial,trivial⟩,⟨zX9,trivial,trivial⟩⟩⟩,⟨zYm,⟨zYr,⟨zYw,⟨zYa,trivial,trivial⟩,trivial⟩,⟨zW1,trivial,trivial⟩⟩,⟨zWi,⟨zVp,trivial,trivial⟩,⟨zYi,trivial,trivial⟩⟩⟩⟩⟩⟩,⟨zW5,⟨zU9,⟨zYj,⟨zXa,⟨zYu,⟨zXd,⟨zYx,trivial,trivial⟩,trivial⟩,⟨zWs,trivial,trivial⟩⟩,⟨zVu,⟨zW2,trivial,trivial⟩,⟨zV5,trivial,trivial⟩⟩⟩,⟨zWj,⟨zUx,⟨zW3,⟨zXr,trivial,trivial⟩,trivial⟩,⟨zWn,trivial,trivial⟩⟩,⟨zXj,⟨zV0,trivial,trivial⟩,⟨zYc,trivial,trivial⟩⟩⟩⟩,⟨zXx,⟨zU2,⟨zWc,⟨zWd,⟨zXi,trivial,trivial⟩,trivial⟩,⟨zU8,trivial,trivial⟩⟩,⟨zV1,⟨zX6,trivial,trivial⟩,⟨zYo,trivial,trivial⟩⟩⟩,⟨zXu,⟨zWu,⟨zU3,⟨zWf,trivial,trivial⟩,trivial⟩,⟨zVe,trivial,trivial⟩⟩,⟨zWe,⟨zVj,trivial,trivial⟩,⟨zYk,trivial,trivial⟩⟩⟩⟩⟩,⟨zVr,⟨zX5,⟨zXy,⟨zV7,⟨zYb,⟨zX7,trivial,trivial⟩,trivial⟩,⟨zWw,trivial,trivial⟩⟩,⟨zVb,⟨zVa,trivial,trivial⟩,⟨zVm,trivial,trivial⟩⟩⟩,⟨zWm,⟨zUy,⟨zX2,⟨zVo,trivial,trivial⟩,trivial⟩,⟨zVh,trivial,trivial⟩⟩,⟨zV4,⟨zXb,trivial,trivial⟩,⟨zWt,trivial,trivial⟩⟩⟩⟩,⟨zWk,⟨zUz,⟨zVg,⟨zX0,⟨zYf,trivial,trivial⟩,trivial⟩,⟨zWv,trivial,trivial⟩⟩,⟨zXf,⟨zVz,trivial,trivial⟩,⟨zU0,trivial,trivial⟩⟩⟩,⟨zYd,⟨zVk,⟨zWy,trivial,trivial⟩,⟨zU7,trivial,trivial⟩⟩,⟨zVt,⟨zXn,trivial,trivial⟩,⟨zXq,trivial,trivial⟩⟩⟩⟩⟩⟩⟩
end Go.Proofs.Tryz.S
namespace Go.Proofs.H
open Go Go.Proofs
def nameByte (c:UInt8):Bool:=(decide (97<=c.toNat)&&decide (c.toNat<=122))||(decide (48<=c.toNat)&&decide (c.toNat<=57))||decide (c.toNat=45)
def nameAll (s:ByteArray) (pos:Nat):Bool:=(s.data.toList.drop pos).all nameByte
theorem nb_len {n:Nat} {x:Bool} (h:¬ (1<=n/\n<=12)):(decide (1<=n)&&decide (n<=12)&&x)=false:=by
 by_cases h1:1<=n
 ·have:¬ n<=12:=λh2=>h ⟨h1,h2⟩
  simp [this]
 ·simp [h1]
theorem nb_in {n:Nat} {x:Bool} (h:1<=n/\n<=12):(decide (1<=n)&&decide (n<=12)&&x)=x:=by simp [h.1,h.2]
theorem nameAll_step {s:ByteArray} {pos:Nat} (hp:pos<s.size):nameAll s pos=(nameByte (s[pos]'hp)&&nameAll s (pos+1)):=by
 unfold nameAll
 rw [List.drop_eq_getElem_cons (by simpa using hp)]
 simp only [List.all_cons]
 rfl
theorem name_facts (s:ByteArray) (pos:Nat) (hp:pos<s.size) {rn:Nat×Nat} (hd:Utf8.decode s pos=rn) :
  (rn.1<128->rn.2=1/\nameAll s pos=((decide (97<=rn.1)&&decide (rn.1<=122)||decide (48<=rn.1)&&decide (rn.1<=57)||decide (rn.1=45))&&nameAll s (pos+1)))/\(128<=rn.1->nameAll s pos=false):=by
 rw [nameAll_step hp]
 by_cases ha:(s[pos]'hp).toNat<128
 ·rw [decode_ascii s pos hp ha] at hd
  subst hd
  exact ⟨λ_=>⟨rfl,rfl⟩,λh=>by simp only at h;omega⟩
 ·have h2:=decode_high s pos hp (by omega)
  rw [hd] at h2
  refine ⟨λh=>by omega,λ_=>?_⟩
  have:nameByte (s[pos]'hp)=false:=by
   unfold nameByte
   simp only [Bool.or_eq_false_iff,Bool.and_eq_false_iff,decide_eq_false_iff_not]
   omega
  simp [this]
theorem name_no (s:ByteArray) (pos:Nat) (hp:pos<s.size) {rn:Nat×Nat} (hd:Utf8.decode s pos=rn) (h1:rn.1<97∨122<rn.1) (h2:rn.1<48∨57<rn.1) (h3:rn.1≠45):nameAll s pos=false:=by
 obtain ⟨f1,f2⟩:=name_facts s pos hp hd
 by_cases h:rn.1<128
 ·rw [(f1 h).2]
  have:(decide (97<=rn.1)&&decide (rn.1<=122)||decide (48<=rn.1)&&decide (rn.1<=57)||decide (rn.1=45))=false:=by
   simp only [Bool.or_eq_false_iff,Bool.and_eq_false_iff,decide_eq_false_iff_not]
   omega
  simp [this]
 ·exact f2 (by omega)
theorem name_yes (s:ByteArray) (pos:Nat) (hp:pos<s.size) {rn:Nat×Nat} (hd:Utf8.decode s pos=rn) (h1:(97<=rn.1/\rn.1<=122)∨(48<=rn.1/\rn.1<=57)∨rn.1=45):rn.2=1/\nameAll s pos=nameAll s (pos+1):=by
 obtain ⟨f1,_⟩:=name_facts s pos hp hd
 obtain ⟨f2,f3⟩:=f1 (by omega)
 refine ⟨f2,?_⟩
 rw [f3]
 have:(decide (97<=rn.1)&&decide (rn.1<=122)||decide (48<=rn.1)&&decide (rn.1<=57)||decide (rn.1=45))=true:=by
  simp only [Bool.or_eq_true,Bool.and_eq_true,decide_eq_true_eq]
  omega
 simp [this]
set_option maxRecDepth 1000000 in
set_option maxHeartbeats 4000000 in
theorem walk_named (s:ByteArray) (w:World) :
  Calls Tryz.prog 187 #[.string s] w λe w'=>e=.returned (.bool (decide (1<=s.size)&&decide (s.size<=12)&&nameAll s 0))/\(w'=w∨∃ pos,w'=w.iter s pos):=by
 go_enter Tryz.func187,Tryz.ntmps187
 go_wp2
 ·rename_i h1 h2
  go_ret
  refine ⟨?_,.inl rfl⟩
  rw [nb_len (by omega)]
  rfl
 ·rename_i h1 h2
  go_loopw [] (λw'=>∃ (pos:Nat),w'=w.iter s pos/\pos<=s.size/\nameAll s pos=nameAll s 0) (λw'=>s.size - w'.iterPos w.heap.size)
  case atStart=>exact ⟨0,rfl,by omega,rfl⟩
  case round=>
   obtain ⟨pos,rfl,hb,hc⟩:=hrel
   by_cases hp:pos<s.size
   ·have hnx:∀ ty,(Instr.next (.pointer (some ⟨w.heap.size,0,none⟩)) true ty).run Tryz.prog (w.iter s pos)=_:=λty=>run_next_any w s pos ty hp
    generalize hd:Utf8.decode s pos=rn at hnx
    go_wp2
    ·go_ret
     refine ⟨?_,.inr ⟨_,rfl⟩⟩
     rw [nb_in (by omega),<- hc]
     try simp only [bne_iff_ne,ne_eq] at *
     rw [name_no s pos hp hd (by omega) (by omega) (by omega)]
     rfl
    ·have hy:(97<=rn.1/\rn.1<=122)∨(48<=rn.1/\rn.1<=57)∨rn.1=45:=by
      try simp only [bne_eq_false_iff_eq] at *
      omega
     obtain ⟨y1,y2⟩:=name_yes s pos hp hd hy
     refine ⟨⟨pos+rn.snd,rfl,by omega,?_⟩,?_⟩
     ·rw [y1,<- y2];exact hc
     ·simp
      omega
    ·have hy:(97<=rn.1/\rn.1<=122)∨(48<=rn.1/\rn.1<=57)∨rn.1=45:=by
      try simp only [bne_eq_false_iff_eq] at *
      omega
     obtain ⟨y1,y2⟩:=name_yes s pos hp hd hy
     refine ⟨⟨pos+rn.snd,rfl,by omega,?_⟩,?_⟩
     ·rw [y1,<- y2];exact hc
     ·simp
      omega
    ·go_ret
     refine ⟨?_,.inr ⟨_,rfl⟩⟩
     rw [nb_in (by omega),<- hc]
     try simp only [bne_iff_ne,ne_eq] at *
     rw [name_no s pos hp hd (by omega) (by omega) (by omega)]
     rfl
    ·have hy:(97<=rn.1/\rn.1<=122)∨(48<=rn.1/\rn.1<=57)∨rn.1=45:=by
      try simp only [bne_eq_false_iff_eq] at *
      omega
     obtain ⟨y1,y2⟩:=name_yes s pos hp hd hy
     refine ⟨⟨pos+rn.snd,rfl,by omega,?_⟩,?_⟩
     ·rw [y1,<- y2];exact hc
     ·simp
      omega
    ·have hy:(97<=rn.1/\rn.1<=122)∨(48<=rn.1/\rn.1<=57)∨rn.1=45:=by
      try simp only [bne_eq_false_iff_eq] at *
      omega
     obtain ⟨y1,y2⟩:=name_yes s pos hp hd hy
     refine ⟨⟨pos+rn.snd,rfl,by omega,?_⟩,?_⟩
     ·rw [y1,<- y2];exact hc
     ·simp
      omega
    ·go_ret
     refine ⟨?_,.inr ⟨_,rfl⟩⟩
     rw [nb_in (by omega),<- hc]
     try simp only [bne_iff_ne,ne_eq] at *
     rw [name_no s pos hp hd (by omega) (by omega) (by omega)]
     rfl
    ·have hy:(97<=rn.1/\rn.1<=122)∨(48<=rn.1/\rn.1<=57)∨rn.1=45:=by
      try simp only [bne_eq_false_iff_eq] at *
      omega
     obtain ⟨y1,y2⟩:=name_yes s pos hp hd hy
     refine ⟨⟨pos+rn.snd,rfl,by omega,?_⟩,?_⟩
     ·rw [y1,<- y2];exact hc
     ·simp
      omega
   ·have hnx:∀ ty,(Instr.next (.pointer (some ⟨w.heap.size,0,none⟩)) true ty).run Tryz.prog (w.iter s pos)=_:=λty=>run_next_end w s pos ty hp
    go_wp2
    go_ret
    refine ⟨?_,.inr ⟨_,rfl⟩⟩
    rw [nb_in (by omega),<- hc]
    have:nameAll s pos=true:=by
     unfold nameAll
     rw [List.drop_eq_nil_of_le (by simp;omega)]
     rfl
    rw [this]
    rfl
 ·rename_i h1
  go_ret
  refine ⟨?_,.inl rfl⟩
  rw [nb_len (by omega)]
  rfl
open Go Go.Proofs Go.RowKit
theorem u22:Tryz.prog.underlying 22=some (.slice 5):=by kernel_rfl
theorem i5:(Tryz.prog.info? 5).map (·.size)=some 1:=by kernel_rfl
theorem run_mnz (w:World) (n:Nat) (hn:n<=64):∃ cs:Array Value,(callFunc 307 #[.int .i64 n]).run Tryz.prog w=.ok (.value (.slice (some ⟨w.heap.size,0,none⟩) n cs.size)) (w.drew.drew.alloc (.cells cs 5))/\n<=cs.size:=by
 obtain ⟨cs,h1,h2,h3,h4⟩:=Lib.run_makeNoZero_cap (P:=Tryz.prog) w #[3] 22 5 u22 n (by omega)
 refine ⟨cs,?_,h2⟩
 have:=run_callFunc_extern (P:=Tryz.prog) Tryz.func307 (by kernel_rfl) (by kernel_rfl) (by kernel_rfl) (e:=Extern.BytealgMakeNoZero.makeNoZero #[3] #[22]) (by kernel_rfl) #[.int .i64 n] w
 rw [h1] at this
 exact this
def dr (d:Nat) (w:World):World:={ w with drawn:=d }
set_option maxRecDepth 1000000 in
set_option maxHeartbeats 4000000 in
theorem walk_rep32 (b o c:Nat) (x:UInt8) (w:World) (hc:w.cell? ⟨b,o,none⟩=some (.int .u8 x.toNat)) :
  Calls Tryz.prog 244 #[.slice (some ⟨b,o,none⟩) 1 c,.int .i64 32] w λe w'=>e=.returned (.slice (some ⟨w.heap.size,0,none⟩) 32 32)/\∃ cs d cur,w'=(dr d (w.alloc (.cells cs 5))).setRow w.heap.size cur/\∀ j,j<32->cur[j]? = some (.int .u8 x.toNat):=by
 obtain ⟨cs,hm,hcs⟩:=run_mnz w 32 (by omega)
 have hm':(callFunc 307 #[.int .i64 32]).run Tryz.prog w=.ok (.value (.slice (some ⟨w.heap.size,0,none⟩) 32 cs.size)) (w.drew.drew.alloc (.cells cs 5)):=hm
 have hblt:b<w.heap.size:=World.block_lt_of_cell? w _ hc
 have hg2:(w.alloc (.cells cs 5)).drew.drew.heap[w.heap.size]? = some (.cells cs 5 (0,0)):=heap_alloc_new w _
 have hc2:(w.alloc (.cells cs 5)).drew.drew.cell? ⟨b,o,none⟩=some (.int .u8 x.toNat):=by
  have:=World.cell?_alloc_lt w (.cells cs 5) ⟨b,o,none⟩ hblt
  rw [<- hc,<- this]
  rfl
 have hcp:∀ ty,(Builtin.copy_ #[22,22] ty #[.slice (some ⟨w.heap.size,0,none⟩) 32 32,.slice (some ⟨b,o,none⟩) 1 c]).run Tryz.prog (w.alloc (.cells cs 5)).drew.drew=_:=λty=>
  run_copy_row (P:=Tryz.prog) (w.alloc (.cells cs 5)).drew.drew 22 22 ty 5 w.heap.size 0 32 32 ⟨b,o,none⟩ 1 c cs 5 [.int .u8 x.toNat] u22 i5 hg2 rfl (by intro j v hj;rcases j with _ | j;(simp at hj;subst hj;simpa [Addr.add] using hc2);simp at hj) (by simp;omega) (by simp [Value.oneCell'])
 go_enter Tryz.func244,Tryz.ntmps244
 go_wp2
 have hg3:∀ d,(dr d (w.alloc (.cells cs 5))).heap[w.heap.size]? = some (.cells cs 5 (0,0)):=λ_=>hg2
 go_loopw [10] (λv wr=>∃ (bp d:Nat) (cur:Array Value),v=.int .i64 bp/\1<=bp/\bp<=32/\wr=(dr d (w.alloc (.cells cs 5))).setRow w.heap.size cur/\cur.size=cs.size/\∀ j,j<bp->cur[j]? = some (.int .u8 x.toNat)) (λv _=>32 - (intOf v).toNat)
 case atStart=>
  refine ⟨1,w.drawn+2,_,rfl,by omega,by omega,rfl,by simp;omega,λj hj=>(match j,hj with | 0,_=>rfl)⟩
 case round=>
  obtain ⟨bp,d,cur,rfl,hb1,hb2,rfl,hsz,hcur⟩:=hrel
  by_cases hlt:bp<32
  ·obtain ⟨m,hm0,hm1,hm2,hm3⟩:∃ m,m=Nat.min bp (32 - bp)/\m<=bp/\m<=32 - bp/\1<=m:=⟨_,rfl,Nat.min_le_left _ _,Nat.min_le_right _ _,by show 1<=min bp (32 - bp);omega⟩
   have hcp2:∀ ty,(Builtin.copy_ #[22,22] ty #[.slice (some ⟨w.heap.size,bp,none⟩) (32 - bp) (32 - bp),.slice (some ⟨w.heap.size,0,none⟩) bp 32]).run Tryz.prog ((dr d (w.alloc (.cells cs 5))).setRow w.heap.size cur).drew=_:=λty=>
    run_copy_row (P:=Tryz.prog) ((dr d (w.alloc (.cells cs 5))).setRow w.heap.size cur).drew 22 22 ty 5 w.heap.size bp (32 - bp) (32 - bp) ⟨w.heap.size,0,none⟩ bp 32 cur 5 (List.replicate m (.int .u8 x.toNat)) u22 i5 (setRow_heap _ _ _ _ _ _ (hg3 d)) (by simp [hm0]) (by
     intro j v hj
     rw [List.getElem?_replicate] at hj
     split at hj
     ·cases hj
      have:(⟨w.heap.size,0,none⟩:Addr).add j=⟨w.heap.size,j,none⟩:=by rw [Sw.add_off,Nat.zero_add]
      rw [this]
      exact (cell_setRow_same (dr d (w.alloc (.cells cs 5))) _ _ _ _ _ _ (hg3 d)).trans (hcur j (by omega))
     ·cases hj) (by simp;omega) (by intro v hv;rw [List.eq_of_mem_replicate hv];rfl)
   go_wp2
   go_region
   go_wp2
   rw [<- hm0]
   refine ⟨⟨bp+m,d+1,(cur.toList.take bp++(List.replicate m (Value.int .u8 x.toNat)++cur.toList.drop (bp+m))).toArray,by simp,by omega,by omega,?_,?_,?_⟩,?_⟩
   ·show (((dr (d+1) (w.alloc (.cells cs 5))).setRow w.heap.size cur).setRow w.heap.size _)=_
    rw [setRow_setRow]
   ·simp
    omega
   ·intro j hj
    simp only [List.getElem?_toArray]
    by_cases h1:j<bp
    ·rw [List.getElem?_append_left (by simp;omega),List.getElem?_take,if_pos h1]
     simpa using hcur j h1
    ·rw [List.getElem?_append_right (by simp;omega),List.getElem?_append_left (by simp;omega),List.getElem?_replicate,if_pos (by simp;omega)]
   ·simp [intOf]
    omega
  ·have:bp=32:=by omega
   subst this
   go_wp2
   go_ret
   exact ⟨rfl,cs,d,cur,rfl,hcur⟩
set_option maxRecDepth 1000000 in
set_option maxHeartbeats 4000000 in
theorem walk_rep20 (b o c:Nat) (x:UInt8) (w:World) (hc:w.cell? ⟨b,o,none⟩=some (.int .u8 x.toNat)) :
  Calls Tryz.prog 244 #[.slice (some ⟨b,o,none⟩) 1 c,.int .i64 20] w λe w'=>e=.returned (.slice (some ⟨w.heap.size,0,none⟩) 20 20)/\∃ cs d cur,w'=(dr d (w.alloc (.cells cs 5))).setRow w.heap.size cur/\∀ j,j<20->cur[j]? = some (.int .u8 x.toNat):=by
 obtain ⟨cs,hm,hcs⟩:=run_mnz w 20 (by omega)
 have hm':(callFunc 307 #[.int .i64 20]).run Tryz.prog w=.ok (.value (.slice (some ⟨w.heap.size,0,none⟩) 20 cs.size)) (w.drew.drew.alloc (.cells cs 5)):=hm
 have hblt:b<w.heap.size:=World.block_lt_of_cell? w _ hc
 have hg2:(w.alloc (.cells cs 5)).drew.drew.heap[w.heap.size]? = some (.cells cs 5 (0,0)):=heap_alloc_new w _
 have hc2:(w.alloc (.cells cs 5)).drew.drew.cell? ⟨b,o,none⟩=some (.int .u8 x.toNat):=by
  have:=World.cell?_alloc_lt w (.cells cs 5) ⟨b,o,none⟩ hblt
  rw [<- hc,<- this]
  rfl
 have hcp:∀ ty,(Builtin.copy_ #[22,22] ty #[.slice (some ⟨w.heap.size,0,none⟩) 20 20,.slice (some ⟨b,o,none⟩) 1 c]).run Tryz.prog (w.alloc (.cells cs 5)).drew.drew=_:=λty=>
  run_copy_row (P:=Tryz.prog) (w.alloc (.cells cs 5)).drew.drew 22 22 ty 5 w.heap.size 0 20 20 ⟨b,o,none⟩ 1 c cs 5 [.int .u8 x.toNat] u22 i5 hg2 rfl (by intro j v hj;rcases j with _ | j;(simp at hj;subst hj;simpa [Addr.add] using hc2);simp at hj) (by simp;omega) (by simp [Value.oneCell'])
 go_enter Tryz.func244,Tryz.ntmps244
 go_wp2
 have hg3:∀ d,(dr d (w.alloc (.cells cs 5))).heap[w.heap.size]? = some (.cells cs 5 (0,0)):=λ_=>hg2
 go_loopw [10] (λv wr=>∃ (bp d:Nat) (cur:Array Value),v=.int .i64 bp/\1<=bp/\bp<=20/\wr=(dr d (w.alloc (.cells cs 5))).setRow w.heap.size cur/\cur.size=cs.size/\∀ j,j<bp->cur[j]? = some (.int .u8 x.toNat)) (λv _=>20 - (intOf v).toNat)
 case atStart=>
  refine ⟨1,w.drawn+2,_,rfl,by omega,by omega,rfl,by simp;omega,λj hj=>(match j,hj with | 0,_=>rfl)⟩
 case round=>
  obtain ⟨bp,d,cur,rfl,hb1,hb2,rfl,hsz,hcur⟩:=hrel
  by_cases hlt:bp<20
  ·obtain ⟨m,hm0,hm1,hm2,hm3⟩:∃ m,m=Nat.min bp (20 - bp)/\m<=bp/\m<=20 - bp/\1<=m:=⟨_,rfl,Nat.min_le_left _ _,Nat.min_le_right _ _,by show 1<=min bp (20 - bp);omega⟩
   have hcp2:∀ ty,(Builtin.copy_ #[22,22] ty #[.slice (some ⟨w.heap.size,bp,none⟩) (20 - bp) (20 - bp),.slice (some ⟨w.heap.size,0,none⟩) bp 20]).run Tryz.prog ((dr d (w.alloc (.cells cs 5))).setRow w.heap.size cur).drew=_:=λty=>
    run_copy_row (P:=Tryz.prog) ((dr d (w.alloc (.cells cs 5))).setRow w.heap.size cur).drew 22 22 ty 5 w.heap.size bp (20 - bp) (20 - bp) ⟨w.heap.size,0,none⟩ bp 20 cur 5 (List.replicate m (.int .u8 x.toNat)) u22 i5 (setRow_heap _ _ _ _ _ _ (hg3 d)) (by simp [hm0]) (by
     intro j v hj
     rw [List.getElem?_replicate] at hj
     split at hj
     ·cases hj
      have:(⟨w.heap.size,0,none⟩:Addr).add j=⟨w.heap.size,j,none⟩:=by rw [Sw.add_off,Nat.zero_add]
      rw [this]
      exact (cell_setRow_same (dr d (w.alloc (.cells cs 5))) _ _ _ _ _ _ (hg3 d)).trans (hcur j (by omega))
     ·cases hj) (by simp;omega) (by intro v hv;rw [List.eq_of_mem_replicate hv];rfl)
   go_wp2
   go_region
   go_wp2
   rw [<- hm0]
   refine ⟨⟨bp+m,d+1,(cur.toList.take bp++(List.replicate m (Value.int .u8 x.toNat)++cur.toList.drop (bp+m))).toArray,by simp,by omega,by omega,?_,?_,?_⟩,?_⟩
   ·show (((dr (d+1) (w.alloc (.cells cs 5))).setRow w.heap.size cur).setRow w.heap.size _)=_
    rw [setRow_setRow]
   ·simp
    omega
   ·intro j hj
    simp only [List.getElem?_toArray]
    by_cases h1:j<bp
    ·rw [List.getElem?_append_left (by simp;omega),List.getElem?_take,if_pos h1]
     simpa using hcur j h1
    ·rw [List.getElem?_append_right (by simp;omega),List.getElem?_append_left (by simp;omega),List.getElem?_replicate,if_pos (by simp;omega)]
   ·simp [intOf]
    omega
  ·have:bp=20:=by omega
   subst this
   go_wp2
   go_ret
   exact ⟨rfl,cs,d,cur,rfl,hcur⟩
end Go.Proofs.H
namespace Go.Sw
open Go
theorem ok_handG {P:Program} {f:FuncId} {ps:List PV} {r:AV} (hc:Callable P f)
  (h:∀ (w:World) (M:Mem) (args:Array Value),GlobOk w M->(∀ b o x,M b o=some x->w.cell? ⟨b,o,none⟩=some x)->args.size=ps.length->(∀ (j:Nat) (p:PV),ps[j]? = some p->Rep M p (args.getD j undef)) ->
   Calls P f args w λe w'=>∃ v M',e=.returned v/\w'.os=w.os/\w'.tape=w.tape/\w'.output=w.output/\w.heap.size<=w'.heap.size/\(∀ b,b<w.heap.size->w'.heap[b]? = w.heap[b]?)/\M.le M'/\(∀ b o x,M' b o=some x->w'.cell? ⟨b,o,none⟩=some x)/\(∀ b o,b<w.heap.size->M' b o=M b o)/\RepA M' (λ_=>none) (λ_=>undef) (lk []) r v) :
  Ok P f ps.length (mkS (argE 0 ps) []) (mkS [(0,r)] []):=by
 refine ⟨hc,λw M pk args κ tip hi hp=>?_⟩
 have hpk:pk=[]:=by
  cases pk with
  | nil=>rfl
  | cons e l=>
   have:=(hp e (by simp)).1
   rw [hi.dom e.1 rfl] at this
   cases this
 subst hpk
 refine (h w M args hi.glob hi.mem hi.size ?_).mono ?_
 ·intro j p hj
  have hlt:j<ps.length:=(List.getElem?_eq_some_iff.1 hj).1
  have hget:∀ (l:List PV) (i j:Nat) (p:PV),l[j]? = some p->lk (argE i l) (i+j)=some (.p p):=by
   intro l
   induction l with
   | nil=>intro i j p h;simp at h
   | cons q r ih=>
    intro i j p h
    cases j with
    | zero=>simp at h;subst h;simp [argE,lk]
    | succ j=>
     have:Nat.beq (i+(j+1)) i=false:=by rw [Bool.eq_false_iff];intro e;have:=Nat.eq_of_beq_eq_true e;omega
     simp only [argE,lk,this,cond_false]
     rw [show i+(j+1)=(i+1)+j by omega]
     exact ih (i+1) j p (by simpa using h)
  obtain ⟨x,h1,h2⟩:=hi.env j (.p p) (by have:=hget ps 0 j p hj;rw [Nat.zero_add] at this;exact this)
  rw [Array.getD_eq_getD_getElem?]
  simp only at h1
  rw [h1]
  exact repA_pv h2
 ·rintro e w' ⟨v,M',rfl,h1,h2,h3,h4,h5,h6,h7,h8,h9⟩
  refine ⟨v,rfl,M',λ_=>none,λ_=>undef,h6,by simp,{
   defers:=rfl
   size:=rfl
   fr:=⟨h1,h2,h3,h4,λb hb _=>h5 b hb⟩
   mem:=h7
   env:=λt u e=>by
    simp only [mkS,lk] at e
    cases hb:Nat.beq t 0 with
    | true=>
     have:=Nat.eq_of_beq_eq_true hb
     subst this
     simp at e
     subst e
     exact ⟨v,rfl,h9⟩
    | false=>simp [hb] at e
   vars:=λk l h=>by simp [mkS,lk] at h
   bufs:=λk c h=>by simp [mkS,lk] at h
   inj:=λk k' b h=>by simp at h
   dom:=λ_ _=>rfl
   old:=λb o hb=>h8 b o hb
   glob:=hi.glob.mono h6
   owns:=λk wd l h=>by simp [mkS,lk] at h }⟩
theorem ok_hand {P:Program} {f:FuncId} {ps:List PV} {r:PV} (hc:Callable P f)
  (h:∀ (w:World) (M:Mem) (args:Array Value),(∀ b o x,M b o=some x->w.cell? ⟨b,o,none⟩=some x)->args.size=ps.length->(∀ (j:Nat) (p:PV),ps[j]? = some p->Rep M p (args.getD j undef)) ->
   Calls P f args w λe w'=>∃ v M',e=.returned v/\w'.os=w.os/\w'.tape=w.tape/\w'.output=w.output/\w.heap.size<=w'.heap.size/\(∀ b,b<w.heap.size->w'.heap[b]? = w.heap[b]?)/\M.le M'/\(∀ b o x,M' b o=some x->w'.cell? ⟨b,o,none⟩=some x)/\(∀ b o,b<w.heap.size->M' b o=M b o)/\Rep M' r v) :
  Ok P f ps.length (mkS (argE 0 ps) []) (mkS [(0,.p r)] []):=
 ok_handG hc λw M args _ a b c=>(h w M args a b c).mono λe w' ⟨v,M',h0,h1,h2,h3,h4,h5,h6,h7,h8,h9⟩ =>⟨v,M',h0,h1,h2,h3,h4,h5,h6,h7,h8,.p _ _ h9⟩
end Go.Sw
