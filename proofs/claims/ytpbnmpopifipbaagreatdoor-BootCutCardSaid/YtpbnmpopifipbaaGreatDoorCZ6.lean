/- what a loss of power at a start leaves -/
import Derived.Test.YtpbnmpopifipbaaGreatDoorCZ5
import Derived.Test.YtpbnmpopifipbaaGreatDoorCZ2
import Derived.Test.YtpbnmpopifipbaaGreatDoorProg
import Derived.Test.YtpbnmpopifipbaaGreatDoorCZ4
import Derived.Tactics
import Derived.Tactics2
import Derived.StillTactics
import Derived.Laws.RangeString
import Derived.Laws.RangeAny
import Derived.Laws.Runes
import Derived.Laws.Small
import Derived.Laws.Strings
import Derived.Scope
import Derived.LoopTactic
import Derived.Handy
import Derived.Laws.CopyRow
import Derived.Laws.Slices
import Derived.Laws.MathBits
import Derived.Laws.Bits128
import Derived.Room.MakeNoZero
set_option linter.all false
namespace Go.Proofs.Tryz.S
open Go Go.Sw
set_option maxRecDepth 100000
def t2:TI:=⟨1,8,[.int .i64 0],(.int .i64)⟩
theorem t2ok:TOk Tryz.prog 2 t2:=zV (by kernel_rfl) (by kernel_rfl) rfl
def t3:TI:=⟨1,8,[.int .i64 0],(.int .i64)⟩
theorem t3ok:TOk Tryz.prog 3 t3:=zV (by kernel_rfl) (by kernel_rfl) rfl
def t4:TI:=⟨1,1,[.bool false],.bool⟩
theorem t4ok:TOk Tryz.prog 4 t4:=zV (by kernel_rfl) (by kernel_rfl) rfl
def t5:TI:=⟨1,1,[.int .u8 0],(.int .u8)⟩
theorem t5ok:TOk Tryz.prog 5 t5:=zV (by kernel_rfl) (by kernel_rfl) rfl
def t6:TI:=⟨1,1,[.int .u8 0],(.int .u8)⟩
theorem t6ok:TOk Tryz.prog 6 t6:=zV (by kernel_rfl) (by kernel_rfl) rfl
def t7:TI:=⟨4,24,[.int .i64 0,.int .i64 0,.bool false,.int .u8 0],(.struct [(2,0),(3,1),(4,2),(6,3)])⟩
theorem t7ok:TOk Tryz.prog 7 t7:=zV (by kernel_rfl) (by kernel_rfl) rfl
def t8:TI:=⟨4,24,[.int .i64 0,.int .i64 0,.bool false,.int .u8 0],(.struct [(2,0),(3,1),(4,2),(6,3)])⟩
theorem t8ok:TOk Tryz.prog 8 t8:=zV (by kernel_rfl) (by kernel_rfl) rfl
def t9:TI:=⟨1,16,[.str []],.str⟩
theorem t9ok:TOk Tryz.prog 9 t9:=zV (by kernel_rfl) (by kernel_rfl) rfl
def t10:TI:=⟨1,16,[.str []],.str⟩
theorem yEa:TOk Tryz.prog 10 t10:=zV (by kernel_rfl) (by kernel_rfl) rfl
def t11:TI:=⟨1,16,[.str []],.str⟩
theorem yEp:TOk Tryz.prog 11 t11:=zV (by kernel_rfl) (by kernel_rfl) rfl
def t12:TI:=⟨1,8,[.int .u64 0],(.int .u64)⟩
theorem yEd:TOk Tryz.prog 12 t12:=zV (by kernel_rfl) (by kernel_rfl) rfl
def t13:TI:=⟨2,24,[.str [],.int .u64 0],(.struct [(9,0),(12,1)])⟩
theorem yDg:TOk Tryz.prog 13 t13:=zV (by kernel_rfl) (by kernel_rfl) rfl
def t14:TI:=⟨2,24,[.str [],.int .u64 0],(.struct [(9,0),(12,1)])⟩
theorem yD6:TOk Tryz.prog 14 t14:=zV (by kernel_rfl) (by kernel_rfl) rfl
def t15:TI:=⟨1,8,[.nilp],(.ptr 432)⟩
theorem yDf:TOk Tryz.prog 15 t15:=zV (by kernel_rfl) (by kernel_rfl) rfl
def t16:TI:=⟨1,8,[.nilp],(.ptr 435)⟩
theorem yCc:TOk Tryz.prog 16 t16:=zV (by kernel_rfl) (by kernel_rfl) rfl
def t17:TI:=⟨1,8,[.nilp],(.ptr 443)⟩
theorem yD1:TOk Tryz.prog 17 t17:=zV (by kernel_rfl) (by kernel_rfl) rfl
def t18:TI:=⟨1,8,[.nilp],(.struct [(17,0)])⟩
theorem yAa:TOk Tryz.prog 18 t18:=zV (by kernel_rfl) (by kernel_rfl) rfl
def t19:TI:=⟨1,8,[.nilp],(.struct [(17,0)])⟩
theorem yCo:TOk Tryz.prog 19 t19:=zV (by kernel_rfl) (by kernel_rfl) rfl
def t20:TI:=⟨1,16,[.err false],.iface⟩
theorem yC5:TOk Tryz.prog 20 t20:=zV (by kernel_rfl) (by kernel_rfl) rfl
def t21:TI:=⟨1,4,[.int .i32 0],(.int .i32)⟩
theorem yCm:TOk Tryz.prog 21 t21:=zV (by kernel_rfl) (by kernel_rfl) rfl
def t22:TI:=⟨1,24,[.bytes []],(.slice 5)⟩
theorem yBl:TOk Tryz.prog 22 t22:=zV (by kernel_rfl) (by kernel_rfl) rfl
def t25:TI:=⟨1,24,[.sl 4 []],(.slice 80)⟩
theorem yBb:TOk Tryz.prog 25 t25:=zV (by kernel_rfl) (by kernel_rfl) rfl
def t27:TI:=⟨1,24,[.sl 1 []],(.slice 22)⟩
theorem yAt:TOk Tryz.prog 27 t27:=zV (by kernel_rfl) (by kernel_rfl) rfl
def t28:TI:=⟨5,56,[.sl 1 [],.int .i64 0,.int .i64 0,.int .i64 0,.bool false],(.struct [(27,0),(3,1),(3,2),(3,3),(4,4)])⟩
theorem zZ8:TOk Tryz.prog 28 t28:=zV (by kernel_rfl) (by kernel_rfl) rfl
def t29:TI:=⟨5,56,[.sl 1 [],.int .i64 0,.int .i64 0,.int .i64 0,.bool false],(.struct [(27,0),(3,1),(3,2),(3,3),(4,4)])⟩
theorem yAy:TOk Tryz.prog 29 t29:=zV (by kernel_rfl) (by kernel_rfl) rfl
def t30:TI:=⟨1,24,[.sl 1 []],(.slice 27)⟩
theorem yBh:TOk Tryz.prog 30 t30:=zV (by kernel_rfl) (by kernel_rfl) rfl
def t31:TI:=⟨2,32,[.sl 1 [],.int .i64 0],(.struct [(30,0),(3,1)])⟩
theorem yC2:TOk Tryz.prog 31 t31:=zV (by kernel_rfl) (by kernel_rfl) rfl
def t32:TI:=⟨2,32,[.sl 1 [],.int .i64 0],(.struct [(30,0),(3,1)])⟩
theorem yBw:TOk Tryz.prog 32 t32:=zV (by kernel_rfl) (by kernel_rfl) rfl
def t33:TI:=⟨1,24,[.sl 8 []],(.slice 172)⟩
theorem yDe:TOk Tryz.prog 33 t33:=zV (by kernel_rfl) (by kernel_rfl) rfl
def t34:TI:=⟨6,48,[.int .i64 0,.int .i64 0,.int .i64 0,.int .i64 0,.int .i64 0,.int .i64 0],(.struct [(3,0),(3,1),(3,2),(3,3),(3,4),(3,5)])⟩
theorem yEk:TOk Tryz.prog 34 t34:=zV (by kernel_rfl) (by kernel_rfl) rfl
def t35:TI:=⟨6,48,[.int .i64 0,.int .i64 0,.int .i64 0,.int .i64 0,.int .i64 0,.int .i64 0],(.struct [(3,0),(3,1),(3,2),(3,3),(3,4),(3,5)])⟩
theorem yBc:TOk Tryz.prog 35 t35:=zV (by kernel_rfl) (by kernel_rfl) rfl
def t36:TI:=⟨1,24,[.sl 2 []],(.slice 174)⟩
theorem yAd:TOk Tryz.prog 36 t36:=zV (by kernel_rfl) (by kernel_rfl) rfl
def t37:TI:=⟨19,248,[.sl 1 [],.sl 1 [],.bytes [],.int .i64 0,.int .i64 0,.int .i64 0,.int .i64 0,.bool false,.sl 1 [],.int .i64 0,.int .i64 0,.sl 8 [],.int .i64 0,.int .i64 0,.int .i64 0,.int .i64 0,.int .i64 0,.int .i64 0,.sl 2 []],(.struct [(27,0),(27,1),(22,2),(3,3),(3,4),(3,5),(3,6),(4,7),(32,8),(3,10),(33,11),(35,12),(36,18)])⟩
theorem yDx:TOk Tryz.prog 37 t37:=zV (by kernel_rfl) (by kernel_rfl) rfl
def t38:TI:=⟨19,248,[.sl 1 [],.sl 1 [],.bytes [],.int .i64 0,.int .i64 0,.int .i64 0,.int .i64 0,.bool false,.sl 1 [],.int .i64 0,.int .i64 0,.sl 8 [],.int .i64 0,.int .i64 0,.int .i64 0,.int .i64 0,.int .i64 0,.int .i64 0,.sl 2 []],(.struct [(27,0),(27,1),(22,2),(3,3),(3,4),(3,5),(3,6),(4,7),(32,8),(3,10),(33,11),(35,12),(36,18)])⟩
theorem yA0:TOk Tryz.prog 38 t38:=zV (by kernel_rfl) (by kernel_rfl) rfl
def t39:TI:=⟨1,24,[.sl 8 []],(.slice 274)⟩
theorem yB9:TOk Tryz.prog 39 t39:=zV (by kernel_rfl) (by kernel_rfl) rfl
def t40:TI:=⟨1,24,[.sl 9 []],(.slice 264)⟩
theorem yDz:TOk Tryz.prog 40 t40:=zV (by kernel_rfl) (by kernel_rfl) rfl
def t41:TI:=⟨1,24,[.sl 1 []],(.slice 3)⟩
theorem yDv:TOk Tryz.prog 41 t41:=zV (by kernel_rfl) (by kernel_rfl) rfl
def t42:TI:=⟨11,160,[.bool false,.bool false,.sl 1 [],.int .i64 0,.int .i64 0,.bool false,.int .i64 0,.sl 8 [],.sl 9 [],.sl 1 [],.sl 1 []],(.struct [(4,0),(4,1),(32,2),(3,4),(4,5),(3,6),(39,7),(40,8),(41,9),(41,10)])⟩
theorem yB8:TOk Tryz.prog 42 t42:=zV (by kernel_rfl) (by kernel_rfl) rfl
def t43:TI:=⟨11,160,[.bool false,.bool false,.sl 1 [],.int .i64 0,.int .i64 0,.bool false,.int .i64 0,.sl 8 [],.sl 9 [],.sl 1 [],.sl 1 []],(.struct [(4,0),(4,1),(32,2),(3,4),(4,5),(3,6),(39,7),(40,8),(41,9),(41,10)])⟩
theorem yD7:TOk Tryz.prog 43 t43:=zV (by kernel_rfl) (by kernel_rfl) rfl
def t44:TI:=⟨30,408,[.sl 1 [],.sl 1 [],.bytes [],.int .i64 0,.int .i64 0,.int .i64 0,.int .i64 0,.bool false,.sl 1 [],.int .i64 0,.int .i64 0,.sl 8 [],.int .i64 0,.int .i64 0,.int .i64 0,.int .i64 0,.int .i64 0,.int .i64 0,.sl 2 [],.bool false,.bool false,.sl 1 [],.int .i64 0,.int .i64 0,.bool false,.int .i64 0,.sl 8 [],.sl 9 [],.sl 1 [],.sl 1 []],(.struct [(38,0),(43,19)])⟩
theorem yBz:TOk Tryz.prog 44 t44:=zV (by kernel_rfl) (by kernel_rfl) rfl
def t45:TI:=⟨30,408,[.sl 1 [],.sl 1 [],.bytes [],.int .i64 0,.int .i64 0,.int .i64 0,.int .i64 0,.bool false,.sl 1 [],.int .i64 0,.int .i64 0,.sl 8 [],.int .i64 0,.int .i64 0,.int .i64 0,.int .i64 0,.int .i64 0,.int .i64 0,.sl 2 [],.bool false,.bool false,.sl 1 [],.int .i64 0,.int .i64 0,.bool false,.int .i64 0,.sl 8 [],.sl 9 [],.sl 1 [],.sl 1 []],(.struct [(38,0),(43,19)])⟩
theorem yC8:TOk Tryz.prog 45 t45:=zV (by kernel_rfl) (by kernel_rfl) rfl
def t46:TI:=⟨37,480,[.sl 1 [],.int .i64 0,.int .i64 0,.int .i64 0,.bool false,.sl 1 [],.sl 1 [],.bytes [],.int .i64 0,.int .i64 0,.int .i64 0,.int .i64 0,.bool false,.sl 1 [],.int .i64 0,.int .i64 0,.sl 8 [],.int .i64 0,.int .i64 0,.int .i64 0,.int .i64 0,.int .i64 0,.int .i64 0,.sl 2 [],.bool false,.bool false,.sl 1 [],.int .i64 0,.int .i64 0,.bool false,.int .i64 0,.sl 8 [],.sl 9 [],.sl 1 [],.sl 1 [],.bool false,.int .i64 0],(.struct [(29,0),(45,5),(4,35),(3,36)])⟩
theorem yBo:TOk Tryz.prog 46 t46:=zV (by kernel_rfl) (by kernel_rfl) rfl
def t47:TI:=⟨37,480,[.sl 1 [],.int .i64 0,.int .i64 0,.int .i64 0,.bool false,.sl 1 [],.sl 1 [],.bytes [],.int .i64 0,.int .i64 0,.int .i64 0,.int .i64 0,.bool false,.sl 1 [],.int .i64 0,.int .i64 0,.sl 8 [],.int .i64 0,.int .i64 0,.int .i64 0,.int .i64 0,.int .i64 0,.int .i64 0,.sl 2 [],.bool false,.bool false,.sl 1 [],.int .i64 0,.int .i64 0,.bool false,.int .i64 0,.sl 8 [],.sl 9 [],.sl 1 [],.sl 1 [],.bool false,.int .i64 0],(.struct [(29,0),(45,5),(4,35),(3,36)])⟩
theorem yB3:TOk Tryz.prog 47 t47:=zV (by kernel_rfl) (by kernel_rfl) rfl
def t51:TI:=⟨1,24,[.sl 4 []],(.slice 76)⟩
theorem yCx:TOk Tryz.prog 51 t51:=zV (by kernel_rfl) (by kernel_rfl) rfl
def t54:TI:=⟨1,8,[.int .i64 0],(.int .i64)⟩
theorem yAh:TOk Tryz.prog 54 t54:=zV (by kernel_rfl) (by kernel_rfl) rfl
def t61:TI:=⟨3,40,[.int .i64 0,.int .i64 0,.sl 4 []],(.struct [(3,0),(3,1),(51,2)])⟩
theorem yB5:TOk Tryz.prog 61 t61:=zV (by kernel_rfl) (by kernel_rfl) rfl
def t62:TI:=⟨3,40,[.int .i64 0,.int .i64 0,.sl 4 []],(.struct [(3,0),(3,1),(51,2)])⟩
theorem yCz:TOk Tryz.prog 62 t62:=zV (by kernel_rfl) (by kernel_rfl) rfl
def t75:TI:=⟨4,64,[.int .i64 0,.int .i64 0,.sl 1 [],.bytes []],(.struct [(3,0),(3,1),(27,2),(22,3)])⟩
theorem zZ5:TOk Tryz.prog 75 t75:=zV (by kernel_rfl) (by kernel_rfl) rfl
def t76:TI:=⟨4,64,[.int .i64 0,.int .i64 0,.sl 1 [],.bytes []],(.struct [(3,0),(3,1),(27,2),(22,3)])⟩
theorem yDb:TOk Tryz.prog 76 t76:=zV (by kernel_rfl) (by kernel_rfl) rfl
def t77:TI:=⟨1,8,[.nilp],(.ptr 128)⟩
theorem yBy:TOk Tryz.prog 77 t77:=zV (by kernel_rfl) (by kernel_rfl) rfl
def t79:TI:=⟨4,56,[.int .i64 0,.str [],.int .i64 0,.bytes []],(.struct [(3,0),(9,1),(3,2),(22,3)])⟩
theorem yCs:TOk Tryz.prog 79 t79:=zV (by kernel_rfl) (by kernel_rfl) rfl
def t80:TI:=⟨4,56,[.int .i64 0,.str [],.int .i64 0,.bytes []],(.struct [(3,0),(9,1),(3,2),(22,3)])⟩
theorem yEn:TOk Tryz.prog 80 t80:=zV (by kernel_rfl) (by kernel_rfl) rfl
def t90:TI:=⟨1,8,[.nilp],(.ptr 93)⟩
theorem yEi:TOk Tryz.prog 90 t90:=zV (by kernel_rfl) (by kernel_rfl) rfl
def t92:TI:=⟨38,504,[.sl 1 [],.int .i64 0,.int .i64 0,.int .i64 0,.bool false,.sl 1 [],.sl 1 [],.bytes [],.int .i64 0,.int .i64 0,.int .i64 0,.int .i64 0,.bool false,.sl 1 [],.int .i64 0,.int .i64 0,.sl 8 [],.int .i64 0,.int .i64 0,.int .i64 0,.int .i64 0,.int .i64 0,.int .i64 0,.sl 2 [],.bool false,.bool false,.sl 1 [],.int .i64 0,.int .i64 0,.bool false,.int .i64 0,.sl 8 [],.sl 9 [],.sl 1 [],.sl 1 [],.bool false,.int .i64 0,.sl 1 []],(.struct [(47,0),(41,37)])⟩
theorem yD2:TOk Tryz.prog 92 t92:=zV (by kernel_rfl) (by kernel_rfl) rfl
def t93:TI:=⟨38,504,[.sl 1 [],.int .i64 0,.int .i64 0,.int .i64 0,.bool false,.sl 1 [],.sl 1 [],.bytes [],.int .i64 0,.int .i64 0,.int .i64 0,.int .i64 0,.bool false,.sl 1 [],.int .i64 0,.int .i64 0,.sl 8 [],.int .i64 0,.int .i64 0,.int .i64 0,.int .i64 0,.int .i64 0,.int .i64 0,.sl 2 [],.bool false,.bool false,.sl 1 [],.int .i64 0,.int .i64 0,.bool false,.int .i64 0,.sl 8 [],.sl 9 [],.sl 1 [],.sl 1 [],.bool false,.int .i64 0,.sl 1 []],(.struct [(47,0),(41,37)])⟩
theorem yEg:TOk Tryz.prog 93 t93:=zV (by kernel_rfl) (by kernel_rfl) rfl
def t95:TI:=⟨4,80,[.int .i64 0,.sl 1 [],.sl 1 [],.sl 1 []],(.struct [(54,0),(41,1),(27,2),(27,3)])⟩
theorem yBx:TOk Tryz.prog 95 t95:=zV (by kernel_rfl) (by kernel_rfl) rfl
def t96:TI:=⟨4,80,[.int .i64 0,.sl 1 [],.sl 1 [],.sl 1 []],(.struct [(54,0),(41,1),(27,2),(27,3)])⟩
theorem zZ7:TOk Tryz.prog 96 t96:=zV (by kernel_rfl) (by kernel_rfl) rfl
def t99:TI:=⟨1,24,[.sl 3 []],(.slice 143)⟩
theorem yDw:TOk Tryz.prog 99 t99:=zV (by kernel_rfl) (by kernel_rfl) rfl
def t100:TI:=⟨5,104,[.int .i64 0,.sl 1 [],.sl 3 [],.sl 1 [],.sl 1 []],(.struct [(3,0),(41,1),(99,2),(41,3),(27,4)])⟩
theorem zYm:TOk Tryz.prog 100 t100:=zV (by kernel_rfl) (by kernel_rfl) rfl
def t101:TI:=⟨5,104,[.int .i64 0,.sl 1 [],.sl 3 [],.sl 1 [],.sl 1 []],(.struct [(3,0),(41,1),(99,2),(41,3),(27,4)])⟩
theorem zYd:TOk Tryz.prog 101 t101:=zV (by kernel_rfl) (by kernel_rfl) rfl
def t127:TI:=⟨2,32,[.bytes [],.int .i64 0],(.struct [(22,0),(3,1)])⟩
theorem zX8:TOk Tryz.prog 127 t127:=zV (by kernel_rfl) (by kernel_rfl) rfl
def t128:TI:=⟨2,32,[.bytes [],.int .i64 0],(.struct [(22,0),(3,1)])⟩
theorem zZe:TOk Tryz.prog 128 t128:=zV (by kernel_rfl) (by kernel_rfl) rfl
def t129:TI:=⟨5,80,[.str [],.str [],.str [],.str [],.str []],(.arr 5 9)⟩
theorem zV5:TOk Tryz.prog 129 t129:=zV (by kernel_rfl) (by kernel_rfl) rfl
def t142:TI:=⟨3,56,[.int .i64 0,.bytes [],.bytes []],(.struct [(3,0),(22,1),(22,2)])⟩
theorem zWo:TOk Tryz.prog 142 t142:=zV (by kernel_rfl) (by kernel_rfl) rfl
def t143:TI:=⟨3,56,[.int .i64 0,.bytes [],.bytes []],(.struct [(3,0),(22,1),(22,2)])⟩
theorem zYx:TOk Tryz.prog 143 t143:=zV (by kernel_rfl) (by kernel_rfl) rfl
def t147:TI:=⟨5,120,[.sl 4 [],.sl 4 [],.sl 4 [],.sl 4 [],.sl 4 []],(.arr 5 51)⟩
theorem zW8:TOk Tryz.prog 147 t147:=zV (by kernel_rfl) (by kernel_rfl) rfl
def t151:TI:=⟨1,8,[.int .u64 0],(.int .u64)⟩
theorem zXs:TOk Tryz.prog 151 t151:=zV (by kernel_rfl) (by kernel_rfl) rfl
def t153:TI:=⟨1,8,[.nilp],(.ptr 219)⟩
theorem zY7:TOk Tryz.prog 153 t153:=zV (by kernel_rfl) (by kernel_rfl) rfl
def t171:TI:=⟨8,112,[.int .i64 0,.int .i64 0,.int .i64 0,.int .i64 0,.bytes [],.bytes [],.bool false,.bytes []],(.struct [(3,0),(3,1),(3,2),(3,3),(22,4),(22,5),(4,6),(22,7)])⟩
theorem zWt:TOk Tryz.prog 171 t171:=zV (by kernel_rfl) (by kernel_rfl) rfl
def t172:TI:=⟨8,112,[.int .i64 0,.int .i64 0,.int .i64 0,.int .i64 0,.bytes [],.bytes [],.bool false,.bytes []],(.struct [(3,0),(3,1),(3,2),(3,3),(22,4),(22,5),(4,6),(22,7)])⟩
theorem zXn:TOk Tryz.prog 172 t172:=zV (by kernel_rfl) (by kernel_rfl) rfl
def t173:TI:=⟨2,32,[.bytes [],.int .i64 0],(.struct [(22,0),(3,1)])⟩
theorem zZh:TOk Tryz.prog 173 t173:=zV (by kernel_rfl) (by kernel_rfl) rfl
def t174:TI:=⟨2,32,[.bytes [],.int .i64 0],(.struct [(22,0),(3,1)])⟩
theorem zW7:TOk Tryz.prog 174 t174:=zV (by kernel_rfl) (by kernel_rfl) rfl
def t175:TI:=⟨2,48,[.bytes [],.bytes []],(.arr 2 22)⟩
theorem zZa:TOk Tryz.prog 175 t175:=zV (by kernel_rfl) (by kernel_rfl) rfl
def t178:TI:=⟨1,8,[.nilp],(.ptr 180)⟩
theorem zXj:TOk Tryz.prog 178 t178:=zV (by kernel_rfl) (by kernel_rfl) rfl
def t179:TI:=⟨2,16,[.nilp,.int .i64 0],(.struct [(153,0),(54,1)])⟩
theorem zXp:TOk Tryz.prog 179 t179:=zV (by kernel_rfl) (by kernel_rfl) rfl
def t180:TI:=⟨2,16,[.nilp,.int .i64 0],(.struct [(153,0),(54,1)])⟩
theorem zY6:TOk Tryz.prog 180 t180:=zV (by kernel_rfl) (by kernel_rfl) rfl
def t184:TI:=⟨1,8,[.nilp],(.ptr 35)⟩
theorem zY3:TOk Tryz.prog 184 t184:=zV (by kernel_rfl) (by kernel_rfl) rfl
def t185:TI:=⟨1,8,[.nilp],(.ptr 3)⟩
theorem zYu:TOk Tryz.prog 185 t185:=zV (by kernel_rfl) (by kernel_rfl) rfl
def t186:TI:=⟨1,24,[.sl 1 []],(.slice 185)⟩
theorem zW0:TOk Tryz.prog 186 t186:=zV (by kernel_rfl) (by kernel_rfl) rfl
def t187:TI:=⟨5,5,[.bool false,.bool false,.bool false,.bool false,.bool false],(.arr 5 4)⟩
theorem zXi:TOk Tryz.prog 187 t187:=zV (by kernel_rfl) (by kernel_rfl) rfl
def t195:TI:=⟨1,8,[.nilp],(.ptr 27)⟩
theorem zYv:TOk Tryz.prog 195 t195:=zV (by kernel_rfl) (by kernel_rfl) rfl
def t196:TI:=⟨1,24,[.sl 1 []],(.slice 195)⟩
theorem zZc:TOk Tryz.prog 196 t196:=zV (by kernel_rfl) (by kernel_rfl) rfl
def t200:TI:=⟨1,8,[.int .u64 0],(.int .u64)⟩
theorem zYo:TOk Tryz.prog 200 t200:=zV (by kernel_rfl) (by kernel_rfl) rfl
def t204:TI:=⟨5,40,[.int .i64 0,.int .i64 0,.int .i64 0,.int .i64 0,.int .i64 0],(.arr 5 3)⟩
theorem zZo:TOk Tryz.prog 204 t204:=zV (by kernel_rfl) (by kernel_rfl) rfl
def t205:TI:=⟨1,4,[.int .u32 0],(.int .u32)⟩
theorem zWz:TOk Tryz.prog 205 t205:=zV (by kernel_rfl) (by kernel_rfl) rfl
def t206:TI:=⟨5,20,[.int .u32 0,.int .u32 0,.int .u32 0,.int .u32 0,.int .u32 0],(.arr 5 205)⟩
theorem zY4:TOk Tryz.prog 206 t206:=zV (by kernel_rfl) (by kernel_rfl) rfl
def t208:TI:=⟨1,8,[.nilp],(.ptr 206)⟩
theorem zZi:TOk Tryz.prog 208 t208:=zV (by kernel_rfl) (by kernel_rfl) rfl
def t210:TI:=⟨1,24,[.sl 1 []],(.slice 205)⟩
theorem zYp:TOk Tryz.prog 210 t210:=zV (by kernel_rfl) (by kernel_rfl) rfl
def t211:TI:=⟨8,32,[.int .u32 0,.int .u32 0,.int .u32 0,.int .u32 0,.int .u32 0,.int .u32 0,.int .u32 0,.int .u32 0],(.arr 8 205)⟩
theorem zX4:TOk Tryz.prog 211 t211:=zV (by kernel_rfl) (by kernel_rfl) rfl
def t213:TI:=⟨1,8,[.nilp],(.ptr 211)⟩
theorem zXy:TOk Tryz.prog 213 t213:=zV (by kernel_rfl) (by kernel_rfl) rfl
def t218:TI:=⟨3,40,[.bytes [],.int .i64 0,.int .i64 0],(.struct [(22,0),(3,1),(54,2)])⟩
theorem zY0:TOk Tryz.prog 218 t218:=zV (by kernel_rfl) (by kernel_rfl) rfl
def t219:TI:=⟨3,40,[.bytes [],.int .i64 0,.int .i64 0],(.struct [(22,0),(3,1),(54,2)])⟩
theorem zZg:TOk Tryz.prog 219 t219:=zV (by kernel_rfl) (by kernel_rfl) rfl
def t224:TI:=⟨6,96,[.str [],.str [],.str [],.str [],.str [],.str []],(.arr 6 9)⟩
theorem zXh:TOk Tryz.prog 224 t224:=zV (by kernel_rfl) (by kernel_rfl) rfl
def t225:TI:=⟨80,320,List.replicate 80 (.int .u32 0),(.arr 80 205)⟩
theorem zY9:TOk Tryz.prog 225 t225:=zV (by kernel_rfl) (by kernel_rfl) rfl
def t228:TI:=⟨64,256,List.replicate 64 (.int .u32 0),(.arr 64 205)⟩
theorem zWx:TOk Tryz.prog 228 t228:=zV (by kernel_rfl) (by kernel_rfl) rfl
def t232:TI:=⟨2,2,[.int .u8 0,.int .u8 0],(.arr 2 5)⟩
theorem zXm:TOk Tryz.prog 232 t232:=zV (by kernel_rfl) (by kernel_rfl) rfl
def t244:TI:=⟨5,40,[.int .i64 0,.int .i64 0,.int .i64 0,.int .i64 0,.int .i64 0],(.struct [(3,0),(3,1),(3,2),(3,3),(3,4)])⟩
theorem zX0:TOk Tryz.prog 244 t244:=zV (by kernel_rfl) (by kernel_rfl) rfl
def t245:TI:=⟨5,40,[.int .i64 0,.int .i64 0,.int .i64 0,.int .i64 0,.int .i64 0],(.struct [(3,0),(3,1),(3,2),(3,3),(3,4)])⟩
theorem zZf:TOk Tryz.prog 245 t245:=zV (by kernel_rfl) (by kernel_rfl) rfl
def t246:TI:=⟨160,1280,List.replicate 160 (.int .i64 0),(.arr 32 245)⟩
theorem zY2:TOk Tryz.prog 246 t246:=zV (by kernel_rfl) (by kernel_rfl) rfl
def t259:TI:=⟨5,72,[.int .i64 0,.int .i64 0,.int .i64 0,.bytes [],.bytes []],(.struct [(3,0),(3,1),(3,2),(22,3),(22,4)])⟩
theorem zZt:TOk Tryz.prog 259 t259:=zV (by kernel_rfl) (by kernel_rfl) rfl
def t260:TI:=⟨5,72,[.int .i64 0,.int .i64 0,.int .i64 0,.bytes [],.bytes []],(.struct [(3,0),(3,1),(3,2),(22,3),(22,4)])⟩
theorem zXv:TOk Tryz.prog 260 t260:=zV (by kernel_rfl) (by kernel_rfl) rfl
def t261:TI:=⟨3,72,[.bytes [],.bytes [],.bytes []],(.struct [(22,0),(22,1),(22,2)])⟩
theorem zX1:TOk Tryz.prog 261 t261:=zV (by kernel_rfl) (by kernel_rfl) rfl
def t262:TI:=⟨3,72,[.bytes [],.bytes [],.bytes []],(.struct [(22,0),(22,1),(22,2)])⟩
theorem zX5:TOk Tryz.prog 262 t262:=zV (by kernel_rfl) (by kernel_rfl) rfl
def t263:TI:=⟨9,152,[.int .i64 0,.int .i64 0,.int .i64 0,.bytes [],.bytes [],.bytes [],.bytes [],.bytes [],.int .i64 0],(.struct [(260,0),(262,5),(3,8)])⟩
theorem zYw:TOk Tryz.prog 263 t263:=zV (by kernel_rfl) (by kernel_rfl) rfl
def t264:TI:=⟨9,152,[.int .i64 0,.int .i64 0,.int .i64 0,.bytes [],.bytes [],.bytes [],.bytes [],.bytes [],.int .i64 0],(.struct [(260,0),(262,5),(3,8)])⟩
theorem zX7:TOk Tryz.prog 264 t264:=zV (by kernel_rfl) (by kernel_rfl) rfl
def t273:TI:=⟨8,96,[.int .i64 0,.bytes [],.bytes [],.int .i64 0,.int .i64 0,.int .i64 0,.int .i64 0,.bool false],(.struct [(3,0),(22,1),(22,2),(3,3),(3,4),(3,5),(3,6),(4,7)])⟩
theorem zWi:TOk Tryz.prog 273 t273:=zV (by kernel_rfl) (by kernel_rfl) rfl
def t274:TI:=⟨8,96,[.int .i64 0,.bytes [],.bytes [],.int .i64 0,.int .i64 0,.int .i64 0,.int .i64 0,.bool false],(.struct [(3,0),(22,1),(22,2),(3,3),(3,4),(3,5),(3,6),(4,7)])⟩
theorem zZs:TOk Tryz.prog 274 t274:=zV (by kernel_rfl) (by kernel_rfl) rfl
def t277:TI:=⟨39,576,[.sl 1 [],.sl 1 [],.bytes [],.int .i64 0,.int .i64 0,.int .i64 0,.int .i64 0,.bool false,.sl 1 [],.int .i64 0,.int .i64 0,.sl 8 [],.int .i64 0,.int .i64 0,.int .i64 0,.int .i64 0,.int .i64 0,.int .i64 0,.sl 2 [],.bool false,.bool false,.sl 1 [],.int .i64 0,.int .i64 0,.bool false,.int .i64 0,.sl 8 [],.sl 9 [],.sl 1 [],.sl 1 [],.int .i64 0,.sl 1 [],.sl 3 [],.sl 1 [],.sl 1 [],.int .i64 0,.bytes [],.bytes [],.int .i64 0],(.struct [(45,0),(101,30),(143,35),(3,38)])⟩
theorem zYh:TOk Tryz.prog 277 t277:=zV (by kernel_rfl) (by kernel_rfl) rfl
def t278:TI:=⟨39,576,[.sl 1 [],.sl 1 [],.bytes [],.int .i64 0,.int .i64 0,.int .i64 0,.int .i64 0,.bool false,.sl 1 [],.int .i64 0,.int .i64 0,.sl 8 [],.int .i64 0,.int .i64 0,.int .i64 0,.int .i64 0,.int .i64 0,.int .i64 0,.sl 2 [],.bool false,.bool false,.sl 1 [],.int .i64 0,.int .i64 0,.bool false,.int .i64 0,.sl 8 [],.sl 9 [],.sl 1 [],.sl 1 [],.int .i64 0,.sl 1 [],.sl 3 [],.sl 1 [],.sl 1 [],.int .i64 0,.bytes [],.bytes [],.int .i64 0],(.struct [(45,0),(101,30),(143,35),(3,38)])⟩
theorem zWc:TOk Tryz.prog 278 t278:=zV (by kernel_rfl) (by kernel_rfl) rfl
def t285:TI:=⟨24,24,List.replicate 24 (.int .u8 0),(.arr 24 5)⟩
theorem zWk:TOk Tryz.prog 285 t285:=zV (by kernel_rfl) (by kernel_rfl) rfl
def t290:TI:=⟨4,80,[.bytes [],.bytes [],.bytes [],.bool false],(.struct [(22,0),(22,1),(22,2),(4,3)])⟩
theorem zXe:TOk Tryz.prog 290 t290:=zV (by kernel_rfl) (by kernel_rfl) rfl
def t291:TI:=⟨4,80,[.bytes [],.bytes [],.bytes [],.bool false],(.struct [(22,0),(22,1),(22,2),(4,3)])⟩
theorem zZx:TOk Tryz.prog 291 t291:=zV (by kernel_rfl) (by kernel_rfl) rfl
def t301:TI:=⟨2,16,[.int .i64 0,.int .i64 0],(.arr 2 3)⟩
theorem zW3:TOk Tryz.prog 301 t301:=zV (by kernel_rfl) (by kernel_rfl) rfl
def t302:TI:=⟨2,16,[.int .i64 0,.int .i64 0],(.arr 2 3)⟩
theorem zWh:TOk Tryz.prog 302 t302:=zV (by kernel_rfl) (by kernel_rfl) rfl
def t303:TI:=⟨10,160,[.int .i64 0,.int .i64 0,.int .i64 0,.bytes [],.int .i64 0,.int .i64 0,.bytes [],.bytes [],.bytes [],.sl 1 []],(.struct [(3,0),(302,1),(22,3),(3,4),(3,5),(22,6),(22,7),(22,8),(27,9)])⟩
theorem zW5:TOk Tryz.prog 303 t303:=zV (by kernel_rfl) (by kernel_rfl) rfl
def t304:TI:=⟨10,160,[.int .i64 0,.int .i64 0,.int .i64 0,.bytes [],.int .i64 0,.int .i64 0,.bytes [],.bytes [],.bytes [],.sl 1 []],(.struct [(3,0),(302,1),(22,3),(3,4),(3,5),(22,6),(22,7),(22,8),(27,9)])⟩
theorem zZy:TOk Tryz.prog 304 t304:=zV (by kernel_rfl) (by kernel_rfl) rfl
def t307:TI:=⟨1,8,[.nilp],(.ptr 22)⟩
theorem zWm:TOk Tryz.prog 307 t307:=zV (by kernel_rfl) (by kernel_rfl) rfl
def t308:TI:=⟨1,24,[.sl 1 []],(.slice 307)⟩
theorem zWa:TOk Tryz.prog 308 t308:=zV (by kernel_rfl) (by kernel_rfl) rfl
def t336:TI:=⟨10,128,[.bytes [],.bytes [],.int .i64 0,.int .i64 0,.int .i64 0,.bool false,.int .i64 0,.int .i64 0,.int .i64 0,.bytes []],(.struct [(22,0),(22,1),(3,2),(3,3),(3,4),(4,5),(3,6),(302,7),(22,9)])⟩
theorem zWq:TOk Tryz.prog 336 t336:=zV (by kernel_rfl) (by kernel_rfl) rfl
def t337:TI:=⟨10,128,[.bytes [],.bytes [],.int .i64 0,.int .i64 0,.int .i64 0,.bool false,.int .i64 0,.int .i64 0,.int .i64 0,.bytes []],(.struct [(22,0),(22,1),(3,2),(3,3),(3,4),(4,5),(3,6),(302,7),(22,9)])⟩
theorem zWe:TOk Tryz.prog 337 t337:=zV (by kernel_rfl) (by kernel_rfl) rfl
def t358:TI:=⟨20,160,List.replicate 20 (.int .u64 0),(.arr 20 200)⟩
theorem zWf:TOk Tryz.prog 358 t358:=zV (by kernel_rfl) (by kernel_rfl) rfl
def t359:TI:=⟨65,65,List.replicate 65 (.int .u8 0),(.arr 65 5)⟩
theorem zW4:TOk Tryz.prog 359 t359:=zV (by kernel_rfl) (by kernel_rfl) rfl
def t405:TI:=⟨32,32,List.replicate 32 (.int .u8 0),(.arr 32 5)⟩
theorem zXd:TOk Tryz.prog 405 t405:=zV (by kernel_rfl) (by kernel_rfl) rfl
def t406:TI:=⟨64,64,List.replicate 64 (.int .u8 0),(.arr 64 5)⟩
theorem zY1:TOk Tryz.prog 406 t406:=zV (by kernel_rfl) (by kernel_rfl) rfl
def t416:TI:=⟨256,256,List.replicate 256 (.bool false),(.arr 256 4)⟩
theorem zZj:TOk Tryz.prog 416 t416:=zV (by kernel_rfl) (by kernel_rfl) rfl
def t417:TI:=⟨256,256,List.replicate 256 (.bool false),(.arr 256 4)⟩
theorem zXc:TOk Tryz.prog 417 t417:=zV (by kernel_rfl) (by kernel_rfl) rfl
def t421:TI:=⟨1,8,[.nilp],(.ptr 417)⟩
theorem zYb:TOk Tryz.prog 421 t421:=zV (by kernel_rfl) (by kernel_rfl) rfl
def t426:TI:=⟨256,256,List.replicate 256 (.int .u8 0),(.arr 256 5)⟩
theorem zXb:TOk Tryz.prog 426 t426:=zV (by kernel_rfl) (by kernel_rfl) rfl
def t427:TI:=⟨2,2,[.int .u8 0,.int .u8 0],(.struct [(5,0),(5,1)])⟩
theorem zWl:TOk Tryz.prog 427 t427:=zV (by kernel_rfl) (by kernel_rfl) rfl
def t428:TI:=⟨2,2,[.int .u8 0,.int .u8 0],(.struct [(5,0),(5,1)])⟩
theorem zWv:TOk Tryz.prog 428 t428:=zV (by kernel_rfl) (by kernel_rfl) rfl
def t429:TI:=⟨32,32,List.replicate 32 (.int .u8 0),(.arr 16 428)⟩
theorem zX3:TOk Tryz.prog 429 t429:=zV (by kernel_rfl) (by kernel_rfl) rfl
def t431:TI:=⟨4,40,[.nilp,.nilp,.nilp,.str []],(.struct [(17,0),(17,1),(17,2),(9,3)])⟩
theorem zYc:TOk Tryz.prog 431 t431:=zV (by kernel_rfl) (by kernel_rfl) rfl
def t432:TI:=⟨4,40,[.nilp,.nilp,.nilp,.str []],(.struct [(17,0),(17,1),(17,2),(9,3)])⟩
theorem zXw:TOk Tryz.prog 432 t432:=zV (by kernel_rfl) (by kernel_rfl) rfl
def t433:TI:=⟨0,0,[],(.arr 0 16)⟩
theorem zW6:TOk Tryz.prog 433 t433:=zV (by kernel_rfl) (by kernel_rfl) rfl
def t434:TI:=⟨0,0,[],(.struct [(433,0)])⟩
theorem zYt:TOk Tryz.prog 434 t434:=zV (by kernel_rfl) (by kernel_rfl) rfl
def t435:TI:=⟨0,0,[],(.struct [(433,0)])⟩
theorem zYl:TOk Tryz.prog 435 t435:=zV (by kernel_rfl) (by kernel_rfl) rfl
def t436:TI:=⟨1,1,[.int .u8 0],(.int .u8)⟩
theorem zYa:TOk Tryz.prog 436 t436:=zV (by kernel_rfl) (by kernel_rfl) rfl
def t437:TI:=⟨1,1,[.int .u8 0],(.int .u8)⟩
theorem zZk:TOk Tryz.prog 437 t437:=zV (by kernel_rfl) (by kernel_rfl) rfl
def t439:TI:=⟨1,8,[.nilp],(.ptr 5)⟩
theorem zYe:TOk Tryz.prog 439 t439:=zV (by kernel_rfl) (by kernel_rfl) rfl
def t440:TI:=⟨1,4,[.int .i32 0],(.int .i32)⟩
theorem zV3:TOk Tryz.prog 440 t440:=zV (by kernel_rfl) (by kernel_rfl) rfl
def t441:TI:=⟨1,4,[.int .i32 0],(.int .i32)⟩
theorem zXa:TOk Tryz.prog 441 t441:=zV (by kernel_rfl) (by kernel_rfl) rfl
def tr:Tr:=(.node 173 t173 (.node 40 t40 (.node 19 t19 (.node 10 t10 (.node 6 t6 (.node 4 t4 (.node 3 t3 (.node 2 t2 .leaf .leaf) .leaf) (.node 5 t5 .leaf .leaf)) (.node 8 t8 (.node 7 t7 .leaf .leaf) (.node 9 t9 .leaf .leaf))) (.node 15 t15 (.node 13 t13 (.node 12 t12 (.node 11 t11 .leaf .leaf) .leaf) (.node 14 t14 .leaf .leaf)) (.node 17 t17 (.node 16 t16 .leaf .leaf) (.node 18 t18 .leaf .leaf)))) (.node 31 t31 (.node 27 t27 (.node 22 t22 (.node 21 t21 (.node 20 t20 .leaf .leaf) .leaf) (.node 25 t25 .leaf .leaf)) (.node 29 t29 (.node 28 t28 .leaf .leaf) (.node 30 t30 .leaf .leaf))) (.node 36 t36 (.node 34 t34 (.node 33 t33 (.node 32 t32 .leaf .leaf) .leaf) (.node 35 t35 .leaf .leaf)) (.node 38 t38 (.node 37 t37 .leaf .leaf) (.node 39 t39 .leaf .leaf))))) (.node 92 t92 (.node 54 t54 (.node 45 t45 (.node 43 t43 (.node 42 t42 (.node 41 t41 .leaf .leaf) .leaf) (.node 44 t44 .leaf .leaf)) (.node 47 t47 (.node 46 t46 .leaf .leaf) (.node 51 t51 .leaf .leaf))) (.node 77 t77 (.node 75 t75 (.node 62 t62 (.node 61 t61 .leaf .leaf) .leaf) (.node 76 t76 .leaf .leaf)) (.node 80 t80 (.node 79 t79 .leaf .leaf) (.node 90 t90 .leaf .leaf)))) (.node 129 t129 (.node 100 t100 (.node 96 t96 (.node 95 t95 (.node 93 t93 .leaf .leaf) .leaf) (.node 99 t99 .leaf .leaf)) (.node 127 t127 (.node 101 t101 .leaf .leaf) (.node 128 t128 .leaf .leaf))) (.node 151 t151 (.node 143 t143 (.node 142 t142 .leaf .leaf) (.node 147 t147 .leaf .leaf)) (.node 171 t171 (.node 153 t153 .leaf .leaf) (.node 172 t172 .leaf .leaf)))))) (.node 274 t274 (.node 211 t211 (.node 187 t187 (.node 180 t180 (.node 178 t178 (.node 175 t175 (.node 174 t174 .leaf .leaf) .leaf) (.node 179 t179 .leaf .leaf)) (.node 185 t185 (.node 184 t184 .leaf .leaf) (.node 186 t186 .leaf .leaf))) (.node 205 t205 (.node 200 t200 (.node 196 t196 (.node 195 t195 .leaf .leaf) .leaf) (.node 204 t204 .leaf .leaf)) (.node 208 t208 (.node 206 t206 .leaf .leaf) (.node 210 t210 .leaf .leaf)))) (.node 245 t245 (.node 225 t225 (.node 219 t219 (.node 218 t218 (.node 213 t213 .leaf .leaf) .leaf) (.node 224 t224 .leaf .leaf)) (.node 232 t232 (.node 228 t228 .leaf .leaf) (.node 244 t244 .leaf .leaf))) (.node 262 t262 (.node 260 t260 (.node 259 t259 (.node 246 t246 .leaf .leaf) .leaf) (.node 261 t261 .leaf .leaf)) (.node 264 t264 (.node 263 t263 .leaf .leaf) (.node 273 t273 .leaf .leaf))))) (.node 416 t416 (.node 304 t304 (.node 291 t291 (.node 285 t285 (.node 278 t278 (.node 277 t277 .leaf .leaf) .leaf) (.node 290 t290 .leaf .leaf)) (.node 302 t302 (.node 301 t301 .leaf .leaf) (.node 303 t303 .leaf .leaf))) (.node 358 t358 (.node 336 t336 (.node 308 t308 (.node 307 t307 .leaf .leaf) .leaf) (.node 337 t337 .leaf .leaf)) (.node 405 t405 (.node 359 t359 .leaf .leaf) (.node 406 t406 .leaf .leaf)))) (.node 433 t433 (.node 428 t428 (.node 426 t426 (.node 421 t421 (.node 417 t417 .leaf .leaf) .leaf) (.node 427 t427 .leaf .leaf)) (.node 431 t431 (.node 429 t429 .leaf .leaf) (.node 432 t432 .leaf .leaf))) (.node 437 t437 (.node 435 t435 (.node 434 t434 .leaf .leaf) (.node 436 t436 .leaf .leaf)) (.node 440 t440 (.node 439 t439 .leaf .leaf) (.node 441 t441 .leaf .leaf)))))))
def te:TE:=tr.get
theorem wP:yR Tryz.prog te:=Tr.ok tr ⟨zZh,⟨yDz,⟨yCo,⟨yEa,⟨t6ok,⟨t4ok,⟨t3ok,⟨t2ok,trivial,trivial⟩,trivial⟩,⟨t5ok,trivial,trivial⟩⟩,⟨t8ok,⟨t7ok,trivial,trivial⟩,⟨t9ok,trivial,trivial⟩⟩⟩,⟨yDf,⟨yDg,⟨yEd,⟨yEp,trivial,trivial⟩,trivial⟩,⟨yD6,trivial,trivial⟩⟩,⟨yD1,⟨yCc,trivial,trivial⟩,⟨yAa,trivial,trivial⟩⟩⟩⟩,⟨yC2,⟨yAt,⟨yBl,⟨yCm,⟨yC5,trivial,trivial⟩,trivial⟩,⟨yBb,trivial,trivial⟩⟩,⟨yAy,⟨zZ8,trivial,trivial⟩,⟨yBh,trivial,trivial⟩⟩⟩,⟨yAd,⟨yEk,⟨yDe,⟨yBw,trivial,trivial⟩,trivial⟩,⟨yBc,trivial,trivial⟩⟩,⟨yA0,⟨yDx,trivial,trivial⟩,⟨yB9,trivial,trivial⟩⟩⟩⟩⟩,⟨yD2,⟨yAh,⟨yC8,⟨yD7,⟨yB8,⟨yDv,trivial,trivial⟩,trivial⟩,⟨yBz,trivial,trivial⟩⟩,⟨yB3,⟨yBo,trivial,trivial⟩,⟨yCx,trivial,trivial⟩⟩⟩,⟨yBy,⟨zZ5,⟨yCz,⟨yB5,trivial,trivial⟩,trivial⟩,⟨yDb,trivial,trivial⟩⟩,⟨yEn,⟨yCs,trivial,trivial⟩,⟨yEi,trivial,trivial⟩⟩⟩⟩,⟨zV5,⟨zYm,⟨zZ7,⟨yBx,⟨yEg,trivial,trivial⟩,trivial⟩,⟨yDw,trivial,trivial⟩⟩,⟨zX8,⟨zYd,trivial,trivial⟩,⟨zZe,trivial,trivial⟩⟩⟩,⟨zXs,⟨zYx,⟨zWo,trivial,trivial⟩,⟨zW8,trivial,trivial⟩⟩,⟨zWt,⟨zY7,trivial,trivial⟩,⟨zXn,trivial,trivial⟩⟩⟩⟩⟩⟩,⟨zZs,⟨zX4,⟨zXi,⟨zY6,⟨zXj,⟨zZa,⟨zW7,trivial,trivial⟩,trivial⟩,⟨zXp,trivial,trivial⟩⟩,⟨zYu,⟨zY3,trivial,trivial⟩,⟨zW0,trivial,trivial⟩⟩⟩,⟨zWz,⟨zYo,⟨zZc,⟨zYv,trivial,trivial⟩,trivial⟩,⟨zZo,trivial,trivial⟩⟩,⟨zZi,⟨zY4,trivial,trivial⟩,⟨zYp,trivial,trivial⟩⟩⟩⟩,⟨zZf,⟨zY9,⟨zZg,⟨zY0,⟨zXy,trivial,trivial⟩,trivial⟩,⟨zXh,trivial,trivial⟩⟩,⟨zXm,⟨zWx,trivial,trivial⟩,⟨zX0,trivial,trivial⟩⟩⟩,⟨zX5,⟨zXv,⟨zZt,⟨zY2,trivial,trivial⟩,trivial⟩,⟨zX1,trivial,trivial⟩⟩,⟨zX7,⟨zYw,trivial,trivial⟩,⟨zWi,trivial,trivial⟩⟩⟩⟩⟩,⟨zZj,⟨zZy,⟨zZx,⟨zWk,⟨zWc,⟨zYh,trivial,trivial⟩,trivial⟩,⟨zXe,trivial,trivial⟩⟩,⟨zWh,⟨zW3,trivial,trivial⟩,⟨zW5,trivial,trivial⟩⟩⟩,⟨zWf,⟨zWq,⟨zWa,⟨zWm,trivial,trivial⟩,trivial⟩,⟨zWe,trivial,trivial⟩⟩,⟨zXd,⟨zW4,trivial,trivial⟩,⟨zY1,trivial,trivial⟩⟩⟩⟩,⟨zW6,⟨zWv,⟨zXb,⟨zYb,⟨zXc,trivial,trivial⟩,trivial⟩,⟨zWl,trivial,trivial⟩⟩,⟨zYc,⟨zX3,trivial,trivial⟩,⟨zXw,trivial,trivial⟩⟩⟩,⟨zZk,⟨zYl,⟨zYt,trivial,trivial⟩,⟨zYa,trivial,trivial⟩⟩,⟨zV3,⟨zYe,trivial,trivial⟩,⟨zXa,trivial,trivial⟩⟩⟩⟩⟩⟩⟩
end Go.Proofs.Tryz.S
namespace Go.Proofs.H
open Go Go.Proofs
def nameByte (c:UInt8):Bool:=(decide (97<=c.toNat)&&decide (c.toNat<=122))||(decide (48<=c.toNat)&&decide (c.toNat<=57))||decide (c.toNat=45)
def nameAll (s:ByteArray) (pos:Nat):Bool:=(s.data.toList.drop pos).all nameByte
theorem nb_len {n:Nat} {x:Bool} (h:¬ (1<=n/\n<=12)):(decide (1<=n)&&decide (n<=12)&&x)=false:=by
 by_cases h1:1<=n
 ·have:¬ n<=12:=λh2=>h ⟨h1,h2⟩
  simp [this]
 ·simp [h1]
theorem nb_in {n:Nat} {x:Bool} (h:1<=n/\n<=12):(decide (1<=n)&&decide (n<=12)&&x)=x:=by simp [h.1,h.2]
theorem nameAll_step {s:ByteArray} {pos:Nat} (hp:pos<s.size):nameAll s pos=(nameByte (s[pos]'hp)&&nameAll s (pos+1)):=by
 unfold nameAll
 rw [List.drop_eq_getElem_cons (by simpa using hp)]
 simp only [List.all_cons]
 rfl
theorem name_facts (s:ByteArray) (pos:Nat) (hp:pos<s.size) {rn:Nat×Nat} (hd:Utf8.decode s pos=rn) :
  (rn.1<128->rn.2=1/\nameAll s pos=((decide (97<=rn.1)&&decide (rn.1<=122)||decide (48<=rn.1)&&decide (rn.1<=57)||decide (rn.1=45))&&nameAll s (pos+1)))/\(128<=rn.1->nameAll s pos=false):=by
 rw [nameAll_step hp]
 by_cases ha:(s[pos]'hp).toNat<128
 ·rw [decode_ascii s pos hp ha] at hd
  subst hd
  exact ⟨λ_=>⟨rfl,rfl⟩,λh=>by simp only at h;omega⟩
 ·have h2:=decode_high s pos hp (by omega)
  rw [hd] at h2
  refine ⟨λh=>by omega,λ_=>?_⟩
  have:nameByte (s[pos]'hp)=false:=by
   unfold nameByte
   simp only [Bool.or_eq_false_iff,Bool.and_eq_false_iff,decide_eq_false_iff_not]
   omega
  simp [this]
theorem name_no (s:ByteArray) (pos:Nat) (hp:pos<s.size) {rn:Nat×Nat} (hd:Utf8.decode s pos=rn) (h1:rn.1<97∨122<rn.1) (h2:rn.1<48∨57<rn.1) (h3:rn.1≠45):nameAll s pos=false:=by
 obtain ⟨f1,f2⟩:=name_facts s pos hp hd
 by_cases h:rn.1<128
 ·rw [(f1 h).2]
  have:(decide (97<=rn.1)&&decide (rn.1<=122)||decide (48<=rn.1)&&decide (rn.1<=57)||decide (rn.1=45))=false:=by
   simp only [Bool.or_eq_false_iff,Bool.and_eq_false_iff,decide_eq_false_iff_not]
   omega
  simp [this]
 ·exact f2 (by omega)
theorem name_yes (s:ByteArray) (pos:Nat) (hp:pos<s.size) {rn:Nat×Nat} (hd:Utf8.decode s pos=rn) (h1:(97<=rn.1/\rn.1<=122)∨(48<=rn.1/\rn.1<=57)∨rn.1=45):rn.2=1/\nameAll s pos=nameAll s (pos+1):=by
 obtain ⟨f1,_⟩:=name_facts s pos hp hd
 obtain ⟨f2,f3⟩:=f1 (by omega)
 refine ⟨f2,?_⟩
 rw [f3]
 have:(decide (97<=rn.1)&&decide (rn.1<=122)||decide (48<=rn.1)&&decide (rn.1<=57)||decide (rn.1=45))=true:=by
  simp only [Bool.or_eq_true,Bool.and_eq_true,decide_eq_true_eq]
  omega
 simp [this]
set_option maxRecDepth 1000000 in
set_option maxHeartbeats 4000000 in
theorem walk_named (s:ByteArray) (w:World) :
  Calls Tryz.prog 160 #[.string s] w λe w'=>e=.returned (.bool (decide (1<=s.size)&&decide (s.size<=12)&&nameAll s 0))/\(w'=w∨∃ pos,w'=w.iter s pos):=by
 go_enter Tryz.func160,Tryz.ntmps160
 go_wp2
 ·rename_i h1 h2
  go_ret
  refine ⟨?_,.inl rfl⟩
  rw [nb_len (by omega)]
  rfl
 ·rename_i h1 h2
  go_loopw [] (λw'=>∃ (pos:Nat),w'=w.iter s pos/\pos<=s.size/\nameAll s pos=nameAll s 0) (λw'=>s.size - w'.iterPos w.heap.size)
  case atStart=>exact ⟨0,rfl,by omega,rfl⟩
  case round=>
   obtain ⟨pos,rfl,hb,hc⟩:=hrel
   by_cases hp:pos<s.size
   ·have hnx:∀ ty,(Instr.next (.pointer (some ⟨w.heap.size,0,none⟩)) true ty).run Tryz.prog (w.iter s pos)=_:=λty=>run_next_any w s pos ty hp
    generalize hd:Utf8.decode s pos=rn at hnx
    go_wp2
    ·go_ret
     refine ⟨?_,.inr ⟨_,rfl⟩⟩
     rw [nb_in (by omega),<- hc]
     try simp only [bne_iff_ne,ne_eq] at *
     rw [name_no s pos hp hd (by omega) (by omega) (by omega)]
     rfl
    ·have hy:(97<=rn.1/\rn.1<=122)∨(48<=rn.1/\rn.1<=57)∨rn.1=45:=by
      try simp only [bne_eq_false_iff_eq] at *
      omega
     obtain ⟨y1,y2⟩:=name_yes s pos hp hd hy
     refine ⟨⟨pos+rn.snd,rfl,by omega,?_⟩,?_⟩
     ·rw [y1,<- y2];exact hc
     ·simp
      omega
    ·have hy:(97<=rn.1/\rn.1<=122)∨(48<=rn.1/\rn.1<=57)∨rn.1=45:=by
      try simp only [bne_eq_false_iff_eq] at *
      omega
     obtain ⟨y1,y2⟩:=name_yes s pos hp hd hy
     refine ⟨⟨pos+rn.snd,rfl,by omega,?_⟩,?_⟩
     ·rw [y1,<- y2];exact hc
     ·simp
      omega
    ·go_ret
     refine ⟨?_,.inr ⟨_,rfl⟩⟩
     rw [nb_in (by omega),<- hc]
     try simp only [bne_iff_ne,ne_eq] at *
     rw [name_no s pos hp hd (by omega) (by omega) (by omega)]
     rfl
    ·have hy:(97<=rn.1/\rn.1<=122)∨(48<=rn.1/\rn.1<=57)∨rn.1=45:=by
      try simp only [bne_eq_false_iff_eq] at *
      omega
     obtain ⟨y1,y2⟩:=name_yes s pos hp hd hy
     refine ⟨⟨pos+rn.snd,rfl,by omega,?_⟩,?_⟩
     ·rw [y1,<- y2];exact hc
     ·simp
      omega
    ·have hy:(97<=rn.1/\rn.1<=122)∨(48<=rn.1/\rn.1<=57)∨rn.1=45:=by
      try simp only [bne_eq_false_iff_eq] at *
      omega
     obtain ⟨y1,y2⟩:=name_yes s pos hp hd hy
     refine ⟨⟨pos+rn.snd,rfl,by omega,?_⟩,?_⟩
     ·rw [y1,<- y2];exact hc
     ·simp
      omega
    ·go_ret
     refine ⟨?_,.inr ⟨_,rfl⟩⟩
     rw [nb_in (by omega),<- hc]
     try simp only [bne_iff_ne,ne_eq] at *
     rw [name_no s pos hp hd (by omega) (by omega) (by omega)]
     rfl
    ·have hy:(97<=rn.1/\rn.1<=122)∨(48<=rn.1/\rn.1<=57)∨rn.1=45:=by
      try simp only [bne_eq_false_iff_eq] at *
      omega
     obtain ⟨y1,y2⟩:=name_yes s pos hp hd hy
     refine ⟨⟨pos+rn.snd,rfl,by omega,?_⟩,?_⟩
     ·rw [y1,<- y2];exact hc
     ·simp
      omega
   ·have hnx:∀ ty,(Instr.next (.pointer (some ⟨w.heap.size,0,none⟩)) true ty).run Tryz.prog (w.iter s pos)=_:=λty=>run_next_end w s pos ty hp
    go_wp2
    go_ret
    refine ⟨?_,.inr ⟨_,rfl⟩⟩
    rw [nb_in (by omega),<- hc]
    have:nameAll s pos=true:=by
     unfold nameAll
     rw [List.drop_eq_nil_of_le (by simp;omega)]
     rfl
    rw [this]
    rfl
 ·rename_i h1
  go_ret
  refine ⟨?_,.inl rfl⟩
  rw [nb_len (by omega)]
  rfl
open Go Go.Proofs Go.RowKit
theorem u22:Tryz.prog.underlying 22=some (.slice 5):=by kernel_rfl
theorem i5:(Tryz.prog.info? 5).map (·.size)=some 1:=by kernel_rfl
theorem run_mnz (w:World) (n:Nat) (hn:n<=64):∃ cs:Array Value,(callFunc 299 #[.int .i64 n]).run Tryz.prog w=.ok (.value (.slice (some ⟨w.heap.size,0,none⟩) n cs.size)) (w.drew.drew.alloc (.cells cs 5))/\n<=cs.size:=by
 obtain ⟨cs,h1,h2,h3,h4⟩:=Lib.run_makeNoZero_cap (P:=Tryz.prog) w #[3] 22 5 u22 n (by omega)
 refine ⟨cs,?_,h2⟩
 have:=run_callFunc_extern (P:=Tryz.prog) Tryz.func299 (by kernel_rfl) (by kernel_rfl) (by kernel_rfl) (e:=Extern.BytealgMakeNoZero.makeNoZero #[3] #[22]) (by kernel_rfl) #[.int .i64 n] w
 rw [h1] at this
 exact this
def dr (d:Nat) (w:World):World:={ w with drawn:=d }
set_option maxRecDepth 1000000 in
set_option maxHeartbeats 4000000 in
theorem walk_rep32 (b o c:Nat) (x:UInt8) (w:World) (hc:w.cell? ⟨b,o,none⟩=some (.int .u8 x.toNat)) :
  Calls Tryz.prog 231 #[.slice (some ⟨b,o,none⟩) 1 c,.int .i64 32] w λe w'=>e=.returned (.slice (some ⟨w.heap.size,0,none⟩) 32 32)/\∃ cs d cur,w'=(dr d (w.alloc (.cells cs 5))).setRow w.heap.size cur/\∀ j,j<32->cur[j]? = some (.int .u8 x.toNat):=by
 obtain ⟨cs,hm,hcs⟩:=run_mnz w 32 (by omega)
 have hm':(callFunc 299 #[.int .i64 32]).run Tryz.prog w=.ok (.value (.slice (some ⟨w.heap.size,0,none⟩) 32 cs.size)) (w.drew.drew.alloc (.cells cs 5)):=hm
 have hblt:b<w.heap.size:=World.block_lt_of_cell? w _ hc
 have hg2:(w.alloc (.cells cs 5)).drew.drew.heap[w.heap.size]? = some (.cells cs 5 (0,0)):=heap_alloc_new w _
 have hc2:(w.alloc (.cells cs 5)).drew.drew.cell? ⟨b,o,none⟩=some (.int .u8 x.toNat):=by
  have:=World.cell?_alloc_lt w (.cells cs 5) ⟨b,o,none⟩ hblt
  rw [<- hc,<- this]
  rfl
 have hcp:∀ ty,(Builtin.copy_ #[22,22] ty #[.slice (some ⟨w.heap.size,0,none⟩) 32 32,.slice (some ⟨b,o,none⟩) 1 c]).run Tryz.prog (w.alloc (.cells cs 5)).drew.drew=_:=λty=>
  run_copy_row (P:=Tryz.prog) (w.alloc (.cells cs 5)).drew.drew 22 22 ty 5 w.heap.size 0 32 32 ⟨b,o,none⟩ 1 c cs 5 [.int .u8 x.toNat] u22 i5 hg2 rfl (by intro j v hj;rcases j with _ | j;(simp at hj;subst hj;simpa [Addr.add] using hc2);simp at hj) (by simp;omega) (by simp [Value.oneCell'])
 go_enter Tryz.func231,Tryz.ntmps231
 go_wp2
 have hg3:∀ d,(dr d (w.alloc (.cells cs 5))).heap[w.heap.size]? = some (.cells cs 5 (0,0)):=λ_=>hg2
 go_loopw [10] (λv wr=>∃ (bp d:Nat) (cur:Array Value),v=.int .i64 bp/\1<=bp/\bp<=32/\wr=(dr d (w.alloc (.cells cs 5))).setRow w.heap.size cur/\cur.size=cs.size/\∀ j,j<bp->cur[j]? = some (.int .u8 x.toNat)) (λv _=>32 - (intOf v).toNat)
 case atStart=>
  refine ⟨1,w.drawn+2,_,rfl,by omega,by omega,rfl,by simp;omega,λj hj=>(match j,hj with | 0,_=>rfl)⟩
 case round=>
  obtain ⟨bp,d,cur,rfl,hb1,hb2,rfl,hsz,hcur⟩:=hrel
  by_cases hlt:bp<32
  ·obtain ⟨m,hm0,hm1,hm2,hm3⟩:∃ m,m=Nat.min bp (32 - bp)/\m<=bp/\m<=32 - bp/\1<=m:=⟨_,rfl,Nat.min_le_left _ _,Nat.min_le_right _ _,by show 1<=min bp (32 - bp);omega⟩
   have hcp2:∀ ty,(Builtin.copy_ #[22,22] ty #[.slice (some ⟨w.heap.size,bp,none⟩) (32 - bp) (32 - bp),.slice (some ⟨w.heap.size,0,none⟩) bp 32]).run Tryz.prog ((dr d (w.alloc (.cells cs 5))).setRow w.heap.size cur).drew=_:=λty=>
    run_copy_row (P:=Tryz.prog) ((dr d (w.alloc (.cells cs 5))).setRow w.heap.size cur).drew 22 22 ty 5 w.heap.size bp (32 - bp) (32 - bp) ⟨w.heap.size,0,none⟩ bp 32 cur 5 (List.replicate m (.int .u8 x.toNat)) u22 i5 (setRow_heap _ _ _ _ _ _ (hg3 d)) (by simp [hm0]) (by
     intro j v hj
     rw [List.getElem?_replicate] at hj
     split at hj
     ·cases hj
      have:(⟨w.heap.size,0,none⟩:Addr).add j=⟨w.heap.size,j,none⟩:=by rw [Sw.add_off,Nat.zero_add]
      rw [this]
      exact (cell_setRow_same (dr d (w.alloc (.cells cs 5))) _ _ _ _ _ _ (hg3 d)).trans (hcur j (by omega))
     ·cases hj) (by simp;omega) (by intro v hv;rw [List.eq_of_mem_replicate hv];rfl)
   go_wp2
   go_region
   go_wp2
   rw [<- hm0]
   refine ⟨⟨bp+m,d+1,(cur.toList.take bp++(List.replicate m (Value.int .u8 x.toNat)++cur.toList.drop (bp+m))).toArray,by simp,by omega,by omega,?_,?_,?_⟩,?_⟩
   ·show (((dr (d+1) (w.alloc (.cells cs 5))).setRow w.heap.size cur).setRow w.heap.size _)=_
    rw [setRow_setRow]
   ·simp
    omega
   ·intro j hj
    simp only [List.getElem?_toArray]
    by_cases h1:j<bp
    ·rw [List.getElem?_append_left (by simp;omega),List.getElem?_take,if_pos h1]
     simpa using hcur j h1
    ·rw [List.getElem?_append_right (by simp;omega),List.getElem?_append_left (by simp;omega),List.getElem?_replicate,if_pos (by simp;omega)]
   ·simp [intOf]
    omega
  ·have:bp=32:=by omega
   subst this
   go_wp2
   go_ret
   exact ⟨rfl,cs,d,cur,rfl,hcur⟩
set_option maxRecDepth 1000000 in
set_option maxHeartbeats 4000000 in
theorem walk_rep20 (b o c:Nat) (x:UInt8) (w:World) (hc:w.cell? ⟨b,o,none⟩=some (.int .u8 x.toNat)) :
  Calls Tryz.prog 231 #[.slice (some ⟨b,o,none⟩) 1 c,.int .i64 20] w λe w'=>e=.returned (.slice (some ⟨w.heap.size,0,none⟩) 20 20)/\∃ cs d cur,w'=(dr d (w.alloc (.cells cs 5))).setRow w.heap.size cur/\∀ j,j<20->cur[j]? = some (.int .u8 x.toNat):=by
 obtain ⟨cs,hm,hcs⟩:=run_mnz w 20 (by omega)
 have hm':(callFunc 299 #[.int .i64 20]).run Tryz.prog w=.ok (.value (.slice (some ⟨w.heap.size,0,none⟩) 20 cs.size)) (w.drew.drew.alloc (.cells cs 5)):=hm
 have hblt:b<w.heap.size:=World.block_lt_of_cell? w _ hc
 have hg2:(w.alloc (.cells cs 5)).drew.drew.heap[w.heap.size]? = some (.cells cs 5 (0,0)):=heap_alloc_new w _
 have hc2:(w.alloc (.cells cs 5)).drew.drew.cell? ⟨b,o,none⟩=some (.int .u8 x.toNat):=by
  have:=World.cell?_alloc_lt w (.cells cs 5) ⟨b,o,none⟩ hblt
  rw [<- hc,<- this]
  rfl
 have hcp:∀ ty,(Builtin.copy_ #[22,22] ty #[.slice (some ⟨w.heap.size,0,none⟩) 20 20,.slice (some ⟨b,o,none⟩) 1 c]).run Tryz.prog (w.alloc (.cells cs 5)).drew.drew=_:=λty=>
  run_copy_row (P:=Tryz.prog) (w.alloc (.cells cs 5)).drew.drew 22 22 ty 5 w.heap.size 0 20 20 ⟨b,o,none⟩ 1 c cs 5 [.int .u8 x.toNat] u22 i5 hg2 rfl (by intro j v hj;rcases j with _ | j;(simp at hj;subst hj;simpa [Addr.add] using hc2);simp at hj) (by simp;omega) (by simp [Value.oneCell'])
 go_enter Tryz.func231,Tryz.ntmps231
 go_wp2
 have hg3:∀ d,(dr d (w.alloc (.cells cs 5))).heap[w.heap.size]? = some (.cells cs 5 (0,0)):=λ_=>hg2
 go_loopw [10] (λv wr=>∃ (bp d:Nat) (cur:Array Value),v=.int .i64 bp/\1<=bp/\bp<=20/\wr=(dr d (w.alloc (.cells cs 5))).setRow w.heap.size cur/\cur.size=cs.size/\∀ j,j<bp->cur[j]? = some (.int .u8 x.toNat)) (λv _=>20 - (intOf v).toNat)
 case atStart=>
  refine ⟨1,w.drawn+2,_,rfl,by omega,by omega,rfl,by simp;omega,λj hj=>(match j,hj with | 0,_=>rfl)⟩
 case round=>
  obtain ⟨bp,d,cur,rfl,hb1,hb2,rfl,hsz,hcur⟩:=hrel
  by_cases hlt:bp<20
  ·obtain ⟨m,hm0,hm1,hm2,hm3⟩:∃ m,m=Nat.min bp (20 - bp)/\m<=bp/\m<=20 - bp/\1<=m:=⟨_,rfl,Nat.min_le_left _ _,Nat.min_le_right _ _,by show 1<=min bp (20 - bp);omega⟩
   have hcp2:∀ ty,(Builtin.copy_ #[22,22] ty #[.slice (some ⟨w.heap.size,bp,none⟩) (20 - bp) (20 - bp),.slice (some ⟨w.heap.size,0,none⟩) bp 20]).run Tryz.prog ((dr d (w.alloc (.cells cs 5))).setRow w.heap.size cur).drew=_:=λty=>
    run_copy_row (P:=Tryz.prog) ((dr d (w.alloc (.cells cs 5))).setRow w.heap.size cur).drew 22 22 ty 5 w.heap.size bp (20 - bp) (20 - bp) ⟨w.heap.size,0,none⟩ bp 20 cur 5 (List.replicate m (.int .u8 x.toNat)) u22 i5 (setRow_heap _ _ _ _ _ _ (hg3 d)) (by simp [hm0]) (by
     intro j v hj
     rw [List.getElem?_replicate] at hj
     split at hj
     ·cases hj
      have:(⟨w.heap.size,0,none⟩:Addr).add j=⟨w.heap.size,j,none⟩:=by rw [Sw.add_off,Nat.zero_add]
      rw [this]
      exact (cell_setRow_same (dr d (w.alloc (.cells cs 5))) _ _ _ _ _ _ (hg3 d)).trans (hcur j (by omega))
     ·cases hj) (by simp;omega) (by intro v hv;rw [List.eq_of_mem_replicate hv];rfl)
   go_wp2
   go_region
   go_wp2
   rw [<- hm0]
   refine ⟨⟨bp+m,d+1,(cur.toList.take bp++(List.replicate m (Value.int .u8 x.toNat)++cur.toList.drop (bp+m))).toArray,by simp,by omega,by omega,?_,?_,?_⟩,?_⟩
   ·show (((dr (d+1) (w.alloc (.cells cs 5))).setRow w.heap.size cur).setRow w.heap.size _)=_
    rw [setRow_setRow]
   ·simp
    omega
   ·intro j hj
    simp only [List.getElem?_toArray]
    by_cases h1:j<bp
    ·rw [List.getElem?_append_left (by simp;omega),List.getElem?_take,if_pos h1]
     simpa using hcur j h1
    ·rw [List.getElem?_append_right (by simp;omega),List.getElem?_append_left (by simp;omega),List.getElem?_replicate,if_pos (by simp;omega)]
   ·simp [intOf]
    omega
  ·have:bp=20:=by omega
   subst this
   go_wp2
   go_ret
   exact ⟨rfl,cs,d,cur,rfl,hcur⟩
end Go.Proofs.H
namespace Go.Sw
open Go
theorem ok_handG {P:Program} {f:FuncId} {ps:List PV} {r:AV} (hc:Callable P f)
  (h:∀ (w:World) (M:Mem) (args:Array Value),GlobOk w M->(∀ b o x,M b o=some x->w.cell? ⟨b,o,none⟩=some x)->args.size=ps.length->(∀ (j:Nat) (p:PV),ps[j]? = some p->Rep M p (args.getD j undef)) ->
   Calls P f args w λe w'=>∃ v M',e=.returned v/\w'.os=w.os/\w'.tape=w.tape/\w'.output=w.output/\w.heap.size<=w'.heap.size/\(∀ b,b<w.heap.size->w'.heap[b]? = w.heap[b]?)/\M.le M'/\(∀ b o x,M' b o=some x->w'.cell? ⟨b,o,none⟩=some x)/\(∀ b o,b<w.heap.size->M' b o=M b o)/\RepA M' (λ_=>none) (λ_=>undef) (lk []) r v) :
  Ok P f ps.length (mkS (argE 0 ps) []) (mkS [(0,r)] []):=by
 refine ⟨hc,λw M pk args κ tip hi hp=>?_⟩
 have hpk:pk=[]:=by
  cases pk with
  | nil=>rfl
  | cons e l=>
   have:=(hp e (by simp)).1
   rw [hi.dom e.1 rfl] at this
   cases this
 subst hpk
 refine (h w M args hi.glob hi.mem hi.size ?_).mono ?_
 ·intro j p hj
  have hlt:j<ps.length:=(List.getElem?_eq_some_iff.1 hj).1
  have hget:∀ (l:List PV) (i j:Nat) (p:PV),l[j]? = some p->lk (argE i l) (i+j)=some (.p p):=by
   intro l
   induction l with
   | nil=>intro i j p h;simp at h
   | cons q r ih=>
    intro i j p h
    cases j with
    | zero=>simp at h;subst h;simp [argE,lk]
    | succ j=>
     have:Nat.beq (i+(j+1)) i=false:=by rw [Bool.eq_false_iff];intro e;have:=Nat.eq_of_beq_eq_true e;omega
     simp only [argE,lk,this,cond_false]
     rw [show i+(j+1)=(i+1)+j by omega]
     exact ih (i+1) j p (by simpa using h)
  obtain ⟨x,h1,h2⟩:=hi.env j (.p p) (by have:=hget ps 0 j p hj;rw [Nat.zero_add] at this;exact this)
  rw [Array.getD_eq_getD_getElem?]
  simp only at h1
  rw [h1]
  exact repA_pv h2
 ·rintro e w' ⟨v,M',rfl,h1,h2,h3,h4,h5,h6,h7,h8,h9⟩
  refine ⟨v,rfl,M',λ_=>none,λ_=>undef,h6,by simp,{
   defers:=rfl
   size:=rfl
   fr:=⟨h1,h2,h3,h4,λb hb _=>h5 b hb⟩
   mem:=h7
   env:=λt u e=>by
    simp only [mkS,lk] at e
    cases hb:Nat.beq t 0 with
    | true=>
     have:=Nat.eq_of_beq_eq_true hb
     subst this
     simp at e
     subst e
     exact ⟨v,rfl,h9⟩
    | false=>simp [hb] at e
   vars:=λk l h=>by simp [mkS,lk] at h
   bufs:=λk c h=>by simp [mkS,lk] at h
   inj:=λk k' b h=>by simp at h
   dom:=λ_ _=>rfl
   old:=λb o hb=>h8 b o hb
   glob:=hi.glob.mono h6
   owns:=λk wd l h=>by simp [mkS,lk] at h }⟩
theorem ok_hand {P:Program} {f:FuncId} {ps:List PV} {r:PV} (hc:Callable P f)
  (h:∀ (w:World) (M:Mem) (args:Array Value),(∀ b o x,M b o=some x->w.cell? ⟨b,o,none⟩=some x)->args.size=ps.length->(∀ (j:Nat) (p:PV),ps[j]? = some p->Rep M p (args.getD j undef)) ->
   Calls P f args w λe w'=>∃ v M',e=.returned v/\w'.os=w.os/\w'.tape=w.tape/\w'.output=w.output/\w.heap.size<=w'.heap.size/\(∀ b,b<w.heap.size->w'.heap[b]? = w.heap[b]?)/\M.le M'/\(∀ b o x,M' b o=some x->w'.cell? ⟨b,o,none⟩=some x)/\(∀ b o,b<w.heap.size->M' b o=M b o)/\Rep M' r v) :
  Ok P f ps.length (mkS (argE 0 ps) []) (mkS [(0,.p r)] []):=
 ok_handG hc λw M args _ a b c=>(h w M args a b c).mono λe w' ⟨v,M',h0,h1,h2,h3,h4,h5,h6,h7,h8,h9⟩ =>⟨v,M',h0,h1,h2,h3,h4,h5,h6,h7,h8,.p _ _ h9⟩
end Go.Sw
