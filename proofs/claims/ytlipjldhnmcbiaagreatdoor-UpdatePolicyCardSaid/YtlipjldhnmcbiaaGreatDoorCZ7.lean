/- UpdatePolicy holds for all inputs -/
import Derived.Test.YtlipjldhnmcbiaaGreatDoorCZ6
import Derived.Test.YtlipjldhnmcbiaaGreatDoorCZ2
import Derived.Test.YtlipjldhnmcbiaaGreatDoorProg
import Derived.Test.YtlipjldhnmcbiaaGreatDoorCZ4
import Derived.Tactics
import Derived.Tactics2
import Derived.StillTactics
import Derived.Laws.RangeString
import Derived.Laws.RangeAny
import Derived.Laws.Runes
import Derived.Laws.Small
import Derived.Laws.Strings
import Derived.Scope
import Derived.LoopTactic
import Derived.Handy
import Derived.Laws.CopyRow
import Derived.Laws.Slices
import Derived.Laws.MathBits
import Derived.Laws.Bits128
import Derived.Room.MakeNoZero
import Derived.Laws.AppendOwn
set_option linter.all false
namespace Go.Proofs.Tryz.S
open Go Go.Sw
set_option maxRecDepth 100000
def t2:TI:=⟨1,8,[.int .i64 0],(.int .i64)⟩
def t3:TI:=⟨1,8,[.int .i64 0],(.int .i64)⟩
def t4:TI:=⟨1,1,[.bool false],.bool⟩
def t5:TI:=⟨1,1,[.int .u8 0],(.int .u8)⟩
def t6:TI:=⟨1,1,[.int .u8 0],(.int .u8)⟩
def t7:TI:=⟨4,24,[.int .i64 0,.int .i64 0,.bool false,.int .u8 0],(.struct [(2,0),(3,1),(4,2),(6,3)])⟩
def t8:TI:=⟨4,24,[.int .i64 0,.int .i64 0,.bool false,.int .u8 0],(.struct [(2,0),(3,1),(4,2),(6,3)])⟩
def t9:TI:=⟨1,16,[.str []],.str⟩
def t10:TI:=⟨1,16,[.str []],.str⟩
def t11:TI:=⟨1,16,[.str []],.str⟩
def t12:TI:=⟨1,8,[.int .u64 0],(.int .u64)⟩
def t13:TI:=⟨2,24,[.str [],.int .u64 0],(.struct [(9,0),(12,1)])⟩
def t14:TI:=⟨2,24,[.str [],.int .u64 0],(.struct [(9,0),(12,1)])⟩
def t15:TI:=⟨1,8,[.nilp],(.ptr 475)⟩
def t16:TI:=⟨1,8,[.nilp],(.ptr 478)⟩
def t17:TI:=⟨1,8,[.nilp],(.ptr 486)⟩
def t18:TI:=⟨1,8,[.nilp],(.struct [(17,0)])⟩
def t19:TI:=⟨1,8,[.nilp],(.struct [(17,0)])⟩
def t20:TI:=⟨1,16,[.err false],.iface⟩
def t21:TI:=⟨1,4,[.int .i32 0],(.int .i32)⟩
def t22:TI:=⟨1,24,[.bytes []],(.slice 5)⟩
def t25:TI:=⟨1,24,[.sl 1 []],(.slice 26)⟩
def t26:TI:=⟨1,24,[.sl 4 []],(.slice 82)⟩
def t29:TI:=⟨8,112,[.int .i64 0,.int .i64 0,.int .i64 0,.int .i64 0,.bytes [],.bytes [],.bool false,.bytes []],(.struct [(3,0),(3,1),(3,2),(3,3),(22,4),(22,5),(4,6),(22,7)])⟩
def t30:TI:=⟨8,112,[.int .i64 0,.int .i64 0,.int .i64 0,.int .i64 0,.bytes [],.bytes [],.bool false,.bytes []],(.struct [(3,0),(3,1),(3,2),(3,3),(22,4),(22,5),(4,6),(22,7)])⟩
def t32:TI:=⟨1,8,[.int .i64 0],(.int .i64)⟩
def t37:TI:=⟨1,24,[.sl 1 []],(.slice 22)⟩
def t38:TI:=⟨5,56,[.sl 1 [],.int .i64 0,.int .i64 0,.int .i64 0,.bool false],(.struct [(37,0),(3,1),(3,2),(3,3),(4,4)])⟩
def t39:TI:=⟨5,56,[.sl 1 [],.int .i64 0,.int .i64 0,.int .i64 0,.bool false],(.struct [(37,0),(3,1),(3,2),(3,3),(4,4)])⟩
def t40:TI:=⟨1,24,[.sl 1 []],(.slice 37)⟩
def t41:TI:=⟨2,32,[.sl 1 [],.int .i64 0],(.struct [(40,0),(3,1)])⟩
def t42:TI:=⟨2,32,[.sl 1 [],.int .i64 0],(.struct [(40,0),(3,1)])⟩
def t43:TI:=⟨1,24,[.sl 8 []],(.slice 30)⟩
def t44:TI:=⟨6,48,[.int .i64 0,.int .i64 0,.int .i64 0,.int .i64 0,.int .i64 0,.int .i64 0],(.struct [(3,0),(3,1),(3,2),(3,3),(3,4),(3,5)])⟩
def t45:TI:=⟨6,48,[.int .i64 0,.int .i64 0,.int .i64 0,.int .i64 0,.int .i64 0,.int .i64 0],(.struct [(3,0),(3,1),(3,2),(3,3),(3,4),(3,5)])⟩
def t46:TI:=⟨1,24,[.sl 2 []],(.slice 200)⟩
def t47:TI:=⟨19,248,[.sl 1 [],.sl 1 [],.bytes [],.int .i64 0,.int .i64 0,.int .i64 0,.int .i64 0,.bool false,.sl 1 [],.int .i64 0,.int .i64 0,.sl 8 [],.int .i64 0,.int .i64 0,.int .i64 0,.int .i64 0,.int .i64 0,.int .i64 0,.sl 2 []],(.struct [(37,0),(37,1),(22,2),(3,3),(3,4),(3,5),(3,6),(4,7),(42,8),(3,10),(43,11),(45,12),(46,18)])⟩
def t48:TI:=⟨19,248,[.sl 1 [],.sl 1 [],.bytes [],.int .i64 0,.int .i64 0,.int .i64 0,.int .i64 0,.bool false,.sl 1 [],.int .i64 0,.int .i64 0,.sl 8 [],.int .i64 0,.int .i64 0,.int .i64 0,.int .i64 0,.int .i64 0,.int .i64 0,.sl 2 []],(.struct [(37,0),(37,1),(22,2),(3,3),(3,4),(3,5),(3,6),(4,7),(42,8),(3,10),(43,11),(45,12),(46,18)])⟩
def t49:TI:=⟨1,24,[.sl 8 []],(.slice 333)⟩
def t50:TI:=⟨1,24,[.sl 9 []],(.slice 227)⟩
def t51:TI:=⟨1,24,[.sl 1 []],(.slice 3)⟩
def t52:TI:=⟨11,160,[.bool false,.bool false,.sl 1 [],.int .i64 0,.int .i64 0,.bool false,.int .i64 0,.sl 8 [],.sl 9 [],.sl 1 [],.sl 1 []],(.struct [(4,0),(4,1),(42,2),(3,4),(4,5),(3,6),(49,7),(50,8),(51,9),(51,10)])⟩
def t53:TI:=⟨11,160,[.bool false,.bool false,.sl 1 [],.int .i64 0,.int .i64 0,.bool false,.int .i64 0,.sl 8 [],.sl 9 [],.sl 1 [],.sl 1 []],(.struct [(4,0),(4,1),(42,2),(3,4),(4,5),(3,6),(49,7),(50,8),(51,9),(51,10)])⟩
def t54:TI:=⟨30,408,[.sl 1 [],.sl 1 [],.bytes [],.int .i64 0,.int .i64 0,.int .i64 0,.int .i64 0,.bool false,.sl 1 [],.int .i64 0,.int .i64 0,.sl 8 [],.int .i64 0,.int .i64 0,.int .i64 0,.int .i64 0,.int .i64 0,.int .i64 0,.sl 2 [],.bool false,.bool false,.sl 1 [],.int .i64 0,.int .i64 0,.bool false,.int .i64 0,.sl 8 [],.sl 9 [],.sl 1 [],.sl 1 []],(.struct [(48,0),(53,19)])⟩
def t55:TI:=⟨30,408,[.sl 1 [],.sl 1 [],.bytes [],.int .i64 0,.int .i64 0,.int .i64 0,.int .i64 0,.bool false,.sl 1 [],.int .i64 0,.int .i64 0,.sl 8 [],.int .i64 0,.int .i64 0,.int .i64 0,.int .i64 0,.int .i64 0,.int .i64 0,.sl 2 [],.bool false,.bool false,.sl 1 [],.int .i64 0,.int .i64 0,.bool false,.int .i64 0,.sl 8 [],.sl 9 [],.sl 1 [],.sl 1 []],(.struct [(48,0),(53,19)])⟩
def t56:TI:=⟨37,480,[.sl 1 [],.int .i64 0,.int .i64 0,.int .i64 0,.bool false,.sl 1 [],.sl 1 [],.bytes [],.int .i64 0,.int .i64 0,.int .i64 0,.int .i64 0,.bool false,.sl 1 [],.int .i64 0,.int .i64 0,.sl 8 [],.int .i64 0,.int .i64 0,.int .i64 0,.int .i64 0,.int .i64 0,.int .i64 0,.sl 2 [],.bool false,.bool false,.sl 1 [],.int .i64 0,.int .i64 0,.bool false,.int .i64 0,.sl 8 [],.sl 9 [],.sl 1 [],.sl 1 [],.bool false,.int .i64 0],(.struct [(39,0),(55,5),(4,35),(3,36)])⟩
def t57:TI:=⟨37,480,[.sl 1 [],.int .i64 0,.int .i64 0,.int .i64 0,.bool false,.sl 1 [],.sl 1 [],.bytes [],.int .i64 0,.int .i64 0,.int .i64 0,.int .i64 0,.bool false,.sl 1 [],.int .i64 0,.int .i64 0,.sl 8 [],.int .i64 0,.int .i64 0,.int .i64 0,.int .i64 0,.int .i64 0,.int .i64 0,.sl 2 [],.bool false,.bool false,.sl 1 [],.int .i64 0,.int .i64 0,.bool false,.int .i64 0,.sl 8 [],.sl 9 [],.sl 1 [],.sl 1 [],.bool false,.int .i64 0],(.struct [(39,0),(55,5),(4,35),(3,36)])⟩
def t58:TI:=⟨1,24,[.sl 8 []],(.slice 488)⟩
def t59:TI:=⟨40,520,[.int .i64 0,.sl 1 [],.int .i64 0,.int .i64 0,.int .i64 0,.bool false,.sl 1 [],.sl 1 [],.bytes [],.int .i64 0,.int .i64 0,.int .i64 0,.int .i64 0,.bool false,.sl 1 [],.int .i64 0,.int .i64 0,.sl 8 [],.int .i64 0,.int .i64 0,.int .i64 0,.int .i64 0,.int .i64 0,.int .i64 0,.sl 2 [],.bool false,.bool false,.sl 1 [],.int .i64 0,.int .i64 0,.bool false,.int .i64 0,.sl 8 [],.sl 9 [],.sl 1 [],.sl 1 [],.bool false,.int .i64 0,.bool false,.sl 8 []],(.struct [(3,0),(57,1),(4,38),(58,39)])⟩
def t60:TI:=⟨40,520,[.int .i64 0,.sl 1 [],.int .i64 0,.int .i64 0,.int .i64 0,.bool false,.sl 1 [],.sl 1 [],.bytes [],.int .i64 0,.int .i64 0,.int .i64 0,.int .i64 0,.bool false,.sl 1 [],.int .i64 0,.int .i64 0,.sl 8 [],.int .i64 0,.int .i64 0,.int .i64 0,.int .i64 0,.int .i64 0,.int .i64 0,.sl 2 [],.bool false,.bool false,.sl 1 [],.int .i64 0,.int .i64 0,.bool false,.int .i64 0,.sl 8 [],.sl 9 [],.sl 1 [],.sl 1 [],.bool false,.int .i64 0,.bool false,.sl 8 []],(.struct [(3,0),(57,1),(4,38),(58,39)])⟩
def t61:TI:=⟨1,24,[.sl 5 []],(.slice 65)⟩
def t62:TI:=⟨3,72,[.bytes [],.bytes [],.bytes []],(.struct [(22,0),(22,1),(22,2)])⟩
def t63:TI:=⟨3,72,[.bytes [],.bytes [],.bytes []],(.struct [(22,0),(22,1),(22,2)])⟩
def t65:TI:=⟨5,72,[.int .i64 0,.int .i64 0,.int .i64 0,.bytes [],.bytes []],(.struct [(3,0),(3,1),(3,2),(22,3),(22,4)])⟩
def t67:TI:=⟨11,184,[.int .i64 0,.int .i64 0,.sl 5 [],.bytes [],.bytes [],.bytes [],.int .i64 0,.int .i64 0,.int .i64 0,.bytes [],.bytes []],(.struct [(3,0),(3,1),(61,2),(63,3),(65,6)])⟩
def t79:TI:=⟨1,8,[.nilp],(.ptr 125)⟩
def t82:TI:=⟨4,56,[.int .i64 0,.str [],.int .i64 0,.bytes []],(.struct [(3,0),(9,1),(3,2),(22,3)])⟩
def t88:TI:=⟨2,16,[.int .i64 0,.int .i64 0],(.arr 2 3)⟩
def t90:TI:=⟨10,160,[.int .i64 0,.int .i64 0,.int .i64 0,.bytes [],.int .i64 0,.int .i64 0,.bytes [],.bytes [],.bytes [],.sl 1 []],(.struct [(3,0),(88,1),(22,3),(3,4),(3,5),(22,6),(22,7),(22,8),(37,9)])⟩
def t96:TI:=⟨1,24,[.sl 10 []],(.slice 90)⟩
def t102:TI:=⟨1,8,[.nilp],(.ptr 108)⟩
def t108:TI:=⟨38,504,[.sl 1 [],.int .i64 0,.int .i64 0,.int .i64 0,.bool false,.sl 1 [],.sl 1 [],.bytes [],.int .i64 0,.int .i64 0,.int .i64 0,.int .i64 0,.bool false,.sl 1 [],.int .i64 0,.int .i64 0,.sl 8 [],.int .i64 0,.int .i64 0,.int .i64 0,.int .i64 0,.int .i64 0,.int .i64 0,.sl 2 [],.bool false,.bool false,.sl 1 [],.int .i64 0,.int .i64 0,.bool false,.int .i64 0,.sl 8 [],.sl 9 [],.sl 1 [],.sl 1 [],.bool false,.int .i64 0,.sl 1 []],(.struct [(57,0),(51,37)])⟩
def t111:TI:=⟨8,128,[.int .i64 0,.sl 1 [],.int .i64 0,.int .i64 0,.int .i64 0,.bytes [],.bytes [],.bytes []],(.struct [(3,0),(25,1),(65,2),(22,7)])⟩
def t113:TI:=⟨21,296,[.nilp,.int .i64 0,.sl 1 [],.int .i64 0,.int .i64 0,.int .i64 0,.bytes [],.bytes [],.bytes [],.bool false,.int .i64 0,.int .i64 0,.int .i64 0,.int .i64 0,.int .i64 0,.bytes [],.bytes [],.bool false,.bytes [],.int .i64 0,.bytes []],(.struct [(102,0),(111,1),(4,9),(3,10),(30,11),(3,19),(22,20)])⟩
def t125:TI:=⟨2,32,[.bytes [],.int .i64 0],(.struct [(22,0),(3,1)])⟩
def t126:TI:=⟨5,80,[.str [],.str [],.str [],.str [],.str []],(.arr 5 9)⟩
def t134:TI:=⟨1,8,[.int .u64 0],(.int .u64)⟩
def t135:TI:=⟨1,8,[.int .u64 0],(.int .u64)⟩
def t142:TI:=⟨5,5,[.bool false,.bool false,.bool false,.bool false,.bool false],(.arr 5 4)⟩
def t153:TI:=⟨4,80,[.int .i64 0,.sl 1 [],.sl 1 [],.sl 1 []],(.struct [(32,0),(51,1),(37,2),(37,3)])⟩
def t156:TI:=⟨1,24,[.sl 3 []],(.slice 222)⟩
def t158:TI:=⟨5,104,[.int .i64 0,.sl 1 [],.sl 3 [],.sl 1 [],.sl 1 []],(.struct [(3,0),(51,1),(156,2),(51,3),(37,4)])⟩
def t163:TI:=⟨1,24,[.sl 4 []],(.slice 166)⟩
def t166:TI:=⟨4,64,[.int .i64 0,.int .i64 0,.sl 1 [],.bytes []],(.struct [(3,0),(3,1),(37,2),(22,3)])⟩
def t171:TI:=⟨1,8,[.nilp],(.ptr 235)⟩
def t200:TI:=⟨2,32,[.bytes [],.int .i64 0],(.struct [(22,0),(3,1)])⟩
def t203:TI:=⟨2,48,[.bytes [],.bytes []],(.arr 2 22)⟩
def t206:TI:=⟨1,8,[.nilp],(.ptr 208)⟩
def t208:TI:=⟨2,16,[.nilp,.int .i64 0],(.struct [(171,0),(32,1)])⟩
def t212:TI:=⟨1,8,[.nilp],(.ptr 45)⟩
def t213:TI:=⟨1,8,[.nilp],(.ptr 3)⟩
def t214:TI:=⟨1,24,[.sl 1 []],(.slice 213)⟩
def t222:TI:=⟨3,56,[.int .i64 0,.bytes [],.bytes []],(.struct [(3,0),(22,1),(22,2)])⟩
def t227:TI:=⟨9,152,[.int .i64 0,.int .i64 0,.int .i64 0,.bytes [],.bytes [],.bytes [],.bytes [],.bytes [],.int .i64 0],(.struct [(65,0),(63,5),(3,8)])⟩
def t229:TI:=⟨5,120,[.sl 4 [],.sl 4 [],.sl 4 [],.sl 4 [],.sl 4 []],(.arr 5 163)⟩
def t235:TI:=⟨3,40,[.bytes [],.int .i64 0,.int .i64 0],(.struct [(22,0),(3,1),(32,2)])⟩
def t245:TI:=⟨6,96,[.str [],.str [],.str [],.str [],.str [],.str []],(.arr 6 9)⟩
def t251:TI:=⟨3,40,[.int .i64 0,.int .i64 0,.sl 4 []],(.struct [(3,0),(3,1),(163,2)])⟩
def t252:TI:=⟨1,4,[.int .u32 0],(.int .u32)⟩
def t253:TI:=⟨64,256,List.replicate 64 (.int .u32 0),(.arr 64 252)⟩
def t255:TI:=⟨1,24,[.sl 1 []],(.slice 252)⟩
def t274:TI:=⟨1,8,[.nilp],(.ptr 37)⟩
def t275:TI:=⟨1,24,[.sl 1 []],(.slice 274)⟩
def t280:TI:=⟨5,40,[.int .i64 0,.int .i64 0,.int .i64 0,.int .i64 0,.int .i64 0],(.arr 5 3)⟩
def t281:TI:=⟨5,20,[.int .u32 0,.int .u32 0,.int .u32 0,.int .u32 0,.int .u32 0],(.arr 5 252)⟩
def t283:TI:=⟨1,8,[.nilp],(.ptr 281)⟩
def t284:TI:=⟨8,32,[.int .u32 0,.int .u32 0,.int .u32 0,.int .u32 0,.int .u32 0,.int .u32 0,.int .u32 0,.int .u32 0],(.arr 8 252)⟩
def t286:TI:=⟨1,8,[.nilp],(.ptr 284)⟩
def t288:TI:=⟨1,8,[.nilp],(.ptr 22)⟩
def t289:TI:=⟨1,24,[.sl 1 []],(.slice 288)⟩
def t297:TI:=⟨2,2,[.int .u8 0,.int .u8 0],(.arr 2 5)⟩
def t304:TI:=⟨80,320,List.replicate 80 (.int .u32 0),(.arr 80 252)⟩
def t313:TI:=⟨5,40,[.int .i64 0,.int .i64 0,.int .i64 0,.int .i64 0,.int .i64 0],(.struct [(3,0),(3,1),(3,2),(3,3),(3,4)])⟩
def t314:TI:=⟨160,1280,List.replicate 160 (.int .i64 0),(.arr 32 313)⟩
def t333:TI:=⟨8,96,[.int .i64 0,.bytes [],.bytes [],.int .i64 0,.int .i64 0,.int .i64 0,.int .i64 0,.bool false],(.struct [(3,0),(22,1),(22,2),(3,3),(3,4),(3,5),(3,6),(4,7)])⟩
def t337:TI:=⟨39,576,[.sl 1 [],.sl 1 [],.bytes [],.int .i64 0,.int .i64 0,.int .i64 0,.int .i64 0,.bool false,.sl 1 [],.int .i64 0,.int .i64 0,.sl 8 [],.int .i64 0,.int .i64 0,.int .i64 0,.int .i64 0,.int .i64 0,.int .i64 0,.sl 2 [],.bool false,.bool false,.sl 1 [],.int .i64 0,.int .i64 0,.bool false,.int .i64 0,.sl 8 [],.sl 9 [],.sl 1 [],.sl 1 [],.int .i64 0,.sl 1 [],.sl 3 [],.sl 1 [],.sl 1 [],.int .i64 0,.bytes [],.bytes [],.int .i64 0],(.struct [(55,0),(158,30),(222,35),(3,38)])⟩
def t352:TI:=⟨4,80,[.bytes [],.bytes [],.bytes [],.bool false],(.struct [(22,0),(22,1),(22,2),(4,3)])⟩
def t460:TI:=⟨256,256,List.replicate 256 (.bool false),(.arr 256 4)⟩
def t464:TI:=⟨1,8,[.nilp],(.ptr 460)⟩
def t475:TI:=⟨4,40,[.nilp,.nilp,.nilp,.str []],(.struct [(17,0),(17,1),(17,2),(9,3)])⟩
def t476:TI:=⟨0,0,[],(.arr 0 16)⟩
def t478:TI:=⟨0,0,[],(.struct [(476,0)])⟩
def t479:TI:=⟨1,1,[.int .u8 0],(.int .u8)⟩
def t480:TI:=⟨1,1,[.int .u8 0],(.int .u8)⟩
def t482:TI:=⟨1,8,[.nilp],(.ptr 5)⟩
def t483:TI:=⟨1,4,[.int .i32 0],(.int .i32)⟩
def t484:TI:=⟨1,4,[.int .i32 0],(.int .i32)⟩
def t488:TI:=⟨8,128,[.int .i64 0,.int .i64 0,.int .i64 0,.int .i64 0,.bytes [],.bytes [],.bytes [],.sl 1 []],(.struct [(3,0),(65,1),(22,6),(37,7)])⟩
def tr:Tr:=(.node 96 t96 (.node 40 t40 (.node 16 t16 (.node 9 t9 (.node 5 t5 (.node 3 t3 (.node 2 t2 .leaf .leaf) (.node 4 t4 .leaf .leaf)) (.node 7 t7 (.node 6 t6 .leaf .leaf) (.node 8 t8 .leaf .leaf))) (.node 13 t13 (.node 11 t11 (.node 10 t10 .leaf .leaf) (.node 12 t12 .leaf .leaf)) (.node 15 t15 (.node 14 t14 .leaf .leaf) .leaf))) (.node 26 t26 (.node 20 t20 (.node 18 t18 (.node 17 t17 .leaf .leaf) (.node 19 t19 .leaf .leaf)) (.node 22 t22 (.node 21 t21 .leaf .leaf) (.node 25 t25 .leaf .leaf))) (.node 37 t37 (.node 30 t30 (.node 29 t29 .leaf .leaf) (.node 32 t32 .leaf .leaf)) (.node 39 t39 (.node 38 t38 .leaf .leaf) .leaf)))) (.node 55 t55 (.node 48 t48 (.node 44 t44 (.node 42 t42 (.node 41 t41 .leaf .leaf) (.node 43 t43 .leaf .leaf)) (.node 46 t46 (.node 45 t45 .leaf .leaf) (.node 47 t47 .leaf .leaf))) (.node 52 t52 (.node 50 t50 (.node 49 t49 .leaf .leaf) (.node 51 t51 .leaf .leaf)) (.node 54 t54 (.node 53 t53 .leaf .leaf) .leaf))) (.node 63 t63 (.node 59 t59 (.node 57 t57 (.node 56 t56 .leaf .leaf) (.node 58 t58 .leaf .leaf)) (.node 61 t61 (.node 60 t60 .leaf .leaf) (.node 62 t62 .leaf .leaf))) (.node 82 t82 (.node 67 t67 (.node 65 t65 .leaf .leaf) (.node 79 t79 .leaf .leaf)) (.node 90 t90 (.node 88 t88 .leaf .leaf) .leaf))))) (.node 253 t253 (.node 171 t171 (.node 135 t135 (.node 113 t113 (.node 108 t108 (.node 102 t102 .leaf .leaf) (.node 111 t111 .leaf .leaf)) (.node 126 t126 (.node 125 t125 .leaf .leaf) (.node 134 t134 .leaf .leaf))) (.node 158 t158 (.node 153 t153 (.node 142 t142 .leaf .leaf) (.node 156 t156 .leaf .leaf)) (.node 166 t166 (.node 163 t163 .leaf .leaf) .leaf))) (.node 222 t222 (.node 208 t208 (.node 203 t203 (.node 200 t200 .leaf .leaf) (.node 206 t206 .leaf .leaf)) (.node 213 t213 (.node 212 t212 .leaf .leaf) (.node 214 t214 .leaf .leaf))) (.node 245 t245 (.node 229 t229 (.node 227 t227 .leaf .leaf) (.node 235 t235 .leaf .leaf)) (.node 252 t252 (.node 251 t251 .leaf .leaf) .leaf)))) (.node 333 t333 (.node 286 t286 (.node 280 t280 (.node 274 t274 (.node 255 t255 .leaf .leaf) (.node 275 t275 .leaf .leaf)) (.node 283 t283 (.node 281 t281 .leaf .leaf) (.node 284 t284 .leaf .leaf))) (.node 304 t304 (.node 289 t289 (.node 288 t288 .leaf .leaf) (.node 297 t297 .leaf .leaf)) (.node 314 t314 (.node 313 t313 .leaf .leaf) .leaf))) (.node 478 t478 (.node 464 t464 (.node 352 t352 (.node 337 t337 .leaf .leaf) (.node 460 t460 .leaf .leaf)) (.node 476 t476 (.node 475 t475 .leaf .leaf) .leaf)) (.node 483 t483 (.node 480 t480 (.node 479 t479 .leaf .leaf) (.node 482 t482 .leaf .leaf)) (.node 488 t488 (.node 484 t484 .leaf .leaf) .leaf))))))
def te:TE:=tr.get
theorem vT:yV Tryz.prog te:=Tr.ok tr (by kernel_rfl)
end Go.Proofs.Tryz.S
namespace Go.Proofs.H
open Go Go.Proofs
def nameByte (c:UInt8):Bool:=(decide (97<=c.toNat)&&decide (c.toNat<=122))||(decide (48<=c.toNat)&&decide (c.toNat<=57))||decide (c.toNat=45)
def nameAll (s:ByteArray) (pos:Nat):Bool:=(s.data.toList.drop pos).all nameByte
theorem width_pos (s:ByteArray) (pos:Nat) (h:pos<s.size):1<=(Utf8.decode s pos).2:=by
 by_cases ha:(s[pos]'h).toNat<128
 ·rw [decode_ascii s pos h ha]
  exact Nat.le_refl _
 ·exact (decode_high s pos h (by omega)).2
theorem nb_len {n:Nat} {x:Bool} (h:¬ (1<=n/\n<=12)):(decide (1<=n)&&decide (n<=12)&&x)=false:=by
 by_cases h1:1<=n
 ·have:¬ n<=12:=λh2=>h ⟨h1,h2⟩
  simp [this]
 ·simp [h1]
theorem nb_in {n:Nat} {x:Bool} (h:1<=n/\n<=12):(decide (1<=n)&&decide (n<=12)&&x)=x:=by simp [h.1,h.2]
theorem nameAll_step {s:ByteArray} {pos:Nat} (hp:pos<s.size):nameAll s pos=(nameByte (s[pos]'hp)&&nameAll s (pos+1)):=by
 unfold nameAll
 rw [List.drop_eq_getElem_cons (by simpa using hp)]
 simp only [List.all_cons]
 rfl
theorem name_facts (s:ByteArray) (pos:Nat) (hp:pos<s.size) {rn:Nat×Nat} (hd:Utf8.decode s pos=rn) :
  (rn.1<128->rn.2=1/\nameAll s pos=((decide (97<=rn.1)&&decide (rn.1<=122)||decide (48<=rn.1)&&decide (rn.1<=57)||decide (rn.1=45))&&nameAll s (pos+1)))/\(128<=rn.1->nameAll s pos=false):=by
 rw [nameAll_step hp]
 by_cases ha:(s[pos]'hp).toNat<128
 ·rw [decode_ascii s pos hp ha] at hd
  subst hd
  exact ⟨λ_=>⟨rfl,rfl⟩,λh=>by simp only at h;omega⟩
 ·have h2:=decode_high s pos hp (by omega)
  rw [hd] at h2
  refine ⟨λh=>by omega,λ_=>?_⟩
  have:nameByte (s[pos]'hp)=false:=by
   unfold nameByte
   simp only [Bool.or_eq_false_iff,Bool.and_eq_false_iff,decide_eq_false_iff_not]
   omega
  simp [this]
theorem name_no (s:ByteArray) (pos:Nat) (hp:pos<s.size) {rn:Nat×Nat} (hd:Utf8.decode s pos=rn) (h1:rn.1<97∨122<rn.1) (h2:rn.1<48∨57<rn.1) (h3:rn.1≠45):nameAll s pos=false:=by
 obtain ⟨f1,f2⟩:=name_facts s pos hp hd
 by_cases h:rn.1<128
 ·rw [(f1 h).2]
  have:(decide (97<=rn.1)&&decide (rn.1<=122)||decide (48<=rn.1)&&decide (rn.1<=57)||decide (rn.1=45))=false:=by
   simp only [Bool.or_eq_false_iff,Bool.and_eq_false_iff,decide_eq_false_iff_not]
   omega
  simp [this]
 ·exact f2 (by omega)
theorem name_yes (s:ByteArray) (pos:Nat) (hp:pos<s.size) {rn:Nat×Nat} (hd:Utf8.decode s pos=rn) (h1:(97<=rn.1/\rn.1<=122)∨(48<=rn.1/\rn.1<=57)∨rn.1=45):rn.2=1/\nameAll s pos=nameAll s (pos+1):=by
 obtain ⟨f1,_⟩:=name_facts s pos hp hd
 obtain ⟨f2,f3⟩:=f1 (by omega)
 refine ⟨f2,?_⟩
 rw [f3]
 have:(decide (97<=rn.1)&&decide (rn.1<=122)||decide (48<=rn.1)&&decide (rn.1<=57)||decide (rn.1=45))=true:=by
  simp only [Bool.or_eq_true,Bool.and_eq_true,decide_eq_true_eq]
  omega
 simp [this]
set_option maxRecDepth 1000000 in
set_option maxHeartbeats 4000000 in
theorem walk_named (s:ByteArray) (w:World) :
  Calls Tryz.prog 124 #[.string s] w λe w'=>e=.returned (.bool (decide (1<=s.size)&&decide (s.size<=12)&&nameAll s 0))/\(w'=w∨∃ pos,w'=w.iter s pos):=by
 go_enter Tryz.func124,Tryz.ntmps124
 go_wp2
 ·rename_i h1 h2
  go_ret
  refine ⟨?_,.inl rfl⟩
  rw [nb_len (by omega)]
  rfl
 ·rename_i h1 h2
  go_loopw [] (λw'=>∃ (pos:Nat),w'=w.iter s pos/\pos<=s.size/\nameAll s pos=nameAll s 0) (λw'=>s.size - w'.iterPos w.heap.size)
  case atStart=>exact ⟨0,rfl,by omega,rfl⟩
  case round=>
   obtain ⟨pos,rfl,hb,hc⟩:=hrel
   by_cases hp:pos<s.size
   ·have hnx:∀ ty,(Instr.next (.pointer (some ⟨w.heap.size,0,none⟩)) true ty).run Tryz.prog (w.iter s pos)=_:=λty=>run_next_any w s pos ty hp
    generalize hd:Utf8.decode s pos=rn at hnx
    go_wp2
    ·go_ret
     refine ⟨?_,.inr ⟨_,rfl⟩⟩
     rw [nb_in (by omega),<- hc]
     try simp only [bne_iff_ne,ne_eq] at *
     rw [name_no s pos hp hd (by omega) (by omega) (by omega)]
     rfl
    ·have hy:(97<=rn.1/\rn.1<=122)∨(48<=rn.1/\rn.1<=57)∨rn.1=45:=by
      try simp only [bne_eq_false_iff_eq] at *
      omega
     obtain ⟨y1,y2⟩:=name_yes s pos hp hd hy
     refine ⟨⟨pos+rn.snd,rfl,by omega,?_⟩,?_⟩
     ·rw [y1,<- y2];exact hc
     ·simp
      omega
    ·have hy:(97<=rn.1/\rn.1<=122)∨(48<=rn.1/\rn.1<=57)∨rn.1=45:=by
      try simp only [bne_eq_false_iff_eq] at *
      omega
     obtain ⟨y1,y2⟩:=name_yes s pos hp hd hy
     refine ⟨⟨pos+rn.snd,rfl,by omega,?_⟩,?_⟩
     ·rw [y1,<- y2];exact hc
     ·simp
      omega
    ·go_ret
     refine ⟨?_,.inr ⟨_,rfl⟩⟩
     rw [nb_in (by omega),<- hc]
     try simp only [bne_iff_ne,ne_eq] at *
     rw [name_no s pos hp hd (by omega) (by omega) (by omega)]
     rfl
    ·have hy:(97<=rn.1/\rn.1<=122)∨(48<=rn.1/\rn.1<=57)∨rn.1=45:=by
      try simp only [bne_eq_false_iff_eq] at *
      omega
     obtain ⟨y1,y2⟩:=name_yes s pos hp hd hy
     refine ⟨⟨pos+rn.snd,rfl,by omega,?_⟩,?_⟩
     ·rw [y1,<- y2];exact hc
     ·simp
      omega
    ·have hy:(97<=rn.1/\rn.1<=122)∨(48<=rn.1/\rn.1<=57)∨rn.1=45:=by
      try simp only [bne_eq_false_iff_eq] at *
      omega
     obtain ⟨y1,y2⟩:=name_yes s pos hp hd hy
     refine ⟨⟨pos+rn.snd,rfl,by omega,?_⟩,?_⟩
     ·rw [y1,<- y2];exact hc
     ·simp
      omega
    ·go_ret
     refine ⟨?_,.inr ⟨_,rfl⟩⟩
     rw [nb_in (by omega),<- hc]
     try simp only [bne_iff_ne,ne_eq] at *
     rw [name_no s pos hp hd (by omega) (by omega) (by omega)]
     rfl
    ·have hy:(97<=rn.1/\rn.1<=122)∨(48<=rn.1/\rn.1<=57)∨rn.1=45:=by
      try simp only [bne_eq_false_iff_eq] at *
      omega
     obtain ⟨y1,y2⟩:=name_yes s pos hp hd hy
     refine ⟨⟨pos+rn.snd,rfl,by omega,?_⟩,?_⟩
     ·rw [y1,<- y2];exact hc
     ·simp
      omega
   ·have hnx:∀ ty,(Instr.next (.pointer (some ⟨w.heap.size,0,none⟩)) true ty).run Tryz.prog (w.iter s pos)=_:=λty=>run_next_end w s pos ty hp
    go_wp2
    go_ret
    refine ⟨?_,.inr ⟨_,rfl⟩⟩
    rw [nb_in (by omega),<- hc]
    have:nameAll s pos=true:=by
     unfold nameAll
     rw [List.drop_eq_nil_of_le (by simp;omega)]
     rfl
    rw [this]
    rfl
 ·rename_i h1
  go_ret
  refine ⟨?_,.inl rfl⟩
  rw [nb_len (by omega)]
  rfl
open Go Go.Proofs Go.RowKit
theorem u22:Tryz.prog.underlying 22=some (.slice 5):=by kernel_rfl
theorem i5:(Tryz.prog.info? 5).map (·.size)=some 1:=by kernel_rfl
theorem run_mnz (w:World) (n:Nat) (hn:n<=64):∃ cs:Array Value,(callFunc 296 #[.int .i64 n]).run Tryz.prog w=.ok (.value (.slice (some ⟨w.heap.size,0,none⟩) n cs.size)) (w.drew.drew.alloc (.cells cs 5))/\n<=cs.size:=by
 obtain ⟨cs,h1,h2,h3,h4⟩:=Lib.run_makeNoZero_cap (P:=Tryz.prog) w #[3] 22 5 u22 n (by omega)
 refine ⟨cs,?_,h2⟩
 have:=run_callFunc_extern (P:=Tryz.prog) Tryz.func296 (by kernel_rfl) (by kernel_rfl) (by kernel_rfl) (e:=Extern.BytealgMakeNoZero.makeNoZero #[3] #[22]) (by kernel_rfl) #[.int .i64 n] w
 rw [h1] at this
 exact this
def dr (d:Nat) (w:World):World:={ w with drawn:=d }
set_option maxRecDepth 1000000 in
set_option maxHeartbeats 4000000 in
theorem walk_rep32 (b o c:Nat) (x:UInt8) (w:World) (hc:w.cell? ⟨b,o,none⟩=some (.int .u8 x.toNat)) :
  Calls Tryz.prog 260 #[.slice (some ⟨b,o,none⟩) 1 c,.int .i64 32] w λe w'=>e=.returned (.slice (some ⟨w.heap.size,0,none⟩) 32 32)/\∃ cs d cur,w'=(dr d (w.alloc (.cells cs 5))).setRow w.heap.size cur/\∀ j,j<32->cur[j]? = some (.int .u8 x.toNat):=by
 obtain ⟨cs,hm,hcs⟩:=run_mnz w 32 (by omega)
 have hm':(callFunc 296 #[.int .i64 32]).run Tryz.prog w=.ok (.value (.slice (some ⟨w.heap.size,0,none⟩) 32 cs.size)) (w.drew.drew.alloc (.cells cs 5)):=hm
 have hblt:b<w.heap.size:=World.block_lt_of_cell? w _ hc
 have hg2:(w.alloc (.cells cs 5)).drew.drew.heap[w.heap.size]? = some (.cells cs 5 (0,0)):=heap_alloc_new w _
 have hc2:(w.alloc (.cells cs 5)).drew.drew.cell? ⟨b,o,none⟩=some (.int .u8 x.toNat):=by
  have:=World.cell?_alloc_lt w (.cells cs 5) ⟨b,o,none⟩ hblt
  rw [<- hc,<- this]
  rfl
 have hcp:∀ ty,(Builtin.copy_ #[22,22] ty #[.slice (some ⟨w.heap.size,0,none⟩) 32 32,.slice (some ⟨b,o,none⟩) 1 c]).run Tryz.prog (w.alloc (.cells cs 5)).drew.drew=_:=λty=>
  run_copy_row (P:=Tryz.prog) (w.alloc (.cells cs 5)).drew.drew 22 22 ty 5 w.heap.size 0 32 32 ⟨b,o,none⟩ 1 c cs 5 [.int .u8 x.toNat] u22 i5 hg2 rfl (by intro j v hj;rcases j with _ | j;(simp at hj;subst hj;simpa [Addr.add] using hc2);simp at hj) (by simp;omega) (by simp [Value.oneCell'])
 go_enter Tryz.func260,Tryz.ntmps260
 go_wp2
 have hg3:∀ d,(dr d (w.alloc (.cells cs 5))).heap[w.heap.size]? = some (.cells cs 5 (0,0)):=λ_=>hg2
 go_loopw [10] (λv wr=>∃ (bp d:Nat) (cur:Array Value),v=.int .i64 bp/\1<=bp/\bp<=32/\wr=(dr d (w.alloc (.cells cs 5))).setRow w.heap.size cur/\cur.size=cs.size/\∀ j,j<bp->cur[j]? = some (.int .u8 x.toNat)) (λv _=>32 - (intOf v).toNat)
 case atStart=>
  refine ⟨1,w.drawn+2,_,rfl,by omega,by omega,rfl,by simp;omega,λj hj=>(match j,hj with | 0,_=>rfl)⟩
 case round=>
  obtain ⟨bp,d,cur,rfl,hb1,hb2,rfl,hsz,hcur⟩:=hrel
  by_cases hlt:bp<32
  ·obtain ⟨m,hm0,hm1,hm2,hm3⟩:∃ m,m=Nat.min bp (32 - bp)/\m<=bp/\m<=32 - bp/\1<=m:=⟨_,rfl,Nat.min_le_left _ _,Nat.min_le_right _ _,by show 1<=min bp (32 - bp);omega⟩
   have hcp2:∀ ty,(Builtin.copy_ #[22,22] ty #[.slice (some ⟨w.heap.size,bp,none⟩) (32 - bp) (32 - bp),.slice (some ⟨w.heap.size,0,none⟩) bp 32]).run Tryz.prog ((dr d (w.alloc (.cells cs 5))).setRow w.heap.size cur).drew=_:=λty=>
    run_copy_row (P:=Tryz.prog) ((dr d (w.alloc (.cells cs 5))).setRow w.heap.size cur).drew 22 22 ty 5 w.heap.size bp (32 - bp) (32 - bp) ⟨w.heap.size,0,none⟩ bp 32 cur 5 (List.replicate m (.int .u8 x.toNat)) u22 i5 (setRow_heap _ _ _ _ _ _ (hg3 d)) (by simp [hm0]) (by
     intro j v hj
     rw [List.getElem?_replicate] at hj
     split at hj
     ·cases hj
      have:(⟨w.heap.size,0,none⟩:Addr).add j=⟨w.heap.size,j,none⟩:=by rw [Sw.add_off,Nat.zero_add]
      rw [this]
      exact (cell_setRow_same (dr d (w.alloc (.cells cs 5))) _ _ _ _ _ _ (hg3 d)).trans (hcur j (by omega))
     ·cases hj) (by simp;omega) (by intro v hv;rw [List.eq_of_mem_replicate hv];rfl)
   go_wp2
   go_region
   go_wp2
   rw [<- hm0]
   refine ⟨⟨bp+m,d+1,(cur.toList.take bp++(List.replicate m (Value.int .u8 x.toNat)++cur.toList.drop (bp+m))).toArray,by simp,by omega,by omega,?_,?_,?_⟩,?_⟩
   ·show (((dr (d+1) (w.alloc (.cells cs 5))).setRow w.heap.size cur).setRow w.heap.size _)=_
    rw [setRow_setRow]
   ·simp
    omega
   ·intro j hj
    simp only [List.getElem?_toArray]
    by_cases h1:j<bp
    ·rw [List.getElem?_append_left (by simp;omega),List.getElem?_take,if_pos h1]
     simpa using hcur j h1
    ·rw [List.getElem?_append_right (by simp;omega),List.getElem?_append_left (by simp;omega),List.getElem?_replicate,if_pos (by simp;omega)]
   ·simp [intOf]
    omega
  ·have:bp=32:=by omega
   subst this
   go_wp2
   go_ret
   exact ⟨rfl,cs,d,cur,rfl,hcur⟩
set_option maxRecDepth 1000000 in
set_option maxHeartbeats 4000000 in
theorem walk_rep20 (b o c:Nat) (x:UInt8) (w:World) (hc:w.cell? ⟨b,o,none⟩=some (.int .u8 x.toNat)) :
  Calls Tryz.prog 260 #[.slice (some ⟨b,o,none⟩) 1 c,.int .i64 20] w λe w'=>e=.returned (.slice (some ⟨w.heap.size,0,none⟩) 20 20)/\∃ cs d cur,w'=(dr d (w.alloc (.cells cs 5))).setRow w.heap.size cur/\∀ j,j<20->cur[j]? = some (.int .u8 x.toNat):=by
 obtain ⟨cs,hm,hcs⟩:=run_mnz w 20 (by omega)
 have hm':(callFunc 296 #[.int .i64 20]).run Tryz.prog w=.ok (.value (.slice (some ⟨w.heap.size,0,none⟩) 20 cs.size)) (w.drew.drew.alloc (.cells cs 5)):=hm
 have hblt:b<w.heap.size:=World.block_lt_of_cell? w _ hc
 have hg2:(w.alloc (.cells cs 5)).drew.drew.heap[w.heap.size]? = some (.cells cs 5 (0,0)):=heap_alloc_new w _
 have hc2:(w.alloc (.cells cs 5)).drew.drew.cell? ⟨b,o,none⟩=some (.int .u8 x.toNat):=by
  have:=World.cell?_alloc_lt w (.cells cs 5) ⟨b,o,none⟩ hblt
  rw [<- hc,<- this]
  rfl
 have hcp:∀ ty,(Builtin.copy_ #[22,22] ty #[.slice (some ⟨w.heap.size,0,none⟩) 20 20,.slice (some ⟨b,o,none⟩) 1 c]).run Tryz.prog (w.alloc (.cells cs 5)).drew.drew=_:=λty=>
  run_copy_row (P:=Tryz.prog) (w.alloc (.cells cs 5)).drew.drew 22 22 ty 5 w.heap.size 0 20 20 ⟨b,o,none⟩ 1 c cs 5 [.int .u8 x.toNat] u22 i5 hg2 rfl (by intro j v hj;rcases j with _ | j;(simp at hj;subst hj;simpa [Addr.add] using hc2);simp at hj) (by simp;omega) (by simp [Value.oneCell'])
 go_enter Tryz.func260,Tryz.ntmps260
 go_wp2
 have hg3:∀ d,(dr d (w.alloc (.cells cs 5))).heap[w.heap.size]? = some (.cells cs 5 (0,0)):=λ_=>hg2
 go_loopw [10] (λv wr=>∃ (bp d:Nat) (cur:Array Value),v=.int .i64 bp/\1<=bp/\bp<=20/\wr=(dr d (w.alloc (.cells cs 5))).setRow w.heap.size cur/\cur.size=cs.size/\∀ j,j<bp->cur[j]? = some (.int .u8 x.toNat)) (λv _=>20 - (intOf v).toNat)
 case atStart=>
  refine ⟨1,w.drawn+2,_,rfl,by omega,by omega,rfl,by simp;omega,λj hj=>(match j,hj with | 0,_=>rfl)⟩
 case round=>
  obtain ⟨bp,d,cur,rfl,hb1,hb2,rfl,hsz,hcur⟩:=hrel
  by_cases hlt:bp<20
  ·obtain ⟨m,hm0,hm1,hm2,hm3⟩:∃ m,m=Nat.min bp (20 - bp)/\m<=bp/\m<=20 - bp/\1<=m:=⟨_,rfl,Nat.min_le_left _ _,Nat.min_le_right _ _,by show 1<=min bp (20 - bp);omega⟩
   have hcp2:∀ ty,(Builtin.copy_ #[22,22] ty #[.slice (some ⟨w.heap.size,bp,none⟩) (20 - bp) (20 - bp),.slice (some ⟨w.heap.size,0,none⟩) bp 20]).run Tryz.prog ((dr d (w.alloc (.cells cs 5))).setRow w.heap.size cur).drew=_:=λty=>
    run_copy_row (P:=Tryz.prog) ((dr d (w.alloc (.cells cs 5))).setRow w.heap.size cur).drew 22 22 ty 5 w.heap.size bp (20 - bp) (20 - bp) ⟨w.heap.size,0,none⟩ bp 20 cur 5 (List.replicate m (.int .u8 x.toNat)) u22 i5 (setRow_heap _ _ _ _ _ _ (hg3 d)) (by simp [hm0]) (by
     intro j v hj
     rw [List.getElem?_replicate] at hj
     split at hj
     ·cases hj
      have:(⟨w.heap.size,0,none⟩:Addr).add j=⟨w.heap.size,j,none⟩:=by rw [Sw.add_off,Nat.zero_add]
      rw [this]
      exact (cell_setRow_same (dr d (w.alloc (.cells cs 5))) _ _ _ _ _ _ (hg3 d)).trans (hcur j (by omega))
     ·cases hj) (by simp;omega) (by intro v hv;rw [List.eq_of_mem_replicate hv];rfl)
   go_wp2
   go_region
   go_wp2
   rw [<- hm0]
   refine ⟨⟨bp+m,d+1,(cur.toList.take bp++(List.replicate m (Value.int .u8 x.toNat)++cur.toList.drop (bp+m))).toArray,by simp,by omega,by omega,?_,?_,?_⟩,?_⟩
   ·show (((dr (d+1) (w.alloc (.cells cs 5))).setRow w.heap.size cur).setRow w.heap.size _)=_
    rw [setRow_setRow]
   ·simp
    omega
   ·intro j hj
    simp only [List.getElem?_toArray]
    by_cases h1:j<bp
    ·rw [List.getElem?_append_left (by simp;omega),List.getElem?_take,if_pos h1]
     simpa using hcur j h1
    ·rw [List.getElem?_append_right (by simp;omega),List.getElem?_append_left (by simp;omega),List.getElem?_replicate,if_pos (by simp;omega)]
   ·simp [intOf]
    omega
  ·have:bp=20:=by omega
   subst this
   go_wp2
   go_ret
   exact ⟨rfl,cs,d,cur,rfl,hcur⟩
end Go.Proofs.H
namespace Go.Sw
open Go
theorem hand_env {P:Program} {f:FuncId} {ps:List PV} {rs:AS} (hc:Callable P f)
  (h:∀ (w:World) (M:Mem) (args:Array Value) (ob:List Nat) (nk:∀ e∈([]:List (Nat×Nat)),e.1<BIG),(∀ b∈ob,b<w.heap.size/\∀ o,M b o=none)->GlobOk w M->(∀ b o x,M b o=some x->w.cell? ⟨b,o,none⟩=some x)->args.size=ps.length->(∀ (j:Nat) (p:PV),ps[j]? = some p->Rep M p (args.getD j undef)) ->
   Calls P f args w λe w'=>∃ v,e=.returned v/\SRel ⟨w,M,⟨[],ob,nk⟩,1,[]⟩ rs ⟨#[v],[]⟩ w'):Ok P f ps.length (mkS (argE 0 ps) []) rs:=by
 refine ⟨hc,λw M pk args κ tip hi hp=>?_⟩
 obtain ⟨pl,ob,nk⟩:=pk
 have hpk:pl=[]:=by
  cases pl with
  | nil=>rfl
  | cons e l=>
   have:=(hp e (by simp)).1
   rw [hi.dom e.1 rfl] at this
   cases this
 subst hpk
 refine h w M args ob nk hi.old.2 hi.glob hi.mem hi.size ?_
 intro j p hj
 have hget:∀ (l:List PV) (i j:Nat) (p:PV),l[j]? = some p->lk (argE i l) (i+j)=some (.p p):=by
  intro l
  induction l with
  | nil=>intro i j p h;simp at h
  | cons q r ih=>
   intro i j p h
   cases j with
   | zero=>simp at h;subst h;simp [argE,lk]
   | succ j=>
    have:Nat.beq (i+(j+1)) i=false:=by rw [Bool.eq_false_iff];intro e;have:=Nat.eq_of_beq_eq_true e;omega
    simp only [argE,lk,this,cond_false]
    rw [show i+(j+1)=(i+1)+j by omega]
    exact ih (i+1) j p (by simpa using h)
 obtain ⟨x,h1,h2⟩:=hi.env j (.p p) (by have:=hget ps 0 j p hj;rw [Nat.zero_add] at this;exact this)
 rw [Array.getD_eq_getD_getElem?]
 simp only at h1
 rw [h1]
 exact repA_pv h2
theorem ok_handG {P:Program} {f:FuncId} {ps:List PV} {r:AV} (hc:Callable P f)
  (h:∀ (w:World) (M:Mem) (args:Array Value),GlobOk w M->(∀ b o x,M b o=some x->w.cell? ⟨b,o,none⟩=some x)->args.size=ps.length->(∀ (j:Nat) (p:PV),ps[j]? = some p->Rep M p (args.getD j undef)) ->
   Calls P f args w λe w'=>∃ v M',e=.returned v/\w'.os=w.os/\w'.tape=w.tape/\w'.output=w.output/\w.heap.size<=w'.heap.size/\(∀ b,b<w.heap.size->w'.heap[b]? = w.heap[b]?)/\M.le M'/\(∀ b o x,M' b o=some x->w'.cell? ⟨b,o,none⟩=some x)/\(∀ b o,b<w.heap.size->M' b o=M b o)/\RepA M' (λ_=>none) (λ_=>undef) (λ_=>none) r v) :
  Ok P f ps.length (mkS (argE 0 ps) []) (mkS [(0,r)] []):=
 hand_env hc λw M args ob nk hob hg hm hs hr=>(h w M args hg hm hs hr).mono <| by
  rintro e w' ⟨v,M',rfl,h1,h2,h3,h4,h5,h6,h7,h8,h9⟩
  refine ⟨v,rfl,M',λ_=>none,λ_=>undef,h6,by simp,{
   defers:=rfl
   size:=rfl
   fr:=⟨h1,h2,h3,h4,λb hb _ _=>h5 b hb⟩
   mem:=h7
   env:=λt u e=>by
    simp only [mkS,lk] at e
    cases hb:Nat.beq t 0 with
    | true=>
     have:=Nat.eq_of_beq_eq_true hb
     subst this
     simp at e
     subst e
     exact ⟨v,rfl,h9⟩
    | false=>simp [hb] at e
   vars:=λk l h=>by simp [mkS,lk] at h
   bufs:=λk c h=>by simp [mkS,lk] at h
   inj:=λk k' b h=>by simp at h
   dom:=λ_ _=>rfl
   old:=⟨λb o hb=>h8 b o hb,hob⟩
   glob:=hg.mono h6
   owns:=λk wd l h=>by simp [mkS,lk] at h }⟩
theorem ok_hand {P:Program} {f:FuncId} {ps:List PV} {r:PV} (hc:Callable P f)
  (h:∀ (w:World) (M:Mem) (args:Array Value),(∀ b o x,M b o=some x->w.cell? ⟨b,o,none⟩=some x)->args.size=ps.length->(∀ (j:Nat) (p:PV),ps[j]? = some p->Rep M p (args.getD j undef)) ->
   Calls P f args w λe w'=>∃ v M',e=.returned v/\w'.os=w.os/\w'.tape=w.tape/\w'.output=w.output/\w.heap.size<=w'.heap.size/\(∀ b,b<w.heap.size->w'.heap[b]? = w.heap[b]?)/\M.le M'/\(∀ b o x,M' b o=some x->w'.cell? ⟨b,o,none⟩=some x)/\(∀ b o,b<w.heap.size->M' b o=M b o)/\Rep M' r v) :
  Ok P f ps.length (mkS (argE 0 ps) []) (mkS [(0,.p r)] []):=
 ok_handG hc λw M args _ a b c=>(h w M args a b c).mono λe w' ⟨v,M',h0,h1,h2,h3,h4,h5,h6,h7,h8,h9⟩ =>⟨v,M',h0,h1,h2,h3,h4,h5,h6,h7,h8,.p _ _ h9⟩
theorem ok_handO {P:Program} {f:FuncId} {ps:List PV} {n wd:Nat} {l:List PV} (hwd:0<wd) (hl:n*wd=l.length) (hc:Callable P f)
  (h:∀ (w:World) (M:Mem) (args:Array Value),(∀ b o x,M b o=some x->w.cell? ⟨b,o,none⟩=some x)->args.size=ps.length->(∀ (j:Nat) (p:PV),ps[j]? = some p->Rep M p (args.getD j undef)) ->
   Calls P f args w λe w'=>∃ v t news,e=.returned v/\w'.os=w.os/\w'.tape=w.tape/\w'.output=w.output/\w.heap.size<=w'.heap.size/\(∀ b,b<w.heap.size->w'.heap[b]? = w.heap[b]?)/\w'.ownsRow w.heap.size t wd v n news/\(∀ (j:Nat) (q:PV),l[j]? = some q->∃ x,news[j]? = some x/\Rep M q x)) :
  Ok P f ps.length (mkS (argE 0 ps) []) (mkS [(0,.own 500 n)] [(500,.own wd (l.map .p))]):=
 hand_env hc λw M args ob nk hob hg hm hs hr=>(h w M args hm hs hr).mono <| by
  rintro e w' ⟨v,t,news,rfl,h1,h2,h3,h4,h5,⟨h6,h7⟩,h8⟩
  have hmw:∀ b o,w.heap.size<=b->M b o=none:=λb o hb=>by
   cases hx:M b o with
   | none=>rfl
   | some x=>have:=World.block_lt_of_cell? w _ (hm b o x hx);simp at this;omega
  have h500:∀ k,lk [(500,ABlk.own wd (l.map AV.p))] k=if k=500 then some (.own wd (l.map AV.p)) else none:=λk=>by
   unfold lk
   by_cases hk:k=500
   ·subst hk;rfl
   ·rw [if_neg hk,show Nat.beq k 500=false by rw [Bool.eq_false_iff];intro e;exact hk (Nat.eq_of_beq_eq_true e)];rfl
  refine ⟨v,rfl,M,λk=>if k=500 then v.ownBlock else none,λ_=>v,Mem.le_refl M,by simp,{
   defers:=rfl
   size:=rfl
   fr:=⟨h1,h2,h3,h4,λb hb _ _=>h5 b hb⟩
   mem:=λb o x hx=>by
    have:=hm b o x hx
    rw [World.cell?_of_block (h5 b (World.block_lt_of_cell? w _ this))]
    exact this
   env:=λt u e=>by
    simp only [mkS,lk] at e
    cases hb:Nat.beq t 0 with
    | true=>
     have:=Nat.eq_of_beq_eq_true hb
     subst this
     simp at e
     subst e
     refine ⟨v,rfl,.own 500 n wd (l.map AV.p) v (h500 500) (by simp;omega) (λ_=>rfl) ?_⟩
     rcases h7 with ⟨rfl,_⟩ | ⟨g,cap,cur,rfl,_⟩
     ·exact ⟨_,_,_,rfl⟩
     ·exact ⟨_,_,_,rfl⟩
    | false=>simp [hb] at e
   vars:=λk x h=>by
    have h:lk [(500,ABlk.own wd (l.map AV.p))] k=some (.var x):=h
    rw [h500] at h;split at h<;>cases h
   bufs:=λk c h=>by
    have h:lk [(500,ABlk.own wd (l.map AV.p))] k=some (.buf c):=h
    rw [h500] at h;split at h<;>cases h
   inj:=λk k' b h h'=>by
    have h:(if k=500 then v.ownBlock else none)=some b:=h
    have h':(if k'=500 then v.ownBlock else none)=some b:=h'
    by_cases hk:k=500
    ·by_cases hk':k'=500
     ·rw [hk,hk']
     ·rw [if_neg hk'] at h';cases h'
    ·rw [if_neg hk] at h;cases h
   dom:=λk h=>by
    have h:lk [(500,ABlk.own wd (l.map AV.p))] k=none:=h
    rw [h500] at h
    split at h
    ·cases h
    ·rename_i hk;simp [hk]
   old:=⟨λb o hb=>rfl,hob⟩
   glob:=hg
   owns:=λk wd' l' h=>by
    have h:lk [(500,ABlk.own wd (l.map AV.p))] k=some (.own wd' l'):=h
    rw [h500] at h
    split at h
    ·rename_i hk
     subst hk
     cases h
     refine .inr ⟨hwd,?_⟩
     rcases h7 with ⟨rfl,hn0⟩ | ⟨g,cap,cur,rfl,hgb,hcur,hcap,hmax,hsz,htake⟩
     ·refine .inl ⟨rfl,rfl,?_⟩
      subst hn0
      have:l=[]:=List.length_eq_zero_iff.1 (by omega)
      rw [this];rfl
     ·refine .inr ⟨g,n,cap,cur,t,(0,0),rfl,rfl,.inl hgb,hcur,.inl rfl,by rw [List.length_map];exact hl,by omega,hcap,hmax,λj q hq=>?_,λo=>hmw g o hgb⟩
      rw [List.getElem?_map] at hq
      cases hlj:l[j]? with
      | none=>rw [hlj] at hq;cases hq
      | some q'=>
       rw [hlj] at hq
       cases hq
       obtain ⟨x,hx,hrep⟩:=h8 j q' hlj
       have hj:j<n*wd:=by rw [hl];exact (List.getElem?_eq_some_iff.1 hlj).1
       have:cur.getD j undef=x:=by
        rw [<- htake] at hx
        rw [List.getElem?_take,if_pos hj] at hx
        rw [Array.getD_eq_getD_getElem?,<- Array.getElem?_toList,hx];rfl
       rw [this]
       exact .p _ _ hrep
    ·cases h }⟩
end Go.Sw
