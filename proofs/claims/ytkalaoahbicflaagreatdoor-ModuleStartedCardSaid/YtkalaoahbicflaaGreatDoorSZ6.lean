/- ModuleStarted holds for all inputs -/
import Derived.Test.YtkalaoahbicflaaGreatDoorSZ5
import Derived.Test.YtkalaoahbicflaaGreatDoorSZ2
import Derived.Test.YtkalaoahbicflaaGreatDoorProg
import Derived.Test.YtkalaoahbicflaaGreatDoorSZ3
import Derived.Tactics
import Derived.Tactics2
import Derived.StillTactics
import Derived.Handy
import Derived.Laws.CopyRow
import Derived.Laws.Small
import Derived.Laws.Slices
import Derived.Laws.MathBits
import Derived.Laws.Bits128
import Derived.Room.MakeNoZero
import Derived.Scope
import Derived.LoopTactic
import Derived.Laws.AppendOwn
set_option linter.all false
namespace Go.Proofs.TT
open Go Go.Sw
set_option maxRecDepth 100000
def oY (a:zC):Unit->Option (Unit ⊕ Unit):=λ_=>bif decide (0<(a.Handles.length:Int)) then none else some (.inr ())
def oJ (b:zB) (a:zC):Option (Bool):=(zO (oY a) FU ():Option (Unit)).bind λ_=>bif ((a.Handles.length:Int)==0) then (some true) else none
def vP (a:zB) (c:Int) (b:zC):Option (zB×zD):=(kG b).bind λd=>bif (d != 0) then ((xT a d).bind λ((f,g):zB×zD)=>some (f,zD.mk g.Err [] [] [])) else (bif decide (c<0) then (some true) else some (decide (4<c)):Option (Bool)).bind λ(i:Bool)=>bif i then ((xT a 13).bind λ((j,k):zB×zD)=>some (j,zD.mk k.Err [] [] [])) else (bif (b.Code != 1) then (some (!a.Volatile.Started)) else some false:Option (Bool)).bind λ(l:Bool)=>bif l then ((xT a 28).bind λ((m,o):zB×zD)=>some (m,zD.mk o.Err [] [] [])) else (oJ a b).bind λq=>bif !q then ((xT a 7).bind λ((r,s):zB×zD)=>some (r,zD.mk s.Err [] [] [])) else bif ((b.Auths.length:Int)==0) then ((sX a c b).bind λ((t,e):zB×zD)=>some (t,zD.mk e.Err e.Ints [] [])) else none
def dK (a:zB) (d:Int) (e:List UInt8):Option (zB×(List UInt8)):=(eR e).bind λ((f,b):zC×Int)=>bif (b != 0) then ((wV (zD.mk b [] [] [])).bind λg=>some (a,g)) else (vP a d f).bind λ((i,c):zB×zD)=>(wV (zD.mk c.Err c.Ints [] [])).bind λj=>some (i,j)
def gP:Option (Bool):=(oV 2 [] []).bind λb=>(vP b 0 (zC.mk 4 [] [] [] [])).bind λ((g,a):zB×zD)=>(dK b 0 ([83,87,0,6,4,0]:List UInt8)).bind λ((i,c):zB×(List UInt8))=>(bif (a.Err==0) then (bif ((a.Ints.length:Int)==4) then ((idx a.Ints 1).bind λd=>bif (d==1) then (bif ((c.length:Int)==36) then ((idx c 0).bind λe=>some ((e.toNat:Int)==0)) else some false) else some false) else some false) else some false:Option (Bool)).bind λ(f:Bool)=>some f
def uW (s:Int) (t:List UInt8) (c:List UInt8) (u:Int) (v:Int) (w:Int) (r:Bool):Option (Bool):=(gP).bind λx=>bif !x then (some false) else bif decide (60<(c.length:Int)) then (some true) else (oV s t c).bind λd=>(nN d u v w c).bind λe=>(bif (e.Code==1) then (some true) else (jV e).bind λy=>some (y != 0):Option (Bool)).bind λ(z:Bool)=>bif z then (some true) else (lB d.Stable).bind λa=>(bif r then ((qF d 1).bind λ((b,fa):zB×Int)=>some (b.Stable,b.Volatile.Started,b.Volatile.Stopped,b.Volatile.Registers.Updates,b.Volatile.Clock,b.Volatile.Safe,b.Volatile.Draws,b.Volatile.Sessions,b.Volatile.Objects)) else some (a.Stable,a.Volatile.Started,a.Volatile.Stopped,a.Volatile.Registers.Updates,a.Volatile.Clock,a.Volatile.Safe,a.Volatile.Draws,a.Volatile.Sessions,a.Volatile.Objects):Option (zU×Bool×Bool×Int×Int×Bool×Int×(List zH)×(List zR))).bind λ((f,g,i,j,k,l,m,o,q):zU×Bool×Bool×Int×Int×Bool×Int×(List zH)×(List zR))=>(vP (zB.mk f (yE.mk g i (zE.mk [] j) k l m o q [] [])) 0 e).bind λ((aa,ba):zB×zD)=>(vP (zB.mk f (yE.mk g i (zE.mk [] j) k l m o q [] [])) 0 (zC.mk 1 [] [] ([0]:List Int) [])).bind λ((ga,ca):zB×zD)=>(bif (ba.Err==28) then ((zAs aa (zB.mk f (yE.mk g i (zE.mk [] j) k l m o q [] []))).bind λda=>bif da then (some ((ca.Err==0)==(!r))) else some false) else some false:Option (Bool)).bind λ(ea:Bool)=>some ea
end Go.Proofs.TT
namespace Go.Proofs.Tryz.S
open Go Go.Sw
set_option maxRecDepth 100000
def t2:TI:=⟨1,8,[.int .i64 0],(.int .i64)⟩
def t3:TI:=⟨1,8,[.int .i64 0],(.int .i64)⟩
def t4:TI:=⟨1,1,[.bool false],.bool⟩
def t5:TI:=⟨1,1,[.int .u8 0],(.int .u8)⟩
def t6:TI:=⟨1,1,[.int .u8 0],(.int .u8)⟩
def t7:TI:=⟨4,24,[.int .i64 0,.int .i64 0,.bool false,.int .u8 0],(.struct [(2,0),(3,1),(4,2),(6,3)])⟩
def t8:TI:=⟨4,24,[.int .i64 0,.int .i64 0,.bool false,.int .u8 0],(.struct [(2,0),(3,1),(4,2),(6,3)])⟩
def t9:TI:=⟨1,16,[.str []],.str⟩
def t10:TI:=⟨1,16,[.str []],.str⟩
def t11:TI:=⟨1,16,[.str []],.str⟩
def t12:TI:=⟨1,8,[.int .u64 0],(.int .u64)⟩
def t13:TI:=⟨2,24,[.str [],.int .u64 0],(.struct [(9,0),(12,1)])⟩
def t14:TI:=⟨2,24,[.str [],.int .u64 0],(.struct [(9,0),(12,1)])⟩
def t15:TI:=⟨1,8,[.nilp],(.ptr 360)⟩
def t16:TI:=⟨1,8,[.nilp],(.ptr 363)⟩
def t17:TI:=⟨1,8,[.nilp],(.ptr 371)⟩
def t18:TI:=⟨1,8,[.nilp],(.struct [(17,0)])⟩
def t19:TI:=⟨1,8,[.nilp],(.struct [(17,0)])⟩
def t20:TI:=⟨1,16,[.err false],.iface⟩
def t21:TI:=⟨1,4,[.int .i32 0],(.int .i32)⟩
def t22:TI:=⟨1,24,[.bytes []],(.slice 5)⟩
def t24:TI:=⟨1,24,[.sl 1 []],(.slice 22)⟩
def t25:TI:=⟨1,24,[.sl 1 []],(.slice 24)⟩
def t26:TI:=⟨2,32,[.sl 1 [],.int .i64 0],(.struct [(25,0),(3,1)])⟩
def t27:TI:=⟨2,32,[.sl 1 [],.int .i64 0],(.struct [(25,0),(3,1)])⟩
def t28:TI:=⟨1,24,[.sl 8 []],(.slice 75)⟩
def t29:TI:=⟨6,48,[.int .i64 0,.int .i64 0,.int .i64 0,.int .i64 0,.int .i64 0,.int .i64 0],(.struct [(3,0),(3,1),(3,2),(3,3),(3,4),(3,5)])⟩
def t30:TI:=⟨6,48,[.int .i64 0,.int .i64 0,.int .i64 0,.int .i64 0,.int .i64 0,.int .i64 0],(.struct [(3,0),(3,1),(3,2),(3,3),(3,4),(3,5)])⟩
def t31:TI:=⟨1,24,[.sl 2 []],(.slice 159)⟩
def t32:TI:=⟨19,248,[.sl 1 [],.sl 1 [],.bytes [],.int .i64 0,.int .i64 0,.int .i64 0,.int .i64 0,.bool false,.sl 1 [],.int .i64 0,.int .i64 0,.sl 8 [],.int .i64 0,.int .i64 0,.int .i64 0,.int .i64 0,.int .i64 0,.int .i64 0,.sl 2 []],(.struct [(24,0),(24,1),(22,2),(3,3),(3,4),(3,5),(3,6),(4,7),(27,8),(3,10),(28,11),(30,12),(31,18)])⟩
def t33:TI:=⟨19,248,[.sl 1 [],.sl 1 [],.bytes [],.int .i64 0,.int .i64 0,.int .i64 0,.int .i64 0,.bool false,.sl 1 [],.int .i64 0,.int .i64 0,.sl 8 [],.int .i64 0,.int .i64 0,.int .i64 0,.int .i64 0,.int .i64 0,.int .i64 0,.sl 2 []],(.struct [(24,0),(24,1),(22,2),(3,3),(3,4),(3,5),(3,6),(4,7),(27,8),(3,10),(28,11),(30,12),(31,18)])⟩
def t34:TI:=⟨1,24,[.sl 8 []],(.slice 98)⟩
def t35:TI:=⟨1,24,[.sl 9 []],(.slice 105)⟩
def t36:TI:=⟨1,24,[.sl 1 []],(.slice 3)⟩
def t37:TI:=⟨11,160,[.bool false,.bool false,.sl 1 [],.int .i64 0,.int .i64 0,.bool false,.int .i64 0,.sl 8 [],.sl 9 [],.sl 1 [],.sl 1 []],(.struct [(4,0),(4,1),(27,2),(3,4),(4,5),(3,6),(34,7),(35,8),(36,9),(36,10)])⟩
def t38:TI:=⟨11,160,[.bool false,.bool false,.sl 1 [],.int .i64 0,.int .i64 0,.bool false,.int .i64 0,.sl 8 [],.sl 9 [],.sl 1 [],.sl 1 []],(.struct [(4,0),(4,1),(27,2),(3,4),(4,5),(3,6),(34,7),(35,8),(36,9),(36,10)])⟩
def t39:TI:=⟨30,408,[.sl 1 [],.sl 1 [],.bytes [],.int .i64 0,.int .i64 0,.int .i64 0,.int .i64 0,.bool false,.sl 1 [],.int .i64 0,.int .i64 0,.sl 8 [],.int .i64 0,.int .i64 0,.int .i64 0,.int .i64 0,.int .i64 0,.int .i64 0,.sl 2 [],.bool false,.bool false,.sl 1 [],.int .i64 0,.int .i64 0,.bool false,.int .i64 0,.sl 8 [],.sl 9 [],.sl 1 [],.sl 1 []],(.struct [(33,0),(38,19)])⟩
def t40:TI:=⟨30,408,[.sl 1 [],.sl 1 [],.bytes [],.int .i64 0,.int .i64 0,.int .i64 0,.int .i64 0,.bool false,.sl 1 [],.int .i64 0,.int .i64 0,.sl 8 [],.int .i64 0,.int .i64 0,.int .i64 0,.int .i64 0,.int .i64 0,.int .i64 0,.sl 2 [],.bool false,.bool false,.sl 1 [],.int .i64 0,.int .i64 0,.bool false,.int .i64 0,.sl 8 [],.sl 9 [],.sl 1 [],.sl 1 []],(.struct [(33,0),(38,19)])⟩
def t42:TI:=⟨5,40,[.int .i64 0,.int .i64 0,.int .i64 0,.int .i64 0,.int .i64 0],(.arr 5 3)⟩
def t43:TI:=⟨3,56,[.int .i64 0,.bytes [],.bytes []],(.struct [(3,0),(22,1),(22,2)])⟩
def t44:TI:=⟨3,56,[.int .i64 0,.bytes [],.bytes []],(.struct [(3,0),(22,1),(22,2)])⟩
def t45:TI:=⟨1,24,[.sl 3 []],(.slice 44)⟩
def t46:TI:=⟨5,104,[.int .i64 0,.sl 1 [],.sl 3 [],.sl 1 [],.sl 1 []],(.struct [(3,0),(36,1),(45,2),(36,3),(24,4)])⟩
def t47:TI:=⟨5,104,[.int .i64 0,.sl 1 [],.sl 3 [],.sl 1 [],.sl 1 []],(.struct [(3,0),(36,1),(45,2),(36,3),(24,4)])⟩
def t48:TI:=⟨1,8,[.int .i64 0],(.int .i64)⟩
def t49:TI:=⟨4,80,[.int .i64 0,.sl 1 [],.sl 1 [],.sl 1 []],(.struct [(48,0),(36,1),(24,2),(24,3)])⟩
def t50:TI:=⟨4,80,[.int .i64 0,.sl 1 [],.sl 1 [],.sl 1 []],(.struct [(48,0),(36,1),(24,2),(24,3)])⟩
def t74:TI:=⟨8,112,[.int .i64 0,.int .i64 0,.int .i64 0,.int .i64 0,.bytes [],.bytes [],.bool false,.bytes []],(.struct [(3,0),(3,1),(3,2),(3,3),(22,4),(22,5),(4,6),(22,7)])⟩
def t75:TI:=⟨8,112,[.int .i64 0,.int .i64 0,.int .i64 0,.int .i64 0,.bytes [],.bytes [],.bool false,.bytes []],(.struct [(3,0),(3,1),(3,2),(3,3),(22,4),(22,5),(4,6),(22,7)])⟩
def t87:TI:=⟨4,32,[.int .i64 0,.int .i64 0,.int .i64 0,.int .i64 0],(.arr 4 3)⟩
def t97:TI:=⟨8,96,[.int .i64 0,.bytes [],.bytes [],.int .i64 0,.int .i64 0,.int .i64 0,.int .i64 0,.bool false],(.struct [(3,0),(22,1),(22,2),(3,3),(3,4),(3,5),(3,6),(4,7)])⟩
def t98:TI:=⟨8,96,[.int .i64 0,.bytes [],.bytes [],.int .i64 0,.int .i64 0,.int .i64 0,.int .i64 0,.bool false],(.struct [(3,0),(22,1),(22,2),(3,3),(3,4),(3,5),(3,6),(4,7)])⟩
def t100:TI:=⟨5,72,[.int .i64 0,.int .i64 0,.int .i64 0,.bytes [],.bytes []],(.struct [(3,0),(3,1),(3,2),(22,3),(22,4)])⟩
def t101:TI:=⟨5,72,[.int .i64 0,.int .i64 0,.int .i64 0,.bytes [],.bytes []],(.struct [(3,0),(3,1),(3,2),(22,3),(22,4)])⟩
def t102:TI:=⟨3,72,[.bytes [],.bytes [],.bytes []],(.struct [(22,0),(22,1),(22,2)])⟩
def t103:TI:=⟨3,72,[.bytes [],.bytes [],.bytes []],(.struct [(22,0),(22,1),(22,2)])⟩
def t104:TI:=⟨9,152,[.int .i64 0,.int .i64 0,.int .i64 0,.bytes [],.bytes [],.bytes [],.bytes [],.bytes [],.int .i64 0],(.struct [(101,0),(103,5),(3,8)])⟩
def t105:TI:=⟨9,152,[.int .i64 0,.int .i64 0,.int .i64 0,.bytes [],.bytes [],.bytes [],.bytes [],.bytes [],.int .i64 0],(.struct [(101,0),(103,5),(3,8)])⟩
def t131:TI:=⟨39,576,[.sl 1 [],.sl 1 [],.bytes [],.int .i64 0,.int .i64 0,.int .i64 0,.int .i64 0,.bool false,.sl 1 [],.int .i64 0,.int .i64 0,.sl 8 [],.int .i64 0,.int .i64 0,.int .i64 0,.int .i64 0,.int .i64 0,.int .i64 0,.sl 2 [],.bool false,.bool false,.sl 1 [],.int .i64 0,.int .i64 0,.bool false,.int .i64 0,.sl 8 [],.sl 9 [],.sl 1 [],.sl 1 [],.int .i64 0,.sl 1 [],.sl 3 [],.sl 1 [],.sl 1 [],.int .i64 0,.bytes [],.bytes [],.int .i64 0],(.struct [(40,0),(47,30),(44,35),(3,38)])⟩
def t132:TI:=⟨39,576,[.sl 1 [],.sl 1 [],.bytes [],.int .i64 0,.int .i64 0,.int .i64 0,.int .i64 0,.bool false,.sl 1 [],.int .i64 0,.int .i64 0,.sl 8 [],.int .i64 0,.int .i64 0,.int .i64 0,.int .i64 0,.int .i64 0,.int .i64 0,.sl 2 [],.bool false,.bool false,.sl 1 [],.int .i64 0,.int .i64 0,.bool false,.int .i64 0,.sl 8 [],.sl 9 [],.sl 1 [],.sl 1 [],.int .i64 0,.sl 1 [],.sl 3 [],.sl 1 [],.sl 1 [],.int .i64 0,.bytes [],.bytes [],.int .i64 0],(.struct [(40,0),(47,30),(44,35),(3,38)])⟩
def t139:TI:=⟨1,8,[.nilp],(.ptr 241)⟩
def t142:TI:=⟨1,8,[.int .u64 0],(.int .u64)⟩
def t154:TI:=⟨136,1088,List.replicate 136 (.int .i64 0),(.arr 34 87)⟩
def t158:TI:=⟨2,32,[.bytes [],.int .i64 0],(.struct [(22,0),(3,1)])⟩
def t159:TI:=⟨2,32,[.bytes [],.int .i64 0],(.struct [(22,0),(3,1)])⟩
def t162:TI:=⟨1,8,[.nilp],(.ptr 253)⟩
def t168:TI:=⟨5,40,[.int .i64 0,.int .i64 0,.int .i64 0,.int .i64 0,.int .i64 0],(.struct [(3,0),(3,1),(3,2),(3,3),(3,4)])⟩
def t169:TI:=⟨5,40,[.int .i64 0,.int .i64 0,.int .i64 0,.int .i64 0,.int .i64 0],(.struct [(3,0),(3,1),(3,2),(3,3),(3,4)])⟩
def t170:TI:=⟨160,1280,List.replicate 160 (.int .i64 0),(.arr 32 169)⟩
def t171:TI:=⟨2,2,[.int .u8 0,.int .u8 0],(.arr 2 5)⟩
def t172:TI:=⟨4,80,[.bytes [],.bytes [],.bytes [],.bool false],(.struct [(22,0),(22,1),(22,2),(4,3)])⟩
def t173:TI:=⟨4,80,[.bytes [],.bytes [],.bytes [],.bool false],(.struct [(22,0),(22,1),(22,2),(4,3)])⟩
def t186:TI:=⟨2,16,[.int .i64 0,.int .i64 0],(.arr 2 3)⟩
def t187:TI:=⟨2,16,[.int .i64 0,.int .i64 0],(.arr 2 3)⟩
def t188:TI:=⟨10,160,[.int .i64 0,.int .i64 0,.int .i64 0,.bytes [],.int .i64 0,.int .i64 0,.bytes [],.bytes [],.bytes [],.sl 1 []],(.struct [(3,0),(187,1),(22,3),(3,4),(3,5),(22,6),(22,7),(22,8),(24,9)])⟩
def t189:TI:=⟨10,160,[.int .i64 0,.int .i64 0,.int .i64 0,.bytes [],.int .i64 0,.int .i64 0,.bytes [],.bytes [],.bytes [],.sl 1 []],(.struct [(3,0),(187,1),(22,3),(3,4),(3,5),(22,6),(22,7),(22,8),(24,9)])⟩
def t192:TI:=⟨1,8,[.nilp],(.ptr 3)⟩
def t193:TI:=⟨1,24,[.sl 1 []],(.slice 192)⟩
def t194:TI:=⟨1,8,[.nilp],(.ptr 22)⟩
def t195:TI:=⟨1,24,[.sl 1 []],(.slice 194)⟩
def t219:TI:=⟨10,128,[.bytes [],.bytes [],.int .i64 0,.int .i64 0,.int .i64 0,.bool false,.int .i64 0,.int .i64 0,.int .i64 0,.bytes []],(.struct [(22,0),(22,1),(3,2),(3,3),(3,4),(4,5),(3,6),(187,7),(22,9)])⟩
def t220:TI:=⟨10,128,[.bytes [],.bytes [],.int .i64 0,.int .i64 0,.int .i64 0,.bool false,.int .i64 0,.int .i64 0,.int .i64 0,.bytes []],(.struct [(22,0),(22,1),(3,2),(3,3),(3,4),(4,5),(3,6),(187,7),(22,9)])⟩
def t240:TI:=⟨3,40,[.bytes [],.int .i64 0,.int .i64 0],(.struct [(22,0),(3,1),(48,2)])⟩
def t241:TI:=⟨3,40,[.bytes [],.int .i64 0,.int .i64 0],(.struct [(22,0),(3,1),(48,2)])⟩
def t242:TI:=⟨1,8,[.int .u64 0],(.int .u64)⟩
def t244:TI:=⟨1,24,[.sl 10 []],(.slice 189)⟩
def t252:TI:=⟨3,40,[.bytes [],.int .i64 0,.int .i64 0],(.struct [(22,0),(3,1),(48,2)])⟩
def t253:TI:=⟨3,40,[.bytes [],.int .i64 0,.int .i64 0],(.struct [(22,0),(3,1),(48,2)])⟩
def t258:TI:=⟨1,4,[.int .u32 0],(.int .u32)⟩
def t259:TI:=⟨5,20,[.int .u32 0,.int .u32 0,.int .u32 0,.int .u32 0,.int .u32 0],(.arr 5 258)⟩
def t261:TI:=⟨1,8,[.nilp],(.ptr 259)⟩
def t263:TI:=⟨1,24,[.sl 1 []],(.slice 258)⟩
def t264:TI:=⟨8,32,[.int .u32 0,.int .u32 0,.int .u32 0,.int .u32 0,.int .u32 0,.int .u32 0,.int .u32 0,.int .u32 0],(.arr 8 258)⟩
def t266:TI:=⟨1,8,[.nilp],(.ptr 264)⟩
def t276:TI:=⟨1,8,[.nilp],(.ptr 30)⟩
def t295:TI:=⟨64,256,List.replicate 64 (.int .u32 0),(.arr 64 258)⟩
def t304:TI:=⟨80,320,List.replicate 80 (.int .u32 0),(.arr 80 258)⟩
def t344:TI:=⟨256,256,List.replicate 256 (.bool false),(.arr 256 4)⟩
def t345:TI:=⟨256,256,List.replicate 256 (.bool false),(.arr 256 4)⟩
def t349:TI:=⟨1,8,[.nilp],(.ptr 345)⟩
def t354:TI:=⟨256,256,List.replicate 256 (.int .u8 0),(.arr 256 5)⟩
def t355:TI:=⟨2,2,[.int .u8 0,.int .u8 0],(.struct [(5,0),(5,1)])⟩
def t356:TI:=⟨2,2,[.int .u8 0,.int .u8 0],(.struct [(5,0),(5,1)])⟩
def t357:TI:=⟨32,32,List.replicate 32 (.int .u8 0),(.arr 16 356)⟩
def t359:TI:=⟨4,40,[.nilp,.nilp,.nilp,.str []],(.struct [(17,0),(17,1),(17,2),(9,3)])⟩
def t360:TI:=⟨4,40,[.nilp,.nilp,.nilp,.str []],(.struct [(17,0),(17,1),(17,2),(9,3)])⟩
def t361:TI:=⟨0,0,[],(.arr 0 16)⟩
def t362:TI:=⟨0,0,[],(.struct [(361,0)])⟩
def t363:TI:=⟨0,0,[],(.struct [(361,0)])⟩
def t364:TI:=⟨1,1,[.int .u8 0],(.int .u8)⟩
def t365:TI:=⟨1,1,[.int .u8 0],(.int .u8)⟩
def t367:TI:=⟨1,8,[.nilp],(.ptr 5)⟩
def t368:TI:=⟨1,4,[.int .i32 0],(.int .i32)⟩
def t369:TI:=⟨1,4,[.int .i32 0],(.int .i32)⟩
def tr:Tr:=(.node 105 t105 (.node 31 t31 (.node 16 t16 (.node 9 t9 (.node 5 t5 (.node 3 t3 (.node 2 t2 .leaf .leaf) (.node 4 t4 .leaf .leaf)) (.node 7 t7 (.node 6 t6 .leaf .leaf) (.node 8 t8 .leaf .leaf))) (.node 13 t13 (.node 11 t11 (.node 10 t10 .leaf .leaf) (.node 12 t12 .leaf .leaf)) (.node 15 t15 (.node 14 t14 .leaf .leaf) .leaf))) (.node 24 t24 (.node 20 t20 (.node 18 t18 (.node 17 t17 .leaf .leaf) (.node 19 t19 .leaf .leaf)) (.node 22 t22 (.node 21 t21 .leaf .leaf) .leaf)) (.node 28 t28 (.node 26 t26 (.node 25 t25 .leaf .leaf) (.node 27 t27 .leaf .leaf)) (.node 30 t30 (.node 29 t29 .leaf .leaf) .leaf)))) (.node 47 t47 (.node 39 t39 (.node 35 t35 (.node 33 t33 (.node 32 t32 .leaf .leaf) (.node 34 t34 .leaf .leaf)) (.node 37 t37 (.node 36 t36 .leaf .leaf) (.node 38 t38 .leaf .leaf))) (.node 44 t44 (.node 42 t42 (.node 40 t40 .leaf .leaf) (.node 43 t43 .leaf .leaf)) (.node 46 t46 (.node 45 t45 .leaf .leaf) .leaf))) (.node 97 t97 (.node 74 t74 (.node 49 t49 (.node 48 t48 .leaf .leaf) (.node 50 t50 .leaf .leaf)) (.node 87 t87 (.node 75 t75 .leaf .leaf) .leaf)) (.node 102 t102 (.node 100 t100 (.node 98 t98 .leaf .leaf) (.node 101 t101 .leaf .leaf)) (.node 104 t104 (.node 103 t103 .leaf .leaf) .leaf))))) (.node 252 t252 (.node 186 t186 (.node 162 t162 (.node 142 t142 (.node 132 t132 (.node 131 t131 .leaf .leaf) (.node 139 t139 .leaf .leaf)) (.node 158 t158 (.node 154 t154 .leaf .leaf) (.node 159 t159 .leaf .leaf))) (.node 171 t171 (.node 169 t169 (.node 168 t168 .leaf .leaf) (.node 170 t170 .leaf .leaf)) (.node 173 t173 (.node 172 t172 .leaf .leaf) .leaf))) (.node 195 t195 (.node 192 t192 (.node 188 t188 (.node 187 t187 .leaf .leaf) (.node 189 t189 .leaf .leaf)) (.node 194 t194 (.node 193 t193 .leaf .leaf) .leaf)) (.node 241 t241 (.node 220 t220 (.node 219 t219 .leaf .leaf) (.node 240 t240 .leaf .leaf)) (.node 244 t244 (.node 242 t242 .leaf .leaf) .leaf)))) (.node 354 t354 (.node 266 t266 (.node 261 t261 (.node 258 t258 (.node 253 t253 .leaf .leaf) (.node 259 t259 .leaf .leaf)) (.node 264 t264 (.node 263 t263 .leaf .leaf) .leaf)) (.node 344 t344 (.node 295 t295 (.node 276 t276 .leaf .leaf) (.node 304 t304 .leaf .leaf)) (.node 349 t349 (.node 345 t345 .leaf .leaf) .leaf))) (.node 362 t362 (.node 359 t359 (.node 356 t356 (.node 355 t355 .leaf .leaf) (.node 357 t357 .leaf .leaf)) (.node 361 t361 (.node 360 t360 .leaf .leaf) .leaf)) (.node 367 t367 (.node 364 t364 (.node 363 t363 .leaf .leaf) (.node 365 t365 .leaf .leaf)) (.node 369 t369 (.node 368 t368 .leaf .leaf) .leaf))))))
def te:TE:=tr.get
theorem iG:yO Tryz.prog te:=Tr.ok tr (by kernel_rfl)
end Go.Proofs.Tryz.S
namespace Go.Proofs.H
open Go Go.Proofs Go.RowKit
theorem u22:Tryz.prog.underlying 22=some (.slice 5):=by kernel_rfl
theorem i5:(Tryz.prog.info? 5).map (·.size)=some 1:=by kernel_rfl
theorem run_mnz (w:World) (n:Nat) (hn:n<=64):∃ cs:Array Value,(callFunc 383 #[.int .i64 n]).run Tryz.prog w=.ok (.value (.slice (some ⟨w.heap.size,0,none⟩) n cs.size)) (w.drew.drew.alloc (.cells cs 5))/\n<=cs.size:=by
 obtain ⟨cs,h1,h2,h3,h4⟩:=Lib.run_makeNoZero_cap (P:=Tryz.prog) w #[3] 22 5 u22 n (by omega)
 refine ⟨cs,?_,h2⟩
 have:=run_callFunc_extern (P:=Tryz.prog) Tryz.func383 (by kernel_rfl) (by kernel_rfl) (by kernel_rfl) (e:=Extern.BytealgMakeNoZero.makeNoZero #[3] #[22]) (by kernel_rfl) #[.int .i64 n] w
 rw [h1] at this
 exact this
def dr (d:Nat) (w:World):World:={ w with drawn:=d }
set_option maxRecDepth 1000000 in
set_option maxHeartbeats 4000000 in
theorem walk_rep32 (b o c:Nat) (x:UInt8) (w:World) (hc:w.cell? ⟨b,o,none⟩=some (.int .u8 x.toNat)) :
  Calls Tryz.prog 309 #[.slice (some ⟨b,o,none⟩) 1 c,.int .i64 32] w λe w'=>e=.returned (.slice (some ⟨w.heap.size,0,none⟩) 32 32)/\∃ cs d cur,w'=(dr d (w.alloc (.cells cs 5))).setRow w.heap.size cur/\∀ j,j<32->cur[j]? = some (.int .u8 x.toNat):=by
 obtain ⟨cs,hm,hcs⟩:=run_mnz w 32 (by omega)
 have hm':(callFunc 383 #[.int .i64 32]).run Tryz.prog w=.ok (.value (.slice (some ⟨w.heap.size,0,none⟩) 32 cs.size)) (w.drew.drew.alloc (.cells cs 5)):=hm
 have hblt:b<w.heap.size:=World.block_lt_of_cell? w _ hc
 have hg2:(w.alloc (.cells cs 5)).drew.drew.heap[w.heap.size]? = some (.cells cs 5 (0,0)):=heap_alloc_new w _
 have hc2:(w.alloc (.cells cs 5)).drew.drew.cell? ⟨b,o,none⟩=some (.int .u8 x.toNat):=by
  have:=World.cell?_alloc_lt w (.cells cs 5) ⟨b,o,none⟩ hblt
  rw [<- hc,<- this]
  rfl
 have hcp:∀ ty,(Builtin.copy_ #[22,22] ty #[.slice (some ⟨w.heap.size,0,none⟩) 32 32,.slice (some ⟨b,o,none⟩) 1 c]).run Tryz.prog (w.alloc (.cells cs 5)).drew.drew=_:=λty=>
  run_copy_row (P:=Tryz.prog) (w.alloc (.cells cs 5)).drew.drew 22 22 ty 5 w.heap.size 0 32 32 ⟨b,o,none⟩ 1 c cs 5 [.int .u8 x.toNat] u22 i5 hg2 rfl (by intro j v hj;rcases j with _ | j;(simp at hj;subst hj;simpa [Addr.add] using hc2);simp at hj) (by simp;omega) (by simp [Value.oneCell'])
 go_enter Tryz.func309,Tryz.ntmps309
 go_wp2
 have hg3:∀ d,(dr d (w.alloc (.cells cs 5))).heap[w.heap.size]? = some (.cells cs 5 (0,0)):=λ_=>hg2
 go_loopw [10] (λv wr=>∃ (bp d:Nat) (cur:Array Value),v=.int .i64 bp/\1<=bp/\bp<=32/\wr=(dr d (w.alloc (.cells cs 5))).setRow w.heap.size cur/\cur.size=cs.size/\∀ j,j<bp->cur[j]? = some (.int .u8 x.toNat)) (λv _=>32 - (intOf v).toNat)
 case atStart=>
  refine ⟨1,w.drawn+2,_,rfl,by omega,by omega,rfl,by simp;omega,λj hj=>(match j,hj with | 0,_=>rfl)⟩
 case round=>
  obtain ⟨bp,d,cur,rfl,hb1,hb2,rfl,hsz,hcur⟩:=hrel
  by_cases hlt:bp<32
  ·obtain ⟨m,hm0,hm1,hm2,hm3⟩:∃ m,m=Nat.min bp (32 - bp)/\m<=bp/\m<=32 - bp/\1<=m:=⟨_,rfl,Nat.min_le_left _ _,Nat.min_le_right _ _,by show 1<=min bp (32 - bp);omega⟩
   have hcp2:∀ ty,(Builtin.copy_ #[22,22] ty #[.slice (some ⟨w.heap.size,bp,none⟩) (32 - bp) (32 - bp),.slice (some ⟨w.heap.size,0,none⟩) bp 32]).run Tryz.prog ((dr d (w.alloc (.cells cs 5))).setRow w.heap.size cur).drew=_:=λty=>
    run_copy_row (P:=Tryz.prog) ((dr d (w.alloc (.cells cs 5))).setRow w.heap.size cur).drew 22 22 ty 5 w.heap.size bp (32 - bp) (32 - bp) ⟨w.heap.size,0,none⟩ bp 32 cur 5 (List.replicate m (.int .u8 x.toNat)) u22 i5 (setRow_heap _ _ _ _ _ _ (hg3 d)) (by simp [hm0]) (by
     intro j v hj
     rw [List.getElem?_replicate] at hj
     split at hj
     ·cases hj
      have:(⟨w.heap.size,0,none⟩:Addr).add j=⟨w.heap.size,j,none⟩:=by rw [Sw.add_off,Nat.zero_add]
      rw [this]
      exact (cell_setRow_same (dr d (w.alloc (.cells cs 5))) _ _ _ _ _ _ (hg3 d)).trans (hcur j (by omega))
     ·cases hj) (by simp;omega) (by intro v hv;rw [List.eq_of_mem_replicate hv];rfl)
   go_wp2
   go_region
   go_wp2
   rw [<- hm0]
   refine ⟨⟨bp+m,d+1,(cur.toList.take bp++(List.replicate m (Value.int .u8 x.toNat)++cur.toList.drop (bp+m))).toArray,by simp,by omega,by omega,?_,?_,?_⟩,?_⟩
   ·show (((dr (d+1) (w.alloc (.cells cs 5))).setRow w.heap.size cur).setRow w.heap.size _)=_
    rw [setRow_setRow]
   ·simp
    omega
   ·intro j hj
    simp only [List.getElem?_toArray]
    by_cases h1:j<bp
    ·rw [List.getElem?_append_left (by simp;omega),List.getElem?_take,if_pos h1]
     simpa using hcur j h1
    ·rw [List.getElem?_append_right (by simp;omega),List.getElem?_append_left (by simp;omega),List.getElem?_replicate,if_pos (by simp;omega)]
   ·simp [intOf]
    omega
  ·have:bp=32:=by omega
   subst this
   go_wp2
   go_ret
   exact ⟨rfl,cs,d,cur,rfl,hcur⟩
set_option maxRecDepth 1000000 in
set_option maxHeartbeats 4000000 in
theorem walk_rep20 (b o c:Nat) (x:UInt8) (w:World) (hc:w.cell? ⟨b,o,none⟩=some (.int .u8 x.toNat)) :
  Calls Tryz.prog 309 #[.slice (some ⟨b,o,none⟩) 1 c,.int .i64 20] w λe w'=>e=.returned (.slice (some ⟨w.heap.size,0,none⟩) 20 20)/\∃ cs d cur,w'=(dr d (w.alloc (.cells cs 5))).setRow w.heap.size cur/\∀ j,j<20->cur[j]? = some (.int .u8 x.toNat):=by
 obtain ⟨cs,hm,hcs⟩:=run_mnz w 20 (by omega)
 have hm':(callFunc 383 #[.int .i64 20]).run Tryz.prog w=.ok (.value (.slice (some ⟨w.heap.size,0,none⟩) 20 cs.size)) (w.drew.drew.alloc (.cells cs 5)):=hm
 have hblt:b<w.heap.size:=World.block_lt_of_cell? w _ hc
 have hg2:(w.alloc (.cells cs 5)).drew.drew.heap[w.heap.size]? = some (.cells cs 5 (0,0)):=heap_alloc_new w _
 have hc2:(w.alloc (.cells cs 5)).drew.drew.cell? ⟨b,o,none⟩=some (.int .u8 x.toNat):=by
  have:=World.cell?_alloc_lt w (.cells cs 5) ⟨b,o,none⟩ hblt
  rw [<- hc,<- this]
  rfl
 have hcp:∀ ty,(Builtin.copy_ #[22,22] ty #[.slice (some ⟨w.heap.size,0,none⟩) 20 20,.slice (some ⟨b,o,none⟩) 1 c]).run Tryz.prog (w.alloc (.cells cs 5)).drew.drew=_:=λty=>
  run_copy_row (P:=Tryz.prog) (w.alloc (.cells cs 5)).drew.drew 22 22 ty 5 w.heap.size 0 20 20 ⟨b,o,none⟩ 1 c cs 5 [.int .u8 x.toNat] u22 i5 hg2 rfl (by intro j v hj;rcases j with _ | j;(simp at hj;subst hj;simpa [Addr.add] using hc2);simp at hj) (by simp;omega) (by simp [Value.oneCell'])
 go_enter Tryz.func309,Tryz.ntmps309
 go_wp2
 have hg3:∀ d,(dr d (w.alloc (.cells cs 5))).heap[w.heap.size]? = some (.cells cs 5 (0,0)):=λ_=>hg2
 go_loopw [10] (λv wr=>∃ (bp d:Nat) (cur:Array Value),v=.int .i64 bp/\1<=bp/\bp<=20/\wr=(dr d (w.alloc (.cells cs 5))).setRow w.heap.size cur/\cur.size=cs.size/\∀ j,j<bp->cur[j]? = some (.int .u8 x.toNat)) (λv _=>20 - (intOf v).toNat)
 case atStart=>
  refine ⟨1,w.drawn+2,_,rfl,by omega,by omega,rfl,by simp;omega,λj hj=>(match j,hj with | 0,_=>rfl)⟩
 case round=>
  obtain ⟨bp,d,cur,rfl,hb1,hb2,rfl,hsz,hcur⟩:=hrel
  by_cases hlt:bp<20
  ·obtain ⟨m,hm0,hm1,hm2,hm3⟩:∃ m,m=Nat.min bp (20 - bp)/\m<=bp/\m<=20 - bp/\1<=m:=⟨_,rfl,Nat.min_le_left _ _,Nat.min_le_right _ _,by show 1<=min bp (20 - bp);omega⟩
   have hcp2:∀ ty,(Builtin.copy_ #[22,22] ty #[.slice (some ⟨w.heap.size,bp,none⟩) (20 - bp) (20 - bp),.slice (some ⟨w.heap.size,0,none⟩) bp 20]).run Tryz.prog ((dr d (w.alloc (.cells cs 5))).setRow w.heap.size cur).drew=_:=λty=>
    run_copy_row (P:=Tryz.prog) ((dr d (w.alloc (.cells cs 5))).setRow w.heap.size cur).drew 22 22 ty 5 w.heap.size bp (20 - bp) (20 - bp) ⟨w.heap.size,0,none⟩ bp 20 cur 5 (List.replicate m (.int .u8 x.toNat)) u22 i5 (setRow_heap _ _ _ _ _ _ (hg3 d)) (by simp [hm0]) (by
     intro j v hj
     rw [List.getElem?_replicate] at hj
     split at hj
     ·cases hj
      have:(⟨w.heap.size,0,none⟩:Addr).add j=⟨w.heap.size,j,none⟩:=by rw [Sw.add_off,Nat.zero_add]
      rw [this]
      exact (cell_setRow_same (dr d (w.alloc (.cells cs 5))) _ _ _ _ _ _ (hg3 d)).trans (hcur j (by omega))
     ·cases hj) (by simp;omega) (by intro v hv;rw [List.eq_of_mem_replicate hv];rfl)
   go_wp2
   go_region
   go_wp2
   rw [<- hm0]
   refine ⟨⟨bp+m,d+1,(cur.toList.take bp++(List.replicate m (Value.int .u8 x.toNat)++cur.toList.drop (bp+m))).toArray,by simp,by omega,by omega,?_,?_,?_⟩,?_⟩
   ·show (((dr (d+1) (w.alloc (.cells cs 5))).setRow w.heap.size cur).setRow w.heap.size _)=_
    rw [setRow_setRow]
   ·simp
    omega
   ·intro j hj
    simp only [List.getElem?_toArray]
    by_cases h1:j<bp
    ·rw [List.getElem?_append_left (by simp;omega),List.getElem?_take,if_pos h1]
     simpa using hcur j h1
    ·rw [List.getElem?_append_right (by simp;omega),List.getElem?_append_left (by simp;omega),List.getElem?_replicate,if_pos (by simp;omega)]
   ·simp [intOf]
    omega
  ·have:bp=20:=by omega
   subst this
   go_wp2
   go_ret
   exact ⟨rfl,cs,d,cur,rfl,hcur⟩
end Go.Proofs.H
namespace Go.Sw
open Go
theorem hand_env {P:Program} {f:FuncId} {ps:List PV} {rs:AS} (hc:Callable P f)
  (h:∀ (w:World) (M:Mem) (args:Array Value) (ob:List Nat) (nk:∀ e∈([]:List (Nat×Nat)),e.1<BIG),(∀ b∈ob,b<w.heap.size/\∀ o,M b o=none)->GlobOk w M->(∀ b o x,M b o=some x->w.cell? ⟨b,o,none⟩=some x)->args.size=ps.length->(∀ (j:Nat) (p:PV),ps[j]? = some p->Rep M p (args.getD j undef)) ->
   Calls P f args w λe w'=>∃ v,e=.returned v/\SRel ⟨w,M,⟨[],ob,nk⟩,1,[]⟩ rs ⟨#[v],[]⟩ w'):Ok P f ps.length (mkS (argE 0 ps) []) rs:=by
 refine ⟨hc,λw M pk args κ tip hi hp=>?_⟩
 obtain ⟨pl,ob,nk⟩:=pk
 have hpk:pl=[]:=by
  cases pl with
  | nil=>rfl
  | cons e l=>
   have:=(hp e (by simp)).1
   rw [hi.dom e.1 rfl] at this
   cases this
 subst hpk
 refine h w M args ob nk hi.old.2 hi.glob hi.mem hi.size ?_
 intro j p hj
 have hget:∀ (l:List PV) (i j:Nat) (p:PV),l[j]? = some p->lk (argE i l) (i+j)=some (.p p):=by
  intro l
  induction l with
  | nil=>intro i j p h;simp at h
  | cons q r ih=>
   intro i j p h
   cases j with
   | zero=>simp at h;subst h;simp [argE,lk]
   | succ j=>
    have:Nat.beq (i+(j+1)) i=false:=by rw [Bool.eq_false_iff];intro e;have:=Nat.eq_of_beq_eq_true e;omega
    simp only [argE,lk,this,cond_false]
    rw [show i+(j+1)=(i+1)+j by omega]
    exact ih (i+1) j p (by simpa using h)
 obtain ⟨x,h1,h2⟩:=hi.env j (.p p) (by have:=hget ps 0 j p hj;rw [Nat.zero_add] at this;exact this)
 rw [Array.getD_eq_getD_getElem?]
 simp only at h1
 rw [h1]
 exact repA_pv h2
theorem ok_handG {P:Program} {f:FuncId} {ps:List PV} {r:AV} (hc:Callable P f)
  (h:∀ (w:World) (M:Mem) (args:Array Value),GlobOk w M->(∀ b o x,M b o=some x->w.cell? ⟨b,o,none⟩=some x)->args.size=ps.length->(∀ (j:Nat) (p:PV),ps[j]? = some p->Rep M p (args.getD j undef)) ->
   Calls P f args w λe w'=>∃ v M',e=.returned v/\w'.os=w.os/\w'.tape=w.tape/\w'.output=w.output/\w.heap.size<=w'.heap.size/\(∀ b,b<w.heap.size->w'.heap[b]? = w.heap[b]?)/\M.le M'/\(∀ b o x,M' b o=some x->w'.cell? ⟨b,o,none⟩=some x)/\(∀ b o,b<w.heap.size->M' b o=M b o)/\RepA M' (λ_=>none) (λ_=>undef) (λ_=>none) r v) :
  Ok P f ps.length (mkS (argE 0 ps) []) (mkS [(0,r)] []):=
 hand_env hc λw M args ob nk hob hg hm hs hr=>(h w M args hg hm hs hr).mono <| by
  rintro e w' ⟨v,M',rfl,h1,h2,h3,h4,h5,h6,h7,h8,h9⟩
  refine ⟨v,rfl,M',λ_=>none,λ_=>undef,h6,by simp,{
   defers:=rfl
   size:=rfl
   fr:=⟨h1,h2,h3,h4,λb hb _ _=>h5 b hb⟩
   mem:=h7
   env:=λt u e=>by
    simp only [mkS,lk] at e
    cases hb:Nat.beq t 0 with
    | true=>
     have:=Nat.eq_of_beq_eq_true hb
     subst this
     simp at e
     subst e
     exact ⟨v,rfl,h9⟩
    | false=>simp [hb] at e
   vars:=λk l h=>by simp [mkS,lk] at h
   bufs:=λk c h=>by simp [mkS,lk] at h
   inj:=λk k' b h=>by simp at h
   dom:=λ_ _=>rfl
   old:=⟨λb o hb=>h8 b o hb,hob⟩
   glob:=hg.mono h6
   owns:=λk wd l h=>by simp [mkS,lk] at h }⟩
theorem ok_hand {P:Program} {f:FuncId} {ps:List PV} {r:PV} (hc:Callable P f)
  (h:∀ (w:World) (M:Mem) (args:Array Value),(∀ b o x,M b o=some x->w.cell? ⟨b,o,none⟩=some x)->args.size=ps.length->(∀ (j:Nat) (p:PV),ps[j]? = some p->Rep M p (args.getD j undef)) ->
   Calls P f args w λe w'=>∃ v M',e=.returned v/\w'.os=w.os/\w'.tape=w.tape/\w'.output=w.output/\w.heap.size<=w'.heap.size/\(∀ b,b<w.heap.size->w'.heap[b]? = w.heap[b]?)/\M.le M'/\(∀ b o x,M' b o=some x->w'.cell? ⟨b,o,none⟩=some x)/\(∀ b o,b<w.heap.size->M' b o=M b o)/\Rep M' r v) :
  Ok P f ps.length (mkS (argE 0 ps) []) (mkS [(0,.p r)] []):=
 ok_handG hc λw M args _ a b c=>(h w M args a b c).mono λe w' ⟨v,M',h0,h1,h2,h3,h4,h5,h6,h7,h8,h9⟩ =>⟨v,M',h0,h1,h2,h3,h4,h5,h6,h7,h8,.p _ _ h9⟩
end Go.Sw
