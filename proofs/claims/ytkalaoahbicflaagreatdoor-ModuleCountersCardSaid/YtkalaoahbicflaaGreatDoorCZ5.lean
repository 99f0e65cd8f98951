/- A part. -/
import Derived.Test.YtkalaoahbicflaaGreatDoorCZ4
import Derived.Test.YtkalaoahbicflaaGreatDoorProg
import Derived.Tactics
import Derived.Tactics2
import Derived.StillTactics
import Derived.Handy
import Derived.Laws.CopyRow
import Derived.Laws.Small
import Derived.Laws.Slices
import Derived.Laws.MathBits
import Derived.Laws.Bits128
import Derived.Room.MakeNoZero
import Derived.Scope
import Derived.LoopTactic
import Derived.Laws.AppendOwn
set_option linter.all false
namespace Go.Proofs.TT
open Go Go.Sw
set_option maxRecDepth 100000
def jM (a:zB) (d:Int) (b:zC):Option (zB×zD):=bif (b.Code==1) then none else bif (b.Code==2) then none else bif (b.Code==4) then ((bif a.Volatile.Safe then (some 1) else some 0).bind λc=>some (a,zD.mk 0 [a.Volatile.Clock,a.Stable.Resets,a.Stable.Restarts,c] [] [])) else none
def vS (a:zB) (c:Int) (b:zC):Option (zB×zD):=(jP b).bind λe=>bif (e != 0) then ((wK a e).bind fun(i,j)=>some (i,zD.mk j.Err [] [] [])) else (bif decide (c<0) then (some true) else some (decide (4<c))).bind λk=>bif k then ((wK a 13).bind fun(l,m)=>some (l,zD.mk m.Err [] [] [])) else (bif (b.Code != 1) then (some (!a.Volatile.Started)) else some false).bind λo=>bif o then ((wK a 28).bind fun(q,r)=>some (q,zD.mk r.Err [] [] [])) else (mJ a b).bind λs=>bif !s then ((wK a 7).bind fun(t,u)=>some (t,zD.mk u.Err [] [] [])) else bif ((b.Auths.length:Int)==0) then ((jM a c b).bind fun(v,f)=>some (v,zD.mk f.Err f.Ints [] [])) else (nO a c b).bind fun(w,g)=>bif (g != 0) then ((wK w g).bind fun(x,y)=>some (x,zD.mk y.Err [] [] [])) else (wN a b).bind fun(z,d)=>bif (d.Err != 0) then ((wK a d.Err).bind fun(aa,ba)=>some (aa,zD.mk ba.Err [] [] [])) else (pH z b).bind fun(ca,da)=>some (ca,zD.mk d.Err [] d.Blobs da)
def zE0 (b:Int):Unit->Option (Unit ⊕ Unit):=λ_=>bif decide (0<b) then none else some (.inr ())
def zEj (c:Int):Unit->Option (Unit ⊕ Unit):=λ_=>bif decide (0<c) then none else some (.inr ())
def zEd (d:Int):Unit->Option (Unit ⊕ Unit):=λ_=>bif decide (0<d) then none else some (.inr ())
def zEo (a:Int):Unit->Option (Unit ⊕ Unit):=λ_=>bif decide (0<a) then none else some (.inr ())
def gK (e:List UInt8):Option (zC×Int):=(zD0 e).bind fun(f,i)=>bif (i != 0) then none else (oZ f).bind fun(b,c,d,j,k)=>bif !k then none else (sub e 5 e.length).bind λl=>(zCe l).bind λm=>(zP (zE0 b) FU ()).bind λ_=>(zP (zEj c) FU ()).bind λ_=>(zP (zEd d) FU ()).bind λ_=>(sY m 1).bind fun(a,o)=>(zBo o).bind fun(q,r)=>bif (q==0) then ((nK a j).bind λs=>bif !s then none else (zP (zEo a) FU ()).bind λ_=>(zBs r).bind fun(g,t)=>bif (g != 0) then (some (zC.mk 0 [] [] [] [],g)) else some (zC.mk f [] [] [] [],0)) else none
def cY (a:zB) (c:Int) (d:List UInt8):Option (zB×(List UInt8)):=(gK d).bind fun(e,b)=>bif (b != 0) then ((vP (zD.mk b [] [] [])).bind λf=>some (a,f)) else (vS a c (zC.mk e.Code [] [] [] [])).bind fun(g,i)=>(vP i).bind λj=>some (g,j)
def eJ:Option (Bool):=(nT 2 [] []).bind λb=>(vS b 0 (zC.mk 4 [] [] [] [])).bind λ((g,a):zB×zD)=>(cY b 0 ([83,87,0,6,4,0]:List UInt8)).bind λ((i,c):zB×(List UInt8))=>(bif (a.Err==0) then (bif ((a.Ints.length:Int)==4) then ((idx a.Ints 1).bind λd=>bif (d==1) then (bif ((c.length:Int)==36) then ((idx c 0).bind λe=>some ((e.toNat:Int)==0)) else some false) else some false) else some false) else some false:Option (Bool)).bind λ(f:Bool)=>some f
def oY (c:List UInt8):(Int×zG×yG×(List (List UInt8))×(List (List UInt8))×(List UInt8)×Int×Int×Int×Int×Bool×(List (List (List UInt8)))×Int×Int×(List zF)×(List zZ)×(List Int))->Option ((Int×zG×yG×(List (List UInt8))×(List (List UInt8))×(List UInt8)×Int×Int×Int×Int×Bool×(List (List (List UInt8)))×Int×Int×(List zF)×(List zZ)×(List Int)) ⊕ (Bool ⊕ Unit)):=λ(e,m,o,q,r,s,t,u,v,w,x,y,z,aa,ba,ca,g)=>bif decide (e<(c.length:Int)) then (((idx c e).bind λd=>lt (IntKind.i64.wrap (256+(Int.tmod (IntKind.i64.wrap ((u8 (Int.tdiv (d.toNat:Int) 4)).toNat:Int)) 5))) λk=>(idx c e).bind λl=>(bif (((u8 (Int.tmod (l.toNat:Int) 4)).toNat:Int)==0) then (some (22,([1]:List Int),[Int.tmod (IntKind.i64.wrap ((u8 (Int.tdiv (d.toNat:Int) 4)).toNat:Int)) 5],[])) else bif (((u8 (Int.tmod (l.toNat:Int) 4)).toNat:Int)==1) then (some (21,([1]:List Int),[Int.tmod (IntKind.i64.wrap ((u8 (Int.tdiv (d.toNat:Int) 4)).toNat:Int)) 5,2,48,8],[[],[]])) else some (25,[1,k],[],[]):Option (Int×(List Int)×(List Int)×(List (List UInt8)))).bind λ((da,ea,fa,ga):Int×(List Int)×(List Int)×(List (List UInt8)))=>(vS (zB.mk (yA.mk q r s t u v w x (zE.mk y z) aa ba m ca) o) 0 (zC.mk da ea [zJ.mk 0 [] []] fa ga)).bind λ((f,ya):zB×zD)=>(vS f 0 (zC.mk 24 [1,k] [zJ.mk 0 [] []] ([0,8]:List Int) [])).bind λ((za,i):zB×zD)=>(fW f (Int.tmod (IntKind.i64.wrap ((u8 (Int.tdiv (d.toNat:Int) 4)).toNat:Int)) 5)).bind λj=>(bif (i.Err==0) then (some (decide (0<=j))) else some false:Option (Bool)).bind λ(ia:Bool)=>bif ia then ((bif ((i.Blobs.length:Int) != 1) then (some true) else (idx i.Blobs 0).bind λja=>bif ((ja.length:Int) != 8) then (some true) else (ixN 5 (Int.tmod (IntKind.i64.wrap ((u8 (Int.tdiv (d.toNat:Int) 4)).toNat:Int)) 5)).bind λka=>(g[ka]?).bind λla=>some (decide (j<la)):Option (Bool)).bind λ(ma:Bool)=>bif ma then (some (.inl false)) else (ixN 5 (Int.tmod (IntKind.i64.wrap ((u8 (Int.tdiv (d.toNat:Int) 4)).toNat:Int)) 5)).bind λoa=>(wY g oa j).bind λqa=>some (.inr (f,qa))) else some (.inr (f,g)):Option (Bool ⊕ (zB×(List Int)))).bind λra=>match ra with | .inl sa=>(some (.inr (.inl sa))) | .inr (a,ta)=>(some (.inl (IntKind.i64.wrap (e+1),a.Stable.Lockout,a.Volatile,a.Stable.Seeds,a.Stable.Auths,a.Stable.Entropy,a.Stable.Active,a.Stable.Resets,a.Stable.Restarts,a.Stable.Clock,a.Stable.Orderly,a.Stable.Saved.Banks,a.Stable.Saved.Updates,a.Stable.MaxCounter,a.Stable.Indices,a.Stable.Keys,ta)))) else some (.inr (.inr ()))
def tL (ua:List UInt8) (c:List UInt8):Option (Bool):=(eJ).bind λva=>bif !va then (some false) else bif decide (24<(c.length:Int)) then (some true) else (nT 2 ua []).bind λb=>(zP (oY c) FU (0,b.Stable.Lockout,b.Volatile,b.Stable.Seeds,[[],[],[],[]],b.Stable.Entropy,b.Stable.Active,b.Stable.Resets,b.Stable.Restarts,b.Stable.Clock,b.Stable.Orderly,b.Stable.Saved.Banks,b.Stable.Saved.Updates,b.Stable.MaxCounter,b.Stable.Indices,b.Stable.Keys,[0,0,0,0,0]):Option (Bool ⊕ Unit)).bind λwa=>match wa with | .inl xa=>(some xa) | .inr _=>(some true)
end Go.Proofs.TT
namespace Go.Proofs.Tryz.S
open Go Go.Sw
set_option maxRecDepth 100000
def t2:TI:=⟨1,8,[.int .i64 0],(.int .i64)⟩
def t3:TI:=⟨1,8,[.int .i64 0],(.int .i64)⟩
def t4:TI:=⟨1,1,[.bool false],.bool⟩
def t5:TI:=⟨1,1,[.int .u8 0],(.int .u8)⟩
def t6:TI:=⟨1,1,[.int .u8 0],(.int .u8)⟩
def t7:TI:=⟨4,24,[.int .i64 0,.int .i64 0,.bool false,.int .u8 0],(.struct [(2,0),(3,1),(4,2),(6,3)])⟩
def t8:TI:=⟨4,24,[.int .i64 0,.int .i64 0,.bool false,.int .u8 0],(.struct [(2,0),(3,1),(4,2),(6,3)])⟩
def t9:TI:=⟨1,16,[.str []],.str⟩
def t10:TI:=⟨1,16,[.str []],.str⟩
def t11:TI:=⟨1,16,[.str []],.str⟩
def t12:TI:=⟨1,8,[.int .u64 0],(.int .u64)⟩
def t13:TI:=⟨2,24,[.str [],.int .u64 0],(.struct [(9,0),(12,1)])⟩
def t14:TI:=⟨2,24,[.str [],.int .u64 0],(.struct [(9,0),(12,1)])⟩
def t15:TI:=⟨1,8,[.nilp],(.ptr 360)⟩
def t16:TI:=⟨1,8,[.nilp],(.ptr 363)⟩
def t17:TI:=⟨1,8,[.nilp],(.ptr 371)⟩
def t18:TI:=⟨1,8,[.nilp],(.struct [(17,0)])⟩
def t19:TI:=⟨1,8,[.nilp],(.struct [(17,0)])⟩
def t20:TI:=⟨1,16,[.err false],.iface⟩
def t21:TI:=⟨1,4,[.int .i32 0],(.int .i32)⟩
def t22:TI:=⟨1,24,[.bytes []],(.slice 5)⟩
def t24:TI:=⟨1,24,[.sl 1 []],(.slice 22)⟩
def t25:TI:=⟨1,24,[.sl 1 []],(.slice 24)⟩
def t26:TI:=⟨2,32,[.sl 1 [],.int .i64 0],(.struct [(25,0),(3,1)])⟩
def t27:TI:=⟨2,32,[.sl 1 [],.int .i64 0],(.struct [(25,0),(3,1)])⟩
def t28:TI:=⟨1,24,[.sl 8 []],(.slice 75)⟩
def t29:TI:=⟨6,48,[.int .i64 0,.int .i64 0,.int .i64 0,.int .i64 0,.int .i64 0,.int .i64 0],(.struct [(3,0),(3,1),(3,2),(3,3),(3,4),(3,5)])⟩
def t30:TI:=⟨6,48,[.int .i64 0,.int .i64 0,.int .i64 0,.int .i64 0,.int .i64 0,.int .i64 0],(.struct [(3,0),(3,1),(3,2),(3,3),(3,4),(3,5)])⟩
def t31:TI:=⟨1,24,[.sl 2 []],(.slice 159)⟩
def t32:TI:=⟨19,248,[.sl 1 [],.sl 1 [],.bytes [],.int .i64 0,.int .i64 0,.int .i64 0,.int .i64 0,.bool false,.sl 1 [],.int .i64 0,.int .i64 0,.sl 8 [],.int .i64 0,.int .i64 0,.int .i64 0,.int .i64 0,.int .i64 0,.int .i64 0,.sl 2 []],(.struct [(24,0),(24,1),(22,2),(3,3),(3,4),(3,5),(3,6),(4,7),(27,8),(3,10),(28,11),(30,12),(31,18)])⟩
def t33:TI:=⟨19,248,[.sl 1 [],.sl 1 [],.bytes [],.int .i64 0,.int .i64 0,.int .i64 0,.int .i64 0,.bool false,.sl 1 [],.int .i64 0,.int .i64 0,.sl 8 [],.int .i64 0,.int .i64 0,.int .i64 0,.int .i64 0,.int .i64 0,.int .i64 0,.sl 2 []],(.struct [(24,0),(24,1),(22,2),(3,3),(3,4),(3,5),(3,6),(4,7),(27,8),(3,10),(28,11),(30,12),(31,18)])⟩
def t34:TI:=⟨1,24,[.sl 8 []],(.slice 98)⟩
def t35:TI:=⟨1,24,[.sl 9 []],(.slice 105)⟩
def t36:TI:=⟨1,24,[.sl 1 []],(.slice 3)⟩
def t37:TI:=⟨11,160,[.bool false,.bool false,.sl 1 [],.int .i64 0,.int .i64 0,.bool false,.int .i64 0,.sl 8 [],.sl 9 [],.sl 1 [],.sl 1 []],(.struct [(4,0),(4,1),(27,2),(3,4),(4,5),(3,6),(34,7),(35,8),(36,9),(36,10)])⟩
def t38:TI:=⟨11,160,[.bool false,.bool false,.sl 1 [],.int .i64 0,.int .i64 0,.bool false,.int .i64 0,.sl 8 [],.sl 9 [],.sl 1 [],.sl 1 []],(.struct [(4,0),(4,1),(27,2),(3,4),(4,5),(3,6),(34,7),(35,8),(36,9),(36,10)])⟩
def t39:TI:=⟨30,408,[.sl 1 [],.sl 1 [],.bytes [],.int .i64 0,.int .i64 0,.int .i64 0,.int .i64 0,.bool false,.sl 1 [],.int .i64 0,.int .i64 0,.sl 8 [],.int .i64 0,.int .i64 0,.int .i64 0,.int .i64 0,.int .i64 0,.int .i64 0,.sl 2 [],.bool false,.bool false,.sl 1 [],.int .i64 0,.int .i64 0,.bool false,.int .i64 0,.sl 8 [],.sl 9 [],.sl 1 [],.sl 1 []],(.struct [(33,0),(38,19)])⟩
def t40:TI:=⟨30,408,[.sl 1 [],.sl 1 [],.bytes [],.int .i64 0,.int .i64 0,.int .i64 0,.int .i64 0,.bool false,.sl 1 [],.int .i64 0,.int .i64 0,.sl 8 [],.int .i64 0,.int .i64 0,.int .i64 0,.int .i64 0,.int .i64 0,.int .i64 0,.sl 2 [],.bool false,.bool false,.sl 1 [],.int .i64 0,.int .i64 0,.bool false,.int .i64 0,.sl 8 [],.sl 9 [],.sl 1 [],.sl 1 []],(.struct [(33,0),(38,19)])⟩
def t42:TI:=⟨5,40,[.int .i64 0,.int .i64 0,.int .i64 0,.int .i64 0,.int .i64 0],(.arr 5 3)⟩
def t43:TI:=⟨3,56,[.int .i64 0,.bytes [],.bytes []],(.struct [(3,0),(22,1),(22,2)])⟩
def t44:TI:=⟨3,56,[.int .i64 0,.bytes [],.bytes []],(.struct [(3,0),(22,1),(22,2)])⟩
def t45:TI:=⟨1,24,[.sl 3 []],(.slice 44)⟩
def t46:TI:=⟨5,104,[.int .i64 0,.sl 1 [],.sl 3 [],.sl 1 [],.sl 1 []],(.struct [(3,0),(36,1),(45,2),(36,3),(24,4)])⟩
def t47:TI:=⟨5,104,[.int .i64 0,.sl 1 [],.sl 3 [],.sl 1 [],.sl 1 []],(.struct [(3,0),(36,1),(45,2),(36,3),(24,4)])⟩
def t48:TI:=⟨1,8,[.int .i64 0],(.int .i64)⟩
def t49:TI:=⟨4,80,[.int .i64 0,.sl 1 [],.sl 1 [],.sl 1 []],(.struct [(48,0),(36,1),(24,2),(24,3)])⟩
def t50:TI:=⟨4,80,[.int .i64 0,.sl 1 [],.sl 1 [],.sl 1 []],(.struct [(48,0),(36,1),(24,2),(24,3)])⟩
def t74:TI:=⟨8,112,[.int .i64 0,.int .i64 0,.int .i64 0,.int .i64 0,.bytes [],.bytes [],.bool false,.bytes []],(.struct [(3,0),(3,1),(3,2),(3,3),(22,4),(22,5),(4,6),(22,7)])⟩
def t75:TI:=⟨8,112,[.int .i64 0,.int .i64 0,.int .i64 0,.int .i64 0,.bytes [],.bytes [],.bool false,.bytes []],(.struct [(3,0),(3,1),(3,2),(3,3),(22,4),(22,5),(4,6),(22,7)])⟩
def t87:TI:=⟨4,32,[.int .i64 0,.int .i64 0,.int .i64 0,.int .i64 0],(.arr 4 3)⟩
def t97:TI:=⟨8,96,[.int .i64 0,.bytes [],.bytes [],.int .i64 0,.int .i64 0,.int .i64 0,.int .i64 0,.bool false],(.struct [(3,0),(22,1),(22,2),(3,3),(3,4),(3,5),(3,6),(4,7)])⟩
def t98:TI:=⟨8,96,[.int .i64 0,.bytes [],.bytes [],.int .i64 0,.int .i64 0,.int .i64 0,.int .i64 0,.bool false],(.struct [(3,0),(22,1),(22,2),(3,3),(3,4),(3,5),(3,6),(4,7)])⟩
def t100:TI:=⟨5,72,[.int .i64 0,.int .i64 0,.int .i64 0,.bytes [],.bytes []],(.struct [(3,0),(3,1),(3,2),(22,3),(22,4)])⟩
def t101:TI:=⟨5,72,[.int .i64 0,.int .i64 0,.int .i64 0,.bytes [],.bytes []],(.struct [(3,0),(3,1),(3,2),(22,3),(22,4)])⟩
def t102:TI:=⟨3,72,[.bytes [],.bytes [],.bytes []],(.struct [(22,0),(22,1),(22,2)])⟩
def t103:TI:=⟨3,72,[.bytes [],.bytes [],.bytes []],(.struct [(22,0),(22,1),(22,2)])⟩
def t104:TI:=⟨9,152,[.int .i64 0,.int .i64 0,.int .i64 0,.bytes [],.bytes [],.bytes [],.bytes [],.bytes [],.int .i64 0],(.struct [(101,0),(103,5),(3,8)])⟩
def t105:TI:=⟨9,152,[.int .i64 0,.int .i64 0,.int .i64 0,.bytes [],.bytes [],.bytes [],.bytes [],.bytes [],.int .i64 0],(.struct [(101,0),(103,5),(3,8)])⟩
def t131:TI:=⟨39,576,[.sl 1 [],.sl 1 [],.bytes [],.int .i64 0,.int .i64 0,.int .i64 0,.int .i64 0,.bool false,.sl 1 [],.int .i64 0,.int .i64 0,.sl 8 [],.int .i64 0,.int .i64 0,.int .i64 0,.int .i64 0,.int .i64 0,.int .i64 0,.sl 2 [],.bool false,.bool false,.sl 1 [],.int .i64 0,.int .i64 0,.bool false,.int .i64 0,.sl 8 [],.sl 9 [],.sl 1 [],.sl 1 [],.int .i64 0,.sl 1 [],.sl 3 [],.sl 1 [],.sl 1 [],.int .i64 0,.bytes [],.bytes [],.int .i64 0],(.struct [(40,0),(47,30),(44,35),(3,38)])⟩
def t132:TI:=⟨39,576,[.sl 1 [],.sl 1 [],.bytes [],.int .i64 0,.int .i64 0,.int .i64 0,.int .i64 0,.bool false,.sl 1 [],.int .i64 0,.int .i64 0,.sl 8 [],.int .i64 0,.int .i64 0,.int .i64 0,.int .i64 0,.int .i64 0,.int .i64 0,.sl 2 [],.bool false,.bool false,.sl 1 [],.int .i64 0,.int .i64 0,.bool false,.int .i64 0,.sl 8 [],.sl 9 [],.sl 1 [],.sl 1 [],.int .i64 0,.sl 1 [],.sl 3 [],.sl 1 [],.sl 1 [],.int .i64 0,.bytes [],.bytes [],.int .i64 0],(.struct [(40,0),(47,30),(44,35),(3,38)])⟩
def t139:TI:=⟨1,8,[.nilp],(.ptr 241)⟩
def t142:TI:=⟨1,8,[.int .u64 0],(.int .u64)⟩
def t154:TI:=⟨136,1088,List.replicate 136 (.int .i64 0),(.arr 34 87)⟩
def t158:TI:=⟨2,32,[.bytes [],.int .i64 0],(.struct [(22,0),(3,1)])⟩
def t159:TI:=⟨2,32,[.bytes [],.int .i64 0],(.struct [(22,0),(3,1)])⟩
def t162:TI:=⟨1,8,[.nilp],(.ptr 253)⟩
def t168:TI:=⟨5,40,[.int .i64 0,.int .i64 0,.int .i64 0,.int .i64 0,.int .i64 0],(.struct [(3,0),(3,1),(3,2),(3,3),(3,4)])⟩
def t169:TI:=⟨5,40,[.int .i64 0,.int .i64 0,.int .i64 0,.int .i64 0,.int .i64 0],(.struct [(3,0),(3,1),(3,2),(3,3),(3,4)])⟩
def t170:TI:=⟨160,1280,List.replicate 160 (.int .i64 0),(.arr 32 169)⟩
def t171:TI:=⟨2,2,[.int .u8 0,.int .u8 0],(.arr 2 5)⟩
def t172:TI:=⟨4,80,[.bytes [],.bytes [],.bytes [],.bool false],(.struct [(22,0),(22,1),(22,2),(4,3)])⟩
def t173:TI:=⟨4,80,[.bytes [],.bytes [],.bytes [],.bool false],(.struct [(22,0),(22,1),(22,2),(4,3)])⟩
def t186:TI:=⟨2,16,[.int .i64 0,.int .i64 0],(.arr 2 3)⟩
def t187:TI:=⟨2,16,[.int .i64 0,.int .i64 0],(.arr 2 3)⟩
def t188:TI:=⟨10,160,[.int .i64 0,.int .i64 0,.int .i64 0,.bytes [],.int .i64 0,.int .i64 0,.bytes [],.bytes [],.bytes [],.sl 1 []],(.struct [(3,0),(187,1),(22,3),(3,4),(3,5),(22,6),(22,7),(22,8),(24,9)])⟩
def t189:TI:=⟨10,160,[.int .i64 0,.int .i64 0,.int .i64 0,.bytes [],.int .i64 0,.int .i64 0,.bytes [],.bytes [],.bytes [],.sl 1 []],(.struct [(3,0),(187,1),(22,3),(3,4),(3,5),(22,6),(22,7),(22,8),(24,9)])⟩
def t192:TI:=⟨1,8,[.nilp],(.ptr 3)⟩
def t193:TI:=⟨1,24,[.sl 1 []],(.slice 192)⟩
def t194:TI:=⟨1,8,[.nilp],(.ptr 22)⟩
def t195:TI:=⟨1,24,[.sl 1 []],(.slice 194)⟩
def t219:TI:=⟨10,128,[.bytes [],.bytes [],.int .i64 0,.int .i64 0,.int .i64 0,.bool false,.int .i64 0,.int .i64 0,.int .i64 0,.bytes []],(.struct [(22,0),(22,1),(3,2),(3,3),(3,4),(4,5),(3,6),(187,7),(22,9)])⟩
def t220:TI:=⟨10,128,[.bytes [],.bytes [],.int .i64 0,.int .i64 0,.int .i64 0,.bool false,.int .i64 0,.int .i64 0,.int .i64 0,.bytes []],(.struct [(22,0),(22,1),(3,2),(3,3),(3,4),(4,5),(3,6),(187,7),(22,9)])⟩
def t240:TI:=⟨3,40,[.bytes [],.int .i64 0,.int .i64 0],(.struct [(22,0),(3,1),(48,2)])⟩
def t241:TI:=⟨3,40,[.bytes [],.int .i64 0,.int .i64 0],(.struct [(22,0),(3,1),(48,2)])⟩
def t242:TI:=⟨1,8,[.int .u64 0],(.int .u64)⟩
def t244:TI:=⟨1,24,[.sl 10 []],(.slice 189)⟩
def t252:TI:=⟨3,40,[.bytes [],.int .i64 0,.int .i64 0],(.struct [(22,0),(3,1),(48,2)])⟩
def t253:TI:=⟨3,40,[.bytes [],.int .i64 0,.int .i64 0],(.struct [(22,0),(3,1),(48,2)])⟩
def t258:TI:=⟨1,4,[.int .u32 0],(.int .u32)⟩
def t259:TI:=⟨5,20,[.int .u32 0,.int .u32 0,.int .u32 0,.int .u32 0,.int .u32 0],(.arr 5 258)⟩
def t261:TI:=⟨1,8,[.nilp],(.ptr 259)⟩
def t263:TI:=⟨1,24,[.sl 1 []],(.slice 258)⟩
def t264:TI:=⟨8,32,[.int .u32 0,.int .u32 0,.int .u32 0,.int .u32 0,.int .u32 0,.int .u32 0,.int .u32 0,.int .u32 0],(.arr 8 258)⟩
def t266:TI:=⟨1,8,[.nilp],(.ptr 264)⟩
def t276:TI:=⟨1,8,[.nilp],(.ptr 30)⟩
def t295:TI:=⟨64,256,List.replicate 64 (.int .u32 0),(.arr 64 258)⟩
def t304:TI:=⟨80,320,List.replicate 80 (.int .u32 0),(.arr 80 258)⟩
def t344:TI:=⟨256,256,List.replicate 256 (.bool false),(.arr 256 4)⟩
def t345:TI:=⟨256,256,List.replicate 256 (.bool false),(.arr 256 4)⟩
def t349:TI:=⟨1,8,[.nilp],(.ptr 345)⟩
def t354:TI:=⟨256,256,List.replicate 256 (.int .u8 0),(.arr 256 5)⟩
def t355:TI:=⟨2,2,[.int .u8 0,.int .u8 0],(.struct [(5,0),(5,1)])⟩
def t356:TI:=⟨2,2,[.int .u8 0,.int .u8 0],(.struct [(5,0),(5,1)])⟩
def t357:TI:=⟨32,32,List.replicate 32 (.int .u8 0),(.arr 16 356)⟩
def t359:TI:=⟨4,40,[.nilp,.nilp,.nilp,.str []],(.struct [(17,0),(17,1),(17,2),(9,3)])⟩
def t360:TI:=⟨4,40,[.nilp,.nilp,.nilp,.str []],(.struct [(17,0),(17,1),(17,2),(9,3)])⟩
def t361:TI:=⟨0,0,[],(.arr 0 16)⟩
def t362:TI:=⟨0,0,[],(.struct [(361,0)])⟩
def t363:TI:=⟨0,0,[],(.struct [(361,0)])⟩
def t364:TI:=⟨1,1,[.int .u8 0],(.int .u8)⟩
def t365:TI:=⟨1,1,[.int .u8 0],(.int .u8)⟩
def t367:TI:=⟨1,8,[.nilp],(.ptr 5)⟩
def t368:TI:=⟨1,4,[.int .i32 0],(.int .i32)⟩
def t369:TI:=⟨1,4,[.int .i32 0],(.int .i32)⟩
def tr:Tr:=(.node 105 t105 (.node 31 t31 (.node 16 t16 (.node 9 t9 (.node 5 t5 (.node 3 t3 (.node 2 t2 .leaf .leaf) (.node 4 t4 .leaf .leaf)) (.node 7 t7 (.node 6 t6 .leaf .leaf) (.node 8 t8 .leaf .leaf))) (.node 13 t13 (.node 11 t11 (.node 10 t10 .leaf .leaf) (.node 12 t12 .leaf .leaf)) (.node 15 t15 (.node 14 t14 .leaf .leaf) .leaf))) (.node 24 t24 (.node 20 t20 (.node 18 t18 (.node 17 t17 .leaf .leaf) (.node 19 t19 .leaf .leaf)) (.node 22 t22 (.node 21 t21 .leaf .leaf) .leaf)) (.node 28 t28 (.node 26 t26 (.node 25 t25 .leaf .leaf) (.node 27 t27 .leaf .leaf)) (.node 30 t30 (.node 29 t29 .leaf .leaf) .leaf)))) (.node 47 t47 (.node 39 t39 (.node 35 t35 (.node 33 t33 (.node 32 t32 .leaf .leaf) (.node 34 t34 .leaf .leaf)) (.node 37 t37 (.node 36 t36 .leaf .leaf) (.node 38 t38 .leaf .leaf))) (.node 44 t44 (.node 42 t42 (.node 40 t40 .leaf .leaf) (.node 43 t43 .leaf .leaf)) (.node 46 t46 (.node 45 t45 .leaf .leaf) .leaf))) (.node 97 t97 (.node 74 t74 (.node 49 t49 (.node 48 t48 .leaf .leaf) (.node 50 t50 .leaf .leaf)) (.node 87 t87 (.node 75 t75 .leaf .leaf) .leaf)) (.node 102 t102 (.node 100 t100 (.node 98 t98 .leaf .leaf) (.node 101 t101 .leaf .leaf)) (.node 104 t104 (.node 103 t103 .leaf .leaf) .leaf))))) (.node 252 t252 (.node 186 t186 (.node 162 t162 (.node 142 t142 (.node 132 t132 (.node 131 t131 .leaf .leaf) (.node 139 t139 .leaf .leaf)) (.node 158 t158 (.node 154 t154 .leaf .leaf) (.node 159 t159 .leaf .leaf))) (.node 171 t171 (.node 169 t169 (.node 168 t168 .leaf .leaf) (.node 170 t170 .leaf .leaf)) (.node 173 t173 (.node 172 t172 .leaf .leaf) .leaf))) (.node 195 t195 (.node 192 t192 (.node 188 t188 (.node 187 t187 .leaf .leaf) (.node 189 t189 .leaf .leaf)) (.node 194 t194 (.node 193 t193 .leaf .leaf) .leaf)) (.node 241 t241 (.node 220 t220 (.node 219 t219 .leaf .leaf) (.node 240 t240 .leaf .leaf)) (.node 244 t244 (.node 242 t242 .leaf .leaf) .leaf)))) (.node 354 t354 (.node 266 t266 (.node 261 t261 (.node 258 t258 (.node 253 t253 .leaf .leaf) (.node 259 t259 .leaf .leaf)) (.node 264 t264 (.node 263 t263 .leaf .leaf) .leaf)) (.node 344 t344 (.node 295 t295 (.node 276 t276 .leaf .leaf) (.node 304 t304 .leaf .leaf)) (.node 349 t349 (.node 345 t345 .leaf .leaf) .leaf))) (.node 362 t362 (.node 359 t359 (.node 356 t356 (.node 355 t355 .leaf .leaf) (.node 357 t357 .leaf .leaf)) (.node 361 t361 (.node 360 t360 .leaf .leaf) .leaf)) (.node 367 t367 (.node 364 t364 (.node 363 t363 .leaf .leaf) (.node 365 t365 .leaf .leaf)) (.node 369 t369 (.node 368 t368 .leaf .leaf) .leaf))))))
def te:TE:=tr.get
theorem nB:yN Tryz.prog te:=Tr.ok tr (by kernel_rfl)
end Go.Proofs.Tryz.S
namespace Go.Proofs.H
open Go Go.Proofs Go.RowKit
theorem i5:(Tryz.prog.info? 5).map (·.size)=some 1:=by kernel_rfl
end Go.Proofs.H
namespace Go.Sw
open Go
theorem hand_env {P:Program} {f:FuncId} {ps:List PV} {rs:AS} (hc:Callable P f)
  (h:∀ (w:World) (M:Mem) (args:Array Value) (ob:List Nat) (nk:∀ e∈([]:List (Nat×Nat)),e.1<BIG),(∀ b∈ob,b<w.heap.size/\∀ o,M b o=none)->GlobOk w M->(∀ b o x,M b o=some x->w.cell? ⟨b,o,none⟩=some x)->args.size=ps.length->(∀ (j:Nat) (p:PV),ps[j]? = some p->Rep M p (args.getD j undef)) ->
   Calls P f args w λe w'=>∃ v,e=.returned v/\SRel ⟨w,M,⟨[],ob,nk⟩,1,[]⟩ rs ⟨#[v],[]⟩ w'):Ok P f ps.length (mkS (argE 0 ps) []) rs:=by
 refine ⟨hc,λw M pk args κ tip hi hp=>?_⟩
 obtain ⟨pl,ob,nk⟩:=pk
 have hpk:pl=[]:=by
  cases pl with
  | nil=>rfl
  | cons e l=>
   have:=(hp e (by simp)).1
   rw [hi.dom e.1 rfl] at this
   cases this
 subst hpk
 refine h w M args ob nk hi.old.2 hi.glob hi.mem hi.size ?_
 intro j p hj
 have hget:∀ (l:List PV) (i j:Nat) (p:PV),l[j]? = some p->lk (argE i l) (i+j)=some (.p p):=by
  intro l
  induction l with
  | nil=>intro i j p h;simp at h
  | cons q r ih=>
   intro i j p h
   cases j with
   | zero=>simp at h;subst h;simp [argE,lk]
   | succ j=>
    have:Nat.beq (i+(j+1)) i=false:=by rw [Bool.eq_false_iff];intro e;have:=Nat.eq_of_beq_eq_true e;omega
    simp only [argE,lk,this,cond_false]
    rw [show i+(j+1)=(i+1)+j by omega]
    exact ih (i+1) j p (by simpa using h)
 obtain ⟨x,h1,h2⟩:=hi.env j (.p p) (by have:=hget ps 0 j p hj;rw [Nat.zero_add] at this;exact this)
 rw [Array.getD_eq_getD_getElem?]
 simp only at h1
 rw [h1]
 exact repA_pv h2
theorem ok_handO {P:Program} {f:FuncId} {ps:List PV} {n wd:Nat} {l:List PV} (hwd:0<wd) (hl:n*wd=l.length) (hc:Callable P f)
  (h:∀ (w:World) (M:Mem) (args:Array Value),(∀ b o x,M b o=some x->w.cell? ⟨b,o,none⟩=some x)->args.size=ps.length->(∀ (j:Nat) (p:PV),ps[j]? = some p->Rep M p (args.getD j undef)) ->
   Calls P f args w λe w'=>∃ v t news,e=.returned v/\w'.os=w.os/\w'.tape=w.tape/\w'.output=w.output/\w.heap.size<=w'.heap.size/\(∀ b,b<w.heap.size->w'.heap[b]? = w.heap[b]?)/\w'.ownsRow w.heap.size t wd v n news/\(∀ (j:Nat) (q:PV),l[j]? = some q->∃ x,news[j]? = some x/\Rep M q x)) :
  Ok P f ps.length (mkS (argE 0 ps) []) (mkS [(0,.own 500 n)] [(500,.own wd (l.map .p))]):=
 hand_env hc λw M args ob nk hob hg hm hs hr=>(h w M args hm hs hr).mono <| by
  rintro e w' ⟨v,t,news,rfl,h1,h2,h3,h4,h5,⟨h6,h7⟩,h8⟩
  have hmw:∀ b o,w.heap.size<=b->M b o=none:=λb o hb=>by
   cases hx:M b o with
   | none=>rfl
   | some x=>have:=World.block_lt_of_cell? w _ (hm b o x hx);simp at this;omega
  have h500:∀ k,lk [(500,ABlk.own wd (l.map AV.p))] k=if k=500 then some (.own wd (l.map AV.p)) else none:=λk=>by
   unfold lk
   by_cases hk:k=500
   ·subst hk;rfl
   ·rw [if_neg hk,show Nat.beq k 500=false by rw [Bool.eq_false_iff];intro e;exact hk (Nat.eq_of_beq_eq_true e)];rfl
  refine ⟨v,rfl,M,λk=>if k=500 then v.ownBlock else none,λ_=>v,Mem.le_refl M,by simp,{
   defers:=rfl
   size:=rfl
   fr:=⟨h1,h2,h3,h4,λb hb _ _=>h5 b hb⟩
   mem:=λb o x hx=>by
    have:=hm b o x hx
    rw [World.cell?_of_block (h5 b (World.block_lt_of_cell? w _ this))]
    exact this
   env:=λt u e=>by
    simp only [mkS,lk] at e
    cases hb:Nat.beq t 0 with
    | true=>
     have:=Nat.eq_of_beq_eq_true hb
     subst this
     simp at e
     subst e
     refine ⟨v,rfl,.own 500 n wd (l.map AV.p) v (h500 500) (by simp;omega) (λ_=>rfl) ?_⟩
     rcases h7 with ⟨rfl,_⟩ | ⟨g,cap,cur,rfl,_⟩
     ·exact ⟨_,_,_,rfl⟩
     ·exact ⟨_,_,_,rfl⟩
    | false=>simp [hb] at e
   vars:=λk x h=>by
    have h:lk [(500,ABlk.own wd (l.map AV.p))] k=some (.var x):=h
    rw [h500] at h;split at h<;>cases h
   bufs:=λk c h=>by
    have h:lk [(500,ABlk.own wd (l.map AV.p))] k=some (.buf c):=h
    rw [h500] at h;split at h<;>cases h
   inj:=λk k' b h h'=>by
    have h:(if k=500 then v.ownBlock else none)=some b:=h
    have h':(if k'=500 then v.ownBlock else none)=some b:=h'
    by_cases hk:k=500
    ·by_cases hk':k'=500
     ·rw [hk,hk']
     ·rw [if_neg hk'] at h';cases h'
    ·rw [if_neg hk] at h;cases h
   dom:=λk h=>by
    have h:lk [(500,ABlk.own wd (l.map AV.p))] k=none:=h
    rw [h500] at h
    split at h
    ·cases h
    ·rename_i hk;simp [hk]
   old:=⟨λb o hb=>rfl,hob⟩
   glob:=hg
   owns:=λk wd' l' h=>by
    have h:lk [(500,ABlk.own wd (l.map AV.p))] k=some (.own wd' l'):=h
    rw [h500] at h
    split at h
    ·rename_i hk
     subst hk
     cases h
     refine .inr ⟨hwd,?_⟩
     rcases h7 with ⟨rfl,hn0⟩ | ⟨g,cap,cur,rfl,hgb,hcur,hcap,hmax,hsz,htake⟩
     ·refine .inl ⟨rfl,rfl,?_⟩
      subst hn0
      have:l=[]:=List.length_eq_zero_iff.1 (by omega)
      rw [this];rfl
     ·refine .inr ⟨g,n,cap,cur,t,(0,0),rfl,rfl,.inl hgb,hcur,.inl rfl,by rw [List.length_map];exact hl,by omega,hcap,hmax,λj q hq=>?_,λo=>hmw g o hgb⟩
      rw [List.getElem?_map] at hq
      cases hlj:l[j]? with
      | none=>rw [hlj] at hq;cases hq
      | some q'=>
       rw [hlj] at hq
       cases hq
       obtain ⟨x,hx,hrep⟩:=h8 j q' hlj
       have hj:j<n*wd:=by rw [hl];exact (List.getElem?_eq_some_iff.1 hlj).1
       have:cur.getD j undef=x:=by
        rw [<- htake] at hx
        rw [List.getElem?_take,if_pos hj] at hx
        rw [Array.getD_eq_getD_getElem?,<- Array.getElem?_toList,hx];rfl
       rw [this]
       exact .p _ _ hrep
    ·cases h }⟩
end Go.Sw
