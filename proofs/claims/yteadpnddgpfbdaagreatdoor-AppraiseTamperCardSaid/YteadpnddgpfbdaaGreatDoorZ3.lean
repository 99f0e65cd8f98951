/- AppraiseTamper (law 37: evidence that was accepted is refused if its log is changed or cut, and for another challenge, but for a collision of the frames of the nonce) is proved for every input, under no condition of ours; this text is a part of that proof. -/
import Derived.Test.YteadpnddgpfbdaaGreatDoorZ2
import Derived.Scope
import Derived.Laws.StructEq
import Derived.ChangeKeysEq
set_option linter.all false
namespace Go.Sw
open Go
class TEnv (P:Program) where
 te:TE
 ok:zX P te
section
variable {P:Program} {ops:Array Oper} {s:AS} {r:List Oper} {K:AS->List Mic->Prop} {d:Nat} {ty:TypeId} {pos:String} {af:Array Edge} {v:AV} {x y:Operand}
abbrev VK (P:Program) (ops:Array Oper) (r:List Oper) (s:AS) (K:AS->List Mic->Prop) (d:Nat) (rs:List (Nat×AV)) (bs:List (Nat×ABlk)) (w:AV):Prop:=RK P ops r (s.put d w) λs' ms=>K s' (⟨rs,bs,[],some (d,some w),[]⟩:: ms)
abbrev BK (P:Program) (ops:Array Oper) (r:List Oper) (s:AS) (K:AS->List Mic->Prop) (d:Nat) (rs:List (Nat×AV)) (bs:List (Nat×ABlk)) (fr:List Nat) (k:Nat) (bl:ABlk) (w:AV):Prop:=RK P ops r ((s.setb k bl).put d w) λs' ms=>K s' (⟨rs,bs,fr,some (d,some w),[(k,bl)]⟩:: ms)
def GK (K:AS->List Mic->Prop) (dj:Nat) (b:Bool) (s:AS):List Mic->Prop
 | m :: ms=>K s ({ m with slots:=(dj,.p (.bool b)) :: m.slots } :: ms)
 | []=>False
theorem RK.g {dst:Option Nat} {op:Op} {j dj:Nat} {b b':Bool} (hb':b'=b) (hj0:((ops[j]?).bind (·.dst),s.env dj)=(some dj,some (.p (.bool b')))) (k:RK P ops (⟨dst,op,ty,pos,af,none⟩:: r) s (GK K dj b)):RK P ops (⟨dst,op,ty,pos,af,some (j,b)⟩:: r) s K:=have ⟨hj,hb⟩:=pq hj0;by
 obtain ⟨s',ms,h1,h2⟩:=k
 cases h1 with
 | cons _ _ _ _ _ _ he hh hr=>
  refine ⟨s',_,.cons _ _ _ _ _ _ ?_ ?_ ?_,h2⟩
  ·intro cx s a w K Q hm hs hw hk
   have hy:=zCg hs hj (hm.1 (dj,.p (.bool b)) (by simp))
   have hwn:Region.wanted ⟨dst,op,ty,pos,af,some (j,b)⟩ (yielded ops a.tmps)=true:=by simp [Region.wanted,hy]
   rw [if_pos hwn]
   have:=he cx s a w K Q ⟨λe he=>hm.1 e (List.mem_cons_of_mem _ he),hm.2.1,hm.2.2⟩ hs hw hk
   rw [if_pos (by simp [Region.wanted])] at this
   exact this
  ·exact ⟨λe he=>(List.mem_cons.1 he).elim (λh=>by subst h;rw [<- hb'];exact hb) (hh.1 e),hh.2.1,hh.2.2⟩
  ·exact hr
variable [T:TEnv P]
theorem RK.mv (h:s.get T.te ty x=some v) (k:VK P ops r s K d (opS x v) ([]) (v)):RK P ops (⟨some d,.move x,ty,pos,af,none⟩:: r) s K:=RK.va rfl rfl (Go.Sw.mv T.ok rfl h) k
theorem RK.as (h:s.get T.te ty x=some v) (k:VK P ops r s K d (opS x v) ([]) (v)):RK P ops (⟨some d,.assign x,ty,pos,af,none⟩:: r) s K:=RK.va rfl rfl (Go.Sw.asg T.ok rfl h) k
theorem RK.pT {c a b:Operand} {bb:Bool} (hb:bb=true) (hc0:(s.get T.te 0 c,s.get T.te ty a)=(some (.p (.bool bb)),some v)) (k:VK P ops r s K d (opS c (.p (.bool true))++opS a v) ([]) (v)):RK P ops (⟨some d,.pick c a b,ty,pos,af,none⟩:: r) s K:=have ⟨hc,h⟩:=pq hc0;RK.va rfl rfl (Go.Sw.pkT T.ok hb rfl hc h) k
theorem RK.pF {c a b:Operand} {bb:Bool} (hb:bb=false) (hc0:(s.get T.te 0 c,s.get T.te ty b)=(some (.p (.bool bb)),some v)) (k:VK P ops r s K d (opS c (.p (.bool false))++opS b v) ([]) (v)):RK P ops (⟨some d,.pick c a b,ty,pos,af,none⟩:: r) s K:=have ⟨hc,h⟩:=pq hc0;RK.va rfl rfl (Go.Sw.pkF T.ok hb rfl hc h) k
theorem RK.ad {tx tyy:TypeId} {kk:IntKind} {a b:Int} (hx0:(s.get T.te tx x,s.get T.te tyy y)=(some (.p (.int kk a)),some (.p (.int kk b)))) (k:VK P ops r s K d (opS x (.p (.int kk a))++opS y (.p (.int kk b))) ([]) (.p (.int kk (kk.wrap (a+b))))):RK P ops (⟨some d,.binOp .add tx x y tyy,ty,pos,af,none⟩:: r) s K:=have ⟨hx,hy⟩:=pq hx0;RK.va rfl rfl (Go.Sw.iop T.ok .add rfl hx hy) k
theorem RK.adE {tx tyy:TypeId} {kk:IntKind} {a b:Int} {cc:Int} (hc:kk.wrap (a+b)=cc) (hx0:(s.get T.te tx x,s.get T.te tyy y)=(some (.p (.int kk a)),some (.p (.int kk b)))) (k:VK P ops r s K d (opS x (.p (.int kk a))++opS y (.p (.int kk b))) ([]) (.p (.int kk cc))):RK P ops (⟨some d,.binOp .add tx x y tyy,ty,pos,af,none⟩:: r) s K:=have ⟨hx,hy⟩:=pq hx0;RK.va rfl rfl (Go.Sw.iopE T.ok .add hc rfl hx hy) k
theorem RK.sbt {tx tyy:TypeId} {kk:IntKind} {a b:Int} (hx0:(s.get T.te tx x,s.get T.te tyy y)=(some (.p (.int kk a)),some (.p (.int kk b)))) (k:VK P ops r s K d (opS x (.p (.int kk a))++opS y (.p (.int kk b))) ([]) (.p (.int kk (kk.wrap (a - b))))):RK P ops (⟨some d,.binOp .sub tx x y tyy,ty,pos,af,none⟩:: r) s K:=have ⟨hx,hy⟩:=pq hx0;RK.va rfl rfl (Go.Sw.iop T.ok .sub rfl hx hy) k
theorem RK.sbtE {tx tyy:TypeId} {kk:IntKind} {a b:Int} {cc:Int} (hc:kk.wrap (a - b)=cc) (hx0:(s.get T.te tx x,s.get T.te tyy y)=(some (.p (.int kk a)),some (.p (.int kk b)))) (k:VK P ops r s K d (opS x (.p (.int kk a))++opS y (.p (.int kk b))) ([]) (.p (.int kk cc))):RK P ops (⟨some d,.binOp .sub tx x y tyy,ty,pos,af,none⟩:: r) s K:=have ⟨hx,hy⟩:=pq hx0;RK.va rfl rfl (Go.Sw.iopE T.ok .sub hc rfl hx hy) k
theorem RK.mu {tx tyy:TypeId} {kk:IntKind} {a b:Int} (hx0:(s.get T.te tx x,s.get T.te tyy y)=(some (.p (.int kk a)),some (.p (.int kk b)))) (k:VK P ops r s K d (opS x (.p (.int kk a))++opS y (.p (.int kk b))) ([]) (.p (.int kk (kk.wrap (a*b))))):RK P ops (⟨some d,.binOp .mul tx x y tyy,ty,pos,af,none⟩:: r) s K:=have ⟨hx,hy⟩:=pq hx0;RK.va rfl rfl (Go.Sw.iop T.ok .mul rfl hx hy) k
theorem RK.muE {tx tyy:TypeId} {kk:IntKind} {a b:Int} {cc:Int} (hc:kk.wrap (a*b)=cc) (hx0:(s.get T.te tx x,s.get T.te tyy y)=(some (.p (.int kk a)),some (.p (.int kk b)))) (k:VK P ops r s K d (opS x (.p (.int kk a))++opS y (.p (.int kk b))) ([]) (.p (.int kk cc))):RK P ops (⟨some d,.binOp .mul tx x y tyy,ty,pos,af,none⟩:: r) s K:=have ⟨hx,hy⟩:=pq hx0;RK.va rfl rfl (Go.Sw.iopE T.ok .mul hc rfl hx hy) k
theorem RK.an {tx tyy:TypeId} {kk:IntKind} {a b:Int} (hx0:(s.get T.te tx x,s.get T.te tyy y)=(some (.p (.int kk a)),some (.p (.int kk b)))) (k:VK P ops r s K d (opS x (.p (.int kk a))++opS y (.p (.int kk b))) ([]) (.p (.int kk (yP kk a b)))):RK P ops (⟨some d,.binOp .and tx x y tyy,ty,pos,af,none⟩:: r) s K:=have ⟨hx,hy⟩:=pq hx0;RK.va rfl rfl (Go.Sw.iop T.ok .and rfl hx hy) k
theorem RK.anE {tx tyy:TypeId} {kk:IntKind} {a b:Int} {cc:Int} (hc:yP kk a b=cc) (hx0:(s.get T.te tx x,s.get T.te tyy y)=(some (.p (.int kk a)),some (.p (.int kk b)))) (k:VK P ops r s K d (opS x (.p (.int kk a))++opS y (.p (.int kk b))) ([]) (.p (.int kk cc))):RK P ops (⟨some d,.binOp .and tx x y tyy,ty,pos,af,none⟩:: r) s K:=have ⟨hx,hy⟩:=pq hx0;RK.va rfl rfl (Go.Sw.iopE T.ok .and hc rfl hx hy) k
theorem RK.an8 {tx tyy:TypeId} {a b:Int} (hx0:(s.get T.te tx x,s.get T.te tyy y)=(some (.p (.int .u8 a)),some (.p (.int .u8 b)))) (k:VK P ops r s K d (opS x (.p (.int .u8 a))++opS y (.p (.int .u8 b))) ([]) (.p (.int .u8 (u8 (yP IntKind.u8 a b)).toNat))):RK P ops (⟨some d,.binOp .and tx x y tyy,ty,pos,af,none⟩:: r) s K:=have ⟨hx,hy⟩:=pq hx0;RK.va rfl rfl (Go.Sw.iop8 T.ok .and rfl hx hy) k
theorem RK.o {tx tyy:TypeId} {kk:IntKind} {a b:Int} (hx0:(s.get T.te tx x,s.get T.te tyy y)=(some (.p (.int kk a)),some (.p (.int kk b)))) (k:VK P ops r s K d (opS x (.p (.int kk a))++opS y (.p (.int kk b))) ([]) (.p (.int kk (ior kk a b)))):RK P ops (⟨some d,.binOp .or tx x y tyy,ty,pos,af,none⟩:: r) s K:=have ⟨hx,hy⟩:=pq hx0;RK.va rfl rfl (Go.Sw.iop T.ok .or rfl hx hy) k
theorem RK.oE {tx tyy:TypeId} {kk:IntKind} {a b:Int} {cc:Int} (hc:ior kk a b=cc) (hx0:(s.get T.te tx x,s.get T.te tyy y)=(some (.p (.int kk a)),some (.p (.int kk b)))) (k:VK P ops r s K d (opS x (.p (.int kk a))++opS y (.p (.int kk b))) ([]) (.p (.int kk cc))):RK P ops (⟨some d,.binOp .or tx x y tyy,ty,pos,af,none⟩:: r) s K:=have ⟨hx,hy⟩:=pq hx0;RK.va rfl rfl (Go.Sw.iopE T.ok .or hc rfl hx hy) k
theorem RK.xo {tx tyy:TypeId} {kk:IntKind} {a b:Int} (hx0:(s.get T.te tx x,s.get T.te tyy y)=(some (.p (.int kk a)),some (.p (.int kk b)))) (k:VK P ops r s K d (opS x (.p (.int kk a))++opS y (.p (.int kk b))) ([]) (.p (.int kk (xC kk a b)))):RK P ops (⟨some d,.binOp .xor tx x y tyy,ty,pos,af,none⟩:: r) s K:=have ⟨hx,hy⟩:=pq hx0;RK.va rfl rfl (Go.Sw.iop T.ok .xor rfl hx hy) k
theorem RK.xoE {tx tyy:TypeId} {kk:IntKind} {a b:Int} {cc:Int} (hc:xC kk a b=cc) (hx0:(s.get T.te tx x,s.get T.te tyy y)=(some (.p (.int kk a)),some (.p (.int kk b)))) (k:VK P ops r s K d (opS x (.p (.int kk a))++opS y (.p (.int kk b))) ([]) (.p (.int kk cc))):RK P ops (⟨some d,.binOp .xor tx x y tyy,ty,pos,af,none⟩:: r) s K:=have ⟨hx,hy⟩:=pq hx0;RK.va rfl rfl (Go.Sw.iopE T.ok .xor hc rfl hx hy) k
theorem RK.xo8 {tx tyy:TypeId} {a b:Int} (hx0:(s.get T.te tx x,s.get T.te tyy y)=(some (.p (.int .u8 a)),some (.p (.int .u8 b)))) (k:VK P ops r s K d (opS x (.p (.int .u8 a))++opS y (.p (.int .u8 b))) ([]) (.p (.int .u8 (u8 (xC IntKind.u8 a b)).toNat))):RK P ops (⟨some d,.binOp .xor tx x y tyy,ty,pos,af,none⟩:: r) s K:=have ⟨hx,hy⟩:=pq hx0;RK.va rfl rfl (Go.Sw.iop8 T.ok .xor rfl hx hy) k
theorem RK.eq {tx tyy:TypeId} {kk:IntKind} {a b:Int} (hx0:(s.get T.te tx x,s.get T.te tyy y)=(some (.p (.int kk a)),some (.p (.int kk b)))) (k:VK P ops r s K d (opS x (.p (.int kk a))++opS y (.p (.int kk b))) ([]) (.p (.bool (a==b)))):RK P ops (⟨some d,.binOp .eql tx x y tyy,ty,pos,af,none⟩:: r) s K:=have ⟨hx,hy⟩:=pq hx0;RK.va rfl rfl (Go.Sw.cmp T.ok .eql rfl hx hy) k
theorem RK.seq {tx tyy:TypeId} {a b:List UInt8} (hx0:(s.get T.te tx x,s.get T.te tyy y)=(some (.p (.str a)),some (.p (.str b)))) (k:VK P ops r s K d (opS x (.p (.str a))++opS y (.p (.str b))) ([]) (.p (.bool (SOp .eql a b)))):RK P ops (⟨some d,.binOp .eql tx x y tyy,ty,pos,af,none⟩:: r) s K:=have ⟨hx,hy⟩:=pq hx0;RK.va rfl rfl (Go.Sw.scm T.ok .eql rfl hx hy) k
theorem RK.ne {tx tyy:TypeId} {kk:IntKind} {a b:Int} (hx0:(s.get T.te tx x,s.get T.te tyy y)=(some (.p (.int kk a)),some (.p (.int kk b)))) (k:VK P ops r s K d (opS x (.p (.int kk a))++opS y (.p (.int kk b))) ([]) (.p (.bool (a != b)))):RK P ops (⟨some d,.binOp .neq tx x y tyy,ty,pos,af,none⟩:: r) s K:=have ⟨hx,hy⟩:=pq hx0;RK.va rfl rfl (Go.Sw.cmp T.ok .neq rfl hx hy) k
theorem RK.sne {tx tyy:TypeId} {a b:List UInt8} (hx0:(s.get T.te tx x,s.get T.te tyy y)=(some (.p (.str a)),some (.p (.str b)))) (k:VK P ops r s K d (opS x (.p (.str a))++opS y (.p (.str b))) ([]) (.p (.bool (SOp .neq a b)))):RK P ops (⟨some d,.binOp .neq tx x y tyy,ty,pos,af,none⟩:: r) s K:=have ⟨hx,hy⟩:=pq hx0;RK.va rfl rfl (Go.Sw.scm T.ok .neq rfl hx hy) k
theorem RK.ls {tx tyy:TypeId} {kk:IntKind} {a b:Int} (hx0:(s.get T.te tx x,s.get T.te tyy y)=(some (.p (.int kk a)),some (.p (.int kk b)))) (k:VK P ops r s K d (opS x (.p (.int kk a))++opS y (.p (.int kk b))) ([]) (.p (.bool (decide (a<b))))):RK P ops (⟨some d,.binOp .lss tx x y tyy,ty,pos,af,none⟩:: r) s K:=have ⟨hx,hy⟩:=pq hx0;RK.va rfl rfl (Go.Sw.cmp T.ok .lss rfl hx hy) k
theorem RK.sls {tx tyy:TypeId} {a b:List UInt8} (hx0:(s.get T.te tx x,s.get T.te tyy y)=(some (.p (.str a)),some (.p (.str b)))) (k:VK P ops r s K d (opS x (.p (.str a))++opS y (.p (.str b))) ([]) (.p (.bool (SOp .lss a b)))):RK P ops (⟨some d,.binOp .lss tx x y tyy,ty,pos,af,none⟩:: r) s K:=have ⟨hx,hy⟩:=pq hx0;RK.va rfl rfl (Go.Sw.scm T.ok .lss rfl hx hy) k
theorem RK.le {tx tyy:TypeId} {kk:IntKind} {a b:Int} (hx0:(s.get T.te tx x,s.get T.te tyy y)=(some (.p (.int kk a)),some (.p (.int kk b)))) (k:VK P ops r s K d (opS x (.p (.int kk a))++opS y (.p (.int kk b))) ([]) (.p (.bool (decide (a<=b))))):RK P ops (⟨some d,.binOp .leq tx x y tyy,ty,pos,af,none⟩:: r) s K:=have ⟨hx,hy⟩:=pq hx0;RK.va rfl rfl (Go.Sw.cmp T.ok .leq rfl hx hy) k
theorem RK.gt {tx tyy:TypeId} {kk:IntKind} {a b:Int} (hx0:(s.get T.te tx x,s.get T.te tyy y)=(some (.p (.int kk a)),some (.p (.int kk b)))) (k:VK P ops r s K d (opS x (.p (.int kk a))++opS y (.p (.int kk b))) ([]) (.p (.bool (decide (b<a))))):RK P ops (⟨some d,.binOp .gtr tx x y tyy,ty,pos,af,none⟩:: r) s K:=have ⟨hx,hy⟩:=pq hx0;RK.va rfl rfl (Go.Sw.cmp T.ok .gtr rfl hx hy) k
theorem RK.ge {tx tyy:TypeId} {kk:IntKind} {a b:Int} (hx0:(s.get T.te tx x,s.get T.te tyy y)=(some (.p (.int kk a)),some (.p (.int kk b)))) (k:VK P ops r s K d (opS x (.p (.int kk a))++opS y (.p (.int kk b))) ([]) (.p (.bool (decide (b<=a))))):RK P ops (⟨some d,.binOp .geq tx x y tyy,ty,pos,af,none⟩:: r) s K:=have ⟨hx,hy⟩:=pq hx0;RK.va rfl rfl (Go.Sw.cmp T.ok .geq rfl hx hy) k
theorem RK.quo {tx tyy:TypeId} {kk:IntKind} {a b:Int} (h0:(b==0)=false) (hx:s.get T.te tx x=some (.p (.int kk a))) (hy:s.get T.te tyy y=some (.p (.int kk b))) (k:VK P ops r s K d (opS x (.p (.int kk a))++opS y (.p (.int kk b))) ([]) (.p (.int kk (kk.wrap (a.tdiv b))))):RK P ops (⟨some d,.binOp .quo tx x y tyy,ty,pos,af,none⟩:: r) s K:=RK.va rfl rfl (Go.Sw.quo T.ok h0 rfl hx hy) k
theorem RK.rem {tx tyy:TypeId} {kk:IntKind} {a b:Int} (h0:(b==0)=false) (hx:s.get T.te tx x=some (.p (.int kk a))) (hy:s.get T.te tyy y=some (.p (.int kk b))) (k:VK P ops r s K d (opS x (.p (.int kk a))++opS y (.p (.int kk b))) ([]) (.p (.int kk (a.tmod b)))):RK P ops (⟨some d,.binOp .rem tx x y tyy,ty,pos,af,none⟩:: r) s K:=RK.va rfl rfl (Go.Sw.rem T.ok h0 rfl hx hy) k
theorem RK.shl {tx tyy:TypeId} {kk k2:IntKind} {a b:Int} (h0:0<=b) (hx0:(s.get T.te tx x,s.get T.te tyy y)=(some (.p (.int kk a)),some (.p (.int k2 b)))) (k:VK P ops r s K d (opS x (.p (.int kk a))++opS y (.p (.int k2 b))) ([]) (.p (.int kk (tS kk a b)))):RK P ops (⟨some d,.binOp .shl tx x y tyy,ty,pos,af,none⟩:: r) s K:=have ⟨hx,hy⟩:=pq hx0;RK.va rfl rfl (Go.Sw.shl T.ok h0 rfl hx hy) k
theorem RK.shlE {tx tyy:TypeId} {kk k2:IntKind} {a b:Int} {cc:Int} (hc:tS kk a b=cc) (h0:0<=b) (hx0:(s.get T.te tx x,s.get T.te tyy y)=(some (.p (.int kk a)),some (.p (.int k2 b)))) (k:VK P ops r s K d (opS x (.p (.int kk a))++opS y (.p (.int k2 b))) ([]) (.p (.int kk cc))):RK P ops (⟨some d,.binOp .shl tx x y tyy,ty,pos,af,none⟩:: r) s K:=have ⟨hx,hy⟩:=pq hx0;RK.va rfl rfl (Go.Sw.shlE T.ok hc h0 rfl hx hy) k
theorem RK.shr {tx tyy:TypeId} {kk k2:IntKind} {a b:Int} (h0:0<=b) (hx0:(s.get T.te tx x,s.get T.te tyy y)=(some (.p (.int kk a)),some (.p (.int k2 b)))) (k:VK P ops r s K d (opS x (.p (.int kk a))++opS y (.p (.int k2 b))) ([]) (.p (.int kk (zW kk a b)))):RK P ops (⟨some d,.binOp .shr tx x y tyy,ty,pos,af,none⟩:: r) s K:=have ⟨hx,hy⟩:=pq hx0;RK.va rfl rfl (Go.Sw.shr T.ok h0 rfl hx hy) k
theorem RK.shrE {tx tyy:TypeId} {kk k2:IntKind} {a b:Int} {cc:Int} (hc:zW kk a b=cc) (h0:0<=b) (hx0:(s.get T.te tx x,s.get T.te tyy y)=(some (.p (.int kk a)),some (.p (.int k2 b)))) (k:VK P ops r s K d (opS x (.p (.int kk a))++opS y (.p (.int k2 b))) ([]) (.p (.int kk cc))):RK P ops (⟨some d,.binOp .shr tx x y tyy,ty,pos,af,none⟩:: r) s K:=have ⟨hx,hy⟩:=pq hx0;RK.va rfl rfl (Go.Sw.shrE T.ok hc h0 rfl hx hy) k
theorem RK.shr8 {tx tyy:TypeId} {k2:IntKind} {a:Nat} {b:Int} (h0:0<=b) (hx:s.get T.te tx x=some (.p (.int .u8 (a:Nat)))) (ha:a<256) (hy:s.get T.te tyy y=some (.p (.int k2 b))) (k:VK P ops r s K d (opS x (.p (.int .u8 (a:Nat)))++opS y (.p (.int k2 b))) ([]) (.p (.int .u8 (u8 (zW .u8 (a:Nat) b)).toNat))):RK P ops (⟨some d,.binOp .shr tx x y tyy,ty,pos,af,none⟩:: r) s K:=RK.va rfl rfl (Go.Sw.shrE T.ok (ir8 ha _) h0 rfl hx hy) k
theorem RK.no {tx:TypeId} {a:Bool} (hx:s.get T.te tx x=some (.p (.bool a))) (k:VK P ops r s K d (opS x (.p (.bool a))) ([]) (.p (.bool (!a)))):RK P ops (⟨some d,.unOp .not tx x,ty,pos,af,none⟩:: r) s K:=RK.va rfl rfl (Go.Sw.not' T.ok rfl hx) k
theorem RK.com {tx:TypeId} {kk:IntKind} {a:Int} (hx:s.get T.te tx x=some (.p (.int kk a))) (k:VK P ops r s K d (opS x (.p (.int kk a))) ([]) (.p (.int kk (zDm kk a)))):RK P ops (⟨some d,.unOp .xor tx x,ty,pos,af,none⟩:: r) s K:=RK.va rfl rfl (Go.Sw.com T.ok rfl hx) k
theorem RK.cv {src dst:TypeId} {kk k2:IntKind} {a:Int} (hs0:((T.te src).map (·.ty),(T.te dst).map (·.ty),s.get T.te src x)=(some (.int k2),some (.int kk),some (.p (.int k2 a)))) (k:VK P ops r s K d (opS x (.p (.int k2 a))) ([]) (.p (.int kk (kk.wrap a)))):RK P ops (⟨some d,.convert src dst x,ty,pos,af,none⟩:: r) s K:=have ⟨hs,hs0⟩:=pq hs0;have ⟨ht,hx⟩:=pq hs0;RK.va rfl rfl (Go.Sw.va_conv T.ok rfl hs ht hx) k
theorem RK.cv8 {src dst:TypeId} {k2:IntKind} {a:Int} (hs0:((T.te src).map (·.ty),(T.te dst).map (·.ty),s.get T.te src x)=(some (.int k2),some (.int .u8),some (.p (.int k2 a)))) (k:VK P ops r s K d (opS x (.p (.int k2 a))) ([]) (.p (.int .u8 (u8 a).toNat))):RK P ops (⟨some d,.convert src dst x,ty,pos,af,none⟩:: r) s K:=have ⟨hs,hs0⟩:=pq hs0;have ⟨ht,hx⟩:=pq hs0;RK.va rfl rfl (Go.Sw.va_conv8 T.ok rfl hs ht hx) k
theorem RK.bts {src dst e:TypeId} {l:List UInt8} {bs:List (Nat×ABlk)} (hs0:((T.te src).map (·.ty),(T.te e).map (·.ty),(T.te dst).map (·.ty),s.get T.te src x)=(some (.slice e),some (.int .u8),some .str,some v)) (hp:s.rd v=some (.bytes l,bs)) (k:VK P ops r s K d (opS x v) (bs) (.p (.str l))):RK P ops (⟨some d,.convert src dst x,ty,pos,af,none⟩:: r) s K:=have ⟨hs,hs0⟩:=pq hs0;have ⟨he,hs0⟩:=pq hs0;have ⟨ht,hx⟩:=pq hs0;RK.va rfl rfl (Go.Sw.va_bts T.ok rfl hs he ht hx hp) k
theorem RK.ncp {k0 n:Nat} (hx:s.get T.te 0 x=some (.ptr k0 n)) (k:VK P ops r s K d (opS x (.ptr k0 n)) ([]) (.ptr k0 n)):RK P ops (⟨some d,.nilCheck x,ty,pos,af,none⟩:: r) s K:=RK.va rfl rfl (Go.Sw.ncp T.ok rfl hx) k
theorem RK.fv {t ft:TypeId} {fs:List (TypeId×Nat)} {l:List PV} {bs:List (Nat×ABlk)} {q:PV} {f fo:Nat} {fi:TI} (ht0:((T.te t).map (·.ty),fs[f]?,T.te ft,fi.known,s.get T.te t x,s.rd v,qN fi.isAgg l fo fi.w)=(some (.struct fs),some (ft,fo),some fi,true,some v,some (.agg l,bs),some q)) (k:VK P ops r s K d (opS x v) (bs) (.p q)):RK P ops (⟨some d,.field t x f,ty,pos,af,none⟩:: r) s K:=have ⟨ht,ht0⟩:=pq ht0;have ⟨hf,ht0⟩:=pq ht0;have ⟨he,ht0⟩:=pq ht0;have ⟨hne,ht0⟩:=pq ht0;have ⟨hx,ht0⟩:=pq ht0;have ⟨hp,hq⟩:=pq ht0;RK.va rfl rfl (Go.Sw.fv T.ok rfl ht hf he hne hx hp hq) k
theorem RK.fa {t ft:TypeId} {fs:List (TypeId×Nat)} {k0 off f fo:Nat} {fi:TI} (ht0:((T.te t).map (·.ty),fs[f]?,T.te ft,nzw fi,s.get T.te 0 x)=(some (.struct fs),some (ft,fo),some fi,true,some (.ptr k0 off))) (k:VK P ops r s K d (opS x (.ptr k0 off)) ([]) (.ptr k0 (off+fo))):RK P ops (⟨some d,.fieldAddr t x f,ty,pos,af,none⟩:: r) s K:=have ⟨ht,ht0⟩:=pq ht0;have ⟨hf,ht0⟩:=pq ht0;have ⟨he,ht0⟩:=pq ht0;have ⟨hw,hx⟩:=pq ht0;RK.va rfl rfl (Go.Sw.fa T.ok rfl ht hf he hw hx) k
theorem RK.fc {t ft:TypeId} {fs:List (TypeId×Nat)} {l:List PV} {q:PV} {f fo:Nat} {fi:TI} (ht0:((T.te t).map (·.ty),fs[f]?,T.te ft,nzw fi,s.get T.te 0 x,qN fi.isAgg l fo fi.w)=(some (.struct fs),some (ft,fo),some fi,true,some (.p (.cptr (.agg l))),some q)) (k:VK P ops r s K d (opS x (.p (.cptr (.agg l)))) ([]) (.p (.cptr q))):RK P ops (⟨some d,.fieldAddr t x f,ty,pos,af,none⟩:: r) s K:=have ⟨ht,ht0⟩:=pq ht0;have ⟨hf,ht0⟩:=pq ht0;have ⟨he,ht0⟩:=pq ht0;have ⟨hw,ht0⟩:=pq ht0;have ⟨hx,hq⟩:=pq ht0;RK.va rfl rfl (Go.Sw.fc T.ok rfl ht hf he hw hx hq) k
theorem RK.ixB {t e:TypeId} {l:List UInt8} {u:UInt8} {bs:List (Nat×ABlk)} {i:Int} {ei:TI} (h:idx l i=some u) (ht0:((T.te t).map (·.ty),T.te e,s.get T.te t x,s.rd v,1,s.get T.te 0 y)=(some (.slice e),some ei,some v,some (.bytes l,bs),ei.w,some (.p (.int .i64 i)))) (k:VK P ops r s K d (opS x v++opS y (.p (.int .i64 i))) (bs) (.p (.cptr (.int .u8 u.toNat)))):RK P ops (⟨some d,.indexAddr t x y,ty,pos,af,none⟩:: r) s K:=have ⟨ht,ht0⟩:=pq ht0;have ⟨he,ht0⟩:=pq ht0;have ⟨hx,ht0⟩:=pq ht0;have ⟨hp,ht0⟩:=pq ht0;have ⟨hw,hy⟩:=pq ht0;RK.va rfl rfl (Go.Sw.ixB T.ok h rfl ht he hx hp hw hy) k
theorem RK.ixM {α:Type} {f:α->PV} {w:Nat} {t e:TypeId} {l:List α} {u:α} {bs:List (Nat×ABlk)} {i:Int} {ei:TI} (h:idx l i=some u) (ht0:((T.te t).map (·.ty),T.te e,s.get T.te t x)=(some (.slice e),some ei,some v)) (hp:s.rd v=some (.sl w (l.map f),bs)) (hw0:(w,s.get T.te 0 y)=(ei.w,some (.p (.int .i64 i)))) (k:VK P ops r s K d (opS x v++opS y (.p (.int .i64 i))) (bs) (.p (.cptr (f u)))):RK P ops (⟨some d,.indexAddr t x y,ty,pos,af,none⟩:: r) s K:=have ⟨ht,ht0⟩:=pq ht0;have ⟨he,hx⟩:=pq ht0;have ⟨hw,hy⟩:=pq hw0;RK.va rfl rfl (Go.Sw.ixM T.ok h rfl ht he hx hp hw hy) k
theorem RK.ixS {t:TypeId} {l:List UInt8} {u:UInt8} {i:Int} (h:idx l i=some u) (ht0:((T.te t).map (·.ty),s.get T.te t x,s.get T.te 0 y)=(some .str,some (.p (.str l)),some (.p (.int .i64 i)))) (k:VK P ops r s K d (opS x (.p (.str l))++opS y (.p (.int .i64 i))) ([]) (.p (.int .u8 u.toNat))):RK P ops (⟨some d,.index t x y,ty,pos,af,none⟩:: r) s K:=have ⟨ht,ht0⟩:=pq ht0;have ⟨hx,hy⟩:=pq ht0;RK.va rfl rfl (Go.Sw.ixS T.ok h rfl ht hx hy) k
theorem RK.ixC {α:Type} {f:α->PV} {n:Nat} {t e:TypeId} {l:List α} {u:α} {i:Int} {ei:TI} (h:idx l i=some u) (ht0:((T.te t).map (·.ty),T.te e,s.get T.te t x,Nat.ble l.length n,ei.isAgg,ei.w)=(some (.arr n e),some ei,some (.p (.cptr (.agg (l.map f)))),true,false,1)) (hf:∀ a,(f a).cells=[f a]) (hy:s.get T.te 0 y=some (.p (.int .i64 i))) (k:VK P ops r s K d (opS x (.p (.cptr (.agg (l.map f))))++opS y (.p (.int .i64 i))) ([]) (.p (.cptr (f u)))):RK P ops (⟨some d,.indexAddr t x y,ty,pos,af,none⟩:: r) s K:=have ⟨ht,ht0⟩:=pq ht0;have ⟨he,ht0⟩:=pq ht0;have ⟨hx,ht0⟩:=pq ht0;have ⟨hn,ht0⟩:=pq ht0;have ⟨hag,hw⟩:=pq ht0;RK.va rfl rfl (Go.Sw.ixC T.ok h rfl ht he hx hn hag hw hf hy) k
theorem RK.ixV {α:Type} {f:α->PV} {n:Nat} {t e:TypeId} {l:List α} {u:α} {bs:List (Nat×ABlk)} {i:Int} {ei:TI} (h:idx l i=some u) (ht0:((T.te t).map (·.ty),T.te e,ei.known,s.get T.te t x,s.rd v,Nat.ble l.length n,ei.isAgg,ei.w)=(some (.arr n e),some ei,true,some v,some (.agg (l.map f),bs),true,false,1)) (hf:∀ a,(f a).cells=[f a]) (hy:s.get T.te 0 y=some (.p (.int .i64 i))) (k:VK P ops r s K d (opS x v++opS y (.p (.int .i64 i))) (bs) (.p (f u))):RK P ops (⟨some d,.index t x y,ty,pos,af,none⟩:: r) s K:=have ⟨ht,ht0⟩:=pq ht0;have ⟨he,ht0⟩:=pq ht0;have ⟨hne,ht0⟩:=pq ht0;have ⟨hx,ht0⟩:=pq ht0;have ⟨hp,ht0⟩:=pq ht0;have ⟨hn,ht0⟩:=pq ht0;have ⟨hag,hw⟩:=pq ht0;RK.va rfl rfl (Go.Sw.ixV T.ok h rfl ht he hne hx hp hy hn hag hw hf) k
theorem RK.ia {n j k0 off:Nat} {t e:TypeId} {i:Int} {ei:TI} (h:ixN n i=some j) (ht0:((T.te t).map (·.ty),T.te e,ei.w,s.get T.te t x,s.get T.te 0 y)=(some (.arr n e),some ei,1,some (.ptr k0 off),some (.p (.int .i64 i)))) (k:VK P ops r s K d (opS x (.ptr k0 off)++opS y (.p (.int .i64 i))) ([]) (.ptr k0 (off+j))):RK P ops (⟨some d,.indexAddr t x y,ty,pos,af,none⟩:: r) s K:=have ⟨ht,ht0⟩:=pq ht0;have ⟨he,ht0⟩:=pq ht0;have ⟨hw,ht0⟩:=pq ht0;have ⟨hx,hy⟩:=pq ht0;RK.va rfl rfl (Go.Sw.ia T.ok h rfl ht he hw hx hy) k
theorem RK.iaK {n i k0 off:Nat} {t e:TypeId} {ei:TI} (ht0:((T.te t).map (·.ty),T.te e,s.get T.te t x,s.get T.te 0 y,Nat.blt i n)=(some (.arr n e),some ei,some (.ptr k0 off),some (.p (.int .i64 (i:Nat))),true)) (k:VK P ops r s K d (opS x (.ptr k0 off)++opS y (.p (.int .i64 (i:Nat)))) ([]) (.ptr k0 (off+i*ei.w))):RK P ops (⟨some d,.indexAddr t x y,ty,pos,af,none⟩:: r) s K:=have ⟨ht,ht0⟩:=pq ht0;have ⟨he,ht0⟩:=pq ht0;have ⟨hx,ht0⟩:=pq ht0;have ⟨hy,h1⟩:=pq ht0;RK.va rfl rfl (Go.Sw.iaK T.ok rfl ht he hx hy h1) k
theorem RK.ir {n j k0 off:Nat} {t e:TypeId} {i:Int} {ei:TI} (h:ixN n i=some j) (ht0:((T.te t).map (·.ty),T.te e,ei.w,s.get T.te t x,s.get T.te 0 y)=(some (.slice e),some ei,1,some (.ref k0 off n),some (.p (.int .i64 i)))) (k:VK P ops r s K d (opS x (.ref k0 off n)++opS y (.p (.int .i64 i))) ([]) (.ptr k0 (off+j))):RK P ops (⟨some d,.indexAddr t x y,ty,pos,af,none⟩:: r) s K:=have ⟨ht,ht0⟩:=pq ht0;have ⟨he,ht0⟩:=pq ht0;have ⟨hw,ht0⟩:=pq ht0;have ⟨hx,hy⟩:=pq ht0;RK.va rfl rfl (Go.Sw.ir T.ok h rfl ht he hw hx hy) k
theorem RK.ld {k0 off:Nat} {t:TypeId} {l:List AV} {i:TI} (ht0:(T.te t,i.plain,s.get T.te 0 x,s.blk k0,l[off]?)=(some i,true,some (.ptr k0 off),some (.var l),some v)) (k:VK P ops r s K d (opS x (.ptr k0 off)) ([(k0,.var l)]) (v)):RK P ops (⟨some d,.load t x,ty,pos,af,none⟩:: r) s K:=have ⟨ht,ht0⟩:=pq ht0;have ⟨hp,ht0⟩:=pq ht0;have ⟨hx,ht0⟩:=pq ht0;have ⟨hb,hv⟩:=pq ht0;RK.va rfl rfl (Go.Sw.ld T.ok rfl ht hp hx hb hv) k
theorem RK.ldA {α:Type} {f:α->AV} {k0 off j:Nat} {t:TypeId} {l:List α} {u:α} {i:TI} (h:l[j]? = some u) (ht0:(T.te t,i.plain,s.get T.te 0 x)=(some i,true,some (.ptr k0 off))) (hj:off=j) (hb:s.blk k0=some (.var (l.map f))) (k:VK P ops r s K d (opS x (.ptr k0 off)) ([(k0,.var (l.map f))]) (f u)):RK P ops (⟨some d,.load t x,ty,pos,af,none⟩:: r) s K:=have ⟨ht,ht0⟩:=pq ht0;have ⟨hp,hx⟩:=pq ht0;RK.va rfl rfl (Go.Sw.ld T.ok rfl ht hp hx hb (by subst hj;simp [h])) k
theorem RK.ldN {k0 off:Nat} {t:TypeId} {l:List AV} {i:TI} (ht0:(T.te t,i.isAgg,s.get T.te 0 x,s.blk k0,Nat.ble (off+i.w) l.length)=(some i,true,some (.ptr k0 off),some (.var l),true)) (k:VK P ops r s K d (opS x (.ptr k0 off)) ([(k0,.var l)]) (.ag ((l.drop off).take i.w))):RK P ops (⟨some d,.load t x,ty,pos,af,none⟩:: r) s K:=have ⟨ht,ht0⟩:=pq ht0;have ⟨hp,ht0⟩:=pq ht0;have ⟨hx,ht0⟩:=pq ht0;have ⟨hb,hv⟩:=pq ht0;RK.va rfl rfl (Go.Sw.ldN T.ok rfl ht hp hx hb hv) k
theorem RK.ldW {k0:Nat} {t:TypeId} {l:List AV} {i:TI} (ht0:(T.te t,i.isAgg,s.get T.te 0 x,s.blk k0,Nat.beq i.w l.length)=(some i,true,some (.ptr k0 0),some (.var l),true)) (k:VK P ops r s K d (opS x (.ptr k0 0)) ([(k0,.var l)]) (.ag l)):RK P ops (⟨some d,.load t x,ty,pos,af,none⟩:: r) s K:=have ⟨ht,ht0⟩:=pq ht0;have ⟨hp,ht0⟩:=pq ht0;have ⟨hx,ht0⟩:=pq ht0;have ⟨hb,hv⟩:=pq ht0;RK.va rfl rfl (Go.Sw.ldW T.ok rfl ht hp hx hb hv) k
theorem RK.ldC {q:PV} {t:TypeId} {i:TI} (ht0:(T.te t,i.plain,s.get T.te 0 x,q.cells)=(some i,true,some (.p (.cptr q)),[q])) (k:VK P ops r s K d (opS x (.p (.cptr q))) ([]) (.p q)):RK P ops (⟨some d,.load t x,ty,pos,af,none⟩:: r) s K:=have ⟨ht,ht0⟩:=pq ht0;have ⟨hp,ht0⟩:=pq ht0;have ⟨hx,hq⟩:=pq ht0;RK.va rfl rfl (Go.Sw.ldC T.ok rfl ht hp hx hq) k
theorem RK.ldD {l:List PV} {t:TypeId} {i:TI} (ht0:(T.te t,i.isAgg,s.get T.te 0 x,Nat.beq l.length i.w)=(some i,true,some (.p (.cptr (.agg l))),true)) (k:VK P ops r s K d (opS x (.p (.cptr (.agg l)))) ([]) (.p (.agg l))):RK P ops (⟨some d,.load t x,ty,pos,af,none⟩:: r) s K:=have ⟨ht,ht0⟩:=pq ht0;have ⟨hp,ht0⟩:=pq ht0;have ⟨hx,hl⟩:=pq ht0;RK.va rfl rfl (Go.Sw.ldCN T.ok rfl ht hp hx hl) k
theorem RK.st1 {t:TypeId} {i:TI} {ax:Operand} {k0 off:Nat} {l:List AV} (ht0:(T.te t,s.get T.te 0 ax,s.get T.te t x,s.blk k0,i.w,v.cells,Nat.blt off l.length,v.one)=(some i,some (.ptr k0 off),some v,some (.var l),1,[v],true,true)) (k:RK P ops r (s.setb k0 (.var (l.set off v))) λs' ms=>K s' (⟨opS ax (.ptr k0 off)++opS x v,[(k0,.var l)],[],none,[(k0,.var (l.set off v))]⟩:: ms)):RK P ops (⟨none,.store t ax x,ty,pos,af,none⟩:: r) s K:=have ⟨ht,ht0⟩:=pq ht0;have ⟨ha,ht0⟩:=pq ht0;have ⟨hx,ht0⟩:=pq ht0;have ⟨hb,ht0⟩:=pq ht0;have ⟨hw,ht0⟩:=pq ht0;have ⟨hc,ht0⟩:=pq ht0;have ⟨hl,hone⟩:=pq ht0;by
 refine RK.so rfl ?_ k
 have h1:off<l.length:=by have:=Nat.le_of_ble_eq_true hl;omega
 have:=Go.Sw.sto (P:=P) (o:=⟨none,.store t ax x,ty,pos,af,none⟩) T.ok rfl rfl ht ha hx hb (by simp [hc,hw]) (by rw [hw];simpa using Nat.succ_le_of_lt h1) (by simp [hc,hone])
 rw [hc,fV h1] at this
 exact this
theorem RK.stW {t:TypeId} {i:TI} {ax:Operand} {k0:Nat} {l:List AV} (ht0:(T.te t,s.get T.te 0 ax,s.get T.te t x,s.blk k0,Nat.beq v.cells.length i.w,Nat.beq i.w l.length,v.cells.all AV.one)=(some i,some (.ptr k0 0),some v,some (.var l),true,true,true)) (k:RK P ops r (s.setb k0 (.var v.cells)) λs' ms=>K s' (⟨opS ax (.ptr k0 0)++opS x v,[(k0,.var l)],[],none,[(k0,.var v.cells)]⟩:: ms)):RK P ops (⟨none,.store t ax x,ty,pos,af,none⟩:: r) s K:=have ⟨ht,ht0⟩:=pq ht0;have ⟨ha,ht0⟩:=pq ht0;have ⟨hx,ht0⟩:=pq ht0;have ⟨hb,ht0⟩:=pq ht0;have ⟨hw,ht0⟩:=pq ht0;have ⟨hl,hone⟩:=pq ht0;by
 refine RK.so rfl ?_ k
 have h1:=Nat.eq_of_beq_eq_true hw
 have h2:=Nat.eq_of_beq_eq_true hl
 have:=Go.Sw.sto (P:=P) (o:=⟨none,.store t ax x,ty,pos,af,none⟩) T.ok rfl rfl ht ha hx hb hw (by simp [h2]) hone
 have e:rB l 0 v.cells=v.cells:=by rw [k8 (by omega)];simp [h1,h2]
 rw [e] at this
 exact this
theorem RK.stA {α:Type} {f:α->AV} {t:TypeId} {i:TI} {ax:Operand} {k0 off j:Nat} {l l':List α} {u:α} (h:uN l j u=some l') (ht0:(T.te t,s.get T.te 0 ax)=(some i,some (.ptr k0 off))) (hj:off=j) (hx0:(s.get T.te t x,s.blk k0,i.w,(f u).cells,(f u).one)=(some (f u),some (.var (l.map f)),1,[f u],true)) (k:RK P ops r (s.setb k0 (.var (l'.map f))) λs' ms=>K s' (⟨opS ax (.ptr k0 off)++opS x (f u),[(k0,.var (l.map f))],[],none,[(k0,.var (l'.map f))]⟩:: ms)):RK P ops (⟨none,.store t ax x,ty,pos,af,none⟩:: r) s K:=have ⟨ht,ha⟩:=pq ht0;have ⟨hx,hx0⟩:=pq hx0;have ⟨hb,hx0⟩:=pq hx0;have ⟨hw,hx0⟩:=pq hx0;have ⟨hf,hone⟩:=pq hx0;by
 refine RK.so rfl ?_ k
 subst hj
 obtain ⟨h1,h2⟩:=kP h
 have:=Go.Sw.sto (P:=P) (o:=⟨none,.store t ax x,ty,pos,af,none⟩) T.ok rfl rfl ht ha hx hb (by simp [hf,hw]) (by rw [hw];simpa using Nat.succ_le_of_lt h1) (by simp [hf,hone])
 rw [hf,fV (by simpa using h1),<- List.map_set,<- h2] at this
 exact this
theorem RK.al {t:TypeId} {i:TI} (ht0:(T.te t,s.blk d)=(some i,none)) (k:BK P ops r s K d ([]) ([]) ([d]) (d) (.var (i.z.map zA)) (.ptr d 0)):RK P ops (⟨some d,.alloc t,ty,pos,af,none⟩:: r) s K:=have ⟨ht,hb⟩:=pq ht0;RK.sb rfl (Go.Sw.al T.ok rfl rfl ht hb) k
theorem RK.bx {t:TypeId} (hx0:(s.get T.te t x,s.blk d)=(some v,none)) (k:BK P ops r s K d (opS x v) ([]) ([d]) (d) (.var v.cells) (.ptr d 0)):RK P ops (⟨some d,.box t x,ty,pos,af,none⟩:: r) s K:=have ⟨hx,hb⟩:=pq hx0;RK.sb rfl (Go.Sw.bx T.ok rfl rfl hx hb) k
theorem RK.bl {t:TypeId} {pa:Array (Nat×Operand)} {pl:List (Nat×Operand)} {vs rs:List (Nat×AV)} {fs:List (TypeId×Nat)} {i:TI} {l:List AV} (hpl0:(pa.toList,T.te t,i.ty,fs.all (λf=>(T.te f.1).isSome))=(pl,some i,.struct fs,true)) (hp:Parts s T.te pl vs rs) (hf:rY (zBw T.te fs) (i.z.map zA) vs=some l) (k:VK P ops r s K d (rs) ([]) (.ag l)):RK P ops (⟨some d,.build t pa,ty,pos,af,none⟩:: r) s K:=have ⟨hpl,hpl0⟩:=pq hpl0;have ⟨ht,hpl0⟩:=pq hpl0;have ⟨hty,hfs⟩:=pq hpl0;RK.va rfl rfl (Go.Sw.bld T.ok rfl hpl ht hty hfs hp hf) k
theorem RK.bA {t e:TypeId} {pa:Array (Nat×Operand)} {pl:List (Nat×Operand)} {vs rs:List (Nat×AV)} {i ei:TI} {n:Nat} {l:List AV} (hpl0:(pa.toList,T.te t,i.ty,T.te e)=(pl,some i,.arr n e,some ei)) (hp:Parts s T.te pl vs rs) (hf:rY (λj=>some (j*ei.w,ei.w)) (i.z.map zA) vs=some l) (k:VK P ops r s K d (rs) ([]) (.ag l)):RK P ops (⟨some d,.build t pa,ty,pos,af,none⟩:: r) s K:=have ⟨hpl,hpl0⟩:=pq hpl0;have ⟨ht,hpl0⟩:=pq hpl0;have ⟨hty,he⟩:=pq hpl0;RK.va rfl rfl (Go.Sw.bldA T.ok rfl hpl ht hty he hp hf) k
theorem RK.liB (l:List UInt8) {t e:TypeId} {ei:TI} {n:Nat} {pa:Array (Nat×Operand)} {pl:List (Nat×Operand)} {vs rs:List (Nat×AV)} {bb:List (Nat×ABlk)} (hpl0:(pa.toList,(T.te t).map (·.ty),T.te e,ei.z.length,1,Nat.ble n 16777216)=(pl,some (.slice e),some ei,ei.w,ei.w,true)) (hp:PartsP s T.te e 0 pl vs rs bb) (hf0:(rY (λj=>some (j*ei.w,ei.w)) (uP ei.z n) vs,l.length,s.blk d)=(some ((l.map λx=>PV.int .u8 x.toNat).map .p),n,none)) (k:BK P ops r s K d (rs) (bb) ([d]) (d) (.buf (.bytes l)) (.buf d l.length)):RK P ops (⟨some d,.buildSlice t n pa,ty,pos,af,none⟩:: r) s K:=have ⟨hpl,hpl0⟩:=pq hpl0;have ⟨ht,hpl0⟩:=pq hpl0;have ⟨he,hpl0⟩:=pq hpl0;have ⟨hz,hpl0⟩:=pq hpl0;have ⟨hw0,hn⟩:=pq hpl0;have ⟨hf,hf0⟩:=pq hf0;have ⟨hcn,hk⟩:=pq hf0;RK.sb rfl (Go.Sw.litB T.ok l rfl rfl hpl ht he hz hw0 hn hp hf hcn hk) k
theorem RK.li {α:Type} {w:Nat} (f:α->PV) (l:List α) {t e:TypeId} {ei:TI} {n:Nat} {pa:Array (Nat×Operand)} {pl:List (Nat×Operand)} {vs rs:List (Nat×AV)} {bb:List (Nat×ABlk)} (hpl0:(pa.toList,(T.te t).map (·.ty),T.te e,ei.z.length,ei.w,Nat.blt 0 w,Nat.ble (n*w) 16777216)=(pl,some (.slice e),some ei,ei.w,w,true,true)) (hp:PartsP s T.te e 0 pl vs rs bb) (hl:∀ a,(f a).cells.length=w) (hf0:(rY (λj=>some (j*ei.w,ei.w)) (uP ei.z n) vs,l.length,s.blk d)=(some ((yO (l.map f)).map .p),n,none)) (k:BK P ops r s K d (rs) (bb) ([d]) (d) (.buf (.sl w (l.map f))) (.buf d l.length)):RK P ops (⟨some d,.buildSlice t n pa,ty,pos,af,none⟩:: r) s K:=have ⟨hpl,hpl0⟩:=pq hpl0;have ⟨ht,hpl0⟩:=pq hpl0;have ⟨he,hpl0⟩:=pq hpl0;have ⟨hz,hpl0⟩:=pq hpl0;have ⟨hw,hpl0⟩:=pq hpl0;have ⟨hw0,hn⟩:=pq hpl0;have ⟨hf,hf0⟩:=pq hf0;have ⟨hcn,hk⟩:=pq hf0;RK.sb rfl (Go.Sw.lit T.ok f l rfl rfl hpl ht he hz hw hw0 hn hp hl hf hcn hk) k
theorem RK.lr {t e:TypeId} {ei:TI} {n:Nat} {pa:Array (Nat×Operand)} {pl:List (Nat×Operand)} {vs rs:List (Nat×AV)} {l:List AV} (hpl0:(pa.toList,(T.te t).map (·.ty),T.te e,ei.z.length,Nat.ble (n*ei.w) 16777216)=(pl,some (.slice e),some ei,ei.w,true)) (hp:Parts s T.te pl vs rs) (hf0:(rY (λj=>some (j*ei.w,ei.w)) (uP ei.z n) vs,s.blk d)=(some l,none)) (k:BK P ops r s K d (rs) ([]) ([d]) (d) (.var l) (.ref d 0 n)):RK P ops (⟨some d,.buildSlice t n pa,ty,pos,af,none⟩:: r) s K:=have ⟨hpl,hpl0⟩:=pq hpl0;have ⟨ht,hpl0⟩:=pq hpl0;have ⟨he,hpl0⟩:=pq hpl0;have ⟨hz,hn⟩:=pq hpl0;have ⟨hf,hk⟩:=pq hf0;RK.sb rfl (Go.Sw.sa_litr T.ok rfl rfl hpl ht he hz (zJ hn) hp hf hk) k
theorem RK.ex {n:Nat} {l:List AV} (hx0:(s.get T.te 0 x,l[n]?)=(some (.tu l),some v)) (k:VK P ops r s K d (opS x (.tu l)) ([]) (v)):RK P ops (⟨some d,.extract x n,ty,pos,af,none⟩:: r) s K:=have ⟨hx,hq⟩:=pq hx0;RK.va rfl rfl (Go.Sw.va_extractA rfl hx hq) k
theorem RK.slB {lo hi mx:Option Operand} {lo2 hi2 mx2:Option Int} {rl rh rm:List (Nat×AV)} {t e:TypeId} {bs:List (Nat×ABlk)} {ei:TI} {a b:Int} {l u:List UInt8} (h:sub l a b=some u) (ht0:((T.te t).map (·.ty),T.te e,s.get T.te t x)=(some (.slice e),some ei,some v)) (hp:s.rd v=some (.bytes l,bs)) (hw:1=ei.w) (hlo:Bd s T.te lo lo2 rl) (hhi:Bd s T.te hi hi2 rh) (hmx:Bd s T.te mx mx2 rm) (hm:mx2=none∨(mx2=hi2/\hi2.isSome=true)) (ea0:(lo2.getD 0,hi2.getD l.length)=(a,b)) (k:VK P ops r s K d (opS x v++(rl++(rh++rm))) (bs) (.p (.bytes u))):RK P ops (⟨some d,.slice t x lo hi mx,ty,pos,af,none⟩:: r) s K:=have ⟨ht,ht0⟩:=pq ht0;have ⟨he,hx⟩:=pq ht0;have ⟨ea,eb⟩:=pq ea0;RK.va rfl rfl (Go.Sw.slB T.ok h rfl ht he hx hp hw hlo hhi hmx hm ea eb) k
theorem RK.slM {lo hi mx:Option Operand} {lo2 hi2 mx2:Option Int} {rl rh rm:List (Nat×AV)} {t e:TypeId} {bs:List (Nat×ABlk)} {ei:TI} {a b:Int} {α:Type} {f:α->PV} {w:Nat} {l u:List α} (h:sub l a b=some u) (ht0:((T.te t).map (·.ty),T.te e,s.get T.te t x)=(some (.slice e),some ei,some v)) (hp:s.rd v=some (.sl w (l.map f),bs)) (hw:w=ei.w) (hlo:Bd s T.te lo lo2 rl) (hhi:Bd s T.te hi hi2 rh) (hmx:Bd s T.te mx mx2 rm) (hm:mx2=none∨(mx2=hi2/\hi2.isSome=true)) (ea0:(lo2.getD 0,hi2.getD l.length)=(a,b)) (k:VK P ops r s K d (opS x v++(rl++(rh++rm))) (bs) (.p (.sl w (u.map f)))):RK P ops (⟨some d,.slice t x lo hi mx,ty,pos,af,none⟩:: r) s K:=have ⟨ht,ht0⟩:=pq ht0;have ⟨he,hx⟩:=pq ht0;have ⟨ea,eb⟩:=pq ea0;RK.va rfl rfl (Go.Sw.slM T.ok h rfl ht he hx hp hw hlo hhi hmx hm ea eb) k
theorem RK.slT {lo hi:Option Operand} {lo2 hi2:Option Int} {rl rh:List (Nat×AV)} {t:TypeId} {a b:Int} {l u:List UInt8} (h:sub l a b=some u) (ht0:((T.te t).map (·.ty),s.get T.te t x)=(some .str,some (.p (.str l)))) (hlo:Bd s T.te lo lo2 rl) (hhi:Bd s T.te hi hi2 rh) (ea0:(lo2.getD 0,hi2.getD l.length)=(a,b)) (k:VK P ops r s K d (opS x (.p (.str l))++(rl++rh)) ([]) (.p (.str u))):RK P ops (⟨some d,.slice t x lo hi none,ty,pos,af,none⟩:: r) s K:=have ⟨ht,hx⟩:=pq ht0;have ⟨ea,eb⟩:=pq ea0;RK.va rfl rfl (Go.Sw.slT T.ok h rfl ht hx hlo hhi ea eb) k
theorem RK.lnT {t:TypeId} {l:List UInt8} (ht0:((T.te t).map (·.ty),s.get T.te t x)=(some .str,some (.p (.str l)))) (k:VK P ops r s K d (opS x (.p (.str l))) ([]) (.p (.int .i64 l.length))):RK P ops (⟨some d,.call ⟨.builtin .len,#[x],#[t]⟩,ty,pos,af,none⟩:: r) s K:=have ⟨ht,hx⟩:=pq ht0;RK.va rfl rfl (Go.Sw.lnT T.ok rfl ht hx) k
theorem RK.lnS {t e:TypeId} {p:PV} {bs:List (Nat×ABlk)} (ht0:((T.te t).map (·.ty),s.get T.te t x)=(some (.slice e),some v)) (hp:s.rd v=some (p,bs)) (hs:p.isSlice=true) (k:VK P ops r s K d (opS x v) (bs) (.p (.int .i64 p.len))):RK P ops (⟨some d,.call ⟨.builtin .len,#[x],#[t]⟩,ty,pos,af,none⟩:: r) s K:=have ⟨ht,hx⟩:=pq ht0;RK.va rfl rfl (Go.Sw.lnS T.ok rfl ht hx hp hs) k
theorem RK.lnM {α:Type} {f:α->PV} {w:Nat} {l:List α} {t e:TypeId} {bs:List (Nat×ABlk)} (ht0:((T.te t).map (·.ty),s.get T.te t x)=(some (.slice e),some v)) (hp:s.rd v=some (.sl w (l.map f),bs)) (k:VK P ops r s K d (opS x v) (bs) (.p (.int .i64 l.length))):RK P ops (⟨some d,.call ⟨.builtin .len,#[x],#[t]⟩,ty,pos,af,none⟩:: r) s K:=have ⟨ht,hx⟩:=pq ht0;RK.va rfl rfl (Go.Sw.lnM T.ok rfl ht hx hp) k
theorem RK.lnR {t e:TypeId} {k0 off n:Nat} (ht0:((T.te t).map (·.ty),s.get T.te t x)=(some (.slice e),some (.ref k0 off n))) (k:VK P ops r s K d (opS x (.ref k0 off n)) ([]) (.p (.int .i64 n))):RK P ops (⟨some d,.call ⟨.builtin .len,#[x],#[t]⟩,ty,pos,af,none⟩:: r) s K:=have ⟨ht,hx⟩:=pq ht0;RK.va rfl rfl (Go.Sw.va_lenR T.ok rfl ht hx) k
theorem RK.mi {t t2:TypeId} {kk:IntKind} {a b:Int} (hx0:(s.get T.te t x,s.get T.te t2 y)=(some (.p (.int kk a)),some (.p (.int kk b)))) (k:VK P ops r s K d (opS x (.p (.int kk a))++opS y (.p (.int kk b))) ([]) (.p (.int kk (if b<a then b else a)))):RK P ops (⟨some d,.call ⟨.builtin .min,#[x,y],#[t,t2]⟩,ty,pos,af,none⟩:: r) s K:=have ⟨hx,hy⟩:=pq hx0;RK.va rfl rfl (Go.Sw.minI T.ok rfl hx hy) k
theorem RK.apNB {t t2 e e2:TypeId} {ei:TI} {vy:AV} {bs:List (Nat×ABlk)} {b:Nat} {m u:List UInt8} (h:zZ b [] m=some u) (ht0:((T.te t).map (·.ty),T.te e,(T.te t2).map (·.ty),s.get T.te t x,1,ei.z.length,s.get T.te t2 y,s.rd vy,ei.b,Nat.blt 0 b,s.blk d)=(some (.slice e),some ei,some (.slice e2),some (.nl (.bytes [])),ei.w,ei.w,some vy,some (.bytes m,bs),b,true,none)) (k:BK P ops r s K d (opS x (.nl (.bytes []))++opS y vy) (bs) ([d]) (d) (.buf (.bytes u)) (.buf d u.length)):RK P ops (⟨some d,.call ⟨.builtin .append,#[x,y],#[t,t2]⟩,ty,pos,af,none⟩:: r) s K:=have ⟨ht,ht0⟩:=pq ht0;have ⟨he,ht0⟩:=pq ht0;have ⟨ht2,ht0⟩:=pq ht0;have ⟨hx,ht0⟩:=pq ht0;have ⟨hcw,ht0⟩:=pq ht0;have ⟨hz,ht0⟩:=pq ht0;have ⟨hy,ht0⟩:=pq ht0;have ⟨hp,ht0⟩:=pq ht0;have ⟨hb,ht0⟩:=pq ht0;have ⟨hb1,hk⟩:=pq ht0;RK.sb rfl (Go.Sw.apNB T.ok h rfl rfl ht he ht2 hx hcw hz hy hp hb hb1 hk) k
theorem RK.apB {t t2 e e2:TypeId} {ei:TI} {vy:AV} {bs:List (Nat×ABlk)} {b:Nat} {k0:Nat} {l m u:List UInt8} (h:zZ b l m=some u) (ht0:((T.te t).map (·.ty),T.te e,(T.te t2).map (·.ty),s.get T.te t x,s.blk k0,1,ei.z.length,s.get T.te t2 y)=(some (.slice e),some ei,some (.slice e2),some (.buf k0 l.length),some (.buf (.bytes l)),ei.w,ei.w,some vy)) (hp:s.rd vy=some (.bytes m,bs)) (hb0:(ei.b,Nat.blt 0 b)=(b,true)) (k:BK P ops r s K d (opS x (.buf k0 l.length)++opS y vy) ((k0,.buf (.bytes l)) :: bs) ([]) (k0) (.buf (.bytes u)) (.buf k0 u.length)):RK P ops (⟨some d,.call ⟨.builtin .append,#[x,y],#[t,t2]⟩,ty,pos,af,none⟩:: r) s K:=have ⟨ht,ht0⟩:=pq ht0;have ⟨he,ht0⟩:=pq ht0;have ⟨ht2,ht0⟩:=pq ht0;have ⟨hx,ht0⟩:=pq ht0;have ⟨hk,ht0⟩:=pq ht0;have ⟨hcw,ht0⟩:=pq ht0;have ⟨hz,hy⟩:=pq ht0;have ⟨hb,hb1⟩:=pq hb0;RK.sb rfl (Go.Sw.apB T.ok h rfl rfl ht he ht2 hx hk hcw hz hy hp hb hb1) k
theorem RK.apS {t t2 e:TypeId} {ei:TI} {vy:AV} {bs:List (Nat×ABlk)} {b:Nat} {k0:Nat} {l m u:List UInt8} (h:zZ b l m=some u) (ht0:((T.te t).map (·.ty),T.te e,(T.te t2).map (·.ty),s.get T.te t x,s.blk k0,1,ei.z.length,s.get T.te t2 y,s.rd vy,ei.b,Nat.blt 0 b)=(some (.slice e),some ei,some .str,some (.buf k0 l.length),some (.buf (.bytes l)),ei.w,ei.w,some vy,some (.str m,bs),b,true)) (k:BK P ops r s K d (opS x (.buf k0 l.length)++opS y vy) ((k0,.buf (.bytes l)) :: bs) ([]) (k0) (.buf (.bytes u)) (.buf k0 u.length)):RK P ops (⟨some d,.call ⟨.builtin .append,#[x,y],#[t,t2]⟩,ty,pos,af,none⟩:: r) s K:=have ⟨ht,ht0⟩:=pq ht0;have ⟨he,ht0⟩:=pq ht0;have ⟨ht2,ht0⟩:=pq ht0;have ⟨hx,ht0⟩:=pq ht0;have ⟨hk,ht0⟩:=pq ht0;have ⟨hcw,ht0⟩:=pq ht0;have ⟨hz,ht0⟩:=pq ht0;have ⟨hy,ht0⟩:=pq ht0;have ⟨hp,ht0⟩:=pq ht0;have ⟨hb,hb1⟩:=pq ht0;RK.sb rfl (Go.Sw.apS T.ok h rfl rfl ht he ht2 hx hk hcw hz hy hp hb hb1) k
theorem RK.apM {t t2 e e2:TypeId} {ei:TI} {vy:AV} {bs:List (Nat×ABlk)} {b:Nat} {α:Type} (f:α->PV) {w k0:Nat} {l m u:List α} (h:zZ b l m=some u) (ht0:((T.te t).map (·.ty),T.te e,(T.te t2).map (·.ty),s.get T.te t x,s.blk k0,w,Nat.blt 0 w,ei.z.length,s.get T.te t2 y)=(some (.slice e),some ei,some (.slice e2),some (.buf k0 l.length),some (.buf (.sl w (l.map f))),ei.w,true,ei.w,some vy)) (hp:s.rd vy=some (.sl w (m.map f),bs)) (hone:∀ a,(f a).cells.all PV.one=true) (hb0:(ei.b,Nat.blt 0 b)=(b,true)) (k:BK P ops r s K d (opS x (.buf k0 l.length)++opS y vy) ((k0,.buf (.sl w (l.map f))) :: bs) ([]) (k0) (.buf (.sl w (u.map f))) (.buf k0 u.length)):RK P ops (⟨some d,.call ⟨.builtin .append,#[x,y],#[t,t2]⟩,ty,pos,af,none⟩:: r) s K:=have ⟨ht,ht0⟩:=pq ht0;have ⟨he,ht0⟩:=pq ht0;have ⟨ht2,ht0⟩:=pq ht0;have ⟨hx,ht0⟩:=pq ht0;have ⟨hk,ht0⟩:=pq ht0;have ⟨hcw,ht0⟩:=pq ht0;have ⟨hw0,ht0⟩:=pq ht0;have ⟨hz,hy⟩:=pq ht0;have ⟨hb,hb1⟩:=pq hb0;RK.sb rfl (Go.Sw.apM T.ok f h rfl rfl ht he ht2 hx hk hcw hw0 hz hy hp hone hb hb1) k
theorem RK.stb {src dst e:TypeId} {l:List UInt8} (hs0:((T.te src).map (·.ty),(T.te dst).map (·.ty),(T.te e).map (·.ty),s.get T.te src x)=(some .str,some (.slice e),some (.int .u8),some (.p (.str l)))) (hl:l.length<=140737488355328) (hk:s.blk d=none) (k:BK P ops r s K d (opS x (.p (.str l))) ([]) ([d]) (d) (.buf (.bytes l)) (.buf d l.length)):RK P ops (⟨some d,.convert src dst x,ty,pos,af,none⟩:: r) s K:=have ⟨hs,hs0⟩:=pq hs0;have ⟨ht,hs0⟩:=pq hs0;have ⟨he,hx⟩:=pq hs0;RK.sb rfl (Go.Sw.sa_stb T.ok rfl rfl hs ht he hx hl hk) k
theorem RK.bb {t e:TypeId} {k0:Nat} {l:List UInt8} (ht0:((T.te t).map (·.ty),(T.te e).map (·.ty),s.get T.te t x,s.blk k0)=(some (.slice e),some (.int .u8),some (.buf k0 l.length),some (.buf (.bytes l)))) (hl:l≠[])
  (k:RK P ops r (s.put d (.buf k0 l.length)) λs' ms=>K s' (⟨opS x (.buf k0 l.length),[(k0,.buf (.bytes l))],[],some (d,some (.buf k0 l.length)),[]⟩:: ms)):RK P ops (⟨some d,.convert t t x,ty,pos,af,none⟩:: r) s K:=have ⟨ht,ht0⟩:=pq ht0;have ⟨he,ht0⟩:=pq ht0;have ⟨hx,hk⟩:=pq ht0;RK.st rfl (Go.Sw.sa_bb T.ok rfl rfl ht he hx hk hl) k
theorem RK.cl {f:FuncId} {xs:Array Operand} {ts:Array TypeId} {xl:List Operand} {tl:List TypeId} {ps:List PV} {rs:List (Nat×AV)} {bb:List (Nat×ABlk)} {na:Nat} {av:AV} {blks:List (Nat×ABlk)} (h:Ok P f na (mkS (argE 0 ps) []) (mkS [(0,av)] blks)) (hxl0:(xs.toList,ts.toList)=(xl,tl)) (ha:Args s T.te xl tl ps rs bb) (hn0:(Nat.beq na ps.length,(kR (sh d) blks).all (λk=>(s.blk k).isNone))=(true,true))
  (k:RK P ops r (Mic.upd ⟨rs,bb,kR (sh d) blks,some (d,some (av.ren (sh d))),bR (sh d) blks⟩ s) λs' ms=>K s' (⟨rs,bb,kR (sh d) blks,some (d,some (av.ren (sh d))),bR (sh d) blks⟩:: ms)):RK P ops (⟨some d,.call ⟨.value (.func f),xs,ts⟩,ty,pos,af,none⟩:: r) s K:=have ⟨hxl,htl⟩:=pq hxl0;have ⟨hn,hf⟩:=pq hn0;
 by
 rw [eK,zAn] at k
 exact RK.st rfl (Go.Sw.cl T.ok h rfl rfl hxl htl ha hn (by rw [<- eK];exact hf)) k
theorem RK.cp {f:FuncId} {xs:Array Operand} {ts:Array TypeId} {xa:Operand} {ta:TypeId} {xl:List Operand} {tl:List TypeId} {ps cs:List PV} {l:List AV} {rs:List (Nat×AV)} {bb bs0:List (Nat×ABlk)} {na k0:Nat} {av:AV} {l':List AV} {blks:List (Nat×ABlk)} (h:Ok P f na (mkS ((0,.ptr 0 0) :: argE 1 ps) [(0,.var (cs.map .p))]) (mkS [(0,av)] ((0,.var l') :: blks))) (hxl0:(xs.toList,ts.toList,s.get T.te ta xa,s.blk k0,s.rdL l)=(xa :: xl,ta :: tl,some (.ptr k0 0),some (.var l),some (cs,bs0))) (ha:Args s T.te xl tl ps rs bb) (hn0:(Nat.beq na (ps.length+1),(kR (sh d) blks).all (λk=>(s.blk k).isNone),blks.all (λe=>!Nat.beq e.1 0))=(true,true,true))
  (k:RK P ops r (Mic.upd ⟨opS xa (.ptr k0 0)++rs,(k0,.var l) :: (bs0++bb),kR (sh d) blks,some (d,some (av.ren (shp d k0))),bR (shp d k0) ((0,.var l') :: blks)⟩ s) λs' ms=>K s' (⟨opS xa (.ptr k0 0)++rs,(k0,.var l) :: (bs0++bb),kR (sh d) blks,some (d,some (av.ren (shp d k0))),bR (shp d k0) ((0,.var l') :: blks)⟩:: ms)):RK P ops (⟨some d,.call ⟨.value (.func f),xs,ts⟩,ty,pos,af,none⟩:: r) s K:=have ⟨hxl,hxl0⟩:=pq hxl0;have ⟨htl,hxl0⟩:=pq hxl0;have ⟨hxa,hxl0⟩:=pq hxl0;have ⟨hbk,hcs⟩:=pq hxl0;have ⟨hn,hn0⟩:=pq hn0;have ⟨hf,hne⟩:=pq hn0;
 by
 rw [eK,zAn] at k
 exact RK.st rfl (Go.Sw.clp T.ok h rfl rfl hxl htl hxa hbk hcs ha hn (by rw [<- eK];exact hf) hne) k
end
end Go.Sw
namespace Go.Sw
open Go
def AS.unb (s:AS) (k:Nat):AS:={ s with blk:=yZ s.blk k }
theorem vW {B:Nat->Option ABlk} {k i:Nat} (h:i≠k):yZ B k i=B i:=by
 unfold yZ
 have:Nat.beq i k=false:=by rw [Bool.eq_false_iff];intro e;exact h (Nat.eq_of_beq_eq_true e)
 simp [this]
theorem iA {B:Nat->Option ABlk} {k:Nat}:yZ B k k=none:=by simp [yZ]
theorem RepA.unb {M:Mem} {κ:Nat->Option Nat} {tip:Nat->Value} {B:Nat->Option ABlk} {k:Nat} {v:AV} {x:Value} (hr:RepA M κ tip B v x):v.oks (yZ B k)=true->RepA M (kW κ k none) tip (yZ B k) v x:=by
 have hne:∀ i,(yZ B k i).isSome=true->i≠k:=by
  rintro i h rfl
  rw [iA] at h
  cases h
 induction hr with
 | p v x h1=>intro _;exact .p v x h1
 | nl c h1=>intro _;exact .nl c h1
 | ptr i o b l h1 h2=>intro h;simp only [AV.oks] at h;exact .ptr i o b l (by rw [zM (hne i h)];exact h1) (by rw [vW (hne i h)];exact h2)
 | ref i o n b l h1 h2=>intro h;simp only [AV.oks] at h;exact .ref i o n b l (by rw [zM (hne i h)];exact h1) (by rw [vW (hne i h)];exact h2)
 | buf i n c x h1 hs h2 h3 h4=>intro h;simp only [AV.oks] at h;exact .buf i n c x (by rw [vW (hne i h)];exact h1) hs h2 h3 h4
 | ag l vs h1 _ ih=>intro h;simp only [AV.oks] at h;exact .ag l vs h1 (λj q hq=>ih j q hq (xT l h j q hq))
 | tu l vs h1 _ ih=>intro h;simp only [AV.oks] at h;exact .tu l vs h1 (λj q hq=>ih j q hq (xT l h j q hq))
 | fnv f l vs h1 _ ih=>intro h;simp only [AV.oks] at h;exact .fnv f l vs h1 (λj q hq=>ih j q hq (xT l h j q hq))
 | own i n w l x h1 h2 h3 hs=>intro h;simp only [AV.oks] at h;exact .own i n w l x (by rw [vW (hne i h)];exact h1) h2 h3 hs
 | optr i n o w l x h1 h2 h3 hs=>intro h;simp only [AV.oks] at h;exact .optr i n o w l x (by rw [vW (hne i h)];exact h1) h2 (λe=>by rw [zM (hne i h)];exact h3 e) hs
theorem Imp.fixV {pk:List (Nat×Nat)} {s:AS} {t k:Nat} {l:List AV} {cs:List PV} {bs:List (Nat×ABlk)} {c:PV} (he:s.env t=some (.ptr k 0)) (hb:s.blk k=some (.var l)) (hrd:s.rdL l=some (cs,bs)) (hc:c.cells=cs)
  (hpk:∀ e∈pk,e.1≠k) (hE:∀ u v,u≠t->s.env u=some v->v.oks (yZ s.blk k)=true) (hV:∀ i li,i≠k->s.blk i=some (.var li)->tM (yZ s.blk k) li=true) (hW:∀ i w li,s.blk i=some (.own w li)->tM (yZ s.blk k) li=true):Imp pk s ((s.unb k).put t (.p (.cptr c))):=by
 intro cx a w hcx hs
 obtain ⟨M,κ,tip,h0,hp,hi⟩:=hs
 obtain ⟨b,arr,e,fz,q1,q2,q3,q4,q5,q6,q7⟩:=hi.vars k l hb
 obtain ⟨x,hx1,hx2⟩:=hi.env t _ he
 obtain ⟨r1,r2⟩:=lM hrd q5
 cases hx2 with
 | ptr _ _ b' l' g1 g2=>
 rw [q1] at g1
 cases g1
 have hbase:cx.w0.heap.size<=b:=by
  rcases q7 with q7 | q7
  ·exact q7
  ·simp only [Ctx.pb,List.mem_map] at q7
   obtain ⟨e',he',rfl⟩:=q7
   have h1:=(hp e' he').1
   have:=hi.inj _ _ _ h1 q1
   exact (hpk e' (hcx▸he') this).elim
 have hle:M.le (yJ M b 0 arr.size (arr[·]?)):=wH λo _ _=>q6 o
 have hother:∀ b' o,b'≠b->yJ M b 0 arr.size (arr[·]?) b' o=M b' o:=by
  intro b' o hne
  unfold yJ
  rw [if_neg (by intro h;exact hne h.1)]
 have hat:∀ j,j<arr.size->yJ M b 0 arr.size (arr[·]?) b j=arr[j]?:=by
  intro j hj
  unfold yJ
  rw [if_pos ⟨rfl,Nat.zero_le _,hj⟩]
 have hmap:∀ {v:AV} {x:Value},RepA M κ tip s.blk v x->v.oks (yZ s.blk k)=true->RepA (yJ M b 0 arr.size (arr[·]?)) (kW κ k none) tip (yZ s.blk k) v x:=
  λh ho=>(h.unb ho).mono hle
 have hcj:∀ (j:Nat) (q:PV),c.cells[j]? = some q->j<arr.size:=λj q hq=>by
  have:=(List.getElem?_eq_some_iff.1 hq).1
  rw [hc] at this
  omega
 refine ⟨yJ M b 0 arr.size (arr[·]?),kW κ k none,tip,h0.trans' hle,λe' he'=>?_,{
  defers:=hi.defers
  size:=hi.size
  fr:=hi.fr
  mem:=λb' o y h=>by
   unfold yJ at h
   split at h
   ·rename_i hc'
    obtain ⟨rfl,_,hlt⟩:=hc'
    simp only [World.cell?,q2]
    simpa using h
   ·exact hi.mem b' o y h
  env:=λu v h=>by
   simp only [AS.put,AS.unb] at h
   cases hbq:Nat.beq u t with
   | true=>
    have:=Nat.eq_of_beq_eq_true hbq
    subst this
    simp at h
    subst h
    refine ⟨_,hx1,.p _ _ (.cptr c b 0 (λj q hq=>?_) (λj q hq=>?_))⟩
    ·have:=hcj j q hq
     rw [Nat.zero_add,hat j this]
     simp [this]
    ·have hlt:=hcj j q hq
     rw [hc] at hq
     have:=(r2 j q hq).mono hle
     simp only [mget,Nat.zero_add,hat j hlt]
     simpa [Array.getD_eq_getD_getElem?] using this
   | false=>
    simp [hbq] at h
    have hne:u≠t:=by rintro rfl;simp at hbq
    obtain ⟨y,h1,h2⟩:=hi.env u v h
    exact ⟨y,h1,hmap h2 (hE u v hne h)⟩
  vars:=λi li h=>by
   have h':yZ s.blk k i=some (.var li):=h
   have hne:i≠k:=by rintro rfl;rw [iA] at h';cases h'
   rw [vW hne] at h'
   obtain ⟨b2,arr2,e2,fz2,z1,z2,z3,z4,z5,z6,z7⟩:=hi.vars i li h'
   have hnb:b2≠b:=λe=>hne (hi.inj i k b (e▸z1) q1)
   exact ⟨b2,arr2,e2,fz2,by rw [zM hne];exact z1,z2,z3,z4,λj q hq=>hmap (z5 j q hq) (xT li (hV i li hne h') j q hq),λo=>by rw [hother b2 o hnb];exact z6 o,z7⟩
  bufs:=λi ci h=>by
   have h':yZ s.blk k i=some (.buf ci):=h
   have hne:i≠k:=by rintro rfl;rw [iA] at h';cases h'
   rw [vW hne] at h'
   obtain ⟨z1,z2,z3,z4⟩:=hi.bufs i ci h'
   refine ⟨z1.mono hle,z2,z3,?_⟩
   rw [zM hne]
   rcases z4 with z4 | ⟨b2,n2,cap2,arr2,e2,fz2,y1,y2,y3,y4,y5,y6,y7,y8⟩
   ·exact .inl z4
   ·have hnb:b2≠b:=λe=>hne (hi.inj i k b (e▸y2) q1)
    exact .inr ⟨b2,n2,cap2,arr2,e2,fz2,y1,y2,y3,y4,y5,y6,y7,λj hj=>by rw [hother b2 j hnb];exact y8 j hj⟩
  inj:=λi i' b' h1 h2=>by
   have e1:i≠k:=by rintro rfl;rw [wP] at h1;cases h1
   have e2:i'≠k:=by rintro rfl;rw [wP] at h2;cases h2
   rw [zM e1] at h1
   rw [zM e2] at h2
   exact hi.inj i i' b' h1 h2
  dom:=λi h=>by
   have h':yZ s.blk k i=none:=h
   by_cases hne:i=k
   ·subst hne;exact wP _ _ _
   ·rw [vW hne] at h';rw [zM hne];exact hi.dom i h'
  glob:=hi.glob.mono hle
  old:=λb' o hb'=>by rw [hother b' o (by omega)];exact hi.old b' o hb'
  owns:=hi.owns.keep λi wd li h=>by
   have h':yZ s.blk k i=some (.own wd li):=h
   have hne:i≠k:=by rintro rfl;rw [iA] at h';cases h'
   rw [vW hne] at h'
   exact ⟨h',zM hne,rfl,λb2 z=>⟨rfl,λo hm=>by rw [hother b2 o (λe=>hne (hi.inj i k b (e▸z) q1))];exact hm⟩,λj q x hq hr=>hmap hr (xT li (hW i wd li h') j q hq)⟩}⟩
 have hne:e'.1≠k:=hpk e' (hcx▸he')
 rw [zM hne]
 exact hp e' he'
theorem Imp.pureT {pk:List (Nat×Nat)} {s:AS} {t:Nat} {l:List AV} (j:Nat) {v:AV} {p:PV} {bs:List (Nat×ABlk)} (he:s.env t=some (.tu l)) (hj:l[j]? = some v) (hr:s.rd v=some (p,bs)):Imp pk s (s.put t (.tu (l.set j (.p p)))):=by
 intro cx a w _ hs
 obtain ⟨M,κ,tip,h0,hp,hi⟩:=hs
 refine ⟨M,κ,tip,h0,hp,{ hi with env:=λu y e=>?_ }⟩
 simp only [AS.put] at e
 cases hb:Nat.beq u t with
 | true=>
  have:=Nat.eq_of_beq_eq_true hb
  subst this
  simp at e
  subst e
  obtain ⟨x,h1,h2⟩:=hi.env u _ he
  cases h2 with
  | tu _ vs g1 g2=>
  refine ⟨_,h1,.tu _ vs (by simpa using g1) (λi q hq=>?_)⟩
  rw [List.getElem?_set] at hq
  split at hq
  ·rename_i e
   subst e
   split at hq
   ·cases hq;exact .p _ _ (zBy (g2 j v hj) hr)
   ·cases hq
  ·exact g2 i q hq
 | false=>
  simp [hb] at e
  exact hi.env u y e
section
variable {P:Program} {cx:Ctx} {Q:Exit->AS->Prop} {s:AS}
theorem zK7 {c:Code} (h:awp P cx c Q s) (hq:∀ l s,¬ Q (.goto l) s):awp P cx (.scope c) Q s:=λa w hs=>wp_scope_straight (wp_mono (h a w hs) λe a' w' ⟨s',h1,h2⟩ =>by
 cases e with
 | goto l=>exact (hq l s' h2).elim
 | _=>exact ⟨s',h1,h2⟩)
theorem zKo {l:Nat} (h:Q .normal s):awp P cx (.label l) Q s:=λ_ _ hs=>wp_label ⟨s,hs,h⟩
end
end Go.Sw
namespace Go.Sw
open Go
theorem Imp.freezeC {pk:List (Nat×Nat)} {s:AS} {k2 j0 k n:Nat} {l2 l:List AV} {cs:List PV} {bs:List (Nat×ABlk)} {c:PV} {w0:Nat} (he:s.blk k2=some (.var l2)) (hj0:l2[j0]? = some (.ref k 0 n)) (hkk:k2≠k) (hb:s.blk k=some (.var l)) (hrd:s.rdL l=some (cs,bs)) (hc:Lit' w0 c cs) (hcn:c.len=n) (hw:0<w0) (hml:n<=maxLen)
  (hpk:∀ e∈pk,e.1≠k) (hE:∀ u v,s.env u=some v->v.oks (yZ s.blk k)=true) (hV:∀ i li,i≠k->i≠k2->s.blk i=some (.var li)->tM (yZ s.blk k) li=true) (hV2:tM (yZ s.blk k) (l2.set j0 (.p .nilp))=true) (hW:∀ i w li,s.blk i=some (.own w li)->tM (yZ s.blk k) li=true):Imp pk s ((s.setb k (.buf c)).setb k2 (.var (l2.set j0 (.buf k n)))):=by
 intro cx a w hcx hs
 obtain ⟨M,κ,tip,h0,hp,hi⟩:=hs
 obtain ⟨b,arr,e,fz,q1,q2,q3,q4,q5,q6,q7⟩:=hi.vars k l hb
 obtain ⟨bb,arrb,eb,fzb,p1,p2,p3,p4,p5,p6,p7⟩:=hi.vars k2 l2 he
 obtain ⟨r1,r2⟩:=lM hrd q5
 obtain ⟨c1,c2,c3,c4⟩:=hc.cells r2
 have hasz:arr.size=n*w0:=by rw [q4,<- r1,<- c4,hcn]
 have hx2:=p5 j0 _ hj0
 generalize hx:arrb.getD j0 undef=xx at hx2
 cases hx2 with
 | ref _ _ _ b' l' g1 g2=>
 rw [q1] at g1
 cases g1
 have hbase:cx.w0.heap.size<=b:=by
  rcases q7 with q7 | q7
  ·exact q7
  ·simp only [Ctx.pb,List.mem_map] at q7
   obtain ⟨e',he',rfl⟩:=q7
   have h1:=(hp e' he').1
   have:=hi.inj _ _ _ h1 q1
   exact (hpk e' (hcx▸he') this).elim
 have hle:M.le (yJ M b 0 (n*c.width) (arr[·]?)):=wH λo _ _=>q6 o
 have hrep:Rep (yJ M b 0 (n*c.width) (arr[·]?)) c (.slice (some ⟨b,0,none⟩) n n):=by
  have:=yX (M':=yJ M b 0 (n*c.width) (arr[·]?)) (b:=b) (o:=0) (cap:=n) c1 c2 hle ?_ (by omega)
  ·rwa [hcn] at this
  intro j hj
  rw [hcn] at hj
  simp only [yJ,Nat.zero_add]
  rw [if_pos ⟨trivial,Nat.zero_le _,hj⟩]
  rw [c3,<- hasz] at hj
  simp [hj]
 have hother:∀ b' o,b'≠b->yJ M b 0 (n*c.width) (arr[·]?) b' o=M b' o:=by
  intro b' o hne
  unfold yJ
  rw [if_neg (by intro h;exact hne h.1)]
 generalize hS:(s.setb k (.buf c)).setb k2 (.var (l2.set j0 (.buf k n)))=S
 have hSk:S.blk k=some (.buf c):=by rw [<- hS,zD (Ne.symm hkk)];exact zF _ _ _
 have hSk2:S.blk k2=some (.var (l2.set j0 (.buf k n))):=by rw [<- hS];exact zF _ _ _
 have hSo:∀ i,i≠k->i≠k2->S.blk i=s.blk i:=λi h1 h2=>by rw [<- hS,zD h2,zD h1]
 have hSe:S.env=s.env:=by rw [<- hS];rfl
 have hT:∀ i,i≠k->pK tip k (.slice (some ⟨b,0,none⟩) n n) i=tip i:=λi h=>yC h
 have hmap0:∀ {v:AV} {x:Value},RepA M κ tip s.blk v x->v.oks (yZ s.blk k)=true->RepA M κ (pK tip k (.slice (some ⟨b,0,none⟩) n n)) (s.setb k (.buf c)).blk v x:=
  λh ho=>h.frz (λi h=>zD h) hT ho
 have gle:GLe κ κ (pK tip k (.slice (some ⟨b,0,none⟩) n n)) (pK tip k (.slice (some ⟨b,0,none⟩) n n)) (s.setb k (.buf c)).blk S.blk:=by
  rw [<- hS]
  exact zJp (by rw [zD hkk];exact he)
 have hmap:∀ {v:AV} {x:Value},RepA M κ tip s.blk v x->v.oks (yZ s.blk k)=true->RepA (yJ M b 0 (n*c.width) (arr[·]?)) κ (pK tip k (.slice (some ⟨b,0,none⟩) n n)) S.blk v x:=
  λh ho=>((hmap0 h ho).ghost gle).mono hle
 refine ⟨yJ M b 0 (n*c.width) (arr[·]?),κ,pK tip k (.slice (some ⟨b,0,none⟩) n n),h0.trans' hle,hp,{
  defers:=hi.defers
  size:=hi.size
  fr:=hi.fr
  mem:=λb' o y h=>by
   unfold yJ at h
   split at h
   ·rename_i hc'
    obtain ⟨rfl,_,hlt⟩:=hc'
    simp only [World.cell?,q2]
    simpa using h
   ·exact hi.mem b' o y h
  env:=λu v h=>by
   rw [hSe] at h
   obtain ⟨y,h1,h2⟩:=hi.env u v h
   exact ⟨y,h1,hmap h2 (hE u v h)⟩
  vars:=λi li h=>by
   have hne:i≠k:=by rintro rfl;rw [hSk] at h;cases h
   by_cases h2:i=k2
   ·subst h2
    rw [hSk2] at h
    cases h
    refine ⟨bb,arrb,eb,fzb,p1,p2,p3,by simpa using p4,λj q hq=>?_,λo=>by rw [hother bb o (λe=>hne (hi.inj i k b (e▸p1) q1))];exact p6 o,p7⟩
    rw [List.getElem?_set] at hq
    split at hq
    ·rename_i e
     subst e
     split at hq
     ·cases hq
      rw [hx]
      refine .buf k n c _ hSk c2 (by omega) ?_ (λ_=>(zY _ _ _).symm)
      rw [<- hcn,vS c2,hcn]
      exact hrep
     ·cases hq
    ·rename_i hjn
     refine hmap (p5 j q hq) (xT _ hV2 j q ?_)
     rw [List.getElem?_set_ne hjn]
     exact hq
   ·rw [hSo i hne h2] at h
    obtain ⟨b2,arr2,e2,fz2,z1,z2,z3,z4,z5,z6,z7⟩:=hi.vars i li h
    have hnb:b2≠b:=λe=>hne (hi.inj i k b (e▸z1) q1)
    exact ⟨b2,arr2,e2,fz2,z1,z2,z3,z4,λj q hq=>hmap (z5 j q hq) (xT li (hV i li hne h2 h) j q hq),λo=>by rw [hother b2 o hnb];exact z6 o,z7⟩
  bufs:=λi ci h=>by
   by_cases hne:i=k
   ·subst hne
    rw [hSk] at h
    cases h
    rw [zY]
    refine ⟨hrep,c2,by omega,.inr ⟨b,n,n,arr,e,fz,rfl,q1,hbase,q2,q3,by rw [c3,hasz];exact Nat.le_refl _,hml,λj hj=>?_⟩⟩
    unfold yJ
    rw [if_neg (by omega)]
    exact q6 j
   ·have h2:i≠k2:=by rintro rfl;rw [hSk2] at h;cases h
    rw [hSo i hne h2] at h
    obtain ⟨z1,z2,z3,z4⟩:=hi.bufs i ci h
    rw [hT i hne]
    refine ⟨z1.mono hle,z2,z3,?_⟩
    rcases z4 with z4 | ⟨b2,n2,cap2,arr2,e2,fz2,y1,y2,y3,y4,y5,y6,y7,y8⟩
    ·exact .inl z4
    ·have hnb:b2≠b:=λe=>hne (hi.inj i k b (e▸y2) q1)
     exact .inr ⟨b2,n2,cap2,arr2,e2,fz2,y1,y2,y3,y4,y5,y6,y7,λj hj=>by rw [hother b2 j hnb];exact y8 j hj⟩
  inj:=hi.inj
  dom:=λi h=>by
   by_cases hne:i=k
   ·subst hne;rw [hSk] at h;cases h
   ·by_cases h2:i=k2
    ·subst h2;rw [hSk2] at h;cases h
    ·rw [hSo i hne h2] at h;exact hi.dom i h
  glob:=hi.glob.mono hle
  old:=λb' o hb'=>by rw [hother b' o (by omega)];exact hi.old b' o hb'
  owns:=hi.owns.keep λi wd li h=>by
   have hne:i≠k:=by rintro rfl;rw [hSk] at h;cases h
   have h2:i≠k2:=by rintro rfl;rw [hSk2] at h;cases h
   rw [hSo i hne h2] at h
   exact ⟨h,rfl,hT i hne,λb2 z=>⟨rfl,λo hm=>by rw [hother b2 o (λe=>hne (hi.inj i k b (e▸z) q1))];exact hm⟩,λj q x hq hr=>hmap hr (xT li (hW i wd li h) j q hq)⟩}⟩
end Go.Sw
namespace Go.Sw
open Go
section
variable {P:Program} {ops:Array Oper} {te:TE} {s s':AS} {ms:List Mic} {r:List Oper} {d:Nat} {ty:TypeId} {v:AV}
theorem sa_callf {o:Oper} {x:Operand} {tx:TypeId} {fs cs:List PV} {f:FuncId} {xs:Array Operand} {ts:Array TypeId} {xl:List Operand} {tl:List TypeId} {ps:List PV} {rs:List (Nat×AV)} {bb:List (Nat×ABlk)} {na:Nat} {av:AV} {blks:List (Nat×ABlk)} (hd:o.dst=some d) (ho:o.op=.call { callee:=.value x,args:=xs,argTypes:=ts }) (hx:s.get te tx x=some (.p (.fn f fs cs)))
  (hok:Ok P f na (mkS (argE 0 (fs++(ps++cs))) []) (mkS [(0,av)] blks)) (hxl:xs.toList=xl) (htl:ts.toList=tl) (ha:Args s te xl tl ps rs bb) (hn:na=(fs++(ps++cs)).length) (hf:∀ k∈(blks.map λe=>sh d e.1),s.blk k=none) :
  SA P o s ⟨opS x (.p (.fn f fs cs))++rs,bb,blks.map λe=>sh d e.1,some (d,some (av.ren (sh d))),blks.map λe=>(sh d e.1,e.2.ren (sh d))⟩:=by
 refine ⟨?_,zS (zB hx) ha.reads.1,ha.reads.2,hf⟩
 intro cx s' a w K Q hm hs hws hk
 obtain ⟨M,κ,tip,h0,hp,hi⟩:=hs
 obtain ⟨hl,hrep⟩:=ha.rep hi (zH hm.1) hm.2.1
 have hxr:=repA_pv (zI hi (zP hx s' (zL hm.1)))
 generalize hev:a.eval x=z at hxr
 cases hxr with
 | fn _ _ _ vf vc e1 e2 e3 e4=>
 have hmap:(xs.map a.eval).toList=xl.map a.eval:=by simp [hxl]
 have hsz:(vf++xs.map a.eval++vc).size=(fs++(ps++cs)).length:=by
  have:(xs.map a.eval).size=ps.length:=by rw [<- hl,<- Array.length_toList,hmap];simp
  simp only [Array.size_append,List.length_append,this,e1,e2];omega
 have hinv:=zGs (w:=w) (hi.globw hp) hi.mem hsz (λj p hj=>by
  have hxsz:(xs.map a.eval).size=ps.length:=by rw [<- hl,<- Array.length_toList,hmap];simp
  rw [Array.getD_eq_getD_getElem?]
  rw [List.getElem?_append] at hj
  rw [Array.append_assoc,Array.getElem?_append]
  split at hj
  ·rename_i h1
   rw [if_pos (by omega)]
   simpa [Array.getD_eq_getD_getElem?] using e3 j p hj
  ·rename_i h1
   rw [if_neg (by omega),Array.getElem?_append,hxsz]
   rw [List.getElem?_append] at hj
   split at hj
   ·rename_i h2
    rw [if_pos (by omega)]
    have:=hrep (j - fs.length) p hj
    rw [e1,<- Array.getElem?_toList,hmap]
    exact this
   ·rename_i h2
    rw [if_neg (by omega),e1]
    simpa [Array.getD_eq_getD_getElem?] using e4 _ p hj)
 have hrun:(execOp a.eval o).run P w=.ok (.enter f (vf++xs.map a.eval++vc)) w:=by
  obtain ⟨fn,h1,h2,h3⟩:=hok.1
  have h2':fn.body≠none:=by intro e;simp [e] at h2
  have h3':fn.name ≠ "runtime.NumGoroutine":=by intro e;simp [e] at h3
  simp [execOp,ho,resolve,hev,Deferred.ofValue,invoke,callFunc,h1,h2',h3']
 subst hn
 unfold Oper.wp
 rw [hrun]
 show Calls P f _ w _
 refine (hok.2 w M [] _ _ _ hinv (by simp)).mono ?_
 rintro e w' ⟨v,rfl,M',κ',tip',h0',hp',hr⟩
 show K (a.put o.dst v) w'
 rw [hd]
 refine hk _ _ ?_
 rw [cX]
 obtain ⟨i1,i2⟩:=hi.import h0' hr (sh d) (λj _ j' _ h=>zIt d h) (by simp) (λj hj=>.inr (by
  refine hm.2.2 (sh d j) ?_
  obtain ⟨e,he,rfl⟩:=List.mem_map.1 hj
  exact List.mem_map.2 ⟨e,he,rfl⟩))
 obtain ⟨x,hx,hrx⟩:=hr.env 0 av (by simp [mkS,lk])
 simp at hx
 subst hx
 refine ⟨M',_,_,h0.trans' h0',?_,i1.put (hws d (by simp [Mic.ws])) (i2 av v hrx)⟩
 intro k hk'
 obtain ⟨h1,h2⟩:=hp k hk'
 refine ⟨?_,h2⟩
 have:fk (sh d) (blks.map (·.1)) k.1=none:=by
  cases hfk:fk (sh d) (blks.map (·.1)) k.1 with
  | none=>rfl
  | some j=>
   obtain ⟨hj,he⟩:=sA hfk
   have:=hm.2.2 (sh d j) (by obtain ⟨e,he',rfl⟩:=List.mem_map.1 hj;exact List.mem_map.2 ⟨e,he',rfl⟩)
   rw [he,hi.dom _ this] at h1
   cases h1
 simp only [this]
 exact h1
theorem sa_callpf {o:Oper} {x:Operand} {tx:TypeId} {f:FuncId} {xs:Array Operand} {ts:Array TypeId} {xl:List Operand} {tl:List TypeId} {ps cs:List PV} {l:List AV} {rs:List (Nat×AV)} {bb bs0:List (Nat×ABlk)} {na k:Nat} {av:AV} {l':List AV} {blks:List (Nat×ABlk)} (hd:o.dst=some d)
  (ho:o.op=.call { callee:=.value x,args:=xs,argTypes:=ts }) (hxa:s.get te tx x=some (.fnv f [.ptr k 0])) (hok:Ok P f na (mkS ((0,.ptr 0 0) :: argE 1 ps) [(0,.var (cs.map .p))]) (mkS [(0,av)] ((0,.var l') :: blks))) (hxl:xs.toList=xl) (htl:ts.toList=tl) (hbk:s.blk k=some (.var l)) (hcs:s.rdL l=some (cs,bs0))
  (ha:Args s te xl tl ps rs bb) (hn:na=ps.length+1) (hf:∀ j∈(blks.map λe=>sh d e.1),s.blk j=none) (hne:∀ e∈blks,e.1≠0) :
  SA P o s ⟨opS x (.fnv f [.ptr k 0])++rs,(k,.var l) :: (bs0++bb),blks.map λe=>sh d e.1,some (d,some (av.ren (shp d k))),((0,.var l') :: blks).map λe=>(shp d k e.1,e.2.ren (shp d k))⟩:=by
 refine ⟨?_,zS (zB hxa) ha.reads.1,?_,hf⟩
 ·intro cx s' a w K Q hm hs hws hk
  obtain ⟨M,κ,tip,h0,hp,hi⟩:=hs
  have hb':∀ e∈bb,s'.blk e.1=some e.2:=λe he=>hm.2.1 e (by simp [he])
  have hbs':∀ e∈bs0,s'.blk e.1=some e.2:=λe he=>hm.2.1 e (by simp [he])
  have hbk':s'.blk k=some (.var l):=hm.2.1 (k,.var l) (by simp)
  obtain ⟨hl,hrep⟩:=ha.rep hi (zH hm.1) hb'
  have hxa':=zI hi (zP hxa s' (zL hm.1))
  obtain ⟨b,arr,e,fz,q1,q2,q3,q4,q5,q6,q7⟩:=hi.vars k l hbk'
  have hev:a.eval x=.func (.func f) #[.pointer (some ⟨b,0,none⟩)] #[]:=by
   generalize a.eval x=z at hxa'
   cases hxa' with
   | fnv _ _ vs g1 g2=>
    have g3:=g2 0 (.ptr k 0) rfl
    obtain ⟨y,hy⟩:∃ y,vs=#[y]:=by
     cases vs with
     | mk l=>
      match l with
      | [y]=>exact ⟨y,rfl⟩
      | []=>simp at g1
      | _ :: _ :: _=>simp at g1
    subst hy
    have g4:(#[y]:Array Value).getD 0 undef=y:=rfl
    rw [g4] at g3
    cases g3 with
    | ptr _ _ b' _ g5 g6=>rw [q1] at g5;cases g5;rfl
  obtain ⟨c1,c2⟩:=lM (kG l cs bs0 hcs hbs') q5
  have hmap:(#[Value.pointer (some ⟨b,0,none⟩)]++xs.map a.eval++#[]).toList=.pointer (some ⟨b,0,none⟩) :: xl.map a.eval:=by simp [hxl]
  have hsz:(#[Value.pointer (some ⟨b,0,none⟩)]++xs.map a.eval++#[]).size=ps.length+1:=by rw [<- hl,<- Array.length_toList,hmap];simp
  have hget0:(#[Value.pointer (some ⟨b,0,none⟩)]++xs.map a.eval++#[])[0]? = some (.pointer (some ⟨b,0,none⟩)):=by rw [<- Array.getElem?_toList,hmap];rfl
  have hinv:=zD6 (w:=w) (hi.globw hp) hi.mem hsz hget0 (λj p hj=>by
   have:=hrep j p hj
   rw [Array.getD_eq_getD_getElem?,<- Array.getElem?_toList,hmap]
   simpa using this) q2 q3 (by omega) c2 q6
  have hrun:(execOp a.eval o).run P w=.ok (.enter f (#[Value.pointer (some ⟨b,0,none⟩)]++xs.map a.eval++#[])) w:=by
   obtain ⟨fn,h1,h2,h3⟩:=hok.1
   have h2':fn.body≠none:=by intro e;simp [e] at h2
   have h3':fn.name ≠ "runtime.NumGoroutine":=by intro e;simp [e] at h3
   simp [execOp,ho,resolve,hev,Deferred.ofValue,invoke,callFunc,h1,h2',h3']
  subst hn
  unfold Oper.wp
  rw [hrun]
  show Calls P f _ w _
  refine (hok.2 w M [(0,b)] _ _ _ hinv (by intro k' hk';simp at hk';subst hk';exact ⟨by simp,hi.lt q1⟩)).mono ?_
  rintro e' w' ⟨v,rfl,M',κ',tip',h0',hp',hr⟩
  show K (a.put o.dst v) w'
  rw [hd]
  refine hk _ _ ?_
  rw [cX]
  have hfresh:∀ j∈blks.map (·.1),s'.blk (sh d j)=none:=λj hj=>by
   refine hm.2.2 (sh d j) ?_
   obtain ⟨e,he,rfl⟩:=List.mem_map.1 hj
   exact List.mem_map.2 ⟨e,he,rfl⟩
  have hD:∀ j∈((0,ABlk.var l') :: blks).map (·.1),j≠0->sh d j≠k:=by
   intro j hj hj0 hk'
   simp only [List.map_cons,List.mem_cons] at hj
   rcases hj with hj | hj
   ·exact hj0 hj
   ·have:=hfresh j hj
    rw [hk',hbk'] at this
    cases this
  obtain ⟨i1,i2⟩:=hi.import h0' hr (shp d k) (λj hj j' hj' h=>zI3 d k hD hj hj' h)
   (by
    intro e' he'
    simp at he'
    subst he'
    exact ⟨(hp' (0,b) (by simp)).1,by simpa [shp] using q1,⟨l,by simpa [shp] using hbk'⟩,l',by simp [lk]⟩)
   (λj hj=>by
    simp only [List.map_cons,List.mem_cons] at hj
    by_cases hj0:j=0
    ·exact .inl ⟨b,by simp [hj0]⟩
    ·refine .inr ?_
     have hb0:Nat.beq j 0=false:=by rw [Bool.eq_false_iff];intro e;exact hj0 (Nat.eq_of_beq_eq_true e)
     simp only [shp,hb0,cond_false]
     exact hfresh j (hj.resolve_left hj0))
  obtain ⟨x,hx,hrx⟩:=hr.env 0 av (by simp [mkS,lk])
  simp at hx
  subst hx
  refine ⟨M',_,_,h0.trans' h0',?_,i1.put (hws d (by simp [Mic.ws])) (i2 av v hrx)⟩
  intro k' hk'
  obtain ⟨h1,h2⟩:=hp k' hk'
  refine ⟨?_,h2⟩
  cases hfk:fk (shp d k) (((0,ABlk.var l') :: blks).map (·.1)) k'.1 with
  | none=>exact h1
  | some j=>
   obtain ⟨hj,he⟩:=sA hfk
   simp only
   by_cases hj0:j=0
   ·subst hj0
    simp only [shp] at he
    rw [he] at h1
    simp at h1
    rw [q1] at h1
    cases h1
    exact (hp' (0,k'.2) (by simp)).1
   ·have hb0:Nat.beq j 0=false:=by rw [Bool.eq_false_iff];intro e;exact hj0 (Nat.eq_of_beq_eq_true e)
    simp only [shp,hb0,cond_false] at he
    simp only [List.map_cons,List.mem_cons] at hj
    have:=hfresh j (hj.resolve_left hj0)
    rw [he,hi.dom _ this] at h1
    cases h1
 ·intro e he
  simp only [List.mem_cons,List.mem_append] at he
  rcases he with he | he | he
  ·subst he;exact hbk
  ·exact jF l cs bs0 hcs e he
  ·exact ha.reads.2 e he
theorem va_mkf {o:Oper} {f:FuncId} {xs ys:Array Operand} {xl yl:List Operand} {tl tl':List TypeId} {ps qs:List PV} {rs rs':List (Nat×AV)} {bb bb':List (Nat×ABlk)} (ho:o.op=.makeFunc (.func f) xs ys) (hxl:xs.toList=xl) (hyl:ys.toList=yl) (ha:Args s te xl tl ps rs bb) (hb:Args s te yl tl' qs rs' bb'):VA P o s (rs++rs') (bb++bb') (.p (.fn f ps qs)):=by
 refine ⟨?_,zS ha.reads.1 hb.reads.1,λe he=>(List.mem_append.1 he).elim (ha.reads.2 e) (hb.reads.2 e)⟩
 intro cx M κ tip s' a w hi hr hbb
 obtain ⟨h1,h2⟩:=ha.rep hi (zL hr) (λe he=>hbb e (List.mem_append.2 (.inl he)))
 obtain ⟨h3,h4⟩:=hb.rep hi (zH hr) (λe he=>hbb e (List.mem_append.2 (.inr he)))
 refine ⟨.func (.func f) (xs.map a.eval) (ys.map a.eval),by simp [execOp,ho,Instr.makeFunc],.p _ _ (.fn f ps qs _ _ (by rw [<- h1,<- hxl];simp) (by rw [<- h3,<- hyl];simp) (λj q hq=>?_) (λj q hq=>?_))⟩
 ·have:=h2 j q hq
  rw [<- hxl] at this
  rw [Array.getD_eq_getD_getElem?]
  simpa using this
 ·have:=h4 j q hq
  rw [<- hyl] at this
  rw [Array.getD_eq_getD_getElem?]
  simpa using this
theorem va_mkfA {o:Oper} {x:Operand} {tx:TypeId} {f:FuncId} (ho:o.op=.makeFunc (.func f) #[x] #[]) (hx:s.get te tx x=some v):VA P o s (opS x v) [] (.fnv f [v]):=by
 refine ⟨?_,zB hx,by simp⟩
 intro cx M κ tip s' a w hi hr _
 have h1:=zI hi (zP hx s' hr)
 refine ⟨.func (.func f) #[a.eval x] #[],by simp [execOp,ho,Instr.makeFunc],.fnv f _ _ rfl (λj q hq=>?_)⟩
 cases j with
 | zero=>simp at hq;subst hq;exact h1
 | succ j=>simp at hq
end
end Go.Sw
namespace Go.Sw
open Go
def gE (s:AS):List (Nat×AV)->List (Option AV)
 | []=>[]
 | (t,_) :: r=>s.env t :: gE s r
def vE (ρ:AV->AV):List (Nat×AV)->List (Option AV)
 | []=>[]
 | (_,v) :: r=>some (ρ v) :: vE ρ r
def gB (s:AS) (ρ:Nat->Nat):List (Nat×ABlk)->List (Option ABlk)
 | []=>[]
 | (t,_) :: r=>s.blk (ρ t) :: gB s ρ r
def vB (ρ:ABlk->ABlk):List (Nat×ABlk)->List (Option ABlk)
 | []=>[]
 | (_,v) :: r=>some (ρ v) :: vB ρ r
def rE (ρ:Nat->Nat):List (Nat×AV)->List (Nat×AV)
 | []=>[]
 | (t,v) :: r=>(t,v.ren ρ) :: rE ρ r
theorem zIv (s:AS):∀ l,gE s l=l.map λe=>s.env e.1
 | []=>rfl
 | (_,_) :: r=>by simp [gE,zIv s r]
theorem zJd (ρ:AV->AV):∀ l,vE ρ l=l.map λe=>some (ρ e.2)
 | []=>rfl
 | (_,_) :: r=>by simp [vE,zJd ρ r]
theorem zI5 (s:AS) (ρ:Nat->Nat):∀ l,gB s ρ l=l.map λe=>s.blk (ρ e.1)
 | []=>rfl
 | (_,_) :: r=>by simp [gB,zI5 s ρ r]
theorem zJh (ρ:ABlk->ABlk):∀ l,vB ρ l=l.map λe=>some (ρ e.2)
 | []=>rfl
 | (_,_) :: r=>by simp [vB,zJh ρ r]
theorem zNa (ρ:Nat->Nat):∀ l,rE ρ l=l.map λe=>(e.1,e.2.ren ρ)
 | []=>rfl
 | (_,_) :: r=>by simp [rE,zNa ρ r]
def swp:List (Nat×Nat)->List (Nat×Nat)
 | []=>[]
 | (a,b) :: r=>(b,a) :: swp r
theorem zJu {s:AS}:∀ (env:List (Nat×AV)),env.map (λe=>s.env e.1)=env.map (λe=>some e.2)->zHr s env
 | [],_=>trivial
 | (t,v) :: r,h=>by
  simp only [List.map_cons,List.cons.injEq] at h
  exact ⟨h.1,zJu r h.2⟩
theorem zJf {s:AS}:∀ (blk:List (Nat×ABlk)),blk.map (λe=>s.blk e.1)=blk.map (λe=>some e.2)->zIo s blk
 | [],_=>trivial
 | (t,v) :: r,h=>by
  simp only [List.map_cons,List.cons.injEq] at h
  exact ⟨h.1,zJf r h.2⟩
theorem lp {cx:Ctx} {s:AS} {ks:List Nat} (hpk:PK cx ks) {env:List (Nat×AV)} {blk:List (Nat×ABlk)} (he:gE s env=vE id env) (hb:gB s id blk=vB id blk) (h1:(jW (lk blk) env&&ks.all (λk=>(lk blk k).isSome))=true) (h2:uW (lk blk) blk=true):Imp cx.pk s (mkS env blk):=by
 simp only [Bool.and_eq_true] at h1
 rw [zIv,zJd] at he
 rw [zI5,zJh] at hb
 exact Imp.lep (Lep.mk' hpk (zJu env he) (zJf blk hb) h1.1 h2 h1.2)
theorem cbv {B:Nat->Option ABlk} {k:Nat} {l:List AV} {r:List (Nat×ABlk)} (h:tM B l=true) (k':uW B r=true):uW B ((k,.var l) :: r)=true:=by simp [uW,h,k']
theorem cbb {B:Nat->Option ABlk} {k:Nat} {c:PV} {r:List (Nat×ABlk)} (k':uW B r=true):uW B ((k,.buf c) :: r)=true:=by simp [uW,k']
theorem om {B:Nat->Option ABlk} {α:Type} {f:α->PV} {l:List α}:tM B (l.map λx=>AV.p (f x))=true:=dC f l
theorem lr {cx:Ctx} {s:AS} {ks:List Nat} (hpk:PK cx ks) (m:List (Nat×Nat)) {env:List (Nat×AV)} {blk:List (Nat×ABlk)}
  (he:gE s env=vE (AV.ren (rho m)) env) (hb:gB s (rho m) blk=vB (ABlk.ren (rho m)) blk)
  (h1:(jW (lk (bR (rho m) blk)) (rE (rho m) env)&&(ks.all (λk=>(lk (bR (rho m) blk) k).isSome) &&
   (((kR (rho m) blk).all λj=>(kR (rho m) blk).all λj'=>!Nat.beq (rho (swp m) j) (rho (swp m) j')||Nat.beq j j')&&ks.all λk=>Nat.beq (rho (swp m) k) k)))=true)
  (h2:uW (lk (bR (rho m) blk)) (bR (rho m) blk)=true)
  (h3:rE (rho (swp m)) (rE (rho m) env)=env) (h4:bR (rho (swp m)) (bR (rho m) blk)=blk):Imp cx.pk s (mkS env blk):=by
 simp only [Bool.and_eq_true] at h1
 obtain ⟨g1,g2,g3,g4⟩:=h1
 rw [zIv,zJd] at he
 rw [zI5,zJh] at hb
 have a1:=lp hpk (s:=s) (env:=rE (rho m) env) (blk:=bR (rho m) blk) (by rw [zIv,zJd,zNa];simpa using he) (by rw [zI5,zJh,zAn];simpa using hb) (by simp only [Bool.and_eq_true];exact ⟨g1,g2⟩) h2
 refine a1.trans ?_
 rw [eK] at g3
 have a2:=Imp.renK hpk (swp m) (env:=rE (rho m) env) (blks:=bR (rho m) blk) (by rw [zAn];simpa using g3) (by
  rw [List.all_eq_true] at g4 g2 ⊢
  intro k hk
  simp only [Bool.and_eq_true,List.any_eq_true]
  refine ⟨g4 k hk,k,?_,by simp⟩
  obtain ⟨b,hb'⟩:=Option.isSome_iff_exists.1 (g2 k hk)
  exact List.mem_map.2 ⟨_,vM _ _ _ hb',rfl⟩)
 rw [<- zNa,<- zAn,h3,h4] at a2
 exact a2
theorem qW {s:AS} {α:Type} {f:α->PV}:∀ {l:List α},s.rdL (l.map λx=>AV.p (f x))=some (l.map f,[])
 | []=>by simp [AS.rdL]
 | x :: r=>by simp [AS.rdL,AS.rd,qW (l:=r)]
theorem zHk {α:Type} {f:α->PV} (hf:∀ a,(f a).cells=[f a]):∀ (l:List α),yO (l.map f)=l.map f
 | []=>rfl
 | x :: r=>by simp [yO,hf,zHk hf r]
theorem zB4 (l:List UInt8):Lit' 1 (.bytes l) (l.map λx=>PV.int .u8 x.toNat):=.bytes l rfl
theorem zD8 {α:Type} {f:α->PV} (hf:∀ a,(f a).cells=[f a]) (l:List α):Lit' 1 (.sl 1 (l.map f)) (l.map f):=by
 have:=zTn (w:=1) (f:=f) l (λa=>by rw [hf a];rfl)
 rwa [zHk hf] at this
def uL (B:Nat->Option ABlk) (k:Nat):List (Nat×ABlk)->Bool
 | []=>true
 | (i,.var l) :: r=>(Nat.beq i k||tM B l)&&uL B k r
 | (_,.buf _) :: r=>uL B k r
 | (_,.own _ l) :: r=>tM B l&&uL B k r
theorem cxv {B:Nat->Option ABlk} {k i:Nat} {l:List AV} {r:List (Nat×ABlk)} (h:tM B l=true) (k':uL B k r=true):uL B k ((i,.var l) :: r)=true:=by simp [uL,h,k']
theorem cxk {B:Nat->Option ABlk} {k:Nat} {l:List AV} {r:List (Nat×ABlk)} (k':uL B k r=true):uL B k ((k,.var l) :: r)=true:=by simp [uL,k']
theorem cxb {B:Nat->Option ABlk} {k i:Nat} {c:PV} {r:List (Nat×ABlk)} (k':uL B k r=true):uL B k ((i,.buf c) :: r)=true:=by simp [uL,k']
theorem uL.mem {B:Nat->Option ABlk} {k:Nat}:∀ {l:List (Nat×ABlk)},uL B k l=true->∀ {t v},t≠k->(t,.var v)∈l->tM B v=true
 | (i,.var u) :: _,h,t,v,hne,hm=>by
  simp only [uL,Bool.and_eq_true,Bool.or_eq_true] at h
  rcases List.mem_cons.1 hm with e | hm
  ·cases e
   rcases h.1 with h1 | h1
   ·exact (hne (Nat.eq_of_beq_eq_true h1)).elim
   ·exact h1
  ·exact uL.mem h.2 hne hm
 | (i,.buf u) :: _,h,t,v,hne,hm=>by
  simp only [uL] at h
  rcases List.mem_cons.1 hm with e | hm
  ·cases e
  ·exact uL.mem h hne hm
 | (i,.own w u) :: _,h,t,v,hne,hm=>by
  simp only [uL,Bool.and_eq_true] at h
  rcases List.mem_cons.1 hm with e | hm
  ·cases e
  ·exact uL.mem h.2 hne hm
theorem uL.memO {B:Nat->Option ABlk} {k:Nat}:∀ {l:List (Nat×ABlk)},uL B k l=true->∀ {t w v},(t,.own w v)∈l->tM B v=true
 | (i,.var u) :: _,h,t,w,v,hm=>by
  simp only [uL,Bool.and_eq_true] at h
  rcases List.mem_cons.1 hm with e | hm
  ·cases e
  ·exact uL.memO h.2 hm
 | (i,.buf u) :: _,h,t,w,v,hm=>by
  simp only [uL] at h
  rcases List.mem_cons.1 hm with e | hm
  ·cases e
  ·exact uL.memO h hm
 | (i,.own w0 u) :: _,h,t,w,v,hm=>by
  simp only [uL,Bool.and_eq_true] at h
  rcases List.mem_cons.1 hm with e | hm
  ·cases e;exact h.1
  ·exact uL.memO h.2 hm
theorem cbo {B:Nat->Option ABlk} {i w:Nat} {l:List AV} {r:List (Nat×ABlk)} (h:tM B l=true) (k':uW B r=true):uW B ((i,.own w l) :: r)=true:=by simp [uW,h,k']
def zC3 (B:Nat->Option ABlk) (t:Nat):List (Nat×AV)->Bool
 | []=>true
 | (u,v) :: r=>(Nat.beq u t||v.oks B)&&zC3 B t r
theorem zC3.mem {B:Nat->Option ABlk} {t:Nat}:∀ {l:List (Nat×AV)},zC3 B t l=true->∀ {u v},u≠t->(u,v)∈l->v.oks B=true
 | (i,x) :: _,h,u,v,hne,hm=>by
  simp only [zC3,Bool.and_eq_true,Bool.or_eq_true] at h
  rcases List.mem_cons.1 hm with e | hm
  ·cases e
   rcases h.1 with h1 | h1
   ·exact (hne (Nat.eq_of_beq_eq_true h1)).elim
   ·exact h1
  ·exact zC3.mem h.2 hne hm
section
variable {cx:Ctx} {ks:List Nat} {env:List (Nat×AV)} {blk:List (Nat×ABlk)}
theorem fzE (hpk:PK cx ks) (t:Nat) {k n:Nat} {l:List AV} {cs:List PV} {bs:List (Nat×ABlk)} {c:PV} {w0:Nat} (he:lk env t=some (.ref k 0 n)) (hb:lk blk k=some (.var l)) (hrd:(mkS env blk).rdL l=some (cs,bs)) (hc:Lit' w0 c cs) (hcn:c.len=n) (hw:Nat.blt 0 w0=true) (hml:n<=140737488355328)
  (h1:(ks.all (λj=>!Nat.beq j k)&&zC3 (yZ (lk blk) k) t env)=true) (h2:uL (yZ (lk blk) k) k blk=true):Imp cx.pk (mkS env blk) (((mkS env blk).setb k (.buf c)).put t (.buf k n)):=by
 simp only [Bool.and_eq_true] at h1
 refine Imp.freeze (w0:=w0) he hb hrd hc hcn (by have:=Nat.le_of_ble_eq_true hw;omega) (by simp only [maxLen];omega) (λe he' hk=>?_) (λu v hu h=>zC3.mem h1.2 hu (vM env u v h)) (λi li hi h=>uL.mem h2 hi (vM blk i _ h)) (λi w li h=>uL.memO h2 (vM blk i _ h))
 have:=(List.all_eq_true.1 h1.1) e.1 (hpk e he')
 simp [hk] at this
theorem fzC (hpk:PK cx ks) (k2 j0:Nat) {k n:Nat} {l2 l:List AV} {cs:List PV} {bs:List (Nat×ABlk)} {c:PV} {w0:Nat} (he:lk blk k2=some (.var l2)) (hj0:l2[j0]? = some (.ref k 0 n)) (hb:lk blk k=some (.var l)) (hrd:(mkS env blk).rdL l=some (cs,bs)) (hc:Lit' w0 c cs) (hcn:c.len=n) (hw:Nat.blt 0 w0=true) (hml:n<=140737488355328)
  (h1:(ks.all (λj=>!Nat.beq j k)&&(!Nat.beq k2 k&&(jW (yZ (lk blk) k) env&&tM (yZ (lk blk) k) (l2.set j0 (.p .nilp)))))=true) (h2:uL (yZ (lk blk) k) k (blk.filter λe=>!Nat.beq e.1 k2)=true):Imp cx.pk (mkS env blk) (((mkS env blk).setb k (.buf c)).setb k2 (.var (l2.set j0 (.buf k n)))):=by
 simp only [Bool.and_eq_true] at h1
 refine Imp.freezeC (w0:=w0) he hj0 (λe=>by have:=h1.2.1;simp [e] at this) hb hrd hc hcn (by have:=Nat.le_of_ble_eq_true hw;omega) (by simp only [maxLen];omega) (λe he' hk=>?_) (λu v h=>jW.mem h1.2.2.1 (vM env u v h)) (λi li hi hi2 h=>uL.mem h2 hi (List.mem_filter.2 ⟨vM blk i _ h,?_⟩)) h1.2.2.2 (λi w li h=>uL.memO h2 (List.mem_filter.2 ⟨vM blk i _ h,?_⟩))
 ·have:=(List.all_eq_true.1 h1.1) e.1 (hpk e he')
  simp [hk] at this
 ·have:Nat.beq i k2=false:=by rw [Bool.eq_false_iff];intro e;exact hi2 (Nat.eq_of_beq_eq_true e)
  simp [this]
 ·have hne:i≠k2:=by rintro rfl;have h':lk blk i=some (.own w li):=h;rw [he] at h';cases h'
  have:Nat.beq i k2=false:=by rw [Bool.eq_false_iff];intro e;exact hne (Nat.eq_of_beq_eq_true e)
  simp [this]
theorem zRk (hpk:PK cx ks) (t:Nat) (u:List UInt8) {k n:Nat} {l:List AV} {cs:List PV} {bs:List (Nat×ABlk)} (hcn:u.length=n) (he:lk env t=some (.ref k 0 n)) (hb:lk blk k=some (.var l)) (hrd:(mkS env blk).rdL l=some (cs,bs)) (hc:Lit' 1 (.bytes u) cs) (hml:n<=140737488355328)
  (h1:(ks.all (λj=>!Nat.beq j k)&&zC3 (yZ (lk blk) k) t env)=true) (h2:uL (yZ (lk blk) k) k blk=true):Imp cx.pk (mkS env blk) (((mkS env blk).setb k (.buf (.bytes u))).put t (.buf k u.length)):=by
 subst hcn
 exact fzE hpk t he hb hrd hc rfl rfl hml h1 h2
theorem fzEM (hpk:PK cx ks) (t:Nat) {α:Type} (f:α->PV) (u:List α) {k n:Nat} {l:List AV} {cs:List PV} {bs:List (Nat×ABlk)} (hcn:u.length=n) (he:lk env t=some (.ref k 0 n)) (hb:lk blk k=some (.var l)) (hrd:(mkS env blk).rdL l=some (cs,bs)) (hc:Lit' 1 (.sl 1 (u.map f)) cs) (hml:n<=140737488355328)
  (h1:(ks.all (λj=>!Nat.beq j k)&&zC3 (yZ (lk blk) k) t env)=true) (h2:uL (yZ (lk blk) k) k blk=true):Imp cx.pk (mkS env blk) (((mkS env blk).setb k (.buf (.sl 1 (u.map f)))).put t (.buf k u.length)):=by
 subst hcn
 exact fzE hpk t he hb hrd hc (by simp [PV.len]) rfl hml h1 h2
theorem fzCB (hpk:PK cx ks) (k2 j0:Nat) (u:List UInt8) {k n:Nat} {l2 l:List AV} {cs:List PV} {bs:List (Nat×ABlk)} (hcn:u.length=n) (he:lk blk k2=some (.var l2)) (hj0:l2[j0]? = some (.ref k 0 n)) (hb:lk blk k=some (.var l)) (hrd:(mkS env blk).rdL l=some (cs,bs)) (hc:Lit' 1 (.bytes u) cs) (hml:n<=140737488355328)
  (h1:(ks.all (λj=>!Nat.beq j k)&&(!Nat.beq k2 k&&(jW (yZ (lk blk) k) env&&tM (yZ (lk blk) k) (l2.set j0 (.p .nilp)))))=true) (h2:uL (yZ (lk blk) k) k (blk.filter λe=>!Nat.beq e.1 k2)=true):Imp cx.pk (mkS env blk) (((mkS env blk).setb k (.buf (.bytes u))).setb k2 (.var (l2.set j0 (.buf k u.length)))):=by
 subst hcn
 exact fzC hpk k2 j0 he hj0 hb hrd hc rfl rfl hml h1 h2
theorem fzCM (hpk:PK cx ks) (k2 j0:Nat) {α:Type} (f:α->PV) (u:List α) {k n:Nat} {l2 l:List AV} {cs:List PV} {bs:List (Nat×ABlk)} (hcn:u.length=n) (he:lk blk k2=some (.var l2)) (hj0:l2[j0]? = some (.ref k 0 n)) (hb:lk blk k=some (.var l)) (hrd:(mkS env blk).rdL l=some (cs,bs)) (hc:Lit' 1 (.sl 1 (u.map f)) cs) (hml:n<=140737488355328)
  (h1:(ks.all (λj=>!Nat.beq j k)&&(!Nat.beq k2 k&&(jW (yZ (lk blk) k) env&&tM (yZ (lk blk) k) (l2.set j0 (.p .nilp)))))=true) (h2:uL (yZ (lk blk) k) k (blk.filter λe=>!Nat.beq e.1 k2)=true):Imp cx.pk (mkS env blk) (((mkS env blk).setb k (.buf (.sl 1 (u.map f)))).setb k2 (.var (l2.set j0 (.buf k u.length)))):=by
 subst hcn
 exact fzC hpk k2 j0 he hj0 hb hrd hc (by simp [PV.len]) rfl hml h1 h2
theorem fxV (hpk:PK cx ks) (t:Nat) {k:Nat} {l:List AV} {cs:List PV} {bs:List (Nat×ABlk)} (c:PV) (he:lk env t=some (.ptr k 0)) (hb:lk blk k=some (.var l)) (hrd:(mkS env blk).rdL l=some (cs,bs)) (hc:c.cells=cs)
  (h1:(ks.all (λj=>!Nat.beq j k)&&zC3 (yZ (lk blk) k) t env)=true) (h2:uL (yZ (lk blk) k) k blk=true):Imp cx.pk (mkS env blk) (((mkS env blk).unb k).put t (.p (.cptr c))):=by
 simp only [Bool.and_eq_true] at h1
 refine Imp.fixV he hb hrd hc (λe he' hk=>?_) (λu v hu h=>zC3.mem h1.2 hu (vM env u v h)) (λi li hi h=>uL.mem h2 hi (vM blk i _ h)) (λi w li h=>uL.memO h2 (vM blk i _ h))
 have:=(List.all_eq_true.1 h1.1) e.1 (hpk e he')
 simp [hk] at this
end
section
variable {P:Program} {te:TE} {s:AS} {o:Oper} {v:AV} {x y:Operand} {d:Nat}
theorem va_cat {tx tyy:TypeId} {a b:List UInt8} (h:Nat.ble (a.length+b.length) 140737488355328=true) (ho:o.op=.binOp .add tx x y tyy) (hx:s.get te tx x=some (.p (.str a))) (hy:s.get te tyy y=some (.p (.str b))) :
  VA P o s (opS x (.p (.str a))++opS y (.p (.str b))) [] (.p (.str (a++b))):=by
 refine ⟨?_,zS (zB hx) (zB hy),by simp⟩
 intro cx M κ tip s' ac w hi hr _
 have h1:=oR (repA_pv (zI hi (zP hx s' (zL hr))))
 have h2:=oR (repA_pv (zI hi (zP hy s' (zH hr))))
 refine ⟨.string ⟨(a++b).toArray⟩,?_,.p _ _ (.str _)⟩
 have h3:=zJ h
 have h4:¬ ((9223372036854775807:Int)<((a.length:Int)+(b.length:Int))):=by omega
 simp [execOp,ho,h1,h2,eqGuard,binOp,Op.stringOp,fS,h4]
 apply ByteArray.ext
 simp [ByteArray.data_append]
theorem va_sliceC (hok:zX P te) {t e:TypeId} {n:Nat} {l:List PV} {w1:PV} (ho:o.op=.slice t x none none none) (ht:(te t).map (·.ty)=some (.arr n e)) (he:(te e).map (·.w)=some 1) (hx:s.get te t x=some (.p (.cptr (.agg l)))) (hn:l.length=n) (hn0:0<n) (hl:Lit' 1 w1 l) (hwl:w1.len=n):VA P o s (opS x (.p (.cptr (.agg l)))) [] (.p w1):=by
 refine ⟨?_,zB hx,by simp⟩
 intro cx M κ tip s' a w hi hr _
 have h1:=repA_pv (zI hi (zP hx s' hr))
 generalize hev:a.eval x=z at h1
 cases h1 with
 | cptr _ b off g1 g2=>
 obtain ⟨c1,c2,c3,c4⟩:=hl.cells (M:=M) (f:=λj=>mget M b (off+j)) (λj q hq=>g2 j q hq)
 obtain ⟨ei,he1,he2⟩:=Option.map_eq_some_iff.1 he
 have hu:=fQ hok ht
 refine ⟨.slice (some ⟨b,off,none⟩) n n,?_,.p _ _ ?_⟩
 ·have hn':¬ n=0:=by omega
  simp [execOp,ho,hev,Instr.sliceAt,Instr.sureAddr,Instr.sliceBounds,run_underlying hu,vL hok he1,Addr.add]
 ·have:=yX (M:=M) (M':=M) (b:=b) (o:=off) (cap:=n) c1 c2 (Mem.le_refl M) (λj hj=>?_) (by omega)
  ·rwa [hwl] at this
  ·rw [c3,Nat.mul_one,hwl,<- hn] at hj
   have:=g1 j l[j] (by simp [PV.cells,hj])
   obtain ⟨u,hu'⟩:=Option.isSome_iff_exists.1 this
   simp [mget,hu']
end
end Go.Sw
namespace Go.Sw
open Go
section
variable {P:Program} {te:TE} {s:AS} {o:Oper} {v:AV} {x y:Operand} {d:Nat}
theorem zOi {cx:Ctx} {M:Mem} {κ:Nat->Option Nat} {tip:Nat->Value} {s':AS} {a:Act} {w:World} (hi:Inv cx M κ tip s' a w) {t':TypeId} {k2 n:Nat} {l2:List AV} {cs:List PV} {bs:List (Nat×ABlk)} {c p rr:PV} {ww:Nat} (hy:s'.get te t' y=some (.ref k2 0 n)) (hk2:s'.blk k2=some (.var l2)) (hp:s'.rdL l2=some (cs,bs)) (hlit:Lit' ww p cs) (hpn:p.len=n) (happ:c.app p=some rr) (hcw:c.width=ww) (hw0:0<ww) :
  ∃ news g,Src P w c.width p.src.len (a.eval y) news/\tL M p.src g/\∀ j,j<p.src.len*c.width->news[j]? = some (g j):=by
 have hr:=zI hi hy
 obtain ⟨b,arr,e,fz,q1,q2,q3,q4,q5,q6,q7⟩:=hi.vars k2 l2 hk2
 obtain ⟨r1,r2⟩:=lM hp q5
 obtain ⟨c1,c2,c3,c4⟩:=hlit.cells r2
 generalize hev:a.eval y=z at hr
 cases hr with
 | ref _ _ _ b' l' g1 g2=>
 rw [q1] at g1
 cases g1
 have hps:p.src=p:=by cases p<;>simp [PV.isSlice] at c2<;>rfl
 have hasz:arr.size=n*ww:=by rw [q4,<- r1,<- c4,hpn]
 rw [hps,hpn,hcw]
 refine ⟨arr.toList,λj=>arr.getD j undef,⟨λw'=>by simp [Builtin.lenOf],λw' hw'=>?_,by simp [hasz]⟩,c1,λj hj=>by
  rw [<- hasz] at hj
  simp [hj]⟩
 refine run_firstCells_some (P:=P) w' ww n ⟨b,0,none⟩ n n _ (by simp [hasz]) ?_
 intro j u hu
 rw [add_off]
 refine hw' _ _ ?_
 simp only [World.cell?,q2,Nat.zero_add]
 simpa using hu
theorem sa_appR {o:Oper} {k2 n:Nat} {l2:List AV} {cs:List PV} {t t' e:TypeId} {ei:TI} {k:Nat} {c p rr:PV} {bs:List (Nat×ABlk)} {dd:TypeDesc} (hok:zX P te) (hd:o.dst=some d) (ho:o.op=.call { callee:=.builtin .append,args:=#[x,y],argTypes:=#[t,t'] })
  (ht:(te t).map (·.ty)=some (.slice e)) (he:te e=some ei) (ht':P.underlying t'=some dd) (hdd:iG dd) (hx:s.get te t x=some (.buf k c.len)) (hk:s.blk k=some (.buf c)) (hcw:c.width=ei.w) (hw0:0<ei.w) (hz:ei.z.length=ei.w) (hy:s.get te t' y=some (.ref k2 0 n)) (hk2:s.blk k2=some (.var l2)) (hp:s.rdL l2=some (cs,bs)) (hlit:Lit' ei.w p cs) (hpn:p.len=n) (happ:c.app p=some rr)
  (hel:kL p=true) (hb:(c.len+p.src.len)*ei.b<=140737488355328) (hb1:0<ei.b) :
  SA P o s ⟨opS x (.buf k c.len)++opS y (.ref k2 0 n),(k,.buf c) :: (k2,.var l2) :: bs,[],some (d,some (.buf k rr.len)),[(k,.buf rr)]⟩:=by
 refine ⟨?_,zS (zB hx) (zB hy),?_,by intro k hk';simp at hk'⟩
 ·intro cx s' a w K Q hm hs hws hk'
  obtain ⟨M,κ,tip,h0,hpk,hi⟩:=hs
  have hbk:=hm.2.1 (k,.buf c) (by simp)
  simp only at hbk
  have hx':=zI hi (zP hx s' (zL hm.1))
  obtain ⟨q1,q2,q3,q4,q5,q6,q7⟩:=bV happ
  obtain ⟨b1,b2,b3,b4⟩:=hi.bufs k c hbk
  have hevx:a.eval x=tip k:=by
   generalize a.eval x=zx at hx'
   cases hx' with
   | buf _ _ c' _ g1 g2 g3 g4 g5=>rw [hbk] at g1;cases g1;exact g5 rfl
  obtain ⟨news,g,n1,n2,n3⟩:=zOi (P:=P) hi (zP hy s' (zH hm.1)) (hm.2.1 (k2,.var l2) (by simp)) (kG l2 cs bs hp (λe he=>hm.2.1 e (by simp [he]))) hlit hpn happ hcw hw0
  obtain ⟨info,z,i1,i2,i3,i4,i5⟩:=(hok e ei he).info
  have hu:=yE hok ht
  have hlen:c.len+p.src.len<=140737488355328:=Nat.le_trans (Nat.le_mul_of_pos_right _ hb1) hb
  rw [hcw,<- i2] at n1
  have hnl:news.length=p.src.len*ei.w:=by rw [n1.nl,i2]
  have hrw:rr.width=ei.w:=by omega
  have hzs:z.cells.size=ei.w:=by rw [<- Array.length_toList,i5];simpa using hz
  have hone:∀ u∈news,u.oneCell'=true:=by
   rcases zJx happ with hsl | ⟨l,rfl⟩
   ·have hps:p.src=p:=by cases p<;>simp [PV.isSlice] at hsl<;>rfl
    rw [hps] at n2 n3 hnl q5
    exact cR hsl (by omega) hw0 n2 hnl (λj hj=>n3 j (by rw [hcw];exact hj)) hel
   ·exact cR (p:=.bytes l) rfl (by have h5:(1:Nat)=c.width:=q5;show (1:Nat)=ei.w;omega) hw0 n2 hnl (λj hj=>n3 j (by rw [hcw];exact hj)) rfl
  unfold Oper.wp
  rcases b4 with ⟨hnil,hκ⟩ | ⟨b,n,cap,arr,e1,fz,htip,hκ,hbase,hheap,hfree,hcap,hml,hM⟩
  ·
   have hlen0:c.len=0:=by
    rw [hnil] at b1
    rcases sE b1 b2 with ⟨_,h⟩ | ⟨b,o,n,cc,h,_⟩
    ·exact h
    ·cases h
   by_cases hm0:p.src.len=0
   ·rw [hm0] at n1
    have hrun:=pJ (P:=P) (ty:=o.type) hu ht' hdd i1 n1
    rw [yK ho (hevx.trans hnil) hrun]
    show K (a.put o.dst _) _
    rw [hd]
    refine hk' _ _ ?_
    rw [w8]
    have hrl:rr.len=0:=by omega
    have hrn:rr=c:=by
     have hps:p.src.len=0:=hm0
     unfold PV.app at happ
     split at happ
     ·rename_i aa bb
      simp only [PV.src,PV.len] at hps
      have:bb=[]:=List.eq_nil_of_length_eq_zero hps
      subst this
      simp at happ
      exact happ.symm
     ·rename_i ww aa ww' bb
      simp only [PV.src,PV.len] at hps
      have:bb=[]:=List.eq_nil_of_length_eq_zero hps
      subst this
      cases hbq:Nat.beq ww ww' with
      | false=>simp [hbq] at happ
      | true=>simp [hbq] at happ;exact happ.symm
     ·rename_i aa bb
      simp only [PV.src,PV.len] at hps
      have:bb=[]:=List.eq_nil_of_length_eq_zero hps
      subst this
      simp at happ
      exact happ.symm
     ·cases happ
    subst hrn
    have hset:s'.setb k (.buf rr)=s':=by
     cases s' with
     | mk env blk=>
      simp only [AS.setb]
      congr 1
      funext t
      by_cases ht:t=k
      ·subst ht;simp;exact hbk.symm
      ·have:Nat.beq t k=false:=by rw [Bool.eq_false_iff];intro e;exact ht (Nat.eq_of_beq_eq_true e)
       simp [this]
    rw [hset]
    refine ⟨M,κ,tip,h0,hpk,hi.put (hws d (by simp [Mic.ws])) ?_⟩
    refine .buf k _ rr _ hbk b2 (Nat.le_refl _) ?_ (λ_=>hnil.symm)
    rw [vS b2,<- hnil]
    exact b1
   ·have hrun:=nA (P:=P) (ty:=o.type) hu ht' hdd i1 i4 n1 (by omega) (by rw [i3];rw [hlen0,Nat.zero_add] at hb;exact hb) (by omega)
    rw [yK ho (hevx.trans hnil) hrun]
    show K (a.put o.dst _) _
    rw [hd]
    refine hk' _ _ ?_
    rw [w8]
    have hcells:=kY happ (nC q1 hlen0 (λ_=>undef)) n2
    have hge:=grownCap_ge w p.src.len 0 e
    have hrl:rr.len=p.src.len:=by omega
    have hsize:(news.toArray++Builtin.zeroCells z.cells (grownCap w p.src.len 0 e - p.src.len)).size=grownCap w p.src.len 0 e*ei.w:=by
     simp only [Array.size_append,List.size_toArray,size_zeroCells,hzs,hnl,<- Nat.add_mul]
     congr 1
     omega
    have hfit:p.src.len*ei.w<=grownCap w p.src.len 0 e*ei.w:=Nat.mul_le_mul_right _ hge
    have hml:grownCap w p.src.len 0 e<=maxLen:=grownCap_le_maxLen w p.src.len 0 e (by simp only [maxLen];omega)
    have hrep:Rep (yJ M w.heap.size 0 (p.src.len*rr.width) ((news.toArray++Builtin.zeroCells z.cells (grownCap w p.src.len 0 e - p.src.len))[·]?)) rr (.slice (some ⟨w.heap.size,0,none⟩) p.src.len (grownCap w p.src.len 0 e)):=by
     have:=yX (M':=yJ M w.heap.size 0 (p.src.len*rr.width) ((news.toArray++Builtin.zeroCells z.cells (grownCap w p.src.len 0 e - p.src.len))[·]?)) (b:=w.heap.size) (o:=0) (cap:=grownCap w p.src.len 0 e) hcells q2 (wH λo _ _=>hi.mlt (Nat.le_refl _)) ?_ (by omega)
     ·rwa [hrl] at this
     intro j hj
     rw [hrl] at hj
     simp only [yJ,Nat.zero_add]
     rw [if_pos ⟨trivial,Nat.zero_le _,hj⟩,hlen0]
     simp only [Nat.zero_mul,Nat.not_lt_zero,if_false,Nat.sub_zero]
     rw [hrw] at hj
     have:=n3 j (by rw [hcw];exact hj)
     rw [Array.getElem?_append_left (by simp;omega)]
     simpa using this
    refine ⟨_,_,_,h0.trans' (wH λo _ _=>hi.mlt (Nat.le_refl _)),zBg hi hpk hbk _,(hi.bufNew (vT w _ e) (.inr ⟨c,hbk,by omega,q7⟩) q2 (by omega) ?_ ?_ hml hrep).put (hws d (by simp [Mic.ws])) ?_⟩
    ·rw [hsize,hrw];exact hfit
    ·rw [hsize,hrw];exact Nat.le_refl _
    ·rw [hrl]
     refine .buf k _ rr _ (zF _ _ _) q2 (by omega) ?_ (λ_=>(zY _ _ _).symm)
     rw [<- hrl,vS q2,hrl]
     exact hrep
  ·rw [htip] at b1
   have hn:n=c.len/\n<=cap:=by
    rcases sE b1 b2 with ⟨h,_⟩ | ⟨b',o',n',cc,h,h2,h3⟩
    ·cases h
    ·cases h;exact ⟨h2,h3⟩
   obtain ⟨hn,hcl⟩:=hn
   subst hn
   have hcells:=kY happ (gR b2 b1) n2
   simp only [Nat.zero_add] at hcells
   have hsome:=zC4 b2 b1 b3
   simp only [Nat.zero_add] at hsome
   have hadd:(c.len+p.src.len)*ei.w=c.len*ei.w+p.src.len*ei.w:=Nat.add_mul _ _ _
   by_cases hroom:c.len+p.src.len<=cap
   ·have hfits:(c.len+p.src.len)*ei.w<=arr.size:=by rw [<- hcw];exact Nat.le_trans (Nat.mul_le_mul_right _ hroom) hcap
    have hrun:=iC (P:=P) (ty:=o.type) hu ht' hdd i1 n1 (b:=b) (n:=c.len) (cap:=cap) hone hroom
     (by
       intro j hj;rw [i2];have:c.len*ei.w+j<arr.size:=by omega
       simp [World.cell?,hheap,this])
     (by intro j hj;rw [i2];exact qC hheap hfree (by omega))
    rw [yK ho (hevx.trans htip) hrun]
    show K (a.put o.dst _) _
    rw [hd]
    refine hk' _ _ ?_
    rw [w8,i2,<- hcw]
    have hle:M.le (yJ M b (c.len*c.width) ((c.len+p.src.len)*c.width) (λo=>news[o - c.len*c.width]?)):=wH λo h _=>hM o h
    have hrep:Rep (yJ M b (c.len*c.width) ((c.len+p.src.len)*c.width) (λo=>news[o - c.len*c.width]?)) rr (.slice (some ⟨b,0,none⟩) (c.len+p.src.len) cap):=by
     have:=yX (M':=yJ M b (c.len*c.width) ((c.len+p.src.len)*c.width) (λo=>news[o - c.len*c.width]?)) (b:=b) (o:=0) (cap:=cap) hcells q2 hle ?_ (by omega)
     ·rwa [q6] at this
     intro j hj
     rw [q6,q4] at hj
     simp only [Nat.zero_add]
     by_cases hjc:j<c.len*c.width
     ·rw [if_pos hjc]
      obtain ⟨u,hu⟩:=Option.isSome_iff_exists.1 (hsome j hjc)
      rw [hle _ _ _ hu]
      simp [mget,hu]
     ·rw [if_neg hjc]
      simp only [yJ]
      rw [if_pos ⟨trivial,by omega,hj⟩]
      exact n3 _ (by rw [hcw] at hj hjc ⊢;omega)
    refine ⟨_,_,_,h0.trans' hle,hpk,(hi.bufIn hbk htip hκ hbase hheap hfree hcap hml hM (by rw [hnl,hcw]) hroom q2 q4 (by omega) q7 (by omega) hrep).put (hws d (by simp [Mic.ws])) ?_⟩
    rw [q6]
    refine .buf k _ rr _ (zF _ _ _) q2 (by omega) ?_ (λ_=>(zY _ _ _).symm)
    rw [<- q6,vS q2,q6]
    exact hrep
   ·have hol:((List.range (c.len*ei.w)).map λj=>mget M b j).length=c.len*info.size:=by simp [i2]
    have hrun:=jO (P:=P) (ty:=o.type) hu ht' hdd i1 i4 n1 (b:=b) (n:=c.len) (cap:=cap) (olds:=(List.range (c.len*ei.w)).map λj=>mget M b j) hol
     (by
      intro j u hu
      rw [List.getElem?_map] at hu
      obtain ⟨j',h1,h2⟩:=Option.map_eq_some_iff.1 hu
      have hj:j<c.len*ei.w:=by have:=(List.getElem?_eq_some_iff.1 h1).1;simpa using this
      have hjj:j'=j:=by have:=(List.getElem?_eq_some_iff.1 h1).2;simpa using this.symm
      subst hjj
      obtain ⟨zz,hz⟩:=Option.isSome_iff_exists.1 (hsome j' (by rw [hcw];exact hj))
      rw [hi.mem _ _ _ hz,<- h2]
      simp [mget,hz])
     (by omega) (by rw [i3];exact hb) (by omega)
    rw [yK ho (hevx.trans htip) hrun]
    show K (a.put o.dst _) _
    rw [hd]
    refine hk' _ _ ?_
    rw [w8]
    have hge:=grownCap_ge w (c.len+p.src.len) cap e
    have hml:grownCap w (c.len+p.src.len) cap e<=maxLen:=grownCap_le_maxLen w _ cap e (by simp only [maxLen];omega)
    generalize hA:(((List.range (c.len*ei.w)).map λj=>mget M b j).toArray++news.toArray++Builtin.zeroCells z.cells (grownCap w (c.len+p.src.len) cap e - (c.len+p.src.len)))=A
    have hsize:A.size=grownCap w (c.len+p.src.len) cap e*ei.w:=by
     rw [<- hA]
     simp only [Array.size_append,List.size_toArray,List.length_map,List.length_range,size_zeroCells,hzs,hnl,<- Nat.add_mul]
     congr 1
     omega
    have hfit:(c.len+p.src.len)*ei.w<=grownCap w (c.len+p.src.len) cap e*ei.w:=Nat.mul_le_mul_right _ hge
    have hget:∀ j,j<(c.len+p.src.len)*ei.w->A[j]? = some (if j<c.len*ei.w then mget M b j else g (j - c.len*ei.w)):=by
     intro j hj
     rw [<- hA,Array.getElem?_append_left (by simp;omega)]
     by_cases hjc:j<c.len*ei.w
     ·rw [if_pos hjc,Array.getElem?_append_left (by simpa using hjc)]
      simp [hjc]
     ·rw [if_neg hjc,Array.getElem?_append_right (by simp;omega)]
      have:=n3 (j - c.len*ei.w) (by rw [hcw];omega)
      simpa using this
    have hle:M.le (yJ M w.heap.size 0 ((c.len+p.src.len)*rr.width) (A[·]?)):=wH λo _ _=>hi.mlt (Nat.le_refl _)
    have hrep:Rep (yJ M w.heap.size 0 ((c.len+p.src.len)*rr.width) (A[·]?)) rr (.slice (some ⟨w.heap.size,0,none⟩) (c.len+p.src.len) (grownCap w (c.len+p.src.len) cap e)):=by
     have:=yX (M':=yJ M w.heap.size 0 ((c.len+p.src.len)*rr.width) (A[·]?)) (b:=w.heap.size) (o:=0) (cap:=grownCap w (c.len+p.src.len) cap e) hcells q2 hle ?_ (by omega)
     ·rwa [q6] at this
     intro j hj
     rw [q6] at hj
     simp only [yJ,Nat.zero_add]
     rw [if_pos ⟨trivial,Nat.zero_le _,hj⟩]
     rw [hrw] at hj
     rw [hget j hj,hcw]
    refine ⟨_,_,_,h0.trans' hle,zBg hi hpk hbk _,(hi.bufNew (vT w _ e) (.inr ⟨c,hbk,by omega,q7⟩) q2 (by omega) ?_ ?_ hml hrep).put (hws d (by simp [Mic.ws])) ?_⟩
    ·rw [hsize,hrw];exact hfit
    ·rw [hsize,hrw];exact Nat.le_refl _
    ·rw [q6]
     refine .buf k _ rr _ (zF _ _ _) q2 (by omega) ?_ (λ_=>(zY _ _ _).symm)
     rw [<- q6,vS q2,q6]
     exact hrep
 ·intro e he
  rcases List.mem_cons.1 he with he | he
  ·subst he;exact hk
  ·rcases List.mem_cons.1 he with he | he
   ·subst he;exact hk2
   ·exact jF l2 cs bs hp e he
end
end Go.Sw
namespace Go.Sw
open Go
section
variable {P:Program} {te:TE} {s:AS} {o:Oper} {v:AV} {x y:Operand} {d:Nat}
theorem sa_mkb {t e tl tc:TypeId} {ei:TI} {kl kc:IntKind} {n:Int} {c:PV} {cs:List PV} (hok:zX P te) (hd:o.dst=some d) (ho:o.op=.makeSlice t x y) (ht:(te t).map (·.ty)=some (.slice e)) (he:te e=some ei) (hz:ei.z.length=ei.w) (hw0:0<ei.w) (hx:s.get te tl x=some (.p (.int kl n))) (hy:s.get te tc y=some (.p (.int kc n)))
  (h0:0<=n) (hb:n.toNat*ei.b<=140737488355328) (hb1:0<ei.b) (hzs:∀ s:AS,s.rdL (uP ei.z n.toNat)=some (cs,[])) (hlit:Lit' ei.w c cs) (hcl:c.len=n.toNat) (hk:s.blk d=none):SA P o s ⟨opS x (.p (.int kl n))++opS y (.p (.int kc n)),[],[d],some (d,some (.buf d n.toNat)),[(d,.buf c)]⟩:=by
 refine ⟨?_,zS (zB hx) (zB hy),by intro e he;simp at he,by intro k hk';simp at hk';subst hk';exact hk⟩
 intro cx s' a w K Q hm hs hws hk'
 obtain ⟨M,κ,tip,h0',hp,hi⟩:=hs
 have hbk:=hm.2.2 d (by simp)
 have h1:=rep_int (repA_pv (zI hi (zP hx s' (zL hm.1))))
 have h2:=rep_int (repA_pv (zI hi (zP hy s' (zH hm.1))))
 obtain ⟨info,z,i1,i2,i3,i4,i5⟩:=(hok e ei he).info
 have hu:=yE hok ht
 have hlen:n.toNat<=n.toNat*ei.b:=Nat.le_mul_of_pos_right _ hb1
 have hbi:(info.bytes:Int)*n<=281474976710656:=by
  rw [i3]
  have:((n.toNat*ei.b:Nat):Int)<=140737488355328:=by omega
  rw [Int.natCast_mul,Int.toNat_of_nonneg h0,Int.mul_comm] at this
  omega
 have hrun:=run_make (P:=P) w t e info z hu i1 i4 kl kc n n h0 (Int.le_refl _) hbi (by omega)
 unfold Oper.wp
 have:(execOp a.eval o).run P w=.ok (.value (.slice (some ⟨w.heap.size,0,none⟩) n.toNat n.toNat)) (w.alloc (.cells (madeCells z.cells (n.toNat*ei.w)) e)):=by
  rw [i2] at hrun
  simp [execOp,ho,h1,h2,hrun]
 rw [this]
 show K (a.put o.dst _) _
 rw [hd]
 refine hk' _ _ ?_
 rw [w8]
 have hcr:=aP hok he hz i1 i4 (M:=M) (κ:=κ) (tip:=tip) (B:=s'.blk) n.toNat
 obtain ⟨r1,r2⟩:=lM (hzs s') hcr.2
 obtain ⟨c1,c2,c3,c4⟩:=hlit.cells r2
 have hle:M.le (yJ M w.heap.size 0 (n.toNat*c.width) ((madeCells z.cells (n.toNat*ei.w))[·]?)):=wH λo _ _=>hi.mlt (Nat.le_refl _)
 have hrep:Rep (yJ M w.heap.size 0 (n.toNat*c.width) ((madeCells z.cells (n.toNat*ei.w))[·]?)) c (.slice (some ⟨w.heap.size,0,none⟩) n.toNat n.toNat):=by
  have:=yX (M:=M) (M':=yJ M w.heap.size 0 (n.toNat*c.width) ((madeCells z.cells (n.toNat*ei.w))[·]?)) (b:=w.heap.size) (o:=0) (cap:=n.toNat) c1 c2 hle ?_ (by omega)
  ·rwa [hcl] at this
  intro j hj
  rw [hcl] at hj
  simp only [yJ,Nat.zero_add]
  rw [if_pos ⟨trivial,Nat.zero_le _,hj⟩]
  rw [c3] at hj
  have:j<(madeCells z.cells (n.toNat*ei.w)).size:=by rw [size_madeCells];exact hj
  simp [this]
 refine ⟨_,_,_,h0'.trans' hle,iE hi hp hbk _,(hi.bufNew (oK w _ e) (.inl hbk) c2 (by omega) (by rw [size_madeCells,c3];exact Nat.le_refl _) (by rw [size_madeCells,c3];exact Nat.le_refl _) (by simp only [maxLen];omega) hrep).put (hws d (by simp [Mic.ws])) ?_⟩
 refine .buf d _ c _ (zF _ _ _) c2 (by omega) ?_ (λ_=>(zY _ _ _).symm)
 rw [<- hcl,vS c2,hcl]
 exact hrep
theorem zNc {s:AS} {z:PV}:∀ (n:Nat),(z.nilOf=true->True)->s.rdL (uP [z] n)=some (List.replicate n z,[])
 | 0,_=>by simp [uP,AS.rdL]
 | n+1,h=>by
  have ih:=zNc (s:=s) (z:=z) n h
  simp only [uP,List.replicate_succ,List.flatten_cons,List.map_cons,List.map_nil,List.singleton_append] at ih ⊢
  simp only [AS.rdL]
  have:s.rd (zA z)=some (z,[]):=by unfold zA;cases z.nilOf<;>simp [AS.rd]
  rw [this,ih]
  rfl
theorem zMi {α:Type} {f:α->PV} {x:α} {z:PV} (h:z=f x) (hn:z.nilOf=false):∀ (n:Nat),uP [z] n=(List.replicate n x).map λy=>AV.p (f y)
 | 0=>rfl
 | n+1=>by
  have ih:=zMi h hn n
  simp only [uP,List.replicate_succ,List.flatten_cons,List.map_cons,List.map_nil,List.singleton_append] at ih ⊢
  rw [ih]
  have hz:zA z=AV.p (f x):=by unfold zA;rw [hn,h];rfl
  rw [hz]
def mkN (b:Nat) (n:Int):Option Nat:=if 0<=n/\n.toNat*b<=140737488355328 then some n.toNat else none
theorem zCw {b:Nat} {n:Int} {m:Nat} (h:mkN b n=some m):0<=n/\n.toNat*b<=140737488355328/\m=n.toNat:=by
 unfold mkN at h
 split at h
 ·rename_i hc;cases h;exact ⟨hc.1,hc.2,rfl⟩
 ·cases h
theorem zLw (hok:zX P te) {t e:TypeId} {k:IntKind} {ei:TI} {a0 a1 b0 b1:Int} (ht:(te t).map (·.ty)=some (.arr 2 e)) (he:te e=some ei) (hk:ei.ty=.int k) (hw:ei.w=1) (w:World) (d:Nat) :
  (Op.equalIn (d+2) t (.agg #[.int k a0,.int k a1]) (.agg #[.int k b0,.int k b1])).run P w=.ok (a0==b0&&a1==b1) w:=by
 have hu:=fQ hok ht
 have hue:=bY hok (t:=e) (k:=k) (by simp [he,hk])
 obtain ⟨info,z,i1,i2,i3,i4,i5⟩:=(hok e ei he).info
 rw [run_equalIn_array w (d+1) _ _ hu i1]
 have hag:(isAgg e).run P w=.ok false w:=by simp [isAgg,run_underlying hue]
 have hc:P.cellsOf e=1:=by simp [Program.cellsOf,i1,i2,hw]
 cases h0:(a0==b0)<;>cases h1:(a1==b1)<;>simp [Op.eqItems,List.range,List.range.loop,part,hag,hc,run_equalIn_int w d e k k _ _ hue,h0,h1]
end
end Go.Sw
namespace Go.Sw
open Go
section
variable {P:Program} [T:TEnv P] {ops:Array Oper} {s:AS} {r:List Oper} {K:AS->List Mic->Prop} {d:Nat} {ty:TypeId} {pos:String} {af:Array Edge} {v:AV} {x y:Operand}
theorem RK.cat {tx tyy:TypeId} {a b:List UInt8} (h:Nat.ble (a.length+b.length) 140737488355328=true) (hx0:(s.get T.te tx x,s.get T.te tyy y)=(some (.p (.str a)),some (.p (.str b)))) (k:VK P ops r s K d (opS x (.p (.str a))++opS y (.p (.str b))) ([]) (.p (.str (a++b)))):RK P ops (⟨some d,.binOp .add tx x y tyy,ty,pos,af,none⟩:: r) s K:=have ⟨hx,hy⟩:=pq hx0;RK.va rfl rfl (Go.Sw.va_cat h rfl hx hy) k
theorem RK.scM {α:Type} (f:α->PV) {t e:TypeId} {n:Nat} {l:List α} (hf:∀ a,(f a).cells=[f a]) (ht0:((T.te t).map (·.ty),(T.te e).map (·.w),s.get T.te t x,l.length,Nat.blt 0 n)=(some (.arr n e),some 1,some (.p (.cptr (.agg (l.map f)))),n,true)) (k:VK P ops r s K d (opS x (.p (.cptr (.agg (l.map f))))) ([]) (.p (.sl 1 (l.map f)))):RK P ops (⟨some d,.slice t x none none none,ty,pos,af,none⟩:: r) s K:=have ⟨ht,ht0⟩:=pq ht0;have ⟨he,ht0⟩:=pq ht0;have ⟨hx,ht0⟩:=pq ht0;have ⟨hn,hn0⟩:=pq ht0;RK.va rfl rfl (Go.Sw.va_sliceC T.ok rfl ht he hx (by simpa using hn) (by have:=Nat.le_of_ble_eq_true hn0;omega) (zD8 hf l) (by simpa [PV.len] using hn)) k
theorem RK.mr {α:Type} (f:α->PV) (u:α) {b m:Nat} {t e:TypeId} {ei:TI} {kl kc:IntKind} {n:Int} (h:mkN b n=some m) (ht0:((T.te t).map (·.ty),T.te e,ei.b,Nat.blt 0 b,ei.z.length,s.get T.te 0 x,s.get T.te 0 y,s.blk d,ei.z,(f u).nilOf)=(some (.slice e),some ei,b,true,ei.w,some (.p (.int kl n)),some (.p (.int kc n)),none,[f u],false)) (k:BK P ops r s K d (opS x (.p (.int kl n))++opS y (.p (.int kc n))) [] [d] d (.var ((List.replicate m u).map λy=>AV.p (f y))) (.ref d 0 m)):RK P ops (⟨some d,.makeSlice t x y,ty,pos,af,none⟩:: r) s K:=have ⟨ht,ht0⟩:=pq ht0;have ⟨he,ht0⟩:=pq ht0;have ⟨hb,ht0⟩:=pq ht0;have ⟨hb1,ht0⟩:=pq ht0;have ⟨hz,ht0⟩:=pq ht0;have ⟨hx,ht0⟩:=pq ht0;have ⟨hy,ht0⟩:=pq ht0;have ⟨hk,ht0⟩:=pq ht0;have ⟨hzz,hnil⟩:=pq ht0;by
 obtain ⟨h0,h1,rfl⟩:=zCw h
 subst hb
 have hb2:=Nat.le_of_ble_eq_true hb1
 have:=Go.Sw.sa_mkr (P:=P) (o:=⟨some d,.makeSlice t x y,ty,pos,af,none⟩) T.ok rfl rfl ht he hz hx hy h0 h1 (by omega) hk
 rw [hzz,zMi rfl hnil] at this
 exact RK.sb rfl this k
theorem RK.mrK {b m:Nat} {t e:TypeId} {ei:TI} {kl kc:IntKind} (h:Nat.ble (m*b) 140737488355328=true) (ht:(T.te t).map (·.ty)=some (.slice e)) (he:T.te e=some ei) (hb:ei.b=b) (hb1:Nat.blt 0 b=true) (hz:ei.z.length=ei.w) (hx:s.get T.te 0 x=some (.p (.int kl (m:Nat)))) (hy:s.get T.te 0 y=some (.p (.int kc (m:Nat)))) (hk:s.blk d=none) (k:BK P ops r s K d (opS x (.p (.int kl (m:Nat)))++opS y (.p (.int kc (m:Nat)))) [] [d] d (.var (uP ei.z m)) (.ref d 0 m)):RK P ops (⟨some d,.makeSlice t x y,ty,pos,af,none⟩:: r) s K:=by
 subst hb
 have hb2:=Nat.le_of_ble_eq_true hb1
 exact RK.sb rfl (Go.Sw.sa_mkr (P:=P) (o:=⟨some d,.makeSlice t x y,ty,pos,af,none⟩) T.ok rfl rfl ht he hz hx hy (by omega) (by simpa using zJ h) (by omega) hk) k
theorem RK.mk0 {b m:Nat} {c:PV} {t e:TypeId} {ei:TI} {kl kc:IntKind} {n:Int} (h:mkN b n=some m) (ht0:((T.te t).map (·.ty),T.te e,ei.b,Nat.blt 0 b,ei.z.length,s.get T.te 0 x,s.get T.te 0 y,s.blk d,ei.w,Nat.blt 0 ei.w,c.nilOf)=(some (.slice e),some ei,b,true,ei.w,some (.p (.int kl 0)),some (.p (.int kc n)),none,c.width,true,true)) (k:BK P ops r s K d (opS x (.p (.int kl 0))++opS y (.p (.int kc n))) [] [d] d (.buf c) (.buf d 0)):RK P ops (⟨some d,.makeSlice t x y,ty,pos,af,none⟩:: r) s K:=have ⟨ht,ht0⟩:=pq ht0;have ⟨he,ht0⟩:=pq ht0;have ⟨hb,ht0⟩:=pq ht0;have ⟨hb1,ht0⟩:=pq ht0;have ⟨hz,ht0⟩:=pq ht0;have ⟨hx,ht0⟩:=pq ht0;have ⟨hy,ht0⟩:=pq ht0;have ⟨hk,ht0⟩:=pq ht0;have ⟨hw,ht0⟩:=pq ht0;have ⟨hw0,hc⟩:=pq ht0;by
 obtain ⟨h0,h1,rfl⟩:=zCw h
 subst hb
 have hb2:=Nat.le_of_ble_eq_true hb1
 have hw2:=Nat.le_of_ble_eq_true hw0
 exact RK.sb rfl (Go.Sw.sa_mk0 (P:=P) (o:=⟨some d,.makeSlice t x y,ty,pos,af,none⟩) T.ok rfl rfl ht he hz (by omega) hx hy h0 h1 (by omega) hc hw.symm hk) k
theorem RK.mbB {b m:Nat} {t e:TypeId} {ei:TI} {kl kc:IntKind} {n:Int} (h:mkN b n=some m) (ht0:((T.te t).map (·.ty),T.te e,ei.b,Nat.blt 0 b,ei.z.length,s.get T.te 0 x,s.get T.te 0 y,s.blk d,ei.z,ei.w)=(some (.slice e),some ei,b,true,ei.w,some (.p (.int kl n)),some (.p (.int kc n)),none,[.int .u8 0],1)) (k:BK P ops r s K d (opS x (.p (.int kl n))++opS y (.p (.int kc n))) [] [d] d (.buf (.bytes (List.replicate m 0))) (.buf d (List.replicate m (0:UInt8)).length)):RK P ops (⟨some d,.makeSlice t x y,ty,pos,af,none⟩:: r) s K:=have ⟨ht,ht0⟩:=pq ht0;have ⟨he,ht0⟩:=pq ht0;have ⟨hb,ht0⟩:=pq ht0;have ⟨hb1,ht0⟩:=pq ht0;have ⟨hz,ht0⟩:=pq ht0;have ⟨hx,ht0⟩:=pq ht0;have ⟨hy,ht0⟩:=pq ht0;have ⟨hk,ht0⟩:=pq ht0;have ⟨hzz,hw⟩:=pq ht0;by
 obtain ⟨h0,h1,rfl⟩:=zCw h
 subst hb
 have hb2:=Nat.le_of_ble_eq_true hb1
 rw [List.length_replicate] at k
 have hl:Lit' 1 (.bytes (List.replicate n.toNat (0:UInt8))) (List.replicate n.toNat (.int .u8 0)):=by
  have:=zB4 (List.replicate n.toNat (0:UInt8))
  rw [List.map_replicate] at this
  exact this
 exact RK.sb rfl (Go.Sw.sa_mkb (P:=P) (o:=⟨some d,.makeSlice t x y,ty,pos,af,none⟩) T.ok rfl rfl ht he hz (by omega) hx hy h0 h1 (by omega) (λs=>by rw [hzz];exact zNc _ (λ_=>trivial)) (by rw [hw];exact hl) (by simp [PV.len]) hk) k
theorem RK.apR {α:Type} (f:α->PV) {t t2 e e2:TypeId} {ei:TI} {b k0 k2 n:Nat} {l m u:List α} (hf:∀ a,(f a).cells=[f a]) (h:zZ b l m=some u) (ht0:((T.te t).map (·.ty),T.te e,(T.te t2).map (·.ty),s.get T.te t x,s.blk k0,1,ei.z.length,s.get T.te t2 y,s.blk k2)=(some (.slice e),some ei,some (.slice e2),some (.buf k0 l.length),some (.buf (.sl 1 (l.map f))),ei.w,ei.w,some (.ref k2 0 n),some (.var (m.map λx=>AV.p (f x))))) (hn:m.length=n) (hone:∀ a,(f a).cells.all PV.one=true) (hb0:(ei.b,Nat.blt 0 b)=(b,true)) (k:BK P ops r s K d (opS x (.buf k0 (PV.sl 1 (l.map f)).len)++opS y (.ref k2 0 n)) ((k0,.buf (.sl 1 (l.map f))) :: (k2,.var (m.map λx=>AV.p (f x))) :: []) ([]) (k0) (.buf (.sl 1 (u.map f))) (.buf k0 (PV.sl 1 (u.map f)).len)):RK P ops (⟨some d,.call ⟨.builtin .append,#[x,y],#[t,t2]⟩,ty,pos,af,none⟩:: r) s K:=have ⟨ht,ht0⟩:=pq ht0;have ⟨he,ht0⟩:=pq ht0;have ⟨ht2,ht0⟩:=pq ht0;have ⟨hx,ht0⟩:=pq ht0;have ⟨hk,ht0⟩:=pq ht0;have ⟨hcw,ht0⟩:=pq ht0;have ⟨hz,ht0⟩:=pq ht0;have ⟨hy,hk2⟩:=pq ht0;have ⟨hb,hb1⟩:=pq hb0;RK.sb rfl (Go.Sw.sa_appR (c:=.sl 1 (l.map f)) T.ok rfl rfl ht he (yE T.ok ht2) (.inr ⟨_,rfl⟩) (by simpa [PV.len] using hx) hk hcw (by omega) hz hy hk2 qW (by rw [<- hcw];exact zD8 hf m) (by simpa [PV.len] using hn) (appM h) (oneM hone) (by subst hb;have:=zHm h;simpa [PV.len,PV.src] using this) (by subst hb;have:=Nat.le_of_ble_eq_true hb1;omega)) k
theorem RK.mf {f:FuncId} {xs ys:Array Operand} {xl yl:List Operand} {tl tl2:List TypeId} {ps qs:List PV} {rs rs2:List (Nat×AV)} {bb bb2:List (Nat×ABlk)} (hxl0:(xs.toList,ys.toList)=(xl,yl)) (ha:Args s T.te xl tl ps rs bb) (hb:Args s T.te yl tl2 qs rs2 bb2) (k:VK P ops r s K d (rs++rs2) (bb++bb2) (.p (.fn f ps qs))):RK P ops (⟨some d,.makeFunc (.func f) xs ys,ty,pos,af,none⟩:: r) s K:=have ⟨hxl,hyl⟩:=pq hxl0;RK.va rfl rfl (Go.Sw.va_mkf rfl hxl hyl ha hb) k
theorem RK.mfA {f:FuncId} (hx:s.get T.te 0 x=some v) (k:VK P ops r s K d (opS x v) ([]) (.fnv f [v])):RK P ops (⟨some d,.makeFunc (.func f) #[x] #[],ty,pos,af,none⟩:: r) s K:=RK.va rfl rfl (Go.Sw.va_mkfA rfl hx) k
theorem RK.cf {f:FuncId} {tx:TypeId} {fs cs:List PV} {xs:Array Operand} {ts:Array TypeId} {xl:List Operand} {tl:List TypeId} {ps:List PV} {rs:List (Nat×AV)} {bb:List (Nat×ABlk)} {na:Nat} {av:AV} {blks:List (Nat×ABlk)} (h:Ok P f na (mkS (argE 0 (fs++(ps++cs))) []) (mkS [(0,av)] blks)) (hx0:(s.get T.te 0 x,xs.toList,ts.toList)=(some (.p (.fn f fs cs)),xl,tl)) (ha:Args s T.te xl tl ps rs bb) (hn0:(Nat.beq na (fs++(ps++cs)).length,(kR (sh d) blks).all (λk=>(s.blk k).isNone))=(true,true))
  (k:RK P ops r (Mic.upd ⟨opS x (.p (.fn f fs cs))++rs,bb,kR (sh d) blks,some (d,some (av.ren (sh d))),bR (sh d) blks⟩ s) λs' ms=>K s' (⟨opS x (.p (.fn f fs cs))++rs,bb,kR (sh d) blks,some (d,some (av.ren (sh d))),bR (sh d) blks⟩:: ms)):RK P ops (⟨some d,.call ⟨.value x,xs,ts⟩,ty,pos,af,none⟩:: r) s K:=have ⟨hx,hx0⟩:=pq hx0;have ⟨hxl,htl⟩:=pq hx0;have ⟨hn,hf⟩:=pq hn0;
 by
 rw [eK,zAn] at k
 rw [eK] at hf
 exact RK.st rfl (Go.Sw.sa_callf rfl rfl hx h hxl htl ha (Nat.eq_of_beq_eq_true hn) (λk hk=>by simpa using (List.all_eq_true.1 hf) k hk)) k
theorem RK.cpf {f:FuncId} {tx:TypeId} {xs:Array Operand} {ts:Array TypeId} {xl:List Operand} {tl:List TypeId} {ps cs:List PV} {l:List AV} {rs:List (Nat×AV)} {bb bs0:List (Nat×ABlk)} {na k0:Nat} {av:AV} {l':List AV} {blks:List (Nat×ABlk)} (h:Ok P f na (mkS ((0,.ptr 0 0) :: argE 1 ps) [(0,.var (cs.map .p))]) (mkS [(0,av)] ((0,.var l') :: blks))) (hx0:(s.get T.te 0 x,xs.toList,ts.toList,s.blk k0,s.rdL l)=(some (.fnv f [.ptr k0 0]),xl,tl,some (.var l),some (cs,bs0))) (ha:Args s T.te xl tl ps rs bb) (hn0:(Nat.beq na (ps.length+1),(kR (sh d) blks).all (λk=>(s.blk k).isNone),blks.all (λe=>!Nat.beq e.1 0))=(true,true,true))
  (k:RK P ops r (Mic.upd ⟨opS x (.fnv f [.ptr k0 0])++rs,(k0,.var l) :: (bs0++bb),kR (sh d) blks,some (d,some (av.ren (shp d k0))),bR (shp d k0) ((0,.var l') :: blks)⟩ s) λs' ms=>K s' (⟨opS x (.fnv f [.ptr k0 0])++rs,(k0,.var l) :: (bs0++bb),kR (sh d) blks,some (d,some (av.ren (shp d k0))),bR (shp d k0) ((0,.var l') :: blks)⟩:: ms)):RK P ops (⟨some d,.call ⟨.value x,xs,ts⟩,ty,pos,af,none⟩:: r) s K:=have ⟨hx,hx0⟩:=pq hx0;have ⟨hxl,hx0⟩:=pq hx0;have ⟨htl,hx0⟩:=pq hx0;have ⟨hbk,hcs⟩:=pq hx0;have ⟨hn,hn0⟩:=pq hn0;have ⟨hf,hne⟩:=pq hn0;
 by
 rw [eK,zAn] at k
 rw [eK] at hf
 exact RK.st rfl (Go.Sw.sa_callpf rfl rfl hx h hxl htl hbk hcs ha (Nat.eq_of_beq_eq_true hn) (λk hk=>by simpa using (List.all_eq_true.1 hf) k hk) (λe he h0=>by have:=(List.all_eq_true.1 hne) e he;simp [h0] at this)) k
end
end Go.Sw
namespace Go.Sw
open Go
abbrev qI (n:Int):AV:=.p (.int .i64 n)
abbrev qU (x:UInt8):AV:=.p (.int .u8 x.toNat)
abbrev qB (b:Bool):AV:=.p (.bool b)
abbrev qY (l:List UInt8):AV:=.p (.bytes l)
abbrev qZ (l:List UInt8):AV:=.p (.str l)
abbrev qL {α:Type} (w:Nat) (f:α->PV) (l:List α):AV:=.p (.sl w (l.map f))
abbrev qA {α:Type} (f:α->PV) (l:List α):ABlk:=.var (l.map λx=>AV.p (f x))
section
variable {P:Program} {cx:Ctx} {Q:Exit->AS->Prop} {s:AS}
theorem im {c:Code} {s':AS} (hl:Imp cx.pk s s') (h:awp P cx c Q s'):awp P cx c Q s:=zJv hl h
end
theorem toA2 {α:Type} {l:List α} {a:A2 α} (h:(match l with | [x,y]=>some (A2.mk x y) | _=>none)=some a):l=[a.a0,a.a1]:=by
 split at h
 ·cases h;rfl
 ·cases h
def lA2 {α:Type}:List α->Option (A2 α) | [x,y]=>some ⟨x,y⟩ | _=>none
def lA8 {α:Type}:List α->Option (A8 α) | [a,b,c,d,e,f,g,h]=>some ⟨a,b,c,d,e,f,g,h⟩ | _=>none
theorem zHh {α:Type} {l:List α} {r:A2 α} (h:lA2 l=some r):l=[r.a0,r.a1]:=by unfold lA2 at h;split at h<;>cases h;rfl
theorem zMh {α:Type} {l:List α} {r:A8 α} (h:lA8 l=some r):l=[r.a0,r.a1,r.a2,r.a3,r.a4,r.a5,r.a6,r.a7]:=by unfold lA8 at h;split at h<;>cases h;rfl
theorem nz {b:Int} (h:(!(b==0))=true):(b==0)=false:=by simpa using h
theorem eV {α:Type} {l:List α} {n:Nat} (h:Nat.beq l.length n=true):l.length=n:=Nat.eq_of_beq_eq_true h
end Go.Sw
namespace Go.Sw
open Go
theorem xJ {ρ:Nat->Nat} {α:Type} {f:α->PV}:∀ {l:List α},jR ρ (l.map λx=>AV.p (f x))=l.map λx=>AV.p (f x)
 | []=>rfl
 | x :: r=>by simp only [List.map_cons,jR,AV.ren];rw [xJ (l:=r)]
theorem tI {pk:List (Nat×Nat)} {s s' s'':AS} (h:Imp pk s s') (k:Imp pk s' s''):Imp pk s s'':=Imp.trans h k
section
variable {P:Program} {cx:Ctx} {Q:Exit->AS->Prop} {s:AS}
def OR (cx:Ctx) (E:AS) (e:Exit) (s:AS):Prop:=(e=.ret∨e=.normal)/\Imp cx.pk s E
theorem zNw {f:FuncId} {fn:Func} {body:Code} {na:Nat} {as rs:AS} {ks:List Nat} (E:AS) (hf:P.funcs[f]? = some fn) (hb:fn.body=some body) (hnm:(fn.name == "runtime.NumGoroutine")=false) (hnt:na<=fn.ntmps) (hks:∀ k,(as.blk k).isSome=true->k∈ks)
  (hr:∀ cx:Ctx,PK cx ks->eQ P fn cx E rs) (h:∀ cx:Ctx,cx.nt=fn.ntmps->PK cx ks->awp P cx body (OR cx E) as):Ok P f na as rs:=
 zEa hf hb hnm hnt hks λcx h1 h2 a w hs=>wp_mono (h cx h1 h2 a w hs) λe a' w' ⟨s',g1,g2,g3⟩ =>⟨E,g3 cx a' w' rfl g1,g2,hr cx h2⟩
end
section
variable {P:Program} {te:TE} {s:AS} {o:Oper} {x y:Operand} {vx vy:AV} {bx by':List (Nat×ABlk)} {a0 a1 b0 b1:Int} {k:IntKind}
theorem zFv {M:Mem} {z:Value} (h:Rep M (.agg [.int k a0,.int k a1]) z):z=.agg #[.int k a0,.int k a1]:=by
 cases h with
 | agg l vs h1 h2=>
  have g0:=rep_int (h2 0 (.int k a0) rfl)
  have g1:=rep_int (h2 1 (.int k a1) rfl)
  cases vs with
  | mk l=>
   match l,h1 with
   | [u,v],_=>simp at g0 g1;rw [g0,g1]
   | [],h1=>simp at h1
   | [_],h1=>simp at h1
   | _ :: _ :: _ :: _,h1=>simp at h1
theorem zQv (f:Bool) {tx tyy:TypeId} (ho:o.op=.binOp (bif f then .eql else .neq) tx x y tyy) (hg:P.eqGuardType P.depth tx=false) (hrun:∀ (w:World) (d:Nat),(Op.equalIn (d+2) tx (.agg #[.int k a0,.int k a1]) (.agg #[.int k b0,.int k b1])).run P w=.ok (a0==b0&&a1==b1) w)
  (hx:s.get te tx x=some vx) (hpx:s.rd vx=some (.agg [.int k a0,.int k a1],bx)) (hy:s.get te tyy y=some vy) (hpy:s.rd vy=some (.agg [.int k b0,.int k b1],by')) :
  VA P o s (opS x vx++opS y vy) (bx++by') (.p (.bool (bif f then (a0==b0&&a1==b1) else !(a0==b0&&a1==b1)))):=by
 refine ⟨?_,zS (zB hx) (zB hy),λe he=>(List.mem_append.1 he).elim (wO vx _ bx hpx e) (wO vy _ by' hpy e)⟩
 intro cx M κ tip s' a w hi hr hb
 have h1:=zFv (p9 hi hx hpx (zL hr) (λe he=>hb e (List.mem_append.2 (.inl he))))
 have h2:=zFv (p9 hi hy hpy (zH hr) (λe he=>hb e (List.mem_append.2 (.inr he))))
 refine ⟨_,?_,.p _ _ (.bool _)⟩
 have h3:=hrun w 9998
 cases f
 ·simp only [cond_false] at ho
  simp [execOp,ho,h1,h2,run_eqGuard_agg w .neq tx x y _ _ hg,run_neq_struct w tx,h3,Result.andThen]
 ·simp only [cond_true] at ho
  simp [execOp,ho,h1,h2,run_eqGuard_agg w .eql tx x y _ _ hg,run_eql_struct w tx,h3,Result.andThen]
end
section
variable {P:Program} [T:TEnv P] {ops:Array Oper} {s:AS} {r:List Oper} {K:AS->List Mic->Prop} {d:Nat} {ty:TypeId} {pos:String} {af:Array Edge} {v:AV} {x y:Operand} {tx tyy e:TypeId} {ei:TI} {k0:IntKind} {vx vy:AV} {bx by':List (Nat×ABlk)} {a0 a1 b0 b1:Int}
theorem RK.eAn (hg:P.eqGuardType P.depth tx=false) (ht0:((T.te tx).map (·.ty),T.te e,ei.ty,ei.w,s.get T.te tx x,s.rd vx,s.get T.te tyy y,s.rd vy)=(some (.arr 2 e),some ei,.int k0,1,some vx,some (.agg [.int k0 a0,.int k0 a1],bx),some vy,some (.agg [.int k0 b0,.int k0 b1],by')))
  (k:VK P ops r s K d (opS x vx++opS y vy) (bx++by') (.p (.bool (!(a0==b0&&a1==b1))))):RK P ops (⟨some d,.binOp .neq tx x y tyy,ty,pos,af,none⟩:: r) s K:=have ⟨ht,ht0⟩:=pq ht0;have ⟨he,ht0⟩:=pq ht0;have ⟨hk,ht0⟩:=pq ht0;have ⟨hw,ht0⟩:=pq ht0;have ⟨hx,ht0⟩:=pq ht0;have ⟨hpx,ht0⟩:=pq ht0;have ⟨hy,hpy⟩:=pq ht0;RK.va rfl rfl (zQv false rfl hg (λw d=>zLw T.ok ht he hk hw w d) hx hpx hy hpy) k
end
end Go.Sw
namespace Go.Sw
open Go
theorem scq {P:Program} {cx:Ctx} {s:AS} {J:Type} {c:Code} {f:J->Exit×AS} {j:J} (hne:∀ y l,(f y).1≠.goto l) (h:awp P cx c (OQ cx f j) s):awp P cx (.scope c) (OQ cx f j) s:=
 zK7 h λl s hq=>hne j l hq.1.symm
end Go.Sw
