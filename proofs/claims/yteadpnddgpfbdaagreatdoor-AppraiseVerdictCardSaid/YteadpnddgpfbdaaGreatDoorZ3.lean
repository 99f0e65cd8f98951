/- AppraiseVerdict (law 37: the verdict about evidence that is right but for up to two changes) is proved for every input, under no condition of ours; this text is a part of that proof. -/
import Derived.Test.YteadpnddgpfbdaaGreatDoorZ2
import Derived.Scope
import Derived.Laws.StructEq
import Derived.ChangeKeysEq
set_option linter.all false
open Go.Sw.RK renaming va -> Q0, sb -> Qi, st -> W4
open Nat renaming eq_of_beq_eq_true -> Q1, le_of_ble_eq_true -> Q2, beq -> Q6, zero_add -> Q7, blt -> Q8, le_refl -> Qb, ble -> Ql, mul_le_mul_right -> Qn, zero_le -> Qo, le_mul_of_pos_right -> Qs, succ_le_of_lt -> Qx, add_mul -> W0
open Bool renaming and_eq_true -> Q3, eq_false_iff -> Qf, or_eq_true -> W1
open Array renaming getD_eq_getD_getElem? -> Q4, length_toList -> Qj, size_append -> Qq
open List renaming mem_cons -> Q5, all_eq_true -> Q9, replicate -> Qa, mem_map -> Qc, mem_append -> Qd, map_cons -> Qe, eq_nil_of_length_eq_zero -> Qh, range -> Qr, drop_eq_nil_of_le -> Qu, singleton_append -> Qv, replicate_succ -> Qw, size_toArray -> Qy, flatten_cons -> Qz, mem_filter -> W2, length_map -> W3, map_nil -> W6
open Option renaming isSome_iff_exists -> Qg, map_eq_some_iff -> Qt
open Go.Builtin renaming zeroCells -> Qk
open Go.Sw.PV renaming len -> Qm, src -> W5
open Go.Value renaming pointer -> Qp
namespace Go.Sw
open Go
variable {B:NB}{K:AS->List Mic->Prop}{M:Mem}{P:Program}{Q:Exit->AS->Prop}{a a0 a1:Int}{af:Array Edge}{av:AV}{ax:Operand}{b b0 b1:Int}{blk blks bs bs0 by':LB}{c:PV}{cc:Int}{cs:List PV}{cx:Ctx}{d:Nat}{dst e e2:TypeId}{ei:TI}{env:LV}{fi:TI}{fo:Nat}{fs:List (TypeId×Nat)}{ft:TypeId}{hi:Option Operand}{hi2:Option Int}{i i0 i1:TI}{j k k0:Nat}{k2 kc kk kl:IntKind}{ks:List Nat}{l l' l2:List AV}{lo:Option Operand}{lo2:Option Int}{m:Nat}{mx:Option Operand}{mx2:Option Int}{n na:Nat}{o:Oper}{off:Nat}{ops:Array Oper}{p:PV}{pa:Array (Nat×Operand)}{pk:List (Nat×Nat)}{pl:List (Nat×Operand)}{pos:String}{ps:List PV}{q:PV}{qs:List PV}{r:List Oper}{rh rl rm:LV}{rr:PV}{rs:LV}{s s':AS}{src t t' t0 t1 t2:TypeId}{te:TE}{tip:Nat->Value}{tl:List TypeId}{ts:Array TypeId}{tx ty tyy:TypeId}{v:AV}{vs:LV}{vx vy:AV}{w w0:Nat}{x:Operand}{xl:List Operand}{xs:Array Operand}{y:Operand}{yl:List Operand}{ys:Array Operand}{z:PV}{α:Type}{κ:Nat->Option Nat}{f:α->PV}{u:α}
class zIa (P:Program) where
 te:TE
 ok:yP P te
section
abbrev VK (P:Program) (ops:Array Oper) (r:List Oper) (s:AS) (K:AS->List Mic->Prop) (d:Nat) (rs:LV) (bs:LB) (w:AV):Prop:=RK P ops r (s.put d w) λs' ms=>K s' (⟨rs,bs,[],some (d,some w),[]⟩:: ms)
abbrev BK (P:Program) (ops:Array Oper) (r:List Oper) (s:AS) (K:AS->List Mic->Prop) (d:Nat) (rs:LV) (bs:LB) (fr:List Nat) (k:Nat) (bl:zI) (w:AV):Prop:=RK P ops r ((s.setb k bl).put d w) λs' ms=>K s' (⟨rs,bs,fr,some (d,some w),[(k,bl)]⟩:: ms)
def GK (K:AS->List Mic->Prop) (dj:Nat) (b:Bool) (s:AS):List Mic->Prop
 | m :: ms=>K s ({ m with slots:=(dj,.p (.bool b)) :: m.slots } :: ms)
 | []=>False
theorem RK.g {dst:Option Nat} {op:Op} {dj:Nat} {b b':Bool} (hb':b'=b) (hj0:((ops[j]?).bind (·.dst),s.env dj)=(some dj,some (.p (.bool b')))) (k:RK P ops (⟨dst,op,ty,pos,af,none⟩:: r) s (GK K dj b)):RK P ops (⟨dst,op,ty,pos,af,some (j,b)⟩:: r) s K:=have ⟨hj,hb⟩:=pq hj0;by
 obtain ⟨s',ms,h1,h2⟩:=k;cases h1 with
 | cons _ _ _ _ _ _ he hh hr=>
  refine ⟨s',_,.cons _ _ _ _ _ _ ?_ ?_ ?_,h2⟩
  ·intro cx s a w K Q hm hs hw hk;have hy:=zHe hs hj (hm.1 (dj,.p (.bool b)) (by simp));have hwn:Region.wanted ⟨dst,op,ty,pos,af,some (j,b)⟩ (yielded ops a.tmps)=true:=by simp [Region.wanted,hy]
   rw [if_pos hwn];have:=he cx s a w K Q ⟨λe he=>hm.1 e (List.mem_cons_of_mem _ he),hm.2.1,hm.2.2⟩ hs hw hk;rw [if_pos (by simp [Region.wanted])] at this;exact this
  ·exact ⟨λe he=>(Q5.1 he).elim (λh=>by subst h;rw [<- hb'];exact hb) (hh.1 e),hh.2.1,hh.2.2⟩
  ·exact hr
variable [T:zIa P]
theorem RK.mv (h:s.get T.te ty x=some v) (k:VK P ops r s K d (opS x v) ([]) (v)):RK P ops (⟨some d,.move x,ty,pos,af,none⟩:: r) s K:=Q0 rfl rfl (Go.Sw.mv T.ok rfl h) k
theorem RK.as (h:s.get T.te ty x=some v) (k:VK P ops r s K d (opS x v) ([]) (v)):RK P ops (⟨some d,.assign x,ty,pos,af,none⟩:: r) s K:=Q0 rfl rfl (Go.Sw.asg T.ok rfl h) k
theorem RK.pT {c a b:Operand} {bb:Bool} (hb:bb=true) (hc0:(s.get T.te 0 c,s.get T.te ty a)=(some (.p (.bool bb)),some v)) (k:VK P ops r s K d (opS c (.p (.bool true))++opS a v) ([]) (v)):RK P ops (⟨some d,.pick c a b,ty,pos,af,none⟩:: r) s K:=have ⟨hc,h⟩:=pq hc0;Q0 rfl rfl (Go.Sw.pkT T.ok hb rfl hc h) k
theorem RK.pF {c a b:Operand} {bb:Bool} (hb:bb=false) (hc0:(s.get T.te 0 c,s.get T.te ty b)=(some (.p (.bool bb)),some v)) (k:VK P ops r s K d (opS c (.p (.bool false))++opS b v) ([]) (v)):RK P ops (⟨some d,.pick c a b,ty,pos,af,none⟩:: r) s K:=have ⟨hc,h⟩:=pq hc0;Q0 rfl rfl (Go.Sw.pkF T.ok hb rfl hc h) k
theorem RK.ad (hx0:(s.get T.te tx x,s.get T.te tyy y)=(some (.p (.int kk a)),some (.p (.int kk b)))) (k:VK P ops r s K d (opS x (.p (.int kk a))++opS y (.p (.int kk b))) ([]) (.p (.int kk (kk.wrap (a+b))))):RK P ops (⟨some d,.binOp .add tx x y tyy,ty,pos,af,none⟩:: r) s K:=have ⟨hx,hy⟩:=pq hx0;Q0 rfl rfl (Go.Sw.iop T.ok .add rfl hx hy) k
theorem RK.adE (hc:kk.wrap (a+b)=cc) (hx0:(s.get T.te tx x,s.get T.te tyy y)=(some (.p (.int kk a)),some (.p (.int kk b)))) (k:VK P ops r s K d (opS x (.p (.int kk a))++opS y (.p (.int kk b))) ([]) (.p (.int kk cc))):RK P ops (⟨some d,.binOp .add tx x y tyy,ty,pos,af,none⟩:: r) s K:=have ⟨hx,hy⟩:=pq hx0;Q0 rfl rfl (Go.Sw.iopE T.ok .add hc rfl hx hy) k
theorem RK.sbt (hx0:(s.get T.te tx x,s.get T.te tyy y)=(some (.p (.int kk a)),some (.p (.int kk b)))) (k:VK P ops r s K d (opS x (.p (.int kk a))++opS y (.p (.int kk b))) ([]) (.p (.int kk (kk.wrap (a - b))))):RK P ops (⟨some d,.binOp .sub tx x y tyy,ty,pos,af,none⟩:: r) s K:=have ⟨hx,hy⟩:=pq hx0;Q0 rfl rfl (Go.Sw.iop T.ok .sub rfl hx hy) k
theorem RK.sbtE (hc:kk.wrap (a - b)=cc) (hx0:(s.get T.te tx x,s.get T.te tyy y)=(some (.p (.int kk a)),some (.p (.int kk b)))) (k:VK P ops r s K d (opS x (.p (.int kk a))++opS y (.p (.int kk b))) ([]) (.p (.int kk cc))):RK P ops (⟨some d,.binOp .sub tx x y tyy,ty,pos,af,none⟩:: r) s K:=have ⟨hx,hy⟩:=pq hx0;Q0 rfl rfl (Go.Sw.iopE T.ok .sub hc rfl hx hy) k
theorem RK.mu (hx0:(s.get T.te tx x,s.get T.te tyy y)=(some (.p (.int kk a)),some (.p (.int kk b)))) (k:VK P ops r s K d (opS x (.p (.int kk a))++opS y (.p (.int kk b))) ([]) (.p (.int kk (kk.wrap (a*b))))):RK P ops (⟨some d,.binOp .mul tx x y tyy,ty,pos,af,none⟩:: r) s K:=have ⟨hx,hy⟩:=pq hx0;Q0 rfl rfl (Go.Sw.iop T.ok .mul rfl hx hy) k
theorem RK.muE (hc:kk.wrap (a*b)=cc) (hx0:(s.get T.te tx x,s.get T.te tyy y)=(some (.p (.int kk a)),some (.p (.int kk b)))) (k:VK P ops r s K d (opS x (.p (.int kk a))++opS y (.p (.int kk b))) ([]) (.p (.int kk cc))):RK P ops (⟨some d,.binOp .mul tx x y tyy,ty,pos,af,none⟩:: r) s K:=have ⟨hx,hy⟩:=pq hx0;Q0 rfl rfl (Go.Sw.iopE T.ok .mul hc rfl hx hy) k
theorem RK.an (hx0:(s.get T.te tx x,s.get T.te tyy y)=(some (.p (.int kk a)),some (.p (.int kk b)))) (k:VK P ops r s K d (opS x (.p (.int kk a))++opS y (.p (.int kk b))) ([]) (.p (.int kk (xG kk a b)))):RK P ops (⟨some d,.binOp .and tx x y tyy,ty,pos,af,none⟩:: r) s K:=have ⟨hx,hy⟩:=pq hx0;Q0 rfl rfl (Go.Sw.iop T.ok .and rfl hx hy) k
theorem RK.anE (hc:xG kk a b=cc) (hx0:(s.get T.te tx x,s.get T.te tyy y)=(some (.p (.int kk a)),some (.p (.int kk b)))) (k:VK P ops r s K d (opS x (.p (.int kk a))++opS y (.p (.int kk b))) ([]) (.p (.int kk cc))):RK P ops (⟨some d,.binOp .and tx x y tyy,ty,pos,af,none⟩:: r) s K:=have ⟨hx,hy⟩:=pq hx0;Q0 rfl rfl (Go.Sw.iopE T.ok .and hc rfl hx hy) k
theorem RK.oE (hc:ior kk a b=cc) (hx0:(s.get T.te tx x,s.get T.te tyy y)=(some (.p (.int kk a)),some (.p (.int kk b)))) (k:VK P ops r s K d (opS x (.p (.int kk a))++opS y (.p (.int kk b))) ([]) (.p (.int kk cc))):RK P ops (⟨some d,.binOp .or tx x y tyy,ty,pos,af,none⟩:: r) s K:=have ⟨hx,hy⟩:=pq hx0;Q0 rfl rfl (Go.Sw.iopE T.ok .or hc rfl hx hy) k
theorem RK.xo (hx0:(s.get T.te tx x,s.get T.te tyy y)=(some (.p (.int kk a)),some (.p (.int kk b)))) (k:VK P ops r s K d (opS x (.p (.int kk a))++opS y (.p (.int kk b))) ([]) (.p (.int kk (xS kk a b)))):RK P ops (⟨some d,.binOp .xor tx x y tyy,ty,pos,af,none⟩:: r) s K:=have ⟨hx,hy⟩:=pq hx0;Q0 rfl rfl (Go.Sw.iop T.ok .xor rfl hx hy) k
theorem RK.xoE (hc:xS kk a b=cc) (hx0:(s.get T.te tx x,s.get T.te tyy y)=(some (.p (.int kk a)),some (.p (.int kk b)))) (k:VK P ops r s K d (opS x (.p (.int kk a))++opS y (.p (.int kk b))) ([]) (.p (.int kk cc))):RK P ops (⟨some d,.binOp .xor tx x y tyy,ty,pos,af,none⟩:: r) s K:=have ⟨hx,hy⟩:=pq hx0;Q0 rfl rfl (Go.Sw.iopE T.ok .xor hc rfl hx hy) k
theorem RK.xo8 (hx0:(s.get T.te tx x,s.get T.te tyy y)=(some (.p (.int .u8 a)),some (.p (.int .u8 b)))) (k:VK P ops r s K d (opS x (.p (.int .u8 a))++opS y (.p (.int .u8 b))) ([]) (.p (.int .u8 (u8 (xS IntKind.u8 a b)).toNat))):RK P ops (⟨some d,.binOp .xor tx x y tyy,ty,pos,af,none⟩:: r) s K:=have ⟨hx,hy⟩:=pq hx0;Q0 rfl rfl (Go.Sw.iop8 T.ok .xor rfl hx hy) k
theorem RK.eq (hx0:(s.get T.te tx x,s.get T.te tyy y)=(some (.p (.int kk a)),some (.p (.int kk b)))) (k:VK P ops r s K d (opS x (.p (.int kk a))++opS y (.p (.int kk b))) ([]) (.p (.bool (a==b)))):RK P ops (⟨some d,.binOp .eql tx x y tyy,ty,pos,af,none⟩:: r) s K:=have ⟨hx,hy⟩:=pq hx0;Q0 rfl rfl (Go.Sw.cmp T.ok .eql rfl hx hy) k
theorem RK.ne (hx0:(s.get T.te tx x,s.get T.te tyy y)=(some (.p (.int kk a)),some (.p (.int kk b)))) (k:VK P ops r s K d (opS x (.p (.int kk a))++opS y (.p (.int kk b))) ([]) (.p (.bool (a != b)))):RK P ops (⟨some d,.binOp .neq tx x y tyy,ty,pos,af,none⟩:: r) s K:=have ⟨hx,hy⟩:=pq hx0;Q0 rfl rfl (Go.Sw.cmp T.ok .neq rfl hx hy) k
theorem RK.sne {a b:By} (hx0:(s.get T.te tx x,s.get T.te tyy y)=(some (.p (.str a)),some (.p (.str b)))) (k:VK P ops r s K d (opS x (.p (.str a))++opS y (.p (.str b))) ([]) (.p (.bool (SOp .neq a b)))):RK P ops (⟨some d,.binOp .neq tx x y tyy,ty,pos,af,none⟩:: r) s K:=have ⟨hx,hy⟩:=pq hx0;Q0 rfl rfl (Go.Sw.scm T.ok .neq rfl hx hy) k
theorem RK.ls (hx0:(s.get T.te tx x,s.get T.te tyy y)=(some (.p (.int kk a)),some (.p (.int kk b)))) (k:VK P ops r s K d (opS x (.p (.int kk a))++opS y (.p (.int kk b))) ([]) (.p (.bool (decide (a<b))))):RK P ops (⟨some d,.binOp .lss tx x y tyy,ty,pos,af,none⟩:: r) s K:=have ⟨hx,hy⟩:=pq hx0;Q0 rfl rfl (Go.Sw.cmp T.ok .lss rfl hx hy) k
theorem RK.le (hx0:(s.get T.te tx x,s.get T.te tyy y)=(some (.p (.int kk a)),some (.p (.int kk b)))) (k:VK P ops r s K d (opS x (.p (.int kk a))++opS y (.p (.int kk b))) ([]) (.p (.bool (decide (a<=b))))):RK P ops (⟨some d,.binOp .leq tx x y tyy,ty,pos,af,none⟩:: r) s K:=have ⟨hx,hy⟩:=pq hx0;Q0 rfl rfl (Go.Sw.cmp T.ok .leq rfl hx hy) k
theorem RK.gt (hx0:(s.get T.te tx x,s.get T.te tyy y)=(some (.p (.int kk a)),some (.p (.int kk b)))) (k:VK P ops r s K d (opS x (.p (.int kk a))++opS y (.p (.int kk b))) ([]) (.p (.bool (decide (b<a))))):RK P ops (⟨some d,.binOp .gtr tx x y tyy,ty,pos,af,none⟩:: r) s K:=have ⟨hx,hy⟩:=pq hx0;Q0 rfl rfl (Go.Sw.cmp T.ok .gtr rfl hx hy) k
theorem RK.ge (hx0:(s.get T.te tx x,s.get T.te tyy y)=(some (.p (.int kk a)),some (.p (.int kk b)))) (k:VK P ops r s K d (opS x (.p (.int kk a))++opS y (.p (.int kk b))) ([]) (.p (.bool (decide (b<=a))))):RK P ops (⟨some d,.binOp .geq tx x y tyy,ty,pos,af,none⟩:: r) s K:=have ⟨hx,hy⟩:=pq hx0;Q0 rfl rfl (Go.Sw.cmp T.ok .geq rfl hx hy) k
theorem RK.quo (h0:(b==0)=false) (hx:s.get T.te tx x=some (.p (.int kk a))) (hy:s.get T.te tyy y=some (.p (.int kk b))) (k:VK P ops r s K d (opS x (.p (.int kk a))++opS y (.p (.int kk b))) ([]) (.p (.int kk (kk.wrap (a.tdiv b))))):RK P ops (⟨some d,.binOp .quo tx x y tyy,ty,pos,af,none⟩:: r) s K:=Q0 rfl rfl (Go.Sw.quo T.ok h0 rfl hx hy) k
theorem RK.rem (h0:(b==0)=false) (hx:s.get T.te tx x=some (.p (.int kk a))) (hy:s.get T.te tyy y=some (.p (.int kk b))) (k:VK P ops r s K d (opS x (.p (.int kk a))++opS y (.p (.int kk b))) ([]) (.p (.int kk (a.tmod b)))):RK P ops (⟨some d,.binOp .rem tx x y tyy,ty,pos,af,none⟩:: r) s K:=Q0 rfl rfl (Go.Sw.rem T.ok h0 rfl hx hy) k
theorem RK.shl (h0:0<=b) (hx0:(s.get T.te tx x,s.get T.te tyy y)=(some (.p (.int kk a)),some (.p (.int k2 b)))) (k:VK P ops r s K d (opS x (.p (.int kk a))++opS y (.p (.int k2 b))) ([]) (.p (.int kk (tL kk a b)))):RK P ops (⟨some d,.binOp .shl tx x y tyy,ty,pos,af,none⟩:: r) s K:=have ⟨hx,hy⟩:=pq hx0;Q0 rfl rfl (Go.Sw.shl T.ok h0 rfl hx hy) k
theorem RK.shlE (hc:tL kk a b=cc) (h0:0<=b) (hx0:(s.get T.te tx x,s.get T.te tyy y)=(some (.p (.int kk a)),some (.p (.int k2 b)))) (k:VK P ops r s K d (opS x (.p (.int kk a))++opS y (.p (.int k2 b))) ([]) (.p (.int kk cc))):RK P ops (⟨some d,.binOp .shl tx x y tyy,ty,pos,af,none⟩:: r) s K:=have ⟨hx,hy⟩:=pq hx0;Q0 rfl rfl (Go.Sw.shlE T.ok hc h0 rfl hx hy) k
theorem RK.shr (h0:0<=b) (hx0:(s.get T.te tx x,s.get T.te tyy y)=(some (.p (.int kk a)),some (.p (.int k2 b)))) (k:VK P ops r s K d (opS x (.p (.int kk a))++opS y (.p (.int k2 b))) ([]) (.p (.int kk (xE kk a b)))):RK P ops (⟨some d,.binOp .shr tx x y tyy,ty,pos,af,none⟩:: r) s K:=have ⟨hx,hy⟩:=pq hx0;Q0 rfl rfl (Go.Sw.shr T.ok h0 rfl hx hy) k
theorem RK.shrE (hc:xE kk a b=cc) (h0:0<=b) (hx0:(s.get T.te tx x,s.get T.te tyy y)=(some (.p (.int kk a)),some (.p (.int k2 b)))) (k:VK P ops r s K d (opS x (.p (.int kk a))++opS y (.p (.int k2 b))) ([]) (.p (.int kk cc))):RK P ops (⟨some d,.binOp .shr tx x y tyy,ty,pos,af,none⟩:: r) s K:=have ⟨hx,hy⟩:=pq hx0;Q0 rfl rfl (Go.Sw.shrE T.ok hc h0 rfl hx hy) k
theorem RK.shl8 (h0:0<=b) (hx0:(s.get T.te tx x,s.get T.te tyy y)=(some (.p (.int .u8 a)),some (.p (.int k2 b)))) (k:VK P ops r s K d (opS x (.p (.int .u8 a))++opS y (.p (.int k2 b))) ([]) (.p (.int .u8 (u8 (tL .u8 a b)).toNat))):RK P ops (⟨some d,.binOp .shl tx x y tyy,ty,pos,af,none⟩:: r) s K:=have ⟨hx,hy⟩:=pq hx0;Q0 rfl rfl (Go.Sw.shlE T.ok (iw8 _ _) h0 rfl hx hy) k
theorem RK.shr8 {a:Nat} (h0:0<=b) (hx:s.get T.te tx x=some (.p (.int .u8 (a:Nat)))) (ha:a<256) (hy:s.get T.te tyy y=some (.p (.int k2 b))) (k:VK P ops r s K d (opS x (.p (.int .u8 (a:Nat)))++opS y (.p (.int k2 b))) ([]) (.p (.int .u8 (u8 (xE .u8 (a:Nat) b)).toNat))):RK P ops (⟨some d,.binOp .shr tx x y tyy,ty,pos,af,none⟩:: r) s K:=Q0 rfl rfl (Go.Sw.shrE T.ok (ir8 ha _) h0 rfl hx hy) k
theorem RK.no {a:Bool} (hx:s.get T.te tx x=some (.p (.bool a))) (k:VK P ops r s K d (opS x (.p (.bool a))) ([]) (.p (.bool (!a)))):RK P ops (⟨some d,.unOp .not tx x,ty,pos,af,none⟩:: r) s K:=Q0 rfl rfl (Go.Sw.not' T.ok rfl hx) k
theorem RK.com (hx:s.get T.te tx x=some (.p (.int kk a))) (k:VK P ops r s K d (opS x (.p (.int kk a))) ([]) (.p (.int kk (zJi kk a)))):RK P ops (⟨some d,.unOp .xor tx x,ty,pos,af,none⟩:: r) s K:=Q0 rfl rfl (Go.Sw.com T.ok rfl hx) k
theorem RK.cv (hs0:((T.te src).map (·.ty),(T.te dst).map (·.ty),s.get T.te src x)=(some (.int k2),some (.int kk),some (.p (.int k2 a)))) (k:VK P ops r s K d (opS x (.p (.int k2 a))) ([]) (.p (.int kk (kk.wrap a)))):RK P ops (⟨some d,.convert src dst x,ty,pos,af,none⟩:: r) s K:=have ⟨hs,hs0⟩:=pq hs0;have ⟨ht,hx⟩:=pq hs0;Q0 rfl rfl (Go.Sw.va_conv T.ok rfl hs ht hx) k
theorem RK.cv8 (hs0:((T.te src).map (·.ty),(T.te dst).map (·.ty),s.get T.te src x)=(some (.int k2),some (.int .u8),some (.p (.int k2 a)))) (k:VK P ops r s K d (opS x (.p (.int k2 a))) ([]) (.p (.int .u8 (u8 a).toNat))):RK P ops (⟨some d,.convert src dst x,ty,pos,af,none⟩:: r) s K:=have ⟨hs,hs0⟩:=pq hs0;have ⟨ht,hx⟩:=pq hs0;Q0 rfl rfl (Go.Sw.va_conv8 T.ok rfl hs ht hx) k
theorem RK.bts {l:By} (hs0:((T.te src).map (·.ty),(T.te e).map (·.ty),(T.te dst).map (·.ty),s.get T.te src x)=(some (.slice e),some (.int .u8),some .str,some v)) (hp:s.rd v=some (.bytes l,bs)) (k:VK P ops r s K d (opS x v) (bs) (.p (.str l))):RK P ops (⟨some d,.convert src dst x,ty,pos,af,none⟩:: r) s K:=have ⟨hs,hs0⟩:=pq hs0;have ⟨he,hs0⟩:=pq hs0;have ⟨ht,hx⟩:=pq hs0;Q0 rfl rfl (Go.Sw.va_bts T.ok rfl hs he ht hx hp) k
theorem RK.ncp (hx:s.get T.te 0 x=some (.ptr k0 n)) (k:VK P ops r s K d (opS x (.ptr k0 n)) ([]) (.ptr k0 n)):RK P ops (⟨some d,.nilCheck x,ty,pos,af,none⟩:: r) s K:=Q0 rfl rfl (Go.Sw.ncp T.ok rfl hx) k
theorem RK.fv {l:List PV} {f:Nat} (ht0:((T.te t).map (·.ty),fs[f]?,T.te ft,fi.known,s.get T.te t x,s.rd v,nH fi.isAgg l fo fi.w)=(some (.struct fs),some (ft,fo),some fi,true,some v,some (.agg l,bs),some q)) (k:VK P ops r s K d (opS x v) (bs) (.p q)):RK P ops (⟨some d,.field t x f,ty,pos,af,none⟩:: r) s K:=have ⟨ht,ht0⟩:=pq ht0;have ⟨hf,ht0⟩:=pq ht0;have ⟨he,ht0⟩:=pq ht0;have ⟨hne,ht0⟩:=pq ht0;have ⟨hx,ht0⟩:=pq ht0;have ⟨hp,hq⟩:=pq ht0;Q0 rfl rfl (Go.Sw.fv T.ok rfl ht hf he hne hx hp hq) k
theorem RK.fa {f:Nat} (ht0:((T.te t).map (·.ty),fs[f]?,T.te ft,nzw fi,s.get T.te 0 x)=(some (.struct fs),some (ft,fo),some fi,true,some (.ptr k0 off))) (k:VK P ops r s K d (opS x (.ptr k0 off)) ([]) (.ptr k0 (off+fo))):RK P ops (⟨some d,.fieldAddr t x f,ty,pos,af,none⟩:: r) s K:=have ⟨ht,ht0⟩:=pq ht0;have ⟨hf,ht0⟩:=pq ht0;have ⟨he,ht0⟩:=pq ht0;have ⟨hw,hx⟩:=pq ht0;Q0 rfl rfl (Go.Sw.fa T.ok rfl ht hf he hw hx) k
theorem RK.fc {l:List PV} {f:Nat} (ht0:((T.te t).map (·.ty),fs[f]?,T.te ft,nzw fi,s.get T.te 0 x,nH fi.isAgg l fo fi.w)=(some (.struct fs),some (ft,fo),some fi,true,some (.p (.cptr (.agg l))),some q)) (k:VK P ops r s K d (opS x (.p (.cptr (.agg l)))) ([]) (.p (.cptr q))):RK P ops (⟨some d,.fieldAddr t x f,ty,pos,af,none⟩:: r) s K:=have ⟨ht,ht0⟩:=pq ht0;have ⟨hf,ht0⟩:=pq ht0;have ⟨he,ht0⟩:=pq ht0;have ⟨hw,ht0⟩:=pq ht0;have ⟨hx,hq⟩:=pq ht0;Q0 rfl rfl (Go.Sw.fc T.ok rfl ht hf he hw hx hq) k
theorem RK.ixB {l:By} {u:UInt8} {i:Int} (h:idx l i=some u) (ht0:((T.te t).map (·.ty),T.te e,s.get T.te t x,s.rd v,1,s.get T.te 0 y)=(some (.slice e),some ei,some v,some (.bytes l,bs),ei.w,some (.p (.int .i64 i)))) (k:VK P ops r s K d (opS x v++opS y (.p (.int .i64 i))) (bs) (.p (.cptr (.int .u8 u.toNat)))):RK P ops (⟨some d,.indexAddr t x y,ty,pos,af,none⟩:: r) s K:=have ⟨ht,ht0⟩:=pq ht0;have ⟨he,ht0⟩:=pq ht0;have ⟨hx,ht0⟩:=pq ht0;have ⟨hp,ht0⟩:=pq ht0;have ⟨hw,hy⟩:=pq ht0;Q0 rfl rfl (Go.Sw.ixB T.ok h rfl ht he hx hp hw hy) k
theorem RK.ixM {l:List α} {i:Int} (h:idx l i=some u) (ht0:((T.te t).map (·.ty),T.te e,s.get T.te t x)=(some (.slice e),some ei,some v)) (hp:s.rd v=some (.sl w (l.map f),bs)) (hw0:(w,s.get T.te 0 y)=(ei.w,some (.p (.int .i64 i)))) (k:VK P ops r s K d (opS x v++opS y (.p (.int .i64 i))) (bs) (.p (.cptr (f u)))):RK P ops (⟨some d,.indexAddr t x y,ty,pos,af,none⟩:: r) s K:=have ⟨ht,ht0⟩:=pq ht0;have ⟨he,hx⟩:=pq ht0;have ⟨hw,hy⟩:=pq hw0;Q0 rfl rfl (Go.Sw.ixM T.ok h rfl ht he hx hp hw hy) k
theorem RK.ixS {l:By} {u:UInt8} {i:Int} (h:idx l i=some u) (ht0:((T.te t).map (·.ty),s.get T.te t x,s.get T.te 0 y)=(some .str,some (.p (.str l)),some (.p (.int .i64 i)))) (k:VK P ops r s K d (opS x (.p (.str l))++opS y (.p (.int .i64 i))) ([]) (.p (.int .u8 u.toNat))):RK P ops (⟨some d,.index t x y,ty,pos,af,none⟩:: r) s K:=have ⟨ht,ht0⟩:=pq ht0;have ⟨hx,hy⟩:=pq ht0;Q0 rfl rfl (Go.Sw.ixS T.ok h rfl ht hx hy) k
theorem RK.ixC {l:List α} {i:Int} (h:idx l i=some u) (ht0:((T.te t).map (·.ty),T.te e,s.get T.te t x,Ql l.length n,ei.isAgg,ei.w)=(some (.arr n e),some ei,some (.p (.cptr (.agg (l.map f)))),true,false,1)) (hf:∀ a,(f a).cells=[f a]) (hy:s.get T.te 0 y=some (.p (.int .i64 i))) (k:VK P ops r s K d (opS x (.p (.cptr (.agg (l.map f))))++opS y (.p (.int .i64 i))) ([]) (.p (.cptr (f u)))):RK P ops (⟨some d,.indexAddr t x y,ty,pos,af,none⟩:: r) s K:=have ⟨ht,ht0⟩:=pq ht0;have ⟨he,ht0⟩:=pq ht0;have ⟨hx,ht0⟩:=pq ht0;have ⟨hn,ht0⟩:=pq ht0;have ⟨hag,hw⟩:=pq ht0;Q0 rfl rfl (Go.Sw.ixC T.ok h rfl ht he hx hn hag hw hf hy) k
theorem RK.ixV {l:List α} {i:Int} (h:idx l i=some u) (ht0:((T.te t).map (·.ty),T.te e,ei.known,s.get T.te t x,s.rd v,Ql l.length n,ei.isAgg,ei.w)=(some (.arr n e),some ei,true,some v,some (.agg (l.map f),bs),true,false,1)) (hf:∀ a,(f a).cells=[f a]) (hy:s.get T.te 0 y=some (.p (.int .i64 i))) (k:VK P ops r s K d (opS x v++opS y (.p (.int .i64 i))) (bs) (.p (f u))):RK P ops (⟨some d,.index t x y,ty,pos,af,none⟩:: r) s K:=have ⟨ht,ht0⟩:=pq ht0;have ⟨he,ht0⟩:=pq ht0;have ⟨hne,ht0⟩:=pq ht0;have ⟨hx,ht0⟩:=pq ht0;have ⟨hp,ht0⟩:=pq ht0;have ⟨hn,ht0⟩:=pq ht0;have ⟨hag,hw⟩:=pq ht0;Q0 rfl rfl (Go.Sw.ixV T.ok h rfl ht he hne hx hp hy hn hag hw hf) k
theorem RK.ia {i:Int} (h:ixN n i=some j) (ht0:((T.te t).map (·.ty),T.te e,ei.w,s.get T.te t x,s.get T.te 0 y)=(some (.arr n e),some ei,1,some (.ptr k0 off),some (.p (.int .i64 i)))) (k:VK P ops r s K d (opS x (.ptr k0 off)++opS y (.p (.int .i64 i))) ([]) (.ptr k0 (off+j))):RK P ops (⟨some d,.indexAddr t x y,ty,pos,af,none⟩:: r) s K:=have ⟨ht,ht0⟩:=pq ht0;have ⟨he,ht0⟩:=pq ht0;have ⟨hw,ht0⟩:=pq ht0;have ⟨hx,hy⟩:=pq ht0;Q0 rfl rfl (Go.Sw.ia T.ok h rfl ht he hw hx hy) k
theorem RK.iaK {i:Nat} (ht0:((T.te t).map (·.ty),T.te e,s.get T.te t x,s.get T.te 0 y,Q8 i n)=(some (.arr n e),some ei,some (.ptr k0 off),some (.p (.int .i64 (i:Nat))),true)) (k:VK P ops r s K d (opS x (.ptr k0 off)++opS y (.p (.int .i64 (i:Nat)))) ([]) (.ptr k0 (off+i*ei.w))):RK P ops (⟨some d,.indexAddr t x y,ty,pos,af,none⟩:: r) s K:=have ⟨ht,ht0⟩:=pq ht0;have ⟨he,ht0⟩:=pq ht0;have ⟨hx,ht0⟩:=pq ht0;have ⟨hy,h1⟩:=pq ht0;Q0 rfl rfl (Go.Sw.iaK T.ok rfl ht he hx hy h1) k
theorem RK.ir {i:Int} (h:ixN n i=some j) (ht0:((T.te t).map (·.ty),T.te e,ei.w,s.get T.te t x,s.get T.te 0 y)=(some (.slice e),some ei,1,some (.ref k0 off n),some (.p (.int .i64 i)))) (k:VK P ops r s K d (opS x (.ref k0 off n)++opS y (.p (.int .i64 i))) ([]) (.ptr k0 (off+j))):RK P ops (⟨some d,.indexAddr t x y,ty,pos,af,none⟩:: r) s K:=have ⟨ht,ht0⟩:=pq ht0;have ⟨he,ht0⟩:=pq ht0;have ⟨hw,ht0⟩:=pq ht0;have ⟨hx,hy⟩:=pq ht0;Q0 rfl rfl (Go.Sw.ir T.ok h rfl ht he hw hx hy) k
theorem RK.ld (ht0:(T.te t,i.plain,s.get T.te 0 x,s.blk k0,l[off]?)=(some i,true,some (.ptr k0 off),some (.var l),some v)) (k:VK P ops r s K d (opS x (.ptr k0 off)) ([(k0,.var l)]) (v)):RK P ops (⟨some d,.load t x,ty,pos,af,none⟩:: r) s K:=have ⟨ht,ht0⟩:=pq ht0;have ⟨hp,ht0⟩:=pq ht0;have ⟨hx,ht0⟩:=pq ht0;have ⟨hb,hv⟩:=pq ht0;Q0 rfl rfl (Go.Sw.ld T.ok rfl ht hp hx hb hv) k
theorem RK.ldA {f:α->AV} {l:List α} (h:l[j]? = some u) (ht0:(T.te t,i.plain,s.get T.te 0 x)=(some i,true,some (.ptr k0 off))) (hj:off=j) (hb:s.blk k0=some (.var (l.map f))) (k:VK P ops r s K d (opS x (.ptr k0 off)) ([(k0,.var (l.map f))]) (f u)):RK P ops (⟨some d,.load t x,ty,pos,af,none⟩:: r) s K:=have ⟨ht,ht0⟩:=pq ht0;have ⟨hp,hx⟩:=pq ht0;Q0 rfl rfl (Go.Sw.ld T.ok rfl ht hp hx hb (by subst hj;simp [h])) k
theorem RK.ldN (ht0:(T.te t,i.isAgg,s.get T.te 0 x,s.blk k0,Ql (off+i.w) l.length)=(some i,true,some (.ptr k0 off),some (.var l),true)) (k:VK P ops r s K d (opS x (.ptr k0 off)) ([(k0,.var l)]) (.ag ((l.drop off).take i.w))):RK P ops (⟨some d,.load t x,ty,pos,af,none⟩:: r) s K:=have ⟨ht,ht0⟩:=pq ht0;have ⟨hp,ht0⟩:=pq ht0;have ⟨hx,ht0⟩:=pq ht0;have ⟨hb,hv⟩:=pq ht0;Q0 rfl rfl (Go.Sw.ldN T.ok rfl ht hp hx hb hv) k
theorem RK.ldW (ht0:(T.te t,i.isAgg,s.get T.te 0 x,s.blk k0,Q6 i.w l.length)=(some i,true,some (.ptr k0 0),some (.var l),true)) (k:VK P ops r s K d (opS x (.ptr k0 0)) ([(k0,.var l)]) (.ag l)):RK P ops (⟨some d,.load t x,ty,pos,af,none⟩:: r) s K:=have ⟨ht,ht0⟩:=pq ht0;have ⟨hp,ht0⟩:=pq ht0;have ⟨hx,ht0⟩:=pq ht0;have ⟨hb,hv⟩:=pq ht0;Q0 rfl rfl (Go.Sw.ldW T.ok rfl ht hp hx hb hv) k
theorem RK.ldC (ht0:(T.te t,i.plain,s.get T.te 0 x,q.cells)=(some i,true,some (.p (.cptr q)),[q])) (k:VK P ops r s K d (opS x (.p (.cptr q))) ([]) (.p q)):RK P ops (⟨some d,.load t x,ty,pos,af,none⟩:: r) s K:=have ⟨ht,ht0⟩:=pq ht0;have ⟨hp,ht0⟩:=pq ht0;have ⟨hx,hq⟩:=pq ht0;Q0 rfl rfl (Go.Sw.ldC T.ok rfl ht hp hx hq) k
theorem RK.ldD {l:List PV} (ht0:(T.te t,i.isAgg,s.get T.te 0 x,Q6 l.length i.w)=(some i,true,some (.p (.cptr (.agg l))),true)) (k:VK P ops r s K d (opS x (.p (.cptr (.agg l)))) ([]) (.p (.agg l))):RK P ops (⟨some d,.load t x,ty,pos,af,none⟩:: r) s K:=have ⟨ht,ht0⟩:=pq ht0;have ⟨hp,ht0⟩:=pq ht0;have ⟨hx,hl⟩:=pq ht0;Q0 rfl rfl (Go.Sw.ldCN T.ok rfl ht hp hx hl) k
theorem RK.st1 (ht0:(T.te t,s.get T.te 0 ax,s.get T.te t x,s.blk k0,i.w,v.cells,Q8 off l.length,v.one)=(some i,some (.ptr k0 off),some v,some (.var l),1,[v],true,true)) (k:RK P ops r (s.setb k0 (.var (l.set off v))) λs' ms=>K s' (⟨opS ax (.ptr k0 off)++opS x v,[(k0,.var l)],[],none,[(k0,.var (l.set off v))]⟩:: ms)):RK P ops (⟨none,.store t ax x,ty,pos,af,none⟩:: r) s K:=have ⟨ht,ht0⟩:=pq ht0;have ⟨ha,ht0⟩:=pq ht0;have ⟨hx,ht0⟩:=pq ht0;have ⟨hb,ht0⟩:=pq ht0;have ⟨hw,ht0⟩:=pq ht0;have ⟨hc,ht0⟩:=pq ht0;have ⟨hl,hone⟩:=pq ht0;by
 refine RK.so rfl ?_ k;have h1:off<l.length:=by have:=Q2 hl;omega
 have:=Go.Sw.sto (P:=P) (o:=⟨none,.store t ax x,ty,pos,af,none⟩) T.ok rfl rfl ht ha hx hb (by simp [hc,hw]) (by rw [hw];simpa using Qx h1) (by simp [hc,hone]);rw [hc,zAj h1] at this;exact this
theorem RK.stW (ht0:(T.te t,s.get T.te 0 ax,s.get T.te t x,s.blk k0,Q6 v.cells.length i.w,Q6 i.w l.length,v.cells.all AV.one)=(some i,some (.ptr k0 0),some v,some (.var l),true,true,true)) (k:RK P ops r (s.setb k0 (.var v.cells)) λs' ms=>K s' (⟨opS ax (.ptr k0 0)++opS x v,[(k0,.var l)],[],none,[(k0,.var v.cells)]⟩:: ms)):RK P ops (⟨none,.store t ax x,ty,pos,af,none⟩:: r) s K:=have ⟨ht,ht0⟩:=pq ht0;have ⟨ha,ht0⟩:=pq ht0;have ⟨hx,ht0⟩:=pq ht0;have ⟨hb,ht0⟩:=pq ht0;have ⟨hw,ht0⟩:=pq ht0;have ⟨hl,hone⟩:=pq ht0;by
 refine RK.so rfl ?_ k;have h1:=Q1 hw;have h2:=Q1 hl;have:=Go.Sw.sto (P:=P) (o:=⟨none,.store t ax x,ty,pos,af,none⟩) T.ok rfl rfl ht ha hx hb hw (by simp [h2]) hone;have e:qM l 0 v.cells=v.cells:=by rw [iU (by omega)];simp [h1,h2]
 rw [e] at this;exact this
theorem RK.stA {f:α->AV} {l l':List α} (h:vJ l j u=some l') (ht0:(T.te t,s.get T.te 0 ax)=(some i,some (.ptr k0 off))) (hj:off=j) (hx0:(s.get T.te t x,s.blk k0,i.w,(f u).cells,(f u).one)=(some (f u),some (.var (l.map f)),1,[f u],true)) (k:RK P ops r (s.setb k0 (.var (l'.map f))) λs' ms=>K s' (⟨opS ax (.ptr k0 off)++opS x (f u),[(k0,.var (l.map f))],[],none,[(k0,.var (l'.map f))]⟩:: ms)):RK P ops (⟨none,.store t ax x,ty,pos,af,none⟩:: r) s K:=have ⟨ht,ha⟩:=pq ht0;have ⟨hx,hx0⟩:=pq hx0;have ⟨hb,hx0⟩:=pq hx0;have ⟨hw,hx0⟩:=pq hx0;have ⟨hf,hone⟩:=pq hx0;by
 refine RK.so rfl ?_ k;subst hj;obtain ⟨h1,h2⟩:=fW h;have:=Go.Sw.sto (P:=P) (o:=⟨none,.store t ax x,ty,pos,af,none⟩) T.ok rfl rfl ht ha hx hb (by simp [hf,hw]) (by rw [hw];simpa using Qx h1) (by simp [hf,hone]);rw [hf,zAj (by simpa using h1),<- List.map_set,<- h2] at this;exact this
theorem RK.al (ht0:(T.te t,s.blk d)=(some i,none)) (k:BK P ops r s K d ([]) ([]) ([d]) (d) (.var (i.z.map zA)) (.ptr d 0)):RK P ops (⟨some d,.alloc t,ty,pos,af,none⟩:: r) s K:=have ⟨ht,hb⟩:=pq ht0;Qi rfl (Go.Sw.al T.ok rfl rfl ht hb) k
theorem RK.bx (hx0:(s.get T.te t x,s.blk d)=(some v,none)) (k:BK P ops r s K d (opS x v) ([]) ([d]) (d) (.var v.cells) (.ptr d 0)):RK P ops (⟨some d,.box t x,ty,pos,af,none⟩:: r) s K:=have ⟨hx,hb⟩:=pq hx0;Qi rfl (Go.Sw.bx T.ok rfl rfl hx hb) k
theorem RK.bl (hpl0:(pa.toList,T.te t,i.ty,fs.all (λf=>(T.te f.1).isSome))=(pl,some i,.struct fs,true)) (hp:nP s T.te pl vs rs) (hf:nU (zHu T.te fs) (i.z.map zA) vs=some l) (k:VK P ops r s K d (rs) ([]) (.ag l)):RK P ops (⟨some d,.build t pa,ty,pos,af,none⟩:: r) s K:=have ⟨hpl,hpl0⟩:=pq hpl0;have ⟨ht,hpl0⟩:=pq hpl0;have ⟨hty,hfs⟩:=pq hpl0;Q0 rfl rfl (Go.Sw.bld T.ok rfl hpl ht hty hfs hp hf) k
theorem RK.bA (hpl0:(pa.toList,T.te t,i.ty,T.te e)=(pl,some i,.arr n e,some ei)) (hp:nP s T.te pl vs rs) (hf:nU (λj=>some (j*ei.w,ei.w)) (i.z.map zA) vs=some l) (k:VK P ops r s K d (rs) ([]) (.ag l)):RK P ops (⟨some d,.build t pa,ty,pos,af,none⟩:: r) s K:=have ⟨hpl,hpl0⟩:=pq hpl0;have ⟨ht,hpl0⟩:=pq hpl0;have ⟨hty,he⟩:=pq hpl0;Q0 rfl rfl (Go.Sw.bldA T.ok rfl hpl ht hty he hp hf) k
theorem RK.liB (l:By) {bb:LB} (hpl0:(pa.toList,(T.te t).map (·.ty),T.te e,ei.z.length,1,Ql n 16777216)=(pl,some (.slice e),some ei,ei.w,ei.w,true)) (hp:nI s T.te e 0 pl vs rs bb) (hf0:(nU (λj=>some (j*ei.w,ei.w)) (u7 ei.z n) vs,l.length,s.blk d)=(some ((l.map λx=>PV.int .u8 x.toNat).map .p),n,none)) (k:BK P ops r s K d (rs) (bb) ([d]) (d) (.buf (.bytes l)) (.buf d l.length)):RK P ops (⟨some d,.buildSlice t n pa,ty,pos,af,none⟩:: r) s K:=have ⟨hpl,hpl0⟩:=pq hpl0;have ⟨ht,hpl0⟩:=pq hpl0;have ⟨he,hpl0⟩:=pq hpl0;have ⟨hz,hpl0⟩:=pq hpl0;have ⟨hw0,hn⟩:=pq hpl0;have ⟨hf,hf0⟩:=pq hf0;have ⟨hcn,hk⟩:=pq hf0;Qi rfl (Go.Sw.litB T.ok l rfl rfl hpl ht he hz hw0 hn hp hf hcn hk) k
theorem RK.li (f:α->PV) (l:List α) {bb:LB} (hpl0:(pa.toList,(T.te t).map (·.ty),T.te e,ei.z.length,ei.w,Q8 0 w,Ql (n*w) 16777216)=(pl,some (.slice e),some ei,ei.w,w,true,true)) (hp:nI s T.te e 0 pl vs rs bb) (hl:∀ a,(f a).cells.length=w) (hf0:(nU (λj=>some (j*ei.w,ei.w)) (u7 ei.z n) vs,l.length,s.blk d)=(some ((xJ (l.map f)).map .p),n,none)) (k:BK P ops r s K d (rs) (bb) ([d]) (d) (.buf (.sl w (l.map f))) (.buf d l.length)):RK P ops (⟨some d,.buildSlice t n pa,ty,pos,af,none⟩:: r) s K:=have ⟨hpl,hpl0⟩:=pq hpl0;have ⟨ht,hpl0⟩:=pq hpl0;have ⟨he,hpl0⟩:=pq hpl0;have ⟨hz,hpl0⟩:=pq hpl0;have ⟨hw,hpl0⟩:=pq hpl0;have ⟨hw0,hn⟩:=pq hpl0;have ⟨hf,hf0⟩:=pq hf0;have ⟨hcn,hk⟩:=pq hf0;Qi rfl (Go.Sw.lit T.ok f l rfl rfl hpl ht he hz hw hw0 hn hp hl hf hcn hk) k
theorem RK.lr (hpl0:(pa.toList,(T.te t).map (·.ty),T.te e,ei.z.length,Ql (n*ei.w) 16777216)=(pl,some (.slice e),some ei,ei.w,true)) (hp:nP s T.te pl vs rs) (hf0:(nU (λj=>some (j*ei.w,ei.w)) (u7 ei.z n) vs,s.blk d)=(some l,none)) (k:BK P ops r s K d (rs) ([]) ([d]) (d) (.var l) (.ref d 0 n)):RK P ops (⟨some d,.buildSlice t n pa,ty,pos,af,none⟩:: r) s K:=have ⟨hpl,hpl0⟩:=pq hpl0;have ⟨ht,hpl0⟩:=pq hpl0;have ⟨he,hpl0⟩:=pq hpl0;have ⟨hz,hn⟩:=pq hpl0;have ⟨hf,hk⟩:=pq hf0;Qi rfl (Go.Sw.sa_litr T.ok rfl rfl hpl ht he hz (zT hn) hp hf hk) k
theorem RK.ex (hx0:(s.get T.te 0 x,l[n]?)=(some (.tu l),some v)) (k:VK P ops r s K d (opS x (.tu l)) ([]) (v)):RK P ops (⟨some d,.extract x n,ty,pos,af,none⟩:: r) s K:=have ⟨hx,hq⟩:=pq hx0;Q0 rfl rfl (Go.Sw.va_extractA rfl hx hq) k
theorem RK.slB {l u:By} (h:sub l a b=some u) (ht0:((T.te t).map (·.ty),T.te e,s.get T.te t x)=(some (.slice e),some ei,some v)) (hp:s.rd v=some (.bytes l,bs)) (hw:1=ei.w) (hlo:Bd s T.te lo lo2 rl) (hhi:Bd s T.te hi hi2 rh) (hmx:Bd s T.te mx mx2 rm) (hm:mx2=none∨(mx2=hi2/\hi2.isSome=true)) (ea0:(lo2.getD 0,hi2.getD l.length)=(a,b)) (k:VK P ops r s K d (opS x v++(rl++(rh++rm))) (bs) (.p (.bytes u))):RK P ops (⟨some d,.slice t x lo hi mx,ty,pos,af,none⟩:: r) s K:=have ⟨ht,ht0⟩:=pq ht0;have ⟨he,hx⟩:=pq ht0;have ⟨ea,eb⟩:=pq ea0;Q0 rfl rfl (Go.Sw.slB T.ok h rfl ht he hx hp hw hlo hhi hmx hm ea eb) k
theorem RK.slM {l u:List α} (h:sub l a b=some u) (ht0:((T.te t).map (·.ty),T.te e,s.get T.te t x)=(some (.slice e),some ei,some v)) (hp:s.rd v=some (.sl w (l.map f),bs)) (hw:w=ei.w) (hlo:Bd s T.te lo lo2 rl) (hhi:Bd s T.te hi hi2 rh) (hmx:Bd s T.te mx mx2 rm) (hm:mx2=none∨(mx2=hi2/\hi2.isSome=true)) (ea0:(lo2.getD 0,hi2.getD l.length)=(a,b)) (k:VK P ops r s K d (opS x v++(rl++(rh++rm))) (bs) (.p (.sl w (u.map f)))):RK P ops (⟨some d,.slice t x lo hi mx,ty,pos,af,none⟩:: r) s K:=have ⟨ht,ht0⟩:=pq ht0;have ⟨he,hx⟩:=pq ht0;have ⟨ea,eb⟩:=pq ea0;Q0 rfl rfl (Go.Sw.slM T.ok h rfl ht he hx hp hw hlo hhi hmx hm ea eb) k
theorem RK.slT {l u:By} (h:sub l a b=some u) (ht0:((T.te t).map (·.ty),s.get T.te t x)=(some .str,some (.p (.str l)))) (hlo:Bd s T.te lo lo2 rl) (hhi:Bd s T.te hi hi2 rh) (ea0:(lo2.getD 0,hi2.getD l.length)=(a,b)) (k:VK P ops r s K d (opS x (.p (.str l))++(rl++rh)) ([]) (.p (.str u))):RK P ops (⟨some d,.slice t x lo hi none,ty,pos,af,none⟩:: r) s K:=have ⟨ht,hx⟩:=pq ht0;have ⟨ea,eb⟩:=pq ea0;Q0 rfl rfl (Go.Sw.slT T.ok h rfl ht hx hlo hhi ea eb) k
theorem RK.lnT {l:By} (ht0:((T.te t).map (·.ty),s.get T.te t x)=(some .str,some (.p (.str l)))) (k:VK P ops r s K d (opS x (.p (.str l))) ([]) (.p (.int .i64 l.length))):RK P ops (⟨some d,.call ⟨.builtin .len,#[x],#[t]⟩,ty,pos,af,none⟩:: r) s K:=have ⟨ht,hx⟩:=pq ht0;Q0 rfl rfl (Go.Sw.lnT T.ok rfl ht hx) k
theorem RK.lnS (ht0:((T.te t).map (·.ty),s.get T.te t x)=(some (.slice e),some v)) (hp:s.rd v=some (p,bs)) (hs:p.isSlice=true) (k:VK P ops r s K d (opS x v) (bs) (.p (.int .i64 p.len))):RK P ops (⟨some d,.call ⟨.builtin .len,#[x],#[t]⟩,ty,pos,af,none⟩:: r) s K:=have ⟨ht,hx⟩:=pq ht0;Q0 rfl rfl (Go.Sw.lnS T.ok rfl ht hx hp hs) k
theorem RK.lnM {l:List α} (ht0:((T.te t).map (·.ty),s.get T.te t x)=(some (.slice e),some v)) (hp:s.rd v=some (.sl w (l.map f),bs)) (k:VK P ops r s K d (opS x v) (bs) (.p (.int .i64 l.length))):RK P ops (⟨some d,.call ⟨.builtin .len,#[x],#[t]⟩,ty,pos,af,none⟩:: r) s K:=have ⟨ht,hx⟩:=pq ht0;Q0 rfl rfl (Go.Sw.lnM T.ok rfl ht hx hp) k
theorem RK.lnR (ht0:((T.te t).map (·.ty),s.get T.te t x)=(some (.slice e),some (.ref k0 off n))) (k:VK P ops r s K d (opS x (.ref k0 off n)) ([]) (.p (.int .i64 n))):RK P ops (⟨some d,.call ⟨.builtin .len,#[x],#[t]⟩,ty,pos,af,none⟩:: r) s K:=have ⟨ht,hx⟩:=pq ht0;Q0 rfl rfl (Go.Sw.va_lenR T.ok rfl ht hx) k
theorem RK.mi (hx0:(s.get T.te t x,s.get T.te t2 y)=(some (.p (.int kk a)),some (.p (.int kk b)))) (k:VK P ops r s K d (opS x (.p (.int kk a))++opS y (.p (.int kk b))) ([]) (.p (.int kk (if b<a then b else a)))):RK P ops (⟨some d,.call ⟨.builtin .min,#[x,y],#[t,t2]⟩,ty,pos,af,none⟩:: r) s K:=have ⟨hx,hy⟩:=pq hx0;Q0 rfl rfl (Go.Sw.minI T.ok rfl hx hy) k
theorem RK.apNB {b:Nat} {m u:By} (h:yN b [] m=some u) (ht0:((T.te t).map (·.ty),T.te e,(T.te t2).map (·.ty),s.get T.te t x,1,ei.z.length,s.get T.te t2 y,s.rd vy,ei.b,Q8 0 b,s.blk d)=(some (.slice e),some ei,some (.slice e2),some (.nl (.bytes [])),ei.w,ei.w,some vy,some (.bytes m,bs),b,true,none)) (k:BK P ops r s K d (opS x (.nl (.bytes []))++opS y vy) (bs) ([d]) (d) (.buf (.bytes u)) (.buf d u.length)):RK P ops (⟨some d,.call ⟨.builtin .append,#[x,y],#[t,t2]⟩,ty,pos,af,none⟩:: r) s K:=have ⟨ht,ht0⟩:=pq ht0;have ⟨he,ht0⟩:=pq ht0;have ⟨ht2,ht0⟩:=pq ht0;have ⟨hx,ht0⟩:=pq ht0;have ⟨hcw,ht0⟩:=pq ht0;have ⟨hz,ht0⟩:=pq ht0;have ⟨hy,ht0⟩:=pq ht0;have ⟨hp,ht0⟩:=pq ht0;have ⟨hb,ht0⟩:=pq ht0;have ⟨hb1,hk⟩:=pq ht0;Qi rfl (Go.Sw.apNB T.ok h rfl rfl ht he ht2 hx hcw hz hy hp hb hb1 hk) k
theorem RK.apB {b:Nat} {l m u:By} (h:yN b l m=some u) (ht0:((T.te t).map (·.ty),T.te e,(T.te t2).map (·.ty),s.get T.te t x,s.blk k0,1,ei.z.length,s.get T.te t2 y)=(some (.slice e),some ei,some (.slice e2),some (.buf k0 l.length),some (.buf (.bytes l)),ei.w,ei.w,some vy)) (hp:s.rd vy=some (.bytes m,bs)) (hb0:(ei.b,Q8 0 b)=(b,true)) (k:BK P ops r s K d (opS x (.buf k0 l.length)++opS y vy) ((k0,.buf (.bytes l)) :: bs) ([]) (k0) (.buf (.bytes u)) (.buf k0 u.length)):RK P ops (⟨some d,.call ⟨.builtin .append,#[x,y],#[t,t2]⟩,ty,pos,af,none⟩:: r) s K:=have ⟨ht,ht0⟩:=pq ht0;have ⟨he,ht0⟩:=pq ht0;have ⟨ht2,ht0⟩:=pq ht0;have ⟨hx,ht0⟩:=pq ht0;have ⟨hk,ht0⟩:=pq ht0;have ⟨hcw,ht0⟩:=pq ht0;have ⟨hz,hy⟩:=pq ht0;have ⟨hb,hb1⟩:=pq hb0;Qi rfl (Go.Sw.apB T.ok h rfl rfl ht he ht2 hx hk hcw hz hy hp hb hb1) k
theorem RK.apS {b:Nat} {l m u:By} (h:yN b l m=some u) (ht0:((T.te t).map (·.ty),T.te e,(T.te t2).map (·.ty),s.get T.te t x,s.blk k0,1,ei.z.length,s.get T.te t2 y,s.rd vy,ei.b,Q8 0 b)=(some (.slice e),some ei,some .str,some (.buf k0 l.length),some (.buf (.bytes l)),ei.w,ei.w,some vy,some (.str m,bs),b,true)) (k:BK P ops r s K d (opS x (.buf k0 l.length)++opS y vy) ((k0,.buf (.bytes l)) :: bs) ([]) (k0) (.buf (.bytes u)) (.buf k0 u.length)):RK P ops (⟨some d,.call ⟨.builtin .append,#[x,y],#[t,t2]⟩,ty,pos,af,none⟩:: r) s K:=have ⟨ht,ht0⟩:=pq ht0;have ⟨he,ht0⟩:=pq ht0;have ⟨ht2,ht0⟩:=pq ht0;have ⟨hx,ht0⟩:=pq ht0;have ⟨hk,ht0⟩:=pq ht0;have ⟨hcw,ht0⟩:=pq ht0;have ⟨hz,ht0⟩:=pq ht0;have ⟨hy,ht0⟩:=pq ht0;have ⟨hp,ht0⟩:=pq ht0;have ⟨hb,hb1⟩:=pq ht0;Qi rfl (Go.Sw.apS T.ok h rfl rfl ht he ht2 hx hk hcw hz hy hp hb hb1) k
theorem RK.apM {b:Nat} (f:α->PV) {l m u:List α} (h:yN b l m=some u) (ht0:((T.te t).map (·.ty),T.te e,(T.te t2).map (·.ty),s.get T.te t x,s.blk k0,w,Q8 0 w,ei.z.length,s.get T.te t2 y)=(some (.slice e),some ei,some (.slice e2),some (.buf k0 l.length),some (.buf (.sl w (l.map f))),ei.w,true,ei.w,some vy)) (hp:s.rd vy=some (.sl w (m.map f),bs)) (hone:∀ a,(f a).cells.all PV.one=true) (hb0:(ei.b,Q8 0 b)=(b,true)) (k:BK P ops r s K d (opS x (.buf k0 l.length)++opS y vy) ((k0,.buf (.sl w (l.map f))) :: bs) ([]) (k0) (.buf (.sl w (u.map f))) (.buf k0 u.length)):RK P ops (⟨some d,.call ⟨.builtin .append,#[x,y],#[t,t2]⟩,ty,pos,af,none⟩:: r) s K:=have ⟨ht,ht0⟩:=pq ht0;have ⟨he,ht0⟩:=pq ht0;have ⟨ht2,ht0⟩:=pq ht0;have ⟨hx,ht0⟩:=pq ht0;have ⟨hk,ht0⟩:=pq ht0;have ⟨hcw,ht0⟩:=pq ht0;have ⟨hw0,ht0⟩:=pq ht0;have ⟨hz,hy⟩:=pq ht0;have ⟨hb,hb1⟩:=pq hb0;Qi rfl (Go.Sw.apM T.ok f h rfl rfl ht he ht2 hx hk hcw hw0 hz hy hp hone hb hb1) k
theorem RK.stb {l:By} (hs0:((T.te src).map (·.ty),(T.te dst).map (·.ty),(T.te e).map (·.ty),s.get T.te src x)=(some .str,some (.slice e),some (.int .u8),some (.p (.str l)))) (hl:l.length<=140737488355328) (hk:s.blk d=none) (k:BK P ops r s K d (opS x (.p (.str l))) ([]) ([d]) (d) (.buf (.bytes l)) (.buf d l.length)):RK P ops (⟨some d,.convert src dst x,ty,pos,af,none⟩:: r) s K:=have ⟨hs,hs0⟩:=pq hs0;have ⟨ht,hs0⟩:=pq hs0;have ⟨he,hx⟩:=pq hs0;Qi rfl (Go.Sw.sa_stb T.ok rfl rfl hs ht he hx hl hk) k
theorem RK.bb {l:By} (ht0:((T.te t).map (·.ty),(T.te e).map (·.ty),s.get T.te t x,s.blk k0)=(some (.slice e),some (.int .u8),some (.buf k0 l.length),some (.buf (.bytes l)))) (hl:l≠[])
  (k:RK P ops r (s.put d (.buf k0 l.length)) λs' ms=>K s' (⟨opS x (.buf k0 l.length),[(k0,.buf (.bytes l))],[],some (d,some (.buf k0 l.length)),[]⟩:: ms)):RK P ops (⟨some d,.convert t t x,ty,pos,af,none⟩:: r) s K:=have ⟨ht,ht0⟩:=pq ht0;have ⟨he,ht0⟩:=pq ht0;have ⟨hx,hk⟩:=pq ht0;W4 rfl (Go.Sw.sa_bb T.ok rfl rfl ht he hx hk hl) k
theorem RK.cl {f:FuncId} {bb:LB} (h:Ok P f na (mkS (argE 0 ps) []) (mkS [(0,av)] blks)) (hxl0:(xs.toList,ts.toList)=(xl,tl)) (ha:mO s T.te xl tl ps rs bb) (hn0:(Q6 na ps.length,(kR (sh d) blks).all (λk=>(s.blk k).isNone))=(true,true))
  (k:RK P ops r (Mic.upd ⟨rs,bb,kR (sh d) blks,some (d,some (av.ren (sh d))),bR (sh d) blks⟩ s) λs' ms=>K s' (⟨rs,bb,kR (sh d) blks,some (d,some (av.ren (sh d))),bR (sh d) blks⟩:: ms)):RK P ops (⟨some d,.call ⟨.value (.func f),xs,ts⟩,ty,pos,af,none⟩:: r) s K:=have ⟨hxl,htl⟩:=pq hxl0;have ⟨hn,hf⟩:=pq hn0;
 by
 rw [zBn,zFj] at k;exact W4 rfl (Go.Sw.cl T.ok h rfl rfl hxl htl ha hn (by rw [<- zBn];exact hf)) k
theorem RK.cp {f:FuncId} {xa:Operand} {ta:TypeId} {bb:LB} (h:Ok P f na (mkS ((0,.ptr 0 0) :: argE 1 ps) [(0,.var (cs.map .p))]) (mkS [(0,av)] ((0,.var l') :: blks))) (hxl0:(xs.toList,ts.toList,s.get T.te ta xa,s.blk k0,s.rdL l)=(xa :: xl,ta :: tl,some (.ptr k0 0),some (.var l),some (cs,bs0))) (ha:mO s T.te xl tl ps rs bb) (hn0:(Q6 na (ps.length+1),(kR (sh d) blks).all (λk=>(s.blk k).isNone),blks.all (λe=>!Nat.beq e.1 0))=(true,true,true))
  (k:RK P ops r (Mic.upd ⟨opS xa (.ptr k0 0)++rs,(k0,.var l) :: (bs0++bb),kR (sh d) blks,some (d,some (av.ren (shp d k0))),bR (shp d k0) ((0,.var l') :: blks)⟩ s) λs' ms=>K s' (⟨opS xa (.ptr k0 0)++rs,(k0,.var l) :: (bs0++bb),kR (sh d) blks,some (d,some (av.ren (shp d k0))),bR (shp d k0) ((0,.var l') :: blks)⟩:: ms)):RK P ops (⟨some d,.call ⟨.value (.func f),xs,ts⟩,ty,pos,af,none⟩:: r) s K:=have ⟨hxl,hxl0⟩:=pq hxl0;have ⟨htl,hxl0⟩:=pq hxl0;have ⟨hxa,hxl0⟩:=pq hxl0;have ⟨hbk,hcs⟩:=pq hxl0;have ⟨hn,hn0⟩:=pq hn0;have ⟨hf,hne⟩:=pq hn0;
 by
 rw [zBn,zFj] at k;exact W4 rfl (Go.Sw.clp T.ok h rfl rfl hxl htl hxa hbk hcs ha hn (by rw [<- zBn];exact hf) hne) k
end
def AS.unb (s:AS) (k:Nat):AS:={ s with blk:=xX s.blk k }
theorem tE {i:Nat} (h:i≠k):xX B k i=B i:=by
 unfold xX;have:Q6 i k=false:=by rw [Qf];intro e;exact h (Q1 e)
 simp [this]
theorem dJ:xX B k k=none:=by simp [xX]
theorem RepA.unb {x:Value} (hr:RepA M κ tip B v x):v.oks (xX B k)=true->RepA M (eG κ k none) tip (xX B k) v x:=by
 have hne:∀ i,(xX B k i).isSome=true->i≠k:=by
  rintro i h rfl;rw [dJ] at h;cases h
 induction hr with
 | p v x h1=>intro _;exact .p v x h1
 | nl c h1=>intro _;exact .nl c h1
 | ptr i o b l h1 h2=>intro h;simp only [AV.oks] at h;exact .ptr i o b l (by rw [yH (hne i h)];exact h1) (by rw [tE (hne i h)];exact h2)
 | ref i o n b l h1 h2=>intro h;simp only [AV.oks] at h;exact .ref i o n b l (by rw [yH (hne i h)];exact h1) (by rw [tE (hne i h)];exact h2)
 | buf i n c x h1 hs h2 h3 h4=>intro h;simp only [AV.oks] at h;exact .buf i n c x (by rw [tE (hne i h)];exact h1) hs h2 h3 h4
 | ag l vs h1 _ ih=>intro h;simp only [AV.oks] at h;exact .ag l vs h1 (λj q hq=>ih j q hq (wS l h j q hq))
 | tu l vs h1 _ ih=>intro h;simp only [AV.oks] at h;exact .tu l vs h1 (λj q hq=>ih j q hq (wS l h j q hq))
 | fnv f l vs h1 _ ih=>intro h;simp only [AV.oks] at h;exact .fnv f l vs h1 (λj q hq=>ih j q hq (wS l h j q hq))
 | own i n w l x h1 h2 h3 hs=>intro h;simp only [AV.oks] at h;exact .own i n w l x (by rw [tE (hne i h)];exact h1) h2 h3 hs
 | optr i n o w l x h1 h2 h3 hs=>intro h;simp only [AV.oks] at h;exact .optr i n o w l x (by rw [tE (hne i h)];exact h1) h2 (λe=>by rw [yH (hne i h)];exact h3 e) hs
theorem Imp.fixV {t:Nat} (he:s.env t=some (.ptr k 0)) (hb:s.blk k=some (.var l)) (hrd:s.rdL l=some (cs,bs)) (hc:c.cells=cs)
  (hpk:∀ e∈pk,e.1≠k) (hE:∀ u v,u≠t->s.env u=some v->v.oks (xX s.blk k)=true) (hV:∀ i li,i≠k->s.blk i=some (.var li)->qG (xX s.blk k) li=true) (hW:∀ i w li,s.blk i=some (.own w li)->qG (xX s.blk k) li=true):Imp pk s ((s.unb k).put t (.p (.cptr c))):=by
 intro cx a w hcx hs;obtain ⟨M,κ,tip,h0,hp,hi⟩:=hs;obtain ⟨b,arr,e,fz,q1,q2,q3,q4,q5,q6,q7⟩:=hi.vars k l hb;obtain ⟨x,hx1,hx2⟩:=hi.env t _ he;obtain ⟨r1,r2⟩:=gJ hrd q5;cases hx2 with
 | ptr _ _ b' l' g1 g2=>
 rw [q1] at g1;cases g1;have hbase:cx.w0.heap.size<=b:=by
  rcases q7 with q7 | q7
  ·exact q7
  ·simp only [Ctx.pb,Qc] at q7;obtain ⟨e',he',rfl⟩:=q7;have h1:=(hp e' he').1;have:=hi.inj _ _ _ h1 q1;exact (hpk e' (hcx▸he') this).elim
 have hle:M.le (xB M b 0 arr.size (arr[·]?)):=vO λo _ _=>q6 o;have hother:∀ b' o,b'≠b->xB M b 0 arr.size (arr[·]?) b' o=M b' o:=by
  intro b' o hne;unfold xB;rw [if_neg (by intro h;exact hne h.1)]
 have hat:∀ j,j<arr.size->xB M b 0 arr.size (arr[·]?) b j=arr[j]?:=by
  intro j hj;unfold xB;rw [if_pos ⟨rfl,Qo _,hj⟩]
 have hmap:∀ {v:AV} {x:Value},RepA M κ tip s.blk v x->v.oks (xX s.blk k)=true->RepA (xB M b 0 arr.size (arr[·]?)) (eG κ k none) tip (xX s.blk k) v x:=
  λh ho=>(h.unb ho).mono hle
 have hcj:∀ (j:Nat) (q:PV),c.cells[j]? = some q->j<arr.size:=λj q hq=>by
  have:=(List.getElem?_eq_some_iff.1 hq).1;rw [hc] at this;omega
 refine ⟨xB M b 0 arr.size (arr[·]?),eG κ k none,tip,h0.trans' hle,λe' he'=>?_,{
  defers:=hi.defers
  size:=hi.size
  fr:=hi.fr
  mem:=λb' o y h=>by
   unfold xB at h;split at h
   ·rename_i hc';obtain ⟨rfl,_,hlt⟩:=hc';simp only [World.cell?,q2];simpa using h
   ·exact hi.mem b' o y h
  env:=λu v h=>by
   simp only [AS.put,AS.unb] at h;cases hbq:Q6 u t with
   | true=>
    have:=Q1 hbq;subst this;simp at h;subst h;refine ⟨_,hx1,.p _ _ (.cptr c b 0 (λj q hq=>?_) (λj q hq=>?_))⟩
    ·have:=hcj j q hq;rw [Q7,hat j this];simp [this]
    ·have hlt:=hcj j q hq;rw [hc] at hq;have:=(r2 j q hq).mono hle;simp only [mget,Q7,hat j hlt];simpa [Q4] using this
   | false=>
    simp [hbq] at h;have hne:u≠t:=by rintro rfl;simp at hbq
    obtain ⟨y,h1,h2⟩:=hi.env u v h;exact ⟨y,h1,hmap h2 (hE u v hne h)⟩
  vars:=λi li h=>by
   have h':xX s.blk k i=some (.var li):=h;have hne:i≠k:=by rintro rfl;rw [dJ] at h';cases h'
   rw [tE hne] at h';obtain ⟨b2,arr2,e2,fz2,z1,z2,z3,z4,z5,z6,z7⟩:=hi.vars i li h';have hnb:b2≠b:=λe=>hne (hi.inj i k b (e▸z1) q1);exact ⟨b2,arr2,e2,fz2,by rw [yH hne];exact z1,z2,z3,z4,λj q hq=>hmap (z5 j q hq) (wS li (hV i li hne h') j q hq),λo=>by rw [hother b2 o hnb];exact z6 o,z7⟩
  bufs:=λi ci h=>by
   have h':xX s.blk k i=some (.buf ci):=h;have hne:i≠k:=by rintro rfl;rw [dJ] at h';cases h'
   rw [tE hne] at h';obtain ⟨z1,z2,z3,z4⟩:=hi.bufs i ci h';refine ⟨z1.mono hle,z2,z3,?_⟩;rw [yH hne];rcases z4 with z4 | ⟨b2,n2,cap2,arr2,e2,fz2,y1,y2,y3,y4,y5,y6,y7,y8⟩
   ·exact .inl z4
   ·have hnb:b2≠b:=λe=>hne (hi.inj i k b (e▸y2) q1);exact .inr ⟨b2,n2,cap2,arr2,e2,fz2,y1,y2,y3,y4,y5,y6,y7,λj hj=>by rw [hother b2 j hnb];exact y8 j hj⟩
  inj:=λi i' b' h1 h2=>by
   have e1:i≠k:=by rintro rfl;rw [vW] at h1;cases h1
   have e2:i'≠k:=by rintro rfl;rw [vW] at h2;cases h2
   rw [yH e1] at h1;rw [yH e2] at h2;exact hi.inj i i' b' h1 h2
  dom:=λi h=>by
   have h':xX s.blk k i=none:=h;by_cases hne:i=k
   ·subst hne;exact vW _ _ _
   ·rw [tE hne] at h';rw [yH hne];exact hi.dom i h'
  glob:=hi.glob.mono hle
  old:=λb' o hb'=>by rw [hother b' o (by omega)];exact hi.old b' o hb'
  owns:=hi.owns.keep λi wd li h=>by
   have h':xX s.blk k i=some (.own wd li):=h;have hne:i≠k:=by rintro rfl;rw [dJ] at h';cases h'
   rw [tE hne] at h';exact ⟨h',yH hne,rfl,λb2 z=>⟨rfl,λo hm=>by rw [hother b2 o (λe=>hne (hi.inj i k b (e▸z) q1))];exact hm⟩,λj q x hq hr=>hmap hr (wS li (hW i wd li h') j q hq)⟩}⟩
 have hne:e'.1≠k:=hpk e' (hcx▸he');rw [yH hne];exact hp e' he'
theorem Imp.pureT {t:Nat} (j:Nat) (he:s.env t=some (.tu l)) (hj:l[j]? = some v) (hr:s.rd v=some (p,bs)):Imp pk s (s.put t (.tu (l.set j (.p p)))):=by
 intro cx a w _ hs;obtain ⟨M,κ,tip,h0,hp,hi⟩:=hs;refine ⟨M,κ,tip,h0,hp,{ hi with env:=λu y e=>?_ }⟩;simp only [AS.put] at e;cases hb:Q6 u t with
 | true=>
  have:=Q1 hb;subst this;simp at e;subst e;obtain ⟨x,h1,h2⟩:=hi.env u _ he;cases h2 with
  | tu _ vs g1 g2=>
  refine ⟨_,h1,.tu _ vs (by simpa using g1) (λi q hq=>?_)⟩;rw [List.getElem?_set] at hq;split at hq
  ·rename_i e;subst e;split at hq
   ·cases hq;exact .p _ _ (zIb (g2 j v hj) hr)
   ·cases hq
  ·exact g2 i q hq
 | false=>
  simp [hb] at e;exact hi.env u y e
section
theorem zRj {c:Code} (h:awp P cx c Q s) (hq:∀ l s,¬ Q (.goto l) s):awp P cx (.scope c) Q s:=λa w hs=>wp_scope_straight (wp_mono (h a w hs) λe a' w' ⟨s',h1,h2⟩ =>by
 cases e with
 | goto l=>exact (hq l s' h2).elim
 | _=>exact ⟨s',h1,h2⟩)
theorem zQx {l:Nat} (h:Q .normal s):awp P cx (.label l) Q s:=λ_ _ hs=>wp_label ⟨s,hs,h⟩
end
theorem Imp.freezeC {k2 j0:Nat} (he:s.blk k2=some (.var l2)) (hj0:l2[j0]? = some (.ref k 0 n)) (hkk:k2≠k) (hb:s.blk k=some (.var l)) (hrd:s.rdL l=some (cs,bs)) (hc:gI w0 c cs) (hcn:c.len=n) (hw:0<w0) (hml:n<=maxLen)
  (hpk:∀ e∈pk,e.1≠k) (hE:∀ u v,s.env u=some v->v.oks (xX s.blk k)=true) (hV:∀ i li,i≠k->i≠k2->s.blk i=some (.var li)->qG (xX s.blk k) li=true) (hV2:qG (xX s.blk k) (l2.set j0 (.p .nilp))=true) (hW:∀ i w li,s.blk i=some (.own w li)->qG (xX s.blk k) li=true):Imp pk s ((s.setb k (.buf c)).setb k2 (.var (l2.set j0 (.buf k n)))):=by
 intro cx a w hcx hs;obtain ⟨M,κ,tip,h0,hp,hi⟩:=hs;obtain ⟨b,arr,e,fz,q1,q2,q3,q4,q5,q6,q7⟩:=hi.vars k l hb;obtain ⟨bb,arrb,eb,fzb,p1,p2,p3,p4,p5,p6,p7⟩:=hi.vars k2 l2 he;obtain ⟨r1,r2⟩:=gJ hrd q5;obtain ⟨c1,c2,c3,c4⟩:=hc.cells r2;have hasz:arr.size=n*w0:=by rw [q4,<- r1,<- c4,hcn]
 have hx2:=p5 j0 _ hj0;generalize hx:arrb.getD j0 undef=xx at hx2;cases hx2 with
 | ref _ _ _ b' l' g1 g2=>
 rw [q1] at g1;cases g1;have hbase:cx.w0.heap.size<=b:=by
  rcases q7 with q7 | q7
  ·exact q7
  ·simp only [Ctx.pb,Qc] at q7;obtain ⟨e',he',rfl⟩:=q7;have h1:=(hp e' he').1;have:=hi.inj _ _ _ h1 q1;exact (hpk e' (hcx▸he') this).elim
 have hle:M.le (xB M b 0 (n*c.width) (arr[·]?)):=vO λo _ _=>q6 o;have hrep:Rep (xB M b 0 (n*c.width) (arr[·]?)) c (.slice (some ⟨b,0,none⟩) n n):=by
  have:=xT (M':=xB M b 0 (n*c.width) (arr[·]?)) (b:=b) (o:=0) (cap:=n) c1 c2 hle ?_ (by omega)
  ·rwa [hcn] at this
  intro j hj;rw [hcn] at hj;simp only [xB,Q7];rw [if_pos ⟨trivial,Qo _,hj⟩];rw [c3,<- hasz] at hj;simp [hj]
 have hother:∀ b' o,b'≠b->xB M b 0 (n*c.width) (arr[·]?) b' o=M b' o:=by
  intro b' o hne;unfold xB;rw [if_neg (by intro h;exact hne h.1)]
 generalize hS:(s.setb k (.buf c)).setb k2 (.var (l2.set j0 (.buf k n)))=S;have hSk:S.blk k=some (.buf c):=by rw [<- hS,zR (Ne.symm hkk)];exact zU _ _ _
 have hSk2:S.blk k2=some (.var (l2.set j0 (.buf k n))):=by rw [<- hS];exact zU _ _ _
 have hSo:∀ i,i≠k->i≠k2->S.blk i=s.blk i:=λi h1 h2=>by rw [<- hS,zR h2,zR h1]
 have hSe:S.env=s.env:=by rw [<- hS];rfl
 have hT:∀ i,i≠k->mQ tip k (.slice (some ⟨b,0,none⟩) n n) i=tip i:=λi h=>yW h;have hmap0:∀ {v:AV} {x:Value},RepA M κ tip s.blk v x->v.oks (xX s.blk k)=true->RepA M κ (mQ tip k (.slice (some ⟨b,0,none⟩) n n)) (s.setb k (.buf c)).blk v x:=
  λh ho=>h.frz (λi h=>zR h) hT ho
 have gle:GLe κ κ (mQ tip k (.slice (some ⟨b,0,none⟩) n n)) (mQ tip k (.slice (some ⟨b,0,none⟩) n n)) (s.setb k (.buf c)).blk S.blk:=by
  rw [<- hS];exact zP2 (by rw [zR hkk];exact he)
 have hmap:∀ {v:AV} {x:Value},RepA M κ tip s.blk v x->v.oks (xX s.blk k)=true->RepA (xB M b 0 (n*c.width) (arr[·]?)) κ (mQ tip k (.slice (some ⟨b,0,none⟩) n n)) S.blk v x:=
  λh ho=>((hmap0 h ho).ghost gle).mono hle
 refine ⟨xB M b 0 (n*c.width) (arr[·]?),κ,mQ tip k (.slice (some ⟨b,0,none⟩) n n),h0.trans' hle,hp,{
  defers:=hi.defers
  size:=hi.size
  fr:=hi.fr
  mem:=λb' o y h=>by
   unfold xB at h;split at h
   ·rename_i hc';obtain ⟨rfl,_,hlt⟩:=hc';simp only [World.cell?,q2];simpa using h
   ·exact hi.mem b' o y h
  env:=λu v h=>by
   rw [hSe] at h;obtain ⟨y,h1,h2⟩:=hi.env u v h;exact ⟨y,h1,hmap h2 (hE u v h)⟩
  vars:=λi li h=>by
   have hne:i≠k:=by rintro rfl;rw [hSk] at h;cases h
   by_cases h2:i=k2
   ·subst h2;rw [hSk2] at h;cases h;refine ⟨bb,arrb,eb,fzb,p1,p2,p3,by simpa using p4,λj q hq=>?_,λo=>by rw [hother bb o (λe=>hne (hi.inj i k b (e▸p1) q1))];exact p6 o,p7⟩;rw [List.getElem?_set] at hq;split at hq
    ·rename_i e;subst e;split at hq
     ·cases hq;rw [hx];refine .buf k n c _ hSk c2 (by omega) ?_ (λ_=>(yR _ _ _).symm);rw [<- hcn,tQ c2,hcn];exact hrep
     ·cases hq
    ·rename_i hjn;refine hmap (p5 j q hq) (wS _ hV2 j q ?_);rw [List.getElem?_set_ne hjn];exact hq
   ·rw [hSo i hne h2] at h;obtain ⟨b2,arr2,e2,fz2,z1,z2,z3,z4,z5,z6,z7⟩:=hi.vars i li h;have hnb:b2≠b:=λe=>hne (hi.inj i k b (e▸z1) q1);exact ⟨b2,arr2,e2,fz2,z1,z2,z3,z4,λj q hq=>hmap (z5 j q hq) (wS li (hV i li hne h2 h) j q hq),λo=>by rw [hother b2 o hnb];exact z6 o,z7⟩
  bufs:=λi ci h=>by
   by_cases hne:i=k
   ·subst hne;rw [hSk] at h;cases h;rw [yR];refine ⟨hrep,c2,by omega,.inr ⟨b,n,n,arr,e,fz,rfl,q1,hbase,q2,q3,by rw [c3,hasz];exact Qb _,hml,λj hj=>?_⟩⟩;unfold xB;rw [if_neg (by omega)];exact q6 j
   ·have h2:i≠k2:=by rintro rfl;rw [hSk2] at h;cases h
    rw [hSo i hne h2] at h;obtain ⟨z1,z2,z3,z4⟩:=hi.bufs i ci h;rw [hT i hne];refine ⟨z1.mono hle,z2,z3,?_⟩;rcases z4 with z4 | ⟨b2,n2,cap2,arr2,e2,fz2,y1,y2,y3,y4,y5,y6,y7,y8⟩
    ·exact .inl z4
    ·have hnb:b2≠b:=λe=>hne (hi.inj i k b (e▸y2) q1);exact .inr ⟨b2,n2,cap2,arr2,e2,fz2,y1,y2,y3,y4,y5,y6,y7,λj hj=>by rw [hother b2 j hnb];exact y8 j hj⟩
  inj:=hi.inj
  dom:=λi h=>by
   by_cases hne:i=k
   ·subst hne;rw [hSk] at h;cases h
   ·by_cases h2:i=k2
    ·subst h2;rw [hSk2] at h;cases h
    ·rw [hSo i hne h2] at h;exact hi.dom i h
  glob:=hi.glob.mono hle
  old:=λb' o hb'=>by rw [hother b' o (by omega)];exact hi.old b' o hb'
  owns:=hi.owns.keep λi wd li h=>by
   have hne:i≠k:=by rintro rfl;rw [hSk] at h;cases h
   have h2:i≠k2:=by rintro rfl;rw [hSk2] at h;cases h
   rw [hSo i hne h2] at h;exact ⟨h,rfl,hT i hne,λb2 z=>⟨rfl,λo hm=>by rw [hother b2 o (λe=>hne (hi.inj i k b (e▸z) q1))];exact hm⟩,λj q x hq hr=>hmap hr (wS li (hW i wd li h) j q hq)⟩}⟩
section
variable {ms:List Mic} 
theorem sa_callf {fs:List PV} {f:FuncId} {bb:LB} (hd:o.dst=some d) (ho:o.op=.call { callee:=.value x,args:=xs,argTypes:=ts }) (hx:s.get te tx x=some (.p (.fn f fs cs)))
  (hok:Ok P f na (mkS (argE 0 (fs++(ps++cs))) []) (mkS [(0,av)] blks)) (hxl:xs.toList=xl) (htl:ts.toList=tl) (ha:mO s te xl tl ps rs bb) (hn:na=(fs++(ps++cs)).length) (hf:∀ k∈(blks.map λe=>sh d e.1),s.blk k=none) :
  SA P o s ⟨opS x (.p (.fn f fs cs))++rs,bb,blks.map λe=>sh d e.1,some (d,some (av.ren (sh d))),blks.map λe=>(sh d e.1,e.2.ren (sh d))⟩:=by
 refine ⟨?_,yK (zJ hx) ha.reads.1,ha.reads.2,hf⟩;intro cx s' a w K Q hm hs hws hk;obtain ⟨M,κ,tip,h0,hp,hi⟩:=hs;obtain ⟨hl,hrep⟩:=ha.rep hi (zX hm.1) hm.2.1;have hxr:=repA_pv (zY hi (yJ hx s' (yD hm.1)));generalize hev:a.eval x=z at hxr;cases hxr with
 | fn _ _ _ vf vc e1 e2 e3 e4=>
 have hmap:(xs.map a.eval).toList=xl.map a.eval:=by simp [hxl]
 have hsz:(vf++xs.map a.eval++vc).size=(fs++(ps++cs)).length:=by
  have:(xs.map a.eval).size=ps.length:=by rw [<- hl,<- Qj,hmap];simp
  simp only [Qq,List.length_append,this,e1,e2];omega
 have hinv:=zMq (w:=w) (hi.globw hp) hi.mem hsz (λj p hj=>by
  have hxsz:(xs.map a.eval).size=ps.length:=by rw [<- hl,<- Qj,hmap];simp
  rw [Q4];rw [List.getElem?_append] at hj;rw [Array.append_assoc,Array.getElem?_append];split at hj
  ·rename_i h1;rw [if_pos (by omega)];simpa [Q4] using e3 j p hj
  ·rename_i h1;rw [if_neg (by omega),Array.getElem?_append,hxsz];rw [List.getElem?_append] at hj;split at hj
   ·rename_i h2;rw [if_pos (by omega)];have:=hrep (j - fs.length) p hj;rw [e1,<- Array.getElem?_toList,hmap];exact this
   ·rename_i h2;rw [if_neg (by omega),e1];simpa [Q4] using e4 _ p hj)
 have hrun:(execOp a.eval o).run P w=.ok (.enter f (vf++xs.map a.eval++vc)) w:=by
  obtain ⟨fn,h1,h2,h3⟩:=hok.1;have h2':fn.body≠none:=by intro e;simp [e] at h2
  have h3':fn.name ≠ "runtime.NumGoroutine":=by intro e;simp [e] at h3
  simp [execOp,ho,resolve,hev,Deferred.ofValue,invoke,callFunc,h1,h2',h3']
 subst hn;unfold Oper.wp;rw [hrun];show Calls P f _ w _;refine (hok.2 w M [] _ _ _ hinv (by simp)).mono ?_;rintro e w' ⟨v,rfl,M',κ',tip',h0',hp',hr⟩;show K (a.put o.dst v) w';rw [hd];refine hk _ _ ?_;rw [zDr];obtain ⟨i1,i2⟩:=hi.import h0' hr (sh d) (λj _ j' _ h=>zOt d h) (by simp) (λj hj=>.inr (by
  refine hm.2.2 (sh d j) ?_;obtain ⟨e,he,rfl⟩:=Qc.1 hj;exact Qc.2 ⟨e,he,rfl⟩))
 obtain ⟨x,hx,hrx⟩:=hr.env 0 av (by simp [mkS,lk]);simp at hx;subst hx;refine ⟨M',_,_,h0.trans' h0',?_,i1.put (hws d (by simp [Mic.ws])) (i2 av v hrx)⟩;intro k hk';obtain ⟨h1,h2⟩:=hp k hk';refine ⟨?_,h2⟩;have:fk (sh d) (blks.map (·.1)) k.1=none:=by
  cases hfk:fk (sh d) (blks.map (·.1)) k.1 with
  | none=>rfl
  | some j=>
   obtain ⟨hj,he⟩:=qQ hfk;have:=hm.2.2 (sh d j) (by obtain ⟨e,he',rfl⟩:=Qc.1 hj;exact Qc.2 ⟨e,he',rfl⟩);rw [he,hi.dom _ this] at h1;cases h1
 simp only [this];exact h1
theorem sa_callpf {f:FuncId} {bb:LB} (hd:o.dst=some d)
  (ho:o.op=.call { callee:=.value x,args:=xs,argTypes:=ts }) (hxa:s.get te tx x=some (.fnv f [.ptr k 0])) (hok:Ok P f na (mkS ((0,.ptr 0 0) :: argE 1 ps) [(0,.var (cs.map .p))]) (mkS [(0,av)] ((0,.var l') :: blks))) (hxl:xs.toList=xl) (htl:ts.toList=tl) (hbk:s.blk k=some (.var l)) (hcs:s.rdL l=some (cs,bs0))
  (ha:mO s te xl tl ps rs bb) (hn:na=ps.length+1) (hf:∀ j∈(blks.map λe=>sh d e.1),s.blk j=none) (hne:∀ e∈blks,e.1≠0) :
  SA P o s ⟨opS x (.fnv f [.ptr k 0])++rs,(k,.var l) :: (bs0++bb),blks.map λe=>sh d e.1,some (d,some (av.ren (shp d k))),((0,.var l') :: blks).map λe=>(shp d k e.1,e.2.ren (shp d k))⟩:=by
 refine ⟨?_,yK (zJ hxa) ha.reads.1,?_,hf⟩
 ·intro cx s' a w K Q hm hs hws hk;obtain ⟨M,κ,tip,h0,hp,hi⟩:=hs;have hb':∀ e∈bb,s'.blk e.1=some e.2:=λe he=>hm.2.1 e (by simp [he]);have hbs':∀ e∈bs0,s'.blk e.1=some e.2:=λe he=>hm.2.1 e (by simp [he]);have hbk':s'.blk k=some (.var l):=hm.2.1 (k,.var l) (by simp);obtain ⟨hl,hrep⟩:=ha.rep hi (zX hm.1) hb';have hxa':=zY hi (yJ hxa s' (yD hm.1));obtain ⟨b,arr,e,fz,q1,q2,q3,q4,q5,q6,q7⟩:=hi.vars k l hbk';have hev:a.eval x=.func (.func f) #[.pointer (some ⟨b,0,none⟩)] #[]:=by
   generalize a.eval x=z at hxa';cases hxa' with
   | fnv _ _ vs g1 g2=>
    have g3:=g2 0 (.ptr k 0) rfl;obtain ⟨y,hy⟩:∃ y,vs=#[y]:=by
     cases vs with
     | mk l=>
      match l with
      | [y]=>exact ⟨y,rfl⟩
      | []=>simp at g1
      | _ :: _ :: _=>simp at g1
    subst hy;have g4:(#[y]:Array Value).getD 0 undef=y:=rfl;rw [g4] at g3;cases g3 with
    | ptr _ _ b' _ g5 g6=>rw [q1] at g5;cases g5;rfl
  obtain ⟨c1,c2⟩:=gJ (eI l cs bs0 hcs hbs') q5;have hmap:(#[Qp (some ⟨b,0,none⟩)]++xs.map a.eval++#[]).toList=.pointer (some ⟨b,0,none⟩) :: xl.map a.eval:=by simp [hxl]
  have hsz:(#[Qp (some ⟨b,0,none⟩)]++xs.map a.eval++#[]).size=ps.length+1:=by rw [<- hl,<- Qj,hmap];simp
  have hget0:(#[Qp (some ⟨b,0,none⟩)]++xs.map a.eval++#[])[0]? = some (.pointer (some ⟨b,0,none⟩)):=by rw [<- Array.getElem?_toList,hmap];rfl
  have hinv:=zJ1 (w:=w) (hi.globw hp) hi.mem hsz hget0 (λj p hj=>by
   have:=hrep j p hj;rw [Q4,<- Array.getElem?_toList,hmap];simpa using this) q2 q3 (by omega) c2 q6
  have hrun:(execOp a.eval o).run P w=.ok (.enter f (#[Qp (some ⟨b,0,none⟩)]++xs.map a.eval++#[])) w:=by
   obtain ⟨fn,h1,h2,h3⟩:=hok.1;have h2':fn.body≠none:=by intro e;simp [e] at h2
   have h3':fn.name ≠ "runtime.NumGoroutine":=by intro e;simp [e] at h3
   simp [execOp,ho,resolve,hev,Deferred.ofValue,invoke,callFunc,h1,h2',h3']
  subst hn;unfold Oper.wp;rw [hrun];show Calls P f _ w _;refine (hok.2 w M [(0,b)] _ _ _ hinv (by intro k' hk';simp at hk';subst hk';exact ⟨by simp,hi.lt q1⟩)).mono ?_;rintro e' w' ⟨v,rfl,M',κ',tip',h0',hp',hr⟩;show K (a.put o.dst v) w';rw [hd];refine hk _ _ ?_;rw [zDr];have hfresh:∀ j∈blks.map (·.1),s'.blk (sh d j)=none:=λj hj=>by
   refine hm.2.2 (sh d j) ?_;obtain ⟨e,he,rfl⟩:=Qc.1 hj;exact Qc.2 ⟨e,he,rfl⟩
  have hD:∀ j∈((0,zI.var l') :: blks).map (·.1),j≠0->sh d j≠k:=by
   intro j hj hj0 hk';simp only [Qe,Q5] at hj;rcases hj with hj | hj
   ·exact hj0 hj
   ·have:=hfresh j hj;rw [hk',hbk'] at this;cases this
  obtain ⟨i1,i2⟩:=hi.import h0' hr (shp d k) (λj hj j' hj' h=>zPr d k hD hj hj' h)
   (by
    intro e' he';simp at he';subst he';exact ⟨(hp' (0,b) (by simp)).1,by simpa [shp] using q1,⟨l,by simpa [shp] using hbk'⟩,l',by simp [lk]⟩)
   (λj hj=>by
    simp only [Qe,Q5] at hj;by_cases hj0:j=0
    ·exact .inl ⟨b,by simp [hj0]⟩
    ·refine .inr ?_;have hb0:Q6 j 0=false:=by rw [Qf];intro e;exact hj0 (Q1 e)
     simp only [shp,hb0,cond_false];exact hfresh j (hj.resolve_left hj0))
  obtain ⟨x,hx,hrx⟩:=hr.env 0 av (by simp [mkS,lk]);simp at hx;subst hx;refine ⟨M',_,_,h0.trans' h0',?_,i1.put (hws d (by simp [Mic.ws])) (i2 av v hrx)⟩;intro k' hk';obtain ⟨h1,h2⟩:=hp k' hk';refine ⟨?_,h2⟩;cases hfk:fk (shp d k) (((0,zI.var l') :: blks).map (·.1)) k'.1 with
  | none=>exact h1
  | some j=>
   obtain ⟨hj,he⟩:=qQ hfk;simp only;by_cases hj0:j=0
   ·subst hj0;simp only [shp] at he;rw [he] at h1;simp at h1;rw [q1] at h1;cases h1;exact (hp' (0,k'.2) (by simp)).1
   ·have hb0:Q6 j 0=false:=by rw [Qf];intro e;exact hj0 (Q1 e)
    simp only [shp,hb0,cond_false] at he;simp only [Qe,Q5] at hj;have:=hfresh j (hj.resolve_left hj0);rw [he,hi.dom _ this] at h1;cases h1
 ·intro e he;simp only [Q5,Qd] at he;rcases he with he | he | he
  ·subst he;exact hbk
  ·exact fZ l cs bs0 hcs e he
  ·exact ha.reads.2 e he
theorem va_mkf {f:FuncId} {tl':List TypeId} {rs':LV} {bb bb':LB} (ho:o.op=.makeFunc (.func f) xs ys) (hxl:xs.toList=xl) (hyl:ys.toList=yl) (ha:mO s te xl tl ps rs bb) (hb:mO s te yl tl' qs rs' bb'):VA P o s (rs++rs') (bb++bb') (.p (.fn f ps qs)):=by
 refine ⟨?_,yK ha.reads.1 hb.reads.1,λe he=>(Qd.1 he).elim (ha.reads.2 e) (hb.reads.2 e)⟩;intro cx M κ tip s' a w hi hr hbb;obtain ⟨h1,h2⟩:=ha.rep hi (yD hr) (λe he=>hbb e (Qd.2 (.inl he)));obtain ⟨h3,h4⟩:=hb.rep hi (zX hr) (λe he=>hbb e (Qd.2 (.inr he)));refine ⟨.func (.func f) (xs.map a.eval) (ys.map a.eval),by simp [execOp,ho,Instr.makeFunc],.p _ _ (.fn f ps qs _ _ (by rw [<- h1,<- hxl];simp) (by rw [<- h3,<- hyl];simp) (λj q hq=>?_) (λj q hq=>?_))⟩
 ·have:=h2 j q hq;rw [<- hxl] at this;rw [Q4];simpa using this
 ·have:=h4 j q hq;rw [<- hyl] at this;rw [Q4];simpa using this
theorem va_mkfA {f:FuncId} (ho:o.op=.makeFunc (.func f) #[x] #[]) (hx:s.get te tx x=some v):VA P o s (opS x v) [] (.fnv f [v]):=by
 refine ⟨?_,zJ hx,by simp⟩;intro cx M κ tip s' a w hi hr _;have h1:=zY hi (yJ hx s' hr);refine ⟨.func (.func f) #[a.eval x] #[],by simp [execOp,ho,Instr.makeFunc],.fnv f _ _ rfl (λj q hq=>?_)⟩;cases j with
 | zero=>simp at hq;subst hq;exact h1
 | succ j=>simp at hq
end
def gE (s:AS):LV->List (Option AV)
 | []=>[]
 | (t,_) :: r=>s.env t :: gE s r
def vE (ρ:AV->AV):LV->List (Option AV)
 | []=>[]
 | (_,v) :: r=>some (ρ v) :: vE ρ r
def gB (s:AS) (ρ:Nat->Nat):LB->List (Option zI)
 | []=>[]
 | (t,_) :: r=>s.blk (ρ t) :: gB s ρ r
def vB (ρ:zI->zI):LB->List (Option zI)
 | []=>[]
 | (_,v) :: r=>some (ρ v) :: vB ρ r
def rE (ρ:Nat->Nat):LV->LV
 | []=>[]
 | (t,v) :: r=>(t,v.ren ρ) :: rE ρ r
theorem zO9 (s:AS):∀ l,gE s l=l.map λe=>s.env e.1
 | []=>rfl
 | (_,_) :: r=>by simp [gE,zO9 s r]
theorem zPl (ρ:AV->AV):∀ l,vE ρ l=l.map λe=>some (ρ e.2)
 | []=>rfl
 | (_,_) :: r=>by simp [vE,zPl ρ r]
theorem zPb (s:AS) (ρ:Nat->Nat):∀ l,gB s ρ l=l.map λe=>s.blk (ρ e.1)
 | []=>rfl
 | (_,_) :: r=>by simp [gB,zPb s ρ r]
theorem zQc (ρ:zI->zI):∀ l,vB ρ l=l.map λe=>some (ρ e.2)
 | []=>rfl
 | (_,_) :: r=>by simp [vB,zQc ρ r]
theorem zTr (ρ:Nat->Nat):∀ l,rE ρ l=l.map λe=>(e.1,e.2.ren ρ)
 | []=>rfl
 | (_,_) :: r=>by simp [rE,zTr ρ r]
def swp:List (Nat×Nat)->List (Nat×Nat)
 | []=>[]
 | (a,b) :: r=>(b,a) :: swp r
theorem zPk:∀ (env:LV),env.map (λe=>s.env e.1)=env.map (λe=>some e.2)->zOq s env
 | [],_=>trivial
 | (t,v) :: r,h=>by
  simp only [Qe,List.cons.injEq] at h;exact ⟨h.1,zPk r h.2⟩
theorem zPu:∀ (blk:LB),blk.map (λe=>s.blk e.1)=blk.map (λe=>some e.2)->zN2 s blk
 | [],_=>trivial
 | (t,v) :: r,h=>by
  simp only [Qe,List.cons.injEq] at h;exact ⟨h.1,zPu r h.2⟩
theorem lp (hpk:PK cx ks) (he:gE s env=vE id env) (hb:gB s id blk=vB id blk) (h1:(gH (lk blk) env&&ks.all (λk=>(lk blk k).isSome))=true) (h2:sH (lk blk) blk=true):Imp cx.pk s (mkS env blk):=by
 simp only [Q3] at h1;rw [zO9,zPl] at he;rw [zPb,zQc] at hb;exact Imp.lep (Lep.mk' hpk (zPk env he) (zPu blk hb) h1.1 h2 h1.2)
theorem cbv {r:LB} (h:qG B l=true) (k':sH B r=true):sH B ((k,.var l) :: r)=true:=by simp [sH,h,k']
theorem cbb {r:LB} (k':sH B r=true):sH B ((k,.buf c) :: r)=true:=by simp [sH,k']
theorem om {l:List α}:qG B (l.map λx=>AV.p (f x))=true:=zCl f l
theorem lr (hpk:PK cx ks) (m:List (Nat×Nat)) 
  (he:gE s env=vE (AV.ren (rho m)) env) (hb:gB s (rho m) blk=vB (zI.ren (rho m)) blk)
  (h1:(gH (lk (bR (rho m) blk)) (rE (rho m) env)&&(ks.all (λk=>(lk (bR (rho m) blk) k).isSome) &&
   (((kR (rho m) blk).all λj=>(kR (rho m) blk).all λj'=>!Nat.beq (rho (swp m) j) (rho (swp m) j')||Q6 j j')&&ks.all λk=>Q6 (rho (swp m) k) k)))=true)
  (h2:sH (lk (bR (rho m) blk)) (bR (rho m) blk)=true)
  (h3:rE (rho (swp m)) (rE (rho m) env)=env) (h4:bR (rho (swp m)) (bR (rho m) blk)=blk):Imp cx.pk s (mkS env blk):=by
 simp only [Q3] at h1;obtain ⟨g1,g2,g3,g4⟩:=h1;rw [zO9,zPl] at he;rw [zPb,zQc] at hb;have a1:=lp hpk (s:=s) (env:=rE (rho m) env) (blk:=bR (rho m) blk) (by rw [zO9,zPl,zTr];simpa using he) (by rw [zPb,zQc,zFj];simpa using hb) (by simp only [Q3];exact ⟨g1,g2⟩) h2;refine a1.trans ?_;rw [zBn] at g3;have a2:=Imp.renK hpk (swp m) (env:=rE (rho m) env) (blks:=bR (rho m) blk) (by rw [zFj];simpa using g3) (by
  rw [Q9] at g4 g2 ⊢;intro k hk;simp only [Q3,List.any_eq_true];refine ⟨g4 k hk,k,?_,by simp⟩;obtain ⟨b,hb'⟩:=Qg.1 (g2 k hk);exact Qc.2 ⟨_,u9 _ _ _ hb',rfl⟩)
 rw [<- zTr,<- zFj,h3,h4] at a2;exact a2
theorem qF {s:AS} {α:Type} {f:α->PV}:∀ {l:List α},s.rdL (l.map λx=>AV.p (f x))=some (l.map f,[])
 | []=>by simp [AS.rdL]
 | x :: r=>by simp [AS.rdL,AS.rd,qF (l:=r)]
theorem zH7 (hf:∀ a,(f a).cells=[f a]):∀ (l:List α),xJ (l.map f)=l.map f
 | []=>rfl
 | x :: r=>by simp [xJ,hf,zH7 hf r]
theorem zC9 (l:By):gI 1 (.bytes l) (l.map λx=>PV.int .u8 x.toNat):=.bytes l rfl
theorem zIk (hf:∀ a,(f a).cells=[f a]) (l:List α):gI 1 (.sl 1 (l.map f)) (l.map f):=by
 have:=zYe (w:=1) (f:=f) l (λa=>by rw [hf a];rfl);rwa [zH7 hf] at this
def s4 (B:NB) (k:Nat):LB->Bool
 | []=>true
 | (i,.var l) :: r=>(Q6 i k||qG B l)&&s4 B k r
 | (_,.buf _) :: r=>s4 B k r
 | (_,.own _ l) :: r=>qG B l&&s4 B k r
theorem cxv {i:Nat} {r:LB} (h:qG B l=true) (k':s4 B k r=true):s4 B k ((i,.var l) :: r)=true:=by simp [s4,h,k']
theorem cxk {r:LB} (k':s4 B k r=true):s4 B k ((k,.var l) :: r)=true:=by simp [s4,k']
theorem cxb {i:Nat} {r:LB} (k':s4 B k r=true):s4 B k ((i,.buf c) :: r)=true:=by simp [s4,k']
theorem s4.mem:∀ {l:LB},s4 B k l=true->∀ {t v},t≠k->(t,.var v)∈l->qG B v=true
 | (i,.var u) :: _,h,t,v,hne,hm=>by
  simp only [s4,Q3,W1] at h;rcases Q5.1 hm with e | hm
  ·cases e;rcases h.1 with h1 | h1
   ·exact (hne (Q1 h1)).elim
   ·exact h1
  ·exact s4.mem h.2 hne hm
 | (i,.buf u) :: _,h,t,v,hne,hm=>by
  simp only [s4] at h;rcases Q5.1 hm with e | hm
  ·cases e
  ·exact s4.mem h hne hm
 | (i,.own w u) :: _,h,t,v,hne,hm=>by
  simp only [s4,Q3] at h;rcases Q5.1 hm with e | hm
  ·cases e
  ·exact s4.mem h.2 hne hm
theorem s4.memO:∀ {l:LB},s4 B k l=true->∀ {t w v},(t,.own w v)∈l->qG B v=true
 | (i,.var u) :: _,h,t,w,v,hm=>by
  simp only [s4,Q3] at h;rcases Q5.1 hm with e | hm
  ·cases e
  ·exact s4.memO h.2 hm
 | (i,.buf u) :: _,h,t,w,v,hm=>by
  simp only [s4] at h;rcases Q5.1 hm with e | hm
  ·cases e
  ·exact s4.memO h hm
 | (i,.own w0 u) :: _,h,t,w,v,hm=>by
  simp only [s4,Q3] at h;rcases Q5.1 hm with e | hm
  ·cases e;exact h.1
  ·exact s4.memO h.2 hm
theorem cbo {i:Nat} {r:LB} (h:qG B l=true) (k':sH B r=true):sH B ((i,.own w l) :: r)=true:=by simp [sH,h,k']
def zH4 (B:NB) (t:Nat):LV->Bool
 | []=>true
 | (u,v) :: r=>(Q6 u t||v.oks B)&&zH4 B t r
theorem zH4.mem {t:Nat}:∀ {l:LV},zH4 B t l=true->∀ {u v},u≠t->(u,v)∈l->v.oks B=true
 | (i,x) :: _,h,u,v,hne,hm=>by
  simp only [zH4,Q3,W1] at h;rcases Q5.1 hm with e | hm
  ·cases e;rcases h.1 with h1 | h1
   ·exact (hne (Q1 h1)).elim
   ·exact h1
  ·exact zH4.mem h.2 hne hm
section
theorem fzE (hpk:PK cx ks) (t:Nat) (he:lk env t=some (.ref k 0 n)) (hb:lk blk k=some (.var l)) (hrd:(mkS env blk).rdL l=some (cs,bs)) (hc:gI w0 c cs) (hcn:c.len=n) (hw:Q8 0 w0=true) (hml:n<=140737488355328)
  (h1:(ks.all (λj=>!Nat.beq j k)&&zH4 (xX (lk blk) k) t env)=true) (h2:s4 (xX (lk blk) k) k blk=true):Imp cx.pk (mkS env blk) (((mkS env blk).setb k (.buf c)).put t (.buf k n)):=by
 simp only [Q3] at h1;refine Imp.freeze (w0:=w0) he hb hrd hc hcn (by have:=Q2 hw;omega) (by simp only [maxLen];omega) (λe he' hk=>?_) (λu v hu h=>zH4.mem h1.2 hu (u9 env u v h)) (λi li hi h=>s4.mem h2 hi (u9 blk i _ h)) (λi w li h=>s4.memO h2 (u9 blk i _ h));have:=(Q9.1 h1.1) e.1 (hpk e he');simp [hk] at this
theorem fzC (hpk:PK cx ks) (k2 j0:Nat) (he:lk blk k2=some (.var l2)) (hj0:l2[j0]? = some (.ref k 0 n)) (hb:lk blk k=some (.var l)) (hrd:(mkS env blk).rdL l=some (cs,bs)) (hc:gI w0 c cs) (hcn:c.len=n) (hw:Q8 0 w0=true) (hml:n<=140737488355328)
  (h1:(ks.all (λj=>!Nat.beq j k)&&(!Nat.beq k2 k&&(gH (xX (lk blk) k) env&&qG (xX (lk blk) k) (l2.set j0 (.p .nilp)))))=true) (h2:s4 (xX (lk blk) k) k (blk.filter λe=>!Nat.beq e.1 k2)=true):Imp cx.pk (mkS env blk) (((mkS env blk).setb k (.buf c)).setb k2 (.var (l2.set j0 (.buf k n)))):=by
 simp only [Q3] at h1;refine Imp.freezeC (w0:=w0) he hj0 (λe=>by have:=h1.2.1;simp [e] at this) hb hrd hc hcn (by have:=Q2 hw;omega) (by simp only [maxLen];omega) (λe he' hk=>?_) (λu v h=>gH.mem h1.2.2.1 (u9 env u v h)) (λi li hi hi2 h=>s4.mem h2 hi (W2.2 ⟨u9 blk i _ h,?_⟩)) h1.2.2.2 (λi w li h=>s4.memO h2 (W2.2 ⟨u9 blk i _ h,?_⟩))
 ·have:=(Q9.1 h1.1) e.1 (hpk e he');simp [hk] at this
 ·have:Q6 i k2=false:=by rw [Qf];intro e;exact hi2 (Q1 e)
  simp [this]
 ·have hne:i≠k2:=by rintro rfl;have h':lk blk i=some (.own w li):=h;rw [he] at h';cases h'
  have:Q6 i k2=false:=by rw [Qf];intro e;exact hne (Q1 e)
  simp [this]
theorem zU9 (hpk:PK cx ks) (t:Nat) (u:By) (hcn:u.length=n) (he:lk env t=some (.ref k 0 n)) (hb:lk blk k=some (.var l)) (hrd:(mkS env blk).rdL l=some (cs,bs)) (hc:gI 1 (.bytes u) cs) (hml:n<=140737488355328)
  (h1:(ks.all (λj=>!Nat.beq j k)&&zH4 (xX (lk blk) k) t env)=true) (h2:s4 (xX (lk blk) k) k blk=true):Imp cx.pk (mkS env blk) (((mkS env blk).setb k (.buf (.bytes u))).put t (.buf k u.length)):=by
 subst hcn;exact fzE hpk t he hb hrd hc rfl rfl hml h1 h2
theorem zZ0 (hpk:PK cx ks) (t:Nat) (f:α->PV) (u:List α) (hcn:u.length=n) (he:lk env t=some (.ref k 0 n)) (hb:lk blk k=some (.var l)) (hrd:(mkS env blk).rdL l=some (cs,bs)) (hc:gI 1 (.sl 1 (u.map f)) cs) (hml:n<=140737488355328)
  (h1:(ks.all (λj=>!Nat.beq j k)&&zH4 (xX (lk blk) k) t env)=true) (h2:s4 (xX (lk blk) k) k blk=true):Imp cx.pk (mkS env blk) (((mkS env blk).setb k (.buf (.sl 1 (u.map f)))).put t (.buf k u.length)):=by
 subst hcn;exact fzE hpk t he hb hrd hc (by simp [Qm]) rfl hml h1 h2
theorem fzCB (hpk:PK cx ks) (k2 j0:Nat) (u:By) (hcn:u.length=n) (he:lk blk k2=some (.var l2)) (hj0:l2[j0]? = some (.ref k 0 n)) (hb:lk blk k=some (.var l)) (hrd:(mkS env blk).rdL l=some (cs,bs)) (hc:gI 1 (.bytes u) cs) (hml:n<=140737488355328)
  (h1:(ks.all (λj=>!Nat.beq j k)&&(!Nat.beq k2 k&&(gH (xX (lk blk) k) env&&qG (xX (lk blk) k) (l2.set j0 (.p .nilp)))))=true) (h2:s4 (xX (lk blk) k) k (blk.filter λe=>!Nat.beq e.1 k2)=true):Imp cx.pk (mkS env blk) (((mkS env blk).setb k (.buf (.bytes u))).setb k2 (.var (l2.set j0 (.buf k u.length)))):=by
 subst hcn;exact fzC hpk k2 j0 he hj0 hb hrd hc rfl rfl hml h1 h2
theorem fzCM (hpk:PK cx ks) (k2 j0:Nat) (f:α->PV) (u:List α) (hcn:u.length=n) (he:lk blk k2=some (.var l2)) (hj0:l2[j0]? = some (.ref k 0 n)) (hb:lk blk k=some (.var l)) (hrd:(mkS env blk).rdL l=some (cs,bs)) (hc:gI 1 (.sl 1 (u.map f)) cs) (hml:n<=140737488355328)
  (h1:(ks.all (λj=>!Nat.beq j k)&&(!Nat.beq k2 k&&(gH (xX (lk blk) k) env&&qG (xX (lk blk) k) (l2.set j0 (.p .nilp)))))=true) (h2:s4 (xX (lk blk) k) k (blk.filter λe=>!Nat.beq e.1 k2)=true):Imp cx.pk (mkS env blk) (((mkS env blk).setb k (.buf (.sl 1 (u.map f)))).setb k2 (.var (l2.set j0 (.buf k u.length)))):=by
 subst hcn;exact fzC hpk k2 j0 he hj0 hb hrd hc (by simp [Qm]) rfl hml h1 h2
theorem fxV (hpk:PK cx ks) (t:Nat) (c:PV) (he:lk env t=some (.ptr k 0)) (hb:lk blk k=some (.var l)) (hrd:(mkS env blk).rdL l=some (cs,bs)) (hc:c.cells=cs)
  (h1:(ks.all (λj=>!Nat.beq j k)&&zH4 (xX (lk blk) k) t env)=true) (h2:s4 (xX (lk blk) k) k blk=true):Imp cx.pk (mkS env blk) (((mkS env blk).unb k).put t (.p (.cptr c))):=by
 simp only [Q3] at h1;refine Imp.fixV he hb hrd hc (λe he' hk=>?_) (λu v hu h=>zH4.mem h1.2 hu (u9 env u v h)) (λi li hi h=>s4.mem h2 hi (u9 blk i _ h)) (λi w li h=>s4.memO h2 (u9 blk i _ h));have:=(Q9.1 h1.1) e.1 (hpk e he');simp [hk] at this
end
section
theorem va_cat {a b:By} (h:Ql (a.length+b.length) 140737488355328=true) (ho:o.op=.binOp .add tx x y tyy) (hx:s.get te tx x=some (.p (.str a))) (hy:s.get te tyy y=some (.p (.str b))) :
  VA P o s (opS x (.p (.str a))++opS y (.p (.str b))) [] (.p (.str (a++b))):=by
 refine ⟨?_,yK (zJ hx) (zJ hy),by simp⟩;intro cx M κ tip s' ac w hi hr _;have h1:=lW (repA_pv (zY hi (yJ hx s' (yD hr))));have h2:=lW (repA_pv (zY hi (yJ hy s' (zX hr))));refine ⟨.string ⟨(a++b).toArray⟩,?_,.p _ _ (.str _)⟩;have h3:=zT h;have h4:¬ ((9223372036854775807:Int)<((a.length:Int)+(b.length:Int))):=by omega
 simp [execOp,ho,h1,h2,eqGuard,binOp,Op.stringOp,zAu,h4];apply ByteArray.ext;simp [ByteArray.data_append]
theorem va_sliceC (hok:yP P te) {l:List PV} {w1:PV} (ho:o.op=.slice t x none none none) (ht:(te t).map (·.ty)=some (.arr n e)) (he:(te e).map (·.w)=some 1) (hx:s.get te t x=some (.p (.cptr (.agg l)))) (hn:l.length=n) (hn0:0<n) (hl:gI 1 w1 l) (hwl:w1.len=n):VA P o s (opS x (.p (.cptr (.agg l)))) [] (.p w1):=by
 refine ⟨?_,zJ hx,by simp⟩;intro cx M κ tip s' a w hi hr _;have h1:=repA_pv (zY hi (yJ hx s' hr));generalize hev:a.eval x=z at h1;cases h1 with
 | cptr _ b off g1 g2=>
 obtain ⟨c1,c2,c3,c4⟩:=hl.cells (M:=M) (f:=λj=>mget M b (off+j)) (λj q hq=>g2 j q hq);obtain ⟨ei,he1,he2⟩:=Qt.1 he;have hu:=zAq hok ht;refine ⟨.slice (some ⟨b,off,none⟩) n n,?_,.p _ _ ?_⟩
 ·have hn':¬ n=0:=by omega
  simp [execOp,ho,hev,Instr.sliceAt,Instr.sureAddr,Instr.sliceBounds,run_underlying hu,u4 hok he1,Addr.add]
 ·have:=xT (M:=M) (M':=M) (b:=b) (o:=off) (cap:=n) c1 c2 (Mem.le_refl M) (λj hj=>?_) (by omega)
  ·rwa [hwl] at this
  ·rw [c3,Nat.mul_one,hwl,<- hn] at hj;have:=g1 j l[j] (by simp [PV.cells,hj]);obtain ⟨u,hu'⟩:=Qg.1 this;simp [mget,hu']
end
section
theorem zV0 {a:Act} {w:World} (hi:Inv cx M κ tip s' a w) {k2:Nat} {ww:Nat} (hy:s'.get te t' y=some (.ref k2 0 n)) (hk2:s'.blk k2=some (.var l2)) (hp:s'.rdL l2=some (cs,bs)) (hlit:gI ww p cs) (hpn:p.len=n) (happ:c.app p=some rr) (hcw:c.width=ww) (hw0:0<ww) :
  ∃ news g,Src P w c.width p.src.len (a.eval y) news/\rY M p.src g/\∀ j,j<p.src.len*c.width->news[j]? = some (g j):=by
 have hr:=zY hi hy;obtain ⟨b,arr,e,fz,q1,q2,q3,q4,q5,q6,q7⟩:=hi.vars k2 l2 hk2;obtain ⟨r1,r2⟩:=gJ hp q5;obtain ⟨c1,c2,c3,c4⟩:=hlit.cells r2;generalize hev:a.eval y=z at hr;cases hr with
 | ref _ _ _ b' l' g1 g2=>
 rw [q1] at g1;cases g1;have hps:p.src=p:=by cases p<;>simp [PV.isSlice] at c2<;>rfl
 have hasz:arr.size=n*ww:=by rw [q4,<- r1,<- c4,hpn]
 rw [hps,hpn,hcw];refine ⟨arr.toList,λj=>arr.getD j undef,⟨λw'=>by simp [Builtin.lenOf],λw' hw'=>?_,by simp [hasz]⟩,c1,λj hj=>by
  rw [<- hasz] at hj;simp [hj]⟩
 refine run_firstCells_some (P:=P) w' ww n ⟨b,0,none⟩ n n _ (by simp [hasz]) ?_;intro j u hu;rw [add_off];refine hw' _ _ ?_;simp only [World.cell?,q2,Q7];simpa using hu
theorem sa_appR {k2:Nat} {dd:TypeDesc} (hok:yP P te) (hd:o.dst=some d) (ho:o.op=.call { callee:=.builtin .append,args:=#[x,y],argTypes:=#[t,t'] })
  (ht:(te t).map (·.ty)=some (.slice e)) (he:te e=some ei) (ht':P.underlying t'=some dd) (hdd:dH dd) (hx:s.get te t x=some (.buf k c.len)) (hk:s.blk k=some (.buf c)) (hcw:c.width=ei.w) (hw0:0<ei.w) (hz:ei.z.length=ei.w) (hy:s.get te t' y=some (.ref k2 0 n)) (hk2:s.blk k2=some (.var l2)) (hp:s.rdL l2=some (cs,bs)) (hlit:gI ei.w p cs) (hpn:p.len=n) (happ:c.app p=some rr)
  (hel:eH p=true) (hb:(c.len+p.src.len)*ei.b<=140737488355328) (hb1:0<ei.b) :
  SA P o s ⟨opS x (.buf k c.len)++opS y (.ref k2 0 n),(k,.buf c) :: (k2,.var l2) :: bs,[],some (d,some (.buf k rr.len)),[(k,.buf rr)]⟩:=by
 refine ⟨?_,yK (zJ hx) (zJ hy),?_,by intro k hk';simp at hk'⟩
 ·intro cx s' a w K Q hm hs hws hk';obtain ⟨M,κ,tip,h0,hpk,hi⟩:=hs;have hbk:=hm.2.1 (k,.buf c) (by simp);simp only at hbk;have hx':=zY hi (yJ hx s' (yD hm.1));obtain ⟨q1,q2,q3,q4,q5,q6,q7⟩:=zDm happ;obtain ⟨b1,b2,b3,b4⟩:=hi.bufs k c hbk;have hevx:a.eval x=tip k:=by
   generalize a.eval x=zx at hx';cases hx' with
   | buf _ _ c' _ g1 g2 g3 g4 g5=>rw [hbk] at g1;cases g1;exact g5 rfl
  obtain ⟨news,g,n1,n2,n3⟩:=zV0 (P:=P) hi (yJ hy s' (zX hm.1)) (hm.2.1 (k2,.var l2) (by simp)) (eI l2 cs bs hp (λe he=>hm.2.1 e (by simp [he]))) hlit hpn happ hcw hw0;obtain ⟨info,z,i1,i2,i3,i4,i5⟩:=(hok e ei he).info;have hu:=yV hok ht;have hlen:c.len+p.src.len<=140737488355328:=Nat.le_trans (Qs _ hb1) hb;rw [hcw,<- i2] at n1;have hnl:news.length=p.src.len*ei.w:=by rw [n1.nl,i2]
  have hrw:rr.width=ei.w:=by omega
  have hzs:z.cells.size=ei.w:=by rw [<- Qj,i5];simpa using hz
  have hone:∀ u∈news,u.oneCell'=true:=by
   rcases zQe happ with hsl | ⟨l,rfl⟩
   ·have hps:p.src=p:=by cases p<;>simp [PV.isSlice] at hsl<;>rfl
    rw [hps] at n2 n3 hnl q5;exact zCy hsl (by omega) hw0 n2 hnl (λj hj=>n3 j (by rw [hcw];exact hj)) hel
   ·exact zCy (p:=.bytes l) rfl (by have h5:(1:Nat)=c.width:=q5;show (1:Nat)=ei.w;omega) hw0 n2 hnl (λj hj=>n3 j (by rw [hcw];exact hj)) rfl
  unfold Oper.wp;rcases b4 with ⟨hnil,hκ⟩ | ⟨b,n,cap,arr,e1,fz,htip,hκ,hbase,hheap,hfree,hcap,hml,hM⟩
  ·
   have hlen0:c.len=0:=by
    rw [hnil] at b1;rcases p8 b1 b2 with ⟨_,h⟩ | ⟨b,o,n,cc,h,_⟩
    ·exact h
    ·cases h
   by_cases hm0:p.src.len=0
   ·rw [hm0] at n1;have hrun:=n8 (P:=P) (ty:=o.type) hu ht' hdd i1 n1;rw [xD ho (hevx.trans hnil) hrun];show K (a.put o.dst _) _;rw [hd];refine hk' _ _ ?_;rw [vV];have hrl:rr.len=0:=by omega
    have hrn:rr=c:=by
     have hps:p.src.len=0:=hm0;unfold PV.app at happ;split at happ
     ·rename_i aa bb;simp only [W5,Qm] at hps;have:bb=[]:=Qh hps;subst this;simp at happ;exact happ.symm
     ·rename_i ww aa ww' bb;simp only [W5,Qm] at hps;have:bb=[]:=Qh hps;subst this;cases hbq:Q6 ww ww' with
      | false=>simp [hbq] at happ
      | true=>simp [hbq] at happ;exact happ.symm
     ·rename_i aa bb;simp only [W5,Qm] at hps;have:bb=[]:=Qh hps;subst this;simp at happ;exact happ.symm
     ·cases happ
    subst hrn;have hset:s'.setb k (.buf rr)=s':=by
     cases s' with
     | mk env blk=>
      simp only [AS.setb];congr 1;funext t;by_cases ht:t=k
      ·subst ht;simp;exact hbk.symm
      ·have:Q6 t k=false:=by rw [Qf];intro e;exact ht (Q1 e)
       simp [this]
    rw [hset];refine ⟨M,κ,tip,h0,hpk,hi.put (hws d (by simp [Mic.ws])) ?_⟩;refine .buf k _ rr _ hbk b2 (Qb _) ?_ (λ_=>hnil.symm);rw [tQ b2,<- hnil];exact b1
   ·have hrun:=kM (P:=P) (ty:=o.type) hu ht' hdd i1 i4 n1 (by omega) (by rw [i3];rw [hlen0,Q7] at hb;exact hb) (by omega);rw [xD ho (hevx.trans hnil) hrun];show K (a.put o.dst _) _;rw [hd];refine hk' _ _ ?_;rw [vV];have hcells:=eL happ (kC q1 hlen0 (λ_=>undef)) n2;have hge:=grownCap_ge w p.src.len 0 e;have hrl:rr.len=p.src.len:=by omega
    have hsize:(news.toArray++Qk z.cells (grownCap w p.src.len 0 e - p.src.len)).size=grownCap w p.src.len 0 e*ei.w:=by
     simp only [Qq,Qy,size_zeroCells,hzs,hnl,<- W0];congr 1;omega
    have hfit:p.src.len*ei.w<=grownCap w p.src.len 0 e*ei.w:=Qn _ hge;have hml:grownCap w p.src.len 0 e<=maxLen:=grownCap_le_maxLen w p.src.len 0 e (by simp only [maxLen];omega);have hrep:Rep (xB M w.heap.size 0 (p.src.len*rr.width) ((news.toArray++Qk z.cells (grownCap w p.src.len 0 e - p.src.len))[·]?)) rr (.slice (some ⟨w.heap.size,0,none⟩) p.src.len (grownCap w p.src.len 0 e)):=by
     have:=xT (M':=xB M w.heap.size 0 (p.src.len*rr.width) ((news.toArray++Qk z.cells (grownCap w p.src.len 0 e - p.src.len))[·]?)) (b:=w.heap.size) (o:=0) (cap:=grownCap w p.src.len 0 e) hcells q2 (vO λo _ _=>hi.mlt (Qb _)) ?_ (by omega)
     ·rwa [hrl] at this
     intro j hj;rw [hrl] at hj;simp only [xB,Q7];rw [if_pos ⟨trivial,Qo _,hj⟩,hlen0];simp only [Nat.zero_mul,Nat.not_lt_zero,if_false,Nat.sub_zero];rw [hrw] at hj;have:=n3 j (by rw [hcw];exact hj);rw [Array.getElem?_append_left (by simp;omega)];simpa using this
    refine ⟨_,_,_,h0.trans' (vO λo _ _=>hi.mlt (Qb _)),zGp hi hpk hbk _,(hi.bufNew (tO w _ e) (.inr ⟨c,hbk,by omega,q7⟩) q2 (by omega) ?_ ?_ hml hrep).put (hws d (by simp [Mic.ws])) ?_⟩
    ·rw [hsize,hrw];exact hfit
    ·rw [hsize,hrw];exact Qb _
    ·rw [hrl];refine .buf k _ rr _ (zU _ _ _) q2 (by omega) ?_ (λ_=>(yR _ _ _).symm);rw [<- hrl,tQ q2,hrl];exact hrep
  ·rw [htip] at b1;have hn:n=c.len/\n<=cap:=by
    rcases p8 b1 b2 with ⟨h,_⟩ | ⟨b',o',n',cc,h,h2,h3⟩
    ·cases h
    ·cases h;exact ⟨h2,h3⟩
   obtain ⟨hn,hcl⟩:=hn;subst hn;have hcells:=eL happ (aS b2 b1) n2;simp only [Q7] at hcells;have hsome:=zG9 b2 b1 b3;simp only [Q7] at hsome;have hadd:(c.len+p.src.len)*ei.w=c.len*ei.w+p.src.len*ei.w:=W0 _ _ _;by_cases hroom:c.len+p.src.len<=cap
   ·have hfits:(c.len+p.src.len)*ei.w<=arr.size:=by rw [<- hcw];exact Nat.le_trans (Qn _ hroom) hcap
    have hrun:=dQ (P:=P) (ty:=o.type) hu ht' hdd i1 n1 (b:=b) (n:=c.len) (cap:=cap) hone hroom
     (by
       intro j hj;rw [i2];have:c.len*ei.w+j<arr.size:=by omega
       simp [World.cell?,hheap,this])
     (by intro j hj;rw [i2];exact qN hheap hfree (by omega))
    rw [xD ho (hevx.trans htip) hrun];show K (a.put o.dst _) _;rw [hd];refine hk' _ _ ?_;rw [vV,i2,<- hcw];have hle:M.le (xB M b (c.len*c.width) ((c.len+p.src.len)*c.width) (λo=>news[o - c.len*c.width]?)):=vO λo h _=>hM o h;have hrep:Rep (xB M b (c.len*c.width) ((c.len+p.src.len)*c.width) (λo=>news[o - c.len*c.width]?)) rr (.slice (some ⟨b,0,none⟩) (c.len+p.src.len) cap):=by
     have:=xT (M':=xB M b (c.len*c.width) ((c.len+p.src.len)*c.width) (λo=>news[o - c.len*c.width]?)) (b:=b) (o:=0) (cap:=cap) hcells q2 hle ?_ (by omega)
     ·rwa [q6] at this
     intro j hj;rw [q6,q4] at hj;simp only [Q7];by_cases hjc:j<c.len*c.width
     ·rw [if_pos hjc];obtain ⟨u,hu⟩:=Qg.1 (hsome j hjc);rw [hle _ _ _ hu];simp [mget,hu]
     ·rw [if_neg hjc];simp only [xB];rw [if_pos ⟨trivial,by omega,hj⟩];exact n3 _ (by rw [hcw] at hj hjc ⊢;omega)
    refine ⟨_,_,_,h0.trans' hle,hpk,(hi.bufIn hbk htip hκ hbase hheap hfree hcap hml hM (by rw [hnl,hcw]) hroom q2 q4 (by omega) q7 (by omega) hrep).put (hws d (by simp [Mic.ws])) ?_⟩;rw [q6];refine .buf k _ rr _ (zU _ _ _) q2 (by omega) ?_ (λ_=>(yR _ _ _).symm);rw [<- q6,tQ q2,q6];exact hrep
   ·have hol:((Qr (c.len*ei.w)).map λj=>mget M b j).length=c.len*info.size:=by simp [i2]
    have hrun:=dN (P:=P) (ty:=o.type) hu ht' hdd i1 i4 n1 (b:=b) (n:=c.len) (cap:=cap) (olds:=(Qr (c.len*ei.w)).map λj=>mget M b j) hol
     (by
      intro j u hu;rw [List.getElem?_map] at hu;obtain ⟨j',h1,h2⟩:=Qt.1 hu;have hj:j<c.len*ei.w:=by have:=(List.getElem?_eq_some_iff.1 h1).1;simpa using this
      have hjj:j'=j:=by have:=(List.getElem?_eq_some_iff.1 h1).2;simpa using this.symm
      subst hjj;obtain ⟨zz,hz⟩:=Qg.1 (hsome j' (by rw [hcw];exact hj));rw [hi.mem _ _ _ hz,<- h2];simp [mget,hz])
     (by omega) (by rw [i3];exact hb) (by omega)
    rw [xD ho (hevx.trans htip) hrun];show K (a.put o.dst _) _;rw [hd];refine hk' _ _ ?_;rw [vV];have hge:=grownCap_ge w (c.len+p.src.len) cap e;have hml:grownCap w (c.len+p.src.len) cap e<=maxLen:=grownCap_le_maxLen w _ cap e (by simp only [maxLen];omega);generalize hA:(((Qr (c.len*ei.w)).map λj=>mget M b j).toArray++news.toArray++Qk z.cells (grownCap w (c.len+p.src.len) cap e - (c.len+p.src.len)))=A;have hsize:A.size=grownCap w (c.len+p.src.len) cap e*ei.w:=by
     rw [<- hA];simp only [Qq,Qy,W3,List.length_range,size_zeroCells,hzs,hnl,<- W0];congr 1;omega
    have hfit:(c.len+p.src.len)*ei.w<=grownCap w (c.len+p.src.len) cap e*ei.w:=Qn _ hge;have hget:∀ j,j<(c.len+p.src.len)*ei.w->A[j]? = some (if j<c.len*ei.w then mget M b j else g (j - c.len*ei.w)):=by
     intro j hj;rw [<- hA,Array.getElem?_append_left (by simp;omega)];by_cases hjc:j<c.len*ei.w
     ·rw [if_pos hjc,Array.getElem?_append_left (by simpa using hjc)];simp [hjc]
     ·rw [if_neg hjc,Array.getElem?_append_right (by simp;omega)];have:=n3 (j - c.len*ei.w) (by rw [hcw];omega);simpa using this
    have hle:M.le (xB M w.heap.size 0 ((c.len+p.src.len)*rr.width) (A[·]?)):=vO λo _ _=>hi.mlt (Qb _);have hrep:Rep (xB M w.heap.size 0 ((c.len+p.src.len)*rr.width) (A[·]?)) rr (.slice (some ⟨w.heap.size,0,none⟩) (c.len+p.src.len) (grownCap w (c.len+p.src.len) cap e)):=by
     have:=xT (M':=xB M w.heap.size 0 ((c.len+p.src.len)*rr.width) (A[·]?)) (b:=w.heap.size) (o:=0) (cap:=grownCap w (c.len+p.src.len) cap e) hcells q2 hle ?_ (by omega)
     ·rwa [q6] at this
     intro j hj;rw [q6] at hj;simp only [xB,Q7];rw [if_pos ⟨trivial,Qo _,hj⟩];rw [hrw] at hj;rw [hget j hj,hcw]
    refine ⟨_,_,_,h0.trans' hle,zGp hi hpk hbk _,(hi.bufNew (tO w _ e) (.inr ⟨c,hbk,by omega,q7⟩) q2 (by omega) ?_ ?_ hml hrep).put (hws d (by simp [Mic.ws])) ?_⟩
    ·rw [hsize,hrw];exact hfit
    ·rw [hsize,hrw];exact Qb _
    ·rw [q6];refine .buf k _ rr _ (zU _ _ _) q2 (by omega) ?_ (λ_=>(yR _ _ _).symm);rw [<- q6,tQ q2,q6];exact hrep
 ·intro e he;rcases Q5.1 he with he | he
  ·subst he;exact hk
  ·rcases Q5.1 he with he | he
   ·subst he;exact hk2
   ·exact fZ l2 cs bs hp e he
end
section
theorem sa_mkb {tl tc:TypeId} {n:Int} (hok:yP P te) (hd:o.dst=some d) (ho:o.op=.makeSlice t x y) (ht:(te t).map (·.ty)=some (.slice e)) (he:te e=some ei) (hz:ei.z.length=ei.w) (hw0:0<ei.w) (hx:s.get te tl x=some (.p (.int kl n))) (hy:s.get te tc y=some (.p (.int kc n)))
  (h0:0<=n) (hb:n.toNat*ei.b<=140737488355328) (hb1:0<ei.b) (hzs:∀ s:AS,s.rdL (u7 ei.z n.toNat)=some (cs,[])) (hlit:gI ei.w c cs) (hcl:c.len=n.toNat) (hk:s.blk d=none):SA P o s ⟨opS x (.p (.int kl n))++opS y (.p (.int kc n)),[],[d],some (d,some (.buf d n.toNat)),[(d,.buf c)]⟩:=by
 refine ⟨?_,yK (zJ hx) (zJ hy),by intro e he;simp at he,by intro k hk';simp at hk';subst hk';exact hk⟩;intro cx s' a w K Q hm hs hws hk';obtain ⟨M,κ,tip,h0',hp,hi⟩:=hs;have hbk:=hm.2.2 d (by simp);have h1:=rep_int (repA_pv (zY hi (yJ hx s' (yD hm.1))));have h2:=rep_int (repA_pv (zY hi (yJ hy s' (zX hm.1))));obtain ⟨info,z,i1,i2,i3,i4,i5⟩:=(hok e ei he).info;have hu:=yV hok ht;have hlen:n.toNat<=n.toNat*ei.b:=Qs _ hb1;have hbi:(info.bytes:Int)*n<=281474976710656:=by
  rw [i3];have:((n.toNat*ei.b:Nat):Int)<=140737488355328:=by omega
  rw [Int.natCast_mul,Int.toNat_of_nonneg h0,Int.mul_comm] at this;omega
 have hrun:=run_make (P:=P) w t e info z hu i1 i4 kl kc n n h0 (Int.le_refl _) hbi (by omega);unfold Oper.wp;have:(execOp a.eval o).run P w=.ok (.value (.slice (some ⟨w.heap.size,0,none⟩) n.toNat n.toNat)) (w.alloc (.cells (madeCells z.cells (n.toNat*ei.w)) e)):=by
  rw [i2] at hrun;simp [execOp,ho,h1,h2,hrun]
 rw [this];show K (a.put o.dst _) _;rw [hd];refine hk' _ _ ?_;rw [vV];have hcr:=zAt hok he hz i1 i4 (M:=M) (κ:=κ) (tip:=tip) (B:=s'.blk) n.toNat;obtain ⟨r1,r2⟩:=gJ (hzs s') hcr.2;obtain ⟨c1,c2,c3,c4⟩:=hlit.cells r2;have hle:M.le (xB M w.heap.size 0 (n.toNat*c.width) ((madeCells z.cells (n.toNat*ei.w))[·]?)):=vO λo _ _=>hi.mlt (Qb _);have hrep:Rep (xB M w.heap.size 0 (n.toNat*c.width) ((madeCells z.cells (n.toNat*ei.w))[·]?)) c (.slice (some ⟨w.heap.size,0,none⟩) n.toNat n.toNat):=by
  have:=xT (M:=M) (M':=xB M w.heap.size 0 (n.toNat*c.width) ((madeCells z.cells (n.toNat*ei.w))[·]?)) (b:=w.heap.size) (o:=0) (cap:=n.toNat) c1 c2 hle ?_ (by omega)
  ·rwa [hcl] at this
  intro j hj;rw [hcl] at hj;simp only [xB,Q7];rw [if_pos ⟨trivial,Qo _,hj⟩];rw [c3] at hj;have:j<(madeCells z.cells (n.toNat*ei.w)).size:=by rw [size_madeCells];exact hj
  simp [this]
 refine ⟨_,_,_,h0'.trans' hle,fI hi hp hbk _,(hi.bufNew (oK w _ e) (.inl hbk) c2 (by omega) (by rw [size_madeCells,c3];exact Qb _) (by rw [size_madeCells,c3];exact Qb _) (by simp only [maxLen];omega) hrep).put (hws d (by simp [Mic.ws])) ?_⟩;refine .buf d _ c _ (zU _ _ _) c2 (by omega) ?_ (λ_=>(yR _ _ _).symm);rw [<- hcl,tQ c2,hcl];exact hrep
theorem zUa {s:AS} {z:PV}:∀ (n:Nat),(z.nilOf=true->True)->s.rdL (u7 [z] n)=some (Qa n z,[])
 | 0,_=>by simp [u7,AS.rdL]
 | n+1,h=>by
  have ih:=zUa (s:=s) (z:=z) n h;simp only [u7,Qw,Qz,Qe,W6,Qv] at ih ⊢;simp only [AS.rdL];have:s.rd (zA z)=some (z,[]):=by unfold zA;cases z.nilOf<;>simp [AS.rd]
  rw [this,ih];rfl
theorem zO1 {x:α} (h:z=f x) (hn:z.nilOf=false):∀ (n:Nat),u7 [z] n=(Qa n x).map λy=>AV.p (f y)
 | 0=>rfl
 | n+1=>by
  have ih:=zO1 h hn n;simp only [u7,Qw,Qz,Qe,W6,Qv] at ih ⊢;rw [ih];have hz:zA z=AV.p (f x):=by unfold zA;rw [hn,h];rfl
  rw [hz]
def mkN (b:Nat) (n:Int):Option Nat:=if 0<=n/\n.toNat*b<=140737488355328 then some n.toNat else none
theorem zDg {b:Nat} {n:Int} (h:mkN b n=some m):0<=n/\n.toNat*b<=140737488355328/\m=n.toNat:=by
 unfold mkN at h;split at h
 ·rename_i hc;cases h;exact ⟨hc.1,hc.2,rfl⟩
 ·cases h
def cpy (l m:List α):List α:=m.take l.length++l.drop m.length
theorem zRq {l m:By}:qM (l.map λx=>AV.p (.int .u8 x.toNat)) 0 ((m.take l.length).map λu=>AV.p (.int .u8 u.toNat))=(cpy l m).map λx=>AV.p (.int .u8 x.toNat):=by
 rw [iU (by simp;omega)];unfold cpy;simp only [List.take_zero,List.nil_append,Q7,W3,List.map_append,List.map_drop,List.length_take];congr 1;rcases Nat.le_total l.length m.length with h | h
 ·rw [Nat.min_eq_left h,Qu (by simp),Qu (by simp;omega)]
 ·rw [Nat.min_eq_right h]
theorem zSd (hok:yP P te) {k:IntKind} (ht:(te t).map (·.ty)=some (.arr 2 e)) (he:te e=some ei) (hk:ei.ty=.int k) (hw:ei.w=1) (w:World) (d:Nat) :
  (Op.equalIn (d+2) t (.agg #[.int k a0,.int k a1]) (.agg #[.int k b0,.int k b1])).run P w=.ok (a0==b0&&a1==b1) w:=by
 have hu:=zAq hok ht;have hue:=eT hok (t:=e) (k:=k) (by simp [he,hk]);obtain ⟨info,z,i1,i2,i3,i4,i5⟩:=(hok e ei he).info;rw [run_equalIn_array w (d+1) _ _ hu i1];have hag:(isAgg e).run P w=.ok false w:=by simp [isAgg,run_underlying hue]
 have hc:P.cellsOf e=1:=by simp [Program.cellsOf,i1,i2,hw]
 cases h0:(a0==b0)<;>cases h1:(a1==b1)<;>simp [Op.eqItems,Qr,Qr.loop,part,hag,hc,run_equalIn_int w d e k k _ _ hue,h0,h1]
end
section
variable [T:zIa P] 
theorem RK.cat {a b:By} (h:Ql (a.length+b.length) 140737488355328=true) (hx0:(s.get T.te tx x,s.get T.te tyy y)=(some (.p (.str a)),some (.p (.str b)))) (k:VK P ops r s K d (opS x (.p (.str a))++opS y (.p (.str b))) ([]) (.p (.str (a++b)))):RK P ops (⟨some d,.binOp .add tx x y tyy,ty,pos,af,none⟩:: r) s K:=have ⟨hx,hy⟩:=pq hx0;Q0 rfl rfl (Go.Sw.va_cat h rfl hx hy) k
theorem RK.scM (f:α->PV) {l:List α} (hf:∀ a,(f a).cells=[f a]) (ht0:((T.te t).map (·.ty),(T.te e).map (·.w),s.get T.te t x,l.length,Q8 0 n)=(some (.arr n e),some 1,some (.p (.cptr (.agg (l.map f)))),n,true)) (k:VK P ops r s K d (opS x (.p (.cptr (.agg (l.map f))))) ([]) (.p (.sl 1 (l.map f)))):RK P ops (⟨some d,.slice t x none none none,ty,pos,af,none⟩:: r) s K:=have ⟨ht,ht0⟩:=pq ht0;have ⟨he,ht0⟩:=pq ht0;have ⟨hx,ht0⟩:=pq ht0;have ⟨hn,hn0⟩:=pq ht0;Q0 rfl rfl (Go.Sw.va_sliceC T.ok rfl ht he hx (by simpa using hn) (by have:=Q2 hn0;omega) (zIk hf l) (by simpa [Qm] using hn)) k
theorem RK.mr (f:α->PV) (u:α) {b:Nat} {n:Int} (h:mkN b n=some m) (ht0:((T.te t).map (·.ty),T.te e,ei.b,Q8 0 b,ei.z.length,s.get T.te 0 x,s.get T.te 0 y,s.blk d,ei.z,(f u).nilOf)=(some (.slice e),some ei,b,true,ei.w,some (.p (.int kl n)),some (.p (.int kc n)),none,[f u],false)) (k:BK P ops r s K d (opS x (.p (.int kl n))++opS y (.p (.int kc n))) [] [d] d (.var ((Qa m u).map λy=>AV.p (f y))) (.ref d 0 m)):RK P ops (⟨some d,.makeSlice t x y,ty,pos,af,none⟩:: r) s K:=have ⟨ht,ht0⟩:=pq ht0;have ⟨he,ht0⟩:=pq ht0;have ⟨hb,ht0⟩:=pq ht0;have ⟨hb1,ht0⟩:=pq ht0;have ⟨hz,ht0⟩:=pq ht0;have ⟨hx,ht0⟩:=pq ht0;have ⟨hy,ht0⟩:=pq ht0;have ⟨hk,ht0⟩:=pq ht0;have ⟨hzz,hnil⟩:=pq ht0;by
 obtain ⟨h0,h1,rfl⟩:=zDg h;subst hb;have hb2:=Q2 hb1;have:=Go.Sw.sa_mkr (P:=P) (o:=⟨some d,.makeSlice t x y,ty,pos,af,none⟩) T.ok rfl rfl ht he hz hx hy h0 h1 (by omega) hk;rw [hzz,zO1 rfl hnil] at this;exact Qi rfl this k
theorem RK.mrK {b:Nat} (h:Ql (m*b) 140737488355328=true) (ht:(T.te t).map (·.ty)=some (.slice e)) (he:T.te e=some ei) (hb:ei.b=b) (hb1:Q8 0 b=true) (hz:ei.z.length=ei.w) (hx:s.get T.te 0 x=some (.p (.int kl (m:Nat)))) (hy:s.get T.te 0 y=some (.p (.int kc (m:Nat)))) (hk:s.blk d=none) (k:BK P ops r s K d (opS x (.p (.int kl (m:Nat)))++opS y (.p (.int kc (m:Nat)))) [] [d] d (.var (u7 ei.z m)) (.ref d 0 m)):RK P ops (⟨some d,.makeSlice t x y,ty,pos,af,none⟩:: r) s K:=by
 subst hb;have hb2:=Q2 hb1;exact Qi rfl (Go.Sw.sa_mkr (P:=P) (o:=⟨some d,.makeSlice t x y,ty,pos,af,none⟩) T.ok rfl rfl ht he hz hx hy (by omega) (by simpa using zT h) (by omega) hk) k
theorem RK.mk0 {b:Nat} {n:Int} (h:mkN b n=some m) (ht0:((T.te t).map (·.ty),T.te e,ei.b,Q8 0 b,ei.z.length,s.get T.te 0 x,s.get T.te 0 y,s.blk d,ei.w,Q8 0 ei.w,c.nilOf)=(some (.slice e),some ei,b,true,ei.w,some (.p (.int kl 0)),some (.p (.int kc n)),none,c.width,true,true)) (k:BK P ops r s K d (opS x (.p (.int kl 0))++opS y (.p (.int kc n))) [] [d] d (.buf c) (.buf d 0)):RK P ops (⟨some d,.makeSlice t x y,ty,pos,af,none⟩:: r) s K:=have ⟨ht,ht0⟩:=pq ht0;have ⟨he,ht0⟩:=pq ht0;have ⟨hb,ht0⟩:=pq ht0;have ⟨hb1,ht0⟩:=pq ht0;have ⟨hz,ht0⟩:=pq ht0;have ⟨hx,ht0⟩:=pq ht0;have ⟨hy,ht0⟩:=pq ht0;have ⟨hk,ht0⟩:=pq ht0;have ⟨hw,ht0⟩:=pq ht0;have ⟨hw0,hc⟩:=pq ht0;by
 obtain ⟨h0,h1,rfl⟩:=zDg h;subst hb;have hb2:=Q2 hb1;have hw2:=Q2 hw0;exact Qi rfl (Go.Sw.sa_mk0 (P:=P) (o:=⟨some d,.makeSlice t x y,ty,pos,af,none⟩) T.ok rfl rfl ht he hz (by omega) hx hy h0 h1 (by omega) hc hw.symm hk) k
theorem RK.mbB {b:Nat} {n:Int} (h:mkN b n=some m) (ht0:((T.te t).map (·.ty),T.te e,ei.b,Q8 0 b,ei.z.length,s.get T.te 0 x,s.get T.te 0 y,s.blk d,ei.z,ei.w)=(some (.slice e),some ei,b,true,ei.w,some (.p (.int kl n)),some (.p (.int kc n)),none,[.int .u8 0],1)) (k:BK P ops r s K d (opS x (.p (.int kl n))++opS y (.p (.int kc n))) [] [d] d (.buf (.bytes (Qa m 0))) (.buf d (Qa m (0:UInt8)).length)):RK P ops (⟨some d,.makeSlice t x y,ty,pos,af,none⟩:: r) s K:=have ⟨ht,ht0⟩:=pq ht0;have ⟨he,ht0⟩:=pq ht0;have ⟨hb,ht0⟩:=pq ht0;have ⟨hb1,ht0⟩:=pq ht0;have ⟨hz,ht0⟩:=pq ht0;have ⟨hx,ht0⟩:=pq ht0;have ⟨hy,ht0⟩:=pq ht0;have ⟨hk,ht0⟩:=pq ht0;have ⟨hzz,hw⟩:=pq ht0;by
 obtain ⟨h0,h1,rfl⟩:=zDg h;subst hb;have hb2:=Q2 hb1;rw [List.length_replicate] at k;have hl:gI 1 (.bytes (Qa n.toNat (0:UInt8))) (Qa n.toNat (.int .u8 0)):=by
  have:=zC9 (Qa n.toNat (0:UInt8));rw [List.map_replicate] at this;exact this
 exact Qi rfl (Go.Sw.sa_mkb (P:=P) (o:=⟨some d,.makeSlice t x y,ty,pos,af,none⟩) T.ok rfl rfl ht he hz (by omega) hx hy h0 h1 (by omega) (λs=>by rw [hzz];exact zUa _ (λ_=>trivial)) (by rw [hw];exact hl) (by simp [Qm]) hk) k
theorem RK.cpB {l m:By} (hn:l.length=n) (ht0:((T.te t).map (·.ty),T.te e,ei.w,s.get T.te t x,s.blk k0,s.get T.te t2 y,s.rd vy)=(some (.slice e),some ei,1,some (.ref k0 0 n),some (.var (l.map λx=>AV.p (.int .u8 x.toNat))),some vy,some (.bytes m,bs)))
  (k:BK P ops r s K d (opS x (.ref k0 0 n)++opS y vy) ((k0,.var (l.map λx=>AV.p (.int .u8 x.toNat))) :: bs) [] k0 (.var ((cpy l m).map λx=>AV.p (.int .u8 x.toNat))) (.p (.int .i64 (min m.length n:Nat)))):RK P ops (⟨some d,.call ⟨.builtin .copy,#[x,y],#[t,t2]⟩,ty,pos,af,none⟩:: r) s K:=have ⟨ht,ht0⟩:=pq ht0;have ⟨he,ht0⟩:=pq ht0;have ⟨hw,ht0⟩:=pq ht0;have ⟨hx,ht0⟩:=pq ht0;have ⟨hk,ht0⟩:=pq ht0;have ⟨hy,hp⟩:=pq ht0;by
 subst hn;have:=Go.Sw.sa_copy (P:=P) (o:=⟨some d,.call ⟨.builtin .copy,#[x,y],#[t,t2]⟩,ty,pos,af,none⟩) T.ok rfl rfl ht he hw hx hk (by simp) hy hp;rw [zRq] at this;exact Qi rfl this k
theorem RK.apR (f:α->PV) {b k2:Nat} {l m u:List α} (hf:∀ a,(f a).cells=[f a]) (h:yN b l m=some u) (ht0:((T.te t).map (·.ty),T.te e,(T.te t2).map (·.ty),s.get T.te t x,s.blk k0,1,ei.z.length,s.get T.te t2 y,s.blk k2)=(some (.slice e),some ei,some (.slice e2),some (.buf k0 l.length),some (.buf (.sl 1 (l.map f))),ei.w,ei.w,some (.ref k2 0 n),some (.var (m.map λx=>AV.p (f x))))) (hn:m.length=n) (hone:∀ a,(f a).cells.all PV.one=true) (hb0:(ei.b,Q8 0 b)=(b,true)) (k:BK P ops r s K d (opS x (.buf k0 (PV.sl 1 (l.map f)).len)++opS y (.ref k2 0 n)) ((k0,.buf (.sl 1 (l.map f))) :: (k2,.var (m.map λx=>AV.p (f x))) :: []) ([]) (k0) (.buf (.sl 1 (u.map f))) (.buf k0 (PV.sl 1 (u.map f)).len)):RK P ops (⟨some d,.call ⟨.builtin .append,#[x,y],#[t,t2]⟩,ty,pos,af,none⟩:: r) s K:=have ⟨ht,ht0⟩:=pq ht0;have ⟨he,ht0⟩:=pq ht0;have ⟨ht2,ht0⟩:=pq ht0;have ⟨hx,ht0⟩:=pq ht0;have ⟨hk,ht0⟩:=pq ht0;have ⟨hcw,ht0⟩:=pq ht0;have ⟨hz,ht0⟩:=pq ht0;have ⟨hy,hk2⟩:=pq ht0;have ⟨hb,hb1⟩:=pq hb0;Qi rfl (Go.Sw.sa_appR (c:=.sl 1 (l.map f)) T.ok rfl rfl ht he (yV T.ok ht2) (.inr ⟨_,rfl⟩) (by simpa [Qm] using hx) hk hcw (by omega) hz hy hk2 qF (by rw [<- hcw];exact zIk hf m) (by simpa [Qm] using hn) (appM h) (oneM hone) (by subst hb;have:=zMk h;simpa [Qm,W5] using this) (by subst hb;have:=Q2 hb1;omega)) k
theorem RK.mf {f:FuncId} {tl2:List TypeId} {rs2:LV} {bb bb2:LB} (hxl0:(xs.toList,ys.toList)=(xl,yl)) (ha:mO s T.te xl tl ps rs bb) (hb:mO s T.te yl tl2 qs rs2 bb2) (k:VK P ops r s K d (rs++rs2) (bb++bb2) (.p (.fn f ps qs))):RK P ops (⟨some d,.makeFunc (.func f) xs ys,ty,pos,af,none⟩:: r) s K:=have ⟨hxl,hyl⟩:=pq hxl0;Q0 rfl rfl (Go.Sw.va_mkf rfl hxl hyl ha hb) k
theorem RK.mfA {f:FuncId} (hx:s.get T.te 0 x=some v) (k:VK P ops r s K d (opS x v) ([]) (.fnv f [v])):RK P ops (⟨some d,.makeFunc (.func f) #[x] #[],ty,pos,af,none⟩:: r) s K:=Q0 rfl rfl (Go.Sw.va_mkfA rfl hx) k
theorem RK.cf {f:FuncId} {tx:TypeId} {fs:List PV} {bb:LB} (h:Ok P f na (mkS (argE 0 (fs++(ps++cs))) []) (mkS [(0,av)] blks)) (hx0:(s.get T.te 0 x,xs.toList,ts.toList)=(some (.p (.fn f fs cs)),xl,tl)) (ha:mO s T.te xl tl ps rs bb) (hn0:(Q6 na (fs++(ps++cs)).length,(kR (sh d) blks).all (λk=>(s.blk k).isNone))=(true,true))
  (k:RK P ops r (Mic.upd ⟨opS x (.p (.fn f fs cs))++rs,bb,kR (sh d) blks,some (d,some (av.ren (sh d))),bR (sh d) blks⟩ s) λs' ms=>K s' (⟨opS x (.p (.fn f fs cs))++rs,bb,kR (sh d) blks,some (d,some (av.ren (sh d))),bR (sh d) blks⟩:: ms)):RK P ops (⟨some d,.call ⟨.value x,xs,ts⟩,ty,pos,af,none⟩:: r) s K:=have ⟨hx,hx0⟩:=pq hx0;have ⟨hxl,htl⟩:=pq hx0;have ⟨hn,hf⟩:=pq hn0;
 by
 rw [zBn,zFj] at k;rw [zBn] at hf;exact W4 rfl (Go.Sw.sa_callf rfl rfl hx h hxl htl ha (Q1 hn) (λk hk=>by simpa using (Q9.1 hf) k hk)) k
theorem RK.cpf {f:FuncId} {tx:TypeId} {bb:LB} (h:Ok P f na (mkS ((0,.ptr 0 0) :: argE 1 ps) [(0,.var (cs.map .p))]) (mkS [(0,av)] ((0,.var l') :: blks))) (hx0:(s.get T.te 0 x,xs.toList,ts.toList,s.blk k0,s.rdL l)=(some (.fnv f [.ptr k0 0]),xl,tl,some (.var l),some (cs,bs0))) (ha:mO s T.te xl tl ps rs bb) (hn0:(Q6 na (ps.length+1),(kR (sh d) blks).all (λk=>(s.blk k).isNone),blks.all (λe=>!Nat.beq e.1 0))=(true,true,true))
  (k:RK P ops r (Mic.upd ⟨opS x (.fnv f [.ptr k0 0])++rs,(k0,.var l) :: (bs0++bb),kR (sh d) blks,some (d,some (av.ren (shp d k0))),bR (shp d k0) ((0,.var l') :: blks)⟩ s) λs' ms=>K s' (⟨opS x (.fnv f [.ptr k0 0])++rs,(k0,.var l) :: (bs0++bb),kR (sh d) blks,some (d,some (av.ren (shp d k0))),bR (shp d k0) ((0,.var l') :: blks)⟩:: ms)):RK P ops (⟨some d,.call ⟨.value x,xs,ts⟩,ty,pos,af,none⟩:: r) s K:=have ⟨hx,hx0⟩:=pq hx0;have ⟨hxl,hx0⟩:=pq hx0;have ⟨htl,hx0⟩:=pq hx0;have ⟨hbk,hcs⟩:=pq hx0;have ⟨hn,hn0⟩:=pq hn0;have ⟨hf,hne⟩:=pq hn0;
 by
 rw [zBn,zFj] at k;rw [zBn] at hf;exact W4 rfl (Go.Sw.sa_callpf rfl rfl hx h hxl htl hbk hcs ha (Q1 hn) (λk hk=>by simpa using (Q9.1 hf) k hk) (λe he h0=>by have:=(Q9.1 hne) e he;simp [h0] at this)) k
end
abbrev qI (n:Int):AV:=.p (.int .i64 n)
abbrev qU (x:UInt8):AV:=.p (.int .u8 x.toNat)
abbrev qB (b:Bool):AV:=.p (.bool b)
abbrev qY (l:By):AV:=.p (.bytes l)
abbrev qZ (l:By):AV:=.p (.str l)
abbrev qL (w:Nat) (f:α->PV) (l:List α):AV:=.p (.sl w (l.map f))
abbrev qA (f:α->PV) (l:List α):zI:=.var (l.map λx=>AV.p (f x))
section
theorem im {c:Code} (hl:Imp cx.pk s s') (h:awp P cx c Q s'):awp P cx c Q s:=zQd hl h
end
theorem toA2 {l:List α} {a:A2 α} (h:(match l with | [x,y]=>some (A2.mk x y) | _=>none)=some a):l=[a.a0,a.a1]:=by
 split at h
 ·cases h;rfl
 ·cases h
def lA2:List α->Option (A2 α) | [x,y]=>some ⟨x,y⟩ | _=>none
def lA8:List α->Option (A8 α) | [a,b,c,d,e,f,g,h]=>some ⟨a,b,c,d,e,f,g,h⟩ | _=>none
theorem zMn {l:List α} {r:A2 α} (h:lA2 l=some r):l=[r.a0,r.a1]:=by unfold lA2 at h;split at h<;>cases h;rfl
theorem zUw {l:List α} {r:A8 α} (h:lA8 l=some r):l=[r.a0,r.a1,r.a2,r.a3,r.a4,r.a5,r.a6,r.a7]:=by unfold lA8 at h;split at h<;>cases h;rfl
theorem nz (h:(!(b==0))=true):(b==0)=false:=by simpa using h
theorem i7 {l:List α} (h:Q6 l.length n=true):l.length=n:=Q1 h
theorem x8 {ρ:Nat->Nat} {α:Type} {f:α->PV}:∀ {l:List α},eZ ρ (l.map λx=>AV.p (f x))=l.map λx=>AV.p (f x)
 | []=>rfl
 | x :: r=>by simp only [Qe,eZ,AV.ren];rw [x8 (l:=r)]
theorem tI {s'':AS} (h:Imp pk s s') (k:Imp pk s' s''):Imp pk s s'':=Imp.trans h k
section
def OR (cx:Ctx) (E:AS) (e:Exit) (s:AS):Prop:=(e=.ret∨e=.normal)/\Imp cx.pk s E
theorem zW9 {f:FuncId} {fn:Func} {body:Code} {as rs:AS} (E:AS) (hf:P.funcs[f]? = some fn) (hb:fn.body=some body) (hnm:(fn.name == "runtime.NumGoroutine")=false) (hnt:na<=fn.ntmps) (hks:∀ k,(as.blk k).isSome=true->k∈ks)
  (hr:∀ cx:Ctx,PK cx ks->eF P fn cx E rs) (h:∀ cx:Ctx,cx.nt=fn.ntmps->PK cx ks->awp P cx body (OR cx E) as):Ok P f na as rs:=
 zJq hf hb hnm hnt hks λcx h1 h2 a w hs=>wp_mono (h cx h1 h2 a w hs) λe a' w' ⟨s',g1,g2,g3⟩ =>⟨E,g3 cx a' w' rfl g1,g2,hr cx h2⟩
end
section
variable {bx:LB} {k:IntKind}
theorem zNi {z:Value} (h:Rep M (.agg [.int k a0,.int k a1]) z):z=.agg #[.int k a0,.int k a1]:=by
 cases h with
 | agg l vs h1 h2=>
  have g0:=rep_int (h2 0 (.int k a0) rfl);have g1:=rep_int (h2 1 (.int k a1) rfl);cases vs with
  | mk l=>
   match l,h1 with
   | [u,v],_=>simp at g0 g1;rw [g0,g1]
   | [],h1=>simp at h1
   | [_],h1=>simp at h1
   | _ :: _ :: _ :: _,h1=>simp at h1
theorem zSc (f:Bool) (ho:o.op=.binOp (bif f then .eql else .neq) tx x y tyy) (hg:P.eqGuardType P.depth tx=false) (hrun:∀ (w:World) (d:Nat),(Op.equalIn (d+2) tx (.agg #[.int k a0,.int k a1]) (.agg #[.int k b0,.int k b1])).run P w=.ok (a0==b0&&a1==b1) w)
  (hx:s.get te tx x=some vx) (hpx:s.rd vx=some (.agg [.int k a0,.int k a1],bx)) (hy:s.get te tyy y=some vy) (hpy:s.rd vy=some (.agg [.int k b0,.int k b1],by')) :
  VA P o s (opS x vx++opS y vy) (bx++by') (.p (.bool (bif f then (a0==b0&&a1==b1) else !(a0==b0&&a1==b1)))):=by
 refine ⟨?_,yK (zJ hx) (zJ hy),λe he=>(Qd.1 he).elim (vP vx _ bx hpx e) (vP vy _ by' hpy e)⟩;intro cx M κ tip s' a w hi hr hb;have h1:=zNi (mT hi hx hpx (yD hr) (λe he=>hb e (Qd.2 (.inl he))));have h2:=zNi (mT hi hy hpy (zX hr) (λe he=>hb e (Qd.2 (.inr he))));refine ⟨_,?_,.p _ _ (.bool _)⟩;have h3:=hrun w 9998;cases f
 ·simp only [cond_false] at ho;simp [execOp,ho,h1,h2,run_eqGuard_agg w .neq tx x y _ _ hg,run_neq_struct w tx,h3,Result.andThen]
 ·simp only [cond_true] at ho;simp [execOp,ho,h1,h2,run_eqGuard_agg w .eql tx x y _ _ hg,run_eql_struct w tx,h3,Result.andThen]
theorem zRv (hok:yP P te) (ht:(te t).map (·.ty)=some (.struct [(t0,0),(t1,1)])) (hp:P.stoodInHeld t=false) (hn:(P.fieldsOf t).toList.all (λf=>f.name != "_")=true) (h0:te t0=some i0) (hk0:i0.ty=.int k) (h1:te t1=some i1) (hk1:i1.ty=.int k) (w:World) (d:Nat) :
  (Op.equalIn (d+2) t (.agg #[.int k a0,.int k a1]) (.agg #[.int k b0,.int k b1])).run P w=.ok (a0==b0&&a1==b1) w:=by
 obtain ⟨fields,hu,hfs⟩:=iD hok ht;have hfo:P.fieldsOf t=fields:=by simp [Program.fieldsOf,hu]
 have hu0:=eT hok (t:=t0) (k:=k) (by simp [h0,hk0]);have hu1:=eT hok (t:=t1) (k:=k) (by simp [h1,hk1]);rw [run_equalIn_struct w (d+1) t _ _ (by rw [hfo];exact hu) hp,hfo];rw [hfo] at hn;have ha0:(isAgg t0).run P w=.ok false w:=by simp [isAgg,run_underlying hu0]
 have ha1:(isAgg t1).run P w=.ok false w:=by simp [isAgg,run_underlying hu1]
 match hl:fields.toList,hfs,hn with
 | [f0,f1],hfs,hn=>
  simp at hfs hn;obtain ⟨⟨e1,e2⟩,e3,e4⟩:=hfs;cases h0:(a0==b0)<;>cases h1:(a1==b1)<;>simp [Op.eqFields,hn.1,hn.2,e1,e2,e3,e4,part,ha0,ha1,run_equalIn_int w d t0 k k _ _ hu0,run_equalIn_int w d t1 k k _ _ hu1,h0,h1]
 | [],hfs,hn=>simp at hfs
 | [_],hfs,hn=>simp at hfs
 | _ :: _ :: _ :: _,hfs,hn=>simp at hfs
end
section
variable [T:zIa P] {k0:IntKind} {bx:LB} 
theorem RK.eAn (hg:P.eqGuardType P.depth tx=false) (ht0:((T.te tx).map (·.ty),T.te e,ei.ty,ei.w,s.get T.te tx x,s.rd vx,s.get T.te tyy y,s.rd vy)=(some (.arr 2 e),some ei,.int k0,1,some vx,some (.agg [.int k0 a0,.int k0 a1],bx),some vy,some (.agg [.int k0 b0,.int k0 b1],by')))
  (k:VK P ops r s K d (opS x vx++opS y vy) (bx++by') (.p (.bool (!(a0==b0&&a1==b1))))):RK P ops (⟨some d,.binOp .neq tx x y tyy,ty,pos,af,none⟩:: r) s K:=have ⟨ht,ht0⟩:=pq ht0;have ⟨he,ht0⟩:=pq ht0;have ⟨hk,ht0⟩:=pq ht0;have ⟨hw,ht0⟩:=pq ht0;have ⟨hx,ht0⟩:=pq ht0;have ⟨hpx,ht0⟩:=pq ht0;have ⟨hy,hpy⟩:=pq ht0;Q0 rfl rfl (zSc false rfl hg (λw d=>zSd T.ok ht he hk hw w d) hx hpx hy hpy) k
theorem RK.eSn (hg:P.eqGuardType P.depth tx=false) (hp:P.stoodInHeld tx=false) (hn:(P.fieldsOf tx).toList.all (λf=>f.name != "_")=true) (ht0:((T.te tx).map (·.ty),T.te t0,i0.ty,T.te t1,i1.ty,s.get T.te tx x,s.rd vx,s.get T.te tyy y,s.rd vy)=(some (.struct [(t0,0),(t1,1)]),some i0,.int k0,some i1,.int k0,some vx,some (.agg [.int k0 a0,.int k0 a1],bx),some vy,some (.agg [.int k0 b0,.int k0 b1],by')))
  (k:VK P ops r s K d (opS x vx++opS y vy) (bx++by') (.p (.bool (!(a0==b0&&a1==b1))))):RK P ops (⟨some d,.binOp .neq tx x y tyy,ty,pos,af,none⟩:: r) s K:=have ⟨ht,ht0⟩:=pq ht0;have ⟨h0,ht0⟩:=pq ht0;have ⟨hk0,ht0⟩:=pq ht0;have ⟨h1,ht0⟩:=pq ht0;have ⟨hk1,ht0⟩:=pq ht0;have ⟨hx,ht0⟩:=pq ht0;have ⟨hpx,ht0⟩:=pq ht0;have ⟨hy,hpy⟩:=pq ht0;Q0 rfl rfl (zSc false rfl hg (λw d=>zRv T.ok ht hp hn h0 hk0 h1 hk1 w d) hx hpx hy hpy) k
end
theorem scq {J:Type} {c:Code} {f:J->Exit×AS} {j:J} (hne:∀ y l,(f y).1≠.goto l) (h:awp P cx c (OQ cx f j) s):awp P cx (.scope c) (OQ cx f j) s:=
 zRj h λl s hq=>hne j l hq.1.symm
end Go.Sw
