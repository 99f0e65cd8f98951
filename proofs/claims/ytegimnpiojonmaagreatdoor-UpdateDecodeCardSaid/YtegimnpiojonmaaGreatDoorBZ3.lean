/- UpdateDecode holds for all inputs -/
import Derived.Test.YtegimnpiojonmaaGreatDoorBZ2
import Derived.Scope
import Derived.Laws.StructEq
import Derived.ChangeKeysEq
import Derived.Lib.Bytealg
set_option linter.all false
open Go.Sw.RK renaming va -> Q0, sb -> Qi, so -> W1, st -> W2
open Nat renaming eq_of_beq_eq_true -> Q1, le_of_ble_eq_true -> Q3, blt -> Q7, beq -> Q8, ble -> Qh, zero_add -> Qm, le_refl -> Qo, succ_le_of_lt -> Qr, add_zero -> Qw, zero_le -> Qy
open Array renaming getD_eq_getD_getElem? -> Q2, length_toList -> Qn
open Bool renaming and_eq_true -> Q4, eq_false_iff -> Qg, or_eq_true -> Qz
open Go.Extern.Bytes renaming bytesOf -> Q5, loadBytes -> Qk, asByte -> Qv
open List renaming mem_cons -> Q6, all_eq_true -> Q9, replicate -> Qa, mem_map -> Qb, mem_append -> Qc, map_cons -> Qd, drop_eq_nil_of_le -> Qs, singleton_append -> Qt, replicate_succ -> Qu, flatten_cons -> Qx, mem_filter -> W0, map_set -> W3, map_nil -> W4
open Go.Extern.BytealgIndexByte renaming indexByte -> Qe
open Go.Extern.BytealgCompare renaming compare -> Qf
open Go.Result renaming andThen -> Qj
open Go.Deferred renaming ofValue -> Ql
open Go.Sw.AV renaming oks -> Qp
open Go.Value renaming pointer -> Qq
namespace Go.Sw
open Go
variable {B:NB}{K:AS->List Mic->Prop}{M:Mem}{P:Program}{Q:Exit->AS->Prop}{a a0 a1:Int}{af:Array Edge}{av:AV}{ax:Operand}{b b0 b1:Int}{blk blks bs bs0 by':LB}{c:PV}{cap:Nat}{cc:Int}{cs:List PV}{cx:Ctx}{d:Nat}{dst e e2:TypeId}{ei:TI}{env:LV}{fi:TI}{fn:Func}{fo:Nat}{fs:List (TypeId×Nat)}{ft:TypeId}{fz:Nat×Nat}{hi:Option Operand}{hi2:Option Int}{i:TI}{j k k0:Nat}{k2 kc kk kl:IntKind}{ks:List Nat}{l l' l2:List AV}{lo:Option Operand}{lo2:Option Int}{m:Nat}{mx:Option Operand}{mx2:Option Int}{n na:Nat}{o:Oper}{off:Nat}{ops:Array Oper}{p:PV}{pa:Array (Nat×Operand)}{pk:PKs}{pl:List (Nat×Operand)}{pos:String}{ps:List PV}{q:PV}{qs:List PV}{r:List Oper}{rh rl rm rs:LV}{s s':AS}{src t t2 ta:TypeId}{te:TE}{tip:Nat->Value}{tl:List TypeId}{ts:Array TypeId}{tx ty tyy:TypeId}{v:AV}{vs:LV}{vx vy:AV}{w:World}{w0 wd:Nat}{x:Operand}{xl:List Operand}{xs:Array Operand}{y:Operand}{yl:List Operand}{ys:Array Operand}{z:PV}{α:Type}{κ:Nat->Option Nat}{f:α->PV}{u:α}
class aY (P:Program) where
 te:TE
 ok:yX P te
section
abbrev VK (P:Program) (ops:Array Oper) (r:List Oper) (s:AS) (K:AS->List Mic->Prop) (d:Nat) (rs:LV) (bs:LB) (w:AV):Prop:=RK P ops r (s.put d w) λs' ms=>K s' (⟨rs,bs,[],some (d,some w),[]⟩:: ms)
abbrev BK (P:Program) (ops:Array Oper) (r:List Oper) (s:AS) (K:AS->List Mic->Prop) (d:Nat) (rs:LV) (bs:LB) (fr:List Nat) (k:Nat) (bl:ABlk) (w:AV):Prop:=RK P ops r ((s.setb k bl).put d w) λs' ms=>K s' (⟨rs,bs,fr,some (d,some w),[(k,bl)]⟩:: ms)
def GK (K:AS->List Mic->Prop) (dj:Nat) (b:Bool) (s:AS):List Mic->Prop
 | m :: ms=>K s ({ m with slots:=(dj,.p (.bool b)) :: m.slots } :: ms)
 | []=>False
theorem RK.g {dst:Option Nat} {op:Op} {dj:Nat} {b b':Bool} (hb':b'=b) (hj0:((ops[j]?).bind (·.dst),s.env dj)=(some dj,some (.p (.bool b')))) (k:RK P ops (⟨dst,op,ty,pos,af,none⟩:: r) s (GK K dj b)):RK P ops (⟨dst,op,ty,pos,af,some (j,b)⟩:: r) s K:=have ⟨hj,hb⟩:=pq hj0;by
 obtain ⟨s',ms,h1,h2⟩:=k;cases h1 with
 | cons _ _ _ _ _ _ he hh hr=>
  refine ⟨s',_,.cons _ _ _ _ _ _ ?_ ?_ ?_,h2⟩
  ·intro cx s a w K Q hm hs hw hk;have hy:=zMs hs hj (hm.1 (dj,.p (.bool b)) (by simp));have hwn:Region.wanted ⟨dst,op,ty,pos,af,some (j,b)⟩ (yielded ops a.tmps)=true:=by simp [Region.wanted,hy]
   rw [if_pos hwn];have:=he cx s a w K Q ⟨λe he=>hm.1 e (List.mem_cons_of_mem _ he),hm.2.1,hm.2.2⟩ hs hw hk;rw [if_pos (by simp [Region.wanted])] at this;exact this
  ·exact ⟨λe he=>(Q6.1 he).elim (λh=>by subst h;rw [<- hb'];exact hb) (hh.1 e),hh.2.1,hh.2.2⟩
  ·exact hr
variable [T:aY P]
theorem RK.mv (h:s.get T.te ty x=some v) (k:VK P ops r s K d (opS x v) ([]) (v)):RK P ops (⟨some d,.move x,ty,pos,af,none⟩:: r) s K:=Q0 rfl rfl (Go.Sw.mv T.ok rfl h) k
theorem RK.as (h:s.get T.te ty x=some v) (k:VK P ops r s K d (opS x v) ([]) (v)):RK P ops (⟨some d,.assign x,ty,pos,af,none⟩:: r) s K:=Q0 rfl rfl (Go.Sw.asg T.ok rfl h) k
theorem RK.pT {c a b:Operand} {bb:Bool} (hb:bb=true) (hc0:(s.get T.te 0 c,s.get T.te ty a)=(some (.p (.bool bb)),some v)) (k:VK P ops r s K d (opS c (.p (.bool true))++opS a v) ([]) (v)):RK P ops (⟨some d,.pick c a b,ty,pos,af,none⟩:: r) s K:=have ⟨hc,h⟩:=pq hc0;Q0 rfl rfl (Go.Sw.pkT T.ok hb rfl hc h) k
theorem RK.pF {c a b:Operand} {bb:Bool} (hb:bb=false) (hc0:(s.get T.te 0 c,s.get T.te ty b)=(some (.p (.bool bb)),some v)) (k:VK P ops r s K d (opS c (.p (.bool false))++opS b v) ([]) (v)):RK P ops (⟨some d,.pick c a b,ty,pos,af,none⟩:: r) s K:=have ⟨hc,h⟩:=pq hc0;Q0 rfl rfl (Go.Sw.pkF T.ok hb rfl hc h) k
theorem RK.ad (hx0:(s.get T.te tx x,s.get T.te tyy y)=(some (.p (.int kk a)),some (.p (.int kk b)))) (k:VK P ops r s K d (opS x (.p (.int kk a))++opS y (.p (.int kk b))) ([]) (.p (.int kk (kk.wrap (a+b))))):RK P ops (⟨some d,.binOp .add tx x y tyy,ty,pos,af,none⟩:: r) s K:=have ⟨hx,hy⟩:=pq hx0;Q0 rfl rfl (Go.Sw.iop T.ok .add rfl hx hy) k
theorem RK.adE (hc:kk.wrap (a+b)=cc) (hx0:(s.get T.te tx x,s.get T.te tyy y)=(some (.p (.int kk a)),some (.p (.int kk b)))) (k:VK P ops r s K d (opS x (.p (.int kk a))++opS y (.p (.int kk b))) ([]) (.p (.int kk cc))):RK P ops (⟨some d,.binOp .add tx x y tyy,ty,pos,af,none⟩:: r) s K:=have ⟨hx,hy⟩:=pq hx0;Q0 rfl rfl (Go.Sw.iopE T.ok .add hc rfl hx hy) k
theorem RK.sbt (hx0:(s.get T.te tx x,s.get T.te tyy y)=(some (.p (.int kk a)),some (.p (.int kk b)))) (k:VK P ops r s K d (opS x (.p (.int kk a))++opS y (.p (.int kk b))) ([]) (.p (.int kk (kk.wrap (a - b))))):RK P ops (⟨some d,.binOp .sub tx x y tyy,ty,pos,af,none⟩:: r) s K:=have ⟨hx,hy⟩:=pq hx0;Q0 rfl rfl (Go.Sw.iop T.ok .sub rfl hx hy) k
theorem RK.sbtE (hc:kk.wrap (a - b)=cc) (hx0:(s.get T.te tx x,s.get T.te tyy y)=(some (.p (.int kk a)),some (.p (.int kk b)))) (k:VK P ops r s K d (opS x (.p (.int kk a))++opS y (.p (.int kk b))) ([]) (.p (.int kk cc))):RK P ops (⟨some d,.binOp .sub tx x y tyy,ty,pos,af,none⟩:: r) s K:=have ⟨hx,hy⟩:=pq hx0;Q0 rfl rfl (Go.Sw.iopE T.ok .sub hc rfl hx hy) k
theorem RK.muE (hc:kk.wrap (a*b)=cc) (hx0:(s.get T.te tx x,s.get T.te tyy y)=(some (.p (.int kk a)),some (.p (.int kk b)))) (k:VK P ops r s K d (opS x (.p (.int kk a))++opS y (.p (.int kk b))) ([]) (.p (.int kk cc))):RK P ops (⟨some d,.binOp .mul tx x y tyy,ty,pos,af,none⟩:: r) s K:=have ⟨hx,hy⟩:=pq hx0;Q0 rfl rfl (Go.Sw.iopE T.ok .mul hc rfl hx hy) k
theorem RK.an (hx0:(s.get T.te tx x,s.get T.te tyy y)=(some (.p (.int kk a)),some (.p (.int kk b)))) (k:VK P ops r s K d (opS x (.p (.int kk a))++opS y (.p (.int kk b))) ([]) (.p (.int kk (uJ kk a b)))):RK P ops (⟨some d,.binOp .and tx x y tyy,ty,pos,af,none⟩:: r) s K:=have ⟨hx,hy⟩:=pq hx0;Q0 rfl rfl (Go.Sw.iop T.ok .and rfl hx hy) k
theorem RK.anE (hc:uJ kk a b=cc) (hx0:(s.get T.te tx x,s.get T.te tyy y)=(some (.p (.int kk a)),some (.p (.int kk b)))) (k:VK P ops r s K d (opS x (.p (.int kk a))++opS y (.p (.int kk b))) ([]) (.p (.int kk cc))):RK P ops (⟨some d,.binOp .and tx x y tyy,ty,pos,af,none⟩:: r) s K:=have ⟨hx,hy⟩:=pq hx0;Q0 rfl rfl (Go.Sw.iopE T.ok .and hc rfl hx hy) k
theorem RK.oE (hc:ior kk a b=cc) (hx0:(s.get T.te tx x,s.get T.te tyy y)=(some (.p (.int kk a)),some (.p (.int kk b)))) (k:VK P ops r s K d (opS x (.p (.int kk a))++opS y (.p (.int kk b))) ([]) (.p (.int kk cc))):RK P ops (⟨some d,.binOp .or tx x y tyy,ty,pos,af,none⟩:: r) s K:=have ⟨hx,hy⟩:=pq hx0;Q0 rfl rfl (Go.Sw.iopE T.ok .or hc rfl hx hy) k
theorem RK.xo (hx0:(s.get T.te tx x,s.get T.te tyy y)=(some (.p (.int kk a)),some (.p (.int kk b)))) (k:VK P ops r s K d (opS x (.p (.int kk a))++opS y (.p (.int kk b))) ([]) (.p (.int kk (tD kk a b)))):RK P ops (⟨some d,.binOp .xor tx x y tyy,ty,pos,af,none⟩:: r) s K:=have ⟨hx,hy⟩:=pq hx0;Q0 rfl rfl (Go.Sw.iop T.ok .xor rfl hx hy) k
theorem RK.xoE (hc:tD kk a b=cc) (hx0:(s.get T.te tx x,s.get T.te tyy y)=(some (.p (.int kk a)),some (.p (.int kk b)))) (k:VK P ops r s K d (opS x (.p (.int kk a))++opS y (.p (.int kk b))) ([]) (.p (.int kk cc))):RK P ops (⟨some d,.binOp .xor tx x y tyy,ty,pos,af,none⟩:: r) s K:=have ⟨hx,hy⟩:=pq hx0;Q0 rfl rfl (Go.Sw.iopE T.ok .xor hc rfl hx hy) k
theorem RK.xo8 (hx0:(s.get T.te tx x,s.get T.te tyy y)=(some (.p (.int .u8 a)),some (.p (.int .u8 b)))) (k:VK P ops r s K d (opS x (.p (.int .u8 a))++opS y (.p (.int .u8 b))) ([]) (.p (.int .u8 (u8 (tD IntKind.u8 a b)).toNat))):RK P ops (⟨some d,.binOp .xor tx x y tyy,ty,pos,af,none⟩:: r) s K:=have ⟨hx,hy⟩:=pq hx0;Q0 rfl rfl (Go.Sw.iop8 T.ok .xor rfl hx hy) k
theorem RK.eq (hx0:(s.get T.te tx x,s.get T.te tyy y)=(some (.p (.int kk a)),some (.p (.int kk b)))) (k:VK P ops r s K d (opS x (.p (.int kk a))++opS y (.p (.int kk b))) ([]) (.p (.bool (a==b)))):RK P ops (⟨some d,.binOp .eql tx x y tyy,ty,pos,af,none⟩:: r) s K:=have ⟨hx,hy⟩:=pq hx0;Q0 rfl rfl (Go.Sw.cmp T.ok .eql rfl hx hy) k
theorem RK.ne (hx0:(s.get T.te tx x,s.get T.te tyy y)=(some (.p (.int kk a)),some (.p (.int kk b)))) (k:VK P ops r s K d (opS x (.p (.int kk a))++opS y (.p (.int kk b))) ([]) (.p (.bool (a != b)))):RK P ops (⟨some d,.binOp .neq tx x y tyy,ty,pos,af,none⟩:: r) s K:=have ⟨hx,hy⟩:=pq hx0;Q0 rfl rfl (Go.Sw.cmp T.ok .neq rfl hx hy) k
theorem RK.ls (hx0:(s.get T.te tx x,s.get T.te tyy y)=(some (.p (.int kk a)),some (.p (.int kk b)))) (k:VK P ops r s K d (opS x (.p (.int kk a))++opS y (.p (.int kk b))) ([]) (.p (.bool (decide (a<b))))):RK P ops (⟨some d,.binOp .lss tx x y tyy,ty,pos,af,none⟩:: r) s K:=have ⟨hx,hy⟩:=pq hx0;Q0 rfl rfl (Go.Sw.cmp T.ok .lss rfl hx hy) k
theorem RK.le (hx0:(s.get T.te tx x,s.get T.te tyy y)=(some (.p (.int kk a)),some (.p (.int kk b)))) (k:VK P ops r s K d (opS x (.p (.int kk a))++opS y (.p (.int kk b))) ([]) (.p (.bool (decide (a<=b))))):RK P ops (⟨some d,.binOp .leq tx x y tyy,ty,pos,af,none⟩:: r) s K:=have ⟨hx,hy⟩:=pq hx0;Q0 rfl rfl (Go.Sw.cmp T.ok .leq rfl hx hy) k
theorem RK.gt (hx0:(s.get T.te tx x,s.get T.te tyy y)=(some (.p (.int kk a)),some (.p (.int kk b)))) (k:VK P ops r s K d (opS x (.p (.int kk a))++opS y (.p (.int kk b))) ([]) (.p (.bool (decide (b<a))))):RK P ops (⟨some d,.binOp .gtr tx x y tyy,ty,pos,af,none⟩:: r) s K:=have ⟨hx,hy⟩:=pq hx0;Q0 rfl rfl (Go.Sw.cmp T.ok .gtr rfl hx hy) k
theorem RK.ge (hx0:(s.get T.te tx x,s.get T.te tyy y)=(some (.p (.int kk a)),some (.p (.int kk b)))) (k:VK P ops r s K d (opS x (.p (.int kk a))++opS y (.p (.int kk b))) ([]) (.p (.bool (decide (b<=a))))):RK P ops (⟨some d,.binOp .geq tx x y tyy,ty,pos,af,none⟩:: r) s K:=have ⟨hx,hy⟩:=pq hx0;Q0 rfl rfl (Go.Sw.cmp T.ok .geq rfl hx hy) k
theorem RK.quo (h0:(b==0)=false) (hx:s.get T.te tx x=some (.p (.int kk a))) (hy:s.get T.te tyy y=some (.p (.int kk b))) (k:VK P ops r s K d (opS x (.p (.int kk a))++opS y (.p (.int kk b))) ([]) (.p (.int kk (kk.wrap (a.tdiv b))))):RK P ops (⟨some d,.binOp .quo tx x y tyy,ty,pos,af,none⟩:: r) s K:=Q0 rfl rfl (Go.Sw.quo T.ok h0 rfl hx hy) k
theorem RK.rem (h0:(b==0)=false) (hx:s.get T.te tx x=some (.p (.int kk a))) (hy:s.get T.te tyy y=some (.p (.int kk b))) (k:VK P ops r s K d (opS x (.p (.int kk a))++opS y (.p (.int kk b))) ([]) (.p (.int kk (a.tmod b)))):RK P ops (⟨some d,.binOp .rem tx x y tyy,ty,pos,af,none⟩:: r) s K:=Q0 rfl rfl (Go.Sw.rem T.ok h0 rfl hx hy) k
theorem RK.shl (h0:0<=b) (hx0:(s.get T.te tx x,s.get T.te tyy y)=(some (.p (.int kk a)),some (.p (.int k2 b)))) (k:VK P ops r s K d (opS x (.p (.int kk a))++opS y (.p (.int k2 b))) ([]) (.p (.int kk (lT kk a b)))):RK P ops (⟨some d,.binOp .shl tx x y tyy,ty,pos,af,none⟩:: r) s K:=have ⟨hx,hy⟩:=pq hx0;Q0 rfl rfl (Go.Sw.shl T.ok h0 rfl hx hy) k
theorem RK.shr (h0:0<=b) (hx0:(s.get T.te tx x,s.get T.te tyy y)=(some (.p (.int kk a)),some (.p (.int k2 b)))) (k:VK P ops r s K d (opS x (.p (.int kk a))++opS y (.p (.int k2 b))) ([]) (.p (.int kk (wK kk a b)))):RK P ops (⟨some d,.binOp .shr tx x y tyy,ty,pos,af,none⟩:: r) s K:=have ⟨hx,hy⟩:=pq hx0;Q0 rfl rfl (Go.Sw.shr T.ok h0 rfl hx hy) k
theorem RK.shrE (hc:wK kk a b=cc) (h0:0<=b) (hx0:(s.get T.te tx x,s.get T.te tyy y)=(some (.p (.int kk a)),some (.p (.int k2 b)))) (k:VK P ops r s K d (opS x (.p (.int kk a))++opS y (.p (.int k2 b))) ([]) (.p (.int kk cc))):RK P ops (⟨some d,.binOp .shr tx x y tyy,ty,pos,af,none⟩:: r) s K:=have ⟨hx,hy⟩:=pq hx0;Q0 rfl rfl (Go.Sw.shrE T.ok hc h0 rfl hx hy) k
theorem RK.no {a:Bool} (hx:s.get T.te tx x=some (.p (.bool a))) (k:VK P ops r s K d (opS x (.p (.bool a))) ([]) (.p (.bool (!a)))):RK P ops (⟨some d,.unOp .not tx x,ty,pos,af,none⟩:: r) s K:=Q0 rfl rfl (Go.Sw.not' T.ok rfl hx) k
theorem RK.com (hx:s.get T.te tx x=some (.p (.int kk a))) (k:VK P ops r s K d (opS x (.p (.int kk a))) ([]) (.p (.int kk (zQu kk a)))):RK P ops (⟨some d,.unOp .xor tx x,ty,pos,af,none⟩:: r) s K:=Q0 rfl rfl (Go.Sw.com T.ok rfl hx) k
theorem RK.cv8 (hs0:((T.te src).map (·.ty),(T.te dst).map (·.ty),s.get T.te src x)=(some (.int k2),some (.int .u8),some (.p (.int k2 a)))) (k:VK P ops r s K d (opS x (.p (.int k2 a))) ([]) (.p (.int .u8 (u8 a).toNat))):RK P ops (⟨some d,.convert src dst x,ty,pos,af,none⟩:: r) s K:=have ⟨hs,hs0⟩:=pq hs0;have ⟨ht,hx⟩:=pq hs0;Q0 rfl rfl (Go.Sw.va_conv8 T.ok rfl hs ht hx) k
theorem RK.bts {l:By} (hs0:((T.te src).map (·.ty),(T.te e).map (·.ty),(T.te dst).map (·.ty),s.get T.te src x)=(some (.slice e),some (.int .u8),some .str,some v)) (hp:s.rd v=some (.bytes l,bs)) (k:VK P ops r s K d (opS x v) (bs) (.p (.str l))):RK P ops (⟨some d,.convert src dst x,ty,pos,af,none⟩:: r) s K:=have ⟨hs,hs0⟩:=pq hs0;have ⟨he,hs0⟩:=pq hs0;have ⟨ht,hx⟩:=pq hs0;Q0 rfl rfl (Go.Sw.va_bts T.ok rfl hs he ht hx hp) k
theorem RK.ncp (hx:s.get T.te 0 x=some (.ptr k0 n)) (k:VK P ops r s K d (opS x (.ptr k0 n)) ([]) (.ptr k0 n)):RK P ops (⟨some d,.nilCheck x,ty,pos,af,none⟩:: r) s K:=Q0 rfl rfl (Go.Sw.ncp T.ok rfl hx) k
theorem RK.fa {f:Nat} (ht0:((T.te t).map (·.ty),fs[f]?,T.te ft,nzw fi,s.get T.te 0 x)=(some (.struct fs),some (ft,fo),some fi,true,some (.ptr k0 off))) (k:VK P ops r s K d (opS x (.ptr k0 off)) ([]) (.ptr k0 (off+fo))):RK P ops (⟨some d,.fieldAddr t x f,ty,pos,af,none⟩:: r) s K:=have ⟨ht,ht0⟩:=pq ht0;have ⟨hf,ht0⟩:=pq ht0;have ⟨he,ht0⟩:=pq ht0;have ⟨hw,hx⟩:=pq ht0;Q0 rfl rfl (Go.Sw.fa T.ok rfl ht hf he hw hx) k
theorem RK.fc {l:List PV} {f:Nat} (ht0:((T.te t).map (·.ty),fs[f]?,T.te ft,nzw fi,s.get T.te 0 x,kV fi.isAgg l fo fi.w)=(some (.struct fs),some (ft,fo),some fi,true,some (.p (.cptr (.agg l))),some q)) (k:VK P ops r s K d (opS x (.p (.cptr (.agg l)))) ([]) (.p (.cptr q))):RK P ops (⟨some d,.fieldAddr t x f,ty,pos,af,none⟩:: r) s K:=have ⟨ht,ht0⟩:=pq ht0;have ⟨hf,ht0⟩:=pq ht0;have ⟨he,ht0⟩:=pq ht0;have ⟨hw,ht0⟩:=pq ht0;have ⟨hx,hq⟩:=pq ht0;Q0 rfl rfl (Go.Sw.fc T.ok rfl ht hf he hw hx hq) k
theorem RK.ixB {l:By} {u:UInt8} {i:Int} (h:idx l i=some u) (ht0:((T.te t).map (·.ty),T.te e,s.get T.te t x,s.rd v,1,s.get T.te 0 y)=(some (.slice e),some ei,some v,some (.bytes l,bs),ei.w,some (.p (.int .i64 i)))) (k:VK P ops r s K d (opS x v++opS y (.p (.int .i64 i))) (bs) (.p (.cptr (.int .u8 u.toNat)))):RK P ops (⟨some d,.indexAddr t x y,ty,pos,af,none⟩:: r) s K:=have ⟨ht,ht0⟩:=pq ht0;have ⟨he,ht0⟩:=pq ht0;have ⟨hx,ht0⟩:=pq ht0;have ⟨hp,ht0⟩:=pq ht0;have ⟨hw,hy⟩:=pq ht0;Q0 rfl rfl (Go.Sw.ixB T.ok h rfl ht he hx hp hw hy) k
theorem RK.ixM {w:Nat} {l:List α} {i:Int} (h:idx l i=some u) (ht0:((T.te t).map (·.ty),T.te e,s.get T.te t x)=(some (.slice e),some ei,some v)) (hp:s.rd v=some (.sl w (l.map f),bs)) (hw0:(w,s.get T.te 0 y)=(ei.w,some (.p (.int .i64 i)))) (k:VK P ops r s K d (opS x v++opS y (.p (.int .i64 i))) (bs) (.p (.cptr (f u)))):RK P ops (⟨some d,.indexAddr t x y,ty,pos,af,none⟩:: r) s K:=have ⟨ht,ht0⟩:=pq ht0;have ⟨he,hx⟩:=pq ht0;have ⟨hw,hy⟩:=pq hw0;Q0 rfl rfl (Go.Sw.ixM T.ok h rfl ht he hx hp hw hy) k
theorem RK.ixS {l:By} {u:UInt8} {i:Int} (h:idx l i=some u) (ht0:((T.te t).map (·.ty),s.get T.te t x,s.get T.te 0 y)=(some .str,some (.p (.str l)),some (.p (.int .i64 i)))) (k:VK P ops r s K d (opS x (.p (.str l))++opS y (.p (.int .i64 i))) ([]) (.p (.int .u8 u.toNat))):RK P ops (⟨some d,.index t x y,ty,pos,af,none⟩:: r) s K:=have ⟨ht,ht0⟩:=pq ht0;have ⟨hx,hy⟩:=pq ht0;Q0 rfl rfl (Go.Sw.ixS T.ok h rfl ht hx hy) k
theorem RK.ixC {l:List α} {i:Int} (h:idx l i=some u) (ht0:((T.te t).map (·.ty),T.te e,s.get T.te t x,Qh l.length n,ei.isAgg,ei.w)=(some (.arr n e),some ei,some (.p (.cptr (.agg (l.map f)))),true,false,1)) (hf:∀ a,(f a).cells=[f a]) (hy:s.get T.te 0 y=some (.p (.int .i64 i))) (k:VK P ops r s K d (opS x (.p (.cptr (.agg (l.map f))))++opS y (.p (.int .i64 i))) ([]) (.p (.cptr (f u)))):RK P ops (⟨some d,.indexAddr t x y,ty,pos,af,none⟩:: r) s K:=have ⟨ht,ht0⟩:=pq ht0;have ⟨he,ht0⟩:=pq ht0;have ⟨hx,ht0⟩:=pq ht0;have ⟨hn,ht0⟩:=pq ht0;have ⟨hag,hw⟩:=pq ht0;Q0 rfl rfl (Go.Sw.ixC T.ok h rfl ht he hx hn hag hw hf hy) k
theorem RK.ixV {l:List α} {i:Int} (h:idx l i=some u) (ht0:((T.te t).map (·.ty),T.te e,ei.known,s.get T.te t x,s.rd v,Qh l.length n,ei.isAgg,ei.w)=(some (.arr n e),some ei,true,some v,some (.agg (l.map f),bs),true,false,1)) (hf:∀ a,(f a).cells=[f a]) (hy:s.get T.te 0 y=some (.p (.int .i64 i))) (k:VK P ops r s K d (opS x v++opS y (.p (.int .i64 i))) (bs) (.p (f u))):RK P ops (⟨some d,.index t x y,ty,pos,af,none⟩:: r) s K:=have ⟨ht,ht0⟩:=pq ht0;have ⟨he,ht0⟩:=pq ht0;have ⟨hne,ht0⟩:=pq ht0;have ⟨hx,ht0⟩:=pq ht0;have ⟨hp,ht0⟩:=pq ht0;have ⟨hn,ht0⟩:=pq ht0;have ⟨hag,hw⟩:=pq ht0;Q0 rfl rfl (Go.Sw.ixV T.ok h rfl ht he hne hx hp hy hn hag hw hf) k
theorem RK.ia {i:Int} (h:ixN n i=some j) (ht0:((T.te t).map (·.ty),T.te e,ei.w,s.get T.te t x,s.get T.te 0 y)=(some (.arr n e),some ei,1,some (.ptr k0 off),some (.p (.int .i64 i)))) (k:VK P ops r s K d (opS x (.ptr k0 off)++opS y (.p (.int .i64 i))) ([]) (.ptr k0 (off+j))):RK P ops (⟨some d,.indexAddr t x y,ty,pos,af,none⟩:: r) s K:=have ⟨ht,ht0⟩:=pq ht0;have ⟨he,ht0⟩:=pq ht0;have ⟨hw,ht0⟩:=pq ht0;have ⟨hx,hy⟩:=pq ht0;Q0 rfl rfl (Go.Sw.ia T.ok h rfl ht he hw hx hy) k
theorem RK.iaK {i:Nat} (ht0:((T.te t).map (·.ty),T.te e,s.get T.te t x,s.get T.te 0 y,Q7 i n)=(some (.arr n e),some ei,some (.ptr k0 off),some (.p (.int .i64 (i:Nat))),true)) (k:VK P ops r s K d (opS x (.ptr k0 off)++opS y (.p (.int .i64 (i:Nat)))) ([]) (.ptr k0 (off+i*ei.w))):RK P ops (⟨some d,.indexAddr t x y,ty,pos,af,none⟩:: r) s K:=have ⟨ht,ht0⟩:=pq ht0;have ⟨he,ht0⟩:=pq ht0;have ⟨hx,ht0⟩:=pq ht0;have ⟨hy,h1⟩:=pq ht0;Q0 rfl rfl (Go.Sw.iaK T.ok rfl ht he hx hy h1) k
theorem RK.ir {i:Int} (h:ixN n i=some j) (ht0:((T.te t).map (·.ty),T.te e,ei.w,s.get T.te t x,s.get T.te 0 y)=(some (.slice e),some ei,1,some (.ref k0 off n),some (.p (.int .i64 i)))) (k:VK P ops r s K d (opS x (.ref k0 off n)++opS y (.p (.int .i64 i))) ([]) (.ptr k0 (off+j))):RK P ops (⟨some d,.indexAddr t x y,ty,pos,af,none⟩:: r) s K:=have ⟨ht,ht0⟩:=pq ht0;have ⟨he,ht0⟩:=pq ht0;have ⟨hw,ht0⟩:=pq ht0;have ⟨hx,hy⟩:=pq ht0;Q0 rfl rfl (Go.Sw.ir T.ok h rfl ht he hw hx hy) k
theorem RK.ld (ht0:(T.te t,i.plain,s.get T.te 0 x,s.blk k0,l[off]?)=(some i,true,some (.ptr k0 off),some (.var l),some v)) (k:VK P ops r s K d (opS x (.ptr k0 off)) ([(k0,.var l)]) (v)):RK P ops (⟨some d,.load t x,ty,pos,af,none⟩:: r) s K:=have ⟨ht,ht0⟩:=pq ht0;have ⟨hp,ht0⟩:=pq ht0;have ⟨hx,ht0⟩:=pq ht0;have ⟨hb,hv⟩:=pq ht0;Q0 rfl rfl (Go.Sw.ld T.ok rfl ht hp hx hb hv) k
theorem RK.ldA {f:α->AV} {l:List α} (h:l[j]? = some u) (ht0:(T.te t,i.plain,s.get T.te 0 x)=(some i,true,some (.ptr k0 off))) (hj:off=j) (hb:s.blk k0=some (.var (l.map f))) (k:VK P ops r s K d (opS x (.ptr k0 off)) ([(k0,.var (l.map f))]) (f u)):RK P ops (⟨some d,.load t x,ty,pos,af,none⟩:: r) s K:=have ⟨ht,ht0⟩:=pq ht0;have ⟨hp,hx⟩:=pq ht0;Q0 rfl rfl (Go.Sw.ld T.ok rfl ht hp hx hb (by subst hj;simp [h])) k
theorem RK.ldN (ht0:(T.te t,i.isAgg,s.get T.te 0 x,s.blk k0,Qh (off+i.w) l.length)=(some i,true,some (.ptr k0 off),some (.var l),true)) (k:VK P ops r s K d (opS x (.ptr k0 off)) ([(k0,.var l)]) (.ag ((l.drop off).take i.w))):RK P ops (⟨some d,.load t x,ty,pos,af,none⟩:: r) s K:=have ⟨ht,ht0⟩:=pq ht0;have ⟨hp,ht0⟩:=pq ht0;have ⟨hx,ht0⟩:=pq ht0;have ⟨hb,hv⟩:=pq ht0;Q0 rfl rfl (Go.Sw.ldN T.ok rfl ht hp hx hb hv) k
theorem RK.ldW (ht0:(T.te t,i.isAgg,s.get T.te 0 x,s.blk k0,Q8 i.w l.length)=(some i,true,some (.ptr k0 0),some (.var l),true)) (k:VK P ops r s K d (opS x (.ptr k0 0)) ([(k0,.var l)]) (.ag l)):RK P ops (⟨some d,.load t x,ty,pos,af,none⟩:: r) s K:=have ⟨ht,ht0⟩:=pq ht0;have ⟨hp,ht0⟩:=pq ht0;have ⟨hx,ht0⟩:=pq ht0;have ⟨hb,hv⟩:=pq ht0;Q0 rfl rfl (Go.Sw.ldW T.ok rfl ht hp hx hb hv) k
theorem RK.ldC (ht0:(T.te t,i.plain,s.get T.te 0 x,q.cells)=(some i,true,some (.p (.cptr q)),[q])) (k:VK P ops r s K d (opS x (.p (.cptr q))) ([]) (.p q)):RK P ops (⟨some d,.load t x,ty,pos,af,none⟩:: r) s K:=have ⟨ht,ht0⟩:=pq ht0;have ⟨hp,ht0⟩:=pq ht0;have ⟨hx,hq⟩:=pq ht0;Q0 rfl rfl (Go.Sw.ldC T.ok rfl ht hp hx hq) k
theorem RK.ldD {l:List PV} (ht0:(T.te t,i.isAgg,s.get T.te 0 x,Q8 l.length i.w)=(some i,true,some (.p (.cptr (.agg l))),true)) (k:VK P ops r s K d (opS x (.p (.cptr (.agg l)))) ([]) (.p (.agg l))):RK P ops (⟨some d,.load t x,ty,pos,af,none⟩:: r) s K:=have ⟨ht,ht0⟩:=pq ht0;have ⟨hp,ht0⟩:=pq ht0;have ⟨hx,hl⟩:=pq ht0;Q0 rfl rfl (Go.Sw.ldCN T.ok rfl ht hp hx hl) k
theorem RK.sto (ht0:(T.te t,s.get T.te 0 ax,s.get T.te t x,s.blk k0,Q8 v.cells.length i.w,Qh (off+i.w) l.length,v.cells.all AV.one)=(some i,some (.ptr k0 off),some v,some (.var l),true,true,true)) (k:RK P ops r (s.setb k0 (.var (rN l off v.cells))) λs' ms=>K s' (⟨opS ax (.ptr k0 off)++opS x v,[(k0,.var l)],[],none,[(k0,.var (rN l off v.cells))]⟩:: ms)):RK P ops (⟨none,.store t ax x,ty,pos,af,none⟩:: r) s K:=have ⟨ht,ht0⟩:=pq ht0;have ⟨ha,ht0⟩:=pq ht0;have ⟨hx,ht0⟩:=pq ht0;have ⟨hb,ht0⟩:=pq ht0;have ⟨hw,ht0⟩:=pq ht0;have ⟨hl,hone⟩:=pq ht0;
 W1 rfl (Go.Sw.sto T.ok rfl rfl ht ha hx hb hw hl hone) k
theorem RK.st1 (ht0:(T.te t,s.get T.te 0 ax,s.get T.te t x,s.blk k0,i.w,v.cells,Q7 off l.length,v.one)=(some i,some (.ptr k0 off),some v,some (.var l),1,[v],true,true)) (k:RK P ops r (s.setb k0 (.var (l.set off v))) λs' ms=>K s' (⟨opS ax (.ptr k0 off)++opS x v,[(k0,.var l)],[],none,[(k0,.var (l.set off v))]⟩:: ms)):RK P ops (⟨none,.store t ax x,ty,pos,af,none⟩:: r) s K:=have ⟨ht,ht0⟩:=pq ht0;have ⟨ha,ht0⟩:=pq ht0;have ⟨hx,ht0⟩:=pq ht0;have ⟨hb,ht0⟩:=pq ht0;have ⟨hw,ht0⟩:=pq ht0;have ⟨hc,ht0⟩:=pq ht0;have ⟨hl,hone⟩:=pq ht0;by
 refine W1 rfl ?_ k;have h1:off<l.length:=by have:=Q3 hl;omega
 have:=Go.Sw.sto (P:=P) (o:=⟨none,.store t ax x,ty,pos,af,none⟩) T.ok rfl rfl ht ha hx hb (by simp [hc,hw]) (by rw [hw];simpa using Qr h1) (by simp [hc,hone]);rw [hc,zDt h1] at this;exact this
theorem RK.stW (ht0:(T.te t,s.get T.te 0 ax,s.get T.te t x,s.blk k0,Q8 v.cells.length i.w,Q8 i.w l.length,v.cells.all AV.one)=(some i,some (.ptr k0 0),some v,some (.var l),true,true,true)) (k:RK P ops r (s.setb k0 (.var v.cells)) λs' ms=>K s' (⟨opS ax (.ptr k0 0)++opS x v,[(k0,.var l)],[],none,[(k0,.var v.cells)]⟩:: ms)):RK P ops (⟨none,.store t ax x,ty,pos,af,none⟩:: r) s K:=have ⟨ht,ht0⟩:=pq ht0;have ⟨ha,ht0⟩:=pq ht0;have ⟨hx,ht0⟩:=pq ht0;have ⟨hb,ht0⟩:=pq ht0;have ⟨hw,ht0⟩:=pq ht0;have ⟨hl,hone⟩:=pq ht0;by
 refine W1 rfl ?_ k;have h1:=Q1 hw;have h2:=Q1 hl;have:=Go.Sw.sto (P:=P) (o:=⟨none,.store t ax x,ty,pos,af,none⟩) T.ok rfl rfl ht ha hx hb hw (by simp [h2]) hone;have e:rN l 0 v.cells=v.cells:=by rw [eT (by omega)];simp [h1,h2]
 rw [e] at this;exact this
theorem RK.stA {f:α->AV} {l l':List α} (h:qG l j u=some l') (ht0:(T.te t,s.get T.te 0 ax)=(some i,some (.ptr k0 off))) (hj:off=j) (hx0:(s.get T.te t x,s.blk k0,i.w,(f u).cells,(f u).one)=(some (f u),some (.var (l.map f)),1,[f u],true)) (k:RK P ops r (s.setb k0 (.var (l'.map f))) λs' ms=>K s' (⟨opS ax (.ptr k0 off)++opS x (f u),[(k0,.var (l.map f))],[],none,[(k0,.var (l'.map f))]⟩:: ms)):RK P ops (⟨none,.store t ax x,ty,pos,af,none⟩:: r) s K:=have ⟨ht,ha⟩:=pq ht0;have ⟨hx,hx0⟩:=pq hx0;have ⟨hb,hx0⟩:=pq hx0;have ⟨hw,hx0⟩:=pq hx0;have ⟨hf,hone⟩:=pq hx0;by
 refine W1 rfl ?_ k;subst hj;obtain ⟨h1,h2⟩:=zAd h;have:=Go.Sw.sto (P:=P) (o:=⟨none,.store t ax x,ty,pos,af,none⟩) T.ok rfl rfl ht ha hx hb (by simp [hf,hw]) (by rw [hw];simpa using Qr h1) (by simp [hf,hone]);rw [hf,zDt (by simpa using h1),<- W3,<- h2] at this;exact this
theorem RK.al (ht0:(T.te t,s.blk d)=(some i,none)) (k:BK P ops r s K d ([]) ([]) ([d]) (d) (.var (i.z.map zA)) (.ptr d 0)):RK P ops (⟨some d,.alloc t,ty,pos,af,none⟩:: r) s K:=have ⟨ht,hb⟩:=pq ht0;Qi rfl (Go.Sw.al T.ok rfl rfl ht hb) k
theorem RK.bx (hx0:(s.get T.te t x,s.blk d)=(some v,none)) (k:BK P ops r s K d (opS x v) ([]) ([d]) (d) (.var v.cells) (.ptr d 0)):RK P ops (⟨some d,.box t x,ty,pos,af,none⟩:: r) s K:=have ⟨hx,hb⟩:=pq hx0;Qi rfl (Go.Sw.bx T.ok rfl rfl hx hb) k
theorem RK.bl (hpl0:(pa.toList,T.te t,i.ty,fs.all (λf=>(T.te f.1).isSome))=(pl,some i,.struct fs,true)) (hp:mN s T.te pl vs rs) (hf:mJ (zMr T.te fs) (i.z.map zA) vs=some l) (k:VK P ops r s K d (rs) ([]) (.ag l)):RK P ops (⟨some d,.build t pa,ty,pos,af,none⟩:: r) s K:=have ⟨hpl,hpl0⟩:=pq hpl0;have ⟨ht,hpl0⟩:=pq hpl0;have ⟨hty,hfs⟩:=pq hpl0;Q0 rfl rfl (Go.Sw.bld T.ok rfl hpl ht hty hfs hp hf) k
theorem RK.bA (hpl0:(pa.toList,T.te t,i.ty,T.te e)=(pl,some i,.arr n e,some ei)) (hp:mN s T.te pl vs rs) (hf:mJ (λj=>some (j*ei.w,ei.w)) (i.z.map zA) vs=some l) (k:VK P ops r s K d (rs) ([]) (.ag l)):RK P ops (⟨some d,.build t pa,ty,pos,af,none⟩:: r) s K:=have ⟨hpl,hpl0⟩:=pq hpl0;have ⟨ht,hpl0⟩:=pq hpl0;have ⟨hty,he⟩:=pq hpl0;Q0 rfl rfl (Go.Sw.bldA T.ok rfl hpl ht hty he hp hf) k
theorem RK.liB (l:By) {bb:LB} (hpl0:(pa.toList,(T.te t).map (·.ty),T.te e,ei.z.length,1,Qh n 16777216)=(pl,some (.slice e),some ei,ei.w,ei.w,true)) (hp:mI s T.te e 0 pl vs rs bb) (hf0:(mJ (λj=>some (j*ei.w,ei.w)) (sD ei.z n) vs,l.length,s.blk d)=(some ((l.map λx=>PV.int .u8 x.toNat).map .p),n,none)) (k:BK P ops r s K d (rs) (bb) ([d]) (d) (.buf (.bytes l)) (.buf d l.length)):RK P ops (⟨some d,.buildSlice t n pa,ty,pos,af,none⟩:: r) s K:=have ⟨hpl,hpl0⟩:=pq hpl0;have ⟨ht,hpl0⟩:=pq hpl0;have ⟨he,hpl0⟩:=pq hpl0;have ⟨hz,hpl0⟩:=pq hpl0;have ⟨hw0,hn⟩:=pq hpl0;have ⟨hf,hf0⟩:=pq hf0;have ⟨hcn,hk⟩:=pq hf0;Qi rfl (Go.Sw.litB T.ok l rfl rfl hpl ht he hz hw0 hn hp hf hcn hk) k
theorem RK.li {w:Nat} (f:α->PV) (l:List α) {bb:LB} (hpl0:(pa.toList,(T.te t).map (·.ty),T.te e,ei.z.length,ei.w,Q7 0 w,Qh (n*w) 16777216)=(pl,some (.slice e),some ei,ei.w,w,true,true)) (hp:mI s T.te e 0 pl vs rs bb) (hl:∀ a,(f a).cells.length=w) (hf0:(mJ (λj=>some (j*ei.w,ei.w)) (sD ei.z n) vs,l.length,s.blk d)=(some ((flatCells (l.map f)).map .p),n,none)) (k:BK P ops r s K d (rs) (bb) ([d]) (d) (.buf (.sl w (l.map f))) (.buf d l.length)):RK P ops (⟨some d,.buildSlice t n pa,ty,pos,af,none⟩:: r) s K:=have ⟨hpl,hpl0⟩:=pq hpl0;have ⟨ht,hpl0⟩:=pq hpl0;have ⟨he,hpl0⟩:=pq hpl0;have ⟨hz,hpl0⟩:=pq hpl0;have ⟨hw,hpl0⟩:=pq hpl0;have ⟨hw0,hn⟩:=pq hpl0;have ⟨hf,hf0⟩:=pq hf0;have ⟨hcn,hk⟩:=pq hf0;Qi rfl (Go.Sw.lit T.ok f l rfl rfl hpl ht he hz hw hw0 hn hp hl hf hcn hk) k
theorem RK.lr (hpl0:(pa.toList,(T.te t).map (·.ty),T.te e,ei.z.length,Qh (n*ei.w) 16777216)=(pl,some (.slice e),some ei,ei.w,true)) (hp:mN s T.te pl vs rs) (hf0:(mJ (λj=>some (j*ei.w,ei.w)) (sD ei.z n) vs,s.blk d)=(some l,none)) (k:BK P ops r s K d (rs) ([]) ([d]) (d) (.var l) (.ref d 0 n)):RK P ops (⟨some d,.buildSlice t n pa,ty,pos,af,none⟩:: r) s K:=have ⟨hpl,hpl0⟩:=pq hpl0;have ⟨ht,hpl0⟩:=pq hpl0;have ⟨he,hpl0⟩:=pq hpl0;have ⟨hz,hn⟩:=pq hpl0;have ⟨hf,hk⟩:=pq hf0;Qi rfl (Go.Sw.sa_litr T.ok rfl rfl hpl ht he hz (xE hn) hp hf hk) k
theorem RK.ex (hx0:(s.get T.te 0 x,l[n]?)=(some (.tu l),some v)) (k:VK P ops r s K d (opS x (.tu l)) ([]) (v)):RK P ops (⟨some d,.extract x n,ty,pos,af,none⟩:: r) s K:=have ⟨hx,hq⟩:=pq hx0;Q0 rfl rfl (Go.Sw.va_extractA rfl hx hq) k
theorem RK.slB {l u:By} (h:sub l a b=some u) (ht0:((T.te t).map (·.ty),T.te e,s.get T.te t x)=(some (.slice e),some ei,some v)) (hp:s.rd v=some (.bytes l,bs)) (hw:1=ei.w) (hlo:Bd s T.te lo lo2 rl) (hhi:Bd s T.te hi hi2 rh) (hmx:Bd s T.te mx mx2 rm) (hm:mx2=none∨(mx2=hi2/\hi2.isSome=true)) (ea0:(lo2.getD 0,hi2.getD l.length)=(a,b)) (k:VK P ops r s K d (opS x v++(rl++(rh++rm))) (bs) (.p (.bytes u))):RK P ops (⟨some d,.slice t x lo hi mx,ty,pos,af,none⟩:: r) s K:=have ⟨ht,ht0⟩:=pq ht0;have ⟨he,hx⟩:=pq ht0;have ⟨ea,eb⟩:=pq ea0;Q0 rfl rfl (Go.Sw.slB T.ok h rfl ht he hx hp hw hlo hhi hmx hm ea eb) k
theorem RK.slM {w:Nat} {l u:List α} (h:sub l a b=some u) (ht0:((T.te t).map (·.ty),T.te e,s.get T.te t x,s.rd v,w)=(some (.slice e),some ei,some v,some (.sl w (l.map f),bs),ei.w)) (hlo:Bd s T.te lo lo2 rl) (hhi:Bd s T.te hi hi2 rh) (hmx:Bd s T.te mx mx2 rm) (hm:mx2=none∨(mx2=hi2/\hi2.isSome=true)) (ea0:(lo2.getD 0,hi2.getD l.length)=(a,b)) (k:VK P ops r s K d (opS x v++(rl++(rh++rm))) (bs) (.p (.sl w (u.map f)))):RK P ops (⟨some d,.slice t x lo hi mx,ty,pos,af,none⟩:: r) s K:=have ⟨ht,ht0⟩:=pq ht0;have ⟨he,ht0⟩:=pq ht0;have ⟨hx,ht0⟩:=pq ht0;have ⟨hp,hw⟩:=pq ht0;have ⟨ea,eb⟩:=pq ea0;Q0 rfl rfl (Go.Sw.slM T.ok h rfl ht he hx hp hw hlo hhi hmx hm ea eb) k
theorem RK.lnT {l:By} (ht0:((T.te t).map (·.ty),s.get T.te t x)=(some .str,some (.p (.str l)))) (k:VK P ops r s K d (opS x (.p (.str l))) ([]) (.p (.int .i64 l.length))):RK P ops (⟨some d,.call ⟨.builtin .len,#[x],#[t]⟩,ty,pos,af,none⟩:: r) s K:=have ⟨ht,hx⟩:=pq ht0;Q0 rfl rfl (Go.Sw.lnT T.ok rfl ht hx) k
theorem RK.lnS (ht0:((T.te t).map (·.ty),s.get T.te t x)=(some (.slice e),some v)) (hp:s.rd v=some (p,bs)) (hs:p.isSlice=true) (k:VK P ops r s K d (opS x v) (bs) (.p (.int .i64 p.len))):RK P ops (⟨some d,.call ⟨.builtin .len,#[x],#[t]⟩,ty,pos,af,none⟩:: r) s K:=have ⟨ht,hx⟩:=pq ht0;Q0 rfl rfl (Go.Sw.lnS T.ok rfl ht hx hp hs) k
theorem RK.lnM {w:Nat} {l:List α} (ht0:((T.te t).map (·.ty),s.get T.te t x)=(some (.slice e),some v)) (hp:s.rd v=some (.sl w (l.map f),bs)) (k:VK P ops r s K d (opS x v) (bs) (.p (.int .i64 l.length))):RK P ops (⟨some d,.call ⟨.builtin .len,#[x],#[t]⟩,ty,pos,af,none⟩:: r) s K:=have ⟨ht,hx⟩:=pq ht0;Q0 rfl rfl (Go.Sw.lnM T.ok rfl ht hx hp) k
theorem RK.lnR (ht0:((T.te t).map (·.ty),s.get T.te t x)=(some (.slice e),some (.ref k0 off n))) (k:VK P ops r s K d (opS x (.ref k0 off n)) ([]) (.p (.int .i64 n))):RK P ops (⟨some d,.call ⟨.builtin .len,#[x],#[t]⟩,ty,pos,af,none⟩:: r) s K:=have ⟨ht,hx⟩:=pq ht0;Q0 rfl rfl (Go.Sw.va_lenR T.ok rfl ht hx) k
theorem RK.mi (hx0:(s.get T.te t x,s.get T.te t2 y)=(some (.p (.int kk a)),some (.p (.int kk b)))) (k:VK P ops r s K d (opS x (.p (.int kk a))++opS y (.p (.int kk b))) ([]) (.p (.int kk (if b<a then b else a)))):RK P ops (⟨some d,.call ⟨.builtin .min,#[x,y],#[t,t2]⟩,ty,pos,af,none⟩:: r) s K:=have ⟨hx,hy⟩:=pq hx0;Q0 rfl rfl (Go.Sw.minI T.ok rfl hx hy) k
theorem RK.apNB {b:Nat} {m u:By} (h:xB b [] m=some u) (ht0:((T.te t).map (·.ty),T.te e,(T.te t2).map (·.ty),s.get T.te t x,1,ei.z.length,s.get T.te t2 y,s.rd vy,ei.b,Q7 0 b,s.blk d)=(some (.slice e),some ei,some (.slice e2),some (.nl (.bytes [])),ei.w,ei.w,some vy,some (.bytes m,bs),b,true,none)) (k:BK P ops r s K d (opS x (.nl (.bytes []))++opS y vy) (bs) ([d]) (d) (.buf (.bytes u)) (.buf d u.length)):RK P ops (⟨some d,.call ⟨.builtin .append,#[x,y],#[t,t2]⟩,ty,pos,af,none⟩:: r) s K:=have ⟨ht,ht0⟩:=pq ht0;have ⟨he,ht0⟩:=pq ht0;have ⟨ht2,ht0⟩:=pq ht0;have ⟨hx,ht0⟩:=pq ht0;have ⟨hcw,ht0⟩:=pq ht0;have ⟨hz,ht0⟩:=pq ht0;have ⟨hy,ht0⟩:=pq ht0;have ⟨hp,ht0⟩:=pq ht0;have ⟨hb,ht0⟩:=pq ht0;have ⟨hb1,hk⟩:=pq ht0;Qi rfl (Go.Sw.apNB T.ok h rfl rfl ht he ht2 hx hcw hz hy hp hb hb1 hk) k
theorem RK.apB {b:Nat} {l m u:By} (h:xB b l m=some u) (ht0:((T.te t).map (·.ty),T.te e,(T.te t2).map (·.ty),s.get T.te t x,s.blk k0,1,ei.z.length,s.get T.te t2 y)=(some (.slice e),some ei,some (.slice e2),some (.buf k0 l.length),some (.buf (.bytes l)),ei.w,ei.w,some vy)) (hp:s.rd vy=some (.bytes m,bs)) (hb0:(ei.b,Q7 0 b)=(b,true)) (k:BK P ops r s K d (opS x (.buf k0 l.length)++opS y vy) ((k0,.buf (.bytes l)) :: bs) ([]) (k0) (.buf (.bytes u)) (.buf k0 u.length)):RK P ops (⟨some d,.call ⟨.builtin .append,#[x,y],#[t,t2]⟩,ty,pos,af,none⟩:: r) s K:=have ⟨ht,ht0⟩:=pq ht0;have ⟨he,ht0⟩:=pq ht0;have ⟨ht2,ht0⟩:=pq ht0;have ⟨hx,ht0⟩:=pq ht0;have ⟨hk,ht0⟩:=pq ht0;have ⟨hcw,ht0⟩:=pq ht0;have ⟨hz,hy⟩:=pq ht0;have ⟨hb,hb1⟩:=pq hb0;Qi rfl (Go.Sw.apB T.ok h rfl rfl ht he ht2 hx hk hcw hz hy hp hb hb1) k
theorem RK.apM {b:Nat} (f:α->PV) {w:Nat} {l m u:List α} (h:xB b l m=some u) (ht0:((T.te t).map (·.ty),T.te e,(T.te t2).map (·.ty),s.get T.te t x,s.blk k0,w,Q7 0 w,ei.z.length,s.get T.te t2 y)=(some (.slice e),some ei,some (.slice e2),some (.buf k0 l.length),some (.buf (.sl w (l.map f))),ei.w,true,ei.w,some vy)) (hp:s.rd vy=some (.sl w (m.map f),bs)) (hone:∀ a,(f a).cells.all PV.one=true) (hb0:(ei.b,Q7 0 b)=(b,true)) (k:BK P ops r s K d (opS x (.buf k0 l.length)++opS y vy) ((k0,.buf (.sl w (l.map f))) :: bs) ([]) (k0) (.buf (.sl w (u.map f))) (.buf k0 u.length)):RK P ops (⟨some d,.call ⟨.builtin .append,#[x,y],#[t,t2]⟩,ty,pos,af,none⟩:: r) s K:=have ⟨ht,ht0⟩:=pq ht0;have ⟨he,ht0⟩:=pq ht0;have ⟨ht2,ht0⟩:=pq ht0;have ⟨hx,ht0⟩:=pq ht0;have ⟨hk,ht0⟩:=pq ht0;have ⟨hcw,ht0⟩:=pq ht0;have ⟨hw0,ht0⟩:=pq ht0;have ⟨hz,hy⟩:=pq ht0;have ⟨hb,hb1⟩:=pq hb0;Qi rfl (Go.Sw.apM T.ok f h rfl rfl ht he ht2 hx hk hcw hw0 hz hy hp hone hb hb1) k
theorem RK.stb {l:By} (hs0:((T.te src).map (·.ty),(T.te dst).map (·.ty),(T.te e).map (·.ty),s.get T.te src x)=(some .str,some (.slice e),some (.int .u8),some (.p (.str l)))) (hl:l.length<=140737488355328) (hk:s.blk d=none) (k:BK P ops r s K d (opS x (.p (.str l))) ([]) ([d]) (d) (.buf (.bytes l)) (.buf d l.length)):RK P ops (⟨some d,.convert src dst x,ty,pos,af,none⟩:: r) s K:=have ⟨hs,hs0⟩:=pq hs0;have ⟨ht,hs0⟩:=pq hs0;have ⟨he,hx⟩:=pq hs0;Qi rfl (Go.Sw.sa_stb T.ok rfl rfl hs ht he hx hl hk) k
theorem RK.bb {l:By} (ht0:((T.te t).map (·.ty),(T.te e).map (·.ty),s.get T.te t x,s.blk k0)=(some (.slice e),some (.int .u8),some (.buf k0 l.length),some (.buf (.bytes l)))) (hl:l≠[])
  (k:RK P ops r (s.put d (.buf k0 l.length)) λs' ms=>K s' (⟨opS x (.buf k0 l.length),[(k0,.buf (.bytes l))],[],some (d,some (.buf k0 l.length)),[]⟩:: ms)):RK P ops (⟨some d,.convert t t x,ty,pos,af,none⟩:: r) s K:=have ⟨ht,ht0⟩:=pq ht0;have ⟨he,ht0⟩:=pq ht0;have ⟨hx,hk⟩:=pq ht0;W2 rfl (Go.Sw.sa_bb T.ok rfl rfl ht he hx hk hl) k
theorem RK.cl {f:FuncId} {bb:LB} (h:Ok P f na (mkS (argE 0 ps) []) (mkS [(0,av)] blks)) (hxl0:(xs.toList,ts.toList)=(xl,tl)) (ha:mP s T.te xl tl ps rs bb) (hn0:(Q8 na ps.length,(kR (sh d) blks).all (λk=>(s.blk k).isNone))=(true,true))
  (k:RK P ops r (Mic.upd ⟨rs,bb,kR (sh d) blks,some (d,some (av.ren (sh d))),bR (sh d) blks⟩ s) λs' ms=>K s' (⟨rs,bb,kR (sh d) blks,some (d,some (av.ren (sh d))),bR (sh d) blks⟩:: ms)):RK P ops (⟨some d,.call ⟨.value (.func f),xs,ts⟩,ty,pos,af,none⟩:: r) s K:=have ⟨hxl,htl⟩:=pq hxl0;have ⟨hn,hf⟩:=pq hn0;
 by
 rw [kD,zDp] at k;exact W2 rfl (Go.Sw.cl T.ok h rfl rfl hxl htl ha hn (by rw [<- kD];exact hf)) k
theorem RK.cp {f:FuncId} {xa:Operand} {bb:LB} (h:Ok P f na (mkS ((0,.ptr 0 0) :: argE 1 ps) [(0,.var (cs.map .p))]) (mkS [(0,av)] ((0,.var l') :: blks))) (hxl0:(xs.toList,ts.toList,s.get T.te ta xa,s.blk k0,s.rdL l)=(xa :: xl,ta :: tl,some (.ptr k0 0),some (.var l),some (cs,bs0))) (ha:mP s T.te xl tl ps rs bb) (hn0:(Q8 na (ps.length+1),(kR (sh d) blks).all (λk=>(s.blk k).isNone),blks.all (λe=>!Nat.beq e.1 0))=(true,true,true))
  (k:RK P ops r (Mic.upd ⟨opS xa (.ptr k0 0)++rs,(k0,.var l) :: (bs0++bb),kR (sh d) blks,some (d,some (av.ren (shp d k0))),bR (shp d k0) ((0,.var l') :: blks)⟩ s) λs' ms=>K s' (⟨opS xa (.ptr k0 0)++rs,(k0,.var l) :: (bs0++bb),kR (sh d) blks,some (d,some (av.ren (shp d k0))),bR (shp d k0) ((0,.var l') :: blks)⟩:: ms)):RK P ops (⟨some d,.call ⟨.value (.func f),xs,ts⟩,ty,pos,af,none⟩:: r) s K:=have ⟨hxl,hxl0⟩:=pq hxl0;have ⟨htl,hxl0⟩:=pq hxl0;have ⟨hxa,hxl0⟩:=pq hxl0;have ⟨hbk,hcs⟩:=pq hxl0;have ⟨hn,hn0⟩:=pq hn0;have ⟨hf,hne⟩:=pq hn0;
 by
 rw [kD,zDp] at k;exact W2 rfl (Go.Sw.clp T.ok h rfl rfl hxl htl hxa hbk hcs ha hn (by rw [<- kD];exact hf) hne) k
end
def AS.unb (s:AS) (k:Nat):AS:={ s with blk:=wX s.blk k }
theorem tK {i:Nat} (h:i≠k):wX B k i=B i:=by
 unfold wX;have:Q8 i k=false:=by rw [Qg];intro e;exact h (Q1 e)
 simp [this]
theorem zAn:wX B k k=none:=by simp [wX]
theorem RepA.unb {x:Value} (hr:RepA M κ tip B v x):v.oks (wX B k)=true->RepA M (fA κ k none) tip (wX B k) v x:=by
 have hne:∀ i,(wX B k i).isSome=true->i≠k:=by
  rintro i h rfl;rw [zAn] at h;cases h
 induction hr with
 | p v x h1=>intro _;exact .p v x h1
 | nl c h1=>intro _;exact .nl c h1
 | ptr i o b l h1 h2=>intro h;simp only [Qp] at h;exact .ptr i o b l (by rw [yH (hne i h)];exact h1) (by rw [tK (hne i h)];exact h2)
 | ref i o n b l h1 h2=>intro h;simp only [Qp] at h;exact .ref i o n b l (by rw [yH (hne i h)];exact h1) (by rw [tK (hne i h)];exact h2)
 | buf i n c x h1 hs h2 h3 h4=>intro h;simp only [Qp] at h;exact .buf i n c x (by rw [tK (hne i h)];exact h1) hs h2 h3 h4
 | ag l vs h1 _ ih=>intro h;simp only [Qp] at h;exact .ag l vs h1 (λj q hq=>ih j q hq (uC l h j q hq))
 | tu l vs h1 _ ih=>intro h;simp only [Qp] at h;exact .tu l vs h1 (λj q hq=>ih j q hq (uC l h j q hq))
 | fnv f l vs h1 _ ih=>intro h;simp only [Qp] at h;exact .fnv f l vs h1 (λj q hq=>ih j q hq (uC l h j q hq))
 | own i n w l x h1 h2 h3 hs=>intro h;simp only [Qp] at h;exact .own i n w l x (by rw [tK (hne i h)];exact h1) h2 h3 hs
 | optr i n o w l x h1 h2 h3 hs=>intro h;simp only [Qp] at h;exact .optr i n o w l x (by rw [tK (hne i h)];exact h1) h2 (λe=>by rw [yH (hne i h)];exact h3 e) hs
 | osl i n o m w l x h1 h2 h3 hs=>intro h;simp only [Qp] at h;exact .osl i n o m w l x (by rw [tK (hne i h)];exact h1) h2 (λe=>by rw [yH (hne i h)];exact h3 e) hs
theorem Imp.fixV {t:Nat} (he:s.env t=some (.ptr k 0)) (hb:s.blk k=some (.var l)) (hrd:s.rdL l=some (cs,bs)) (hc:c.cells=cs)
  (hpk:∀ e∈pk,e.1≠k) (hE:∀ u v,u≠t->s.env u=some v->v.oks (wX s.blk k)=true) (hV:∀ i li,i≠k->s.blk i=some (.var li)->qN (wX s.blk k) li=true) (hW:∀ i w li,s.blk i=some (.own w li)->qN (wX s.blk k) li=true):Imp pk s ((s.unb k).put t (.p (.cptr c))):=by
 intro cx a w hcx hs;obtain ⟨M,κ,tip,h0,hp,hi⟩:=hs;obtain ⟨b,arr,e,fz,q1,q2,q3,q4,q5,q6,q7⟩:=hi.vars k l hb;obtain ⟨x,hx1,hx2⟩:=hi.env t _ he;obtain ⟨r1,r2⟩:=zAt hrd q5;cases hx2 with
 | ptr _ _ b' l' g1 g2=>
 rw [q1] at g1;cases g1;have hbase:cx.w0.heap.size<=b:=by
  rcases q7 with q7 | q7
  ·exact q7
  ·simp only [Ctx.pb,Qb] at q7;obtain ⟨e',he',rfl⟩:=q7;have h1:=(hp e' he').1;have:=hi.inj _ _ _ h1 q1;exact (hpk e' (hcx▸he') this).elim
 have hle:M.le (addM M b 0 arr.size (arr[·]?)):=addM_le λo _ _=>q6 o;have hother:∀ b' o,b'≠b->addM M b 0 arr.size (arr[·]?) b' o=M b' o:=by
  intro b' o hne;unfold addM;rw [if_neg (by intro h;exact hne h.1)]
 have hat:∀ j,j<arr.size->addM M b 0 arr.size (arr[·]?) b j=arr[j]?:=by
  intro j hj;unfold addM;rw [if_pos ⟨rfl,Qy _,hj⟩]
 have hmap:∀ {v:AV} {x:Value},RepA M κ tip s.blk v x->v.oks (wX s.blk k)=true->RepA (addM M b 0 arr.size (arr[·]?)) (fA κ k none) tip (wX s.blk k) v x:=
  λh ho=>(h.unb ho).mono hle
 have hcj:∀ (j:Nat) (q:PV),c.cells[j]? = some q->j<arr.size:=λj q hq=>by
  have:=(List.getElem?_eq_some_iff.1 hq).1;rw [hc] at this;omega
 refine ⟨addM M b 0 arr.size (arr[·]?),fA κ k none,tip,h0.trans' hle,λe' he'=>?_,{
  defers:=hi.defers
  size:=hi.size
  fr:=hi.fr
  mem:=λb' o y h=>by
   unfold addM at h;split at h
   ·rename_i hc';obtain ⟨rfl,_,hlt⟩:=hc';simp only [World.cell?,q2];simpa using h
   ·exact hi.mem b' o y h
  env:=λu v h=>by
   simp only [AS.put,AS.unb] at h;cases hbq:Q8 u t with
   | true=>
    have:=Q1 hbq;subst this;simp at h;subst h;refine ⟨_,hx1,.p _ _ (.cptr c b 0 (λj q hq=>?_) (λj q hq=>?_))⟩
    ·have:=hcj j q hq;rw [Qm,hat j this];simp [this]
    ·have hlt:=hcj j q hq;rw [hc] at hq;have:=(r2 j q hq).mono hle;simp only [mget,Qm,hat j hlt];simpa [Q2] using this
   | false=>
    simp [hbq] at h;have hne:u≠t:=by rintro rfl;simp at hbq
    obtain ⟨y,h1,h2⟩:=hi.env u v h;exact ⟨y,h1,hmap h2 (hE u v hne h)⟩
  vars:=λi li h=>by
   have h':wX s.blk k i=some (.var li):=h;have hne:i≠k:=by rintro rfl;rw [zAn] at h';cases h'
   rw [tK hne] at h';obtain ⟨b2,arr2,e2,fz2,z1,z2,z3,z4,z5,z6,z7⟩:=hi.vars i li h';have hnb:b2≠b:=λe=>hne (hi.inj i k b (e▸z1) q1);exact ⟨b2,arr2,e2,fz2,by rw [yH hne];exact z1,z2,z3,z4,λj q hq=>hmap (z5 j q hq) (uC li (hV i li hne h') j q hq),λo=>by rw [hother b2 o hnb];exact z6 o,z7⟩
  bufs:=λi ci h=>by
   have h':wX s.blk k i=some (.buf ci):=h;have hne:i≠k:=by rintro rfl;rw [zAn] at h';cases h'
   rw [tK hne] at h';obtain ⟨z1,z2,z3,z4⟩:=hi.bufs i ci h';refine ⟨z1.mono hle,z2,z3,?_⟩;rw [yH hne];rcases z4 with z4 | ⟨b2,n2,cap2,arr2,e2,fz2,y1,y2,y3,y4,y5,y6,y7,y8⟩
   ·exact .inl z4
   ·have hnb:b2≠b:=λe=>hne (hi.inj i k b (e▸y2) q1);exact .inr ⟨b2,n2,cap2,arr2,e2,fz2,y1,y2,y3,y4,y5,y6,y7,λj hj=>by rw [hother b2 j hnb];exact y8 j hj⟩
  inj:=λi i' b' h1 h2=>by
   have e1:i≠k:=by rintro rfl;rw [vH] at h1;cases h1
   have e2:i'≠k:=by rintro rfl;rw [vH] at h2;cases h2
   rw [yH e1] at h1;rw [yH e2] at h2;exact hi.inj i i' b' h1 h2
  dom:=λi h=>by
   have h':wX s.blk k i=none:=h;by_cases hne:i=k
   ·subst hne;exact vH _ _ _
   ·rw [tK hne] at h';rw [yH hne];exact hi.dom i h'
  glob:=hi.glob.mono hle
  old:=⟨λb' o hb'=>by rw [hother b' o (by omega)];exact hi.old.1 b' o hb',hi.old.2⟩
  owns:=hi.owns.keep λi wd li h=>by
   have h':wX s.blk k i=some (.own wd li):=h;have hne:i≠k:=by rintro rfl;rw [zAn] at h';cases h'
   rw [tK hne] at h';exact ⟨h',yH hne,rfl,λb2 z=>⟨rfl,λo hm=>by rw [hother b2 o (λe=>hne (hi.inj i k b (e▸z) q1))];exact hm⟩,λj q x hq hr=>hmap hr (uC li (hW i wd li h') j q hq)⟩}⟩
 have hne:e'.1≠k:=hpk e' (hcx▸he');rw [yH hne];exact hp e' he'
theorem Imp.pureT {t:Nat} (j:Nat) (he:s.env t=some (.tu l)) (hj:l[j]? = some v) (hr:s.rd v=some (p,bs)):Imp pk s (s.put t (.tu (l.set j (.p p)))):=by
 intro cx a w _ hs;obtain ⟨M,κ,tip,h0,hp,hi⟩:=hs;refine ⟨M,κ,tip,h0,hp,{ hi with env:=λu y e=>?_ }⟩;simp only [AS.put] at e;cases hb:Q8 u t with
 | true=>
  have:=Q1 hb;subst this;simp at e;subst e;obtain ⟨x,h1,h2⟩:=hi.env u _ he;cases h2 with
  | tu _ vs g1 g2=>
  refine ⟨_,h1,.tu _ vs (by simpa using g1) (λi q hq=>?_)⟩;rw [List.getElem?_set] at hq;split at hq
  ·rename_i e;subst e;split at hq
   ·cases hq;exact .p _ _ (zKl (g2 j v hj) hr)
   ·cases hq
  ·exact g2 i q hq
 | false=>
  simp [hb] at e;exact hi.env u y e
section
end
theorem Imp.freezeC {k2 j0:Nat} (he:s.blk k2=some (.var l2)) (hj0:l2[j0]? = some (.ref k 0 n)) (hkk:k2≠k) (hb:s.blk k=some (.var l)) (hrd:s.rdL l=some (cs,bs)) (hc:cV w0 c cs) (hcn:c.len=n) (hw:0<w0) (hml:n<=maxLen)
  (hpk:∀ e∈pk,e.1≠k) (hE:∀ u v,s.env u=some v->v.oks (wX s.blk k)=true) (hV:∀ i li,i≠k->i≠k2->s.blk i=some (.var li)->qN (wX s.blk k) li=true) (hV2:qN (wX s.blk k) (l2.set j0 (.p .nilp))=true) (hW:∀ i w li,s.blk i=some (.own w li)->qN (wX s.blk k) li=true):Imp pk s ((s.setb k (.buf c)).setb k2 (.var (l2.set j0 (.buf k n)))):=by
 intro cx a w hcx hs;obtain ⟨M,κ,tip,h0,hp,hi⟩:=hs;obtain ⟨b,arr,e,fz,q1,q2,q3,q4,q5,q6,q7⟩:=hi.vars k l hb;obtain ⟨bb,arrb,eb,fzb,p1,p2,p3,p4,p5,p6,p7⟩:=hi.vars k2 l2 he;obtain ⟨r1,r2⟩:=zAt hrd q5;obtain ⟨c1,c2,c3,c4⟩:=hc.cells r2;have hasz:arr.size=n*w0:=by rw [q4,<- r1,<- c4,hcn]
 have hx2:=p5 j0 _ hj0;generalize hx:arrb.getD j0 undef=xx at hx2;cases hx2 with
 | ref _ _ _ b' l' g1 g2=>
 rw [q1] at g1;cases g1;have hbase:cx.w0.heap.size<=b:=by
  rcases q7 with q7 | q7
  ·exact q7
  ·simp only [Ctx.pb,Qb] at q7;obtain ⟨e',he',rfl⟩:=q7;have h1:=(hp e' he').1;have:=hi.inj _ _ _ h1 q1;exact (hpk e' (hcx▸he') this).elim
 have hle:M.le (addM M b 0 (n*c.width) (arr[·]?)):=addM_le λo _ _=>q6 o;have hrep:Rep (addM M b 0 (n*c.width) (arr[·]?)) c (.slice (some ⟨b,0,none⟩) n n):=by
  have:=uB (M':=addM M b 0 (n*c.width) (arr[·]?)) (b:=b) (o:=0) (cap:=n) c1 c2 hle ?_ (by omega)
  ·rwa [hcn] at this
  intro j hj;rw [hcn] at hj;simp only [addM,Qm];rw [if_pos ⟨trivial,Qy _,hj⟩];rw [c3,<- hasz] at hj;simp [hj]
 have hother:∀ b' o,b'≠b->addM M b 0 (n*c.width) (arr[·]?) b' o=M b' o:=by
  intro b' o hne;unfold addM;rw [if_neg (by intro h;exact hne h.1)]
 generalize hS:(s.setb k (.buf c)).setb k2 (.var (l2.set j0 (.buf k n)))=S;have hSk:S.blk k=some (.buf c):=by rw [<- hS,zQ (Ne.symm hkk)];exact zW _ _ _
 have hSk2:S.blk k2=some (.var (l2.set j0 (.buf k n))):=by rw [<- hS];exact zW _ _ _
 have hSo:∀ i,i≠k->i≠k2->S.blk i=s.blk i:=λi h1 h2=>by rw [<- hS,zQ h2,zQ h1]
 have hSe:S.env=s.env:=by rw [<- hS];rfl
 have hT:∀ i,i≠k->lH tip k (.slice (some ⟨b,0,none⟩) n n) i=tip i:=λi h=>xI h;have hmap0:∀ {v:AV} {x:Value},RepA M κ tip s.blk v x->v.oks (wX s.blk k)=true->RepA M κ (lH tip k (.slice (some ⟨b,0,none⟩) n n)) (s.setb k (.buf c)).blk v x:=
  λh ho=>h.frz (λi h=>zQ h) hT ho
 have gle:GLe κ κ (lH tip k (.slice (some ⟨b,0,none⟩) n n)) (lH tip k (.slice (some ⟨b,0,none⟩) n n)) (s.setb k (.buf c)).blk S.blk:=by
  rw [<- hS];exact zUj (by rw [zQ hkk];exact he)
 have hmap:∀ {v:AV} {x:Value},RepA M κ tip s.blk v x->v.oks (wX s.blk k)=true->RepA (addM M b 0 (n*c.width) (arr[·]?)) κ (lH tip k (.slice (some ⟨b,0,none⟩) n n)) S.blk v x:=
  λh ho=>((hmap0 h ho).ghost gle).mono hle
 refine ⟨addM M b 0 (n*c.width) (arr[·]?),κ,lH tip k (.slice (some ⟨b,0,none⟩) n n),h0.trans' hle,hp,{
  defers:=hi.defers
  size:=hi.size
  fr:=hi.fr
  mem:=λb' o y h=>by
   unfold addM at h;split at h
   ·rename_i hc';obtain ⟨rfl,_,hlt⟩:=hc';simp only [World.cell?,q2];simpa using h
   ·exact hi.mem b' o y h
  env:=λu v h=>by
   rw [hSe] at h;obtain ⟨y,h1,h2⟩:=hi.env u v h;exact ⟨y,h1,hmap h2 (hE u v h)⟩
  vars:=λi li h=>by
   have hne:i≠k:=by rintro rfl;rw [hSk] at h;cases h
   by_cases h2:i=k2
   ·subst h2;rw [hSk2] at h;cases h;refine ⟨bb,arrb,eb,fzb,p1,p2,p3,by simpa using p4,λj q hq=>?_,λo=>by rw [hother bb o (λe=>hne (hi.inj i k b (e▸p1) q1))];exact p6 o,p7⟩;rw [List.getElem?_set] at hq;split at hq
    ·rename_i e;subst e;split at hq
     ·cases hq;rw [hx];refine .buf k n c _ hSk c2 (by omega) ?_ (λ_=>(xF _ _ _).symm);rw [<- hcn,nQ c2,hcn];exact hrep
     ·cases hq
    ·rename_i hjn;refine hmap (p5 j q hq) (uC _ hV2 j q ?_);rw [List.getElem?_set_ne hjn];exact hq
   ·rw [hSo i hne h2] at h;obtain ⟨b2,arr2,e2,fz2,z1,z2,z3,z4,z5,z6,z7⟩:=hi.vars i li h;have hnb:b2≠b:=λe=>hne (hi.inj i k b (e▸z1) q1);exact ⟨b2,arr2,e2,fz2,z1,z2,z3,z4,λj q hq=>hmap (z5 j q hq) (uC li (hV i li hne h2 h) j q hq),λo=>by rw [hother b2 o hnb];exact z6 o,z7⟩
  bufs:=λi ci h=>by
   by_cases hne:i=k
   ·subst hne;rw [hSk] at h;cases h;rw [xF];refine ⟨hrep,c2,by omega,.inr ⟨b,n,n,arr,e,fz,rfl,q1,hbase,q2,q3,by rw [c3,hasz];exact Qo _,hml,λj hj=>?_⟩⟩;unfold addM;rw [if_neg (by omega)];exact q6 j
   ·have h2:i≠k2:=by rintro rfl;rw [hSk2] at h;cases h
    rw [hSo i hne h2] at h;obtain ⟨z1,z2,z3,z4⟩:=hi.bufs i ci h;rw [hT i hne];refine ⟨z1.mono hle,z2,z3,?_⟩;rcases z4 with z4 | ⟨b2,n2,cap2,arr2,e2,fz2,y1,y2,y3,y4,y5,y6,y7,y8⟩
    ·exact .inl z4
    ·have hnb:b2≠b:=λe=>hne (hi.inj i k b (e▸y2) q1);exact .inr ⟨b2,n2,cap2,arr2,e2,fz2,y1,y2,y3,y4,y5,y6,y7,λj hj=>by rw [hother b2 j hnb];exact y8 j hj⟩
  inj:=hi.inj
  dom:=λi h=>by
   by_cases hne:i=k
   ·subst hne;rw [hSk] at h;cases h
   ·by_cases h2:i=k2
    ·subst h2;rw [hSk2] at h;cases h
    ·rw [hSo i hne h2] at h;exact hi.dom i h
  glob:=hi.glob.mono hle
  old:=⟨λb' o hb'=>by rw [hother b' o (by omega)];exact hi.old.1 b' o hb',hi.old.2⟩
  owns:=hi.owns.keep λi wd li h=>by
   have hne:i≠k:=by rintro rfl;rw [hSk] at h;cases h
   have h2:i≠k2:=by rintro rfl;rw [hSk2] at h;cases h
   rw [hSo i hne h2] at h;exact ⟨h,rfl,hT i hne,λb2 z=>⟨rfl,λo hm=>by rw [hother b2 o (λe=>hne (hi.inj i k b (e▸z) q1))];exact hm⟩,λj q x hq hr=>hmap hr (uC li (hW i wd li h) j q hq)⟩}⟩
section
variable {ms:List Mic} 
theorem sa_callf {fs:List PV} {f:FuncId} {bb:LB} (hd:o.dst=some d) (ho:o.op=.call { callee:=.value x,args:=xs,argTypes:=ts }) (hx:s.get te tx x=some (.p (.fn f fs cs)))
  (hok:Ok P f na (mkS (argE 0 (fs++(ps++cs))) []) (mkS [(0,av)] blks)) (hxl:xs.toList=xl) (htl:ts.toList=tl) (ha:mP s te xl tl ps rs bb) (hn:na=(fs++(ps++cs)).length) (hf:∀ k∈(blks.map λe=>sh d e.1),s.blk k=none) :
  SA P o s ⟨opS x (.p (.fn f fs cs))++rs,bb,blks.map λe=>sh d e.1,some (d,some (av.ren (sh d))),blks.map λe=>(sh d e.1,e.2.ren (sh d))⟩:=by
 refine ⟨?_,yM (zM hx) ha.reads.1,ha.reads.2,hf⟩;intro cx s' a w K Q hm hs hws hk;obtain ⟨M,κ,tip,h0,hp,hi⟩:=hs;obtain ⟨hl,hrep⟩:=ha.rep hi (zZ hm.1) hm.2.1;have hxr:=repA_pv (yF hi (yN hx s' (yI hm.1)));generalize hev:a.eval x=z at hxr;cases hxr with
 | fn _ _ _ vf vc e1 e2 e3 e4=>
 have hmap:(xs.map a.eval).toList=xl.map a.eval:=by simp [hxl]
 have hsz:(vf++xs.map a.eval++vc).size=(fs++(ps++cs)).length:=by
  have:(xs.map a.eval).size=ps.length:=by rw [<- hl,<- Qn,hmap];simp
  simp only [Array.size_append,List.length_append,this,e1,e2];omega
 have hinv:=zRa (w:=w) (hi.globw hp) hi.mem hsz (λj p hj=>by
  have hxsz:(xs.map a.eval).size=ps.length:=by rw [<- hl,<- Qn,hmap];simp
  rw [Q2];rw [List.getElem?_append] at hj;rw [Array.append_assoc,Array.getElem?_append];split at hj
  ·rename_i h1;rw [if_pos (by omega)];simpa [Q2] using e3 j p hj
  ·rename_i h1;rw [if_neg (by omega),Array.getElem?_append,hxsz];rw [List.getElem?_append] at hj;split at hj
   ·rename_i h2;rw [if_pos (by omega)];have:=hrep (j - fs.length) p hj;rw [e1,<- Array.getElem?_toList,hmap];exact this
   ·rename_i h2;rw [if_neg (by omega),e1];simpa [Q2] using e4 _ p hj)
 have hrun:(execOp a.eval o).run P w=.ok (.enter f (vf++xs.map a.eval++vc)) w:=by
  obtain ⟨fn,h1,h2,h3⟩:=hok.1;have h2':fn.body≠none:=by intro e;simp [e] at h2
  have h3':fn.name ≠ "runtime.NumGoroutine":=by intro e;simp [e] at h3
  simp [execOp,ho,resolve,hev,Ql,invoke,callFunc,h1,h2',h3']
 subst hn;unfold Oper.wp;rw [hrun];show Calls P f _ w _;refine (hok.2 w M zU8 _ _ _ hinv (by simp)).mono ?_;rintro e w' ⟨v,rfl,M',κ',tip',h0',hp',hr⟩;show K (a.put o.dst v) w';rw [hd];refine hk _ _ ?_;rw [zHy];obtain ⟨i1,i2⟩:=hi.import h0' hr (sh d) (λj _ j' _ h=>zSt d h) (by simp) (hob:=by simp) (λj hj=>.inr (by
  refine hm.2.2 (sh d j) ?_;obtain ⟨e,he,rfl⟩:=Qb.1 hj;exact Qb.2 ⟨e,he,rfl⟩))
 obtain ⟨x,hx,hrx⟩:=hr.env 0 av (by simp [mkS,lk]);simp at hx;subst hx;refine ⟨M',_,_,h0.trans' h0',?_,i1.put (hws d (by simp [Mic.ws])) (i2 av v hrx)⟩;intro k hk';obtain ⟨h1,h2⟩:=hp k hk';refine ⟨?_,h2⟩;have:fk (sh d) (blks.map (·.1)) k.1=none:=by
  cases hfk:fk (sh d) (blks.map (·.1)) k.1 with
  | none=>rfl
  | some j=>
   obtain ⟨hj,he⟩:=qR hfk;have:=hm.2.2 (sh d j) (by obtain ⟨e,he',rfl⟩:=Qb.1 hj;exact Qb.2 ⟨e,he',rfl⟩);rw [he,hi.dom _ this] at h1;cases h1
 simp only [this];exact h1
theorem sa_callpf {f:FuncId} {bb:LB} (hd:o.dst=some d)
  (ho:o.op=.call { callee:=.value x,args:=xs,argTypes:=ts }) (hxa:s.get te tx x=some (.fnv f [.ptr k 0])) (hok:Ok P f na (mkS ((0,.ptr 0 0) :: argE 1 ps) [(0,.var (cs.map .p))]) (mkS [(0,av)] ((0,.var l') :: blks))) (hxl:xs.toList=xl) (htl:ts.toList=tl) (hbk:s.blk k=some (.var l)) (hcs:s.rdL l=some (cs,bs0))
  (ha:mP s te xl tl ps rs bb) (hn:na=ps.length+1) (hf:∀ j∈(blks.map λe=>sh d e.1),s.blk j=none) (hne:∀ e∈blks,e.1≠0) (hlt:Q7 f 1000000=true) :
  SA P o s ⟨opS x (.fnv f [.ptr k 0])++rs,(k,.var l) :: (bs0++bb),blks.map λe=>sh d e.1,some (d,some (av.ren (shp d k))),((0,.var l') :: blks).map λe=>(shp d k e.1,e.2.ren (shp d k))⟩:=by
 refine ⟨?_,yM (zM hxa) ha.reads.1,?_,hf⟩
 ·intro cx s' a w K Q hm hs hws hk;obtain ⟨M,κ,tip,h0,hp,hi⟩:=hs;have hb':∀ e∈bb,s'.blk e.1=some e.2:=λe he=>hm.2.1 e (by simp [he]);have hbs':∀ e∈bs0,s'.blk e.1=some e.2:=λe he=>hm.2.1 e (by simp [he]);have hbk':s'.blk k=some (.var l):=hm.2.1 (k,.var l) (by simp);obtain ⟨hl,hrep⟩:=ha.rep hi (zZ hm.1) hb';have hxa':=yF hi (yN hxa s' (yI hm.1));obtain ⟨b,arr,e,fz,q1,q2,q3,q4,q5,q6,q7⟩:=hi.vars k l hbk';have hev:a.eval x=.func (.func f) #[.pointer (some ⟨b,0,none⟩)] #[]:=by
   generalize a.eval x=z at hxa';cases hxa' with
   | fnv _ _ vs g1 g2=>
    have g3:=g2 0 (.ptr k 0) rfl;obtain ⟨y,hy⟩:∃ y,vs=#[y]:=by
     cases vs with
     | mk l=>
      match l with
      | [y]=>exact ⟨y,rfl⟩
      | []=>simp at g1
      | _ :: _ :: _=>simp at g1
    subst hy;have g4:(#[y]:Array Value).getD 0 undef=y:=rfl;rw [g4] at g3;cases g3 with
    | ptr _ _ b' _ g5 g6=>rw [q1] at g5;cases g5;simp only [mkF,hlt,cond_true]
  obtain ⟨c1,c2⟩:=zAt (zCj l cs bs0 hcs hbs') q5;have hmap:(#[Qq (some ⟨b,0,none⟩)]++xs.map a.eval++#[]).toList=.pointer (some ⟨b,0,none⟩) :: xl.map a.eval:=by simp [hxl]
  have hsz:(#[Qq (some ⟨b,0,none⟩)]++xs.map a.eval++#[]).size=ps.length+1:=by rw [<- hl,<- Qn,hmap];simp
  have hget0:(#[Qq (some ⟨b,0,none⟩)]++xs.map a.eval++#[])[0]? = some (.pointer (some ⟨b,0,none⟩)):=by rw [<- Array.getElem?_toList,hmap];rfl
  have hinv:=zPk (w:=w) (hi.globw hp) hi.mem hsz hget0 (λj p hj=>by
   have:=hrep j p hj;rw [Q2,<- Array.getElem?_toList,hmap];simpa using this) q2 q3 (by omega) c2 q6
  have hrun:(execOp a.eval o).run P w=.ok (.enter f (#[Qq (some ⟨b,0,none⟩)]++xs.map a.eval++#[])) w:=by
   obtain ⟨fn,h1,h2,h3⟩:=hok.1;have h2':fn.body≠none:=by intro e;simp [e] at h2
   have h3':fn.name ≠ "runtime.NumGoroutine":=by intro e;simp [e] at h3
   simp [execOp,ho,resolve,hev,Ql,invoke,callFunc,h1,h2',h3']
  subst hn;unfold Oper.wp;rw [hrun];show Calls P f _ w _;refine (hok.2 w M ⟨[(0,b)],[],by simp [BIG]⟩ _ _ _ hinv (by intro k' hk';simp at hk';subst hk';exact ⟨by simp,hi.lt q1⟩)).mono ?_;rintro e' w' ⟨v,rfl,M',κ',tip',h0',hp',hr⟩;show K (a.put o.dst v) w';rw [hd];refine hk _ _ ?_;rw [zHy];have hfresh:∀ j∈blks.map (·.1),s'.blk (sh d j)=none:=λj hj=>by
   refine hm.2.2 (sh d j) ?_;obtain ⟨e,he,rfl⟩:=Qb.1 hj;exact Qb.2 ⟨e,he,rfl⟩
  have hD:∀ j∈((0,ABlk.var l') :: blks).map (·.1),j≠0->sh d j≠k:=by
   intro j hj hj0 hk';simp only [Qd,Q6] at hj;rcases hj with hj | hj
   ·exact hj0 hj
   ·have:=hfresh j hj;rw [hk',hbk'] at this;cases this
  obtain ⟨i1,i2⟩:=hi.import h0' hr (hob:=by simp) (shp d k) (λj hj j' hj' h=>zUo d k hD hj hj' h)
   (by
    intro e' he';simp at he';subst he';exact ⟨(hp' (0,b) (by simp)).1,by simpa [shp] using q1,⟨l,by simpa [shp] using hbk'⟩,l',by simp [lk]⟩)
   (λj hj=>by
    simp only [Qd,Q6] at hj;by_cases hj0:j=0
    ·exact .inl ⟨b,by simp [hj0]⟩
    ·refine .inr ?_;have hb0:Q8 j 0=false:=by rw [Qg];intro e;exact hj0 (Q1 e)
     simp only [shp,hb0,cond_false];exact hfresh j (hj.resolve_left hj0))
  obtain ⟨x,hx,hrx⟩:=hr.env 0 av (by simp [mkS,lk]);simp at hx;subst hx;refine ⟨M',_,_,h0.trans' h0',?_,i1.put (hws d (by simp [Mic.ws])) (i2 av v hrx)⟩;intro k' hk';obtain ⟨h1,h2⟩:=hp k' hk';refine ⟨?_,h2⟩;cases hfk:fk (shp d k) (((0,ABlk.var l') :: blks).map (·.1)) k'.1 with
  | none=>exact h1
  | some j=>
   obtain ⟨hj,he⟩:=qR hfk;simp only;by_cases hj0:j=0
   ·subst hj0;simp only [shp] at he;rw [he] at h1;simp at h1;rw [q1] at h1;cases h1;exact (hp' (0,k'.2) (by simp)).1
   ·have hb0:Q8 j 0=false:=by rw [Qg];intro e;exact hj0 (Q1 e)
    simp only [shp,hb0,cond_false] at he;simp only [Qd,Q6] at hj;have:=hfresh j (hj.resolve_left hj0);rw [he,hi.dom _ this] at h1;cases h1
 ·intro e he;simp only [Q6,Qc] at he;rcases he with he | he | he
  ·subst he;exact hbk
  ·exact zC3 l cs bs0 hcs e he
  ·exact ha.reads.2 e he
theorem va_mkf {f:FuncId} {tl':List TypeId} {rs':LV} {bb bb':LB} (ho:o.op=.makeFunc (.func f) xs ys) (hxl:xs.toList=xl) (hyl:ys.toList=yl) (ha:mP s te xl tl ps rs bb) (hb:mP s te yl tl' qs rs' bb'):VA P o s (rs++rs') (bb++bb') (.p (.fn f ps qs)):=by
 refine ⟨?_,yM ha.reads.1 hb.reads.1,λe he=>(Qc.1 he).elim (ha.reads.2 e) (hb.reads.2 e)⟩;intro cx M κ tip s' a w hi hr hbb;obtain ⟨h1,h2⟩:=ha.rep hi (yI hr) (λe he=>hbb e (Qc.2 (.inl he)));obtain ⟨h3,h4⟩:=hb.rep hi (zZ hr) (λe he=>hbb e (Qc.2 (.inr he)));refine ⟨.func (.func f) (xs.map a.eval) (ys.map a.eval),by simp [execOp,ho,Instr.makeFunc],.p _ _ (.fn f ps qs _ _ (by rw [<- h1,<- hxl];simp) (by rw [<- h3,<- hyl];simp) (λj q hq=>?_) (λj q hq=>?_))⟩
 ·have:=h2 j q hq;rw [<- hxl] at this;rw [Q2];simpa using this
 ·have:=h4 j q hq;rw [<- hyl] at this;rw [Q2];simpa using this
theorem va_mkfA {f:FuncId} (ho:o.op=.makeFunc (.func f) #[x] #[]) (hx:s.get te tx x=some v) (hlt:Q7 f 1000000=true):VA P o s (opS x v) [] (.fnv f [v]):=by
 refine ⟨?_,zM hx,by simp⟩;intro cx M κ tip s' a w hi hr _;have h1:=yF hi (yN hx s' hr);refine ⟨mkF f #[a.eval x],by simp [execOp,ho,Instr.makeFunc,mkF,hlt],.fnv f _ _ rfl (λj q hq=>?_)⟩;cases j with
 | zero=>simp at hq;subst hq;exact h1
 | succ j=>simp at hq
end
def gE (s:AS):LV->List (Option AV)
 | []=>[]
 | (t,_) :: r=>s.env t :: gE s r
def vE (ρ:AV->AV):LV->List (Option AV)
 | []=>[]
 | (_,v) :: r=>some (ρ v) :: vE ρ r
def gB (s:AS) (ρ:Nat->Nat):LB->List (Option ABlk)
 | []=>[]
 | (t,_) :: r=>s.blk (ρ t) :: gB s ρ r
def vB (ρ:ABlk->ABlk):LB->List (Option ABlk)
 | []=>[]
 | (_,v) :: r=>some (ρ v) :: vB ρ r
def rE (ρ:Nat->Nat):LV->LV
 | []=>[]
 | (t,v) :: r=>(t,v.ren ρ) :: rE ρ r
theorem zRn (s:AS):∀ l,gE s l=l.map λe=>s.env e.1
 | []=>rfl
 | (_,_) :: r=>by simp [gE,zRn s r]
theorem zQ0 (ρ:AV->AV):∀ l,vE ρ l=l.map λe=>some (ρ e.2)
 | []=>rfl
 | (_,_) :: r=>by simp [vE,zQ0 ρ r]
theorem zQ3 (s:AS) (ρ:Nat->Nat):∀ l,gB s ρ l=l.map λe=>s.blk (ρ e.1)
 | []=>rfl
 | (_,_) :: r=>by simp [gB,zQ3 s ρ r]
theorem zSb (ρ:ABlk->ABlk):∀ l,vB ρ l=l.map λe=>some (ρ e.2)
 | []=>rfl
 | (_,_) :: r=>by simp [vB,zSb ρ r]
theorem zWa (ρ:Nat->Nat):∀ l,rE ρ l=l.map λe=>(e.1,e.2.ren ρ)
 | []=>rfl
 | (_,_) :: r=>by simp [rE,zWa ρ r]
def swp:List (Nat×Nat)->List (Nat×Nat)
 | []=>[]
 | (a,b) :: r=>(b,a) :: swp r
theorem zQg:∀ (env:LV),env.map (λe=>s.env e.1)=env.map (λe=>some e.2)->zTe s env
 | [],_=>trivial
 | (t,v) :: r,h=>by
  simp only [Qd,List.cons.injEq] at h;exact ⟨h.1,zQg r h.2⟩
theorem zQq:∀ (blk:LB),blk.map (λe=>s.blk e.1)=blk.map (λe=>some e.2)->zTg s blk
 | [],_=>trivial
 | (t,v) :: r,h=>by
  simp only [Qd,List.cons.injEq] at h;exact ⟨h.1,zQq r h.2⟩
theorem lp (hpk:PK cx ks) (he:gE s env=vE id env) (hb:gB s id blk=vB id blk) (h1:(jT (lk blk) env&&ks.all (λk=>(lk blk k).isSome))=true) (h2:sC (lk blk) blk=true):Imp cx.pk s (mkS env blk):=by
 simp only [Q4] at h1;rw [zRn,zQ0] at he;rw [zQ3,zSb] at hb;exact Imp.lep (Lep.mk' hpk (zQg env he) (zQq blk hb) h1.1 h2 h1.2)
theorem cbv {r:LB} (h:qN B l=true) (k':sC B r=true):sC B ((k,.var l) :: r)=true:=by simp [sC,h,k']
theorem cbb {r:LB} (k':sC B r=true):sC B ((k,.buf c) :: r)=true:=by simp [sC,k']
theorem om {l:List α}:qN B (l.map λx=>AV.p (f x))=true:=zFt f l
theorem lr (hpk:PK cx ks) (m:List (Nat×Nat)) 
  (he:gE s env=vE (AV.ren (rho m)) env) (hb:gB s (rho m) blk=vB (ABlk.ren (rho m)) blk)
  (h1:(jT (lk (bR (rho m) blk)) (rE (rho m) env)&&(ks.all (λk=>(lk (bR (rho m) blk) k).isSome) &&
   (((kR (rho m) blk).all λj=>(Q7 j BIG||Qh BIG (rho (swp m) j))&&(kR (rho m) blk).all λj'=>!Nat.beq (rho (swp m) j) (rho (swp m) j')||Q8 j j')&&ks.all λk=>Q8 (rho (swp m) k) k)))=true)
  (h2:sC (lk (bR (rho m) blk)) (bR (rho m) blk)=true)
  (h3:rE (rho (swp m)) (rE (rho m) env)=env) (h4:bR (rho (swp m)) (bR (rho m) blk)=blk):Imp cx.pk s (mkS env blk):=by
 simp only [Q4] at h1;obtain ⟨g1,g2,g3,g4⟩:=h1;rw [zRn,zQ0] at he;rw [zQ3,zSb] at hb;have a1:=lp hpk (s:=s) (env:=rE (rho m) env) (blk:=bR (rho m) blk) (by rw [zRn,zQ0,zWa];simpa using he) (by rw [zQ3,zSb,zDp];simpa using hb) (by simp only [Q4];exact ⟨g1,g2⟩) h2;refine a1.trans ?_;rw [kD] at g3;have a2:=Imp.renK hpk (swp m) (env:=rE (rho m) env) (blks:=bR (rho m) blk) (by rw [zDp];simpa using g3) (by
  rw [Q9] at g4 g2 ⊢;intro k hk;simp only [Q4,List.any_eq_true];refine ⟨g4 k hk,k,?_,by simp⟩;obtain ⟨b,hb'⟩:=Option.isSome_iff_exists.1 (g2 k hk);exact Qb.2 ⟨_,tR _ _ _ hb',rfl⟩)
 rw [<- zWa,<- zDp,h3,h4] at a2;exact a2
theorem oY {s:AS} {α:Type} {f:α->PV}:∀ {l:List α},s.rdL (l.map λx=>AV.p (f x))=some (l.map f,[])
 | []=>by simp [AS.rdL]
 | x :: r=>by simp [AS.rdL,AS.rd,oY (l:=r)]
theorem zRd (hf:∀ a,(f a).cells=[f a]):∀ (l:List α),flatCells (l.map f)=l.map f
 | []=>rfl
 | x :: r=>by simp [flatCells,hf,zRd hf r]
theorem zI3 (l:By):cV 1 (.bytes l) (l.map λx=>PV.int .u8 x.toNat):=.bytes l rfl
theorem zK5 (hf:∀ a,(f a).cells=[f a]) (l:List α):cV 1 (.sl 1 (l.map f)) (l.map f):=by
 have:=yA7 (w:=1) (f:=f) l (λa=>by rw [hf a];rfl);rwa [zRd hf] at this
def rI (B:NB) (k:Nat):LB->Bool
 | []=>true
 | (i,.var l) :: r=>(Q8 i k||qN B l)&&rI B k r
 | (_,.buf _) :: r=>rI B k r
 | (_,.own _ l) :: r=>qN B l&&rI B k r
theorem cxv {i:Nat} {r:LB} (h:qN B l=true) (k':rI B k r=true):rI B k ((i,.var l) :: r)=true:=by simp [rI,h,k']
theorem cxk {r:LB} (k':rI B k r=true):rI B k ((k,.var l) :: r)=true:=by simp [rI,k']
theorem rI.mem:∀ {l:LB},rI B k l=true->∀ {t v},t≠k->(t,.var v)∈l->qN B v=true
 | (i,.var u) :: _,h,t,v,hne,hm=>by
  simp only [rI,Q4,Qz] at h;rcases Q6.1 hm with e | hm
  ·cases e;rcases h.1 with h1 | h1
   ·exact (hne (Q1 h1)).elim
   ·exact h1
  ·exact rI.mem h.2 hne hm
 | (i,.buf u) :: _,h,t,v,hne,hm=>by
  simp only [rI] at h;rcases Q6.1 hm with e | hm
  ·cases e
  ·exact rI.mem h hne hm
 | (i,.own w u) :: _,h,t,v,hne,hm=>by
  simp only [rI,Q4] at h;rcases Q6.1 hm with e | hm
  ·cases e
  ·exact rI.mem h.2 hne hm
theorem rI.memO:∀ {l:LB},rI B k l=true->∀ {t w v},(t,.own w v)∈l->qN B v=true
 | (i,.var u) :: _,h,t,w,v,hm=>by
  simp only [rI,Q4] at h;rcases Q6.1 hm with e | hm
  ·cases e
  ·exact rI.memO h.2 hm
 | (i,.buf u) :: _,h,t,w,v,hm=>by
  simp only [rI] at h;rcases Q6.1 hm with e | hm
  ·cases e
  ·exact rI.memO h hm
 | (i,.own w0 u) :: _,h,t,w,v,hm=>by
  simp only [rI,Q4] at h;rcases Q6.1 hm with e | hm
  ·cases e;exact h.1
  ·exact rI.memO h.2 hm
theorem cxo {i w:Nat} {r:LB} (h:qN B l=true) (k':rI B k r=true):rI B k ((i,.own w l) :: r)=true:=by simp [rI,h,k']
theorem cbo {i w:Nat} {r:LB} (h:qN B l=true) (k':sC B r=true):sC B ((i,.own w l) :: r)=true:=by simp [sC,h,k']
def zMz (B:NB) (t:Nat):LV->Bool
 | []=>true
 | (u,v) :: r=>(Q8 u t||v.oks B)&&zMz B t r
theorem zMz.mem {t:Nat}:∀ {l:LV},zMz B t l=true->∀ {u v},u≠t->(u,v)∈l->v.oks B=true
 | (i,x) :: _,h,u,v,hne,hm=>by
  simp only [zMz,Q4,Qz] at h;rcases Q6.1 hm with e | hm
  ·cases e;rcases h.1 with h1 | h1
   ·exact (hne (Q1 h1)).elim
   ·exact h1
  ·exact zMz.mem h.2 hne hm
section
theorem fzE (hpk:PK cx ks) (t:Nat) (he:lk env t=some (.ref k 0 n)) (hb:lk blk k=some (.var l)) (hrd:(mkS env blk).rdL l=some (cs,bs)) (hc:cV w0 c cs) (hcn:c.len=n) (hw:Q7 0 w0=true) (hml:n<=140737488355328)
  (h1:(ks.all (λj=>!Nat.beq j k)&&zMz (wX (lk blk) k) t env)=true) (h2:rI (wX (lk blk) k) k blk=true):Imp cx.pk (mkS env blk) (((mkS env blk).setb k (.buf c)).put t (.buf k n)):=by
 simp only [Q4] at h1;refine Imp.freeze (w0:=w0) he hb hrd hc hcn (by have:=Q3 hw;omega) (by simp only [maxLen];omega) (λe he' hk=>?_) (λu v hu h=>zMz.mem h1.2 hu (tR env u v h)) (λi li hi h=>rI.mem h2 hi (tR blk i _ h)) (λi w li h=>rI.memO h2 (tR blk i _ h));have:=(Q9.1 h1.1) e.1 (hpk e he');simp [hk] at this
theorem fzC (hpk:PK cx ks) (k2 j0:Nat) (he:lk blk k2=some (.var l2)) (hj0:l2[j0]? = some (.ref k 0 n)) (hb:lk blk k=some (.var l)) (hrd:(mkS env blk).rdL l=some (cs,bs)) (hc:cV w0 c cs) (hcn:c.len=n) (hw:Q7 0 w0=true) (hml:n<=140737488355328)
  (h1:(ks.all (λj=>!Nat.beq j k)&&(!Nat.beq k2 k&&(jT (wX (lk blk) k) env&&qN (wX (lk blk) k) (l2.set j0 (.p .nilp)))))=true) (h2:rI (wX (lk blk) k) k (blk.filter λe=>!Nat.beq e.1 k2)=true):Imp cx.pk (mkS env blk) (((mkS env blk).setb k (.buf c)).setb k2 (.var (l2.set j0 (.buf k n)))):=by
 simp only [Q4] at h1;refine Imp.freezeC (w0:=w0) he hj0 (λe=>by have:=h1.2.1;simp [e] at this) hb hrd hc hcn (by have:=Q3 hw;omega) (by simp only [maxLen];omega) (λe he' hk=>?_) (λu v h=>jT.mem h1.2.2.1 (tR env u v h)) (λi li hi hi2 h=>rI.mem h2 hi (W0.2 ⟨tR blk i _ h,?_⟩)) h1.2.2.2 (λi w li h=>rI.memO h2 (W0.2 ⟨tR blk i _ h,?_⟩))
 ·have:=(Q9.1 h1.1) e.1 (hpk e he');simp [hk] at this
 ·have:Q8 i k2=false:=by rw [Qg];intro e;exact hi2 (Q1 e)
  simp [this]
 ·have hne:i≠k2:=by rintro rfl;have h':lk blk i=some (.own w li):=h;rw [he] at h';cases h'
  have:Q8 i k2=false:=by rw [Qg];intro e;exact hne (Q1 e)
  simp [this]
theorem zZi (hpk:PK cx ks) (t:Nat) (u:By) (hcn:u.length=n) (he:lk env t=some (.ref k 0 n)) (hb:lk blk k=some (.var l)) (hrd:(mkS env blk).rdL l=some (cs,bs)) (hc:cV 1 (.bytes u) cs) (hml:n<=140737488355328)
  (h1:(ks.all (λj=>!Nat.beq j k)&&zMz (wX (lk blk) k) t env)=true) (h2:rI (wX (lk blk) k) k blk=true):Imp cx.pk (mkS env blk) (((mkS env blk).setb k (.buf (.bytes u))).put t (.buf k u.length)):=by
 subst hcn;exact fzE hpk t he hb hrd hc rfl rfl hml h1 h2
theorem fzEM (hpk:PK cx ks) (t:Nat) (f:α->PV) (u:List α) (hcn:u.length=n) (he:lk env t=some (.ref k 0 n)) (hb:lk blk k=some (.var l)) (hrd:(mkS env blk).rdL l=some (cs,bs)) (hc:cV 1 (.sl 1 (u.map f)) cs) (hml:n<=140737488355328)
  (h1:(ks.all (λj=>!Nat.beq j k)&&zMz (wX (lk blk) k) t env)=true) (h2:rI (wX (lk blk) k) k blk=true):Imp cx.pk (mkS env blk) (((mkS env blk).setb k (.buf (.sl 1 (u.map f)))).put t (.buf k u.length)):=by
 subst hcn;exact fzE hpk t he hb hrd hc (by simp [PV.len]) rfl hml h1 h2
theorem fzCB (hpk:PK cx ks) (k2 j0:Nat) (u:By) (hcn:u.length=n) (he:lk blk k2=some (.var l2)) (hj0:l2[j0]? = some (.ref k 0 n)) (hb:lk blk k=some (.var l)) (hrd:(mkS env blk).rdL l=some (cs,bs)) (hc:cV 1 (.bytes u) cs) (hml:n<=140737488355328)
  (h1:(ks.all (λj=>!Nat.beq j k)&&(!Nat.beq k2 k&&(jT (wX (lk blk) k) env&&qN (wX (lk blk) k) (l2.set j0 (.p .nilp)))))=true) (h2:rI (wX (lk blk) k) k (blk.filter λe=>!Nat.beq e.1 k2)=true):Imp cx.pk (mkS env blk) (((mkS env blk).setb k (.buf (.bytes u))).setb k2 (.var (l2.set j0 (.buf k u.length)))):=by
 subst hcn;exact fzC hpk k2 j0 he hj0 hb hrd hc rfl rfl hml h1 h2
theorem zWr (hpk:PK cx ks) (k2 j0:Nat) (f:α->PV) (u:List α) (hcn:u.length=n) (he:lk blk k2=some (.var l2)) (hj0:l2[j0]? = some (.ref k 0 n)) (hb:lk blk k=some (.var l)) (hrd:(mkS env blk).rdL l=some (cs,bs)) (hc:cV 1 (.sl 1 (u.map f)) cs) (hml:n<=140737488355328)
  (h1:(ks.all (λj=>!Nat.beq j k)&&(!Nat.beq k2 k&&(jT (wX (lk blk) k) env&&qN (wX (lk blk) k) (l2.set j0 (.p .nilp)))))=true) (h2:rI (wX (lk blk) k) k (blk.filter λe=>!Nat.beq e.1 k2)=true):Imp cx.pk (mkS env blk) (((mkS env blk).setb k (.buf (.sl 1 (u.map f)))).setb k2 (.var (l2.set j0 (.buf k u.length)))):=by
 subst hcn;exact fzC hpk k2 j0 he hj0 hb hrd hc (by simp [PV.len]) rfl hml h1 h2
theorem fxV (hpk:PK cx ks) (t:Nat) (c:PV) (he:lk env t=some (.ptr k 0)) (hb:lk blk k=some (.var l)) (hrd:(mkS env blk).rdL l=some (cs,bs)) (hc:c.cells=cs)
  (h1:(ks.all (λj=>!Nat.beq j k)&&zMz (wX (lk blk) k) t env)=true) (h2:rI (wX (lk blk) k) k blk=true):Imp cx.pk (mkS env blk) (((mkS env blk).unb k).put t (.p (.cptr c))):=by
 simp only [Q4] at h1;refine Imp.fixV he hb hrd hc (λe he' hk=>?_) (λu v hu h=>zMz.mem h1.2 hu (tR env u v h)) (λi li hi h=>rI.mem h2 hi (tR blk i _ h)) (λi w li h=>rI.memO h2 (tR blk i _ h));have:=(Q9.1 h1.1) e.1 (hpk e he');simp [hk] at this
end
section
theorem va_cat {a b:By} (h:Qh (a.length+b.length) 140737488355328=true) (ho:o.op=.binOp .add tx x y tyy) (hx:s.get te tx x=some (.p (.str a))) (hy:s.get te tyy y=some (.p (.str b))) :
  VA P o s (opS x (.p (.str a))++opS y (.p (.str b))) [] (.p (.str (a++b))):=by
 refine ⟨?_,yM (zM hx) (zM hy),by simp⟩;intro cx M κ tip s' ac w hi hr _;have h1:=gQ (repA_pv (yF hi (yN hx s' (yI hr))));have h2:=gQ (repA_pv (yF hi (yN hy s' (zZ hr))));refine ⟨.string ⟨(a++b).toArray⟩,?_,.p _ _ (.str _)⟩;have h3:=xE h;have h4:¬ ((9223372036854775807:Int)<((a.length:Int)+(b.length:Int))):=by omega
 simp [execOp,ho,h1,h2,eqGuard,binOp,Op.stringOp,zIu,h4];apply ByteArray.ext;simp [ByteArray.data_append]
theorem va_sliceC (hok:yX P te) {l:List PV} {w1:PV} (ho:o.op=.slice t x none none none) (ht:(te t).map (·.ty)=some (.arr n e)) (he:(te e).map (·.w)=some 1) (hx:s.get te t x=some (.p (.cptr (.agg l)))) (hn:l.length=n) (hn0:0<n) (hl:cV 1 w1 l) (hwl:w1.len=n):VA P o s (opS x (.p (.cptr (.agg l)))) [] (.p w1):=by
 refine ⟨?_,zM hx,by simp⟩;intro cx M κ tip s' a w hi hr _;have h1:=repA_pv (yF hi (yN hx s' hr));generalize hev:a.eval x=z at h1;cases h1 with
 | cptr _ b off g1 g2=>
 obtain ⟨c1,c2,c3,c4⟩:=hl.cells (M:=M) (f:=λj=>mget M b (off+j)) (λj q hq=>g2 j q hq);obtain ⟨ei,he1,he2⟩:=Option.map_eq_some_iff.1 he;have hu:=zIk hok ht;refine ⟨.slice (some ⟨b,off,none⟩) n n,?_,.p _ _ ?_⟩
 ·have hn':¬ n=0:=by omega
  simp [execOp,ho,hev,Instr.sliceAt,Instr.sureAddr,Instr.sliceBounds,run_underlying hu,tC hok he1,Addr.add]
 ·have:=uB (M:=M) (M':=M) (b:=b) (o:=off) (cap:=n) c1 c2 (Mem.le_refl M) (λj hj=>?_) (by omega)
  ·rwa [hwl] at this
  ·rw [c3,Nat.mul_one,hwl,<- hn] at hj;have:=g1 j l[j] (by simp [PV.cells,hj]);obtain ⟨u,hu'⟩:=Option.isSome_iff_exists.1 this;simp [mget,hu']
end
section
end
section
theorem sa_mkb {tl tc:TypeId} {n:Int} (hok:yX P te) (hd:o.dst=some d) (ho:o.op=.makeSlice t x y) (ht:(te t).map (·.ty)=some (.slice e)) (he:te e=some ei) (hz:ei.z.length=ei.w) (hw0:0<ei.w) (hx:s.get te tl x=some (.p (.int kl n))) (hy:s.get te tc y=some (.p (.int kc n)))
  (h0:0<=n) (hb:n.toNat*ei.b<=140737488355328) (hb1:0<ei.b) (hzs:∀ s:AS,s.rdL (sD ei.z n.toNat)=some (cs,[])) (hlit:cV ei.w c cs) (hcl:c.len=n.toNat) (hk:s.blk d=none):SA P o s ⟨opS x (.p (.int kl n))++opS y (.p (.int kc n)),[],[d],some (d,some (.buf d n.toNat)),[(d,.buf c)]⟩:=by
 refine ⟨?_,yM (zM hx) (zM hy),by intro e he;simp at he,by intro k hk';simp at hk';subst hk';exact hk⟩;intro cx s' a w K Q hm hs hws hk';obtain ⟨M,κ,tip,h0',hp,hi⟩:=hs;have hbk:=hm.2.2 d (by simp);have h1:=rep_int (repA_pv (yF hi (yN hx s' (yI hm.1))));have h2:=rep_int (repA_pv (yF hi (yN hy s' (zZ hm.1))));obtain ⟨info,z,i1,i2,i3,i4,i5⟩:=(hok e ei he).info;have hu:=xA hok ht;have hlen:n.toNat<=n.toNat*ei.b:=Nat.le_mul_of_pos_right _ hb1;have hbi:(info.bytes:Int)*n<=281474976710656:=by
  rw [i3];have:((n.toNat*ei.b:Nat):Int)<=140737488355328:=by omega
  rw [Int.natCast_mul,Int.toNat_of_nonneg h0,Int.mul_comm] at this;omega
 have hrun:=run_make (P:=P) w t e info z hu i1 i4 kl kc n n h0 (Int.le_refl _) hbi (by omega);unfold Oper.wp;have:(execOp a.eval o).run P w=.ok (.value (.slice (some ⟨w.heap.size,0,none⟩) n.toNat n.toNat)) (w.alloc (.cells (madeCells z.cells (n.toNat*ei.w)) e)):=by
  rw [i2] at hrun;simp [execOp,ho,h1,h2,hrun]
 rw [this];show K (a.put o.dst _) _;rw [hd];refine hk' _ _ ?_;rw [sN];have hcr:=zDs hok he hz i1 i4 (M:=M) (κ:=κ) (tip:=tip) (B:=s'.blk) n.toNat;obtain ⟨r1,r2⟩:=zAt (hzs s') hcr.2;obtain ⟨c1,c2,c3,c4⟩:=hlit.cells r2;have hle:M.le (addM M w.heap.size 0 (n.toNat*c.width) ((madeCells z.cells (n.toNat*ei.w))[·]?)):=addM_le λo _ _=>hi.mlt (Qo _);have hrep:Rep (addM M w.heap.size 0 (n.toNat*c.width) ((madeCells z.cells (n.toNat*ei.w))[·]?)) c (.slice (some ⟨w.heap.size,0,none⟩) n.toNat n.toNat):=by
  have:=uB (M:=M) (M':=addM M w.heap.size 0 (n.toNat*c.width) ((madeCells z.cells (n.toNat*ei.w))[·]?)) (b:=w.heap.size) (o:=0) (cap:=n.toNat) c1 c2 hle ?_ (by omega)
  ·rwa [hcl] at this
  intro j hj;rw [hcl] at hj;simp only [addM,Qm];rw [if_pos ⟨trivial,Qy _,hj⟩];rw [c3] at hj;have:j<(madeCells z.cells (n.toNat*ei.w)).size:=by rw [size_madeCells];exact hj
  simp [this]
 refine ⟨_,_,_,h0'.trans' hle,zAx hi hp hbk _,(hi.bufNew (jA w _ e) (.inl hbk) c2 (by omega) (by rw [size_madeCells,c3];exact Qo _) (by rw [size_madeCells,c3];exact Qo _) (by simp only [maxLen];omega) hrep).put (hws d (by simp [Mic.ws])) ?_⟩;refine .buf d _ c _ (zW _ _ _) c2 (by omega) ?_ (λ_=>(xF _ _ _).symm);rw [<- hcl,nQ c2,hcl];exact hrep
theorem zWl {s:AS} {z:PV}:∀ (n:Nat),(z.nilOf=true->True)->s.rdL (sD [z] n)=some (Qa n z,[])
 | 0,_=>by simp [sD,AS.rdL]
 | n+1,h=>by
  have ih:=zWl (s:=s) (z:=z) n h;simp only [sD,Qu,Qx,Qd,W4,Qt] at ih ⊢;simp only [AS.rdL];have:s.rd (zA z)=some (z,[]):=by unfold zA;cases z.nilOf<;>simp [AS.rd]
  rw [this,ih];rfl
theorem zXp {x:α} (h:z=f x) (hn:z.nilOf=false):∀ (n:Nat),sD [z] n=(Qa n x).map λy=>AV.p (f y)
 | 0=>rfl
 | n+1=>by
  have ih:=zXp h hn n;simp only [sD,Qu,Qx,Qd,W4,Qt] at ih ⊢;rw [ih];have hz:zA z=AV.p (f x):=by unfold zA;rw [hn,h];rfl
  rw [hz]
def mkN (b:Nat) (n:Int):Option Nat:=if 0<=n/\n.toNat*b<=140737488355328 then some n.toNat else none
theorem zIi {b:Nat} {n:Int} (h:mkN b n=some m):0<=n/\n.toNat*b<=140737488355328/\m=n.toNat:=by
 unfold mkN at h;split at h
 ·rename_i hc;cases h;exact ⟨hc.1,hc.2,rfl⟩
 ·cases h
def cpy (l m:List α):List α:=m.take l.length++l.drop m.length
theorem zU7 {l m:By}:rN (l.map λx=>AV.p (.int .u8 x.toNat)) 0 ((m.take l.length).map λu=>AV.p (.int .u8 u.toNat))=(cpy l m).map λx=>AV.p (.int .u8 x.toNat):=by
 rw [eT (by simp;omega)];unfold cpy;simp only [List.take_zero,List.nil_append,Qm,List.length_map,List.map_append,List.map_drop,List.length_take];congr 1;rcases Nat.le_total l.length m.length with h | h
 ·rw [Nat.min_eq_left h,Qs (by simp),Qs (by simp;omega)]
 ·rw [Nat.min_eq_right h]
end
section
variable [T:aY P] 
theorem RK.cat {a b:By} (h:Qh (a.length+b.length) 140737488355328=true) (hx0:(s.get T.te tx x,s.get T.te tyy y)=(some (.p (.str a)),some (.p (.str b)))) (k:VK P ops r s K d (opS x (.p (.str a))++opS y (.p (.str b))) ([]) (.p (.str (a++b)))):RK P ops (⟨some d,.binOp .add tx x y tyy,ty,pos,af,none⟩:: r) s K:=have ⟨hx,hy⟩:=pq hx0;Q0 rfl rfl (Go.Sw.va_cat h rfl hx hy) k
theorem RK.scB {l:By} (ht0:((T.te t).map (·.ty),(T.te e).map (·.w),s.get T.te t x)=(some (.arr n e),some 1,some (.p (.cptr (.agg (l.map λu=>PV.int .u8 u.toNat)))))) (hn:l.length=n) (hn0:Q7 0 n=true) (k:VK P ops r s K d (opS x (.p (.cptr (.agg (l.map λu=>PV.int .u8 u.toNat))))) ([]) (.p (.bytes l))):RK P ops (⟨some d,.slice t x none none none,ty,pos,af,none⟩:: r) s K:=have ⟨ht,ht0⟩:=pq ht0;have ⟨he,hx⟩:=pq ht0;Q0 rfl rfl (Go.Sw.va_sliceC T.ok rfl ht he hx (by simpa using hn) (by have:=Q3 hn0;omega) (zI3 l) hn) k
theorem RK.scM (f:α->PV) {l:List α} (hf:∀ a,(f a).cells=[f a]) (ht0:((T.te t).map (·.ty),(T.te e).map (·.w),s.get T.te t x,l.length,Q7 0 n)=(some (.arr n e),some 1,some (.p (.cptr (.agg (l.map f)))),n,true)) (k:VK P ops r s K d (opS x (.p (.cptr (.agg (l.map f))))) ([]) (.p (.sl 1 (l.map f)))):RK P ops (⟨some d,.slice t x none none none,ty,pos,af,none⟩:: r) s K:=have ⟨ht,ht0⟩:=pq ht0;have ⟨he,ht0⟩:=pq ht0;have ⟨hx,ht0⟩:=pq ht0;have ⟨hn,hn0⟩:=pq ht0;Q0 rfl rfl (Go.Sw.va_sliceC T.ok rfl ht he hx (by simpa using hn) (by have:=Q3 hn0;omega) (zK5 hf l) (by simpa [PV.len] using hn)) k
theorem RK.mr (f:α->PV) (u:α) {b:Nat} {n:Int} (h:mkN b n=some m) (ht0:((T.te t).map (·.ty),T.te e,ei.b,Q7 0 b,ei.z.length,s.get T.te 0 x,s.get T.te 0 y,s.blk d,ei.z,(f u).nilOf)=(some (.slice e),some ei,b,true,ei.w,some (.p (.int kl n)),some (.p (.int kc n)),none,[f u],false)) (k:BK P ops r s K d (opS x (.p (.int kl n))++opS y (.p (.int kc n))) [] [d] d (.var ((Qa m u).map λy=>AV.p (f y))) (.ref d 0 m)):RK P ops (⟨some d,.makeSlice t x y,ty,pos,af,none⟩:: r) s K:=have ⟨ht,ht0⟩:=pq ht0;have ⟨he,ht0⟩:=pq ht0;have ⟨hb,ht0⟩:=pq ht0;have ⟨hb1,ht0⟩:=pq ht0;have ⟨hz,ht0⟩:=pq ht0;have ⟨hx,ht0⟩:=pq ht0;have ⟨hy,ht0⟩:=pq ht0;have ⟨hk,ht0⟩:=pq ht0;have ⟨hzz,hnil⟩:=pq ht0;by
 obtain ⟨h0,h1,rfl⟩:=zIi h;subst hb;have hb2:=Q3 hb1;have:=Go.Sw.sa_mkr (P:=P) (o:=⟨some d,.makeSlice t x y,ty,pos,af,none⟩) T.ok rfl rfl ht he hz hx hy h0 h1 (by omega) hk;rw [hzz,zXp rfl hnil] at this;exact Qi rfl this k
theorem RK.mrK {b:Nat} (h:Qh (m*b) 140737488355328=true) (ht:(T.te t).map (·.ty)=some (.slice e)) (he:T.te e=some ei) (hb:ei.b=b) (hb1:Q7 0 b=true) (hz:ei.z.length=ei.w) (hx:s.get T.te 0 x=some (.p (.int kl (m:Nat)))) (hy:s.get T.te 0 y=some (.p (.int kc (m:Nat)))) (hk:s.blk d=none) (k:BK P ops r s K d (opS x (.p (.int kl (m:Nat)))++opS y (.p (.int kc (m:Nat)))) [] [d] d (.var (sD ei.z m)) (.ref d 0 m)):RK P ops (⟨some d,.makeSlice t x y,ty,pos,af,none⟩:: r) s K:=by
 subst hb;have hb2:=Q3 hb1;exact Qi rfl (Go.Sw.sa_mkr (P:=P) (o:=⟨some d,.makeSlice t x y,ty,pos,af,none⟩) T.ok rfl rfl ht he hz hx hy (by omega) (by simpa using xE h) (by omega) hk) k
theorem RK.mk0 {b:Nat} {n:Int} (h:mkN b n=some m) (ht0:((T.te t).map (·.ty),T.te e,ei.b,Q7 0 b,ei.z.length,s.get T.te 0 x,s.get T.te 0 y,s.blk d,ei.w,Q7 0 ei.w,c.nilOf)=(some (.slice e),some ei,b,true,ei.w,some (.p (.int kl 0)),some (.p (.int kc n)),none,c.width,true,true)) (k:BK P ops r s K d (opS x (.p (.int kl 0))++opS y (.p (.int kc n))) [] [d] d (.buf c) (.buf d 0)):RK P ops (⟨some d,.makeSlice t x y,ty,pos,af,none⟩:: r) s K:=have ⟨ht,ht0⟩:=pq ht0;have ⟨he,ht0⟩:=pq ht0;have ⟨hb,ht0⟩:=pq ht0;have ⟨hb1,ht0⟩:=pq ht0;have ⟨hz,ht0⟩:=pq ht0;have ⟨hx,ht0⟩:=pq ht0;have ⟨hy,ht0⟩:=pq ht0;have ⟨hk,ht0⟩:=pq ht0;have ⟨hw,ht0⟩:=pq ht0;have ⟨hw0,hc⟩:=pq ht0;by
 obtain ⟨h0,h1,rfl⟩:=zIi h;subst hb;have hb2:=Q3 hb1;have hw2:=Q3 hw0;exact Qi rfl (Go.Sw.sa_mk0 (P:=P) (o:=⟨some d,.makeSlice t x y,ty,pos,af,none⟩) T.ok rfl rfl ht he hz (by omega) hx hy h0 h1 (by omega) hc hw.symm hk) k
theorem RK.mbB {b:Nat} {n:Int} (h:mkN b n=some m) (ht0:((T.te t).map (·.ty),T.te e,ei.b,Q7 0 b,ei.z.length,s.get T.te 0 x,s.get T.te 0 y,s.blk d,ei.z,ei.w)=(some (.slice e),some ei,b,true,ei.w,some (.p (.int kl n)),some (.p (.int kc n)),none,[.int .u8 0],1)) (k:BK P ops r s K d (opS x (.p (.int kl n))++opS y (.p (.int kc n))) [] [d] d (.buf (.bytes (Qa m 0))) (.buf d (Qa m (0:UInt8)).length)):RK P ops (⟨some d,.makeSlice t x y,ty,pos,af,none⟩:: r) s K:=have ⟨ht,ht0⟩:=pq ht0;have ⟨he,ht0⟩:=pq ht0;have ⟨hb,ht0⟩:=pq ht0;have ⟨hb1,ht0⟩:=pq ht0;have ⟨hz,ht0⟩:=pq ht0;have ⟨hx,ht0⟩:=pq ht0;have ⟨hy,ht0⟩:=pq ht0;have ⟨hk,ht0⟩:=pq ht0;have ⟨hzz,hw⟩:=pq ht0;by
 obtain ⟨h0,h1,rfl⟩:=zIi h;subst hb;have hb2:=Q3 hb1;rw [List.length_replicate] at k;have hl:cV 1 (.bytes (Qa n.toNat (0:UInt8))) (Qa n.toNat (.int .u8 0)):=by
  have:=zI3 (Qa n.toNat (0:UInt8));rw [List.map_replicate] at this;exact this
 exact Qi rfl (Go.Sw.sa_mkb (P:=P) (o:=⟨some d,.makeSlice t x y,ty,pos,af,none⟩) T.ok rfl rfl ht he hz (by omega) hx hy h0 h1 (by omega) (λs=>by rw [hzz];exact zWl _ (λ_=>trivial)) (by rw [hw];exact hl) (by simp [PV.len]) hk) k
theorem RK.cpB {l m:By} (hn:l.length=n) (ht0:((T.te t).map (·.ty),T.te e,ei.w,s.get T.te t x,s.blk k0,s.get T.te t2 y,s.rd vy)=(some (.slice e),some ei,1,some (.ref k0 0 n),some (.var (l.map λx=>AV.p (.int .u8 x.toNat))),some vy,some (.bytes m,bs)))
  (k:BK P ops r s K d (opS x (.ref k0 0 n)++opS y vy) ((k0,.var (l.map λx=>AV.p (.int .u8 x.toNat))) :: bs) [] k0 (.var ((cpy l m).map λx=>AV.p (.int .u8 x.toNat))) (.p (.int .i64 (min m.length n:Nat)))):RK P ops (⟨some d,.call ⟨.builtin .copy,#[x,y],#[t,t2]⟩,ty,pos,af,none⟩:: r) s K:=have ⟨ht,ht0⟩:=pq ht0;have ⟨he,ht0⟩:=pq ht0;have ⟨hw,ht0⟩:=pq ht0;have ⟨hx,ht0⟩:=pq ht0;have ⟨hk,ht0⟩:=pq ht0;have ⟨hy,hp⟩:=pq ht0;by
 subst hn;have:=Go.Sw.sa_copy (P:=P) (o:=⟨some d,.call ⟨.builtin .copy,#[x,y],#[t,t2]⟩,ty,pos,af,none⟩) T.ok rfl rfl ht he hw hx hk (by simp) hy hp;rw [zU7] at this;exact Qi rfl this k
theorem RK.mf {f:FuncId} {tl2:List TypeId} {rs2:LV} {bb bb2:LB} (hxl0:(xs.toList,ys.toList)=(xl,yl)) (ha:mP s T.te xl tl ps rs bb) (hb:mP s T.te yl tl2 qs rs2 bb2) (k:VK P ops r s K d (rs++rs2) (bb++bb2) (.p (.fn f ps qs))):RK P ops (⟨some d,.makeFunc (.func f) xs ys,ty,pos,af,none⟩:: r) s K:=have ⟨hxl,hyl⟩:=pq hxl0;Q0 rfl rfl (Go.Sw.va_mkf rfl hxl hyl ha hb) k
theorem RK.mfA {f:FuncId} (hx0:(s.get T.te 0 x,Q7 f 1000000)=(some v,true)) (k:VK P ops r s K d (opS x v) ([]) (.fnv f [v])):RK P ops (⟨some d,.makeFunc (.func f) #[x] #[],ty,pos,af,none⟩:: r) s K:=have ⟨hx,hlt⟩:=pq hx0;Q0 rfl rfl (Go.Sw.va_mkfA rfl hx hlt) k
theorem RK.cf {f:FuncId} {tx:TypeId} {fs:List PV} {bb:LB} (h:Ok P f na (mkS (argE 0 (fs++(ps++cs))) []) (mkS [(0,av)] blks)) (hx0:(s.get T.te 0 x,xs.toList,ts.toList)=(some (.p (.fn f fs cs)),xl,tl)) (ha:mP s T.te xl tl ps rs bb) (hn0:(Q8 na (fs++(ps++cs)).length,(kR (sh d) blks).all (λk=>(s.blk k).isNone))=(true,true))
  (k:RK P ops r (Mic.upd ⟨opS x (.p (.fn f fs cs))++rs,bb,kR (sh d) blks,some (d,some (av.ren (sh d))),bR (sh d) blks⟩ s) λs' ms=>K s' (⟨opS x (.p (.fn f fs cs))++rs,bb,kR (sh d) blks,some (d,some (av.ren (sh d))),bR (sh d) blks⟩:: ms)):RK P ops (⟨some d,.call ⟨.value x,xs,ts⟩,ty,pos,af,none⟩:: r) s K:=have ⟨hx,hx0⟩:=pq hx0;have ⟨hxl,htl⟩:=pq hx0;have ⟨hn,hf⟩:=pq hn0;
 by
 rw [kD,zDp] at k;rw [kD] at hf;exact W2 rfl (Go.Sw.sa_callf rfl rfl hx h hxl htl ha (Q1 hn) (λk hk=>by simpa using (Q9.1 hf) k hk)) k
theorem RK.cpf {f:FuncId} {tx:TypeId} {bb:LB} (h:Ok P f na (mkS ((0,.ptr 0 0) :: argE 1 ps) [(0,.var (cs.map .p))]) (mkS [(0,av)] ((0,.var l') :: blks))) (hx0:(s.get T.te 0 x,xs.toList,ts.toList,s.blk k0,s.rdL l)=(some (.fnv f [.ptr k0 0]),xl,tl,some (.var l),some (cs,bs0))) (ha:mP s T.te xl tl ps rs bb) (hn0:(Q8 na (ps.length+1),(kR (sh d) blks).all (λk=>(s.blk k).isNone),blks.all (λe=>!Nat.beq e.1 0),Q7 f 1000000)=(true,true,true,true))
  (k:RK P ops r (Mic.upd ⟨opS x (.fnv f [.ptr k0 0])++rs,(k0,.var l) :: (bs0++bb),kR (sh d) blks,some (d,some (av.ren (shp d k0))),bR (shp d k0) ((0,.var l') :: blks)⟩ s) λs' ms=>K s' (⟨opS x (.fnv f [.ptr k0 0])++rs,(k0,.var l) :: (bs0++bb),kR (sh d) blks,some (d,some (av.ren (shp d k0))),bR (shp d k0) ((0,.var l') :: blks)⟩:: ms)):RK P ops (⟨some d,.call ⟨.value x,xs,ts⟩,ty,pos,af,none⟩:: r) s K:=have ⟨hx,hx0⟩:=pq hx0;have ⟨hxl,hx0⟩:=pq hx0;have ⟨htl,hx0⟩:=pq hx0;have ⟨hbk,hcs⟩:=pq hx0;have ⟨hn,hn0⟩:=pq hn0;have ⟨hf,hn0⟩:=pq hn0;have ⟨hne,hlt⟩:=pq hn0;
 by
 rw [kD,zDp] at k;rw [kD] at hf;exact W2 rfl (Go.Sw.sa_callpf rfl rfl hx h hxl htl hbk hcs ha (Q1 hn) (λk hk=>by simpa using (Q9.1 hf) k hk) (λe he h0=>by have:=(Q9.1 hne) e he;simp [h0] at this) hlt) k
end
abbrev qI (n:Int):AV:=.p (.int .i64 n)
abbrev qU (x:UInt8):AV:=.p (.int .u8 x.toNat)
abbrev qB (b:Bool):AV:=.p (.bool b)
abbrev qY (l:By):AV:=.p (.bytes l)
abbrev qZ (l:By):AV:=.p (.str l)
abbrev qL (w:Nat) (f:α->PV) (l:List α):AV:=.p (.sl w (l.map f))
abbrev qA (f:α->PV) (l:List α):ABlk:=.var (l.map λx=>AV.p (f x))
section
theorem sq {x y:Code} (h:awp P cx x (zNo (awp P cx y Q) Q) s):awp P cx (.seq x y) Q s:=zTt h
theorem im {c:Code} (hl:Imp cx.pk s s') (h:awp P cx c Q s'):awp P cx c Q s:=zT3 hl h
end
def lA2:List α->Option (A2 α) | [x,y]=>some ⟨x,y⟩ | _=>none
def lA8:List α->Option (A8 α) | [a,b,c,d,e,f,g,h]=>some ⟨a,b,c,d,e,f,g,h⟩ | _=>none
theorem zW7 {l:List α} {r:A2 α} (h:lA2 l=some r):l=[r.a0,r.a1]:=by unfold lA2 at h;split at h<;>cases h;rfl
theorem zXf {l:List α} {r:A8 α} (h:lA8 l=some r):l=[r.a0,r.a1,r.a2,r.a3,r.a4,r.a5,r.a6,r.a7]:=by unfold lA8 at h;split at h<;>cases h;rfl
theorem nz (h:(!(b==0))=true):(b==0)=false:=by simpa using h
theorem cE {l:List α} (h:Q8 l.length n=true):l.length=n:=Q1 h
theorem zV0 {ρ:Nat->Nat} {α:Type} {f:α->PV}:∀ {l:List α},lX ρ (l.map λx=>AV.p (f x))=l.map λx=>AV.p (f x)
 | []=>rfl
 | x :: r=>by simp only [Qd,lX,AV.ren];rw [zV0 (l:=r)]
theorem tI {s'':AS} (h:Imp pk s s') (k:Imp pk s' s''):Imp pk s s'':=Imp.trans h k
section
def OR (cx:Ctx) (E:AS) (e:Exit) (s:AS):Prop:=(e=.ret∨e=.normal)/\Imp cx.pk s E
theorem zRi {f:FuncId} {body:Code} {as rs:AS} (E:AS) (hf:P.funcs[f]? = some fn) (hb:fn.body=some body) (hnm:(fn.name == "runtime.NumGoroutine")=false) (hnt:na<=fn.ntmps) (hks:∀ k,k<BIG->(as.blk k).isSome=true->k∈ks)
  (hr:∀ cx:Ctx,PK cx ks->tB P fn cx E rs) (h:∀ cx:Ctx,cx.nt=fn.ntmps->PK cx ks->awp P cx body (OR cx E) as):Ok P f na as rs:=
 zO5 hf hb hnm hnt hks λcx h1 h2 a w hs=>wp_mono (h cx h1 h2 a w hs) λe a' w' ⟨s',g1,g2,g3⟩ =>⟨E,g3 cx a' w' rfl g1,g2,hr cx h2⟩
end
section
variable {bx:LB} {k:IntKind}
end
section
variable [T:aY P] {k0:IntKind} {bx:LB} 
end
section
theorem zU4 (hok:yX P te) (hd:o.dst=none) (ho:o.op=.store t ax x) (ht:te t=some i) (ha:s.get te ta ax=some (.ptr k off)) (hx:s.get te t x=some v) (hp0:s.rd v=some (p,bs)) (hb:s.blk k=some (.var l))
  (hw:(AV.p p).cells.length=i.w) (hl:off+i.w<=l.length) (hone:(AV.p p).cells.all AV.one=true):SA P o s ⟨opS ax (.ptr k off)++opS x v,(k,.var l) :: bs,[],none,[(k,.var (rN l off (AV.p p).cells))]⟩:=by
 refine ⟨?_,yM (zM ha) (zM hx),λe he=>(Q6.1 he).elim (λh=>by subst h;exact hb) (uM v p bs hp0 e),by intro e he;simp at he⟩;intro cx s' a w K Q hm hs hws hk;obtain ⟨M,κ,tip,h0,hp,hi⟩:=hs;have hbk:=hm.2.1 (k,.var l) (by simp);have hx':RepA M κ tip s'.blk (.p p) (a.eval x):=.p _ _ (kE hi hx hp0 (zZ hm.1) (λe he=>hm.2.1 e (by simp [he])));have ha':=yF hi (yN ha s' (yI hm.1));obtain ⟨hc1,hc2⟩:=aN hx';obtain ⟨b,arr,e,fz,h1,h2,h3,h4,h5,h6,h7⟩:=hi.vars k l hbk;generalize hev:a.eval ax=z at ha';cases ha' with
 | ptr k o b' l' hk' hl'=>
  rw [h1] at hk';cases hk';have hsz:(a.eval x).cells.toList.length=(AV.p p).cells.length:=by simp [hc1]
  have hrun:=run_storeCells_cells (P:=P) b off (a.eval x).cells.toList 0 w
   (by
     intro j hj;rw [hsz] at hj;have:off+j<arr.size:=by omega
     simp [World.cell?,h2,this])
   (by intro j hj;rw [hsz] at hj;simp only [Qw];exact oC h2 h3 (by omega))
   (by
    intro u hu;obtain ⟨j,hj,hju⟩:=List.getElem_of_mem hu;have hjl:j<(AV.p p).cells.length:=by omega
    have hq:=hc2 j (AV.p p).cells[j] (by simp);have hjs:j<(a.eval x).cells.size:=by omega
    have:(a.eval x).cells.getD j undef=u:=by simp [hjs];simpa using hju
    rw [this] at hq;exact zHh hq ((Q9.1 hone) _ (List.getElem_mem _)))
  unfold Oper.wp;have:(execOp a.eval o).run P w=.ok .skip (w.setCells b off (a.eval x).cells.toList):=by
   simp only [Qw] at hrun;have hcs:¬ ((a.eval x).cells.size≠i.w):=by rw [hc1,hw];simp
   simp [execOp,ho,hev,Instr.storeAt,Instr.sureAddr,storeVar,tC hok ht,hcs,hrun]
  rw [this];show K (a.put o.dst undef) _;rw [hd];refine hk _ _ ?_;rw [zD0];refine ⟨M,κ,tip,h0,hp,hi.setVar hbk h1 (by omega) hsz ?_⟩;intro j q hq;have:=hc2 j q hq;rw [Q2] at this;simpa using this
end
section
variable [T:aY P] 
theorem RK.stP {l l':List α} (h:qG l j u=some l') (ht0:(T.te t,s.get T.te 0 ax)=(some i,some (.ptr k0 off))) (hj:off=j) (hx:s.get T.te t x=some v) (hp:s.rd v=some (f u,bs)) (hb0:(s.blk k0,i.w,(AV.p (f u)).cells,(AV.p (f u)).one)=(some (.var (l.map λx=>AV.p (f x))),1,[AV.p (f u)],true)) (k:RK P ops r (s.setb k0 (.var (l'.map λx=>AV.p (f x)))) λs' ms=>K s' (⟨opS ax (.ptr k0 off)++opS x v,(k0,.var (l.map λx=>AV.p (f x))) :: bs,[],none,[(k0,.var (l'.map λx=>AV.p (f x)))]⟩:: ms)):RK P ops (⟨none,.store t ax x,ty,pos,af,none⟩:: r) s K:=have ⟨ht,ha⟩:=pq ht0;have ⟨hb,hb0⟩:=pq hb0;have ⟨hw,hb0⟩:=pq hb0;have ⟨hf,hone⟩:=pq hb0;by
 refine W1 rfl ?_ k;subst hj;obtain ⟨h1,h2⟩:=zAd h;have:=zU4 (P:=P) (o:=⟨none,.store t ax x,ty,pos,af,none⟩) T.ok rfl rfl ht ha hx hp hb (by simp [hf,hw]) (by rw [hw];simpa using Qr h1) (by simp [hf,hone]);rw [hf,zDt (by simpa using h1)] at this;have e:(l.map λx=>AV.p (f x)).set off (AV.p (f u))=l'.map λx=>AV.p (f x):=by rw [h2,W3]
 rw [e] at this;exact this
theorem RK.iaE {i:Int} (j:Nat) (h:(i==(j:Int))=true) (ht0:((T.te t).map (·.ty),T.te e,s.get T.te t x,s.get T.te 0 y,Q7 j n)=(some (.arr n e),some ei,some (.ptr k0 off),some (.p (.int .i64 i)),true))
  (k:VK P ops r s K d (opS x (.ptr k0 off)++opS y (.p (.int .i64 i))) [] (.ptr k0 (off+j*ei.w))):RK P ops (⟨some d,.indexAddr t x y,ty,pos,af,none⟩:: r) s K:=have ⟨ht,ht0⟩:=pq ht0;have ⟨he,ht0⟩:=pq ht0;have ⟨hx,ht0⟩:=pq ht0;have ⟨hy,h1⟩:=pq ht0;by
 have e:i=(j:Int):=by simpa using h
 subst e;exact Q0 rfl rfl (Go.Sw.iaK T.ok rfl ht he hx hy h1) k
end
theorem zO8 {P:Program} {w:World} {b:Nat}:∀ (l:By) (o:Nat) (r:ByteArray),(∀ (i:Nat) (x:UInt8),l[i]? = some x->w.cell? ⟨b,o+i,none⟩=some (.int .u8 x.toNat)) ->
  (Qk ⟨b,o,none⟩ l.length r).run P w=.ok ⟨r.data++l.toArray⟩ w
 | [],o,r,_=>by simp [Qk]
 | u :: l,o,r,h=>by
  have h0:=h 0 u rfl;simp only [Qw] at h0;have h1:=zO8 (P:=P) (w:=w) (b:=b) l (o+1) (r.push u) (λi x hx=>by have:=h (i+1) x (by simpa using hx);rw [show o+1+i=o+(i+1) by omega];exact this);simp only [List.length_cons,Qk];rw [Sem.run_bind,run_load,h0];simp only [Qj];have e:(u.toNat:Int).toNat.toUInt8=u:=by simp
  rw [e];have e2:(⟨b,o,none⟩:Addr).add 1=⟨b,o+1,none⟩:=by simp [Addr.add]
  rw [e2,h1];congr 1;apply ByteArray.ext;simp [ByteArray.push]
theorem zRj {l:By} {x:Value} (h:Rep M (.bytes l) x) (hm:∀ b o x,M b o=some x->w.cell? ⟨b,o,none⟩=some x) :
  (Q5 x).run P w=.ok ⟨l.toArray⟩ w:=by
 cases h with
 | bytes0=>rfl
 | bytesE a=>rfl
 | bytes l b o n c h1 h2 h3=>
  subst h1;have:=zO8 (P:=P) (w:=w) (b:=b) l o .empty (λi x hx=>hm _ _ _ (h3 i x hx));simp only [Q5];rw [this];have he:ByteArray.empty.data=#[]:=rfl;simp [he]
def PV.byl:PV->Option By
 | .str l=>some l
 | .bytes l=>some l
 | _=>none
theorem zAk {l:By} {x:Value} (hp:p.byl=some l) (h:Rep M p x) (hm:∀ b o x,M b o=some x->w.cell? ⟨b,o,none⟩=some x) :
  (Q5 x).run P w=.ok ⟨l.toArray⟩ w:=by
 unfold PV.byl at hp;split at hp
 ·cases hp;rw [gQ h];rfl
 ·cases hp;exact zRj h hm
 ·cases hp
theorem zUz {x y:Value} {a b:ByteArray} (hx:(Q5 x).run P w=.ok a w) (hy:(Q5 y).run P w=.ok b w) :
  (Qf #[x,y]).run P w=.ok (.int .i64 (Lib.compareBytes a.data.toList b.data.toList)) w:=by
 change Sem.run P (do pure (goInt (Extern.BytealgCompare.cmp (<- Q5 x) (<- Q5 y)))) w=_;simp only [Sem.run_bind,hx,hy,Sem.run_pure,Qj];rw [Lib.cmp_eq];rfl
theorem zWb {x:Value} {a:ByteArray} {c:Int} (hx:(Q5 x).run P w=.ok a w) :
  (Qe #[x,.int .u8 c]).run P w=.ok (.int .i64 (Lib.indexByte a.data.toList c.toNat.toUInt8)) w:=by
 change Sem.run P (do
  let b <- Q5 x;let c' <- Qv (.int .u8 c)
  match (List.range b.size).find? λi=>b[i]! == c' with
  | some i=>pure (goInt i)
  | none=>pure (goInt (-1))) w=_
 rw [<- Lib.firstIdx_eq];simp only [Qv,firstIdx,Sem.run_bind,hx,Sem.run_pure,Qj];cases List.find? (λi=>a[i]! == c.toNat.toUInt8) (List.range a.size)<;>simp [goInt]
section
variable {t':TypeId} {v':AV} {p':PV} {bs':LB} {l l':By} {f:FuncId} 
theorem zYf (hf:P.funcs[f]? = some fn) (hname:(fn.name == "runtime.NumGoroutine")=false) (hb:fn.body.isNone=true) (hn:Extern.findNext fn=none) (he:Extern.find fn=some Qf)
  (ho:o.op=.call { callee:=.value (.func f),args:=#[x,y],argTypes:=#[t,t'] })
  (hx:s.get te t x=some v) (hp:s.rd v=some (p,bs)) (hl:p.byl=some l) (hy:s.get te t' y=some v') (hq:s.rd v'=some (p',bs')) (hl':p'.byl=some l') :
  VA P o s (opS x v++opS y v') (bs++bs') (.p (.int .i64 (Lib.compareBytes l l'))):=by
 refine ⟨?_,yM (zM hx) (zM hy),λe h=>(Qc.1 h).elim (uM v _ bs hp e) (uM v' _ bs' hq e)⟩;intro cx M κ tip s' a w hin hr hbk;have h1:=zAk (P:=P) hl (kE hin hx hp (yI hr) (λe h=>hbk e (Qc.2 (.inl h)))) hin.mem;have h2:=zAk (P:=P) hl' (kE hin hy hq (zZ hr) (λe h=>hbk e (Qc.2 (.inr h)))) hin.mem;refine ⟨_,?_,.p _ _ (.int _ _)⟩;have h3:=run_callFunc_extern hf hname hb hn he #[a.eval x,a.eval y] w;rw [zUz h1 h2] at h3;simpa [execOp,ho,resolve,Act.eval,Ql,invoke,Qj] using h3
theorem zZ7 {c:Int} (hf:P.funcs[f]? = some fn) (hname:(fn.name == "runtime.NumGoroutine")=false) (hb:fn.body.isNone=true) (hn:Extern.findNext fn=none) (he:Extern.find fn=some Qe)
  (ho:o.op=.call { callee:=.value (.func f),args:=#[x,y],argTypes:=#[t,t'] })
  (hx:s.get te t x=some v) (hp:s.rd v=some (p,bs)) (hl:p.byl=some l) (hy:s.get te t' y=some (.p (.int .u8 c))) :
  VA P o s (opS x v++opS y (.p (.int .u8 c))) bs (.p (.int .i64 (Lib.indexByte l c.toNat.toUInt8))):=by
 refine ⟨?_,yM (zM hx) (zM hy),uM v _ bs hp⟩;intro cx M κ tip s' a w hin hr hbk;have h1:=zAk (P:=P) hl (kE hin hx hp (yI hr) hbk) hin.mem;have h2:=rep_int (repA_pv (yF hin (yN hy s' (zZ hr))));refine ⟨_,?_,.p _ _ (.int _ _)⟩;have h3:=run_callFunc_extern hf hname hb hn he #[a.eval x,a.eval y] w;rw [h2,zWb h1] at h3;rw [<- h2] at h3;simpa [execOp,ho,resolve,Act.eval,Ql,invoke,Qj] using h3
def Ext (P:Program) (f:FuncId) (e:Array Value->Sem Value):Prop:=∃ fn,P.funcs[f]? = some fn/\(fn.name == "runtime.NumGoroutine")=false/\fn.body.isNone=true/\Extern.findNext fn=none/\Extern.find fn=some e
variable [T:aY P]
theorem RK.cpx (h:Ext P f Qf) (hx0:(s.get T.te t x,s.rd v,p.byl,s.get T.te t' y,s.rd v',p'.byl)=(some v,some (p,bs),some l,some v',some (p',bs'),some l'))
  (k:VK P ops r s K d (opS x v++opS y v') (bs++bs') (.p (.int .i64 (Lib.compareBytes l l')))):RK P ops (⟨some d,.call { callee:=.value (.func f),args:=#[x,y],argTypes:=#[t,t'] },ty,pos,af,none⟩:: r) s K:=have ⟨hx,hx0⟩:=pq hx0;have ⟨hp,hx0⟩:=pq hx0;have ⟨hl,hx0⟩:=pq hx0;have ⟨hy,hx0⟩:=pq hx0;have ⟨hq,hl'⟩:=pq hx0;by
 obtain ⟨fn,h1,h2,h3,h4,h5⟩:=h;exact Q0 rfl rfl (zYf h1 h2 h3 h4 h5 rfl hx hp hl hy hq hl') k
theorem RK.ibx {c:UInt8} (h:Ext P f Qe) (hx0:(s.get T.te t x,s.rd v,p.byl,s.get T.te t' y)=(some v,some (p,bs),some l,some (.p (.int .u8 c.toNat))))
  (k:VK P ops r s K d (opS x v++opS y (.p (.int .u8 c.toNat))) bs (.p (.int .i64 (Lib.indexByte l c)))):RK P ops (⟨some d,.call { callee:=.value (.func f),args:=#[x,y],argTypes:=#[t,t'] },ty,pos,af,none⟩:: r) s K:=have ⟨hx,hx0⟩:=pq hx0;have ⟨hp,hx0⟩:=pq hx0;have ⟨hl,hy⟩:=pq hx0;by
 obtain ⟨fn,h1,h2,h3,h4,h5⟩:=h;have:=zZ7 (o:=⟨some d,.call { callee:=.value (.func f),args:=#[x,y],argTypes:=#[t,t'] },ty,pos,af,none⟩) h1 h2 h3 h4 h5 rfl hx hp hl hy;rw [show ((c.toNat:Int).toNat.toUInt8)=c by simp] at this;exact Q0 rfl rfl this k
end
section
variable {a:Act} {w':World}
theorem zS2 (hi:Inv cx M κ tip s a w) (hp:∀ k∈cx.pk,κ k.1=some k.2/\k.2<cx.w0.heap.size) (hb:s.blk k=some (.own wd l)) (b:Option Nat):∀ k'∈cx.pk,fA κ k b k'.1=some k'.2/\k'.2<cx.w0.heap.size:=by
 intro k' hk';have h1:=hp k' hk';rw [yH]
 ·exact h1
 ·intro e;have h4:=hi.owns _ wd l hb;rw [<- e] at h4;rcases h4 with ⟨_,h5,_⟩ | ⟨_,⟨_,h5,_⟩ | ⟨b',n,cap,arr,e,fz,_,h5,h6,h7,_⟩⟩
  ·rw [h1.1] at h5;cases h5
  ·rw [h1.1] at h5;cases h5
  ·rw [h1.1] at h5;cases h5;have:=cx.pk.nk k' hk';rcases h6 with h6 | ⟨_,h6⟩<;>omega
theorem Inv.ownNew (hi:Inv cx M κ tip s a w) {arr:Array Value} (hw:zOd w w' arr e fz)
  (hk:s.blk k=none∨∃ l0,s.blk k=some (.own wd l0)/\l0.length<l.length) (hwd:0<wd) (hn:n*wd=l.length) (hcap:cap*wd<=arr.size) (hnc:n<=cap) (hml:cap<=maxLen)
  (hcs:∀ (j:Nat) (q:AV),l[j]? = some q->RepA M κ tip s.blk q (arr.getD j undef)) :
  Inv cx M (fA κ k (some w.heap.size)) (lH tip k (.slice (some ⟨w.heap.size,0,none⟩) n cap)) (s.setb k (.own wd l)) a w':=by
 have gle:GLe κ (fA κ k (some w.heap.size)) tip (lH tip k (.slice (some ⟨w.heap.size,0,none⟩) n cap)) s.blk (s.setb k (.own wd l)).blk:={
  var:=λi b l h h'=>by
   have e:i≠k:=by
    rintro rfl;rcases hk with hk | ⟨l0,hk,_⟩<;>(rw [hk] at h';cases h')
   rw [yH e,zQ e];exact ⟨h,l,h'⟩
  buf:=λi c1 h=>by
   have e:i≠k:=by
    rintro rfl;rcases hk with hk | ⟨l0,hk,_⟩<;>(rw [hk] at h;cases h)
   exact GLe.same (by rw [zQ e];exact h) (xI e)
  own:=λi w1 l1 h=>by
   by_cases e:i=k
   ·subst e;rcases hk with hk | ⟨l0,hk,hlt⟩
    ·rw [hk] at h;cases h
    ·rw [hk] at h;cases h;exact ⟨wd,l,zW _ _ _,.inl ⟨rfl,by omega,λe=>by omega⟩⟩
   ·exact GLe.sameO (by rw [zQ e];exact h) (yH e) (xI e) }
 have hmap:∀ {v:AV} {x:Value},RepA M κ tip s.blk v x->RepA M (fA κ k (some w.heap.size)) (lH tip k (.slice (some ⟨w.heap.size,0,none⟩) n cap)) (s.setb k (.own wd l)).blk v x:=λh=>h.ghost gle;exact {
  defers:=hi.defers
  size:=hi.size
  fr:=⟨hw.os.trans hi.fr.os,hw.tape.trans hi.fr.tape,hw.output.trans hi.fr.output,by have:=hi.fr.size;rw [hw.size];omega,λb h1 h2 h3=>by
   rw [hw.old b (by have:=hi.fr.size;omega)];exact hi.fr.block b h1 h2 h3⟩
  mem:=λb o x h=>by
   have:=hi.mem b o x h;have hlt:=World.block_lt_of_cell? w _ this;rw [World.cell?_of_block (hw.old b hlt)];exact this
  env:=λt v h=>let ⟨x,h1,h2⟩:=hi.env t v h;⟨x,h1,hmap h2⟩
  vars:=λi l h=>by
   have e':i≠k:=by rintro rfl;rw [zW] at h;cases h
   rw [zQ e'] at h;obtain ⟨b,arr',e1,fz',h1,h2,h3,h4,h5,h6,h7⟩:=hi.vars i l h;have hlt:=hi.lt h1;exact ⟨b,arr',e1,fz',by rw [yH e'];exact h1,by rw [hw.old b hlt];exact h2,h3,h4,λj q hq=>hmap (h5 j q hq),h6,h7⟩
  bufs:=λi c1 h=>by
   have e':i≠k:=by rintro rfl;rw [zW] at h;cases h
   rw [zQ e'] at h;obtain ⟨h1,h2,h3,h4⟩:=hi.bufs i c1 h;rw [xI e',yH e'];refine ⟨h1,h2,h3,?_⟩;rcases h4 with h4 | ⟨b,n1,cap1,arr1,e1,fz1,q1,q2,q3,q4,q5,q6,q7,q8⟩
   ·exact .inl h4
   ·have hlt:=hi.lt q2;exact .inr ⟨b,n1,cap1,arr1,e1,fz1,q1,q2,q3,by rw [hw.old b hlt];exact q4,q5,q6,q7,q8⟩
  inj:=λi j b h1 h2=>by
   by_cases e1:i=k
   ·subst e1;rw [vH] at h1;cases h1;by_cases e2:j=i
    ·exact e2.symm
    ·rw [yH e2] at h2;have:=hi.lt h2;omega
   ·rw [yH e1] at h1;by_cases e2:j=k
    ·subst e2;rw [vH] at h2;cases h2;have:=hi.lt h1;omega
    ·rw [yH e2] at h2;exact hi.inj i j b h1 h2
  dom:=λi h=>by
   by_cases e':i=k
   ·subst e';rw [zW] at h;cases h
   ·rw [zQ e'] at h;rw [yH e'];exact hi.dom i h
  glob:=hi.glob
  old:=hi.old
  owns:=λi w1 l1 h=>by
   by_cases e':i=k
   ·subst e';rw [zW] at h;cases h;rw [xF,vH];exact .inr ⟨hwd,.inr ⟨w.heap.size,n,cap,arr,e,fz,rfl,rfl,.inl hi.fr.size,hw.new,hw.free,hn,hcap,hnc,hml,λj q hq=>hmap (hcs j q hq),λo=>hi.mlt (Qo _)⟩⟩
   ·rw [zQ e'] at h;rw [xI e',yH e'];rcases hi.owns i w1 l1 h with g0 | ⟨g1,g2⟩
    ·exact .inl g0
    refine .inr ⟨g1,?_⟩;rcases g2 with g2 | ⟨b,n1,cap1,arr1,e1,fz1,q1,q2,q3,q4,q5,q6,q7,q8,q9,q10,q11⟩
    ·exact .inl g2
    ·have hlt:=hi.lt q2;exact .inr ⟨b,n1,cap1,arr1,e1,fz1,q1,q2,q3,by rw [hw.old b hlt];exact q4,q5,q6,q7,q8,q9,λj q hq=>hmap (q10 j q hq),q11⟩}
theorem Inv.ownNil (hi:Inv cx M κ tip s a w) (hk:s.blk k=none) (hwd:0<wd) :
  Inv cx M κ (lH tip k (.slice none 0 0)) (s.setb k (.own wd [])) a w:=by
 have gle:GLe κ κ tip (lH tip k (.slice none 0 0)) s.blk (s.setb k (.own wd [])).blk:={
  var:=λi b l h h'=>by
   have e:i≠k:=by rintro rfl;rw [hk] at h';cases h'
   rw [zQ e];exact ⟨h,l,h'⟩
  buf:=λi c1 h=>by
   have e:i≠k:=by rintro rfl;rw [hk] at h;cases h
   exact GLe.same (by rw [zQ e];exact h) (xI e)
  own:=λi c1 l1 h=>by
   have e:i≠k:=by rintro rfl;rw [hk] at h;cases h
   exact GLe.sameO (by rw [zQ e];exact h) rfl (xI e) }
 exact {
  defers:=hi.defers
  size:=hi.size
  fr:=hi.fr
  mem:=hi.mem
  env:=λt v h=>let ⟨x,h1,h2⟩:=hi.env t v h;⟨x,h1,h2.ghost gle⟩
  vars:=λi l h=>by
   have e':i≠k:=by rintro rfl;rw [zW] at h;cases h
   rw [zQ e'] at h;obtain ⟨b,arr',e1,fz',h1,h2,h3,h4,h5,h6⟩:=hi.vars i l h;exact ⟨b,arr',e1,fz',h1,h2,h3,h4,λj q hq=>(h5 j q hq).ghost gle,h6⟩
  bufs:=λi c1 h=>by
   have e':i≠k:=by rintro rfl;rw [zW] at h;cases h
   rw [zQ e'] at h;rw [xI e'];exact hi.bufs i c1 h
  inj:=hi.inj
  dom:=λi h=>by
   by_cases e':i=k
   ·subst e';rw [zW] at h;cases h
   ·rw [zQ e'] at h;exact hi.dom i h
  glob:=hi.glob
  old:=hi.old
  owns:=λi w1 l1 h=>by
   by_cases e':i=k
   ·subst e';rw [zW] at h;cases h;rw [xF];exact .inr ⟨hwd,.inl ⟨rfl,hi.dom i hk,rfl⟩⟩
   ·rw [zQ e'] at h;rw [xI e'];rcases hi.owns i w1 l1 h with g0 | ⟨g1,g2⟩
    ·exact .inl g0
    refine .inr ⟨g1,?_⟩;rcases g2 with g2 | ⟨b,n1,cap1,arr1,e1,fz1,q1,q2,q3,q4,q5,q6,q7,q8,q9,q10,q11⟩
    ·exact .inl g2
    ·exact .inr ⟨b,n1,cap1,arr1,e1,fz1,q1,q2,q3,q4,q5,q6,q7,q8,q9,λj q hq=>(q10 j q hq).ghost gle,q11⟩}
theorem Inv.ownSet (hi:Inv cx M κ tip s a w) {b n':Nat} {arr':Array Value} {vs:List Value} (hb:s.blk k=some (.own wd l)) (htip:tip k=.slice (some ⟨b,0,none⟩) n cap) (hkb:κ k=some b) (hbase:cx.w0.heap.size<=b∨b∈cx.ob/\BIG<=k)
  (hfree:zGs fz arr'.size) (g1:(w.setCells b off vs).heap[b]? = some (.cells arr' e fz)) (hcap:cap*wd<=arr'.size) (hnc:n'<=cap) (hml:cap<=maxLen) (hwd:0<wd) (hM:∀ o,M b o=none) (hlen:n'*wd=l'.length) (hle:l.length<=l'.length) (hl0:n*wd=l.length)
  (hcs:∀ (j:Nat) (q:AV),l'[j]? = some q->RepA M κ tip s.blk q (arr'.getD j undef)) :
  Inv cx M κ (lH tip k (.slice (some ⟨b,0,none⟩) n' cap)) (s.setb k (.own wd l')) a (w.setCells b off vs):=by
 have hrest:=jH b vs off w;have gle:GLe κ κ tip (lH tip k (.slice (some ⟨b,0,none⟩) n' cap)) s.blk (s.setb k (.own wd l')).blk:={
  var:=λi b l h h'=>by
   have e:i≠k:=by rintro rfl;rw [hb] at h';cases h'
   rw [zQ e];exact ⟨h,l,h'⟩
  buf:=λi c1 h=>by
   have e:i≠k:=by rintro rfl;rw [hb] at h;cases h
   exact GLe.same (by rw [zQ e];exact h) (xI e)
  own:=λi c1 l1 h=>by
   by_cases e:i=k
   ·subst e;rw [hb] at h;cases h;refine ⟨wd,l',zW _ _ _,.inl ⟨rfl,hle,λe=>⟨rfl,?_⟩⟩⟩;rw [xF,htip];have:n'=n:=Nat.eq_of_mul_eq_mul_right hwd (by omega);rw [this]
   ·exact GLe.sameO (by rw [zQ e];exact h) rfl (xI e) }
 have hmap:∀ {v:AV} {x:Value},RepA M κ tip s.blk v x->RepA M κ (lH tip k (.slice (some ⟨b,0,none⟩) n' cap)) (s.setb k (.own wd l')).blk v x:=λh=>h.ghost gle;exact {
  defers:=hi.defers
  size:=hi.size
  fr:=⟨hrest.1.trans hi.fr.os,hrest.2.1.trans hi.fr.tape,hrest.2.2.trans hi.fr.output,by rw [jD];exact hi.fr.size,λi hi1 hi2 hi3=>by
   rw [wH b vs _ w i (by rintro rfl;exact hbase.elim (λh=>by omega) λh=>hi3 h.1)];exact hi.fr.block i hi1 hi2 hi3⟩
  mem:=λi o x h=>by
   have hne:i≠b:=by rintro rfl;rw [hM] at h;cases h
   have:=hi.mem i o x h;rw [World.cell?_setCells_out b vs off w _ (λe=>(hne e).elim)];exact this
  env:=λt v h=>let ⟨x,h1,h2⟩:=hi.env t v h;⟨x,h1,hmap h2⟩
  vars:=λi l h=>by
   have e':i≠k:=by rintro rfl;rw [zW] at h;cases h
   rw [zQ e'] at h;obtain ⟨b2,arr2,e2,fz2,k1,k2,k3,k4,k5,k6,k7⟩:=hi.vars i l h;have hne:b2≠b:=λe=>e' (hi.inj i k b (e▸k1) hkb);exact ⟨b2,arr2,e2,fz2,k1,by rw [wH b vs _ w b2 hne];exact k2,k3,k4,λj q hq=>hmap (k5 j q hq),k6,k7⟩
  bufs:=λi c1 h=>by
   have e':i≠k:=by rintro rfl;rw [zW] at h;cases h
   rw [zQ e'] at h;obtain ⟨k1,k2,k3,k4⟩:=hi.bufs i c1 h;rw [xI e'];refine ⟨k1,k2,k3,?_⟩;rcases k4 with k4 | ⟨b2,n2,cap2,arr2,e2,fz2,q1,q2,q3,q4,q5,q6,q7,q8⟩
   ·exact .inl k4
   ·have hne:b2≠b:=λe=>e' (hi.inj i k b (e▸q2) hkb);exact .inr ⟨b2,n2,cap2,arr2,e2,fz2,q1,q2,q3,by rw [wH b vs _ w b2 hne];exact q4,q5,q6,q7,q8⟩
  inj:=hi.inj
  dom:=λi h=>by
   by_cases e':i=k
   ·subst e';rw [zW] at h;cases h
   ·rw [zQ e'] at h;exact hi.dom i h
  glob:=hi.glob
  old:=hi.old
  owns:=λi w1 l1 h=>by
   by_cases e':i=k
   ·subst e';rw [zW] at h;cases h;rw [xF];exact .inr ⟨hwd,.inr ⟨b,n',cap,arr',e,fz,rfl,hkb,hbase,g1,hfree,hlen,hcap,hnc,hml,λj q hq=>hmap (hcs j q hq),hM⟩⟩
   ·rw [zQ e'] at h;rw [xI e'];rcases hi.owns i w1 l1 h with g0 | ⟨g1',g2⟩
    ·exact .inl g0
    refine .inr ⟨g1',?_⟩;rcases g2 with g2 | ⟨b2,n1,cap1,arr1,e1,fz1,q1,q2,q3,q4,q5,q6,q7,q8,q9,q10,q11⟩
    ·exact .inl g2
    ·have hne:b2≠b:=λe=>e' (hi.inj i k b (e▸q2) hkb);exact .inr ⟨b2,n1,cap1,arr1,e1,fz1,q1,q2,q3,by rw [wH b vs _ w b2 hne];exact q4,q5,q6,q7,q8,q9,λj q hq=>hmap (q10 j q hq),q11⟩}
end
end Go.Sw
