/- ModuleStarted holds for all inputs -/
import Derived.Test.YtkalaoahbicflaaGreatDoorSZ3
set_option linter.all false
set_option linter.all false
open List renaming map -> Q0, flatMap_cons -> Q1
namespace Go.Sw
open Go
variable {K:AS->List Mic->Prop}{P:Program}{a:Int}{af:Array Edge}{b:Int}{bs:LB}{d:Nat}{e:TypeId}{ei:TI}{i:Int}{n:Nat}{o:Oper}{ops:Array Oper}{pos:String}{r:List Oper}{s:AS}{t:TypeId}{te:TE}{ty:TypeId}{v:AV}{w:Nat}{x y:Operand}{α:Type}{c:α->List PV}{l:List α}{u:α}
section
theorem yJs {J:TypeId} {k:IntKind} (S:o.op=.call { callee:=.builtin .max,args:=#[x,y],argTypes:=#[t,J] }) (E:s.get te t x=some (.p (.int k a))) (F:s.get te J y=some (.p (.int k b))) :
  VA P o s (opS x (.p (.int k a))++opS y (.p (.int k b))) [] (.p (.int k (if a<b then b else a))):=by
 refine ⟨?_,yL (zP E) (zP F),by simp⟩;intro cx M T tip s' ac w I G _;have K:=xK (repA_pv (yB I (yI E s' (yG G))));have L:=xK (repA_pv (yB I (yI F s' (zX G))));refine ⟨.int k _,?_,.p _ _ (.int _ _)⟩;simp [execOp,S,K,L,resolve,invoke,builtin,Builtin.max_,Builtin.max2]
end
section
variable [T:pB P] 
theorem RK.mx {G:TypeId} {A:IntKind} (D:(s.get T.te t x,s.get T.te G y)=(some (.p (.int A a)),some (.p (.int A b)))) (k:VK P ops r s K d (opS x (.p (.int A a))++opS y (.p (.int A b))) ([]) (.p (.int A (if a<b then b else a)))):RK P ops (⟨some d,.call ⟨.builtin .max,#[x,y],#[t,G]⟩,ty,pos,af,none⟩:: r) s K:=have ⟨N,L⟩:=pq D;RK.va rfl rfl (yJs rfl N L) k
end
section
end
section
variable [T:pB P] 
end
section
theorem zIg (y:∀ a,(c a).length=w):∀ (l:List α) (i:Nat) (u:α),l[i]? = some u->((l.flatMap c).drop (i*w)).take w=c u
 | [],i,u,h=>by simp_all
 | a :: r,0,u,h=>by
  simp_all
 | a :: r,i+1,u,h=>by
  simp only [Q1];rw [List.drop_append,y,List.drop_eq_nil_of_le (by rw [y,Nat.add_mul];omega),show (i+1)*w - w=i*w by rw [Nat.add_mul];omega];exact zIg y r i u (by simp_all)
theorem zJ0 (A:∀ a,(c a).length=w):∀ (l:List α),(l.flatMap c).length=l.length*w
 | []=>by simp
 | a :: r=>by simp only [Q1,List.length_append,A,zJ0 A r,List.length_cons,Nat.add_mul];omega
theorem ixF (F:yO P te) (h:idx l i=some u) (ho:o.op=.index t x y) (ht:(te t).map (·.ty)=some (.arr n e)) (he:te e=some ei) (I:ei.known=true) (W:s.get te t x=some v) (V:s.rd v=some (.agg (l.flatMap c),bs)) (hy:s.get te 0 y=some (.p (.int .i64 i))) (hn:Nat.ble l.length n=true) (K:ei.isAgg=true) (U:∀ a,(c a).length=ei.w) :
  VA P o s (opS x v++opS y (.p (.int .i64 i))) bs (.p (.agg (c u))):=by
 obtain ⟨Y,T⟩:=zE4 h;have G:=(List.getElem?_eq_some_iff.1 T).1;have be:=yZ hn;refine zZ3 F ho ht he (zX7 I) W V hy Y (by omega) ?_;rw [K];have hb:Nat.ble (i.toNat*ei.w+ei.w) (l.flatMap c).length=true:=by
  refine Nat.ble_eq_true_of_le ?_;rw [zJ0 U];have:i.toNat*ei.w+ei.w=(i.toNat+1)*ei.w:=by rw [Nat.add_mul];omega
  rw [this];exact Nat.mul_le_mul_right _ G
 simp only [iE,zIg U l _ u T,hb];try rfl
end
section
variable [T:pB P] 
theorem RK.ixF (h:idx l i=some u) (A:((T.te t).map (·.ty),T.te e,ei.known,s.get T.te t x,s.rd v,Nat.ble l.length n,ei.isAgg)=(some (.arr n e),some ei,true,some v,some (.agg (l.flatMap c),bs),true,true)) (hc:∀ a,(c a).length=ei.w) (V:s.get T.te 0 y=some (.p (.int .i64 i)))
  (k:VK P ops r s K d (opS x v++opS y (.p (.int .i64 i))) bs (.p (.agg (c u)))):RK P ops (⟨some d,.index t x y,ty,pos,af,none⟩:: r) s K:=have ⟨ht,A⟩:=pq A;have ⟨Y,A⟩:=pq A;have ⟨J,A⟩:=pq A;have ⟨hx,A⟩:=pq A;have ⟨hp,A⟩:=pq A;have ⟨hn,L⟩:=pq A;RK.va rfl rfl (Go.Sw.ixF T.ok h rfl ht Y J hx hp V hn L hc) k
theorem RK.ldG {i:TI} {l l':List PV} (he0:(T.te t,i.isAgg,s.get T.te 0 x)=(some i,true,some (.p (.cptr (.agg l))))) (hl:l=l') (hw:Nat.beq l'.length i.w=true) (k:VK P ops r s K d (opS x (.p (.cptr (.agg l)))) [] (.p (.agg l'))):RK P ops (⟨some d,.load t x,ty,pos,af,none⟩:: r) s K:=have ⟨he,he0⟩:=pq he0;have ⟨hag,hx⟩:=pq he0;by
 subst hl;exact RK.va rfl rfl (Go.Sw.ldCN T.ok rfl he hag hx hw) k
theorem RK.mbS (f:α->PV) (l:List α) {b:Nat} {kl kc:IntKind} (E:l.length=n) (hn:Nat.ble (n*b) 140737488355328=true) (ht:(T.te t).map (·.ty)=some (.slice e)) (he:T.te e=some ei) (Y:ei.b=b) (N:Nat.blt 0 b=true) (hz:ei.z.length=ei.w) (V:Nat.blt 0 ei.w=true) (hx:s.get T.te 0 x=some (.p (.int kl (n:Nat)))) (hy:s.get T.te 0 y=some (.p (.int kc (n:Nat)))) (hk:s.blk d=none)
  (W:∀ s:AS,s.rdL (rR ei.z n)=some (xJ (l.map f),[])) (hl:(l.map f).all (λp=>Nat.beq p.cells.length ei.w)=true) (k:BK P ops r s K d (opS x (.p (.int kl (n:Nat)))++opS y (.p (.int kc (n:Nat)))) [] [d] d (.buf (.sl ei.w (l.map f))) (.buf d l.length)):RK P ops (⟨some d,.makeSlice t x y,ty,pos,af,none⟩:: r) s K:=by
 have bl:=Nat.le_of_ble_eq_true N;have Z:=Nat.le_of_ble_eq_true V;have J:dA _ _ _:=.sl _ λp hp=>Nat.eq_of_beq_eq_true ((List.all_eq_true.1 hl) p hp);rw [E] at k;have:=Go.Sw.sa_mkb (o:=⟨some d,.makeSlice t x y,ty,pos,af,none⟩) T.ok rfl rfl ht he hz Z hx hy (by omega) (by simp_all) (by omega) (λs=>by simp_all) J (by simp [PV.len,E]) hk;exact RK.sb rfl this k
end
section
variable {fn:Func} {cx:Ctx} {rs:AS}
theorem zZ1 (v:yO P te) {rv1 rv2 rv3 rv4 rv5:ResultVar} {a1 a2 a3 a4 a5:AV} (I:fn.results=#[rv1,rv2,rv3,rv4,rv5]) (Z:RV te s rv1 a1) (h2:RV te s rv2 a2) (h3:RV te s rv3 a3) (h4:RV te s rv4 a4) (Y:RV te s rv5 a5) (h:Imp cx.pk { env:=lk [(0,.tu [a1,a2,a3,a4,a5])],blk:=s.blk } rs):jU P fn cx s rs:=by
 intro a w W;have U:=W;obtain ⟨M,κ,tip,h0,hp,A⟩:=U;obtain ⟨x1,N,_⟩:=Z.run v A;obtain ⟨x2,F,_⟩:=h2.run v A;obtain ⟨x3,L,_⟩:=h3.run v A;obtain ⟨x4,J,_⟩:=h4.run v A;obtain ⟨x5,S,_⟩:=Y.run v A;refine ⟨.tuple #[x1,x2,x3,x4,x5],?_,h _ _ _ rfl (W.result λM κ tip A=>?_)⟩
 ·simp [zAq,I,N,F,L,J,S]
 ·obtain ⟨y1,G,r1⟩:=Z.run v A;obtain ⟨y2,D,r2⟩:=h2.run v A;obtain ⟨y3,E,r3⟩:=h3.run v A;obtain ⟨y4,T,r4⟩:=h4.run v A;obtain ⟨y5,K,r5⟩:=Y.run v A;rw [N] at G;cases G;rw [F] at D;cases D;rw [L] at E;cases E;rw [J] at T;cases T;rw [S] at K;cases K;refine .tu _ _ rfl (λj q y=>?_)
  match j,y with
  | 0,y=>cases y;exact r1
  | 1,y=>cases y;exact r2
  | 2,y=>cases y;exact r3
  | 3,y=>cases y;exact r4
  | 4,y=>cases y;exact r5
  | j+5,y=>simp at y
end
end Go.Sw
namespace Go.Proofs.TT
open Go Go.Sw
structure zE where
 Banks:List (List By)
 Updates:Int
 deriving DecidableEq,Inhabited
def zE.cs (x:zE):List PV:=[.sl 1 (Q0 (eSl 1 PV.bytes) x.Banks),.int .i64 x.Updates]
def zE.pv (x:zE):PV:=.agg x.cs
structure zK where
 Failed:Int
 Max:Int
 Recovery:Int
 Since:Int
 Closed:Int
 Penalty:Int
 deriving DecidableEq,Inhabited
def zK.cs (x:zK):List PV:=[.int .i64 x.Failed,.int .i64 x.Max,.int .i64 x.Recovery,.int .i64 x.Since,.int .i64 x.Closed,.int .i64 x.Penalty]
def zK.pv (x:zK):PV:=.agg x.cs
structure zF where
 N:Int
 Kind:Int
 Attr:Int
 Size:Int
 Policy:By
 Auth:By
 Written:Bool
 Data:By
 deriving DecidableEq,Inhabited
def zF.cs (x:zF):List PV:=[.int .i64 x.N,.int .i64 x.Kind,.int .i64 x.Attr,.int .i64 x.Size,.bytes x.Policy,.bytes x.Auth,.bool x.Written,.bytes x.Data]
def zF.pv (x:zF):PV:=.agg x.cs
structure yD where
 Unique:By
 Used:Int
 deriving DecidableEq,Inhabited
def yD.cs (x:yD):List PV:=[.bytes x.Unique,.int .i64 x.Used]
def yD.pv (x:yD):PV:=.agg x.cs
structure zU where
 Seeds:List By
 Auths:List By
 Entropy:By
 Active:Int
 Resets:Int
 Restarts:Int
 Clock:Int
 Orderly:Bool
 Saved:zE
 MaxCounter:Int
 Indices:List zF
 Lockout:zK
 Keys:List yD
 deriving DecidableEq,Inhabited
def zU.cs (x:zU):List PV:=[.sl 1 (Q0 PV.bytes x.Seeds),.sl 1 (Q0 PV.bytes x.Auths),.bytes x.Entropy,.int .i64 x.Active,.int .i64 x.Resets,.int .i64 x.Restarts,.int .i64 x.Clock,.bool x.Orderly,.sl 1 (Q0 (eSl 1 PV.bytes) x.Saved.Banks),.int .i64 x.Saved.Updates,.int .i64 x.MaxCounter,.sl 8 (Q0 zF.pv x.Indices),.int .i64 x.Lockout.Failed,.int .i64 x.Lockout.Max,.int .i64 x.Lockout.Recovery,.int .i64 x.Lockout.Since,.int .i64 x.Lockout.Closed,.int .i64 x.Lockout.Penalty,.sl 2 (Q0 yD.pv x.Keys)]
def zU.pv (x:zU):PV:=.agg x.cs
abbrev zU.av (x:zU) (r:List AV):List AV:=qL 1 PV.bytes x.Seeds :: qL 1 PV.bytes x.Auths :: qY x.Entropy :: qI x.Active :: qI x.Resets :: qI x.Restarts :: qI x.Clock :: qB x.Orderly :: qL 1 (eSl 1 PV.bytes) x.Saved.Banks :: qI x.Saved.Updates :: qI x.MaxCounter :: qL 8 zF.pv x.Indices :: qI x.Lockout.Failed :: qI x.Lockout.Max :: qI x.Lockout.Recovery :: qI x.Lockout.Since :: qI x.Lockout.Closed :: qI x.Lockout.Penalty :: qL 2 yD.pv x.Keys :: r
structure zH where
 Kind:Int
 Nonce:By
 Digest:By
 Updates:Int
 Localities:Int
 Command:Int
 Deadline:Int
 AuthValue:Bool
 deriving DecidableEq,Inhabited
def zH.cs (x:zH):List PV:=[.int .i64 x.Kind,.bytes x.Nonce,.bytes x.Digest,.int .i64 x.Updates,.int .i64 x.Localities,.int .i64 x.Command,.int .i64 x.Deadline,.bool x.AuthValue]
def zH.pv (x:zH):PV:=.agg x.cs
structure zL where
 Kind:Int
 Attr:Int
 Height:Int
 Policy:By
 Unique:By
 deriving DecidableEq,Inhabited
def zL.cs (x:zL):List PV:=[.int .i64 x.Kind,.int .i64 x.Attr,.int .i64 x.Height,.bytes x.Policy,.bytes x.Unique]
def zL.pv (x:zL):PV:=.agg x.cs
structure zJ where
 Auth:By
 Seed:By
 Data:By
 deriving DecidableEq,Inhabited
def zJ.cs (x:zJ):List PV:=[.bytes x.Auth,.bytes x.Seed,.bytes x.Data]
def zJ.pv (x:zJ):PV:=.agg x.cs
structure zR where
 Public:zL
 Sensitive:zJ
 Hierarchy:Int
 deriving DecidableEq,Inhabited
def zR.cs (x:zR):List PV:=[.int .i64 x.Public.Kind,.int .i64 x.Public.Attr,.int .i64 x.Public.Height,.bytes x.Public.Policy,.bytes x.Public.Unique,.bytes x.Sensitive.Auth,.bytes x.Sensitive.Seed,.bytes x.Sensitive.Data,.int .i64 x.Hierarchy]
def zR.pv (x:zR):PV:=.agg x.cs
structure yE where
 Started:Bool
 Stopped:Bool
 Registers:zE
 Clock:Int
 Safe:Bool
 Draws:Int
 Sessions:List zH
 Objects:List zR
 ReadLocks:List Int
 WriteLocks:List Int
 deriving DecidableEq,Inhabited
structure zB where
 Stable:zU
 Volatile:yE
 deriving DecidableEq,Inhabited
def zB.cs (x:zB):List PV:=[.sl 1 (Q0 PV.bytes x.Stable.Seeds),.sl 1 (Q0 PV.bytes x.Stable.Auths),.bytes x.Stable.Entropy,.int .i64 x.Stable.Active,.int .i64 x.Stable.Resets,.int .i64 x.Stable.Restarts,.int .i64 x.Stable.Clock,.bool x.Stable.Orderly,.sl 1 (Q0 (eSl 1 PV.bytes) x.Stable.Saved.Banks),.int .i64 x.Stable.Saved.Updates,.int .i64 x.Stable.MaxCounter,.sl 8 (Q0 zF.pv x.Stable.Indices),.int .i64 x.Stable.Lockout.Failed,.int .i64 x.Stable.Lockout.Max,.int .i64 x.Stable.Lockout.Recovery,.int .i64 x.Stable.Lockout.Since,.int .i64 x.Stable.Lockout.Closed,.int .i64 x.Stable.Lockout.Penalty,.sl 2 (Q0 yD.pv x.Stable.Keys),.bool x.Volatile.Started,.bool x.Volatile.Stopped,.sl 1 (Q0 (eSl 1 PV.bytes) x.Volatile.Registers.Banks),.int .i64 x.Volatile.Registers.Updates,.int .i64 x.Volatile.Clock,.bool x.Volatile.Safe,.int .i64 x.Volatile.Draws,.sl 8 (Q0 zH.pv x.Volatile.Sessions),.sl 9 (Q0 zR.pv x.Volatile.Objects),.sl 1 (Q0 (PV.int .i64) x.Volatile.ReadLocks),.sl 1 (Q0 (PV.int .i64) x.Volatile.WriteLocks)]
def zB.pv (x:zB):PV:=.agg x.cs
abbrev zB.av (x:zB) (r:List AV):List AV:=qL 1 PV.bytes x.Stable.Seeds :: qL 1 PV.bytes x.Stable.Auths :: qY x.Stable.Entropy :: qI x.Stable.Active :: qI x.Stable.Resets :: qI x.Stable.Restarts :: qI x.Stable.Clock :: qB x.Stable.Orderly :: qL 1 (eSl 1 PV.bytes) x.Stable.Saved.Banks :: qI x.Stable.Saved.Updates :: qI x.Stable.MaxCounter :: qL 8 zF.pv x.Stable.Indices :: qI x.Stable.Lockout.Failed :: qI x.Stable.Lockout.Max :: qI x.Stable.Lockout.Recovery :: qI x.Stable.Lockout.Since :: qI x.Stable.Lockout.Closed :: qI x.Stable.Lockout.Penalty :: qL 2 yD.pv x.Stable.Keys :: qB x.Volatile.Started :: qB x.Volatile.Stopped :: qL 1 (eSl 1 PV.bytes) x.Volatile.Registers.Banks :: qI x.Volatile.Registers.Updates :: qI x.Volatile.Clock :: qB x.Volatile.Safe :: qI x.Volatile.Draws :: qL 8 zH.pv x.Volatile.Sessions :: qL 9 zR.pv x.Volatile.Objects :: qL 1 (PV.int .i64) x.Volatile.ReadLocks :: qL 1 (PV.int .i64) x.Volatile.WriteLocks :: r
structure zM where
 Session:Int
 Nonce:By
 Value:By
 deriving DecidableEq,Inhabited
def zM.cs (x:zM):List PV:=[.int .i64 x.Session,.bytes x.Nonce,.bytes x.Value]
def zM.pv (x:zM):PV:=.agg x.cs
structure zC where
 Code:Int
 Handles:List Int
 Auths:List zM
 Ints:List Int
 Blobs:List By
 deriving DecidableEq,Inhabited
def zC.cs (x:zC):List PV:=[.int .i64 x.Code,.sl 1 (Q0 (PV.int .i64) x.Handles),.sl 3 (Q0 zM.pv x.Auths),.sl 1 (Q0 (PV.int .i64) x.Ints),.sl 1 (Q0 PV.bytes x.Blobs)]
def zC.pv (x:zC):PV:=.agg x.cs
structure zD where
 Err:Int
 Ints:List Int
 Blobs:List By
 Nonces:List By
 deriving DecidableEq,Inhabited
def zD.cs (x:zD):List PV:=[.int .i64 x.Err,.sl 1 (Q0 (PV.int .i64) x.Ints),.sl 1 (Q0 PV.bytes x.Blobs),.sl 1 (Q0 PV.bytes x.Nonces)]
def zD.pv (x:zD):PV:=.agg x.cs
structure mE where
 code_:Int
 handles_:Int
 auths_:Int
 ints_:Int
 blobs_:Int
 deriving DecidableEq,Inhabited
def mE.cs (x:mE):List PV:=[.int .i64 x.code_,.int .i64 x.handles_,.int .i64 x.auths_,.int .i64 x.ints_,.int .i64 x.blobs_]
structure zK7 where
 name_:By
 value_:By
 policy_:By
 protected_:Bool
 deriving DecidableEq,Inhabited
structure zI where
 Kind:Int
 Selection:A2 Int
 Digest:By
 N:Int
 Op:Int
 Operand:By
 Name:By
 Ref:By
 Branches:List By
 deriving DecidableEq,Inhabited
def zI.cs (x:zI):List PV:=[.int .i64 x.Kind,.int .i64 x.Selection.a0,.int .i64 x.Selection.a1,.bytes x.Digest,.int .i64 x.N,.int .i64 x.Op,.bytes x.Operand,.bytes x.Name,.bytes x.Ref,.sl 1 (Q0 PV.bytes x.Branches)]
def zI.pv (x:zI):PV:=.agg x.cs
structure wJ where
 Key:By
 Nonce:By
 Resets:Int
 Restarts:Int
 Clock:Int
 Safe:Bool
 Updates:Int
 Selection:A2 Int
 Digest:By
 deriving DecidableEq,Inhabited
def wJ.cs (x:wJ):List PV:=[.bytes x.Key,.bytes x.Nonce,.int .i64 x.Resets,.int .i64 x.Restarts,.int .i64 x.Clock,.bool x.Safe,.int .i64 x.Updates,.int .i64 x.Selection.a0,.int .i64 x.Selection.a1,.bytes x.Digest]
def wJ.pv (x:wJ):PV:=.agg x.cs
structure zG where
 B:By
 At:Int
 Error:Int
 deriving DecidableEq,Inhabited
def zG.cs (x:zG):List PV:=[.bytes x.B,.int .i64 x.At,.int .i64 x.Error]
structure yA where
 b_:By
 at_:Int
 e_:Int
 deriving DecidableEq,Inhabited
def yA.cs (x:yA):List PV:=[.bytes x.b_,.int .i64 x.at_,.int .i64 x.e_]
def zA7 (b:By) (n:Int):Option By:=
 match b with
 | [x]=>bif (n==20||n==32) then some (List.replicate n.toNat x) else none
 | _=>none
def sS {α:Type} (b:Nat) (l:List α):Option (List α):=bif Nat.ble (l.length*b) 140737488355328 then some l else none
end Go.Proofs.TT
