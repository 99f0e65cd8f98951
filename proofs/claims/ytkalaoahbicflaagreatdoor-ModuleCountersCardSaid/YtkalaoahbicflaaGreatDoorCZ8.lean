/- A part. -/
import Derived.KernelRfl
import Derived.Test.YtkalaoahbicflaaGreatDoorCZ7
set_option linter.all false
namespace Go.Sw
open Go
variable {α:Type}
abbrev bB0 (k:Nat) (l:By):Nat×ABlk:=(k,.buf (.bytes l))
abbrev oM0 (k:Nat) (l:List By):Nat×ABlk:=(k,qO (.sl 1 (l.map PV.bytes)))
abbrev bM0 (k w:Nat) (f:α->PV) (l:List α):Nat×ABlk:=(k,.buf (.sl w (l.map f)))
abbrev sB0 (k b:Nat) (l:List α):Nat×AV:=(k,.buf b l.length)
abbrev sO0 (k b:Nat) (l:List α):Nat×AV:=(k,.own b l.length)
abbrev qV0 (x:Int):AV:=.p (.int .u32 x)
abbrev nS0 (w:Nat):AV:=.nl (.sl w [])
def zz0:(∀ (s:AS) (r:Nat->Nat),gB s r []=[]/\∀ t b l,gB s r ((t,b)::l)=s.blk (r t)::gB s r l)/\(∀ r:ABlk->ABlk,vB r []=[]/\∀ t b l,vB r ((t,b)::l)=some (r b)::vB r l)/\(∀ r:Nat->Nat,bR r []=[]/\∀ t b l,bR r ((t,b)::l)=(r t,b.ren r)::bR r l)/\(∀ (r:Nat->Nat) l,ABlk.ren r (.var l)=.var (qN r l))/\(∀ (r:Nat->Nat) c,ABlk.ren r (.buf c)=.buf c)/\(∀ (r:Nat->Nat) w l,ABlk.ren r (.own w l)=.own w (qN r l))/\∀ (r:Nat->Nat) {α:Type} (f:α->PV) (l:List α),qN r (l.map λx=>AV.p (f x))=l.map λx=>AV.p (f x):=⟨λ_ _=>⟨rfl,λ_ _ _=>rfl⟩,λ_=>⟨rfl,λ_ _ _=>rfl⟩,λ_=>⟨rfl,λ_ _ _=>rfl⟩,λ_ _=>rfl,λ_ _=>rfl,λ_ _ _=>rfl,λ_ _ _ _=>zQq⟩
end Go.Sw
namespace Go.Proofs.Tryz.S
open Go Go.Sw
instance:Mx Tryz.prog:=⟨jo⟩
abbrev Ci {α:Type} (m:Option α) (f:FuncId) (ps:List PV) (o:α->AV×LB):Prop:=Ct Tryz.prog m f ps o
end Go.Proofs.Tryz.S
namespace Go.Proofs.TT
open Go Go.Sw
abbrev zB.zv (r:List AV):List AV:=nS0 1 :: nS0 1 :: .nl (.bytes []) :: qI 0 :: qI 0 :: qI 0 :: qI 0 :: qB false :: nS0 1 :: qI 0 :: qI 0 :: nS0 8 :: qI 0 :: qI 0 :: qI 0 :: qI 0 :: qI 0 :: qI 0 :: nS0 2 :: qB false :: qB false :: nS0 1 :: qI 0 :: qI 0 :: qB false :: qI 0 :: nS0 8 :: nS0 9 :: nS0 1 :: nS0 1 :: r
abbrev yA.zv (r:List AV):List AV:=nS0 1 :: nS0 1 :: .nl (.bytes []) :: qI 0 :: qI 0 :: qI 0 :: qI 0 :: qB false :: nS0 1 :: qI 0 :: qI 0 :: nS0 8 :: qI 0 :: qI 0 :: qI 0 :: qI 0 :: qI 0 :: qI 0 :: nS0 2 :: r
abbrev yG.av (x:yG) (r:List AV):List AV:=qB x.Started :: qB x.Stopped :: qL 1 (eSl 1 PV.bytes) x.Registers.Banks :: qI x.Registers.Updates :: qI x.Clock :: qB x.Safe :: qI x.Draws :: qL 8 zI.pv x.Sessions :: qL 9 zS.pv x.Objects :: qL 1 (PV.int .i64) x.ReadLocks :: qL 1 (PV.int .i64) x.WriteLocks :: r
abbrev zH.av (x:zH) (r:List AV):List AV:=qI x.Kind :: qI x.Selection.a0 :: qI x.Selection.a1 :: qY x.Digest :: qI x.N :: qI x.Op :: qY x.Operand :: qY x.Name :: qY x.Ref :: qL 1 PV.bytes x.Branches :: r
abbrev zS.av (x:zS) (r:List AV):List AV:=qI x.Public.Kind :: qI x.Public.Attr :: qI x.Public.Height :: qY x.Public.Policy :: qY x.Public.Unique :: qY x.Sensitive.Auth :: qY x.Sensitive.Seed :: qY x.Sensitive.Data :: qI x.Hierarchy :: r
abbrev zF.av (x:zF) (r:List AV):List AV:=qI x.N :: qI x.Kind :: qI x.Attr :: qI x.Size :: qY x.Policy :: qY x.Auth :: qB x.Written :: qY x.Data :: r
abbrev zF.zv (r:List AV):List AV:=qI 0 :: qI 0 :: qI 0 :: qI 0 :: .nl (.bytes []) :: .nl (.bytes []) :: qB false :: .nl (.bytes []) :: r
abbrev zI.av (x:zI) (r:List AV):List AV:=qI x.Kind :: qY x.Nonce :: qY x.Digest :: qI x.Updates :: qI x.Localities :: qI x.Command :: qI x.Deadline :: qB x.AuthValue :: r
abbrev zG.av (x:zG) (r:List AV):List AV:=qI x.Failed :: qI x.Max :: qI x.Recovery :: qI x.Since :: qI x.Closed :: qI x.Penalty :: r
abbrev zG.zv (r:List AV):List AV:=qI 0 :: qI 0 :: qI 0 :: qI 0 :: qI 0 :: qI 0 :: r
abbrev zM.av (x:zM) (r:List AV):List AV:=qI x.Kind :: qI x.Attr :: qI x.Height :: qY x.Policy :: qY x.Unique :: r
abbrev zM.zv (r:List AV):List AV:=qI 0 :: qI 0 :: qI 0 :: .nl (.bytes []) :: .nl (.bytes []) :: r
abbrev zC.av (x:zC) (r:List AV):List AV:=qI x.Code :: qL 1 (PV.int .i64) x.Handles :: qL 3 zJ.pv x.Auths :: qL 1 (PV.int .i64) x.Ints :: qL 1 PV.bytes x.Blobs :: r
abbrev zD.av (x:zD) (r:List AV):List AV:=qI x.Err :: qL 1 (PV.int .i64) x.Ints :: qL 1 PV.bytes x.Blobs :: qL 1 PV.bytes x.Nonces :: r
abbrev zD.zv (r:List AV):List AV:=qI 0 :: nS0 1 :: nS0 1 :: nS0 1 :: r
abbrev wO.av (x:wO) (r:List AV):List AV:=qY x.name_ :: qY x.value_ :: qY x.policy_ :: qB x.protected_ :: r
abbrev zK.av (x:zK) (r:List AV):List AV:=qY x.Auth :: qY x.Seed :: qY x.Data :: r
abbrev zK.zv (r:List AV):List AV:=.nl (.bytes []) :: .nl (.bytes []) :: .nl (.bytes []) :: r
abbrev zJ.av (x:zJ) (r:List AV):List AV:=qI x.Session :: qY x.Nonce :: qY x.Value :: r
abbrev zE.av (x:zE) (r:List AV):List AV:=qL 1 (eSl 1 PV.bytes) x.Banks :: qI x.Updates :: r
end Go.Proofs.TT
