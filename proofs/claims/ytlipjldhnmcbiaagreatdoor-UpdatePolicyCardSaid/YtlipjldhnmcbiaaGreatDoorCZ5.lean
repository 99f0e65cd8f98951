/- UpdatePolicy holds for all inputs -/
import Derived.Test.YtlipjldhnmcbiaaGreatDoorCZ4
set_option linter.all false
open List renaming map -> Q0, replicate -> Q7
open Nat renaming shiftRight -> Q1, mod -> Q3, add -> Q4, xor -> Q5, shiftLeft -> Q6, land -> Q8, lor -> Q9
open UInt8 renaming ofNat -> Q2
namespace Go.Proofs.TT
open Go Go.Sw
variable {R α:Type}
structure zJ where
 N:Int
 Kind:Int
 Attr:Int
 Size:Int
 Policy:By
 Auth:By
 Written:Bool
 Data:By
 deriving DecidableEq,Inhabited
def zJ.cs (x:zJ):List PV:=[.int .i64 x.N,.int .i64 x.Kind,.int .i64 x.Attr,.int .i64 x.Size,.bytes x.Policy,.bytes x.Auth,.bool x.Written,.bytes x.Data]
def zJ.pv (x:zJ):PV:=.agg x.cs
structure yC where
 Areas:List By
 Writes:Int
 CutAt:Int
 Torn:Int
 Off:Bool
 deriving DecidableEq,Inhabited
def yC.cs (x:yC):List PV:=[.sl 1 (Q0 PV.bytes x.Areas),.int .i64 x.Writes,.int .i64 x.CutAt,.int .i64 x.Torn,.bool x.Off]
def yC.pv (x:yC):PV:=.agg x.cs
structure zC where
 Banks:List (List By)
 Updates:Int
 deriving DecidableEq,Inhabited
def zC.cs (x:zC):List PV:=[.sl 1 (Q0 (eSl 1 PV.bytes) x.Banks),.int .i64 x.Updates]
def zC.pv (x:zC):PV:=.agg x.cs
structure yG where
 Failed:Int
 Max:Int
 Recovery:Int
 Since:Int
 Closed:Int
 Penalty:Int
 deriving DecidableEq,Inhabited
def yG.cs (x:yG):List PV:=[.int .i64 x.Failed,.int .i64 x.Max,.int .i64 x.Recovery,.int .i64 x.Since,.int .i64 x.Closed,.int .i64 x.Penalty]
def yG.pv (x:yG):PV:=.agg x.cs
structure xG where
 Unique:By
 Used:Int
 deriving DecidableEq,Inhabited
def xG.cs (x:xG):List PV:=[.bytes x.Unique,.int .i64 x.Used]
def xG.pv (x:xG):PV:=.agg x.cs
structure zW where
 Seeds:List By
 Auths:List By
 Entropy:By
 Active:Int
 Resets:Int
 Restarts:Int
 Clock:Int
 Orderly:Bool
 Saved:zC
 MaxCounter:Int
 Indices:List zJ
 Lockout:yG
 Keys:List xG
 deriving DecidableEq,Inhabited
def zW.cs (x:zW):List PV:=[.sl 1 (Q0 PV.bytes x.Seeds),.sl 1 (Q0 PV.bytes x.Auths),.bytes x.Entropy,.int .i64 x.Active,.int .i64 x.Resets,.int .i64 x.Restarts,.int .i64 x.Clock,.bool x.Orderly,.sl 1 (Q0 (eSl 1 PV.bytes) x.Saved.Banks),.int .i64 x.Saved.Updates,.int .i64 x.MaxCounter,.sl 8 (Q0 zJ.pv x.Indices),.int .i64 x.Lockout.Failed,.int .i64 x.Lockout.Max,.int .i64 x.Lockout.Recovery,.int .i64 x.Lockout.Since,.int .i64 x.Lockout.Closed,.int .i64 x.Lockout.Penalty,.sl 2 (Q0 xG.pv x.Keys)]
def zW.pv (x:zW):PV:=.agg x.cs
abbrev zW.av (x:zW) (r:List AV):List AV:=qL 1 PV.bytes x.Seeds :: qL 1 PV.bytes x.Auths :: qY x.Entropy :: qI x.Active :: qI x.Resets :: qI x.Restarts :: qI x.Clock :: qB x.Orderly :: qL 1 (eSl 1 PV.bytes) x.Saved.Banks :: qI x.Saved.Updates :: qI x.MaxCounter :: qL 8 zJ.pv x.Indices :: qI x.Lockout.Failed :: qI x.Lockout.Max :: qI x.Lockout.Recovery :: qI x.Lockout.Since :: qI x.Lockout.Closed :: qI x.Lockout.Penalty :: qL 2 xG.pv x.Keys :: r
structure zL where
 Kind:Int
 Nonce:By
 Digest:By
 Updates:Int
 Localities:Int
 Command:Int
 Deadline:Int
 AuthValue:Bool
 deriving DecidableEq,Inhabited
def zL.cs (x:zL):List PV:=[.int .i64 x.Kind,.bytes x.Nonce,.bytes x.Digest,.int .i64 x.Updates,.int .i64 x.Localities,.int .i64 x.Command,.int .i64 x.Deadline,.bool x.AuthValue]
def zL.pv (x:zL):PV:=.agg x.cs
structure zQ where
 Kind:Int
 Attr:Int
 Height:Int
 Policy:By
 Unique:By
 deriving DecidableEq,Inhabited
def zQ.cs (x:zQ):List PV:=[.int .i64 x.Kind,.int .i64 x.Attr,.int .i64 x.Height,.bytes x.Policy,.bytes x.Unique]
def zQ.pv (x:zQ):PV:=.agg x.cs
structure yA where
 Auth:By
 Seed:By
 Data:By
 deriving DecidableEq,Inhabited
def yA.cs (x:yA):List PV:=[.bytes x.Auth,.bytes x.Seed,.bytes x.Data]
def yA.pv (x:yA):PV:=.agg x.cs
structure zX where
 Public:zQ
 Sensitive:yA
 Hierarchy:Int
 deriving DecidableEq,Inhabited
def zX.cs (x:zX):List PV:=[.int .i64 x.Public.Kind,.int .i64 x.Public.Attr,.int .i64 x.Public.Height,.bytes x.Public.Policy,.bytes x.Public.Unique,.bytes x.Sensitive.Auth,.bytes x.Sensitive.Seed,.bytes x.Sensitive.Data,.int .i64 x.Hierarchy]
def zX.pv (x:zX):PV:=.agg x.cs
structure yL where
 Started:Bool
 Stopped:Bool
 Registers:zC
 Clock:Int
 Safe:Bool
 Draws:Int
 Sessions:List zL
 Objects:List zX
 ReadLocks:List Int
 WriteLocks:List Int
 deriving DecidableEq,Inhabited
structure zE where
 Stable:zW
 Volatile:yL
 deriving DecidableEq,Inhabited
def zE.cs (x:zE):List PV:=[.sl 1 (Q0 PV.bytes x.Stable.Seeds),.sl 1 (Q0 PV.bytes x.Stable.Auths),.bytes x.Stable.Entropy,.int .i64 x.Stable.Active,.int .i64 x.Stable.Resets,.int .i64 x.Stable.Restarts,.int .i64 x.Stable.Clock,.bool x.Stable.Orderly,.sl 1 (Q0 (eSl 1 PV.bytes) x.Stable.Saved.Banks),.int .i64 x.Stable.Saved.Updates,.int .i64 x.Stable.MaxCounter,.sl 8 (Q0 zJ.pv x.Stable.Indices),.int .i64 x.Stable.Lockout.Failed,.int .i64 x.Stable.Lockout.Max,.int .i64 x.Stable.Lockout.Recovery,.int .i64 x.Stable.Lockout.Since,.int .i64 x.Stable.Lockout.Closed,.int .i64 x.Stable.Lockout.Penalty,.sl 2 (Q0 xG.pv x.Stable.Keys),.bool x.Volatile.Started,.bool x.Volatile.Stopped,.sl 1 (Q0 (eSl 1 PV.bytes) x.Volatile.Registers.Banks),.int .i64 x.Volatile.Registers.Updates,.int .i64 x.Volatile.Clock,.bool x.Volatile.Safe,.int .i64 x.Volatile.Draws,.sl 8 (Q0 zL.pv x.Volatile.Sessions),.sl 9 (Q0 zX.pv x.Volatile.Objects),.sl 1 (Q0 (PV.int .i64) x.Volatile.ReadLocks),.sl 1 (Q0 (PV.int .i64) x.Volatile.WriteLocks)]
def zE.pv (x:zE):PV:=.agg x.cs
abbrev zE.av (x:zE) (r:List AV):List AV:=qL 1 PV.bytes x.Stable.Seeds :: qL 1 PV.bytes x.Stable.Auths :: qY x.Stable.Entropy :: qI x.Stable.Active :: qI x.Stable.Resets :: qI x.Stable.Restarts :: qI x.Stable.Clock :: qB x.Stable.Orderly :: qL 1 (eSl 1 PV.bytes) x.Stable.Saved.Banks :: qI x.Stable.Saved.Updates :: qI x.Stable.MaxCounter :: qL 8 zJ.pv x.Stable.Indices :: qI x.Stable.Lockout.Failed :: qI x.Stable.Lockout.Max :: qI x.Stable.Lockout.Recovery :: qI x.Stable.Lockout.Since :: qI x.Stable.Lockout.Closed :: qI x.Stable.Lockout.Penalty :: qL 2 xG.pv x.Stable.Keys :: qB x.Volatile.Started :: qB x.Volatile.Stopped :: qL 1 (eSl 1 PV.bytes) x.Volatile.Registers.Banks :: qI x.Volatile.Registers.Updates :: qI x.Volatile.Clock :: qB x.Volatile.Safe :: qI x.Volatile.Draws :: qL 8 zL.pv x.Volatile.Sessions :: qL 9 zX.pv x.Volatile.Objects :: qL 1 (PV.int .i64) x.Volatile.ReadLocks :: qL 1 (PV.int .i64) x.Volatile.WriteLocks :: r
structure zB where
 Disk:yC
 State:zE
 On:Bool
 Next:Int
 deriving DecidableEq,Inhabited
def zB.cs (x:zB):List PV:=[.sl 1 (Q0 PV.bytes x.Disk.Areas),.int .i64 x.Disk.Writes,.int .i64 x.Disk.CutAt,.int .i64 x.Disk.Torn,.bool x.Disk.Off,.sl 1 (Q0 PV.bytes x.State.Stable.Seeds),.sl 1 (Q0 PV.bytes x.State.Stable.Auths),.bytes x.State.Stable.Entropy,.int .i64 x.State.Stable.Active,.int .i64 x.State.Stable.Resets,.int .i64 x.State.Stable.Restarts,.int .i64 x.State.Stable.Clock,.bool x.State.Stable.Orderly,.sl 1 (Q0 (eSl 1 PV.bytes) x.State.Stable.Saved.Banks),.int .i64 x.State.Stable.Saved.Updates,.int .i64 x.State.Stable.MaxCounter,.sl 8 (Q0 zJ.pv x.State.Stable.Indices),.int .i64 x.State.Stable.Lockout.Failed,.int .i64 x.State.Stable.Lockout.Max,.int .i64 x.State.Stable.Lockout.Recovery,.int .i64 x.State.Stable.Lockout.Since,.int .i64 x.State.Stable.Lockout.Closed,.int .i64 x.State.Stable.Lockout.Penalty,.sl 2 (Q0 xG.pv x.State.Stable.Keys),.bool x.State.Volatile.Started,.bool x.State.Volatile.Stopped,.sl 1 (Q0 (eSl 1 PV.bytes) x.State.Volatile.Registers.Banks),.int .i64 x.State.Volatile.Registers.Updates,.int .i64 x.State.Volatile.Clock,.bool x.State.Volatile.Safe,.int .i64 x.State.Volatile.Draws,.sl 8 (Q0 zL.pv x.State.Volatile.Sessions),.sl 9 (Q0 zX.pv x.State.Volatile.Objects),.sl 1 (Q0 (PV.int .i64) x.State.Volatile.ReadLocks),.sl 1 (Q0 (PV.int .i64) x.State.Volatile.WriteLocks),.bool x.On,.int .i64 x.Next]
def zB.pv (x:zB):PV:=.agg x.cs
abbrev zB.av (x:zB) (r:List AV):List AV:=qL 1 PV.bytes x.Disk.Areas :: qI x.Disk.Writes :: qI x.Disk.CutAt :: qI x.Disk.Torn :: qB x.Disk.Off :: qL 1 PV.bytes x.State.Stable.Seeds :: qL 1 PV.bytes x.State.Stable.Auths :: qY x.State.Stable.Entropy :: qI x.State.Stable.Active :: qI x.State.Stable.Resets :: qI x.State.Stable.Restarts :: qI x.State.Stable.Clock :: qB x.State.Stable.Orderly :: qL 1 (eSl 1 PV.bytes) x.State.Stable.Saved.Banks :: qI x.State.Stable.Saved.Updates :: qI x.State.Stable.MaxCounter :: qL 8 zJ.pv x.State.Stable.Indices :: qI x.State.Stable.Lockout.Failed :: qI x.State.Stable.Lockout.Max :: qI x.State.Stable.Lockout.Recovery :: qI x.State.Stable.Lockout.Since :: qI x.State.Stable.Lockout.Closed :: qI x.State.Stable.Lockout.Penalty :: qL 2 xG.pv x.State.Stable.Keys :: qB x.State.Volatile.Started :: qB x.State.Volatile.Stopped :: qL 1 (eSl 1 PV.bytes) x.State.Volatile.Registers.Banks :: qI x.State.Volatile.Registers.Updates :: qI x.State.Volatile.Clock :: qB x.State.Volatile.Safe :: qI x.State.Volatile.Draws :: qL 8 zL.pv x.State.Volatile.Sessions :: qL 9 zX.pv x.State.Volatile.Objects :: qL 1 (PV.int .i64) x.State.Volatile.ReadLocks :: qL 1 (PV.int .i64) x.State.Volatile.WriteLocks :: qB x.On :: qI x.Next :: r
theorem zB.gl {x:zB} {O:GO} {s:AS} {ρ:Nat->Nat} {D:List Nat} {vs us:List AV} {bs:LB} (k:GVs O s ρ D vs us bs):GVs O s ρ D (zB.av x vs) (zB.av x us) bs:=by
 unfold zB.av;repeat (first | exact k | refine glp (b:=[]) rfl ?_)
structure kX where
 Number:Int
 Public:zQ
 Private:By
 Branches:List By
 deriving DecidableEq,Inhabited
def kX.cs (x:kX):List PV:=[.int .i64 x.Number,.int .i64 x.Public.Kind,.int .i64 x.Public.Attr,.int .i64 x.Public.Height,.bytes x.Public.Policy,.bytes x.Public.Unique,.bytes x.Private,.sl 1 (Q0 PV.bytes x.Branches)]
def kX.pv (x:kX):PV:=.agg x.cs
structure zF where
 ID:Int
 Device:zB
 Up:Bool
 Bound:List kX
 deriving DecidableEq,Inhabited
def zF.cs (x:zF):List PV:=[.int .i64 x.ID,.sl 1 (Q0 PV.bytes x.Device.Disk.Areas),.int .i64 x.Device.Disk.Writes,.int .i64 x.Device.Disk.CutAt,.int .i64 x.Device.Disk.Torn,.bool x.Device.Disk.Off,.sl 1 (Q0 PV.bytes x.Device.State.Stable.Seeds),.sl 1 (Q0 PV.bytes x.Device.State.Stable.Auths),.bytes x.Device.State.Stable.Entropy,.int .i64 x.Device.State.Stable.Active,.int .i64 x.Device.State.Stable.Resets,.int .i64 x.Device.State.Stable.Restarts,.int .i64 x.Device.State.Stable.Clock,.bool x.Device.State.Stable.Orderly,.sl 1 (Q0 (eSl 1 PV.bytes) x.Device.State.Stable.Saved.Banks),.int .i64 x.Device.State.Stable.Saved.Updates,.int .i64 x.Device.State.Stable.MaxCounter,.sl 8 (Q0 zJ.pv x.Device.State.Stable.Indices),.int .i64 x.Device.State.Stable.Lockout.Failed,.int .i64 x.Device.State.Stable.Lockout.Max,.int .i64 x.Device.State.Stable.Lockout.Recovery,.int .i64 x.Device.State.Stable.Lockout.Since,.int .i64 x.Device.State.Stable.Lockout.Closed,.int .i64 x.Device.State.Stable.Lockout.Penalty,.sl 2 (Q0 xG.pv x.Device.State.Stable.Keys),.bool x.Device.State.Volatile.Started,.bool x.Device.State.Volatile.Stopped,.sl 1 (Q0 (eSl 1 PV.bytes) x.Device.State.Volatile.Registers.Banks),.int .i64 x.Device.State.Volatile.Registers.Updates,.int .i64 x.Device.State.Volatile.Clock,.bool x.Device.State.Volatile.Safe,.int .i64 x.Device.State.Volatile.Draws,.sl 8 (Q0 zL.pv x.Device.State.Volatile.Sessions),.sl 9 (Q0 zX.pv x.Device.State.Volatile.Objects),.sl 1 (Q0 (PV.int .i64) x.Device.State.Volatile.ReadLocks),.sl 1 (Q0 (PV.int .i64) x.Device.State.Volatile.WriteLocks),.bool x.Device.On,.int .i64 x.Device.Next,.bool x.Up,.sl 8 (Q0 kX.pv x.Bound)]
def zF.pv (x:zF):PV:=.agg x.cs
abbrev zF.av (x:zF) (r:List AV):List AV:=qI x.ID :: qL 1 PV.bytes x.Device.Disk.Areas :: qI x.Device.Disk.Writes :: qI x.Device.Disk.CutAt :: qI x.Device.Disk.Torn :: qB x.Device.Disk.Off :: qL 1 PV.bytes x.Device.State.Stable.Seeds :: qL 1 PV.bytes x.Device.State.Stable.Auths :: qY x.Device.State.Stable.Entropy :: qI x.Device.State.Stable.Active :: qI x.Device.State.Stable.Resets :: qI x.Device.State.Stable.Restarts :: qI x.Device.State.Stable.Clock :: qB x.Device.State.Stable.Orderly :: qL 1 (eSl 1 PV.bytes) x.Device.State.Stable.Saved.Banks :: qI x.Device.State.Stable.Saved.Updates :: qI x.Device.State.Stable.MaxCounter :: qL 8 zJ.pv x.Device.State.Stable.Indices :: qI x.Device.State.Stable.Lockout.Failed :: qI x.Device.State.Stable.Lockout.Max :: qI x.Device.State.Stable.Lockout.Recovery :: qI x.Device.State.Stable.Lockout.Since :: qI x.Device.State.Stable.Lockout.Closed :: qI x.Device.State.Stable.Lockout.Penalty :: qL 2 xG.pv x.Device.State.Stable.Keys :: qB x.Device.State.Volatile.Started :: qB x.Device.State.Volatile.Stopped :: qL 1 (eSl 1 PV.bytes) x.Device.State.Volatile.Registers.Banks :: qI x.Device.State.Volatile.Registers.Updates :: qI x.Device.State.Volatile.Clock :: qB x.Device.State.Volatile.Safe :: qI x.Device.State.Volatile.Draws :: qL 8 zL.pv x.Device.State.Volatile.Sessions :: qL 9 zX.pv x.Device.State.Volatile.Objects :: qL 1 (PV.int .i64) x.Device.State.Volatile.ReadLocks :: qL 1 (PV.int .i64) x.Device.State.Volatile.WriteLocks :: qB x.Device.On :: qI x.Device.Next :: qB x.Up :: qL 8 kX.pv x.Bound :: r
theorem zF.gl {x:zF} {O:GO} {s:AS} {ρ:Nat->Nat} {D:List Nat} {vs us:List AV} {bs:LB} (k:GVs O s ρ D vs us bs):GVs O s ρ D (zF.av x vs) (zF.av x us) bs:=by
 unfold zF.av;repeat (first | exact k | refine glp (b:=[]) rfl ?_)
structure yU where
 Machine:Int
 Active:Int
 Quoting:List zQ
 Parent:yA
 Parents:zQ
 deriving DecidableEq,Inhabited
def yU.cs (x:yU):List PV:=[.int .i64 x.Machine,.int .i64 x.Active,.sl 5 (Q0 zQ.pv x.Quoting),.bytes x.Parent.Auth,.bytes x.Parent.Seed,.bytes x.Parent.Data,.int .i64 x.Parents.Kind,.int .i64 x.Parents.Attr,.int .i64 x.Parents.Height,.bytes x.Parents.Policy,.bytes x.Parents.Unique]
def yU.pv (x:yU):PV:=.agg x.cs
structure zD where
 Role:Int
 Name:By
 Version:Int
 Payload:By
 deriving DecidableEq,Inhabited
def zD.cs (x:zD):List PV:=[.int .i64 x.Role,.str x.Name,.int .i64 x.Version,.bytes x.Payload]
def zD.pv (x:zD):PV:=.agg x.cs
structure zH where
 Kind:Int
 Selection:A2 Int
 Digest:By
 N:Int
 Op:Int
 Operand:By
 Name:By
 Ref:By
 Branches:List By
 deriving DecidableEq,Inhabited
def zH.cs (x:zH):List PV:=[.int .i64 x.Kind,.int .i64 x.Selection.a0,.int .i64 x.Selection.a1,.bytes x.Digest,.int .i64 x.N,.int .i64 x.Op,.bytes x.Operand,.bytes x.Name,.bytes x.Ref,.sl 1 (Q0 PV.bytes x.Branches)]
def zH.pv (x:zH):PV:=.agg x.cs
structure zLi where
 Device:zB
 opened_:List Int
 deriving DecidableEq,Inhabited
structure yO where
 Epoch:Int
 Chains:List (List zD)
 Public:zQ
 Private:By
 deriving DecidableEq,Inhabited
def yO.cs (x:yO):List PV:=[.int .i64 x.Epoch,.sl 1 (Q0 (eSl 4 zD.pv) x.Chains),.int .i64 x.Public.Kind,.int .i64 x.Public.Attr,.int .i64 x.Public.Height,.bytes x.Public.Policy,.bytes x.Public.Unique,.bytes x.Private]
def yO.pv (x:yO):PV:=.agg x.cs
structure zY where
 B:By
 At:Int
 deriving DecidableEq,Inhabited
def zY.cs (x:zY):List PV:=[.bytes x.B,.int .i64 x.At]
structure zI where
 Err:Int
 Ints:List Int
 Blobs:List By
 Nonces:List By
 deriving DecidableEq,Inhabited
def zI.cs (x:zI):List PV:=[.int .i64 x.Err,.sl 1 (Q0 (PV.int .i64) x.Ints),.sl 1 (Q0 PV.bytes x.Blobs),.sl 1 (Q0 PV.bytes x.Nonces)]
def zI.pv (x:zI):PV:=.agg x.cs
structure zO where
 Session:Int
 Nonce:By
 Value:By
 deriving DecidableEq,Inhabited
def zO.cs (x:zO):List PV:=[.int .i64 x.Session,.bytes x.Nonce,.bytes x.Value]
def zO.pv (x:zO):PV:=.agg x.cs
structure zK where
 Code:Int
 Handles:List Int
 Auths:List zO
 Ints:List Int
 Blobs:List By
 deriving DecidableEq,Inhabited
def zK.cs (x:zK):List PV:=[.int .i64 x.Code,.sl 1 (Q0 (PV.int .i64) x.Handles),.sl 3 (Q0 zO.pv x.Auths),.sl 1 (Q0 (PV.int .i64) x.Ints),.sl 1 (Q0 PV.bytes x.Blobs)]
def zK.pv (x:zK):PV:=.agg x.cs
structure zG where
 Register:Int
 Kind:Int
 Digests:List By
 Data:By
 deriving DecidableEq,Inhabited
def zG.cs (x:zG):List PV:=[.int .i64 x.Register,.int .i64 x.Kind,.sl 1 (Q0 PV.bytes x.Digests),.bytes x.Data]
def zG.pv (x:zG):PV:=.agg x.cs
structure zR where
 b_:By
 at_:Int
 e_:Int
 deriving DecidableEq,Inhabited
def zR.cs (x:zR):List PV:=[.bytes x.b_,.int .i64 x.at_,.int .i64 x.e_]
structure sK where
 Active:Int
 Resets:Int
 Events:List zG
 deriving DecidableEq,Inhabited
def sK.cs (x:sK):List PV:=[.int .i64 x.Active,.int .i64 x.Resets,.sl 4 (Q0 zG.pv x.Events)]
def sK.pv (x:sK):PV:=.agg x.cs
structure lD where
 code_:Int
 handles_:Int
 auths_:Int
 ints_:Int
 blobs_:Int
 deriving DecidableEq,Inhabited
def lD.cs (x:lD):List PV:=[.int .i64 x.code_,.int .i64 x.handles_,.int .i64 x.auths_,.int .i64 x.ints_,.int .i64 x.blobs_]
structure yR where
 s_:zE
 q_:zK
 a_:zO
 handle_:Int
 deriving DecidableEq,Inhabited
def yR.cs (x:yR):List PV:=[.sl 1 (Q0 PV.bytes x.s_.Stable.Seeds),.sl 1 (Q0 PV.bytes x.s_.Stable.Auths),.bytes x.s_.Stable.Entropy,.int .i64 x.s_.Stable.Active,.int .i64 x.s_.Stable.Resets,.int .i64 x.s_.Stable.Restarts,.int .i64 x.s_.Stable.Clock,.bool x.s_.Stable.Orderly,.sl 1 (Q0 (eSl 1 PV.bytes) x.s_.Stable.Saved.Banks),.int .i64 x.s_.Stable.Saved.Updates,.int .i64 x.s_.Stable.MaxCounter,.sl 8 (Q0 zJ.pv x.s_.Stable.Indices),.int .i64 x.s_.Stable.Lockout.Failed,.int .i64 x.s_.Stable.Lockout.Max,.int .i64 x.s_.Stable.Lockout.Recovery,.int .i64 x.s_.Stable.Lockout.Since,.int .i64 x.s_.Stable.Lockout.Closed,.int .i64 x.s_.Stable.Lockout.Penalty,.sl 2 (Q0 xG.pv x.s_.Stable.Keys),.bool x.s_.Volatile.Started,.bool x.s_.Volatile.Stopped,.sl 1 (Q0 (eSl 1 PV.bytes) x.s_.Volatile.Registers.Banks),.int .i64 x.s_.Volatile.Registers.Updates,.int .i64 x.s_.Volatile.Clock,.bool x.s_.Volatile.Safe,.int .i64 x.s_.Volatile.Draws,.sl 8 (Q0 zL.pv x.s_.Volatile.Sessions),.sl 9 (Q0 zX.pv x.s_.Volatile.Objects),.sl 1 (Q0 (PV.int .i64) x.s_.Volatile.ReadLocks),.sl 1 (Q0 (PV.int .i64) x.s_.Volatile.WriteLocks),.int .i64 x.q_.Code,.sl 1 (Q0 (PV.int .i64) x.q_.Handles),.sl 3 (Q0 zO.pv x.q_.Auths),.sl 1 (Q0 (PV.int .i64) x.q_.Ints),.sl 1 (Q0 PV.bytes x.q_.Blobs),.int .i64 x.a_.Session,.bytes x.a_.Nonce,.bytes x.a_.Value,.int .i64 x.handle_]
def yR.pv (x:yR):PV:=.agg x.cs
structure vC where
 name_:By
 value_:By
 policy_:By
 protected_:Bool
 deriving DecidableEq,Inhabited
def vC.cs (x:vC):List PV:=[.bytes x.name_,.bytes x.value_,.bytes x.policy_,.bool x.protected_]
def vC.pv (x:vC):PV:=.agg x.cs
def RF:Nat:=64
def nameByte (c:UInt8):Bool:=(decide (97<=c.toNat)&&decide (c.toNat<=122))||(decide (48<=c.toNat)&&decide (c.toNat<=57))||decide (c.toNat=45)
def zBw (s:By):Option Bool:=some (decide (1<=s.length)&&decide (s.length<=12)&&s.all nameByte)
def aZ (b:By) (n:Int):Option By:=
 match b with
 | [x]=>bif (n==20||n==32) then some (Q7 n.toNat x) else none
 | _=>none
def bytes_Clone (b:By):Option By:=bif Nat.ble b.length 140737488355328 then some b else none
def decF:Nat->Nat->By
 | 0,_=>[]
 | f+1,u=>bif Nat.blt u 10 then [Q2 (48+u)] else decF f (u / 10)++[Q2 (48+u % 10)]
def strconv_Itoa (n:Int):Option By:=bif decide (0<=n)&&decide (n<=9223372036854775807) then some (decF 20 n.toNat) else none
def slices_Clone (b:Nat) (l:List α):Option (List α):=bif Nat.ble (l.length*b) 140737488355328 then some l else none
def slices_DeleteFuncI (l:List Int) (h:Int):Option (List Int):=bif Nat.ble l.length 140737488355328 then some (l.filter λx=>!(x==h)) else none
def fN (n:Nat) (k:Nat->α):α:=Nat.rec (motive:=λ_=>α) (k 0) (λm _=>k (Nat.succ m)) n
theorem zHm (n:Nat) (k:Nat->α):fN n k=k n:=by cases n<;>rfl
def fL:By->(By->α)->α
 | [],k=>k []
 | a :: l,k=>fN a.toNat λn=>fL l λl=>k (Q2 n :: l)
theorem yDl (l:By):∀ k:By->α,fL l k=k l:=by
 induction l with
 | nil=>exact λ_=>rfl
 | cons a l ih=>
  intro k;show fN a.toNat (λn=>fL l λl=>k (Q2 n :: l))=_;rw [zHm,ih,UInt8.ofNat_toNat]
def beK (n:Nat):Nat->By
 | 0=>[]
 | k+1=>fN (Q3 (Q1 n (Nat.mul 8 k)) 256) λz=>Q2 z :: beK n k
def rn (x r s:Nat):Nat:=Q9 (Q1 x r) (Q3 (Q6 x s) 4294967296)
def S1n (e:Nat):Nat:=Q5 (Q5 (rn e 6 26) (rn e 11 21)) (rn e 25 7)
def S0n (e:Nat):Nat:=Q5 (Q5 (rn e 2 30) (rn e 13 19)) (rn e 22 10)
def s0n (e:Nat):Nat:=Q5 (Q5 (rn e 7 25) (rn e 18 14)) (Q1 e 3)
def s1n (e:Nat):Nat:=Q5 (Q5 (rn e 17 15) (rn e 19 13)) (Q1 e 10)
def goK (fin:Nat->Nat->Nat->Nat->Nat->Nat->Nat->Nat->R):List Nat->Nat->Nat->Nat->Nat->Nat->Nat->Nat->Nat->Nat->Nat->Nat->Nat->Nat->Nat->Nat->Nat->Nat->Nat->Nat->Nat->Nat->Nat->Nat->Nat->R
 | []=>λ_ _ _ _ _ _ _ _ _ _ _ _ _ _ _ _ a b c d e f g h=>fin a b c d e f g h
 | k :: ks=>λw0 w1 w2 w3 w4 w5 w6 w7 w8 w9 w10 w11 w12 w13 w14 w15 a b c d e f g h=>
  fN (Q4 (Q4 (Q4 (Q4 h (S1n e)) (Q5 (Q8 e f) (Q8 (Q5 4294967295 e) g))) k) w0) λt1=>
  fN (Q3 (Q4 t1 (Q4 (S0n a) (Q5 (Q5 (Q8 a b) (Q8 a c)) (Q8 b c)))) 4294967296) λa'=>
  fN (Q3 (Q4 d t1) 4294967296) λe'=>
  fN (Q3 (Q4 (Q4 (Q4 (s1n w14) w9) (s0n w1)) w0) 4294967296) λw16=>
  goK fin ks w1 w2 w3 w4 w5 w6 w7 w8 w9 w10 w11 w12 w13 w14 w15 w16 a' a b c e' e f g
def ksN:List Nat:=wA.map Int.toNat
def rd4 (l:By) (k:Nat->By->R) (d:R):R:=match l with
 | a :: b :: c :: e :: r=>fN (Q9 (Q9 (Q9 (Q6 a.toNat 24) (Q6 b.toNat 16)) (Q6 c.toNat 8)) e.toNat) λn=>k n r
 | _=>d
def zS3 (l:By) (k:Nat->Nat->Nat->Nat->Nat->Nat->Nat->Nat->Nat->Nat->Nat->Nat->Nat->Nat->Nat->Nat ->  By->R) (d:R):R:=
 rd4 l (λw0 l=>rd4 l (λw1 l=>rd4 l (λw2 l=>rd4 l (λw3 l=>rd4 l (λw4 l=>rd4 l (λw5 l=>rd4 l (λw6 l=>rd4 l (λw7 l=>rd4 l (λw8 l=>rd4 l (λw9 l=>rd4 l (λw10 l=>rd4 l (λw11 l=>rd4 l (λw12 l=>rd4 l (λw13 l=>rd4 l (λw14 l=>rd4 l (λw15 l=>k w0 w1 w2 w3 w4 w5 w6 w7 w8 w9 w10 w11 w12 w13 w14 w15 l) d) d) d) d) d) d) d) d) d) d) d) d) d) d) d) d
def yDz (a b c d e f g h:Nat):By:=
 fN (Q3 (Q1 a 24) 256) λza24=>Q2 za24 :: fN (Q3 (Q1 a 16) 256) λza16=>Q2 za16 :: fN (Q3 (Q1 a 8) 256) λza8=>Q2 za8 :: fN (Q3 (Q1 a 0) 256) λza0=>Q2 za0 :: fN (Q3 (Q1 b 24) 256) λzb24=>Q2 zb24 :: fN (Q3 (Q1 b 16) 256) λzb16=>Q2 zb16 :: fN (Q3 (Q1 b 8) 256) λzb8=>Q2 zb8 :: fN (Q3 (Q1 b 0) 256) λzb0=>Q2 zb0 :: fN (Q3 (Q1 c 24) 256) λzc24=>Q2 zc24 :: fN (Q3 (Q1 c 16) 256) λzc16=>Q2 zc16 :: fN (Q3 (Q1 c 8) 256) λzc8=>Q2 zc8 :: fN (Q3 (Q1 c 0) 256) λzc0=>Q2 zc0 :: fN (Q3 (Q1 d 24) 256) λzd24=>Q2 zd24 :: fN (Q3 (Q1 d 16) 256) λzd16=>Q2 zd16 :: fN (Q3 (Q1 d 8) 256) λzd8=>Q2 zd8 :: fN (Q3 (Q1 d 0) 256) λzd0=>Q2 zd0 :: fN (Q3 (Q1 e 24) 256) λze24=>Q2 ze24 :: fN (Q3 (Q1 e 16) 256) λze16=>Q2 ze16 :: fN (Q3 (Q1 e 8) 256) λze8=>Q2 ze8 :: fN (Q3 (Q1 e 0) 256) λze0=>Q2 ze0 :: fN (Q3 (Q1 f 24) 256) λzf24=>Q2 zf24 :: fN (Q3 (Q1 f 16) 256) λzf16=>Q2 zf16 :: fN (Q3 (Q1 f 8) 256) λzf8=>Q2 zf8 :: fN (Q3 (Q1 f 0) 256) λzf0=>Q2 zf0 :: fN (Q3 (Q1 g 24) 256) λzg24=>Q2 zg24 :: fN (Q3 (Q1 g 16) 256) λzg16=>Q2 zg16 :: fN (Q3 (Q1 g 8) 256) λzg8=>Q2 zg8 :: fN (Q3 (Q1 g 0) 256) λzg0=>Q2 zg0 :: fN (Q3 (Q1 h 24) 256) λzh24=>Q2 zh24 :: fN (Q3 (Q1 h 16) 256) λzh16=>Q2 zh16 :: fN (Q3 (Q1 h 8) 256) λzh8=>Q2 zh8 :: fN (Q3 (Q1 h 0) 256) λzh0=>Q2 zh0 :: []
def zMg:Nat->By->Nat->Nat->Nat->Nat->Nat->Nat->Nat->Nat->By
 | 0,_,a,b,c,d,e,f,g,h=>yDz a b c d e f g h
 | n+1,l,a,b,c,d,e,f,g,h=>zS3 l (λw0 w1 w2 w3 w4 w5 w6 w7 w8 w9 w10 w11 w12 w13 w14 w15 r=>goK (λa' b' c' d' e' f' g' h'=>fN (Q3 (Q4 a a') 4294967296) λa=>fN (Q3 (Q4 b b') 4294967296) λb=>fN (Q3 (Q4 c c') 4294967296) λc=>fN (Q3 (Q4 d d') 4294967296) λd=>fN (Q3 (Q4 e e') 4294967296) λe=>fN (Q3 (Q4 f f') 4294967296) λf=>fN (Q3 (Q4 g g') 4294967296) λg=>fN (Q3 (Q4 h h') 4294967296) λh=>zMg n r a b c d e f g h) ksN w0 w1 w2 w3 w4 w5 w6 w7 w8 w9 w10 w11 w12 w13 w14 w15 a b c d e f g h) []
def padK (b:By):By:=(b++[128]++Q7 ((119 - b.length % 64) % 64) 0)++(List.range 8).map λ(j:Nat)=>u8 (xT .u64 (IntKind.u64.wrap (IntKind.u64.wrap (b.length:Int)*8)) (56 - 8*(j:Int)))
def zP1 (b:By):By:=zMg ((padK b).length / 64) (padK b) 1779033703 3144134277 1013904242 2773480762 1359893119 2600822924 528734635 1541459225
def frmK (tag:Int) (fs:List By):By:=u8 tag :: fs.flatMap λf=>[u8 (xT .i64 (f.length:Int) 24),u8 (xT .i64 (f.length:Int) 16),u8 (xT .i64 (f.length:Int) 8),u8 (f.length:Int)]++f
def mkK (w:Nat) (c:By):By:=(c++Q7 (64 - c.length) 0).map λ(x:UInt8)=>Q2 (Q5 x.toNat w)
def LS1:By:=[92,227,226,216,161,64,43,41,253,145,77,45,171,44,46,118,233,154,170,45,56,63,199,182,146,254,95,40,133,107,57,163]
def PS1:List By:=[[128,29,215,100,247,121,121,59,138,26,167,57,93,164,133,76],[115,206,125,243,254,162,229,39,38,202,143,7,52,55,145,0],[68,247,239,96,76,132,240,233,32,65,114,1,184,34,143,10],[40,87,16,192,119,64,152,7,138,34,17,190,98,73,144,74]]
def LS2:By:=[37,166,53,14,71,82,30,201,222,179,75,125,93,168,246,136,105,37,117,209,70,103,50,91,1,122,99,186,246,27,29,72]
def PS2:List By:=[[180,145,145,4,253,100,223,236,20,45,143,45,67,126,242,136],[202,226,100,91,20,211,130,46,222,74,88,201,95,98,58,26],[227,45,21,83,190,234,20,124,185,213,126,6,149,127,155,70],[71,246,35,64,148,149,210,208,51,153,77,103,85,33,61,68]]
def LS3:By:=[88,143,249,34,85,105,6,31,56,185,4,147,226,53,140,130,149,166,10,92,248,217,164,33,87,182,215,73,62,247,3,59]
def PS3:List By:=[[83,199,42,46,138,134,253,80,140,49,113,224,21,152,72,218],[127,182,182,53,27,146,4,13,226,54,51,118,223,5,75,246],[189,14,50,8,58,157,128,71,135,61,21,171,109,99,38,165],[52,21,49,131,77,210,38,162,246,178,144,29,233,240,241,181]]
def yEt (seed:By) (leaf:Int):Option By:=bif seed==LS1 then idx PS1 leaf else bif seed==LS2 then idx PS2 leaf else bif seed==LS3 then idx PS3 leaf else none
end Go.Proofs.TT
