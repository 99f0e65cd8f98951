/- UpdatePolicy holds for all inputs -/
import Derived.Test.YtlipjldhnmcbiaaGreatDoorCZ8
import Derived.Test.YtlipjldhnmcbiaaGreatDoorCZ9
set_option linter.all false
namespace Go.Sw
open Go
variable {α:Type}
abbrev bB0 (k:Nat) (l:By):Nat×ABlk:=(k,.buf (.bytes l))
abbrev oM0 (k:Nat) (l:List By):Nat×ABlk:=(k,qO (.sl 1 (l.map PV.bytes)))
abbrev bM0 (k w:Nat) (f:α->PV) (l:List α):Nat×ABlk:=(k,.buf (.sl w (l.map f)))
abbrev sB0 (k b:Nat) (l:List α):Nat×AV:=(k,.buf b l.length)
abbrev sO0 (k b:Nat) (l:List α):Nat×AV:=(k,.own b l.length)
abbrev qV0 (x:Int):AV:=.p (.int .u32 x)
abbrev nS0 (w:Nat):AV:=.nl (.sl w [])
theorem zz0:(∀ (s:AS) (r:Nat->Nat),gB s r []=[]/\∀ t b l,gB s r ((t,b)::l)=s.blk (r t)::gB s r l)/\(∀ r:ABlk->ABlk,vB r []=[]/\∀ t b l,vB r ((t,b)::l)=some (r b)::vB r l)/\(∀ r:Nat->Nat,bR r []=[]/\∀ t b l,bR r ((t,b)::l)=(r t,b.ren r)::bR r l)/\(∀ (r:Nat->Nat) l,ABlk.ren r (.var l)=.var (kG r l))/\(∀ (r:Nat->Nat) c,ABlk.ren r (.buf c)=.buf c)/\(∀ (r:Nat->Nat) w l,ABlk.ren r (.own w l)=.own w (kG r l))/\∀ (r:Nat->Nat) {α:Type} (f:α->PV) (l:List α),kG r (l.map λx=>AV.p (f x))=l.map λx=>AV.p (f x):=⟨λ_ _=>⟨rfl,λ_ _ _=>rfl⟩,λ_=>⟨rfl,λ_ _ _=>rfl⟩,λ_=>⟨rfl,λ_ _ _=>rfl⟩,λ_ _=>rfl,λ_ _=>rfl,λ_ _ _=>rfl,λ_ _ _ _=>zXo⟩
end Go.Sw
namespace Go.Proofs.Tryz.S
open Go Go.Sw
abbrev Ci {α:Type} (m:Option α) (f:FuncId) (ps:List PV) (o:α->AV×LB):Prop:=Ct Tryz.prog m f ps o
end Go.Proofs.Tryz.S
