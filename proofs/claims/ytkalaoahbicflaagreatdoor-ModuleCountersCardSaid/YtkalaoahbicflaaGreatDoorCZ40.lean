/- A part. -/
import Derived.Test.YtkalaoahbicflaaGreatDoorRows
import GoSem.ClaimGoes
set_option linter.all false
namespace Go.Proofs.TQ
open Go Go.Proofs
def zRo {P:Program} (h:P.funcs.any Func.goes=false) (f:FuncId):P.goes f=false:=by
 unfold Program.goes;rw [h,Bool.and_false,Bool.or_false,List.any_eq_false];intro g _;cases hg:P.funcs[g]? with
 | none=>simp
 | some fn=>
  have:=Array.any_eq_false.1 h g (Array.getElem?_eq_some_iff.1 hg).1;rw [(Array.getElem?_eq_some_iff.1 hg).2] at this;simpa using this
def zVs:Tryz.prog.funcs.any Func.goes=false:=by kernel_rfl
def zK1 (c:OpenClaim) (hs:c.start=.entering):false=c.goesBy Tryz.prog:=by
 unfold OpenClaim.goesBy Program.goesAt Program.goesFrom;rw [hs];cases Tryz.prog.funcNamed c.func with
 | none=>rfl
 | some f=>simp [zRo zVs f]
end Go.Proofs.TQ
