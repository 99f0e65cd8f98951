/- A part. -/
import Derived.Test.YtkalaoahbicflaaGreatDoorCZ38
import Derived.Test.YtkalaoahbicflaaGreatDoorCZ39
import Derived.Test.YtkalaoahbicflaaGreatDoorCards
import Derived.Test.YtkalaoahbicflaaGreatDoorTie
import Derived.LaidMore
import Derived.Lay
import Derived.SevenTiedAt
import Derived.Stop.Joined
import Derived.Test.YtkalaoahbicflaaGreatDoorCZ40
set_option linter.all false
set_option maxRecDepth 100000
namespace Go.Proofs.TQ
open Go Go.Sw Go.Proofs Go.ChangeShapes Go.WideShapes Go.RowKit Go.ChangeAt
open Go.Proofs.YtkalaoahbicflaaGreatDoor
def own:ownKnob Tryz.prog.godebug=none:=by kernel_rfl
def wit:Array Value:=#[.slice none 0 0,.slice none 0 0]
def yMn (hok:OkA) (os:Os) (started:os.Started) (H:Type) (enc:TypeId×Value->H) :
  ReturnsInHanded {} Tryz.checked os 3 .any (λw args=>(Rows.moduleCountersSpec.pre enc Tryz.prog Tryz.f3 [] false w args/\laidMetH Tryz.prog Rows.moduleCountersRow.laid w)/\sizedMet enc Tryz.prog Tryz.f3 (OpenSpec.ofChange Rows.moduleCountersSpec) false w args)
   (Rows.moduleCountersSpec.post enc Tryz.prog Tryz.f3 false true false false):=by
 refine returnsInHanded_of_change_and (C:=Tryz.checked) (X:=λw _=>laidMetH Tryz.prog Rows.moduleCountersRow.laid w) (λ_ _ _ hh h=>h.of_heap hh) own started jo Tryz.func3
  (ChangeSpec.witness_shaped (enc:=enc) (C:=Tryz.checked) (os:=os) (X:=λw _=>laidMetH Tryz.prog Rows.moduleCountersRow.laid w) false (World.laidAll Tryz.prog os Rows.moduleCountersRow.laid) wit 8 (World.laidAll_os _ _ _)
   (World.shaped_of_ZipB jo jo) jo jo jo
   (by rw [MakeChecks.laidMetH_plain _ _ _ jo];exact laidMet_laidAll _ jo jo)) ?_
 intro W base args ds gs before hval hW _ _ hL _;exact zXv hok H enc W base args ds gs before hval hW hL
def said (hok:OkA):Rows.ModuleCountersSaid:=
 OpenClaim.holds_of_wide 3 Tryz.f3 rfl rfl rfl rfl rfl rfl rfl ⟨rfl,rfl,rfl,rfl,rfl⟩ rfl rfl rfl rfl rfl (by as_aux_lemma=>kernel_rfl) Tryz.func3 yG9
  (of_decide_eq_true jo) (by unfold Func.isWrapper;first | (rw [if_pos jn];kernel_rfl) | (rw [if_neg jn];exact ⟨rfl,rfl⟩))
  (λos started H enc _=>yMn hok os started H enc)
def plain (f:FuncId) (fn:Func) (hf:Tryz.pinned.checked.prog.funcNamed "sealwright/sealwrightlaw23.ModuleCounters" = some f) (hfn:Tryz.pinned.checked.prog.funcs[f]? = some fn) :
  false=Tryz.pinned.checked.prog.looks []/\∀ (j:Nat) t,fn.params[j]? = some t->Tryz.pinned.checked.prog.wantsStandIn t=false:=by
 obtain rfl:f=3:=Option.some.inj ((show Tryz.prog.funcNamed "sealwright/sealwrightlaw23.ModuleCounters" = some 3 by kernel_rfl).symm.trans hf) |>.symm;obtain rfl:fn=Tryz.f3:=(Option.some.inj (Tryz.func3.symm.trans hfn)).symm;refine ⟨jo,λj t ht=>?_⟩;rw [Tryz.params3] at ht;have hm:t∈[22,22]:=by simpa using Array.mem_of_getElem? ht
 have hall:([22,22].all λu=>!Tryz.prog.wantsStandIn u)=true:=by kernel_rfl
 have:=List.all_eq_true.1 hall t hm;show Tryz.prog.wantsStandIn t=false;simpa using this
def card (hok:OkA):Rows.ModuleCountersCardSaid:=
 Claim7.holds_tied_plain_at .later [] _ _ _ _ (said hok) (λ_ h=>by cases h) jo (λ_ h=>by cases h) moduleCounters_row_tie rfl ⟨rfl,rfl⟩ jo rfl plain (zK1 _ rfl)
end Go.Proofs.TQ
