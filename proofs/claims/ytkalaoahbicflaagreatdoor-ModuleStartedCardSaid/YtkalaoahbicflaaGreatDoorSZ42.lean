/- ModuleStarted holds for all inputs -/
import Derived.Test.YtkalaoahbicflaaGreatDoorSZ39
import Derived.Test.YtkalaoahbicflaaGreatDoorSZ40
import Derived.Test.YtkalaoahbicflaaGreatDoorCards
import Derived.Test.YtkalaoahbicflaaGreatDoorTie
import Derived.LaidMore
import Derived.Lay
import Derived.SevenTiedAt
import Derived.Stop.Joined
import Derived.Test.YtkalaoahbicflaaGreatDoorSZ41
set_option linter.all false
set_option maxRecDepth 100000
namespace Go.Proofs.TQ
open Go Go.Sw Go.Proofs Go.ChangeShapes Go.WideShapes Go.RowKit Go.ChangeAt
open Go.Proofs.YtkalaoahbicflaaGreatDoor
theorem ownB:ownKnob Tryz.prog.godebug=none:=by kernel_rfl
def witB:Array Value:=#[.int .i64 0,.slice none 0 0,.slice none 0 0,.int .i64 0,.int .i64 0,.int .i64 0,.bool false]
theorem yFr (hok:OkB) (os:Os) (started:os.Started) (H:Type) (enc:TypeId×Value->H) :
  ReturnsInHanded {} Tryz.checked os 4 .any (λw args=>(Rows.moduleStartedSpec.pre enc Tryz.prog Tryz.f4 [] false w args/\laidMetH Tryz.prog Rows.moduleStartedRow.laid w)/\sizedMet enc Tryz.prog Tryz.f4 (OpenSpec.ofChange Rows.moduleStartedSpec) false w args)
   (Rows.moduleStartedSpec.post enc Tryz.prog Tryz.f4 false true false false):=by
 refine returnsInHanded_of_change_and (C:=Tryz.checked) (X:=λw _=>laidMetH Tryz.prog Rows.moduleStartedRow.laid w) (λ_ _ _ hh h=>h.of_heap hh) ownB started (by kernel_rfl) Tryz.func4
  (ChangeSpec.witness_shaped (enc:=enc) (C:=Tryz.checked) (os:=os) (X:=λw _=>laidMetH Tryz.prog Rows.moduleStartedRow.laid w) false (World.laidAll Tryz.prog os Rows.moduleStartedRow.laid) witB 8 (World.laidAll_os _ _ _)
   (World.shaped_of_ZipB (by kernel_rfl) (by kernel_rfl)) (by kernel_rfl) (by kernel_rfl) (by kernel_rfl)
   (by rw [MakeChecks.laidMetH_plain _ _ _ (by kernel_rfl)];exact laidMet_laidAll _ (by kernel_rfl) (by kernel_rfl))) ?_
 intro W base args ds gs before hval hW _ _ hL _;exact zUe hok H enc W base args ds gs before hval hW hL
theorem yKz (hok:OkB):Rows.ModuleStartedSaid:=
 OpenClaim.holds_of_wide 4 Tryz.f4 rfl rfl rfl rfl rfl rfl rfl ⟨rfl,rfl,rfl,rfl,rfl⟩ rfl rfl rfl rfl rfl (by as_aux_lemma=>kernel_rfl) Tryz.func4 yE6
  (of_decide_eq_true (by kernel_rfl)) (by unfold Func.isWrapper;first | (rw [if_pos (by decide +kernel)];kernel_rfl) | (rw [if_neg (by decide +kernel)];exact ⟨rfl,rfl⟩))
  (λos started H enc _=>yFr hok os started H enc)
theorem yJg (f:FuncId) (fn:Func) (hf:Tryz.pinned.checked.prog.funcNamed "sealwright/sealwrightlaw23.ModuleStarted" = some f) (hfn:Tryz.pinned.checked.prog.funcs[f]? = some fn) :
  false=Tryz.pinned.checked.prog.looks []/\∀ (j:Nat) t,fn.params[j]? = some t->Tryz.pinned.checked.prog.wantsStandIn t=false:=by
 obtain rfl:f=4:=Option.some.inj ((show Tryz.prog.funcNamed "sealwright/sealwrightlaw23.ModuleStarted" = some 4 by kernel_rfl).symm.trans hf) |>.symm;obtain rfl:fn=Tryz.f4:=(Option.some.inj (Tryz.func4.symm.trans hfn)).symm;refine ⟨by kernel_rfl,λj t ht=>?_⟩;rw [Tryz.params4] at ht;have hm:t∈[3,22,22,3,3,3,4]:=by simpa using Array.mem_of_getElem? ht
 have hall:([3,22,22,3,3,3,4].all λu=>!Tryz.prog.wantsStandIn u)=true:=by kernel_rfl
 have:=List.all_eq_true.1 hall t hm;show Tryz.prog.wantsStandIn t=false;simpa using this
theorem cardB (hok:OkB):Rows.ModuleStartedCardSaid:=
 Claim7.holds_tied_plain_at .later [] _ _ _ _ (yKz hok) (λ_ h=>by cases h) (by kernel_rfl) (λ_ h=>by cases h) moduleStarted_row_tie rfl ⟨rfl,rfl⟩ (by kernel_rfl) rfl yJg (zK9 _ rfl)
end Go.Proofs.TQ
