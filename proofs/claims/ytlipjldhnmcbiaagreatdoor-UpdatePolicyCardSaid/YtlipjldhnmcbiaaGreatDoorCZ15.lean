/- UpdatePolicy holds for all inputs -/
import Derived.Test.YtlipjldhnmcbiaaGreatDoorCZ12
import Derived.Test.YtlipjldhnmcbiaaGreatDoorCZ13
import Derived.Test.YtlipjldhnmcbiaaGreatDoorCZ14
set_option linter.all false
namespace Go.Proofs.TT
open Go Go.Sw
set_option maxRecDepth 1000000
theorem lfs1 (l:Int) (v:By) (h:idx PS1 l=some v):yY LS1 l=some v:=by
 have hl:PS1.length=4:=rfl;have h4:l=0∨l=1∨l=2∨l=3:=by
  unfold idx at h;split at h
  ·rename_i hc;have:l.toNat<PS1.length:=by
    rcases Nat.lt_or_ge l.toNat PS1.length with h' | h'
    ·exact h'
    ·rw [List.getElem?_eq_none h'] at h;cases h
   omega
  ·cases h
 rcases h4 with rfl | rfl | rfl | rfl
 ·exact yGg.trans h
 ·exact yFs.trans h
 ·exact yHt.trans h
 ·exact yHc.trans h
theorem lfs2 (l:Int) (v:By) (h:idx PS2 l=some v):yY LS2 l=some v:=by
 have hl:PS2.length=4:=rfl;have h4:l=0∨l=1∨l=2∨l=3:=by
  unfold idx at h;split at h
  ·rename_i hc;have:l.toNat<PS2.length:=by
    rcases Nat.lt_or_ge l.toNat PS2.length with h' | h'
    ·exact h'
    ·rw [List.getElem?_eq_none h'] at h;cases h
   omega
  ·cases h
 rcases h4 with rfl | rfl | rfl | rfl
 ·exact yGf.trans h
 ·exact yHb.trans h
 ·exact yG6.trans h
 ·exact yHk.trans h
theorem lfs3 (l:Int) (v:By) (h:idx PS3 l=some v):yY LS3 l=some v:=by
 have hl:PS3.length=4:=rfl;have h4:l=0∨l=1∨l=2∨l=3:=by
  unfold idx at h;split at h
  ·rename_i hc;have:l.toNat<PS3.length:=by
    rcases Nat.lt_or_ge l.toNat PS3.length with h' | h'
    ·exact h'
    ·rw [List.getElem?_eq_none h'] at h;cases h
   omega
  ·cases h
 rcases h4 with rfl | rfl | rfl | rfl
 ·exact yHs.trans h
 ·exact yFt.trans h
 ·exact yGa.trans h
 ·exact yGx.trans h
theorem zC9 (seed:By) (leaf:Int):lX seed leaf=yY seed leaf:=by
 unfold lX;cases h:yEt seed leaf with
 | none=>rfl
 | some v=>
  unfold yEt at h;cases h1:seed==LS1 with
  | true=>rw [h1,cond_true] at h;rw [eq_of_beq h1];exact (lfs1 leaf v h).symm
  | false=>
   rw [h1,cond_false] at h;cases h2:seed==LS2 with
   | true=>rw [h2,cond_true] at h;rw [eq_of_beq h2];exact (lfs2 leaf v h).symm
   | false=>
    rw [h2,cond_false] at h;cases h3:seed==LS3 with
    | true=>rw [h3,cond_true] at h;rw [eq_of_beq h3];exact (lfs3 leaf v h).symm
    | false=>rw [h3,cond_false] at h;cases h
end Go.Proofs.TT
