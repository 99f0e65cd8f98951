/- UpdateCodec holds for all inputs: part -/
import Derived.Test.YtlfmgnodhnccoaaGreatDoorBZ10
import Derived.Test.YtlfmgnodhnccoaaGreatDoorBZ11
import Derived.Test.YtlfmgnodhnccoaaGreatDoorBZ12
set_option linter.all false
namespace Go.Proofs.TT
open Go Go.Sw
set_option maxRecDepth 1000000
theorem lfs1 (l:Int) (v:By) (h:idx PS1 l=some v):yX LS1 l=some v:=by
 have hl:PS1.length=4:=rfl;have h4:l=0∨l=1∨l=2∨l=3:=by
  unfold idx at h;split at h
  ·rename_i hc;have:l.toNat<PS1.length:=by
    rcases Nat.lt_or_ge l.toNat PS1.length with h' | h'
    ·exact h'
    ·rw [List.getElem?_eq_none h'] at h;cases h
   omega
  ·cases h
 rcases h4 with rfl | rfl | rfl | rfl
 ·exact yB7.trans h
 ·exact yC9.trans h
 ·exact yBl.trans h
 ·exact yDq.trans h
theorem lfs2 (l:Int) (v:By) (h:idx PS2 l=some v):yX LS2 l=some v:=by
 have hl:PS2.length=4:=rfl;have h4:l=0∨l=1∨l=2∨l=3:=by
  unfold idx at h;split at h
  ·rename_i hc;have:l.toNat<PS2.length:=by
    rcases Nat.lt_or_ge l.toNat PS2.length with h' | h'
    ·exact h'
    ·rw [List.getElem?_eq_none h'] at h;cases h
   omega
  ·cases h
 rcases h4 with rfl | rfl | rfl | rfl
 ·exact yCv.trans h
 ·exact yD5.trans h
 ·exact yBr.trans h
 ·exact yD2.trans h
theorem lfs3 (l:Int) (v:By) (h:idx PS3 l=some v):yX LS3 l=some v:=by
 have hl:PS3.length=4:=rfl;have h4:l=0∨l=1∨l=2∨l=3:=by
  unfold idx at h;split at h
  ·rename_i hc;have:l.toNat<PS3.length:=by
    rcases Nat.lt_or_ge l.toNat PS3.length with h' | h'
    ·exact h'
    ·rw [List.getElem?_eq_none h'] at h;cases h
   omega
  ·cases h
 rcases h4 with rfl | rfl | rfl | rfl
 ·exact yCq.trans h
 ·exact yEn.trans h
 ·exact yCr.trans h
 ·exact yCo.trans h
theorem zC6 (seed:By) (leaf:Int):mE seed leaf=yX seed leaf:=by
 unfold mE;cases h:zY6 seed leaf with
 | none=>rfl
 | some v=>
  unfold zY6 at h;cases h1:seed==LS1 with
  | true=>rw [h1,cond_true] at h;rw [eq_of_beq h1];exact (lfs1 leaf v h).symm
  | false=>
   rw [h1,cond_false] at h;cases h2:seed==LS2 with
   | true=>rw [h2,cond_true] at h;rw [eq_of_beq h2];exact (lfs2 leaf v h).symm
   | false=>
    rw [h2,cond_false] at h;cases h3:seed==LS3 with
    | true=>rw [h3,cond_true] at h;rw [eq_of_beq h3];exact (lfs3 leaf v h).symm
    | false=>rw [h3,cond_false] at h;cases h
end Go.Proofs.TT
