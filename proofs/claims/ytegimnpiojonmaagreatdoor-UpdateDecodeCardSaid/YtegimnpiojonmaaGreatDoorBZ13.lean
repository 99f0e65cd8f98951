/- UpdateDecode holds for all inputs -/
import Derived.Test.YtegimnpiojonmaaGreatDoorBZ10
import Derived.Test.YtegimnpiojonmaaGreatDoorBZ11
import Derived.Test.YtegimnpiojonmaaGreatDoorBZ12
set_option linter.all false
namespace Go.Proofs.TT
open Go Go.Sw
set_option maxRecDepth 1000000
theorem lfs1 (l:Int) (v:By) (h:idx PS1 l=some v):yY LS1 l=some v:=by
 have hl:PS1.length=4:=rfl;have h4:l=0∨l=1∨l=2∨l=3:=by
  unfold idx at h;split at h
  ·rename_i hc;have:l.toNat<PS1.length:=by
    rcases Nat.lt_or_ge l.toNat PS1.length with h' | h'
    ·exact h'
    ·rw [List.getElem?_eq_none h'] at h;cases h
   omega
  ·cases h
 rcases h4 with rfl | rfl | rfl | rfl
 ·exact yD7.trans h
 ·exact yD2.trans h
 ·exact yEp.trans h
 ·exact yDf.trans h
theorem lfs2 (l:Int) (v:By) (h:idx PS2 l=some v):yY LS2 l=some v:=by
 have hl:PS2.length=4:=rfl;have h4:l=0∨l=1∨l=2∨l=3:=by
  unfold idx at h;split at h
  ·rename_i hc;have:l.toNat<PS2.length:=by
    rcases Nat.lt_or_ge l.toNat PS2.length with h' | h'
    ·exact h'
    ·rw [List.getElem?_eq_none h'] at h;cases h
   omega
  ·cases h
 rcases h4 with rfl | rfl | rfl | rfl
 ·exact yF4.trans h
 ·exact yDb.trans h
 ·exact yE5.trans h
 ·exact yFd.trans h
theorem lfs3 (l:Int) (v:By) (h:idx PS3 l=some v):yY LS3 l=some v:=by
 have hl:PS3.length=4:=rfl;have h4:l=0∨l=1∨l=2∨l=3:=by
  unfold idx at h;split at h
  ·rename_i hc;have:l.toNat<PS3.length:=by
    rcases Nat.lt_or_ge l.toNat PS3.length with h' | h'
    ·exact h'
    ·rw [List.getElem?_eq_none h'] at h;cases h
   omega
  ·cases h
 rcases h4 with rfl | rfl | rfl | rfl
 ·exact yDl.trans h
 ·exact yD5.trans h
 ·exact yEl.trans h
 ·exact yF6.trans h
theorem zEh (seed:By) (leaf:Int):lO seed leaf=yY seed leaf:=by
 unfold lO;cases h:zZ2 seed leaf with
 | none=>rfl
 | some v=>
  unfold zZ2 at h;cases h1:seed==LS1 with
  | true=>rw [h1,cond_true] at h;rw [eq_of_beq h1];exact (lfs1 leaf v h).symm
  | false=>
   rw [h1,cond_false] at h;cases h2:seed==LS2 with
   | true=>rw [h2,cond_true] at h;rw [eq_of_beq h2];exact (lfs2 leaf v h).symm
   | false=>
    rw [h2,cond_false] at h;cases h3:seed==LS3 with
    | true=>rw [h3,cond_true] at h;rw [eq_of_beq h3];exact (lfs3 leaf v h).symm
    | false=>rw [h3,cond_false] at h;cases h
end Go.Proofs.TT
