/- UpdatePolicy holds for all inputs -/
import Derived.Test.YtlipjldhnmcbiaaGreatDoorCZ34
import Derived.Test.YtlipjldhnmcbiaaGreatDoorCZ35
import Derived.Test.YtlipjldhnmcbiaaGreatDoorCZ36
import Derived.Test.YtlipjldhnmcbiaaGreatDoorCZ37
import Derived.Test.YtlipjldhnmcbiaaGreatDoorCZ38
import Derived.Test.YtlipjldhnmcbiaaGreatDoorCZ39
import Derived.Test.YtlipjldhnmcbiaaGreatDoorCZ40
import Derived.Test.YtlipjldhnmcbiaaGreatDoorCZ11
import Derived.Test.YtlipjldhnmcbiaaGreatDoorCZ33
set_option linter.all false
namespace Go.Proofs.TT
open Go Go.Sw
set_option maxRecDepth 1000000
theorem aw_7:dR M6=some (M7,[115],0):=by decide +kernel
theorem zQl:dO=some true:=by
 unfold dO;refine bd (show mkN 1 32=some 32 from rfl) ?_;refine bd aw_0.1 ?_;refine bd aw_1 ?_;refine bd aw_2 ?_;refine bd aw_3 ?_;refine bd aw_0.2 ?_;refine bd aw_4 ?_;refine bd aw_5 ?_;refine bd aw_6 ?_;exact bd aw_7 rfl
set_option maxRecDepth 100000
theorem yE9 (n m:Int) (h1:1<=m) (h2:m<=2 ^ 60):∃ r,pH n m=some r/\0<=r/\r<m:=by
 have a:=Int.tmod_lt_of_pos n (show 0<m by omega);have b:-m<Int.tmod n m:=by
  have:=Int.lt_tmod_of_pos n (show 0<m by omega);omega
 unfold pH;refine ⟨if Int.tmod n m<0 then Int.tmod n m+m else Int.tmod n m,cf (decide_eq_false (by omega)) (bd (a:=()) ?_ ?_),?_⟩
 ·have:(m==0)=false:=by rw [beq_eq_false_iff_ne];omega
  rw [this];rfl
 ·by_cases h:Int.tmod n m<0
  ·rw [if_pos h];exact bd (ct (decide_eq_true h) (by rw [xU (by omega) (by omega)])) rfl
  ·rw [if_neg h];exact bd (cf (decide_eq_false h) rfl) rfl
 ·split<;>omega
theorem yEp (b:By):∃ r,cS b=some r/\r.length=32:=by
 have hl:(cpy (List.replicate 32 (0:UInt8)) b).length=32:=by
  unfold cpy;simp only [List.length_append,List.length_take,List.length_drop,List.length_replicate];omega
 refine ⟨cpy (List.replicate 32 (0:UInt8)) b,?_,hl⟩;unfold cS;refine bd (show mkN 1 32=some 32 from rfl) (bd (a:=()) (by simp [ck]) ?_);show (ck (Nat.beq (cpy (List.replicate 32 (0:UInt8)) b).length 32)).bind _=_;rw [hl];rfl
theorem zE4 (codes more:By) (n active epoch kind:Int) (policy:By) (written any:Bool):nX codes more n active epoch kind policy written any=some true:=by
 obtain ⟨a,ha,h1,h3⟩:=zQd active;obtain ⟨c0,e0,g0⟩:=zHa codes;obtain ⟨c1,e1,g1⟩:=zHa more;obtain ⟨c2,e2,g2⟩:=zHa [];obtain ⟨k,hk,k0,k4⟩:=zIo n 4 (by decide) (by decide);obtain ⟨ep,hep⟩:∃ ep,(bif !any then ((pH epoch 1099511627777).bind λv=>some v) else some epoch:Option Int)=some ep:=by
  cases any
  ·obtain ⟨r,hr,_⟩:=yE9 epoch 1099511627777 (by decide) (by decide);exact ⟨r,ct rfl (bd hr rfl)⟩
  ·exact ⟨epoch,cf rfl rfl⟩
 obtain ⟨k1,hk1,_⟩:=zIo kind 256 (by decide) (by decide);obtain ⟨k2,hk2,_⟩:=zIo kind 4 (by decide) (by decide);obtain ⟨p,hp,hpl⟩:∃ p,(bif decide (0<(policy.length:Int)) then ((cS policy).bind λv=>some v) else some []:Option By)=some p/\p.length<=32:=by
  by_cases h:0<(policy.length:Int)
  ·obtain ⟨r,hr,hl⟩:=yEp policy;exact ⟨r,ct (decide_eq_true h) (bd hr rfl),by omega⟩
  ·exact ⟨[],cf (decide_eq_false h) rfl,by simp⟩
 obtain ⟨k,rfl⟩:=Int.eq_ofNat_of_zero_le k0;have hs3:sub [c0,c1,c2] 0 (k:Int)=some ([c0,c1,c2].take k):=by
  have:=lI (l:=[c0,c1,c2]) (a:=0) (b:=k) (by omega) (by simp;omega);simpa using this
 have hc:∀ c∈[c0,c1,c2].take k,qF c:=λc h=>by
  have:=List.mem_of_mem_take h;simp only [List.mem_cons,List.not_mem_nil,or_false] at this;rcases this with rfl | rfl | rfl<;>assumption
 unfold nX;refine bd zQl (cf rfl (bd ha (bd e0 (bd e1 (bd e2 (bd hk (bd hs3 (bd hep (bd hk1 (bd hk2 (bd hp ?_)))))))))));by_cases hq:zLp ([c0,c1,c2].take k) ep
 ·refine bd (yFq hq hpl hc h1 h3) (bd (yGk hq hpl hc h1 h3) ?_);exact bd (a:=true) (ct rfl (bd (zOg _ _ (by rw [yB8];decide)) (by simp))) rfl
 ·refine bd (pbad hq) (bd (rbad hq) ?_);exact bd (a:=true) (ct rfl (bd (zOg _ _ (by simp)) (by simp))) rfl
end Go.Proofs.TT
