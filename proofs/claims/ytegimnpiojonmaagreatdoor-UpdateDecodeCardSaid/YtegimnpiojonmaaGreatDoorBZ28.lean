/- UpdateDecode holds for all inputs -/
import Derived.Test.YtegimnpiojonmaaGreatDoorBZ21
import Derived.Test.YtegimnpiojonmaaGreatDoorBZ22
import Derived.Test.YtegimnpiojonmaaGreatDoorBZ23
import Derived.Test.YtegimnpiojonmaaGreatDoorBZ24
import Derived.Test.YtegimnpiojonmaaGreatDoorBZ25
import Derived.Test.YtegimnpiojonmaaGreatDoorBZ26
import Derived.Test.YtegimnpiojonmaaGreatDoorBZ27
import Derived.Test.YtegimnpiojonmaaGreatDoorBZ9
import Derived.Test.YtegimnpiojonmaaGreatDoorBZ20
set_option linter.all false
open Int renaming eq_ofNat_of_zero_le -> Q0
namespace Go.Proofs.TT
open Go Go.Sw
set_option maxRecDepth 1000000
theorem aw_7:dO M6=some (M7,[115],0):=by decide +kernel
theorem zS1:cK=some true:=by
 unfold cK;refine bd (show mkN 1 32=some 32 from rfl) ?_;refine bd aw_0.1 ?_;refine bd aw_1 ?_;refine bd aw_2 ?_;refine bd aw_3 ?_;refine bd aw_0.2 ?_;refine bd aw_4 ?_;refine bd aw_5 ?_;refine bd aw_6 ?_;exact bd aw_7 rfl
set_option maxRecDepth 100000
theorem zP2:rH (default:zS) (default:zS)=some true:=by decide +kernel
theorem zVt (c:By) (hc:c.length<=3000) (f:Bool->Option (Int ⊕ (Bool ⊕ Unit))):((vV c).bind λ((x,e):zS×Int)=>(vD c).bind λ((y,g):zS×Int)=>
  (bif (e != g) then (some true) else (rH x y).bind λv=>bif !v then (some true) else bif (e==0) then ((vN x).bind λb=>(oZ b c).bind λw=>some (!w)) else some false:Option (Bool)).bind f)=f false:=by
 rcases zS3 c (by omega) with ⟨k,ho,he,h1,h2⟩ | ⟨h1,h2⟩
 ·refine bd h1 (bd h2 (bd (a:=false) (cf rfl (bd (zXq ho) (cf rfl (ct rfl (bd (zS8 ho) ?_))))) rfl));rw [he];exact bd (zCe c c (by omega)) (by simp)
 ·exact bd h1 (bd h2 (bd (a:=false) (cf rfl (bd zP2 (cf rfl (cf rfl rfl)))) rfl))
theorem zIq (raw codes more:By) (epoch:Int) (two:Bool) (priv:By) (at':List Int) (by':By) (cut:Int):mE raw codes more epoch two priv at' by' cut=some true:=by
 obtain ⟨k,hk,ho⟩:=zUv codes more epoch two priv;have hl:=zMv ho;have hn:k.Chains.length<=2:=by have:=ho.n;omega
 have hv:=ho.v;have hkc:∀ c∈k.Chains,c.length<2 ^ 40:=λc hc=>by have:=(ho.c c hc).h8;omega
 unfold mE;refine bd zS1 (cf rfl (bd hk ?_));obtain ⟨b,h1,h2,h3⟩:=zPn k hkc (by omega) (by omega);have hb:b=eB k:=by rw [zS8 ho] at h1;cases h1;rfl
 subst hb;refine bd h2 (bd (xZ (by simp;omega)) ?_);rw [List.nil_append];obtain ⟨b1,e1,l1⟩:Def (zT (qM at' by') FU (eB k,0)) (λb=>b.length<=3000):=by
  refine Def.loop (λs=>9<=s.1.length/\s.1.length<=3000/\0<=s.2/\s.2<=2) (λs=>2 - s.2.toNat) (λs hs=>?_) ⟨hl.1,hl.2,Int.le_refl 0,(by decide:(0:Int)<=2)⟩ (by simp only;omega);obtain ⟨b,i⟩:=s;obtain ⟨s1,s2,s3,s4⟩:=hs;simp only at s1 s2 s3 s4;obtain ⟨i,rfl⟩:=Q0 s3;unfold qM;refine db (a:=decide (i<at'.length)&&decide (i<by'.length)&&decide (i<2)) ?_ (Def.c (λhc=>?_) λ_=>Def.s s2)
  ·by_cases q1:i<at'.length
   ·by_cases q2:i<by'.length
    ·by_cases q3:i<2
     ·rw [decide_eq_true q1,decide_eq_true q2,decide_eq_true q3];exact ct (decide_eq_true (by omega)) (ct (decide_eq_true (by omega)) (ct (decide_eq_true (by omega)) (congrArg some (decide_eq_true (by omega)))))
     ·rw [decide_eq_false q3,Bool.and_false];exact ct (decide_eq_true (by omega)) (ct (decide_eq_true (by omega)) (cf (decide_eq_false (by omega)) rfl))
    ·rw [decide_eq_false q2,Bool.and_false];exact ct (decide_eq_true (by omega)) (cf (decide_eq_false (by omega)) rfl)
   ·rw [decide_eq_false q1];exact cf (decide_eq_false (by omega)) rfl
  ·simp only [Bool.and_eq_true,decide_eq_true_eq] at hc;obtain ⟨⟨q1,q2⟩,q3⟩:=hc;obtain ⟨r,hr,r0,r1⟩:=zTb at'[i] (b.length:Int) (by omega) (by omega);refine db (xO q1) (db hr (db (xO q2) ?_));obtain ⟨m,rfl⟩:=Q0 r0;refine db (kM (by omega)) (db (a:=b.set m by'[i]) (by unfold qG;rw [if_pos (by omega)]) (Def.s ?_));rw [uU (by omega)];exact ⟨⟨by simp only [List.length_set];exact s1,by simp only [List.length_set];exact s2,by simp only;omega,by simp only;omega⟩,by simp only;omega⟩
 refine bd e1 ?_;obtain ⟨b2,e2,l2⟩:∃ b2,(bif ((uJ .i64 cut 1)==1) then ((eI (wK .i64 cut 1) (IntKind.i64.wrap ((b1.length:Int)+1))).bind λv=>(sub b1 0 v).bind λw=>some w) else some b1:Option By)=some b2/\b2.length<=3000:=by
  by_cases h:(uJ .i64 cut 1==1)=true
  ·obtain ⟨r,hr,r0,r1⟩:=zTb (wK .i64 cut 1) (((b1.length+1:Nat)):Int) (by omega) (by omega);obtain ⟨m,rfl⟩:=Q0 r0;refine ⟨b1.take m,ct h (bd (by rw [uU (by omega)];exact hr) ?_),by rw [List.length_take];omega⟩;rw [show (0:Int)=((0:Nat):Int) from rfl];exact bd (kT (by omega) (by omega)) (by simp)
  ·exact ⟨b1,cf (by simpa using h) rfl,l1⟩
 refine bd e2 ?_;obtain ⟨c,hc,c6⟩:=zWm raw 600;refine bd hc ?_;refine bd (a:=.inr ()) (vF 2 (λi=>(i:Int)) rfl (λi hi=>?_) (by unfold qQ;exact cf rfl rfl) (sT (by decide))) rfl;have hi2:i<[c,b2].length:=hi;unfold qQ;refine ct (decide_eq_true (by omega)) (bd (xO hi2) ?_);have hle:([c,b2][i]'hi2).length<=3000:=by
  rcases i with _ | _ | i
  ·show c.length<=3000;omega
  ·exact l2
  ·simp at hi2;omega
 refine (zVt _ hle _).trans ?_;exact cf rfl (by rw [uU (by omega)])
end Go.Proofs.TT
