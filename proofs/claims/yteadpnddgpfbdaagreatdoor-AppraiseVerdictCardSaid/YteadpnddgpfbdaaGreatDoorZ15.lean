/- AppraiseVerdict (law 37: the verdict about evidence that is right but for up to two changes) is proved for every input, under no condition of ours; this text is a part of that proof. -/
import Derived.Test.YteadpnddgpfbdaaGreatDoorZ14
set_option linter.all false
open Go.Sw.Def renaming s -> Q0, bd -> Q1, c -> Q2, of -> Q4
open Go.IntKind renaming i64 -> Q3
open UInt8 renaming toNat_inj -> Q5
open List renaming drop_eq_getElem_cons -> Q6, take_of_length_le -> Q8, length_eq_zero_iff -> Qb, take_append_of_le_length -> Qd, getElem_mem -> Qe, replicate -> Qg, take_append_drop -> Qh
open Bool renaming not_eq_false' -> Q7, not_eq_true' -> Q9, eq_iff_iff -> Qf, not_or -> Qj, not_not -> Qk
open Go.Proofs.TT.Def renaming at' -> Qa
open Nat renaming zero_le -> Qc, pow_le_pow_right -> Qi
namespace Go.Proofs.TT
open Go Go.Sw
set_option maxRecDepth 100000
def smD (a:Nat) (b:By):By:=if a=0 then gG b else sha b
theorem smP {a:Nat} (ha:a<2) (b:By) (hb:b.length<2 ^ 40):wP (a:Int) b=some (smD a b):=by
 obtain rfl | rfl:a=0∨a=1:=by omega
 ·exact zL4 b hb
 ·exact zMp b hb
theorem smR {a:Nat} (ha:a<2) (b:By) (hb:b.length<2 ^ 40):sX (a:Int) b=some (smD a b):=by
 obtain rfl | rfl:a=0∨a=1:=by omega
 ·exact zCz b hb
 ·exact zDd b hb
def Dk (e:zC) (a:Nat):Prop:=∀ h:a<e.Digests.length,e.Digests[a]=[]∨(e.Kind≠5/\e.Digests[a]=smD a e.Data)
def Pr (s:By):Prop:=∀ i,(h:i<s.length)->(decide (s[i].toNat<32)||decide (126<s[i].toNat))=false
def Cs (e:zC):Prop:=e.Kind=1∨((e.Kind=2->e.Data=[0,0,0,0])/\(e.Kind=3->e.Data≠[]/\Pr e.Data)/\∀ a,a<2->Dk e a)
theorem zQt (e:zC) (k1:1<=e.Kind) (k5:e.Kind<=5) (hd:e.Data.length<=64) (hg:e.Digests.length=2):Def (w9 e) (λv=>v=true↔Cs e):=by
 unfold w9;refine Q1 (P:=λb=>e.Kind≠1->(b=true↔e.Kind≠5)) (Q2 (λ_=>Q0 (λ_=>by simp)) (λh=>Q0 (λh1=>absurd (by simpa using h) h1))) (λb hb=>?_);refine Q1 (P:=λy=>match y with | .inl v=>v=true↔Cs e | .inr _=>e.Kind≠1/\(e.Kind=2->e.Data=[0,0,0,0])/\(e.Kind=3->e.Data≠[]/\Pr e.Data)) ?_ (λy hy=>?_)
 ·refine Q2 (λh=>Q0 ⟨λ_=>.inl (by simpa using h),λ_=>rfl⟩) (λh1=>?_);have h1:e.Kind≠1:=by simpa using h1
  refine Q2 (λh2=>?_) (λh2=>?_)
  ·have h2:e.Kind=2:=by simpa using h2
   refine Q1 (Def.mkN (by decide) (by decide)) (λn hn=>?_);subst hn;refine Q1 (Q4 (kF _ _) rfl:Def _ (λv=>v=(e.Data==Qg 4 0))) (λv hv=>?_);refine Q2 (λh=>Q0 ⟨λh=>(by cases h),λhc=>?_⟩) (λh=>Q0 ⟨h1,λ_=>?_,λh3=>by omega⟩)
   ·rcases hc with hc | hc
    ·exact absurd hc h1
    ·rw [hv,hc.1 h2] at h;cases h
   ·have h:v=true:=by simpa using h
    rw [hv] at h;exact by simpa using h
  ·have h2:e.Kind≠2:=by simpa using h2
   refine Q2 (λh3=>?_) (λh3=>?_)
   ·have h3:e.Kind=3:=by simpa using h3
    refine Q2 (λh0=>Q0 ⟨λh=>(by cases h),λhc=>?_⟩) (λh0=>?_)
    ·rcases hc with hc | hc
     ·exact absurd hc h1
     ·refine absurd ?_ (hc.2.1 h3).1;have:(e.Data.length:Int)=0:=by simpa using h0
      exact Qb.1 (by omega)
    have hne:e.Data≠[]:=λe0=>by rw [e0] at h0;cases h0
    refine Q1 (vD e.Data (sJ e) (λi=>∀ h:i<e.Data.length,(decide (e.Data[i].toNat<32)||decide (126<e.Data[i].toNat))=false) (λv=>v=false/\¬ Pr e.Data) (by omega) (λi hi=>?_) ?_) (λy hy=>?_)
    ·unfold sJ;refine Q2 (λ_=>?_) (λh=>by have:=dF h;omega);refine Q1 (Qa hi) (λc hc=>?_);subst hc;exact zKd (Q2 (λh=>Q0 ⟨rfl,λhp=>by rw [hp i hi] at h;cases h⟩) (λh=>Q0 ⟨yM (by omega),λ_=>h⟩))
    ·unfold sJ;exact cf (by simp) rfl
    ·cases y with
     | inl v=>
      refine Q0 ?_;show v=true↔_;rw [hy.1];refine ⟨λh=>(by cases h),λhc=>?_⟩;rcases hc with hc | hc
      ·exact absurd hc h1
      ·exact absurd (hc.2.1 h3).2 hy.2
     | inr u=>exact Q0 ⟨h1,λh=>absurd h h2,λ_=>⟨hne,λi hi=>hy i hi hi⟩⟩
   ·have h3:e.Kind≠3:=by simpa using h3
    refine Q1 (P:=λb=>b=true) (Q2 (λh=>Q0 h) (λh=>Q0 ?_)) (λb hb=>?_)
    ·have h4:e.Kind≠4:=by simpa using h
     rw [beq_iff_eq];omega
    ·subst hb;exact Q0 ⟨h1,λh=>absurd h h2,λh=>absurd h h3⟩
 cases y with
 | inl v=>exact Q0 hy
 | inr u=>
  obtain ⟨h1,h2,h3⟩:=hy;have hb:=hb h1;have hif:(if 2<(e.Digests.length:Int) then (2:Int) else (e.Digests.length:Int))=2:=by rw [hg];rfl
  refine Q1 (vD e.Digests (sL e b) (λi=>Dk e i) (λv=>v=false/\¬ ∀ a,a<2->Dk e a) (by omega) (λi hi=>?_) ?_) (λy hy=>?_)
  ·unfold sL;rw [hif];refine Q2 (λ_=>?_) (λh=>by have:=dF h;omega);refine Q1 (Qa hi) (λd hdd=>?_);subst hdd;refine Q1 (P:=λv=>v=false↔Dk e i) ?_ (λv hv=>Q2 (λh=>Q0 ⟨rfl,λhp=>?_⟩) (λh=>Q0 ⟨yM (by omega),hv.1 h⟩))
   ·refine Q2 (λhl=>Q2 (λhm=>Q0 ⟨λh=>(by cases h),λhk=>?_⟩) (λhm=>?_)) (λhl=>Q0 ⟨λ_ _=>.inl ?_,λ_=>rfl⟩)
    ·rcases hk hi with hk | hk
     ·rw [hk] at hl;cases hl
     ·rw [hb.2 hk.1] at hm;cases hm
    ·have hm:b=true:=by simpa using hm
     refine Q1 (Q4 (smP (by omega) e.Data (by omega)) rfl:Def _ (λs=>s=smD i e.Data)) (λs hs=>?_);refine Q1 (Q4 (kF _ _) rfl:Def _ (λv=>v=(e.Digests[i]==s))) (λv hv=>Q0 ?_);rw [hv,hs];constructor
     ·intro h _;exact .inr ⟨hb.1 hm,by simpa using h⟩
     ·intro h;rcases h hi with h | h
      ·rw [h] at hl;cases hl
      ·simpa using h.2
    ·exact Qb.1 (by have:=dF hl;omega)
   ·rw [hv.2 (hp i (by omega))] at h;cases h
  ·unfold sL;rw [hif,hg];exact cf rfl rfl
  ·cases y with
   | inl v=>
    refine Q0 ?_;show v=true↔_;rw [hy.1];refine ⟨λh=>(by cases h),λhc=>?_⟩;rcases hc with hc | hc
    ·exact absurd hc h1
    ·exact absurd hc.2.2 hy.2
   | inr u=>exact Q0 ⟨λ_=>.inr ⟨h2,h3,λa ha=>hy a (by omega)⟩,λ_=>rfl⟩
theorem zI6 (s:By) (hs:s.length<2 ^ 40):Def (tC s) (λv=>v=true↔s≠[]/\Pr s):=by
 unfold tC;refine Q1 (vD s (rG s) (λi=>∀ h:i<s.length,(decide (s[i].toNat<32)||decide (126<s[i].toNat))=false) (λv=>v=false/\¬ Pr s) hs (λi hi=>?_) ?_) (λy hy=>?_)
 ·unfold rG;refine Q2 (λ_=>?_) (λh=>by have:=dF h;omega);refine Q1 (P:=λb=>b=(decide (s[i].toNat<32)||decide (126<s[i].toNat))) ?_ (λb hb=>?_)
  ·refine Q1 (Qa hi) (λc hc=>?_);subst hc;refine Q2 (λh=>Q0 ?_) (λh=>?_)
   ·have:=dT h;have:decide (s[i].toNat<32)=true:=by rw [decide_eq_true_iff];omega
    rw [this];rfl
   ·refine Q1 (Qa hi) (λc hc=>Q0 ?_);subst hc;have:=dF h;have:decide (s[i].toNat<32)=false:=by rw [decide_eq_false_iff_not];omega
    rw [this,Bool.false_or];exact decide_eq_decide.2 (by omega)
  ·subst hb;exact Q2 (λh=>Q0 ⟨rfl,λhp=>by rw [hp i hi] at h;cases h⟩) (λh=>Q0 ⟨yM (by omega),λ_=>h⟩)
 ·unfold rG;exact cf (by simp) rfl
 ·cases y with
  | inl v=>
   refine Q0 ?_;show v=true↔_;rw [hy.1];exact ⟨λh=>(by cases h),λhc=>absurd hc.2 hy.2⟩
  | inr u=>
   refine Q0 ?_;rw [decide_eq_true_iff];refine ⟨λh=>⟨λe=>by rw [e] at h;simp at h,λi hi=>hy i hi hi⟩,λh=>?_⟩;have:=List.length_pos_iff.2 h.1;omega
theorem zQ9 (e:zC) (k1:1<=e.Kind) (k5:e.Kind<=5) (hd:e.Data.length<=64) (hg:e.Digests.length=2) (hl:∀ a,(h:a<e.Digests.length)->e.Digests[a].length<2 ^ 40):Def (vG e) (λv=>v=true↔Cs e):=by
 unfold vG;refine Q2 (λh=>Q0 ⟨λ_=>.inl (by simpa using h),λ_=>rfl⟩) (λh1=>?_);have h1:e.Kind≠1:=by simpa using h1
 refine Q1 (P:=λb=>b=false) (Q2 (λh=>by have:=dT h;omega) (λ_=>Q0 (by rw [decide_eq_false_iff_not];omega))) (λb hb=>?_);subst hb;refine Q2 (λh=>by cases h) (λ_=>?_);refine Q1 (P:=λb=>b=false↔(e.Kind=2->e.Data=[0,0,0,0])/\(e.Kind=3->e.Data≠[]/\Pr e.Data)) ?_ (λb hb=>?_)
 ·have pr:∀ h3:e.Kind=3,Def ((tC e.Data).bind λv=>some (!v)) (λb=>b=false↔(e.Kind=2->e.Data=[0,0,0,0])/\(e.Kind=3->e.Data≠[]/\Pr e.Data)):=λh3=>by
   refine Q1 (zI6 e.Data (by omega)) (λv hv=>Q0 ?_);rw [Q7,hv];exact ⟨λh=>⟨λh2=>by omega,λ_=>h⟩,λh=>h.2 h3⟩
  refine Q2 (λh2=>?_) (λh2=>?_)
  ·have h2:e.Kind=2:=by simpa using h2
   refine Q1 (P:=λs=>s=[0,0,0,0]) (Q0 rfl) (λs hs=>?_);refine Q1 (Q4 (uB e.Data s (by omega)) rfl:Def _ (λv=>v=(e.Data==s))) (λv hv=>?_);refine Q2 (λh=>Q0 ⟨λh=>(by cases h),λhc=>?_⟩) (λh=>?_)
   ·rw [hv,hs,hc.1 h2] at h;cases h
   ·refine Q2 (λh3=>absurd (show e.Kind=3 by simpa using h3) (by omega)) (λ_=>Q0 ⟨λ_=>⟨λ_=>?_,λh3=>by omega⟩,λ_=>rfl⟩);have h:v=true:=by simpa using h
    rw [hv,hs] at h;simpa using h
  ·have h2:e.Kind≠2:=by simpa using h2
   refine Q2 (λh3=>pr (by simpa using h3)) (λh3=>Q0 ⟨λ_=>⟨λh=>absurd h h2,λh=>?_⟩,λ_=>rfl⟩);rw [h] at h3;cases h3
 refine Q2 (λh=>Q0 ⟨λh=>(by cases h),λhc=>?_⟩) (λhbf=>?_)
 ·rcases hc with hc | hc
  ·exact absurd hc h1
  ·rw [hb.2 ⟨hc.1,hc.2.1⟩] at h;cases h
 obtain ⟨h2,h3⟩:=hb.1 hbf;refine Q1 (vD e.Digests (sK e) (λi=>Dk e i) (λv=>v=false/\¬ ∀ a,a<2->Dk e a) (by omega) (λi hi=>?_) ?_) (λy hy=>?_)
 ·unfold sK;refine Q1 (P:=λb=>b=true) (Q2 (λ_=>Q0 (by rw [decide_eq_true_iff];omega)) (λh=>by have:=dF h;omega)) (λb hb=>?_);subst hb;refine Q2 (λ_=>?_) (λh=>by cases h);refine Q1 (P:=λv=>v=false↔Dk e i) ?_ (λv hv=>Q2 (λh=>Q0 ⟨rfl,λhp=>?_⟩) (λh=>Q0 ⟨yM (by omega),hv.1 h⟩))
  ·refine Q1 (Qa hi) (λd hdd=>?_);subst hdd;refine Q2 (λhp=>Q2 (λhm=>Q0 ⟨λh=>(by cases h),λhk=>?_⟩) (λhm=>?_)) (λhp=>Q0 ⟨λ_ _=>.inl ?_,λ_=>rfl⟩)
   ·rcases hk hi with hk | hk
    ·rw [hk] at hp;cases hp
    ·exact absurd (by simpa using hm) hk.1
   ·have hm:e.Kind≠5:=by simpa using hm
    refine Q1 (Qa hi) (λd hdd=>?_);subst hdd;refine Q1 (Q4 (smR (by omega) e.Data (by omega)) rfl:Def _ (λs=>s=smD i e.Data)) (λs hs=>?_);refine Q1 (Q4 (uB _ _ (hl i hi)) rfl:Def _ (λv=>v=(e.Digests[i]==s))) (λv hv=>Q0 ?_);rw [hv,hs];constructor
    ·intro h _;exact .inr ⟨hm,by simpa using h⟩
    ·intro h;rcases h hi with h | h
     ·rw [h] at hp;cases hp
     ·simpa using h.2
   ·exact Qb.1 (by have:=dF hp;omega)
  ·rw [hv.2 (hp i (by omega))] at h;cases h
 ·unfold sK;rw [hg];rfl
 ·cases y with
  | inl v=>
   refine Q0 ?_;show v=true↔_;rw [hy.1];refine ⟨λh=>(by cases h),λhc=>?_⟩;rcases hc with hc | hc
   ·exact absurd hc h1
   ·exact absurd hc.2.2 hy.2
  | inr u=>exact Q0 ⟨λ_=>.inr ⟨h2,h3,λa ha=>hy a (by omega)⟩,λ_=>rfl⟩
end Go.Proofs.TT
namespace Go.Sw
open Go
theorem zAx {X1 X2 Y1 Y2:Type} {s1:X1->Option (X1 ⊕ Y1)} {s2:X2->Option (X2 ⊕ Y2)} (R:X1->X2->Prop) (m:X1->Nat) (O:Y1->Y2->Prop)
  (h:∀ a b,R a b->∃ u v,s1 a=some u/\s2 b=some v/\(match u,v with | .inl a',.inl b'=>R a' b'/\m a'<m a | .inr x,.inr y=>O x y | _,_=>False)) :
  ∀ n a b,R a b->m a<n->∃ x y,zK s1 n a=some x/\zK s2 n b=some y/\O x y
 | 0,_,_,_,hn=>by omega
 | n+1,a,b,hr,hn=>by
  obtain ⟨u,v,h1,h2,h3⟩:=h a b hr;simp only [zK];rw [h1,h2]
  match u,v,h3 with
  | .inl a',.inl b',h3=>exact zAx R m O h n a' b' h3.1 (by omega)
  | .inr x,.inr y,h3=>exact ⟨x,y,rfl,rfl,h3⟩
end Go.Sw
namespace Go.Proofs.TT
open Go Go.Sw
set_option maxRecDepth 100000
variable {a:Int}{b:Bool}{e:zC}{s:Int×Int×Bool}{α:Type}
def Wr (e:zC):Prop:=0<=e.Register/\e.Register<=11/\1<=e.Kind/\e.Kind<=5/\e.Data.length<=64/\(e.Digests.getD 0 []).length<=32/\(e.Digests.getD 1 []).length<=32
theorem zSn {b1 b2 b3 b4 b5:Bool} (hl:e.Digests.length=2) (h:b1=(decide (e.Register<0)||decide (11<e.Register)||decide (e.Kind<1)||decide (5<e.Kind)||b4||b5)) (h4:(b4||b5)=decide (64<e.Data.length)):b1=false↔(0<=e.Register/\e.Register<=11/\1<=e.Kind/\e.Kind<=5/\e.Data.length<=64):=by
 subst h;rw [Bool.or_assoc,h4];simp only [Bool.or_eq_false_iff,decide_eq_false_iff_not];omega
theorem zU0 (e:zC) (hl:e.Digests.length=2):Def (tD e) (λb=>b=true↔Wr e):=by
 unfold tD Wr;refine Q1 or6 (λb hb=>?_);have hb:=zSn (b1:=b) (b2:=true) (b3:=true) hl hb (by rw [hl];simp;omega);refine Q2 (λh=>Q0 ⟨λh=>(by cases h),λh2=>?_⟩) (λhbf=>?_)
 ·rw [hb.2 ⟨h2.1,h2.2.1,h2.2.2.1,h2.2.2.2.1,h2.2.2.2.2.1⟩] at h;cases h
 have hw:=hb.1 hbf;refine Q1 (vD e.Digests (uZ e) (λi=>(e.Digests.getD i []).length<=32) (λr=>r=false/\∃ i,i<2/\¬ (e.Digests.getD i []).length<=32) (by omega) (λi hi=>?_) ?_) (λy hy=>?_)
 ·have hg:e.Digests.getD i []=e.Digests[i]:=by simp [hi]
  unfold uZ;refine Q2 (λ_=>?_) (λh=>by have:=dF h;omega);refine Q1 (Qa hi) (λd hd=>?_);refine Q1 (P:=λw=>w=32) (Q4 (kD 1) rfl) (λw hw=>?_);subst hw hd;refine Q2 (λh=>Q0 ⟨rfl,i,by omega,?_⟩) (λh=>Q0 ⟨yM (by omega),?_⟩)
  ·have:=dT h;rw [hg];omega
  ·have:=dF h;rw [hg];omega
 ·unfold uZ;exact cf (by simp) rfl
 ·cases y with
  | inl r=>
   obtain ⟨rfl,i,hi,hn⟩:=hy;refine Q0 ⟨λh=>(by cases h),λh=>?_⟩;have:i=0∨i=1:=by omega
   rcases this with rfl | rfl
   ·exact absurd h.2.2.2.2.2.1 hn
   ·exact absurd h.2.2.2.2.2.2 hn
  | inr u=>exact Q0 ⟨λ_=>⟨hw.1,hw.2.1,hw.2.2.1,hw.2.2.2.1,hw.2.2.2.2,hy 0 (by omega),hy 1 (by omega)⟩,λ_=>rfl⟩
theorem zT7 (e:zC) (hl:e.Digests.length=2):Def (sQ e) (λb=>b=true↔Wr e):=by
 have i0:idx e.Digests 0=some (e.Digests.getD 0 []):=zD2 (i:=0) (by omega);have i1:idx e.Digests 1=some (e.Digests.getD 1 []):=zD2 (i:=1) (by omega);unfold sQ Wr;refine Q1 or6 (λb hb=>?_);have hb:=zSn (b1:=b) (b2:=true) (b3:=true) hl hb (by rw [hl];simp;omega);refine Q2 (λh=>Q0 ⟨λh=>(by cases h),λh2=>?_⟩) (λhbf=>?_)
 ·rw [hb.2 ⟨h2.1,h2.2.1,h2.2.2.1,h2.2.2.2.1,h2.2.2.2.2.1⟩] at h;cases h
 have hw:=hb.1 hbf;refine Q1 (P:=λr=>r=true↔((e.Digests.getD 0 []).length<=32/\(e.Digests.getD 1 []).length<=32)) ?_ (λr hr=>Q0 ⟨λh=>⟨hw.1,hw.2.1,hw.2.2.1,hw.2.2.2.1,hw.2.2.2.2,(hr.1 h).1,(hr.1 h).2⟩,λh=>hr.2 h.2.2.2.2.2⟩);refine Q1 (P:=λd=>d=e.Digests.getD 0 []) (Q4 i0 rfl) (λd hd=>?_);subst hd;refine Q2 (λh=>?_) (λh=>Q0 ⟨λh=>(by cases h),λh2=>?_⟩)
 ·have h0:=dT h;refine Q1 (P:=λd=>d=e.Digests.getD 1 []) (Q4 i1 rfl) (λd hd=>Q0 ?_);subst hd;rw [decide_eq_true_iff];omega
 ·have:=dF h;omega
def u1 (b:By):=yG ⟨b,0,0⟩ 1
def u2 (b:By):=yG (u1 b).2 1
def p1 (b:By):=yX (u2 b).2 32
def p2 (b:By):=yX (p1 b).2 32
def p3 (b:By):=yX (p2 b).2 64
theorem zMb (b:By) (h:b.length<2 ^ 40):∃ r,pS b=some r/\vU b=some r:=by
 have ok0:(RS.mk b 0 0).Ok:=⟨Qc _,h⟩;have ok1:(u1 b).2.Ok:=vA _ _ ok0;have ok2:(u2 b).2.Ok:=vA _ _ ok1;have ok3:(p1 b).2.Ok:=nT _ _ ok2;have ok4:(p2 b).2.Ok:=nT _ _ ok3;have ok5:(p3 b).2.Ok:=nT _ _ ok4;obtain ⟨x,hx,hxi⟩:=zU0 ⟨(u1 b).1,(u2 b).1,[(p1 b).1,(p2 b).1],(p3 b).1⟩ rfl;obtain ⟨y,hy,hyi⟩:=zT7 ⟨(u1 b).1,(u2 b).1,[(p1 b).1,(p2 b).1],(p3 b).1⟩ rfl;have hxy:y=x:=Qf.2 (hyi.trans hxi.symm);subst hxy;refine ⟨bif (bif qT (p3 b).2 != 0 then true else !y) then (⟨0,0,[],[]⟩,30) else (⟨(u1 b).1,(u2 b).1,[(p1 b).1,(p2 b).1],(p3 b).1⟩,0),?_,?_⟩
 ·unfold pS;refine bd (zQn b h) ?_;refine bd (yZ _ 1 ok0 (by omega) (by omega)) ?_;refine bd (yZ (u1 b).2 1 ok1 (by omega) (by omega)) ?_;refine bd (a:=([(p1 b).1,(p2 b).1],(p2 b).2.W.b_,(p2 b).2.W.at_,(p2 b).2.W.e_)) (two (b:=(1,[(p1 b).1],(p1 b).2.W.b_,(p1 b).2.W.at_,(p1 b).2.W.e_)) (c:=(2,[(p1 b).1,(p2 b).1],(p2 b).2.W.b_,(p2 b).2.W.at_,(p2 b).2.W.e_)) ?_ ?_ rfl) ?_
  ·unfold nA;refine ct rfl ?_;refine bd (a:=((32:Nat):Int)) (kD 1) ?_;refine bd (vL (u2 b).2 32 ok2) ?_;exact bd (yF (by simp)) rfl
  ·unfold nA;refine ct rfl ?_;refine bd (a:=((32:Nat):Int)) (kD 1) ?_;refine bd (vL (p1 b).2 32 ok3) ?_;exact bd (yF (by simp)) rfl
  refine bd (vL (p2 b).2 64 ok4) ?_;refine bd (a:=(bif qT (p3 b).2 != 0 then true else !y)) ?_ ?_
  ·refine bd (aK (p3 b).2 ok5) ?_;show (bif qT (p3 b).2 != 0 then some true else _)=_;cases qT (p3 b).2 != 0
   ·exact bd hx rfl
   ·rfl
  ·cases (bif qT (p3 b).2 != 0 then true else !y)<;>rfl
 ·unfold vU;refine bd (a:=(RS.mk b 0 0).R) rfl ?_;refine bd (uK _ 1 ok0 (by omega) (by omega)) ?_;refine bd (uK (u1 b).2 1 ok1 (by omega) (by omega)) ?_;refine bd (n6 (u2 b).2 32 ok2) ?_;refine bd (n6 (p1 b).2 32 ok3) ?_;refine bd (n6 (p2 b).2 64 ok4) ?_;refine bd (a:=(bif qT (p3 b).2 != 0 then true else !y)) ?_ ?_
  ·refine bd (zIo (p3 b).2 ok5) ?_;show (bif qT (p3 b).2 != 0 then some true else _)=_;cases qT (p3 b).2 != 0
   ·exact bd hy rfl
   ·rfl
  ·cases (bif qT (p3 b).2 != 0 then true else !y)<;>rfl
set_option maxRecDepth 100000
def beW (l:By):Nat:=l.foldl (λa x=>a*256+x.toNat) 0
theorem zS8 (l:By) (x:UInt8):beW (l++[x])=beW l*256+x.toNat:=by
 unfold beW;rw [List.foldl_append];rfl
theorem zHb (l:By) (k:Nat) (h:k<l.length):beW (l.take (k+1))=beW (l.take k)*256+l[k].toNat:=by
 rw [List.take_add_one];simp only [List.getElem?_eq_getElem h,Option.toList];exact zS8 _ _
theorem zEp (l:By):∀ k,k<=l.length->beW (l.take k)<256 ^ k
 | 0,_=>by simp [beW]
 | k+1,h=>by
  have:=zEp l k (by omega);have hx:=(l[k]'(by omega)).toNat_lt;rw [zHb l k (by omega),Nat.pow_succ];omega
theorem zJ3 (l:By):∀ k,k<=l.length->k<=6->beV l k=(beW (l.take k):Int)
 | 0,_,_=>by simp [beV,beW]
 | k+1,h,h6=>by
  have ih:=zJ3 l k (by omega) (by omega);have hlt:=zEp l k (by omega);have h256:256 ^ k<=256 ^ 6:=Qi (by decide) (by omega);have hg:l.getD k 0=l[k]:=by simp [show k<l.length by omega]
  have hx:=(l[k]'(by omega)).toNat_lt;unfold beV;rw [ih,hg,zMo _ _ (by omega) (by omega),zHb l k (by omega)]
theorem six (l:By) (h:l.length=6):beN (beW l:Int) 6 6=l:=by
 match l,h with
 | [a,b,c,d,e,f],_=>
  have ha:=a.toNat_lt;have hb:=b.toNat_lt;have hc:=c.toNat_lt;have hd:=d.toNat_lt;have he:=e.toNat_lt;have hf:=f.toNat_lt;have hn:beW [a,b,c,d,e,f]=((((a.toNat*256+b.toNat)*256+c.toNat)*256+d.toNat)*256+e.toNat)*256+f.toNat:=by
   simp [beW]
  generalize beW [a,b,c,d,e,f]=n at hn;have hg:∀ k,k<6->((beN (n:Int) 6 6).getD k 0).toNat=n / 256 ^ (6 - (k+1)) % 256:=λk hk=>zGt n 6 k (by omega) hk (by omega);have hl:=lB (n:Int) 6 6;generalize beN (n:Int) 6 6=m at hg hl
  match m,hl with
  | [a',b',c',d',e',f'],_=>
   have g0:a'.toNat=n / 1099511627776 % 256:=hg 0 (by omega);have g1:b'.toNat=n / 4294967296 % 256:=hg 1 (by omega);have g2:c'.toNat=n / 16777216 % 256:=hg 2 (by omega);have g3:d'.toNat=n / 65536 % 256:=hg 3 (by omega);have g4:e'.toNat=n / 256 % 256:=hg 4 (by omega);have g5:f'.toNat=n / 1 % 256:=hg 5 (by omega);have k0:a'=a:=Q5.mp (by omega);have k1:b'=b:=Q5.mp (by omega);have k2:c'=c:=Q5.mp (by omega);have k3:d'=d:=Q5.mp (by omega);have k4:e'=e:=Q5.mp (by omega);have k5:f'=f:=Q5.mp (by omega);rw [k0,k1,k2,k3,k4,k5]
def rsW (b:By):Nat:=beW ((b.drop 5).take 6)
structure zUn (b:By):Prop where
 l:11<=b.length
 m:b.take 4=[83,87,76,49]
 a1:1<=(b.getD 4 0).toNat
 a3:(b.getD 4 0).toNat<=3
 r:rsW b<=1099511627776
def aE:zV:=⟨0,0,[]⟩
theorem zJn (a r:Int) (h:¬ (1<=a/\a<=3/\0<=r/\r<=1099511627776)):uH a r=some []/\wW a r=some []:=by
 have e:(bif decide (a<1) then some true else bif decide (3<a) then some true else bif decide (r<0) then some true else some (decide (1099511627776<r)):Option Bool)=some true:=by
  by_cases h1:a<1
  ·exact ct (by simpa using h1) rfl
  refine cf (by simpa using h1) ?_;by_cases h2:3<a
  ·exact ct (by simpa using h2) rfl
  refine cf (by simpa using h2) ?_;by_cases h3:r<0
  ·exact ct (by simpa using h3) rfl
  refine cf (by simpa using h3) ?_;rw [show decide (1099511627776<r)=true by simp;omega]
 constructor
 ·unfold uH;exact bd e rfl
 ·unfold wW;exact bd e rfl
theorem zOe (b:By) (hb:b.length<=8192):(zUn b->tP b=some (⟨((b.getD 4 0).toNat:Int),(rsW b:Int),[]⟩,true))/\(¬ zUn b->tP b=some (aE,false)):=by
 by_cases hl:11<=b.length
 case neg=>
  refine ⟨λh=>absurd h.l hl,λ_=>?_⟩;unfold tP;exact ct (by simp;omega) rfl
 have h6:((b.drop 5).take 6).length=6:=by simp;omega
 have hlt:=zEp ((b.drop 5).take 6) 6 (by omega);rw [Q8 (by omega)] at hlt;have h4:=(b.getD 4 0).toNat_lt;have lp:zK (rR b) FU (0,5)=some (rsW b:Int):=by
  refine yB 6 (λi=>((beW (((b.drop 5).take 6).take i):Int),((5+i:Nat):Int))) rfl (λi hi=>?_) ?_ (xI (by decide))
  ·have hi2:=zEp ((b.drop 5).take 6) i (by omega);have h256:256 ^ i<=256 ^ 5:=Qi (by decide) (by omega);have hx:=(((b.drop 5).take 6)[i]'(by omega)).toNat_lt;unfold rR;refine ct (by simp;omega) ?_;refine bd (yT (show 5+i<b.length by omega)) ?_;have hg:b[5+i]'(by omega)=((b.drop 5).take 6)[i]'(by omega):=by simp
   rw [hg,zHb _ i (by omega)];generalize beW (((b.drop 5).take 6).take i)=n at *;generalize (((b.drop 5).take 6)[i]'(by omega)).toNat=x at *;refine ltk ?_;rw [zZ (n:=(n:Int)*256) (by omega) (by omega),zZ (n:=(x:Int)) (by omega) (by omega),zZ (n:=(n:Int)*256+(x:Int)) (by omega) (by omega),zZ (n:=((5+i:Nat):Int)+1) (by omega) (by omega)];rfl
  ·unfold rR;refine cf rfl ?_;unfold rsW;rw [Q8 (by omega)]
 have i4:idx b 4=some (b.getD 4 0):=by
  rw [show (4:Int)=((4:Nat):Int) from rfl,yT (by omega)];simp [show 4<b.length by omega]
 have sb:sub b 0 11=some (b.take 11):=by
  rw [show (0:Int)=((0:Nat):Int) from rfl,show (11:Int)=((11:Nat):Int) from rfl,uL (by omega) (by omega)];simp
 have w4:Q3.wrap ((b.getD 4 0).toNat:Int)=((b.getD 4 0).toNat:Int):=zZ (by omega) (by omega);have hcut:b.take 11=b.take 4++(b.getD 4 0 :: (b.drop 5).take 6):=by
  have:b.take 11=b.take 4++(b.drop 4).take 7:=by rw [<- List.take_add]
  rw [this];have h4':b.drop 4=b.getD 4 0 :: b.drop 5:=by
   rw [Q6 (show 4<b.length by omega)];congr 1;simp [show 4<b.length by omega]
  rw [h4'];rfl
 have hu8:u8 ((b.getD 4 0).toNat:Int)=b.getD 4 0:=by
  apply Q5.mp;rw [tY];exact Nat.mod_eq_of_lt h4
 constructor
 ·intro h;have hr:=h.r;have hA:=h.a1;have hB:=h.a3;unfold tP;refine cf (by simp;omega) ?_;refine bd lp ?_;refine bd sb ?_;refine bd i4 ?_;rw [w4];refine bd (zJu _ _ (by omega) (by omega) (by omega) (by omega)) ?_;refine bd (a:=true) ((uB _ _ (by simp;omega)).trans ?_) ?_
  ·rw [hcut,h.m];unfold zVr;rw [hu8];unfold rsW;rw [six _ h6];simp
  refine cf rfl ?_;exact bd i4 (by rw [w4])
 ·intro h;unfold tP;refine cf (by simp;omega) ?_;refine bd lp ?_;refine bd sb ?_;refine bd i4 ?_;rw [w4];by_cases hh:1<=((b.getD 4 0).toNat:Int)/\((b.getD 4 0).toNat:Int)<=3/\0<=(rsW b:Int)/\(rsW b:Int)<=1099511627776
  ·refine bd (zJu _ _ hh.1 hh.2.1 hh.2.2.1 hh.2.2.2) ?_;refine bd (a:=false) ((uB _ _ (by simp;omega)).trans ?_) rfl;have hm:b.take 4≠[83,87,76,49]:=λhm=>h ⟨hl,hm,by omega,by omega,by omega⟩;refine congrArg some ?_;rw [beq_eq_false_iff_ne,hcut];unfold zVr;intro he;have:=congrArg (List.take 4) he;rw [Qd (by simp;omega),Qd (by decide)] at this;rw [List.take_take] at this;exact hm (by simpa using this)
  ·refine bd (zJn _ _ hh).1 ?_;refine bd (a:=false) ((uB _ _ (by simp;omega)).trans ?_) rfl;refine congrArg some ?_;rw [beq_eq_false_iff_ne,hcut];intro he;have:=congrArg List.length he;simp at this
set_option maxRecDepth 100000
theorem zXi (r:RS):v2 r<=65535:=by
 have h1:=(r.b.getD r.at' 0).toNat_lt;have h2:=(r.b.getD (r.at'+1) 0).toNat_lt;unfold v2;omega
theorem zP1 (b:By) (p:Nat) (active:Int) (hb:b.length<=8192) (hp:p<b.length) (r:zC×Int) (hr:vU ((b.drop (p+2)).take (v2 ⟨b,p,0⟩))=some r) (c:Int) (hc:qX r.1 active=some c) :
  hJ b (p:Int) active=some (if b.length - p<2+v2 ⟨b,p,0⟩∨b.length - p<2 then (⟨0,0,[],[]⟩,0,2) else if r.2≠0∨c≠0 then (⟨0,0,[],[]⟩,0,30) else (r.1,((p+2+v2 ⟨b,p,0⟩:Nat):Int),0)):=by
 have hv:=zXi ⟨b,p,0⟩;have wl:Q3.wrap ((b.length:Int) - (p:Int))=((b.length - p:Nat):Int):=by rw [zZ (by omega) (by omega)];omega
 unfold hJ;rw [wl];by_cases h2:b.length - p<2
 ·rw [if_pos (.inr h2)];exact ct (by simp;omega) rfl
 refine cf (by simp;omega) ?_;have hx:=(b.getD p 0).toNat_lt;have hy:=(b.getD (p+1) 0).toNat_lt;refine bd (ig (show p<b.length by omega)) ?_;refine ltk ?_;rw [yM (show p<2 ^ 40 by omega)];refine bd (ig (show p+1<b.length by omega)) ?_;refine ltk ?_;refine ltk ?_;have e1:Q3.wrap (Q3.wrap (Q3.wrap ((b.getD p 0).toNat:Int)*256)+Q3.wrap ((b.getD (p+1) 0).toNat:Int))=(v2 ⟨b,p,0⟩:Int):=by
  rw [zZ (n:=((b.getD p 0).toNat:Int)) (by omega) (by omega),zZ (n:=((b.getD (p+1) 0).toNat:Int)) (by omega) (by omega),zZ (n:=((b.getD p 0).toNat:Int)*256) (by omega) (by omega),zZ (by omega) (by omega)];show _=(((b.getD p 0).toNat*256+(b.getD (p+1) 0).toNat:Nat):Int);omega
 rw [e1,zZ (n:=((b.length - p:Nat):Int) - 2) (by omega) (by omega)];by_cases h3:b.length - p<2+v2 ⟨b,p,0⟩
 ·rw [if_pos (.inl h3)];exact ct (by simp;omega) rfl
 rw [if_neg (by omega)];refine cf (by simp;omega) ?_;rw [zZ (n:=(p:Int)+2) (by omega) (by omega),zZ (n:=(p:Int)+2+(v2 ⟨b,p,0⟩:Int)) (by omega) (by omega)];refine bd (a:=(b.drop (p+2)).take (v2 ⟨b,p,0⟩)) ?_ ?_
 ·rw [show (p:Int)+2=((p+2:Nat):Int) by omega,show ((p+2:Nat):Int)+(v2 ⟨b,p,0⟩:Int)=((p+2+v2 ⟨b,p,0⟩:Nat):Int) by omega,uL (by omega) (by omega)];congr 2;omega
 refine bd hr ?_;obtain ⟨ev,er⟩:=r;by_cases he:er=0
 ·refine bd (a:=(c != 0)) (cf (by simp [he]) (bd hc rfl)) ?_;by_cases hc0:c=0
  ·rw [if_neg (by simp [he,hc0])];refine cf (by simp [hc0]) ?_;exact congrArg some (by congr 2)
  ·rw [if_pos (.inr hc0)];exact ct (by simp [hc0]) rfl
 ·rw [if_pos (.inl he)];refine bd (a:=true) (ct (by simp [he]) rfl) ?_;exact ct rfl rfl
theorem zL7 (b:By) (A R:Int) (hb:b.length<=8192) (hl:11<=b.length):∃ x y,zK (xL b A) FU (11,[],b,11,0)=some x/\zK (vS b ⟨A,R,[]⟩) FU (11,[])=some y/\((x.2.1=0/\y=.inr x.2.2)∨(x.2.1≠0/\y=.inl (aE,x.2.1))):=by
 refine zAx (s1:=xL b A) (s2:=vS b ⟨A,R,[]⟩) (λs t=>∃ p:Nat,p<=b.length/\s.2.2=(b,(p:Int),0)/\t=((p:Int),s.2.1)/\s.2.1.length<=40) (λs=>b.length - s.2.2.2.1.toNat) (λx y=>(x.2.1=0/\y=.inr x.2.2)∨(x.2.1≠0/\y=.inl (aE,x.2.1))) (λs t hst=>?_) FU _ _ ⟨11,hl,rfl,rfl,by simp⟩ (xI (by simp;omega));obtain ⟨at0,l,bb,pp,ee⟩:=s;obtain ⟨p,hp,h1,h2,h40⟩:=hst;simp only [Prod.mk.injEq] at h1;obtain ⟨rfl,rfl,rfl⟩:=h1;subst h2;simp only at h40;have ok:(RS.mk bb p 0).Ok:=⟨hp,by show bb.length<_;omega⟩;have hleft:(RS.mk bb p 0).left=bb.length - p:=rfl;have hlf:Q3.wrap ((bb.length:Int) - (p:Int))=((RS.mk bb p 0).left:Int):=dV _ ok;by_cases hlt:p<bb.length
 case neg=>
  refine ⟨.inr (at0,0,l),.inr (.inr l),?_,?_,.inl ⟨rfl,rfl⟩⟩
  ·unfold xL;refine bd (a:=(((RS.mk bb p 0).left:Int),(RS.mk bb p 0).W)) (congrArg some (by rw [<- hlf];rfl)) ?_;exact cf (by simp;omega) rfl
  ·unfold vS;exact cf (by simp;omega) rfl
 have hblob:=vL (RS.mk bb p 0) 65535 ok;have hbl:(yX (RS.mk bb p 0) 65535).1.length<2 ^ 40:=by have:=zJv (RS.mk bb p 0) 65535;have e:(RS.mk bb p 0).b=bb:=rfl;rw [e] at this;omega
 obtain ⟨r,hd1,hd2⟩:=zMb (yX (RS.mk bb p 0) 65535).1 hbl;by_cases hfull:l.length=40
 ·refine ⟨.inr (at0,25,l),.inr (.inl (aE,25)),?_,?_,.inr ⟨by show (25:Int)≠0;decide,rfl⟩⟩
  ·unfold xL;refine bd (a:=(((RS.mk bb p 0).left:Int),(RS.mk bb p 0).W)) (congrArg some (by rw [<- hlf];rfl)) ?_;refine ct (by simp;omega) ?_;refine bd hblob ?_;refine bd hd1 ?_;exact ct (by simp [hfull]) rfl
  ·unfold vS;refine ct (by simp;omega) ?_;exact ct (by simp;omega) rfl
 have hv:=zXi (RS.mk bb p 0);by_cases hsh:bb.length - p<2+v2 (RS.mk bb p 0)∨bb.length - p<2
 ·have he:(yX (RS.mk bb p 0) 65535).2.e=2:=by
   unfold yX;rw [if_neg (by simp),hleft];by_cases h2:bb.length - p<2
   ·rw [if_pos h2];rfl
   ·rw [if_neg h2,if_neg (by omega),if_pos (by omega)];rfl
  refine ⟨.inr (at0,2,l),.inr (.inl (aE,2)),?_,?_,.inr ⟨by show (2:Int)≠0;decide,rfl⟩⟩
  ·unfold xL;refine bd (a:=(((RS.mk bb p 0).left:Int),(RS.mk bb p 0).W)) (congrArg some (by rw [<- hlf];rfl)) ?_;refine ct (by simp;omega) ?_;refine bd hblob ?_;refine bd hd1 ?_;refine cf (by simp;omega) ?_;refine bd (a:=(2,(yX (RS.mk bb p 0) 65535).2.W)) (congrArg some (by show ((yX (RS.mk bb p 0) 65535).2.e,_)=_;rw [he])) ?_;exact ct rfl rfl
  ·obtain ⟨q,hq⟩:∃ q,vU ((bb.drop (p+2)).take (v2 ⟨bb,p,0⟩))=some q:=by
    obtain ⟨q,_,hq⟩:=zMb ((bb.drop (p+2)).take (v2 ⟨bb,p,0⟩)) (by simp;omega);exact ⟨q,hq⟩
   obtain ⟨c,hc,_⟩:=zKv q.1 A;have hn:=zP1 bb p A hb hlt q hq c hc;rw [if_pos hsh] at hn;unfold vS;refine ct (by simp;omega) ?_;refine cf (by simp;omega) ?_;refine bd hn ?_;exact ct rfl rfl
 have hbr:yX (RS.mk bb p 0) 65535=((bb.drop (p+2)).take (v2 ⟨bb,p,0⟩),⟨bb,p+(2+v2 ⟨bb,p,0⟩),0⟩):=by
  unfold yX;rw [if_neg (by simp),hleft,if_neg (by omega),if_neg (by omega),if_neg (by omega)];rfl
 rw [hbr] at hblob hd1 hd2;obtain ⟨c,hc,hci⟩:=zKv r.1 A;obtain ⟨c',hc',hci'⟩:=zBx r.1 A;have hcc:c'=0↔c=0:=hci'.trans hci.symm;have hn:=zP1 bb p A hb hlt r hd2 c hc;rw [if_neg hsh] at hn;obtain ⟨ev,er⟩:=r;by_cases hbad:er≠0∨c≠0
 ·rw [if_pos hbad] at hn;refine ⟨.inr (at0,30,l),.inr (.inl (aE,30)),?_,?_,.inr ⟨by show (30:Int)≠0;decide,rfl⟩⟩
  ·unfold xL;refine bd (a:=(((RS.mk bb p 0).left:Int),(RS.mk bb p 0).W)) (congrArg some (by rw [<- hlf];rfl)) ?_;refine ct (by simp;omega) ?_;refine bd hblob ?_;refine bd hd1 ?_;refine cf (by simp;omega) ?_;refine bd (a:=(0,(RS.mk bb (p+(2+v2 ⟨bb,p,0⟩)) 0).W)) rfl ?_;refine cf rfl ?_;refine bd (a:=true) ?_ (ct rfl rfl);by_cases he:er=0
   ·have hc0:c≠0:=hbad.resolve_left (λh=>h he);have hc0':c'≠0:=λh=>hc0 (hcc.1 h);exact cf (by simp [he]) (bd hc' (congrArg some (by simp [hc0'])))
   ·exact ct (by simp [he]) rfl
  ·unfold vS;refine ct (by simp;omega) ?_;refine cf (by simp;omega) ?_;refine bd hn ?_;exact ct rfl rfl
 ·rw [if_neg hbad] at hn;have he:er=0:=Classical.byContradiction λh=>hbad (.inl h);have hc0:c=0:=Classical.byContradiction λh=>hbad (.inr h);have hc0':c'=0:=hcc.2 hc0;subst he hc0 hc0';have ok':(RS.mk bb (p+2+v2 ⟨bb,p,0⟩) 0).Ok:=⟨by show p+2+_<=bb.length;omega,by show bb.length<_;omega⟩;have hlf':Q3.wrap ((bb.length:Int) - ((p+2+v2 ⟨bb,p,0⟩:Nat):Int))=((RS.mk bb (p+2+v2 ⟨bb,p,0⟩) 0).left:Int):=dV _ ok';rw [show p+(2+v2 ⟨bb,p,0⟩)=p+2+v2 ⟨bb,p,0⟩ by omega] at hblob;refine ⟨.inl (Q3.wrap ((bb.length:Int) - ((RS.mk bb (p+2+v2 ⟨bb,p,0⟩) 0).left:Int)),l++[ev],bb,((p+2+v2 ⟨bb,p,0⟩:Nat):Int),0),.inl (((p+2+v2 ⟨bb,p,0⟩:Nat):Int),l++[ev]),?_,?_,⟨p+2+v2 ⟨bb,p,0⟩,by omega,rfl,rfl,by simp;omega⟩,by simp only [Int.toNat_natCast];omega⟩
  ·unfold xL;refine bd (a:=(((RS.mk bb p 0).left:Int),(RS.mk bb p 0).W)) (congrArg some (by rw [<- hlf];rfl)) ?_;refine ct (by simp;omega) ?_;refine bd hblob ?_;refine bd hd1 ?_;refine cf (by simp;omega) ?_;refine bd (a:=(0,(RS.mk bb (p+2+v2 ⟨bb,p,0⟩) 0).W)) rfl ?_;refine cf rfl ?_;refine bd (a:=false) (cf rfl (bd hc' rfl)) ?_;refine cf rfl ?_;refine bd (yF (by simp;omega)) ?_;exact bd (a:=(((RS.mk bb (p+2+v2 ⟨bb,p,0⟩) 0).left:Int),(RS.mk bb (p+2+v2 ⟨bb,p,0⟩) 0).W)) (congrArg some (by rw [<- hlf'];rfl)) rfl
  ·unfold vS;refine ct (by simp;omega) ?_;refine cf (by simp;omega) ?_;refine bd hn ?_;refine cf rfl ?_;exact bd (yF (by simp;omega)) rfl
set_option maxRecDepth 100000
theorem get0 {b:By}:(RS.mk b 0 0).get 4=b.take 4:=by
 show (b.drop 0).take 4=_;simp
theorem zV7 (b:By) (hb:b.length<=8192) (h:¬ zUn b):vK b=some (aE,0,5):=by
 have ok0:(RS.mk b 0 0).Ok:=⟨Qc _,by show b.length<_;omega⟩;unfold vK;refine bd (a:=(aE,0,5)) ?_ rfl;refine bd (zQn b (by omega)) ?_;refine bd (nN _ 4 ok0) ?_;by_cases hm:(uN (RS.mk b 0 0) 4).1=[83,87,76,49]
 case neg=>exact ct (by simp [hm]) rfl
 refine cf (by simp [hm]) ?_;have h4:4<=b.length/\uN (RS.mk b 0 0) 4=(b.take 4,⟨b,4,0⟩):=by
  unfold uN at hm ⊢;rw [if_neg (by simp)] at hm ⊢;by_cases hl:(RS.mk b 0 0).left<4
  ·rw [if_pos hl] at hm;cases hm
  ·rw [if_neg hl] at hm ⊢;have:(RS.mk b 0 0).left=b.length:=by simp [RS.left]
   exact ⟨by omega,by rw [get0];rfl⟩
 rw [h4.2] at hm ⊢;have hm:b.take 4=[83,87,76,49]:=hm;have ok1:(RS.mk b 4 0).Ok:=⟨h4.1,by show b.length<_;omega⟩;have ok2:(yG (RS.mk b 4 0) 1).2.Ok:=vA _ _ ok1;refine bd (yZ _ 1 ok1 (by omega) (by omega)) ?_;refine bd (yZ _ 6 ok2 (by omega) (by omega)) ?_;refine bd (a:=(true,(yG (yG (RS.mk b 4 0) 1).2 6).2.W.b_,(yG (yG (RS.mk b 4 0) 1).2 6).2.W.at_,(yG (yG (RS.mk b 4 0) 1).2 6).2.W.e_)) ?_ (ct rfl rfl);refine bd (a:=((yG (yG (RS.mk b 4 0) 1).2 6).2.e,(yG (yG (RS.mk b 4 0) 1).2 6).2.W)) rfl ?_;by_cases hl:11<=b.length
 ·have e4:b.drop 4=b.getD 4 0 :: b.drop 5:=by
   rw [Q6 (show 4<b.length by omega)];congr 1;simp [show 4<b.length by omega]
  have hbx:=(b.getD 4 0).toNat_lt;have q1:Rem ⟨b,4,0⟩ ([b.getD 4 0]++b.drop 5):=⟨rfl,h4.1,e4⟩;have v1:beV [b.getD 4 0] 1=((b.getD 4 0).toNat:Int):=by
   have:=zJ3 [b.getD 4 0] 1 (by simp) (by omega);rw [this];simp [beW]
  have f1:=q1.uintV (n:=1) rfl v1 (by omega) (by omega);rw [f1];have h6:((b.drop 5).take 6).length=6:=by simp;omega
  have q2:Rem ((RS.mk b 4 0).to 1) ((b.drop 5).take 6++(b.drop 5).drop 6):=(q1.to rfl).eqv (Qh 6 _);have hlt:=zEp ((b.drop 5).take 6) 6 (by omega);have v2:=zJ3 ((b.drop 5).take 6) 6 (by omega) (by omega);rw [Q8 (l:=(b.drop 5).take 6) (by omega)] at hlt v2;have f2:=q2.uintV (n:=6) h6 v2 (by omega) (by omega);rw [f2];refine cf rfl ?_;refine bd (zJn _ _ (λhh=>?_)).2 rfl;exact h ⟨hl,hm,by have:=hh.1;simp only at this;omega,by have:=hh.2.1;simp only at this;omega,by have:=hh.2.2.2;simp only at this;unfold rsW;omega⟩
 ·have he:(yG (yG (RS.mk b 4 0) 1).2 6).2.e=2:=by
   by_cases h5:b.length<5
   ·have e1:yG (RS.mk b 4 0) 1=(0,⟨b,4,2⟩):=by
     unfold yG;rw [if_neg (by simp),if_pos (by simp [RS.left];omega)];rfl
    rw [e1];unfold yG;rw [if_pos (by simp)]
   ·have e4:b.drop 4=b.getD 4 0 :: b.drop 5:=by
     rw [Q6 (show 4<b.length by omega)];congr 1;simp [show 4<b.length by omega]
    have hbx:=(b.getD 4 0).toNat_lt;have q1:Rem ⟨b,4,0⟩ ([b.getD 4 0]++b.drop 5):=⟨rfl,h4.1,e4⟩;have v1:beV [b.getD 4 0] 1=((b.getD 4 0).toNat:Int):=by
     have:=zJ3 [b.getD 4 0] 1 (by simp) (by omega);rw [this];simp [beW]
    have f1:=q1.uintV (n:=1) rfl v1 (by omega) (by omega);rw [f1];unfold yG;rw [if_neg (by simp [RS.to]),if_pos (by simp [RS.left,RS.to];omega)];rfl
  rw [he];exact ct rfl rfl
theorem zSm (b:By) (hb:b.length<=8192) (h:zUn b):vK b=(zK (xL b ((b.getD 4 0).toNat:Int)) FU (11,[],b,11,0)).bind λx=>some (⟨((b.getD 4 0).toNat:Int),(rsW b:Int),x.2.2⟩,x.1,x.2.1):=by
 have hl:=h.l;have hm:=h.m;have ok0:(RS.mk b 0 0).Ok:=⟨Qc _,by show b.length<_;omega⟩;have ok1:(RS.mk b 4 0).Ok:=⟨by show 4<=b.length;omega,by show b.length<_;omega⟩;have e0:uN (RS.mk b 0 0) 4=(b.take 4,⟨b,4,0⟩):=by
  unfold uN;have:(RS.mk b 0 0).left=b.length:=by simp [RS.left]
  rw [if_neg (by simp),if_neg (by omega),get0];rfl
 have e4:b.drop 4=b.getD 4 0 :: b.drop 5:=by
  rw [Q6 (show 4<b.length by omega)];congr 1;simp [show 4<b.length by omega]
 have hbx:=(b.getD 4 0).toNat_lt;have q1:Rem ⟨b,4,0⟩ ([b.getD 4 0]++b.drop 5):=⟨rfl,by show 4<=b.length;omega,e4⟩;have v1:beV [b.getD 4 0] 1=((b.getD 4 0).toNat:Int):=by
  have:=zJ3 [b.getD 4 0] 1 (by simp) (by omega);rw [this];simp [beW]
 have f1:=q1.uintV (n:=1) rfl v1 (by omega) (by omega);have h6:((b.drop 5).take 6).length=6:=by simp;omega
 have q2:Rem ((RS.mk b 4 0).to 1) ((b.drop 5).take 6++(b.drop 5).drop 6):=(q1.to rfl).eqv (Qh 6 _);have hlt:=zEp ((b.drop 5).take 6) 6 (by omega);have v2:=zJ3 ((b.drop 5).take 6) 6 (by omega) (by omega);rw [Q8 (l:=(b.drop 5).take 6) (by omega)] at hlt v2;have f2:=q2.uintV (n:=6) h6 v2 (by omega) (by omega);have ok2:((RS.mk b 4 0).to 1).Ok:=⟨by show 5<=b.length;omega,by show b.length<_;omega⟩;have a1:=h.a1;have a3:=h.a3;have r1:=h.r;obtain ⟨hd,hd1,hd2⟩:=zOr ((b.getD 4 0).toNat:Int) (rsW b:Int) (by omega) (by omega) (by omega) (by omega);unfold vK;have key:((kL b).bind λv_1091=>(vY v_1091 4).bind λz=>some z)=some ([83,87,76,49],(RS.mk b 4 0).W):=by
  refine bd (zQn b (by omega)) ?_;exact bd ((nN _ 4 ok0).trans (by rw [e0,hm])) rfl
 rw [show ∀ (o:Option (Int×Int×List zC)),(o.bind λx=>some ((⟨((b.getD 4 0).toNat:Int),(rsW b:Int),x.2.2⟩:zV),x.1,x.2.1))=(o.bind λx=>some ((⟨((b.getD 4 0).toNat:Int),(rsW b:Int),x.2.2⟩:zV),x.1,x.2.1)).bind λj=>some j from λo=>by cases o<;>rfl];congr 1;refine bd (zQn b (by omega)) ?_;refine bd ((nN _ 4 ok0).trans (by rw [e0,hm])) ?_;refine cf rfl ?_;refine bd ((yZ _ 1 ok1 (by omega) (by omega)).trans (by rw [f1])) ?_;refine bd ((yZ _ 6 ok2 (by omega) (by omega)).trans (by rw [f2])) ?_;refine bd (a:=(false,b,11,0)) ?_ ?_
 ·refine bd (a:=(0,(((RS.mk b 4 0).to 1).to 6).W)) rfl ?_;refine cf rfl ?_;refine bd hd1 ?_;rw [hd2];rfl
 ·exact cf rfl rfl
theorem zOi (b:By):∃ r,uX b=some r/\kS b=some r:=by
 unfold uX kS;by_cases hb:8192<b.length
 ·exact ⟨(aE,4),ct (by simp;omega) rfl,ct (by simp;omega) rfl⟩
 have hb':b.length<=8192:=by omega
 have hH:=zOe b hb';by_cases h:zUn b
 ·obtain ⟨x,y,hx,hy,hxy⟩:=zL7 b ((b.getD 4 0).toNat:Int) (rsW b:Int) hb' h.l;have hs:=zSm b hb' h;rw [hx] at hs;obtain ⟨at0,er,l⟩:=x;rcases hxy with ⟨he,rfl⟩ | ⟨he,rfl⟩
  ·have he:er=0:=he;subst he;refine ⟨(⟨((b.getD 4 0).toNat:Int),(rsW b:Int),l⟩,0),?_,?_⟩
   ·refine cf (by simp;omega) ?_;refine bd hs ?_;exact cf rfl rfl
   ·refine cf (by simp;omega) ?_;refine bd (hH.1 h) ?_;refine cf rfl ?_;exact bd hy rfl
  ·have he:er≠0:=he;refine ⟨(aE,er),?_,?_⟩
   ·refine cf (by simp;omega) ?_;refine bd hs ?_;exact ct (by simp [he]) rfl
   ·refine cf (by simp;omega) ?_;refine bd (hH.1 h) ?_;refine cf rfl ?_;exact bd hy rfl
 ·refine ⟨(aE,5),?_,?_⟩
  ·refine cf (by simp;omega) ?_;refine bd (zV7 b hb' h) ?_;exact ct rfl rfl
  ·refine cf (by simp;omega) ?_;refine bd (hH.2 h) ?_;exact ct rfl rfl
theorem zG4 {A B:Type} (l:List α) {s1:Int->Option (Int ⊕ (A ⊕ Unit))} {s2:Int->Option (Int ⊕ (B ⊕ Unit))} (Q:A->B->Prop) (hl:l.length<2 ^ 40)
  (h:∀ i,i<l.length->(∃ a b,Q a b/\s1 (i:Int)=some (.inr (.inl a))/\s2 (i:Int)=some (.inr (.inl b)))∨(s1 (i:Int)=some (.inl ((i+1:Nat):Int))/\s2 (i:Int)=some (.inl ((i+1:Nat):Int))))
  (e1:s1 (l.length:Int)=some (.inr (.inr ()))) (e2:s2 (l.length:Int)=some (.inr (.inr ()))) :
  (∃ a b,Q a b/\zK s1 FU 0=some (.inl a)/\zK s2 FU 0=some (.inl b))∨(zK s1 FU 0=some (.inr ())/\zK s2 FU 0=some (.inr ())):=by
 have key:=zAx (s1:=s1) (s2:=s2) (λa b=>a=b/\∃ i:Nat,a=(i:Int)/\i<=l.length) (λa=>l.length - a.toNat) (λx y=>match x,y with | .inl a,.inl b=>Q a b | .inr _,.inr _=>True | _,_=>False) (λa b hab=>?_) FU 0 0 ⟨rfl,0,rfl,by omega⟩ (by simp [FU];omega)
 ·obtain ⟨x,y,h1,h2,h3⟩:=key;cases x with
  | inl a=>
   cases y with
   | inl b=>exact .inl ⟨a,b,h3,h1,h2⟩
   | inr _=>exact h3.elim
  | inr _=>
   cases y with
   | inl b=>exact h3.elim
   | inr _=>exact .inr ⟨h1,h2⟩
 ·obtain ⟨rfl,i,rfl,hi⟩:=hab;by_cases hlt:i<l.length
  ·rcases h i hlt with ⟨a,b,hq,h1,h2⟩ | ⟨h1,h2⟩
   ·exact ⟨_,_,h1,h2,hq⟩
   ·refine ⟨_,_,h1,h2,⟨rfl,i+1,rfl,by omega⟩,?_⟩;show l.length - (((i+1:Nat):Int)).toNat<l.length - ((i:Int)).toNat;omega
  ·have:i=l.length:=by omega
   subst this;exact ⟨_,_,e1,e2,trivial⟩
set_option maxRecDepth 100000
structure EvT (e:zC):Prop extends EvS e where
 k1:1<=e.Kind
 k5:e.Kind<=5
 l:∀ a,(h:a<e.Digests.length)->e.Digests[a].length<2 ^ 40
theorem zJz (e:zC) (h:EvT e):∃ v,w9 e=some v/\vG e=some v:=by
 obtain ⟨v,h1,h2⟩:=zQt e h.k1 h.k5 h.d h.n;exact ⟨v,h1,Def.iff (zQ9 e h.k1 h.k5 h.d h.n h.l) h2⟩
theorem zZx (n:By) (v:Int) (hn:n.length<=12) (h0:0<=v) (h1:v<=1000000):s7 n v=some ((n++[32])++decF 20 v.toNat):=by
 obtain ⟨k,rfl⟩:=Int.eq_ofNat_of_zero_le h0;have:=eB 20 k;unfold s7;refine bd (ckT (cO (by omega))) ?_;refine bd (yF (by simp;omega)) ?_;refine bd (zEl 6 RF 20 k (by show k<10000000;omega) (by omega) (by decide) (by decide) (by decide)) ?_;exact bd (yF (by rw [List.length_append];simp only [List.length_cons,List.length_nil];omega)) rfl
theorem yA7 {r:Int} (h1:1<=r) (h3:r<=3):∃ v,sV r=some v/\uY r=some v:=⟨rgR r,zVq r h1 (by omega),zPi r⟩
theorem zWs (x:zS) (e:zC) (he:EvT e) (r1:1<=x.Role) (r3:x.Role<=3) (h0:0<=x.Version) (h1:x.Version<=1000000) (hn:x.Name.length<=12) (hd:x.Digest.length<2 ^ 40) :
  ∃ v,pQ x e=some v/\((uY x.Role).bind λa=>
  bif (a==e.Register) then
   ((idx e.Digests 1).bind λb=>
   (xY x.Digest b).bind λc=>
   bif c then
    ((s7 x.Name x.Version).bind λd=>
    (xY e.Data d).bind λf=>
    some f)
   else
   some false)
  else
  some false:Option Bool)=some v:=by
 obtain ⟨g,g1,g2⟩:=yA7 r1 r3;have hl:=eB 20 x.Version.toNat;have h2:1<e.Digests.length:=by rw [he.n];decide
 have hed:=he.d;unfold pQ;rw [g1,g2];by_cases hg:e.Register=g
 ·have i1:idx e.Digests 1=some e.Digests[1]:=yT h2;by_cases hD:e.Digests[1]=x.Digest
  ·refine ⟨e.Data==(x.Name++[32])++decF 20 x.Version.toNat,?_,?_⟩
   ·refine bd (a:=e.Data==(x.Name++[32])++decF 20 x.Version.toNat) ?_ rfl;refine bd rfl (ct (by simpa using hg) (ct (by simp;omega) (bd i1 (bd (kF _ _) (ct (by simpa using hD) ?_)))));refine bd (ckT (cO (by simp;omega))) ?_;refine bd (a:=decF 20 x.Version.toNat) ?_ (bd (ckT (cO (by simp;omega))) rfl);unfold strconv_Itoa;exact ct (by simp;omega) rfl
   ·refine bd rfl (ct (by simpa using hg.symm) (bd i1 (bd (uB _ _ hd) (ct (by simpa using hD.symm) ?_))));exact bd (zZx _ _ hn h0 h1) (bd (uB _ _ (by omega)) rfl)
  ·refine ⟨false,?_,?_⟩
   ·refine bd (a:=false) ?_ rfl;exact bd rfl (ct (by simpa using hg) (ct (by simp;omega) (bd i1 (bd (kF _ _) (cf (by simpa using hD) rfl)))))
   ·exact bd rfl (ct (by simpa using hg.symm) (bd i1 (bd (uB _ _ hd) (cf (by simpa using λh=>hD h.symm) rfl))))
 ·refine ⟨false,?_,?_⟩
  ·refine bd (a:=false) ?_ rfl;exact bd rfl (cf (by simpa using hg) rfl)
  ·exact bd rfl (cf (by simpa using λh=>hg h.symm) rfl)
theorem zRe (m:zG) (e:zC) (hm:MOk m) (hd:zM8 m) (he:EvT e):∃ v,lM m e=some v/\eX m e=some v:=by
 obtain ⟨c,hc,hg⟩:=zOf m hm;unfold lM eX;rw [zR6 m hm hd,hc];by_cases hc0:¬ c=0
 ·exact ⟨-1,bd rfl (ct (by simpa using hc0) rfl),bd (a:=true) (bd rfl (ct (by simpa using hc0) rfl)) (ct rfl rfl)⟩
 replace hc0:c=0:=Classical.not_not.1 hc0;have g:=hg hc0;have gn:=g.n;have gk:=g.k;subst hc0
 suffices h:∃ v,(Option.bind (bif (e.Kind==1) then _ else _) _:Option Int)=some v/\(Option.bind (bif (e.Kind==1) then _ else _) _:Option Int)=some v by
  obtain ⟨v,h1,h2⟩:=h;exact ⟨v,bd rfl (cf rfl h1),bd (a:=false) (bd rfl (cf rfl (by rw [he.n];rfl))) (cf rfl h2)⟩
 by_cases k1:e.Kind=1
 ·have key:=zG4 m.Entries (s1:=yQ m.Entries e) (s2:=oM m e) (λa b=>a=b) (by omega) (λi hi=>?_) (by unfold yQ;exact cf (by simp) rfl) (by unfold oM;exact cf (by simp) rfl)
  ·rcases key with ⟨a,b,rfl,p1,p2⟩ | ⟨p1,p2⟩
   ·exact ⟨a,bd (a:=(.inl a:Int ⊕ Unit)) (ct (by rw [k1];rfl) (bd (bd p1 rfl) rfl)) rfl,bd (a:=(.inl a:Int ⊕ Unit)) (ct (by rw [k1];rfl) (bd p2 rfl)) rfl⟩
   ·refine ⟨-1,bd (a:=(.inl (-1):Int ⊕ Unit)) (ct (by rw [k1];rfl) (bd (bd p1 rfl) rfl)) rfl,bd (a:=(.inr ():Int ⊕ Unit)) (ct (by rw [k1];rfl) (bd p2 rfl)) (bd (a:=(.inr ():Int ⊕ Unit)) (bd (a:=false) (cf (by rw [k1];rfl) rfl) (cf rfl rfl)) rfl)⟩
  ·have ge:=g.e i hi;obtain ⟨v,v1,v2⟩:=zWs m.Entries[i] e he ge.1 ge.2.1 ge.2.2.1 ge.2.2.2.1 ge.2.2.2.2 (hd _ (Qe _));have w:Q3.wrap ((i:Int)+1)=((i+1:Nat):Int):=yM (by omega);cases v with
   | true=>
    refine .inl ⟨(i:Int),(i:Int),rfl,?_,?_⟩
    ·unfold yQ;exact ct (by simp;omega) (bd (yT hi) (bd v1 rfl))
    ·unfold oM;exact ct (by simp;omega) (bd (yT hi) (bd v2 rfl))
   | false=>
    refine .inr ⟨?_,?_⟩
    ·unfold yQ;exact ct (by simp;omega) (bd (yT hi) (bd v1 (cf rfl (by rw [w]))))
    ·unfold oM;exact ct (by simp;omega) (bd (yT hi) (bd v2 (cf rfl (by rw [w]))))
 by_cases k3:e.Kind=3
 ·obtain ⟨v,v1,v2⟩:=zJz e he;have hr:sV 4=some 9:=rfl;by_cases h9:e.Register=9
  ·cases v with
   | false=>exact ⟨-1,bd (a:=(.inl (-1):Int ⊕ Unit)) (cf (by simpa using k1) (ct (by rw [k3];rfl) (bd (a:=true) (bd hr (cf (by simpa using h9) (bd v1 rfl))) (ct rfl rfl)))) rfl,bd (a:=(.inr ():Int ⊕ Unit)) (cf (by simpa using k1) rfl) (bd (a:=(.inr ():Int ⊕ Unit)) (bd (a:=false) (ct (by rw [k3];rfl) (ct (by simpa using h9) (bd v2 rfl))) (cf rfl rfl)) rfl)⟩
   | true=>
    have key:=zG4 m.Rules (s1:=yU m.Rules e) (s2:=oP m e) (λa b=>∃ i:Nat,a=(i:Int)/\i<8/\b=((m.Entries.length+i:Nat):Int)) (by omega) (λi hi=>?_) (by unfold yU;exact cf (by simp) rfl) (by unfold oP;exact cf (by simp) rfl)
    ·rcases key with ⟨_,_,⟨i,rfl,hi,rfl⟩,p1,p2⟩ | ⟨p1,p2⟩
     ·refine ⟨((m.Entries.length+i:Nat):Int),bd (a:=(.inl ((m.Entries.length+i:Nat):Int):Int ⊕ Unit)) (cf (by simpa using k1) (ct (by rw [k3];rfl) (bd (a:=false) (bd hr (cf (by simpa using h9) (bd v1 rfl))) (cf rfl (bd (bd p1 rfl) (ct (by simp) ?_)))))) rfl,bd (a:=(.inr ():Int ⊕ Unit)) (cf (by simpa using k1) rfl) (bd (a:=(.inl ((m.Entries.length+i:Nat):Int):Int ⊕ Unit)) (bd (a:=true) (ct (by rw [k3];rfl) (ct (by simpa using h9) (bd v2 rfl))) (ct rfl (bd p2 rfl))) rfl)⟩;rw [zZ (by omega) (by omega)];rfl
     ·exact ⟨-1,bd (a:=(.inr ():Int ⊕ Unit)) (cf (by simpa using k1) (ct (by rw [k3];rfl) (bd (a:=false) (bd hr (cf (by simpa using h9) (bd v1 rfl))) (cf rfl (bd (bd p1 rfl) (cf rfl rfl)))))) rfl,bd (a:=(.inr ():Int ⊕ Unit)) (cf (by simpa using k1) rfl) (bd (a:=(.inr ():Int ⊕ Unit)) (bd (a:=true) (ct (by rw [k3];rfl) (ct (by simpa using h9) (bd v2 rfl))) (ct rfl (bd p2 rfl))) rfl)⟩
    ·obtain ⟨v,v1,v2⟩:=zL3 m.Rules[i] e.Data (g.r i hi) he.d;have w:Q3.wrap ((i:Int)+1)=((i+1:Nat):Int):=yM (by omega);have v1':mZ m.Rules[i] e=some v:=bd v1 rfl;cases v with
     | true=>
      refine .inl ⟨(i:Int),((m.Entries.length+i:Nat):Int),⟨i,rfl,by omega,rfl⟩,?_,?_⟩
      ·unfold yU;exact ct (by simp;omega) (bd (yT hi) (bd v1' rfl))
      ·unfold oP;refine ct (by simp;omega) (bd (yT hi) (bd v2 (ct rfl ?_)));rw [zZ (by omega) (by omega)];rfl
     | false=>
      refine .inr ⟨?_,?_⟩
      ·unfold yU;exact ct (by simp;omega) (bd (yT hi) (bd v1' (cf rfl (by rw [w]))))
      ·unfold oP;exact ct (by simp;omega) (bd (yT hi) (bd v2 (cf rfl (by rw [w]))))
  ·exact ⟨-1,bd (a:=(.inl (-1):Int ⊕ Unit)) (cf (by simpa using k1) (ct (by rw [k3];rfl) (bd (a:=true) (bd hr (ct (by simpa using h9) rfl)) (ct rfl rfl)))) rfl,bd (a:=(.inr ():Int ⊕ Unit)) (cf (by simpa using k1) rfl) (bd (a:=(.inr ():Int ⊕ Unit)) (bd (a:=false) (ct (by rw [k3];rfl) (cf (by simpa using h9) rfl)) (cf rfl rfl)) rfl)⟩
 ·exact ⟨-1,bd (a:=(.inr ():Int ⊕ Unit)) (cf (by simpa using k1) (cf (by simpa using k3) rfl)) rfl,bd (a:=(.inr ():Int ⊕ Unit)) (cf (by simpa using k1) rfl) (bd (a:=(.inr ():Int ⊕ Unit)) (bd (a:=false) (cf (by simpa using k3) rfl) (cf rfl rfl)) rfl)⟩
set_option maxRecDepth 100000
theorem zM9 (e:zC) (ms:List zG) (he:EvT e) (hn:ms.length<2 ^ 40) (hm:∀ m∈ms,MOk m/\zM8 m):∃ r,lU e ms=some r/\j6 e ms=some r:=by
 obtain ⟨v,v1,v2⟩:=zJz e he;have hb:∃ b:Bool,(bif (e.Kind==5) then some true else bif (e.Kind==2) then ((w9 e).bind λv=>some v) else some false:Option Bool)=some b/\(bif (e.Kind==5) then some true else bif (e.Kind==2) then ((vG e).bind λv=>some v) else some false:Option Bool)=some b:=by
  rw [v1,v2];cases e.Kind==5<;>cases e.Kind==2<;>exact ⟨_,rfl,rfl⟩
 obtain ⟨b,b1,b2⟩:=hb;unfold lU j6;cases b with
 | true=>exact ⟨(zQ.mk (-1) (-1),true),bd b1 rfl,bd b2 rfl⟩
 | false=>
  have key:=zG4 ms (s1:=sP e ms) (s2:=rL e ms) (λa b=>a=b) hn (λi hi=>?_) (by unfold sP;exact cf (by simp) rfl) (by unfold rL;exact cf (by simp) rfl)
  ·rcases key with ⟨a,_,rfl,p1,p2⟩ | ⟨p1,p2⟩
   ·exact ⟨a,bd b1 (cf rfl (bd p1 rfl)),bd b2 (cf rfl (bd p2 rfl))⟩
   ·exact ⟨(zQ.mk 0 0,false),bd b1 (cf rfl (bd p1 rfl)),bd b2 (cf rfl (bd p2 rfl))⟩
  ·have hmi:=hm _ (Qe hi);obtain ⟨v,w1,w2⟩:=zRe ms[i] e hmi.1 hmi.2 he;have w:Q3.wrap ((i:Int)+1)=((i+1:Nat):Int):=yM (by omega);by_cases h0:0<=v
   ·refine .inl ⟨(zQ.mk i v,true),_,rfl,?_,?_⟩
    ·unfold sP;exact ct (by simp;omega) (bd (yT hi) (bd w1 (ct (by simpa using h0) rfl)))
    ·unfold rL;exact ct (by simp;omega) (bd (yT hi) (bd w2 (ct (by simpa using h0) rfl)))
   ·refine .inr ⟨?_,?_⟩
    ·unfold sP;exact ct (by simp;omega) (bd (yT hi) (bd w1 (cf (by simpa using h0) (by rw [w]))))
    ·unfold rL;exact ct (by simp;omega) (bd (yT hi) (bd w2 (cf (by simpa using h0) (by rw [w]))))
def phR (e:zC):Int:=if e.Kind=5 then 0 else if e.Kind=1/\e.Register=0 then 1 else if e.Kind=1/\e.Register=4 then 2 else if e.Kind=2/\e.Register<=7 then 3 else if e.Kind=1/\e.Register=8 then 4 else if e.Kind=3/\e.Register=9 then 5 else -1
theorem zS3 {a:Bool}:(bif a then some b else some false:Option Bool)=some (a&&b):=by cases a<;>rfl
theorem aV {c:Prop} [Decidable c] {x y:α} (h:b=decide c):(bif b then x else y)=if c then x else y:=by
 subst h;by_cases hc:c<;>simp [hc]
theorem zJt (e:zC):sF e=some (phR e):=by
 unfold sF phR;simp only [zS3,Option.bind_some];rw [aV (c:=e.Kind=5) (by rfl),aV (c:=e.Kind=1/\e.Register=0) (by simp;rfl),aV (c:=e.Kind=1/\e.Register=4) (by simp;rfl),aV (c:=e.Kind=2/\e.Register<=7) (by simp;rfl),aV (c:=e.Kind=1/\e.Register=8) (by simp;rfl),aV (c:=e.Kind=3/\e.Register=9) (by simp;rfl)]
 (repeat' split)<;>rfl
theorem zRo (e:zC) (h0:0<=e.Register) (h5:e.Kind≠5):lK e=some (if phR e=-1 then 0 else phR e):=by
 unfold lK phR;simp only [zS3,Option.bind_some];have e3:(e.Kind==2&&(decide (0<=e.Register)&&decide (e.Register<8)))=decide (e.Kind=2/\e.Register<=7):=by
  rw [Qf];simp;omega
 rw [if_neg h5];rw [aV (c:=e.Kind=1/\e.Register=0) (by simp;rfl),aV (c:=e.Kind=1/\e.Register=4) (by simp;rfl),aV e3,aV (c:=e.Kind=1/\e.Register=8) (by simp;rfl),aV (c:=e.Kind=3/\e.Register=9) (by simp;rfl)]
 (repeat' split)<;>first | rfl | omega
theorem zE5 (e:zC):phR e=-1∨phR e=0∨phR e=1∨phR e=2∨phR e=3∨phR e=4∨phR e=5:=by
 unfold phR;repeat' split
 all_goals omega
theorem zW3 (e:zC):phR e=0↔e.Kind=5:=by
 unfold phR;repeat' split
 all_goals simp_all
def okB (ph sep v r:Int):Bool:=decide (ph<=v)&&(decide (0<ph)||v==1)&&(!(v==3)||r==sep)&&(!(decide (3<v))||sep==8)
def stp (s:Int×Int×Bool) (e:zC):Option (Int×Int×Bool):=if phR e=0 then some s else bif okB s.1 s.2.1 (phR e) e.Register then some (phR e,if phR e=3 then s.2.1+1 else s.2.1,s.2.2||phR e==4) else none
def rc (l:List zC):Nat->Option (Int×Int×Bool)
 | 0=>some (0,0,false)
 | k+1=>(rc l k).bind λs=>(l[k]?).bind λe=>stp s e
structure WR (w:vZ) (s:Int×Int×Bool):Prop where
 p:w.phase_=s.1
 n:w.next_=s.2.1
 k:w.seen_.a4=s.2.2
 a:w.seen_.a1=decide (0<s.1)
theorem zRu (w:vZ) (s:Int×Int×Bool) (e:zC) (h:WR w s) (h0:0<=e.Register) (p0:0<=s.1) (n0:0<=s.2.1) (n1:s.2.1<=100) :
  Def (o6 w e) (λz=>(z.1=true/\∃ s',stp s e=some s'/\WR z.2 s')∨(z.1=false/\stp s e=none)):=by
 obtain ⟨ph,sep,kn⟩:=s;obtain ⟨phw,nx,⟨a0,a1,a2,a3,a4,a5⟩⟩:=w;obtain ⟨rfl,rfl,rfl,ha⟩:=h;replace ha:a1=decide (0<phw):=ha;subst ha;replace p0:0<=phw:=p0;replace n0:0<=nx:=n0;replace n1:nx<=100:=n1;unfold o6;refine Q2 (λh5=>Q0 (.inl ⟨rfl,(phw,nx,a4),?_,⟨rfl,rfl,rfl,rfl⟩⟩)) (λh5=>?_)
 ·unfold stp;rw [if_pos ((zW3 e).2 (by simpa using h5))]
 have h5:e.Kind≠5:=by simpa using h5
 rw [zRo e h0 h5];refine Q1 (P:=λv=>v=if phR e=-1 then 0 else phR e) (Q0 rfl) (λv hv=>?_);have hn0:phR e≠0:=λh=>h5 ((zW3 e).1 h);have hc:=zE5 e;unfold stp;rw [if_neg hn0];generalize phR e=u at *;simp only [zS3];by_cases hu:u=-1
 ·subst hu;subst hv;refine Q1 (P:=λb=>b=true) (Q0 rfl) (λb hb=>?_);subst hb;refine Q2 (λ_=>Q0 (.inr ⟨rfl,?_⟩)) (λh=>by cases h);rw [show okB phw nx (-1) e.Register=false by unfold okB;rw [show decide (phw<=-1)=false by simp;omega];rfl];rfl
 rw [if_neg hu] at hv;subst hv;have hv1:1<=v:=by omega
 refine Q1 (P:=λb=>b=!(decide (phw<=v)&&(decide (0<phw)||v==1))) ?_ (λb hb=>?_)
 ·refine Q2 (λh=>absurd (by simpa using h) hn0) (λ_=>Q2 (λh=>Q0 ?_) (λh=>Q0 ?_))
  ·have:=dT h;rw [show decide (phw<=v)=false by simp;omega];rfl
  ·have:=dF h;rw [show decide (phw<=v)=true by simp;omega,Bool.true_and,Qj,Bool.and_comm,show decide (1<v)=!(v==1) by rw [Qf];simp;omega]
 refine Q2 (λh=>Q0 (.inr ⟨rfl,?_⟩)) (λh=>?_)
 ·rw [hb,Q9] at h;unfold okB;rw [h];rfl
 have c1:(decide (phw<=v)&&(decide (0<phw)||v==1))=true:=by
  rw [hb,Q7] at h;exact h
 refine Q1 (P:=λb=>b=!(!(v==3)||e.Register==nx)) ?_ (λb hb=>?_)
 ·exact Q0 (by rw [Qj,Qk];rfl)
 refine Q2 (λh=>Q0 (.inr ⟨rfl,?_⟩)) (λh=>?_)
 ·rw [hb,Q9] at h;unfold okB;rw [c1,h];rfl
 have c2:(!(v==3)||e.Register==nx)=true:=by
  rw [hb,Q7] at h;exact h
 refine Q1 (P:=λb=>b=!(!(decide (3<v))||nx==8)) ?_ (λb hb=>?_)
 ·exact Q0 (by rw [Qj,Qk];rfl)
 refine Q2 (λh=>Q0 (.inr ⟨rfl,?_⟩)) (λh=>?_)
 ·rw [hb,Q9] at h;unfold okB;rw [c1,c2,h];rfl
 have c3:(!(decide (3<v))||nx==8)=true:=by
  rw [hb,Q7] at h;exact h
 have hok:okB phw nx v e.Register=true:=by
  unfold okB;rw [c1,c2,c3];rfl
 refine Q1 (P:=λz=>z=if v=3 then nx+1 else nx) ?_ (λz hz=>?_)
 ·refine Q2 (λh=>Q0 ?_) (λh=>Q0 ?_)
  ·rw [if_pos (by simpa using h)];exact zZ (by show _<=nx+1;omega) (by show nx+1<=_;omega)
  ·rw [if_neg (by simpa using h)]
 have key:∀ q:A6 Bool,q.a4=(a4||v==4)->q.a1=true->∃ s',(bif okB phw nx v e.Register then some (v,if v=3 then nx+1 else nx,a4||v==4) else none:Option (Int×Int×Bool))=some s'/\WR (vZ.mk v z q) s':=by
  intro q q4 q1;rw [hok];exact ⟨_,rfl,rfl,hz,q4,by rw [show decide (0<(v,if v=3 then nx+1 else nx,a4||v==4).1)=true by simp;omega];exact q1⟩
 have hp:1<v->0<phw:=λh=>by
  simp at c1;omega
 have hcs:v=1∨v=2∨v=3∨v=4∨v=5:=by omega
 have hz':=hz;rcases hcs with rfl | rfl | rfl | rfl | rfl
 ·exact Q0 (.inl ⟨rfl,key _ (by simp) rfl⟩)
 ·exact Q0 (.inl ⟨rfl,key _ (by simp) (by simpa using hp (by decide))⟩)
 ·exact Q0 (.inl ⟨rfl,key _ (by simp) (by simpa using hp (by decide))⟩)
 ·exact Q0 (.inl ⟨rfl,key _ (by simp) (by simpa using hp (by decide))⟩)
 ·exact Q0 (.inl ⟨rfl,key _ (by simp) (by simpa using hp (by decide))⟩)
set_option maxRecDepth 100000
theorem zWa {s':Int×Int×Bool} {k:Int} (h:stp s e=some s') (h0:0<=s.1) (n0:0<=s.2.1) (n1:s.2.1<=k):0<=s'.1/\0<=s'.2.1/\s'.2.1<=k+1:=by
 have hc:=zE5 e;unfold stp at h;split at h
 ·cases h;exact ⟨h0,n0,by omega⟩
 ·cases hb:okB s.1 s.2.1 (phR e) e.Register with
  | false=>rw [hb] at h;cases h
  | true=>
   rw [hb] at h;injection h with h;subst h;unfold okB at hb;simp at hb;refine ⟨?_,?_,?_⟩
   ·show 0<=phR e;omega
   ·show 0<=if phR e=3 then s.2.1+1 else s.2.1
    split<;>omega
   ·show (if phR e=3 then s.2.1+1 else s.2.1)<=k+1;split<;>omega
theorem zN1 (l:List zC):∀ k s,rc l k=some s->0<=s.1/\0<=s.2.1/\s.2.1<=(k:Int)
 | 0,s,h=>by cases h;exact ⟨by decide,by decide,by decide⟩
 | k+1,s,h=>by
  unfold rc at h;cases h1:rc l k with
  | none=>rw [h1] at h;cases h
  | some t=>
   rw [h1] at h;replace h:((l[k]?).bind λe=>stp t e)=some s:=h;cases h2:l[k]? with
   | none=>rw [h2] at h;cases h
   | some e=>
    rw [h2] at h;obtain ⟨a,b,c⟩:=zN1 l k t h1;have:=zWa h a b c;exact ⟨this.1,this.2.1,by have:=this.2.2;omega⟩
theorem zP5 {l:List zC} {k:Nat} (h:rc l k=some s) (hk:k<l.length):rc l (k+1)=stp s l[k]:=by
 unfold rc;rw [h];show ((l[k]?).bind λe=>stp s e)=_;rw [List.getElem?_eq_getElem hk];rfl
theorem zGm (l:List zC) (k:Nat):∀ n,k<=n->(∃ s,rc l n=some s)->∃ s,rc l k=some s
 | 0,h,hs=>by rw [show k=0 by omega];exact hs
 | n+1,h,⟨s,hs⟩ =>by
  by_cases e:k=n+1
  ·rw [e];exact ⟨s,hs⟩
  ·refine zGm l k n (by omega) ?_;unfold rc at hs;cases h1:rc l n with
   | none=>rw [h1] at hs;cases hs
   | some t=>exact ⟨t,rfl⟩
theorem zVe (l:zV) (hn:l.Events.length<=40):Def (gW l) (λz=>(z.2.2=0/\∃ s,rc l.Events l.Events.length=some s)∨(z.2.2=41/\∃ k:Nat,k<l.Events.length/\z.2.1=(k:Int)/\(∃ s,rc l.Events k=some s)/\rc l.Events (k+1)=none)):=by
 unfold gW;refine Q1 (P:=λy=>match y with | .inl z=>z.2.2=41/\∃ k:Nat,k<l.Events.length/\z.2.1=(k:Int)/\(∃ s,rc l.Events k=some s)/\rc l.Events (k+1)=none | .inr _=>∃ s,rc l.Events l.Events.length=some s) ?_ (λy hy=>?_)
 rotate_left
 ·cases y with
  | inl z=>exact Q0 (.inr hy)
  | inr z=>exact Q0 (.inl ⟨rfl,hy⟩)
 refine Def.loop (λs=>∃ (k:Nat) (kn:Bool),k<=l.Events.length/\s.2.2=(k:Int)/\rc l.Events k=some (s.1,s.2.1,kn)) (λs=>l.Events.length - s.2.2.toNat) (λs hs=>?_) ⟨0,false,by omega,rfl,rfl⟩ (by simp;omega);obtain ⟨ph,sep,i⟩:=s;obtain ⟨k,kn,hk,rfl,hr⟩:=hs;replace hr:rc l.Events k=some (ph,sep,kn):=hr;obtain ⟨p0,n0,n1⟩:=zN1 _ _ _ hr;replace n0:0<=sep:=n0;replace n1:sep<=(k:Int):=n1;unfold aM;refine Q2 (λh=>?_) (λh=>Q0 ?_)
 ·have hlt:k<l.Events.length:=by have:=dT h;omega
  have hst:=zP5 hr hlt;refine Q1 (P:=λj=>match j with | .inl z=>z.2.2=41/\z.2.1=(k:Int)/\rc l.Events (k+1)=none | .inr q=>∃ kn,rc l.Events (k+1)=some (q.1,q.2,kn)) ?_ (λj hj=>?_)
  rotate_left
  ·cases j with
   | inl z=>exact Q0 ⟨hj.1,k,hlt,hj.2.1,⟨_,hr⟩,hj.2.2⟩
   | inr q=>
    obtain ⟨kn',hq⟩:=hj;rw [yM (by omega)];refine Q0 ⟨⟨k+1,kn',by omega,rfl,hq⟩,?_⟩;show l.Events.length - (((k+1:Nat):Int)).toNat<l.Events.length - ((k:Int)).toNat;omega
  refine Q1 (Qa hlt) (λe he=>?_);subst he;rw [hst];unfold stp;rw [zJt];have hc:=zE5 l.Events[k];refine Q1 (P:=λv=>v=phR l.Events[k]) (Q0 rfl) (λv hv=>?_);subst hv;generalize phR l.Events[k]=u at *;refine Q2 (λh=>Q0 ⟨kn,by rw [if_pos (by simpa using h)]⟩) (λh0=>?_);rw [if_neg (by simpa using h0)];refine Q1 (P:=λb=>b=(decide (ph<=u)&&(decide (0<ph)||u==1))) ?_ (λb hb=>?_)
  ·refine Q2 (λh=>Q2 (λh1=>Q0 ?_) (λh1=>Q0 ?_)) (λh=>Q0 ?_)
   ·rw [h,h1];rfl
   ·rw [h,h1];rfl
   ·rw [h];rfl
  refine Q1 (P:=λc=>c=(b&&(!(u==3)||l.Events[k].Register==sep))) ?_ (λc hcc=>?_)
  ·refine Q2 (λh=>Q2 (λh1=>?_) (λh1=>Q0 ?_)) (λh=>Q0 ?_)
   ·refine Q1 (Qa hlt) (λe he=>Q0 ?_);subst he;rw [h,h1];rfl
   ·rw [h1];rfl
   ·rw [h];simp
  refine Q1 (P:=λd=>d=okB ph sep u l.Events[k].Register) ?_ (λd hd=>?_)
  ·have e:okB ph sep u l.Events[k].Register=(c&&(!(decide (3<u))||sep==8)):=by rw [hcc,hb];rfl
   rw [e];refine Q2 (λh=>Q2 (λh1=>Q0 ?_) (λh1=>Q0 ?_)) (λh=>Q0 ?_)
   ·rw [h,h1];rfl
   ·rw [h1];rfl
   ·rw [h];simp
  subst hd;refine Q2 (λh=>Q0 ⟨rfl,rfl,?_⟩) (λh=>?_)
  ·rw [Q9] at h;show (bif okB ph sep u l.Events[k].Register then _ else none)=none;rw [h];rfl
  ·rw [Q7] at h;refine Q2 (λh3=>Q0 ⟨kn||u==4,?_⟩) (λh3=>Q0 ⟨kn||u==4,?_⟩)
   ·show (bif okB ph sep u l.Events[k].Register then _ else none)=_;rw [h];show some (u,if u=3 then sep+1 else sep,kn||u==4)=some (u,Q3.wrap (sep+1),kn||u==4);rw [if_pos (by simpa using h3),zZ (by omega) (by omega)]
   ·show (bif okB ph sep u l.Events[k].Register then _ else none)=_;rw [h];show some (u,if u=3 then sep+1 else sep,kn||u==4)=some (u,sep,kn||u==4);rw [if_neg (by simpa using h3)]
 ·have:k=l.Events.length:=by have:=dF h;omega
  rw [this] at hr;exact ⟨_,hr⟩
set_option maxRecDepth 100000
theorem zK1 (l:zV) (ms:List zG) (hn:l.Events.length<=40) (he:∀ e∈l.Events,EvT e/\0<=e.Register) (hmn:ms.length<2 ^ 40) (hm:∀ m∈ms,MOk m/\zM8 m):∃ r,sC l ms=some r/\rW l ms=some r/\(r.2.2=0->r.1.length<=40):=by
 obtain ⟨⟨z0,z1,z2⟩,hz,hzz⟩:=zVe l hn;replace hzz:(z2=0/\∃ s,rc l.Events l.Events.length=some s)∨(z2=41/\∃ k:Nat,k<l.Events.length/\z1=(k:Int)/\(∃ s,rc l.Events k=some s)/\rc l.Events (k+1)=none):=hzz;have key:=zAx (s1:=sS l ms) (s2:=uT l ms z1 z2)
  (λa b=>∃ (k:Nat) (st:Int×Int×Bool),k<=l.Events.length/\a.1=b.1/\a.2.1=(k:Int)/\b.2.2=(k:Int)/\rc l.Events k=some st/\b.2.1=st.2.2/\b.1.length=k/\WR (vZ.mk a.2.2.1 a.2.2.2.1 (A6.mk a.2.2.2.2.1 a.2.2.2.2.2.1 a.2.2.2.2.2.2.1 a.2.2.2.2.2.2.2.1 a.2.2.2.2.2.2.2.2.1 a.2.2.2.2.2.2.2.2.2)) st)
  (λa=>l.Events.length - a.2.1.toNat)
  (λx y=>match x,y with | .inl a,.inl b=>a=b/\a.2.2≠0 | .inr a,.inr b=>a.1=b.1/\a.2.2.2.2.2.2.2.1=b.2/\b.1.length=l.Events.length | _,_=>False) (λa b hab=>?_) FU ([],0,0,0,false,false,false,false,false,false) ([],false,0) ⟨0,(0,0,false),by omega,rfl,rfl,rfl,rfl,rfl,rfl,⟨rfl,rfl,rfl,rfl⟩⟩ (by simp [FU];omega)
 ·obtain ⟨x,y,h1,h2,h3⟩:=key;unfold sC rW;cases x with
  | inl a=>
   cases y with
   | inl b=>
    obtain ⟨rfl,h3⟩:a=b/\a.2.2≠0:=h3;exact ⟨a,bd h1 rfl,bd hz (bd h2 rfl),λh=>absurd h h3⟩
   | inr _=>exact h3.elim
  | inr a=>
   cases y with
   | inl b=>exact h3.elim
   | inr b=>
    obtain ⟨re,ph,nx,a0,a1,a2,a3,a4,a5⟩:=a;obtain ⟨out,kn⟩:=b;obtain ⟨e1,e2,e3⟩:=h3;replace e1:re=out:=e1;replace e2:a4=kn:=e2;replace e3:out.length=l.Events.length:=e3;subst e1 e2;cases a4 with
    | true=>exact ⟨(re,(l.Events.length:Int),0),bd h1 rfl,bd hz (bd h2 (by rw [<- e3];rfl)),λ_=>by show re.length<=40;omega⟩
    | false=>exact ⟨(re,(l.Events.length:Int),40),bd h1 rfl,bd hz (bd h2 (by rw [<- e3];rfl)),λ_=>by show re.length<=40;omega⟩
 ·obtain ⟨re,i,ph,nx,a0,a1,a2,a3,a4,a5⟩:=a;obtain ⟨out,kn,i2⟩:=b;obtain ⟨k,st,hk,e1,e2,e3,hr,e4,hl,hw⟩:=hab;replace e1:re=out:=e1;replace e2:i=(k:Int):=e2;replace e3:i2=(k:Int):=e3;replace e4:kn=st.2.2:=e4;replace hl:out.length=k:=hl;replace hw:WR (vZ.mk ph nx (A6.mk a0 a1 a2 a3 a4 a5)) st:=hw;subst e1 e2 e3;obtain ⟨p0,n0,n1⟩:=zN1 _ _ _ hr;by_cases hlt:k<l.Events.length
  ·have hev:=he _ (Qe hlt);have hst:=zP5 hr hlt;obtain ⟨⟨ok,w'⟩,hw1,hw2⟩:=zRu _ st l.Events[k] hw hev.2 p0 n0 (by omega);obtain ⟨⟨rs,rb⟩,hr1,hr2⟩:=zM9 l.Events[k] ms hev.1 hmn hm;have hP:sS l ms (re,(k:Int),ph,nx,a0,a1,a2,a3,a4,a5)=bif !ok then some (.inr (.inl (re,(k:Int),41))) else bif !rb then some (.inr (.inl (re,(k:Int),47))) else (yN 16 re [rs]).bind λv=>some (.inl (v,Q3.wrap ((k:Int)+1),w'.phase_,w'.next_,w'.seen_.a0,w'.seen_.a1,w'.seen_.a2,w'.seen_.a3,w'.seen_.a4,w'.seen_.a5)):=by
    unfold sS;refine ct (by simp;omega) (bd (yT hlt) (bd hw1 ?_));cases ok with
    | false=>rfl
    | true=>exact bd hr1 rfl
   by_cases hF:z2≠0/\(k:Int)=z1
   ·have hok:ok=false:=by
     rcases hzz with h | ⟨_,k0,h1,h2,_,h4⟩
     ·exact absurd h.1 hF.1
     ·have:k=k0:=by omega
      subst this;rw [hst] at h4;rcases hw2 with ⟨_,s',h5,_⟩ | h5
      ·rw [h4] at h5;cases h5
      ·exact h5.1
    refine ⟨.inr (.inl (re,(k:Int),41)),.inr (.inl (re,(k:Int),41)),?_,?_,rfl,(by decide:(41:Int)≠0)⟩
    ·rw [hP,hok];rfl
    ·unfold uT;exact ct (by simp;omega) (bd (a:=true) (ct (by simpa using hF.1) (by rw [hF.2];simp)) rfl)
   ·have hbF:(bif (z2 != 0) then some ((k:Int)==z1) else some false:Option Bool)=some false:=by
     by_cases h0:z2=0
     ·exact cf (by simpa using h0) rfl
     ·exact ct (by simpa using h0) (by
       have:¬ (k:Int)=z1:=λe=>hF ⟨h0,e⟩;simpa using this)
    obtain ⟨s',hs'⟩:∃ s',rc l.Events (k+1)=some s':=by
     rcases hzz with ⟨_,h⟩ | ⟨h41,k0,h1,h2,h3,h4⟩
     ·exact zGm _ _ _ (by omega) h
     ·by_cases hle:k+1<=k0
      ·exact zGm _ _ _ hle h3
      ·exfalso;by_cases e:k=k0
       ·exact hF ⟨by omega,by omega⟩
       ·obtain ⟨s,hs⟩:=zGm _ (k0+1) k (by omega) ⟨_,hr⟩;rw [h4] at hs;cases hs
    rw [hst] at hs';have hok:ok=true/\WR w' s':=by
     rcases hw2 with ⟨h5,s2,h6,h7⟩ | h5
     ·rw [hs'] at h6;injection h6 with h6;subst h6;exact ⟨h5,h7⟩
     ·rw [hs'] at h5;cases h5.2
    obtain ⟨hok,hwr⟩:=hok;cases rb with
    | false=>
     refine ⟨.inr (.inl (re,(k:Int),47)),.inr (.inl (re,(k:Int),47)),?_,?_,rfl,(by decide:(47:Int)≠0)⟩
     ·rw [hP,hok];rfl
     ·unfold uT;exact ct (by simp;omega) (bd hbF (cf rfl (bd (yT hlt) (bd hr2 rfl))))
    | true=>
     have hap:yN 16 re [rs]=some (re++[rs]):=yF (by simp;omega);have hw:Q3.wrap ((k:Int)+1)=((k+1:Nat):Int):=yM (by omega);refine ⟨.inl (re++[rs],((k+1:Nat):Int),w'.phase_,w'.next_,w'.seen_.a0,w'.seen_.a1,w'.seen_.a2,w'.seen_.a3,w'.seen_.a4,w'.seen_.a5),.inl (re++[rs],s'.2.2,((k+1:Nat):Int)),?_,?_,⟨k+1,s',by omega,rfl,rfl,rfl,by rw [hst];exact hs',rfl,by simp;exact hl,hwr⟩,?_⟩
     ·rw [hP,hok,hap,hw];rfl
     ·have hkn:(bif kn then some true else (idx l.Events (k:Int)).bind λv=>(sF v).bind λu=>some (u==4):Option Bool)=some s'.2.2:=by
       rw [yT hlt];show (bif kn then some true else (sF l.Events[k]).bind λu=>some (u==4):Option Bool)=_;rw [zJt];have:s'.2.2=(kn||phR l.Events[k]==4):=by
        rw [e4];unfold stp at hs';split at hs'
        ·rename_i h0;injection hs' with hs';rw [<- hs',h0];simp
        ·cases hb:okB st.1 st.2.1 (phR l.Events[k]) l.Events[k].Register with
         | false=>rw [hb] at hs';cases hs'
         | true=>
          rw [hb] at hs';injection hs' with hs';rw [<- hs']
       rw [this];cases kn<;>rfl
      unfold uT;refine ct (by simp;omega) (bd hbF (cf rfl (bd (yT hlt) (bd hr2 (cf rfl (bd hap (bd hkn ?_)))))));rw [hw]
     ·show l.Events.length - (((k+1:Nat):Int)).toNat<l.Events.length - ((k:Int)).toNat;omega
  ·have:k=l.Events.length:=by omega
   refine ⟨.inr (.inr (re,ph,nx,a0,a1,a2,a3,a4,a5)),.inr (.inr (re,kn)),?_,?_,rfl,?_,?_⟩
   ·unfold sS;exact cf (by simp;omega) rfl
   ·unfold uT;exact cf (by simp;omega) rfl
   ·rw [e4];exact hw.k
   ·show re.length=_;omega
set_option maxRecDepth 100000
set_option maxRecDepth 100000
theorem EvC.t (h:EvC e a):EvT e/\0<=e.Register:=by
 have hf:∀ i,Fit e a i->(e.Digests.getD i []).length<2 ^ 40:=by
  intro i hi;unfold Fit at hi;have:siz (i:Int)<=64:=by
                  unfold siz;repeat' split
                  all_goals omega
  split at hi<;>omega
 refine ⟨⟨⟨h.d,h.l⟩,h.k1,h.k5,λi hi=>?_⟩,h.r0⟩;have e1:e.Digests[i]=e.Digests.getD i []:=by simp [List.getD,List.getElem?_eq_getElem hi]
 rw [e1];have:i=0∨i=1:=by have:=h.l;omega
 rcases this with rfl | rfl
 ·exact hf 0 h.f0
 ·exact hf 1 h.f1
theorem zWn (h1:1<=a) (h3:a<=3):((xG .i64 (xE .i64 a 1) 1)==0)=((xG .i64 a 2)==0):=by
 rcases zQ3 h1 h3 with rfl | rfl | rfl<;>rfl
def zWl (x:yC) (e:yS) (a:zM) (ms:List zG):Option yA:=
 (wY e.Active).bind λs=>
 bif !(a.Selection.a0==s.a0&&a.Selection.a1==s.a1) then some (yA.mk 1 0 [] 0) else
 (kS x.Log).bind λ((l,er):zV×Int)=>
 bif (er != 0) then some (yA.mk er 0 [] 0) else
 (bif (l.Active != e.Active) then some true else some ((xG .i64 l.Active 2)==0):Option Bool).bind λ(b:Bool)=>
 bif b then some (yA.mk 27 0 [] 0) else
 (bif (l.Resets != a.Resets) then some true else some (a.Restarts != 0):Option Bool).bind λ(b:Bool)=>
 bif b then some (yA.mk 12 0 [] 0) else
 (xR l s).bind λ((d,er):By×Int)=>
 bif (er != 0) then some (yA.mk er 0 [] 0) else
 (xY d a.Digest).bind λb=>
 bif !b then some (yA.mk 46 0 [] 0) else
 (rW l ms).bind λ((r,i,er):(List zQ)×Int×Int)=>
 bif (er != 0) then some (yA.mk er i [] 0) else
 some (yA.mk 0 0 r a.Clock)
theorem zRa (x:yC) (e:yS) (a:zM) (ms:List zG) (h1:1<=e.Active) (h3:e.Active<=3) :
  (∃ l er,er≠0/\wH x e a=some (l,er)/\zWl x e a ms=some (yA.mk er 0 [] 0))∨(∃ l,zB8 l/\wH x e a=some (l,0)/\zWl x e a ms=(rW l ms).bind λ((r,i,er):(List zQ)×Int×Int)=>bif (er != 0) then some (yA.mk er i [] 0) else some (yA.mk 0 0 r a.Clock)):=by
 have hs:=zS2 e.Active h1 h3;have hs2:=zP4 e.Active h1 h3;unfold wH zWl;by_cases hsel:a.Selection.a0=xQ e.Active 0/\a.Selection.a1=xQ e.Active 1
 case neg=>
  have hb:(!(a.Selection.a0==xQ e.Active 0&&a.Selection.a1==xQ e.Active 1))=true:=by
   rw [Q9,Bool.eq_false_iff];intro h;exact hsel (by simpa using h)
  exact .inl ⟨_,1,by decide,bd hs (ct hb rfl),bd hs2 (ct hb rfl)⟩
 have hb:(!(a.Selection.a0==xQ e.Active 0&&a.Selection.a1==xQ e.Active 1))=false:=by
  rw [hsel.1,hsel.2];simp
 obtain ⟨⟨l,pe⟩,hp,hp2⟩:=zOi x.Log;by_cases hpe:pe=0
 case neg=>
  exact .inl ⟨_,pe,hpe,bd hs (cf hb (bd hp (ct (by simpa using hpe) rfl))),bd hs2 (cf hb (bd hp2 (ct (by simpa using hpe) rfl)))⟩
 subst hpe;have hg:zB8 l:=by
  obtain ⟨r,h4,h5⟩:=zRi x.Log;rw [hp] at h4;injection h4 with h4;subst h4;exact h5 rfl
 have hb3:∃ b:Bool,(bif (l.Active != e.Active) then some true else some ((xG .i64 (xE .i64 l.Active 1) 1)==0):Option Bool)=some b/\(bif (l.Active != e.Active) then some true else some ((xG .i64 l.Active 2)==0):Option Bool)=some b/\(b=false->l.Active=e.Active):=by
  by_cases h:l.Active=e.Active
  ·exact ⟨_,cf (by simpa using h) rfl,cf (by simpa using h) (by rw [zWn (by omega) (by omega)]),λ_=>h⟩
  ·exact ⟨true,ct (by simpa using h) rfl,ct (by simpa using h) rfl,λh=>(by cases h)⟩
 obtain ⟨b,b1,b2,b3⟩:=hb3;cases b with
 | true=>exact .inl ⟨_,27,by decide,bd hs (cf hb (bd hp (cf rfl (bd b1 rfl)))),bd hs2 (cf hb (bd hp2 (cf rfl (bd b2 rfl))))⟩
 | false=>
  have hac:=b3 rfl;have hb4:∃ b:Bool,(bif (l.Resets != a.Resets) then some true else some (a.Restarts != 0):Option Bool)=some b:=by
   cases l.Resets != a.Resets<;>exact ⟨_,rfl⟩
  obtain ⟨b,b4⟩:=hb4;cases b with
  | true=>exact .inl ⟨_,12,by decide,bd hs (cf hb (bd hp (cf rfl (bd b1 (cf rfl (bd b4 rfl)))))),bd hs2 (cf hb (bd hp2 (cf rfl (bd b2 (cf rfl (bd b4 rfl))))))⟩
  | false=>
   have d1:=zLs l hg (by omega) (by omega);have d2:=zMs l (by have:=hg.n;omega) (by omega) (by omega) hg.ev;have dl:=zWk l.Active (rpl l.Active l.Events);generalize dgs l.Active (rpl l.Active l.Events)=d at d1 d2 dl;have hsq:a.Selection=⟨xQ l.Active 0,xQ l.Active 1⟩:=by
    rw [hac,<- hsel.1,<- hsel.2]
   rw [<- hsq] at d1;rw [hac] at d2;have sm:=uB d a.Digest (by omega);by_cases hd:d=a.Digest
   ·refine .inr ⟨l,hg,bd hs (cf hb (bd hp (cf rfl (bd b1 (cf rfl (bd b4 (cf rfl (bd d1 (cf rfl (bd (kF _ _) (cf (by simpa using hd) rfl))))))))))),bd hs2 (cf hb (bd hp2 (cf rfl (bd b2 (cf rfl (bd b4 (cf rfl (bd d2 (cf rfl (bd sm (cf (by simpa using hd) rfl)))))))))))⟩
   ·exact .inl ⟨_,46,by decide,bd hs (cf hb (bd hp (cf rfl (bd b1 (cf rfl (bd b4 (cf rfl (bd d1 (cf rfl (bd (kF _ _) (ct (by simpa using hd) rfl))))))))))),bd hs2 (cf hb (bd hp2 (cf rfl (bd b2 (cf rfl (bd b4 (cf rfl (bd d2 (cf rfl (bd sm (ct (by simpa using hd) rfl)))))))))))⟩
theorem zJj (x:yC) (e:yS) (n:By) (ms:List zG) (h1:1<=e.Active) (h3:e.Active<=3) (hx:zWq x e.Quoting n) (hmn:ms.length<2 ^ 40) (hm:∀ m∈ms,MOk m/\zM8 m):∃ v,yY x e n ms=some v/\mU x e n ms=some v/\v.Reasons.length<=40:=by
 have hR:mU x e n ms=bif (x.Machine != e.Machine) then some (yA.mk 49 0 [] 0) else (l8 x e.Quoting n).bind λ((a,er):zM×Int)=>bif (er != 0) then some (yA.mk er 0 [] 0) else zWl x e a ms:=rfl
 rw [hR];unfold yY;by_cases hM:x.Machine=e.Machine
 case neg=>exact ⟨_,ct (by simpa using hM) rfl,ct (by simpa using hM) rfl,by decide⟩
 have q1:=zAe x e.Quoting n hx;have q2:=zRl x e.Quoting n hx;generalize qt x e.Quoting n=q at q1 q2;obtain ⟨a,er⟩:=q;by_cases her:er=0
 case neg=>exact ⟨_,cf (by simpa using hM) (bd q1 (ct (by simpa using her) rfl)),cf (by simpa using hM) (bd q2 (ct (by simpa using her) rfl)),Qc _⟩
 subst her;rcases zRa x e a ms h1 h3 with ⟨l,er,h0,p1,p2⟩ | ⟨l,hg,p1,p2⟩
 ·exact ⟨_,cf (by simpa using hM) (bd q1 (cf rfl (bd p1 (ct (by simpa using h0) rfl)))),cf (by simpa using hM) (bd q2 (cf rfl p2)),Qc _⟩
 ·obtain ⟨⟨r,i,er⟩,e1,e2,e3⟩:=zK1 l ms hg.n (λe he=>(hg.ev e he).t) hmn hm;by_cases her:er=0
  ·subst her;exact ⟨_,cf (by simpa using hM) (bd q1 (cf rfl (bd p1 (cf rfl (bd e1 rfl))))),cf (by simpa using hM) (bd q2 (cf rfl (p2.trans (bd e2 rfl)))),e3 rfl⟩
  ·exact ⟨_,cf (by simpa using hM) (bd q1 (cf rfl (bd p1 (cf rfl (bd e1 (ct (by simpa using her) rfl)))))),cf (by simpa using hM) (bd q2 (cf rfl (p2.trans (bd e2 (ct (by simpa using her) rfl))))),Qc _⟩
set_option maxRecDepth 100000
theorem zLn (a:List zQ) (h:a.length<2 ^ 40):tF a a=some true:=by
 have hd:Def (tF a a) (λr=>r=true):=by
  unfold tF;refine Q2 (λh=>by simp at h) (λ_=>?_);refine Q1 (vD a (tN a a) (λ_=>True) (λ_=>False) h (λi hi=>?_) ?_) (λy hy=>?_)
  ·unfold tN;refine Q2 (λ_=>?_) (λh=>by have:=dF h;omega);refine Q1 (Qa hi) (λc hc=>?_);refine Q1 (Qa hi) (λd hd=>?_);subst hc hd;exact Q2 (λh=>by simp at h) (λ_=>Q0 ⟨yM (by omega),trivial⟩)
  ·unfold tN;exact cf (by simp) rfl
  ·cases y with
   | inl b=>exact hy.elim
   | inr u=>exact Q0 rfl
 obtain ⟨r,e,rfl⟩:=hd;exact e
theorem zKm (v:yA) (h:v.Reasons.length<=40):qE v v=some true:=by
 unfold qE;exact bd (a:=true) (ct (by simp) (ct (by simp) (ct (by simp) (bd (zLn _ (by omega)) rfl)))) rfl
theorem zMg (hw:kA=some true) (codes chain manifests changes:By) (active enrolled machine:Int):wZ codes chain manifests changes active enrolled machine=some true:=by
 have hd:Def (wZ codes chain manifests changes active enrolled machine) (λr=>r=true):=by
  unfold wZ;refine Q1 (P:=λb=>b=true) (Q4 hw rfl) (λb hb=>?_);subst hb;refine Q2 (λh=>by cases h) (λ_=>?_);refine Q1 (zKq machine 4 (by decide) (by decide)) (λm _=>?_);refine Q1 (zTp codes chain manifests changes active _) (λr hr=>?_);obtain ⟨lg,ms,ev⟩:=r;obtain ⟨hms,e1,e2,e3⟩:=hr;replace hms:zVo ms:=hms;simp only at e1 e2 e3;refine Q1 (zCo active) (λac hac=>?_);refine Q1 (zKy _ ac) (λen hen=>?_);refine Q1 (P:=λr=>1<=r/\r<=3) (Q2 (λ_=>Q1 (zCo _) (λr hr=>Q0 hr)) (λ_=>Q0 (by rw [hen.2.2.2];exact hac))) (λa2 ha2=>?_);obtain ⟨v,h1,h2,h3⟩:=zJj ev (yS.mk en.Machine a2 en.Quoting (uM.mk [] en.Parent.Seed []) (zN.mk en.Parents.Kind en.Parents.Attr en.Parents.Height [] en.Parents.Unique)) [99,104,97,108,108,101,110,103,101] ms ha2.1 ha2.2 ⟨by omega,by omega,by omega,by decide,by show en.Quoting.length<2 ^ 30;rw [hen.1];decide,λp hp=>by rw [hen.2.1 p hp];decide⟩ (by have:=hms.1;omega) hms.2;refine Q1 (P:=λr=>r=v) (Q4 h1 rfl) (λr hr=>?_);subst hr;refine Q1 (P:=λs=>s=r) (Q4 h2 rfl) (λs hs=>?_);subst hs;exact Q1 (P:=λb=>b=true) (Q4 (zKm _ h3) rfl) (λb hb=>Q0 hb)
 obtain ⟨r,e,rfl⟩:=hd;exact e
set_option maxRecDepth 100000
def imgs:List zF:=[zF.mk 1 ([102]:By) 0 [],zF.mk 3 ([107]:By) 0 []]
def EVS:List zC:=[⟨0,1,[[],[211,177,79,226,54,204,147,174,61,228,238,4,167,67,79,4,75,48,122,2,57,203,128,14,59,202,123,49,246,110,67,158]],[102,32,48]⟩,
 ⟨0,2,[[],[223,63,97,152,4,169,47,219,64,87,25,45,196,61,215,72,234,119,138,220,82,188,73,140,232,5,36,192,20,184,17,25]],[0,0,0,0]⟩,
 ⟨1,2,[[],[223,63,97,152,4,169,47,219,64,87,25,45,196,61,215,72,234,119,138,220,82,188,73,140,232,5,36,192,20,184,17,25]],[0,0,0,0]⟩,
 ⟨2,2,[[],[223,63,97,152,4,169,47,219,64,87,25,45,196,61,215,72,234,119,138,220,82,188,73,140,232,5,36,192,20,184,17,25]],[0,0,0,0]⟩,
 ⟨3,2,[[],[223,63,97,152,4,169,47,219,64,87,25,45,196,61,215,72,234,119,138,220,82,188,73,140,232,5,36,192,20,184,17,25]],[0,0,0,0]⟩,
 ⟨4,2,[[],[223,63,97,152,4,169,47,219,64,87,25,45,196,61,215,72,234,119,138,220,82,188,73,140,232,5,36,192,20,184,17,25]],[0,0,0,0]⟩,
 ⟨5,2,[[],[223,63,97,152,4,169,47,219,64,87,25,45,196,61,215,72,234,119,138,220,82,188,73,140,232,5,36,192,20,184,17,25]],[0,0,0,0]⟩,
 ⟨6,2,[[],[223,63,97,152,4,169,47,219,64,87,25,45,196,61,215,72,234,119,138,220,82,188,73,140,232,5,36,192,20,184,17,25]],[0,0,0,0]⟩,
 ⟨7,2,[[],[223,63,97,152,4,169,47,219,64,87,25,45,196,61,215,72,234,119,138,220,82,188,73,140,232,5,36,192,20,184,17,25]],[0,0,0,0]⟩,
 ⟨8,1,[[],[4,112,127,2,184,245,98,45,100,85,58,34,70,111,198,201,250,24,60,234,60,72,73,122,62,127,169,182,2,31,99,126]],[107,32,48]⟩]
def MAN:zG:=⟨[118],1,0,0,1099511627776,[⟨1,[102],0,[211,177,79,226,54,204,147,174,61,228,238,4,167,67,79,4,75,48,122,2,57,203,128,14,59,202,123,49,246,110,67,158]⟩,⟨3,[107],0,[4,112,127,2,184,245,98,45,100,85,58,34,70,111,198,201,250,24,60,234,60,72,73,122,62,127,169,182,2,31,99,126]⟩],[]⟩
def zN4:By:=[83,87,76,49,2,0,0,0,0,0,1,0,43,0,1,0,0,0,32,211,177,79,226,54,204,147,174,61,228,238,4,167,67,79,4,75,48,122,2,57,203,128,14,59,202,123,49,246,110,67,158,0,3,102,32,48,0,44,0,2,0,0,0,32,223,63,97,152,4,169,47,219,64,87,25,45,196,61,215,72,234,119,138,220,82,188,73,140,232,5,36,192,20,184,17,25,0,4,0,0,0,0,0,44,1,2,0,0,0,32,223,63,97,152,4,169,47,219,64,87,25,45,196,61,215,72,234,119,138,220,82,188,73,140,232,5,36,192,20,184,17,25,0,4,0,0,0,0,0,44,2,2,0,0,0,32,223,63,97,152,4,169,47,219,64,87,25,45,196,61,215,72,234,119,138,220,82,188,73,140,232,5,36,192,20,184,17,25,0,4,0,0,0,0,0,44,3,2,0,0,0,32,223,63,97,152,4,169,47,219,64,87,25,45,196,61,215,72,234,119,138,220,82,188,73,140,232,5,36,192,20,184,17,25,0,4,0,0,0,0,0,44,4,2,0,0,0,32,223,63,97,152,4,169,47,219,64,87,25,45,196,61,215,72,234,119,138,220,82,188,73,140,232,5,36,192,20,184,17,25,0,4,0,0,0,0,0,44,5,2,0,0,0,32,223,63,97,152,4,169,47,219,64,87,25,45,196,61,215,72,234,119,138,220,82,188,73,140,232,5,36,192,20,184,17,25,0,4,0,0,0,0,0,44,6,2,0,0,0,32,223,63,97,152,4,169,47,219,64,87,25,45,196,61,215,72,234,119,138,220,82,188,73,140,232,5,36,192,20,184,17,25,0,4,0,0,0,0,0,44,7,2,0,0,0,32,223,63,97,152,4,169,47,219,64,87,25,45,196,61,215,72,234,119,138,220,82,188,73,140,232,5,36,192,20,184,17,25,0,4,0,0,0,0,0,43,8,1,0,0,0,32,4,112,127,2,184,245,98,45,100,85,58,34,70,111,198,201,250,24,60,234,60,72,73,122,62,127,169,182,2,31,99,126,0,3,107,32,48]
def DG:By:=[107,24,16,72,110,26,24,42,233,226,179,161,104,68,80,217,233,164,128,62,21,161,146,123,57,66,240,165,96,204,39,14]
def N1:By:=[140,181,205,201,129,106,124,62,142,219,165,218,199,100,206,206,254,73,226,85,181,60,190,81,208,251,183,65,83,101,193,19]
def N2:By:=[117,120,106,21,132,68,244,210,198,122,150,64,213,173,103,209,198,231,127,216,186,17,22,121,0,70,203,147,87,7,205,26]
theorem yBg:tG imgs 2=some EVS:=by decide +kernel
theorem yAt:sW [118] 1 imgs=some MAN:=by decide +kernel
theorem zTy:pP ⟨2,1,EVS⟩=some (zN4,0):=by decide +kernel
theorem zS9:uX zN4=some (⟨2,1,EVS⟩,0):=by decide +kernel
theorem zZw:sC ⟨2,1,EVS⟩ []=some ([],0,47):=by decide +kernel
theorem yCi:(sC ⟨2,1,EVS⟩ [MAN]).map (λr=>(r.1.length,r.2.2))=some (10,0):=by decide +kernel
set_option maxRecDepth 100000
theorem zXd:nnc [110] 2 zN4=N1:=by decide +kernel
theorem yBo:nnc [109] 2 zN4=N2:=by decide +kernel
theorem yDr:xR ⟨2,1,EVS⟩ ⟨0,4095⟩=some (DG,0):=by decide +kernel
theorem yE5:oS ⟨2,1,EVS⟩ ⟨0,4095⟩=some (DG,0):=by decide +kernel
set_option maxRecDepth 100000
def qa (K:By):zM:=⟨K,N1,1,0,17,false,10,⟨0,4095⟩,DG⟩
def qb (K:By):By:=qbA (qa K)
theorem zY8 (K:By) (h:K.length=32):zW0 (qa K):=⟨h,rfl,rfl,rfl,(by show (0:Int)<=1/\(1:Int)<2 ^ 62;decide),(by show (0:Int)<=0/\(0:Int)<2 ^ 62;decide),(by show (0:Int)<=17/\(17:Int)<2 ^ 62;decide),(by show (0:Int)<=10/\(10:Int)<2 ^ 62;decide),(by show (0:Int)<=0/\(0:Int)<=65535;decide),(by show (0:Int)<=4095/\(4095:Int)<=65535;decide)⟩
theorem qdec (K:By) (h:K.length=32):att (qb K)=(qa K,0):=yBf _ (zY8 K h)
theorem qenc (K:By) (h:K.length=32):rH (qa K)=some (qb K):=yD5 _ (zY8 K h)
set_option maxRecDepth 100000
def enr:yS:=⟨2,2,[kq 4,kq 5],⟨[],sha [112,u8 2],[]⟩,⟨1,3,0,[],Qg 32 0⟩⟩
theorem zNa:sB 2 2=some enr:=by
 unfold sB;refine bd (zCk 4) ?_;refine bd (zCk 5) ?_;refine bd (zAp _ (by simp)) ?_;refine bd (a:=32) rfl ?_;refine bd (ckT rfl) ?_;refine bd (ckT rfl) ?_;rfl
def KN:By:=nm (kq 4)
theorem zKf:KN.length=32:=zFd _ _
def evd:yC:=⟨2,qb KN,zEs (sha [113,u8 4]) 0 (qb KN),zN4⟩
theorem wQ:nC ⟨2,1,EVS⟩ 2 4 [110]=some (qa KN):=by
 unfold nC;refine bd zTy ?_;refine bd sel2 ?_;refine bd yDr ?_;refine bd (a:=DG) (cf rfl rfl) ?_;refine bd (zCk 4) ?_;refine bd (bW (kq 4)) ?_;refine bd ((zEy [110] 2 zN4 (by decide) (by decide)).trans (congrArg some zXd)) ?_;rfl
theorem zS0 (K:By) (h:K.length=32):(qb K).length=141:=zVw _ (zY8 K h)
theorem wE:sA ⟨2,1,EVS⟩ 2 4 0 (qa KN)=some evd:=by
 unfold sA;refine bd zTy ?_;refine bd (qenc KN zKf) ?_;refine bd (zJw 4) ?_;have hq:=zS0 KN zKf;refine bd (a:=zEs (sha [113,u8 4]) 0 (qb KN)) ?_ rfl;rw [show xG .i64 0 1=((0:Nat):Int) from rfl];exact zJ4 _ 0 _ (by rw [jU];decide) (by omega) (by omega)
theorem wG:zAw ⟨2,1,EVS⟩ 2 [110]=some evd:=by
 unfold zAw;rw [show Q3.wrap (2*2)=4 from rfl];refine bd wQ ?_;exact bd wE rfl
theorem wV:vq (kq 4) (qb KN) (zEs (sha [113,u8 4]) 0 (qb KN))=(qa KN,0,0):=yA2 4 0 (qb KN) (qa KN) (by omega) (qdec KN zKf) rfl
theorem wqf (r:List zN):qf evd.Attest evd.Signature (kq 4 :: r) 17=(some (qa KN),0):=by
 show qf (qb KN) (zEs (sha [113,u8 4]) 0 (qb KN)) (kq 4 :: r) 17=_;unfold qf;rw [wV];rfl
theorem zYm (n:By) (hn:n.length<2 ^ 30):zWq evd [kq 4,kq 5] n:=by
 refine ⟨?_,?_,by decide,hn,by decide,λp hp=>?_⟩
 ·show (qb KN).length<_;rw [zS0 KN zKf];decide
 ·show (zEs (sha [113,u8 4]) 0 (qb KN)).length<_;rw [zM6 _ _ _ (by rw [jU];decide)];decide
 ·simp only [List.mem_cons,List.not_mem_nil,or_false] at hp;rcases hp with rfl | rfl
  ·show (zK4 _).length<_;rw [bP];decide
  ·show (zK4 _).length<_;rw [bP];decide
theorem zYb (x:yC) (keys:List zN) (n:By) (a:zM) (h:qf x.Attest x.Signature keys 17=(some a,0)) (hn:a.Nonce=nnc n x.Machine x.Log):qt x keys n=(a,0):=by
 unfold qt;rw [h];exact if_pos hn
theorem yBk (x:yC) (keys:List zN) (n:By) (a:zM) (h:qf x.Attest x.Signature keys 17=(some a,0)) (hn:¬ a.Nonce=nnc n x.Machine x.Log):qt x keys n=(sU,45):=by
 unfold qt;rw [h];exact if_neg hn
theorem n12:¬ N1=N2:=by decide
theorem nn1:(qa KN).Nonce=nnc [110] evd.Machine evd.Log:=zXd.symm
theorem nn2:¬ (qa KN).Nonce=nnc [109] evd.Machine evd.Log:=λe=>n12 ((show N1=nnc [109] 2 zN4 from e).trans yBo)
theorem wq1:qt evd [kq 4,kq 5] [110]=(qa KN,0):=zYb _ _ _ _ (wqf [kq 5]) nn1
theorem wq2:qt evd [kq 4,kq 5] [109]=(sU,45):=yBk _ _ _ _ (wqf [kq 5]) nn2
theorem zZd:xW 2=some ⟨0,4095⟩:=by decide +kernel
def zTz:yS:=⟨2,2,[kq 4,kq 5],⟨[],sha [112,u8 2],[]⟩,⟨1,3,0,[],Qg 32 0⟩⟩
theorem wX:wH evd zTz (qa KN)=some (⟨2,1,EVS⟩,0):=by
 unfold wH;refine bd (show xW zTz.Active=some ⟨0,4095⟩ from zZd) ?_;refine cf rfl ?_;refine bd zS9 ?_;refine cf rfl ?_;refine bd (a:=false) rfl ?_;refine cf rfl ?_;refine bd (a:=false) rfl ?_;refine cf rfl ?_;refine bd yE5 ?_;refine cf rfl ?_;refine bd (a:=true) ((kF DG DG).trans (by simp)) ?_;exact cf rfl rfl
theorem wA1:Def (yY evd zTz [110] [MAN]) (λv=>v.Err=0/\v.Reasons.length=10/\v.Clock=17):=by
 unfold yY;refine Q2 (λh=>by cases h) (λ_=>?_);refine Q1 (P:=λr=>r=(qa KN,0)) (Q4 (zAe evd [kq 4,kq 5] [110] (zYm _ (by decide))) wq1) (λr hr=>?_);subst hr;refine Q2 (λh=>by cases h) (λ_=>?_);refine Q1 (P:=λr=>r=(⟨2,1,EVS⟩,0)) (Q4 wX rfl) (λr hr=>?_);subst hr;refine Q2 (λh=>by cases h) (λ_=>?_);have hx:=yCi;refine Q1 (P:=λr=>r.1.length=10/\r.2.2=0) ?_ (λr hr=>?_)
 ·cases hm:sC ⟨2,1,EVS⟩ [MAN] with
  | none=>rw [hm] at hx;cases hx
  | some r=>
   rw [hm] at hx;simp only [Option.map_some,Option.some.injEq,Prod.mk.injEq] at hx;exact Q0 hx
 obtain ⟨rs,a,b⟩:=r;obtain ⟨h1,h2⟩:=hr;simp only at h1 h2;subst h2;exact Q2 (λh=>by cases h) (λ_=>Q0 ⟨rfl,h1,rfl⟩)
theorem wA2:Def (yY evd zTz [109] [MAN]) (λv=>v.Err=45):=by
 unfold yY;refine Q2 (λh=>by cases h) (λ_=>?_);refine Q1 (P:=λr=>r=(sU,45)) (Q4 (zAe evd [kq 4,kq 5] [109] (zYm _ (by decide))) wq2) (λr hr=>?_);subst hr;exact Q2 (λ_=>Q0 rfl) (λh=>by cases h)
theorem wA3:Def (yY evd zTz [110] []) (λv=>v.Err=47):=by
 unfold yY;refine Q2 (λh=>by cases h) (λ_=>?_);refine Q1 (P:=λr=>r=(qa KN,0)) (Q4 (zAe evd [kq 4,kq 5] [110] (zYm _ (by decide))) wq1) (λr hr=>?_);subst hr;refine Q2 (λh=>by cases h) (λ_=>?_);refine Q1 (P:=λr=>r=(⟨2,1,EVS⟩,0)) (Q4 wX rfl) (λr hr=>?_);subst hr;refine Q2 (λh=>by cases h) (λ_=>?_);refine Q1 (P:=λr=>r=([],0,47)) (Q4 zZw rfl) (λr hr=>?_);subst hr;exact Q2 (λ_=>Q0 rfl) (λh=>by cases h)
theorem zSk:kA=some true:=by
 obtain ⟨v1,a1,a2,a3,a4⟩:=wA1;obtain ⟨v2,b1,b2⟩:=wA2;obtain ⟨v3,c1,c2⟩:=wA3;unfold kA;refine bd yBg ?_;refine bd yAt ?_;refine bd zNa ?_;refine bd wG ?_;refine bd (a:=v1) a1 ?_;refine bd (a:=true) ?_ rfl;refine ct (by rw [a2];rfl) ?_;refine ct (by rw [a3];rfl) ?_;refine ct (by rw [a4];rfl) ?_;refine bd (a:=v2) b1 ?_;refine ct (by rw [b2];rfl) ?_;refine bd (a:=v3) c1 ?_;rw [c2];rfl
theorem cW (codes chain manifests changes:By) (active enrolled machine:Int):wZ codes chain manifests changes active enrolled machine=some true:=zMg zSk codes chain manifests changes active enrolled machine
end Go.Proofs.TT
