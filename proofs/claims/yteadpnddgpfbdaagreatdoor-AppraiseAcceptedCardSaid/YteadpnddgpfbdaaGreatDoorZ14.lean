/- AppraiseAccepted (law 37: what an accepted verdict means) is proved for every input, under no condition of ours; this text is a part of that proof. -/
import Derived.Test.YteadpnddgpfbdaaGreatDoorZ13
set_option linter.all false
namespace Go.Proofs.TT
open Go Go.Sw
set_option maxRecDepth 100000
theorem zJ4 (e:api_Event):Def (oO e) (λp=>p=0∨p=1∨p=2∨p=3∨p=4∨p=5):=by
 unfold oO
 refine Def.bd (P:=λ_=>True) (Def.c (λ_=>Def.s trivial) (λ_=>Def.s trivial)) (λ_ _=>?_)
 refine Def.c (λ_=>Def.s (by simp)) (λ_=>?_)
 refine Def.bd (P:=λ_=>True) (Def.c (λ_=>Def.s trivial) (λ_=>Def.s trivial)) (λ_ _=>?_)
 refine Def.c (λ_=>Def.s (by simp)) (λ_=>?_)
 refine Def.bd (P:=λ_=>True) (Def.c (λ_=>Def.c (λ_=>Def.s trivial) (λ_=>Def.s trivial)) (λ_=>Def.s trivial)) (λ_ _=>?_)
 refine Def.c (λ_=>Def.s (by simp)) (λ_=>?_)
 refine Def.bd (P:=λ_=>True) (Def.c (λ_=>Def.s trivial) (λ_=>Def.s trivial)) (λ_ _=>?_)
 refine Def.c (λ_=>Def.s (by simp)) (λ_=>?_)
 refine Def.bd (P:=λ_=>True) (Def.c (λ_=>Def.s trivial) (λ_=>Def.s trivial)) (λ_ _=>?_)
 exact Def.c (λ_=>Def.s (by simp)) (λ_=>Def.s (by simp))
theorem zMd (w:match_walk) (e:api_Event):Def (rI w e) (λ_=>True):=by
 unfold rI
 refine Def.c (λ_=>Def.s trivial) (λ_=>?_)
 refine Def.bd (zJ4 e) (λp hp=>?_)
 refine Def.bd (P:=λ_=>True) (Def.c (λ_=>Def.s trivial) (λ_=>Def.c (λ_=>Def.s trivial) (λ_=>Def.c (λ_=>Def.s trivial) (λ_=>Def.s trivial)))) (λ_ _=>?_)
 refine Def.c (λ_=>Def.s trivial) (λ_=>?_)
 refine Def.bd (P:=λ_=>True) (Def.c (λ_=>Def.s trivial) (λ_=>Def.s trivial)) (λ_ _=>?_)
 refine Def.c (λ_=>Def.s trivial) (λ_=>?_)
 refine Def.bd (P:=λ_=>True) (Def.c (λ_=>Def.s trivial) (λ_=>Def.s trivial)) (λ_ _=>?_)
 refine Def.c (λ_=>Def.s trivial) (λ_=>?_)
 refine Def.bd (P:=λ_=>True) (Def.c (λ_=>Def.s trivial) (λ_=>Def.s trivial)) (λ_ _=>?_)
 refine Def.bd (P:=λ_=>True) ?_ (λ_ _=>Def.s trivial)
 rcases hp with rfl | rfl | rfl | rfl | rfl | rfl<;>exact ⟨_,rfl,trivial⟩
end Go.Proofs.TT
namespace Go.Proofs.TT
open Go Go.Sw
set_option maxRecDepth 100000
theorem or5 {a b c d e:Bool}:Def (bif a then some true else bif b then some true else bif c then some true else bif d then some true else some e) (λr=>r=(a||b||c||d||e)):=by
 cases a<;>cases b<;>cases c<;>cases d<;>cases e<;>exact Def.s rfl
theorem zEp (s:List UInt8):Def (tK s) (λb=>b=true->s.length<=12):=by
 unfold tK
 refine Def.bd (P:=λe=>e=0->s.length<=12) ?_ (λe he=>Def.s (λh=>he (by simpa using h)))
 unfold gP
 refine Def.bd (P:=λb=>b=false) (Def.s rfl) (λb hb=>?_)
 subst hb
 refine Def.c (λh=>by cases h) (λ_=>?_)
 refine Def.bd (P:=λb=>b=true->s.length<=12) (Def.s (λh=>by simp at h;omega)) (λb hb=>?_)
 refine Def.c (λ_=>Def.s (λh=>by cases h)) (λh=>?_)
 have:=hb (by simpa using h)
 refine Def.c (λ_=>Def.s (λh=>by cases h)) (λ_=>?_)
 refine Def.bd (P:=λb=>b=false) (Def.s rfl) (λb hb=>?_)
 subst hb
 exact Def.c (λh=>by cases h) (λ_=>Def.s (λ_=>this))
theorem zG5 (x y:Int):Def (uS x y) (λr=>r=if x<y then -1 else if y<x then 1 else 0):=by
 unfold uS
 have e:∀ x:Int,sY x=some false:=λx=>by simp [sY]
 refine Def.bd (P:=λb=>b=false) (Def.of (e x) rfl) (λb hb=>?_)
 subst hb
 refine Def.bd (P:=λb=>b=false) (Def.of (e y) rfl) (λb hb=>?_)
 subst hb
 refine Def.c (λh=>by cases h) (λ_=>Def.c (λh=>by cases h) (λ_=>Def.c (λh=>Def.s ?_) (λh=>Def.c (λh2=>Def.s ?_) (λh2=>Def.s ?_))))
 ·rw [if_pos (dT h)]
 ·rw [if_neg (dF h),if_pos (dT h2)]
 ·rw [if_neg (dF h),if_neg (dF h2)]
def fnz:List Int->Int
 | []=>0
 | x :: r=>if x=0 then fnz r else x
theorem zN8 (l:List Int) (hl:l.length<2 ^ 40):Def (iK l) (λr=>r=fnz l):=by
 unfold iK
 refine Def.bd (P:=λr=>(match r with | .inl r=>r | .inr _=>0)=fnz l) ?_ (λr hr=>?_)
 ·refine Def.loop (λs=>∃ i:Nat,s=(i:Int)/\i<=l.length/\fnz (l.drop i)=fnz l) (λs=>l.length - s.toNat) (λs hs=>?_) ⟨0,rfl,by omega,rfl⟩ (by simp;omega)
  obtain ⟨i,rfl,hi,hf⟩:=hs
  unfold dB
  refine Def.c (λh=>?_) (λh=>Def.s ?_)
  ·have hi2:i<l.length:=by have:=dT h;omega
   refine Def.bd (Def.at' hi2) (λd hd=>?_)
   have e:fnz l=if d=0 then fnz (l.drop (i+1)) else d:=by rw [<- hf,List.drop_eq_getElem_cons hi2,hd];rfl
   refine Def.c (λhn=>Def.s ?_) (λhn=>Def.s ?_)
   ·rw [if_neg (by simpa using hn)] at e
    exact e.symm
   ·rw [if_pos (by simpa using hn)] at e
    rw [yE (by omega)]
    exact ⟨⟨i+1,rfl,by omega,e.symm⟩,by simp only [Int.toNat_natCast];omega⟩
  ·have:i=l.length:=by have:=dF h;omega
   rw [<- hf,this,List.drop_length];rfl
 ·cases r with
  | inl r=>exact Def.s hr
  | inr u=>exact Def.s hr
def ord (x y:api_Entry):Int:=fnz [if x.Role<y.Role then -1 else if y.Role<x.Role then 1 else 0,Lib.compareBytes x.Name y.Name,if x.Version<y.Version then -1 else if y.Version<x.Version then 1 else 0,Lib.compareBytes x.Digest y.Digest]
theorem zNq (x y:api_Entry):Def (pL x y) (λr=>r=ord x y):=by
 unfold pL
 refine Def.bd (zG5 _ _) (λa ha=>?_)
 refine Def.bd (P:=λr=>r=Lib.compareBytes x.Name y.Name) (Def.s rfl) (λb hb=>?_)
 refine Def.bd (zG5 _ _) (λc hc=>?_)
 refine Def.bd (P:=λr=>r=Lib.compareBytes x.Digest y.Digest) (Def.s rfl) (λd hd=>?_)
 subst ha hb hc hd
 exact Def.bd (zN8 _ (by simp)) (λr hr=>Def.s hr)
theorem uZ {α R:Type} (l:List α) (step:Int->Option (Int ⊕ (R ⊕ Unit))) (G:Nat->Prop) (B:R->Prop) (hl:l.length<2 ^ 40)
  (h:∀ i,i<l.length->Def (step (i:Int)) (λr=>match r with | .inl j=>j=((i+1:Nat):Int)/\G i | .inr (.inl b)=>B b | .inr (.inr _)=>False))
  (he:step (l.length:Int)=some (.inr (.inr ()))):Def (zG step FU 0) (λr=>match r with | .inl b=>B b | .inr _=>∀ i,i<l.length->G i):=by
 refine Def.loop (λs=>∃ i:Nat,s=(i:Int)/\i<=l.length/\∀ k,k<i->G k) (λs=>l.length - s.toNat) (λs hs=>?_) ⟨0,rfl,by omega,λk hk=>by omega⟩ (by simp;omega)
 obtain ⟨i,rfl,hi,hg⟩:=hs
 by_cases h2:i<l.length
 ·refine (h i h2).mono λr hr=>?_
  match r,hr with
  | .inl j,hr=>
   refine ⟨⟨i+1,hr.1,h2,λk hk=>?_⟩,by rw [hr.1];simp only [Int.toNat_natCast];omega⟩
   by_cases hk2:k<i
   ·exact hg k hk2
   ·have:k=i:=by omega
    subst this;exact hr.2
  | .inr (.inl b),hr=>exact hr
  | .inr (.inr u),hr=>exact hr.elim
 ·have:i=l.length:=by omega
  subst this
  exact Def.of he hg
theorem zLk {α:Type} {c:UInt8} {f:Bool->Option α} {Q:α->Prop} (h:Def (f (decide (c.toNat<32)||decide (126<c.toNat))) Q) :
  Def ((bif decide ((c.toNat:Int)<32) then (some true) else some (decide (126<(c.toNat:Int))):Option Bool).bind f) Q:=by
 have e:(bif decide ((c.toNat:Int)<32) then (some true) else some (decide (126<(c.toNat:Int))):Option Bool)=some (decide (c.toNat<32)||decide (126<c.toNat)):=by
  have h1:decide ((c.toNat:Int)<32)=decide (c.toNat<32):=decide_eq_decide.2 (by omega)
  have h2:decide (126<(c.toNat:Int))=decide (126<c.toNat):=decide_eq_decide.2 (by omega)
  rw [h1,h2]
  cases decide (c.toNat<32)<;>rfl
 rw [e]
 exact h
theorem zCl (r:api_Rule) (h:r.Text.length<2 ^ 40):Def (o7 r) (λc=>c=0->r.Text.length<=32):=by
 unfold o7
 refine Def.bd (P:=λ_=>True) (Def.c (λ_=>Def.s trivial) (λ_=>Def.s trivial)) (λb _=>?_)
 refine Def.c (λ_=>Def.s (λh=>by cases h)) (λ_=>?_)
 refine Def.bd (uZ r.Text (qQ r) (λ_=>True) (λb=>b=1) h (λi hi=>?_) ?_) (λy hy=>?_)
 ·unfold qQ
  refine Def.c (λ_=>?_) (λh=>by have:=dF h;omega)
  refine Def.bd (Def.at' hi) (λc _=>?_)
  refine zLk ?_
  refine Def.c (λ_=>Def.s rfl) (λ_=>Def.s ⟨yE (by omega),trivial⟩)
 ·unfold qQ
  exact cf (by simp) rfl
 ·cases y with
  | inl b=>exact Def.s (λh=>by rw [h] at hy;cases hy)
  | inr u=>
   refine Def.bd (P:=λ_=>True) (Def.c (λ_=>Def.c (λ_=>Def.s trivial) (λ_=>Def.c (λ_=>Def.s trivial) (λ_=>Def.s trivial))) (λ_=>Def.s trivial)) (λb _=>?_)
   refine Def.c (λ_=>Def.s (λh=>by cases h)) (λ_=>?_)
   refine Def.bd (P:=λ_=>True) (Def.c (λ_=>Def.c (λ_=>Def.s trivial) (λ_=>Def.s trivial)) (λ_=>Def.s trivial)) (λb _=>?_)
   refine Def.c (λ_=>Def.s (λh=>by cases h)) (λ_=>?_)
   refine Def.bd (P:=λ_=>True) (Def.c (λ_=>Def.s trivial) (λ_=>Def.s trivial)) (λb _=>?_)
   refine Def.c (λ_=>Def.s (λh=>by cases h)) (λ_=>?_)
   exact Def.c (λ_=>Def.s (λh=>by cases h)) (λh=>Def.s (λ_=>by have:=dF h;omega))
structure MGood (m:api_Manifest):Prop where
 n:m.Entries.length<=16
 k:m.Rules.length<=8
 e:∀ i,(h:i<m.Entries.length)->1<=m.Entries[i].Role/\m.Entries[i].Role<=3/\0<=m.Entries[i].Version/\m.Entries[i].Version<=1000000/\m.Entries[i].Name.length<=12
 r:∀ i,(h:i<m.Rules.length)->m.Rules[i].Text.length<2 ^ 40
theorem zIk (m:api_Manifest) (h:MOk m):Def (qT m) (λc=>c=0->MGood m):=by
 unfold qT
 refine Def.bd (zEp _) (λb _=>?_)
 refine Def.c (λ_=>Def.s (λh=>by cases h)) (λ_=>?_)
 refine Def.bd (P:=λ_=>True) (Def.c (λ_=>Def.s trivial) (λ_=>Def.c (λ_=>Def.s trivial) (λ_=>Def.c (λ_=>Def.s trivial) (λ_=>Def.c (λ_=>Def.s trivial) (λ_=>Def.c (λ_=>Def.s trivial) (λ_=>Def.s trivial)))))) (λb _=>?_)
 refine Def.c (λ_=>Def.s (λh=>by cases h)) (λ_=>?_)
 refine Def.bd (P:=λb=>b=false->m.Entries.length<=16/\m.Rules.length<=8) (Def.c (λ_=>Def.s (λh=>by cases h)) (λh1=>Def.s (λh2=>⟨by have:=dF h1;omega,by have:=dF h2;omega⟩))) (λb hb=>?_)
 refine Def.c (λ_=>Def.s (λh=>by cases h)) (λhf=>?_)
 obtain ⟨n,k⟩:=hb hf
 refine Def.bd (uZ m.Entries (tA m) (λi=>∀ h:i<m.Entries.length,1<=m.Entries[i].Role/\m.Entries[i].Role<=3/\0<=m.Entries[i].Version/\m.Entries[i].Version<=1000000/\m.Entries[i].Name.length<=12) (λb=>b≠0) (by omega) (λi hi=>?_) ?_) (λy hy=>?_)
 ·unfold tA
  refine Def.c (λ_=>?_) (λh=>by have:=dF h;omega)
  refine Def.bd (Def.at' hi) (λx hx=>?_)
  refine Def.bd or5 (λb hb=>?_)
  refine Def.c (λ_=>Def.s (by show (1:Int)≠0;decide)) (λhbf=>?_)
  rw [hbf] at hb
  simp only [Bool.false_eq,Bool.or_eq_false_iff,decide_eq_false_iff_not] at hb
  refine Def.bd (zEp _) (λb2 hb2=>?_)
  refine Def.c (λ_=>Def.s (by show (43:Int)≠0;decide)) (λhn=>?_)
  have hn':=hb2 (by simpa using hn)
  refine Def.bd (P:=λ_=>True) ?_ (λ_ _=>?_)
  ·refine Def.c (λh0=>?_) (λ_=>Def.s trivial)
   have:0<i:=by have:=dT h0;omega
   rw [show IntKind.i64.wrap ((i:Int) - 1)=((i - 1:Nat):Int) by rw [zS (by omega) (by omega)];omega]
   refine Def.bd (Def.at' (show i - 1<m.Entries.length by omega)) (λy _=>?_)
   exact Def.bd (zNq _ _) (λ_ _=>Def.s trivial)
  ·refine Def.c (λ_=>Def.s (by show (41:Int)≠0;decide)) (λ_=>Def.s ⟨yE (by omega),λ_=>?_⟩)
   rw [<- hx]
   refine ⟨by omega,by omega,by omega,by omega,hn'⟩
 ·unfold tA
  exact cf (by simp) rfl
 cases y with
 | inl b=>exact Def.s (λh=>absurd h hy)
 | inr u=>
  refine Def.bd (uZ m.Rules (tD m) (λ_=>True) (λb=>b≠0) (by omega) (λi hi=>?_) ?_) (λz hz=>?_)
  ·unfold tD
   refine Def.c (λ_=>?_) (λh=>by have:=dF h;omega)
   refine Def.bd (Def.at' hi) (λx hx=>?_)
   refine Def.bd (zCl x (by rw [hx];exact h _ (List.getElem_mem _))) (λc _=>?_)
   exact Def.c (λhc=>Def.s (by simpa using hc)) (λ_=>Def.s ⟨yE (by omega),trivial⟩)
  ·unfold tD
   exact cf (by simp) rfl
  cases z with
  | inl b=>exact Def.s (λh=>absurd h hz)
  | inr u=>exact Def.s (λ_=>⟨n,k,λi hi=>hy i hi hi,λi hi=>h _ (List.getElem_mem _)⟩)
end Go.Proofs.TT
namespace Go.Proofs.TT
open Go Go.Sw
set_option maxRecDepth 100000
theorem zF9 (e:api_Event) (hd:e.Data.length<=64) (hg:e.Digests.length=2):Def (uE e) (λ_=>True):=by
 unfold uE
 refine Def.bd (P:=λ_=>True) (Def.c (λ_=>Def.s trivial) (λ_=>Def.s trivial)) (λb _=>?_)
 refine Def.bd (P:=λ_=>True) ?_ (λy _=>?_)
 ·refine Def.c (λ_=>Def.s trivial) (λ_=>Def.c (λ_=>?_) (λ_=>Def.c (λ_=>?_) (λ_=>?_)))
  ·refine Def.bd (Def.mkN (by decide) (by decide)) (λn _=>?_)
   refine Def.bd (P:=λ_=>True) (Def.s trivial) (λ_ _=>?_)
   exact Def.c (λ_=>Def.s trivial) (λ_=>Def.s trivial)
  ·refine Def.c (λ_=>Def.s trivial) (λ_=>?_)
   refine Def.bd (uZ e.Data (vW e) (λ_=>True) (λ_=>True) (by omega) (λi hi=>?_) ?_) (λy _=>?_)
   ·unfold vW
    refine Def.c (λ_=>?_) (λh=>by have:=dF h;omega)
    exact Def.bd (Def.at' hi) (λc _=>zLk (Def.c (λ_=>Def.s trivial) (λ_=>Def.s ⟨yE (by omega),trivial⟩)))
   ·unfold vW
    exact cf (by simp) rfl
   ·cases y with
    | inl b=>exact Def.s trivial
    | inr u=>exact Def.s trivial
  ·exact Def.bd (P:=λ_=>True) (Def.c (λ_=>Def.s trivial) (λ_=>Def.s trivial)) (λb _=>Def.c (λ_=>Def.s trivial) (λ_=>Def.s trivial))
 cases y with
 | inl b=>exact Def.s trivial
 | inr u=>
  have hif:(if 2<(e.Digests.length:Int) then (2:Int) else (e.Digests.length:Int))=2:=by rw [hg];rfl
  refine Def.bd (uZ e.Digests (vT e b) (λ_=>True) (λ_=>True) (by omega) (λi hi=>?_) ?_) (λy _=>?_)
  ·unfold vT
   rw [hif]
   refine Def.c (λ_=>?_) (λh=>by have:=dF h;omega)
   refine Def.bd (Def.at' hi) (λd _=>?_)
   refine Def.bd (P:=λ_=>True) ?_ (λ_ _=>Def.c (λ_=>Def.s trivial) (λ_=>Def.s ⟨yE (by omega),trivial⟩))
   refine Def.c (λ_=>Def.c (λ_=>Def.s trivial) (λ_=>?_)) (λ_=>Def.s trivial)
   refine Def.bd (zF3 (i:Int) e.Data (by omega) (by omega)) (λs _=>?_)
   exact Def.bd (P:=λ_=>True) (Def.s trivial) (λ_ _=>Def.s trivial)
  ·unfold vT
   rw [hif,hg]
   exact cf rfl rfl
  ·cases y with
   | inl b=>exact Def.s trivial
   | inr u=>exact Def.s trivial
theorem zQw {K a a' b b' c c':Nat} (hb:b'<K) (hc:c'<K) (h:a'<a∨(a'=a/\(b'<b∨(b'=b/\c'<c)))):a'*(K*K)+b'*K+c'<a*(K*K)+b*K+c:=by
 rcases h with h | ⟨rfl,h | ⟨rfl,h⟩⟩
 ·have h1:(a'+1)*(K*K)<=a*(K*K):=Nat.mul_le_mul_right _ h
  have h2:(b'+1)*K<=K*K:=Nat.mul_le_mul_right _ hb
  rw [Nat.add_mul,Nat.one_mul] at h1 h2
  omega
 ·have h2:(b'+1)*K<=b*K:=Nat.mul_le_mul_right _ h
  rw [Nat.add_mul,Nat.one_mul] at h2
  omega
 ·omega
theorem zK1 (p l:List UInt8) (hp:p.length<=32) (hl:l.length<=64):Def (iB p l) (λ_=>True):=by
 unfold iB
 refine Def.bd (P:=λr=>match r with | .inl _=>True | .inr q=>0<=q/\q<=(p.length:Int)) ?_ (λy hy=>?_)
 ·refine Def.loop (λst=>∃ (a b r:Nat) (s:Int),st=((a:Int),(b:Int),s,(r:Int))/\a<=p.length/\b<=l.length/\-1<=s/\s<p.length/\r<=b/\s<a)
   (λst=>((p.length:Int) - st.2.2.1).toNat*((l.length+2)*(l.length+2))+(l.length+1 - st.2.2.2.toNat)*(l.length+2)+(l.length+1 - st.2.1.toNat)) (λst hs=>?_) ⟨0,0,0,-1,rfl,by omega,by omega,by omega,by omega,by omega,by omega⟩ ?_
  ·obtain ⟨a,b,r,s,rfl,ha,hb,hs1,hs2,hr,hsa⟩:=hs
   unfold dA
   refine Def.c (λh=>?_) (λ_=>Def.s ⟨by omega,by omega⟩)
   have hbl:b<l.length:=by have:=dT h;omega
   refine Def.bd (P:=λx=>x=true->a<p.length) ?_ (λx hx=>?_)
   ·refine Def.c (λh=>?_) (λ_=>Def.s (λh=>by cases h))
    have:=dT h
    exact Def.bd (Def.at' (show a<p.length by omega)) (λ_ _=>Def.s (λ_=>by omega))
   refine Def.c (λhxt=>Def.s ?_) (λ_=>?_)
   ·have:=hx hxt
    rw [yE (show a<2 ^ 40 by omega)]
    refine ⟨⟨a+1,b,b,(a:Int),rfl,by omega,by omega,by omega,by omega,by omega,by omega⟩,?_⟩
    refine zQw ?_ ?_ (.inl ?_)<;>simp only [Int.toNat_natCast]<;>omega
   refine Def.bd (P:=λx=>x=true->a<p.length) ?_ (λx hx=>?_)
   ·refine Def.c (λh=>?_) (λ_=>Def.s (λh=>by cases h))
    have:=dT h
    refine Def.bd (Def.at' (show a<p.length by omega)) (λ_ _=>?_)
    refine Def.c (λ_=>Def.s (λ_=>by omega)) (λ_=>?_)
    refine Def.bd (Def.at' (show a<p.length by omega)) (λ_ _=>?_)
    exact Def.bd (Def.at' hbl) (λ_ _=>Def.s (λ_=>by omega))
   refine Def.c (λhxt=>Def.s ?_) (λ_=>?_)
   ·have:=hx hxt
    rw [yE (show a<2 ^ 40 by omega),yE (show b<2 ^ 40 by omega)]
    refine ⟨⟨a+1,b+1,r,s,rfl,by omega,by omega,by omega,by omega,by omega,by omega⟩,?_⟩
    refine zQw ?_ ?_ (.inr ⟨rfl,.inr ⟨rfl,?_⟩⟩)<;>simp only [Int.toNat_natCast]<;>omega
   refine Def.c (λh=>Def.s ?_) (λ_=>Def.s trivial)
   have h0:0<=s:=dT h
   obtain ⟨n,rfl⟩:=Int.eq_ofNat_of_zero_le h0
   rw [yE (show n<2 ^ 40 by omega),yE (show r<2 ^ 40 by omega)]
   refine ⟨⟨n+1,r+1,r+1,(n:Int),rfl,by omega,by omega,by omega,by omega,by omega,by omega⟩,?_⟩
   refine zQw ?_ ?_ (.inr ⟨rfl,.inl ?_⟩)<;>simp only [Int.toNat_natCast]<;>omega
  ·have h1:((p.length:Int) - -1).toNat<=33:=by omega
   have h2:(l.length+2)*(l.length+2)<=66*66:=Nat.mul_le_mul (by omega) (by omega)
   have h3:((p.length:Int) - -1).toNat*((l.length+2)*(l.length+2))<=33*(66*66):=Nat.mul_le_mul h1 h2
   have h4:(l.length+1 - (0:Int).toNat)*(l.length+2)<=65*66:=Nat.mul_le_mul (by omega) (by omega)
   have h5:l.length+1 - (0:Int).toNat<=65:=by omega
   simp only
   omega
 ·cases y with
  | inl b=>exact Def.s trivial
  | inr q=>
   refine Def.bd (Def.sub hy.1 (by exact_mod_cast hy.2) (by omega)) (λv hv=>?_)
   have hvl:v.length<=p.length:=by rw [hv];simp
   refine Def.bd (P:=λ_=>True) ?_ (λ_ _=>Def.s trivial)
   unfold jI
   refine Def.bd (P:=λ_=>True) (Def.c (λ_=>Def.s trivial) (λ_=>Def.s trivial)) (λb _=>?_)
   refine Def.c (λ_=>Def.s trivial) (λ_=>?_)
   refine Def.bd (P:=λb=>b=true) (Def.s rfl) (λb hb=>?_)
   subst hb
   refine Def.c (λ_=>?_) (λh=>by cases h)
   refine Def.bd (P:=λ_=>True) (Def.s trivial) (λc _=>?_)
   refine Def.bd (P:=λr=>r.length<=v.length) ?_ (λw hw=>?_)
   ·unfold u6
    refine Def.bd (P:=λr=>r.length<=v.length) ?_ (λw hw=>Def.s hw)
    refine Def.loop (λw=>w.length<=v.length) (λw=>w.length) (λw hw=>?_) (Nat.le_refl _) (by omega)
    unfold s4
    refine Def.bd (P:=λb=>b=true->0<w.length) ?_ (λb hb=>?_)
    ·refine Def.c (λh=>?_) (λ_=>Def.s (λh=>by cases h))
     have:=dT h
     rw [zS (by omega) (by omega)]
     exact Def.bd (Def.idx (by omega) (by omega)) (λ_ _=>Def.s (λ_=>by omega))
    refine Def.c (λh=>?_) (λ_=>Def.s hw)
    have:=hb h
    rw [zS (by omega) (by omega)]
    refine Def.bd (Def.sub (by decide) (by omega) (by omega)) (λx hx=>Def.s ?_)
    have:x.length=w.length - 1:=by rw [hx];simp
    exact ⟨by omega,by omega⟩
   refine Def.bd (P:=λ_=>True) (Def.s trivial) (λc _=>?_)
   refine Def.bd (P:=λ_=>True) ?_ (λ_ _=>Def.s trivial)
   unfold tT
   refine Def.bd (P:=λ_=>True) ?_ (λw hw=>Def.s hw)
   refine Def.loop (λw=>w.length<=v.length) (λw=>w.length) (λw hw=>?_) hw (by omega)
   unfold rT
   refine Def.bd (P:=λb=>b=true->0<w.length) ?_ (λb hb=>?_)
   ·refine Def.c (λh=>?_) (λ_=>Def.s (λh=>by cases h))
    have:=dT h
    exact Def.bd (Def.idx (by omega) (by omega)) (λ_ _=>Def.s (λ_=>by omega))
   refine Def.c (λh=>?_) (λ_=>Def.s trivial)
   have:=hb h
   refine Def.bd (Def.sub (by decide) (by omega) (by omega)) (λx hx=>Def.s ?_)
   have:x.length=w.length - 1:=by rw [hx];simp
   exact ⟨by omega,by omega⟩
theorem zGv:∀ (s:List UInt8) (acc:Nat),(∀ c∈s,48<=c.toNat/\c.toNat<=57)->Def (decV acc s) (λ_=>True)
 | [],_,_=>Def.s trivial
 | c :: r,acc,h=>by
  unfold decV
  refine Def.c (λ_=>zGv r _ (λx hx=>h x (List.mem_cons_of_mem _ hx))) (λh2=>?_)
  have:=h c (List.mem_cons_self ..)
  rw [cV this.1,cV this.2] at h2
  cases h2
theorem zHi (s:List UInt8):Def (n8 s) (λ_=>True):=by
 unfold n8
 refine Def.bd (P:=λb=>b=false->1<=s.length/\s.length<=10) ?_ (λb hb=>?_)
 ·refine Def.c (λ_=>Def.s (λh=>by cases h)) (λh1=>Def.c (λ_=>Def.s (λh=>by cases h)) (λh2=>?_))
  have h3:=dF h2
  have h4:1<=s.length:=by
   cases s with
   | nil=>cases h1
   | cons a r=>simp
  refine Def.c (λh=>?_) (λ_=>Def.s (λ_=>⟨h4,by omega⟩))
  exact Def.bd (Def.idx (by decide) (by omega)) (λ_ _=>Def.s (λ_=>⟨h4,by omega⟩))
 refine Def.c (λ_=>Def.s trivial) (λhbf=>?_)
 obtain ⟨h1,h10⟩:=hb hbf
 refine Def.bd (uZ s (rC s) (λi=>∀ h:i<s.length,48<=s[i].toNat/\s[i].toNat<=57) (λ_=>True) (by omega) (λi hi=>?_) ?_) (λy hy=>?_)
 ·unfold rC
  refine Def.c (λ_=>?_) (λh=>by have:=dF h;omega)
  refine Def.bd (P:=λb=>b=false->48<=s[i].toNat/\s[i].toNat<=57) ?_ (λb hb=>?_)
  ·refine Def.bd (Def.at' hi) (λc hc=>Def.c (λ_=>Def.s (λh=>by cases h)) (λh48=>?_))
   refine Def.bd (Def.at' hi) (λd hd=>Def.s (λh57=>?_))
   have:=dF h48;have:=dF h57
   rw [hc] at *;rw [hd] at *
   omega
  ·exact Def.c (λ_=>Def.s trivial) (λh=>Def.s ⟨yE (by omega),λ_=>hb h⟩)
 ·unfold rC
  exact cf (by simp) rfl
 ·cases y with
  | inl b=>exact Def.s trivial
  | inr u=>
   refine Def.bd (P:=λ_=>True) ?_ (λ_ _=>Def.s trivial)
   unfold strconv_Atoi
   rw [cV h1,cV (show s.length<=18 by omega)]
   refine Def.bd (zGv s 0 (λc hc=>?_)) (λ_ _=>Def.s trivial)
   obtain ⟨i,hi,rfl⟩:=List.mem_iff_getElem.mp hc
   exact hy i hi hi
theorem zMy (s p:List UInt8):Def (tE s p) (λ_=>True):=by
 unfold tE xS xR
 refine Def.bd (P:=λ_=>True) ?_ (λ_ _=>Def.s trivial)
 refine Def.bd (P:=λb=>b=true->p.length<=s.length) ?_ (λb hb=>?_)
 ·refine Def.bd (P:=λb=>b=true->p.length<=s.length) ?_ (λb hb=>Def.s hb)
  refine Def.c (λh=>?_) (λ_=>Def.s (λh=>by cases h))
  have:=dT h
  exact Def.bd (Def.sub (by decide) (by omega) (by omega)) (λ_ _=>Def.s (λ_=>by omega))
 refine Def.c (λ_=>Def.s trivial) (λh=>?_)
 have:=hb (by simpa using h)
 exact Def.bd (Def.sub (by omega) (by omega) (by omega)) (λ_ _=>Def.s trivial)
theorem zIe (r:api_Rule) (l:List UInt8) (h:r.Text.length<2 ^ 40) (hl:l.length<=64):Def (n0 r l) (λ_=>True):=by
 unfold n0
 refine Def.bd (zCl r h) (λc hc=>?_)
 refine Def.c (λ_=>Def.s trivial) (λhc0=>?_)
 have ht:=hc (by simpa using hc0)
 refine Def.c (λ_=>Def.s trivial) (λ_=>Def.c (λ_=>?_) (λ_=>Def.c (λ_=>?_) (λ_=>Def.s trivial)))
 ·exact Def.bd (zK1 _ _ ht hl) (λ_ _=>Def.s trivial)
 ·refine Def.bd (zMy _ _) (λz _=>?_)
  refine Def.bd (zHi _) (λn _=>?_)
  exact Def.bd (P:=λ_=>True) (Def.c (λ_=>Def.c (λ_=>Def.s trivial) (λ_=>Def.s trivial)) (λ_=>Def.s trivial)) (λ_ _=>Def.s trivial)
end Go.Proofs.TT
namespace Go.Proofs.TT
open Go Go.Sw
set_option maxRecDepth 100000
structure EvS (e:api_Event):Prop where
 d:e.Data.length<=64
 n:e.Digests.length=2
theorem EvGood.s {e:api_Event} {a:Int} (h:EvGood e a):EvS e:=⟨h.d,h.l⟩
theorem zGs:∀ f u,(decF f u).length<=f
 | 0,_=>Nat.le_refl _
 | f+1,u=>by
  unfold decF
  cases Nat.blt u 10
  ·simp only [cond_false,List.length_append,List.length_singleton]
   have:=zGs f (u / 10)
   omega
  ·simp only [cond_true,List.length_singleton]
   omega
theorem zI8 (r:Int):Def (tU r) (λ_=>True):=by
 unfold tU
 refine Def.bd (P:=λb=>b=false->0<=r/\r<5) (Def.c (λ_=>Def.s (λh=>by cases h)) (λh1=>Def.s (λh2=>?_))) (λb hb=>?_)
 ·have:=dF h1;have:=dF h2
  omega
 refine Def.c (λ_=>Def.s trivial) (λh=>?_)
 exact Def.bd (Def.idx (hb h).1 (hb h).2) (λ_ _=>Def.s trivial)
theorem zPu (x:api_Entry) (e:api_Event) (h0:0<=x.Version) (h1:x.Version<=1000000) (hn:x.Name.length<=12):Def (sJ x e) (λ_=>True):=by
 unfold sJ
 refine Def.bd (P:=λ_=>True) ?_ (λ_ _=>Def.s trivial)
 refine Def.bd (zI8 _) (λ_ _=>?_)
 refine Def.c (λ_=>Def.c (λh=>?_) (λ_=>Def.s trivial)) (λ_=>Def.s trivial)
 have:=dT h
 refine Def.bd (Def.idx (by decide) this) (λ_ _=>?_)
 refine Def.bd (P:=λ_=>True) (Def.s trivial) (λ_ _=>?_)
 refine Def.c (λ_=>?_) (λ_=>Def.s trivial)
 refine Def.bd (Def.ck (cV (by simp;omega))) (λ_ _=>?_)
 refine Def.bd (P:=λv=>v.length<=20) ?_ (λv hv=>?_)
 ·unfold strconv_Itoa
  refine Def.c (λ_=>Def.s (zGs _ _)) (λh=>?_)
  simp at h
  omega
 exact Def.bd (Def.ck (cV (by simp;omega))) (λ_ _=>Def.s trivial)
theorem zM1 (m:api_Manifest) (e:api_Event) (hm:MOk m) (he:EvS e):Def (uY m e) (λr=>e.Kind=2->r=-1):=by
 unfold uY
 refine Def.bd (zIk m hm) (λc hc=>?_)
 refine Def.c (λ_=>Def.s (λ_=>rfl)) (λhc0=>?_)
 have g:=hc (by simpa using hc0)
 have gn:=g.n
 have gk:=g.k
 refine Def.bd (P:=λj=>e.Kind=2->j=.inr ()) ?_ (λj hj=>?_)
 ·refine Def.c (λh=>?_) (λ_=>Def.c (λh=>?_) (λ_=>Def.s (λ_=>rfl)))
  ·have hk:e.Kind=1:=by simpa using h
   refine Def.bd (P:=λ_=>True) ?_ (λ_ _=>Def.s (λh=>by omega))
   unfold yT
   refine Def.bd (uZ m.Entries (yD m.Entries e) (λ_=>True) (λ_=>True) (by omega) (λi hi=>?_) ?_) (λy _=>?_)
   ·unfold yD
    refine Def.c (λ_=>?_) (λh=>by have:=dF h;omega)
    refine Def.bd (Def.at' hi) (λx hx=>?_)
    have:=g.e i hi
    rw [<- hx] at this
    refine Def.bd (zPu x e this.2.2.1 this.2.2.2.1 this.2.2.2.2) (λb _=>?_)
    exact Def.c (λ_=>Def.s trivial) (λ_=>Def.s ⟨yE (by omega),trivial⟩)
   ·unfold yD
    exact cf (by simp) rfl
   ·cases y with
    | inl b=>exact Def.s trivial
    | inr u=>exact Def.s trivial
  ·have hk:e.Kind=3:=by simpa using h
   refine Def.bd (P:=λ_=>True) ?_ (λ_ _=>?_)
   ·refine Def.bd (zI8 _) (λ_ _=>Def.c (λ_=>Def.s trivial) (λ_=>?_))
    exact Def.bd (zF9 e he.d he.n) (λ_ _=>Def.s trivial)
   refine Def.c (λ_=>Def.s (λh=>by omega)) (λ_=>?_)
   refine Def.bd (P:=λ_=>True) ?_ (λ_ _=>Def.c (λ_=>Def.s (λh=>by omega)) (λ_=>Def.s (λh=>by omega)))
   unfold yZ
   refine Def.bd (uZ m.Rules (yH m.Rules e) (λ_=>True) (λ_=>True) (by omega) (λi hi=>?_) ?_) (λy _=>?_)
   ·unfold yH
    refine Def.c (λ_=>?_) (λh=>by have:=dF h;omega)
    refine Def.bd (Def.at' hi) (λx hx=>?_)
    have:=g.r i hi
    rw [<- hx] at this
    refine Def.bd (P:=λ_=>True) (Def.bd (zIe x e.Data this he.d) (λ_ _=>Def.s trivial)) (λb _=>?_)
    exact Def.c (λ_=>Def.s trivial) (λ_=>Def.s ⟨yE (by omega),trivial⟩)
   ·unfold yH
    exact cf (by simp) rfl
   ·cases y with
    | inl b=>exact Def.s trivial
    | inr u=>exact Def.s trivial
 ·cases j with
  | inl b=>exact Def.s (λh=>by cases hj h)
  | inr u=>exact Def.s (λ_=>rfl)
def fT (ms:List api_Manifest) (e:api_Event) (r:api_Reason):Prop:=
 if e.Kind=5∨e.Kind=2 then r.Manifest=-1/\r.Item=-1 else 0<=r.Item/\∃ k:Nat,r.Manifest=k/\∃ h:k<ms.length,uY ms[k] e=some r.Item
theorem zFx (e:api_Event) (ms:List api_Manifest) (hn:ms.length<=5) (hm:∀ m∈ms,MOk m) (he:EvS e):Def (oB e ms) (λr=>r.2=true->fT ms e r.1):=by
 unfold oB
 refine Def.bd (P:=λb:Bool=>(b=true->e.Kind=5∨e.Kind=2)/\(b=false->e.Kind≠5)) ?_ (λb hb=>?_)
 ·refine Def.c (λh=>Def.s (And.intro (λ_=>.inl (by simpa using h)) (λh=>by cases h))) (λh5=>?_)
  have h5':e.Kind≠5:=by simpa using h5
  refine Def.c (λh=>?_) (λ_=>Def.s (And.intro (λh=>by cases h) (λ_=>h5')))
  exact Def.bd (zF9 e he.d he.n) (λ_ _=>Def.s ⟨λ_=>.inr (by simpa using h),λ_=>h5'⟩)
 refine Def.c (λh=>Def.s (λ_=>?_)) (λhbf=>?_)
 ·unfold fT
  rw [if_pos (hb.1 h)]
  exact ⟨rfl,rfl⟩
 have h5:=hb.2 hbf
 refine Def.bd (uZ ms (sD e ms) (λ_=>True) (λr=>fT ms e r.1) (by omega) (λi hi=>?_) ?_) (λy hy=>?_)
 ·unfold sD
  refine Def.c (λ_=>?_) (λh=>by have:=dF h;omega)
  refine Def.bd (Def.at' hi) (λx hx=>?_)
  obtain ⟨r,hr,hr2⟩:=zM1 x e (by rw [hx];exact hm _ (List.getElem_mem _)) he
  refine Def.bd (P:=λq=>q=r) (Def.of hr rfl) (λq hq=>?_)
  subst hq
  refine Def.c (λh=>Def.s ?_) (λ_=>Def.s ⟨yE (by omega),trivial⟩)
  have h0:=dT h
  show fT ms e ⟨(i:Int),q⟩
  unfold fT
  by_cases h2:e.Kind=2
  ·have:=hr2 h2;omega
  ·rw [if_neg (by omega)]
   exact ⟨h0,i,rfl,hi,by rw [<- hx];exact hr⟩
 ·unfold sD
  exact cf (by simp) rfl
 ·cases y with
  | inl b=>exact Def.s (λ_=>hy)
  | inr u=>exact Def.s (λh=>by cases h)
theorem zGa (l:api_Log) (ms:List api_Manifest) (hl:l.Events.length<=40) (he:∀ e∈l.Events,EvS e) (hn:ms.length<=5) (hm:∀ m∈ms,MOk m) :
  Def (xX l ms) (λr=>r.2.2=0->r.1.length=l.Events.length/\∀ i,(h:i<l.Events.length)->∃ q,r.1[i]? = some q/\fT ms l.Events[i] q):=by
 unfold xX
 refine Def.bd (P:=λy=>match y with | .inl r=>r.2.2≠0 | .inr r=>r.1.length=l.Events.length/\∀ i,(h:i<l.Events.length)->∃ q,r.1[i]? = some q/\fT ms l.Events[i] q) ?_ (λy hy=>?_)
 ·refine Def.loop (λs=>∃ i:Nat,s.2.1=(i:Int)/\i<=l.Events.length/\s.1.length=i/\∀ k,k<i->(h:k<l.Events.length)->∃ q,s.1[k]? = some q/\fT ms l.Events[k] q) (λs=>l.Events.length - s.2.1.toNat) (λs hs=>?_) ⟨0,rfl,by omega,rfl,λk hk=>by omega⟩ (by simp;omega)
  obtain ⟨rs,v,w⟩:=s
  obtain ⟨i,h1,hi,hrl,hg⟩:=hs
  have h1:v=(i:Int):=h1
  subst h1
  have hrl:rs.length=i:=hrl
  have hg:∀ k,k<i->(h:k<l.Events.length)->∃ q,rs[k]? = some q/\fT ms l.Events[k] q:=hg
  unfold kN
  refine Def.c (λh=>?_) (λh=>Def.s ?_)
  ·have hi2:i<l.Events.length:=by have:=dT h;omega
   refine Def.bd (Def.at' hi2) (λe hev=>?_)
   refine Def.bd (zMd _ _) (λz _=>?_)
   refine Def.c (λ_=>Def.s (by show (41:Int)≠0;decide)) (λ_=>?_)
   refine Def.bd (zFx e ms hn hm (by rw [hev];exact he _ (List.getElem_mem _))) (λr hr=>?_)
   refine Def.c (λ_=>Def.s (by show (47:Int)≠0;decide)) (λhok=>?_)
   have hgr:=hr (by simpa using hok)
   refine Def.bd (Def.app (by simp;omega)) (λq hq=>Def.s ?_)
   rw [yE (by omega)]
   refine ⟨⟨i+1,rfl,by omega,by simp [hq];omega,λk hk h=>?_⟩,by simp only [Int.toNat_natCast];omega⟩
   simp only [hq]
   by_cases hki:k<i
   ·obtain ⟨q',h1,h2⟩:=hg k hki h
    exact ⟨q',by rw [List.getElem?_append_left (by omega)];exact h1,h2⟩
   ·have:k=rs.length:=by omega
    subst this
    refine ⟨r.1,by simp,?_⟩
    subst hrl
    rw [<- hev];exact hgr
  ·have:i=l.Events.length:=by have:=dF h;omega
   exact ⟨by simp only;omega,λk hk=>hg k (by omega) hk⟩
 ·match y,hy with
  | .inl r,hy=>exact Def.s (λh=>absurd h hy)
  | .inr (rs,a1,a2,b0,b1,b2,b3,b4,b5),hy=>
   exact Def.c (λ_=>Def.s (λh=>by cases h)) (λ_=>Def.s (λ_=>hy))
theorem zK7 (l:api_Log) (ms:List api_Manifest) (rs:List api_Reason) (at':Int) (hl:l.Events.length<=40) (hx:xX l ms=some (rs,at',0)) (hr:rs.length=l.Events.length) (hg:∀ i,(h:i<l.Events.length)->∃ q,rs[i]? = some q/\fT ms l.Events[i] q) :
  rR l ms rs=some true:=by
 have:Def (rR l ms rs) (λb=>b=true):=by
  unfold rR
  refine Def.bd (P:=λr=>r=(rs,at',0)) (Def.of hx rfl) (λr hr'=>?_)
  subst hr'
  refine Def.bd (P:=λb=>b=false) (Def.c (λh=>by cases h) (λ_=>Def.s (by simp [hr]))) (λb hb=>?_)
  subst hb
  refine Def.c (λh=>by cases h) (λ_=>?_)
  refine Def.bd (uZ l.Events (pA l ms rs) (λ_=>True) (λ_=>False) (by omega) (λi hi=>?_) ?_) (λy hy=>?_)
  ·unfold pA
   refine Def.c (λ_=>?_) (λh=>by have:=dF h;omega)
   refine Def.bd (P:=λj=>j=.inr ()) ?_ (λj hj=>by subst hj;exact Def.s ⟨yE (by omega),trivial⟩)
   refine Def.bd (Def.at' hi) (λe hev=>?_)
   obtain ⟨q,hq,hgq⟩:=hg i hi
   have hri:i<rs.length:=by omega
   refine Def.bd (P:=λx=>x=q) (Def.of (xL hri) (by rw [List.getElem?_eq_getElem hri] at hq;injection hq)) (λx hx=>?_)
   subst hx
   rw [<- hev] at hgq
   refine Def.bd (P:=λb=>b=true↔(e.Kind=5∨e.Kind=2)) (Def.c (λh=>Def.s ⟨λ_=>.inl (by simpa using h),λ_=>rfl⟩) (λh=>Def.s ?_)) (λb hb=>?_)
   ·have:e.Kind≠5:=by simpa using h
    simp;omega
   unfold fT at hgq
   refine Def.c (λh=>?_) (λh=>?_)
   ·rw [if_pos (hb.1 h)] at hgq
    refine Def.bd (P:=λb=>b=false) (Def.c (λh=>?_) (λ_=>Def.s ?_)) (λb hb=>by subst hb;exact Def.c (λh=>by cases h) (λ_=>Def.s rfl))
    ·rw [hgq.1] at h;cases h
    ·rw [hgq.2];rfl
   ·rw [if_neg (λh2=>by rw [hb.2 h2] at h;cases h)] at hgq
    obtain ⟨h0,k,hk,hkl,hit⟩:=hgq
    refine Def.bd (P:=λb=>b=false) ?_ (λb hb=>by subst hb;exact Def.c (λh=>by cases h) (λ_=>Def.s rfl))
    refine Def.c (λh=>by have:=dT h;omega) (λ_=>Def.c (λh=>by have:=dT h;omega) (λ_=>Def.c (λh=>by have:=dT h;omega) (λ_=>?_)))
    rw [hk]
    refine Def.bd (Def.at' hkl) (λm hmm=>?_)
    rw [<- hmm] at hit
    refine Def.bd (P:=λv=>v=x.Item) (Def.of hit rfl) (λv hv=>Def.s ?_)
    rw [hv];simp
  ·unfold pA
   exact cf (by simp) rfl
  ·cases y with
   | inl b=>exact hy.elim
   | inr u=>exact Def.s rfl
 obtain ⟨b,h,rfl⟩:=this
 exact h
end Go.Proofs.TT
namespace Go.Proofs.TT
open Go Go.Sw
set_option maxRecDepth 100000
theorem zJv (b s:List UInt8):∀ (ks:List api_Public) (e:Int),e≠0->(qf b s ks e).1=none->(qf b s ks e).2≠0
 | [],e,h,_=>h
 | k :: r,e,h,hn=>by
  unfold qf at hn ⊢
  by_cases hz:(vq k b s).2.2=0
  ·rw [if_pos hz] at hn;cases hn
  ·rw [if_neg hz] at hn ⊢
   exact zJv b s r _ hz hn
theorem zJj (b s:List UInt8) (a:api_Attest):∀ (ks:List api_Public) (e:Int),(qf b s ks e).1=some a->qf b s ks e=(some a,0)
 | [],e,h=>by cases h
 | k :: r,e,h=>by
  unfold qf at h ⊢
  by_cases hz:(vq k b s).2.2=0
  ·rw [if_pos hz] at h ⊢
   simp only [Option.some.injEq] at h
   rw [h]
  ·rw [if_neg hz] at h ⊢
   exact zJj b s a r _ h
theorem zQu (x:api_Evidence) (keys:List api_Public) (n:List UInt8) (h:(qt x keys n).2=0):qf x.Attest x.Signature keys 17=(some (qt x keys n).1,0)/\(qt x keys n).1.Nonce=nnc n x.Machine x.Log:=by
 unfold qt at h ⊢
 rcases hq:qf x.Attest x.Signature keys 17 with ⟨_ | a,e⟩
 ·rw [hq] at h
  have:=zJv x.Attest x.Signature keys 17 (by decide) (by rw [hq])
  rw [hq] at this
  exact absurd h this
 ·have h2:=zJj x.Attest x.Signature a keys 17 (by rw [hq])
  rw [hq] at h h2
  simp only at h ⊢
  by_cases hn:a.Nonce=nnc n x.Machine x.Log
  ·rw [if_pos hn]
   exact ⟨h2,hn⟩
  ·rw [if_neg hn] at h
   cases h
structure Expl (x:api_Evidence) (active:Int) (a:api_Attest) (l:api_Log):Prop where
 p:wT x.Log=some (l,0)
 s:yN active=some a.Selection
 d:vO l a.Selection=some (a.Digest,0)
 ac:l.Active=active
 rs:l.Resets=a.Resets
 re:a.Restarts=0
 g:LgGood l
theorem zNl (x:api_Evidence) (e:api_Enrolled) (a:api_Attest) (h1:1<=e.Active) (h3:e.Active<=3):Def (xT x e a) (λr=>r.2=0->Expl x e.Active a r.1):=by
 unfold xT
 have hs:=zNk e.Active h1 h3
 refine Def.bd (P:=λs=>s=⟨xD e.Active 0,xD e.Active 1⟩) (Def.of hs rfl) (λs hs'=>?_)
 subst hs'
 refine Def.c (λ_=>Def.s (λh=>by cases h)) (λhsel=>?_)
 have hsel':a.Selection=⟨xD e.Active 0,xD e.Active 1⟩:=by
  have h2:a.Selection.a0=xD e.Active 0/\a.Selection.a1=xD e.Active 1:=by simpa using hsel
  cases hh:a.Selection with
  | mk p q=>
   rw [hh] at h2
   rw [<- h2.1,<- h2.2]
 obtain ⟨⟨l,pe⟩,hp,hg⟩:=zJ9 x.Log
 refine Def.bd (P:=λr=>r=(l,pe)) (Def.of hp rfl) (λr hr=>?_)
 subst hr
 refine Def.c (λh=>Def.s (λh2=>by simp only at h2;subst h2;cases h)) (λh0=>?_)
 have hpe:pe=0:=by simpa using h0
 subst hpe
 have hg:=hg rfl
 refine Def.bd (P:=λb=>b=false->l.Active=e.Active) (Def.c (λ_=>Def.s (λh=>by cases h)) (λh=>Def.s (λ_=>by simpa using h))) (λb hb=>?_)
 refine Def.c (λ_=>Def.s (λh=>by cases h)) (λhbf=>?_)
 have hac:=hb hbf
 refine Def.bd (P:=λb=>b=false->l.Resets=a.Resets/\a.Restarts=0) (Def.c (λ_=>Def.s (λh=>by cases h)) (λh=>Def.s (λh2=>⟨by simpa using h,by simpa using h2⟩))) (λb hb=>?_)
 refine Def.c (λ_=>Def.s (λh=>by cases h)) (λhbf=>?_)
 obtain ⟨hrs,hre⟩:=hb hbf
 obtain ⟨⟨d,de⟩,hd,_⟩:=zD5 l hg (by omega) (by omega)
 rw [hac,<- hsel'] at hd
 refine Def.bd (P:=λr=>r=(d,de)) (Def.of hd rfl) (λr hr=>?_)
 subst hr
 refine Def.c (λh=>Def.s (λh2=>by simp only at h2;subst h2;cases h)) (λh0=>?_)
 have hde:de=0:=by simpa using h0
 subst hde
 refine Def.bd (P:=λb=>b=(d==a.Digest)) (Def.s rfl) (λb hb=>?_)
 subst hb
 refine Def.c (λ_=>Def.s (λh=>by cases h)) (λhdd=>Def.s (λ_=>?_))
 have hdd':d=a.Digest:=by simpa using hdd
 subst hdd'
 exact ⟨hp,by rw [hs,hsel'],hd,hac,hrs,hre,hg⟩
structure Accd (x:api_Evidence) (e:api_Enrolled) (n:List UInt8) (ms:List api_Manifest) (v:api_Verdict) (a:api_Attest) (l:api_Log):Prop where
 m:x.Machine=e.Machine
 q:qf x.Attest x.Signature e.Quoting 17=(some a,0)
 nn:a.Nonce=nnc n x.Machine x.Log
 x:Expl x e.Active a l
 c:v.Clock=a.Clock
 k:rR l ms v.Reasons=some true
theorem zOh (x:api_Evidence) (e:api_Enrolled) (n:List UInt8) (ms:List api_Manifest) (h1:1<=e.Active) (h3:e.Active<=3) (hx:EvOk x e.Quoting n) (hm:zO0 ms) :
  Def (yB x e n ms) (λv=>(v.Err≠0->v.Reasons=[]/\v.Clock=0)/\(v.Err=0->∃ a l,Accd x e n ms v a l)):=by
 unfold yB
 refine Def.c (λ_=>Def.s ⟨λ_=>⟨rfl,rfl⟩,λh=>by cases h⟩) (λhmn=>?_)
 have hmn':x.Machine=e.Machine:=by simpa using hmn
 refine Def.bd (P:=λr=>r=qt x e.Quoting n) (Def.of (eG x e.Quoting n hx) rfl) (λr hr=>?_)
 obtain ⟨a,qe⟩:=r
 refine Def.c (λh=>Def.s ⟨λ_=>⟨rfl,rfl⟩,λh2=>by simp only at h2;subst h2;cases h⟩) (λh0=>?_)
 have hqe:qe=0:=by simpa using h0
 subst hqe
 have hq:=zQu x e.Quoting n (by rw [<- hr])
 rw [<- hr] at hq
 refine Def.bd (zNl x e a h1 h3) (λr hr=>?_)
 obtain ⟨l,le⟩:=r
 refine Def.c (λh=>Def.s ⟨λ_=>⟨rfl,rfl⟩,λh2=>by simp only at h2;subst h2;cases h⟩) (λh0=>?_)
 have hle:le=0:=by simpa using h0
 subst hle
 have hxp:=hr rfl
 simp only at hxp
 obtain ⟨⟨rs,at',ee⟩,hex,hgood⟩:=zGa l ms hxp.g.n (λev hev=>(hxp.g.ev ev hev).toEvGood.s) hm.1 hm.2
 refine Def.bd (P:=λr=>r=(rs,at',ee)) (Def.of hex rfl) (λr hr=>?_)
 subst hr
 refine Def.c (λh=>Def.s ⟨λ_=>⟨rfl,rfl⟩,λh2=>by simp only at h2;subst h2;cases h⟩) (λh0=>Def.s ⟨λh=>absurd rfl h,λ_=>⟨a,l,hmn',hq.1,hq.2,hxp,rfl,?_⟩⟩)
 have hee:ee=0:=by simpa using h0
 subst hee
 obtain ⟨g1,g2⟩:=hgood rfl
 exact zK7 l ms rs at' hxp.g.n hex g1 g2
def atF (a:api_Attest):(List UInt8)×(List UInt8)×Int×Int×Int×Bool×Int×Int×Int×(List UInt8):=(a.Key,a.Nonce,a.Resets,a.Restarts,a.Clock,a.Safe,a.Updates,a.Selection.a0,a.Selection.a1,a.Digest)
theorem zK8 (x:api_Evidence) (e:api_Enrolled) (n:List UInt8) (a:api_Attest) (hx:EvOk x e.Quoting n) (hq:qf x.Attest x.Signature e.Quoting 17=(some a,0)) :
  Def (zG (w5 x e) FU (false,0,[],[],0,0,0,false,0,0,0,[])) (λr=>r=(true,atF a)):=by
 have hkl:=hx.kl
 refine Def.loop (λs=>∃ i:Nat,s.2.1=(i:Int)/\i<=e.Quoting.length/\((s.1=false/\∃ er,qf x.Attest x.Signature (e.Quoting.drop i) er=(some a,0))∨(s.1=true/\s.2.2=atF a))) (λs=>e.Quoting.length - s.2.1.toNat) (λs hs=>?_) ⟨0,rfl,by omega,.inl ⟨rfl,17,hq⟩⟩ (by simp;omega)
 obtain ⟨good,i',q1,q2,q3,q4,q5,q6,q7,q8,q9,q10⟩:=s
 obtain ⟨i,h1,hi,hg⟩:=hs
 have h1:i'=(i:Int):=h1
 subst h1
 have hg:(good=false/\∃ er,qf x.Attest x.Signature (e.Quoting.drop i) er=(some a,0))∨(good=true/\(q1,q2,q3,q4,q5,q6,q7,q8,q9,q10)=atF a):=hg
 unfold w5
 refine Def.c (λh=>?_) (λh=>Def.s ?_)
 ·have hi2:i<e.Quoting.length:=by have:=dT h;omega
  refine Def.bd (P:=λr=>(r.1=false/\∃ er,qf x.Attest x.Signature (e.Quoting.drop (i+1)) er=(some a,0))∨(r.1=true/\r.2=atF a)) ?_ (λr hr=>?_)
  ·refine Def.bd (Def.at' hi2) (λk hk=>?_)
   refine Def.bd (P:=λr=>r=vq k x.Attest x.Signature) (Def.of (zCf k _ _ (by have:=hx.b;omega) (by have:=hx.s;omega) (by rw [hk];exact hx.k _ (List.getElem_mem _))) rfl) (λr hr=>?_)
   have hd:e.Quoting.drop i=k :: e.Quoting.drop (i+1):=by rw [hk];exact List.drop_eq_getElem_cons hi2
   rw [hd] at hg
   obtain ⟨va,lf,er⟩:=r
   refine Def.bd (P:=λb=>b=((er==0)&&!good)) (Def.c (λh=>Def.s (by rw [h];rfl)) (λh=>Def.s (by rw [h];rfl))) (λb hb=>?_)
   rcases hg with ⟨rfl,er2,hqf⟩ | ⟨rfl,hqa⟩
   ·unfold qf at hqf
    rw [<- hr] at hqf
    by_cases hz:er=0
    ·rw [if_pos hz] at hqf
     simp only [Prod.mk.injEq,Option.some.injEq,and_true] at hqf
     subst hz
     subst hqf
     refine Def.c (λ_=>Def.s (.inr ⟨rfl,rfl⟩)) (λh=>?_)
     rw [hb] at h;cases h
    ·rw [if_neg hz] at hqf
     refine Def.c (λh=>?_) (λ_=>Def.s (.inl ⟨rfl,er,hqf⟩))
     rw [hb] at h;simp at h;exact absurd h hz
   ·refine Def.c (λh=>?_) (λ_=>Def.s (.inr ⟨rfl,hqa⟩))
    rw [hb] at h;simp at h
  ·obtain ⟨g,r1,r2,r3,r4,r5,r6,r7,r8,r9,r10⟩:=r
   refine Def.s ?_
   rw [yE (by omega)]
   exact ⟨⟨i+1,rfl,by omega,hr⟩,by simp only [Int.toNat_natCast];omega⟩
 ·have:i=e.Quoting.length:=by have:=dF h;omega
  subst this
  rw [List.drop_length] at hg
  rcases hg with ⟨_,er,hqf⟩ | ⟨rfl,hqa⟩
  ·simp [qf] at hqf
  ·show (true,(q1,q2,q3,q4,q5,q6,q7,q8,q9,q10))=_
   rw [hqa]
theorem zFm (hw:oQ=some true) (codes chain manifests changes:List UInt8) (active machine:Int):xM codes chain manifests changes active machine=some true:=by
 have hd:Def (xM codes chain manifests changes active machine) (λr=>r=true):=by
  unfold xM
  refine Def.bd (P:=λb=>b=true) (Def.of hw rfl) (λb hb=>?_)
  subst hb
  refine Def.c (λh=>by cases h) (λ_=>?_)
  refine Def.bd (bO machine 4 (by decide) (by decide)) (λm _=>?_)
  refine Def.bd (bO active 2 (by decide) (by decide)) (λk _=>?_)
  refine Def.bd (zMo codes chain manifests changes _ _) (λr hr=>?_)
  obtain ⟨lg,ms,x⟩:=r
  obtain ⟨hms,e1,e2,e3⟩:=hr
  simp only at e1 e2 e3 hms
  refine Def.bd (bO active 2 (by decide) (by decide)) (λk _=>?_)
  refine Def.bd (zC0 _) (λac hac=>?_)
  refine Def.bd (zFv _ ac) (λen hen=>?_)
  obtain ⟨en1,en2,en3,en4⟩:=hen
  have hx:EvOk x en.Quoting [99,104,97,108,108,101,110,103,101]:=⟨by omega,by omega,by omega,by decide,by omega,λp hp=>by rw [en2 p hp];decide⟩
  refine Def.bd (zOh x _ _ ms (by show 1<=en.Active;rw [en4];exact hac.1) (by show en.Active<=3;rw [en4];exact hac.2) hx hms) (λv hv=>?_)
  refine Def.c (λh=>?_) (λh=>?_)
  ·obtain ⟨h1,h2⟩:=hv.1 (by simpa using h)
   rw [h1,h2]
   exact Def.bd (P:=λb=>b=true) (Def.s rfl) (λb hb=>Def.s hb)
  obtain ⟨a,l,hA⟩:=hv.2 (by simpa using h)
  have hAm:x.Machine=en.Machine:=hA.m
  have hX:Expl x en.Active a l:=hA.x
  have hql:=zNi x.Attest x.Signature (by omega) a en.Quoting 17 (by have:=hA.q;simp only at this;rw [this])
  refine Def.bd (zK8 x en _ a hx hA.q) (λr hr=>?_)
  subst hr
  refine Def.bd (P:=λr=>r=(l,0)) (Def.of hX.p rfl) (λr hr=>?_)
  subst hr
  refine Def.bd (P:=λr=>r=a.Selection) (Def.of hX.s rfl) (λr hr=>?_)
  subst hr
  refine Def.bd (P:=λr=>r=(a.Digest,0)) (Def.of hX.d rfl) (λr hr=>?_)
  subst hr
  refine Def.bd (P:=λb=>b=true) ?_ (λb hb=>Def.s hb)
  refine Def.c (λ_=>?_) (λh=>by cases h)
  refine Def.c (λ_=>?_) (λh=>by rw [hAm,en3] at h;simp at h)
  refine Def.c (λ_=>?_) (λh=>by cases h)
  refine Def.c (λ_=>?_) (λh=>by cases h)
  refine Def.bd (P:=λb=>b=true) (Def.of (zGz _ _ hql.2.2) (by simp)) (λb hb=>?_)
  subst hb
  refine Def.c (λ_=>?_) (λh=>by cases h)
  refine Def.bd (P:=λr=>r=a.Nonce) (Def.of (zGm _ _ _ (by decide) (by omega)) (by rw [hA.nn,hAm,en3])) (λr hr=>?_)
  subst hr
  refine Def.bd (P:=λb=>b=true) (Def.of (zGz _ _ hql.2.1) (by simp)) (λb hb=>?_)
  subst hb
  refine Def.c (λ_=>?_) (λh=>by cases h)
  refine Def.c (λ_=>?_) (λh=>by rw [hX.rs] at h;simp at h)
  refine Def.c (λ_=>?_) (λh=>by rw [hX.re] at h;simp at h)
  refine Def.c (λ_=>?_) (λh=>by rw [hA.c] at h;simp at h)
  exact Def.bd (P:=λb=>b=true) (Def.of hA.k rfl) (λb hb=>Def.s hb)
 obtain ⟨r,e,rfl⟩:=hd
 exact e
end Go.Proofs.TT
namespace Go.Proofs.TT
open Go Go.Sw
set_option maxRecDepth 100000
def imgs:List api_Image:=[api_Image.mk 1 ([102]:List UInt8) 0 [],api_Image.mk 3 ([107]:List UInt8) 0 []]
def EVS:List api_Event:=[⟨0,1,[[],[211,177,79,226,54,204,147,174,61,228,238,4,167,67,79,4,75,48,122,2,57,203,128,14,59,202,123,49,246,110,67,158]],[102,32,48]⟩,
 ⟨0,2,[[],[223,63,97,152,4,169,47,219,64,87,25,45,196,61,215,72,234,119,138,220,82,188,73,140,232,5,36,192,20,184,17,25]],[0,0,0,0]⟩,
 ⟨1,2,[[],[223,63,97,152,4,169,47,219,64,87,25,45,196,61,215,72,234,119,138,220,82,188,73,140,232,5,36,192,20,184,17,25]],[0,0,0,0]⟩,
 ⟨2,2,[[],[223,63,97,152,4,169,47,219,64,87,25,45,196,61,215,72,234,119,138,220,82,188,73,140,232,5,36,192,20,184,17,25]],[0,0,0,0]⟩,
 ⟨3,2,[[],[223,63,97,152,4,169,47,219,64,87,25,45,196,61,215,72,234,119,138,220,82,188,73,140,232,5,36,192,20,184,17,25]],[0,0,0,0]⟩,
 ⟨4,2,[[],[223,63,97,152,4,169,47,219,64,87,25,45,196,61,215,72,234,119,138,220,82,188,73,140,232,5,36,192,20,184,17,25]],[0,0,0,0]⟩,
 ⟨5,2,[[],[223,63,97,152,4,169,47,219,64,87,25,45,196,61,215,72,234,119,138,220,82,188,73,140,232,5,36,192,20,184,17,25]],[0,0,0,0]⟩,
 ⟨6,2,[[],[223,63,97,152,4,169,47,219,64,87,25,45,196,61,215,72,234,119,138,220,82,188,73,140,232,5,36,192,20,184,17,25]],[0,0,0,0]⟩,
 ⟨7,2,[[],[223,63,97,152,4,169,47,219,64,87,25,45,196,61,215,72,234,119,138,220,82,188,73,140,232,5,36,192,20,184,17,25]],[0,0,0,0]⟩,
 ⟨8,1,[[],[4,112,127,2,184,245,98,45,100,85,58,34,70,111,198,201,250,24,60,234,60,72,73,122,62,127,169,182,2,31,99,126]],[107,32,48]⟩]
def MAN:api_Manifest:=⟨[118],1,0,0,1099511627776,[⟨1,[102],0,[211,177,79,226,54,204,147,174,61,228,238,4,167,67,79,4,75,48,122,2,57,203,128,14,59,202,123,49,246,110,67,158]⟩,⟨3,[107],0,[4,112,127,2,184,245,98,45,100,85,58,34,70,111,198,201,250,24,60,234,60,72,73,122,62,127,169,182,2,31,99,126]⟩],[]⟩
def zH5:List UInt8:=[83,87,76,49,2,0,0,0,0,0,1,0,43,0,1,0,0,0,32,211,177,79,226,54,204,147,174,61,228,238,4,167,67,79,4,75,48,122,2,57,203,128,14,59,202,123,49,246,110,67,158,0,3,102,32,48,0,44,0,2,0,0,0,32,223,63,97,152,4,169,47,219,64,87,25,45,196,61,215,72,234,119,138,220,82,188,73,140,232,5,36,192,20,184,17,25,0,4,0,0,0,0,0,44,1,2,0,0,0,32,223,63,97,152,4,169,47,219,64,87,25,45,196,61,215,72,234,119,138,220,82,188,73,140,232,5,36,192,20,184,17,25,0,4,0,0,0,0,0,44,2,2,0,0,0,32,223,63,97,152,4,169,47,219,64,87,25,45,196,61,215,72,234,119,138,220,82,188,73,140,232,5,36,192,20,184,17,25,0,4,0,0,0,0,0,44,3,2,0,0,0,32,223,63,97,152,4,169,47,219,64,87,25,45,196,61,215,72,234,119,138,220,82,188,73,140,232,5,36,192,20,184,17,25,0,4,0,0,0,0,0,44,4,2,0,0,0,32,223,63,97,152,4,169,47,219,64,87,25,45,196,61,215,72,234,119,138,220,82,188,73,140,232,5,36,192,20,184,17,25,0,4,0,0,0,0,0,44,5,2,0,0,0,32,223,63,97,152,4,169,47,219,64,87,25,45,196,61,215,72,234,119,138,220,82,188,73,140,232,5,36,192,20,184,17,25,0,4,0,0,0,0,0,44,6,2,0,0,0,32,223,63,97,152,4,169,47,219,64,87,25,45,196,61,215,72,234,119,138,220,82,188,73,140,232,5,36,192,20,184,17,25,0,4,0,0,0,0,0,44,7,2,0,0,0,32,223,63,97,152,4,169,47,219,64,87,25,45,196,61,215,72,234,119,138,220,82,188,73,140,232,5,36,192,20,184,17,25,0,4,0,0,0,0,0,43,8,1,0,0,0,32,4,112,127,2,184,245,98,45,100,85,58,34,70,111,198,201,250,24,60,234,60,72,73,122,62,127,169,182,2,31,99,126,0,3,107,32,48]
def DG:List UInt8:=[107,24,16,72,110,26,24,42,233,226,179,161,104,68,80,217,233,164,128,62,21,161,146,123,57,66,240,165,96,204,39,14]
def N1:List UInt8:=[140,181,205,201,129,106,124,62,142,219,165,218,199,100,206,206,254,73,226,85,181,60,190,81,208,251,183,65,83,101,193,19]
def N2:List UInt8:=[117,120,106,21,132,68,244,210,198,122,150,64,213,173,103,209,198,231,127,216,186,17,22,121,0,70,203,147,87,7,205,26]
theorem zV0:uR imgs 2=some EVS:=by decide +kernel
theorem zQl:vY [118] 1 imgs=some MAN:=by decide +kernel
theorem zNs:sG ⟨2,1,EVS⟩=some (zH5,0):=by decide +kernel
theorem zMt:wT zH5=some (⟨2,1,EVS⟩,0):=by decide +kernel
theorem zSp:xX ⟨2,1,EVS⟩ []=some ([],0,47):=by decide +kernel
theorem zWw:(xX ⟨2,1,EVS⟩ [MAN]).map (λr=>(r.1.length,r.2.2))=some (10,0):=by decide +kernel
end Go.Proofs.TT
namespace Go.Proofs.TT
open Go Go.Sw
set_option maxRecDepth 100000
theorem zPm:nnc [110] 2 zH5=N1:=by decide +kernel
theorem zVm:nnc [109] 2 zH5=N2:=by decide +kernel
theorem zUd:wU ⟨2,1,EVS⟩ ⟨0,4095⟩=some (DG,0):=by decide +kernel
theorem zVh:vO ⟨2,1,EVS⟩ ⟨0,4095⟩=some (DG,0):=by decide +kernel
end Go.Proofs.TT
namespace Go.Proofs.TT
open Go Go.Sw
set_option maxRecDepth 100000
structure Rem (r:RS) (l:List UInt8):Prop where
 e:r.e=0
 at':r.at'<=r.b.length
 d:r.b.drop r.at'=l
theorem Rem.left {r:RS} {l:List UInt8} (h:Rem r l):r.left=l.length:=by
 have:=congrArg List.length h.d
 simp at this
 exact this
theorem Rem.to {r:RS} {x rest:List UInt8} {n:Nat} (h:Rem r (x++rest)) (hx:x.length=n):Rem (r.to n) rest:=by
 have hl:=h.left
 have ha:=h.at'
 simp only [RS.left,List.length_append] at hl
 refine ⟨h.e,by simp only [RS.to];omega,?_⟩
 show r.b.drop (r.at'+n)=rest
 rw [<- List.drop_drop,h.d,<- hx,List.drop_left]
theorem Rem.raw {r:RS} {x rest:List UInt8} {n:Nat} (h:Rem r (x++rest)) (hx:x.length=n):pP r n=(x,r.to n):=by
 have hl:=h.left
 rw [List.length_append] at hl
 unfold pP
 rw [if_neg (by simp [h.e]),if_neg (by omega)]
 have:r.get n=x:=by
  unfold RS.get
  rw [h.d,<- hx,List.take_left]
 rw [this]
theorem Rem.uint {r:RS} {x rest:List UInt8} {n:Nat} (h:Rem r (x++rest)) (hx:x.length=n) (hv:¬ 9223372036854775808<=beV x n):yI r n=(IntKind.i64.wrap (beV x n),r.to n):=by
 have hl:=h.left
 rw [List.length_append] at hl
 unfold yI
 have:r.get n=x:=by
  unfold RS.get
  rw [h.d,<- hx,List.take_left]
 rw [if_neg (by simp [h.e]),if_neg (by omega),this,if_neg hv]
theorem Rem.blob {r:RS} {a b:UInt8} {x rest:List UInt8} {m:Nat} (h:Rem r ([a,b]++(x++rest))) (hx:x.length=a.toNat*256+b.toNat) (hm:x.length<=m):xU r m=(x,r.to (2+x.length))/\Rem (r.to (2+x.length)) rest:=by
 have hl:=h.left
 have ha:=h.at'
 simp only [List.length_append,List.length_cons,List.length_nil] at hl
 have hd:=h.d
 have e0:r.b.getD r.at' 0=a:=by
  have:=congrArg (λl=>l.getD 0 0) hd
  simpa using this
 have e1:r.b.getD (r.at'+1) 0=b:=by
  have:=congrArg (λl=>l.getD 1 0) hd
  simpa using this
 have ev:v2 r=x.length:=by unfold v2;rw [e0,e1,hx]
 have h2:Rem (r.to 2) (x++rest):=Rem.to (x:=[a,b]) h rfl
 have hd2:r.b.drop (r.at'+2)=x++rest:=h2.d
 constructor
 ·unfold xU
  rw [if_neg (by simp [h.e]),if_neg (by omega),ev,if_neg (by omega),if_neg (by omega),hd2,List.take_left]
 ·have:=Rem.to h2 rfl
  have e:(r.to 2).to x.length=r.to (2+x.length):=by simp [RS.to,Nat.add_assoc]
  rw [<- e]
  exact this
theorem Rem.uintV {r:RS} {x rest:List UInt8} {n:Nat} {v:Int} (h:Rem r (x++rest)) (hx:x.length=n) (hv:beV x n=v) (h0:0<=v) (h1:v<9223372036854775808):yI r n=(v,r.to n):=by
 rw [h.uint hx (by omega),hv,zS (by omega) (by omega)]
theorem Rem.cast {r r':RS} {l:List UInt8} (h:Rem r l) (e:r'=r):Rem r' l:=e▸h
def qb (K:List UInt8):List UInt8:=[83,87,81,49]++([0,32]++(K++([0,32]++(N1++([0,0,0,0,0,0,0,1]++([0,0,0,0,0,0,0,0]++([0,0,0,0,0,0,0,17]++([0]++([0,0,0,0,0,0,0,10]++([0,0]++([15,255]++(DG++[]))))))))))))
def qa (K:List UInt8):api_Attest:=⟨K,N1,1,0,17,false,10,⟨0,4095⟩,DG⟩
theorem qdec (K:List UInt8) (h:K.length=32):att (qb K)=(qa K,0):=by
 have r0:Rem (d0 (qb K)) ([83,87,81,49]++([0,32]++(K++([0,32]++(N1++([0,0,0,0,0,0,0,1]++([0,0,0,0,0,0,0,0]++([0,0,0,0,0,0,0,17]++([0]++([0,0,0,0,0,0,0,10]++([0,0]++([15,255]++(DG++[]))))))))))))):=⟨rfl,Nat.zero_le _,rfl⟩
 have e1:d1 (qb K)=([83,87,81,49],(d0 (qb K)).to 4):=Rem.raw (x:=[83,87,81,49]) (n:=4) r0 rfl
 have r1:Rem (d1 (qb K)).2 ([0,32]++(K++([0,32]++(N1++([0,0,0,0,0,0,0,1]++([0,0,0,0,0,0,0,0]++([0,0,0,0,0,0,0,17]++([0]++([0,0,0,0,0,0,0,10]++([0,0]++([15,255]++(DG++[])))))))))))):=(Rem.to (x:=[83,87,81,49]) (n:=4) r0 rfl).cast (by rw [e1])
 obtain ⟨e2,r2⟩:=Rem.blob (a:=0) (b:=32) (x:=K) (m:=32) r1 h (by omega)
 have e2':d2 (qb K)=(K,(d1 (qb K)).2.to (2+K.length)):=e2
 have r2':Rem (d2 (qb K)).2 ([0,32]++(N1++([0,0,0,0,0,0,0,1]++([0,0,0,0,0,0,0,0]++([0,0,0,0,0,0,0,17]++([0]++([0,0,0,0,0,0,0,10]++([0,0]++([15,255]++(DG++[])))))))))):=r2.cast (by rw [e2'])
 obtain ⟨e3,r3⟩:=Rem.blob (a:=0) (b:=32) (x:=N1) (m:=128) r2' (by decide) (by decide)
 have e3':d3 (qb K)=(N1,(d2 (qb K)).2.to (2+N1.length)):=e3
 have r3':Rem (d3 (qb K)).2 ([0,0,0,0,0,0,0,1]++([0,0,0,0,0,0,0,0]++([0,0,0,0,0,0,0,17]++([0]++([0,0,0,0,0,0,0,10]++([0,0]++([15,255]++(DG++[])))))))):=r3.cast (by rw [e3'])
 have e4:d4 (qb K)=(1,(d3 (qb K)).2.to 8):=Rem.uintV (x:=[0,0,0,0,0,0,0,1]) (n:=8) r3' rfl (by decide +kernel) (by decide) (by decide)
 have r4:Rem (d4 (qb K)).2 ([0,0,0,0,0,0,0,0]++([0,0,0,0,0,0,0,17]++([0]++([0,0,0,0,0,0,0,10]++([0,0]++([15,255]++(DG++[]))))))):=(Rem.to (x:=[0,0,0,0,0,0,0,1]) (n:=8) r3' rfl).cast (by rw [e4])
 have e5:d5 (qb K)=(0,(d4 (qb K)).2.to 8):=Rem.uintV (x:=[0,0,0,0,0,0,0,0]) (n:=8) r4 rfl (by decide +kernel) (by decide) (by decide)
 have r5:Rem (d5 (qb K)).2 ([0,0,0,0,0,0,0,17]++([0]++([0,0,0,0,0,0,0,10]++([0,0]++([15,255]++(DG++[])))))):=(Rem.to (x:=[0,0,0,0,0,0,0,0]) (n:=8) r4 rfl).cast (by rw [e5])
 have e6:d6 (qb K)=(17,(d5 (qb K)).2.to 8):=Rem.uintV (x:=[0,0,0,0,0,0,0,17]) (n:=8) r5 rfl (by decide +kernel) (by decide) (by decide)
 have r6:Rem (d6 (qb K)).2 ([0]++([0,0,0,0,0,0,0,10]++([0,0]++([15,255]++(DG++[]))))):=(Rem.to (x:=[0,0,0,0,0,0,0,17]) (n:=8) r5 rfl).cast (by rw [e6])
 have e7:d7 (qb K)=(0,(d6 (qb K)).2.to 1):=Rem.uintV (x:=[0]) (n:=1) r6 rfl (by decide +kernel) (by decide) (by decide)
 have r7:Rem (d7 (qb K)).2 ([0,0,0,0,0,0,0,10]++([0,0]++([15,255]++(DG++[])))):=(Rem.to (x:=[0]) (n:=1) r6 rfl).cast (by rw [e7])
 have e8:d8 (qb K)=(10,(d7 (qb K)).2.to 8):=Rem.uintV (x:=[0,0,0,0,0,0,0,10]) (n:=8) r7 rfl (by decide +kernel) (by decide) (by decide)
 have r8:Rem (d8 (qb K)).2 ([0,0]++([15,255]++(DG++[]))):=(Rem.to (x:=[0,0,0,0,0,0,0,10]) (n:=8) r7 rfl).cast (by rw [e8])
 have e9:d9 (qb K)=(0,(d8 (qb K)).2.to 2):=Rem.uintV (x:=[0,0]) (n:=2) r8 rfl (by decide +kernel) (by decide) (by decide)
 have r9:Rem (d9 (qb K)).2 ([15,255]++(DG++[])):=(Rem.to (x:=[0,0]) (n:=2) r8 rfl).cast (by rw [e9])
 have e10:d10 (qb K)=(4095,(d9 (qb K)).2.to 2):=Rem.uintV (x:=[15,255]) (n:=2) r9 rfl (by decide +kernel) (by decide) (by decide)
 have r10:Rem (d10 (qb K)).2 (DG++[]):=(Rem.to (x:=[15,255]) (n:=2) r9 rfl).cast (by rw [e10])
 have e11:d11 (qb K)=(DG,(d10 (qb K)).2.to 32):=Rem.raw (x:=DG) (n:=32) r10 rfl
 have r11:Rem (d11 (qb K)).2 []:=(Rem.to (x:=DG) (n:=32) r10 rfl).cast (by rw [e11])
 have hend:aQ (d11 (qb K)).2=0:=by
  have:=r11.left
  unfold aQ
  rw [if_neg (by rw [this];simp)]
  exact r11.e
 have f1:(d1 (qb K)).2.e=0:=r1.e
 have g1:(d1 (qb K)).1=[83,87,81,49]:=by rw [e1]
 have g2:(d2 (qb K)).1=K:=by rw [e2']
 have g3:(d3 (qb K)).1=N1:=by rw [e3']
 have g4:(d4 (qb K)).1=1:=by rw [e4]
 have g5:(d5 (qb K)).1=0:=by rw [e5]
 have g6:(d6 (qb K)).1=17:=by rw [e6]
 have g7:(d7 (qb K)).1=0:=by rw [e7]
 have g8:(d8 (qb K)).1=10:=by rw [e8]
 have g9:(d9 (qb K)).1=0:=by rw [e9]
 have g10:(d10 (qb K)).1=4095:=by rw [e10]
 have g11:(d11 (qb K)).1=DG:=by rw [e11]
 unfold att
 rw [f1,g1,hend,g2,g3,g4,g5,g6,g7,g8,g9,g10,g11,if_neg (by simp),if_neg (by simp),if_neg (by simp),if_neg (by omega)]
 rfl
theorem qenc (K:List UInt8) (h:K.length=32):sI (qa K)=some (qb K):=by
 have bK:∀ b x:List UInt8,x.length=32->bG b x=b++[0,32]++x:=by
  intro b x hx
  unfold bG dH
  rw [List.take_of_length_le (by omega),hx]
  have:beN ((32:Nat):Int) 2 2=[0,32]:=by decide +kernel
  rw [this]
 have hN:N1.length=32:=rfl
 have hD:DG.length=32:=rfl
 unfold sI qa
 refine bd (a:=[83,87,81,49]) rfl ?_
 refine bd (a:=[83,87,81,49]++[0,32]++K) ((tL _ _ (by simp)).trans (by rw [bK _ _ h])) ?_
 generalize hb1:[83,87,81,49]++[0,32]++K=b1
 have l1:b1.length=38:=by rw [<- hb1];simp [h]
 refine bd (a:=b1++[0,32]++N1) ((tL _ _ (by omega)).trans (by rw [bK _ _ hN])) ?_
 generalize hb2:b1++[0,32]++N1=b2
 have l2:b2.length=72:=by rw [<- hb2];simp [l1,hN]
 refine bd (vL b2 8 1 (by omega) (by omega) (by omega)) ?_
 refine bd (vL _ 8 0 (by omega) (by omega) (by rw [zU];omega)) ?_
 refine bd (vL _ 8 17 (by omega) (by omega) (by rw [zU,zU];omega)) ?_
 refine bd (a:=0) rfl ?_
 refine bd (zW (by rw [zU,zU,zU];simp;omega)) ?_
 refine bd (vL _ 8 10 (by omega) (by omega) (by rw [List.length_append,zU,zU,zU];simp;omega)) ?_
 refine bd (vL _ 2 0 (by omega) (by omega) (by rw [zU,List.length_append,zU,zU,zU];simp;omega)) ?_
 refine bd (vL _ 2 4095 (by omega) (by omega) (by rw [zU,zU,List.length_append,zU,zU,zU];simp;omega)) ?_
 refine bd (zW (by rw [zU,zU,zU,List.length_append,zU,zU,zU];simp;omega)) ?_
 have u1:beN 1 8 8=[0,0,0,0,0,0,0,1]:=by decide +kernel
 have u0:beN 0 8 8=[0,0,0,0,0,0,0,0]:=by decide +kernel
 have u17:beN 17 8 8=[0,0,0,0,0,0,0,17]:=by decide +kernel
 have u10:beN 10 8 8=[0,0,0,0,0,0,0,10]:=by decide +kernel
 have w0:beN 0 2 2=[0,0]:=by decide +kernel
 have w1:beN 4095 2 2=[15,255]:=by decide +kernel
 have z0:u8 0=0:=rfl
 unfold dH
 rw [u1,u0,u17,u10,w0,w1,z0,<- hb2,<- hb1]
 unfold qb
 simp only [List.append_assoc,List.append_nil]
end Go.Proofs.TT
namespace Go.Proofs.TT
open Go Go.Sw
set_option maxRecDepth 100000
def kq (i:Int):api_Public:=⟨2,7,1,[],zFt (sha [113,u8 i])⟩
theorem zEj (i:Int):xV i=some (sha [113,u8 i]):=by
 unfold xV
 exact bd (zBx _ (by simp)) rfl
theorem dZ (i:Int):vI i=some (kq i):=by
 unfold vI
 refine bd (zEj i) ?_
 exact bd (zA5 _ (by rw [iC];decide)) rfl
def enr:api_Enrolled:=⟨2,2,[kq 4,kq 5],⟨[],sha [112,u8 2],[]⟩,⟨1,3,0,[],List.replicate 32 0⟩⟩
theorem zG2:vP 2 2=some enr:=by
 unfold vP
 refine bd (dZ 4) ?_
 refine bd (dZ 5) ?_
 refine bd (zBx _ (by simp)) ?_
 refine bd (a:=32) rfl ?_
 refine bd (ckT rfl) ?_
 refine bd (ckT rfl) ?_
 rfl
def KN:List UInt8:=nm (kq 4)
theorem zF2:KN.length=32:=zAd _ _
def evd:api_Evidence:=⟨2,qb KN,zBo (sha [113,u8 4]) 0 (qb KN),zH5⟩
theorem wQ:rN ⟨2,1,EVS⟩ 2 4 [110]=some (qa KN):=by
 unfold rN
 refine bd zNs ?_
 refine bd sel2 ?_
 refine bd zUd ?_
 refine bd (a:=DG) (cf rfl rfl) ?_
 refine bd (dZ 4) ?_
 refine bd (zBb (kq 4)) ?_
 refine bd ((zEm [110] 2 zH5 (by decide) (by decide)).trans (congrArg some zPm)) ?_
 rfl
theorem zNa (K:List UInt8) (h:K.length=32):(qb K).length=141:=by
 unfold qb
 simp only [List.length_append,h,List.length_cons,List.length_nil]
 rfl
theorem wE:vR ⟨2,1,EVS⟩ 2 4 0 (qa KN)=some evd:=by
 unfold vR
 refine bd zNs ?_
 refine bd (qenc KN zF2) ?_
 refine bd (zEj 4) ?_
 have hq:=zNa KN zF2
 refine bd (a:=zBo (sha [113,u8 4]) 0 (qb KN)) ?_ rfl
 rw [show yR .i64 0 1=((0:Nat):Int) from rfl]
 exact zEy _ 0 _ (by rw [iC];decide) (by omega) (by omega)
theorem wG:eN ⟨2,1,EVS⟩ 2 [110]=some evd:=by
 unfold eN
 rw [show IntKind.i64.wrap (2*2)=4 from rfl]
 refine bd wQ ?_
 exact bd wE rfl
theorem zQc (i:Int):chk (kq i)=0:=by
 have h:=gL (sha [113,u8 i])
 have e:=dO (kq i)
 have:tH (kq i)=some 0:=by
  unfold tH kq
  simp only [h]
  rfl
 rw [this] at e
 injection e with e
 exact e.symm
theorem wV:vq (kq 4) (qb KN) (zBo (sha [113,u8 4]) 0 (qb KN))=(qa KN,0,0):=by
 have hv:vrf (kq 4).Unique (qb KN) (zBo (sha [113,u8 4]) 0 (qb KN))=(0,true):=zL4 (sha [113,u8 4]) 0 (qb KN) (by rw [iC];decide) (by omega)
 have ha:=qdec KN zF2
 have hk:(qa KN).Key=nm (kq 4):=rfl
 unfold vq
 rw [hv,ha,zQc 4,if_neg (by simp),if_neg (by show ¬ ((2:Int)≠2);simp),if_neg (by show ¬ yR .i64 7 4=0;decide),if_neg (by simp),if_neg (by simp),if_neg (by simp [hk])]
theorem wqf (r:List api_Public):qf evd.Attest evd.Signature (kq 4 :: r) 17=(some (qa KN),0):=by
 show qf (qb KN) (zBo (sha [113,u8 4]) 0 (qb KN)) (kq 4 :: r) 17=_
 unfold qf
 rw [wV]
 rfl
theorem zQa (n:List UInt8) (hn:n.length<2 ^ 30):EvOk evd [kq 4,kq 5] n:=by
 refine ⟨?_,?_,by decide,hn,by decide,λp hp=>?_⟩
 ·show (qb KN).length<_
  rw [zNa KN zF2];decide
 ·show (zBo (sha [113,u8 4]) 0 (qb KN)).length<_
  rw [zHp _ _ _ (by rw [iC];decide)];decide
 ·simp only [List.mem_cons,List.not_mem_nil,or_false] at hp
  rcases hp with rfl | rfl
  ·show (zFt _).length<_
   rw [gL];decide
  ·show (zFt _).length<_
   rw [gL];decide
theorem zP9 (x:api_Evidence) (keys:List api_Public) (n:List UInt8) (a:api_Attest) (h:qf x.Attest x.Signature keys 17=(some a,0)) (hn:a.Nonce=nnc n x.Machine x.Log):qt x keys n=(a,0):=by
 unfold qt
 rw [h]
 exact if_pos hn
theorem zTd (x:api_Evidence) (keys:List api_Public) (n:List UInt8) (a:api_Attest) (h:qf x.Attest x.Signature keys 17=(some a,0)) (hn:¬ a.Nonce=nnc n x.Machine x.Log):qt x keys n=(tC,45):=by
 unfold qt
 rw [h]
 exact if_neg hn
theorem n12:¬ N1=N2:=by decide
theorem nn1:(qa KN).Nonce=nnc [110] evd.Machine evd.Log:=zPm.symm
theorem nn2:¬ (qa KN).Nonce=nnc [109] evd.Machine evd.Log:=λe=>n12 ((show N1=nnc [109] 2 zH5 from e).trans zVm)
theorem wq1:qt evd [kq 4,kq 5] [110]=(qa KN,0):=zP9 _ _ _ _ (wqf [kq 5]) nn1
theorem wq2:qt evd [kq 4,kq 5] [109]=(tC,45):=zTd _ _ _ _ (wqf [kq 5]) nn2
theorem zQk:yN 2=some ⟨0,4095⟩:=by decide +kernel
def zNo:api_Enrolled:=⟨2,2,[kq 4,kq 5],⟨[],sha [112,u8 2],[]⟩,⟨1,3,0,[],List.replicate 32 0⟩⟩
theorem wX:xT evd zNo (qa KN)=some (⟨2,1,EVS⟩,0):=by
 unfold xT
 refine bd (show yN zNo.Active=some ⟨0,4095⟩ from zQk) ?_
 refine cf rfl ?_
 refine bd zMt ?_
 refine cf rfl ?_
 refine bd (a:=false) rfl ?_
 refine cf rfl ?_
 refine bd (a:=false) rfl ?_
 refine cf rfl ?_
 refine bd zVh ?_
 refine cf rfl ?_
 refine bd (a:=true) ((zHk DG DG).trans (by simp)) ?_
 exact cf rfl rfl
theorem wA1:Def (yB evd zNo [110] [MAN]) (λv=>v.Err=0/\v.Reasons.length=10/\v.Clock=17):=by
 unfold yB
 refine Def.c (λh=>by cases h) (λ_=>?_)
 refine Def.bd (P:=λr=>r=(qa KN,0)) (Def.of (eG evd [kq 4,kq 5] [110] (zQa _ (by decide))) wq1) (λr hr=>?_)
 subst hr
 refine Def.c (λh=>by cases h) (λ_=>?_)
 refine Def.bd (P:=λr=>r=(⟨2,1,EVS⟩,0)) (Def.of wX rfl) (λr hr=>?_)
 subst hr
 refine Def.c (λh=>by cases h) (λ_=>?_)
 have hx:=zWw
 refine Def.bd (P:=λr=>r.1.length=10/\r.2.2=0) ?_ (λr hr=>?_)
 ·cases hm:xX ⟨2,1,EVS⟩ [MAN] with
  | none=>rw [hm] at hx;cases hx
  | some r=>
   rw [hm] at hx
   simp only [Option.map_some,Option.some.injEq,Prod.mk.injEq] at hx
   exact Def.s hx
 obtain ⟨rs,a,b⟩:=r
 obtain ⟨h1,h2⟩:=hr
 simp only at h1 h2
 subst h2
 exact Def.c (λh=>by cases h) (λ_=>Def.s ⟨rfl,h1,rfl⟩)
theorem wA2:Def (yB evd zNo [109] [MAN]) (λv=>v.Err=45):=by
 unfold yB
 refine Def.c (λh=>by cases h) (λ_=>?_)
 refine Def.bd (P:=λr=>r=(tC,45)) (Def.of (eG evd [kq 4,kq 5] [109] (zQa _ (by decide))) wq2) (λr hr=>?_)
 subst hr
 exact Def.c (λ_=>Def.s rfl) (λh=>by cases h)
theorem wA3:Def (yB evd zNo [110] []) (λv=>v.Err=47):=by
 unfold yB
 refine Def.c (λh=>by cases h) (λ_=>?_)
 refine Def.bd (P:=λr=>r=(qa KN,0)) (Def.of (eG evd [kq 4,kq 5] [110] (zQa _ (by decide))) wq1) (λr hr=>?_)
 subst hr
 refine Def.c (λh=>by cases h) (λ_=>?_)
 refine Def.bd (P:=λr=>r=(⟨2,1,EVS⟩,0)) (Def.of wX rfl) (λr hr=>?_)
 subst hr
 refine Def.c (λh=>by cases h) (λ_=>?_)
 refine Def.bd (P:=λr=>r=([],0,47)) (Def.of zSp rfl) (λr hr=>?_)
 subst hr
 exact Def.c (λ_=>Def.s rfl) (λh=>by cases h)
theorem zMg:oQ=some true:=by
 obtain ⟨v1,a1,a2,a3,a4⟩:=wA1
 obtain ⟨v2,b1,b2⟩:=wA2
 obtain ⟨v3,c1,c2⟩:=wA3
 unfold oQ
 refine bd zV0 ?_
 refine bd zQl ?_
 refine bd zG2 ?_
 refine bd wG ?_
 refine bd (a:=v1) a1 ?_
 refine bd (a:=true) ?_ rfl
 refine ct (by rw [a2];rfl) ?_
 refine ct (by rw [a3];rfl) ?_
 refine ct (by rw [a4];rfl) ?_
 refine bd (a:=v2) b1 ?_
 refine ct (by rw [b2];rfl) ?_
 refine bd (a:=v3) c1 ?_
 rw [c2]
 rfl
end Go.Proofs.TT
namespace Go.Proofs.TT
theorem gA (codes chain manifests changes:List UInt8) (active machine:Int):xM codes chain manifests changes active machine=some true:=zFm zMg codes chain manifests changes active machine
end Go.Proofs.TT
