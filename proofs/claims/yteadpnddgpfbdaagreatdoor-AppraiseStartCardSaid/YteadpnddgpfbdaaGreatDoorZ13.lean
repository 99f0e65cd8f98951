/- AppraiseStart (law 37: evidence whose quote was made in another start than its log, or after a start that kept registers, is refused, and right evidence is accepted) is proved for every input, under no condition of ours; this text is a part of that proof. -/
import Derived.Test.YteadpnddgpfbdaaGreatDoorZ12
import Derived.Test.YteadpnddgpfbdaaGreatDoorZ11
set_option linter.all false
namespace Go.Proofs.TT
open Go Go.Sw
set_option maxRecDepth 100000
theorem or5 {a b c d e:Bool}:Def (bif a then some true else bif b then some true else bif c then some true else bif d then some true else some e) (λr=>r=(a||b||c||d||e)):=by
 cases a<;>cases b<;>cases c<;>cases d<;>cases e<;>exact Def.s rfl
theorem aK (s:List UInt8):Def (xQ s) (λb=>b=true->s.length<=12):=by
 unfold xQ
 refine Def.bd (P:=λe=>e=0->s.length<=12) ?_ (λe he=>Def.s (λh=>he (by simpa using h)))
 unfold gH
 refine Def.bd (P:=λb=>b=false) (Def.s rfl) (λb hb=>?_)
 subst hb
 refine Def.c (λh=>by cases h) (λ_=>?_)
 refine Def.bd (P:=λb=>b=true->s.length<=12) (Def.s (λh=>by simp at h;omega)) (λb hb=>?_)
 refine Def.c (λ_=>Def.s (λh=>by cases h)) (λh=>?_)
 have:=hb (by simpa using h)
 refine Def.c (λ_=>Def.s (λh=>by cases h)) (λ_=>?_)
 refine Def.bd (P:=λb=>b=false) (Def.s rfl) (λb hb=>?_)
 subst hb
 exact Def.c (λh=>by cases h) (λ_=>Def.s (λ_=>this))
theorem zG3 (x y:Int):Def (uY x y) (λr=>r=if x<y then -1 else if y<x then 1 else 0):=by
 unfold uY
 have e:∀ x:Int,s6 x=some false:=λx=>by simp [s6]
 refine Def.bd (P:=λb=>b=false) (Def.of (e x) rfl) (λb hb=>?_)
 subst hb
 refine Def.bd (P:=λb=>b=false) (Def.of (e y) rfl) (λb hb=>?_)
 subst hb
 refine Def.c (λh=>by cases h) (λ_=>Def.c (λh=>by cases h) (λ_=>Def.c (λh=>Def.s ?_) (λh=>Def.c (λh2=>Def.s ?_) (λh2=>Def.s ?_))))
 ·rw [if_pos (dT h)]
 ·rw [if_neg (dF h),if_pos (dT h2)]
 ·rw [if_neg (dF h),if_neg (dF h2)]
def fnz:List Int->Int
 | []=>0
 | x :: r=>if x=0 then fnz r else x
theorem zO1 (l:List Int) (hl:l.length<2 ^ 40):Def (jZ l) (λr=>r=fnz l):=by
 unfold jZ
 refine Def.bd (P:=λr=>(match r with | .inl r=>r | .inr _=>0)=fnz l) ?_ (λr hr=>?_)
 ·refine Def.loop (λs=>∃ i:Nat,s=(i:Int)/\i<=l.length/\fnz (l.drop i)=fnz l) (λs=>l.length - s.toNat) (λs hs=>?_) ⟨0,rfl,by omega,rfl⟩ (by simp;omega)
  obtain ⟨i,rfl,hi,hf⟩:=hs
  unfold eE
  refine Def.c (λh=>?_) (λh=>Def.s ?_)
  ·have hi2:i<l.length:=by have:=dT h;omega
   refine Def.bd (Def.at' hi2) (λd hd=>?_)
   have e:fnz l=if d=0 then fnz (l.drop (i+1)) else d:=by rw [<- hf,List.drop_eq_getElem_cons hi2,hd];rfl
   refine Def.c (λhn=>Def.s ?_) (λhn=>Def.s ?_)
   ·rw [if_neg (by simpa using hn)] at e
    exact e.symm
   ·rw [if_pos (by simpa using hn)] at e
    rw [yB (by omega)]
    exact ⟨⟨i+1,rfl,by omega,e.symm⟩,by simp only [Int.toNat_natCast];omega⟩
  ·have:i=l.length:=by have:=dF h;omega
   rw [<- hf,this,List.drop_length];rfl
 ·cases r with
  | inl r=>exact Def.s hr
  | inr u=>exact Def.s hr
def ord (x y:api_Entry):Int:=fnz [if x.Role<y.Role then -1 else if y.Role<x.Role then 1 else 0,Lib.compareBytes x.Name y.Name,if x.Version<y.Version then -1 else if y.Version<x.Version then 1 else 0,Lib.compareBytes x.Digest y.Digest]
theorem zG0 (x y:api_Entry):Def (qJ x y) (λr=>r=ord x y):=by
 unfold qJ
 refine Def.bd (zG3 _ _) (λa ha=>?_)
 refine Def.bd (P:=λr=>r=Lib.compareBytes x.Name y.Name) (Def.s rfl) (λb hb=>?_)
 refine Def.bd (zG3 _ _) (λc hc=>?_)
 refine Def.bd (P:=λr=>r=Lib.compareBytes x.Digest y.Digest) (Def.s rfl) (λd hd=>?_)
 subst ha hb hc hd
 exact Def.bd (zO1 _ (by simp)) (λr hr=>Def.s hr)
theorem zH1 {α:Type} {c:UInt8} {f:Bool->Option α} {Q:α->Prop} (h:Def (f (decide (c.toNat<32)||decide (126<c.toNat))) Q) :
  Def ((bif decide ((c.toNat:Int)<32) then (some true) else some (decide (126<(c.toNat:Int))):Option Bool).bind f) Q:=by
 have e:(bif decide ((c.toNat:Int)<32) then (some true) else some (decide (126<(c.toNat:Int))):Option Bool)=some (decide (c.toNat<32)||decide (126<c.toNat)):=by
  have h1:decide ((c.toNat:Int)<32)=decide (c.toNat<32):=decide_eq_decide.2 (by omega)
  have h2:decide (126<(c.toNat:Int))=decide (126<c.toNat):=decide_eq_decide.2 (by omega)
  rw [h1,h2]
  cases decide (c.toNat<32)<;>rfl
 rw [e]
 exact h
theorem zBi (r:api_Rule) (h:r.Text.length<2 ^ 40):Def (oQ r) (λc=>c=0->r.Text.length<=32):=by
 unfold oQ
 refine Def.bd (P:=λ_=>True) (Def.c (λ_=>Def.s trivial) (λ_=>Def.s trivial)) (λb _=>?_)
 refine Def.c (λ_=>Def.s (λh=>by cases h)) (λ_=>?_)
 refine Def.bd (xD r.Text (pP r) (λ_=>True) (λb=>b=1) h (λi hi=>?_) ?_) (λy hy=>?_)
 ·unfold pP
  refine Def.c (λ_=>?_) (λh=>by have:=dF h;omega)
  refine Def.bd (Def.at' hi) (λc _=>?_)
  refine zH1 ?_
  refine Def.c (λ_=>Def.s rfl) (λ_=>Def.s ⟨yB (by omega),trivial⟩)
 ·unfold pP
  exact cf (by simp) rfl
 ·cases y with
  | inl b=>exact Def.s (λh=>by rw [h] at hy;cases hy)
  | inr u=>
   refine Def.bd (P:=λ_=>True) (Def.c (λ_=>Def.c (λ_=>Def.s trivial) (λ_=>Def.c (λ_=>Def.s trivial) (λ_=>Def.s trivial))) (λ_=>Def.s trivial)) (λb _=>?_)
   refine Def.c (λ_=>Def.s (λh=>by cases h)) (λ_=>?_)
   refine Def.bd (P:=λ_=>True) (Def.c (λ_=>Def.c (λ_=>Def.s trivial) (λ_=>Def.s trivial)) (λ_=>Def.s trivial)) (λb _=>?_)
   refine Def.c (λ_=>Def.s (λh=>by cases h)) (λ_=>?_)
   refine Def.bd (P:=λ_=>True) (Def.c (λ_=>Def.s trivial) (λ_=>Def.s trivial)) (λb _=>?_)
   refine Def.c (λ_=>Def.s (λh=>by cases h)) (λ_=>?_)
   exact Def.c (λ_=>Def.s (λh=>by cases h)) (λh=>Def.s (λ_=>by have:=dF h;omega))
structure MGood (m:api_Manifest):Prop where
 n:m.Entries.length<=16
 k:m.Rules.length<=8
 e:∀ i,(h:i<m.Entries.length)->1<=m.Entries[i].Role/\m.Entries[i].Role<=3/\0<=m.Entries[i].Version/\m.Entries[i].Version<=1000000/\m.Entries[i].Name.length<=12
 r:∀ i,(h:i<m.Rules.length)->m.Rules[i].Text.length<2 ^ 40
theorem zHi (m:api_Manifest) (h:MOk m):Def (vF m) (λc=>c=0->MGood m):=by
 unfold vF
 refine Def.bd (aK _) (λb _=>?_)
 refine Def.c (λ_=>Def.s (λh=>by cases h)) (λ_=>?_)
 refine Def.bd (P:=λ_=>True) (Def.c (λ_=>Def.s trivial) (λ_=>Def.c (λ_=>Def.s trivial) (λ_=>Def.c (λ_=>Def.s trivial) (λ_=>Def.c (λ_=>Def.s trivial) (λ_=>Def.c (λ_=>Def.s trivial) (λ_=>Def.s trivial)))))) (λb _=>?_)
 refine Def.c (λ_=>Def.s (λh=>by cases h)) (λ_=>?_)
 refine Def.bd (P:=λb=>b=false->m.Entries.length<=16/\m.Rules.length<=8) (Def.c (λ_=>Def.s (λh=>by cases h)) (λh1=>Def.s (λh2=>⟨by have:=dF h1;omega,by have:=dF h2;omega⟩))) (λb hb=>?_)
 refine Def.c (λ_=>Def.s (λh=>by cases h)) (λhf=>?_)
 obtain ⟨n,k⟩:=hb hf
 refine Def.bd (xD m.Entries (xT m) (λi=>∀ h:i<m.Entries.length,1<=m.Entries[i].Role/\m.Entries[i].Role<=3/\0<=m.Entries[i].Version/\m.Entries[i].Version<=1000000/\m.Entries[i].Name.length<=12) (λb=>b≠0) (by omega) (λi hi=>?_) ?_) (λy hy=>?_)
 ·unfold xT
  refine Def.c (λ_=>?_) (λh=>by have:=dF h;omega)
  refine Def.bd (Def.at' hi) (λx hx=>?_)
  refine Def.bd or5 (λb hb=>?_)
  refine Def.c (λ_=>Def.s (by show (1:Int)≠0;decide)) (λhbf=>?_)
  rw [hbf] at hb
  simp only [Bool.false_eq,Bool.or_eq_false_iff,decide_eq_false_iff_not] at hb
  refine Def.bd (aK _) (λb2 hb2=>?_)
  refine Def.c (λ_=>Def.s (by show (43:Int)≠0;decide)) (λhn=>?_)
  have hn':=hb2 (by simpa using hn)
  refine Def.bd (P:=λ_=>True) ?_ (λ_ _=>?_)
  ·refine Def.c (λh0=>?_) (λ_=>Def.s trivial)
   have:0<i:=by have:=dT h0;omega
   rw [show IntKind.i64.wrap ((i:Int) - 1)=((i - 1:Nat):Int) by rw [zT (by omega) (by omega)];omega]
   refine Def.bd (Def.at' (show i - 1<m.Entries.length by omega)) (λy _=>?_)
   exact Def.bd (zG0 _ _) (λ_ _=>Def.s trivial)
  ·refine Def.c (λ_=>Def.s (by show (41:Int)≠0;decide)) (λ_=>Def.s ⟨yB (by omega),λ_=>?_⟩)
   rw [<- hx]
   refine ⟨by omega,by omega,by omega,by omega,hn'⟩
 ·unfold xT
  exact cf (by simp) rfl
 cases y with
 | inl b=>exact Def.s (λh=>absurd h hy)
 | inr u=>
  refine Def.bd (xD m.Rules (tF m) (λ_=>True) (λb=>b≠0) (by omega) (λi hi=>?_) ?_) (λz hz=>?_)
  ·unfold tF
   refine Def.c (λ_=>?_) (λh=>by have:=dF h;omega)
   refine Def.bd (Def.at' hi) (λx hx=>?_)
   refine Def.bd (zBi x (by rw [hx];exact h _ (List.getElem_mem _))) (λc _=>?_)
   exact Def.c (λhc=>Def.s (by simpa using hc)) (λ_=>Def.s ⟨yB (by omega),trivial⟩)
  ·unfold tF
   exact cf (by simp) rfl
  cases z with
  | inl b=>exact Def.s (λh=>absurd h hz)
  | inr u=>exact Def.s (λ_=>⟨n,k,λi hi=>hy i hi hi,λi hi=>h _ (List.getElem_mem _)⟩)
end Go.Proofs.TT
namespace Go.Proofs.TT
open Go Go.Sw
set_option maxRecDepth 100000
theorem zGu (e:api_Event) (hd:e.Data.length<=64) (hg:e.Digests.length=2):Def (x6 e) (λ_=>True):=by
 unfold x6
 refine Def.bd (P:=λ_=>True) (Def.c (λ_=>Def.s trivial) (λ_=>Def.s trivial)) (λb _=>?_)
 refine Def.bd (P:=λ_=>True) ?_ (λy _=>?_)
 ·refine Def.c (λ_=>Def.s trivial) (λ_=>Def.c (λ_=>?_) (λ_=>Def.c (λ_=>?_) (λ_=>?_)))
  ·refine Def.bd (Def.mkN (by decide) (by decide)) (λn _=>?_)
   refine Def.bd (P:=λ_=>True) (Def.s trivial) (λ_ _=>?_)
   exact Def.c (λ_=>Def.s trivial) (λ_=>Def.s trivial)
  ·refine Def.c (λ_=>Def.s trivial) (λ_=>?_)
   refine Def.bd (xD e.Data (xG e) (λ_=>True) (λ_=>True) (by omega) (λi hi=>?_) ?_) (λy _=>?_)
   ·unfold xG
    refine Def.c (λ_=>?_) (λh=>by have:=dF h;omega)
    exact Def.bd (Def.at' hi) (λc _=>zH1 (Def.c (λ_=>Def.s trivial) (λ_=>Def.s ⟨yB (by omega),trivial⟩)))
   ·unfold xG
    exact cf (by simp) rfl
   ·cases y with
    | inl b=>exact Def.s trivial
    | inr u=>exact Def.s trivial
  ·exact Def.bd (P:=λ_=>True) (Def.c (λ_=>Def.s trivial) (λ_=>Def.s trivial)) (λb _=>Def.c (λ_=>Def.s trivial) (λ_=>Def.s trivial))
 cases y with
 | inl b=>exact Def.s trivial
 | inr u=>
  have hif:(if 2<(e.Digests.length:Int) then (2:Int) else (e.Digests.length:Int))=2:=by rw [hg];rfl
  refine Def.bd (xD e.Digests (xI e b) (λ_=>True) (λ_=>True) (by omega) (λi hi=>?_) ?_) (λy _=>?_)
  ·unfold xI
   rw [hif]
   refine Def.c (λ_=>?_) (λh=>by have:=dF h;omega)
   refine Def.bd (Def.at' hi) (λd _=>?_)
   refine Def.bd (P:=λ_=>True) ?_ (λ_ _=>Def.c (λ_=>Def.s trivial) (λ_=>Def.s ⟨yB (by omega),trivial⟩))
   refine Def.c (λ_=>Def.c (λ_=>Def.s trivial) (λ_=>?_)) (λ_=>Def.s trivial)
   refine Def.bd (zNf (i:Int) e.Data (by omega) (by omega)) (λs _=>?_)
   exact Def.bd (P:=λ_=>True) (Def.s trivial) (λ_ _=>Def.s trivial)
  ·unfold xI
   rw [hif,hg]
   exact cf rfl rfl
  ·cases y with
   | inl b=>exact Def.s trivial
   | inr u=>exact Def.s trivial
theorem zRn {K a a' b b' c c':Nat} (hb:b'<K) (hc:c'<K) (h:a'<a∨(a'=a/\(b'<b∨(b'=b/\c'<c)))):a'*(K*K)+b'*K+c'<a*(K*K)+b*K+c:=by
 rcases h with h | ⟨rfl,h | ⟨rfl,h⟩⟩
 ·have h1:(a'+1)*(K*K)<=a*(K*K):=Nat.mul_le_mul_right _ h
  have h2:(b'+1)*K<=K*K:=Nat.mul_le_mul_right _ hb
  rw [Nat.add_mul,Nat.one_mul] at h1 h2
  omega
 ·have h2:(b'+1)*K<=b*K:=Nat.mul_le_mul_right _ h
  rw [Nat.add_mul,Nat.one_mul] at h2
  omega
 ·omega
theorem zNb (p l:List UInt8) (hp:p.length<=32) (hl:l.length<=64):Def (jE p l) (λ_=>True):=by
 unfold jE
 refine Def.bd (P:=λr=>match r with | .inl _=>True | .inr q=>0<=q/\q<=(p.length:Int)) ?_ (λy hy=>?_)
 ·refine Def.loop (λst=>∃ (a b r:Nat) (s:Int),st=((a:Int),(b:Int),s,(r:Int))/\a<=p.length/\b<=l.length/\-1<=s/\s<p.length/\r<=b/\s<a)
   (λst=>((p.length:Int) - st.2.2.1).toNat*((l.length+2)*(l.length+2))+(l.length+1 - st.2.2.2.toNat)*(l.length+2)+(l.length+1 - st.2.1.toNat)) (λst hs=>?_) ⟨0,0,0,-1,rfl,by omega,by omega,by omega,by omega,by omega,by omega⟩ ?_
  ·obtain ⟨a,b,r,s,rfl,ha,hb,hs1,hs2,hr,hsa⟩:=hs
   unfold eA
   refine Def.c (λh=>?_) (λ_=>Def.s ⟨by omega,by omega⟩)
   have hbl:b<l.length:=by have:=dT h;omega
   refine Def.bd (P:=λx=>x=true->a<p.length) ?_ (λx hx=>?_)
   ·refine Def.c (λh=>?_) (λ_=>Def.s (λh=>by cases h))
    have:=dT h
    exact Def.bd (Def.at' (show a<p.length by omega)) (λ_ _=>Def.s (λ_=>by omega))
   refine Def.c (λhxt=>Def.s ?_) (λ_=>?_)
   ·have:=hx hxt
    rw [yB (show a<2 ^ 40 by omega)]
    refine ⟨⟨a+1,b,b,(a:Int),rfl,by omega,by omega,by omega,by omega,by omega,by omega⟩,?_⟩
    refine zRn ?_ ?_ (.inl ?_)<;>simp only [Int.toNat_natCast]<;>omega
   refine Def.bd (P:=λx=>x=true->a<p.length) ?_ (λx hx=>?_)
   ·refine Def.c (λh=>?_) (λ_=>Def.s (λh=>by cases h))
    have:=dT h
    refine Def.bd (Def.at' (show a<p.length by omega)) (λ_ _=>?_)
    refine Def.c (λ_=>Def.s (λ_=>by omega)) (λ_=>?_)
    refine Def.bd (Def.at' (show a<p.length by omega)) (λ_ _=>?_)
    exact Def.bd (Def.at' hbl) (λ_ _=>Def.s (λ_=>by omega))
   refine Def.c (λhxt=>Def.s ?_) (λ_=>?_)
   ·have:=hx hxt
    rw [yB (show a<2 ^ 40 by omega),yB (show b<2 ^ 40 by omega)]
    refine ⟨⟨a+1,b+1,r,s,rfl,by omega,by omega,by omega,by omega,by omega,by omega⟩,?_⟩
    refine zRn ?_ ?_ (.inr ⟨rfl,.inr ⟨rfl,?_⟩⟩)<;>simp only [Int.toNat_natCast]<;>omega
   refine Def.c (λh=>Def.s ?_) (λ_=>Def.s trivial)
   have h0:0<=s:=dT h
   obtain ⟨n,rfl⟩:=Int.eq_ofNat_of_zero_le h0
   rw [yB (show n<2 ^ 40 by omega),yB (show r<2 ^ 40 by omega)]
   refine ⟨⟨n+1,r+1,r+1,(n:Int),rfl,by omega,by omega,by omega,by omega,by omega,by omega⟩,?_⟩
   refine zRn ?_ ?_ (.inr ⟨rfl,.inl ?_⟩)<;>simp only [Int.toNat_natCast]<;>omega
  ·have h1:((p.length:Int) - -1).toNat<=33:=by omega
   have h2:(l.length+2)*(l.length+2)<=66*66:=Nat.mul_le_mul (by omega) (by omega)
   have h3:((p.length:Int) - -1).toNat*((l.length+2)*(l.length+2))<=33*(66*66):=Nat.mul_le_mul h1 h2
   have h4:(l.length+1 - (0:Int).toNat)*(l.length+2)<=65*66:=Nat.mul_le_mul (by omega) (by omega)
   have h5:l.length+1 - (0:Int).toNat<=65:=by omega
   simp only
   omega
 ·cases y with
  | inl b=>exact Def.s trivial
  | inr q=>
   refine Def.bd (Def.sub hy.1 (by exact_mod_cast hy.2) (by omega)) (λv hv=>?_)
   have hvl:v.length<=p.length:=by rw [hv];simp
   refine Def.bd (P:=λ_=>True) ?_ (λ_ _=>Def.s trivial)
   unfold jI
   refine Def.bd (P:=λ_=>True) (Def.c (λ_=>Def.s trivial) (λ_=>Def.s trivial)) (λb _=>?_)
   refine Def.c (λ_=>Def.s trivial) (λ_=>?_)
   refine Def.bd (P:=λb=>b=true) (Def.s rfl) (λb hb=>?_)
   subst hb
   refine Def.c (λ_=>?_) (λh=>by cases h)
   refine Def.bd (P:=λ_=>True) (Def.s trivial) (λc _=>?_)
   refine Def.bd (P:=λr=>r.length<=v.length) ?_ (λw hw=>?_)
   ·unfold tB
    refine Def.bd (P:=λr=>r.length<=v.length) ?_ (λw hw=>Def.s hw)
    refine Def.loop (λw=>w.length<=v.length) (λw=>w.length) (λw hw=>?_) (Nat.le_refl _) (by omega)
    unfold sY
    refine Def.bd (P:=λb=>b=true->0<w.length) ?_ (λb hb=>?_)
    ·refine Def.c (λh=>?_) (λ_=>Def.s (λh=>by cases h))
     have:=dT h
     rw [zT (by omega) (by omega)]
     exact Def.bd (Def.idx (by omega) (by omega)) (λ_ _=>Def.s (λ_=>by omega))
    refine Def.c (λh=>?_) (λ_=>Def.s hw)
    have:=hb h
    rw [zT (by omega) (by omega)]
    refine Def.bd (Def.sub (by decide) (by omega) (by omega)) (λx hx=>Def.s ?_)
    have:x.length=w.length - 1:=by rw [hx];simp
    exact ⟨by omega,by omega⟩
   refine Def.bd (P:=λ_=>True) (Def.s trivial) (λc _=>?_)
   refine Def.bd (P:=λ_=>True) ?_ (λ_ _=>Def.s trivial)
   unfold tK
   refine Def.bd (P:=λ_=>True) ?_ (λw hw=>Def.s hw)
   refine Def.loop (λw=>w.length<=v.length) (λw=>w.length) (λw hw=>?_) hw (by omega)
   unfold rP
   refine Def.bd (P:=λb=>b=true->0<w.length) ?_ (λb hb=>?_)
   ·refine Def.c (λh=>?_) (λ_=>Def.s (λh=>by cases h))
    have:=dT h
    exact Def.bd (Def.idx (by omega) (by omega)) (λ_ _=>Def.s (λ_=>by omega))
   refine Def.c (λh=>?_) (λ_=>Def.s trivial)
   have:=hb h
   refine Def.bd (Def.sub (by decide) (by omega) (by omega)) (λx hx=>Def.s ?_)
   have:x.length=w.length - 1:=by rw [hx];simp
   exact ⟨by omega,by omega⟩
theorem zFq:∀ (s:List UInt8) (acc:Nat),(∀ c∈s,48<=c.toNat/\c.toNat<=57)->Def (decV acc s) (λ_=>True)
 | [],_,_=>Def.s trivial
 | c :: r,acc,h=>by
  unfold decV
  refine Def.c (λ_=>zFq r _ (λx hx=>h x (List.mem_cons_of_mem _ hx))) (λh2=>?_)
  have:=h c (List.mem_cons_self ..)
  rw [eO this.1,eO this.2] at h2
  cases h2
theorem zGx (s:List UInt8):Def (nW s) (λ_=>True):=by
 unfold nW
 refine Def.bd (P:=λb=>b=false->1<=s.length/\s.length<=10) ?_ (λb hb=>?_)
 ·refine Def.c (λ_=>Def.s (λh=>by cases h)) (λh1=>Def.c (λ_=>Def.s (λh=>by cases h)) (λh2=>?_))
  have h3:=dF h2
  have h4:1<=s.length:=by
   cases s with
   | nil=>cases h1
   | cons a r=>simp
  refine Def.c (λh=>?_) (λ_=>Def.s (λ_=>⟨h4,by omega⟩))
  exact Def.bd (Def.idx (by decide) (by omega)) (λ_ _=>Def.s (λ_=>⟨h4,by omega⟩))
 refine Def.c (λ_=>Def.s trivial) (λhbf=>?_)
 obtain ⟨h1,h10⟩:=hb hbf
 refine Def.bd (xD s (rI s) (λi=>∀ h:i<s.length,48<=s[i].toNat/\s[i].toNat<=57) (λ_=>True) (by omega) (λi hi=>?_) ?_) (λy hy=>?_)
 ·unfold rI
  refine Def.c (λ_=>?_) (λh=>by have:=dF h;omega)
  refine Def.bd (P:=λb=>b=false->48<=s[i].toNat/\s[i].toNat<=57) ?_ (λb hb=>?_)
  ·refine Def.bd (Def.at' hi) (λc hc=>Def.c (λ_=>Def.s (λh=>by cases h)) (λh48=>?_))
   refine Def.bd (Def.at' hi) (λd hd=>Def.s (λh57=>?_))
   have:=dF h48;have:=dF h57
   rw [hc] at *;rw [hd] at *
   omega
  ·exact Def.c (λ_=>Def.s trivial) (λh=>Def.s ⟨yB (by omega),λ_=>hb h⟩)
 ·unfold rI
  exact cf (by simp) rfl
 ·cases y with
  | inl b=>exact Def.s trivial
  | inr u=>
   refine Def.bd (P:=λ_=>True) ?_ (λ_ _=>Def.s trivial)
   unfold strconv_Atoi
   rw [eO h1,eO (show s.length<=18 by omega)]
   refine Def.bd (zFq s 0 (λc hc=>?_)) (λ_ _=>Def.s trivial)
   obtain ⟨i,hi,rfl⟩:=List.mem_iff_getElem.mp hc
   exact hy i hi hi
theorem zM6 (s p:List UInt8):Def (tC s p) (λ_=>True):=by
 unfold tC xZ wB
 refine Def.bd (P:=λ_=>True) ?_ (λ_ _=>Def.s trivial)
 refine Def.bd (P:=λb=>b=true->p.length<=s.length) ?_ (λb hb=>?_)
 ·refine Def.bd (P:=λb=>b=true->p.length<=s.length) ?_ (λb hb=>Def.s hb)
  refine Def.c (λh=>?_) (λ_=>Def.s (λh=>by cases h))
  have:=dT h
  exact Def.bd (Def.sub (by decide) (by omega) (by omega)) (λ_ _=>Def.s (λ_=>by omega))
 refine Def.c (λ_=>Def.s trivial) (λh=>?_)
 have:=hb (by simpa using h)
 exact Def.bd (Def.sub (by omega) (by omega) (by omega)) (λ_ _=>Def.s trivial)
theorem zHq (r:api_Rule) (l:List UInt8) (h:r.Text.length<2 ^ 40) (hl:l.length<=64):Def (nV r l) (λ_=>True):=by
 unfold nV
 refine Def.bd (zBi r h) (λc hc=>?_)
 refine Def.c (λ_=>Def.s trivial) (λhc0=>?_)
 have ht:=hc (by simpa using hc0)
 refine Def.c (λ_=>Def.s trivial) (λ_=>Def.c (λ_=>?_) (λ_=>Def.c (λ_=>?_) (λ_=>Def.s trivial)))
 ·exact Def.bd (zNb _ _ ht hl) (λ_ _=>Def.s trivial)
 ·refine Def.bd (zM6 _ _) (λz _=>?_)
  refine Def.bd (zGx _) (λn _=>?_)
  exact Def.bd (P:=λ_=>True) (Def.c (λ_=>Def.c (λ_=>Def.s trivial) (λ_=>Def.s trivial)) (λ_=>Def.s trivial)) (λ_ _=>Def.s trivial)
end Go.Proofs.TT
namespace Go.Proofs.TT
open Go Go.Sw
set_option maxRecDepth 100000
structure EvS (e:api_Event):Prop where
 d:e.Data.length<=64
 n:e.Digests.length=2
theorem EvGood.s {e:api_Event} {a:Int} (h:EvGood e a):EvS e:=⟨h.d,h.l⟩
theorem zJb (r:Int):Def (uK r) (λ_=>True):=by
 unfold uK
 refine Def.bd (P:=λb=>b=false->0<=r/\r<5) (Def.c (λ_=>Def.s (λh=>by cases h)) (λh1=>Def.s (λh2=>?_))) (λb hb=>?_)
 ·have:=dF h1;have:=dF h2
  omega
 refine Def.c (λ_=>Def.s trivial) (λh=>?_)
 exact Def.bd (Def.idx (hb h).1 (hb h).2) (λ_ _=>Def.s trivial)
theorem zMs (x:api_Entry) (e:api_Event) (h0:0<=x.Version) (h1:x.Version<=1000000) (hn:x.Name.length<=12):Def (xY x e) (λ_=>True):=by
 unfold xY
 refine Def.bd (P:=λ_=>True) ?_ (λ_ _=>Def.s trivial)
 refine Def.bd (zJb _) (λ_ _=>?_)
 refine Def.c (λ_=>Def.c (λh=>?_) (λ_=>Def.s trivial)) (λ_=>Def.s trivial)
 have:=dT h
 refine Def.bd (Def.idx (by decide) this) (λ_ _=>?_)
 refine Def.bd (P:=λ_=>True) (Def.s trivial) (λ_ _=>?_)
 refine Def.c (λ_=>?_) (λ_=>Def.s trivial)
 refine Def.bd (Def.ck (eO (by simp;omega))) (λ_ _=>?_)
 refine Def.bd (P:=λv=>v.length<=20) ?_ (λv hv=>?_)
 ·unfold strconv_Itoa
  refine Def.c (λ_=>Def.s (l9 _ _)) (λh=>?_)
  simp at h
  omega
 exact Def.bd (Def.ck (eO (by simp;omega))) (λ_ _=>Def.s trivial)
theorem zLi (m:api_Manifest) (e:api_Event) (hm:MOk m) (he:EvS e):Def (xP m e) (λr=>e.Kind=2->r=-1):=by
 unfold xP
 refine Def.bd (zHi m hm) (λc hc=>?_)
 refine Def.c (λ_=>Def.s (λ_=>rfl)) (λhc0=>?_)
 have g:=hc (by simpa using hc0)
 have gn:=g.n
 have gk:=g.k
 refine Def.bd (P:=λj=>e.Kind=2->j=.inr ()) ?_ (λj hj=>?_)
 ·refine Def.c (λh=>?_) (λ_=>Def.c (λh=>?_) (λ_=>Def.s (λ_=>rfl)))
  ·have hk:e.Kind=1:=by simpa using h
   refine Def.bd (P:=λ_=>True) ?_ (λ_ _=>Def.s (λh=>by omega))
   unfold yI
   refine Def.bd (xD m.Entries (zN m.Entries e) (λ_=>True) (λ_=>True) (by omega) (λi hi=>?_) ?_) (λy _=>?_)
   ·unfold zN
    refine Def.c (λ_=>?_) (λh=>by have:=dF h;omega)
    refine Def.bd (Def.at' hi) (λx hx=>?_)
    have:=g.e i hi
    rw [<- hx] at this
    refine Def.bd (zMs x e this.2.2.1 this.2.2.2.1 this.2.2.2.2) (λb _=>?_)
    exact Def.c (λ_=>Def.s trivial) (λ_=>Def.s ⟨yB (by omega),trivial⟩)
   ·unfold zN
    exact cf (by simp) rfl
   ·cases y with
    | inl b=>exact Def.s trivial
    | inr u=>exact Def.s trivial
  ·have hk:e.Kind=3:=by simpa using h
   refine Def.bd (P:=λ_=>True) ?_ (λ_ _=>?_)
   ·refine Def.bd (zJb _) (λ_ _=>Def.c (λ_=>Def.s trivial) (λ_=>?_))
    exact Def.bd (zGu e he.d he.n) (λ_ _=>Def.s trivial)
   refine Def.c (λ_=>Def.s (λh=>by omega)) (λ_=>?_)
   refine Def.bd (P:=λ_=>True) ?_ (λ_ _=>Def.c (λ_=>Def.s (λh=>by omega)) (λ_=>Def.s (λh=>by omega)))
   unfold yZ
   refine Def.bd (xD m.Rules (yH m.Rules e) (λ_=>True) (λ_=>True) (by omega) (λi hi=>?_) ?_) (λy _=>?_)
   ·unfold yH
    refine Def.c (λ_=>?_) (λh=>by have:=dF h;omega)
    refine Def.bd (Def.at' hi) (λx hx=>?_)
    have:=g.r i hi
    rw [<- hx] at this
    refine Def.bd (P:=λ_=>True) (Def.bd (zHq x e.Data this he.d) (λ_ _=>Def.s trivial)) (λb _=>?_)
    exact Def.c (λ_=>Def.s trivial) (λ_=>Def.s ⟨yB (by omega),trivial⟩)
   ·unfold yH
    exact cf (by simp) rfl
   ·cases y with
    | inl b=>exact Def.s trivial
    | inr u=>exact Def.s trivial
 ·cases j with
  | inl b=>exact Def.s (λh=>by cases hj h)
  | inr u=>exact Def.s (λ_=>rfl)
def zGf (ms:List api_Manifest) (e:api_Event) (r:api_Reason):Prop:=
 if e.Kind=5∨e.Kind=2 then r.Manifest=-1/\r.Item=-1 else 0<=r.Item/\∃ k:Nat,r.Manifest=k/\∃ h:k<ms.length,xP ms[k] e=some r.Item
theorem zEd (e:api_Event) (ms:List api_Manifest) (hn:ms.length<=5) (hm:∀ m∈ms,MOk m) (he:EvS e):Def (w8 e ms) (λr=>r.2=true->zGf ms e r.1):=by
 unfold w8
 refine Def.bd (P:=λb:Bool=>(b=true->e.Kind=5∨e.Kind=2)/\(b=false->e.Kind≠5)) ?_ (λb hb=>?_)
 ·refine Def.c (λh=>Def.s (And.intro (λ_=>.inl (by simpa using h)) (λh=>by cases h))) (λh5=>?_)
  have h5':e.Kind≠5:=by simpa using h5
  refine Def.c (λh=>?_) (λ_=>Def.s (And.intro (λh=>by cases h) (λ_=>h5')))
  exact Def.bd (zGu e he.d he.n) (λ_ _=>Def.s ⟨λ_=>.inr (by simpa using h),λ_=>h5'⟩)
 refine Def.c (λh=>Def.s (λ_=>?_)) (λhbf=>?_)
 ·unfold zGf
  rw [if_pos (hb.1 h)]
  exact ⟨rfl,rfl⟩
 have h5:=hb.2 hbf
 refine Def.bd (xD ms (x9 e ms) (λ_=>True) (λr=>zGf ms e r.1) (by omega) (λi hi=>?_) ?_) (λy hy=>?_)
 ·unfold x9
  refine Def.c (λ_=>?_) (λh=>by have:=dF h;omega)
  refine Def.bd (Def.at' hi) (λx hx=>?_)
  obtain ⟨r,hr,hr2⟩:=zLi x e (by rw [hx];exact hm _ (List.getElem_mem _)) he
  refine Def.bd (P:=λq=>q=r) (Def.of hr rfl) (λq hq=>?_)
  subst hq
  refine Def.c (λh=>Def.s ?_) (λ_=>Def.s ⟨yB (by omega),trivial⟩)
  have h0:=dT h
  show zGf ms e ⟨(i:Int),q⟩
  unfold zGf
  by_cases h2:e.Kind=2
  ·have:=hr2 h2;omega
  ·rw [if_neg (by omega)]
   exact ⟨h0,i,rfl,hi,by rw [<- hx];exact hr⟩
 ·unfold x9
  exact cf (by simp) rfl
 ·cases y with
  | inl b=>exact Def.s (λ_=>hy)
  | inr u=>exact Def.s (λh=>by cases h)
end Go.Proofs.TT
namespace Go.Proofs.TT
open Go Go.Sw
set_option maxRecDepth 100000
theorem zLy:∀ a b:List UInt8,Op.bytesLess a b=true->Lib.compareBytes a b=-1
 | [],[],h=>by cases h
 | [],_ :: _,_=>rfl
 | _ :: _,[],h=>by cases h
 | x :: a,y :: b,h=>by
  simp only [Op.bytesLess,Bool.or_eq_true,Bool.and_eq_true,decide_eq_true_eq,beq_iff_eq] at h
  unfold Lib.compareBytes
  by_cases hxy:x<y
  ·rw [if_pos hxy]
  ·rcases h with h | ⟨rfl,h⟩
   ·exact absurd h hxy
   ·rw [if_neg hxy,if_neg hxy]
    exact zLy a b h
theorem zPr:∀ a:List UInt8,Lib.compareBytes a a=0
 | []=>rfl
 | x :: a=>by
  have hx:¬ x<x:=by rw [UInt8.lt_iff_toNat_lt];omega
  unfold Lib.compareBytes
  rw [if_neg hx,if_neg hx]
  exact zPr a
theorem zS0 {x y:api_Entry} (h:bfr x y=true):ord x y<0:=by
 unfold bfr at h
 unfold ord
 by_cases hr:x.Role=y.Role
 ·rw [if_neg (by simp [hr])] at h
  rw [if_neg (by omega),if_neg (by omega)]
  by_cases hn:x.Name=y.Name
  ·rw [if_neg (by simp [hn])] at h
   rw [hn,zPr]
   by_cases hv:x.Version=y.Version
   ·rw [if_neg (by simp [hv])] at h
    rw [if_neg (by omega),if_neg (by omega),zLy _ _ h]
    decide
   ·rw [if_pos hv] at h
    have:=dT h
    rw [if_pos this]
    simp [fnz]
  ·rw [if_pos hn] at h
   rw [zLy _ _ h]
   simp [fnz]
 ·rw [if_pos hr] at h
  have:=dT h
  rw [if_pos this]
  simp [fnz]
def kL (es:List api_Entry):api_Manifest:=⟨[118],1,0,0,1099511627776,es,[⟨1,[],0,0⟩]⟩
theorem zN8 (es:List api_Entry):MOk (kL es):=by
 intro r hr
 have:r=⟨1,[],0,0⟩:=by simpa [kL] using hr
 rw [this];decide
theorem zB9 (es:List api_Entry) (hn:es.length<=8) (ha:adj es) (he:∀ e∈es,EnOk e):vF (kL es)=some 0:=by
 have hd:Def (vF (kL es)) (λr=>r=0):=by
  unfold vF
  refine Def.bd (P:=λb=>b=true) (Def.of (show xQ [118]=some true by decide +kernel) rfl) (λb hb=>?_)
  subst hb
  refine Def.c (λh=>by cases h) (λ_=>?_)
  refine Def.bd (P:=λb=>b=false) (Def.s rfl) (λb hb=>?_)
  subst hb
  refine Def.c (λh=>by cases h) (λ_=>?_)
  refine Def.bd (P:=λb=>b=false) (Def.c (λh=>by have:=dT h;have e:(kL es).Entries.length=es.length:=rfl;omega) (λ_=>Def.s rfl)) (λb hb=>?_)
  subst hb
  refine Def.c (λh=>by cases h) (λ_=>?_)
  refine Def.bd (xD es (xT (kL es)) (λ_=>True) (λ_=>False) (by omega) (λi hi=>?_) ?_) (λy hy=>?_)
  ·have hE:=he _ (List.getElem_mem hi)
   unfold xT
   refine Def.c (λ_=>?_) (λh=>by have:=dF h;have e:(kL es).Entries.length=es.length:=rfl;omega)
   refine Def.bd (Def.at' (l:=es) hi) (λx hx=>?_)
   rw [<- hx] at hE
   have e1:=hE.r1
   have e2:=hE.r3
   have e3:=hE.v0
   have e4:=hE.v1
   have e5:=hE.d
   refine Def.bd or5 (λb hb=>?_)
   have hbf:b=false:=by
    rw [hb]
    simp only [Bool.or_eq_false_iff,decide_eq_false_iff_not]
    refine ⟨⟨⟨⟨by omega,by omega⟩,by omega⟩,by omega⟩,?_⟩
    rw [e5];rfl
   subst hbf
   refine Def.c (λh=>by cases h) (λ_=>?_)
   refine Def.bd (P:=λb=>b=true) (Def.of hE.n rfl) (λb hb=>?_)
   subst hb
   refine Def.c (λh=>by cases h) (λ_=>?_)
   refine Def.bd (P:=λb=>b=false) ?_ (λb hb=>by subst hb;exact Def.c (λh=>by cases h) (λ_=>Def.s ⟨yB (by omega),trivial⟩))
   refine Def.c (λh0=>?_) (λ_=>Def.s rfl)
   have h0':0<i:=by have:=dT h0;omega
   rw [show IntKind.i64.wrap ((i:Int) - 1)=((i - 1:Nat):Int) by rw [zT (by omega) (by omega)];omega]
   refine Def.bd (Def.at' (l:=es) (show i - 1<es.length by omega)) (λy hy=>?_)
   refine Def.bd (zG0 _ _) (λo ho=>Def.s ?_)
   have hlt:ord y x<0:=by
    have:=zS0 (zI6 ha (i - 1) (by omega))
    rw [hy,hx]
    simpa [show i - 1+1=i by omega] using this
   rw [ho];simp;omega
  ·unfold xT
   exact cf (by show decide ((es.length:Int)<(es.length:Int))=false;simp) rfl
  ·cases y with
   | inl b=>exact hy.elim
   | inr u=>exact Def.of rfl rfl
 obtain ⟨r,h,rfl⟩:=hd
 exact h
theorem zI3 (r:Int) (h1:1<=r) (h4:r<=4):uK r=some (rgR r):=by
 have:r=1∨r=2∨r=3∨r=4:=by omega
 rcases this with rfl | rfl | rfl | rfl<;>rfl
theorem zSp (active:Int) (x:api_Image) (hg:GoodIm x) (h4:x.Role≠4) (ha:yD active 1=true):xY (enI x) (imE active x)=some true:=by
 have r1:=hg.r1
 have r4:=hg.r4
 have v0:=hg.v0
 have v1:=hg.v1
 have nl:=hg.nl
 have hl:=l9 20 x.Version.toNat
 unfold xY
 refine bd (a:=true) ?_ rfl
 refine bd (zI3 x.Role r1 r4) ?_
 refine ct (by show (rgR x.Role==rgR x.Role)=true;simp) ?_
 refine ct rfl ?_
 refine bd (a:=sha (iW x)) ?_ ?_
 ·show some (if (true&&yD active 1)=true then sha (iW x) else [])=_
  rw [if_pos (by simp [ha])]
 refine bd (a:=true) ((hU _ _).trans (by show some (sha (iW x)==sha (iW x))=_;simp)) ?_
 refine ct rfl ?_
 refine bd (ckT (eO (by show x.Name.length+1<=_;omega))) ?_
 refine bd (a:=decF 20 x.Version.toNat) ?_ ?_
 ·unfold strconv_Itoa
  refine ct ?_ rfl
  show (decide (0<=x.Version)&&decide (x.Version<=9223372036854775807))=true
  simp;omega
 refine bd (ckT (eO (by show (x.Name++[32]).length+_<=_;rw [List.length_append,List.length_singleton];omega))) ?_
 show some (lbl x==((x.Name++[32])++decF 20 x.Version.toNat))=_
 unfold lbl
 simp
theorem zOp (active:Int) (es:List api_Entry) (x:api_Image) (hn:es.length<=8) (ha:adj es) (he:∀ e∈es,EnOk e) (hx:enI x∈es) (hg:GoodIm x) (h4:x.Role≠4) (hb:yD active 1=true):Def (xP (kL es) (imE active x)) (λr=>0<=r):=by
 unfold xP
 refine Def.bd (P:=λc=>c=0) (Def.of (zB9 es hn ha he) rfl) (λc hc=>?_)
 subst hc
 refine Def.c (λh=>by cases h) (λ_=>?_)
 refine Def.bd (P:=λj=>∃ k,j=.inl k/\0<=k) ?_ (λj hj=>by obtain ⟨k,rfl,hk⟩:=hj;exact Def.s hk)
 refine Def.c (λ_=>?_) (λh=>by cases h)
 refine Def.bd (P:=λk=>0<=k) ?_ (λk hk=>Def.s ⟨k,rfl,hk⟩)
 unfold yI
 refine Def.bd (xD es (zN es (imE active x)) (λi=>∀ h:i<es.length,xY es[i] (imE active x)=some false) (λk=>0<=k) (by omega) (λi hi=>?_) ?_) (λy hy=>?_)
 ·have hE:=he _ (List.getElem_mem hi)
  unfold zN
  refine Def.c (λ_=>?_) (λh=>by have:=dF h;omega)
  refine Def.bd (Def.at' hi) (λv hv=>?_)
  subst hv
  have hnl:es[i].Name.length<=12:=by
   obtain ⟨b,h1,h2⟩:=aK es[i].Name
   rw [hE.n] at h1
   injection h1 with h1
   exact h2 h1.symm
  obtain ⟨b,hb1,_⟩:=zMs es[i] (imE active x) hE.v0 hE.v1 hnl
  refine Def.bd (P:=λc=>c=b) (Def.of hb1 rfl) (λc hc=>?_)
  subst hc
  refine Def.c (λ_=>Def.s (by show (0:Int)<=(i:Int);omega)) (λh=>Def.s ⟨yB (by omega),λ_=>by rw [hb1,h]⟩)
 ·unfold zN
  exact cf (by simp) rfl
 ·cases y with
  | inl k=>exact Def.s hy
  | inr u=>
   obtain ⟨i,hi,e⟩:=List.mem_iff_getElem.mp hx
   have:=hy i hi hi
   rw [e,zSp active x hg h4 hb] at this
   cases this
theorem zOj (active:Int) (data:List UInt8) (hd:data.length<2 ^ 40) (a:Nat) (ha:a<2):(dgE active true data).getD a []=[]∨yV (a:Int) data=some ((dgE active true data).getD a []):=by
 have:a=0∨a=1:=by omega
 rcases this with rfl | rfl
 ·show (if (true&&yD active 0)=true then o9 data else [])=[]∨yV ((0:Nat):Int) data=some (if (true&&yD active 0)=true then o9 data else [])
  cases yD active 0
  ·exact .inl rfl
  ·exact .inr (zGy data hd)
 ·show (if (true&&yD active 1)=true then sha data else [])=[]∨yV ((1:Nat):Int) data=some (if (true&&yD active 1)=true then sha data else [])
  cases yD active 1
  ·exact .inl rfl
  ·exact .inr (zGw data hd)
theorem zFb (e:api_Event) (active:Int) (hk:(e.Kind=2/\e.Data=[0,0,0,0])∨(e.Kind=3/\zAo e.Data)) (hD:e.Digests=dgE active true e.Data):Def (x6 e) (λb=>b=true):=by
 have hdl:e.Data.length<=8:=by
  rcases hk with ⟨_,h⟩ | ⟨_,h⟩
  ·rw [h];decide
  ·exact h.2.1
 have hl:e.Digests.length=2:=by rw [hD];rfl
 unfold x6
 refine Def.bd (P:=λb=>b=true) ?_ (λb hb=>?_)
 ·refine Def.c (λ_=>Def.s ?_) (λh=>?_)
  ·rcases hk with ⟨h,_⟩ | ⟨h,_⟩<;>rw [h]<;>rfl
  ·rcases hk with ⟨h2,_⟩ | ⟨h2,_⟩<;>rw [h2] at h<;>cases h
 subst hb
 refine Def.bd (P:=λy=>y=.inr ()) ?_ (λy hy=>?_)
 ·rcases hk with ⟨h2,hd⟩ | ⟨h3,hd⟩
  ·rw [h2,hd]
   exact Def.of rfl rfl
  ·rw [h3]
   refine Def.c (λh=>by cases h) (λ_=>Def.c (λh=>by cases h) (λ_=>Def.c (λ_=>?_) (λh=>by cases h)))
   refine Def.c (λh=>by have:=hd.1;simp at h;rw [h] at this;simp at this) (λ_=>?_)
   refine Def.bd (xD e.Data (xG e) (λ_=>True) (λ_=>False) (by omega) (λi hi=>?_) ?_) (λy hy=>?_)
   ·unfold xG
    refine Def.c (λ_=>?_) (λh=>by have:=dF h;omega)
    refine Def.bd (Def.at' hi) (λc hc=>zH1 ?_)
    have:=hd.2.2 c (by rw [hc];exact List.getElem_mem hi)
    rw [show (decide (c.toNat<32)||decide (126<c.toNat))=false by simp;omega]
    exact Def.c (λh=>by cases h) (λ_=>Def.s ⟨yB (by omega),trivial⟩)
   ·unfold xG
    exact cf (by simp) rfl
   ·cases y with
    | inl b=>exact hy.elim
    | inr u=>exact Def.s rfl
 subst hy
 have hif:(if 2<(e.Digests.length:Int) then (2:Int) else (e.Digests.length:Int))=2:=by rw [hl];rfl
 refine Def.bd (xD e.Digests (xI e true) (λ_=>True) (λ_=>False) (by omega) (λi hi=>?_) ?_) (λy hy=>?_)
 ·unfold xI
  rw [hif]
  refine Def.c (λ_=>?_) (λh=>by have:=dF h;omega)
  refine Def.bd (Def.at' hi) (λd hd=>?_)
  have hdd:d=(dgE active true e.Data).getD i []:=by rw [hd];simp only [hD];simp [show i<(dgE active true e.Data).length by rw [<- hD];exact hi]
  refine Def.bd (P:=λb=>b=false) ?_ (λb hb=>by subst hb;exact Def.c (λh=>by cases h) (λ_=>Def.s ⟨yB (by omega),trivial⟩))
  refine Def.c (λhpos=>Def.c (λh=>by cases h) (λ_=>?_)) (λ_=>Def.s rfl)
  rcases zOj active e.Data (by omega) i (by omega) with h | h
  ·rw [<- hdd] at h;rw [h] at hpos;simp at hpos
  ·rw [<- hdd] at h
   refine Def.bd (P:=λs=>s=d) (Def.of h rfl) (λs hs=>?_)
   subst hs
   exact Def.bd (P:=λb=>b=true) (Def.of (hU s s) (by simp)) (λb hb=>Def.s (by rw [hb];rfl))
 ·unfold xI
  rw [hif,hl]
  exact cf rfl rfl
 ·cases y with
  | inl b=>exact hy.elim
  | inr u=>exact Def.s rfl
theorem zKf (active:Int) (es:List api_Entry) (d:List UInt8) (hn:es.length<=8) (ha:adj es) (he:∀ e∈es,EnOk e) (hd:zAo d):Def (xP (kL es) (mkE 9 3 active d)) (λr=>0<=r):=by
 unfold xP
 refine Def.bd (P:=λc=>c=0) (Def.of (zB9 es hn ha he) rfl) (λc hc=>?_)
 subst hc
 refine Def.c (λh=>by cases h) (λ_=>?_)
 refine Def.bd (P:=λj=>∃ k,j=.inl k/\0<=k) ?_ (λj hj=>by obtain ⟨k,rfl,hk⟩:=hj;exact Def.s hk)
 refine Def.c (λh=>by cases h) (λ_=>Def.c (λ_=>?_) (λh=>by cases h))
 refine Def.bd (P:=λb=>b=false) ?_ (λb hb=>?_)
 ·refine Def.bd (P:=λr=>r=9) (Def.of (zI3 4 (by omega) (by omega)) rfl) (λr hr=>?_)
  subst hr
  refine Def.c (λh=>by cases h) (λ_=>?_)
  exact Def.bd (zFb _ active (.inr ⟨rfl,hd⟩) rfl) (λb hb=>Def.s (by rw [hb];rfl))
 subst hb
 refine Def.c (λh=>by cases h) (λ_=>?_)
 refine Def.bd (P:=λk=>k=0) (Def.of rfl rfl) (λk hk=>?_)
 subst hk
 refine Def.c (λ_=>Def.s ⟨_,rfl,?_⟩) (λh=>by cases h)
 show 0<=IntKind.i64.wrap ((es.length:Int)+0)
 rw [zT (by omega) (by omega)]
 omega
end Go.Proofs.TT
namespace Go.Proofs.TT
open Go Go.Sw
set_option maxRecDepth 100000
def stp (w:match_walk) (e:api_Event):Bool×match_walk:=(wM w e).getD (false,w)
def xok (ms:List api_Manifest) (e:api_Event):Bool:=((w8 e ms).getD (⟨0,0⟩,false)).2
def run (ms:List api_Manifest):List api_Event->match_walk->Option match_walk
 | [],w=>some w
 | e :: r,w=>if ((stp w e).1&&xok ms e)=true then run ms r (stp w e).2 else none
theorem cG (ms:List api_Manifest):∀ (a b:List api_Event) (w:match_walk),run ms (a++b) w=(run ms a w).bind (run ms b)
 | [],_,_=>rfl
 | e :: r,b,w=>by
  show (if ((stp w e).1&&xok ms e)=true then run ms (r++b) (stp w e).2 else none)=(if ((stp w e).1&&xok ms e)=true then run ms r (stp w e).2 else none).bind (run ms b)
  split
  ·exact cG ms r b _
  ·rfl
theorem zGb (l:api_Log) (ms:List api_Manifest) (w':match_walk) (hl:l.Events.length<=40) (he:∀ e∈l.Events,EvS e) (hn:ms.length<=5) (hm:∀ m∈ms,MOk m)
  (h:run ms l.Events ⟨0,0,⟨false,false,false,false,false,false⟩⟩=some w') (h4:w'.seen_.a4=true):Def (vY l ms) (λr=>r.2.2=0):=by
 unfold vY
 refine Def.bd (P:=λy=>match y with | .inl _=>False | .inr r=>r.2.2.2.2.2.2.2.1=true) ?_ (λy hy=>?_)
 ·refine Def.loop (λs=>∃ i:Nat,s.2.1=(i:Int)/\i<=l.Events.length/\s.1.length=i/\run ms (l.Events.drop i) ⟨s.2.2.1,s.2.2.2.1,⟨s.2.2.2.2.1,s.2.2.2.2.2.1,s.2.2.2.2.2.2.1,s.2.2.2.2.2.2.2.1,s.2.2.2.2.2.2.2.2.1,s.2.2.2.2.2.2.2.2.2⟩⟩=some w') (λs=>l.Events.length - s.2.1.toNat) (λs hs=>?_) ⟨0,rfl,by omega,rfl,h⟩ (by simp;omega)
  obtain ⟨rs,v,p,nx,s0,s1,s2,s3,s4,s5⟩:=s
  obtain ⟨i,h1,hi,hrl,hg⟩:=hs
  have h1:v=(i:Int):=h1
  subst h1
  have hrl:rs.length=i:=hrl
  have hg:run ms (l.Events.drop i) ⟨p,nx,⟨s0,s1,s2,s3,s4,s5⟩⟩=some w':=hg
  unfold kJ
  refine Def.c (λh=>?_) (λh=>Def.s ?_)
  ·have hi2:i<l.Events.length:=by have:=dT h;omega
   rw [List.drop_eq_getElem_cons hi2] at hg
   refine Def.bd (Def.at' hi2) (λe hev=>?_)
   rw [<- hev] at hg
   obtain ⟨z,hz,_⟩:=zM1 ⟨p,nx,⟨s0,s1,s2,s3,s4,s5⟩⟩ e
   obtain ⟨q,hq,_⟩:=zEd e ms hn hm (by rw [hev];exact he _ (List.getElem_mem _))
   have hsz:stp ⟨p,nx,⟨s0,s1,s2,s3,s4,s5⟩⟩ e=z:=by unfold stp;rw [hz];rfl
   have hxq:xok ms e=q.2:=by unfold xok;rw [hq];rfl
   unfold run at hg
   rw [hsz,hxq] at hg
   by_cases hc:(z.1&&q.2)=true
   ·rw [if_pos hc] at hg
    rw [Bool.and_eq_true] at hc
    refine Def.bd (P:=λr=>r=z) (Def.of hz rfl) (λr hr=>?_)
    subst hr
    refine Def.c (λh=>by rw [hc.1] at h;cases h) (λ_=>?_)
    refine Def.bd (P:=λr=>r=q) (Def.of hq rfl) (λr hr=>?_)
    subst hr
    refine Def.c (λh=>by rw [hc.2] at h;cases h) (λ_=>?_)
    refine Def.bd (Def.app (by simp;omega)) (λo ho=>Def.s ?_)
    rw [yB (by omega)]
    refine ⟨⟨i+1,rfl,by omega,by simp only [ho,List.length_append,List.length_singleton];omega,?_⟩,by simp only [Int.toNat_natCast];omega⟩
    exact hg
   ·rw [if_neg hc] at hg;cases hg
  ·have:i=l.Events.length:=by have:=dF h;omega
   rw [this,List.drop_length] at hg
   injection hg with hg
   rw [<- hg] at h4
   exact h4
 ·match y,hy with
  | .inr (rs,a1,a2,b0,b1,b2,b3,b4,b5),hy=>
   exact Def.c (λh=>by have h5:b4=true:=hy;rw [h5] at h;cases h) (λ_=>Def.s rfl)
theorem zIq (w:match_walk) (e:api_Event) (p:Int) (hp:yS e=some p) (hk:e.Kind≠5) (h15:p=1∨p=2∨p=3∨p=4∨p=5) (c1:w.phase_<=p) (c2:p=1∨w.seen_.a1=true) (c3:p=3->e.Register=w.next_) (c4:3<p->w.next_=8) (n0:0<=w.next_) (n8:w.next_<=8) :
  ∃ w',stp w e=(true,w')/\w'.phase_=p/\w'.next_=(if p=3 then w.next_+1 else w.next_)/\w'.seen_.a1=(w.seen_.a1||p==1)/\w'.seen_.a4=(w.seen_.a4||p==4):=by
 have hd:Def (wM w e) (λr=>r.1=true/\r.2.phase_=p/\r.2.next_=(if p=3 then w.next_+1 else w.next_)/\r.2.seen_.a1=(w.seen_.a1||p==1)/\r.2.seen_.a4=(w.seen_.a4||p==4)):=by
  unfold wM
  refine Def.c (λh=>absurd (by simpa using h) hk) (λ_=>?_)
  refine Def.bd (P:=λq=>q=p) (Def.of hp rfl) (λq hq=>?_)
  subst hq
  refine Def.bd (P:=λb=>b=false) ?_ (λb hb=>?_)
  ·refine Def.c (λh=>by simp at h;omega) (λ_=>Def.c (λh=>by have:=dT h;omega) (λ_=>Def.c (λh=>Def.s ?_) (λ_=>Def.s rfl)))
   have:=dT h
   rcases c2 with c2 | c2
   ·omega
   ·rw [c2];rfl
  subst hb
  refine Def.c (λh=>by cases h) (λ_=>?_)
  refine Def.bd (P:=λb=>b=false) ?_ (λb hb=>?_)
  ·refine Def.c (λh=>Def.s ?_) (λ_=>Def.s rfl)
   rw [c3 (by simpa using h)];simp
  subst hb
  refine Def.c (λh=>by cases h) (λ_=>?_)
  refine Def.bd (P:=λb=>b=false) ?_ (λb hb=>?_)
  ·refine Def.c (λh=>Def.s ?_) (λ_=>Def.s rfl)
   rw [c4 (dT h)];rfl
  subst hb
  refine Def.c (λh=>by cases h) (λ_=>?_)
  refine Def.bd (P:=λn=>n=(if q=3 then w.next_+1 else w.next_)) ?_ (λn hn=>?_)
  ·refine Def.c (λh=>Def.s ?_) (λh=>Def.s ?_)
   ·rw [if_pos (by simpa using h),zT (by omega) (by omega)]
   ·rw [if_neg (by simpa using h)]
  subst hn
  rcases h15 with rfl | rfl | rfl | rfl | rfl<;>exact ⟨_,rfl,rfl,rfl,rfl,by cases w.seen_.a1<;>rfl,by cases w.seen_.a4<;>rfl⟩
 obtain ⟨⟨b,w'⟩,h,rfl,h2⟩:=hd
 exact ⟨w',by unfold stp;rw [h];rfl,h2⟩
theorem dU (ms:List api_Manifest) (p:Int) (hp:p=1∨p=2∨p=4∨p=5):∀ (es:List api_Event) (w:match_walk),(∀ e∈es,yS e=some p/\e.Kind≠5/\xok ms e=true)->w.phase_<=p->(p=1∨w.seen_.a1=true)->(3<p->w.next_=8)->0<=w.next_->w.next_<=8 ->
  ∃ w',run ms es w=some w'/\w'.phase_<=p/\w'.next_=w.next_/\(w.seen_.a1=true∨(p=1/\es≠[])->w'.seen_.a1=true)/\(w.seen_.a4=true∨(p=4/\es≠[])->w'.seen_.a4=true)
 | [],w,_,h1,_,_,_,_=>⟨w,rfl,h1,rfl,λh=>h.resolve_right (λh=>h.2 rfl),λh=>h.resolve_right (λh=>h.2 rfl)⟩
 | e :: r,w,he,h1,h2,h3,n0,n8=>by
  obtain ⟨e1,e2,e3⟩:=he e (List.mem_cons_self ..)
  obtain ⟨w1,s1,s2,s3,s4,s5⟩:=zIq w e p e1 e2 (by omega) h1 h2 (λh=>by omega) h3 n0 n8
  rw [if_neg (by omega)] at s3
  have hs1:w1.seen_.a1=true:=by
   rw [s4]
   rcases h2 with rfl | h2
   ·simp
   ·rw [h2];rfl
  obtain ⟨w',r1,r2,r3,r4,r5⟩:=dU ms p hp r w1 (λx hx=>he x (List.mem_cons_of_mem _ hx)) (by omega) (.inr hs1) (λh=>by rw [s3];exact h3 h) (by omega) (by omega)
  refine ⟨w',?_,r2,by rw [r3,s3],λ_=>r4 (.inl hs1),λh=>r5 (.inl ?_)⟩
  ·show (if ((stp w e).1&&xok ms e)=true then run ms r (stp w e).2 else none)=_
   rw [s1,e3]
   exact r1
  ·rw [s5]
   rcases h with h | ⟨rfl,_⟩
   ·rw [h];rfl
   ·simp
theorem zJh (ms:List api_Manifest) (active:Int) (hx:∀ i:Nat,i<8->xok ms (mkE (i:Int) 2 active [0,0,0,0])=true):∀ (n k:Nat) (w:match_walk),k+n=8->w.next_=(k:Int)->w.phase_<=3->w.seen_.a1=true ->
  ∃ w',run ms ((List.range' k n).map λ(i:Nat)=>mkE (i:Int) 2 active [0,0,0,0]) w=some w'/\w'.phase_<=3/\w'.next_=8/\w'.seen_.a1=true
 | 0,k,w,hk,hn,hp,hs=>⟨w,rfl,hp,by omega,hs⟩
 | n+1,k,w,hk,hn,hp,hs=>by
  have hph:yS (mkE (k:Int) 2 active [0,0,0,0])=some 3:=by
   unfold yS mkE
   refine bd (a:=false) rfl ?_
   refine cf rfl ?_
   refine bd (a:=false) rfl ?_
   refine cf rfl ?_
   refine bd (a:=true) (ct rfl (ct (by simp) (congrArg some (by simp;omega)))) ?_
   rfl
  obtain ⟨w1,s1,s2,s3,s4,s5⟩:=zIq w (mkE (k:Int) 2 active [0,0,0,0]) 3 hph (by show (2:Int)≠5;omega) (by omega) hp (.inr hs) (λ_=>hn.symm) (λh=>by omega) (by omega) (by omega)
  rw [if_pos rfl] at s3
  obtain ⟨w',r1,r2⟩:=zJh ms active hx n (k+1) w1 (by omega) (by omega) (by omega) (by rw [s4,hs];rfl)
  refine ⟨w',?_,r2⟩
  rw [List.range'_succ,List.map_cons]
  show (if ((stp w (mkE (k:Int) 2 active [0,0,0,0])).1&&xok ms (mkE (k:Int) 2 active [0,0,0,0]))=true then run ms _ (stp w (mkE (k:Int) 2 active [0,0,0,0])).2 else none)=_
  rw [s1,hx k (by omega)]
  exact r1
theorem zLl {ms:List api_Manifest} {e:api_Event} (h:Def (w8 e ms) (λr=>r.2=true)):xok ms e=true:=by
 obtain ⟨r,h1,h2⟩:=h
 unfold xok
 rw [h1]
 exact h2
theorem zGj {m:api_Manifest} {e:api_Event} (hk:e.Kind=1∨e.Kind=3) (h:Def (xP m e) (λr=>0<=r)):xok [m] e=true:=by
 refine zLl ?_
 unfold w8
 refine Def.bd (P:=λb=>b=false) ?_ (λb hb=>?_)
 ·refine Def.c (λh=>by simp at h;omega) (λ_=>Def.c (λh=>by simp at h;omega) (λ_=>Def.s rfl))
 subst hb
 refine Def.c (λh=>by cases h) (λ_=>?_)
 refine Def.bd (xD [m] (x9 e [m]) (λ_=>False) (λr=>r.2=true) (by simp) (λi hi=>?_) ?_) (λy hy=>?_)
 ·unfold x9
  have hi0:i=0:=by simpa using hi
  subst hi0
  refine Def.c (λ_=>?_) (λh=>by have:=dF h;simp at this)
  refine Def.bd (P:=λx=>x=m) (Def.s rfl) (λx hx=>?_)
  subst hx
  refine Def.bd h (λq hq=>?_)
  exact Def.c (λ_=>Def.s rfl) (λh=>by have:=dF h;omega)
 ·unfold x9
  exact cf (by simp) rfl
 ·cases y with
  | inl r=>exact Def.s hy
  | inr u=>exact (hy 0 (by simp)).elim
theorem zOb (ms:List api_Manifest) (active:Int) (i:Int):xok ms (mkE i 2 active [0,0,0,0])=true:=by
 refine zLl ?_
 unfold w8
 refine Def.bd (P:=λb=>b=true) ?_ (λb hb=>?_)
 ·refine Def.c (λ_=>Def.s rfl) (λ_=>Def.c (λ_=>?_) (λh=>by cases h))
  exact Def.bd (zFb _ active (.inl ⟨rfl,rfl⟩) rfl) (λb hb=>Def.s hb)
 subst hb
 exact Def.c (λ_=>Def.s rfl) (λh=>by cases h)
theorem zMw (active:Int) (x:api_Image):(x.Role=1->yS (imE active x)=some 1)/\(x.Role=2->yS (imE active x)=some 2)/\(x.Role=3->yS (imE active x)=some 4):=by
 unfold imE
 refine ⟨λh=>?_,λh=>?_,λh=>?_⟩<;>rw [h]<;>rfl
theorem zKj (l:List api_Image) (active:Int) (m:List api_Entry) (hc:GoodCh l) (hn:m.length<=8) (hm:DsOk l m) (hb:yD active 1=true):∃ w',run [kL m] (evs l active) ⟨0,0,⟨false,false,false,false,false,false⟩⟩=some w'/\w'.seen_.a4=true:=by
 have him:∀ (role p:Int),role≠4->(∀ x:api_Image,x.Role=role->yS (imE active x)=some p)->∀ e∈evR active role l,yS e=some p/\e.Kind≠5/\xok [kL m] e=true:=by
  intro role p h4 hp e he
  obtain ⟨x,hx,hr,⟨h,_⟩ | ⟨_,rfl⟩⟩:=zD5 he
  ·exact absurd h h4
  ·exact ⟨hp x hr,by show (1:Int)≠5;omega,zGj (.inl rfl) (zOp active m x hn hm.a hm.e (hm.i x hx (by omega)) (hc.im x hx) (by omega) hb)⟩
 have hne:∀ role:Int,role≠4->(∃ x∈l,x.Role=role)->evR active role l≠[]:=by
  intro role h4 ⟨x,hx,hr⟩ h
  have:imE active x∈evR active role l:=by
   unfold evR
   refine List.mem_flatMap.2 ⟨x,hx,?_⟩
   rw [if_pos hr,if_neg h4]
   exact List.mem_singleton.2 rfl
  rw [h] at this
  cases this
 have hln:∀ e∈evR active 4 l,yS e=some 5/\e.Kind≠5/\xok [kL m] e=true:=by
  intro e he
  obtain ⟨x,hx,hr,⟨_,d,hd,rfl⟩ | ⟨h,_⟩⟩:=zD5 he
  ·exact ⟨rfl,by show (3:Int)≠5;omega,zGj (.inr rfl) (zKf active m d hn hm.a hm.e ((zEp x (hc.im x hx) hr).2.2 d hd))⟩
  ·exact absurd rfl h
 obtain ⟨w1,a1,a2,a3,a4,a5⟩:=dU [kL m] 1 (by omega) (evR active 1 l) ⟨0,0,⟨false,false,false,false,false,false⟩⟩ (him 1 1 (by omega) (λx=>(zMw active x).1)) (by show (0:Int)<=1;omega) (.inl rfl) (λh=>by omega) (by show (0:Int)<=0;omega) (by show (0:Int)<=8;omega)
 have s1:=a4 (.inr ⟨rfl,hne 1 (by omega) hc.h1⟩)
 have n1:w1.next_=0:=a3
 obtain ⟨w2,b1,b2,b3,b4,b5⟩:=dU [kL m] 2 (by omega) (evR active 2 l) w1 (him 2 2 (by omega) (λx=>(zMw active x).2.1)) (by omega) (.inr s1) (λh=>by omega) (by omega) (by omega)
 have s2:=b4 (.inl s1)
 obtain ⟨w3,c1,c2,c3,c4⟩:=zJh [kL m] active (λi _=>zOb _ active i) 8 0 w2 (by omega) (by rw [b3,n1];rfl) (by omega) s2
 obtain ⟨w4,d1,d2,d3,d4,d5⟩:=dU [kL m] 4 (by omega) (evR active 3 l) w3 (him 3 4 (by omega) (λx=>(zMw active x).2.2)) (by omega) (.inr c4) (λ_=>c3) (by omega) (by omega)
 have s4:=d4 (.inl c4)
 have k4:=d5 (.inr ⟨rfl,hne 3 (by omega) hc.h3⟩)
 obtain ⟨w5,e1,e2,e3,e4,e5⟩:=dU [kL m] 5 (by omega) (evR active 4 l) w4 hln (by omega) (.inr s4) (λ_=>by rw [d3,c3]) (by omega) (by omega)
 refine ⟨w5,?_,e5 (.inl k4)⟩
 unfold evs
 have hsep:gA active=(List.range' 0 8).map λ(i:Nat)=>mkE (i:Int) 2 active [0,0,0,0]:=by
  unfold gA
  rw [List.range_eq_range']
 rw [cG,cG,cG,a1,Option.bind_some,b1,Option.bind_some,cG,hsep,c1,Option.bind_some,d1,Option.bind_some,e1]
end Go.Proofs.TT
namespace Go.Proofs.TT
open Go Go.Sw
set_option maxRecDepth 100000
theorem zD9 (x:api_Evidence) (e:api_Enrolled) (a:api_Attest) (l:api_Log) (hp:x.Log=wA l) (h:LgF l) (hac:e.Active=l.Active) (hs:a.Selection=⟨xB l.Active 0,xB l.Active 1⟩) (hd:a.Digest=dgs l.Active (rpl l.Active l.Events)) (hb:yD l.Active 1=true) :
  Def (x8 x e a) (λr=>(l.Resets=a.Resets/\a.Restarts=0->r=(l,0))/\(¬ (l.Resets=a.Resets/\a.Restarts=0)->r.2=12)):=by
 have a1:=h.a1
 have a3:=h.a3
 unfold x8
 refine Def.bd (P:=λs=>s=a.Selection) (Def.of (zNl e.Active (by omega) (by omega)) (by rw [hac,hs])) (λs hs'=>?_)
 subst hs'
 refine Def.c (λh=>by simp at h) (λ_=>?_)
 refine Def.bd (P:=λr=>r=(l,0)) (Def.of (by rw [hp];exact zKb l h) rfl) (λr hr=>?_)
 subst hr
 refine Def.c (λh=>by cases h) (λ_=>?_)
 refine Def.bd (P:=λb=>b=false) ?_ (λb hbb=>?_)
 ·refine Def.c (λh=>by simp at h;omega) (λ_=>Def.s ?_)
  have:yQ .i64 (zU .i64 l.Active 1) 1=1:=by
   have e:IntKind.u64.wrap 1=1:=by decide
   unfold yD at hb
   rw [e] at hb
   simpa using hb
  rw [this];rfl
 subst hbb
 refine Def.c (λh=>by cases h) (λ_=>?_)
 refine Def.bd (P:=λb=>b=true↔¬ (l.Resets=a.Resets/\a.Restarts=0)) ?_ (λb hbb=>?_)
 ·refine Def.c (λh=>Def.s ⟨λ_ h2=>?_,λ_=>rfl⟩) (λh=>Def.s ?_)
  ·rw [h2.1] at h;simp at h
  ·have h':l.Resets=a.Resets:=by simpa using h
   rw [bne_iff_ne]
   exact ⟨λh1 h2=>h1 h2.2,λh1 h2=>h1 ⟨h',h2⟩⟩
 refine Def.c (λh=>Def.s ⟨λh2=>absurd h2 (hbb.1 h),λ_=>rfl⟩) (λhbf=>?_)
 have hok:l.Resets=a.Resets/\a.Restarts=0:=by
  by_cases hc:l.Resets=a.Resets/\a.Restarts=0
  ·exact hc
  ·rw [hbb.2 hc] at hbf;cases hbf
 refine Def.bd (P:=λr=>r=(a.Digest,0)) (Def.of (by rw [hs];exact zEj l h.toLgGood a1 a3) (by rw [hd])) (λr hr=>?_)
 subst hr
 refine Def.c (λh=>by cases h) (λ_=>?_)
 refine Def.bd (P:=λb=>b=true) (Def.of (hU _ _) (by simp)) (λb hb=>?_)
 subst hb
 exact Def.c (λh=>by cases h) (λ_=>Def.s ⟨λ_=>rfl,λh=>absurd hok h⟩)
theorem zNw (x:api_Evidence) (keys:List api_Public) (n:List UInt8) (a:api_Attest) (h:qf x.Attest x.Signature keys 17=(some a,0)):qt x keys n=if a.Nonce=nnc n x.Machine x.Log then (a,0) else (oW,45):=by
 unfold qt
 rw [h]
theorem zOt (im:List api_Image) (m:List api_Entry) (l:api_Log) (x:api_Evidence) (e:api_Enrolled) (n:List UInt8) (a:api_Attest) (hc:GoodCh im) (hmn:m.length<=8) (hmd:DsOk im m) (hev:l.Events=evs im l.Active)
  (hm:x.Machine=e.Machine) (hx:EvOk x e.Quoting n) (hq:qf x.Attest x.Signature e.Quoting 17=(some a,0)) (hn:a.Nonce=nnc n x.Machine x.Log) (hp:x.Log=wA l) (h:LgF l) (hac:e.Active=l.Active)
  (hs:a.Selection=⟨xB l.Active 0,xB l.Active 1⟩) (hd:a.Digest=dgs l.Active (rpl l.Active l.Events)) (hb:yD l.Active 1=true) :
  Def (yC x e n [kL m]) (λv=>(l.Resets=a.Resets/\a.Restarts=0->v.Err=0)/\(¬ (l.Resets=a.Resets/\a.Restarts=0)->v.Err=12)):=by
 unfold yC
 refine Def.c (λh=>by rw [hm] at h;simp at h) (λ_=>?_)
 refine Def.bd (P:=λr=>r=(a,0)) (Def.of (gY x e.Quoting n hx) (by rw [zNw _ _ _ _ hq,if_pos hn])) (λr hr=>?_)
 subst hr
 refine Def.c (λh=>by cases h) (λ_=>?_)
 refine Def.bd (zD9 x e a l hp h hac hs hd hb) (λr hr=>?_)
 by_cases hok:l.Resets=a.Resets/\a.Restarts=0
 ·have hr':=hr.1 hok
  subst hr'
  refine Def.c (λh=>by cases h) (λ_=>?_)
  obtain ⟨w',hw,hk⟩:=zKj im l.Active m hc hmn hmd hb
  rw [<- hev] at hw
  refine Def.bd (zGb l [kL m] w' h.n (λev he=>(h.ev ev he).toEvGood.s) (by simp) (λq hq=>by rw [List.mem_singleton.1 hq];exact zN8 m) hw hk) (λr hr=>?_)
  obtain ⟨rs,at',er⟩:=r
  have hr:er=0:=hr
  subst hr
  exact Def.c (λh=>by cases h) (λ_=>Def.s ⟨λ_=>rfl,λh=>absurd hok h⟩)
 ·have hr':=hr.2 hok
  refine Def.c (λ_=>Def.s ⟨λh=>absurd h hok,λ_=>hr'⟩) (λh=>by rw [hr'] at h;cases h)
theorem zHp (n:Int):Def (mW n) (λr=>(r=2∨r=3)):=by
 unfold mW
 refine Def.bd (zA4 n 2 (by decide) (by decide)) (λk hk=>Def.s ?_)
 rw [zT (by omega) (by omega)]
 omega
theorem zLs {a:Int} (h:a=2∨a=3):yD a 1=true:=by
 rcases h with rfl | rfl<;>decide +kernel
theorem zJq (hw:o0=some true) (chain:List UInt8) (active machine resets restarts:Int):wS chain active machine resets restarts=some true:=by
 have hd:Def (wS chain active machine resets restarts) (λr=>r=true):=by
  unfold wS
  refine Def.bd (P:=λb=>b=true) (Def.of hw rfl) (λb hb=>?_)
  subst hb
  refine Def.c (λh=>by cases h) (λ_=>?_)
  refine Def.bd (zA4 machine 4 (by decide) (by decide)) (λmm _=>?_)
  generalize IntKind.i64.wrap (1+mm)=M
  refine Def.bd (zJ7 chain) (λim him=>?_)
  refine Def.bd (zHp active) (λac hac=>?_)
  refine Def.bd (zA4 resets 5 (by decide) (by decide)) (λr hr=>?_)
  refine Def.bd (zA4 restarts 3 (by decide) (by decide)) (λs hs=>?_)
  refine Def.bd (P:=λev=>ev=evs im ac) (Def.of (zJ8 im ac him (by omega) (by omega)) rfl) (λev hev=>?_)
  subst hev
  have hL:=zKc (active:=ac) (l:=im) 2 (by omega) (by omega) him (by omega) (by omega)
  refine Def.bd (P:=λa=>a=hq ⟨ac,2,evs im ac⟩ M (IntKind.i64.wrap (2*M)) [99]) (Def.of (zTe _ _ _ _ hL (by decide)) rfl) (λa ha=>?_)
  subst ha
  refine Def.bd (zEw [118] 1 im him) (λmd hmd=>?_)
  obtain ⟨hmd1,hmd2,hmd3⟩:=hmd
  have hQ:=zTu ⟨ac,2,evs im ac⟩ M (IntKind.i64.wrap (2*M)) [99] hL r s hr.1 (by omega) hs.1 (by omega)
  refine Def.bd (P:=λx=>x=zMg ⟨ac,2,evs im ac⟩ M (IntKind.i64.wrap (2*M)) 1 { hq ⟨ac,2,evs im ac⟩ M (IntKind.i64.wrap (2*M)) [99] with Resets:=r,Restarts:=s }) (Def.of (zRh ⟨ac,2,evs im ac⟩ M (IntKind.i64.wrap (2*M)) 1 _ hL (by omega) hQ) rfl) (λx hx=>?_)
  subst hx
  refine Def.bd (zQy M ac) (λen hen=>?_)
  obtain ⟨en1,en2,en3⟩:=hen
  have hman:(⟨md.Vendor,md.Version,md.Floor,md.From,md.Until,md.Entries,[⟨1,[],0,0⟩]⟩:api_Manifest)=kL md.Entries:=by
   rw [hmd1];rfl
  rw [hman]
  refine Def.bd (zOt im md.Entries ⟨ac,2,evs im ac⟩ _ _ [99] { hq ⟨ac,2,evs im ac⟩ M (IntKind.i64.wrap (2*M)) [99] with Resets:=r,Restarts:=s } him hmd2 hmd3 rfl ?_ ?_ ?_ rfl rfl hL ?_ rfl rfl (zLs hac)) (λv hv=>?_)
  ·show M=en.Machine
   exact en1.symm
  ·show EvOk _ en.Quoting _
   rw [en3]
   exact zPw _ _ _ _ _ hL.toLgGood hQ _ _ (by decide)
  ·show qf _ _ en.Quoting 17=_
   rw [en3]
   exact zRt _ _ _ _ _ (by omega) hQ rfl _ _
  ·show en.Active=ac
   exact en2
  obtain ⟨v1,v2⟩:=hv
  have v1:(2:Int)=r/\s=0->v.Err=0:=v1
  have v2:¬ ((2:Int)=r/\s=0)->v.Err=12:=v2
  refine Def.bd (P:=λb=>b=true↔((2:Int)=r/\s=0)) ?_ (λb hb=>?_)
  ·refine Def.c (λh=>Def.s ?_) (λh=>Def.s ?_)
   ·have h':r=2:=by simpa using h
    rw [beq_iff_eq]
    exact ⟨λh=>⟨h'.symm,h⟩,λh=>h.2⟩
   ·have h':r≠2:=by simpa using h
    exact ⟨λh=>(by cases h),λh=>absurd h.1.symm h'⟩
  refine Def.c (λh=>Def.s ?_) (λh=>Def.s ?_)
  ·rw [v1 (hb.1 h)];rfl
  ·rw [v2 (λh2=>by rw [hb.2 h2] at h;cases h)];rfl
 obtain ⟨r,e,rfl⟩:=hd
 exact e
end Go.Proofs.TT
namespace Go.Proofs.TT
open Go Go.Sw
set_option maxRecDepth 100000
def imgs:List api_Image:=[api_Image.mk 1 ([102]:List UInt8) 0 [],api_Image.mk 3 ([107]:List UInt8) 0 []]
def EVS:List api_Event:=[⟨0,1,[[],[211,177,79,226,54,204,147,174,61,228,238,4,167,67,79,4,75,48,122,2,57,203,128,14,59,202,123,49,246,110,67,158]],[102,32,48]⟩,
 ⟨0,2,[[],[223,63,97,152,4,169,47,219,64,87,25,45,196,61,215,72,234,119,138,220,82,188,73,140,232,5,36,192,20,184,17,25]],[0,0,0,0]⟩,
 ⟨1,2,[[],[223,63,97,152,4,169,47,219,64,87,25,45,196,61,215,72,234,119,138,220,82,188,73,140,232,5,36,192,20,184,17,25]],[0,0,0,0]⟩,
 ⟨2,2,[[],[223,63,97,152,4,169,47,219,64,87,25,45,196,61,215,72,234,119,138,220,82,188,73,140,232,5,36,192,20,184,17,25]],[0,0,0,0]⟩,
 ⟨3,2,[[],[223,63,97,152,4,169,47,219,64,87,25,45,196,61,215,72,234,119,138,220,82,188,73,140,232,5,36,192,20,184,17,25]],[0,0,0,0]⟩,
 ⟨4,2,[[],[223,63,97,152,4,169,47,219,64,87,25,45,196,61,215,72,234,119,138,220,82,188,73,140,232,5,36,192,20,184,17,25]],[0,0,0,0]⟩,
 ⟨5,2,[[],[223,63,97,152,4,169,47,219,64,87,25,45,196,61,215,72,234,119,138,220,82,188,73,140,232,5,36,192,20,184,17,25]],[0,0,0,0]⟩,
 ⟨6,2,[[],[223,63,97,152,4,169,47,219,64,87,25,45,196,61,215,72,234,119,138,220,82,188,73,140,232,5,36,192,20,184,17,25]],[0,0,0,0]⟩,
 ⟨7,2,[[],[223,63,97,152,4,169,47,219,64,87,25,45,196,61,215,72,234,119,138,220,82,188,73,140,232,5,36,192,20,184,17,25]],[0,0,0,0]⟩,
 ⟨8,1,[[],[4,112,127,2,184,245,98,45,100,85,58,34,70,111,198,201,250,24,60,234,60,72,73,122,62,127,169,182,2,31,99,126]],[107,32,48]⟩]
def MAN:api_Manifest:=⟨[118],1,0,0,1099511627776,[⟨1,[102],0,[211,177,79,226,54,204,147,174,61,228,238,4,167,67,79,4,75,48,122,2,57,203,128,14,59,202,123,49,246,110,67,158]⟩,⟨3,[107],0,[4,112,127,2,184,245,98,45,100,85,58,34,70,111,198,201,250,24,60,234,60,72,73,122,62,127,169,182,2,31,99,126]⟩],[]⟩
def zHn:List UInt8:=[83,87,76,49,2,0,0,0,0,0,1,0,43,0,1,0,0,0,32,211,177,79,226,54,204,147,174,61,228,238,4,167,67,79,4,75,48,122,2,57,203,128,14,59,202,123,49,246,110,67,158,0,3,102,32,48,0,44,0,2,0,0,0,32,223,63,97,152,4,169,47,219,64,87,25,45,196,61,215,72,234,119,138,220,82,188,73,140,232,5,36,192,20,184,17,25,0,4,0,0,0,0,0,44,1,2,0,0,0,32,223,63,97,152,4,169,47,219,64,87,25,45,196,61,215,72,234,119,138,220,82,188,73,140,232,5,36,192,20,184,17,25,0,4,0,0,0,0,0,44,2,2,0,0,0,32,223,63,97,152,4,169,47,219,64,87,25,45,196,61,215,72,234,119,138,220,82,188,73,140,232,5,36,192,20,184,17,25,0,4,0,0,0,0,0,44,3,2,0,0,0,32,223,63,97,152,4,169,47,219,64,87,25,45,196,61,215,72,234,119,138,220,82,188,73,140,232,5,36,192,20,184,17,25,0,4,0,0,0,0,0,44,4,2,0,0,0,32,223,63,97,152,4,169,47,219,64,87,25,45,196,61,215,72,234,119,138,220,82,188,73,140,232,5,36,192,20,184,17,25,0,4,0,0,0,0,0,44,5,2,0,0,0,32,223,63,97,152,4,169,47,219,64,87,25,45,196,61,215,72,234,119,138,220,82,188,73,140,232,5,36,192,20,184,17,25,0,4,0,0,0,0,0,44,6,2,0,0,0,32,223,63,97,152,4,169,47,219,64,87,25,45,196,61,215,72,234,119,138,220,82,188,73,140,232,5,36,192,20,184,17,25,0,4,0,0,0,0,0,44,7,2,0,0,0,32,223,63,97,152,4,169,47,219,64,87,25,45,196,61,215,72,234,119,138,220,82,188,73,140,232,5,36,192,20,184,17,25,0,4,0,0,0,0,0,43,8,1,0,0,0,32,4,112,127,2,184,245,98,45,100,85,58,34,70,111,198,201,250,24,60,234,60,72,73,122,62,127,169,182,2,31,99,126,0,3,107,32,48]
def DG:List UInt8:=[107,24,16,72,110,26,24,42,233,226,179,161,104,68,80,217,233,164,128,62,21,161,146,123,57,66,240,165,96,204,39,14]
def N1:List UInt8:=[140,181,205,201,129,106,124,62,142,219,165,218,199,100,206,206,254,73,226,85,181,60,190,81,208,251,183,65,83,101,193,19]
def N2:List UInt8:=[117,120,106,21,132,68,244,210,198,122,150,64,213,173,103,209,198,231,127,216,186,17,22,121,0,70,203,147,87,7,205,26]
theorem zUg:sB imgs 2=some EVS:=by decide +kernel
theorem zSf:uF [118] 1 imgs=some MAN:=by decide +kernel
theorem zM3:uW ⟨2,1,EVS⟩=some (zHn,0):=by decide +kernel
theorem zMj:tS zHn=some (⟨2,1,EVS⟩,0):=by decide +kernel
theorem zR3:vY ⟨2,1,EVS⟩ []=some ([],0,47):=by decide +kernel
theorem zUp:(vY ⟨2,1,EVS⟩ [MAN]).map (λr=>(r.1.length,r.2.2))=some (10,0):=by decide +kernel
end Go.Proofs.TT
namespace Go.Proofs.TT
open Go Go.Sw
set_option maxRecDepth 100000
theorem zPb:nnc [110] 2 zHn=N1:=by decide +kernel
theorem zVm:nnc [109] 2 zHn=N2:=by decide +kernel
theorem zTd:vC ⟨2,1,EVS⟩ ⟨0,4095⟩=some (DG,0):=by decide +kernel
theorem zWm:sZ ⟨2,1,EVS⟩ ⟨0,4095⟩=some (DG,0):=by decide +kernel
end Go.Proofs.TT
namespace Go.Proofs.TT
open Go Go.Sw
set_option maxRecDepth 100000
def qa (K:List UInt8):api_Attest:=⟨K,N1,1,0,17,false,10,⟨0,4095⟩,DG⟩
def qb (K:List UInt8):List UInt8:=qbA (qa K)
theorem zR4 (K:List UInt8) (h:K.length=32):QaOk (qa K):=⟨h,rfl,rfl,rfl,(by show (0:Int)<=1/\(1:Int)<2 ^ 62;decide),(by show (0:Int)<=0/\(0:Int)<2 ^ 62;decide),(by show (0:Int)<=17/\(17:Int)<2 ^ 62;decide),(by show (0:Int)<=10/\(10:Int)<2 ^ 62;decide),(by show (0:Int)<=0/\(0:Int)<=65535;decide),(by show (0:Int)<=4095/\(4095:Int)<=65535;decide)⟩
theorem qdec (K:List UInt8) (h:K.length=32):att (qb K)=(qa K,0):=zPu _ (zR4 K h)
theorem qenc (K:List UInt8) (h:K.length=32):qF (qa K)=some (qb K):=zPt _ (zR4 K h)
end Go.Proofs.TT
namespace Go.Proofs.TT
open Go Go.Sw
set_option maxRecDepth 100000
def enr:api_Enrolled:=⟨2,2,[kq 4,kq 5],⟨[],sha [112,u8 2],[]⟩,⟨1,3,0,[],List.replicate 32 0⟩⟩
theorem zFj:vW 2 2=some enr:=by
 unfold vW
 refine bd (p8 4) ?_
 refine bd (p8 5) ?_
 refine bd (gV _ (by simp)) ?_
 refine bd (a:=32) rfl ?_
 refine bd (ckT rfl) ?_
 refine bd (ckT rfl) ?_
 rfl
def KN:List UInt8:=nm (kq 4)
theorem zE2:KN.length=32:=aF _ _
def evd:api_Evidence:=⟨2,qb KN,iP (sha [113,u8 4]) 0 (qb KN),zHn⟩
theorem wQ:rN ⟨2,1,EVS⟩ 2 4 [110]=some (qa KN):=by
 unfold rN
 refine bd zM3 ?_
 refine bd sel2 ?_
 refine bd zTd ?_
 refine bd (a:=DG) (cf rfl rfl) ?_
 refine bd (p8 4) ?_
 refine bd (zAa (kq 4)) ?_
 refine bd ((zDk [110] 2 zHn (by decide) (by decide)).trans (congrArg some zPb)) ?_
 rfl
theorem zNd (K:List UInt8) (h:K.length=32):(qb K).length=141:=zEq _ (zR4 K h)
theorem wE:v7 ⟨2,1,EVS⟩ 2 4 0 (qa KN)=some evd:=by
 unfold v7
 refine bd zM3 ?_
 refine bd (qenc KN zE2) ?_
 refine bd (bY 4) ?_
 have hq:=zNd KN zE2
 refine bd (a:=iP (sha [113,u8 4]) 0 (qb KN)) ?_ rfl
 rw [show yQ .i64 0 1=((0:Nat):Int) from rfl]
 exact zDv _ 0 _ (by rw [sF];decide) (by omega) (by omega)
theorem wG:gW ⟨2,1,EVS⟩ 2 [110]=some evd:=by
 unfold gW
 rw [show IntKind.i64.wrap (2*2)=4 from rfl]
 refine bd wQ ?_
 exact bd wE rfl
theorem wV:vq (kq 4) (qb KN) (iP (sha [113,u8 4]) 0 (qb KN))=(qa KN,0,0):=zPn 4 0 (qb KN) (qa KN) (by omega) (qdec KN zE2) rfl
theorem wqf (r:List api_Public):qf evd.Attest evd.Signature (kq 4 :: r) 17=(some (qa KN),0):=by
 show qf (qb KN) (iP (sha [113,u8 4]) 0 (qb KN)) (kq 4 :: r) 17=_
 unfold qf
 rw [wV]
 rfl
theorem zP7 (n:List UInt8) (hn:n.length<2 ^ 30):EvOk evd [kq 4,kq 5] n:=by
 refine ⟨?_,?_,by decide,hn,by decide,λp hp=>?_⟩
 ·show (qb KN).length<_
  rw [zNd KN zE2];decide
 ·show (iP (sha [113,u8 4]) 0 (qb KN)).length<_
  rw [zFy _ _ _ (by rw [sF];decide)];decide
 ·simp only [List.mem_cons,List.not_mem_nil,or_false] at hp
  rcases hp with rfl | rfl
  ·show (zEz _).length<_
   rw [gM];decide
  ·show (zEz _).length<_
   rw [gM];decide
theorem zR6 (x:api_Evidence) (keys:List api_Public) (n:List UInt8) (a:api_Attest) (h:qf x.Attest x.Signature keys 17=(some a,0)) (hn:a.Nonce=nnc n x.Machine x.Log):qt x keys n=(a,0):=by
 unfold qt
 rw [h]
 exact if_pos hn
theorem zUj (x:api_Evidence) (keys:List api_Public) (n:List UInt8) (a:api_Attest) (h:qf x.Attest x.Signature keys 17=(some a,0)) (hn:¬ a.Nonce=nnc n x.Machine x.Log):qt x keys n=(oW,45):=by
 unfold qt
 rw [h]
 exact if_neg hn
theorem n12:¬ N1=N2:=by decide
theorem nn1:(qa KN).Nonce=nnc [110] evd.Machine evd.Log:=zPb.symm
theorem nn2:¬ (qa KN).Nonce=nnc [109] evd.Machine evd.Log:=λe=>n12 ((show N1=nnc [109] 2 zHn from e).trans zVm)
theorem wq1:qt evd [kq 4,kq 5] [110]=(qa KN,0):=zR6 _ _ _ _ (wqf [kq 5]) nn1
theorem wq2:qt evd [kq 4,kq 5] [109]=(oW,45):=zUj _ _ _ _ (wqf [kq 5]) nn2
theorem zPx:xA 2=some ⟨0,4095⟩:=by decide +kernel
def zLn:api_Enrolled:=⟨2,2,[kq 4,kq 5],⟨[],sha [112,u8 2],[]⟩,⟨1,3,0,[],List.replicate 32 0⟩⟩
theorem wX:x8 evd zLn (qa KN)=some (⟨2,1,EVS⟩,0):=by
 unfold x8
 refine bd (show xA zLn.Active=some ⟨0,4095⟩ from zPx) ?_
 refine cf rfl ?_
 refine bd zMj ?_
 refine cf rfl ?_
 refine bd (a:=false) rfl ?_
 refine cf rfl ?_
 refine bd (a:=false) rfl ?_
 refine cf rfl ?_
 refine bd zWm ?_
 refine cf rfl ?_
 refine bd (a:=true) ((hU DG DG).trans (by simp)) ?_
 exact cf rfl rfl
theorem wA1:Def (yC evd zLn [110] [MAN]) (λv=>v.Err=0/\v.Reasons.length=10/\v.Clock=17):=by
 unfold yC
 refine Def.c (λh=>by cases h) (λ_=>?_)
 refine Def.bd (P:=λr=>r=(qa KN,0)) (Def.of (gY evd [kq 4,kq 5] [110] (zP7 _ (by decide))) wq1) (λr hr=>?_)
 subst hr
 refine Def.c (λh=>by cases h) (λ_=>?_)
 refine Def.bd (P:=λr=>r=(⟨2,1,EVS⟩,0)) (Def.of wX rfl) (λr hr=>?_)
 subst hr
 refine Def.c (λh=>by cases h) (λ_=>?_)
 have hx:=zUp
 refine Def.bd (P:=λr=>r.1.length=10/\r.2.2=0) ?_ (λr hr=>?_)
 ·cases hm:vY ⟨2,1,EVS⟩ [MAN] with
  | none=>rw [hm] at hx;cases hx
  | some r=>
   rw [hm] at hx
   simp only [Option.map_some,Option.some.injEq,Prod.mk.injEq] at hx
   exact Def.s hx
 obtain ⟨rs,a,b⟩:=r
 obtain ⟨h1,h2⟩:=hr
 simp only at h1 h2
 subst h2
 exact Def.c (λh=>by cases h) (λ_=>Def.s ⟨rfl,h1,rfl⟩)
theorem wA2:Def (yC evd zLn [109] [MAN]) (λv=>v.Err=45):=by
 unfold yC
 refine Def.c (λh=>by cases h) (λ_=>?_)
 refine Def.bd (P:=λr=>r=(oW,45)) (Def.of (gY evd [kq 4,kq 5] [109] (zP7 _ (by decide))) wq2) (λr hr=>?_)
 subst hr
 exact Def.c (λ_=>Def.s rfl) (λh=>by cases h)
theorem wA3:Def (yC evd zLn [110] []) (λv=>v.Err=47):=by
 unfold yC
 refine Def.c (λh=>by cases h) (λ_=>?_)
 refine Def.bd (P:=λr=>r=(qa KN,0)) (Def.of (gY evd [kq 4,kq 5] [110] (zP7 _ (by decide))) wq1) (λr hr=>?_)
 subst hr
 refine Def.c (λh=>by cases h) (λ_=>?_)
 refine Def.bd (P:=λr=>r=(⟨2,1,EVS⟩,0)) (Def.of wX rfl) (λr hr=>?_)
 subst hr
 refine Def.c (λh=>by cases h) (λ_=>?_)
 refine Def.bd (P:=λr=>r=([],0,47)) (Def.of zR3 rfl) (λr hr=>?_)
 subst hr
 exact Def.c (λ_=>Def.s rfl) (λh=>by cases h)
theorem zLe:o0=some true:=by
 obtain ⟨v1,a1,a2,a3,a4⟩:=wA1
 obtain ⟨v2,b1,b2⟩:=wA2
 obtain ⟨v3,c1,c2⟩:=wA3
 unfold o0
 refine bd zUg ?_
 refine bd zSf ?_
 refine bd zFj ?_
 refine bd wG ?_
 refine bd (a:=v1) a1 ?_
 refine bd (a:=true) ?_ rfl
 refine ct (by rw [a2];rfl) ?_
 refine ct (by rw [a3];rfl) ?_
 refine ct (by rw [a4];rfl) ?_
 refine bd (a:=v2) b1 ?_
 refine ct (by rw [b2];rfl) ?_
 refine bd (a:=v3) c1 ?_
 rw [c2]
 rfl
end Go.Proofs.TT
namespace Go.Proofs.TT
theorem eS (chain:List UInt8) (active machine resets restarts:Int):wS chain active machine resets restarts=some true:=zJq zLe chain active machine resets restarts
end Go.Proofs.TT
