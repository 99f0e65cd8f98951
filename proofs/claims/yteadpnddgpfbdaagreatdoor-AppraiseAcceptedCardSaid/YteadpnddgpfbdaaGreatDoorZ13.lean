/- AppraiseAccepted (law 37: what an accepted verdict means) is proved for every input, under no condition of ours; this text is a part of that proof. -/
import Derived.Test.YteadpnddgpfbdaaGreatDoorZ12
set_option linter.all false
namespace Go.Proofs.TT
open Go Go.Sw
set_option maxRecDepth 100000
def wS (c:sealwrightdraw_Codes):Prop:=c.B.length<=240/\0<=c.At/\c.At<=c.B.length
theorem aY (b:List UInt8) (n:Int) (h0:0<=n) (h:n<=240):Def (oY b n) wS:=by
 unfold oY
 refine Def.bd (P:=λr=>r.length<=240) ?_ (λr hr=>Def.s ⟨hr,Int.le_refl 0,by simp⟩)
 refine Def.c (λhl=>?_) (λhl=>Def.s ?_)
 ·rw [decide_eq_true_iff] at hl
  refine Def.bd (Def.sub (by decide) h0 (by omega)) (λx hx=>Def.s ?_)
  rw [hx];simp;omega
 ·rw [decide_eq_false_iff_not] at hl
  omega
theorem zN (c:sealwrightdraw_Codes) (n:Int) (hc:wS c) (hn:0<n):Def (zC c n) (λr=>0<=r.1/\r.1<n/\wS r.2):=by
 obtain ⟨h1,h2,h3⟩:=hc
 unfold zC
 refine Def.c (λh=>Def.s ⟨Int.le_refl 0,hn,h1,h2,h3⟩) (λh=>?_)
 rw [decide_eq_false_iff_not] at h
 rw [zS (n:=c.At+1) (by omega) (by omega),zS (n:=c.At+1 - 1) (by omega) (by omega)]
 refine Def.bd (Def.idx (by omega) (by omega)) (λv _=>?_)
 refine Def.bd (Def.ck (by simp;omega)) (λ_ _=>?_)
 refine Def.s ?_
 rw [wb]
 refine ⟨?_,?_,h1,by simp only;omega,by simp only;omega⟩
 ·rw [Int.tmod_eq_emod_of_nonneg (by omega)];exact Int.emod_nonneg _ (by omega)
 ·rw [Int.tmod_eq_emod_of_nonneg (by omega)];exact Int.emod_lt_of_pos _ hn
def zHc (l:List UInt8):Prop:=1<=l.length/\l.length<=8/\∀ x∈l,32<=x.toNat/\x.toNat<=126
theorem zDq (c:sealwrightdraw_Codes) (hc:wS c):Def (w9 c) (λr=>zHc r.1/\wS r.2):=by
 unfold w9
 refine Def.bd (zN c 6 hc (by decide)) (λr hr=>?_)
 obtain ⟨v,x⟩:=r
 obtain ⟨h0,h1,h2⟩:=hr
 simp only at h0 h1 h2
 refine Def.bd (Def.ixN h0 (by show _<((6:Nat):Int);omega)) (λj hj=>?_)
 refine Def.bd (Def.at (by have:=hj.2;simpa using this)) (λl hl=>?_)
 have hl':zHc l:=by
  simp only [List.mem_cons,List.not_mem_nil,or_false] at hl
  rcases hl with rfl | rfl | rfl | rfl | rfl | rfl<;>(unfold zHc;decide)
 refine Def.bd (Def.ck (cV (by have:=hl'.2.1;omega))) (λ_ _=>?_)
 exact Def.s ⟨hl',h2⟩
def zAe (L:List (List UInt8)):List UInt8:=L.flatMap λl=>l++[10]
theorem kT (L:List (List UInt8)) (h:∀ l∈L,zHc l):(zAe L).length<=9*L.length:=by
 induction L with
 | nil=>simp [zAe]
 | cons a r ih=>
  have h1:=(h a (by simp)).2.1
  have h2:=ih (λl hl=>h l (by simp [hl]))
  simp only [zAe,List.flatMap_cons,List.length_append,List.length_cons,List.length_nil] at h2 ⊢
  omega
theorem zF6 (c:sealwrightdraw_Codes) (hc:wS c):Def (uO c) (λr=>(∃ L,r.1=zAe L/\1<=L.length/\L.length<=4/\∀ l∈L,zHc l)/\wS r.2):=by
 unfold uO
 refine Def.bd (zN c 4 hc (by decide)) (λr hr=>?_)
 obtain ⟨v,x⟩:=r
 obtain ⟨h0,h1,h2⟩:=hr
 simp only at h0 h1 h2
 refine Def.bd (P:=λr=>(∃ L,r.1=zAe L/\1<=L.length/\L.length<=4/\∀ l∈L,zHc l)/\wS ⟨r.2.1,r.2.2⟩) ?_ (λr hr=>Def.s hr)
 refine Def.loop (λs=>(∃ L,s.1=zAe L/\(L.length:Int)+s.2.1=1+v/\∀ l∈L,zHc l)/\0<=s.2.1/\wS ⟨s.2.2.1,s.2.2.2⟩) (λs=>s.2.1.toNat) (λs hs=>?_) ?_ ?_
 ·obtain ⟨b,n,B,A⟩:=s
  obtain ⟨⟨L,g1,g2,g3⟩,g4,g5⟩:=hs
  simp only at g1 g2 g4 g5
  have hfl:=kT L g3
  unfold pQ
  refine Def.c (λh=>?_) (λh=>Def.s ?_)
  ·rw [decide_eq_true_iff] at h
   refine Def.bd (zDq _ g5) (λr hr=>?_)
   obtain ⟨l,y⟩:=r
   obtain ⟨k1,k2⟩:=hr
   simp only at k1 k2
   refine Def.bd (Def.app (by have:=k1.2.1;rw [g1];omega)) (λb1 hb1=>?_)
   refine Def.bd (Def.app (by have:=k1.2.1;rw [hb1,g1];simp;omega)) (λb2 hb2=>Def.s ?_)
   rw [zS (by omega) (by omega)]
   refine ⟨⟨⟨L++[l],?_,by simp only [List.length_append,List.length_cons,List.length_nil];omega,?_⟩,by simp only;omega,k2⟩,by simp only;omega⟩
   ·simp only [hb2,hb1,g1,zAe,List.flatMap_append,List.flatMap_cons,List.flatMap_nil,List.append_nil,List.append_assoc]
   ·intro z hz
    rw [List.mem_append] at hz
    rcases hz with hz | hz
    ·exact g3 z hz
    ·simp at hz;subst hz;exact k1
  ·rw [decide_eq_false_iff_not] at h
   exact ⟨⟨L,g1,by omega,by omega,g3⟩,g5⟩
 ·refine ⟨⟨[],rfl,?_,by simp⟩,?_,h2⟩
  ·rw [zS (by omega) (by omega)];simp
  ·rw [zS (by omega) (by omega)];simp only;omega
 ·rw [zS (by omega) (by omega)];simp only;omega
theorem zI0 {α:Type} {P:List α} {i:Nat} {c:α} {t:List α} (h:P.drop i=c :: t):idx P (i:Int)=some c/\P.drop (i+1)=t/\i<P.length:=by
 have hi:i<P.length:=by
  apply Decidable.byContradiction
  intro hn
  rw [List.drop_eq_nil_of_le (by omega)] at h
  cases h
 rw [zEl hi] at h
 injection h with h1 h2
 exact ⟨by rw [xL hi,h1],h2,hi⟩
theorem zL3 (x:api_Image) (L:List (List UInt8)) (hp:x.Payload=zAe L) (h4:L.length<=4) (hL:∀ l∈L,zHc l):rU x=some L:=by
 have hfl:=kT L hL
 have hpl:x.Payload.length<=36:=by rw [hp];omega
 have hd:Def (zG (mE x) FU ([],[],0)) (λr=>r=.inr (L,[])):=by
  refine Def.loop (λs=>∃ i:Nat,s.2.2=(i:Int)/\i<=x.Payload.length/\((s.1=L/\s.2.1=[]/\x.Payload.drop i=[])∨∃ suf rest,L=s.1++(s.2.1++suf) :: rest/\x.Payload.drop i=suf++10 :: zAe rest)) (λs=>x.Payload.length - s.2.2.toNat) (λs hs=>?_) ?_ ?_
  ·obtain ⟨out,line,i'⟩:=s
   obtain ⟨i,g1,g2,g3⟩:=hs
   simp only at g1 g3
   subst g1
   unfold mE
   rcases g3 with ⟨k1,k2,k3⟩ | ⟨suf,rest,k1,k2⟩
   ·refine Def.c (λh=>?_) (λ_=>Def.s (by rw [k1,k2]))
    rw [decide_eq_true_iff] at h
    have:=congrArg List.length k3
    simp at this
    omega
   ·have hmem:line++suf∈L:=by rw [k1];simp
    have hln:=hL _ hmem
    have hout:out.length<4:=by have:=congrArg List.length k1;simp at this;omega
    cases suf with
    | nil=>
     obtain ⟨j1,j2,j3⟩:=zI0 (c:=10) (t:=zAe rest) k2
     refine Def.c (λ_=>?_) (λh=>by rw [decide_eq_false_iff_not] at h;omega)
     refine Def.bd (P:=λr=>r=.inr (out++[line],[])) ?_ (λr hr=>?_)
     ·refine Def.bd (P:=λc=>c=10) (Def.of j1 rfl) (λc hc=>?_)
      subst hc
      refine Def.c (λ_=>?_) (λh=>by simp at h)
      rw [List.append_nil] at hln
      refine Def.bd (P:=λb=>b=false) (Def.c (λh=>?_) (λ_=>Def.s ?_)) (λb hb=>?_)
      ·have:=hln.1;simp at h;rw [h] at this;simp at this
      ·simp;omega
      subst hb
      refine Def.bd (Def.app (by simp;omega)) (λo ho=>Def.s (by rw [ho]))
     ·subst hr
      refine Def.s ?_
      rw [yE (by omega)]
      refine ⟨⟨i+1,rfl,by omega,?_⟩,by simp only [Int.toNat_natCast];omega⟩
      cases rest with
      | nil=>exact .inl ⟨by simp [k1],rfl,j2⟩
      | cons l r=>
       refine .inr ⟨l,r,?_,?_⟩
       ·simp [k1]
       ·rw [j2];simp [zAe]
    | cons c suf=>
     obtain ⟨j1,j2,j3⟩:=zI0 (c:=c) (t:=suf++10 :: zAe rest) k2
     have hc:=hln.2.2 c (by simp)
     refine Def.c (λ_=>?_) (λh=>by rw [decide_eq_false_iff_not] at h;omega)
     refine Def.bd (P:=λr=>r=.inr (out,line++[c])) ?_ (λr hr=>?_)
     ·refine Def.bd (P:=λd=>d=c) (Def.of j1 rfl) (λd hd=>?_)
      subst hd
      refine Def.c (λh=>by simp at h;omega) (λ_=>?_)
      refine Def.bd (P:=λb=>b=false) (Def.c (λh=>?_) (λ_=>Def.s ?_)) (λb hb=>?_)
      ·simp at h;omega
      ·simp;omega
      subst hb
      have:=hln.2.1
      refine Def.bd (Def.app (by simp at this ⊢;omega)) (λo ho=>Def.s (by rw [ho]))
     ·subst hr
      refine Def.s ?_
      rw [yE (by omega)]
      refine ⟨⟨i+1,rfl,by omega,.inr ⟨suf,rest,by simp [k1],j2⟩⟩,by simp only [Int.toNat_natCast];omega⟩
  ·refine ⟨0,rfl,by omega,?_⟩
   cases L with
   | nil=>exact .inl ⟨rfl,rfl,by rw [hp];rfl⟩
   | cons l r=>exact .inr ⟨l,r,by simp,by rw [hp];simp [zAe]⟩
  ·rw [hp];simp;omega
 obtain ⟨r,h1,h2⟩:=hd
 subst h2
 unfold rU
 refine bd h1 ?_
 rfl
structure GoodIm (x:api_Image):Prop where
 r1:1<=x.Role
 r4:x.Role<=4
 v0:0<=x.Version
 v1:x.Version<=1000000
 n:jQ x.Name=some true
 nl:x.Name.length<=12
 p:x.Payload.length<=64
 l:x.Role=4->∃ L,rU x=some L/\1<=L.length/\L.length<=4/\∀ l∈L,l.length<=8
theorem cW (x:api_Image) (h:GoodIm x):rQ x=some 0:=by
 obtain ⟨h1,h2,h3,h4,h5,h6,h7,h8⟩:=h
 unfold rQ
 refine bd (a:=false) (cf (by simp;omega) (cf (by simp;omega) (cf (by simp;omega) (congrArg some (by simp;omega))))) ?_
 refine cf rfl ?_
 refine bd h5 ?_
 refine cf rfl ?_
 refine cf (by simp;omega) ?_
 refine bd (a:=false) ?_ rfl
 by_cases h:x.Role=4
 ·refine ct (by simp [h]) ?_
  obtain ⟨L,l1,l2,_⟩:=h8 h
  refine bd l1 ?_
  refine congrArg some ?_
  rw [beq_eq_false_iff_ne];omega
 ·exact cf (by simp [h]) rfl
theorem zLg:∀ n∈[([97]:List UInt8),[103,114,117,98],[108,105,110,117,120],[110,101,116,45,48],[116,119,101,108,118,101,45,98,121,116,101,115]],jQ n=some true/\n.length<=12:=by
 intro n hn
 simp only [List.mem_cons,List.not_mem_nil,or_false] at hn
 rcases hn with rfl | rfl | rfl | rfl | rfl<;>exact ⟨by decide +kernel,by decide⟩
theorem zKq (c:sealwrightdraw_Codes) (role:Int) (hc:wS c) (h1:1<=role) (h4:role<=4):Def (sB c role) (λr=>GoodIm r.1/\r.1.Role=role/\wS r.2):=by
 unfold sB
 refine Def.bd (P:=λa=>[a.a0,a.a1,a.a2,a.a3,a.a4]=[([97]:List UInt8),[103,114,117,98],[108,105,110,117,120],[110,101,116,45,48],[116,119,101,108,118,101,45,98,121,116,101,115]]) (Def.s rfl) (λa ha=>?_)
 rw [ha]
 refine Def.bd (zN c 5 hc (by decide)) (λr hr=>?_)
 obtain ⟨v1,c1⟩:=r
 obtain ⟨p1,p2,p3⟩:=hr
 simp only at p1 p2 p3
 refine Def.bd (Def.idx p1 (by simpa using p2)) (λnme hn=>?_)
 obtain ⟨n1,n2⟩:=zLg nme hn
 refine Def.bd (zN c1 5 p3 (by decide)) (λr hr=>?_)
 obtain ⟨v2,c2⟩:=r
 obtain ⟨q1,q2,q3⟩:=hr
 simp only at q1 q2 q3
 refine Def.bd (P:=λr=>wS ⟨r.1,r.2.1⟩/\0<=r.2.2/\r.2.2<=1000000) ?_ (λr hr=>?_)
 ·refine Def.bd (zN c2 9 q3 (by decide)) (λr hr=>?_)
  obtain ⟨v3,c3⟩:=r
  obtain ⟨s1,s2,s3⟩:=hr
  simp only at s1 s2 s3
  refine Def.c (λ_=>?_) (λ_=>Def.s ⟨s3,by simp only;omega,by simp only;omega⟩)
  refine Def.bd (zN c3 3 s3 (by decide)) (λr hr=>?_)
  obtain ⟨v4,c4⟩:=r
  obtain ⟨u1,u2,u3⟩:=hr
  simp only at u1 u2 u3
  refine Def.s ⟨u3,?_,?_⟩<;>(simp only;rw [zS (by omega) (by omega)];omega)
 obtain ⟨B,A,ver⟩:=r
 obtain ⟨w1,w2,w3⟩:=hr
 simp only at w1 w2 w3
 refine Def.c (λh=>?_) (λh=>?_)
 ·rw [beq_iff_eq] at h
  refine Def.bd (zF6 _ w1) (λr hr=>?_)
  obtain ⟨pl,c5⟩:=r
  obtain ⟨⟨L,l1,l2,l3,l4⟩,z⟩:=hr
  simp only at l1 z
  have hfl:=kT L l4
  refine Def.s ⟨⟨h1,h4,w2,w3,n1,n2,by simp only;rw [l1];omega,λ_=>⟨L,zL3 _ L l1 l3 l4,l2,l3,λl hl=>(l4 l hl).2.1⟩⟩,rfl,z⟩
 ·have hr4:role≠4:=by simpa using h
  refine Def.bd (zN _ 7 w1 (by decide)) (λr hr=>?_)
  obtain ⟨v5,c5⟩:=r
  obtain ⟨x1,x2,x3⟩:=hr
  simp only at x1 x2 x3
  refine Def.bd (Def.mkN x1 (by omega)) (λn hn=>?_)
  refine Def.bd (P:=λr=>wS ⟨r.1,r.2.1⟩/\r.2.2.length=n) ?_ (λr hr=>?_)
  ·refine Def.loop (λs=>0<=s.1/\s.1<=n/\wS ⟨s.2.1,s.2.2.1⟩/\s.2.2.2.length=n) (λs=>((n:Int) - s.1).toNat) (λs hs=>?_) ⟨Int.le_refl 0,by simp,x3,by simp⟩ (by simp;omega)
   obtain ⟨i,B,A,v⟩:=s
   obtain ⟨y1,y2,y3,y4⟩:=hs
   simp only at y1 y2 y3 y4
   unfold nO
   refine Def.c (λh=>?_) (λ_=>Def.s ⟨y3,y4⟩)
   rw [decide_eq_true_iff] at h
   refine Def.bd (zN _ 256 y3 (by decide)) (λr hr=>?_)
   obtain ⟨v6,c6⟩:=r
   obtain ⟨_,_,z3⟩:=hr
   refine Def.bd (Def.ixN y1 h) (λj hj=>?_)
   refine Def.bd (Def.upd (by omega)) (λu hu=>Def.s ?_)
   rw [zS (by omega) (by omega)]
   refine ⟨⟨by simp only;omega,by simp only;omega,z3,by simp only [hu,List.length_set];exact y4⟩,by simp only;omega⟩
  obtain ⟨B,A,v⟩:=r
  obtain ⟨y1,y2⟩:=hr
  simp only at y1 y2
  refine Def.bd (Def.ck (zC7 y2)) (λ_ _=>?_)
  refine Def.bd (Def.ck (cV (by omega))) (λ_ _=>?_)
  refine Def.s ⟨⟨h1,h4,w2,w3,n1,n2,by simp only;omega,λe=>absurd e hr4⟩,rfl,y1⟩
end Go.Proofs.TT
namespace Go.Proofs.TT
open Go Go.Sw
set_option maxRecDepth 100000
theorem Def.at' {α:Type} {l:List α} {i:Nat} (h:i<l.length):Def (idx l (i:Int)) (λr=>r=l[i]):=⟨_,xL h,rfl⟩
def Bef (a b:api_Image):Prop:=a.Role<=b.Role/\¬ (a.Role=b.Role/\a.Name=b.Name)
structure GoodCh (l:List api_Image):Prop where
 len:l.length<=8
 im:∀ x∈l,GoodIm x
 prs:l.Pairwise Bef
 h1:∃ x∈l,x.Role=1
 h3:∃ x∈l,x.Role=3
theorem oD {α:Type} {l:List α} {i:Nat} (h:i<l.length) {x:α} (hx:x∈l.take (i+1)):x∈l.take i∨x=l[i]:=by
 rw [List.take_add_one,List.mem_append] at hx
 rcases hx with hx | hx
 ·exact .inl hx
 ·right
  simpa [h] using hx
theorem zNt (l:List api_Image) (v:api_Image) (hl:l.length<=20):Def (zG (l7 l v) FU (false,0)) (λr=>(r=true->∃ x∈l,x.Role=v.Role)/\(r=false->∀ x∈l,¬ (x.Role=v.Role/\x.Name=v.Name))):=by
 refine Def.loop (λs=>∃ i:Nat,s.2=(i:Int)/\i<=l.length/\(s.1=true->∃ x∈l,x.Role=v.Role)/\(s.1=false->∀ x∈l.take i,¬ (x.Role=v.Role/\x.Name=v.Name))) (λs=>l.length - s.2.toNat) (λs hs=>?_) ⟨0,rfl,by omega,by simp,by simp⟩ (by simp;omega)
 obtain ⟨ag,i'⟩:=s
 obtain ⟨i,g1,g2,g3,g4⟩:=hs
 simp only at g1 g3 g4
 subst g1
 unfold l7
 refine Def.c (λh=>?_) (λh=>Def.s ⟨g3,λe=>?_⟩)
 ·have hi:i<l.length:=by have:=dT h;omega
  refine Def.bd (P:=λr=>(r=true->∃ x∈l,x.Role=v.Role)/\(r=false->ag=false/\¬ (l[i].Role=v.Role/\l[i].Name=v.Name))) ?_ (λr hr=>?_)
  ·refine Def.c (λha=>Def.s ⟨λ_=>g3 ha,λe=>by simp at e⟩) (λha=>?_)
   refine Def.bd (Def.at' hi) (λy hy=>?_)
   subst hy
   refine Def.c (λhr=>?_) (λhr=>Def.s ⟨λe=>by simp at e,λ_=>⟨ha,λe=>by simp [e.1] at hr⟩⟩)
   rw [beq_iff_eq] at hr
   refine Def.bd (Def.at' hi) (λy hy=>?_)
   subst hy
   refine Def.s ⟨λ_=>⟨_,List.getElem_mem hi,hr⟩,λe=>⟨ha,λe2=>?_⟩⟩
   simp [e2.2] at e
  ·refine Def.s ?_
   rw [yE (by omega)]
   refine ⟨⟨i+1,rfl,by omega,hr.1,λe x hx=>?_⟩,by simp only [Int.toNat_natCast];omega⟩
   obtain ⟨k1,k2⟩:=hr.2 e
   rcases oD hi hx with hx | rfl
   ·exact g4 k1 x hx
   ·exact k2
 ·have:=dF h
  rw [List.take_of_length_le (by omega)] at g4
  exact g4 e
structure ChI (role:Int) (l:List api_Image):Prop where
 im:∀ x∈l,GoodIm x/\x.Role<=role
 prs:l.Pairwise Bef
 h1:2<=role->∃ x∈l,x.Role=1
 h3:4<=role->∃ x∈l,x.Role=3
theorem zMk (role:Int) (h1:1<=role) (h4:role<=4) (l:List api_Image) (n:Int) (c:sealwrightdraw_Codes) (hc:wS c) (hn:0<=n) (hl:(l.length:Int)+n<=2*role) (hI:ChI role l) (hk:role=1∨role=3->1<=n) :
  Def (zG (l9 role) FU (l,n,c.B,c.At)) (λr=>(r.1.length:Int)<=2*role/\ChI role r.1/\(role=1∨role=3->∃ x∈r.1,x.Role=role)/\wS ⟨r.2.1,r.2.2⟩):=by
 refine Def.loop (λs=>0<=s.2.1/\(s.1.length:Int)+s.2.1<=2*role/\ChI role s.1/\(role=1∨role=3->1<=s.2.1∨∃ x∈s.1,x.Role=role)/\wS ⟨s.2.2.1,s.2.2.2⟩) (λs=>s.2.1.toNat) (λs hs=>?_) ⟨hn,hl,hI,λe=>.inl (hk e),hc⟩ (by simp only;omega)
 obtain ⟨l,n,B,A⟩:=s
 obtain ⟨g1,g2,g3,g4,g5⟩:=hs
 simp only at g1 g2 g3 g4 g5
 unfold l9
 refine Def.c (λh=>?_) (λh=>Def.s ?_)
 ·have hn:=dT h
  refine Def.bd (P:=λr=>(r.1.length:Int)+(n - 1)<=2*role/\ChI role r.1/\(∃ x∈r.1,x.Role=role)/\wS ⟨r.2.1,r.2.2⟩) ?_ (λr hr=>?_)
  ·refine Def.bd (zKq _ role g5 h1 h4) (λr hr=>?_)
   obtain ⟨v,c⟩:=r
   obtain ⟨k1,k2,k3⟩:=hr
   simp only at k1 k2 k3
   refine Def.bd (zNt l v (by omega)) (λag ha=>?_)
   refine Def.c (λhg=>?_) (λhg=>?_)
   ·have hgf:ag=false:=by simpa using hg
    refine Def.bd (Def.app (by simp;omega)) (λl' hl'=>Def.s ?_)
    subst hl'
    refine ⟨by simp;omega,⟨λx hx=>?_,?_,λe=>?_,λe=>?_⟩,⟨v,by simp,k2⟩,k3⟩
    ·rw [List.mem_append] at hx
     rcases hx with hx | hx
     ·exact g3.im x hx
     ·simp at hx;subst hx;exact ⟨k1,by omega⟩
    ·rw [List.pairwise_append]
     refine ⟨g3.prs,by simp,λa ha' b hb=>?_⟩
     simp at hb
     subst hb
     exact ⟨by have:=(g3.im a ha').2;omega,ha.2 hgf a ha'⟩
    ·obtain ⟨x,hx,e2⟩:=g3.h1 e
     exact ⟨x,by simp [hx],e2⟩
    ·obtain ⟨x,hx,e2⟩:=g3.h3 e
     exact ⟨x,by simp [hx],e2⟩
   ·have hgt:ag=true:=by simpa using hg
    obtain ⟨x,hx,e⟩:=ha.1 hgt
    exact Def.s ⟨by simp only;omega,g3,⟨x,hx,by omega⟩,k3⟩
  ·obtain ⟨l',B',A'⟩:=r
   obtain ⟨k1,k2,k3,k4⟩:=hr
   simp only at k1 k2 k3 k4
   refine Def.s ?_
   rw [zS (by omega) (by omega)]
   exact ⟨⟨by simp only;omega,k1,k2,λ_=>.inr k3,k4⟩,by simp only;omega⟩
 ·have hn:=dF h
  refine ⟨by simp only;omega,g3,λe=>?_,g5⟩
  rcases g4 e with h | h
  ·omega
  ·exact h
theorem zEr (codes:List UInt8):Def (mW codes) GoodCh:=by
 unfold mW
 refine Def.bd (aY codes 200 (by decide) (by decide)) (λc hc=>?_)
 refine Def.bd (P:=GoodCh) ?_ (λr hr=>Def.s hr)
 refine Def.loop (λs=>1<=s.2.1/\s.2.1<=5/\(s.1.length:Int)<=2*(s.2.1 - 1)/\(∀ x∈s.1,GoodIm x/\x.Role<s.2.1)/\s.1.Pairwise Bef/\(2<=s.2.1->∃ x∈s.1,x.Role=1)/\(4<=s.2.1->∃ x∈s.1,x.Role=3)/\wS ⟨s.2.2.1,s.2.2.2⟩) (λs=>(5 - s.2.1).toNat) (λs hs=>?_) ⟨Int.le_refl 1,by simp,by simp,by simp,by simp,by simp,by simp,hc⟩ (by simp)
 obtain ⟨l,role,B,A⟩:=s
 obtain ⟨g1,g2,g3,g4,g5,g6,g7,g8⟩:=hs
 simp only at g1 g2 g3 g4 g5 g6 g7 g8
 unfold dQ
 refine Def.c (λh=>?_) (λh=>Def.s ?_)
 ·have hr:=dT h
  refine Def.bd (zN _ 3 g8 (by decide)) (λr hr=>?_)
  obtain ⟨v,c1⟩:=r
  obtain ⟨k1,k2,k3⟩:=hr
  simp only at k1 k2 k3
  refine Def.bd (P:=λr=>0<=r.1/\r.1<=2/\(role=1∨role=3->1<=r.1)/\wS ⟨r.2.1,r.2.2⟩) ?_ (λr hr=>?_)
  ·refine Def.bd (P:=λb=>b=false->¬ (role=1∨role=3)) ?_ (λb hb=>?_)
   ·refine Def.c (λh=>Def.s (λe=>by simp at e)) (λh=>Def.s (λe=>?_))
    simp at h e
    omega
   refine Def.c (λ_=>?_) (λhf=>Def.s ⟨k1,by simp only;omega,λe=>absurd e (hb hf),k3⟩)
   refine Def.bd (zN _ 2 k3 (by decide)) (λr hr=>?_)
   obtain ⟨v2,c2⟩:=r
   obtain ⟨j1,j2,j3⟩:=hr
   simp only at j1 j2 j3
   have e:IntKind.i64.wrap (1+v2)=1+v2:=zS (by omega) (by omega)
   exact Def.s ⟨by simp only [e];omega,by simp only [e];omega,λ_=>by simp only [e];omega,j3⟩
  obtain ⟨n,B1,A1⟩:=r
  obtain ⟨j1,j2,j3,j4⟩:=hr
  simp only at j1 j2 j3 j4
  refine Def.bd (zMk role g1 hr l n ⟨B1,A1⟩ j4 j1 (by omega) ⟨λx hx=>⟨(g4 x hx).1,by have:=(g4 x hx).2;omega⟩,g5,g6,g7⟩ j3) (λr hr=>?_)
  obtain ⟨l',B2,A2⟩:=r
  obtain ⟨m1,m2,m3,m4⟩:=hr
  simp only at m1 m2 m3 m4
  refine Def.s ?_
  rw [zS (by omega) (by omega)]
  refine ⟨⟨by simp only;omega,by simp only;omega,by simp only;omega,λx hx=>⟨(m2.im x hx).1,by have:=(m2.im x hx).2;simp only;omega⟩,m2.prs,λe=>?_,λe=>?_,m4⟩,by simp only;omega⟩
  ·simp only at e
   by_cases h1:role=1
   ·obtain ⟨x,hx,e2⟩:=m3 (.inl h1)
    exact ⟨x,hx,by omega⟩
   ·exact m2.h1 (by omega)
  ·simp only at e
   by_cases h3:role=3
   ·obtain ⟨x,hx,e2⟩:=m3 (.inr h3)
    exact ⟨x,hx,by omega⟩
   ·exact m2.h3 (by omega)
 ·have hr:=dF h
  exact ⟨by omega,λx hx=>(g4 x hx).1,g5,g6 (by omega),g7 (by omega)⟩
theorem pw {l:List api_Image} (h:l.Pairwise Bef) {i j:Nat} (hj:j<l.length) (hij:i<j):Bef (l[i]'(by omega)) l[j]:=List.pairwise_iff_getElem.mp h i j (by omega) hj hij
theorem zHx (l:List api_Image) (h:GoodCh l):lE l=some 0:=by
 obtain ⟨hlen,him,hp,h1,h3⟩:=h
 have hne:l.length≠0:=by
  obtain ⟨x,hx,_⟩:=h1
  intro e
  rw [List.length_eq_zero_iff] at e
  rw [e] at hx
  simp at hx
 have hl1:∀ i:Nat,i<l.length->Def (zG (m7 l (i:Int)) FU 0) (λr=>r=.inr ()):=by
  intro i hi
  refine Def.loop (λs=>∃ k:Nat,s=(k:Int)/\k<=i) (λs=>i - s.toNat) (λs hs=>?_) ⟨0,rfl,by omega⟩ (by simp;omega)
  obtain ⟨k,rfl,hk⟩:=hs
  unfold m7
  refine Def.c (λh=>?_) (λh=>Def.s rfl)
  have hki:=dT h
  have hb:=pw hp hi (show k<i by omega)
  refine Def.bd (P:=λb=>b=false) ?_ (λb hb'=>?_)
  ·refine Def.bd (Def.at' (show k<l.length by omega)) (λy hy=>?_)
   subst hy
   refine Def.bd (Def.at' hi) (λy hy=>?_)
   subst hy
   refine Def.c (λhr=>?_) (λ_=>Def.s rfl)
   rw [beq_iff_eq] at hr
   refine Def.bd (Def.at' (show k<l.length by omega)) (λy hy=>?_)
   subst hy
   refine Def.bd (Def.at' hi) (λy hy=>?_)
   subst hy
   refine Def.s ?_
   rw [beq_eq_false_iff_ne]
   exact λe=>hb.2 ⟨hr,e⟩
  subst hb'
  refine Def.s ?_
  rw [yE (by omega)]
  exact ⟨⟨k+1,rfl,by omega⟩,by simp only [Int.toNat_natCast];omega⟩
 have hd:Def (zG (mY l) FU (false,false,0)) (λr=>r=.inr (true,true)):=by
  refine Def.loop (λs=>∃ i:Nat,s.2.2=(i:Int)/\i<=l.length/\((∃ x∈l.take i,x.Role=1)->s.1=true)/\((∃ x∈l.take i,x.Role=3)->s.2.1=true)) (λs=>l.length - s.2.2.toNat) (λs hs=>?_) ⟨0,rfl,by omega,by simp,by simp⟩ (by simp;omega)
  obtain ⟨f,k,i'⟩:=s
  obtain ⟨i,g1,g2,g3,g4⟩:=hs
  simp only at g1 g3 g4
  subst g1
  unfold mY
  refine Def.c (λh=>?_) (λh=>Def.s ?_)
  ·have hi:i<l.length:=by have:=dT h;omega
   refine Def.bd (Def.at' hi) (λy hy=>?_)
   subst hy
   refine Def.bd (P:=λr=>r=0) (Def.of (cW _ (him _ (List.getElem_mem hi))) rfl) (λr hr=>?_)
   subst hr
   refine Def.c (λh=>by simp at h) (λ_=>?_)
   refine Def.bd (P:=λb=>b=false) ?_ (λb hb=>?_)
   ·refine Def.c (λh0=>?_) (λ_=>Def.s rfl)
    have h0':=dT h0
    refine Def.bd (Def.at' hi) (λy hy=>?_)
    subst hy
    rw [zS (by omega) (by omega),show (i:Int) - 1=((i - 1:Nat):Int) by omega]
    refine Def.bd (Def.at' (show i - 1<l.length by omega)) (λy hy=>?_)
    subst hy
    have hb:=(pw hp hi (show i - 1<i by omega)).1
    refine Def.s ?_
    rw [decide_eq_false_iff_not]
    omega
   subst hb
   refine Def.c (λh=>by simp at h) (λ_=>?_)
   refine Def.bd (hl1 i hi) (λr hr=>?_)
   subst hr
   refine Def.bd (P:=λb=>f=true∨l[i].Role=1->b=true) ?_ (λb1 hb1=>?_)
   ·refine Def.c (λ_=>Def.s (λ_=>rfl)) (λhf=>?_)
    refine Def.bd (Def.at' hi) (λy hy=>?_)
    subst hy
    refine Def.s (λe=>?_)
    rcases e with e | e
    ·rw [hf] at e;cases e
    ·rw [e];rfl
   refine Def.bd (P:=λb=>k=true∨l[i].Role=3->b=true) ?_ (λb2 hb2=>?_)
   ·refine Def.c (λ_=>Def.s (λ_=>rfl)) (λhf=>?_)
    refine Def.bd (Def.at' hi) (λy hy=>?_)
    subst hy
    refine Def.s (λe=>?_)
    rcases e with e | e
    ·rw [hf] at e;cases e
    ·rw [e];rfl
   refine Def.s ?_
   rw [yE (by omega)]
   refine ⟨⟨i+1,rfl,by omega,λe=>?_,λe=>?_⟩,by simp only [Int.toNat_natCast];omega⟩
   ·obtain ⟨x,hx,e⟩:=e
    rcases oD hi hx with hx | rfl
    ·exact hb1 (.inl (g3 ⟨x,hx,e⟩))
    ·exact hb1 (.inr e)
   ·obtain ⟨x,hx,e⟩:=e
    rcases oD hi hx with hx | rfl
    ·exact hb2 (.inl (g4 ⟨x,hx,e⟩))
    ·exact hb2 (.inr e)
  ·have:=dF h
   rw [List.take_of_length_le (by omega)] at g3 g4
   rw [g3 h1,g4 h3]
 obtain ⟨r,e,rfl⟩:=hd
 unfold lE
 refine bd (a:=false) (cf ?_ (congrArg some ?_)) ?_
 ·rw [beq_eq_false_iff_ne];omega
 ·rw [decide_eq_false_iff_not];omega
 refine cf rfl ?_
 refine bd e ?_
 rfl
theorem bI (x:api_Image) (h:GoodIm x):Def (vH x) (λr=>r.length<2 ^ 20):=by
 have hi:=cW x h
 obtain ⟨_,_,_,_,_,h6,h7,_⟩:=h
 unfold vH
 refine Def.bd (P:=λr=>r=0) (Def.of hi rfl) (λr hr=>?_)
 subst hr
 refine Def.c (λh=>by simp at h) (λ_=>?_)
 refine Def.bd (P:=λr=>r.length=1) (Def.of (vL [] 1 _ (by omega) (by omega) (by simp)) (by rw [zU];rfl)) (λa ha=>?_)
 refine Def.bd (P:=λr=>r.length=5) (Def.of (vL a 4 _ (by omega) (by omega) (by omega)) (by rw [zU];omega)) (λb hb=>?_)
 refine Def.bd (Def.ck (cV (by omega))) (λ_ _=>?_)
 refine Def.bd (P:=λr=>r.length<=b.length+65537) (Def.of (tL b _ (by omega)) (uA _ _)) (λc hc=>?_)
 refine Def.bd (P:=λr=>r.length<=c.length+65537) (Def.of (tL c _ (by omega)) (uA _ _)) (λd hd=>Def.s (by omega))
theorem zHj (x:api_Image) (active:Int) (h:GoodIm x):Def (p8 x active) (λr=>r.length=2):=by
 unfold p8
 refine Def.bd (bI x h) (λb hb=>?_)
 refine Def.bd (P:=λr=>r.length=2) ?_ (λr hr=>Def.bd (Def.ck (zC7 hr)) (λ_ _=>Def.s hr))
 refine Def.loop (λs=>0<=s.1/\s.1<=2/\s.2.length=2) (λs=>(2 - s.1).toNat) (λs hs=>?_) ⟨by decide,by decide,rfl⟩ (by decide)
 obtain ⟨a,v⟩:=s
 obtain ⟨h0,h1,h2⟩:=hs
 simp only at h0 h1 h2
 unfold kO
 refine Def.c (λh=>?_) (λ_=>Def.s h2)
 rw [decide_eq_true_iff] at h
 refine Def.bd (P:=λr=>r.length=2) ?_ (λw hw=>Def.s ?_)
 ·refine Def.bd (P:=λ_=>True) ?_ (λb _=>?_)
  ·refine Def.c (λ_=>?_) (λ_=>Def.s trivial)
   exact Def.bd (P:=λ_=>True) (Def.lt (Def.s trivial)) (λ_ _=>Def.s trivial)
  refine Def.c (λ_=>?_) (λ_=>Def.s h2)
  refine Def.bd (zB2 a _ (by omega)) (λ_ _=>?_)
  refine Def.bd (Def.ixN h0 (by show _<((2:Nat):Int);omega)) (λj hj=>?_)
  exact Def.bd (Def.upd (by omega)) (λr hr=>Def.s (by rw [hr];simpa using h2))
 ·rw [zS (by omega) (by omega)]
  simp only
  omega
theorem zIn:∀ (k fl:Nat) (n:Int),0<=n->n<10 ^ (k+1)->n<2 ^ 40->k<fl->k<20->Def (sM fl n) (λr=>r.length<=k+1):=by
 intro k
 induction k with
 | zero=>
  intro fl n h0 h1 _ hf _
  obtain ⟨f,rfl⟩:∃ f,fl=f+1:=⟨fl - 1,by omega⟩
  unfold sM
  exact Def.c (λ_=>Def.s (by simp)) (λh=>absurd (by simpa using h1) (dF h))
 | succ k ih=>
  intro fl n h0 h1 h2 hf hk
  obtain ⟨f,rfl⟩:∃ f,fl=f+1:=⟨fl - 1,by omega⟩
  have hd:n / 10<10 ^ (k+1):=by
   rw [Int.pow_succ] at h1
   omega
  unfold sM
  refine Def.c (λ_=>Def.s (by simp)) (λh=>?_)
  rw [Int.tdiv_eq_ediv_of_nonneg h0,zS (by omega) (by omega)]
  refine Def.bd (ih f (n / 10) (by omega) hd (by omega) (by omega) (by omega)) (λr hr=>?_)
  exact Def.bd (Def.app (by simp;omega)) (λs hs=>Def.s (by rw [hs];simp;omega))
theorem zHs (x:api_Image) (active:Int) (h:GoodIm x):Def (oG x active) (λ_=>True):=by
 have hi:=cW x h
 unfold oG
 refine Def.bd (P:=λ_=>True) ?_ (λb _=>?_)
 ·refine Def.bd (P:=λr=>r=0) (Def.of hi rfl) (λr hr=>?_)
  exact Def.c (λ_=>Def.s trivial) (λ_=>Def.s trivial)
 refine Def.c (λ_=>Def.s trivial) (λ_=>?_)
 refine Def.bd (P:=λ_=>True) ?_ (λr _=>?_)
 ·unfold m8
  exact Def.c (λ_=>Def.s trivial) (λ_=>Def.c (λ_=>Def.s trivial) (λ_=>Def.c (λ_=>Def.s trivial) (λ_=>Def.c (λ_=>Def.s trivial) (λ_=>Def.s trivial))))
 refine Def.bd (zHj x active h) (λd _=>?_)
 refine Def.bd (P:=λ_=>True) ?_ (λ_ _=>Def.s trivial)
 unfold fI
 have hn:=h.nl
 refine Def.bd (Def.ck (cV (by omega))) (λ_ _=>?_)
 refine Def.bd (Def.app (by simp;omega)) (λa ha=>?_)
 have hv0:=h.v0
 have hv1:=h.v1
 refine Def.bd (zIn 6 RF x.Version hv0 (by show x.Version<10000000;omega) (by omega) (by decide) (by decide)) (λb hb=>?_)
 have hal:a.length=x.Name.length+1:=by rw [ha];simp
 exact Def.bd (Def.app (by omega)) (λ_ _=>Def.s trivial)
theorem zCw (l:List api_Image) (active:Int) (h:GoodCh l) (h1:1<=active) (h3:active<=3):Def (uR l active) (λr=>8<=r.length/\r.length<=136):=by
 have hc:=zHx l h
 have h':=h.len
 have him:=h.im
 unfold uR
 refine Def.bd (P:=λb=>b=false) ?_ (λb hb=>?_)
 ·refine Def.bd (P:=λr=>r=0) (Def.of hc rfl) (λr hr=>?_)
  subst hr
  refine Def.c (λh=>by simp at h) (λ_=>Def.c (λh=>?_) (λ_=>Def.s ?_))
  ·have:=dT h;omega
  ·rw [decide_eq_false_iff_not];omega
 subst hb
 refine Def.c (λh=>by simp at h) (λ_=>?_)
 refine Def.bd (P:=λr=>8<=r.length/\r.length<=136) ?_ (λr hr=>Def.s hr)
 refine Def.loop (λs=>1<=s.2/\s.2<=5/\(s.1.length:Int)<=8+32*(s.2 - 1)/\(4<=s.2->8<=s.1.length)/\(s.2<=3->(s.1.length:Int)<=32*(s.2 - 1))) (λs=>(5 - s.2).toNat) (λs hs=>?_) ⟨Int.le_refl 1,by simp,by simp,by simp,by simp⟩ (by simp)
 obtain ⟨out,role⟩:=s
 obtain ⟨g1,g2,g3,g4,g5⟩:=hs
 simp only at g1 g2 g3 g4 g5
 unfold hO
 refine Def.c (λh=>?_) (λh=>Def.s ?_)
 ·have hr:=dT h
  refine Def.bd (P:=λo=>(o.length:Int)<=8+32*(role - 1)/\(3<=role->8<=o.length)/\(role<=2->(o.length:Int)<=32*(role - 1))) ?_ (λo ho=>?_)
  ·refine Def.c (λh=>?_) (λh=>Def.s ⟨by omega,λe=>?_,λe=>g5 (by omega)⟩)
   ·rw [beq_iff_eq] at h
    refine Def.bd (P:=λo=>o.length=out.length+8) ?_ (λo ho=>Def.s ⟨by have:=g5 (by omega);omega,λ_=>by omega,λe=>by omega⟩)
    refine Def.loop (λs=>0<=s.2/\s.2<=8/\(s.1.length:Int)=out.length+s.2) (λs=>(8 - s.2).toNat) (λs hs=>?_) ⟨Int.le_refl 0,by simp,by simp⟩ (by simp)
    obtain ⟨o,i⟩:=s
    obtain ⟨k1,k2,k3⟩:=hs
    simp only at k1 k2 k3
    unfold iS
    refine Def.c (λh=>?_) (λh=>Def.s ?_)
    ·have:=dT h
     refine Def.bd (P:=λb=>b.length=4) (Def.s rfl) (λb hb=>?_)
     refine Def.bd (bU i 2 active b (by omega)) (λe _=>?_)
     refine Def.bd (Def.app (by simp;omega)) (λo' ho'=>Def.s ?_)
     rw [zS (by omega) (by omega)]
     refine ⟨⟨by simp only;omega,by simp only;omega,by simp only [ho',List.length_append,List.length_cons,List.length_nil];omega⟩,by simp only;omega⟩
    ·have:=dF h
     omega
   ·simp at h
    exact g4 (by omega)
  ·obtain ⟨o1,o2,o3⟩:=ho
   refine Def.bd (P:=λr=>(o.length:Int)<=r.length/\(r.length:Int)<=o.length+32) ?_ (λr hr=>Def.s ?_)
   ·refine Def.loop (λs=>∃ i:Nat,s.2=(i:Int)/\i<=l.length/\(o.length:Int)<=s.1.length/\(s.1.length:Int)<=o.length+4*i) (λs=>l.length - s.2.toNat) (λs hs=>?_) ⟨0,rfl,by omega,by simp,by simp⟩ (by have:=h';simp;omega)
    obtain ⟨u,i'⟩:=s
    obtain ⟨i,k1,k2,k3,k4⟩:=hs
    simp only at k1 k3 k4
    subst k1
    have hlen:=h'
    unfold i6
    refine Def.c (λh=>?_) (λh=>Def.s ⟨by omega,by omega⟩)
    have hi:i<l.length:=by have:=dT h;omega
    have hg:=him _ (List.getElem_mem hi)
    refine Def.bd (P:=λr=>(u.length:Int)<=r.length/\(r.length:Int)<=u.length+4) ?_ (λr hr=>Def.s ?_)
    ·refine Def.bd (Def.at' hi) (λy hy=>?_)
     subst hy
     refine Def.c (λ_=>Def.s ⟨by omega,by omega⟩) (λhrole=>?_)
     refine Def.c (λ_=>?_) (λh4=>?_)
     ·refine Def.bd (Def.at' hi) (λy hy=>?_)
      subst hy
      refine Def.bd (zHs _ active hg) (λe _=>?_)
      exact Def.bd (Def.app (by simp;omega)) (λr hr=>Def.s ⟨by rw [hr,List.length_append];omega,by rw [hr,List.length_append];simp only [List.length_cons,List.length_nil];omega⟩)
     ·refine Def.bd (Def.at' hi) (λy hy=>?_)
      subst hy
      simp at hrole h4
      obtain ⟨L,l1,l2,l3,l4⟩:=hg.l (by omega)
      refine Def.bd (P:=λr=>r=L) (Def.of l1 rfl) (λr hr=>?_)
      subst hr
      refine Def.bd (P:=λw=>(w.length:Int)=u.length+r.length) ?_ (λw hw=>Def.s ⟨by omega,by omega⟩)
      refine Def.loop (λs=>∃ k:Nat,s.2=(k:Int)/\k<=r.length/\(s.1.length:Int)=u.length+k) (λs=>r.length - s.2.toNat) (λs hs=>?_) ⟨0,rfl,by omega,by simp⟩ (by simp;omega)
      obtain ⟨w,k'⟩:=s
      obtain ⟨k,m1,m2,m3⟩:=hs
      simp only at m1 m3
      subst m1
      unfold i7
      refine Def.c (λh=>?_) (λh=>Def.s (by have:=dF h;omega))
      have hk:k<r.length:=by have:=dT h;omega
      refine Def.bd (Def.at' hk) (λy hy=>?_)
      subst hy
      have:=l4 _ (List.getElem_mem hk)
      refine Def.bd (bU 9 3 active _ (by omega)) (λe _=>?_)
      refine Def.bd (Def.app (by simp;omega)) (λo' ho'=>Def.s ?_)
      rw [yE (by omega)]
      exact ⟨⟨k+1,rfl,by omega,by simp only [ho',List.length_append,List.length_cons,List.length_nil];omega⟩,by simp only [Int.toNat_natCast];omega⟩
    ·rw [yE (by omega)]
     exact ⟨⟨i+1,rfl,by omega,by simp only;omega,by simp only;omega⟩,by simp only [Int.toNat_natCast];omega⟩
   ·rw [zS (by omega) (by omega)]
    refine ⟨⟨by simp only;omega,by simp only;omega,by simp only;omega,λe=>?_,λe=>?_⟩,by simp only;omega⟩
    ·simp only at e
     have:=o2 (by omega)
     simp only;omega
    ·simp only at e
     have:=o3 (by omega)
     simp only;omega
 ·have:=dF h
  have:=g4 (by omega)
  omega
end Go.Proofs.TT
namespace Go.Proofs.TT
open Go Go.Sw
set_option maxRecDepth 100000
theorem bO (n m:Int) (hm:1<=m) (hm2:m<2 ^ 40):Def (o8 n m) (λr=>0<=r/\r<m):=by
 unfold o8
 refine Def.c (λh=>by have:=dT h;omega) (λ_=>?_)
 refine Def.bd (Def.ck (by simp;omega)) (λ_ _=>?_)
 have h1:-m<Int.tmod n m:=by
  have:=Int.lt_tmod_of_pos n (by omega:0<m)
  omega
 have h2:Int.tmod n m<m:=Int.tmod_lt_of_pos n (by omega)
 refine Def.bd (P:=λr=>0<=r/\r<m) ?_ (λr hr=>Def.s hr)
 refine Def.c (λh=>Def.s ?_) (λh=>Def.s ?_)
 ·have:=dT h
  rw [zS (by omega) (by omega)]
  omega
 ·have:=dF h
  omega
theorem zC0 (n:Int):Def (o6 n) (λr=>1<=r/\r<=3):=by
 unfold o6
 refine Def.bd (bO n 3 (by decide) (by decide)) (λr hr=>Def.s ?_)
 rw [zS (by omega) (by omega)];omega
theorem zJe {α:Type} (a b:List α):(cpy a b).length=a.length:=by
 unfold cpy;simp;omega
theorem zE8 (active:Int) (b:List UInt8):Def (nU active b) (λ_=>True):=by
 unfold nU
 refine Def.bd (P:=λr=>r.length=2) ?_ (λr hr=>Def.bd (Def.ck (zC7 hr)) (λ_ _=>Def.s trivial))
 refine Def.loop (λs=>0<=s.1/\s.1<=2/\s.2.length=2) (λs=>(2 - s.1).toNat) (λs hs=>?_) ⟨by decide,by decide,rfl⟩ (by decide)
 obtain ⟨a,v⟩:=s
 obtain ⟨h0,h1,h2⟩:=hs
 simp only at h0 h1 h2
 unfold iW
 refine Def.c (λh=>?_) (λ_=>Def.s h2)
 have ha:=dT h
 refine Def.bd (P:=λr=>r.length=2) ?_ (λw hw=>Def.s ?_)
 ·refine Def.c (λ_=>?_) (λ_=>Def.s h2)
  rw [zS (n:=12*a) (by omega) (by omega),zS (by omega) (by omega)]
  refine Def.bd (Def.mkN (by omega) (by omega)) (λn hn=>?_)
  refine Def.bd (Def.ck (zC7 (by simp))) (λ_ _=>?_)
  refine Def.lt ?_
  have hcl:=zJe (List.replicate n (0:UInt8)) b
  rw [List.length_replicate] at hcl
  generalize cpy (List.replicate n (0:UInt8)) b=x at hcl
  refine Def.bd (P:=λr=>r.length=n) ?_ (λy hy=>?_)
  ·refine Def.c (λh=>?_) (λ_=>Def.s hcl)
   have:=dT h
   rw [zS (by omega) (by omega)]
   refine Def.bd (Def.ixN (by omega) (by omega)) (λj hj=>?_)
   refine Def.bd (Def.at (by omega)) (λ_ _=>?_)
   refine Def.bd (Def.ixN (by omega) (by omega)) (λj hj=>?_)
   exact Def.bd (Def.upd (by omega)) (λr hr=>Def.s (by rw [hr];simpa using hcl))
  refine Def.bd (Def.ck (zC7 hy)) (λ_ _=>?_)
  refine Def.bd (Def.ck (cV (by omega))) (λ_ _=>?_)
  refine Def.bd (Def.ixN h0 (by show _<((2:Nat):Int);omega)) (λj hj=>?_)
  exact Def.bd (Def.upd (by omega)) (λr hr=>Def.s (by rw [hr];simpa using h2))
 ·rw [zS (by omega) (by omega)]
  simp only
  omega
theorem zAo (c:sealwrightdraw_Codes) (active:Int) (hc:wS c):Def (wR c active) (λr=>wS r.2):=by
 unfold wR
 refine Def.bd (zDq c hc) (λr hr=>?_)
 obtain ⟨l,c1⟩:=r
 obtain ⟨hl,k1⟩:=hr
 simp only at hl k1
 have hl1:=hl.1
 have hl2:=hl.2.1
 refine Def.bd (P:=λr=>r.1.length<=8/\wS ⟨r.2.1,r.2.2⟩) ?_ (λr hr=>?_)
 ·refine Def.bd (zN _ 4 k1 (by decide)) (λr hr=>?_)
  obtain ⟨v,c2⟩:=r
  obtain ⟨a1,a2,a3⟩:=hr
  refine Def.c (λ_=>?_) (λ_=>Def.s ⟨hl2,a3⟩)
  refine Def.bd (zN _ 2 a3 (by decide)) (λr hr=>?_)
  obtain ⟨v,c3⟩:=r
  obtain ⟨b1,b2,b3⟩:=hr
  simp only at b1 b2 b3
  refine Def.bd (Def.sub (by decide) b1 (by omega)) (λx hx=>Def.s ⟨?_,b3⟩)
  simp only;rw [hx];simp;omega
 obtain ⟨dat,B,A⟩:=r
 obtain ⟨hd,k2⟩:=hr
 simp only at hd k2
 refine Def.bd (zN _ 5 k2 (by decide)) (λr hr=>?_)
 obtain ⟨v5,c5⟩:=r
 obtain ⟨a1,a2,a3⟩:=hr
 simp only at a1 a2 a3
 refine Def.bd (zN _ 8 a3 (by decide)) (λr hr=>?_)
 obtain ⟨v8,c8⟩:=r
 obtain ⟨b1,b2,b3⟩:=hr
 simp only at b1 b2 b3
 refine Def.bd (Def.idx b1 (by simpa using b2)) (λreg _=>?_)
 refine Def.bd (P:=λr=>r.1.length<=8/\wS ⟨r.2.2.1,r.2.2.2⟩) ?_ (λr hr=>?_)
 ·refine Def.bd (P:=λr=>wS ⟨r.2.1,r.2.2⟩) ?_ (λr hr=>?_)
  ·refine Def.c (λ_=>?_) (λ_=>Def.s b3)
   refine Def.bd (zN _ 4 b3 (by decide)) (λr hr=>?_)
   exact Def.s hr.2.2
  obtain ⟨b,B,A⟩:=r
  refine Def.c (λ_=>?_) (λ_=>Def.s ⟨hd,hr⟩)
  refine Def.bd (zN _ 8 hr (by decide)) (λr hr=>?_)
  exact Def.s ⟨by simp,hr.2.2⟩
 obtain ⟨dat,reg,B,A⟩:=r
 obtain ⟨hd,k3⟩:=hr
 simp only at hd k3
 refine Def.bd (bU _ _ active dat (by omega)) (λe _=>?_)
 refine Def.bd (P:=λr=>wS ⟨r.1,r.2.1⟩) ?_ (λr hr=>Def.s hr)
 refine Def.bd (P:=λr=>wS ⟨r.2.1,r.2.2⟩) ?_ (λr hr=>?_)
 ·refine Def.c (λ_=>?_) (λ_=>Def.s k3)
  refine Def.bd (zN _ 4 k3 (by decide)) (λr hr=>?_)
  exact Def.s hr.2.2
 obtain ⟨b,B,A⟩:=r
 refine Def.c (λ_=>?_) (λ_=>Def.s hr)
 refine Def.bd (zN _ 4 hr (by decide)) (λr hr=>?_)
 refine Def.bd (zE8 active _) (λd _=>?_)
 exact Def.s hr.2.2
theorem zHo (c:sealwrightdraw_Codes) (active:Int) (hc:wS c):Def (u9 c active 14) (λr=>r.1.length<=14):=by
 unfold u9
 refine Def.bd (P:=λr=>r.1.length<=14) ?_ (λr hr=>Def.s hr)
 refine Def.loop (λs=>s.1.length<=14/\wS ⟨s.2.1,s.2.2⟩) (λs=>14 - s.1.length) (λs hs=>?_) ⟨by simp,hc⟩ (by simp)
 obtain ⟨l,B,A⟩:=s
 obtain ⟨g1,g2⟩:=hs
 simp only at g1 g2
 unfold oU
 refine Def.bd (P:=λr=>(r.1=true->l.length<14)/\wS ⟨r.2.1,r.2.2⟩) ?_ (λr hr=>?_)
 ·refine Def.bd (P:=λr=>wS r.2) (Def.s g2) (λr hr=>?_)
  obtain ⟨b,c⟩:=r
  refine Def.c (λ_=>Def.s ⟨λh=>by have:=dT h;omega,hr⟩) (λ_=>Def.s ⟨λh=>by simp at h,hr⟩)
 obtain ⟨b,B,A⟩:=r
 obtain ⟨k1,k2⟩:=hr
 refine Def.c (λhb=>?_) (λ_=>Def.s g1)
 have:=k1 hb
 refine Def.bd (zAo _ active k2) (λr hr=>?_)
 refine Def.bd (Def.app (by simp;omega)) (λl' hl'=>Def.s ?_)
 refine ⟨⟨by simp only [hl',List.length_append,List.length_cons,List.length_nil];omega,hr⟩,by simp only [hl',List.length_append,List.length_cons,List.length_nil];omega⟩
theorem zOp (codes:List UInt8) (active resets:Int) (h1:1<=active) (h3:active<=3):Def (bX codes active resets) (λr=>r.Active=active/\r.Events.length<=200):=by
 unfold bX
 refine Def.bd (aY codes 240 (by decide) (by decide)) (λc hc=>?_)
 refine Def.bd (bO resets 1000 (by decide) (by decide)) (λrs _=>?_)
 refine Def.bd (zN _ 3 hc (by decide)) (λr hr=>?_)
 obtain ⟨v,c1⟩:=r
 obtain ⟨a1,a2,a3⟩:=hr
 simp only at a1 a2 a3
 refine Def.c (λ_=>?_) (λ_=>?_)
 ·refine Def.bd (zHo c1 active a3) (λr hr=>?_)
  exact Def.s ⟨rfl,by
             have:r.1.length<=14:=hr
             show r.1.length<=200
             omega⟩
 ·obtain ⟨b1,b2,b3⟩:=a3
  refine Def.bd (Def.sub b2 b3 (Int.le_refl _)) (λx _=>?_)
  refine Def.bd (zEr x) (λch hch=>?_)
  refine Def.bd (zCw ch active hch h1 h3) (λev hev=>?_)
  refine Def.bd (zN _ 4 ⟨b1,b2,b3⟩ (by decide)) (λr hr=>?_)
  obtain ⟨n,c2⟩:=r
  obtain ⟨d1,d2,d3⟩:=hr
  simp only at d1 d2 d3
  refine Def.bd (P:=λl=>l.length<=200) ?_ (λl hl=>Def.s ⟨rfl,hl⟩)
  refine Def.loop (λs=>0<=s.1/\s.1+1<=s.2.1.length/\(s.2.1.length:Int)+s.1<=140/\wS ⟨s.2.2.1,s.2.2.2⟩) (λs=>s.1.toNat) (λs hs=>?_) ⟨d1,by simp only;omega,by simp only;omega,d3⟩ (by simp only;omega)
  obtain ⟨n,l,B,A⟩:=s
  obtain ⟨g1,g2,g3,g4⟩:=hs
  simp only at g1 g2 g3 g4
  unfold zBc
  refine Def.c (λh=>?_) (λh=>Def.s (by omega))
  have hn:=dT h
  refine Def.bd (zN _ _ g4 (by omega)) (λr hr=>?_)
  obtain ⟨i,c3⟩:=r
  obtain ⟨i0,i1,i2⟩:=hr
  simp only at i0 i1 i2
  refine Def.bd (zN _ 5 i2 (by decide)) (λr hr=>?_)
  obtain ⟨o,c4⟩:=r
  obtain ⟨o0,o1,o2⟩:=hr
  simp only at o0 o1 o2
  have slo:∀ k:Int,0<=k->k<=l.length->Def (sub l 0 k) (λr=>(r.length:Int)=k):=by
   intro k h0 hk
   refine Def.mono (Def.sub (by decide) h0 hk) (λr hr=>?_)
   rw [hr];simp;omega
  have shi:∀ k:Int,0<=k->k<=l.length->Def (sub l k (l.length:Int)) (λr=>(r.length:Int)=l.length - k):=by
   intro k h0 hk
   refine Def.mono (Def.sub h0 hk (Int.le_refl _)) (λr hr=>?_)
   rw [hr];simp;omega
  have app:∀ a b:List api_Event,a.length<=1000->b.length<=1000->Def (zV 64 a b) (λr=>r.length=a.length+b.length):=by
   intro a b ha hb
   exact Def.mono (Def.app (by omega)) (λr hr=>by rw [hr];simp)
  refine Def.bd (P:=λr=>(l.length:Int) - 1<=r.1.length/\(r.1.length:Int)<=l.length+1/\wS ⟨r.2.1,r.2.2⟩) ?_ (λr hr=>?_)
  ·refine Def.c (λ_=>?_) (λ_=>Def.c (λ_=>?_) (λ_=>Def.c (λ_=>?_) (λ_=>Def.c (λ_=>?_) (λ_=>?_))))
   ·refine Def.bd (slo i i0 (by omega)) (λx hx=>?_)
    refine Def.bd (app [] x (by simp) (by omega)) (λy hy=>?_)
    rw [zS (by omega) (by omega)]
    refine Def.bd (shi (i+1) (by omega) (by omega)) (λz hz=>?_)
    simp only [List.length_nil] at hy
    refine Def.bd (app y z (by omega) (by omega)) (λw hw=>Def.s ⟨by simp only;omega,by simp only;omega,o2⟩)
   ·refine Def.bd (slo i i0 (by omega)) (λx hx=>?_)
    refine Def.bd (app [] x (by simp) (by omega)) (λy hy=>?_)
    simp only [List.length_nil] at hy
    refine Def.bd (Def.idx i0 i1) (λe _=>?_)
    refine Def.bd (app y [e] (by omega) (by simp)) (λz hz=>?_)
    simp only [List.length_cons,List.length_nil] at hz
    refine Def.bd (shi i i0 (by omega)) (λw hw=>?_)
    refine Def.bd (app z w (by omega) (by omega)) (λq hq=>Def.s ⟨by simp only;omega,by simp only;omega,o2⟩)
   ·refine Def.bd (zN _ _ o2 (by omega)) (λr hr=>?_)
    obtain ⟨j,c5⟩:=r
    obtain ⟨j0,j1,j2⟩:=hr
    simp only at j0 j1 j2
    refine Def.bd (app [] l (by simp) (by omega)) (λx hx=>?_)
    simp only [List.length_nil] at hx
    refine Def.bd (Def.ixN j0 (by omega)) (λj hj=>?_)
    refine Def.bd (Def.at hj.2) (λe1 _=>?_)
    refine Def.bd (Def.ixN i0 (by omega)) (λj hj=>?_)
    refine Def.bd (Def.at hj.2) (λe2 _=>?_)
    refine Def.bd (Def.ixN i0 (by omega)) (λj hj=>?_)
    refine Def.bd (Def.upd hj.2) (λx1 hx1=>?_)
    refine Def.bd (Def.ixN j0 (by omega)) (λj hj=>?_)
    have hxl:x1.length=x.length:=by rw [hx1];simp
    refine Def.bd (Def.upd (by rw [hxl];exact hj.2)) (λx2 hx2=>?_)
    have hxl2:x2.length=x1.length:=by rw [hx2];simp
    exact Def.s ⟨by simp only;omega,by simp only;omega,j2⟩
   ·refine Def.bd (slo i i0 (by omega)) (λx hx=>?_)
    refine Def.bd (app [] x (by simp) (by omega)) (λy hy=>?_)
    simp only [List.length_nil] at hy
    refine Def.bd (zAo _ active o2) (λr hr=>?_)
    refine Def.bd (app y [r.1] (by omega) (by simp)) (λz hz=>?_)
    simp only [List.length_cons,List.length_nil] at hz
    refine Def.bd (shi i i0 (by omega)) (λw hw=>?_)
    refine Def.bd (app z w (by omega) (by omega)) (λq hq=>Def.s ⟨by simp only;omega,by simp only;omega,hr⟩)
   ·refine Def.bd (slo i i0 (by omega)) (λx hx=>?_)
    refine Def.bd (app [] x (by simp) (by omega)) (λy hy=>?_)
    simp only [List.length_nil] at hy
    refine Def.bd (bU 3 5 active _ (by simp)) (λe _=>?_)
    refine Def.bd (app y [e] (by omega) (by simp)) (λz hz=>?_)
    simp only [List.length_cons,List.length_nil] at hz
    refine Def.bd (shi i i0 (by omega)) (λw hw=>?_)
    refine Def.bd (app z w (by omega) (by omega)) (λq hq=>Def.s ⟨by simp only;omega,by simp only;omega,o2⟩)
  obtain ⟨l',B',A'⟩:=r
  obtain ⟨p1,p2,p3⟩:=hr
  simp only at p1 p2 p3
  refine Def.s ?_
  rw [zS (by omega) (by omega)]
  exact ⟨⟨by simp only;omega,by simp only;omega,by simp only;omega,p3⟩,by simp only;omega⟩
end Go.Proofs.TT
namespace Go.Proofs.TT
open Go Go.Sw
set_option maxRecDepth 100000
theorem zLf (a b:List UInt8) (ha:a.length<2 ^ 40):Def (j8 a b) (λ_=>True):=by
 unfold j8
 refine Def.bd (P:=λ_=>True) ?_ (λr _=>?_)
 ·refine Def.loop (λ(s:Int)=>0<=s/\s<=a.length) (λs=>(a.length - s).toNat) (λs hs=>?_) ⟨by decide,by simp⟩ (by simp;omega)
  obtain ⟨h0,h1⟩:=hs
  unfold dP
  refine Def.bd (P:=λc=>c=true->s<a.length/\s<b.length) ?_ (λc hc=>?_)
  ·refine Def.c (λh=>Def.s (λe=>⟨dT h,dT e⟩)) (λ_=>Def.s (λe=>by simp at e))
  refine Def.c (λhcc=>?_) (λ_=>Def.s trivial)
  obtain ⟨k1,k2⟩:=hc hcc
  refine Def.bd (Def.idx h0 k1) (λ_ _=>?_)
  refine Def.bd (Def.idx h0 k2) (λ_ _=>?_)
  refine Def.c (λ_=>?_) (λ_=>Def.s ?_)
  ·refine Def.bd (Def.idx h0 k1) (λ_ _=>?_)
   exact Def.bd (Def.idx h0 k2) (λ_ _=>Def.s trivial)
  ·rw [zS (by omega) (by omega)]
   simp only
   omega
 ·cases r<;>exact Def.s trivial
theorem zCt (a b:api_Entry) (ha:a.Digest.length<2 ^ 40):Def (qK a b) (λ_=>True):=by
 unfold qK
 refine Def.c (λ_=>Def.s trivial) (λ_=>Def.c (λ_=>Def.s trivial) (λ_=>Def.c (λ_=>Def.s trivial) (λ_=>?_)))
 exact Def.bd (zLf _ _ ha) (λ_ _=>Def.s trivial)
theorem zFk (vendor:List UInt8) (version:Int) (l:List api_Image) (h:GoodCh l):Def (vY vendor version l) (λm=>m.Entries.length<=8):=by
 have hlen:=h.len
 unfold vY
 refine Def.bd (P:=λm=>m.length<=8) ?_ (λm hm=>Def.s hm)
 refine Def.loop (λs=>∃ i:Nat,s.1=(i:Int)/\i<=l.length/\s.2.length<=i/\∀ e∈s.2,e.Digest.length=32) (λs=>l.length - s.1.toNat) (λs hs=>?_) ⟨0,rfl,by omega,by simp,by simp⟩ (by simp;omega)
 obtain ⟨i',m⟩:=s
 obtain ⟨i,g1,g2,g3,g4⟩:=hs
 simp only at g1 g3 g4
 subst g1
 unfold lJ
 refine Def.c (λh=>?_) (λh=>Def.s (by omega))
 have hi:i<l.length:=by have:=dT h;omega
 have hg:=‹GoodCh l›.im _ (List.getElem_mem hi)
 refine Def.bd (P:=λr=>r.length<=m.length+1/\∀ e∈r,e.Digest.length=32) ?_ (λr hr=>Def.s ?_)
 ·refine Def.bd (Def.at' hi) (λy hy=>?_)
  subst hy
  refine Def.bd (bI _ hg) (λb hb=>?_)
  refine Def.bd (P:=λ_=>True) ?_ (λc _=>?_)
  ·refine Def.c (λ_=>Def.s trivial) (λ_=>?_)
   exact Def.bd (Def.at' hi) (λ_ _=>Def.s trivial)
  refine Def.c (λ_=>Def.s ⟨by omega,g4⟩) (λ_=>?_)
  refine Def.bd (Def.at' hi) (λy1 _=>?_)
  refine Def.bd (Def.at' hi) (λy2 _=>?_)
  refine Def.bd (Def.at' hi) (λy3 _=>?_)
  refine Def.bd (jP b (by omega)) (λd hd=>?_)
  refine Def.bd (P:=λ(k:Int)=>0<=k/\k<=m.length) ?_ (λk hk=>?_)
  ·refine Def.loop (λ(s:Int)=>0<=s/\s<=m.length) (λs=>(m.length - s).toNat) (λs hs=>?_) ⟨by decide,by simp⟩ (by simp;omega)
   obtain ⟨k0,k1⟩:=hs
   unfold lT
   refine Def.bd (P:=λc=>c=true->s<m.length) ?_ (λc hc=>?_)
   ·refine Def.c (λh=>?_) (λ_=>Def.s (λe=>by simp at e))
    have hs:=dT h
    refine Def.bd (Def.idx k0 hs) (λe he=>?_)
    exact Def.bd (zCt _ _ (by rw [g4 e he];decide)) (λ_ _=>Def.s (λ_=>hs))
   refine Def.c (λh=>Def.s ?_) (λ_=>Def.s ⟨k0,k1⟩)
   have:=hc h
   rw [zS (by omega) (by omega)]
   simp only
   omega
  refine Def.bd (P:=λ_=>True) ?_ (λc _=>?_)
  ·refine Def.c (λh=>?_) (λ_=>Def.s trivial)
   refine Def.bd (Def.idx hk.1 (dT h)) (λe he=>?_)
   exact Def.bd (zCt _ _ (by show d.length<_;omega)) (λ_ _=>Def.s trivial)
  refine Def.c (λ_=>Def.s ⟨by omega,g4⟩) (λ_=>?_)
  refine Def.bd (Def.sub (by decide) hk.1 hk.2) (λx hx=>?_)
  have hxl:(x.length:Int)=k:=by rw [hx];simp;omega
  have hxm:∀ e∈x,e∈m:=by
   intro e he
   rw [hx] at he
   exact List.mem_of_mem_drop (List.mem_of_mem_take he)
  refine Def.bd (Def.app (by simp;omega)) (λy hy=>?_)
  rw [List.nil_append] at hy
  subst hy
  refine Def.bd (Def.app (by simp;omega)) (λz hz=>?_)
  refine Def.bd (Def.sub hk.1 hk.2 (Int.le_refl _)) (λw hw=>?_)
  have hwl:(w.length:Int)=m.length - k:=by rw [hw];simp;omega
  have hwm:∀ e∈w,e∈m:=by
   intro e he
   rw [hw] at he
   exact List.mem_of_mem_drop (List.mem_of_mem_take he)
  have hzl:z.length=y.length+1:=by rw [hz];simp
  refine Def.bd (Def.app (by omega)) (λq hq=>Def.s ⟨?_,λe he=>?_⟩)
  ·rw [hq,List.length_append];omega
  ·rw [hq,List.mem_append,hz,List.mem_append] at he
   rcases he with (he | he) | he
   ·exact g4 e (hxm e he)
   ·simp at he;rw [he];exact hd
   ·exact g4 e (hwm e he)
 ·rw [yE (by omega)]
  exact ⟨⟨i+1,rfl,by omega,by simp only;omega,hr.2⟩,by simp only [Int.toNat_natCast];omega⟩
def MOk (m:api_Manifest):Prop:=∀ r∈m.Rules,r.Text.length<2 ^ 40
theorem zLt (c:sealwrightdraw_Codes) (hc:wS c):Def (rG c) (λr=>r.1.Text.length<2 ^ 40/\wS r.2):=by
 unfold rG
 refine Def.bd (zN _ 5 hc (by decide)) (λr hr=>?_)
 obtain ⟨v,c1⟩:=r
 obtain ⟨a1,a2,a3⟩:=hr
 simp only at a1 a2 a3
 refine Def.c (λ_=>Def.s ⟨by show ([]:List UInt8).length<2 ^ 40;simp,a3⟩) (λ_=>Def.c (λ_=>?_) (λ_=>Def.c (λ_=>?_) (λ_=>?_)))
 ·exact Def.bd (zDq _ a3) (λr hr=>Def.s ⟨by have:=hr.1.2.1;simp only;omega,hr.2⟩)
 ·refine Def.bd (zN _ 7 a3 (by decide)) (λr hr=>?_)
  obtain ⟨v2,c2⟩:=r
  obtain ⟨b1,b2,b3⟩:=hr
  simp only at b1 b2 b3
  refine Def.bd (Def.ixN b1 (by show _<((7:Nat):Int);omega)) (λj hj=>?_)
  exact Def.bd (Def.at (by have:=hj.2;simpa using this)) (λt ht=>Def.s ⟨by show t.length<2 ^ 40;revert t;decide,b3⟩)
 ·refine Def.bd (zN _ 20 a3 (by decide)) (λr hr=>?_)
  obtain ⟨v2,c2⟩:=r
  obtain ⟨b1,b2,b3⟩:=hr
  simp only at b1 b2 b3
  refine Def.bd (zN _ 3 b3 (by decide)) (λr hr=>?_)
  obtain ⟨v3,c3⟩:=r
  obtain ⟨d1,d2,d3⟩:=hr
  simp only at d1 d2 d3
  refine Def.bd (Def.idx d1 (by simpa using d2)) (λt ht=>?_)
  have htl:t.length<2 ^ 40:=by revert t;decide
  exact Def.bd (zN _ 30 d3 (by decide)) (λr hr=>Def.s ⟨htl,hr.2.2⟩)
theorem zFq (c:sealwrightdraw_Codes) (l:List api_Image) (hc:wS c) (h:GoodCh l):Def (vS c l) (λr=>MOk r.1/\wS r.2):=by
 unfold vS
 refine Def.bd (zN _ 4 hc (by decide)) (λr hr=>?_)
 obtain ⟨v,c1⟩:=r
 obtain ⟨a1,a2,a3⟩:=hr
 simp only at a1 a2 a3
 refine Def.bd (P:=λ_=>True) (Def.s trivial) (λvs _=>?_)
 refine Def.bd (zN _ 3 a3 (by decide)) (λr hr=>?_)
 obtain ⟨v2,c2⟩:=r
 obtain ⟨b1,b2,b3⟩:=hr
 simp only at b1 b2 b3
 refine Def.bd (Def.idx b1 (by simpa using b2)) (λvn _=>?_)
 refine Def.bd (zFk vn v l h) (λm hm=>?_)
 refine Def.bd (P:=λr=>wS ⟨r.1,r.2.1⟩) ?_ (λr hr=>?_)
 ·refine Def.bd (zN _ 3 b3 (by decide)) (λr hr=>?_)
  obtain ⟨v3,c3⟩:=r
  obtain ⟨d1,d2,d3⟩:=hr
  simp only at d1 d2 d3
  refine Def.c (λ_=>?_) (λ_=>Def.s d3)
  have e:IntKind.i64.wrap ((m.Entries.length:Int)+1)=(m.Entries.length:Int)+1:=zS (by omega) (by omega)
  refine Def.bd (zN _ _ d3 (by rw [e];omega)) (λr hr=>?_)
  obtain ⟨v4,c4⟩:=r
  obtain ⟨e1,e2,e3⟩:=hr
  simp only at e1 e2 e3
  rw [e] at e2
  exact Def.bd (Def.sub (by decide) e1 (by omega)) (λ_ _=>Def.s e3)
 obtain ⟨B,A,es⟩:=r
 have hr':wS ⟨B,A⟩:=hr
 have e:IntKind.i64.wrap (v+1)=v+1:=zS (by omega) (by omega)
 refine Def.bd (zN _ _ hr' (by rw [e];omega)) (λr hr=>?_)
 obtain ⟨v5,c5⟩:=r
 obtain ⟨_,_,f3⟩:=hr
 simp only at f3
 refine Def.bd (zN _ 12 f3 (by decide)) (λr hr=>?_)
 obtain ⟨v6,c6⟩:=r
 obtain ⟨_,_,f3⟩:=hr
 simp only at f3
 refine Def.bd (zN _ 30 f3 (by decide)) (λr hr=>?_)
 obtain ⟨v7,c7⟩:=r
 obtain ⟨_,_,f3⟩:=hr
 simp only at f3
 refine Def.bd (P:=λr=>wS ⟨r.1,r.2.1⟩) ?_ (λr hr=>?_)
 ·refine Def.bd (zN _ 2 f3 (by decide)) (λr hr=>?_)
  exact Def.c (λ_=>Def.s hr.2.2) (λ_=>Def.s hr.2.2)
 obtain ⟨B,A,m2⟩:=r
 have hr':wS ⟨B,A⟩:=hr
 refine Def.bd (zN _ 4 hr' (by decide)) (λr hr=>?_)
 obtain ⟨n,c8⟩:=r
 obtain ⟨g1,g2,g3⟩:=hr
 simp only at g1 g2 g3
 refine Def.bd (P:=λr=>(∀ x:api_Rule,x∈r.2.2->x.Text.length<2 ^ 40)/\wS ⟨r.1,r.2.1⟩) ?_ (λr hr=>Def.s ⟨λx hx=>hr.1 x hx,hr.2⟩)
 refine Def.loop (λs=>0<=s.1/\s.1+s.2.2.2.length<=4/\(∀ x∈s.2.2.2,x.Text.length<2 ^ 40)/\wS ⟨s.2.1,s.2.2.1⟩) (λs=>s.1.toNat) (λs hs=>?_) ⟨g1,by simp;omega,by simp,g3⟩ (by simp only;omega)
 obtain ⟨n,B,A,rs⟩:=s
 obtain ⟨k1,k2,k4,k3⟩:=hs
 simp only at k1 k2 k3 k4
 unfold qE
 refine Def.c (λh=>?_) (λ_=>Def.s ⟨k4,k3⟩)
 have:=dT h
 refine Def.bd (zLt _ k3) (λr hr=>?_)
 refine Def.bd (Def.app (by simp;omega)) (λq hq=>Def.s ?_)
 rw [zS (by omega) (by omega)]
 exact ⟨⟨by simp only;omega,by simp only [hq,List.length_append,List.length_cons,List.length_nil];omega,λx hx=>by
  simp only [hq] at hx
  rcases List.mem_append.1 hx with h | h
  ·exact k4 x h
  ·simp at h;subst h;exact hr.1,hr.2⟩,by simp only;omega⟩
def zO0 (ms:List api_Manifest):Prop:=ms.length<=5/\∀ m∈ms,MOk m
theorem zD8 (codes:List UInt8) (l:List api_Image) (h:GoodCh l):Def (pN codes l) zO0:=by
 unfold pN
 refine Def.bd (aY codes 120 (by decide) (by decide)) (λc hc=>?_)
 refine Def.bd (zN _ 5 hc (by decide)) (λr hr=>?_)
 obtain ⟨n,c8⟩:=r
 obtain ⟨g1,g2,g3⟩:=hr
 simp only at g1 g2 g3
 refine Def.bd (P:=zO0) ?_ (λ_ h=>Def.s h)
 refine Def.loop (λs=>0<=s.2.1/\s.2.1+s.1.length<=5/\(∀ m∈s.1,MOk m)/\wS ⟨s.2.2.1,s.2.2.2⟩) (λs=>s.2.1.toNat) (λs hs=>?_) ⟨g1,by simp;omega,by simp,g3⟩ (by simp only;omega)
 obtain ⟨ms,n,B,A⟩:=s
 obtain ⟨k1,k2,k4,k3⟩:=hs
 simp only at k1 k2 k3 k4
 unfold lB
 refine Def.c (λh=>?_) (λ_=>Def.s ⟨by show ms.length<=5;omega,k4⟩)
 have:=dT h
 refine Def.bd (zFq _ l k3 ‹GoodCh l›) (λr hr=>?_)
 refine Def.bd (Def.app (by simp;omega)) (λq hq=>Def.s ?_)
 rw [zS (by omega) (by omega)]
 exact ⟨⟨by simp only;omega,by simp only [hq,List.length_append,List.length_cons,List.length_nil];omega,λx hx=>by
  simp only [hq] at hx
  rcases List.mem_append.1 hx with h | h
  ·exact k4 x h
  ·simp at h;subst h;exact hr.1,hr.2⟩,by simp only;omega⟩
end Go.Proofs.TT
namespace Go.Proofs.TT
open Go Go.Sw
set_option maxRecDepth 100000
theorem zIr (active resets:Int):Def (nY active resets) (λr=>r.length<=11):=by
 unfold nY
 refine Def.bd (P:=λ_=>True) ?_ (λb _=>?_)
 ·exact Def.c (λ_=>Def.s trivial) (λ_=>Def.c (λ_=>Def.s trivial) (λ_=>Def.c (λ_=>Def.s trivial) (λ_=>Def.s trivial)))
 refine Def.c (λ_=>Def.s (by simp)) (λ_=>?_)
 refine Def.bd (Def.app (by simp)) (λa ha=>?_)
 have hal:a.length=5:=by rw [ha];rfl
 refine Def.bd (P:=λr=>r.length=11) (Def.of (vL a 6 resets (by omega) (by omega) (by omega)) (by rw [zU];omega)) (λr hr=>Def.s (by omega))
def uB (active a:Int):Bool:=yR .i64 (zY .i64 active (IntKind.u64.wrap a)) 1==1
def siz (a:Int):Int:=if a=0 then 20 else if a=1 then 32 else 0
theorem zBz (a:Int):pW a=some (siz a):=by
 unfold pW siz
 by_cases h0:a=0
 ·rw [if_pos h0];exact ct (by simp [h0]) rfl
 ·rw [if_neg h0]
  refine cf (by simp [h0]) ?_
  by_cases h1:a=1
  ·rw [if_pos h1];exact ct (by simp [h1]) rfl
  ·rw [if_neg h1];exact cf (by simp [h1]) rfl
def Fit (e:api_Event) (active:Int) (a:Nat):Prop:=((e.Digests.getD a []).length:Int)=if e.Kind≠5/\uB active (a:Int)=true then siz (a:Int) else 0
theorem zOa (e:api_Event) (active:Int):Def (sS e active) (λr=>r=true->e.Digests.length=2/\Fit e active 0/\Fit e active 1):=by
 unfold sS
 refine Def.c (λ_=>Def.s (λh=>by simp at h)) (λh=>?_)
 have hl:e.Digests.length=2:=by simp at h;omega
 refine Def.bd (P:=λr=>match r with | .inl b=>b=false | .inr _=>Fit e active 0/\Fit e active 1) ?_ (λr hr=>?_)
 ·refine Def.loop (λs=>∃ a:Nat,s=(a:Int)/\a<=2/\∀ b,b<a->Fit e active b) (λs=>2 - s.toNat) (λs hs=>?_) ⟨0,rfl,by omega,λb hb=>by omega⟩ (by simp)
  obtain ⟨a,rfl,ha,hf⟩:=hs
  unfold nN
  refine Def.c (λh=>?_) (λh=>Def.s ?_)
  ·have ha2:=dT h
   refine Def.bd (P:=λw=>w=if e.Kind≠5/\uB active (a:Int)=true then siz (a:Int) else 0) ?_ (λw hw=>?_)
   ·refine Def.bd (P:=λb=>b=true↔(e.Kind≠5/\uB active (a:Int)=true)) ?_ (λb hb=>?_)
    ·refine Def.c (λhk=>?_) (λhk=>Def.s ?_)
     ·refine Def.bd (P:=λb=>b=uB active (a:Int)) (Def.lt (Def.s rfl)) (λb hb=>Def.s ?_)
      have hk':e.Kind≠5:=by simpa using hk
      rw [hb]
      exact ⟨λh=>⟨hk',h⟩,λh=>h.2⟩
     ·have hk':e.Kind=5:=by simpa using hk
      exact ⟨λh=>by simp at h,λh=>absurd hk' h.1⟩
    ·refine Def.c (λh=>?_) (λh=>Def.s ?_)
     ·refine Def.bd (P:=λr=>r=siz (a:Int)) (Def.of (zBz _) rfl) (λr hr=>Def.s ?_)
      rw [if_pos (hb.mp h)];exact hr
     ·rw [if_neg (λh2=>by rw [hb.mpr h2] at h;cases h)]
   refine Def.bd (Def.at' (show a<e.Digests.length by omega)) (λd hd=>?_)
   refine Def.c (λ_=>Def.s rfl) (λhne=>Def.s ?_)
   have hne':(d.length:Int)=w:=by simpa using hne
   rw [yE (by omega)]
   refine ⟨⟨a+1,rfl,by omega,λb hb=>?_⟩,by simp only [Int.toNat_natCast];omega⟩
   by_cases hba:b<a
   ·exact hf b hba
   ·have:b=a:=by omega
    subst this
    unfold Fit
    rw [<- hw,<- hne',hd]
    have:b<e.Digests.length:=by omega
    simp [this]
  ·have:=dF h
   exact ⟨hf 0 (by omega),hf 1 (by omega)⟩
 ·cases r with
  | inl b=>exact Def.s (λh=>by rw [hr] at h;cases h)
  | inr u=>exact Def.s (λ_=>⟨hl,hr⟩)
structure EvGood (e:api_Event) (active:Int):Prop where
 r0:0<=e.Register
 r1:e.Register<=11
 d:e.Data.length<=64
 l:e.Digests.length=2
 f0:Fit e active 0
 f1:Fit e active 1
theorem zMs (e:api_Event) (active:Int):Def (oX e active) (λr=>r=0->EvGood e active):=by
 unfold oX
 refine Def.bd (P:=λb=>b=false->0<=e.Register/\e.Register<=11) ?_ (λb hb=>?_)
 ·refine Def.c (λ_=>Def.s (λh=>by cases h)) (λ_=>Def.c (λ_=>Def.s (λh=>by cases h)) (λ_=>Def.c (λ_=>Def.s (λh=>by cases h)) (λh1=>Def.c (λ_=>Def.s (λh=>by cases h)) (λh2=>Def.c (λ_=>Def.s (λh=>by cases h)) (λ_=>Def.s (λ_=>?_))))))
  have:=dF h1
  have:=dF h2
  omega
 refine Def.c (λ_=>Def.s (λh=>by cases h)) (λhbf=>?_)
 have hr:=hb hbf
 refine Def.c (λ_=>Def.s (λh=>by cases h)) (λhd=>?_)
 have hd':=dF hd
 refine Def.bd (zOa e active) (λf hf=>?_)
 refine Def.c (λ_=>Def.s (λh=>by cases h)) (λhft=>Def.s (λ_=>?_))
 obtain ⟨k1,k2,k3⟩:=hf (by simpa using hft)
 exact ⟨hr.1,hr.2,by omega,k1,k2,k3⟩
theorem zFf (e:api_Event):Def (tF e) (λr=>r.length<2 ^ 20):=by
 unfold tF
 refine Def.bd (P:=λb=>b=true->e.Digests.length=2) ?_ (λb hb=>?_)
 ·unfold mD
  refine Def.bd (P:=λb=>b=false->e.Digests.length=2) ?_ (λb hb=>?_)
  ·refine Def.c (λ_=>Def.s (λh=>by cases h)) (λ_=>Def.c (λ_=>Def.s (λh=>by cases h)) (λ_=>Def.c (λ_=>Def.s (λh=>by cases h)) (λh1=>Def.c (λ_=>Def.s (λh=>by cases h)) (λh2=>Def.c (λ_=>Def.s (λh=>by cases h)) (λ_=>Def.s (λh=>?_))))))
   simp at h
   omega
  refine Def.c (λ_=>Def.s (λh=>by cases h)) (λhbf=>?_)
  have hl:=hb hbf
  refine Def.bd (P:=λ_=>True) ?_ (λ_ _=>Def.s (λ_=>hl))
  refine Def.bd (Def.idx (by decide) (by omega)) (λ_ _=>?_)
  refine Def.c (λ_=>?_) (λ_=>Def.s trivial)
  exact Def.bd (Def.idx (by decide) (by omega)) (λ_ _=>Def.s trivial)
 refine Def.c (λ_=>Def.s (by simp)) (λhbt=>?_)
 have hl:=hb (by simpa using hbt)
 refine Def.bd (Def.idx (by decide) (by omega)) (λd0 _=>?_)
 refine Def.bd (P:=λr=>r.length<=2+65537) (Def.of (tL _ _ (by simp)) (uA _ _)) (λa ha=>?_)
 refine Def.bd (Def.idx (by decide) (by omega)) (λd1 _=>?_)
 refine Def.bd (P:=λr=>r.length<=a.length+65537) (Def.of (tL _ _ (by omega)) (uA _ _)) (λb hb=>?_)
 refine Def.bd (P:=λr=>r.length<=b.length+65537) (Def.of (tL _ _ (by omega)) (uA _ _)) (λc hc=>Def.s (by omega))
theorem zC5 (l:api_Log) (h:l.Events.length<2 ^ 20):Def (sG l) (λr=>r.1.length<=8192):=by
 unfold sG
 refine Def.bd (zIr _ _) (λhd hhd=>?_)
 refine Def.c (λ_=>Def.s (by simp)) (λ_=>?_)
 refine Def.bd (P:=λr=>match r with | .inl v=>v.1=[] | .inr _=>True) ?_ (λr hr=>?_)
 ·refine Def.loop (λs=>∃ a:Nat,s=(a:Int)/\a<=l.Events.length) (λs=>l.Events.length - s.toNat) (λs hs=>?_) ⟨0,rfl,by omega⟩ (by simp;omega)
  obtain ⟨a,rfl,ha⟩:=hs
  unfold iQ
  refine Def.c (λh=>?_) (λ_=>Def.s trivial)
  have:=dT h
  refine Def.bd (Def.idx (by omega) this) (λe _=>?_)
  refine Def.bd (zMs e _) (λr _=>?_)
  refine Def.c (λ_=>Def.s rfl) (λ_=>Def.s ?_)
  rw [yE (by omega)]
  exact ⟨⟨a+1,rfl,by omega⟩,by simp only [Int.toNat_natCast];omega⟩
 ·cases r with
  | inl v=>exact Def.s (by rw [hr];simp)
  | inr u=>
   refine Def.c (λ_=>Def.s (by simp)) (λh40=>?_)
   have h40':=dF h40
   refine Def.bd (P:=λb=>b.length<2 ^ 30) ?_ (λb hb=>Def.c (λ_=>Def.s (by simp)) (λh=>Def.s (by have:=dF h;simp only;omega)))
   obtain ⟨K,hK⟩:∃ K:Nat,K=65537:=⟨_,rfl⟩
   refine Def.loop (λs=>∃ a:Nat,s.2=(a:Int)/\a<=l.Events.length/\s.1.length<=11+K*a) (λs=>l.Events.length - s.2.toNat) (λs hs=>?_) ⟨0,rfl,by omega,by simpa using hhd⟩ (by simp;omega)
   obtain ⟨b,a'⟩:=s
   obtain ⟨a,g1,g2,g3⟩:=hs
   simp only at g1 g3
   subst g1
   have hKa:K*a<=K*40:=Nat.mul_le_mul_left K (by omega)
   unfold hH
   refine Def.c (λh=>?_) (λ_=>Def.s (by omega))
   have:=dT h
   refine Def.bd (Def.idx (by omega) this) (λe _=>?_)
   refine Def.bd (zFf e) (λx hx=>?_)
   refine Def.bd (P:=λr=>r.length<=b.length+65537) (Def.of (tL _ _ (by omega)) (uA _ _)) (λc hc=>Def.s ?_)
   rw [yE (by omega)]
   have hms:K*(a+1)=K*a+K:=Nat.mul_succ K a
   exact ⟨⟨a+1,rfl,by omega,by simp only;omega⟩,by simp only [Int.toNat_natCast];omega⟩
def bnk (n:Nat):List (List UInt8):=List.replicate 12 (List.replicate n 0)++List.replicate 4 (List.replicate n 255)
theorem new1:kX 1=some ⟨[bnk 20,[]],0⟩:=by decide +kernel
theorem new2:kX 2=some ⟨[[],bnk 32],0⟩:=by decide +kernel
theorem new3:kX 3=some ⟨[bnk 20,bnk 32],0⟩:=by decide +kernel
theorem sel1:vA 1=some ⟨4095,0⟩:=by decide +kernel
theorem sel2:vA 2=some ⟨0,4095⟩:=by decide +kernel
theorem sel3:vA 3=some ⟨4095,4095⟩:=by decide +kernel
structure BkOk (active:Int) (r:api_Registers):Prop where
 b:∃ b0 b1,r.Banks=[b0,b1]/\b0.length=(if uB active 0=true then 16 else 0)/\b1.length=(if uB active 1=true then 16 else 0)/\(∀ x∈b0,x.length<=32)/\(∀ x∈b1,x.length<=32)
theorem zM2 (b0 b1:List (List UInt8)) (u:Int):wO ⟨[b0,b1],u⟩ 0=some (decide (0<(b0.length:Int)))/\wO ⟨[b0,b1],u⟩ 1=some (decide (0<(b1.length:Int))):=⟨rfl,rfl⟩
theorem zJ7 (r:api_Registers) (b0 b1:List (List UInt8)) (hb:r.Banks=[b0,b1]) (l0:b0.length<=16) (l1:b1.length<=16) (h0:∀ x∈b0,x.length<=32) (h1:∀ x∈b1,x.length<=32):fV r=some (b0,b1,r.Updates):=by
 have cp:∀ x:List UInt8,x.length<=32->vX x=some x:=λx hx=>eM x (by omega)
 unfold fV
 refine ct (by rw [hb];rfl) ?_
 refine bd (a:=b0) ?_ ?_
 ·refine zT b0.length (λi=>(b0.take i,(i:Int))) (by simp) (λi hi=>?_) ?_ (xB (by omega))
  ·unfold iD
   rw [hb]
   refine bd (a:=b0) rfl ?_
   refine ct (dlt hi) ?_
   refine bd (a:=b0) rfl ?_
   refine bd (xL hi) ?_
   refine bd (cp _ (h0 _ (List.getElem_mem hi))) ?_
   refine bd (zW (by simp;omega)) ?_
   rw [yE (show i<2 ^ 40 by omega),List.take_add_one]
   simp [hi]
  ·unfold iD
   rw [hb]
   refine bd (a:=b0) rfl ?_
   refine cf (dge (Nat.le_refl _)) ?_
   simp
 refine ct (by rw [hb];rfl) ?_
 refine bd (a:=(b1,b0)) ?_ ?_
 ·refine zT b1.length (λi=>(b1.take i,(i:Int),b0)) (by simp) (λi hi=>?_) ?_ (xB (by omega))
  ·unfold jR
   rw [hb]
   refine bd (a:=b1) rfl ?_
   refine ct (dlt hi) ?_
   refine bd (a:=b1) rfl ?_
   refine bd (xL hi) ?_
   refine bd (cp _ (h1 _ (List.getElem_mem hi))) ?_
   refine bd (zW (by simp;omega)) ?_
   rw [yE (show i<2 ^ 40 by omega),List.take_add_one]
   simp [hi]
  ·unfold jR
   rw [hb]
   refine bd (a:=b1) rfl ?_
   refine cf (dge (Nat.le_refl _)) ?_
   simp
 exact cf (by rw [hb];rfl) rfl
theorem zIh (r:api_Registers) (active:Int) (e:api_Event) (hr:BkOk active r) (he:EvGood e active) (hk:e.Kind≠5):Def (lN r 0 e.Register e.Digests) (λx=>BkOk active x.1):=by
 obtain ⟨⟨b0,b1,hb,l0,l1,m0,m1⟩⟩:=hr
 obtain ⟨r0,r1,_,dl,f0,f1⟩:=he
 obtain ⟨bs,u⟩:=r
 simp only at hb
 subst hb
 have l0':b0.length<=16:=by rw [l0];split<;>omega
 have l1':b1.length<=16:=by rw [l1];split<;>omega
 unfold Fit at f0 f1
 have f0':((e.Digests.getD 0 []).length:Int)<=32:=by rw [f0];split<;>decide
 have f1':((e.Digests.getD 1 []).length:Int)<=32:=by rw [f1];split<;>decide
 have g0:∀ d∈e.Digests,d.length<=32:=by
  intro d hd
  obtain ⟨i,hi,rfl⟩:=List.mem_iff_getElem.mp hd
  have hi2:i=0∨i=1:=by omega
  rcases hi2 with rfl | rfl
  ·have:(e.Digests.getD 0 [])=e.Digests[0]:=by simp [hi]
   rw [<- this]
   omega
  ·have:(e.Digests.getD 1 [])=e.Digests[1]:=by simp [hi]
   rw [<- this]
   omega
 have i0:idx e.Digests 0=some (e.Digests.getD 0 []):=zMb (i:=0) (by omega)
 have i1:idx e.Digests 1=some (e.Digests.getD 1 []):=zMb (i:=1) (by omega)
 have a0:wO ⟨[b0,b1],u⟩ 0=some (uB active 0):=by
  rw [(zM2 b0 b1 u).1,l0];cases uB active 0<;>rfl
 have a1:wO ⟨[b0,b1],u⟩ 1=some (uB active 1):=by
  rw [(zM2 b0 b1 u).2,l1];cases uB active 1<;>rfl
 unfold lN
 refine Def.bd (P:=λb=>b=false) ?_ (λb hb=>?_)
 ·refine Def.c (λh=>by cases h) (λ_=>Def.c (λh=>by cases h) (λ_=>Def.c (λh=>?_) (λ_=>Def.c (λh=>?_) (λ_=>Def.s ?_))))
  ·have:=dT h;omega
  ·have:=dT h;omega
  ·simp;omega
 subst hb
 refine Def.c (λh=>by cases h) (λ_=>?_)
 refine Def.bd (P:=λn=>n=0) ?_ (λn hn=>?_)
 ·unfold cQ
  refine Def.bd (P:=λb=>b=false) (Def.s rfl) (λb hb=>?_)
  subst hb
  refine Def.c (λh=>by cases h) (λ_=>?_)
  have e14:(e.Register==14)=false:=by simp;omega
  have e15:(e.Register==15)=false:=by simp;omega
  rw [e14,e15]
  exact Def.s rfl
 subst hn
 refine Def.c (λh=>by cases h) (λ_=>?_)
 refine Def.bd (P:=λr=>r=.inr ()) ?_ (λr hr=>?_)
 ·refine Def.loop (λs=>s=0∨s=1∨s=2) (λs=>2 - s.toNat) (λs hs=>?_) (.inl rfl) (by simp)
  unfold gQ
  refine Def.c (λh=>?_) (λh=>Def.s rfl)
  refine Def.bd (P:=λb=>b=false) ?_ (λb hb=>?_)
  ·rcases hs with rfl | rfl | rfl
   ·refine Def.bd (P:=λb=>b=uB active 0) (Def.of a0 rfl) (λb hb=>?_)
    subst hb
    refine Def.c (λh=>?_) (λ_=>Def.s rfl)
    refine Def.bd (P:=λd=>d=e.Digests.getD 0 []) (Def.of i0 rfl) (λd hd=>Def.s ?_)
    have hh:uB active 0=false:=by simpa using h
    rw [if_neg (by show ¬ (e.Kind≠5/\uB active 0=true);rw [hh];simp)] at f0
    rw [decide_eq_false_iff_not,hd];omega
   ·refine Def.bd (P:=λb=>b=uB active 1) (Def.of a1 rfl) (λb hb=>?_)
    subst hb
    refine Def.c (λh=>?_) (λ_=>Def.s rfl)
    refine Def.bd (P:=λd=>d=e.Digests.getD 1 []) (Def.of i1 rfl) (λd hd=>Def.s ?_)
    have hh:uB active 1=false:=by simpa using h
    rw [if_neg (by show ¬ (e.Kind≠5/\uB active 1=true);rw [hh];simp)] at f1
    rw [decide_eq_false_iff_not,hd];omega
   ·cases h
  subst hb
  refine Def.s ?_
  rcases hs with rfl | rfl | rfl
  ·exact ⟨.inr (.inl rfl),by decide⟩
  ·exact ⟨.inr (.inr rfl),by decide⟩
  ·cases h
 subst hr
 refine Def.bd (P:=λr=>r=.inr ()) ?_ (λr hr=>?_)
 ·refine Def.loop (λs=>s=0∨s=1∨s=2) (λs=>2 - s.toNat) (λs hs=>?_) (.inl rfl) (by simp)
  unfold gN
  refine Def.c (λh=>?_) (λh=>Def.s rfl)
  refine Def.bd (P:=λb=>b=false) ?_ (λb hb=>?_)
  ·rcases hs with rfl | rfl | rfl
   ·refine Def.bd (P:=λb=>b=uB active 0) (Def.of a0 rfl) (λb hb=>?_)
    subst hb
    refine Def.c (λh=>?_) (λ_=>Def.s rfl)
    refine Def.bd (P:=λd=>d=e.Digests.getD 0 []) (Def.of i0 rfl) (λd hd=>?_)
    refine Def.bd (P:=λd=>d=siz 0) (Def.of (zBz 0) rfl) (λz hz=>Def.s ?_)
    rw [if_pos ⟨hk,h⟩] at f0
    rw [hd,hz];simp;exact f0
   ·refine Def.bd (P:=λb=>b=uB active 1) (Def.of a1 rfl) (λb hb=>?_)
    subst hb
    refine Def.c (λh=>?_) (λ_=>Def.s rfl)
    refine Def.bd (P:=λd=>d=e.Digests.getD 1 []) (Def.of i1 rfl) (λd hd=>?_)
    refine Def.bd (P:=λd=>d=siz 1) (Def.of (zBz 1) rfl) (λz hz=>Def.s ?_)
    rw [if_pos ⟨hk,h⟩] at f1
    rw [hd,hz];simp;exact f1
   ·cases h
  subst hb
  refine Def.s ?_
  rcases hs with rfl | rfl | rfl
  ·exact ⟨.inr (.inl rfl),by decide⟩
  ·exact ⟨.inr (.inr rfl),by decide⟩
  ·cases h
 subst hr
 refine Def.bd (P:=λx=>x=(b0,b1,u)) (Def.of (zJ7 _ b0 b1 rfl l0' l1' m0 m1) rfl) (λx hx=>?_)
 subst hx
 refine Def.bd (P:=λb=>b.length=b0.length/\∀ x∈b,x.length<=32) ?_ (λc0 hc0=>?_)
 ·refine Def.bd (P:=λb=>b=uB active 0) (Def.of a0 rfl) (λb hb=>?_)
  subst hb
  refine Def.c (λh=>?_) (λ_=>Def.s ⟨rfl,m0⟩)
  rw [if_pos h] at l0
  refine Def.bd (P:=λb=>b=b0) (Def.s rfl) (λb hb=>?_)
  subst hb
  refine Def.bd (Def.idx r0 (by omega)) (λx hx=>?_)
  have:=m0 x hx
  refine Def.bd (P:=λy=>y=x) (Def.of (eM x (by omega)) rfl) (λy hy=>?_)
  subst hy
  refine Def.bd (P:=λd=>d∈e.Digests) (Def.idx (by decide) (by omega)) (λd hd=>?_)
  have:=g0 d hd
  refine Def.bd (Def.app (by omega)) (λz hz=>?_)
  have hzl:z.length=y.length+d.length:=by rw [hz];simp
  refine Def.bd (zB2 0 z (by omega)) (λs hs=>?_)
  refine Def.bd (Def.ixN r0 (by omega)) (λj hj=>?_)
  refine Def.bd (Def.upd hj.2) (λq hq=>Def.s ⟨by rw [hq];simp,λx hx=>?_⟩)
  rw [hq] at hx
  rcases List.mem_or_eq_of_mem_set hx with hx | hx
  ·exact m0 x hx
  ·rw [hx];exact hs.1
 refine Def.bd (P:=λb=>b.length=b1.length/\∀ x∈b,x.length<=32) ?_ (λc1 hc1=>?_)
 ·refine Def.bd (P:=λb=>b=uB active 1) (Def.of a1 rfl) (λb hb=>?_)
  subst hb
  refine Def.c (λh=>?_) (λ_=>Def.s ⟨rfl,m1⟩)
  rw [if_pos h] at l1
  refine Def.bd (P:=λb=>b=b1) (Def.s rfl) (λb hb=>?_)
  subst hb
  refine Def.bd (Def.idx r0 (by omega)) (λx hx=>?_)
  have:=m1 x hx
  refine Def.bd (P:=λy=>y=x) (Def.of (eM x (by omega)) rfl) (λy hy=>?_)
  subst hy
  refine Def.bd (P:=λd=>d∈e.Digests) (Def.idx (by decide) (by omega)) (λd hd=>?_)
  have:=g0 d hd
  refine Def.bd (Def.app (by omega)) (λz hz=>?_)
  have hzl:z.length=y.length+d.length:=by rw [hz];simp
  refine Def.bd (zB2 1 z (by omega)) (λs hs=>?_)
  refine Def.bd (Def.ixN r0 (by omega)) (λj hj=>?_)
  refine Def.bd (Def.upd hj.2) (λq hq=>Def.s ⟨by rw [hq];simp,λx hx=>?_⟩)
  rw [hq] at hx
  rcases List.mem_or_eq_of_mem_set hx with hx | hx
  ·exact m1 x hx
  ·rw [hx];exact hs.1
 exact Def.s ⟨⟨c0,c1,rfl,by rw [hc0.1,l0],by rw [hc1.1,l1],hc0.2,hc1.2⟩⟩
end Go.Proofs.TT
namespace Go.Proofs.TT
open Go Go.Sw
set_option maxRecDepth 100000
theorem zOt {a:Int} (h1:1<=a) (h3:a<=3):a=1∨a=2∨a=3:=by omega
theorem lG (n:Nat):(bnk n).length=16:=by simp [bnk]
theorem fS (n:Nat) (h:n<=32):∀ x∈bnk n,x.length<=32:=by
 intro x hx
 simp only [bnk,List.mem_append,List.mem_replicate] at hx
 rcases hx with ⟨_,rfl⟩ | ⟨_,rfl⟩<;>simp [h]
theorem zSl (active:Int) (h1:1<=active) (h3:active<=3):Def (kX active) (BkOk active):=by
 rcases zOt h1 h3 with rfl | rfl | rfl
 ·exact Def.of new1 ⟨⟨_,_,rfl,lG 20,rfl,fS 20 (by omega),by simp⟩⟩
 ·exact Def.of new2 ⟨⟨_,_,rfl,rfl,lG 32,by simp,fS 32 (by omega)⟩⟩
 ·exact Def.of new3 ⟨⟨_,_,rfl,lG 20,lG 32,fS 20 (by omega),fS 32 (by omega)⟩⟩
theorem zH9 (l:api_Log) (h:l.Events.length<2 ^ 20) (h1:1<=l.Active) (h3:l.Active<=3):Def (nT l) (λr=>r.2=0->BkOk l.Active r.1):=by
 unfold nT
 refine Def.bd (P:=λb=>b=false) ?_ (λb hb=>?_)
 ·refine Def.c (λh=>by have:=dT h;omega) (λ_=>Def.s ?_)
  rw [decide_eq_false_iff_not];omega
 subst hb
 refine Def.c (λh=>by cases h) (λ_=>?_)
 refine Def.bd (P:=λr=>match r with | .inl v=>v.2≠0 | .inr _=>∀ e∈l.Events,EvGood e l.Active) ?_ (λr hr=>?_)
 ·refine Def.loop (λs=>∃ a:Nat,s=(a:Int)/\a<=l.Events.length/\∀ e∈l.Events.take a,EvGood e l.Active) (λs=>l.Events.length - s.toNat) (λs hs=>?_) ⟨0,rfl,by omega,by simp⟩ (by simp;omega)
  obtain ⟨a,rfl,ha,hg⟩:=hs
  unfold iR
  refine Def.c (λh=>?_) (λh=>Def.s ?_)
  ·have ha2:a<l.Events.length:=by have:=dT h;omega
   refine Def.bd (Def.at' ha2) (λe he=>?_)
   subst he
   refine Def.bd (zMs _ _) (λr hr=>?_)
   refine Def.c (λhz=>Def.s (by simpa using hz)) (λhz=>Def.s ?_)
   have hz':r=0:=by simpa using hz
   rw [yE (by omega)]
   refine ⟨⟨a+1,rfl,by omega,λe he=>?_⟩,by simp only [Int.toNat_natCast];omega⟩
   rcases oD ha2 he with he | rfl
   ·exact hg e he
   ·exact hr hz'
  ·have:=dF h
   rw [List.take_of_length_le (by omega)] at hg
   exact hg
 cases r with
 | inl v=>exact Def.s (λh=>absurd h hr)
 | inr u=>
  have hr':∀ e∈l.Events,EvGood e l.Active:=hr
  refine Def.bd (zSl _ h1 h3) (λrg hrg=>?_)
  refine Def.bd (P:=λr=>BkOk l.Active ⟨r.1,r.2⟩) ?_ (λr hr=>Def.s (λ_=>hr))
  refine Def.loop (λs=>∃ a:Nat,s.1=(a:Int)/\a<=l.Events.length/\BkOk l.Active ⟨s.2.1,s.2.2⟩) (λs=>l.Events.length - s.1.toNat) (λs hs=>?_) ⟨0,rfl,by omega,hrg⟩ (by simp;omega)
  obtain ⟨a',bs,up⟩:=s
  obtain ⟨a,g1,g2,g3⟩:=hs
  simp only at g1 g3
  subst g1
  unfold iZ
  refine Def.c (λh=>?_) (λh=>Def.s g3)
  have ha2:a<l.Events.length:=by have:=dT h;omega
  refine Def.bd (P:=λr=>BkOk l.Active ⟨r.1,r.2⟩) ?_ (λr hr=>Def.s ?_)
  ·refine Def.bd (Def.at' ha2) (λe he=>?_)
   subst he
   refine Def.c (λhk=>?_) (λ_=>Def.s g3)
   have hk':l.Events[a].Kind≠5:=by simpa using hk
   refine Def.bd (Def.at' ha2) (λe he=>?_)
   subst he
   refine Def.bd (Def.at' ha2) (λe he=>?_)
   subst he
   exact Def.bd (zIh _ l.Active _ g3 (hr' _ (List.getElem_mem ha2)) hk') (λr hr=>Def.s hr)
  ·rw [yE (by omega)]
   exact ⟨⟨a+1,rfl,by omega,hr⟩,by simp only [Int.toNat_natCast];omega⟩
theorem bit0 (x:Int):(yR .i64 (zY .i64 0 x) 1==1)=false:=by
 unfold zY
 rw [Int.zero_fdiv]
 decide
def xD (active a:Int):Int:=if uB active a=true then 4095 else 0
theorem zOd (active:Int) (h1:1<=active) (h3:active<=3):vA active=some ⟨xD active 0,xD active 1⟩:=by
 rcases zOt h1 h3 with rfl | rfl | rfl
 ·exact sel1
 ·exact sel2
 ·exact sel3
theorem zPb (r:api_Registers) (s:A2 Int) (a:Int) (v:Int) (bk:List (List UInt8)) (hv:((ixN 2 a).bind λj=>[s.a0,s.a1][j]?)=some v) (hi:idx r.Banks a=some bk) (hz:v=0∨bk.length=16) (hb:∀ x∈bk,x.length<=32) (all:List UInt8) (hl:all.length<=600) :
  Def (zG (mI r s a) FU (all,0)) (λo=>o.length<=all.length+512):=by
 refine Def.loop (λst=>0<=st.2/\st.2<=16/\(st.1.length:Int)<=all.length+32*st.2) (λst=>(16 - st.2).toNat) (λst hs=>?_) ⟨Int.le_refl 0,by simp,by simp⟩ (by simp)
 obtain ⟨o,i⟩:=st
 obtain ⟨g1,g2,g3⟩:=hs
 simp only at g1 g2 g3
 unfold mI
 refine Def.c (λh=>?_) (λh=>Def.s (by omega))
 have hi16:=dT h
 refine Def.bd (P:=λx=>(x.length:Int)<=o.length+32) ?_ (λx hx=>Def.s ?_)
 ·have e:∀ (f:Int->Option (List UInt8)),((ixN 2 a).bind λj=>([s.a0,s.a1][j]?).bind f)=f v:=by
   intro f
   rw [<- Option.bind_assoc,hv];rfl
  rw [e]
  refine Def.c (λhbit=>?_) (λ_=>Def.s (by omega))
  have h16:bk.length=16:=by
   rcases hz with h | h
   ·rw [h,bit0] at hbit;cases hbit
   ·exact h
  refine Def.bd (P:=λx=>x=bk) (Def.of hi rfl) (λx hx=>?_)
  subst hx
  refine Def.bd (Def.idx g1 (by omega)) (λy hy=>?_)
  have:=hb y hy
  exact Def.bd (Def.app (by omega)) (λz hz=>Def.s (by rw [hz,List.length_append];omega))
 ·rw [zS (by omega) (by omega)]
  exact ⟨⟨by simp only;omega,by simp only;omega,by simp only;omega⟩,by simp only;omega⟩
theorem zHq (r:api_Registers) (active:Int) (hr:BkOk active r):Def (lX r ⟨xD active 0,xD active 1⟩) (λx=>x.1.length=32∨x.1.length=0):=by
 obtain ⟨⟨b0,b1,hb,l0,l1,m0,m1⟩⟩:=hr
 obtain ⟨bs,u⟩:=r
 simp only at hb
 subst hb
 have s0:0<=xD active 0/\xD active 0<=65535:=by unfold xD;split<;>decide
 have s1:0<=xD active 1/\xD active 1<=65535:=by unfold xD;split<;>decide
 have z0:xD active 0=0∨b0.length=16:=by unfold xD;split at l0<;>simp_all
 have z1:xD active 1=0∨b1.length=16:=by unfold xD;split at l1<;>simp_all
 generalize xD active 0=x0 at s0 z0
 generalize xD active 1=x1 at s1 z1
 unfold lX
 refine Def.bd (P:=λr=>r=.inr ()) ?_ (λr hr=>?_)
 ·refine Def.loop (λs=>s=0∨s=1∨s=2) (λs=>2 - s.toNat) (λs hs=>?_) (.inl rfl) (by simp)
  unfold gU
  refine Def.c (λh=>?_) (λh=>Def.s rfl)
  refine Def.bd (P:=λb=>b=false) ?_ (λb hb=>?_)
  ·rcases hs with rfl | rfl | rfl
   ·refine Def.c (b:=decide (x0<0)) (λh=>by have:=dT h;omega) (λ_=>?_)
    refine Def.of (a:=decide (65535<x0)) rfl ?_
    rw [decide_eq_false_iff_not];omega
   ·refine Def.c (b:=decide (x1<0)) (λh=>by have:=dT h;omega) (λ_=>?_)
    refine Def.of (a:=decide (65535<x1)) rfl ?_
    rw [decide_eq_false_iff_not];omega
   ·cases h
  subst hb
  refine Def.s ?_
  rcases hs with rfl | rfl | rfl
  ·exact ⟨.inr (.inl rfl),by decide⟩
  ·exact ⟨.inr (.inr rfl),by decide⟩
  ·cases h
 subst hr
 refine Def.bd (P:=λr=>match r with | .inl v=>v.1.length=0 | .inr o=>o.length<=1100) ?_ (λr hr=>?_)
 ·refine Def.loop (λs=>(s.2=0/\s.1=[])∨(s.2=1/\s.1.length<=512)∨(s.2=2/\s.1.length<=1024)) (λs=>2 - s.2.toNat) (λs hs=>?_) (.inl ⟨rfl,rfl⟩) (by simp)
  obtain ⟨o,a⟩:=s
  simp only at hs
  unfold fK
  refine Def.c (λh=>?_) (λh=>Def.s ?_)
  ·refine Def.bd (P:=λ_=>True) ?_ (λb _=>?_)
   ·rcases hs with ⟨rfl,_⟩ | ⟨rfl,_⟩ | ⟨rfl,_⟩
    ·refine Def.c (b:=x0 != 0) (λ_=>?_) (λ_=>Def.s trivial)
     exact Def.of (a:=!(decide (0<(b0.length:Int)))) rfl trivial
    ·refine Def.c (b:=x1 != 0) (λ_=>?_) (λ_=>Def.s trivial)
     exact Def.of (a:=!(decide (0<(b1.length:Int)))) rfl trivial
    ·cases h
   refine Def.c (λ_=>Def.s rfl) (λ_=>?_)
   rcases hs with ⟨rfl,rfl⟩ | ⟨rfl,ho⟩ | ⟨rfl,_⟩
   ·refine Def.bd (zPb _ _ 0 x0 b0 rfl rfl z0 m0 [] (by simp)) (λq hq=>Def.s ?_)
    exact ⟨.inr (.inl ⟨rfl,by simpa using hq⟩),by show 2 - (IntKind.i64.wrap (0+1)).toNat<2 - (0:Int).toNat;decide⟩
   ·refine Def.bd (zPb _ _ 1 x1 b1 rfl rfl z1 m1 o (by omega)) (λq hq=>Def.s ?_)
    exact ⟨.inr (.inr ⟨rfl,by simp only;omega⟩),by show 2 - (IntKind.i64.wrap (1+1)).toNat<2 - (1:Int).toNat;decide⟩
   ·cases h
  ·rcases hs with ⟨rfl,_⟩ | ⟨rfl,_⟩ | ⟨rfl,ho⟩
   ·cases h
   ·cases h
   ·simp only;omega
 cases r with
 | inl v=>exact Def.s (.inr hr)
 | inr o=>
  have hr':o.length<=1100:=hr
  refine Def.bd (P:=λx=>x=x0) (Def.s rfl) (λx _=>?_)
  refine Def.bd (P:=λx=>x.length=2) (Def.of (vL [] 2 _ (by omega) (by omega) (by simp)) (by rw [zU];rfl)) (λa ha=>?_)
  refine Def.bd (P:=λx=>x=x1) (Def.s rfl) (λx _=>?_)
  refine Def.bd (P:=λx=>x.length=4) (Def.of (vL a 2 _ (by omega) (by omega) (by omega)) (by rw [zU];omega)) (λb hb=>?_)
  exact Def.bd (P:=λx=>x.length=32) (Def.of (mZ _ _ (by rw [zJ5];omega)) (zAd _ _)) (λq hq=>Def.s (.inl hq))
theorem zFp (l:api_Log) (h:l.Events.length<2 ^ 20) (h1:1<=l.Active) (h3:l.Active<=3):Def (wU l ⟨xD l.Active 0,xD l.Active 1⟩) (λ_=>True):=by
 unfold wU
 refine Def.bd (zH9 l h h1 h3) (λr hr=>?_)
 obtain ⟨rg,e⟩:=r
 refine Def.c (λ_=>Def.s trivial) (λhe=>?_)
 have he':e=0:=by simpa using he
 exact Def.bd (zHq rg l.Active (hr he')) (λ_ _=>Def.s trivial)
theorem zCa (i:Int):Def (xV i) (λr=>r.length=32):=by
 unfold xV
 exact Def.bd (jP _ (by simp)) (λr hr=>Def.s hr)
theorem gV (i:Int):Def (vI i) (λp=>p.Unique.length=17):=by
 unfold vI
 refine Def.bd (zCa i) (λr hr=>?_)
 exact Def.bd (P:=λx=>x.length=17) (Def.of (zA5 r (by omega)) (gL r)) (λx hx=>Def.s hx)
theorem zKj (l:api_Log) (machine key:Int) (nonce:List UInt8) (h:l.Events.length<2 ^ 20) (h1:1<=l.Active) (h3:l.Active<=3) (hn:nonce.length<2 ^ 30):Def (rN l machine key nonce) (λa=>a.Key.length=32/\a.Nonce.length=32/\a.Digest.length=32):=by
 unfold rN
 refine Def.bd (zC5 l h) (λr hr=>?_)
 obtain ⟨b,e⟩:=r
 have hb:b.length<=8192:=hr
 refine Def.bd (P:=λs=>s=⟨xD l.Active 0,xD l.Active 1⟩) (Def.of (zOd _ h1 h3) rfl) (λs hs=>?_)
 subst hs
 refine Def.bd (zFp l h h1 h3) (λr _=>?_)
 obtain ⟨d,e2⟩:=r
 refine Def.bd (P:=λd=>d.length=32) ?_ (λd hd=>?_)
 ·refine Def.c (λ_=>?_) (λhd=>Def.s (by simp at hd;omega))
  exact Def.bd (Def.mkN (by decide) (by decide)) (λn hn=>Def.s (by rw [hn];simp))
 refine Def.bd (gV key) (λp hp=>?_)
 refine Def.bd (P:=λx=>x.length=32) (Def.of (zBb _) (zAd _ _)) (λk hk=>?_)
 refine Def.bd (P:=λx=>x.length=32) (Def.of (zEm _ _ _ hn (by omega)) (zAd _ _)) (λn hn=>?_)
 exact Def.s ⟨hk,hn,hd⟩
end Go.Proofs.TT
namespace Go.Proofs.TT
open Go Go.Sw
set_option maxRecDepth 100000
theorem uD (b:List UInt8) (size:Nat) (n:Int) (h1:1<=size) (h8:size<=8) (hb:b.length<2 ^ 40):Def (xI b (size:Int) n) (λr=>r.length=b.length+size):=Def.of (vL b size n h1 h8 hb) (zU _ _ _)
theorem bD (b x:List UInt8) (hb:b.length<2 ^ 39):Def (x9 b x) (λr=>r.length<=b.length+65537):=Def.of (tL b x hb) (uA _ _)
theorem zLo (a:api_Attest) (hd:a.Digest.length=32):Def (sI a) (λr=>r.length<2 ^ 20):=by
 unfold sI
 refine Def.bd (P:=λr=>r.length=4) (Def.s rfl) (λb0 h0=>?_)
 refine Def.bd (bD b0 _ (by omega)) (λb1 h1=>?_)
 refine Def.bd (bD b1 _ (by omega)) (λb2 h2=>?_)
 refine Def.bd (uD b2 8 _ (by omega) (by omega) (by omega)) (λb3 h3=>?_)
 refine Def.bd (uD b3 8 _ (by omega) (by omega) (by omega)) (λb4 h4=>?_)
 refine Def.bd (uD b4 8 _ (by omega) (by omega) (by omega)) (λb5 h5=>?_)
 refine Def.bd (P:=λ_=>True) (Def.c (λ_=>Def.s trivial) (λ_=>Def.s trivial)) (λsf _=>?_)
 refine Def.bd (Def.app (by simp;omega)) (λb6 h6=>?_)
 have h6':b6.length=b5.length+1:=by rw [h6];simp
 refine Def.bd (uD b6 8 _ (by omega) (by omega) (by omega)) (λb7 h7=>?_)
 refine Def.bd (uD b7 2 _ (by omega) (by omega) (by omega)) (λb8 h8=>?_)
 refine Def.bd (uD b8 2 _ (by omega) (by omega) (by omega)) (λb9 h9=>?_)
 exact Def.bd (Def.app (by omega)) (λq hq=>Def.s (by rw [hq,List.length_append];omega))
theorem zFo (l:api_Log) (machine key leaf:Int) (a:api_Attest) (h:l.Events.length<2 ^ 20) (hd:a.Digest.length=32) (h0:0<=leaf) (h1:leaf<=1):Def (vR l machine key leaf a) (λx=>x.Attest.length<2 ^ 20/\x.Signature.length<2 ^ 20/\x.Log.length<=8192):=by
 unfold vR
 refine Def.bd (zC5 l h) (λr hr=>?_)
 obtain ⟨b,e⟩:=r
 refine Def.bd (zLo a hd) (λm hm=>?_)
 refine Def.bd (zCa key) (λs hs=>?_)
 obtain ⟨n,rfl⟩:=Int.eq_ofNat_of_zero_le h0
 have e:yR .i64 (n:Int) 1=((n % 2:Nat):Int):=zPh n (by omega)
 rw [e]
 refine Def.bd (P:=λx=>x.length=577) (Def.of (zEy s (n % 2) m (by omega) (by omega) (by omega)) (zHp _ _ _ (by omega))) (λg hg=>?_)
 exact Def.s ⟨hm,by simp only;omega,hr⟩
theorem zOu (b:List UInt8) (n:Int) (h0:0<=n) (h:n<2 ^ 20):Def (aK b n) (λr=>r.length<=b.length/\r.length<2 ^ 20):=by
 unfold aK
 refine Def.c (λh=>?_) (λh=>Def.s ?_)
 ·have:=dT h
  refine Def.bd (Def.sub (by decide) h0 (by omega)) (λx hx=>Def.s ?_)
  have:x.length<=n.toNat/\x.length<=b.length:=by rw [hx];simp;omega
  omega
 ·have:=dF h
  omega
theorem zNc (b:List UInt8):Def (eB b) (λ_=>True):=by
 unfold eB
 refine Def.bd (Def.mkN (by decide) (by decide)) (λn hn=>?_)
 refine Def.bd (Def.ck (zC7 (by simp))) (λ_ _=>?_)
 refine Def.lt ?_
 refine Def.bd (Def.ck (zC7 (by rw [zJe];simp))) (λ_ _=>?_)
 exact Def.bd (Def.ck (cV (by
                 have e:(32:Int).toNat=32:=rfl
                 omega))) (λ_ _=>Def.s trivial)
theorem zLe (key n:Int) (a1:List UInt8) (a2 a3 a4 a5:Int) (dg:List UInt8) (ac:Int) (es:List api_Event) (c:sealwrightdraw_Codes) (hc:wS c) (h0:0<=n) (hn:n<=2) (hd:dg.length=32) (he:es.length<=200) :
  Def (zG l6 FU (key,n,a1,a2,a3,a4,a5,dg,ac,es,c.B,c.At)) (λr=>r.2.2.2.2.2.2.1.length=32/\r.2.2.2.2.2.2.2.2.1.length<=300/\wS ⟨r.2.2.2.2.2.2.2.2.2.1,r.2.2.2.2.2.2.2.2.2.2⟩):=by
 refine Def.loop (λs=>0<=s.2.1/\s.2.1<=2/\s.2.2.2.2.2.2.2.1.length=32/\(s.2.2.2.2.2.2.2.2.2.1.length:Int)+s.2.1<=300/\wS ⟨s.2.2.2.2.2.2.2.2.2.2.1,s.2.2.2.2.2.2.2.2.2.2.2⟩) (λs=>s.2.1.toNat) (λs hs=>?_) ⟨h0,hn,hd,by simp only;omega,hc⟩ (by simp only;omega)
 obtain ⟨key,n,a1,a2,a3,a4,a5,dg,ac,es,B,A⟩:=s
 obtain ⟨g1,g2,g3,g4,g5⟩:=hs
 simp only at g1 g2 g3 g4 g5
 unfold l6
 refine Def.c (λh=>?_) (λh=>Def.s ⟨g3,by simp only;omega,g5⟩)
 have hn:=dT h
 refine Def.bd (zN _ 9 g5 (by decide)) (λr hr=>?_)
 obtain ⟨v,c1⟩:=r
 obtain ⟨k1,k2,k3⟩:=hr
 simp only at k1 k2 k3
 refine Def.bd (P:=λr=>r.2.2.2.2.2.2.1.length=32/\(r.2.2.2.2.2.2.2.2.1.length:Int)<=es.length+1/\wS ⟨r.2.2.2.2.2.2.2.2.2.1,r.2.2.2.2.2.2.2.2.2.2⟩) ?_ (λr hr=>?_)
 ·have le:(es.length:Int)<=es.length+1:=by omega
  refine Def.c (λ_=>?_) (λ_=>Def.c (λ_=>?_) (λ_=>Def.c (λ_=>?_) (λ_=>Def.c (λ_=>?_) (λ_=>Def.c (λ_=>?_) (λ_=>Def.c (λ_=>?_) (λ_=>Def.c (λ_=>?_) (λ_=>Def.c (λ_=>?_) (λ_=>?_))))))))
  ·refine Def.bd (zN _ 5 k3 (by decide)) (λr hr=>?_)
   exact Def.bd (zNc _) (λ_ _=>Def.s ⟨g3,le,hr.2.2⟩)
  ·exact Def.bd (zN _ 3 k3 (by decide)) (λr hr=>Def.s ⟨g3,le,hr.2.2⟩)
  ·exact Def.bd (zN _ 3 k3 (by decide)) (λr hr=>Def.s ⟨g3,le,hr.2.2⟩)
  ·refine Def.bd (zN _ 2 k3 (by decide)) (λr hr=>?_)
   obtain ⟨v2,c2⟩:=r
   obtain ⟨m1,m2,m3⟩:=hr
   simp only at m1 m2 m3
   refine Def.c (λ_=>?_) (λhz=>Def.c (λ_=>?_) (λho=>?_))
   ·exact Def.bd (zN _ 13 m3 (by decide)) (λr hr=>Def.s ⟨g3,le,hr.2.2⟩)
   ·exact Def.bd (zN _ 13 m3 (by decide)) (λr hr=>Def.s ⟨g3,le,hr.2.2⟩)
   ·simp at hz ho;omega
  ·refine Def.bd (Def.app (by simp;omega)) (λx hx=>?_)
   rw [List.nil_append] at hx
   subst hx
   refine Def.bd (zN _ 32 k3 (by decide)) (λr hr=>?_)
   obtain ⟨v2,c2⟩:=r
   obtain ⟨m1,m2,m3⟩:=hr
   simp only at m1 m2 m3
   refine Def.bd (Def.ixN m1 (by omega)) (λj hj=>?_)
   refine Def.bd (Def.at hj.2) (λy _=>?_)
   refine Def.bd (Def.ixN m1 (by omega)) (λj hj=>?_)
   exact Def.bd (Def.upd hj.2) (λz hz=>Def.s ⟨by simp only [hz,List.length_set];exact g3,le,m3⟩)
  ·exact Def.bd (zN _ 12 k3 (by decide)) (λr hr=>Def.s ⟨g3,le,hr.2.2⟩)
  ·have e:IntKind.i64.wrap ((es.length:Int)+1)=(es.length:Int)+1:=zS (by omega) (by omega)
   refine Def.bd (zN _ _ k3 (by rw [e];omega)) (λr hr=>?_)
   obtain ⟨v2,c2⟩:=r
   obtain ⟨m1,m2,m3⟩:=hr
   simp only at m1 m2 m3
   rw [e] at m2
   refine Def.bd (Def.sub (by decide) m1 (by omega)) (λx hx=>Def.s ⟨g3,?_,m3⟩)
   simp only [hx,List.length_take,List.length_drop];omega
  ·refine Def.bd (Def.app (by simp;omega)) (λx hx=>?_)
   rw [List.nil_append] at hx
   subst hx
   refine Def.bd (zAo _ ac k3) (λr hr=>?_)
   exact Def.bd (Def.app (by simp;omega)) (λy hy=>Def.s ⟨g3,by simp only [hy,List.length_append,List.length_cons,List.length_nil];omega,hr⟩)
  ·exact Def.bd (zN _ 3 k3 (by decide)) (λr hr=>Def.s ⟨g3,le,hr.2.2⟩)
 ·obtain ⟨key',a1',a2',a3',a4',a5',dg',ac',es',B',A'⟩:=r
  obtain ⟨p1,p2,p3⟩:=hr
  simp only at p1 p2 p3
  refine Def.s ?_
  rw [zS (by omega) (by omega)]
  exact ⟨⟨by simp only;omega,by simp only;omega,p1,by simp only;omega,p3⟩,by simp only;omega⟩
theorem zKy (codes:List UInt8) (l:api_Log) (machine:Int) (nonce:List UInt8) (he:l.Events.length<=200) (h1:1<=l.Active) (h3:l.Active<=3) (hn:nonce.length<2 ^ 30):Def (iG codes l machine nonce) (λx=>x.Attest.length<2 ^ 20/\x.Signature.length<2 ^ 20/\x.Log.length<=8192):=by
 unfold iG
 refine Def.bd (aY codes 30 (by decide) (by decide)) (λc hc=>?_)
 refine Def.bd (zN _ 2 hc (by decide)) (λr hr=>?_)
 obtain ⟨v,c1⟩:=r
 obtain ⟨k1,k2,k3⟩:=hr
 simp only at k1 k2 k3
 refine Def.lt ?_
 refine Def.bd (zKj l machine _ nonce (by omega) h1 h3 hn) (λa ha=>?_)
 refine Def.bd (zN _ 3 k3 (by decide)) (λr hr=>?_)
 obtain ⟨n,c2⟩:=r
 obtain ⟨m1,m2,m3⟩:=hr
 simp only at m1 m2 m3
 refine Def.bd (zLe _ n _ _ _ _ _ _ _ _ c2 m3 m1 (by omega) ha.2.2 he) (λr hr=>?_)
 obtain ⟨key',a1',a2',a3',a4',a5',dg',ac',es',B',A'⟩:=r
 obtain ⟨p1,p2,p3⟩:=hr
 simp only at p1 p2 p3
 refine Def.bd (zN _ 2 p3 (by decide)) (λr hr=>?_)
 obtain ⟨lf,c3⟩:=r
 obtain ⟨q1,q2,q3⟩:=hr
 simp only at q1 q2 q3
 refine Def.bd (zFo ⟨ac',l.Resets,es'⟩ machine key' lf _ (by simp only;omega) p1 q1 (by omega)) (λx hx=>?_)
 obtain ⟨x1,x2,x3⟩:=hx
 refine Def.bd (zN _ 8 q3 (by decide)) (λr hr=>?_)
 obtain ⟨w,c4⟩:=r
 obtain ⟨w1,w2,w3⟩:=hr
 simp only at w1 w2 w3
 refine Def.bd (P:=λr=>r.2.1.length<2 ^ 20/\r.2.2.length<=8192) ?_ (λr hr=>Def.s ⟨x1,hr.1,hr.2⟩)
 refine Def.c (λ_=>?_) (λ_=>Def.c (λ_=>?_) (λ_=>Def.c (λ_=>?_) (λ_=>Def.s ⟨x2,x3⟩)))
 ·exact Def.bd (zN _ 4 w3 (by decide)) (λr _=>Def.s ⟨x2,x3⟩)
 ·refine Def.bd (zN _ 256 w3 (by decide)) (λr hr=>?_)
  obtain ⟨u,c5⟩:=r
  obtain ⟨u1,u2,u3⟩:=hr
  simp only at u1 u2 u3
  exact Def.bd (zOu _ u u1 (by omega)) (λs hs=>Def.s ⟨hs.2,x3⟩)
 ·refine Def.c (λhl=>?_) (λ_=>Def.s ⟨x2,x3⟩)
  have hl':=dT hl
  refine Def.bd (Def.app (by simp;omega)) (λy hy=>?_)
  rw [List.nil_append] at hy
  subst hy
  refine Def.bd (zN _ 256 w3 (by decide)) (λr hr=>?_)
  obtain ⟨u,c5⟩:=r
  obtain ⟨u1,u2,u3⟩:=hr
  simp only at u1 u2 u3
  refine Def.bd (zN _ 256 u3 (by decide)) (λr hr=>?_)
  obtain ⟨t,c6⟩:=r
  obtain ⟨t1,t2,t3⟩:=hr
  simp only at t1 t2 t3
  refine Def.lt ?_
  have e:IntKind.i64.wrap (IntKind.i64.wrap (u*256)+t)=u*256+t:=by rw [zS (n:=u*256) (by omega) (by omega),zS (by omega) (by omega)]
  simp only [e]
  refine Def.bd (Def.ck (by rw [Bool.not_eq_true',beq_eq_false_iff_ne];omega)) (λ_ _=>?_)
  have j0:0<=Int.tmod (u*256+t) (x.Log.length:Int):=by rw [Int.tmod_eq_emod_of_nonneg (by omega)];exact Int.emod_nonneg _ (by omega)
  have j1:Int.tmod (u*256+t) (x.Log.length:Int)<x.Log.length:=by rw [Int.tmod_eq_emod_of_nonneg (by omega)];exact Int.emod_lt_of_pos _ hl'
  refine Def.bd (Def.ixN j0 j1) (λj hj=>?_)
  refine Def.bd (Def.at hj.2) (λy _=>?_)
  refine Def.bd (zN _ 8 t3 (by decide)) (λr hr=>?_)
  refine Def.bd (Def.ixN j0 j1) (λj hj=>?_)
  exact Def.bd (Def.upd hj.2) (λz hz=>Def.s ⟨x2,by simp only [hz,List.length_set];exact x3⟩)
theorem zFv (machine active:Int):Def (vP machine active) (λe=>e.Quoting.length=2/\(∀ p∈e.Quoting,p.Unique.length=17)/\e.Machine=machine/\e.Active=active):=by
 unfold vP
 refine Def.bd (gV _) (λp hp=>?_)
 refine Def.bd (gV _) (λq hq=>?_)
 refine Def.bd (jP _ (by simp)) (λs hs=>?_)
 refine Def.bd (Def.mkN (by decide) (by decide)) (λn hn=>?_)
 refine Def.bd (Def.ck (zC7 (by simp))) (λ_ _=>?_)
 refine Def.bd (Def.ck (cV (by
                 have e:(32:Int).toNat=32:=rfl
                 omega))) (λ_ _=>Def.s ⟨rfl,λx hx=>?_,rfl,rfl⟩)
 simp only [List.mem_cons,List.not_mem_nil,or_false] at hx
 rcases hx with rfl | rfl
 ·exact hp
 ·exact hq
theorem zMo (codes chain manifests changes:List UInt8) (active machine:Int):Def (jK codes chain manifests changes active machine) (λr=>zO0 r.2.1/\r.2.2.Attest.length<2 ^ 20/\r.2.2.Signature.length<2 ^ 20/\r.2.2.Log.length<=8192):=by
 unfold jK
 refine Def.bd (zEr chain) (λch hch=>?_)
 refine Def.bd (zC0 active) (λac hac=>?_)
 refine Def.bd (zOp codes ac 7 hac.1 hac.2) (λl hl=>?_)
 refine Def.bd (aY codes 4 (by decide) (by decide)) (λc hc=>?_)
 refine Def.bd (P:=λr=>1<=r.1/\r.1<=3/\r.2.2.length<=200) ?_ (λr hr=>?_)
 ·refine Def.bd (zN _ 3 hc (by decide)) (λr hr=>?_)
  refine Def.c (λ_=>?_) (λ_=>Def.s ⟨by simp only;rw [hl.1];exact hac.1,by simp only;rw [hl.1];exact hac.2,hl.2⟩)
  exact Def.bd (zCw ch ac hch hac.1 hac.2) (λev hev=>Def.s ⟨hac.1,hac.2,by simp only;omega⟩)
 obtain ⟨ac2,rs,es⟩:=r
 obtain ⟨r1,r2,r3⟩:=hr
 simp only at r1 r2 r3
 refine Def.bd (zD8 manifests ch hch) (λms hms=>?_)
 exact Def.bd (zKy changes ⟨ac2,rs,es⟩ machine _ r3 r1 r2 (by simp)) (λx hx=>Def.s ⟨hms,hx⟩)
end Go.Proofs.TT
namespace Go.Proofs.TT
open Go Go.Sw
set_option maxRecDepth 100000
theorem jE (a:Int):tN a=some (siz a):=zBz a
structure EvC (e:api_Event) (active:Int):Prop extends EvGood e active where
 a1:1<=active
 a3:active<=3
 k1:1<=e.Kind
 k5:e.Kind<=5
theorem zIb (e:api_Event) (active:Int):Def (tY e active) (λr=>r=0->EvC e active):=by
 unfold tY
 refine Def.bd (P:=λb=>b=false->1<=active/\active<=3/\0<=e.Register/\e.Register<=11/\1<=e.Kind/\e.Kind<=5) ?_ (λb hb=>?_)
 ·refine Def.c (λ_=>Def.s (λh=>by cases h)) (λh1=>Def.c (λ_=>Def.s (λh=>by cases h)) (λh2=>Def.c (λ_=>Def.s (λh=>by cases h)) (λh3=>Def.c (λ_=>Def.s (λh=>by cases h)) (λh4=>Def.c (λ_=>Def.s (λh=>by cases h)) (λh5=>Def.s (λh6=>?_))))))
  have:=dF h1;have:=dF h2;have:=dF h3;have:=dF h4;have:=dF h5;have:=dF h6
  omega
 refine Def.c (λ_=>Def.s (λh=>by cases h)) (λhbf=>?_)
 have hr:=hb hbf
 refine Def.c (λ_=>Def.s (λh=>by cases h)) (λhd=>?_)
 have hd':=dF hd
 refine Def.c (λ_=>Def.s (λh=>by cases h)) (λhl0=>?_)
 have hl:e.Digests.length=2:=by simp at hl0;omega
 refine Def.bd (P:=λr=>match r with | .inl b=>b=27 | .inr _=>Fit e active 0/\Fit e active 1) ?_ (λr hr'=>?_)
 ·refine Def.loop (λs=>∃ a:Nat,s=(a:Int)/\a<=2/\∀ b,b<a->Fit e active b) (λs=>2 - s.toNat) (λs hs=>?_) ⟨0,rfl,by omega,λb hb=>by omega⟩ (by simp)
  obtain ⟨a,rfl,ha,hf⟩:=hs
  unfold mV
  refine Def.c (λh=>?_) (λh=>Def.s ?_)
  ·have ha2:=dT h
   refine Def.bd (Def.at' (show a<e.Digests.length by omega)) (λd hd=>?_)
   refine Def.bd (P:=λw=>w=if e.Kind≠5/\uB active (a:Int)=true then siz (a:Int) else 0) ?_ (λw hw=>?_)
   ·refine Def.bd (P:=λb=>b=true↔(e.Kind≠5/\uB active (a:Int)=true)) ?_ (λb hb=>?_)
    ·refine Def.c (λhk=>?_) (λhk=>Def.s ?_)
     ·refine Def.bd (Def.ck (by simp)) (λ_ _=>Def.s ?_)
      have hk':e.Kind≠5:=by simpa using hk
      have hw:IntKind.u64.wrap (a:Int)=(a:Int):=zA2 (by omega) (by omega)
      unfold uB
      rw [hw]
      exact ⟨λh=>⟨hk',h⟩,λh=>h.2⟩
     ·have hk':e.Kind=5:=by simpa using hk
      exact ⟨λh=>by simp at h,λh=>absurd hk' h.1⟩
    ·refine Def.c (λh=>?_) (λh=>Def.s ?_)
     ·refine Def.bd (P:=λr=>r=siz (a:Int)) (Def.of (jE _) rfl) (λr hr=>Def.s ?_)
      rw [if_pos (hb.mp h)];exact hr
     ·rw [if_neg (λh2=>by rw [hb.mpr h2] at h;cases h)]
   refine Def.c (λ_=>Def.s rfl) (λhne=>Def.s ?_)
   have hne':(d.length:Int)=w:=by simpa using hne
   rw [yE (by omega)]
   refine ⟨⟨a+1,rfl,by omega,λb hb=>?_⟩,by simp only [Int.toNat_natCast];omega⟩
   by_cases hba:b<a
   ·exact hf b hba
   ·have:b=a:=by omega
    subst this
    unfold Fit
    rw [<- hw,<- hne',hd]
    have:b<e.Digests.length:=by omega
    simp [this]
  ·have:=dF h
   exact ⟨hf 0 (by omega),hf 1 (by omega)⟩
 ·cases r with
  | inl b=>exact Def.s (λh=>by rw [hr'] at h;cases h)
  | inr u=>exact Def.s (λ_=>⟨⟨hr.2.2.1,hr.2.2.2.1,by omega,hl,hr'.1,hr'.2⟩,hr.1,hr.2.1,hr.2.2.2.2.1,hr.2.2.2.2.2⟩)
end Go.Proofs.TT
namespace Go.Proofs.TT
open Go Go.Sw
set_option maxRecDepth 100000
theorem wnew (b:List UInt8) (h:b.length<2 ^ 40):mO b=some (RS.W ⟨b,0,0⟩):=by
 unfold mO
 refine bd (zW (by simp;omega)) ?_
 rfl
theorem zM7 (e:api_Event) (he:e.Digests.length<2 ^ 30):Def (rH e) (λ_=>True):=by
 unfold rH
 refine Def.bd (P:=λ_=>True) ?_ (λb _=>?_)
 ·exact Def.c (λ_=>Def.s trivial) (λ_=>Def.c (λ_=>Def.s trivial) (λ_=>Def.c (λ_=>Def.s trivial) (λ_=>Def.c (λ_=>Def.s trivial) (λ_=>Def.c (λ_=>Def.s trivial) (λ_=>Def.s trivial)))))
 refine Def.c (λ_=>Def.s trivial) (λ_=>?_)
 refine Def.bd (P:=λ_=>True) ?_ (λr _=>?_)
 ·refine Def.loop (λs=>∃ a:Nat,s=(a:Int)/\a<=e.Digests.length) (λs=>e.Digests.length - s.toNat) (λs hs=>?_) ⟨0,rfl,by omega⟩ (by simp;omega)
  obtain ⟨a,rfl,ha⟩:=hs
  unfold mS
  refine Def.c (λh=>?_) (λh=>Def.s trivial)
  have ha2:a<e.Digests.length:=by have:=dT h;omega
  refine Def.bd (Def.at' ha2) (λd hd=>?_)
  refine Def.bd (P:=λ_=>True) (Def.of (jE _) trivial) (λw _=>?_)
  refine Def.c (λ_=>Def.s trivial) (λ_=>Def.s ?_)
  rw [yE (by omega)]
  exact ⟨⟨a+1,rfl,by omega⟩,by simp only [Int.toNat_natCast];omega⟩
 ·cases r with
  | inl b=>exact Def.s trivial
  | inr u=>exact Def.s trivial
theorem zNm (b:List UInt8) (hb:b.length<2 ^ 40):Def (nW b) (λ_=>True):=by
 unfold nW
 have ok0:(RS.mk b 0 0).Ok:=⟨by simp,hb⟩
 refine Def.bd (P:=λr=>r=RS.W ⟨b,0,0⟩) (Def.of (wnew b hb) rfl) (λr hr=>?_)
 subst hr
 refine Def.bd (P:=λz=>∃ r:RS,r.Ok/\z.2=r.W) (Def.of (xE _ 1 ok0 (by omega) (by omega)) ⟨_,vC _ _ ok0,rfl⟩) (λz hz=>?_)
 obtain ⟨u,x⟩:=z
 obtain ⟨r1,ok1,rfl⟩:=hz
 refine Def.bd (P:=λz=>∃ r:RS,r.Ok/\z.2=r.W) (Def.of (xE _ 1 ok1 (by omega) (by omega)) ⟨_,vC _ _ ok1,rfl⟩) (λz hz=>?_)
 obtain ⟨k,x⟩:=z
 obtain ⟨r2,ok2,rfl⟩:=hz
 refine Def.bd (P:=λz=>z.1.length<=2/\∃ r:RS,r.Ok/\z.2=(r.W.b_,r.W.at_,r.W.e_)) ?_ (λz hz=>?_)
 ·refine Def.loop (λs=>∃ (a:Nat) (l:List (List UInt8)) (r:RS),s=((a:Int),l,r.W.b_,r.W.at_,r.W.e_)/\a<=2/\l.length=a/\r.Ok) (λs=>2 - s.1.toNat) (λs hs=>?_) ⟨0,[],r2,rfl,by omega,rfl,ok2⟩ (by simp)
  obtain ⟨a,l,r,rfl,ha,hl,ok⟩:=hs
  unfold iP
  refine Def.c (λh=>?_) (λh=>Def.s ⟨by simp;omega,r,ok,rfl⟩)
  have ha2:a<2:=by have:=dT h;omega
  refine Def.bd (P:=λw=>w=((32:Nat):Int)) (Def.of (jE 1) rfl) (λw hw=>?_)
  subst hw
  refine Def.bd (P:=λz=>∃ r:RS,r.Ok/\z.2=r.W) (Def.of (s8 r 32 ok) ⟨_,kM _ _ ok,rfl⟩) (λz hz=>?_)
  obtain ⟨v,x⟩:=z
  obtain ⟨r',ok',rfl⟩:=hz
  refine Def.bd (Def.app (by simp;omega)) (λl' hl'=>Def.s ?_)
  rw [yE (by omega)]
  exact ⟨⟨a+1,l',r',rfl,by omega,by rw [hl'];simp [hl],ok'⟩,by simp only [Int.toNat_natCast];omega⟩
 obtain ⟨l,b',a',e'⟩:=z
 obtain ⟨hl,r3,ok3,h3⟩:=hz
 obtain ⟨rfl,rfl,rfl⟩:b'=r3.W.b_/\a'=r3.W.at_/\e'=r3.W.e_:=by simpa using h3
 refine Def.bd (P:=λz=>∃ r:RS,r.Ok/\z.2=r.W) (Def.of (s8 r3 64 ok3) ⟨_,kM _ _ ok3,rfl⟩) (λz hz=>?_)
 obtain ⟨v,x⟩:=z
 obtain ⟨r4,ok4,rfl⟩:=hz
 refine Def.bd (P:=λ_=>True) ?_ (λbb _=>?_)
 ·refine Def.bd (P:=λ_=>True) (Def.of (zA6 r4 ok4) trivial) (λz _=>?_)
  refine Def.c (λ_=>Def.s trivial) (λ_=>?_)
  exact Def.bd (zM7 _ (by simp at hl ⊢;omega)) (λ_ _=>Def.s trivial)
 ·exact Def.c (λ_=>Def.s trivial) (λ_=>Def.s trivial)
end Go.Proofs.TT
namespace Go.Proofs.TT
open Go Go.Sw
set_option maxRecDepth 100000
structure LgGood (l:api_Log):Prop where
 ev:∀ e∈l.Events,EvC e l.Active
 n:l.Events.length<=40
theorem zOe (a r:Int):Def (rD a r) (λx=>x.length≠0->1<=a/\a<=3):=by
 unfold rD
 refine Def.bd (P:=λb=>b=false->1<=a/\a<=3) ?_ (λb hb=>?_)
 ·refine Def.c (λ_=>Def.s (λh=>by cases h)) (λh1=>Def.c (λ_=>Def.s (λh=>by cases h)) (λh2=>Def.c (λ_=>Def.s (λh=>by cases h)) (λ_=>Def.s (λ_=>?_))))
  have:=dF h1;have:=dF h2
  omega
 refine Def.c (λ_=>Def.s (λh=>absurd rfl h)) (λhf=>?_)
 refine Def.bd (P:=λr=>r.length=5) (Def.of (sH _ 1 a (by omega) (by omega) (by simp)) (by rw [zU];rfl)) (λu hu=>?_)
 exact Def.bd (P:=λ_=>True) (Def.of (sH u 6 r (by omega) (by omega) (by omega)) trivial) (λ_ _=>Def.s (λ_=>hb hf))
theorem zKw (r:RS) (m:Nat):(xU r m).1.length<=r.b.length:=by
 unfold xU
 repeat' split
 all_goals first | simp [RS.get];omega | simp
theorem zKf (r:RS) (m:Nat) (ok:r.Ok) (h:(xU r m).2.e=0):(xU r m).2.left<r.left:=by
 revert h
 unfold xU
 split
 ·rename_i h1;intro h;exact absurd h h1
 split
 ·intro h;simp [RS.err] at h
 split
 ·intro h;simp [RS.err] at h
 split
 ·intro h;simp [RS.err] at h
 ·intro _
  obtain ⟨k1,k2⟩:=ok
  simp only [RS.to,RS.left] at *
  omega
theorem zNd (b:List UInt8) (hb:b.length<=8192):Def (s6 b) (λr=>r.2.2=0->LgGood r.1):=by
 unfold s6
 have ok0:(RS.mk b 0 0).Ok:=⟨by simp,by simp;omega⟩
 refine Def.bd (P:=λr=>r.2.2=0->LgGood r.1) ?_ (λr hr=>Def.s hr)
 refine Def.bd (P:=λr=>r=RS.W ⟨b,0,0⟩) (Def.of (wnew b (by omega)) rfl) (λr hr=>?_)
 subst hr
 refine Def.bd (P:=λz=>∃ r:RS,r.Ok/\z.2=r.W) (Def.of (fA _ 4 ok0) ⟨_,zCc _ _ ok0,rfl⟩) (λz hz=>?_)
 obtain ⟨v,x⟩:=z
 obtain ⟨r1,ok1,rfl⟩:=hz
 refine Def.c (λ_=>Def.s (λh=>by cases h)) (λ_=>?_)
 refine Def.bd (P:=λz=>∃ r:RS,r.Ok/\z.2=r.W) (Def.of (xE _ 1 ok1 (by omega) (by omega)) ⟨_,vC _ _ ok1,rfl⟩) (λz hz=>?_)
 obtain ⟨act,x⟩:=z
 obtain ⟨r2,ok2,rfl⟩:=hz
 refine Def.bd (P:=λz=>∃ r:RS,r.Ok/\z.2=r.W) (Def.of (xE _ 6 ok2 (by omega) (by omega)) ⟨_,vC _ _ ok2,rfl⟩) (λz hz=>?_)
 obtain ⟨res,x⟩:=z
 obtain ⟨r3,ok3,rfl⟩:=hz
 refine Def.bd (P:=λz=>z.2=(r3.W.b_,r3.W.at_,r3.W.e_)) ?_ (λz hz=>?_)
 ·refine Def.bd (P:=λz=>z=(r3.W.e_,r3.W)) (Def.s rfl) (λz hz=>?_)
  subst hz
  refine Def.c (λ_=>Def.s rfl) (λ_=>?_)
  exact Def.bd (zOe _ _) (λ_ _=>Def.s rfl)
 obtain ⟨bad,b',a',e'⟩:=z
 obtain ⟨rfl,rfl,rfl⟩:b'=r3.W.b_/\a'=r3.W.at_/\e'=r3.W.e_:=by simpa using hz
 refine Def.c (λ_=>Def.s (λh=>by cases h)) (λ_=>?_)
 refine Def.bd (P:=λz=>z.2.1=0->(∀ e∈z.2.2,EvC e act)/\z.2.2.length<=40) ?_ (λz hz=>?_)
 ·refine Def.loop (λs=>∃ (r:RS),s.2.2=(r.W.b_,r.W.at_,r.W.e_)/\r.Ok/\(∀ e∈s.2.1,EvC e act)/\s.2.1.length<=40) (λs=>s.2.2.1.length - s.2.2.2.1.toNat) (λs hs=>?_) ⟨r3,rfl,ok3,by simp,by simp⟩ (by have:=ok3.2;simp [RS.W];omega)
  obtain ⟨at0,l,b',a',e'⟩:=s
  obtain ⟨r,h1,ok,hev,hn⟩:=hs
  have hn:l.length<=40:=hn
  have hev:∀ e∈l,EvC e act:=hev
  obtain ⟨rfl,rfl,rfl⟩:b'=r.W.b_/\a'=r.W.at_/\e'=r.W.e_:=by simpa using h1
  unfold pS
  refine Def.bd (P:=λz=>z=((r.left:Int),r.W)) (Def.s (by rw [show IntKind.i64.wrap (((wire_Reader.mk r.W.b_ r.W.at_ r.W.e_).b_.length:Int) - (wire_Reader.mk r.W.b_ r.W.at_ r.W.e_).at_)=(r.left:Int) from zIz r ok])) (λz hz=>?_)
  subst hz
  refine Def.c (λhlt=>?_) (λ_=>Def.s (λ_=>⟨hev,hn⟩))
  refine Def.bd (P:=λz=>z.1.length<2 ^ 40/\∃ r':RS,r'.Ok/\z.2=r'.W/\r'.b=r.b/\(r'.e=0->r'.left<r.left)) (Def.of (s8 r 65535 ok) ⟨by have:=zKw r 65535;have:=ok.2;simp;omega,_,kM _ _ ok,rfl,zC1 _ _,zKf r _ ok⟩) (λz hz=>?_)
  obtain ⟨bl,x⟩:=z
  obtain ⟨hbl,r',ok',rfl,hbb,hgo⟩:=hz
  refine Def.bd (zNm bl hbl) (λev _=>?_)
  obtain ⟨ev,er⟩:=ev
  refine Def.c (λ_=>Def.s (λh=>by cases h)) (λhne=>?_)
  refine Def.bd (P:=λz=>z=(r'.W.e_,r'.W)) (Def.s rfl) (λz hz=>?_)
  subst hz
  refine Def.c (λ_=>Def.s (λh=>by cases h)) (λhe0=>?_)
  refine Def.bd (P:=λbb=>bb=false->EvC ev act) ?_ (λbb hbb'=>?_)
  ·refine Def.c (λ_=>Def.s (λh=>by cases h)) (λ_=>?_)
   refine Def.bd (zIb ev act) (λc hc=>Def.s (λh=>hc ?_))
   simpa using h
  refine Def.c (λ_=>Def.s (λh=>by cases h)) (λhbf=>?_)
  have hE:=hbb' hbf
  have hlen:l.length≠40:=by simp at hne;omega
  refine Def.bd (Def.app (by simp;omega)) (λl' hl'=>?_)
  refine Def.bd (P:=λz=>z.2=r'.W) (Def.s rfl) (λz hz=>?_)
  obtain ⟨lf,x⟩:=z
  simp only at hz
  subst hz
  refine Def.s ⟨⟨r',rfl,ok',?_,?_⟩,?_⟩
  ·simp only [hl']
   intro e he
   rcases List.mem_append.1 he with h | h
   ·exact hev e h
   ·simp at h;subst h;exact hE
  ·simp only [hl',List.length_append,List.length_singleton];omega
  ·have he:r'.e=0:=by simpa [RS.W] using he0
   have hg:=hgo he
   have:=ok.1
   have:=ok'.1
   simp only [RS.W,RS.left,hbb] at *
   simp only [Int.toNat_natCast]
   omega
 obtain ⟨at1,er,l⟩:=z
 exact Def.s (λh=>⟨(hz h).1,(hz h).2⟩)
theorem zJ9 (b:List UInt8):Def (wT b) (λr=>r.2=0->LgGood r.1):=by
 unfold wT
 refine Def.c (λ_=>Def.s (λh=>by cases h)) (λh=>?_)
 refine Def.bd (zNd b (by have:=dF h;omega)) (λz hz=>?_)
 obtain ⟨l,n,e⟩:=z
 refine Def.c (λhe=>Def.s (λh=>?_)) (λhe=>Def.s (λ_=>hz (by simpa using he)))
 simp only at h
 subst h
 simp at he
end Go.Proofs.TT
namespace Go.Proofs.TT
open Go Go.Sw
set_option maxRecDepth 100000
theorem zTs:u4 1=some ⟨[bnk 20,[]],0⟩:=by decide +kernel
theorem zUe:u4 2=some ⟨[[],bnk 32],0⟩:=by decide +kernel
theorem zUp:u4 3=some ⟨[bnk 20,bnk 32],0⟩:=by decide +kernel
theorem zNx (active:Int) (h1:1<=active) (h3:active<=3):Def (u4 active) (BkOk active):=by
 rcases zOt h1 h3 with rfl | rfl | rfl
 ·exact Def.of zTs ⟨⟨_,_,rfl,lG 20,rfl,fS 20 (by omega),by simp⟩⟩
 ·exact Def.of zUe ⟨⟨_,_,rfl,rfl,lG 32,by simp,fS 32 (by omega)⟩⟩
 ·exact Def.of zUp ⟨⟨_,_,rfl,lG 20,lG 32,fS 20 (by omega),fS 32 (by omega)⟩⟩
def sb (c0 c1:Bool):Int:=(if c0 then 1 else 0)+(if c1 then 2 else 0)
theorem ract (b0 b1:List (List UInt8)) (u:Int) (c0 c1:Bool) (h0:((b0.length:Int)==16)=c0) (h1:((b1.length:Int)==16)=c1):sK ⟨[b0,b1],u⟩=some (sb c0 c1):=by
 unfold sK
 refine bd (a:=sb c0 c1) ?_ rfl
 refine zT (x:=((0:Int),(0:Int))) 2 (λi=>match i with | 0=>((0:Int),(0:Int)) | 1=>(sb c0 false,1) | _=>(sb c0 c1,2)) rfl (λi hi=>?_) ?_ (xB (by omega))
 ·have:i=0∨i=1:=by omega
  rcases this with rfl | rfl
  ·show wI _ (0,0)=some (.inl (sb c0 false,1))
   unfold wI
   refine ct rfl ?_
   refine bd (a:=sb c0 false) (bd (a:=c0) (ct rfl (bd (a:=b0) rfl (by rw [h0]))) ?_) rfl
   cases c0<;>rfl
  ·show wI _ (sb c0 false,1)=some (.inl (sb c0 c1,2))
   unfold wI
   refine ct rfl ?_
   refine bd (a:=sb c0 c1) (bd (a:=c1) (ct rfl (bd (a:=b1) rfl (by rw [h1]))) ?_) rfl
   cases c0<;>cases c1<;>rfl
 ·rfl
theorem zPn (b0 b1:List (List UInt8)) (u:Int) (c0 c1:Bool) (h0:((b0.length:Int)==16)=c0) (h1:((b1.length:Int)==16)=c1):wL ⟨[b0,b1],u⟩ 0=some c0/\wL ⟨[b0,b1],u⟩ 1=some c1:=by
 have h:=ract b0 b1 u c0 c1 h0 h1
 unfold wL
 constructor
 ·refine bd h ?_
  cases c0<;>cases c1<;>rfl
 ·refine bd h ?_
  cases c0<;>cases c1<;>rfl
theorem zMa (r:api_Registers) (b0 b1:List (List UInt8)) (hb:r.Banks=[b0,b1]) (l0:b0.length<=16) (l1:b1.length<=16) (h0:∀ x∈b0,x.length<=32) (h1:∀ x∈b1,x.length<=32):qM r=some (b0,b1,r.Updates):=by
 unfold qM
 rw [hb]
 refine ct rfl ?_
 refine bd (a:=b0) rfl ?_
 refine bd (a:=b0) ?_ ?_
 ·refine zT b0.length (λi=>(b0.take i,(i:Int))) (by simp) (λi hi=>?_) ?_ (xB (by omega))
  ·unfold qC
   refine ct (dlt hi) ?_
   refine bd (xL hi) ?_
   refine bd (zW (by have:=h0 _ (List.getElem_mem hi);simp;omega)) ?_
   refine bd (zW (by simp;omega)) ?_
   rw [yE (show i<2 ^ 40 by omega),List.take_add_one]
   simp [hi]
  ·unfold qC
   refine cf (dge (Nat.le_refl _)) ?_
   simp
 refine ct rfl ?_
 refine bd (a:=b1) rfl ?_
 refine bd (a:=(b1,b0)) ?_ ?_
 ·refine zT b1.length (λi=>(b1.take i,(i:Int),b0)) (by simp) (λi hi=>?_) ?_ (xB (by omega))
  ·unfold qG
   refine ct (dlt hi) ?_
   refine bd (xL hi) ?_
   refine bd (zW (by have:=h1 _ (List.getElem_mem hi);simp;omega)) ?_
   refine bd (zW (by simp;omega)) ?_
   rw [yE (show i<2 ^ 40 by omega),List.take_add_one]
   simp [hi]
  ·unfold qG
   refine cf (dge (Nat.le_refl _)) ?_
   simp
 exact cf rfl rfl
end Go.Proofs.TT
namespace Go.Proofs.TT
open Go Go.Sw
set_option maxRecDepth 100000
theorem zF3 (alg:Int) (z:List UInt8) (ha:alg=0∨alg=1) (hz:z.length<2 ^ 40):Def (wD alg z) (λs=>s.length<=32):=by
 rcases ha with rfl | rfl
 ·exact (zKs z hz).mono λ_ h=>by omega
 ·exact Def.of (zJi z hz) (by rw [iC];omega)
theorem zHh (r:api_Registers) (active:Int) (e:api_Event) (hr:BkOk active r) (he:EvGood e active) (hk:e.Kind≠5):Def (sP r 0 e.Register e.Digests) (λx=>x.2=0/\BkOk active x.1):=by
 obtain ⟨⟨b0,b1,hb,l0,l1,m0,m1⟩⟩:=hr
 obtain ⟨r0,r1,_,dl,f0,f1⟩:=he
 obtain ⟨bs,u⟩:=r
 simp only at hb
 subst hb
 have l0':b0.length<=16:=by rw [l0];split<;>omega
 have l1':b1.length<=16:=by rw [l1];split<;>omega
 unfold Fit at f0 f1
 have f0':((e.Digests.getD 0 []).length:Int)<=32:=by rw [f0];split<;>decide
 have f1':((e.Digests.getD 1 []).length:Int)<=32:=by rw [f1];split<;>decide
 have g0:∀ d∈e.Digests,d.length<=32:=by
  intro d hd
  obtain ⟨i,hi,rfl⟩:=List.mem_iff_getElem.mp hd
  have hi2:i=0∨i=1:=by omega
  rcases hi2 with rfl | rfl
  ·have:(e.Digests.getD 0 [])=e.Digests[0]:=by simp [hi]
   rw [<- this]
   omega
  ·have:(e.Digests.getD 1 [])=e.Digests[1]:=by simp [hi]
   rw [<- this]
   omega
 have i0:idx e.Digests 0=some (e.Digests.getD 0 []):=zMb (i:=0) (by omega)
 have i1:idx e.Digests 1=some (e.Digests.getD 1 []):=zMb (i:=1) (by omega)
 obtain ⟨a0,a1⟩:=zPn b0 b1 u (uB active 0) (uB active 1) (by rw [l0];cases uB active 0<;>rfl) (by rw [l1];cases uB active 1<;>rfl)
 unfold sP
 refine Def.bd (P:=λb=>b=false) ?_ (λb hb=>?_)
 ·refine Def.c (λh=>by cases h) (λ_=>Def.c (λh=>by cases h) (λ_=>?_))
  refine Def.bd (P:=λb=>b=true) ?_ (λb hb=>?_)
  ·unfold nF
   refine Def.bd (P:=λb=>b=true) ?_ (λb hb=>Def.s hb)
   refine Def.c (λ_=>Def.s ?_) (λh=>?_)
   ·rw [decide_eq_true_iff];omega
   ·have:=dF h;omega
  subst hb
  refine Def.c (λh=>by cases h) (λ_=>Def.s ?_)
  simp;omega
 subst hb
 refine Def.c (λh=>by cases h) (λ_=>?_)
 refine Def.bd (P:=λn=>n=0) ?_ (λn hn=>?_)
 ·unfold nC
  refine Def.bd (P:=λb=>b=false) (Def.s rfl) (λb hb=>?_)
  subst hb
  refine Def.c (λh=>by cases h) (λ_=>?_)
  have e14:(e.Register==14)=false:=by simp;omega
  have e15:(e.Register==15)=false:=by simp;omega
  rw [e14,e15]
  exact Def.s rfl
 subst hn
 refine Def.c (λh=>by cases h) (λ_=>?_)
 refine Def.bd (P:=λr=>r=.inr ()) ?_ (λr hr=>?_)
 ·refine Def.loop (λs=>s=0∨s=1∨s=2) (λs=>2 - s.toNat) (λs hs=>?_) (.inl rfl) (by simp)
  unfold nQ
  refine Def.c (λh=>?_) (λh=>Def.s rfl)
  rcases hs with rfl | rfl | rfl
  ·refine Def.bd (P:=λd=>d=e.Digests.getD 0 []) (Def.of i0 rfl) (λd hd=>?_)
   refine Def.bd (P:=λb=>b=false) ?_ (λb hb=>?_)
   ·refine Def.bd (P:=λb=>b=uB active 0) (Def.of a0 rfl) (λb hb=>?_)
    subst hb
    refine Def.c (λh=>Def.s ?_) (λ_=>Def.s rfl)
    have hh:uB active 0=false:=by simpa using h
    rw [if_neg (by show ¬ (e.Kind≠5/\uB active 0=true);rw [hh];simp)] at f0
    rw [decide_eq_false_iff_not,hd];omega
   subst hb
   exact Def.s ⟨.inr (.inl rfl),by decide⟩
  ·refine Def.bd (P:=λd=>d=e.Digests.getD 1 []) (Def.of i1 rfl) (λd hd=>?_)
   refine Def.bd (P:=λb=>b=false) ?_ (λb hb=>?_)
   ·refine Def.bd (P:=λb=>b=uB active 1) (Def.of a1 rfl) (λb hb=>?_)
    subst hb
    refine Def.c (λh=>Def.s ?_) (λ_=>Def.s rfl)
    have hh:uB active 1=false:=by simpa using h
    rw [if_neg (by show ¬ (e.Kind≠5/\uB active 1=true);rw [hh];simp)] at f1
    rw [decide_eq_false_iff_not,hd];omega
   subst hb
   exact Def.s ⟨.inr (.inr rfl),by decide⟩
  ·have:=dT h;omega
 subst hr
 refine Def.bd (P:=λr=>r=.inr ()) ?_ (λr hr=>?_)
 ·refine Def.loop (λs=>s=0∨s=1∨s=2) (λs=>2 - s.toNat) (λs hs=>?_) (.inl rfl) (by simp)
  unfold nJ
  refine Def.c (λh=>?_) (λh=>Def.s rfl)
  rcases hs with rfl | rfl | rfl
  ·refine Def.bd (P:=λd=>d=e.Digests.getD 0 []) (Def.of i0 rfl) (λd hd=>?_)
   refine Def.bd (P:=λb=>b=false) ?_ (λb hb=>?_)
   ·refine Def.bd (P:=λb=>b=uB active 0) (Def.of a0 rfl) (λb hb=>?_)
    subst hb
    refine Def.c (λh=>?_) (λ_=>Def.s rfl)
    refine Def.bd (P:=λd=>d=siz 0) (Def.of (jE 0) rfl) (λz hz=>Def.s ?_)
    rw [if_pos ⟨hk,h⟩] at f0
    rw [hd,hz];simp;exact f0
   subst hb
   exact Def.s ⟨.inr (.inl rfl),by decide⟩
  ·refine Def.bd (P:=λd=>d=e.Digests.getD 1 []) (Def.of i1 rfl) (λd hd=>?_)
   refine Def.bd (P:=λb=>b=false) ?_ (λb hb=>?_)
   ·refine Def.bd (P:=λb=>b=uB active 1) (Def.of a1 rfl) (λb hb=>?_)
    subst hb
    refine Def.c (λh=>?_) (λ_=>Def.s rfl)
    refine Def.bd (P:=λd=>d=siz 1) (Def.of (jE 1) rfl) (λz hz=>Def.s ?_)
    rw [if_pos ⟨hk,h⟩] at f1
    rw [hd,hz];simp;exact f1
   subst hb
   exact Def.s ⟨.inr (.inr rfl),by decide⟩
  ·have:=dT h;omega
 subst hr
 refine Def.bd (P:=λx=>x=(b0,b1,u)) (Def.of (zMa _ b0 b1 rfl l0' l1' m0 m1) rfl) (λx hx=>?_)
 subst hx
 have one:∀ (a:Nat) (bk:List (List UInt8)) (hbk:idx [b0,b1] (a:Int)=some bk) (h2:a<2) (h16:bk.length=16) (mm:∀ x∈bk,x.length<=32),
   Def ((idx [b0,b1] (a:Int)).bind λv=>(idx v e.Register).bind λw=>(zV 1 [] w).bind λw'=>(idx e.Digests (a:Int)).bind λd=>(zV 1 w' d).bind λz=>(wD (a:Int) z).bind λs=>(ixN bk.length e.Register).bind λj=>(uG bk j s).bind λl=>some l)
    (λb=>b.length=bk.length/\∀ x∈b,x.length<=32):=by
  intro a bk hbk h2 h16 mm
  refine Def.bd (P:=λv=>v=bk) (Def.of hbk rfl) (λv hv=>?_)
  subst hv
  refine Def.bd (Def.idx r0 (by omega)) (λx hx=>?_)
  have:=mm x hx
  refine Def.bd (Def.app (by simp;omega)) (λy hy=>?_)
  have hyl:y.length=x.length:=by rw [hy];simp
  refine Def.bd (Def.idx (by omega) (by omega)) (λd hd=>?_)
  have:=g0 d hd
  refine Def.bd (Def.app (by omega)) (λz hz=>?_)
  have hzl:z.length=y.length+d.length:=by rw [hz];simp
  refine Def.bd (zF3 (a:Int) z (by omega) (by omega)) (λs hs=>?_)
  refine Def.bd (Def.ixN r0 (by omega)) (λj hj=>?_)
  refine Def.bd (Def.upd hj.2) (λq hq=>Def.s ⟨by rw [hq];simp,λx hx=>?_⟩)
  rw [hq] at hx
  rcases List.mem_or_eq_of_mem_set hx with hx | hx
  ·exact mm x hx
  ·rw [hx];exact hs
 refine Def.bd (P:=λb=>b.length=b0.length/\∀ x∈b,x.length<=32) ?_ (λc0 hc0=>?_)
 ·refine Def.bd (P:=λb=>b=uB active 0) (Def.of a0 rfl) (λb hb=>?_)
  subst hb
  refine Def.c (λh=>?_) (λ_=>Def.s ⟨rfl,m0⟩)
  exact one 0 b0 rfl (by omega) (by rw [l0,if_pos h]) m0
 refine Def.bd (P:=λb=>b.length=b1.length/\∀ x∈b,x.length<=32) ?_ (λc1 hc1=>?_)
 ·refine Def.bd (P:=λb=>b=uB active 1) (Def.of a1 rfl) (λb hb=>?_)
  subst hb
  refine Def.c (λh=>?_) (λ_=>Def.s ⟨rfl,m1⟩)
  exact one 1 b1 rfl (by omega) (by rw [l1,if_pos h]) m1
 exact Def.s ⟨rfl,⟨c0,c1,rfl,by rw [hc0.1,l0],by rw [hc1.1,l1],hc0.2,hc1.2⟩⟩
theorem zQz {e:api_Event} {active:Int} (h:EvC e active):Def (tY e active) (λr=>r=0):=by
 obtain ⟨⟨r0,r1,hd,hl,f0,f1⟩,a1,a3,k1,k5⟩:=h
 unfold tY
 refine Def.bd (P:=λb=>b=false) ?_ (λb hb=>?_)
 ·refine Def.c (λh=>by have:=dT h;omega) (λ_=>Def.c (λh=>by have:=dT h;omega) (λ_=>Def.c (λh=>by have:=dT h;omega) (λ_=>Def.c (λh=>by have:=dT h;omega) (λ_=>Def.c (λh=>by have:=dT h;omega) (λ_=>Def.s ?_)))))
  rw [decide_eq_false_iff_not];omega
 subst hb
 refine Def.c (λh=>by cases h) (λ_=>?_)
 refine Def.c (λh=>by have:=dT h;omega) (λ_=>?_)
 refine Def.c (λh=>by simp at h;omega) (λ_=>?_)
 refine Def.bd (P:=λr=>r=.inr ()) ?_ (λr hr=>?_)
 ·refine Def.loop (λs=>∃ a:Nat,s=(a:Int)/\a<=2) (λs=>2 - s.toNat) (λs hs=>?_) ⟨0,rfl,by omega⟩ (by simp)
  obtain ⟨a,rfl,ha⟩:=hs
  unfold mV
  refine Def.c (λh=>?_) (λh=>Def.s rfl)
  have ha2:a<2:=by have:=dT h;omega
  have fit:Fit e active a:=by
   have:a=0∨a=1:=by omega
   rcases this with rfl | rfl
   ·exact f0
   ·exact f1
  refine Def.bd (Def.at' (show a<e.Digests.length by omega)) (λd hd=>?_)
  refine Def.bd (P:=λw=>w=if e.Kind≠5/\uB active (a:Int)=true then siz (a:Int) else 0) ?_ (λw hw=>?_)
  ·refine Def.bd (P:=λb=>b=true↔(e.Kind≠5/\uB active (a:Int)=true)) ?_ (λb hb=>?_)
   ·refine Def.c (λhk=>?_) (λhk=>Def.s ?_)
    ·refine Def.bd (Def.ck (by simp)) (λ_ _=>Def.s ?_)
     have hk':e.Kind≠5:=by simpa using hk
     have hw:IntKind.u64.wrap (a:Int)=(a:Int):=zA2 (by omega) (by omega)
     unfold uB
     rw [hw]
     exact ⟨λh=>⟨hk',h⟩,λh=>h.2⟩
    ·have hk':e.Kind=5:=by simpa using hk
     exact ⟨λh=>by simp at h,λh=>absurd hk' h.1⟩
   ·refine Def.c (λh=>?_) (λh=>Def.s ?_)
    ·refine Def.bd (P:=λr=>r=siz (a:Int)) (Def.of (jE _) rfl) (λr hr=>Def.s ?_)
     rw [if_pos (hb.mp h)];exact hr
    ·rw [if_neg (λh2=>by rw [hb.mpr h2] at h;cases h)]
  have hdl:(d.length:Int)=w:=by
   unfold Fit at fit
   rw [hw,<- fit,hd]
   have:a<e.Digests.length:=by omega
   simp [this]
  refine Def.c (λhne=>by simp at hne;exact absurd hdl hne) (λ_=>Def.s ?_)
  rw [yE (by omega)]
  exact ⟨⟨a+1,rfl,by omega⟩,by simp only [Int.toNat_natCast];omega⟩
 subst hr
 exact Def.s rfl
theorem zF4 (l:api_Log) (h:LgGood l) (h1:1<=l.Active) (h3:l.Active<=3):Def (sC l) (λr=>r.2=0/\BkOk l.Active r.1):=by
 have hn:=h.n
 unfold sC
 refine Def.bd (P:=λb=>b=false) ?_ (λb hb=>?_)
 ·refine Def.c (λh=>by have:=dT h;omega) (λ_=>Def.s ?_)
  rw [decide_eq_false_iff_not];omega
 subst hb
 refine Def.c (λh=>by cases h) (λ_=>?_)
 refine Def.bd (zNx _ h1 h3) (λrg hrg=>?_)
 refine Def.bd (P:=λr=>match r with | .inl _=>False | .inr z=>BkOk l.Active ⟨z.1,z.2⟩) ?_ (λr hr=>?_)
 ·refine Def.loop (λs=>∃ a:Nat,s.1=(a:Int)/\a<=l.Events.length/\BkOk l.Active ⟨s.2.1,s.2.2⟩) (λs=>l.Events.length - s.1.toNat) (λs hs=>?_) ⟨0,rfl,by omega,hrg⟩ (by simp;omega)
  obtain ⟨a',bs,up⟩:=s
  obtain ⟨a,k1,k2,k3⟩:=hs
  simp only at k1 k3
  subst k1
  unfold nI
  refine Def.c (λhlt=>?_) (λ_=>Def.s k3)
  have ha2:a<l.Events.length:=by have:=dT hlt;omega
  have hE:=h.ev _ (List.getElem_mem ha2)
  refine Def.bd (Def.at' ha2) (λe he=>?_)
  subst he
  refine Def.bd (P:=λr=>r=0) ?_ (λc hc=>?_)
  ·exact zQz hE
  subst hc
  refine Def.bd (P:=λz=>z.1=0/\BkOk l.Active ⟨z.2.1,z.2.2⟩) ?_ (λz hz=>?_)
  ·refine Def.bd (P:=λb=>b=(l.Events[a].Kind != 5)) (Def.c (λ_=>Def.s rfl) (λh=>by cases h)) (λb hb=>?_)
   subst hb
   refine Def.c (λhk=>?_) (λ_=>Def.s ⟨rfl,k3⟩)
   have hk':l.Events[a].Kind≠5:=by simpa using hk
   exact Def.bd (zHh _ l.Active _ k3 hE.toEvGood hk') (λx hx=>Def.s ⟨hx.1,hx.2⟩)
  obtain ⟨er,bs',up'⟩:=z
  obtain ⟨z1,z2⟩:=hz
  simp only at z1 z2
  subst z1
  refine Def.c (λh=>by cases h) (λ_=>Def.s ?_)
  rw [yE (by omega)]
  exact ⟨⟨a+1,rfl,by omega,z2⟩,by simp only [Int.toNat_natCast];omega⟩
 cases r with
 | inl v=>exact hr.elim
 | inr z=>exact Def.s ⟨rfl,hr⟩
end Go.Proofs.TT
namespace Go.Proofs.TT
open Go Go.Sw
set_option maxRecDepth 100000
theorem zVw:yN 1=some ⟨4095,0⟩:=by decide +kernel
theorem zS8:yN 2=some ⟨0,4095⟩:=by decide +kernel
theorem zT6:yN 3=some ⟨4095,4095⟩:=by decide +kernel
theorem zNk (active:Int) (h1:1<=active) (h3:active<=3):yN active=some ⟨xD active 0,xD active 1⟩:=by
 rcases zOt h1 h3 with rfl | rfl | rfl
 ·exact zVw
 ·exact zS8
 ·exact zT6
theorem zNp (r:api_Registers) (a:Int) (v:Int) (bk:List (List UInt8)) (hi:idx r.Banks a=some bk) (hz:v=0∨bk.length=16) (hb:∀ x∈bk,x.length<=32) (all:List UInt8) (hal:all.length<=1000) :
  Def (zG (sW r a v) FU (all,0)) (λo=>o.length<=all.length+512):=by
 refine Def.loop (λst=>0<=st.2/\st.2<=16/\(st.1.length:Int)<=all.length+32*st.2) (λst=>(16 - st.2).toNat) (λst hs=>?_) ⟨Int.le_refl 0,by simp,by simp⟩ (by simp)
 obtain ⟨o,i⟩:=st
 obtain ⟨g1,g2,g3⟩:=hs
 simp only at g1 g2 g3
 unfold sW
 refine Def.c (λh=>?_) (λh=>Def.s (by omega))
 have hi16:=dT h
 refine Def.bd (P:=λx=>(x.length:Int)<=o.length+32) ?_ (λx hx=>Def.s ?_)
 ·refine Def.c (λhbit=>?_) (λ_=>Def.s (by omega))
  have h16:bk.length=16:=by
   rcases hz with h | h
   ·rw [h,bit0] at hbit;cases hbit
   ·exact h
  refine Def.bd (P:=λx=>x=bk) (Def.of hi rfl) (λx hx=>?_)
  subst hx
  refine Def.bd (Def.idx g1 (by omega)) (λy hy=>?_)
  have:=hb y hy
  exact Def.bd (Def.app (by omega)) (λz hz=>Def.s (by rw [hz,List.length_append];omega))
 ·rw [zS (by omega) (by omega)]
  exact ⟨⟨by simp only;omega,by simp only;omega,by simp only;omega⟩,by simp only;omega⟩
theorem zE7 (r:api_Registers) (active:Int) (hr:BkOk active r):Def (sO r ⟨xD active 0,xD active 1⟩) (λ_=>True):=by
 obtain ⟨⟨b0,b1,hb,l0,l1,m0,m1⟩⟩:=hr
 obtain ⟨bs,u⟩:=r
 simp only at hb
 subst hb
 have s0:0<=xD active 0/\xD active 0<=65535:=by unfold xD;split<;>decide
 have s1:0<=xD active 1/\xD active 1<=65535:=by unfold xD;split<;>decide
 have z0:xD active 0=0∨b0.length=16:=by unfold xD;split at l0<;>simp_all
 have z1:xD active 1=0∨b1.length=16:=by unfold xD;split at l1<;>simp_all
 obtain ⟨a0,a1⟩:=zPn b0 b1 u _ _ rfl rfl
 generalize xD active 0=x0 at s0 z0
 generalize xD active 1=x1 at s1 z1
 unfold sO
 refine Def.bd (P:=λr=>match r with | .inl _=>False | .inr hd=>hd.length=4) ?_ (λr hr=>?_)
 ·refine Def.loop (λs=>(s.2=0/\s.1=[])∨(s.2=1/\s.1.length=2)∨(s.2=2/\s.1.length=4)) (λs=>2 - s.2.toNat) (λs hs=>?_) (.inl ⟨rfl,rfl⟩) (by simp)
  obtain ⟨o,a⟩:=s
  simp only at hs
  unfold nL
  rcases hs with ⟨rfl,rfl⟩ | ⟨rfl,ho⟩ | ⟨rfl,ho⟩
  ·refine Def.c (λ_=>?_) (λh=>by cases h)
   refine Def.bd (P:=λx=>x=x0) (Def.s rfl) (λx hx=>?_)
   subst hx
   refine Def.bd (P:=λb=>b=false) (Def.c (λh=>by have:=dT h;omega) (λ_=>Def.s (by rw [decide_eq_false_iff_not];omega))) (λb hb=>?_)
   subst hb
   refine Def.c (λh=>by cases h) (λ_=>?_)
   refine Def.bd (P:=λq=>q.length=2) (Def.of (sH [] 2 _ (by omega) (by omega) (by simp)) (by rw [zU];rfl)) (λq hq=>Def.s ?_)
   exact ⟨.inr (.inl ⟨rfl,hq⟩),by show 2 - (IntKind.i64.wrap (0+1)).toNat<2 - (0:Int).toNat;decide⟩
  ·refine Def.c (λ_=>?_) (λh=>by cases h)
   refine Def.bd (P:=λx=>x=x1) (Def.s rfl) (λx hx=>?_)
   subst hx
   refine Def.bd (P:=λb=>b=false) (Def.c (λh=>by have:=dT h;omega) (λ_=>Def.s (by rw [decide_eq_false_iff_not];omega))) (λb hb=>?_)
   subst hb
   refine Def.c (λh=>by cases h) (λ_=>?_)
   refine Def.bd (P:=λq=>q.length=4) (Def.of (sH o 2 _ (by omega) (by omega) (by omega)) (by rw [zU];omega)) (λq hq=>Def.s ?_)
   exact ⟨.inr (.inr ⟨rfl,hq⟩),by show 2 - (IntKind.i64.wrap (1+1)).toNat<2 - (1:Int).toNat;decide⟩
  ·exact Def.c (λh=>by cases h) (λ_=>Def.s ho)
 cases r with
 | inl v=>exact hr.elim
 | inr hd=>
  have hdl:hd.length=4:=hr
  refine Def.bd (P:=λr=>match r with | .inl _=>True | .inr o=>o.length<=1100) ?_ (λr hr=>?_)
  ·refine Def.loop (λs=>(s.2=0/\s.1=[])∨(s.2=1/\s.1.length<=512)∨(s.2=2/\s.1.length<=1024)) (λs=>2 - s.2.toNat) (λs hs=>?_) (.inl ⟨rfl,rfl⟩) (by simp)
   obtain ⟨o,a⟩:=s
   simp only at hs
   unfold nM
   rcases hs with ⟨rfl,rfl⟩ | ⟨rfl,ho⟩ | ⟨rfl,ho⟩
   ·refine Def.c (λ_=>?_) (λh=>by cases h)
    refine Def.bd (P:=λx=>x=x0) (Def.s rfl) (λx hx=>?_)
    subst hx
    refine Def.bd (P:=λ_=>True) (Def.c (λ_=>Def.bd (P:=λ_=>True) (Def.of a0 trivial) (λ_ _=>Def.s trivial)) (λ_=>Def.s trivial)) (λb _=>?_)
    refine Def.c (λ_=>Def.s trivial) (λ_=>?_)
    refine Def.bd (zNp _ 0 _ b0 rfl z0 m0 [] (by simp)) (λq hq=>Def.s ?_)
    exact ⟨.inr (.inl ⟨rfl,by simpa using hq⟩),by show 2 - (IntKind.i64.wrap (0+1)).toNat<2 - (0:Int).toNat;decide⟩
   ·refine Def.c (λ_=>?_) (λh=>by cases h)
    refine Def.bd (P:=λx=>x=x1) (Def.s rfl) (λx hx=>?_)
    subst hx
    refine Def.bd (P:=λ_=>True) (Def.c (λ_=>Def.bd (P:=λ_=>True) (Def.of a1 trivial) (λ_ _=>Def.s trivial)) (λ_=>Def.s trivial)) (λb _=>?_)
    refine Def.c (λ_=>Def.s trivial) (λ_=>?_)
    refine Def.bd (zNp _ 1 _ b1 rfl z1 m1 o (by omega)) (λq hq=>Def.s ?_)
    exact ⟨.inr (.inr ⟨rfl,by simp only;omega⟩),by show 2 - (IntKind.i64.wrap (1+1)).toNat<2 - (1:Int).toNat;decide⟩
   ·exact Def.c (λh=>by cases h) (λ_=>Def.s (by simp only;omega))
  cases r with
  | inl v=>exact Def.s trivial
  | inr o=>
   have ho:o.length<=1100:=hr
   exact Def.bd (P:=λ_=>True) (Def.of (mR _ _ (by rw [zJ5];omega)) trivial) (λ_ _=>Def.s trivial)
theorem zD5 (l:api_Log) (h:LgGood l) (h1:1<=l.Active) (h3:l.Active<=3):Def (vO l ⟨xD l.Active 0,xD l.Active 1⟩) (λ_=>True):=by
 unfold vO
 refine Def.bd (zF4 l h h1 h3) (λr hr=>?_)
 obtain ⟨rg,e⟩:=r
 refine Def.c (λ_=>Def.s trivial) (λ_=>?_)
 exact Def.bd (zE7 rg l.Active hr.2) (λ_ _=>Def.s trivial)
end Go.Proofs.TT
