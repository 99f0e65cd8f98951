/- AppraiseStart (law 37: evidence whose quote was made in another start than its log, or after a start that kept registers, is refused, and right evidence is accepted) is proved for every input, under no condition of ours; this text is a part of that proof. -/
import Derived.Test.YteadpnddgpfbdaaGreatDoorZ11
set_option linter.all false
namespace Go.Proofs.TT
open Go Go.Sw
set_option maxRecDepth 100000
def yD (active a:Int):Bool:=yQ .i64 (zU .i64 active (IntKind.u64.wrap a)) 1==1
theorem zCl (b:List UInt8) (hb:b.length<2 ^ 40):tT 0 b=some (o9 b):=by
 unfold tT
 refine ct rfl ?_
 exact bd (zMh b hb) rfl
theorem zBe (b:List UInt8) (hb:b.length<2 ^ 40):tT 1 b=some (sha b):=by
 unfold tT
 refine cf rfl ?_
 refine ct rfl ?_
 exact bd (gV b hb) rfl
def dgE (active:Int) (on:Bool) (b:List UInt8):List (List UInt8):=[if (on&&yD active 0)=true then o9 b else [],if (on&&yD active 1)=true then sha b else []]
theorem zEi {c:Bool} {a:Nat} {v:List (List UInt8)} {o:Option (List UInt8)} {d:List UInt8} (hv:v.length=2) (ha:a<2) (ho:o=some d) :
  (bif c then (o.bind λs=>(ixN 2 (a:Int)).bind λj=>(tA v j s).bind λw=>some w) else some v)=some (if c=true then v.set a d else v):=by
 cases c
 ·rfl
 ·refine bd ho ?_
  refine bd (vX ha) ?_
  exact bd (by simp [tA,hv,ha]) rfl
def mkE (reg kind active:Int) (data:List UInt8):api_Event:=⟨reg,kind,dgE active (kind != 5) data,data⟩
theorem zJg (reg kind active:Int) (data:List UInt8) (hd:data.length<2 ^ 40):mI reg kind active data=some (mkE reg kind active data):=by
 have on:∀ a:Int,((nZ active a).bind λv=>bif v then (some (kind != 5)) else some false:Option Bool)=some ((kind != 5)&&yD active a):=by
  intro a
  show (bif yD active a then (some (kind != 5)) else some false:Option Bool)=_
  cases yD active a<;>cases (kind != 5)<;>rfl
 unfold mI mkE dgE
 refine bd (a:=[if ((kind != 5)&&yD active 0)=true then o9 data else [],if ((kind != 5)&&yD active 1)=true then sha data else []]) (two (b:=(1,[if ((kind != 5)&&yD active 0)=true then o9 data else [],[]])) (c:=(2,[if ((kind != 5)&&yD active 0)=true then o9 data else [],if ((kind != 5)&&yD active 1)=true then sha data else []])) ?_ ?_ rfl) ?_
 ·unfold lO
  refine ct rfl ?_
  refine bd (a:=[if ((kind != 5)&&yD active 0)=true then o9 data else [],[]]) ?_ rfl
  refine bd (on 0) ?_
  refine (zEi (a:=0) rfl (by omega) (zCl data hd)).trans ?_
  cases ((kind != 5)&&yD active 0)<;>rfl
 ·unfold lO
  refine ct rfl ?_
  refine bd (a:=[if ((kind != 5)&&yD active 0)=true then o9 data else [],if ((kind != 5)&&yD active 1)=true then sha data else []]) ?_ rfl
  refine bd (on 1) ?_
  refine (zEi (a:=1) rfl (by omega) (zBe data hd)).trans ?_
  cases ((kind != 5)&&yD active 1)<;>rfl
 exact bd (ckT rfl) rfl
end Go.Proofs.TT
namespace Go.Proofs.TT
open Go Go.Sw
set_option maxRecDepth 100000
def kB (c:sealwrightdraw_Codes):Prop:=c.B.length<=240/\0<=c.At/\c.At<=c.B.length
theorem zO7 (b:List UInt8) (n:Int) (h0:0<=n) (h:n<=240):Def (cO b n) kB:=by
 unfold cO
 refine Def.bd (P:=λr=>r.length<=240) ?_ (λr hr=>Def.s ⟨hr,Int.le_refl 0,by simp⟩)
 refine Def.c (λhl=>?_) (λhl=>Def.s ?_)
 ·rw [decide_eq_true_iff] at hl
  refine Def.bd (Def.sub (by decide) h0 (by omega)) (λx hx=>Def.s ?_)
  rw [hx];simp;omega
 ·rw [decide_eq_false_iff_not] at hl
  omega
theorem s8 (c:sealwrightdraw_Codes) (n:Int) (hc:kB c) (hn:0<n):Def (yM c n) (λr=>0<=r.1/\r.1<n/\kB r.2):=by
 obtain ⟨h1,h2,h3⟩:=hc
 unfold yM
 refine Def.c (λh=>Def.s ⟨Int.le_refl 0,hn,h1,h2,h3⟩) (λh=>?_)
 rw [decide_eq_false_iff_not] at h
 rw [zT (n:=c.At+1) (by omega) (by omega),zT (n:=c.At+1 - 1) (by omega) (by omega)]
 refine Def.bd (Def.idx (by omega) (by omega)) (λv _=>?_)
 refine Def.bd (Def.ck (by simp;omega)) (λ_ _=>?_)
 refine Def.s ?_
 rw [wb]
 refine ⟨?_,?_,h1,by simp only;omega,by simp only;omega⟩
 ·rw [Int.tmod_eq_emod_of_nonneg (by omega)];exact Int.emod_nonneg _ (by omega)
 ·rw [Int.tmod_eq_emod_of_nonneg (by omega)];exact Int.emod_lt_of_pos _ hn
def zAo (l:List UInt8):Prop:=1<=l.length/\l.length<=8/\∀ x∈l,32<=x.toNat/\x.toNat<=126
theorem zLc (c:sealwrightdraw_Codes) (hc:kB c):Def (rB c) (λr=>zAo r.1/\kB r.2):=by
 unfold rB
 refine Def.bd (s8 c 6 hc (by decide)) (λr hr=>?_)
 obtain ⟨v,x⟩:=r
 obtain ⟨h0,h1,h2⟩:=hr
 simp only at h0 h1 h2
 refine Def.bd (Def.ixN h0 (by show _<((6:Nat):Int);omega)) (λj hj=>?_)
 refine Def.bd (Def.at (by have:=hj.2;simpa using this)) (λl hl=>?_)
 have hl':zAo l:=by
  simp only [List.mem_cons,List.not_mem_nil,or_false] at hl
  rcases hl with rfl | rfl | rfl | rfl | rfl | rfl<;>(unfold zAo;decide)
 refine Def.bd (Def.ck (eO (by have:=hl'.2.1;omega))) (λ_ _=>?_)
 exact Def.s ⟨hl',h2⟩
def aH (L:List (List UInt8)):List UInt8:=L.flatMap λl=>l++[10]
theorem kH (L:List (List UInt8)) (h:∀ l∈L,zAo l):(aH L).length<=9*L.length:=by
 induction L with
 | nil=>simp [aH]
 | cons a r ih=>
  have h1:=(h a (by simp)).2.1
  have h2:=ih (λl hl=>h l (by simp [hl]))
  simp only [aH,List.flatMap_cons,List.length_append,List.length_cons,List.length_nil] at h2 ⊢
  omega
theorem zFi (c:sealwrightdraw_Codes) (hc:kB c):Def (uT c) (λr=>(∃ L,r.1=aH L/\1<=L.length/\L.length<=4/\∀ l∈L,zAo l)/\kB r.2):=by
 unfold uT
 refine Def.bd (s8 c 4 hc (by decide)) (λr hr=>?_)
 obtain ⟨v,x⟩:=r
 obtain ⟨h0,h1,h2⟩:=hr
 simp only at h0 h1 h2
 refine Def.bd (P:=λr=>(∃ L,r.1=aH L/\1<=L.length/\L.length<=4/\∀ l∈L,zAo l)/\kB ⟨r.2.1,r.2.2⟩) ?_ (λr hr=>Def.s hr)
 refine Def.loop (λs=>(∃ L,s.1=aH L/\(L.length:Int)+s.2.1=1+v/\∀ l∈L,zAo l)/\0<=s.2.1/\kB ⟨s.2.2.1,s.2.2.2⟩) (λs=>s.2.1.toNat) (λs hs=>?_) ?_ ?_
 ·obtain ⟨b,n,B,A⟩:=s
  obtain ⟨⟨L,g1,g2,g3⟩,g4,g5⟩:=hs
  simp only at g1 g2 g4 g5
  have hfl:=kH L g3
  unfold pR
  refine Def.c (λh=>?_) (λh=>Def.s ?_)
  ·rw [decide_eq_true_iff] at h
   refine Def.bd (zLc _ g5) (λr hr=>?_)
   obtain ⟨l,y⟩:=r
   obtain ⟨k1,k2⟩:=hr
   simp only at k1 k2
   refine Def.bd (Def.app (by have:=k1.2.1;rw [g1];omega)) (λb1 hb1=>?_)
   refine Def.bd (Def.app (by have:=k1.2.1;rw [hb1,g1];simp;omega)) (λb2 hb2=>Def.s ?_)
   rw [zT (by omega) (by omega)]
   refine ⟨⟨⟨L++[l],?_,by simp only [List.length_append,List.length_cons,List.length_nil];omega,?_⟩,by simp only;omega,k2⟩,by simp only;omega⟩
   ·simp only [hb2,hb1,g1,aH,List.flatMap_append,List.flatMap_cons,List.flatMap_nil,List.append_nil,List.append_assoc]
   ·intro z hz
    rw [List.mem_append] at hz
    rcases hz with hz | hz
    ·exact g3 z hz
    ·simp at hz;subst hz;exact k1
  ·rw [decide_eq_false_iff_not] at h
   exact ⟨⟨L,g1,by omega,by omega,g3⟩,g5⟩
 ·refine ⟨⟨[],rfl,?_,by simp⟩,?_,h2⟩
  ·rw [zT (by omega) (by omega)];simp
  ·rw [zT (by omega) (by omega)];simp only;omega
 ·rw [zT (by omega) (by omega)];simp only;omega
theorem zIj {α:Type} {P:List α} {i:Nat} {c:α} {t:List α} (h:P.drop i=c :: t):idx P (i:Int)=some c/\P.drop (i+1)=t/\i<P.length:=by
 have hi:i<P.length:=by
  apply Decidable.byContradiction
  intro hn
  rw [List.drop_eq_nil_of_le (by omega)] at h
  cases h
 rw [zDh hi] at h
 injection h with h1 h2
 exact ⟨by rw [xS hi,h1],h2,hi⟩
theorem zL6 (x:api_Image) (L:List (List UInt8)) (hp:x.Payload=aH L) (h4:L.length<=4) (hL:∀ l∈L,zAo l):uO x=some L:=by
 have hfl:=kH L hL
 have hpl:x.Payload.length<=36:=by rw [hp];omega
 have hd:Def (zE (mC x) FU ([],[],0)) (λr=>r=.inr (L,[])):=by
  refine Def.loop (λs=>∃ i:Nat,s.2.2=(i:Int)/\i<=x.Payload.length/\((s.1=L/\s.2.1=[]/\x.Payload.drop i=[])∨∃ suf rest,L=s.1++(s.2.1++suf) :: rest/\x.Payload.drop i=suf++10 :: aH rest)) (λs=>x.Payload.length - s.2.2.toNat) (λs hs=>?_) ?_ ?_
  ·obtain ⟨out,line,i'⟩:=s
   obtain ⟨i,g1,g2,g3⟩:=hs
   simp only at g1 g3
   subst g1
   unfold mC
   rcases g3 with ⟨k1,k2,k3⟩ | ⟨suf,rest,k1,k2⟩
   ·refine Def.c (λh=>?_) (λ_=>Def.s (by rw [k1,k2]))
    rw [decide_eq_true_iff] at h
    have:=congrArg List.length k3
    simp at this
    omega
   ·have hmem:line++suf∈L:=by rw [k1];simp
    have hln:=hL _ hmem
    have hout:out.length<4:=by have:=congrArg List.length k1;simp at this;omega
    cases suf with
    | nil=>
     obtain ⟨j1,j2,j3⟩:=zIj (c:=10) (t:=aH rest) k2
     refine Def.c (λ_=>?_) (λh=>by rw [decide_eq_false_iff_not] at h;omega)
     refine Def.bd (P:=λr=>r=.inr (out++[line],[])) ?_ (λr hr=>?_)
     ·refine Def.bd (P:=λc=>c=10) (Def.of j1 rfl) (λc hc=>?_)
      subst hc
      refine Def.c (λ_=>?_) (λh=>by simp at h)
      rw [List.append_nil] at hln
      refine Def.bd (P:=λb=>b=false) (Def.c (λh=>?_) (λ_=>Def.s ?_)) (λb hb=>?_)
      ·have:=hln.1;simp at h;rw [h] at this;simp at this
      ·simp;omega
      subst hb
      refine Def.bd (Def.app (by simp;omega)) (λo ho=>Def.s (by rw [ho]))
     ·subst hr
      refine Def.s ?_
      rw [yB (by omega)]
      refine ⟨⟨i+1,rfl,by omega,?_⟩,by simp only [Int.toNat_natCast];omega⟩
      cases rest with
      | nil=>exact .inl ⟨by simp [k1],rfl,j2⟩
      | cons l r=>
       refine .inr ⟨l,r,?_,?_⟩
       ·simp [k1]
       ·rw [j2];simp [aH]
    | cons c suf=>
     obtain ⟨j1,j2,j3⟩:=zIj (c:=c) (t:=suf++10 :: aH rest) k2
     have hc:=hln.2.2 c (by simp)
     refine Def.c (λ_=>?_) (λh=>by rw [decide_eq_false_iff_not] at h;omega)
     refine Def.bd (P:=λr=>r=.inr (out,line++[c])) ?_ (λr hr=>?_)
     ·refine Def.bd (P:=λd=>d=c) (Def.of j1 rfl) (λd hd=>?_)
      subst hd
      refine Def.c (λh=>by simp at h;omega) (λ_=>?_)
      refine Def.bd (P:=λb=>b=false) (Def.c (λh=>?_) (λ_=>Def.s ?_)) (λb hb=>?_)
      ·simp at h;omega
      ·simp;omega
      subst hb
      have:=hln.2.1
      refine Def.bd (Def.app (by simp at this ⊢;omega)) (λo ho=>Def.s (by rw [ho]))
     ·subst hr
      refine Def.s ?_
      rw [yB (by omega)]
      refine ⟨⟨i+1,rfl,by omega,.inr ⟨suf,rest,by simp [k1],j2⟩⟩,by simp only [Int.toNat_natCast];omega⟩
  ·refine ⟨0,rfl,by omega,?_⟩
   cases L with
   | nil=>exact .inl ⟨rfl,rfl,by rw [hp];rfl⟩
   | cons l r=>exact .inr ⟨l,r,by simp,by rw [hp];simp [aH]⟩
  ·rw [hp];simp;omega
 obtain ⟨r,h1,h2⟩:=hd
 subst h2
 unfold uO
 refine bd h1 ?_
 rfl
structure GoodIm (x:api_Image):Prop where
 r1:1<=x.Role
 r4:x.Role<=4
 v0:0<=x.Version
 v1:x.Version<=1000000
 n:jG x.Name=some true
 nl:x.Name.length<=12
 p:x.Payload.length<=64
 l:x.Role=4->∃ L,uO x=some L/\1<=L.length/\L.length<=4/\∀ l∈L,zAo l
 pn:xQ x.Name=some true
theorem eP (x:api_Image) (h:GoodIm x):rR x=some 0:=by
 obtain ⟨h1,h2,h3,h4,h5,h6,h7,h8,_⟩:=h
 unfold rR
 refine bd (a:=false) (cf (by simp;omega) (cf (by simp;omega) (cf (by simp;omega) (congrArg some (by simp;omega))))) ?_
 refine cf rfl ?_
 refine bd h5 ?_
 refine cf rfl ?_
 refine cf (by simp;omega) ?_
 refine bd (a:=false) ?_ rfl
 by_cases h:x.Role=4
 ·refine ct (by simp [h]) ?_
  obtain ⟨L,l1,l2,_⟩:=h8 h
  refine bd l1 ?_
  refine congrArg some ?_
  rw [beq_eq_false_iff_ne];omega
 ·exact cf (by simp [h]) rfl
theorem zLw:∀ n∈[([97]:List UInt8),[103,114,117,98],[108,105,110,117,120],[110,101,116,45,48],[116,119,101,108,118,101,45,98,121,116,101,115]],jG n=some true/\n.length<=12/\xQ n=some true:=by
 intro n hn
 simp only [List.mem_cons,List.not_mem_nil,or_false] at hn
 rcases hn with rfl | rfl | rfl | rfl | rfl<;>exact ⟨by decide +kernel,by decide,by decide +kernel⟩
theorem zKs (c:sealwrightdraw_Codes) (role:Int) (hc:kB c) (h1:1<=role) (h4:role<=4):Def (sN c role) (λr=>GoodIm r.1/\r.1.Role=role/\kB r.2):=by
 unfold sN
 refine Def.bd (P:=λa=>[a.a0,a.a1,a.a2,a.a3,a.a4]=[([97]:List UInt8),[103,114,117,98],[108,105,110,117,120],[110,101,116,45,48],[116,119,101,108,118,101,45,98,121,116,101,115]]) (Def.s rfl) (λa ha=>?_)
 rw [ha]
 refine Def.bd (s8 c 5 hc (by decide)) (λr hr=>?_)
 obtain ⟨v1,c1⟩:=r
 obtain ⟨p1,p2,p3⟩:=hr
 simp only at p1 p2 p3
 refine Def.bd (Def.idx p1 (by simpa using p2)) (λnme hn=>?_)
 obtain ⟨n1,n2,n3⟩:=zLw nme hn
 refine Def.bd (s8 c1 5 p3 (by decide)) (λr hr=>?_)
 obtain ⟨v2,c2⟩:=r
 obtain ⟨q1,q2,q3⟩:=hr
 simp only at q1 q2 q3
 refine Def.bd (P:=λr=>kB ⟨r.1,r.2.1⟩/\0<=r.2.2/\r.2.2<=1000000) ?_ (λr hr=>?_)
 ·refine Def.bd (s8 c2 9 q3 (by decide)) (λr hr=>?_)
  obtain ⟨v3,c3⟩:=r
  obtain ⟨s1,s2,s3⟩:=hr
  simp only at s1 s2 s3
  refine Def.c (λ_=>?_) (λ_=>Def.s ⟨s3,by simp only;omega,by simp only;omega⟩)
  refine Def.bd (s8 c3 3 s3 (by decide)) (λr hr=>?_)
  obtain ⟨v4,c4⟩:=r
  obtain ⟨u1,u2,u3⟩:=hr
  simp only at u1 u2 u3
  refine Def.s ⟨u3,?_,?_⟩<;>(simp only;rw [zT (by omega) (by omega)];omega)
 obtain ⟨B,A,ver⟩:=r
 obtain ⟨w1,w2,w3⟩:=hr
 simp only at w1 w2 w3
 refine Def.c (λh=>?_) (λh=>?_)
 ·rw [beq_iff_eq] at h
  refine Def.bd (zFi _ w1) (λr hr=>?_)
  obtain ⟨pl,c5⟩:=r
  obtain ⟨⟨L,l1,l2,l3,l4⟩,z⟩:=hr
  simp only at l1 z
  have hfl:=kH L l4
  refine Def.s ⟨⟨h1,h4,w2,w3,n1,n2,by simp only;rw [l1];omega,λ_=>⟨L,zL6 _ L l1 l3 l4,l2,l3,l4⟩,n3⟩,rfl,z⟩
 ·have hr4:role≠4:=by simpa using h
  refine Def.bd (s8 _ 7 w1 (by decide)) (λr hr=>?_)
  obtain ⟨v5,c5⟩:=r
  obtain ⟨x1,x2,x3⟩:=hr
  simp only at x1 x2 x3
  refine Def.bd (Def.mkN x1 (by omega)) (λn hn=>?_)
  refine Def.bd (P:=λr=>kB ⟨r.1,r.2.1⟩/\r.2.2.length=n) ?_ (λr hr=>?_)
  ·refine Def.loop (λs=>0<=s.1/\s.1<=n/\kB ⟨s.2.1,s.2.2.1⟩/\s.2.2.2.length=n) (λs=>((n:Int) - s.1).toNat) (λs hs=>?_) ⟨Int.le_refl 0,by simp,x3,by simp⟩ (by simp;omega)
   obtain ⟨i,B,A,v⟩:=s
   obtain ⟨y1,y2,y3,y4⟩:=hs
   simp only at y1 y2 y3 y4
   unfold nI
   refine Def.c (λh=>?_) (λ_=>Def.s ⟨y3,y4⟩)
   rw [decide_eq_true_iff] at h
   refine Def.bd (s8 _ 256 y3 (by decide)) (λr hr=>?_)
   obtain ⟨v6,c6⟩:=r
   obtain ⟨_,_,z3⟩:=hr
   refine Def.bd (Def.ixN y1 h) (λj hj=>?_)
   refine Def.bd (Def.upd (by omega)) (λu hu=>Def.s ?_)
   rw [zT (by omega) (by omega)]
   refine ⟨⟨by simp only;omega,by simp only;omega,z3,by simp only [hu,List.length_set];exact y4⟩,by simp only;omega⟩
  obtain ⟨B,A,v⟩:=r
  obtain ⟨y1,y2⟩:=hr
  simp only at y1 y2
  refine Def.bd (Def.ck (zOc y2)) (λ_ _=>?_)
  refine Def.bd (Def.ck (eO (by omega))) (λ_ _=>?_)
  refine Def.s ⟨⟨h1,h4,w2,w3,n1,n2,by simp only;omega,λe=>absurd e hr4,n3⟩,rfl,y1⟩
end Go.Proofs.TT
namespace Go.Proofs.TT
open Go Go.Sw
set_option maxRecDepth 100000
def Bef (a b:api_Image):Prop:=a.Role<=b.Role/\¬ (a.Role=b.Role/\a.Name=b.Name)
structure GoodCh (l:List api_Image):Prop where
 len:l.length<=8
 im:∀ x∈l,GoodIm x
 prs:l.Pairwise Bef
 h1:∃ x∈l,x.Role=1
 h3:∃ x∈l,x.Role=3
theorem u5 {α:Type} {l:List α} {i:Nat} (h:i<l.length) {x:α} (hx:x∈l.take (i+1)):x∈l.take i∨x=l[i]:=by
 rw [List.take_add_one,List.mem_append] at hx
 rcases hx with hx | hx
 ·exact .inl hx
 ·right
  simpa [h] using hx
theorem zM9 (l:List api_Image) (v:api_Image) (hl:l.length<=20):Def (zE (lQ l v) FU (false,0)) (λr=>(r=true->∃ x∈l,x.Role=v.Role)/\(r=false->∀ x∈l,¬ (x.Role=v.Role/\x.Name=v.Name))):=by
 refine Def.loop (λs=>∃ i:Nat,s.2=(i:Int)/\i<=l.length/\(s.1=true->∃ x∈l,x.Role=v.Role)/\(s.1=false->∀ x∈l.take i,¬ (x.Role=v.Role/\x.Name=v.Name))) (λs=>l.length - s.2.toNat) (λs hs=>?_) ⟨0,rfl,by omega,by simp,by simp⟩ (by simp;omega)
 obtain ⟨ag,i'⟩:=s
 obtain ⟨i,g1,g2,g3,g4⟩:=hs
 simp only at g1 g3 g4
 subst g1
 unfold lQ
 refine Def.c (λh=>?_) (λh=>Def.s ⟨g3,λe=>?_⟩)
 ·have hi:i<l.length:=by have:=dT h;omega
  refine Def.bd (P:=λr=>(r=true->∃ x∈l,x.Role=v.Role)/\(r=false->ag=false/\¬ (l[i].Role=v.Role/\l[i].Name=v.Name))) ?_ (λr hr=>?_)
  ·refine Def.c (λha=>Def.s ⟨λ_=>g3 ha,λe=>by simp at e⟩) (λha=>?_)
   refine Def.bd (Def.at' hi) (λy hy=>?_)
   subst hy
   refine Def.c (λhr=>?_) (λhr=>Def.s ⟨λe=>by simp at e,λ_=>⟨ha,λe=>by simp [e.1] at hr⟩⟩)
   rw [beq_iff_eq] at hr
   refine Def.bd (Def.at' hi) (λy hy=>?_)
   subst hy
   refine Def.s ⟨λ_=>⟨_,List.getElem_mem hi,hr⟩,λe=>⟨ha,λe2=>?_⟩⟩
   simp [e2.2] at e
  ·refine Def.s ?_
   rw [yB (by omega)]
   refine ⟨⟨i+1,rfl,by omega,hr.1,λe x hx=>?_⟩,by simp only [Int.toNat_natCast];omega⟩
   obtain ⟨k1,k2⟩:=hr.2 e
   rcases u5 hi hx with hx | rfl
   ·exact g4 k1 x hx
   ·exact k2
 ·have:=dF h
  rw [List.take_of_length_le (by omega)] at g4
  exact g4 e
structure ChI (role:Int) (l:List api_Image):Prop where
 im:∀ x∈l,GoodIm x/\x.Role<=role
 prs:l.Pairwise Bef
 h1:2<=role->∃ x∈l,x.Role=1
 h3:4<=role->∃ x∈l,x.Role=3
theorem zMd (role:Int) (h1:1<=role) (h4:role<=4) (l:List api_Image) (n:Int) (c:sealwrightdraw_Codes) (hc:kB c) (hn:0<=n) (hl:(l.length:Int)+n<=2*role) (hI:ChI role l) (hk:role=1∨role=3->1<=n) :
  Def (zE (lN role) FU (l,n,c.B,c.At)) (λr=>(r.1.length:Int)<=2*role/\ChI role r.1/\(role=1∨role=3->∃ x∈r.1,x.Role=role)/\kB ⟨r.2.1,r.2.2⟩):=by
 refine Def.loop (λs=>0<=s.2.1/\(s.1.length:Int)+s.2.1<=2*role/\ChI role s.1/\(role=1∨role=3->1<=s.2.1∨∃ x∈s.1,x.Role=role)/\kB ⟨s.2.2.1,s.2.2.2⟩) (λs=>s.2.1.toNat) (λs hs=>?_) ⟨hn,hl,hI,λe=>.inl (hk e),hc⟩ (by simp only;omega)
 obtain ⟨l,n,B,A⟩:=s
 obtain ⟨g1,g2,g3,g4,g5⟩:=hs
 simp only at g1 g2 g3 g4 g5
 unfold lN
 refine Def.c (λh=>?_) (λh=>Def.s ?_)
 ·have hn:=dT h
  refine Def.bd (P:=λr=>(r.1.length:Int)+(n - 1)<=2*role/\ChI role r.1/\(∃ x∈r.1,x.Role=role)/\kB ⟨r.2.1,r.2.2⟩) ?_ (λr hr=>?_)
  ·refine Def.bd (zKs _ role g5 h1 h4) (λr hr=>?_)
   obtain ⟨v,c⟩:=r
   obtain ⟨k1,k2,k3⟩:=hr
   simp only at k1 k2 k3
   refine Def.bd (zM9 l v (by omega)) (λag ha=>?_)
   refine Def.c (λhg=>?_) (λhg=>?_)
   ·have hgf:ag=false:=by simpa using hg
    refine Def.bd (Def.app (by simp;omega)) (λl' hl'=>Def.s ?_)
    subst hl'
    refine ⟨by simp;omega,⟨λx hx=>?_,?_,λe=>?_,λe=>?_⟩,⟨v,by simp,k2⟩,k3⟩
    ·rw [List.mem_append] at hx
     rcases hx with hx | hx
     ·exact g3.im x hx
     ·simp at hx;subst hx;exact ⟨k1,by omega⟩
    ·rw [List.pairwise_append]
     refine ⟨g3.prs,by simp,λa ha' b hb=>?_⟩
     simp at hb
     subst hb
     exact ⟨by have:=(g3.im a ha').2;omega,ha.2 hgf a ha'⟩
    ·obtain ⟨x,hx,e2⟩:=g3.h1 e
     exact ⟨x,by simp [hx],e2⟩
    ·obtain ⟨x,hx,e2⟩:=g3.h3 e
     exact ⟨x,by simp [hx],e2⟩
   ·have hgt:ag=true:=by simpa using hg
    obtain ⟨x,hx,e⟩:=ha.1 hgt
    exact Def.s ⟨by simp only;omega,g3,⟨x,hx,by omega⟩,k3⟩
  ·obtain ⟨l',B',A'⟩:=r
   obtain ⟨k1,k2,k3,k4⟩:=hr
   simp only at k1 k2 k3 k4
   refine Def.s ?_
   rw [zT (by omega) (by omega)]
   exact ⟨⟨by simp only;omega,k1,k2,λ_=>.inr k3,k4⟩,by simp only;omega⟩
 ·have hn:=dF h
  refine ⟨by simp only;omega,g3,λe=>?_,g5⟩
  rcases g4 e with h | h
  ·omega
  ·exact h
theorem zJ7 (codes:List UInt8):Def (jP codes) GoodCh:=by
 unfold jP
 refine Def.bd (zO7 codes 200 (by decide) (by decide)) (λc hc=>?_)
 refine Def.bd (P:=GoodCh) ?_ (λr hr=>Def.s hr)
 refine Def.loop (λs=>1<=s.2.1/\s.2.1<=5/\(s.1.length:Int)<=2*(s.2.1 - 1)/\(∀ x∈s.1,GoodIm x/\x.Role<s.2.1)/\s.1.Pairwise Bef/\(2<=s.2.1->∃ x∈s.1,x.Role=1)/\(4<=s.2.1->∃ x∈s.1,x.Role=3)/\kB ⟨s.2.2.1,s.2.2.2⟩) (λs=>(5 - s.2.1).toNat) (λs hs=>?_) ⟨Int.le_refl 1,by simp,by simp,by simp,by simp,by simp,by simp,hc⟩ (by simp)
 obtain ⟨l,role,B,A⟩:=s
 obtain ⟨g1,g2,g3,g4,g5,g6,g7,g8⟩:=hs
 simp only at g1 g2 g3 g4 g5 g6 g7 g8
 unfold fU
 refine Def.c (λh=>?_) (λh=>Def.s ?_)
 ·have hr:=dT h
  refine Def.bd (s8 _ 3 g8 (by decide)) (λr hr=>?_)
  obtain ⟨v,c1⟩:=r
  obtain ⟨k1,k2,k3⟩:=hr
  simp only at k1 k2 k3
  refine Def.bd (P:=λr=>0<=r.1/\r.1<=2/\(role=1∨role=3->1<=r.1)/\kB ⟨r.2.1,r.2.2⟩) ?_ (λr hr=>?_)
  ·refine Def.bd (P:=λb=>b=false->¬ (role=1∨role=3)) ?_ (λb hb=>?_)
   ·refine Def.c (λh=>Def.s (λe=>by simp at e)) (λh=>Def.s (λe=>?_))
    simp at h e
    omega
   refine Def.c (λ_=>?_) (λhf=>Def.s ⟨k1,by simp only;omega,λe=>absurd e (hb hf),k3⟩)
   refine Def.bd (s8 _ 2 k3 (by decide)) (λr hr=>?_)
   obtain ⟨v2,c2⟩:=r
   obtain ⟨j1,j2,j3⟩:=hr
   simp only at j1 j2 j3
   have e:IntKind.i64.wrap (1+v2)=1+v2:=zT (by omega) (by omega)
   exact Def.s ⟨by simp only [e];omega,by simp only [e];omega,λ_=>by simp only [e];omega,j3⟩
  obtain ⟨n,B1,A1⟩:=r
  obtain ⟨j1,j2,j3,j4⟩:=hr
  simp only at j1 j2 j3 j4
  refine Def.bd (zMd role g1 hr l n ⟨B1,A1⟩ j4 j1 (by omega) ⟨λx hx=>⟨(g4 x hx).1,by have:=(g4 x hx).2;omega⟩,g5,g6,g7⟩ j3) (λr hr=>?_)
  obtain ⟨l',B2,A2⟩:=r
  obtain ⟨m1,m2,m3,m4⟩:=hr
  simp only at m1 m2 m3 m4
  refine Def.s ?_
  rw [zT (by omega) (by omega)]
  refine ⟨⟨by simp only;omega,by simp only;omega,by simp only;omega,λx hx=>⟨(m2.im x hx).1,by have:=(m2.im x hx).2;simp only;omega⟩,m2.prs,λe=>?_,λe=>?_,m4⟩,by simp only;omega⟩
  ·simp only at e
   by_cases h1:role=1
   ·obtain ⟨x,hx,e2⟩:=m3 (.inl h1)
    exact ⟨x,hx,by omega⟩
   ·exact m2.h1 (by omega)
  ·simp only at e
   by_cases h3:role=3
   ·obtain ⟨x,hx,e2⟩:=m3 (.inr h3)
    exact ⟨x,hx,by omega⟩
   ·exact m2.h3 (by omega)
 ·have hr:=dF h
  exact ⟨by omega,λx hx=>(g4 x hx).1,g5,g6 (by omega),g7 (by omega)⟩
theorem pw {l:List api_Image} (h:l.Pairwise Bef) {i j:Nat} (hj:j<l.length) (hij:i<j):Bef (l[i]'(by omega)) l[j]:=List.pairwise_iff_getElem.mp h i j (by omega) hj hij
theorem zHf (l:List api_Image) (h:GoodCh l):mZ l=some 0:=by
 obtain ⟨hlen,him,hp,h1,h3⟩:=h
 have hne:l.length≠0:=by
  obtain ⟨x,hx,_⟩:=h1
  intro e
  rw [List.length_eq_zero_iff] at e
  rw [e] at hx
  simp at hx
 have hl1:∀ i:Nat,i<l.length->Def (zE (mK l (i:Int)) FU 0) (λr=>r=.inr ()):=by
  intro i hi
  refine Def.loop (λs=>∃ k:Nat,s=(k:Int)/\k<=i) (λs=>i - s.toNat) (λs hs=>?_) ⟨0,rfl,by omega⟩ (by simp;omega)
  obtain ⟨k,rfl,hk⟩:=hs
  unfold mK
  refine Def.c (λh=>?_) (λh=>Def.s rfl)
  have hki:=dT h
  have hb:=pw hp hi (show k<i by omega)
  refine Def.bd (P:=λb=>b=false) ?_ (λb hb'=>?_)
  ·refine Def.bd (Def.at' (show k<l.length by omega)) (λy hy=>?_)
   subst hy
   refine Def.bd (Def.at' hi) (λy hy=>?_)
   subst hy
   refine Def.c (λhr=>?_) (λ_=>Def.s rfl)
   rw [beq_iff_eq] at hr
   refine Def.bd (Def.at' (show k<l.length by omega)) (λy hy=>?_)
   subst hy
   refine Def.bd (Def.at' hi) (λy hy=>?_)
   subst hy
   refine Def.s ?_
   rw [beq_eq_false_iff_ne]
   exact λe=>hb.2 ⟨hr,e⟩
  subst hb'
  refine Def.s ?_
  rw [yB (by omega)]
  exact ⟨⟨k+1,rfl,by omega⟩,by simp only [Int.toNat_natCast];omega⟩
 have hd:Def (zE (mB l) FU (false,false,0)) (λr=>r=.inr (true,true)):=by
  refine Def.loop (λs=>∃ i:Nat,s.2.2=(i:Int)/\i<=l.length/\((∃ x∈l.take i,x.Role=1)->s.1=true)/\((∃ x∈l.take i,x.Role=3)->s.2.1=true)) (λs=>l.length - s.2.2.toNat) (λs hs=>?_) ⟨0,rfl,by omega,by simp,by simp⟩ (by simp;omega)
  obtain ⟨f,k,i'⟩:=s
  obtain ⟨i,g1,g2,g3,g4⟩:=hs
  simp only at g1 g3 g4
  subst g1
  unfold mB
  refine Def.c (λh=>?_) (λh=>Def.s ?_)
  ·have hi:i<l.length:=by have:=dT h;omega
   refine Def.bd (Def.at' hi) (λy hy=>?_)
   subst hy
   refine Def.bd (P:=λr=>r=0) (Def.of (eP _ (him _ (List.getElem_mem hi))) rfl) (λr hr=>?_)
   subst hr
   refine Def.c (λh=>by simp at h) (λ_=>?_)
   refine Def.bd (P:=λb=>b=false) ?_ (λb hb=>?_)
   ·refine Def.c (λh0=>?_) (λ_=>Def.s rfl)
    have h0':=dT h0
    refine Def.bd (Def.at' hi) (λy hy=>?_)
    subst hy
    rw [zT (by omega) (by omega),show (i:Int) - 1=((i - 1:Nat):Int) by omega]
    refine Def.bd (Def.at' (show i - 1<l.length by omega)) (λy hy=>?_)
    subst hy
    have hb:=(pw hp hi (show i - 1<i by omega)).1
    refine Def.s ?_
    rw [decide_eq_false_iff_not]
    omega
   subst hb
   refine Def.c (λh=>by simp at h) (λ_=>?_)
   refine Def.bd (hl1 i hi) (λr hr=>?_)
   subst hr
   refine Def.bd (P:=λb=>f=true∨l[i].Role=1->b=true) ?_ (λb1 hb1=>?_)
   ·refine Def.c (λ_=>Def.s (λ_=>rfl)) (λhf=>?_)
    refine Def.bd (Def.at' hi) (λy hy=>?_)
    subst hy
    refine Def.s (λe=>?_)
    rcases e with e | e
    ·rw [hf] at e;cases e
    ·rw [e];rfl
   refine Def.bd (P:=λb=>k=true∨l[i].Role=3->b=true) ?_ (λb2 hb2=>?_)
   ·refine Def.c (λ_=>Def.s (λ_=>rfl)) (λhf=>?_)
    refine Def.bd (Def.at' hi) (λy hy=>?_)
    subst hy
    refine Def.s (λe=>?_)
    rcases e with e | e
    ·rw [hf] at e;cases e
    ·rw [e];rfl
   refine Def.s ?_
   rw [yB (by omega)]
   refine ⟨⟨i+1,rfl,by omega,λe=>?_,λe=>?_⟩,by simp only [Int.toNat_natCast];omega⟩
   ·obtain ⟨x,hx,e⟩:=e
    rcases u5 hi hx with hx | rfl
    ·exact hb1 (.inl (g3 ⟨x,hx,e⟩))
    ·exact hb1 (.inr e)
   ·obtain ⟨x,hx,e⟩:=e
    rcases u5 hi hx with hx | rfl
    ·exact hb2 (.inl (g4 ⟨x,hx,e⟩))
    ·exact hb2 (.inr e)
  ·have:=dF h
   rw [List.take_of_length_le (by omega)] at g3 g4
   rw [g3 h1,g4 h3]
 obtain ⟨r,e,rfl⟩:=hd
 unfold mZ
 refine bd (a:=false) (cf ?_ (congrArg some ?_)) ?_
 ·rw [beq_eq_false_iff_ne];omega
 ·rw [decide_eq_false_iff_not];omega
 refine cf rfl ?_
 refine bd e ?_
 rfl
def iW (x:api_Image):List UInt8:=kD (kD (wC (wC [] 1 x.Role) 4 x.Version) x.Name) x.Payload
theorem zF3 (x:api_Image):5<=(iW x).length/\(iW x).length<2 ^ 20:=by
 have h1:=pX (wC (wC [] 1 x.Role) 4 x.Version) x.Name
 have h2:=pX (kD (wC (wC [] 1 x.Role) 4 x.Version) x.Name) x.Payload
 have h3:(wC (wC [] 1 x.Role) 4 x.Version).length=5:=by rw [zS,zS];rfl
 refine ⟨?_,by unfold iW;omega⟩
 unfold iW kD
 simp only [List.length_append,zS,h3]
 omega
theorem aU (x:api_Image) (h:GoodIm x):wK x=some (iW x):=by
 have hi:=eP x h
 obtain ⟨_,_,_,_,_,h6,h7,_,_⟩:=h
 have h3:(wC (wC [] 1 x.Role) 4 x.Version).length=5:=by rw [zS,zS];rfl
 have h4:=pX (wC (wC [] 1 x.Role) 4 x.Version) x.Name
 unfold wK
 refine bd hi ?_
 refine cf rfl ?_
 refine bd (uG [] 1 _ (by omega) (by omega) (by simp)) ?_
 refine bd (uG _ 4 _ (by omega) (by omega) (by rw [zS];simp)) ?_
 refine bd (ckT (eO (by omega))) ?_
 refine bd (sX _ _ (by omega)) ?_
 exact bd (sX _ _ (by omega)) rfl
theorem zE5 (x:api_Image) (h:GoodIm x):Def (wK x) (λr=>r=iW x):=Def.of (aU x h) rfl
theorem zH2 (x:api_Image) (active:Int) (h:GoodIm x):oD x active=some (dgE active true (iW x)):=by
 have hl:=zF3 x
 unfold oD dgE
 refine bd (aU x h) ?_
 generalize iW x=data at hl
 have on:∀ a:Int,(bif decide (0<(data.length:Int)) then ((nZ active a).bind λv=>some v) else some false:Option Bool)=some (true&&yD active a):=by
  intro a
  exact ct (by simp;omega) rfl
 refine bd (a:=[if (true&&yD active 0)=true then o9 data else [],if (true&&yD active 1)=true then sha data else []]) (two (b:=(1,[if (true&&yD active 0)=true then o9 data else [],[]])) (c:=(2,[if (true&&yD active 0)=true then o9 data else [],if (true&&yD active 1)=true then sha data else []])) ?_ ?_ rfl) ?_
 ·unfold pW
  refine ct rfl ?_
  refine bd (a:=[if (true&&yD active 0)=true then o9 data else [],[]]) ?_ rfl
  refine bd (on 0) ?_
  refine (zEi (a:=0) rfl (by omega) (zCl data (by omega))).trans ?_
  cases (true&&yD active 0)<;>rfl
 ·unfold pW
  refine ct rfl ?_
  refine bd (a:=[if (true&&yD active 0)=true then o9 data else [],if (true&&yD active 1)=true then sha data else []]) ?_ rfl
  refine bd (on 1) ?_
  refine (zEi (a:=1) rfl (by omega) (zBe data (by omega))).trans ?_
  cases (true&&yD active 1)<;>rfl
 exact bd (ckT rfl) rfl
theorem l9:∀ f u,(decF f u).length<=f
 | 0,_=>Nat.le_refl _
 | f+1,u=>by
  unfold decF
  cases Nat.blt u 10
  ·simp only [cond_false,List.length_append,List.length_singleton]
   have:=l9 f (u / 10)
   omega
  ·simp only [cond_true,List.length_singleton]
   omega
theorem zG9 (n:Nat) (h:n<10):u8 (IntKind.i64.wrap (48+(n:Int)))=UInt8.ofNat (48+n):=by
 rw [zT (by omega) (by omega),show (48:Int)+(n:Int)=((48+n:Nat):Int) by omega]
 apply UInt8.toNat_inj.mp
 rw [tJ]
 simp
theorem zKv:∀ (k fl f:Nat) (n:Nat),n<10 ^ (k+1)->n<2 ^ 40->k<fl->k<f->f<=20->sO fl (n:Int)=some (decF f n):=by
 intro k
 induction k with
 | zero=>
  intro fl f n h1 _ hf hf2 _
  obtain ⟨g,rfl⟩:∃ g,fl=g+1:=⟨fl - 1,by omega⟩
  obtain ⟨g2,rfl⟩:∃ g,f=g+1:=⟨f - 1,by omega⟩
  have h10:n<10:=by simpa using h1
  unfold sO decF
  refine ct (by simp;omega) ?_
  rw [show Nat.blt n 10=true by simpa [Nat.blt_eq] using h10,zG9 n h10]
  rfl
 | succ k ih=>
  intro fl f n h1 h2 hf hf2 h20
  obtain ⟨g,rfl⟩:∃ g,fl=g+1:=⟨fl - 1,by omega⟩
  obtain ⟨g2,rfl⟩:∃ g,f=g+1:=⟨f - 1,by omega⟩
  unfold sO decF
  by_cases h10:n<10
  ·refine ct (by simp;omega) ?_
   rw [show Nat.blt n 10=true by simpa [Nat.blt_eq] using h10,zG9 n h10]
   rfl
  ·have hd:n / 10<10 ^ (k+1):=by
    rw [Nat.pow_succ] at h1
    omega
   refine cf (by simp;omega) ?_
   rw [show Nat.blt n 10=false by rw [Bool.eq_false_iff];intro e;rw [Nat.blt_eq] at e;omega]
   rw [show Int.tdiv (n:Int) 10=((n / 10:Nat):Int) from rfl,zT (by omega) (by omega)]
   refine bd (ih g g2 (n / 10) hd (by omega) (by omega) (by omega) (by omega)) ?_
   have:=l9 g2 (n / 10)
   refine bd (zQ (by simp;omega)) ?_
   rw [show Int.tmod (n:Int) 10=((n % 10:Nat):Int) from rfl,zG9 (n % 10) (by omega)]
   rfl
def lbl (x:api_Image):List UInt8:=(x.Name++[32])++decF 20 x.Version.toNat
theorem zKz (x:api_Image) (h:GoodIm x):lI x.Name x.Version=some (lbl x):=by
 have h1:=h.nl
 have h2:=h.v0
 have h3:=h.v1
 obtain ⟨n,hn⟩:=Int.eq_ofNat_of_zero_le h2
 unfold lI lbl
 rw [hn]
 refine bd (ckT (eO (by omega))) ?_
 refine bd (zQ (by simp;omega)) ?_
 refine bd (zKv 6 RF 20 n (by show n<10000000;omega) (by omega) (by decide) (by decide) (by decide)) ?_
 have:=l9 20 n
 exact bd (zQ (by rw [List.length_append];simp only [List.length_cons,List.length_nil];omega)) rfl
def rgR (role:Int):Int:=if role=1 then 0 else if role=2 then 4 else if role=3 then 8 else if role=4 then 9 else -1
theorem zOx (r:Int):pN r=some (rgR r):=by
 unfold pN rgR
 by_cases h1:r=1
 ·rw [if_pos h1];exact ct (by simp [h1]) rfl
 rw [if_neg h1];refine cf (by simp [h1]) ?_
 by_cases h2:r=2
 ·rw [if_pos h2];exact ct (by simp [h2]) rfl
 rw [if_neg h2];refine cf (by simp [h2]) ?_
 by_cases h3:r=3
 ·rw [if_pos h3];exact ct (by simp [h3]) rfl
 rw [if_neg h3];refine cf (by simp [h3]) ?_
 by_cases h4:r=4
 ·rw [if_pos h4];exact ct (by simp [h4]) rfl
 ·rw [if_neg h4];exact cf (by simp [h4]) rfl
def imE (active:Int) (x:api_Image):api_Event:=⟨rgR x.Role,1,dgE active true (iW x),lbl x⟩
theorem zH3 (x:api_Image) (active:Int) (h:GoodIm x) (h4:x.Role≠4):oG x active=some (imE active x):=by
 unfold oG
 refine bd (a:=false) ?_ ?_
 ·refine bd (eP x h) ?_
  refine cf rfl ?_
  rw [show (x.Role==4)=false by simp [h4]]
 refine cf rfl ?_
 refine bd (zOx _) ?_
 refine bd (zH2 x active h) ?_
 exact bd (zKz x h) rfl
def zDd (x:api_Image):List (List UInt8):=(uO x).getD []
def evR (active role:Int) (l:List api_Image):List api_Event:=l.flatMap λx=>if x.Role=role then (if role=4 then (zDd x).map (mkE 9 3 active) else [imE active x]) else []
def gA (active:Int):List api_Event:=(List.range 8).map λ(i:Nat)=>mkE (i:Int) 2 active [0,0,0,0]
def evs (l:List api_Image) (active:Int):List api_Event:=evR active 1 l++evR active 2 l++(gA active++evR active 3 l)++evR active 4 l
theorem zEp (x:api_Image) (h:GoodIm x) (h4:x.Role=4):uO x=some (zDd x)/\(zDd x).length<=4/\∀ l∈zDd x,zAo l:=by
 obtain ⟨L,h1,_,h2,h3⟩:=h.l h4
 unfold zDd
 rw [h1]
 exact ⟨rfl,h2,h3⟩
theorem cM (active role:Int) (x:api_Image) (h:GoodIm x):(if x.Role=role then (if role=4 then (zDd x).map (mkE 9 3 active) else [imE active x]) else []).length<=4/\(x.Role=role∨(if x.Role=role then (if role=4 then (zDd x).map (mkE 9 3 active) else [imE active x]) else []).length=0):=by
 by_cases hr:x.Role=role
 ·rw [if_pos hr]
  refine ⟨?_,.inl hr⟩
  by_cases h4:role=4
  ·rw [if_pos h4,List.length_map];exact (zEp x h (by omega)).2.1
  ·rw [if_neg h4];simp
 ·rw [if_neg hr]
  exact ⟨by simp,.inr rfl⟩
theorem zOq (active role:Int) (l:List api_Image) (h:∀ x∈l,GoodIm x):(evR active role l).length<=4*l.length:=by
 induction l with
 | nil=>simp [evR]
 | cons x t ih=>
  have h1:=(cM active role x (h x (List.mem_cons_self ..))).1
  have h2:=ih (λy hy=>h y (List.mem_cons_of_mem _ hy))
  unfold evR at h2 ⊢
  rw [List.flatMap_cons,List.length_append,List.length_cons]
  omega
theorem zIo (active:Int) (l:List api_Image) (h:∀ x∈l,GoodIm x):(evR active 1 l).length+(evR active 2 l).length+(evR active 3 l).length+(evR active 4 l).length<=4*l.length:=by
 induction l with
 | nil=>simp [evR]
 | cons x t ih=>
  have h0:=cM active 1 x (h x (List.mem_cons_self ..))
  have h1:=cM active 2 x (h x (List.mem_cons_self ..))
  have h2:=cM active 3 x (h x (List.mem_cons_self ..))
  have h3:=cM active 4 x (h x (List.mem_cons_self ..))
  have hi:=ih (λy hy=>h y (List.mem_cons_of_mem _ hy))
  unfold evR at hi ⊢
  rw [List.flatMap_cons,List.flatMap_cons,List.flatMap_cons,List.flatMap_cons,List.length_append,List.length_append,List.length_append,List.length_append,List.length_cons]
  omega
theorem zCr (active:Int):(gA active).length=8:=by simp [gA]
theorem zR0 (l:List api_Image) (active:Int) (h:GoodCh l):8<=(evs l active).length/\(evs l active).length<=40:=by
 have h1:=zIo active l h.im
 have h2:=h.len
 have h3:=zCr active
 unfold evs
 simp only [List.length_append]
 omega
theorem zNc (active:Int) (out:List api_Event) (h:out.length<=100):zE (rJ active) FU (out,0)=some (out++gA active):=by
 refine zK 8 (λi=>(out++(gA active).take i,(i:Int))) (by simp) (λi hi=>?_) ?_ (yT (by decide))
 ·unfold rJ
  refine ct (by simp;omega) ?_
  refine bd (a:=[0,0,0,0]) rfl ?_
  refine bd (zJg _ 2 active _ (by decide)) ?_
  refine bd (zQ (by simp [gA];omega)) ?_
  rw [yB (by omega),List.take_add_one,List.append_assoc]
  have:(gA active)[i]? = some (mkE (i:Int) 2 active [0,0,0,0]):=by simp [gA,hi]
  rw [this]
  rfl
 ·unfold rJ
  refine cf rfl ?_
  rw [List.take_of_length_le (by rw [zCr];omega)]
theorem zKl (active:Int) (out:List api_Event) (L:List (List UInt8)) (h:out.length<=100) (hl:L.length<=4) (h8:∀ l∈L,l.length<=8):zE (rG active L) FU (out,0)=some (out++L.map (mkE 9 3 active)):=by
 refine zK L.length (λi=>(out++(L.map (mkE 9 3 active)).take i,(i:Int))) (by simp) (λi hi=>?_) ?_ (yT (by omega))
 ·have:=h8 _ (List.getElem_mem hi)
  unfold rG
  refine ct (dlt hi) ?_
  refine bd (xS hi) ?_
  refine bd (zJg _ 3 active _ (by omega)) ?_
  refine bd (zQ (by simp;omega)) ?_
  rw [yB (by omega),List.take_add_one,List.append_assoc]
  simp [hi]
 ·unfold rG
  refine cf (dge (Nat.le_refl _)) ?_
  rw [List.take_of_length_le (by simp)]
theorem fE (active role:Int) (l:List api_Image) (out:List api_Event) (hl:l.length<=8) (him:∀ x∈l,GoodIm x) (h:out.length<=60) (h4:role<=4):zE (rD l active role) FU (out,0)=some (out++evR active role l):=by
 refine zK l.length (λi=>(out++evR active role (l.take i),(i:Int))) (by simp [evR]) (λi hi=>?_) ?_ (yT (by omega))
 ·have hg:=him _ (List.getElem_mem hi)
  have hle:=zOq active role (l.take i) (λx hx=>him x (List.mem_of_mem_take hx))
  rw [List.length_take] at hle
  have hs:evR active role (l.take (i+1))=evR active role (l.take i)++(if l[i].Role=role then (if role=4 then (zDd l[i]).map (mkE 9 3 active) else [imE active l[i]]) else []):=by
   unfold evR
   rw [List.take_add_one,List.flatMap_append]
   simp [hi]
  have hol:(out++evR active role (l.take i)).length<=100:=by rw [List.length_append];omega
  rw [hs,<- List.append_assoc]
  generalize out++evR active role (l.take i)=o at hol
  unfold rD
  refine ct (dlt hi) ?_
  refine bd (a:=o++(if l[i].Role=role then (if role=4 then (zDd l[i]).map (mkE 9 3 active) else [imE active l[i]]) else [])) ?_ (by rw [yB (by omega)])
  refine bd (xS hi) ?_
  by_cases hr:l[i].Role=role
  ·rw [if_pos hr]
   refine cf (by simp [hr]) ?_
   by_cases hr4:role=4
   ·rw [if_pos hr4]
    refine cf (by simp [hr4]) ?_
    refine bd (xS hi) ?_
    obtain ⟨q1,q2,q3⟩:=zEp _ hg (by omega)
    refine bd q1 ?_
    exact bd (zKl active o _ hol q2 (λl hl=>(q3 l hl).2.1)) rfl
   ·rw [if_neg hr4]
    refine ct (by simp [hr4]) ?_
    refine bd (xS hi) ?_
    refine bd (zH3 _ active hg (by omega)) ?_
    exact bd (zQ (by simp;omega)) rfl
  ·rw [if_neg hr]
   refine ct (by simp [hr]) ?_
   simp
 ·unfold rD
  refine cf (dge (Nat.le_refl _)) ?_
  simp
theorem zJ8 (l:List api_Image) (active:Int) (h:GoodCh l) (h1:1<=active) (h3:active<=3):sB l active=some (evs l active):=by
 have hc:=zHf l h
 have hl:=h.len
 have hb:=zIo active l h.im
 have hsl:=zCr active
 unfold sB
 refine bd (a:=false) ?_ ?_
 ·refine bd hc ?_
  refine cf rfl ?_
  refine cf (by simp;omega) ?_
  rw [show decide (3<active)=false by simp;omega]
 refine cf rfl ?_
 refine bd (a:=evs l active) ?_ rfl
 refine zK (x:=(([]:List api_Event),(1:Int))) 4 (λi=>match i with | 0=>([],1) | 1=>(evR active 1 l,2) | 2=>(evR active 1 l++evR active 2 l,3) | 3=>(evR active 1 l++evR active 2 l++(gA active++evR active 3 l),4) | _=>(evs l active,5)) rfl (λi hi=>?_) rfl (yT (by decide))
 have:i=0∨i=1∨i=2∨i=3:=by omega
 rcases this with rfl | rfl | rfl | rfl
 ·show xL l active ([],1)=some (.inl (evR active 1 l,2))
  unfold xL
  refine ct rfl ?_
  refine bd (a:=[]) rfl ?_
  exact bd (fE active 1 l [] hl h.im (by simp) (by omega)) rfl
 ·show xL l active (evR active 1 l,2)=some (.inl (evR active 1 l++evR active 2 l,3))
  unfold xL
  refine ct rfl ?_
  refine bd (a:=evR active 1 l) rfl ?_
  exact bd (fE active 2 l _ hl h.im (by omega) (by omega)) rfl
 ·show xL l active (evR active 1 l++evR active 2 l,3)=some (.inl (evR active 1 l++evR active 2 l++(gA active++evR active 3 l),4))
  unfold xL
  refine ct rfl ?_
  refine bd (a:=evR active 1 l++evR active 2 l++gA active) (bd (zNc active _ (by rw [List.length_append];omega)) rfl) ?_
  refine bd (fE active 3 l _ hl h.im (by simp only [List.length_append];omega) (by omega)) ?_
  rw [List.append_assoc]
  rfl
 ·show xL l active (evR active 1 l++evR active 2 l++(gA active++evR active 3 l),4)=some (.inl (evs l active,5))
  unfold xL
  refine ct rfl ?_
  refine bd (a:=evR active 1 l++evR active 2 l++(gA active++evR active 3 l)) rfl ?_
  exact bd (fE active 4 l _ hl h.im (by simp only [List.length_append];omega) (by omega)) rfl
end Go.Proofs.TT
namespace Go.Proofs.TT
open Go Go.Sw
set_option maxRecDepth 100000
theorem zA4 (n m:Int) (hm:1<=m) (hm2:m<2 ^ 40):Def (mD n m) (λr=>0<=r/\r<m):=by
 unfold mD
 refine Def.c (λh=>by have:=dT h;omega) (λ_=>?_)
 refine Def.bd (Def.ck (by simp;omega)) (λ_ _=>?_)
 have h1:-m<Int.tmod n m:=by
  have:=Int.lt_tmod_of_pos n (by omega:0<m)
  omega
 have h2:Int.tmod n m<m:=Int.tmod_lt_of_pos n (by omega)
 refine Def.bd (P:=λr=>0<=r/\r<m) ?_ (λr hr=>Def.s hr)
 refine Def.c (λh=>Def.s ?_) (λh=>Def.s ?_)
 ·have:=dT h
  rw [zT (by omega) (by omega)]
  omega
 ·have:=dF h
  omega
end Go.Proofs.TT
namespace Go.Proofs.TT
open Go Go.Sw
set_option maxRecDepth 100000
theorem zBk:∀ a b:List UInt8,Op.bytesLess a b=false->Op.bytesLess b a=false->a=b
 | [],[],_,_=>rfl
 | [],_ :: _,h,_=>by cases h
 | _ :: _,[],_,h=>by cases h
 | x :: a,y :: b,h1,h2=>by
  simp only [Op.bytesLess,Bool.or_eq_false_iff,Bool.and_eq_false_iff,decide_eq_false_iff_not,beq_eq_false_iff_ne] at h1 h2
  have hxy:x=y:=by
   have p:=h1.1
   have q:=h2.1
   rw [UInt8.lt_iff_toNat_lt] at p q
   exact UInt8.toNat_inj.mp (by omega)
  subst hxy
  rw [zBk a b (h1.2.resolve_left (λh=>h rfl)) (h2.2.resolve_left (λh=>h rfl))]
theorem zNs (a b:List UInt8) (ha:a.length<2 ^ 40):Def (j5 a b) (λr=>r=Op.bytesLess a b):=by
 unfold j5
 refine Def.bd (P:=λr=>match r with | .inl r=>r=Op.bytesLess a b | .inr _=>decide ((a.length:Int)<(b.length:Int))=Op.bytesLess a b) ?_ (λr hr=>?_)
 ·refine Def.loop (λ(s:Int)=>∃ i:Nat,s=(i:Int)/\i<=a.length/\i<=b.length/\Op.bytesLess (a.drop i) (b.drop i)=Op.bytesLess a b) (λs=>a.length - s.toNat) (λs hs=>?_) ⟨0,rfl,by omega,by omega,rfl⟩ (by simp;omega)
  obtain ⟨i,rfl,h1,h2,hb⟩:=hs
  unfold eB
  refine Def.bd (P:=λc=>c=(decide (i<a.length)&&decide (i<b.length))) ?_ (λc hc=>?_)
  ·refine Def.c (λh=>Def.s ?_) (λh=>Def.s ?_)
   ·have h3:=dT h
    rw [show decide (i<a.length)=true by simp;omega,Bool.true_and]
    exact decide_eq_decide.2 (by omega)
   ·have h3:=dF h
    rw [show decide (i<a.length)=false by simp;omega,Bool.false_and]
  refine Def.c (λhcc=>?_) (λhcc=>Def.s ?_)
  ·rw [hcc] at hc
   have hc':i<a.length/\i<b.length:=by simpa using hc.symm
   rw [List.drop_eq_getElem_cons hc'.1,List.drop_eq_getElem_cons hc'.2] at hb
   refine Def.bd (Def.at' hc'.1) (λx hx=>?_)
   refine Def.bd (Def.at' hc'.2) (λy hy=>?_)
   refine Def.c (λhne=>?_) (λhne=>Def.s ?_)
   ·refine Def.bd (Def.at' hc'.1) (λx' hx'=>?_)
    refine Def.bd (Def.at' hc'.2) (λy' hy'=>Def.s ?_)
    subst hx hy hx' hy'
    have hne':a[i]≠b[i]:=λh=>by rw [h] at hne;simp at hne
    show decide _=_
    rw [<- hb]
    simp only [Op.bytesLess]
    rw [show (a[i]==b[i])=false by simp [hne'],Bool.false_and,Bool.or_false]
    exact decide_eq_decide.2 (by rw [UInt8.lt_iff_toNat_lt];omega)
   ·subst hx hy
    have he:a[i]=b[i]:=by
     have:(a[i].toNat:Int)=(b[i].toNat:Int):=by simpa using hne
     exact UInt8.toNat_inj.mp (by omega)
    rw [yB (by omega)]
    refine ⟨⟨i+1,rfl,by omega,by omega,?_⟩,by simp only [Int.toNat_natCast];omega⟩
    rw [<- hb]
    simp only [Op.bytesLess]
    rw [he]
    simp
  ·rw [hcc] at hc
   have hc':i<a.length->b.length<=i:=by simpa using hc.symm
   rw [<- hb]
   by_cases h3:i<a.length
   ·have:i=b.length:=by have:=hc' h3;omega
    rw [this,List.drop_length]
    rw [show decide ((a.length:Int)<(b.length:Int))=false by simp;omega]
    cases a.drop b.length<;>rfl
   ·have:i=a.length:=by omega
    rw [this,List.drop_length]
    by_cases h4:a.length<b.length
    ·rw [List.drop_eq_getElem_cons h4]
     rw [show decide ((a.length:Int)<(b.length:Int))=true by simp;omega]
     rfl
    ·rw [List.drop_eq_nil_of_le (by omega)]
     rw [show decide ((a.length:Int)<(b.length:Int))=false by simp;omega]
     rfl
 ·cases r with
  | inl r=>exact Def.s hr
  | inr u=>exact Def.s hr
def bfr (a b:api_Entry):Bool:=
 if a.Role≠b.Role then decide (a.Role<b.Role) else if a.Name≠b.Name then Op.bytesLess a.Name b.Name else if a.Version≠b.Version then decide (a.Version<b.Version) else Op.bytesLess a.Digest b.Digest
theorem zCo (a b:api_Entry) (ha:a.Digest.length<2 ^ 40):Def (pA a b) (λr=>r=bfr a b):=by
 unfold pA bfr
 refine Def.c (λh=>Def.s ?_) (λh=>Def.c (λh2=>Def.s ?_) (λh2=>Def.c (λh3=>Def.s ?_) (λh3=>?_)))
 ·rw [if_pos (by simpa using h)]
 ·rw [if_neg (by simpa using h),if_pos (by simpa using h2)];rfl
 ·rw [if_neg (by simpa using h),if_neg (by simpa using h2),if_pos (by simpa using h3)]
 ·rw [if_neg (by simpa using h),if_neg (by simpa using h2),if_neg (by simpa using h3)]
  exact Def.bd (zNs _ _ ha) (λr hr=>Def.s hr)
theorem zJ5 {a b:api_Entry} (h1:bfr a b=false) (h2:bfr b a=false):a=b:=by
 unfold bfr at h1 h2
 by_cases hr:a.Role=b.Role
 ·rw [if_neg (by simp [hr])] at h1;rw [if_neg (by simp [hr])] at h2
  by_cases hn:a.Name=b.Name
  ·rw [if_neg (by simp [hn])] at h1;rw [if_neg (by simp [hn])] at h2
   by_cases hv:a.Version=b.Version
   ·rw [if_neg (by simp [hv])] at h1;rw [if_neg (by simp [hv])] at h2
    have hd:=zBk _ _ h1 h2
    cases a;cases b;simp_all
   ·rw [if_pos hv] at h1;rw [if_pos (λh=>hv h.symm)] at h2
    have:=dF h1;have:=dF h2;omega
  ·rw [if_pos hn] at h1;rw [if_pos (λh=>hn h.symm)] at h2
   exact absurd (zBk _ _ h1 h2) hn
 ·rw [if_pos hr] at h1;rw [if_pos (λh=>hr h.symm)] at h2
  have:=dF h1;have:=dF h2;omega
def adj:List api_Entry->Prop
 | a :: b :: r=>bfr a b=true/\adj (b :: r)
 | _=>True
theorem zMb {a:api_Entry} {l:List api_Entry} (h:adj (a :: l)):adj l:=by
 cases l with
 | nil=>trivial
 | cons b r=>exact h.2
theorem zEx (x:api_Entry):∀ (p s:List api_Entry),adj (p++s)->(∀ e∈p,bfr e x=true)->(∀ e,s.head? = some e->bfr x e=true)->adj (p++x :: s)
 | [],[],_,_,_=>trivial
 | [],y :: t,h,_,hs=>⟨hs y rfl,h⟩
 | [a],s,h,hp,hs=>⟨hp a (List.mem_cons_self ..),zEx x [] s (zMb h) (λ_ h=>by cases h) hs⟩
 | a :: b :: r,s,h,hp,hs=>⟨h.1,zEx x (b :: r) s h.2 (λe he=>hp e (List.mem_cons_of_mem _ he)) hs⟩
theorem zI6:∀ {m:List api_Entry},adj m->∀ j,(h:j+1<m.length)->bfr m[j] m[j+1]=true
 | a :: b :: r,hm,0,_=>hm.1
 | a :: b :: r,hm,j+1,h=>zI6 (m:=b :: r) hm.2 j (by simpa using h)
 | [a],_,j,h=>by simp at h
 | [],_,j,h=>by simp at h
def enI (x:api_Image):api_Entry:=⟨x.Role,x.Name,x.Version,sha (iW x)⟩
structure EnOk (e:api_Entry):Prop where
 r1:1<=e.Role
 r3:e.Role<=3
 v0:0<=e.Version
 v1:e.Version<=1000000
 n:xQ e.Name=some true
 d:e.Digest.length=32
theorem zQj {x:api_Image} (h:GoodIm x) (h4:x.Role≠4):EnOk (enI x):=⟨h.r1,by have:=h.r4;show x.Role<=3;omega,h.v0,h.v1,h.pn,sF _⟩
structure DsOk (l:List api_Image) (m:List api_Entry):Prop where
 a:adj m
 e:∀ e∈m,EnOk e
 i:∀ x∈l,x.Role≠4->enI x∈m
theorem zEw (vendor:List UInt8) (version:Int) (l:List api_Image) (h:GoodCh l):Def (uF vendor version l) (λm=>m=⟨vendor,version,0,0,1099511627776,m.Entries,[]⟩/\m.Entries.length<=8/\DsOk l m.Entries):=by
 have hlen:=h.len
 unfold uF
 refine Def.bd (P:=λm=>m.length<=8/\DsOk l m) ?_ (λm hm=>Def.s ⟨rfl,hm⟩)
 refine Def.loop (λs=>∃ i:Nat,s.1=(i:Int)/\i<=l.length/\s.2.length<=i/\DsOk (l.take i) s.2) (λs=>l.length - s.1.toNat) (λs hs=>?_) ⟨0,rfl,by omega,by simp,⟨trivial,(by simp),(by simp)⟩⟩ (by simp;omega)
 obtain ⟨i',m⟩:=s
 obtain ⟨i,g1,g2,g3,g4⟩:=hs
 simp only at g1 g3 g4
 subst g1
 unfold lK
 refine Def.c (λh=>?_) (λh=>Def.s ⟨by omega,?_⟩)
 ·have hi:i<l.length:=by have:=dT h;omega
  have hg:=‹GoodCh l›.im _ (List.getElem_mem hi)
  have hel:=zF3 l[i]
  refine Def.bd (P:=λr=>r.length<=m.length+1/\DsOk (l.take (i+1)) r) ?_ (λr hr=>Def.s ?_)
  ·refine Def.bd (Def.at' hi) (λy hy=>?_)
   subst hy
   refine Def.bd (zE5 _ hg) (λb hb=>?_)
   subst hb
   refine Def.bd (P:=λc=>c=(l[i].Role==4)) ?_ (λc hc=>?_)
   ·refine Def.c (λh=>by simp at h;rw [h] at hel;simp at hel) (λ_=>?_)
    refine Def.bd (Def.at' hi) (λy hy=>Def.s (by rw [hy]))
   have skip:(l[i].Role≠4->enI l[i]∈m)->DsOk (l.take (i+1)) m:=λh=>⟨g4.a,g4.e,λx hx h4=>by
    rcases u5 hi hx with hx | rfl
    ·exact g4.i x hx h4
    ·exact h h4⟩
   refine Def.c (λh4=>Def.s ⟨by omega,skip (λhn=>?_)⟩) (λh4=>?_)
   ·rw [hc] at h4;exact absurd (by simpa using h4) hn
   have h4':l[i].Role≠4:=by rw [hc] at h4;simpa using h4
   refine Def.bd (Def.at' hi) (λy1 hy1=>?_)
   refine Def.bd (Def.at' hi) (λy2 hy2=>?_)
   refine Def.bd (Def.at' hi) (λy3 hy3=>?_)
   refine Def.bd (P:=λd=>d=sha (iW l[i])) (Def.of (gV _ (by omega)) rfl) (λd hd=>?_)
   have hx:(⟨y1.Role,y2.Name,y3.Version,d⟩:api_Entry)=enI l[i]:=by rw [hy1,hy2,hy3,hd];rfl
   have hxo:=zQj hg h4'
   refine Def.bd (P:=λ(k:Int)=>∃ n:Nat,k=(n:Int)/\n<=m.length/\(∀ e∈m.take n,bfr e (enI l[i])=true)/\∀ e,(m.drop n).head? = some e->bfr e (enI l[i])=false) ?_ (λk hk=>?_)
   ·refine Def.loop (λ(s:Int)=>∃ n:Nat,s=(n:Int)/\n<=m.length/\(∀ e∈m.take n,bfr e (enI l[i])=true)) (λs=>m.length - s.toNat) (λs hs=>?_) ⟨0,rfl,by omega,by simp⟩ (by simp;omega)
    obtain ⟨n,rfl,hn,hb⟩:=hs
    unfold mV
    rw [hx]
    refine Def.bd (P:=λc=>(c=true->∃ hn:n<m.length,bfr m[n] (enI l[i])=true)/\(c=false->∀ e,(m.drop n).head? = some e->bfr e (enI l[i])=false)) ?_ (λc hc=>?_)
    ·refine Def.c (λh=>?_) (λh=>Def.s ⟨λe=>(by cases e),λ_ e he=>?_⟩)
     ·have hs:n<m.length:=by have:=dT h;omega
      refine Def.bd (Def.at' hs) (λe he=>?_)
      subst he
      refine Def.bd (zCo _ _ (by rw [(g4.e _ (List.getElem_mem hs)).d];decide)) (λc hc=>Def.s ⟨λe=>⟨hs,by rw [<- hc];exact e⟩,λe x hx=>?_⟩)
      rw [List.drop_eq_getElem_cons hs] at hx
      have hx:some m[n]=some x:=hx
      injection hx with hx
      rw [<- hx,<- hc];exact e
     ·have:=dF h
      rw [List.drop_eq_nil_of_le (by omega)] at he
      cases he
    refine Def.c (λh=>Def.s ?_) (λh=>Def.s ⟨n,rfl,hn,hb,hc.2 h⟩)
    obtain ⟨hs,hbf⟩:=hc.1 h
    rw [yB (by omega)]
    refine ⟨⟨n+1,rfl,by omega,λe he=>?_⟩,by simp only [Int.toNat_natCast];omega⟩
    rcases u5 hs he with he | rfl
    ·exact hb e he
    ·exact hbf
   obtain ⟨n,rfl,hn,hbt,hbd⟩:=hk
   rw [hx]
   refine Def.bd (P:=λc=>(c=true->enI l[i]∈m)/\(c=false->∀ e,(m.drop n).head? = some e->bfr (enI l[i]) e=true)) ?_ (λc hc=>?_)
   ·refine Def.c (λh=>?_) (λh=>Def.s ⟨λe=>(by cases e),λ_ e he=>?_⟩)
    ·have hs:n<m.length:=by have:=dT h;omega
     refine Def.bd (Def.at' hs) (λe he=>?_)
     subst he
     have hh:(m.drop n).head? = some m[n]:=by rw [List.drop_eq_getElem_cons hs];rfl
     refine Def.bd (zCo _ _ (by show (sha (iW l[i])).length<_;rw [sF];decide)) (λc hc=>Def.s ⟨λe=>?_,λe x hx=>?_⟩)
     ·have h1:bfr (enI l[i]) m[n]=false:=by rw [<- hc];simpa using e
      rw [zJ5 h1 (hbd _ hh)]
      exact List.getElem_mem hs
     ·rw [hh] at hx
      injection hx with hx
      rw [<- hx,<- hc];simpa using e
    ·have:=dF h
     rw [List.drop_eq_nil_of_le (by omega)] at he
     cases he
   refine Def.c (λh=>Def.s ⟨by omega,skip (λ_=>hc.1 h)⟩) (λhcf=>?_)
   refine Def.bd (Def.sub (by decide) (by omega) (by omega)) (λx hxx=>?_)
   have hxt:x=m.take n:=by rw [hxx];simp
   have hxl:x.length=n:=by rw [hxt];simp;omega
   refine Def.bd (Def.app (by simp;omega)) (λy hy=>?_)
   rw [List.nil_append] at hy
   subst hy
   refine Def.bd (Def.app (by simp;omega)) (λz hz=>?_)
   refine Def.bd (Def.sub (by omega) (by omega) (Int.le_refl _)) (λw hw=>?_)
   have hwt:w=m.drop n:=by
    rw [hw]
    simp only [Int.toNat_natCast]
    rw [List.take_of_length_le (by simp)]
   have hwl:w.length=m.length - n:=by rw [hwt];simp
   have hzl:z.length=y.length+1:=by rw [hz];simp
   refine Def.bd (Def.app (by omega)) (λq hq=>Def.s ⟨by rw [hq,List.length_append];omega,?_⟩)
   have hq':q=m.take n++enI l[i] :: m.drop n:=by rw [hq,hz,hxt,hwt,List.append_assoc];rfl
   have hmem:∀ e,e∈q↔e=enI l[i]∨e∈m:=by
    intro e
    have:e∈m↔e∈m.take n∨e∈m.drop n:=by
     rw [<- List.mem_append,List.take_append_drop]
    rw [hq',List.mem_append,List.mem_cons,this]
    constructor
    ·rintro (h | h | h)
     ·exact .inr (.inl h)
     ·exact .inl h
     ·exact .inr (.inr h)
    ·rintro (h | h | h)
     ·exact .inr (.inl h)
     ·exact .inl h
     ·exact .inr (.inr h)
   refine ⟨?_,λe he=>?_,λv hv h4=>?_⟩
   ·rw [hq']
    exact zEx _ _ _ (by rw [List.take_append_drop];exact g4.a) hbt (hc.2 hcf)
   ·rcases (hmem e).1 he with rfl | he
    ·exact hxo
    ·exact g4.e e he
   ·rw [hmem]
    rcases u5 hi hv with hv | rfl
    ·exact .inr (g4.i v hv h4)
    ·exact .inl rfl
  ·rw [yB (by omega)]
   exact ⟨⟨i+1,rfl,by omega,by have:=hr.1;show r.length<=i+1;omega,hr.2⟩,by simp only [Int.toNat_natCast];omega⟩
 ·have:=dF h
  rw [List.take_of_length_le (by omega)] at g4
  exact g4
def MOk (m:api_Manifest):Prop:=∀ r∈m.Rules,r.Text.length<2 ^ 40
end Go.Proofs.TT
namespace Go.Proofs.TT
open Go Go.Sw
set_option maxRecDepth 100000
def siz (a:Int):Int:=if a=0 then 20 else if a=1 then 32 else 0
theorem zBb (a:Int):pY a=some (siz a):=by
 unfold pY siz
 by_cases h0:a=0
 ·rw [if_pos h0];exact ct (by simp [h0]) rfl
 ·rw [if_neg h0]
  refine cf (by simp [h0]) ?_
  by_cases h1:a=1
  ·rw [if_pos h1];exact ct (by simp [h1]) rfl
  ·rw [if_neg h1];exact cf (by simp [h1]) rfl
def Fit (e:api_Event) (active:Int) (a:Nat):Prop:=((e.Digests.getD a []).length:Int)=if e.Kind≠5/\yD active (a:Int)=true then siz (a:Int) else 0
theorem nf2 {e:api_Event} {active:Int} (h:∃ i,i<2/\¬ Fit e active i):¬ (Fit e active 0/\Fit e active 1):=by
 obtain ⟨i,hi,hn⟩:=h
 intro ⟨h0,h1⟩
 have:i=0∨i=1:=by omega
 rcases this with rfl | rfl
 ·exact hn h0
 ·exact hn h1
theorem zFp {e:api_Event} {active:Int} {a:Nat} {has:Option Bool} {size:Option Int} (h1:has=some (yD active (a:Int))) (h2:size=some (siz (a:Int))) :
  Def ((bif (e.Kind != 5) then has else some false:Option Bool).bind λv=>bif v then size else some 0) (λw=>w=if e.Kind≠5/\yD active (a:Int)=true then siz (a:Int) else 0):=by
 subst h1 h2
 by_cases hk:e.Kind=5
 ·rw [show (e.Kind != 5)=false by simp [hk]]
  exact Def.s (by rw [if_neg (λh=>h.1 hk)])
 ·rw [show (e.Kind != 5)=true by simp [hk]]
  cases hb:yD active (a:Int)
  ·exact Def.s (by rw [if_neg (λh=>by cases h.2)])
  ·exact Def.s (by rw [if_pos ⟨hk,rfl⟩])
theorem zA0 {e:api_Event} {active:Int} {a:Nat} {w:Int} (hl:a<e.Digests.length) (hw:w=if e.Kind≠5/\yD active (a:Int)=true then siz (a:Int) else 0):((e.Digests[a].length:Int) != w)=false↔Fit e active a:=by
 unfold Fit
 rw [<- hw]
 simp [hl]
theorem zN9 (e:api_Event) (active:Int):Def (sE e active) (λr=>r=true↔e.Digests.length=2/\Fit e active 0/\Fit e active 1):=by
 unfold sE
 refine Def.c (λh=>Def.s ⟨λh=>(by cases h),λh2=>?_⟩) (λh=>?_)
 ·rw [h2.1] at h;cases h
 have hl:e.Digests.length=2:=by simp at h;omega
 refine Def.bd (xD e.Digests (uE e active) (λi=>Fit e active i) (λb=>b=false/\∃ i,i<2/\¬ Fit e active i) (by omega) (λa ha=>?_) ?_) (λr hr=>?_)
 ·unfold uE
  refine Def.c (λ_=>?_) (λh=>by have:=dF h;omega)
  refine Def.bd (zFp (e:=e) (active:=active) (a:=a) rfl (by rw [zBb];rfl)) (λw hw=>?_)
  refine Def.bd (Def.at' ha) (λd hd=>?_)
  subst hd
  refine Def.c (λhne=>Def.s ⟨rfl,a,by omega,λhF=>?_⟩) (λhne=>Def.s ⟨yB (by omega),(zA0 ha hw).1 hne⟩)
  rw [(zA0 ha hw).2 hF] at hne;cases hne
 ·unfold uE
  rw [hl]
  exact cf rfl rfl
 ·cases r with
  | inl b=>exact Def.s ⟨λh=>(by rw [hr.1] at h;cases h),λh=>absurd h.2 (nf2 hr.2)⟩
  | inr u=>exact Def.s ⟨λ_=>⟨hl,hr 0 (by omega),hr 1 (by omega)⟩,λ_=>rfl⟩
structure EvGood (e:api_Event) (active:Int):Prop where
 r0:0<=e.Register
 r1:e.Register<=11
 d:e.Data.length<=64
 l:e.Digests.length=2
 f0:Fit e active 0
 f1:Fit e active 1
structure EvC (e:api_Event) (active:Int):Prop extends EvGood e active where
 a1:1<=active
 a3:active<=3
 k1:1<=e.Kind
 k5:e.Kind<=5
theorem or6 {a b c d e f:Bool}:Def (bif a then some true else bif b then some true else bif c then some true else bif d then some true else bif e then some true else some f) (λr=>r=(a||b||c||d||e||f)):=by
 cases a<;>cases b<;>cases c<;>cases d<;>cases e<;>cases f<;>exact Def.s rfl
theorem zJl {e:api_Event} {active:Int} {b:Bool} (h:b=(decide (active<1)||decide (3<active)||decide (e.Register<0)||decide (11<e.Register)||decide (e.Kind<1)||decide (5<e.Kind))) :
  b=false↔(1<=active/\active<=3/\0<=e.Register/\e.Register<=11/\1<=e.Kind/\e.Kind<=5):=by
 subst h
 simp only [Bool.or_eq_false_iff,decide_eq_false_iff_not]
 omega
theorem zMx (e:api_Event) (active:Int):Def (oS e active) (λr=>r=0↔EvC e active):=by
 unfold oS
 refine Def.bd or6 (λb hb=>?_)
 have hb:=zJl hb
 refine Def.c (λh=>Def.s ⟨λh=>(by cases h),λhc=>?_⟩) (λhbf=>?_)
 ·have:=hb.2 ⟨hc.a1,hc.a3,hc.r0,hc.r1,hc.k1,hc.k5⟩
  rw [this] at h;cases h
 obtain ⟨h1,h2,h3,h4,h5,h6⟩:=hb.1 hbf
 refine Def.c (λh=>Def.s ⟨λh=>(by cases h),λhc=>?_⟩) (λhd=>?_)
 ·have:=dT h;have:=hc.d;omega
 have hd':=dF hd
 refine Def.bd (zN9 e active) (λf hf=>?_)
 refine Def.c (λh=>Def.s ⟨λh=>(by cases h),λhc=>?_⟩) (λhft=>Def.s ⟨λ_=>?_,λ_=>rfl⟩)
 ·rw [hf.2 ⟨hc.l,hc.f0,hc.f1⟩] at h;cases h
 ·obtain ⟨k1,k2,k3⟩:=hf.1 (by simpa using hft)
  exact ⟨⟨h3,h4,by omega,k1,k2,k3⟩,h1,h2,h5,h6⟩
def bnk (n:Nat):List (List UInt8):=List.replicate 12 (List.replicate n 0)++List.replicate 4 (List.replicate n 255)
theorem new1:kX 1=some ⟨[bnk 20,[]],0⟩:=by decide +kernel
theorem new2:kX 2=some ⟨[[],bnk 32],0⟩:=by decide +kernel
theorem new3:kX 3=some ⟨[bnk 20,bnk 32],0⟩:=by decide +kernel
theorem sel1:vL 1=some ⟨4095,0⟩:=by decide +kernel
theorem sel2:vL 2=some ⟨0,4095⟩:=by decide +kernel
theorem sel3:vL 3=some ⟨4095,4095⟩:=by decide +kernel
structure BkOk (active:Int) (r:api_Registers):Prop where
 b:∃ b0 b1,r.Banks=[b0,b1]/\b0.length=(if yD active 0=true then 16 else 0)/\b1.length=(if yD active 1=true then 16 else 0)/\(∀ x∈b0,x.length<=32)/\(∀ x∈b1,x.length<=32)
theorem zEv (b0 b1:List (List UInt8)) (u:Int):xV ⟨[b0,b1],u⟩ 0=some (decide (0<(b0.length:Int)))/\xV ⟨[b0,b1],u⟩ 1=some (decide (0<(b1.length:Int))):=⟨rfl,rfl⟩
theorem zJ0 (r:api_Registers) (b0 b1:List (List UInt8)) (hb:r.Banks=[b0,b1]) (l0:b0.length<=16) (l1:b1.length<=16) (h0:∀ x∈b0,x.length<=32) (h1:∀ x∈b1,x.length<=32):fA r=some (b0,b1,r.Updates):=by
 have cp:∀ x:List UInt8,x.length<=32->vO x=some x:=λx hx=>cI x (by omega)
 unfold fA
 refine ct (by rw [hb];rfl) ?_
 refine bd (a:=b0) ?_ ?_
 ·refine zK b0.length (λi=>(b0.take i,(i:Int))) (by simp) (λi hi=>?_) ?_ (yT (by omega))
  ·unfold jJ
   rw [hb]
   refine bd (a:=b0) rfl ?_
   refine ct (dlt hi) ?_
   refine bd (a:=b0) rfl ?_
   refine bd (xS hi) ?_
   refine bd (cp _ (h0 _ (List.getElem_mem hi))) ?_
   refine bd (zQ (by simp;omega)) ?_
   rw [yB (show i<2 ^ 40 by omega),List.take_add_one]
   simp [hi]
  ·unfold jJ
   rw [hb]
   refine bd (a:=b0) rfl ?_
   refine cf (dge (Nat.le_refl _)) ?_
   simp
 refine ct (by rw [hb];rfl) ?_
 refine bd (a:=(b1,b0)) ?_ ?_
 ·refine zK b1.length (λi=>(b1.take i,(i:Int),b0)) (by simp) (λi hi=>?_) ?_ (yT (by omega))
  ·unfold jM
   rw [hb]
   refine bd (a:=b1) rfl ?_
   refine ct (dlt hi) ?_
   refine bd (a:=b1) rfl ?_
   refine bd (xS hi) ?_
   refine bd (cp _ (h1 _ (List.getElem_mem hi))) ?_
   refine bd (zQ (by simp;omega)) ?_
   rw [yB (show i<2 ^ 40 by omega),List.take_add_one]
   simp [hi]
  ·unfold jM
   rw [hb]
   refine bd (a:=b1) rfl ?_
   refine cf (dge (Nat.le_refl _)) ?_
   simp
 exact cf (by rw [hb];rfl) rfl
def upR (act:Bool) (bk:List (List UInt8)) (reg:Int) (f:List UInt8->List UInt8):List (List UInt8):=if act=true then bk.set reg.toNat (f (bk.getD reg.toNat [])) else bk
def ext (active:Int) (e:api_Event) (r:api_Registers):api_Registers:=
 ⟨[upR (yD active 0) (r.Banks.getD 0 []) e.Register (λx=>o9 (x++e.Digests.getD 0 [])),upR (yD active 1) (r.Banks.getD 1 []) e.Register (λx=>sha (x++e.Digests.getD 1 []))],IntKind.i64.wrap (r.Updates+1)⟩
theorem zI8 (act:Bool) (bk:List (List UInt8)) (reg:Int) (f:List UInt8->List UInt8):(upR act bk reg f).length=bk.length:=by unfold upR;split<;>simp
theorem zLr {act:Bool} {bk:List (List UInt8)} {reg:Int} {f:List UInt8->List UInt8} (h:∀ x∈bk,x.length<=32) (hf:∀ x,(f x).length<=32):∀ x∈upR act bk reg f,x.length<=32:=by
 intro x hx
 unfold upR at hx
 split at hx
 ·rcases List.mem_or_eq_of_mem_set hx with hx | hx
  ·exact h x hx
  ·rw [hx];exact hf _
 ·exact h x hx
theorem zS5 {active:Int} {e:api_Event} {r:api_Registers} (h:BkOk active r):BkOk active (ext active e r):=by
 obtain ⟨⟨b0,b1,hb,l0,l1,m0,m1⟩⟩:=h
 unfold ext
 rw [hb]
 exact ⟨⟨_,_,rfl,by rw [zI8];exact l0,by rw [zI8];exact l1,zLr m0 (λx=>by rw [zCg];omega),zLr m1 (λx=>by rw [sF];omega)⟩⟩
theorem zHj (r:api_Registers) (active:Int) (e:api_Event) (hr:BkOk active r) (he:EvGood e active) (hk:e.Kind≠5):Def (lE r 0 e.Register e.Digests) (λx=>x=(ext active e r,0)):=by
 obtain ⟨⟨b0,b1,hb,l0,l1,m0,m1⟩⟩:=hr
 obtain ⟨r0,r1,_,dl,f0,f1⟩:=he
 obtain ⟨bs,u⟩:=r
 simp only at hb
 subst hb
 have l0':b0.length<=16:=by rw [l0];split<;>omega
 have l1':b1.length<=16:=by rw [l1];split<;>omega
 unfold Fit at f0 f1
 have f0':((e.Digests.getD 0 []).length:Int)<=32:=by rw [f0];split<;>decide
 have f1':((e.Digests.getD 1 []).length:Int)<=32:=by rw [f1];split<;>decide
 have g0:∀ d∈e.Digests,d.length<=32:=by
  intro d hd
  obtain ⟨i,hi,rfl⟩:=List.mem_iff_getElem.mp hd
  have hi2:i=0∨i=1:=by omega
  rcases hi2 with rfl | rfl
  ·have:(e.Digests.getD 0 [])=e.Digests[0]:=by simp [hi]
   rw [<- this]
   omega
  ·have:(e.Digests.getD 1 [])=e.Digests[1]:=by simp [hi]
   rw [<- this]
   omega
 have i0:idx e.Digests 0=some (e.Digests.getD 0 []):=zAr (i:=0) (by omega)
 have i1:idx e.Digests 1=some (e.Digests.getD 1 []):=zAr (i:=1) (by omega)
 have a0:xV ⟨[b0,b1],u⟩ 0=some (yD active 0):=by
  rw [(zEv b0 b1 u).1,l0];cases yD active 0<;>rfl
 have a1:xV ⟨[b0,b1],u⟩ 1=some (yD active 1):=by
  rw [(zEv b0 b1 u).2,l1];cases yD active 1<;>rfl
 unfold lE
 refine Def.bd (P:=λb=>b=false) ?_ (λb hb=>?_)
 ·refine Def.c (λh=>by cases h) (λ_=>Def.c (λh=>by cases h) (λ_=>Def.c (λh=>?_) (λ_=>Def.c (λh=>?_) (λ_=>Def.s ?_))))
  ·have:=dT h;omega
  ·have:=dT h;omega
  ·simp;omega
 subst hb
 refine Def.c (λh=>by cases h) (λ_=>?_)
 refine Def.bd (P:=λn=>n=0) ?_ (λn hn=>?_)
 ·unfold dH
  refine Def.bd (P:=λb=>b=false) (Def.s rfl) (λb hb=>?_)
  subst hb
  refine Def.c (λh=>by cases h) (λ_=>?_)
  have e14:(e.Register==14)=false:=by simp;omega
  have e15:(e.Register==15)=false:=by simp;omega
  rw [e14,e15]
  exact Def.s rfl
 subst hn
 refine Def.c (λh=>by cases h) (λ_=>?_)
 refine Def.bd (P:=λr=>r=.inr ()) ?_ (λr hr=>?_)
 ·refine Def.loop (λs=>s=0∨s=1∨s=2) (λs=>2 - s.toNat) (λs hs=>?_) (.inl rfl) (by simp)
  unfold gL
  refine Def.c (λh=>?_) (λh=>Def.s rfl)
  refine Def.bd (P:=λb=>b=false) ?_ (λb hb=>?_)
  ·rcases hs with rfl | rfl | rfl
   ·refine Def.bd (P:=λb=>b=yD active 0) (Def.of a0 rfl) (λb hb=>?_)
    subst hb
    refine Def.c (λh=>?_) (λ_=>Def.s rfl)
    refine Def.bd (P:=λd=>d=e.Digests.getD 0 []) (Def.of i0 rfl) (λd hd=>Def.s ?_)
    have hh:yD active 0=false:=by simpa using h
    rw [if_neg (by show ¬ (e.Kind≠5/\yD active 0=true);rw [hh];simp)] at f0
    rw [decide_eq_false_iff_not,hd];omega
   ·refine Def.bd (P:=λb=>b=yD active 1) (Def.of a1 rfl) (λb hb=>?_)
    subst hb
    refine Def.c (λh=>?_) (λ_=>Def.s rfl)
    refine Def.bd (P:=λd=>d=e.Digests.getD 1 []) (Def.of i1 rfl) (λd hd=>Def.s ?_)
    have hh:yD active 1=false:=by simpa using h
    rw [if_neg (by show ¬ (e.Kind≠5/\yD active 1=true);rw [hh];simp)] at f1
    rw [decide_eq_false_iff_not,hd];omega
   ·cases h
  subst hb
  refine Def.s ?_
  rcases hs with rfl | rfl | rfl
  ·exact ⟨.inr (.inl rfl),by decide⟩
  ·exact ⟨.inr (.inr rfl),by decide⟩
  ·cases h
 subst hr
 refine Def.bd (P:=λr=>r=.inr ()) ?_ (λr hr=>?_)
 ·refine Def.loop (λs=>s=0∨s=1∨s=2) (λs=>2 - s.toNat) (λs hs=>?_) (.inl rfl) (by simp)
  unfold hR
  refine Def.c (λh=>?_) (λh=>Def.s rfl)
  refine Def.bd (P:=λb=>b=false) ?_ (λb hb=>?_)
  ·rcases hs with rfl | rfl | rfl
   ·refine Def.bd (P:=λb=>b=yD active 0) (Def.of a0 rfl) (λb hb=>?_)
    subst hb
    refine Def.c (λh=>?_) (λ_=>Def.s rfl)
    refine Def.bd (P:=λd=>d=e.Digests.getD 0 []) (Def.of i0 rfl) (λd hd=>?_)
    refine Def.bd (P:=λd=>d=siz 0) (Def.of (zBb 0) rfl) (λz hz=>Def.s ?_)
    rw [if_pos ⟨hk,h⟩] at f0
    rw [hd,hz];simp;exact f0
   ·refine Def.bd (P:=λb=>b=yD active 1) (Def.of a1 rfl) (λb hb=>?_)
    subst hb
    refine Def.c (λh=>?_) (λ_=>Def.s rfl)
    refine Def.bd (P:=λd=>d=e.Digests.getD 1 []) (Def.of i1 rfl) (λd hd=>?_)
    refine Def.bd (P:=λd=>d=siz 1) (Def.of (zBb 1) rfl) (λz hz=>Def.s ?_)
    rw [if_pos ⟨hk,h⟩] at f1
    rw [hd,hz];simp;exact f1
   ·cases h
  subst hb
  refine Def.s ?_
  rcases hs with rfl | rfl | rfl
  ·exact ⟨.inr (.inl rfl),by decide⟩
  ·exact ⟨.inr (.inr rfl),by decide⟩
  ·cases h
 subst hr
 refine Def.bd (P:=λx=>x=(b0,b1,u)) (Def.of (zJ0 _ b0 b1 rfl l0' l1' m0 m1) rfl) (λx hx=>?_)
 subst hx
 obtain ⟨rn,hrn⟩:=Int.eq_ofNat_of_zero_le r0
 have one:∀ (a:Nat) (bk:List (List UInt8)) (f:List UInt8->List UInt8) (h2:a<2) (h16:bk.length=16) (mm:∀ x∈bk,x.length<=32) (hf:∀ z,z.length<2 ^ 40->tT (a:Int) z=some (f z)),
   Def ((idx bk e.Register).bind λw=>(vO w).bind λw'=>(idx e.Digests (a:Int)).bind λd=>(zX 1 w' d).bind λz=>(tT (a:Int) z).bind λs=>(ixN bk.length e.Register).bind λj=>(tA bk j s).bind λl=>some l)
    (λb=>b=upR true bk e.Register (λx=>f (x++e.Digests.getD a []))):=by
  intro a bk f h2 h16 mm hf
  rw [hrn]
  have hm:bk.getD rn []∈bk:=by
   have:rn<bk.length:=by omega
   simp [this]
  have:=mm _ hm
  refine Def.bd (P:=λx=>x=bk.getD rn []) (Def.of (zAr (by omega)) rfl) (λx hx=>?_)
  subst hx
  refine Def.bd (P:=λy=>y=bk.getD rn []) (Def.of (cI _ (by omega)) rfl) (λy hy=>?_)
  subst hy
  have hd:e.Digests.getD a []∈e.Digests:=by
   have:a<e.Digests.length:=by omega
   simp [this]
  have:=g0 _ hd
  refine Def.bd (P:=λd=>d=e.Digests.getD a []) (Def.of (zAr (by omega)) rfl) (λd hd=>?_)
  subst hd
  refine Def.bd (Def.app (by omega)) (λz hz=>?_)
  have hzl:z.length<2 ^ 40:=by rw [hz,List.length_append];omega
  refine Def.bd (P:=λs=>s=f z) (Def.of (hf z hzl) rfl) (λs hs=>?_)
  refine Def.bd (Def.ixN (by omega) (by omega)) (λj hj=>?_)
  refine Def.bd (Def.upd hj.2) (λq hq=>Def.s ?_)
  rw [hq,hj.1,hs,hz]
  rfl
 refine Def.bd (P:=λb=>b=upR (yD active 0) b0 e.Register (λx=>o9 (x++e.Digests.getD 0 []))) ?_ (λc0 hc0=>?_)
 ·refine Def.bd (P:=λb=>b=yD active 0) (Def.of a0 rfl) (λb hb=>?_)
  subst hb
  refine Def.c (λh=>?_) (λh=>Def.s (by rw [h];rfl))
  rw [if_pos h] at l0
  rw [h]
  refine Def.bd (P:=λb=>b=b0) (Def.s rfl) (λb hb=>?_)
  subst hb
  exact one 0 _ o9 (by omega) l0 m0 zCl
 refine Def.bd (P:=λb=>b=upR (yD active 1) b1 e.Register (λx=>sha (x++e.Digests.getD 1 []))) ?_ (λc1 hc1=>?_)
 ·refine Def.bd (P:=λb=>b=yD active 1) (Def.of a1 rfl) (λb hb=>?_)
  subst hb
  refine Def.c (λh=>?_) (λh=>Def.s (by rw [h];rfl))
  rw [if_pos h] at l1
  rw [h]
  refine Def.bd (P:=λb=>b=b1) (Def.s rfl) (λb hb=>?_)
  subst hb
  exact one 1 _ sha (by omega) l1 m1 zBe
 exact Def.s (by rw [hc0,hc1];rfl)
end Go.Proofs.TT
namespace Go.Proofs.TT
open Go Go.Sw
set_option maxRecDepth 100000
theorem zM5 {a:Int} (h1:1<=a) (h3:a<=3):a=1∨a=2∨a=3:=by omega
theorem zA5 (n:Nat):(bnk n).length=16:=by simp [bnk]
theorem zEu (n:Nat) (h:n<=32):∀ x∈bnk n,x.length<=32:=by
 intro x hx
 simp only [bnk,List.mem_append,List.mem_replicate] at hx
 rcases hx with ⟨_,rfl⟩ | ⟨_,rfl⟩<;>simp [h]
def zKh (active:Int):api_Registers:=⟨[if yD active 0=true then bnk 20 else [],if yD active 1=true then bnk 32 else []],0⟩
theorem zP6 (active:Int) (h1:1<=active) (h3:active<=3):kX active=some (zKh active):=by
 rcases zM5 h1 h3 with rfl | rfl | rfl
 ·exact new1
 ·exact new2
 ·exact new3
theorem zO2 (active:Int) (h1:1<=active) (h3:active<=3):BkOk active (zKh active):=by
 rcases zM5 h1 h3 with rfl | rfl | rfl
 ·exact ⟨⟨_,_,rfl,zA5 20,rfl,zEu 20 (by omega),(by intro x hx;cases hx)⟩⟩
 ·exact ⟨⟨_,_,rfl,rfl,zA5 32,(by intro x hx;cases hx),zEu 32 (by omega)⟩⟩
 ·exact ⟨⟨_,_,rfl,zA5 20,zA5 32,zEu 20 (by omega),zEu 32 (by omega)⟩⟩
def rpl (active:Int) (es:List api_Event):api_Registers:=es.foldl (λr e=>if e.Kind=5 then r else ext active e r) (zKh active)
theorem zGa (active:Int) {es:List api_Event} {a:Nat} (h:a<es.length):rpl active (es.take (a+1))=if es[a].Kind=5 then rpl active (es.take a) else ext active es[a] (rpl active (es.take a)):=by
 unfold rpl
 rw [List.take_add_one,List.foldl_append]
 simp [h]
theorem zIc (active:Int):∀ (es:List api_Event) (r:api_Registers),BkOk active r->BkOk active (es.foldl (λr e=>if e.Kind=5 then r else ext active e r) r)
 | [],_,h=>h
 | e :: es,r,h=>by
  rw [List.foldl_cons]
  refine zIc active es _ ?_
  split
  ·exact h
  ·exact zS5 h
theorem zE1 (active:Int) (es:List api_Event) (h1:1<=active) (h3:active<=3):BkOk active (rpl active es):=zIc active es _ (zO2 active h1 h3)
theorem zHy (l:api_Log) (h:l.Events.length<2 ^ 20) (h1:1<=l.Active) (h3:l.Active<=3):Def (nX l) (λr=>(r.2=0->r.1=rpl l.Active l.Events)/\((∀ e∈l.Events,EvC e l.Active)->r.2=0)):=by
 unfold nX
 refine Def.bd (P:=λb=>b=false) ?_ (λb hb=>?_)
 ·refine Def.c (λh=>by have:=dT h;omega) (λ_=>Def.s ?_)
  rw [decide_eq_false_iff_not];omega
 subst hb
 refine Def.c (λh=>by cases h) (λ_=>?_)
 refine Def.bd (xD l.Events (s9 l) (λi=>∀ h:i<l.Events.length,EvGood l.Events[i] l.Active) (λv=>v.2≠0/\¬ ∀ e∈l.Events,EvC e l.Active) (by omega) (λa ha=>?_) ?_) (λr hr=>?_)
 ·unfold s9
  refine Def.c (λ_=>?_) (λh=>by have:=dF h;omega)
  refine Def.bd (Def.at' ha) (λe he=>?_)
  subst he
  refine Def.bd (zMx _ _) (λr hr=>?_)
  refine Def.c (λhz=>Def.s ⟨by simpa using hz,λhall=>?_⟩) (λhz=>Def.s ⟨yB (by omega),λ_=>(hr.1 (by simpa using hz)).toEvGood⟩)
  have:=hr.2 (hall _ (List.getElem_mem ha))
  rw [this] at hz;cases hz
 ·unfold s9
  exact cf (by simp) rfl
 cases r with
 | inl v=>exact Def.s ⟨λh=>absurd h hr.1,λh=>absurd h hr.2⟩
 | inr u=>
  have hr':∀ e∈l.Events,EvGood e l.Active:=by
   intro e he
   obtain ⟨i,hi,rfl⟩:=List.mem_iff_getElem.mp he
   exact hr i hi hi
  refine Def.bd (P:=λr=>r=zKh l.Active) (Def.of (zP6 _ h1 h3) rfl) (λrg hrg=>?_)
  subst hrg
  refine Def.bd (P:=λr=>(⟨r.1,r.2⟩:api_Registers)=rpl l.Active l.Events) ?_ (λr hr=>Def.s ⟨λ_=>hr,λ_=>rfl⟩)
  refine Def.loop (λs=>∃ a:Nat,s.1=(a:Int)/\a<=l.Events.length/\(⟨s.2.1,s.2.2⟩:api_Registers)=rpl l.Active (l.Events.take a)) (λs=>l.Events.length - s.1.toNat) (λs hs=>?_) ⟨0,rfl,by omega,rfl⟩ (by simp;omega)
  obtain ⟨a',bs,up⟩:=s
  obtain ⟨a,g1,g2,g3⟩:=hs
  simp only at g1 g3
  subst g1
  unfold j8
  refine Def.c (λh=>?_) (λh=>Def.s ?_)
  ·have ha2:a<l.Events.length:=by have:=dT h;omega
   refine Def.bd (P:=λr=>(⟨r.1,r.2⟩:api_Registers)=rpl l.Active (l.Events.take (a+1))) ?_ (λr hr=>Def.s ?_)
   ·rw [zGa _ ha2]
    refine Def.bd (Def.at' ha2) (λe he=>?_)
    subst he
    refine Def.c (λhk=>?_) (λhk=>Def.s (by rw [if_pos (by simpa using hk)];exact g3))
    have hk':l.Events[a].Kind≠5:=by simpa using hk
    rw [if_neg hk']
    refine Def.bd (Def.at' ha2) (λe he=>?_)
    subst he
    refine Def.bd (Def.at' ha2) (λe he=>?_)
    subst he
    rw [g3]
    exact Def.bd (zHj _ l.Active _ (zE1 _ _ h1 h3) (hr' _ (List.getElem_mem ha2)) hk') (λr hr=>Def.s (by subst hr;rfl))
   ·rw [yB (by omega)]
    exact ⟨⟨a+1,rfl,by omega,hr⟩,by simp only [Int.toNat_natCast];omega⟩
  ·have:=dF h
   rw [List.take_of_length_le (by omega)] at g3
   exact g3
theorem bit0 (x:Int):(yQ .i64 (zU .i64 0 x) 1==1)=false:=by
 unfold zU
 rw [Int.zero_fdiv]
 decide
def xB (active a:Int):Int:=if yD active a=true then 4095 else 0
theorem zOu (active:Int) (h1:1<=active) (h3:active<=3):vL active=some ⟨xB active 0,xB active 1⟩:=by
 rcases zM5 h1 h3 with rfl | rfl | rfl
 ·exact sel1
 ·exact sel2
 ·exact sel3
def zOo (v:Int) (i:Nat):Bool:=yQ .i64 (zU .i64 v (IntKind.u64.wrap (i:Int))) 1==1
def oZ (v:Int) (bk:List (List UInt8)):Nat->List UInt8
 | 0=>[]
 | n+1=>oZ v bk n++(if zOo v n=true then bk.getD n [] else [])
theorem zMn (v:Int) (bk:List (List UInt8)) (n:Nat):oZ v bk (n+1)=oZ v bk n++(if zOo v n=true then bk.getD n [] else []):=rfl
theorem zA1 {bk:List (List UInt8)} (h:∀ x∈bk,x.length<=32) (n:Nat):(bk.getD n []).length<=32:=by
 by_cases hn:n<bk.length
 ·have:bk.getD n []=bk[n]:=by simp [hn]
  rw [this];exact h _ (List.getElem_mem hn)
 ·have:bk.getD n []=[]:=by simp [List.getD,List.getElem?_eq_none (by omega:bk.length<=n)]
  rw [this];simp
theorem kV {bk:List (List UInt8)} (h:∀ x∈bk,x.length<=32) (v:Int):∀ n,(oZ v bk n).length<=32*n
 | 0=>by simp [oZ]
 | n+1=>by
  have:=kV h v n
  have:=zA1 h n
  rw [zMn,List.length_append]
  split
  ·omega
  ·simp only [List.length_nil];omega
theorem zF7 {bk:List (List UInt8)} {v:Int} {i:Nat} {all:List UInt8} {o:Option (List (List UInt8))} (hi:i<16) (hz:v=0∨bk.length=16) (hb:∀ x∈bk,x.length<=32) (hl:all.length<=512) (ho:o=some bk) :
  (bif ((yQ .i64 (zU .i64 v (IntKind.u64.wrap (i:Int))) 1)==1) then (o.bind λb=>(idx b (i:Int)).bind λx=>(zX 1 (all++oZ v bk i) x).bind λz=>some z) else some (all++oZ v bk i))=some (all++oZ v bk (i+1)):=by
 have hs:=kV hb v i
 have hg:=zA1 hb i
 rw [zMn]
 cases hbit:zOo v i
 ·refine cf hbit ?_
  simp
 ·refine ct hbit ?_
  have h16:bk.length=16:=by
   rcases hz with h | h
   ·unfold zOo at hbit;rw [h,bit0] at hbit;cases hbit
   ·exact h
  refine bd ho ?_
  refine bd (zAr (by omega)) ?_
  refine bd (zQ (by rw [List.length_append];omega)) ?_
  simp
theorem zO9 (r:api_Registers) (s:A2 Int) (a:Int) (v:Int) (bk:List (List UInt8)) (hv:((ixN 2 a).bind λj=>[s.a0,s.a1][j]?)=some v) (hi:idx r.Banks a=some bk) (hz:v=0∨bk.length=16) (hb:∀ x∈bk,x.length<=32) (all:List UInt8) (hl:all.length<=512) :
  zE (n5 r s a) FU (all,0)=some (all++oZ v bk 16):=by
 refine zK 16 (λi=>(all++oZ v bk i,(i:Int))) (by simp [oZ]) (λi hi16=>?_) rfl (yT (by decide))
 unfold n5
 refine ct (by simp;omega) ?_
 have e:∀ (f:Int->Option (List UInt8)),((ixN 2 a).bind λj=>([s.a0,s.a1][j]?).bind f)=f v:=by
  intro f
  rw [<- Option.bind_assoc,hv];rfl
 rw [e]
 refine bd (zF7 hi16 hz hb hl hi) ?_
 rw [yB (by omega)]
def dgs (active:Int) (r:api_Registers):List UInt8:=hs 5 [wC (wC [] 2 (xB active 0)) 2 (xB active 1),oZ (xB active 0) (r.Banks.getD 0 []) 16++oZ (xB active 1) (r.Banks.getD 1 []) 16]
theorem zJi (active:Int) (r:api_Registers):(dgs active r).length=32:=aF _ _
theorem kN (active a:Int):0<=xB active a/\xB active a<=65535:=by unfold xB;split<;>decide
theorem zEn {active a:Int} {b:Bool} (hb:b=yD active a):(xB active a != 0&&!b)=false:=by
 subst hb
 unfold xB
 cases yD active a<;>rfl
theorem zG5 (r:api_Registers) (active:Int) (hr:BkOk active r):m6 r ⟨xB active 0,xB active 1⟩=some (dgs active r,0):=by
 obtain ⟨⟨b0,b1,hb,l0,l1,m0,m1⟩⟩:=hr
 obtain ⟨bs,u⟩:=r
 simp only at hb
 subst hb
 have s0:=kN active 0
 have s1:=kN active 1
 have z0:xB active 0=0∨b0.length=16:=by unfold xB;split at l0<;>simp_all
 have z1:xB active 1=0∨b1.length=16:=by unfold xB;split at l1<;>simp_all
 have a0:xV ⟨[b0,b1],u⟩ 0=some (yD active 0):=by
  rw [(zEv b0 b1 u).1,l0];cases yD active 0<;>rfl
 have a1:xV ⟨[b0,b1],u⟩ 1=some (yD active 1):=by
  rw [(zEv b0 b1 u).2,l1];cases yD active 1<;>rfl
 have n0:=zEn (active:=active) (a:=0) rfl
 have n1:=zEn (active:=active) (a:=1) rfl
 have hd:dgs active ⟨[b0,b1],u⟩=hs 5 [wC (wC [] 2 (xB active 0)) 2 (xB active 1),oZ (xB active 0) b0 16++oZ (xB active 1) b1 16]:=rfl
 rw [hd]
 generalize xB active 0=x0 at s0 z0 n0
 generalize xB active 1=x1 at s1 z1 n1
 have e0:=kV m0 x0 16
 have e1:=kV m1 x1 16
 have d0:=zO9 ⟨[b0,b1],u⟩ ⟨x0,x1⟩ 0 x0 b0 rfl rfl z0 m0 [] (by simp)
 have d1:=zO9 ⟨[b0,b1],u⟩ ⟨x0,x1⟩ 1 x1 b1 rfl rfl z1 m1 (oZ x0 b0 16) (by omega)
 rw [List.nil_append] at d0
 generalize oZ x0 b0 16=t0 at *
 generalize oZ x1 b1 16=t1 at *
 have rng:∀ x:Int,0<=x/\x<=65535->(bif decide (x<0) then some true else some (decide (65535<x)):Option Bool)=some false:=by
  intro x hx
  refine cf (by simp;omega) ?_
  rw [show decide (65535<x)=false by simp;omega]
 have act:∀ (x:Int) (o:Option Bool) (b:Bool),o=some b->(x != 0&&!b)=false->(bif x != 0 then (o.bind λb=>some (!b)) else some false:Option Bool)=some false:=by
  intro x o b ho hn
  subst ho
  cases h:x != 0
  ·rfl
  ·rw [h] at hn
   exact congrArg some hn
 unfold m6
 refine bd (a:=.inr ()) (two (b:=1) (c:=2) ?_ ?_ rfl) ?_
 ·unfold mM
  refine ct rfl ?_
  exact bd (a:=false) (rng x0 s0) rfl
 ·unfold mM
  refine ct rfl ?_
  exact bd (a:=false) (rng x1 s1) rfl
 refine bd (a:=.inr (t0++t1)) (two (b:=(t0,1)) (c:=(t0++t1,2)) ?_ ?_ rfl) ?_
 ·unfold mH
  refine ct rfl ?_
  refine bd (a:=false) (act x0 _ _ a0 n0) ?_
  refine cf rfl ?_
  exact bd d0 rfl
 ·unfold mH
  refine ct rfl ?_
  refine bd (a:=false) (act x1 _ _ a1 n1) ?_
  refine cf rfl ?_
  exact bd d1 rfl
 refine bd (a:=x0) rfl ?_
 refine bd (uG [] 2 x0 (by omega) (by omega) (by simp)) ?_
 refine bd (a:=x1) rfl ?_
 refine bd (uG _ 2 x1 (by omega) (by omega) (by rw [zS];simp)) ?_
 exact bd (mP _ _ (by rw [zJy,zS,zS,List.length_append];simp only [List.length_nil];omega)) rfl
theorem zGv (l:api_Log) (h:l.Events.length<2 ^ 20) (h1:1<=l.Active) (h3:l.Active<=3) (hg:∀ e∈l.Events,EvC e l.Active):vC l ⟨xB l.Active 0,xB l.Active 1⟩=some (dgs l.Active (rpl l.Active l.Events),0):=by
 obtain ⟨⟨rg,e⟩,h0,h2,h4⟩:=zHy l h h1 h3
 have he:e=0:=h4 hg
 subst he
 have hrg:rg=rpl l.Active l.Events:=h2 rfl
 subst hrg
 unfold vC
 refine bd h0 ?_
 refine cf rfl ?_
 exact bd (zG5 _ l.Active (zE1 _ _ h1 h3)) rfl
end Go.Proofs.TT
namespace Go.Proofs.TT
open Go Go.Sw
set_option maxRecDepth 100000
end Go.Proofs.TT
namespace Go.Proofs.TT
open Go Go.Sw
set_option maxRecDepth 100000
theorem kQ (a:Int):tV a=some (siz a):=zBb a
theorem zH6 (e:api_Event) (active:Int):Def (rV e active) (λr=>r=0↔EvC e active):=by
 unfold rV
 refine Def.bd or6 (λb hb=>?_)
 have hb:=zJl hb
 refine Def.c (λh=>Def.s ⟨λh=>(by cases h),λhc=>?_⟩) (λhbf=>?_)
 ·have:=hb.2 ⟨hc.a1,hc.a3,hc.r0,hc.r1,hc.k1,hc.k5⟩
  rw [this] at h;cases h
 obtain ⟨h1,h2,h3,h4,h5,h6⟩:=hb.1 hbf
 refine Def.c (λh=>Def.s ⟨λh=>(by cases h),λhc=>?_⟩) (λhd=>?_)
 ·have:=dT h;have:=hc.d;omega
 have hd':=dF hd
 refine Def.c (λh=>Def.s ⟨λh=>(by cases h),λhc=>?_⟩) (λhl0=>?_)
 ·rw [hc.l] at h;cases h
 have hl:e.Digests.length=2:=by simp at hl0;omega
 refine Def.bd (xD e.Digests (qK e active) (λi=>Fit e active i) (λb=>b=27/\∃ i,i<2/\¬ Fit e active i) (by omega) (λa ha=>?_) ?_) (λr hr=>?_)
 ·unfold qK
  refine Def.c (λ_=>?_) (λh=>by have:=dF h;omega)
  refine Def.bd (Def.at' ha) (λd hd=>?_)
  subst hd
  refine Def.bd (zFp (e:=e) (active:=active) (a:=a) ?_ (by rw [kQ];rfl)) (λw hw=>?_)
  ·refine bd (ckT (by simp)) ?_
   have hw:IntKind.u64.wrap (a:Int)=(a:Int):=gQ (by omega) (by omega)
   unfold yD
   rw [hw]
  refine Def.c (λhne=>Def.s ⟨rfl,a,by omega,λhF=>?_⟩) (λhne=>Def.s ⟨yB (by omega),(zA0 ha hw).1 hne⟩)
  rw [(zA0 ha hw).2 hF] at hne;cases hne
 ·unfold qK
  rw [hl]
  exact cf rfl rfl
 ·cases r with
  | inl b=>exact Def.s ⟨λh=>(by rw [hr.1] at h;cases h),λh=>absurd ⟨h.f0,h.f1⟩ (nf2 hr.2)⟩
  | inr u=>exact Def.s ⟨λ_=>⟨⟨h3,h4,by omega,hl,hr 0 (by omega),hr 1 (by omega)⟩,h1,h2,h5,h6⟩,λ_=>rfl⟩
theorem zMf {e:api_Event} {active:Int} (h:EvC e active):Def (rV e active) (λr=>r=0):=(zH6 e active).mono λ_ hr=>hr.2 h
end Go.Proofs.TT
namespace Go.Proofs.TT
open Go Go.Sw
set_option maxRecDepth 100000
theorem wnew (b:List UInt8) (h:b.length<2 ^ 40):mE b=some (RS.W ⟨b,0,0⟩):=by
 unfold mE
 refine bd (zQ (by simp;omega)) ?_
 rfl
end Go.Proofs.TT
namespace Go.Proofs.TT
open Go Go.Sw
set_option maxRecDepth 100000
structure LgGood (l:api_Log):Prop where
 ev:∀ e∈l.Events,EvC e l.Active
 n:l.Events.length<=40
end Go.Proofs.TT
namespace Go.Proofs.TT
open Go Go.Sw
set_option maxRecDepth 100000
def mQ (e:api_Event):List UInt8:=[u8 e.Register,u8 e.Kind]++((beN ((e.Digests.getD 0 []).length:Int) 2 2++e.Digests.getD 0 [])++((beN ((e.Digests.getD 1 []).length:Int) 2 2++e.Digests.getD 1 [])++(beN (e.Data.length:Int) 2 2++e.Data)))
theorem i8 {e:api_Event} {active:Int} {a:Nat} (h:Fit e active a):(e.Digests.getD a []).length<=32:=by
 unfold Fit siz at h
 split at h
 ·split at h
  ·omega
  ·split at h<;>omega
 ·omega
theorem bF {e:api_Event} {active:Int} (h:EvGood e active):1<=(mQ e).length/\(mQ e).length<=136:=by
 have h0:=i8 h.f0
 have h1:=i8 h.f1
 have h2:=h.d
 unfold mQ
 simp only [List.length_append,uB,List.length_cons,List.length_nil]
 omega
theorem zFs (e:api_Event) (active:Int) (h:EvC e active):tE e=some (mQ e):=by
 have h0:=i8 h.f0
 have h1:=i8 h.f1
 have h2:=h.d
 have hl:=h.l
 have i0:idx e.Digests 0=some (e.Digests.getD 0 []):=zAr (i:=0) (by omega)
 have i1:idx e.Digests 1=some (e.Digests.getD 1 []):=zAr (i:=1) (by omega)
 have r0:=h.r0
 have r1:=h.r1
 have k1:=h.k1
 have k5:=h.k5
 have hW:qR e=some true:=by
  unfold qR
  refine bd (a:=false) ?_ ?_
  ·refine cf (by simp;omega) (cf (by simp;omega) (cf (by simp;omega) (cf (by simp;omega) (cf (by simp;omega) ?_))))
   exact congrArg some (by simp [hl])
  refine cf rfl ?_
  refine bd (a:=true) ?_ rfl
  refine bd i0 ?_
  refine ct (by rw [decide_eq_true_iff];omega) ?_
  refine bd i1 ?_
  exact congrArg some (by rw [decide_eq_true_iff];omega)
 unfold tE
 refine bd hW ?_
 refine cf rfl ?_
 refine bd i0 ?_
 refine bd ((sX _ _ (by simp)).trans (congrArg some (kT _ (by omega)))) ?_
 refine bd i1 ?_
 refine bd ((sX _ _ (by simp only [List.length_append,uB,List.length_cons,List.length_nil];omega)).trans (congrArg some (kT _ (by omega)))) ?_
 refine bd ((sX _ _ (by simp only [List.length_append,uB,List.length_cons,List.length_nil];omega)).trans (congrArg some (kT _ (by omega)))) ?_
 unfold mQ
 simp only [List.append_assoc]
theorem Rem.eqv {r:RS} {l l':List UInt8} (h:Rem r l) (e:l'=l):Rem r l':=e▸h
theorem zWs (n:Int) (h0:0<=n) (h:n<256):((u8 n).toNat:Int)=n:=by
 obtain ⟨m,rfl⟩:=Int.eq_ofNat_of_zero_le h0
 rw [tJ]
 omega
theorem Rem.byte {r:RS} {rest:List UInt8} {n:Int} (h:Rem r (u8 n :: rest)) (h0:0<=n) (hn:n<256):zZ r 1=(n,r.to 1)/\Rem (r.to 1) rest:=by
 have h':Rem r ([u8 n]++rest):=h
 refine ⟨h'.uintV rfl ?_ h0 (by omega),h'.to rfl⟩
 have hb:beV [u8 n] 1=ior .u64 (tU .u64 ((0:Nat):Int) 8) (IntKind.u64.wrap (((u8 n).toNat:Nat):Int)):=rfl
 rw [hb,zG1 0 _ (by omega) (by have:=(u8 n).toNat_lt;omega)]
 have:=zWs n h0 hn
 omega
theorem zN7 (e:api_Event) (active:Int) (h:EvC e active):vN e=some true:=by
 have r0:=h.r0
 have r1:=h.r1
 have k1:=h.k1
 have k5:=h.k5
 have h2:=h.d
 have hl:=h.l
 have h0:=i8 h.f0
 have h1:=i8 h.f1
 have hd:Def (vN e) (λb=>b=true):=by
  unfold vN
  refine Def.bd (P:=λb=>b=false) (Def.of (cf (by simp;omega) (cf (by simp;omega) (cf (by simp;omega) (cf (by simp;omega) (cf (by simp [hl]) rfl))))) (by simp;omega)) (λb hb=>?_)
  subst hb
  refine Def.c (λh=>by cases h) (λ_=>?_)
  refine Def.bd (xD e.Digests (uV e) (λ_=>True) (λ_=>False) (by omega) (λi hi=>?_) ?_) (λy hy=>?_)
  ·unfold uV
   refine Def.c (λ_=>?_) (λh=>by have:=dF h;omega)
   refine Def.bd (Def.at' hi) (λd hd=>?_)
   refine Def.bd (P:=λw=>w=32) (Def.of (kQ 1) rfl) (λw hw=>?_)
   subst hw
   have:d.length<=32:=by
    have hi2:i=0∨i=1:=by omega
    rcases hi2 with rfl | rfl
    ·have:(e.Digests.getD 0 [])=d:=by simp [hd,hi]
     rw [<- this];exact h0
    ·have:(e.Digests.getD 1 [])=d:=by simp [hd,hi]
     rw [<- this];exact h1
   exact Def.c (λh=>by have:=dT h;omega) (λ_=>Def.s ⟨yB (by omega),trivial⟩)
  ·unfold uV
   exact cf (by simp) rfl
  ·cases y with
   | inl b=>exact hy.elim
   | inr u=>exact Def.s rfl
 obtain ⟨b,hb,rfl⟩:=hd
 exact hb
theorem zOh (e:api_Event) (active:Int) (h:EvC e active):nT (mQ e)=some (e,0):=by
 have hlen:=bF h.toEvGood
 have h0:=i8 h.f0
 have h1:=i8 h.f1
 have h2:=h.d
 have r0:=h.r0
 have r1:=h.r1
 have k1:=h.k1
 have k5:=h.k5
 have hD:e.Digests=[e.Digests.getD 0 [],e.Digests.getD 1 []]:=by
  have hl:=h.l
  match hx:e.Digests,hl with
  | [a,b],_=>rfl
 have henc:=zN7 e active h
 have q0:Rem ⟨mQ e,0,0⟩ (mQ e):=⟨rfl,Nat.zero_le _,rfl⟩
 have ok0:(RS.mk (mQ e) 0 0).Ok:=⟨Nat.zero_le _,by simp;omega⟩
 have w0:=wnew (mQ e) (by omega)
 have b0:(RS.mk (mQ e) 0 0).b.length<2 ^ 40:=by show (mQ e).length<_;omega
 generalize (RS.mk (mQ e) 0 0)=s0 at *
 unfold mQ at q0
 obtain ⟨e1,q1⟩:=Rem.byte q0 r0 (by omega)
 obtain ⟨e2,q2⟩:=Rem.byte q1 (by omega) (by omega)
 replace q2:Rem ((s0.to 1).to 1) ((beN ((e.Digests.getD 0 []).length:Int) 2 2++e.Digests.getD 0 [])++((beN ((e.Digests.getD 1 []).length:Int) 2 2++e.Digests.getD 1 [])++(beN (e.Data.length:Int) 2 2++e.Data))):=q2
 rw [List.append_assoc] at q2
 obtain ⟨e3,q3⟩:=Rem.blobN (m:=32) q2 (by omega) (by omega)
 rw [List.append_assoc] at q3
 obtain ⟨e4,q4⟩:=Rem.blobN (m:=32) q3 (by omega) (by omega)
 have q4':=q4.eqv (l':=beN (e.Data.length:Int) 2 2++(e.Data++[])) (by rw [List.append_nil])
 obtain ⟨e5,q5⟩:=Rem.blobN (m:=64) q4' (by omega) (by omega)
 have ok1:(s0.to 1).Ok:=⟨q1.at',by show s0.b.length<_;omega⟩
 have ok2:((s0.to 1).to 1).Ok:=⟨q2.at',by show s0.b.length<_;omega⟩
 generalize hs2:(s0.to 1).to 1=s2 at *
 generalize hs3:s2.to (2+(e.Digests.getD 0 []).length)=s3 at *
 have ok3:s3.Ok:=⟨q3.at',by rw [<- hs3,<- hs2];show s0.b.length<_;omega⟩
 generalize hs4:s3.to (2+(e.Digests.getD 1 []).length)=s4 at *
 have ok4:s4.Ok:=⟨q4.at',by rw [<- hs4,<- hs3,<- hs2];show s0.b.length<_;omega⟩
 generalize hs5:s4.to (2+e.Data.length)=s5 at *
 have ok5:s5.Ok:=⟨q5.at',by rw [<- hs5,<- hs4,<- hs3,<- hs2];show s0.b.length<_;omega⟩
 unfold nT
 refine bd w0 ?_
 refine bd (a:=(e.Register,(s0.to 1).W)) ((xJ s0 1 ok0 (by omega) (by omega)).trans (by rw [e1])) ?_
 refine bd (a:=(e.Kind,s2.W)) ((xJ (s0.to 1) 1 ok1 (by omega) (by omega)).trans (by rw [e2])) ?_
 refine bd (a:=([e.Digests.getD 0 [],e.Digests.getD 1 []],s4.W.b_,s4.W.at_,s4.W.e_)) (two (b:=(1,[e.Digests.getD 0 []],s3.W.b_,s3.W.at_,s3.W.e_)) (c:=(2,[e.Digests.getD 0 [],e.Digests.getD 1 []],s4.W.b_,s4.W.at_,s4.W.e_)) ?_ ?_ rfl) ?_
 ·unfold nB
  refine ct rfl ?_
  refine bd (a:=((32:Nat):Int)) (kQ 1) ?_
  refine bd (a:=(e.Digests.getD 0 [],s3.W)) ((u6 s2 32 ok2).trans (by rw [e3])) ?_
  exact bd (zQ (by simp)) rfl
 ·unfold nB
  refine ct rfl ?_
  refine bd (a:=((32:Nat):Int)) (kQ 1) ?_
  refine bd (a:=(e.Digests.getD 1 [],s4.W)) ((u6 s3 32 ok3).trans (by rw [e4])) ?_
  exact bd (zQ (by simp)) rfl
 refine bd (a:=(e.Data,s5.W)) ((u6 s4 64 ok4).trans (by rw [e5])) ?_
 have he:(⟨e.Register,e.Kind,[e.Digests.getD 0 [],e.Digests.getD 1 []],e.Data⟩:api_Event)=e:=by rw [<- hD]
 refine bd (a:=false) ?_ ?_
 ·refine bd (a:=(0,s5.W)) ((zAf s5 ok5).trans (by rw [q5.fin])) ?_
  refine cf rfl ?_
  refine bd (a:=true) ?_ rfl
  show vN ⟨e.Register,e.Kind,[e.Digests.getD 0 [],e.Digests.getD 1 []],e.Data⟩=_
  rw [he];exact henc
 refine cf rfl ?_
 show some ((⟨e.Register,e.Kind,[e.Digests.getD 0 [],e.Digests.getD 1 []],e.Data⟩:api_Event),(0:Int))=_
 rw [he]
end Go.Proofs.TT
namespace Go.Proofs.TT
open Go Go.Sw
set_option maxRecDepth 100000
def zC6 (a r:Int):List UInt8:=[83,87,76,49]++(u8 a :: beN r 6 6)
def nN (es:List api_Event):List UInt8:=es.flatMap λe=>beN ((mQ e).length:Int) 2 2++mQ e
def wA (l:api_Log):List UInt8:=zC6 l.Active l.Resets++nN l.Events
structure LgF (l:api_Log):Prop extends LgGood l where
 a1:1<=l.Active
 a3:l.Active<=3
 r0:0<=l.Resets
 r1:l.Resets<=1099511627776
theorem bL (a r:Int):(zC6 a r).length=11:=by simp [zC6,uB]
theorem zBm {active:Int}:∀ es:List api_Event,(∀ e∈es,EvC e active)->(nN es).length<=138*es.length
 | [],_=>by simp [nN]
 | e :: es,h=>by
  have h1:=zBm es (λx hx=>h x (List.mem_cons_of_mem _ hx))
  have h2:=bF (h e (List.mem_cons_self ..)).toEvGood
  unfold nN at h1 ⊢
  rw [List.flatMap_cons,List.length_append,List.length_append,uB,List.length_cons]
  omega
theorem zDp {es:List api_Event} {i:Nat} (h:i<es.length):nN (es.take (i+1))=nN (es.take i)++(beN ((mQ es[i]).length:Int) 2 2++mQ es[i]):=by
 unfold nN
 rw [List.take_add_one,List.flatMap_append]
 simp [h]
theorem zJ9 {es:List api_Event} {i:Nat} (h:i<es.length):nN (es.drop i)=beN ((mQ es[i]).length:Int) 2 2++(mQ es[i]++nN (es.drop (i+1))):=by
 rw [List.drop_eq_getElem_cons h]
 unfold nN
 rw [List.flatMap_cons,List.append_assoc]
theorem zMv (es:List api_Event) (i:Nat):nN es=nN (es.take i)++nN (es.drop i):=by
 unfold nN
 rw [<- List.flatMap_append,List.take_append_drop]
theorem bG (l:api_Log) (h:LgGood l):11<=(wA l).length/\(wA l).length<=5531:=by
 have h1:=zBm l.Events h.ev
 have h2:=h.n
 unfold wA
 rw [List.length_append,bL]
 omega
theorem zKn (a r:Int) (h1:1<=a) (h3:a<=3) (h0:0<=r) (hr:r<=1099511627776):nK a r=some (zC6 a r):=by
 unfold nK
 refine bd (a:=false) (cf (by simp;omega) (cf (by simp;omega) (cf (by simp;omega) (congrArg some (by simp;omega))))) ?_
 refine cf rfl ?_
 refine bd (zQ (by simp)) ?_
 refine bd (uG _ 6 r (by omega) (by omega) (by simp)) ?_
 unfold wC zC6
 rw [List.append_assoc]
 rfl
theorem zH5 (a r:Int) (h1:1<=a) (h3:a<=3) (h0:0<=r) (hr:r<=1099511627776):∃ b,rA a r=some b/\b.length=11:=by
 refine ⟨wC (wC [83,87,76,49] 1 a) 6 r,?_,by rw [zS,zS];rfl⟩
 unfold rA
 refine bd (a:=false) (cf (by simp;omega) (cf (by simp;omega) (cf (by simp;omega) (congrArg some (by simp;omega))))) ?_
 refine cf rfl ?_
 refine bd (sG _ 1 a (by omega) (by omega) (by simp)) ?_
 exact bd (sG _ 6 r (by omega) (by omega) (by rw [zS];simp)) rfl
theorem zDo (l:api_Log) (h:LgF l):uW l=some (wA l,0):=by
 have hn:=h.n
 have hlen:=bG l h.toLgGood
 have hd:Def (uW l) (λr=>r=(wA l,0)):=by
  unfold uW
  refine Def.bd (P:=λb=>b=zC6 l.Active l.Resets) (Def.of (zKn _ _ h.a1 h.a3 h.r0 h.r1) rfl) (λb hb=>?_)
  subst hb
  refine Def.c (λh=>by rw [bL] at h;cases h) (λ_=>?_)
  refine Def.bd (xD l.Events (rH l) (λ_=>True) (λ_=>False) (by omega) (λi hi=>?_) ?_) (λy hy=>?_)
  ·unfold rH
   refine Def.c (λ_=>?_) (λh=>by have:=dF h;omega)
   refine Def.bd (Def.at' hi) (λe he=>?_)
   refine Def.bd (zMx e _) (λr hr=>?_)
   have:r=0:=hr.2 (by rw [he];exact h.ev _ (List.getElem_mem hi))
   subst this
   exact Def.c (λh=>by cases h) (λ_=>Def.s ⟨yB (by omega),trivial⟩)
  ·unfold rH
   exact cf (by simp) rfl
  ·cases y with
   | inl b=>exact hy.elim
   | inr u=>
    refine Def.c (λh=>by have:=dT h;omega) (λ_=>?_)
    refine Def.bd (P:=λb=>b=wA l) (Def.of (zK l.Events.length (λi=>(zC6 l.Active l.Resets++nN (l.Events.take i),(i:Int))) (by simp [nN]) (λi hi=>?_) ?_ (yT (by omega))) rfl) (λb hb=>?_)
    ·have hE:=h.ev _ (List.getElem_mem hi)
     have hel:=bF hE.toEvGood
     have hfl:=zBm (l.Events.take i) (λe he=>h.ev e (List.mem_of_mem_take he))
     rw [List.length_take] at hfl
     unfold nD
     refine ct (dlt hi) ?_
     refine bd (xS hi) ?_
     refine bd (zFs _ _ hE) ?_
     refine bd ((sX _ _ (by rw [List.length_append,bL];omega)).trans (congrArg some (kT _ (by omega)))) ?_
     rw [yB (by omega),zDp hi,List.append_assoc]
    ·unfold nD
     refine cf (dge (Nat.le_refl _)) ?_
     rw [List.take_length]
     rfl
    ·subst hb
     exact Def.c (λh=>by have:=dT h;omega) (λ_=>Def.s rfl)
 obtain ⟨r,hr,rfl⟩:=hd
 exact hr
def atE (l:api_Log) (i:Nat):Nat:=11+(nN (l.Events.take i)).length
theorem zKb (l:api_Log) (h:LgF l):tS (wA l)=some (l,0):=by
 have hn:=h.n
 have hlen:=bG l h.toLgGood
 obtain ⟨hb,hh1,hh2⟩:=zH5 l.Active l.Resets h.a1 h.a3 h.r0 h.r1
 have a1:=h.a1
 have a3:=h.a3
 have r0:=h.r0
 have r1:=h.r1
 have S:∀ i,Rem ⟨wA l,atE l i,0⟩ (nN (l.Events.drop i)):=by
  intro i
  have e:wA l=(zC6 l.Active l.Resets++nN (l.Events.take i))++nN (l.Events.drop i):=by
   unfold wA
   rw [List.append_assoc,<- zMv]
  have hl:(zC6 l.Active l.Resets++nN (l.Events.take i)).length=atE l i:=by rw [List.length_append,bL];rfl
  refine ⟨rfl,?_,?_⟩
  ·show atE l i<=(wA l).length
   rw [e,List.length_append,hl];omega
  ·show (wA l).drop (atE l i)=_
   rw [e,<- hl,List.drop_left]
 have ok:∀ i,(RS.mk (wA l) (atE l i) 0).Ok:=λi=>⟨(S i).at',by show (wA l).length<_;omega⟩
 have q0:Rem ⟨wA l,0,0⟩ ([83,87,76,49]++(u8 l.Active :: (beN l.Resets 6 6++nN l.Events))):=⟨rfl,Nat.zero_le _,by show (wA l).drop 0=_;unfold wA zC6;simp⟩
 have e1:=Rem.raw (n:=4) q0 rfl
 have q1:=Rem.to (n:=4) q0 rfl
 obtain ⟨e2,q2⟩:=Rem.byte q1 (by omega) (by omega)
 obtain ⟨e3,q3⟩:=Rem.uintI q2 (by omega) r0 (by omega) (by omega)
 have ok0:(RS.mk (wA l) 0 0).Ok:=⟨Nat.zero_le _,by show (wA l).length<_;omega⟩
 have ok1:((RS.mk (wA l) 0 0).to 4).Ok:=⟨q1.at',by show (wA l).length<_;omega⟩
 have ok2:(((RS.mk (wA l) 0 0).to 4).to 1).Ok:=⟨q2.at',by show (wA l).length<_;omega⟩
 have e4:((((RS.mk (wA l) 0 0).to 4).to 1).to 6)=⟨wA l,atE l 0,0⟩:=by
  show (⟨wA l,0+4+1+6,0⟩:RS)=_
  unfold atE
  simp [nN]
 rw [e4] at e3
 unfold tS
 refine cf (by simp;omega) ?_
 refine bd (a:=(l,(atE l l.Events.length:Int),0)) ?_ (cf rfl rfl)
 unfold oO
 refine bd (a:=(l,(atE l l.Events.length:Int),0)) ?_ rfl
 refine bd (wnew _ (by omega)) ?_
 refine bd (a:=([83,87,76,49],((RS.mk (wA l) 0 0).to 4).W)) ((hC _ 4 ok0).trans (by rw [e1])) ?_
 refine cf rfl ?_
 refine bd (a:=(l.Active,(((RS.mk (wA l) 0 0).to 4).to 1).W)) ((xJ _ 1 ok1 (by omega) (by omega)).trans (by rw [e2])) ?_
 refine bd (a:=(l.Resets,(RS.mk (wA l) (atE l 0) 0).W)) ((xJ _ 6 ok2 (by omega) (by omega)).trans (by rw [e3])) ?_
 refine bd (a:=(false,wA l,(atE l 0:Int),0)) ?_ ?_
 ·refine bd (a:=(0,(RS.mk (wA l) (atE l 0) 0).W)) rfl ?_
  refine cf rfl ?_
  refine bd hh1 ?_
  rw [hh2]
  rfl
 refine cf rfl ?_
 refine bd (a:=((atE l l.Events.length:Int),0,l.Events)) ?_ rfl
 refine zK l.Events.length (λi=>((atE l i:Int),l.Events.take i,wA l,(atE l i:Int),0)) ?_ (λi hi=>?_) ?_ (yT (by omega))
 ·simp [atE,nN]
 ·have hE:=h.ev _ (List.getElem_mem hi)
  have hel:=bF hE.toEvGood
  have hS:=S i
  rw [zJ9 hi] at hS
  have hleft:=hS.left
  rw [List.length_append,uB] at hleft
  obtain ⟨f1,f2⟩:=Rem.blobN (m:=65535) hS (by omega) (by omega)
  have f3:(RS.mk (wA l) (atE l i) 0).to (2+(mQ l.Events[i]).length)=⟨wA l,atE l (i+1),0⟩:=by
   show (⟨wA l,atE l i+(2+(mQ l.Events[i]).length),0⟩:RS)=_
   unfold atE
   rw [zDp hi,List.length_append,List.length_append,uB,Nat.add_assoc]
  rw [f3] at f1
  have lf:∀ k,IntKind.i64.wrap (((wA l).length:Int) - (atE l k:Int))=((RS.mk (wA l) (atE l k) 0).left:Int):=λk=>zFa _ (ok k)
  have hck:=zMf hE
  obtain ⟨c,hc1,rfl⟩:=hck
  unfold sC
  refine bd (a:=(((RS.mk (wA l) (atE l i) 0).left:Int),(RS.mk (wA l) (atE l i) 0).W)) (congrArg some (by rw [<- lf i];rfl)) ?_
  refine ct (by simp;omega) ?_
  refine bd (a:=(mQ l.Events[i],(RS.mk (wA l) (atE l (i+1)) 0).W)) ((u6 _ 65535 (ok i)).trans (by rw [f1])) ?_
  refine bd (zOh _ _ hE) ?_
  refine cf (by simp;omega) ?_
  refine bd (a:=(0,(RS.mk (wA l) (atE l (i+1)) 0).W)) rfl ?_
  refine cf rfl ?_
  refine bd (a:=false) (cf rfl (bd hc1 rfl)) ?_
  refine cf rfl ?_
  refine bd (zQ (by simp;omega)) ?_
  refine bd (a:=(((RS.mk (wA l) (atE l (i+1)) 0).left:Int),(RS.mk (wA l) (atE l (i+1)) 0).W)) (congrArg some (by rw [<- lf (i+1)];rfl)) ?_
  have hat:IntKind.i64.wrap (((wA l).length:Int) - ((RS.mk (wA l) (atE l (i+1)) 0).left:Int))=(atE l (i+1):Int):=by
   have:=(ok (i+1)).1
   simp only [RS.left] at *
   rw [zT (by omega) (by omega)]
   omega
  have ht:l.Events.take (i+1)=l.Events.take i++[l.Events[i]]:=by rw [List.take_add_one];simp [hi]
  rw [ht]
  show some (Sum.inl (IntKind.i64.wrap (((wA l).length:Int) - ((RS.mk (wA l) (atE l (i+1)) 0).left:Int)),_))=_
  rw [hat]
  rfl
 ·have hS:=S l.Events.length
  rw [List.drop_length] at hS
  have hleft:=hS.left
  unfold sC
  refine bd (a:=(((RS.mk (wA l) (atE l l.Events.length) 0).left:Int),(RS.mk (wA l) (atE l l.Events.length) 0).W)) (congrArg some (by rw [<- zFa _ (ok l.Events.length)];rfl)) ?_
  refine cf (by rw [hleft];rfl) ?_
  rw [List.take_length]
end Go.Proofs.TT
namespace Go.Proofs.TT
open Go Go.Sw
set_option maxRecDepth 100000
theorem zU5:u7 1=some ⟨[bnk 20,[]],0⟩:=by decide +kernel
theorem zUn:u7 2=some ⟨[[],bnk 32],0⟩:=by decide +kernel
theorem zTc:u7 3=some ⟨[bnk 20,bnk 32],0⟩:=by decide +kernel
theorem zOf (active:Int) (h1:1<=active) (h3:active<=3):u7 active=some (zKh active):=by
 rcases zM5 h1 h3 with rfl | rfl | rfl
 ·exact zU5
 ·exact zUn
 ·exact zTc
def sb (c0 c1:Bool):Int:=(if c0 then 1 else 0)+(if c1 then 2 else 0)
theorem ract (b0 b1:List (List UInt8)) (u:Int) (c0 c1:Bool) (h0:((b0.length:Int)==16)=c0) (h1:((b1.length:Int)==16)=c1):sD ⟨[b0,b1],u⟩=some (sb c0 c1):=by
 unfold sD
 refine bd (a:=sb c0 c1) ?_ rfl
 refine zK (x:=((0:Int),(0:Int))) 2 (λi=>match i with | 0=>((0:Int),(0:Int)) | 1=>(sb c0 false,1) | _=>(sb c0 c1,2)) rfl (λi hi=>?_) ?_ (yT (by omega))
 ·have:i=0∨i=1:=by omega
  rcases this with rfl | rfl
  ·show wO _ (0,0)=some (.inl (sb c0 false,1))
   unfold wO
   refine ct rfl ?_
   refine bd (a:=sb c0 false) (bd (a:=c0) (ct rfl (bd (a:=b0) rfl (by rw [h0]))) ?_) rfl
   cases c0<;>rfl
  ·show wO _ (sb c0 false,1)=some (.inl (sb c0 c1,2))
   unfold wO
   refine ct rfl ?_
   refine bd (a:=sb c0 c1) (bd (a:=c1) (ct rfl (bd (a:=b1) rfl (by rw [h1]))) ?_) rfl
   cases c0<;>cases c1<;>rfl
 ·rfl
theorem zPj (b0 b1:List (List UInt8)) (u:Int) (c0 c1:Bool) (h0:((b0.length:Int)==16)=c0) (h1:((b1.length:Int)==16)=c1):wW ⟨[b0,b1],u⟩ 0=some c0/\wW ⟨[b0,b1],u⟩ 1=some c1:=by
 have h:=ract b0 b1 u c0 c1 h0 h1
 unfold wW
 constructor
 ·refine bd h ?_
  cases c0<;>cases c1<;>rfl
 ·refine bd h ?_
  cases c0<;>cases c1<;>rfl
theorem zNk (r:api_Registers) (b0 b1:List (List UInt8)) (hb:r.Banks=[b0,b1]) (l0:b0.length<=16) (l1:b1.length<=16) (h0:∀ x∈b0,x.length<=32) (h1:∀ x∈b1,x.length<=32):pJ r=some (b0,b1,r.Updates):=by
 unfold pJ
 rw [hb]
 refine ct rfl ?_
 refine bd (a:=b0) rfl ?_
 refine bd (a:=b0) ?_ ?_
 ·refine zK b0.length (λi=>(b0.take i,(i:Int))) (by simp) (λi hi=>?_) ?_ (yT (by omega))
  ·unfold pE
   refine ct (dlt hi) ?_
   refine bd (xS hi) ?_
   refine bd (zQ (by have:=h0 _ (List.getElem_mem hi);simp;omega)) ?_
   refine bd (zQ (by simp;omega)) ?_
   rw [yB (show i<2 ^ 40 by omega),List.take_add_one]
   simp [hi]
  ·unfold pE
   refine cf (dge (Nat.le_refl _)) ?_
   simp
 refine ct rfl ?_
 refine bd (a:=b1) rfl ?_
 refine bd (a:=(b1,b0)) ?_ ?_
 ·refine zK b1.length (λi=>(b1.take i,(i:Int),b0)) (by simp) (λi hi=>?_) ?_ (yT (by omega))
  ·unfold rZ
   refine ct (dlt hi) ?_
   refine bd (xS hi) ?_
   refine bd (zQ (by have:=h1 _ (List.getElem_mem hi);simp;omega)) ?_
   refine bd (zQ (by simp;omega)) ?_
   rw [yB (show i<2 ^ 40 by omega),List.take_add_one]
   simp [hi]
  ·unfold rZ
   refine cf (dge (Nat.le_refl _)) ?_
   simp
 exact cf rfl rfl
end Go.Proofs.TT
namespace Go.Proofs.TT
open Go Go.Sw
set_option maxRecDepth 100000
theorem zGy (b:List UInt8) (hb:b.length<2 ^ 40):yV ((0:Nat):Int) b=some (o9 b):=zF9 b hb
theorem zGw (b:List UInt8) (hb:b.length<2 ^ 40):yV ((1:Nat):Int) b=some (sha b):=zE4 b hb
theorem zNf (alg:Int) (z:List UInt8) (ha:alg=0∨alg=1) (hz:z.length<2 ^ 40):Def (yV alg z) (λs=>s.length<=32):=by
 rcases ha with rfl | rfl
 ·exact (zJ4 z hz).mono λ_ h=>by omega
 ·exact Def.of (zE4 z hz) (by rw [sF];omega)
theorem zF2 (r:api_Registers) (active:Int) (e:api_Event) (hr:BkOk active r) (he:EvGood e active) (hk:e.Kind≠5):Def (sH r 0 e.Register e.Digests) (λx=>x=(ext active e r,0)):=by
 obtain ⟨⟨b0,b1,hb,l0,l1,m0,m1⟩⟩:=hr
 obtain ⟨r0,r1,_,dl,f0,f1⟩:=he
 obtain ⟨bs,u⟩:=r
 simp only at hb
 subst hb
 have l0':b0.length<=16:=by rw [l0];split<;>omega
 have l1':b1.length<=16:=by rw [l1];split<;>omega
 unfold Fit at f0 f1
 have f0':((e.Digests.getD 0 []).length:Int)<=32:=by rw [f0];split<;>decide
 have f1':((e.Digests.getD 1 []).length:Int)<=32:=by rw [f1];split<;>decide
 have g0:∀ d∈e.Digests,d.length<=32:=by
  intro d hd
  obtain ⟨i,hi,rfl⟩:=List.mem_iff_getElem.mp hd
  have hi2:i=0∨i=1:=by omega
  rcases hi2 with rfl | rfl
  ·have:(e.Digests.getD 0 [])=e.Digests[0]:=by simp [hi]
   rw [<- this]
   omega
  ·have:(e.Digests.getD 1 [])=e.Digests[1]:=by simp [hi]
   rw [<- this]
   omega
 have i0:idx e.Digests 0=some (e.Digests.getD 0 []):=zAr (i:=0) (by omega)
 have i1:idx e.Digests 1=some (e.Digests.getD 1 []):=zAr (i:=1) (by omega)
 obtain ⟨a0,a1⟩:=zPj b0 b1 u (yD active 0) (yD active 1) (by rw [l0];cases yD active 0<;>rfl) (by rw [l1];cases yD active 1<;>rfl)
 unfold sH
 refine Def.bd (P:=λb=>b=false) ?_ (λb hb=>?_)
 ·refine Def.c (λh=>by cases h) (λ_=>Def.c (λh=>by cases h) (λ_=>?_))
  refine Def.bd (P:=λb=>b=true) ?_ (λb hb=>?_)
  ·unfold o6
   refine Def.bd (P:=λb=>b=true) ?_ (λb hb=>Def.s hb)
   refine Def.c (λ_=>Def.s ?_) (λh=>?_)
   ·rw [decide_eq_true_iff];omega
   ·have:=dF h;omega
  subst hb
  refine Def.c (λh=>by cases h) (λ_=>Def.s ?_)
  simp;omega
 subst hb
 refine Def.c (λh=>by cases h) (λ_=>?_)
 refine Def.bd (P:=λn=>n=0) ?_ (λn hn=>?_)
 ·unfold o8
  refine Def.bd (P:=λb=>b=false) (Def.s rfl) (λb hb=>?_)
  subst hb
  refine Def.c (λh=>by cases h) (λ_=>?_)
  have e14:(e.Register==14)=false:=by simp;omega
  have e15:(e.Register==15)=false:=by simp;omega
  rw [e14,e15]
  exact Def.s rfl
 subst hn
 refine Def.c (λh=>by cases h) (λ_=>?_)
 refine Def.bd (P:=λr=>r=.inr ()) ?_ (λr hr=>?_)
 ·refine Def.loop (λs=>s=0∨s=1∨s=2) (λs=>2 - s.toNat) (λs hs=>?_) (.inl rfl) (by simp)
  unfold nG
  refine Def.c (λh=>?_) (λh=>Def.s rfl)
  rcases hs with rfl | rfl | rfl
  ·refine Def.bd (P:=λd=>d=e.Digests.getD 0 []) (Def.of i0 rfl) (λd hd=>?_)
   refine Def.bd (P:=λb=>b=false) ?_ (λb hb=>?_)
   ·refine Def.bd (P:=λb=>b=yD active 0) (Def.of a0 rfl) (λb hb=>?_)
    subst hb
    refine Def.c (λh=>Def.s ?_) (λ_=>Def.s rfl)
    have hh:yD active 0=false:=by simpa using h
    rw [if_neg (by show ¬ (e.Kind≠5/\yD active 0=true);rw [hh];simp)] at f0
    rw [decide_eq_false_iff_not,hd];omega
   subst hb
   exact Def.s ⟨.inr (.inl rfl),by decide⟩
  ·refine Def.bd (P:=λd=>d=e.Digests.getD 1 []) (Def.of i1 rfl) (λd hd=>?_)
   refine Def.bd (P:=λb=>b=false) ?_ (λb hb=>?_)
   ·refine Def.bd (P:=λb=>b=yD active 1) (Def.of a1 rfl) (λb hb=>?_)
    subst hb
    refine Def.c (λh=>Def.s ?_) (λ_=>Def.s rfl)
    have hh:yD active 1=false:=by simpa using h
    rw [if_neg (by show ¬ (e.Kind≠5/\yD active 1=true);rw [hh];simp)] at f1
    rw [decide_eq_false_iff_not,hd];omega
   subst hb
   exact Def.s ⟨.inr (.inr rfl),by decide⟩
  ·have:=dT h;omega
 subst hr
 refine Def.bd (P:=λr=>r=.inr ()) ?_ (λr hr=>?_)
 ·refine Def.loop (λs=>s=0∨s=1∨s=2) (λs=>2 - s.toNat) (λs hs=>?_) (.inl rfl) (by simp)
  unfold nJ
  refine Def.c (λh=>?_) (λh=>Def.s rfl)
  rcases hs with rfl | rfl | rfl
  ·refine Def.bd (P:=λd=>d=e.Digests.getD 0 []) (Def.of i0 rfl) (λd hd=>?_)
   refine Def.bd (P:=λb=>b=false) ?_ (λb hb=>?_)
   ·refine Def.bd (P:=λb=>b=yD active 0) (Def.of a0 rfl) (λb hb=>?_)
    subst hb
    refine Def.c (λh=>?_) (λ_=>Def.s rfl)
    refine Def.bd (P:=λd=>d=siz 0) (Def.of (kQ 0) rfl) (λz hz=>Def.s ?_)
    rw [if_pos ⟨hk,h⟩] at f0
    rw [hd,hz];simp;exact f0
   subst hb
   exact Def.s ⟨.inr (.inl rfl),by decide⟩
  ·refine Def.bd (P:=λd=>d=e.Digests.getD 1 []) (Def.of i1 rfl) (λd hd=>?_)
   refine Def.bd (P:=λb=>b=false) ?_ (λb hb=>?_)
   ·refine Def.bd (P:=λb=>b=yD active 1) (Def.of a1 rfl) (λb hb=>?_)
    subst hb
    refine Def.c (λh=>?_) (λ_=>Def.s rfl)
    refine Def.bd (P:=λd=>d=siz 1) (Def.of (kQ 1) rfl) (λz hz=>Def.s ?_)
    rw [if_pos ⟨hk,h⟩] at f1
    rw [hd,hz];simp;exact f1
   subst hb
   exact Def.s ⟨.inr (.inr rfl),by decide⟩
  ·have:=dT h;omega
 subst hr
 refine Def.bd (P:=λx=>x=(b0,b1,u)) (Def.of (zNk _ b0 b1 rfl l0' l1' m0 m1) rfl) (λx hx=>?_)
 subst hx
 obtain ⟨rn,hrn⟩:=Int.eq_ofNat_of_zero_le r0
 have one:∀ (a:Nat) (bk:List (List UInt8)) (f:List UInt8->List UInt8) (hbk:idx [b0,b1] (a:Int)=some bk) (h2:a<2) (h16:bk.length=16) (mm:∀ x∈bk,x.length<=32) (hf:∀ z,z.length<2 ^ 40->yV (a:Int) z=some (f z)),
   Def ((idx [b0,b1] (a:Int)).bind λv=>(idx v e.Register).bind λw=>(zX 1 [] w).bind λw'=>(idx e.Digests (a:Int)).bind λd=>(zX 1 w' d).bind λz=>(yV (a:Int) z).bind λs=>(ixN bk.length e.Register).bind λj=>(tA bk j s).bind λl=>some l)
    (λb=>b=upR true bk e.Register (λx=>f (x++e.Digests.getD a []))):=by
  intro a bk f hbk h2 h16 mm hf
  rw [hrn]
  refine Def.bd (P:=λv=>v=bk) (Def.of hbk rfl) (λv hv=>?_)
  subst hv
  have:=zA1 mm rn
  refine Def.bd (P:=λx=>x=v.getD rn []) (Def.of (zAr (by omega)) rfl) (λx hx=>?_)
  subst hx
  refine Def.bd (Def.app (by simp only [List.length_nil];omega)) (λy hy=>?_)
  rw [List.nil_append] at hy
  subst hy
  have:=zA1 g0 a
  refine Def.bd (P:=λd=>d=e.Digests.getD a []) (Def.of (zAr (by omega)) rfl) (λd hd=>?_)
  subst hd
  refine Def.bd (Def.app (by omega)) (λz hz=>?_)
  have hzl:z.length<2 ^ 40:=by rw [hz,List.length_append];omega
  refine Def.bd (P:=λs=>s=f z) (Def.of (hf z hzl) rfl) (λs hs=>?_)
  refine Def.bd (Def.ixN (by omega) (by omega)) (λj hj=>?_)
  refine Def.bd (Def.upd hj.2) (λq hq=>Def.s ?_)
  rw [hq,hj.1,hs,hz]
  rfl
 refine Def.bd (P:=λb=>b=upR (yD active 0) b0 e.Register (λx=>o9 (x++e.Digests.getD 0 []))) ?_ (λc0 hc0=>?_)
 ·refine Def.bd (P:=λb=>b=yD active 0) (Def.of a0 rfl) (λb hb=>?_)
  subst hb
  refine Def.c (λh=>?_) (λh=>Def.s (by rw [h];rfl))
  rw [if_pos h] at l0
  rw [h]
  exact one 0 b0 o9 rfl (by omega) l0 m0 zGy
 refine Def.bd (P:=λb=>b=upR (yD active 1) b1 e.Register (λx=>sha (x++e.Digests.getD 1 []))) ?_ (λc1 hc1=>?_)
 ·refine Def.bd (P:=λb=>b=yD active 1) (Def.of a1 rfl) (λb hb=>?_)
  subst hb
  refine Def.c (λh=>?_) (λh=>Def.s (by rw [h];rfl))
  rw [if_pos h] at l1
  rw [h]
  exact one 1 b1 sha rfl (by omega) l1 m1 zGw
 exact Def.s (by rw [hc0,hc1];rfl)
theorem zFc (l:api_Log) (h:LgGood l) (h1:1<=l.Active) (h3:l.Active<=3):Def (tX l) (λr=>r=(rpl l.Active l.Events,0)):=by
 have hn:=h.n
 unfold tX
 refine Def.bd (P:=λb=>b=false) ?_ (λb hb=>?_)
 ·refine Def.c (λh=>by have:=dT h;omega) (λ_=>Def.s ?_)
  rw [decide_eq_false_iff_not];omega
 subst hb
 refine Def.c (λh=>by cases h) (λ_=>?_)
 refine Def.bd (P:=λr=>r=zKh l.Active) (Def.of (zOf _ h1 h3) rfl) (λrg hrg=>?_)
 subst hrg
 refine Def.bd (P:=λr=>match r with | .inl _=>False | .inr z=>(⟨z.1,z.2⟩:api_Registers)=rpl l.Active l.Events) ?_ (λr hr=>?_)
 ·refine Def.loop (λs=>∃ a:Nat,s.1=(a:Int)/\a<=l.Events.length/\(⟨s.2.1,s.2.2⟩:api_Registers)=rpl l.Active (l.Events.take a)) (λs=>l.Events.length - s.1.toNat) (λs hs=>?_) ⟨0,rfl,by omega,rfl⟩ (by simp;omega)
  obtain ⟨a',bs,up⟩:=s
  obtain ⟨a,k1,k2,k3⟩:=hs
  simp only at k1 k3
  subst k1
  unfold nF
  refine Def.c (λhlt=>?_) (λhge=>Def.s ?_)
  ·have ha2:a<l.Events.length:=by have:=dT hlt;omega
   have hE:=h.ev _ (List.getElem_mem ha2)
   refine Def.bd (Def.at' ha2) (λe he=>?_)
   subst he
   refine Def.bd (P:=λr=>r=0) ?_ (λc hc=>?_)
   ·exact zMf hE
   subst hc
   refine Def.bd (P:=λz=>z.1=0/\(⟨z.2.1,z.2.2⟩:api_Registers)=rpl l.Active (l.Events.take (a+1))) ?_ (λz hz=>?_)
   ·rw [zGa _ ha2]
    refine Def.bd (P:=λb=>b=(l.Events[a].Kind != 5)) (Def.c (λ_=>Def.s rfl) (λh=>by cases h)) (λb hb=>?_)
    subst hb
    refine Def.c (λhk=>?_) (λhk=>Def.s ⟨rfl,by rw [if_pos (by simpa using hk)];exact k3⟩)
    have hk':l.Events[a].Kind≠5:=by simpa using hk
    rw [if_neg hk',k3]
    exact Def.bd (zF2 _ l.Active _ (zE1 _ _ h1 h3) hE.toEvGood hk') (λx hx=>Def.s (by subst hx;exact ⟨rfl,rfl⟩))
   obtain ⟨er,bs',up'⟩:=z
   obtain ⟨z1,z2⟩:=hz
   simp only at z1 z2
   subst z1
   refine Def.c (λh=>by cases h) (λ_=>Def.s ?_)
   rw [yB (by omega)]
   exact ⟨⟨a+1,rfl,by omega,z2⟩,by simp only [Int.toNat_natCast];omega⟩
  ·have:=dF hge
   rw [List.take_of_length_le (by omega)] at k3
   exact k3
 cases r with
 | inl v=>exact hr.elim
 | inr z=>exact Def.s (by rw [<- hr])
end Go.Proofs.TT
namespace Go.Proofs.TT
open Go Go.Sw
set_option maxRecDepth 100000
theorem zUv:xA 1=some ⟨4095,0⟩:=by decide +kernel
theorem zT5:xA 2=some ⟨0,4095⟩:=by decide +kernel
theorem zUh:xA 3=some ⟨4095,4095⟩:=by decide +kernel
theorem zNl (active:Int) (h1:1<=active) (h3:active<=3):xA active=some ⟨xB active 0,xB active 1⟩:=by
 rcases zM5 h1 h3 with rfl | rfl | rfl
 ·exact zUv
 ·exact zT5
 ·exact zUh
theorem zM7 (r:api_Registers) (a:Int) (v:Int) (bk:List (List UInt8)) (hi:idx r.Banks a=some bk) (hz:v=0∨bk.length=16) (hb:∀ x∈bk,x.length<=32) (all:List UInt8) (hl:all.length<=512) :
  zE (sR r a v) FU (all,0)=some (all++oZ v bk 16):=by
 refine zK 16 (λi=>(all++oZ v bk i,(i:Int))) (by simp [oZ]) (λi hi16=>?_) rfl (yT (by decide))
 unfold sR
 refine ct (by simp;omega) ?_
 refine bd (zF7 hi16 hz hb hl hi) ?_
 rw [yB (by omega)]
theorem zE6 (r:api_Registers) (active:Int) (hr:BkOk active r):sK r ⟨xB active 0,xB active 1⟩=some (dgs active r,0):=by
 obtain ⟨⟨b0,b1,hb,l0,l1,m0,m1⟩⟩:=hr
 obtain ⟨bs,u⟩:=r
 simp only at hb
 subst hb
 have s0:=kN active 0
 have s1:=kN active 1
 have z0:xB active 0=0∨b0.length=16:=by unfold xB;split at l0<;>simp_all
 have z1:xB active 1=0∨b1.length=16:=by unfold xB;split at l1<;>simp_all
 obtain ⟨a0,a1⟩:=zPj b0 b1 u (yD active 0) (yD active 1) (by rw [l0];cases yD active 0<;>rfl) (by rw [l1];cases yD active 1<;>rfl)
 have n0:=zEn (active:=active) (a:=0) rfl
 have n1:=zEn (active:=active) (a:=1) rfl
 have hd:dgs active ⟨[b0,b1],u⟩=hs 5 [wC (wC [] 2 (xB active 0)) 2 (xB active 1),oZ (xB active 0) b0 16++oZ (xB active 1) b1 16]:=rfl
 rw [hd]
 generalize xB active 0=x0 at s0 z0 n0
 generalize xB active 1=x1 at s1 z1 n1
 have e0:=kV m0 x0 16
 have e1:=kV m1 x1 16
 have d0:=zM7 ⟨[b0,b1],u⟩ 0 x0 b0 rfl z0 m0 [] (by simp)
 have d1:=zM7 ⟨[b0,b1],u⟩ 1 x1 b1 rfl z1 m1 (oZ x0 b0 16) (by omega)
 rw [List.nil_append] at d0
 generalize oZ x0 b0 16=t0 at *
 generalize oZ x1 b1 16=t1 at *
 have rng:∀ x:Int,0<=x/\x<=65535->(bif decide (x<0) then some true else some (decide (65535<x)):Option Bool)=some false:=by
  intro x hx
  refine cf (by simp;omega) ?_
  rw [show decide (65535<x)=false by simp;omega]
 have act:∀ (x:Int) (o:Option Bool) (b:Bool),o=some b->(x != 0&&!b)=false->(bif x != 0 then (o.bind λb=>some (!b)) else some false:Option Bool)=some false:=by
  intro x o b ho hn
  subst ho
  cases h:x != 0
  ·rfl
  ·rw [h] at hn
   exact congrArg some hn
 unfold sK
 refine bd (a:=.inr (wC (wC [] 2 x0) 2 x1)) (two (b:=(wC [] 2 x0,1)) (c:=(wC (wC [] 2 x0) 2 x1,2)) ?_ ?_ rfl) ?_
 ·unfold sT
  refine ct rfl ?_
  refine bd (a:=x0) rfl ?_
  refine bd (a:=false) (rng x0 s0) ?_
  refine cf rfl ?_
  exact bd (sG [] 2 x0 (by omega) (by omega) (by simp)) rfl
 ·unfold sT
  refine ct rfl ?_
  refine bd (a:=x1) rfl ?_
  refine bd (a:=false) (rng x1 s1) ?_
  refine cf rfl ?_
  exact bd (sG _ 2 x1 (by omega) (by omega) (by rw [zS];simp)) rfl
 refine bd (a:=.inr (t0++t1)) (two (b:=(t0,1)) (c:=(t0++t1,2)) ?_ ?_ rfl) ?_
 ·unfold sS
  refine ct rfl ?_
  refine bd (a:=x0) rfl ?_
  refine bd (a:=false) (act x0 _ _ a0 n0) ?_
  refine cf rfl ?_
  exact bd d0 rfl
 ·unfold sS
  refine ct rfl ?_
  refine bd (a:=x1) rfl ?_
  refine bd (a:=false) (act x1 _ _ a1 n1) ?_
  refine cf rfl ?_
  exact bd d1 rfl
 exact bd (mA _ _ (by rw [zJy,zS,zS,List.length_append];simp only [List.length_nil];omega)) rfl
theorem zEj (l:api_Log) (h:LgGood l) (h1:1<=l.Active) (h3:l.Active<=3):sZ l ⟨xB l.Active 0,xB l.Active 1⟩=some (dgs l.Active (rpl l.Active l.Events),0):=by
 obtain ⟨r,hr,rfl⟩:=zFc l h h1 h3
 unfold sZ
 refine bd hr ?_
 refine cf rfl ?_
 exact bd (zE6 _ l.Active (zE1 _ _ h1 h3)) rfl
end Go.Proofs.TT
namespace Go.Proofs.TT
open Go Go.Sw
set_option maxRecDepth 100000
theorem zIx {e:api_Event} {active:Int} {b:List UInt8} (h:e.Digests=dgE active (e.Kind != 5) b):Fit e active 0/\Fit e active 1:=by
 unfold Fit
 rw [h]
 unfold dgE
 constructor
 ·show (((if ((e.Kind != 5)&&yD active 0)=true then o9 b else []):List UInt8).length:Int)=if e.Kind≠5/\yD active 0=true then siz 0 else 0
  by_cases hk:e.Kind=5
  ·rw [if_neg (by simp [hk]),if_neg (λh=>h.1 hk)];rfl
  ·cases hb:yD active 0
   ·rw [if_neg (by simp),if_neg (λh=>by cases h.2)];rfl
   ·rw [if_pos (by simp [hk]),if_pos ⟨hk,rfl⟩,zCg];rfl
 ·show (((if ((e.Kind != 5)&&yD active 1)=true then sha b else []):List UInt8).length:Int)=if e.Kind≠5/\yD active 1=true then siz 1 else 0
  by_cases hk:e.Kind=5
  ·rw [if_neg (by simp [hk]),if_neg (λh=>h.1 hk)];rfl
  ·cases hb:yD active 1
   ·rw [if_neg (by simp),if_neg (λh=>by cases h.2)];rfl
   ·rw [if_pos (by simp [hk]),if_pos ⟨hk,rfl⟩,sF];rfl
theorem zL5 {reg kind active:Int} {data:List UInt8} (h1:1<=active) (h3:active<=3) (r0:0<=reg) (r1:reg<=11) (k1:1<=kind) (k5:kind<=5) (hd:data.length<=64):EvC (mkE reg kind active data) active:=by
 obtain ⟨f0,f1⟩:=zIx (e:=mkE reg kind active data) (active:=active) (b:=data) rfl
 exact ⟨⟨r0,r1,hd,rfl,f0,f1⟩,h1,h3,k1,k5⟩
theorem zP8 (r:Int) (h1:1<=r) (h4:r<=4):0<=rgR r/\rgR r<=11:=by
 unfold rgR
 split
 ·omega
 split
 ·omega
 split
 ·omega
 split<;>omega
theorem zO0 (x:api_Image) (h:GoodIm x):(lbl x).length<=33:=by
 have h1:=h.nl
 have h2:=l9 20 x.Version.toNat
 unfold lbl
 rw [List.length_append,List.length_append,List.length_singleton]
 omega
theorem zSa {active:Int} {x:api_Image} (h1:1<=active) (h3:active<=3) (h:GoodIm x):EvC (imE active x) active:=by
 obtain ⟨f0,f1⟩:=zIx (e:=imE active x) (active:=active) (b:=iW x) rfl
 have hr:=zP8 x.Role h.r1 h.r4
 have hl:=zO0 x h
 exact ⟨⟨hr.1,hr.2,by show (lbl x).length<=64;omega,rfl,f0,f1⟩,h1,h3,by show (1:Int)<=1;omega,by show (1:Int)<=5;omega⟩
theorem zD5 {active role:Int} {l:List api_Image} {e:api_Event} (h:e∈evR active role l):∃ x∈l,x.Role=role/\((role=4/\∃ d∈zDd x,e=mkE 9 3 active d)∨(role≠4/\e=imE active x)):=by
 unfold evR at h
 obtain ⟨x,hx,he⟩:=List.mem_flatMap.1 h
 by_cases hr:x.Role=role
 ·rw [if_pos hr] at he
  by_cases h4:role=4
  ·rw [if_pos h4] at he
   obtain ⟨d,hd,rfl⟩:=List.mem_map.1 he
   exact ⟨x,hx,hr,.inl ⟨h4,d,hd,rfl⟩⟩
  ·rw [if_neg h4] at he
   exact ⟨x,hx,hr,.inr ⟨h4,by simpa using he⟩⟩
 ·rw [if_neg hr] at he
  cases he
theorem zEc {active role:Int} {l:List api_Image} (h1:1<=active) (h3:active<=3) (hc:GoodCh l):∀ e∈evR active role l,EvC e active:=by
 intro e he
 obtain ⟨x,hx,hr,⟨h4,d,hd,rfl⟩ | ⟨_,rfl⟩⟩:=zD5 he
 ·have:=((zEp x (hc.im x hx) (by omega)).2.2 d hd).2.1
  exact zL5 h1 h3 (by omega) (by omega) (by omega) (by omega) (by omega)
 ·exact zSa h1 h3 (hc.im x hx)
theorem zMe {active:Int} {e:api_Event} (h:e∈gA active):∃ i:Nat,i<8/\e=mkE (i:Int) 2 active [0,0,0,0]:=by
 unfold gA at h
 obtain ⟨i,hi,rfl⟩:=List.mem_map.1 h
 exact ⟨i,List.mem_range.1 hi,rfl⟩
theorem zPy {active:Int} {l:List api_Image} (h1:1<=active) (h3:active<=3) (hc:GoodCh l):∀ e∈evs l active,EvC e active:=by
 intro e he
 unfold evs at he
 simp only [List.mem_append] at he
 rcases he with ((he | he) | (he | he)) | he
 ·exact zEc h1 h3 hc e he
 ·exact zEc h1 h3 hc e he
 ·obtain ⟨i,hi,rfl⟩:=zMe he
  exact zL5 h1 h3 (by omega) (by omega) (by omega) (by omega) (by decide)
 ·exact zEc h1 h3 hc e he
 ·exact zEc h1 h3 hc e he
theorem zKc {active:Int} {l:List api_Image} (R:Int) (h1:1<=active) (h3:active<=3) (hc:GoodCh l) (r0:0<=R) (r1:R<=1000):LgF ⟨active,R,evs l active⟩:=
 ⟨⟨zPy h1 h3 hc,(zR0 l active hc).2⟩,h1,h3,r0,by show R<=1099511627776;omega⟩
def hq (l:api_Log) (machine key:Int) (nonce:List UInt8):api_Attest:=
 ⟨nm (kq key),nnc nonce machine (wA l),l.Resets,0,17,false,(l.Events.length:Int),⟨xB l.Active 0,xB l.Active 1⟩,dgs l.Active (rpl l.Active l.Events)⟩
theorem zTe (l:api_Log) (machine key:Int) (nonce:List UInt8) (h:LgF l) (hn:nonce.length<2 ^ 30):rN l machine key nonce=some (hq l machine key nonce):=by
 have hlen:=bG l h.toLgGood
 have hen:=h.n
 unfold rN hq
 refine bd (zDo l h) ?_
 refine bd (zOu _ h.a1 h.a3) ?_
 refine bd (zGv l (by omega) h.a1 h.a3 h.ev) ?_
 refine bd (a:=dgs l.Active (rpl l.Active l.Events)) (cf (by rw [zJi];rfl) rfl) ?_
 refine bd (p8 key) ?_
 refine bd (zAa (kq key)) ?_
 exact bd (zDk nonce machine (wA l) hn (by omega)) rfl
theorem zTu (l:api_Log) (machine key:Int) (nonce:List UInt8) (h:LgF l) (r s:Int) (r0:0<=r) (r1:r<=1000) (s0:0<=s) (s1:s<=1000):QaOk { hq l machine key nonce with Resets:=r,Restarts:=s }:=by
 have hn:=h.n
 exact ⟨aF _ _,aF _ _,zJi _ _,rfl,⟨r0,by show r<_;omega⟩,⟨s0,by show s<_;omega⟩,⟨by show (0:Int)<=17;omega,by show (17:Int)<_;omega⟩,⟨by show (0:Int)<=(l.Events.length:Int);omega,by show (l.Events.length:Int)<_;omega⟩,kN _ _,kN _ _⟩
def zMg (l:api_Log) (machine key:Int) (leaf:Nat) (a:api_Attest):api_Evidence:=⟨machine,qbA a,iP (sha [113,u8 key]) leaf (qbA a),wA l⟩
theorem zRh (l:api_Log) (machine key:Int) (leaf:Nat) (a:api_Attest) (h:LgF l) (hl:leaf<=1) (ha:QaOk a):v7 l machine key (leaf:Int) a=some (zMg l machine key leaf a):=by
 have hq:=zEq a ha
 unfold v7
 refine bd (zDo l h) ?_
 refine bd (zPt a ha) ?_
 refine bd (bY key) ?_
 refine bd (a:=iP (sha [113,u8 key]) leaf (qbA a)) ?_ rfl
 have:yQ .i64 (leaf:Int) 1=(leaf:Int):=by
  rw [zPd leaf (by omega)];congr 1;omega
 rw [this]
 exact zDv _ leaf _ (by rw [sF];decide) hl (by omega)
theorem zPw (l:api_Log) (machine key:Int) (leaf:Nat) (a:api_Attest) (h:LgGood l) (ha:QaOk a) (k2:Int) (n:List UInt8) (hn:n.length<2 ^ 30):EvOk (zMg l machine key leaf a) [kq key,kq k2] n:=by
 have hlen:=bG l h
 refine ⟨?_,?_,?_,hn,by show 2<2 ^ 30;decide,λp hp=>?_⟩
 ·show (qbA a).length<_
  rw [zEq a ha];decide
 ·show (iP (sha [113,u8 key]) leaf (qbA a)).length<_
  rw [zFy _ _ _ (by rw [sF];decide)];decide
 ·show (wA l).length<_
  omega
 ·simp only [List.mem_cons,List.not_mem_nil,or_false] at hp
  rcases hp with rfl | rfl
  ·rw [zMm];decide
  ·rw [zMm];decide
theorem zRt (l:api_Log) (machine key:Int) (leaf:Nat) (a:api_Attest) (hl:leaf<=1) (ha:QaOk a) (hk:a.Key=nm (kq key)) (r:List api_Public) (e:Int):qf (zMg l machine key leaf a).Attest (zMg l machine key leaf a).Signature (kq key :: r) e=(some a,0):=by
 show qf (qbA a) (iP (sha [113,u8 key]) leaf (qbA a)) (kq key :: r) e=_
 unfold qf
 rw [zPn key leaf (qbA a) a hl (zPu a ha) hk]
 rfl
theorem zQy (machine active:Int):Def (vW machine active) (λe=>e.Machine=machine/\e.Active=active/\e.Quoting=[kq (IntKind.i64.wrap (2*machine)),kq (IntKind.i64.wrap (IntKind.i64.wrap (2*machine)+1))]):=by
 unfold vW
 refine Def.bd (P:=λp=>p=kq (IntKind.i64.wrap (2*machine))) (Def.of (p8 _) rfl) (λp hp=>?_)
 refine Def.bd (P:=λp=>p=kq (IntKind.i64.wrap (IntKind.i64.wrap (2*machine)+1))) (Def.of (p8 _) rfl) (λq hq=>?_)
 refine Def.bd (zA7 _ (by simp)) (λs hs=>?_)
 refine Def.bd (Def.mkN (by decide) (by decide)) (λn hn=>?_)
 refine Def.bd (Def.ck (zOc (by simp))) (λ_ _=>?_)
 refine Def.bd (Def.ck (eO (by
                 have e:(32:Int).toNat=32:=rfl
                 omega))) (λ_ _=>Def.s ⟨rfl,rfl,?_⟩)
 rw [hp,hq]
 rfl
end Go.Proofs.TT
namespace Go.Proofs.TT
open Go Go.Sw
set_option maxRecDepth 100000
theorem zKr (e:api_Event):Def (yS e) (λp=>p=0∨p=1∨p=2∨p=3∨p=4∨p=5):=by
 unfold yS
 refine Def.bd (P:=λ_=>True) (Def.c (λ_=>Def.s trivial) (λ_=>Def.s trivial)) (λ_ _=>?_)
 refine Def.c (λ_=>Def.s (by simp)) (λ_=>?_)
 refine Def.bd (P:=λ_=>True) (Def.c (λ_=>Def.s trivial) (λ_=>Def.s trivial)) (λ_ _=>?_)
 refine Def.c (λ_=>Def.s (by simp)) (λ_=>?_)
 refine Def.bd (P:=λ_=>True) (Def.c (λ_=>Def.c (λ_=>Def.s trivial) (λ_=>Def.s trivial)) (λ_=>Def.s trivial)) (λ_ _=>?_)
 refine Def.c (λ_=>Def.s (by simp)) (λ_=>?_)
 refine Def.bd (P:=λ_=>True) (Def.c (λ_=>Def.s trivial) (λ_=>Def.s trivial)) (λ_ _=>?_)
 refine Def.c (λ_=>Def.s (by simp)) (λ_=>?_)
 refine Def.bd (P:=λ_=>True) (Def.c (λ_=>Def.s trivial) (λ_=>Def.s trivial)) (λ_ _=>?_)
 exact Def.c (λ_=>Def.s (by simp)) (λ_=>Def.s (by simp))
theorem zM1 (w:match_walk) (e:api_Event):Def (wM w e) (λ_=>True):=by
 unfold wM
 refine Def.c (λ_=>Def.s trivial) (λ_=>?_)
 refine Def.bd (zKr e) (λp hp=>?_)
 refine Def.bd (P:=λ_=>True) (Def.c (λ_=>Def.s trivial) (λ_=>Def.c (λ_=>Def.s trivial) (λ_=>Def.c (λ_=>Def.s trivial) (λ_=>Def.s trivial)))) (λ_ _=>?_)
 refine Def.c (λ_=>Def.s trivial) (λ_=>?_)
 refine Def.bd (P:=λ_=>True) (Def.c (λ_=>Def.s trivial) (λ_=>Def.s trivial)) (λ_ _=>?_)
 refine Def.c (λ_=>Def.s trivial) (λ_=>?_)
 refine Def.bd (P:=λ_=>True) (Def.c (λ_=>Def.s trivial) (λ_=>Def.s trivial)) (λ_ _=>?_)
 refine Def.c (λ_=>Def.s trivial) (λ_=>?_)
 refine Def.bd (P:=λ_=>True) (Def.c (λ_=>Def.s trivial) (λ_=>Def.s trivial)) (λ_ _=>?_)
 refine Def.bd (P:=λ_=>True) ?_ (λ_ _=>Def.s trivial)
 rcases hp with rfl | rfl | rfl | rfl | rfl | rfl<;>exact ⟨_,rfl,trivial⟩
end Go.Proofs.TT
