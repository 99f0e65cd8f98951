/- AppraiseTamper (law 37: evidence that was accepted is refused if its log is changed or cut, and for another challenge, but for a collision of the frames of the nonce) is proved for every input, under no condition of ours; this text is a part of that proof. -/
import Derived.Test.YteadpnddgpfbdaaGreatDoorZ12
import Derived.Test.YteadpnddgpfbdaaGreatDoorZ11
set_option linter.all false
namespace Go.Proofs.TT
open Go Go.Sw
set_option maxRecDepth 100000
theorem zXm:xB 1=some ⟨4095,0⟩:=by decide +kernel
theorem zWb:xB 2=some ⟨0,4095⟩:=by decide +kernel
theorem zUf:xB 3=some ⟨4095,4095⟩:=by decide +kernel
theorem zNr (active:Int) (h1:1<=active) (h3:active<=3):xB active=some ⟨xA active 0,xA active 1⟩:=by
 rcases zN0 h1 h3 with rfl | rfl | rfl
 ·exact zXm
 ·exact zWb
 ·exact zUf
theorem zMk (r:api_Registers) (a:Int) (v:Int) (bk:List (List UInt8)) (hi:idx r.Banks a=some bk) (hz:v=0∨bk.length=16) (hb:∀ x∈bk,x.length<=32) (all:List UInt8) (hl:all.length<=512) :
  zE (sY r a v) FU (all,0)=some (all++nF v bk 16):=by
 refine zK 16 (λi=>(all++nF v bk i,(i:Int))) (by simp [nF]) (λi hi16=>?_) rfl (yS (by decide))
 unfold sY
 refine ct (by simp;omega) ?_
 refine bd (zG5 hi16 hz hb hl hi) ?_
 rw [yB (by omega)]
theorem zEs (r:api_Registers) (active:Int) (hr:BkOk active r):sH r ⟨xA active 0,xA active 1⟩=some (dgs active r,0):=by
 obtain ⟨⟨b0,b1,hb,l0,l1,m0,m1⟩⟩:=hr
 obtain ⟨bs,u⟩:=r
 simp only at hb
 subst hb
 have s0:=kS active 0
 have s1:=kS active 1
 have z0:xA active 0=0∨b0.length=16:=by unfold xA;split at l0<;>simp_all
 have z1:xA active 1=0∨b1.length=16:=by unfold xA;split at l1<;>simp_all
 obtain ⟨a0,a1⟩:=zPv b0 b1 u (yD active 0) (yD active 1) (by rw [l0];cases yD active 0<;>rfl) (by rw [l1];cases yD active 1<;>rfl)
 have n0:=zE8 (active:=active) (a:=0) rfl
 have n1:=zE8 (active:=active) (a:=1) rfl
 have hd:dgs active ⟨[b0,b1],u⟩=hs 5 [wF (wF [] 2 (xA active 0)) 2 (xA active 1),nF (xA active 0) b0 16++nF (xA active 1) b1 16]:=rfl
 rw [hd]
 generalize xA active 0=x0 at s0 z0 n0
 generalize xA active 1=x1 at s1 z1 n1
 have e0:=jH m0 x0 16
 have e1:=jH m1 x1 16
 have d0:=zMk ⟨[b0,b1],u⟩ 0 x0 b0 rfl z0 m0 [] (by simp)
 have d1:=zMk ⟨[b0,b1],u⟩ 1 x1 b1 rfl z1 m1 (nF x0 b0 16) (by omega)
 rw [List.nil_append] at d0
 generalize nF x0 b0 16=t0 at *
 generalize nF x1 b1 16=t1 at *
 have rng:∀ x:Int,0<=x/\x<=65535->(bif decide (x<0) then some true else some (decide (65535<x)):Option Bool)=some false:=by
  intro x hx
  refine cf (by simp;omega) ?_
  rw [show decide (65535<x)=false by simp;omega]
 have act:∀ (x:Int) (o:Option Bool) (b:Bool),o=some b->(x != 0&&!b)=false->(bif x != 0 then (o.bind λb=>some (!b)) else some false:Option Bool)=some false:=by
  intro x o b ho hn
  subst ho
  cases h:x != 0
  ·rfl
  ·rw [h] at hn
   exact congrArg some hn
 unfold sH
 refine bd (a:=.inr (wF (wF [] 2 x0) 2 x1)) (two (b:=(wF [] 2 x0,1)) (c:=(wF (wF [] 2 x0) 2 x1,2)) ?_ ?_ rfl) ?_
 ·unfold sZ
  refine ct rfl ?_
  refine bd (a:=x0) rfl ?_
  refine bd (a:=false) (rng x0 s0) ?_
  refine cf rfl ?_
  exact bd (sN [] 2 x0 (by omega) (by omega) (by simp)) rfl
 ·unfold sZ
  refine ct rfl ?_
  refine bd (a:=x1) rfl ?_
  refine bd (a:=false) (rng x1 s1) ?_
  refine cf rfl ?_
  exact bd (sN _ 2 x1 (by omega) (by omega) (by rw [zQ];simp)) rfl
 refine bd (a:=.inr (t0++t1)) (two (b:=(t0,1)) (c:=(t0++t1,2)) ?_ ?_ rfl) ?_
 ·unfold sX
  refine ct rfl ?_
  refine bd (a:=x0) rfl ?_
  refine bd (a:=false) (act x0 _ _ a0 n0) ?_
  refine cf rfl ?_
  exact bd d0 rfl
 ·unfold sX
  refine ct rfl ?_
  refine bd (a:=x1) rfl ?_
  refine bd (a:=false) (act x1 _ _ a1 n1) ?_
  refine cf rfl ?_
  exact bd d1 rfl
 exact bd (mP _ _ (by rw [zKt,zQ,zQ,List.length_append];simp only [List.length_nil];omega)) rfl
theorem zFq (l:api_Log) (h:LgGood l) (h1:1<=l.Active) (h3:l.Active<=3):s8 l ⟨xA l.Active 0,xA l.Active 1⟩=some (dgs l.Active (rpl l.Active l.Events),0):=by
 obtain ⟨r,hr,rfl⟩:=zG2 l h h1 h3
 unfold s8
 refine bd hr ?_
 refine cf rfl ?_
 exact bd (zEs _ l.Active (zFc _ _ h1 h3)) rfl
end Go.Proofs.TT
namespace Go.Proofs.TT
open Go Go.Sw
set_option maxRecDepth 100000
theorem zI1 {e:api_Event} {active:Int} {b:List UInt8} (h:e.Digests=dgE active (e.Kind != 5) b):Fit e active 0/\Fit e active 1:=by
 unfold Fit
 rw [h]
 unfold dgE
 constructor
 ·show (((if ((e.Kind != 5)&&yD active 0)=true then nG b else []):List UInt8).length:Int)=if e.Kind≠5/\yD active 0=true then siz 0 else 0
  by_cases hk:e.Kind=5
  ·rw [if_neg (by simp [hk]),if_neg (λh=>h.1 hk)];rfl
  ·cases hb:yD active 0
   ·rw [if_neg (by simp),if_neg (λh=>by cases h.2)];rfl
   ·rw [if_pos (by simp [hk]),if_pos ⟨hk,rfl⟩,zCz];rfl
 ·show (((if ((e.Kind != 5)&&yD active 1)=true then sha b else []):List UInt8).length:Int)=if e.Kind≠5/\yD active 1=true then siz 1 else 0
  by_cases hk:e.Kind=5
  ·rw [if_neg (by simp [hk]),if_neg (λh=>h.1 hk)];rfl
  ·cases hb:yD active 1
   ·rw [if_neg (by simp),if_neg (λh=>by cases h.2)];rfl
   ·rw [if_pos (by simp [hk]),if_pos ⟨hk,rfl⟩,sJ];rfl
theorem zLn {reg kind active:Int} {data:List UInt8} (h1:1<=active) (h3:active<=3) (r0:0<=reg) (r1:reg<=11) (k1:1<=kind) (k5:kind<=5) (hd:data.length<=64):EvC (mkE reg kind active data) active:=by
 obtain ⟨f0,f1⟩:=zI1 (e:=mkE reg kind active data) (active:=active) (b:=data) rfl
 exact ⟨⟨r0,r1,hd,rfl,f0,f1⟩,h1,h3,k1,k5⟩
theorem zS8 (r:Int) (h1:1<=r) (h4:r<=4):0<=rgR r/\rgR r<=11:=by
 unfold rgR
 split
 ·omega
 split
 ·omega
 split
 ·omega
 split<;>omega
theorem zPa (x:api_Image) (h:GoodIm x):(lbl x).length<=33:=by
 have h1:=h.nl
 have h2:=jB 20 x.Version.toNat
 unfold lbl
 rw [List.length_append,List.length_append,List.length_singleton]
 omega
theorem zR6 {active:Int} {x:api_Image} (h1:1<=active) (h3:active<=3) (h:GoodIm x):EvC (imE active x) active:=by
 obtain ⟨f0,f1⟩:=zI1 (e:=imE active x) (active:=active) (b:=gS x) rfl
 have hr:=zS8 x.Role h.r1 h.r4
 have hl:=zPa x h
 exact ⟨⟨hr.1,hr.2,by show (lbl x).length<=64;omega,rfl,f0,f1⟩,h1,h3,by show (1:Int)<=1;omega,by show (1:Int)<=5;omega⟩
theorem zEi {active role:Int} {l:List api_Image} {e:api_Event} (h:e∈evR active role l):∃ x∈l,x.Role=role/\((role=4/\∃ d∈zDf x,e=mkE 9 3 active d)∨(role≠4/\e=imE active x)):=by
 unfold evR at h
 obtain ⟨x,hx,he⟩:=List.mem_flatMap.1 h
 by_cases hr:x.Role=role
 ·rw [if_pos hr] at he
  by_cases h4:role=4
  ·rw [if_pos h4] at he
   obtain ⟨d,hd,rfl⟩:=List.mem_map.1 he
   exact ⟨x,hx,hr,.inl ⟨h4,d,hd,rfl⟩⟩
  ·rw [if_neg h4] at he
   exact ⟨x,hx,hr,.inr ⟨h4,by simpa using he⟩⟩
 ·rw [if_neg hr] at he
  cases he
theorem zEm {active role:Int} {l:List api_Image} (h1:1<=active) (h3:active<=3) (hc:GoodCh l):∀ e∈evR active role l,EvC e active:=by
 intro e he
 obtain ⟨x,hx,hr,⟨h4,d,hd,rfl⟩ | ⟨_,rfl⟩⟩:=zEi he
 ·have:=((zEt x (hc.im x hx) (by omega)).2.2 d hd).2.1
  exact zLn h1 h3 (by omega) (by omega) (by omega) (by omega) (by omega)
 ·exact zR6 h1 h3 (hc.im x hx)
theorem zNh {active:Int} {e:api_Event} (h:e∈hX active):∃ i:Nat,i<8/\e=mkE (i:Int) 2 active [0,0,0,0]:=by
 unfold hX at h
 obtain ⟨i,hi,rfl⟩:=List.mem_map.1 h
 exact ⟨i,List.mem_range.1 hi,rfl⟩
theorem zSj {active:Int} {l:List api_Image} (h1:1<=active) (h3:active<=3) (hc:GoodCh l):∀ e∈evs l active,EvC e active:=by
 intro e he
 unfold evs at he
 simp only [List.mem_append] at he
 rcases he with ((he | he) | (he | he)) | he
 ·exact zEm h1 h3 hc e he
 ·exact zEm h1 h3 hc e he
 ·obtain ⟨i,hi,rfl⟩:=zNh he
  exact zLn h1 h3 (by omega) (by omega) (by omega) (by omega) (by decide)
 ·exact zEm h1 h3 hc e he
 ·exact zEm h1 h3 hc e he
theorem zJ7 {active:Int} {l:List api_Image} (R:Int) (h1:1<=active) (h3:active<=3) (hc:GoodCh l) (r0:0<=R) (r1:R<=1000):LgF ⟨active,R,evs l active⟩:=
 ⟨⟨zSj h1 h3 hc,(zQf l active hc).2⟩,h1,h3,r0,by show R<=1099511627776;omega⟩
def hq (l:api_Log) (machine key:Int) (nonce:List UInt8):api_Attest:=
 ⟨nm (kq key),nnc nonce machine (xU l),l.Resets,0,17,false,(l.Events.length:Int),⟨xA l.Active 0,xA l.Active 1⟩,dgs l.Active (rpl l.Active l.Events)⟩
theorem zW6 (l:api_Log) (machine key:Int) (nonce:List UInt8) (h:LgF l) (hn:nonce.length<2 ^ 30):oG l machine key nonce=some (hq l machine key nonce):=by
 have hlen:=hR l h.toLgGood
 have hen:=h.n
 unfold oG hq
 refine bd (zD0 l h) ?_
 refine bd (zO9 _ h.a1 h.a3) ?_
 refine bd (zF3 l (by omega) h.a1 h.a3 h.ev) ?_
 refine bd (a:=dgs l.Active (rpl l.Active l.Events)) (cf (by rw [zJq];rfl) rfl) ?_
 refine bd (oI key) ?_
 refine bd (zAu (kq key)) ?_
 exact bd (mF nonce machine (xU l) hn (by omega)) rfl
theorem zWj (l:api_Log) (machine key:Int) (nonce:List UInt8) (h:LgF l) (r s:Int) (r0:0<=r) (r1:r<=1000) (s0:0<=s) (s1:s<=1000):QaOk { hq l machine key nonce with Resets:=r,Restarts:=s }:=by
 have hn:=h.n
 exact ⟨dS _ _,dS _ _,zJq _ _,rfl,⟨r0,by show r<_;omega⟩,⟨s0,by show s<_;omega⟩,⟨by show (0:Int)<=17;omega,by show (17:Int)<_;omega⟩,⟨by show (0:Int)<=(l.Events.length:Int);omega,by show (l.Events.length:Int)<_;omega⟩,kS _ _,kS _ _⟩
def zLq (l:api_Log) (machine key:Int) (leaf:Nat) (a:api_Attest):api_Evidence:=⟨machine,qbA a,gN (sha [113,u8 key]) leaf (qbA a),xU l⟩
theorem zQi (l:api_Log) (machine key:Int) (leaf:Nat) (a:api_Attest) (h:LgF l) (hl:leaf<=1) (ha:QaOk a):tC l machine key (leaf:Int) a=some (zLq l machine key leaf a):=by
 have hq:=zEr a ha
 unfold tC
 refine bd (zD0 l h) ?_
 refine bd (zPr a ha) ?_
 refine bd (aZ key) ?_
 refine bd (a:=gN (sha [113,u8 key]) leaf (qbA a)) ?_ rfl
 have:yP .i64 (leaf:Int) 1=(leaf:Int):=by
  rw [zPy leaf (by omega)];congr 1;omega
 rw [this]
 exact zD3 _ leaf _ (by rw [sJ];decide) hl (by omega)
theorem zTk (l:api_Log) (machine key:Int) (leaf:Nat) (a:api_Attest) (h:LgGood l) (ha:QaOk a) (k2:Int) (n:List UInt8) (hn:n.length<2 ^ 30):EvOk (zLq l machine key leaf a) [kq key,kq k2] n:=by
 have hlen:=hR l h
 refine ⟨?_,?_,?_,hn,by show 2<2 ^ 30;decide,λp hp=>?_⟩
 ·show (qbA a).length<_
  rw [zEr a ha];decide
 ·show (gN (sha [113,u8 key]) leaf (qbA a)).length<_
  rw [zGz _ _ _ (by rw [sJ];decide)];decide
 ·show (xU l).length<_
  omega
 ·simp only [List.mem_cons,List.not_mem_nil,or_false] at hp
  rcases hp with rfl | rfl
  ·rw [zMo];decide
  ·rw [zMo];decide
theorem zSr (l:api_Log) (machine key:Int) (leaf:Nat) (a:api_Attest) (hl:leaf<=1) (ha:QaOk a) (hk:a.Key=nm (kq key)) (r:List api_Public) (e:Int):qf (zLq l machine key leaf a).Attest (zLq l machine key leaf a).Signature (kq key :: r) e=(some a,0):=by
 show qf (qbA a) (gN (sha [113,u8 key]) leaf (qbA a)) (kq key :: r) e=_
 unfold qf
 rw [zP7 key leaf (qbA a) a hl (zP6 a ha) hk]
 rfl
theorem zRn (machine active:Int):Def (uA machine active) (λe=>e.Machine=machine/\e.Active=active/\e.Quoting=[kq (IntKind.i64.wrap (2*machine)),kq (IntKind.i64.wrap (IntKind.i64.wrap (2*machine)+1))]):=by
 unfold uA
 refine Def.bd (P:=λp=>p=kq (IntKind.i64.wrap (2*machine))) (Def.of (oI _) rfl) (λp hp=>?_)
 refine Def.bd (P:=λp=>p=kq (IntKind.i64.wrap (IntKind.i64.wrap (2*machine)+1))) (Def.of (oI _) rfl) (λq hq=>?_)
 refine Def.bd (zBr _ (by simp)) (λs hs=>?_)
 refine Def.bd (Def.mkN (by decide) (by decide)) (λn hn=>?_)
 refine Def.bd (Def.ck (zN7 (by simp))) (λ_ _=>?_)
 refine Def.bd (Def.ck (dX (by
                 have e:(32:Int).toNat=32:=rfl
                 omega))) (λ_ _=>Def.s ⟨rfl,rfl,?_⟩)
 rw [hp,hq]
 rfl
end Go.Proofs.TT
namespace Go.Proofs.TT
open Go Go.Sw
set_option maxRecDepth 100000
theorem zKq (e:api_Event):Def (yT e) (λp=>p=0∨p=1∨p=2∨p=3∨p=4∨p=5):=by
 unfold yT
 refine Def.bd (P:=λ_=>True) (Def.c (λ_=>Def.s trivial) (λ_=>Def.s trivial)) (λ_ _=>?_)
 refine Def.c (λ_=>Def.s (by simp)) (λ_=>?_)
 refine Def.bd (P:=λ_=>True) (Def.c (λ_=>Def.s trivial) (λ_=>Def.s trivial)) (λ_ _=>?_)
 refine Def.c (λ_=>Def.s (by simp)) (λ_=>?_)
 refine Def.bd (P:=λ_=>True) (Def.c (λ_=>Def.c (λ_=>Def.s trivial) (λ_=>Def.s trivial)) (λ_=>Def.s trivial)) (λ_ _=>?_)
 refine Def.c (λ_=>Def.s (by simp)) (λ_=>?_)
 refine Def.bd (P:=λ_=>True) (Def.c (λ_=>Def.s trivial) (λ_=>Def.s trivial)) (λ_ _=>?_)
 refine Def.c (λ_=>Def.s (by simp)) (λ_=>?_)
 refine Def.bd (P:=λ_=>True) (Def.c (λ_=>Def.s trivial) (λ_=>Def.s trivial)) (λ_ _=>?_)
 exact Def.c (λ_=>Def.s (by simp)) (λ_=>Def.s (by simp))
theorem zM1 (w:match_walk) (e:api_Event):Def (wR w e) (λ_=>True):=by
 unfold wR
 refine Def.c (λ_=>Def.s trivial) (λ_=>?_)
 refine Def.bd (zKq e) (λp hp=>?_)
 refine Def.bd (P:=λ_=>True) (Def.c (λ_=>Def.s trivial) (λ_=>Def.c (λ_=>Def.s trivial) (λ_=>Def.c (λ_=>Def.s trivial) (λ_=>Def.s trivial)))) (λ_ _=>?_)
 refine Def.c (λ_=>Def.s trivial) (λ_=>?_)
 refine Def.bd (P:=λ_=>True) (Def.c (λ_=>Def.s trivial) (λ_=>Def.s trivial)) (λ_ _=>?_)
 refine Def.c (λ_=>Def.s trivial) (λ_=>?_)
 refine Def.bd (P:=λ_=>True) (Def.c (λ_=>Def.s trivial) (λ_=>Def.s trivial)) (λ_ _=>?_)
 refine Def.c (λ_=>Def.s trivial) (λ_=>?_)
 refine Def.bd (P:=λ_=>True) (Def.c (λ_=>Def.s trivial) (λ_=>Def.s trivial)) (λ_ _=>?_)
 refine Def.bd (P:=λ_=>True) ?_ (λ_ _=>Def.s trivial)
 rcases hp with rfl | rfl | rfl | rfl | rfl | rfl<;>exact ⟨_,rfl,trivial⟩
end Go.Proofs.TT
namespace Go.Proofs.TT
open Go Go.Sw
set_option maxRecDepth 100000
theorem or5 {a b c d e:Bool}:Def (bif a then some true else bif b then some true else bif c then some true else bif d then some true else some e) (λr=>r=(a||b||c||d||e)):=by
 cases a<;>cases b<;>cases c<;>cases d<;>cases e<;>exact Def.s rfl
theorem zAb (s:List UInt8):Def (xV s) (λb=>b=true->s.length<=12):=by
 unfold xV
 refine Def.bd (P:=λe=>e=0->s.length<=12) ?_ (λe he=>Def.s (λh=>he (by simpa using h)))
 unfold gI
 refine Def.bd (P:=λb=>b=false) (Def.s rfl) (λb hb=>?_)
 subst hb
 refine Def.c (λh=>by cases h) (λ_=>?_)
 refine Def.bd (P:=λb=>b=true->s.length<=12) (Def.s (λh=>by simp at h;omega)) (λb hb=>?_)
 refine Def.c (λ_=>Def.s (λh=>by cases h)) (λh=>?_)
 have:=hb (by simpa using h)
 refine Def.c (λ_=>Def.s (λh=>by cases h)) (λ_=>?_)
 refine Def.bd (P:=λb=>b=false) (Def.s rfl) (λb hb=>?_)
 subst hb
 exact Def.c (λh=>by cases h) (λ_=>Def.s (λ_=>this))
theorem zG6 (x y:Int):Def (u7 x y) (λr=>r=if x<y then -1 else if y<x then 1 else 0):=by
 unfold u7
 have e:∀ x:Int,rA x=some false:=λx=>by simp [rA]
 refine Def.bd (P:=λb=>b=false) (Def.of (e x) rfl) (λb hb=>?_)
 subst hb
 refine Def.bd (P:=λb=>b=false) (Def.of (e y) rfl) (λb hb=>?_)
 subst hb
 refine Def.c (λh=>by cases h) (λ_=>Def.c (λh=>by cases h) (λ_=>Def.c (λh=>Def.s ?_) (λh=>Def.c (λh2=>Def.s ?_) (λh2=>Def.s ?_))))
 ·rw [if_pos (dT h)]
 ·rw [if_neg (dF h),if_pos (dT h2)]
 ·rw [if_neg (dF h),if_neg (dF h2)]
def fnz:List Int->Int
 | []=>0
 | x :: r=>if x=0 then fnz r else x
theorem zPj (l:List Int) (hl:l.length<2 ^ 40):Def (iK l) (λr=>r=fnz l):=by
 unfold iK
 refine Def.bd (P:=λr=>(match r with | .inl r=>r | .inr _=>0)=fnz l) ?_ (λr hr=>?_)
 ·refine Def.loop (λs=>∃ i:Nat,s=(i:Int)/\i<=l.length/\fnz (l.drop i)=fnz l) (λs=>l.length - s.toNat) (λs hs=>?_) ⟨0,rfl,by omega,rfl⟩ (by simp;omega)
  obtain ⟨i,rfl,hi,hf⟩:=hs
  unfold eR
  refine Def.c (λh=>?_) (λh=>Def.s ?_)
  ·have hi2:i<l.length:=by have:=dT h;omega
   refine Def.bd (Def.at' hi2) (λd hd=>?_)
   have e:fnz l=if d=0 then fnz (l.drop (i+1)) else d:=by rw [<- hf,List.drop_eq_getElem_cons hi2,hd];rfl
   refine Def.c (λhn=>Def.s ?_) (λhn=>Def.s ?_)
   ·rw [if_neg (by simpa using hn)] at e
    exact e.symm
   ·rw [if_pos (by simpa using hn)] at e
    rw [yB (by omega)]
    exact ⟨⟨i+1,rfl,by omega,e.symm⟩,by simp only [Int.toNat_natCast];omega⟩
  ·have:i=l.length:=by have:=dF h;omega
   rw [<- hf,this,List.drop_length];rfl
 ·cases r with
  | inl r=>exact Def.s hr
  | inr u=>exact Def.s hr
def ord (x y:api_Entry):Int:=fnz [if x.Role<y.Role then -1 else if y.Role<x.Role then 1 else 0,Lib.compareBytes x.Name y.Name,if x.Version<y.Version then -1 else if y.Version<x.Version then 1 else 0,Lib.compareBytes x.Digest y.Digest]
theorem zGb (x y:api_Entry):Def (pB x y) (λr=>r=ord x y):=by
 unfold pB
 refine Def.bd (zG6 _ _) (λa ha=>?_)
 refine Def.bd (P:=λr=>r=Lib.compareBytes x.Name y.Name) (Def.s rfl) (λb hb=>?_)
 refine Def.bd (zG6 _ _) (λc hc=>?_)
 refine Def.bd (P:=λr=>r=Lib.compareBytes x.Digest y.Digest) (Def.s rfl) (λd hd=>?_)
 subst ha hb hc hd
 exact Def.bd (zPj _ (by simp)) (λr hr=>Def.s hr)
theorem zIs {α:Type} {c:UInt8} {f:Bool->Option α} {Q:α->Prop} (h:Def (f (decide (c.toNat<32)||decide (126<c.toNat))) Q) :
  Def ((bif decide ((c.toNat:Int)<32) then (some true) else some (decide (126<(c.toNat:Int))):Option Bool).bind f) Q:=by
 have e:(bif decide ((c.toNat:Int)<32) then (some true) else some (decide (126<(c.toNat:Int))):Option Bool)=some (decide (c.toNat<32)||decide (126<c.toNat)):=by
  have h1:decide ((c.toNat:Int)<32)=decide (c.toNat<32):=decide_eq_decide.2 (by omega)
  have h2:decide (126<(c.toNat:Int))=decide (126<c.toNat):=decide_eq_decide.2 (by omega)
  rw [h1,h2]
  cases decide (c.toNat<32)<;>rfl
 rw [e]
 exact h
theorem zCm (r:api_Rule) (h:r.Text.length<2 ^ 40):Def (o8 r) (λc=>c=0->r.Text.length<=32):=by
 unfold o8
 refine Def.bd (P:=λ_=>True) (Def.c (λ_=>Def.s trivial) (λ_=>Def.s trivial)) (λb _=>?_)
 refine Def.c (λ_=>Def.s (λh=>by cases h)) (λ_=>?_)
 refine Def.bd (xF r.Text (pL r) (λ_=>True) (λb=>b=1) h (λi hi=>?_) ?_) (λy hy=>?_)
 ·unfold pL
  refine Def.c (λ_=>?_) (λh=>by have:=dF h;omega)
  refine Def.bd (Def.at' hi) (λc _=>?_)
  refine zIs ?_
  refine Def.c (λ_=>Def.s rfl) (λ_=>Def.s ⟨yB (by omega),trivial⟩)
 ·unfold pL
  exact cf (by simp) rfl
 ·cases y with
  | inl b=>exact Def.s (λh=>by rw [h] at hy;cases hy)
  | inr u=>
   refine Def.bd (P:=λ_=>True) (Def.c (λ_=>Def.c (λ_=>Def.s trivial) (λ_=>Def.c (λ_=>Def.s trivial) (λ_=>Def.s trivial))) (λ_=>Def.s trivial)) (λb _=>?_)
   refine Def.c (λ_=>Def.s (λh=>by cases h)) (λ_=>?_)
   refine Def.bd (P:=λ_=>True) (Def.c (λ_=>Def.c (λ_=>Def.s trivial) (λ_=>Def.s trivial)) (λ_=>Def.s trivial)) (λb _=>?_)
   refine Def.c (λ_=>Def.s (λh=>by cases h)) (λ_=>?_)
   refine Def.bd (P:=λ_=>True) (Def.c (λ_=>Def.s trivial) (λ_=>Def.s trivial)) (λb _=>?_)
   refine Def.c (λ_=>Def.s (λh=>by cases h)) (λ_=>?_)
   exact Def.c (λ_=>Def.s (λh=>by cases h)) (λh=>Def.s (λ_=>by have:=dF h;omega))
structure MGood (m:api_Manifest):Prop where
 n:m.Entries.length<=16
 k:m.Rules.length<=8
 e:∀ i,(h:i<m.Entries.length)->1<=m.Entries[i].Role/\m.Entries[i].Role<=3/\0<=m.Entries[i].Version/\m.Entries[i].Version<=1000000/\m.Entries[i].Name.length<=12
 r:∀ i,(h:i<m.Rules.length)->m.Rules[i].Text.length<2 ^ 40
theorem zIj (m:api_Manifest) (h:MOk m):Def (vF m) (λc=>c=0->MGood m):=by
 unfold vF
 refine Def.bd (zAb _) (λb _=>?_)
 refine Def.c (λ_=>Def.s (λh=>by cases h)) (λ_=>?_)
 refine Def.bd (P:=λ_=>True) (Def.c (λ_=>Def.s trivial) (λ_=>Def.c (λ_=>Def.s trivial) (λ_=>Def.c (λ_=>Def.s trivial) (λ_=>Def.c (λ_=>Def.s trivial) (λ_=>Def.c (λ_=>Def.s trivial) (λ_=>Def.s trivial)))))) (λb _=>?_)
 refine Def.c (λ_=>Def.s (λh=>by cases h)) (λ_=>?_)
 refine Def.bd (P:=λb=>b=false->m.Entries.length<=16/\m.Rules.length<=8) (Def.c (λ_=>Def.s (λh=>by cases h)) (λh1=>Def.s (λh2=>⟨by have:=dF h1;omega,by have:=dF h2;omega⟩))) (λb hb=>?_)
 refine Def.c (λ_=>Def.s (λh=>by cases h)) (λhf=>?_)
 obtain ⟨n,k⟩:=hb hf
 refine Def.bd (xF m.Entries (xS m) (λi=>∀ h:i<m.Entries.length,1<=m.Entries[i].Role/\m.Entries[i].Role<=3/\0<=m.Entries[i].Version/\m.Entries[i].Version<=1000000/\m.Entries[i].Name.length<=12) (λb=>b≠0) (by omega) (λi hi=>?_) ?_) (λy hy=>?_)
 ·unfold xS
  refine Def.c (λ_=>?_) (λh=>by have:=dF h;omega)
  refine Def.bd (Def.at' hi) (λx hx=>?_)
  refine Def.bd or5 (λb hb=>?_)
  refine Def.c (λ_=>Def.s (by show (1:Int)≠0;decide)) (λhbf=>?_)
  rw [hbf] at hb
  simp only [Bool.false_eq,Bool.or_eq_false_iff,decide_eq_false_iff_not] at hb
  refine Def.bd (zAb _) (λb2 hb2=>?_)
  refine Def.c (λ_=>Def.s (by show (43:Int)≠0;decide)) (λhn=>?_)
  have hn':=hb2 (by simpa using hn)
  refine Def.bd (P:=λ_=>True) ?_ (λ_ _=>?_)
  ·refine Def.c (λh0=>?_) (λ_=>Def.s trivial)
   have:0<i:=by have:=dT h0;omega
   rw [show IntKind.i64.wrap ((i:Int) - 1)=((i - 1:Nat):Int) by rw [zV (by omega) (by omega)];omega]
   refine Def.bd (Def.at' (show i - 1<m.Entries.length by omega)) (λy _=>?_)
   exact Def.bd (zGb _ _) (λ_ _=>Def.s trivial)
  ·refine Def.c (λ_=>Def.s (by show (41:Int)≠0;decide)) (λ_=>Def.s ⟨yB (by omega),λ_=>?_⟩)
   rw [<- hx]
   refine ⟨by omega,by omega,by omega,by omega,hn'⟩
 ·unfold xS
  exact cf (by simp) rfl
 cases y with
 | inl b=>exact Def.s (λh=>absurd h hy)
 | inr u=>
  refine Def.bd (xF m.Rules (tH m) (λ_=>True) (λb=>b≠0) (by omega) (λi hi=>?_) ?_) (λz hz=>?_)
  ·unfold tH
   refine Def.c (λ_=>?_) (λh=>by have:=dF h;omega)
   refine Def.bd (Def.at' hi) (λx hx=>?_)
   refine Def.bd (zCm x (by rw [hx];exact h _ (List.getElem_mem _))) (λc _=>?_)
   exact Def.c (λhc=>Def.s (by simpa using hc)) (λ_=>Def.s ⟨yB (by omega),trivial⟩)
  ·unfold tH
   exact cf (by simp) rfl
  cases z with
  | inl b=>exact Def.s (λh=>absurd h hz)
  | inr u=>exact Def.s (λ_=>⟨n,k,λi hi=>hy i hi hi,λi hi=>h _ (List.getElem_mem _)⟩)
end Go.Proofs.TT
namespace Go.Proofs.TT
open Go Go.Sw
set_option maxRecDepth 100000
theorem zHb (e:api_Event) (hd:e.Data.length<=64) (hg:e.Digests.length=2):Def (wB e) (λ_=>True):=by
 unfold wB
 refine Def.bd (P:=λ_=>True) (Def.c (λ_=>Def.s trivial) (λ_=>Def.s trivial)) (λb _=>?_)
 refine Def.bd (P:=λ_=>True) ?_ (λy _=>?_)
 ·refine Def.c (λ_=>Def.s trivial) (λ_=>Def.c (λ_=>?_) (λ_=>Def.c (λ_=>?_) (λ_=>?_)))
  ·refine Def.bd (Def.mkN (by decide) (by decide)) (λn _=>?_)
   refine Def.bd (P:=λ_=>True) (Def.s trivial) (λ_ _=>?_)
   exact Def.c (λ_=>Def.s trivial) (λ_=>Def.s trivial)
  ·refine Def.c (λ_=>Def.s trivial) (λ_=>?_)
   refine Def.bd (xF e.Data (xG e) (λ_=>True) (λ_=>True) (by omega) (λi hi=>?_) ?_) (λy _=>?_)
   ·unfold xG
    refine Def.c (λ_=>?_) (λh=>by have:=dF h;omega)
    exact Def.bd (Def.at' hi) (λc _=>zIs (Def.c (λ_=>Def.s trivial) (λ_=>Def.s ⟨yB (by omega),trivial⟩)))
   ·unfold xG
    exact cf (by simp) rfl
   ·cases y with
    | inl b=>exact Def.s trivial
    | inr u=>exact Def.s trivial
  ·exact Def.bd (P:=λ_=>True) (Def.c (λ_=>Def.s trivial) (λ_=>Def.s trivial)) (λb _=>Def.c (λ_=>Def.s trivial) (λ_=>Def.s trivial))
 cases y with
 | inl b=>exact Def.s trivial
 | inr u=>
  have hif:(if 2<(e.Digests.length:Int) then (2:Int) else (e.Digests.length:Int))=2:=by rw [hg];rfl
  refine Def.bd (xF e.Digests (xI e b) (λ_=>True) (λ_=>True) (by omega) (λi hi=>?_) ?_) (λy _=>?_)
  ·unfold xI
   rw [hif]
   refine Def.c (λ_=>?_) (λh=>by have:=dF h;omega)
   refine Def.bd (Def.at' hi) (λd _=>?_)
   refine Def.bd (P:=λ_=>True) ?_ (λ_ _=>Def.c (λ_=>Def.s trivial) (λ_=>Def.s ⟨yB (by omega),trivial⟩))
   refine Def.c (λ_=>Def.c (λ_=>Def.s trivial) (λ_=>?_)) (λ_=>Def.s trivial)
   refine Def.bd (zLh (i:Int) e.Data (by omega) (by omega)) (λs _=>?_)
   exact Def.bd (P:=λ_=>True) (Def.s trivial) (λ_ _=>Def.s trivial)
  ·unfold xI
   rw [hif,hg]
   exact cf rfl rfl
  ·cases y with
   | inl b=>exact Def.s trivial
   | inr u=>exact Def.s trivial
theorem zQj {K a a' b b' c c':Nat} (hb:b'<K) (hc:c'<K) (h:a'<a∨(a'=a/\(b'<b∨(b'=b/\c'<c)))):a'*(K*K)+b'*K+c'<a*(K*K)+b*K+c:=by
 rcases h with h | ⟨rfl,h | ⟨rfl,h⟩⟩
 ·have h1:(a'+1)*(K*K)<=a*(K*K):=Nat.mul_le_mul_right _ h
  have h2:(b'+1)*K<=K*K:=Nat.mul_le_mul_right _ hb
  rw [Nat.add_mul,Nat.one_mul] at h1 h2
  omega
 ·have h2:(b'+1)*K<=b*K:=Nat.mul_le_mul_right _ h
  rw [Nat.add_mul,Nat.one_mul] at h2
  omega
 ·omega
theorem zNo (p l:List UInt8) (hp:p.length<=32) (hl:l.length<=64):Def (jM p l) (λ_=>True):=by
 unfold jM
 refine Def.bd (P:=λr=>match r with | .inl _=>True | .inr q=>0<=q/\q<=(p.length:Int)) ?_ (λy hy=>?_)
 ·refine Def.loop (λst=>∃ (a b r:Nat) (s:Int),st=((a:Int),(b:Int),s,(r:Int))/\a<=p.length/\b<=l.length/\-1<=s/\s<p.length/\r<=b/\s<a)
   (λst=>((p.length:Int) - st.2.2.1).toNat*((l.length+2)*(l.length+2))+(l.length+1 - st.2.2.2.toNat)*(l.length+2)+(l.length+1 - st.2.1.toNat)) (λst hs=>?_) ⟨0,0,0,-1,rfl,by omega,by omega,by omega,by omega,by omega,by omega⟩ ?_
  ·obtain ⟨a,b,r,s,rfl,ha,hb,hs1,hs2,hr,hsa⟩:=hs
   unfold eM
   refine Def.c (λh=>?_) (λ_=>Def.s ⟨by omega,by omega⟩)
   have hbl:b<l.length:=by have:=dT h;omega
   refine Def.bd (P:=λx=>x=true->a<p.length) ?_ (λx hx=>?_)
   ·refine Def.c (λh=>?_) (λ_=>Def.s (λh=>by cases h))
    have:=dT h
    exact Def.bd (Def.at' (show a<p.length by omega)) (λ_ _=>Def.s (λ_=>by omega))
   refine Def.c (λhxt=>Def.s ?_) (λ_=>?_)
   ·have:=hx hxt
    rw [yB (show a<2 ^ 40 by omega)]
    refine ⟨⟨a+1,b,b,(a:Int),rfl,by omega,by omega,by omega,by omega,by omega,by omega⟩,?_⟩
    refine zQj ?_ ?_ (.inl ?_)<;>simp only [Int.toNat_natCast]<;>omega
   refine Def.bd (P:=λx=>x=true->a<p.length) ?_ (λx hx=>?_)
   ·refine Def.c (λh=>?_) (λ_=>Def.s (λh=>by cases h))
    have:=dT h
    refine Def.bd (Def.at' (show a<p.length by omega)) (λ_ _=>?_)
    refine Def.c (λ_=>Def.s (λ_=>by omega)) (λ_=>?_)
    refine Def.bd (Def.at' (show a<p.length by omega)) (λ_ _=>?_)
    exact Def.bd (Def.at' hbl) (λ_ _=>Def.s (λ_=>by omega))
   refine Def.c (λhxt=>Def.s ?_) (λ_=>?_)
   ·have:=hx hxt
    rw [yB (show a<2 ^ 40 by omega),yB (show b<2 ^ 40 by omega)]
    refine ⟨⟨a+1,b+1,r,s,rfl,by omega,by omega,by omega,by omega,by omega,by omega⟩,?_⟩
    refine zQj ?_ ?_ (.inr ⟨rfl,.inr ⟨rfl,?_⟩⟩)<;>simp only [Int.toNat_natCast]<;>omega
   refine Def.c (λh=>Def.s ?_) (λ_=>Def.s trivial)
   have h0:0<=s:=dT h
   obtain ⟨n,rfl⟩:=Int.eq_ofNat_of_zero_le h0
   rw [yB (show n<2 ^ 40 by omega),yB (show r<2 ^ 40 by omega)]
   refine ⟨⟨n+1,r+1,r+1,(n:Int),rfl,by omega,by omega,by omega,by omega,by omega,by omega⟩,?_⟩
   refine zQj ?_ ?_ (.inr ⟨rfl,.inl ?_⟩)<;>simp only [Int.toNat_natCast]<;>omega
  ·have h1:((p.length:Int) - -1).toNat<=33:=by omega
   have h2:(l.length+2)*(l.length+2)<=66*66:=Nat.mul_le_mul (by omega) (by omega)
   have h3:((p.length:Int) - -1).toNat*((l.length+2)*(l.length+2))<=33*(66*66):=Nat.mul_le_mul h1 h2
   have h4:(l.length+1 - (0:Int).toNat)*(l.length+2)<=65*66:=Nat.mul_le_mul (by omega) (by omega)
   have h5:l.length+1 - (0:Int).toNat<=65:=by omega
   simp only
   omega
 ·cases y with
  | inl b=>exact Def.s trivial
  | inr q=>
   refine Def.bd (Def.sub hy.1 (by exact_mod_cast hy.2) (by omega)) (λv hv=>?_)
   have hvl:v.length<=p.length:=by rw [hv];simp
   refine Def.bd (P:=λ_=>True) ?_ (λ_ _=>Def.s trivial)
   unfold j5
   refine Def.bd (P:=λ_=>True) (Def.c (λ_=>Def.s trivial) (λ_=>Def.s trivial)) (λb _=>?_)
   refine Def.c (λ_=>Def.s trivial) (λ_=>?_)
   refine Def.bd (P:=λb=>b=true) (Def.s rfl) (λb hb=>?_)
   subst hb
   refine Def.c (λ_=>?_) (λh=>by cases h)
   refine Def.bd (P:=λ_=>True) (Def.s trivial) (λc _=>?_)
   refine Def.bd (P:=λr=>r.length<=v.length) ?_ (λw hw=>?_)
   ·unfold tG
    refine Def.bd (P:=λr=>r.length<=v.length) ?_ (λw hw=>Def.s hw)
    refine Def.loop (λw=>w.length<=v.length) (λw=>w.length) (λw hw=>?_) (Nat.le_refl _) (by omega)
    unfold rF
    refine Def.bd (P:=λb=>b=true->0<w.length) ?_ (λb hb=>?_)
    ·refine Def.c (λh=>?_) (λ_=>Def.s (λh=>by cases h))
     have:=dT h
     rw [zV (by omega) (by omega)]
     exact Def.bd (Def.idx (by omega) (by omega)) (λ_ _=>Def.s (λ_=>by omega))
    refine Def.c (λh=>?_) (λ_=>Def.s hw)
    have:=hb h
    rw [zV (by omega) (by omega)]
    refine Def.bd (Def.sub (by decide) (by omega) (by omega)) (λx hx=>Def.s ?_)
    have:x.length=w.length - 1:=by rw [hx];simp
    exact ⟨by omega,by omega⟩
   refine Def.bd (P:=λ_=>True) (Def.s trivial) (λc _=>?_)
   refine Def.bd (P:=λ_=>True) ?_ (λ_ _=>Def.s trivial)
   unfold sB
   refine Def.bd (P:=λ_=>True) ?_ (λw hw=>Def.s hw)
   refine Def.loop (λw=>w.length<=v.length) (λw=>w.length) (λw hw=>?_) hw (by omega)
   unfold qD
   refine Def.bd (P:=λb=>b=true->0<w.length) ?_ (λb hb=>?_)
   ·refine Def.c (λh=>?_) (λ_=>Def.s (λh=>by cases h))
    have:=dT h
    exact Def.bd (Def.idx (by omega) (by omega)) (λ_ _=>Def.s (λ_=>by omega))
   refine Def.c (λh=>?_) (λ_=>Def.s trivial)
   have:=hb h
   refine Def.bd (Def.sub (by decide) (by omega) (by omega)) (λx hx=>Def.s ?_)
   have:x.length=w.length - 1:=by rw [hx];simp
   exact ⟨by omega,by omega⟩
theorem zG7:∀ (s:List UInt8) (acc:Nat),(∀ c∈s,48<=c.toNat/\c.toNat<=57)->Def (decV acc s) (λ_=>True)
 | [],_,_=>Def.s trivial
 | c :: r,acc,h=>by
  unfold decV
  refine Def.c (λ_=>zG7 r _ (λx hx=>h x (List.mem_cons_of_mem _ hx))) (λh2=>?_)
  have:=h c (List.mem_cons_self ..)
  rw [dX this.1,dX this.2] at h2
  cases h2
theorem zGf (s:List UInt8):Def (nW s) (λ_=>True):=by
 unfold nW
 refine Def.bd (P:=λb=>b=false->1<=s.length/\s.length<=10) ?_ (λb hb=>?_)
 ·refine Def.c (λ_=>Def.s (λh=>by cases h)) (λh1=>Def.c (λ_=>Def.s (λh=>by cases h)) (λh2=>?_))
  have h3:=dF h2
  have h4:1<=s.length:=by
   cases s with
   | nil=>cases h1
   | cons a r=>simp
  refine Def.c (λh=>?_) (λ_=>Def.s (λ_=>⟨h4,by omega⟩))
  exact Def.bd (Def.idx (by decide) (by omega)) (λ_ _=>Def.s (λ_=>⟨h4,by omega⟩))
 refine Def.c (λ_=>Def.s trivial) (λhbf=>?_)
 obtain ⟨h1,h10⟩:=hb hbf
 refine Def.bd (xF s (rM s) (λi=>∀ h:i<s.length,48<=s[i].toNat/\s[i].toNat<=57) (λ_=>True) (by omega) (λi hi=>?_) ?_) (λy hy=>?_)
 ·unfold rM
  refine Def.c (λ_=>?_) (λh=>by have:=dF h;omega)
  refine Def.bd (P:=λb=>b=false->48<=s[i].toNat/\s[i].toNat<=57) ?_ (λb hb=>?_)
  ·refine Def.bd (Def.at' hi) (λc hc=>Def.c (λ_=>Def.s (λh=>by cases h)) (λh48=>?_))
   refine Def.bd (Def.at' hi) (λd hd=>Def.s (λh57=>?_))
   have:=dF h48;have:=dF h57
   rw [hc] at *;rw [hd] at *
   omega
  ·exact Def.c (λ_=>Def.s trivial) (λh=>Def.s ⟨yB (by omega),λ_=>hb h⟩)
 ·unfold rM
  exact cf (by simp) rfl
 ·cases y with
  | inl b=>exact Def.s trivial
  | inr u=>
   refine Def.bd (P:=λ_=>True) ?_ (λ_ _=>Def.s trivial)
   unfold strconv_Atoi
   rw [dX h1,dX (show s.length<=18 by omega)]
   refine Def.bd (zG7 s 0 (λc hc=>?_)) (λ_ _=>Def.s trivial)
   obtain ⟨i,hi,rfl⟩:=List.mem_iff_getElem.mp hc
   exact hy i hi hi
theorem zNl (s p:List UInt8):Def (tK s p) (λ_=>True):=by
 unfold tK x9 wC
 refine Def.bd (P:=λ_=>True) ?_ (λ_ _=>Def.s trivial)
 refine Def.bd (P:=λb=>b=true->p.length<=s.length) ?_ (λb hb=>?_)
 ·refine Def.bd (P:=λb=>b=true->p.length<=s.length) ?_ (λb hb=>Def.s hb)
  refine Def.c (λh=>?_) (λ_=>Def.s (λh=>by cases h))
  have:=dT h
  exact Def.bd (Def.sub (by decide) (by omega) (by omega)) (λ_ _=>Def.s (λ_=>by omega))
 refine Def.c (λ_=>Def.s trivial) (λh=>?_)
 have:=hb (by simpa using h)
 exact Def.bd (Def.sub (by omega) (by omega) (by omega)) (λ_ _=>Def.s trivial)
theorem zH4 (r:api_Rule) (l:List UInt8) (h:r.Text.length<2 ^ 40) (hl:l.length<=64):Def (n7 r l) (λ_=>True):=by
 unfold n7
 refine Def.bd (zCm r h) (λc hc=>?_)
 refine Def.c (λ_=>Def.s trivial) (λhc0=>?_)
 have ht:=hc (by simpa using hc0)
 refine Def.c (λ_=>Def.s trivial) (λ_=>Def.c (λ_=>?_) (λ_=>Def.c (λ_=>?_) (λ_=>Def.s trivial)))
 ·exact Def.bd (zNo _ _ ht hl) (λ_ _=>Def.s trivial)
 ·refine Def.bd (zNl _ _) (λz _=>?_)
  refine Def.bd (zGf _) (λn _=>?_)
  exact Def.bd (P:=λ_=>True) (Def.c (λ_=>Def.c (λ_=>Def.s trivial) (λ_=>Def.s trivial)) (λ_=>Def.s trivial)) (λ_ _=>Def.s trivial)
end Go.Proofs.TT
namespace Go.Proofs.TT
open Go Go.Sw
set_option maxRecDepth 100000
structure EvS (e:api_Event):Prop where
 d:e.Data.length<=64
 n:e.Digests.length=2
theorem EvGood.s {e:api_Event} {a:Int} (h:EvGood e a):EvS e:=⟨h.d,h.l⟩
theorem zI8 (r:Int):Def (uI r) (λ_=>True):=by
 unfold uI
 refine Def.bd (P:=λb=>b=false->0<=r/\r<5) (Def.c (λ_=>Def.s (λh=>by cases h)) (λh1=>Def.s (λh2=>?_))) (λb hb=>?_)
 ·have:=dF h1;have:=dF h2
  omega
 refine Def.c (λ_=>Def.s trivial) (λh=>?_)
 exact Def.bd (Def.idx (hb h).1 (hb h).2) (λ_ _=>Def.s trivial)
theorem zNf (x:api_Entry) (e:api_Event) (h0:0<=x.Version) (h1:x.Version<=1000000) (hn:x.Name.length<=12):Def (wA x e) (λ_=>True):=by
 unfold wA
 refine Def.bd (P:=λ_=>True) ?_ (λ_ _=>Def.s trivial)
 refine Def.bd (zI8 _) (λ_ _=>?_)
 refine Def.c (λ_=>Def.c (λh=>?_) (λ_=>Def.s trivial)) (λ_=>Def.s trivial)
 have:=dT h
 refine Def.bd (Def.idx (by decide) this) (λ_ _=>?_)
 refine Def.bd (P:=λ_=>True) (Def.s trivial) (λ_ _=>?_)
 refine Def.c (λ_=>?_) (λ_=>Def.s trivial)
 refine Def.bd (Def.ck (dX (by simp;omega))) (λ_ _=>?_)
 refine Def.bd (P:=λv=>v.length<=20) ?_ (λv hv=>?_)
 ·unfold strconv_Itoa
  refine Def.c (λ_=>Def.s (jB _ _)) (λh=>?_)
  simp at h
  omega
 exact Def.bd (Def.ck (dX (by simp;omega))) (λ_ _=>Def.s trivial)
theorem zNq (m:api_Manifest) (e:api_Event) (hm:MOk m) (he:EvS e):Def (xR m e) (λr=>e.Kind=2->r=-1):=by
 unfold xR
 refine Def.bd (zIj m hm) (λc hc=>?_)
 refine Def.c (λ_=>Def.s (λ_=>rfl)) (λhc0=>?_)
 have g:=hc (by simpa using hc0)
 have gn:=g.n
 have gk:=g.k
 refine Def.bd (P:=λj=>e.Kind=2->j=.inr ()) ?_ (λj hj=>?_)
 ·refine Def.c (λh=>?_) (λ_=>Def.c (λh=>?_) (λ_=>Def.s (λ_=>rfl)))
  ·have hk:e.Kind=1:=by simpa using h
   refine Def.bd (P:=λ_=>True) ?_ (λ_ _=>Def.s (λh=>by omega))
   unfold yI
   refine Def.bd (xF m.Entries (zN m.Entries e) (λ_=>True) (λ_=>True) (by omega) (λi hi=>?_) ?_) (λy _=>?_)
   ·unfold zN
    refine Def.c (λ_=>?_) (λh=>by have:=dF h;omega)
    refine Def.bd (Def.at' hi) (λx hx=>?_)
    have:=g.e i hi
    rw [<- hx] at this
    refine Def.bd (zNf x e this.2.2.1 this.2.2.2.1 this.2.2.2.2) (λb _=>?_)
    exact Def.c (λ_=>Def.s trivial) (λ_=>Def.s ⟨yB (by omega),trivial⟩)
   ·unfold zN
    exact cf (by simp) rfl
   ·cases y with
    | inl b=>exact Def.s trivial
    | inr u=>exact Def.s trivial
  ·have hk:e.Kind=3:=by simpa using h
   refine Def.bd (P:=λ_=>True) ?_ (λ_ _=>?_)
   ·refine Def.bd (zI8 _) (λ_ _=>Def.c (λ_=>Def.s trivial) (λ_=>?_))
    exact Def.bd (zHb e he.d he.n) (λ_ _=>Def.s trivial)
   refine Def.c (λ_=>Def.s (λh=>by omega)) (λ_=>?_)
   refine Def.bd (P:=λ_=>True) ?_ (λ_ _=>Def.c (λ_=>Def.s (λh=>by omega)) (λ_=>Def.s (λh=>by omega)))
   unfold y0
   refine Def.bd (xF m.Rules (yH m.Rules e) (λ_=>True) (λ_=>True) (by omega) (λi hi=>?_) ?_) (λy _=>?_)
   ·unfold yH
    refine Def.c (λ_=>?_) (λh=>by have:=dF h;omega)
    refine Def.bd (Def.at' hi) (λx hx=>?_)
    have:=g.r i hi
    rw [<- hx] at this
    refine Def.bd (P:=λ_=>True) (Def.bd (zH4 x e.Data this he.d) (λ_ _=>Def.s trivial)) (λb _=>?_)
    exact Def.c (λ_=>Def.s trivial) (λ_=>Def.s ⟨yB (by omega),trivial⟩)
   ·unfold yH
    exact cf (by simp) rfl
   ·cases y with
    | inl b=>exact Def.s trivial
    | inr u=>exact Def.s trivial
 ·cases j with
  | inl b=>exact Def.s (λh=>by cases hj h)
  | inr u=>exact Def.s (λ_=>rfl)
def zGc (ms:List api_Manifest) (e:api_Event) (r:api_Reason):Prop:=
 if e.Kind=5∨e.Kind=2 then r.Manifest=-1/\r.Item=-1 else 0<=r.Item/\∃ k:Nat,r.Manifest=k/\∃ h:k<ms.length,xR ms[k] e=some r.Item
theorem zEu (e:api_Event) (ms:List api_Manifest) (hn:ms.length<=5) (hm:∀ m∈ms,MOk m) (he:EvS e):Def (w9 e ms) (λr=>r.2=true->zGc ms e r.1):=by
 unfold w9
 refine Def.bd (P:=λb:Bool=>(b=true->e.Kind=5∨e.Kind=2)/\(b=false->e.Kind≠5)) ?_ (λb hb=>?_)
 ·refine Def.c (λh=>Def.s (And.intro (λ_=>.inl (by simpa using h)) (λh=>by cases h))) (λh5=>?_)
  have h5':e.Kind≠5:=by simpa using h5
  refine Def.c (λh=>?_) (λ_=>Def.s (And.intro (λh=>by cases h) (λ_=>h5')))
  exact Def.bd (zHb e he.d he.n) (λ_ _=>Def.s ⟨λ_=>.inr (by simpa using h),λ_=>h5'⟩)
 refine Def.c (λh=>Def.s (λ_=>?_)) (λhbf=>?_)
 ·unfold zGc
  rw [if_pos (hb.1 h)]
  exact ⟨rfl,rfl⟩
 have h5:=hb.2 hbf
 refine Def.bd (xF ms (x8 e ms) (λ_=>True) (λr=>zGc ms e r.1) (by omega) (λi hi=>?_) ?_) (λy hy=>?_)
 ·unfold x8
  refine Def.c (λ_=>?_) (λh=>by have:=dF h;omega)
  refine Def.bd (Def.at' hi) (λx hx=>?_)
  obtain ⟨r,hr,hr2⟩:=zNq x e (by rw [hx];exact hm _ (List.getElem_mem _)) he
  refine Def.bd (P:=λq=>q=r) (Def.of hr rfl) (λq hq=>?_)
  subst hq
  refine Def.c (λh=>Def.s ?_) (λ_=>Def.s ⟨yB (by omega),trivial⟩)
  have h0:=dT h
  show zGc ms e ⟨(i:Int),q⟩
  unfold zGc
  by_cases h2:e.Kind=2
  ·have:=hr2 h2;omega
  ·rw [if_neg (by omega)]
   exact ⟨h0,i,rfl,hi,by rw [<- hx];exact hr⟩
 ·unfold x8
  exact cf (by simp) rfl
 ·cases y with
  | inl b=>exact Def.s (λ_=>hy)
  | inr u=>exact Def.s (λh=>by cases h)
end Go.Proofs.TT
namespace Go.Proofs.TT
open Go Go.Sw
set_option maxRecDepth 100000
theorem zMr:∀ a b:List UInt8,Op.bytesLess a b=true->Lib.compareBytes a b=-1
 | [],[],h=>by cases h
 | [],_ :: _,_=>rfl
 | _ :: _,[],h=>by cases h
 | x :: a,y :: b,h=>by
  simp only [Op.bytesLess,Bool.or_eq_true,Bool.and_eq_true,decide_eq_true_eq,beq_iff_eq] at h
  unfold Lib.compareBytes
  by_cases hxy:x<y
  ·rw [if_pos hxy]
  ·rcases h with h | ⟨rfl,h⟩
   ·exact absurd h hxy
   ·rw [if_neg hxy,if_neg hxy]
    exact zMr a b h
theorem zP4:∀ a:List UInt8,Lib.compareBytes a a=0
 | []=>rfl
 | x :: a=>by
  have hx:¬ x<x:=by rw [UInt8.lt_iff_toNat_lt];omega
  unfold Lib.compareBytes
  rw [if_neg hx,if_neg hx]
  exact zP4 a
theorem zR7 {x y:api_Entry} (h:bfr x y=true):ord x y<0:=by
 unfold bfr at h
 unfold ord
 by_cases hr:x.Role=y.Role
 ·rw [if_neg (by simp [hr])] at h
  rw [if_neg (by omega),if_neg (by omega)]
  by_cases hn:x.Name=y.Name
  ·rw [if_neg (by simp [hn])] at h
   rw [hn,zP4]
   by_cases hv:x.Version=y.Version
   ·rw [if_neg (by simp [hv])] at h
    rw [if_neg (by omega),if_neg (by omega),zMr _ _ h]
    decide
   ·rw [if_pos hv] at h
    have:=dT h
    rw [if_pos this]
    simp [fnz]
  ·rw [if_pos hn] at h
   rw [zMr _ _ h]
   simp [fnz]
 ·rw [if_pos hr] at h
  have:=dT h
  rw [if_pos this]
  simp [fnz]
def jI (es:List api_Entry):api_Manifest:=⟨[118],1,0,0,1099511627776,es,[⟨1,[],0,0⟩]⟩
theorem zO5 (es:List api_Entry):MOk (jI es):=by
 intro r hr
 have:r=⟨1,[],0,0⟩:=by simpa [jI] using hr
 rw [this];decide
theorem zB6 (es:List api_Entry) (hn:es.length<=8) (ha:adj es) (he:∀ e∈es,EnOk e):vF (jI es)=some 0:=by
 have hd:Def (vF (jI es)) (λr=>r=0):=by
  unfold vF
  refine Def.bd (P:=λb=>b=true) (Def.of (show xV [118]=some true by decide +kernel) rfl) (λb hb=>?_)
  subst hb
  refine Def.c (λh=>by cases h) (λ_=>?_)
  refine Def.bd (P:=λb=>b=false) (Def.s rfl) (λb hb=>?_)
  subst hb
  refine Def.c (λh=>by cases h) (λ_=>?_)
  refine Def.bd (P:=λb=>b=false) (Def.c (λh=>by have:=dT h;have e:(jI es).Entries.length=es.length:=rfl;omega) (λ_=>Def.s rfl)) (λb hb=>?_)
  subst hb
  refine Def.c (λh=>by cases h) (λ_=>?_)
  refine Def.bd (xF es (xS (jI es)) (λ_=>True) (λ_=>False) (by omega) (λi hi=>?_) ?_) (λy hy=>?_)
  ·have hE:=he _ (List.getElem_mem hi)
   unfold xS
   refine Def.c (λ_=>?_) (λh=>by have:=dF h;have e:(jI es).Entries.length=es.length:=rfl;omega)
   refine Def.bd (Def.at' (l:=es) hi) (λx hx=>?_)
   rw [<- hx] at hE
   have e1:=hE.r1
   have e2:=hE.r3
   have e3:=hE.v0
   have e4:=hE.v1
   have e5:=hE.d
   refine Def.bd or5 (λb hb=>?_)
   have hbf:b=false:=by
    rw [hb]
    simp only [Bool.or_eq_false_iff,decide_eq_false_iff_not]
    refine ⟨⟨⟨⟨by omega,by omega⟩,by omega⟩,by omega⟩,?_⟩
    rw [e5];rfl
   subst hbf
   refine Def.c (λh=>by cases h) (λ_=>?_)
   refine Def.bd (P:=λb=>b=true) (Def.of hE.n rfl) (λb hb=>?_)
   subst hb
   refine Def.c (λh=>by cases h) (λ_=>?_)
   refine Def.bd (P:=λb=>b=false) ?_ (λb hb=>by subst hb;exact Def.c (λh=>by cases h) (λ_=>Def.s ⟨yB (by omega),trivial⟩))
   refine Def.c (λh0=>?_) (λ_=>Def.s rfl)
   have h0':0<i:=by have:=dT h0;omega
   rw [show IntKind.i64.wrap ((i:Int) - 1)=((i - 1:Nat):Int) by rw [zV (by omega) (by omega)];omega]
   refine Def.bd (Def.at' (l:=es) (show i - 1<es.length by omega)) (λy hy=>?_)
   refine Def.bd (zGb _ _) (λo ho=>Def.s ?_)
   have hlt:ord y x<0:=by
    have:=zR7 (zJi ha (i - 1) (by omega))
    rw [hy,hx]
    simpa [show i - 1+1=i by omega] using this
   rw [ho];simp;omega
  ·unfold xS
   exact cf (by show decide ((es.length:Int)<(es.length:Int))=false;simp) rfl
  ·cases y with
   | inl b=>exact hy.elim
   | inr u=>exact Def.of rfl rfl
 obtain ⟨r,h,rfl⟩:=hd
 exact h
theorem zIy (r:Int) (h1:1<=r) (h4:r<=4):uI r=some (rgR r):=by
 have:r=1∨r=2∨r=3∨r=4:=by omega
 rcases this with rfl | rfl | rfl | rfl<;>rfl
theorem zQ7 (active:Int) (x:api_Image) (hg:GoodIm x) (h4:x.Role≠4) (ha:yD active 1=true):wA (enI x) (imE active x)=some true:=by
 have r1:=hg.r1
 have r4:=hg.r4
 have v0:=hg.v0
 have v1:=hg.v1
 have nl:=hg.nl
 have hl:=jB 20 x.Version.toNat
 unfold wA
 refine bd (a:=true) ?_ rfl
 refine bd (zIy x.Role r1 r4) ?_
 refine ct (by show (rgR x.Role==rgR x.Role)=true;simp) ?_
 refine ct rfl ?_
 refine bd (a:=sha (gS x)) ?_ ?_
 ·show some (if (true&&yD active 1)=true then sha (gS x) else [])=_
  rw [if_pos (by simp [ha])]
 refine bd (a:=true) ((gD _ _).trans (by show some (sha (gS x)==sha (gS x))=_;simp)) ?_
 refine ct rfl ?_
 refine bd (ckT (dX (by show x.Name.length+1<=_;omega))) ?_
 refine bd (a:=decF 20 x.Version.toNat) ?_ ?_
 ·unfold strconv_Itoa
  refine ct ?_ rfl
  show (decide (0<=x.Version)&&decide (x.Version<=9223372036854775807))=true
  simp;omega
 refine bd (ckT (dX (by show (x.Name++[32]).length+_<=_;rw [List.length_append,List.length_singleton];omega))) ?_
 show some (lbl x==((x.Name++[32])++decF 20 x.Version.toNat))=_
 unfold lbl
 simp
theorem zOt (active:Int) (es:List api_Entry) (x:api_Image) (hn:es.length<=8) (ha:adj es) (he:∀ e∈es,EnOk e) (hx:enI x∈es) (hg:GoodIm x) (h4:x.Role≠4) (hb:yD active 1=true):Def (xR (jI es) (imE active x)) (λr=>0<=r):=by
 unfold xR
 refine Def.bd (P:=λc=>c=0) (Def.of (zB6 es hn ha he) rfl) (λc hc=>?_)
 subst hc
 refine Def.c (λh=>by cases h) (λ_=>?_)
 refine Def.bd (P:=λj=>∃ k,j=.inl k/\0<=k) ?_ (λj hj=>by obtain ⟨k,rfl,hk⟩:=hj;exact Def.s hk)
 refine Def.c (λ_=>?_) (λh=>by cases h)
 refine Def.bd (P:=λk=>0<=k) ?_ (λk hk=>Def.s ⟨k,rfl,hk⟩)
 unfold yI
 refine Def.bd (xF es (zN es (imE active x)) (λi=>∀ h:i<es.length,wA es[i] (imE active x)=some false) (λk=>0<=k) (by omega) (λi hi=>?_) ?_) (λy hy=>?_)
 ·have hE:=he _ (List.getElem_mem hi)
  unfold zN
  refine Def.c (λ_=>?_) (λh=>by have:=dF h;omega)
  refine Def.bd (Def.at' hi) (λv hv=>?_)
  subst hv
  have hnl:es[i].Name.length<=12:=by
   obtain ⟨b,h1,h2⟩:=zAb es[i].Name
   rw [hE.n] at h1
   injection h1 with h1
   exact h2 h1.symm
  obtain ⟨b,hb1,_⟩:=zNf es[i] (imE active x) hE.v0 hE.v1 hnl
  refine Def.bd (P:=λc=>c=b) (Def.of hb1 rfl) (λc hc=>?_)
  subst hc
  refine Def.c (λ_=>Def.s (by show (0:Int)<=(i:Int);omega)) (λh=>Def.s ⟨yB (by omega),λ_=>by rw [hb1,h]⟩)
 ·unfold zN
  exact cf (by simp) rfl
 ·cases y with
  | inl k=>exact Def.s hy
  | inr u=>
   obtain ⟨i,hi,e⟩:=List.mem_iff_getElem.mp hx
   have:=hy i hi hi
   rw [e,zQ7 active x hg h4 hb] at this
   cases this
theorem zO1 (active:Int) (data:List UInt8) (hd:data.length<2 ^ 40) (a:Nat) (ha:a<2):(dgE active true data).getD a []=[]∨yV (a:Int) data=some ((dgE active true data).getD a []):=by
 have:a=0∨a=1:=by omega
 rcases this with rfl | rfl
 ·show (if (true&&yD active 0)=true then nG data else [])=[]∨yV ((0:Nat):Int) data=some (if (true&&yD active 0)=true then nG data else [])
  cases yD active 0
  ·exact .inl rfl
  ·exact .inr (zFy data hd)
 ·show (if (true&&yD active 1)=true then sha data else [])=[]∨yV ((1:Nat):Int) data=some (if (true&&yD active 1)=true then sha data else [])
  cases yD active 1
  ·exact .inl rfl
  ·exact .inr (zGo data hd)
theorem zF1 (e:api_Event) (active:Int) (hk:(e.Kind=2/\e.Data=[0,0,0,0])∨(e.Kind=3/\zAx e.Data)) (hD:e.Digests=dgE active true e.Data):Def (wB e) (λb=>b=true):=by
 have hdl:e.Data.length<=8:=by
  rcases hk with ⟨_,h⟩ | ⟨_,h⟩
  ·rw [h];decide
  ·exact h.2.1
 have hl:e.Digests.length=2:=by rw [hD];rfl
 unfold wB
 refine Def.bd (P:=λb=>b=true) ?_ (λb hb=>?_)
 ·refine Def.c (λ_=>Def.s ?_) (λh=>?_)
  ·rcases hk with ⟨h,_⟩ | ⟨h,_⟩<;>rw [h]<;>rfl
  ·rcases hk with ⟨h2,_⟩ | ⟨h2,_⟩<;>rw [h2] at h<;>cases h
 subst hb
 refine Def.bd (P:=λy=>y=.inr ()) ?_ (λy hy=>?_)
 ·rcases hk with ⟨h2,hd⟩ | ⟨h3,hd⟩
  ·rw [h2,hd]
   exact Def.of rfl rfl
  ·rw [h3]
   refine Def.c (λh=>by cases h) (λ_=>Def.c (λh=>by cases h) (λ_=>Def.c (λ_=>?_) (λh=>by cases h)))
   refine Def.c (λh=>by have:=hd.1;simp at h;rw [h] at this;simp at this) (λ_=>?_)
   refine Def.bd (xF e.Data (xG e) (λ_=>True) (λ_=>False) (by omega) (λi hi=>?_) ?_) (λy hy=>?_)
   ·unfold xG
    refine Def.c (λ_=>?_) (λh=>by have:=dF h;omega)
    refine Def.bd (Def.at' hi) (λc hc=>zIs ?_)
    have:=hd.2.2 c (by rw [hc];exact List.getElem_mem hi)
    rw [show (decide (c.toNat<32)||decide (126<c.toNat))=false by simp;omega]
    exact Def.c (λh=>by cases h) (λ_=>Def.s ⟨yB (by omega),trivial⟩)
   ·unfold xG
    exact cf (by simp) rfl
   ·cases y with
    | inl b=>exact hy.elim
    | inr u=>exact Def.s rfl
 subst hy
 have hif:(if 2<(e.Digests.length:Int) then (2:Int) else (e.Digests.length:Int))=2:=by rw [hl];rfl
 refine Def.bd (xF e.Digests (xI e true) (λ_=>True) (λ_=>False) (by omega) (λi hi=>?_) ?_) (λy hy=>?_)
 ·unfold xI
  rw [hif]
  refine Def.c (λ_=>?_) (λh=>by have:=dF h;omega)
  refine Def.bd (Def.at' hi) (λd hd=>?_)
  have hdd:d=(dgE active true e.Data).getD i []:=by rw [hd];simp only [hD];simp [show i<(dgE active true e.Data).length by rw [<- hD];exact hi]
  refine Def.bd (P:=λb=>b=false) ?_ (λb hb=>by subst hb;exact Def.c (λh=>by cases h) (λ_=>Def.s ⟨yB (by omega),trivial⟩))
  refine Def.c (λhpos=>Def.c (λh=>by cases h) (λ_=>?_)) (λ_=>Def.s rfl)
  rcases zO1 active e.Data (by omega) i (by omega) with h | h
  ·rw [<- hdd] at h;rw [h] at hpos;simp at hpos
  ·rw [<- hdd] at h
   refine Def.bd (P:=λs=>s=d) (Def.of h rfl) (λs hs=>?_)
   subst hs
   exact Def.bd (P:=λb=>b=true) (Def.of (gD s s) (by simp)) (λb hb=>Def.s (by rw [hb];rfl))
 ·unfold xI
  rw [hif,hl]
  exact cf rfl rfl
 ·cases y with
  | inl b=>exact hy.elim
  | inr u=>exact Def.s rfl
theorem zK6 (active:Int) (es:List api_Entry) (d:List UInt8) (hn:es.length<=8) (ha:adj es) (he:∀ e∈es,EnOk e) (hd:zAx d):Def (xR (jI es) (mkE 9 3 active d)) (λr=>0<=r):=by
 unfold xR
 refine Def.bd (P:=λc=>c=0) (Def.of (zB6 es hn ha he) rfl) (λc hc=>?_)
 subst hc
 refine Def.c (λh=>by cases h) (λ_=>?_)
 refine Def.bd (P:=λj=>∃ k,j=.inl k/\0<=k) ?_ (λj hj=>by obtain ⟨k,rfl,hk⟩:=hj;exact Def.s hk)
 refine Def.c (λh=>by cases h) (λ_=>Def.c (λ_=>?_) (λh=>by cases h))
 refine Def.bd (P:=λb=>b=false) ?_ (λb hb=>?_)
 ·refine Def.bd (P:=λr=>r=9) (Def.of (zIy 4 (by omega) (by omega)) rfl) (λr hr=>?_)
  subst hr
  refine Def.c (λh=>by cases h) (λ_=>?_)
  exact Def.bd (zF1 _ active (.inr ⟨rfl,hd⟩) rfl) (λb hb=>Def.s (by rw [hb];rfl))
 subst hb
 refine Def.c (λh=>by cases h) (λ_=>?_)
 refine Def.bd (P:=λk=>k=0) (Def.of rfl rfl) (λk hk=>?_)
 subst hk
 refine Def.c (λ_=>Def.s ⟨_,rfl,?_⟩) (λh=>by cases h)
 show 0<=IntKind.i64.wrap ((es.length:Int)+0)
 rw [zV (by omega) (by omega)]
 omega
end Go.Proofs.TT
namespace Go.Proofs.TT
open Go Go.Sw
set_option maxRecDepth 100000
def stp (w:match_walk) (e:api_Event):Bool×match_walk:=(wR w e).getD (false,w)
def xok (ms:List api_Manifest) (e:api_Event):Bool:=((w9 e ms).getD (⟨0,0⟩,false)).2
def run (ms:List api_Manifest):List api_Event->match_walk->Option match_walk
 | [],w=>some w
 | e :: r,w=>if ((stp w e).1&&xok ms e)=true then run ms r (stp w e).2 else none
theorem cW (ms:List api_Manifest):∀ (a b:List api_Event) (w:match_walk),run ms (a++b) w=(run ms a w).bind (run ms b)
 | [],_,_=>rfl
 | e :: r,b,w=>by
  show (if ((stp w e).1&&xok ms e)=true then run ms (r++b) (stp w e).2 else none)=(if ((stp w e).1&&xok ms e)=true then run ms r (stp w e).2 else none).bind (run ms b)
  split
  ·exact cW ms r b _
  ·rfl
theorem zG4 (l:api_Log) (ms:List api_Manifest) (w':match_walk) (hl:l.Events.length<=40) (he:∀ e∈l.Events,EvS e) (hn:ms.length<=5) (hm:∀ m∈ms,MOk m)
  (h:run ms l.Events ⟨0,0,⟨false,false,false,false,false,false⟩⟩=some w') (h4:w'.seen_.a4=true):Def (vZ l ms) (λr=>r.2.2=0):=by
 unfold vZ
 refine Def.bd (P:=λy=>match y with | .inl _=>False | .inr r=>r.2.2.2.2.2.2.2.1=true) ?_ (λy hy=>?_)
 ·refine Def.loop (λs=>∃ i:Nat,s.2.1=(i:Int)/\i<=l.Events.length/\s.1.length=i/\run ms (l.Events.drop i) ⟨s.2.2.1,s.2.2.2.1,⟨s.2.2.2.2.1,s.2.2.2.2.2.1,s.2.2.2.2.2.2.1,s.2.2.2.2.2.2.2.1,s.2.2.2.2.2.2.2.2.1,s.2.2.2.2.2.2.2.2.2⟩⟩=some w') (λs=>l.Events.length - s.2.1.toNat) (λs hs=>?_) ⟨0,rfl,by omega,rfl,h⟩ (by simp;omega)
  obtain ⟨rs,v,p,nx,s0,s1,s2,s3,s4,s5⟩:=s
  obtain ⟨i,h1,hi,hrl,hg⟩:=hs
  have h1:v=(i:Int):=h1
  subst h1
  have hrl:rs.length=i:=hrl
  have hg:run ms (l.Events.drop i) ⟨p,nx,⟨s0,s1,s2,s3,s4,s5⟩⟩=some w':=hg
  unfold kQ
  refine Def.c (λh=>?_) (λh=>Def.s ?_)
  ·have hi2:i<l.Events.length:=by have:=dT h;omega
   rw [List.drop_eq_getElem_cons hi2] at hg
   refine Def.bd (Def.at' hi2) (λe hev=>?_)
   rw [<- hev] at hg
   obtain ⟨z,hz,_⟩:=zM1 ⟨p,nx,⟨s0,s1,s2,s3,s4,s5⟩⟩ e
   obtain ⟨q,hq,_⟩:=zEu e ms hn hm (by rw [hev];exact he _ (List.getElem_mem _))
   have hsz:stp ⟨p,nx,⟨s0,s1,s2,s3,s4,s5⟩⟩ e=z:=by unfold stp;rw [hz];rfl
   have hxq:xok ms e=q.2:=by unfold xok;rw [hq];rfl
   unfold run at hg
   rw [hsz,hxq] at hg
   by_cases hc:(z.1&&q.2)=true
   ·rw [if_pos hc] at hg
    rw [Bool.and_eq_true] at hc
    refine Def.bd (P:=λr=>r=z) (Def.of hz rfl) (λr hr=>?_)
    subst hr
    refine Def.c (λh=>by rw [hc.1] at h;cases h) (λ_=>?_)
    refine Def.bd (P:=λr=>r=q) (Def.of hq rfl) (λr hr=>?_)
    subst hr
    refine Def.c (λh=>by rw [hc.2] at h;cases h) (λ_=>?_)
    refine Def.bd (Def.app (by simp;omega)) (λo ho=>Def.s ?_)
    rw [yB (by omega)]
    refine ⟨⟨i+1,rfl,by omega,by simp only [ho,List.length_append,List.length_singleton];omega,?_⟩,by simp only [Int.toNat_natCast];omega⟩
    exact hg
   ·rw [if_neg hc] at hg;cases hg
  ·have:i=l.Events.length:=by have:=dF h;omega
   rw [this,List.drop_length] at hg
   injection hg with hg
   rw [<- hg] at h4
   exact h4
 ·match y,hy with
  | .inr (rs,a1,a2,b0,b1,b2,b3,b4,b5),hy=>
   exact Def.c (λh=>by have h5:b4=true:=hy;rw [h5] at h;cases h) (λ_=>Def.s rfl)
theorem zJs (w:match_walk) (e:api_Event) (p:Int) (hp:yT e=some p) (hk:e.Kind≠5) (h15:p=1∨p=2∨p=3∨p=4∨p=5) (c1:w.phase_<=p) (c2:p=1∨w.seen_.a1=true) (c3:p=3->e.Register=w.next_) (c4:3<p->w.next_=8) (n0:0<=w.next_) (n8:w.next_<=8) :
  ∃ w',stp w e=(true,w')/\w'.phase_=p/\w'.next_=(if p=3 then w.next_+1 else w.next_)/\w'.seen_.a1=(w.seen_.a1||p==1)/\w'.seen_.a4=(w.seen_.a4||p==4):=by
 have hd:Def (wR w e) (λr=>r.1=true/\r.2.phase_=p/\r.2.next_=(if p=3 then w.next_+1 else w.next_)/\r.2.seen_.a1=(w.seen_.a1||p==1)/\r.2.seen_.a4=(w.seen_.a4||p==4)):=by
  unfold wR
  refine Def.c (λh=>absurd (by simpa using h) hk) (λ_=>?_)
  refine Def.bd (P:=λq=>q=p) (Def.of hp rfl) (λq hq=>?_)
  subst hq
  refine Def.bd (P:=λb=>b=false) ?_ (λb hb=>?_)
  ·refine Def.c (λh=>by simp at h;omega) (λ_=>Def.c (λh=>by have:=dT h;omega) (λ_=>Def.c (λh=>Def.s ?_) (λ_=>Def.s rfl)))
   have:=dT h
   rcases c2 with c2 | c2
   ·omega
   ·rw [c2];rfl
  subst hb
  refine Def.c (λh=>by cases h) (λ_=>?_)
  refine Def.bd (P:=λb=>b=false) ?_ (λb hb=>?_)
  ·refine Def.c (λh=>Def.s ?_) (λ_=>Def.s rfl)
   rw [c3 (by simpa using h)];simp
  subst hb
  refine Def.c (λh=>by cases h) (λ_=>?_)
  refine Def.bd (P:=λb=>b=false) ?_ (λb hb=>?_)
  ·refine Def.c (λh=>Def.s ?_) (λ_=>Def.s rfl)
   rw [c4 (dT h)];rfl
  subst hb
  refine Def.c (λh=>by cases h) (λ_=>?_)
  refine Def.bd (P:=λn=>n=(if q=3 then w.next_+1 else w.next_)) ?_ (λn hn=>?_)
  ·refine Def.c (λh=>Def.s ?_) (λh=>Def.s ?_)
   ·rw [if_pos (by simpa using h),zV (by omega) (by omega)]
   ·rw [if_neg (by simpa using h)]
  subst hn
  rcases h15 with rfl | rfl | rfl | rfl | rfl<;>exact ⟨_,rfl,rfl,rfl,rfl,by cases w.seen_.a1<;>rfl,by cases w.seen_.a4<;>rfl⟩
 obtain ⟨⟨b,w'⟩,h,rfl,h2⟩:=hd
 exact ⟨w',by unfold stp;rw [h];rfl,h2⟩
theorem cI (ms:List api_Manifest) (p:Int) (hp:p=1∨p=2∨p=4∨p=5):∀ (es:List api_Event) (w:match_walk),(∀ e∈es,yT e=some p/\e.Kind≠5/\xok ms e=true)->w.phase_<=p->(p=1∨w.seen_.a1=true)->(3<p->w.next_=8)->0<=w.next_->w.next_<=8 ->
  ∃ w',run ms es w=some w'/\w'.phase_<=p/\w'.next_=w.next_/\(w.seen_.a1=true∨(p=1/\es≠[])->w'.seen_.a1=true)/\(w.seen_.a4=true∨(p=4/\es≠[])->w'.seen_.a4=true)
 | [],w,_,h1,_,_,_,_=>⟨w,rfl,h1,rfl,λh=>h.resolve_right (λh=>h.2 rfl),λh=>h.resolve_right (λh=>h.2 rfl)⟩
 | e :: r,w,he,h1,h2,h3,n0,n8=>by
  obtain ⟨e1,e2,e3⟩:=he e (List.mem_cons_self ..)
  obtain ⟨w1,s1,s2,s3,s4,s5⟩:=zJs w e p e1 e2 (by omega) h1 h2 (λh=>by omega) h3 n0 n8
  rw [if_neg (by omega)] at s3
  have hs1:w1.seen_.a1=true:=by
   rw [s4]
   rcases h2 with rfl | h2
   ·simp
   ·rw [h2];rfl
  obtain ⟨w',r1,r2,r3,r4,r5⟩:=cI ms p hp r w1 (λx hx=>he x (List.mem_cons_of_mem _ hx)) (by omega) (.inr hs1) (λh=>by rw [s3];exact h3 h) (by omega) (by omega)
  refine ⟨w',?_,r2,by rw [r3,s3],λ_=>r4 (.inl hs1),λh=>r5 (.inl ?_)⟩
  ·show (if ((stp w e).1&&xok ms e)=true then run ms r (stp w e).2 else none)=_
   rw [s1,e3]
   exact r1
  ·rw [s5]
   rcases h with h | ⟨rfl,_⟩
   ·rw [h];rfl
   ·simp
theorem zI2 (ms:List api_Manifest) (active:Int) (hx:∀ i:Nat,i<8->xok ms (mkE (i:Int) 2 active [0,0,0,0])=true):∀ (n k:Nat) (w:match_walk),k+n=8->w.next_=(k:Int)->w.phase_<=3->w.seen_.a1=true ->
  ∃ w',run ms ((List.range' k n).map λ(i:Nat)=>mkE (i:Int) 2 active [0,0,0,0]) w=some w'/\w'.phase_<=3/\w'.next_=8/\w'.seen_.a1=true
 | 0,k,w,hk,hn,hp,hs=>⟨w,rfl,hp,by omega,hs⟩
 | n+1,k,w,hk,hn,hp,hs=>by
  have hph:yT (mkE (k:Int) 2 active [0,0,0,0])=some 3:=by
   unfold yT mkE
   refine bd (a:=false) rfl ?_
   refine cf rfl ?_
   refine bd (a:=false) rfl ?_
   refine cf rfl ?_
   refine bd (a:=true) (ct rfl (ct (by simp) (congrArg some (by simp;omega)))) ?_
   rfl
  obtain ⟨w1,s1,s2,s3,s4,s5⟩:=zJs w (mkE (k:Int) 2 active [0,0,0,0]) 3 hph (by show (2:Int)≠5;omega) (by omega) hp (.inr hs) (λ_=>hn.symm) (λh=>by omega) (by omega) (by omega)
  rw [if_pos rfl] at s3
  obtain ⟨w',r1,r2⟩:=zI2 ms active hx n (k+1) w1 (by omega) (by omega) (by omega) (by rw [s4,hs];rfl)
  refine ⟨w',?_,r2⟩
  rw [List.range'_succ,List.map_cons]
  show (if ((stp w (mkE (k:Int) 2 active [0,0,0,0])).1&&xok ms (mkE (k:Int) 2 active [0,0,0,0]))=true then run ms _ (stp w (mkE (k:Int) 2 active [0,0,0,0])).2 else none)=_
  rw [s1,hx k (by omega)]
  exact r1
theorem zN1 {ms:List api_Manifest} {e:api_Event} (h:Def (w9 e ms) (λr=>r.2=true)):xok ms e=true:=by
 obtain ⟨r,h1,h2⟩:=h
 unfold xok
 rw [h1]
 exact h2
theorem zG8 {m:api_Manifest} {e:api_Event} (hk:e.Kind=1∨e.Kind=3) (h:Def (xR m e) (λr=>0<=r)):xok [m] e=true:=by
 refine zN1 ?_
 unfold w9
 refine Def.bd (P:=λb=>b=false) ?_ (λb hb=>?_)
 ·refine Def.c (λh=>by simp at h;omega) (λ_=>Def.c (λh=>by simp at h;omega) (λ_=>Def.s rfl))
 subst hb
 refine Def.c (λh=>by cases h) (λ_=>?_)
 refine Def.bd (xF [m] (x8 e [m]) (λ_=>False) (λr=>r.2=true) (by simp) (λi hi=>?_) ?_) (λy hy=>?_)
 ·unfold x8
  have hi0:i=0:=by simpa using hi
  subst hi0
  refine Def.c (λ_=>?_) (λh=>by have:=dF h;simp at this)
  refine Def.bd (P:=λx=>x=m) (Def.s rfl) (λx hx=>?_)
  subst hx
  refine Def.bd h (λq hq=>?_)
  exact Def.c (λ_=>Def.s rfl) (λh=>by have:=dF h;omega)
 ·unfold x8
  exact cf (by simp) rfl
 ·cases y with
  | inl r=>exact Def.s hy
  | inr u=>exact (hy 0 (by simp)).elim
theorem zO0 (ms:List api_Manifest) (active:Int) (i:Int):xok ms (mkE i 2 active [0,0,0,0])=true:=by
 refine zN1 ?_
 unfold w9
 refine Def.bd (P:=λb=>b=true) ?_ (λb hb=>?_)
 ·refine Def.c (λ_=>Def.s rfl) (λ_=>Def.c (λ_=>?_) (λh=>by cases h))
  exact Def.bd (zF1 _ active (.inl ⟨rfl,rfl⟩) rfl) (λb hb=>Def.s hb)
 subst hb
 exact Def.c (λ_=>Def.s rfl) (λh=>by cases h)
theorem zLy (active:Int) (x:api_Image):(x.Role=1->yT (imE active x)=some 1)/\(x.Role=2->yT (imE active x)=some 2)/\(x.Role=3->yT (imE active x)=some 4):=by
 unfold imE
 refine ⟨λh=>?_,λh=>?_,λh=>?_⟩<;>rw [h]<;>rfl
theorem zK8 (l:List api_Image) (active:Int) (m:List api_Entry) (hc:GoodCh l) (hn:m.length<=8) (hm:DsOk l m) (hb:yD active 1=true):∃ w',run [jI m] (evs l active) ⟨0,0,⟨false,false,false,false,false,false⟩⟩=some w'/\w'.seen_.a4=true:=by
 have him:∀ (role p:Int),role≠4->(∀ x:api_Image,x.Role=role->yT (imE active x)=some p)->∀ e∈evR active role l,yT e=some p/\e.Kind≠5/\xok [jI m] e=true:=by
  intro role p h4 hp e he
  obtain ⟨x,hx,hr,⟨h,_⟩ | ⟨_,rfl⟩⟩:=zEi he
  ·exact absurd h h4
  ·exact ⟨hp x hr,by show (1:Int)≠5;omega,zG8 (.inl rfl) (zOt active m x hn hm.a hm.e (hm.i x hx (by omega)) (hc.im x hx) (by omega) hb)⟩
 have hne:∀ role:Int,role≠4->(∃ x∈l,x.Role=role)->evR active role l≠[]:=by
  intro role h4 ⟨x,hx,hr⟩ h
  have:imE active x∈evR active role l:=by
   unfold evR
   refine List.mem_flatMap.2 ⟨x,hx,?_⟩
   rw [if_pos hr,if_neg h4]
   exact List.mem_singleton.2 rfl
  rw [h] at this
  cases this
 have hln:∀ e∈evR active 4 l,yT e=some 5/\e.Kind≠5/\xok [jI m] e=true:=by
  intro e he
  obtain ⟨x,hx,hr,⟨_,d,hd,rfl⟩ | ⟨h,_⟩⟩:=zEi he
  ·exact ⟨rfl,by show (3:Int)≠5;omega,zG8 (.inr rfl) (zK6 active m d hn hm.a hm.e ((zEt x (hc.im x hx) hr).2.2 d hd))⟩
  ·exact absurd rfl h
 obtain ⟨w1,a1,a2,a3,a4,a5⟩:=cI [jI m] 1 (by omega) (evR active 1 l) ⟨0,0,⟨false,false,false,false,false,false⟩⟩ (him 1 1 (by omega) (λx=>(zLy active x).1)) (by show (0:Int)<=1;omega) (.inl rfl) (λh=>by omega) (by show (0:Int)<=0;omega) (by show (0:Int)<=8;omega)
 have s1:=a4 (.inr ⟨rfl,hne 1 (by omega) hc.h1⟩)
 have n1:w1.next_=0:=a3
 obtain ⟨w2,b1,b2,b3,b4,b5⟩:=cI [jI m] 2 (by omega) (evR active 2 l) w1 (him 2 2 (by omega) (λx=>(zLy active x).2.1)) (by omega) (.inr s1) (λh=>by omega) (by omega) (by omega)
 have s2:=b4 (.inl s1)
 obtain ⟨w3,c1,c2,c3,c4⟩:=zI2 [jI m] active (λi _=>zO0 _ active i) 8 0 w2 (by omega) (by rw [b3,n1];rfl) (by omega) s2
 obtain ⟨w4,d1,d2,d3,d4,d5⟩:=cI [jI m] 4 (by omega) (evR active 3 l) w3 (him 3 4 (by omega) (λx=>(zLy active x).2.2)) (by omega) (.inr c4) (λ_=>c3) (by omega) (by omega)
 have s4:=d4 (.inl c4)
 have k4:=d5 (.inr ⟨rfl,hne 3 (by omega) hc.h3⟩)
 obtain ⟨w5,e1,e2,e3,e4,e5⟩:=cI [jI m] 5 (by omega) (evR active 4 l) w4 hln (by omega) (.inr s4) (λ_=>by rw [d3,c3]) (by omega) (by omega)
 refine ⟨w5,?_,e5 (.inl k4)⟩
 unfold evs
 have hsep:hX active=(List.range' 0 8).map λ(i:Nat)=>mkE (i:Int) 2 active [0,0,0,0]:=by
  unfold hX
  rw [List.range_eq_range']
 rw [cW,cW,cW,a1,Option.bind_some,b1,Option.bind_some,cW,hsep,c1,Option.bind_some,d1,Option.bind_some,e1]
end Go.Proofs.TT
namespace Go.Proofs.TT
open Go Go.Sw
set_option maxRecDepth 100000
theorem zFb (x:api_Evidence) (e:api_Enrolled) (a:api_Attest) (l:api_Log) (hp:x.Log=xU l) (h:LgF l) (hac:e.Active=l.Active) (hs:a.Selection=⟨xA l.Active 0,xA l.Active 1⟩) (hd:a.Digest=dgs l.Active (rpl l.Active l.Events)) (hb:yD l.Active 1=true) :
  Def (wD x e a) (λr=>(l.Resets=a.Resets/\a.Restarts=0->r=(l,0))/\(¬ (l.Resets=a.Resets/\a.Restarts=0)->r.2=12)):=by
 have a1:=h.a1
 have a3:=h.a3
 unfold wD
 refine Def.bd (P:=λs=>s=a.Selection) (Def.of (zNr e.Active (by omega) (by omega)) (by rw [hac,hs])) (λs hs'=>?_)
 subst hs'
 refine Def.c (λh=>by simp at h) (λ_=>?_)
 refine Def.bd (P:=λr=>r=(l,0)) (Def.of (by rw [hp];exact zK0 l h) rfl) (λr hr=>?_)
 subst hr
 refine Def.c (λh=>by cases h) (λ_=>?_)
 refine Def.bd (P:=λb=>b=false) ?_ (λb hbb=>?_)
 ·refine Def.c (λh=>by simp at h;omega) (λ_=>Def.s ?_)
  have:yP .i64 (zW .i64 l.Active 1) 1=1:=by
   have e:IntKind.u64.wrap 1=1:=by decide
   unfold yD at hb
   rw [e] at hb
   simpa using hb
  rw [this];rfl
 subst hbb
 refine Def.c (λh=>by cases h) (λ_=>?_)
 refine Def.bd (P:=λb=>b=true↔¬ (l.Resets=a.Resets/\a.Restarts=0)) ?_ (λb hbb=>?_)
 ·refine Def.c (λh=>Def.s ⟨λ_ h2=>?_,λ_=>rfl⟩) (λh=>Def.s ?_)
  ·rw [h2.1] at h;simp at h
  ·have h':l.Resets=a.Resets:=by simpa using h
   rw [bne_iff_ne]
   exact ⟨λh1 h2=>h1 h2.2,λh1 h2=>h1 ⟨h',h2⟩⟩
 refine Def.c (λh=>Def.s ⟨λh2=>absurd h2 (hbb.1 h),λ_=>rfl⟩) (λhbf=>?_)
 have hok:l.Resets=a.Resets/\a.Restarts=0:=by
  by_cases hc:l.Resets=a.Resets/\a.Restarts=0
  ·exact hc
  ·rw [hbb.2 hc] at hbf;cases hbf
 refine Def.bd (P:=λr=>r=(a.Digest,0)) (Def.of (by rw [hs];exact zFq l h.toLgGood a1 a3) (by rw [hd])) (λr hr=>?_)
 subst hr
 refine Def.c (λh=>by cases h) (λ_=>?_)
 refine Def.bd (P:=λb=>b=true) (Def.of (gD _ _) (by simp)) (λb hb=>?_)
 subst hb
 exact Def.c (λh=>by cases h) (λ_=>Def.s ⟨λ_=>rfl,λh=>absurd hok h⟩)
theorem zJk (x:api_Evidence) (keys:List api_Public) (n:List UInt8) (a:api_Attest) (h:qf x.Attest x.Signature keys 17=(some a,0)):qt x keys n=if a.Nonce=nnc n x.Machine x.Log then (a,0) else (oA,45):=by
 unfold qt
 rw [h]
theorem zEd (x:api_Evidence) (e:api_Enrolled) (n:List UInt8) (ms:List api_Manifest) (a:api_Attest) (hm:x.Machine=e.Machine) (hx:EvOk x e.Quoting n) (hq:qf x.Attest x.Signature e.Quoting 17=(some a,0)) (hn:a.Nonce≠nnc n x.Machine x.Log):Def (zU x e n ms) (λv=>v.Err=45):=by
 unfold zU
 refine Def.c (λh=>by rw [hm] at h;simp at h) (λ_=>?_)
 refine Def.bd (P:=λr=>r=(oA,45)) (Def.of (kK x e.Quoting n hx) (by rw [zJk _ _ _ _ hq,if_neg hn])) (λr hr=>?_)
 subst hr
 exact Def.c (λ_=>Def.s rfl) (λh=>by cases h)
theorem zOg (im:List api_Image) (m:List api_Entry) (l:api_Log) (x:api_Evidence) (e:api_Enrolled) (n:List UInt8) (a:api_Attest) (hc:GoodCh im) (hmn:m.length<=8) (hmd:DsOk im m) (hev:l.Events=evs im l.Active)
  (hm:x.Machine=e.Machine) (hx:EvOk x e.Quoting n) (hq:qf x.Attest x.Signature e.Quoting 17=(some a,0)) (hn:a.Nonce=nnc n x.Machine x.Log) (hp:x.Log=xU l) (h:LgF l) (hac:e.Active=l.Active)
  (hs:a.Selection=⟨xA l.Active 0,xA l.Active 1⟩) (hd:a.Digest=dgs l.Active (rpl l.Active l.Events)) (hb:yD l.Active 1=true) :
  Def (zU x e n [jI m]) (λv=>(l.Resets=a.Resets/\a.Restarts=0->v.Err=0)/\(¬ (l.Resets=a.Resets/\a.Restarts=0)->v.Err=12)):=by
 unfold zU
 refine Def.c (λh=>by rw [hm] at h;simp at h) (λ_=>?_)
 refine Def.bd (P:=λr=>r=(a,0)) (Def.of (kK x e.Quoting n hx) (by rw [zJk _ _ _ _ hq,if_pos hn])) (λr hr=>?_)
 subst hr
 refine Def.c (λh=>by cases h) (λ_=>?_)
 refine Def.bd (zFb x e a l hp h hac hs hd hb) (λr hr=>?_)
 by_cases hok:l.Resets=a.Resets/\a.Restarts=0
 ·have hr':=hr.1 hok
  subst hr'
  refine Def.c (λh=>by cases h) (λ_=>?_)
  obtain ⟨w',hw,hk⟩:=zK8 im l.Active m hc hmn hmd hb
  rw [<- hev] at hw
  refine Def.bd (zG4 l [jI m] w' h.n (λev he=>(h.ev ev he).toEvGood.s) (by simp) (λq hq=>by rw [List.mem_singleton.1 hq];exact zO5 m) hw hk) (λr hr=>?_)
  obtain ⟨rs,at',er⟩:=r
  have hr:er=0:=hr
  subst hr
  exact Def.c (λh=>by cases h) (λ_=>Def.s ⟨λ_=>rfl,λh=>absurd hok h⟩)
 ·have hr':=hr.2 hok
  refine Def.c (λ_=>Def.s ⟨λh=>absurd h hok,λ_=>hr'⟩) (λh=>by rw [hr'] at h;cases h)
theorem zIa (n:Int):Def (lY n) (λr=>(r=2∨r=3)):=by
 unfold lY
 refine Def.bd (zBj n 2 (by decide) (by decide)) (λk hk=>Def.s ?_)
 rw [zV (by omega) (by omega)]
 omega
theorem zLa {a:Int} (h:a=2∨a=3):yD a 1=true:=by
 rcases h with rfl | rfl<;>decide +kernel
theorem zQc (b:List UInt8):Def (kI b 40) (λr=>r.length<2 ^ 20):=(zO7 b 40 (by decide) (by decide)).mono λ_ h=>h.2
theorem zHt (hw:o9=some true) (chain:List UInt8) (active machine at':Int) (by':UInt8) (cut:Int) (nonce other:List UInt8):wL chain active machine at' by' cut nonce other=some true:=by
 have hd:Def (wL chain active machine at' by' cut nonce other) (λr=>r=true):=by
  unfold wL
  refine Def.bd (P:=λb=>b=true) (Def.of hw rfl) (λb hb=>?_)
  subst hb
  refine Def.c (λh=>by cases h) (λ_=>?_)
  refine Def.bd (zBj machine 4 (by decide) (by decide)) (λmm _=>?_)
  generalize IntKind.i64.wrap (1+mm)=M
  refine Def.bd (zK3 chain) (λim him=>?_)
  refine Def.bd (zIa active) (λac hac=>?_)
  refine Def.bd (zQc nonce) (λn hn=>?_)
  refine Def.bd (zQc other) (λo ho=>?_)
  refine Def.bd (zFe [118] 1 im him) (λmd hmd=>?_)
  obtain ⟨hmd1,hmd2,hmd3⟩:=hmd
  refine Def.bd (zRn M ac) (λen hen=>?_)
  obtain ⟨en1,en2,en3⟩:=hen
  refine Def.bd (P:=λev=>ev=evs im ac) (Def.of (zKd im ac him (by omega) (by omega)) rfl) (λev hev=>?_)
  subst hev
  have hL:=zJ7 (active:=ac) (l:=im) 3 (by omega) (by omega) him (by omega) (by omega)
  have hlen:=hR _ hL.toLgGood
  generalize hl:(⟨ac,3,evs im ac⟩:api_Log)=l at *
  have hla:l.Active=ac:=by rw [<- hl]
  have hle:l.Events=evs im l.Active:=by rw [<- hl]
  have hlr:l.Resets=3:=by rw [<- hl]
  generalize hk:IntKind.i64.wrap (2*M)=K at *
  have hQ:QaOk (hq l M K n):=zWj l M K n hL l.Resets 0 (by omega) (by omega) (by omega) (by omega)
  refine Def.bd (P:=λx=>x=zLq l M K 0 (hq l M K n)) (Def.of (bd (zW6 l M _ n hL (by omega)) (bd (zQi l M _ 0 _ hL (by omega) (by rw [hk];exact hQ)) rfl)) (by rw [hk])) (λx hx=>?_)
  have xm:x.Machine=M:=by rw [hx];rfl
  have xl:x.Log=xU l:=by rw [hx];rfl
  have xq:∀ r e,qf x.Attest x.Signature (kq K :: r) e=(some (hq l M K n),0):=λr e=>by rw [hx];exact zSr _ _ _ _ _ (by omega) hQ rfl _ _
  have xok:∀ (k2:Int) (n':List UInt8),n'.length<2 ^ 30->EvOk x [kq K,kq k2] n':=λk2 n' h=>by rw [hx];exact zTk _ _ _ _ _ hL.toLgGood hQ _ _ h
  clear hx
  have hman:(⟨md.Vendor,md.Version,md.Floor,md.From,md.Until,md.Entries,[⟨1,[],0,0⟩]⟩:api_Manifest)=jI md.Entries:=by
   rw [hmd1];rfl
  rw [hman]
  refine Def.bd (P:=λb=>b=false) ?_ (λb hb=>?_)
  ·refine Def.bd (zOg im md.Entries l x _ n (hq l M K n) him hmd2 hmd3 hle ?_ ?_ ?_ (by rw [xm,xl];rfl) xl hL ?_ rfl rfl (by rw [hla];exact zLa hac)) (λv hv=>?_)
   ·show x.Machine=en.Machine
    rw [xm,en1]
   ·show EvOk _ en.Quoting _
    rw [en3]
    exact xok _ _ (by omega)
   ·show qf _ _ en.Quoting 17=_
    rw [en3]
    exact xq _ _
   ·show en.Active=l.Active
    rw [en2,hla]
   have hv0:v.Err=0:=hv.1 ⟨rfl,rfl⟩
   refine Def.c (λh=>by rw [hv0] at h;cases h) (λ_=>Def.s ?_)
   rw [xl,beq_eq_false_iff_ne]
   omega
  subst hb
  refine Def.c (λh=>by cases h) (λ_=>?_)
  refine Def.bd (Def.app (by rw [xl];simp;omega)) (λlg hlg=>?_)
  rw [List.nil_append,xl] at hlg
  have hll:lg.length=(xU l).length:=by rw [hlg]
  refine Def.bd (P:=λy=>y.length<=5531) ?_ (λy hy=>?_)
  ·refine Def.c (λ_=>?_) (λ_=>?_)
   ·refine Def.bd (zBj _ _ (by omega) (by omega)) (λk hk=>?_)
    refine Def.bd (Def.sub (by decide) hk.1 (by omega)) (λz hz=>Def.s ?_)
    rw [hz,List.length_take];simp only [Int.toNat_zero,List.drop_zero];omega
   ·refine Def.bd (zBj _ _ (by omega) (by omega)) (λk hk=>?_)
    refine Def.bd (Def.ixN hk.1 (by omega)) (λj hj=>?_)
    refine Def.bd (Def.at hj.2) (λc _=>?_)
    refine Def.c (λ_=>?_) (λ_=>?_)
    ·refine Def.bd (Def.ixN hk.1 (by omega)) (λj hj=>?_)
     exact Def.bd (Def.upd hj.2) (λz hz=>Def.s (by rw [hz,List.length_set];omega))
    ·refine Def.bd (Def.ixN hk.1 (by omega)) (λj hj=>?_)
     refine Def.bd (Def.at hj.2) (λc _=>?_)
     refine Def.bd (Def.ixN hk.1 (by omega)) (λj hj=>?_)
     exact Def.bd (Def.upd hj.2) (λz hz=>Def.s (by rw [hz,List.length_set];omega))
  refine Def.bd (P:=λr=>r=nnc n M x.Log) (Def.of (mF _ _ _ (by omega) (by rw [xl];omega)) rfl) (λr1 hr1=>?_)
  refine Def.bd (P:=λr=>r=nnc n M y) (Def.of (mF _ _ _ (by omega) (by omega)) rfl) (λr2 hr2=>?_)
  have nl:∀ (n':List UInt8) (lg':List UInt8),(nnc n' M lg').length<2 ^ 40:=λn' lg'=>by unfold nnc;rw [dS];decide
  refine Def.bd (P:=λb=>b=(r1==r2)) (Def.of (zGp r1 r2 (by rw [hr1];exact nl _ _)) rfl) (λb hb=>?_)
  refine Def.c (λ_=>Def.s rfl) (λhbf=>?_)
  have hne:nnc n M x.Log≠nnc n M y:=by
   rw [hbf,hr1,hr2] at hb
   exact λh=>by rw [h] at hb;simp at hb
  refine Def.bd (P:=λv=>v.Err=45) ?_ (λv hv=>?_)
  ·refine zEd _ _ _ _ (hq l M K n) ?_ ?_ ?_ ?_
   ·show x.Machine=en.Machine
    rw [xm,en1]
   ·show EvOk _ en.Quoting _
    rw [en3]
    have:=xok (IntKind.i64.wrap (K+1)) n (by omega)
    exact ⟨this.b,this.s,by show y.length<_;omega,this.n,this.kl,this.k⟩
   ·show qf x.Attest x.Signature en.Quoting 17=_
    rw [en3]
    exact xq _ _
   ·show nnc n M (xU l)≠nnc n x.Machine y
    rw [xm,<- xl]
    exact hne
  refine Def.c (λh=>by rw [hv] at h;cases h) (λ_=>?_)
  refine Def.bd (P:=λr=>r=nnc n M x.Log) (Def.of (mF _ _ _ (by omega) (by rw [xl];omega)) rfl) (λr3 hr3=>?_)
  refine Def.bd (P:=λr=>r=nnc o M x.Log) (Def.of (mF _ _ _ (by omega) (by rw [xl];omega)) rfl) (λr4 hr4=>?_)
  refine Def.bd (P:=λb=>b=(r3==r4)) (Def.of (zGp r3 r4 (by rw [hr3];exact nl _ _)) rfl) (λb hb=>?_)
  refine Def.c (λ_=>Def.s rfl) (λhbf=>?_)
  have hne2:nnc n M x.Log≠nnc o M x.Log:=by
   rw [hbf,hr3,hr4] at hb
   exact λh=>by rw [h] at hb;simp at hb
  refine Def.bd (P:=λv=>v.Err=45) ?_ (λv hv=>Def.s (by rw [hv];rfl))
  refine zEd _ _ _ _ (hq l M K n) ?_ ?_ ?_ ?_
  ·show x.Machine=en.Machine
   rw [xm,en1]
  ·show EvOk _ en.Quoting _
   rw [en3]
   exact xok _ _ (by omega)
  ·show qf x.Attest x.Signature en.Quoting 17=_
   rw [en3]
   exact xq _ _
  ·show nnc n M (xU l)≠nnc o x.Machine x.Log
   rw [xm,<- xl]
   exact hne2
 obtain ⟨r,e,rfl⟩:=hd
 exact e
end Go.Proofs.TT
namespace Go.Proofs.TT
open Go Go.Sw
set_option maxRecDepth 100000
def imgs:List api_Image:=[api_Image.mk 1 ([102]:List UInt8) 0 [],api_Image.mk 3 ([107]:List UInt8) 0 []]
def EVS:List api_Event:=[⟨0,1,[[],[211,177,79,226,54,204,147,174,61,228,238,4,167,67,79,4,75,48,122,2,57,203,128,14,59,202,123,49,246,110,67,158]],[102,32,48]⟩,
 ⟨0,2,[[],[223,63,97,152,4,169,47,219,64,87,25,45,196,61,215,72,234,119,138,220,82,188,73,140,232,5,36,192,20,184,17,25]],[0,0,0,0]⟩,
 ⟨1,2,[[],[223,63,97,152,4,169,47,219,64,87,25,45,196,61,215,72,234,119,138,220,82,188,73,140,232,5,36,192,20,184,17,25]],[0,0,0,0]⟩,
 ⟨2,2,[[],[223,63,97,152,4,169,47,219,64,87,25,45,196,61,215,72,234,119,138,220,82,188,73,140,232,5,36,192,20,184,17,25]],[0,0,0,0]⟩,
 ⟨3,2,[[],[223,63,97,152,4,169,47,219,64,87,25,45,196,61,215,72,234,119,138,220,82,188,73,140,232,5,36,192,20,184,17,25]],[0,0,0,0]⟩,
 ⟨4,2,[[],[223,63,97,152,4,169,47,219,64,87,25,45,196,61,215,72,234,119,138,220,82,188,73,140,232,5,36,192,20,184,17,25]],[0,0,0,0]⟩,
 ⟨5,2,[[],[223,63,97,152,4,169,47,219,64,87,25,45,196,61,215,72,234,119,138,220,82,188,73,140,232,5,36,192,20,184,17,25]],[0,0,0,0]⟩,
 ⟨6,2,[[],[223,63,97,152,4,169,47,219,64,87,25,45,196,61,215,72,234,119,138,220,82,188,73,140,232,5,36,192,20,184,17,25]],[0,0,0,0]⟩,
 ⟨7,2,[[],[223,63,97,152,4,169,47,219,64,87,25,45,196,61,215,72,234,119,138,220,82,188,73,140,232,5,36,192,20,184,17,25]],[0,0,0,0]⟩,
 ⟨8,1,[[],[4,112,127,2,184,245,98,45,100,85,58,34,70,111,198,201,250,24,60,234,60,72,73,122,62,127,169,182,2,31,99,126]],[107,32,48]⟩]
def MAN:api_Manifest:=⟨[118],1,0,0,1099511627776,[⟨1,[102],0,[211,177,79,226,54,204,147,174,61,228,238,4,167,67,79,4,75,48,122,2,57,203,128,14,59,202,123,49,246,110,67,158]⟩,⟨3,[107],0,[4,112,127,2,184,245,98,45,100,85,58,34,70,111,198,201,250,24,60,234,60,72,73,122,62,127,169,182,2,31,99,126]⟩],[]⟩
def zHy:List UInt8:=[83,87,76,49,2,0,0,0,0,0,1,0,43,0,1,0,0,0,32,211,177,79,226,54,204,147,174,61,228,238,4,167,67,79,4,75,48,122,2,57,203,128,14,59,202,123,49,246,110,67,158,0,3,102,32,48,0,44,0,2,0,0,0,32,223,63,97,152,4,169,47,219,64,87,25,45,196,61,215,72,234,119,138,220,82,188,73,140,232,5,36,192,20,184,17,25,0,4,0,0,0,0,0,44,1,2,0,0,0,32,223,63,97,152,4,169,47,219,64,87,25,45,196,61,215,72,234,119,138,220,82,188,73,140,232,5,36,192,20,184,17,25,0,4,0,0,0,0,0,44,2,2,0,0,0,32,223,63,97,152,4,169,47,219,64,87,25,45,196,61,215,72,234,119,138,220,82,188,73,140,232,5,36,192,20,184,17,25,0,4,0,0,0,0,0,44,3,2,0,0,0,32,223,63,97,152,4,169,47,219,64,87,25,45,196,61,215,72,234,119,138,220,82,188,73,140,232,5,36,192,20,184,17,25,0,4,0,0,0,0,0,44,4,2,0,0,0,32,223,63,97,152,4,169,47,219,64,87,25,45,196,61,215,72,234,119,138,220,82,188,73,140,232,5,36,192,20,184,17,25,0,4,0,0,0,0,0,44,5,2,0,0,0,32,223,63,97,152,4,169,47,219,64,87,25,45,196,61,215,72,234,119,138,220,82,188,73,140,232,5,36,192,20,184,17,25,0,4,0,0,0,0,0,44,6,2,0,0,0,32,223,63,97,152,4,169,47,219,64,87,25,45,196,61,215,72,234,119,138,220,82,188,73,140,232,5,36,192,20,184,17,25,0,4,0,0,0,0,0,44,7,2,0,0,0,32,223,63,97,152,4,169,47,219,64,87,25,45,196,61,215,72,234,119,138,220,82,188,73,140,232,5,36,192,20,184,17,25,0,4,0,0,0,0,0,43,8,1,0,0,0,32,4,112,127,2,184,245,98,45,100,85,58,34,70,111,198,201,250,24,60,234,60,72,73,122,62,127,169,182,2,31,99,126,0,3,107,32,48]
def DG:List UInt8:=[107,24,16,72,110,26,24,42,233,226,179,161,104,68,80,217,233,164,128,62,21,161,146,123,57,66,240,165,96,204,39,14]
def N1:List UInt8:=[140,181,205,201,129,106,124,62,142,219,165,218,199,100,206,206,254,73,226,85,181,60,190,81,208,251,183,65,83,101,193,19]
def N2:List UInt8:=[117,120,106,21,132,68,244,210,198,122,150,64,213,173,103,209,198,231,127,216,186,17,22,121,0,70,203,147,87,7,205,26]
theorem zXh:sD imgs 2=some EVS:=by decide +kernel
theorem zQ8:uG [118] 1 imgs=some MAN:=by decide +kernel
theorem zMq:uU ⟨2,1,EVS⟩=some (zHy,0):=by decide +kernel
theorem zNz:tQ zHy=some (⟨2,1,EVS⟩,0):=by decide +kernel
theorem zQ2:vZ ⟨2,1,EVS⟩ []=some ([],0,47):=by decide +kernel
theorem zVw:(vZ ⟨2,1,EVS⟩ [MAN]).map (λr=>(r.1.length,r.2.2))=some (10,0):=by decide +kernel
end Go.Proofs.TT
namespace Go.Proofs.TT
open Go Go.Sw
set_option maxRecDepth 100000
theorem zP1:nnc [110] 2 zHy=N1:=by decide +kernel
theorem zXr:nnc [109] 2 zHy=N2:=by decide +kernel
theorem zVy:vH ⟨2,1,EVS⟩ ⟨0,4095⟩=some (DG,0):=by decide +kernel
theorem zXk:s8 ⟨2,1,EVS⟩ ⟨0,4095⟩=some (DG,0):=by decide +kernel
end Go.Proofs.TT
namespace Go.Proofs.TT
open Go Go.Sw
set_option maxRecDepth 100000
def qa (K:List UInt8):api_Attest:=⟨K,N1,1,0,17,false,10,⟨0,4095⟩,DG⟩
def qb (K:List UInt8):List UInt8:=qbA (qa K)
theorem zQz (K:List UInt8) (h:K.length=32):QaOk (qa K):=⟨h,rfl,rfl,rfl,(by show (0:Int)<=1/\(1:Int)<2 ^ 62;decide),(by show (0:Int)<=0/\(0:Int)<2 ^ 62;decide),(by show (0:Int)<=17/\(17:Int)<2 ^ 62;decide),(by show (0:Int)<=10/\(10:Int)<2 ^ 62;decide),(by show (0:Int)<=0/\(0:Int)<=65535;decide),(by show (0:Int)<=4095/\(4095:Int)<=65535;decide)⟩
theorem qdec (K:List UInt8) (h:K.length=32):att (qb K)=(qa K,0):=zP6 _ (zQz K h)
theorem qenc (K:List UInt8) (h:K.length=32):pQ (qa K)=some (qb K):=zPr _ (zQz K h)
end Go.Proofs.TT
namespace Go.Proofs.TT
open Go Go.Sw
set_option maxRecDepth 100000
def enr:api_Enrolled:=⟨2,2,[kq 4,kq 5],⟨[],sha [112,u8 2],[]⟩,⟨1,3,0,[],List.replicate 32 0⟩⟩
theorem zGn:uA 2 2=some enr:=by
 unfold uA
 refine bd (oI 4) ?_
 refine bd (oI 5) ?_
 refine bd (fW _ (by simp)) ?_
 refine bd (a:=32) rfl ?_
 refine bd (ckT rfl) ?_
 refine bd (ckT rfl) ?_
 rfl
def KN:List UInt8:=nm (kq 4)
theorem zEx:KN.length=32:=dS _ _
def evd:api_Evidence:=⟨2,qb KN,gN (sha [113,u8 4]) 0 (qb KN),zHy⟩
theorem wQ:oG ⟨2,1,EVS⟩ 2 4 [110]=some (qa KN):=by
 unfold oG
 refine bd zMq ?_
 refine bd sel2 ?_
 refine bd zVy ?_
 refine bd (a:=DG) (cf rfl rfl) ?_
 refine bd (oI 4) ?_
 refine bd (zAu (kq 4)) ?_
 refine bd ((mF [110] 2 zHy (by decide) (by decide)).trans (congrArg some zP1)) ?_
 rfl
theorem zL3 (K:List UInt8) (h:K.length=32):(qb K).length=141:=zEr _ (zQz K h)
theorem wE:tC ⟨2,1,EVS⟩ 2 4 0 (qa KN)=some evd:=by
 unfold tC
 refine bd zMq ?_
 refine bd (qenc KN zEx) ?_
 refine bd (aZ 4) ?_
 have hq:=zL3 KN zEx
 refine bd (a:=gN (sha [113,u8 4]) 0 (qb KN)) ?_ rfl
 rw [show yP .i64 0 1=((0:Nat):Int) from rfl]
 exact zD3 _ 0 _ (by rw [sJ];decide) (by omega) (by omega)
theorem wG:jE ⟨2,1,EVS⟩ 2 [110]=some evd:=by
 unfold jE
 rw [show IntKind.i64.wrap (2*2)=4 from rfl]
 refine bd wQ ?_
 exact bd wE rfl
theorem wV:vq (kq 4) (qb KN) (gN (sha [113,u8 4]) 0 (qb KN))=(qa KN,0,0):=zP7 4 0 (qb KN) (qa KN) (by omega) (qdec KN zEx) rfl
theorem wqf (r:List api_Public):qf evd.Attest evd.Signature (kq 4 :: r) 17=(some (qa KN),0):=by
 show qf (qb KN) (gN (sha [113,u8 4]) 0 (qb KN)) (kq 4 :: r) 17=_
 unfold qf
 rw [wV]
 rfl
theorem zQ4 (n:List UInt8) (hn:n.length<2 ^ 30):EvOk evd [kq 4,kq 5] n:=by
 refine ⟨?_,?_,by decide,hn,by decide,λp hp=>?_⟩
 ·show (qb KN).length<_
  rw [zL3 KN zEx];decide
 ·show (gN (sha [113,u8 4]) 0 (qb KN)).length<_
  rw [zGz _ _ _ (by rw [sJ];decide)];decide
 ·simp only [List.mem_cons,List.not_mem_nil,or_false] at hp
  rcases hp with rfl | rfl
  ·show (zEw _).length<_
   rw [fB];decide
  ·show (zEw _).length<_
   rw [fB];decide
theorem zQ0 (x:api_Evidence) (keys:List api_Public) (n:List UInt8) (a:api_Attest) (h:qf x.Attest x.Signature keys 17=(some a,0)) (hn:a.Nonce=nnc n x.Machine x.Log):qt x keys n=(a,0):=by
 unfold qt
 rw [h]
 exact if_pos hn
theorem zVe (x:api_Evidence) (keys:List api_Public) (n:List UInt8) (a:api_Attest) (h:qf x.Attest x.Signature keys 17=(some a,0)) (hn:¬ a.Nonce=nnc n x.Machine x.Log):qt x keys n=(oA,45):=by
 unfold qt
 rw [h]
 exact if_neg hn
theorem n12:¬ N1=N2:=by decide
theorem nn1:(qa KN).Nonce=nnc [110] evd.Machine evd.Log:=zP1.symm
theorem nn2:¬ (qa KN).Nonce=nnc [109] evd.Machine evd.Log:=λe=>n12 ((show N1=nnc [109] 2 zHy from e).trans zXr)
theorem wq1:qt evd [kq 4,kq 5] [110]=(qa KN,0):=zQ0 _ _ _ _ (wqf [kq 5]) nn1
theorem wq2:qt evd [kq 4,kq 5] [109]=(oA,45):=zVe _ _ _ _ (wqf [kq 5]) nn2
theorem zR2:xB 2=some ⟨0,4095⟩:=by decide +kernel
def zLm:api_Enrolled:=⟨2,2,[kq 4,kq 5],⟨[],sha [112,u8 2],[]⟩,⟨1,3,0,[],List.replicate 32 0⟩⟩
theorem wX:wD evd zLm (qa KN)=some (⟨2,1,EVS⟩,0):=by
 unfold wD
 refine bd (show xB zLm.Active=some ⟨0,4095⟩ from zR2) ?_
 refine cf rfl ?_
 refine bd zNz ?_
 refine cf rfl ?_
 refine bd (a:=false) rfl ?_
 refine cf rfl ?_
 refine bd (a:=false) rfl ?_
 refine cf rfl ?_
 refine bd zXk ?_
 refine cf rfl ?_
 refine bd (a:=true) ((gD DG DG).trans (by simp)) ?_
 exact cf rfl rfl
theorem wA1:Def (zU evd zLm [110] [MAN]) (λv=>v.Err=0/\v.Reasons.length=10/\v.Clock=17):=by
 unfold zU
 refine Def.c (λh=>by cases h) (λ_=>?_)
 refine Def.bd (P:=λr=>r=(qa KN,0)) (Def.of (kK evd [kq 4,kq 5] [110] (zQ4 _ (by decide))) wq1) (λr hr=>?_)
 subst hr
 refine Def.c (λh=>by cases h) (λ_=>?_)
 refine Def.bd (P:=λr=>r=(⟨2,1,EVS⟩,0)) (Def.of wX rfl) (λr hr=>?_)
 subst hr
 refine Def.c (λh=>by cases h) (λ_=>?_)
 have hx:=zVw
 refine Def.bd (P:=λr=>r.1.length=10/\r.2.2=0) ?_ (λr hr=>?_)
 ·cases hm:vZ ⟨2,1,EVS⟩ [MAN] with
  | none=>rw [hm] at hx;cases hx
  | some r=>
   rw [hm] at hx
   simp only [Option.map_some,Option.some.injEq,Prod.mk.injEq] at hx
   exact Def.s hx
 obtain ⟨rs,a,b⟩:=r
 obtain ⟨h1,h2⟩:=hr
 simp only at h1 h2
 subst h2
 exact Def.c (λh=>by cases h) (λ_=>Def.s ⟨rfl,h1,rfl⟩)
theorem wA2:Def (zU evd zLm [109] [MAN]) (λv=>v.Err=45):=by
 unfold zU
 refine Def.c (λh=>by cases h) (λ_=>?_)
 refine Def.bd (P:=λr=>r=(oA,45)) (Def.of (kK evd [kq 4,kq 5] [109] (zQ4 _ (by decide))) wq2) (λr hr=>?_)
 subst hr
 exact Def.c (λ_=>Def.s rfl) (λh=>by cases h)
theorem wA3:Def (zU evd zLm [110] []) (λv=>v.Err=47):=by
 unfold zU
 refine Def.c (λh=>by cases h) (λ_=>?_)
 refine Def.bd (P:=λr=>r=(qa KN,0)) (Def.of (kK evd [kq 4,kq 5] [110] (zQ4 _ (by decide))) wq1) (λr hr=>?_)
 subst hr
 refine Def.c (λh=>by cases h) (λ_=>?_)
 refine Def.bd (P:=λr=>r=(⟨2,1,EVS⟩,0)) (Def.of wX rfl) (λr hr=>?_)
 subst hr
 refine Def.c (λh=>by cases h) (λ_=>?_)
 refine Def.bd (P:=λr=>r=([],0,47)) (Def.of zQ2 rfl) (λr hr=>?_)
 subst hr
 exact Def.c (λ_=>Def.s rfl) (λh=>by cases h)
theorem zLs:o9=some true:=by
 obtain ⟨v1,a1,a2,a3,a4⟩:=wA1
 obtain ⟨v2,b1,b2⟩:=wA2
 obtain ⟨v3,c1,c2⟩:=wA3
 unfold o9
 refine bd zXh ?_
 refine bd zQ8 ?_
 refine bd zGn ?_
 refine bd wG ?_
 refine bd (a:=v1) a1 ?_
 refine bd (a:=true) ?_ rfl
 refine ct (by rw [a2];rfl) ?_
 refine ct (by rw [a3];rfl) ?_
 refine ct (by rw [a4];rfl) ?_
 refine bd (a:=v2) b1 ?_
 refine ct (by rw [b2];rfl) ?_
 refine bd (a:=v3) c1 ?_
 rw [c2]
 rfl
end Go.Proofs.TT
namespace Go.Proofs.TT
theorem eG (chain:List UInt8) (active machine at':Int) (by':UInt8) (cut:Int) (nonce other:List UInt8):wL chain active machine at' by' cut nonce other=some true:=zHt zLs chain active machine at' by' cut nonce other
end Go.Proofs.TT
