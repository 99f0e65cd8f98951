/- UpdatePolicy holds for all inputs -/
import Derived.Test.YtlipjldhnmcbiaaGreatDoorCZ32
set_option linter.all false
open List renaming length_append -> Q0, length_singleton -> Q2, take_add_one -> Q4, take_of_length_le -> Q6, getElem_mem -> Q7, append_assoc -> Q9, length_cons -> Qc, take_length -> Qd, length_nil -> Qe, mem_map -> Qf
open Go.Sw.Def renaming bd -> Q1, s -> Q3, c -> Qb
open Go.IntKind renaming i64 -> Q5
open Go.Proofs.TT.Def renaming at' -> Q8
open Option.some renaming inj -> Qa
namespace Go.Proofs.TT
open Go Go.Sw
set_option maxRecDepth 100000
variable {a:zH}{active:Int}{b:By}{c:List zD}{chains:List (List zD)}{d d1 d2:By}{e:zG}{epoch:Int}{g:By}{i:Nat}{l:List zD}{nm op:By}{r role:Int}{x:zJ}{α:Type}
theorem zGr {X X' Y Y':Type} {f:X->Option (X ⊕ Y)} {g:X'->Option (X' ⊕ Y')} (R:X->X'->Prop) (S:Y->Y'->Prop)
  (h:∀ x x',R x x'->(f x=none/\g x'=none)∨(∃ y y',f x=some (.inl y)/\g x'=some (.inl y')/\R y y')∨∃ y y',f x=some (.inr y)/\g x'=some (.inr y')/\S y y') :
  ∀ (fuel:Nat) (x:X) (x':X'),R x x'->(zP f fuel x=none/\zP g fuel x'=none)∨∃ y y',zP f fuel x=some y/\zP g fuel x'=some y'/\S y y'
 | 0,_,_,_=>.inl ⟨rfl,rfl⟩
 | n+1,x,x',hr=>by
  simp only [zP];rcases h x x' hr with ⟨h1,h2⟩ | ⟨y,y',h1,h2,h3⟩ | ⟨y,y',h1,h2,h3⟩
  ·rw [h1,h2];exact .inl ⟨rfl,rfl⟩
  ·rw [h1,h2];exact zGr R S h n y y' h3
  ·rw [h1,h2];exact .inr ⟨y,y',rfl,rfl,h3⟩
def zJw (x:zD):Prop:=vR x=some 0
theorem rP.ok {x:zD} (h:rP x):zJw x:=aF x h
theorem zJw.f {x:zD} (h:zJw x):1<=x.Role/\x.Role<=4/\0<=x.Version/\x.Version<=1000000/\x.Name.length<=12/\x.Payload.length<=64:=by
 obtain ⟨r,e,_,h2⟩:=zGm x;rw [h] at e;exact h2 (Qa e).symm
theorem zQm (l:List zD) (i:Nat) (hi:i<l.length) (h8:l.length<=8):zP (wI l[i] (l.take i)) FU 0=zP (wE l (i:Int)) FU 0:=by
 have:=zGr (f:=wI l[i] (l.take i)) (g:=wE l (i:Int)) (λa b=>a=b/\∃ k:Nat,a=(k:Int)) (λa b=>a=b) ?_ FU 0 0 ⟨rfl,0,rfl⟩
 ·rcases this with ⟨a,b⟩ | ⟨y,y',a,b,rfl⟩
  ·rw [a,b]
  ·rw [a,b]
 ·rintro a _ ⟨rfl,k,rfl⟩;right;have hlen:(l.take i).length=i:=by simp;omega
  by_cases hk:k<i
  ·have hkl:k<l.length:=by omega
   have hx:idx (l.take i) (k:Int)=some l[k]:=by rw [xH (by omega)];simp
   have hg:((l[k]).Role==(l[i]).Role&&(l[k]).Name==(l[i]).Name)=true->wI l[i] (l.take i) (k:Int)=some (.inr (.inl 42))/\wE l (i:Int) (k:Int)=some (.inr (.inl 42)):=by
    intro hb;rw [Bool.and_eq_true] at hb;constructor
    ·unfold wI;exact ct (by rw [hlen];simp;omega) (bd hx (bd (a:=true) (ct hb.1 (congrArg some hb.2)) (ct rfl rfl)))
    ·unfold wE;exact ct (by simp;omega) (bd (a:=true) (bd (xH hkl) (bd (xH hi) (ct hb.1 (bd (xH hkl) (bd (xH hi) (congrArg some hb.2)))))) (ct rfl rfl))
   have hn:((l[k]).Role==(l[i]).Role&&(l[k]).Name==(l[i]).Name)=false->wI l[i] (l.take i) (k:Int)=some (.inl ((k+1:Nat):Int))/\wE l (i:Int) (k:Int)=some (.inl ((k+1:Nat):Int)):=by
    intro hb;have hw:Q5.wrap ((k:Int)+1)=((k+1:Nat):Int):=wU (by omega);constructor
    ·unfold wI;refine ct (by rw [hlen];simp;omega) (bd hx (bd (a:=false) ?_ (cf rfl (by rw [hw]))));cases hr:(l[k]).Role==(l[i]).Role with
     | false=>rfl
     | true=>rw [hr] at hb;exact congrArg some hb
    ·unfold wE;refine ct (by simp;omega) (bd (a:=false) (bd (xH hkl) (bd (xH hi) ?_)) (cf rfl (by rw [hw])));cases hr:(l[k]).Role==(l[i]).Role with
     | false=>rfl
     | true=>rw [hr] at hb;exact ct rfl (bd (xH hkl) (bd (xH hi) (congrArg some hb)))
   cases hb:((l[k]).Role==(l[i]).Role&&(l[k]).Name==(l[i]).Name) with
   | true=>exact .inr ⟨_,_,(hg hb).1,(hg hb).2,rfl⟩
   | false=>exact .inl ⟨_,_,(hn hb).1,(hn hb).2,rfl,k+1,rfl⟩
  ·refine .inr ⟨.inr (),.inr (),?_,?_,rfl⟩
   ·unfold wI;exact cf (by rw [hlen];simp;omega) rfl
   ·unfold wE;exact cf (by simp;omega) rfl
theorem zLg (l:List zD) (i:Nat) (hi:i<l.length) (h8:l.length<=8):Def (zP (wE l (i:Int)) FU 0) (λr=>r=.inr ()∨r=.inl 42):=by
 refine Def.loop (λs=>∃ k:Nat,s=(k:Int)/\k<=i) (λs=>i - s.toNat) (λs hs=>?_) ⟨0,rfl,by omega⟩ (by simp;omega);obtain ⟨k,rfl,hk⟩:=hs;unfold wE;refine Qb (λh=>?_) (λh=>Q3 (.inl rfl));have hki:=dT h;refine Q1 (P:=λ_=>True) ?_ (λb _=>?_)
 ·refine Q1 (Q8 (show k<l.length by omega)) (λy _=>?_);refine Q1 (Q8 hi) (λz _=>?_);refine Qb (λ_=>?_) (λ_=>Q3 trivial);refine Q1 (Q8 (show k<l.length by omega)) (λy _=>?_);exact Q1 (Q8 hi) (λz _=>Q3 trivial)
 refine Qb (λ_=>Q3 (.inr rfl)) (λ_=>Q3 ?_);rw [wU (by omega)];exact ⟨⟨k+1,rfl,by omega⟩,by simp only [Int.toNat_natCast];omega⟩
theorem zRn {c:Bool} {o:Option Bool} {b:Bool} (h:o=some b):(bif c then some true else o)=some (c||b):=by cases c<;>simp [h]
theorem yE4 (l:List zD) (h8:l.length<=8) :
  ∃ y,xP l=xP l/\zP (xP l) FU (false,false,0)=some y/\(match y with
   | .inl r=>zP (xW l) FU (0,[false,false,false,false,false])=some (.inl r)/\0<r
   | .inr (fw,k)=>(∃ a b c,zP (xW l) FU (0,[false,false,false,false,false])=some (.inr [a,fw,b,k,c]))/\∀ x∈l,zJw x):=by
 have tot:Def (zP (xP l) FU (false,false,0)) (λy=>match y with | .inl r=>0<r | .inr _=>∀ x∈l,zJw x):=by
  refine Def.loop (λs=>∃ i:Nat,s.2.2=(i:Int)/\i<=l.length/\∀ x∈l.take i,zJw x) (λs=>l.length - s.2.2.toNat) (λs hs=>?_) ⟨0,rfl,by omega,by simp⟩ (by simp;omega);obtain ⟨f,k,i'⟩:=s;obtain ⟨i,g1,g2,g3⟩:=hs;simp only at g1;subst g1;unfold xP;refine Qb (λh=>?_) (λh=>Q3 ?_)
  ·have hi:i<l.length:=by have:=dT h;omega
   refine Q1 (Q8 hi) (λy hy=>?_);subst hy;refine Q1 ((zGm l[i]).get 0 |> λe=>(⟨_,e.1,⟨e.1,e.2.1⟩⟩:Def _ (λr=>vR l[i]=some r/\0<=r))) (λr hr=>?_);refine Qb (λh=>Q3 ?_) (λh0=>?_)
   ·have:r≠0:=by simpa using h
    have:=hr.2;show 0<r;omega
   have h0':r=0:=by simpa using h0
   subst h0';refine Q1 (P:=λ_=>True) ?_ (λb hb=>?_)
   ·refine Qb (λh0=>?_) (λ_=>Q3 trivial);have h0':=dT h0;refine Q1 (Q8 hi) (λy hy=>?_);rw [xU (by omega) (by omega),show (i:Int) - 1=((i - 1:Nat):Int) by omega];exact Q1 (Q8 (show i - 1<l.length by omega)) (λy hy=>Q3 trivial)
   refine Qb (λh=>Q3 (show (0:Int)<41 by decide)) (λ_=>?_);refine Q1 (zLg l i hi h8) (λr' hr'=>?_);rcases hr' with rfl | rfl
   ·refine Q1 (P:=λ_=>True) (Qb (λ_=>Q3 trivial) (λ_=>Q1 (Q8 hi) (λy _=>Q3 trivial))) (λb1 _=>?_);refine Q1 (P:=λ_=>True) (Qb (λ_=>Q3 trivial) (λ_=>Q1 (Q8 hi) (λy _=>Q3 trivial))) (λb2 _=>Q3 ?_);rw [wU (by omega)];refine ⟨⟨i+1,rfl,by omega,λx hx=>?_⟩,by simp only [Int.toNat_natCast];omega⟩;rcases jK hi hx with hx | rfl
    ·exact g3 x hx
    ·exact hr.1
   ·exact Q3 (show (0:Int)<42 by decide)
  ·have:=dF h;rw [Q6 (by omega)] at g3;exact g3
 obtain ⟨y,hy,hy2⟩:=tot;have sim:=zGr (f:=xW l) (g:=xP l) (λs t=>∃ (i:Nat) (a b c:Bool),s=((i:Int),[a,t.1,b,t.2.1,c])/\t.2.2=(i:Int)/\i<=l.length)
  (λy z=>match y,z with | .inl r,.inl r'=>r=r' | .inr s,.inr t=>∃ a b c,s=[a,t.1,b,t.2,c] | _,_=>False) ?_ FU (0,[false,false,false,false,false]) (false,false,0) ⟨0,false,false,false,rfl,rfl,by omega⟩
 ·rcases sim with ⟨_,b⟩ | ⟨s,t,a,b,c⟩
  ·rw [hy] at b;cases b
  ·rw [hy] at b;obtain rfl:=Qa b;refine ⟨y,rfl,hy,?_⟩;cases y with
   | inl r=>
    cases s with
    | inl r'=>exact ⟨by rw [a,show r'=r from c],hy2⟩
    | inr _=>exact c.elim
   | inr t=>
    cases s with
    | inl _=>exact c.elim
    | inr s=>
     obtain ⟨x1,x2,x3,x4⟩:=c;exact ⟨⟨x1,x2,x3,by rw [a,x4]⟩,hy2⟩
 ·rintro ⟨s1,s2⟩ ⟨fw,k,i'⟩ ⟨i,a,b,c,e,rfl,hle⟩;obtain ⟨rfl,rfl⟩:=Prod.mk.inj e;right;by_cases hi:i<l.length
  ·have hd:decide ((i:Int)<(l.length:Int))=true:=by simp;omega
   obtain ⟨r,er,r0,hr⟩:=zGm l[i];have er':rM l[i]=some r:=(zEb _).trans er;by_cases h0:r=0
   rotate_left
   ·refine .inr ⟨.inl r,.inl r,?_,?_,rfl⟩
    ·unfold xW;exact ct hd (bd (xH hi) (bd er' (ct (b1 h0) rfl)))
    ·unfold xP;exact ct hd (bd (xH hi) (bd er (ct (b1 h0) rfl)))
   obtain ⟨p1,p4,_⟩:=hr h0;subst h0;have ho:∃ o,(bif decide (0<(i:Int)) then (idx l (Q5.wrap ((i:Int) - 1))).bind λv_1235=>some (decide (l[i].Role<v_1235.Role)) else some false:Option Bool)=some o/\(bif decide (0<(i:Int)) then (idx l (i:Int)).bind λv_1313=>(idx l (Q5.wrap ((i:Int) - 1))).bind λv_1314=>some (decide (v_1313.Role<v_1314.Role)) else some false:Option Bool)=some o:=by
    cases hz:decide (0<(i:Int)) with
    | false=>exact ⟨false,rfl,rfl⟩
    | true=>
     have hz':0<(i:Int):=of_decide_eq_true hz;have hw:Q5.wrap ((i:Int) - 1)=((i - 1:Nat):Int):=by rw [xU (by omega) (by omega)];omega
     refine ⟨decide (l[i].Role<(l[i - 1]'(by omega)).Role),?_,?_⟩
     ·rw [hw];exact bd (xH (by omega)) rfl
     ·rw [hw];exact bd (xH hi) (bd (xH (by omega)) rfl)
   obtain ⟨o,o1,o2⟩:=ho;cases o with
   | true=>
    refine .inr ⟨.inl 41,.inl 41,?_,?_,rfl⟩
    ·unfold xW;exact ct hd (bd (xH hi) (bd er' (cf rfl (bd o1 (ct rfl rfl)))))
    ·unfold xP;exact ct hd (bd (xH hi) (bd er (cf rfl (bd o2 (ct rfl rfl)))))
   | false=>
    have hsub:sub l 0 (i:Int)=some (l.take i):=by
     have:=lI (l:=l) (a:=0) (b:=i) (Nat.zero_le _) (by omega);simpa using this
    obtain ⟨z,ez,hz⟩:=zLg l i hi h8;have ez':=(zQm l i hi h8).trans ez;rcases hz with rfl | rfl
    rotate_left
    ·refine .inr ⟨.inl 42,.inl 42,?_,?_,rfl⟩
     ·unfold xW;exact ct hd (bd (xH hi) (bd er' (cf rfl (bd o1 (cf rfl (bd hsub (bd ez' rfl)))))))
     ·unfold xP;exact ct hd (bd (xH hi) (bd er (cf rfl (bd o2 (cf rfl (bd ez rfl))))))
    have hw:Q5.wrap ((i:Int)+1)=((i+1:Nat):Int):=wU (by omega);obtain ⟨n,hn⟩:=Int.eq_ofNat_of_zero_le (show 0<=l[i].Role by omega);have hn4:1<=n/\n<=4:=by omega
    have hix:ixN 5 l[i].Role=some n:=by rw [hn];simp [ixN];omega
    refine .inl ⟨(((i+1:Nat):Int),[a,fw,b,k,c].set n true),(fw||(l[i].Role==1),k||(l[i].Role==3),((i+1:Nat):Int)),?_,?_,?_⟩
    ·unfold xW;refine ct hd (bd (xH hi) (bd er' (cf rfl (bd o1 (cf rfl (bd hsub (bd ez' ?_)))))));refine bd hix (bd (a:=[a,fw,b,k,c].set n true) ?_ (by rw [hw]));simp [uA];omega
    ·unfold xP;refine ct hd (bd (xH hi) (bd er (cf rfl (bd o2 (cf rfl (bd ez ?_))))));refine bd (zRn (bd (xH hi) rfl)) (bd (zRn (bd (xH hi) rfl)) (by rw [hw]))
    ·rw [hn];have:n=1∨n=2∨n=3∨n=4:=by omega
     rcases this with rfl | rfl | rfl | rfl
     ·exact ⟨i+1,a,b,c,by simp,rfl,by omega⟩
     ·exact ⟨i+1,a,true,c,by simp,rfl,by omega⟩
     ·exact ⟨i+1,a,b,c,by simp,rfl,by omega⟩
     ·exact ⟨i+1,a,b,true,by simp,rfl,by omega⟩
  ·have hd:decide ((i:Int)<(l.length:Int))=false:=by simp;omega
   refine .inr ⟨.inr [a,fw,b,k,c],.inr (fw,k),?_,?_,a,b,c,rfl⟩
   ·unfold xW;exact cf hd rfl
   ·unfold xP;exact cf hd rfl
theorem zK7 (l:List zD) (hl:l.length<2 ^ 40):Def (uD l) (λr=>xC l=some r/\0<=r/\(r=0->1<=l.length/\l.length<=8/\∀ x∈l,zJw x)):=by
 by_cases hb:l.length=0∨8<l.length
 ·have hc:(bif ((l.length:Int)==0) then (some true) else some (decide (8<(l.length:Int))):Option Bool)=some true:=by
   rcases hb with hb | hb
   ·exact ct (by simp [hb]) rfl
   ·exact cf (by rw [beq_eq_false_iff_ne];omega) (congrArg some (by simp;omega))
  refine ⟨1,?_,?_,by decide,λe=>by cases e⟩
  ·unfold uD;exact bd hc (ct rfl rfl)
  ·unfold xC;exact bd hc (ct rfl rfl)
 ·have hc:(bif ((l.length:Int)==0) then (some true) else some (decide (8<(l.length:Int))):Option Bool)=some false:=cf (by rw [beq_eq_false_iff_ne];omega) (congrArg some (by simp;omega));obtain ⟨y,_,hy,hy2⟩:=yE4 l (by omega);cases y with
  | inl r=>
   refine ⟨r,?_,?_,Int.le_of_lt hy2.2,λe=>absurd e (by have:=hy2.2;omega)⟩
   ·unfold uD;exact bd hc (cf rfl (bd hy rfl))
   ·unfold xC;exact bd hc (cf rfl (bd hy2.1 rfl))
  | inr t=>
   obtain ⟨fw,k⟩:=t;obtain ⟨⟨a,b,c,h1⟩,h2⟩:=hy2;refine ⟨if fw&&k then 0 else 40,?_,?_,by split<;>decide,λ_=>⟨by omega,by omega,h2⟩⟩
   ·unfold uD;refine bd hc (cf rfl (bd hy ?_));cases fw<;>cases k<;>rfl
   ·unfold xC;refine bd hc (cf rfl (bd h1 ?_));cases fw<;>cases k<;>rfl
set_option maxRecDepth 100000
theorem yGb {x:zD} (h:zJw x):lK x=some (zGz x):=by
 obtain ⟨_,_,_,_,h5,h6⟩:=h.f;unfold lK;refine bd ((zEb x).trans h) (cf rfl ?_);have h3:(wC (wC [] 1 x.Role) 4 x.Version).length=5:=by rw [xI,xI];rfl
 have h4:=zCs (wC (wC [] 1 x.Role) 4 x.Version) x.Name;refine bd (uJ [] 1 _ (by omega) (by omega) (by simp)) ?_;refine bd (uJ _ 4 _ (by omega) (by omega) (by rw [xI];simp)) ?_;refine bd (ckT (zL0 (by omega))) ?_;refine bd (zFu _ _ (by omega)) ?_;exact bd (zFu _ _ (by omega)) rfl
structure ChOk (l:List zD):Prop where
 r:uD l=some 0
 p:xC l=some 0
 h1:1<=l.length
 h8:l.length<=8
 im:∀ x∈l,zJw x
theorem chOk (hl:l.length<2 ^ 40) (h:uD l=some 0):ChOk l:=by
 obtain ⟨r,e,h1,_,h2⟩:=zK7 l hl;have:r=0:=Qa (e.symm.trans h);subst this;obtain ⟨a,b,c⟩:=h2 rfl;exact ⟨e,h1,a,b,c⟩
theorem qF.ok (h:qF l):ChOk l:=chOk (by have:=h.len;omega) (aV l h)
set_option maxRecDepth 100000
theorem zN3 (on:Bool) (active:Int) (data:By) (hd:data.length<2 ^ 40) (step:(Int×List By)->Option ((Int×List By) ⊕ List By))
  (h0:∀ v,step (0,v)=((bif (on&&xK active 0) then ((xR 0 data).bind λs=>(ixN 2 0).bind λj=>(uA v j s).bind λw=>some w) else some v:Option (List By)).bind λw=>some (.inl (1,w))))
  (h1:∀ v,step (1,v)=((bif (on&&xK active 1) then ((xR 1 data).bind λs=>(ixN 2 1).bind λj=>(uA v j s).bind λw=>some w) else some v:Option (List By)).bind λw=>some (.inl (2,w))))
  (h2:∀ v,step (2,v)=some (.inr v)):zP step FU (0,[[],[]])=some (dgE active on data):=by
 unfold dgE;refine two (b:=(1,[if (on&&xK active 0)=true then kH data else [],[]])) (c:=(2,[if (on&&xK active 0)=true then kH data else [],if (on&&xK active 1)=true then sha data else []])) ?_ ?_ (h2 _)
 ·rw [h0];refine bd (a:=[if (on&&xK active 0)=true then kH data else [],[]]) ?_ rfl;refine (zGf (a:=0) rfl (by omega) (zNq data hd)).trans ?_;cases (on&&xK active 0)<;>rfl
 ·rw [h1];refine bd (a:=[if (on&&xK active 0)=true then kH data else [],if (on&&xK active 1)=true then sha data else []]) ?_ rfl;refine (zGf (a:=1) rfl (by omega) (zNc data hd)).trans ?_;cases (on&&xK active 1)<;>rfl
theorem zFh {a b:Bool} {x:Option Bool} {f:Bool->Option α} {r:Option α} (hx:x=some b) (h:f (a&&b)=r):(bif a then x else some false).bind f=r:=by
 cases a
 ·exact h
 ·subst hx;exact h
theorem zN5 (reg kind active:Int) (data:By) (hd:data.length<2 ^ 40):rU reg kind active data=some (mkE reg kind active data):=by
 unfold rU mkE;refine bd (a:=data) (by unfold bytes_Clone;exact ct (zL0 (by omega)) rfl) ?_;refine bd (zN3 (kind != 5) active data hd _ (λv=>?_) (λv=>?_) (λv=>?_)) (bd (ckT rfl) rfl)
 ·unfold jG;refine ct rfl ?_;refine congrArg (λo:Option (List By)=>o.bind _) ?_;exact zFh (bd (ckT rfl) rfl) rfl
 ·unfold jG;refine ct rfl ?_;refine congrArg (λo:Option (List By)=>o.bind _) ?_;exact zFh (bd (ckT rfl) rfl) rfl
 ·unfold jG;exact cf rfl rfl
theorem zN4 (x:zD) (active:Int) (h:zJw x):jJ x active=some (dgE active true (zGz x)):=by
 have hl:=zM6 x;unfold jJ;refine bd (yGb h) ?_;have hp:decide (0<((zGz x).length:Int))=true:=by simp;omega
 refine bd (zN3 true active (zGz x) (by omega) _ (λv=>?_) (λv=>?_) (λv=>?_)) (bd (ckT rfl) rfl)
 ·unfold oC;refine ct rfl ?_;refine congrArg (λo:Option (List By)=>o.bind _) ?_;rw [hp];exact zFh (bd (ckT rfl) rfl) rfl
 ·unfold oC;refine ct rfl ?_;refine congrArg (λo:Option (List By)=>o.bind _) ?_;rw [hp];exact zFh (bd (ckT rfl) rfl) rfl
 ·unfold oC;exact cf rfl rfl
theorem yDg (h1:1<=r) (h4:r<=4):r=1∨r=2∨r=3∨r=4:=by omega
theorem zZr (h1:1<=r) (h4:r<=4):vP r=some (rgR r):=by
 rcases yDg h1 h4 with rfl | rfl | rfl | rfl<;>rfl
theorem zB8 (x:zD) (active:Int) (h:zJw x) (h4:x.Role≠4):uQ x active=some (imE active x):=by
 obtain ⟨a1,a2,a3,a4,a5,a6⟩:=h.f;have hd:=zBq 20 x.Version.toNat;unfold uQ imE lbl;refine bd (a:=false) (bd ((zEb x).trans h) (cf rfl (congrArg some (by rw [beq_eq_false_iff_ne];exact h4)))) (cf rfl ?_);refine bd (zZr a1 a2) (bd (zN4 x active h) (bd (ckT (zL0 (by simp;omega))) ?_));refine bd (a:=decF 20 x.Version.toNat) (by unfold strconv_Itoa;exact ct (by simp;omega) rfl) ?_;refine bd (ckT (zL0 (by simp only [Q0,Qc,Qe];omega))) (bd (ckT (zL0 (by simp only [Q0,Qc,Qe];omega))) rfl)
theorem zJk (hi:i<l.length):evR active role (l.take (i+1))=evR active role (l.take i)++(if l[i].Role=role then (if role=4 then (zIa l[i]).map (mkE 9 3 active) else [imE active l[i]]) else []):=by
 unfold evR;rw [Q4,List.flatMap_append];simp [hi]
theorem qC (hi:i<l.length) (h:l[i].Role≠role):evR active role (l.take (i+1))=evR active role (l.take i):=by
 rw [zJk hi,if_neg h,List.append_nil]
theorem zLy (hi:i<l.length) (h:l[i].Role=role) (h4:role≠4):evR active role (l.take (i+1))=evR active role (l.take i)++[imE active l[i]]:=by
 rw [zJk hi,if_pos h,if_neg h4]
theorem yCb (hi:i<l.length) (h:l[i].Role=4):evR active 4 (l.take (i+1))=evR active 4 (l.take i)++(zIa l[i]).map (mkE 9 3 active):=by
 rw [zJk hi,if_pos h,if_pos rfl]
theorem zP2 (active:Int) (x:zD) (hx:x.Role=4) (L:List By) (hl:L.length<=4) (h8:∀ l∈L,l.length<=8) (a b c d e:List zG) (he:e.length<=100) :
  zP (pB active x L) FU (0,a,b,c,d,e)=some (a,b,c,d,e++L.map (mkE 9 3 active)):=by
 refine yM L.length (λi=>((i:Int),a,b,c,d,e++(L.map (mkE 9 3 active)).take i)) (by simp) (λi hi=>?_) ?_ (wM (by omega))
 ·have:=h8 _ (Q7 hi);have hreg:vP x.Role=some 9:=by rw [hx];rfl
  unfold pB;refine ct (dlt hi) (bd (xH hi) ?_);refine bd (a:=(a,b,c,d,e++(L.map (mkE 9 3 active)).take (i+1))) (cf (by rw [hx];rfl) (cf (by rw [hx];rfl) (cf (by rw [hx];rfl) (cf (by rw [hx];rfl) (ct (by rw [hx];rfl) ?_))))) (by rw [wU (by omega)]);refine bd hreg (bd (zN5 _ 3 active _ (by omega)) (bd (yP (by simp;omega)) ?_));rw [Q4,Q9];simp [hi]
 ·unfold pB;refine cf (dge (Nat.le_refl _)) ?_;rw [Q6 (by simp)]
theorem zU3 (active:Int) (out:List zG) (h:out.length<=100):zP (qX active) FU (out,0)=some (out++bF active):=by
 refine yM 8 (λi=>(out++(bF active).take i,(i:Int))) (by simp) (λi hi=>?_) ?_ (wM (by decide))
 ·unfold qX;refine ct (by simp;omega) ?_;refine bd (a:=4) rfl ?_;refine bd (zN5 _ 2 active _ (by decide)) ?_;refine bd (yP (by simp [bF];omega)) ?_;rw [wU (by omega),Q4,Q9];have:(bF active)[i]? = some (mkE (i:Int) 2 active [0,0,0,0]):=by simp [bF,hi]
  rw [this];rfl
 ·unfold qX;refine cf rfl ?_;rw [Q6 (by rw [zCb];omega)]
theorem zOw (l:List zD) (active:Int) (hl:l.length<=8) (him:∀ x∈l,rP x):zP (qN l active) FU (0,[],[],[],[],[])=some ([],evR active 1 l,evR active 2 l,evR active 3 l,evR active 4 l):=by
 refine yM l.length (λi=>((i:Int),[],evR active 1 (l.take i),evR active 2 (l.take i),evR active 3 (l.take i),evR active 4 (l.take i))) (by simp [evR]) (λi hi=>?_) ?_ (wM (by omega))
 ·have hg:=him _ (Q7 hi);have hle:=λrole=>zSn active role (l.take i) (λx hx=>him x (List.mem_of_mem_take hx));have hlt:(l.take i).length<=8:=by simp;omega
  have e1:=hle 1;have e2:=hle 2;have e3:=hle 3;have e4:=hle 4;have hw:Q5.wrap ((i:Int)+1)=((i+1:Nat):Int):=wU (by omega);unfold qN;refine ct (dlt hi) ?_;rcases yDg hg.r1 hg.r4 with hr | hr | hr | hr
  ·rw [zLy hi hr (by decide),qC hi (show l[i].Role≠2 by omega),qC hi (show l[i].Role≠3 by omega),qC hi (show l[i].Role≠4 by omega)];refine bd (bd (xH hi) (ct (by rw [hr];rfl) (bd (cf (by rw [hr];rfl) (ct (by rw [hr];rfl) (bd (zB8 _ active hg.ok (by omega)) (bd (yP (by simp only [Q2];omega)) rfl)))) rfl))) (by rw [hw])
  ·rw [zLy hi hr (by decide),qC hi (show l[i].Role≠1 by omega),qC hi (show l[i].Role≠3 by omega),qC hi (show l[i].Role≠4 by omega)];refine bd (bd (xH hi) (ct (by rw [hr];rfl) (bd (cf (by rw [hr];rfl) (cf (by rw [hr];rfl) (ct (by rw [hr];rfl) (bd (zB8 _ active hg.ok (by omega)) (bd (yP (by simp only [Q2];omega)) rfl))))) rfl))) (by rw [hw])
  ·rw [zLy hi hr (by decide),qC hi (show l[i].Role≠1 by omega),qC hi (show l[i].Role≠2 by omega),qC hi (show l[i].Role≠4 by omega)];refine bd (bd (xH hi) (ct (by rw [hr];rfl) (bd (cf (by rw [hr];rfl) (cf (by rw [hr];rfl) (cf (by rw [hr];rfl) (ct (by rw [hr];rfl) (bd (zB8 _ active hg.ok (by omega)) (bd (yP (by simp only [Q2];omega)) rfl)))))) rfl))) (by rw [hw])
  ·rw [yCb hi hr,qC hi (show l[i].Role≠1 by omega),qC hi (show l[i].Role≠2 by omega),qC hi (show l[i].Role≠3 by omega)];obtain ⟨q1,q2,q3⟩:=zMz _ hg hr;have hp:=hg.p;have q4:=(zJa l[i] (by omega)).trans q1;refine bd (bd (xH hi) (cf (by rw [hr];rfl) (bd q4 (bd (zP2 active l[i] hr _ q2 (λl hl=>(q3 l hl).2.1) _ _ _ _ _ (by omega)) rfl)))) (by rw [hw])
 ·unfold qN;refine cf (dge (Nat.le_refl _)) ?_;simp
theorem zQf (l:List zD) (active:Int) (h:qF l) (h1:1<=active) (h3:active<=3):pL l active=some (evs l active):=by
 have hl:=h.len;have hb:=zMj active l h.im;have hsl:=zCb active;unfold pL;refine bd (a:=false) (cf (by simp;omega) (cf (by simp;omega) (bd h.ok.p rfl))) (cf rfl ?_);refine bd (zOw l active hl h.im) ?_;refine bd (yP (by omega)) (bd (zU3 active _ (by rw [Q0];omega)) (bd (yP (by simp only [Q0];omega)) (bd (yP (by simp only [Q0];omega)) ?_)));unfold evs;simp only [Q9]
set_option maxRecDepth 100000
theorem zR5 (h:e.Digests=dgE active (e.Kind != 5) b):Fit e active 0/\Fit e active 1:=by
 unfold Fit;rw [h];unfold dgE;constructor
 ·show (((if ((e.Kind != 5)&&xK active 0)=true then kH b else []):By).length:Int)=if e.Kind≠5/\xK active 0=true then siz 0 else 0
  by_cases hk:e.Kind=5
  ·rw [if_neg (by simp [hk]),if_neg (λh=>h.1 hk)];rfl
  ·cases hb:xK active 0
   ·rw [if_neg (by simp),if_neg (λh=>by cases h.2)];rfl
   ·rw [if_pos (by simp [hk]),if_pos ⟨hk,rfl⟩,zOn];rfl
 ·show (((if ((e.Kind != 5)&&xK active 1)=true then sha b else []):By).length:Int)=if e.Kind≠5/\xK active 1=true then siz 1 else 0
  by_cases hk:e.Kind=5
  ·rw [if_neg (by simp [hk]),if_neg (λh=>h.1 hk)];rfl
  ·cases hb:xK active 1
   ·rw [if_neg (by simp),if_neg (λh=>by cases h.2)];rfl
   ·rw [if_pos (by simp [hk]),if_pos ⟨hk,rfl⟩,zIn];rfl
theorem zYi {reg kind:Int} {data:By} (h1:1<=active) (h3:active<=3) (r0:0<=reg) (r1:reg<=11) (k1:1<=kind) (k5:kind<=5) (hd:data.length<=64):EvC (mkE reg kind active data) active:=by
 obtain ⟨f0,f1⟩:=zR5 (e:=mkE reg kind active data) (active:=active) (b:=data) rfl;exact ⟨⟨r0,r1,hd,rfl,f0,f1⟩,h1,h3,k1,k5⟩
theorem yFe (r:Int) (h1:1<=r) (h4:r<=4):0<=rgR r/\rgR r<=11:=by
 unfold rgR;split
 ·omega
 split
 ·omega
 split
 ·omega
 split<;>omega
theorem yAr (x:zD) (h:rP x):(lbl x).length<=33:=by
 have h1:=h.nl;have h2:=zBq 20 x.Version.toNat;unfold lbl;rw [Q0,Q0,Q2];omega
theorem yDs {x:zD} (h1:1<=active) (h3:active<=3) (h:rP x):EvC (imE active x) active:=by
 obtain ⟨f0,f1⟩:=zR5 (e:=imE active x) (active:=active) (b:=zGz x) rfl;have hr:=yFe x.Role h.r1 h.r4;have hl:=yAr x h;exact ⟨⟨hr.1,hr.2,by show (lbl x).length<=64;omega,rfl,f0,f1⟩,h1,h3,by show (1:Int)<=1;omega,by show (1:Int)<=5;omega⟩
theorem yB5 (h:e∈evR active role l):∃ x∈l,x.Role=role/\((role=4/\∃ d∈zIa x,e=mkE 9 3 active d)∨(role≠4/\e=imE active x)):=by
 unfold evR at h;obtain ⟨x,hx,he⟩:=List.mem_flatMap.1 h;by_cases hr:x.Role=role
 ·rw [if_pos hr] at he;by_cases h4:role=4
  ·rw [if_pos h4] at he;obtain ⟨d,hd,rfl⟩:=Qf.1 he;exact ⟨x,hx,hr,.inl ⟨h4,d,hd,rfl⟩⟩
  ·rw [if_neg h4] at he;exact ⟨x,hx,hr,.inr ⟨h4,by simpa using he⟩⟩
 ·rw [if_neg hr] at he;cases he
theorem zMy (h1:1<=active) (h3:active<=3) (hc:qF l):∀ e∈evR active role l,EvC e active:=by
 intro e he;obtain ⟨x,hx,hr,⟨h4,d,hd,rfl⟩ | ⟨_,rfl⟩⟩:=yB5 he
 ·have:=((zMz x (hc.im x hx) (by omega)).2.2 d hd).2.1;exact zYi h1 h3 (by omega) (by omega) (by omega) (by omega) (by omega)
 ·exact yDs h1 h3 (hc.im x hx)
theorem zY4 (h:e∈bF active):∃ i:Nat,i<8/\e=mkE (i:Int) 2 active [0,0,0,0]:=by
 unfold bF at h;obtain ⟨i,hi,rfl⟩:=Qf.1 h;exact ⟨i,List.mem_range.1 hi,rfl⟩
theorem zZo (h1:1<=active) (h3:active<=3) (hc:qF l):∀ e∈evs l active,EvC e active:=by
 intro e he;unfold evs at he;simp only [List.mem_append] at he;rcases he with ((he | he) | (he | he)) | he
 ·exact zMy h1 h3 hc e he
 ·exact zMy h1 h3 hc e he
 ·obtain ⟨i,hi,rfl⟩:=zY4 he;exact zYi h1 h3 (by omega) (by omega) (by omega) (by omega) (by decide)
 ·exact zMy h1 h3 hc e he
 ·exact zMy h1 h3 hc e he
set_option maxRecDepth 100000
def z32:By:=List.replicate 32 0
theorem zSf:z32.length=32:=by simp [z32]
def yDu (d:By) (s0 s1:Int) (g:By):By:=hs 8 [[u8 1],d,wC (wC [] 2 s0) 2 s1,g]
def yEq (d op nm:By):By:=hs 8 [[u8 4],d,[u8 2],op,nm]
def yE7 (l:List By):By:=hs 8 ([u8 8] :: l)
theorem zSq {n a b:Int} (h1:a<=n) (h2:n<=b):sM n a b=some true:=by
 unfold sM;exact ct (decide_eq_true h1) (congrArg some (decide_eq_true h2))
theorem yHj {s0 s1:Int} (a0:0<=s0) (a1:s0<=65535) (b0:0<=s1) (b1:s1<=65535) (hg:g.length=32):uN (zH.mk 1 (A2.mk s0 s1) g 0 0 [] [] [] [])=some 0:=by
 unfold uN;refine ct rfl (bd (zSq a0 a1) (ct rfl (bd (zSq b0 b1) (ct rfl (bd (a:=0) ?_ rfl)))));show tR ((g.length:Int)==32)=_;rw [hg];rfl
theorem yF5 (ho:op.length<=128) (hn:nm.length=32):uN (zH.mk 4 (A2.mk 0 0) [] 0 2 op nm [] [])=some 0:=by
 unfold uN;refine cf rfl (cf rfl (cf rfl (ct rfl (bd (a:=true) rfl (ct rfl (bd (a:=0) ?_ (bd (a:=0) ?_ rfl)))))))
 ·show tR ((nm.length:Int)==32)=_;rw [hn];rfl
 ·unfold zAf;exact ct rfl (cf (decide_eq_false (by show ¬ ((128:Int)<(op.length:Int));omega)) rfl)
theorem yFz {s0 s1:Int} (hd:d.length=32) (a0:0<=s0) (a1:s0<=65535) (b0:0<=s1) (b1:s1<=65535) (hg:g.length=32):wR d (zH.mk 1 (A2.mk s0 s1) g 0 0 [] [] [] [])=some (yDu d s0 s1 g):=by
 unfold wR;refine bd (yHj a0 a1 b0 b1 hg) (cf rfl (bd (a:=[d,wC (wC [] 2 s0) 2 s1,g]) ?_ (bd (yP (by simp)) (bd (zA9 _ _ ?_) rfl))))
 ·unfold nD;exact ct rfl (bd (uJ [] 2 s0 (by decide) (by decide) (by simp)) (bd (uJ _ 2 s1 (by decide) (by decide) (by rw [xI];simp)) rfl))
 ·simp [tot,xI,hd,hg]
theorem yGd (hd:d.length=32) (ho:op.length<=128) (hn:nm.length=32):wR d (zH.mk 4 (A2.mk 0 0) [] 0 2 op nm [] [])=some (yEq d op nm):=by
 unfold wR;refine bd (yF5 ho hn) (cf rfl (bd (a:=[d,[u8 2],op,nm]) ?_ (bd (yP (by simp)) (bd (zA9 _ _ ?_) rfl))))
 ·unfold nD;exact cf rfl (cf rfl (cf rfl (ct rfl rfl)))
 ·simp [tot,hd,hn];omega
theorem yHr {a:By} (ha:a.length=32) (hb:b.length=32):uN (zH.mk 8 (A2.mk 0 0) [] 0 0 [] [] [] [a,b])=some 0:=by
 unfold uN;refine cf rfl (cf rfl (cf rfl (cf rfl (cf rfl (cf rfl (cf rfl (cf rfl (ct rfl (bd (a:=true) rfl (bd (a:=true) ?_ (bd (a:=0) rfl rfl)))))))))));refine yM 2 (λi=>(true,(i:Int))) rfl (λi hi=>?_) rfl (wM (by omega));rcases (show i=0∨i=1 by omega) with rfl | rfl
 ·unfold iY;refine ct rfl (bd (a:=a) rfl (ct rfl ?_));rw [ha];rfl
 ·unfold iY;refine ct rfl (bd (a:=b) rfl (ct rfl ?_));rw [hb];rfl
theorem yHm {a:By} (ha:a.length=32) (hb:b.length=32):wR d (zH.mk 8 (A2.mk 0 0) [] 0 0 [] [] [] [a,b])=some (yE7 [a,b]):=by
 unfold wR;refine bd (yHr ha hb) (cf rfl (bd (a:=[a,b]) ?_ (bd (yP (by simp)) (bd (zA9 _ _ ?_) rfl))))
 ·unfold nD;exact cf rfl (cf rfl (cf rfl (cf rfl (cf rfl (cf rfl (ct rfl rfl))))))
 ·simp [tot,ha,hb]
theorem zW1:mO=some z32:=by decide +kernel
theorem yHw {b:zH} (h1:wR z32 a=some d1) (h2:wR d1 b=some d2) (l1:d1.length=32) (l2:d2.length=32):uP [a,b]=some d2:=by
 unfold uP;refine bd zW1 (bd (a:=d2) ?_ rfl);refine yM (x:=(z32,(0:Int))) 2 (λi=>(match i with | 0=>z32 | 1=>d1 | _=>d2,(i:Int))) rfl (λi hi=>?_) ?_ (wM (by omega))
 rotate_left
 ·rfl
 rcases (show i=0∨i=1 by omega) with rfl | rfl
 ·unfold oN;exact ct rfl (bd (a:=a) rfl (bd h1 (bd (ckT (by rw [l1];rfl)) rfl)))
 ·unfold oN;exact ct rfl (bd (a:=b) rfl (bd h2 (bd (ckT (by rw [l2];rfl)) rfl)))
theorem yG0 (h1:wR z32 a=some d1) (l1:d1.length=32):uP [a]=some d1:=by
 unfold uP;refine bd zW1 (bd (a:=d1) ?_ rfl);refine yM (x:=(z32,(0:Int))) 1 (λi=>(match i with | 0=>z32 | _=>d1,(i:Int))) rfl (λi hi=>?_) ?_ (wM (by omega))
 rotate_left
 ·rfl
 obtain rfl:i=0:=by omega
 unfold oN;exact ct rfl (bd (a:=a) rfl (bd h1 (bd (ckT (by rw [l1];rfl)) rfl)))
def ixn (x:zJ):By:=hs 7 [wC [u8 x.N,u8 x.Kind,u8 x.Attr] 2 x.Size++[if x.Written=true then 1 else 0],x.Policy]
theorem yD1 (x:zJ) (h:x.Policy.length<=32):tJ x=some (ixn x):=by
 unfold tJ;refine bd (uJ _ 2 _ (by decide) (by decide) (by simp)) (bd (a:=if x.Written=true then 1 else 0) (by cases x.Written<;>rfl) (bd (yP (by rw [xI];simp)) (bd (zA9 _ _ ?_) rfl)));simp [tot,xI];omega
def prd (active:Int) (c:List zD):By:=dgs active (rpl active (evs c active))
theorem yD6 (h:qF c):xC c=some 0:=by
 obtain ⟨r,h1,h2,_⟩:=zK7 c (by have:=h.len;omega);rw [aV c h] at h1;cases h1;exact h2
theorem vbr (h:qF c) (h1:1<=active) (h3:active<=3):fE c active=some (zH.mk 1 (A2.mk (wO active 0) (wO active 1)) (prd active c) 0 0 [] [] [] [],0):=by
 have hlen:=zYw c active h;have hlg:zX6 (sK.mk active 0 (evs c active)):=⟨λe he=>zZo h1 h3 h e he,by show (evs c active).length<=40;omega⟩;obtain ⟨r,hr,hr2⟩:=zOs _ hlg h1 h3;subst hr2;unfold fE;refine bd (zY2 active h1 h3) (bd (a:=(prd active c,0)) ?_ (cf rfl rfl));unfold mY;refine bd (a:=(rpl active (evs c active),0)) ?_ (cf rfl (bd (zMw _ active (zMp active _ h1 h3)) rfl));unfold mQ;exact bd (yD6 h) (cf rfl (bd (a:=false) (cf (decide_eq_false (by omega)) (congrArg some (decide_eq_false (by omega)))) (cf rfl (bd (zQf c active h h1 h3) (bd hr rfl)))))
def brn (active epoch:Int) (x:zJ) (c:List zD):By:=yEq (yDu z32 (wO active 0) (wO active 1) (prd active c)) (wC [] 8 (epoch+1)) (ixn x)
theorem zIr (active epoch:Int) (x:zJ) (c:List zD):(brn active epoch x c).length=32:=mP _ _
theorem yA7 (active epoch:Int) (x:zJ) (hx:x.Policy.length<=32) :
  uP [zH.mk 1 (A2.mk (wO active 0) (wO active 1)) (prd active c) 0 0 [] [] [] [],zH.mk 4 (A2.mk 0 0) [] 0 2 (wC [] 8 (epoch+1)) (ixn x) [] []]=some (brn active epoch x c):=
 yHw (yFz zSf (rZ active 0).1 (rZ active 0).2 (rZ active 1).1 (rZ active 1).2 (zSs _ _)) (yGd (mP _ _) (by rw [xI];simp) (mP _ _)) (mP _ _) (mP _ _)
def zLp (chains:List (List zD)) (epoch:Int):Prop:=(chains.length=1∨chains.length=2)/\0<=epoch/\epoch<1099511627776
theorem pbad (h:¬ zLp chains epoch):sN chains active epoch x=some ([],1):=by
 have hq:(chains.length=1∨chains.length=2)->¬ epoch<0->1099511627776<=epoch:=λhn g=>by
  by_cases q:epoch<1099511627776
  ·exact absurd ⟨hn,by omega,q⟩ h
  ·omega
 unfold sN;refine bd (a:=([],1)) ?_ (ct rfl rfl);unfold tU;refine bd (a:=true) ?_ (ct rfl rfl);by_cases g1:chains.length=1
 ·refine cf (by rw [g1];rfl) ?_;by_cases g:epoch<0
  ·exact ct (decide_eq_true g) rfl
  ·exact cf (decide_eq_false g) (congrArg some (decide_eq_true (hq (.inl g1) g)))
 ·refine ct (by simp;omega) ?_;by_cases g2:chains.length=2
  ·refine cf (by rw [g2];rfl) ?_;by_cases g:epoch<0
   ·exact ct (decide_eq_true g) rfl
   ·exact cf (decide_eq_false g) (congrArg some (decide_eq_true (hq (.inr g2) g)))
  ·exact ct (by simp;omega) rfl
def pol (active epoch:Int) (x:zJ) (chains:List (List zD)):By:=match chains with
 | [c]=>brn active epoch x c
 | l=>yE7 (l.map (brn active epoch x))
theorem zOk {β:Type} {l:List α} {f:α->β} (h:i<l.length):(l.take (i+1)).map f=(l.take i).map f++[f l[i]]:=by
 rw [Q4,List.map_append,List.getElem?_eq_getElem h];rfl
theorem pbrs (h:zLp chains epoch) (hx:x.Policy.length<=32) (hc:∀ c∈chains,qF c) (h1:1<=active) (h3:active<=3) :
  tU chains active epoch x=some (chains.map (brn active epoch x),0):=by
 obtain ⟨hn,e0,e1⟩:=h;unfold tU;refine bd (a:=false) ?_ (cf rfl (bd (yD1 x hx) (bd (a:=wC [] 8 (epoch+1)) ?_ (bd (a:=.inr (chains.map (brn active epoch x))) ?_ rfl))))
 ·rcases hn with g | g
  ·exact cf (by rw [g];rfl) (cf (decide_eq_false (by omega)) (congrArg some (decide_eq_false (by omega))))
  ·exact ct (by rw [g];rfl) (cf (by rw [g];rfl) (cf (decide_eq_false (by omega)) (congrArg some (decide_eq_false (by omega)))))
 ·unfold gJ;refine bd ?_ rfl;rw [xU (by omega) (by omega)];exact uJ [] 8 _ (by decide) (by decide) (by simp)
 ·have hn2:chains.length<=2:=by omega
  refine yM chains.length (λi=>((chains.take i).map (brn active epoch x),(i:Int))) (by simp) (λi hi=>?_) ?_ (wM (by omega))
  ·unfold nY;refine ct (decide_eq_true (by omega)) (bd (xH hi) (bd (vbr (hc _ (Q7 hi)) h1 h3) (cf rfl (bd (yA7 active epoch x hx) (bd (yP (by simp;omega)) ?_)))));rw [xU (by omega) (by omega),zOk hi];rfl
  ·unfold nY;refine cf (decide_eq_false (by omega)) ?_;rw [Qd]
theorem yFq (h:zLp chains epoch) (hx:x.Policy.length<=32) (hc:∀ c∈chains,qF c) (h1:1<=active) (h3:active<=3) :
  sN chains active epoch x=some (pol active epoch x chains,0):=by
 unfold sN;refine bd (pbrs h hx hc h1 h3) (cf rfl ?_)
 match chains,h.1 with
 | [c],_=>exact ct rfl rfl
 | [a,b],_=>exact cf rfl (bd (yG0 (yHm (zIr _ _ _ _) (zIr _ _ _ _)) (mP _ _)) rfl)
 | [],h=>exact absurd h (by simp)
 | a :: b :: c :: l,h=>exact absurd h (by simp)
set_option maxRecDepth 100000
theorem zZf (hc:qF l) (h1:1<=active) (h3:active<=3):jI l active=some (rpl active (evs l active),0):=by
 have hle:=zYw l active hc;obtain ⟨⟨r,e⟩,er,hr,he⟩:=zQ6 ⟨active,0,evs l active⟩ (by show (evs l active).length<2 ^ 20;omega) h1 h3;have he:e=0:=he (zZo h1 h3 hc);subst he;have hr:r=rpl active (evs l active):=hr rfl;subst hr;unfold jI;refine bd (aV l hc) (cf rfl ?_);refine bd (a:=false) (cf (decide_eq_false (by omega)) (congrArg some (decide_eq_false (by omega)))) (cf rfl ?_);refine bd (zU2 l active hc h1 h3) ?_;exact bd er rfl
theorem rbr (h:qF c) (h1:1<=active) (h3:active<=3):gY c active=some (zH.mk 1 (A2.mk (wO active 0) (wO active 1)) (prd active c) 0 0 [] [] [] [],0):=by
 unfold gY;refine bd (yCk active h1 h3) (bd (a:=(prd active c,0)) ?_ (cf rfl rfl));unfold nB;exact bd (zZf h h1 h3) (cf rfl (bd (zNp _ active (zMp active _ h1 h3)) rfl))
theorem rixn (x:zJ) (h:x.Policy.length<=32):nP x=some (ixn x):=by
 unfold nP;refine bd (a:=wC [u8 x.N,u8 x.Kind,u8 x.Attr] 2 x.Size++[if x.Written=true then 1 else 0]) ?_ (bd (zNh _ _ ?_) rfl)
 ·unfold iL;refine bd (a:=if x.Written=true then 1 else 0) (by cases x.Written<;>rfl) (bd (mS _ 2 _ (by decide) (by decide) (by simp)) (bd (yP (by rw [xI];simp)) ?_));cases x.Written<;>rfl
 ·simp [tot,xI];omega
theorem yF4 {s0 s1:Int} (a0:0<=s0) (a1:s0<=65535) (b0:0<=s1) (b1:s1<=65535) (hg:g.length=32):rO (zH.mk 1 (A2.mk s0 s1) g 0 0 [] [] [] [])=some 0:=by
 unfold rO;refine bd (a:=.inr true) (ct rfl (bd (a:=true) ?_ (ct rfl ?_))) rfl
 ·unfold aH;exact bd (a:=true) (ct (decide_eq_true a0) (ct (decide_eq_true a1) (ct (decide_eq_true b0) (congrArg some (decide_eq_true b1))))) rfl
 ·show some (Sum.inr ((g.length:Int)==32))=_;rw [hg];rfl
theorem yEv (ho:op.length<=128) (hn:nm.length=32):eB nm op=some 0:=by
 unfold eB;exact cf (by rw [hn];rfl) (cf (decide_eq_false (by omega)) rfl)
theorem yHl (ho:op.length<=128) (hn:nm.length=32):rO (zH.mk 4 (A2.mk 0 0) [] 0 2 op nm [] [])=some 0:=by
 unfold rO;exact bd (a:=.inl 0) (cf rfl (cf rfl (cf rfl (ct rfl (bd (a:=false) (cf rfl rfl) (cf rfl (bd (yEv ho hn) rfl))))))) rfl
theorem yHe {a:By} (ha:a.length=32) (hb:b.length=32):rO (zH.mk 8 (A2.mk 0 0) [] 0 0 [] [] [] [a,b])=some 0:=by
 unfold rO;refine bd (a:=.inr true) (cf rfl (cf rfl (cf rfl (cf rfl (cf rfl (bd (a:=false) (cf rfl rfl) (cf rfl (cf rfl (ct rfl (bd (a:=true) ?_ rfl)))))))))) rfl;unfold cB;refine bd (a:=false) (cf rfl rfl) (cf rfl (bd (a:=.inr ()) ?_ rfl));refine yM 2 (λi=>(i:Int)) rfl (λi hi=>?_) rfl (wM (by omega));rcases (show i=0∨i=1 by omega) with rfl | rfl
 ·unfold kS;exact ct rfl (bd (a:=a) rfl (cf (by rw [ha];rfl) rfl))
 ·unfold kS;exact ct rfl (bd (a:=b) rfl (cf (by rw [hb];rfl) rfl))
theorem yEf {fs:List By} {tag:Int} (hc:rO a=some 0) (hf:kV d a=some (frm 8 fs)) (ht:tot fs<2 ^ 32):uS d a=some (hs 8 fs):=by
 unfold uS;exact bd hc (cf rfl (bd hf (bd (zL4 _ (by rw [zFj];omega)) rfl)))
theorem yGm {s0 s1:Int} (hd:d.length=32) (a0:0<=s0) (a1:s0<=65535) (b0:0<=s1) (b1:s1<=65535) (hg:g.length=32):uS d (zH.mk 1 (A2.mk s0 s1) g 0 0 [] [] [] [])=some (yDu d s0 s1 g):=by
 have ht:tot [[u8 1],d,wC (wC [] 2 s0) 2 s1,g]<2 ^ 32:=by simp [tot,xI,hd,hg]
 refine yEf (tag:=0) (yF4 a0 a1 b0 b1 hg) ?_ ht;unfold kV;refine bd (a:=[[u8 1],d,wC (wC [] 2 s0) 2 s1,g]) (ct rfl ?_) (bd (zCo _ _ ht) rfl);exact bd (mS [] 2 s0 (by decide) (by decide) (by simp)) (bd (mS _ 2 s1 (by decide) (by decide) (by rw [xI];simp)) (bd (yP (by simp)) rfl))
theorem yGs (hd:d.length=32) (ho:op.length<=128) (hn:nm.length=32):uS d (zH.mk 4 (A2.mk 0 0) [] 0 2 op nm [] [])=some (yEq d op nm):=by
 have ht:tot [[u8 4],d,[u8 2],op,nm]<2 ^ 32:=by simp [tot,hd,hn];omega
 refine yEf (tag:=0) (yHl ho hn) ?_ ht;unfold kV;refine bd (a:=[[u8 4],d,[u8 2],op,nm]) (cf rfl (bd (a:=false) (cf rfl rfl) (cf rfl (ct rfl ?_)))) (bd (zCo _ _ ht) rfl);exact bd (yP (by simp)) rfl
theorem yGj {a:By} (ha:a.length=32) (hb:b.length=32):uS d (zH.mk 8 (A2.mk 0 0) [] 0 0 [] [] [] [a,b])=some (yE7 [a,b]):=by
 have ht:tot [[u8 8],a,b]<2 ^ 32:=by simp [tot,ha,hb]
 refine yEf (tag:=0) (yHe ha hb) ?_ ht;unfold kV;refine bd (a:=[[u8 8],a,b]) (cf rfl (bd (a:=false) (cf rfl rfl) (cf rfl (cf rfl (cf rfl (cf rfl (cf rfl (ct rfl ?_)))))))) (bd (zCo _ _ ht) rfl);exact bd (yP (by simp)) rfl
theorem zWh:zEm=some z32:=by decide +kernel
theorem yHx {b:zH} (h1:uS z32 a=some d1) (h2:uS d1 b=some d2) (l1:d1.length=32) (l2:d2.length=32):rK [a,b]=some d2:=by
 unfold rK;refine bd zWh (bd (a:=.inr d2) ?_ rfl);refine yM (x:=(z32,(0:Int))) 2 (λi=>(match i with | 0=>z32 | 1=>d1 | _=>d2,(i:Int))) rfl (λi hi=>?_) ?_ (wM (by omega))
 rotate_left
 ·rfl
 rcases (show i=0∨i=1 by omega) with rfl | rfl
 ·unfold kE;exact ct rfl (bd (a:=a) rfl (bd h1 (cf (by rw [l1];rfl) rfl)))
 ·unfold kE;exact ct rfl (bd (a:=b) rfl (bd h2 (cf (by rw [l2];rfl) rfl)))
theorem yHa (h1:uS z32 a=some d1) (l1:d1.length=32):rK [a]=some d1:=by
 unfold rK;refine bd zWh (bd (a:=.inr d1) ?_ rfl);refine yM (x:=(z32,(0:Int))) 1 (λi=>(match i with | 0=>z32 | _=>d1,(i:Int))) rfl (λi hi=>?_) ?_ (wM (by omega))
 rotate_left
 ·rfl
 obtain rfl:i=0:=by omega
 unfold kE;exact ct rfl (bd (a:=a) rfl (bd h1 (cf (by rw [l1];rfl) rfl)))
theorem yAz (active epoch:Int) (x:zJ) :
  rK [zH.mk 1 (A2.mk (wO active 0) (wO active 1)) (prd active c) 0 0 [] [] [] [],zH.mk 4 (A2.mk 0 0) [] 0 2 (wC [] 8 (epoch+1)) (ixn x) [] []]=some (brn active epoch x c):=
 yHx (yGm zSf (rZ active 0).1 (rZ active 0).2 (rZ active 1).1 (rZ active 1).2 (zSs _ _)) (yGs (mP _ _) (by rw [xI];simp) (mP _ _)) (mP _ _) (mP _ _)
theorem rbad (h:¬ zLp chains epoch):jA chains active epoch x=some ([],1):=by
 unfold jA;refine bd (a:=true) ?_ (ct rfl rfl);by_cases g1:(chains.length:Int)<1
 ·exact ct (decide_eq_true g1) rfl
 refine cf (decide_eq_false g1) ?_;by_cases g2:2<(chains.length:Int)
 ·exact ct (decide_eq_true g2) rfl
 refine cf (decide_eq_false g2) ?_;by_cases g3:epoch<0
 ·exact ct (decide_eq_true g3) rfl
 refine cf (decide_eq_false g3) (congrArg some (decide_eq_true ?_));by_cases q:epoch<1099511627776
 ·exact absurd ⟨by omega,by omega,q⟩ h
 ·omega
theorem yGk (h:zLp chains epoch) (hx:x.Policy.length<=32) (hc:∀ c∈chains,qF c) (h1:1<=active) (h3:active<=3) :
  jA chains active epoch x=some (pol active epoch x chains,0):=by
 obtain ⟨hn,e0,e1⟩:=h;have hn2:chains.length<=2:=by omega
 unfold jA;refine bd (a:=false) (cf (decide_eq_false (by omega)) (cf (decide_eq_false (by omega)) (cf (decide_eq_false (by omega)) (congrArg some (decide_eq_false (by omega)))))) (cf rfl ?_);refine bd (a:=.inr (chains.map (brn active epoch x))) ?_ ?_
 ·refine yM chains.length (λi=>((chains.take i).map (brn active epoch x),(i:Int))) (by simp) (λi hi=>?_) ?_ (wM (by omega))
  ·unfold dX;refine ct (decide_eq_true (by omega)) (bd (xH hi) (bd (rbr (hc _ (Q7 hi)) h1 h3) (cf rfl (bd (rixn x hx) (bd (a:=wC [] 8 (epoch+1)) ?_ (bd (yAz active epoch x) (bd (yP (by simp;omega)) ?_)))))))
   ·rw [xU (by omega) (by omega)];exact mS [] 8 _ (by decide) (by decide) (by simp)
   ·rw [xU (by omega) (by omega),zOk hi];rfl
  ·unfold dX;refine cf (decide_eq_false (by omega)) ?_;rw [Qd]
 ·refine bd (a:=pol active epoch x chains) ?_ rfl;unfold zD7
  match chains,hn with
  | [c],_=>exact ct rfl rfl
  | [a,b],_=>exact cf rfl (bd (yHa (yGj (zIr _ _ _ _) (zIr _ _ _ _)) (mP _ _)) rfl)
  | [],h=>exact absurd h (by simp)
  | a :: b :: c :: l,h=>exact absurd h (by simp)
theorem yB8 (active epoch:Int) (x:zJ) (chains:List (List zD)):(pol active epoch x chains).length=32:=by
 unfold pol;split
 ·exact mP _ _
 ·exact mP _ _
end Go.Proofs.TT
