/- AppraiseVerdict (law 37: the verdict about evidence that is right but for up to two changes) is proved for every input, under no condition of ours; this text is a part of that proof. -/
import Derived.Test.YteadpnddgpfbdaaGreatDoorZ12
set_option linter.all false
open Go.Sw.Def renaming bd -> Q0, s -> Q1, c -> Q2, of -> Q6, loop -> Q7, app -> Ql, ixN -> Qn, idx -> Qo, sub -> Qq, ck -> Qr, upd -> Qw, lt -> Qy, mono -> Wd
open List renaming length_append -> Q3, length_nil -> Q5, length_cons -> Q8, getElem_mem -> Q9, take_of_length_le -> Qa, replicate -> Qb, drop_eq_getElem_cons -> Qd, mem_append -> Qe, flatMap_cons -> Qf, take_add_one -> Qg, drop_eq_nil_of_le -> Qi, mem_cons_self -> Qj, append_assoc -> Qk, mem_cons_of_mem -> Qs, length_singleton -> Qz, take_append_drop -> W0, mem_of_mem_take -> W1, mem_iff_getElem -> W2, mem_cons -> W3, flatMap_append -> W4, not_mem_nil -> W5, drop_length -> W6, append_nil -> W7, nil_append -> W9
open Int renaming toNat_natCast -> Q4, le_refl -> Qp, tmod_eq_emod_of_nonneg -> Qv, eq_ofNat_of_zero_le -> Qx, tdiv -> Wb, tmod -> Wc
open Go.Op renaming bytesLess -> Qc
open Go.IntKind renaming u32 -> Qh, i64 -> Qm, u64 -> Qt
open Nat renaming le_refl -> Qu, blt_eq -> W8, blt -> Wa
namespace Go.Sw
open Go
theorem nK {X Y:Type} {s1 s2:X->Option (X ⊕ Y)} (I:X->Prop) (h:∀ s,I s->s1 s=s2 s/\Def (s2 s) (λr=>∀ s',r=.inl s'->I s')):∀ (n:Nat) (s:X),I s->zK s1 n s=zK s2 n s
 | 0,_,_=>rfl
 | n+1,s,hs=>by
  obtain ⟨e,r,hr,hI⟩:=h s hs;simp only [zK];rw [e,hr];cases r with
  | inl s'=>exact nK I h n s' (hI s' rfl)
  | inr y=>rfl
end Go.Sw
namespace Go.Proofs.TT
open Go Go.Sw
set_option maxRecDepth 100000
variable {a:Nat}{active:Int}{b:Bool}{bk:List By}{c:Bool}{e:zC}{i j:Nat}{p:Prop}{α:Type}{l:List α}
theorem dT [Decidable p] (h:decide p=true):p:=by simpa using h
theorem dF [Decidable p] (h:decide p=false):¬ p:=by simpa using h
theorem Def.at' (h:i<l.length):Def (idx l (i:Int)) (λr=>r=l[i]):=⟨_,yT h,rfl⟩
theorem vD {R:Type} (l:List α) (step:Int->Option (Int ⊕ (R ⊕ Unit))) (G:Nat->Prop) (B:R->Prop) (hl:l.length<2 ^ 40)
  (h:∀ i,i<l.length->Def (step (i:Int)) (λr=>match r with | .inl j=>j=((i+1:Nat):Int)/\G i | .inr (.inl b)=>B b | .inr (.inr _)=>False))
  (he:step (l.length:Int)=some (.inr (.inr ()))):Def (zK step FU 0) (λr=>match r with | .inl b=>B b | .inr _=>∀ i,i<l.length->G i):=by
 refine Q7 (λs=>∃ i:Nat,s=(i:Int)/\i<=l.length/\∀ k,k<i->G k) (λs=>l.length - s.toNat) (λs hs=>?_) ⟨0,rfl,by omega,λk hk=>by omega⟩ (by simp;omega);obtain ⟨i,rfl,hi,hg⟩:=hs;by_cases h2:i<l.length
 ·refine (h i h2).mono λr hr=>?_
  match r,hr with
  | .inl j,hr=>
   refine ⟨⟨i+1,hr.1,h2,λk hk=>?_⟩,by rw [hr.1];simp only [Q4];omega⟩;by_cases hk2:k<i
   ·exact hg k hk2
   ·have:k=i:=by omega
    subst this;exact hr.2
  | .inr (.inl b),hr=>exact hr
  | .inr (.inr u),hr=>exact hr.elim
 ·have:i=l.length:=by omega
  subst this;exact Q6 he hg
theorem two {X Y:Type} {step:X->Option (X ⊕ Y)} {a b c:X} {r:Y} (h0:step a=some (.inl b)) (h1:step b=some (.inl c)) (h2:step c=some (.inr r)):zK step FU a=some r:=by
 refine yB 2 (λi=>match i with | 0=>a | 1=>b | _=>c) rfl (λi hi=>?_) h2 (xI (by decide));have:i=0∨i=1:=by omega
 rcases this with rfl | rfl
 ·exact h0
 ·exact h1
theorem yAe (x n m:Int) (h:xG .u64 (Qt.wrap n) 31=32 - m) (hn:n=32 - m) (h0:0<=m) (h1:m<=32):zP x n=sR x n:=by
 rw [nY x n m h h0 h1];subst hn;have h2:Qt.wrap (32 - (32 - m))=m:=by rw [IntKind.wrap_u64];omega
 have h4:decide ((0:Int)<=32 - m)=true:=by simp;omega
 simp only [sR,ck,lt,h2,h4,rr,cond_true,Option.bind_some];rw [zLy]
theorem rot1 (x:Int):zP x 1=sR x 1:=yAe x 1 31 (by decide) (by decide) (by decide) (by decide)
theorem rot5 (x:Int):zP x 5=sR x 5:=yAe x 5 27 (by decide) (by decide) (by decide) (by decide)
theorem yFh (x:Int):zP x 30=sR x 30:=yAe x 30 2 (by decide) (by decide) (by decide) (by decide)
theorem zG3 (x n:Int) (h0:0<=n):Def (sR x n) (λ_=>True):=by
 unfold sR;refine Q0 (Qr (by simpa using h0)) (λ_ _=>?_);exact Qy (Q1 trivial)
theorem w80 {w:List Int} (hw:w.length=80) (hj:j<80):Def (w[j]?) (λ_=>True):=(Def.at (by omega)).mono λ_ _=>trivial
theorem ixw {n:Nat} (hn:j<n) (z:Int) (hz:z=(j:Int)):Def (Go.Sw.ixN n z) (λr=>r=j):=by
 subst hz;exact (Qn (by omega) (by omega)).mono λa h=>by rw [h.1];simp
theorem s1_s (x:By) (at' i:Nat) (w:List Int) (h:at'+64<=x.length) (hb:x.length<2 ^ 42) (hi:i<=80) (hw:w.length=80) :
  Def (tJ x (at':Int) ((i:Int),w)) (λr=>match r with | .inl s=>∃ w',s=(((i+1:Nat):Int),w')/\i<80/\w'.length=80 | .inr w=>w.length=80):=by
 unfold tJ;refine Q2 (λh=>?_) (λ_=>Q1 hw);have hi2:i<80:=by have:=dT h;omega
 have up:∀ v,Def ((Go.Sw.ixN 80 (i:Int)).bind λj=>(vJ w j v).bind λw=>some w) (λw'=>w'.length=80):=λv=>by
  refine Q0 (ixw hi2 _ rfl) (λj hj=>?_);subst hj;exact Q0 (Qw (by omega)) (λr hr=>Q1 (by rw [hr];simpa using hw))
 refine Q0 (P:=λw'=>w'.length=80) ?_ (λw' hw'=>Q1 ⟨w',by rw [yM (by omega)],hi2,hw'⟩);refine Q2 (λh16=>?_) (λh16=>?_)
 ·have h16':i<16:=by have:=dT h16;omega
  rw [zZ (by omega) (by omega)];refine Q0 (Qq (by omega) (by omega) (by omega)) (λy hy=>?_);have hyl:y.length=64:=by rw [hy];simp;omega
  exact Q0 (P:=λ_=>True) (Q6 (zKu y i (by omega) (by omega)) trivial) (λv _=>up v)
 ·have h16':16<=i:=by have:=dF h16;omega
  have wr:∀ k:Nat,k<=16->Qm.wrap ((i:Int) - (k:Int))=((i - k:Nat):Int):=λk hk=>by rw [zZ (by omega) (by omega)];omega
  refine Q0 (ixw (show i - 3<80 by omega) _ (wr 3 (by omega))) (λj hj=>?_);refine Q0 (w80 hw (by omega)) (λ_ _=>?_);refine Q0 (ixw (show i - 8<80 by omega) _ (wr 8 (by omega))) (λj hj=>?_);refine Q0 (w80 hw (by omega)) (λ_ _=>?_);refine Q0 (ixw (show i - 14<80 by omega) _ (wr 14 (by omega))) (λj hj=>?_);refine Q0 (w80 hw (by omega)) (λ_ _=>?_);refine Q0 (ixw (show i - 16<80 by omega) _ (wr 16 (by omega))) (λj hj=>?_);refine Q0 (w80 hw (by omega)) (λ_ _=>?_);refine Qy ?_;exact Q0 (zG3 _ _ (by decide)) (λv _=>up v)
theorem s1_e (x:By) (at' i:Nat) (w:List Int) (h:at'+64<=x.length) (hb:x.length<2 ^ 42):uA (s9 x at') ((i:Int),w)=tJ x (at':Int) ((i:Int),w):=by
 unfold uA tJ;have hs:sub x (at':Int) (Qm.wrap ((at':Int)+64))=some (s9 x at'):=by
  rw [zZ (by omega) (by omega),show (at':Int)+64=((at'+64:Nat):Int) by omega,uL (by omega) (by omega)];simp [s9]
 simp only [rot1,hs,zNl,Option.bind_some]
theorem yCb (x:By) (at':Nat) (h:at'+64<=x.length) (hb:x.length<2 ^ 42) :
  Def (zK (tJ x (at':Int)) FU (0,Qb 80 0)) (λw=>w.length=80/\zK (uA (s9 x at')) FU (0,Qb 80 0)=some w):=by
 have e:zK (uA (s9 x at')) FU (0,Qb 80 0)=zK (tJ x (at':Int)) FU (0,Qb 80 0):=by
  refine nK (λs=>∃ i:Nat,s.1=(i:Int)/\i<=80/\s.2.length=80) (λs hs=>?_) _ _ ⟨0,rfl,by omega,by simp⟩;obtain ⟨i',w⟩:=s;obtain ⟨i,h1,hi,hw⟩:=hs;have h1:i'=(i:Int):=h1;subst h1;refine ⟨s1_e x at' i w h hb,(s1_s x at' i w h hb hi hw).mono λr hr s' hs'=>?_⟩;subst hs';obtain ⟨w',rfl,h2,h3⟩:=hr;exact ⟨i+1,rfl,by omega,h3⟩
 rw [e];obtain ⟨w,h1,h2⟩:Def (zK (tJ x (at':Int)) FU (0,Qb 80 0)) (λw=>w.length=80):=by
  refine Q7 (λs=>∃ i:Nat,s.1=(i:Int)/\i<=80/\s.2.length=80) (λs=>80 - s.1.toNat) (λs hs=>?_) ⟨0,rfl,by omega,by simp⟩ (by simp);obtain ⟨i',w⟩:=s;obtain ⟨i,h1,hi,hw⟩:=hs;have h1:i'=(i:Int):=h1;subst h1;refine (s1_s x at' i w h hb hi hw).mono λr hr=>?_;cases r with
  | inl s'=>
   obtain ⟨w',rfl,h2,h3⟩:=hr;exact ⟨⟨i+1,rfl,by omega,h3⟩,by simp only [Q4];omega⟩
  | inr w=>exact hr
 exact ⟨w,h1,h2,h1⟩
theorem r1_s (w:List Int) (hw:w.length=80) (a b c d e:Int) (i:Nat) (hi:i<=80) :
  Def (tH w (a,b,c,d,e,(i:Int))) (λr=>match r with | .inl s=>s.2.2.2.2.2=((i+1:Nat):Int)/\i<80 | .inr _=>True):=by
 unfold tH;refine Q2 (λh=>?_) (λ_=>Q1 trivial);have hi2:i<80:=by have:=dT h;omega
 refine Q0 (P:=λ_=>True) ?_ (λx _=>?_)
 ·exact Q2 (λ_=>Qy (Q1 trivial)) (λ_=>Q2 (λ_=>Q1 trivial) (λ_=>Q2 (λ_=>Qy (Q1 trivial)) (λ_=>Q1 trivial)))
 obtain ⟨f,k⟩:=x;refine Q0 (zG3 _ _ (by decide)) (λ_ _=>?_);refine Qy ?_;refine Q0 (ixw hi2 _ rfl) (λj hj=>?_);refine Q0 (w80 hw (by omega)) (λ_ _=>?_);refine Qy ?_;refine Q0 (zG3 _ _ (by decide)) (λ_ _=>Q1 ?_);exact ⟨yM (by omega),hi2⟩
theorem r1_e (w:List Int) (a b c d e:Int) (i:Nat) (hi:i<=80):uF w (a,b,c,d,e,(i:Int))=tH w (a,b,c,d,e,(i:Int)):=by
 have hq:Qm.wrap (Wb (i:Int) 20)=((i / 20:Nat):Int):=by
  rw [show Wb (i:Int) 20=((i / 20:Nat):Int) from rfl];exact zZ (by omega) (by omega)
 unfold uF tH;simp only [rot5,yFh,hq];by_cases h1:i<20
 ·rw [show (((i / 20:Nat):Int)==0)=true by simp;omega,show decide ((i:Int)<20)=true by simp;omega];rfl
 by_cases h2:i<40
 ·rw [show (((i / 20:Nat):Int)==0)=false by simp;omega,show decide ((i:Int)<20)=false by simp;omega,show (((i / 20:Nat):Int)==1)=true by simp;omega,show decide ((i:Int)<40)=true by simp;omega];rfl
 by_cases h3:i<60
 ·rw [show (((i / 20:Nat):Int)==0)=false by simp;omega,show decide ((i:Int)<20)=false by simp;omega,show (((i / 20:Nat):Int)==1)=false by simp;omega,show decide ((i:Int)<40)=false by simp;omega,show (((i / 20:Nat):Int)==2)=true by simp;omega,show decide ((i:Int)<60)=true by simp;omega]
 ·by_cases h4:i<80
  ·rw [show (((i / 20:Nat):Int)==0)=false by simp;omega,show decide ((i:Int)<20)=false by simp;omega,show (((i / 20:Nat):Int)==1)=false by simp;omega,show decide ((i:Int)<40)=false by simp;omega,show (((i / 20:Nat):Int)==2)=false by simp;omega,show decide ((i:Int)<60)=false by simp;omega]
  ·rw [show decide ((i:Int)<80)=false by simp;omega];rfl
theorem yCp (w:List Int) (hw:w.length=80) (a b c d e:Int):Def (zK (tH w) FU (a,b,c,d,e,0)) (λr=>zK (uF w) FU (a,b,c,d,e,0)=some r):=by
 have e1:zK (uF w) FU (a,b,c,d,e,0)=zK (tH w) FU (a,b,c,d,e,0):=by
  refine nK (λs=>∃ i:Nat,s.2.2.2.2.2=(i:Int)/\i<=80) (λs hs=>?_) _ _ ⟨0,rfl,by omega⟩;obtain ⟨a,b,c,d,e,v⟩:=s;obtain ⟨i,h1,hi⟩:=hs;have h1:v=(i:Int):=h1;subst h1;refine ⟨r1_e w a b c d e i hi,(r1_s w hw a b c d e i hi).mono λr hr s' hs'=>?_⟩;subst hs';exact ⟨i+1,hr.1,by have:=hr.2;omega⟩
 rw [e1];obtain ⟨r,h1,_⟩:Def (zK (tH w) FU (a,b,c,d,e,0)) (λ_=>True):=by
  refine Q7 (λs=>∃ i:Nat,s.2.2.2.2.2=(i:Int)/\i<=80) (λs=>80 - s.2.2.2.2.2.toNat) (λs hs=>?_) ⟨0,rfl,by omega⟩ (by simp);obtain ⟨a,b,c,d,e,v⟩:=s;obtain ⟨i,h1,hi⟩:=hs;have h1:v=(i:Int):=h1;subst h1;refine (r1_s w hw a b c d e i hi).mono λr hr=>?_;cases r with
  | inl s'=>exact ⟨⟨i+1,hr.1,by have:=hr.2;omega⟩,by rw [hr.1];simp only [Q4];have:=hr.2;omega⟩
  | inr r=>trivial
 exact ⟨r,h1,h1⟩
def a5 (s:A5 Int):List Int:=[s.a0,s.a1,s.a2,s.a3,s.a4]
def zS4 (h:A5 Int) (b:By):A5 Int:=(uU h b).getD h
theorem blk1 (x:By) (at':Nat) (h:A5 Int) (hx:at'+64<=x.length) (hb:x.length<2 ^ 42) :
  uU h (s9 x at')=some (zS4 h (s9 x at'))/\pN x (a5 h,(at':Int))=some (.inl (a5 (zS4 h (s9 x at')),((at'+64:Nat):Int))):=by
 obtain ⟨w,hw1,hw2,hw3⟩:=yCb x at' hx hb;obtain ⟨⟨a,b,c,d,e⟩,hr1,hr2⟩:=yCp w hw2 h.a0 h.a1 h.a2 h.a3 h.a4;have e1:uU h (s9 x at')=some ⟨Qh.wrap (h.a0+a),Qh.wrap (h.a1+b),Qh.wrap (h.a2+c),Qh.wrap (h.a3+d),Qh.wrap (h.a4+e)⟩:=by
  unfold uU;refine bd hw3 ?_;exact bd hr2 rfl
 have e2:zS4 h (s9 x at')=⟨Qh.wrap (h.a0+a),Qh.wrap (h.a1+b),Qh.wrap (h.a2+c),Qh.wrap (h.a3+d),Qh.wrap (h.a4+e)⟩:=by
  unfold zS4;rw [e1];rfl
 rw [e2];refine ⟨e1,?_⟩;unfold pN;refine ct (dlt (by omega)) ?_;refine bd hw1 ?_;refine bd (a:=h.a0) rfl ?_;refine bd (a:=h.a1) rfl ?_;refine bd (a:=h.a2) rfl ?_;refine bd (a:=h.a3) rfl ?_;refine bd (a:=h.a4) rfl ?_;refine bd hr1 ?_;refine bd (a:=h.a0) rfl ?_;refine bd (a:=h.a1) rfl ?_;refine bd (a:=h.a2) rfl ?_;refine bd (a:=h.a3) rfl ?_;refine bd (a:=h.a4) rfl ?_;rw [zZ (by omega) (by omega),show (at':Int)+64=((at'+64:Nat):Int) by omega];rfl
def zUt:A5 Int:=⟨1732584193,4023233417,2562383102,271733878,3285377520⟩
def zA1 (x:By):Nat->A5 Int
 | 0=>zUt
 | i+1=>zS4 (zA1 x i) (s9 x (64*i))
def st5 (p:By) (h:A5 Int):By×Int×Int×Int×Int×Int:=(p,h.a0,h.a1,h.a2,h.a3,h.a4)
theorem zNc (x:By) (n:Nat) (hx:x.length=64*n) (hl:x.length<2 ^ 42):zK lX FU (st5 x zUt)=some ((zA1 x n).a0,(zA1 x n).a1,(zA1 x n).a2,(zA1 x n).a3,(zA1 x n).a4):=by
 refine yB n (λi=>st5 (x.drop (64*i)) (zA1 x i)) (by simp [zA1]) (λi hi=>?_) ?_ (xI (by omega))
 ·have hd:(x.drop (64*i)).length=x.length - 64*i:=by simp
  unfold lX st5;refine ct (by simp;omega) ?_;refine bd (a:=s9 x (64*i)) (by rw [show (0:Int)=((0:Nat):Int) from rfl,show (64:Int)=((64:Nat):Int) from rfl,uL (by omega) (by omega)];simp [s9]) ?_;refine bd (blk1 x (64*i) (zA1 x i) (by omega) hl).1 ?_;refine bd (a:=x.drop (64*(i+1))) (by rw [show (64:Int)=((64:Nat):Int) from rfl,uL (by omega) (by omega)];rw [List.drop_drop,Qa (by simp;omega)];congr 2) ?_;rfl
 ·have hd:x.drop (64*n)=[]:=Qi (by omega);show lX (st5 (x.drop (64*n)) (zA1 x n))=_;rw [hd];generalize zA1 x n=S;rfl
theorem zM3 (x:By) (n:Nat) (hx:x.length=64*n) (hl:x.length<2 ^ 42):zK (pN x) FU (a5 zUt,0)=some (a5 (zA1 x n)):=by
 refine yB n (λi=>(a5 (zA1 x i),((64*i:Nat):Int))) rfl (λi hi=>?_) ?_ (xI (by omega))
 ·exact (blk1 x (64*i) (zA1 x i) (by omega) hl).2
 ·show pN x (a5 (zA1 x n),((64*n:Nat):Int))=_;unfold pN;exact cf (dge (by omega)) rfl
def gG (b:By):By:=(a5 (zA1 (bQ b) ((bQ b).length / 64))).flatMap be4
theorem zTq (b:By):(gG b).length=20:=by unfold gG;rw [zKz];rfl
theorem zUv (b:By) (hb:b.length<2 ^ 40):zAi b=some (gG b):=by
 have hz:zs b.length<64:=by unfold zs;omega
 have h1:=bU b;have h2:=zDz b;unfold zAi;refine bd (zHw b hb) ?_;refine bd (zM3 (bQ b) ((bQ b).length / 64) (by omega) (by omega)) ?_;exact bd (zM0 _ (by simp [a5])) rfl
theorem zT5 (b:By) (hb:b.length<2 ^ 40):wP 0 b=some (gG b):=by
 have hz:zs b.length<64:=by unfold zs;omega
 have h1:=bU b;have h2:=zDz b;unfold wP;refine ct rfl ?_;refine bd (zHf b hb) ?_;refine bd (zNc (bQ b) ((bQ b).length / 64) (by omega) (by omega)) ?_;exact bd (zJr _ (by simp)) rfl
set_option maxRecDepth 100000
def xP (active a:Int):Bool:=xG .i64 (xE .i64 active (Qt.wrap a)) 1==1
theorem zCz (b:By) (hb:b.length<2 ^ 40):sX 0 b=some (gG b):=by
 unfold sX;refine ct rfl ?_;exact bd (zUv b hb) rfl
theorem zDd (b:By) (hb:b.length<2 ^ 40):sX 1 b=some (sha b):=by
 unfold sX;refine cf rfl ?_;refine ct rfl ?_;exact bd (zAp b hb) rfl
def dgE (active:Int) (on:Bool) (b:By):List By:=[if (on&&xP active 0)=true then gG b else [],if (on&&xP active 1)=true then sha b else []]
theorem zK7 {v:List By} {o:Option By} {d:By} (hv:v.length=2) (ha:a<2) (ho:o=some d) :
  (bif c then (o.bind λs=>(ixN 2 (a:Int)).bind λj=>(vJ v j s).bind λw=>some w) else some v)=some (if c=true then v.set a d else v):=by
 cases c
 ·rfl
 ·refine bd ho ?_;refine bd (uJ ha) ?_;exact bd (by simp [vJ,hv,ha]) rfl
def mkE (reg kind active:Int) (data:By):zC:=⟨reg,kind,dgE active (kind != 5) data,data⟩
theorem zLe (reg kind active:Int) (data:By) (hd:data.length<2 ^ 40):pA reg kind active data=some (mkE reg kind active data):=by
 have on:∀ a:Int,((lA active a).bind λv=>bif v then (some (kind != 5)) else some false:Option Bool)=some ((kind != 5)&&xP active a):=by
  intro a;show (bif xP active a then (some (kind != 5)) else some false:Option Bool)=_;cases xP active a<;>cases (kind != 5)<;>rfl
 unfold pA mkE dgE;refine bd (a:=[if ((kind != 5)&&xP active 0)=true then gG data else [],if ((kind != 5)&&xP active 1)=true then sha data else []]) (two (b:=(1,[if ((kind != 5)&&xP active 0)=true then gG data else [],[]])) (c:=(2,[if ((kind != 5)&&xP active 0)=true then gG data else [],if ((kind != 5)&&xP active 1)=true then sha data else []])) ?_ ?_ rfl) ?_
 ·unfold fM;refine ct rfl ?_;refine bd (a:=[if ((kind != 5)&&xP active 0)=true then gG data else [],[]]) ?_ rfl;refine bd (on 0) ?_;refine (zK7 (a:=0) rfl (by omega) (zCz data hd)).trans ?_;cases ((kind != 5)&&xP active 0)<;>rfl
 ·unfold fM;refine ct rfl ?_;refine bd (a:=[if ((kind != 5)&&xP active 0)=true then gG data else [],if ((kind != 5)&&xP active 1)=true then sha data else []]) ?_ rfl;refine bd (on 1) ?_;refine (zK7 (a:=1) rfl (by omega) (zDd data hd)).trans ?_;cases ((kind != 5)&&xP active 1)<;>rfl
 exact bd (ckT rfl) rfl
theorem zNg (reg kind active:Int) (data:By) (hd:data.length<2 ^ 40):Def (pA reg kind active data) (λe=>e=mkE reg kind active data):=Q6 (zLe reg kind active data hd) rfl
set_option maxRecDepth 100000
def uS (c:zB):Prop:=c.B.length<=240/\0<=c.At/\c.At<=c.B.length
theorem zD1 (b:By) (n:Int) (h0:0<=n) (h:n<=240):Def (kQ b n) uS:=by
 unfold kQ;refine Q0 (P:=λr=>r.length<=240) ?_ (λr hr=>Q1 ⟨hr,Qp 0,by simp⟩);refine Q2 (λhl=>?_) (λhl=>Q1 ?_)
 ·rw [decide_eq_true_iff] at hl;refine Q0 (Qq (by decide) h0 (by omega)) (λx hx=>Q1 ?_);rw [hx];simp;omega
 ·rw [decide_eq_false_iff_not] at hl;omega
theorem yE (c:zB) (n:Int) (hc:uS c) (hn:0<n):Def (zH c n) (λr=>0<=r.1/\r.1<n/\uS r.2):=by
 obtain ⟨h1,h2,h3⟩:=hc;unfold zH;refine Q2 (λh=>Q1 ⟨Qp 0,hn,h1,h2,h3⟩) (λh=>?_);rw [decide_eq_false_iff_not] at h;rw [zZ (n:=c.At+1) (by omega) (by omega),zZ (n:=c.At+1 - 1) (by omega) (by omega)];refine Q0 (Qo (by omega) (by omega)) (λv _=>?_);refine Q0 (Qr (by simp;omega)) (λ_ _=>?_);refine Q1 ?_;rw [wb];refine ⟨?_,?_,h1,by simp only;omega,by simp only;omega⟩
 ·rw [Qv (by omega)];exact Int.emod_nonneg _ (by omega)
 ·rw [Qv (by omega)];exact Int.emod_lt_of_pos _ hn
def zIy (l:By):Prop:=1<=l.length/\l.length<=8/\∀ x∈l,32<=x.toNat/\x.toNat<=126
theorem zHp (c:zB) (hc:uS c):Def (tB c) (λr=>zIy r.1/\uS r.2):=by
 unfold tB;refine Q0 (yE c 6 hc (by decide)) (λr hr=>?_);obtain ⟨v,x⟩:=r;obtain ⟨h0,h1,h2⟩:=hr;simp only at h0 h1 h2;refine Q0 (Qn h0 (by show _<((6:Nat):Int);omega)) (λj hj=>?_);refine Q0 (Def.at (by have:=hj.2;simpa using this)) (λl hl=>?_);have hl':zIy l:=by
  simp only [W3,W5,or_false] at hl;rcases hl with rfl | rfl | rfl | rfl | rfl | rfl<;>(unfold zIy;decide)
 refine Q0 (Qr (cO (by have:=hl'.2.1;omega))) (λ_ _=>?_);exact Q1 ⟨hl',h2⟩
def zEw (L:List By):By:=L.flatMap λl=>l++[10]
theorem eM (L:List By) (h:∀ l∈L,zIy l):(zEw L).length<=9*L.length:=by
 induction L with
 | nil=>simp [zEw]
 | cons a r ih=>
  have h1:=(h a (by simp)).2.1;have h2:=ih (λl hl=>h l (by simp [hl]));simp only [zEw,Qf,Q3,Q8,Q5] at h2 ⊢;omega
theorem zMi (c:zB) (hc:uS c):Def (rF c) (λr=>(∃ L,r.1=zEw L/\1<=L.length/\L.length<=4/\∀ l∈L,zIy l)/\uS r.2):=by
 unfold rF;refine Q0 (yE c 4 hc (by decide)) (λr hr=>?_);obtain ⟨v,x⟩:=r;obtain ⟨h0,h1,h2⟩:=hr;simp only at h0 h1 h2;refine Q0 (P:=λr=>(∃ L,r.1=zEw L/\1<=L.length/\L.length<=4/\∀ l∈L,zIy l)/\uS ⟨r.2.1,r.2.2⟩) ?_ (λr hr=>Q1 hr);refine Q7 (λs=>(∃ L,s.1=zEw L/\(L.length:Int)+s.2.1=1+v/\∀ l∈L,zIy l)/\0<=s.2.1/\uS ⟨s.2.2.1,s.2.2.2⟩) (λs=>s.2.1.toNat) (λs hs=>?_) ?_ ?_
 ·obtain ⟨b,n,B,A⟩:=s;obtain ⟨⟨L,g1,g2,g3⟩,g4,g5⟩:=hs;simp only at g1 g2 g4 g5;have hfl:=eM L g3;unfold mX;refine Q2 (λh=>?_) (λh=>Q1 ?_)
  ·rw [decide_eq_true_iff] at h;refine Q0 (zHp _ g5) (λr hr=>?_);obtain ⟨l,y⟩:=r;obtain ⟨k1,k2⟩:=hr;simp only at k1 k2;refine Q0 (Ql (by have:=k1.2.1;rw [g1];omega)) (λb1 hb1=>?_);refine Q0 (Ql (by have:=k1.2.1;rw [hb1,g1];simp;omega)) (λb2 hb2=>Q1 ?_);rw [zZ (by omega) (by omega)];refine ⟨⟨⟨L++[l],?_,by simp only [Q3,Q8,Q5];omega,?_⟩,by simp only;omega,k2⟩,by simp only;omega⟩
   ·simp only [hb2,hb1,g1,zEw,W4,Qf,List.flatMap_nil,W7,Qk]
   ·intro z hz;rw [Qe] at hz;rcases hz with hz | hz
    ·exact g3 z hz
    ·simp at hz;subst hz;exact k1
  ·rw [decide_eq_false_iff_not] at h;exact ⟨⟨L,g1,by omega,by omega,g3⟩,g5⟩
 ·refine ⟨⟨[],rfl,?_,by simp⟩,?_,h2⟩
  ·rw [zZ (by omega) (by omega)];simp
  ·rw [zZ (by omega) (by omega)];simp only;omega
 ·rw [zZ (by omega) (by omega)];simp only;omega
theorem zPe {P:List α} {c:α} {t:List α} (h:P.drop i=c :: t):idx P (i:Int)=some c/\P.drop (i+1)=t/\i<P.length:=by
 have hi:i<P.length:=by
  apply Decidable.byContradiction;intro hn;rw [Qi (by omega)] at h;cases h
 rw [zE8 hi] at h;injection h with h1 h2;exact ⟨by rw [yT hi,h1],h2,hi⟩
theorem zUp (x:zF) (L:List By) (hp:x.Payload=zEw L) (h4:L.length<=4) (hL:∀ l∈L,zIy l):s8 x=some L:=by
 have hfl:=eM L hL;have hpl:x.Payload.length<=36:=by rw [hp];omega
 have hd:Def (zK (iR x) FU ([],[],0)) (λr=>r=.inr (L,[])):=by
  refine Q7 (λs=>∃ i:Nat,s.2.2=(i:Int)/\i<=x.Payload.length/\((s.1=L/\s.2.1=[]/\x.Payload.drop i=[])∨∃ suf rest,L=s.1++(s.2.1++suf) :: rest/\x.Payload.drop i=suf++10 :: zEw rest)) (λs=>x.Payload.length - s.2.2.toNat) (λs hs=>?_) ?_ ?_
  ·obtain ⟨out,line,i'⟩:=s;obtain ⟨i,g1,g2,g3⟩:=hs;simp only at g1 g3;subst g1;unfold iR;rcases g3 with ⟨k1,k2,k3⟩ | ⟨suf,rest,k1,k2⟩
   ·refine Q2 (λh=>?_) (λ_=>Q1 (by rw [k1,k2]));rw [decide_eq_true_iff] at h;have:=congrArg List.length k3;simp at this;omega
   ·have hmem:line++suf∈L:=by rw [k1];simp
    have hln:=hL _ hmem;have hout:out.length<4:=by have:=congrArg List.length k1;simp at this;omega
    cases suf with
    | nil=>
     obtain ⟨j1,j2,j3⟩:=zPe (c:=10) (t:=zEw rest) k2;refine Q2 (λ_=>?_) (λh=>by rw [decide_eq_false_iff_not] at h;omega);refine Q0 (P:=λr=>r=.inr (out++[line],[])) ?_ (λr hr=>?_)
     ·refine Q0 (P:=λc=>c=10) (Q6 j1 rfl) (λc hc=>?_);subst hc;refine Q2 (λ_=>?_) (λh=>by simp at h);rw [W7] at hln;refine Q0 (P:=λb=>b=false) (Q2 (λh=>?_) (λ_=>Q1 ?_)) (λb hb=>?_)
      ·have:=hln.1;simp at h;rw [h] at this;simp at this
      ·simp;omega
      subst hb;refine Q0 (Ql (by simp;omega)) (λo ho=>Q1 (by rw [ho]))
     ·subst hr;refine Q1 ?_;rw [yM (by omega)];refine ⟨⟨i+1,rfl,by omega,?_⟩,by simp only [Q4];omega⟩;cases rest with
      | nil=>exact .inl ⟨by simp [k1],rfl,j2⟩
      | cons l r=>
       refine .inr ⟨l,r,?_,?_⟩
       ·simp [k1]
       ·rw [j2];simp [zEw]
    | cons c suf=>
     obtain ⟨j1,j2,j3⟩:=zPe (c:=c) (t:=suf++10 :: zEw rest) k2;have hc:=hln.2.2 c (by simp);refine Q2 (λ_=>?_) (λh=>by rw [decide_eq_false_iff_not] at h;omega);refine Q0 (P:=λr=>r=.inr (out,line++[c])) ?_ (λr hr=>?_)
     ·refine Q0 (P:=λd=>d=c) (Q6 j1 rfl) (λd hd=>?_);subst hd;refine Q2 (λh=>by simp at h;omega) (λ_=>?_);refine Q0 (P:=λb=>b=false) (Q2 (λh=>?_) (λ_=>Q1 ?_)) (λb hb=>?_)
      ·simp at h;omega
      ·simp;omega
      subst hb;have:=hln.2.1;refine Q0 (Ql (by simp at this ⊢;omega)) (λo ho=>Q1 (by rw [ho]))
     ·subst hr;refine Q1 ?_;rw [yM (by omega)];refine ⟨⟨i+1,rfl,by omega,.inr ⟨suf,rest,by simp [k1],j2⟩⟩,by simp only [Q4];omega⟩
  ·refine ⟨0,rfl,by omega,?_⟩;cases L with
   | nil=>exact .inl ⟨rfl,rfl,by rw [hp];rfl⟩
   | cons l r=>exact .inr ⟨l,r,by simp,by rw [hp];simp [zEw]⟩
  ·rw [hp];simp;omega
 obtain ⟨r,h1,h2⟩:=hd;subst h2;unfold s8;refine bd h1 ?_;rfl
structure oI (x:zF):Prop where
 r1:1<=x.Role
 r4:x.Role<=4
 v0:0<=x.Version
 v1:x.Version<=1000000
 n:rC x.Name=some true
 nl:x.Name.length<=12
 p:x.Payload.length<=64
 l:x.Role=4->∃ L,s8 x=some L/\1<=L.length/\L.length<=4/\∀ l∈L,zIy l
 pn:wD x.Name=some true
theorem zCp (x:zF) (h:oI x):nQ x=some 0:=by
 obtain ⟨h1,h2,h3,h4,h5,h6,h7,h8,_⟩:=h;unfold nQ;refine bd (a:=false) (cf (by simp;omega) (cf (by simp;omega) (cf (by simp;omega) (congrArg some (by simp;omega))))) ?_;refine cf rfl ?_;refine bd h5 ?_;refine cf rfl ?_;refine cf (by simp;omega) ?_;refine bd (a:=false) ?_ rfl;by_cases h:x.Role=4
 ·refine ct (by simp [h]) ?_;obtain ⟨L,l1,l2,_⟩:=h8 h;refine bd l1 ?_;refine congrArg some ?_;rw [beq_eq_false_iff_ne];omega
 ·exact cf (by simp [h]) rfl
theorem zTw:∀ n∈[([97]:By),[103,114,117,98],[108,105,110,117,120],[110,101,116,45,48],[116,119,101,108,118,101,45,98,121,116,101,115]],rC n=some true/\n.length<=12/\wD n=some true:=by
 intro n hn;simp only [W3,W5,or_false] at hn;rcases hn with rfl | rfl | rfl | rfl | rfl<;>exact ⟨by decide +kernel,by decide,by decide +kernel⟩
theorem zQy (c:zB) (role:Int) (hc:uS c) (h1:1<=role) (h4:role<=4):Def (pX c role) (λr=>oI r.1/\r.1.Role=role/\uS r.2):=by
 unfold pX;refine Q0 (P:=λa=>[a.a0,a.a1,a.a2,a.a3,a.a4]=[([97]:By),[103,114,117,98],[108,105,110,117,120],[110,101,116,45,48],[116,119,101,108,118,101,45,98,121,116,101,115]]) (Q1 rfl) (λa ha=>?_);rw [ha];refine Q0 (yE c 5 hc (by decide)) (λr hr=>?_);obtain ⟨v1,c1⟩:=r;obtain ⟨p1,p2,p3⟩:=hr;simp only at p1 p2 p3;refine Q0 (Qo p1 (by simpa using p2)) (λnme hn=>?_);obtain ⟨n1,n2,n3⟩:=zTw nme hn;refine Q0 (yE c1 5 p3 (by decide)) (λr hr=>?_);obtain ⟨v2,c2⟩:=r;obtain ⟨q1,q2,q3⟩:=hr;simp only at q1 q2 q3;refine Q0 (P:=λr=>uS ⟨r.1,r.2.1⟩/\0<=r.2.2/\r.2.2<=1000000) ?_ (λr hr=>?_)
 ·refine Q0 (yE c2 9 q3 (by decide)) (λr hr=>?_);obtain ⟨v3,c3⟩:=r;obtain ⟨s1,s2,s3⟩:=hr;simp only at s1 s2 s3;refine Q2 (λ_=>?_) (λ_=>Q1 ⟨s3,by simp only;omega,by simp only;omega⟩);refine Q0 (yE c3 3 s3 (by decide)) (λr hr=>?_);obtain ⟨v4,c4⟩:=r;obtain ⟨u1,u2,u3⟩:=hr;simp only at u1 u2 u3;refine Q1 ⟨u3,?_,?_⟩<;>(simp only;rw [zZ (by omega) (by omega)];omega)
 obtain ⟨B,A,ver⟩:=r;obtain ⟨w1,w2,w3⟩:=hr;simp only at w1 w2 w3;refine Q2 (λh=>?_) (λh=>?_)
 ·rw [beq_iff_eq] at h;refine Q0 (zMi _ w1) (λr hr=>?_);obtain ⟨pl,c5⟩:=r;obtain ⟨⟨L,l1,l2,l3,l4⟩,z⟩:=hr;simp only at l1 z;have hfl:=eM L l4;refine Q1 ⟨⟨h1,h4,w2,w3,n1,n2,by simp only;rw [l1];omega,λ_=>⟨L,zUp _ L l1 l3 l4,l2,l3,l4⟩,n3⟩,rfl,z⟩
 ·have hr4:role≠4:=by simpa using h
  refine Q0 (yE _ 7 w1 (by decide)) (λr hr=>?_);obtain ⟨v5,c5⟩:=r;obtain ⟨x1,x2,x3⟩:=hr;simp only at x1 x2 x3;refine Q0 (Def.mkN x1 (by omega)) (λn hn=>?_);refine Q0 (P:=λr=>uS ⟨r.1,r.2.1⟩/\r.2.2.length=n) ?_ (λr hr=>?_)
  ·refine Q7 (λs=>0<=s.1/\s.1<=n/\uS ⟨s.2.1,s.2.2.1⟩/\s.2.2.2.length=n) (λs=>((n:Int) - s.1).toNat) (λs hs=>?_) ⟨Qp 0,by simp,x3,by simp⟩ (by simp;omega);obtain ⟨i,B,A,v⟩:=s;obtain ⟨y1,y2,y3,y4⟩:=hs;simp only at y1 y2 y3 y4;unfold jD;refine Q2 (λh=>?_) (λ_=>Q1 ⟨y3,y4⟩);rw [decide_eq_true_iff] at h;refine Q0 (yE _ 256 y3 (by decide)) (λr hr=>?_);obtain ⟨v6,c6⟩:=r;obtain ⟨_,_,z3⟩:=hr;refine Q0 (Qn y1 h) (λj hj=>?_);refine Q0 (Qw (by omega)) (λu hu=>Q1 ?_);rw [zZ (by omega) (by omega)];refine ⟨⟨by simp only;omega,by simp only;omega,z3,by simp only [hu,List.length_set];exact y4⟩,by simp only;omega⟩
  obtain ⟨B,A,v⟩:=r;obtain ⟨y1,y2⟩:=hr;simp only at y1 y2;refine Q0 (Qr (zLg y2)) (λ_ _=>?_);refine Q0 (Qr (cO (by omega))) (λ_ _=>?_);refine Q1 ⟨⟨h1,h4,w2,w3,n1,n2,by simp only;omega,λe=>absurd e hr4,n3⟩,rfl,y1⟩
set_option maxRecDepth 100000
def Bef (a b:zF):Prop:=a.Role<=b.Role/\¬ (a.Role=b.Role/\a.Name=b.Name)
structure iQ (l:List zF):Prop where
 len:l.length<=8
 im:∀ x∈l,oI x
 prs:l.Pairwise Bef
 h1:∃ x∈l,x.Role=1
 h3:∃ x∈l,x.Role=3
theorem rV (h:i<l.length) {x:α} (hx:x∈l.take (i+1)):x∈l.take i∨x=l[i]:=by
 rw [Qg,Qe] at hx;rcases hx with hx | hx
 ·exact .inl hx
 ·right;simpa [h] using hx
theorem zU8 (l:List zF) (v:zF) (hl:l.length<=20):Def (zK (fH l v) FU (false,0)) (λr=>(r=true->∃ x∈l,x.Role=v.Role)/\(r=false->∀ x∈l,¬ (x.Role=v.Role/\x.Name=v.Name))):=by
 refine Q7 (λs=>∃ i:Nat,s.2=(i:Int)/\i<=l.length/\(s.1=true->∃ x∈l,x.Role=v.Role)/\(s.1=false->∀ x∈l.take i,¬ (x.Role=v.Role/\x.Name=v.Name))) (λs=>l.length - s.2.toNat) (λs hs=>?_) ⟨0,rfl,by omega,by simp,by simp⟩ (by simp;omega);obtain ⟨ag,i'⟩:=s;obtain ⟨i,g1,g2,g3,g4⟩:=hs;simp only at g1 g3 g4;subst g1;unfold fH;refine Q2 (λh=>?_) (λh=>Q1 ⟨g3,λe=>?_⟩)
 ·have hi:i<l.length:=by have:=dT h;omega
  refine Q0 (P:=λr=>(r=true->∃ x∈l,x.Role=v.Role)/\(r=false->ag=false/\¬ (l[i].Role=v.Role/\l[i].Name=v.Name))) ?_ (λr hr=>?_)
  ·refine Q2 (λha=>Q1 ⟨λ_=>g3 ha,λe=>by simp at e⟩) (λha=>?_);refine Q0 (Def.at' hi) (λy hy=>?_);subst hy;refine Q2 (λhr=>?_) (λhr=>Q1 ⟨λe=>by simp at e,λ_=>⟨ha,λe=>by simp [e.1] at hr⟩⟩);rw [beq_iff_eq] at hr;refine Q0 (Def.at' hi) (λy hy=>?_);subst hy;refine Q1 ⟨λ_=>⟨_,Q9 hi,hr⟩,λe=>⟨ha,λe2=>?_⟩⟩;simp [e2.2] at e
  ·refine Q1 ?_;rw [yM (by omega)];refine ⟨⟨i+1,rfl,by omega,hr.1,λe x hx=>?_⟩,by simp only [Q4];omega⟩;obtain ⟨k1,k2⟩:=hr.2 e;rcases rV hi hx with hx | rfl
   ·exact g4 k1 x hx
   ·exact k2
 ·have:=dF h;rw [Qa (by omega)] at g4;exact g4 e
structure ChI (role:Int) (l:List zF):Prop where
 im:∀ x∈l,oI x/\x.Role<=role
 prs:l.Pairwise Bef
 h1:2<=role->∃ x∈l,x.Role=1
 h3:4<=role->∃ x∈l,x.Role=3
theorem zT3 (role:Int) (h1:1<=role) (h4:role<=4) (l:List zF) (n:Int) (c:zB) (hc:uS c) (hn:0<=n) (hl:(l.length:Int)+n<=2*role) (hI:ChI role l) (hk:role=1∨role=3->1<=n) :
  Def (zK (fD role) FU (l,n,c.B,c.At)) (λr=>(r.1.length:Int)<=2*role/\ChI role r.1/\(role=1∨role=3->∃ x∈r.1,x.Role=role)/\uS ⟨r.2.1,r.2.2⟩):=by
 refine Q7 (λs=>0<=s.2.1/\(s.1.length:Int)+s.2.1<=2*role/\ChI role s.1/\(role=1∨role=3->1<=s.2.1∨∃ x∈s.1,x.Role=role)/\uS ⟨s.2.2.1,s.2.2.2⟩) (λs=>s.2.1.toNat) (λs hs=>?_) ⟨hn,hl,hI,λe=>.inl (hk e),hc⟩ (by simp only;omega);obtain ⟨l,n,B,A⟩:=s;obtain ⟨g1,g2,g3,g4,g5⟩:=hs;simp only at g1 g2 g3 g4 g5;unfold fD;refine Q2 (λh=>?_) (λh=>Q1 ?_)
 ·have hn:=dT h;refine Q0 (P:=λr=>(r.1.length:Int)+(n - 1)<=2*role/\ChI role r.1/\(∃ x∈r.1,x.Role=role)/\uS ⟨r.2.1,r.2.2⟩) ?_ (λr hr=>?_)
  ·refine Q0 (zQy _ role g5 h1 h4) (λr hr=>?_);obtain ⟨v,c⟩:=r;obtain ⟨k1,k2,k3⟩:=hr;simp only at k1 k2 k3;refine Q0 (zU8 l v (by omega)) (λag ha=>?_);refine Q2 (λhg=>?_) (λhg=>?_)
   ·have hgf:ag=false:=by simpa using hg
    refine Q0 (Ql (by simp;omega)) (λl' hl'=>Q1 ?_);subst hl';refine ⟨by simp;omega,⟨λx hx=>?_,?_,λe=>?_,λe=>?_⟩,⟨v,by simp,k2⟩,k3⟩
    ·rw [Qe] at hx;rcases hx with hx | hx
     ·exact g3.im x hx
     ·simp at hx;subst hx;exact ⟨k1,by omega⟩
    ·rw [List.pairwise_append];refine ⟨g3.prs,by simp,λa ha' b hb=>?_⟩;simp at hb;subst hb;exact ⟨by have:=(g3.im a ha').2;omega,ha.2 hgf a ha'⟩
    ·obtain ⟨x,hx,e2⟩:=g3.h1 e;exact ⟨x,by simp [hx],e2⟩
    ·obtain ⟨x,hx,e2⟩:=g3.h3 e;exact ⟨x,by simp [hx],e2⟩
   ·have hgt:ag=true:=by simpa using hg
    obtain ⟨x,hx,e⟩:=ha.1 hgt;exact Q1 ⟨by simp only;omega,g3,⟨x,hx,by omega⟩,k3⟩
  ·obtain ⟨l',B',A'⟩:=r;obtain ⟨k1,k2,k3,k4⟩:=hr;simp only at k1 k2 k3 k4;refine Q1 ?_;rw [zZ (by omega) (by omega)];exact ⟨⟨by simp only;omega,k1,k2,λ_=>.inr k3,k4⟩,by simp only;omega⟩
 ·have hn:=dF h;refine ⟨by simp only;omega,g3,λe=>?_,g5⟩;rcases g4 e with h | h
  ·omega
  ·exact h
theorem zJ0 (codes:By):Def (iT codes) iQ:=by
 unfold iT;refine Q0 (zD1 codes 200 (by decide) (by decide)) (λc hc=>?_);refine Q0 (P:=iQ) ?_ (λr hr=>Q1 hr);refine Q7 (λs=>1<=s.2.1/\s.2.1<=5/\(s.1.length:Int)<=2*(s.2.1 - 1)/\(∀ x∈s.1,oI x/\x.Role<s.2.1)/\s.1.Pairwise Bef/\(2<=s.2.1->∃ x∈s.1,x.Role=1)/\(4<=s.2.1->∃ x∈s.1,x.Role=3)/\uS ⟨s.2.2.1,s.2.2.2⟩) (λs=>(5 - s.2.1).toNat) (λs hs=>?_) ⟨Qp 1,by simp,by simp,by simp,by simp,by simp,by simp,hc⟩ (by simp);obtain ⟨l,role,B,A⟩:=s;obtain ⟨g1,g2,g3,g4,g5,g6,g7,g8⟩:=hs;simp only at g1 g2 g3 g4 g5 g6 g7 g8;unfold zBq;refine Q2 (λh=>?_) (λh=>Q1 ?_)
 ·have hr:=dT h;refine Q0 (yE _ 3 g8 (by decide)) (λr hr=>?_);obtain ⟨v,c1⟩:=r;obtain ⟨k1,k2,k3⟩:=hr;simp only at k1 k2 k3;refine Q0 (P:=λr=>0<=r.1/\r.1<=2/\(role=1∨role=3->1<=r.1)/\uS ⟨r.2.1,r.2.2⟩) ?_ (λr hr=>?_)
  ·refine Q0 (P:=λb=>b=false->¬ (role=1∨role=3)) ?_ (λb hb=>?_)
   ·refine Q2 (λh=>Q1 (λe=>by simp at e)) (λh=>Q1 (λe=>?_));simp at h e;omega
   refine Q2 (λ_=>?_) (λhf=>Q1 ⟨k1,by simp only;omega,λe=>absurd e (hb hf),k3⟩);refine Q0 (yE _ 2 k3 (by decide)) (λr hr=>?_);obtain ⟨v2,c2⟩:=r;obtain ⟨j1,j2,j3⟩:=hr;simp only at j1 j2 j3;have e:Qm.wrap (1+v2)=1+v2:=zZ (by omega) (by omega);exact Q1 ⟨by simp only [e];omega,by simp only [e];omega,λ_=>by simp only [e];omega,j3⟩
  obtain ⟨n,B1,A1⟩:=r;obtain ⟨j1,j2,j3,j4⟩:=hr;simp only at j1 j2 j3 j4;refine Q0 (zT3 role g1 hr l n ⟨B1,A1⟩ j4 j1 (by omega) ⟨λx hx=>⟨(g4 x hx).1,by have:=(g4 x hx).2;omega⟩,g5,g6,g7⟩ j3) (λr hr=>?_);obtain ⟨l',B2,A2⟩:=r;obtain ⟨m1,m2,m3,m4⟩:=hr;simp only at m1 m2 m3 m4;refine Q1 ?_;rw [zZ (by omega) (by omega)];refine ⟨⟨by simp only;omega,by simp only;omega,by simp only;omega,λx hx=>⟨(m2.im x hx).1,by have:=(m2.im x hx).2;simp only;omega⟩,m2.prs,λe=>?_,λe=>?_,m4⟩,by simp only;omega⟩
  ·simp only at e;by_cases h1:role=1
   ·obtain ⟨x,hx,e2⟩:=m3 (.inl h1);exact ⟨x,hx,by omega⟩
   ·exact m2.h1 (by omega)
  ·simp only at e;by_cases h3:role=3
   ·obtain ⟨x,hx,e2⟩:=m3 (.inr h3);exact ⟨x,hx,by omega⟩
   ·exact m2.h3 (by omega)
 ·have hr:=dF h;exact ⟨by omega,λx hx=>(g4 x hx).1,g5,g6 (by omega),g7 (by omega)⟩
theorem pw {l:List zF} (h:l.Pairwise Bef) (hj:j<l.length) (hij:i<j):Bef (l[i]'(by omega)) l[j]:=List.pairwise_iff_getElem.mp h i j (by omega) hj hij
theorem zOx (l:List zF) (h:iQ l):gT l=some 0:=by
 obtain ⟨hlen,him,hp,h1,h3⟩:=h;have hne:l.length≠0:=by
  obtain ⟨x,hx,_⟩:=h1;intro e;rw [List.length_eq_zero_iff] at e;rw [e] at hx;simp at hx
 have hl1:∀ i:Nat,i<l.length->Def (zK (i6 l (i:Int)) FU 0) (λr=>r=.inr ()):=by
  intro i hi;refine Q7 (λs=>∃ k:Nat,s=(k:Int)/\k<=i) (λs=>i - s.toNat) (λs hs=>?_) ⟨0,rfl,by omega⟩ (by simp;omega);obtain ⟨k,rfl,hk⟩:=hs;unfold i6;refine Q2 (λh=>?_) (λh=>Q1 rfl);have hki:=dT h;have hb:=pw hp hi (show k<i by omega);refine Q0 (P:=λb=>b=false) ?_ (λb hb'=>?_)
  ·refine Q0 (Def.at' (show k<l.length by omega)) (λy hy=>?_);subst hy;refine Q0 (Def.at' hi) (λy hy=>?_);subst hy;refine Q2 (λhr=>?_) (λ_=>Q1 rfl);rw [beq_iff_eq] at hr;refine Q0 (Def.at' (show k<l.length by omega)) (λy hy=>?_);subst hy;refine Q0 (Def.at' hi) (λy hy=>?_);subst hy;refine Q1 ?_;rw [beq_eq_false_iff_ne];exact λe=>hb.2 ⟨hr,e⟩
  subst hb';refine Q1 ?_;rw [yM (by omega)];exact ⟨⟨k+1,rfl,by omega⟩,by simp only [Q4];omega⟩
 have hd:Def (zK (iH l) FU (false,false,0)) (λr=>r=.inr (true,true)):=by
  refine Q7 (λs=>∃ i:Nat,s.2.2=(i:Int)/\i<=l.length/\((∃ x∈l.take i,x.Role=1)->s.1=true)/\((∃ x∈l.take i,x.Role=3)->s.2.1=true)) (λs=>l.length - s.2.2.toNat) (λs hs=>?_) ⟨0,rfl,by omega,by simp,by simp⟩ (by simp;omega);obtain ⟨f,k,i'⟩:=s;obtain ⟨i,g1,g2,g3,g4⟩:=hs;simp only at g1 g3 g4;subst g1;unfold iH;refine Q2 (λh=>?_) (λh=>Q1 ?_)
  ·have hi:i<l.length:=by have:=dT h;omega
   refine Q0 (Def.at' hi) (λy hy=>?_);subst hy;refine Q0 (P:=λr=>r=0) (Q6 (zCp _ (him _ (Q9 hi))) rfl) (λr hr=>?_);subst hr;refine Q2 (λh=>by simp at h) (λ_=>?_);refine Q0 (P:=λb=>b=false) ?_ (λb hb=>?_)
   ·refine Q2 (λh0=>?_) (λ_=>Q1 rfl);have h0':=dT h0;refine Q0 (Def.at' hi) (λy hy=>?_);subst hy;rw [zZ (by omega) (by omega),show (i:Int) - 1=((i - 1:Nat):Int) by omega];refine Q0 (Def.at' (show i - 1<l.length by omega)) (λy hy=>?_);subst hy;have hb:=(pw hp hi (show i - 1<i by omega)).1;refine Q1 ?_;rw [decide_eq_false_iff_not];omega
   subst hb;refine Q2 (λh=>by simp at h) (λ_=>?_);refine Q0 (hl1 i hi) (λr hr=>?_);subst hr;refine Q0 (P:=λb=>f=true∨l[i].Role=1->b=true) ?_ (λb1 hb1=>?_)
   ·refine Q2 (λ_=>Q1 (λ_=>rfl)) (λhf=>?_);refine Q0 (Def.at' hi) (λy hy=>?_);subst hy;refine Q1 (λe=>?_);rcases e with e | e
    ·rw [hf] at e;cases e
    ·rw [e];rfl
   refine Q0 (P:=λb=>k=true∨l[i].Role=3->b=true) ?_ (λb2 hb2=>?_)
   ·refine Q2 (λ_=>Q1 (λ_=>rfl)) (λhf=>?_);refine Q0 (Def.at' hi) (λy hy=>?_);subst hy;refine Q1 (λe=>?_);rcases e with e | e
    ·rw [hf] at e;cases e
    ·rw [e];rfl
   refine Q1 ?_;rw [yM (by omega)];refine ⟨⟨i+1,rfl,by omega,λe=>?_,λe=>?_⟩,by simp only [Q4];omega⟩
   ·obtain ⟨x,hx,e⟩:=e;rcases rV hi hx with hx | rfl
    ·exact hb1 (.inl (g3 ⟨x,hx,e⟩))
    ·exact hb1 (.inr e)
   ·obtain ⟨x,hx,e⟩:=e;rcases rV hi hx with hx | rfl
    ·exact hb2 (.inl (g4 ⟨x,hx,e⟩))
    ·exact hb2 (.inr e)
  ·have:=dF h;rw [Qa (by omega)] at g3 g4;rw [g3 h1,g4 h3]
 obtain ⟨r,e,rfl⟩:=hd;unfold gT;refine bd (a:=false) (cf ?_ (congrArg some ?_)) ?_
 ·rw [beq_eq_false_iff_ne];omega
 ·rw [decide_eq_false_iff_not];omega
 refine cf rfl ?_;refine bd e ?_;rfl
def zF5 (x:zF):By:=eN (eN (vI (vI [] 1 x.Role) 4 x.Version) x.Name) x.Payload
theorem zL1 (x:zF):5<=(zF5 x).length/\(zF5 x).length<2 ^ 20:=by
 have h1:=tA (vI (vI [] 1 x.Role) 4 x.Version) x.Name;have h2:=tA (eN (vI (vI [] 1 x.Role) 4 x.Version) x.Name) x.Payload;have h3:(vI (vI [] 1 x.Role) 4 x.Version).length=5:=by rw [yI,yI];rfl
 refine ⟨?_,by unfold zF5;omega⟩;unfold zF5 eN;simp only [Q3,yI,h3];omega
theorem zFn (x:zF) (h:oI x):vX x=some (zF5 x):=by
 have hi:=zCp x h;obtain ⟨_,_,_,_,_,h6,h7,_,_⟩:=h;have h3:(vI (vI [] 1 x.Role) 4 x.Version).length=5:=by rw [yI,yI];rfl
 have h4:=tA (vI (vI [] 1 x.Role) 4 x.Version) x.Name;unfold vX;refine bd hi ?_;refine cf rfl ?_;refine bd (uV [] 1 _ (by omega) (by omega) (by simp)) ?_;refine bd (uV _ 4 _ (by omega) (by omega) (by rw [yI];simp)) ?_;refine bd (ckT (cO (by omega))) ?_;refine bd (qV _ _ (by omega)) ?_;exact bd (qV _ _ (by omega)) rfl
theorem zLa (x:zF) (h:oI x):Def (vX x) (λr=>r=zF5 x):=Q6 (zFn x h) rfl
theorem zN7 (x:zF) (active:Int) (h:oI x):lS x active=some (dgE active true (zF5 x)):=by
 have hl:=zL1 x;unfold lS dgE;refine bd (zFn x h) ?_;generalize zF5 x=data at hl;have on:∀ a:Int,(bif decide (0<(data.length:Int)) then ((lA active a).bind λv=>some v) else some false:Option Bool)=some (true&&xP active a):=by
  intro a;exact ct (by simp;omega) rfl
 refine bd (a:=[if (true&&xP active 0)=true then gG data else [],if (true&&xP active 1)=true then sha data else []]) (two (b:=(1,[if (true&&xP active 0)=true then gG data else [],[]])) (c:=(2,[if (true&&xP active 0)=true then gG data else [],if (true&&xP active 1)=true then sha data else []])) ?_ ?_ rfl) ?_
 ·unfold m7;refine ct rfl ?_;refine bd (a:=[if (true&&xP active 0)=true then gG data else [],[]]) ?_ rfl;refine bd (on 0) ?_;refine (zK7 (a:=0) rfl (by omega) (zCz data (by omega))).trans ?_;cases (true&&xP active 0)<;>rfl
 ·unfold m7;refine ct rfl ?_;refine bd (a:=[if (true&&xP active 0)=true then gG data else [],if (true&&xP active 1)=true then sha data else []]) ?_ rfl;refine bd (on 1) ?_;refine (zK7 (a:=1) rfl (by omega) (zDd data (by omega))).trans ?_;cases (true&&xP active 1)<;>rfl
 exact bd (ckT rfl) rfl
theorem eB:∀ f u,(decF f u).length<=f
 | 0,_=>Qu _
 | f+1,u=>by
  unfold decF;cases Wa u 10
  ·simp only [cond_false,Q3,Qz];have:=eB f (u / 10);omega
  ·simp only [cond_true,Qz];omega
theorem zOg (n:Nat) (h:n<10):u8 (Qm.wrap (48+(n:Int)))=UInt8.ofNat (48+n):=by
 rw [zZ (by omega) (by omega),show (48:Int)+(n:Int)=((48+n:Nat):Int) by omega];apply UInt8.toNat_inj.mp;rw [tY];simp
theorem zEl:∀ (k fl f:Nat) (n:Nat),n<10 ^ (k+1)->n<2 ^ 40->k<fl->k<f->f<=20->rA fl (n:Int)=some (decF f n):=by
 intro k;induction k with
 | zero=>
  intro fl f n h1 _ hf hf2 _;obtain ⟨g,rfl⟩:∃ g,fl=g+1:=⟨fl - 1,by omega⟩;obtain ⟨g2,rfl⟩:∃ g,f=g+1:=⟨f - 1,by omega⟩;have h10:n<10:=by simpa using h1
  unfold rA decF;refine ct (by simp;omega) ?_;rw [show Wa n 10=true by simpa [W8] using h10,zOg n h10];rfl
 | succ k ih=>
  intro fl f n h1 h2 hf hf2 h20;obtain ⟨g,rfl⟩:∃ g,fl=g+1:=⟨fl - 1,by omega⟩;obtain ⟨g2,rfl⟩:∃ g,f=g+1:=⟨f - 1,by omega⟩;unfold rA decF;by_cases h10:n<10
  ·refine ct (by simp;omega) ?_;rw [show Wa n 10=true by simpa [W8] using h10,zOg n h10];rfl
  ·have hd:n / 10<10 ^ (k+1):=by
    rw [Nat.pow_succ] at h1;omega
   refine cf (by simp;omega) ?_;rw [show Wa n 10=false by rw [Bool.eq_false_iff];intro e;rw [W8] at e;omega];rw [show Wb (n:Int) 10=((n / 10:Nat):Int) from rfl,zZ (by omega) (by omega)];refine bd (ih g g2 (n / 10) hd (by omega) (by omega) (by omega) (by omega)) ?_;have:=eB g2 (n / 10);refine bd (yF (by simp;omega)) ?_;rw [show Wc (n:Int) 10=((n % 10:Nat):Int) from rfl,zOg (n % 10) (by omega)];rfl
def lbl (x:zF):By:=(x.Name++[32])++decF 20 x.Version.toNat
theorem zT0 (x:zF) (h:oI x):s7 x.Name x.Version=some (lbl x):=by
 have h1:=h.nl;have h2:=h.v0;have h3:=h.v1;obtain ⟨n,hn⟩:=Qx h2;unfold s7 lbl;rw [hn];refine bd (ckT (cO (by omega))) ?_;refine bd (yF (by simp;omega)) ?_;refine bd (zEl 6 RF 20 n (by show n<10000000;omega) (by omega) (by decide) (by decide) (by decide)) ?_;have:=eB 20 n;exact bd (yF (by rw [Q3];simp only [Q8,Q5];omega)) rfl
def rgR (role:Int):Int:=if role=1 then 0 else if role=2 then 4 else if role=3 then 8 else if role=4 then 9 else -1
theorem zPi (r:Int):uY r=some (rgR r):=by
 unfold uY rgR;by_cases h1:r=1
 ·rw [if_pos h1];exact ct (by simp [h1]) rfl
 rw [if_neg h1];refine cf (by simp [h1]) ?_;by_cases h2:r=2
 ·rw [if_pos h2];exact ct (by simp [h2]) rfl
 rw [if_neg h2];refine cf (by simp [h2]) ?_;by_cases h3:r=3
 ·rw [if_pos h3];exact ct (by simp [h3]) rfl
 rw [if_neg h3];refine cf (by simp [h3]) ?_;by_cases h4:r=4
 ·rw [if_pos h4];exact ct (by simp [h4]) rfl
 ·rw [if_neg h4];exact cf (by simp [h4]) rfl
def imE (active:Int) (x:zF):zC:=⟨rgR x.Role,1,dgE active true (zF5 x),lbl x⟩
theorem zOa (x:zF) (active:Int) (h:oI x) (h4:x.Role≠4):lL x active=some (imE active x):=by
 unfold lL;refine bd (a:=false) ?_ ?_
 ·refine bd (zCp x h) ?_;refine cf rfl ?_;rw [show (x.Role==4)=false by simp [h4]]
 refine cf rfl ?_;refine bd (zPi _) ?_;refine bd (zN7 x active h) ?_;exact bd (zT0 x h) rfl
def zKb (x:zF):List By:=(s8 x).getD []
def evR (active role:Int) (l:List zF):List zC:=l.flatMap λx=>if x.Role=role then (if role=4 then (zKb x).map (mkE 9 3 active) else [imE active x]) else []
def zEg (active:Int):List zC:=(List.range 8).map λ(i:Nat)=>mkE (i:Int) 2 active [0,0,0,0]
def evs (l:List zF) (active:Int):List zC:=evR active 1 l++evR active 2 l++(zEg active++evR active 3 l)++evR active 4 l
theorem zUj (x:zF) (h:oI x) (h4:x.Role=4):s8 x=some (zKb x)/\(zKb x).length<=4/\∀ l∈zKb x,zIy l:=by
 obtain ⟨L,h1,_,h2,h3⟩:=h.l h4;unfold zKb;rw [h1];exact ⟨rfl,h2,h3⟩
theorem zDw (active role:Int) (x:zF) (h:oI x):(if x.Role=role then (if role=4 then (zKb x).map (mkE 9 3 active) else [imE active x]) else []).length<=4/\(x.Role=role∨(if x.Role=role then (if role=4 then (zKb x).map (mkE 9 3 active) else [imE active x]) else []).length=0):=by
 by_cases hr:x.Role=role
 ·rw [if_pos hr];refine ⟨?_,.inl hr⟩;by_cases h4:role=4
  ·rw [if_pos h4,List.length_map];exact (zUj x h (by omega)).2.1
  ·rw [if_neg h4];simp
 ·rw [if_neg hr];exact ⟨by simp,.inr rfl⟩
theorem zVt (active role:Int) (l:List zF) (h:∀ x∈l,oI x):(evR active role l).length<=4*l.length:=by
 induction l with
 | nil=>simp [evR]
 | cons x t ih=>
  have h1:=(zDw active role x (h x (Qj ..))).1;have h2:=ih (λy hy=>h y (Qs _ hy));unfold evR at h2 ⊢;rw [Qf,Q3,Q8];omega
theorem zP0 (active:Int) (l:List zF) (h:∀ x∈l,oI x):(evR active 1 l).length+(evR active 2 l).length+(evR active 3 l).length+(evR active 4 l).length<=4*l.length:=by
 induction l with
 | nil=>simp [evR]
 | cons x t ih=>
  have h0:=zDw active 1 x (h x (Qj ..));have h1:=zDw active 2 x (h x (Qj ..));have h2:=zDw active 3 x (h x (Qj ..));have h3:=zDw active 4 x (h x (Qj ..));have hi:=ih (λy hy=>h y (Qs _ hy));unfold evR at hi ⊢;rw [Qf,Qf,Qf,Qf,Q3,Q3,Q3,Q3,Q8];omega
theorem zIj (active:Int):(zEg active).length=8:=by simp [zEg]
theorem zZ4 (l:List zF) (active:Int) (h:iQ l):8<=(evs l active).length/\(evs l active).length<=40:=by
 have h1:=zP0 active l h.im;have h2:=h.len;have h3:=zIj active;unfold evs;simp only [Q3];omega
theorem zTo (active:Int) (out:List zC) (h:out.length<=100):zK (oW active) FU (out,0)=some (out++zEg active):=by
 refine yB 8 (λi=>(out++(zEg active).take i,(i:Int))) (by simp) (λi hi=>?_) ?_ (xI (by decide))
 ·unfold oW;refine ct (by simp;omega) ?_;refine bd (a:=[0,0,0,0]) rfl ?_;refine bd (zLe _ 2 active _ (by decide)) ?_;refine bd (yF (by simp [zEg];omega)) ?_;rw [yM (by omega),Qg,Qk];have:(zEg active)[i]? = some (mkE (i:Int) 2 active [0,0,0,0]):=by simp [zEg,hi]
  rw [this];rfl
 ·unfold oW;refine cf rfl ?_;rw [Qa (by rw [zIj];omega)]
theorem zQh (active:Int) (out:List zC) (L:List By) (h:out.length<=100) (hl:L.length<=4) (h8:∀ l∈L,l.length<=8):zK (oV active L) FU (out,0)=some (out++L.map (mkE 9 3 active)):=by
 refine yB L.length (λi=>(out++(L.map (mkE 9 3 active)).take i,(i:Int))) (by simp) (λi hi=>?_) ?_ (xI (by omega))
 ·have:=h8 _ (Q9 hi);unfold oV;refine ct (dlt hi) ?_;refine bd (yT hi) ?_;refine bd (zLe _ 3 active _ (by omega)) ?_;refine bd (yF (by simp;omega)) ?_;rw [yM (by omega),Qg,Qk];simp [hi]
 ·unfold oV;refine cf (dge (Qu _)) ?_;rw [Qa (by simp)]
theorem zAa (active role:Int) (l:List zF) (out:List zC) (hl:l.length<=8) (him:∀ x∈l,oI x) (h:out.length<=60) (h4:role<=4):zK (oZ l active role) FU (out,0)=some (out++evR active role l):=by
 refine yB l.length (λi=>(out++evR active role (l.take i),(i:Int))) (by simp [evR]) (λi hi=>?_) ?_ (xI (by omega))
 ·have hg:=him _ (Q9 hi);have hle:=zVt active role (l.take i) (λx hx=>him x (W1 hx));rw [List.length_take] at hle;have hs:evR active role (l.take (i+1))=evR active role (l.take i)++(if l[i].Role=role then (if role=4 then (zKb l[i]).map (mkE 9 3 active) else [imE active l[i]]) else []):=by
   unfold evR;rw [Qg,W4];simp [hi]
  have hol:(out++evR active role (l.take i)).length<=100:=by rw [Q3];omega
  rw [hs,<- Qk];generalize out++evR active role (l.take i)=o at hol;unfold oZ;refine ct (dlt hi) ?_;refine bd (a:=o++(if l[i].Role=role then (if role=4 then (zKb l[i]).map (mkE 9 3 active) else [imE active l[i]]) else [])) ?_ (by rw [yM (by omega)]);refine bd (yT hi) ?_;by_cases hr:l[i].Role=role
  ·rw [if_pos hr];refine cf (by simp [hr]) ?_;by_cases hr4:role=4
   ·rw [if_pos hr4];refine cf (by simp [hr4]) ?_;refine bd (yT hi) ?_;obtain ⟨q1,q2,q3⟩:=zUj _ hg (by omega);refine bd q1 ?_;exact bd (zQh active o _ hol q2 (λl hl=>(q3 l hl).2.1)) rfl
   ·rw [if_neg hr4];refine ct (by simp [hr4]) ?_;refine bd (yT hi) ?_;refine bd (zOa _ active hg (by omega)) ?_;exact bd (yF (by simp;omega)) rfl
  ·rw [if_neg hr];refine ct (by simp [hr]) ?_;simp
 ·unfold oZ;refine cf (dge (Qu _)) ?_;simp
theorem zQo (l:List zF) (active:Int) (h:iQ l) (h1:1<=active) (h3:active<=3):tG l active=some (evs l active):=by
 have hc:=zOx l h;have hl:=h.len;have hb:=zP0 active l h.im;have hsl:=zIj active;unfold tG;refine bd (a:=false) ?_ ?_
 ·refine bd hc ?_;refine cf rfl ?_;refine cf (by simp;omega) ?_;rw [show decide (3<active)=false by simp;omega]
 refine cf rfl ?_;refine bd (a:=evs l active) ?_ rfl;refine yB (x:=(([]:List zC),(1:Int))) 4 (λi=>match i with | 0=>([],1) | 1=>(evR active 1 l,2) | 2=>(evR active 1 l++evR active 2 l,3) | 3=>(evR active 1 l++evR active 2 l++(zEg active++evR active 3 l),4) | _=>(evs l active,5)) rfl (λi hi=>?_) rfl (xI (by decide));have:i=0∨i=1∨i=2∨i=3:=by omega
 rcases this with rfl | rfl | rfl | rfl
 ·show wF l active ([],1)=some (.inl (evR active 1 l,2));unfold wF;refine ct rfl ?_;refine bd (a:=[]) rfl ?_;exact bd (zAa active 1 l [] hl h.im (by simp) (by omega)) rfl
 ·show wF l active (evR active 1 l,2)=some (.inl (evR active 1 l++evR active 2 l,3));unfold wF;refine ct rfl ?_;refine bd (a:=evR active 1 l) rfl ?_;exact bd (zAa active 2 l _ hl h.im (by omega) (by omega)) rfl
 ·show wF l active (evR active 1 l++evR active 2 l,3)=some (.inl (evR active 1 l++evR active 2 l++(zEg active++evR active 3 l),4));unfold wF;refine ct rfl ?_;refine bd (a:=evR active 1 l++evR active 2 l++zEg active) (bd (zTo active _ (by rw [Q3];omega)) rfl) ?_;refine bd (zAa active 3 l _ hl h.im (by simp only [Q3];omega) (by omega)) ?_;rw [Qk];rfl
 ·show wF l active (evR active 1 l++evR active 2 l++(zEg active++evR active 3 l),4)=some (.inl (evs l active,5));unfold wF;refine ct rfl ?_;refine bd (a:=evR active 1 l++evR active 2 l++(zEg active++evR active 3 l)) rfl ?_;exact bd (zAa active 4 l _ hl h.im (by simp only [Q3];omega) (by omega)) rfl
theorem zGy (l:List zF) (active:Int) (h:iQ l) (h1:1<=active) (h3:active<=3):Def (tG l active) (λr=>8<=r.length/\r.length<=136):=Q6 (zQo l active h h1 h3) (by have:=zZ4 l active h;omega)
set_option maxRecDepth 100000
theorem zKq (n m:Int) (hm:1<=m) (hm2:m<2 ^ 40):Def (eE n m) (λr=>0<=r/\r<m):=by
 unfold eE;refine Q2 (λh=>by have:=dT h;omega) (λ_=>?_);refine Q0 (Qr (by simp;omega)) (λ_ _=>?_);have h1:-m<Wc n m:=by
  have:=Int.lt_tmod_of_pos n (by omega:0<m);omega
 have h2:Wc n m<m:=Int.tmod_lt_of_pos n (by omega);refine Q0 (P:=λr=>0<=r/\r<m) ?_ (λr hr=>Q1 hr);refine Q2 (λh=>Q1 ?_) (λh=>Q1 ?_)
 ·have:=dT h;rw [zZ (by omega) (by omega)];omega
 ·have:=dF h;omega
theorem zCo (n:Int):Def (nL n) (λr=>1<=r/\r<=3):=by
 unfold nL;refine Q0 (zKq n 3 (by decide) (by decide)) (λr hr=>Q1 ?_);rw [zZ (by omega) (by omega)];omega
theorem zQb (a b:List α):(cpy a b).length=a.length:=by
 unfold cpy;simp;omega
theorem zKp (active:Int) (b:By):Def (jS active b) (λ_=>True):=by
 unfold jS;refine Q0 (P:=λr=>r.length=2) ?_ (λr hr=>Q0 (Qr (zLg hr)) (λ_ _=>Q1 trivial));refine Q7 (λs=>0<=s.1/\s.1<=2/\s.2.length=2) (λs=>(2 - s.1).toNat) (λs hs=>?_) ⟨by decide,by decide,rfl⟩ (by decide);obtain ⟨a,v⟩:=s;obtain ⟨h0,h1,h2⟩:=hs;simp only at h0 h1 h2;unfold cA;refine Q2 (λh=>?_) (λ_=>Q1 h2);have ha:=dT h;refine Q0 (P:=λr=>r.length=2) ?_ (λw hw=>Q1 ?_)
 ·refine Q2 (λ_=>?_) (λ_=>Q1 h2);rw [zZ (n:=12*a) (by omega) (by omega),zZ (by omega) (by omega)];refine Q0 (Def.mkN (by omega) (by omega)) (λn hn=>?_);refine Q0 (Qr (zLg (by simp))) (λ_ _=>?_);refine Qy ?_;have hcl:=zQb (Qb n (0:UInt8)) b;rw [List.length_replicate] at hcl;generalize cpy (Qb n (0:UInt8)) b=x at hcl;refine Q0 (P:=λr=>r.length=n) ?_ (λy hy=>?_)
  ·refine Q2 (λh=>?_) (λ_=>Q1 hcl);have:=dT h;rw [zZ (by omega) (by omega)];refine Q0 (Qn (by omega) (by omega)) (λj hj=>?_);refine Q0 (Def.at (by omega)) (λ_ _=>?_);refine Q0 (Qn (by omega) (by omega)) (λj hj=>?_);exact Q0 (Qw (by omega)) (λr hr=>Q1 (by rw [hr];simpa using hcl))
  refine Q0 (Qr (zLg hy)) (λ_ _=>?_);refine Q0 (Qr (cO (by omega))) (λ_ _=>?_);refine Q0 (Qn h0 (by show _<((2:Nat):Int);omega)) (λj hj=>?_);exact Q0 (Qw (by omega)) (λr hr=>Q1 (by rw [hr];simpa using h2))
 ·rw [zZ (by omega) (by omega)];simp only;omega
theorem zEj (c:zB) (active:Int) (hc:uS c):Def (uP c active) (λr=>uS r.2):=by
 unfold uP;refine Q0 (zHp c hc) (λr hr=>?_);obtain ⟨l,c1⟩:=r;obtain ⟨hl,k1⟩:=hr;simp only at hl k1;have hl1:=hl.1;have hl2:=hl.2.1;refine Q0 (P:=λr=>r.1.length<=8/\uS ⟨r.2.1,r.2.2⟩) ?_ (λr hr=>?_)
 ·refine Q0 (yE _ 4 k1 (by decide)) (λr hr=>?_);obtain ⟨v,c2⟩:=r;obtain ⟨a1,a2,a3⟩:=hr;refine Q2 (λ_=>?_) (λ_=>Q1 ⟨hl2,a3⟩);refine Q0 (yE _ 2 a3 (by decide)) (λr hr=>?_);obtain ⟨v,c3⟩:=r;obtain ⟨b1,b2,b3⟩:=hr;simp only at b1 b2 b3;refine Q0 (Qq (by decide) b1 (by omega)) (λx hx=>Q1 ⟨?_,b3⟩);simp only;rw [hx];simp;omega
 obtain ⟨dat,B,A⟩:=r;obtain ⟨hd,k2⟩:=hr;simp only at hd k2;refine Q0 (yE _ 5 k2 (by decide)) (λr hr=>?_);obtain ⟨v5,c5⟩:=r;obtain ⟨a1,a2,a3⟩:=hr;simp only at a1 a2 a3;refine Q0 (yE _ 8 a3 (by decide)) (λr hr=>?_);obtain ⟨v8,c8⟩:=r;obtain ⟨b1,b2,b3⟩:=hr;simp only at b1 b2 b3;refine Q0 (Qo b1 (by simpa using b2)) (λreg _=>?_);refine Q0 (P:=λr=>r.1.length<=8/\uS ⟨r.2.2.1,r.2.2.2⟩) ?_ (λr hr=>?_)
 ·refine Q0 (P:=λr=>uS ⟨r.2.1,r.2.2⟩) ?_ (λr hr=>?_)
  ·refine Q2 (λ_=>?_) (λ_=>Q1 b3);refine Q0 (yE _ 4 b3 (by decide)) (λr hr=>?_);exact Q1 hr.2.2
  obtain ⟨b,B,A⟩:=r;refine Q2 (λ_=>?_) (λ_=>Q1 ⟨hd,hr⟩);refine Q0 (yE _ 8 hr (by decide)) (λr hr=>?_);exact Q1 ⟨by simp,hr.2.2⟩
 obtain ⟨dat,reg,B,A⟩:=r;obtain ⟨hd,k3⟩:=hr;simp only at hd k3;refine Q0 (zNg _ _ active dat (by omega)) (λe _=>?_);refine Q0 (P:=λr=>uS ⟨r.1,r.2.1⟩) ?_ (λr hr=>Q1 hr);refine Q0 (P:=λr=>uS ⟨r.2.1,r.2.2⟩) ?_ (λr hr=>?_)
 ·refine Q2 (λ_=>?_) (λ_=>Q1 k3);refine Q0 (yE _ 4 k3 (by decide)) (λr hr=>?_);exact Q1 hr.2.2
 obtain ⟨b,B,A⟩:=r;refine Q2 (λ_=>?_) (λ_=>Q1 hr);refine Q0 (yE _ 4 hr (by decide)) (λr hr=>?_);refine Q0 (zKp active _) (λd _=>?_);exact Q1 hr.2.2
theorem zNp (c:zB) (active:Int) (hc:uS c):Def (qC c active 14) (λr=>r.1.length<=14):=by
 unfold qC;refine Q0 (P:=λr=>r.1.length<=14) ?_ (λr hr=>Q1 hr);refine Q7 (λs=>s.1.length<=14/\uS ⟨s.2.1,s.2.2⟩) (λs=>14 - s.1.length) (λs hs=>?_) ⟨by simp,hc⟩ (by simp);obtain ⟨l,B,A⟩:=s;obtain ⟨g1,g2⟩:=hs;simp only at g1 g2;unfold kJ;refine Q0 (P:=λr=>(r.1=true->l.length<14)/\uS ⟨r.2.1,r.2.2⟩) ?_ (λr hr=>?_)
 ·refine Q0 (P:=λr=>uS r.2) (Q1 g2) (λr hr=>?_);obtain ⟨b,c⟩:=r;refine Q2 (λ_=>Q1 ⟨λh=>by have:=dT h;omega,hr⟩) (λ_=>Q1 ⟨λh=>by simp at h,hr⟩)
 obtain ⟨b,B,A⟩:=r;obtain ⟨k1,k2⟩:=hr;refine Q2 (λhb=>?_) (λ_=>Q1 g1);have:=k1 hb;refine Q0 (zEj _ active k2) (λr hr=>?_);refine Q0 (Ql (by simp;omega)) (λl' hl'=>Q1 ?_);refine ⟨⟨by simp only [hl',Q3,Q8,Q5];omega,hr⟩,by simp only [hl',Q3,Q8,Q5];omega⟩
theorem zWc (codes:By) (active resets:Int) (h1:1<=active) (h3:active<=3):Def (zDk codes active resets) (λr=>r.Active=active/\r.Events.length<=200):=by
 unfold zDk;refine Q0 (zD1 codes 240 (by decide) (by decide)) (λc hc=>?_);refine Q0 (zKq resets 1000 (by decide) (by decide)) (λrs _=>?_);refine Q0 (yE _ 3 hc (by decide)) (λr hr=>?_);obtain ⟨v,c1⟩:=r;obtain ⟨a1,a2,a3⟩:=hr;simp only at a1 a2 a3;refine Q2 (λ_=>?_) (λ_=>?_)
 ·refine Q0 (zNp c1 active a3) (λr hr=>?_);exact Q1 ⟨rfl,by
             have:r.1.length<=14:=hr;show r.1.length<=200;omega⟩
 ·obtain ⟨b1,b2,b3⟩:=a3;refine Q0 (Qq b2 b3 (Qp _)) (λx _=>?_);refine Q0 (zJ0 x) (λch hch=>?_);refine Q0 (zGy ch active hch h1 h3) (λev hev=>?_);refine Q0 (yE _ 4 ⟨b1,b2,b3⟩ (by decide)) (λr hr=>?_);obtain ⟨n,c2⟩:=r;obtain ⟨d1,d2,d3⟩:=hr;simp only at d1 d2 d3;refine Q0 (P:=λl=>l.length<=200) ?_ (λl hl=>Q1 ⟨rfl,hl⟩);refine Q7 (λs=>0<=s.1/\s.1+1<=s.2.1.length/\(s.2.1.length:Int)+s.1<=140/\uS ⟨s.2.2.1,s.2.2.2⟩) (λs=>s.1.toNat) (λs hs=>?_) ⟨d1,by simp only;omega,by simp only;omega,d3⟩ (by simp only;omega);obtain ⟨n,l,B,A⟩:=s;obtain ⟨g1,g2,g3,g4⟩:=hs;simp only at g1 g2 g3 g4;unfold zFo;refine Q2 (λh=>?_) (λh=>Q1 (by omega));have hn:=dT h;refine Q0 (yE _ _ g4 (by omega)) (λr hr=>?_);obtain ⟨i,c3⟩:=r;obtain ⟨i0,i1,i2⟩:=hr;simp only at i0 i1 i2;refine Q0 (yE _ 5 i2 (by decide)) (λr hr=>?_);obtain ⟨o,c4⟩:=r;obtain ⟨o0,o1,o2⟩:=hr;simp only at o0 o1 o2;have slo:∀ k:Int,0<=k->k<=l.length->Def (sub l 0 k) (λr=>(r.length:Int)=k):=by
   intro k h0 hk;refine Wd (Qq (by decide) h0 hk) (λr hr=>?_);rw [hr];simp;omega
  have shi:∀ k:Int,0<=k->k<=l.length->Def (sub l k (l.length:Int)) (λr=>(r.length:Int)=l.length - k):=by
   intro k h0 hk;refine Wd (Qq h0 hk (Qp _)) (λr hr=>?_);rw [hr];simp;omega
  have app:∀ a b:List zC,a.length<=1000->b.length<=1000->Def (yN 64 a b) (λr=>r.length=a.length+b.length):=by
   intro a b ha hb;exact Wd (Ql (by omega)) (λr hr=>by rw [hr];simp)
  refine Q0 (P:=λr=>(l.length:Int) - 1<=r.1.length/\(r.1.length:Int)<=l.length+1/\uS ⟨r.2.1,r.2.2⟩) ?_ (λr hr=>?_)
  ·refine Q2 (λ_=>?_) (λ_=>Q2 (λ_=>?_) (λ_=>Q2 (λ_=>?_) (λ_=>Q2 (λ_=>?_) (λ_=>?_))))
   ·refine Q0 (slo i i0 (by omega)) (λx hx=>?_);refine Q0 (app [] x (by simp) (by omega)) (λy hy=>?_);rw [zZ (by omega) (by omega)];refine Q0 (shi (i+1) (by omega) (by omega)) (λz hz=>?_);simp only [Q5] at hy;refine Q0 (app y z (by omega) (by omega)) (λw hw=>Q1 ⟨by simp only;omega,by simp only;omega,o2⟩)
   ·refine Q0 (slo i i0 (by omega)) (λx hx=>?_);refine Q0 (app [] x (by simp) (by omega)) (λy hy=>?_);simp only [Q5] at hy;refine Q0 (Qo i0 i1) (λe _=>?_);refine Q0 (app y [e] (by omega) (by simp)) (λz hz=>?_);simp only [Q8,Q5] at hz;refine Q0 (shi i i0 (by omega)) (λw hw=>?_);refine Q0 (app z w (by omega) (by omega)) (λq hq=>Q1 ⟨by simp only;omega,by simp only;omega,o2⟩)
   ·refine Q0 (yE _ _ o2 (by omega)) (λr hr=>?_);obtain ⟨j,c5⟩:=r;obtain ⟨j0,j1,j2⟩:=hr;simp only at j0 j1 j2;refine Q0 (app [] l (by simp) (by omega)) (λx hx=>?_);simp only [Q5] at hx;refine Q0 (Qn j0 (by omega)) (λj hj=>?_);refine Q0 (Def.at hj.2) (λe1 _=>?_);refine Q0 (Qn i0 (by omega)) (λj hj=>?_);refine Q0 (Def.at hj.2) (λe2 _=>?_);refine Q0 (Qn i0 (by omega)) (λj hj=>?_);refine Q0 (Qw hj.2) (λx1 hx1=>?_);refine Q0 (Qn j0 (by omega)) (λj hj=>?_);have hxl:x1.length=x.length:=by rw [hx1];simp
    refine Q0 (Qw (by rw [hxl];exact hj.2)) (λx2 hx2=>?_);have hxl2:x2.length=x1.length:=by rw [hx2];simp
    exact Q1 ⟨by simp only;omega,by simp only;omega,j2⟩
   ·refine Q0 (slo i i0 (by omega)) (λx hx=>?_);refine Q0 (app [] x (by simp) (by omega)) (λy hy=>?_);simp only [Q5] at hy;refine Q0 (zEj _ active o2) (λr hr=>?_);refine Q0 (app y [r.1] (by omega) (by simp)) (λz hz=>?_);simp only [Q8,Q5] at hz;refine Q0 (shi i i0 (by omega)) (λw hw=>?_);refine Q0 (app z w (by omega) (by omega)) (λq hq=>Q1 ⟨by simp only;omega,by simp only;omega,hr⟩)
   ·refine Q0 (slo i i0 (by omega)) (λx hx=>?_);refine Q0 (app [] x (by simp) (by omega)) (λy hy=>?_);simp only [Q5] at hy;refine Q0 (zNg 3 5 active _ (by simp)) (λe _=>?_);refine Q0 (app y [e] (by omega) (by simp)) (λz hz=>?_);simp only [Q8,Q5] at hz;refine Q0 (shi i i0 (by omega)) (λw hw=>?_);refine Q0 (app z w (by omega) (by omega)) (λq hq=>Q1 ⟨by simp only;omega,by simp only;omega,o2⟩)
  obtain ⟨l',B',A'⟩:=r;obtain ⟨p1,p2,p3⟩:=hr;simp only at p1 p2 p3;refine Q1 ?_;rw [zZ (by omega) (by omega)];exact ⟨⟨by simp only;omega,by simp only;omega,by simp only;omega,p3⟩,by simp only;omega⟩
set_option maxRecDepth 100000
theorem zIr:∀ a b:By,Qc a b=false->Qc b a=false->a=b
 | [],[],_,_=>rfl
 | [],_ :: _,h,_=>by cases h
 | _ :: _,[],_,h=>by cases h
 | x :: a,y :: b,h1,h2=>by
  simp only [Qc,Bool.or_eq_false_iff,Bool.and_eq_false_iff,decide_eq_false_iff_not,beq_eq_false_iff_ne] at h1 h2;have hxy:x=y:=by
   have p:=h1.1;have q:=h2.1;rw [UInt8.lt_iff_toNat_lt] at p q;exact UInt8.toNat_inj.mp (by omega)
  subst hxy;rw [zIr a b (h1.2.resolve_left (λh=>h rfl)) (h2.2.resolve_left (λh=>h rfl))]
theorem zV9 (a b:By) (ha:a.length<2 ^ 40):Def (dD a b) (λr=>r=Qc a b):=by
 unfold dD;refine Q0 (P:=λr=>match r with | .inl r=>r=Qc a b | .inr _=>decide ((a.length:Int)<(b.length:Int))=Qc a b) ?_ (λr hr=>?_)
 ·refine Q7 (λ(s:Int)=>∃ i:Nat,s=(i:Int)/\i<=a.length/\i<=b.length/\Qc (a.drop i) (b.drop i)=Qc a b) (λs=>a.length - s.toNat) (λs hs=>?_) ⟨0,rfl,by omega,by omega,rfl⟩ (by simp;omega);obtain ⟨i,rfl,h1,h2,hb⟩:=hs;unfold zBg;refine Q0 (P:=λc=>c=(decide (i<a.length)&&decide (i<b.length))) ?_ (λc hc=>?_)
  ·refine Q2 (λh=>Q1 ?_) (λh=>Q1 ?_)
   ·have h3:=dT h;rw [show decide (i<a.length)=true by simp;omega,Bool.true_and];exact decide_eq_decide.2 (by omega)
   ·have h3:=dF h;rw [show decide (i<a.length)=false by simp;omega,Bool.false_and]
  refine Q2 (λhcc=>?_) (λhcc=>Q1 ?_)
  ·rw [hcc] at hc;have hc':i<a.length/\i<b.length:=by simpa using hc.symm
   rw [Qd hc'.1,Qd hc'.2] at hb;refine Q0 (Def.at' hc'.1) (λx hx=>?_);refine Q0 (Def.at' hc'.2) (λy hy=>?_);refine Q2 (λhne=>?_) (λhne=>Q1 ?_)
   ·refine Q0 (Def.at' hc'.1) (λx' hx'=>?_);refine Q0 (Def.at' hc'.2) (λy' hy'=>Q1 ?_);subst hx hy hx' hy';have hne':a[i]≠b[i]:=λh=>by rw [h] at hne;simp at hne
    show decide _=_;rw [<- hb];simp only [Qc];rw [show (a[i]==b[i])=false by simp [hne'],Bool.false_and,Bool.or_false];exact decide_eq_decide.2 (by rw [UInt8.lt_iff_toNat_lt];omega)
   ·subst hx hy;have he:a[i]=b[i]:=by
     have:(a[i].toNat:Int)=(b[i].toNat:Int):=by simpa using hne
     exact UInt8.toNat_inj.mp (by omega)
    rw [yM (by omega)];refine ⟨⟨i+1,rfl,by omega,by omega,?_⟩,by simp only [Q4];omega⟩;rw [<- hb];simp only [Qc];rw [he];simp
  ·rw [hcc] at hc;have hc':i<a.length->b.length<=i:=by simpa using hc.symm
   rw [<- hb];by_cases h3:i<a.length
   ·have:i=b.length:=by have:=hc' h3;omega
    rw [this,W6];rw [show decide ((a.length:Int)<(b.length:Int))=false by simp;omega];cases a.drop b.length<;>rfl
   ·have:i=a.length:=by omega
    rw [this,W6];by_cases h4:a.length<b.length
    ·rw [Qd h4];rw [show decide ((a.length:Int)<(b.length:Int))=true by simp;omega];rfl
    ·rw [Qi (by omega)];rw [show decide ((a.length:Int)<(b.length:Int))=false by simp;omega];rfl
 ·cases r with
  | inl r=>exact Q1 hr
  | inr u=>exact Q1 hr
def bfr (a b:zS):Bool:=
 if a.Role≠b.Role then decide (a.Role<b.Role) else if a.Name≠b.Name then Qc a.Name b.Name else if a.Version≠b.Version then decide (a.Version<b.Version) else Qc a.Digest b.Digest
theorem zCc (a b:zS) (ha:a.Digest.length<2 ^ 40):Def (tR a b) (λr=>r=bfr a b):=by
 unfold tR bfr;refine Q2 (λh=>Q1 ?_) (λh=>Q2 (λh2=>Q1 ?_) (λh2=>Q2 (λh3=>Q1 ?_) (λh3=>?_)))
 ·rw [if_pos (by simpa using h)]
 ·rw [if_neg (by simpa using h),if_pos (by simpa using h2)];rfl
 ·rw [if_neg (by simpa using h),if_neg (by simpa using h2),if_pos (by simpa using h3)]
 ·rw [if_neg (by simpa using h),if_neg (by simpa using h2),if_neg (by simpa using h3)];exact Q0 (zV9 _ _ ha) (λr hr=>Q1 hr)
theorem zQl {a b:zS} (h1:bfr a b=false) (h2:bfr b a=false):a=b:=by
 unfold bfr at h1 h2;by_cases hr:a.Role=b.Role
 ·rw [if_neg (by simp [hr])] at h1;rw [if_neg (by simp [hr])] at h2;by_cases hn:a.Name=b.Name
  ·rw [if_neg (by simp [hn])] at h1;rw [if_neg (by simp [hn])] at h2;by_cases hv:a.Version=b.Version
   ·rw [if_neg (by simp [hv])] at h1;rw [if_neg (by simp [hv])] at h2;have hd:=zIr _ _ h1 h2;cases a;cases b;simp_all
   ·rw [if_pos hv] at h1;rw [if_pos (λh=>hv h.symm)] at h2;have:=dF h1;have:=dF h2;omega
  ·rw [if_pos hn] at h1;rw [if_pos (λh=>hn h.symm)] at h2;exact absurd (zIr _ _ h1 h2) hn
 ·rw [if_pos hr] at h1;rw [if_pos (λh=>hr h.symm)] at h2;have:=dF h1;have:=dF h2;omega
def adj:List zS->Prop
 | a :: b :: r=>bfr a b=true/\adj (b :: r)
 | _=>True
theorem zR8 {a:zS} {l:List zS} (h:adj (a :: l)):adj l:=by
 cases l with
 | nil=>trivial
 | cons b r=>exact h.2
theorem zKr (x:zS):∀ (p s:List zS),adj (p++s)->(∀ e∈p,bfr e x=true)->(∀ e,s.head? = some e->bfr x e=true)->adj (p++x :: s)
 | [],[],_,_,_=>trivial
 | [],y :: t,h,_,hs=>⟨hs y rfl,h⟩
 | [a],s,h,hp,hs=>⟨hp a (Qj ..),zKr x [] s (zR8 h) (λ_ h=>by cases h) hs⟩
 | a :: b :: r,s,h,hp,hs=>⟨h.1,zKr x (b :: r) s h.2 (λe he=>hp e (Qs _ he)) hs⟩
def enI (x:zF):zS:=⟨x.Role,x.Name,x.Version,sha (zF5 x)⟩
structure EnOk (e:zS):Prop where
 r1:1<=e.Role
 r3:e.Role<=3
 v0:0<=e.Version
 v1:e.Version<=1000000
 n:wD e.Name=some true
 d:e.Digest.length=32
theorem zXz {x:zF} (h:oI x) (h4:x.Role≠4):EnOk (enI x):=⟨h.r1,by have:=h.r4;show x.Role<=3;omega,h.v0,h.v1,h.pn,jU _⟩
structure zTt (l:List zF) (m:List zS):Prop where
 a:adj m
 e:∀ e∈m,EnOk e
 i:∀ x∈l,x.Role≠4->enI x∈m
theorem zLv (vendor:By) (version:Int) (l:List zF) (h:iQ l):Def (sW vendor version l) (λm=>m=⟨vendor,version,0,0,1099511627776,m.Entries,[]⟩/\m.Entries.length<=8/\zTt l m.Entries):=by
 have hlen:=h.len;unfold sW;refine Q0 (P:=λm=>m.length<=8/\zTt l m) ?_ (λm hm=>Q1 ⟨rfl,hm⟩);refine Q7 (λs=>∃ i:Nat,s.1=(i:Int)/\i<=l.length/\s.2.length<=i/\zTt (l.take i) s.2) (λs=>l.length - s.1.toNat) (λs hs=>?_) ⟨0,rfl,by omega,by simp,⟨trivial,(by simp),(by simp)⟩⟩ (by simp;omega);obtain ⟨i',m⟩:=s;obtain ⟨i,g1,g2,g3,g4⟩:=hs;simp only at g1 g3 g4;subst g1;unfold gS;refine Q2 (λh=>?_) (λh=>Q1 ⟨by omega,?_⟩)
 ·have hi:i<l.length:=by have:=dT h;omega
  have hg:=‹iQ l›.im _ (Q9 hi);have hel:=zL1 l[i];refine Q0 (P:=λr=>r.length<=m.length+1/\zTt (l.take (i+1)) r) ?_ (λr hr=>Q1 ?_)
  ·refine Q0 (Def.at' hi) (λy hy=>?_);subst hy;refine Q0 (zLa _ hg) (λb hb=>?_);subst hb;refine Q0 (P:=λc=>c=(l[i].Role==4)) ?_ (λc hc=>?_)
   ·refine Q2 (λh=>by simp at h;rw [h] at hel;simp at hel) (λ_=>?_);refine Q0 (Def.at' hi) (λy hy=>Q1 (by rw [hy]))
   have skip:(l[i].Role≠4->enI l[i]∈m)->zTt (l.take (i+1)) m:=λh=>⟨g4.a,g4.e,λx hx h4=>by
    rcases rV hi hx with hx | rfl
    ·exact g4.i x hx h4
    ·exact h h4⟩
   refine Q2 (λh4=>Q1 ⟨by omega,skip (λhn=>?_)⟩) (λh4=>?_)
   ·rw [hc] at h4;exact absurd (by simpa using h4) hn
   have h4':l[i].Role≠4:=by rw [hc] at h4;simpa using h4
   refine Q0 (Def.at' hi) (λy1 hy1=>?_);refine Q0 (Def.at' hi) (λy2 hy2=>?_);refine Q0 (Def.at' hi) (λy3 hy3=>?_);refine Q0 (P:=λd=>d=sha (zF5 l[i])) (Q6 (zAp _ (by omega)) rfl) (λd hd=>?_);have hx:(⟨y1.Role,y2.Name,y3.Version,d⟩:zS)=enI l[i]:=by rw [hy1,hy2,hy3,hd];rfl
   have hxo:=zXz hg h4';refine Q0 (P:=λ(k:Int)=>∃ n:Nat,k=(n:Int)/\n<=m.length/\(∀ e∈m.take n,bfr e (enI l[i])=true)/\∀ e,(m.drop n).head? = some e->bfr e (enI l[i])=false) ?_ (λk hk=>?_)
   ·refine Q7 (λ(s:Int)=>∃ n:Nat,s=(n:Int)/\n<=m.length/\(∀ e∈m.take n,bfr e (enI l[i])=true)) (λs=>m.length - s.toNat) (λs hs=>?_) ⟨0,rfl,by omega,by simp⟩ (by simp;omega);obtain ⟨n,rfl,hn,hb⟩:=hs;unfold gN;rw [hx];refine Q0 (P:=λc=>(c=true->∃ hn:n<m.length,bfr m[n] (enI l[i])=true)/\(c=false->∀ e,(m.drop n).head? = some e->bfr e (enI l[i])=false)) ?_ (λc hc=>?_)
    ·refine Q2 (λh=>?_) (λh=>Q1 ⟨λe=>(by cases e),λ_ e he=>?_⟩)
     ·have hs:n<m.length:=by have:=dT h;omega
      refine Q0 (Def.at' hs) (λe he=>?_);subst he;refine Q0 (zCc _ _ (by rw [(g4.e _ (Q9 hs)).d];decide)) (λc hc=>Q1 ⟨λe=>⟨hs,by rw [<- hc];exact e⟩,λe x hx=>?_⟩);rw [Qd hs] at hx;have hx:some m[n]=some x:=hx;injection hx with hx;rw [<- hx,<- hc];exact e
     ·have:=dF h;rw [Qi (by omega)] at he;cases he
    refine Q2 (λh=>Q1 ?_) (λh=>Q1 ⟨n,rfl,hn,hb,hc.2 h⟩);obtain ⟨hs,hbf⟩:=hc.1 h;rw [yM (by omega)];refine ⟨⟨n+1,rfl,by omega,λe he=>?_⟩,by simp only [Q4];omega⟩;rcases rV hs he with he | rfl
    ·exact hb e he
    ·exact hbf
   obtain ⟨n,rfl,hn,hbt,hbd⟩:=hk;rw [hx];refine Q0 (P:=λc=>(c=true->enI l[i]∈m)/\(c=false->∀ e,(m.drop n).head? = some e->bfr (enI l[i]) e=true)) ?_ (λc hc=>?_)
   ·refine Q2 (λh=>?_) (λh=>Q1 ⟨λe=>(by cases e),λ_ e he=>?_⟩)
    ·have hs:n<m.length:=by have:=dT h;omega
     refine Q0 (Def.at' hs) (λe he=>?_);subst he;have hh:(m.drop n).head? = some m[n]:=by rw [Qd hs];rfl
     refine Q0 (zCc _ _ (by show (sha (zF5 l[i])).length<_;rw [jU];decide)) (λc hc=>Q1 ⟨λe=>?_,λe x hx=>?_⟩)
     ·have h1:bfr (enI l[i]) m[n]=false:=by rw [<- hc];simpa using e
      rw [zQl h1 (hbd _ hh)];exact Q9 hs
     ·rw [hh] at hx;injection hx with hx;rw [<- hx,<- hc];simpa using e
    ·have:=dF h;rw [Qi (by omega)] at he;cases he
   refine Q2 (λh=>Q1 ⟨by omega,skip (λ_=>hc.1 h)⟩) (λhcf=>?_);refine Q0 (Qq (by decide) (by omega) (by omega)) (λx hxx=>?_);have hxt:x=m.take n:=by rw [hxx];simp
   have hxl:x.length=n:=by rw [hxt];simp;omega
   refine Q0 (Ql (by simp;omega)) (λy hy=>?_);rw [W9] at hy;subst hy;refine Q0 (Ql (by simp;omega)) (λz hz=>?_);refine Q0 (Qq (by omega) (by omega) (Qp _)) (λw hw=>?_);have hwt:w=m.drop n:=by
    rw [hw];simp only [Q4];rw [Qa (by simp)]
   have hwl:w.length=m.length - n:=by rw [hwt];simp
   have hzl:z.length=y.length+1:=by rw [hz];simp
   refine Q0 (Ql (by omega)) (λq hq=>Q1 ⟨by rw [hq,Q3];omega,?_⟩);have hq':q=m.take n++enI l[i] :: m.drop n:=by rw [hq,hz,hxt,hwt,Qk];rfl
   have hmem:∀ e,e∈q↔e=enI l[i]∨e∈m:=by
    intro e;have:e∈m↔e∈m.take n∨e∈m.drop n:=by
     rw [<- Qe,W0]
    rw [hq',Qe,W3,this];constructor
    ·rintro (h | h | h)
     ·exact .inr (.inl h)
     ·exact .inl h
     ·exact .inr (.inr h)
    ·rintro (h | h | h)
     ·exact .inr (.inl h)
     ·exact .inl h
     ·exact .inr (.inr h)
   refine ⟨?_,λe he=>?_,λv hv h4=>?_⟩
   ·rw [hq'];exact zKr _ _ _ (by rw [W0];exact g4.a) hbt (hc.2 hcf)
   ·rcases (hmem e).1 he with rfl | he
    ·exact hxo
    ·exact g4.e e he
   ·rw [hmem];rcases rV hi hv with hv | rfl
    ·exact .inr (g4.i v hv h4)
    ·exact .inl rfl
  ·rw [yM (by omega)];exact ⟨⟨i+1,rfl,by omega,by have:=hr.1;show r.length<=i+1;omega,hr.2⟩,by simp only [Q4];omega⟩
 ·have:=dF h;rw [Qa (by omega)] at g4;exact g4
def MOk (m:zG):Prop:=∀ r∈m.Rules,r.Text.length<2 ^ 40
def zM8 (m:zG):Prop:=∀ e∈m.Entries,e.Digest.length<2 ^ 40
theorem zUe (c:zB) (hc:uS c):Def (oU c) (λr=>r.1.Text.length<2 ^ 40/\uS r.2):=by
 unfold oU;refine Q0 (yE _ 5 hc (by decide)) (λr hr=>?_);obtain ⟨v,c1⟩:=r;obtain ⟨a1,a2,a3⟩:=hr;simp only at a1 a2 a3;refine Q2 (λ_=>Q1 ⟨by show ([]:By).length<2 ^ 40;simp,a3⟩) (λ_=>Q2 (λ_=>?_) (λ_=>Q2 (λ_=>?_) (λ_=>?_)))
 ·exact Q0 (zHp _ a3) (λr hr=>Q1 ⟨by have:=hr.1.2.1;simp only;omega,hr.2⟩)
 ·refine Q0 (yE _ 7 a3 (by decide)) (λr hr=>?_);obtain ⟨v2,c2⟩:=r;obtain ⟨b1,b2,b3⟩:=hr;simp only at b1 b2 b3;refine Q0 (Qn b1 (by show _<((7:Nat):Int);omega)) (λj hj=>?_);exact Q0 (Def.at (by have:=hj.2;simpa using this)) (λt ht=>Q1 ⟨by show t.length<2 ^ 40;revert t;decide,b3⟩)
 ·refine Q0 (yE _ 20 a3 (by decide)) (λr hr=>?_);obtain ⟨v2,c2⟩:=r;obtain ⟨b1,b2,b3⟩:=hr;simp only at b1 b2 b3;refine Q0 (yE _ 3 b3 (by decide)) (λr hr=>?_);obtain ⟨v3,c3⟩:=r;obtain ⟨d1,d2,d3⟩:=hr;simp only at d1 d2 d3;refine Q0 (Qo d1 (by simpa using d2)) (λt ht=>?_);have htl:t.length<2 ^ 40:=by revert t;decide
  exact Q0 (yE _ 30 d3 (by decide)) (λr hr=>Q1 ⟨htl,hr.2.2⟩)
theorem zLf (c:zB) (l:List zF) (hc:uS c) (h:iQ l):Def (sN c l) (λr=>(MOk r.1/\zM8 r.1)/\uS r.2):=by
 unfold sN;refine Q0 (yE _ 4 hc (by decide)) (λr hr=>?_);obtain ⟨v,c1⟩:=r;obtain ⟨a1,a2,a3⟩:=hr;simp only at a1 a2 a3;refine Q0 (P:=λ_=>True) (Q1 trivial) (λvs _=>?_);refine Q0 (yE _ 3 a3 (by decide)) (λr hr=>?_);obtain ⟨v2,c2⟩:=r;obtain ⟨b1,b2,b3⟩:=hr;simp only at b1 b2 b3;refine Q0 (Qo b1 (by simpa using b2)) (λvn _=>?_);refine Q0 (zLv vn v l h) (λm hm=>?_);have hdg:∀ e∈m.Entries,e.Digest.length<2 ^ 40:=λe he=>by have:=(hm.2.2.e e he).d;omega
 have hm:=hm.2.1;refine Q0 (P:=λr=>uS ⟨r.1,r.2.1⟩/\∀ e∈r.2.2,e.Digest.length<2 ^ 40) ?_ (λr hr=>?_)
 ·refine Q0 (yE _ 3 b3 (by decide)) (λr hr=>?_);obtain ⟨v3,c3⟩:=r;obtain ⟨d1,d2,d3⟩:=hr;simp only at d1 d2 d3;refine Q2 (λ_=>?_) (λ_=>Q1 ⟨d3,hdg⟩);have e:Qm.wrap ((m.Entries.length:Int)+1)=(m.Entries.length:Int)+1:=zZ (by omega) (by omega);refine Q0 (yE _ _ d3 (by rw [e];omega)) (λr hr=>?_);obtain ⟨v4,c4⟩:=r;obtain ⟨e1,e2,e3⟩:=hr;simp only at e1 e2 e3;rw [e] at e2;exact Q0 (Qq (by decide) e1 (by omega)) (λz hz=>Q1 ⟨e3,λe he=>hdg e (by
   simp only [hz] at he;exact List.mem_of_mem_drop (W1 he))⟩)
 obtain ⟨B,A,es⟩:=r;have hr':uS ⟨B,A⟩:=hr.1;have hes:∀ e∈es,e.Digest.length<2 ^ 40:=hr.2;have e:Qm.wrap (v+1)=v+1:=zZ (by omega) (by omega);refine Q0 (yE _ _ hr' (by rw [e];omega)) (λr hr=>?_);obtain ⟨v5,c5⟩:=r;obtain ⟨_,_,f3⟩:=hr;simp only at f3;refine Q0 (yE _ 12 f3 (by decide)) (λr hr=>?_);obtain ⟨v6,c6⟩:=r;obtain ⟨_,_,f3⟩:=hr;simp only at f3;refine Q0 (yE _ 30 f3 (by decide)) (λr hr=>?_);obtain ⟨v7,c7⟩:=r;obtain ⟨_,_,f3⟩:=hr;simp only at f3;refine Q0 (P:=λr=>uS ⟨r.1,r.2.1⟩) ?_ (λr hr=>?_)
 ·refine Q0 (yE _ 2 f3 (by decide)) (λr hr=>?_);exact Q2 (λ_=>Q1 hr.2.2) (λ_=>Q1 hr.2.2)
 obtain ⟨B,A,m2⟩:=r;have hr':uS ⟨B,A⟩:=hr;refine Q0 (yE _ 4 hr' (by decide)) (λr hr=>?_);obtain ⟨n,c8⟩:=r;obtain ⟨g1,g2,g3⟩:=hr;simp only at g1 g2 g3;refine Q0 (P:=λr=>(∀ x:yL,x∈r.2.2->x.Text.length<2 ^ 40)/\uS ⟨r.1,r.2.1⟩) ?_ (λr hr=>Q1 ⟨⟨λx hx=>hr.1 x hx,hes⟩,hr.2⟩);refine Q7 (λs=>0<=s.1/\s.1+s.2.2.2.length<=4/\(∀ x∈s.2.2.2,x.Text.length<2 ^ 40)/\uS ⟨s.2.1,s.2.2.1⟩) (λs=>s.1.toNat) (λs hs=>?_) ⟨g1,by simp;omega,by simp,g3⟩ (by simp only;omega);obtain ⟨n,B,A,rs⟩:=s;obtain ⟨k1,k2,k4,k3⟩:=hs;simp only at k1 k2 k3 k4;unfold mG;refine Q2 (λh=>?_) (λ_=>Q1 ⟨k4,k3⟩);have:=dT h;refine Q0 (zUe _ k3) (λr hr=>?_);refine Q0 (Ql (by simp;omega)) (λq hq=>Q1 ?_);rw [zZ (by omega) (by omega)];exact ⟨⟨by simp only;omega,by simp only [hq,Q3,Q8,Q5];omega,λx hx=>by
  simp only [hq] at hx;rcases Qe.1 hx with h | h
  ·exact k4 x h
  ·simp at h;subst h;exact hr.1,hr.2⟩,by simp only;omega⟩
def zVo (ms:List zG):Prop:=ms.length<=5/\∀ m∈ms,MOk m/\zM8 m
theorem zI7 (codes:By) (l:List zF) (h:iQ l):Def (nZ codes l) zVo:=by
 unfold nZ;refine Q0 (zD1 codes 120 (by decide) (by decide)) (λc hc=>?_);refine Q0 (yE _ 5 hc (by decide)) (λr hr=>?_);obtain ⟨n,c8⟩:=r;obtain ⟨g1,g2,g3⟩:=hr;simp only at g1 g2 g3;refine Q0 (P:=zVo) ?_ (λ_ h=>Q1 h);refine Q7 (λs=>0<=s.2.1/\s.2.1+s.1.length<=5/\(∀ m∈s.1,MOk m/\zM8 m)/\uS ⟨s.2.2.1,s.2.2.2⟩) (λs=>s.2.1.toNat) (λs hs=>?_) ⟨g1,by simp;omega,by simp,g3⟩ (by simp only;omega);obtain ⟨ms,n,B,A⟩:=s;obtain ⟨k1,k2,k4,k3⟩:=hs;simp only at k1 k2 k3 k4;unfold gP;refine Q2 (λh=>?_) (λ_=>Q1 ⟨by show ms.length<=5;omega,k4⟩);have:=dT h;refine Q0 (zLf _ l k3 ‹iQ l›) (λr hr=>?_);refine Q0 (Ql (by simp;omega)) (λq hq=>Q1 ?_);rw [zZ (by omega) (by omega)];exact ⟨⟨by simp only;omega,by simp only [hq,Q3,Q8,Q5];omega,λx hx=>by
  simp only [hq] at hx;rcases Qe.1 hx with h | h
  ·exact k4 x h
  ·simp at h;subst h;exact hr.1,hr.2⟩,by simp only;omega⟩
set_option maxRecDepth 100000
theorem zOl (active resets:Int):Def (uH active resets) (λr=>r.length<=11):=by
 unfold uH;refine Q0 (P:=λ_=>True) ?_ (λb _=>?_)
 ·exact Q2 (λ_=>Q1 trivial) (λ_=>Q2 (λ_=>Q1 trivial) (λ_=>Q2 (λ_=>Q1 trivial) (λ_=>Q1 trivial)))
 refine Q2 (λ_=>Q1 (by simp)) (λ_=>?_);refine Q0 (Ql (by simp)) (λa ha=>?_);have hal:a.length=5:=by rw [ha];rfl
 refine Q0 (P:=λr=>r.length=11) (Q6 (uV a 6 resets (by omega) (by omega) (by omega)) (by rw [yI];omega)) (λr hr=>Q1 (by omega))
def siz (a:Int):Int:=if a=0 then 20 else if a=1 then 32 else 0
theorem zGi (a:Int):m9 a=some (siz a):=by
 unfold m9 siz;by_cases h0:a=0
 ·rw [if_pos h0];exact ct (by simp [h0]) rfl
 ·rw [if_neg h0];refine cf (by simp [h0]) ?_;by_cases h1:a=1
  ·rw [if_pos h1];exact ct (by simp [h1]) rfl
  ·rw [if_neg h1];exact cf (by simp [h1]) rfl
def Fit (e:zC) (active:Int) (a:Nat):Prop:=((e.Digests.getD a []).length:Int)=if e.Kind≠5/\xP active (a:Int)=true then siz (a:Int) else 0
theorem nf2 (h:∃ i,i<2/\¬ Fit e active i):¬ (Fit e active 0/\Fit e active 1):=by
 obtain ⟨i,hi,hn⟩:=h;intro ⟨h0,h1⟩;have:i=0∨i=1:=by omega
 rcases this with rfl | rfl
 ·exact hn h0
 ·exact hn h1
theorem zNe {has:Option Bool} {size:Option Int} (h1:has=some (xP active (a:Int))) (h2:size=some (siz (a:Int))) :
  Def ((bif (e.Kind != 5) then has else some false:Option Bool).bind λv=>bif v then size else some 0) (λw=>w=if e.Kind≠5/\xP active (a:Int)=true then siz (a:Int) else 0):=by
 subst h1 h2;by_cases hk:e.Kind=5
 ·rw [show (e.Kind != 5)=false by simp [hk]];exact Q1 (by rw [if_neg (λh=>h.1 hk)])
 ·rw [show (e.Kind != 5)=true by simp [hk]];cases hb:xP active (a:Int)
  ·exact Q1 (by rw [if_neg (λh=>by cases h.2)])
  ·exact Q1 (by rw [if_pos ⟨hk,rfl⟩])
theorem zGv {w:Int} (hl:a<e.Digests.length) (hw:w=if e.Kind≠5/\xP active (a:Int)=true then siz (a:Int) else 0):((e.Digests[a].length:Int) != w)=false↔Fit e active a:=by
 unfold Fit;rw [<- hw];simp [hl]
theorem zWv (e:zC) (active:Int):Def (pW e active) (λr=>r=true↔e.Digests.length=2/\Fit e active 0/\Fit e active 1):=by
 unfold pW;refine Q2 (λh=>Q1 ⟨λh=>(by cases h),λh2=>?_⟩) (λh=>?_)
 ·rw [h2.1] at h;cases h
 have hl:e.Digests.length=2:=by simp at h;omega
 refine Q0 (vD e.Digests (sO e active) (λi=>Fit e active i) (λb=>b=false/\∃ i,i<2/\¬ Fit e active i) (by omega) (λa ha=>?_) ?_) (λr hr=>?_)
 ·unfold sO;refine Q2 (λ_=>?_) (λh=>by have:=dF h;omega);refine Q0 (zNe (e:=e) (active:=active) (a:=a) rfl (by rw [zGi];rfl)) (λw hw=>?_);refine Q0 (Def.at' ha) (λd hd=>?_);subst hd;refine Q2 (λhne=>Q1 ⟨rfl,a,by omega,λhF=>?_⟩) (λhne=>Q1 ⟨yM (by omega),(zGv ha hw).1 hne⟩);rw [(zGv ha hw).2 hF] at hne;cases hne
 ·unfold sO;rw [hl];exact cf rfl rfl
 ·cases r with
  | inl b=>exact Q1 ⟨λh=>(by rw [hr.1] at h;cases h),λh=>absurd h.2 (nf2 hr.2)⟩
  | inr u=>exact Q1 ⟨λ_=>⟨hl,hr 0 (by omega),hr 1 (by omega)⟩,λ_=>rfl⟩
structure EvGood (e:zC) (active:Int):Prop where
 r0:0<=e.Register
 r1:e.Register<=11
 d:e.Data.length<=64
 l:e.Digests.length=2
 f0:Fit e active 0
 f1:Fit e active 1
structure EvC (e:zC) (active:Int):Prop extends EvGood e active where
 a1:1<=active
 a3:active<=3
 k1:1<=e.Kind
 k5:e.Kind<=5
theorem or6 {a d e f:Bool}:Def (bif a then some true else bif b then some true else bif c then some true else bif d then some true else bif e then some true else some f) (λr=>r=(a||b||c||d||e||f)):=by
 cases a<;>cases b<;>cases c<;>cases d<;>cases e<;>cases f<;>exact Q1 rfl
theorem zPs (h:b=(decide (active<1)||decide (3<active)||decide (e.Register<0)||decide (11<e.Register)||decide (e.Kind<1)||decide (5<e.Kind))) :
  b=false↔(1<=active/\active<=3/\0<=e.Register/\e.Register<=11/\1<=e.Kind/\e.Kind<=5):=by
 subst h;simp only [Bool.or_eq_false_iff,decide_eq_false_iff_not];omega
theorem zKv (e:zC) (active:Int):Def (qX e active) (λr=>r=0↔EvC e active):=by
 unfold qX;refine Q0 or6 (λb hb=>?_);have hb:=zPs hb;refine Q2 (λh=>Q1 ⟨λh=>(by cases h),λhc=>?_⟩) (λhbf=>?_)
 ·have:=hb.2 ⟨hc.a1,hc.a3,hc.r0,hc.r1,hc.k1,hc.k5⟩;rw [this] at h;cases h
 obtain ⟨h1,h2,h3,h4,h5,h6⟩:=hb.1 hbf;refine Q2 (λh=>Q1 ⟨λh=>(by cases h),λhc=>?_⟩) (λhd=>?_)
 ·have:=dT h;have:=hc.d;omega
 have hd':=dF hd;refine Q0 (zWv e active) (λf hf=>?_);refine Q2 (λh=>Q1 ⟨λh=>(by cases h),λhc=>?_⟩) (λhft=>Q1 ⟨λ_=>?_,λ_=>rfl⟩)
 ·rw [hf.2 ⟨hc.l,hc.f0,hc.f1⟩] at h;cases h
 ·obtain ⟨k1,k2,k3⟩:=hf.1 (by simpa using hft);exact ⟨⟨h3,h4,by omega,k1,k2,k3⟩,h1,h2,h5,h6⟩
theorem zLc (e:zC):Def (qD e) (λr=>r.length<2 ^ 20):=by
 unfold qD;refine Q0 (P:=λb=>b=true->e.Digests.length=2) ?_ (λb hb=>?_)
 ·unfold sQ;refine Q0 (P:=λb=>b=false->e.Digests.length=2) ?_ (λb hb=>?_)
  ·refine Q2 (λ_=>Q1 (λh=>by cases h)) (λ_=>Q2 (λ_=>Q1 (λh=>by cases h)) (λ_=>Q2 (λ_=>Q1 (λh=>by cases h)) (λh1=>Q2 (λ_=>Q1 (λh=>by cases h)) (λh2=>Q2 (λ_=>Q1 (λh=>by cases h)) (λ_=>Q1 (λh=>?_))))));simp at h;omega
  refine Q2 (λ_=>Q1 (λh=>by cases h)) (λhbf=>?_);have hl:=hb hbf;refine Q0 (P:=λ_=>True) ?_ (λ_ _=>Q1 (λ_=>hl));refine Q0 (Qo (by decide) (by omega)) (λ_ _=>?_);refine Q2 (λ_=>?_) (λ_=>Q1 trivial);exact Q0 (Qo (by decide) (by omega)) (λ_ _=>Q1 trivial)
 refine Q2 (λ_=>Q1 (by simp)) (λhbt=>?_);have hl:=hb (by simpa using hbt);refine Q0 (Qo (by decide) (by omega)) (λd0 _=>?_);refine Q0 (P:=λr=>r.length<=2+65537) (Q6 (qV _ _ (by simp)) (tA _ _)) (λa ha=>?_);refine Q0 (Qo (by decide) (by omega)) (λd1 _=>?_);refine Q0 (P:=λr=>r.length<=a.length+65537) (Q6 (qV _ _ (by omega)) (tA _ _)) (λb hb=>?_);refine Q0 (P:=λr=>r.length<=b.length+65537) (Q6 (qV _ _ (by omega)) (tA _ _)) (λc hc=>Q1 (by omega))
theorem zHj (l:zV) (h:l.Events.length<2 ^ 20):Def (pP l) (λr=>r.1.length<=8192):=by
 unfold pP;refine Q0 (zOl _ _) (λhd hhd=>?_);refine Q2 (λ_=>Q1 (by simp)) (λ_=>?_);refine Q0 (P:=λr=>match r with | .inl v=>v.1=[] | .inr _=>True) ?_ (λr hr=>?_)
 ·refine Q7 (λs=>∃ a:Nat,s=(a:Int)/\a<=l.Events.length) (λs=>l.Events.length - s.toNat) (λs hs=>?_) ⟨0,rfl,by omega⟩ (by simp;omega);obtain ⟨a,rfl,ha⟩:=hs;unfold cH;refine Q2 (λh=>?_) (λ_=>Q1 trivial);have:=dT h;refine Q0 (Qo (by omega) this) (λe _=>?_);refine Q0 (zKv e _) (λr _=>?_);refine Q2 (λ_=>Q1 rfl) (λ_=>Q1 ?_);rw [yM (by omega)];exact ⟨⟨a+1,rfl,by omega⟩,by simp only [Q4];omega⟩
 ·cases r with
  | inl v=>exact Q1 (by rw [hr];simp)
  | inr u=>
   refine Q2 (λ_=>Q1 (by simp)) (λh40=>?_);have h40':=dF h40;refine Q0 (P:=λb=>b.length<2 ^ 30) ?_ (λb hb=>Q2 (λ_=>Q1 (by simp)) (λh=>Q1 (by have:=dF h;simp only;omega)));obtain ⟨K,hK⟩:∃ K:Nat,K=65537:=⟨_,rfl⟩;refine Q7 (λs=>∃ a:Nat,s.2=(a:Int)/\a<=l.Events.length/\s.1.length<=11+K*a) (λs=>l.Events.length - s.2.toNat) (λs hs=>?_) ⟨0,rfl,by omega,by simpa using hhd⟩ (by simp;omega);obtain ⟨b,a'⟩:=s;obtain ⟨a,g1,g2,g3⟩:=hs;simp only at g1 g3;subst g1;have hKa:K*a<=K*40:=Nat.mul_le_mul_left K (by omega);unfold cI;refine Q2 (λh=>?_) (λ_=>Q1 (by omega));have:=dT h;refine Q0 (Qo (by omega) this) (λe _=>?_);refine Q0 (zLc e) (λx hx=>?_);refine Q0 (P:=λr=>r.length<=b.length+65537) (Q6 (qV _ _ (by omega)) (tA _ _)) (λc hc=>Q1 ?_);rw [yM (by omega)];have hms:K*(a+1)=K*a+K:=Nat.mul_succ K a;exact ⟨⟨a+1,rfl,by omega,by simp only;omega⟩,by simp only [Q4];omega⟩
def bnk (n:Nat):List By:=Qb 12 (Qb n 0)++Qb 4 (Qb n 255)
theorem new1:eA 1=some ⟨[bnk 20,[]],0⟩:=by decide +kernel
theorem new2:eA 2=some ⟨[[],bnk 32],0⟩:=by decide +kernel
theorem new3:eA 3=some ⟨[bnk 20,bnk 32],0⟩:=by decide +kernel
theorem sel1:wY 1=some ⟨4095,0⟩:=by decide +kernel
theorem sel2:wY 2=some ⟨0,4095⟩:=by decide +kernel
theorem sel3:wY 3=some ⟨4095,4095⟩:=by decide +kernel
structure zI9 (active:Int) (r:zD):Prop where
 b:∃ b0 b1,r.Banks=[b0,b1]/\b0.length=(if xP active 0=true then 16 else 0)/\b1.length=(if xP active 1=true then 16 else 0)/\(∀ x∈b0,x.length<=32)/\(∀ x∈b1,x.length<=32)
theorem zLp (b0 b1:List By) (u:Int):wU ⟨[b0,b1],u⟩ 0=some (decide (0<(b0.length:Int)))/\wU ⟨[b0,b1],u⟩ 1=some (decide (0<(b1.length:Int))):=⟨rfl,rfl⟩
theorem zRm (r:zD) (b0 b1:List By) (hb:r.Banks=[b0,b1]) (l0:b0.length<=16) (l1:b1.length<=16) (h0:∀ x∈b0,x.length<=32) (h1:∀ x∈b1,x.length<=32):zAb r=some (b0,b1,r.Updates):=by
 have cp:∀ x:By,x.length<=32->uR x=some x:=λx hx=>zAn x (by omega);unfold zAb;refine ct (by rw [hb];rfl) ?_;refine bd (a:=b0) ?_ ?_
 ·refine yB b0.length (λi=>(b0.take i,(i:Int))) (by simp) (λi hi=>?_) ?_ (xI (by omega))
  ·unfold dL;rw [hb];refine bd (a:=b0) rfl ?_;refine ct (dlt hi) ?_;refine bd (a:=b0) rfl ?_;refine bd (yT hi) ?_;refine bd (cp _ (h0 _ (Q9 hi))) ?_;refine bd (yF (by simp;omega)) ?_;rw [yM (show i<2 ^ 40 by omega),Qg];simp [hi]
  ·unfold dL;rw [hb];refine bd (a:=b0) rfl ?_;refine cf (dge (Qu _)) ?_;simp
 refine ct (by rw [hb];rfl) ?_;refine bd (a:=(b1,b0)) ?_ ?_
 ·refine yB b1.length (λi=>(b1.take i,(i:Int),b0)) (by simp) (λi hi=>?_) ?_ (xI (by omega))
  ·unfold eP;rw [hb];refine bd (a:=b1) rfl ?_;refine ct (dlt hi) ?_;refine bd (a:=b1) rfl ?_;refine bd (yT hi) ?_;refine bd (cp _ (h1 _ (Q9 hi))) ?_;refine bd (yF (by simp;omega)) ?_;rw [yM (show i<2 ^ 40 by omega),Qg];simp [hi]
  ·unfold eP;rw [hb];refine bd (a:=b1) rfl ?_;refine cf (dge (Qu _)) ?_;simp
 exact cf (by rw [hb];rfl) rfl
def upR (act:Bool) (bk:List By) (reg:Int) (f:By->By):List By:=if act=true then bk.set reg.toNat (f (bk.getD reg.toNat [])) else bk
def ext (active:Int) (e:zC) (r:zD):zD:=
 ⟨[upR (xP active 0) (r.Banks.getD 0 []) e.Register (λx=>gG (x++e.Digests.getD 0 [])),upR (xP active 1) (r.Banks.getD 1 []) e.Register (λx=>sha (x++e.Digests.getD 1 []))],Qm.wrap (r.Updates+1)⟩
theorem zP6 (act:Bool) (bk:List By) (reg:Int) (f:By->By):(upR act bk reg f).length=bk.length:=by unfold upR;split<;>simp
theorem zU2 {act:Bool} {reg:Int} {f:By->By} (h:∀ x∈bk,x.length<=32) (hf:∀ x,(f x).length<=32):∀ x∈upR act bk reg f,x.length<=32:=by
 intro x hx;unfold upR at hx;split at hx
 ·rcases List.mem_or_eq_of_mem_set hx with hx | hx
  ·exact h x hx
  ·rw [hx];exact hf _
 ·exact h x hx
theorem zXv {r:zD} (h:zI9 active r):zI9 active (ext active e r):=by
 obtain ⟨⟨b0,b1,hb,l0,l1,m0,m1⟩⟩:=h;unfold ext;rw [hb];exact ⟨⟨_,_,rfl,by rw [zP6];exact l0,by rw [zP6];exact l1,zU2 m0 (λx=>by rw [zTq];omega),zU2 m1 (λx=>by rw [jU];omega)⟩⟩
theorem zN8 (r:zD) (active:Int) (e:zC) (hr:zI9 active r) (he:EvGood e active) (hk:e.Kind≠5):Def (gY r 0 e.Register e.Digests) (λx=>x=(ext active e r,0)):=by
 obtain ⟨⟨b0,b1,hb,l0,l1,m0,m1⟩⟩:=hr;obtain ⟨r0,r1,_,dl,f0,f1⟩:=he;obtain ⟨bs,u⟩:=r;simp only at hb;subst hb;have l0':b0.length<=16:=by rw [l0];split<;>omega
 have l1':b1.length<=16:=by rw [l1];split<;>omega
 unfold Fit at f0 f1;have f0':((e.Digests.getD 0 []).length:Int)<=32:=by rw [f0];split<;>decide
 have f1':((e.Digests.getD 1 []).length:Int)<=32:=by rw [f1];split<;>decide
 have g0:∀ d∈e.Digests,d.length<=32:=by
  intro d hd;obtain ⟨i,hi,rfl⟩:=W2.mp hd;have hi2:i=0∨i=1:=by omega
  rcases hi2 with rfl | rfl
  ·have:(e.Digests.getD 0 [])=e.Digests[0]:=by simp [hi]
   rw [<- this];omega
  ·have:(e.Digests.getD 1 [])=e.Digests[1]:=by simp [hi]
   rw [<- this];omega
 have i0:idx e.Digests 0=some (e.Digests.getD 0 []):=zD2 (i:=0) (by omega);have i1:idx e.Digests 1=some (e.Digests.getD 1 []):=zD2 (i:=1) (by omega);have a0:wU ⟨[b0,b1],u⟩ 0=some (xP active 0):=by
  rw [(zLp b0 b1 u).1,l0];cases xP active 0<;>rfl
 have a1:wU ⟨[b0,b1],u⟩ 1=some (xP active 1):=by
  rw [(zLp b0 b1 u).2,l1];cases xP active 1<;>rfl
 unfold gY;refine Q0 (P:=λb=>b=false) ?_ (λb hb=>?_)
 ·refine Q2 (λh=>by cases h) (λ_=>Q2 (λh=>by cases h) (λ_=>Q2 (λh=>?_) (λ_=>Q2 (λh=>?_) (λ_=>Q1 ?_))))
  ·have:=dT h;omega
  ·have:=dT h;omega
  ·simp;omega
 subst hb;refine Q2 (λh=>by cases h) (λ_=>?_);refine Q0 (P:=λn=>n=0) ?_ (λn hn=>?_)
 ·unfold zCb;refine Q0 (P:=λb=>b=false) (Q1 rfl) (λb hb=>?_);subst hb;refine Q2 (λh=>by cases h) (λ_=>?_);have e14:(e.Register==14)=false:=by simp;omega
  have e15:(e.Register==15)=false:=by simp;omega
  rw [e14,e15];exact Q1 rfl
 subst hn;refine Q2 (λh=>by cases h) (λ_=>?_);refine Q0 (P:=λr=>r=.inr ()) ?_ (λr hr=>?_)
 ·refine Q7 (λs=>s=0∨s=1∨s=2) (λs=>2 - s.toNat) (λs hs=>?_) (.inl rfl) (by simp);unfold bM;refine Q2 (λh=>?_) (λh=>Q1 rfl);refine Q0 (P:=λb=>b=false) ?_ (λb hb=>?_)
  ·rcases hs with rfl | rfl | rfl
   ·refine Q0 (P:=λb=>b=xP active 0) (Q6 a0 rfl) (λb hb=>?_);subst hb;refine Q2 (λh=>?_) (λ_=>Q1 rfl);refine Q0 (P:=λd=>d=e.Digests.getD 0 []) (Q6 i0 rfl) (λd hd=>Q1 ?_);have hh:xP active 0=false:=by simpa using h
    rw [if_neg (by show ¬ (e.Kind≠5/\xP active 0=true);rw [hh];simp)] at f0;rw [decide_eq_false_iff_not,hd];omega
   ·refine Q0 (P:=λb=>b=xP active 1) (Q6 a1 rfl) (λb hb=>?_);subst hb;refine Q2 (λh=>?_) (λ_=>Q1 rfl);refine Q0 (P:=λd=>d=e.Digests.getD 1 []) (Q6 i1 rfl) (λd hd=>Q1 ?_);have hh:xP active 1=false:=by simpa using h
    rw [if_neg (by show ¬ (e.Kind≠5/\xP active 1=true);rw [hh];simp)] at f1;rw [decide_eq_false_iff_not,hd];omega
   ·cases h
  subst hb;refine Q1 ?_;rcases hs with rfl | rfl | rfl
  ·exact ⟨.inr (.inl rfl),by decide⟩
  ·exact ⟨.inr (.inr rfl),by decide⟩
  ·cases h
 subst hr;refine Q0 (P:=λr=>r=.inr ()) ?_ (λr hr=>?_)
 ·refine Q7 (λs=>s=0∨s=1∨s=2) (λs=>2 - s.toNat) (λs hs=>?_) (.inl rfl) (by simp);unfold aH;refine Q2 (λh=>?_) (λh=>Q1 rfl);refine Q0 (P:=λb=>b=false) ?_ (λb hb=>?_)
  ·rcases hs with rfl | rfl | rfl
   ·refine Q0 (P:=λb=>b=xP active 0) (Q6 a0 rfl) (λb hb=>?_);subst hb;refine Q2 (λh=>?_) (λ_=>Q1 rfl);refine Q0 (P:=λd=>d=e.Digests.getD 0 []) (Q6 i0 rfl) (λd hd=>?_);refine Q0 (P:=λd=>d=siz 0) (Q6 (zGi 0) rfl) (λz hz=>Q1 ?_);rw [if_pos ⟨hk,h⟩] at f0;rw [hd,hz];simp;exact f0
   ·refine Q0 (P:=λb=>b=xP active 1) (Q6 a1 rfl) (λb hb=>?_);subst hb;refine Q2 (λh=>?_) (λ_=>Q1 rfl);refine Q0 (P:=λd=>d=e.Digests.getD 1 []) (Q6 i1 rfl) (λd hd=>?_);refine Q0 (P:=λd=>d=siz 1) (Q6 (zGi 1) rfl) (λz hz=>Q1 ?_);rw [if_pos ⟨hk,h⟩] at f1;rw [hd,hz];simp;exact f1
   ·cases h
  subst hb;refine Q1 ?_;rcases hs with rfl | rfl | rfl
  ·exact ⟨.inr (.inl rfl),by decide⟩
  ·exact ⟨.inr (.inr rfl),by decide⟩
  ·cases h
 subst hr;refine Q0 (P:=λx=>x=(b0,b1,u)) (Q6 (zRm _ b0 b1 rfl l0' l1' m0 m1) rfl) (λx hx=>?_);subst hx;obtain ⟨rn,hrn⟩:=Qx r0;have one:∀ (a:Nat) (bk:List By) (f:By->By) (h2:a<2) (h16:bk.length=16) (mm:∀ x∈bk,x.length<=32) (hf:∀ z,z.length<2 ^ 40->sX (a:Int) z=some (f z)),
   Def ((idx bk e.Register).bind λw=>(uR w).bind λw'=>(idx e.Digests (a:Int)).bind λd=>(yN 1 w' d).bind λz=>(sX (a:Int) z).bind λs=>(ixN bk.length e.Register).bind λj=>(vJ bk j s).bind λl=>some l)
    (λb=>b=upR true bk e.Register (λx=>f (x++e.Digests.getD a []))):=by
  intro a bk f h2 h16 mm hf;rw [hrn];have hm:bk.getD rn []∈bk:=by
   have:rn<bk.length:=by omega
   simp [this]
  have:=mm _ hm;refine Q0 (P:=λx=>x=bk.getD rn []) (Q6 (zD2 (by omega)) rfl) (λx hx=>?_);subst hx;refine Q0 (P:=λy=>y=bk.getD rn []) (Q6 (zAn _ (by omega)) rfl) (λy hy=>?_);subst hy;have hd:e.Digests.getD a []∈e.Digests:=by
   have:a<e.Digests.length:=by omega
   simp [this]
  have:=g0 _ hd;refine Q0 (P:=λd=>d=e.Digests.getD a []) (Q6 (zD2 (by omega)) rfl) (λd hd=>?_);subst hd;refine Q0 (Ql (by omega)) (λz hz=>?_);have hzl:z.length<2 ^ 40:=by rw [hz,Q3];omega
  refine Q0 (P:=λs=>s=f z) (Q6 (hf z hzl) rfl) (λs hs=>?_);refine Q0 (Qn (by omega) (by omega)) (λj hj=>?_);refine Q0 (Qw hj.2) (λq hq=>Q1 ?_);rw [hq,hj.1,hs,hz];rfl
 refine Q0 (P:=λb=>b=upR (xP active 0) b0 e.Register (λx=>gG (x++e.Digests.getD 0 []))) ?_ (λc0 hc0=>?_)
 ·refine Q0 (P:=λb=>b=xP active 0) (Q6 a0 rfl) (λb hb=>?_);subst hb;refine Q2 (λh=>?_) (λh=>Q1 (by rw [h];rfl));rw [if_pos h] at l0;rw [h];refine Q0 (P:=λb=>b=b0) (Q1 rfl) (λb hb=>?_);subst hb;exact one 0 _ gG (by omega) l0 m0 zCz
 refine Q0 (P:=λb=>b=upR (xP active 1) b1 e.Register (λx=>sha (x++e.Digests.getD 1 []))) ?_ (λc1 hc1=>?_)
 ·refine Q0 (P:=λb=>b=xP active 1) (Q6 a1 rfl) (λb hb=>?_);subst hb;refine Q2 (λh=>?_) (λh=>Q1 (by rw [h];rfl));rw [if_pos h] at l1;rw [h];refine Q0 (P:=λb=>b=b1) (Q1 rfl) (λb hb=>?_);subst hb;exact one 1 _ sha (by omega) l1 m1 zDd
 exact Q1 (by rw [hc0,hc1];rfl)
set_option maxRecDepth 100000
theorem zQ3 {a:Int} (h1:1<=a) (h3:a<=3):a=1∨a=2∨a=3:=by omega
theorem zGq (n:Nat):(bnk n).length=16:=by simp [bnk]
theorem zKj (n:Nat) (h:n<=32):∀ x∈bnk n,x.length<=32:=by
 intro x hx;simp only [bnk,Qe,List.mem_replicate] at hx;rcases hx with ⟨_,rfl⟩ | ⟨_,rfl⟩<;>simp [h]
def zQw (active:Int):zD:=⟨[if xP active 0=true then bnk 20 else [],if xP active 1=true then bnk 32 else []],0⟩
theorem zZy (active:Int) (h1:1<=active) (h3:active<=3):eA active=some (zQw active):=by
 rcases zQ3 h1 h3 with rfl | rfl | rfl
 ·exact new1
 ·exact new2
 ·exact new3
theorem zV2 (active:Int) (h1:1<=active) (h3:active<=3):zI9 active (zQw active):=by
 rcases zQ3 h1 h3 with rfl | rfl | rfl
 ·exact ⟨⟨_,_,rfl,zGq 20,rfl,zKj 20 (by omega),(by intro x hx;cases hx)⟩⟩
 ·exact ⟨⟨_,_,rfl,rfl,zGq 32,(by intro x hx;cases hx),zKj 32 (by omega)⟩⟩
 ·exact ⟨⟨_,_,rfl,zGq 20,zGq 32,zKj 20 (by omega),zKj 32 (by omega)⟩⟩
def rpl (active:Int) (es:List zC):zD:=es.foldl (λr e=>if e.Kind=5 then r else ext active e r) (zQw active)
theorem zMz (active:Int) {es:List zC} (h:a<es.length):rpl active (es.take (a+1))=if es[a].Kind=5 then rpl active (es.take a) else ext active es[a] (rpl active (es.take a)):=by
 unfold rpl;rw [Qg,List.foldl_append];simp [h]
theorem zP8 (active:Int):∀ (es:List zC) (r:zD),zI9 active r->zI9 active (es.foldl (λr e=>if e.Kind=5 then r else ext active e r) r)
 | [],_,h=>h
 | e :: es,r,h=>by
  rw [List.foldl_cons];refine zP8 active es _ ?_;split
  ·exact h
  ·exact zXv h
theorem zIm (active:Int) (es:List zC) (h1:1<=active) (h3:active<=3):zI9 active (rpl active es):=zP8 active es _ (zV2 active h1 h3)
theorem zIp (l:zV) (h:l.Events.length<2 ^ 20) (h1:1<=l.Active) (h3:l.Active<=3):Def (jN l) (λr=>(r.2=0->r.1=rpl l.Active l.Events)/\((∀ e∈l.Events,EvC e l.Active)->r.2=0)):=by
 unfold jN;refine Q0 (P:=λb=>b=false) ?_ (λb hb=>?_)
 ·refine Q2 (λh=>by have:=dT h;omega) (λ_=>Q1 ?_);rw [decide_eq_false_iff_not];omega
 subst hb;refine Q2 (λh=>by cases h) (λ_=>?_);refine Q0 (vD l.Events (o8 l) (λi=>∀ h:i<l.Events.length,EvGood l.Events[i] l.Active) (λv=>v.2≠0/\¬ ∀ e∈l.Events,EvC e l.Active) (by omega) (λa ha=>?_) ?_) (λr hr=>?_)
 ·unfold o8;refine Q2 (λ_=>?_) (λh=>by have:=dF h;omega);refine Q0 (Def.at' ha) (λe he=>?_);subst he;refine Q0 (zKv _ _) (λr hr=>?_);refine Q2 (λhz=>Q1 ⟨by simpa using hz,λhall=>?_⟩) (λhz=>Q1 ⟨yM (by omega),λ_=>(hr.1 (by simpa using hz)).toEvGood⟩);have:=hr.2 (hall _ (Q9 ha));rw [this] at hz;cases hz
 ·unfold o8;exact cf (by simp) rfl
 cases r with
 | inl v=>exact Q1 ⟨λh=>absurd h hr.1,λh=>absurd h hr.2⟩
 | inr u=>
  have hr':∀ e∈l.Events,EvGood e l.Active:=by
   intro e he;obtain ⟨i,hi,rfl⟩:=W2.mp he;exact hr i hi hi
  refine Q0 (P:=λr=>r=zQw l.Active) (Q6 (zZy _ h1 h3) rfl) (λrg hrg=>?_);subst hrg;refine Q0 (P:=λr=>(⟨r.1,r.2⟩:zD)=rpl l.Active l.Events) ?_ (λr hr=>Q1 ⟨λ_=>hr,λ_=>rfl⟩);refine Q7 (λs=>∃ a:Nat,s.1=(a:Int)/\a<=l.Events.length/\(⟨s.2.1,s.2.2⟩:zD)=rpl l.Active (l.Events.take a)) (λs=>l.Events.length - s.1.toNat) (λs hs=>?_) ⟨0,rfl,by omega,rfl⟩ (by simp;omega);obtain ⟨a',bs,up⟩:=s;obtain ⟨a,g1,g2,g3⟩:=hs;simp only at g1 g3;subst g1;unfold cC;refine Q2 (λh=>?_) (λh=>Q1 ?_)
  ·have ha2:a<l.Events.length:=by have:=dT h;omega
   refine Q0 (P:=λr=>(⟨r.1,r.2⟩:zD)=rpl l.Active (l.Events.take (a+1))) ?_ (λr hr=>Q1 ?_)
   ·rw [zMz _ ha2];refine Q0 (Def.at' ha2) (λe he=>?_);subst he;refine Q2 (λhk=>?_) (λhk=>Q1 (by rw [if_pos (by simpa using hk)];exact g3));have hk':l.Events[a].Kind≠5:=by simpa using hk
    rw [if_neg hk'];refine Q0 (Def.at' ha2) (λe he=>?_);subst he;refine Q0 (Def.at' ha2) (λe he=>?_);subst he;rw [g3];exact Q0 (zN8 _ l.Active _ (zIm _ _ h1 h3) (hr' _ (Q9 ha2)) hk') (λr hr=>Q1 (by subst hr;rfl))
   ·rw [yM (by omega)];exact ⟨⟨a+1,rfl,by omega,hr⟩,by simp only [Q4];omega⟩
  ·have:=dF h;rw [Qa (by omega)] at g3;exact g3
theorem bit0 (x:Int):(xG .i64 (xE .i64 0 x) 1==1)=false:=by
 unfold xE;rw [Int.zero_fdiv];decide
def xQ (active a:Int):Int:=if xP active a=true then 4095 else 0
theorem zP4 (active:Int) (h1:1<=active) (h3:active<=3):wY active=some ⟨xQ active 0,xQ active 1⟩:=by
 rcases zQ3 h1 h3 with rfl | rfl | rfl
 ·exact sel1
 ·exact sel2
 ·exact sel3
def zWf (v:Int) (i:Nat):Bool:=xG .i64 (xE .i64 v (Qt.wrap (i:Int))) 1==1
def kP (v:Int) (bk:List By):Nat->By
 | 0=>[]
 | n+1=>kP v bk n++(if zWf v n=true then bk.getD n [] else [])
theorem zRs (v:Int) (bk:List By) (n:Nat):kP v bk (n+1)=kP v bk n++(if zWf v n=true then bk.getD n [] else []):=rfl
theorem zGo (h:∀ x∈bk,x.length<=32) (n:Nat):(bk.getD n []).length<=32:=by
 by_cases hn:n<bk.length
 ·have:bk.getD n []=bk[n]:=by simp [hn]
  rw [this];exact h _ (Q9 hn)
 ·have:bk.getD n []=[]:=by simp [List.getD,List.getElem?_eq_none (by omega:bk.length<=n)]
  rw [this];simp
theorem fU (h:∀ x∈bk,x.length<=32) (v:Int):∀ n,(kP v bk n).length<=32*n
 | 0=>by simp [kP]
 | n+1=>by
  have:=fU h v n;have:=zGo h n;rw [zRs,Q3];split
  ·omega
  ·simp only [Q5];omega
theorem zNo {v:Int} {all:By} {o:Option (List By)} (hi:i<16) (hz:v=0∨bk.length=16) (hb:∀ x∈bk,x.length<=32) (hl:all.length<=512) (ho:o=some bk) :
  (bif ((xG .i64 (xE .i64 v (Qt.wrap (i:Int))) 1)==1) then (o.bind λb=>(idx b (i:Int)).bind λx=>(yN 1 (all++kP v bk i) x).bind λz=>some z) else some (all++kP v bk i))=some (all++kP v bk (i+1)):=by
 have hs:=fU hb v i;have hg:=zGo hb i;rw [zRs];cases hbit:zWf v i
 ·refine cf hbit ?_;simp
 ·refine ct hbit ?_;have h16:bk.length=16:=by
   rcases hz with h | h
   ·unfold zWf at hbit;rw [h,bit0] at hbit;cases hbit
   ·exact h
  refine bd ho ?_;refine bd (zD2 (by omega)) ?_;refine bd (yF (by rw [Q3];omega)) ?_;simp
theorem zW6 (r:zD) (s:A2 Int) (a:Int) (v:Int) (bk:List By) (hv:((ixN 2 a).bind λj=>[s.a0,s.a1][j]?)=some v) (hi:idx r.Banks a=some bk) (hz:v=0∨bk.length=16) (hb:∀ x∈bk,x.length<=32) (all:By) (hl:all.length<=512) :
  zK (iS r s a) FU (all,0)=some (all++kP v bk 16):=by
 refine yB 16 (λi=>(all++kP v bk i,(i:Int))) (by simp [kP]) (λi hi16=>?_) rfl (xI (by decide));unfold iS;refine ct (by simp;omega) ?_;have e:∀ (f:Int->Option By),((ixN 2 a).bind λj=>([s.a0,s.a1][j]?).bind f)=f v:=by
  intro f;rw [<- Option.bind_assoc,hv];rfl
 rw [e];refine bd (zNo hi16 hz hb hl hi) ?_;rw [yM (by omega)]
def dgs (active:Int) (r:zD):By:=hs 5 [vI (vI [] 2 (xQ active 0)) 2 (xQ active 1),kP (xQ active 0) (r.Banks.getD 0 []) 16++kP (xQ active 1) (r.Banks.getD 1 []) 16]
theorem zWk (active:Int) (r:zD):(dgs active r).length=32:=zFd _ _
theorem zEd (active a:Int):0<=xQ active a/\xQ active a<=65535:=by unfold xQ;split<;>decide
theorem zKx {a:Int} (hb:b=xP active a):(xQ active a != 0&&!b)=false:=by
 subst hb;unfold xQ;cases xP active a<;>rfl
theorem zFs (r:zD) (active:Int) (hr:zI9 active r):gX r ⟨xQ active 0,xQ active 1⟩=some (dgs active r,0):=by
 obtain ⟨⟨b0,b1,hb,l0,l1,m0,m1⟩⟩:=hr;obtain ⟨bs,u⟩:=r;simp only at hb;subst hb;have s0:=zEd active 0;have s1:=zEd active 1;have z0:xQ active 0=0∨b0.length=16:=by unfold xQ;split at l0<;>simp_all
 have z1:xQ active 1=0∨b1.length=16:=by unfold xQ;split at l1<;>simp_all
 have a0:wU ⟨[b0,b1],u⟩ 0=some (xP active 0):=by
  rw [(zLp b0 b1 u).1,l0];cases xP active 0<;>rfl
 have a1:wU ⟨[b0,b1],u⟩ 1=some (xP active 1):=by
  rw [(zLp b0 b1 u).2,l1];cases xP active 1<;>rfl
 have n0:=zKx (active:=active) (a:=0) rfl;have n1:=zKx (active:=active) (a:=1) rfl;have hd:dgs active ⟨[b0,b1],u⟩=hs 5 [vI (vI [] 2 (xQ active 0)) 2 (xQ active 1),kP (xQ active 0) b0 16++kP (xQ active 1) b1 16]:=rfl;rw [hd];generalize xQ active 0=x0 at s0 z0 n0;generalize xQ active 1=x1 at s1 z1 n1;have e0:=fU m0 x0 16;have e1:=fU m1 x1 16;have d0:=zW6 ⟨[b0,b1],u⟩ ⟨x0,x1⟩ 0 x0 b0 rfl rfl z0 m0 [] (by simp);have d1:=zW6 ⟨[b0,b1],u⟩ ⟨x0,x1⟩ 1 x1 b1 rfl rfl z1 m1 (kP x0 b0 16) (by omega);rw [W9] at d0;generalize kP x0 b0 16=t0 at *;generalize kP x1 b1 16=t1 at *;have rng:∀ x:Int,0<=x/\x<=65535->(bif decide (x<0) then some true else some (decide (65535<x)):Option Bool)=some false:=by
  intro x hx;refine cf (by simp;omega) ?_;rw [show decide (65535<x)=false by simp;omega]
 have act:∀ (x:Int) (o:Option Bool) (b:Bool),o=some b->(x != 0&&!b)=false->(bif x != 0 then (o.bind λb=>some (!b)) else some false:Option Bool)=some false:=by
  intro x o b ho hn;subst ho;cases h:x != 0
  ·rfl
  ·rw [h] at hn;exact congrArg some hn
 unfold gX;refine bd (a:=.inr ()) (two (b:=1) (c:=2) ?_ ?_ rfl) ?_
 ·unfold iC;refine ct rfl ?_;exact bd (a:=false) (rng x0 s0) rfl
 ·unfold iC;refine ct rfl ?_;exact bd (a:=false) (rng x1 s1) rfl
 refine bd (a:=.inr (t0++t1)) (two (b:=(t0,1)) (c:=(t0++t1,2)) ?_ ?_ rfl) ?_
 ·unfold hZ;refine ct rfl ?_;refine bd (a:=false) (act x0 _ _ a0 n0) ?_;refine cf rfl ?_;exact bd d0 rfl
 ·unfold hZ;refine ct rfl ?_;refine bd (a:=false) (act x1 _ _ a1 n1) ?_;refine cf rfl ?_;exact bd d1 rfl
 refine bd (a:=x0) rfl ?_;refine bd (uV [] 2 x0 (by omega) (by omega) (by simp)) ?_;refine bd (a:=x1) rfl ?_;refine bd (uV _ 2 x1 (by omega) (by omega) (by rw [yI];simp)) ?_;exact bd (kK _ _ (by rw [zOs,yI,yI,Q3];simp only [Q5];omega)) rfl
theorem zLj (l:zV) (h:l.Events.length<2 ^ 20) (h1:1<=l.Active) (h3:l.Active<=3):Def (xR l ⟨xQ l.Active 0,xQ l.Active 1⟩) (λ_=>True):=by
 unfold xR;refine Q0 (zIp l h h1 h3) (λr hr=>?_);obtain ⟨rg,e⟩:=r;refine Q2 (λ_=>Q1 trivial) (λhe=>?_);have he':rg=rpl l.Active l.Events:=hr.1 (by simpa using he);subst he';exact Q0 (P:=λ_=>True) (Q6 (zFs _ l.Active (zIm _ _ h1 h3)) trivial) (λ_ _=>Q1 trivial)
theorem zMs (l:zV) (h:l.Events.length<2 ^ 20) (h1:1<=l.Active) (h3:l.Active<=3) (hg:∀ e∈l.Events,EvC e l.Active):xR l ⟨xQ l.Active 0,xQ l.Active 1⟩=some (dgs l.Active (rpl l.Active l.Events),0):=by
 obtain ⟨⟨rg,e⟩,h0,h2,h4⟩:=zIp l h h1 h3;have he:e=0:=h4 hg;subst he;have hrg:rg=rpl l.Active l.Events:=h2 rfl;subst hrg;unfold xR;refine bd h0 ?_;refine cf rfl ?_;exact bd (zFs _ l.Active (zIm _ _ h1 h3)) rfl
theorem zIt (i:Int):Def (vF i) (λr=>r.length=32):=by
 unfold vF;exact Q0 (zDl _ (by simp)) (λr hr=>Q1 hr)
theorem aU (i:Int):Def (tU i) (λp=>p.Unique.length=17):=by
 unfold tU;refine Q0 (zIt i) (λr hr=>?_);exact Q0 (P:=λx=>x.length=17) (Q6 (zFm r (by omega)) (bP r)) (λx hx=>Q1 hx)
theorem zQ1 (l:zV) (machine key:Int) (nonce:By) (h:l.Events.length<2 ^ 20) (h1:1<=l.Active) (h3:l.Active<=3) (hn:nonce.length<2 ^ 30):Def (nC l machine key nonce) (λa=>a.Key.length=32/\a.Nonce.length=32/\a.Digest.length=32):=by
 unfold nC;refine Q0 (zHj l h) (λr hr=>?_);obtain ⟨b,e⟩:=r;have hb:b.length<=8192:=hr;refine Q0 (P:=λs=>s=⟨xQ l.Active 0,xQ l.Active 1⟩) (Q6 (zP4 _ h1 h3) rfl) (λs hs=>?_);subst hs;refine Q0 (zLj l h h1 h3) (λr _=>?_);obtain ⟨d,e2⟩:=r;refine Q0 (P:=λd=>d.length=32) ?_ (λd hd=>?_)
 ·refine Q2 (λ_=>?_) (λhd=>Q1 (by simp at hd;omega));exact Q0 (Def.mkN (by decide) (by decide)) (λn hn=>Q1 (by rw [hn];simp))
 refine Q0 (aU key) (λp hp=>?_);refine Q0 (P:=λx=>x.length=32) (Q6 (bW _) (zFd _ _)) (λk hk=>?_);refine Q0 (P:=λx=>x.length=32) (Q6 (zEy _ _ _ hn (by omega)) (zFd _ _)) (λn hn=>?_);exact Q1 ⟨hk,hn,hd⟩
end Go.Proofs.TT
