/- UpdatePolicy holds for all inputs -/
import Derived.Test.YtlipjldhnmcbiaaGreatDoorCZ11
set_option linter.all false
open Go.Sw.Def renaming bd -> Q0, s -> Q1, c -> Q2, of -> Q4, loop -> Q9, app -> Qt, ck -> W2, lt -> W3, ixN -> W4, upd -> Wa
open List renaming length_append -> Q3, getElem_mem -> Q5, take_of_length_le -> Q6, take_add_one -> Q8, replicate -> Qa, flatMap_cons -> Qb, length_cons -> Qc, length_nil -> Qe, mem_iff_getElem -> Qf, mem_cons_self -> Qh, append_assoc -> Qi, mem_cons -> Qj, drop_eq_getElem_cons -> Ql, mem_append -> Qp, nil_append -> Qr, length_pos_iff -> Qs, drop_eq_nil_of_le -> Qw, length -> Qy, length_singleton -> Qz, mem_cons_of_mem -> W0, flatMap_append -> W1, all_eq_false -> W5, not_mem_nil -> W6, all_eq_true -> W7, append_nil -> W8
open Int renaming toNat_natCast -> Q7, eq_ofNat_of_zero_le -> Qm, tmod_eq_emod_of_nonneg -> Qu, le_refl -> Qx, tdiv -> Wc, tmod -> Wd
open Go.IntKind renaming u32 -> Qd, i64 -> Qk, u64 -> Qn
open Nat renaming le_refl -> Qg, blt_eq -> W9, blt -> Wb
open Go.Lib renaming indexByte -> Qo
open Bool renaming or_eq_false_iff -> Qq
open Option renaming bind_some -> Qv
namespace Go.Sw
open Go
theorem zCg {X Y:Type} {s1 s2:X->Option (X ⊕ Y)} (I:X->Prop) (h:∀ s,I s->s1 s=s2 s/\Def (s2 s) (λr=>∀ s',r=.inl s'->I s')):∀ (n:Nat) (s:X),I s->zP s1 n s=zP s2 n s
 | 0,_,_=>rfl
 | n+1,s,hs=>by
  obtain ⟨e,r,hr,hI⟩:=h s hs;simp only [zP];rw [e,hr];cases r with
  | inl s'=>exact zCg I h n s' (hI s' rfl)
  | inr y=>rfl
end Go.Sw
namespace Go.Proofs.TT
open Go Go.Sw
set_option maxRecDepth 100000
variable {a:Nat}{active:Int}{b:Bool}{bk:List By}{c:Bool}{e:zG}{i j:Nat}{p:Prop}{α:Type}{l:List α}
theorem dT [Decidable p] (h:decide p=true):p:=by simpa using h
theorem dF [Decidable p] (h:decide p=false):¬ p:=by simpa using h
theorem Def.at' (h:i<l.length):Def (idx l (i:Int)) (λr=>r=l[i]):=⟨_,xH h,rfl⟩
theorem bE {R:Type} (l:List α) (step:Int->Option (Int ⊕ (R ⊕ Unit))) (G:Nat->Prop) (B:R->Prop) (hl:l.length<2 ^ 40)
  (h:∀ i,i<l.length->Def (step (i:Int)) (λr=>match r with | .inl j=>j=((i+1:Nat):Int)/\G i | .inr (.inl b)=>B b | .inr (.inr _)=>False))
  (he:step (l.length:Int)=some (.inr (.inr ()))):Def (zP step FU 0) (λr=>match r with | .inl b=>B b | .inr _=>∀ i,i<l.length->G i):=by
 refine Q9 (λs=>∃ i:Nat,s=(i:Int)/\i<=l.length/\∀ k,k<i->G k) (λs=>l.length - s.toNat) (λs hs=>?_) ⟨0,rfl,by omega,λk hk=>by omega⟩ (by simp;omega);obtain ⟨i,rfl,hi,hg⟩:=hs;by_cases h2:i<l.length
 ·refine (h i h2).mono λr hr=>?_
  match r,hr with
  | .inl j,hr=>
   refine ⟨⟨i+1,hr.1,h2,λk hk=>?_⟩,by rw [hr.1];simp only [Q7];omega⟩;by_cases hk2:k<i
   ·exact hg k hk2
   ·have:k=i:=by omega
    subst this;exact hr.2
  | .inr (.inl b),hr=>exact hr
  | .inr (.inr u),hr=>exact hr.elim
 ·have:i=l.length:=by omega
  subst this;exact Q4 he hg
theorem two {X Y:Type} {step:X->Option (X ⊕ Y)} {a b c:X} {r:Y} (h0:step a=some (.inl b)) (h1:step b=some (.inl c)) (h2:step c=some (.inr r)):zP step FU a=some r:=by
 refine yM 2 (λi=>match i with | 0=>a | 1=>b | _=>c) rfl (λi hi=>?_) h2 (wM (by decide));have:i=0∨i=1:=by omega
 rcases this with rfl | rfl
 ·exact h0
 ·exact h1
theorem yEk (x n m:Int) (h:vA .u64 (Qn.wrap n) 31=32 - m) (hn:n=32 - m) (h0:0<=m) (h1:m<=32):zU x n=sX x n:=by
 rw [mT x n m h h0 h1];subst hn;have h2:Qn.wrap (32 - (32 - m))=m:=by rw [IntKind.wrap_u64];omega
 have h4:decide ((0:Int)<=32 - m)=true:=by simp;omega
 simp only [sX,ck,lt,h2,h4,rr,cond_true,Qv];rw [zNv]
theorem rot1 (x:Int):zU x 1=sX x 1:=yEk x 1 31 (by decide) (by decide) (by decide) (by decide)
theorem rot5 (x:Int):zU x 5=sX x 5:=yEk x 5 27 (by decide) (by decide) (by decide) (by decide)
theorem yFp (x:Int):zU x 30=sX x 30:=yEk x 30 2 (by decide) (by decide) (by decide) (by decide)
theorem zJx (x n:Int) (h0:0<=n):Def (sX x n) (λ_=>True):=by
 unfold sX;refine Q0 (W2 (by simpa using h0)) (λ_ _=>?_);exact W3 (Q1 trivial)
theorem w80 {w:List Int} (hw:w.length=80) (hj:j<80):Def (w[j]?) (λ_=>True):=(Def.at (by omega)).mono λ_ _=>trivial
theorem ixw {n:Nat} (hn:j<n) (z:Int) (hz:z=(j:Int)):Def (Go.Sw.ixN n z) (λr=>r=j):=by
 subst hz;exact (W4 (by omega) (by omega)).mono λa h=>by rw [h.1];simp
theorem s1_s (x:By) (at' i:Nat) (w:List Int) (h:at'+64<=x.length) (hb:x.length<2 ^ 42) (hi:i<=80) (hw:w.length=80) :
  Def (sC x (at':Int) ((i:Int),w)) (λr=>match r with | .inl s=>∃ w',s=(((i+1:Nat):Int),w')/\i<80/\w'.length=80 | .inr w=>w.length=80):=by
 unfold sC;refine Q2 (λh=>?_) (λ_=>Q1 hw);have hi2:i<80:=by have:=dT h;omega
 have up:∀ v,Def ((Go.Sw.ixN 80 (i:Int)).bind λj=>(uA w j v).bind λw=>some w) (λw'=>w'.length=80):=λv=>by
  refine Q0 (ixw hi2 _ rfl) (λj hj=>?_);subst hj;exact Q0 (Wa (by omega)) (λr hr=>Q1 (by rw [hr];simpa using hw))
 refine Q0 (P:=λw'=>w'.length=80) ?_ (λw' hw'=>Q1 ⟨w',by rw [wU (by omega)],hi2,hw'⟩);refine Q2 (λh16=>?_) (λh16=>?_)
 ·have h16':i<16:=by have:=dT h16;omega
  rw [xU (by omega) (by omega)];refine Q0 (Def.sub (by omega) (by omega) (by omega)) (λy hy=>?_);have hyl:y.length=64:=by rw [hy];simp;omega
  exact Q0 (P:=λ_=>True) (Q4 (zM0 y i (by omega) (by omega)) trivial) (λv _=>up v)
 ·have h16':16<=i:=by have:=dF h16;omega
  have wr:∀ k:Nat,k<=16->Qk.wrap ((i:Int) - (k:Int))=((i - k:Nat):Int):=λk hk=>by rw [xU (by omega) (by omega)];omega
  refine Q0 (ixw (show i - 3<80 by omega) _ (wr 3 (by omega))) (λj hj=>?_);refine Q0 (w80 hw (by omega)) (λ_ _=>?_);refine Q0 (ixw (show i - 8<80 by omega) _ (wr 8 (by omega))) (λj hj=>?_);refine Q0 (w80 hw (by omega)) (λ_ _=>?_);refine Q0 (ixw (show i - 14<80 by omega) _ (wr 14 (by omega))) (λj hj=>?_);refine Q0 (w80 hw (by omega)) (λ_ _=>?_);refine Q0 (ixw (show i - 16<80 by omega) _ (wr 16 (by omega))) (λj hj=>?_);refine Q0 (w80 hw (by omega)) (λ_ _=>?_);refine W3 ?_;exact Q0 (zJx _ _ (by decide)) (λv _=>up v)
theorem s1_e (x:By) (at' i:Nat) (w:List Int) (h:at'+64<=x.length) (hb:x.length<2 ^ 42):uH (wV x at') ((i:Int),w)=sC x (at':Int) ((i:Int),w):=by
 unfold uH sC;have hs:sub x (at':Int) (Qk.wrap ((at':Int)+64))=some (wV x at'):=by
  rw [xU (by omega) (by omega),show (at':Int)+64=((at'+64:Nat):Int) by omega,lI (by omega) (by omega)];simp [wV]
 simp only [rot1,hs,zOd,Qv]
theorem yG2 (x:By) (at':Nat) (h:at'+64<=x.length) (hb:x.length<2 ^ 42) :
  Def (zP (sC x (at':Int)) FU (0,Qa 80 0)) (λw=>w.length=80/\zP (uH (wV x at')) FU (0,Qa 80 0)=some w):=by
 have e:zP (uH (wV x at')) FU (0,Qa 80 0)=zP (sC x (at':Int)) FU (0,Qa 80 0):=by
  refine zCg (λs=>∃ i:Nat,s.1=(i:Int)/\i<=80/\s.2.length=80) (λs hs=>?_) _ _ ⟨0,rfl,by omega,by simp⟩;obtain ⟨i',w⟩:=s;obtain ⟨i,h1,hi,hw⟩:=hs;have h1:i'=(i:Int):=h1;subst h1;refine ⟨s1_e x at' i w h hb,(s1_s x at' i w h hb hi hw).mono λr hr s' hs'=>?_⟩;subst hs';obtain ⟨w',rfl,h2,h3⟩:=hr;exact ⟨i+1,rfl,by omega,h3⟩
 rw [e];obtain ⟨w,h1,h2⟩:Def (zP (sC x (at':Int)) FU (0,Qa 80 0)) (λw=>w.length=80):=by
  refine Q9 (λs=>∃ i:Nat,s.1=(i:Int)/\i<=80/\s.2.length=80) (λs=>80 - s.1.toNat) (λs hs=>?_) ⟨0,rfl,by omega,by simp⟩ (by simp);obtain ⟨i',w⟩:=s;obtain ⟨i,h1,hi,hw⟩:=hs;have h1:i'=(i:Int):=h1;subst h1;refine (s1_s x at' i w h hb hi hw).mono λr hr=>?_;cases r with
  | inl s'=>
   obtain ⟨w',rfl,h2,h3⟩:=hr;exact ⟨⟨i+1,rfl,by omega,h3⟩,by simp only [Q7];omega⟩
  | inr w=>exact hr
 exact ⟨w,h1,h2,h1⟩
theorem r1_s (w:List Int) (hw:w.length=80) (a b c d e:Int) (i:Nat) (hi:i<=80) :
  Def (sJ w (a,b,c,d,e,(i:Int))) (λr=>match r with | .inl s=>s.2.2.2.2.2=((i+1:Nat):Int)/\i<80 | .inr _=>True):=by
 unfold sJ;refine Q2 (λh=>?_) (λ_=>Q1 trivial);have hi2:i<80:=by have:=dT h;omega
 refine Q0 (P:=λ_=>True) ?_ (λx _=>?_)
 ·exact Q2 (λ_=>W3 (Q1 trivial)) (λ_=>Q2 (λ_=>Q1 trivial) (λ_=>Q2 (λ_=>W3 (Q1 trivial)) (λ_=>Q1 trivial)))
 obtain ⟨f,k⟩:=x;refine Q0 (zJx _ _ (by decide)) (λ_ _=>?_);refine W3 ?_;refine Q0 (ixw hi2 _ rfl) (λj hj=>?_);refine Q0 (w80 hw (by omega)) (λ_ _=>?_);refine W3 ?_;refine Q0 (zJx _ _ (by decide)) (λ_ _=>Q1 ?_);exact ⟨wU (by omega),hi2⟩
theorem r1_e (w:List Int) (a b c d e:Int) (i:Nat) (hi:i<=80):uF w (a,b,c,d,e,(i:Int))=sJ w (a,b,c,d,e,(i:Int)):=by
 have hq:Qk.wrap (Wc (i:Int) 20)=((i / 20:Nat):Int):=by
  rw [show Wc (i:Int) 20=((i / 20:Nat):Int) from rfl];exact xU (by omega) (by omega)
 unfold uF sJ;simp only [rot5,yFp,hq];by_cases h1:i<20
 ·rw [show (((i / 20:Nat):Int)==0)=true by simp;omega,show decide ((i:Int)<20)=true by simp;omega];rfl
 by_cases h2:i<40
 ·rw [show (((i / 20:Nat):Int)==0)=false by simp;omega,show decide ((i:Int)<20)=false by simp;omega,show (((i / 20:Nat):Int)==1)=true by simp;omega,show decide ((i:Int)<40)=true by simp;omega];rfl
 by_cases h3:i<60
 ·rw [show (((i / 20:Nat):Int)==0)=false by simp;omega,show decide ((i:Int)<20)=false by simp;omega,show (((i / 20:Nat):Int)==1)=false by simp;omega,show decide ((i:Int)<40)=false by simp;omega,show (((i / 20:Nat):Int)==2)=true by simp;omega,show decide ((i:Int)<60)=true by simp;omega]
 ·by_cases h4:i<80
  ·rw [show (((i / 20:Nat):Int)==0)=false by simp;omega,show decide ((i:Int)<20)=false by simp;omega,show (((i / 20:Nat):Int)==1)=false by simp;omega,show decide ((i:Int)<40)=false by simp;omega,show (((i / 20:Nat):Int)==2)=false by simp;omega,show decide ((i:Int)<60)=false by simp;omega]
  ·rw [show decide ((i:Int)<80)=false by simp;omega];rfl
theorem yFx (w:List Int) (hw:w.length=80) (a b c d e:Int):Def (zP (sJ w) FU (a,b,c,d,e,0)) (λr=>zP (uF w) FU (a,b,c,d,e,0)=some r):=by
 have e1:zP (uF w) FU (a,b,c,d,e,0)=zP (sJ w) FU (a,b,c,d,e,0):=by
  refine zCg (λs=>∃ i:Nat,s.2.2.2.2.2=(i:Int)/\i<=80) (λs hs=>?_) _ _ ⟨0,rfl,by omega⟩;obtain ⟨a,b,c,d,e,v⟩:=s;obtain ⟨i,h1,hi⟩:=hs;have h1:v=(i:Int):=h1;subst h1;refine ⟨r1_e w a b c d e i hi,(r1_s w hw a b c d e i hi).mono λr hr s' hs'=>?_⟩;subst hs';exact ⟨i+1,hr.1,by have:=hr.2;omega⟩
 rw [e1];obtain ⟨r,h1,_⟩:Def (zP (sJ w) FU (a,b,c,d,e,0)) (λ_=>True):=by
  refine Q9 (λs=>∃ i:Nat,s.2.2.2.2.2=(i:Int)/\i<=80) (λs=>80 - s.2.2.2.2.2.toNat) (λs hs=>?_) ⟨0,rfl,by omega⟩ (by simp);obtain ⟨a,b,c,d,e,v⟩:=s;obtain ⟨i,h1,hi⟩:=hs;have h1:v=(i:Int):=h1;subst h1;refine (r1_s w hw a b c d e i hi).mono λr hr=>?_;cases r with
  | inl s'=>exact ⟨⟨i+1,hr.1,by have:=hr.2;omega⟩,by rw [hr.1];simp only [Q7];have:=hr.2;omega⟩
  | inr r=>trivial
 exact ⟨r,h1,h1⟩
def a5 (s:A5 Int):List Int:=[s.a0,s.a1,s.a2,s.a3,s.a4]
def zX4 (h:A5 Int) (b:By):A5 Int:=(uV h b).getD h
theorem blk1 (x:By) (at':Nat) (h:A5 Int) (hx:at'+64<=x.length) (hb:x.length<2 ^ 42) :
  uV h (wV x at')=some (zX4 h (wV x at'))/\oG x (a5 h,(at':Int))=some (.inl (a5 (zX4 h (wV x at')),((at'+64:Nat):Int))):=by
 obtain ⟨w,hw1,hw2,hw3⟩:=yG2 x at' hx hb;obtain ⟨⟨a,b,c,d,e⟩,hr1,hr2⟩:=yFx w hw2 h.a0 h.a1 h.a2 h.a3 h.a4;have e1:uV h (wV x at')=some ⟨Qd.wrap (h.a0+a),Qd.wrap (h.a1+b),Qd.wrap (h.a2+c),Qd.wrap (h.a3+d),Qd.wrap (h.a4+e)⟩:=by
  unfold uV;refine bd hw3 ?_;exact bd hr2 rfl
 have e2:zX4 h (wV x at')=⟨Qd.wrap (h.a0+a),Qd.wrap (h.a1+b),Qd.wrap (h.a2+c),Qd.wrap (h.a3+d),Qd.wrap (h.a4+e)⟩:=by
  unfold zX4;rw [e1];rfl
 rw [e2];refine ⟨e1,?_⟩;unfold oG;refine ct (dlt (by omega)) ?_;refine bd hw1 ?_;refine bd (a:=h.a0) rfl ?_;refine bd (a:=h.a1) rfl ?_;refine bd (a:=h.a2) rfl ?_;refine bd (a:=h.a3) rfl ?_;refine bd (a:=h.a4) rfl ?_;refine bd hr1 ?_;refine bd (a:=h.a0) rfl ?_;refine bd (a:=h.a1) rfl ?_;refine bd (a:=h.a2) rfl ?_;refine bd (a:=h.a3) rfl ?_;refine bd (a:=h.a4) rfl ?_;rw [xU (by omega) (by omega),show (at':Int)+64=((at'+64:Nat):Int) by omega];rfl
def zZs:A5 Int:=⟨1732584193,4023233417,2562383102,271733878,3285377520⟩
def zC3 (x:By):Nat->A5 Int
 | 0=>zZs
 | i+1=>zX4 (zC3 x i) (wV x (64*i))
def st5 (p:By) (h:A5 Int):By×Int×Int×Int×Int×Int:=(p,h.a0,h.a1,h.a2,h.a3,h.a4)
theorem zN2 (x:By) (n:Nat) (hx:x.length=64*n) (hl:x.length<2 ^ 42):zP mZ FU (st5 x zZs)=some ((zC3 x n).a0,(zC3 x n).a1,(zC3 x n).a2,(zC3 x n).a3,(zC3 x n).a4):=by
 refine yM n (λi=>st5 (x.drop (64*i)) (zC3 x i)) (by simp [zC3]) (λi hi=>?_) ?_ (wM (by omega))
 ·have hd:(x.drop (64*i)).length=x.length - 64*i:=by simp
  unfold mZ st5;refine ct (by simp;omega) ?_;refine bd (a:=wV x (64*i)) (by rw [show (0:Int)=((0:Nat):Int) from rfl,show (64:Int)=((64:Nat):Int) from rfl,lI (by omega) (by omega)];simp [wV]) ?_;refine bd (blk1 x (64*i) (zC3 x i) (by omega) hl).1 ?_;refine bd (a:=x.drop (64*(i+1))) (by rw [show (64:Int)=((64:Nat):Int) from rfl,lI (by omega) (by omega)];rw [List.drop_drop,Q6 (by simp;omega)];congr 2) ?_;rfl
 ·have hd:x.drop (64*n)=[]:=Qw (by omega);show mZ (st5 (x.drop (64*n)) (zC3 x n))=_;rw [hd];generalize zC3 x n=S;rfl
theorem zO0 (x:By) (n:Nat) (hx:x.length=64*n) (hl:x.length<2 ^ 42):zP (oG x) FU (a5 zZs,0)=some (a5 (zC3 x n)):=by
 refine yM n (λi=>(a5 (zC3 x i),((64*i:Nat):Int))) rfl (λi hi=>?_) ?_ (wM (by omega))
 ·exact (blk1 x (64*i) (zC3 x i) (by omega) hl).2
 ·show oG x (a5 (zC3 x n),((64*n:Nat):Int))=_;unfold oG;exact cf (dge (by omega)) rfl
def kH (b:By):By:=(a5 (zC3 (zAa b) ((zAa b).length / 64))).flatMap be4
theorem zOn (b:By):(kH b).length=20:=by unfold kH;rw [zM1];rfl
theorem zX7 (b:By) (hb:b.length<2 ^ 40):zCp b=some (kH b):=by
 have hz:zs b.length<64:=by unfold zs;omega
 have h1:=zBy b;have h2:=zBa b;unfold zCp;refine bd (zKc b hb) ?_;refine bd (zO0 (zAa b) ((zAa b).length / 64) (by omega) (by omega)) ?_;exact bd (zN9 _ (by simp [a5])) rfl
theorem zT6 (b:By) (hb:b.length<2 ^ 40):pP 0 b=some (kH b):=by
 have hz:zs b.length<64:=by unfold zs;omega
 have h1:=zBy b;have h2:=zBa b;unfold pP;refine ct rfl ?_;refine bd (zJ4 b hb) ?_;refine bd (zN2 (zAa b) ((zAa b).length / 64) (by omega) (by omega)) ?_;exact bd (zLw _ (by simp)) rfl
theorem zZc (b:By) (hb:b.length<2 ^ 40):xR 0 b=some (kH b):=(nS 0 b).trans (zT6 b hb)
theorem db {β:Type} {o:Option α} {a:α} {f:α->Option β} {Q:β->Prop} (h:o=some a) (k:Def (f a) Q):Def (o.bind f) Q:=by subst h;exact k
theorem zUm {k:Nat} (h:k<l.length):l.drop k=l[k] :: l.drop (k+1):=Ql h
theorem wb (x:UInt8):Qk.wrap (x.toNat:Int)=(x.toNat:Int):=by
 have:=x.toNat_lt;rw [xU (by omega) (by omega)]
theorem zB0 (n:Nat):(u8 (n:Int)).toNat=n % 256:=by
 have:((n:Int) % 256).toNat=n % 256:=by omega
 rw [u8,this];simp
theorem zMo {l:List By} (h:i<l.length):idx l (i:Int)=some (l.getD i []):=by rw [xH h];simp [h]
theorem tot2 (a b:By):tot [a,b]=8+a.length+b.length:=by simp [tot];omega
set_option maxRecDepth 100000
def xK (active a:Int):Bool:=vA .i64 (xT .i64 active (Qn.wrap a)) 1==1
theorem zJu (b:By) (hb:b.length<2 ^ 40):pK 0 b=some (kH b):=by
 unfold pK;refine ct rfl ?_;exact bd (zX7 b hb) rfl
theorem zI9 (b:By) (hb:b.length<2 ^ 40):pK 1 b=some (sha b):=by
 unfold pK;refine cf rfl ?_;refine ct rfl ?_;exact bd (zL4 b hb) rfl
def dgE (active:Int) (on:Bool) (b:By):List By:=[if (on&&xK active 0)=true then kH b else [],if (on&&xK active 1)=true then sha b else []]
theorem zGf {v:List By} {o:Option By} {d:By} (hv:v.length=2) (ha:a<2) (ho:o=some d) :
  (bif c then (o.bind λs=>(ixN 2 (a:Int)).bind λj=>(uA v j s).bind λw=>some w) else some v)=some (if c=true then v.set a d else v):=by
 cases c
 ·rfl
 ·refine bd ho ?_;refine bd (tD ha) ?_;exact bd (by simp [uA,hv,ha]) rfl
def mkE (reg kind active:Int) (data:By):zG:=⟨reg,kind,dgE active (kind != 5) data,data⟩
theorem zRc (reg kind active:Int) (data:By) (hd:data.length<2 ^ 40):eS reg kind active data=some (mkE reg kind active data):=by
 have on:∀ a:Int,((kW active a).bind λv=>bif v then (some (kind != 5)) else some false:Option Bool)=some ((kind != 5)&&xK active a):=by
  intro a;show (bif xK active a then (some (kind != 5)) else some false:Option Bool)=_;cases xK active a<;>cases (kind != 5)<;>rfl
 unfold eS mkE dgE;refine bd (a:=[if ((kind != 5)&&xK active 0)=true then kH data else [],if ((kind != 5)&&xK active 1)=true then sha data else []]) (two (b:=(1,[if ((kind != 5)&&xK active 0)=true then kH data else [],[]])) (c:=(2,[if ((kind != 5)&&xK active 0)=true then kH data else [],if ((kind != 5)&&xK active 1)=true then sha data else []])) ?_ ?_ rfl) ?_
 ·unfold cJ;refine ct rfl ?_;refine bd (a:=[if ((kind != 5)&&xK active 0)=true then kH data else [],[]]) ?_ rfl;refine bd (on 0) ?_;refine (zGf (a:=0) rfl (by omega) (zJu data hd)).trans ?_;cases ((kind != 5)&&xK active 0)<;>rfl
 ·unfold cJ;refine ct rfl ?_;refine bd (a:=[if ((kind != 5)&&xK active 0)=true then kH data else [],if ((kind != 5)&&xK active 1)=true then sha data else []]) ?_ rfl;refine bd (on 1) ?_;refine (zGf (a:=1) rfl (by omega) (zI9 data hd)).trans ?_;cases ((kind != 5)&&xK active 1)<;>rfl
 exact bd (ckT rfl) rfl
set_option maxRecDepth 100000
def aB (c:zY):Prop:=c.B.length<=240/\0<=c.At/\c.At<=c.B.length
theorem yCe (b:By) (n:Int) (h0:0<=n) (h:n<=240):Def (zFf b n) aB:=by
 unfold zFf;refine Q0 (P:=λr=>r.length<=240) ?_ (λr hr=>Q1 ⟨hr,Qx 0,by simp⟩);refine Q2 (λhl=>?_) (λhl=>Q1 ?_)
 ·rw [decide_eq_true_iff] at hl;refine Q0 (Def.sub (by decide) h0 (by omega)) (λx hx=>Q1 ?_);rw [hx];simp;omega
 ·rw [decide_eq_false_iff_not] at hl;omega
theorem nL (c:zY) (n:Int) (hc:aB c) (hn:0<n):Def (xN c n) (λr=>0<=r.1/\r.1<n/\aB r.2):=by
 obtain ⟨h1,h2,h3⟩:=hc;unfold xN;refine Q2 (λh=>Q1 ⟨Qx 0,hn,h1,h2,h3⟩) (λh=>?_);rw [decide_eq_false_iff_not] at h;rw [xU (n:=c.At+1) (by omega) (by omega),xU (n:=c.At+1 - 1) (by omega) (by omega)];refine Q0 (Def.idx (by omega) (by omega)) (λv _=>?_);refine Q0 (W2 (by simp;omega)) (λ_ _=>?_);refine Q1 ?_;rw [wb];refine ⟨?_,?_,h1,by simp only;omega,by simp only;omega⟩
 ·rw [Qu (by omega)];exact Int.emod_nonneg _ (by omega)
 ·rw [Qu (by omega)];exact Int.emod_lt_of_pos _ hn
def zKt (l:By):Prop:=1<=l.length/\l.length<=8/\∀ x∈l,32<=x.toNat/\x.toNat<=126
theorem zY0 (c:zY) (hc:aB c):Def (nV c) (λr=>zKt r.1/\aB r.2):=by
 unfold nV;refine Q0 (nL c 6 hc (by decide)) (λr hr=>?_);obtain ⟨v,x⟩:=r;obtain ⟨h0,h1,h2⟩:=hr;simp only at h0 h1 h2;refine Q0 (W4 h0 (by show _<((6:Nat):Int);omega)) (λj hj=>?_);refine Q0 (Def.at (by have:=hj.2;simpa using this)) (λl hl=>?_);have hl':zKt l:=by
  simp only [Qj,W6,or_false] at hl;rcases hl with rfl | rfl | rfl | rfl | rfl | rfl<;>(unfold zKt;decide)
 refine Q0 (W2 (zL0 (by have:=hl'.2.1;omega))) (λ_ _=>?_);exact Q1 ⟨hl',h2⟩
def zGi (L:List By):By:=L.flatMap λl=>l++[10]
theorem flat_len (L:List By) (h:∀ l∈L,zKt l):(zGi L).length<=9*L.length:=by
 induction L with
 | nil=>simp [zGi]
 | cons a r ih=>
  have h1:=(h a (by simp)).2.1;have h2:=ih (λl hl=>h l (by simp [hl]));simp only [zGi,Qb,Q3,Qc,Qe] at h2 ⊢;omega
theorem zOv (c:zY) (hc:aB c):Def (rW c) (λr=>(∃ L,r.1=zGi L/\1<=L.length/\L.length<=4/\∀ l∈L,zKt l)/\aB r.2):=by
 unfold rW;refine Q0 (nL c 4 hc (by decide)) (λr hr=>?_);obtain ⟨v,x⟩:=r;obtain ⟨h0,h1,h2⟩:=hr;simp only at h0 h1 h2;refine Q0 (P:=λr=>(∃ L,r.1=zGi L/\1<=L.length/\L.length<=4/\∀ l∈L,zKt l)/\aB ⟨r.2.1,r.2.2⟩) ?_ (λr hr=>Q1 hr);refine Q9 (λs=>(∃ L,s.1=zGi L/\(L.length:Int)+s.2.1=1+v/\∀ l∈L,zKt l)/\0<=s.2.1/\aB ⟨s.2.2.1,s.2.2.2⟩) (λs=>s.2.1.toNat) (λs hs=>?_) ?_ ?_
 ·obtain ⟨b,n,B,A⟩:=s;obtain ⟨⟨L,g1,g2,g3⟩,g4,g5⟩:=hs;simp only at g1 g2 g4 g5;have hfl:=flat_len L g3;unfold kJ;refine Q2 (λh=>?_) (λh=>Q1 ?_)
  ·rw [decide_eq_true_iff] at h;refine Q0 (zY0 _ g5) (λr hr=>?_);obtain ⟨l,y⟩:=r;obtain ⟨k1,k2⟩:=hr;simp only at k1 k2;refine Q0 (Qt (by have:=k1.2.1;rw [g1];omega)) (λb1 hb1=>?_);refine Q0 (Qt (by have:=k1.2.1;rw [hb1,g1];simp;omega)) (λb2 hb2=>Q1 ?_);rw [xU (by omega) (by omega)];refine ⟨⟨⟨L++[l],?_,by simp only [Q3,Qc,Qe];omega,?_⟩,by simp only;omega,k2⟩,by simp only;omega⟩
   ·simp only [hb2,hb1,g1,zGi,W1,Qb,List.flatMap_nil,W8,Qi]
   ·intro z hz;rw [Qp] at hz;rcases hz with hz | hz
    ·exact g3 z hz
    ·simp at hz;subst hz;exact k1
  ·rw [decide_eq_false_iff_not] at h;exact ⟨⟨L,g1,by omega,by omega,g3⟩,g5⟩
 ·refine ⟨⟨[],rfl,?_,by simp⟩,?_,h2⟩
  ·rw [xU (by omega) (by omega)];simp
  ·rw [xU (by omega) (by omega)];simp only;omega
 ·rw [xU (by omega) (by omega)];simp only;omega
theorem zS0 {P:List α} {c:α} {t:List α} (h:P.drop i=c :: t):idx P (i:Int)=some c/\P.drop (i+1)=t/\i<P.length:=by
 have hi:i<P.length:=by
  apply Decidable.byContradiction;intro hn;rw [Qw (by omega)] at h;cases h
 rw [zUm hi] at h;injection h with h1 h2;exact ⟨by rw [xH hi,h1],h2,hi⟩
theorem zW3 (x:zD) (L:List By) (hp:x.Payload=zGi L) (h4:L.length<=4) (hL:∀ l∈L,zKt l):uB x=some L:=by
 have hfl:=flat_len L hL;have hpl:x.Payload.length<=36:=by rw [hp];omega
 have hd:Def (zP (xO x) FU ([],[],0)) (λr=>r=.inr (L,[])):=by
  refine Q9 (λs=>∃ i:Nat,s.2.2=(i:Int)/\i<=x.Payload.length/\((s.1=L/\s.2.1=[]/\x.Payload.drop i=[])∨∃ suf rest,L=s.1++(s.2.1++suf) :: rest/\x.Payload.drop i=suf++10 :: zGi rest)) (λs=>x.Payload.length - s.2.2.toNat) (λs hs=>?_) ?_ ?_
  ·obtain ⟨out,line,i'⟩:=s;obtain ⟨i,g1,g2,g3⟩:=hs;simp only at g1 g3;subst g1;unfold xO;rcases g3 with ⟨k1,k2,k3⟩ | ⟨suf,rest,k1,k2⟩
   ·refine Q2 (λh=>?_) (λ_=>Q1 (by rw [k1,k2]));rw [decide_eq_true_iff] at h;have:=congrArg Qy k3;simp at this;omega
   ·have hmem:line++suf∈L:=by rw [k1];simp
    have hln:=hL _ hmem;have hout:out.length<4:=by have:=congrArg Qy k1;simp at this;omega
    cases suf with
    | nil=>
     obtain ⟨j1,j2,j3⟩:=zS0 (c:=10) (t:=zGi rest) k2;refine Q2 (λ_=>?_) (λh=>by rw [decide_eq_false_iff_not] at h;omega);refine Q0 (P:=λr=>r=.inr (out++[line],[])) ?_ (λr hr=>?_)
     ·refine Q0 (P:=λc=>c=10) (Q4 j1 rfl) (λc hc=>?_);subst hc;refine Q2 (λ_=>?_) (λh=>by simp at h);rw [W8] at hln;refine Q0 (P:=λb=>b=false) (Q2 (λh=>?_) (λ_=>Q1 ?_)) (λb hb=>?_)
      ·have:=hln.1;simp at h;rw [h] at this;simp at this
      ·simp;omega
      subst hb;refine Q0 (Qt (by simp;omega)) (λo ho=>Q1 (by rw [ho]))
     ·subst hr;refine Q1 ?_;rw [wU (by omega)];refine ⟨⟨i+1,rfl,by omega,?_⟩,by simp only [Q7];omega⟩;cases rest with
      | nil=>exact .inl ⟨by simp [k1],rfl,j2⟩
      | cons l r=>
       refine .inr ⟨l,r,?_,?_⟩
       ·simp [k1]
       ·rw [j2];simp [zGi]
    | cons c suf=>
     obtain ⟨j1,j2,j3⟩:=zS0 (c:=c) (t:=suf++10 :: zGi rest) k2;have hc:=hln.2.2 c (by simp);refine Q2 (λ_=>?_) (λh=>by rw [decide_eq_false_iff_not] at h;omega);refine Q0 (P:=λr=>r=.inr (out,line++[c])) ?_ (λr hr=>?_)
     ·refine Q0 (P:=λd=>d=c) (Q4 j1 rfl) (λd hd=>?_);subst hd;refine Q2 (λh=>by simp at h;omega) (λ_=>?_);refine Q0 (P:=λb=>b=false) (Q2 (λh=>?_) (λ_=>Q1 ?_)) (λb hb=>?_)
      ·simp at h;omega
      ·simp;omega
      subst hb;have:=hln.2.1;refine Q0 (Qt (by simp at this ⊢;omega)) (λo ho=>Q1 (by rw [ho]))
     ·subst hr;refine Q1 ?_;rw [wU (by omega)];refine ⟨⟨i+1,rfl,by omega,.inr ⟨suf,rest,by simp [k1],j2⟩⟩,by simp only [Q7];omega⟩
  ·refine ⟨0,rfl,by omega,?_⟩;cases L with
   | nil=>exact .inl ⟨rfl,rfl,by rw [hp];rfl⟩
   | cons l r=>exact .inr ⟨l,r,by simp,by rw [hp];simp [zGi]⟩
  ·rw [hp];simp;omega
 obtain ⟨r,h1,h2⟩:=hd;subst h2;unfold uB;refine bd h1 ?_;rfl
structure rP (x:zD):Prop where
 r1:1<=x.Role
 r4:x.Role<=4
 v0:0<=x.Version
 v1:x.Version<=1000000
 n:mA x.Name=some true
 nl:x.Name.length<=12
 p:x.Payload.length<=64
 l:x.Role=4->∃ L,uB x=some L/\1<=L.length/\L.length<=4/\∀ l∈L,zKt l
theorem aF (x:zD) (h:rP x):vR x=some 0:=by
 obtain ⟨h1,h2,h3,h4,h5,h6,h7,h8⟩:=h;unfold vR;refine bd (a:=false) (cf (by simp;omega) (cf (by simp;omega) (cf (by simp;omega) (congrArg some (by simp;omega))))) ?_;refine cf rfl ?_;refine bd h5 ?_;refine cf rfl ?_;refine cf (by simp;omega) ?_;refine bd (a:=false) ?_ rfl;by_cases h:x.Role=4
 ·refine ct (by simp [h]) ?_;obtain ⟨L,l1,l2,_⟩:=h8 h;refine bd l1 ?_;refine congrArg some ?_;rw [beq_eq_false_iff_ne];omega
 ·exact cf (by simp [h]) rfl
theorem zZd:∀ n∈[([97]:By),[103,114,117,98],[108,105,110,117,120],[110,101,116,45,48],[116,119,101,108,118,101,45,98,121,116,101,115]],mA n=some true/\n.length<=12:=by
 intro n hn;simp only [Qj,W6,or_false] at hn;rcases hn with rfl | rfl | rfl | rfl | rfl<;>exact ⟨by decide +kernel,by decide⟩
theorem zT9 (c:zY) (role:Int) (hc:aB c) (h1:1<=role) (h4:role<=4):Def (pZ c role) (λr=>rP r.1/\r.1.Role=role/\aB r.2):=by
 unfold pZ;refine Q0 (P:=λa=>[a.a0,a.a1,a.a2,a.a3,a.a4]=[([97]:By),[103,114,117,98],[108,105,110,117,120],[110,101,116,45,48],[116,119,101,108,118,101,45,98,121,116,101,115]]) (Q1 rfl) (λa ha=>?_);rw [ha];refine Q0 (nL c 5 hc (by decide)) (λr hr=>?_);obtain ⟨v1,c1⟩:=r;obtain ⟨p1,p2,p3⟩:=hr;simp only at p1 p2 p3;refine Q0 (Def.idx p1 (by simpa using p2)) (λnme hn=>?_);obtain ⟨n1,n2⟩:=zZd nme hn;refine Q0 (nL c1 5 p3 (by decide)) (λr hr=>?_);obtain ⟨v2,c2⟩:=r;obtain ⟨q1,q2,q3⟩:=hr;simp only at q1 q2 q3;refine Q0 (P:=λr=>aB ⟨r.1,r.2.1⟩/\0<=r.2.2/\r.2.2<=1000000) ?_ (λr hr=>?_)
 ·refine Q0 (nL c2 9 q3 (by decide)) (λr hr=>?_);obtain ⟨v3,c3⟩:=r;obtain ⟨s1,s2,s3⟩:=hr;simp only at s1 s2 s3;refine Q2 (λ_=>?_) (λ_=>Q1 ⟨s3,by simp only;omega,by simp only;omega⟩);refine Q0 (nL c3 3 s3 (by decide)) (λr hr=>?_);obtain ⟨v4,c4⟩:=r;obtain ⟨u1,u2,u3⟩:=hr;simp only at u1 u2 u3;refine Q1 ⟨u3,?_,?_⟩<;>(simp only;rw [xU (by omega) (by omega)];omega)
 obtain ⟨B,A,ver⟩:=r;obtain ⟨w1,w2,w3⟩:=hr;simp only at w1 w2 w3;refine Q2 (λh=>?_) (λh=>?_)
 ·rw [beq_iff_eq] at h;refine Q0 (zOv _ w1) (λr hr=>?_);obtain ⟨pl,c5⟩:=r;obtain ⟨⟨L,l1,l2,l3,l4⟩,z⟩:=hr;simp only at l1 z;have hfl:=flat_len L l4;refine Q1 ⟨⟨h1,h4,w2,w3,n1,n2,by simp only;rw [l1];omega,λ_=>⟨L,zW3 _ L l1 l3 l4,l2,l3,l4⟩⟩,rfl,z⟩
 ·have hr4:role≠4:=by simpa using h
  refine Q0 (nL _ 7 w1 (by decide)) (λr hr=>?_);obtain ⟨v5,c5⟩:=r;obtain ⟨x1,x2,x3⟩:=hr;simp only at x1 x2 x3;refine Q0 (Def.mkN x1 (by omega)) (λn hn=>?_);refine Q0 (P:=λr=>aB ⟨r.1,r.2.1⟩/\r.2.2.length=n) ?_ (λr hr=>?_)
  ·refine Q9 (λs=>0<=s.1/\s.1<=n/\aB ⟨s.2.1,s.2.2.1⟩/\s.2.2.2.length=n) (λs=>((n:Int) - s.1).toNat) (λs hs=>?_) ⟨Qx 0,by simp,x3,by simp⟩ (by simp;omega);obtain ⟨i,B,A,v⟩:=s;obtain ⟨y1,y2,y3,y4⟩:=hs;simp only at y1 y2 y3 y4;unfold gG;refine Q2 (λh=>?_) (λ_=>Q1 ⟨y3,y4⟩);rw [decide_eq_true_iff] at h;refine Q0 (nL _ 256 y3 (by decide)) (λr hr=>?_);obtain ⟨v6,c6⟩:=r;obtain ⟨_,_,z3⟩:=hr;refine Q0 (W4 y1 h) (λj hj=>?_);refine Q0 (Wa (by omega)) (λu hu=>Q1 ?_);rw [xU (by omega) (by omega)];refine ⟨⟨by simp only;omega,by simp only;omega,z3,by simp only [hu,List.length_set];exact y4⟩,by simp only;omega⟩
  obtain ⟨B,A,v⟩:=r;obtain ⟨y1,y2⟩:=hr;simp only at y1 y2;refine Q0 (W2 (beqT y2)) (λ_ _=>?_);refine Q0 (W2 (zL0 (by omega))) (λ_ _=>?_);refine Q1 ⟨⟨h1,h4,w2,w3,n1,n2,by simp only;omega,λe=>absurd e hr4⟩,rfl,y1⟩
set_option maxRecDepth 100000
def Bef (a b:zD):Prop:=a.Role<=b.Role/\¬ (a.Role=b.Role/\a.Name=b.Name)
structure qF (l:List zD):Prop where
 len:l.length<=8
 im:∀ x∈l,rP x
 prs:l.Pairwise Bef
 h1:∃ x∈l,x.Role=1
 h3:∃ x∈l,x.Role=3
theorem jK (h:i<l.length) {x:α} (hx:x∈l.take (i+1)):x∈l.take i∨x=l[i]:=by
 rw [Q8,Qp] at hx;rcases hx with hx | hx
 ·exact .inl hx
 ·right;simpa [h] using hx
theorem zYj (l:List zD) (v:zD) (hl:l.length<=20):Def (zP (cE l v) FU (false,0)) (λr=>(r=true->∃ x∈l,x.Role=v.Role)/\(r=false->∀ x∈l,¬ (x.Role=v.Role/\x.Name=v.Name))):=by
 refine Q9 (λs=>∃ i:Nat,s.2=(i:Int)/\i<=l.length/\(s.1=true->∃ x∈l,x.Role=v.Role)/\(s.1=false->∀ x∈l.take i,¬ (x.Role=v.Role/\x.Name=v.Name))) (λs=>l.length - s.2.toNat) (λs hs=>?_) ⟨0,rfl,by omega,by simp,by simp⟩ (by simp;omega);obtain ⟨ag,i'⟩:=s;obtain ⟨i,g1,g2,g3,g4⟩:=hs;simp only at g1 g3 g4;subst g1;unfold cE;refine Q2 (λh=>?_) (λh=>Q1 ⟨g3,λe=>?_⟩)
 ·have hi:i<l.length:=by have:=dT h;omega
  refine Q0 (P:=λr=>(r=true->∃ x∈l,x.Role=v.Role)/\(r=false->ag=false/\¬ (l[i].Role=v.Role/\l[i].Name=v.Name))) ?_ (λr hr=>?_)
  ·refine Q2 (λha=>Q1 ⟨λ_=>g3 ha,λe=>by simp at e⟩) (λha=>?_);refine Q0 (Def.at' hi) (λy hy=>?_);subst hy;refine Q2 (λhr=>?_) (λhr=>Q1 ⟨λe=>by simp at e,λ_=>⟨ha,λe=>by simp [e.1] at hr⟩⟩);rw [beq_iff_eq] at hr;refine Q0 (Def.at' hi) (λy hy=>?_);subst hy;refine Q1 ⟨λ_=>⟨_,Q5 hi,hr⟩,λe=>⟨ha,λe2=>?_⟩⟩;simp [e2.2] at e
  ·refine Q1 ?_;rw [wU (by omega)];refine ⟨⟨i+1,rfl,by omega,hr.1,λe x hx=>?_⟩,by simp only [Q7];omega⟩;obtain ⟨k1,k2⟩:=hr.2 e;rcases jK hi hx with hx | rfl
   ·exact g4 k1 x hx
   ·exact k2
 ·have:=dF h;rw [Q6 (by omega)] at g4;exact g4 e
structure ChI (role:Int) (l:List zD):Prop where
 im:∀ x∈l,rP x/\x.Role<=role
 prs:l.Pairwise Bef
 h1:2<=role->∃ x∈l,x.Role=1
 h3:4<=role->∃ x∈l,x.Role=3
theorem zYu (role:Int) (h1:1<=role) (h4:role<=4) (l:List zD) (n:Int) (c:zY) (hc:aB c) (hn:0<=n) (hl:(l.length:Int)+n<=2*role) (hI:ChI role l) (hk:role=1∨role=3->1<=n) :
  Def (zP (cG role) FU (l,n,c.B,c.At)) (λr=>(r.1.length:Int)<=2*role/\ChI role r.1/\(role=1∨role=3->∃ x∈r.1,x.Role=role)/\aB ⟨r.2.1,r.2.2⟩):=by
 refine Q9 (λs=>0<=s.2.1/\(s.1.length:Int)+s.2.1<=2*role/\ChI role s.1/\(role=1∨role=3->1<=s.2.1∨∃ x∈s.1,x.Role=role)/\aB ⟨s.2.2.1,s.2.2.2⟩) (λs=>s.2.1.toNat) (λs hs=>?_) ⟨hn,hl,hI,λe=>.inl (hk e),hc⟩ (by simp only;omega);obtain ⟨l,n,B,A⟩:=s;obtain ⟨g1,g2,g3,g4,g5⟩:=hs;simp only at g1 g2 g3 g4 g5;unfold cG;refine Q2 (λh=>?_) (λh=>Q1 ?_)
 ·have hn:=dT h;refine Q0 (P:=λr=>(r.1.length:Int)+(n - 1)<=2*role/\ChI role r.1/\(∃ x∈r.1,x.Role=role)/\aB ⟨r.2.1,r.2.2⟩) ?_ (λr hr=>?_)
  ·refine Q0 (zT9 _ role g5 h1 h4) (λr hr=>?_);obtain ⟨v,c⟩:=r;obtain ⟨k1,k2,k3⟩:=hr;simp only at k1 k2 k3;refine Q0 (zYj l v (by omega)) (λag ha=>?_);refine Q2 (λhg=>?_) (λhg=>?_)
   ·have hgf:ag=false:=by simpa using hg
    refine Q0 (Qt (by simp;omega)) (λl' hl'=>Q1 ?_);subst hl';refine ⟨by simp;omega,⟨λx hx=>?_,?_,λe=>?_,λe=>?_⟩,⟨v,by simp,k2⟩,k3⟩
    ·rw [Qp] at hx;rcases hx with hx | hx
     ·exact g3.im x hx
     ·simp at hx;subst hx;exact ⟨k1,by omega⟩
    ·rw [List.pairwise_append];refine ⟨g3.prs,by simp,λa ha' b hb=>?_⟩;simp at hb;subst hb;exact ⟨by have:=(g3.im a ha').2;omega,ha.2 hgf a ha'⟩
    ·obtain ⟨x,hx,e2⟩:=g3.h1 e;exact ⟨x,by simp [hx],e2⟩
    ·obtain ⟨x,hx,e2⟩:=g3.h3 e;exact ⟨x,by simp [hx],e2⟩
   ·have hgt:ag=true:=by simpa using hg
    obtain ⟨x,hx,e⟩:=ha.1 hgt;exact Q1 ⟨by simp only;omega,g3,⟨x,hx,by omega⟩,k3⟩
  ·obtain ⟨l',B',A'⟩:=r;obtain ⟨k1,k2,k3,k4⟩:=hr;simp only at k1 k2 k3 k4;refine Q1 ?_;rw [xU (by omega) (by omega)];exact ⟨⟨by simp only;omega,k1,k2,λ_=>.inr k3,k4⟩,by simp only;omega⟩
 ·have hn:=dF h;refine ⟨by simp only;omega,g3,λe=>?_,g5⟩;rcases g4 e with h | h
  ·omega
  ·exact h
theorem zHa (codes:By):Def (kZ codes) qF:=by
 unfold kZ;refine Q0 (yCe codes 200 (by decide) (by decide)) (λc hc=>?_);refine Q0 (P:=qF) ?_ (λr hr=>Q1 hr);refine Q9 (λs=>1<=s.2.1/\s.2.1<=5/\(s.1.length:Int)<=2*(s.2.1 - 1)/\(∀ x∈s.1,rP x/\x.Role<s.2.1)/\s.1.Pairwise Bef/\(2<=s.2.1->∃ x∈s.1,x.Role=1)/\(4<=s.2.1->∃ x∈s.1,x.Role=3)/\aB ⟨s.2.2.1,s.2.2.2⟩) (λs=>(5 - s.2.1).toNat) (λs hs=>?_) ⟨Qx 1,by simp,by simp,by simp,by simp,by simp,by simp,hc⟩ (by simp);obtain ⟨l,role,B,A⟩:=s;obtain ⟨g1,g2,g3,g4,g5,g6,g7,g8⟩:=hs;simp only at g1 g2 g3 g4 g5 g6 g7 g8;unfold zDt;refine Q2 (λh=>?_) (λh=>Q1 ?_)
 ·have hr:=dT h;refine Q0 (nL _ 3 g8 (by decide)) (λr hr=>?_);obtain ⟨v,c1⟩:=r;obtain ⟨k1,k2,k3⟩:=hr;simp only at k1 k2 k3;refine Q0 (P:=λr=>0<=r.1/\r.1<=2/\(role=1∨role=3->1<=r.1)/\aB ⟨r.2.1,r.2.2⟩) ?_ (λr hr=>?_)
  ·refine Q0 (P:=λb=>b=false->¬ (role=1∨role=3)) ?_ (λb hb=>?_)
   ·refine Q2 (λh=>Q1 (λe=>by simp at e)) (λh=>Q1 (λe=>?_));simp at h e;omega
   refine Q2 (λ_=>?_) (λhf=>Q1 ⟨k1,by simp only;omega,λe=>absurd e (hb hf),k3⟩);refine Q0 (nL _ 2 k3 (by decide)) (λr hr=>?_);obtain ⟨v2,c2⟩:=r;obtain ⟨j1,j2,j3⟩:=hr;simp only at j1 j2 j3;have e:Qk.wrap (1+v2)=1+v2:=xU (by omega) (by omega);exact Q1 ⟨by simp only [e];omega,by simp only [e];omega,λ_=>by simp only [e];omega,j3⟩
  obtain ⟨n,B1,A1⟩:=r;obtain ⟨j1,j2,j3,j4⟩:=hr;simp only at j1 j2 j3 j4;refine Q0 (zYu role g1 hr l n ⟨B1,A1⟩ j4 j1 (by omega) ⟨λx hx=>⟨(g4 x hx).1,by have:=(g4 x hx).2;omega⟩,g5,g6,g7⟩ j3) (λr hr=>?_);obtain ⟨l',B2,A2⟩:=r;obtain ⟨m1,m2,m3,m4⟩:=hr;simp only at m1 m2 m3 m4;refine Q1 ?_;rw [xU (by omega) (by omega)];refine ⟨⟨by simp only;omega,by simp only;omega,by simp only;omega,λx hx=>⟨(m2.im x hx).1,by have:=(m2.im x hx).2;simp only;omega⟩,m2.prs,λe=>?_,λe=>?_,m4⟩,by simp only;omega⟩
  ·simp only at e;by_cases h1:role=1
   ·obtain ⟨x,hx,e2⟩:=m3 (.inl h1);exact ⟨x,hx,by omega⟩
   ·exact m2.h1 (by omega)
  ·simp only at e;by_cases h3:role=3
   ·obtain ⟨x,hx,e2⟩:=m3 (.inr h3);exact ⟨x,hx,by omega⟩
   ·exact m2.h3 (by omega)
 ·have hr:=dF h;exact ⟨by omega,λx hx=>(g4 x hx).1,g5,g6 (by omega),g7 (by omega)⟩
theorem pw {l:List zD} (h:l.Pairwise Bef) (hj:j<l.length) (hij:i<j):Bef (l[i]'(by omega)) l[j]:=List.pairwise_iff_getElem.mp h i j (by omega) hj hij
theorem aV (l:List zD) (h:qF l):uD l=some 0:=by
 obtain ⟨hlen,him,hp,h1,h3⟩:=h;have hne:l.length≠0:=by
  obtain ⟨x,hx,_⟩:=h1;intro e;rw [List.length_eq_zero_iff] at e;rw [e] at hx;simp at hx
 have hl1:∀ i:Nat,i<l.length->Def (zP (wE l (i:Int)) FU 0) (λr=>r=.inr ()):=by
  intro i hi;refine Q9 (λs=>∃ k:Nat,s=(k:Int)/\k<=i) (λs=>i - s.toNat) (λs hs=>?_) ⟨0,rfl,by omega⟩ (by simp;omega);obtain ⟨k,rfl,hk⟩:=hs;unfold wE;refine Q2 (λh=>?_) (λh=>Q1 rfl);have hki:=dT h;have hb:=pw hp hi (show k<i by omega);refine Q0 (P:=λb=>b=false) ?_ (λb hb'=>?_)
  ·refine Q0 (Def.at' (show k<l.length by omega)) (λy hy=>?_);subst hy;refine Q0 (Def.at' hi) (λy hy=>?_);subst hy;refine Q2 (λhr=>?_) (λ_=>Q1 rfl);rw [beq_iff_eq] at hr;refine Q0 (Def.at' (show k<l.length by omega)) (λy hy=>?_);subst hy;refine Q0 (Def.at' hi) (λy hy=>?_);subst hy;refine Q1 ?_;rw [beq_eq_false_iff_ne];exact λe=>hb.2 ⟨hr,e⟩
  subst hb';refine Q1 ?_;rw [wU (by omega)];exact ⟨⟨k+1,rfl,by omega⟩,by simp only [Q7];omega⟩
 have hd:Def (zP (xP l) FU (false,false,0)) (λr=>r=.inr (true,true)):=by
  refine Q9 (λs=>∃ i:Nat,s.2.2=(i:Int)/\i<=l.length/\((∃ x∈l.take i,x.Role=1)->s.1=true)/\((∃ x∈l.take i,x.Role=3)->s.2.1=true)) (λs=>l.length - s.2.2.toNat) (λs hs=>?_) ⟨0,rfl,by omega,by simp,by simp⟩ (by simp;omega);obtain ⟨f,k,i'⟩:=s;obtain ⟨i,g1,g2,g3,g4⟩:=hs;simp only at g1 g3 g4;subst g1;unfold xP;refine Q2 (λh=>?_) (λh=>Q1 ?_)
  ·have hi:i<l.length:=by have:=dT h;omega
   refine Q0 (Def.at' hi) (λy hy=>?_);subst hy;refine Q0 (P:=λr=>r=0) (Q4 (aF _ (him _ (Q5 hi))) rfl) (λr hr=>?_);subst hr;refine Q2 (λh=>by simp at h) (λ_=>?_);refine Q0 (P:=λb=>b=false) ?_ (λb hb=>?_)
   ·refine Q2 (λh0=>?_) (λ_=>Q1 rfl);have h0':=dT h0;refine Q0 (Def.at' hi) (λy hy=>?_);subst hy;rw [xU (by omega) (by omega),show (i:Int) - 1=((i - 1:Nat):Int) by omega];refine Q0 (Def.at' (show i - 1<l.length by omega)) (λy hy=>?_);subst hy;have hb:=(pw hp hi (show i - 1<i by omega)).1;refine Q1 ?_;rw [decide_eq_false_iff_not];omega
   subst hb;refine Q2 (λh=>by simp at h) (λ_=>?_);refine Q0 (hl1 i hi) (λr hr=>?_);subst hr;refine Q0 (P:=λb=>f=true∨l[i].Role=1->b=true) ?_ (λb1 hb1=>?_)
   ·refine Q2 (λ_=>Q1 (λ_=>rfl)) (λhf=>?_);refine Q0 (Def.at' hi) (λy hy=>?_);subst hy;refine Q1 (λe=>?_);rcases e with e | e
    ·rw [hf] at e;cases e
    ·rw [e];rfl
   refine Q0 (P:=λb=>k=true∨l[i].Role=3->b=true) ?_ (λb2 hb2=>?_)
   ·refine Q2 (λ_=>Q1 (λ_=>rfl)) (λhf=>?_);refine Q0 (Def.at' hi) (λy hy=>?_);subst hy;refine Q1 (λe=>?_);rcases e with e | e
    ·rw [hf] at e;cases e
    ·rw [e];rfl
   refine Q1 ?_;rw [wU (by omega)];refine ⟨⟨i+1,rfl,by omega,λe=>?_,λe=>?_⟩,by simp only [Q7];omega⟩
   ·obtain ⟨x,hx,e⟩:=e;rcases jK hi hx with hx | rfl
    ·exact hb1 (.inl (g3 ⟨x,hx,e⟩))
    ·exact hb1 (.inr e)
   ·obtain ⟨x,hx,e⟩:=e;rcases jK hi hx with hx | rfl
    ·exact hb2 (.inl (g4 ⟨x,hx,e⟩))
    ·exact hb2 (.inr e)
  ·have:=dF h;rw [Q6 (by omega)] at g3 g4;rw [g3 h1,g4 h3]
 obtain ⟨r,e,rfl⟩:=hd;unfold uD;refine bd (a:=false) (cf ?_ (congrArg some ?_)) ?_
 ·rw [beq_eq_false_iff_ne];omega
 ·rw [decide_eq_false_iff_not];omega
 refine cf rfl ?_;refine bd e ?_;rfl
def zGz (x:zD):By:=zHj (zHj (wC (wC [] 1 x.Role) 4 x.Version) x.Name) x.Payload
theorem zM6 (x:zD):5<=(zGz x).length/\(zGz x).length<2 ^ 20:=by
 have h1:=zCs (wC (wC [] 1 x.Role) 4 x.Version) x.Name;have h2:=zCs (zHj (wC (wC [] 1 x.Role) 4 x.Version) x.Name) x.Payload;have h3:(wC (wC [] 1 x.Role) 4 x.Version).length=5:=by rw [xI,xI];rfl
 refine ⟨?_,by unfold zGz;omega⟩;unfold zGz zHj;simp only [Q3,xI,h3];omega
theorem zOt (x:zD) (h:rP x):qT x=some (zGz x):=by
 have hi:=aF x h;obtain ⟨_,_,_,_,_,h6,h7,_⟩:=h;have h3:(wC (wC [] 1 x.Role) 4 x.Version).length=5:=by rw [xI,xI];rfl
 have h4:=zCs (wC (wC [] 1 x.Role) 4 x.Version) x.Name;unfold qT;refine bd hi ?_;refine cf rfl ?_;refine bd (mS [] 1 _ (by omega) (by omega) (by simp)) ?_;refine bd (mS _ 4 _ (by omega) (by omega) (by rw [xI];simp)) ?_;refine bd (ckT (zL0 (by omega))) ?_;refine bd (zN6 _ _ (by omega)) ?_;exact bd (zN6 _ _ (by omega)) rfl
theorem zQx (x:zD) (active:Int) (h:rP x):jP x active=some (dgE active true (zGz x)):=by
 have hl:=zM6 x;unfold jP dgE;refine bd (zOt x h) ?_;generalize zGz x=data at hl;have on:∀ a:Int,(bif decide (0<(data.length:Int)) then ((kW active a).bind λv=>some v) else some false:Option Bool)=some (true&&xK active a):=by
  intro a;exact ct (by simp;omega) rfl
 refine bd (a:=[if (true&&xK active 0)=true then kH data else [],if (true&&xK active 1)=true then sha data else []]) (two (b:=(1,[if (true&&xK active 0)=true then kH data else [],[]])) (c:=(2,[if (true&&xK active 0)=true then kH data else [],if (true&&xK active 1)=true then sha data else []])) ?_ ?_ rfl) ?_
 ·unfold kT;refine ct rfl ?_;refine bd (a:=[if (true&&xK active 0)=true then kH data else [],[]]) ?_ rfl;refine bd (on 0) ?_;refine (zGf (a:=0) rfl (by omega) (zJu data (by omega))).trans ?_;cases (true&&xK active 0)<;>rfl
 ·unfold kT;refine ct rfl ?_;refine bd (a:=[if (true&&xK active 0)=true then kH data else [],if (true&&xK active 1)=true then sha data else []]) ?_ rfl;refine bd (on 1) ?_;refine (zGf (a:=1) rfl (by omega) (zI9 data (by omega))).trans ?_;cases (true&&xK active 1)<;>rfl
 exact bd (ckT rfl) rfl
theorem zBq:∀ f u,(decF f u).length<=f
 | 0,_=>Qg _
 | f+1,u=>by
  unfold decF;cases Wb u 10
  ·simp only [cond_false,Q3,Qz];have:=zBq f (u / 10);omega
  ·simp only [cond_true,Qz];omega
theorem zPs (n:Nat) (h:n<10):u8 (Qk.wrap (48+(n:Int)))=UInt8.ofNat (48+n):=by
 rw [xU (by omega) (by omega),show (48:Int)+(n:Int)=((48+n:Nat):Int) by omega];apply UInt8.toNat_inj.mp;rw [zB0];simp
theorem zUy:∀ (k fl f:Nat) (n:Nat),n<10 ^ (k+1)->n<2 ^ 40->k<fl->k<f->f<=20->oK fl (n:Int)=some (decF f n):=by
 intro k;induction k with
 | zero=>
  intro fl f n h1 _ hf hf2 _;obtain ⟨g,rfl⟩:∃ g,fl=g+1:=⟨fl - 1,by omega⟩;obtain ⟨g2,rfl⟩:∃ g,f=g+1:=⟨f - 1,by omega⟩;have h10:n<10:=by simpa using h1
  unfold oK decF;refine ct (by simp;omega) ?_;rw [show Wb n 10=true by simpa [W9] using h10,zPs n h10];rfl
 | succ k ih=>
  intro fl f n h1 h2 hf hf2 h20;obtain ⟨g,rfl⟩:∃ g,fl=g+1:=⟨fl - 1,by omega⟩;obtain ⟨g2,rfl⟩:∃ g,f=g+1:=⟨f - 1,by omega⟩;unfold oK decF;by_cases h10:n<10
  ·refine ct (by simp;omega) ?_;rw [show Wb n 10=true by simpa [W9] using h10,zPs n h10];rfl
  ·have hd:n / 10<10 ^ (k+1):=by
    rw [Nat.pow_succ] at h1;omega
   refine cf (by simp;omega) ?_;rw [show Wb n 10=false by rw [Bool.eq_false_iff];intro e;rw [W9] at e;omega];rw [show Wc (n:Int) 10=((n / 10:Nat):Int) from rfl,xU (by omega) (by omega)];refine bd (ih g g2 (n / 10) hd (by omega) (by omega) (by omega) (by omega)) ?_;have:=zBq g2 (n / 10);refine bd (yP (by simp;omega)) ?_;rw [show Wd (n:Int) 10=((n % 10:Nat):Int) from rfl,zPs (n % 10) (by omega)];rfl
def lbl (x:zD):By:=(x.Name++[32])++decF 20 x.Version.toNat
theorem zW2 (x:zD) (h:rP x):dE x.Name x.Version=some (lbl x):=by
 have h1:=h.nl;have h2:=h.v0;have h3:=h.v1;obtain ⟨n,hn⟩:=Qm h2;unfold dE lbl;rw [hn];refine bd (ckT (zL0 (by omega))) ?_;refine bd (yP (by simp;omega)) ?_;refine bd (zUy 6 RF 20 n (by show n<10000000;omega) (by omega) (by decide) (by decide) (by decide)) ?_;have:=zBq 20 n;exact bd (yP (by rw [Q3];simp only [Qc,Qe];omega)) rfl
def rgR (role:Int):Int:=if role=1 then 0 else if role=2 then 4 else if role=3 then 8 else if role=4 then 9 else -1
theorem yCd (r:Int):lF r=some (rgR r):=by
 unfold lF rgR;by_cases h1:r=1
 ·rw [if_pos h1];exact ct (by simp [h1]) rfl
 rw [if_neg h1];refine cf (by simp [h1]) ?_;by_cases h2:r=2
 ·rw [if_pos h2];exact ct (by simp [h2]) rfl
 rw [if_neg h2];refine cf (by simp [h2]) ?_;by_cases h3:r=3
 ·rw [if_pos h3];exact ct (by simp [h3]) rfl
 rw [if_neg h3];refine cf (by simp [h3]) ?_;by_cases h4:r=4
 ·rw [if_pos h4];exact ct (by simp [h4]) rfl
 ·rw [if_neg h4];exact cf (by simp [h4]) rfl
def imE (active:Int) (x:zD):zG:=⟨rgR x.Role,1,dgE active true (zGz x),lbl x⟩
theorem zQp (x:zD) (active:Int) (h:rP x) (h4:x.Role≠4):jM x active=some (imE active x):=by
 unfold jM;refine bd (a:=false) ?_ ?_
 ·refine bd (aF x h) ?_;refine cf rfl ?_;rw [show (x.Role==4)=false by simp [h4]]
 refine cf rfl ?_;refine bd (yCd _) ?_;refine bd (zQx x active h) ?_;exact bd (zW2 x h) rfl
def zIa (x:zD):List By:=(uB x).getD []
def evR (active role:Int) (l:List zD):List zG:=l.flatMap λx=>if x.Role=role then (if role=4 then (zIa x).map (mkE 9 3 active) else [imE active x]) else []
def bF (active:Int):List zG:=(List.range 8).map λ(i:Nat)=>mkE (i:Int) 2 active [0,0,0,0]
def evs (l:List zD) (active:Int):List zG:=evR active 1 l++evR active 2 l++(bF active++evR active 3 l)++evR active 4 l
theorem zMz (x:zD) (h:rP x) (h4:x.Role=4):uB x=some (zIa x)/\(zIa x).length<=4/\∀ l∈zIa x,zKt l:=by
 obtain ⟨L,h1,_,h2,h3⟩:=h.l h4;unfold zIa;rw [h1];exact ⟨rfl,h2,h3⟩
theorem zFv (active role:Int) (x:zD) (h:rP x):(if x.Role=role then (if role=4 then (zIa x).map (mkE 9 3 active) else [imE active x]) else []).length<=4/\(x.Role=role∨(if x.Role=role then (if role=4 then (zIa x).map (mkE 9 3 active) else [imE active x]) else []).length=0):=by
 by_cases hr:x.Role=role
 ·rw [if_pos hr];refine ⟨?_,.inl hr⟩;by_cases h4:role=4
  ·rw [if_pos h4,List.length_map];exact (zMz x h (by omega)).2.1
  ·rw [if_neg h4];simp
 ·rw [if_neg hr];exact ⟨by simp,.inr rfl⟩
theorem zSn (active role:Int) (l:List zD) (h:∀ x∈l,rP x):(evR active role l).length<=4*l.length:=by
 induction l with
 | nil=>simp [evR]
 | cons x t ih=>
  have h1:=(zFv active role x (h x (Qh ..))).1;have h2:=ih (λy hy=>h y (W0 _ hy));unfold evR at h2 ⊢;rw [Qb,Q3,Qc];omega
theorem zMj (active:Int) (l:List zD) (h:∀ x∈l,rP x):(evR active 1 l).length+(evR active 2 l).length+(evR active 3 l).length+(evR active 4 l).length<=4*l.length:=by
 induction l with
 | nil=>simp [evR]
 | cons x t ih=>
  have h0:=zFv active 1 x (h x (Qh ..));have h1:=zFv active 2 x (h x (Qh ..));have h2:=zFv active 3 x (h x (Qh ..));have h3:=zFv active 4 x (h x (Qh ..));have hi:=ih (λy hy=>h y (W0 _ hy));unfold evR at hi ⊢;rw [Qb,Qb,Qb,Qb,Q3,Q3,Q3,Q3,Qc];omega
theorem zCb (active:Int):(bF active).length=8:=by simp [bF]
theorem zYw (l:List zD) (active:Int) (h:qF l):8<=(evs l active).length/\(evs l active).length<=40:=by
 have h1:=zMj active l h.im;have h2:=h.len;have h3:=zCb active;unfold evs;simp only [Q3];omega
theorem zXm (active:Int) (out:List zG) (h:out.length<=100):zP (nQ active) FU (out,0)=some (out++bF active):=by
 refine yM 8 (λi=>(out++(bF active).take i,(i:Int))) (by simp) (λi hi=>?_) ?_ (wM (by decide))
 ·unfold nQ;refine ct (by simp;omega) ?_;refine bd (a:=[0,0,0,0]) rfl ?_;refine bd (zRc _ 2 active _ (by decide)) ?_;refine bd (yP (by simp [bF];omega)) ?_;rw [wU (by omega),Q8,Qi];have:(bF active)[i]? = some (mkE (i:Int) 2 active [0,0,0,0]):=by simp [bF,hi]
  rw [this];rfl
 ·unfold nQ;refine cf rfl ?_;rw [Q6 (by rw [zCb];omega)]
theorem zTz (active:Int) (out:List zG) (L:List By) (h:out.length<=100) (hl:L.length<=4) (h8:∀ l∈L,l.length<=8):zP (nN active L) FU (out,0)=some (out++L.map (mkE 9 3 active)):=by
 refine yM L.length (λi=>(out++(L.map (mkE 9 3 active)).take i,(i:Int))) (by simp) (λi hi=>?_) ?_ (wM (by omega))
 ·have:=h8 _ (Q5 hi);unfold nN;refine ct (dlt hi) ?_;refine bd (xH hi) ?_;refine bd (zRc _ 3 active _ (by omega)) ?_;refine bd (yP (by simp;omega)) ?_;rw [wU (by omega),Q8,Qi];simp [hi]
 ·unfold nN;refine cf (dge (Qg _)) ?_;rw [Q6 (by simp)]
theorem zCt (active role:Int) (l:List zD) (out:List zG) (hl:l.length<=8) (him:∀ x∈l,rP x) (h:out.length<=60) (h4:role<=4):zP (nO l active role) FU (out,0)=some (out++evR active role l):=by
 refine yM l.length (λi=>(out++evR active role (l.take i),(i:Int))) (by simp [evR]) (λi hi=>?_) ?_ (wM (by omega))
 ·have hg:=him _ (Q5 hi);have hle:=zSn active role (l.take i) (λx hx=>him x (List.mem_of_mem_take hx));rw [List.length_take] at hle;have hs:evR active role (l.take (i+1))=evR active role (l.take i)++(if l[i].Role=role then (if role=4 then (zIa l[i]).map (mkE 9 3 active) else [imE active l[i]]) else []):=by
   unfold evR;rw [Q8,W1];simp [hi]
  have hol:(out++evR active role (l.take i)).length<=100:=by rw [Q3];omega
  rw [hs,<- Qi];generalize out++evR active role (l.take i)=o at hol;unfold nO;refine ct (dlt hi) ?_;refine bd (a:=o++(if l[i].Role=role then (if role=4 then (zIa l[i]).map (mkE 9 3 active) else [imE active l[i]]) else [])) ?_ (by rw [wU (by omega)]);refine bd (xH hi) ?_;by_cases hr:l[i].Role=role
  ·rw [if_pos hr];refine cf (by simp [hr]) ?_;by_cases hr4:role=4
   ·rw [if_pos hr4];refine cf (by simp [hr4]) ?_;refine bd (xH hi) ?_;obtain ⟨q1,q2,q3⟩:=zMz _ hg (by omega);refine bd q1 ?_;exact bd (zTz active o _ hol q2 (λl hl=>(q3 l hl).2.1)) rfl
   ·rw [if_neg hr4];refine ct (by simp [hr4]) ?_;refine bd (xH hi) ?_;refine bd (zQp _ active hg (by omega)) ?_;exact bd (yP (by simp;omega)) rfl
  ·rw [if_neg hr];refine ct (by simp [hr]) ?_;simp
 ·unfold nO;refine cf (dge (Qg _)) ?_;simp
theorem zU2 (l:List zD) (active:Int) (h:qF l) (h1:1<=active) (h3:active<=3):fA l active=some (evs l active):=by
 have hc:=aV l h;have hl:=h.len;have hb:=zMj active l h.im;have hsl:=zCb active;unfold fA;refine bd (a:=false) ?_ ?_
 ·refine bd hc ?_;refine cf rfl ?_;refine cf (by simp;omega) ?_;rw [show decide (3<active)=false by simp;omega]
 refine cf rfl ?_;refine bd (a:=evs l active) ?_ rfl;refine yM (x:=(([]:List zG),(1:Int))) 4 (λi=>match i with | 0=>([],1) | 1=>(evR active 1 l,2) | 2=>(evR active 1 l++evR active 2 l,3) | 3=>(evR active 1 l++evR active 2 l++(bF active++evR active 3 l),4) | _=>(evs l active,5)) rfl (λi hi=>?_) rfl (wM (by decide));have:i=0∨i=1∨i=2∨i=3:=by omega
 rcases this with rfl | rfl | rfl | rfl
 ·show wZ l active ([],1)=some (.inl (evR active 1 l,2));unfold wZ;refine ct rfl ?_;refine bd (a:=[]) rfl ?_;exact bd (zCt active 1 l [] hl h.im (by simp) (by omega)) rfl
 ·show wZ l active (evR active 1 l,2)=some (.inl (evR active 1 l++evR active 2 l,3));unfold wZ;refine ct rfl ?_;refine bd (a:=evR active 1 l) rfl ?_;exact bd (zCt active 2 l _ hl h.im (by omega) (by omega)) rfl
 ·show wZ l active (evR active 1 l++evR active 2 l,3)=some (.inl (evR active 1 l++evR active 2 l++(bF active++evR active 3 l),4));unfold wZ;refine ct rfl ?_;refine bd (a:=evR active 1 l++evR active 2 l++bF active) (bd (zXm active _ (by rw [Q3];omega)) rfl) ?_;refine bd (zCt active 3 l _ hl h.im (by simp only [Q3];omega) (by omega)) ?_;rw [Qi];rfl
 ·show wZ l active (evR active 1 l++evR active 2 l++(bF active++evR active 3 l),4)=some (.inl (evs l active,5));unfold wZ;refine ct rfl ?_;refine bd (a:=evR active 1 l++evR active 2 l++(bF active++evR active 3 l)) rfl ?_;exact bd (zCt active 4 l _ hl h.im (by simp only [Q3];omega) (by omega)) rfl
set_option maxRecDepth 100000
theorem zIo (n m:Int) (hm:1<=m) (hm2:m<2 ^ 40):Def (pH n m) (λr=>0<=r/\r<m):=by
 unfold pH;refine Q2 (λh=>by have:=dT h;omega) (λ_=>?_);refine Q0 (W2 (by simp;omega)) (λ_ _=>?_);have h1:-m<Wd n m:=by
  have:=Int.lt_tmod_of_pos n (by omega:0<m);omega
 have h2:Wd n m<m:=Int.tmod_lt_of_pos n (by omega);refine Q0 (P:=λr=>0<=r/\r<m) ?_ (λr hr=>Q1 hr);refine Q2 (λh=>Q1 ?_) (λh=>Q1 ?_)
 ·have:=dT h;rw [xU (by omega) (by omega)];omega
 ·have:=dF h;omega
theorem zQd (n:Int):Def (dI n) (λr=>1<=r/\r<=3):=by
 unfold dI;refine Q0 (zIo n 3 (by decide) (by decide)) (λr hr=>Q1 ?_);rw [xU (by omega) (by omega)];omega
set_option maxRecDepth 100000
def siz (a:Int):Int:=if a=0 then 20 else if a=1 then 32 else 0
theorem zIq (a:Int):jB a=some (siz a):=by
 unfold jB siz;by_cases h0:a=0
 ·rw [if_pos h0];exact ct (by simp [h0]) rfl
 ·rw [if_neg h0];refine cf (by simp [h0]) ?_;by_cases h1:a=1
  ·rw [if_pos h1];exact ct (by simp [h1]) rfl
  ·rw [if_neg h1];exact cf (by simp [h1]) rfl
def Fit (e:zG) (active:Int) (a:Nat):Prop:=((e.Digests.getD a []).length:Int)=if e.Kind≠5/\xK active (a:Int)=true then siz (a:Int) else 0
theorem nf2 (h:∃ i,i<2/\¬ Fit e active i):¬ (Fit e active 0/\Fit e active 1):=by
 obtain ⟨i,hi,hn⟩:=h;intro ⟨h0,h1⟩;have:i=0∨i=1:=by omega
 rcases this with rfl | rfl
 ·exact hn h0
 ·exact hn h1
theorem zO5 {has:Option Bool} {size:Option Int} (h1:has=some (xK active (a:Int))) (h2:size=some (siz (a:Int))) :
  Def ((bif (e.Kind != 5) then has else some false:Option Bool).bind λv=>bif v then size else some 0) (λw=>w=if e.Kind≠5/\xK active (a:Int)=true then siz (a:Int) else 0):=by
 subst h1 h2;by_cases hk:e.Kind=5
 ·rw [show (e.Kind != 5)=false by simp [hk]];exact Q1 (by rw [if_neg (λh=>h.1 hk)])
 ·rw [show (e.Kind != 5)=true by simp [hk]];cases hb:xK active (a:Int)
  ·exact Q1 (by rw [if_neg (λh=>by cases h.2)])
  ·exact Q1 (by rw [if_pos ⟨hk,rfl⟩])
theorem zI0 {w:Int} (hl:a<e.Digests.length) (hw:w=if e.Kind≠5/\xK active (a:Int)=true then siz (a:Int) else 0):((e.Digests[a].length:Int) != w)=false↔Fit e active a:=by
 unfold Fit;rw [<- hw];simp [hl]
theorem yBe (e:zG) (active:Int):Def (pY e active) (λr=>r=true↔e.Digests.length=2/\Fit e active 0/\Fit e active 1):=by
 unfold pY;refine Q2 (λh=>Q1 ⟨λh=>(by cases h),λh2=>?_⟩) (λh=>?_)
 ·rw [h2.1] at h;cases h
 have hl:e.Digests.length=2:=by simp at h;omega
 refine Q0 (bE e.Digests (sS e active) (λi=>Fit e active i) (λb=>b=false/\∃ i,i<2/\¬ Fit e active i) (by omega) (λa ha=>?_) ?_) (λr hr=>?_)
 ·unfold sS;refine Q2 (λ_=>?_) (λh=>by have:=dF h;omega);refine Q0 (zO5 (e:=e) (active:=active) (a:=a) rfl (by rw [zIq];rfl)) (λw hw=>?_);refine Q0 (Def.at' ha) (λd hd=>?_);subst hd;refine Q2 (λhne=>Q1 ⟨rfl,a,by omega,λhF=>?_⟩) (λhne=>Q1 ⟨wU (by omega),(zI0 ha hw).1 hne⟩);rw [(zI0 ha hw).2 hF] at hne;cases hne
 ·unfold sS;rw [hl];exact cf rfl rfl
 ·cases r with
  | inl b=>exact Q1 ⟨λh=>(by rw [hr.1] at h;cases h),λh=>absurd h.2 (nf2 hr.2)⟩
  | inr u=>exact Q1 ⟨λ_=>⟨hl,hr 0 (by omega),hr 1 (by omega)⟩,λ_=>rfl⟩
structure EvGood (e:zG) (active:Int):Prop where
 r0:0<=e.Register
 r1:e.Register<=11
 d:e.Data.length<=64
 l:e.Digests.length=2
 f0:Fit e active 0
 f1:Fit e active 1
structure EvC (e:zG) (active:Int):Prop extends EvGood e active where
 a1:1<=active
 a3:active<=3
 k1:1<=e.Kind
 k5:e.Kind<=5
theorem or6 {a d e f:Bool}:Def (bif a then some true else bif b then some true else bif c then some true else bif d then some true else bif e then some true else some f) (λr=>r=(a||b||c||d||e||f)):=by
 cases a<;>cases b<;>cases c<;>cases d<;>cases e<;>cases f<;>exact Q1 rfl
theorem zR4 (h:b=(decide (active<1)||decide (3<active)||decide (e.Register<0)||decide (11<e.Register)||decide (e.Kind<1)||decide (5<e.Kind))) :
  b=false↔(1<=active/\active<=3/\0<=e.Register/\e.Register<=11/\1<=e.Kind/\e.Kind<=5):=by
 subst h;simp only [Qq,decide_eq_false_iff_not];omega
theorem yD8 (e:zG) (active:Int):Def (dN e active) (λr=>r=0↔EvC e active):=by
 unfold dN;refine Q0 or6 (λb hb=>?_);have hb:=zR4 hb;refine Q2 (λh=>Q1 ⟨λh=>(by cases h),λhc=>?_⟩) (λhbf=>?_)
 ·have:=hb.2 ⟨hc.a1,hc.a3,hc.r0,hc.r1,hc.k1,hc.k5⟩;rw [this] at h;cases h
 obtain ⟨h1,h2,h3,h4,h5,h6⟩:=hb.1 hbf;refine Q2 (λh=>Q1 ⟨λh=>(by cases h),λhc=>?_⟩) (λhd=>?_)
 ·have:=dT h;have:=hc.d;omega
 have hd':=dF hd;refine Q0 (yBe e active) (λf hf=>?_);refine Q2 (λh=>Q1 ⟨λh=>(by cases h),λhc=>?_⟩) (λhft=>Q1 ⟨λ_=>?_,λ_=>rfl⟩)
 ·rw [hf.2 ⟨hc.l,hc.f0,hc.f1⟩] at h;cases h
 ·obtain ⟨k1,k2,k3⟩:=hf.1 (by simpa using hft);exact ⟨⟨h3,h4,by omega,k1,k2,k3⟩,h1,h2,h5,h6⟩
def bnk (n:Nat):List By:=Qa 12 (Qa n 0)++Qa 4 (Qa n 255)
theorem new1:cZ 1=some ⟨[bnk 20,[]],0⟩:=by decide +kernel
theorem new2:cZ 2=some ⟨[[],bnk 32],0⟩:=by decide +kernel
theorem new3:cZ 3=some ⟨[bnk 20,bnk 32],0⟩:=by decide +kernel
structure zKw (active:Int) (r:zC):Prop where
 b:∃ b0 b1,r.Banks=[b0,b1]/\b0.length=(if xK active 0=true then 16 else 0)/\b1.length=(if xK active 1=true then 16 else 0)/\(∀ x∈b0,x.length<=32)/\(∀ x∈b1,x.length<=32)
theorem zMt (b0 b1:List By) (u:Int):vS ⟨[b0,b1],u⟩ 0=some (decide (0<(b0.length:Int)))/\vS ⟨[b0,b1],u⟩ 1=some (decide (0<(b1.length:Int))):=⟨rfl,rfl⟩
theorem zUn (r:zC) (b0 b1:List By) (hb:r.Banks=[b0,b1]) (l0:b0.length<=16) (l1:b1.length<=16) (h0:∀ x∈b0,x.length<=32) (h1:∀ x∈b1,x.length<=32):zCv r=some (b0,b1,r.Updates):=by
 have cp:∀ x:By,x.length<=32->qE x=some x:=λx hx=>zRy x (by omega);unfold zCv;refine ct (by rw [hb];rfl) ?_;refine bd (a:=b0) ?_ ?_
 ·refine yM b0.length (λi=>(b0.take i,(i:Int))) (by simp) (λi hi=>?_) ?_ (wM (by omega))
  ·unfold aQ;rw [hb];refine bd (a:=b0) rfl ?_;refine ct (dlt hi) ?_;refine bd (a:=b0) rfl ?_;refine bd (xH hi) ?_;refine bd (cp _ (h0 _ (Q5 hi))) ?_;refine bd (yP (by simp;omega)) ?_;rw [wU (show i<2 ^ 40 by omega),Q8];simp [hi]
  ·unfold aQ;rw [hb];refine bd (a:=b0) rfl ?_;refine cf (dge (Qg _)) ?_;simp
 refine ct (by rw [hb];rfl) ?_;refine bd (a:=(b1,b0)) ?_ ?_
 ·refine yM b1.length (λi=>(b1.take i,(i:Int),b0)) (by simp) (λi hi=>?_) ?_ (wM (by omega))
  ·unfold aO;rw [hb];refine bd (a:=b1) rfl ?_;refine ct (dlt hi) ?_;refine bd (a:=b1) rfl ?_;refine bd (xH hi) ?_;refine bd (cp _ (h1 _ (Q5 hi))) ?_;refine bd (yP (by simp;omega)) ?_;rw [wU (show i<2 ^ 40 by omega),Q8];simp [hi]
  ·unfold aO;rw [hb];refine bd (a:=b1) rfl ?_;refine cf (dge (Qg _)) ?_;simp
 exact cf (by rw [hb];rfl) rfl
def upR (act:Bool) (bk:List By) (reg:Int) (f:By->By):List By:=if act=true then bk.set reg.toNat (f (bk.getD reg.toNat [])) else bk
def ext (active:Int) (e:zG) (r:zC):zC:=
 ⟨[upR (xK active 0) (r.Banks.getD 0 []) e.Register (λx=>kH (x++e.Digests.getD 0 [])),upR (xK active 1) (r.Banks.getD 1 []) e.Register (λx=>sha (x++e.Digests.getD 1 []))],Qk.wrap (r.Updates+1)⟩
theorem zSv (act:Bool) (bk:List By) (reg:Int) (f:By->By):(upR act bk reg f).length=bk.length:=by unfold upR;split<;>simp
theorem zWv {act:Bool} {reg:Int} {f:By->By} (h:∀ x∈bk,x.length<=32) (hf:∀ x,(f x).length<=32):∀ x∈upR act bk reg f,x.length<=32:=by
 intro x hx;unfold upR at hx;split at hx
 ·rcases List.mem_or_eq_of_mem_set hx with hx | hx
  ·exact h x hx
  ·rw [hx];exact hf _
 ·exact h x hx
theorem yEs {r:zC} (h:zKw active r):zKw active (ext active e r):=by
 obtain ⟨⟨b0,b1,hb,l0,l1,m0,m1⟩⟩:=h;unfold ext;rw [hb];exact ⟨⟨_,_,rfl,by rw [zSv];exact l0,by rw [zSv];exact l1,zWv m0 (λx=>by rw [zOn];omega),zWv m1 (λx=>by rw [zIn];omega)⟩⟩
theorem zP4 (r:zC) (active:Int) (e:zG) (hr:zKw active r) (he:EvGood e active) (hk:e.Kind≠5):Def (dG r 0 e.Register e.Digests) (λx=>x=(ext active e r,0)):=by
 obtain ⟨⟨b0,b1,hb,l0,l1,m0,m1⟩⟩:=hr;obtain ⟨r0,r1,_,dl,f0,f1⟩:=he;obtain ⟨bs,u⟩:=r;simp only at hb;subst hb;have l0':b0.length<=16:=by rw [l0];split<;>omega
 have l1':b1.length<=16:=by rw [l1];split<;>omega
 unfold Fit at f0 f1;have f0':((e.Digests.getD 0 []).length:Int)<=32:=by rw [f0];split<;>decide
 have f1':((e.Digests.getD 1 []).length:Int)<=32:=by rw [f1];split<;>decide
 have g0:∀ d∈e.Digests,d.length<=32:=by
  intro d hd;obtain ⟨i,hi,rfl⟩:=Qf.mp hd;have hi2:i=0∨i=1:=by omega
  rcases hi2 with rfl | rfl
  ·have:(e.Digests.getD 0 [])=e.Digests[0]:=by simp [hi]
   rw [<- this];omega
  ·have:(e.Digests.getD 1 [])=e.Digests[1]:=by simp [hi]
   rw [<- this];omega
 have i0:idx e.Digests 0=some (e.Digests.getD 0 []):=zMo (i:=0) (by omega);have i1:idx e.Digests 1=some (e.Digests.getD 1 []):=zMo (i:=1) (by omega);have a0:vS ⟨[b0,b1],u⟩ 0=some (xK active 0):=by
  rw [(zMt b0 b1 u).1,l0];cases xK active 0<;>rfl
 have a1:vS ⟨[b0,b1],u⟩ 1=some (xK active 1):=by
  rw [(zMt b0 b1 u).2,l1];cases xK active 1<;>rfl
 unfold dG;refine Q0 (P:=λb=>b=false) ?_ (λb hb=>?_)
 ·refine Q2 (λh=>by cases h) (λ_=>Q2 (λh=>by cases h) (λ_=>Q2 (λh=>?_) (λ_=>Q2 (λh=>?_) (λ_=>Q1 ?_))))
  ·have:=dT h;omega
  ·have:=dT h;omega
  ·simp;omega
 subst hb;refine Q2 (λh=>by cases h) (λ_=>?_);refine Q0 (P:=λn=>n=0) ?_ (λn hn=>?_)
 ·unfold zEr;refine Q0 (P:=λb=>b=false) (Q1 rfl) (λb hb=>?_);subst hb;refine Q2 (λh=>by cases h) (λ_=>?_);have e14:(e.Register==14)=false:=by simp;omega
  have e15:(e.Register==15)=false:=by simp;omega
  rw [e14,e15];exact Q1 rfl
 subst hn;refine Q2 (λh=>by cases h) (λ_=>?_);refine Q0 (P:=λr=>r=.inr ()) ?_ (λr hr=>?_)
 ·refine Q9 (λs=>s=0∨s=1∨s=2) (λs=>2 - s.toNat) (λs hs=>?_) (.inl rfl) (by simp);unfold zA8;refine Q2 (λh=>?_) (λh=>Q1 rfl);refine Q0 (P:=λb=>b=false) ?_ (λb hb=>?_)
  ·rcases hs with rfl | rfl | rfl
   ·refine Q0 (P:=λb=>b=xK active 0) (Q4 a0 rfl) (λb hb=>?_);subst hb;refine Q2 (λh=>?_) (λ_=>Q1 rfl);refine Q0 (P:=λd=>d=e.Digests.getD 0 []) (Q4 i0 rfl) (λd hd=>Q1 ?_);have hh:xK active 0=false:=by simpa using h
    rw [if_neg (by show ¬ (e.Kind≠5/\xK active 0=true);rw [hh];simp)] at f0;rw [decide_eq_false_iff_not,hd];omega
   ·refine Q0 (P:=λb=>b=xK active 1) (Q4 a1 rfl) (λb hb=>?_);subst hb;refine Q2 (λh=>?_) (λ_=>Q1 rfl);refine Q0 (P:=λd=>d=e.Digests.getD 1 []) (Q4 i1 rfl) (λd hd=>Q1 ?_);have hh:xK active 1=false:=by simpa using h
    rw [if_neg (by show ¬ (e.Kind≠5/\xK active 1=true);rw [hh];simp)] at f1;rw [decide_eq_false_iff_not,hd];omega
   ·cases h
  subst hb;refine Q1 ?_;rcases hs with rfl | rfl | rfl
  ·exact ⟨.inr (.inl rfl),by decide⟩
  ·exact ⟨.inr (.inr rfl),by decide⟩
  ·cases h
 subst hr;refine Q0 (P:=λr=>r=.inr ()) ?_ (λr hr=>?_)
 ·refine Q9 (λs=>s=0∨s=1∨s=2) (λs=>2 - s.toNat) (λs hs=>?_) (.inl rfl) (by simp);unfold zB7;refine Q2 (λh=>?_) (λh=>Q1 rfl);refine Q0 (P:=λb=>b=false) ?_ (λb hb=>?_)
  ·rcases hs with rfl | rfl | rfl
   ·refine Q0 (P:=λb=>b=xK active 0) (Q4 a0 rfl) (λb hb=>?_);subst hb;refine Q2 (λh=>?_) (λ_=>Q1 rfl);refine Q0 (P:=λd=>d=e.Digests.getD 0 []) (Q4 i0 rfl) (λd hd=>?_);refine Q0 (P:=λd=>d=siz 0) (Q4 (zIq 0) rfl) (λz hz=>Q1 ?_);rw [if_pos ⟨hk,h⟩] at f0;rw [hd,hz];simp;exact f0
   ·refine Q0 (P:=λb=>b=xK active 1) (Q4 a1 rfl) (λb hb=>?_);subst hb;refine Q2 (λh=>?_) (λ_=>Q1 rfl);refine Q0 (P:=λd=>d=e.Digests.getD 1 []) (Q4 i1 rfl) (λd hd=>?_);refine Q0 (P:=λd=>d=siz 1) (Q4 (zIq 1) rfl) (λz hz=>Q1 ?_);rw [if_pos ⟨hk,h⟩] at f1;rw [hd,hz];simp;exact f1
   ·cases h
  subst hb;refine Q1 ?_;rcases hs with rfl | rfl | rfl
  ·exact ⟨.inr (.inl rfl),by decide⟩
  ·exact ⟨.inr (.inr rfl),by decide⟩
  ·cases h
 subst hr;refine Q0 (P:=λx=>x=(b0,b1,u)) (Q4 (zUn _ b0 b1 rfl l0' l1' m0 m1) rfl) (λx hx=>?_);subst hx;obtain ⟨rn,hrn⟩:=Qm r0;have one:∀ (a:Nat) (bk:List By) (f:By->By) (h2:a<2) (h16:bk.length=16) (mm:∀ x∈bk,x.length<=32) (hf:∀ z,z.length<2 ^ 40->pK (a:Int) z=some (f z)),
   Def ((idx bk e.Register).bind λw=>(qE w).bind λw'=>(idx e.Digests (a:Int)).bind λd=>(yN 1 w' d).bind λz=>(pK (a:Int) z).bind λs=>(ixN bk.length e.Register).bind λj=>(uA bk j s).bind λl=>some l)
    (λb=>b=upR true bk e.Register (λx=>f (x++e.Digests.getD a []))):=by
  intro a bk f h2 h16 mm hf;rw [hrn];have hm:bk.getD rn []∈bk:=by
   have:rn<bk.length:=by omega
   simp [this]
  have:=mm _ hm;refine Q0 (P:=λx=>x=bk.getD rn []) (Q4 (zMo (by omega)) rfl) (λx hx=>?_);subst hx;refine Q0 (P:=λy=>y=bk.getD rn []) (Q4 (zRy _ (by omega)) rfl) (λy hy=>?_);subst hy;have hd:e.Digests.getD a []∈e.Digests:=by
   have:a<e.Digests.length:=by omega
   simp [this]
  have:=g0 _ hd;refine Q0 (P:=λd=>d=e.Digests.getD a []) (Q4 (zMo (by omega)) rfl) (λd hd=>?_);subst hd;refine Q0 (Qt (by omega)) (λz hz=>?_);have hzl:z.length<2 ^ 40:=by rw [hz,Q3];omega
  refine Q0 (P:=λs=>s=f z) (Q4 (hf z hzl) rfl) (λs hs=>?_);refine Q0 (W4 (by omega) (by omega)) (λj hj=>?_);refine Q0 (Wa hj.2) (λq hq=>Q1 ?_);rw [hq,hj.1,hs,hz];rfl
 refine Q0 (P:=λb=>b=upR (xK active 0) b0 e.Register (λx=>kH (x++e.Digests.getD 0 []))) ?_ (λc0 hc0=>?_)
 ·refine Q0 (P:=λb=>b=xK active 0) (Q4 a0 rfl) (λb hb=>?_);subst hb;refine Q2 (λh=>?_) (λh=>Q1 (by rw [h];rfl));rw [if_pos h] at l0;rw [h];refine Q0 (P:=λb=>b=b0) (Q1 rfl) (λb hb=>?_);subst hb;exact one 0 _ kH (by omega) l0 m0 zJu
 refine Q0 (P:=λb=>b=upR (xK active 1) b1 e.Register (λx=>sha (x++e.Digests.getD 1 []))) ?_ (λc1 hc1=>?_)
 ·refine Q0 (P:=λb=>b=xK active 1) (Q4 a1 rfl) (λb hb=>?_);subst hb;refine Q2 (λh=>?_) (λh=>Q1 (by rw [h];rfl));rw [if_pos h] at l1;rw [h];refine Q0 (P:=λb=>b=b1) (Q1 rfl) (λb hb=>?_);subst hb;exact one 1 _ sha (by omega) l1 m1 zI9
 exact Q1 (by rw [hc0,hc1];rfl)
theorem sel1:tW 1=some ⟨4095,0⟩:=by decide +kernel
theorem sel2:tW 2=some ⟨0,4095⟩:=by decide +kernel
theorem sel3:tW 3=some ⟨4095,4095⟩:=by decide +kernel
set_option maxRecDepth 100000
theorem zY6 {a:Int} (h1:1<=a) (h3:a<=3):a=1∨a=2∨a=3:=by omega
theorem zIs (n:Nat):(bnk n).length=16:=by simp [bnk]
theorem zMk (n:Nat) (h:n<=32):∀ x∈bnk n,x.length<=32:=by
 intro x hx;simp only [bnk,Qp,List.mem_replicate] at hx;rcases hx with ⟨_,rfl⟩ | ⟨_,rfl⟩<;>simp [h]
def zUq (active:Int):zC:=⟨[if xK active 0=true then bnk 20 else [],if xK active 1=true then bnk 32 else []],0⟩
theorem yDq (active:Int) (h1:1<=active) (h3:active<=3):cZ active=some (zUq active):=by
 rcases zY6 h1 h3 with rfl | rfl | rfl
 ·exact new1
 ·exact new2
 ·exact new3
theorem yBj (active:Int) (h1:1<=active) (h3:active<=3):zKw active (zUq active):=by
 rcases zY6 h1 h3 with rfl | rfl | rfl
 ·exact ⟨⟨_,_,rfl,zIs 20,rfl,zMk 20 (by omega),(by intro x hx;cases hx)⟩⟩
 ·exact ⟨⟨_,_,rfl,rfl,zIs 32,(by intro x hx;cases hx),zMk 32 (by omega)⟩⟩
 ·exact ⟨⟨_,_,rfl,zIs 20,zIs 32,zMk 20 (by omega),zMk 32 (by omega)⟩⟩
def rpl (active:Int) (es:List zG):zC:=es.foldl (λr e=>if e.Kind=5 then r else ext active e r) (zUq active)
theorem zOx (active:Int) {es:List zG} (h:a<es.length):rpl active (es.take (a+1))=if es[a].Kind=5 then rpl active (es.take a) else ext active es[a] (rpl active (es.take a)):=by
 unfold rpl;rw [Q8,List.foldl_append];simp [h]
theorem zQ9 (active:Int):∀ (es:List zG) (r:zC),zKw active r->zKw active (es.foldl (λr e=>if e.Kind=5 then r else ext active e r) r)
 | [],_,h=>h
 | e :: es,r,h=>by
  rw [List.foldl_cons];refine zQ9 active es _ ?_;split
  ·exact h
  ·exact yEs h
theorem zMp (active:Int) (es:List zG) (h1:1<=active) (h3:active<=3):zKw active (rpl active es):=zQ9 active es _ (yBj active h1 h3)
theorem zQ6 (l:sK) (h:l.Events.length<2 ^ 20) (h1:1<=l.Active) (h3:l.Active<=3):Def (fC l) (λr=>(r.2=0->r.1=rpl l.Active l.Events)/\((∀ e∈l.Events,EvC e l.Active)->r.2=0)):=by
 unfold fC;refine Q0 (P:=λb=>b=false) ?_ (λb hb=>?_)
 ·refine Q2 (λh=>by have:=dT h;omega) (λ_=>Q1 ?_);rw [decide_eq_false_iff_not];omega
 subst hb;refine Q2 (λh=>by cases h) (λ_=>?_);refine Q0 (bE l.Events (nU l) (λi=>∀ h:i<l.Events.length,EvGood l.Events[i] l.Active) (λv=>v.2≠0/\¬ ∀ e∈l.Events,EvC e l.Active) (by omega) (λa ha=>?_) ?_) (λr hr=>?_)
 ·unfold nU;refine Q2 (λ_=>?_) (λh=>by have:=dF h;omega);refine Q0 (Def.at' ha) (λe he=>?_);subst he;refine Q0 (yD8 _ _) (λr hr=>?_);refine Q2 (λhz=>Q1 ⟨by simpa using hz,λhall=>?_⟩) (λhz=>Q1 ⟨wU (by omega),λ_=>(hr.1 (by simpa using hz)).toEvGood⟩);have:=hr.2 (hall _ (Q5 ha));rw [this] at hz;cases hz
 ·unfold nU;exact cf (by simp) rfl
 cases r with
 | inl v=>exact Q1 ⟨λh=>absurd h hr.1,λh=>absurd h hr.2⟩
 | inr u=>
  have hr':∀ e∈l.Events,EvGood e l.Active:=by
   intro e he;obtain ⟨i,hi,rfl⟩:=Qf.mp he;exact hr i hi hi
  refine Q0 (P:=λr=>r=zUq l.Active) (Q4 (yDq _ h1 h3) rfl) (λrg hrg=>?_);subst hrg;refine Q0 (P:=λr=>(⟨r.1,r.2⟩:zC)=rpl l.Active l.Events) ?_ (λr hr=>Q1 ⟨λ_=>hr,λ_=>rfl⟩);refine Q9 (λs=>∃ a:Nat,s.1=(a:Int)/\a<=l.Events.length/\(⟨s.2.1,s.2.2⟩:zC)=rpl l.Active (l.Events.take a)) (λs=>l.Events.length - s.1.toNat) (λs hs=>?_) ⟨0,rfl,by omega,rfl⟩ (by simp;omega);obtain ⟨a',bs,up⟩:=s;obtain ⟨a,g1,g2,g3⟩:=hs;simp only at g1 g3;subst g1;unfold zAm;refine Q2 (λh=>?_) (λh=>Q1 ?_)
  ·have ha2:a<l.Events.length:=by have:=dT h;omega
   refine Q0 (P:=λr=>(⟨r.1,r.2⟩:zC)=rpl l.Active (l.Events.take (a+1))) ?_ (λr hr=>Q1 ?_)
   ·rw [zOx _ ha2];refine Q0 (Def.at' ha2) (λe he=>?_);subst he;refine Q2 (λhk=>?_) (λhk=>Q1 (by rw [if_pos (by simpa using hk)];exact g3));have hk':l.Events[a].Kind≠5:=by simpa using hk
    rw [if_neg hk'];refine Q0 (Def.at' ha2) (λe he=>?_);subst he;refine Q0 (Def.at' ha2) (λe he=>?_);subst he;rw [g3];exact Q0 (zP4 _ l.Active _ (zMp _ _ h1 h3) (hr' _ (Q5 ha2)) hk') (λr hr=>Q1 (by subst hr;rfl))
   ·rw [wU (by omega)];exact ⟨⟨a+1,rfl,by omega,hr⟩,by simp only [Q7];omega⟩
  ·have:=dF h;rw [Q6 (by omega)] at g3;exact g3
theorem bit0 (x:Int):(vA .i64 (xT .i64 0 x) 1==1)=false:=by
 unfold xT;rw [Int.zero_fdiv];decide
def wO (active a:Int):Int:=if xK active a=true then 4095 else 0
theorem yCk (active:Int) (h1:1<=active) (h3:active<=3):tW active=some ⟨wO active 0,wO active 1⟩:=by
 rcases zY6 h1 h3 with rfl | rfl | rfl
 ·exact sel1
 ·exact sel2
 ·exact sel3
def yBs (v:Int) (i:Nat):Bool:=vA .i64 (xT .i64 v (Qn.wrap (i:Int))) 1==1
def iH (v:Int) (bk:List By):Nat->By
 | 0=>[]
 | n+1=>iH v bk n++(if yBs v n=true then bk.getD n [] else [])
theorem zYl (v:Int) (bk:List By) (n:Nat):iH v bk (n+1)=iH v bk n++(if yBs v n=true then bk.getD n [] else []):=rfl
theorem zIp (h:∀ x∈bk,x.length<=32) (n:Nat):(bk.getD n []).length<=32:=by
 by_cases hn:n<bk.length
 ·have:bk.getD n []=bk[n]:=by simp [hn]
  rw [this];exact h _ (Q5 hn)
 ·have:bk.getD n []=[]:=by simp [List.getD,List.getElem?_eq_none (by omega:bk.length<=n)]
  rw [this];simp
theorem bX (h:∀ x∈bk,x.length<=32) (v:Int):∀ n,(iH v bk n).length<=32*n
 | 0=>by simp [iH]
 | n+1=>by
  have:=bX h v n;have:=zIp h n;rw [zYl,Q3];split
  ·omega
  ·simp only [Qe];omega
theorem zOu {v:Int} {all:By} {o:Option (List By)} (hi:i<16) (hz:v=0∨bk.length=16) (hb:∀ x∈bk,x.length<=32) (hl:all.length<=512) (ho:o=some bk) :
  (bif ((vA .i64 (xT .i64 v (Qn.wrap (i:Int))) 1)==1) then (o.bind λb=>(idx b (i:Int)).bind λx=>(yN 1 (all++iH v bk i) x).bind λz=>some z) else some (all++iH v bk i))=some (all++iH v bk (i+1)):=by
 have hs:=bX hb v i;have hg:=zIp hb i;rw [zYl];cases hbit:yBs v i
 ·refine cf hbit ?_;simp
 ·refine ct hbit ?_;have h16:bk.length=16:=by
   rcases hz with h | h
   ·unfold yBs at hbit;rw [h,bit0] at hbit;cases hbit
   ·exact h
  refine bd ho ?_;refine bd (zMo (by omega)) ?_;refine bd (yP (by rw [Q3];omega)) ?_;simp
theorem yDh (r:zC) (s:A2 Int) (a:Int) (v:Int) (bk:List By) (hv:((ixN 2 a).bind λj=>[s.a0,s.a1][j]?)=some v) (hi:idx r.Banks a=some bk) (hz:v=0∨bk.length=16) (hb:∀ x∈bk,x.length<=32) (all:By) (hl:all.length<=512) :
  zP (eU r s a) FU (all,0)=some (all++iH v bk 16):=by
 refine yM 16 (λi=>(all++iH v bk i,(i:Int))) (by simp [iH]) (λi hi16=>?_) rfl (wM (by decide));unfold eU;refine ct (by simp;omega) ?_;have e:∀ (f:Int->Option By),((ixN 2 a).bind λj=>([s.a0,s.a1][j]?).bind f)=f v:=by
  intro f;rw [<- Option.bind_assoc,hv];rfl
 rw [e];refine bd (zOu hi16 hz hb hl hi) ?_;rw [wU (by omega)]
def dgs (active:Int) (r:zC):By:=hs 5 [wC (wC [] 2 (wO active 0)) 2 (wO active 1),iH (wO active 0) (r.Banks.getD 0 []) 16++iH (wO active 1) (r.Banks.getD 1 []) 16]
theorem zSs (active:Int) (r:zC):(dgs active r).length=32:=mP _ _
theorem rZ (active a:Int):0<=wO active a/\wO active a<=65535:=by unfold wO;split<;>decide
theorem zLz {a:Int} (hb:b=xK active a):(wO active a != 0&&!b)=false:=by
 subst hb;unfold wO;cases xK active a<;>rfl
theorem zNp (r:zC) (active:Int) (hr:zKw active r):dH r ⟨wO active 0,wO active 1⟩=some (dgs active r,0):=by
 obtain ⟨⟨b0,b1,hb,l0,l1,m0,m1⟩⟩:=hr;obtain ⟨bs,u⟩:=r;simp only at hb;subst hb;have s0:=rZ active 0;have s1:=rZ active 1;have z0:wO active 0=0∨b0.length=16:=by unfold wO;split at l0<;>simp_all
 have z1:wO active 1=0∨b1.length=16:=by unfold wO;split at l1<;>simp_all
 have a0:vS ⟨[b0,b1],u⟩ 0=some (xK active 0):=by
  rw [(zMt b0 b1 u).1,l0];cases xK active 0<;>rfl
 have a1:vS ⟨[b0,b1],u⟩ 1=some (xK active 1):=by
  rw [(zMt b0 b1 u).2,l1];cases xK active 1<;>rfl
 have n0:=zLz (active:=active) (a:=0) rfl;have n1:=zLz (active:=active) (a:=1) rfl;have hd:dgs active ⟨[b0,b1],u⟩=hs 5 [wC (wC [] 2 (wO active 0)) 2 (wO active 1),iH (wO active 0) b0 16++iH (wO active 1) b1 16]:=rfl;rw [hd];generalize wO active 0=x0 at s0 z0 n0;generalize wO active 1=x1 at s1 z1 n1;have e0:=bX m0 x0 16;have e1:=bX m1 x1 16;have d0:=yDh ⟨[b0,b1],u⟩ ⟨x0,x1⟩ 0 x0 b0 rfl rfl z0 m0 [] (by simp);have d1:=yDh ⟨[b0,b1],u⟩ ⟨x0,x1⟩ 1 x1 b1 rfl rfl z1 m1 (iH x0 b0 16) (by omega);rw [Qr] at d0;generalize iH x0 b0 16=t0 at *;generalize iH x1 b1 16=t1 at *;have rng:∀ x:Int,0<=x/\x<=65535->(bif decide (x<0) then some true else some (decide (65535<x)):Option Bool)=some false:=by
  intro x hx;refine cf (by simp;omega) ?_;rw [show decide (65535<x)=false by simp;omega]
 have act:∀ (x:Int) (o:Option Bool) (b:Bool),o=some b->(x != 0&&!b)=false->(bif x != 0 then (o.bind λb=>some (!b)) else some false:Option Bool)=some false:=by
  intro x o b ho hn;subst ho;cases h:x != 0
  ·rfl
  ·rw [h] at hn;exact congrArg some hn
 unfold dH;refine bd (a:=.inr ()) (two (b:=1) (c:=2) ?_ ?_ rfl) ?_
 ·unfold eA;refine ct rfl ?_;exact bd (a:=false) (rng x0 s0) rfl
 ·unfold eA;refine ct rfl ?_;exact bd (a:=false) (rng x1 s1) rfl
 refine bd (a:=.inr (t0++t1)) (two (b:=(t0,1)) (c:=(t0++t1,2)) ?_ ?_ rfl) ?_
 ·unfold fR;refine ct rfl ?_;refine bd (a:=false) (act x0 _ _ a0 n0) ?_;refine cf rfl ?_;exact bd d0 rfl
 ·unfold fR;refine ct rfl ?_;refine bd (a:=false) (act x1 _ _ a1 n1) ?_;refine cf rfl ?_;exact bd d1 rfl
 refine bd (a:=x0) rfl ?_;refine bd (mS [] 2 x0 (by omega) (by omega) (by simp)) ?_;refine bd (a:=x1) rfl ?_;refine bd (mS _ 2 x1 (by omega) (by omega) (by rw [xI];simp)) ?_;exact bd (zNh _ _ (by rw [tot2,xI,xI,Q3];simp only [Qe];omega)) rfl
set_option maxRecDepth 100000
theorem zJf (a:Int):mG a=some (siz a):=zIq a
theorem zQ2 (e:zG) (active:Int):Def (iJ e active) (λr=>r=0↔EvC e active):=by
 unfold iJ;refine Q0 or6 (λb hb=>?_);have hb:=zR4 hb;refine Q2 (λh=>Q1 ⟨λh=>(by cases h),λhc=>?_⟩) (λhbf=>?_)
 ·have:=hb.2 ⟨hc.a1,hc.a3,hc.r0,hc.r1,hc.k1,hc.k5⟩;rw [this] at h;cases h
 obtain ⟨h1,h2,h3,h4,h5,h6⟩:=hb.1 hbf;refine Q2 (λh=>Q1 ⟨λh=>(by cases h),λhc=>?_⟩) (λhd=>?_)
 ·have:=dT h;have:=hc.d;omega
 have hd':=dF hd;refine Q2 (λh=>Q1 ⟨λh=>(by cases h),λhc=>?_⟩) (λhl0=>?_)
 ·rw [hc.l] at h;cases h
 have hl:e.Digests.length=2:=by simp at hl0;omega
 refine Q0 (bE e.Digests (mK e active) (λi=>Fit e active i) (λb=>b=27/\∃ i,i<2/\¬ Fit e active i) (by omega) (λa ha=>?_) ?_) (λr hr=>?_)
 ·unfold mK;refine Q2 (λ_=>?_) (λh=>by have:=dF h;omega);refine Q0 (Def.at' ha) (λd hd=>?_);subst hd;refine Q0 (zO5 (e:=e) (active:=active) (a:=a) ?_ (by rw [zJf];rfl)) (λw hw=>?_)
  ·refine bd (ckT (by simp)) ?_;have hw:Qn.wrap (a:Int)=(a:Int):=zHp (by omega) (by omega);unfold xK;rw [hw]
  refine Q2 (λhne=>Q1 ⟨rfl,a,by omega,λhF=>?_⟩) (λhne=>Q1 ⟨wU (by omega),(zI0 ha hw).1 hne⟩);rw [(zI0 ha hw).2 hF] at hne;cases hne
 ·unfold mK;rw [hl];exact cf rfl rfl
 ·cases r with
  | inl b=>exact Q1 ⟨λh=>(by rw [hr.1] at h;cases h),λh=>absurd ⟨h.f0,h.f1⟩ (nf2 hr.2)⟩
  | inr u=>exact Q1 ⟨λ_=>⟨⟨h3,h4,by omega,hl,hr 0 (by omega),hr 1 (by omega)⟩,h1,h2,h5,h6⟩,λ_=>rfl⟩
theorem yE2 (h:EvC e active):Def (iJ e active) (λr=>r=0):=(zQ2 e active).mono λ_ hr=>hr.2 h
structure zX6 (l:sK):Prop where
 ev:∀ e∈l.Events,EvC e l.Active
 n:l.Events.length<=40
set_option maxRecDepth 100000
theorem yGo:uT 1=some ⟨[bnk 20,[]],0⟩:=by decide +kernel
theorem yG4:uT 2=some ⟨[[],bnk 32],0⟩:=by decide +kernel
theorem yGp:uT 3=some ⟨[bnk 20,bnk 32],0⟩:=by decide +kernel
theorem yCv (active:Int) (h1:1<=active) (h3:active<=3):uT active=some (zUq active):=by
 rcases zY6 h1 h3 with rfl | rfl | rfl
 ·exact yGo
 ·exact yG4
 ·exact yGp
def sb (c0 c1:Bool):Int:=(if c0 then 1 else 0)+(if c1 then 2 else 0)
theorem ract (b0 b1:List By) (u:Int) (c0 c1:Bool) (h0:((b0.length:Int)==16)=c0) (h1:((b1.length:Int)==16)=c1):sZ ⟨[b0,b1],u⟩=some (sb c0 c1):=by
 unfold sZ;refine bd (a:=sb c0 c1) ?_ rfl;refine yM (x:=((0:Int),(0:Int))) 2 (λi=>match i with | 0=>((0:Int),(0:Int)) | 1=>(sb c0 false,1) | _=>(sb c0 c1,2)) rfl (λi hi=>?_) ?_ (wM (by omega))
 ·have:i=0∨i=1:=by omega
  rcases this with rfl | rfl
  ·show uI _ (0,0)=some (.inl (sb c0 false,1));unfold uI;refine ct rfl ?_;refine bd (a:=sb c0 false) (bd (a:=c0) (ct rfl (bd (a:=b0) rfl (by rw [h0]))) ?_) rfl;cases c0<;>rfl
  ·show uI _ (sb c0 false,1)=some (.inl (sb c0 c1,2));unfold uI;refine ct rfl ?_;refine bd (a:=sb c0 c1) (bd (a:=c1) (ct rfl (bd (a:=b1) rfl (by rw [h1]))) ?_) rfl;cases c0<;>cases c1<;>rfl
 ·rfl
theorem yC2 (b0 b1:List By) (u:Int) (c0 c1:Bool) (h0:((b0.length:Int)==16)=c0) (h1:((b1.length:Int)==16)=c1):uK ⟨[b0,b1],u⟩ 0=some c0/\uK ⟨[b0,b1],u⟩ 1=some c1:=by
 have h:=ract b0 b1 u c0 c1 h0 h1;unfold uK;constructor
 ·refine bd h ?_;cases c0<;>cases c1<;>rfl
 ·refine bd h ?_;cases c0<;>cases c1<;>rfl
theorem zX0 (r:zC) (b0 b1:List By) (hb:r.Banks=[b0,b1]) (l0:b0.length<=16) (l1:b1.length<=16) (h0:∀ x∈b0,x.length<=32) (h1:∀ x∈b1,x.length<=32):lQ r=some (b0,b1,r.Updates):=by
 unfold lQ;rw [hb];refine ct rfl ?_;refine bd (a:=b0) rfl ?_;refine bd (a:=b0) ?_ ?_
 ·refine yM b0.length (λi=>(b0.take i,(i:Int))) (by simp) (λi hi=>?_) ?_ (wM (by omega))
  ·unfold lU;refine ct (dlt hi) ?_;refine bd (xH hi) ?_;refine bd (yP (by have:=h0 _ (Q5 hi);simp;omega)) ?_;refine bd (yP (by simp;omega)) ?_;rw [wU (show i<2 ^ 40 by omega),Q8];simp [hi]
  ·unfold lU;refine cf (dge (Qg _)) ?_;simp
 refine ct rfl ?_;refine bd (a:=b1) rfl ?_;refine bd (a:=(b1,b0)) ?_ ?_
 ·refine yM b1.length (λi=>(b1.take i,(i:Int),b0)) (by simp) (λi hi=>?_) ?_ (wM (by omega))
  ·unfold mU;refine ct (dlt hi) ?_;refine bd (xH hi) ?_;refine bd (yP (by have:=h1 _ (Q5 hi);simp;omega)) ?_;refine bd (yP (by simp;omega)) ?_;rw [wU (show i<2 ^ 40 by omega),Q8];simp [hi]
  ·unfold mU;refine cf (dge (Qg _)) ?_;simp
 exact cf rfl rfl
set_option maxRecDepth 100000
theorem zNq (b:By) (hb:b.length<2 ^ 40):xR ((0:Nat):Int) b=some (kH b):=zZc b hb
theorem zNc (b:By) (hb:b.length<2 ^ 40):xR ((1:Nat):Int) b=some (sha b):=zRe b hb
theorem zO4 (r:zC) (active:Int) (e:zG) (hr:zKw active r) (he:EvGood e active) (hk:e.Kind≠5):Def (rF r 0 e.Register e.Digests) (λx=>x=(ext active e r,0)):=by
 obtain ⟨⟨b0,b1,hb,l0,l1,m0,m1⟩⟩:=hr;obtain ⟨r0,r1,_,dl,f0,f1⟩:=he;obtain ⟨bs,u⟩:=r;simp only at hb;subst hb;have l0':b0.length<=16:=by rw [l0];split<;>omega
 have l1':b1.length<=16:=by rw [l1];split<;>omega
 unfold Fit at f0 f1;have f0':((e.Digests.getD 0 []).length:Int)<=32:=by rw [f0];split<;>decide
 have f1':((e.Digests.getD 1 []).length:Int)<=32:=by rw [f1];split<;>decide
 have g0:∀ d∈e.Digests,d.length<=32:=by
  intro d hd;obtain ⟨i,hi,rfl⟩:=Qf.mp hd;have hi2:i=0∨i=1:=by omega
  rcases hi2 with rfl | rfl
  ·have:(e.Digests.getD 0 [])=e.Digests[0]:=by simp [hi]
   rw [<- this];omega
  ·have:(e.Digests.getD 1 [])=e.Digests[1]:=by simp [hi]
   rw [<- this];omega
 have i0:idx e.Digests 0=some (e.Digests.getD 0 []):=zMo (i:=0) (by omega);have i1:idx e.Digests 1=some (e.Digests.getD 1 []):=zMo (i:=1) (by omega);obtain ⟨a0,a1⟩:=yC2 b0 b1 u (xK active 0) (xK active 1) (by rw [l0];cases xK active 0<;>rfl) (by rw [l1];cases xK active 1<;>rfl);unfold rF;refine Q0 (P:=λb=>b=false) ?_ (λb hb=>?_)
 ·refine Q2 (λh=>by cases h) (λ_=>Q2 (λh=>by cases h) (λ_=>?_));refine Q0 (P:=λb=>b=true) ?_ (λb hb=>?_)
  ·unfold hK;refine Q0 (P:=λb=>b=true) ?_ (λb hb=>Q1 hb);refine Q2 (λ_=>Q1 ?_) (λh=>?_)
   ·rw [decide_eq_true_iff];omega
   ·have:=dF h;omega
  subst hb;refine Q2 (λh=>by cases h) (λ_=>Q1 ?_);simp;omega
 subst hb;refine Q2 (λh=>by cases h) (λ_=>?_);refine Q0 (P:=λn=>n=0) ?_ (λn hn=>?_)
 ·unfold iS;refine Q0 (P:=λb=>b=false) (Q1 rfl) (λb hb=>?_);subst hb;refine Q2 (λh=>by cases h) (λ_=>?_);have e14:(e.Register==14)=false:=by simp;omega
  have e15:(e.Register==15)=false:=by simp;omega
  rw [e14,e15];exact Q1 rfl
 subst hn;refine Q2 (λh=>by cases h) (λ_=>?_);refine Q0 (P:=λr=>r=.inr ()) ?_ (λr hr=>?_)
 ·refine Q9 (λs=>s=0∨s=1∨s=2) (λs=>2 - s.toNat) (λs hs=>?_) (.inl rfl) (by simp);unfold hP;refine Q2 (λh=>?_) (λh=>Q1 rfl);rcases hs with rfl | rfl | rfl
  ·refine Q0 (P:=λd=>d=e.Digests.getD 0 []) (Q4 i0 rfl) (λd hd=>?_);refine Q0 (P:=λb=>b=false) ?_ (λb hb=>?_)
   ·refine Q0 (P:=λb=>b=xK active 0) (Q4 a0 rfl) (λb hb=>?_);subst hb;refine Q2 (λh=>Q1 ?_) (λ_=>Q1 rfl);have hh:xK active 0=false:=by simpa using h
    rw [if_neg (by show ¬ (e.Kind≠5/\xK active 0=true);rw [hh];simp)] at f0;rw [decide_eq_false_iff_not,hd];omega
   subst hb;exact Q1 ⟨.inr (.inl rfl),by decide⟩
  ·refine Q0 (P:=λd=>d=e.Digests.getD 1 []) (Q4 i1 rfl) (λd hd=>?_);refine Q0 (P:=λb=>b=false) ?_ (λb hb=>?_)
   ·refine Q0 (P:=λb=>b=xK active 1) (Q4 a1 rfl) (λb hb=>?_);subst hb;refine Q2 (λh=>Q1 ?_) (λ_=>Q1 rfl);have hh:xK active 1=false:=by simpa using h
    rw [if_neg (by show ¬ (e.Kind≠5/\xK active 1=true);rw [hh];simp)] at f1;rw [decide_eq_false_iff_not,hd];omega
   subst hb;exact Q1 ⟨.inr (.inr rfl),by decide⟩
  ·have:=dT h;omega
 subst hr;refine Q0 (P:=λr=>r=.inr ()) ?_ (λr hr=>?_)
 ·refine Q9 (λs=>s=0∨s=1∨s=2) (λs=>2 - s.toNat) (λs hs=>?_) (.inl rfl) (by simp);unfold hZ;refine Q2 (λh=>?_) (λh=>Q1 rfl);rcases hs with rfl | rfl | rfl
  ·refine Q0 (P:=λd=>d=e.Digests.getD 0 []) (Q4 i0 rfl) (λd hd=>?_);refine Q0 (P:=λb=>b=false) ?_ (λb hb=>?_)
   ·refine Q0 (P:=λb=>b=xK active 0) (Q4 a0 rfl) (λb hb=>?_);subst hb;refine Q2 (λh=>?_) (λ_=>Q1 rfl);refine Q0 (P:=λd=>d=siz 0) (Q4 (zJf 0) rfl) (λz hz=>Q1 ?_);rw [if_pos ⟨hk,h⟩] at f0;rw [hd,hz];simp;exact f0
   subst hb;exact Q1 ⟨.inr (.inl rfl),by decide⟩
  ·refine Q0 (P:=λd=>d=e.Digests.getD 1 []) (Q4 i1 rfl) (λd hd=>?_);refine Q0 (P:=λb=>b=false) ?_ (λb hb=>?_)
   ·refine Q0 (P:=λb=>b=xK active 1) (Q4 a1 rfl) (λb hb=>?_);subst hb;refine Q2 (λh=>?_) (λ_=>Q1 rfl);refine Q0 (P:=λd=>d=siz 1) (Q4 (zJf 1) rfl) (λz hz=>Q1 ?_);rw [if_pos ⟨hk,h⟩] at f1;rw [hd,hz];simp;exact f1
   subst hb;exact Q1 ⟨.inr (.inr rfl),by decide⟩
  ·have:=dT h;omega
 subst hr;refine Q0 (P:=λx=>x=(b0,b1,u)) (Q4 (zX0 _ b0 b1 rfl l0' l1' m0 m1) rfl) (λx hx=>?_);subst hx;obtain ⟨rn,hrn⟩:=Qm r0;have one:∀ (a:Nat) (bk:List By) (f:By->By) (hbk:idx [b0,b1] (a:Int)=some bk) (h2:a<2) (h16:bk.length=16) (mm:∀ x∈bk,x.length<=32) (hf:∀ z,z.length<2 ^ 40->xR (a:Int) z=some (f z)),
   Def ((idx [b0,b1] (a:Int)).bind λv=>(idx v e.Register).bind λw=>(yN 1 [] w).bind λw'=>(idx e.Digests (a:Int)).bind λd=>(yN 1 w' d).bind λz=>(xR (a:Int) z).bind λs=>(ixN bk.length e.Register).bind λj=>(uA bk j s).bind λl=>some l)
    (λb=>b=upR true bk e.Register (λx=>f (x++e.Digests.getD a []))):=by
  intro a bk f hbk h2 h16 mm hf;rw [hrn];refine Q0 (P:=λv=>v=bk) (Q4 hbk rfl) (λv hv=>?_);subst hv;have:=zIp mm rn;refine Q0 (P:=λx=>x=v.getD rn []) (Q4 (zMo (by omega)) rfl) (λx hx=>?_);subst hx;refine Q0 (Qt (by simp only [Qe];omega)) (λy hy=>?_);rw [Qr] at hy;subst hy;have:=zIp g0 a;refine Q0 (P:=λd=>d=e.Digests.getD a []) (Q4 (zMo (by omega)) rfl) (λd hd=>?_);subst hd;refine Q0 (Qt (by omega)) (λz hz=>?_);have hzl:z.length<2 ^ 40:=by rw [hz,Q3];omega
  refine Q0 (P:=λs=>s=f z) (Q4 (hf z hzl) rfl) (λs hs=>?_);refine Q0 (W4 (by omega) (by omega)) (λj hj=>?_);refine Q0 (Wa hj.2) (λq hq=>Q1 ?_);rw [hq,hj.1,hs,hz];rfl
 refine Q0 (P:=λb=>b=upR (xK active 0) b0 e.Register (λx=>kH (x++e.Digests.getD 0 []))) ?_ (λc0 hc0=>?_)
 ·refine Q0 (P:=λb=>b=xK active 0) (Q4 a0 rfl) (λb hb=>?_);subst hb;refine Q2 (λh=>?_) (λh=>Q1 (by rw [h];rfl));rw [if_pos h] at l0;rw [h];exact one 0 b0 kH rfl (by omega) l0 m0 zNq
 refine Q0 (P:=λb=>b=upR (xK active 1) b1 e.Register (λx=>sha (x++e.Digests.getD 1 []))) ?_ (λc1 hc1=>?_)
 ·refine Q0 (P:=λb=>b=xK active 1) (Q4 a1 rfl) (λb hb=>?_);subst hb;refine Q2 (λh=>?_) (λh=>Q1 (by rw [h];rfl));rw [if_pos h] at l1;rw [h];exact one 1 b1 sha rfl (by omega) l1 m1 zNc
 exact Q1 (by rw [hc0,hc1];rfl)
theorem zOs (l:sK) (h:zX6 l) (h1:1<=l.Active) (h3:l.Active<=3):Def (oJ l) (λr=>r=(rpl l.Active l.Events,0)):=by
 have hn:=h.n;unfold oJ;refine Q0 (P:=λb=>b=false) ?_ (λb hb=>?_)
 ·refine Q2 (λh=>by have:=dT h;omega) (λ_=>Q1 ?_);rw [decide_eq_false_iff_not];omega
 subst hb;refine Q2 (λh=>by cases h) (λ_=>?_);refine Q0 (P:=λr=>r=zUq l.Active) (Q4 (yCv _ h1 h3) rfl) (λrg hrg=>?_);subst hrg;refine Q0 (P:=λr=>match r with | .inl _=>False | .inr z=>(⟨z.1,z.2⟩:zC)=rpl l.Active l.Events) ?_ (λr hr=>?_)
 ·refine Q9 (λs=>∃ a:Nat,s.1=(a:Int)/\a<=l.Events.length/\(⟨s.2.1,s.2.2⟩:zC)=rpl l.Active (l.Events.take a)) (λs=>l.Events.length - s.1.toNat) (λs hs=>?_) ⟨0,rfl,by omega,rfl⟩ (by simp;omega);obtain ⟨a',bs,up⟩:=s;obtain ⟨a,k1,k2,k3⟩:=hs;simp only at k1 k3;subst k1;unfold gC;refine Q2 (λhlt=>?_) (λhge=>Q1 ?_)
  ·have ha2:a<l.Events.length:=by have:=dT hlt;omega
   have hE:=h.ev _ (Q5 ha2);refine Q0 (Def.at' ha2) (λe he=>?_);subst he;refine Q0 (P:=λr=>r=0) ?_ (λc hc=>?_)
   ·exact yE2 hE
   subst hc;refine Q0 (P:=λz=>z.1=0/\(⟨z.2.1,z.2.2⟩:zC)=rpl l.Active (l.Events.take (a+1))) ?_ (λz hz=>?_)
   ·rw [zOx _ ha2];refine Q0 (P:=λb=>b=(l.Events[a].Kind != 5)) (Q2 (λ_=>Q1 rfl) (λh=>by cases h)) (λb hb=>?_);subst hb;refine Q2 (λhk=>?_) (λhk=>Q1 ⟨rfl,by rw [if_pos (by simpa using hk)];exact k3⟩);have hk':l.Events[a].Kind≠5:=by simpa using hk
    rw [if_neg hk',k3];exact Q0 (zO4 _ l.Active _ (zMp _ _ h1 h3) hE.toEvGood hk') (λx hx=>Q1 (by subst hx;exact ⟨rfl,rfl⟩))
   obtain ⟨er,bs',up'⟩:=z;obtain ⟨z1,z2⟩:=hz;simp only at z1 z2;subst z1;refine Q2 (λh=>by cases h) (λ_=>Q1 ?_);rw [wU (by omega)];exact ⟨⟨a+1,rfl,by omega,z2⟩,by simp only [Q7];omega⟩
  ·have:=dF hge;rw [Q6 (by omega)] at k3;exact k3
 cases r with
 | inl v=>exact hr.elim
 | inr z=>exact Q1 (by rw [<- hr])
set_option maxRecDepth 100000
theorem yFy:xZ 1=some ⟨4095,0⟩:=by decide +kernel
theorem yG7:xZ 2=some ⟨0,4095⟩:=by decide +kernel
theorem yFn:xZ 3=some ⟨4095,4095⟩:=by decide +kernel
theorem zY2 (active:Int) (h1:1<=active) (h3:active<=3):xZ active=some ⟨wO active 0,wO active 1⟩:=by
 rcases zY6 h1 h3 with rfl | rfl | rfl
 ·exact yFy
 ·exact yG7
 ·exact yFn
theorem zX9 (r:zC) (a:Int) (v:Int) (bk:List By) (hi:idx r.Banks a=some bk) (hz:v=0∨bk.length=16) (hb:∀ x∈bk,x.length<=32) (all:By) (hl:all.length<=512) :
  zP (oR r a v) FU (all,0)=some (all++iH v bk 16):=by
 refine yM 16 (λi=>(all++iH v bk i,(i:Int))) (by simp [iH]) (λi hi16=>?_) rfl (wM (by decide));unfold oR;refine ct (by simp;omega) ?_;refine bd (zOu hi16 hz hb hl hi) ?_;rw [wU (by omega)]
theorem zMw (r:zC) (active:Int) (hr:zKw active r):uW r ⟨wO active 0,wO active 1⟩=some (dgs active r,0):=by
 obtain ⟨⟨b0,b1,hb,l0,l1,m0,m1⟩⟩:=hr;obtain ⟨bs,u⟩:=r;simp only at hb;subst hb;have s0:=rZ active 0;have s1:=rZ active 1;have z0:wO active 0=0∨b0.length=16:=by unfold wO;split at l0<;>simp_all
 have z1:wO active 1=0∨b1.length=16:=by unfold wO;split at l1<;>simp_all
 obtain ⟨a0,a1⟩:=yC2 b0 b1 u (xK active 0) (xK active 1) (by rw [l0];cases xK active 0<;>rfl) (by rw [l1];cases xK active 1<;>rfl);have n0:=zLz (active:=active) (a:=0) rfl;have n1:=zLz (active:=active) (a:=1) rfl;have hd:dgs active ⟨[b0,b1],u⟩=hs 5 [wC (wC [] 2 (wO active 0)) 2 (wO active 1),iH (wO active 0) b0 16++iH (wO active 1) b1 16]:=rfl;rw [hd];generalize wO active 0=x0 at s0 z0 n0;generalize wO active 1=x1 at s1 z1 n1;have e0:=bX m0 x0 16;have e1:=bX m1 x1 16;have d0:=zX9 ⟨[b0,b1],u⟩ 0 x0 b0 rfl z0 m0 [] (by simp);have d1:=zX9 ⟨[b0,b1],u⟩ 1 x1 b1 rfl z1 m1 (iH x0 b0 16) (by omega);rw [Qr] at d0;generalize iH x0 b0 16=t0 at *;generalize iH x1 b1 16=t1 at *;have rng:∀ x:Int,0<=x/\x<=65535->(bif decide (x<0) then some true else some (decide (65535<x)):Option Bool)=some false:=by
  intro x hx;refine cf (by simp;omega) ?_;rw [show decide (65535<x)=false by simp;omega]
 have act:∀ (x:Int) (o:Option Bool) (b:Bool),o=some b->(x != 0&&!b)=false->(bif x != 0 then (o.bind λb=>some (!b)) else some false:Option Bool)=some false:=by
  intro x o b ho hn;subst ho;cases h:x != 0
  ·rfl
  ·rw [h] at hn;exact congrArg some hn
 unfold uW;refine bd (a:=.inr (wC (wC [] 2 x0) 2 x1)) (two (b:=(wC [] 2 x0,1)) (c:=(wC (wC [] 2 x0) 2 x1,2)) ?_ ?_ rfl) ?_
 ·unfold oY;refine ct rfl ?_;refine bd (a:=x0) rfl ?_;refine bd (a:=false) (rng x0 s0) ?_;refine cf rfl ?_;exact bd (uJ [] 2 x0 (by omega) (by omega) (by simp)) rfl
 ·unfold oY;refine ct rfl ?_;refine bd (a:=x1) rfl ?_;refine bd (a:=false) (rng x1 s1) ?_;refine cf rfl ?_;exact bd (uJ _ 2 x1 (by omega) (by omega) (by rw [xI];simp)) rfl
 refine bd (a:=.inr (t0++t1)) (two (b:=(t0,1)) (c:=(t0++t1,2)) ?_ ?_ rfl) ?_
 ·unfold oZ;refine ct rfl ?_;refine bd (a:=x0) rfl ?_;refine bd (a:=false) (act x0 _ _ a0 n0) ?_;refine cf rfl ?_;exact bd d0 rfl
 ·unfold oZ;refine ct rfl ?_;refine bd (a:=x1) rfl ?_;refine bd (a:=false) (act x1 _ _ a1 n1) ?_;refine cf rfl ?_;exact bd d1 rfl
 exact bd (zA9 _ _ (by rw [tot2,xI,xI,Q3];simp only [Qe];omega)) rfl
set_option maxRecDepth 100000
set_option maxRecDepth 100000
def bl (x:By):By:=beN (x.length:Int) 2 2++x
set_option maxRecDepth 100000
def nmB (s:By):Bool:=decide (1<=s.length)&&decide (s.length<=12)&&s.all nameByte
def nameN (n:Nat):Bool:=(decide (97<=n)&&decide (n<=122))||(decide (48<=n)&&decide (n<=57))||decide (n=45)
theorem zUw:∀ n:Nat,n<256->(bif decide ((n:Int)<97) then (bif decide ((n:Int)<48) then (some ((n:Int) != 45)) else bif decide (57<(n:Int)) then (some ((n:Int) != 45)) else some false) else bif decide (122<(n:Int)) then (bif decide ((n:Int)<48) then (some ((n:Int) != 45)) else bif decide (57<(n:Int)) then (some ((n:Int) != 45)) else some false) else some false:Option Bool)=some (!nameN n):=by decide +kernel
theorem zJp (s:By):mA s=some (nmB s):=by
 have hd:Def (mA s) (λr=>r=nmB s):=by
  unfold mA;refine Q0 (P:=λb=>b=(decide (s.length<1)||decide (12<s.length))) ?_ (λb hb=>?_)
  ·refine Q2 (λh=>Q1 ?_) (λh=>Q1 ?_)
   ·have:=dT h;rw [show decide (s.length<1)=true by rw [decide_eq_true_iff];omega];rfl
   ·have:=dF h;rw [show decide (s.length<1)=false by rw [decide_eq_false_iff_not];omega,Bool.false_or];exact decide_eq_decide.2 (by omega)
  refine Q2 (λh=>Q1 ?_) (λh=>?_)
  ·rw [h] at hb;have hb':s.length<1∨12<s.length:=by
    have:=hb.symm;rw [Bool.or_eq_true,decide_eq_true_iff,decide_eq_true_iff] at this;exact this
   unfold nmB;rcases hb' with h1 | h1
   ·rw [show decide (1<=s.length)=false by rw [decide_eq_false_iff_not];omega];rfl
   ·rw [show decide (s.length<=12)=false by rw [decide_eq_false_iff_not];omega,Bool.and_false];rfl
  ·rw [h] at hb;have hb':1<=s.length/\s.length<=12:=by
    have:=hb.symm;rw [Qq,decide_eq_false_iff_not,decide_eq_false_iff_not] at this;omega
   have hn:nmB s=s.all nameByte:=by
    unfold nmB;rw [show decide (1<=s.length)=true by rw [decide_eq_true_iff];omega,show decide (s.length<=12)=true by rw [decide_eq_true_iff];omega];rfl
   rw [hn];refine Q0 (bE s (jQ s) (λi=>∀ h:i<s.length,nameByte s[i]=true) (λr=>r=false/\∃ i,∃ h:i<s.length,nameByte s[i]=false) (by omega) (λi hi=>?_) ?_) (λy hy=>?_)
   ·unfold jQ;refine Q2 (λ_=>?_) (λh=>by have:=dF h;omega);refine Q0 (Def.at' hi) (λc hc=>?_);subst hc;refine Q0 (P:=λb=>b=!nameByte s[i]) (Q4 (zUw s[i].toNat s[i].toNat_lt) rfl) (λb hb=>?_);refine Q2 (λh=>Q1 ⟨rfl,i,hi,?_⟩) (λh=>Q1 ⟨wU (by omega),λ_=>?_⟩)
    ·rw [h] at hb;simpa using hb.symm
    ·rw [h] at hb;simpa using hb.symm
   ·unfold jQ;exact cf (by simp) rfl
   ·cases y with
    | inl r=>
     obtain ⟨rfl,i,hi,hn⟩:=hy;refine Q1 ?_;symm;rw [W5];exact ⟨_,Q5 hi,by simp [hn]⟩
    | inr u=>
     refine Q1 ?_;symm;rw [W7];intro c hc;obtain ⟨i,hi,rfl⟩:=Qf.mp hc;exact hy i hi hi
 obtain ⟨r,hr,rfl⟩:=hd;exact hr
theorem zW6 (s:By):zBw s=some (nmB s):=rfl
def prB (c:UInt8):Bool:=decide (32<=c.toNat)&&decide (c.toNat<=126)
theorem zRi:∀ n:Nat,n<256->(bif decide ((n:Int)<32) then (some true) else some (decide (126<(n:Int))):Option Bool)=some (!(decide (32<=n)&&decide (n<=126))):=by decide +kernel
theorem zL6 (s:By) (hs:s.length<2 ^ 40):uE s=some (s.all prB):=by
 have hd:Def (uE s) (λr=>r=s.all prB):=by
  unfold uE;refine Q0 (bE s (rT s) (λi=>∀ h:i<s.length,prB s[i]=true) (λr=>r=false/\∃ i,∃ h:i<s.length,prB s[i]=false) hs (λi hi=>?_) ?_) (λy hy=>?_)
  ·unfold rT;refine Q2 (λ_=>?_) (λh=>by have:=dF h;omega);refine Q0 (Def.at' hi) (λc hc=>?_);subst hc;refine Q0 (P:=λb=>b=!prB s[i]) (Q4 (zRi s[i].toNat s[i].toNat_lt) rfl) (λb hb=>?_);refine Q2 (λh=>Q1 ⟨rfl,i,hi,?_⟩) (λh=>Q1 ⟨wU (by omega),λ_=>?_⟩)
   ·rw [h] at hb;simpa using hb.symm
   ·rw [h] at hb;simpa using hb.symm
  ·unfold rT;exact cf (by simp) rfl
  ·cases y with
   | inl r=>
    obtain ⟨rfl,i,hi,hn⟩:=hy;refine Q1 ?_;symm;rw [W5];exact ⟨_,Q5 hi,by simp [hn]⟩
   | inr u=>
    refine Q1 ?_;symm;rw [W7];intro c hc;obtain ⟨i,hi,rfl⟩:=Qf.mp hc;exact hy i hi hi
 obtain ⟨r,hr,rfl⟩:=hd;exact hr
def rf:By->List By->By->List By
 | [],out,line=>if line=[] then out else []
 | c :: r,out,line=>if c=10 then (if line=[]∨4<=out.length then [] else rf r (out++[line]) []) else if prB c=true then rf r out (line++[c]) else []
theorem c10 (c:UInt8):((c.toNat:Int)==10)=decide (c=10):=by
 by_cases h:c=10
 ·subst h;rfl
 ·rw [decide_eq_false h,beq_eq_false_iff_ne];intro e;exact h (UInt8.toNat_inj.1 (by
                  have:c.toNat=10:=by omega
                  rw [this];rfl))
theorem zL8 (x:zD) (hx:x.Payload.length<2 ^ 20):∀ (rest:By) (fuel i:Nat) (out:List By) (line:By),rest.length<fuel->x.Payload.drop i=rest->i<=x.Payload.length->out.length<=4->line.length<=i ->
  ∃ y,zP (xO x) fuel (out,line,(i:Int))=some y/\(match y with | .inl r=>r=[]/\rf rest out line=[] | .inr (o,l)=>rf rest out line=if l=[] then o else [])
 | [],f+1,i,out,line,_,hd,hi,_,_=>by
  have hl:i=x.Payload.length:=by
   have:=congrArg Qy hd;simp at this;omega
  refine ⟨.inr (out,line),?_,rfl⟩;simp only [zP];have:xO x (out,line,(i:Int))=some (.inr (.inr (out,line))):=by
   unfold xO;exact cf (by simp;omega) rfl
  rw [this]
 | c :: r,f+1,i,out,line,hf,hd,hi,ho,hll=>by
  have hil:i<x.Payload.length:=by
   have:=congrArg Qy hd;simp at this;omega
  have hc:idx x.Payload (i:Int)=some c:=by
   rw [xH hil];have:=Ql hil;rw [hd] at this;exact congrArg some (List.cons.inj this).1.symm
  have hr:x.Payload.drop (i+1)=r:=by
   have:=Ql hil;rw [hd] at this;exact (List.cons.inj this).2.symm
  simp only [Qc] at hf;simp only [zP];by_cases h10:c=10
  ·by_cases hb:line=[]∨4<=out.length
   ·refine ⟨.inl [],?_,rfl,by simp only [rf,if_pos h10,if_pos hb]⟩;have:xO x (out,line,(i:Int))=some (.inr (.inl [])):=by
     unfold xO;refine ct (dlt hil) (bd (a:=.inl []) (bd hc (ct (by rw [c10];simp [h10]) (bd (a:=true) ?_ (ct rfl rfl)))) rfl);by_cases h0:line=[]
     ·exact ct (by simp [h0]) rfl
     ·refine cf (by simp;exact h0) (congrArg some ?_);have:=hb.resolve_left h0;simp;omega
    rw [this]
   ·obtain ⟨y,hy,hy2⟩:=zL8 x hx r f (i+1) (out++[line]) [] (by omega) hr (by omega) (by have:¬ 4<=out.length:=λh=>hb (.inr h);simp;omega) (by simp);refine ⟨y,?_,?_⟩
    ·have:xO x (out,line,(i:Int))=some (.inl (out++[line],[],((i+1:Nat):Int))):=by
      have hb1:line≠[]:=λh=>hb (.inl h);have hb2:¬ 4<=out.length:=λh=>hb (.inr h);unfold xO;refine ct (dlt hil) (bd (a:=.inr (out++[line],[])) (bd hc (ct (by rw [c10];simp [h10]) (bd (a:=false) (cf (by simp;exact hb1) (congrArg some (by simp;omega))) (cf rfl (bd (yP (by simp;omega)) rfl))))) ?_);rw [wU (show i<2 ^ 40 by omega)]
     rw [this];exact hy
    ·cases y with
     | inl r'=>simp only [rf,if_pos h10,if_neg hb];exact hy2
     | inr p=>simp only [rf,if_pos h10,if_neg hb];exact hy2
  ·have hp:(bif decide ((c.toNat:Int)<32) then (some true) else some (decide (126<(c.toNat:Int))):Option Bool)=some (!prB c):=zRi c.toNat c.toNat_lt;cases hpr:prB c with
   | false=>
    refine ⟨.inl [],?_,rfl,by simp only [rf,if_neg h10,hpr];rfl⟩;have:xO x (out,line,(i:Int))=some (.inr (.inl [])):=by
     unfold xO;refine ct (dlt hil) (bd (a:=.inl []) (bd hc (cf (by rw [c10];simp [h10]) (bd hp (ct (by rw [hpr];rfl) rfl)))) rfl)
    rw [this]
   | true=>
    obtain ⟨y,hy,hy2⟩:=zL8 x hx r f (i+1) out (line++[c]) (by omega) hr (by omega) ho (by simp;omega);refine ⟨y,?_,?_⟩
    ·have:xO x (out,line,(i:Int))=some (.inl (out,line++[c],((i+1:Nat):Int))):=by
      unfold xO;refine ct (dlt hil) (bd (a:=.inr (out,line++[c])) (bd hc (cf (by rw [c10];simp [h10]) (bd hp (cf (by rw [hpr];rfl) (bd (yP (by simp;omega)) rfl))))) ?_);rw [wU (show i<2 ^ 40 by omega)]
     rw [this];exact hy
    ·cases y with
     | inl r'=>simp only [rf,if_neg h10,hpr,if_true];exact hy2
     | inr p=>simp only [rf,if_neg h10,hpr,if_true];exact hy2
theorem zHq (x:zD) (hx:x.Payload.length<2 ^ 20):uB x=some (rf x.Payload [] []):=by
 obtain ⟨y,hy,hy2⟩:=zL8 x hx x.Payload FU 0 [] [] (wM (by omega)) rfl (by omega) (by simp) (by simp);unfold uB;refine bd hy ?_;cases y with
 | inl r=>obtain ⟨rfl,h⟩:=hy2;rw [h]
 | inr p=>
  obtain ⟨o,l⟩:=p;simp only at hy2 ⊢;by_cases hl:l=[]
  ·rw [if_pos hl] at hy2;exact cf (by simp [hl]) (by rw [hy2])
  ·rw [if_neg hl] at hy2;exact ct (by have:=Qs.2 hl;simp;omega) (by rw [hy2])
set_option maxRecDepth 100000
theorem zNm:∀ l:By,(Qo l 10=-1/\(10:UInt8)∉l)∨∃ w r,l=w++10 :: r/\(10:UInt8)∉w/\Qo l 10=(w.length:Int)
 | []=>.inl ⟨rfl,by simp⟩
 | b :: l=>by
  by_cases hb:b=10
  ·subst hb;exact .inr ⟨[],l,rfl,by simp,by simp [Qo]⟩
  ·have hne:(b==10)=false:=by rw [beq_eq_false_iff_ne];exact hb
   rcases zNm l with ⟨h1,h2⟩ | ⟨w,r,h1,h2,h3⟩
   ·refine .inl ⟨by unfold Qo;rw [hne,h1];rfl,?_⟩;simp only [Qj,not_or];exact ⟨λe=>hb e.symm,h2⟩
   ·refine .inr ⟨b :: w,r,by rw [h1];rfl,?_,?_⟩
    ·simp only [Qj,not_or];exact ⟨λe=>hb e.symm,h2⟩
    ·unfold Qo;rw [hne,h3];have:((w.length:Int)==-1)=false:=by rw [beq_eq_false_iff_ne];omega
     simp only [this,Qc];simp
theorem zRl:∀ (w r:By) (out:List By) (line:By),(10:UInt8)∉w->rf (w++10 :: r) out line=if w.all prB=true then (if line++w=[]∨4<=out.length then [] else rf r (out++[line++w]) []) else []
 | [],r,out,line,_=>by simp [rf]
 | c :: w,r,out,line,h=>by
  simp only [Qj,not_or] at h;have hc:¬ c=10:=λe=>h.1 e.symm;simp only [List.cons_append,rf,if_neg hc];rw [zRl w r out (line++[c]) h.2];cases hp:prB c with
  | false=>simp [hp]
  | true=>simp [hp]
theorem zZa:∀ (w:By) (out:List By) (line:By),(10:UInt8)∉w->(w≠[]∨line≠[])->rf w out line=[]
 | [],out,line,_,h=>by simp only [rf];rw [if_neg (by simpa using h)]
 | c :: w,out,line,h,_=>by
  simp only [Qj,not_or] at h;have hc:¬ c=10:=λe=>h.1 e.symm;simp only [rf,if_neg hc];split
  ·exact zZa w out (line++[c]) h.2 (.inr (by simp))
  ·rfl
theorem yB0:∀ (n:Nat) (rest:By) (out:List By) (fuel:Nat),rest.length<=n->n<fuel->out.length<=4->rest.length<2 ^ 20 ->
  ∃ y,zP wX fuel (out,rest)=some y/\(match y with | .inl r=>r=[]/\rf rest out []=[] | .inr o=>rf rest out []=o):=by
 intro n;induction n with
 | zero=>
  intro rest out fuel hn hf ho hl;obtain ⟨f,rfl⟩:∃ f,fuel=f+1:=⟨fuel - 1,by omega⟩;have:rest=[]:=List.eq_nil_of_length_eq_zero (by omega);subst this;refine ⟨.inr out,?_,rfl⟩;simp only [zP];have:wX (out,[])=some (.inr (.inr out)):=by unfold wX;exact cf rfl rfl
  rw [this]
 | succ n ih=>
  intro rest out fuel hn hf ho hl;obtain ⟨f,rfl⟩:∃ f,fuel=f+1:=⟨fuel - 1,by omega⟩;by_cases h0:rest=[]
  ·subst h0;refine ⟨.inr out,?_,rfl⟩;simp only [zP];have:wX (out,[])=some (.inr (.inr out)):=by unfold wX;exact cf rfl rfl
   rw [this]
  have hpos:0<rest.length:=Qs.2 h0;simp only [zP];have bad:∀ (v:Int),tV rest 10=some v->((bif decide (v<1) then (some true) else bif ((out.length:Int)==4) then (some true) else (sub rest 0 v).bind λv_1130=>(uE v_1130).bind λv_1131=>some (!v_1131):Option Bool)=some true)->wX (out,rest)=some (.inr (.inl [])):=by
   intro v hv hc;unfold wX;exact ct (by simp;omega) (bd hv (bd hc (ct rfl rfl)))
  rcases zNm rest with ⟨h1,h2⟩ | ⟨w,r,h1,h2,h3⟩
  ·refine ⟨.inl [],?_,rfl,zZa rest out [] h2 (.inl h0)⟩;rw [bad (-1) (by unfold tV;rw [h1]) (ct rfl rfl)]
  ·have hlen:rest.length=w.length+1+r.length:=by rw [h1];simp;omega
   have hib:tV rest 10=some (w.length:Int):=by unfold tV;rw [h3]
   have htk:(rest.drop 0).take (w.length - 0)=w:=by rw [h1];simp
   have hsub:sub rest 0 (w.length:Int)=some w:=by
    have:=lI (l:=rest) (a:=0) (b:=w.length) (Nat.zero_le _) (by omega);rw [htk] at this;exact this
   have hpr:=zL6 w (by omega);have hrf:=zRl w r out [] h2;rw [<- h1,Qr] at hrf;by_cases hw:w=[]
   ·refine ⟨.inl [],?_,rfl,?_⟩
    ·rw [bad _ hib (ct (by simp [hw]) rfl)]
    ·rw [hrf,if_pos (show w=[]∨4<=out.length from .inl hw)];simp
   have hw1:0<w.length:=Qs.2 hw;by_cases h4:out.length=4
   ·refine ⟨.inl [],?_,rfl,?_⟩
    ·rw [bad _ hib (cf (by simp;omega) (ct (by simp [h4]) rfl))]
    ·rw [hrf,if_pos (show w=[]∨4<=out.length from .inr (by omega))];simp
   have hstep:(sub rest 0 (w.length:Int)).bind (λv_1130=>(uE v_1130).bind λv_1131=>some (!v_1131))=some (!w.all prB):=bd hsub (bd hpr rfl);cases hp:w.all prB with
   | false=>
    refine ⟨.inl [],?_,rfl,by rw [hrf,hp];rfl⟩;rw [bad _ hib (cf (by simp;omega) (cf (by simp;omega) (hstep.trans (by rw [hp];rfl))))]
   | true=>
    obtain ⟨y,hy,hy2⟩:=ih r (out++[w]) f (by omega) (by omega) (by simp;omega) (by omega);have hr2:(rest.drop (w.length+1)).take (rest.length - (w.length+1))=r:=by
     rw [Q6 (by simp)];rw [h1];simp
    have hsub2:sub rest (((w.length+1:Nat)):Int) (rest.length:Int)=some r:=by
     have:=lI (l:=rest) (a:=w.length+1) (b:=rest.length) (by omega) (Qg _);rw [hr2] at this;exact this
    have:wX (out,rest)=some (.inl (out++[w],r)):=by
     unfold wX;refine ct (by simp;omega) (bd hib (bd (a:=false) (cf (by simp;omega) (cf (by simp;omega) (hstep.trans (by rw [hp];rfl)))) (cf rfl ?_)));refine bd hsub (bd (yP (by simp;omega)) ?_);rw [wU (show w.length<2 ^ 40 by omega)];exact bd hsub2 rfl
    rw [this];refine ⟨y,hy,?_⟩;rw [hrf,hp,if_pos rfl,if_neg (show ¬ (w=[]∨4<=out.length) by rintro (h | h);exact hw h;omega)];exact hy2
theorem zJa (x:zD) (hx:x.Payload.length<2 ^ 20):jU x=uB x:=by
 rw [zHq x hx];obtain ⟨y,hy,hy2⟩:=yB0 x.Payload.length x.Payload [] FU (Qg _) (wM (by omega)) (by simp) hx;unfold jU;refine bd hy ?_;cases y with
 | inl r=>obtain ⟨rfl,h⟩:=hy2;rw [h]
 | inr o=>simp only at hy2 ⊢;rw [hy2]
theorem zEb (x:zD):rM x=vR x:=by
 unfold rM vR;rw [zJp,zW6];refine congrArg _ (funext λv=>?_);cases v with
 | true=>rfl
 | false=>
  simp only [Qv,cond_false];cases nmB x.Name with
  | false=>rfl
  | true=>
   simp only [Bool.not_true,cond_false];cases h:decide (64<(x.Payload.length:Int)) with
   | true=>rfl
   | false=>
    rw [decide_eq_false_iff_not] at h;rw [zJa x (by omega)]
theorem zGm (x:zD):Def (vR x) (λr=>0<=r/\(r=0->1<=x.Role/\x.Role<=4/\0<=x.Version/\x.Version<=1000000/\x.Name.length<=12/\x.Payload.length<=64)):=by
 unfold vR;refine Q0 (P:=λb=>b=(decide (x.Role<1)||decide (4<x.Role)||decide (x.Version<0)||decide (1000000<x.Version))) ?_ (λb hb=>?_)
 ·cases h1:decide (x.Role<1)<;>cases h2:decide (4<x.Role)<;>cases h3:decide (x.Version<0)<;>exact Q1 (by simp)
 refine Q2 (λh=>Q1 ⟨by decide,λh=>by cases h⟩) (λh=>?_);rw [h] at hb;have hb:=hb.symm;simp only [Qq,decide_eq_false_iff_not] at hb;refine Q0 (Q4 (zJp x.Name) (Q:=λr=>r=nmB x.Name) rfl) (λn hn=>?_);subst hn;refine Q2 (λh=>Q1 ⟨by decide,λh=>by cases h⟩) (λhn=>?_);refine Q2 (λh=>Q1 ⟨by decide,λh=>by cases h⟩) (λh=>?_);rw [decide_eq_false_iff_not] at h;refine Q0 (P:=λ_=>True) ?_ (λb _=>?_)
 ·refine Q2 (λ_=>Q0 (Q4 (zHq x (by omega)) (Q:=λ_=>True) trivial) (λ_ _=>Q1 trivial)) (λ_=>Q1 trivial)
 refine Q2 (λh=>Q1 ⟨by decide,λh=>by cases h⟩) (λ_=>Q1 ⟨by decide,λ_=>⟨by omega,by omega,by omega,by omega,?_,by omega⟩⟩);simp only [Bool.not_eq_false',nmB,Bool.and_eq_true,decide_eq_true_iff] at hn;exact hn.1.2
end Go.Proofs.TT
