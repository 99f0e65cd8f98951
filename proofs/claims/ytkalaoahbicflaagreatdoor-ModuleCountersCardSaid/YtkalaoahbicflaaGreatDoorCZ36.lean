/- A part. -/
import Derived.Test.YtkalaoahbicflaaGreatDoorCZ35
set_option maxRecDepth 100000
set_option linter.all false
open Go.Sw.Def renaming bd -> Q0, s -> Q2, of -> Q9, c -> Qe, lt -> Qk, loop -> Qy, ck -> W0, ixN -> W1, app -> W7
open Nat renaming zero_le -> Q1, le_refl -> Qq
open List renaming not_mem_nil -> Q3, mem_cons -> Q4, length_cons -> Q6, length_take -> Q7, length_append -> Q8, length_nil -> Qc, all_eq_true -> Qd, replicate -> Qf, take_length -> Qg, mem_iff_getElem -> Qj, length_set -> Ql, mem_or_eq_of_mem_set -> Qm, filter_append -> Qn, filter_eq_self -> Qo, drop_drop -> Qp, take_add_one -> Qr, length_drop -> Qs, take_of_length_le -> Qu, length_filter_le -> Qv, mem_cons_of_mem -> Qw, mem_of_mem_take -> Qx, nodup_append -> W2, mem_filter -> W4, mem_append -> W5, length_map -> W6, map_cons -> Wa, mem_map -> Wb
open Int renaming eq_ofNat_of_zero_le -> Q5, toNat_natCast -> Qa, tmod -> Qh, tdiv -> Qt, tmod_lt_of_pos -> Qz
open Go.IntKind renaming i64 -> Qb
open Bool renaming and_eq_true -> Qi, or_eq_true -> W3, true_and -> W8, not_true -> W9
namespace Go.Sw
open Go
def zCz {α:Type} (l:List α) (p:α->Bool) {step:Bool×Int->Option ((Bool×Int) ⊕ Bool)} (G:l.length<2 ^ 40) (F:∀ i (h:i<l.length) f,step (f,(i:Int))=some (.inl (f&&p l[i],((i+1:Nat):Int)))) (D:∀ f,step (f,(l.length:Int))=some (.inr f)) (f:Bool):zP step FU (f,0)=some (f&&l.all p):=by
 refine yF l.length (λi=>(f&&(l.take i).all p,(i:Int))) jk (λi z=>?_) ?_ (xJ jh)
 ·rw [F i z,Go.Proofs.TT.all_take z,Bool.and_assoc]
 ·rw [D,Qg]
def aJ {α R:Type} (l:List α) (d:α) (p:α->Bool) {step:Int->Option (Int ⊕ (R ⊕ Unit))} {v:R} (I:l.length<2 ^ 40) (H:∀ i (h:i<l.length),step (i:Int)=some (bif p (l.getD i d) then .inl ((i+1:Nat):Int) else .inr (.inl v))) (K:step (l.length:Int)=some (.inr (.inr ()))):zP step FU 0=some (bif l.all p then .inr () else .inl v):=by
 have e:=Go.Proofs.TT.fst_any l d (λx=>!p x);rw [sZ _ l.length (λ_=>v) I (λi F=>⟨λg=>?_,λg=>?_⟩) K]
 ·have J:l.all p=!l.any (λx=>!p x):=by rw [List.not_any_eq_all_not];simp
  rw [J,<- e];cases fst _ l.length 0<;>rfl
 ·simp_all
 simp_all
end Go.Sw
namespace Go.Proofs.TT
open Go Go.Sw
variable {b:By}{e f:Int}{i:List Int}{m:Int}{n:Nat}{q:zC}{s t u:zB}{x:By}
def shT:List (A4 Int×Bool):=(List.range 34).map λ(n:Nat)=>(iT (n:Int)).getD (⟨0,0,0,0⟩,false)
def shD:A4 Int×Bool:=(⟨0,0,0,0⟩,false)
def shp (c:Int):A4 Int×Bool:=if 0<=c/\c<=33 then shT.getD c.toNat shD else shD
def yJh:∀ n:Fin 34,iT (n.val:Int)=some (shT.getD n.val shD)/\oZ (n.val:Int)=some ((shT.getD n.val shD).1.a0,(shT.getD n.val shD).1.a1,(shT.getD n.val shD).1.a2,(shT.getD n.val shD).1.a3,(shT.getD n.val shD).2):=by decide +kernel
def yB7:∀ i:Fin 32,0<=(rF.getD i.val default).code_/\(rF.getD i.val default).code_<=33:=by decide +kernel
def zU5 (c:Int):iT c=some (shp c):=by
 unfold shp;by_cases h:0<=c/\c<=33
 ·rw [if_pos h];obtain ⟨n,rfl⟩:=Q5 h.1;exact (yJh ⟨n,jh⟩).1
 ·rw [if_neg h];refine bd rfl (bd (ckT rfl) (bd (a:=true) ?_ rfl));by_cases g:c<0
  ·exact ct (decide_eq_true g) rfl
  ·exact cf (decide_eq_false g) (ct (decide_eq_true jh) rfl)
def zUt (c:Int):oZ c=some ((shp c).1.a0,(shp c).1.a1,(shp c).1.a2,(shp c).1.a3,(shp c).2):=by
 unfold shp;by_cases h:0<=c/\c<=33
 ·rw [if_pos h];obtain ⟨n,rfl⟩:=Q5 h.1;exact (yJh ⟨n,jh⟩).2
 ·rw [if_neg h];refine bd (a:=.inr ()) (yF 32 (λi=>(i:Int)) rfl (λi A=>?_) rfl (xJ ji)) rfl;have E:=yB7 ⟨i,A⟩;refine ct (decide_eq_true jh) (bd (vT (d:=default) (show i<rF.length from A)) (cf (c1' (λe=>h ?_)) ?_))
  ·rw [<- e];exact E
  ·rw [yO jh]
def wrd (n:Int):Bool:=decide (0<=n)&&decide (n<=65535)
def inr (n:Int):Bool:=decide (0<=n)&&decide (n<=1099511627776)
def cnb (n want:Int):Bool:=(n==want)||(decide (want<0)&&decide (n<=8))
def auL (a:zJ):Bool:=decide ((a.Nonce.length:Int)<=128)&&decide ((a.Value.length:Int)<=128)
def blL (b:By):Bool:=decide ((b.length:Int)<=1024)
def fH:List Int->By->By
 | [],b=>b
 | x :: l,b=>fH l (wW b 2 x)
def fA:List zJ->By->By
 | [],b=>b
 | x :: l,b=>fA l (wE (wE (wW b 2 x.Session) x.Nonce) x.Value)
def fB:List By->By->By
 | [],b=>b
 | x :: l,b=>fB l (wE b x)
def fm0 (q:zC):By:=fB q.Blobs (igs q.Ints (fA q.Auths (fH q.Handles [83,87,0,0,u8 q.Code]))++[u8 (q.Blobs.length:Int)])
def zK3 (q:zC):Bool:=((q.Handles.length:Int)==(shp q.Code).1.a0)&&(((q.Auths.length:Int)==(shp q.Code).1.a1)&&(((q.Ints.length:Int)==(shp q.Code).1.a2)&&cnb (q.Blobs.length:Int) (shp q.Code).1.a3))
def zGt (q:zC):Bool:=((zK3 q&&q.Handles.all wrd)&&q.Auths.all (λa=>wrd a.Session))&&q.Ints.all inr
def zEk (q:zC):Bool:=q.Auths.all auL&&q.Blobs.all blL
def ckV (q:zC):Int:=bif !(shp q.Code).2 then 6 else bif !zGt q then 1 else bif !zEk q||decide (2048<((fm0 q).length:Int)) then 4 else 0
structure RqL (q:zC):Prop where
 h:q.Handles.length<2 ^ 40
 a:q.Auths.length<2 ^ 40
 i:q.Ints.length<2 ^ 40
 b:q.Blobs.length<2 ^ 40
def zIx (n:Int):eL n=some (wrd n):=by exact bd (oA _ _) rfl
def zOr (n:Int):fY n=some (wrd n):=zIx n
def yG2 (n g:Int):nK n g=some (cnb n g):=by
 exact bd (oO' λ_=>oA _ _) rfl
def yP5 (c:Int):(shp c).1.a3<0->(shp c).1.a3=-1:=by
 unfold shp;by_cases h:0<=c/\c<=33
 ·rw [if_pos h];obtain ⟨n,rfl⟩:=Q5 h.1;have A:∀ n:Fin 34,(shT.getD n.val shD).1.a3<0->(shT.getD n.val shD).1.a3=-1:=by decide +kernel
  exact A ⟨n,jh⟩
 ·rw [if_neg h];decide
def zYe (n:Nat) (c:Int):zEz (shp c).1.a3 (n:Int)=some (cnb (n:Int) (shp c).1.a3):=by
 refine bd (oO' λ_=>?_) rfl;by_cases h:(shp c).1.a3=-1
 ·simp_all
 ·have:=λq=>h (yP5 c q);rw [decide_eq_false this];exact cf (c1' h) rfl
def zHl (h:zGt q=true):zK3 q=true/\(∀ x∈q.Handles,0<=x/\x<=65535)/\(∀ a∈q.Auths,0<=a.Session/\a.Session<=65535)/\(∀ x∈q.Ints,0<=x/\x<=1099511627776):=by
 unfold zGt at h;simp only [Qi] at h;obtain ⟨⟨⟨A,F⟩,G⟩,E⟩:=h;refine ⟨A,λx z=>?_,λa D=>?_,λx z=>?_⟩
 ·have:=Qd.1 F x z;unfold wrd at this;simp_all
 ·have:=Qd.1 G a D;unfold wrd at this;simp at this;exact this
 ·have:=Qd.1 E x z;unfold inr at this;simp_all
def zTb (h:zEk q=true):(∀ a∈q.Auths,a.Nonce.length<=128/\a.Value.length<=128)/\(∀ b∈q.Blobs,b.length<=1024):=by
 unfold zEk at h;simp only [Qi] at h;refine ⟨λa A=>?_,λb z=>?_⟩
 ·have:=Qd.1 h.1 a A;unfold auL at this;simp at this;omega
 ·have:=Qd.1 h.2 b z;unfold blL at this;simp at this;omega
def yO8 (c:Int):(shp c).1.a0<=2/\(shp c).1.a1<=1/\(shp c).1.a2<=6/\(shp c).1.a3<=3:=by
 unfold shp;by_cases h:0<=c/\c<=33
 ·rw [if_pos h];obtain ⟨n,rfl⟩:=Q5 h.1;have z:∀ n:Fin 34,(shT.getD n.val shD).1.a0<=2/\(shT.getD n.val shD).1.a1<=1/\(shT.getD n.val shD).1.a2<=6/\(shT.getD n.val shD).1.a3<=3:=by decide +kernel
  exact z ⟨n,jh⟩
 ·rw [if_neg h];decide
def zS2 (h:zK3 q=true):(q.Handles.length:Int)=(shp q.Code).1.a0/\(q.Auths.length:Int)=(shp q.Code).1.a1/\(q.Ints.length:Int)=(shp q.Code).1.a2/\((q.Blobs.length:Int)=(shp q.Code).1.a3∨((shp q.Code).1.a3<0/\q.Blobs.length<=8)):=by
 unfold zK3 cnb at h;simp only [Qi,W3,beq_iff_eq,decide_eq_true_eq] at h;omega
def zHx (h:zK3 q=true):q.Handles.length<=2/\q.Auths.length<=1/\q.Ints.length<=6/\q.Blobs.length<=8:=by
 have:=zS2 h;have:=yO8 q.Code;omega
def zLh:∀ (l:List Int) (b:By),(fH l b).length=b.length+2*l.length
 | [],b=>by rfl
 | x :: l,b=>by rw [fH,zLh l,yL,Q6];omega
def rH (b x:By) (n:Nat) (h:x.length<=n):(wE b x).length<=b.length+2+n:=by
 unfold wE;simp only [Q8,yL,Q7];omega
def zZ9:∀ (l:List zJ) (b:By),(∀ a∈l,a.Nonce.length<=128/\a.Value.length<=128)->(fA l b).length<=b.length+262*l.length
 | [],b,_=>by simp [fA]
 | x :: l,b,h=>by
  have A:=h x jk;have:=zZ9 l (wE (wE (wW b 2 x.Session) x.Nonce) x.Value) (λy D=>h y (Qw _ D));have G:=rH (wW b 2 x.Session) _ 128 A.1;have F:=rH (wE (wW b 2 x.Session) x.Nonce) _ _ A.2;have E:=yL b 2 x.Session;rw [fA,Q6];omega
def yDr:∀ (l:List By) (b:By),(∀ x∈l,x.length<=1024)->(fB l b).length<=b.length+1026*l.length
 | [],b,_=>by simp [fB]
 | x :: l,b,h=>by
  have:=yDr l (wE b x) (λy A=>h y (Qw _ A));have D:=rH b x _ (h x jk);rw [fB,Q6];omega
def zSg {l:List Int} {i:Nat} (h:i<l.length):fH (l.take (i+1)) b=wW (fH (l.take i) b) 2 l[i]:=by
 induction l generalizing b i with
 | nil=>simp at h
 | cons x l E=>
  cases i with
  | zero=>rfl
  | succ i=>
   exact E _
def zR5 {l:List zJ} {i:Nat} (h:i<l.length):fA (l.take (i+1)) b=wE (wE (wW (fA (l.take i) b) 2 l[i].Session) l[i].Nonce) l[i].Value:=by
 induction l generalizing b i with
 | nil=>simp at h
 | cons x l G=>
  cases i with
  | zero=>rfl
  | succ i=>
   exact G _
def zK5 {l:List By} {i:Nat} (h:i<l.length):fB (l.take (i+1)) b=wE (fB (l.take i) b) l[i]:=by
 induction l generalizing b i with
 | nil=>simp at h
 | cons x l E=>
  cases i with
  | zero=>rfl
  | succ i=>
   exact E _
def iI {α:Type} (l:List α) (F:List α->By->By) (b:By) {step:By×Int->Option ((By×Int) ⊕ By)} (G:l.length<2 ^ 40) (A:F [] b=b) (hs:∀ i (h:i<l.length),step (F (l.take i) b,(i:Int))=some (.inl (F (l.take (i+1)) b,((i+1:Nat):Int)))) (E:∀ x,step (x,(l.length:Int))=some (.inr x)):zP step FU (b,0)=some (F l b):=by
 refine yF _ _ (by simp [A]) (λi D=>hs i D) ?_ (xJ jh);simp_all
def hd5 (q:zC):By:=[83,87,0,0,u8 q.Code]
def yJ2 (I:zGt q=true) (G:zEk q=true):(∀ i,(fH (q.Handles.take i) (hd5 q)).length<=9)/\(∀ i,(fA (q.Auths.take i) (fH q.Handles (hd5 q))).length<=271)/\(∀ i,(igs (q.Ints.take i) (fA q.Auths (fH q.Handles (hd5 q)))).length<=319)/\(∀ i,(fB (q.Blobs.take i) (igs q.Ints (fA q.Auths (fH q.Handles (hd5 q)))++[u8 (q.Blobs.length:Int)])).length<=8528):=by
 obtain ⟨H,_,_,_⟩:=zHl I;obtain ⟨K,b1⟩:=zTb G;obtain ⟨N,L,R,S⟩:=zHx H;have T:(hd5 q).length=5:=rfl;have s1:∀ i,(fH (q.Handles.take i) (hd5 q)).length<=9:=λi=>by rw [zLh,Q7];omega
 have E:=zLh q.Handles (hd5 q);have s2:∀ i,(fA (q.Auths.take i) (fH q.Handles (hd5 q))).length<=271:=λi=>by
  have:=zZ9 (q.Auths.take i) (fH q.Handles (hd5 q)) (λa A=>K a (Qx A));rw [Q7] at this;omega
 have J:(fA q.Auths (fH q.Handles (hd5 q))).length<=271:=by have:=s2 q.Auths.length;rwa [Qg] at this
 have D:∀ i,(igs (q.Ints.take i) (fA q.Auths (fH q.Handles (hd5 q)))).length<=319:=λi=>by rw [zBe,Q7];omega
 have F:=by have:=D q.Ints.length;rwa [Qg] at this
 refine ⟨s1,s2,D,λi=>?_⟩;have:=yDr (q.Blobs.take i) (igs q.Ints (fA q.Auths (fH q.Handles (hd5 q)))++[u8 (q.Blobs.length:Int)]) (λa A=>b1 a (Qx A));rw [Q7,Q8] at this;simp only [Q6,Qc] at this;omega
def zMq (q:zC):5<=(fm0 q).length:=by
 have A:∀ (l:List zJ) (b:By),b.length<=(fA l b).length:=by
  intro l;induction l with
  | nil=>intro b;exact Qq _
  | cons x l E=>intro b;have:=E (wE (wE (wW b 2 x.Session) x.Nonce) x.Value);rw [fA];unfold wE at *;simp only [Q8,yL] at *;omega
 have z:∀ (l:List By) (b:By),b.length<=(fB l b).length:=by
  intro l;induction l with
  | nil=>intro b;exact Qq _
  | cons x l E=>intro b;have:=E (wE b x);rw [fB];unfold wE at *;simp only [Q8,yL] at *;omega
 have G:=z q.Blobs (igs q.Ints (fA q.Auths (fH q.Handles [83,87,0,0,u8 q.Code]))++[u8 (q.Blobs.length:Int)]);have J:=A q.Auths (fH q.Handles [83,87,0,0,u8 q.Code]);have I:=zLh q.Handles [83,87,0,0,u8 q.Code];have H:=zBe q.Ints (fA q.Auths (fH q.Handles [83,87,0,0,u8 q.Code]));unfold fm0;rw [Q8] at G;simp only [Q6,Qc] at *;omega
def zX8 (J:zGt q=true) (L:zEk q=true):∃ b,zAs q=some b/\b.length=(fm0 q).length:=by
 obtain ⟨s1,s2,I,R⟩:=yJ2 J L;obtain ⟨K,_,_,_⟩:=zHl J;obtain ⟨l1,S,l3,l4⟩:=zHx K;have N:(igs q.Ints (fA q.Auths (fH q.Handles (hd5 q)))).length<=319:=by have:=I q.Ints.length;rwa [Qg] at this
 have T:=zMq q;refine ⟨((fm0 q).set 2 (u8 (xT .i64 ((fm0 q).length:Int) 8))).set 3 (u8 ((fm0 q).length:Int)),?_,jk⟩;unfold zAs;refine bd (a:=fH q.Handles (hd5 q)) ?_ (bd (a:=fA q.Auths (fH q.Handles (hd5 q))) ?_ (bd (a:=igs q.Ints (fA q.Auths (fH q.Handles (hd5 q)))) ?_ (bd (yC jl) (bd (a:=fm0 q) ?_ ?_))))
 ·refine iI q.Handles fH (hd5 q) jh rfl (λi z=>?_) (λx=>?_)
  ·unfold bN;have:=s1 i;refine ct (decide_eq_true jh) (bd (yX z) (bd (uI _ 2 _ ji ji jh) ?_));rw [yO jh,zSg z]
  ·unfold bN;exact cf (decide_eq_false jh) rfl
 ·refine iI q.Auths fA _ jh rfl (λi z=>?_) (λx=>?_)
  ·unfold bH;have:=s2 i;have hn:=yL (fA (q.Auths.take i) (fH q.Handles (hd5 q))) 2 q.Auths[i].Session;have hb:=vF (wW (fA (q.Auths.take i) (fH q.Handles (hd5 q))) 2 q.Auths[i].Session) q.Auths[i].Nonce;refine ct (decide_eq_true jh) (bd (yX z) (bd (uI _ 2 _ ji ji jh) (bd (yX z) (bd (tY _ _ jh) (bd (yX z) (bd (tY _ _ jh) ?_))))));rw [yO jh,zR5 z]
  ·unfold bH;exact cf (decide_eq_false jh) rfl
 ·refine iI q.Ints igs _ jh rfl (λi z=>?_) (λx=>?_)
  ·unfold bO;have:=I i;refine ct (decide_eq_true jh) (bd (yX z) (bd (uI _ 8 _ ji ji jh) ?_));rw [yO jh,zFy z]
  ·unfold bO;exact cf (decide_eq_false jh) rfl
 ·refine iI q.Blobs fB _ jh rfl (λi z=>?_) (λx=>?_)
  ·unfold bD;have:=R i;refine ct (decide_eq_true jh) (bd (yX z) (bd (tY _ _ jh) ?_));rw [yO jh,zK5 z]
  ·unfold bD;exact cf (decide_eq_false jh) rfl
 ·refine bd (a:=2) (by simp [ixN];omega) (bd (a:=(fm0 q).set 2 (u8 (xT .i64 ((fm0 q).length:Int) 8))) (by simp [wY];omega) (bd (a:=3) (by simp [ixN];omega) (bd (a:=((fm0 q).set 2 (u8 (xT .i64 ((fm0 q).length:Int) 8))).set 3 (u8 ((fm0 q).length:Int))) (by simp [wY];omega) rfl)))
def zV6 (H:zGt q=true) (K:zEk q=true):∃ b,jY q=some b/\b.length=(fm0 q).length:=by
 obtain ⟨s1,s2,F,J⟩:=yJ2 H K;obtain ⟨L,_,_,_⟩:=zHl H;obtain ⟨W,S,R,V⟩:=zHx L;have I:(igs q.Ints (fA q.Auths (fH q.Handles (hd5 q)))).length<=319:=by have:=F q.Ints.length;rwa [Qg] at this
 have T:=zMq q;refine ⟨cpA (fm0 q) 2 2 (wW [] 2 ((fm0 q).length:Int)),?_,zTd (zLg jh) rfl⟩;unfold jY;refine bd (ckT rfl) (bd (a:=vI) rfl (bd (a:=hd5 q) rfl (bd (a:=fH q.Handles (hd5 q)) ?_ (bd (a:=fA q.Auths (fH q.Handles (hd5 q))) ?_ (bd (a:=igs q.Ints (fA q.Auths (fH q.Handles (hd5 q)))) ?_ (bd (yC jl) (bd (a:=fm0 q) ?_ ?_)))))))
 ·refine iI q.Handles fH (hd5 q) jh rfl (λi z=>?_) (λx=>?_)
  ·unfold jD;have:=s1 i;refine ct (decide_eq_true jh) (bd (yX z) (bd (rK _ 2 _ ji ji jh) ?_));rw [yO jh,zSg z]
  ·unfold jD;exact cf (decide_eq_false jh) rfl
 ·refine iI q.Auths fA _ jh rfl (λi z=>?_) (λx=>?_)
  ·unfold kY;have:=s2 i;have U:=yL (fA (q.Auths.take i) (fH q.Handles (hd5 q))) 2 q.Auths[i].Session;have N:=vF (wW (fA (q.Auths.take i) (fH q.Handles (hd5 q))) 2 q.Auths[i].Session) q.Auths[i].Nonce;refine ct (decide_eq_true jh) (bd (yX z) (bd (rK _ 2 _ ji ji jh) (bd (pX _ _ jh) (bd (pX _ _ jh) ?_))));rw [yO jh,zR5 z]
  ·unfold kY;exact cf (decide_eq_false jh) rfl
 ·refine iI q.Ints igs _ jh rfl (λi z=>?_) (λx=>?_)
  ·unfold jF;have:=F i;refine ct (decide_eq_true jh) (bd (yX z) (bd (rK _ 8 _ ji ji jh) ?_));rw [yO jh,zFy z]
  ·unfold jF;exact cf (decide_eq_false jh) rfl
 ·refine iI q.Blobs fB _ jh rfl (λi z=>?_) (λx=>?_)
  ·unfold kX;have:=J i;refine ct (decide_eq_true jh) (bd (yX z) (bd (pX _ _ jh) ?_));rw [yO jh,zK5 z]
  ·unfold kX;exact cf (decide_eq_false jh) rfl
 ·exact bd (ckT (zLg jh)) (bd (rK [] 2 _ ji ji ji) (bd (ckT (zLg jh)) rfl))
def zT9 (k:RqL q):jP q=some (ckV q):=by
 have kh:=k.h;have ka:=k.a;have ki:=k.i;have kb:=k.b;unfold jP ckV;refine bd (zUt _) ?_;dsimp only;cases (shp q.Code).2
 case false=>rfl
 refine cf rfl (bd (a:=zK3 q) (oA' λ_=>oA' λ_=>oA' λ_=>bd (yG2 _ _) rfl) ?_);refine bd (zCz q.Handles wrd kh (λi hi f=>?_) (λf=>?_) _) ?_
 ·unfold kO;refine ct (decide_eq_true jh) (bd (yX hi) (bd (oA' λ_=>bd (zIx _) rfl) ?_));rw [yO jh]
 ·unfold kO;exact cf (decide_eq_false jh) rfl
 refine bd (zCz q.Auths (λa=>wrd a.Session) ka (λi hi f=>?_) (λf=>?_) _) ?_
 ·unfold jC;refine ct (decide_eq_true jh) (bd (yX hi) (bd (oA' λ_=>bd (zIx _) rfl) ?_));rw [yO jh]
 ·unfold jC;exact cf (decide_eq_false jh) rfl
 refine bd (zCz q.Ints inr ki (λi hi f=>?_) (λf=>?_) _) ?_
 ·unfold jK;refine ct (decide_eq_true jh) (bd (yX hi) (bd (oA' λ_=>oA _ _) ?_));rw [yO jh];rfl
 ·unfold jK;exact cf (decide_eq_false jh) rfl
 show (bif !zGt q then _ else (zP (pY q) FU (zGt q,0)).bind _)=_;cases h2:zGt q
 case false=>rfl
 refine cf rfl ?_;refine bd (zCz q.Auths auL ka (λi hi f=>?_) (λf=>?_) _) ?_
 ·unfold pY;refine ct (decide_eq_true jh) (bd (yX hi) (bd (oA' λ_=>oA _ _) ?_));rw [yO jh];rfl
 ·unfold pY;exact cf (decide_eq_false jh) rfl
 refine bd (zCz q.Blobs blL kb (λi hi f=>?_) (λf=>?_) _) ?_
 ·unfold kV;refine ct (decide_eq_true jh) (bd (yX hi) (bd (oA _ _) ?_));rw [yO jh];rfl
 ·unfold kV;exact cf (decide_eq_false jh) rfl
 rw [W8];show Option.bind (bif !zEk q then _ else _) _=_;cases h3:zEk q
 case false=>rfl
 obtain ⟨b,e,hl⟩:=zV6 h2 h3;refine bd (a:=decide (2048<((fm0 q).length:Int))) (cf rfl (bd e (by rw [hl]))) ?_;simp only [W9,cond_false,Bool.false_or];cases decide (2048<((fm0 q).length:Int))<;>rfl
def yB0 (a b:Bool):(!(a&&b))=(!a||!b):=by cases a<;>rfl
def zQ6 (k:RqL q):cX q=some (ckV q):=by
 have kh:=k.h;have ka:=k.a;have ki:=k.i;have kb:=k.b;unfold cX ckV;refine bd (zU5 _) ?_;dsimp only;cases (shp q.Code).2
 case false=>rfl
 refine cf rfl (bd (a:=!zK3 q) ?_ ?_)
 ·unfold zK3;rw [yB0,yB0,yB0];exact oO' λ_=>oO' λ_=>oO' λ_=>bd (zYe _ _) rfl
 unfold zGt;cases h1:zK3 q
 case false=>rfl
 refine cf rfl (bd (aJ q.Handles 0 wrd kh (v:=(1:Int)) (λi hi=>?_) ?_) ?_)
 ·unfold dD;refine ct (decide_eq_true jh) (bd (vT (d:=0) hi) (bd (zOr _) ?_));rw [yO jh];cases wrd (q.Handles.getD i 0)<;>rfl
 ·unfold dD;exact cf (decide_eq_false jh) rfl
 cases g1:q.Handles.all wrd
 case false=>rfl
 refine bd (aJ q.Auths default (λa=>wrd a.Session) ka (v:=(1:Int)) (λi hi=>?_) ?_) ?_
 ·unfold dW;refine ct (decide_eq_true jh) (bd (vT (d:=default) hi) (bd (zOr _) ?_));rw [yO jh];cases wrd (q.Auths.getD i default).Session<;>rfl
 ·unfold dW;exact cf (decide_eq_false jh) rfl
 cases g2:q.Auths.all (λa=>wrd a.Session)
 case false=>rfl
 refine bd (aJ q.Ints 0 inr ki (v:=(1:Int)) (λi hi=>?_) ?_) ?_
 ·unfold dH;refine ct (decide_eq_true jh) (bd (a:=!inr (q.Ints.getD i 0)) (bd (vT (d:=0) hi) ?_) ?_)
  ·have e:(!inr (q.Ints.getD i 0))=(decide (q.Ints.getD i 0<0)||decide (1099511627776<q.Ints.getD i 0)):=by
    unfold inr;rw [yB0,<- decide_not,<- decide_not];exact congr (congrArg _ (decide_eq_decide.2 jh)) (decide_eq_decide.2 jh)
   rw [e];exact oO' λ_=>bd (vT (d:=0) hi) rfl
  ·rw [yO jh];cases inr (q.Ints.getD i 0)<;>rfl
 ·unfold dH;exact cf (decide_eq_false jh) rfl
 cases g3:q.Ints.all inr
 case false=>rfl
 have h2:zGt q=true:=by unfold zGt;rw [h1,g1,g2,g3];rfl
 show ((zBk q).bind λv=>bif v then some 4 else some 0)=some (bif !zEk q||decide (2048<((fm0 q).length:Int)) then 4 else 0);refine bd (a:=!zEk q||decide (2048<((fm0 q).length:Int))) ?_ (by cases !zEk q||decide (2048<((fm0 q).length:Int))<;>rfl);unfold zBk;refine bd (aJ q.Auths default auL ka (v:=true) (λi hi=>?_) ?_) ?_
 ·unfold bK;refine ct (decide_eq_true jh) (bd (a:=!auL (q.Auths.getD i default)) (bd (vT (d:=default) hi) ?_) ?_)
  ·have e:(!auL (q.Auths.getD i default))=(decide (128<((q.Auths.getD i default).Nonce.length:Int))||decide (128<((q.Auths.getD i default).Value.length:Int))):=by
    unfold auL;rw [yB0,<- decide_not,<- decide_not];exact congr (congrArg _ (decide_eq_decide.2 jh)) (decide_eq_decide.2 jh)
   rw [e];exact oO' λ_=>bd (vT (d:=default) hi) rfl
  ·rw [yO jh];cases auL (q.Auths.getD i default)<;>rfl
 ·unfold bK;exact cf (decide_eq_false jh) rfl
 unfold zEk;cases g4:q.Auths.all auL
 case false=>rfl
 refine bd (aJ q.Blobs [] blL kb (v:=true) (λi hi=>?_) ?_) ?_
 ·unfold bL;have e:decide (1024<((q.Blobs.getD i []).length:Int))=!blL (q.Blobs.getD i []):=by
   unfold blL;rw [<- decide_not];exact decide_eq_decide.2 jh
  refine ct (decide_eq_true jh) (bd (vT (d:=[]) hi) ?_);rw [e,yO jh];cases blL (q.Blobs.getD i [])<;>rfl
 ·unfold bL;exact cf (decide_eq_false jh) rfl
 cases g5:q.Blobs.all blL
 case false=>rfl
 have h3:zEk q=true:=by unfold zEk;rw [g4,g5];rfl
 obtain ⟨b,e,hl⟩:=zX8 h2 h3;exact bd e (by rw [hl];rfl)
structure RqS (q:zC):Prop where
 ok:oP q
 s:(shp q.Code).2=true
 h:(q.Handles.length:Int)=(shp q.Code).1.a0
 a:(q.Auths.length:Int)=(shp q.Code).1.a1
 i:(q.Ints.length:Int)=(shp q.Code).1.a2
 b:(q.Blobs.length:Int)=(shp q.Code).1.a3∨((shp q.Code).1.a3<0/\q.Blobs.length<=8)
 l:∀ x∈q.Blobs,x.length<=1024
 h0:∀ x∈q.Handles,0<=x/\x<=65535
 i0:∀ x∈q.Ints,0<=x/\x<=1099511627776
def zMd (h:ckV q=0):RqS q:=by
 unfold ckV at h;cases hs:(shp q.Code).2<;>rw [hs] at h
 case false=>exact absurd h (show ¬ (6:Int)=0 by decide)
 cases h2:zGt q<;>rw [h2] at h
 case false=>exact absurd h (show ¬ (1:Int)=0 by decide)
 cases h3:zEk q<;>rw [h3] at h
 case false=>exact absurd h (show ¬ (4:Int)=0 by decide)
 obtain ⟨f1,hh,ha,hi⟩:=zHl h2;obtain ⟨l1,l2,l3,l4⟩:=zHx f1;obtain ⟨g1,g2,g3,g4⟩:=zS2 f1;obtain ⟨n1,b1⟩:=zTb h3;exact ⟨⟨jh,λx hx=>by have:=hh x hx;exact ⟨jh,jh⟩,jh,λa hx=>⟨by have:=ha a hx;exact ⟨jh,jh⟩,by have:=n1 a hx;omega,by have:=n1 a hx;omega⟩,jh,λx hx=>by have:=hi x hx;exact ⟨jh,jh⟩,jh,λx hx=>by have:=b1 x hx;omega⟩,hs,g1,g2,g3,g4,b1,hh,hi⟩
structure Gd (s:zB) (r:zB×zD):Prop where
 e:r.2.Err≠0->r=(s,rs r.2.Err)
 n:r.2.Nonces=[]
 k:zX r.1
 i:r.2.Ints.length<=8
 b:r.2.Blobs.length<=8
 t:(r.2.Blobs.map (·.length)).sum<=1500
def tJ (h:zX s) (e:Int):Gd s (s,rs e):=⟨λ_=>rfl,rfl,h,Q1 _,Q1 _,Q1 _⟩
def zCc (h:zX t):Gd s (t,rs 0):=⟨λe=>absurd rfl e,rfl,h,Q1 _,Q1 _,Q1 _⟩
def yO9 (h:zX t) (hi:i.length<=8):Gd s (t,⟨0,i,[],[]⟩):=⟨λe=>absurd rfl e,rfl,h,hi,Q1 _,Q1 _⟩
def zO0 (h:zX t) (hi:i.length<=8) (hx:x.length<=1000):Gd s (t,⟨0,i,[x],[]⟩):=⟨λe=>absurd rfl e,rfl,h,hi,by show (1:Nat)<=8;decide,jl⟩
def yNx (h:zX t) (hi:i.length<=8) {y:By} (hx:x.length+y.length<=1000):Gd s (t,⟨0,i,[x,y],[]⟩):=⟨λe=>absurd rfl e,rfl,h,hi,by show (2:Nat)<=8;decide,jl⟩
def dn (s t:zB) (e:Int):zB×zD:=if e≠0 then (s,rs e) else (t,rs 0)
def zKt (h:zX s) (k:e=0->zX t):Gd s (dn s t e):=by
 unfold dn;by_cases g:e=0
 ·rw [if_neg (by simp [g])];exact zCc (k g)
 ·rw [if_pos g];exact tJ h e
def aM (s t:zB) (e:Int):sK s t e=some (dn s t e):=by
 unfold sK dn;by_cases g:e=0
 ·rw [if_neg (by simp [g])];exact cf (b0 g) rfl
 ·rw [if_pos g];exact ct (b1 g) rfl
def zLf (s t:zB) (e:Int):((dn s t e).1,zD.mk (dn s t e).2.Err [] [] [])=dn s t e:=by unfold dn;split<;>rfl
def dn_n (s t:zB) (e:Int):(dn s t e).2.Ints=[]/\(dn s t e).2.Blobs=[]/\(dn s t e).2.Nonces=[]:=by unfold dn;split<;>exact ⟨rfl,rfl,rfl⟩
def m1 (s:zB) (q:zC):zB×zD:=dn s (suS s) (suE s (int q 0))
def yOn (h:zX s) (q:zC):Gd s (m1 s q):=zKt h λe=>yLj h (yOa e)
def dn_c (he:e=f) (ht:f=0->t=u):dn s t e=dn s u f:=by
 subst he;unfold dn;by_cases g:e=0
 ·rw [if_neg (by simp [g]),if_neg (by simp [g]),ht g]
 ·rw [if_pos g,if_pos g]
def yJf (he:e=f) (ht:f=0->t=u):some ((dn s t e).1,zD.mk (dn s t e).2.Err [] [] [])=some (dn s u f):=congrArg some ((zLf _ _ _).trans (dn_c he ht))
def yNm (g:suE s m=0):suV s m=(suS s,0):=by unfold suV;rw [if_pos g]
def yPc (s:zB) (m:Int):(suV s m).2=suE s m:=by
 unfold suV;split
 ·rename_i g;exact g.symm
 ·rfl
def yKg (g:sdE s m=0):sdV s m=(sdS s m,0):=by unfold sdV;rw [if_pos g]
def yP6 (s:zB) (m:Int):(sdV s m).2=sdE s m:=by
 unfold sdV;split
 ·rename_i g;exact g.symm
 ·rfl
def m2 (s:zB) (q:zC):zB×zD:=dn s (sdS s (int q 0)) (sdE s (int q 0))
def yPz (h:zX s) (q:zC):Gd s (m2 s q):=zKt h λ_=>yLk h _
def m4 (s:zB):zB×zD:=(s,⟨0,[s.Volatile.Clock,s.Stable.Resets,s.Stable.Restarts,bif s.Volatile.Safe then 1 else 0],[],[]⟩)
def yQa (h:zX s):Gd s (m4 s):=yO9 h (show (4:Nat)<=8 by decide)
def m5 (s:zB) (q:zC):zB×zD:=if (vlV s.Volatile.Registers (int q 0) (int q 1)).2≠0 then (s,rs (vlV s.Volatile.Registers (int q 0) (int q 1)).2) else (s,⟨0,[s.Volatile.Registers.Updates],[(vlV s.Volatile.Registers (int q 0) (int q 1)).1],[]⟩)
def mR (s:zB) (x:zE×Int) (b:List By):zB×zD:=if x.2≠0 then (s,rs x.2) else (yBw s x.1,⟨0,[],b,[]⟩)
def m6 (s:zB) (loc:Int) (q:zC):zB×zD:=mR s (exV s.Volatile.Registers loc (int q 0) q.Blobs) []
def m7 (s:zB) (loc:Int) (q:zC):zB×zD:=mR s (evV s.Volatile.Registers loc (int q 0) (blb q 0)) (dgE s.Volatile.Registers (blb q 0))
def m8 (s:zB) (loc:Int) (q:zC):zB×zD:=mR s (rsV s.Volatile.Registers loc (int q 0)) []
def yFo {r:zE} (h:nQ r) (a b:Int):(vlV r a b).1.length<=32:=by
 unfold vlV;split
 ·exact zNy h _ _
 ·exact Q1 _
def yJw (h:zX s) (q:zC):Gd s (m5 s q):=by
 unfold m5;split
 ·exact tJ h _
 ·exact zO0 h jk (by have:=yFo h.rg (int q 0) (int q 1);omega)
def zYk (h:zX s) {x:zE×Int} (hx:nQ x.1) {b:List By} (h1:b.length<=8) (h2:(b.map (·.length)).sum<=1500):Gd s (mR s x b):=by
 unfold mR;split
 ·exact tJ h _
 ·exact ⟨λe=>absurd rfl e,rfl,yCf h hx,Q1 _,h1,h2⟩
def yF1 (r:zE) (b:By):((dgE r b).map (·.length)).sum<=1500:=by
 have h0:(bif onv r 0 then zKc b else []).length<=20:=by
  cases onv r 0
  ·exact Q1 _
  ·show (zKc b).length<=20;rw [zJq];decide
 have h1:(bif onv r 1 then sha b else []).length<=32:=by
  cases onv r 1
  ·exact Q1 _
  ·show (sha b).length<=32;rw [eE];decide
 simp only [dgE,Wa,List.map_nil,List.sum_cons,List.sum_nil];omega
def yI1 (h:zX s) (loc:Int) (q:zC):Gd s (m6 s loc q):=zYk h (yCs h.rg) ji (by show (0:Nat)<=_;decide)
def yJa (h:zX s) (loc:Int) (q:zC):Gd s (m7 s loc q):=zYk h (yM4 h.rg) (show (2:Nat)<=8 by decide) (yF1 _ _)
def yJz (h:zX s) (loc:Int) (q:zC):Gd s (m8 s loc q):=zYk h (yNa h.rg) ji (by show (0:Nat)<=_;decide)
def yDk (k:oP q):yGk q.Blobs:=λd hd=>by have:=k.bb d hd;omega
def m16 (s:zB) (q:zC):zB×zD:=if (opV s (int q 0)).2.2≠0 then (s,rs (opV s (int q 0)).2.2) else ((opV s (int q 0)).1,⟨0,[(opV s (int q 0)).2.1],[(sfV (opV s (int q 0)).1 (opV s (int q 0)).2.1).1.Nonce],[]⟩)
def zT7 (h:zX s) (a:Int):(sfV s a).1.Nonce.length<=32/\(sfV s a).1.Digest.length<=32:=by
 unfold sfV;cases q:ssf s a with
 | some i=>have ok:=zAt h (kW q).1;exact ⟨ok.n,ok.d⟩
 | none=>exact ⟨Q1 _,Q1 _⟩
def zX9 (h:zX s) (q:zC):Gd s (m16 s q):=by
 unfold m16;by_cases g:(opV s (int q 0)).2.2=0
 ·rw [if_neg (by simp [g])];obtain ⟨a,_⟩:=yDc h g;exact zO0 a jk (by have:=(zT7 a (opV s (int q 0)).2.1).1;omega)
 ·rw [if_pos g];exact tJ h _
def asF (s:zB) (q:zC):zH:=
 ⟨int q 1,⟨int q 2,int q 3⟩,bif int q 1==1 then blb q 0 else [],int q 4,int q 5,bif int q 1==4 then blb q 0 else [],bif int q 1==4 then rnm s (int q 4) else [],[],bif int q 1==8 then q.Blobs else []⟩
def asO (q:zC):Bool:=bif (int q 1==1)||(int q 1==4) then (q.Blobs.length:Int)==1 else (int q 1==8)||((q.Blobs.length:Int)==0)
def m17 (s:zB) (q:zC):zB×zD:=bif !asO q then (s,rs 1) else bif (int q 1==4)&&(ixf s (int q 4)).isNone then (s,rs 7) else
 if (asV s (int q 0) (asF s q)).2≠0 then (s,rs (asV s (int q 0) (asF s q)).2) else ((asV s (int q 0) (asF s q)).1,rs 0)
def zZn (h:zX s) (q:zC):Gd s (m17 s q):=by
 unfold m17;cases !asO q
 ·cases (int q 1==4)&&(ixf s (int q 4)).isNone
  ·show Gd s (dn s (asV s (int q 0) (asF s q)).1 (asV s (int q 0) (asF s q)).2);exact zKt h λe=>yMe h e
  ·exact tJ h _
 ·exact tJ h _
def yLz (k:oP q):yIv (asF s q):=by
 have h0:=zBf k 0;have h1:=zSe s (int q 4);have h2:=k.bl;refine ⟨?_,?_,?_,?_,?_⟩
 ·show (bif int q 1==1 then blb q 0 else []).length<_;cases int q 1==1
  ·show (0:Nat)<_;decide
  ·show (blb q 0).length<_;omega
 ·show (bif int q 1==4 then blb q 0 else []).length<_;cases int q 1==4
  ·show (0:Nat)<_;decide
  ·show (blb q 0).length<_;omega
 ·show (bif int q 1==4 then rnm s (int q 4) else []).length<_;cases int q 1==4
  ·show (0:Nat)<_;decide
  ·show (rnm s (int q 4)).length<_;omega
 ·show (0:Nat)<_;decide
 ·show (bif int q 1==8 then q.Blobs else []).length<_;cases int q 1==8
  ·show (0:Nat)<_;decide
  ·show q.Blobs.length<_;omega
def yPb (h:int q 1=1):asF s q=⟨int q 1,⟨int q 2,int q 3⟩,blb q 0,int q 4,int q 5,[],[],[],[]⟩:=by
 unfold asF;rw [c0' h,c1' (show int q 1≠4 by omega),c1' (show int q 1≠8 by omega)];rfl
def yN6 (h:int q 1=4):asF s q=⟨int q 1,⟨int q 2,int q 3⟩,[],int q 4,int q 5,blb q 0,rnm s (int q 4),[],[]⟩:=by
 unfold asF;rw [c0' h,c1' (show int q 1≠1 by omega),c1' (show int q 1≠8 by omega)];rfl
def yO3 (h:int q 1=8):asF s q=⟨int q 1,⟨int q 2,int q 3⟩,[],int q 4,int q 5,[],[],[],q.Blobs⟩:=by
 unfold asF;rw [c0' h,c1' (show int q 1≠1 by omega),c1' (show int q 1≠4 by omega)];rfl
def yOs (h1:int q 1≠1) (h4:int q 1≠4) (h8:int q 1≠8):asF s q=⟨int q 1,⟨int q 2,int q 3⟩,[],int q 4,int q 5,[],[],[],[]⟩:=by
 unfold asF;rw [c1' h1,c1' h4,c1' h8];rfl
def cV (h:zX s) (k:oP q) (hi:0<q.Ints.length) {a:zH} (e:asF s q=a):((idx q.Ints 0).bind λv=>(mI s v a).bind λ(x,y)=>(sK s x y).bind λ(u,w)=>some (u,zD.mk w.Err [] [] []))=some (dn s (asV s (int q 0) (asF s q)).1 (asV s (int q 0) (asF s q)).2):=by
 subst e;exact bd (sA (i:=0) hi) (bd (zP7 h (zGi k hi) (yLz k)) (bd (aM _ _ _) (congrArg some (zLf _ _ _))))
def bn1 (h:n=1):((n:Int) != 1)=false:=by subst h;rfl
def bn1' (h:n≠1):((n:Int) != 1)=true:=by have:(n:Int)≠1:=by { omega };simpa using this
def be1 (h:n=1):((n:Int)==1)=true:=by subst h;rfl
def be1' (h:n≠1):((n:Int)==1)=false:=c1' jh
def zQt (h:zX s) (k:oP q) (hi:5<q.Ints.length):fL s q=some (m17 s q):=by
 have i4:=zGi k (show 4<q.Ints.length by omega);unfold fL m17;refine bd (sA (i:=1) jh) (bd (sA (i:=2) jh) (bd (sA (i:=3) jh) (bd (sA (i:=4) jh) (bd (sA (i:=5) hi) ?_))));show _=some (bif !asO q then (s,rs 1) else bif (int q 1==4)&&(ixf s (int q 4)).isNone then (s,rs 7) else dn s (asV s (int q 0) (asF s q)).1 (asV s (int q 0) (asF s q)).2);unfold asO;by_cases h1:int q 1=1
 ·have e4:=c1' (show int q 1≠4 by omega);have e8:=c1' (show int q 1≠8 by omega);rw [c0' h1,e4];by_cases hb:q.Blobs.length=1
  ·rw [bn1 hb,be1 hb];refine bd (a:=true) rfl (bd (a:=false) rfl (cf rfl ?_));refine bd (a:=.inr (blb q 0,[],[],[])) (bd (mM (i:=0) jh) rfl) ?_;exact cV h k jh (yPb h1)
  ·rw [bn1' hb,be1' hb];rfl
 have e1:=c1' h1;by_cases h4:int q 1=4
 ·have e8:=c1' (show int q 1≠8 by omega);rw [e1,c0' h4];by_cases hb:q.Blobs.length=1
  ·rw [bn1 hb,be1 hb];refine bd (a:=true) rfl (bd (a:=false) rfl (cf rfl ?_));have hix:=uB h i4;cases q4:ixf s (int q 4) with
   | none=>
    rw [q4] at hix;exact bd (a:=.inl (s,rs 7)) (bd hix rfl) rfl
   | some i=>
    rw [q4] at hix;refine bd (a:=.inr ([],blb q 0,rnm s (int q 4),[])) (bd hix (cf (ng i) (bd (zQe h i4) (bd (mM (i:=0) jh) rfl)))) ?_;exact cV h k jh (yN6 h4)
  ·rw [bn1' hb,be1' hb];rfl
 have e4:=c1' h4;by_cases h8:int q 1=8
 ·have n8:(int q 1 != 8)=false:=by unfold bne;rw [c0' h8];rfl
  rw [e1,e4,n8,c0' h8];refine bd (a:=false) rfl (bd (a:=false) rfl (cf rfl ?_));refine bd (a:=.inr ([],[],[],q.Blobs)) rfl ?_;exact cV h k jh (yO3 h8)
 have e8:=c1' h8;have n8:(int q 1 != 8)=true:=by unfold bne;rw [e8];rfl
 rw [e1,e4,n8,e8];by_cases hb:q.Blobs.length=0
 ·have n0:decide (0<(q.Blobs.length:Int))=false:=decide_eq_false jh;have n1:((q.Blobs.length:Int)==0)=true:=c0' jh;rw [n0,n1];refine bd (a:=false) rfl (bd (a:=false) rfl (cf rfl ?_));refine bd (a:=.inr ([],[],[],[])) rfl ?_;exact cV h k jh (yOs h1 h4 h8)
 ·have n0:decide (0<(q.Blobs.length:Int))=true:=decide_eq_true jh;have n1:((q.Blobs.length:Int)==0)=false:=c1' jh;rw [n0,n1];rfl
end Go.Proofs.TT
namespace Go.Sw
open Go
variable {α:Type}
def zNs (l:List α) (d:α) (p:α->Bool) {step:List α×Int×Int->Option ((List α×Int×Int) ⊕ (List α×Int))}
  (hs:∀ (w:List α) (i j:Nat) (v:α),w[j]? = some v->i<w.length->w.length<2 ^ 40->step (w,(i:Int),(j:Int))=some (.inl (bif p v then w else w.set i v,bif p v then (i:Int) else ((i+1:Nat):Int),((j+1:Nat):Int))))
  (he:∀ (w:List α) (i:Int) (j:Nat),¬ j<w.length->step (w,i,(j:Int))=some (.inr (w,i))) (hl:l.length<2 ^ 40) {k:Nat} (hk:fst (λi=>p (l.getD i d)) l.length 0=some k) :
  Def (zP step FU (l,(k:Int),((k+1:Nat):Int))) (λr=>∃ i:Nat,r.2=(i:Int)/\i<r.1.length/\r.1.take i=l.filter (λx=>!p x)):=by
 obtain ⟨_,k1,k2,k3⟩:=qZ hk;refine Qy (λs=>∃ i j:Nat,s.2.1=(i:Int)/\s.2.2=(j:Int)/\s.1.length=l.length/\i<j/\j<=l.length/\s.1.take i=(l.take j).filter (λx=>!p x)/\s.1.drop j=l.drop j) (λs=>l.length - s.2.2.toNat) (λs h=>?_) ⟨k,k+1,rfl,rfl,rfl,jh,jh,?_,rfl⟩ jh
 ·obtain ⟨w,i',j'⟩:=s;obtain ⟨i,j,h1,h2,K,h4,h5,I,H⟩:=h;simp only at h1 h2 K I H;subst h1 h2;by_cases g:j<w.length
  ·have hv:w[j]? = some l[j]:=by
    have e:(w.drop j)[0]? = (l.drop j)[0]?:=by rw [H]
    rw [List.getElem?_drop,List.getElem?_drop,Nat.add_zero,List.getElem?_eq_getElem (by omega:j<l.length)] at e;exact e
   refine Q9 (hs w i j _ hv jh jh) ?_;have G:l.take (j+1)=l.take j++[l[j]]:=by rw [Qr,List.getElem?_eq_getElem jh];rfl
   cases q:p l[j]
   ·refine ⟨⟨i+1,j+1,rfl,rfl,by simpa using K,jh,jh,?_,?_⟩,by simp only [Qa];omega⟩
    ·show (w.set i l[j]).take (i+1)=_;rw [G,Qn,<- I,Qr,List.getElem?_set_self jh,List.take_set_of_le (Qq _)];simp [q]
    ·show (w.set i l[j]).drop (j+1)=_;rw [List.drop_set_of_lt jh];have:w.drop (j+1)=(w.drop j).drop 1:=by rw [Qp]
     rw [this,H,Qp]
   ·refine ⟨⟨i,j+1,rfl,rfl,K,jh,jh,?_,?_⟩,by simp only [Qa];omega⟩
    ·show w.take i=_;rw [G,Qn,<- I];simp [q]
    ·show w.drop (j+1)=_;have:w.drop (j+1)=(w.drop j).drop 1:=by rw [Qp]
     rw [this,H,Qp]
  ·refine Q9 (he w _ j g) ⟨i,rfl,by show i<w.length;omega,?_⟩;show w.take i=_;rw [I,Qu jh]
 ·have G:l.take (k+1)=l.take k++[l[k]]:=by rw [Qr,List.getElem?_eq_getElem jh];rfl
  have e:l.getD k d=l[k]:=by simp [show k<l.length by omega]
  rw [e] at k2;rw [G,Qn];have f1:(l.take k).filter (λx=>!p x)=l.take k:=Qo.2 λx hx=>by
   obtain ⟨m,hm,rfl⟩:=Qj.1 hx;rw [Q7] at hm;have:=k3 m jh jh;have e:l.getD m d=l[m]:=by simp [show m<l.length by omega]
   rw [e] at this;rw [List.getElem_take,this];rfl
  rw [f1];simp [k2]
def zO2 {l:List α} {d:α} {p:α->Bool} (h:fst (λi=>p (l.getD i d)) l.length 0=none):l.filter (λx=>!p x)=l:=by
 refine Qo.2 λx A=>?_;obtain ⟨m,z,rfl⟩:=Qj.1 A;have:=zFo h m jh jh;simp_all
def bltT {a b:Nat} (h:a<b):Nat.blt a b=true:=by simp_all
def yAz (w:List α) (d:α) {i:Nat} (h:i<w.length) (n:Nat):(w.take i++Qf n d).take i=w.take i:=by
 rw [List.take_append_of_le_length (by rw [Q7];omega),List.take_take,Nat.min_self]
end Go.Sw
namespace Go.Proofs.TT
open Go Go.Sw
variable {a:Int}{b:By}{c:Int}{d:By}{er m n:Int}{p:zM}{q:zC}{r:zB×zD}{s:zB}{v:Int}{x:zF}{α:Type}
def pix (l:List Int) (n:Int) (G:l.length<2 ^ 40):wX l n=some (match fst (λi=>l.getD i 0==n) l.length 0 with | some j=>(j:Int) | none=>-1):=by
 unfold wX;refine bd (sZ (λi=>l.getD i 0==n) l.length (λi=>(i:Int)) G (λi D=>?_) ?_) ?_
 ·unfold sR;constructor
  ·intro g;exact ct (decide_eq_true jh) (bd (vT (d:=0) D) (bd (a:=true) (congrArg some g) rfl))
  ·intro g;refine ct (decide_eq_true jh) (bd (vT (d:=0) D) (bd (a:=false) (congrArg some g) ?_));rw [yO jh];rfl
 ·exact cf (decide_eq_false jh) rfl
 ·cases fst (λi=>l.getD i 0==n) l.length 0<;>rfl
def wo (l:List Int) (n:Int):List Int:=l.filter (λx=>!(x==n))
def ne1 (k:Nat):((k:Int)==-1)=false:=rfl
def zG4 (l:List Int) (n:Int) (F:l.length<2 ^ 40):qV l n=some (wo l n):=by
 unfold qV vU;refine bd (cln jh) (bd (a:=wo l n) (bd (pix l n F) ?_) rfl);cases q:fst (λi=>l.getD i 0==n) l.length 0 with
 | none=>exact ct rfl (congrArg some (zO2 (p:=(· == n)) q).symm)
 | some k=>
  have L:Def (zP (wA n) FU (l,(k:Int),((k+1:Nat):Int))) (λr=>∃ i:Nat,r.2=(i:Int)/\i<r.1.length/\r.1.take i=l.filter (λx=>!(x==n))):=by
   refine zNs l 0 (· == n) (λw i j v G T N=>?_) (λw i j g=>?_) F q
   ·have R:j<w.length:=(List.getElem?_eq_some_iff.1 G).1;unfold wA;refine ct (decide_eq_true jh) (bd (a:=(bif v==n then w else w.set i v,bif v==n then (i:Int) else ((i+1:Nat):Int))) (bd (a:=j) (by simp [ixN];omega) (bd G (bd (a:=v==n) rfl ?_))) (by rw [yO jh]));cases v==n
    ·exact ct rfl (bd (a:=i) (by simp [ixN];omega) (bd (a:=w.set i v) (by simp [wY];omega) (by rw [yO jh];rfl)))
    ·rfl
   ·unfold wA;exact cf (decide_eq_false jh) rfl
  ·obtain ⟨r,e,i,I,D,J⟩:=L;obtain ⟨w,S⟩:=r;simp only at I D J;subst I;have U:=(qZ q).2.1;refine cf (ne1 k) ?_;rw [yO jh];refine bd e (bd (ckT (decide_eq_true ⟨jh,jh⟩)) (bd (ckT (bltT (by rw [Qa];exact D))) (bd (ckT (decide_eq_true ⟨jh,jh⟩)) ?_)));rw [Qa,yAz w 0 D,J];rfl
def zG8 (l:List Int) (n:Int) (E:l.length<2 ^ 40):oR l n=some (wo l n):=by
 unfold oR;refine bd (a:=wo l n) (yF l.length (λi=>((l.take i).filter (λx=>!(x==n)),(i:Int))) rfl (λi z=>?_) ?_ (xJ jh)) rfl
 ·have D:l.take (i+1)=l.take i++[l[i]]:=by simp
  unfold jI;rw [D,Qn];refine ct (decide_eq_true jh) (bd (bd (yX z) ?_) (by rw [yO jh]));show (bif !(l[i]==n) then _ else _)=_;cases q:l[i]==n
  ·refine ct rfl (bd (yX z) (bd (yC ?_) ?_))
   ·have:=Qv (λx=>!(x==n)) (l.take i);rw [Q7] at this;simp only [Q6,Qc];omega
   ·simp [q]
  ·simp [q]
 ·unfold jI;refine cf (decide_eq_false jh) ?_;rw [Qg];rfl
def yJt {l:List Int} (h:zG9 l) (n:Int):zG9 (wo l n):=⟨h.nd.filter _,λx g=>h.el x (W4.1 g).1⟩
def zEb (s:zB) (n:Int):Bool:=s.Stable.Indices.any (λx=>x.N==n)
def zR7 (s:zB) (n:Int):(ixf s (256+n)).isSome=zEb s n:=by
 unfold zEb;rw [<- fst_any _ _ _];unfold ixf;rw [zKj λm _ _=>by rw [show 256+n - 256=n by omega]]
def nwX (q:zC):zF×Int:=nwV (int q 0) (int q 1) (int q 2) (int q 3) (blb q 0) (blb q 1)
def m21 (s:zB) (q:zC):zB×zD:=if (nwX q).2≠0 then (s,rs (nwX q).2) else bif zEb s (nwX q).1.N then (s,rs 21) else if 6<=s.Stable.Indices.length then (s,rs 25) else (zM1 s (s.Stable.Indices++[(nwX q).1]) s.Stable.MaxCounter,rs 0)
def yC9 (h:(nwX q).2=0):zDv (nwX q).1:=by
 have e:nwE (int q 0) (int q 1) (int q 2) (int q 3) (blb q 0) (blb q 1)=0:=by
  unfold nwX nwV at h;split at h
  ·omega
  omega
 exact (yM8 e).1
def yMh (h:zX s) (q:zC):Gd s (m21 s q):=by
 unfold m21;by_cases g:(nwX q).2=0
 case neg=>rw [if_pos g];exact tJ h _
 rw [if_neg (show ¬ (nwX q).2≠0 by simp [g])];cases E:zEb s (nwX q).1.N
 case true=>exact tJ h _
 simp only [cond_false];split
 ·exact tJ h _
 ·rename_i G;refine zCc (zI4 h (by rw [Q8];simp only [Q6,Qc];omega) (λx z=>?_) ?_)
  ·rcases W5.1 z with z | z
   ·exact h.ix x z
   ·simp only [Q4,Q3,or_false] at z;rw [z];exact yC9 g
  ·rw [List.map_append];refine W2.2 ⟨h.nd,jk,λa F b D e=>?_⟩;obtain ⟨x,z,rfl⟩:=Wb.1 F;have:zEb s (nwX q).1.N=true:=List.any_eq_true.2 ⟨x,z,jm⟩;rw [E] at this;cases this
def zRm (h:zX s) (F:3<q.Ints.length) (I:1<q.Blobs.length):jN s q=some (m21 s q):=by
 have J:=h.il;unfold jN m21;refine bd (sA (i:=0) jh) (bd (sA (i:=1) jh) (bd (sA (i:=2) jh) (bd (sA (i:=3) F) (bd (mM (i:=0) jh) (bd (mM (i:=1) I) (bd (zQn _ _ _ _ _ _) ?_))))));show (bif ((nwX q).2 != 0) then _ else _)=_;by_cases g:(nwX q).2=0
 case neg=>rw [if_pos g];exact ct (b1 g) rfl
 rw [if_neg (show ¬ (nwX q).2≠0 by simp [g])];refine cf (b0 g) (bd (a:=zEb s (nwX q).1.N) ?_ ?_)
 ·show xE s.Stable.Indices (nwX q).1=_;unfold xE wL zEb;rw [<- fst_any s.Stable.Indices default (λx=>x.N==(nwX q).1.N)];refine bd (a:=match fst (λi=>(s.Stable.Indices.getD i default).N==(nwX q).1.N) s.Stable.Indices.length 0 with | some j=>(j:Int) | none=>-1) (bd (sZ (λi=>(s.Stable.Indices.getD i default).N==(nwX q).1.N) s.Stable.Indices.length (λi=>(i:Int)) jh (λi F=>?_) ?_) ?_) ?_
  ·unfold xX;constructor
   ·intro g;exact ct (decide_eq_true jh) (bd (vT (d:=default) F) (bd (a:=true) (congrArg some g) rfl))
   ·intro g;refine ct (decide_eq_true jh) (bd (vT (d:=default) F) (bd (a:=false) (congrArg some g) ?_));rw [yO jh];rfl
  ·unfold xX;exact cf (decide_eq_false jh) rfl
  ·cases fst (λi=>(s.Stable.Indices.getD i default).N==(nwX q).1.N) s.Stable.Indices.length 0<;>rfl
  ·cases fst (λi=>(s.Stable.Indices.getD i default).N==(nwX q).1.N) s.Stable.Indices.length 0 with
   | some i=>exact congrArg some (nn i)
   | none=>rfl
 cases zEb s (nwX q).1.N
 case true=>rfl
 simp only [cond_false];by_cases H:6<=s.Stable.Indices.length
 ·rw [if_pos H];exact ct (decide_eq_true jh) rfl
 ·rw [if_neg H];exact cf (decide_eq_false jh) (bd (cln jh) (bd (yC jl) rfl))
def zQh (h:zX s) (G:3<q.Ints.length) (H:1<q.Blobs.length):mN s q=some (m21 s q):=by
 have I:=h.il;unfold mN m21;refine bd (sA (i:=0) jh) (bd (sA (i:=1) jh) (bd (sA (i:=2) jh) (bd (sA (i:=3) G) (bd (mM (i:=0) jh) (bd (mM (i:=1) H) (bd (zPp _ _ _ _ _ _) ?_))))));show (bif ((nwX q).2 != 0) then _ else (xF s (Qb.wrap (256+(nwX q).1.N))).bind _)=_;by_cases g:(nwX q).2=0
 case neg=>rw [if_pos g];exact ct (b1 g) rfl
 have A:=yC9 g;have K:=A.n0;have J:=A.n1;rw [if_neg (show ¬ (nwX q).2≠0 by simp [g]),yI jh jh];refine cf (b0 g) (bd (uB h (h:=256+(nwX q).1.N) ⟨jh,jh⟩) ?_);rw [<- zR7];cases ixf s (256+(nwX q).1.N) with
 | some i=>exact ct (nn i) rfl
 | none=>
  refine cf rfl ?_;simp only [Option.isSome_none,cond_false];by_cases E:6<=s.Stable.Indices.length
  ·rw [if_pos E];exact ct (decide_eq_true jh) rfl
  ·rw [if_neg E];exact cf (decide_eq_false jh) (bd (ap0 jh) (bd (yC jl) rfl))
def woI (s:zB) (n:Int):List zF:=s.Stable.Indices.filter (λx=>!(x.N==n))
def unS (s:zB) (n:Int):zB:=zRu (zM1 s (woI s n) s.Stable.MaxCounter) (wo s.Volatile.ReadLocks n) (wo s.Volatile.WriteLocks n)
def m22 (s:zB) (q:zC):zB×zD:=bif !zEb s (int q 0) then (s,rs 7) else (unS s (int q 0),rs 0)
def yK3 (h:zX s) (q:zC):Gd s (m22 s q):=by
 unfold m22;cases zEb s _
 ·exact tJ h _
 ·have D:=Qv (λx=>!(x.N==int q 0)) s.Stable.Indices;refine zCc (zJl (zI4 h (by have:=h.il;show (woI s _).length<=6;unfold woI;omega) (λx z=>h.ix x (W4.1 z).1) ?_) (yJt h.rl _) (yJt h.wl _));exact h.nd.sublist ((List.filter_sublist).map _)
def zYb:((woI s n).length=s.Stable.Indices.length)↔zEb s n=false:=by
 unfold woI zEb;constructor
 ·simp
 simp
def zL6 (h:zX s) (q:zC):nI s (int q 0)=some (m22 s q):=by
 have hl:=h.il;have G:=h.rl.len;have F:=h.wl.len;generalize U:int q 0=n;unfold nI m22;rw [U];refine bd (cln jh) (bd (a:=woI s n) ?_ ?_)
 ·unfold xW wM;refine bd (a:=match fst (λi=>(s.Stable.Indices.getD i default).N==n) s.Stable.Indices.length 0 with | some j=>(j:Int) | none=>-1) (bd (sZ (λi=>(s.Stable.Indices.getD i default).N==n) s.Stable.Indices.length (λi=>(i:Int)) jh (λi H=>?_) ?_) ?_) ?_
  ·unfold xY;constructor
   ·intro g;exact ct (decide_eq_true jh) (bd (vT (d:=default) H) (bd (a:=true) (congrArg some g) rfl))
   ·intro g;refine ct (decide_eq_true jh) (bd (vT (d:=default) H) (bd (a:=false) (congrArg some g) ?_));rw [yO jh];rfl
  ·unfold xY;exact cf (decide_eq_false jh) rfl
  ·cases fst (λi=>(s.Stable.Indices.getD i default).N==n) s.Stable.Indices.length 0<;>rfl
  cases q:fst (λi=>(s.Stable.Indices.getD i default).N==n) s.Stable.Indices.length 0 with
  | none=>exact ct rfl (congrArg some (zO2 (p:=λ(x:zF)=>x.N==n) q).symm)
  | some k=>
   have T:Def (zP (xA n) FU (s.Stable.Indices,(k:Int),((k+1:Nat):Int))) (λr=>∃ i:Nat,r.2=(i:Int)/\i<r.1.length/\r.1.take i=s.Stable.Indices.filter (λx=>!(x.N==n))):=by
    refine zNs s.Stable.Indices default (λ(x:zF)=>x.N==n) (λw i j v R H X=>?_) (λw i j g=>?_) jh q
    ·have V:j<w.length:=(List.getElem?_eq_some_iff.1 R).1;unfold xA;refine ct (decide_eq_true jh) (bd (a:=(bif v.N==n then w else w.set i v,bif v.N==n then (i:Int) else ((i+1:Nat):Int))) (bd (a:=j) (by simp [ixN];omega) (bd R (bd (a:=v.N==n) rfl ?_))) (by rw [yO jh]));cases v.N==n
     ·exact ct rfl (bd (a:=i) (by simp [ixN];omega) (bd (a:=w.set i v) (by simp [wY];omega) (by rw [yO jh];rfl)))
     ·rfl
    ·unfold xA;exact cf (decide_eq_false jh) rfl
   ·obtain ⟨r,e,i,G,F,K⟩:=T;obtain ⟨w,W⟩:=r;simp only at G F K;subst G;have Y:=(qZ q).2.1;refine cf (ne1 k) ?_;rw [yO jh];refine bd e (bd (ckT (decide_eq_true ⟨jh,jh⟩)) (bd (ckT (bltT (by rw [Qa];exact F))) (bd (ckT (decide_eq_true ⟨jh,jh⟩)) ?_)));rw [Qa,yAz w default F,K];rfl
 ·cases g:zEb s n
  ·exact ct (c0' (by have:=zYb.2 g;omega)) rfl
  ·have:(woI s n).length≠s.Stable.Indices.length:=λe=>by rw [zYb.1 e] at g;cases g
   exact cf (c1' jh) (bd (zG4 _ _ jh) (bd (zG4 _ _ jh) rfl))
def zWg {l:List zF} (g:(l.map (·.N)).Nodup) {i:Nat} (E:i<l.length) (e:l[i].N=n):l.take i++l.drop (i+1)=l.filter (λx=>!(x.N==n)):=by
 induction l generalizing i with
 | nil=>simp at E
 | cons x l G=>
  rw [Wa,List.nodup_cons] at g;cases i with
  | zero=>
   simp only [List.getElem_cons_zero] at e;have f:l.filter (λy=>!(y.N==n))=l:=Qo.2 λy H=>by
    simp_all
   rw [List.filter_cons_of_neg (by simp [e]),f];rfl
  | succ i=>
   simp only [Q6] at E;simp only [List.getElem_cons_succ] at e;have I:x.N≠n:=λq=>g.1 (Wb.2 ⟨l[i],List.getElem_mem _,by rw [e,q]⟩);rw [List.filter_cons_of_pos (by simpa using I),<- G g.2 _ e];rfl
def zLd (h:zX s) (A:0<q.Ints.length) (I:0<=int q 0) (H:int q 0<=1099511627776):pE s q=some (m22 s q):=by
 have E:=h.il;have G:=h.rl.len;have F:=h.wl.len;unfold pE m22;rw [<- zR7];refine bd (sA (i:=0) A) ?_;rw [yI jh jh];refine bd (uB h (h:=256+int q 0) ⟨jh,jh⟩) ?_;cases D:ixf s (256+int q 0) with
 | none=>rfl
 | some i=>
  obtain ⟨a,b⟩:=uT D;have b:s.Stable.Indices[i].N=int q 0:=by
   have e:ixg s i=s.Stable.Indices[i]:=by simp [ixg,a]
   rw [<- e,b];omega
  have s1:sub s.Stable.Indices 0 (i:Int)=some (s.Stable.Indices.take i):=by rw [show (0:Int)=((0:Nat):Int) from rfl,uW jh jh];simp
  have s2:sub s.Stable.Indices (Qb.wrap ((i:Int)+1)) (s.Stable.Indices.length:Int)=some (s.Stable.Indices.drop (i+1)):=by
   rw [yO jh,uW jh jh,Qu (by rw [Qs];omega)]
  refine cf (ng i) (bd s1 (bd (ap0 (by rw [Q7];omega)) (bd s2 (bd (yC (by rw [Q7,Qs];omega)) ?_))));rw [zWg h.nd a b];exact bd (zG8 _ _ jh) (bd (zG8 _ _ jh) rfl)
def lkA (l:List Int) (n:Int):List Int:=bif has l n then l else l++[n]
def yDo {l:List Int} (h:zG9 l) (n0:0<=n) (n1:n<=255):zG9 (lkA l n):=by
 unfold lkA;cases g:has l n
 ·refine ⟨W2.2 ⟨h.nd,jk,λa ha b hb e=>?_⟩,λx hx=>?_⟩
  ·simp only [Q4,Q3,or_false] at hb;have:has l n=true:=yIt.2 (by rw [<- hb,<- e];exact ha);rw [g] at this;cases this
  ·rcases W5.1 hx with hx | hx
   ·exact h.el x hx
   ·simp only [Q4,Q3,or_false] at hx;rw [hx];exact ⟨n0,n1⟩
 ·exact h
def zM2 {l:List Int} (h:zG9 l) (n:Int):dC l n=some (lkA l n):=by
 have:=h.len;unfold dC lkA;refine bd (yGh _ _ jh) ?_;cases has l n
 ·exact cf rfl (bd (ap0 jh) (bd (yC jl) rfl))
 ·rfl
def ixp (s:zB) (q:zC):Nat:=(ixf s (hnd q 1)).getD 0
def ixx (s:zB) (q:zC):zF:=ixg s (ixp s q)
def zPl (e:(ixf s (hnd q 1)).isSome=true):ixf s (hnd q 1)=some (ixp s q):=by
 unfold ixp;cases q1:ixf s (hnd q 1) with
 | none=>rw [q1] at e;cases e
 | some i=>rfl
def gZ (e:(ixf s (hnd q 1)).isSome=true):ixp s q<s.Stable.Indices.length:=(uT (zPl e)).1
def m28 (s:zB) (q:zC):zB×zD:=(zRu s (lkA s.Volatile.ReadLocks (ixx s q).N) s.Volatile.WriteLocks,rs 0)
def m29 (s:zB) (q:zC):zB×zD:=(zRu s s.Volatile.ReadLocks (lkA s.Volatile.WriteLocks (ixx s q).N),rs 0)
def yMf (h:zX s) (e:(ixf s (hnd q 1)).isSome=true):Gd s (m28 s q):=by
 have ok:=oQ h (gZ e);exact zCc (zJl h (yDo h.rl ok.n0 ok.n1) h.wl)
def yJ9 (h:zX s) (e:(ixf s (hnd q 1)).isSome=true):Gd s (m29 s q):=by
 have ok:=oQ h (gZ e);exact zCc (zJl h h.rl (yDo h.wl ok.n0 ok.n1))
def m24 (s:zB) (q:zC):zB×zD:=bif has s.Volatile.ReadLocks (ixx s q).N then (s,rs 23) else if (irV (ixx s q) (int q 0) (int q 1)).2≠0 then (s,rs (irV (ixx s q) (int q 0) (int q 1)).2) else (s,⟨0,[],[(irV (ixx s q) (int q 0) (int q 1)).1],[]⟩)
def yK0 (h:zX s) (e:(ixf s (hnd q 1)).isSome=true):Gd s (m24 s q):=by
 have ok:=oQ h (gZ e);unfold m24;cases has s.Volatile.ReadLocks (ixx s q).N
 ·simp only [cond_false];split
  ·exact tJ h _
  ·refine zO0 h (Q1 _) ?_;have h1:=yIg (ixx s q) (int q 0) (int q 1);have h2:(ixx s q).Data.length<=128:=ok.d;omega
 ·exact tJ h _
def wrI (s:zB) (q:zC) (x:zF) (m e:Int):zB×zD:=bif has s.Volatile.WriteLocks (ixx s q).N then (s,rs 23) else if e≠0 then (s,rs e) else (zM1 s (s.Stable.Indices.set (ixp s q) x) m,rs 0)
def yOx {i:Nat} (hi:i<s.Stable.Indices.length) (hx:x.N=(ixg s i).N):(s.Stable.Indices.set i x).map (·.N)=s.Stable.Indices.map (·.N):=by
 rw [List.map_set,hx];have e:(ixg s i).N=(s.Stable.Indices.map (·.N))[i]'(by rw [W6];exact hi):=by rw [List.getElem_map];simp [ixg,hi]
 rw [e,List.set_getElem_self]
def zL2 (h:zX s) (e:(ixf s (hnd q 1)).isSome=true) (hx:er=0->zDv x/\x.N=(ixx s q).N):Gd s (wrI s q x m er):=by
 unfold wrI;cases has s.Volatile.WriteLocks (ixx s q).N
 ·simp only [cond_false];by_cases g:er=0
  ·rw [if_neg (by simp [g])];obtain ⟨a,b⟩:=hx g;refine zCc (zI4 h (by rw [Ql];exact h.il) (λy hy=>?_) (by rw [yOx (gZ e) b];exact h.nd));rcases Qm hy with hy | hy
   ·exact h.ix y hy
   ·rw [hy];exact a
  ·rw [if_pos g];exact tJ h _
 ·exact tJ h _
def m23 (s:zB) (q:zC):zB×zD:=wrI s q (iwV (ixx s q) (int q 0) (blb q 0)).1 s.Stable.MaxCounter (iwV (ixx s q) (int q 0) (blb q 0)).2
def m25 (s:zB) (q:zC):zB×zD:=wrI s q (inV (ixx s q) s.Stable.MaxCounter).1 (inV (ixx s q) s.Stable.MaxCounter).2.1 (inV (ixx s q) s.Stable.MaxCounter).2.2
def m26 (s:zB) (q:zC):zB×zD:=wrI s q (sbV (ixx s q) (blb q 0)).1 s.Stable.MaxCounter (sbV (ixx s q) (blb q 0)).2
def m27 (s:zB) (q:zC):zB×zD:=wrI s q (ieV (ixx s q) (blb q 0)).1 s.Stable.MaxCounter (ieV (ixx s q) (blb q 0)).2
def iw_e {o:Int} (h:(iwV x o d).2=0):iwE x o d=0:=by
 unfold iwV at h;split at h
 ·assumption
 ·rename_i g;exact absurd h g
def in_e (h:(inV x m).2.2=0):inE x m=0:=by
 unfold inV at h;split at h
 ·assumption
 ·rename_i g;exact absurd h g
def sb_e (h:(sbV x d).2=0):sbE x d=0:=by
 unfold sbV at h;split at h
 ·assumption
 ·rename_i g;exact absurd h g
def ie_e (h:(ieV x d).2=0):ieE x d=0:=by
 unfold ieV at h;split at h
 ·assumption
 ·rename_i g;exact absurd h g
def yMr (h:zX s) (e:(ixf s (hnd q 1)).isSome=true):Gd s (m23 s q):=zL2 h e λg=>yNd (oQ h (gZ e)) (iw_e g)
def yNj (h:zX s) (e:(ixf s (hnd q 1)).isSome=true):Gd s (m25 s q):=zL2 h e λg=>yKz (oQ h (gZ e)) (in_e g)
def yKi (h:zX s) (e:(ixf s (hnd q 1)).isSome=true):Gd s (m26 s q):=zL2 h e λg=>yLd (oQ h (gZ e)) (sb_e g)
def yLw (h:zX s) (e:(ixf s (hnd q 1)).isSome=true):Gd s (m27 s q):=zL2 h e λg=>yL0 (oQ h (gZ e)) (ie_e g)
def mIx (s:zB) (q:zC):zB×zD:=
 bif q.Code==28 then m28 s q else bif q.Code==29 then m29 s q else bif q.Code==24 then m24 s q else bif q.Code==23 then m23 s q else bif q.Code==25 then m25 s q else bif q.Code==26 then m26 s q else m27 s q
def zFh (h:zX s) (e:(ixf s (hnd q 1)).isSome=true) {o:Option (List zF)} (ho:o=some s.Stable.Indices) (hw:has s.Volatile.WriteLocks (ixx s q).N=false) {fl:Option (zB×zD)} (hf:fl=some (s,rs er)) :
  (bif er != 0 then fl else o.bind λl=>(ixN l.length (ixp s q:Int)).bind λj=>(wY l j x).bind λl2=>some (zM1 s l2 m,rs 0))=some (wrI s q x m er):=by
 subst ho;unfold wrI;rw [hw];simp only [cond_false];by_cases g:er=0
 ·rw [if_neg (by simp [g])];exact cf (b0 g) (zFd (gZ e) _)
 ·rw [if_pos g];exact ct (b1 g) hf
def zTu (hw:has s.Volatile.WriteLocks (ixx s q).N=true) (x:zF) (m er:Int):wrI s q x m er=(s,rs 23):=by unfold wrI;rw [hw];rfl
def yAq (hw:has s.Volatile.WriteLocks (ixx s q).N=true) (h1:(q.Code==28)=false) (h2:(q.Code==29)=false) (h3:(q.Code==24)=false):mIx s q=(s,rs 23):=by
 unfold mIx m23 m25 m26 m27;rw [h1,h2,h3,zTu hw,zTu hw,zTu hw,zTu hw];cases q.Code==23<;>cases q.Code==25<;>cases q.Code==26<;>rfl
structure IxQ (q:zC):Prop where
 h:1<q.Handles.length
 r:q.Code=24->1<q.Ints.length
 w:q.Code=23->0<q.Ints.length
 b:q.Code=23∨q.Code=26∨q.Code=27->0<q.Blobs.length
 c:23<=q.Code/\q.Code<=29
def zNf (h:zX s) (k:oP q) (c:IxQ q) (e:(ixf s (hnd q 1)).isSome=true) (c2:q.Code=24∨q.Code=25):kE s q=some (mIx s q):=by
 have hl:=h.il;have lt:=gZ e;have ok:=oQ h lt;have d1:=ok.d;have d1:(ixx s q).Data.length<=128:=d1;have h28:(q.Code==28)=false:=c1' jh;have h29:(q.Code==29)=false:=c1' jh;have h23:(q.Code==23)=false:=c1' jh;unfold kE;refine bd (bQ (i:=1) c.h) (bd (zC1 h (qX k c.h)) ?_);rw [zPl e];refine cf rfl (bd (zMi lt) (cf h28 (cf h29 ?_)));cases h24:(q.Code==24)
 case true=>
  have hr:=c.r (eq_of_beq h24);have em:mIx s q=m24 s q:=by unfold mIx;rw [h28,h29,h24];rfl
  rw [em];refine ct rfl (bd (pHas _ _ (by have:=h.rl.len;omega)) ?_);show (bif has s.Volatile.ReadLocks (ixx s q).N then _ else _)=_;unfold m24;cases has s.Volatile.ReadLocks (ixx s q).N
  case true=>rfl
  refine cf rfl (bd (sA (i:=0) jh) (bd (sA (i:=1) hr) (bd (zO7 (ixx s q) _ _ jh) ?_)));simp only [cond_false];by_cases g:(irV (ixx s q) (int q 0) (int q 1)).2=0
  ·rw [if_neg (show ¬ (irV (ixx s q) (int q 0) (int q 1)).2≠0 by simp [g])];exact cf (b0 g) rfl
  ·rw [if_pos g];exact ct (b1 g) rfl
 refine cf rfl (bd (pHas _ _ (by have:=h.wl.len;omega)) ?_);show (bif has s.Volatile.WriteLocks (ixx s q).N then _ else _)=_;cases hw:has s.Volatile.WriteLocks (ixx s q).N
 case true=>rw [yAq hw h28 h29 h24];rfl
 have cl:slices_Clone 112 s.Stable.Indices=some s.Stable.Indices:=cln jh;have h25:(q.Code==25)=true:=by
  have:¬ q.Code=24:=by simpa using h24
  simp;omega
 have em:mIx s q=m25 s q:=by unfold mIx;rw [h28,h29,h24,h23,h25];rfl
 rw [em];refine cf rfl (cf h23 (ct h25 (bd (zP6 (ixx s q) _ jh) ?_)));exact zFh h e cl hw rfl
def zUb (h:zX s) (k:oP q) (c:IxQ q) (e:(ixf s (hnd q 1)).isSome=true):cI s q=some (mIx s q):=by
 have hl:=h.il;have lt:=gZ e;have ok:=oQ h lt;have d1:=ok.d;have d1:(ixx s q).Data.length<=128:=d1;unfold cI;refine bd (bQ (i:=1) c.h) (bd (uB h (qX k c.h)) ?_);rw [zPl e];refine bd (zMi lt) ?_;cases h28:(q.Code==28)
 case true=>exact ct rfl (bd (zM2 h.rl _) (by unfold mIx;rw [h28];rfl))
 refine cf rfl ?_;cases h29:(q.Code==29)
 case true=>exact ct rfl (bd (zM2 h.wl _) (by unfold mIx;rw [h28,h29];rfl))
 refine cf rfl ?_;cases h24:(q.Code==24)
 case true=>
  have hr:=c.r (eq_of_beq h24);have em:mIx s q=m24 s q:=by unfold mIx;rw [h28,h29,h24];rfl
  rw [em];refine ct rfl (bd (yGh _ _ (by have:=h.rl.len;omega)) ?_);show (bif has s.Volatile.ReadLocks (ixx s q).N then _ else _)=_;unfold m24;cases has s.Volatile.ReadLocks (ixx s q).N
  case true=>rfl
  refine cf rfl (bd (sA (i:=0) jh) (bd (sA (i:=1) hr) (bd (zOq (ixx s q) _ _ jh) ?_)));simp only [cond_false];by_cases g:(irV (ixx s q) (int q 0) (int q 1)).2=0
  ·rw [if_neg (show ¬ (irV (ixx s q) (int q 0) (int q 1)).2≠0 by simp [g])];exact cf (b0 g) rfl
  ·rw [if_pos g];exact ct (b1 g) rfl
 refine cf rfl (bd (yGh _ _ (by have:=h.wl.len;omega)) ?_);show (bif has s.Volatile.WriteLocks (ixx s q).N then _ else _)=_;cases hw:has s.Volatile.WriteLocks (ixx s q).N
 case true=>rw [yAq hw h28 h29 h24];rfl
 refine cf rfl ?_;have cl:yM 112 ([]:List zF) s.Stable.Indices=some s.Stable.Indices:=ap0 jh;cases h23:(q.Code==23)
 case true=>
  have em:mIx s q=m23 s q:=by unfold mIx;rw [h28,h29,h24,h23];rfl
  rw [em];refine bd (ct rfl (bd (sA (i:=0) (c.w (eq_of_beq h23))) (bd (mM (i:=0) (c.b (.inl (eq_of_beq h23)))) (bd (zL7 (ixx s q) _ _ jh) rfl)))) ?_;exact zFh h e cl hw rfl
 cases h25:(q.Code==25)
 case true=>
  have em:mIx s q=m25 s q:=by unfold mIx;rw [h28,h29,h24,h23,h25];rfl
  rw [em];refine bd (cf rfl (ct rfl (bd (zQ2 (ixx s q) _ jh) rfl))) ?_;exact zFh h e cl hw rfl
 cases h26:(q.Code==26)
 case true=>
  have em:mIx s q=m26 s q:=by unfold mIx;rw [h28,h29,h24,h23,h25,h26];rfl
  rw [em];refine bd (cf rfl (cf rfl (ct rfl (bd (mM (i:=0) (c.b (.inr (.inl (eq_of_beq h26))))) (bd (zM8 (ixx s q) _ ok.b) rfl))))) ?_;exact zFh h e cl hw rfl
 have em:mIx s q=m27 s q:=by unfold mIx;rw [h28,h29,h24,h23,h25,h26];rfl
 have h27:q.Code=27:=by
  have:=c.c;simp at h28 h29 h24 h23 h25 h26;omega
 rw [em];refine bd (cf rfl (cf rfl (cf rfl (bd (mM (i:=0) (c.b (.inr (.inr h27)))) (bd (zPn (ixx s q) _ jh) rfl))))) ?_;exact zFh h e cl hw rfl
def zQi (h:zX s) (e:(ixf s (hnd q 1)).isSome=true):Gd s (mIx s q):=by
 unfold mIx;cases q.Code==28
 ·cases q.Code==29
  ·cases q.Code==24
   ·cases q.Code==23
    ·cases q.Code==25
     ·cases q.Code==26
      ·exact yLw h e
      ·exact yKi h e
     ·exact yNj h e
    ·exact yMr h e
   ·exact yK0 h e
  ·exact yJ9 h e
 ·exact yMf h e
def m30 (s:zB) (q:zC):zB×zD:=if 32<(blb q 0).length then (s,rs 4) else (yJs s (s.Stable.Auths.set (hnd q 0).toNat (blb q 0)),rs 0)
def clS (s:zB):zB:=⟨⟨s.Stable.Seeds.set 1 (rnB s 32),(s.Stable.Auths.set 1 []).set 3 [],s.Stable.Entropy,s.Stable.Active,s.Stable.Resets,s.Stable.Restarts,s.Stable.Clock,s.Stable.Orderly,s.Stable.Saved,s.Stable.MaxCounter,[],⟨0,5,100,0,0,1000⟩,s.Stable.Keys⟩,⟨s.Volatile.Started,s.Volatile.Stopped,s.Volatile.Registers,s.Volatile.Clock,s.Volatile.Safe,Qb.wrap (s.Volatile.Draws+1),Qf 3 ss0,Qf 3 ob0,[],[]⟩⟩
def m31 (s:zB):zB×zD:=(clS s,rs 0)
def m32 (s:zB):zB×zD:=(iR s ⟨0,s.Stable.Lockout.Max,s.Stable.Lockout.Recovery,s.Volatile.Clock,s.Stable.Lockout.Closed,s.Stable.Lockout.Penalty⟩,rs 0)
def m33 (s:zB) (q:zC):zB×zD:=dn s (iR s (lM s.Stable.Lockout (int q 0) (int q 1) (int q 2)).1) (lM s.Stable.Lockout (int q 0) (int q 1) (int q 2)).2
def zK8 {l:List By} (h:∀ x∈l,x.length<=32) {i:Nat} {y:By} (hy:y.length<=32):∀ x∈l.set i y,x.length<=32:=λx hx=>by
 rcases Qm hx with hx | hx
 ·exact h x hx
 ·rw [hx];exact hy
def yL1 (h:zX s) (q:zC):Gd s (m30 s q):=by
 unfold m30;split
 ·exact tJ h _
 ·exact zCc (yAv h (by rw [Ql];exact h.al) (zK8 h.ae jh))
def yL2 (h:zX s):zX (clS s):=
 ⟨by show (s.Stable.Seeds.set 1 (rnB s 32)).length=3;rw [Ql];exact h.sl,zK8 h.se (by rw [zFg _ _ ji];decide),by show ((s.Stable.Auths.set 1 []).set 3 []).length=4;rw [Ql,Ql];exact h.al,zK8 (zK8 h.ae (Q1 _)) (Q1 _),h.en,h.a0,h.a3,h.sv,h.sn,h.rg,zG7.1,zG7.2,zNz.1,zNz.2,Q1 _,λx hx=>(by cases hx),List.nodup_nil,h.kl,h.ky,lk0,lk0⟩
def yMq (h:zX s):Gd s (m31 s):=zCc (yL2 h)
def yLh (h:zX s):Gd s (m32 s):=zCc (zFi h _)
def yL9 (h:zX s) (q:zC):Gd s (m33 s q):=zKt h λ_=>zFi h _
def len3 {l:List α} (h:l.length=3):∃ a b c,l=[a,b,c]:=by
 match l,h with
 | [a,b,c],_=>exact ⟨a,b,c,rfl⟩
def len4 {l:List α} (h:l.length=4):∃ a b c d,l=[a,b,c,d]:=by
 match l,h with
 | [a,b,c,d],_=>exact ⟨a,b,c,d,rfl⟩
def m18 (s:zB) (q:zC):zB×zD:=bif (aut q).Session==int q 0 then (s,rs 8) else dn s (seV s (int q 0) (rnm s (hnd q 0)) (blb q 0) (int q 1)).1 (seV s (int q 0) (rnm s (hnd q 0)) (blb q 0) (int q 1)).2
def m19 (s:zB) (q:zC):zB×zD:=if (ldD q).2≠0 then (s,rs (ldD q).2) else dn s (apV s (int q 0) (ldD q).1 (blb q 1) (blb q 2)).1 (apV s (int q 0) (ldD q).1 (blb q 1) (blb q 2)).2
def m20 (s:zB) (q:zC):zB×zD:=bif ((sfV s (int q 0)).2 != 0)||((sfV s (int q 0)).1.Kind==1) then (s,rs 8) else (s,⟨0,[],[(sfV s (int q 0)).1.Digest],[]⟩)
def bdy (s:zB) (loc:Int) (q:zC):zB×zD:=
 bif q.Code==1 then m1 s q else bif q.Code==2 then m2 s q else bif q.Code==4 then m4 s else bif q.Code==5 then m5 s q else bif q.Code==6 then m6 s loc q else bif q.Code==7 then m7 s loc q else bif q.Code==8 then m8 s loc q else
 bif q.Code==9 then prV s q else bif q.Code==10 then crO s q else bif q.Code==11 then ldV s q else bif q.Code==12 then flV s q else bif q.Code==13 then usV s q else bif q.Code==14 then snV s q else bif q.Code==15 then qtV s q else
 bif q.Code==16 then m16 s q else bif q.Code==17 then m17 s q else bif q.Code==18 then m18 s q else bif q.Code==19 then m19 s q else bif q.Code==20 then m20 s q else bif q.Code==21 then m21 s q else bif q.Code==22 then m22 s q else
 bif q.Code==30 then m30 s q else bif q.Code==31 then m31 s else bif q.Code==32 then m32 s else bif q.Code==33 then m33 s q else mIx s q
def cnt (k:RqS q) (hc:q.Code=c) {a b i:Nat} (e:shp c=(A4.mk (a:Int) (b:Int) (i:Int) n,true)):q.Handles.length=a/\q.Auths.length=b/\q.Ints.length=i/\(0<=n->(q.Blobs.length:Int)=n):=by
 have h1:=k.h;have h2:=k.a;have h3:=k.i;have h4:=k.b;rw [hc,e] at h1 h2 h3 h4;simp only at h1 h2 h3 h4;exact ⟨jh,jh,jh,λ_=>jh⟩
structure AlQ (s:zB) (q:zC):Prop where
 c9:q.Code=9->0<=hnd q 0/\hnd q 0<=2
 ob:q.Code=10∨q.Code=11∨q.Code=13∨q.Code=14∨q.Code=15->(obf s (hnd q 0)).isSome=true
 ex:q.Code=18->exs s (hnd q 0)=true
 ix:23<=q.Code/\q.Code<=29->(ixf s (hnd q 1)).isSome=true
 au:q.Code=30->0<=hnd q 0/\hnd q 0<=3
 st:q.Code≠1->s.Volatile.Started=true
def yNz (r:zD) (h:r.Nonces=[]):zD.mk r.Err r.Ints r.Blobs []=r:=by obtain ⟨a,b,c,d⟩:=r;simp only at h;subst h;rfl
def tl3 (h:r.2.Nonces=[]):some (r.1,zD.mk r.2.Err r.2.Ints r.2.Blobs [])=some r:=congrArg some (Prod.ext rfl (yNz _ h))
def tl2 (h:r.2.Nonces=[]) (hi:r.2.Ints=[]):some (r.1,zD.mk r.2.Err [] r.2.Blobs [])=some r:=by rw [<- hi];exact tl3 h
def tl1 (h:r.2.Nonces=[]) (hi:r.2.Ints=[]) (hb:r.2.Blobs=[]):some (r.1,zD.mk r.2.Err [] [] [])=some r:=by
 have:zD.mk r.2.Err [] [] []=zD.mk r.2.Err r.2.Ints r.2.Blobs []:=by rw [hi,hb]
 rw [this];exact tl3 h
def zY4 {t:zB} (h:zX s) {x:zS} (hx:zNo x) {b:List By} (h1:b.length<=8) (h2:(b.map (·.length)).sum<=1500):Gd s (ldR s x b):=by
 unfold ldR;cases frO s with
 | some k=>exact ⟨λe=>absurd rfl e,rfl,yDj h hx,jk,h1,h2⟩
 | none=>exact tJ h _
def zF8 (h:kH p):(enc p).length<=80:=by
 have h1:=rH [u8 p.Kind,u8 p.Attr,u8 p.Height] p.Policy 32 (by have:=h.pl;omega);have h2:=rH (wE [u8 p.Kind,u8 p.Attr,u8 p.Height] p.Policy) p.Unique 32 (by rw [h.un];split<;>decide);simp only [Q6,Qc] at h1;unfold enc;omega
def zJr {a:zK} {t:zK} (h:zBn t):(zH8 a p t).length<=400:=by
 have e1:=rH [] t.Auth 32 h.au;have e2:=rH (wE [] t.Auth) t.Seed 32 h.sd;have e3:=rH (wE (wE [] t.Auth) t.Seed) t.Data 128 h.dt;have e4:(zEt t).length<=198:=by unfold zEt;simp only [Qc] at e1;omega
 unfold zH8 zMy;split
 ·exact Q1 _
 ·have l1:=rH [] ((nm p).take 16) 16 jl;have l2:=rH (wE [] ((nm p).take 16)) (zJ1 (zGa a p) ((nm p).take 16) (zEt t)) 198 (by rw [zF1];exact e4);rw [Q8,zIb];simp only [Qc] at l1;omega
def yH8 (h:zX s) {x:zS} (hx:kH x.Public) (m:By):(sgV s x m).2.1.length<=700:=by
 unfold sgV;by_cases g:(lfV s x).2.2=0
 ·rw [if_neg (by simp [g])];obtain ⟨a,b⟩:=(zRn h hx).2 g;have h3:x.Public.Height.toNat<=3:=by have:=hx.h3;omega
  have:=zSa x.Sensitive.Seed x.Public.Height.toNat (lfV s x).2.1.toNat m h3 jh;show (sig _ _ _ m).length<=700;omega
 ·rw [if_pos g];exact Q1 _
def yDq (a:wT) (h1:a.Key.length<=32) (h2:a.Nonce.length<=128) (h3:a.Digest.length<=32):(atV a).length<=300:=by
 have e1:=rH aQ a.Key 32 h1;have e2:=rH (wE aQ a.Key) a.Nonce 128 h2;have e0:aQ.length=4:=rfl;unfold atV at2 at1;simp only [Q8,yL,Q6,Qc];omega
def yBf (h:zX s) (q:zC):Gd s (prV s q):=by
 unfold prV;by_cases e:(pmM s q).2.2=0
 ·rw [if_neg (by simp [e])];obtain ⟨a,b⟩:=zPy (secret:=dv (s.Stable.Seeds.getD (hnd q 0).toNat []) pmL (pmC q) 32) (t:=tpl q) (auth:=blb q 1) (data:=blb q 2) e;have h1:=zF8 a;have h2:(enc (pmM s q).1).length<=80:=h1;have h3:=zB8 (pmM s q).1;exact zY4 (t:=s) h (zZj a b _) (show (2:Nat)<=8 by decide) jl
 ·rw [if_pos e];exact tJ h _
def zZf (h:zX s) (q:zC):Gd s (crO s q):=by
 unfold crO;cases (pob s q).Public.Kind != 1
 case true=>exact tJ h _
 simp only [cond_false];by_cases e:(crM s q).2.2=0
 ·rw [if_neg (by simp [e])];obtain ⟨a,b⟩:=zPy (secret:=rnB s 32) (t:=tpl q) (auth:=blb q 1) (data:=blb q 2) e;have h1:(enc (crM s q).1).length<=80:=zF8 a;have h2:(zH8 (pob s q).Sensitive (crM s q).1 (crM s q).2.1).length<=400:=zJr b;exact yNx (zJd h) (Q1 _) jh
 ·rw [if_pos e];exact tJ h _
def yB5 (h:zX s) (q:zC):Gd s (ldV s q):=by
 unfold ldV;cases (pob s q).Public.Kind != 1
 case true=>exact tJ h _
 simp only [cond_false];by_cases e:(ldD q).2=0
 case neg=>rw [if_pos e];exact tJ h _
 rw [if_neg (by simp [e])];split
 ·exact tJ h _
 ·have h3:=zB8 (ldD q).1;exact zY4 (t:=s) h (zZj (zQr e) zZ2 _) (show (1:Nat)<=8 by decide) jl
def zZ3 (h:zX s) (q:zC):Gd s (flV s q):=by
 have k:=yM6 h q;unfold flV at k ⊢;cases q1:obf s (int q 0) with
 | some i=>rw [q1] at k;exact zCc k
 | none=>
  rw [q1] at k;cases q2:ssf s (int q 0) with
  | some i=>rw [q2] at k;exact zCc k
  | none=>exact tJ h _
def yA9 (h:zX s) (e:(obf s (hnd q 0)).isSome=true):Gd s (usV s q):=by
 have hd:=(zB4 h e).2.dt;unfold usV;cases (pob s q).Public.Kind != 3
 ·exact zO0 h (Q1 _) jh
 ·exact tJ h _
def zYp (h:zX s) (e:(obf s (hnd q 0)).isSome=true) (m:By) {f:By->List By} (hf:∀ x:By,x.length<=700->(f x).length<=8/\((f x).map (·.length)).sum<=1500):Gd s (snR s q m f):=by
 unfold snR;split
 ·exact tJ h _
 ·obtain ⟨a,b⟩:=hf _ (yH8 h (zB4 h e).1 m);exact ⟨λe=>absurd rfl e,rfl,yM5 h (zB4 h e).1 m,Q1 _,a,b⟩
def yAa (h:zX s) (e:(obf s (hnd q 0)).isSome=true):Gd s (snV s q):=by
 unfold snV;split
 ·exact tJ h _
 ·exact zYp h e _ λx hx=>⟨show (1:Nat)<=8 by decide,jl⟩
def zYd (h:zX s) (e:(obf s (hnd q 0)).isSome=true):Gd s (qtV s q):=by
 unfold qtV;by_cases g:snE s q true=0
 case neg=>rw [if_pos g];exact tJ h _
 rw [if_neg (by simp [g])];split
 ·exact tJ h _
 ·have hb:(blb q 0).length<=128:=by
   rw [yJk] at g;cases g1:(pob s q).Public.Kind != 2<;>rw [g1] at g
   case true=>cases g
   cases g2:xB .i64 (pob s q).Public.Attr 4==0<;>rw [g2] at g
   case true=>cases g
   cases g3:decide (128<((blb q 0).length:Int))<;>rw [g3] at g
   case true=>cases g
   have:=dF g3;omega
  have ha:(atV (qtA s q)).length<=300:=yDq _ (by show (nm _).length<=32;rw [zB8];decide) hb (zT4 _ _);exact zYp h e _ λx hx=>⟨show (2:Nat)<=8 by decide,jl⟩
def yC7 (h:zX s) (q:zC):Gd s (m18 s q):=by
 unfold m18;cases (aut q).Session==int q 0
 ·exact zKt h λe=>yNl h e
 ·exact tJ h _
def yCz (h:zX s) (q:zC):Gd s (m19 s q):=by
 unfold m19;split
 ·exact tJ h _
 ·exact zKt h λe=>yMo h e
def zYi (h:zX s) (q:zC):Gd s (m20 s q):=by
 unfold m20;cases ((sfV s (int q 0)).2 != 0)||((sfV s (int q 0)).1.Kind==1)
 ·exact zO0 h (Q1 _) (by have:=(zT7 h (int q 0)).2;omega)
 ·exact tJ h _
def fD (k:RqS q):1<=q.Code/\q.Code<=33/\q.Code≠3:=by
 have h:=k.s;unfold shp at h;by_cases g:0<=q.Code/\q.Code<=33
 ·rw [if_pos g] at h;obtain ⟨n,hn⟩:=Q5 g.1;rw [hn] at h ⊢;rw [Qa] at h;have key:∀ n:Fin 34,(shT.getD n.val shD).2=true->1<=(n.val:Int)/\(n.val:Int)<=33/\(n.val:Int)≠3:=by decide +kernel
  exact key ⟨n,jh⟩ h
 ·rw [if_neg g] at h;cases h
def zRa (h:zX s) (al:AlQ s q) (k:RqS q) (loc:Int):Gd s (bdy s loc q):=by
 have hk:=fD k;unfold bdy;cases h1:q.Code==1
 case true=>exact yOn h q
 cases h2:q.Code==2
 case true=>exact yPz h q
 cases h4:q.Code==4
 case true=>exact yQa h
 cases h5:q.Code==5
 case true=>exact yJw h q
 cases h6:q.Code==6
 case true=>exact yI1 h loc q
 cases h7:q.Code==7
 case true=>exact yJa h loc q
 cases h8:q.Code==8
 case true=>exact yJz h loc q
 cases h9:q.Code==9
 case true=>exact yBf h q
 cases h10:q.Code==10
 case true=>exact zZf h q
 cases h11:q.Code==11
 case true=>exact yB5 h q
 cases h12:q.Code==12
 case true=>exact zZ3 h q
 cases h13:q.Code==13
 case true=>exact yA9 h (al.ob (by have:=eq_of_beq h13;omega))
 cases h14:q.Code==14
 case true=>exact yAa h (al.ob (by have:=eq_of_beq h14;omega))
 cases h15:q.Code==15
 case true=>exact zYd h (al.ob (by have:=eq_of_beq h15;omega))
 cases h16:q.Code==16
 case true=>exact zX9 h q
 cases h17:q.Code==17
 case true=>exact zZn h q
 cases h18:q.Code==18
 case true=>exact yC7 h q
 cases h19:q.Code==19
 case true=>exact yCz h q
 cases h20:q.Code==20
 case true=>exact zYi h q
 cases h21:q.Code==21
 case true=>exact yMh h q
 cases h22:q.Code==22
 case true=>exact yK3 h q
 cases h30:q.Code==30
 case true=>exact yL1 h q
 cases h31:q.Code==31
 case true=>exact yMq h
 cases h32:q.Code==32
 case true=>exact yLh h
 cases h33:q.Code==33
 case true=>exact yL9 h q
 refine zQi h (al.ix ?_);simp at h1 h2 h4 h5 h6 h7 h8 h9 h10 h11 h12 h13 h14 h15 h16 h17 h18 h19 h20 h21 h22 h30 h31 h32 h33;omega
set_option linter.unusedSectionVars false
def zQg (s:zB) (x:zE×Int) (b:List By):(bif x.2 != 0 then some (s,rs x.2) else some (yBw s x.1,zD.mk 0 [] b []))=some (mR s x b):=by
 unfold mR;by_cases g:x.2=0
 ·rw [if_neg (by simp [g])];exact cf (b0 g) rfl
 ·rw [if_pos g];exact ct (b1 g) rfl
section
variable (h:zX s) (k:RqS q) (loc:Int)
include h k
omit h k in
theorem yPo (s:zB) (q:zC):(m17 s q).2.Ints=[]/\(m17 s q).2.Blobs=[]/\(m17 s q).2.Nonces=[]:=by
 unfold m17;cases !asO q
 ·cases (int q 1==4)&&(ixf s (int q 4)).isNone
  ·exact dn_n _ _ _
  ·exact ⟨rfl,rfl,rfl⟩
 ·exact ⟨rfl,rfl,rfl⟩
end
def yOv (k:RqS q) (h:q.Auths.length≠0):q.Code=9∨q.Code=10∨q.Code=11∨q.Code=13∨q.Code=14∨q.Code=15∨q.Code=18∨q.Code=21∨q.Code=22∨q.Code=30∨q.Code=31∨q.Code=32∨q.Code=33∨(23<=q.Code/\q.Code<=29):=by
 obtain ⟨c1,c2,c3⟩:=fD k;have ha:=k.a;unfold shp at ha;rw [if_pos ⟨jh,c2⟩] at ha;obtain ⟨n,hn⟩:=Q5 (by omega:0<=q.Code);rw [hn] at ha c1 c2 c3 ⊢;rw [Qa] at ha;have key:∀ n:Fin 34,(shT.getD n.val shD).1.a1≠0->(n.val:Int)=9∨(n.val:Int)=10∨(n.val:Int)=11∨(n.val:Int)=13∨(n.val:Int)=14∨(n.val:Int)=15∨(n.val:Int)=18∨(n.val:Int)=21∨(n.val:Int)=22∨(n.val:Int)=30∨(n.val:Int)=31∨(n.val:Int)=32∨(n.val:Int)=33∨(23<=(n.val:Int)/\(n.val:Int)<=29):=by decide +kernel
 exact key ⟨n,jh⟩ (by show (shT.getD n shD).1.a1≠0;omega)
def sS {loc:Int} (hc:q.Code=c) 
  (e:(bif c==1 then m1 s q else bif c==2 then m2 s q else bif c==4 then m4 s else bif c==5 then m5 s q else bif c==6 then m6 s loc q else bif c==7 then m7 s loc q else bif c==8 then m8 s loc q else
 bif c==9 then prV s q else bif c==10 then crO s q else bif c==11 then ldV s q else bif c==12 then flV s q else bif c==13 then usV s q else bif c==14 then snV s q else bif c==15 then qtV s q else
 bif c==16 then m16 s q else bif c==17 then m17 s q else bif c==18 then m18 s q else bif c==19 then m19 s q else bif c==20 then m20 s q else bif c==21 then m21 s q else bif c==22 then m22 s q else
 bif c==30 then m30 s q else bif c==31 then m31 s else bif c==32 then m32 s else bif c==33 then m33 s q else mIx s q)=r):bdy s loc q=r:=by unfold bdy;rw [hc];exact e
def tl4 (h:r.2.Nonces=[]) (hb:r.2.Blobs=[]):some (r.1,zD.mk r.2.Err r.2.Ints [] [])=some r:=by
 obtain ⟨a,b,c,d,e⟩:=r;simp only at h hb;subst h hb;rfl
set_option linter.unusedSectionVars false
def yPj (s:zB) (q:zC):(crO s q).2.Ints=[]:=by
 unfold crO;cases (pob s q).Public.Kind != 1
 ·simp only [cond_false];split<;>rfl
 ·rfl
def yOh (s:zB) (q:zC):(usV s q).2.Ints=[]:=by unfold usV;cases (pob s q).Public.Kind != 3<;>rfl
def yJ0 (s:zB) (q:zC) (m:By) (f:By->List By):(snR s q m f).2.Ints=[]:=by unfold snR;split<;>rfl
def yP1 (s:zB) (q:zC):(snV s q).2.Ints=[]:=by unfold snV;split;rfl;exact yJ0 _ _ _ _
def yN7 (s:zB) (q:zC):(qtV s q).2.Ints=[]:=by
 unfold qtV;split
 ·rfl
 split
 ·rfl
 ·exact yJ0 _ _ _ _
def yAi (s:zB) (q:zC):(m21 s q).2.Ints=[]/\(m21 s q).2.Blobs=[]/\(m21 s q).2.Nonces=[]:=by
 unfold m21;split
 ·exact ⟨rfl,rfl,rfl⟩
 cases zEb s (nwX q).1.N
 ·simp only [cond_false];split<;>exact ⟨rfl,rfl,rfl⟩
 ·exact ⟨rfl,rfl,rfl⟩
def yBr (s:zB) (q:zC):(m22 s q).2.Ints=[]/\(m22 s q).2.Blobs=[]/\(m22 s q).2.Nonces=[]:=by
 unfold m22;cases zEb s (int q 0)<;>exact ⟨rfl,rfl,rfl⟩
def yN0 (s:zB) (q:zC):(m30 s q).2.Ints=[]/\(m30 s q).2.Blobs=[]/\(m30 s q).2.Nonces=[]:=by unfold m30;split<;>exact ⟨rfl,rfl,rfl⟩
def zSt (s:zB) (q:zC) (x:zF) (m e:Int):(wrI s q x m e).2.Ints=[]:=by
 unfold wrI;cases has s.Volatile.WriteLocks (ixx s q).N
 ·simp only [cond_false];split<;>rfl
 ·rfl
def yAf (s:zB) (q:zC):(mIx s q).2.Ints=[]:=by
 unfold mIx;cases q.Code==28
 ·cases q.Code==29
  ·cases q.Code==24
   ·cases q.Code==23
    ·cases q.Code==25
     ·cases q.Code==26
      ·exact zSt _ _ _ _ _
      ·exact zSt _ _ _ _ _
     ·exact zSt _ _ _ _ _
    ·exact zSt _ _ _ _ _
   ·show (m24 s q).2.Ints=[];unfold m24;cases has s.Volatile.ReadLocks (ixx s q).N
    ·simp only [cond_false];split<;>rfl
    ·rfl
  ·rfl
 ·rfl
section
variable (h:zX s) (k:RqS q) (loc:Int) (al:AlQ s q)
include h k
theorem ixQ (hc:23<=q.Code/\q.Code<=29):IxQ q/\q.Auths.length=1:=by
 have e:q.Code=23∨q.Code=24∨q.Code=25∨q.Code=26∨q.Code=27∨q.Code=28∨q.Code=29:=jh
 rcases e with e | e | e | e | e | e | e
 ·obtain ⟨a,b,c,d⟩:=cnt k e (a:=2) (b:=1) (i:=1) (n:=1) jn;have d:=d ji;exact ⟨⟨jh,λ_=>jh,λ_=>jh,λ_=>jh,hc⟩,b⟩
 ·obtain ⟨a,b,c,d⟩:=cnt k e (a:=2) (b:=1) (i:=2) (n:=0) jn;exact ⟨⟨jh,λ_=>jh,λ_=>jh,λ_=>jh,hc⟩,b⟩
 ·obtain ⟨a,b,c,d⟩:=cnt k e (a:=2) (b:=1) (i:=0) (n:=0) jn;exact ⟨⟨jh,λ_=>jh,λ_=>jh,λ_=>jh,hc⟩,b⟩
 ·obtain ⟨a,b,c,d⟩:=cnt k e (a:=2) (b:=1) (i:=0) (n:=1) jn;have d:=d ji;exact ⟨⟨jh,λ_=>jh,λ_=>jh,λ_=>jh,hc⟩,b⟩
 ·obtain ⟨a,b,c,d⟩:=cnt k e (a:=2) (b:=1) (i:=0) (n:=1) jn;have d:=d ji;exact ⟨⟨jh,λ_=>jh,λ_=>jh,λ_=>jh,hc⟩,b⟩
 ·obtain ⟨a,b,c,d⟩:=cnt k e (a:=2) (b:=1) (i:=0) (n:=0) jn;exact ⟨⟨jh,λ_=>jh,λ_=>jh,λ_=>jh,hc⟩,b⟩
 ·obtain ⟨a,b,c,d⟩:=cnt k e (a:=2) (b:=1) (i:=0) (n:=0) jn;exact ⟨⟨jh,λ_=>jh,λ_=>jh,λ_=>jh,hc⟩,b⟩
include al
theorem ma9 (hc:q.Code=9):True/\nA s q=some (prV s q):=by
 obtain ⟨a,b,c,d⟩:=cnt k hc (a:=1) (b:=1) (i:=3) (n:=3) jn;have d:=d ji;have g:=al.c9 hc;exact ⟨trivial,zN0 h k.ok jh jh jh g.1 g.2⟩
theorem ma10 (hc:q.Code=10):True/\lI s q=some (crO s q):=by
 obtain ⟨a,b,c,d⟩:=cnt k hc (a:=1) (b:=1) (i:=3) (n:=3) jn;have d:=d ji;have g:=al.ob (.inl hc);exact ⟨trivial,zRi h k.ok jh jh jh g⟩
theorem ma11 (hc:q.Code=11):True/\cH s q=some (ldV s q):=by
 obtain ⟨a,b,c,d⟩:=cnt k hc (a:=1) (b:=1) (i:=0) (n:=2) jn;have d:=d ji;have g:=al.ob (.inr (.inl hc));exact ⟨trivial,zXu h k.ok jh jh g⟩
theorem ma13 (hc:q.Code=13):True/\mG s q=some (usV s q):=by
 obtain ⟨a,b,c,d⟩:=cnt k hc (a:=1) (b:=1) (i:=0) (n:=0) jn;have g:=al.ob jh;exact ⟨trivial,zP8 h k.ok jh g⟩
theorem ma14 (hc:q.Code=14):True/\dR s q=some (snV s q):=by
 obtain ⟨a,b,c,d⟩:=cnt k hc (a:=1) (b:=1) (i:=0) (n:=1) jn;have d:=d ji;have g:=al.ob jh;exact ⟨trivial,zV3 h k.ok jh jh g⟩
theorem ma15 (hc:q.Code=15):True/\hU s q=some (qtV s q):=by
 obtain ⟨a,b,c,d⟩:=cnt k hc (a:=1) (b:=1) (i:=2) (n:=1) jn;have d:=d ji;have g:=al.ob jh;exact ⟨trivial,zVi h k.ok jh jh jh g⟩
theorem ma21 (hc:q.Code=21):wN s q=some (m21 s q)/\mN s q=some (m21 s q):=by
 obtain ⟨a,b,c,d⟩:=cnt k hc (a:=1) (b:=1) (i:=4) (n:=2) jn;have d:=d ji;obtain ⟨n1,n2,n3⟩:=yAi s q;refine ⟨?_,zQh h jh jh⟩;unfold wN;rw [hc];exact cf rfl (cf rfl (cf rfl (cf rfl (cf rfl (cf rfl (cf rfl (ct rfl (bd (zRm h jh jh) (tl1 n3 n1 n2)))))))))
theorem ma22 (hc:q.Code=22):wN s q=some (m22 s q)/\pE s q=some (m22 s q):=by
 obtain ⟨a,b,c,d⟩:=cnt k hc (a:=1) (b:=1) (i:=1) (n:=0) jn;obtain ⟨n1,n2,n3⟩:=yBr s q;have i0:=k.i0 _ (zCf (d:=0) (show 0<q.Ints.length by omega));refine ⟨?_,zLd h jh i0.1 i0.2⟩;unfold wN;rw [hc];exact cf rfl (cf rfl (cf rfl (cf rfl (cf rfl (cf rfl (cf rfl (cf rfl (ct rfl (bd (sA (i:=0) jh) (bd (zL6 h q) (tl1 n3 n1 n2)))))))))))
theorem mg30 (hc:q.Code=30):True/\eP s q=some (m30 s q):=by
 obtain ⟨a,b,c,d⟩:=cnt k hc (a:=1) (b:=1) (i:=0) (n:=1) jn;have d:=d ji;have g:=al.au hc;obtain ⟨n,hn⟩:=Q5 g.1;have ll:=h.al;unfold eP m30;constructor
 ·trivial
 ·refine bd (mM (i:=0) jh) ?_;by_cases g2:32<(blb q 0).length
  ·rw [if_pos g2];exact ct (decide_eq_true jh) rfl
  ·rw [if_neg g2];refine cf (decide_eq_false jh) (bd (ap0 jh) (bd (bQ (i:=0) jh) (bd (mM (i:=0) jh) ?_)));rw [hn];exact zFd jh _
theorem mg31 (hc:q.Code=31):True/\cL s=some (m31 s):=by
 have ll:=h.al;have ls:=h.sl;constructor
 ·trivial
 ·obtain ⟨x,y,z,hs⟩:=len3 ls;obtain ⟨u,v,w,t,ha⟩:=len4 ll;unfold cL m31 clS;refine bd (zHp h 32).1 ?_;rw [hs,ha];rfl
theorem yDi (loc:Int) (c:q.Code=21∨q.Code=22∨q.Code=24∨q.Code=25):wN s q=some (bdy s loc q)/\(bdy s loc q).2.Ints=[]:=by
 have ix:q.Code=24∨q.Code=25->wN s q=some (bdy s loc q)/\(bdy s loc q).2.Ints=[]:=λc2=>by
  have hc:23<=q.Code/\q.Code<=29:=jh
  obtain ⟨ix,hb⟩:=ixQ h k hc;have ei:=al.ix hc;have e:=zNf h k.ok ix ei c2;have nq:∀ c:Int,c<23∨29<c->(q.Code==c)=false:=λc hh=>c1' jh;have eb:bdy s loc q=mIx s q:=by
   unfold bdy;rw [nq 1 ji,nq 2 ji,nq 4 ji,nq 5 ji,nq 6 ji,nq 7 ji,nq 8 ji,nq 9 ji,nq 10 ji,nq 11 ji,nq 12 ji,nq 13 ji,nq 14 ji,nq 15 ji,nq 16 ji,nq 17 ji,nq 18 ji,nq 19 ji,nq 20 ji,nq 21 ji,nq 22 ji,nq 30 ji,nq 31 ji,nq 32 ji,nq 33 ji];rfl
  rw [eb];refine ⟨?_,yAf s q⟩;unfold wN;rw [nq 9 ji,nq 10 ji,nq 11 ji,nq 13 ji,nq 14 ji,nq 15 ji,nq 18 ji,nq 21 ji,nq 22 ji,nq 30 ji,nq 31 ji,nq 32 ji,nq 33 ji];exact bd e (tl2 (zQi h ei).n (yAf s q))
 rcases c with hc | hc | hc | hc
 ·rw [sS (r:=m21 s q) hc rfl];exact ⟨(ma21 h k al hc).1,(yAi s q).1⟩
 ·rw [sS (r:=m22 s q) hc rfl];exact ⟨(ma22 h k al hc).1,(yBr s q).1⟩
 ·exact ix (.inl hc)
 ·exact ix (.inr hc)
end
set_option linter.unusedSectionVars false
section
variable (h:zX s) (k:RqS q) (loc:Int) (al:AlQ s q)
include h k
theorem rm5 (hc:q.Code=5):vM s loc q=some (m5 s q):=by
 obtain ⟨_,_,c,_⟩:=cnt k hc (a:=0) (b:=0) (i:=2) (n:=0) jn;unfold vM m5;rw [hc];refine bd (a:=.inl (if (vlV s.Volatile.Registers (int q 0) (int q 1)).2≠0 then (s,rs (vlV s.Volatile.Registers (int q 0) (int q 1)).2) else (s,⟨0,[s.Volatile.Registers.Updates],[(vlV s.Volatile.Registers (int q 0) (int q 1)).1],[]⟩))) (ct rfl (bd (sA (i:=0) jh) (bd (sA (i:=1) jh) (bd (zJ2 h.rg _ _) ?_)))) rfl;dsimp only;by_cases g:(vlV s.Volatile.Registers (int q 0) (int q 1)).2=0
 ·rw [if_neg (show ¬ (vlV s.Volatile.Registers (int q 0) (int q 1)).2≠0 by simp [g])];exact cf (b0 g) rfl
 ·rw [if_pos g];exact ct (b1 g) rfl
theorem rm6 (hc:q.Code=6):vM s loc q=some (m6 s loc q):=by
 obtain ⟨_,_,c,_⟩:=cnt k hc (a:=0) (b:=0) (i:=1) (n:=2) jn;unfold vM m6;rw [hc];refine bd (cf rfl (ct rfl (bd (sA (i:=0) jh) (bd (zB1 h.rg _ _ (yDk k.ok)) rfl)))) ?_;exact zQg s _ []
theorem rm7 (hc:q.Code=7):vM s loc q=some (m7 s loc q):=by
 obtain ⟨_,_,c,d⟩:=cnt k hc (a:=0) (b:=0) (i:=1) (n:=1) jn;have d:=d ji;have l0:=zBf k.ok 0;unfold vM m7;rw [hc];refine bd (cf rfl (cf rfl (ct rfl (bd (mM (i:=0) jh) (bd (yJg h.rg jh) (bd (sA (i:=0) jh) (bd (mM (i:=0) jh) (bd (zJ0 h.rg _ _ _) rfl)))))))) ?_;exact zQg s _ _
theorem rm8 (hc:q.Code=8):vM s loc q=some (m8 s loc q):=by
 obtain ⟨_,_,c,_⟩:=cnt k hc (a:=0) (b:=0) (i:=1) (n:=0) jn;unfold vM m8;rw [hc];refine bd (cf rfl (cf rfl (cf rfl (bd (sA (i:=0) jh) (bd (zJ4 h.rg _ _) rfl))))) ?_;exact zQg s _ []
theorem rs16 (hc:q.Code=16):wF s q=some (m16 s q):=by
 obtain ⟨_,_,c,_⟩:=cnt k hc (a:=0) (b:=0) (i:=1) (n:=0) jn;unfold wF m16;rw [hc];refine ct rfl (bd (sA (i:=0) jh) (bd (zNm h _) ?_));dsimp only;by_cases g:(opV s (int q 0)).2.2=0
 ·rw [if_neg (show ¬ (opV s (int q 0)).2.2≠0 by simp [g])];obtain ⟨a,j,hj,e⟩:=yDc h g;have ih:I64 (opV s (int q 0)).2.1:=by rw [e];exact ⟨jh,jh⟩
  exact cf (b0 g) (bd (zCy a ih) rfl)
 ·rw [if_pos g];exact ct (b1 g) rfl
theorem rs17 (hc:q.Code=17):wF s q=some (m17 s q):=by
 obtain ⟨_,_,c,_⟩:=cnt k hc (a:=0) (b:=0) (i:=6) (n:=-1) jn;obtain ⟨n1,n2,n3⟩:=yPo s q;unfold wF;rw [hc];exact cf rfl (ct rfl (bd (zQt h k.ok jh) (tl1 n3 n1 n2)))
theorem rs19 (hc:q.Code=19):wF s q=some (m19 s q):=by
 obtain ⟨_,_,c,d⟩:=cnt k hc (a:=0) (b:=0) (i:=1) (n:=3) jn;have d:=d ji;have l0:=zBf k.ok 0;have l2:=zBf k.ok 2;unfold wF m19;rw [hc];refine cf rfl (cf rfl (cf rfl (ct rfl (bd (mM (i:=0) jh) (bd (zM4 _ jh) ?_)))));show (bif (ldD q).2 != 0 then _ else _)=_;by_cases g:(ldD q).2=0
 ·rw [if_neg (show ¬ (ldD q).2≠0 by simp [g])];have ok:=zQr g;have hu:(ldD q).1.Unique.length<2 ^ 40:=by rw [ok.un];split<;>decide
  exact cf (b0 g) (bd (sA (i:=0) jh) (bd (mM (i:=1) jh) (bd (mM (i:=2) jh) (bd (zOu h (zGi k.ok jh) hu jh) (bd (aM _ _ _) (congrArg some (zLf _ _ _)))))))
 ·rw [if_pos g];exact ct (b1 g) rfl
theorem rs20 (hc:q.Code=20):wF s q=some (m20 s q):=by
 obtain ⟨_,_,c,_⟩:=cnt k hc (a:=0) (b:=0) (i:=1) (n:=0) jn;have e:=zCy h (zGi k.ok (i:=0) jh);unfold wF m20;rw [hc];generalize sfV s (int q 0)=w at *;refine cf rfl (cf rfl (cf rfl (cf rfl (bd (sA (i:=0) jh) (bd e (bd (oO _ _) ?_))))));cases (w.2 != 0)||(w.1.Kind==1)<;>rfl
include al
theorem rs18 (hc:q.Code=18):wF s q=some (m18 s q):=by
 obtain ⟨a,b,c,d⟩:=cnt k hc (a:=1) (b:=1) (i:=2) (n:=1) jn;have d:=d ji;have sy:(int q 0==(aut q).Session)=((aut q).Session==int q 0):=by
  by_cases e:int q 0=(aut q).Session
  ·rw [c0' e,c0' e.symm]
  ·rw [c1' e,c1' (λg=>e g.symm)]
 unfold wF m18;rw [hc];refine cf rfl (cf rfl (ct rfl (bd (sA (i:=0) jh) (bd (zYy jh) ?_))));rw [sy];cases (aut q).Session==int q 0
 case true=>rfl
 exact cf rfl (bd (sA (i:=0) jh) (bd (bQ (i:=0) jh) (bd (zQe h (qX k.ok jh)) (bd (mM (i:=0) jh) (bd (sA (i:=1) jh) (bd (zPo h (zGi k.ok jh) _ _ _) (bd (aM _ _ _) (congrArg some (zLf _ _ _)))))))))
theorem zO6:yS s loc q=some (bdy s loc q):=by
 obtain ⟨c1,c2,c3⟩:=fD k;by_cases hx:23<=q.Code/\q.Code<=29
 ·obtain ⟨ix,hb⟩:=ixQ h k hx;have ei:=al.ix hx;have e:=zUb h k.ok ix ei;have nq:∀ c:Int,c<23∨29<c->(q.Code==c)=false:=λc hh=>c1' jh;unfold yS bdy;rw [nq 1 ji,nq 2 ji,nq 4 ji,nq 5 ji,nq 6 ji,nq 7 ji,nq 8 ji,nq 9 ji,nq 10 ji,nq 11 ji,nq 12 ji,nq 13 ji,nq 14 ji,nq 15 ji,nq 16 ji,nq 17 ji,nq 18 ji,nq 19 ji,nq 20 ji,nq 21 ji,nq 22 ji,nq 30 ji,nq 31 ji,nq 32 ji,nq 33 ji];exact cf rfl (cf rfl (cf rfl (bd (a:=false) rfl (cf rfl (bd (a:=false) rfl (cf rfl (bd (a:=false) rfl (cf rfl (cf rfl (cf rfl (cf rfl (cf rfl (cf rfl (cf rfl (bd e (tl2 (zQi h ei).n (yAf s q)))))))))))))))))
 have hk:q.Code=1∨q.Code=2∨q.Code=4∨q.Code=5∨q.Code=6∨q.Code=7∨q.Code=8∨q.Code=9∨q.Code=10∨q.Code=11∨q.Code=12∨q.Code=13∨q.Code=14∨q.Code=15∨q.Code=16∨q.Code=17∨q.Code=18∨q.Code=19∨q.Code=20∨q.Code=21∨q.Code=22∨q.Code=30∨q.Code=31∨q.Code=32∨q.Code=33:=jh
 rcases hk with hc | hc | hc | hc | hc | hc | hc | hc | hc | hc | hc | hc | hc | hc | hc | hc | hc | hc | hc | hc | hc | hc | hc | hc | hc
 ·rw [sS (r:=m1 s q) hc rfl];obtain ⟨_,_,c,_⟩:=cnt k hc (a:=0) (b:=0) (i:=1) (n:=0) jn;have e:=(zS6 h.a0 h.a3 (int q 0) (.inr h.sn.1)).1;have he:=yPc s (int q 0);have ht:=λg=>yNm (s:=s) (m:=int q 0) g;unfold yS m1;rw [hc];generalize suV s (int q 0)=x at *;obtain ⟨t,er⟩:=x;exact ct rfl (bd (sA (i:=0) jh) (bd e (bd (aM _ _ _) (yJf he λg=>by rw [(Prod.mk.inj (ht g)).1];rfl))))
 ·rw [sS (r:=m2 s q) hc rfl];obtain ⟨_,_,c,_⟩:=cnt k hc (a:=0) (b:=0) (i:=1) (n:=0) jn;have e:=(yHm s (int q 0)).1;have he:=yP6 s (int q 0);have ht:=λg=>yKg (s:=s) (m:=int q 0) g;unfold yS m2;rw [hc];generalize sdV s (int q 0)=x at *;obtain ⟨t,er⟩:=x;exact cf rfl (ct rfl (bd (sA (i:=0) jh) (bd e (bd (aM _ _ _) (yJf he λg=>by rw [(Prod.mk.inj (ht g)).1];rfl)))))
 ·rw [sS (r:=m4 s) hc rfl];unfold yS m4 zCi;rw [hc];refine cf rfl (cf rfl (ct rfl ?_));cases s.Volatile.Safe<;>rfl
 ·rw [sS (r:=m5 s q) hc rfl];have e:=rm5 h k loc hc;unfold yS;rw [hc];exact cf rfl (cf rfl (cf rfl (bd (a:=true) rfl (ct rfl (bd e (tl3 (yJw h q).n))))))
 ·rw [sS (r:=m6 s loc q) hc rfl];have e:=rm6 h k loc hc;unfold yS;rw [hc];exact cf rfl (cf rfl (cf rfl (bd (a:=true) rfl (ct rfl (bd e (tl3 (yI1 h loc q).n))))))
 ·rw [sS (r:=m7 s loc q) hc rfl];have e:=rm7 h k loc hc;unfold yS;rw [hc];exact cf rfl (cf rfl (cf rfl (bd (a:=true) rfl (ct rfl (bd e (tl3 (yJa h loc q).n))))))
 ·rw [sS (r:=m8 s loc q) hc rfl];have e:=rm8 h k loc hc;unfold yS;rw [hc];exact cf rfl (cf rfl (cf rfl (bd (a:=true) rfl (ct rfl (bd e (tl3 (yJz h loc q).n))))))
 ·rw [sS (r:=prV s q) hc rfl];have e:=(ma9 h k al hc).2;have n:=(yBf h q).n;unfold yS uH;rw [hc];exact cf rfl (cf rfl (cf rfl (bd (a:=false) rfl (cf rfl (bd (a:=true) rfl (ct rfl (bd (ct rfl (bd e (tl3 n))) (tl3 n))))))))
 ·rw [sS (r:=crO s q) hc rfl];have e:=(ma10 h k al hc).2;have n:=(zZf h q).n;unfold yS uH;rw [hc];exact cf rfl (cf rfl (cf rfl (bd (a:=false) rfl (cf rfl (bd (a:=true) rfl (ct rfl (bd (cf rfl (ct rfl (bd e (tl2 n (yPj s q))))) (tl3 n))))))))
 ·rw [sS (r:=ldV s q) hc rfl];have e:=(ma11 h k al hc).2;have n:=(yB5 h q).n;unfold yS uH;rw [hc];exact cf rfl (cf rfl (cf rfl (bd (a:=false) rfl (cf rfl (bd (a:=true) rfl (ct rfl (bd (cf rfl (cf rfl (ct rfl (bd e (tl3 n))))) (tl3 n))))))))
 ·rw [sS (r:=flV s q) hc rfl];obtain ⟨_,_,c,_⟩:=cnt k hc (a:=0) (b:=0) (i:=1) (n:=0) jn;have e:=zVc h k.ok (show 0<q.Ints.length by omega);have n:=(zZ3 h q).n;have en:(flV s q).2.Ints=[]/\(flV s q).2.Blobs=[]:=by
   unfold flV;cases obf s (int q 0) with
   | some i=>exact ⟨rfl,rfl⟩
   | none=>cases ssf s (int q 0)<;>exact ⟨rfl,rfl⟩
  unfold yS uH;rw [hc];exact cf rfl (cf rfl (cf rfl (bd (a:=false) rfl (cf rfl (bd (a:=true) rfl (ct rfl (bd (cf rfl (cf rfl (cf rfl (ct rfl (bd e (tl1 n en.1 en.2)))))) (tl3 n))))))))
 ·rw [sS (r:=usV s q) hc rfl];have e:=(ma13 h k al hc).2;have n:=(yA9 h (al.ob jh)).n;unfold yS uH;rw [hc];exact cf rfl (cf rfl (cf rfl (bd (a:=false) rfl (cf rfl (bd (a:=true) rfl (ct rfl (bd (cf rfl (cf rfl (cf rfl (cf rfl (ct rfl (bd e (tl2 n (yOh s q)))))))) (tl3 n))))))))
 ·rw [sS (r:=snV s q) hc rfl];have e:=(ma14 h k al hc).2;have n:=(yAa h (al.ob jh)).n;unfold yS uH;rw [hc];exact cf rfl (cf rfl (cf rfl (bd (a:=false) rfl (cf rfl (bd (a:=true) rfl (ct rfl (bd (cf rfl (cf rfl (cf rfl (cf rfl (cf rfl (ct rfl (bd e (tl2 n (yP1 s q))))))))) (tl3 n))))))))
 ·rw [sS (r:=qtV s q) hc rfl];have e:=(ma15 h k al hc).2;have n:=(zYd h (al.ob jh)).n;unfold yS uH;rw [hc];exact cf rfl (cf rfl (cf rfl (bd (a:=false) rfl (cf rfl (bd (a:=true) rfl (ct rfl (bd (cf rfl (cf rfl (cf rfl (cf rfl (cf rfl (cf rfl (bd e (tl2 n (yN7 s q))))))))) (tl3 n))))))))
 ·rw [sS (r:=m16 s q) hc rfl];have e:=rs16 h k hc;unfold yS;rw [hc];exact cf rfl (cf rfl (cf rfl (bd (a:=false) rfl (cf rfl (bd (a:=false) rfl (cf rfl (bd (a:=true) rfl (ct rfl (bd e (tl3 (zX9 h q).n))))))))))
 ·rw [sS (r:=m17 s q) hc rfl];have e:=rs17 h k hc;unfold yS;rw [hc];exact cf rfl (cf rfl (cf rfl (bd (a:=false) rfl (cf rfl (bd (a:=false) rfl (cf rfl (bd (a:=true) rfl (ct rfl (bd e (tl3 (zZn h q).n))))))))))
 ·rw [sS (r:=m18 s q) hc rfl];have e:=rs18 h k al hc;unfold yS;rw [hc];exact cf rfl (cf rfl (cf rfl (bd (a:=false) rfl (cf rfl (bd (a:=false) rfl (cf rfl (bd (a:=true) rfl (ct rfl (bd e (tl3 (yC7 h q).n))))))))))
 ·rw [sS (r:=m19 s q) hc rfl];have e:=rs19 h k hc;unfold yS;rw [hc];exact cf rfl (cf rfl (cf rfl (bd (a:=false) rfl (cf rfl (bd (a:=false) rfl (cf rfl (bd (a:=true) rfl (ct rfl (bd e (tl3 (yCz h q).n))))))))))
 ·rw [sS (r:=m20 s q) hc rfl];have e:=rs20 h k hc;unfold yS;rw [hc];exact cf rfl (cf rfl (cf rfl (bd (a:=false) rfl (cf rfl (bd (a:=false) rfl (cf rfl (bd (a:=true) rfl (ct rfl (bd e (tl3 (zYi h q).n))))))))))
 ·rw [sS (r:=m21 s q) hc rfl];have e:=(ma21 h k al hc).2;obtain ⟨n1,n2,n3⟩:=yAi s q;unfold yS;rw [hc];exact cf rfl (cf rfl (cf rfl (bd (a:=false) rfl (cf rfl (bd (a:=false) rfl (cf rfl (bd (a:=false) rfl (cf rfl (ct rfl (bd e (tl1 n3 n1 n2)))))))))))
 ·rw [sS (r:=m22 s q) hc rfl];have e:=(ma22 h k al hc).2;obtain ⟨n1,n2,n3⟩:=yBr s q;unfold yS;rw [hc];exact cf rfl (cf rfl (cf rfl (bd (a:=false) rfl (cf rfl (bd (a:=false) rfl (cf rfl (bd (a:=false) rfl (cf rfl (cf rfl (ct rfl (bd e (tl1 n3 n1 n2))))))))))))
 ·rw [sS (r:=m30 s q) hc rfl];have e:=(mg30 h k al hc).2;obtain ⟨n1,n2,n3⟩:=yN0 s q;unfold yS;rw [hc];exact cf rfl (cf rfl (cf rfl (bd (a:=false) rfl (cf rfl (bd (a:=false) rfl (cf rfl (bd (a:=false) rfl (cf rfl (cf rfl (cf rfl (ct rfl (bd e (tl1 n3 n1 n2)))))))))))))
 ·rw [sS (r:=m31 s) hc rfl];have e:=(mg31 h k al hc).2;unfold yS;rw [hc];exact cf rfl (cf rfl (cf rfl (bd (a:=false) rfl (cf rfl (bd (a:=false) rfl (cf rfl (bd (a:=false) rfl (cf rfl (cf rfl (cf rfl (cf rfl (ct rfl (bd e rfl)))))))))))))
 ·rw [sS (r:=m32 s) hc rfl];unfold yS;rw [hc];rfl
 ·rw [sS (r:=m33 s q) hc rfl];obtain ⟨a,b,c,d⟩:=cnt k hc (a:=1) (b:=1) (i:=3) (n:=0) jn;have e:=yN5 s.Stable.Lockout (int q 0) (int q 1) (int q 2);unfold yS m33 dn;rw [hc];generalize lM s.Stable.Lockout (int q 0) (int q 1) (int q 2)=w at *;refine cf rfl (cf rfl (cf rfl (bd (a:=false) rfl (cf rfl (bd (a:=false) rfl (cf rfl (bd (a:=false) rfl (cf rfl (cf rfl (cf rfl (cf rfl (cf rfl (cf rfl (ct rfl (bd (sA (i:=0) jh) (bd (sA (i:=1) jh) (bd (sA (i:=2) jh) (bd e ?_))))))))))))))))));by_cases g:w.2=0
  ·rw [if_neg (by simp [g])];exact cf (b0 g) rfl
  ·rw [if_pos g];exact ct (b1 g) rfl
end
variable {h:Int}
def gA (c:Int):Bool:=(c==10)||((c==11)||((c==13)||((c==14)||(c==15))))
def gB (c:Int):Bool:=(c==21)||(c==22)
def gD (c:Int):Bool:=(c==32)||(c==33)
def alw (s:zB) (q:zC):Bool:=
 bif (q.Handles.length:Int)==0 then true else
 bif q.Code==9 then decide (0<=hnd q 0)&&decide (hnd q 0<=2) else bif gA q.Code then (obf s (hnd q 0)).isSome else bif q.Code==18 then exs s (hnd q 0) else bif gB q.Code then (hnd q 0==1)||(hnd q 0==2) else
 bif q.Code==30 then hrc (hnd q 0) else bif q.Code==31 then (hnd q 0==2)||(hnd q 0==3) else bif gD q.Code then hnd q 0==3 else (ixf s (hnd q 1)).isSome&&((hnd q 0==1)||(hnd q 0==hnd q 1))
def oD2 {c d:Bool}:(bif c then some c else some d:Option Bool)=some (c||d):=by cases c<;>rfl
def zKv (g:hrc h=true):exs s h=true:=by unfold exs fdV;rw [g];rfl
def yPd (k:zX s) (g:(obf s h).isSome=true):exs s h=true:=by
 cases q:obf s h with
 | none=>rw [q] at g;cases g
 | some i=>
  have e1:hrc h=false:=by
   cases g:hrc h
   ·rfl
   ·rw [(zD9 k g).2] at q;cases q
  have e2:ixf s h=none:=by
   cases g:ixf s h with
   | none=>rfl
   | some j=>rw [yOd k g] at q;cases q
  unfold exs fdV;rw [e1,e2,q];rfl
def yO4 (k:zX s) (g:(ixf s h).isSome=true):exs s h=true:=by
 cases q:ixf s h with
 | none=>rw [q] at g;cases g
 | some i=>
  have e1:hrc h=false:=by
   cases g:hrc h
   ·rfl
   ·rw [(zD9 k g).1] at q;cases q
  unfold exs fdV;rw [e1,q];rfl
def hnds (k:RqS q) (h:q.Handles.length≠0):((q.Code=9∨gA q.Code=true∨q.Code=18∨gB q.Code=true∨q.Code=30∨q.Code=31∨gD q.Code=true)/\q.Handles.length=1)∨(23<=q.Code/\q.Code<=29/\q.Handles.length=2):=by
 obtain ⟨c1,c2,c3⟩:=fD k;have ha:=k.h;unfold shp at ha;rw [if_pos ⟨jh,c2⟩] at ha;obtain ⟨n,hn⟩:=Q5 (by omega:0<=q.Code);rw [hn] at ha c1 c2 c3 ⊢;rw [Qa] at ha;have key:∀ n:Fin 34,(shT.getD n.val shD).1.a0≠0->(((n.val:Int)=9∨gA (n.val:Int)=true∨(n.val:Int)=18∨gB (n.val:Int)=true∨(n.val:Int)=30∨(n.val:Int)=31∨gD (n.val:Int)=true)/\(shT.getD n.val shD).1.a0=1)∨(23<=(n.val:Int)/\(n.val:Int)<=29/\(shT.getD n.val shD).1.a0=2):=by decide +kernel
 rcases key ⟨n,jh⟩ (by show (shT.getD n shD).1.a0≠0;omega) with ⟨a,b⟩ | ⟨a,b,c⟩
 ·exact .inl ⟨a,by have b:(shT.getD n shD).1.a0=1:=b;omega⟩
 ·exact .inr ⟨a,b,by have c:(shT.getD n shD).1.a0=2:=c;omega⟩
def gs (c:Int) (h:23<=c/\c<=29):(c==9)=false/\gA c=false/\(c==18)=false/\gB c=false/\(c==30)=false/\(c==31)=false/\gD c=false:=by
 have e:c=23∨c=24∨c=25∨c=26∨c=27∨c=28∨c=29:=jh
 rcases e with rfl | rfl | rfl | rfl | rfl | rfl | rfl<;>decide
def zNg (h:zX s) (k:RqS q):jS s q=some (alw s q):=by
 unfold jS alw;refine cc (λ_=>rfl) λg0=>?_;have hl:q.Handles.length≠0:=by simpa using g0
 have hh:=qX k.ok (show 0<q.Handles.length by omega);refine bd (bQ (i:=0) jh) (cc (λ_=>bd (oA _ _) rfl) λg9=>?_);refine bd (a:=gA q.Code) ?_ (cc (λ_=>bd (rB h hh) ?_) λga=>cc (λ_=>bd (zQ5 h hh) rfl) λg18=>?_)
 ·unfold gA;cases q.Code==10<;>cases q.Code==11<;>cases q.Code==13<;>cases q.Code==14<;>rfl
 ·cases obf s (hnd q 0) with
  | some i=>exact congrArg some (nn i)
  | none=>rfl
 refine bd (a:=gB q.Code) oD2 (cc (λ_=>bd (oO _ _) rfl) λgb=>cc (λ_=>bd (oA _ _) rfl) λg30=>cc (λ_=>bd (oO _ _) rfl) λg31=>?_);refine bd (a:=gD q.Code) oD2 (cc (λ_=>rfl) λgd=>?_);have c:23<=q.Code/\q.Code<=29/\q.Handles.length=2:=by
  rcases hnds k hl with ⟨e,_⟩ | e
  ·rw [ga,gb,gd] at e;simp at g9 g18 g30 g31 e;omega
  ·exact e
 refine bd (bd (bQ (i:=1) jh) (bd (uB h (qX k.ok jh)) ?_)) rfl;cases ixf s (hnd q 1) with
 | some i=>exact ct (nn i) (oO' λ_=>bd (bQ (i:=1) jh) rfl)
 | none=>rfl
def yJ5 (h:zX s) (k:RqS q) (g:alw s q=true):q.Handles.all (exs s)=true:=by
 rw [Qd];intro x hx;have hl:q.Handles.length≠0:=λe=>by rw [List.eq_nil_of_length_eq_zero e] at hx;cases hx
 have g0:((q.Handles.length:Int)==0)=false:=c1' jh;unfold alw at g;rw [g0] at g;rcases hnds k hl with ⟨e,e1⟩ | ⟨e1,e2,e3⟩
 ·have ex:x=hnd q 0:=by
   obtain ⟨i,hi,rfl⟩:=Qj.1 hx;obtain rfl:i=0:=jh
   simp [hnd,hi]
  subst ex;cases q9:q.Code==9<;>rw [q9] at g
  case true=>simp at g;exact zKv (zBt.2 ⟨g.1,jh⟩)
  cases qa:gA q.Code<;>rw [qa] at g
  case true=>exact yPd h g
  cases q18:q.Code==18<;>rw [q18] at g
  case true=>exact g
  cases qb:gB q.Code<;>rw [qb] at g
  case true=>simp at g;exact zKv (zBt.2 ⟨jh,jh⟩)
  cases q30:q.Code==30<;>rw [q30] at g
  case true=>exact zKv g
  cases q31:q.Code==31<;>rw [q31] at g
  case true=>simp at g;exact zKv (zBt.2 ⟨jh,jh⟩)
  cases qd:gD q.Code<;>rw [qd] at g
  case true=>simp at g;exact zKv (zBt.2 ⟨jh,jh⟩)
  rw [qa,qb,qd] at e;simp at q9 q18 q30 q31 e;omega
 ·obtain ⟨b1,b2,b3,b4,b5,b6,b7⟩:=gs q.Code ⟨e1,e2⟩;rw [b1,b2,b3,b4,b5,b6,b7] at g;have g:((ixf s (hnd q 1)).isSome&&((hnd q 0==1)||(hnd q 0==hnd q 1)))=true:=g;simp only [Qi,W3] at g;have h1:=yO4 h g.1;have h0:exs s (hnd q 0)=true:=by
   rcases g.2 with e | e
   ·exact zKv (zBt.2 (by have:=eq_of_beq e;omega))
   ·rw [eq_of_beq e];exact h1
  obtain ⟨i,hi,rfl⟩:=Qj.1 hx;rcases (show i=0∨i=1 by omega) with rfl | rfl
  ·have:q.Handles[0]=hnd q 0:=by simp [hnd,hi]
   rw [this];exact h0
  ·have:q.Handles[1]=hnd q 1:=by simp [hnd,hi]
   rw [this];exact h1
def zOm (h:zX s) (k:RqS q) (c:q.Code=1∨q.Code=4∨q.Code=21∨q.Code=22∨q.Code=24∨q.Code=25):mJ s q=some (alw s q):=by
 have hl64:=k.ok.hl;unfold mJ;refine bd (aJ q.Handles 0 (exs s) jh (v:=false) (λi hi=>?_) ?_) ?_
 ·unfold lJ;refine ct (decide_eq_true jh) (bd (vT (d:=0) hi) (bd (yBk h (k.ok.hi _ (zCf hi))) ?_));rw [yO jh];show (bif !exs s (q.Handles.getD i 0) then _ else _)=_;cases exs s (q.Handles.getD i 0)<;>rfl
 ·unfold lJ;exact cf (decide_eq_false jh) rfl
 cases ga:q.Handles.all (exs s)
 ·have:alw s q=false:=by
   cases e:alw s q
   ·rfl
   ·rw [yJ5 h k e] at ga;cases ga
  rw [this];rfl
 ·show (bif (q.Handles.length:Int)==0 then _ else _)=_;unfold alw;refine cc (λ_=>rfl) λg0=>?_;have hl:q.Handles.length≠0:=by simpa using g0
  have hh:=qX k.ok (show 0<q.Handles.length by omega);have h0:=k.h0 _ (zCf (d:=0) (show 0<q.Handles.length by omega));have h0:0<=hnd q 0/\hnd q 0<=65535:=h0;have hex:exs s (hnd q 0)=true:=Qd.1 ga _ (zCf (d:=0) (show 0<q.Handles.length by omega));refine bd (bQ (i:=0) jh) ?_;have i2:q.Code=24∨q.Code=25->1<q.Handles.length:=λe=>by
   rcases e with e | e
   ·have:=(cnt k e (a:=2) (b:=1) (i:=2) (n:=0) jn).1;omega
   ·have:=(cnt k e (a:=2) (b:=1) (i:=0) (n:=0) jn).1;omega
  have fin:∀ hh:1<q.Handles.length,((sJ s (hnd q 1)).bind λp=>(bif p.2==0 then ((idx q.Handles 1).bind λv=>bif hnd q 0==v then some true else some (hnd q 0==1)) else some false).bind λv=>some v)=some ((ixf s (hnd q 1)).isSome&&((hnd q 0==1)||(hnd q 0==hnd q 1))):=λhh=>by
   refine bd (zC1 h (qX k.ok hh)) ?_;cases ixf s (hnd q 1) with
   | none=>rfl
   | some i=>
    refine bd (a:=(hnd q 0==1)||(hnd q 0==hnd q 1)) (ct rfl (bd (bQ (i:=1) hh) ?_)) rfl;cases hnd q 0==hnd q 1
    ·rw [Bool.or_false];rfl
    ·rw [Bool.or_true];rfl
  rcases c with e | e | e | e | e | e
  ·exact absurd (cnt k e (a:=0) (b:=0) (i:=1) (n:=0) jn).1 hl
  ·exact absurd (cnt k e (a:=0) (b:=0) (i:=0) (n:=0) jn).1 hl
  ·rw [e];exact cf rfl (cf rfl (cf rfl (cf rfl (cf rfl (cf rfl (bd (a:=true) rfl (ct rfl (bd (oO _ _) rfl))))))))
  ·rw [e];exact cf rfl (cf rfl (cf rfl (cf rfl (cf rfl (cf rfl (bd (a:=true) rfl (ct rfl (bd (oO _ _) rfl))))))))
  ·have hh:=i2 (.inl e);rw [e];exact cf rfl (cf rfl (cf rfl (cf rfl (cf rfl (cf rfl (bd (a:=false) rfl (cf rfl (bd (a:=true) rfl (ct rfl (bd (bQ (i:=1) hh) (fin hh)))))))))))
  ·have hh:=i2 (.inr e);rw [e];exact cf rfl (cf rfl (cf rfl (cf rfl (cf rfl (cf rfl (bd (a:=false) rfl (cf rfl (bd (a:=true) rfl (ct rfl (bd (bQ (i:=1) hh) (fin hh)))))))))))
def zTp (k:RqS q) (g:alw s q=true) (st:((q.Code != 1)&&!s.Volatile.Started)=false):AlQ s q:=by
 have hs:q.Code≠1->s.Volatile.Started=true:=λe=>by rw [show (q.Code != 1)=true by simpa using e,W8] at st;simpa using st
 have nz:∀ c a b i n,q.Code=c->shp c=(A4.mk ((a:Nat):Int) ((b:Nat):Int) ((i:Nat):Int) n,true)->a≠0->((q.Handles.length:Int)==0)=false:=λc a b i n hc e ha=>by
  have:=(cnt k hc e).1;exact c1' jh
 unfold alw at g;refine ⟨λhc=>?_,λhc=>?_,λhc=>?_,λhc=>?_,λhc=>?_,hs⟩
 ·have z:=nz 9 1 1 3 3 hc jn ji;rw [z,hc] at g;have g:(decide (0<=hnd q 0)&&decide (hnd q 0<=2))=true:=g;simp at g;exact g
 ·have hz:((q.Handles.length:Int)==0)=false:=by
   rcases hc with e | e | e | e | e
   ·exact nz 10 1 1 3 3 e jn ji
   ·exact nz 11 1 1 0 2 e jn ji
   ·exact nz 13 1 1 0 0 e jn ji
   ·exact nz 14 1 1 0 1 e jn ji
   ·exact nz 15 1 1 2 1 e jn ji
  rw [hz] at g;rcases hc with e | e | e | e | e<;>(rw [e] at g;exact g)
 ·have z:=nz 18 1 1 2 1 hc jn ji;rw [z,hc] at g;exact g
 ·obtain ⟨b1,b2,b3,b4,b5,b6,b7⟩:=gs q.Code hc;have hz:((q.Handles.length:Int)==0)=false:=by
   have e:q.Code=23∨q.Code=24∨q.Code=25∨q.Code=26∨q.Code=27∨q.Code=28∨q.Code=29:=jh
   rcases e with e | e | e | e | e | e | e
   ·exact nz 23 2 1 1 1 e jn ji
   ·exact nz 24 2 1 2 0 e jn ji
   ·exact nz 25 2 1 0 0 e jn ji
   ·exact nz 26 2 1 0 1 e jn ji
   ·exact nz 27 2 1 0 1 e jn ji
   ·exact nz 28 2 1 0 0 e jn ji
   ·exact nz 29 2 1 0 0 e jn ji
  rw [hz,b1,b2,b3,b4,b5,b6,b7] at g;have g:((ixf s (hnd q 1)).isSome&&((hnd q 0==1)||(hnd q 0==hnd q 1)))=true:=g;simp only [Qi] at g;exact g.1
 ·have z:=nz 30 1 1 0 1 hc jn ji;rw [z,hc] at g;exact zBt.1 g
def ex2 (s:zB) (loc:Int) (q:zC):zB×zD:=
 if (bdy s loc q).2.Err≠0 then (s,rs (bdy s loc q).2.Err) else ((afV (bdy s loc q).1 q).1,⟨(bdy s loc q).2.Err,(bdy s loc q).2.Ints,(bdy s loc q).2.Blobs,(afV (bdy s loc q).1 q).2⟩)
def ex1 (s:zB) (loc:Int) (q:zC):zB×zD:=
 if q.Auths.length=0 then bdy s loc q else if (acV s loc q).2≠0 then ((acV s loc q).1,rs (acV s loc q).2) else ex2 s loc q
def exe (s:zB) (loc:Int) (q:zC):zB×zD:=
 if ckV q≠0 then (s,rs (ckV q)) else bif decide (loc<0)||decide (4<loc) then (s,rs 13) else bif (q.Code != 1)&&!s.Volatile.Started then (s,rs 28) else bif !alw s q then (s,rs 7) else ex1 s loc q
theorem zO4 (h:zX s) (l:RqL q) (loc:Int):jV s loc q=some (exe s loc q):=by
 unfold jV exe;refine bd (zQ6 l) ?_;by_cases g:ckV q=0
 case neg=>rw [if_pos g];exact ct (b1 g) rfl
 rw [if_neg (show ¬ ckV q≠0 by simp [g])];have k:=zMd g;refine cf (b0 g) (bd (oO _ _) ?_);cases gl:decide (loc<0)||decide (4<loc)
 case true=>rfl
 refine cf rfl (bd (oA _ _) ?_);cases gs:(q.Code != 1)&&!s.Volatile.Started
 case true=>rfl
 refine cf rfl (bd (zNg h k) ?_);cases ga:alw s q
 case false=>rfl
 have al:=zTp k ga gs;refine cf rfl ?_;simp only [cond_false,W9];have gd:=zRa h al k loc;unfold ex1;by_cases ha:q.Auths.length=0
 ·rw [if_pos ha];have d:decide (0<(q.Auths.length:Int))=false:=decide_eq_false jh;rw [d];refine bd (a:=.inr ()) rfl ?_;refine bd (zO6 h k loc al) ?_;generalize bdy s loc q=r at gd;refine bd (a:=(r.1,[])) ?_ (tl3 gd.n);cases r.2.Err==0<;>rfl
 ·rw [if_neg ha];have hh:0<q.Handles.length:=by
   rcases yOv k ha with hc | hc | hc | hc | hc | hc | hc | hc | hc | hc | hc | hc | hc | hc
   ·have:=(cnt k hc (a:=1) (b:=1) (i:=3) (n:=3) jn).1;omega
   ·have:=(cnt k hc (a:=1) (b:=1) (i:=3) (n:=3) jn).1;omega
   ·have:=(cnt k hc (a:=1) (b:=1) (i:=0) (n:=2) jn).1;omega
   ·have:=(cnt k hc (a:=1) (b:=1) (i:=0) (n:=0) jn).1;omega
   ·have:=(cnt k hc (a:=1) (b:=1) (i:=0) (n:=1) jn).1;omega
   ·have:=(cnt k hc (a:=1) (b:=1) (i:=2) (n:=1) jn).1;omega
   ·have:=(cnt k hc (a:=1) (b:=1) (i:=2) (n:=1) jn).1;omega
   ·have:=(cnt k hc (a:=1) (b:=1) (i:=4) (n:=2) jn).1;omega
   ·have:=(cnt k hc (a:=1) (b:=1) (i:=1) (n:=0) jn).1;omega
   ·have:=(cnt k hc (a:=1) (b:=1) (i:=0) (n:=1) jn).1;omega
   ·have:=(cnt k hc (a:=1) (b:=1) (i:=0) (n:=0) jn).1;omega
   ·have:=(cnt k hc (a:=1) (b:=1) (i:=0) (n:=0) jn).1;omega
   ·have:=(cnt k hc (a:=1) (b:=1) (i:=3) (n:=0) jn).1;omega
   ·have:=(ixQ h k hc).1.h;omega
  have d:decide (0<(q.Auths.length:Int))=true:=decide_eq_true jh;rw [d];have ck:=zMx h k.ok hh (show 0<q.Auths.length by omega) loc;by_cases gc:(acV s loc q).2=0
  case neg=>
   rw [if_pos gc];exact bd (a:=.inl ((acV s loc q).1,rs (acV s loc q).2)) (ct rfl (bd ck (ct (b1 gc) rfl))) rfl
  rw [if_neg (show ¬ (acV s loc q).2≠0 by simp [gc])];refine bd (a:=.inr ()) (ct rfl (bd ck (cf (b0 gc) rfl))) ?_;refine bd (zO6 h k loc al) ?_;unfold ex2;generalize bdy s loc q=r at gd;by_cases ge:r.2.Err=0
  ·rw [if_neg (show ¬ r.2.Err≠0 by simp [ge])];rw [c0' ge];exact bd (bd (a:=true) rfl (ct rfl (bd (zRl gd.k k.ok jh) rfl))) rfl
  ·rw [if_pos ge];rw [c1' ge];refine bd (a:=(r.1,[])) rfl ?_;have:=gd.e ge;rw [this];rfl
def zEu (x:Int):I64 (Qb.wrap x):=by unfold I64;rw [IntKind.wrap_i64];omega
def Sm (n:Int):Prop:=0<=n/\n<1099511627776
def Sm.w (h:Sm n):Qb.wrap n=n:=yI (by have:=h.1;omega) (by have:=h.2;omega)
def Sm.i (h:Sm n):I64 n:=⟨by have:=h.1;omega,by have:=h.2;omega⟩
def tmB (h:0<=n) (hc:0<c):0<=Qh n c/\Qh n c<c:=⟨Int.tmod_nonneg c h,Qz n hc⟩
def tdB (h:Sm n) (hc:0<c):Sm (Qb.wrap (Qt n c)):=by
 have h0:0<=Qt n c:=Int.tdiv_nonneg h.1 jh;have h1:Qt n c<=n:=Int.tdiv_le_self c h.1;have:Sm (Qt n c):=⟨h0,by have:=h.2;omega⟩;rw [this.w];exact this
def tmS (h:0<=n) (hc:0<c) (hc2:c<=1099511627776):Sm (Qh n c):=⟨(tmB h hc).1,by have:=(tmB h hc).2;omega⟩
def yD {b:Bool} {x y:Option α} {Q:α->Prop} (h:Def x Q) (k:Def y Q):Def (bif b then x else y) Q:=Qe (λ_=>h) (λ_=>k)
def yU {b:Bool}:Def (some b) (λ_=>True):=Q2 trivial
def zPt (a b:List α):(cpy a b).length=a.length:=by
 unfold cpy;rw [Q8,Q7,Qs];omega
def hZ (b:By):Def (qD b) (λr=>r.length=32):=by
 refine ⟨cpy (Qf 32 0) b,?_,by show (cpy (Qf 32 0) b).length=32;rw [zPt];simp⟩;unfold qD;exact bd (a:=32) rfl (bd (ckT (zKa jk)) (ltk (bd (ckT (zKa (by rw [zPt];simp))) (bd (ckT (zLg ji)) rfl))))
def zHm (n m:Int) (hm:1<=m) (hm2:m<=1099511627776):Def (dO n m) (λr=>0<=r/\r<m):=by
 have h1:Qh n m<m:=Qz n jh;have h2:-m<Qh n m:=by
  have:=Int.lt_tmod_of_pos n (show 0<m by omega);exact this
 unfold dO;refine Qe (λh=>by have:=dT h;omega) λ_=>Q0 (W0 (by rw [c1' jh];rfl)) λ_ _=>?_;refine Q0 (P:=λr=>0<=r/\r<m) (Qe (λh=>Q2 ?_) λh=>Q2 ?_) λr hr=>Q2 hr
 ·have:=dT h;rw [yI jh jh];omega
 ·have:=dF h;omega
def lT (b:By) (h:0<=n):Def (uR b n) (λr=>r.length<=b.length):=by
 unfold uR;refine Qe (λg=>?_) λ_=>Q2 (Qq _);have:=dT g;exact Q0 (Def.sub ji h jh) λr hr=>Q2 (by rw [hr];simp;omega)
def zUk {l:List α} {n:Nat} (hl:l.length=n) {i:Int} (h0:0<=i) (h1:i<n):Def (idx l i) (λr=>r∈l):=Def.idx h0 jh
def zB3 (h:zX s) (hn:Sm n) (kind:Int):Def (xG s n kind) (λr=>768<=r/\r<=770):=by
 have hl:=h.ss;obtain ⟨n0,n1⟩:=hn;unfold xG;refine Q0 (P:=λr=>match r with | .inl v=>768<=v/\v<=770 | .inr _=>True) ?_ λr hr=>?_
 ·refine Qy (λi=>0<=i/\i<=3) (λi=>3 - i.toNat) (λi hi=>?_) ⟨ji,ji⟩ ji;unfold kJ;refine Qe (λg=>?_) λ_=>Q2 trivial;have g:=dT g;have e:Qb.wrap (n+i)=n+i:=yI jh jh;rw [e];obtain ⟨t0,t1⟩:=tmB (show 0<=n+i by omega) (show (0:Int)<3 by decide);refine Q0 (zUk hl t0 jh) λv _=>?_;refine Q0 (P:=λ_=>True) (yD (yD yU yU) yU) λb _=>?_;refine Qe (λ_=>Qk (Q2 ?_)) λ_=>Q2 ?_
  ·rw [yI jh jh];exact ⟨jh,jh⟩
  ·rw [yI jh jh];exact ⟨⟨jh,jh⟩,jh⟩
 ·obtain ⟨t0,t1⟩:=tmB n0 (show (0:Int)<3 by decide);cases r with
  | inl v=>exact Q2 hr
  | inr u=>refine Q2 ?_;rw [yI jh jh];exact ⟨jh,jh⟩
def zA1 (h:zX s) (hn:Sm n) (kind:Int):Def (uX s n kind) (λr=>512<=r/\r<=514):=by
 have hl:=h.ol;obtain ⟨n0,n1⟩:=hn;unfold uX;refine Q0 (P:=λr=>match r with | .inl v=>512<=v/\v<=514 | .inr _=>True) ?_ λr hr=>?_
 ·refine Qy (λi=>0<=i/\i<=3) (λi=>3 - i.toNat) (λi hi=>?_) ⟨ji,ji⟩ ji;unfold zCo;refine Qe (λg=>?_) λ_=>Q2 trivial;have g:=dT g;have e:Qb.wrap (n+i)=n+i:=yI jh jh;rw [e];obtain ⟨t0,t1⟩:=tmB (show 0<=n+i by omega) (show (0:Int)<3 by decide);refine Q0 (zUk hl t0 jh) λv _=>?_;refine Q0 (P:=λ_=>True) (yD (yD yU yU) yU) λb _=>?_;refine Qe (λ_=>Qk (Q2 ?_)) λ_=>Q2 ?_
  ·rw [yI jh jh];exact ⟨jh,jh⟩
  ·rw [yI jh jh];exact ⟨⟨jh,jh⟩,jh⟩
 ·obtain ⟨t0,t1⟩:=tmB n0 (show (0:Int)<3 by decide);cases r with
  | inl v=>exact Q2 hr
  | inr u=>refine Q2 ?_;rw [yI jh jh];exact ⟨jh,jh⟩
def zHk (h:zX s) (hn:Sm n):Def (vH s n) (λr=>256<=r/\r<=511):=by
 have hl:=h.il;obtain ⟨n0,n1⟩:=hn;unfold vH;refine Q0 (P:=λb=>b=true->0<s.Stable.Indices.length) (Qe (λg=>Q2 λ_=>by have:=dT g;omega) λ_=>Q2 λe=>by cases e) λb hb=>?_;refine Qe (λg=>?_) λ_=>Q2 ?_
 ·have hp:=hb g;refine Q0 (W0 (by rw [c1' jh];rfl)) λ_ _=>?_;obtain ⟨t0,t1⟩:=tmB n0 (show (0:Int)<s.Stable.Indices.length by omega);refine Q0 (Def.idx t0 t1) λx hx=>Q2 ?_;have ok:=h.ix x hx;have o0:=ok.n0;have o1:=ok.n1;rw [yI jh jh];exact ⟨jh,jh⟩
 ·obtain ⟨t0,t1⟩:=tmB n0 (show (0:Int)<5 by decide);rw [yI jh jh];exact ⟨jh,jh⟩
def zOw (l:List zH) (hl:l.length<2 ^ 40):Def (gI l) (λr=>r.length<=32):=Q9 (zIg l hl) (zS0 l z32 (by rw [zTw];decide))
def zFt (h:zX s) (ha:I64 a):Def (uP s a) (λr=>r.1.Digest.length<=32/\r.1.Nonce.length<=32):=Q9 (zCy h ha) ⟨(zT7 h a).2,(zT7 h a).1⟩
def zR2 (h:zX s) (hn:Sm n) (b:By):Def (oW s n b) (λr=>r.length<=32):=by
 unfold oW;refine Q0 (P:=λr=>match r with | .inl v=>v.length<=32 | .inr _=>True) ?_ λr hr=>?_
 ·refine yD (Q2 (Q1 _)) (yD (Q0 (zOw _ ji) λr hr=>Q2 hr) (yD ?_ (Q2 trivial)));refine Q0 (zB3 h hn 2) λr hr=>Q0 (zFt h ⟨jh,jh⟩) λx hx=>?_;exact yD (Q2 hx.1) (Q2 trivial)
 ·cases r with
  | inl v=>exact Q2 hr
  | inr u=>exact Q0 (zOw _ ji) λr hr=>Q2 hr
structure IB (r:List Int×List By):Prop where
 il:r.1.length<=8
 i:∀ x∈r.1,I64 x
 bl:r.2.length<=8
 b:∀ x∈r.2,x.length<2 ^ 16
def yL7 (a b:Int):I64 (ior .i64 a b):=by unfold ior;exact zEu _
def zZa (a b:Int):I64 (zAx .i64 a b):=by unfold zAx;exact zEu _
def tmI (h:0<=n) (hc:0<c) (h2:c<=1099511627776):I64 (Qh n c):=(tmS h hc h2).i
def zLi (h:zX s) (hn:Sm n) (hb:b.length<=128):Def (rV s n b) (λr=>IB r/\r.1.length=3/\r.2.length=3):=by
 unfold rV;have n0:=hn.1;have d3:=tdB (c:=3) hn ji;have d24:=tdB (c:=24) hn ji;refine Q0 (P:=λr=>I64 r.1/\I64 r.2.1/\r.2.2.length<=128) ?_ λr hr=>?_
 ·refine yD (Qk (Qk (Q2 ⟨yL7 _ _,tmI d24.1 ji ji,Q1 _⟩))) (yD ?_ (Q2 ⟨tmI d3.1 ji ji,(show I64 0 from ⟨ji,ji⟩),Q1 _⟩));exact Q0 (lT b ji) λx hx=>Q2 ⟨tmI d3.1 ji ji,(show I64 0 from ⟨ji,ji⟩),(show x.length<=128 by omega)⟩
 obtain ⟨at',ht,da⟩:=r;obtain ⟨r1,r2,r3⟩:=hr;refine Q0 (zR2 h (tdB (c:=5) hn ji) b) λp hp=>?_;refine Q0 (P:=λr=>I64 r) ?_ λa2 ha2=>?_
 ·exact Q0 (P:=λ_=>True) (yD yU yU) λ_ _=>yD (Q2 (yL7 _ _)) (Q2 r1)
 refine Q0 (lT b (tmB n0 (show (0:Int)<3 by decide)).1) λc hc=>Q2 ⟨⟨show (3:Nat)<=8 by decide,?_,show (3:Nat)<=8 by decide,?_⟩,rfl,rfl⟩
 ·intro x hx;simp only [Q4,Q3,or_false] at hx;rcases hx with rfl | rfl | rfl
  ·exact zEu _
  ·exact ha2
  ·exact r2
 ·intro x hx;have r3:da.length<=128:=r3;simp only [Q4,Q3,or_false] at hx;rcases hx with rfl | rfl | rfl<;>omega
def yM2 (active:Int) (b:By):Def (eO active b) (λr=>r.length=2/\∀ x∈r,x.length<=32):=by
 have setl:∀ (v:List By) (j:Nat) (u:By),(∀ x∈v,x.length<=32)->u.length<=32->∀ x∈v.set j u,x.length<=32:=λv j u hv hu x hx=>by
  rcases Qm hx with hx | hx
  ·exact hv x hx
  ·rw [hx];exact hu
 unfold eO;refine Q0 (P:=λr=>r.length=2/\∀ x∈r,x.length<=32) ?_ (λr hr=>Q0 (W0 (zKa hr.1)) (λ_ _=>Q2 hr));refine Qy (λs=>0<=s.1/\s.1<=2/\s.2.length=2/\∀ x∈s.2,x.length<=32) (λs=>(2 - s.1).toNat) (λs hs=>?_) ⟨ji,ji,rfl,jk⟩ ji;obtain ⟨a,v⟩:=s;obtain ⟨h0,h1,h2,h3⟩:=hs;simp only at h0 h1 h2 h3;unfold zBu;refine Qe (λh=>?_) (λ_=>Q2 ⟨h2,h3⟩);have ha:=dT h;refine Q0 (P:=λr=>r.length=2/\∀ x∈r,x.length<=32) ?_ (λw hw=>Q2 ?_)
 ·refine Qe (λ_=>?_) (λ_=>Q2 ⟨h2,h3⟩);rw [yI (n:=12*a) jh jh,yI jh jh];refine Q0 (Def.mkN jh jh) (λn hn=>?_);refine Q0 (W0 (zKa jk)) (λ_ _=>?_);refine Qk ?_;have hcl:=zPt (Qf n (0:UInt8)) b;rw [List.length_replicate] at hcl;generalize cpy (Qf n (0:UInt8)) b=x at hcl;refine Q0 (P:=λr=>r.length=n) ?_ (λy hy=>?_)
  ·refine Qe (λh=>?_) (λ_=>Q2 hcl);have:=dT h;rw [yI jh jh];refine Q0 (W1 jh jh) (λj hj=>?_);refine Q0 (Def.at jh) (λ_ _=>?_);refine Q0 (W1 jh jh) (λj hj=>?_);exact Q0 (Def.upd jh) (λr hr=>Q2 (by rw [hr];simpa using hcl))
  refine Q0 (W0 (zKa hy)) (λ_ _=>?_);refine Q0 (W0 (zLg jh)) (λ_ _=>?_);refine Q0 (W1 h0 (by show _<((2:Nat):Int);omega)) (λj hj=>?_);exact Q0 (Def.upd jh) (λr hr=>Q2 ⟨by rw [hr];simpa using h2,by rw [hr];exact setl v j y h3 jh⟩)
 ·rw [yI jh jh];exact ⟨⟨by show 0<=a+1;omega,by show a+1<=2;omega,hw.1,hw.2⟩,by show (2 - (a+1)).toNat<(2 - a).toNat;omega⟩
def zXz (h:zX s) (ha:I64 a) (hn:Sm n) (hb:b.length<=128):Def (zDh s a n b) (λr=>r.length<=8/\∀ x∈r,x.length<2 ^ 16):=by
 have bb:[b,b].length<=8/\∀ x∈[b,b],x.length<2 ^ 16:=⟨show (2:Nat)<=8 by decide,λx hx=>by simp at hx;subst hx;omega⟩;unfold zDh;refine Q0 (P:=λr=>r<0∨∃ i:Nat,r=(i:Int)/\obf s a=some i) (Q9 (rB h ha) ?_) λr hr=>?_
 ·cases q:obf s a with
  | some i=>exact .inr ⟨i,rfl,rfl⟩
  | none=>exact .inl ji
 refine Qe (λ_=>Q2 bb) λg=>?_;have g:=dF g;obtain ⟨i,rfl,ei⟩:=hr.resolve_left g;obtain ⟨lt3,pk,sk⟩:=bE h ei;refine Q0 (zLi h hn hb) λt ht=>?_;obtain ⟨ib,t1,t2⟩:=ht;obtain ⟨ti,tb⟩:=t;have t1:ti.length=3:=t1;have t2:tb.length=3:=t2;refine Q0 (lT b ji) λc hc=>?_;refine Q0 (P:=λ_=>True) (Q9 (vT (i:=0) (d:=0) jh) trivial) λx0' _=>Q0 (P:=λ_=>True) (Q9 (vT (i:=1) (d:=0) jh) trivial) λx1 _=>Q0 (P:=λ_=>True) (Q9 (vT (i:=2) (d:=0) jh) trivial) λx2 _=>?_;refine Q0 (P:=λ_=>True) (Q9 (vT (i:=0) (d:=[]) jh) trivial) λy0 _=>Q0 (P:=λ_=>True) (Q9 (vT (i:=1) (d:=[]) jh) trivial) λy1 _=>Q0 (P:=λ_=>True) (Q9 (vT (i:=2) (d:=[]) jh) trivial) λy2 _=>?_;refine Q0 (P:=λr=>r.2.2=0->kH r.1/\zBn r.2.1) (Q9 (zI5 c _ y1 y2 jh) λe=>zPy e) λm hm=>?_;obtain ⟨p,t,e⟩:=m;refine Qe (λ_=>Q2 bb) λg=>?_;have g:e=0:=by simpa using g
 obtain ⟨po,so⟩:=hm g;have po:kH p:=po;have so:zBn t:=so;refine Q0 (P:=λr=>r=obg s i) (Q9 (yF6 h lt3) rfl) λo ho=>?_;subst ho;have pl:=yGb (parent:=(obg s i).Sensitive) (p:=p) so;have ps:=zJr (a:=(obg s i).Sensitive) (p:=p) so;refine Q0 (P:=λr=>r=zH8 (obg s i).Sensitive p t) (Q9 (zMa _ _ _ (by have:=sk.sd;omega)) rfl) λv hv=>?_;subst hv;generalize zH8 (obg s i).Sensitive p t=v at pl ps;refine Q0 (P:=λr=>r.length=v.length) ?_ λw hw=>?_
 ·refine Qe (λ_=>?_) λ_=>Q2 rfl;rw [yI jh jh];refine Q0 (W1 jh jh) (λj hj=>?_);refine Q0 (Def.at jh) (λ_ _=>?_);refine Q0 (W1 jh jh) (λj2 hj2=>?_);exact Q0 (Def.upd jh) (λr hr=>Q2 (by rw [hr];simp))
 refine Q0 (P:=λr=>r.length<=80) (Q9 (rX p) (zF8 po)) λz hz=>Q2 ⟨show (2:Nat)<=8 by decide,λx hx=>?_⟩;simp only [Q4,Q3,or_false] at hx;rcases hx with rfl | rfl<;>omega
def zFu {i:List Int} {b:List By} (h1:i.length<=8) (h2:∀ x∈i,I64 x) (h3:b.length<=8) (h4:∀ x∈b,x.length<2 ^ 16):IB (i,b):=⟨h1,h2,h3,h4⟩
def i0':I64 0:=⟨ji,ji⟩
def six {b d e f:Int} (ha:I64 a) (hb:I64 b) (hc:I64 c) (hd:I64 d) (he:I64 e) (hf:I64 f):∀ x∈[a,b,c,d,e,f],I64 x:=by
 intro x hx;simp only [Q4,Q3,or_false] at hx;rcases hx with rfl | rfl | rfl | rfl | rfl | rfl<;>assumption
def zD7 (h:d.length<2 ^ 16):∀ x∈[d],x.length<2 ^ 16:=λx hx=>by simp only [Q4,Q3,or_false] at hx;rw [hx];exact h
def lit {n:Nat} (h:n<=1000):I64 (n:Int):=⟨jh,jh⟩
def yGz (h:zX s) (hn:Sm n) (hm:Sm m) (hb:b.length<=128):Def (kD s n m b) IB:=by
 have n0:=hn.1;have hl:=h.ss;have d8:=tdB (c:=8) hn ji;have d32:=tdB (c:=32) hn ji;unfold kD;refine Q0 (zB3 h hm 0) λh0 hh0=>?_;refine Q0 (P:=λr=>768<=r/\r<=770) ?_ λhd hhd=>?_
 ·refine Qy (λx=>(768<=x.1/\x.1<=770)/\0<=x.2/\x.2<=3) (λx=>3 - x.2.toNat) (λx hx=>?_) ⟨hh0,(show (0:Int)<=0 by decide),(show (0:Int)<=3 by decide)⟩ (show 3 - (0:Int).toNat<2 ^ 64 by decide);obtain ⟨a,i⟩:=x;obtain ⟨⟨a0,a1⟩,i0,i3⟩:=hx;simp only at a0 a1 i0 i3;unfold cK;refine Q0 (P:=λb=>b=true->i<3) ?_ λc hc=>?_
  ·refine Qe (λg=>?_) λ_=>Q2 λe=>by cases e
   have g:=dT g;refine Q0 (zHm _ 3 ji ji) λj hj=>?_;exact Q0 (zUk hl hj.1 jh) λv _=>Q2 λ_=>g
  ·refine Qe (λg=>Qk (Q2 ?_)) λ_=>Q2 ⟨a0,a1⟩;have i2:=hc g;have e1:Qb.wrap (a - 768)=a - 768:=yI jh jh;have e2:Qb.wrap (a - 768+1)=a - 767:=by rw [yI jh jh];omega
   obtain ⟨t0,t1⟩:=tmB (show 0<=a - 767 by omega) (show (0:Int)<3 by decide);rw [e1,e2,yI (n:=i+1) jh jh,yI (n:=768+Qh (a - 767) 3) jh jh];exact ⟨⟨⟨by show 768<=768+Qh (a - 767) 3;omega,by show 768+Qh (a - 767) 3<=770;omega⟩,by show 0<=i+1;omega,by show i+1<=3;omega⟩,by show 3 - (i+1).toNat<3 - i.toNat;omega⟩
 have hI:I64 hd:=⟨jh,jh⟩;refine Q0 (P:=λ_=>True) (yD yU yU) λc _=>?_;refine yD ?_ (yD (Qk (Q2 (zFu (show (6:Nat)<=8 by decide) (six hI (lit (n:=2) ji) i0' i0' (zEu _) i0') (Q1 _) jk))) (yD ?_ (yD ?_ (yD ?_ (yD ?_ ?_)))))
 ·refine Q0 (P:=λr=>r.length<2 ^ 16) (yD (Q0 (hZ b) λr hr=>Q2 jh) (Q2 (by show (0:Nat)<2 ^ 16;decide))) λd hd2=>?_;exact Qk (Qk (Q2 (zFu (show (6:Nat)<=8 by decide) (six hI (lit (n:=1) ji) (zEu _) (zEu _) i0' i0') (show (1:Nat)<=8 by decide) (zD7 hd2))))
 ·obtain ⟨t0,t1⟩:=tmB d8.1 (show (0:Int)<5 by decide);refine Q0 (P:=λr=>I64 r) ?_ λv hv=>Q2 (zFu (show (6:Nat)<=8 by decide) (six hI (lit (n:=3) ji) i0' i0' hv i0') (Q1 _) jk);refine (zUk (l:=([13,14,15,23,24]:List Int)) rfl t0 t1).mono λr hr=>?_;simp only [Q4,Q3,or_false] at hr;exact ⟨jh,jh⟩
 ·refine Q0 (zHk h d8) λv hv=>Q0 (lT b ji) λc hc=>Q2 (zFu (show (6:Nat)<=8 by decide) (six hI (lit (n:=4) ji) i0' i0' ⟨jh,jh⟩ (tmI d32.1 ji ji)) (show (1:Nat)<=8 by decide) (zD7 jh))
 ·exact Q2 (zFu (show (6:Nat)<=8 by decide) (six hI (lit (n:=5) ji) i0' i0' (tmI n0 ji ji) (tmI d8.1 ji ji)) (Q1 _) jk)
 ·exact Q2 (zFu (show (6:Nat)<=8 by decide) (six hI (lit (n:=7) ji) i0' i0' i0' i0') (Q1 _) jk)
 ·refine Q0 (zFt h hI) λx hx=>Q0 (hZ b) λy hy=>?_;refine Q0 (P:=λr=>r.length=2/\∀ z∈r,z.length<2 ^ 16) ?_ λl hl2=>Q2 (zFu (show (6:Nat)<=8 by decide) (six hI (lit (n:=8) ji) i0' i0' i0' i0') (by rw [hl2.1];decide) hl2.2);refine Q0 (P:=λ_=>True) (yD yU yU) λc _=>?_;have hx1:x.1.Digest.length<=32:=hx.1;refine yD (Q0 (hZ b) λu hu=>Q0 (hZ []) λv hv=>Q2 ⟨rfl,λz hz=>?_⟩) (Q2 ⟨rfl,λz hz=>?_⟩)
  ·simp only [Q4,Q3,or_false] at hz;rcases hz with rfl | rfl<;>omega
  ·simp only [Q4,Q3,or_false] at hz;rcases hz with rfl | rfl<;>omega
def yAm (h:zX s) (hn:Sm n):Def (cP s n) I64:=by
 unfold cP;have d3:=tdB (c:=3) hn ji;refine yD (Q2 (tmI d3.1 ji ji)) (yD (Q0 (zHk h d3) λv hv=>Q2 ⟨jh,jh⟩) (Q0 (zA1 h d3 0) λv hv=>Q2 ⟨jh,jh⟩))
def p1 (s:By) (hs:s.length<2 ^ 30):Def (mD s 0) (λr=>r.length=17):=Q9 (zIh s 0 hs ji) (zSo s ji)
def yD1 (s m:By) (hs:s.length<2 ^ 30) (hm:m.length<2 ^ 31):Def (kT s 0 0 m) (λr=>r.length=561):=Q9 (zNa s 0 0 m hs ji ji hm) (by have:=zSa s 0 0 m ji ji;omega)
def yFf (h:zX s) (hn:Sm n) (hb:b.length<=128):Def (eI s n b) IB:=by
 have n0:=hn.1;unfold eI;refine Q0 (zB3 h hn 2) λa ha=>Q0 (zFt h ⟨jh,jh⟩) λx hx=>Q0 (lT b ji) λc hc=>Q0 (hZ c) λsd hsd=>Q0 (p1 sd jh) λpk hpk=>Q0 (lT b (tmB n0 (show (0:Int)<4 by decide)).1) λrf hrf=>?_;have hx1:x.1.Digest.length<=32:=hx.1;refine Q0 (P:=λr=>r.length=32) (Q9 (bd (rR 9 [x.1.Digest,rf] (by rw [zVy];omega)) rfl) (gQ _ _)) λd hd=>Q0 (yD1 sd d jh jh) λsg hsg=>?_;refine Q0 (P:=λr=>r.length=561) (yD (Q0 (yD1 sd b jh jh) λr hr=>Q2 hr) (Q2 hsg)) λsg2 hsg2=>?_;refine Q0 (P:=λr=>r.length<2 ^ 16) (Q9 (rX _) ?_) λen hen=>Q2 (zFu (show (1:Nat)<=8 by decide) (λy hy=>?_) (show (3:Nat)<=8 by decide) λy hy=>?_)
 ·have h1:=rH [u8 2,u8 1,u8 0] [] 0 ji;have h2:=rH (wE [u8 2,u8 1,u8 0] []) pk 17 jh;simp only [Q6,Qc] at h1;show (wE (wE [u8 2,u8 1,u8 0] []) pk).length<2 ^ 16;omega
 ·simp only [Q4,Q3,or_false] at hy;rw [hy];exact ⟨jh,jh⟩
 ·simp only [Q4,Q3,or_false] at hy;rcases hy with rfl | rfl | rfl<;>omega
def yH5 (h:zX s) (hn:Sm n) (hb:b.length<=128):Def (gJ s n b) IB:=by
 have n0:=hn.1;have d5:=tdB (c:=5) hn ji;obtain ⟨t0,t1⟩:=tmB d5.1 (show (0:Int)<4 by decide);have e:Qb.wrap (1+Qh (Qb.wrap (Qt n 5)) 4)=1+Qh (Qb.wrap (Qt n 5)) 4:=yI jh jh;unfold gJ;refine Qk (Q0 (zR2 h (tdB (c:=7) hn ji) b) λp hp=>Qk ?_);refine Q0 (P:=λr=>I64 r) (yD (Q2 (zZa _ _)) (Q2 (yL7 _ _))) λat' hat=>?_;rw [e];refine Q0 (P:=λr=>I64 r) ?_ λsz hsz=>?_
 ·rw [yI jh jh];refine (zUk (l:=([12,8,8,32]:List Int)) rfl jh (by show _<((4:Nat):Int);omega)).mono λr hr=>?_;simp only [Q4,Q3,or_false] at hr;exact ⟨jh,jh⟩
 refine Q0 (lT b (tmB n0 (show (0:Int)<3 by decide)).1) λc hc=>Q2 (zFu (show (4:Nat)<=8 by decide) (λy hy=>?_) (show (2:Nat)<=8 by decide) λy hy=>?_)
 ·simp only [Q4,Q3,or_false] at hy;rcases hy with rfl | rfl | rfl | rfl
  ·exact tmI n0 ji ji
  ·exact ⟨jh,jh⟩
  ·exact hat
  ·exact hsz
 ·simp only [Q4,Q3,or_false] at hy;rcases hy with rfl | rfl<;>omega
structure Rq0 (q:zC):Prop where
 h:q.Handles.length<=8
 hi:∀ x∈q.Handles,I64 x
 a:q.Auths.length<=8
 i:q.Ints.length<=8
 ii:∀ x∈q.Ints,I64 x
 b:q.Blobs.length<=8
 bb:∀ x∈q.Blobs,x.length<2 ^ 16
def Rq0.l (h:Rq0 q):RqL q:=⟨by have:=h.h;omega,by have:=h.a;omega,by have:=h.i;omega,by have:=h.b;omega⟩
def zKx {b:Int} (ha:I64 a) (hb:I64 b):∀ x∈[a,b],I64 x:=λx hx=>by
 simp only [Q4,Q3,or_false] at hx;rcases hx with rfl | rfl<;>assumption
def zCr (ha:I64 a):∀ x∈[a],I64 x:=λx hx=>by simp only [Q4,Q3,or_false] at hx;rw [hx];exact ha
def yHc (h:zX s) (k:Int) (hn:Sm n) (hb:b.length<=128):Def (fS s k n b) (λq=>Rq0 q/\q.Handles.length=2):=by
 have n0:=hn.1;have d3:=tdB (c:=3) hn ji;unfold fS;refine Q0 (zHk h hn) λv hv=>?_;have hvi:I64 v:=⟨jh,jh⟩;refine Q0 (P:=λr=>I64 r) (yD (Q2 (show I64 1 from ⟨ji,ji⟩)) (Q2 hvi)) λe he=>?_;refine Q0 (lT b ji) λc hc=>?_;refine Q0 (P:=λr=>r<0∨∃ i:Nat,r=(i:Int)/\i<s.Stable.Indices.length) (Q9 (uB h hvi) ?_) λr hr=>?_
 ·cases q:ixf s v with
  | some i=>exact .inr ⟨i,rfl,(uT q).1⟩
  | none=>exact .inl ji
 refine Q0 (P:=λ_=>True) ?_ λkd _=>?_
 ·refine Qe (λg=>?_) λ_=>Q2 trivial;have g:=dT g;obtain ⟨i,rfl,hi⟩:=hr.resolve_left jh;exact Q0 (P:=λ_=>True) (Q9 (zMi hi) trivial) λ_ _=>Q2 trivial
 refine Q0 (P:=λr=>r.2.1.length<=8/\(∀ x∈r.2.1,I64 x)/\r.2.2.length<=8/\∀ x∈r.2.2,x.length<2 ^ 16) ?_ λr hr=>Q2 ⟨⟨show (2:Nat)<=8 by decide,zKx he hvi,Q1 _,hr.1,hr.2.1,hr.2.2.1,hr.2.2.2⟩,rfl⟩;have nilb:∀ x∈([]:List By),x.length<2 ^ 16:=λx hx=>by cases hx
 have nili:∀ x∈([]:List Int),I64 x:=λx hx=>by cases hx
 refine yD (Q2 ⟨show (2:Nat)<=8 by decide,zKx (tmI n0 ji ji) (tmI d3.1 ji ji),Q1 _,nilb⟩) (yD (Q2 ⟨Q1 _,nili,Q1 _,nilb⟩) ?_);refine Q0 (P:=λ_=>True) (yD yU yU) λ_ _=>?_;refine yD (Q2 ⟨Q1 _,nili,Q1 _,nilb⟩) (yD ?_ (yD (Q2 ⟨Q1 _,nili,show (1:Nat)<=8 by decide,zD7 jh⟩) (Q2 ⟨show (1:Nat)<=8 by decide,zCr (tmI n0 ji ji),show (1:Nat)<=8 by decide,zD7 jh⟩)));refine Q0 (hZ b) λy hy=>Q0 (Def.sub ji ji jh) λz hz=>Q2 ⟨Q1 _,nili,show (1:Nat)<=8 by decide,zD7 ?_⟩;rw [hz];simp;omega
def Rq0.k (h:Rq0 q) (ha:q.Auths=[]):oP q:=⟨by have:=h.h;omega,h.hi,by rw [ha];exact Q1 _,λx hx=>(by rw [ha] at hx;cases hx),by have:=h.i;omega,h.ii,by have:=h.b;omega,h.bb⟩
def zY6 (h:zX s) (hq:Rq0 q) (ha:q.Auths=[]) (h1:1<=q.Handles.length) (hm:Sm m) (hb:b.length<=128):Def (lK s q m b) Rq0:=by
 have k:=hq.k ha;have h0:=qX k (show 0<q.Handles.length by omega);have hv:=(yBj h (hnd q 0)).1;have d8:=tdB (c:=8) hm ji;unfold lK;refine Q0 (P:=λr=>r=hnd q 0) (Q9 (bQ (i:=0) jh) rfl) λz hz=>?_;subst hz;refine Q0 (P:=λr=>r.length<=32) (Q9 (zAk h h0) hv) λv hv=>?_;refine Q0 (P:=λ_=>True) ?_ λr _=>Q2 ⟨hq.h,hq.hi,show (1:Nat)<=8 by decide,hq.i,hq.ii,hq.b,hq.bb⟩;refine yD (Q0 (W7 jl) λx hx=>Q0 (W7 (by rw [hx];simp;omega)) λy _=>Q2 trivial) ?_;refine Q0 (P:=λ_=>True) (yD yU yU) λ_ _=>yD ?_ ?_
 ·refine Q0 (zB3 h d8 1) λa ha2=>Q0 (zFt h ⟨jh,jh⟩) λx hx=>?_;obtain ⟨x,er⟩:=x;have hx1:x.Nonce.length<=32:=hx.2;refine Q0 (P:=λ_=>True) (yD yU yU) λ_ _=>yD ?_ (Q2 trivial);refine Q0 (lT b ji) λc hc=>?_;refine Q0 (P:=λr=>r=nms s q) (Q9 (bd (zKy h k) rfl) rfl) λn hn=>?_;subst hn;refine Q0 (P:=λr=>r.length=32) (Q9 (zIp (zTr s q) (by unfold nms;rw [W6];exact k.hl) k) (gQ _ _)) λd hd=>?_;refine Q0 (P:=λ_=>True) (Q9 (zNp v d x.Nonce c jh jh jh jh) trivial) λmm _=>?_;exact yD (Q0 (W7 jl) λy hy=>Q0 (W7 (by rw [hy];simp;omega)) λz _=>Q2 trivial) (Q2 trivial)
 ·refine Q0 (P:=λ_=>True) (yD yU yU) λ_ _=>yD ?_ (Q2 trivial);exact Q0 (zB3 h d8 2) λa _=>Q2 trivial
structure Rt (r:Bool×Int×List Int×List Int×List By):Prop where
 h:r.2.2.1.length<=8
 hi:∀ x∈r.2.2.1,I64 x
 i:r.2.2.2.1.length<=8
 ii:∀ x∈r.2.2.2.1,I64 x
 b:r.2.2.2.2.length<=8
 bb:∀ x∈r.2.2.2.2,x.length<2 ^ 16
 au:r.1=true->1<=r.2.2.1.length
def nilb:∀ x∈([]:List By),x.length<2 ^ 16:=λx hx=>by cases hx
def nili:∀ x∈([]:List Int),I64 x:=λx hx=>by cases hx
def rt0 {i:List Int} {b:List By} (h1:i.length<=8) (h2:∀ x∈i,I64 x) (h3:b.length<=8) (h4:∀ x∈b,x.length<2 ^ 16):Rt (false,c,[],i,b):=⟨Q1 _,nili,h1,h2,h3,h4,λe=>by cases e⟩
def rt1 {i:List Int} {b:List By} (hh:I64 h) (h1:i.length<=8) (h2:∀ x∈i,I64 x) (h3:b.length<=8) (h4:∀ x∈b,x.length<2 ^ 16):Rt (true,c,[h],i,b):=⟨show (1:Nat)<=8 by decide,zCr hh,h1,h2,h3,h4,λ_=>Qq _⟩
def obI (h:512<=v/\v<=514):I64 v:=⟨jh,jh⟩
def shI (h:768<=v/\v<=770):I64 v:=⟨jh,jh⟩
def l1 (x:α):[x].length<=8:=show (1:Nat)<=8 by decide
def l2 (x y:α):[x,y].length<=8:=show (2:Nat)<=8 by decide
def yF3 (h:zX s) (k n m:Int) (b:By):Def (eH s k n m b) Rq0:=by
 unfold eH;refine Q0 (zHm k 48 ji ji) λkk hkk=>Q0 (zHm n 1073741824 ji ji) λn hn=>Q0 (zHm m 1073741824 ji ji) λm hm=>?_;have hn:Sm n:=⟨hn.1,jh⟩;have hm:Sm m:=⟨hm.1,jh⟩;have n0:=hn.1;refine Q0 (P:=λr=>r.length<=60) ?_ λb hb=>?_
 ·unfold uR;refine Qe (λg=>?_) λg=>Q2 ?_
  ·have:=dT g;exact Q0 (Def.sub ji ji jh) λr hr=>Q2 (by rw [hr];simp;omega)
  ·have:=dF g;omega
 have hb128:b.length<=128:=jh
 have d2:=tdB (c:=2) hn ji;have d3:=tdB (c:=3) hn ji;have d4:=tdB (c:=4) hn ji;have d5:=tdB (c:=5) hn ji;have t4:I64 (Qh n 4):=tmI n0 ji ji;refine Q0 (P:=λ_=>True) (yD yU yU) λ_ _=>yD (Q2 ⟨Q1 _,nili,Q1 _,Q1 _,nili,Q1 _,nilb⟩) ?_;refine Q0 (P:=Rt) ?_ λr hr=>?_
 ·refine yD (Q2 (rt0 (Q1 _) nili (Q1 _) nilb)) (yD (Q2 (rt0 (l2 _ _) (zKx (tmI n0 ji ji) (tmI d3.1 ji ji)) (Q1 _) nilb)) ?_);refine Q0 (P:=λ_=>True) (yD yU yU) λ_ _=>yD (Q0 (yM2 _ b) λd hd=>Q2 (rt0 (l1 _) (zCr (tmI n0 ji ji)) (by rw [hd.1];decide) λx hx=>by have:=hd.2 x hx;omega)) ?_;refine Q0 (P:=λ_=>True) (yD yU (yD yU yU)) λ_ _=>yD (Q2 (rt0 (l1 _) (zCr (tmI n0 ji ji)) (l1 _) (zD7 jh))) (yD (Q2 (rt0 (l1 _) (zCr (zEu _)) (Q1 _) nilb)) ?_);refine Q0 (P:=λ_=>True) (yD yU (yD yU (yD yU yU))) λ_ _=>yD (Q0 (zLi h d3 hb128) λt ht=>Q2 (rt1 (tmI n0 ji ji) ht.1.il ht.1.i ht.1.bl ht.1.b)) (yD (Q0 (zA1 h hn 1) λo ho=>Q0 (zLi h d3 hb128) λt ht=>Q2 (rt1 (obI ho) ht.1.il ht.1.i ht.1.bl ht.1.b)) ?_);refine Q0 (P:=λ_=>True) (yD yU (yD yU yU)) λ_ _=>yD (Q0 (zA1 h hn 1) λo ho=>Q0 (zXz h (obI ho) d3 hb128) λt ht=>Q2 (rt1 (obI ho) (Q1 _) nili ht.1 ht.2)) (yD ?_ ?_)
  ·refine Q0 (zA1 h hn 0) λo ho=>Q0 (zB3 h hn 0) λp hp=>?_;obtain ⟨u0,u1⟩:=tmB d3.1 (show (0:Int)<2 by decide);refine Q0 (zUk (l:=[o,p]) rfl u0 (by show _<((2:Nat):Int);omega)) λv hv=>Q2 (rt0 (l1 _) (zCr ?_) (Q1 _) nilb);exact zKx (obI ho) (shI hp) v hv
  refine Q0 (P:=λ_=>True) (yD yU yU) λ_ _=>yD (Q0 (zA1 h hn 3) λo ho=>Q2 (rt1 (obI ho) (Q1 _) nili (Q1 _) nilb)) ?_;refine Q0 (P:=λ_=>True) (yD yU yU) λ_ _=>yD (Q0 (zA1 h hn 2) λo ho=>Q2 (rt1 (obI ho) (Q1 _) nili (l1 _) (zD7 jh))) ?_;refine Q0 (P:=λ_=>True) (yD yU yU) λ_ _=>yD (Q0 (zA1 h hn 2) λo ho=>Qk (Qk (Q2 (rt1 (obI ho) (l2 _ _) (zKx (zEu _) (zEu _)) (l1 _) (zD7 jh))))) ?_;refine Q0 (P:=λ_=>True) (yD yU (yD yU yU)) λ_ _=>yD (Q2 (rt0 (l1 _) (zCr (zEu _)) (Q1 _) nilb)) ?_;refine Q0 (P:=λ_=>True) (yD yU (yD yU (yD yU yU))) λ_ _=>yD (Q0 (yGz h hn hm hb128) λt ht=>Q2 (rt0 ht.il ht.i ht.bl ht.b)) (yD ?_ (yD (Q0 (yFf h hn hb128) λt ht=>Q2 (rt0 ht.il ht.i ht.bl ht.b)) (yD (Q0 (zB3 h hn 0) λp hp=>Q2 (rt0 (l1 _) (zCr (shI hp)) (Q1 _) nilb)) ?_)))
  ·exact Q0 (yAm h hn) λe he=>Q0 (zB3 h d3 0) λp hp=>Q0 (lT b ji) λc hc=>Q2 (rt1 he (l2 _ _) (zKx (shI hp) (tmI n0 ji ji)) (l1 _) (zD7 jh))
  refine Q0 (P:=λ_=>True) (yD yU yU) λ_ _=>yD (Q0 (yH5 h d2 hb128) λt ht=>Q2 (rt1 (zEu _) ht.il ht.i ht.bl ht.b)) (yD (Q0 (zHk h d2) λv hv=>Q2 (rt1 (zEu _) (l1 _) (zCr (zEu _)) (Q1 _) nilb)) ?_);refine Q0 (P:=λ_=>True) (yD yU (yD yU (yD yU (yD yU (yD yU (yD yU (yD yU yU))))))) λ_ _=>yD (Q0 (yHc h _ hn hb128) λq hq=>Q2 ⟨hq.1.h,hq.1.hi,hq.1.i,hq.1.ii,hq.1.b,hq.1.bb,λ_=>by show 1<=q.Handles.length;rw [hq.2];decide⟩) (yD ?_ (yD ?_ (yD ?_ ?_)))
  ·exact Q0 (lT b (tmB d4.1 (show (0:Int)<3 by decide)).1) λc hc=>Q2 (rt1 t4 (Q1 _) nili (l1 _) (zD7 jh))
  ·exact yD (Q2 (rt1 ⟨ji,ji⟩ (Q1 _) nili (Q1 _) nilb)) (Q2 (rt1 (zEu _) (Q1 _) nili (Q1 _) nilb))
  ·refine Q2 (rt1 ⟨ji,ji⟩ (show (3:Nat)<=8 by decide) (λx hx=>?_) (Q1 _) nilb);simp only [Q4,Q3,or_false] at hx;rcases hx with rfl | rfl | rfl
   ·exact zEu _
   ·exact tmI n0 ji ji
   ·exact tmI d5.1 ji ji
  ·exact yD (Q2 (rt0 (l1 _) (zCr (tmI n0 ji ji)) (Q1 _) nilb)) (Q2 (rt0 (l1 _) (zCr (tmI n0 ji ji)) (Q1 _) nilb))
 obtain ⟨au,c,hs,is,bs⟩:=r;have r1:hs.length<=8:=hr.h;have r2:is.length<=8:=hr.i;have r3:bs.length<=8:=hr.b;have q0:Rq0 (zC.mk c hs [] is bs):=⟨r1,hr.hi,Q1 _,r2,hr.ii,r3,hr.bb⟩;refine Q0 (P:=λr=>Rq0 (zC.mk r.1 r.2.1 r.2.2.1 r.2.2.2.1 r.2.2.2.2)) ?_ λr hr=>Q2 hr;refine Qe (λg=>?_) λ_=>Q2 q0;exact Q0 (zY6 h q0 rfl (hr.au g) hm hb128) λq hq=>Q2 hq
end Go.Proofs.TT
