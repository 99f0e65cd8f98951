/- ModuleStarted holds for all inputs -/
import Derived.Test.YtkalaoahbicflaaGreatDoorSZ35
set_option linter.all false
open List renaming replicate -> Q0, length_append -> Q4, getElem_mem -> Q7, drop_eq_nil_of_le -> Q9, drop_zero -> Qc, take_add_one -> Qd, mem_replicate -> Qi, mem_or_eq_of_mem_set -> Qj, length_take -> Qk, length_nil -> Ql, take_of_length_le -> Qm, length_cons -> Qs, not_mem_nil -> Qt, all_eq_true -> Qu, length_set -> Qw, mem_cons -> Qx
open Int renaming eq_ofNat_of_zero_le -> Q1
open Go.IntKind renaming i64 -> Q2, u64 -> Qy
open Bool renaming or_eq_false_iff -> Q3, and_eq_true -> Q6, eq_false_iff -> Qb, or_false -> Qe, or_true -> Qf, true_or -> Qg, true_and -> Qo, or_assoc -> Qp, eq_iff_iff -> Qv
open Option renaming bind_some -> Q5
open Go.Sw.Def renaming s -> Q8, c -> Qh, bd -> Qq
open Nat renaming le_refl -> Qa, zero_le -> Qn, le_of_not_lt -> Qr
namespace Go.Proofs.TT
open Go Go.Sw
set_option maxRecDepth 100000
variable {auth data:By}{p:zL}{parent:zJ}{t:zL}
def uqs (k:Int):Nat:=if k=2 then 17 else 32
theorem yFg (k:Int):wE k=some ((uqs k:Nat):Int):=by
 unfold wE uqs;by_cases h:k=2
 ·rw [if_pos h];exact ct (c0' h) rfl
 ·rw [if_neg h];exact cf (c1' h) rfl
theorem yBo (k:Int):uqs k<=32:=by unfold uqs;split<;>decide
def unq (s:zJ) (k h:Int):By:=if k=2 then pub s.Seed h.toNat else hs 13 [s.Seed,s.Data]
theorem zQv (s:zJ) (k h:Int) (hh:h<=3):(unq s k h).length=uqs k:=by
 unfold unq uqs;split
 ·exact zQn _ (by omega)
 ·exact iK _ _
theorem zQ0 (s:zJ) (k h:Int) (h0:0<=h) (hh:h<=3) (hs:s.Seed.length<2 ^ 20) (hd:s.Data.length<2 ^ 20):qR s k h=some (unq s k h):=by
 obtain ⟨n,rfl⟩:=Q1 h0;unfold qR unq;by_cases g:k=2
 ·rw [if_pos g];exact ct (c0' g) (bd (zG8 _ n (by omega) (by omega)) rfl)
 ·rw [if_neg g];exact cf (c1' g) (bd (rC 13 _ (by rw [zUd];omega)) rfl)
def sn0:zJ:=⟨[],[],[]⟩
def sdL:By:=[115,101,101,100]
def tz (t:zL):zL:=⟨t.Kind,t.Attr,t.Height,t.Policy,Q0 (uqs t.Kind) 0⟩
def mkE (t:zL) (auth data:By):Int:=if chk (tz t)≠0 then chk (tz t) else if 32<auth.length∨128<data.length then 4 else if 0<data.length/\t.Kind≠3 then 1 else 0
def mkS' (secret:By) (auth data:By):zJ:=⟨auth,dv secret sdL [] 32,data⟩
def mkO (secret:By) (t:zL) (auth data:By):zL×zJ×Int:=
 if mkE t auth data≠0 then (p0,sn0,mkE t auth data) else (⟨t.Kind,t.Attr,t.Height,t.Policy,unq (mkS' secret auth data) t.Kind t.Height⟩,mkS' secret auth data,0)
theorem zYf (h:mkE t auth data=0):mW (tz t)/\auth.length<=32/\data.length<=128:=by
 unfold mkE at h;split at h
 ·rename_i g;exact absurd h g
 rename_i g;split at h
 ·cases h
 rename_i g2;exact ⟨zW4 (Classical.not_not.1 g),Qr λa=>g2 (.inl a),Qr λa=>g2 (.inr a)⟩
theorem or5 (a b:By):(bif decide (32<(a.length:Int)) then (some true) else some (decide (128<(b.length:Int))):Option Bool)=some (decide (32<a.length∨128<b.length)):=or3 a b 32 128
theorem an6 (d:By) (k:Int):(bif decide (0<(d.length:Int)) then (some (k != 3)) else some false:Option Bool)=some (decide (0<d.length/\k≠3)):=by
 by_cases h:0<d.length
 ·refine ct (by simpa using h) (congrArg some ?_);by_cases g:k=3<;>simp [h,g]
 ·refine cf (decide_eq_false (by omega)) (congrArg some ?_);simp [h]
theorem zHw (secret:By) (t:zL) (auth data:By) (hs:secret.length<2 ^ 30):lD secret t auth data=some (mkO secret t auth data):=by
 have hu:=yBo t.Kind;unfold lD mkO;refine bd (yFg _) ?_;refine bd (mk1 _ (by omega)) ?_;refine bd (ckT (zIt (by simp))) ?_;refine bd (ckT (zJu (by omega))) ?_;refine bd (fC (tz t)) ?_;refine bd (a:=mkE t auth data) ?_ ?_
 ·unfold mkE;by_cases h:chk (tz t)=0
  ·rw [if_neg (by simp [h])];refine cf (b0 h) ?_;refine bd (or5 auth data) ?_;by_cases h2:32<auth.length∨128<data.length
   ·rw [if_pos h2];exact ct (by simpa using h2) rfl
   rw [if_neg h2];refine cf (by simpa using h2) ?_;refine bd (an6 data t.Kind) ?_;by_cases h3:0<data.length/\t.Kind≠3
   ·rw [if_pos h3];exact ct (decide_eq_true h3) rfl
   rw [if_neg h3];exact cf (decide_eq_false h3) (congrArg some h)
  ·rw [if_pos h];exact ct (b1 h) rfl
 ·by_cases h:mkE t auth data=0
  ·rw [if_neg (by simp [h])];obtain ⟨g1,g2,g3⟩:=zYf h;refine cf (b0 h) ?_;refine bd (uG secret _ [] 32 hs (by decide) (by decide)) ?_;exact bd (zQ0 _ t.Kind t.Height g1.h0 g1.h3 (by show (dv _ _ _ 32).length<_;rw [dY _ _ _ _ (by decide)];decide) (by show data.length<_;omega)) rfl
  ·rw [if_pos h];exact ct (b1 h) rfl
structure zBb (s:zJ):Prop where
 au:s.Auth.length<=32
 sd:s.Seed.length<=32
 dt:s.Data.length<=128
theorem yEy {u:By} (h:mW (tz p)) (hu:u.length=uqs p.Kind):mW ⟨p.Kind,p.Attr,p.Height,p.Policy,u⟩:=⟨h.k1,h.k3,h.h0,h.h3,h.pl,hu⟩
theorem zP7 {secret:By} (h:(mkO secret t auth data).2.2=0):mW (mkO secret t auth data).1/\zBb (mkO secret t auth data).2.1:=by
 unfold mkO at h ⊢;split at h
 ·rename_i g;exact absurd h g
 rename_i g;have e:=Classical.not_not.1 g;obtain ⟨g1,g2,g3⟩:=zYf e;rw [if_neg g];exact ⟨yEy g1 (zQv _ _ _ g1.h3),g2,by show (dv _ _ _ 32).length<=32;rw [dY _ _ _ _ (by decide)];decide,g3⟩
def prL:By:=[112,114,105,118,97,116,101]
def zFi (parent:zJ) (p:zL):By:=dv parent.Seed prL (nm p) 32
theorem zNo (parent:zJ) (p:zL):(zFi parent p).length=32:=dY _ _ _ _ (by decide)
def zDv (s:zJ):By:=xX (xX (xX [] s.Auth) s.Seed) s.Data
def zH3 (parent:zJ) (p:zL) (s:zJ):By:=zN6 (zFi parent p) ((nm p).take 16) (enc p) (zDv s)
theorem yKc {l:By} (h:l.length=32):sub l 0 16=some (l.take 16):=by
 rw [show (0:Int)=((0:Nat):Int) from rfl,show (16:Int)=((16:Nat):Int) from rfl,vY (by omega) (by omega)];simp
theorem zGb (parent:zJ) (p:zL) (s:zJ) (hp:parent.Seed.length<2 ^ 30):pW parent p s=some (zH3 parent p s):=by
 have he:=zKm p;have h1:=wW [] s.Auth;have h2:=wW (xX [] s.Auth) s.Seed;unfold pW;refine bd (rW p) ?_;refine bd (tG _ _ (by decide)) ?_;refine bd (tG _ _ (by simp at h1;omega)) ?_;refine bd (tG _ _ (by simp at h1;omega)) ?_;refine bd (a:=zFi parent p) (bd (uG _ _ _ 32 hp (by decide) (by rw [zCa];decide)) rfl) ?_;refine bd (yKc (zCa p)) ?_;refine bd (rM p) ?_;exact bd (yA3 _ _ _ _ (by rw [zNo];decide) (by omega)) rfl
theorem zK3 (parent:zJ) (p:zL) (s:zJ) (hp:parent.Seed.length<2 ^ 30):nZ parent p s=some (zH3 parent p s):=(show nZ parent p s=pW parent p s from rfl).trans (zGb parent p s hp)
theorem yEo {s:zJ} (h:zBb s):32<=(zH3 parent p s).length/\(zH3 parent p s).length<2 ^ 20:=by
 have e1:(xX [] s.Auth).length=2+s.Auth.length:=by simp [xX,yJ];have:=h.au;omega
 have e2:(xX (xX [] s.Auth) s.Seed).length=4+s.Auth.length+s.Seed.length:=by unfold xX at *;simp only [Q4,yJ,Qk] at *;have:=h.sd;omega
 have e3:(zDv s).length=6+s.Auth.length+s.Seed.length+s.Data.length:=by unfold zDv xX at *;simp only [Q4,yJ,Qk] at *;have:=h.dt;omega
 have h1:=h.au;have h2:=h.sd;have h3:=h.dt;unfold zH3 zN6;rw [if_neg (by simp only [Qk,zCa];omega)];have l1:=wW [] ((nm p).take 16);have l2:=wW (xX [] ((nm p).take 16)) (zI9 (zFi parent p) ((nm p).take 16) (zDv s));simp only [Q4,zHv];simp only [Ql] at l1;omega
def yKl (p:zL) (x y z:By×RS):zJ×Int:=
 if jJ z.2≠0 then (sn0,jJ z.2) else if unq ⟨x.1,y.1,z.1⟩ p.Kind p.Height≠p.Unique then (sn0,18) else (⟨x.1,y.1,z.1⟩,0)
def wr1 (b:By):=wA (rs0 b) 32
def wr2 (b:By):=wA (wr1 b).2 32
def wr3 (b:By):=wA (wr2 b).2 128
def zN0 (parent:zJ) (p:zL) (b:By):zJ×Int:=
 if (zDf (zFi parent p) (enc p) b).2≠0 then (sn0,(zDf (zFi parent p) (enc p) b).2) else yKl p (wr1 (zDf (zFi parent p) (enc p) b).1) (wr2 (zDf (zFi parent p) (enc p) b).1) (wr3 (zDf (zFi parent p) (enc p) b).1)
theorem yBc {b:By}:zBb (zN0 parent p b).1:=by
 have o:zBb sn0:=⟨by decide,by decide,by decide⟩;unfold zN0;split
 ·exact o
 unfold yKl;split
 ·exact o
 split
 ·exact o
 ·exact ⟨jH _ 32,jH _ 32,jH _ 128⟩
theorem zTc (parent:zJ) (p:zL) (b:By) (hp:parent.Seed.length<2 ^ 30) (h0:0<=p.Height) (h3:p.Height<=3) (hb:b.length<2 ^ 40):zAw parent p b=some (zN0 parent p b):=by
 have he:=zKm p;have hl:=zUp (zFi parent p) (enc p) b;unfold zAw zN0;refine bd (rW p) ?_;refine bd (a:=zFi parent p) (bd (uG _ _ _ 32 hp (by decide) (by rw [zCa];decide)) rfl) ?_;refine bd (rM p) ?_;refine bd (yBx _ _ _ (by rw [zNo];decide) (by omega) hb) ?_;generalize zDf (zFi parent p) (enc p) b=x at hl;by_cases h:x.2=0
 ·rw [if_neg (by simp [h])];refine cf (b0 h) ?_;have o0:=zLq (b:=x.1) (by omega);have o1:(wr1 x.1).2.Ok:=lQ _ 32 o0;have o2:(wr2 x.1).2.Ok:=lQ _ 32 o1;have o3:(wr3 x.1).2.Ok:=lQ _ 128 o2;have l2:(wr2 x.1).1.length<=32:=jH _ 32;have l3:(wr3 x.1).1.length<=128:=jH _ 128;refine bd (yF4 _) ?_;refine bd (sT _ 32 o0) ?_;refine bd (sT _ 32 o1) ?_;refine bd (sT _ 128 o2) ?_;refine bd (zDu _ o3) ?_;show (bif (jJ (wr3 x.1).2 != 0) then some (sn0,jJ (wr3 x.1).2) else (qR ⟨(wr1 x.1).1,(wr2 x.1).1,(wr3 x.1).1⟩ p.Kind p.Height).bind _)=_;unfold yKl;by_cases h2:jJ (wr3 x.1).2=0
  ·rw [if_neg (by simp [h2])];refine cf (b0 h2) ?_;refine bd (zQ0 _ _ _ h0 h3 (by show (wr2 x.1).1.length<_;omega) (by show (wr3 x.1).1.length<_;omega)) ?_;have hu:=zQv ⟨(wr1 x.1).1,(wr2 x.1).1,(wr3 x.1).1⟩ p.Kind p.Height h3;have hu2:=yBo p.Kind;refine bd (qE _ _ (by omega)) ?_;by_cases h4:unq ⟨(wr1 x.1).1,(wr2 x.1).1,(wr3 x.1).1⟩ p.Kind p.Height=p.Unique
   ·rw [if_neg (by simp [h4])];exact cf (by simp [h4]) rfl
   ·rw [if_pos h4];exact ct (by simp [h4]) rfl
  ·rw [if_pos h2];exact ct (b1 h2) rfl
 ·rw [if_pos h];exact ct (b1 h) rfl
end Go.Proofs.TT
namespace Go.Sw
open Go
variable {c d:Bool}{o:Option Bool}
theorem cc {α:Type} {a b:Option α} {x y:α} (h:c=true->a=some x) (k:c=false->b=some y):(bif c then a else b)=some (bif c then x else y):=by cases c<;>first  | simp_all
theorem oA (c d:Bool):(bif c then some d else some false:Option Bool)=some (c&&d):=by cases c<;>rfl
theorem oO (c d:Bool):(bif c then some true else some d:Option Bool)=some (c||d):=by cases c<;>rfl
theorem oA' (h:c=true->o=some d):(bif c then o else some false:Option Bool)=some (c&&d):=by cases c<;>first  | simp_all
theorem oO' (h:c=false->o=some d):(bif c then some true else o:Option Bool)=some (c||d):=by cases c<;>first  | simp_all
theorem oD' (h:c=false->o=some d):(bif c then some c else o:Option Bool)=some (c||d):=by cases c<;>first  | simp_all
end Go.Sw
namespace Go.Proofs.TT
open Go Go.Sw
set_option maxRecDepth 100000
variable {a:zI}{b:Bool}{d:By}{α:Type}
def z32:By:=Q0 32 0
theorem zRt:z32.length=32:=rfl
theorem zOw:lE=some z32:=rfl
def nU (n lo hi:Int):Bool:=decide (lo<=n)&&decide (n<=hi)
theorem zPg {n lo hi:Int}:nU n lo hi=true↔lo<=n/\n<=hi:=by simp [nU]
def arg (b:Bool):Int:=bif b then 0 else 1
def zN4 (e:Int) (b:By):Int:=bif (e==0)&&decide (128<(b.length:Int)) then 4 else e
def l32 (b:By):Bool:=(b.length:Int)==32
theorem zF3 {b:By}:l32 b=true↔b.length=32:=by simp [l32];omega
def brs (l:List By):Bool:=nU l.length 2 8&&l.all l32
def pcv (a:zI):Int:=
 bif a.Kind==1 then arg (nU a.Selection.a0 0 65535&&(nU a.Selection.a1 0 65535&&l32 a.Digest)) else
 bif a.Kind==2 then arg (nU a.N 1 31) else
 bif a.Kind==3 then arg (nU a.N 1 255) else
 bif a.Kind==4 then zN4 (arg (nU a.Op 0 3&&l32 a.Name)) a.Operand else
 bif a.Kind==5 then arg (nU a.Op 0 3&&nU a.N 0 1099511627776) else
 bif (a.Kind==6)||(a.Kind==9) then zN4 (arg (l32 a.Name)) a.Ref else
 bif a.Kind==7 then 0 else
 bif a.Kind==8 then arg (brs a.Branches) else 19
theorem all_take {l:List α} {p:α->Bool} {i:Nat} (h:i<l.length):(l.take (i+1)).all p=((l.take i).all p&&p l[i]):=by
 rw [Qd,List.all_append,List.getElem?_eq_getElem h];simp
theorem rbrs (l:List By):kT l=some (brs l):=by
 unfold kT brs;refine bd (oO _ _) ?_;by_cases h:2<=l.length/\l.length<=8
 ·have e:nU l.length 2 8=true:=zPg.2 (by omega);rw [e,Qo];refine cf (by simp;omega) ?_;have I:∀ (d k:Nat),k+d=l.length->∀ z,d<z->zO (qT l) z (k:Int)=some (bif (l.drop k).all l32 then .inr () else .inl false):=by
   intro d;induction d with
   | zero=>
    intro k S z V;obtain ⟨f,rfl⟩:∃ f,z=f+1:=⟨z - 1,by omega⟩;have:(l.drop k)=[]:=Q9 (by omega);rw [this];simp only [zO,qT];rw [show decide ((k:Int)<l.length)=false from decide_eq_false (by omega)];rfl
   | succ d R=>
    intro k S z V;obtain ⟨f,rfl⟩:∃ f,z=f+1:=⟨z - 1,by omega⟩;have G:k<l.length:=by omega
    rw [fG G,List.all_cons];simp only [zO,qT];rw [show decide ((k:Int)<l.length)=true from decide_eq_true (by omega),yR G];by_cases g:l32 l[k]=true
    ·rw [g,Qo,<- R (k+1) (by omega) f (by omega)];have J:=zF3.1 g;simp only [cond_true,Q5];rw [show ((l[k].length:Int) != 32)=false by rw [J];rfl,yH (by omega) (by omega)];rfl
    ·have J:l[k].length≠32:=λq=>g (zF3.2 q);simp only [cond_true,Q5];rw [Qb.2 g,show ((l[k].length:Int) != 32)=true by have N:(l[k].length:Int)≠32:=by { omega };simpa using N];rfl
  refine bd (I l.length 0 (by omega) FU (xI (by omega))) ?_;rw [Qc];cases l.all l32<;>rfl
 ·have e:nU l.length 2 8=false:=Qb.2 λq=>h (by have:=zPg.1 q;omega);rw [e];refine ct (by simp;omega) rfl
theorem zX1 (nm z:By):eE nm z=some (zN4 (arg (l32 nm)) z):=by
 unfold eE zN4 l32;by_cases h:nm.length=32
 ·refine cf (by simp_all) ?_;rw [c0' (show (nm.length:Int)=32 by omega)];exact cc (λ_=>rfl) (λ_=>rfl)
 ·have A:(nm.length:Int)≠32:=by omega
  refine ct (by simp_all) ?_;rw [c1' (show (nm.length:Int)≠32 by omega)];rfl
theorem zFj (b:Bool):(bif !b then (some 1) else some 0:Option Int)=some (arg b):=by cases b<;>rfl
theorem bi {α:Type} {o:Option (Int ⊕ Bool)} (h:o=some (.inr b)):(o.bind λj=>match j with | .inl r=>some r | .inr D=>(bif !D then (some 1) else some 0))=some (arg b):=by
 subst h;exact zFj b
theorem bE (a:zI):lT a=some (pcv a):=by
 unfold lT pcv;cases N:(a.Kind==1)
 case true=>
  simp only [cond_true,cond_false];refine bd (a:=.inr (nU a.Selection.a0 0 65535&&(nU a.Selection.a1 0 65535&&l32 a.Digest))) ?_ (by exact zFj _);refine bd (a:=nU a.Selection.a0 0 65535&&nU a.Selection.a1 0 65535) ?_ ?_
  ·unfold zA4 nU;refine bd (a:=_) ((oA' λ_=>oA' λ_=>oA _ _)) ?_;simp only [Bool.and_assoc]
  ·cases nU a.Selection.a0 0 65535<;>cases nU a.Selection.a1 0 65535<;>rfl
 cases S:(a.Kind==2)
 case true=>
  simp only [cond_true,cond_false];exact bd (a:=.inr (nU a.N 1 31)) (by unfold nU;cases decide (1<=a.N)<;>rfl) (by exact zFj _)
 cases K:(a.Kind==3)
 case true=>
  simp only [cond_true,cond_false];exact bd (a:=.inr (nU a.N 1 255)) (by unfold nU;cases decide (1<=a.N)<;>rfl) (by exact zFj _)
 cases L:(a.Kind==4)
 case true=>
  simp only [cond_true,cond_false];refine bd (a:=.inl (zN4 (arg (nU a.Op 0 3&&l32 a.Name)) a.Operand)) (bd (oO _ _) ?_) rfl;have e:nU a.Op 0 3=!(decide (a.Op<0)||decide (3<a.Op)):=by
   unfold nU;by_cases g:a.Op<0<;>by_cases I:3<a.Op<;>simp [g,I]<;>omega
  rw [e];cases decide (a.Op<0)||decide (3<a.Op)
  ·exact bd (zX1 _ _) rfl
  ·rfl
 cases J:(a.Kind==5)
 case true=>
  simp only [cond_true,cond_false];refine bd (a:=.inr (nU a.Op 0 3&&nU a.N 0 1099511627776)) ?_ (by exact zFj _);unfold nU;cases decide (0<=a.Op)<;>cases decide (a.Op<=3)<;>cases decide (0<=a.N)<;>rfl
 have H:(bif (a.Kind==6) then some (a.Kind==6) else some (a.Kind==9):Option Bool)=some ((a.Kind==6)||(a.Kind==9)):=by cases a.Kind==6<;>rfl
 cases G:((a.Kind==6)||(a.Kind==9))
 case true=>
  simp only [cond_true,cond_false];exact bd (a:=.inl (zN4 (arg (l32 a.Name)) a.Ref)) (bd (H.trans (congrArg some G)) (bd (zX1 _ _) rfl)) rfl
 cases T:(a.Kind==7)
 case true=>
  simp only [cond_true,cond_false];exact bd (a:=.inr true) (bd (H.trans (congrArg some G)) rfl) rfl
 cases R:(a.Kind==8)
 case true=>
  simp only [cond_true,cond_false];exact bd (a:=.inr (brs a.Branches)) (bd (H.trans (congrArg some G)) (bd (rbrs _) rfl)) (by exact zFj _)
 simp only [cond_true,cond_false];exact bd (a:=.inl 19) (bd (H.trans (congrArg some G)) rfl) rfl
def pfl (d:By) (a:zI):List By:=
 bif a.Kind==1 then [d,wU (wU [] 2 a.Selection.a0) 2 a.Selection.a1,a.Digest] else
 bif (a.Kind==2)||(a.Kind==3) then [d,[u8 a.N]] else
 bif a.Kind==4 then [d,[u8 a.Op],a.Operand,a.Name] else
 bif a.Kind==5 then [d,[u8 a.Op],wU [] 8 a.N] else
 bif a.Kind==6 then [d,a.Name,a.Ref] else
 bif a.Kind==8 then a.Branches else
 bif a.Kind==9 then [a.Name,a.Ref] else [d]
theorem yAd {x:By} (h:zN4 (arg b) x=0):b=true/\x.length<=128:=by
 unfold zN4 at h;cases b
 ·exact absurd h (show ¬ (1)=0 by decide)
 ·refine ⟨rfl,?_⟩;cases e:decide (128<(x.length:Int))
  ·have:=dF e;omega
  ·rw [e] at h;exact absurd h (by decide)
theorem yKw (h:arg b=0):b=true:=by cases b<;>first | rfl | exact absurd h (by decide)
theorem yJ7 {l:List By} (h:∀ x∈l,x.length<=2 ^ 20) (n:Nat) (z:l.length<=n):tot l<=n*(2 ^ 20+4):=by
 induction l generalizing n with
 | nil=>simp [tot]
 | cons x l E=>
  have G:=h x (by simp);simp only [Qs] at z;have F:=E (λy A=>h y (List.mem_cons_of_mem _ A)) (n - 1) (by omega);have e:tot (x :: l)=4+x.length+tot l:=by rfl
  omega
theorem zRm (G:d.length<=2 ^ 20) (h:pcv a=0):(pfl d a).length<=8/\tot (pfl d a)<2 ^ 30:=by
 have H:(pfl d a).length<=8/\∀ x∈pfl d a,x.length<=2 ^ 20:=by
  unfold pcv at h;unfold pfl;cases S:(a.Kind==1)
  case true=>
   rw [S] at h;have g:=yKw h;simp only [Q6] at g;have J:=zF3.1 g.2.2;refine ⟨by simp,λx z=>?_⟩;simp only [cond_true,Qx,Qt,or_false] at z;rcases z with rfl | rfl | rfl
   ·exact G
   ·rw [yJ,yJ];simp
   ·omega
  cases W:(a.Kind==2)
  case true=>refine ⟨by simp,λx z=>?_⟩;simp at z;rcases z with rfl | rfl;exact G;simp
  cases V:(a.Kind==3)
  case true=>refine ⟨by simp,λx z=>?_⟩;simp at z;rcases z with rfl | rfl;exact G;simp
  rw [S,W,V] at h;cases R:(a.Kind==4)
  case true=>
   rw [R] at h;have g:=yAd h;have K:=g.1;simp only [Q6] at K;have J:=zF3.1 K.2;refine ⟨by simp,λx z=>?_⟩;simp at z;rcases z with rfl | rfl | rfl | rfl
   ·exact G
   ·simp
   ·omega
   ·omega
  cases T:(a.Kind==5)
  case true=>refine ⟨by simp,λx z=>?_⟩;simp at z;rcases z with rfl | rfl | rfl;exact G;simp;rw [yJ];simp
  rw [R,T] at h;cases N:(a.Kind==6)
  case true=>
   rw [N] at h;have g:=yAd h;have J:=zF3.1 g.1;refine ⟨by simp,λx z=>?_⟩;simp at z;rcases z with rfl | rfl | rfl
   ·exact G
   ·omega
   ·omega
  cases L:(a.Kind==9)
  case true=>
   rw [N,L] at h;have g:=yAd h;have J:=zF3.1 g.1;have I:(a.Kind==8)=false:=by have:=eq_of_beq L;rw [this];rfl
   rw [I];refine ⟨by simp,λx z=>?_⟩;simp at z;rcases z with rfl | rfl
   ·omega
   ·omega
  cases I:(a.Kind==8)
  case true=>
   have U:(a.Kind==7)=false:=by have:=eq_of_beq I;rw [this];rfl
   rw [N,L,U,I] at h;have g:=yKw h;unfold brs at g;simp only [Q6] at g;have K:=zPg.1 g.1;refine ⟨by show a.Branches.length<=8;omega,λx z=>?_⟩;have:=zF3.1 (Qu.1 g.2 x z);omega
  refine ⟨by simp,λx z=>?_⟩;simp at z;subst z;exact G
 exact ⟨H.1,by have:=yJ7 H.2 8 H.1;omega⟩
theorem aC (x:By) (l:List By):tot (x :: l)=4+x.length+tot l:=rfl
def pex (d:By) (a:zI):By:=if pcv a=0 then hs 8 ([u8 a.Kind] :: pfl d a) else []
theorem zE0 (d:By) (a:zI):(pex d a).length<=32:=by
 unfold pex;split
 ·rw [iK];decide
 simp
theorem yKv (L:d.length<=2 ^ 20) (h:pcv a=0):zAa d a=some (frm 8 ([u8 a.Kind] :: pfl d a)):=by
 obtain ⟨z,T⟩:=zRm L h;unfold zAa;refine bd (a:=[u8 a.Kind] :: pfl d a) ?_ (bd (fK 8 _ (by rw [aC];simp;omega)) rfl);have A:=h;unfold pcv at A;unfold pfl at z ⊢;cases R:(a.Kind==1)
 case true=>
  rfl
 rw [R] at A z;cases N:(a.Kind==2)
 case true=>
  simp only [cond_true,cond_false,Qf,Qg,Qe,Q5];exact bd (zZ (by simp)) rfl
 cases K:(a.Kind==3)
 case true=>
  simp only [cond_true,cond_false,Qf,Qg,Qe,Q5];exact bd (zZ (by simp)) rfl
 rw [N,K] at A z;cases J:(a.Kind==4)
 case true=>
  simp only [cond_true,cond_false,Qf,Qg,Qe,Q5];exact bd (zZ (by simp)) rfl
 cases H:(a.Kind==5)
 case true=>
  rfl
 rw [J,H] at A z;cases S:(a.Kind==6)
 case true=>
  simp only [cond_true,cond_false,Qf,Qg,Qe,Q5];exact bd (zZ (by simp)) rfl
 rw [S] at A z;cases F:(a.Kind==7)
 case true=>
  have e:=eq_of_beq F;rw [e];simp only [cond_true,cond_false,Q5];exact bd (zZ (by simp)) rfl
 cases G:(a.Kind==8)
 case true=>
  rw [G] at z;have z:a.Branches.length<=8:=z;simp only [cond_true,cond_false,Q5];exact bd (zZ (by simp;omega)) rfl
 cases I:(a.Kind==9)
 case true=>
  simp only [cond_true,cond_false,Qf,Qg,Qe,Q5];exact bd (zZ (by simp)) rfl
 rw [I,F,G] at A;exact absurd A (show ¬ (19:Int)=0 by decide)
theorem nK (d:By) (a:zI) (z:d.length<=2 ^ 20):uV d a=some (pex d a):=by
 unfold uV pex;refine bd (bE a) ?_;by_cases g:pcv a=0
 ·obtain ⟨D,E⟩:=zRm z g;rw [if_pos g];refine cf (b0 g) (bd (yKv z g) (bd (dG _ ?_) rfl));rw [hC,aC];simp;omega
 ·rw [if_neg g];exact ct (b1 g) rfl
def trm:By->By
 | []=>[]
 | x :: l=>if x=0 then trm l else x :: l
theorem yDk (l:By):(trm l).length<=l.length:=by
 induction l with
 | nil=>simp [trm]
 | cons x l D=>unfold trm;split<;>simp;omega
theorem u0 (x:UInt8):((x.toNat:Int)==0)=decide (x=0):=by
 by_cases h:x=0
 ·simp_all
 ·have:=λg=>h (UInt8.toNat_inj.1 g);simp_all
theorem rstl (b:By):∀ d i z:Nat,i+d=b.length->d<z->b.length<2 ^ 40->∃ j:Nat,zO (rN b) z (i:Int)=some (j:Int)/\j<=b.length/\b.drop j=trm (b.drop i):=by
 intro d;induction d with
 | zero=>
  intro i z h L G;obtain ⟨f,rfl⟩:∃ f,z=f+1:=⟨z - 1,by omega⟩;have e:rN b (i:Int)=some (.inr (i:Int)):=by unfold rN;exact bd (cf (decide_eq_false (by omega)) rfl) rfl
  refine ⟨i,by simp only [zO,e],by omega,?_⟩;have:b.drop i=[]:=Q9 (by omega);rw [this];rfl
 | succ d J=>
  intro i z h L G;obtain ⟨f,rfl⟩:∃ f,z=f+1:=⟨z - 1,by omega⟩;have E:i<b.length:=by omega
  have e:rN b (i:Int)=some (if b[i]=0 then .inl ((i+1:Nat):Int) else .inr (i:Int)):=by
   unfold rN;refine bd (a:=decide (b[i]=0)) (ct (decide_eq_true (by omega)) (bd (yR E) (congrArg some (u0 _)))) ?_;by_cases g:b[i]=0
   ·rw [decide_eq_true g,if_pos g,yH (by omega) (by omega)];rfl
   ·rw [decide_eq_false g,if_neg g];rfl
  rw [fG E];unfold trm;by_cases g:b[i]=0
  ·rw [if_pos g] at e ⊢;obtain ⟨j,N,S,K⟩:=J (i+1) f (by omega) (by omega) G;exact ⟨j,by simp only [zO,e];exact N,S,K⟩
  ·rw [if_neg g] at e ⊢;exact ⟨i,by simp only [zO,e],by omega,fG E⟩
theorem zM4 (l:By) (h:l.length<2 ^ 40):aU l=some (trm l):=by
 obtain ⟨j,D,A,z⟩:=rstl l l.length 0 FU (by omega) (xI (by omega)) h;refine bd D (bd ?_ rfl);rw [vY A (Qa _),Qm (by simp),z,Qc]
def ltB:By->By->Bool
 | x :: a,y :: b=>if x≠y then decide (x<y) else ltB a b
 | _,_=>false
theorem zZs (a b:By) (W:a.length=b.length) (U:a.length<2 ^ 40):∀ d i z:Nat,i+d=a.length->d<z->∃ r,zO (qZ a b) z (i:Int)=some r/\(match r with | .inl x=>x | .inr _=>false)=ltB (a.drop i) (b.drop i):=by
 intro d;induction d with
 | zero=>
  intro i z h T;obtain ⟨f,rfl⟩:∃ f,z=f+1:=⟨z - 1,by omega⟩;have e:qZ a b (i:Int)=some (.inr (.inr ())):=by unfold qZ;exact cf (decide_eq_false (by omega)) rfl
  refine ⟨.inr (),by simp only [zO,e],?_⟩;have:a.drop i=[]:=Q9 (by omega);rw [this];rfl
 | succ d N=>
  intro i z h T;obtain ⟨f,rfl⟩:∃ f,z=f+1:=⟨z - 1,by omega⟩;have H:i<a.length:=by omega
  have I:i<b.length:=by omega
  have e:qZ a b (i:Int)=some (if a[i]≠b[i] then .inr (.inl (decide (a[i]<b[i]))) else .inl ((i+1:Nat):Int)):=by
   unfold qZ;refine ct (decide_eq_true (by omega)) (bd (yR H) (bd (yR I) ?_));by_cases g:a[i]=b[i]
   ·rw [if_neg (by simp [g])];refine cf (by simp [g]) ?_;rw [yH (by omega) (by omega)];rfl
   ·have V:a[i].toNat≠b[i].toNat:=λq=>g (UInt8.toNat_inj.1 q);rw [if_pos g];refine ct (by simpa using (show (a[i].toNat:Int)≠b[i].toNat by omega)) (bd (yR H) (bd (yR I) ?_));rw [show decide (((a[i]).toNat:Int)<(b[i]).toNat)=decide (a[i]<b[i]) from decide_eq_decide.2 (by rw [UInt8.lt_iff_toNat_lt];omega)]
  rw [fG H,fG I];unfold ltB;by_cases g:a[i]≠b[i]
  ·rw [if_pos g] at e ⊢;exact ⟨.inl _,by simp only [zO,e],rfl⟩
  ·rw [if_neg g] at e ⊢;obtain ⟨r,S,R⟩:=N (i+1) f (by omega) (by omega);exact ⟨r,by simp only [zO,e];exact S,R⟩
def lss (a b:By):Bool:=if (trm a).length≠(trm b).length then decide ((trm a).length<(trm b).length) else ltB (trm a) (trm b)
theorem zCj (a b:By) (F:a.length<2 ^ 40) (G:b.length<2 ^ 40):qQ a b=some (lss a b):=by
 have J:=yDk a;unfold qQ lss;refine bd (zM4 a F) (bd (zM4 b G) ?_);by_cases g:(trm a).length=(trm b).length
 ·rw [if_neg (by simp [g])];obtain ⟨r,H,E⟩:=zZs (trm a) (trm b) g (by omega) (trm a).length 0 FU (by omega) (xI (by omega));refine cf (by rw [g];simp) (bd H ?_);rw [Qc,Qc] at E;rw [<- E];cases r<;>rfl
 ·rw [if_pos g];refine ct (by simpa using (show ((trm a).length:Int)≠(trm b).length by omega)) ?_;simp
def pcm (op:Int) (a b:By):Bool:=
 bif op==0 then !lss a b&&!lss b a else bif op==1 then lss a b||lss b a else bif op==2 then lss a b else bif op==3 then !lss a b else false
theorem zIl (D:Int) (a b:By) (z:a.length<2 ^ 40) (g:b.length<2 ^ 40):iS D a b=some (pcm D a b):=by
 unfold iS pcm;refine cc (λ_=>?_) λ_=>cc (λ_=>?_) λ_=>cc (λ_=>?_) λ_=>cc (λ_=>?_) λ_=>rfl
 ·refine bd (bd (zCj a b z g) ?_) rfl;exact oA' λ_=>bd (zCj b a g z) rfl
 ·refine bd (bd (zCj a b z g) ?_) rfl;exact oO' λ_=>bd (zCj b a g z) rfl
 ·exact bd (zCj a b z g) rfl
 ·exact bd (zCj a b z g) rfl
def pdg:List zI->By->Option By
 | [],d=>some d
 | a :: l,d=>if pex d a=[] then none else pdg l (pex d a)
theorem zSc:∀ (l:List zI) (d:By),d.length<=32->((pdg l d).getD []).length<=32
 | [],d,h=>h
 | a :: l,d,h=>by
  unfold pdg;split
  ·decide
  ·exact zSc l _ (zE0 _ _)
theorem yAu (l:List zI) (R:l.length<2 ^ 40):∀ k i z:Nat,i+k=l.length->k<z->∀ d:By,d.length<=32->zO (sO l) z (d,(i:Int))=some (match pdg (l.drop i) d with | none=>.inl [] | some x=>.inr x):=by
 intro k;induction k with
 | zero=>
  intro i z h K d L;obtain ⟨f,rfl⟩:∃ f,z=f+1:=⟨z - 1,by omega⟩;have e:sO l (d,(i:Int))=some (.inr (.inr d)):=by unfold sO;exact cf (decide_eq_false (by omega)) rfl
  have:l.drop i=[]:=Q9 (by omega);simp only [zO,e,this];rfl
 | succ k N=>
  intro i z h K d L;obtain ⟨f,rfl⟩:∃ f,z=f+1:=⟨z - 1,by omega⟩;have G:i<l.length:=by omega
  have e:sO l (d,(i:Int))=some (if pex d l[i]=[] then .inr (.inl []) else .inl (pex d l[i],((i+1:Nat):Int))):=by
   unfold sO;refine ct (decide_eq_true (by omega)) (bd (yR G) (bd (nK d _ (by omega)) ?_));by_cases g:pex d l[i]=[]
   ·rw [if_pos g];exact ct (by rw [g];rfl) rfl
   ·rw [if_neg g,yH (by omega) (by omega)];refine cf ?_ rfl;have:(pex d l[i]).length≠0:=λq=>g (List.eq_nil_of_length_eq_zero q);simp;exact g
  rw [fG G];unfold pdg;by_cases g:pex d l[i]=[]
  ·rw [if_pos g] at e ⊢;simp only [zO,e]
  ·rw [if_neg g] at e ⊢;simp only [zO,e];exact N (i+1) f (by omega) (by omega) _ (zE0 _ _)
theorem zI4 (l:List zI) (A:l.length<2 ^ 40):jN l=some ((pdg l z32).getD []):=by
 refine bd zOw (bd (yAu l A l.length 0 FU (by omega) (xI (by omega)) _ (by decide)) ?_);rw [Qc];cases pdg l _<;>rfl
end Go.Proofs.TT
namespace Go.Sw
open Go
theorem yD1 {X Y:Type} {step:X->Option (X ⊕ Y)} {a:X} {r:Y} (h:step a=some (.inr r)):zO step FU a=some r:=yC 0 (λ_=>a) rfl (λi hi=>absurd hi (Nat.not_lt_zero i)) h (xI (by decide))
theorem one1 {X Y:Type} {step:X->Option (X ⊕ Y)} {a b:X} {r:Y} (h0:step a=some (.inl b)) (h:step b=some (.inr r)):zO step FU a=some r:=
 yC 1 (λi=>match i with | 0=>a | _=>b) rfl (λi hi=>by obtain rfl:i=0:=by { omega };exact h0) h (xI (by decide))
theorem sc2 {R:Type} {step:Int->Option (Int ⊕ (R ⊕ Unit))} {p q:Bool} {x:R} (h0:step 0=some (bif p then .inr (.inl x) else .inl 1)) (h1:step 1=some (bif q then .inr (.inl x) else .inl 2)) (h2:step 2=some (.inr (.inr ()))):zO step FU 0=some (bif p||q then .inl x else .inr ()):=by
 cases p
 ·cases q
  ·exact Go.Proofs.TT.two h0 h1 h2
  ·exact one1 h0 h1
 ·exact yD1 h0
end Go.Sw
namespace Go.Proofs.TT
open Go Go.Sw
set_option maxRecDepth 100000
variable {b bk:List By}{c2 c3:Bool}{ds:List By}{f:By->By}{i loc:Int}{n:Nat}{o:Option Bool}{r:zE}
structure Bk2 (b0 b1:List By):Prop where
 l0:b0.length=0∨b0.length=16
 l1:b1.length=0∨b1.length=16
 m0:∀ x∈b0,x.length=20
 m1:∀ x∈b1,x.length=32
def pR (r:zE):Prop:=r.Banks=[]∨∃ b0 b1,r.Banks=[b0,b1]/\Bk2 b0 b1
def onb (b:List By):Bool:=(b.length:Int)==16
def onv (r:zE) (a:Nat):Bool:=onb (r.Banks.getD a [])
theorem zSm:onb b=true↔b.length=16:=by simp [onb];omega
theorem yGz (h:b.length=0∨b.length=16):decide (0<(b.length:Int))=onb b:=by
 unfold onb;rcases h with h | h<;>rw [h]<;>rfl
def sb (c0 c1:Bool):Int:=(bif c0 then 1 else 0)+(bif c1 then 2 else 0)
theorem ract (b0 b1:List By) (u:Int):qK ⟨[b0,b1],u⟩=some (sb (onb b0) (onb b1)):=by
 have e0:((b0.length:Int)==16)=onb b0:=rfl;have e1:((b1.length:Int)==16)=onb b1:=rfl;generalize onb b0=c0 at *;generalize onb b1=c1 at *;unfold qK;refine bd (a:=sb c0 c1) (two (b:=(sb c0 false,1)) (c:=(sb c0 c1,2)) ?_ ?_ rfl) rfl
 ·unfold pL;refine ct rfl (bd (a:=sb c0 false) (bd (a:=c0) (ct rfl (bd (a:=b0) rfl (congrArg some e0))) ?_) rfl);cases c0<;>rfl
 ·unfold pL;refine ct rfl (bd (a:=sb c0 c1) (bd (a:=c1) (ct rfl (bd (a:=b1) rfl (congrArg some e1))) ?_) rfl);cases c0<;>cases c1<;>rfl
theorem yGu (b0 b1:List By) (u:Int):pE ⟨[b0,b1],u⟩ 0=some (onb b0)/\pE ⟨[b0,b1],u⟩ 1=some (onb b1):=by
 have h:=ract b0 b1 u;unfold pE;constructor
 ·refine bd h ?_;cases onb b0<;>cases onb b1<;>rfl
 ·refine bd h ?_;cases onb b0<;>cases onb b1<;>rfl
theorem on_e (u:Int) (a:Int) (ha:a=0∨a=1):pE ⟨[],u⟩ a=some false:=by
 unfold pE qK;refine bd (a:=0) (bd (a:=0) (yD1 rfl) rfl) ?_;rcases ha with rfl | rfl<;>rfl
theorem zFs {b0 b1:List By} (u:Int) (h:Bk2 b0 b1):xC ⟨[b0,b1],u⟩ 0=some (onb b0)/\xC ⟨[b0,b1],u⟩ 1=some (onb b1):=⟨congrArg some (yGz h.l0),congrArg some (yGz h.l1)⟩
theorem yG6 (u:Int) (a:Int) (ha:a=0∨a=1):xC ⟨[],u⟩ a=some false:=by rcases ha with rfl | rfl<;>rfl
theorem zGf (h:pR r) (a:Nat) (ha:a<2):pE r (a:Int)=some (onv r a)/\xC r (a:Int)=some (onv r a):=by
 obtain ⟨bs,u⟩:=r;rcases h with h | ⟨b0,b1,h,k⟩
 ·simp only at h;subst h;rcases (show a=0∨a=1 by omega) with rfl | rfl
  ·exact ⟨on_e u 0 (.inl rfl),yG6 u 0 (.inl rfl)⟩
  ·exact ⟨on_e u 1 (.inr rfl),yG6 u 1 (.inr rfl)⟩
 ·simp only at h;subst h;rcases (show a=0∨a=1 by omega) with rfl | rfl
  ·exact ⟨(yGu b0 b1 u).1,(zFs u k).1⟩
  ·exact ⟨(yGu b0 b1 u).2,(zFs u k).2⟩
def bnk (n:Nat):List By:=Q0 12 (Q0 n 0)++Q0 4 (Q0 n 255)
def yA6 (a:Int):zE:=if a=1 then ⟨[bnk 20,[]],0⟩ else if a=2 then ⟨[[],bnk 32],0⟩ else if a=3 then ⟨[bnk 20,bnk 32],0⟩ else ⟨[],0⟩
theorem zLp:∀ x∈bnk n,x.length=n:=by
 intro x hx;simp only [bnk,List.mem_append,Qi] at hx;rcases hx with ⟨_,rfl⟩ | ⟨_,rfl⟩<;>simp
theorem zLn (a:Int):pR (yA6 a):=by
 unfold yA6;split
 ·exact .inr ⟨_,_,rfl,.inr (by simp [bnk]),.inl rfl,zLp,by simp⟩
 split
 ·exact .inr ⟨_,_,rfl,.inl rfl,.inr (by simp [bnk]),by simp,zLp⟩
 split
 ·exact .inr ⟨_,_,rfl,.inr (by simp [bnk]),.inr (by simp [bnk]),zLp,zLp⟩
 ·exact .inl rfl
theorem yGh (a:Int) (h0:0<=a) (h3:a<=3):zHn a=some (yA6 a)/\cG a=some (yA6 a):=by
 rcases (show a=0∨a=1∨a=2∨a=3 by omega) with rfl | rfl | rfl | rfl<;>exact ⟨by decide +kernel,by decide +kernel⟩
def lst (i:Int):Int:=bif i==14 then 2 else bif i==15 then 3 else 0
theorem zRc (i:Int):oM i false=some (lst i)/\sZ i false=some (lst i):=by
 unfold oM sZ lst;cases h:(i==14)<;>cases h':(i==15)<;>exact ⟨rfl,rfl⟩
def lsr (i:Int):Int:=bif decide (i<12) then 5 else bif i==14 then 3 else bif i==15 then 4 else 0
theorem zRg (i:Int):oM i true=some (lsr i)/\sZ i true=some (if i<12 then -1 else lsr i):=by
 unfold oM sZ lsr;by_cases g:i<12
 ·rw [decide_eq_true g,if_pos g];exact ⟨rfl,rfl⟩
 ·rw [decide_eq_false g,if_neg g];cases h:(i==14)<;>cases h':(i==15)<;>exact ⟨rfl,rfl⟩
def ixr (i:Int):Bool:=decide (0<=i)&&decide (i<16)
theorem zZ6 (i:Int):(!ixr i)=(decide (i<0)||decide (16<=i)):=by
 unfold ixr;by_cases g:i<0<;>by_cases g':16<=i<;>simp [g,g']<;>omega
theorem yHs:rL 20 0=some (Q0 20 0)/\rL 32 0=some (Q0 32 0):=⟨by decide +kernel,by decide +kernel⟩
theorem zCf (h:∀ x∈bk,x.length=n) (i:Nat):(bk.getD i []).length<=n:=by
 by_cases hn:i<bk.length
 ·have:bk.getD i []=bk[i]:=by simp [hn]
  rw [this,h _ (Q7 hn)];exact Qa _
 ·have:bk.getD i []=[]:=by simp [List.getD,List.getElem?_eq_none (by omega:bk.length<=i)]
  rw [this];simp
theorem zMq {b0 b1:List By} (u:Int) (h:Bk2 b0 b1):aF ⟨[b0,b1],u⟩=some (b0,b1,u):=by
 have l0:b0.length<=16:=by have:=h.l0;omega
 have l1:b1.length<=16:=by have:=h.l1;omega
 unfold aF;refine ct rfl (bd (a:=b0) ?_ (ct rfl (bd (a:=(b1,b0)) ?_ (cf rfl rfl))))
 ·refine yC b0.length (λi=>(b0.take i,(i:Int))) (by simp) (λi hi=>?_) ?_ (xI (by omega))
  ·unfold zAi;refine bd (a:=b0) rfl (ct (dlt hi) (bd (a:=b0) rfl (bd (yR hi) (bd (mN _ (by have:=h.m0 _ (Q7 hi);omega)) (bd (zZ (by simp;omega)) ?_)))));rw [yM (show i<2 ^ 40 by omega),Qd];simp [hi]
  ·unfold zAi;refine bd (a:=b0) rfl (cf (dge (Qa _)) ?_);simp
 ·refine yC b1.length (λi=>(b1.take i,(i:Int),b0)) (by simp) (λi hi=>?_) ?_ (xI (by omega))
  ·unfold aH;refine bd (a:=b1) rfl (ct (dlt hi) (bd (a:=b1) rfl (bd (yR hi) (bd (mN _ (by have:=h.m1 _ (Q7 hi);omega)) (bd (zZ (by simp;omega)) ?_)))));rw [yM (show i<2 ^ 40 by omega),Qd];simp [hi]
  ·unfold aH;refine bd (a:=b1) rfl (cf (dge (Qa _)) ?_);simp
theorem zNf (b:By) (hb:b.length<2 ^ 40):nX 0 b=some (zJn b):=by
 unfold nX;exact ct rfl (bd (zZd b hb) rfl)
theorem zNn (b:By) (hb:b.length<2 ^ 40):nX 1 b=some (sha b):=by
 unfold nX;exact cf rfl (ct rfl (bd (dG b hb) rfl))
def upR (bk:List By) (i:Int) (f:By->By):List By:=bif onb bk then bk.set i.toNat (f (bk.getD i.toNat [])) else bk
theorem zSy (bk:List By) (i:Int) (f:By->By):(upR bk i f).length=bk.length:=by unfold upR;cases onb bk<;>simp
theorem zZv (h:∀ x∈bk,x.length=n) (hf:∀ x,(f x).length=n):∀ x∈upR bk i f,x.length=n:=by
 intro x hx;unfold upR at hx;cases g:onb bk<;>rw [g] at hx
 ·exact h x hx
 ·rcases Qj hx with hx | hx
  ·exact h x hx
  ·rw [hx];exact hf _
def chR (r:zE) (i:Int) (f g:By->By):zE:=⟨match r.Banks with | [b0,b1]=>[upR b0 i f,upR b1 i g] | l=>l,Q2.wrap (r.Updates+1)⟩
theorem zYa (h:pR r) {g:By->By} (hf:∀ x,(f x).length=20) (hg:∀ x,(g x).length=32):pR (chR r i f g):=by
 obtain ⟨bs,u⟩:=r;rcases h with h | ⟨b0,b1,h,k⟩
 ·simp only at h;subst h;exact .inl rfl
 ·simp only at h;subst h;exact .inr ⟨_,_,rfl,by rw [zSy];exact k.l0,by rw [zSy];exact k.l1,zZv k.m0 hf,zZv k.m1 hg⟩
def rg0:zE:=⟨[],0⟩
def exE (r:zE) (loc i:Int) (ds:List By):Int:=
 bif decide (loc<0)||(decide (4<loc)||((!ixr i)||((ds.length:Int) != 2))) then 1 else
 bif decide (loc<lst i) then 13 else
 bif (!onv r 0&&decide (0<((ds.getD 0 []).length:Int)))||(!onv r 1&&decide (0<((ds.getD 1 []).length:Int))) then 27 else
 bif (onv r 0&&(((ds.getD 0 []).length:Int) != 20))||(onv r 1&&(((ds.getD 1 []).length:Int) != 32)) then 24 else 0
def exR (r:zE) (i:Int) (ds:List By):zE:=chR r i (λx=>zJn (x++ds.getD 0 [])) (λx=>sha (x++ds.getD 1 []))
def exV (r:zE) (loc i:Int) (ds:List By):zE×Int:=if exE r loc i ds=0 then (exR r i ds,0) else (rg0,exE r loc i ds)
theorem yJt (h:pR r) (i:Int) (ds:List By):pR (exR r i ds):=zYa h (λx=>zHj _) (λx=>mH _)
theorem b3 {c0 c1:Bool}:(bif c0 then some true else bif c1 then some true else bif c2 then some true else some c3:Option Bool)=some (c0||(c1||(c2||c3))):=by cases c0<;>cases c1<;>cases c2<;>rfl
theorem b4 {c0 c1 c4:Bool}:(bif c0 then some true else bif c1 then some true else bif c2 then some true else bif c3 then some true else some c4:Option Bool)=some (c0||(c1||(c2||(c3||c4)))):=by cases c0<;>cases c1<;>cases c2<;>cases c3<;>rfl
theorem b2 {c0 c1:Bool}:(bif c0 then some true else bif c1 then some true else some c2:Option Bool)=some (c0||(c1||c2)):=by cases c0<;>cases c1<;>rfl
theorem yHp (h:(decide (loc<0)||(decide (4<loc)||((!ixr i)||((ds.length:Int) != 2))))=true):exV r loc i ds=(rg0,1):=by
 have e:exE r loc i ds=1:=by unfold exE;rw [h];rfl
 unfold exV;rw [e];rfl
theorem zZc (h:(decide (loc<0)||(decide (4<loc)||((!ixr i)||((ds.length:Int) != 2))))=false) (h2:decide (loc<lst i)=true):exV r loc i ds=(rg0,13):=by
 have e:exE r loc i ds=13:=by unfold exE;rw [h,h2];rfl
 unfold exV;rw [e];rfl
set_option maxRecDepth 100000
def yEf (ds:List By):Prop:=∀ d∈ds,d.length<2 ^ 30
theorem zYw (h:yEf ds) (a:Nat):(ds.getD a []).length<2 ^ 30:=by
 by_cases z:a<ds.length
 ·have:ds.getD a []=ds[a]:=by simp [z]
  rw [this];exact h _ (Q7 z)
 simp_all
theorem rl1r (h:pR r) (F:ds.length=2):zO (zA8 r ds) FU 0=some (bif (!onv r 0&&decide (0<((ds.getD 0 []).length:Int)))||(!onv r 1&&decide (0<((ds.getD 1 []).length:Int))) then .inl (rg0,27) else .inr ()):=by
 refine sc2 ?_ ?_ rfl
 ·refine ct rfl (bd (bd (zGf h 0 (by decide)).2 (oA' λ_=>bd (zC9 (i:=0) (by omega)) rfl)) ?_);cases (!onv r 0&&decide (0<((ds.getD 0 []).length:Int)))<;>rfl
 ·refine ct rfl (bd (bd (zGf h 1 (by decide)).2 (oA' λ_=>bd (zC9 (i:=1) (by omega)) rfl)) ?_);cases (!onv r 1&&decide (0<((ds.getD 1 []).length:Int)))<;>rfl
theorem rl2r (h:pR r) (E:ds.length=2):zO (zBe r ds) FU 0=some (bif (onv r 0&&(((ds.getD 0 []).length:Int) != 20))||(onv r 1&&(((ds.getD 1 []).length:Int) != 32)) then .inl (rg0,24) else .inr ()):=by
 refine sc2 ?_ ?_ rfl
 ·refine ct rfl (bd (bd (zGf h 0 (by decide)).2 (oA' λ_=>bd (zC9 (i:=0) (by omega)) (bd (a:=20) rfl rfl))) ?_);cases (onv r 0&&(((ds.getD 0 []).length:Int) != 20))<;>rfl
 ·refine ct rfl (bd (bd (zGf h 1 (by decide)).2 (oA' λ_=>bd (zC9 (i:=1) (by omega)) (bd (a:=32) rfl rfl))) ?_);cases (onv r 1&&(((ds.getD 1 []).length:Int) != 32))<;>rfl
theorem tlX (m:∀ x∈b,x.length=n) (Y:n<=32) (I:o=some (onb b)) {ob:Option (List By)} (V:ob=some b) (N:0<=i) (L:i<16) {d:By} (W:d.length<2 ^ 30) {od:Option By} (E:od=some d)
  {C S:By->Option By} (K:∀ z,z.length<=32->C z=some z) (J:∀ z,z.length<2 ^ 40->S z=some (f z)) :
  (o.bind λv=>bif v then (ob.bind λH=>(idx H i).bind λU=>(C U).bind λG=>od.bind λT=>(yK 1 G T).bind λF=>(S F).bind λR=>(ixN b.length i).bind λj=>(wL b j R).bind λl=>some l) else some b)=some (upR b i (λx=>f (x++d))):=by
 refine bd I ?_;refine cc (λg=>?_) λ_=>rfl;have h:=zSm.1 g;obtain ⟨k,rfl⟩:=Q1 N;have X:=zCf m k;refine bd V (bd (zC9 (i:=k) (by omega)) (bd (K _ (by omega)) (bd E (bd (zZ (by omega)) (bd (J _ (by rw [Q4];omega)) ?_)))));rw [h];refine bd (a:=k) (by simp [ixN];omega) (bd (by simp [wL,h];omega) rfl)
theorem yH4 (z:By) (h:z.length<=32):wI z=some z:=mN z (by omega)
theorem cpE (u:Int):aR ⟨[],u⟩=some ⟨[],u⟩:=rfl
theorem yG4 (F:(decide (loc<0)||(decide (4<loc)||((!ixr i)||((ds.length:Int) != 2))))=false) (E:decide (loc<lst i)=false)
  (D:((!onv r 0&&decide (0<((ds.getD 0 []).length:Int)))||(!onv r 1&&decide (0<((ds.getD 1 []).length:Int))))=false) :
  exV r loc i ds=bif (onv r 0&&(((ds.getD 0 []).length:Int) != 20))||(onv r 1&&(((ds.getD 1 []).length:Int) != 32)) then (rg0,24) else (exR r i ds,0):=by
 unfold exV exE;rw [F,E,D];cases (onv r 0&&(((ds.getD 0 []).length:Int) != 20))||(onv r 1&&(((ds.getD 1 []).length:Int) != 32))<;>rfl
theorem zZ4 (G:(decide (loc<0)||(decide (4<loc)||((!ixr i)||((ds.length:Int) != 2))))=false) (F:decide (loc<lst i)=false)
  (E:((!onv r 0&&decide (0<((ds.getD 0 []).length:Int)))||(!onv r 1&&decide (0<((ds.getD 1 []).length:Int))))=true):exV r loc i ds=(rg0,27):=by
 unfold exV exE;rw [G,F,E];rfl
theorem hd1 (h:(decide (loc<0)||(decide (4<loc)||((!ixr i)||((ds.length:Int) != 2))))=false):0<=i/\i<16/\ds.length=2:=by
 simp only [Q3] at h;have A:=h.2.2.1;have D:=h.2.2.2;unfold ixr at A;simp at A D;omega
theorem zBj (h:pR r) (D i:Int) (R:yEf ds):nF r D i ds=some (exV r D i ds):=by
 have K:=h;obtain ⟨bs,u⟩:=r;have S:=zYw R 0;have T:=zYw R 1;have N:(decide (D<0)||(decide (4<D)||(decide (i<0)||(decide (16<=i)||((ds.length:Int) != 2)))))=(decide (D<0)||(decide (4<D)||((!ixr i)||((ds.length:Int) != 2)))):=by rw [zZ6,Qp]
 unfold nF;rcases h with h | ⟨b0,b1,h,k⟩
 ·simp only at h;subst h;refine cf rfl ?_;unfold zAc;refine bd (b4.trans (congrArg some N)) ?_;cases g:decide (D<0)||(decide (4<D)||((!ixr i)||((ds.length:Int) != 2)))
  case true=>exact ct rfl (by rw [yHp g];rfl)
  obtain ⟨L,G,J⟩:=hd1 g;refine cf rfl (bd (zRc i).2 ?_);cases H:decide (D<lst i)
  case true=>exact ct rfl (by rw [zZc g H];rfl)
  refine cf rfl (bd (rl1r K J) ?_);cases I:(!onv ⟨[],u⟩ 0&&decide (0<((ds.getD 0 []).length:Int)))||(!onv ⟨[],u⟩ 1&&decide (0<((ds.getD 1 []).length:Int)))
  case true=>rw [zZ4 g H I];rfl
  refine bd (rl2r K J) ?_;rw [yG4 g H I];cases (onv ⟨[],u⟩ 0&&(((ds.getD 0 []).length:Int) != 20))||(onv ⟨[],u⟩ 1&&(((ds.getD 1 []).length:Int) != 32))
  ·exact bd (cpE u) (bd (a:=()) (two (b:=1) (c:=2) rfl rfl rfl) rfl)
  ·rfl
 ·simp only at h;subst h;refine ct rfl ?_;unfold aV;refine bd (b4.trans (congrArg some N)) ?_;cases g:decide (D<0)||(decide (4<D)||((!ixr i)||((ds.length:Int) != 2)))
  case true=>exact ct rfl (by rw [yHp g];rfl)
  obtain ⟨L,G,J⟩:=hd1 g;refine cf rfl (bd (zRc i).2 ?_);cases H:decide (D<lst i)
  case true=>exact ct rfl (by rw [zZc g H];rfl)
  refine cf rfl (bd (rl1r K J) ?_);cases I:(!onv ⟨[b0,b1],u⟩ 0&&decide (0<((ds.getD 0 []).length:Int)))||(!onv ⟨[b0,b1],u⟩ 1&&decide (0<((ds.getD 1 []).length:Int)))
  case true=>rw [zZ4 g H I];rfl
  refine bd (rl2r K J) ?_;rw [yG4 g H I];cases (onv ⟨[b0,b1],u⟩ 0&&(((ds.getD 0 []).length:Int) != 20))||(onv ⟨[b0,b1],u⟩ 1&&(((ds.getD 1 []).length:Int) != 32))
  ·refine bd (zMq u k) ?_;refine bd (tlX k.m0 (by decide) (zFs u k).1 (ob:=idx [b0,b1] 0) rfl L G S (zC9 (i:=0) (by omega)) yH4 zNf) ?_;exact bd (tlX k.m1 (by decide) (zFs u k).2 (ob:=idx [b0,b1] 1) rfl L G T (zC9 (i:=1) (by omega)) yH4 zNn) rfl
  ·rfl
theorem zY7 (h:pR r) :pR (exV r loc i ds).1:=by
 unfold exV;split
 ·exact yJt h i ds
 ·exact .inl rfl
def dgE (r:zE) (b:By):List By:=[bif onv r 0 then zJn b else [],bif onv r 1 then sha b else []]
theorem yJi (r:zE) (b:By):yEf (dgE r b):=by
 intro d z;simp only [dgE,Qx,Qt,or_false] at z;rcases z with rfl | rfl
 ·cases onv r 0
  ·simp
  ·show (zJn b).length<_;rw [zHj];decide
 ·cases onv r 1
  ·simp
  ·show (sha b).length<_;rw [mH];decide
theorem yHl (h:pR r) {b:By} (g:b.length<2 ^ 40):iV r b=some (dgE r b):=by
 refine bd (a:=dgE r b) (two (b:=(1,[bif onv r 0 then zJn b else [],[]])) (c:=(2,dgE r b)) ?_ ?_ rfl) (bd (ckT rfl) rfl)
 ·unfold iH;refine ct rfl (bd (bd (zGf h 0 (by decide)).2 ?_) rfl);cases onv r 0
  ·rfl
  ·exact bd (zNf b g) rfl
 ·unfold iH;refine ct rfl (bd (a:=dgE r b) (bd (zGf h 1 (by decide)).2 ?_) rfl);unfold dgE;cases onv r 1
  ·rfl
  ·exact bd (zNn b g) rfl
def evV (r:zE) (loc i:Int) (b:By):zE×Int:=if 128<b.length then (rg0,4) else exV r loc i (dgE r b)
theorem yJx (h:pR r) {b:By}:pR (evV r loc i b).1:=by
 unfold evV;split
 ·exact .inl rfl
 ·exact zY7 h
theorem zJd (h:pR r) (z i:Int) (b:By):aS r z i b=some (evV r z i b):=by
 unfold aS evV;by_cases g:128<b.length
 ·rw [if_pos g];exact ct (decide_eq_true (by omega)) rfl
 ·rw [if_neg g];exact cf (decide_eq_false (by omega)) (bd (yHl h (by omega)) (bd (zBj h z i (yJi r b)) rfl))
def rsE (loc i:Int):Int:=bif decide (loc<0)||(decide (4<loc)||!ixr i) then 1 else bif decide (loc<lsr i) then 13 else 0
def rsV (r:zE) (loc i:Int):zE×Int:=if rsE loc i=0 then (chR r i (λ_=>Q0 20 0) (λ_=>Q0 32 0),0) else (rg0,rsE loc i)
theorem yIl (h:pR r) :pR (rsV r loc i).1:=by
 unfold rsV;split
 ·exact zYa h (λ_=>by simp) (λ_=>by simp)
 ·exact .inl rfl
theorem tlZ (G:o=some (onb b)) (I:0<=i) (H:i<16) {z:By} {oz:Option By} (F:oz=some z) :
  (o.bind λv=>bif v then (oz.bind λE=>(ixN b.length i).bind λj=>(wL b j E).bind λl=>some l) else some b)=some (upR b i (λ_=>z)):=by
 refine bd G ?_;refine cc (λg=>?_) λ_=>rfl;have h:=zSm.1 g;obtain ⟨k,rfl⟩:=Q1 I;refine bd F ?_;refine bd (a:=k) (by simp [ixN];omega) (bd (by simp [wL];omega) rfl)
theorem zJk (h:pR r) (A i:Int):eP r A i=some (rsV r A i):=by
 obtain ⟨bs,u⟩:=r;have K:(decide (A<0)||(decide (4<A)||(decide (i<0)||decide (16<=i))))=(decide (A<0)||(decide (4<A)||!ixr i)):=by rw [zZ6]
 have N:(decide (A<0)||(decide (4<A)||!ixr i))=false->(decide ((if i<12 then -1 else lsr i)<0)||decide (A<(if i<12 then -1 else lsr i)))=decide (A<lsr i):=λg=>by
  simp only [Q3] at g;have I:=dF g.1;have R:=dF g.2.1;unfold lsr;by_cases q:i<12
  ·rw [if_pos q,decide_eq_true q];show true=decide (A<5);exact (decide_eq_true (by omega)).symm
  ·rw [if_neg q,decide_eq_false q];cases S:(i==14)<;>cases T:(i==15)<;>rfl
 unfold eP rsV rsE;rcases h with h | ⟨b0,b1,h,k⟩
 ·simp only at h;subst h;refine cf rfl ?_;unfold zCh;refine bd (b3.trans (congrArg some K)) ?_;cases g:decide (A<0)||(decide (4<A)||!ixr i)
  case true=>exact ct rfl rfl
  refine cf rfl (bd (zRg i).2 (bd ((oO _ _).trans (congrArg some (N g))) ?_));cases R:decide (A<lsr i)
  case true=>exact ct rfl rfl
  exact cf rfl (bd (cpE u) (bd (a:=()) (two (b:=1) (c:=2) rfl rfl rfl) rfl))
 ·simp only at h;subst h;refine ct rfl ?_;unfold zB2;refine bd (b3.trans (congrArg some K)) ?_;cases g:decide (A<0)||(decide (4<A)||!ixr i)
  case true=>exact ct rfl rfl
  have H:0<=i/\i<16:=by simp only [Q3] at g;have I:=g.2.2;unfold ixr at I;simp at I;omega
  refine cf rfl (bd (zRg i).2 (bd ((oO _ _).trans (congrArg some (N g))) ?_));cases R:decide (A<lsr i)
  case true=>exact ct rfl rfl
  refine cf rfl (bd (zMq u k) ?_);refine bd (tlZ (zFs u k).1 H.1 H.2 (oz:=(rH 0).bind λv=>rL v 0) (bd (a:=20) rfl yHs.1)) ?_;exact bd (tlZ (zFs u k).2 H.1 H.2 (oz:=(rH 1).bind λv=>rL v 0) (bd (a:=32) rfl yHs.2)) rfl
def vlE (r:zE) (bank i:Int):Int:=bif decide (bank<0)||(decide (2<=bank)||!ixr i) then 1 else bif !onv r bank.toNat then 27 else 0
def vlV (r:zE) (bank i:Int):By×Int:=if vlE r bank i=0 then ((r.Banks.getD bank.toNat []).getD i.toNat [],0) else ([],vlE r bank i)
theorem zY8 (h:pR r) {a:Nat} (G:a<2) (g:onv r a=true):idx r.Banks (a:Int)=some (r.Banks.getD a [])/\(r.Banks.getD a []).length=16/\∀ k,((r.Banks.getD a []).getD k []).length<=32:=by
 obtain ⟨bs,u⟩:=r;have A:=zSm.1 g;rcases h with h | ⟨b0,b1,h,k⟩
 ·simp_all
 ·simp only at h;subst h;rcases (show a=0∨a=1 by omega) with rfl | rfl
  ·exact ⟨rfl,A,λi=>by have:=zCf k.m0 i;show (b0.getD i []).length<=32;omega⟩
  ·exact ⟨rfl,A,λi=>by have:=zCf k.m1 i;simp_all⟩
theorem zI7 (h:pR r) (z i:Int):aY r z i=some (vlV r z i):=by
 unfold aY vlV vlE;refine bd (b3.trans (congrArg some (by rw [zZ6]:_=(decide (z<0)||(decide (2<=z)||!ixr i))))) ?_;cases g:decide (z<0)||(decide (2<=z)||!ixr i)
 case true=>exact ct rfl rfl
 simp only [Q3] at g;have L:=dF g.1;have F:=dF g.2.1;have H:0<=i/\i<16:=by have F:=g.2.2;unfold ixr at F;simp at F;omega
 obtain ⟨a,rfl⟩:=Q1 (by omega:0<=z);obtain ⟨k,rfl⟩:=Q1 H.1;refine cf rfl (bd (zGf h a (by omega)).2 ?_);cases E:onv r a
 ·simp_all
 ·obtain ⟨I,K,J⟩:=zY8 h (by omega) E;refine cf rfl (bd I (bd (zC9 (i:=k) (by omega)) (bd (yH4 _ (J k)) ?_)));simp_all
end Go.Proofs.TT
namespace Go.Sw
open Go
theorem sc2g {X R Y:Type} {step:X->Option (X ⊕ (R ⊕ Y))} {p q:Bool} {a b c:X} {x:R} {y:Y} (h0:step a=some (bif p then .inr (.inl x) else .inl b)) (h1:p=false->step b=some (bif q then .inr (.inl x) else .inl c)) (h2:p=false->q=false->step c=some (.inr (.inr y))):zO step FU a=some (bif p||q then .inl x else .inr y):=by
 cases p
 ·have h1:=h1 rfl;cases q
  ·exact Go.Proofs.TT.two h0 h1 (h2 rfl rfl)
  ·exact one1 h0 h1
 ·exact yD1 h0
end Go.Sw
namespace Go.Proofs.TT
open Go Go.Sw
set_option maxRecDepth 100000
variable {a:Nat}{all bits:By}{bk:List By}{d:By}{k:Nat}{kind:Int}{l:By}{m n off:Int}{policy:By}{r:zE}{s:zB}{size v:Int}{x:zF}
theorem bit0 (x:Int):(yX .i64 (xN .i64 0 x) 1==1)=false:=by
 unfold xN;rw [Int.zero_fdiv];decide
def yEk (v:Int) (i:Nat):Bool:=yX .i64 (xN .i64 v (Qy.wrap (i:Int))) 1==1
def cE (v:Int) (bk:List By):Nat->By
 | 0=>[]
 | n+1=>cE v bk n++(if yEk v n=true then bk.getD n [] else [])
theorem zXw (v:Int) (bk:List By) (n:Nat):cE v bk (n+1)=cE v bk n++(if yEk v n=true then bk.getD n [] else []):=rfl
theorem zBz (h:∀ k,(bk.getD k []).length<=32) (v:Int):∀ n,(cE v bk n).length<=32*n
 | 0=>by simp [cE]
 | n+1=>by
  have:=zBz h v n;have:=h n;rw [zXw,Q4];split
  ·omega
  ·simp only [Ql];omega
theorem zNu (h:pR r) (a:Nat) (k:Nat):((r.Banks.getD a []).getD k []).length<=32:=by
 obtain ⟨bs,u⟩:=r;rcases h with h | ⟨b0,b1,h,q⟩
 ·simp only at h;subst h;simp
 ·simp only at h;subst h;rcases (show a=0∨a=1∨2<=a by omega) with rfl | rfl | g
  ·have:=zCf q.m0 k;show (b0.getD k []).length<=32;omega
  ·have:=zCf q.m1 k;show (b1.getD k []).length<=32;omega
  ·have e:([b0,b1]:List (List By)).getD a []=[]:=by simp [List.getD,List.getElem?_eq_none (show [b0,b1].length<=a by simpa using g)]
   rw [e];simp
theorem yBm {i:Nat} {o:Option (List By)} (hi:i<16) (hz:v=0∨(bk.length=16/\o=some bk)) (hb:∀ k,(bk.getD k []).length<=32) (hl:all.length<=512) :
  (bif ((yX .i64 (xN .i64 v (Qy.wrap (i:Int))) 1)==1) then (o.bind λb=>(idx b (i:Int)).bind λx=>(yK 1 (all++cE v bk i) x).bind λz=>some z) else some (all++cE v bk i))=some (all++cE v bk (i+1)):=by
 have hs:=zBz hb v i;have hg:=hb i;rw [zXw];cases hbit:yEk v i
 ·refine cf hbit ?_;simp
 ·refine ct hbit ?_;rcases hz with h | ⟨h16,ho⟩
  ·unfold yEk at hbit;rw [h,bit0] at hbit;cases hbit
  refine bd ho (bd (zC9 (by omega)) (bd (zZ (by rw [Q4];omega)) ?_));simp
theorem yLt (h:pR r) (ha:a<2) (g:((v != 0)&&!onv r a)=false):v=0∨((r.Banks.getD a []).length=16/\idx r.Banks (a:Int)=some (r.Banks.getD a [])):=by
 by_cases e:v=0
 ·exact .inl e
 ·rw [b1 e,Qo] at g;have g:onv r a=true:=by simpa using g
  obtain ⟨q1,q2,_⟩:=zY8 h ha g;exact .inr ⟨q2,q1⟩
theorem dl2r (h:pR r) (ha:a<2) {s:A2 Int} (hv:((ixN 2 (a:Int)).bind λj=>[s.a0,s.a1][j]?)=some v) (g:((v != 0)&&!onv r a)=false) (hl:all.length<=512):zO (qG r s (a:Int)) FU (all,0)=some (all++cE v (r.Banks.getD a []) 16):=by
 refine yC 16 (λi=>(all++cE v (r.Banks.getD a []) i,(i:Int))) (by simp [cE]) (λi hi16=>?_) rfl (xI (by decide));unfold qG;have e:∀ (f:Int->Option By),((ixN 2 (a:Int)).bind λj=>([s.a0,s.a1][j]?).bind f)=f v:=by
  intro f;rw [<- Option.bind_assoc,hv];rfl
 refine ct (decide_eq_true (by omega)) ?_;rw [e];refine bd (yBm hi16 (yLt h ha g) (zNu h a) hl) ?_;rw [yM (by omega)]
def rng (x:Int):Bool:=decide (x<0)||decide (65535<x)
def rdE (r:zE) (s:A2 Int):Int:=bif rng s.a0||rng s.a1 then 1 else bif ((s.a0 != 0)&&!onv r 0)||((s.a1 != 0)&&!onv r 1) then 27 else 0
def rdD (r:zE) (s:A2 Int):By:=hs 5 [wU (wU [] 2 s.a0) 2 s.a1,cE s.a0 (r.Banks.getD 0 []) 16++cE s.a1 (r.Banks.getD 1 []) 16]
def rdV (r:zE) (s:A2 Int):By×Int:=if rdE r s=0 then (rdD r s,0) else ([],rdE r s)
theorem zQt (r:zE) (s:A2 Int):(rdV r s).1.length<=32:=by
 unfold rdV;split
 ·show (rdD r s).length<=32;rw [rdD,iK];decide
 ·exact Qn _
theorem yD3 (h:pR r) (s:A2 Int):tot [wU (wU [] 2 s.a0) 2 s.a1,cE s.a0 (r.Banks.getD 0 []) 16++cE s.a1 (r.Banks.getD 1 []) 16]<2 ^ 32:=by
 have h0:=zBz (zNu h 0) s.a0 16;have h1:=zBz (zNu h 1) s.a1 16;simp only [tot,List.map,List.sum_cons,List.sum_nil,yJ,Q4,Ql];omega
theorem zBp (h:pR r) (s:A2 Int):jD r s=some (rdV r s):=by
 have h0:=zBz (zNu h 0) s.a0 16;have ht:=yD3 h s;unfold jD rdV rdE rdD;have e0:((s.a0 != 0)&&!onv r 0)=false->zO (qG r s 0) FU ([],0)=some (cE s.a0 (r.Banks.getD 0 []) 16):=λg=>by have:=dl2r h (a:=0) (by decide) (s:=s) (v:=s.a0) rfl g (all:=[]) (by simp);rwa [List.nil_append] at this
 have e1:((s.a1 != 0)&&!onv r 1)=false->zO (qG r s 1) FU (cE s.a0 (r.Banks.getD 0 []) 16,0)=some (cE s.a0 (r.Banks.getD 0 []) 16++cE s.a1 (r.Banks.getD 1 []) 16):=λg=>dl2r h (a:=1) (by decide) (s:=s) (v:=s.a1) rfl g (by omega);generalize cE s.a0 (r.Banks.getD 0 []) 16=t0 at *;generalize cE s.a1 (r.Banks.getD 1 []) 16=t1 at *;refine bd (sc2 (p:=rng s.a0) (q:=rng s.a1) (x:=([],1)) ?_ ?_ rfl) ?_
 ·unfold fQ;refine ct rfl (bd (a:=rng s.a0) (bd (a:=0) rfl (bd (a:=s.a0) rfl (oO' λ_=>bd (a:=0) rfl (bd (a:=s.a0) rfl rfl)))) ?_);cases rng s.a0<;>rfl
 ·unfold fQ;refine ct rfl (bd (a:=rng s.a1) (bd (a:=1) rfl (bd (a:=s.a1) rfl (oO' λ_=>bd (a:=1) rfl (bd (a:=s.a1) rfl rfl)))) ?_);cases rng s.a1<;>rfl
 cases rng s.a0||rng s.a1
 case true=>rfl
 refine bd (sc2g (p:=(s.a0 != 0)&&!onv r 0) (q:=(s.a1 != 0)&&!onv r 1) (b:=(t0,1)) (c:=(t0++t1,2)) (x:=([],27)) (y:=t0++t1) ?_ (λ_=>?_) (λ_ _=>rfl)) ?_
 ·unfold eL;refine ct rfl (bd (a:=(s.a0 != 0)&&!onv r 0) (bd (a:=0) rfl (bd (a:=s.a0) rfl (oA' λ_=>bd (zGf h 0 (by decide)).2 rfl))) ?_);cases g:(s.a0 != 0)&&!onv r 0
  ·exact cf rfl (bd (e0 g) rfl)
  ·rfl
 ·unfold eL;refine ct rfl (bd (a:=(s.a1 != 0)&&!onv r 1) (bd (a:=1) rfl (bd (a:=s.a1) rfl (oA' λ_=>bd (zGf h 1 (by decide)).2 rfl))) ?_);cases g:(s.a1 != 0)&&!onv r 1
  ·exact cf rfl (bd (e1 g) rfl)
  ·rfl
 cases ((s.a0 != 0)&&!onv r 0)||((s.a1 != 0)&&!onv r 1)
 case true=>rfl
 refine bd (a:=s.a0) rfl (bd (vI [] 2 _ (by decide) (by decide) (by simp)) (bd (a:=s.a1) rfl (bd (vI _ 2 _ (by decide) (by decide) (by rw [yJ];simp)) ?_)));exact bd (rC 5 _ ht) rfl
theorem zBy (b:By) (h:b.length<2 ^ 40):yT b b=some true:=by rw [qE b b h];simp
theorem zFq (l:List By) (h:∀ x∈l,x.length<2 ^ 40) (hl:l.length<2 ^ 40):rZ l l=some true:=by
 unfold rZ;refine cf (by simp) (bd (a:=.inr ()) ?_ rfl);refine yC l.length (λi=>(i:Int)) rfl (λi hi=>?_) ?_ (xI (by omega))
 ·unfold cB;refine ct (decide_eq_true (by omega)) (bd (yR hi) (bd (yR hi) (bd (zBy _ (h _ (Q7 hi))) ?_)));rw [yM (by omega)];rfl
 ·unfold cB;exact cf (decide_eq_false (by omega)) rfl
theorem yKs (h:pR r) (ha:a<2) (g:onv r a=true):∃ b,idx r.Banks (a:Int)=some b/\b.length=16/\∀ x∈b,x.length<=32:=by
 obtain ⟨bs,u⟩:=r;have hl:=zSm.1 g;rcases h with h | ⟨b0,b1,h,k⟩
 ·simp only at h;subst h;cases hl
 ·simp only at h;subst h;rcases (show a=0∨a=1 by omega) with rfl | rfl
  ·exact ⟨b0,rfl,hl,λx hx=>by rw [k.m0 x hx];decide⟩
  ·exact ⟨b1,rfl,hl,λx hx=>by rw [k.m1 x hx];decide⟩
theorem zJ8 (h:pR r):bW r r=some true:=by
 have st:∀ a:Nat,a<2->aZ r r (a:Int)=some (.inl ((a+1:Nat):Int)):=by
  intro a ha;unfold aZ;refine ct (decide_eq_true (by omega)) (bd (a:=false) (bd (zGf h a ha).2 (bd (zGf h a ha).2 (cf (by simp) (bd (zGf h a ha).2 ?_)))) (by rw [yM (by omega)];rfl));cases g:onv r a
  ·rfl
  ·obtain ⟨b,q1,q2,q3⟩:=yKs h ha g;exact ct rfl (bd q1 (bd q1 (bd (zFq b (λx hx=>by have:=q3 x hx;omega) (by omega)) rfl)))
 unfold bW;refine cf (by simp) (bd (two (st 0 (by decide)) (st 1 (by decide)) rfl) ?_);have hb:r.Banks.length<=2:=by
  rcases h with h | ⟨b0,b1,h,_⟩<;>rw [h]
  ·decide
  ·exact Qa _
 exact bd (a:=true) (ct (decide_eq_true (by omega)) (congrArg some (decide_eq_true (by omega)))) rfl
set_option maxRecDepth 100000
structure zB3 (x:zF):Prop where
 n0:0<=x.N
 n1:x.N<=255
 p:x.Policy.length<=32
 a:x.Auth.length<=32
 d:x.Data.length<=128
 b:x.Kind=3->x.Data.length=8
def szd (k s:Int):Bool:=bif k==1 then decide (1<=s)&&decide (s<=128) else bif (k==2)||(k==3) then s==8 else bif k==4 then s==32 else false
theorem yAn (k s:Int):zB0 k s=some (szd k s):=by
 refine cc (λ_=>bd (oA _ _) rfl) λ_=>bd (by cases k==2<;>rfl) (cc (λ_=>rfl) λ_=>cc (λ_=>rfl) λ_=>rfl)
theorem yIn (k s:Int):zBn k s=some (szd k s):=yAn k s
def n1E (n kind size:Int) (policy:By):Bool:=decide (n<0)||(decide (255<n)||(!szd kind size||((policy.length:Int) != 0&&(policy.length:Int) != 32)))
def n2E (attr:Int) (policy:By):Bool:=decide (attr<0)||(decide (127<attr)||((yX .i64 attr 21==0)||((yX .i64 attr 42==0)||((yX .i64 attr 12 != 0)&&((policy.length:Int)==0)))))
def nwE (n kind attr size:Int) (auth policy:By):Int:=bif n1E n kind size policy then 1 else bif decide (32<(auth.length:Int)) then 4 else bif n2E attr policy then 20 else 0
def nwV (n kind attr size:Int) (auth policy:By):zF×Int:=if nwE n kind attr size auth policy=0 then (zF.mk n kind attr size policy auth false (Q0 size.toNat 0),0) else (default,nwE n kind attr size auth policy)
theorem yHz (h:n1E n kind size policy=false):0<=n/\n<=255/\szd kind size=true/\policy.length<=32:=by
 unfold n1E at h;simp only [Q3] at h;obtain ⟨H,G,E,A⟩:=h;have:=dF H;have:=dF G;refine ⟨by omega,by omega,by simp_all,?_⟩;by_cases g:policy.length=0
 ·omega
 ·have F:(policy.length:Int)≠0:=by omega
  rw [b1 F] at A;have:=by simpa using A
  omega
theorem yAj {k s:Int} (h:szd k s=true):1<=s/\s<=128/\(k=3->s=8):=by
 unfold szd at h;by_cases E:k=1
 ·simp_all
 by_cases A:k=2∨k=3
 ·simp_all
 simp_all
theorem zNv (h:n1E n kind size policy=false) (f:Nat->Option (zF×Int)):((mkN 1 size).bind λg=>(ck (Nat.beq (Q0 g (0:UInt8)).length g)).bind λ_=>(ck (Nat.ble g 140737488355328)).bind λ_=>f g)=f size.toNat:=by
 obtain ⟨_,_,E,_⟩:=yHz h;obtain ⟨s1,F,_⟩:=yAj E;obtain ⟨k,rfl⟩:=Q1 (by omega:0<=size);exact bd (mk1 k (by omega)) (bd (ckT (zIt (by simp))) (bd (ckT (zJu (by omega))) rfl))
theorem zQg (n A D size:Int) (auth z:By):zC6 n A D size auth z=some (nwV n A D size auth z):=by
 unfold zC6 nwV nwE;refine bd (a:=n1E n A size z) ?_ ?_
 ·refine bd (oO _ _) ?_;unfold n1E;rw [<- Qp];exact oD' λ_=>bd (yIn A size) (oD' λ_=>oA _ _)
 cases g:n1E n A size z
 case true=>rfl
 cases decide (32<(auth.length:Int))
 case true=>rfl
 refine cf rfl (bd (a:=n2E D z) ?_ ?_)
 ·refine bd (oO _ _) ?_;unfold n2E;rw [<- Qp];exact oD' λ_=>oD' λ_=>oD' λ_=>oA _ _
 cases n2E D z
 case true=>rfl
 exact cf rfl (zNv g _)
theorem zOt (n A D size:Int) (auth z:By):zCt n A D size auth z=some (nwV n A D size auth z):=by
 unfold zCt nwV nwE;refine bd (a:=n1E n A size z) ?_ ?_
 ·exact oO' λ_=>oO' λ_=>bd (yAn A _) (oO' λ_=>oA _ _)
 cases g:n1E n A size z
 case true=>rfl
 cases decide (32<(auth.length:Int))
 case true=>rfl
 refine cf rfl (bd (a:=n2E D z) ?_ ?_)
 ·exact oO' λ_=>oO' λ_=>oO' λ_=>oO' λ_=>oA _ _
 cases n2E D z
 case true=>rfl
 exact cf rfl (zNv g _)
theorem yJr {attr:Int} {auth:By} (h:nwE n kind attr size auth policy=0):zB3 (nwV n kind attr size auth policy).1/\(nwV n kind attr size auth policy).1.N=n:=by
 unfold nwV;rw [if_pos h];unfold nwE at h;cases g:n1E n _ size _<;>rw [g] at h
 case true=>cases h
 cases E:decide (32<(auth.length:Int))<;>rw [E] at h
 case true=>cases h
 obtain ⟨H,J,I,F⟩:=yHz g;obtain ⟨s1,K,G⟩:=yAj I;have:=dF E;exact ⟨⟨H,J,F,by show auth.length<=32;omega,by simp_all,λe=>by simp_all⟩,rfl⟩
def ins (off n:Int) (len:Nat):Bool:=decide (0<=off/\0<=n/\off+n<=len)
theorem zRh {len:Nat}:ins off n len=true↔0<=off/\0<=n/\off+n<=len:=by simp [ins]
theorem zSw (off n:Int) {len:Nat} (z:len<2 ^ 40):fE off n (len:Int)=some (ins off n len):=by
 refine bd (oA' λ_=>oA' λ_=>oA _ _) (congrArg some ?_);rw [Qv,zRh];simp only [Q6,decide_eq_true_eq];constructor
 ·rintro ⟨a,b,c,d⟩;rw [yH (by omega) (by omega)] at d;exact ⟨a,b,by omega⟩
 ·rintro ⟨a,b,c⟩;rw [yH (by omega) (by omega)];omega
def irE (x:zF) (off n:Int):Int:=bif !x.Written then 22 else bif !ins off n x.Data.length then 24 else 0
def irV (x:zF) (off n:Int):By×Int:=if irE x off n=0 then ((x.Data.drop off.toNat).take n.toNat,0) else ([],irE x off n)
theorem yIf (D:x.Data.length<2 ^ 40) (h:ins off n x.Data.length=true):sub x.Data off (Q2.wrap (off+n))=some ((x.Data.drop off.toNat).take n.toNat):=by
 obtain ⟨a,b,c⟩:=zRh.1 h;obtain ⟨i,rfl⟩:=Q1 a;obtain ⟨k,rfl⟩:=Q1 b;rw [yH (by omega) (by omega),<- Int.natCast_add,vY (by omega) (by omega)];simp
theorem zOb (x:zF) (off n:Int) (z:x.Data.length<2 ^ 40):zAp x off n=some (irV x off n):=by
 unfold zAp irV irE;cases x.Written
 ·rfl
 refine cf rfl (bd (zSw _ n z) ?_);cases g:ins _ n _
 ·rfl
 refine cf rfl (bd (yIf z g) (bd (mN _ (by simp;omega)) rfl))
theorem yD8 (x:zF) (off n:Int):(irV x off n).1.length<=x.Data.length:=by
 unfold irV;split
 ·simp;omega
 simp
def wrt (x:zF) (d:By):zF:=⟨x.N,x.Kind,x.Attr,x.Size,x.Policy,x.Auth,true,d⟩
theorem zLy (h:zB3 x) (g:d.length<=128) (z:x.Kind=3->d.length=8):zB3 (wrt x d):=⟨h.n0,h.n1,h.p,h.a,g,z⟩
def iwE (x:zF) (off:Int) (d:By):Int:=bif x.Kind != 1 then 19 else bif !ins off (d.length:Int) x.Data.length then 24 else 0
def ovr (l:By) (k:Nat) (d:By):By:=l.take k++(d++l.drop (k+d.length))
def iwV (x:zF) (off:Int) (d:By):zF×Int:=if iwE x off d=0 then (wrt x (ovr x.Data off.toNat d),0) else (default,iwE x off d)
theorem zLz (x:zF) (off:Int) (d:By) (E:x.Data.length<2 ^ 40):dO x off d=some (iwV x off d):=by
 unfold dO iwV iwE;cases x.Kind != 1
 case true=>rfl
 refine cf rfl (bd (zSw off _ E) ?_);cases g:ins off (d.length:Int) x.Data.length
 ·rfl
 obtain ⟨a,b,c⟩:=zRh.1 g;obtain ⟨i,rfl⟩:=Q1 a;have F:sub x.Data 0 (i:Int)=some (x.Data.take i):=by
  rw [show (0:Int)=((0:Nat):Int) from rfl,vY (by omega) (by omega)];simp
 have D:sub x.Data (Q2.wrap ((i:Int)+(d.length:Int))) (x.Data.length:Int)=some (x.Data.drop (i+d.length)):=by
  rw [yH (by omega) (by omega),<- Int.natCast_add,vY (by omega) (by omega),Qm (by simp)]
 refine cf rfl (bd F (bd (mN _ (by simp;omega)) (bd (zZ (by simp;omega)) (bd D (bd (zZ (by simp;omega)) ?_)))));unfold ovr wrt;rw [List.append_assoc];rfl
theorem yEs (h:k+d.length<=l.length):(ovr l k d).length=l.length:=by unfold ovr;simp;omega
theorem yIg (h:zB3 x) (e:iwE x off d=0):zB3 (iwV x off d).1/\(iwV x off d).1.N=x.N:=by
 unfold iwV;rw [if_pos e];unfold iwE at e;cases A:x.Kind != 1<;>rw [A] at e
 case true=>cases e
 have D:=by simpa using A
 cases g:ins off _ _<;>rw [g] at e
 ·cases e
 obtain ⟨a,b,c⟩:=zRh.1 g;have:=yEs (l:=x.Data) (d:=d) (k:=off.toNat) (by omega);exact ⟨zLy h (by rw [this];exact h.d) (λq=>by omega),rfl⟩
def inB (x:zF) (most:Int):Int:=bif x.Written then (pN (rs0 x.Data) 8).1 else most
def inE (x:zF) (most:Int):Int:=bif x.Kind != 2 then 19 else bif decide (1099511627776<=inB x most) then 31 else 0
def inV (x:zF) (most:Int):zF×Int×Int:=if inE x most=0 then (wrt x (wU [] 8 (Q2.wrap (inB x most+1))),if most<Q2.wrap (inB x most+1) then Q2.wrap (inB x most+1) else most,0) else (default,0,inE x most)
theorem zO3 (x:zF) (g:Int) (E:x.Data.length<2 ^ 40):oQ x g=some (inV x g):=by
 have F:=zLq E;unfold oQ inV inE;cases x.Kind != 2
 case true=>rfl
 refine cf rfl (bd (a:=inB x g) ?_ ?_)
 ·unfold inB;cases x.Written
  ·rfl
  ·refine ct rfl (bd ?_ rfl);unfold zAr;exact bd (yF4 _) (bd (gG _ 8 F (by decide) (by decide)) rfl)
 cases decide (1099511627776<=inB x g)
 case true=>rfl
 rfl
theorem yKn (h:zB3 x) {most:Int} (e:inE x most=0):zB3 (inV x most).1/\(inV x most).1.N=x.N:=by
 unfold inV;rw [if_pos e];exact ⟨zLy h (by rw [yJ];decide) (λ_=>by rfl),rfl⟩
def orS (d bits:By):Nat->By
 | 0=>d
 | k+1=>(orS d bits k).set k (u8 (ior .u8 (((orS d bits k).getD k 0).toNat:Int) ((bits.getD k 0).toNat:Int)))
theorem zA5 (d bits:By):∀ k,(orS d bits k).length=d.length
 | 0=>rfl
 | k+1=>by rw [orS,Qw,zA5 d _ k]
def sbE (x:zF) (bits:By):Int:=bif x.Kind != 3 then 19 else bif (bits.length:Int) != 8 then 24 else 0
def sbV (x:zF) (bits:By):zF×Int:=if sbE x bits=0 then (wrt x (orS x.Data bits 8),0) else (default,sbE x bits)
theorem getQ (h:k<l.length):l[k]? = some (l.getD k 0):=by simp_all
theorem yGf (H:d.length=8) (G:bits.length=8) (F:k<8) {n:Nat} (D:n=8) {β:Type} (f:By->Option β) :
  ((ixN n (k:Int)).bind λj=>((orS d bits k)[j]?).bind λv=>(idx bits (k:Int)).bind λw=>(ixN n (k:Int)).bind λA=>(wL (orS d bits k) A (u8 (ior .u8 (v.toNat:Int) (w.toNat:Int)))).bind λl=>f l)=f (orS d bits (k+1)):=by
 subst D;have E:=zA5 d bits k;have e:ixN 8  k  = some k:=by simp [ixN];omega
 refine bd e (bd (getQ (by omega)) (bd (ig (by omega)) (bd e (bd ?_ rfl))));simp [wL,orS];omega
theorem zMe (x:zF) (bits:By) (G:x.Kind=3->x.Data.length=8):kZ x bits=some (sbV x bits):=by
 unfold kZ sbV sbE;cases g:x.Kind != 3
 case true=>rfl
 have A:=G (by simpa using g);refine cf rfl ?_;cases I:(bits.length:Int) != 8
 case true=>rfl
 have F:bits.length=8:=by have:(bits.length:Int)=8:=by { simpa using I };omega
 refine cf rfl (bd (a:=x.Data) (mN _ (by omega)) (bd (a:=orS x.Data bits 8) ?_ rfl));refine yC 8 (λi=>(orS x.Data bits i,(i:Int))) rfl (λi H=>?_) ?_ (xI (by decide))
 ·refine ct (decide_eq_true (by rw [zA5,A];omega)) ((yGf A F H (by rw [zA5,A]) _).trans ?_);rw [yM (by omega)]
 ·unfold bN;exact cf (decide_eq_false (by rw [zA5,A];decide)) rfl
theorem yH6 (h:zB3 x) (e:sbE x bits=0):zB3 (sbV x bits).1/\(sbV x bits).1.N=x.N:=by
 unfold sbV;rw [if_pos e];exact ⟨zLy h (by rw [zA5];exact h.d) (λq=>by rw [zA5];exact h.b q),rfl⟩
def ieE (x:zF) (d:By):Int:=bif x.Kind != 4 then 19 else bif decide (128<(d.length:Int)) then 4 else 0
def ieV (x:zF) (d:By):zF×Int:=if ieE x d=0 then (wrt x (sha (x.Data++d)),0) else (default,ieE x d)
theorem zPb (x:zF) (d:By) (E:x.Data.length<2 ^ 39):gQ x d=some (ieV x d):=by
 unfold gQ ieV ieE;cases x.Kind != 4
 case true=>rfl
 cases g:decide (128<(d.length:Int))
 case true=>rfl
 have:=dF g;exact cf rfl (bd (mN _ (by omega)) (bd (zZ (by omega)) (bd (dG _ (by rw [Q4];omega)) rfl)))
theorem yKb (h:zB3 x) (e:ieE x d=0):zB3 (ieV x d).1/\(ieV x d).1.N=x.N:=by
 unfold ieV;rw [if_pos e];refine ⟨zLy h (by rw [mH];decide) (λq=>?_),rfl⟩;unfold ieE at e;simp_all
theorem zPf (h:zB3 x):zD7 x x=some true:=by
 refine bd (ct (beq_self_eq_true _) (ct (beq_self_eq_true _) (ct (beq_self_eq_true _) (ct (beq_self_eq_true _) (ct (beq_self_eq_true _) ?_))))) rfl;have:=h.p;have:=h.a;have:=h.d;exact bd (zBy _ (by omega)) (ct rfl (bd (zBy _ (by omega)) (ct rfl (bd (zBy _ (by omega)) rfl))))
set_option maxRecDepth 100000
def ss0:zH:=default
def ob0:zR:=default
def x0:zB:=default
structure zId (x:zH):Prop where
 k0:0<=x.Kind
 k3:x.Kind<=3
 n:x.Nonce.length<=32
 d:x.Digest.length<=32
structure zLm (x:zR):Prop where
 k:x.Public.Kind=0∨(mW x.Public/\zBb x.Sensitive)
 z:x.Public.Kind=0->x=ob0
structure zGn (l:List Int):Prop where
 nd:l.Nodup
 el:∀ x∈l,0<=x/\x<=255
structure yIj (x:yD):Prop where
 u:x.Unique.length<=32
 c0:0<=x.Used
 c8:x.Used<=8
structure zY (s:zB):Prop where
 sl:s.Stable.Seeds.length=3
 se:∀ x∈s.Stable.Seeds,x.length<=32
 al:s.Stable.Auths.length=4
 ae:∀ x∈s.Stable.Auths,x.length<=32
 en:s.Stable.Entropy.length<=32
 a0:0<=s.Stable.Active
 a3:s.Stable.Active<=3
 sv:pR s.Stable.Saved
 sn:(s.Volatile.Stopped=false->s.Stable.Saved.Banks=[])/\(s.Volatile.Started=true->s.Volatile.Stopped=false)
 rg:pR s.Volatile.Registers
 ss:s.Volatile.Sessions.length=3
 sx:∀ x∈s.Volatile.Sessions,zId x
 ol:s.Volatile.Objects.length=3
 ob:∀ x∈s.Volatile.Objects,zLm x
 il:s.Stable.Indices.length<=6
 ix:∀ x∈s.Stable.Indices,zB3 x
 nd:(s.Stable.Indices.map (·.N)).Nodup
 kl:s.Stable.Keys.length<=8
 ky:∀ x∈s.Stable.Keys,yIj x
 rl:zGn s.Volatile.ReadLocks
 wl:zGn s.Volatile.WriteLocks
theorem zPr:zId ss0:=⟨by decide,by decide,by decide,by decide⟩
theorem zZh:zLm ob0:=⟨.inl rfl,λ_=>rfl⟩
theorem lk0:zGn []:=⟨List.nodup_nil,by simp⟩
theorem zMg:∀ (n:Nat) (l:List Int),l.Nodup->(∀ x∈l,0<=x/\x<(n:Int))->l.length<=n
 | 0,[],_,_=>Qa _
 | 0,x :: l,_,h=>by have:=h x (by simp);omega
 | n+1,l,hn,h=>by
  have h2:(l.filter (λx=>x≠(n:Int))).length<=n:=by
   refine zMg n _ (hn.filter _) λx hx=>?_;obtain ⟨a,b⟩:=List.mem_filter.1 hx;have:=h x a;have:x≠(n:Int):=by simpa using b
   omega
  have h3:l.length<=(l.filter (λx=>x≠(n:Int))).length+1:=by
   clear h h2;induction l with
   | nil=>simp
   | cons a l ih=>
    have hn':=List.nodup_cons.1 hn;by_cases q:a=(n:Int)
    ·have e:l.filter (λx=>x≠(n:Int))=l:=List.filter_eq_self.2 λx hx=>by
      have:x≠(n:Int):=λr=>hn'.1 (by rw [q,<- r];exact hx);simpa using this
     rw [List.filter_cons_of_neg (by simpa using q),e];simp
    ·rw [List.filter_cons_of_pos (by simpa using q)];have:=ih hn'.2;simp only [Qs];omega
  omega
theorem zGn.len {l:List Int} (h:zGn l):l.length<=256:=zMg 256 l h.nd λx hx=>by have:=h.el x hx;omega
def lA (l:zK) (now:Int):zK:=(tL l now).getD l
theorem yBp (l:zK) (now:Int):tL l now=some (lA l now)/\(lA l now).Max=l.Max:=by
 have h:Def (tL l now) (λr=>r.Max=l.Max):=by
  unfold tL;refine Qq (P:=λ_=>True) (Qh (λ_=>Q8 trivial) λ_=>Q8 trivial) λb _=>?_;refine Qh (λ_=>Q8 rfl) λ_=>Qh (λ_=>Q8 rfl) λh=>?_;refine Qq (Def.ck (by rw [h];rfl)) λ_ _=>Def.lt (Def.lt ?_);exact Qq (P:=λ_=>True) (Qh (λ_=>Q8 trivial) λ_=>Q8 trivial) λ_ _=>Q8 rfl
 exact h.get l
def lkd (l:zK) (now:Int):Bool:=decide (l.Max<=(lA l now).Failed)
theorem yMm (l:zK) (now:Int):gK l now=some (lkd l now):=by
 unfold gK lkd;refine bd (yBp l now).1 ?_;rw [(yBp l now).2]
def lF (l:zK) (now:Int):zK:=(fP l now).getD l
theorem yMq (l:zK) (now:Int):fP l now=some (lF l now):=by
 have e:fP l now=some _:=bd (yBp l now).1 rfl;unfold lF;rw [e];rfl
def lC (l:zK) (now:Int):zK:=⟨l.Failed,l.Max,l.Recovery,l.Since,Q2.wrap (now+l.Penalty),l.Penalty⟩
def lM (l:zK) (a b c:Int):zK×Int:=(pG l a b c).getD (l,0)
theorem yLv (l:zK) (a b c:Int):pG l a b c=some (lM l a b c):=by
 have h:Def (pG l a b c) (λ_=>True):=by
  unfold pG;refine Qq (P:=λ_=>True) ?_ λb _=>Qh (λ_=>Q8 trivial) λ_=>Q8 trivial;repeat (first | exact Q8 trivial | refine Qh (λ_=>Q8 trivial) λ_=>?_)
 exact (h.get (l,0)).1
def zJi (t:zU):zB:=⟨t,⟨false,false,⟨[],0⟩,0,false,0,Q0 3 ss0,Q0 3 ob0,[],[]⟩⟩
theorem zGy (t:zU):lB t=some (zJi t)/\zH5 t=some (zJi t):=⟨rfl,rfl⟩
def suE (s:zB) (mode:Int):Int:=bif s.Volatile.Started||s.Volatile.Stopped then 28 else bif (mode != 0)&&(mode != 1) then 1 else bif mode==1 then 16 else 0
def suS (s:zB):zB:=⟨⟨s.Stable.Seeds,s.Stable.Auths,s.Stable.Entropy,s.Stable.Active,Q2.wrap (s.Stable.Resets+1),0,s.Stable.Clock,false,⟨[],0⟩,s.Stable.MaxCounter,s.Stable.Indices,s.Stable.Lockout,s.Stable.Keys⟩,⟨true,s.Volatile.Stopped,yA6 s.Stable.Active,s.Stable.Clock,s.Stable.Orderly,s.Volatile.Draws,s.Volatile.Sessions,s.Volatile.Objects,s.Volatile.ReadLocks,s.Volatile.WriteLocks⟩⟩
def suV (s:zB) (mode:Int):zB×Int:=if suE s mode=0 then (suS s,0) else (x0,suE s mode)
theorem zKu (a0:0<=s.Stable.Active) (a3:s.Stable.Active<=3) (mode:Int) (hm:mode=0∨(s.Volatile.Stopped=false->s.Stable.Saved.Banks=[])):tK s mode=some (suV s mode)/\kH s mode=some (suV s mode):=by
 have n:=yGh s.Stable.Active a0 a3;unfold tK kH suV suE;cases g:s.Volatile.Started||s.Volatile.Stopped
 case true=>exact ⟨bd (oO _ _) (by rw [g];rfl),bd (oO _ _) (by rw [g];rfl)⟩
 have hs:s.Volatile.Stopped=false:=by simp only [Q3] at g;exact g.2
 by_cases h0:mode=0
 ·subst h0;exact ⟨bd (oO _ _) (by rw [g];exact bd n.1 rfl),bd (oO _ _) (by rw [g];exact bd n.2 rfl)⟩
 have hb:=(hm.resolve_left h0) hs;by_cases h1:mode=1
 ·subst h1;have e:((s.Stable.Saved.Banks.length:Int)==0)=true:=by rw [hb];rfl
  exact ⟨bd (oO _ _) (by rw [g];show (bif ((s.Stable.Saved.Banks.length:Int)==0) then _ else _)=_;rw [e];rfl),bd (oO _ _) (by rw [g];show (bif ((s.Stable.Saved.Banks.length:Int)==0) then _ else _)=_;rw [e];rfl)⟩
 ·have e:(mode != 0)=true:=b1 h0;have e2:(mode != 1)=true:=by simpa using h1
  exact ⟨bd (oO _ _) (by rw [g,e,e2];rfl),bd (oO _ _) (by rw [g,e,e2];rfl)⟩
theorem yLq (e:suE s m=0):s.Volatile.Stopped=false:=by
 unfold suE at e;cases g:s.Volatile.Started||s.Volatile.Stopped<;>rw [g] at e
 ·simp only [Q3] at g;exact g.2
 ·cases e
theorem yIs (h:zY s) (hs:s.Volatile.Stopped=false):zY (suS s):=⟨h.sl,h.se,h.al,h.ae,h.en,h.a0,h.a3,.inl rfl,⟨λ_=>rfl,λ_=>hs⟩,zLn _,h.ss,h.sx,h.ol,h.ob,h.il,h.ix,h.nd,h.kl,h.ky,h.rl,h.wl⟩
def sdE (s:zB) (mode:Int):Int:=bif !s.Volatile.Started then 28 else bif (mode != 0)&&(mode != 1) then 1 else 0
def sdS (s:zB) (mode:Int):zB:=⟨⟨s.Stable.Seeds,s.Stable.Auths,s.Stable.Entropy,s.Stable.Active,s.Stable.Resets,s.Stable.Restarts,s.Volatile.Clock,s.Volatile.Safe,bif mode==1 then s.Volatile.Registers else ⟨[],0⟩,s.Stable.MaxCounter,s.Stable.Indices,s.Stable.Lockout,s.Stable.Keys⟩,⟨false,true,⟨[],0⟩,0,false,0,Q0 3 ss0,Q0 3 ob0,[],[]⟩⟩
def sdV (s:zB) (mode:Int):zB×Int:=if sdE s mode=0 then (sdS s mode,0) else (x0,sdE s mode)
theorem zRr (s:zB) (mode:Int):qF s mode=some (sdV s mode)/\zBm s mode=some (sdV s mode):=by
 unfold qF zBm sdV sdE sdS;cases s.Volatile.Started
 ·exact ⟨rfl,rfl⟩
 cases g0:(mode != 0)<;>cases g1:(mode != 1)<;>cases g2:(mode==1)<;>exact ⟨rfl,rfl⟩
theorem zDh:(Q0 3 ss0).length=3/\∀ x∈Q0 3 ss0,zId x:=⟨rfl,λx hx=>by rw [(Qi.1 hx).2];exact zPr⟩
theorem zJs:(Q0 3 ob0).length=3/\∀ x∈Q0 3 ob0,zLm x:=⟨rfl,λx hx=>by rw [(Qi.1 hx).2];exact zZh⟩
theorem zXq (h:zY s) (mode:Int):zY (sdS s mode):=⟨h.sl,h.se,h.al,h.ae,h.en,h.a0,h.a3,by show pR (bif mode==1 then s.Volatile.Registers else ⟨[],0⟩);cases mode==1<;>first | exact h.rg | exact .inl rfl,⟨λg=>(by cases g),λg=>(by cases g)⟩,.inl rfl,zDh.1,zDh.2,zJs.1,zJs.2,h.il,h.ix,h.nd,h.kl,h.ky,lk0,lk0⟩
theorem yFu (h:zY s) (hs:s.Stable.Saved.Banks=[]):zY (zJi s.Stable):=⟨h.sl,h.se,h.al,h.ae,h.en,h.a0,h.a3,h.sv,⟨λ_=>hs,λg=>(by cases g)⟩,.inl rfl,zDh.1,zDh.2,zJs.1,zJs.2,h.il,h.ix,h.nd,h.kl,h.ky,lk0,lk0⟩
def rnL:By:=[114,97,110,100,111,109]
def rnB (s:zB) (n:Nat):By:=dv s.Stable.Entropy rnL (wU (wU (wU [] 8 s.Stable.Resets) 8 s.Stable.Restarts) 8 s.Volatile.Draws) n
def rnS (s:zB):zB:=⟨s.Stable,⟨s.Volatile.Started,s.Volatile.Stopped,s.Volatile.Registers,s.Volatile.Clock,s.Volatile.Safe,Q2.wrap (s.Volatile.Draws+1),s.Volatile.Sessions,s.Volatile.Objects,s.Volatile.ReadLocks,s.Volatile.WriteLocks⟩⟩
theorem zEv (h:zY s) (n:Nat):sW s (n:Int)=some (rnS s,rnB s n)/\aP s (n:Int)=some (rnS s,rnB s n):=by
 have he:=h.en;unfold sW aP;constructor
 ·refine bd (vI [] 8 _ (by decide) (by decide) (by simp)) (bd (vI _ 8 _ (by decide) (by decide) (by rw [yJ];simp)) (bd (vI _ 8 _ (by decide) (by decide) (by rw [yJ,yJ];simp)) ?_));exact bd (uG _ _ _ n (by omega) (by decide) (by simp only [yJ];decide)) rfl
 ·refine bd (vW [] 8 _ (by decide) (by decide) (by simp)) (bd (vW _ 8 _ (by decide) (by decide) (by rw [yJ];simp)) (bd (vW _ 8 _ (by decide) (by decide) (by rw [yJ,yJ];simp)) ?_));exact bd (zJr _ _ _ n (by omega) (by decide) (by simp only [yJ];decide)) rfl
theorem zI1 (h:zY s):zY (rnS s):=⟨h.sl,h.se,h.al,h.ae,h.en,h.a0,h.a3,h.sv,h.sn,h.rg,h.ss,h.sx,h.ol,h.ob,h.il,h.ix,h.nd,h.kl,h.ky,h.rl,h.wl⟩
theorem zW2 (h:zY s) (n:Int):Def (aT s n) (λr=>r.2=0->zY r.1/\r.1.Volatile.Started=s.Volatile.Started/\r.1.Volatile.Stopped=s.Volatile.Stopped):=by
 unfold aT;refine Qh (λ_=>Q8 (λe=>by cases e)) λ_=>?_;refine Qq (P:=λ_=>True) (Qh (λ_=>Q8 trivial) λ_=>Q8 trivial) λb _=>?_;refine Qh (λ_=>Q8 (λe=>by cases e)) λ_=>Qh (λ_=>Q8 (λe=>by cases e)) λ_=>?_;refine Qq (P:=λ_=>True) (Qh (λ_=>Q8 trivial) λ_=>Q8 trivial) λb _=>?_;exact Q8 λ_=>⟨⟨h.sl,h.se,h.al,h.ae,h.en,h.a0,h.a3,h.sv,h.sn,h.rg,h.ss,h.sx,h.ol,h.ob,h.il,h.ix,h.nd,h.kl,h.ky,h.rl,h.wl⟩,rfl,rfl⟩
def yHa (s:zB) (l:List zH):zB:=⟨s.Stable,⟨s.Volatile.Started,s.Volatile.Stopped,s.Volatile.Registers,s.Volatile.Clock,s.Volatile.Safe,s.Volatile.Draws,l,s.Volatile.Objects,s.Volatile.ReadLocks,s.Volatile.WriteLocks⟩⟩
def yHw (s:zB) (l:List zR):zB:=⟨s.Stable,⟨s.Volatile.Started,s.Volatile.Stopped,s.Volatile.Registers,s.Volatile.Clock,s.Volatile.Safe,s.Volatile.Draws,s.Volatile.Sessions,l,s.Volatile.ReadLocks,s.Volatile.WriteLocks⟩⟩
def eA (s:zB) (l:zK):zB:=⟨⟨s.Stable.Seeds,s.Stable.Auths,s.Stable.Entropy,s.Stable.Active,s.Stable.Resets,s.Stable.Restarts,s.Stable.Clock,s.Stable.Orderly,s.Stable.Saved,s.Stable.MaxCounter,s.Stable.Indices,l,s.Stable.Keys⟩,s.Volatile⟩
def zSk (s:zB) (l:List yD):zB:=⟨⟨s.Stable.Seeds,s.Stable.Auths,s.Stable.Entropy,s.Stable.Active,s.Stable.Resets,s.Stable.Restarts,s.Stable.Clock,s.Stable.Orderly,s.Stable.Saved,s.Stable.MaxCounter,s.Stable.Indices,s.Stable.Lockout,l⟩,s.Volatile⟩
def zNb (s:zB) (l:List zF) (m:Int):zB:=⟨⟨s.Stable.Seeds,s.Stable.Auths,s.Stable.Entropy,s.Stable.Active,s.Stable.Resets,s.Stable.Restarts,s.Stable.Clock,s.Stable.Orderly,s.Stable.Saved,m,l,s.Stable.Lockout,s.Stable.Keys⟩,s.Volatile⟩
def zZ7 (s:zB) (r:zE):zB:=⟨s.Stable,⟨s.Volatile.Started,s.Volatile.Stopped,r,s.Volatile.Clock,s.Volatile.Safe,s.Volatile.Draws,s.Volatile.Sessions,s.Volatile.Objects,s.Volatile.ReadLocks,s.Volatile.WriteLocks⟩⟩
def zSj (s:zB) (a b:List Int):zB:=⟨s.Stable,⟨s.Volatile.Started,s.Volatile.Stopped,s.Volatile.Registers,s.Volatile.Clock,s.Volatile.Safe,s.Volatile.Draws,s.Volatile.Sessions,s.Volatile.Objects,a,b⟩⟩
def yHo (s:zB) (l:List By):zB:=⟨⟨s.Stable.Seeds,l,s.Stable.Entropy,s.Stable.Active,s.Stable.Resets,s.Stable.Restarts,s.Stable.Clock,s.Stable.Orderly,s.Stable.Saved,s.Stable.MaxCounter,s.Stable.Indices,s.Stable.Lockout,s.Stable.Keys⟩,s.Volatile⟩
theorem zYx (h:zY s) {l:List zH} (hl:l.length=3) (hx:∀ x∈l,zId x):zY (yHa s l):=⟨h.sl,h.se,h.al,h.ae,h.en,h.a0,h.a3,h.sv,h.sn,h.rg,hl,hx,h.ol,h.ob,h.il,h.ix,h.nd,h.kl,h.ky,h.rl,h.wl⟩
theorem zZ5 (h:zY s) {l:List zR} (hl:l.length=3) (hx:∀ x∈l,zLm x):zY (yHw s l):=⟨h.sl,h.se,h.al,h.ae,h.en,h.a0,h.a3,h.sv,h.sn,h.rg,h.ss,h.sx,hl,hx,h.il,h.ix,h.nd,h.kl,h.ky,h.rl,h.wl⟩
theorem zEj (h:zY s) (l:zK):zY (eA s l):=⟨h.sl,h.se,h.al,h.ae,h.en,h.a0,h.a3,h.sv,h.sn,h.rg,h.ss,h.sx,h.ol,h.ob,h.il,h.ix,h.nd,h.kl,h.ky,h.rl,h.wl⟩
theorem zMr (h:zY s) {l:List yD} (hl:l.length<=8) (hx:∀ x∈l,yIj x):zY (zSk s l):=⟨h.sl,h.se,h.al,h.ae,h.en,h.a0,h.a3,h.sv,h.sn,h.rg,h.ss,h.sx,h.ol,h.ob,h.il,h.ix,h.nd,hl,hx,h.rl,h.wl⟩
theorem zHu (h:zY s) {l:List zF} (hl:l.length<=6) (hx:∀ x∈l,zB3 x) (hn:(l.map (·.N)).Nodup):zY (zNb s l m):=⟨h.sl,h.se,h.al,h.ae,h.en,h.a0,h.a3,h.sv,h.sn,h.rg,h.ss,h.sx,h.ol,h.ob,hl,hx,hn,h.kl,h.ky,h.rl,h.wl⟩
theorem zXj (h:zY s) (hr:pR r):zY (zZ7 s r):=⟨h.sl,h.se,h.al,h.ae,h.en,h.a0,h.a3,h.sv,h.sn,hr,h.ss,h.sx,h.ol,h.ob,h.il,h.ix,h.nd,h.kl,h.ky,h.rl,h.wl⟩
theorem zIv (h:zY s) {a b:List Int} (ha:zGn a) (hb:zGn b):zY (zSj s a b):=⟨h.sl,h.se,h.al,h.ae,h.en,h.a0,h.a3,h.sv,h.sn,h.rg,h.ss,h.sx,h.ol,h.ob,h.il,h.ix,h.nd,h.kl,h.ky,ha,hb⟩
theorem zYo (h:zY s) {l:List By} (hl:l.length=4) (hx:∀ x∈l,x.length<=32):zY (yHo s l):=⟨h.sl,h.se,hl,hx,h.en,h.a0,h.a3,h.sv,h.sn,h.rg,h.ss,h.sx,h.ol,h.ob,h.il,h.ix,h.nd,h.kl,h.ky,h.rl,h.wl⟩
end Go.Proofs.TT
namespace Go.Sw
open Go
variable {p:Nat->Bool}
def fst (p:Nat->Bool):Nat->Nat->Option Nat
 | 0,_=>none
 | k+1,i=>if p i=true then some i else fst p k (i+1)
theorem qJ:∀ {k i j:Nat},fst p k i=some j->i<=j/\j<i+k/\p j=true/\∀ m,i<=m->m<j->p m=false
 | 0,i,j,h=>by cases h
 | k+1,i,j,h=>by
  unfold fst at h;split at h
  ·rename_i g;cases h;exact ⟨Qa _,by omega,g,λm a b=>by omega⟩
  ·obtain ⟨a,b,c,d⟩:=qJ h;refine ⟨by omega,by omega,c,λm G F=>?_⟩;by_cases e:m=i
   ·simp_all
   ·exact d m (by omega) F
theorem zEf:∀ {k i:Nat},fst p k i=none->∀ m,i<=m->m<i+k->p m=false
 | 0,i,_=>λm a b=>by omega
 | k+1,i,h=>by
  unfold fst at h;split at h
  ·cases h
  ·intro m a b;by_cases e:m=i
   ·simp_all
   ·exact zEf h m (by omega) (by omega)
theorem zJv {q:Nat->Bool}:∀ {k i:Nat},(∀ m,i<=m->m<i+k->p m=q m)->fst p k i=fst q k i
 | 0,i,_=>rfl
 | k+1,i,h=>by
  unfold fst;rw [h i (Qa _) (by omega),zJv λm a b=>h m (by omega) (by omega)]
theorem zY3 {R:Type} {step:Int->Option (Int ⊕ (R ⊕ Unit))} {n:Nat} {hit:Nat->R} (L:∀ i,i<n->(p i=true->step (i:Int)=some (.inr (.inl (hit i))))/\(p i=false->step (i:Int)=some (.inl ((i+1:Nat):Int)))) (K:step (n:Int)=some (.inr (.inr ()))) :
  ∀ (k i z:Nat),i+k=n->k<z->zO step z (i:Int)=some (match fst p k i with | some j=>.inl (hit j) | none=>.inr ())
 | 0,i,z,h,N=>by
  obtain ⟨f,rfl⟩:∃ f,z=f+1:=⟨z - 1,by omega⟩;have:i=n:=by omega
  subst this;simp only [zO,K,fst]
 | k+1,i,z,h,N=>by
  obtain ⟨f,rfl⟩:∃ f,z=f+1:=⟨z - 1,by omega⟩;have J:=L i (by omega);unfold fst;by_cases g:p i=true
  ·simp only [zO,J.1 g,if_pos g]
  ·simp only [zO,J.2 (Qb.2 g),if_neg g];exact zY3 L K k (i+1) f (by omega) (by omega)
theorem rY {R:Type} {step:Int->Option (Int ⊕ (R ⊕ Unit))} (p:Nat->Bool) (n:Nat) (A:Nat->R) (J:n<2 ^ 40) (I:∀ i,i<n->(p i=true->step (i:Int)=some (.inr (.inl (A i))))/\(p i=false->step (i:Int)=some (.inl ((i+1:Nat):Int)))) (H:step (n:Int)=some (.inr (.inr ()))) :
  zO step FU 0=some (match fst p n 0 with | some j=>.inl (A j) | none=>.inr ()):=zY3 I H n 0 FU (by omega) (xI (by omega))
end Go.Sw
namespace Go.Proofs.TT
open Go Go.Sw
set_option maxRecDepth 100000
variable {a:zI}{b:Nat}{base h hd:Int}{i k:Nat}{key:zL}{kind:Nat->Int}{n:Int}{r:By}{s:zB}{x:zH}{α β:Type}{d:α}{l:List α}
def I64 (h:Int):Prop:=-9223372036854775808<=h/\h<=9223372036854775807
theorem hN (g:I64 h) (z:0<=n) (A:n<=255):(Q2.wrap (h - 256)==n)=(n==h - 256)/\(h==Q2.wrap (256+n))=(n==h - 256):=by
 obtain ⟨a,b⟩:=g;constructor
 ·by_cases e:n=h - 256
  ·rw [c0' e,yH (by omega) (by omega)];exact c0' e.symm
  ·rw [c1' e];refine c1' λq=>e ?_;rw [IntKind.wrap_i64] at q;omega
 ·rw [yH (by omega) (by omega)];by_cases e:n=h - 256
  ·rw [c0' e];exact c0' (by omega)
  ·rw [c1' e];exact c1' (by omega)
def ixf (s:zB) (h:Int):Option Nat:=fst (λi=>(s.Stable.Indices.getD i default).N==h - 256) s.Stable.Indices.length 0
def ixg (s:zB) (i:Nat):zF:=s.Stable.Indices.getD i default
theorem vX (h:i<l.length):idx l (i:Int)=some (l.getD i d):=by rw [yR h];simp [h]
theorem zGh (h:i<l.length):l.getD i d∈l:=by simp_all
theorem sC (e:ixf s h=some i):i<s.Stable.Indices.length/\(ixg s i).N=h - 256:=by
 obtain ⟨_,b,c,_⟩:=qJ e;exact ⟨by omega,eq_of_beq c⟩
theorem mF (k:zY s) (h:i<s.Stable.Indices.length):zB3 (ixg s i):=k.ix _ (zGh h)
theorem yGp (k:zY s) (e:ixf s h=some i):256<=h/\h<=511:=by
 obtain ⟨a,b⟩:=sC e;have z:=mF k a;have:=z.n0;have:=z.n1;omega
theorem vJ (k:zY s) (G:I64 h):xG s h=some (match ixf s h with | some i=>(i:Int) | none=>-1):=by
 have H:=k.il;unfold xG;refine bd (rY (λi=>(s.Stable.Indices.getD i default).N==h - 256) s.Stable.Indices.length (λi=>(i:Int)) (by omega) (λi D=>?_) ?_) ?_
 ·have E:=mF k D;have e:=(hN G E.n0 E.n1).2;unfold ixg at e;constructor
  ·intro g;unfold mK;exact ct (decide_eq_true (by omega)) (bd (vX (d:=default) D) (ct (e.trans g) rfl))
  ·intro g;unfold mK;refine ct (decide_eq_true (by omega)) (bd (vX (d:=default) D) (cf (e.trans g) ?_));rw [yM (by omega)]
 ·unfold mK;exact cf (decide_eq_false (by omega)) rfl
 ·unfold ixf;cases fst _ s.Stable.Indices.length 0<;>rfl
def sl3 (kind:Nat->Int) (base h:Int):Option Nat:=if base<=h/\h<base+3/\kind (h - base).toNat≠0 then some (h - base).toNat else none
theorem zEy (e:sl3 kind base h=some k):k<3/\h=base+k/\kind k≠0:=by
 unfold sl3 at e;split at e
 ·cases e;omega
 simp_all
theorem zWe (D:k<3) (g:kind k≠0):sl3 kind base (base+k)=some k:=by
 unfold sl3;have e:(base+(k) - base).toNat=k:=by omega
 rw [e,if_pos ⟨by omega,by omega,g⟩]
theorem zXt {f:α->Int} (R:l.length=3) (S:0<=base/\base<=1000) (L:I64 h) {no:β} {yes:Nat->β}
  {o1:Option β} {o2:Int->Option β} (H:o1=some no) (K:∀ k,k<3->f (l.getD k d)≠0->o2 (k:Int)=some (yes k)) :
  ((bif decide (h<base) then some true else bif decide ((l.length:Int)<=Q2.wrap (h - base)) then some true else (idx l (Q2.wrap (h - base))).bind λv=>some (f v==0):Option Bool).bind λv=>bif v then o1 else o2 (Q2.wrap (h - base)))=some (match sl3 (λk=>f (l.getD k d)) base h with | some k=>yes k | none=>no):=by
 obtain ⟨a,b⟩:=L;by_cases g:h<base
 ·have e:sl3 (λk=>f (l.getD k d)) base h=none:=by unfold sl3;rw [if_neg (by omega)]
  rw [e];exact bd (a:=true) (ct (decide_eq_true g) rfl) H
 have w:Q2.wrap (h - base)=h - base:=yH (by omega) (by omega);rw [w];by_cases N:3<=h - base
 ·have e:sl3 (λk=>f (l.getD k d)) base h=none:=by unfold sl3;rw [if_neg (by omega)]
  rw [e];exact bd (a:=true) (cf (decide_eq_false g) (ct (decide_eq_true (by omega)) rfl)) H
 obtain ⟨k,J⟩:=Q1 (by omega:0<=h - base);rw [J];by_cases G:f (l.getD k d)=0
 ·have e:sl3 (λk=>f (l.getD k d)) base h=none:=by
   unfold sl3;rw [J,if_neg];exact λq=>q.2.2 G
  rw [e];exact bd (a:=true) (cf (decide_eq_false g) (cf (decide_eq_false (by omega)) (bd (vX (d:=d) (by omega)) (congrArg some (c0' G))))) H
 ·have e:sl3 (λk=>f (l.getD k d)) base h=some k:=by
   have:h=base+k:=by omega
   rw [this];exact zWe (by omega) G
  rw [e];exact bd (a:=false) (cf (decide_eq_false g) (cf (decide_eq_false (by omega)) (bd (vX (d:=d) (by omega)) (congrArg some (c1' G))))) (K k (by omega) G)
def obg (s:zB) (k:Nat):zR:=s.Volatile.Objects.getD k default
def obf (s:zB) (h:Int):Option Nat:=sl3 (λk=>(obg s k).Public.Kind) 512 h
theorem zW0 (k:zY s) (h:i<3):zLm (obg s i):=k.ob _ (zGh (by rw [k.ol];exact h))
theorem sK (k:zY s) (R:I64 h):wN s h=some (match obf s h with | some i=>(i:Int) | none=>-1):=by
 have S:=k.ol;unfold wN;have e:fst (λi=>(h==512+(i:Int))&&((obg s i).Public.Kind != 0)) 3 0=obf s h:=by
  unfold obf;cases q:sl3 (λk=>(obg s k).Public.Kind) 512 h with
  | some i=>
   obtain ⟨a,b,c⟩:=zEy q;have K:((h==512+(i:Int))&&((obg s i).Public.Kind != 0))=true:=by rw [c0' b,b1 c];rfl
   cases r:fst (λi=>(h==512+(i:Int))&&((obg s i).Public.Kind != 0)) 3 0 with
   | none=>
    have:=zEf r i (by omega) (by omega);rw [K] at this;cases this
   | some j=>
    obtain ⟨_,_,y,_⟩:=qJ r;simp only [Q6] at y;have:h=512+(j:Int):=eq_of_beq y.1;exact congrArg some (by omega)
  | none=>
   cases r:fst (λi=>(h==512+(i:Int))&&((obg s i).Public.Kind != 0)) 3 0 with
   | none=>rfl
   | some j=>
    obtain ⟨_,x,y,_⟩:=qJ r;simp only [Q6] at y;have N:h=512+(j:Int):=eq_of_beq y.1;have L:(obg s j).Public.Kind≠0:=by simpa using y.2
    rw [N,zWe (by omega) L] at q;cases q
 refine bd (rY (λi=>(h==512+(i:Int))&&((obg s i).Public.Kind != 0)) 3 (λi=>(i:Int)) (by decide) (λi T=>?_) ?_) ?_
 ·have H:(bif (h==Q2.wrap (512+(i:Int))) then (idx s.Volatile.Objects (i:Int)).bind λv=>some (v.Public.Kind != 0) else some false:Option Bool)=some ((h==512+(i:Int))&&((obg s i).Public.Kind != 0)):=by
   rw [yH (by omega) (by omega)];exact oA' λ_=>bd (vX (d:=default) (by omega)) rfl
  constructor
  ·intro g;unfold kK;exact ct (decide_eq_true (by omega)) (bd (H.trans (congrArg some g)) rfl)
  ·intro g;unfold kK;refine ct (decide_eq_true (by omega)) (bd (H.trans (congrArg some g)) ?_);rw [yM (by omega)];rfl
 ·unfold kK;exact cf (decide_eq_false (by omega)) rfl
 ·rw [e];cases obf s h<;>rfl
theorem yDt (e:obf s h=some i):512<=h/\h<=514:=by
 obtain ⟨a,b,c⟩:=zEy e;omega
theorem cH (k:zY s) (e:obf s h=some i):i<3/\mW (obg s i).Public/\zBb (obg s i).Sensitive:=by
 obtain ⟨a,b,c⟩:=zEy e;have:=(zW0 k a).k.resolve_left c;simp_all
def hrc (h:Int):Bool:=decide (0<=h)&&decide (h<=3)
theorem zKd:hrc h=true↔0<=h/\h<=3:=by simp [hrc]
def fdV (s:zB) (h:Int):zK7×Int:=
 bif hrc h then (⟨hnm h,s.Stable.Auths.getD h.toNat [],[],false⟩,0) else
 match ixf s h with
 | some i=>(⟨ixn (ixg s i),(ixg s i).Auth,(ixg s i).Policy,yX .i64 (ixg s i).Attr 64==0⟩,0)
 | none=>match obf s h with
  | some i=>(⟨nm (obg s i).Public,(obg s i).Sensitive.Auth,(obg s i).Public.Policy,yX .i64 (obg s i).Public.Attr 2==0⟩,0)
  | none=>(⟨[],[],[],false⟩,7)
theorem zHs (k:zY s) (g:hrc h=true):ixf s h=none/\obf s h=none:=by
 have g:=zKd.1 g;constructor
 ·cases q:ixf s h with
  | none=>rfl
  | some i=>have:=yGp k q;omega
 ·cases q:obf s h with
  | none=>rfl
  | some i=>have:=yDt q;omega
theorem nn (i:Nat):decide (0<=(i:Int))=true:=rfl
theorem zAy (k:zY s) (I:I64 h):jK s h=some (fdV s h).1.value_:=by
 unfold jK fdV;refine bd (vJ k I) ?_;cases q:ixf s h with
 | some i=>
  obtain ⟨a,_⟩:=sC q;have g:hrc h=false:=by
   cases g:hrc h
   ·rfl
   ·rw [(zHs k g).1] at q;cases q
  rw [g];exact ct (nn i) (bd (vX (d:=default) a) rfl)
 | none=>
  refine cf rfl (bd (sK k I) ?_);cases H:obf s h with
  | some i=>
   have g:hrc h=false:=by
    cases g:hrc h
    ·rfl
    ·rw [(zHs k g).2] at H;cases H
   rw [g];have:=(cH k H).1;exact ct (nn i) (bd (vX (d:=default) (by rw [k.ol];exact this)) rfl)
  | none=>
   refine cf rfl (bd (a:=hrc h) (by rw [oA,k.al];unfold hrc;refine congrArg some (congrArg (decide (0<=h)&&·) (decide_eq_decide.2 (by omega)))) ?_);cases g:hrc h
   ·rfl
   ·have J:=zKd.1 g;obtain ⟨n,rfl⟩:=Q1 J.1;exact ct rfl (bd (zC9 (by rw [k.al];omega)) rfl)
theorem zJq (k:zY s) (F:I64 h):gJ s h=some (fdV s h).1.policy_:=by
 unfold gJ fdV;refine bd (vJ k F) ?_;cases g:hrc h
 case true=>obtain ⟨a,b⟩:=zHs k g;rw [a];refine cf rfl (bd (sK k F) ?_);rw [b];rfl
 cases q:ixf s h with
 | some i=>exact ct (nn i) (bd (vX (sC q).1) rfl)
 | none=>
  refine cf rfl (bd (sK k F) ?_);cases H:obf s h with
  | some i=>exact ct (nn i) (bd (vX (by rw [k.ol];exact (cH k H).1)) rfl)
  | none=>rfl
theorem zGc (k:zY s) (F:I64 h):rG s h=some (fdV s h).1.protected_:=by
 unfold rG fdV;refine bd (vJ k F) ?_;cases g:hrc h
 case true=>obtain ⟨a,b⟩:=zHs k g;rw [a];refine cf rfl (bd (sK k F) ?_);rw [b];rfl
 cases q:ixf s h with
 | some i=>exact ct (nn i) (bd (vX (d:=default) (sC q).1) rfl)
 | none=>
  refine cf rfl (bd (sK k F) ?_);cases H:obf s h with
  | some i=>exact ct (nn i) (bd (vX (d:=default) (by rw [k.ol];exact (cH k H).1)) rfl)
  | none=>rfl
def exs (s:zB) (h:Int):Bool:=(fdV s h).2==0
def rnm (s:zB) (h:Int):By:=bif exs s h then (fdV s h).1.name_ else hnm h
theorem zQb (k:zY s) (F:I64 h):lK s h=some (rnm s h):=by
 unfold lK rnm exs fdV;refine bd (vJ k F) ?_;cases g:hrc h
 case true=>obtain ⟨a,b⟩:=zHs k g;rw [a];refine cf rfl (bd (sK k F) ?_);rw [b];exact cf rfl (bd (zSi h) rfl)
 cases q:ixf s h with
 | some i=>
  have I:=mF k (sC q).1;exact ct (nn i) (bd (vX (d:=default) (sC q).1) (bd (rixn _ (by have:=I.p;show (ixg s i).Policy.length<_;omega)) rfl))
 | none=>
  refine cf rfl (bd (sK k F) ?_);cases H:obf s h with
  | some i=>exact ct (nn i) (bd (vX (d:=default) (by rw [k.ol];exact (cH k H).1)) (bd (rW _) rfl))
  | none=>exact cf rfl (bd (zSi h) rfl)
theorem zQs (s:zB) (h:Int):(rnm s h).length<=32:=by
 unfold rnm;cases exs s h
 ·exact zQz h
 ·unfold fdV;cases hrc h
  ·cases ixf s h with
   | some i=>show (ixn _).length<=32;rw [zRw];decide
   | none=>
    cases obf s h with
    | some i=>show (nm _).length<=32;rw [zCa];decide
    | none=>simp
  ·exact zQz h
theorem exI (k:zY s) (G:I64 h):((xG s h).bind λv=>bif decide (0<=v) then some true else (wN s h).bind λv=>some (decide (0<=v)))=some ((ixf s h).isSome||(obf s h).isSome):=by
 refine bd (vJ k G) ?_;cases q:ixf s h with
 | some i=>rfl
 | none=>
  refine cf rfl (bd (sK k G) ?_);cases H:obf s h with
  | some i=>rfl
  | none=>rfl
theorem zOq (k:zY s) (G:I64 h):zA6 s h=some (exs s h):=by
 have E:hrc h=false->((ixf s h).isSome||(obf s h).isSome)=exs s h:=by
  intro g;unfold exs fdV;rw [g];cases ixf s h with
  | some i=>rfl
  | none=>cases obf s h<;>rfl
 by_cases a:0<=h
 ·by_cases b:h<=3
  ·have g:hrc h=true:=zKd.2 ⟨a,b⟩;refine bd (a:=true) (ct (decide_eq_true a) (ct (decide_eq_true b) rfl)) ?_;unfold exs fdV;rw [g];rfl
  ·exact bd (ct (decide_eq_true a) (cf (decide_eq_false b) (exI k G))) (congrArg some (E (Qb.2 λq=>b (zKd.1 q).2)))
 ·exact bd (cf (decide_eq_false a) (exI k G)) (congrArg some (E (Qb.2 λq=>a (zKd.1 q).1)))
theorem zWf (k:zY s) (h:Int):(fdV s h).1.value_.length<=32/\(fdV s h).1.policy_.length<=32:=by
 unfold fdV;cases g:hrc h
 ·cases q:ixf s h with
  | some i=>have F:=mF k (sC q).1;exact ⟨F.a,F.p⟩
  | none=>
   cases I:obf s h with
   | some i=>have F:=cH k I;exact ⟨F.2.2.au,by have:=F.2.1.pl;show (obg s i).Public.Policy.length<=32;omega⟩
   | none=>exact ⟨Qn _,Qn _⟩
 ·refine ⟨?_,Qn _⟩;by_cases q:h.toNat<s.Stable.Auths.length
  ·exact k.ae _ (zGh q)
  simp_all
set_option maxRecDepth 100000
theorem fst_any (l:List α) (d:α) (q:α->Bool):(fst (λi=>q (l.getD i d)) l.length 0).isSome=l.any q:=by
 rw [Qv,List.any_eq_true];cases r:fst (λi=>q (l.getD i d)) l.length 0 with
 | some i=>
  obtain ⟨_,a,b,_⟩:=qJ r;exact ⟨λ_=>⟨_,zGh (by omega),b⟩,λ_=>rfl⟩
 | none=>
  refine ⟨λh=>(by cases h),λ⟨x,hx,hq⟩ =>?_⟩;obtain ⟨i,hi,rfl⟩:=List.mem_iff_getElem.1 hx;have:=zEf r i (by omega) (by omega);have e:l.getD i d=l[i]:=by simp [hi]
  rw [e,hq] at this;cases this
def has (l:List Int) (n:Int):Bool:=l.any (· == n)
theorem yFh {l:List Int} :has l n=true↔n∈l:=by simp [has]
theorem yD0 (l:List Int) (n:Int) (hl:l.length<2 ^ 40):lI l n=some (has l n):=by
 unfold lI;have e:=fst_any l 0 (· == n);refine bd (rY (λi=>l.getD i 0==n) l.length (λ_=>true) hl (λi hi=>?_) ?_) ?_
 ·constructor
  ·intro g;unfold gW;exact ct (decide_eq_true (by omega)) (bd (vX (d:=0) hi) (ct g rfl))
  ·intro g;unfold gW;refine ct (decide_eq_true (by omega)) (bd (vX (d:=0) hi) (cf g ?_));rw [yM (by omega)]
 ·unfold gW;exact cf (decide_eq_false (by omega)) rfl
 ·unfold has;rw [<- e];cases fst (λi=>l.getD i 0==n) l.length 0<;>rfl
def ssg (s:zB) (k:Nat):zH:=s.Volatile.Sessions.getD k default
def ssf (s:zB) (h:Int):Option Nat:=sl3 (λk=>(ssg s k).Kind) 768 h
theorem cM (k:zY s) (h:i<3):zId (ssg s i):=k.sx _ (zGh (by rw [k.ss];exact h))
theorem zI2 (k:zY s) (hh:I64 h):lG s h=some (match ssf s h with | some i=>(i:Int) | none=>-1):=by
 unfold lG;exact zXt (base:=768) (f:=λx=>x.Kind) (d:=default) (no:=(-1:Int)) (yes:=λi=>(i:Int)) (o2:=λi=>some i) k.ss (by decide) hh rfl (λi hi g=>rfl)
def sfV (s:zB) (h:Int):zH×Int:=match ssf s h with | some i=>(ssg s i,0) | none=>(default,8)
theorem lW (e:ssf s h=some i):i<3/\h=768+i/\(ssg s i).Kind≠0:=zEy e
theorem ng (i:Nat):decide ((i:Int)<0)=false:=zLd i
theorem zCc (k:zY s) (hh:I64 h):vO s h=some (sfV s h):=by
 unfold vO sfV;refine bd (zI2 k hh) ?_;cases q:ssf s h with
 | some i=>exact cf (ng i) (bd (vX (d:=default) (by rw [k.ss];exact (lW q).1)) rfl)
 | none=>rfl
def ptS (s:zB) (k:Nat) (x:zH):zB:=yHa s (s.Volatile.Sessions.set k x)
theorem zD6 (h:zY s) (hx:zId x):zY (ptS s k x):=zYx h (by rw [Qw];exact h.ss) λy hy=>by
 rcases Qj hy with hy | hy
 ·exact h.sx y hy
 ·rw [hy];exact hx
theorem zBv {x:α} (hk:k<l.length) (f:List α->Option β):((ixN l.length (k:Int)).bind λj=>(wL l j x).bind λl2=>f l2)=f (l.set k x):=by
 refine bd (a:=k) (by simp [ixN];omega) (bd (a:=l.set k x) (by simp [wL];omega) rfl)
theorem cln (h:l.length*b<=140737488355328):sS b l=some l:=by unfold sS;exact ct (zJu h) rfl
theorem ap0 (h:l.length*b<=140737488355328):yK b [] l=some l:=by rw [zZ (by simpa using h)];rfl
theorem zCq (h:zY s) (hk:k<3) (x:zH):rJ s (k:Int) x=some (ptS s k x):=by
 unfold rJ;exact bd (ap0 (by rw [h.ss];decide)) (zBv (by rw [h.ss];exact hk) _)
def scV (s:zB) (h:Int):zB×Int:=match ssf s h with | some i=>(ptS s i ss0,0) | none=>(x0,8)
theorem zJx (k:zY s) (hh:I64 h):jR s h=some (scV s h):=by
 unfold jR scV;refine bd (zI2 k hh) ?_;cases q:ssf s h with
 | some i=>exact cf (ng i) (bd (zCq k (lW q).1 _) rfl)
 | none=>rfl
def opF (s:zB):Option Nat:=fst (λk=>(ssg s k).Kind==0) 3 0
def opX (s:zB) (kind:Int):zH:=⟨kind,rnB s 16,z32,-1,31,0,0,false⟩
def opV (s:zB) (kind:Int):zB×Int×Int:=bif decide (kind<1)||decide (3<kind) then (x0,0,1) else match opF s with | some k=>(ptS (rnS s) k (opX s kind),768+(k:Int),0) | none=>(x0,0,25)
theorem zE9 (s:zB) (n:Nat) (h:n<=1024):(rnB s n).length=n:=dY _ _ _ _ h
theorem zNw (h:zY s) (kind:Int):zAt s kind=some (opV s kind):=by
 unfold zAt opV;refine bd (oO _ _) ?_;cases decide (kind<1)||decide (3<kind)
 case true=>rfl
 refine cf rfl (bd (rY (λk=>(ssg s k).Kind==0) 3 (λk=>(ptS (rnS s) k (opX s kind),768+(k:Int),(0:Int))) (by decide) (λi hi=>?_) ?_) ?_)
 ·have hl:=h.ss;constructor
  ·intro g;unfold kM;refine ct (decide_eq_true (by omega)) (bd (vX (d:=default) (by omega)) (ct g (bd (zEv h 16).1 (bd zOw (bd (zCq (zI1 h) hi _) ?_)))));rw [yH (by omega) (by omega)];rfl
  ·intro g;unfold kM;refine ct (decide_eq_true (by omega)) (bd (vX (d:=default) (by omega)) (cf g ?_));rw [yM (by omega)]
 ·unfold kM;exact cf (decide_eq_false (by rw [h.ss];decide)) rfl
 ·unfold opF;cases fst (λk=>(ssg s k).Kind==0) 3 0<;>rfl
theorem yA5 (h:zY s) {kind:Int} (e:(opV s kind).2.2=0):zY (opV s kind).1/\∃ k:Nat,k<3/\(opV s kind).2.1=768+(k:Int):=by
 unfold opV at e ⊢;cases g:decide (kind<1)||decide (3<kind)<;>rw [g] at e
 case true=>cases e
 simp only [Q3] at g;have g1:=dF g.1;have g2:=dF g.2;cases q:opF s with
 | some k=>
  obtain ⟨_,a,_,_⟩:=qJ q;exact ⟨zD6 (zI1 h) ⟨by show 0<=kind;omega,by show kind<=3;omega,by show (rnB s 16).length<=32;rw [zE9 _ _ (by decide)];decide,by show z32.length<=32;rw [zRt];decide⟩,k,by omega,rfl⟩
 | none=>rw [q] at e;cases e
def psf (s:zB) (h:Int):Option Nat:=match ssf s h with | some i=>if (ssg s i).Kind=1 then none else some i | none=>none
theorem aE (e:psf s h=some i):ssf s h=some i/\(ssg s i).Kind≠1:=by
 unfold psf at e;cases q:ssf s h with
 | none=>rw [q] at e;cases e
 | some j=>
  rw [q] at e;simp only at e;split at e
  ·cases e
  ·rename_i g;cases e;exact ⟨rfl,g⟩
theorem zFe (k:zY s) (hh:I64 h):uE s h=some (match psf s h with | some i=>(i:Int) | none=>-1):=by
 unfold uE psf;refine bd (zI2 k hh) ?_;cases q:ssf s h with
 | none=>rfl
 | some i=>
  refine bd (ct (nn i) (bd (vX (d:=default) (by rw [k.ss];exact (lW q).1)) rfl)) ?_;show (bif (ssg s i).Kind==1 then _ else _)=some (match (if (ssg s i).Kind=1 then none else some i) with | some i=>(i:Int) | none=>-1);by_cases g:(ssg s i).Kind=1
  ·rw [if_pos g];exact ct (c0' g) rfl
  ·rw [if_neg g];exact cf (c1' g) rfl
set_option maxRecDepth 100000
structure yGj (a:zI):Prop where
 d:a.Digest.length<2 ^ 20
 o:a.Operand.length<2 ^ 20
 n:a.Name.length<2 ^ 20
 r:a.Ref.length<2 ^ 20
 b:a.Branches.length<2 ^ 20
def s2 (x:zH):Bool:=x.Kind==2
def ck1 (ok t:Bool):Int:=bif t&&!ok then 16 else 0
def crU (s:zB) (x:zH):Int:=bif s2 x then s.Volatile.Registers.Updates else x.Updates
def crV (s:zB) (x:zH) (a:zI):zH×zI×Int:=
 bif !s2 x&&decide (0<(a.Digest.length:Int)) then (x,a,0) else
 if (rdV s.Volatile.Registers a.Selection).2≠0 then (x,a,(rdV s.Volatile.Registers a.Selection).2) else
 bif s2 x&&(decide (0<(a.Digest.length:Int))&&!(a.Digest==(rdV s.Volatile.Registers a.Selection).1)) then (x,a,16) else
 bif s2 x&&((x.Updates != -1)&&(x.Updates != s.Volatile.Registers.Updates)) then (x,a,12) else
 (⟨x.Kind,x.Nonce,x.Digest,crU s x,x.Localities,x.Command,x.Deadline,x.AuthValue⟩,⟨a.Kind,a.Selection,(rdV s.Volatile.Registers a.Selection).1,a.N,a.Op,a.Operand,a.Name,a.Ref,a.Branches⟩,0)
theorem yJ8 (h:zY s) (x:zH) (E:yGj a):oP s x a=some (crV s x a):=by
 unfold oP crV crU s2;refine bd (oA _ _) ?_;cases (!(x.Kind==2)&&decide (0<(a.Digest.length:Int)))
 case true=>rfl
 refine cf rfl (bd (zBp h.rg _) ?_);have e:yT a.Digest (rdV s.Volatile.Registers a.Selection).1=some _:=qE _ _ (by have:=E.d;omega);generalize rdV s.Volatile.Registers a.Selection=w at e;by_cases g:w.2=0
 ·rw [if_neg (by simp [g])];refine cf (b0 g) ?_;cases (x.Kind==2)
  ·rfl
  ·refine bd (ct rfl (oA' λ_=>bd e rfl)) ?_;cases decide (0<(a.Digest.length:Int))&&!(a.Digest==w.1)
   ·refine cf rfl (bd (ct rfl (oA _ _)) ?_);cases (x.Updates != -1)&&(x.Updates != s.Volatile.Registers.Updates)<;>rfl
   ·rfl
 ·rw [if_pos g];exact ct (b1 g) rfl
theorem zLs (h:i<s.Stable.Indices.length):idx s.Stable.Indices (i:Int)=some (ixg s i):=vX h
def ciR (s:zB) (a:zI) (i:Nat):Int:=bif !(ixg s i).Written then 22 else bif has s.Volatile.ReadLocks (ixg s i).N then 23 else bif !pcm a.Op (ixg s i).Data a.Operand then 16 else 0
def ciV (s:zB) (a:zI):Int:=match fst (λi=>ixn (ixg s i)==a.Name) s.Stable.Indices.length 0 with | some i=>ciR s a i | none=>7
theorem yIa (h:zY s) (G:yGj a):dS s a=some (ciV s a):=by
 have H:=h.il;unfold dS ciV;refine bd (rY (λi=>ixn (ixg s i)==a.Name) s.Stable.Indices.length (ciR s a) (by omega) (λi D=>?_) ?_) ?_
 ·have E:=mF h D;have e:uR (ixg s i)=some (ixn (ixg s i)):=rixn _ (by have:=E.p;omega);have F:yT (ixn (ixg s i)) a.Name=some (ixn (ixg s i)==a.Name):=qE _ _ (by rw [zRw];decide);unfold eV;constructor
  ·intro g;refine ct (decide_eq_true (by omega)) (bd (zLs D) (bd e (bd F (cf (by rw [g];rfl) ?_))));show (bif !(ixg s i).Written then _ else _)=_;unfold ciR;cases (ixg s i).Written
   ·rfl
   ·refine cf rfl (bd (yD0 _ _ (by have:=h.rl.len;omega)) ?_);cases q:has s.Volatile.ReadLocks (ixg s i).N
    ·refine cf rfl (bd (zIl _ _ _ (by have:=E.d;show (ixg s i).Data.length<_;omega) (by have:=G.o;omega)) ?_);cases pcm a.Op (ixg s i).Data a.Operand<;>rfl
    ·rfl
  ·intro g;refine ct (decide_eq_true (by omega)) (bd (zLs D) (bd e (bd F (ct (by rw [g];rfl) ?_))));rw [yM (by omega)]
 ·unfold eV;exact cf (decide_eq_false (by omega)) rfl
 ·cases fst (λi=>ixn (ixg s i)==a.Name) s.Stable.Indices.length 0<;>rfl
def hld (op a b:Int):Bool:=bif op==0 then a==b else bif op==1 then a != b else bif op==2 then decide (a<b) else decide (b<=a)
theorem zUr (z a b:Int):cD z a b=some (hld z a b):=by
 exact cc (λ_=>rfl) λA=>cc (λ_=>rfl) λE=>cc (λ_=>rfl) λD=>rfl
def brA (l:List By) (d:By):Bool:=l.any (· == d)
theorem yAv {p:α->Bool} (h:i<l.length):(l.take (i+1)).any p=((l.take i).any p||p l[i]):=by
 rw [Qd,List.any_append,List.getElem?_eq_getElem h];simp
theorem yJw (x:zH) (F:a.Branches.length<2 ^ 40) (D:∀ b∈a.Branches,b.length<2 ^ 40):zO (zBa a x) FU (false,0)=some (brA a.Branches x.Digest):=by
 refine yC a.Branches.length (λi=>((a.Branches.take i).any (· == x.Digest),(i:Int))) (by simp) (λi z=>?_) ?_ (xI (by omega))
 ·refine ct (decide_eq_true (by omega)) (bd (oO' λ_=>bd (yR z) (bd (qE _ _ (D _ (Q7 z))) rfl)) ?_);rw [yM (by omega),yAv z]
 ·refine cf (decide_eq_false (by omega)) ?_;rw [List.take_length];rfl
def caV (s:zB) (x:zH) (a:zI):zH×zI×Int:=
 bif a.Kind==1 then crV s x a else
 bif a.Kind==2 then (⟨x.Kind,x.Nonce,x.Digest,x.Updates,yX .i64 x.Localities a.N,x.Command,x.Deadline,x.AuthValue⟩,a,0) else
 bif a.Kind==3 then (⟨x.Kind,x.Nonce,x.Digest,x.Updates,x.Localities,a.N,x.Deadline,x.AuthValue⟩,a,ck1 ((x.Command==0)||(x.Command==a.N)) (s2 x)) else
 bif a.Kind==4 then (x,a,bif s2 x then ciV s a else 0) else
 bif a.Kind==5 then (x,a,ck1 (s.Volatile.Safe&&hld a.Op s.Volatile.Clock a.N) (s2 x)) else
 bif a.Kind==7 then (⟨x.Kind,x.Nonce,x.Digest,x.Updates,x.Localities,x.Command,x.Deadline,true⟩,a,0) else
 bif a.Kind==8 then (x,a,ck1 (brA a.Branches x.Digest) (s2 x)) else (x,a,0)
def afm (a:zI):zI:=⟨a.Kind,a.Selection,bif (a.Kind==1)&&((a.Digest.length:Int)==0) then z32 else a.Digest,a.N,a.Op,a.Operand,a.Name,a.Ref,a.Branches⟩
theorem yJy (h:pcv (afm a)=0) (k:(a.Kind==8)=true):∀ b∈a.Branches,b.length=32:=by
 have e:=eq_of_beq k;unfold pcv afm at h;simp only [e] at h;have g:=yKw h;unfold brs at g;simp only [Q6] at g;exact λb D=>zF3.1 (Qu.1 g.2 b D)
def asE (s:zB) (k:Nat) (a:zI):Int:=bif (a.Kind==6)||(a.Kind==9) then 19 else if pcv (afm a)≠0 then pcv (afm a) else (caV s (ssg s k) a).2.2
def sdg (x:zH) (d:By):zH:=⟨x.Kind,x.Nonce,d,x.Updates,x.Localities,x.Command,x.Deadline,x.AuthValue⟩
def asX (s:zB) (k:Nat) (a:zI):zH:=sdg (caV s (ssg s k) a).1 (pex (caV s (ssg s k) a).1.Digest (caV s (ssg s k) a).2.1)
def asV (s:zB) (h:Int) (a:zI):zB×Int:=match psf s h with | none=>(x0,8) | some k=>if asE s k a=0 then (ptS s k (asX s k a),0) else (x0,asE s k a)
theorem yGv (s:zB) (x:zH) (a:zI):(caV s x a).1.Kind=x.Kind/\(caV s x a).1.Nonce=x.Nonce/\(caV s x a).1.Digest=x.Digest/\(caV s x a).2.1.Branches=a.Branches:=by
 unfold caV;cases a.Kind==1
 ·cases a.Kind==2
  ·cases a.Kind==3
   ·cases a.Kind==4
    ·cases a.Kind==5
     ·cases a.Kind==7
      ·cases a.Kind==8<;>exact ⟨rfl,rfl,rfl,rfl⟩
      ·exact ⟨rfl,rfl,rfl,rfl⟩
     ·exact ⟨rfl,rfl,rfl,rfl⟩
    ·exact ⟨rfl,rfl,rfl,rfl⟩
   ·exact ⟨rfl,rfl,rfl,rfl⟩
  ·exact ⟨rfl,rfl,rfl,rfl⟩
 ·show (crV s x a).1.Kind=_/\(crV s x a).1.Nonce=_/\(crV s x a).1.Digest=_/\(crV s x a).2.1.Branches=_;unfold crV;generalize rdV s.Volatile.Registers a.Selection=w;cases !s2 x&&decide (0<(a.Digest.length:Int))
  ·simp only [cond_false];split
   ·exact ⟨rfl,rfl,rfl,rfl⟩
   ·cases s2 x&&(decide (0<(a.Digest.length:Int))&&!(a.Digest==w.1))
    ·cases s2 x&&((x.Updates != -1)&&(x.Updates != s.Volatile.Registers.Updates))<;>exact ⟨rfl,rfl,rfl,rfl⟩
    ·exact ⟨rfl,rfl,rfl,rfl⟩
  ·exact ⟨rfl,rfl,rfl,rfl⟩
theorem zX9 (A:0<=x.Kind) (z:x.Kind<=3) (g:x.Nonce.length<=32) {d:By} (D:d.length<=32):zId (sdg x d):=⟨A,z,g,D⟩
theorem yKh (h:zY s) (A:k<3) (a:zI):zId (asX s k a):=by
 have g:=cM h A;obtain ⟨z,D,_,_⟩:=yGv s _ a;exact zX9 (by rw [z];exact g.k0) (by rw [z];exact g.k3) (by rw [D];exact g.n) (zE0 _ _)
theorem yKp (h:zY s) (e:(asV s hd a).2=0):zY (asV s hd a).1:=by
 unfold asV at e ⊢;cases q:psf s hd with
 | none=>simp_all
 | some k=>
  show zY (if asE s k a=0 then (ptS s k _,(0:Int)) else (x0,asE s k a)).1;by_cases g:asE s k a=0
  ·rw [if_pos g];exact zD6 h (yKh h (lW (aE q).1).1 a)
  simp_all
theorem yEz (D:Option By) (hs:D=some z32) (a:zI):((bif a.Kind==1 then some ((a.Digest.length:Int)==0) else some false:Option Bool).bind λv=>bif v then D.bind λw=>some w else some a.Digest)=some (afm a).Digest:=by
 subst hs;unfold afm;cases a.Kind==1
 ·rfl
 ·cases (a.Digest.length:Int)==0<;>rfl
set_option maxRecDepth 100000
theorem yIr (a:zI):pH a=some (bif (a.Kind==6)||(a.Kind==9) then 19 else pcv (afm a)):=by
 unfold pH;refine bd (oO _ _) ?_;cases (a.Kind==6)||(a.Kind==9)
 ·exact cf rfl (bd (yEz lE zOw a) (bd (bE (afm a)) rfl))
 ·rfl
def tup (p:zH×zI×Int):Int×Int×Int×Int×By×Int×Int×By×By×By×List By×Int×By×By×Int×Int×Int×Int×Bool:=
 (p.2.2,p.2.1.Kind,p.2.1.Selection.a0,p.2.1.Selection.a1,p.2.1.Digest,p.2.1.N,p.2.1.Op,p.2.1.Operand,p.2.1.Name,p.2.1.Ref,p.2.1.Branches,p.1.Kind,p.1.Nonce,p.1.Digest,p.1.Updates,p.1.Localities,p.1.Command,p.1.Deadline,p.1.AuthValue)
theorem yBe (h:zY s) (hi:i<3):idx s.Volatile.Sessions (i:Int)=some (ssg s i):=vX (by rw [h.ss];exact hi)
theorem yK0 (c n t:Bool):((bif t then (bif c then some n else some false) else some false:Option Bool).bind λv=>bif v then some 16 else some 0)=some (ck1 (!c||!n) t):=by cases c<;>cases n<;>cases t<;>rfl
theorem zPj (h:zY s) (hh:I64 hd) (ha:yGj a):nY s hd a=some (asV s hd a):=by
 have hbl:=ha.b;unfold nY asV;refine bd (zFe h hh) ?_;cases q:psf s hd with
 | none=>rfl
 | some k=>
  have lt3:=(lW (aE q).1).1;refine cf (ng k) (bd (yIr a) ?_);unfold asE;cases (a.Kind==6)||(a.Kind==9)
  case true=>rfl
  simp only [cond_false];by_cases g:pcv (afm a)=0
  case neg=>rw [if_pos g,if_neg g];exact ct (b1 g) rfl
  rw [if_neg (by simp [g]:¬ pcv (afm a)≠0)];refine cf (b0 g) (bd (yBe h lt3) ?_);refine bd (a:=tup (caV s (ssg s k) a)) ?_ ?_
  ·generalize ssg s k=x;unfold caV;cases h1:(a.Kind==1)
   case true=>exact bd (yJ8 h x ha) rfl
   cases h2:(a.Kind==2)
   case true=>rfl
   cases h3:(a.Kind==3)
   case true=>
    refine cf rfl (cf rfl (ct rfl (bd (a:=ck1 ((x.Command==0)||(x.Command==a.N)) (s2 x)) ((yK0 _ _ _).trans ?_) rfl)));refine congrArg some (congrArg (ck1 · (s2 x)) ?_);unfold bne;rw [Bool.not_not,Bool.not_not]
   cases h4:(a.Kind==4)
   case true=>
    show (bif s2 x then _ else _)=_;cases s2 x
    ·rfl
    ·exact ct rfl (bd (yIa h ha) rfl)
   cases h5:(a.Kind==5)
   case true=>
    refine cf rfl (cf rfl (cf rfl (cf rfl (ct rfl (bd (a:=s2 x&&!(s.Volatile.Safe&&hld a.Op s.Volatile.Clock a.N)) ?_ ?_)))))
    ·show (bif s2 x then _ else _)=_;refine oA' λ_=>?_;cases s.Volatile.Safe
     ·rfl
     ·exact cf rfl (bd (zUr _ _ _) rfl)
    ·cases e:s2 x&&!(s.Volatile.Safe&&hld a.Op s.Volatile.Clock a.N)
     ·refine cf rfl (congrArg some ?_);simp only [cond_true,cond_false,ck1,e];rfl
     ·refine ct rfl (congrArg some ?_);simp only [cond_true,cond_false,ck1,e];rfl
   cases h7:(a.Kind==7)
   case true=>rfl
   cases h8:(a.Kind==8)
   case true=>
    have hb:=yJy g h8;refine cf rfl (cf rfl (cf rfl (cf rfl (cf rfl (cf rfl (ct rfl (bd (yJw x (by omega) (λb q=>by rw [hb b q];decide)) (bd (a:=s2 x&&!brA a.Branches x.Digest) (oA _ _) ?_))))))));cases e:s2 x&&!brA a.Branches x.Digest
    ·refine cf rfl (congrArg some ?_);simp only [cond_true,cond_false,ck1,e];rfl
    ·refine ct rfl (congrArg some ?_);simp only [cond_true,cond_false,ck1,e];rfl
   rfl
  ·obtain ⟨e1,e2,e3,e4⟩:=yGv s (ssg s k) a;have ok:=cM h lt3;have ex:uV (caV s (ssg s k) a).1.Digest (caV s (ssg s k) a).2.1=some (pex (caV s (ssg s k) a).1.Digest (caV s (ssg s k) a).2.1):=nK _ _ (by rw [e3];have:=ok.d;omega);by_cases g2:(caV s (ssg s k) a).2.2=0
   ·rw [if_pos g2];exact cf (b0 g2) (bd ex (bd (zCq h lt3 _) rfl))
   ·rw [if_neg g2];exact ct (b1 g2) rfl
def a6 (name ref:By):zI:=⟨6,⟨0,0⟩,[],0,0,[],name,ref,[]⟩
def a9 (name ref:By):zI:=⟨9,⟨0,0⟩,[],0,0,[],name,ref,[]⟩
def seE (name ref:By) (ticks:Int):Int:=bif decide (ticks<0)||decide (1048576<ticks) then 1 else pcv (a6 name ref)
def sxD (s:zB) (x:zH) (ticks:Int):Int:=bif (ticks != 0)&&((x.Deadline==0)||decide (Q2.wrap (s.Volatile.Clock+ticks)<x.Deadline)) then Q2.wrap (s.Volatile.Clock+ticks) else x.Deadline
def sxX (s:zB) (x:zH) (name ref:By) (ticks:Int):zH:=⟨x.Kind,x.Nonce,pex x.Digest (a6 name ref),x.Updates,x.Localities,x.Command,sxD s x ticks,x.AuthValue⟩
def seV (s:zB) (h:Int) (name ref:By) (ticks:Int):zB×Int:=match psf s h with | none=>(x0,8) | some k=>if seE name ref ticks=0 then (ptS s k (sxX s (ssg s k) name ref ticks),0) else (x0,seE name ref ticks)
theorem dlE (c d e:Bool) (x y:Int):((bif c then (bif d then some true else some e) else some false:Option Bool).bind λv=>bif v then some x else some y)=some (bif c&&(d||e) then x else y):=by cases c<;>cases d<;>cases e<;>rfl
theorem yJ6 (h:zY s) {n:By} {t:Int} (e:(seV s hd n r t).2=0):zY (seV s hd n r t).1:=by
 unfold seV at e ⊢;cases q:psf s hd with
 | none=>rw [q] at e;cases e
 | some k=>
  rw [q] at e;have ok:=cM h (lW (aE q).1).1;show zY (if seE n r t=0 then (ptS s k (sxX s (ssg s k) n r t),(0:Int)) else (x0,seE n r t)).1;by_cases g:seE n r t=0
  ·rw [if_pos g];exact zD6 h ⟨ok.k0,ok.k3,ok.n,zE0 _ _⟩
  ·have e:(if seE n r t=0 then (ptS s k (sxX s (ssg s k) n r t),(0:Int)) else (x0,seE n r t)).2=0:=e;rw [if_neg g] at e;exact absurd e g
theorem zPu (h:zY s) (hh:I64 hd) (name ref:By) (ticks:Int):gC s hd name ref ticks=some (seV s hd name ref ticks):=by
 unfold gC seV;refine bd (zFe h hh) ?_;cases q:psf s hd with
 | none=>rfl
 | some k=>
  have lt3:=(lW (aE q).1).1;have ok:=cM h lt3;refine cf (ng k) (bd (oO _ _) ?_);unfold seE;cases decide (ticks<0)||decide (1048576<ticks)
  case true=>rfl
  refine cf rfl (bd (bE (a6 name ref)) ?_);simp only [cond_false];by_cases g:pcv (a6 name ref)=0
  ·rw [if_pos g];exact cf (b0 g) (bd (yBe h lt3) (bd (dlE _ _ _ _ _) (bd (nK _ _ (by have:=ok.d;omega)) (bd (zCq h lt3 _) rfl))))
  ·rw [if_neg g];exact ct (b1 g) rfl
def apE (x:zH) (key:zL) (ref sg:By):Int:=if chk key≠0 then chk key else bif key.Kind != 2 then 19 else bif decide (128<(ref.length:Int)) then 4 else bif s2 x&&!(vrf key.Unique (hs 9 [x.Digest,ref]) sg).2 then 17 else 0
def apV (s:zB) (h:Int) (key:zL) (ref sg:By):zB×Int:=match psf s h with | none=>(x0,8) | some k=>if apE (ssg s k) key ref sg=0 then (ptS s k (sdg (ssg s k) (pex (ssg s k).Digest (a9 (nm key) ref))),0) else (x0,apE (ssg s k) key ref sg)
theorem yJ5 (h:zY s) {g:By} (e:(apV s hd key r g).2=0):zY (apV s hd key r g).1:=by
 unfold apV at e ⊢;cases q:psf s hd with
 | none=>rw [q] at e;cases e
 | some k=>
  rw [q] at e;have ok:=cM h (lW (aE q).1).1;show zY (if apE (ssg s k) key r g=0 then (ptS s k (sdg (ssg s k) (pex (ssg s k).Digest (a9 (nm key) r))),(0:Int)) else (x0,apE (ssg s k) key r g)).1;by_cases u:apE (ssg s k) key r g=0
  ·rw [if_pos u];exact zD6 h (zX9 ok.k0 ok.k3 ok.n (zE0 _ _))
  ·have e:(if apE (ssg s k) key r g=0 then (ptS s k (sdg (ssg s k) (pex (ssg s k).Digest (a9 (nm key) r))),(0:Int)) else (x0,apE (ssg s k) key r g)).2=0:=e;rw [if_neg u] at e;exact absurd e u
theorem zMz (h:zY s) (hh:I64 hd) {ref sg:By} (hu:key.Unique.length<2 ^ 40) (hsg:sg.length<2 ^ 40):kV s hd key ref sg=some (apV s hd key ref sg):=by
 unfold kV apV;refine bd (zFe h hh) ?_;cases q:psf s hd with
 | none=>rfl
 | some k=>
  have lt3:=(lW (aE q).1).1;have ok:=cM h lt3;refine cf (ng k) (bd (fC key) ?_);unfold apE;dsimp only;by_cases g:chk key=0
  case neg=>rw [if_pos g,if_neg g];exact ct (b1 g) rfl
  rw [if_neg (by simp [g]:¬ chk key≠0)];refine cf (b0 g) ?_;cases key.Kind != 2
  case true=>rfl
  refine cf rfl ?_;cases g2:decide (128<(ref.length:Int))
  case true=>rfl
  have g2:=dF g2;refine cf rfl (bd (yBe h lt3) ?_);have key2:nJ (ssg s k).Digest ref=some (hs 9 [(ssg s k).Digest,ref]):=bd (rC 9 _ (by rw [zUd];have:=ok.d;omega)) rfl;have ver:jT key.Unique (hs 9 [(ssg s k).Digest,ref]) sg=some (vrf key.Unique (hs 9 [(ssg s k).Digest,ref]) sg):=zQa _ _ _ (by rw [iK];decide) hu hsg;generalize vrf key.Unique (hs 9 [(ssg s k).Digest,ref]) sg=w at *;have fin:((vN key).bind λv=>(uV (ssg s k).Digest (zI.mk 9 (A2.mk 0 0) [] 0 0 [] v ref [])).bind λv2=>(rJ s (k:Int) (sdg (ssg s k) v2)).bind λv3=>some (v3,(0:Int)))=some (ptS s k (sdg (ssg s k) (pex (ssg s k).Digest (a9 (nm key) ref))),0):=bd (rW key) (bd (nK _ _ (by have:=ok.d;omega)) (bd (zCq h lt3 _) rfl));show Option.bind (bif s2 (ssg s k) then _ else _) _=_;cases s2 (ssg s k)
  ·refine bd (a:=.inr ()) rfl ?_;exact fin
  ·refine bd (a:=bif !w.2 then .inl (x0,17) else .inr ()) (ct rfl (bd key2 (bd ver ?_))) ?_
   ·cases w.2<;>rfl
   ·cases w.2
    ·rfl
    ·exact fin
end Go.Proofs.TT
