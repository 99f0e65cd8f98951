/- A part of the proof that a slot is chosen as the statement says. -/
import Derived.Test.YtmfjfpfolbnogaaGreatDoorCZ11
set_option linter.all false
namespace Go.Proofs.TT
open Go Go.Sw
set_option maxRecDepth 100000
def bO (d:zC):zC:=⟨⟨d.Disk.Areas,d.Disk.Writes,d.Disk.CutAt,d.Disk.Torn,true⟩,default,false,d.Next⟩
theorem zD8 (d:zC):tG d=some (bO d):=rfl
def zLh:yD:=⟨false,false,⟨[],0⟩,0,false,0,List.replicate 3 default,List.replicate 3 default,[],[]⟩
structure Dk (d:zT) (seq:Nat) (st:zQ) (m:Nat):Prop where
 ok:zEu d
 m0:d.Writes<=m
 m1:m<2 ^ 50
 n:d.Areas.length=8
 al:∀ i,(d.Areas.getD i []).length<2 ^ 39
 jr:Jr d.Areas seq (u4 st)
 sst:Sst st
structure Dv (d:zC) (seq:Nat) (st:zQ) (vo:yD) (m:Nat):Prop extends Dk d.Disk seq st m where
 on:d.On=true
 off:d.Disk.Off=false
 cut:d.Disk.CutAt=0
 s:d.State=⟨st,vo⟩
 nx:d.Next=(seq:Int)+1
theorem Dv.noC {d:zC} {seq m:Nat} {st:zQ} {vo:yD} (h:Dv d seq st vo m):¬ isC d.Disk:=by
 have:=h.ok.w0;have h2:=h.cut
 unfold isC;omega
theorem zD4 (s:zQ) (h:Sst s):(u4 s).length<=400:=by
 obtain ⟨a,b,c,hs,la,lb,lc⟩:=h.sd
 have hse:s.Seeds.getD 0 []=a/\s.Seeds.getD 1 []=b/\s.Seeds.getD 2 []=c:=by rw [hs];exact ⟨rfl,rfl,rfl⟩
 have hen:=h.en
 unfold u4
 rw [hse.1,hse.2.1,hse.2.2]
 simp only [List.length_append,v6,yY,List.length_cons,List.length_nil]
 omega
theorem aW {d:zC} (h1:d.On=true) (h2:d.Disk.Off=false):wM d=some true:=by
 unfold wM;exact bd (a:=true) (ct h1 (by rw [h2];rfl)) rfl
theorem zDs {d:zC} (h1:d.On=false):wM d=some false:=by
 unfold wM;exact bd (a:=false) (cf h1 rfl) rfl
theorem zCt {d:zC} (h2:d.Disk.Off=true):wM d=some false:=by
 unfold wM
 cases h:d.On
 ·exact bd (a:=false) (cf rfl rfl) rfl
 ·exact bd (a:=false) (ct rfl (by rw [h2];rfl)) rfl
def onD (d:zC) (seq:Nat) (st:zQ):zC:=⟨⟨d.Disk.Areas,0,0,0,false⟩,⟨st,zLh⟩,true,(seq:Int)+1⟩
theorem zBb (d:zC) (seq:Nat) (st:zQ) (hp:d.On=false∨d.Disk.Off=true) (h2:d.Disk.Areas.length=8) (hal:∀ i,(d.Disk.Areas.getD i []).length<2 ^ 39) (h:Jr d.Disk.Areas seq (u4 st)) (hs:Sst st):v7 d=some (onD d seq st,0):=by
 unfold v7
 refine bd (a:=false) (hp.elim zDs zCt) ?_
 refine cf rfl ?_
 refine bd (a:=⟨d.Disk.Areas,0,0,0,false⟩) rfl ?_
 refine bd (zFx ⟨d.Disk.Areas,0,0,0,false⟩ seq (u4 st) rfl (by simp only;omega) (λi=>by have:=hal i;simp only;omega) h) ?_
 refine cf rfl ?_
 refine bd (zS4 st hs) ?_
 refine cf rfl ?_
 refine bd rfl ?_
 have:=h.s2
 rw [xH (by omega) (by omega)]
 have e:(zQ.mk st.Seeds st.Auths st.Entropy st.Active st.Resets st.Restarts st.Clock st.Orderly st.Saved st.MaxCounter [] st.Lockout st.Keys)=st:=by
  have:=hs.ix
  cases st
  simp only at this
  rw [this]
 refine congrArg (λz=>some (z,(0:Int))) ?_
 show (zC.mk _ (zU.mk (zQ.mk st.Seeds st.Auths st.Entropy st.Active st.Resets st.Restarts st.Clock st.Orderly st.Saved st.MaxCounter [] st.Lockout st.Keys) _) _ _)=_
 rw [e]
 rfl
theorem Dv.of_on {d:zC} {seq:Nat} {st:zQ} (h2:d.Disk.Areas.length=8) (hal:∀ i,(d.Disk.Areas.getD i []).length<2 ^ 39) (h:Jr d.Disk.Areas seq (u4 st)) (hs:Sst st) (m:Nat) (hm:m<2 ^ 50):Dv (onD d seq st) seq st zLh m:=
 ⟨⟨⟨by show d.Disk.Areas.length<=64;omega,Int.le_refl 0,by show (0:Int)<2 ^ 60;decide⟩,by show (0:Int)<=m;omega,hm,h2,hal,h,hs⟩,rfl,rfl,rfl,rfl,rfl⟩
theorem zKe (d:zC) (seq:Nat) (st:zQ) (h2:d.Disk.Areas.length=8) (hal:∀ i,(d.Disk.Areas.getD i []).length<2 ^ 39) (h:Jr d.Disk.Areas seq (u4 st)) (hs:Sst st):oS d=some (onD d seq st,true):=by
 unfold oS
 refine bd (zD8 d) ?_
 refine bd (zBb (bO d) seq st (.inl rfl) h2 hal h hs) ?_
 rfl
theorem Dk.again {d:zC} {seq m:Nat} {st:zQ} (h:Dk d.Disk seq st m):oS d=some (onD d seq st,true)/\∀ m',m'<2 ^ 50->Dv (onD d seq st) seq st zLh m':=
 ⟨zKe d seq st h.n h.al h.jr h.sst,λm' hm=>Dv.of_on h.n h.al h.jr h.sst m' hm⟩
theorem zGy (n i:Nat):(List.replicate n ([]:List UInt8)).getD i []=[]:=by simp [List.getD_eq_getElem?_getD,List.getElem?_replicate];split<;>rfl
theorem new8:zA9 8=some ⟨List.replicate 8 [],0,0,0,false⟩:=by decide +kernel
theorem zIr (s:zQ) (h:Sst s):u9 (zQ.mk s.Seeds s.Auths s.Entropy s.Active s.Resets s.Restarts s.Clock s.Orderly (zF.mk [] s.Saved.Updates) s.MaxCounter [] s.Lockout [])=some (u4 s):=by
 rw [<- aU s h]
 have h1:=h.sv;have h2:=h.ix;have h3:=h.ks
 clear h
 cases s
 simp only at h1 h2 h3
 subst h1 h2 h3
 rfl
theorem zDt (e:List UInt8) (active:Int) (he:e.length=32) (h1:1<=active) (h3:active<=3):Def (rU 8 e active) (λr=>r.2=0/\(∃ d0,r.1=bO d0)/\∃ st,Dk r.1.Disk 1 st 1/\st.Active=active/\st.Resets=0/\∀ a,2<=a->r.1.Disk.Areas.getD a []=[]):=by
 unfold rU
 refine Def.bd (Def.of (a:=false) (Q:=λr=>r=false) rfl rfl) (λb hb=>?_)
 subst hb
 refine Def.c (λh=>by cases h) (λ_=>?_)
 refine Def.bd (zIq e active he h1 h3) (λr hr=>?_)
 obtain ⟨st,x⟩:=r
 obtain ⟨hx,hs,ha,hr0,_⟩:=hr
 simp only at hx hs ha hr0
 subst hx
 refine Def.c (λh=>by cases h) (λ_=>?_)
 have hl:=zD4 st hs
 have hrl:=zAo 1 (u4 st)
 let dk:zT:=⟨List.replicate 8 [],0,0,0,false⟩
 have hok:zEu dk:=⟨by decide,by decide,by decide⟩
 have hw:=j9 dk 1 (nM 1 (u4 st)) hok rfl (by decide) (by omega) (by decide)
 have hwc:wrC dk (dk.Areas.getD 1 []) (nM 1 (u4 st))=nM 1 (u4 st):=by
  unfold wrC j2
  rw [if_neg (show ¬ (dk.Writes+1=dk.CutAt) by decide),if_neg (show ¬ isC dk by unfold isC;decide),List.take_length,List.append_nil]
 rw [hwc,show cI dk=0 from if_neg (show ¬ isC dk by unfold isC;decide)] at hw
 have hcm:=zB9 dk 1 (u4 st) (by decide) (by decide) (by omega) hw
 refine Def.bd (Def.of (Q:=λr=>r=dk) new8 rfl) (λr hr=>?_)
 subst hr
 refine Def.bd (Def.of (Q:=λr=>r=u4 st) (zIr st hs) rfl) (λp hp=>?_)
 subst hp
 refine Def.bd (Def.of (Q:=λr=>r=(iF dk 1 (nM 1 (u4 st)),0)) hcm rfl) (λr hr=>?_)
 subst hr
 refine Def.c (λh=>by cases h) (λ_=>?_)
 refine Def.of (a:=(bO ⟨iF dk 1 (nM 1 (u4 st)),default,false,2⟩,0)) rfl ⟨rfl,⟨_,rfl⟩,st,?_,ha,hr0,λa ha=>(getD_set_ne (by omega)).trans (zGy 8 a)⟩
 have hj:=Jr.first 8 (u4 st) (by decide) (by omega)
 refine ⟨⟨by show ((List.replicate 8 ([]:List UInt8)).set 1 (nM 1 (u4 st))).length<=64;simp,by show (0:Int)<=0+1;decide,by show (0:Int)+1<2 ^ 60;decide⟩,by show (0:Int)+1<=((1:Nat):Int);decide,by decide,by show ((List.replicate 8 ([]:List UInt8)).set 1 (nM 1 (u4 st))).length=8;simp,λi=>?_,hj,hs⟩
 show (((List.replicate 8 ([]:List UInt8)).set 1 (nM 1 (u4 st))).getD i []).length<2 ^ 39
 by_cases hi:1=i
 ·subst hi
  rw [wF (by simp)];omega
 ·rw [getD_set_ne hi]
  rw [zGy];decide
def kB (d:zC) (a:Nat) (y:List UInt8):zC:=⟨iF d.Disk a y,d.State,d.On,d.Next⟩
theorem zGp (d:zC) (x:zT):rT d x 0=some (⟨x,d.State,d.On,d.Next⟩,0):=rfl
theorem zLl (d:zC) (x:zT):rT d x 29=some (bO ⟨x,d.State,d.On,d.Next⟩,29):=rfl
theorem zFm {as:List (List UInt8)} {a:Nat} {y:List UInt8} (hal:∀ i,(as.getD i []).length<2 ^ 39) (hy:y.length<2 ^ 39) (ha:a<as.length):∀ i,((as.set a y).getD i []).length<2 ^ 39:=λi=>by
 by_cases hi:a=i
 ·subst hi;rw [wF ha];exact hy
 ·rw [getD_set_ne hi];exact hal i
theorem Dv.set {d:zC} {seq m:Nat} {st:zQ} {vo:yD} (h:Dv d seq st vo m) {a:Nat} {y:List UInt8} (ha:2<=a) (h8:a<8) (hy:y.length<2 ^ 39) (hm:m+1<2 ^ 50):Dv (kB d a y) seq st vo (m+1):=by
 have hn:=h.n;have hok:=h.ok;have hm0:=h.m0
 refine ⟨⟨⟨?_,?_,?_⟩,?_,hm,?_,?_,h.jr.other ha,h.sst⟩,h.on,?_,h.cut,h.s,h.nx⟩
 ·show (d.Disk.Areas.set a y).length<=64;simp;omega
 ·show 0<=d.Disk.Writes+1;have:=hok.w0;omega
 ·show d.Disk.Writes+1<2 ^ 60;omega
 ·show d.Disk.Writes+1<=((m+1:Nat):Int);omega
 ·show (d.Disk.Areas.set a y).length=8;simp [hn]
 ·exact zFm h.al hy (by omega)
 ·show decide (isC d.Disk)=false;exact decide_eq_false h.noC
theorem Dv.write {d:zC} {seq m:Nat} {st:zQ} {vo:yD} (h:Dv d seq st vo m) {a:Nat} (y:List UInt8) (h8:a<8) (hy:y.length<=65536):uT d (a:Int) y=some (kB d a y,0):=by
 have hw:=j9 d.Disk a y h.ok h.off (by rw [h.n];exact h8) hy (by have:=h.al a;omega)
 have hc:=h.noC
 have e:wrC d.Disk (d.Disk.Areas.getD a []) y=y:=by
  unfold wrC j2
  rw [if_neg (show ¬ (d.Disk.Writes+1=d.Disk.CutAt) from hc),if_neg hc,List.take_length,List.append_nil]
 rw [e,show cI d.Disk=0 from if_neg hc] at hw
 unfold uT
 exact bd hw (bd (zGp d _) rfl)
theorem Dv.append {d:zC} {seq m:Nat} {st:zQ} {vo:yD} (h:Dv d seq st vo m) {a:Nat} (y:List UInt8) (h8:a<8) (hy:y.length<=65536):lN d (a:Int) y=some (kB d a (d.Disk.Areas.getD a []++y),0):=by
 have hw:=zIa d.Disk a y h.ok h.off (by rw [h.n];exact h8) hy (by have:=h.al a;omega)
 have hc:=h.noC
 have e:apC d.Disk (d.Disk.Areas.getD a []) y=d.Disk.Areas.getD a []++y:=by
  unfold apC j2
  rw [if_neg (show ¬ (d.Disk.Writes+1=d.Disk.CutAt) from hc),List.take_length]
 rw [e,show cI d.Disk=0 from if_neg hc] at hw
 unfold lN
 exact bd hw (bd (zGp d _) rfl)
theorem Dv.read {d:zC} {seq m:Nat} {st:zQ} {vo:yD} (h:Dv d seq st vo m) {a:Nat} (h8:a<8):uY d.Disk (a:Int)=some (d.Disk.Areas.getD a [],0):=
 dA d.Disk a h.off (by rw [h.n];exact h8) (by have:=h.al a;omega)
end Go.Proofs.TT
namespace Go.Proofs.TT
open Go Go.Sw
set_option maxRecDepth 100000
def nmB (s:List UInt8):Bool:=decide (1<=s.length)&&decide (s.length<=12)&&s.all nameByte
def nameN (n:Nat):Bool:=(decide (97<=n)&&decide (n<=122))||(decide (48<=n)&&decide (n<=57))||decide (n=45)
theorem zH1:∀ n:Nat,n<256->(bif decide ((n:Int)<97) then (bif decide ((n:Int)<48) then (some ((n:Int) != 45)) else bif decide (57<(n:Int)) then (some ((n:Int) != 45)) else some false) else bif decide (122<(n:Int)) then (bif decide ((n:Int)<48) then (some ((n:Int) != 45)) else bif decide (57<(n:Int)) then (some ((n:Int) != 45)) else some false) else some false:Option Bool)=some (!nameN n):=by decide +kernel
theorem jH (s:List UInt8):mP s=some (nmB s):=by
 have hd:Def (mP s) (λr=>r=nmB s):=by
  unfold mP
  refine Def.bd (P:=λb=>b=(decide (s.length<1)||decide (12<s.length))) ?_ (λb hb=>?_)
  ·refine Def.c (λh=>Def.s ?_) (λh=>Def.s ?_)
   ·have:=dT h
    rw [show decide (s.length<1)=true by rw [decide_eq_true_iff];omega];rfl
   ·have:=dF h
    rw [show decide (s.length<1)=false by rw [decide_eq_false_iff_not];omega,Bool.false_or]
    exact decide_eq_decide.2 (by omega)
  refine Def.c (λh=>Def.s ?_) (λh=>?_)
  ·rw [h] at hb
   have hb':s.length<1∨12<s.length:=by
    have:=hb.symm
    rw [Bool.or_eq_true,decide_eq_true_iff,decide_eq_true_iff] at this
    exact this
   unfold nmB
   rcases hb' with h1 | h1
   ·rw [show decide (1<=s.length)=false by rw [decide_eq_false_iff_not];omega];rfl
   ·rw [show decide (s.length<=12)=false by rw [decide_eq_false_iff_not];omega,Bool.and_false];rfl
  ·rw [h] at hb
   have hb':1<=s.length/\s.length<=12:=by
    have:=hb.symm
    rw [Bool.or_eq_false_iff,decide_eq_false_iff_not,decide_eq_false_iff_not] at this
    omega
   have hn:nmB s=s.all nameByte:=by
    unfold nmB
    rw [show decide (1<=s.length)=true by rw [decide_eq_true_iff];omega,show decide (s.length<=12)=true by rw [decide_eq_true_iff];omega];rfl
   rw [hn]
   refine Def.bd (gJ s (oL s) (λi=>∀ h:i<s.length,nameByte s[i]=true) (λr=>r=false/\∃ i,∃ h:i<s.length,nameByte s[i]=false) (by omega) (λi hi=>?_) ?_) (λy hy=>?_)
   ·unfold oL
    refine Def.c (λ_=>?_) (λh=>by have:=dF h;omega)
    refine Def.bd (Def.at' hi) (λc hc=>?_)
    subst hc
    refine Def.bd (P:=λb=>b=!nameByte s[i]) (Def.of (zH1 s[i].toNat s[i].toNat_lt) rfl) (λb hb=>?_)
    refine Def.c (λh=>Def.s ⟨rfl,i,hi,?_⟩) (λh=>Def.s ⟨vU (by omega),λ_=>?_⟩)
    ·rw [h] at hb;simpa using hb.symm
    ·rw [h] at hb;simpa using hb.symm
   ·unfold oL
    exact cf (by simp) rfl
   ·cases y with
    | inl r=>
     obtain ⟨rfl,i,hi,hn⟩:=hy
     refine Def.s ?_
     symm
     rw [List.all_eq_false]
     exact ⟨_,List.getElem_mem hi,by simp [hn]⟩
    | inr u=>
     refine Def.s ?_
     symm
     rw [List.all_eq_true]
     intro c hc
     obtain ⟨i,hi,rfl⟩:=List.mem_iff_getElem.mp hc
     exact hy i hi hi
 obtain ⟨r,hr,rfl⟩:=hd
 exact hr
theorem zLn (s:List UInt8):iS s=some (nmB s):=rfl
def prB (c:UInt8):Bool:=decide (32<=c.toNat)&&decide (c.toNat<=126)
theorem zHr:∀ n:Nat,n<256->(bif decide ((n:Int)<32) then (some true) else some (decide (126<(n:Int))):Option Bool)=some (!(decide (32<=n)&&decide (n<=126))):=by decide +kernel
theorem zC4 (s:List UInt8) (hs:s.length<2 ^ 40):vG s=some (s.all prB):=by
 have hd:Def (vG s) (λr=>r=s.all prB):=by
  unfold vG
  refine Def.bd (gJ s (tD s) (λi=>∀ h:i<s.length,prB s[i]=true) (λr=>r=false/\∃ i,∃ h:i<s.length,prB s[i]=false) hs (λi hi=>?_) ?_) (λy hy=>?_)
  ·unfold tD
   refine Def.c (λ_=>?_) (λh=>by have:=dF h;omega)
   refine Def.bd (Def.at' hi) (λc hc=>?_)
   subst hc
   refine Def.bd (P:=λb=>b=!prB s[i]) (Def.of (zHr s[i].toNat s[i].toNat_lt) rfl) (λb hb=>?_)
   refine Def.c (λh=>Def.s ⟨rfl,i,hi,?_⟩) (λh=>Def.s ⟨vU (by omega),λ_=>?_⟩)
   ·rw [h] at hb;simpa using hb.symm
   ·rw [h] at hb;simpa using hb.symm
  ·unfold tD
   exact cf (by simp) rfl
  ·cases y with
   | inl r=>
    obtain ⟨rfl,i,hi,hn⟩:=hy
    refine Def.s ?_
    symm
    rw [List.all_eq_false]
    exact ⟨_,List.getElem_mem hi,by simp [hn]⟩
   | inr u=>
    refine Def.s ?_
    symm
    rw [List.all_eq_true]
    intro c hc
    obtain ⟨i,hi,rfl⟩:=List.mem_iff_getElem.mp hc
    exact hy i hi hi
 obtain ⟨r,hr,rfl⟩:=hd
 exact hr
def rf:List UInt8->List (List UInt8)->List UInt8->List (List UInt8)
 | [],out,line=>if line=[] then out else []
 | c :: r,out,line=>if c=10 then (if line=[]∨4<=out.length then [] else rf r (out++[line]) []) else if prB c=true then rf r out (line++[c]) else []
theorem c10 (c:UInt8):((c.toNat:Int)==10)=decide (c=10):=by
 by_cases h:c=10
 ·subst h;rfl
 ·rw [decide_eq_false h,beq_eq_false_iff_ne]
  intro e
  exact h (UInt8.toNat_inj.1 (by
                  have:c.toNat=10:=by omega
                  rw [this];rfl))
theorem zCn (x:zE) (hx:x.Payload.length<2 ^ 20):∀ (rest:List UInt8) (fuel i:Nat) (out:List (List UInt8)) (line:List UInt8),rest.length<fuel->x.Payload.drop i=rest->i<=x.Payload.length->out.length<=4->line.length<=i ->
  ∃ y,zV (xO x) fuel (out,line,(i:Int))=some y/\(match y with | .inl r=>r=[]/\rf rest out line=[] | .inr (o,l)=>rf rest out line=if l=[] then o else [])
 | [],f+1,i,out,line,_,hd,hi,_,_=>by
  have hl:i=x.Payload.length:=by
   have:=congrArg List.length hd
   simp at this;omega
  refine ⟨.inr (out,line),?_,rfl⟩
  simp only [zV]
  have:xO x (out,line,(i:Int))=some (.inr (.inr (out,line))):=by
   unfold xO;exact cf (by simp;omega) rfl
  rw [this]
 | c :: r,f+1,i,out,line,hf,hd,hi,ho,hll=>by
  have hil:i<x.Payload.length:=by
   have:=congrArg List.length hd
   simp at this;omega
  have hc:idx x.Payload (i:Int)=some c:=by
   rw [yZ hil]
   have:=List.drop_eq_getElem_cons hil
   rw [hd] at this
   exact congrArg some (List.cons.inj this).1.symm
  have hr:x.Payload.drop (i+1)=r:=by
   have:=List.drop_eq_getElem_cons hil
   rw [hd] at this
   exact (List.cons.inj this).2.symm
  simp only [List.length_cons] at hf
  simp only [zV]
  by_cases h10:c=10
  ·by_cases hb:line=[]∨4<=out.length
   ·refine ⟨.inl [],?_,rfl,by simp only [rf,if_pos h10,if_pos hb]⟩
    have:xO x (out,line,(i:Int))=some (.inr (.inl [])):=by
     unfold xO
     refine ct (dlt hil) (bd (a:=.inl []) (bd hc (ct (by rw [c10];simp [h10]) (bd (a:=true) ?_ (ct rfl rfl)))) rfl)
     by_cases h0:line=[]
     ·exact ct (by simp [h0]) rfl
     ·refine cf (by simp;exact h0) (congrArg some ?_)
      have:=hb.resolve_left h0
      simp;omega
    rw [this]
   ·obtain ⟨y,hy,hy2⟩:=zCn x hx r f (i+1) (out++[line]) [] (by omega) hr (by omega) (by have:¬ 4<=out.length:=λh=>hb (.inr h);simp;omega) (by simp)
    refine ⟨y,?_,?_⟩
    ·have:xO x (out,line,(i:Int))=some (.inl (out++[line],[],((i+1:Nat):Int))):=by
      have hb1:line≠[]:=λh=>hb (.inl h)
      have hb2:¬ 4<=out.length:=λh=>hb (.inr h)
      unfold xO
      refine ct (dlt hil) (bd (a:=.inr (out++[line],[])) (bd hc (ct (by rw [c10];simp [h10]) (bd (a:=false) (cf (by simp;exact hb1) (congrArg some (by simp;omega))) (cf rfl (bd (yJ (by simp;omega)) rfl))))) ?_)
      rw [vU (show i<2 ^ 40 by omega)]
     rw [this]
     exact hy
    ·cases y with
     | inl r'=>simp only [rf,if_pos h10,if_neg hb];exact hy2
     | inr p=>simp only [rf,if_pos h10,if_neg hb];exact hy2
  ·have hp:(bif decide ((c.toNat:Int)<32) then (some true) else some (decide (126<(c.toNat:Int))):Option Bool)=some (!prB c):=zHr c.toNat c.toNat_lt
   cases hpr:prB c with
   | false=>
    refine ⟨.inl [],?_,rfl,by simp only [rf,if_neg h10,hpr];rfl⟩
    have:xO x (out,line,(i:Int))=some (.inr (.inl [])):=by
     unfold xO
     refine ct (dlt hil) (bd (a:=.inl []) (bd hc (cf (by rw [c10];simp [h10]) (bd hp (ct (by rw [hpr];rfl) rfl)))) rfl)
    rw [this]
   | true=>
    obtain ⟨y,hy,hy2⟩:=zCn x hx r f (i+1) out (line++[c]) (by omega) hr (by omega) ho (by simp;omega)
    refine ⟨y,?_,?_⟩
    ·have:xO x (out,line,(i:Int))=some (.inl (out,line++[c],((i+1:Nat):Int))):=by
      unfold xO
      refine ct (dlt hil) (bd (a:=.inr (out,line++[c])) (bd hc (cf (by rw [c10];simp [h10]) (bd hp (cf (by rw [hpr];rfl) (bd (yJ (by simp;omega)) rfl))))) ?_)
      rw [vU (show i<2 ^ 40 by omega)]
     rw [this]
     exact hy
    ·cases y with
     | inl r'=>simp only [rf,if_neg h10,hpr,if_true];exact hy2
     | inr p=>simp only [rf,if_neg h10,hpr,if_true];exact hy2
theorem bI (x:zE) (hx:x.Payload.length<2 ^ 20):sM x=some (rf x.Payload [] []):=by
 obtain ⟨y,hy,hy2⟩:=zCn x hx x.Payload FU 0 [] [] (wK (by omega)) rfl (by omega) (by simp) (by simp)
 unfold sM
 refine bd hy ?_
 cases y with
 | inl r=>obtain ⟨rfl,h⟩:=hy2;rw [h]
 | inr p=>
  obtain ⟨o,l⟩:=p
  simp only at hy2 ⊢
  by_cases hl:l=[]
  ·rw [if_pos hl] at hy2
   exact cf (by simp [hl]) (by rw [hy2])
  ·rw [if_neg hl] at hy2
   exact ct (by have:=List.length_pos_iff.2 hl;simp;omega) (by rw [hy2])
end Go.Proofs.TT
namespace Go.Proofs.TT
open Go Go.Sw
set_option maxRecDepth 100000
theorem zEe:∀ l:List UInt8,(Lib.indexByte l 10=-1/\(10:UInt8)∉l)∨∃ w r,l=w++10 :: r/\(10:UInt8)∉w/\Lib.indexByte l 10=(w.length:Int)
 | []=>.inl ⟨rfl,by simp⟩
 | b :: l=>by
  by_cases hb:b=10
  ·subst hb
   exact .inr ⟨[],l,rfl,by simp,by simp [Lib.indexByte]⟩
  ·have hne:(b==10)=false:=by rw [beq_eq_false_iff_ne];exact hb
   rcases zEe l with ⟨h1,h2⟩ | ⟨w,r,h1,h2,h3⟩
   ·refine .inl ⟨by unfold Lib.indexByte;rw [hne,h1];rfl,?_⟩
    simp only [List.mem_cons,not_or]
    exact ⟨λe=>hb e.symm,h2⟩
   ·refine .inr ⟨b :: w,r,by rw [h1];rfl,?_,?_⟩
    ·simp only [List.mem_cons,not_or]
     exact ⟨λe=>hb e.symm,h2⟩
    ·unfold Lib.indexByte
     rw [hne,h3]
     have:((w.length:Int)==-1)=false:=by rw [beq_eq_false_iff_ne];omega
     simp only [this,List.length_cons]
     simp
theorem zHw:∀ (w r:List UInt8) (out:List (List UInt8)) (line:List UInt8),(10:UInt8)∉w->rf (w++10 :: r) out line=if w.all prB=true then (if line++w=[]∨4<=out.length then [] else rf r (out++[line++w]) []) else []
 | [],r,out,line,_=>by simp [rf]
 | c :: w,r,out,line,h=>by
  simp only [List.mem_cons,not_or] at h
  have hc:¬ c=10:=λe=>h.1 e.symm
  simp only [List.cons_append,rf,if_neg hc]
  rw [zHw w r out (line++[c]) h.2]
  cases hp:prB c with
  | false=>simp [hp]
  | true=>simp [hp]
theorem zLu:∀ (w:List UInt8) (out:List (List UInt8)) (line:List UInt8),(10:UInt8)∉w->(w≠[]∨line≠[])->rf w out line=[]
 | [],out,line,_,h=>by simp only [rf];rw [if_neg (by simpa using h)]
 | c :: w,out,line,h,_=>by
  simp only [List.mem_cons,not_or] at h
  have hc:¬ c=10:=λe=>h.1 e.symm
  simp only [rf,if_neg hc]
  split
  ·exact zLu w out (line++[c]) h.2 (.inr (by simp))
  ·rfl
theorem zMg:∀ (n:Nat) (rest:List UInt8) (out:List (List UInt8)) (fuel:Nat),rest.length<=n->n<fuel->out.length<=4->rest.length<2 ^ 20 ->
  ∃ y,zV wE fuel (out,rest)=some y/\(match y with | .inl r=>r=[]/\rf rest out []=[] | .inr o=>rf rest out []=o):=by
 intro n
 induction n with
 | zero=>
  intro rest out fuel hn hf ho hl
  obtain ⟨f,rfl⟩:∃ f,fuel=f+1:=⟨fuel - 1,by omega⟩
  have:rest=[]:=List.eq_nil_of_length_eq_zero (by omega)
  subst this
  refine ⟨.inr out,?_,rfl⟩
  simp only [zV]
  have:wE (out,[])=some (.inr (.inr out)):=by unfold wE;exact cf rfl rfl
  rw [this]
 | succ n ih=>
  intro rest out fuel hn hf ho hl
  obtain ⟨f,rfl⟩:∃ f,fuel=f+1:=⟨fuel - 1,by omega⟩
  by_cases h0:rest=[]
  ·subst h0
   refine ⟨.inr out,?_,rfl⟩
   simp only [zV]
   have:wE (out,[])=some (.inr (.inr out)):=by unfold wE;exact cf rfl rfl
   rw [this]
  have hpos:0<rest.length:=List.length_pos_iff.2 h0
  simp only [zV]
  have bad:∀ (v:Int),uD rest 10=some v->((bif decide (v<1) then (some true) else bif ((out.length:Int)==4) then (some true) else (sub rest 0 v).bind λv_1130=>(vG v_1130).bind λv_1131=>some (!v_1131):Option Bool)=some true)->wE (out,rest)=some (.inr (.inl [])):=by
   intro v hv hc
   unfold wE
   exact ct (by simp;omega) (bd hv (bd hc (ct rfl rfl)))
  rcases zEe rest with ⟨h1,h2⟩ | ⟨w,r,h1,h2,h3⟩
  ·refine ⟨.inl [],?_,rfl,zLu rest out [] h2 (.inl h0)⟩
   rw [bad (-1) (by unfold uD;rw [h1]) (ct rfl rfl)]
  ·have hlen:rest.length=w.length+1+r.length:=by rw [h1];simp;omega
   have hib:uD rest 10=some (w.length:Int):=by unfold uD;rw [h3]
   have htk:(rest.drop 0).take (w.length - 0)=w:=by rw [h1];simp
   have hsub:sub rest 0 (w.length:Int)=some w:=by
    have:=tA (l:=rest) (a:=0) (b:=w.length) (Nat.zero_le _) (by omega)
    rw [htk] at this
    exact this
   have hpr:=zC4 w (by omega)
   have hrf:=zHw w r out [] h2
   rw [<- h1,List.nil_append] at hrf
   by_cases hw:w=[]
   ·refine ⟨.inl [],?_,rfl,?_⟩
    ·rw [bad _ hib (ct (by simp [hw]) rfl)]
    ·rw [hrf,if_pos (show w=[]∨4<=out.length from .inl hw)];simp
   have hw1:0<w.length:=List.length_pos_iff.2 hw
   by_cases h4:out.length=4
   ·refine ⟨.inl [],?_,rfl,?_⟩
    ·rw [bad _ hib (cf (by simp;omega) (ct (by simp [h4]) rfl))]
    ·rw [hrf,if_pos (show w=[]∨4<=out.length from .inr (by omega))];simp
   have hstep:(sub rest 0 (w.length:Int)).bind (λv_1130=>(vG v_1130).bind λv_1131=>some (!v_1131))=some (!w.all prB):=bd hsub (bd hpr rfl)
   cases hp:w.all prB with
   | false=>
    refine ⟨.inl [],?_,rfl,by rw [hrf,hp];rfl⟩
    rw [bad _ hib (cf (by simp;omega) (cf (by simp;omega) (hstep.trans (by rw [hp];rfl))))]
   | true=>
    obtain ⟨y,hy,hy2⟩:=ih r (out++[w]) f (by omega) (by omega) (by simp;omega) (by omega)
    have hr2:(rest.drop (w.length+1)).take (rest.length - (w.length+1))=r:=by
     rw [List.take_of_length_le (by simp)]
     rw [h1];simp
    have hsub2:sub rest (((w.length+1:Nat)):Int) (rest.length:Int)=some r:=by
     have:=tA (l:=rest) (a:=w.length+1) (b:=rest.length) (by omega) (Nat.le_refl _)
     rw [hr2] at this
     exact this
    have:wE (out,rest)=some (.inl (out++[w],r)):=by
     unfold wE
     refine ct (by simp;omega) (bd hib (bd (a:=false) (cf (by simp;omega) (cf (by simp;omega) (hstep.trans (by rw [hp];rfl)))) (cf rfl ?_)))
     refine bd hsub (bd (yJ (by simp;omega)) ?_)
     rw [vU (show w.length<2 ^ 40 by omega)]
     exact bd hsub2 rfl
    rw [this]
    refine ⟨y,hy,?_⟩
    rw [hrf,hp,if_pos rfl,if_neg (show ¬ (w=[]∨4<=out.length) by rintro (h | h);exact hw h;omega)]
    exact hy2
theorem zA5 (x:zE) (hx:x.Payload.length<2 ^ 20):oW x=sM x:=by
 rw [bI x hx]
 obtain ⟨y,hy,hy2⟩:=zMg x.Payload.length x.Payload [] FU (Nat.le_refl _) (wK (by omega)) (by simp) hx
 unfold oW
 refine bd hy ?_
 cases y with
 | inl r=>obtain ⟨rfl,h⟩:=hy2;rw [h]
 | inr o=>simp only at hy2 ⊢;rw [hy2]
theorem jM (x:zE):uL x=uO x:=by
 unfold uL uO
 rw [jH,zLn]
 refine congrArg _ (funext λv=>?_)
 cases v with
 | true=>rfl
 | false=>
  simp only [Option.bind_some,cond_false]
  cases nmB x.Name with
  | false=>rfl
  | true=>
   simp only [Bool.not_true,cond_false]
   cases h:decide (64<(x.Payload.length:Int)) with
   | true=>rfl
   | false=>
    rw [decide_eq_false_iff_not] at h
    rw [zA5 x (by omega)]
theorem cX (x:zE):Def (uO x) (λr=>0<=r/\(r=0->1<=x.Role/\x.Role<=4/\0<=x.Version/\x.Version<=1000000/\x.Name.length<=12/\x.Payload.length<=64)):=by
 unfold uO
 refine Def.bd (P:=λb=>b=(decide (x.Role<1)||decide (4<x.Role)||decide (x.Version<0)||decide (1000000<x.Version))) ?_ (λb hb=>?_)
 ·cases h1:decide (x.Role<1)<;>cases h2:decide (4<x.Role)<;>cases h3:decide (x.Version<0)<;>exact Def.s (by simp)
 refine Def.c (λh=>Def.s ⟨by decide,λh=>by cases h⟩) (λh=>?_)
 rw [h] at hb
 have hb:=hb.symm
 simp only [Bool.or_eq_false_iff,decide_eq_false_iff_not] at hb
 refine Def.bd (Def.of (jH x.Name) (Q:=λr=>r=nmB x.Name) rfl) (λn hn=>?_)
 subst hn
 refine Def.c (λh=>Def.s ⟨by decide,λh=>by cases h⟩) (λhn=>?_)
 refine Def.c (λh=>Def.s ⟨by decide,λh=>by cases h⟩) (λh=>?_)
 rw [decide_eq_false_iff_not] at h
 refine Def.bd (P:=λ_=>True) ?_ (λb _=>?_)
 ·refine Def.c (λ_=>Def.bd (Def.of (bI x (by omega)) (Q:=λ_=>True) trivial) (λ_ _=>Def.s trivial)) (λ_=>Def.s trivial)
 refine Def.c (λh=>Def.s ⟨by decide,λh=>by cases h⟩) (λ_=>Def.s ⟨by decide,λ_=>⟨by omega,by omega,by omega,by omega,?_,by omega⟩⟩)
 simp only [Bool.not_eq_false',nmB,Bool.and_eq_true,decide_eq_true_iff] at hn
 exact hn.1.2
end Go.Proofs.TT
namespace Go.Proofs.TT
open Go Go.Sw
set_option maxRecDepth 100000
theorem cL {X X' Y Y':Type} {f:X->Option (X ⊕ Y)} {g:X'->Option (X' ⊕ Y')} (R:X->X'->Prop) (S:Y->Y'->Prop)
  (h:∀ x x',R x x'->(f x=none/\g x'=none)∨(∃ y y',f x=some (.inl y)/\g x'=some (.inl y')/\R y y')∨∃ y y',f x=some (.inr y)/\g x'=some (.inr y')/\S y y') :
  ∀ (fuel:Nat) (x:X) (x':X'),R x x'->(zV f fuel x=none/\zV g fuel x'=none)∨∃ y y',zV f fuel x=some y/\zV g fuel x'=some y'/\S y y'
 | 0,_,_,_=>.inl ⟨rfl,rfl⟩
 | n+1,x,x',hr=>by
  simp only [zV]
  rcases h x x' hr with ⟨h1,h2⟩ | ⟨y,y',h1,h2,h3⟩ | ⟨y,y',h1,h2,h3⟩
  ·rw [h1,h2];exact .inl ⟨rfl,rfl⟩
  ·rw [h1,h2];exact cL R S h n y y' h3
  ·rw [h1,h2];exact .inr ⟨y,y',rfl,rfl,h3⟩
def fD (x:zE):Prop:=uO x=some 0
theorem oD.ok {x:zE} (h:oD x):fD x:=zA4 x h
theorem fD.f {x:zE} (h:fD x):1<=x.Role/\x.Role<=4/\0<=x.Version/\x.Version<=1000000/\x.Name.length<=12/\x.Payload.length<=64:=by
 obtain ⟨r,e,_,h2⟩:=cX x
 rw [h] at e
 exact h2 (Option.some.inj e).symm
theorem zGi (l:List zE) (i:Nat) (hi:i<l.length) (h8:l.length<=8):zV (xW l[i] (l.take i)) FU 0=zV (xM l (i:Int)) FU 0:=by
 have:=cL (f:=xW l[i] (l.take i)) (g:=xM l (i:Int)) (λa b=>a=b/\∃ k:Nat,a=(k:Int)) (λa b=>a=b) ?_ FU 0 0 ⟨rfl,0,rfl⟩
 ·rcases this with ⟨a,b⟩ | ⟨y,y',a,b,rfl⟩
  ·rw [a,b]
  ·rw [a,b]
 ·rintro a _ ⟨rfl,k,rfl⟩
  right
  have hlen:(l.take i).length=i:=by simp;omega
  by_cases hk:k<i
  ·have hkl:k<l.length:=by omega
   have hx:idx (l.take i) (k:Int)=some l[k]:=by rw [yZ (by omega)];simp
   have hg:((l[k]).Role==(l[i]).Role&&(l[k]).Name==(l[i]).Name)=true->xW l[i] (l.take i) (k:Int)=some (.inr (.inl 42))/\xM l (i:Int) (k:Int)=some (.inr (.inl 42)):=by
    intro hb
    rw [Bool.and_eq_true] at hb
    constructor
    ·unfold xW
     exact ct (by rw [hlen];simp;omega) (bd hx (bd (a:=true) (ct hb.1 (congrArg some hb.2)) (ct rfl rfl)))
    ·unfold xM
     exact ct (by simp;omega) (bd (a:=true) (bd (yZ hkl) (bd (yZ hi) (ct hb.1 (bd (yZ hkl) (bd (yZ hi) (congrArg some hb.2)))))) (ct rfl rfl))
   have hn:((l[k]).Role==(l[i]).Role&&(l[k]).Name==(l[i]).Name)=false->xW l[i] (l.take i) (k:Int)=some (.inl ((k+1:Nat):Int))/\xM l (i:Int) (k:Int)=some (.inl ((k+1:Nat):Int)):=by
    intro hb
    have hw:IntKind.i64.wrap ((k:Int)+1)=((k+1:Nat):Int):=vU (by omega)
    constructor
    ·unfold xW
     refine ct (by rw [hlen];simp;omega) (bd hx (bd (a:=false) ?_ (cf rfl (by rw [hw]))))
     cases hr:(l[k]).Role==(l[i]).Role with
     | false=>rfl
     | true=>rw [hr] at hb;exact congrArg some hb
    ·unfold xM
     refine ct (by simp;omega) (bd (a:=false) (bd (yZ hkl) (bd (yZ hi) ?_)) (cf rfl (by rw [hw])))
     cases hr:(l[k]).Role==(l[i]).Role with
     | false=>rfl
     | true=>rw [hr] at hb;exact ct rfl (bd (yZ hkl) (bd (yZ hi) (congrArg some hb)))
   cases hb:((l[k]).Role==(l[i]).Role&&(l[k]).Name==(l[i]).Name) with
   | true=>exact .inr ⟨_,_,(hg hb).1,(hg hb).2,rfl⟩
   | false=>exact .inl ⟨_,_,(hn hb).1,(hn hb).2,rfl,k+1,rfl⟩
  ·refine .inr ⟨.inr (),.inr (),?_,?_,rfl⟩
   ·unfold xW
    exact cf (by rw [hlen];simp;omega) rfl
   ·unfold xM
    exact cf (by simp;omega) rfl
theorem zCc (l:List zE) (i:Nat) (hi:i<l.length) (h8:l.length<=8):Def (zV (xM l (i:Int)) FU 0) (λr=>r=.inr ()∨r=.inl 42):=by
 refine Def.loop (λs=>∃ k:Nat,s=(k:Int)/\k<=i) (λs=>i - s.toNat) (λs hs=>?_) ⟨0,rfl,by omega⟩ (by simp;omega)
 obtain ⟨k,rfl,hk⟩:=hs
 unfold xM
 refine Def.c (λh=>?_) (λh=>Def.s (.inl rfl))
 have hki:=dT h
 refine Def.bd (P:=λ_=>True) ?_ (λb _=>?_)
 ·refine Def.bd (Def.at' (show k<l.length by omega)) (λy _=>?_)
  refine Def.bd (Def.at' hi) (λz _=>?_)
  refine Def.c (λ_=>?_) (λ_=>Def.s trivial)
  refine Def.bd (Def.at' (show k<l.length by omega)) (λy _=>?_)
  exact Def.bd (Def.at' hi) (λz _=>Def.s trivial)
 refine Def.c (λ_=>Def.s (.inr rfl)) (λ_=>Def.s ?_)
 rw [vU (by omega)]
 exact ⟨⟨k+1,rfl,by omega⟩,by simp only [Int.toNat_natCast];omega⟩
theorem zHa {c:Bool} {o:Option Bool} {b:Bool} (h:o=some b):(bif c then some true else o)=some (c||b):=by cases c<;>simp [h]
theorem zO7 (l:List zE) (h8:l.length<=8) :
  ∃ y,xA l=xA l/\zV (xA l) FU (false,false,0)=some y/\(match y with
   | .inl r=>zV (xC l) FU (0,[false,false,false,false,false])=some (.inl r)/\0<r
   | .inr (fw,k)=>(∃ a b c,zV (xC l) FU (0,[false,false,false,false,false])=some (.inr [a,fw,b,k,c]))/\∀ x∈l,fD x):=by
 have tot:Def (zV (xA l) FU (false,false,0)) (λy=>match y with | .inl r=>0<r | .inr _=>∀ x∈l,fD x):=by
  refine Def.loop (λs=>∃ i:Nat,s.2.2=(i:Int)/\i<=l.length/\∀ x∈l.take i,fD x) (λs=>l.length - s.2.2.toNat) (λs hs=>?_) ⟨0,rfl,by omega,by simp⟩ (by simp;omega)
  obtain ⟨f,k,i'⟩:=s
  obtain ⟨i,g1,g2,g3⟩:=hs
  simp only at g1
  subst g1
  unfold xA
  refine Def.c (λh=>?_) (λh=>Def.s ?_)
  ·have hi:i<l.length:=by have:=dT h;omega
   refine Def.bd (Def.at' hi) (λy hy=>?_)
   subst hy
   refine Def.bd ((cX l[i]).get 0 |> λe=>(⟨_,e.1,⟨e.1,e.2.1⟩⟩:Def _ (λr=>uO l[i]=some r/\0<=r))) (λr hr=>?_)
   refine Def.c (λh=>Def.s ?_) (λh0=>?_)
   ·have:r≠0:=by simpa using h
    have:=hr.2
    show 0<r
    omega
   have h0':r=0:=by simpa using h0
   subst h0'
   refine Def.bd (P:=λ_=>True) ?_ (λb hb=>?_)
   ·refine Def.c (λh0=>?_) (λ_=>Def.s trivial)
    have h0':=dT h0
    refine Def.bd (Def.at' hi) (λy hy=>?_)
    rw [xH (by omega) (by omega),show (i:Int) - 1=((i - 1:Nat):Int) by omega]
    exact Def.bd (Def.at' (show i - 1<l.length by omega)) (λy hy=>Def.s trivial)
   refine Def.c (λh=>Def.s (show (0:Int)<41 by decide)) (λ_=>?_)
   refine Def.bd (zCc l i hi h8) (λr' hr'=>?_)
   rcases hr' with rfl | rfl
   ·refine Def.bd (P:=λ_=>True) (Def.c (λ_=>Def.s trivial) (λ_=>Def.bd (Def.at' hi) (λy _=>Def.s trivial))) (λb1 _=>?_)
    refine Def.bd (P:=λ_=>True) (Def.c (λ_=>Def.s trivial) (λ_=>Def.bd (Def.at' hi) (λy _=>Def.s trivial))) (λb2 _=>Def.s ?_)
    rw [vU (by omega)]
    refine ⟨⟨i+1,rfl,by omega,λx hx=>?_⟩,by simp only [Int.toNat_natCast];omega⟩
    rcases lS hi hx with hx | rfl
    ·exact g3 x hx
    ·exact hr.1
   ·exact Def.s (show (0:Int)<42 by decide)
  ·have:=dF h
   rw [List.take_of_length_le (by omega)] at g3
   exact g3
 obtain ⟨y,hy,hy2⟩:=tot
 have sim:=cL (f:=xC l) (g:=xA l) (λs t=>∃ (i:Nat) (a b c:Bool),s=((i:Int),[a,t.1,b,t.2.1,c])/\t.2.2=(i:Int)/\i<=l.length)
  (λy z=>match y,z with | .inl r,.inl r'=>r=r' | .inr s,.inr t=>∃ a b c,s=[a,t.1,b,t.2,c] | _,_=>False) ?_ FU (0,[false,false,false,false,false]) (false,false,0) ⟨0,false,false,false,rfl,rfl,by omega⟩
 ·rcases sim with ⟨_,b⟩ | ⟨s,t,a,b,c⟩
  ·rw [hy] at b;cases b
  ·rw [hy] at b
   obtain rfl:=Option.some.inj b
   refine ⟨y,rfl,hy,?_⟩
   cases y with
   | inl r=>
    cases s with
    | inl r'=>exact ⟨by rw [a,show r'=r from c],hy2⟩
    | inr _=>exact c.elim
   | inr t=>
    cases s with
    | inl _=>exact c.elim
    | inr s=>
     obtain ⟨x1,x2,x3,x4⟩:=c
     exact ⟨⟨x1,x2,x3,by rw [a,x4]⟩,hy2⟩
 ·rintro ⟨s1,s2⟩ ⟨fw,k,i'⟩ ⟨i,a,b,c,e,rfl,hle⟩
  obtain ⟨rfl,rfl⟩:=Prod.mk.inj e
  right
  by_cases hi:i<l.length
  ·have hd:decide ((i:Int)<(l.length:Int))=true:=by simp;omega
   obtain ⟨r,er,r0,hr⟩:=cX l[i]
   have er':uL l[i]=some r:=(jM _).trans er
   by_cases h0:r=0
   rotate_left
   ·refine .inr ⟨.inl r,.inl r,?_,?_,rfl⟩
    ·unfold xC
     exact ct hd (bd (yZ hi) (bd er' (ct (b1 h0) rfl)))
    ·unfold xA
     exact ct hd (bd (yZ hi) (bd er (ct (b1 h0) rfl)))
   obtain ⟨p1,p4,_⟩:=hr h0
   subst h0
   have ho:∃ o,(bif decide (0<(i:Int)) then (idx l (IntKind.i64.wrap ((i:Int) - 1))).bind λv_1235=>some (decide (l[i].Role<v_1235.Role)) else some false:Option Bool)=some o/\(bif decide (0<(i:Int)) then (idx l (i:Int)).bind λv_1313=>(idx l (IntKind.i64.wrap ((i:Int) - 1))).bind λv_1314=>some (decide (v_1313.Role<v_1314.Role)) else some false:Option Bool)=some o:=by
    cases hz:decide (0<(i:Int)) with
    | false=>exact ⟨false,rfl,rfl⟩
    | true=>
     have hz':0<(i:Int):=of_decide_eq_true hz
     have hw:IntKind.i64.wrap ((i:Int) - 1)=((i - 1:Nat):Int):=by rw [xH (by omega) (by omega)];omega
     refine ⟨decide (l[i].Role<(l[i - 1]'(by omega)).Role),?_,?_⟩
     ·rw [hw];exact bd (yZ (by omega)) rfl
     ·rw [hw];exact bd (yZ hi) (bd (yZ (by omega)) rfl)
   obtain ⟨o,o1,o2⟩:=ho
   cases o with
   | true=>
    refine .inr ⟨.inl 41,.inl 41,?_,?_,rfl⟩
    ·unfold xC
     exact ct hd (bd (yZ hi) (bd er' (cf rfl (bd o1 (ct rfl rfl)))))
    ·unfold xA
     exact ct hd (bd (yZ hi) (bd er (cf rfl (bd o2 (ct rfl rfl)))))
   | false=>
    have hsub:sub l 0 (i:Int)=some (l.take i):=by
     have:=tA (l:=l) (a:=0) (b:=i) (Nat.zero_le _) (by omega)
     simpa using this
    obtain ⟨z,ez,hz⟩:=zCc l i hi h8
    have ez':=(zGi l i hi h8).trans ez
    rcases hz with rfl | rfl
    rotate_left
    ·refine .inr ⟨.inl 42,.inl 42,?_,?_,rfl⟩
     ·unfold xC
      exact ct hd (bd (yZ hi) (bd er' (cf rfl (bd o1 (cf rfl (bd hsub (bd ez' rfl)))))))
     ·unfold xA
      exact ct hd (bd (yZ hi) (bd er (cf rfl (bd o2 (cf rfl (bd ez rfl))))))
    have hw:IntKind.i64.wrap ((i:Int)+1)=((i+1:Nat):Int):=vU (by omega)
    obtain ⟨n,hn⟩:=Int.eq_ofNat_of_zero_le (show 0<=l[i].Role by omega)
    have hn4:1<=n/\n<=4:=by omega
    have hix:ixN 5 l[i].Role=some n:=by rw [hn];simp [ixN];omega
    refine .inl ⟨(((i+1:Nat):Int),[a,fw,b,k,c].set n true),(fw||(l[i].Role==1),k||(l[i].Role==3),((i+1:Nat):Int)),?_,?_,?_⟩
    ·unfold xC
     refine ct hd (bd (yZ hi) (bd er' (cf rfl (bd o1 (cf rfl (bd hsub (bd ez' ?_)))))))
     refine bd hix (bd (a:=[a,fw,b,k,c].set n true) ?_ (by rw [hw]))
     simp [sY];omega
    ·unfold xA
     refine ct hd (bd (yZ hi) (bd er (cf rfl (bd o2 (cf rfl (bd ez ?_))))))
     refine bd (zHa (bd (yZ hi) rfl)) (bd (zHa (bd (yZ hi) rfl)) (by rw [hw]))
    ·rw [hn]
     have:n=1∨n=2∨n=3∨n=4:=by omega
     rcases this with rfl | rfl | rfl | rfl
     ·exact ⟨i+1,a,b,c,by simp,rfl,by omega⟩
     ·exact ⟨i+1,a,true,c,by simp,rfl,by omega⟩
     ·exact ⟨i+1,a,b,c,by simp,rfl,by omega⟩
     ·exact ⟨i+1,a,b,true,by simp,rfl,by omega⟩
  ·have hd:decide ((i:Int)<(l.length:Int))=false:=by simp;omega
   refine .inr ⟨.inr [a,fw,b,k,c],.inr (fw,k),?_,?_,a,b,c,rfl⟩
   ·unfold xC
    exact cf hd rfl
   ·unfold xA
    exact cf hd rfl
theorem zIp (l:List zE) (hl:l.length<2 ^ 40):Def (u5 l) (λr=>xT l=some r/\0<=r/\(r=0->1<=l.length/\l.length<=8/\∀ x∈l,fD x)):=by
 by_cases hb:l.length=0∨8<l.length
 ·have hc:(bif ((l.length:Int)==0) then (some true) else some (decide (8<(l.length:Int))):Option Bool)=some true:=by
   rcases hb with hb | hb
   ·exact ct (by simp [hb]) rfl
   ·exact cf (by rw [beq_eq_false_iff_ne];omega) (congrArg some (by simp;omega))
  refine ⟨1,?_,?_,by decide,λe=>by cases e⟩
  ·unfold u5
   exact bd hc (ct rfl rfl)
  ·unfold xT
   exact bd hc (ct rfl rfl)
 ·have hc:(bif ((l.length:Int)==0) then (some true) else some (decide (8<(l.length:Int))):Option Bool)=some false:=cf (by rw [beq_eq_false_iff_ne];omega) (congrArg some (by simp;omega))
  obtain ⟨y,_,hy,hy2⟩:=zO7 l (by omega)
  cases y with
  | inl r=>
   refine ⟨r,?_,?_,Int.le_of_lt hy2.2,λe=>absurd e (by have:=hy2.2;omega)⟩
   ·unfold u5
    exact bd hc (cf rfl (bd hy rfl))
   ·unfold xT
    exact bd hc (cf rfl (bd hy2.1 rfl))
  | inr t=>
   obtain ⟨fw,k⟩:=t
   obtain ⟨⟨a,b,c,h1⟩,h2⟩:=hy2
   refine ⟨if fw&&k then 0 else 40,?_,?_,by split<;>decide,λ_=>⟨by omega,by omega,h2⟩⟩
   ·unfold u5
    refine bd hc (cf rfl (bd hy ?_))
    cases fw<;>cases k<;>rfl
   ·unfold xT
    refine bd hc (cf rfl (bd h1 ?_))
    cases fw<;>cases k<;>rfl
end Go.Proofs.TT
namespace Go.Proofs.TT
open Go Go.Sw
set_option maxRecDepth 100000
theorem zHz (x:zE) (h:x.Name.length<=65535) (h2:x.Payload.length<=65535):rM x=beN x.Role 1 1++(beN x.Version 4 4++(bl x.Name++(bl x.Payload++[]))):=by
 unfold rM bl
 rw [zAc _ h2,zAc _ h]
 simp [rD]
theorem aK {x:zE} (h:fD x):(rM x).length<=85:=by
 obtain ⟨_,_,_,_,h5,h6⟩:=h.f
 rw [zHz x (by omega) (by omega)]
 simp only [List.length_append,yY,v6,List.length_nil]
 omega
theorem zNa {x:zE} (h:fD x):qR x=some (rM x):=by
 obtain ⟨_,_,_,_,h5,h6⟩:=h.f
 unfold qR
 refine bd ((jM x).trans h) (cf rfl ?_)
 have h3:(rD (rD [] 1 x.Role) 4 x.Version).length=5:=by rw [u1,u1];rfl
 have h4:=bE (rD (rD [] 1 x.Role) 4 x.Version) x.Name
 refine bd (sS [] 1 _ (by omega) (by omega) (by simp)) ?_
 refine bd (sS _ 4 _ (by omega) (by omega) (by rw [u1];simp)) ?_
 refine bd (ckT (zE2 (by omega))) ?_
 refine bd (jN _ _ (by omega)) ?_
 exact bd (jN _ _ (by omega)) rfl
def hO (l:List zE):List UInt8:=beN (l.length:Int) 1 1++l.flatMap λx=>bl (rM x)
structure zBr (l:List zE):Prop where
 r:u5 l=some 0
 p:xT l=some 0
 h1:1<=l.length
 h8:l.length<=8
 im:∀ x∈l,fD x
theorem chOk {l:List zE} (hl:l.length<2 ^ 40) (h:u5 l=some 0):zBr l:=by
 obtain ⟨r,e,h1,_,h2⟩:=zIp l hl
 have:r=0:=Option.some.inj (e.symm.trans h)
 subst this
 obtain ⟨a,b,c⟩:=h2 rfl
 exact ⟨e,h1,a,b,c⟩
theorem jP.ok {l:List zE} (h:jP l):zBr l:=chOk (by have:=h.len;omega) (zF3 l h)
theorem zHj (l:List zE) (h:∀ x∈l,fD x):(l.flatMap λx=>bl (rM x)).length<=87*l.length:=by
 induction l with
 | nil=>simp
 | cons x l ih=>
  have h1:=aK (h x (by simp))
  have h2:=ih λy hy=>h y (by simp [hy])
  simp only [List.flatMap_cons,List.length_append,v6,List.length_cons]
  omega
theorem iD {l:List zE} (h:zBr l):8<=(hO l).length/\(hO l).length<=697:=by
 have h1:=zHj l h.im
 have h8:=h.h8
 refine ⟨?_,by unfold hO;rw [List.length_append,yY];omega⟩
 obtain ⟨x,l',rfl⟩:∃ x l',l=x :: l':=by
  cases l with
  | nil=>exact absurd h.h1 (by decide)
  | cons x l'=>exact ⟨x,l',rfl⟩
 have:=(zEb x).1
 unfold hO
 simp only [List.flatMap_cons,List.length_append,v6,yY]
 omega
theorem zLq {l:List zE} {i:Nat} (hi:i<l.length):((l.take (i+1)).flatMap λx=>bl (rM x))=((l.take i).flatMap λx=>bl (rM x))++bl (rM l[i]):=by
 rw [List.take_add_one,List.flatMap_append]
 simp [hi]
theorem zMz {l:List zE} (h:∀ x∈l,fD x) (i:Nat):((l.take i).flatMap λx=>bl (rM x)).length<=87*l.length:=by
 have:=zHj (l.take i) λx hx=>h x (List.mem_of_mem_take hx)
 have h2:(l.take i).length<=l.length:=by simp;omega
 omega
theorem zT4 {l:List zE} (h:zBr l):sA l=some (hO l):=by
 have h8:=h.h8
 unfold sA
 refine bd h.p (cf rfl (bd (wU [] 1 _ (by omega) (by omega) (by simp)) ?_))
 refine bd (a:=hO l) (yM l.length (λi=>(beN (l.length:Int) 1 1++((l.take i).flatMap λx=>bl (rM x)),(i:Int))) (by simp) (λi hi=>?_) ?_ (wK (by omega))) ?_
 ·have hx:=h.im _ (List.getElem_mem hi)
  have ht:=zMz h.im i
  unfold sJ
  refine ct (by simp;omega) (bd (yZ hi) (bd (zNa hx) (bd (wB _ _ ?_ (by have:=aK hx;omega)) ?_)))
  ·rw [List.length_append,yY];omega
  ·rw [vU (by omega),zLq hi,List.append_assoc]
 ·unfold sJ
  refine cf (by simp) ?_
  rw [List.take_length]
  rfl
 ·rfl
theorem zWc {x:zE} (h:fD x):nN (rM x)=some (x,0):=by
 obtain ⟨a1,a2,a3,a4,a5,a6⟩:=h.f
 have hle:=aK h
 unfold nN
 obtain ⟨r,g,e⟩:=zE8 (rM x) (by omega)
 refine bd e ?_
 rw [zHz x (by omega) (by omega)] at g
 obtain ⟨r1,g,e⟩:=rdU (k:=1) g (by omega) (by omega) (by omega) (by omega) (by omega)
 refine bd e ?_
 obtain ⟨r2,g,e⟩:=rdU (k:=4) g (by omega) (by omega) (by omega) (by omega) (by omega)
 refine bd e ?_
 obtain ⟨r3,g,e⟩:=zKm (k:=12) g (by omega) (by omega)
 refine bd e ?_
 obtain ⟨r4,g,e⟩:=zKm (k:=64) g (by omega) (by omega)
 refine bd e ?_
 have hc:uL (zE.mk x.Role x.Name x.Version x.Payload)=some 0:=(jM x).trans h
 exact bd (bd (rdE g) (cf rfl (bd hc rfl))) rfl
theorem zK5 (b:List UInt8) (hb:b.length<2 ^ 30):∀ (m:List zE) (l:List zE) (r:RS) (fuel:Nat),m.length<fuel->(∀ x∈m,fD x)->l.length+m.length<=8->87<=b.length∨(∀ x∈m,(rM x).length<=b.length)->Rd r (m.flatMap λx=>bl (rM x)) ->
  ∃ r',Rd r' []/\zV (wJ b) fuel (l,(m.length:Int),r.W.b_,r.W.at_,r.W.e_)=some (.inr (l++m,r'.W.b_,r'.W.at_,r'.W.e_))
 | [],l,r,f+1,_,_,_,_,g=>by
  refine ⟨r,g,?_⟩
  simp only [zV]
  have:wJ b (l,(([]:List zE).length:Int),r.W.b_,r.W.at_,r.W.e_)=some (.inr (.inr (l,r.W.b_,r.W.at_,r.W.e_))):=by
   unfold wJ
   exact bd (cf rfl rfl) (cf rfl rfl)
  rw [this,List.append_nil]
 | x :: m,l,r,f+1,hf,hm,h8,hb2,g=>by
  have hx:=hm x (by simp)
  have hle:=aK hx
  simp only [List.length_cons] at hf h8
  have g':Rd r (bl (rM x)++(m.flatMap λx=>bl (rM x))):=g.cast (by simp)
  have hxb:(rM x).length<=b.length:=by
   rcases hb2 with h | h
   ·omega
   ·exact h x (by simp)
  obtain ⟨r1,g1,e1⟩:=zKm (k:=b.length) g' (by omega) hxb
  obtain ⟨r2,g2,e2⟩:=zK5 b hb m (l++[x]) r1 f (by omega) (λy hy=>hm y (by simp [hy])) (by simp;omega) (by
   rcases hb2 with h | h
   ·exact .inl h
   ·exact .inr λy hy=>h y (by simp [hy])) g1
  refine ⟨r2,g2,?_⟩
  simp only [zV]
  have:wJ b (l,((x :: m).length:Int),r.W.b_,r.W.at_,r.W.e_)=some (.inl (l++[x],(m.length:Int),r1.W.b_,r1.W.at_,r1.W.e_)):=by
   unfold wJ
   refine bd (a:=(true,r.W.b_,r.W.at_,r.W.e_)) (ct (by simp) (bd (zFv g) rfl)) (ct rfl ?_)
   refine bd e1 (bd (zWc hx) (cf rfl (bd (yJ (by simp;omega)) ?_)))
   rw [List.length_cons,xH (by omega) (by omega),show (((m.length+1:Nat):Int) - 1)=(m.length:Int) by omega]
  rw [this]
  simp only
  rw [e2,List.append_assoc]
  rfl
theorem zI0 {l:List zE}:∀ x∈l,(rM x).length<=(hO l).length:=by
 intro x hx
 unfold hO
 rw [List.length_append]
 have:(bl (rM x)).length<=(l.flatMap λx=>bl (rM x)).length:=by
  induction l with
  | nil=>cases hx
  | cons y l ih=>
   rw [List.flatMap_cons,List.length_append]
   rcases List.mem_cons.1 hx with rfl | hx
   ·omega
   ·have:=ih hx;omega
 rw [v6] at this
 omega
theorem zTf {l:List zE} (h:zBr l):vA (hO l)=some (l,0):=by
 have hl:=iD h
 have h8:=h.h8
 unfold vA
 obtain ⟨r,g,e⟩:=zE8 (hO l) (by omega)
 refine bd e ?_
 obtain ⟨r1,g,e⟩:=rdU (k:=1) (n:=(l.length:Int)) (r:=r) (rest:=l.flatMap λx=>bl (rM x)) g (by omega) (by omega) (by omega) (by omega) (by omega)
 refine bd e ?_
 obtain ⟨r2,g2,e2⟩:=zK5 (hO l) (by omega) l [] r1 FU (wK (by omega)) h.im (by simpa using h8) (.inr zI0) g
 refine bd e2 ?_
 exact bd (bd (rdE g2) (cf rfl (bd h.p rfl))) (cf rfl rfl)
end Go.Proofs.TT
namespace Go.Proofs.TT
open Go Go.Sw
set_option maxRecDepth 100000
theorem zU8:uS 1=some ⟨[bnk 20,[]],0⟩:=by decide +kernel
theorem zVc:uS 2=some ⟨[[],bnk 32],0⟩:=by decide +kernel
theorem zVh:uS 3=some ⟨[bnk 20,bnk 32],0⟩:=by decide +kernel
theorem zLz (active:Int) (h1:1<=active) (h3:active<=3):uS active=some (zMt active):=by
 rcases act3 h1 h3 with rfl | rfl | rfl
 ·exact zU8
 ·exact zVc
 ·exact zVh
def sb (c0 c1:Bool):Int:=(if c0 then 1 else 0)+(if c1 then 2 else 0)
theorem ract (b0 b1:List (List UInt8)) (u:Int) (c0 c1:Bool) (h0:((b0.length:Int)==16)=c0) (h1:((b1.length:Int)==16)=c1):u0 ⟨[b0,b1],u⟩=some (sb c0 c1):=by
 unfold u0
 refine bd (a:=sb c0 c1) ?_ rfl
 refine yM (x:=((0:Int),(0:Int))) 2 (λi=>match i with | 0=>((0:Int),(0:Int)) | 1=>(sb c0 false,1) | _=>(sb c0 c1,2)) rfl (λi hi=>?_) ?_ (wK (by omega))
 ·have:i=0∨i=1:=by omega
  rcases this with rfl | rfl
  ·show vJ _ (0,0)=some (.inl (sb c0 false,1))
   unfold vJ
   refine ct rfl ?_
   refine bd (a:=sb c0 false) (bd (a:=c0) (ct rfl (bd (a:=b0) rfl (by rw [h0]))) ?_) rfl
   cases c0<;>rfl
  ·show vJ _ (sb c0 false,1)=some (.inl (sb c0 c1,2))
   unfold vJ
   refine ct rfl ?_
   refine bd (a:=sb c0 c1) (bd (a:=c1) (ct rfl (bd (a:=b1) rfl (by rw [h1]))) ?_) rfl
   cases c0<;>cases c1<;>rfl
 ·rfl
theorem zVb (b0 b1:List (List UInt8)) (u:Int) (c0 c1:Bool) (h0:((b0.length:Int)==16)=c0) (h1:((b1.length:Int)==16)=c1):vN ⟨[b0,b1],u⟩ 0=some c0/\vN ⟨[b0,b1],u⟩ 1=some c1:=by
 have h:=ract b0 b1 u c0 c1 h0 h1
 unfold vN
 constructor
 ·refine bd h ?_
  cases c0<;>cases c1<;>rfl
 ·refine bd h ?_
  cases c0<;>cases c1<;>rfl
theorem zJ7 (r:zF) (b0 b1:List (List UInt8)) (hb:r.Banks=[b0,b1]) (l0:b0.length<=16) (l1:b1.length<=16) (h0:∀ x∈b0,x.length<=32) (h1:∀ x∈b1,x.length<=32):qV r=some (b0,b1,r.Updates):=by
 unfold qV
 rw [hb]
 refine ct rfl ?_
 refine bd (a:=b0) rfl ?_
 refine bd (a:=b0) ?_ ?_
 ·refine yM b0.length (λi=>(b0.take i,(i:Int))) (by simp) (λi hi=>?_) ?_ (wK (by omega))
  ·unfold pH
   refine ct (dlt hi) ?_
   refine bd (yZ hi) ?_
   refine bd (yJ (by have:=h0 _ (List.getElem_mem hi);simp;omega)) ?_
   refine bd (yJ (by simp;omega)) ?_
   rw [vU (show i<2 ^ 40 by omega),List.take_add_one]
   simp [hi]
  ·unfold pH
   refine cf (dge (Nat.le_refl _)) ?_
   simp
 refine ct rfl ?_
 refine bd (a:=b1) rfl ?_
 refine bd (a:=(b1,b0)) ?_ ?_
 ·refine yM b1.length (λi=>(b1.take i,(i:Int),b0)) (by simp) (λi hi=>?_) ?_ (wK (by omega))
  ·unfold rW
   refine ct (dlt hi) ?_
   refine bd (yZ hi) ?_
   refine bd (yJ (by have:=h1 _ (List.getElem_mem hi);simp;omega)) ?_
   refine bd (yJ (by simp;omega)) ?_
   rw [vU (show i<2 ^ 40 by omega),List.take_add_one]
   simp [hi]
  ·unfold rW
   refine cf (dge (Nat.le_refl _)) ?_
   simp
 exact cf rfl rfl
end Go.Proofs.TT
namespace Go.Proofs.TT
open Go Go.Sw
set_option maxRecDepth 100000
theorem zEn (b:List UInt8) (hb:b.length<2 ^ 40):xB ((0:Nat):Int) b=some (cG b):=zK7 b hb
theorem zEf (b:List UInt8) (hb:b.length<2 ^ 40):xB ((1:Nat):Int) b=some (sha b):=zDb b hb
theorem zD9 (r:zF) (active:Int) (e:zB) (hr:zE5 active r) (he:EvGood e active) (hk:e.Kind≠5):Def (sR r 0 e.Register e.Digests) (λx=>x=(ext active e r,0)):=by
 obtain ⟨⟨b0,b1,hb,l0,l1,m0,m1⟩⟩:=hr
 obtain ⟨r0,r1,_,dl,f0,f1⟩:=he
 obtain ⟨bs,u⟩:=r
 simp only at hb
 subst hb
 have l0':b0.length<=16:=by rw [l0];split<;>omega
 have l1':b1.length<=16:=by rw [l1];split<;>omega
 unfold Fit at f0 f1
 have f0':((e.Digests.getD 0 []).length:Int)<=32:=by rw [f0];split<;>decide
 have f1':((e.Digests.getD 1 []).length:Int)<=32:=by rw [f1];split<;>decide
 have g0:∀ d∈e.Digests,d.length<=32:=by
  intro d hd
  obtain ⟨i,hi,rfl⟩:=List.mem_iff_getElem.mp hd
  have hi2:i=0∨i=1:=by omega
  rcases hi2 with rfl | rfl
  ·have:(e.Digests.getD 0 [])=e.Digests[0]:=by simp [hi]
   rw [<- this]
   omega
  ·have:(e.Digests.getD 1 [])=e.Digests[1]:=by simp [hi]
   rw [<- this]
   omega
 have i0:idx e.Digests 0=some (e.Digests.getD 0 []):=zM7 (i:=0) (by omega)
 have i1:idx e.Digests 1=some (e.Digests.getD 1 []):=zM7 (i:=1) (by omega)
 obtain ⟨a0,a1⟩:=zVb b0 b1 u (uB active 0) (uB active 1) (by rw [l0];cases uB active 0<;>rfl) (by rw [l1];cases uB active 1<;>rfl)
 unfold sR
 refine Def.bd (P:=λb=>b=false) ?_ (λb hb=>?_)
 ·refine Def.c (λh=>by cases h) (λ_=>Def.c (λh=>by cases h) (λ_=>?_))
  refine Def.bd (P:=λb=>b=true) ?_ (λb hb=>?_)
  ·unfold rJ
   refine Def.bd (P:=λb=>b=true) ?_ (λb hb=>Def.s hb)
   refine Def.c (λ_=>Def.s ?_) (λh=>?_)
   ·rw [decide_eq_true_iff];omega
   ·have:=dF h;omega
  subst hb
  refine Def.c (λh=>by cases h) (λ_=>Def.s ?_)
  simp;omega
 subst hb
 refine Def.c (λh=>by cases h) (λ_=>?_)
 refine Def.bd (P:=λn=>n=0) ?_ (λn hn=>?_)
 ·unfold o7
  refine Def.bd (P:=λb=>b=false) (Def.s rfl) (λb hb=>?_)
  subst hb
  refine Def.c (λh=>by cases h) (λ_=>?_)
  have e14:(e.Register==14)=false:=by simp;omega
  have e15:(e.Register==15)=false:=by simp;omega
  rw [e14,e15]
  exact Def.s rfl
 subst hn
 refine Def.c (λh=>by cases h) (λ_=>?_)
 refine Def.bd (P:=λr=>r=.inr ()) ?_ (λr hr=>?_)
 ·refine Def.loop (λs=>s=0∨s=1∨s=2) (λs=>2 - s.toNat) (λs hs=>?_) (.inl rfl) (by simp)
  unfold nC
  refine Def.c (λh=>?_) (λh=>Def.s rfl)
  rcases hs with rfl | rfl | rfl
  ·refine Def.bd (P:=λd=>d=e.Digests.getD 0 []) (Def.of i0 rfl) (λd hd=>?_)
   refine Def.bd (P:=λb=>b=false) ?_ (λb hb=>?_)
   ·refine Def.bd (P:=λb=>b=uB active 0) (Def.of a0 rfl) (λb hb=>?_)
    subst hb
    refine Def.c (λh=>Def.s ?_) (λ_=>Def.s rfl)
    have hh:uB active 0=false:=by simpa using h
    rw [if_neg (by show ¬ (e.Kind≠5/\uB active 0=true);rw [hh];simp)] at f0
    rw [decide_eq_false_iff_not,hd];omega
   subst hb
   exact Def.s ⟨.inr (.inl rfl),by decide⟩
  ·refine Def.bd (P:=λd=>d=e.Digests.getD 1 []) (Def.of i1 rfl) (λd hd=>?_)
   refine Def.bd (P:=λb=>b=false) ?_ (λb hb=>?_)
   ·refine Def.bd (P:=λb=>b=uB active 1) (Def.of a1 rfl) (λb hb=>?_)
    subst hb
    refine Def.c (λh=>Def.s ?_) (λ_=>Def.s rfl)
    have hh:uB active 1=false:=by simpa using h
    rw [if_neg (by show ¬ (e.Kind≠5/\uB active 1=true);rw [hh];simp)] at f1
    rw [decide_eq_false_iff_not,hd];omega
   subst hb
   exact Def.s ⟨.inr (.inr rfl),by decide⟩
  ·have:=dT h;omega
 subst hr
 refine Def.bd (P:=λr=>r=.inr ()) ?_ (λr hr=>?_)
 ·refine Def.loop (λs=>s=0∨s=1∨s=2) (λs=>2 - s.toNat) (λs hs=>?_) (.inl rfl) (by simp)
  unfold nD
  refine Def.c (λh=>?_) (λh=>Def.s rfl)
  rcases hs with rfl | rfl | rfl
  ·refine Def.bd (P:=λd=>d=e.Digests.getD 0 []) (Def.of i0 rfl) (λd hd=>?_)
   refine Def.bd (P:=λb=>b=false) ?_ (λb hb=>?_)
   ·refine Def.bd (P:=λb=>b=uB active 0) (Def.of a0 rfl) (λb hb=>?_)
    subst hb
    refine Def.c (λh=>?_) (λ_=>Def.s rfl)
    refine Def.bd (P:=λd=>d=siz 0) (Def.of (kL 0) rfl) (λz hz=>Def.s ?_)
    rw [if_pos ⟨hk,h⟩] at f0
    rw [hd,hz];simp;exact f0
   subst hb
   exact Def.s ⟨.inr (.inl rfl),by decide⟩
  ·refine Def.bd (P:=λd=>d=e.Digests.getD 1 []) (Def.of i1 rfl) (λd hd=>?_)
   refine Def.bd (P:=λb=>b=false) ?_ (λb hb=>?_)
   ·refine Def.bd (P:=λb=>b=uB active 1) (Def.of a1 rfl) (λb hb=>?_)
    subst hb
    refine Def.c (λh=>?_) (λ_=>Def.s rfl)
    refine Def.bd (P:=λd=>d=siz 1) (Def.of (kL 1) rfl) (λz hz=>Def.s ?_)
    rw [if_pos ⟨hk,h⟩] at f1
    rw [hd,hz];simp;exact f1
   subst hb
   exact Def.s ⟨.inr (.inr rfl),by decide⟩
  ·have:=dT h;omega
 subst hr
 refine Def.bd (P:=λx=>x=(b0,b1,u)) (Def.of (zJ7 _ b0 b1 rfl l0' l1' m0 m1) rfl) (λx hx=>?_)
 subst hx
 obtain ⟨rn,hrn⟩:=Int.eq_ofNat_of_zero_le r0
 have one:∀ (a:Nat) (bk:List (List UInt8)) (f:List UInt8->List UInt8) (hbk:idx [b0,b1] (a:Int)=some bk) (h2:a<2) (h16:bk.length=16) (mm:∀ x∈bk,x.length<=32) (hf:∀ z,z.length<2 ^ 40->xB (a:Int) z=some (f z)),
   Def ((idx [b0,b1] (a:Int)).bind λv=>(idx v e.Register).bind λw=>(yS 1 [] w).bind λw'=>(idx e.Digests (a:Int)).bind λd=>(yS 1 w' d).bind λz=>(xB (a:Int) z).bind λs=>(ixN bk.length e.Register).bind λj=>(sY bk j s).bind λl=>some l)
    (λb=>b=upR true bk e.Register (λx=>f (x++e.Digests.getD a []))):=by
  intro a bk f hbk h2 h16 mm hf
  rw [hrn]
  refine Def.bd (P:=λv=>v=bk) (Def.of hbk rfl) (λv hv=>?_)
  subst hv
  have:=zHm mm rn
  refine Def.bd (P:=λx=>x=v.getD rn []) (Def.of (zM7 (by omega)) rfl) (λx hx=>?_)
  subst hx
  refine Def.bd (Def.app (by simp only [List.length_nil];omega)) (λy hy=>?_)
  rw [List.nil_append] at hy
  subst hy
  have:=zHm g0 a
  refine Def.bd (P:=λd=>d=e.Digests.getD a []) (Def.of (zM7 (by omega)) rfl) (λd hd=>?_)
  subst hd
  refine Def.bd (Def.app (by omega)) (λz hz=>?_)
  have hzl:z.length<2 ^ 40:=by rw [hz,List.length_append];omega
  refine Def.bd (P:=λs=>s=f z) (Def.of (hf z hzl) rfl) (λs hs=>?_)
  refine Def.bd (Def.ixN (by omega) (by omega)) (λj hj=>?_)
  refine Def.bd (Def.upd hj.2) (λq hq=>Def.s ?_)
  rw [hq,hj.1,hs,hz]
  rfl
 refine Def.bd (P:=λb=>b=upR (uB active 0) b0 e.Register (λx=>cG (x++e.Digests.getD 0 []))) ?_ (λc0 hc0=>?_)
 ·refine Def.bd (P:=λb=>b=uB active 0) (Def.of a0 rfl) (λb hb=>?_)
  subst hb
  refine Def.c (λh=>?_) (λh=>Def.s (by rw [h];rfl))
  rw [if_pos h] at l0
  rw [h]
  exact one 0 b0 cG rfl (by omega) l0 m0 zEn
 refine Def.bd (P:=λb=>b=upR (uB active 1) b1 e.Register (λx=>sha (x++e.Digests.getD 1 []))) ?_ (λc1 hc1=>?_)
 ·refine Def.bd (P:=λb=>b=uB active 1) (Def.of a1 rfl) (λb hb=>?_)
  subst hb
  refine Def.c (λh=>?_) (λh=>Def.s (by rw [h];rfl))
  rw [if_pos h] at l1
  rw [h]
  exact one 1 b1 sha rfl (by omega) l1 m1 zEf
 exact Def.s (by rw [hc0,hc1];rfl)
end Go.Proofs.TT
namespace Go.Proofs.TT
open Go Go.Sw
set_option maxRecDepth 100000
theorem zE9 (on:Bool) (active:Int) (data:List UInt8) (hd:data.length<2 ^ 40) (step:(Int×List (List UInt8))->Option ((Int×List (List UInt8)) ⊕ List (List UInt8)))
  (h0:∀ v,step (0,v)=((bif (on&&uB active 0) then ((xB 0 data).bind λs=>(ixN 2 0).bind λj=>(sY v j s).bind λw=>some w) else some v:Option (List (List UInt8))).bind λw=>some (.inl (1,w))))
  (h1:∀ v,step (1,v)=((bif (on&&uB active 1) then ((xB 1 data).bind λs=>(ixN 2 1).bind λj=>(sY v j s).bind λw=>some w) else some v:Option (List (List UInt8))).bind λw=>some (.inl (2,w))))
  (h2:∀ v,step (2,v)=some (.inr v)):zV step FU (0,[[],[]])=some (dgE active on data):=by
 unfold dgE
 refine two (b:=(1,[if (on&&uB active 0)=true then cG data else [],[]])) (c:=(2,[if (on&&uB active 0)=true then cG data else [],if (on&&uB active 1)=true then sha data else []])) ?_ ?_ (h2 _)
 ·rw [h0]
  refine bd (a:=[if (on&&uB active 0)=true then cG data else [],[]]) ?_ rfl
  refine (zJa (a:=0) rfl (by omega) (zEn data hd)).trans ?_
  cases (on&&uB active 0)<;>rfl
 ·rw [h1]
  refine bd (a:=[if (on&&uB active 0)=true then cG data else [],if (on&&uB active 1)=true then sha data else []]) ?_ rfl
  refine (zJa (a:=1) rfl (by omega) (zEf data hd)).trans ?_
  cases (on&&uB active 1)<;>rfl
theorem dV {α:Type} {a b:Bool} {x:Option Bool} {f:Bool->Option α} {r:Option α} (hx:x=some b) (h:f (a&&b)=r):(bif a then x else some false).bind f=r:=by
 cases a
 ·exact h
 ·subst hx;exact h
theorem zA6 (reg kind active:Int) (data:List UInt8) (hd:data.length<2 ^ 40):uR reg kind active data=some (mkE reg kind active data):=by
 unfold uR mkE
 refine bd (a:=data) (by unfold bytes_Clone;exact ct (zE2 (by omega)) rfl) ?_
 refine bd (zE9 (kind != 5) active data hd _ (λv=>?_) (λv=>?_) (λv=>?_)) (bd (ckT rfl) rfl)
 ·unfold oH
  refine ct rfl ?_
  refine congrArg (λo:Option (List (List UInt8))=>o.bind _) ?_
  exact dV (bd (ckT rfl) rfl) rfl
 ·unfold oH
  refine ct rfl ?_
  refine congrArg (λo:Option (List (List UInt8))=>o.bind _) ?_
  exact dV (bd (ckT rfl) rfl) rfl
 ·unfold oH
  exact cf rfl rfl
theorem zDu (x:zE) (active:Int) (h:fD x):oI x active=some (dgE active true (rM x)):=by
 have hl:=zEb x
 unfold oI
 refine bd (zNa h) ?_
 have hp:decide (0<((rM x).length:Int))=true:=by simp;omega
 refine bd (zE9 true active (rM x) (by omega) _ (λv=>?_) (λv=>?_) (λv=>?_)) (bd (ckT rfl) rfl)
 ·unfold sW
  refine ct rfl ?_
  refine congrArg (λo:Option (List (List UInt8))=>o.bind _) ?_
  rw [hp]
  exact dV (bd (ckT rfl) rfl) rfl
 ·unfold sW
  refine ct rfl ?_
  refine congrArg (λo:Option (List (List UInt8))=>o.bind _) ?_
  rw [hp]
  exact dV (bd (ckT rfl) rfl) rfl
 ·unfold sW
  exact cf rfl rfl
theorem zNd {r:Int} (h1:1<=r) (h4:r<=4):r=1∨r=2∨r=3∨r=4:=by omega
theorem zKh {r:Int} (h1:1<=r) (h4:r<=4):wN r=some (rgR r):=by
 rcases zNd h1 h4 with rfl | rfl | rfl | rfl<;>rfl
theorem iT (x:zE) (active:Int) (h:fD x) (h4:x.Role≠4):vT x active=some (imE active x):=by
 obtain ⟨a1,a2,a3,a4,a5,a6⟩:=h.f
 have hd:=zA8 20 x.Version.toNat
 unfold vT imE lbl
 refine bd (a:=false) (bd ((jM x).trans h) (cf rfl (congrArg some (by rw [beq_eq_false_iff_ne];exact h4)))) (cf rfl ?_)
 refine bd (zKh a1 a2) (bd (zDu x active h) (bd (ckT (zE2 (by simp;omega))) ?_))
 refine bd (a:=decF 20 x.Version.toNat) (by unfold strconv_Itoa;exact ct (by simp;omega) rfl) ?_
 refine bd (ckT (zE2 (by simp only [List.length_append,List.length_cons,List.length_nil];omega))) (bd (ckT (zE2 (by simp only [List.length_append,List.length_cons,List.length_nil];omega))) rfl)
theorem zAl {active role:Int} {l:List zE} {i:Nat} (hi:i<l.length):evR active role (l.take (i+1))=evR active role (l.take i)++(if l[i].Role=role then (if role=4 then (zBx l[i]).map (mkE 9 3 active) else [imE active l[i]]) else []):=by
 unfold evR
 rw [List.take_add_one,List.flatMap_append]
 simp [hi]
theorem tJ {active role:Int} {l:List zE} {i:Nat} (hi:i<l.length) (h:l[i].Role≠role):evR active role (l.take (i+1))=evR active role (l.take i):=by
 rw [zAl hi,if_neg h,List.append_nil]
theorem zCv {active role:Int} {l:List zE} {i:Nat} (hi:i<l.length) (h:l[i].Role=role) (h4:role≠4):evR active role (l.take (i+1))=evR active role (l.take i)++[imE active l[i]]:=by
 rw [zAl hi,if_pos h,if_neg h4]
theorem zL8 {active:Int} {l:List zE} {i:Nat} (hi:i<l.length) (h:l[i].Role=4):evR active 4 (l.take (i+1))=evR active 4 (l.take i)++(zBx l[i]).map (mkE 9 3 active):=by
 rw [zAl hi,if_pos h,if_pos rfl]
theorem zF1 (active:Int) (x:zE) (hx:x.Role=4) (L:List (List UInt8)) (hl:L.length<=4) (h8:∀ l∈L,l.length<=8) (a b c d e:List zB) (he:e.length<=100) :
  zV (tZ active x L) FU (0,a,b,c,d,e)=some (a,b,c,d,e++L.map (mkE 9 3 active)):=by
 refine yM L.length (λi=>((i:Int),a,b,c,d,e++(L.map (mkE 9 3 active)).take i)) (by simp) (λi hi=>?_) ?_ (wK (by omega))
 ·have:=h8 _ (List.getElem_mem hi)
  have hreg:wN x.Role=some 9:=by rw [hx];rfl
  unfold tZ
  refine ct (dlt hi) (bd (yZ hi) ?_)
  refine bd (a:=(a,b,c,d,e++(L.map (mkE 9 3 active)).take (i+1))) (cf (by rw [hx];rfl) (cf (by rw [hx];rfl) (cf (by rw [hx];rfl) (cf (by rw [hx];rfl) (ct (by rw [hx];rfl) ?_))))) (by rw [vU (by omega)])
  refine bd hreg (bd (zA6 _ 3 active _ (by omega)) (bd (yJ (by simp;omega)) ?_))
  rw [List.take_add_one,List.append_assoc]
  simp [hi]
 ·unfold tZ
  refine cf (dge (Nat.le_refl _)) ?_
  rw [List.take_of_length_le (by simp)]
theorem zIt (active:Int) (out:List zB) (h:out.length<=100):zV (sB active) FU (out,0)=some (out++zBz active):=by
 refine yM 8 (λi=>(out++(zBz active).take i,(i:Int))) (by simp) (λi hi=>?_) ?_ (wK (by decide))
 ·unfold sB
  refine ct (by simp;omega) ?_
  refine bd (a:=4) rfl ?_
  refine bd (zA6 _ 2 active _ (by decide)) ?_
  refine bd (yJ (by simp [zBz];omega)) ?_
  rw [vU (by omega),List.take_add_one,List.append_assoc]
  have:(zBz active)[i]? = some (mkE (i:Int) 2 active [0,0,0,0]):=by simp [zBz,hi]
  rw [this]
  rfl
 ·unfold sB
  refine cf rfl ?_
  rw [List.take_of_length_le (by rw [zA3];omega)]
theorem zEg (l:List zE) (active:Int) (hl:l.length<=8) (him:∀ x∈l,oD x):zV (tY l active) FU (0,[],[],[],[],[])=some ([],evR active 1 l,evR active 2 l,evR active 3 l,evR active 4 l):=by
 refine yM l.length (λi=>((i:Int),[],evR active 1 (l.take i),evR active 2 (l.take i),evR active 3 (l.take i),evR active 4 (l.take i))) (by simp [evR]) (λi hi=>?_) ?_ (wK (by omega))
 ·have hg:=him _ (List.getElem_mem hi)
  have hle:=λrole=>zMi active role (l.take i) (λx hx=>him x (List.mem_of_mem_take hx))
  have hlt:(l.take i).length<=8:=by simp;omega
  have e1:=hle 1
  have e2:=hle 2
  have e3:=hle 3
  have e4:=hle 4
  have hw:IntKind.i64.wrap ((i:Int)+1)=((i+1:Nat):Int):=vU (by omega)
  unfold tY
  refine ct (dlt hi) ?_
  rcases zNd hg.r1 hg.r4 with hr | hr | hr | hr
  ·rw [zCv hi hr (by decide),tJ hi (show l[i].Role≠2 by omega),tJ hi (show l[i].Role≠3 by omega),tJ hi (show l[i].Role≠4 by omega)]
   refine bd (bd (yZ hi) (ct (by rw [hr];rfl) (bd (cf (by rw [hr];rfl) (ct (by rw [hr];rfl) (bd (iT _ active hg.ok (by omega)) (bd (yJ (by simp only [List.length_singleton];omega)) rfl)))) rfl))) (by rw [hw])
  ·rw [zCv hi hr (by decide),tJ hi (show l[i].Role≠1 by omega),tJ hi (show l[i].Role≠3 by omega),tJ hi (show l[i].Role≠4 by omega)]
   refine bd (bd (yZ hi) (ct (by rw [hr];rfl) (bd (cf (by rw [hr];rfl) (cf (by rw [hr];rfl) (ct (by rw [hr];rfl) (bd (iT _ active hg.ok (by omega)) (bd (yJ (by simp only [List.length_singleton];omega)) rfl))))) rfl))) (by rw [hw])
  ·rw [zCv hi hr (by decide),tJ hi (show l[i].Role≠1 by omega),tJ hi (show l[i].Role≠2 by omega),tJ hi (show l[i].Role≠4 by omega)]
   refine bd (bd (yZ hi) (ct (by rw [hr];rfl) (bd (cf (by rw [hr];rfl) (cf (by rw [hr];rfl) (cf (by rw [hr];rfl) (ct (by rw [hr];rfl) (bd (iT _ active hg.ok (by omega)) (bd (yJ (by simp only [List.length_singleton];omega)) rfl)))))) rfl))) (by rw [hw])
  ·rw [zL8 hi hr,tJ hi (show l[i].Role≠1 by omega),tJ hi (show l[i].Role≠2 by omega),tJ hi (show l[i].Role≠3 by omega)]
   obtain ⟨q1,q2,q3⟩:=zFu _ hg hr
   have hp:=hg.p
   have q4:=(zA5 l[i] (by omega)).trans q1
   refine bd (bd (yZ hi) (cf (by rw [hr];rfl) (bd q4 (bd (zF1 active l[i] hr _ q2 (λl hl=>(q3 l hl).2.1) _ _ _ _ _ (by omega)) rfl)))) (by rw [hw])
 ·unfold tY
  refine cf (dge (Nat.le_refl _)) ?_
  simp
theorem zFz (l:List zE) (active:Int) (h:jP l) (h1:1<=active) (h3:active<=3):vX l active=some (evs l active):=by
 have hl:=h.len
 have hb:=zG2 active l h.im
 have hsl:=zA3 active
 unfold vX
 refine bd (a:=false) (cf (by simp;omega) (cf (by simp;omega) (bd h.ok.p rfl))) (cf rfl ?_)
 refine bd (zEg l active hl h.im) ?_
 refine bd (yJ (by omega)) (bd (zIt active _ (by rw [List.length_append];omega)) (bd (yJ (by simp only [List.length_append];omega)) (bd (yJ (by simp only [List.length_append];omega)) ?_)))
 unfold evs
 simp only [List.append_assoc]
theorem zDk (active:Int):vX [] active=some []:=by
 unfold vX
 refine bd (a:=true) ?_ (ct rfl rfl)
 cases decide (active<1)<;>cases decide (3<active)<;>rfl
end Go.Proofs.TT
namespace Go.Proofs.TT
open Go Go.Sw
set_option maxRecDepth 100000
theorem wUO:mJ=xF:=rfl
theorem wBO:jE=xR:=rfl
structure zAf (c:Int) (is:List Int) (bs:List (List UInt8)):Prop where
 sh:tQ c=some (0,0,(is.length:Int),(bs.length:Int),true)
 c0:0<=c
 c1:c<256
 il:is.length<=2
 bl':bs.length<=2
 i:∀ x∈is,0<=x/\x<=1099511627776
 b:∀ x∈bs,x.length<=32
def rq (c:Int) (is:List Int) (bs:List (List UInt8)):zY:=zY.mk c [] [] is bs
def rqB (c:Int) (is:List Int) (bs:List (List UInt8)):List UInt8:=u8 c :: (is.flatMap (λn=>beN n 8 8)++(u8 (bs.length:Int) :: bs.flatMap bl))
def rqW (c:Int) (is:List Int) (bs:List (List UInt8)):List UInt8:=[83,87]++(beN ((4+(rqB c is bs).length:Nat):Int) 2 2++rqB c is bs)
theorem eW (is:List Int):(is.flatMap (λn=>beN n 8 8)).length=8*is.length:=by
 induction is with
 | nil=>rfl
 | cons x l ih=>simp only [List.flatMap_cons,List.length_append,yY,List.length_cons,ih];omega
theorem zCf (bs:List (List UInt8)) (h:∀ x∈bs,x.length<=32):(bs.flatMap bl).length<=34*bs.length:=by
 induction bs with
 | nil=>simp
 | cons x l ih=>
  have h1:=h x (by simp)
  have h2:=ih λy hy=>h y (by simp [hy])
  simp only [List.flatMap_cons,List.length_append,v6,List.length_cons];omega
theorem aI {c:Int} {is:List Int} {bs:List (List UInt8)} (h:zAf c is bs):2<=(rqB c is bs).length/\(rqB c is bs).length<=100:=by
 have h1:=eW is
 have h2:=zCf bs h.b
 have h3:=h.il
 have h4:=h.bl'
 unfold rqB
 simp only [List.length_cons,List.length_append]
 omega
theorem zCm {c:Int} {is:List Int} {bs:List (List UInt8)} (h:zAf c is bs):(rqW c is bs).length=4+(rqB c is bs).length:=by
 unfold rqW;simp only [List.length_append,yY,List.length_cons,List.length_nil];omega
theorem zKs {bs:List (List UInt8)} {i:Nat} (hi:i<bs.length):(bs.take (i+1)).flatMap bl=(bs.take i).flatMap bl++bl bs[i]:=by
 rw [List.take_add_one,List.flatMap_append]
 simp [hi]
theorem zKw {is:List Int} {i:Nat} (hi:i<is.length):(is.take (i+1)).flatMap (λn=>beN n 8 8)=(is.take i).flatMap (λn=>beN n 8 8)++beN is[i] 8 8:=by
 rw [List.take_add_one,List.flatMap_append]
 simp [hi]
theorem wrt {c:Int} {is:List Int} {bs:List (List UInt8)} (h:zAf c is bs):rC (rq c is bs)=some (rqW c is bs):=by
 have hB:=aI h
 have hil:=h.il
 have hbl:=h.bl'
 unfold rC
 refine bd (ckT rfl) ?_
 refine bd (a:=[83,87]) rfl ?_
 refine bd (a:=[83,87,0,0,u8 c]) rfl ?_
 refine bd (a:=[83,87,0,0,u8 c]) (uK (by unfold kS;exact cf rfl rfl)) ?_
 refine bd (a:=[83,87,0,0,u8 c]) (uK (by unfold kO;exact cf rfl rfl)) ?_
 refine bd (a:=[83,87,0,0,u8 c]++is.flatMap (λn=>beN n 8 8)) ?_ ?_
 ·refine yM is.length (λi=>([83,87,0,0,u8 c]++(is.take i).flatMap (λn=>beN n 8 8),(i:Int))) (by simp) (λi hi=>?_) ?_ (wK (by omega))
  ·unfold pL
   refine ct (dlt hi) (bd (yZ hi) ?_)
   rw [wUO]
   refine bd (wU _ 8 _ (by omega) (by omega) ?_) ?_
   ·rw [List.length_append,eW];simp;omega
   ·rw [zKw hi,List.append_assoc,vU (by omega)]
  ·unfold pL
   refine cf (dge (Nat.le_refl _)) ?_
   rw [List.take_length]
 refine bd (yJ (by rw [List.length_append,eW];simp;omega)) ?_
 refine bd (a:=(([83,87,0,0,u8 c]++is.flatMap (λn=>beN n 8 8))++[u8 (bs.length:Int)])++bs.flatMap bl) ?_ ?_
 ·refine yM bs.length (λi=>((([83,87,0,0,u8 c]++is.flatMap (λn=>beN n 8 8))++[u8 (bs.length:Int)])++(bs.take i).flatMap bl,(i:Int))) (by simp;rfl) (λi hi=>?_) ?_ (wK (by omega))
  ·have hx:=h.b _ (List.getElem_mem hi)
   have ht:=zCf (bs.take i) λx hx=>h.b x (List.mem_of_mem_take hx)
   have ht2:(bs.take i).length<=2:=by simp;omega
   unfold oC
   refine ct (dlt hi) (bd (yZ hi) ?_)
   rw [wBO]
   refine bd (wB _ _ ?_ (by omega)) ?_
   ·simp only [List.length_append,eW,List.length_cons,List.length_nil];omega
   ·rw [zKs hi,List.append_assoc,vU (by omega)]
  ·unfold oC
   refine cf (dge (Nat.le_refl _)) ?_
   rw [List.take_length]
 have e:(([83,87,0,0,u8 c]++is.flatMap (λn=>beN n 8 8))++[u8 (bs.length:Int)])++bs.flatMap bl=[83,87,0,0]++rqB c is bs:=by
  unfold rqB;simp
 rw [e]
 have el:(([83,87,0,0]:List UInt8)++rqB c is bs).length=4+(rqB c is bs).length:=by simp;omega
 refine bd (ckT (zE2 (by omega))) ?_
 refine bd (wU [] 2 _ (by omega) (by omega) (by simp)) ?_
 refine bd (ckT (zE2 (by omega))) ?_
 rw [el]
 unfold rqW cpA
 obtain ⟨a,b,hab⟩:∃ a b,beN ((4+(rqB c is bs).length:Nat):Int) 2 2=[a,b]:=⟨_,_,rfl⟩
 rw [hab]
 rfl
theorem chk {c:Int} {is:List Int} {bs:List (List UInt8)} (h:zAf c is bs):rH (rq c is bs)=some 0:=by
 have hB:=aI h
 have hil:=h.il
 have hbl:=h.bl'
 unfold rH
 refine bd h.sh (cf rfl ?_)
 refine bd (a:=true) (ct rfl (ct rfl (ct (by simp [rq]) (bd (a:=true) ?_ rfl)))) ?_
 ·unfold tN
  exact bd (ct (by simp [rq]) rfl) rfl
 refine bd (a:=true) (uK (by unfold kT;exact cf rfl rfl)) ?_
 refine bd (a:=true) (uK (by unfold kW;exact cf rfl rfl)) ?_
 refine bd (a:=true) ?_ (cf rfl ?_)
 ·refine yM is.length (λi=>(true,(i:Int))) rfl (λi hi=>?_) ?_ (wK (by omega))
  ·have hx:=h.i _ (List.getElem_mem hi)
   unfold pY
   refine ct (dlt hi) (bd (yZ hi) ?_)
   refine bd (a:=true) (ct rfl (ct (by simp;exact hx.1) (congrArg some (by simp;exact hx.2)))) ?_
   rw [vU (by omega)]
  ·unfold pY
   exact cf (dge (Nat.le_refl _)) rfl
 refine bd (a:=true) (uK (by unfold kF;exact cf rfl rfl)) ?_
 refine bd (a:=true) ?_ ?_
 ·refine yM bs.length (λi=>(true,(i:Int))) rfl (λi hi=>?_) ?_ (wK (by omega))
  ·have hx:=h.b _ (List.getElem_mem hi)
   unfold oG
   refine ct (dlt hi) (bd (yZ hi) ?_)
   refine bd (a:=true) (ct rfl (congrArg some (by simp;omega))) ?_
   rw [vU (by omega)]
  ·unfold oG
   exact cf (dge (Nat.le_refl _)) rfl
 have hw:=zCm h
 exact bd (a:=false) (cf rfl (bd (wrt h) (congrArg some (by simp;omega)))) (cf rfl rfl)
theorem zU3 {c:Int} {is:List Int} {bs:List (List UInt8)} (h:zAf c is bs):qW (rq c is bs)=some (rqW c is bs,0):=by
 unfold qW
 exact bd (chk h) (cf rfl (bd (wrt h) rfl))
theorem zOd {c:Int} {is:List Int} {bs:List (List UInt8)} (h:zAf c is bs):oO (rqW c is bs)=some (c,0):=by
 have hB:=aI h
 have hw:=zCm h
 obtain ⟨a,b,hab,hv⟩:=be2 (4+(rqB c is bs).length) (by omega)
 obtain ⟨t,ht⟩:∃ t,rqB c is bs=u8 c :: t:=⟨_,rfl⟩
 have e:rqW c is bs=83 :: 87 :: a :: b :: u8 c :: t:=by unfold rqW;rw [hab,ht];rfl
 unfold oO
 refine cf (by simp;omega) (cf (by simp;omega) ?_)
 rw [e]
 refine bd (a:=false) rfl (cf rfl ?_)
 refine bd (a:=a) rfl (bd (a:=b) rfl (ltk ?_))
 have hl2:((83 :: 87 :: a :: b :: u8 c :: t:List UInt8)).length=4+(rqB c is bs).length:=by rw [<- e];exact hw
 rw [zNb,<- hv,hl2]
 refine cf (by simp) (cf (by simp) ?_)
 refine bd (a:=u8 c) rfl ?_
 have h0:=h.c0
 have h1:=h.c1
 rw [zNh c h0 h1,xH (by omega) (by omega)]
theorem zSj {c:Int} {is:List Int} {bs:List (List UInt8)} (h:zAf c is bs):pA (rqW c is bs)=some (rq c is bs,0):=by
 have hB:=aI h
 have hw:=zCm h
 have hil:=h.il
 have hbl:=h.bl'
 unfold pA
 refine bd (zOd h) (cf rfl (bd h.sh (cf rfl ?_)))
 let body:=is.flatMap (λn=>beN n 8 8)++(u8 (bs.length:Int) :: bs.flatMap bl)
 have e:(rqW c is bs).drop 5=body:=by
  unfold rqW rqB
  obtain ⟨a,b,hab⟩:∃ a b,beN ((4+(u8 c :: (is.flatMap (λn=>beN n 8 8)++(u8 (bs.length:Int) :: bs.flatMap bl))).length:Nat):Int) 2 2=[a,b]:=⟨_,_,rfl⟩
  rw [hab];rfl
 have hsub:sub (rqW c is bs) 5 ((rqW c is bs).length:Int)=some body:=by
  have:=tA (l:=rqW c is bs) (a:=5) (b:=(rqW c is bs).length) (by omega) (Nat.le_refl _)
  rw [List.take_of_length_le (by simp),e] at this
  exact this
 have hbody:body.length<2 ^ 40:=by rw [<- e,List.length_drop];omega
 refine bd hsub ?_
 obtain ⟨r,g,e1⟩:=zE8 body hbody
 refine bd e1 ?_
 refine bd (a:=([],r.W.b_,r.W.at_,r.W.e_)) (uK (by unfold lA;exact cf rfl rfl)) ?_
 refine bd (a:=([],r.W.b_,r.W.at_,r.W.e_)) (uK (by unfold lM;exact cf rfl rfl)) ?_
 have l3:∀ (m acc:List Int) (v:Int) (r:RS) (fuel:Nat) (rest:List UInt8),m.length<fuel->Rd r (m.flatMap (λn=>beN n 8 8)++rest)->(∀ x∈m,0<=x/\x<=1099511627776)->0<=v->v+m.length=(is.length:Int)->acc.length<=2->(acc.length:Int)+m.length<=2 ->
   ∃ r',Rd r' rest/\zV (vD (is.length:Int)) fuel (v,acc,r.W.b_,r.W.at_,r.W.e_)=some (.inr (acc++m,r'.W.b_,r'.W.at_,r'.W.e_)):=by
  intro m
  induction m with
  | nil=>
   intro acc v r fuel rest hf g _ hv0 hv _ _
   obtain ⟨f,rfl⟩:∃ f,fuel=f+1:=⟨fuel - 1,by simp at hf;omega⟩
   refine ⟨r,g,?_⟩
   simp only [zV]
   have:vD (is.length:Int) (v,acc,r.W.b_,r.W.at_,r.W.e_)=some (.inr (.inr (acc,r.W.b_,r.W.at_,r.W.e_))):=by
    unfold vD
    exact cf (by simp at hv ⊢;omega) rfl
   rw [this,List.append_nil]
  | cons x m ih=>
   intro acc v r fuel rest hf g hm hv0 hv ha hb
   obtain ⟨f,rfl⟩:∃ f,fuel=f+1:=⟨fuel - 1,by simp at hf;omega⟩
   simp only [List.length_cons] at hf hv hb
   have hx:=hm x (by simp)
   have g':Rd r (beN x 8 8++(m.flatMap (λn=>beN n 8 8)++rest)):=g.cast (by simp)
   obtain ⟨r1,g1,e1⟩:=rdU (k:=8) g' (by omega) (by omega) hx.1 (by omega) (by omega)
   obtain ⟨r2,g2,e2⟩:=ih (acc++[x]) (v+1) r1 f rest (by omega) g1 (λy hy=>hm y (by simp [hy])) (by omega) (by omega) (by simp;omega) (by simp;omega)
   refine ⟨r2,g2,?_⟩
   simp only [zV]
   have:vD (is.length:Int) (v,acc,r.W.b_,r.W.at_,r.W.e_)=some (.inl (v+1,acc++[x],r1.W.b_,r1.W.at_,r1.W.e_)):=by
    unfold vD
    refine ct (by simp;omega) (bd e1 ?_)
    refine bd (a:=(false,r1.W.b_,r1.W.at_,r1.W.e_)) (bd (zFv g1) (ct rfl ?_)) (cf rfl ?_)
    ·rw [show decide (1099511627776<x)=false by simp;omega]
    ·refine bd (yJ (by simp;omega)) ?_
     rw [xH (by omega) (by omega)]
   rw [this]
   simp only
   rw [e2,List.append_assoc]
   rfl
 obtain ⟨r1,g1,e2⟩:=l3 is [] 0 r FU (u8 (bs.length:Int) :: bs.flatMap bl) (wK (by omega)) g h.i (by omega) (by omega) (by simp) (by simp;omega)
 refine bd e2 ?_
 obtain ⟨r2,g2,e3⟩:=rdBt g1 (by omega) (by omega)
 refine bd e3 ?_
 refine bd (a:=(false,r2.W.b_,r2.W.at_,r2.W.e_)) (bd (zFv g2) (ct rfl (bd (a:=true) ?_ rfl))) (cf rfl ?_)
 ·unfold tN
  exact bd (ct (by simp) rfl) rfl
 have l4:∀ (m acc:List (List UInt8)) (v:Int) (r:RS) (fuel:Nat),m.length<fuel->Rd r (m.flatMap bl)->(∀ x∈m,x.length<=32)->0<=v->v+m.length=(bs.length:Int)->acc.length<=2->(acc.length:Int)+m.length<=2 ->
   ∃ r',Rd r' []/\zV (vF (bs.length:Int)) fuel (v,acc,r.W.b_,r.W.at_,r.W.e_)=some (acc++m,r'.W.b_,r'.W.at_,r'.W.e_):=by
  intro m
  induction m with
  | nil=>
   intro acc v r fuel hf g _ hv0 hv _ _
   obtain ⟨f,rfl⟩:∃ f,fuel=f+1:=⟨fuel - 1,by simp at hf;omega⟩
   refine ⟨r,g,?_⟩
   simp only [zV]
   have:vF (bs.length:Int) (v,acc,r.W.b_,r.W.at_,r.W.e_)=some (.inr (acc,r.W.b_,r.W.at_,r.W.e_)):=by
    unfold vF
    exact cf (by simp at hv ⊢;omega) rfl
   rw [this,List.append_nil]
  | cons x m ih=>
   intro acc v r fuel hf g hm hv0 hv ha hb
   obtain ⟨f,rfl⟩:∃ f,fuel=f+1:=⟨fuel - 1,by simp at hf;omega⟩
   simp only [List.length_cons] at hf hv hb
   have hx:=hm x (by simp)
   have g':Rd r (bl x++m.flatMap bl):=g.cast (by simp)
   obtain ⟨r1,g1,e1⟩:=zKm (k:=1024) g' (by omega) (by omega)
   obtain ⟨r2,g2,e2⟩:=ih (acc++[x]) (v+1) r1 f (by omega) g1 (λy hy=>hm y (by simp [hy])) (by omega) (by omega) (by simp;omega) (by simp;omega)
   refine ⟨r2,g2,?_⟩
   simp only [zV]
   have:vF (bs.length:Int) (v,acc,r.W.b_,r.W.at_,r.W.e_)=some (.inl (v+1,acc++[x],r1.W.b_,r1.W.at_,r1.W.e_)):=by
    unfold vF
    refine ct (by simp;omega) (bd e1 (bd (yJ (by simp;omega)) ?_))
    rw [xH (by omega) (by omega)]
   rw [this]
   simp only
   rw [e2,List.append_assoc]
   rfl
 obtain ⟨r3,g3,e4⟩:=l4 bs [] 0 r2 FU (wK (by omega)) g2 h.b (by omega) (by omega) (by simp) (by simp;omega)
 refine bd e4 ?_
 exact bd (rdE g3) (cf rfl rfl)
end Go.Proofs.TT
namespace Go.Proofs.TT
open Go Go.Sw
set_option maxRecDepth 100000
theorem sh1:tQ 1=some (0,0,1,0,true):=by decide +kernel
theorem sh6:tQ 6=some (0,0,1,2,true):=by decide +kernel
theorem rqS:zAf 1 [0] []:=⟨sh1,by decide,by decide,by decide,by decide,by simp,by simp⟩
theorem rqE {e:zB} {active:Int} (h:EvGood e active):zAf 6 [e.Register] e.Digests:=by
 have hl:=h.l
 refine ⟨by rw [sh6,hl];rfl,by decide,by decide,by simp,by omega,?_,?_⟩
 ·have:=h.r0;have:=h.r1
  simp;omega
 ·intro x hx
  have f0:=lQ h.f0
  have f1:=lQ h.f1
  match hd:e.Digests,hl with
  | [a,b],_=>
   rw [hd] at hx f0 f1
   simp only [List.mem_cons,List.not_mem_nil,or_false] at hx
   rcases hx with rfl | rfl
   ·exact f0
   ·exact f1
theorem rsp0:wP (zM.mk 0 [] [] [])=some [0,0,0,0]:=by decide +kernel
theorem rsd0:vM [0,0,0,0]=some (zM.mk 0 [] [] [],0):=by decide +kernel
def stS (s:zQ):zQ:=zQ.mk s.Seeds s.Auths s.Entropy s.Active (s.Resets+1) 0 s.Clock false (zF.mk [] 0) s.MaxCounter s.Indices s.Lockout s.Keys
def zJj (s:zQ) (v:yD):yD:=⟨true,v.Stopped,zMt s.Active,s.Clock,s.Orderly,v.Draws,v.Sessions,v.Objects,v.ReadLocks,v.WriteLocks⟩
def zIc (r:zF) (v:yD):yD:=⟨v.Started,v.Stopped,r,v.Clock,v.Safe,v.Draws,v.Sessions,v.Objects,v.ReadLocks,v.WriteLocks⟩
theorem Sst.S {s:zQ} (h:Sst s) (hr:s.Resets+1<2 ^ 30):Sst (stS s):=by
 obtain ⟨a,b,c,d,e,r0,r1,f,g,i,j,k,l,m⟩:=h
 exact ⟨a,b,c,d,e,by show 0<=s.Resets+1;omega,hr,rfl,g,rfl,j,k,l,m⟩
theorem zKx (s:zU) (c:Int) (is:List Int) (bs:List (List UInt8)):qC s (rq c is bs)=some true:=by
 unfold qC
 refine bd (a:=()) (uK (by unfold m9;exact cf rfl rfl)) ?_
 exact ct rfl rfl
theorem zHd {s s':zU} {c:Int} {is:List Int} {bs:List (List UInt8)} {e:Int} {i:List Int} {b n:List (List UInt8)} {out:List UInt8} (h:zAf c is bs) (hs:c=1∨s.Volatile.Started=true)
  (hp:rV s 0 (rq c is bs)=some (s',zM.mk e i b n)) (ho:wP (zM.mk e i b [])=some out):uP s 0 (rqW c is bs)=some (s',out):=by
 unfold uP
 refine bd (zSj h) (cf rfl ?_)
 refine bd (a:=(s',zM.mk e i b [])) ?_ (bd ho rfl)
 unfold mO
 refine bd (chk h) (cf rfl (bd (a:=false) rfl (cf rfl (bd (a:=false) ?_ (cf rfl ?_)))))
 ·rcases hs with rfl | hs
  ·exact cf rfl rfl
  ·rw [hs]
   show (bif (c != 1) then some false else some false)=some false
   cases (c != 1)<;>rfl
 refine bd (zKx s c is bs) (cf rfl (ct rfl (bd hp rfl)))
theorem zH9 (st:zQ) (v:yD) (hs:Sst st) (h1:v.Started=false) (h2:v.Stopped=false):uP ⟨st,v⟩ 0 (rqW 1 [0] [])=some (⟨stS st,zJj st v⟩,[0,0,0,0]):=by
 have hr:=hs.r0;have hr1:=hs.r1
 refine zHd rqS (.inl rfl) (b:=[]) (n:=[]) (i:=[]) (e:=0) ?_ rsp0
 unfold rV
 refine ct rfl (bd (a:=0) rfl (bd (a:=(⟨stS st,zJj st v⟩,0)) ?_ rfl))
 unfold lY
 refine bd (a:=false) (cf h1 (congrArg some h2)) (cf rfl (bd (a:=false) rfl (cf rfl (bd (a:=false) rfl (cf rfl (ct rfl ?_))))))
 refine bd (zLz st.Active hs.a0 hs.a3) ?_
 rw [xH (by simp only;omega) (by simp only;omega)]
 rfl
theorem zL0 (st:zQ) (v:yD) (e:zB) (active:Int) (h1:v.Started=true) (hr:zE5 active v.Registers) (he:EvGood e active) (hk:e.Kind≠5):uP ⟨st,v⟩ 0 (rqW 6 [e.Register] e.Digests)=some (⟨st,zIc (ext active e v.Registers) v⟩,[0,0,0,0]):=by
 refine zHd (rqE he) (.inr h1) (b:=[]) (n:=[]) (i:=[]) (e:=0) ?_ rsp0
 unfold rV
 refine cf rfl (cf rfl (cf rfl (bd (a:=true) rfl (ct rfl (bd (a:=(⟨st,zIc (ext active e v.Registers) v⟩,zM.mk 0 [] [] [])) ?_ rfl)))))
 unfold o4
 refine cf rfl (ct rfl (bd (a:=e.Register) rfl ?_))
 obtain ⟨x,hx,rfl⟩:=zD9 v.Registers active e hr he hk
 exact bd hx (cf rfl rfl)
variable {d:zC} {seq m:Nat} {st st':zQ} {vo vo':yD}
theorem Dv.commit_same (h:Dv d seq st vo m):uQ d ⟨st,vo'⟩=some (⟨d.Disk,⟨st,vo'⟩,d.On,d.Next⟩,0):=by
 unfold uQ
 refine bd (aU st h.sst) ?_
 refine bd (a:=.inr d) (bd (a:=u4 st) (by rw [h.s];exact aU st h.sst) (cf (by simp) rfl)) rfl
theorem Dv.vol (h:Dv d seq st vo m):Dv ⟨d.Disk,⟨st,vo'⟩,d.On,d.Next⟩ seq st vo' m:=⟨h.toDk,h.on,h.off,h.cut,rfl,h.nx⟩
theorem Dv.commit_new (h:Dv d seq st vo m) (hs:Sst st') (hq:seq+1<2 ^ 29) (hm:m+1<2 ^ 50):∃ d' seq',uQ d ⟨st',vo'⟩=some (d',0)/\Dv d' seq' st' vo' (m+1)/\seq'<=seq+1/\∀ a,2<=a->d'.Disk.Areas.getD a []=d.Disk.Areas.getD a []:=by
 have hn:=h.n;have hok:=h.ok;have hm0:=h.m0
 by_cases he:u4 st'=u4 st
 ·have hk:Dk d.Disk seq st' (m+1):=by
   refine ⟨h.ok,?_,hm,h.n,h.al,?_,hs⟩
   ·rw [Int.natCast_add];exact Int.le_trans hm0 (by omega)
   ·rw [he];exact h.jr
  refine ⟨⟨d.Disk,⟨st',vo'⟩,d.On,d.Next⟩,seq,?_,⟨hk,h.on,h.off,h.cut,rfl,h.nx⟩,Nat.le_succ _,λ_ _=>rfl⟩
  unfold uQ
  refine bd (aU st' hs) ?_
  refine bd (a:=.inr d) (bd (a:=u4 st) (by rw [h.s];exact aU st h.sst) (cf (by simp [he]) rfl)) rfl
 ·have hl:=zD4 st' hs
  have hrl:=zAo (seq+1) (u4 st')
  have hlt:(seq+1) % 2<2:=Nat.mod_lt _ (by decide)
  have hw:=j9 d.Disk ((seq+1) % 2) (nM (seq+1) (u4 st')) h.ok h.off (by omega) (by omega) (by have:=h.al ((seq+1) % 2);omega)
  have hc:=h.noC
  have e:wrC d.Disk (d.Disk.Areas.getD ((seq+1) % 2) []) (nM (seq+1) (u4 st'))=nM (seq+1) (u4 st'):=by
   unfold wrC j2
   rw [if_neg (show ¬ (d.Disk.Writes+1=d.Disk.CutAt) from hc),if_neg hc,List.take_length,List.append_nil]
  rw [e,show cI d.Disk=0 from if_neg hc] at hw
  have hcm:=zB9 d.Disk (seq+1) (u4 st') (by omega) (by omega) (by omega) hw
  have hnx:=h.nx
  refine ⟨⟨iF d.Disk ((seq+1) % 2) (nM (seq+1) (u4 st')),⟨st',vo'⟩,d.On,d.Next+1⟩,seq+1,?_,⟨⟨⟨?_,?_,?_⟩,?_,hm,?_,?_,h.jr.next (by omega) hq (by omega),hs⟩,h.on,?_,h.cut,rfl,?_⟩,Nat.le_refl _,λa ha=>?_⟩
  ·unfold uQ
   refine bd (aU st' hs) ?_
   refine bd (a:=.inr ⟨iF d.Disk ((seq+1) % 2) (nM (seq+1) (u4 st')),d.State,d.On,d.Next+1⟩) (bd (a:=u4 st) (by rw [h.s];exact aU st h.sst) (ct (by simp [he]) ?_)) rfl
   refine bd (a:=(iF d.Disk ((seq+1) % 2) (nM (seq+1) (u4 st')),0)) (by rw [hnx];exact hcm) (cf rfl ?_)
   rw [xH (by omega) (by omega)]
  ·show (d.Disk.Areas.set _ _).length<=64;simp;omega
  ·show 0<=d.Disk.Writes+1;have:=hok.w0;omega
  ·show d.Disk.Writes+1<2 ^ 60;omega
  ·show d.Disk.Writes+1<=((m+1:Nat):Int);omega
  ·show (d.Disk.Areas.set _ _).length=8;simp [hn]
  ·exact zFm h.al (by omega) (by omega)
  ·show decide (isC d.Disk)=false;exact decide_eq_false h.noC
  ·show d.Next+1=((seq+1:Nat):Int)+1;omega
  ·exact getD_set_ne (by omega)
theorem Dv.send_same {out b:List UInt8} (h:Dv d seq st vo m) (hr:uP ⟨st,vo⟩ 0 b=some (⟨st,vo'⟩,out)):sG d 0 b=some (⟨d.Disk,⟨st,vo'⟩,d.On,d.Next⟩,out,0):=by
 have hr':uP d.State 0 b=some (⟨st,vo'⟩,out):=by rw [h.s];exact hr
 unfold sG
 refine bd (aW h.on h.off) ?_
 refine cf rfl ?_
 refine bd hr' ?_
 refine bd h.commit_same ?_
 exact cf rfl rfl
theorem Dv.send_new {out b:List UInt8} (h:Dv d seq st vo m) (hs:Sst st') (hq:seq+1<2 ^ 29) (hm:m+1<2 ^ 50) (hr:uP ⟨st,vo⟩ 0 b=some (⟨st',vo'⟩,out)):∃ d' seq',sG d 0 b=some (d',out,0)/\Dv d' seq' st' vo' (m+1)/\seq'<=seq+1/\∀ a,2<=a->d'.Disk.Areas.getD a []=d.Disk.Areas.getD a []:=by
 obtain ⟨d',seq',e,h1,h2,h3⟩:=h.commit_new (vo':=vo') hs hq hm
 refine ⟨d',seq',?_,h1,h2,h3⟩
 have hr':uP d.State 0 b=some (⟨st',vo'⟩,out):=by rw [h.s];exact hr
 unfold sG
 refine bd (aW h.on h.off) ?_
 refine cf rfl ?_
 refine bd hr' ?_
 refine bd e ?_
 exact cf rfl rfl
theorem zLb {d d':zC} {c:Int} {is:List Int} {bs:List (List UInt8)} {out:List UInt8} {r:zM} (h:zAf c is bs) (hs:sG d 0 (rqW c is bs)=some (d',out,0)) (hd:vM out=some (r,0)) (he:r.Err=0) (hc:(c==9)=false/\(c==11)=false/\(c==16)=false/\(c==12)=false) :
  ∀ L:yC,L.Device=d->sX L (rq c is bs)=some (r,0,yC.mk d' L.opened_):=by
 rintro L rfl
 obtain ⟨c1,c2,c3,c4⟩:=hc
 unfold sX
 refine bd (a:=(rqW c is bs,0)) (zU3 h) ?_
 refine cf rfl ?_
 refine bd (a:=(d',out,0)) hs ?_
 refine cf rfl ?_
 refine bd (a:=(r,0)) hd ?_
 refine bd (a:=0) (ct rfl (congrArg some he)) ?_
 refine cf rfl ?_
 refine bd (a:=false) (cf c1 (cf c2 (congrArg some c3))) ?_
 refine cf rfl ?_
 refine cf c4 ?_
 refine bd (a:=()) (uK (by unfold jS;exact cf rfl rfl)) ?_
 rfl
end Go.Proofs.TT
namespace Go.Proofs.TT
open Go Go.Sw
set_option maxRecDepth 100000
theorem zHe {e:zB} {active:Int} {b:List UInt8} (h:e.Digests=dgE active (e.Kind != 5) b):Fit e active 0/\Fit e active 1:=by
 unfold Fit
 rw [h]
 unfold dgE
 constructor
 ·show (((if ((e.Kind != 5)&&uB active 0)=true then cG b else []):List UInt8).length:Int)=if e.Kind≠5/\uB active 0=true then siz 0 else 0
  by_cases hk:e.Kind=5
  ·rw [if_neg (by simp [hk]),if_neg (λh=>h.1 hk)];rfl
  ·cases hb:uB active 0
   ·rw [if_neg (by simp),if_neg (λh=>by cases h.2)];rfl
   ·rw [if_pos (by simp [hk]),if_pos ⟨hk,rfl⟩,zDq];rfl
 ·show (((if ((e.Kind != 5)&&uB active 1)=true then sha b else []):List UInt8).length:Int)=if e.Kind≠5/\uB active 1=true then siz 1 else 0
  by_cases hk:e.Kind=5
  ·rw [if_neg (by simp [hk]),if_neg (λh=>h.1 hk)];rfl
  ·cases hb:uB active 1
   ·rw [if_neg (by simp),if_neg (λh=>by cases h.2)];rfl
   ·rw [if_pos (by simp [hk]),if_pos ⟨hk,rfl⟩,aN];rfl
theorem zGe {reg kind active:Int} {data:List UInt8} (h1:1<=active) (h3:active<=3) (r0:0<=reg) (r1:reg<=11) (k1:1<=kind) (k5:kind<=5) (hd:data.length<=64):EvC (mkE reg kind active data) active:=by
 obtain ⟨f0,f1⟩:=zHe (e:=mkE reg kind active data) (active:=active) (b:=data) rfl
 exact ⟨⟨r0,r1,hd,rfl,f0,f1⟩,h1,h3,k1,k5⟩
theorem zOk (r:Int) (h1:1<=r) (h4:r<=4):0<=rgR r/\rgR r<=11:=by
 unfold rgR
 split
 ·omega
 split
 ·omega
 split
 ·omega
 split<;>omega
theorem zL7 (x:zE) (h:oD x):(lbl x).length<=33:=by
 have h1:=h.nl
 have h2:=zA8 20 x.Version.toNat
 unfold lbl
 rw [List.length_append,List.length_append,List.length_singleton]
 omega
theorem zQf {active:Int} {x:zE} (h1:1<=active) (h3:active<=3) (h:oD x):EvC (imE active x) active:=by
 obtain ⟨f0,f1⟩:=zHe (e:=imE active x) (active:=active) (b:=rM x) rfl
 have hr:=zOk x.Role h.r1 h.r4
 have hl:=zL7 x h
 exact ⟨⟨hr.1,hr.2,by show (lbl x).length<=64;omega,rfl,f0,f1⟩,h1,h3,by show (1:Int)<=1;omega,by show (1:Int)<=5;omega⟩
theorem zG4 {active role:Int} {l:List zE} {e:zB} (h:e∈evR active role l):∃ x∈l,x.Role=role/\((role=4/\∃ d∈zBx x,e=mkE 9 3 active d)∨(role≠4/\e=imE active x)):=by
 unfold evR at h
 obtain ⟨x,hx,he⟩:=List.mem_flatMap.1 h
 by_cases hr:x.Role=role
 ·rw [if_pos hr] at he
  by_cases h4:role=4
  ·rw [if_pos h4] at he
   obtain ⟨d,hd,rfl⟩:=List.mem_map.1 he
   exact ⟨x,hx,hr,.inl ⟨h4,d,hd,rfl⟩⟩
  ·rw [if_neg h4] at he
   exact ⟨x,hx,hr,.inr ⟨h4,by simpa using he⟩⟩
 ·rw [if_neg hr] at he
  cases he
theorem zDd {active role:Int} {l:List zE} (h1:1<=active) (h3:active<=3) (hc:jP l):∀ e∈evR active role l,EvC e active:=by
 intro e he
 obtain ⟨x,hx,hr,⟨h4,d,hd,rfl⟩ | ⟨_,rfl⟩⟩:=zG4 he
 ·have:=((zFu x (hc.im x hx) (by omega)).2.2 d hd).2.1
  exact zGe h1 h3 (by omega) (by omega) (by omega) (by omega) (by omega)
 ·exact zQf h1 h3 (hc.im x hx)
theorem zDx {active:Int} {e:zB} (h:e∈zBz active):∃ i:Nat,i<8/\e=mkE (i:Int) 2 active [0,0,0,0]:=by
 unfold zBz at h
 obtain ⟨i,hi,rfl⟩:=List.mem_map.1 h
 exact ⟨i,List.mem_range.1 hi,rfl⟩
theorem zKl {active:Int} {l:List zE} (h1:1<=active) (h3:active<=3) (hc:jP l):∀ e∈evs l active,EvC e active:=by
 intro e he
 unfold evs at he
 simp only [List.mem_append] at he
 rcases he with ((he | he) | (he | he)) | he
 ·exact zDd h1 h3 hc e he
 ·exact zDd h1 h3 hc e he
 ·obtain ⟨i,hi,rfl⟩:=zDx he
  exact zGe h1 h3 (by omega) (by omega) (by omega) (by omega) (by decide)
 ·exact zDd h1 h3 hc e he
 ·exact zDd h1 h3 hc e he
theorem zKf {active:Int} {l:List zE}:∀ e∈evs l active,e.Kind≠5:=by
 have hR:∀ role,∀ e∈evR active role l,e.Kind≠5:=by
  intro role e he
  obtain ⟨x,_,_,⟨_,d,_,rfl⟩ | ⟨_,rfl⟩⟩:=zG4 he
  ·exact show (3:Int)≠5 by decide
  ·exact show (1:Int)≠5 by decide
 intro e he
 unfold evs at he
 simp only [List.mem_append] at he
 rcases he with ((he | he) | (he | he)) | he
 ·exact hR _ e he
 ·exact hR _ e he
 ·obtain ⟨i,_,rfl⟩:=zDx he
  exact show (2:Int)≠5 by decide
 ·exact hR _ e he
 ·exact hR _ e he
def zL5 (active:Int):zB:=mkE 0 4 active [99,104,97,105,110]
theorem zG8 {active:Int} (h1:1<=active) (h3:active<=3):EvC (zL5 active) active:=zGe h1 h3 (by decide) (by decide) (by decide) (by decide) (by decide)
end Go.Proofs.TT
namespace Go.Proofs.TT
open Go Go.Sw
set_option maxRecDepth 100000
theorem zI4:∀ n:Nat,n<256->beN (n:Int) 1 1=[u8 (n:Int)]:=by decide +kernel
theorem zQj {a:Int} (h0:0<=a) (h:a<256):beN a 1 1=[u8 a]:=by
 obtain ⟨n,rfl⟩:=Int.eq_ofNat_of_zero_le h0
 exact zI4 n (by omega)
theorem zPr (a r:Int) (h1:1<=a) (h3:a<=3) (h0:0<=r) (hr:r<=1099511627776):wV a r=some (fZ a r):=by
 unfold wV
 refine bd (a:=false) (cf (by simp;omega) (cf (by simp;omega) (cf (by simp;omega) (congrArg some (by simp;omega))))) ?_
 refine cf rfl ?_
 refine bd (wU _ 1 a (by omega) (by omega) (by simp)) ?_
 refine bd (wU _ 6 r (by omega) (by omega) (by simp [yY])) ?_
 rw [zQj (by omega) (by omega)];rfl
theorem zH4 (e:zB) (active:Int) (h:EvC e active):nL e=some (pI e):=by
 have q0:=lQ h.f0;have q1:=lQ h.f1;have hd:=h.d;have hl:=h.l
 have r0:=h.r0;have r1:=h.r1;have k1:=h.k1;have k5:=h.k5
 obtain ⟨reg,kind,dg,data⟩:=e
 match dg,hl with
 | [x,y],_=>
 simp only at q0 q1 hd r0 r1 k1 k5
 have q0:x.length<=32:=q0
 have q1:y.length<=32:=q1
 have hen:wG ⟨reg,kind,[x,y],data⟩=some true:=by
  unfold wG
  refine bd (a:=false) (cf (decide_eq_false (by simp only;omega)) (cf (decide_eq_false (by simp only;omega)) (cf (decide_eq_false (by simp only;omega)) (cf (decide_eq_false (by simp only;omega)) (cf rfl (congrArg some (decide_eq_false (by simp only;omega)))))))) ?_
  refine cf rfl ?_
  refine bd (a:=.inr ()) (yM 2 (λi=>(i:Int)) rfl ?_ ?_ (wK (by omega))) rfl
  ·intro i hi
   unfold wZ
   rcases (show i=0∨i=1 by omega) with rfl | rfl
   ·exact ct rfl (bd (a:=x) rfl (bd (a:=32) rfl (cf (decide_eq_false (by omega)) rfl)))
   ·exact ct rfl (bd (a:=y) rfl (bd (a:=32) rfl (cf (decide_eq_false (by omega)) rfl)))
  ·unfold wZ
   exact cf rfl rfl
 unfold nL
 refine bd hen (cf rfl ?_)
 refine bd (wU [] 1 reg (by omega) (by omega) (by simp)) ?_
 refine bd (wU _ 1 kind (by omega) (by omega) (by simp [yY])) ?_
 rw [zQj (by omega) (by omega),zQj (by omega) (by omega)]
 refine bd (a:=([u8 reg,u8 kind]++bl x)++bl y) (yM 2 (λi=>(if i=0 then [u8 reg,u8 kind] else if i=1 then [u8 reg,u8 kind]++bl x else ([u8 reg,u8 kind]++bl x)++bl y,(i:Int))) rfl ?_ ?_ (wK (by omega))) ?_
 ·intro i hi
  unfold o0
  rcases (show i=0∨i=1 by omega) with rfl | rfl
  ·exact ct rfl (bd (a:=x) rfl (bd (wB _ x (by simp) (by omega)) rfl))
  ·exact ct rfl (bd (a:=y) rfl (bd (wB _ y (by simp [v6];omega) (by omega)) rfl))
 ·unfold o0
  exact cf rfl rfl
 refine bd (wB _ data (by simp [v6];omega) (by omega)) ?_
 show some _=some _
 unfold pI bl
 simp
theorem zJe (active:Int) (es:List zB) (e:zB) (hk:e.Kind≠5):rpl active (es++[e])=ext active e (rpl active es):=by
 unfold rpl;rw [List.foldl_append];simp [hk]
theorem zIj (es:List zB) (e:zB):pP (es++[e])=pP es++bl (pI e):=by simp [pP,bl]
structure Mz (d:zC) (seq:Nat) (st:zQ) (vo:yD) (m:Nat) (es:List zB):Prop extends Dv d seq st vo m where
 v1:vo.Started=true
 v2:vo.Registers=rpl st.Active es
 lg:d.Disk.Areas.getD 2 []=fZ st.Active st.Resets++pP es
variable {d:zC} {seq m:Nat} {st:zQ} {vo:yD} {es:List zB}
theorem Mz.step (h:Mz d seq st vo m es) {x:zB} (hx:EvC x st.Active) (hk:x.Kind≠5) (hs:es.length<=40) (he:∀ e∈es,EvC e st.Active) (hm:m+1<2 ^ 50) :
  ∃ d' vo',nQ (yC.mk d []) x=some (0,yC.mk d' [])/\Mz d' seq st vo' (m+1) (es++[x])/\∀ a,3<=a->d'.Disk.Areas.getD a []=d.Disk.Areas.getD a []:=by
 have hr:=zL0 st vo x st.Active h.v1 (by rw [h.v2];exact zP9 _ _ h.sst.a0 h.sst.a3) hx.toEvGood hk
 have h1:=h.toDv.send_same hr
 have hv:=h.toDv.vol (vo':=zIc (ext st.Active x vo.Registers) vo)
 have hd:=zLb (rqE hx.toEvGood) h1 rsd0 rfl (by decide) (yC.mk d []) rfl
 have hb:=dY hx.toEvGood
 have hf:=aV es he
 have hap:=hv.append (a:=2) (bl (pI x)) (by decide) (by rw [v6];omega)
 have hy:(d.Disk.Areas.getD 2 []++bl (pI x)).length<2 ^ 39:=by rw [List.length_append,h.lg,List.length_append,iO,v6];omega
 refine ⟨kB ⟨d.Disk,⟨st,zIc (ext st.Active x vo.Registers) vo⟩,d.On,d.Next⟩ 2 (d.Disk.Areas.getD 2 []++bl (pI x)),zIc (ext st.Active x vo.Registers) vo,?_,⟨hv.set (by decide) (by decide) hy hm,h.v1,?_,?_⟩,λa ha=>getD_set_ne (by omega)⟩
 ·unfold nQ
  refine bd hd ?_
  refine bd (a:=(0,yC.mk (kB ⟨d.Disk,⟨st,zIc (ext st.Active x vo.Registers) vo⟩,d.On,d.Next⟩ 2 (d.Disk.Areas.getD 2 []++bl (pI x))) [])) ?_ rfl
  refine ct rfl ?_
  refine bd (zH4 x st.Active hx) ?_
  refine bd (wB [] _ (by simp) (by omega)) ?_
  rw [List.nil_append]
  refine bd hap ?_
  rfl
 ·show ext st.Active x vo.Registers=_
  rw [zJe _ _ _ hk,h.v2]
 ·show (d.Disk.Areas.set 2 _).getD 2 []=_
  rw [wF (by have:=h.n;omega),h.lg,zIj,List.append_assoc]
end Go.Proofs.TT
namespace Go.Proofs.TT
open Go Go.Sw
set_option maxRecDepth 100000
theorem db {α β:Type} {o:Option α} {a:α} {f:α->Option β} {Q:β->Prop} (h:o=some a) (k:Def (f a) Q):Def (o.bind f) Q:=by subst h;exact k
end Go.Proofs.TT
namespace Go.Proofs.TT
open Go Go.Sw
set_option maxRecDepth 100000
end Go.Proofs.TT
namespace Go.Proofs.TT
open Go Go.Sw
set_option maxRecDepth 100000
def nU (l:List zE):List UInt8:=hs 20 [hO l]++hO l
theorem hU (l:List zE):(nU l).length=32+(hO l).length:=by simp [nU,f9]
theorem zC3 {s:Nat} (h:s<2):(bif ((s:Int) != 0) then (some ((s:Int) != 1)) else some false:Option Bool)=some false:=by
 rcases (show s=0∨s=1 by omega) with rfl | rfl<;>rfl
theorem zHk {s:Int} (h:s≠0) (h1:s≠1):(bif (s != 0) then (some (s != 1)) else some false:Option Bool)=some true:=ct (b1 h) (congrArg some (by simp [h1]))
theorem zNc {s:Nat} (h:s<2):IntKind.i64.wrap (3+(s:Int))=((3+s:Nat):Int):=by rw [xH (by omega) (by omega)];omega
theorem zFc (d:zC) {s:Nat} (hs':s<2) {l:List zE} (hc:zBr l) {r:zC×Int} (hw:uT d ((3+s:Nat):Int) (nU l)=some r):rY d (s:Int) l=some r:=by
 have hl:=iD hc
 unfold rY
 refine bd (zC3 hs') (cf rfl ?_)
 refine bd hc.p (cf rfl ?_)
 refine bd (zT4 hc) ?_
 refine bd (zAb 20 [hO l] (by simp [tot];omega)) ?_
 refine bd (yJ (by rw [f9];omega)) ?_
 rw [zNc hs']
 exact bd hw rfl
variable {d:zC} {seq m:Nat} {st:zQ} {vo:yD}
theorem Dv.install (h:Dv d seq st vo m) {s:Nat} (hs':s<2) {l:List zE} (hc:zBr l):rY d (s:Int) l=some (kB d (3+s) (nU l),0):=by
 have hl:=iD hc
 exact zFc d hs' hc (h.write _ (by omega) (by rw [hU];omega))
theorem zF0 (d:zC) {s:Int} (h:s≠0) (h1:s≠1):uG d s=some (d,1):=by
 unfold uG
 exact bd (zHk h h1) (ct rfl rfl)
theorem zBj (d:zC) {s:Nat} (hs':s<2) {r:zC×Int} (hw:uT d 5 [u8 (s:Int)]=some r):uG d (s:Int)=some r:=by
 unfold uG
 refine bd (zC3 hs') (cf rfl ?_)
 exact bd hw rfl
theorem Dv.choose (h:Dv d seq st vo m) {s:Nat} (hs':s<2):uG d (s:Int)=some (kB d 5 [u8 (s:Int)],0):=
 zBj d hs' (h.write (a:=5) [u8 (s:Int)] (by decide) (by simp))
theorem cN (d:zC) (ho:d.Disk.Off=false) (ha:5<d.Disk.Areas.length) (hold:(d.Disk.Areas.getD 5 []).length<2 ^ 40):wS d=some (if d.Disk.Areas.getD 5 []=[1] then 1 else 0):=by
 have hr:uY d.Disk 5=some (d.Disk.Areas.getD 5 [],0):=dA d.Disk 5 ho ha hold
 unfold wS
 refine bd hr ?_
 refine bd (a:=d.Disk.Areas.getD 5 []==[1]) (ct rfl (bd (zDl _ _) rfl)) ?_
 by_cases h:d.Disk.Areas.getD 5 []=[1]
 ·rw [if_pos h];exact ct (by rw [h];rfl) rfl
 ·rw [if_neg h];exact cf (by simpa using h) rfl
def eK (c:List UInt8):Option (List zE×Int):=if 32<=c.length/\c.take 32=hs 20 [c.drop 32] then vA (c.drop 32) else some ([],30)
theorem zJq (d:zC) {s:Nat} (hs':s<2) (ho:d.Disk.Off=false) (ha:3+s<d.Disk.Areas.length) (hold:(d.Disk.Areas.getD (3+s) []).length<2 ^ 30):mC d (s:Int)=eK (d.Disk.Areas.getD (3+s) []):=by
 have hr:uY d.Disk (IntKind.i64.wrap (3+(s:Int)))=some (d.Disk.Areas.getD (3+s) [],0):=by rw [zNc hs'];exact dA d.Disk (3+s) ho ha (by omega)
 unfold mC
 refine bd (zC3 hs') (cf rfl ?_)
 refine bd hr (cf rfl ?_)
 generalize d.Disk.Areas.getD (3+s) []=c at hold
 unfold eK
 by_cases h32:32<=c.length
 ·have h1:sub c 0 32=some (c.take 32):=tA (a:=0) (b:=32) (by decide) h32
  have h2:sub c 32 c.length=some (c.drop 32):=by
   have:=tA (l:=c) (a:=32) (b:=c.length) h32 (Nat.le_refl _)
   rw [List.take_of_length_le (by rw [List.length_drop];omega)] at this
   exact this
  refine bd (a:=!(c.take 32==hs 20 [c.drop 32])) (cf (decide_eq_false (by omega)) (bd h1 (bd h2 (bd (zAb 20 [c.drop 32] (by simp [tot];omega)) (bd (zDl _ _) rfl))))) ?_
  by_cases he:c.take 32=hs 20 [c.drop 32]
  ·rw [if_pos ⟨h32,he⟩]
   refine cf (by simp [he]) ?_
   refine bd h2 ?_
   cases vA (c.drop 32)<;>rfl
  ·rw [if_neg (λh=>he h.2)]
   exact ct (by simp [he]) rfl
 ·rw [if_neg (λh=>h32 h.1)]
  exact bd (a:=true) (ct (decide_eq_true (by omega)) rfl) (ct rfl rfl)
theorem zEo {l:List zE} (hc:zBr l):eK (nU l)=some (l,0):=by
 have hd:(nU l).drop 32=hO l:=by unfold nU;rw [List.drop_append_of_le_length (by rw [f9];omega),List.drop_of_length_le (by rw [f9];omega),List.nil_append]
 have ht:(nU l).take 32=hs 20 [hO l]:=by unfold nU;rw [List.take_append_of_le_length (by rw [f9];omega),List.take_of_length_le (by rw [f9];omega)]
 unfold eK
 rw [if_pos ⟨by rw [hU];omega,by rw [ht,hd]⟩,hd]
 exact zTf hc
theorem zFt:eK []=some ([],30):=by
 unfold eK
 rw [if_neg (λh=>by have:=h.1;simp at this)]
theorem zLi (b:List UInt8):Def (gR b) (λr=>r.length=32):=by
 unfold gR
 refine Def.bd (Def.mkN (by decide) (by decide)) (λn hn=>?_)
 refine Def.bd (Def.ck (by simp)) (λ_ _=>?_)
 refine Def.lt ?_
 refine Def.bd (Def.ck (by rw [zDh];simp)) (λ_ _=>?_)
 exact Def.bd (Def.ck (zE2 (by
                 have e:(32:Int).toNat=32:=rfl
                 omega))) (λ_ _=>Def.s (by rw [zDh,List.length_replicate,hn];rfl))
theorem zCh (e:List UInt8) (active:Int) (he:e.length=32) (h1:1<=active) (h3:active<=3):Def (rU 8 e active) (λr=>r.2=0/\(∃ d0,r.1=bO d0)/\∃ st,v7 r.1=some (onD r.1 1 st,0)/\(∀ m,m<2 ^ 50->Dv (onD r.1 1 st) 1 st zLh m)/\st.Active=active/\st.Resets=0/\∀ a,2<=a->r.1.Disk.Areas.getD a []=[]):=by
 refine (zDt e active he h1 h3).mono λr hr=>?_
 obtain ⟨h0,⟨d0,hd⟩,st,hk,ha,hr0,hz⟩:=hr
 refine ⟨h0,⟨d0,hd⟩,st,zBb r.1 1 st (.inl (by rw [hd];rfl)) hk.n hk.al hk.jr hk.sst,λm hm=>Dv.of_on hk.n hk.al hk.jr hk.sst m hm,ha,hr0,hz⟩
theorem zE0 (en:List UInt8) (active:Int) (h1:1<=active) (h3:active<=3) {l:List zE} (hc:zBr l):Def (mF en active l) (λr=>r.2=true/\∃ st,Dv r.1 1 st zLh 2/\st.Active=active/\st.Resets=0/\r.1.Disk.Areas.getD 3 []=nU l/\r.1.Disk.Areas.getD 4 []=[]/\r.1.Disk.Areas.getD 5 []=[0]):=by
 have hl:=iD hc
 unfold mF
 refine Def.bd (zLi en) (λe he=>?_)
 refine Def.bd (zCh e active he h1 h3) (λr hr=>?_)
 obtain ⟨x,c⟩:=r
 obtain ⟨h0,⟨d0,rfl⟩,st,hp,hv,ha,hr0,hz⟩:=hr
 simp only at h0 hp hv hz
 subst h0
 have hv0:=hv 0 (by decide)
 have hv1:=hv0.set (a:=3) (y:=nU l) (by decide) (by decide) (by rw [hU];omega) (by decide)
 have hv2:=hv1.set (a:=5) (y:=[u8 ((0:Nat):Int)]) (by decide) (by decide) (by simp) (by decide)
 refine db (a:=(onD (bO d0) 1 st,0)) hp ?_
 refine db (hv0.install (s:=0) (by decide) hc) ?_
 refine db (hv1.choose (s:=0) (by decide)) ?_
 refine db (a:=true) rfl ?_
 have hn:=hv0.n
 refine Def.s ⟨rfl,st,hv2,ha,hr0,?_,?_,?_⟩
 ·show (((onD (bO d0) 1 st).Disk.Areas.set 3 (nU l)).set 5 _).getD 3 []=_
  rw [getD_set_ne (by decide),wF (by omega)]
 ·show (((onD (bO d0) 1 st).Disk.Areas.set 3 (nU l)).set 5 _).getD 4 []=_
  rw [getD_set_ne (by decide),getD_set_ne (by decide)]
  exact hz 4 (by decide)
 ·show (((onD (bO d0) 1 st).Disk.Areas.set 3 (nU l)).set 5 _).getD 5 []=_
  rw [wF (by rw [List.length_set];omega)]
  rfl
end Go.Proofs.TT
namespace Go.Proofs.TT
open Go Go.Sw
set_option maxRecDepth 100000
theorem zLc {seq:Nat} {st:zQ} (es:List zB) (h40:es.length<=40) (hE:∀ e∈es,EvC e st.Active) (hK:∀ e∈es,e.Kind≠5) (n:Nat):∀ (i fuel:Nat) (d:zC) (vo:yD) (m:Nat),i+n=es.length->n<fuel->Mz d seq st vo m (es.take i)->m+n<2 ^ 50 ->
  ∃ d' vo',zV (sF es) fuel ((i:Int),0,yC.mk d [])=some (.inr (0,yC.mk d' []))/\Mz d' seq st vo' (m+n) es/\∀ a,3<=a->d'.Disk.Areas.getD a []=d.Disk.Areas.getD a []:=by
 induction n with
 | zero=>
  intro i fuel d vo m hi hf h _
  obtain ⟨f,rfl⟩:∃ f,fuel=f+1:=⟨fuel - 1,by omega⟩
  have hi:i=es.length:=by omega
  subst hi
  rw [List.take_length] at h
  refine ⟨d,vo,?_,h,λ_ _=>rfl⟩
  have:sF es ((es.length:Int),0,yC.mk d [])=some (.inr (.inr (0,yC.mk d []))):=by
   unfold sF
   exact cf (decide_eq_false (by omega)) rfl
  simp only [zV,this]
 | succ n ih=>
  intro i fuel d vo m hi hf h hm
  obtain ⟨f,rfl⟩:∃ f,fuel=f+1:=⟨fuel - 1,by omega⟩
  have hl:i<es.length:=by omega
  have hmem:es[i]∈es:=List.getElem_mem _
  obtain ⟨d1,vo1,e1,h1,s1⟩:=h.step (hE _ hmem) (hK _ hmem) (by rw [List.length_take];omega) (λe he=>hE e (List.mem_of_mem_take he)) (by omega)
  rw [show es.take i++[es[i]]=es.take (i+1) from by rw [List.take_add_one];simp [hl]] at h1
  obtain ⟨d2,vo2,e2,h2,s2⟩:=ih (i+1) f d1 vo1 (m+1) (by omega) (by omega) h1 (by omega)
  refine ⟨d2,vo2,?_,by rw [show m+(n+1)=m+1+n from by omega];exact h2,λa ha=>(s2 a ha).trans (s1 a ha)⟩
  have:sF es ((i:Int),0,yC.mk d [])=some (.inl (((i+1:Nat):Int),0,yC.mk d1 [])):=by
   unfold sF
   refine ct (decide_eq_true (by omega)) (bd (yZ hl) (bd e1 (cf rfl ?_)))
   rw [xH (by omega) (by omega)]
   rfl
  simp only [zV,this]
  exact e2
variable {d:zC} {seq m:Nat} {st:zQ} {vo:yD}
theorem Dv.start (h:Dv d seq st vo m) (hs:vo.Started=false) (hp:vo.Stopped=false) (hR:st.Resets+1<2 ^ 30) (hq:seq+1<2 ^ 29) (hm:m+1<2 ^ 50):∃ d1 seq1,sX (yC.mk d []) (zY.mk 1 [] [] [0] [])=some (zM.mk 0 [] [] [],0,yC.mk d1 [])/\Dv d1 seq1 (stS st) (zJj st vo) (m+1)/\seq1<=seq+1/\∀ a,2<=a->d1.Disk.Areas.getD a []=d.Disk.Areas.getD a []:=by
 obtain ⟨d1,seq1,e,h1,h2,h3⟩:=h.send_new (h.sst.S hR) hq hm (zH9 st vo h.sst hs hp)
 exact ⟨d1,seq1,zLb rqS e rsd0 rfl (by decide) (yC.mk d []) rfl,h1,h2,h3⟩
def mL (d:zC):Nat:=if d.Disk.Areas.getD 5 []=[1] then 1 else 0
theorem zK1 (d:zC):mL d<2:=by unfold mL;split<;>omega
theorem Dv.chosen (h:Dv d seq st vo m):wS d=some (mL d:Int):=by
 rw [cN d h.off (by rw [h.n];decide) (by have:=h.al 5;omega)]
 unfold mL
 split<;>rfl
def c9 (active c:Int) (pe:List zB):List zB:=if c=0 then pe else [zL5 active]
theorem Dv.run (h:Dv d seq st vo m) (hs:vo.Started=false) (hp:vo.Stopped=false) (hR:st.Resets+1<2 ^ 30) (hq:seq+1<2 ^ 29) (hm:m+60<2 ^ 50)
  {ch:List zE} {c:Int} {pe:List zB} (hsm:(d.Disk.Areas.getD (3+mL d) []).length<2 ^ 30) (hch:eK (d.Disk.Areas.getD (3+mL d) [])=some (ch,c)) (hpe:vX ch st.Active=some pe)
  (h40:pe.length<=40) (hE:∀ e∈pe,EvC e st.Active) (hK:∀ e∈pe,e.Kind≠5) :
  ∃ d' seq' vo' m',oY d=some (d',if c=0 then 0 else 50)/\Mz d' seq' (stS st) vo' m' (c9 st.Active c pe)/\seq'<=seq+1/\m'<=m+43/\∀ a,3<=a->d'.Disk.Areas.getD a []=d.Disk.Areas.getD a []:=by
 obtain ⟨d1,seq1,e1,h1,hq1,s1⟩:=h.start hs hp hR hq (by omega)
 have hr0:=h.sst.r0
 have hw:=h1.write (a:=2) (fZ st.Active (st.Resets+1)) (by decide) (by rw [iO];decide)
 have h2:=h1.set (a:=2) (y:=fZ st.Active (st.Resets+1)) (by decide) (by decide) (by rw [iO];decide) (by omega)
 have hge:∀ a,3<=a->(kB d1 2 (fZ st.Active (st.Resets+1))).Disk.Areas.getD a []=d.Disk.Areas.getD a []:=λa ha=>(getD_set_ne (by omega)).trans (s1 a (by omega))
 have hn:mL (kB d1 2 (fZ st.Active (st.Resets+1)))=mL d:=by unfold mL;rw [hge 5 (by decide)]
 have hlt:=zK1 d
 have hco:wS (kB d1 2 (fZ st.Active (st.Resets+1)))=some (mL d:Int):=by rw [h2.chosen,hn]
 have hcc:mC (kB d1 2 (fZ st.Active (st.Resets+1))) (mL d:Int)=some (ch,c):=by
  rw [zJq _ hlt h2.off (by rw [h2.n];omega) (by rw [hge _ (by omega)];exact hsm),hge _ (by omega),hch]
 have hz:Mz (kB d1 2 (fZ st.Active (st.Resets+1))) seq1 (stS st) (zJj st vo) (m+1+1) ((c9 st.Active c pe).take 0):=⟨h2,rfl,rfl,by
  show (d1.Disk.Areas.set 2 _).getD 2 []=_
  rw [wF (by rw [h1.n];decide)]
  simp [pP,stS]⟩
 have hl40:(c9 st.Active c pe).length<=40:=by unfold c9;split;exact h40;simp
 have hE':∀ e∈c9 st.Active c pe,EvC e (stS st).Active:=by
  intro e he
  unfold c9 at he
  split at he
  ·exact hE e he
  ·rw [List.mem_singleton.1 he];exact zG8 h.sst.a0 h.sst.a3
 have hK':∀ e∈c9 st.Active c pe,e.Kind≠5:=by
  intro e he
  unfold c9 at he
  split at he
  ·exact hK e he
  ·rw [List.mem_singleton.1 he];exact show (4:Int)≠5 by decide
 obtain ⟨d3,vo3,e3,h3,s3⟩:=zLc (seq:=seq1) (st:=stS st) (c9 st.Active c pe) hl40 hE' hK' (c9 st.Active c pe).length 0 FU _ _ (m+1+1) (by omega) (wK (by omega)) hz (by omega)
 refine ⟨d3,seq1,vo3,m+1+1+(c9 st.Active c pe).length,?_,h3,hq1,by omega,λa ha=>(s3 a ha).trans (hge a ha)⟩
 have hst:d1.State=⟨stS st,zJj st vo⟩:=h1.s
 have hA:d1.State.Stable.Active=st.Active:=by rw [hst];rfl
 have hRs:d1.State.Stable.Resets=st.Resets+1:=by rw [hst];rfl
 unfold oY
 refine cf (by rw [h.on];rfl) ?_
 refine bd (a:=yC.mk d []) rfl ?_
 refine bd (a:=(default,if c=0 then 0 else 50,yC.mk d3 [])) ?_ ?_
 ·refine bd e1 (cf rfl ?_)
  show (wV d1.State.Stable.Active d1.State.Stable.Resets).bind _=_
  rw [hA,hRs]
  refine bd (zPr st.Active (st.Resets+1) h.sst.a0 h.sst.a3 (by omega) (by omega)) ?_
  refine bd hw (cf rfl ?_)
  refine bd hco (bd hcc ?_)
  refine bd hpe ?_
  refine bd (a:=c9 st.Active c pe) ?_ (bd e3 ?_)
  ·unfold c9
   by_cases hc:c=0
   ·rw [if_pos hc];exact cf (b0 hc) rfl
   ·rw [if_neg hc];exact ct (b1 hc) (bd (zA6 0 4 st.Active [99,104,97,105,110] (by decide)) rfl)
  ·show ((bif c != 0 then some 50 else some 0:Option Int).bind λe=>some ((default:zC),e,yC.mk d3 []))=_
   by_cases hc:c=0
   ·rw [if_pos hc];exact bd (a:=0) (cf (b0 hc) rfl) rfl
   ·rw [if_neg hc];exact bd (a:=50) (ct (b1 hc) rfl) rfl
 ·refine bd (a:=(d3,if c=0 then 0 else 50,yC.mk d3 [])) ?_ rfl
  unfold lC
  refine cf ?_ rfl
  split<;>rfl
end Go.Proofs.TT
namespace Go.Proofs.TT
open Go Go.Sw
set_option maxRecDepth 100000
def cB:List zE:=[zE.mk 1 [102] 0 [],zE.mk 3 [107] 0 []]
theorem zFg:lI=some cB:=rfl
theorem zCo:jP cB:=by
 have g1:oD (zE.mk 1 [102] 0 []):=⟨by decide,by decide,by decide,by decide,by rw [jH];decide +kernel,by decide,by decide,λh=>absurd h (by decide)⟩
 have g3:oD (zE.mk 3 [107] 0 []):=⟨by decide,by decide,by decide,by decide,by rw [jH];decide +kernel,by decide,by decide,λh=>absurd h (by decide)⟩
 refine ⟨by decide,?_,?_,⟨_,.head _,rfl⟩,⟨_,.tail _ (.head _),rfl⟩⟩
 ·intro x hx
  rcases List.mem_cons.1 hx with rfl | hx
  ·exact g1
  ·rw [List.mem_singleton.1 hx];exact g3
 ·refine .cons ?_ (.cons (by simp) .nil)
  intro y hy
  rw [List.mem_singleton.1 hy]
  exact ⟨by decide,by decide⟩
theorem zJb:zBr cB:=zCo.ok
variable {d:zC} {seq m:Nat} {st:zQ} {vo:yD} {es:List zB}
theorem Mz.log (h:Mz d seq st vo m es) (hE:∀ e∈es,EvC e st.Active) (h40:es.length<=40):hP d=some (⟨st.Active,st.Resets,es⟩,0):=by
 have hr0:=h.sst.r0
 have hr1:=h.sst.r1
 unfold hP
 refine bd (h.toDv.read (a:=2) (by decide)) (cf rfl ?_)
 rw [h.lg]
 exact bd (zH7 ⟨st.Active,st.Resets,es⟩ ⟨⟨hE,h40⟩,h.sst.a0,h.sst.a3,hr0,by show st.Resets<=1099511627776;omega⟩) rfl
theorem Dv.run_good (h:Dv d seq st vo m) (hs:vo.Started=false) (hp:vo.Stopped=false) (hR:st.Resets+1<2 ^ 30) (hq:seq+1<2 ^ 29) (hm:m+60<2 ^ 50) {l:List zE} (hc:jP l) (hA:d.Disk.Areas.getD (3+mL d) []=nU l) :
  ∃ d' seq' vo' m',oY d=some (d',0)/\Mz d' seq' (stS st) vo' m' (evs l st.Active)/\seq'<=seq+1/\m'<=m+43/\∀ a,3<=a->d'.Disk.Areas.getD a []=d.Disk.Areas.getD a []:=by
 have hl:=iD hc.ok
 have h1:=h.sst.a0;have h3:=h.sst.a3
 obtain ⟨d',seq',vo',m',e,hz,r⟩:=h.run hs hp hR hq hm (ch:=l) (c:=0) (pe:=evs l st.Active) (by rw [hA,hU];omega) (by rw [hA];exact zEo hc.ok) (zFz l st.Active hc h1 h3) (zLk l st.Active hc).2 (zKl h1 h3 hc) zKf
 exact ⟨d',seq',vo',m',e,hz,r⟩
theorem Dv.run_none (h:Dv d seq st vo m) (hs:vo.Started=false) (hp:vo.Stopped=false) (hR:st.Resets+1<2 ^ 30) (hq:seq+1<2 ^ 29) (hm:m+60<2 ^ 50) (hA:d.Disk.Areas.getD (3+mL d) []=[]) :
  ∃ d' seq' vo' m',oY d=some (d',50)/\Mz d' seq' (stS st) vo' m' [zL5 st.Active]:=by
 obtain ⟨d',seq',vo',m',e,hz,_⟩:=h.run hs hp hR hq hm (ch:=[]) (c:=30) (pe:=[]) (by rw [hA];decide) (by rw [hA];exact zFt) (zDk _) (by decide) (by simp) (by simp)
 exact ⟨d',seq',vo',m',e,hz⟩
theorem ev10:(evs cB 2).length=10:=by decide +kernel
theorem zJ5:lL=some true:=by
 obtain ⟨⟨x,ok⟩,em,hok,st,hv,ha,hr0,h3,h4,h5⟩:=zE0 [] 2 (by decide) (by decide) zJb
 simp only at hok hv h3 h4 h5
 subst hok
 have hsl:mL x=0:=by unfold mL;rw [h5];rfl
 obtain ⟨d1,seq1,vo1,m1,e1,hz1,_⟩:=hv.run_good rfl rfl (by rw [hr0];decide) (by decide) (by decide) zCo (by rw [hsl];exact h3)
 have hact1:(stS st).Active=2:=ha
 have hlog1:=hz1.log (by rw [ha];exact λe he=>by rw [hact1];exact zKl (by decide) (by decide) zCo e he) (by rw [ha];exact (zLk cB 2 zCo).2)
 rw [ha] at hlog1
 obtain ⟨⟨y,c⟩,ef,hc0,⟨d0,hd⟩,st2,hp2,hv2,ha2,hr2,hz2⟩:=zCh (List.replicate 32 0) 2 (by simp) (by decide) (by decide)
 simp only at hc0 hd hp2 hv2 hz2
 subst hc0
 subst hd
 have hv2':=hv2 0 (by decide)
 have hA2:∀ a,2<=a->(onD (bO d0) 1 st2).Disk.Areas.getD a []=[]:=hz2
 obtain ⟨d2,seq2,vo2,m2,e2,hzb⟩:=hv2'.run_none rfl rfl (by rw [hr2];decide) (by decide) (by decide) (hA2 _ (by omega))
 have hact2:(stS st2).Active=2:=ha2
 have hlog2:=hzb.log (λe he=>by rw [List.mem_singleton.1 he,hact2,ha2];exact zG8 (by decide) (by decide)) (by simp)
 unfold lL
 refine bd zFg (bd em (cf rfl ?_))
 refine bd e1 (bd hlog1 ?_)
 refine bd (a:=32) rfl ?_
 refine bd ef ?_
 refine bd (a:=(onD (bO d0) 1 st2,0)) hp2 ?_
 refine bd e2 (bd hlog2 ?_)
 refine bd (a:=true) ?_ rfl
 refine ct rfl (ct rfl (ct ?_ (ct rfl (ct rfl (ct rfl (ct rfl (ct rfl ?_)))))))
 ·show (((evs cB 2).length:Int)==10)=true
  rw [ev10];rfl
 ·exact bd (a:=zL5 st2.Active) rfl rfl
end Go.Proofs.TT
namespace Go.Proofs.TT
open Go Go.Sw
set_option maxRecDepth 100000
theorem zKu (b:List UInt8) (n:Nat) (hn:n<2 ^ 20):dC b (n:Int)=some (b.take n):=by
 unfold dC
 by_cases h:n<b.length
 ·refine ct (decide_eq_true (by omega)) ?_
  have:=tA (l:=b) (a:=0) (b:=n) (by omega) (by omega)
  exact bd this rfl
 ·refine cf (decide_eq_false (by omega)) ?_
  rw [List.take_of_length_le (by omega)]
variable {d:zC} {seq m:Nat} {st:zQ} {vo:yD}
theorem Dv.dwrite (h:Dv d seq st vo m) {a:Nat} (y:List UInt8) (h8:a<8) (hy:y.length<=65536):sO d.Disk (a:Int) y=some (iF d.Disk a y,0):=by
 have hw:=j9 d.Disk a y h.ok h.off (by rw [h.n];exact h8) hy (by have:=h.al a;omega)
 have hc:=h.noC
 have e:wrC d.Disk (d.Disk.Areas.getD a []) y=y:=by
  unfold wrC j2
  rw [if_neg (show ¬ (d.Disk.Writes+1=d.Disk.CutAt) from hc),if_neg hc,List.take_length,List.append_nil]
 rw [e,show cI d.Disk=0 from if_neg hc] at hw
 exact hw
def zAa (torn:Int) (old y:List UInt8):List UInt8:=y.take (min torn.toNat y.length)++old.drop (min torn.toNat y.length)
def zBp (d:zC) (torn:Int):zC:=⟨⟨d.Disk.Areas,d.Disk.Writes,IntKind.i64.wrap (d.Disk.Writes+1),torn,d.Disk.Off⟩,d.State,d.On,d.Next⟩
theorem Dv.cut_write (h:Dv d seq st vo m) (hm:m+1<2 ^ 50) (torn:Int) {a:Nat} (h2:2<=a) (h8:a<8) (y:List UInt8) (hy:y.length<=65536) :
  ∃ z,uT (zBp d torn) (a:Int) y=some (z,29)/\z.On=false/\Dk z.Disk seq st (m+1)/\z.Disk.Areas=d.Disk.Areas.set a (zAa torn (d.Disk.Areas.getD a []) y):=by
 have hn:=h.n;have hm0:=h.m0;have hok:=h.ok;have hw0:=hok.w0;have hw1:=hok.w1
 have hz:zEu (zBp d torn).Disk:=⟨by show d.Disk.Areas.length<=64;omega,hw0,hw1⟩
 have hC:isC (zBp d torn).Disk:=by
  show d.Disk.Writes+1=IntKind.i64.wrap (d.Disk.Writes+1)
  rw [wr1 hw0 hw1]
 have hw:=j9 (zBp d torn).Disk a y hz h.off (by show a<d.Disk.Areas.length;omega) hy (by have:=h.al a;show (d.Disk.Areas.getD a []).length<2 ^ 40;omega)
 have hcn:j2 (zBp d torn).Disk y.length=min torn.toNat y.length:=if_pos hC
 have e:wrC (zBp d torn).Disk ((zBp d torn).Disk.Areas.getD a []) y=zAa torn (d.Disk.Areas.getD a []) y:=by
  unfold wrC zAa
  rw [if_pos hC,hcn]
  rfl
 rw [e,show cI (zBp d torn).Disk=29 from if_pos hC] at hw
 have hal:=h.al a
 have hlen:(zAa torn (d.Disk.Areas.getD a []) y).length<2 ^ 39:=by
  unfold zAa
  rw [List.length_append,List.length_take,List.length_drop]
  by_cases hy0:(d.Disk.Areas.getD a []).length<=min torn.toNat y.length<;>omega
 refine ⟨_,by unfold uT;exact bd hw (bd (zLl _ _) rfl),rfl,⟨⟨?_,?_,?_⟩,?_,hm,?_,?_,h.jr.other h2,h.sst⟩,rfl⟩
 ·show (d.Disk.Areas.set _ _).length<=64;simp;omega
 ·show 0<=d.Disk.Writes+1;omega
 ·show d.Disk.Writes+1<2 ^ 60;omega
 ·show d.Disk.Writes+1<=((m+1:Nat):Int);omega
 ·show (d.Disk.Areas.set _ _).length=8;simp [hn]
 ·exact zFm h.al hlen (show a<d.Disk.Areas.length by omega)
theorem zG9 (d:zC) (ho:d.Disk.Off=false) (hn:d.Disk.Areas.length=8) {k:Nat} (hk:k<2) (ha:d.Disk.Areas.getD 5 []=[u8 (k:Int)]):wS d=some (k:Int):=by
 rw [cN d ho (by omega) (by rw [ha];simp),ha]
 rcases (show k=0∨k=1 by omega) with rfl | rfl<;>rfl
theorem bT (b:List UInt8) (slot torn:Int) (any:Bool):pZ b slot torn any=some true:=by
 obtain ⟨⟨x,ok⟩,em,hok,st,hv,ha,hr0,h3,h4,h5⟩:=zE0 [] 2 (by decide) (by decide) zJb
 simp only at hok hv h3 h4 h5
 subst hok
 have hcl:(b.take 20).length<=20:=by simp;omega
 have h1:=hv.set (a:=5) (y:=b.take 20) (by decide) (by decide) (by omega) (by decide)
 have hn:=hv.n
 have hA5:(kB x 5 (b.take 20)).Disk.Areas.getD 5 []=b.take 20:=wF (by omega)
 have hwant:(((bif ((b.length:Int)==1) then ((idx b 0).bind λv=>some ((v.toNat:Int)==1)) else some false:Option Bool).bind λv=>bif v then (some 1) else some 0:Option Int))=some (if b.take 20=[1] then 1 else 0):=by
  by_cases hl:b.length=1
  ·match b,hl with
   | [y],_=>
    refine bd (a:=((y.toNat:Int)==1)) (ct rfl (bd (a:=y) rfl rfl)) ?_
    by_cases hy:y=1
    ·subst hy;rfl
    ·rw [if_neg (by simpa using hy)]
     refine cf ?_ rfl
     have:y.toNat≠1:=λh=>hy (by rw [<- UInt8.toNat_inj];exact h)
     simp;omega
  ·rw [if_neg (λh=>hl (by have:=congrArg List.length h;simp at this;omega))]
   exact bd (a:=false) (cf (by simp;omega) rfl) rfl
 have hch:wS (kB x 5 (b.take 20))=some (if b.take 20=[1] then 1 else 0):=by
  rw [cN _ h1.off (by rw [h1.n];decide) (by rw [hA5];omega),hA5]
 unfold pZ
 refine bd zJ5 (cf rfl ?_)
 refine bd zFg (bd em (cf rfl ?_))
 refine bd (zKu b 20 (by decide)) ?_
 refine bd (hv.dwrite (a:=5) _ (by decide) (by omega)) ?_
 refine bd hwant ?_
 refine bd (a:=false) (cf rfl (bd hch (congrArg some (by simp)))) (cf rfl ?_)
 have hslot:∃ s,(bif !any then ((i6 slot 2).bind λv=>some v) else some slot:Option Int)=some s:=by
  cases any with
  | true=>exact ⟨slot,rfl⟩
  | false=>
   obtain ⟨r,e,_⟩:=zMl slot 2 (by decide) (by decide)
   exact ⟨r,bd e rfl⟩
 obtain ⟨s,hs⟩:=hslot
 refine bd hs ?_
 by_cases hb:s≠0/\s≠1
 ·refine bd (zF0 _ hb.1 hb.2) ?_
  refine bd (zHk hb.1 hb.2) ?_
  rfl
 obtain ⟨k,rfl,hk⟩:∃ k:Nat,s=(k:Int)/\k<2:=⟨s.toNat,by omega,by omega⟩
 have h2:=h1.set (a:=5) (y:=[u8 (k:Int)]) (by decide) (by decide) (by simp) (by decide)
 have hA:(kB (kB x 5 (b.take 20)) 5 [u8 (k:Int)]).Disk.Areas.getD 5 []=[u8 (k:Int)]:=wF (by rw [h1.n];decide)
 refine bd (h1.choose hk) ?_
 refine bd (zC3 hk) (cf rfl ?_)
 refine bd (a:=false) (cf rfl (bd (zG9 _ h2.off h2.n hk hA) (congrArg some (by simp)))) (cf rfl ?_)
 have h1k:IntKind.i64.wrap (1 - (k:Int))=((1 - k:Nat):Int):=by rw [xH (by omega) (by omega)];omega
 obtain ⟨z,hz,zon,zk,zA⟩:=h2.cut_write (by decide) torn (a:=5) (by decide) (by decide) [u8 ((1 - k:Nat):Int)] (by simp)
 obtain ⟨hag,hdv⟩:=zk.again
 have hzv:=hdv 0 (by decide)
 have hzA:(onD z 1 st).Disk.Areas.getD 5 []=zAa torn [u8 (k:Int)] [u8 ((1 - k:Nat):Int)]:=by
  show z.Disk.Areas.getD 5 []=_
  rw [zA,wF (by rw [h2.n];decide),hA]
 obtain ⟨j,hj,hjk,hjA⟩:∃ j:Nat,j<2/\(j=k∨j=1 - k)/\(onD z 1 st).Disk.Areas.getD 5 []=[u8 (j:Int)]:=by
  rw [hzA]
  unfold zAa
  rcases (show min torn.toNat [u8 ((1 - k:Nat):Int)].length=0∨min torn.toNat [u8 ((1 - k:Nat):Int)].length=1 by simp;omega) with h | h
  ·rw [h];exact ⟨k,hk,.inl rfl,rfl⟩
  ·rw [h];exact ⟨1 - k,by omega,.inr rfl,rfl⟩
 have hcz:=zG9 _ hzv.off hzv.n hj hjA
 refine bd (a:=(zBp (kB (kB x 5 (b.take 20)) 5 [u8 (k:Int)]) torn).Disk) rfl ?_
 rw [h1k]
 refine bd (zBj (zBp (kB (kB x 5 (b.take 20)) 5 [u8 (k:Int)]) torn) (s:=1 - k) (by omega) hz) ?_
 refine bd hag ?_
 refine bd (a:=true) (ct rfl (ct rfl (bd hcz ?_))) rfl
 rcases hjk with rfl | rfl
 ·exact ct (by simp) rfl
 ·by_cases he:((1 - k:Nat):Int)=(k:Int)
  ·exact ct (by simp [he]) rfl
  ·exact cf (by simpa using he) (bd hcz (congrArg some (by simp)))
end Go.Proofs.TT
