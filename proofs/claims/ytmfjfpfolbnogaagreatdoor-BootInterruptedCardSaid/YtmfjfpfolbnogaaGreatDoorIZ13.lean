/- A part of the proof of what an interrupted installation leaves. -/
import Derived.Test.YtmfjfpfolbnogaaGreatDoorIZ12
set_option linter.all false
namespace Go.Proofs.TT
open Go Go.Sw
set_option maxRecDepth 100000
variable {a:Nat}{active:Int}{as:List By}{b:Bool}{bs:List By}{c:Int}{d:zD}{e:zC}{i:Nat}{is:List Int}{k:Nat}{l:List zB}{m:Nat}{most n:Int}{out p:By}{r role:Int}{seq:Nat}{st:zS}{vo:yE}{x:zB}{y:By}
structure zJa (d:zU):Prop where
 n:d.Areas.length<=64
 w0:0<=d.Writes
 w1:d.Writes<2 ^ 60
theorem zEr (d:zU) (a:Nat) (h:a<d.Areas.length):mN d (a:Int)=some true:=by
 unfold mN;refine bd (ct (by simp) (congrArg some (by simp;omega))) rfl
theorem zGp (d:zU) (h:d.Areas.length<=64):zN (nB d d.Areas.length) FU (0,List.replicate d.Areas.length [])=some d.Areas:=by
 refine yK d.Areas.length (λi=>((i:Int),d.Areas.take i++List.replicate (d.Areas.length - i) [])) (by simp) (λi hi=>?_) ?_ (xW (by omega))
 ·unfold nB;refine ct (dlt hi) ?_;refine bd (yR hi) ?_;refine bd (uI hi) ?_;have hl:(d.Areas.take i).length=i:=by simp;omega
  refine bd (eZ (by simp;omega)) ?_;rw [wX (show i<2 ^ 40 by omega)];refine congrArg some (congrArg Sum.inl (congrArg (Prod.mk _) ?_));rw [List.set_append_right _ _ (by omega),hl,Nat.sub_self];rw [show d.Areas.length - i=(d.Areas.length - (i+1))+1 by omega,List.replicate_succ,List.set_cons_zero];rw [List.take_add_one,List.getElem?_eq_getElem hi];simp only [Option.toList_some,List.append_assoc,List.singleton_append]
 ·unfold nB;refine cf (dge (Nat.le_refl _)) ?_;simp
theorem app0 {x:By} (h:x.length<2 ^ 40):yO 1 [] x=some x:=by simpa using yJ (b:=1) (l:=[]) (m:=x) (by simp;omega)
theorem zUc {d:zU} (h:a<d.Areas.length):idx d.Areas (a:Int)=some (d.Areas.getD a []):=by rw [yR h];simp [h]
theorem mk24 {n:Nat} (h:n<=64):mkN 24 (n:Int)=some n:=by
 unfold mkN;rw [if_pos (by simp;omega)];simp
theorem wr1 (h0:0<=n) (h:n<2 ^ 60):IntKind.i64.wrap (n+1)=n+1:=yN (by omega) (by omega)
def cS (d:zU) (len:Nat):Nat:=if d.Writes+1=d.CutAt then min d.Torn.toNat len else len
def isC (d:zU):Prop:=d.Writes+1=d.CutAt
instance (d:zU):Decidable (isC d):=by unfold isC;infer_instance
def zDl (d:zU):Int:=if isC d then 29 else 0
theorem zP5 (d:zU) (len:Nat) (h:zJa d) (ho:d.Off=false):(bif ((IntKind.i64.wrap (d.Writes+1))==d.CutAt) then
  (some (if (len:Int)<if d.Torn<0 then 0 else d.Torn then (len:Int) else if d.Torn<0 then 0 else d.Torn,29,true))
 else some ((len:Int),0,d.Off):Option (Int×Int×Bool))=some ((cS d len:Int),zDl d,decide (isC d)):=by
 rw [wr1 h.w0 h.w1];by_cases hc:d.Writes+1=d.CutAt
 ·refine ct (by simpa using hc) (congrArg some ?_);rw [show zDl d=29 from if_pos hc,show decide (isC d)=true from decide_eq_true hc];refine congrArg (·,(29:Int),true) ?_;unfold cS;rw [if_pos hc];by_cases ht:d.Torn<0
  ·rw [if_pos ht,if_neg (by omega)];have:d.Torn.toNat=0:=by omega
   simp [this]
  ·rw [if_neg ht];split<;>omega
 ·refine cf (by simpa using hc) (congrArg some ?_);rw [show zDl d=0 from if_neg hc,show decide (isC d)=false from decide_eq_false hc,ho];unfold cS;rw [if_neg hc]
def aS (d:zU) (a:Nat) (y:By):zU:=⟨d.Areas.set a y,d.Writes+1,d.CutAt,d.Torn,decide (isC d)⟩
theorem zVz (d:zU) (a:Nat) (data x y:By) (b:Bool) (h:zJa d) (ho:d.Off=false) (ha:a<d.Areas.length) (hl:data.length<=65536) (hy:nA (d.Areas.getD a []) (cS d data.length:Int) x b=some y) :
  gI d (a:Int) data x b=some (aS d a y,zDl d):=by
 unfold gI;refine cf ho ?_;refine bd (zEr d a ha) ?_;refine cf rfl ?_;refine cf (by simp;omega) ?_;refine bd (zP5 d data.length h ho) ?_;refine bd (mk24 h.n) ?_;refine bd (zGp d h.n) ?_;refine bd (zUc ha) ?_;refine bd hy ?_;refine bd (uI ha) ?_;refine bd (eZ ha) ?_;refine bd (ckT (by simp)) ?_;refine bd (ckT (by have:=h.n;simp [Nat.ble_eq];omega)) ?_;rw [wr1 h.w0 h.w1];rfl
theorem zR9 (d:zU) (a:Nat) (data x y:By) (h:zJa d) (ho:d.Off=false) (ha:a<d.Areas.length) (hl:data.length<=65536) (hy:nN (d.Areas.getD a []) (cS d data.length:Int) x=some y) :
  kT d (a:Int) data x=some (aS d a y,zDl d):=by
 unfold kT;refine cf ho ?_;refine bd (zEr d a ha) ?_;refine cf rfl ?_;refine cf (by simp;omega) ?_;refine bd (zP5 d data.length h ho) ?_;refine bd (mk24 h.n) ?_;refine bd (zGp d h.n) ?_;refine bd (zUc ha) ?_;refine bd hy ?_;refine bd (uI ha) ?_;refine bd (eZ ha) ?_;refine bd (ckT (by simp)) ?_;refine bd (ckT (by have:=h.n;simp [Nat.ble_eq];omega)) ?_;rw [wr1 h.w0 h.w1];rfl
theorem zMd (d:zU) (len:Nat):cS d len<=len:=by unfold cS;split<;>omega
def wrC (d:zU) (old data:By):By:=data.take (cS d data.length)++(if isC d then old.drop (cS d data.length) else [])
def apC (d:zU) (old data:By):By:=old++data.take (cS d data.length)
theorem zBp (d:zU) (a:Nat) (data:By) (h:zJa d) (ho:d.Off=false) (ha:a<d.Areas.length) (hl:data.length<=65536) (hold:(d.Areas.getD a []).length<2 ^ 40) :
  mH d (a:Int) data=some (aS d a (wrC d (d.Areas.getD a []) data),zDl d):=by
 unfold mH;refine bd (a:=decide (isC d)) (ct (by rw [ho];rfl) (congrArg some ?_)) ?_
 ·rw [wr1 h.w0 h.w1];simp [isC,BEq.beq]
 refine bd (zVz d a data data (wrC d (d.Areas.getD a []) data) _ h ho ha hl ?_) rfl;generalize d.Areas.getD a []=old at hold;have hn:=zMd d data.length;unfold nA wrC;generalize cS d data.length=n at hn;refine bd (a:=data.take n) (by have:=tJ (l:=data) (Nat.zero_le n) hn;simpa using this) ?_;refine bd (a:=data.take n) (by simpa using yJ (b:=1) (l:=[]) (m:=data.take n) (by simp;omega)) ?_;by_cases hc:isC d
 ·rw [decide_eq_true hc,if_pos hc];by_cases hlt:n<old.length
  ·refine bd (a:=data.take n++old.drop n) ?_ rfl;refine bd (a:=true) (ct rfl (congrArg some (by simp;omega))) ?_;refine ct rfl ?_;refine bd (a:=old.drop n) (by have:=tJ (l:=old) (Nat.le_of_lt hlt) (Nat.le_refl _);rw [this,List.take_of_length_le (by simp)]) ?_;exact bd (yJ (by simp;omega)) rfl
  ·refine bd (a:=data.take n) ?_ ?_
   ·refine bd (a:=false) (ct rfl (congrArg some (by simp;omega))) ?_;exact cf rfl rfl
   ·rw [List.drop_eq_nil_of_le (by omega),List.append_nil]
 ·rw [decide_eq_false hc,if_neg hc,List.append_nil];refine bd (a:=data.take n) ?_ rfl;refine bd (a:=false) (cf rfl rfl) ?_;exact cf rfl rfl
theorem zNv (d:zU) (a:Nat) (data:By) (h:zJa d) (ho:d.Off=false) (ha:a<d.Areas.length) (hl:data.length<=65536) (hold:(d.Areas.getD a []).length<2 ^ 40) :
  gJ d (a:Int) data=some (aS d a (apC d (d.Areas.getD a []) data),zDl d):=by
 unfold gJ;refine bd (zR9 d a data data (apC d (d.Areas.getD a []) data) h ho ha hl ?_) rfl;generalize d.Areas.getD a []=old at hold;have hn:=zMd d data.length;unfold nN apC;generalize cS d data.length=n at hn;refine bd (a:=old) (by simpa using yJ (b:=1) (l:=[]) (m:=old) (by simp;omega)) ?_;refine bd (a:=data.take n) (by have:=tJ (l:=data) (Nat.zero_le n) hn;simpa using this) ?_;exact bd (yJ (by simp;omega)) rfl
theorem zBo (d:zU) (a:Nat) (ho:d.Off=false) (ha:a<d.Areas.length) (hold:(d.Areas.getD a []).length<2 ^ 40):sL d (a:Int)=some (d.Areas.getD a [],0):=by
 unfold sL;refine cf ho ?_;refine bd (zEr d a ha) ?_;refine cf rfl ?_;refine bd (zUc ha) ?_;exact bd (a:=d.Areas.getD a []) (app0 hold) rfl
set_option maxRecDepth 100000
theorem zIt (w:UInt8) (c:By):Def (iI w c) (λr=>r.1.length=64/\r.2=c):=by
 unfold iI;refine Def.bd (Def.mkN (by decide) (by decide)) (λn hn=>?_);have hn:n=64:=hn;subst hn;refine Def.bd (Def.ck (by simp)) (λ_ _=>?_);refine Def.lt ?_;refine Def.bd (P:=λr=>r.length=64) ?_ (λr hr=>?_)
 ·refine Def.loop (λs=>0<=s.1/\s.1<=64/\s.2.length=64) (λs=>(64 - s.1).toNat) (λs hs=>?_) ⟨Int.le_refl 0,by simp,by rw [zHj];simp⟩ (by simp);obtain ⟨i,l⟩:=s;obtain ⟨h1,h2,h3⟩:=hs;simp only at h1 h2 h3;unfold zAd;refine Def.c (λh=>?_) (λ_=>Def.s h3);rw [decide_eq_true_iff] at h;refine Def.bd (Def.ixN h1 (by omega)) (λj hj=>?_);refine Def.bd (Def.at (by omega)) (λu _=>?_);refine Def.bd (Def.ixN h1 (by omega)) (λj hj=>?_);refine Def.bd (Def.upd (by omega)) (λv hv=>Def.s ?_);rw [yN (by omega) (by omega)];exact ⟨⟨by simp only;omega,by simp only;omega,by simp only [hv,List.length_set];exact h3⟩,by simp only;omega⟩
 ·refine Def.bd (Def.ck (by simp [hr])) (λ_ _=>?_);refine Def.bd (Def.ck (by simp)) (λ_ _=>Def.s ⟨hr,rfl⟩)
theorem zE5 (b:By) (h:b.length<2 ^ 40):Def (xK 1 b) (λr=>r.length=32):=Def.of (zHn b h) (gG b)
theorem zPs (key b:By) (hk:key.length<2 ^ 30) (hb:b.length<2 ^ 30):Def (zDz key b) (λr=>r.length=32):=by
 unfold zDz;refine Def.bd (P:=λr=>r.length<2 ^ 30) ?_ (λk hk2=>?_)
 ·refine Def.c (λ_=>Def.bd (zE5 key (by omega)) (λr hr=>Def.s (by omega))) (λ_=>Def.s hk)
 refine Def.bd (zIt 54 k) (λr hr=>?_);obtain ⟨v,c⟩:=r;obtain ⟨h1,rfl⟩:=hr;simp only at h1;refine Def.bd (Def.app (by omega)) (λa ha=>?_);refine Def.bd (zE5 a (by rw [ha,List.length_append];omega)) (λd hd=>?_);refine Def.bd (zIt 92 _) (λr hr=>?_);obtain ⟨v2,c2⟩:=r;obtain ⟨h2,_⟩:=hr;simp only at h2;refine Def.bd (Def.app (by omega)) (λa2 ha2=>?_);exact Def.bd (zE5 a2 (by rw [ha2,List.length_append];omega)) (λd hd=>Def.s hd)
theorem gC (key label ctx:By) (hk:key.length<2 ^ 30) (hl:label.length<2 ^ 20) (hc:ctx.length<2 ^ 20):Def (jZ key label ctx 32) (λr=>r.length=32):=by
 unfold jZ;refine Def.bd (Def.of (a:=false) rfl (Q:=λr=>r=false) rfl) (λb hb=>?_);subst hb;refine Def.c (λh=>by cases h) (λ_=>?_);refine Def.bd (Def.ck (by simp [Nat.ble_eq];omega)) (λ_ _=>?_);refine Def.bd (Def.app (by simp;omega)) (λa ha=>?_);refine Def.bd (Def.app (by rw [ha];simp;omega)) (λa2 ha2=>?_);refine Def.bd (Def.of (Q:=λr=>r.length=4) rfl rfl) (λf hf=>?_);refine Def.bd (Def.app (by rw [ha2,ha];simp;omega)) (λa3 ha3=>?_);have h3:a3.length<2 ^ 22:=by rw [ha3,ha2,ha];simp;omega
 refine Def.bd (P:=λr=>r.length=32) ?_ (λr hr=>?_)
 ·refine Def.loop (λs=>s.1.length=0∨s.1.length=32) (λs=>32 - s.1.length) (λs hs=>?_) (.inl rfl) (by simp);obtain ⟨o,i⟩:=s;simp only at hs;unfold aZ;refine Def.c (λh=>?_) (λh=>Def.s ?_)
  ·rw [decide_eq_true_iff] at h;have h0:o.length=0:=by omega
   refine Def.bd (Def.of (Q:=λr=>r.length=4) rfl rfl) (λf2 hf2=>?_);refine Def.bd (Def.app (by omega)) (λa4 ha4=>?_);refine Def.bd (zPs key a4 hk (by rw [ha4,List.length_append];omega)) (λm hm=>?_);refine Def.bd (Def.app (by omega)) (λa5 ha5=>Def.s ?_);have h5:a5.length=32:=by rw [ha5,List.length_append];omega
   exact ⟨.inr h5,by simp only;omega⟩
  ·rw [decide_eq_false_iff_not] at h;omega
 ·refine Def.bd (Def.sub (by decide) (by decide) (by omega)) (λu hu=>Def.s ?_);rw [hu];simp [hr]
structure Sst (s:zS):Prop where
 sd:∃ a b c,s.Seeds=[a,b,c]/\a.length=32/\b.length=32/\c.length=32
 au:s.Auths=[[],[],[],[]]
 en:s.Entropy.length=32
 a0:1<=s.Active
 a3:s.Active<=3
 r0:0<=s.Resets
 r1:s.Resets<2 ^ 30
 st:s.Restarts=0
 ck:s.Clock=0
 sv:s.Saved=⟨[],0⟩
 mc:s.MaxCounter=0
 ix:s.Indices=[]
 lo:s.Lockout=⟨0,5,100,0,0,1000⟩
 ks:s.Keys=[]
theorem zM0 (e:By) (active:Int) (he:e.length=32) (h1:1<=active) (h3:active<=3):Def (aD e active) (λr=>r.2=0/\Sst r.1/\r.1.Active=active/\r.1.Resets=0/\r.1.Orderly=true):=by
 unfold aD;refine Def.bd (Def.of (Q:=λr=>r=false) (a:=false) ?_ rfl) (λb hb=>?_)
 ·refine cf (by simp [he]) (cf (by simp;omega) (congrArg some (by simp;omega)))
 subst hb;refine Def.c (λh=>by cases h) (λ_=>?_);refine Def.bd (Def.of (Q:=λr=>r=⟨0,5,100,0,0,1000⟩) rfl rfl) (λlo hlo=>?_);refine Def.bd (P:=λr=>∃ a b c,r=[a,b,c]/\a.length=32/\b.length=32/\c.length=32) ?_ (λr hr=>?_)
 ·obtain ⟨a,e1,l1⟩:=gC e [115,101,101,100] [u8 0] (by omega) (by decide) (by decide);obtain ⟨b,e2,l2⟩:=gC e [115,101,101,100] [u8 1] (by omega) (by decide) (by decide);obtain ⟨c,e3,l3⟩:=gC e [115,101,101,100] [u8 2] (by omega) (by decide) (by decide);refine Def.of (a:=[a,b,c]) ?_ ⟨a,b,c,rfl,l1,l2,l3⟩;refine yK 3 (λi=>((i:Int),[a,b,c].take i)) rfl (λi hi=>?_) ?_ (xW (by decide))
  ·have hi3:i=0∨i=1∨i=2:=by omega
   unfold dG;rcases hi3 with rfl | rfl | rfl
   ·exact ct rfl (bd e1 (bd (yJ (by simp)) rfl))
   ·exact ct rfl (bd e2 (bd (yJ (by simp)) rfl))
   ·exact ct rfl (bd e3 (bd (yJ (by simp)) rfl))
  ·unfold dG;exact cf rfl rfl
 ·refine Def.bd (gC e _ _ (by omega) (by decide) (by decide)) (λen hen=>Def.s ?_);exact ⟨rfl,⟨hr,rfl,hen,h1,h3,Int.le_refl 0,by simp only;decide,rfl,rfl,rfl,rfl,rfl,hlo,rfl⟩,rfl,rfl,rfl⟩
set_option maxRecDepth 100000
def bl (x:By):By:=beN (x.length:Int) 2 2++x
theorem uY (x:By):(bl x).length=2+x.length:=by simp [bl,yY]
theorem wB (b x:By) (hb:b.length<2 ^ 30) (hx:x.length<=65535):wE b x=some (b++bl x):=by
 rw [dC b x (by omega),zBh b hx];rfl
theorem wU (b:By) (k:Nat) (n:Int) (h1:1<=k) (h8:k<=8) (hb:b.length<2 ^ 30):xO b (k:Int) n=some (b++beN n k k):=by
 rw [qW b k n h1 h8 (by omega)];rfl
def bits (b:Bool):UInt8:=if b=true then 1 else 0
def sO (s:zS):By:=
 [1,u8 s.Active]++(bl (s.Seeds.getD 0 [])++(bl (s.Seeds.getD 1 [])++(bl (s.Seeds.getD 2 [])++(bl []++(bl []++(bl []++(bl []++(bl s.Entropy++(beN s.Resets 8 8++(beN 0 8 8++(beN 0 8 8++([bits s.Orderly]++(bl (0 :: beN 0 8 8)++(beN 0 8 8++([0]++(beN 0 8 8++(beN 5 8 8++(beN 100 8 8++(beN 0 8 8++(beN 0 8 8++(beN 1000 8 8++([0]))))))))))))))))))))))
theorem wk1:IntKind.i64.wrap 1=1:=rfl
theorem wk2:IntKind.i64.wrap 2=2:=rfl
theorem wk3:IntKind.i64.wrap 3=3:=rfl
theorem wk4:IntKind.i64.wrap 4=4:=rfl
theorem wk5:IntKind.i64.wrap 5=5:=rfl
theorem wk6:IntKind.i64.wrap 6=6:=rfl
theorem tN {X Y:Type} {step:X->Option (X ⊕ Y)} {x:X} {y:Y} (h:step x=some (.inr y)):zN step FU x=some y:=yK 0 (λ_=>x) rfl (λ_ h=>absurd h (Nat.not_lt_zero _)) h (xW (by decide))
theorem zX8 (a b c:Int) (x:By) (hx:x.length<2 ^ 20):xZ [a,b,c] x=some (((x++beN a 8 8)++beN b 8 8)++beN c 8 8):=by
 unfold xZ;refine ct rfl ?_;refine bd (a:=a) rfl ?_;refine bd (wU x 8 a (by decide) (by decide) (by omega)) ?_;refine bd (a:=((x++beN a 8 8)++beN b 8 8)++beN c 8 8) ?_ rfl;refine two (step:=xT [a,b,c]) (b:=(2,(x++beN a 8 8)++beN b 8 8)) (c:=(3,((x++beN a 8 8)++beN b 8 8)++beN c 8 8)) ?_ ?_ ?_
 ·unfold xT;exact ct rfl (bd (a:=b) rfl (bd (wU _ 8 b (by decide) (by decide) (by simp [yY];omega)) rfl))
 ·unfold xT;exact ct rfl (bd (a:=c) rfl (bd (wU _ 8 c (by decide) (by decide) (by simp [yY];omega)) rfl))
 ·unfold xT;exact cf rfl rfl
theorem yA5 (a:Int) (x:By) (hx:x.length<2 ^ 20):xZ [a] x=some (x++beN a 8 8):=by
 unfold xZ;refine ct rfl ?_;refine bd (a:=a) rfl ?_;refine bd (wU x 8 a (by decide) (by decide) (by omega)) ?_;exact bd (a:=x++beN a 8 8) (tN (by unfold xT;exact cf rfl rfl)) rfl
theorem zXj (a b c d e f:Int) (x:By) (hx:x.length<2 ^ 20):xZ [a,b,c,d,e,f] x=some ((((((x++beN a 8 8)++beN b 8 8)++beN c 8 8)++beN d 8 8)++beN e 8 8)++beN f 8 8):=by
 unfold xZ;refine ct rfl ?_;refine bd (a:=a) rfl ?_;refine bd (wU x 8 a (by decide) (by decide) (by omega)) ?_;refine bd (a:=(((((x++beN a 8 8)++beN b 8 8)++beN c 8 8)++beN d 8 8)++beN e 8 8)++beN f 8 8) ?_ rfl;refine yK 5 (λi=>(((i+1:Nat):Int),(x++beN a 8 8)++([b,c,d,e,f].take i).flatMap (λn=>beN n 8 8))) (by simp) (λi hi=>?_) ?_ (xW (by decide))
 ·have h5:i=0∨i=1∨i=2∨i=3∨i=4:=by omega
  unfold xT;rcases h5 with rfl | rfl | rfl | rfl | rfl <;>
   exact ct rfl (bd rfl (bd (wU _ 8 _ (by decide) (by decide) (by simp [yY];omega)) (by simp [wk2,wk3,wk4,wk5,wk6,List.append_assoc])))
 ·unfold xT;refine cf rfl ?_;simp [List.append_assoc]
theorem zYo:mL ⟨[],0⟩=some (0 :: beN 0 8 8):=by decide +kernel
theorem zD7 (s:zS) (h:Sst s):sW s=some (sO s):=by
 obtain ⟨a,b,c,hs,la,lb,lc⟩:=h.sd;have hse:s.Seeds.getD 0 []=a/\s.Seeds.getD 1 []=b/\s.Seeds.getD 2 []=c:=by rw [hs];exact ⟨rfl,rfl,rfl⟩
 have hen:=h.en;unfold sW;refine bd (a:=(([1,u8 s.Active]++bl a)++bl b)++bl c) ?_ ?_
 ·refine yK 3 (λi=>((i:Int),[1,u8 s.Active]++([a,b,c].take i).flatMap bl)) (by simp) (λi hi=>?_) ?_ (xW (by decide))
  ·have h3:i=0∨i=1∨i=2:=by omega
   unfold lW;rw [hs];rcases h3 with rfl | rfl | rfl
   ·exact ct rfl (bd (a:=a) rfl (bd (wB _ a (by simp) (by omega)) (by simp [wk1])))
   ·exact ct rfl (bd (a:=b) rfl (bd (wB _ b (by simp [uY];omega) (by omega)) (by simp [wk2,wk3])))
   ·exact ct rfl (bd (a:=c) rfl (bd (wB _ c (by simp [uY];omega) (by omega)) (by simp [wk2,wk3])))
  ·unfold lW;refine cf rfl (by simp)
 refine bd (a:=((((([1,u8 s.Active]++bl a)++bl b)++bl c)++bl []++bl [])++bl [])++bl []) ?_ ?_
 ·generalize hX:(([1,u8 s.Active]++bl a)++bl b)++bl c=X;have lX:X.length<200:=by rw [<- hX];simp [uY];omega
  refine yK 4 (λi=>((i:Int),X++(List.replicate i ([]:By)).flatMap bl)) (by simp) (λi hi=>?_) ?_ (xW (by decide))
  ·have h3:i=0∨i=1∨i=2∨i=3:=by omega
   unfold kB;rw [h.au];rcases h3 with rfl | rfl | rfl | rfl <;>
    exact ct rfl (bd (a:=[]) rfl (bd (wB _ [] (by simp [uY];omega) (by decide)) (by simp [List.replicate,wk1,wk2,wk3,wk4])))
  ·unfold kB;refine cf rfl (by simp [List.replicate])
 generalize hX:((((([1,u8 s.Active]++bl a)++bl b)++bl c)++bl []++bl [])++bl [])++bl []=X;have lX:X.length<200:=by rw [<- hX];simp [uY];omega
 refine bd (wB X s.Entropy (by omega) (by omega)) ?_;rw [h.st,h.ck,h.mc,h.sv,h.ix,h.lo,h.ks];refine bd (zX8 s.Resets 0 0 _ (by simp [uY];omega)) ?_;refine bd (a:=bits s.Orderly) (by unfold bW bits;cases s.Orderly<;>rfl) ?_;refine bd (yJ (by simp [uY,yY];omega)) ?_;refine bd zYo ?_;refine bd (wB _ _ (by simp [uY,yY];omega) (by simp [yY])) ?_;refine bd (yA5 0 _ (by simp [uY,yY];omega)) ?_;refine bd (yJ (by simp [uY,yY];omega)) ?_;refine bd (tN (by unfold dQ;rw [h.ix];exact cf rfl rfl)) ?_;refine bd (zXj 0 5 100 0 0 1000 _ (by simp [uY,yY];omega)) ?_;refine bd (yJ (by simp [uY,yY];omega)) ?_;refine bd (tN (by unfold dO;rw [h.ks];exact cf rfl rfl)) ?_;refine congrArg some ?_;rw [<- hX];unfold sO;rw [hse.1,hse.2.1,hse.2.2];simp only [List.append_assoc];rfl
set_option maxRecDepth 100000
structure Rd (r:RS) (l:By):Prop where
 m:Rem r l
 o:r.Ok
section
variable {r:RS} {x rest:By} 
theorem zJs (b:By) (hb:b.length<2 ^ 40):∃ r,Rd r b/\sH b=some r.W:=⟨⟨b,0,0⟩,⟨⟨rfl,Nat.zero_le _,rfl⟩,Nat.zero_le _,hb⟩,zM8 b hb⟩
theorem rdU (h:Rd r (beN n k k++rest)) (h1:1<=k) (h8:k<=8) (h0:0<=n) (hn:n<2 ^ 62) (hs:n.toNat<256 ^ k):∃ r',Rd r' rest/\yC r.W (k:Int)=some (n,r'.W):=by
 obtain ⟨e,m⟩:=Rem.uintI h.m h8 h0 hn hs;have ok:=eA r k h.o;rw [e] at ok;exact ⟨r.to k,⟨m,ok⟩,by rw [vU r k h.o h1 h8,e]⟩
theorem rdBt (h:Rd r (u8 n :: rest)) (h0:0<=n) (hn:n<256):∃ r',Rd r' rest/\yC r.W 1=some (n,r'.W):=by
 obtain ⟨e,m⟩:=Rem.byte h.m h0 hn;have ok:=eA r 1 h.o;rw [e] at ok;exact ⟨r.to 1,⟨m,ok⟩,by have:=vU r 1 h.o (by decide) (by decide);rw [e] at this;exact this⟩
theorem zQu (h:Rd r (bl x++rest)) (hx:x.length<=65535) (hk:x.length<=k):∃ r',Rd r' rest/\yQ r.W (k:Int)=some (x,r'.W):=by
 have h':=h.m;unfold bl at h';rw [List.append_assoc] at h';obtain ⟨e,m⟩:=Rem.blobN h' hx hk;have ok:=aE r k h.o;rw [e] at ok;exact ⟨_,⟨m,ok⟩,by rw [uO r k h.o,e]⟩
theorem rdRw (h:Rd r (x++rest)) (hx:x.length=k):∃ r',Rd r' rest/\vM r.W (k:Int)=some (x,r'.W):=by
 have e:=Rem.raw h.m hx;have ok:=zPf r k h.o;rw [e] at ok;exact ⟨_,⟨Rem.to h.m hx,ok⟩,by rw [zC2 r k h.o,e]⟩
theorem rdE (h:Rd r []):xX r.W=some (0,r.W):=by rw [sR r h.o,Rem.fin h.m]
theorem zKt {l:By} (h:Rd r l):xG r.W=some (0,r.W):=by unfold xG;exact congrArg some (congrArg (·,r.W) h.m.e)
theorem Rd.cast {l l':By} (h:Rd r l) (e:l=l'):Rd r l':=e▸h
theorem numG (h:Rd r (beN n k k++rest)) (h1:1<=k) (h8:k<=8) (h0:0<=n) (hn:n<2 ^ 62) (hs:n.toNat<256 ^ k) (hm:n<=most):∃ r',Rd r' rest/\xB (k:Int) most 0 r.W=some (n,0,r'.W):=by
 obtain ⟨r',g,e⟩:=rdU h h1 h8 h0 hn hs;refine ⟨r',g,?_⟩;unfold xB;refine cf rfl ?_;refine bd e ?_;refine bd (zKt g) ?_;refine bd (a:=0) (bd (a:=false) (ct rfl (congrArg some (by simp;omega))) (cf rfl rfl)) ?_;exact cf rfl rfl
theorem zO3 (h:Rd r (u8 n :: rest)) (h0:0<=n) (hn:n<256) (hm:n<=most):∃ r',Rd r' rest/\xB 1 most 0 r.W=some (n,0,r'.W):=by
 obtain ⟨r',g,e⟩:=rdBt h h0 hn;refine ⟨r',g,?_⟩;unfold xB;refine cf rfl ?_;refine bd e ?_;refine bd (zKt g) ?_;refine bd (a:=0) (bd (a:=false) (ct rfl (congrArg some (by simp;omega))) (cf rfl rfl)) ?_;exact cf rfl rfl
theorem zGf (h:Rd r (beN n 8 8++rest)) (h0:0<=n) (hn:n<2 ^ 62):∃ r',Rd r' rest/\yT 8 0 r.W=some (n,0,r'.W):=by
 obtain ⟨r',g,e⟩:=numG (k:=8) (most:=9223372036854775807) h (by decide) (by decide) h0 hn (by omega) (by omega);exact ⟨r',g,bd e rfl⟩
theorem any1 (h:Rd r (u8 n :: rest)) (h0:0<=n) (hn:n<256):∃ r',Rd r' rest/\yT 1 0 r.W=some (n,0,r'.W):=by
 obtain ⟨r',g,e⟩:=zO3 (most:=9223372036854775807) h h0 hn (by omega);exact ⟨r',g,bd e rfl⟩
theorem zOs (h:Rd r (bl x++rest)) (hx:x.length<=4096):∃ r',Rd r' rest/\vG 0 r.W=some (x,0,r'.W):=by
 obtain ⟨r',g,e⟩:=zQu (k:=4096) h (by omega) hx;refine ⟨r',g,?_⟩;unfold vG;exact cf rfl (bd e (bd (zKt g) rfl))
theorem zJq:∀ (L:List By) (fuel:Nat) (acc:List By) (v n:Int) (r:RS),L.length<fuel->Rd r (L.flatMap bl++rest)->(∀ x∈L,x.length<=4096)->v+L.length=n->0<=v->n<=100->acc.length<=100->(acc.length:Int)<=v ->
  ∃ r',Rd r' rest/\zN (vR n) fuel (acc,v,0,r.b,(r.at':Int),r.e)=some (acc++L,0,r'.b,(r'.at':Int),r'.e)
 | [],f+1,acc,v,n,r,_,h,_,hv,_,_,_,_=>by
  refine ⟨r,h.cast (by simp),?_⟩;simp only [zN];have:vR n (acc,v,0,r.b,(r.at':Int),r.e)=some (.inr (acc,0,r.b,(r.at':Int),r.e)):=by
   unfold vR;exact cf (by simp at hv;simp;omega) rfl
  rw [this,List.append_nil]
 | x :: L,f+1,acc,v,n,r,hf,h,hL,hv,h0,hn,ha,hav=>by
  have hx:=hL x (List.mem_cons_self ..);simp only [List.length_cons] at hf hv;obtain ⟨r1,g1,e1⟩:=zOs (x:=x) (rest:=L.flatMap bl++rest) (h.cast (by simp)) hx;obtain ⟨r',g',e'⟩:=zJq L f (acc++[x]) (v+1) n r1 (by omega) g1 (λy hy=>hL y (List.mem_cons_of_mem _ hy)) (by omega) (by omega) hn (by simp;omega) (by simp;omega);refine ⟨r',g',?_⟩;simp only [zN];have:vR n (acc,v,0,r.b,(r.at':Int),r.e)=some (.inl (acc++[x],v+1,0,r1.b,(r1.at':Int),r1.e)):=by
   unfold vR;refine ct (by simp;omega) ?_;refine bd e1 ?_;refine bd (yJ (by simp;omega)) ?_;rw [yN (by omega) (by omega)];rfl
  rw [this];simp only [e',List.append_assoc,List.singleton_append]
theorem zPb (L:List By) (k:Int) (hk:(L.length:Int)=k) (h4:L.length<=4) (h:Rd r (L.flatMap bl++rest)) (hL:∀ x∈L,x.length<=4096):∃ r',Rd r' rest/\rC k 0 r.W=some (L,0,r'.W):=by
 obtain ⟨r',g,e⟩:=zJq L FU [] 0 k r (xW (by omega)) h hL (by omega) (Int.le_refl 0) (by omega) (by simp) (by simp);refine ⟨r',g,?_⟩;unfold rC;exact bd e rfl
theorem zYn (h:Rd r ([bits b]++rest)):∃ r',Rd r' rest/\nM 0 r.W=some (b,0,r'.W):=by
 have hb:bits b=u8 (if b=true then 1 else 0):=by cases b<;>rfl
 obtain ⟨r',g,e⟩:=zO3 (n:=if b=true then 1 else 0) (most:=1) (h.cast (by rw [hb];rfl)) (by split<;>decide) (by split<;>decide) (by split<;>decide);refine ⟨r',g,bd e ?_⟩;cases b<;>rfl
theorem yAe:mG (0 :: beN 0 8 8)=some (⟨[],0⟩,0):=by decide +kernel
theorem zWd (h:Rd r (bl (0 :: beN 0 8 8)++rest)):∃ r',Rd r' rest/\sY 0 r.W=some (⟨[],0⟩,0,r'.W):=by
 obtain ⟨r',g,e⟩:=zOs h (by simp [yY]);refine ⟨r',g,?_⟩;unfold sY;exact bd e (cf rfl (bd yAe rfl))
theorem zYv (s:zS) (h:Sst s):kP (sO s)=some (s,0):=by
 obtain ⟨a,b,c,hs,la,lb,lc⟩:=h.sd;have hse:s.Seeds.getD 0 []=a/\s.Seeds.getD 1 []=b/\s.Seeds.getD 2 []=c:=by rw [hs];exact ⟨rfl,rfl,rfl⟩
 have hen:=h.en;have hlen:(sO s).length<2 ^ 40:=by
  unfold sO;rw [hse.1,hse.2.1,hse.2.2];simp only [List.length_append,uY,yY,List.length_cons,List.length_nil];omega
 obtain ⟨r0,g0,e0⟩:=zJs (sO s) hlen;unfold sO at g0;rw [hse.1,hse.2.1,hse.2.2] at g0;unfold kP;refine bd e0 ?_;obtain ⟨r1,g1,e1⟩:=any1 (n:=1) (rest:=_) (g0.cast rfl) (by decide) (by decide);refine bd e1 ?_;refine bd (a:=0) (bd (a:=false) rfl (cf rfl rfl)) ?_;obtain ⟨r2,g2,e2⟩:=zO3 (n:=s.Active) (most:=3) (g1.cast rfl) (by have:=h.a0;omega) (by have:=h.a3;omega) h.a3;refine bd e2 ?_;obtain ⟨r3,g3,e3⟩:=zPb [a,b,c] 3 rfl (by simp) (rest:=_) (g2.cast (by simp only [List.flatMap_cons,List.flatMap_nil,List.append_nil,List.append_assoc,List.nil_append];rfl)) (by simp;omega);refine bd e3 ?_;obtain ⟨r4,g4,e4⟩:=zPb [[],[],[],[]] 4 rfl (by simp) (rest:=_) (g3.cast (by simp only [List.flatMap_cons,List.flatMap_nil,List.append_nil,List.append_assoc];rfl)) (by simp);refine bd e4 ?_;obtain ⟨r5,g5,e5⟩:=zOs g4 (by omega);refine bd e5 ?_;obtain ⟨r6,g6,e6⟩:=zGf g5 h.r0 (by have:=h.r1;omega);refine bd e6 ?_;obtain ⟨r7,g7,e7⟩:=zGf g6 (by decide) (by decide);refine bd e7 ?_;obtain ⟨r8,g8,e8⟩:=zGf g7 (by decide) (by decide);refine bd e8 ?_;obtain ⟨r9,g9,e9⟩:=zYn g8;refine bd e9 ?_;obtain ⟨r10,g10,e10⟩:=zWd g9;refine bd e10 ?_;obtain ⟨r11,g11,e11⟩:=zGf g10 (by decide) (by decide);refine bd e11 ?_;obtain ⟨r12,g12,e12⟩:=zO3 (n:=0) (most:=6) (g11.cast rfl) (by decide) (by decide) (by decide);refine bd e12 ?_;refine bd (tN (by unfold dJ;exact cf rfl rfl)) ?_;obtain ⟨q1,k1,f1⟩:=zGf g12 (by decide) (by decide);refine bd f1 ?_;obtain ⟨q2,k2,f2⟩:=zGf k1 (by decide) (by decide);refine bd f2 ?_;obtain ⟨q3,k3,f3⟩:=zGf k2 (by decide) (by decide);refine bd f3 ?_;obtain ⟨q4,k4,f4⟩:=zGf k3 (by decide) (by decide);refine bd f4 ?_;obtain ⟨q5,k5,f5⟩:=zGf k4 (by decide) (by decide);refine bd f5 ?_;obtain ⟨q6,k6,f6⟩:=zGf k5 (by decide) (by decide);refine bd f6 ?_;obtain ⟨q7,k7,f7⟩:=zO3 (n:=0) (most:=8) (rest:=[]) (k6.cast rfl) (by decide) (by decide) (by decide);refine bd f7 ?_;refine bd (a:=([],0,q7.b,(q7.at':Int),q7.e)) (tN (by unfold dR;exact cf rfl rfl)) ?_;refine bd (a:=(0,q7.b,(q7.at':Int),q7.e)) (ct rfl (bd (rdE k7) rfl)) ?_;refine cf rfl ?_;refine congrArg (λz=>some (z,(0:Int))) ?_;have h2:=h.au;have h8:=h.st;have h9:=h.ck;have h10:=h.sv;have h11:=h.mc;have h12:=h.ix;have h13:=h.lo;have h14:=h.ks;clear h;cases s;simp only at hs h2 h8 h9 h10 h11 h12 h13 h14;subst h2 h8 h9 h10 h11 h12 h13 h14 hs;rfl
end
set_option maxRecDepth 100000
def mrk (seq:Int) (p:By):By:=hs 12 [beN seq 8 8,p]
theorem zHf (seq:Int) (p:By):(mrk seq p).length=32:=lU _ _
theorem zLz (seq:Int) (p:By) (hp:p.length<2 ^ 20):oW seq p=some (mrk seq p):=by
 unfold oW;refine bd (wU [] 8 seq (by decide) (by decide) (by decide)) ?_;refine bd (zE6 12 [[]++beN seq 8 8,p] (by simp [tot,yY];omega)) rfl
def kK (seq:Nat) (p:By):By:=mrk seq p++(beN (seq:Int) 8 8++(beN (p.length:Int) 4 4++p))
theorem zFh (seq:Nat) (p:By):(kK seq p).length=44+p.length:=by simp [kK,zHf,yY];omega
theorem zSn (seq:Nat):Int.tmod (seq:Int) 2=((seq % 2:Nat):Int):=by rw [Int.tmod_eq_emod_of_nonneg (by omega)];rfl
theorem zPe:mR 0=some true:=rfl
theorem zG4 (d:zU) (seq:Nat) (p:By) (h1:1<=seq) (h2:seq<2 ^ 30) (hp:p.length<=60000) {r:zU×Int} (hw:mH d ((seq % 2:Nat):Int) (kK seq p)=some r):qE d 0 (seq:Int) p=some r:=by
 unfold qE;refine bd (a:=false) (cf (by simp;omega) (cf (by simp;omega) (bd zPe rfl))) ?_;refine cf rfl ?_;refine cf (by simp;omega) ?_;refine bd (zLz _ p (by omega)) ?_;have hm:=zHf (seq:Int) p;refine bd (wU _ 8 _ (by decide) (by decide) (by omega)) ?_;refine bd (wU _ 4 _ (by decide) (by decide) (by simp [yY];omega)) ?_;refine bd (yJ (by simp [yY];omega)) ?_;rw [zSn];have e:IntKind.i64.wrap (0+((seq % 2:Nat):Int))=((seq % 2:Nat):Int):=by rw [yN (by omega) (by omega)];omega
 rw [e];refine bd (a:=r) ?_ rfl;rw [<- hw];simp only [kK,List.append_assoc]
theorem zE7 (seq:Nat) (p:By) (h1:1<=seq) (h2:seq<2 ^ 30) (hp:p.length<=60000):uP (kK seq p) ((seq % 2:Nat):Int)=some (p,(seq:Int),true):=by
 have hl:=zFh seq p;obtain ⟨r0,g0,e0⟩:=zJs (kK seq p) (by omega);unfold uP;refine bd e0 ?_;unfold kK at g0;obtain ⟨r1,g1,e1⟩:=rdRw (k:=32) g0 (zHf _ _);refine bd e1 ?_;obtain ⟨r2,g2,e2⟩:=rdU (k:=8) g1 (by decide) (by decide) (by omega) (by omega) (by omega);refine bd e2 ?_;obtain ⟨r3,g3,e3⟩:=rdU (k:=4) g2 (by decide) (by decide) (by omega) (by omega) (by omega);refine bd e3 ?_;obtain ⟨r4,g4,e4⟩:=rdRw (k:=p.length) (x:=p) (rest:=[]) (g3.cast (by simp)) rfl;refine bd e4 ?_;refine bd (a:=false) (bd (zKt g4) (cf rfl (cf (by simp;omega) (cf (by rw [zSn];simp) (bd (zLz _ p (by omega)) (congrArg some (by simp))))))) ?_;exact cf rfl rfl
theorem zNa (w:Int):uP [] w=some ([],0,false):=by
 unfold uP;refine bd (zM8 [] (by decide)) ?_;refine bd (a:=([],RS.W ⟨[],0,2⟩)) rfl ?_;refine bd (a:=(0,RS.W ⟨[],0,2⟩)) rfl ?_;refine bd (a:=(0,RS.W ⟨[],0,2⟩)) rfl ?_;refine bd (a:=([],RS.W ⟨[],0,2⟩)) rfl ?_;exact bd (a:=true) rfl (ct rfl rfl)
structure Jr (as:List By) (seq:Nat) (p:By):Prop where
 a:as.getD (seq % 2) []=kK seq p
 b:∃ q s ok,uP (as.getD (1 - seq % 2) []) ((1 - seq % 2:Nat):Int)=some (q,s,ok)/\(ok=true->s<seq)
 s1:1<=seq
 s2:seq<2 ^ 29
 pl:p.length<=60000
theorem zKb (d:zU) (seq:Nat) (p:By) (ho:d.Off=false) (h2:2<=d.Areas.length) (hal:∀ i,(d.Areas.getD i []).length<2 ^ 40) (h:Jr d.Areas seq p):oD d 0=some (p,(seq:Int),0):=by
 obtain ⟨ha,⟨q,s,ok,hb,hs⟩,s1,s2,pl⟩:=h;have hp:=zE7 seq p s1 (by omega) pl;rw [<- ha] at hp;unfold oD;refine bd zPe ?_;refine cf rfl ?_;refine bd (zBo d 0 ho (by omega) (hal 0)) ?_;refine cf rfl ?_;refine bd (zBo d 1 ho (by omega) (hal 1)) ?_;refine cf rfl ?_;have h01:seq % 2=0∨seq % 2=1:=by omega
 rcases h01 with hm | hm
 ·rw [hm] at hp hb;refine bd (a:=(p,(seq:Int),true)) (bd (a:=d.Areas.getD 0 []) rfl (bd hp (bd (a:=true) (ct rfl (congrArg some (by simp;omega))) (ct rfl rfl)))) ?_;refine bd (a:=(p,(seq:Int),true)) (bd (a:=d.Areas.getD 1 []) rfl (bd hb (bd (a:=false) ?_ (cf rfl rfl)))) ?_
  ·cases ok
   ·exact cf rfl rfl
   ·exact ct rfl (congrArg some (by have:=hs rfl;simp;omega))
  ·exact cf rfl rfl
 ·rw [hm] at hp hb;cases ok
  ·refine bd (a:=([],0,false)) (bd (a:=d.Areas.getD 0 []) rfl (bd hb (bd (a:=false) (cf rfl rfl) (cf rfl rfl)))) ?_;refine bd (a:=(p,(seq:Int),true)) (bd (a:=d.Areas.getD 1 []) rfl (bd hp (bd (a:=true) (ct rfl (congrArg some (by simp;omega))) (ct rfl rfl)))) ?_;exact cf rfl rfl
  ·have hlt:=hs rfl;by_cases h0:0<s
   ·refine bd (a:=(q,s,true)) (bd (a:=d.Areas.getD 0 []) rfl (bd hb (bd (a:=true) (ct rfl (congrArg some (by simp [h0]))) (ct rfl rfl)))) ?_;refine bd (a:=(p,(seq:Int),true)) (bd (a:=d.Areas.getD 1 []) rfl (bd hp (bd (a:=true) (ct rfl (congrArg some (by simp [hlt]))) (ct rfl rfl)))) ?_;exact cf rfl rfl
   ·refine bd (a:=([],0,false)) (bd (a:=d.Areas.getD 0 []) rfl (bd hb (bd (a:=false) (ct rfl (congrArg some (by simp [h0]))) (cf rfl rfl)))) ?_;refine bd (a:=(p,(seq:Int),true)) (bd (a:=d.Areas.getD 1 []) rfl (bd hp (bd (a:=true) (ct rfl (congrArg some (by simp;omega))) (ct rfl rfl)))) ?_;exact cf rfl rfl
theorem vC (h:a<as.length):(as.set a y).getD a []=y:=by simp [List.getD_eq_getElem?_getD,h]
theorem getD_set_ne {b:Nat} (h:a≠b):(as.set a y).getD b []=as.getD b []:=by simp [List.getD_eq_getElem?_getD,List.getElem?_set_ne h]
theorem Jr.next {p':By} (h:Jr as seq p) (h2:2<=as.length) (hs:seq+1<2 ^ 29) (hp:p'.length<=60000):Jr (as.set ((seq+1) % 2) (kK (seq+1) p')) (seq+1) p':=by
 refine ⟨vC (by omega),⟨p,(seq:Int),true,?_,λ_=>by omega⟩,by omega,hs,hp⟩;rw [getD_set_ne (by omega)];have e:1 - (seq+1) % 2=seq % 2:=by omega
 rw [e,h.a];exact zE7 seq p h.s1 (by have:=h.s2;omega) h.pl
theorem Jr.other (h:Jr as seq p) (ha:2<=a):Jr (as.set a y) seq p:=by
 refine ⟨by rw [getD_set_ne (by omega)];exact h.a,?_,h.s1,h.s2,h.pl⟩;rw [getD_set_ne (by omega)];exact h.b
theorem Jr.first (n:Nat) (p:By) (hn:2<=n) (hp:p.length<=60000):Jr ((List.replicate n ([]:By)).set 1 (kK 1 p)) 1 p:=by
 refine ⟨vC (by simp;omega),⟨[],0,false,?_,λh=>by cases h⟩,by decide,by decide,hp⟩;rw [getD_set_ne (by decide)];have:(List.replicate n ([]:By)).getD (1 - 1 % 2) []=[]:=by simp [List.getD_eq_getElem?_getD,List.getElem?_replicate];split<;>rfl
 rw [this];exact zNa _
set_option maxRecDepth 100000
def zDn (d:zD):zD:=⟨⟨d.Disk.Areas,d.Disk.Writes,d.Disk.CutAt,d.Disk.Torn,true⟩,default,false,d.Next⟩
theorem zJj (d:zD):rG d=some (zDn d):=rfl
def zOu:yE:=⟨false,false,⟨[],0⟩,0,false,0,List.replicate 3 default,List.replicate 3 default,[],[]⟩
structure Dk (d:zU) (seq:Nat) (st:zS) (m:Nat):Prop where
 ok:zJa d
 m0:d.Writes<=m
 m1:m<2 ^ 50
 n:d.Areas.length=8
 al:∀ i,(d.Areas.getD i []).length<2 ^ 39
 jr:Jr d.Areas seq (sO st)
 sst:Sst st
structure Dv (d:zD) (seq:Nat) (st:zS) (vo:yE) (m:Nat):Prop extends Dk d.Disk seq st m where
 on:d.On=true
 off:d.Disk.Off=false
 cut:d.Disk.CutAt=0
 s:d.State=⟨st,vo⟩
 nx:d.Next=(seq:Int)+1
theorem Dv.noC (h:Dv d seq st vo m):¬ isC d.Disk:=by
 have:=h.ok.w0;have h2:=h.cut;unfold isC;omega
theorem zI4 (s:zS) (h:Sst s):(sO s).length<=400:=by
 obtain ⟨a,b,c,hs,la,lb,lc⟩:=h.sd;have hse:s.Seeds.getD 0 []=a/\s.Seeds.getD 1 []=b/\s.Seeds.getD 2 []=c:=by rw [hs];exact ⟨rfl,rfl,rfl⟩
 have hen:=h.en;unfold sO;rw [hse.1,hse.2.1,hse.2.2];simp only [List.length_append,uY,yY,List.length_cons,List.length_nil];omega
theorem zE0 (h1:d.On=true) (h2:d.Disk.Off=false):vF d=some true:=by
 unfold vF;exact bd (a:=true) (ct h1 (by rw [h2];rfl)) rfl
theorem zJb (h1:d.On=false):vF d=some false:=by
 unfold vF;exact bd (a:=false) (cf h1 rfl) rfl
theorem zHy (h2:d.Disk.Off=true):vF d=some false:=by
 unfold vF;cases h:d.On
 ·exact bd (a:=false) (cf rfl rfl) rfl
 ·exact bd (a:=false) (ct rfl (by rw [h2];rfl)) rfl
def onD (d:zD) (seq:Nat) (st:zS):zD:=⟨⟨d.Disk.Areas,0,0,0,false⟩,⟨st,zOu⟩,true,(seq:Int)+1⟩
theorem zFb (d:zD) (seq:Nat) (st:zS) (hp:d.On=false∨d.Disk.Off=true) (h2:d.Disk.Areas.length=8) (hal:∀ i,(d.Disk.Areas.getD i []).length<2 ^ 39) (h:Jr d.Disk.Areas seq (sO st)) (hs:Sst st):tB d=some (onD d seq st,0):=by
 unfold tB;refine bd (a:=false) (hp.elim zJb zHy) ?_;refine cf rfl ?_;refine bd (a:=⟨d.Disk.Areas,0,0,0,false⟩) rfl ?_;refine bd (zKb ⟨d.Disk.Areas,0,0,0,false⟩ seq (sO st) rfl (by simp only;omega) (λi=>by have:=hal i;simp only;omega) h) ?_;refine cf rfl ?_;refine bd (zYv st hs) ?_;refine cf rfl ?_;refine bd rfl ?_;have:=h.s2;rw [yN (by omega) (by omega)];have e:(zS.mk st.Seeds st.Auths st.Entropy st.Active st.Resets st.Restarts st.Clock st.Orderly st.Saved st.MaxCounter [] st.Lockout st.Keys)=st:=by
  have:=hs.ix;cases st;simp only at this;rw [this]
 refine congrArg (λz=>some (z,(0:Int))) ?_;show (zD.mk _ (zV.mk (zS.mk st.Seeds st.Auths st.Entropy st.Active st.Resets st.Restarts st.Clock st.Orderly st.Saved st.MaxCounter [] st.Lockout st.Keys) _) _ _)=_;rw [e];rfl
theorem Dv.of_on (h2:d.Disk.Areas.length=8) (hal:∀ i,(d.Disk.Areas.getD i []).length<2 ^ 39) (h:Jr d.Disk.Areas seq (sO st)) (hs:Sst st) (m:Nat) (hm:m<2 ^ 50):Dv (onD d seq st) seq st zOu m:=
 ⟨⟨⟨by show d.Disk.Areas.length<=64;omega,Int.le_refl 0,by show (0:Int)<2 ^ 60;decide⟩,by show (0:Int)<=m;omega,hm,h2,hal,h,hs⟩,rfl,rfl,rfl,rfl,rfl⟩
theorem zQf (d:zD) (seq:Nat) (st:zS) (h2:d.Disk.Areas.length=8) (hal:∀ i,(d.Disk.Areas.getD i []).length<2 ^ 39) (h:Jr d.Disk.Areas seq (sO st)) (hs:Sst st):lI d=some (onD d seq st,true):=by
 unfold lI;refine bd (zJj d) ?_;refine bd (zFb (zDn d) seq st (.inl rfl) h2 hal h hs) ?_;rfl
theorem Dk.again (h:Dk d.Disk seq st m):lI d=some (onD d seq st,true)/\∀ m',m'<2 ^ 50->Dv (onD d seq st) seq st zOu m':=
 ⟨zQf d seq st h.n h.al h.jr h.sst,λm' hm=>Dv.of_on h.n h.al h.jr h.sst m' hm⟩
theorem zLs (n i:Nat):(List.replicate n ([]:By)).getD i []=[]:=by simp [List.getD_eq_getElem?_getD,List.getElem?_replicate];split<;>rfl
theorem new8:zFn 8=some ⟨List.replicate 8 [],0,0,0,false⟩:=by decide +kernel
theorem zNh (s:zS) (h:Sst s):sW (zS.mk s.Seeds s.Auths s.Entropy s.Active s.Resets s.Restarts s.Clock s.Orderly (zF.mk [] s.Saved.Updates) s.MaxCounter [] s.Lockout [])=some (sO s):=by
 rw [<- zD7 s h];have h1:=h.sv;have h2:=h.ix;have h3:=h.ks;clear h;cases s;simp only at h1 h2 h3;subst h1 h2 h3;rfl
theorem zJ2 (e:By) (active:Int) (he:e.length=32) (h1:1<=active) (h3:active<=3):Def (oQ 8 e active) (λr=>r.2=0/\(∃ d0,r.1=zDn d0)/\∃ st,Dk r.1.Disk 1 st 1/\st.Active=active/\st.Resets=0/\∀ a,2<=a->r.1.Disk.Areas.getD a []=[]):=by
 unfold oQ;refine Def.bd (Def.of (a:=false) (Q:=λr=>r=false) rfl rfl) (λb hb=>?_);subst hb;refine Def.c (λh=>by cases h) (λ_=>?_);refine Def.bd (zM0 e active he h1 h3) (λr hr=>?_);obtain ⟨st,x⟩:=r;obtain ⟨hx,hs,ha,hr0,_⟩:=hr;simp only at hx hs ha hr0;subst hx;refine Def.c (λh=>by cases h) (λ_=>?_);have hl:=zI4 st hs;have hrl:=zFh 1 (sO st);let dk:zU:=⟨List.replicate 8 [],0,0,0,false⟩;have hok:zJa dk:=⟨by decide,by decide,by decide⟩;have hw:=zBp dk 1 (kK 1 (sO st)) hok rfl (by decide) (by omega) (by decide);have hwc:wrC dk (dk.Areas.getD 1 []) (kK 1 (sO st))=kK 1 (sO st):=by
  unfold wrC cS;rw [if_neg (show ¬ (dk.Writes+1=dk.CutAt) by decide),if_neg (show ¬ isC dk by unfold isC;decide),List.take_length,List.append_nil]
 rw [hwc,show zDl dk=0 from if_neg (show ¬ isC dk by unfold isC;decide)] at hw;have hcm:=zG4 dk 1 (sO st) (by decide) (by decide) (by omega) hw;refine Def.bd (Def.of (Q:=λr=>r=dk) new8 rfl) (λr hr=>?_);subst hr;refine Def.bd (Def.of (Q:=λr=>r=sO st) (zNh st hs) rfl) (λp hp=>?_);subst hp;refine Def.bd (Def.of (Q:=λr=>r=(aS dk 1 (kK 1 (sO st)),0)) hcm rfl) (λr hr=>?_);subst hr;refine Def.c (λh=>by cases h) (λ_=>?_);refine Def.of (a:=(zDn ⟨aS dk 1 (kK 1 (sO st)),default,false,2⟩,0)) rfl ⟨rfl,⟨_,rfl⟩,st,?_,ha,hr0,λa ha=>(getD_set_ne (by omega)).trans (zLs 8 a)⟩;have hj:=Jr.first 8 (sO st) (by decide) (by omega);refine ⟨⟨by show ((List.replicate 8 ([]:By)).set 1 (kK 1 (sO st))).length<=64;simp,by show (0:Int)<=0+1;decide,by show (0:Int)+1<2 ^ 60;decide⟩,by show (0:Int)+1<=((1:Nat):Int);decide,by decide,by show ((List.replicate 8 ([]:By)).set 1 (kK 1 (sO st))).length=8;simp,λi=>?_,hj,hs⟩;show (((List.replicate 8 ([]:By)).set 1 (kK 1 (sO st))).getD i []).length<2 ^ 39;by_cases hi:1=i
 ·subst hi;rw [vC (by simp)];omega
 ·rw [getD_set_ne hi];rw [zLs];decide
def aI (d:zD) (a:Nat) (y:By):zD:=⟨aS d.Disk a y,d.State,d.On,d.Next⟩
theorem zMc (d:zD) (x:zU):oN d x 0=some (⟨x,d.State,d.On,d.Next⟩,0):=rfl
theorem zOq (d:zD) (x:zU):oN d x 29=some (zDn ⟨x,d.State,d.On,d.Next⟩,29):=rfl
theorem zKa (hal:∀ i,(as.getD i []).length<2 ^ 39) (hy:y.length<2 ^ 39) (ha:a<as.length):∀ i,((as.set a y).getD i []).length<2 ^ 39:=λi=>by
 by_cases hi:a=i
 ·subst hi;rw [vC ha];exact hy
 ·rw [getD_set_ne hi];exact hal i
theorem Dv.set (h:Dv d seq st vo m) (ha:2<=a) (h8:a<8) (hy:y.length<2 ^ 39) (hm:m+1<2 ^ 50):Dv (aI d a y) seq st vo (m+1):=by
 have hn:=h.n;have hok:=h.ok;have hm0:=h.m0;refine ⟨⟨⟨?_,?_,?_⟩,?_,hm,?_,?_,h.jr.other ha,h.sst⟩,h.on,?_,h.cut,h.s,h.nx⟩
 ·show (d.Disk.Areas.set a y).length<=64;simp;omega
 ·show 0<=d.Disk.Writes+1;have:=hok.w0;omega
 ·show d.Disk.Writes+1<2 ^ 60;omega
 ·show d.Disk.Writes+1<=((m+1:Nat):Int);omega
 ·show (d.Disk.Areas.set a y).length=8;simp [hn]
 ·exact zKa h.al hy (by omega)
 ·show decide (isC d.Disk)=false;exact decide_eq_false h.noC
theorem Dv.write (h:Dv d seq st vo m) (y:By) (h8:a<8) (hy:y.length<=65536):tX d (a:Int) y=some (aI d a y,0):=by
 have hw:=zBp d.Disk a y h.ok h.off (by rw [h.n];exact h8) hy (by have:=h.al a;omega);have hc:=h.noC;have e:wrC d.Disk (d.Disk.Areas.getD a []) y=y:=by
  unfold wrC cS;rw [if_neg (show ¬ (d.Disk.Writes+1=d.Disk.CutAt) from hc),if_neg hc,List.take_length,List.append_nil]
 rw [e,show zDl d.Disk=0 from if_neg hc] at hw;unfold tX;exact bd hw (bd (zMc d _) rfl)
theorem Dv.append (h:Dv d seq st vo m) (y:By) (h8:a<8) (hy:y.length<=65536):gP d (a:Int) y=some (aI d a (d.Disk.Areas.getD a []++y),0):=by
 have hw:=zNv d.Disk a y h.ok h.off (by rw [h.n];exact h8) hy (by have:=h.al a;omega);have hc:=h.noC;have e:apC d.Disk (d.Disk.Areas.getD a []) y=d.Disk.Areas.getD a []++y:=by
  unfold apC cS;rw [if_neg (show ¬ (d.Disk.Writes+1=d.Disk.CutAt) from hc),List.take_length]
 rw [e,show zDl d.Disk=0 from if_neg hc] at hw;unfold gP;exact bd hw (bd (zMc d _) rfl)
theorem Dv.read (h:Dv d seq st vo m) (h8:a<8):sL d.Disk (a:Int)=some (d.Disk.Areas.getD a [],0):=
 zBo d.Disk a h.off (by rw [h.n];exact h8) (by have:=h.al a;omega)
set_option maxRecDepth 100000
def nmB (s:By):Bool:=decide (1<=s.length)&&decide (s.length<=12)&&s.all nameByte
def nameN (n:Nat):Bool:=(decide (97<=n)&&decide (n<=122))||(decide (48<=n)&&decide (n<=57))||decide (n=45)
theorem zNx:∀ n:Nat,n<256->(bif decide ((n:Int)<97) then (bif decide ((n:Int)<48) then (some ((n:Int) != 45)) else bif decide (57<(n:Int)) then (some ((n:Int) != 45)) else some false) else bif decide (122<(n:Int)) then (bif decide ((n:Int)<48) then (some ((n:Int) != 45)) else bif decide (57<(n:Int)) then (some ((n:Int) != 45)) else some false) else some false:Option Bool)=some (!nameN n):=by decide +kernel
theorem eX (s:By):oK s=some (nmB s):=by
 have hd:Def (oK s) (λr=>r=nmB s):=by
  unfold oK;refine Def.bd (P:=λb=>b=(decide (s.length<1)||decide (12<s.length))) ?_ (λb hb=>?_)
  ·refine Def.c (λh=>Def.s ?_) (λh=>Def.s ?_)
   ·have:=dT h;rw [show decide (s.length<1)=true by rw [decide_eq_true_iff];omega];rfl
   ·have:=dF h;rw [show decide (s.length<1)=false by rw [decide_eq_false_iff_not];omega,Bool.false_or];exact decide_eq_decide.2 (by omega)
  refine Def.c (λh=>Def.s ?_) (λh=>?_)
  ·rw [h] at hb;have hb':s.length<1∨12<s.length:=by
    have:=hb.symm;rw [Bool.or_eq_true,decide_eq_true_iff,decide_eq_true_iff] at this;exact this
   unfold nmB;rcases hb' with h1 | h1
   ·rw [show decide (1<=s.length)=false by rw [decide_eq_false_iff_not];omega];rfl
   ·rw [show decide (s.length<=12)=false by rw [decide_eq_false_iff_not];omega,Bool.and_false];rfl
  ·rw [h] at hb;have hb':1<=s.length/\s.length<=12:=by
    have:=hb.symm;rw [Bool.or_eq_false_iff,decide_eq_false_iff_not,decide_eq_false_iff_not] at this;omega
   have hn:nmB s=s.all nameByte:=by
    unfold nmB;rw [show decide (1<=s.length)=true by rw [decide_eq_true_iff];omega,show decide (s.length<=12)=true by rw [decide_eq_true_iff];omega];rfl
   rw [hn];refine Def.bd (aC s (mQ s) (λi=>∀ h:i<s.length,nameByte s[i]=true) (λr=>r=false/\∃ i,∃ h:i<s.length,nameByte s[i]=false) (by omega) (λi hi=>?_) ?_) (λy hy=>?_)
   ·unfold mQ;refine Def.c (λ_=>?_) (λh=>by have:=dF h;omega);refine Def.bd (Def.at' hi) (λc hc=>?_);subst hc;refine Def.bd (P:=λb=>b=!nameByte s[i]) (Def.of (zNx s[i].toNat s[i].toNat_lt) rfl) (λb hb=>?_);refine Def.c (λh=>Def.s ⟨rfl,i,hi,?_⟩) (λh=>Def.s ⟨wX (by omega),λ_=>?_⟩)
    ·rw [h] at hb;simpa using hb.symm
    ·rw [h] at hb;simpa using hb.symm
   ·unfold mQ;exact cf (by simp) rfl
   ·cases y with
    | inl r=>
     obtain ⟨rfl,i,hi,hn⟩:=hy;refine Def.s ?_;symm;rw [List.all_eq_false];exact ⟨_,List.getElem_mem hi,by simp [hn]⟩
    | inr u=>
     refine Def.s ?_;symm;rw [List.all_eq_true];intro c hc;obtain ⟨i,hi,rfl⟩:=List.mem_iff_getElem.mp hc;exact hy i hi hi
 obtain ⟨r,hr,rfl⟩:=hd;exact hr
theorem zQl (s:By):bG s=some (nmB s):=rfl
def prB (c:UInt8):Bool:=decide (32<=c.toNat)&&decide (c.toNat<=126)
theorem zMp:∀ n:Nat,n<256->(bif decide ((n:Int)<32) then (some true) else some (decide (126<(n:Int))):Option Bool)=some (!(decide (32<=n)&&decide (n<=126))):=by decide +kernel
theorem zHq (s:By) (hs:s.length<2 ^ 40):uA s=some (s.all prB):=by
 have hd:Def (uA s) (λr=>r=s.all prB):=by
  unfold uA;refine Def.bd (aC s (rB s) (λi=>∀ h:i<s.length,prB s[i]=true) (λr=>r=false/\∃ i,∃ h:i<s.length,prB s[i]=false) hs (λi hi=>?_) ?_) (λy hy=>?_)
  ·unfold rB;refine Def.c (λ_=>?_) (λh=>by have:=dF h;omega);refine Def.bd (Def.at' hi) (λc hc=>?_);subst hc;refine Def.bd (P:=λb=>b=!prB s[i]) (Def.of (zMp s[i].toNat s[i].toNat_lt) rfl) (λb hb=>?_);refine Def.c (λh=>Def.s ⟨rfl,i,hi,?_⟩) (λh=>Def.s ⟨wX (by omega),λ_=>?_⟩)
   ·rw [h] at hb;simpa using hb.symm
   ·rw [h] at hb;simpa using hb.symm
  ·unfold rB;exact cf (by simp) rfl
  ·cases y with
   | inl r=>
    obtain ⟨rfl,i,hi,hn⟩:=hy;refine Def.s ?_;symm;rw [List.all_eq_false];exact ⟨_,List.getElem_mem hi,by simp [hn]⟩
   | inr u=>
    refine Def.s ?_;symm;rw [List.all_eq_true];intro c hc;obtain ⟨i,hi,rfl⟩:=List.mem_iff_getElem.mp hc;exact hy i hi hi
 obtain ⟨r,hr,rfl⟩:=hd;exact hr
def rf:By->List By->By->List By
 | [],out,line=>if line=[] then out else []
 | c :: r,out,line=>if c=10 then (if line=[]∨4<=out.length then [] else rf r (out++[line]) []) else if prB c=true then rf r out (line++[c]) else []
theorem c10 (c:UInt8):((c.toNat:Int)==10)=decide (c=10):=by
 by_cases h:c=10
 ·subst h;rfl
 ·rw [decide_eq_false h,beq_eq_false_iff_ne];intro e;exact h (UInt8.toNat_inj.1 (by
                  have:c.toNat=10:=by omega
                  rw [this];rfl))
theorem zH8 (x:zB) (hx:x.Payload.length<2 ^ 20):∀ (rest:By) (fuel i:Nat) (out:List By) (line:By),rest.length<fuel->x.Payload.drop i=rest->i<=x.Payload.length->out.length<=4->line.length<=i ->
  ∃ y,zN (xJ x) fuel (out,line,(i:Int))=some y/\(match y with | .inl r=>r=[]/\rf rest out line=[] | .inr (o,l)=>rf rest out line=if l=[] then o else [])
 | [],f+1,i,out,line,_,hd,hi,_,_=>by
  have hl:i=x.Payload.length:=by
   have:=congrArg List.length hd;simp at this;omega
  refine ⟨.inr (out,line),?_,rfl⟩;simp only [zN];have:xJ x (out,line,(i:Int))=some (.inr (.inr (out,line))):=by
   unfold xJ;exact cf (by simp;omega) rfl
  rw [this]
 | c :: r,f+1,i,out,line,hf,hd,hi,ho,hll=>by
  have hil:i<x.Payload.length:=by
   have:=congrArg List.length hd;simp at this;omega
  have hc:idx x.Payload (i:Int)=some c:=by
   rw [yR hil];have:=List.drop_eq_getElem_cons hil;rw [hd] at this;exact congrArg some (List.cons.inj this).1.symm
  have hr:x.Payload.drop (i+1)=r:=by
   have:=List.drop_eq_getElem_cons hil;rw [hd] at this;exact (List.cons.inj this).2.symm
  simp only [List.length_cons] at hf;simp only [zN];by_cases h10:c=10
  ·by_cases hb:line=[]∨4<=out.length
   ·refine ⟨.inl [],?_,rfl,by simp only [rf,if_pos h10,if_pos hb]⟩;have:xJ x (out,line,(i:Int))=some (.inr (.inl [])):=by
     unfold xJ;refine ct (dlt hil) (bd (a:=.inl []) (bd hc (ct (by rw [c10];simp [h10]) (bd (a:=true) ?_ (ct rfl rfl)))) rfl);by_cases h0:line=[]
     ·exact ct (by simp [h0]) rfl
     ·refine cf (by simp;exact h0) (congrArg some ?_);have:=hb.resolve_left h0;simp;omega
    rw [this]
   ·obtain ⟨y,hy,hy2⟩:=zH8 x hx r f (i+1) (out++[line]) [] (by omega) hr (by omega) (by have:¬ 4<=out.length:=λh=>hb (.inr h);simp;omega) (by simp);refine ⟨y,?_,?_⟩
    ·have:xJ x (out,line,(i:Int))=some (.inl (out++[line],[],((i+1:Nat):Int))):=by
      have hb1:line≠[]:=λh=>hb (.inl h);have hb2:¬ 4<=out.length:=λh=>hb (.inr h);unfold xJ;refine ct (dlt hil) (bd (a:=.inr (out++[line],[])) (bd hc (ct (by rw [c10];simp [h10]) (bd (a:=false) (cf (by simp;exact hb1) (congrArg some (by simp;omega))) (cf rfl (bd (yJ (by simp;omega)) rfl))))) ?_);rw [wX (show i<2 ^ 40 by omega)]
     rw [this];exact hy
    ·cases y with
     | inl r'=>simp only [rf,if_pos h10,if_neg hb];exact hy2
     | inr p=>simp only [rf,if_pos h10,if_neg hb];exact hy2
  ·have hp:(bif decide ((c.toNat:Int)<32) then (some true) else some (decide (126<(c.toNat:Int))):Option Bool)=some (!prB c):=zMp c.toNat c.toNat_lt;cases hpr:prB c with
   | false=>
    refine ⟨.inl [],?_,rfl,by simp only [rf,if_neg h10,hpr];rfl⟩;have:xJ x (out,line,(i:Int))=some (.inr (.inl [])):=by
     unfold xJ;refine ct (dlt hil) (bd (a:=.inl []) (bd hc (cf (by rw [c10];simp [h10]) (bd hp (ct (by rw [hpr];rfl) rfl)))) rfl)
    rw [this]
   | true=>
    obtain ⟨y,hy,hy2⟩:=zH8 x hx r f (i+1) out (line++[c]) (by omega) hr (by omega) ho (by simp;omega);refine ⟨y,?_,?_⟩
    ·have:xJ x (out,line,(i:Int))=some (.inl (out,line++[c],((i+1:Nat):Int))):=by
      unfold xJ;refine ct (dlt hil) (bd (a:=.inr (out,line++[c])) (bd hc (cf (by rw [c10];simp [h10]) (bd hp (cf (by rw [hpr];rfl) (bd (yJ (by simp;omega)) rfl))))) ?_);rw [wX (show i<2 ^ 40 by omega)]
     rw [this];exact hy
    ·cases y with
     | inl r'=>simp only [rf,if_neg h10,hpr,if_true];exact hy2
     | inr p=>simp only [rf,if_neg h10,hpr,if_true];exact hy2
theorem zC8 (x:zB) (hx:x.Payload.length<2 ^ 20):uR x=some (rf x.Payload [] []):=by
 obtain ⟨y,hy,hy2⟩:=zH8 x hx x.Payload FU 0 [] [] (xW (by omega)) rfl (by omega) (by simp) (by simp);unfold uR;refine bd hy ?_;cases y with
 | inl r=>obtain ⟨rfl,h⟩:=hy2;rw [h]
 | inr p=>
  obtain ⟨o,l⟩:=p;simp only at hy2 ⊢;by_cases hl:l=[]
  ·rw [if_pos hl] at hy2;exact cf (by simp [hl]) (by rw [hy2])
  ·rw [if_neg hl] at hy2;exact ct (by have:=List.length_pos_iff.2 hl;simp;omega) (by rw [hy2])
set_option maxRecDepth 100000
theorem zJ1:∀ l:By,(Lib.indexByte l 10=-1/\(10:UInt8)∉l)∨∃ w r,l=w++10 :: r/\(10:UInt8)∉w/\Lib.indexByte l 10=(w.length:Int)
 | []=>.inl ⟨rfl,by simp⟩
 | b :: l=>by
  by_cases hb:b=10
  ·subst hb;exact .inr ⟨[],l,rfl,by simp,by simp [Lib.indexByte]⟩
  ·have hne:(b==10)=false:=by rw [beq_eq_false_iff_ne];exact hb
   rcases zJ1 l with ⟨h1,h2⟩ | ⟨w,r,h1,h2,h3⟩
   ·refine .inl ⟨by unfold Lib.indexByte;rw [hne,h1];rfl,?_⟩;simp only [List.mem_cons,not_or];exact ⟨λe=>hb e.symm,h2⟩
   ·refine .inr ⟨b :: w,r,by rw [h1];rfl,?_,?_⟩
    ·simp only [List.mem_cons,not_or];exact ⟨λe=>hb e.symm,h2⟩
    ·unfold Lib.indexByte;rw [hne,h3];have:((w.length:Int)==-1)=false:=by rw [beq_eq_false_iff_ne];omega
     simp only [this,List.length_cons];simp
theorem zLi:∀ (w r:By) (out:List By) (line:By),(10:UInt8)∉w->rf (w++10 :: r) out line=if w.all prB=true then (if line++w=[]∨4<=out.length then [] else rf r (out++[line++w]) []) else []
 | [],r,out,line,_=>by simp [rf]
 | c :: w,r,out,line,h=>by
  simp only [List.mem_cons,not_or] at h;have hc:¬ c=10:=λe=>h.1 e.symm;simp only [List.cons_append,rf,if_neg hc];rw [zLi w r out (line++[c]) h.2];cases hp:prB c with
  | false=>simp [hp]
  | true=>simp [hp]
theorem zN3:∀ (w:By) (out:List By) (line:By),(10:UInt8)∉w->(w≠[]∨line≠[])->rf w out line=[]
 | [],out,line,_,h=>by simp only [rf];rw [if_neg (by simpa using h)]
 | c :: w,out,line,h,_=>by
  simp only [List.mem_cons,not_or] at h;have hc:¬ c=10:=λe=>h.1 e.symm;simp only [rf,if_neg hc];split
  ·exact zN3 w out (line++[c]) h.2 (.inr (by simp))
  ·rfl
theorem zRi:∀ (n:Nat) (rest:By) (out:List By) (fuel:Nat),rest.length<=n->n<fuel->out.length<=4->rest.length<2 ^ 20 ->
  ∃ y,zN wT fuel (out,rest)=some y/\(match y with | .inl r=>r=[]/\rf rest out []=[] | .inr o=>rf rest out []=o):=by
 intro n;induction n with
 | zero=>
  intro rest out fuel hn hf ho hl;obtain ⟨f,rfl⟩:∃ f,fuel=f+1:=⟨fuel - 1,by omega⟩;have:rest=[]:=List.eq_nil_of_length_eq_zero (by omega);subst this;refine ⟨.inr out,?_,rfl⟩;simp only [zN];have:wT (out,[])=some (.inr (.inr out)):=by unfold wT;exact cf rfl rfl
  rw [this]
 | succ n ih=>
  intro rest out fuel hn hf ho hl;obtain ⟨f,rfl⟩:∃ f,fuel=f+1:=⟨fuel - 1,by omega⟩;by_cases h0:rest=[]
  ·subst h0;refine ⟨.inr out,?_,rfl⟩;simp only [zN];have:wT (out,[])=some (.inr (.inr out)):=by unfold wT;exact cf rfl rfl
   rw [this]
  have hpos:0<rest.length:=List.length_pos_iff.2 h0;simp only [zN];have bad:∀ (v:Int),tK rest 10=some v->((bif decide (v<1) then (some true) else bif ((out.length:Int)==4) then (some true) else (sub rest 0 v).bind λv_1130=>(uA v_1130).bind λv_1131=>some (!v_1131):Option Bool)=some true)->wT (out,rest)=some (.inr (.inl [])):=by
   intro v hv hc;unfold wT;exact ct (by simp;omega) (bd hv (bd hc (ct rfl rfl)))
  rcases zJ1 rest with ⟨h1,h2⟩ | ⟨w,r,h1,h2,h3⟩
  ·refine ⟨.inl [],?_,rfl,zN3 rest out [] h2 (.inl h0)⟩;rw [bad (-1) (by unfold tK;rw [h1]) (ct rfl rfl)]
  ·have hlen:rest.length=w.length+1+r.length:=by rw [h1];simp;omega
   have hib:tK rest 10=some (w.length:Int):=by unfold tK;rw [h3]
   have htk:(rest.drop 0).take (w.length - 0)=w:=by rw [h1];simp
   have hsub:sub rest 0 (w.length:Int)=some w:=by
    have:=tJ (l:=rest) (a:=0) (b:=w.length) (Nat.zero_le _) (by omega);rw [htk] at this;exact this
   have hpr:=zHq w (by omega);have hrf:=zLi w r out [] h2;rw [<- h1,List.nil_append] at hrf;by_cases hw:w=[]
   ·refine ⟨.inl [],?_,rfl,?_⟩
    ·rw [bad _ hib (ct (by simp [hw]) rfl)]
    ·rw [hrf,if_pos (show w=[]∨4<=out.length from .inl hw)];simp
   have hw1:0<w.length:=List.length_pos_iff.2 hw;by_cases h4:out.length=4
   ·refine ⟨.inl [],?_,rfl,?_⟩
    ·rw [bad _ hib (cf (by simp;omega) (ct (by simp [h4]) rfl))]
    ·rw [hrf,if_pos (show w=[]∨4<=out.length from .inr (by omega))];simp
   have hstep:(sub rest 0 (w.length:Int)).bind (λv_1130=>(uA v_1130).bind λv_1131=>some (!v_1131))=some (!w.all prB):=bd hsub (bd hpr rfl);cases hp:w.all prB with
   | false=>
    refine ⟨.inl [],?_,rfl,by rw [hrf,hp];rfl⟩;rw [bad _ hib (cf (by simp;omega) (cf (by simp;omega) (hstep.trans (by rw [hp];rfl))))]
   | true=>
    obtain ⟨y,hy,hy2⟩:=ih r (out++[w]) f (by omega) (by omega) (by simp;omega) (by omega);have hr2:(rest.drop (w.length+1)).take (rest.length - (w.length+1))=r:=by
     rw [List.take_of_length_le (by simp)];rw [h1];simp
    have hsub2:sub rest (((w.length+1:Nat)):Int) (rest.length:Int)=some r:=by
     have:=tJ (l:=rest) (a:=w.length+1) (b:=rest.length) (by omega) (Nat.le_refl _);rw [hr2] at this;exact this
    have:wT (out,rest)=some (.inl (out++[w],r)):=by
     unfold wT;refine ct (by simp;omega) (bd hib (bd (a:=false) (cf (by simp;omega) (cf (by simp;omega) (hstep.trans (by rw [hp];rfl)))) (cf rfl ?_)));refine bd hsub (bd (yJ (by simp;omega)) ?_);rw [wX (show w.length<2 ^ 40 by omega)];exact bd hsub2 rfl
    rw [this];refine ⟨y,hy,?_⟩;rw [hrf,hp,if_pos rfl,if_neg (show ¬ (w=[]∨4<=out.length) by rintro (h | h);exact hw h;omega)];exact hy2
theorem zD5 (x:zB) (hx:x.Payload.length<2 ^ 20):lO x=uR x:=by
 rw [zC8 x hx];obtain ⟨y,hy,hy2⟩:=zRi x.Payload.length x.Payload [] FU (Nat.le_refl _) (xW (by omega)) (by simp) hx;unfold lO;refine bd hy ?_;cases y with
 | inl r=>obtain ⟨rfl,h⟩:=hy2;rw [h]
 | inr o=>simp only at hy2 ⊢;rw [hy2]
theorem jP (x:zB):tW x=vV x:=by
 unfold tW vV;rw [eX,zQl];refine congrArg _ (funext λv=>?_);cases v with
 | true=>rfl
 | false=>
  simp only [Option.bind_some,cond_false];cases nmB x.Name with
  | false=>rfl
  | true=>
   simp only [Bool.not_true,cond_false];cases h:decide (64<(x.Payload.length:Int)) with
   | true=>rfl
   | false=>
    rw [decide_eq_false_iff_not] at h;rw [zD5 x (by omega)]
theorem bZ (x:zB):Def (vV x) (λr=>0<=r/\(r=0->1<=x.Role/\x.Role<=4/\0<=x.Version/\x.Version<=1000000/\x.Name.length<=12/\x.Payload.length<=64)):=by
 unfold vV;refine Def.bd (P:=λb=>b=(decide (x.Role<1)||decide (4<x.Role)||decide (x.Version<0)||decide (1000000<x.Version))) ?_ (λb hb=>?_)
 ·cases h1:decide (x.Role<1)<;>cases h2:decide (4<x.Role)<;>cases h3:decide (x.Version<0)<;>exact Def.s (by simp)
 refine Def.c (λh=>Def.s ⟨by decide,λh=>by cases h⟩) (λh=>?_);rw [h] at hb;have hb:=hb.symm;simp only [Bool.or_eq_false_iff,decide_eq_false_iff_not] at hb;refine Def.bd (Def.of (eX x.Name) (Q:=λr=>r=nmB x.Name) rfl) (λn hn=>?_);subst hn;refine Def.c (λh=>Def.s ⟨by decide,λh=>by cases h⟩) (λhn=>?_);refine Def.c (λh=>Def.s ⟨by decide,λh=>by cases h⟩) (λh=>?_);rw [decide_eq_false_iff_not] at h;refine Def.bd (P:=λ_=>True) ?_ (λb _=>?_)
 ·refine Def.c (λ_=>Def.bd (Def.of (zC8 x (by omega)) (Q:=λ_=>True) trivial) (λ_ _=>Def.s trivial)) (λ_=>Def.s trivial)
 refine Def.c (λh=>Def.s ⟨by decide,λh=>by cases h⟩) (λ_=>Def.s ⟨by decide,λ_=>⟨by omega,by omega,by omega,by omega,?_,by omega⟩⟩);simp only [Bool.not_eq_false',nmB,Bool.and_eq_true,decide_eq_true_iff] at hn;exact hn.1.2
set_option maxRecDepth 100000
theorem zCk {X X' Y Y':Type} {f:X->Option (X ⊕ Y)} {g:X'->Option (X' ⊕ Y')} (R:X->X'->Prop) (S:Y->Y'->Prop)
  (h:∀ x x',R x x'->(f x=none/\g x'=none)∨(∃ y y',f x=some (.inl y)/\g x'=some (.inl y')/\R y y')∨∃ y y',f x=some (.inr y)/\g x'=some (.inr y')/\S y y') :
  ∀ (fuel:Nat) (x:X) (x':X'),R x x'->(zN f fuel x=none/\zN g fuel x'=none)∨∃ y y',zN f fuel x=some y/\zN g fuel x'=some y'/\S y y'
 | 0,_,_,_=>.inl ⟨rfl,rfl⟩
 | n+1,x,x',hr=>by
  simp only [zN];rcases h x x' hr with ⟨h1,h2⟩ | ⟨y,y',h1,h2,h3⟩ | ⟨y,y',h1,h2,h3⟩
  ·rw [h1,h2];exact .inl ⟨rfl,rfl⟩
  ·rw [h1,h2];exact zCk R S h n y y' h3
  ·rw [h1,h2];exact .inr ⟨y,y',rfl,rfl,h3⟩
def gR (x:zB):Prop:=vV x=some 0
theorem pP.ok (h:pP x):gR x:=zD6 x h
theorem gR.f (h:gR x):1<=x.Role/\x.Role<=4/\0<=x.Version/\x.Version<=1000000/\x.Name.length<=12/\x.Payload.length<=64:=by
 obtain ⟨r,e,_,h2⟩:=bZ x;rw [h] at e;exact h2 (Option.some.inj e).symm
theorem zLb (l:List zB) (i:Nat) (hi:i<l.length) (h8:l.length<=8):zN (wG l[i] (l.take i)) FU 0=zN (xY l (i:Int)) FU 0:=by
 have:=zCk (f:=wG l[i] (l.take i)) (g:=xY l (i:Int)) (λa b=>a=b/\∃ k:Nat,a=(k:Int)) (λa b=>a=b) ?_ FU 0 0 ⟨rfl,0,rfl⟩
 ·rcases this with ⟨a,b⟩ | ⟨y,y',a,b,rfl⟩
  ·rw [a,b]
  ·rw [a,b]
 ·rintro a _ ⟨rfl,k,rfl⟩;right;have hlen:(l.take i).length=i:=by simp;omega
  by_cases hk:k<i
  ·have hkl:k<l.length:=by omega
   have hx:idx (l.take i) (k:Int)=some l[k]:=by rw [yR (by omega)];simp
   have hg:((l[k]).Role==(l[i]).Role&&(l[k]).Name==(l[i]).Name)=true->wG l[i] (l.take i) (k:Int)=some (.inr (.inl 42))/\xY l (i:Int) (k:Int)=some (.inr (.inl 42)):=by
    intro hb;rw [Bool.and_eq_true] at hb;constructor
    ·unfold wG;exact ct (by rw [hlen];simp;omega) (bd hx (bd (a:=true) (ct hb.1 (congrArg some hb.2)) (ct rfl rfl)))
    ·unfold xY;exact ct (by simp;omega) (bd (a:=true) (bd (yR hkl) (bd (yR hi) (ct hb.1 (bd (yR hkl) (bd (yR hi) (congrArg some hb.2)))))) (ct rfl rfl))
   have hn:((l[k]).Role==(l[i]).Role&&(l[k]).Name==(l[i]).Name)=false->wG l[i] (l.take i) (k:Int)=some (.inl ((k+1:Nat):Int))/\xY l (i:Int) (k:Int)=some (.inl ((k+1:Nat):Int)):=by
    intro hb;have hw:IntKind.i64.wrap ((k:Int)+1)=((k+1:Nat):Int):=wX (by omega);constructor
    ·unfold wG;refine ct (by rw [hlen];simp;omega) (bd hx (bd (a:=false) ?_ (cf rfl (by rw [hw]))));cases hr:(l[k]).Role==(l[i]).Role with
     | false=>rfl
     | true=>rw [hr] at hb;exact congrArg some hb
    ·unfold xY;refine ct (by simp;omega) (bd (a:=false) (bd (yR hkl) (bd (yR hi) ?_)) (cf rfl (by rw [hw])));cases hr:(l[k]).Role==(l[i]).Role with
     | false=>rfl
     | true=>rw [hr] at hb;exact ct rfl (bd (yR hkl) (bd (yR hi) (congrArg some hb)))
   cases hb:((l[k]).Role==(l[i]).Role&&(l[k]).Name==(l[i]).Name) with
   | true=>exact .inr ⟨_,_,(hg hb).1,(hg hb).2,rfl⟩
   | false=>exact .inl ⟨_,_,(hn hb).1,(hn hb).2,rfl,k+1,rfl⟩
  ·refine .inr ⟨.inr (),.inr (),?_,?_,rfl⟩
   ·unfold wG;exact cf (by rw [hlen];simp;omega) rfl
   ·unfold xY;exact cf (by simp;omega) rfl
theorem zGt (l:List zB) (i:Nat) (hi:i<l.length) (h8:l.length<=8):Def (zN (xY l (i:Int)) FU 0) (λr=>r=.inr ()∨r=.inl 42):=by
 refine Def.loop (λs=>∃ k:Nat,s=(k:Int)/\k<=i) (λs=>i - s.toNat) (λs hs=>?_) ⟨0,rfl,by omega⟩ (by simp;omega);obtain ⟨k,rfl,hk⟩:=hs;unfold xY;refine Def.c (λh=>?_) (λh=>Def.s (.inl rfl));have hki:=dT h;refine Def.bd (P:=λ_=>True) ?_ (λb _=>?_)
 ·refine Def.bd (Def.at' (show k<l.length by omega)) (λy _=>?_);refine Def.bd (Def.at' hi) (λz _=>?_);refine Def.c (λ_=>?_) (λ_=>Def.s trivial);refine Def.bd (Def.at' (show k<l.length by omega)) (λy _=>?_);exact Def.bd (Def.at' hi) (λz _=>Def.s trivial)
 refine Def.c (λ_=>Def.s (.inr rfl)) (λ_=>Def.s ?_);rw [wX (by omega)];exact ⟨⟨k+1,rfl,by omega⟩,by simp only [Int.toNat_natCast];omega⟩
theorem zLl {c:Bool} {o:Option Bool} (h:o=some b):(bif c then some true else o)=some (c||b):=by cases c<;>simp [h]
theorem zVs (l:List zB) (h8:l.length<=8) :
  ∃ y,xH l=xH l/\zN (xH l) FU (false,false,0)=some y/\(match y with
   | .inl r=>zN (xN l) FU (0,[false,false,false,false,false])=some (.inl r)/\0<r
   | .inr (fw,k)=>(∃ a b c,zN (xN l) FU (0,[false,false,false,false,false])=some (.inr [a,fw,b,k,c]))/\∀ x∈l,gR x):=by
 have tot:Def (zN (xH l) FU (false,false,0)) (λy=>match y with | .inl r=>0<r | .inr _=>∀ x∈l,gR x):=by
  refine Def.loop (λs=>∃ i:Nat,s.2.2=(i:Int)/\i<=l.length/\∀ x∈l.take i,gR x) (λs=>l.length - s.2.2.toNat) (λs hs=>?_) ⟨0,rfl,by omega,by simp⟩ (by simp;omega);obtain ⟨f,k,i'⟩:=s;obtain ⟨i,g1,g2,g3⟩:=hs;simp only at g1;subst g1;unfold xH;refine Def.c (λh=>?_) (λh=>Def.s ?_)
  ·have hi:i<l.length:=by have:=dT h;omega
   refine Def.bd (Def.at' hi) (λy hy=>?_);subst hy;refine Def.bd ((bZ l[i]).get 0 |> λe=>(⟨_,e.1,⟨e.1,e.2.1⟩⟩:Def _ (λr=>vV l[i]=some r/\0<=r))) (λr hr=>?_);refine Def.c (λh=>Def.s ?_) (λh0=>?_)
   ·have:r≠0:=by simpa using h
    have:=hr.2;show 0<r;omega
   have h0':r=0:=by simpa using h0
   subst h0';refine Def.bd (P:=λ_=>True) ?_ (λb hb=>?_)
   ·refine Def.c (λh0=>?_) (λ_=>Def.s trivial);have h0':=dT h0;refine Def.bd (Def.at' hi) (λy hy=>?_);rw [yN (by omega) (by omega),show (i:Int) - 1=((i - 1:Nat):Int) by omega];exact Def.bd (Def.at' (show i - 1<l.length by omega)) (λy hy=>Def.s trivial)
   refine Def.c (λh=>Def.s (show (0:Int)<41 by decide)) (λ_=>?_);refine Def.bd (zGt l i hi h8) (λr' hr'=>?_);rcases hr' with rfl | rfl
   ·refine Def.bd (P:=λ_=>True) (Def.c (λ_=>Def.s trivial) (λ_=>Def.bd (Def.at' hi) (λy _=>Def.s trivial))) (λb1 _=>?_);refine Def.bd (P:=λ_=>True) (Def.c (λ_=>Def.s trivial) (λ_=>Def.bd (Def.at' hi) (λy _=>Def.s trivial))) (λb2 _=>Def.s ?_);rw [wX (by omega)];refine ⟨⟨i+1,rfl,by omega,λx hx=>?_⟩,by simp only [Int.toNat_natCast];omega⟩;rcases mS hi hx with hx | rfl
    ·exact g3 x hx
    ·exact hr.1
   ·exact Def.s (show (0:Int)<42 by decide)
  ·have:=dF h;rw [List.take_of_length_le (by omega)] at g3;exact g3
 obtain ⟨y,hy,hy2⟩:=tot;have sim:=zCk (f:=xN l) (g:=xH l) (λs t=>∃ (i:Nat) (a b c:Bool),s=((i:Int),[a,t.1,b,t.2.1,c])/\t.2.2=(i:Int)/\i<=l.length)
  (λy z=>match y,z with | .inl r,.inl r'=>r=r' | .inr s,.inr t=>∃ a b c,s=[a,t.1,b,t.2,c] | _,_=>False) ?_ FU (0,[false,false,false,false,false]) (false,false,0) ⟨0,false,false,false,rfl,rfl,by omega⟩
 ·rcases sim with ⟨_,b⟩ | ⟨s,t,a,b,c⟩
  ·rw [hy] at b;cases b
  ·rw [hy] at b;obtain rfl:=Option.some.inj b;refine ⟨y,rfl,hy,?_⟩;cases y with
   | inl r=>
    cases s with
    | inl r'=>exact ⟨by rw [a,show r'=r from c],hy2⟩
    | inr _=>exact c.elim
   | inr t=>
    cases s with
    | inl _=>exact c.elim
    | inr s=>
     obtain ⟨x1,x2,x3,x4⟩:=c;exact ⟨⟨x1,x2,x3,by rw [a,x4]⟩,hy2⟩
 ·rintro ⟨s1,s2⟩ ⟨fw,k,i'⟩ ⟨i,a,b,c,e,rfl,hle⟩;obtain ⟨rfl,rfl⟩:=Prod.mk.inj e;right;by_cases hi:i<l.length
  ·have hd:decide ((i:Int)<(l.length:Int))=true:=by simp;omega
   obtain ⟨r,er,r0,hr⟩:=bZ l[i];have er':tW l[i]=some r:=(jP _).trans er;by_cases h0:r=0
   rotate_left
   ·refine .inr ⟨.inl r,.inl r,?_,?_,rfl⟩
    ·unfold xN;exact ct hd (bd (yR hi) (bd er' (ct (b1 h0) rfl)))
    ·unfold xH;exact ct hd (bd (yR hi) (bd er (ct (b1 h0) rfl)))
   obtain ⟨p1,p4,_⟩:=hr h0;subst h0;have ho:∃ o,(bif decide (0<(i:Int)) then (idx l (IntKind.i64.wrap ((i:Int) - 1))).bind λv_1235=>some (decide (l[i].Role<v_1235.Role)) else some false:Option Bool)=some o/\(bif decide (0<(i:Int)) then (idx l (i:Int)).bind λv_1313=>(idx l (IntKind.i64.wrap ((i:Int) - 1))).bind λv_1314=>some (decide (v_1313.Role<v_1314.Role)) else some false:Option Bool)=some o:=by
    cases hz:decide (0<(i:Int)) with
    | false=>exact ⟨false,rfl,rfl⟩
    | true=>
     have hz':0<(i:Int):=of_decide_eq_true hz;have hw:IntKind.i64.wrap ((i:Int) - 1)=((i - 1:Nat):Int):=by rw [yN (by omega) (by omega)];omega
     refine ⟨decide (l[i].Role<(l[i - 1]'(by omega)).Role),?_,?_⟩
     ·rw [hw];exact bd (yR (by omega)) rfl
     ·rw [hw];exact bd (yR hi) (bd (yR (by omega)) rfl)
   obtain ⟨o,o1,o2⟩:=ho;cases o with
   | true=>
    refine .inr ⟨.inl 41,.inl 41,?_,?_,rfl⟩
    ·unfold xN;exact ct hd (bd (yR hi) (bd er' (cf rfl (bd o1 (ct rfl rfl)))))
    ·unfold xH;exact ct hd (bd (yR hi) (bd er (cf rfl (bd o2 (ct rfl rfl)))))
   | false=>
    have hsub:sub l 0 (i:Int)=some (l.take i):=by
     have:=tJ (l:=l) (a:=0) (b:=i) (Nat.zero_le _) (by omega);simpa using this
    obtain ⟨z,ez,hz⟩:=zGt l i hi h8;have ez':=(zLb l i hi h8).trans ez;rcases hz with rfl | rfl
    rotate_left
    ·refine .inr ⟨.inl 42,.inl 42,?_,?_,rfl⟩
     ·unfold xN;exact ct hd (bd (yR hi) (bd er' (cf rfl (bd o1 (cf rfl (bd hsub (bd ez' rfl)))))))
     ·unfold xH;exact ct hd (bd (yR hi) (bd er (cf rfl (bd o2 (cf rfl (bd ez rfl))))))
    have hw:IntKind.i64.wrap ((i:Int)+1)=((i+1:Nat):Int):=wX (by omega);obtain ⟨n,hn⟩:=Int.eq_ofNat_of_zero_le (show 0<=l[i].Role by omega);have hn4:1<=n/\n<=4:=by omega
    have hix:ixN 5 l[i].Role=some n:=by rw [hn];simp [ixN];omega
    refine .inl ⟨(((i+1:Nat):Int),[a,fw,b,k,c].set n true),(fw||(l[i].Role==1),k||(l[i].Role==3),((i+1:Nat):Int)),?_,?_,?_⟩
    ·unfold xN;refine ct hd (bd (yR hi) (bd er' (cf rfl (bd o1 (cf rfl (bd hsub (bd ez' ?_)))))));refine bd hix (bd (a:=[a,fw,b,k,c].set n true) ?_ (by rw [hw]));simp [rF];omega
    ·unfold xH;refine ct hd (bd (yR hi) (bd er (cf rfl (bd o2 (cf rfl (bd ez ?_))))));refine bd (zLl (bd (yR hi) rfl)) (bd (zLl (bd (yR hi) rfl)) (by rw [hw]))
    ·rw [hn];have:n=1∨n=2∨n=3∨n=4:=by omega
     rcases this with rfl | rfl | rfl | rfl
     ·exact ⟨i+1,a,b,c,by simp,rfl,by omega⟩
     ·exact ⟨i+1,a,true,c,by simp,rfl,by omega⟩
     ·exact ⟨i+1,a,b,c,by simp,rfl,by omega⟩
     ·exact ⟨i+1,a,b,true,by simp,rfl,by omega⟩
  ·have hd:decide ((i:Int)<(l.length:Int))=false:=by simp;omega
   refine .inr ⟨.inr [a,fw,b,k,c],.inr (fw,k),?_,?_,a,b,c,rfl⟩
   ·unfold xN;exact cf hd rfl
   ·unfold xH;exact cf hd rfl
theorem zGi (l:List zB) (hl:l.length<2 ^ 40):Def (uQ l) (λr=>wF l=some r/\0<=r/\(r=0->1<=l.length/\l.length<=8/\∀ x∈l,gR x)):=by
 by_cases hb:l.length=0∨8<l.length
 ·have hc:(bif ((l.length:Int)==0) then (some true) else some (decide (8<(l.length:Int))):Option Bool)=some true:=by
   rcases hb with hb | hb
   ·exact ct (by simp [hb]) rfl
   ·exact cf (by rw [beq_eq_false_iff_ne];omega) (congrArg some (by simp;omega))
  refine ⟨1,?_,?_,by decide,λe=>by cases e⟩
  ·unfold uQ;exact bd hc (ct rfl rfl)
  ·unfold wF;exact bd hc (ct rfl rfl)
 ·have hc:(bif ((l.length:Int)==0) then (some true) else some (decide (8<(l.length:Int))):Option Bool)=some false:=cf (by rw [beq_eq_false_iff_ne];omega) (congrArg some (by simp;omega));obtain ⟨y,_,hy,hy2⟩:=zVs l (by omega);cases y with
  | inl r=>
   refine ⟨r,?_,?_,Int.le_of_lt hy2.2,λe=>absurd e (by have:=hy2.2;omega)⟩
   ·unfold uQ;exact bd hc (cf rfl (bd hy rfl))
   ·unfold wF;exact bd hc (cf rfl (bd hy2.1 rfl))
  | inr t=>
   obtain ⟨fw,k⟩:=t;obtain ⟨⟨a,b,c,h1⟩,h2⟩:=hy2;refine ⟨if fw&&k then 0 else 40,?_,?_,by split<;>decide,λ_=>⟨by omega,by omega,h2⟩⟩
   ·unfold uQ;refine bd hc (cf rfl (bd hy ?_));cases fw<;>cases k<;>rfl
   ·unfold wF;refine bd hc (cf rfl (bd h1 ?_));cases fw<;>cases k<;>rfl
set_option maxRecDepth 100000
theorem zH6 (x:zB) (h:x.Name.length<=65535) (h2:x.Payload.length<=65535):qD x=beN x.Role 1 1++(beN x.Version 4 4++(bl x.Name++(bl x.Payload++[]))):=by
 unfold qD bl;rw [zBh _ h2,zBh _ h];simp [sK]
theorem zBl (h:gR x):(qD x).length<=85:=by
 obtain ⟨_,_,_,_,h5,h6⟩:=h.f;rw [zH6 x (by omega) (by omega)];simp only [List.length_append,yY,uY,List.length_nil];omega
theorem zSo (h:gR x):nS x=some (qD x):=by
 obtain ⟨_,_,_,_,h5,h6⟩:=h.f;unfold nS;refine bd ((jP x).trans h) (cf rfl ?_);have h3:(sK (sK [] 1 x.Role) 4 x.Version).length=5:=by rw [vQ,vQ];rfl
 have h4:=bM (sK (sK [] 1 x.Role) 4 x.Version) x.Name;refine bd (qW [] 1 _ (by omega) (by omega) (by simp)) ?_;refine bd (qW _ 4 _ (by omega) (by omega) (by rw [vQ];simp)) ?_;refine bd (ckT (zEo (by omega))) ?_;refine bd (dC _ _ (by omega)) ?_;exact bd (dC _ _ (by omega)) rfl
theorem zV4 (h:gR x):rV x=some (qD x):=by
 obtain ⟨_,_,_,_,h5,h6⟩:=h.f;unfold rV;refine bd h (cf rfl ?_);have h3:(sK (sK [] 1 x.Role) 4 x.Version).length=5:=by rw [vQ,vQ];rfl
 have h4:=bM (sK (sK [] 1 x.Role) 4 x.Version) x.Name;refine bd (zBf [] 1 _ (by omega) (by omega) (by simp)) ?_;refine bd (zBf _ 4 _ (by omega) (by omega) (by rw [vQ];simp)) ?_;refine bd (ckT (zEo (by omega))) ?_;refine bd (zFw _ _ (by omega)) ?_;exact bd (zFw _ _ (by omega)) rfl
def uD (l:List zB):By:=beN (l.length:Int) 1 1++l.flatMap λx=>bl (qD x)
structure kX (l:List zB):Prop where
 r:uQ l=some 0
 p:wF l=some 0
 h1:1<=l.length
 h8:l.length<=8
 im:∀ x∈l,gR x
theorem chOk (hl:l.length<2 ^ 40) (h:uQ l=some 0):kX l:=by
 obtain ⟨r,e,h1,_,h2⟩:=zGi l hl;have:r=0:=Option.some.inj (e.symm.trans h);subst this;obtain ⟨a,b,c⟩:=h2 rfl;exact ⟨e,h1,a,b,c⟩
theorem jI.ok (h:jI l):kX l:=chOk (by have:=h.len;omega) (zK1 l h)
theorem zMb (l:List zB) (h:∀ x∈l,gR x):(l.flatMap λx=>bl (qD x)).length<=87*l.length:=by
 induction l with
 | nil=>simp
 | cons x l ih=>
  have h1:=zBl (h x (by simp));have h2:=ih λy hy=>h y (by simp [hy]);simp only [List.flatMap_cons,List.length_append,uY,List.length_cons];omega
theorem qQ (h:kX l):8<=(uD l).length/\(uD l).length<=697:=by
 have h1:=zMb l h.im;have h8:=h.h8;refine ⟨?_,by unfold uD;rw [List.length_append,yY];omega⟩;obtain ⟨x,l',rfl⟩:∃ x l',l=x :: l':=by
  cases l with
  | nil=>exact absurd h.h1 (by decide)
  | cons x l'=>exact ⟨x,l',rfl⟩
 have:=(zJu x).1;unfold uD;simp only [List.flatMap_cons,List.length_append,uY,yY];omega
theorem zIn (hi:i<l.length):((l.take (i+1)).flatMap λx=>bl (qD x))=((l.take i).flatMap λx=>bl (qD x))++bl (qD l[i]):=by
 rw [List.take_add_one,List.flatMap_append];simp [hi]
theorem zMn (h:∀ x∈l,gR x) (i:Nat):((l.take i).flatMap λx=>bl (qD x)).length<=87*l.length:=by
 have:=zMb (l.take i) λx hx=>h x (List.mem_of_mem_take hx);have h2:(l.take i).length<=l.length:=by simp;omega
 omega
theorem yAo (h:kX l):rW l=some (uD l):=by
 have h8:=h.h8;unfold rW;refine bd h.p (cf rfl (bd (wU [] 1 _ (by omega) (by omega) (by simp)) ?_));refine bd (a:=uD l) (yK l.length (λi=>(beN (l.length:Int) 1 1++((l.take i).flatMap λx=>bl (qD x)),(i:Int))) (by simp) (λi hi=>?_) ?_ (xW (by omega))) ?_
 ·have hx:=h.im _ (List.getElem_mem hi);have ht:=zMn h.im i;unfold qG;refine ct (by simp;omega) (bd (yR hi) (bd (zSo hx) (bd (wB _ _ ?_ (by have:=zBl hx;omega)) ?_)))
  ·rw [List.length_append,yY];omega
  ·rw [wX (by omega),zIn hi,List.append_assoc]
 ·unfold qG;refine cf (by simp) ?_;rw [List.take_length];rfl
 ·rfl
theorem zKk (h:kX l):vW l=some (uD l):=by
 have h8:=h.h8;have rU:∀ (b:By) (k:Nat) (n:Int),1<=k->k<=8->b.length<2 ^ 30->oP b (k:Int) n=some (b++beN n k k):=λb k n h1 h2 h3=>zBf b k n h1 h2 (by omega);unfold vW;refine bd h.r (cf rfl (bd (rU [] 1 _ (by omega) (by omega) (by simp)) ?_));refine bd (a:=uD l) (yK l.length (λi=>(beN (l.length:Int) 1 1++((l.take i).flatMap λx=>bl (qD x)),(i:Int))) (by simp) (λi hi=>?_) ?_ (xW (by omega))) ?_
 ·have hx:=h.im _ (List.getElem_mem hi);have ht:=zMn h.im i;unfold qF;refine ct (by simp;omega) (bd (yR hi) (bd (zV4 hx) (bd (zFw _ _ ?_) ?_)))
  ·rw [List.length_append,yY];omega
  ·rw [wX (by omega),zIn hi,zBh _ (by have:=zBl hx;omega),List.append_assoc];rfl
 ·unfold qF;refine cf (by simp) ?_;rw [List.take_length];rfl
 ·rfl
theorem zY6 (h:gR x):qX (qD x)=some (x,0):=by
 obtain ⟨a1,a2,a3,a4,a5,a6⟩:=h.f;have hle:=zBl h;unfold qX;obtain ⟨r,g,e⟩:=zJs (qD x) (by omega);refine bd e ?_;rw [zH6 x (by omega) (by omega)] at g;obtain ⟨r1,g,e⟩:=rdU (k:=1) g (by omega) (by omega) (by omega) (by omega) (by omega);refine bd e ?_;obtain ⟨r2,g,e⟩:=rdU (k:=4) g (by omega) (by omega) (by omega) (by omega) (by omega);refine bd e ?_;obtain ⟨r3,g,e⟩:=zQu (k:=12) g (by omega) (by omega);refine bd e ?_;obtain ⟨r4,g,e⟩:=zQu (k:=64) g (by omega) (by omega);refine bd e ?_;have hc:tW (zB.mk x.Role x.Name x.Version x.Payload)=some 0:=(jP x).trans h;exact bd (bd (rdE g) (cf rfl (bd hc rfl))) rfl
theorem zOp (b:By) (hb:b.length<2 ^ 30):∀ (m:List zB) (l:List zB) (r:RS) (fuel:Nat),m.length<fuel->(∀ x∈m,gR x)->l.length+m.length<=8->87<=b.length∨(∀ x∈m,(qD x).length<=b.length)->Rd r (m.flatMap λx=>bl (qD x)) ->
  ∃ r',Rd r' []/\zN (xR b) fuel (l,(m.length:Int),r.W.b_,r.W.at_,r.W.e_)=some (.inr (l++m,r'.W.b_,r'.W.at_,r'.W.e_))
 | [],l,r,f+1,_,_,_,_,g=>by
  refine ⟨r,g,?_⟩;simp only [zN];have:xR b (l,(([]:List zB).length:Int),r.W.b_,r.W.at_,r.W.e_)=some (.inr (.inr (l,r.W.b_,r.W.at_,r.W.e_))):=by
   unfold xR;exact bd (cf rfl rfl) (cf rfl rfl)
  rw [this,List.append_nil]
 | x :: m,l,r,f+1,hf,hm,h8,hb2,g=>by
  have hx:=hm x (by simp);have hle:=zBl hx;simp only [List.length_cons] at hf h8;have g':Rd r (bl (qD x)++(m.flatMap λx=>bl (qD x))):=g.cast (by simp);have hxb:(qD x).length<=b.length:=by
   rcases hb2 with h | h
   ·omega
   ·exact h x (by simp)
  obtain ⟨r1,g1,e1⟩:=zQu (k:=b.length) g' (by omega) hxb;obtain ⟨r2,g2,e2⟩:=zOp b hb m (l++[x]) r1 f (by omega) (λy hy=>hm y (by simp [hy])) (by simp;omega) (by
   rcases hb2 with h | h
   ·exact .inl h
   ·exact .inr λy hy=>h y (by simp [hy])) g1
  refine ⟨r2,g2,?_⟩;simp only [zN];have:xR b (l,((x :: m).length:Int),r.W.b_,r.W.at_,r.W.e_)=some (.inl (l++[x],(m.length:Int),r1.W.b_,r1.W.at_,r1.W.e_)):=by
   unfold xR;refine bd (a:=(true,r.W.b_,r.W.at_,r.W.e_)) (ct (by simp) (bd (zKt g) rfl)) (ct rfl ?_);refine bd e1 (bd (zY6 hx) (cf rfl (bd (yJ (by simp;omega)) ?_)));rw [List.length_cons,yN (by omega) (by omega),show (((m.length+1:Nat):Int) - 1)=(m.length:Int) by omega]
  rw [this];simp only;rw [e2,List.append_assoc];rfl
theorem zNe:∀ x∈l,(qD x).length<=(uD l).length:=by
 intro x hx;unfold uD;rw [List.length_append];have:(bl (qD x)).length<=(l.flatMap λx=>bl (qD x)).length:=by
  induction l with
  | nil=>cases hx
  | cons y l ih=>
   rw [List.flatMap_cons,List.length_append];rcases List.mem_cons.1 hx with rfl | hx
   ·omega
   ·have:=ih hx;omega
 rw [uY] at this;omega
theorem zPk (h:kX l):wQ (uD l)=some (l,0):=by
 have hl:=qQ h;have h8:=h.h8;unfold wQ;obtain ⟨r,g,e⟩:=zJs (uD l) (by omega);refine bd e ?_;obtain ⟨r1,g,e⟩:=rdU (k:=1) (n:=(l.length:Int)) (r:=r) (rest:=l.flatMap λx=>bl (qD x)) g (by omega) (by omega) (by omega) (by omega) (by omega);refine bd e ?_;obtain ⟨r2,g2,e2⟩:=zOp (uD l) (by omega) l [] r1 FU (xW (by omega)) h.im (by simpa using h8) (.inr zNe) g;refine bd e2 ?_;exact bd (bd (rdE g2) (cf rfl (bd h.p rfl))) (cf rfl rfl)
set_option maxRecDepth 100000
theorem zZg:tZ 1=some ⟨[bnk 20,[]],0⟩:=by decide +kernel
theorem yBg:tZ 2=some ⟨[[],bnk 32],0⟩:=by decide +kernel
theorem zXw:tZ 3=some ⟨[bnk 20,bnk 32],0⟩:=by decide +kernel
theorem zQ8 (active:Int) (h1:1<=active) (h3:active<=3):tZ active=some (zRk active):=by
 rcases act3 h1 h3 with rfl | rfl | rfl
 ·exact zZg
 ·exact yBg
 ·exact zXw
def sb (c0 c1:Bool):Int:=(if c0 then 1 else 0)+(if c1 then 2 else 0)
theorem ract (b0 b1:List By) (u:Int) (c0 c1:Bool) (h0:((b0.length:Int)==16)=c0) (h1:((b1.length:Int)==16)=c1):sM ⟨[b0,b1],u⟩=some (sb c0 c1):=by
 unfold sM;refine bd (a:=sb c0 c1) ?_ rfl;refine yK (x:=((0:Int),(0:Int))) 2 (λi=>match i with | 0=>((0:Int),(0:Int)) | 1=>(sb c0 false,1) | _=>(sb c0 c1,2)) rfl (λi hi=>?_) ?_ (xW (by omega))
 ·have:i=0∨i=1:=by omega
  rcases this with rfl | rfl
  ·show uF _ (0,0)=some (.inl (sb c0 false,1));unfold uF;refine ct rfl ?_;refine bd (a:=sb c0 false) (bd (a:=c0) (ct rfl (bd (a:=b0) rfl (by rw [h0]))) ?_) rfl;cases c0<;>rfl
  ·show uF _ (sb c0 false,1)=some (.inl (sb c0 c1,2));unfold uF;refine ct rfl ?_;refine bd (a:=sb c0 c1) (bd (a:=c1) (ct rfl (bd (a:=b1) rfl (by rw [h1]))) ?_) rfl;cases c0<;>cases c1<;>rfl
 ·rfl
theorem zYe (b0 b1:List By) (u:Int) (c0 c1:Bool) (h0:((b0.length:Int)==16)=c0) (h1:((b1.length:Int)==16)=c1):uL ⟨[b0,b1],u⟩ 0=some c0/\uL ⟨[b0,b1],u⟩ 1=some c1:=by
 have h:=ract b0 b1 u c0 c1 h0 h1;unfold uL;constructor
 ·refine bd h ?_;cases c0<;>cases c1<;>rfl
 ·refine bd h ?_;cases c0<;>cases c1<;>rfl
theorem zP3 (r:zF) (b0 b1:List By) (hb:r.Banks=[b0,b1]) (l0:b0.length<=16) (l1:b1.length<=16) (h0:∀ x∈b0,x.length<=32) (h1:∀ x∈b1,x.length<=32):nK r=some (b0,b1,r.Updates):=by
 unfold nK;rw [hb];refine ct rfl ?_;refine bd (a:=b0) rfl ?_;refine bd (a:=b0) ?_ ?_
 ·refine yK b0.length (λi=>(b0.take i,(i:Int))) (by simp) (λi hi=>?_) ?_ (xW (by omega))
  ·unfold nT;refine ct (dlt hi) ?_;refine bd (yR hi) ?_;refine bd (yJ (by have:=h0 _ (List.getElem_mem hi);simp;omega)) ?_;refine bd (yJ (by simp;omega)) ?_;rw [wX (show i<2 ^ 40 by omega),List.take_add_one];simp [hi]
  ·unfold nT;refine cf (dge (Nat.le_refl _)) ?_;simp
 refine ct rfl ?_;refine bd (a:=b1) rfl ?_;refine bd (a:=(b1,b0)) ?_ ?_
 ·refine yK b1.length (λi=>(b1.take i,(i:Int),b0)) (by simp) (λi hi=>?_) ?_ (xW (by omega))
  ·unfold oS;refine ct (dlt hi) ?_;refine bd (yR hi) ?_;refine bd (yJ (by have:=h1 _ (List.getElem_mem hi);simp;omega)) ?_;refine bd (yJ (by simp;omega)) ?_;rw [wX (show i<2 ^ 40 by omega),List.take_add_one];simp [hi]
  ·unfold oS;refine cf (dge (Nat.le_refl _)) ?_;simp
 exact cf rfl rfl
set_option maxRecDepth 100000
theorem zI6 (b:By) (hb:b.length<2 ^ 40):xK ((0:Nat):Int) b=some (zCp b):=zO6 b hb
theorem zIu (b:By) (hb:b.length<2 ^ 40):xK ((1:Nat):Int) b=some (sha b):=zHn b hb
theorem zIm (r:zF) (active:Int) (e:zC) (hr:zIs active r) (he:EvGood e active) (hk:e.Kind≠5):Def (pG r 0 e.Register e.Digests) (λx=>x=(ext active e r,0)):=by
 obtain ⟨⟨b0,b1,hb,l0,l1,m0,m1⟩⟩:=hr;obtain ⟨r0,r1,_,dl,f0,f1⟩:=he;obtain ⟨bs,u⟩:=r;simp only at hb;subst hb;have l0':b0.length<=16:=by rw [l0];split<;>omega
 have l1':b1.length<=16:=by rw [l1];split<;>omega
 unfold Fit at f0 f1;have f0':((e.Digests.getD 0 []).length:Int)<=32:=by rw [f0];split<;>decide
 have f1':((e.Digests.getD 1 []).length:Int)<=32:=by rw [f1];split<;>decide
 have g0:∀ d∈e.Digests,d.length<=32:=by
  intro d hd;obtain ⟨i,hi,rfl⟩:=List.mem_iff_getElem.mp hd;have hi2:i=0∨i=1:=by omega
  rcases hi2 with rfl | rfl
  ·have:(e.Digests.getD 0 [])=e.Digests[0]:=by simp [hi]
   rw [<- this];omega
  ·have:(e.Digests.getD 1 [])=e.Digests[1]:=by simp [hi]
   rw [<- this];omega
 have i0:idx e.Digests 0=some (e.Digests.getD 0 []):=zQ9 (i:=0) (by omega);have i1:idx e.Digests 1=some (e.Digests.getD 1 []):=zQ9 (i:=1) (by omega);obtain ⟨a0,a1⟩:=zYe b0 b1 u (tH active 0) (tH active 1) (by rw [l0];cases tH active 0<;>rfl) (by rw [l1];cases tH active 1<;>rfl);unfold pG;refine Def.bd (P:=λb=>b=false) ?_ (λb hb=>?_)
 ·refine Def.c (λh=>by cases h) (λ_=>Def.c (λh=>by cases h) (λ_=>?_));refine Def.bd (P:=λb=>b=true) ?_ (λb hb=>?_)
  ·unfold oC;refine Def.bd (P:=λb=>b=true) ?_ (λb hb=>Def.s hb);refine Def.c (λ_=>Def.s ?_) (λh=>?_)
   ·rw [decide_eq_true_iff];omega
   ·have:=dF h;omega
  subst hb;refine Def.c (λh=>by cases h) (λ_=>Def.s ?_);simp;omega
 subst hb;refine Def.c (λh=>by cases h) (λ_=>?_);refine Def.bd (P:=λn=>n=0) ?_ (λn hn=>?_)
 ·unfold kA;refine Def.bd (P:=λb=>b=false) (Def.s rfl) (λb hb=>?_);subst hb;refine Def.c (λh=>by cases h) (λ_=>?_);have e14:(e.Register==14)=false:=by simp;omega
  have e15:(e.Register==15)=false:=by simp;omega
  rw [e14,e15];exact Def.s rfl
 subst hn;refine Def.c (λh=>by cases h) (λ_=>?_);refine Def.bd (P:=λr=>r=.inr ()) ?_ (λr hr=>?_)
 ·refine Def.loop (λs=>s=0∨s=1∨s=2) (λs=>2 - s.toNat) (λs hs=>?_) (.inl rfl) (by simp);unfold kH;refine Def.c (λh=>?_) (λh=>Def.s rfl);rcases hs with rfl | rfl | rfl
  ·refine Def.bd (P:=λd=>d=e.Digests.getD 0 []) (Def.of i0 rfl) (λd hd=>?_);refine Def.bd (P:=λb=>b=false) ?_ (λb hb=>?_)
   ·refine Def.bd (P:=λb=>b=tH active 0) (Def.of a0 rfl) (λb hb=>?_);subst hb;refine Def.c (λh=>Def.s ?_) (λ_=>Def.s rfl);have hh:tH active 0=false:=by simpa using h
    rw [if_neg (by show ¬ (e.Kind≠5/\tH active 0=true);rw [hh];simp)] at f0;rw [decide_eq_false_iff_not,hd];omega
   subst hb;exact Def.s ⟨.inr (.inl rfl),by decide⟩
  ·refine Def.bd (P:=λd=>d=e.Digests.getD 1 []) (Def.of i1 rfl) (λd hd=>?_);refine Def.bd (P:=λb=>b=false) ?_ (λb hb=>?_)
   ·refine Def.bd (P:=λb=>b=tH active 1) (Def.of a1 rfl) (λb hb=>?_);subst hb;refine Def.c (λh=>Def.s ?_) (λ_=>Def.s rfl);have hh:tH active 1=false:=by simpa using h
    rw [if_neg (by show ¬ (e.Kind≠5/\tH active 1=true);rw [hh];simp)] at f1;rw [decide_eq_false_iff_not,hd];omega
   subst hb;exact Def.s ⟨.inr (.inr rfl),by decide⟩
  ·have:=dT h;omega
 subst hr;refine Def.bd (P:=λr=>r=.inr ()) ?_ (λr hr=>?_)
 ·refine Def.loop (λs=>s=0∨s=1∨s=2) (λs=>2 - s.toNat) (λs hs=>?_) (.inl rfl) (by simp);unfold kG;refine Def.c (λh=>?_) (λh=>Def.s rfl);rcases hs with rfl | rfl | rfl
  ·refine Def.bd (P:=λd=>d=e.Digests.getD 0 []) (Def.of i0 rfl) (λd hd=>?_);refine Def.bd (P:=λb=>b=false) ?_ (λb hb=>?_)
   ·refine Def.bd (P:=λb=>b=tH active 0) (Def.of a0 rfl) (λb hb=>?_);subst hb;refine Def.c (λh=>?_) (λ_=>Def.s rfl);refine Def.bd (P:=λd=>d=siz 0) (Def.of (eG 0) rfl) (λz hz=>Def.s ?_);rw [if_pos ⟨hk,h⟩] at f0;rw [hd,hz];simp;exact f0
   subst hb;exact Def.s ⟨.inr (.inl rfl),by decide⟩
  ·refine Def.bd (P:=λd=>d=e.Digests.getD 1 []) (Def.of i1 rfl) (λd hd=>?_);refine Def.bd (P:=λb=>b=false) ?_ (λb hb=>?_)
   ·refine Def.bd (P:=λb=>b=tH active 1) (Def.of a1 rfl) (λb hb=>?_);subst hb;refine Def.c (λh=>?_) (λ_=>Def.s rfl);refine Def.bd (P:=λd=>d=siz 1) (Def.of (eG 1) rfl) (λz hz=>Def.s ?_);rw [if_pos ⟨hk,h⟩] at f1;rw [hd,hz];simp;exact f1
   subst hb;exact Def.s ⟨.inr (.inr rfl),by decide⟩
  ·have:=dT h;omega
 subst hr;refine Def.bd (P:=λx=>x=(b0,b1,u)) (Def.of (zP3 _ b0 b1 rfl l0' l1' m0 m1) rfl) (λx hx=>?_);subst hx;obtain ⟨rn,hrn⟩:=Int.eq_ofNat_of_zero_le r0;have one:∀ (a:Nat) (bk:List By) (f:By->By) (hbk:idx [b0,b1] (a:Int)=some bk) (h2:a<2) (h16:bk.length=16) (mm:∀ x∈bk,x.length<=32) (hf:∀ z,z.length<2 ^ 40->xK (a:Int) z=some (f z)),
   Def ((idx [b0,b1] (a:Int)).bind λv=>(idx v e.Register).bind λw=>(yO 1 [] w).bind λw'=>(idx e.Digests (a:Int)).bind λd=>(yO 1 w' d).bind λz=>(xK (a:Int) z).bind λs=>(ixN bk.length e.Register).bind λj=>(rF bk j s).bind λl=>some l)
    (λb=>b=upR true bk e.Register (λx=>f (x++e.Digests.getD a []))):=by
  intro a bk f hbk h2 h16 mm hf;rw [hrn];refine Def.bd (P:=λv=>v=bk) (Def.of hbk rfl) (λv hv=>?_);subst hv;have:=zLr mm rn;refine Def.bd (P:=λx=>x=v.getD rn []) (Def.of (zQ9 (by omega)) rfl) (λx hx=>?_);subst hx;refine Def.bd (Def.app (by simp only [List.length_nil];omega)) (λy hy=>?_);rw [List.nil_append] at hy;subst hy;have:=zLr g0 a;refine Def.bd (P:=λd=>d=e.Digests.getD a []) (Def.of (zQ9 (by omega)) rfl) (λd hd=>?_);subst hd;refine Def.bd (Def.app (by omega)) (λz hz=>?_);have hzl:z.length<2 ^ 40:=by rw [hz,List.length_append];omega
  refine Def.bd (P:=λs=>s=f z) (Def.of (hf z hzl) rfl) (λs hs=>?_);refine Def.bd (Def.ixN (by omega) (by omega)) (λj hj=>?_);refine Def.bd (Def.upd hj.2) (λq hq=>Def.s ?_);rw [hq,hj.1,hs,hz];rfl
 refine Def.bd (P:=λb=>b=upR (tH active 0) b0 e.Register (λx=>zCp (x++e.Digests.getD 0 []))) ?_ (λc0 hc0=>?_)
 ·refine Def.bd (P:=λb=>b=tH active 0) (Def.of a0 rfl) (λb hb=>?_);subst hb;refine Def.c (λh=>?_) (λh=>Def.s (by rw [h];rfl));rw [if_pos h] at l0;rw [h];exact one 0 b0 zCp rfl (by omega) l0 m0 zI6
 refine Def.bd (P:=λb=>b=upR (tH active 1) b1 e.Register (λx=>sha (x++e.Digests.getD 1 []))) ?_ (λc1 hc1=>?_)
 ·refine Def.bd (P:=λb=>b=tH active 1) (Def.of a1 rfl) (λb hb=>?_);subst hb;refine Def.c (λh=>?_) (λh=>Def.s (by rw [h];rfl));rw [if_pos h] at l1;rw [h];exact one 1 b1 sha rfl (by omega) l1 m1 zIu
 exact Def.s (by rw [hc0,hc1];rfl)
set_option maxRecDepth 100000
theorem zI7 (on:Bool) (active:Int) (data:By) (hd:data.length<2 ^ 40) (step:(Int×List By)->Option ((Int×List By) ⊕ List By))
  (h0:∀ v,step (0,v)=((bif (on&&tH active 0) then ((xK 0 data).bind λs=>(ixN 2 0).bind λj=>(rF v j s).bind λw=>some w) else some v:Option (List By)).bind λw=>some (.inl (1,w))))
  (h1:∀ v,step (1,v)=((bif (on&&tH active 1) then ((xK 1 data).bind λs=>(ixN 2 1).bind λj=>(rF v j s).bind λw=>some w) else some v:Option (List By)).bind λw=>some (.inl (2,w))))
  (h2:∀ v,step (2,v)=some (.inr v)):zN step FU (0,[[],[]])=some (dgE active on data):=by
 unfold dgE;refine two (b:=(1,[if (on&&tH active 0)=true then zCp data else [],[]])) (c:=(2,[if (on&&tH active 0)=true then zCp data else [],if (on&&tH active 1)=true then sha data else []])) ?_ ?_ (h2 _)
 ·rw [h0];refine bd (a:=[if (on&&tH active 0)=true then zCp data else [],[]]) ?_ rfl;refine (zPy (a:=0) rfl (by omega) (zI6 data hd)).trans ?_;cases (on&&tH active 0)<;>rfl
 ·rw [h1];refine bd (a:=[if (on&&tH active 0)=true then zCp data else [],if (on&&tH active 1)=true then sha data else []]) ?_ rfl;refine (zPy (a:=1) rfl (by omega) (zIu data hd)).trans ?_;cases (on&&tH active 1)<;>rfl
theorem zBt {α:Type} {a:Bool} {x:Option Bool} {f:Bool->Option α} {r:Option α} (hx:x=some b) (h:f (a&&b)=r):(bif a then x else some false).bind f=r:=by
 cases a
 ·exact h
 ·subst hx;exact h
theorem zEb (reg kind active:Int) (data:By) (hd:data.length<2 ^ 40):tY reg kind active data=some (mkE reg kind active data):=by
 unfold tY mkE;refine bd (a:=data) (by unfold bytes_Clone;exact ct (zEo (by omega)) rfl) ?_;refine bd (zI7 (kind != 5) active data hd _ (λv=>?_) (λv=>?_) (λv=>?_)) (bd (ckT rfl) rfl)
 ·unfold mV;refine ct rfl ?_;refine congrArg (λo:Option (List By)=>o.bind _) ?_;exact zBt (bd (ckT rfl) rfl) rfl
 ·unfold mV;refine ct rfl ?_;refine congrArg (λo:Option (List By)=>o.bind _) ?_;exact zBt (bd (ckT rfl) rfl) rfl
 ·unfold mV;exact cf rfl rfl
theorem zI3 (x:zB) (active:Int) (h:gR x):mY x active=some (dgE active true (qD x)):=by
 have hl:=zJu x;unfold mY;refine bd (zSo h) ?_;have hp:decide (0<((qD x).length:Int))=true:=by simp;omega
 refine bd (zI7 true active (qD x) (by omega) _ (λv=>?_) (λv=>?_) (λv=>?_)) (bd (ckT rfl) rfl)
 ·unfold pE;refine ct rfl ?_;refine congrArg (λo:Option (List By)=>o.bind _) ?_;rw [hp];exact zBt (bd (ckT rfl) rfl) rfl
 ·unfold pE;refine ct rfl ?_;refine congrArg (λo:Option (List By)=>o.bind _) ?_;rw [hp];exact zBt (bd (ckT rfl) rfl) rfl
 ·unfold pE;exact cf rfl rfl
theorem zSi (h1:1<=r) (h4:r<=4):r=1∨r=2∨r=3∨r=4:=by omega
theorem zQn (h1:1<=r) (h4:r<=4):vD r=some (rgR r):=by
 rcases zSi h1 h4 with rfl | rfl | rfl | rfl<;>rfl
theorem cQ (x:zB) (active:Int) (h:gR x) (h4:x.Role≠4):uT x active=some (imE active x):=by
 obtain ⟨a1,a2,a3,a4,a5,a6⟩:=h.f;have hd:=zEz 20 x.Version.toNat;unfold uT imE lbl;refine bd (a:=false) (bd ((jP x).trans h) (cf rfl (congrArg some (by rw [beq_eq_false_iff_ne];exact h4)))) (cf rfl ?_);refine bd (zQn a1 a2) (bd (zI3 x active h) (bd (ckT (zEo (by simp;omega))) ?_));refine bd (a:=decF 20 x.Version.toNat) (by unfold strconv_Itoa;exact ct (by simp;omega) rfl) ?_;refine bd (ckT (zEo (by simp only [List.length_append,List.length_cons,List.length_nil];omega))) (bd (ckT (zEo (by simp only [List.length_append,List.length_cons,List.length_nil];omega))) rfl)
theorem zE1 (hi:i<l.length):evR active role (l.take (i+1))=evR active role (l.take i)++(if l[i].Role=role then (if role=4 then (zFy l[i]).map (mkE 9 3 active) else [imE active l[i]]) else []):=by
 unfold evR;rw [List.take_add_one,List.flatMap_append];simp [hi]
theorem rM (hi:i<l.length) (h:l[i].Role≠role):evR active role (l.take (i+1))=evR active role (l.take i):=by
 rw [zE1 hi,if_neg h,List.append_nil]
theorem zG9 (hi:i<l.length) (h:l[i].Role=role) (h4:role≠4):evR active role (l.take (i+1))=evR active role (l.take i)++[imE active l[i]]:=by
 rw [zE1 hi,if_pos h,if_neg h4]
theorem zR8 (hi:i<l.length) (h:l[i].Role=4):evR active 4 (l.take (i+1))=evR active 4 (l.take i)++(zFy l[i]).map (mkE 9 3 active):=by
 rw [zE1 hi,if_pos h,if_pos rfl]
theorem zK5 (active:Int) (x:zB) (hx:x.Role=4) (L:List By) (hl:L.length<=4) (h8:∀ l∈L,l.length<=8) (a b c d e:List zC) (he:e.length<=100) :
  zN (rY active x L) FU (0,a,b,c,d,e)=some (a,b,c,d,e++L.map (mkE 9 3 active)):=by
 refine yK L.length (λi=>((i:Int),a,b,c,d,e++(L.map (mkE 9 3 active)).take i)) (by simp) (λi hi=>?_) ?_ (xW (by omega))
 ·have:=h8 _ (List.getElem_mem hi);have hreg:vD x.Role=some 9:=by rw [hx];rfl
  unfold rY;refine ct (dlt hi) (bd (yR hi) ?_);refine bd (a:=(a,b,c,d,e++(L.map (mkE 9 3 active)).take (i+1))) (cf (by rw [hx];rfl) (cf (by rw [hx];rfl) (cf (by rw [hx];rfl) (cf (by rw [hx];rfl) (ct (by rw [hx];rfl) ?_))))) (by rw [wX (by omega)]);refine bd hreg (bd (zEb _ 3 active _ (by omega)) (bd (yJ (by simp;omega)) ?_));rw [List.take_add_one,List.append_assoc];simp [hi]
 ·unfold rY;refine cf (dge (Nat.le_refl _)) ?_;rw [List.take_of_length_le (by simp)]
theorem zNc (active:Int) (out:List zC) (h:out.length<=100):zN (rT active) FU (out,0)=some (out++zF8 active):=by
 refine yK 8 (λi=>(out++(zF8 active).take i,(i:Int))) (by simp) (λi hi=>?_) ?_ (xW (by decide))
 ·unfold rT;refine ct (by simp;omega) ?_;refine bd (a:=4) rfl ?_;refine bd (zEb _ 2 active _ (by decide)) ?_;refine bd (yJ (by simp [zF8];omega)) ?_;rw [wX (by omega),List.take_add_one,List.append_assoc];have:(zF8 active)[i]? = some (mkE (i:Int) 2 active [0,0,0,0]):=by simp [zF8,hi]
  rw [this];rfl
 ·unfold rT;refine cf rfl ?_;rw [List.take_of_length_le (by rw [zEh];omega)]
theorem zIe (l:List zB) (active:Int) (hl:l.length<=8) (him:∀ x∈l,pP x):zN (rS l active) FU (0,[],[],[],[],[])=some ([],evR active 1 l,evR active 2 l,evR active 3 l,evR active 4 l):=by
 refine yK l.length (λi=>((i:Int),[],evR active 1 (l.take i),evR active 2 (l.take i),evR active 3 (l.take i),evR active 4 (l.take i))) (by simp [evR]) (λi hi=>?_) ?_ (xW (by omega))
 ·have hg:=him _ (List.getElem_mem hi);have hle:=λrole=>zRv active role (l.take i) (λx hx=>him x (List.mem_of_mem_take hx));have hlt:(l.take i).length<=8:=by simp;omega
  have e1:=hle 1;have e2:=hle 2;have e3:=hle 3;have e4:=hle 4;have hw:IntKind.i64.wrap ((i:Int)+1)=((i+1:Nat):Int):=wX (by omega);unfold rS;refine ct (dlt hi) ?_;rcases zSi hg.r1 hg.r4 with hr | hr | hr | hr
  ·rw [zG9 hi hr (by decide),rM hi (show l[i].Role≠2 by omega),rM hi (show l[i].Role≠3 by omega),rM hi (show l[i].Role≠4 by omega)];refine bd (bd (yR hi) (ct (by rw [hr];rfl) (bd (cf (by rw [hr];rfl) (ct (by rw [hr];rfl) (bd (cQ _ active hg.ok (by omega)) (bd (yJ (by simp only [List.length_singleton];omega)) rfl)))) rfl))) (by rw [hw])
  ·rw [zG9 hi hr (by decide),rM hi (show l[i].Role≠1 by omega),rM hi (show l[i].Role≠3 by omega),rM hi (show l[i].Role≠4 by omega)];refine bd (bd (yR hi) (ct (by rw [hr];rfl) (bd (cf (by rw [hr];rfl) (cf (by rw [hr];rfl) (ct (by rw [hr];rfl) (bd (cQ _ active hg.ok (by omega)) (bd (yJ (by simp only [List.length_singleton];omega)) rfl))))) rfl))) (by rw [hw])
  ·rw [zG9 hi hr (by decide),rM hi (show l[i].Role≠1 by omega),rM hi (show l[i].Role≠2 by omega),rM hi (show l[i].Role≠4 by omega)];refine bd (bd (yR hi) (ct (by rw [hr];rfl) (bd (cf (by rw [hr];rfl) (cf (by rw [hr];rfl) (cf (by rw [hr];rfl) (ct (by rw [hr];rfl) (bd (cQ _ active hg.ok (by omega)) (bd (yJ (by simp only [List.length_singleton];omega)) rfl)))))) rfl))) (by rw [hw])
  ·rw [zR8 hi hr,rM hi (show l[i].Role≠1 by omega),rM hi (show l[i].Role≠2 by omega),rM hi (show l[i].Role≠3 by omega)];obtain ⟨q1,q2,q3⟩:=zKs _ hg hr;have hp:=hg.p;have q4:=(zD5 l[i] (by omega)).trans q1;refine bd (bd (yR hi) (cf (by rw [hr];rfl) (bd q4 (bd (zK5 active l[i] hr _ q2 (λl hl=>(q3 l hl).2.1) _ _ _ _ _ (by omega)) rfl)))) (by rw [hw])
 ·unfold rS;refine cf (dge (Nat.le_refl _)) ?_;simp
theorem zJ8 (l:List zB) (active:Int) (h:jI l) (h1:1<=active) (h3:active<=3):uX l active=some (evs l active):=by
 have hl:=h.len;have hb:=zMa active l h.im;have hsl:=zEh active;unfold uX;refine bd (a:=false) (cf (by simp;omega) (cf (by simp;omega) (bd h.ok.p rfl))) (cf rfl ?_);refine bd (zIe l active hl h.im) ?_;refine bd (yJ (by omega)) (bd (zNc active _ (by rw [List.length_append];omega)) (bd (yJ (by simp only [List.length_append];omega)) (bd (yJ (by simp only [List.length_append];omega)) ?_)));unfold evs;simp only [List.append_assoc]
theorem zJ6 (active:Int):uX [] active=some []:=by
 unfold uX;refine bd (a:=true) ?_ (ct rfl rfl);cases decide (active<1)<;>cases decide (3<active)<;>rfl
set_option maxRecDepth 100000
theorem wUO:iE=xO:=rfl
theorem wBO:eN=wE:=rfl
structure zD4 (c:Int) (is:List Int) (bs:List By):Prop where
 sh:rP c=some (0,0,(is.length:Int),(bs.length:Int),true)
 c0:0<=c
 c1:c<256
 il:is.length<=2
 bl':bs.length<=2
 i:∀ x∈is,0<=x/\x<=1099511627776
 b:∀ x∈bs,x.length<=32
def rq (c:Int) (is:List Int) (bs:List By):yA:=yA.mk c [] [] is bs
def rqB (c:Int) (is:List Int) (bs:List By):By:=u8 c :: (is.flatMap (λn=>beN n 8 8)++(u8 (bs.length:Int) :: bs.flatMap bl))
def rqW (c:Int) (is:List Int) (bs:List By):By:=[83,87]++(beN ((4+(rqB c is bs).length:Nat):Int) 2 2++rqB c is bs)
theorem zBv (is:List Int):(is.flatMap (λn=>beN n 8 8)).length=8*is.length:=by
 induction is with
 | nil=>rfl
 | cons x l ih=>simp only [List.flatMap_cons,List.length_append,yY,List.length_cons,ih];omega
theorem zG2 (bs:List By) (h:∀ x∈bs,x.length<=32):(bs.flatMap bl).length<=34*bs.length:=by
 induction bs with
 | nil=>simp
 | cons x l ih=>
  have h1:=h x (by simp);have h2:=ih λy hy=>h y (by simp [hy]);simp only [List.flatMap_cons,List.length_append,uY,List.length_cons];omega
theorem zDr (h:zD4 c is bs):2<=(rqB c is bs).length/\(rqB c is bs).length<=100:=by
 have h1:=zBv is;have h2:=zG2 bs h.b;have h3:=h.il;have h4:=h.bl';unfold rqB;simp only [List.length_cons,List.length_append];omega
theorem zH7 (h:zD4 c is bs):(rqW c is bs).length=4+(rqB c is bs).length:=by
 unfold rqW;simp only [List.length_append,yY,List.length_cons,List.length_nil];omega
theorem zOb (hi:i<bs.length):(bs.take (i+1)).flatMap bl=(bs.take i).flatMap bl++bl bs[i]:=by
 rw [List.take_add_one,List.flatMap_append];simp [hi]
theorem zOv (hi:i<is.length):(is.take (i+1)).flatMap (λn=>beN n 8 8)=(is.take i).flatMap (λn=>beN n 8 8)++beN is[i] 8 8:=by
 rw [List.take_add_one,List.flatMap_append];simp [hi]
theorem wrt (h:zD4 c is bs):pW (rq c is bs)=some (rqW c is bs):=by
 have hB:=zDr h;have hil:=h.il;have hbl:=h.bl';unfold pW;refine bd (ckT rfl) ?_;refine bd (a:=[83,87]) rfl ?_;refine bd (a:=[83,87,0,0,u8 c]) rfl ?_;refine bd (a:=[83,87,0,0,u8 c]) (tN (by unfold eF;exact cf rfl rfl)) ?_;refine bd (a:=[83,87,0,0,u8 c]) (tN (by unfold fL;exact cf rfl rfl)) ?_;refine bd (a:=[83,87,0,0,u8 c]++is.flatMap (λn=>beN n 8 8)) ?_ ?_
 ·refine yK is.length (λi=>([83,87,0,0,u8 c]++(is.take i).flatMap (λn=>beN n 8 8),(i:Int))) (by simp) (λi hi=>?_) ?_ (xW (by omega))
  ·unfold mI;refine ct (dlt hi) (bd (yR hi) ?_);rw [wUO];refine bd (wU _ 8 _ (by omega) (by omega) ?_) ?_
   ·rw [List.length_append,zBv];simp;omega
   ·rw [zOv hi,List.append_assoc,wX (by omega)]
  ·unfold mI;refine cf (dge (Nat.le_refl _)) ?_;rw [List.take_length]
 refine bd (yJ (by rw [List.length_append,zBv];simp;omega)) ?_;refine bd (a:=(([83,87,0,0,u8 c]++is.flatMap (λn=>beN n 8 8))++[u8 (bs.length:Int)])++bs.flatMap bl) ?_ ?_
 ·refine yK bs.length (λi=>((([83,87,0,0,u8 c]++is.flatMap (λn=>beN n 8 8))++[u8 (bs.length:Int)])++(bs.take i).flatMap bl,(i:Int))) (by simp;rfl) (λi hi=>?_) ?_ (xW (by omega))
  ·have hx:=h.b _ (List.getElem_mem hi);have ht:=zG2 (bs.take i) λx hx=>h.b x (List.mem_of_mem_take hx);have ht2:(bs.take i).length<=2:=by simp;omega
   unfold mJ;refine ct (dlt hi) (bd (yR hi) ?_);rw [wBO];refine bd (wB _ _ ?_ (by omega)) ?_
   ·simp only [List.length_append,zBv,List.length_cons,List.length_nil];omega
   ·rw [zOb hi,List.append_assoc,wX (by omega)]
  ·unfold mJ;refine cf (dge (Nat.le_refl _)) ?_;rw [List.take_length]
 have e:(([83,87,0,0,u8 c]++is.flatMap (λn=>beN n 8 8))++[u8 (bs.length:Int)])++bs.flatMap bl=[83,87,0,0]++rqB c is bs:=by
  unfold rqB;simp
 rw [e];have el:(([83,87,0,0]:By)++rqB c is bs).length=4+(rqB c is bs).length:=by simp;omega
 refine bd (ckT (zEo (by omega))) ?_;refine bd (wU [] 2 _ (by omega) (by omega) (by simp)) ?_;refine bd (ckT (zEo (by omega))) ?_;rw [el];unfold rqW cpA;obtain ⟨a,b,hab⟩:∃ a b,beN ((4+(rqB c is bs).length:Nat):Int) 2 2=[a,b]:=⟨_,_,rfl⟩;rw [hab];rfl
theorem chk (h:zD4 c is bs):pR (rq c is bs)=some 0:=by
 have hB:=zDr h;have hil:=h.il;have hbl:=h.bl';unfold pR;refine bd h.sh (cf rfl ?_);refine bd (a:=true) (ct rfl (ct rfl (ct (by simp [rq]) (bd (a:=true) ?_ rfl)))) ?_
 ·unfold rH;exact bd (ct (by simp [rq]) rfl) rfl
 refine bd (a:=true) (tN (by unfold fG;exact cf rfl rfl)) ?_;refine bd (a:=true) (tN (by unfold eD;exact cf rfl rfl)) ?_;refine bd (a:=true) ?_ (cf rfl ?_)
 ·refine yK is.length (λi=>(true,(i:Int))) rfl (λi hi=>?_) ?_ (xW (by omega))
  ·have hx:=h.i _ (List.getElem_mem hi);unfold mF;refine ct (dlt hi) (bd (yR hi) ?_);refine bd (a:=true) (ct rfl (ct (by simp;exact hx.1) (congrArg some (by simp;exact hx.2)))) ?_;rw [wX (by omega)]
  ·unfold mF;exact cf (dge (Nat.le_refl _)) rfl
 refine bd (a:=true) (tN (by unfold fR;exact cf rfl rfl)) ?_;refine bd (a:=true) ?_ ?_
 ·refine yK bs.length (λi=>(true,(i:Int))) rfl (λi hi=>?_) ?_ (xW (by omega))
  ·have hx:=h.b _ (List.getElem_mem hi);unfold mK;refine ct (dlt hi) (bd (yR hi) ?_);refine bd (a:=true) (ct rfl (congrArg some (by simp;omega))) ?_;rw [wX (by omega)]
  ·unfold mK;exact cf (dge (Nat.le_refl _)) rfl
 have hw:=zH7 h;exact bd (a:=false) (cf rfl (bd (wrt h) (congrArg some (by simp;omega)))) (cf rfl rfl)
theorem zYs (h:zD4 c is bs):oZ (rq c is bs)=some (rqW c is bs,0):=by
 unfold oZ;exact bd (chk h) (cf rfl (bd (wrt h) rfl))
theorem zTr (h:zD4 c is bs):lA (rqW c is bs)=some (c,0):=by
 have hB:=zDr h;have hw:=zH7 h;obtain ⟨a,b,hab,hv⟩:=be2 (4+(rqB c is bs).length) (by omega);obtain ⟨t,ht⟩:∃ t,rqB c is bs=u8 c :: t:=⟨_,rfl⟩;have e:rqW c is bs=83 :: 87 :: a :: b :: u8 c :: t:=by unfold rqW;rw [hab,ht];rfl
 unfold lA;refine cf (by simp;omega) (cf (by simp;omega) ?_);rw [e];refine bd (a:=false) rfl (cf rfl ?_);refine bd (a:=a) rfl (bd (a:=b) rfl (ltk ?_));have hl2:((83 :: 87 :: a :: b :: u8 c :: t:By)).length=4+(rqB c is bs).length:=by rw [<- e];exact hw
 rw [zSs,<- hv,hl2];refine cf (by simp) (cf (by simp) ?_);refine bd (a:=u8 c) rfl ?_;have h0:=h.c0;have h1:=h.c1;rw [zSh c h0 h1,yN (by omega) (by omega)]
theorem yAl (h:zD4 c is bs):oU (rqW c is bs)=some (rq c is bs,0):=by
 have hB:=zDr h;have hw:=zH7 h;have hil:=h.il;have hbl:=h.bl';unfold oU;refine bd (zTr h) (cf rfl (bd h.sh (cf rfl ?_)));let body:=is.flatMap (λn=>beN n 8 8)++(u8 (bs.length:Int) :: bs.flatMap bl);have e:(rqW c is bs).drop 5=body:=by
  unfold rqW rqB;obtain ⟨a,b,hab⟩:∃ a b,beN ((4+(u8 c :: (is.flatMap (λn=>beN n 8 8)++(u8 (bs.length:Int) :: bs.flatMap bl))).length:Nat):Int) 2 2=[a,b]:=⟨_,_,rfl⟩;rw [hab];rfl
 have hsub:sub (rqW c is bs) 5 ((rqW c is bs).length:Int)=some body:=by
  have:=tJ (l:=rqW c is bs) (a:=5) (b:=(rqW c is bs).length) (by omega) (Nat.le_refl _);rw [List.take_of_length_le (by simp),e] at this;exact this
 have hbody:body.length<2 ^ 40:=by rw [<- e,List.length_drop];omega
 refine bd hsub ?_;obtain ⟨r,g,e1⟩:=zJs body hbody;refine bd e1 ?_;refine bd (a:=([],r.W.b_,r.W.at_,r.W.e_)) (tN (by unfold gA;exact cf rfl rfl)) ?_;refine bd (a:=([],r.W.b_,r.W.at_,r.W.e_)) (tN (by unfold hZ;exact cf rfl rfl)) ?_;have l3:∀ (m acc:List Int) (v:Int) (r:RS) (fuel:Nat) (rest:By),m.length<fuel->Rd r (m.flatMap (λn=>beN n 8 8)++rest)->(∀ x∈m,0<=x/\x<=1099511627776)->0<=v->v+m.length=(is.length:Int)->acc.length<=2->(acc.length:Int)+m.length<=2 ->
   ∃ r',Rd r' rest/\zN (vY (is.length:Int)) fuel (v,acc,r.W.b_,r.W.at_,r.W.e_)=some (.inr (acc++m,r'.W.b_,r'.W.at_,r'.W.e_)):=by
  intro m;induction m with
  | nil=>
   intro acc v r fuel rest hf g _ hv0 hv _ _;obtain ⟨f,rfl⟩:∃ f,fuel=f+1:=⟨fuel - 1,by simp at hf;omega⟩;refine ⟨r,g,?_⟩;simp only [zN];have:vY (is.length:Int) (v,acc,r.W.b_,r.W.at_,r.W.e_)=some (.inr (.inr (acc,r.W.b_,r.W.at_,r.W.e_))):=by
    unfold vY;exact cf (by simp at hv ⊢;omega) rfl
   rw [this,List.append_nil]
  | cons x m ih=>
   intro acc v r fuel rest hf g hm hv0 hv ha hb;obtain ⟨f,rfl⟩:∃ f,fuel=f+1:=⟨fuel - 1,by simp at hf;omega⟩;simp only [List.length_cons] at hf hv hb;have hx:=hm x (by simp);have g':Rd r (beN x 8 8++(m.flatMap (λn=>beN n 8 8)++rest)):=g.cast (by simp);obtain ⟨r1,g1,e1⟩:=rdU (k:=8) g' (by omega) (by omega) hx.1 (by omega) (by omega);obtain ⟨r2,g2,e2⟩:=ih (acc++[x]) (v+1) r1 f rest (by omega) g1 (λy hy=>hm y (by simp [hy])) (by omega) (by omega) (by simp;omega) (by simp;omega);refine ⟨r2,g2,?_⟩;simp only [zN];have:vY (is.length:Int) (v,acc,r.W.b_,r.W.at_,r.W.e_)=some (.inl (v+1,acc++[x],r1.W.b_,r1.W.at_,r1.W.e_)):=by
    unfold vY;refine ct (by simp;omega) (bd e1 ?_);refine bd (a:=(false,r1.W.b_,r1.W.at_,r1.W.e_)) (bd (zKt g1) (ct rfl ?_)) (cf rfl ?_)
    ·rw [show decide (1099511627776<x)=false by simp;omega]
    ·refine bd (yJ (by simp;omega)) ?_;rw [yN (by omega) (by omega)]
   rw [this];simp only;rw [e2,List.append_assoc];rfl
 obtain ⟨r1,g1,e2⟩:=l3 is [] 0 r FU (u8 (bs.length:Int) :: bs.flatMap bl) (xW (by omega)) g h.i (by omega) (by omega) (by simp) (by simp;omega);refine bd e2 ?_;obtain ⟨r2,g2,e3⟩:=rdBt g1 (by omega) (by omega);refine bd e3 ?_;refine bd (a:=(false,r2.W.b_,r2.W.at_,r2.W.e_)) (bd (zKt g2) (ct rfl (bd (a:=true) ?_ rfl))) (cf rfl ?_)
 ·unfold rH;exact bd (ct (by simp) rfl) rfl
 have l4:∀ (m acc:List By) (v:Int) (r:RS) (fuel:Nat),m.length<fuel->Rd r (m.flatMap bl)->(∀ x∈m,x.length<=32)->0<=v->v+m.length=(bs.length:Int)->acc.length<=2->(acc.length:Int)+m.length<=2 ->
   ∃ r',Rd r' []/\zN (vZ (bs.length:Int)) fuel (v,acc,r.W.b_,r.W.at_,r.W.e_)=some (acc++m,r'.W.b_,r'.W.at_,r'.W.e_):=by
  intro m;induction m with
  | nil=>
   intro acc v r fuel hf g _ hv0 hv _ _;obtain ⟨f,rfl⟩:∃ f,fuel=f+1:=⟨fuel - 1,by simp at hf;omega⟩;refine ⟨r,g,?_⟩;simp only [zN];have:vZ (bs.length:Int) (v,acc,r.W.b_,r.W.at_,r.W.e_)=some (.inr (acc,r.W.b_,r.W.at_,r.W.e_)):=by
    unfold vZ;exact cf (by simp at hv ⊢;omega) rfl
   rw [this,List.append_nil]
  | cons x m ih=>
   intro acc v r fuel hf g hm hv0 hv ha hb;obtain ⟨f,rfl⟩:∃ f,fuel=f+1:=⟨fuel - 1,by simp at hf;omega⟩;simp only [List.length_cons] at hf hv hb;have hx:=hm x (by simp);have g':Rd r (bl x++m.flatMap bl):=g.cast (by simp);obtain ⟨r1,g1,e1⟩:=zQu (k:=1024) g' (by omega) (by omega);obtain ⟨r2,g2,e2⟩:=ih (acc++[x]) (v+1) r1 f (by omega) g1 (λy hy=>hm y (by simp [hy])) (by omega) (by omega) (by simp;omega) (by simp;omega);refine ⟨r2,g2,?_⟩;simp only [zN];have:vZ (bs.length:Int) (v,acc,r.W.b_,r.W.at_,r.W.e_)=some (.inl (v+1,acc++[x],r1.W.b_,r1.W.at_,r1.W.e_)):=by
    unfold vZ;refine ct (by simp;omega) (bd e1 (bd (yJ (by simp;omega)) ?_));rw [yN (by omega) (by omega)]
   rw [this];simp only;rw [e2,List.append_assoc];rfl
 obtain ⟨r3,g3,e4⟩:=l4 bs [] 0 r2 FU (xW (by omega)) g2 h.b (by omega) (by omega) (by simp) (by simp;omega);refine bd e4 ?_;exact bd (rdE g3) (cf rfl rfl)
set_option maxRecDepth 100000
theorem sh1:rP 1=some (0,0,1,0,true):=by decide +kernel
theorem sh6:rP 6=some (0,0,1,2,true):=by decide +kernel
theorem rqS:zD4 1 [0] []:=⟨sh1,by decide,by decide,by decide,by decide,by simp,by simp⟩
theorem rqE (h:EvGood e active):zD4 6 [e.Register] e.Digests:=by
 have hl:=h.l;refine ⟨by rw [sh6,hl];rfl,by decide,by decide,by simp,by omega,?_,?_⟩
 ·have:=h.r0;have:=h.r1;simp;omega
 ·intro x hx;have f0:=gU h.f0;have f1:=gU h.f1
  match hd:e.Digests,hl with
  | [a,b],_=>
   rw [hd] at hx f0 f1;simp only [List.mem_cons,List.not_mem_nil,or_false] at hx;rcases hx with rfl | rfl
   ·exact f0
   ·exact f1
theorem rsp0:vH (zM.mk 0 [] [] [])=some [0,0,0,0]:=by decide +kernel
theorem rsd0:uK [0,0,0,0]=some (zM.mk 0 [] [] [],0):=by decide +kernel
def stS (s:zS):zS:=zS.mk s.Seeds s.Auths s.Entropy s.Active (s.Resets+1) 0 s.Clock false (zF.mk [] 0) s.MaxCounter s.Indices s.Lockout s.Keys
def zPa (s:zS) (v:yE):yE:=⟨true,v.Stopped,zRk s.Active,s.Clock,s.Orderly,v.Draws,v.Sessions,v.Objects,v.ReadLocks,v.WriteLocks⟩
def zMz (r:zF) (v:yE):yE:=⟨v.Started,v.Stopped,r,v.Clock,v.Safe,v.Draws,v.Sessions,v.Objects,v.ReadLocks,v.WriteLocks⟩
theorem Sst.S {s:zS} (h:Sst s) (hr:s.Resets+1<2 ^ 30):Sst (stS s):=by
 obtain ⟨a,b,c,d,e,r0,r1,f,g,i,j,k,l,m⟩:=h;exact ⟨a,b,c,d,e,by show 0<=s.Resets+1;omega,hr,rfl,g,rfl,j,k,l,m⟩
theorem zQq (s:zV) (c:Int) (is:List Int) (bs:List By):nV s (rq c is bs)=some true:=by
 unfold nV;refine bd (a:=()) (tN (by unfold hH;exact cf rfl rfl)) ?_;exact ct rfl rfl
theorem zL8 {s s':zV} {e:Int} {i:List Int} {b n:List By} (h:zD4 c is bs) (hs:c=1∨s.Volatile.Started=true)
  (hp:nE s 0 (rq c is bs)=some (s',zM.mk e i b n)) (ho:vH (zM.mk e i b [])=some out):sB s 0 (rqW c is bs)=some (s',out):=by
 unfold sB;refine bd (yAl h) (cf rfl ?_);refine bd (a:=(s',zM.mk e i b [])) ?_ (bd ho rfl);unfold jG;refine bd (chk h) (cf rfl (bd (a:=false) rfl (cf rfl (bd (a:=false) ?_ (cf rfl ?_)))))
 ·rcases hs with rfl | hs
  ·exact cf rfl rfl
  ·rw [hs];show (bif (c != 1) then some false else some false)=some false;cases (c != 1)<;>rfl
 refine bd (zQq s c is bs) (cf rfl (ct rfl (bd hp rfl)))
theorem zNw (st:zS) (v:yE) (hs:Sst st) (h1:v.Started=false) (h2:v.Stopped=false):sB ⟨st,v⟩ 0 (rqW 1 [0] [])=some (⟨stS st,zPa st v⟩,[0,0,0,0]):=by
 have hr:=hs.r0;have hr1:=hs.r1;refine zL8 rqS (.inl rfl) (b:=[]) (n:=[]) (i:=[]) (e:=0) ?_ rsp0;unfold nE;refine ct rfl (bd (a:=0) rfl (bd (a:=(⟨stS st,zPa st v⟩,0)) ?_ rfl));unfold gX;refine bd (a:=false) (cf h1 (congrArg some h2)) (cf rfl (bd (a:=false) rfl (cf rfl (bd (a:=false) rfl (cf rfl (ct rfl ?_))))));refine bd (zQ8 st.Active hs.a0 hs.a3) ?_;rw [yN (by simp only;omega) (by simp only;omega)];rfl
theorem zRb (st:zS) (v:yE) (e:zC) (active:Int) (h1:v.Started=true) (hr:zIs active v.Registers) (he:EvGood e active) (hk:e.Kind≠5):sB ⟨st,v⟩ 0 (rqW 6 [e.Register] e.Digests)=some (⟨st,zMz (ext active e v.Registers) v⟩,[0,0,0,0]):=by
 refine zL8 (rqE he) (.inr h1) (b:=[]) (n:=[]) (i:=[]) (e:=0) ?_ rsp0;unfold nE;refine cf rfl (cf rfl (cf rfl (bd (a:=true) rfl (ct rfl (bd (a:=(⟨st,zMz (ext active e v.Registers) v⟩,zM.mk 0 [] [] [])) ?_ rfl)))));unfold lY;refine cf rfl (ct rfl (bd (a:=e.Register) rfl ?_));obtain ⟨x,hx,rfl⟩:=zIm v.Registers active e hr he hk;exact bd hx (cf rfl rfl)
section
variable {st':zS} {vo':yE}
theorem Dv.commit_same (h:Dv d seq st vo m):sA d ⟨st,vo'⟩=some (⟨d.Disk,⟨st,vo'⟩,d.On,d.Next⟩,0):=by
 unfold sA;refine bd (zD7 st h.sst) ?_;refine bd (a:=.inr d) (bd (a:=sO st) (by rw [h.s];exact zD7 st h.sst) (cf (by simp) rfl)) rfl
theorem Dv.vol (h:Dv d seq st vo m):Dv ⟨d.Disk,⟨st,vo'⟩,d.On,d.Next⟩ seq st vo' m:=⟨h.toDk,h.on,h.off,h.cut,rfl,h.nx⟩
theorem Dv.commit_new (h:Dv d seq st vo m) (hs:Sst st') (hq:seq+1<2 ^ 29) (hm:m+1<2 ^ 50):∃ d' seq',sA d ⟨st',vo'⟩=some (d',0)/\Dv d' seq' st' vo' (m+1)/\seq'<=seq+1/\∀ a,2<=a->d'.Disk.Areas.getD a []=d.Disk.Areas.getD a []:=by
 have hn:=h.n;have hok:=h.ok;have hm0:=h.m0;by_cases he:sO st'=sO st
 ·have hk:Dk d.Disk seq st' (m+1):=by
   refine ⟨h.ok,?_,hm,h.n,h.al,?_,hs⟩
   ·rw [Int.natCast_add];exact Int.le_trans hm0 (by omega)
   ·rw [he];exact h.jr
  refine ⟨⟨d.Disk,⟨st',vo'⟩,d.On,d.Next⟩,seq,?_,⟨hk,h.on,h.off,h.cut,rfl,h.nx⟩,Nat.le_succ _,λ_ _=>rfl⟩;unfold sA;refine bd (zD7 st' hs) ?_;refine bd (a:=.inr d) (bd (a:=sO st) (by rw [h.s];exact zD7 st h.sst) (cf (by simp [he]) rfl)) rfl
 ·have hl:=zI4 st' hs;have hrl:=zFh (seq+1) (sO st');have hlt:(seq+1) % 2<2:=Nat.mod_lt _ (by decide);have hw:=zBp d.Disk ((seq+1) % 2) (kK (seq+1) (sO st')) h.ok h.off (by omega) (by omega) (by have:=h.al ((seq+1) % 2);omega);have hc:=h.noC;have e:wrC d.Disk (d.Disk.Areas.getD ((seq+1) % 2) []) (kK (seq+1) (sO st'))=kK (seq+1) (sO st'):=by
   unfold wrC cS;rw [if_neg (show ¬ (d.Disk.Writes+1=d.Disk.CutAt) from hc),if_neg hc,List.take_length,List.append_nil]
  rw [e,show zDl d.Disk=0 from if_neg hc] at hw;have hcm:=zG4 d.Disk (seq+1) (sO st') (by omega) (by omega) (by omega) hw;have hnx:=h.nx;refine ⟨⟨aS d.Disk ((seq+1) % 2) (kK (seq+1) (sO st')),⟨st',vo'⟩,d.On,d.Next+1⟩,seq+1,?_,⟨⟨⟨?_,?_,?_⟩,?_,hm,?_,?_,h.jr.next (by omega) hq (by omega),hs⟩,h.on,?_,h.cut,rfl,?_⟩,Nat.le_refl _,λa ha=>?_⟩
  ·unfold sA;refine bd (zD7 st' hs) ?_;refine bd (a:=.inr ⟨aS d.Disk ((seq+1) % 2) (kK (seq+1) (sO st')),d.State,d.On,d.Next+1⟩) (bd (a:=sO st) (by rw [h.s];exact zD7 st h.sst) (ct (by simp [he]) ?_)) rfl;refine bd (a:=(aS d.Disk ((seq+1) % 2) (kK (seq+1) (sO st')),0)) (by rw [hnx];exact hcm) (cf rfl ?_);rw [yN (by omega) (by omega)]
  ·show (d.Disk.Areas.set _ _).length<=64;simp;omega
  ·show 0<=d.Disk.Writes+1;have:=hok.w0;omega
  ·show d.Disk.Writes+1<2 ^ 60;omega
  ·show d.Disk.Writes+1<=((m+1:Nat):Int);omega
  ·show (d.Disk.Areas.set _ _).length=8;simp [hn]
  ·exact zKa h.al (by omega) (by omega)
  ·show decide (isC d.Disk)=false;exact decide_eq_false h.noC
  ·show d.Next+1=((seq+1:Nat):Int)+1;omega
  ·exact getD_set_ne (by omega)
theorem Dv.send_same {b:By} (h:Dv d seq st vo m) (hr:sB ⟨st,vo⟩ 0 b=some (⟨st,vo'⟩,out)):qN d 0 b=some (⟨d.Disk,⟨st,vo'⟩,d.On,d.Next⟩,out,0):=by
 have hr':sB d.State 0 b=some (⟨st,vo'⟩,out):=by rw [h.s];exact hr
 unfold qN;refine bd (zE0 h.on h.off) ?_;refine cf rfl ?_;refine bd hr' ?_;refine bd h.commit_same ?_;exact cf rfl rfl
theorem Dv.send_new {b:By} (h:Dv d seq st vo m) (hs:Sst st') (hq:seq+1<2 ^ 29) (hm:m+1<2 ^ 50) (hr:sB ⟨st,vo⟩ 0 b=some (⟨st',vo'⟩,out)):∃ d' seq',qN d 0 b=some (d',out,0)/\Dv d' seq' st' vo' (m+1)/\seq'<=seq+1/\∀ a,2<=a->d'.Disk.Areas.getD a []=d.Disk.Areas.getD a []:=by
 obtain ⟨d',seq',e,h1,h2,h3⟩:=h.commit_new (vo':=vo') hs hq hm;refine ⟨d',seq',?_,h1,h2,h3⟩;have hr':sB d.State 0 b=some (⟨st',vo'⟩,out):=by rw [h.s];exact hr
 unfold qN;refine bd (zE0 h.on h.off) ?_;refine cf rfl ?_;refine bd hr' ?_;refine bd e ?_;exact cf rfl rfl
theorem zQa {d':zD} {r:zM} (h:zD4 c is bs) (hs:qN d 0 (rqW c is bs)=some (d',out,0)) (hd:uK out=some (r,0)) (he:r.Err=0) (hc:(c==9)=false/\(c==11)=false/\(c==16)=false/\(c==12)=false) :
  ∀ L:yD,L.Device=d->pB L (rq c is bs)=some (r,0,yD.mk d' L.opened_):=by
 rintro L rfl;obtain ⟨c1,c2,c3,c4⟩:=hc;unfold pB;refine bd (a:=(rqW c is bs,0)) (zYs h) ?_;refine cf rfl ?_;refine bd (a:=(d',out,0)) hs ?_;refine cf rfl ?_;refine bd (a:=(r,0)) hd ?_;refine bd (a:=0) (ct rfl (congrArg some he)) ?_;refine cf rfl ?_;refine bd (a:=false) (cf c1 (cf c2 (congrArg some c3))) ?_;refine cf rfl ?_;refine cf c4 ?_;refine bd (a:=()) (tN (by unfold dN;exact cf rfl rfl)) ?_;rfl
end
set_option maxRecDepth 100000
theorem zL9 {b:By} (h:e.Digests=dgE active (e.Kind != 5) b):Fit e active 0/\Fit e active 1:=by
 unfold Fit;rw [h];unfold dgE;constructor
 ·show (((if ((e.Kind != 5)&&tH active 0)=true then zCp b else []):By).length:Int)=if e.Kind≠5/\tH active 0=true then siz 0 else 0
  by_cases hk:e.Kind=5
  ·rw [if_neg (by simp [hk]),if_neg (λh=>h.1 hk)];rfl
  ·cases hb:tH active 0
   ·rw [if_neg (by simp),if_neg (λh=>by cases h.2)];rfl
   ·rw [if_pos (by simp [hk]),if_pos ⟨hk,rfl⟩,zIr];rfl
 ·show (((if ((e.Kind != 5)&&tH active 1)=true then sha b else []):By).length:Int)=if e.Kind≠5/\tH active 1=true then siz 1 else 0
  by_cases hk:e.Kind=5
  ·rw [if_neg (by simp [hk]),if_neg (λh=>h.1 hk)];rfl
  ·cases hb:tH active 1
   ·rw [if_neg (by simp),if_neg (λh=>by cases h.2)];rfl
   ·rw [if_pos (by simp [hk]),if_pos ⟨hk,rfl⟩,gG];rfl
theorem zKo {reg kind:Int} {data:By} (h1:1<=active) (h3:active<=3) (r0:0<=reg) (r1:reg<=11) (k1:1<=kind) (k5:kind<=5) (hd:data.length<=64):EvC (mkE reg kind active data) active:=by
 obtain ⟨f0,f1⟩:=zL9 (e:=mkE reg kind active data) (active:=active) (b:=data) rfl;exact ⟨⟨r0,r1,hd,rfl,f0,f1⟩,h1,h3,k1,k5⟩
theorem zTs (r:Int) (h1:1<=r) (h4:r<=4):0<=rgR r/\rgR r<=11:=by
 unfold rgR;split
 ·omega
 split
 ·omega
 split
 ·omega
 split<;>omega
theorem zRw (x:zB) (h:pP x):(lbl x).length<=33:=by
 have h1:=h.nl;have h2:=zEz 20 x.Version.toNat;unfold lbl;rw [List.length_append,List.length_append,List.length_singleton];omega
theorem zT6 (h1:1<=active) (h3:active<=3) (h:pP x):EvC (imE active x) active:=by
 obtain ⟨f0,f1⟩:=zL9 (e:=imE active x) (active:=active) (b:=qD x) rfl;have hr:=zTs x.Role h.r1 h.r4;have hl:=zRw x h;exact ⟨⟨hr.1,hr.2,by show (lbl x).length<=64;omega,rfl,f0,f1⟩,h1,h3,by show (1:Int)<=1;omega,by show (1:Int)<=5;omega⟩
theorem zMm (h:e∈evR active role l):∃ x∈l,x.Role=role/\((role=4/\∃ d∈zFy x,e=mkE 9 3 active d)∨(role≠4/\e=imE active x)):=by
 unfold evR at h;obtain ⟨x,hx,he⟩:=List.mem_flatMap.1 h;by_cases hr:x.Role=role
 ·rw [if_pos hr] at he;by_cases h4:role=4
  ·rw [if_pos h4] at he;obtain ⟨d,hd,rfl⟩:=List.mem_map.1 he;exact ⟨x,hx,hr,.inl ⟨h4,d,hd,rfl⟩⟩
  ·rw [if_neg h4] at he;exact ⟨x,hx,hr,.inr ⟨h4,by simpa using he⟩⟩
 ·rw [if_neg hr] at he;cases he
theorem zHv (h1:1<=active) (h3:active<=3) (hc:jI l):∀ e∈evR active role l,EvC e active:=by
 intro e he;obtain ⟨x,hx,hr,⟨h4,d,hd,rfl⟩ | ⟨_,rfl⟩⟩:=zMm he
 ·have:=((zKs x (hc.im x hx) (by omega)).2.2 d hd).2.1;exact zKo h1 h3 (by omega) (by omega) (by omega) (by omega) (by omega)
 ·exact zT6 h1 h3 (hc.im x hx)
theorem zJo (h:e∈zF8 active):∃ i:Nat,i<8/\e=mkE (i:Int) 2 active [0,0,0,0]:=by
 unfold zF8 at h;obtain ⟨i,hi,rfl⟩:=List.mem_map.1 h;exact ⟨i,List.mem_range.1 hi,rfl⟩
theorem zOt (h1:1<=active) (h3:active<=3) (hc:jI l):∀ e∈evs l active,EvC e active:=by
 intro e he;unfold evs at he;simp only [List.mem_append] at he;rcases he with ((he | he) | (he | he)) | he
 ·exact zHv h1 h3 hc e he
 ·exact zHv h1 h3 hc e he
 ·obtain ⟨i,hi,rfl⟩:=zJo he;exact zKo h1 h3 (by omega) (by omega) (by omega) (by omega) (by decide)
 ·exact zHv h1 h3 hc e he
 ·exact zHv h1 h3 hc e he
theorem zOh:∀ e∈evs l active,e.Kind≠5:=by
 have hR:∀ role,∀ e∈evR active role l,e.Kind≠5:=by
  intro role e he;obtain ⟨x,_,_,⟨_,d,_,rfl⟩ | ⟨_,rfl⟩⟩:=zMm he
  ·exact show (3:Int)≠5 by decide
  ·exact show (1:Int)≠5 by decide
 intro e he;unfold evs at he;simp only [List.mem_append] at he;rcases he with ((he | he) | (he | he)) | he
 ·exact hR _ e he
 ·exact hR _ e he
 ·obtain ⟨i,_,rfl⟩:=zJo he;exact show (2:Int)≠5 by decide
 ·exact hR _ e he
 ·exact hR _ e he
def zSa (active:Int):zC:=mkE 0 4 active [99,104,97,105,110]
theorem zL4 (h1:1<=active) (h3:active<=3):EvC (zSa active) active:=zKo h1 h3 (by decide) (by decide) (by decide) (by decide) (by decide)
end Go.Proofs.TT
