/- what a machine does whose chosen slot has no chain -/
import Derived.Test.YtmfjfpfolbnogaaGreatDoorDZ13
set_option linter.all false
open List renaming take_of_length_le -> Q0, mem_singleton -> Q1, nil_append -> Q2, length_append -> Q3, append_assoc -> Q4, drop_append_of_le_length -> Q6, take_append_of_le_length -> Q7, take_length -> Qa, getElem_mem -> Qb, append_nil -> Qc, mem_append -> Qd, drop_of_length_le -> Qe, take_add -> Qf, length_drop -> Qg, length_set -> Qi, take_zero -> Qj, drop_zero -> Qk, mem_cons -> Ql, mem_map -> Qm
open UInt8 renaming toNat_inj -> Q5
open Go.IntKind renaming i64 -> Q8
open Go.Sw.Def renaming bd -> Q9, s -> Qh
namespace Go.Proofs.TT
open Go Go.Sw
set_option maxRecDepth 100000
variable {a:List zD}{active:Int}{b:By}{bs:List By}{c:Int}{d:zF}{e:zB}{es:List zB}{is:List Int}{k:Nat}{l:List zD}{m:Nat}{out:By}{r:RS}{role:Int}{s seq:Nat}{st:zU}{vo:yF}{α:Type}{x y:Option α}
theorem sh1:rV 1=some (0,0,1,0,true):=by decide +kernel
theorem sh6:rV 6=some (0,0,1,2,true):=by decide +kernel
theorem rqS:zFu 1 [0] []:=⟨sh1,by decide,by decide,by decide,by decide,by simp,by simp⟩
theorem rqE (h:EvGood e active):zFu 6 [e.Register] e.Digests:=by
 have hl:=h.l;refine ⟨by rw [sh6,hl];rfl,by decide,by decide,by simp,by omega,?_,?_⟩
 ·have:=h.r0;have:=h.r1;simp;omega
 ·intro x hx;have f0:=eF h.f0;have f1:=eF h.f1
  match hd:e.Digests,hl with
  | [a,b],_=>
   rw [hd] at hx f0 f1;simp only [Ql,List.not_mem_nil,or_false] at hx;rcases hx with rfl | rfl
   ·exact f0
   ·exact f1
theorem rsp0:vI (zP.mk 0 [] [] [])=some [0,0,0,0]:=by decide +kernel
theorem rsd0:uJ [0,0,0,0]=some (zP.mk 0 [] [] [],0):=by decide +kernel
def stS (s:zU):zU:=zU.mk s.Seeds s.Auths s.Entropy s.Active (s.Resets+1) 0 s.Clock false (zC.mk [] 0) s.MaxCounter s.Indices s.Lockout s.Keys
def zRx (s:zU) (v:yF):yF:=⟨true,v.Stopped,zO5 s.Active,s.Clock,s.Orderly,v.Draws,v.Sessions,v.Objects,v.ReadLocks,v.WriteLocks⟩
def zPv (r:zC) (v:yF):yF:=⟨v.Started,v.Stopped,r,v.Clock,v.Safe,v.Draws,v.Sessions,v.Objects,v.ReadLocks,v.WriteLocks⟩
theorem Sst.S {s:zU} (h:Sst s) (hr:s.Resets+1<2 ^ 30):Sst (stS s):=by
 obtain ⟨a,b,c,d,e,r0,r1,f,g,i,j,k,l,m⟩:=h;exact ⟨a,b,c,d,e,by show 0<=s.Resets+1;omega,hr,rfl,g,rfl,j,k,l,m⟩
theorem zSb (s:zV) (c:Int) (is:List Int) (bs:List By):mH s (rq c is bs)=some true:=by
 unfold mH;refine bd (a:=()) (tD (by unfold fC;exact cf rfl rfl)) ?_;exact ct rfl rfl
theorem zN7 {s s':zV} {e:Int} {i:List Int} {b n:List By} (h:zFu c is bs) (hs:c=1∨s.Volatile.Started=true)
  (hp:nK s 0 (rq c is bs)=some (s',zP.mk e i b n)) (ho:vI (zP.mk e i b [])=some out):sD s 0 (rqW c is bs)=some (s',out):=by
 unfold sD;refine bd (yCm h) (cf rfl ?_);refine bd (a:=(s',zP.mk e i b [])) ?_ (bd ho rfl);unfold iS;refine bd (chk h) (cf rfl (bd (a:=false) rfl (cf rfl (bd (a:=false) ?_ (cf rfl ?_)))))
 ·rcases hs with rfl | hs
  ·exact cf rfl rfl
  ·rw [hs];show (bif (c != 1) then some false else some false)=some false;cases (c != 1)<;>rfl
 refine bd (zSb s c is bs) (cf rfl (ct rfl (bd hp rfl)))
theorem zO4 (st:zU) (v:yF) (hs:Sst st) (h1:v.Started=false) (h2:v.Stopped=false):sD ⟨st,v⟩ 0 (rqW 1 [0] [])=some (⟨stS st,zRx st v⟩,[0,0,0,0]):=by
 have hr:=hs.r0;have hr1:=hs.r1;refine zN7 rqS (.inl rfl) (b:=[]) (n:=[]) (i:=[]) (e:=0) ?_ rsp0;unfold nK;refine ct rfl (bd (a:=0) rfl (bd (a:=(⟨stS st,zRx st v⟩,0)) ?_ rfl));unfold eA;refine bd (a:=false) (cf h1 (congrArg some h2)) (cf rfl (bd (a:=false) rfl (cf rfl (bd (a:=false) rfl (cf rfl (ct rfl ?_))))));refine bd (zTx st.Active hs.a0 hs.a3) ?_;rw [yP (by simp only;omega) (by simp only;omega)];rfl
theorem zTf (st:zU) (v:yF) (e:zB) (active:Int) (h1:v.Started=true) (hr:zEy active v.Registers) (he:EvGood e active) (hk:e.Kind≠5):sD ⟨st,v⟩ 0 (rqW 6 [e.Register] e.Digests)=some (⟨st,zPv (ext active e v.Registers) v⟩,[0,0,0,0]):=by
 refine zN7 (rqE he) (.inr h1) (b:=[]) (n:=[]) (i:=[]) (e:=0) ?_ rsp0;unfold nK;refine cf rfl (cf rfl (cf rfl (bd (a:=true) rfl (ct rfl (bd (a:=(⟨st,zPv (ext active e v.Registers) v⟩,zP.mk 0 [] [] [])) ?_ rfl)))));unfold kO;refine cf rfl (ct rfl (bd (a:=e.Register) rfl ?_));obtain ⟨x,hx,rfl⟩:=zLz v.Registers active e hr he hk;exact bd hx (cf rfl rfl)
section
variable {st':zU} {vo':yF}
theorem Dv.commit_same (h:Dv d seq st vo m):sB d ⟨st,vo'⟩=some (⟨d.Disk,⟨st,vo'⟩,d.On,d.Next⟩,0):=by
 unfold sB;refine bd (zHf st h.sst) ?_;refine bd (a:=.inr d) (bd (a:=rH st) (by rw [h.s];exact zHf st h.sst) (cf (by simp) rfl)) rfl
theorem Dv.vol (h:Dv d seq st vo m):Dv ⟨d.Disk,⟨st,vo'⟩,d.On,d.Next⟩ seq st vo' m:=⟨h.toDk,h.on,h.off,h.cut,rfl,h.nx⟩
theorem Dv.commit_new (h:Dv d seq st vo m) (hs:Sst st') (hq:seq+1<2 ^ 29) (hm:m+1<2 ^ 50):∃ d' seq',sB d ⟨st',vo'⟩=some (d',0)/\Dv d' seq' st' vo' (m+1)/\seq'<=seq+1/\∀ a,2<=a->d'.Disk.Areas.getD a []=d.Disk.Areas.getD a []:=by
 have hn:=h.n;have hok:=h.ok;have hm0:=h.m0;by_cases he:rH st'=rH st
 ·have hk:Dk d.Disk seq st' (m+1):=by
   refine ⟨h.ok,?_,hm,h.n,h.al,?_,hs⟩
   ·rw [Int.natCast_add];exact Int.le_trans hm0 (by omega)
   ·rw [he];exact h.jr
  refine ⟨⟨d.Disk,⟨st',vo'⟩,d.On,d.Next⟩,seq,?_,⟨hk,h.on,h.off,h.cut,rfl,h.nx⟩,Nat.le_succ _,λ_ _=>rfl⟩;unfold sB;refine bd (zHf st' hs) ?_;refine bd (a:=.inr d) (bd (a:=rH st) (by rw [h.s];exact zHf st h.sst) (cf (by simp [he]) rfl)) rfl
 ·have hl:=zK0 st' hs;have hrl:=zF6 (seq+1) (rH st');have hlt:(seq+1) % 2<2:=Nat.mod_lt _ (by decide);have hw:=zC2 d.Disk ((seq+1) % 2) (jL (seq+1) (rH st')) h.ok h.off (by omega) (by omega) (by have:=h.al ((seq+1) % 2);omega);have hc:=h.noC;have e:wrC d.Disk (d.Disk.Areas.getD ((seq+1) % 2) []) (jL (seq+1) (rH st'))=jL (seq+1) (rH st'):=by
   unfold wrC bZ;rw [if_neg (show ¬ (d.Disk.Writes+1=d.Disk.CutAt) from hc),if_neg hc,Qa,Qc]
  rw [e,show zEp d.Disk=0 from if_neg hc] at hw;have hcm:=zH9 d.Disk (seq+1) (rH st') (by omega) (by omega) (by omega) hw;have hnx:=h.nx;refine ⟨⟨bU d.Disk ((seq+1) % 2) (jL (seq+1) (rH st')),⟨st',vo'⟩,d.On,d.Next+1⟩,seq+1,?_,⟨⟨⟨?_,?_,?_⟩,?_,hm,?_,?_,h.jr.next (by omega) hq (by omega),hs⟩,h.on,?_,h.cut,rfl,?_⟩,Nat.le_refl _,λa ha=>?_⟩
  ·unfold sB;refine bd (zHf st' hs) ?_;refine bd (a:=.inr ⟨bU d.Disk ((seq+1) % 2) (jL (seq+1) (rH st')),d.State,d.On,d.Next+1⟩) (bd (a:=rH st) (by rw [h.s];exact zHf st h.sst) (ct (by simp [he]) ?_)) rfl;refine bd (a:=(bU d.Disk ((seq+1) % 2) (jL (seq+1) (rH st')),0)) (by rw [hnx];exact hcm) (cf rfl ?_);rw [yP (by omega) (by omega)]
  ·show (d.Disk.Areas.set _ _).length<=64;simp;omega
  ·show 0<=d.Disk.Writes+1;have:=hok.w0;omega
  ·show d.Disk.Writes+1<2 ^ 60;omega
  ·show d.Disk.Writes+1<=((m+1:Nat):Int);omega
  ·show (d.Disk.Areas.set _ _).length=8;simp [hn]
  ·exact zQ4 h.al (by omega) (by omega)
  ·show decide (isC d.Disk)=false;exact decide_eq_false h.noC
  ·show d.Next+1=((seq+1:Nat):Int)+1;omega
  ·exact getD_set_ne (by omega)
theorem Dv.send_same (h:Dv d seq st vo m) (hr:sD ⟨st,vo⟩ 0 b=some (⟨st,vo'⟩,out)):qT d 0 b=some (⟨d.Disk,⟨st,vo'⟩,d.On,d.Next⟩,out,0):=by
 have hr':sD d.State 0 b=some (⟨st,vo'⟩,out):=by rw [h.s];exact hr
 unfold qT;refine bd (zF5 h.on h.off) ?_;refine cf rfl ?_;refine bd hr' ?_;refine bd h.commit_same ?_;exact cf rfl rfl
theorem Dv.send_new (h:Dv d seq st vo m) (hs:Sst st') (hq:seq+1<2 ^ 29) (hm:m+1<2 ^ 50) (hr:sD ⟨st,vo⟩ 0 b=some (⟨st',vo'⟩,out)):∃ d' seq',qT d 0 b=some (d',out,0)/\Dv d' seq' st' vo' (m+1)/\seq'<=seq+1/\∀ a,2<=a->d'.Disk.Areas.getD a []=d.Disk.Areas.getD a []:=by
 obtain ⟨d',seq',e,h1,h2,h3⟩:=h.commit_new (vo':=vo') hs hq hm;refine ⟨d',seq',?_,h1,h2,h3⟩;have hr':sD d.State 0 b=some (⟨st',vo'⟩,out):=by rw [h.s];exact hr
 unfold qT;refine bd (zF5 h.on h.off) ?_;refine cf rfl ?_;refine bd hr' ?_;refine bd e ?_;exact cf rfl rfl
theorem zRv {d':zF} {r:zP} (h:zFu c is bs) (hs:qT d 0 (rqW c is bs)=some (d',out,0)) (hd:uJ out=some (r,0)) (he:r.Err=0) (hc:(c==9)=false/\(c==11)=false/\(c==16)=false/\(c==12)=false) :
  ∀ L:yD,L.Device=d->pN L (rq c is bs)=some (r,0,yD.mk d' L.opened_):=by
 rintro L rfl;obtain ⟨c1,c2,c3,c4⟩:=hc;unfold pN;refine bd (a:=(rqW c is bs,0)) (yB9 h) ?_;refine cf rfl ?_;refine bd (a:=(d',out,0)) hs ?_;refine cf rfl ?_;refine bd (a:=(r,0)) hd ?_;refine bd (a:=0) (ct rfl (congrArg some he)) ?_;refine cf rfl ?_;refine bd (a:=false) (cf c1 (cf c2 (congrArg some c3))) ?_;refine cf rfl ?_;refine cf c4 ?_;refine bd (a:=()) (tD (by unfold bD;exact cf rfl rfl)) ?_;rfl
end
set_option maxRecDepth 100000
theorem zNw (h:e.Digests=dgE active (e.Kind != 5) b):Fit e active 0/\Fit e active 1:=by
 unfold Fit;rw [h];unfold dgE;constructor
 ·show (((if ((e.Kind != 5)&&xY active 0)=true then gX b else []):By).length:Int)=if e.Kind≠5/\xY active 0=true then siz 0 else 0
  by_cases hk:e.Kind=5
  ·rw [if_neg (by simp [hk]),if_neg (λh=>h.1 hk)];rfl
  ·cases hb:xY active 0
   ·rw [if_neg (by simp),if_neg (λh=>by cases h.2)];rfl
   ·rw [if_pos (by simp [hk]),if_pos ⟨hk,rfl⟩,zLg];rfl
 ·show (((if ((e.Kind != 5)&&xY active 1)=true then sha b else []):By).length:Int)=if e.Kind≠5/\xY active 1=true then siz 1 else 0
  by_cases hk:e.Kind=5
  ·rw [if_neg (by simp [hk]),if_neg (λh=>h.1 hk)];rfl
  ·cases hb:xY active 1
   ·rw [if_neg (by simp),if_neg (λh=>by cases h.2)];rfl
   ·rw [if_pos (by simp [hk]),if_pos ⟨hk,rfl⟩,fP];rfl
theorem zMg {reg kind:Int} {data:By} (h1:1<=active) (h3:active<=3) (r0:0<=reg) (r1:reg<=11) (k1:1<=kind) (k5:kind<=5) (hd:data.length<=64):EvC (mkE reg kind active data) active:=by
 obtain ⟨f0,f1⟩:=zNw (e:=mkE reg kind active data) (active:=active) (b:=data) rfl;exact ⟨⟨r0,r1,hd,rfl,f0,f1⟩,h1,h3,k1,k5⟩
theorem zWh (r:Int) (h1:1<=r) (h4:r<=4):0<=rgR r/\rgR r<=11:=by
 unfold rgR;split
 ·omega
 split
 ·omega
 split
 ·omega
 split<;>omega
theorem zTo (x:zD) (h:oH x):(lbl x).length<=33:=by
 have h1:=h.nl;have h2:=zG8 20 x.Version.toNat;unfold lbl;rw [Q3,Q3,List.length_singleton];omega
theorem zVx {x:zD} (h1:1<=active) (h3:active<=3) (h:oH x):EvC (imE active x) active:=by
 obtain ⟨f0,f1⟩:=zNw (e:=imE active x) (active:=active) (b:=qJ x) rfl;have hr:=zWh x.Role h.r1 h.r4;have hl:=zTo x h;exact ⟨⟨hr.1,hr.2,by show (lbl x).length<=64;omega,rfl,f0,f1⟩,h1,h3,by show (1:Int)<=1;omega,by show (1:Int)<=5;omega⟩
theorem zOh (h:e∈evR active role l):∃ x∈l,x.Role=role/\((role=4/\∃ d∈zHr x,e=mkE 9 3 active d)∨(role≠4/\e=imE active x)):=by
 unfold evR at h;obtain ⟨x,hx,he⟩:=List.mem_flatMap.1 h;by_cases hr:x.Role=role
 ·rw [if_pos hr] at he;by_cases h4:role=4
  ·rw [if_pos h4] at he;obtain ⟨d,hd,rfl⟩:=Qm.1 he;exact ⟨x,hx,hr,.inl ⟨h4,d,hd,rfl⟩⟩
  ·rw [if_neg h4] at he;exact ⟨x,hx,hr,.inr ⟨h4,by simpa using he⟩⟩
 ·rw [if_neg hr] at he;cases he
theorem zJo (h1:1<=active) (h3:active<=3) (hc:hU l):∀ e∈evR active role l,EvC e active:=by
 intro e he;obtain ⟨x,hx,hr,⟨h4,d,hd,rfl⟩ | ⟨_,rfl⟩⟩:=zOh he
 ·have:=((zMh x (hc.im x hx) (by omega)).2.2 d hd).2.1;exact zMg h1 h3 (by omega) (by omega) (by omega) (by omega) (by omega)
 ·exact zVx h1 h3 (hc.im x hx)
theorem zLp (h:e∈zHi active):∃ i:Nat,i<8/\e=mkE (i:Int) 2 active [0,0,0,0]:=by
 unfold zHi at h;obtain ⟨i,hi,rfl⟩:=Qm.1 h;exact ⟨i,List.mem_range.1 hi,rfl⟩
theorem zRo (h1:1<=active) (h3:active<=3) (hc:hU l):∀ e∈evs l active,EvC e active:=by
 intro e he;unfold evs at he;simp only [Qd] at he;rcases he with ((he | he) | (he | he)) | he
 ·exact zJo h1 h3 hc e he
 ·exact zJo h1 h3 hc e he
 ·obtain ⟨i,hi,rfl⟩:=zLp he;exact zMg h1 h3 (by omega) (by omega) (by omega) (by omega) (by decide)
 ·exact zJo h1 h3 hc e he
 ·exact zJo h1 h3 hc e he
theorem zRk:∀ e∈evs l active,e.Kind≠5:=by
 have hR:∀ role,∀ e∈evR active role l,e.Kind≠5:=by
  intro role e he;obtain ⟨x,_,_,⟨_,d,_,rfl⟩ | ⟨_,rfl⟩⟩:=zOh he
  ·exact show (3:Int)≠5 by decide
  ·exact show (1:Int)≠5 by decide
 intro e he;unfold evs at he;simp only [Qd] at he;rcases he with ((he | he) | (he | he)) | he
 ·exact hR _ e he
 ·exact hR _ e he
 ·obtain ⟨i,_,rfl⟩:=zLp he;exact show (2:Int)≠5 by decide
 ·exact hR _ e he
 ·exact hR _ e he
def dQ (active:Int):zB:=mkE 0 4 active [99,104,97,105,110]
theorem zJa (h1:1<=active) (h3:active<=3):EvC (dQ active) active:=zMg h1 h3 (by decide) (by decide) (by decide) (by decide) (by decide)
set_option maxRecDepth 100000
theorem zQr:∀ n:Nat,n<256->beN (n:Int) 1 1=[u8 (n:Int)]:=by decide +kernel
theorem zXo {a:Int} (h0:0<=a) (h:a<256):beN a 1 1=[u8 a]:=by
 obtain ⟨n,rfl⟩:=Int.eq_ofNat_of_zero_le h0;exact zQr n (by omega)
theorem zW0 (a r:Int) (h1:1<=a) (h3:a<=3) (h0:0<=r) (hr:r<=1099511627776):vK a r=some (zBu a r):=by
 unfold vK;refine bd (a:=false) (cf (by simp;omega) (cf (by simp;omega) (cf (by simp;omega) (congrArg some (by simp;omega))))) ?_;refine cf rfl ?_;refine bd (wU _ 1 a (by omega) (by omega) (by simp)) ?_;refine bd (wU _ 6 r (by omega) (by omega) (by simp [xE])) ?_;rw [zXo (by omega) (by omega)];rfl
theorem zP3 (e:zB) (active:Int) (h:EvC e active):jK e=some (mT e):=by
 have q0:=eF h.f0;have q1:=eF h.f1;have hd:=h.d;have hl:=h.l;have r0:=h.r0;have r1:=h.r1;have k1:=h.k1;have k5:=h.k5;obtain ⟨reg,kind,dg,data⟩:=e
 match dg,hl with
 | [x,y],_=>
 simp only at q0 q1 hd r0 r1 k1 k5;have q0:x.length<=32:=q0;have q1:y.length<=32:=q1;have hen:wZ ⟨reg,kind,[x,y],data⟩=some true:=by
  unfold wZ;refine bd (a:=false) (cf (decide_eq_false (by simp only;omega)) (cf (decide_eq_false (by simp only;omega)) (cf (decide_eq_false (by simp only;omega)) (cf (decide_eq_false (by simp only;omega)) (cf rfl (congrArg some (decide_eq_false (by simp only;omega)))))))) ?_;refine cf rfl ?_;refine bd (a:=.inr ()) (yJ 2 (λi=>(i:Int)) rfl ?_ ?_ (xT (by omega))) rfl
  ·intro i hi;unfold vP;rcases (show i=0∨i=1 by omega) with rfl | rfl
   ·exact ct rfl (bd (a:=x) rfl (bd (a:=32) rfl (cf (decide_eq_false (by omega)) rfl)))
   ·exact ct rfl (bd (a:=y) rfl (bd (a:=32) rfl (cf (decide_eq_false (by omega)) rfl)))
  ·unfold vP;exact cf rfl rfl
 unfold jK;refine bd hen (cf rfl ?_);refine bd (wU [] 1 reg (by omega) (by omega) (by simp)) ?_;refine bd (wU _ 1 kind (by omega) (by omega) (by simp [xE])) ?_;rw [zXo (by omega) (by omega),zXo (by omega) (by omega)];refine bd (a:=([u8 reg,u8 kind]++bl x)++bl y) (yJ 2 (λi=>(if i=0 then [u8 reg,u8 kind] else if i=1 then [u8 reg,u8 kind]++bl x else ([u8 reg,u8 kind]++bl x)++bl y,(i:Int))) rfl ?_ ?_ (xT (by omega))) ?_
 ·intro i hi;unfold kW;rcases (show i=0∨i=1 by omega) with rfl | rfl
  ·exact ct rfl (bd (a:=x) rfl (bd (wB _ x (by simp) (by omega)) rfl))
  ·exact ct rfl (bd (a:=y) rfl (bd (wB _ y (by simp [uZ];omega) (by omega)) rfl))
 ·unfold kW;exact cf rfl rfl
 refine bd (wB _ data (by simp [uZ];omega) (by omega)) ?_;show some _=some _;unfold mT bl;simp
theorem zQ7 (active:Int) (es:List zB) (e:zB) (hk:e.Kind≠5):rpl active (es++[e])=ext active e (rpl active es):=by
 unfold rpl;rw [List.foldl_append];simp [hk]
theorem zOz (es:List zB) (e:zB):lA (es++[e])=lA es++bl (mT e):=by simp [lA,bl]
structure Mz (d:zF) (seq:Nat) (st:zU) (vo:yF) (m:Nat) (es:List zB):Prop extends Dv d seq st vo m where
 v1:vo.Started=true
 v2:vo.Registers=rpl st.Active es
 lg:d.Disk.Areas.getD 2 []=zBu st.Active st.Resets++lA es
section
theorem Mz.step (h:Mz d seq st vo m es) {x:zB} (hx:EvC x st.Active) (hk:x.Kind≠5) (hs:es.length<=40) (he:∀ e∈es,EvC e st.Active) (hm:m+1<2 ^ 50) :
  ∃ d' vo',jQ (yD.mk d []) x=some (0,yD.mk d' [])/\Mz d' seq st vo' (m+1) (es++[x])/\∀ a,3<=a->d'.Disk.Areas.getD a []=d.Disk.Areas.getD a []:=by
 have hr:=zTf st vo x st.Active h.v1 (by rw [h.v2];exact zMk _ _ h.sst.a0 h.sst.a3) hx.toEvGood hk;have h1:=h.toDv.send_same hr;have hv:=h.toDv.vol (vo':=zPv (ext st.Active x vo.Registers) vo);have hd:=zRv (rqE hx.toEvGood) h1 rsd0 rfl (by decide) (yD.mk d []) rfl;have hb:=zCg hx.toEvGood;have hf:=zFw es he;have hap:=hv.append (a:=2) (bl (mT x)) (by decide) (by rw [uZ];omega);have hy:(d.Disk.Areas.getD 2 []++bl (mT x)).length<2 ^ 39:=by rw [Q3,h.lg,Q3,aO,uZ];omega
 refine ⟨jF ⟨d.Disk,⟨st,zPv (ext st.Active x vo.Registers) vo⟩,d.On,d.Next⟩ 2 (d.Disk.Areas.getD 2 []++bl (mT x)),zPv (ext st.Active x vo.Registers) vo,?_,⟨hv.set (by decide) (by decide) hy hm,h.v1,?_,?_⟩,λa ha=>getD_set_ne (by omega)⟩
 ·unfold jQ;refine bd hd ?_;refine bd (a:=(0,yD.mk (jF ⟨d.Disk,⟨st,zPv (ext st.Active x vo.Registers) vo⟩,d.On,d.Next⟩ 2 (d.Disk.Areas.getD 2 []++bl (mT x))) [])) ?_ rfl;refine ct rfl ?_;refine bd (zP3 x st.Active hx) ?_;refine bd (wB [] _ (by simp) (by omega)) ?_;rw [Q2];refine bd hap ?_;rfl
 ·show ext st.Active x vo.Registers=_;rw [zQ7 _ _ _ hk,h.v2]
 ·show (d.Disk.Areas.set 2 _).getD 2 []=_;rw [wY (by have:=h.n;omega),h.lg,zOz,Q4]
end
set_option maxRecDepth 100000
theorem db {β:Type} {o:Option α} {a:α} {f:α->Option β} {Q:β->Prop} (h:o=some a) (k:Def (f a) Q):Def (o.bind f) Q:=by subst h;exact k
theorem dct {c:Bool} {Q:α->Prop} (h:c=true) (k:Def x Q):Def (bif c then x else y) Q:=by subst h;exact k
theorem dcf {c:Bool} {Q:α->Prop} (h:c=false) (k:Def y Q):Def (bif c then x else y) Q:=by subst h;exact k
theorem zFg (l:By):∀ k,k<=8->∃ n:Nat,beV l k=(n:Int)/\n<256 ^ k/\∀ j,j<k->n / 256 ^ (k - (j+1)) % 256=(l.getD j 0).toNat
 | 0,_=>⟨0,rfl,by decide,λj h=>absurd h (Nat.not_lt_zero j)⟩
 | k+1,hk=>by
  obtain ⟨n,e,hn,hj⟩:=zFg l k (by omega);have hb:=(l.getD k 0).toNat_lt;have hp:256 ^ k<=256 ^ 7:=Nat.pow_le_pow_right (by decide) (by omega);have h56:(256:Nat) ^ 7=2 ^ 56:=by decide
  refine ⟨n*256+(l.getD k 0).toNat,?_,?_,λj hj'=>?_⟩
  ·unfold beV;rw [e];exact zF7 n _ (by omega) (by omega)
  ·rw [Nat.pow_succ];omega
  ·by_cases h:j=k
   ·subst h;rw [Nat.sub_self,Nat.pow_zero,Nat.div_one];omega
   ·rw [show k+1 - (j+1)=(k - (j+1))+1 by omega,Nat.pow_succ,Nat.mul_comm (256 ^ (k - (j+1))) 256,<- Nat.div_div_eq_div_mul,show (n*256+(l.getD k 0).toNat) / 256=n by omega];exact hj j (by omega)
theorem zTr {l:By} {n:Nat} (h8:k<=8) (hl:l.length=k) (e:beV l k=(n:Int)):beN (n:Int) k k=l:=by
 obtain ⟨m,e',hm,hj⟩:=zFg l k h8;have hp:256 ^ k<=256 ^ 8:=Nat.pow_le_pow_right (by decide) (by omega);have h64:(256:Nat) ^ 8=2 ^ 64:=by decide
 have hmn:m=n:=by rw [e] at e';omega
 subst hmn;refine List.ext_getElem (by rw [xE,hl]) λj h1 h2=>?_;have g1:(beN (m:Int) k k)[j]=(beN (m:Int) k k).getD j 0:=by simp [h1]
 have g2:l[j]=l.getD j 0:=by simp [h2]
 rw [g1,g2];apply Q5.1;rw [zFc m k j (by omega) (by omega) h8,hj j (by omega)]
theorem zJ3 (h8:k<=8) (he:(wW r k).2.e=0):∃ n:Int,wW r k=(n,r.to k)/\r.e=0/\0<=n/\r.b.take (r.at'+k)=r.b.take r.at'++beN n k k:=by
 unfold wW at he ⊢;by_cases h1:r.e≠0
 ·rw [if_pos h1] at he;exact absurd he h1
 rw [if_neg h1] at he ⊢;by_cases h2:r.left<k
 ·rw [if_pos h2] at he;exact absurd (show (2:Int)=0 from he) (by decide)
 rw [if_neg h2] at he ⊢;by_cases h3:9223372036854775808<=beV (r.get k) k
 ·rw [if_pos h3] at he;exact absurd (show (4:Int)=0 from he) (by decide)
 rw [if_neg h3];obtain ⟨n,e,hn,hj⟩:=zFg (r.get k) k h8;have hlen:=r.get_len k (by omega);refine ⟨n,?_,by omega,by omega,?_⟩
 ·rw [yP (by omega) (by omega),e]
 ·rw [Qf,zTr h8 hlen e];rfl
theorem zYn {l:By} (h:2<=l.length):beN (((l.getD 0 0).toNat*256+(l.getD 1 0).toNat:Nat):Int) 2 2=l.take 2:=by
 match l,h with
 | a :: b :: l,_=>
  obtain ⟨x,y,e,h⟩:=be2 (a.toNat*256+b.toNat) (by have:=a.toNat_lt;have:=b.toNat_lt;omega);show beN ((a.toNat*256+b.toNat:Nat):Int) 2 2=[a,b];have:=a.toNat_lt;have:=b.toNat_lt;have:=x.toNat_lt;have:=y.toNat_lt;rw [e,Q5.1 (show x.toNat=a.toNat by omega),Q5.1 (show y.toNat=b.toNat by omega)]
theorem zJg (he:(vC r m).2.e=0):∃ x,vC r m=(x,r.to (2+x.length))/\r.e=0/\x.length<=m/\r.b.take (r.at'+(2+x.length))=r.b.take r.at'++bl x:=by
 unfold vC at he ⊢;by_cases h1:r.e≠0
 ·rw [if_pos h1] at he;exact absurd he h1
 rw [if_neg h1] at he ⊢;by_cases h2:r.left<2
 ·rw [if_pos h2] at he;exact absurd (show (2:Int)=0 from he) (by decide)
 rw [if_neg h2] at he ⊢;by_cases h3:m<v2 r
 ·rw [if_pos h3] at he;exact absurd (show (4:Int)=0 from he) (by decide)
 rw [if_neg h3] at he ⊢;by_cases h4:r.left<2+v2 r
 ·rw [if_pos h4] at he;exact absurd (show (2:Int)=0 from he) (by decide)
 rw [if_neg h4];unfold RS.left at h2 h4;have hx:((r.b.drop (r.at'+2)).take (v2 r)).length=v2 r:=by simp;omega
 refine ⟨(r.b.drop (r.at'+2)).take (v2 r),by rw [hx],by omega,by omega,?_⟩;rw [hx,Qf,Qf,List.drop_drop];unfold bl;rw [hx];have hv:=zYn (l:=r.b.drop r.at') (by simp;omega);have e0:(r.b.drop r.at').getD 0 0=r.b.getD r.at' 0:=by simp [List.getD_eq_getElem?_getD,List.getElem?_drop]
 have e1:(r.b.drop r.at').getD 1 0=r.b.getD (r.at'+1) 0:=by simp [List.getD_eq_getElem?_getD,List.getElem?_drop]
 rw [e0,e1] at hv;show _=r.b.take r.at'++(beN ((v2 r:Nat):Int) 2 2++_);unfold v2;rw [hv]
theorem zQ5 (h:r.Ok) (he:zBf r=0):r.e=0/\r.b.take r.at'=r.b:=by
 unfold zBf at he;by_cases h1:r.e=0/\0<r.left
 ·rw [if_pos h1] at he;exact absurd he (by decide)
 ·rw [if_neg h1] at he;have h2:=h.1;refine ⟨he,Q0 ?_⟩;by_cases h3:0<r.left
  ·exact absurd ⟨he,h3⟩ h1
  ·unfold RS.left at h3;omega
theorem zPf (b:By) (hb:b.length<2 ^ 40):Def (pR b) (λr=>(r.2=0∨r.2=30)/\(r.2=0->fY r.1/\b=qJ r.1)):=by
 unfold pR;have ok0:RS.Ok ⟨b,0,0⟩:=⟨Nat.zero_le _,hb⟩;refine db (zPs b hb) ?_;refine db (vV _ 1 ok0 (by decide) (by decide)) ?_;have ok1:=dG ⟨b,0,0⟩ 1 ok0;generalize h1:wW ⟨b,0,0⟩ 1=p1 at ok1;refine db (vV p1.2 4 ok1 (by decide) (by decide)) ?_;have ok2:=dG p1.2 4 ok1;generalize h2:wW p1.2 4=p2 at ok2;refine db (uQ p2.2 12 ok2) ?_;have ok3:=zAn p2.2 12 ok2;generalize h3:vC p2.2 12=p3 at ok3;refine db (uQ p3.2 64 ok3) ?_;have ok4:=zAn p3.2 64 ok3;generalize h4:vC p3.2 64=p4 at ok4;obtain ⟨c,hc,hc0,_⟩:=zAl (zD.mk p1.1 p3.1 p2.1 p4.1);have hc':=(iH (zD.mk p1.1 p3.1 p2.1 p4.1)).trans hc;by_cases he:zBf p4.2=0
 ·by_cases hz:c=0
  ·refine db (a:=false) (bd (sV p4.2 ok4) (cf (b0 he) (bd hc' (congrArg some (b0 hz))))) (dcf rfl ⟨_,rfl,.inl rfl,λ_=>?_⟩);have hok:fY (zD.mk p1.1 p3.1 p2.1 p4.1):=hc.trans (congrArg some hz);refine ⟨hok,?_⟩;obtain ⟨e4,t4⟩:=zQ5 ok4 he;obtain ⟨x4,q4,e3,l4,s4⟩:=zJg (r:=p3.2) (m:=64) (by rw [h4];exact e4);obtain ⟨x3,q3,e2,l3,s3⟩:=zJg (r:=p2.2) (m:=12) (by rw [h3];exact e3);obtain ⟨n2,q2,e1,g2,s2⟩:=zJ3 (r:=p1.2) (k:=4) (by decide) (by rw [h2];exact e2);obtain ⟨n1,q1,e0,g1,s1⟩:=zJ3 (r:=⟨b,0,0⟩) (k:=1) (by decide) (by rw [h1];exact e1);rw [h4] at q4;rw [h3] at q3;rw [h2] at q2;rw [h1] at q1;subst q1;subst q2;subst q3;subst q4;obtain ⟨_,_,_,_,_,_⟩:=hok.f;rw [zIp _ (by show x3.length<=65535;omega) (by show x4.length<=65535;omega)];show b=beN n1 1 1++(beN n2 4 4++(bl x3++(bl x4++[])));have t4':b.take (0+1+4+(2+x3.length)+(2+x4.length))=b:=t4;have s4':b.take (0+1+4+(2+x3.length)+(2+x4.length))=b.take (0+1+4+(2+x3.length))++bl x4:=s4;have s3':b.take (0+1+4+(2+x3.length))=b.take (0+1+4)++bl x3:=s3;have s2':b.take (0+1+4)=b.take (0+1)++beN n2 4 4:=s2;have s1':b.take (0+1)=b.take 0++beN n1 1 1:=s1;rw [s4',s3',s2',s1',Qj,Q2] at t4';rw [Qc,<- Q4,<- Q4];exact t4'.symm
  ·refine db (a:=true) (bd (sV p4.2 ok4) (cf (b0 he) (bd hc' (congrArg some (b1 hz))))) (dct rfl ⟨_,rfl,.inr rfl,λh=>absurd (show (30:Int)=0 from h) (by decide)⟩)
 ·refine db (a:=true) (bd (sV p4.2 ok4) (ct (b1 he) rfl)) (dct rfl ⟨_,rfl,.inr rfl,λh=>absurd (show (30:Int)=0 from h) (by decide)⟩)
set_option maxRecDepth 100000
theorem zFp (r:RS):xM r.W=some (r.e,r.W):=rfl
def DcI (b:By) (N:Int) (s:List zD×Int×By×Int×Int):Prop:=
 ∃ (l:List zD) (r:RS),r.Ok/\r.b=b/\s=(l,N - l.length,r.W.b_,r.W.at_,r.W.e_)/\(l.length:Int)<=N/\(∀ x∈l,fY x)/\(r.e=0->b.take r.at'=beN N 1 1++l.flatMap λx=>bl (qJ x))
theorem zP6 (b:By) (hb:b.length<2 ^ 30):Def (wV b) (λr=>(r.2=0∨r.2=30/\r.1=[])/\(r.2=0->cM r.1/\b=tN r.1)):=by
 unfold wV;have ok0:RS.Ok ⟨b,0,0⟩:=⟨Nat.zero_le _,by show b.length<_;omega⟩;refine db (zPs b (by omega)) ?_;refine db (vV _ 1 ok0 (by decide) (by decide)) ?_;have ok1:=dG ⟨b,0,0⟩ 1 ok0;have hN:0<=(wW ⟨b,0,0⟩ 1).1/\(wW ⟨b,0,0⟩ 1).1<256:=by
  unfold wW;split
  ·exact ⟨Int.le_refl 0,show (0:Int)<256 by decide⟩
  split
  ·exact ⟨Int.le_refl 0,show (0:Int)<256 by decide⟩
  split
  ·exact ⟨Int.le_refl 0,show (0:Int)<256 by decide⟩
  ·obtain ⟨n,e,hn,_⟩:=zFg (RS.get ⟨b,0,0⟩ 1) 1 (by decide);rw [e];have hn:n<256:=hn;show 0<=Q8.wrap (n:Int)/\Q8.wrap (n:Int)<256;rw [yP (by omega) (by omega)];omega
 have hb1:(wW ⟨b,0,0⟩ 1).2.b=b:=by unfold wW;split<;>(try split)<;>(try split)<;>rfl
 have hi:(wW ⟨b,0,0⟩ 1).2.e=0->b.take (wW ⟨b,0,0⟩ 1).2.at'=beN (wW ⟨b,0,0⟩ 1).1 1 1:=by
  intro he;obtain ⟨n,q,_,_,s⟩:=zJ3 (r:=⟨b,0,0⟩) (k:=1) (by decide) he;rw [q];have s:b.take (0+1)=b.take 0++beN n 1 1:=s;rw [Qj,Q2] at s;exact s
 generalize wW ⟨b,0,0⟩ 1=p at ok1 hN hb1 hi;obtain ⟨N,r⟩:=p;show Def ((zM (xZ b) FU ([],N,r.W.b_,r.W.at_,r.W.e_)).bind _) _;refine Q9 (P:=λz=>z=.inl ([],30)∨∃ s,z=.inr s/\∃ (l:List zD) (r:RS),r.Ok/\r.b=b/\s=(l,r.W.b_,r.W.at_,r.W.e_)/\(l.length:Int)<=N/\(∀ x∈l,fY x)/\(r.e=0->(l.length:Int)=N/\b.take r.at'=beN N 1 1++l.flatMap λx=>bl (qJ x))) ?_ ?_
 ·refine Def.loop (DcI b N) (λs=>s.2.1.toNat) ?_ ⟨[],r,ok1,hb1,by simp,by simpa using hN.1,by simp,λh=>by simpa using hi h⟩ (by simp only;omega);rintro _ ⟨l,r,ok,hrb,rfl,hl,him,hc⟩;unfold xZ;simp only at hN;by_cases h0:N - l.length=0
  ·refine db (a:=(false,r.W.b_,r.W.at_,r.W.e_)) (cf (decide_eq_false (by omega)) rfl) (dcf rfl ⟨_,rfl,.inr ⟨_,rfl,l,r,ok,hrb,rfl,hl,him,λh=>⟨by omega,hc h⟩⟩⟩)
  by_cases he:r.e=0
  ·refine db (a:=(true,r.W.b_,r.W.at_,r.W.e_)) (ct (decide_eq_true (by omega)) (bd (zFp r) (by rw [he];rfl))) (dct rfl ?_);refine db (uQ r b.length ok) ?_;have ok':=zAn r b.length ok;have hrb':=zQz r b.length;have hrl:=zS1 r b.length;have hcs:(vC r b.length).2.e=0->b.take (vC r b.length).2.at'=b.take r.at'++bl (vC r b.length).1:=by
    intro h;obtain ⟨x,q,_,_,s⟩:=zJg (r:=r) (m:=b.length) h;rw [q];rw [hrb] at s;exact s
   generalize vC r b.length=p at ok' hrb' hrl hcs;refine Q9 (zPf p.1 (by rw [hrb] at hrl;omega)) λy hy=>?_;by_cases hy0:y.2=0
   ·obtain ⟨iy,ey⟩:=hy.2 hy0;refine dcf (b0 hy0) (db (yI (by simp;omega)) ⟨_,rfl,⟨l++[y.1],p.2,ok',hrb'.trans hrb,?_,?_,?_,?_⟩,?_⟩)
    ·rw [yP (by omega) (by omega)];simp;omega
    ·simp;omega
    ·intro x hx;rcases Qd.1 hx with hx | hx
     ·exact him x hx
     ·rw [Q1.1 hx];exact iy
    ·intro h;rw [hcs h,hc he,List.flatMap_append,List.flatMap_singleton,Q4,ey]
    ·simp only;rw [yP (by omega) (by omega)];omega
   ·exact dct (b1 hy0) ⟨_,rfl,.inl rfl⟩
  ·refine db (a:=(false,r.W.b_,r.W.at_,r.W.e_)) (ct (decide_eq_true (by omega)) (bd (zFp r) (by simp [c1 he]))) (dcf rfl ⟨_,rfl,.inr ⟨_,rfl,l,r,ok,hrb,rfl,hl,him,λh=>absurd h he⟩⟩)
 ·rintro z (rfl | ⟨s,rfl,l,r,ok,hrb,rfl,hlN,him,hc⟩)
  ·exact ⟨_,rfl,.inr ⟨rfl,rfl⟩,λh=>absurd (show (30:Int)=0 from h) (by decide)⟩
  obtain ⟨c,hch,hcp,hc0,hc1⟩:=zIe l (by simp only at hN;omega);by_cases he:zBf r=0
  ·obtain ⟨e0,t⟩:=zQ5 ok he;by_cases hz:c=0
   ·refine db (a:=false) (bd (sV r ok) (cf (b0 he) (bd hcp (congrArg some (b0 hz))))) (dcf rfl ⟨_,rfl,.inl rfl,λ_=>?_⟩);subst hz;obtain ⟨hl,ht⟩:=hc e0;refine ⟨chOk (show l.length<2 ^ 40 by simp only at hN;omega) hch,?_⟩;unfold tN;rw [hrb,ht] at t;rw [hl];exact t.symm
   ·exact db (a:=true) (bd (sV r ok) (cf (b0 he) (bd hcp (congrArg some (b1 hz))))) (dct rfl ⟨_,rfl,.inr ⟨rfl,rfl⟩,λh=>absurd (show (30:Int)=0 from h) (by decide)⟩)
  ·exact db (a:=true) (bd (sV r ok) (ct (b1 he) rfl)) (dct rfl ⟨_,rfl,.inr ⟨rfl,rfl⟩,λh=>absurd (show (30:Int)=0 from h) (by decide)⟩)
set_option maxRecDepth 100000
def wS (l:List zD):By:=hs 20 [tN l]++tN l
theorem dI (l:List zD):(wS l).length=32+(tN l).length:=by simp [wS,kU]
theorem zMq (h:s<2):(bif ((s:Int) != 0) then (some ((s:Int) != 1)) else some false:Option Bool)=some false:=by
 rcases (show s=0∨s=1 by omega) with rfl | rfl<;>rfl
theorem zUi (h:s<2):Q8.wrap (3+(s:Int))=((3+s:Nat):Int):=by rw [yP (by omega) (by omega)];omega
theorem zKs (d:zF) (hs':s<2) (hc:cM l) {r:zF×Int} (hw:qV d ((3+s:Nat):Int) (wS l)=some r):mR d (s:Int) l=some r:=by
 have hl:=kM hc;unfold mR;refine bd (zMq hs') (cf rfl ?_);refine bd hc.p (cf rfl ?_);refine bd (yCh hc) ?_;refine bd (zHg 20 [tN l] (by simp [tot];omega)) ?_;refine bd (yI (by rw [kU];omega)) ?_;rw [zUi hs'];exact bd hw rfl
section
theorem Dv.install (h:Dv d seq st vo m) (hs':s<2) (hc:cM l):mR d (s:Int) l=some (jF d (3+s) (wS l),0):=by
 have hl:=kM hc;exact zKs d hs' hc (h.write _ (by omega) (by rw [dI];omega))
theorem zMr (d:zF) (hs':s<2) {r:zF×Int} (hw:qV d 5 [u8 (s:Int)]=some r):nE d (s:Int)=some r:=by
 unfold nE;refine bd (zMq hs') (cf rfl ?_);exact bd hw rfl
theorem Dv.choose (h:Dv d seq st vo m) (hs':s<2):nE d (s:Int)=some (jF d 5 [u8 (s:Int)],0):=
 zMr d hs' (h.write (a:=5) [u8 (s:Int)] (by decide) (by simp))
theorem zO0 (d:zF) (ho:d.Disk.Off=false) (ha:5<d.Disk.Areas.length) (hold:(d.Disk.Areas.getD 5 []).length<2 ^ 40):sW d=some (if d.Disk.Areas.getD 5 []=[1] then 1 else 0):=by
 have hr:uY d.Disk 5=some (d.Disk.Areas.getD 5 [],0):=zCf d.Disk 5 ho ha hold;unfold sW;refine bd hr ?_;refine bd (a:=d.Disk.Areas.getD 5 []==[1]) (ct rfl (bd (zKu _ _) rfl)) ?_;by_cases h:d.Disk.Areas.getD 5 []=[1]
 ·rw [if_pos h];exact ct (by rw [h];rfl) rfl
 ·rw [if_neg h];exact cf (by simpa using h) rfl
def cE (c:By):Option (List zD×Int):=if 32<=c.length/\c.take 32=hs 20 [c.drop 32] then wV (c.drop 32) else some ([],30)
theorem zLx (d:zF) (hs':s<2) (ho:d.Disk.Off=false) (ha:3+s<d.Disk.Areas.length) (hold:(d.Disk.Areas.getD (3+s) []).length<2 ^ 30):qR d (s:Int)=cE (d.Disk.Areas.getD (3+s) []):=by
 have hr:uY d.Disk (Q8.wrap (3+(s:Int)))=some (d.Disk.Areas.getD (3+s) [],0):=by rw [zUi hs'];exact zCf d.Disk (3+s) ho ha (by omega)
 unfold qR;refine bd (zMq hs') (cf rfl ?_);refine bd hr (cf rfl ?_);generalize d.Disk.Areas.getD (3+s) []=c at hold;unfold cE;by_cases h32:32<=c.length
 ·have h1:sub c 0 32=some (c.take 32):=tH (a:=0) (b:=32) (by decide) h32;have h2:sub c 32 c.length=some (c.drop 32):=by
   have:=tH (l:=c) (a:=32) (b:=c.length) h32 (Nat.le_refl _);rw [Q0 (by rw [Qg];omega)] at this;exact this
  refine bd (a:=!(c.take 32==hs 20 [c.drop 32])) (cf (decide_eq_false (by omega)) (bd h1 (bd h2 (bd (zHg 20 [c.drop 32] (by simp [tot];omega)) (bd (zKu _ _) rfl))))) ?_;by_cases he:c.take 32=hs 20 [c.drop 32]
  ·rw [if_pos ⟨h32,he⟩];refine cf (by simp [he]) ?_;refine bd h2 ?_;cases wV (c.drop 32)<;>rfl
  ·rw [if_neg (λh=>he h.2)];exact ct (by simp [he]) rfl
 ·rw [if_neg (λh=>h32 h.1)];exact bd (a:=true) (ct (decide_eq_true (by omega)) rfl) (ct rfl rfl)
theorem zK9 (hc:cM l):cE (wS l)=some (l,0):=by
 have hd:(wS l).drop 32=tN l:=by unfold wS;rw [Q6 (by rw [kU];omega),Qe (by rw [kU];omega),Q2]
 have ht:(wS l).take 32=hs 20 [tN l]:=by unfold wS;rw [Q7 (by rw [kU];omega),Q0 (by rw [kU];omega)]
 unfold cE;rw [if_pos ⟨by rw [dI];omega,by rw [ht,hd]⟩,hd];exact zP7 hc
theorem zMb:cE []=some ([],30):=by
 unfold cE;rw [if_neg (λh=>by have:=h.1;simp at this)]
theorem zMf (c:By) (hb:c.length<2 ^ 30):Def (cE c) (λr=>(r.2=0∨r.2=30/\r.1=[])/\(r.2=0->cM r.1/\c=wS r.1/\c.drop 32=tN r.1/\c.take 32=hs 20 [tN r.1])):=by
 unfold cE;by_cases h:32<=c.length/\c.take 32=hs 20 [c.drop 32]
 ·rw [if_pos h];refine (zP6 (c.drop 32) (by rw [Qg];omega)).mono λr hr=>⟨hr.1,λh0=>?_⟩;obtain ⟨a,b⟩:=hr.2 h0;have ht:=h.2;rw [b] at ht;refine ⟨a,?_,b,ht⟩;unfold wS;rw [<- ht,<- b,List.take_append_drop]
 ·rw [if_neg h];exact Qh ⟨.inr ⟨rfl,rfl⟩,λh=>absurd (show (30:Int)=0 from h) (by decide)⟩
theorem zRm (b:By):Def (zAy b) (λr=>r.length=32):=by
 unfold zAy;refine Q9 (Def.mkN (by decide) (by decide)) (λn hn=>?_);refine Q9 (Def.ck (by simp)) (λ_ _=>?_);refine Def.lt ?_;refine Q9 (Def.ck (by rw [zJt];simp)) (λ_ _=>?_);exact Q9 (Def.ck (zGw (by
                 have e:(32:Int).toNat=32:=rfl;omega))) (λ_ _=>Qh (by rw [zJt,List.length_replicate,hn];rfl))
theorem zIb (e:By) (active:Int) (he:e.length=32) (h1:1<=active) (h3:active<=3):Def (nH 8 e active) (λr=>r.2=0/\(∃ d0,r.1=zGv d0)/\∃ st,sR r.1=some (onD r.1 1 st,0)/\(∀ m,m<2 ^ 50->Dv (onD r.1 1 st) 1 st zPt m)/\st.Active=active/\st.Resets=0/\∀ a,a≠1->r.1.Disk.Areas.getD a []=[]):=by
 refine (zLn e active he h1 h3).mono λr hr=>?_;obtain ⟨h0,⟨d0,hd⟩,st,hk,ha,hr0,hz⟩:=hr;refine ⟨h0,⟨d0,hd⟩,st,zNe r.1 1 st (.inl (by rw [hd];rfl)) hk.n hk.al hk.jr hk.sst,λm hm=>Dv.of_on hk.n hk.al hk.jr hk.sst m hm,ha,hr0,hz⟩
theorem zPc (en:By) (active:Int) (h1:1<=active) (h3:active<=3) (hc:cM l):Def (lF en active l) (λr=>r.2=true/\∃ st,Dv r.1 1 st zPt 2/\st.Active=active/\st.Resets=0/\r.1.Disk.Areas.getD 3 []=wS l/\r.1.Disk.Areas.getD 4 []=[]/\r.1.Disk.Areas.getD 5 []=[0]/\r.1.Disk.Areas.getD 0 []=[]/\r.1.Disk.Areas.getD 2 []=[]):=by
 have hl:=kM hc;unfold lF;refine Q9 (zRm en) (λe he=>?_);refine Q9 (zIb e active he h1 h3) (λr hr=>?_);obtain ⟨x,c⟩:=r;obtain ⟨h0,⟨d0,rfl⟩,st,hp,hv,ha,hr0,hz⟩:=hr;simp only at h0 hp hv hz;subst h0;have hv0:=hv 0 (by decide);have hv1:=hv0.set (a:=3) (y:=wS l) (by decide) (by decide) (by rw [dI];omega) (by decide);have hv2:=hv1.set (a:=5) (y:=[u8 ((0:Nat):Int)]) (by decide) (by decide) (by simp) (by decide);refine db (a:=(onD (zGv d0) 1 st,0)) hp ?_;refine db (hv0.install (s:=0) (by decide) hc) ?_;refine db (hv1.choose (s:=0) (by decide)) ?_;refine db (a:=true) rfl ?_;have hn:=hv0.n;refine Qh ⟨rfl,st,hv2,ha,hr0,?_,?_,?_,?_,?_⟩
 ·show (((onD (zGv d0) 1 st).Disk.Areas.set 3 (wS l)).set 5 _).getD 3 []=_;rw [getD_set_ne (by decide),wY (by omega)]
 ·show (((onD (zGv d0) 1 st).Disk.Areas.set 3 (wS l)).set 5 _).getD 4 []=_;rw [getD_set_ne (by decide),getD_set_ne (by decide)];exact hz 4 (by decide)
 ·show (((onD (zGv d0) 1 st).Disk.Areas.set 3 (wS l)).set 5 _).getD 5 []=_;rw [wY (by rw [Qi];omega)];rfl
 ·show (((onD (zGv d0) 1 st).Disk.Areas.set 3 (wS l)).set 5 _).getD 0 []=_;rw [getD_set_ne (by decide),getD_set_ne (by decide)];exact hz 0 (by decide)
 ·show (((onD (zGv d0) 1 st).Disk.Areas.set 3 (wS l)).set 5 _).getD 2 []=_;rw [getD_set_ne (by decide),getD_set_ne (by decide)];exact hz 2 (by decide)
theorem zLj (en:By) (active:Int) (h1:1<=active) (h3:active<=3) (hc:cM l):Def (lF en active l) (λr=>r.2=true/\∃ st,Dv r.1 1 st zPt 2/\st.Active=active/\st.Resets=0/\r.1.Disk.Areas.getD 3 []=wS l/\r.1.Disk.Areas.getD 4 []=[]/\r.1.Disk.Areas.getD 5 []=[0]):=
 (zPc en active h1 h3 hc).mono λ_ ⟨a,st,b,c,d,e,f,g,_⟩ =>⟨a,st,b,c,d,e,f,g⟩
end
set_option maxRecDepth 100000
theorem zRi (es:List zB) (h40:es.length<=40) (hE:∀ e∈es,EvC e st.Active) (hK:∀ e∈es,e.Kind≠5) (n:Nat):∀ (i fuel:Nat) (d:zF) (vo:yF) (m:Nat),i+n=es.length->n<fuel->Mz d seq st vo m (es.take i)->m+n<2 ^ 50 ->
  ∃ d' vo',zM (qS es) fuel ((i:Int),0,yD.mk d [])=some (.inr (0,yD.mk d' []))/\Mz d' seq st vo' (m+n) es/\∀ a,3<=a->d'.Disk.Areas.getD a []=d.Disk.Areas.getD a []:=by
 induction n with
 | zero=>
  intro i fuel d vo m hi hf h _;obtain ⟨f,rfl⟩:∃ f,fuel=f+1:=⟨fuel - 1,by omega⟩;have hi:i=es.length:=by omega
  subst hi;rw [Qa] at h;refine ⟨d,vo,?_,h,λ_ _=>rfl⟩;have:qS es ((es.length:Int),0,yD.mk d [])=some (.inr (.inr (0,yD.mk d []))):=by
   unfold qS;exact cf (decide_eq_false (by omega)) rfl
  simp only [zM,this]
 | succ n ih=>
  intro i fuel d vo m hi hf h hm;obtain ⟨f,rfl⟩:∃ f,fuel=f+1:=⟨fuel - 1,by omega⟩;have hl:i<es.length:=by omega
  have hmem:es[i]∈es:=Qb _;obtain ⟨d1,vo1,e1,h1,s1⟩:=h.step (hE _ hmem) (hK _ hmem) (by rw [List.length_take];omega) (λe he=>hE e (List.mem_of_mem_take he)) (by omega);rw [show es.take i++[es[i]]=es.take (i+1) from by rw [List.take_add_one];simp [hl]] at h1;obtain ⟨d2,vo2,e2,h2,s2⟩:=ih (i+1) f d1 vo1 (m+1) (by omega) (by omega) h1 (by omega);refine ⟨d2,vo2,?_,by rw [show m+(n+1)=m+1+n from by omega];exact h2,λa ha=>(s2 a ha).trans (s1 a ha)⟩;have:qS es ((i:Int),0,yD.mk d [])=some (.inl (((i+1:Nat):Int),0,yD.mk d1 [])):=by
   unfold qS;refine ct (decide_eq_true (by omega)) (bd (yQ hl) (bd e1 (cf rfl ?_)));rw [yP (by omega) (by omega)];rfl
  simp only [zM,this];exact e2
section
theorem Dv.start (h:Dv d seq st vo m) (hs:vo.Started=false) (hp:vo.Stopped=false) (hR:st.Resets+1<2 ^ 30) (hq:seq+1<2 ^ 29) (hm:m+1<2 ^ 50):∃ d1 seq1,pN (yD.mk d []) (yA.mk 1 [] [] [0] [])=some (zP.mk 0 [] [] [],0,yD.mk d1 [])/\Dv d1 seq1 (stS st) (zRx st vo) (m+1)/\seq1<=seq+1/\∀ a,2<=a->d1.Disk.Areas.getD a []=d.Disk.Areas.getD a []:=by
 obtain ⟨d1,seq1,e,h1,h2,h3⟩:=h.send_new (h.sst.S hR) hq hm (zO4 st vo h.sst hs hp);exact ⟨d1,seq1,zRv rqS e rsd0 rfl (by decide) (yD.mk d []) rfl,h1,h2,h3⟩
def pY (d:zF):Nat:=if d.Disk.Areas.getD 5 []=[1] then 1 else 0
theorem zK1 (d:zF):pY d<2:=by unfold pY;split<;>omega
theorem Dv.chosen (h:Dv d seq st vo m):sW d=some (pY d:Int):=by
 rw [zO0 d h.off (by rw [h.n];decide) (by have:=h.al 5;omega)];unfold pY;split<;>rfl
def zD0 (active c:Int) (pe:List zB):List zB:=if c=0 then pe else [dQ active]
theorem Dv.run (h:Dv d seq st vo m) (hs:vo.Started=false) (hp:vo.Stopped=false) (hR:st.Resets+1<2 ^ 30) (hq:seq+1<2 ^ 29) (hm:m+60<2 ^ 50)
  {ch:List zD} {pe:List zB} (hsm:(d.Disk.Areas.getD (3+pY d) []).length<2 ^ 30) (hch:cE (d.Disk.Areas.getD (3+pY d) [])=some (ch,c)) (hpe:tA ch st.Active=some pe)
  (h40:pe.length<=40) (hE:∀ e∈pe,EvC e st.Active) (hK:∀ e∈pe,e.Kind≠5) :
  ∃ d' seq' vo' m',oI d=some (d',if c=0 then 0 else 50)/\Mz d' seq' (stS st) vo' m' (zD0 st.Active c pe)/\seq'<=seq+1/\m'<=m+43/\∀ a,3<=a->d'.Disk.Areas.getD a []=d.Disk.Areas.getD a []:=by
 obtain ⟨d1,seq1,e1,h1,hq1,s1⟩:=h.start hs hp hR hq (by omega);have hr0:=h.sst.r0;have hw:=h1.write (a:=2) (zBu st.Active (st.Resets+1)) (by decide) (by rw [aO];decide);have h2:=h1.set (a:=2) (y:=zBu st.Active (st.Resets+1)) (by decide) (by decide) (by rw [aO];decide) (by omega);have hge:∀ a,3<=a->(jF d1 2 (zBu st.Active (st.Resets+1))).Disk.Areas.getD a []=d.Disk.Areas.getD a []:=λa ha=>(getD_set_ne (by omega)).trans (s1 a (by omega));have hn:pY (jF d1 2 (zBu st.Active (st.Resets+1)))=pY d:=by unfold pY;rw [hge 5 (by decide)]
 have hlt:=zK1 d;have hco:sW (jF d1 2 (zBu st.Active (st.Resets+1)))=some (pY d:Int):=by rw [h2.chosen,hn]
 have hcc:qR (jF d1 2 (zBu st.Active (st.Resets+1))) (pY d:Int)=some (ch,c):=by
  rw [zLx _ hlt h2.off (by rw [h2.n];omega) (by rw [hge _ (by omega)];exact hsm),hge _ (by omega),hch]
 have hz:Mz (jF d1 2 (zBu st.Active (st.Resets+1))) seq1 (stS st) (zRx st vo) (m+1+1) ((zD0 st.Active c pe).take 0):=⟨h2,rfl,rfl,by
  show (d1.Disk.Areas.set 2 _).getD 2 []=_;rw [wY (by rw [h1.n];decide)];simp [lA,stS]⟩
 have hl40:(zD0 st.Active c pe).length<=40:=by unfold zD0;split;exact h40;simp
 have hE':∀ e∈zD0 st.Active c pe,EvC e (stS st).Active:=by
  intro e he;unfold zD0 at he;split at he
  ·exact hE e he
  ·rw [Q1.1 he];exact zJa h.sst.a0 h.sst.a3
 have hK':∀ e∈zD0 st.Active c pe,e.Kind≠5:=by
  intro e he;unfold zD0 at he;split at he
  ·exact hK e he
  ·rw [Q1.1 he];exact show (4:Int)≠5 by decide
 obtain ⟨d3,vo3,e3,h3,s3⟩:=zRi (seq:=seq1) (st:=stS st) (zD0 st.Active c pe) hl40 hE' hK' (zD0 st.Active c pe).length 0 FU _ _ (m+1+1) (by omega) (xT (by omega)) hz (by omega);refine ⟨d3,seq1,vo3,m+1+1+(zD0 st.Active c pe).length,?_,h3,hq1,by omega,λa ha=>(s3 a ha).trans (hge a ha)⟩;have hst:d1.State=⟨stS st,zRx st vo⟩:=h1.s;have hA:d1.State.Stable.Active=st.Active:=by rw [hst];rfl
 have hRs:d1.State.Stable.Resets=st.Resets+1:=by rw [hst];rfl
 unfold oI;refine cf (by rw [h.on];rfl) ?_;refine bd (a:=yD.mk d []) rfl ?_;refine bd (a:=(default,if c=0 then 0 else 50,yD.mk d3 [])) ?_ ?_
 ·refine bd e1 (cf rfl ?_);show (vK d1.State.Stable.Active d1.State.Stable.Resets).bind _=_;rw [hA,hRs];refine bd (zW0 st.Active (st.Resets+1) h.sst.a0 h.sst.a3 (by omega) (by omega)) ?_;refine bd hw (cf rfl ?_);refine bd hco (bd hcc ?_);refine bd hpe ?_;refine bd (a:=zD0 st.Active c pe) ?_ (bd e3 ?_)
  ·unfold zD0;by_cases hc:c=0
   ·rw [if_pos hc];exact cf (b0 hc) rfl
   ·rw [if_neg hc];exact ct (b1 hc) (bd (zGj 0 4 st.Active [99,104,97,105,110] (by decide)) rfl)
  ·show ((bif c != 0 then some 50 else some 0:Option Int).bind λe=>some ((default:zF),e,yD.mk d3 []))=_;by_cases hc:c=0
   ·rw [if_pos hc];exact bd (a:=0) (cf (b0 hc) rfl) rfl
   ·rw [if_neg hc];exact bd (a:=50) (ct (b1 hc) rfl) rfl
 ·refine bd (a:=(d3,if c=0 then 0 else 50,yD.mk d3 [])) ?_ rfl;unfold fM;refine cf ?_ rfl;split<;>rfl
end
set_option maxRecDepth 100000
def zD3:List zD:=[zD.mk 1 [102] 0 [],zD.mk 3 [107] 0 []]
theorem zQe:bQ=some zD3:=rfl
theorem zI2:hU zD3:=by
 have g1:oH (zD.mk 1 [102] 0 []):=⟨by decide,by decide,by decide,by decide,by rw [dR];decide +kernel,by decide,by decide,λh=>absurd h (by decide)⟩;have g3:oH (zD.mk 3 [107] 0 []):=⟨by decide,by decide,by decide,by decide,by rw [dR];decide +kernel,by decide,by decide,λh=>absurd h (by decide)⟩;refine ⟨by decide,?_,?_,⟨_,.head _,rfl⟩,⟨_,.tail _ (.head _),rfl⟩⟩
 ·intro x hx;rcases Ql.1 hx with rfl | hx
  ·exact g1
  ·rw [Q1.1 hx];exact g3
 ·refine .cons ?_ (.cons (by simp) .nil);intro y hy;rw [Q1.1 hy];exact ⟨by decide,by decide⟩
theorem zXc:cM zD3:=zI2.ok
section
theorem Mz.log (h:Mz d seq st vo m es) (hE:∀ e∈es,EvC e st.Active) (h40:es.length<=40):iT d=some (⟨st.Active,st.Resets,es⟩,0):=by
 have hr0:=h.sst.r0;have hr1:=h.sst.r1;unfold iT;refine bd (h.toDv.read (a:=2) (by decide)) (cf rfl ?_);rw [h.lg];exact bd (zPq ⟨st.Active,st.Resets,es⟩ ⟨⟨hE,h40⟩,h.sst.a0,h.sst.a3,hr0,by show st.Resets<=1099511627776;omega⟩) rfl
theorem Dv.run_good (h:Dv d seq st vo m) (hs:vo.Started=false) (hp:vo.Stopped=false) (hR:st.Resets+1<2 ^ 30) (hq:seq+1<2 ^ 29) (hm:m+60<2 ^ 50) (hc:hU l) (hA:d.Disk.Areas.getD (3+pY d) []=wS l) :
  ∃ d' seq' vo' m',oI d=some (d',0)/\Mz d' seq' (stS st) vo' m' (evs l st.Active)/\seq'<=seq+1/\m'<=m+43/\∀ a,3<=a->d'.Disk.Areas.getD a []=d.Disk.Areas.getD a []:=by
 have hl:=kM hc.ok;have h1:=h.sst.a0;have h3:=h.sst.a3;obtain ⟨d',seq',vo',m',e,hz,r⟩:=h.run hs hp hR hq hm (ch:=l) (c:=0) (pe:=evs l st.Active) (by rw [hA,dI];omega) (by rw [hA];exact zK9 hc.ok) (zMn l st.Active hc h1 h3) (zSz l st.Active hc).2 (zRo h1 h3 hc) zRk;exact ⟨d',seq',vo',m',e,hz,r⟩
theorem Dv.run_none (h:Dv d seq st vo m) (hs:vo.Started=false) (hp:vo.Stopped=false) (hR:st.Resets+1<2 ^ 30) (hq:seq+1<2 ^ 29) (hm:m+60<2 ^ 50) (hA:d.Disk.Areas.getD (3+pY d) []=[]) :
  ∃ d' seq' vo' m',oI d=some (d',50)/\Mz d' seq' (stS st) vo' m' [dQ st.Active]:=by
 obtain ⟨d',seq',vo',m',e,hz,_⟩:=h.run hs hp hR hq hm (ch:=[]) (c:=30) (pe:=[]) (by rw [hA];decide) (by rw [hA];exact zMb) (zEe _) (by decide) (by simp) (by simp);exact ⟨d',seq',vo',m',e,hz⟩
theorem ev10:(evs zD3 2).length=10:=by decide +kernel
theorem zQh:fN=some true:=by
 obtain ⟨⟨x,ok⟩,em,hok,st,hv,ha,hr0,h3,h4,h5⟩:=zLj [] 2 (by decide) (by decide) zXc;simp only at hok hv h3 h4 h5;subst hok;have hsl:pY x=0:=by unfold pY;rw [h5];rfl
 obtain ⟨d1,seq1,vo1,m1,e1,hz1,_⟩:=hv.run_good rfl rfl (by rw [hr0];decide) (by decide) (by decide) zI2 (by rw [hsl];exact h3);have hact1:(stS st).Active=2:=ha;have hlog1:=hz1.log (by rw [ha];exact λe he=>by rw [hact1];exact zRo (by decide) (by decide) zI2 e he) (by rw [ha];exact (zSz zD3 2 zI2).2);rw [ha] at hlog1;obtain ⟨⟨y,c⟩,ef,hc0,⟨d0,hd⟩,st2,hp2,hv2,ha2,hr2,hz2⟩:=zIb (List.replicate 32 0) 2 (by simp) (by decide) (by decide);simp only at hc0 hd hp2 hv2 hz2;subst hc0;subst hd;have hv2':=hv2 0 (by decide);have hA2:∀ a,2<=a->(onD (zGv d0) 1 st2).Disk.Areas.getD a []=[]:=λa ha=>hz2 a (by omega);obtain ⟨d2,seq2,vo2,m2,e2,hzb⟩:=hv2'.run_none rfl rfl (by rw [hr2];decide) (by decide) (by decide) (hA2 _ (by omega));have hact2:(stS st2).Active=2:=ha2;have hlog2:=hzb.log (λe he=>by rw [Q1.1 he,hact2,ha2];exact zJa (by decide) (by decide)) (by simp);unfold fN;refine bd zQe (bd em (cf rfl ?_));refine bd e1 (bd hlog1 ?_);refine bd (a:=32) rfl ?_;refine bd ef ?_;refine bd (a:=(onD (zGv d0) 1 st2,0)) hp2 ?_;refine bd e2 (bd hlog2 ?_);refine bd (a:=true) ?_ rfl;refine ct rfl (ct rfl (ct ?_ (ct rfl (ct rfl (ct rfl (ct rfl (ct rfl ?_)))))))
 ·show (((evs zD3 2).length:Int)==10)=true;rw [ev10];rfl
 ·exact bd (a:=dQ st2.Active) rfl rfl
end
set_option maxRecDepth 100000
set_option maxRecDepth 100000
theorem zQj (b:By) (n:Nat) (hn:n<2 ^ 20):zCn b (n:Int)=some (b.take n):=by
 unfold zCn;by_cases h:n<b.length
 ·refine ct (decide_eq_true (by omega)) ?_;have:=tH (l:=b) (a:=0) (b:=n) (by omega) (by omega);exact bd this rfl
 ·refine cf (decide_eq_false (by omega)) ?_;rw [Q0 (by omega)]
section
theorem Dv.dwrite (h:Dv d seq st vo m) {a:Nat} (y:By) (h8:a<8) (hy:y.length<=65536):rG d.Disk (a:Int) y=some (bU d.Disk a y,0):=by
 have hw:=zC2 d.Disk a y h.ok h.off (by rw [h.n];exact h8) hy (by have:=h.al a;omega);have hc:=h.noC;have e:wrC d.Disk (d.Disk.Areas.getD a []) y=y:=by
  unfold wrC bZ;rw [if_neg (show ¬ (d.Disk.Writes+1=d.Disk.CutAt) from hc),if_neg hc,Qa,Qc]
 rw [e,show zEp d.Disk=0 from if_neg hc] at hw;exact hw
end
set_option maxRecDepth 100000
theorem zTd {tag:Int} {a:By} (h:frm tag [a]=frm tag [b]):a=b:=by
 have:=congrArg (List.drop 5) h;simpa [frm,zMi,hd4] using this
theorem zLh {b:List zD} (ha:cM a) (hb:cM b) (h:tN a=tN b):a=b:=by
 have h1:=zP7 ha;rw [h,zP7 hb] at h1;exact (congrArg Prod.fst (Option.some.inj h1)).symm
theorem coll {b:List zD} (ha:cM a) (hb:cM b):Def (vZ a b) (λr=>hs 20 [tN a]=hs 20 [tN b]->r=true∨a=b):=by
 have hl:=kM ha;have hl2:=kM hb;have fa:(frm 20 [tN a]).length<2 ^ 40:=by rw [zDe];simp [tot];omega
 have fb:(frm 20 [tN b]).length<2 ^ 40:=by rw [zDe];simp [tot];omega
 unfold vZ;refine db (zSv ha) (db (zSv hb) ?_);refine db (zIc 20 [tN a] (by simp [tot];omega)) (db (zIc 20 [tN b] (by simp [tot];omega)) ?_);refine Q9 (P:=λr=>hs 20 [tN a]=hs 20 [tN b]->r=true∨a=b) ?_ (λr hr=>Qh hr);unfold cO;by_cases he:frm 20 [tN a]=frm 20 [tN b]
 ·refine db (a:=false) (ct rfl (ct rfl (bd (zDl _ _ fa) (cf (by simp [he]) rfl)))) ?_;exact Qh λ_=>.inr (zLh ha hb (zTd he))
 ·have s1:sub (sha (frm 20 [tN a])) 0 32=some (hs 20 [tN a]):=by
   have:=tH (l:=sha (frm 20 [tN a])) (a:=0) (b:=32) (by decide) (by rw [fP];decide);rw [Qk,Q0 (by rw [fP];decide)] at this;exact this
  have s2:sub (sha (frm 20 [tN b])) 0 32=some (hs 20 [tN b]):=by
   have:=tH (l:=sha (frm 20 [tN b])) (a:=0) (b:=32) (by decide) (by rw [fP];decide);rw [Qk,Q0 (by rw [fP];decide)] at this;exact this
  refine db (a:=(hs 20 [tN a]==hs 20 [tN b])) (ct rfl (ct rfl (bd (zDl _ _ fa) (ct (by simp [he]) (bd (zIv _ fa) (bd s1 (bd (zIv _ fb) (bd s2 (bd (zDl _ _ (by rw [kU];decide)) rfl))))))))) ?_;exact Qh λh=>.inl (by simp [h])
set_option maxRecDepth 100000
theorem zSe {r:zC} (h:zEy active r) (a:Nat) (ha:a<2) (i:Nat) (hi:i<12) :
  (xY active (a:Int)=true->∃ x,mZ r (a:Int) (i:Int)=some (x,0)/\x=(r.Banks.getD a []).getD i []/\x.length<=32)/\(xY active (a:Int)=false->mZ r (a:Int) (i:Int)=some ([],27)):=by
 obtain ⟨bk,u⟩:=r;obtain ⟨b0,b1,hB,l0,l1,h0,h1⟩:=h.b;simp only at hB;subst hB;have hg:∀ a:Nat,a<2->(bif decide ((a:Int)<0) then some true else bif decide ((2:Int)<=a) then some true else bif decide ((i:Int)<0) then some true else some (decide ((16:Int)<=i)):Option Bool)=some false:=λa ha=>
  cf (decide_eq_false (by omega)) (cf (decide_eq_false (by omega)) (cf (decide_eq_false (by omega)) (congrArg some (decide_eq_false (by omega)))))
 unfold mZ;rcases (show a=0∨a=1 by omega) with rfl | rfl
 ·constructor
  ·intro hb;have hb:xY active 0=true:=hb;rw [hb] at l0;have l0:b0.length=16:=l0;have hx:b0[i]∈b0:=Qb _;refine ⟨b0[i],?_,by simp [List.getD,show i<b0.length by omega],h0 _ hx⟩;refine bd (hg 0 ha) (cf rfl ?_);refine bd (zD8 b0 b1 u).1 (cf (by rw [l0];rfl) ?_);refine bd (a:=b0) rfl (bd (yQ (by omega)) (bd (zFm _ (by have:=h0 _ hx;omega)) rfl))
  ·intro hb;have hb:xY active 0=false:=hb;rw [hb] at l0;have l0:b0.length=0:=l0;refine bd (hg 0 ha) (cf rfl ?_);exact bd (zD8 b0 b1 u).1 (ct (by rw [l0];rfl) rfl)
 ·constructor
  ·intro hb;have hb:xY active 1=true:=hb;rw [hb] at l1;have l1:b1.length=16:=l1;have hx:b1[i]∈b1:=Qb _;refine ⟨b1[i],?_,by simp [List.getD,show i<b1.length by omega],h1 _ hx⟩;refine bd (hg 1 ha) (cf rfl ?_);refine bd (zD8 b0 b1 u).2 (cf (by rw [l1];rfl) ?_);refine bd (a:=b1) rfl (bd (yQ (by omega)) (bd (zFm _ (by have:=h1 _ hx;omega)) rfl))
  ·intro hb;have hb:xY active 1=false:=hb;rw [hb] at l1;have l1:b1.length=0:=l1;refine bd (hg 1 ha) (cf rfl ?_);exact bd (zD8 b0 b1 u).2 (ct (by rw [l1];rfl) rfl)
theorem zKa {r:zC} (h:zEy active r) (a:Nat) (ha:a<2):zM (rN r r active (a:Int)) FU 0=some (.inr ()):=by
 cases hb:xY active (a:Int) with
 | false=>
  refine tD ?_;unfold rN;exact bd (a:=false) (ct rfl (congrArg some hb)) (cf rfl rfl)
 | true=>
  refine yJ 12 (λi=>(i:Int)) rfl (λi hi=>?_) ?_ (xT (by omega))
  ·obtain ⟨x,hv,_,hx⟩:=(zSe h a ha i hi).1 hb;unfold rN;refine bd (a:=true) (ct (decide_eq_true (by omega)) (congrArg some hb)) (ct rfl ?_);refine bd hv (bd hv ?_);refine bd (a:=false) (cf rfl (cf rfl (bd (zDl x x (by omega)) (by simp)))) (cf rfl ?_);rw [yP (by omega) (by omega)];rfl
  ·unfold rN;exact bd (a:=false) (cf rfl rfl) (cf rfl rfl)
theorem zL2 {r:zC} (h:zEy active r):mC r r active=some true:=by
 unfold mC;refine bd (a:=.inr ()) (yJ 2 (λi=>(i:Int)) rfl (λi hi=>?_) ?_ (xT (by omega))) rfl
 ·unfold kS;refine ct (decide_eq_true (by omega)) (bd (zKa h i hi) ?_);show (some (.inl (Q8.wrap ((i:Int)+1))):Option (Int ⊕ (Bool ⊕ Unit)))=_;rw [yP (by omega) (by omega)];rfl
 ·unfold kS;exact cf rfl rfl
section
end
set_option maxRecDepth 100000
theorem zV2:rA ⟨1,1,[dQ 1]⟩ (rpl 1 [dQ 1])=some (-1):=by decide +kernel
theorem zX8:rA ⟨2,1,[dQ 2]⟩ (rpl 2 [dQ 2])=some (-1):=by decide +kernel
theorem zW4:rA ⟨3,1,[dQ 3]⟩ (rpl 3 [dQ 3])=some (-1):=by decide +kernel
set_option maxRecDepth 100000
def badT (ch ac:Int) (l:List zD) (d:zF):Option Bool:=
  ((sW d).bind λv_1139=>
  (qR d v_1139).bind λ((v_1141,v_1142):(List zD)×Int)=>
  bif (v_1142==0) then
   ((bif ((vS .i64 ch 1)==1) then
    ((vL v_1141).bind λv_1164=>
    bif (v_1164==0) then
     (some true)
    else
    (vZ v_1141 l).bind λv_1167=>
    some v_1167)
   else
   (vZ v_1141 l).bind λv_1169=>
   some v_1169:Option (Bool)).bind λ(v_1162:Bool)=>
   some v_1162)
  else
  (oI d).bind λ((v_1174,v_1175):zF×Int)=>
  (iT v_1174).bind λ((v_1180,v_1181):yU×Int)=>
  (iY 0 4 ac ([99,104,97,105,110]:By)).bind λv_1188=>
  (nZ (yU.mk ac 0 [v_1188])).bind λ((v_1190,v_1191):zC×Int)=>
  (bif (v_1175==50) then
   (bif (v_1181==0) then
    (bif (v_1191==0) then
     (bif ((v_1180.Events.length:Int)==1) then
      ((mC v_1174.State.Volatile.Registers v_1190 ac).bind λv_1217=>
      bif v_1217 then
       ((rA v_1180 v_1174.State.Volatile.Registers).bind λv_1220=>
       some (v_1220==(-1)))
      else
      some false)
     else
     some false)
    else
    some false)
   else
   some false)
  else
  some false:Option (Bool)).bind λ(v_1212:Bool)=>
  some v_1212)
theorem zH3 {ch:Int} (h:Dv d 1 st zPt m) (hr:st.Resets=0) (hm:m<=10) (hsm:(d.Disk.Areas.getD (3+pY d) []).length<2 ^ 30)
  (hC:∀ mm,cM mm->d.Disk.Areas.getD (3+pY d) []=wS mm->(vS .i64 ch 1==1)=false->vZ mm l=some true):badT ch st.Active l d=some true:=by
 have h1:=h.sst.a0;have h3:=h.sst.a3;have hlt:=zK1 d;obtain ⟨⟨mm,e⟩,ec,he,hmm⟩:=zMf _ hsm;simp only at he hmm;have hbc:qR d (pY d:Int)=some (mm,e):=by rw [zLx d hlt h.off (by rw [h.n];omega) hsm,ec]
 unfold badT;refine bd h.chosen (bd hbc ?_);by_cases h0:e=0
 ·obtain ⟨hmo,hs,_⟩:=hmm h0;refine ct (by simp [h0]) ?_;cases hch:(vS .i64 ch 1==1) with
  | true=>exact bd (a:=true) (ct rfl (bd hmo.r (ct rfl rfl))) rfl
  | false=>exact bd (a:=true) (cf rfl (bd (hC mm hmo hs hch) rfl)) rfl
 ·refine cf (by simpa using h0) ?_;rcases he with h | ⟨h30,hnil⟩
  ·exact absurd h h0
  subst h30;subst hnil;obtain ⟨d1,seq1,vo1,m1,e1,hz,_⟩:=h.run rfl rfl (by omega) (by decide) (by omega) hsm ec (zEe st.Active) (by decide) (by simp) (by simp);have hz:Mz d1 seq1 (stS st) vo1 m1 [dQ st.Active]:=hz;have hE:∀ e∈[dQ st.Active],EvC e st.Active:=λe he=>by rw [Q1.1 he];exact zJa h1 h3
  have hlog:=hz.log (λe he=>hE e he) (by simp);have hR:(stS st).Resets=1:=by show st.Resets+1=1;omega
  have hA:(stS st).Active=st.Active:=rfl;rw [hR,hA] at hlog;have hreg:d1.State.Volatile.Registers=rpl st.Active [dQ st.Active]:=by rw [hz.s];exact hz.v2
  obtain ⟨⟨q,z⟩,er,hq,hz0⟩:=zM3 ⟨st.Active,0,[dQ st.Active]⟩ (by show [dQ st.Active].length<2 ^ 20;simp) h1 h3;have hz0:z=0:=hz0 hE;subst hz0;have hq:q=rpl st.Active [dQ st.Active]:=hq rfl;subst hq;have hf:rA ⟨st.Active,1,[dQ st.Active]⟩ (rpl st.Active [dQ st.Active])=some (-1):=by
   rcases zTg h1 h3 with h | h | h
   ·rw [h];exact zV2
   ·rw [h];exact zX8
   ·rw [h];exact zW4
  refine bd e1 (bd hlog ?_);refine bd (zTm 0 4 st.Active [99,104,97,105,110] (by decide)) ?_;refine bd (a:=(rpl st.Active [dQ st.Active],0)) er ?_;refine bd (a:=true) (ct rfl (ct rfl (ct rfl (ct rfl ?_)))) rfl;rw [hreg];exact bd (zL2 (zMk _ _ h1 h3)) (ct rfl (bd hf rfl))
theorem zTz:∀ n:Nat,n<256->u8 (wN .u8 (n:Int) 1)≠UInt8.ofNat n:=by decide +kernel
theorem zJr (codes b:By) (active at':Int) (by':UInt8) (ch:Int):eH codes b active at' by' ch=some true:=by
 obtain ⟨ac,ea,ha1,ha3⟩:=zMc active;obtain ⟨l,el,hl⟩:=zPr codes;have hlo:=hl.ok;have hll:=kM hlo;obtain ⟨⟨x,ok⟩,em,hok,st,hv,ha,hr0,h3,h4,h5⟩:=zLj [] ac ha1 ha3 hlo;simp only at hok hv h3 h4 h5;subst hok;subst ha;have hn:=hv.n;unfold eH;refine bd zQh (cf rfl ?_);refine bd ea (bd el (bd em (cf rfl ?_)));rcases Bool.eq_false_or_eq_true (vS .i64 ch 1==1) with hch | hch
 ·
  have hcl:(b.take 300).length<=300:=by simp;omega
  have hv1:=hv.set (a:=5) (y:=[u8 ((1:Nat):Int)]) (by decide) (by decide) (by simp) (by decide);have hv2:=hv1.set (a:=4) (y:=b.take 300) (by decide) (by decide) (by omega) (by decide);have hA5:(jF (jF x 5 [u8 ((1:Nat):Int)]) 4 (b.take 300)).Disk.Areas.getD 5 []=[u8 ((1:Nat):Int)]:=(getD_set_ne (by decide)).trans (wY (by omega));have hsl:pY (jF (jF x 5 [u8 ((1:Nat):Int)]) 4 (b.take 300))=1:=by unfold pY;rw [hA5];rfl
  have hA4:(jF (jF x 5 [u8 ((1:Nat):Int)]) 4 (b.take 300)).Disk.Areas.getD 4 []=b.take 300:=wY (by rw [hv1.n];decide);refine bd (a:=Sum.inr (jF (jF x 5 [u8 ((1:Nat):Int)]) 4 (b.take 300))) (ct hch ?_) ?_
  ·refine bd (hv.choose (s:=1) (by decide)) (cf rfl ?_);refine bd (zQj b 300 (by decide)) ?_;exact bd (hv1.dwrite (a:=4) _ (by decide) (by omega)) (cf rfl rfl)
  ·refine zH3 (ch:=ch) hv2 hr0 (by decide) (by rw [hsl,hA4];omega) (λmm _ _ hf=>?_);rw [hch] at hf;cases hf
 ·
  have hsl0:=dI l;obtain ⟨k',ek,hk0,hk1⟩:=zN8 at' ((wS l).length:Int) (by omega) (by omega);obtain ⟨k,rfl⟩:=Int.eq_ofNat_of_zero_le hk0;have hk:k<(wS l).length:=by omega
  obtain ⟨y,hy,hyne⟩:∃ y,(bif (((wS l)[k].toNat:Int)==(by'.toNat:Int)) then (some (u8 (wN .u8 (by'.toNat:Int) 1))) else some by':Option UInt8)=some y/\y≠(wS l)[k]:=by
   by_cases he:(wS l)[k]=by'
   ·refine ⟨_,ct (by rw [he];simp) rfl,?_⟩;have:=zTz by'.toNat by'.toNat_lt;rw [he];simpa using this
   ·refine ⟨_,cf ?_ rfl,λh=>he h.symm⟩;have:(wS l)[k].toNat≠by'.toNat:=λh=>he (by rw [<- Q5];exact h);simp;omega
  have hcl:((wS l).set k y).length=(wS l).length:=Qi;have hv1:=hv.set (a:=3) (y:=(wS l).set k y) (by decide) (by decide) (by omega) (by decide);have hA5:(jF x 3 ((wS l).set k y)).Disk.Areas.getD 5 []=[0]:=(getD_set_ne (by decide)).trans h5;have hsl:pY (jF x 3 ((wS l).set k y))=0:=by unfold pY;rw [hA5];rfl
  have hA3:(jF x 3 ((wS l).set k y)).Disk.Areas.getD 3 []=(wS l).set k y:=wY (by omega);have hne:(wS l).set k y≠wS l:=λh=>by
   have h1:((wS l).set k y)[k]'(by omega)=y:=List.getElem_set_self (by omega);apply hyne;rw [<- h1];congr 1
  refine bd (a:=Sum.inr (jF x 3 ((wS l).set k y))) (cf hch ?_) ?_
  ·have hrd:uY x.Disk 3=some (wS l,0):=by rw [<- h3];exact hv.read (a:=3) (by decide)
   refine bd hrd ?_;refine bd (a:=false) (cf rfl (congrArg some (by rw [beq_eq_false_iff_ne];omega))) (cf rfl ?_);refine bd (a:=wS l) (yI (by simp;omega)) ?_;refine bd ek ?_;refine bd (a:=y) (bd (vY hk) (bd (a:=(wS l)[k]) (List.getElem?_eq_getElem hk) hy)) ?_;refine bd (vY hk) ?_;refine bd (a:=(wS l).set k y) (by simp [uX,hk]) ?_;exact bd (hv.dwrite (a:=3) _ (by decide) (by omega)) (cf rfl rfl)
  ·refine zH3 (ch:=ch) hv1 hr0 (by decide) (by rw [hsl,hA3];omega) (λmm hmo hcs _=>?_);rw [hsl,hA3] at hcs;have hnm:mm≠l:=λh=>hne (by rw [hcs,h]);obtain ⟨r,er,hrc⟩:=coll hmo hlo;have hd0:∀ z,(wS z).drop 32=tN z:=λz=>by unfold wS;rw [Q6 (by rw [kU];omega),Qe (by rw [kU];omega),Q2]
   have ht0:∀ z,(wS z).take 32=hs 20 [tN z]:=λz=>by unfold wS;rw [Q7 (by rw [kU];omega),Q0 (by rw [kU];omega)]
   by_cases h32:k<32
   ·have:=congrArg (List.drop 32) hcs;rw [List.drop_set_of_lt h32,hd0,hd0] at this;exact absurd (zLh hmo hlo this.symm) hnm
   ·have:=congrArg (List.take 32) hcs;rw [List.take_set_of_le (by omega),ht0,ht0] at this;rcases hrc this.symm with rfl | h
    ·exact er
    ·exact absurd h hnm
end Go.Proofs.TT
