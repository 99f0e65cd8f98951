/- A part of the proof of what an interrupted installation leaves. -/
import Derived.Test.YtmfjfpfolbnogaaGreatDoorIZ13
set_option linter.all false
namespace Go.Proofs.TT
open Go Go.Sw
set_option maxRecDepth 100000
variable {a b:List zB}{c:Bool}{d:zD}{es:List zC}{k:Nat}{l:List zB}{m:Nat}{r:RS}{s seq:Nat}{st:zS}{vo:yE}{α:Type}{x y:Option α}
theorem zP1:∀ n:Nat,n<256->beN (n:Int) 1 1=[u8 (n:Int)]:=by decide +kernel
theorem zTk {a:Int} (h0:0<=a) (h:a<256):beN a 1 1=[u8 a]:=by
 obtain ⟨n,rfl⟩:=Int.eq_ofNat_of_zero_le h0;exact zP1 n (by omega)
theorem zUk (a r:Int) (h1:1<=a) (h3:a<=3) (h0:0<=r) (hr:r<=1099511627776):vK a r=some (zAq a r):=by
 unfold vK;refine bd (a:=false) (cf (by simp;omega) (cf (by simp;omega) (cf (by simp;omega) (congrArg some (by simp;omega))))) ?_;refine cf rfl ?_;refine bd (wU _ 1 a (by omega) (by omega) (by simp)) ?_;refine bd (wU _ 6 r (by omega) (by omega) (by simp [yY])) ?_;rw [zTk (by omega) (by omega)];rfl
theorem zNf (e:zC) (active:Int) (h:EvC e active):kO e=some (nY e):=by
 have q0:=gU h.f0;have q1:=gU h.f1;have hd:=h.d;have hl:=h.l;have r0:=h.r0;have r1:=h.r1;have k1:=h.k1;have k5:=h.k5;obtain ⟨reg,kind,dg,data⟩:=e
 match dg,hl with
 | [x,y],_=>
 simp only at q0 q1 hd r0 r1 k1 k5;have q0:x.length<=32:=q0;have q1:y.length<=32:=q1;have hen:wW ⟨reg,kind,[x,y],data⟩=some true:=by
  unfold wW;refine bd (a:=false) (cf (decide_eq_false (by simp only;omega)) (cf (decide_eq_false (by simp only;omega)) (cf (decide_eq_false (by simp only;omega)) (cf (decide_eq_false (by simp only;omega)) (cf rfl (congrArg some (decide_eq_false (by simp only;omega)))))))) ?_;refine cf rfl ?_;refine bd (a:=.inr ()) (yK 2 (λi=>(i:Int)) rfl ?_ ?_ (xW (by omega))) rfl
  ·intro i hi;unfold vO;rcases (show i=0∨i=1 by omega) with rfl | rfl
   ·exact ct rfl (bd (a:=x) rfl (bd (a:=32) rfl (cf (decide_eq_false (by omega)) rfl)))
   ·exact ct rfl (bd (a:=y) rfl (bd (a:=32) rfl (cf (decide_eq_false (by omega)) rfl)))
  ·unfold vO;exact cf rfl rfl
 unfold kO;refine bd hen (cf rfl ?_);refine bd (wU [] 1 reg (by omega) (by omega) (by simp)) ?_;refine bd (wU _ 1 kind (by omega) (by omega) (by simp [yY])) ?_;rw [zTk (by omega) (by omega),zTk (by omega) (by omega)];refine bd (a:=([u8 reg,u8 kind]++bl x)++bl y) (yK 2 (λi=>(if i=0 then [u8 reg,u8 kind] else if i=1 then [u8 reg,u8 kind]++bl x else ([u8 reg,u8 kind]++bl x)++bl y,(i:Int))) rfl ?_ ?_ (xW (by omega))) ?_
 ·intro i hi;unfold kC;rcases (show i=0∨i=1 by omega) with rfl | rfl
  ·exact ct rfl (bd (a:=x) rfl (bd (wB _ x (by simp) (by omega)) rfl))
  ·exact ct rfl (bd (a:=y) rfl (bd (wB _ y (by simp [uY];omega) (by omega)) rfl))
 ·unfold kC;exact cf rfl rfl
 refine bd (wB _ data (by simp [uY];omega) (by omega)) ?_;show some _=some _;unfold nY bl;simp
theorem zP6 (active:Int) (es:List zC) (e:zC) (hk:e.Kind≠5):rpl active (es++[e])=ext active e (rpl active es):=by
 unfold rpl;rw [List.foldl_append];simp [hk]
theorem zNr (es:List zC) (e:zC):mD (es++[e])=mD es++bl (nY e):=by simp [mD,bl]
structure Mz (d:zD) (seq:Nat) (st:zS) (vo:yE) (m:Nat) (es:List zC):Prop extends Dv d seq st vo m where
 v1:vo.Started=true
 v2:vo.Registers=rpl st.Active es
 lg:d.Disk.Areas.getD 2 []=zAq st.Active st.Resets++mD es
section
theorem Mz.step (h:Mz d seq st vo m es) {x:zC} (hx:EvC x st.Active) (hk:x.Kind≠5) (hs:es.length<=40) (he:∀ e∈es,EvC e st.Active) (hm:m+1<2 ^ 50) :
  ∃ d' vo',kM (yD.mk d []) x=some (0,yD.mk d' [])/\Mz d' seq st vo' (m+1) (es++[x])/\∀ a,3<=a->d'.Disk.Areas.getD a []=d.Disk.Areas.getD a []:=by
 have hr:=zRb st vo x st.Active h.v1 (by rw [h.v2];exact zVb _ _ h.sst.a0 h.sst.a3) hx.toEvGood hk;have h1:=h.toDv.send_same hr;have hv:=h.toDv.vol (vo':=zMz (ext st.Active x vo.Registers) vo);have hd:=zQa (rqE hx.toEvGood) h1 rsd0 rfl (by decide) (yD.mk d []) rfl;have hb:=zCb hx.toEvGood;have hf:=zE3 es he;have hap:=hv.append (a:=2) (bl (nY x)) (by decide) (by rw [uY];omega);have hy:(d.Disk.Areas.getD 2 []++bl (nY x)).length<2 ^ 39:=by rw [List.length_append,h.lg,List.length_append,dZ,uY];omega
 refine ⟨aI ⟨d.Disk,⟨st,zMz (ext st.Active x vo.Registers) vo⟩,d.On,d.Next⟩ 2 (d.Disk.Areas.getD 2 []++bl (nY x)),zMz (ext st.Active x vo.Registers) vo,?_,⟨hv.set (by decide) (by decide) hy hm,h.v1,?_,?_⟩,λa ha=>getD_set_ne (by omega)⟩
 ·unfold kM;refine bd hd ?_;refine bd (a:=(0,yD.mk (aI ⟨d.Disk,⟨st,zMz (ext st.Active x vo.Registers) vo⟩,d.On,d.Next⟩ 2 (d.Disk.Areas.getD 2 []++bl (nY x))) [])) ?_ rfl;refine ct rfl ?_;refine bd (zNf x st.Active hx) ?_;refine bd (wB [] _ (by simp) (by omega)) ?_;rw [List.nil_append];refine bd hap ?_;rfl
 ·show ext st.Active x vo.Registers=_;rw [zP6 _ _ _ hk,h.v2]
 ·show (d.Disk.Areas.set 2 _).getD 2 []=_;rw [vC (by have:=h.n;omega),h.lg,zNr,List.append_assoc]
end
set_option maxRecDepth 100000
theorem db {β:Type} {o:Option α} {a:α} {f:α->Option β} {Q:β->Prop} (h:o=some a) (k:Def (f a) Q):Def (o.bind f) Q:=by subst h;exact k
theorem dct {Q:α->Prop} (h:c=true) (k:Def x Q):Def (bif c then x else y) Q:=by subst h;exact k
theorem dcf {Q:α->Prop} (h:c=false) (k:Def y Q):Def (bif c then x else y) Q:=by subst h;exact k
theorem zDx (l:By):∀ k,k<=8->∃ n:Nat,beV l k=(n:Int)/\n<256 ^ k/\∀ j,j<k->n / 256 ^ (k - (j+1)) % 256=(l.getD j 0).toNat
 | 0,_=>⟨0,rfl,by decide,λj h=>absurd h (Nat.not_lt_zero j)⟩
 | k+1,hk=>by
  obtain ⟨n,e,hn,hj⟩:=zDx l k (by omega);have hb:=(l.getD k 0).toNat_lt;have hp:256 ^ k<=256 ^ 7:=Nat.pow_le_pow_right (by decide) (by omega);have h56:(256:Nat) ^ 7=2 ^ 56:=by decide
  refine ⟨n*256+(l.getD k 0).toNat,?_,?_,λj hj'=>?_⟩
  ·unfold beV;rw [e];exact zFc n _ (by omega) (by omega)
  ·rw [Nat.pow_succ];omega
  ·by_cases h:j=k
   ·subst h;rw [Nat.sub_self,Nat.pow_zero,Nat.div_one];omega
   ·rw [show k+1 - (j+1)=(k - (j+1))+1 by omega,Nat.pow_succ,Nat.mul_comm (256 ^ (k - (j+1))) 256,<- Nat.div_div_eq_div_mul,show (n*256+(l.getD k 0).toNat) / 256=n by omega];exact hj j (by omega)
theorem zRn {l:By} {n:Nat} (h8:k<=8) (hl:l.length=k) (e:beV l k=(n:Int)):beN (n:Int) k k=l:=by
 obtain ⟨m,e',hm,hj⟩:=zDx l k h8;have hp:256 ^ k<=256 ^ 8:=Nat.pow_le_pow_right (by decide) (by omega);have h64:(256:Nat) ^ 8=2 ^ 64:=by decide
 have hmn:m=n:=by rw [e] at e';omega
 subst hmn;refine List.ext_getElem (by rw [yY,hl]) λj h1 h2=>?_;have g1:(beN (m:Int) k k)[j]=(beN (m:Int) k k).getD j 0:=by simp [h1]
 have g2:l[j]=l.getD j 0:=by simp [h2]
 rw [g1,g2];apply UInt8.toNat_inj.1;rw [zDu m k j (by omega) (by omega) h8,hj j (by omega)]
theorem zHo (h8:k<=8) (he:(wV r k).2.e=0):∃ n:Int,wV r k=(n,r.to k)/\r.e=0/\0<=n/\r.b.take (r.at'+k)=r.b.take r.at'++beN n k k:=by
 unfold wV at he ⊢;by_cases h1:r.e≠0
 ·rw [if_pos h1] at he;exact absurd he h1
 rw [if_neg h1] at he ⊢;by_cases h2:r.left<k
 ·rw [if_pos h2] at he;exact absurd (show (2:Int)=0 from he) (by decide)
 rw [if_neg h2] at he ⊢;by_cases h3:9223372036854775808<=beV (r.get k) k
 ·rw [if_pos h3] at he;exact absurd (show (4:Int)=0 from he) (by decide)
 rw [if_neg h3];obtain ⟨n,e,hn,hj⟩:=zDx (r.get k) k h8;have hlen:=r.get_len k (by omega);refine ⟨n,?_,by omega,by omega,?_⟩
 ·rw [yN (by omega) (by omega),e]
 ·rw [List.take_add,zRn h8 hlen e];rfl
theorem zTw {l:By} (h:2<=l.length):beN (((l.getD 0 0).toNat*256+(l.getD 1 0).toNat:Nat):Int) 2 2=l.take 2:=by
 match l,h with
 | a :: b :: l,_=>
  obtain ⟨x,y,e,h⟩:=be2 (a.toNat*256+b.toNat) (by have:=a.toNat_lt;have:=b.toNat_lt;omega);show beN ((a.toNat*256+b.toNat:Nat):Int) 2 2=[a,b];have:=a.toNat_lt;have:=b.toNat_lt;have:=x.toNat_lt;have:=y.toNat_lt;rw [e,UInt8.toNat_inj.1 (show x.toNat=a.toNat by omega),UInt8.toNat_inj.1 (show y.toNat=b.toNat by omega)]
theorem zHd (he:(vA r m).2.e=0):∃ x,vA r m=(x,r.to (2+x.length))/\r.e=0/\x.length<=m/\r.b.take (r.at'+(2+x.length))=r.b.take r.at'++bl x:=by
 unfold vA at he ⊢;by_cases h1:r.e≠0
 ·rw [if_pos h1] at he;exact absurd he h1
 rw [if_neg h1] at he ⊢;by_cases h2:r.left<2
 ·rw [if_pos h2] at he;exact absurd (show (2:Int)=0 from he) (by decide)
 rw [if_neg h2] at he ⊢;by_cases h3:m<v2 r
 ·rw [if_pos h3] at he;exact absurd (show (4:Int)=0 from he) (by decide)
 rw [if_neg h3] at he ⊢;by_cases h4:r.left<2+v2 r
 ·rw [if_pos h4] at he;exact absurd (show (2:Int)=0 from he) (by decide)
 rw [if_neg h4];unfold RS.left at h2 h4;have hx:((r.b.drop (r.at'+2)).take (v2 r)).length=v2 r:=by simp;omega
 refine ⟨(r.b.drop (r.at'+2)).take (v2 r),by rw [hx],by omega,by omega,?_⟩;rw [hx,List.take_add,List.take_add,List.drop_drop];unfold bl;rw [hx];have hv:=zTw (l:=r.b.drop r.at') (by simp;omega);have e0:(r.b.drop r.at').getD 0 0=r.b.getD r.at' 0:=by simp [List.getD_eq_getElem?_getD,List.getElem?_drop]
 have e1:(r.b.drop r.at').getD 1 0=r.b.getD (r.at'+1) 0:=by simp [List.getD_eq_getElem?_getD,List.getElem?_drop]
 rw [e0,e1] at hv;show _=r.b.take r.at'++(beN ((v2 r:Nat):Int) 2 2++_);unfold v2;rw [hv]
theorem zP0 (h:r.Ok) (he:zAc r=0):r.e=0/\r.b.take r.at'=r.b:=by
 unfold zAc at he;by_cases h1:r.e=0/\0<r.left
 ·rw [if_pos h1] at he;exact absurd he (by decide)
 ·rw [if_neg h1] at he;have h2:=h.1;refine ⟨he,List.take_of_length_le ?_⟩;by_cases h3:0<r.left
  ·exact absurd ⟨he,h3⟩ h1
  ·unfold RS.left at h3;omega
theorem zN1 (b:By) (hb:b.length<2 ^ 40):Def (qX b) (λr=>(r.2=0∨r.2=30)/\(r.2=0->gR r.1/\b=qD r.1)):=by
 unfold qX;have ok0:RS.Ok ⟨b,0,0⟩:=⟨Nat.zero_le _,hb⟩;refine db (zM8 b hb) ?_;refine db (vU _ 1 ok0 (by decide) (by decide)) ?_;have ok1:=eA ⟨b,0,0⟩ 1 ok0;generalize h1:wV ⟨b,0,0⟩ 1=p1 at ok1;refine db (vU p1.2 4 ok1 (by decide) (by decide)) ?_;have ok2:=eA p1.2 4 ok1;generalize h2:wV p1.2 4=p2 at ok2;refine db (uO p2.2 12 ok2) ?_;have ok3:=aE p2.2 12 ok2;generalize h3:vA p2.2 12=p3 at ok3;refine db (uO p3.2 64 ok3) ?_;have ok4:=aE p3.2 64 ok3;generalize h4:vA p3.2 64=p4 at ok4;obtain ⟨c,hc,hc0,_⟩:=bZ (zB.mk p1.1 p3.1 p2.1 p4.1);have hc':=(jP (zB.mk p1.1 p3.1 p2.1 p4.1)).trans hc;by_cases he:zAc p4.2=0
 ·by_cases hz:c=0
  ·refine db (a:=false) (bd (sR p4.2 ok4) (cf (b0 he) (bd hc' (congrArg some (b0 hz))))) (dcf rfl ⟨_,rfl,.inl rfl,λ_=>?_⟩);have hok:gR (zB.mk p1.1 p3.1 p2.1 p4.1):=hc.trans (congrArg some hz);refine ⟨hok,?_⟩;obtain ⟨e4,t4⟩:=zP0 ok4 he;obtain ⟨x4,q4,e3,l4,s4⟩:=zHd (r:=p3.2) (m:=64) (by rw [h4];exact e4);obtain ⟨x3,q3,e2,l3,s3⟩:=zHd (r:=p2.2) (m:=12) (by rw [h3];exact e3);obtain ⟨n2,q2,e1,g2,s2⟩:=zHo (r:=p1.2) (k:=4) (by decide) (by rw [h2];exact e2);obtain ⟨n1,q1,e0,g1,s1⟩:=zHo (r:=⟨b,0,0⟩) (k:=1) (by decide) (by rw [h1];exact e1);rw [h4] at q4;rw [h3] at q3;rw [h2] at q2;rw [h1] at q1;subst q1;subst q2;subst q3;subst q4;obtain ⟨_,_,_,_,_,_⟩:=hok.f;rw [zH6 _ (by show x3.length<=65535;omega) (by show x4.length<=65535;omega)];show b=beN n1 1 1++(beN n2 4 4++(bl x3++(bl x4++[])));have t4':b.take (0+1+4+(2+x3.length)+(2+x4.length))=b:=t4;have s4':b.take (0+1+4+(2+x3.length)+(2+x4.length))=b.take (0+1+4+(2+x3.length))++bl x4:=s4;have s3':b.take (0+1+4+(2+x3.length))=b.take (0+1+4)++bl x3:=s3;have s2':b.take (0+1+4)=b.take (0+1)++beN n2 4 4:=s2;have s1':b.take (0+1)=b.take 0++beN n1 1 1:=s1;rw [s4',s3',s2',s1',List.take_zero,List.nil_append] at t4';rw [List.append_nil,<- List.append_assoc,<- List.append_assoc];exact t4'.symm
  ·refine db (a:=true) (bd (sR p4.2 ok4) (cf (b0 he) (bd hc' (congrArg some (b1 hz))))) (dct rfl ⟨_,rfl,.inr rfl,λh=>absurd (show (30:Int)=0 from h) (by decide)⟩)
 ·refine db (a:=true) (bd (sR p4.2 ok4) (ct (b1 he) rfl)) (dct rfl ⟨_,rfl,.inr rfl,λh=>absurd (show (30:Int)=0 from h) (by decide)⟩)
set_option maxRecDepth 100000
theorem zFu (r:RS):xG r.W=some (r.e,r.W):=rfl
def DcI (b:By) (N:Int) (s:List zB×Int×By×Int×Int):Prop:=
 ∃ (l:List zB) (r:RS),r.Ok/\r.b=b/\s=(l,N - l.length,r.W.b_,r.W.at_,r.W.e_)/\(l.length:Int)<=N/\(∀ x∈l,gR x)/\(r.e=0->b.take r.at'=beN N 1 1++l.flatMap λx=>bl (qD x))
theorem zM3 (b:By) (hb:b.length<2 ^ 30):Def (wQ b) (λr=>(r.2=0∨r.2=30/\r.1=[])/\(r.2=0->kX r.1/\b=uD r.1)):=by
 unfold wQ;have ok0:RS.Ok ⟨b,0,0⟩:=⟨Nat.zero_le _,by show b.length<_;omega⟩;refine db (zM8 b (by omega)) ?_;refine db (vU _ 1 ok0 (by decide) (by decide)) ?_;have ok1:=eA ⟨b,0,0⟩ 1 ok0;have hN:0<=(wV ⟨b,0,0⟩ 1).1/\(wV ⟨b,0,0⟩ 1).1<256:=by
  unfold wV;split
  ·exact ⟨Int.le_refl 0,show (0:Int)<256 by decide⟩
  split
  ·exact ⟨Int.le_refl 0,show (0:Int)<256 by decide⟩
  split
  ·exact ⟨Int.le_refl 0,show (0:Int)<256 by decide⟩
  ·obtain ⟨n,e,hn,_⟩:=zDx (RS.get ⟨b,0,0⟩ 1) 1 (by decide);rw [e];have hn:n<256:=hn;show 0<=IntKind.i64.wrap (n:Int)/\IntKind.i64.wrap (n:Int)<256;rw [yN (by omega) (by omega)];omega
 have hb1:(wV ⟨b,0,0⟩ 1).2.b=b:=by unfold wV;split<;>(try split)<;>(try split)<;>rfl
 have hi:(wV ⟨b,0,0⟩ 1).2.e=0->b.take (wV ⟨b,0,0⟩ 1).2.at'=beN (wV ⟨b,0,0⟩ 1).1 1 1:=by
  intro he;obtain ⟨n,q,_,_,s⟩:=zHo (r:=⟨b,0,0⟩) (k:=1) (by decide) he;rw [q];have s:b.take (0+1)=b.take 0++beN n 1 1:=s;rw [List.take_zero,List.nil_append] at s;exact s
 generalize wV ⟨b,0,0⟩ 1=p at ok1 hN hb1 hi;obtain ⟨N,r⟩:=p;show Def ((zN (xR b) FU ([],N,r.W.b_,r.W.at_,r.W.e_)).bind _) _;refine Def.bd (P:=λz=>z=.inl ([],30)∨∃ s,z=.inr s/\∃ (l:List zB) (r:RS),r.Ok/\r.b=b/\s=(l,r.W.b_,r.W.at_,r.W.e_)/\(l.length:Int)<=N/\(∀ x∈l,gR x)/\(r.e=0->(l.length:Int)=N/\b.take r.at'=beN N 1 1++l.flatMap λx=>bl (qD x))) ?_ ?_
 ·refine Def.loop (DcI b N) (λs=>s.2.1.toNat) ?_ ⟨[],r,ok1,hb1,by simp,by simpa using hN.1,by simp,λh=>by simpa using hi h⟩ (by simp only;omega);rintro _ ⟨l,r,ok,hrb,rfl,hl,him,hc⟩;unfold xR;simp only at hN;by_cases h0:N - l.length=0
  ·refine db (a:=(false,r.W.b_,r.W.at_,r.W.e_)) (cf (decide_eq_false (by omega)) rfl) (dcf rfl ⟨_,rfl,.inr ⟨_,rfl,l,r,ok,hrb,rfl,hl,him,λh=>⟨by omega,hc h⟩⟩⟩)
  by_cases he:r.e=0
  ·refine db (a:=(true,r.W.b_,r.W.at_,r.W.e_)) (ct (decide_eq_true (by omega)) (bd (zFu r) (by rw [he];rfl))) (dct rfl ?_);refine db (uO r b.length ok) ?_;have ok':=aE r b.length ok;have hrb':=zQd r b.length;have hrl:=zOd r b.length;have hcs:(vA r b.length).2.e=0->b.take (vA r b.length).2.at'=b.take r.at'++bl (vA r b.length).1:=by
    intro h;obtain ⟨x,q,_,_,s⟩:=zHd (r:=r) (m:=b.length) h;rw [q];rw [hrb] at s;exact s
   generalize vA r b.length=p at ok' hrb' hrl hcs;refine Def.bd (zN1 p.1 (by rw [hrb] at hrl;omega)) λy hy=>?_;by_cases hy0:y.2=0
   ·obtain ⟨iy,ey⟩:=hy.2 hy0;refine dcf (b0 hy0) (db (yJ (by simp;omega)) ⟨_,rfl,⟨l++[y.1],p.2,ok',hrb'.trans hrb,?_,?_,?_,?_⟩,?_⟩)
    ·rw [yN (by omega) (by omega)];simp;omega
    ·simp;omega
    ·intro x hx;rcases List.mem_append.1 hx with hx | hx
     ·exact him x hx
     ·rw [List.mem_singleton.1 hx];exact iy
    ·intro h;rw [hcs h,hc he,List.flatMap_append,List.flatMap_singleton,List.append_assoc,ey]
    ·simp only;rw [yN (by omega) (by omega)];omega
   ·exact dct (b1 hy0) ⟨_,rfl,.inl rfl⟩
  ·refine db (a:=(false,r.W.b_,r.W.at_,r.W.e_)) (ct (decide_eq_true (by omega)) (bd (zFu r) (by simp [c1 he]))) (dcf rfl ⟨_,rfl,.inr ⟨_,rfl,l,r,ok,hrb,rfl,hl,him,λh=>absurd h he⟩⟩)
 ·rintro z (rfl | ⟨s,rfl,l,r,ok,hrb,rfl,hlN,him,hc⟩)
  ·exact ⟨_,rfl,.inr ⟨rfl,rfl⟩,λh=>absurd (show (30:Int)=0 from h) (by decide)⟩
  obtain ⟨c,hch,hcp,hc0,hc1⟩:=zGi l (by simp only at hN;omega);by_cases he:zAc r=0
  ·obtain ⟨e0,t⟩:=zP0 ok he;by_cases hz:c=0
   ·refine db (a:=false) (bd (sR r ok) (cf (b0 he) (bd hcp (congrArg some (b0 hz))))) (dcf rfl ⟨_,rfl,.inl rfl,λ_=>?_⟩);subst hz;obtain ⟨hl,ht⟩:=hc e0;refine ⟨chOk (show l.length<2 ^ 40 by simp only at hN;omega) hch,?_⟩;unfold uD;rw [hrb,ht] at t;rw [hl];exact t.symm
   ·exact db (a:=true) (bd (sR r ok) (cf (b0 he) (bd hcp (congrArg some (b1 hz))))) (dct rfl ⟨_,rfl,.inr ⟨rfl,rfl⟩,λh=>absurd (show (30:Int)=0 from h) (by decide)⟩)
  ·exact db (a:=true) (bd (sR r ok) (ct (b1 he) rfl)) (dct rfl ⟨_,rfl,.inr ⟨rfl,rfl⟩,λh=>absurd (show (30:Int)=0 from h) (by decide)⟩)
set_option maxRecDepth 100000
def wR (l:List zB):By:=hs 20 [uD l]++uD l
theorem pH (l:List zB):(wR l).length=32+(uD l).length:=by simp [wR,lU]
theorem zKh (h:s<2):(bif ((s:Int) != 0) then (some ((s:Int) != 1)) else some false:Option Bool)=some false:=by
 rcases (show s=0∨s=1 by omega) with rfl | rfl<;>rfl
theorem zSp (h:s<2):IntKind.i64.wrap (3+(s:Int))=((3+s:Nat):Int):=by rw [yN (by omega) (by omega)];omega
theorem zC6 (d:zD) (hs':s<2) (hc:kX l) {r:zD×Int} (hw:tX d ((3+s:Nat):Int) (wR l)=some r):sZ d (s:Int) l=some r:=by
 have hl:=qQ hc;unfold sZ;refine bd (zKh hs') (cf rfl ?_);refine bd hc.p (cf rfl ?_);refine bd (yAo hc) ?_;refine bd (zE6 20 [uD l] (by simp [tot];omega)) ?_;refine bd (yJ (by rw [lU];omega)) ?_;rw [zSp hs'];exact bd hw rfl
section
theorem Dv.install (h:Dv d seq st vo m) (hs':s<2) (hc:kX l):sZ d (s:Int) l=some (aI d (3+s) (wR l),0):=by
 have hl:=qQ hc;exact zC6 d hs' hc (h.write _ (by omega) (by rw [pH];omega))
theorem zKi (d:zD) (hs':s<2) {r:zD×Int} (hw:tX d 5 [u8 (s:Int)]=some r):lE d (s:Int)=some r:=by
 unfold lE;refine bd (zKh hs') (cf rfl ?_);exact bd hw rfl
theorem Dv.choose (h:Dv d seq st vo m) (hs':s<2):lE d (s:Int)=some (aI d 5 [u8 (s:Int)],0):=
 zKi d hs' (h.write (a:=5) [u8 (s:Int)] (by decide) (by simp))
theorem zNp (d:zD) (ho:d.Disk.Off=false) (ha:5<d.Disk.Areas.length) (hold:(d.Disk.Areas.getD 5 []).length<2 ^ 40):oM d=some (if d.Disk.Areas.getD 5 []=[1] then 1 else 0):=by
 have hr:sL d.Disk 5=some (d.Disk.Areas.getD 5 [],0):=zBo d.Disk 5 ho ha hold;unfold oM;refine bd hr ?_;refine bd (a:=d.Disk.Areas.getD 5 []==[1]) (ct rfl (bd (zI9 _ _) rfl)) ?_;by_cases h:d.Disk.Areas.getD 5 []=[1]
 ·rw [if_pos h];exact ct (by rw [h];rfl) rfl
 ·rw [if_neg h];exact cf (by simpa using h) rfl
def eW (c:By):Option (List zB×Int):=if 32<=c.length/\c.take 32=hs 20 [c.drop 32] then wQ (c.drop 32) else some ([],30)
theorem zD9 (d:zD) (hs':s<2) (ho:d.Disk.Off=false) (ha:3+s<d.Disk.Areas.length) (hold:(d.Disk.Areas.getD (3+s) []).length<2 ^ 30):sU d (s:Int)=eW (d.Disk.Areas.getD (3+s) []):=by
 have hr:sL d.Disk (IntKind.i64.wrap (3+(s:Int)))=some (d.Disk.Areas.getD (3+s) [],0):=by rw [zSp hs'];exact zBo d.Disk (3+s) ho ha (by omega)
 unfold sU;refine bd (zKh hs') (cf rfl ?_);refine bd hr (cf rfl ?_);generalize d.Disk.Areas.getD (3+s) []=c at hold;unfold eW;by_cases h32:32<=c.length
 ·have h1:sub c 0 32=some (c.take 32):=tJ (a:=0) (b:=32) (by decide) h32;have h2:sub c 32 c.length=some (c.drop 32):=by
   have:=tJ (l:=c) (a:=32) (b:=c.length) h32 (Nat.le_refl _);rw [List.take_of_length_le (by rw [List.length_drop];omega)] at this;exact this
  refine bd (a:=!(c.take 32==hs 20 [c.drop 32])) (cf (decide_eq_false (by omega)) (bd h1 (bd h2 (bd (zE6 20 [c.drop 32] (by simp [tot];omega)) (bd (zI9 _ _) rfl))))) ?_;by_cases he:c.take 32=hs 20 [c.drop 32]
  ·rw [if_pos ⟨h32,he⟩];refine cf (by simp [he]) ?_;refine bd h2 ?_;cases wQ (c.drop 32)<;>rfl
  ·rw [if_neg (λh=>he h.2)];exact ct (by simp [he]) rfl
 ·rw [if_neg (λh=>h32 h.1)];exact bd (a:=true) (ct (decide_eq_true (by omega)) rfl) (ct rfl rfl)
theorem zC3 (hc:kX l):eW (wR l)=some (l,0):=by
 have hd:(wR l).drop 32=uD l:=by unfold wR;rw [List.drop_append_of_le_length (by rw [lU];omega),List.drop_of_length_le (by rw [lU];omega),List.nil_append]
 have ht:(wR l).take 32=hs 20 [uD l]:=by unfold wR;rw [List.take_append_of_le_length (by rw [lU];omega),List.take_of_length_le (by rw [lU];omega)]
 unfold eW;rw [if_pos ⟨by rw [pH];omega,by rw [ht,hd]⟩,hd];exact zPk hc
theorem zJ9:eW []=some ([],30):=by
 unfold eW;rw [if_neg (λh=>by have:=h.1;simp at this)]
theorem zK3 (c:By) (hb:c.length<2 ^ 30):Def (eW c) (λr=>(r.2=0∨r.2=30/\r.1=[])/\(r.2=0->kX r.1/\c=wR r.1/\c.drop 32=uD r.1/\c.take 32=hs 20 [uD r.1])):=by
 unfold eW;by_cases h:32<=c.length/\c.take 32=hs 20 [c.drop 32]
 ·rw [if_pos h];refine (zM3 (c.drop 32) (by rw [List.length_drop];omega)).mono λr hr=>⟨hr.1,λh0=>?_⟩;obtain ⟨a,b⟩:=hr.2 h0;have ht:=h.2;rw [b] at ht;refine ⟨a,?_,b,ht⟩;unfold wR;rw [<- ht,<- b,List.take_append_drop]
 ·rw [if_neg h];exact Def.s ⟨.inr ⟨rfl,rfl⟩,λh=>absurd (show (30:Int)=0 from h) (by decide)⟩
theorem zOj (b:By):Def (aB b) (λr=>r.length=32):=by
 unfold aB;refine Def.bd (Def.mkN (by decide) (by decide)) (λn hn=>?_);refine Def.bd (Def.ck (by simp)) (λ_ _=>?_);refine Def.lt ?_;refine Def.bd (Def.ck (by rw [zHj];simp)) (λ_ _=>?_);exact Def.bd (Def.ck (zEo (by
                 have e:(32:Int).toNat=32:=rfl;omega))) (λ_ _=>Def.s (by rw [zHj,List.length_replicate,hn];rfl))
theorem zGz (e:By) (active:Int) (he:e.length=32) (h1:1<=active) (h3:active<=3):Def (oQ 8 e active) (λr=>r.2=0/\(∃ d0,r.1=zDn d0)/\∃ st,tB r.1=some (onD r.1 1 st,0)/\(∀ m,m<2 ^ 50->Dv (onD r.1 1 st) 1 st zOu m)/\st.Active=active/\st.Resets=0/\∀ a,2<=a->r.1.Disk.Areas.getD a []=[]):=by
 refine (zJ2 e active he h1 h3).mono λr hr=>?_;obtain ⟨h0,⟨d0,hd⟩,st,hk,ha,hr0,hz⟩:=hr;refine ⟨h0,⟨d0,hd⟩,st,zFb r.1 1 st (.inl (by rw [hd];rfl)) hk.n hk.al hk.jr hk.sst,λm hm=>Dv.of_on hk.n hk.al hk.jr hk.sst m hm,ha,hr0,hz⟩
theorem zJ4 (en:By) (active:Int) (h1:1<=active) (h3:active<=3) (hc:kX l):Def (iD en active l) (λr=>r.2=true/\∃ st,Dv r.1 1 st zOu 2/\st.Active=active/\st.Resets=0/\r.1.Disk.Areas.getD 3 []=wR l/\r.1.Disk.Areas.getD 4 []=[]/\r.1.Disk.Areas.getD 5 []=[0]):=by
 have hl:=qQ hc;unfold iD;refine Def.bd (zOj en) (λe he=>?_);refine Def.bd (zGz e active he h1 h3) (λr hr=>?_);obtain ⟨x,c⟩:=r;obtain ⟨h0,⟨d0,rfl⟩,st,hp,hv,ha,hr0,hz⟩:=hr;simp only at h0 hp hv hz;subst h0;have hv0:=hv 0 (by decide);have hv1:=hv0.set (a:=3) (y:=wR l) (by decide) (by decide) (by rw [pH];omega) (by decide);have hv2:=hv1.set (a:=5) (y:=[u8 ((0:Nat):Int)]) (by decide) (by decide) (by simp) (by decide);refine db (a:=(onD (zDn d0) 1 st,0)) hp ?_;refine db (hv0.install (s:=0) (by decide) hc) ?_;refine db (hv1.choose (s:=0) (by decide)) ?_;refine db (a:=true) rfl ?_;have hn:=hv0.n;refine Def.s ⟨rfl,st,hv2,ha,hr0,?_,?_,?_⟩
 ·show (((onD (zDn d0) 1 st).Disk.Areas.set 3 (wR l)).set 5 _).getD 3 []=_;rw [getD_set_ne (by decide),vC (by omega)]
 ·show (((onD (zDn d0) 1 st).Disk.Areas.set 3 (wR l)).set 5 _).getD 4 []=_;rw [getD_set_ne (by decide),getD_set_ne (by decide)];exact hz 4 (by decide)
 ·show (((onD (zDn d0) 1 st).Disk.Areas.set 3 (wR l)).set 5 _).getD 5 []=_;rw [vC (by rw [List.length_set];omega)];rfl
end
set_option maxRecDepth 100000
theorem zO4 (es:List zC) (h40:es.length<=40) (hE:∀ e∈es,EvC e st.Active) (hK:∀ e∈es,e.Kind≠5) (n:Nat):∀ (i fuel:Nat) (d:zD) (vo:yE) (m:Nat),i+n=es.length->n<fuel->Mz d seq st vo m (es.take i)->m+n<2 ^ 50 ->
  ∃ d' vo',zN (qH es) fuel ((i:Int),0,yD.mk d [])=some (.inr (0,yD.mk d' []))/\Mz d' seq st vo' (m+n) es/\∀ a,3<=a->d'.Disk.Areas.getD a []=d.Disk.Areas.getD a []:=by
 induction n with
 | zero=>
  intro i fuel d vo m hi hf h _;obtain ⟨f,rfl⟩:∃ f,fuel=f+1:=⟨fuel - 1,by omega⟩;have hi:i=es.length:=by omega
  subst hi;rw [List.take_length] at h;refine ⟨d,vo,?_,h,λ_ _=>rfl⟩;have:qH es ((es.length:Int),0,yD.mk d [])=some (.inr (.inr (0,yD.mk d []))):=by
   unfold qH;exact cf (decide_eq_false (by omega)) rfl
  simp only [zN,this]
 | succ n ih=>
  intro i fuel d vo m hi hf h hm;obtain ⟨f,rfl⟩:∃ f,fuel=f+1:=⟨fuel - 1,by omega⟩;have hl:i<es.length:=by omega
  have hmem:es[i]∈es:=List.getElem_mem _;obtain ⟨d1,vo1,e1,h1,s1⟩:=h.step (hE _ hmem) (hK _ hmem) (by rw [List.length_take];omega) (λe he=>hE e (List.mem_of_mem_take he)) (by omega);rw [show es.take i++[es[i]]=es.take (i+1) from by rw [List.take_add_one];simp [hl]] at h1;obtain ⟨d2,vo2,e2,h2,s2⟩:=ih (i+1) f d1 vo1 (m+1) (by omega) (by omega) h1 (by omega);refine ⟨d2,vo2,?_,by rw [show m+(n+1)=m+1+n from by omega];exact h2,λa ha=>(s2 a ha).trans (s1 a ha)⟩;have:qH es ((i:Int),0,yD.mk d [])=some (.inl (((i+1:Nat):Int),0,yD.mk d1 [])):=by
   unfold qH;refine ct (decide_eq_true (by omega)) (bd (yR hl) (bd e1 (cf rfl ?_)));rw [yN (by omega) (by omega)];rfl
  simp only [zN,this];exact e2
section
theorem Dv.start (h:Dv d seq st vo m) (hs:vo.Started=false) (hp:vo.Stopped=false) (hR:st.Resets+1<2 ^ 30) (hq:seq+1<2 ^ 29) (hm:m+1<2 ^ 50):∃ d1 seq1,pB (yD.mk d []) (yA.mk 1 [] [] [0] [])=some (zM.mk 0 [] [] [],0,yD.mk d1 [])/\Dv d1 seq1 (stS st) (zPa st vo) (m+1)/\seq1<=seq+1/\∀ a,2<=a->d1.Disk.Areas.getD a []=d.Disk.Areas.getD a []:=by
 obtain ⟨d1,seq1,e,h1,h2,h3⟩:=h.send_new (h.sst.S hR) hq hm (zNw st vo h.sst hs hp);exact ⟨d1,seq1,zQa rqS e rsd0 rfl (by decide) (yD.mk d []) rfl,h1,h2,h3⟩
def jM (d:zD):Nat:=if d.Disk.Areas.getD 5 []=[1] then 1 else 0
theorem zOo (d:zD):jM d<2:=by unfold jM;split<;>omega
theorem Dv.chosen (h:Dv d seq st vo m):oM d=some (jM d:Int):=by
 rw [zNp d h.off (by rw [h.n];decide) (by have:=h.al 5;omega)];unfold jM;split<;>rfl
def zCw (active c:Int) (pe:List zC):List zC:=if c=0 then pe else [zSa active]
theorem Dv.run (h:Dv d seq st vo m) (hs:vo.Started=false) (hp:vo.Stopped=false) (hR:st.Resets+1<2 ^ 30) (hq:seq+1<2 ^ 29) (hm:m+60<2 ^ 50)
  {ch:List zB} {c:Int} {pe:List zC} (hsm:(d.Disk.Areas.getD (3+jM d) []).length<2 ^ 30) (hch:eW (d.Disk.Areas.getD (3+jM d) [])=some (ch,c)) (hpe:uX ch st.Active=some pe)
  (h40:pe.length<=40) (hE:∀ e∈pe,EvC e st.Active) (hK:∀ e∈pe,e.Kind≠5) :
  ∃ d' seq' vo' m',lF d=some (d',if c=0 then 0 else 50)/\Mz d' seq' (stS st) vo' m' (zCw st.Active c pe)/\seq'<=seq+1/\m'<=m+43/\∀ a,3<=a->d'.Disk.Areas.getD a []=d.Disk.Areas.getD a []:=by
 obtain ⟨d1,seq1,e1,h1,hq1,s1⟩:=h.start hs hp hR hq (by omega);have hr0:=h.sst.r0;have hw:=h1.write (a:=2) (zAq st.Active (st.Resets+1)) (by decide) (by rw [dZ];decide);have h2:=h1.set (a:=2) (y:=zAq st.Active (st.Resets+1)) (by decide) (by decide) (by rw [dZ];decide) (by omega);have hge:∀ a,3<=a->(aI d1 2 (zAq st.Active (st.Resets+1))).Disk.Areas.getD a []=d.Disk.Areas.getD a []:=λa ha=>(getD_set_ne (by omega)).trans (s1 a (by omega));have hn:jM (aI d1 2 (zAq st.Active (st.Resets+1)))=jM d:=by unfold jM;rw [hge 5 (by decide)]
 have hlt:=zOo d;have hco:oM (aI d1 2 (zAq st.Active (st.Resets+1)))=some (jM d:Int):=by rw [h2.chosen,hn]
 have hcc:sU (aI d1 2 (zAq st.Active (st.Resets+1))) (jM d:Int)=some (ch,c):=by
  rw [zD9 _ hlt h2.off (by rw [h2.n];omega) (by rw [hge _ (by omega)];exact hsm),hge _ (by omega),hch]
 have hz:Mz (aI d1 2 (zAq st.Active (st.Resets+1))) seq1 (stS st) (zPa st vo) (m+1+1) ((zCw st.Active c pe).take 0):=⟨h2,rfl,rfl,by
  show (d1.Disk.Areas.set 2 _).getD 2 []=_;rw [vC (by rw [h1.n];decide)];simp [mD,stS]⟩
 have hl40:(zCw st.Active c pe).length<=40:=by unfold zCw;split;exact h40;simp
 have hE':∀ e∈zCw st.Active c pe,EvC e (stS st).Active:=by
  intro e he;unfold zCw at he;split at he
  ·exact hE e he
  ·rw [List.mem_singleton.1 he];exact zL4 h.sst.a0 h.sst.a3
 have hK':∀ e∈zCw st.Active c pe,e.Kind≠5:=by
  intro e he;unfold zCw at he;split at he
  ·exact hK e he
  ·rw [List.mem_singleton.1 he];exact show (4:Int)≠5 by decide
 obtain ⟨d3,vo3,e3,h3,s3⟩:=zO4 (seq:=seq1) (st:=stS st) (zCw st.Active c pe) hl40 hE' hK' (zCw st.Active c pe).length 0 FU _ _ (m+1+1) (by omega) (xW (by omega)) hz (by omega);refine ⟨d3,seq1,vo3,m+1+1+(zCw st.Active c pe).length,?_,h3,hq1,by omega,λa ha=>(s3 a ha).trans (hge a ha)⟩;have hst:d1.State=⟨stS st,zPa st vo⟩:=h1.s;have hA:d1.State.Stable.Active=st.Active:=by rw [hst];rfl
 have hRs:d1.State.Stable.Resets=st.Resets+1:=by rw [hst];rfl
 unfold lF;refine cf (by rw [h.on];rfl) ?_;refine bd (a:=yD.mk d []) rfl ?_;refine bd (a:=(default,if c=0 then 0 else 50,yD.mk d3 [])) ?_ ?_
 ·refine bd e1 (cf rfl ?_);show (vK d1.State.Stable.Active d1.State.Stable.Resets).bind _=_;rw [hA,hRs];refine bd (zUk st.Active (st.Resets+1) h.sst.a0 h.sst.a3 (by omega) (by omega)) ?_;refine bd hw (cf rfl ?_);refine bd hco (bd hcc ?_);refine bd hpe ?_;refine bd (a:=zCw st.Active c pe) ?_ (bd e3 ?_)
  ·unfold zCw;by_cases hc:c=0
   ·rw [if_pos hc];exact cf (b0 hc) rfl
   ·rw [if_neg hc];exact ct (b1 hc) (bd (zEb 0 4 st.Active [99,104,97,105,110] (by decide)) rfl)
  ·show ((bif c != 0 then some 50 else some 0:Option Int).bind λe=>some ((default:zD),e,yD.mk d3 []))=_;by_cases hc:c=0
   ·rw [if_pos hc];exact bd (a:=0) (cf (b0 hc) rfl) rfl
   ·rw [if_neg hc];exact bd (a:=50) (ct (b1 hc) rfl) rfl
 ·refine bd (a:=(d3,if c=0 then 0 else 50,yD.mk d3 [])) ?_ rfl;unfold hP;refine cf ?_ rfl;split<;>rfl
end
set_option maxRecDepth 100000
def pL:List zB:=[zB.mk 1 [102] 0 [],zB.mk 3 [107] 0 []]
theorem zFf:lG=some pL:=rfl
theorem zG8:jI pL:=by
 have g1:pP (zB.mk 1 [102] 0 []):=⟨by decide,by decide,by decide,by decide,by rw [eX];decide +kernel,by decide,by decide,λh=>absurd h (by decide)⟩;have g3:pP (zB.mk 3 [107] 0 []):=⟨by decide,by decide,by decide,by decide,by rw [eX];decide +kernel,by decide,by decide,λh=>absurd h (by decide)⟩;refine ⟨by decide,?_,?_,⟨_,.head _,rfl⟩,⟨_,.tail _ (.head _),rfl⟩⟩
 ·intro x hx;rcases List.mem_cons.1 hx with rfl | hx
  ·exact g1
  ·rw [List.mem_singleton.1 hx];exact g3
 ·refine .cons ?_ (.cons (by simp) .nil);intro y hy;rw [List.mem_singleton.1 hy];exact ⟨by decide,by decide⟩
theorem zE9:kX pL:=zG8.ok
section
theorem Mz.log (h:Mz d seq st vo m es) (hE:∀ e∈es,EvC e st.Active) (h40:es.length<=40):bJ d=some (⟨st.Active,st.Resets,es⟩,0):=by
 have hr0:=h.sst.r0;have hr1:=h.sst.r1;unfold bJ;refine bd (h.toDv.read (a:=2) (by decide)) (cf rfl ?_);rw [h.lg];exact bd (zNy ⟨st.Active,st.Resets,es⟩ ⟨⟨hE,h40⟩,h.sst.a0,h.sst.a3,hr0,by show st.Resets<=1099511627776;omega⟩) rfl
theorem Dv.run_good (h:Dv d seq st vo m) (hs:vo.Started=false) (hp:vo.Stopped=false) (hR:st.Resets+1<2 ^ 30) (hq:seq+1<2 ^ 29) (hm:m+60<2 ^ 50) (hc:jI l) (hA:d.Disk.Areas.getD (3+jM d) []=wR l) :
  ∃ d' seq' vo' m',lF d=some (d',0)/\Mz d' seq' (stS st) vo' m' (evs l st.Active)/\seq'<=seq+1/\m'<=m+43/\∀ a,3<=a->d'.Disk.Areas.getD a []=d.Disk.Areas.getD a []:=by
 have hl:=qQ hc.ok;have h1:=h.sst.a0;have h3:=h.sst.a3;obtain ⟨d',seq',vo',m',e,hz,r⟩:=h.run hs hp hR hq hm (ch:=l) (c:=0) (pe:=evs l st.Active) (by rw [hA,pH];omega) (by rw [hA];exact zC3 hc.ok) (zJ8 l st.Active hc h1 h3) (zQe l st.Active hc).2 (zOt h1 h3 hc) zOh;exact ⟨d',seq',vo',m',e,hz,r⟩
theorem Dv.run_none (h:Dv d seq st vo m) (hs:vo.Started=false) (hp:vo.Stopped=false) (hR:st.Resets+1<2 ^ 30) (hq:seq+1<2 ^ 29) (hm:m+60<2 ^ 50) (hA:d.Disk.Areas.getD (3+jM d) []=[]) :
  ∃ d' seq' vo' m',lF d=some (d',50)/\Mz d' seq' (stS st) vo' m' [zSa st.Active]:=by
 obtain ⟨d',seq',vo',m',e,hz,_⟩:=h.run hs hp hR hq hm (ch:=[]) (c:=30) (pe:=[]) (by rw [hA];decide) (by rw [hA];exact zJ9) (zJ6 _) (by decide) (by simp) (by simp);exact ⟨d',seq',vo',m',e,hz⟩
theorem ev10:(evs pL 2).length=10:=by decide +kernel
theorem zPu:gK=some true:=by
 obtain ⟨⟨x,ok⟩,em,hok,st,hv,ha,hr0,h3,h4,h5⟩:=zJ4 [] 2 (by decide) (by decide) zE9;simp only at hok hv h3 h4 h5;subst hok;have hsl:jM x=0:=by unfold jM;rw [h5];rfl
 obtain ⟨d1,seq1,vo1,m1,e1,hz1,_⟩:=hv.run_good rfl rfl (by rw [hr0];decide) (by decide) (by decide) zG8 (by rw [hsl];exact h3);have hact1:(stS st).Active=2:=ha;have hlog1:=hz1.log (by rw [ha];exact λe he=>by rw [hact1];exact zOt (by decide) (by decide) zG8 e he) (by rw [ha];exact (zQe pL 2 zG8).2);rw [ha] at hlog1;obtain ⟨⟨y,c⟩,ef,hc0,⟨d0,hd⟩,st2,hp2,hv2,ha2,hr2,hz2⟩:=zGz (List.replicate 32 0) 2 (by simp) (by decide) (by decide);simp only at hc0 hd hp2 hv2 hz2;subst hc0;subst hd;have hv2':=hv2 0 (by decide);have hA2:∀ a,2<=a->(onD (zDn d0) 1 st2).Disk.Areas.getD a []=[]:=hz2;obtain ⟨d2,seq2,vo2,m2,e2,hzb⟩:=hv2'.run_none rfl rfl (by rw [hr2];decide) (by decide) (by decide) (hA2 _ (by omega));have hact2:(stS st2).Active=2:=ha2;have hlog2:=hzb.log (λe he=>by rw [List.mem_singleton.1 he,hact2,ha2];exact zL4 (by decide) (by decide)) (by simp);unfold gK;refine bd zFf (bd em (cf rfl ?_));refine bd e1 (bd hlog1 ?_);refine bd (a:=32) rfl ?_;refine bd ef ?_;refine bd (a:=(onD (zDn d0) 1 st2,0)) hp2 ?_;refine bd e2 (bd hlog2 ?_);refine bd (a:=true) ?_ rfl;refine ct rfl (ct rfl (ct ?_ (ct rfl (ct rfl (ct rfl (ct rfl (ct rfl ?_)))))))
 ·show (((evs pL 2).length:Int)==10)=true;rw [ev10];rfl
 ·exact bd (a:=zSa st2.Active) rfl rfl
end
set_option maxRecDepth 100000
theorem zO8 (a b:List α) (f:α->α->Option Bool) (step:Int->Option (Int ⊕ (Bool ⊕ Unit))) (ha:a.length<2 ^ 40) (hl:a.length=b.length)
  (hs:∀ (i:Nat) (h:i<a.length),step (i:Int)=(f a[i] (b[i]'(hl▸h))).bind λv=>bif !v then (some (.inr (.inl false))) else some (.inl (IntKind.i64.wrap ((i:Int)+1)))) (he:step (a.length:Int)=some (.inr (.inr ())))
  (hf:∀ x∈a,∀ y∈b,∃ c,f x y=some c):Def (zN step FU 0) (λr=>r=.inl false∨r=.inr ()):=by
 refine Def.loop (λi=>0<=i/\i<=a.length) (λi=>a.length - i.toNat) (λi hi=>?_) ⟨by decide,by omega⟩ (by have:=xW (n:=a.length) (by omega);omega);obtain ⟨i,rfl⟩:=Int.eq_ofNat_of_zero_le hi.1;have hi2:i<=a.length:=by omega
 by_cases h:i<a.length
 ·rw [hs i h];obtain ⟨c,hc⟩:=hf a[i] (List.getElem_mem _) (b[i]'(hl▸h)) (List.getElem_mem _);refine db hc ?_;cases c with
  | false=>exact dct rfl (Def.s (.inl rfl))
  | true=>
   refine dcf rfl (Def.s ⟨?_,?_⟩)
   ·show (0:Int)<=_/\_<=_;rw [yN (by omega) (by omega)];omega
   ·show a.length - (IntKind.i64.wrap ((i:Int)+1)).toNat<a.length - (i:Int).toNat;rw [yN (by omega) (by omega)];omega
 ·obtain rfl:i=a.length:=by omega
  rw [he];exact Def.s (.inr rfl)
theorem zN0 (a:List α) (f:α->α->Option Bool) (step:Int->Option (Int ⊕ (Bool ⊕ Unit))) (ha:a.length<2 ^ 40)
  (hs:∀ (i:Nat) (h:i<a.length),step (i:Int)=(f a[i] a[i]).bind λv=>bif !v then (some (.inr (.inl false))) else some (.inl (IntKind.i64.wrap ((i:Int)+1)))) (he:step (a.length:Int)=some (.inr (.inr ())))
  (hf:∀ x∈a,f x x=some true):zN step FU 0=some (.inr ()):=by
 refine yK a.length (λi=>(i:Int)) rfl (λi hi=>?_) he (xW (by omega));rw [hs i hi];refine bd (hf _ (List.getElem_mem _)) (cf rfl ?_);rw [yN (by omega) (by omega)];rfl
theorem zFv (hl:a.length=b.length) (i:Nat) (h:i<a.length):wY a b (i:Int)=(uB a[i] (b[i]'(hl▸h))).bind λv=>bif !v then (some (.inr (.inl false))) else some (.inl (IntKind.i64.wrap ((i:Int)+1))):=by
 unfold wY;exact ct (decide_eq_true (by omega)) (bd (yR h) (bd (yR (hl▸h)) rfl))
theorem zG1 (a b:List zB):wY a b (a.length:Int)=some (.inr (.inr ())):=by
 unfold wY;exact cf (decide_eq_false (by omega)) rfl
theorem zGu (x y:zB) (h:x.Payload.length<2 ^ 40):uB x y=some (x.Role==y.Role&&(x.Name==y.Name&&(x.Version==y.Version&&x.Payload==y.Payload))):=by
 have hs:=zBn x.Payload y.Payload h;unfold uB;rw [hs];generalize (x.Role==y.Role)=a;generalize (x.Name==y.Name)=b;generalize (x.Version==y.Version)=c;cases a<;>cases b<;>cases c<;>rfl
theorem jR (h:kX a):vL a a=some true:=by
 have h8:=h.h8;unfold vL;refine cf (by simp) ?_;refine bd (zN0 a uB (wY a a) (by omega) (λi hi=>zFv rfl i hi) (zG1 a a) (λx hx=>?_)) rfl;rw [zGu x x (by have:=(h.im x hx).f;omega)];simp
theorem aX (h:kX a):Def (vL a b) (λ_=>True):=by
 have h8:=h.h8;unfold vL;by_cases hl:a.length=b.length
 ·refine dcf (by simp [hl]) ?_;refine Def.bd (zO8 a b uB (wY a b) (by omega) hl (λi hi=>zFv hl i hi) (zG1 a b) (λx hx y _=>⟨_,zGu x y (by have:=(h.im x hx).f;omega)⟩)) (λr hr=>?_);rcases hr with rfl | rfl
  ·exact Def.s trivial
  ·exact Def.s trivial
 ·exact dct (by simp;omega) (Def.s trivial)
set_option maxRecDepth 100000
section
def bI (torn:Int) (old y:By):By:=y.take (min torn.toNat y.length)++old.drop (min torn.toNat y.length)
def zF0 (d:zD) (torn:Int):zD:=⟨⟨d.Disk.Areas,d.Disk.Writes,IntKind.i64.wrap (d.Disk.Writes+1),torn,d.Disk.Off⟩,d.State,d.On,d.Next⟩
theorem Dv.cut_write (h:Dv d seq st vo m) (hm:m+1<2 ^ 50) (torn:Int) {a:Nat} (h2:2<=a) (h8:a<8) (y:By) (hy:y.length<=65536) :
  ∃ z,tX (zF0 d torn) (a:Int) y=some (z,29)/\z.On=false/\Dk z.Disk seq st (m+1)/\z.Disk.Areas=d.Disk.Areas.set a (bI torn (d.Disk.Areas.getD a []) y):=by
 have hn:=h.n;have hm0:=h.m0;have hok:=h.ok;have hw0:=hok.w0;have hw1:=hok.w1;have hz:zJa (zF0 d torn).Disk:=⟨by show d.Disk.Areas.length<=64;omega,hw0,hw1⟩;have hC:isC (zF0 d torn).Disk:=by
  show d.Disk.Writes+1=IntKind.i64.wrap (d.Disk.Writes+1);rw [wr1 hw0 hw1]
 have hw:=zBp (zF0 d torn).Disk a y hz h.off (by show a<d.Disk.Areas.length;omega) hy (by have:=h.al a;show (d.Disk.Areas.getD a []).length<2 ^ 40;omega);have hcn:cS (zF0 d torn).Disk y.length=min torn.toNat y.length:=if_pos hC;have e:wrC (zF0 d torn).Disk ((zF0 d torn).Disk.Areas.getD a []) y=bI torn (d.Disk.Areas.getD a []) y:=by
  unfold wrC bI;rw [if_pos hC,hcn];rfl
 rw [e,show zDl (zF0 d torn).Disk=29 from if_pos hC] at hw;have hal:=h.al a;have hlen:(bI torn (d.Disk.Areas.getD a []) y).length<2 ^ 39:=by
  unfold bI;rw [List.length_append,List.length_take,List.length_drop];by_cases hy0:(d.Disk.Areas.getD a []).length<=min torn.toNat y.length<;>omega
 refine ⟨_,by unfold tX;exact bd hw (bd (zOq _ _) rfl),rfl,⟨⟨?_,?_,?_⟩,?_,hm,?_,?_,h.jr.other h2,h.sst⟩,rfl⟩
 ·show (d.Disk.Areas.set _ _).length<=64;simp;omega
 ·show 0<=d.Disk.Writes+1;omega
 ·show d.Disk.Writes+1<2 ^ 60;omega
 ·show d.Disk.Writes+1<=((m+1:Nat):Int);omega
 ·show (d.Disk.Areas.set _ _).length=8;simp [hn]
 ·exact zKa h.al hlen (show a<d.Disk.Areas.length by omega)
end
set_option maxRecDepth 100000
theorem zR3 {tag:Int} {a b:By} (h:frm tag [a]=frm tag [b]):a=b:=by
 have:=congrArg (List.drop 5) h;simpa [frm,zKy,hd4] using this
theorem zJx (ha:kX a) (hb:kX b) (h:uD a=uD b):a=b:=by
 have h1:=zPk ha;rw [h,zPk hb] at h1;exact (congrArg Prod.fst (Option.some.inj h1)).symm
theorem coll (ha:kX a) (hb:kX b):Def (qM a b) (λr=>hs 20 [uD a]=hs 20 [uD b]->r=true∨a=b):=by
 have hl:=qQ ha;have hl2:=qQ hb;have fa:(frm 20 [uD a]).length<2 ^ 40:=by rw [zBg];simp [tot];omega
 have fb:(frm 20 [uD b]).length<2 ^ 40:=by rw [zBg];simp [tot];omega
 unfold qM;refine db (zKk ha) (db (zKk hb) ?_);refine db (zGj 20 [uD a] (by simp [tot];omega)) (db (zGj 20 [uD b] (by simp [tot];omega)) ?_);refine Def.bd (P:=λr=>hs 20 [uD a]=hs 20 [uD b]->r=true∨a=b) ?_ (λr hr=>Def.s hr);unfold eM;by_cases he:frm 20 [uD a]=frm 20 [uD b]
 ·refine db (a:=false) (ct rfl (ct rfl (bd (zBn _ _ fa) (cf (by simp [he]) rfl)))) ?_;exact Def.s λ_=>.inr (zJx ha hb (zR3 he))
 ·have s1:sub (sha (frm 20 [uD a])) 0 32=some (hs 20 [uD a]):=by
   have:=tJ (l:=sha (frm 20 [uD a])) (a:=0) (b:=32) (by decide) (by rw [gG];decide);rw [List.drop_zero,List.take_of_length_le (by rw [gG];decide)] at this;exact this
  have s2:sub (sha (frm 20 [uD b])) 0 32=some (hs 20 [uD b]):=by
   have:=tJ (l:=sha (frm 20 [uD b])) (a:=0) (b:=32) (by decide) (by rw [gG];decide);rw [List.drop_zero,List.take_of_length_le (by rw [gG];decide)] at this;exact this
  refine db (a:=(hs 20 [uD a]==hs 20 [uD b])) (ct rfl (ct rfl (bd (zBn _ _ fa) (ct (by simp [he]) (bd (zMs _ fa) (bd s1 (bd (zMs _ fb) (bd s2 (bd (zBn _ _ (by rw [lU];decide)) rfl))))))))) ?_;exact Def.s λh=>.inl (by simp [h])
theorem zNb {t:Int} {old k m:List zB} (ho:kX old) (hk:kX k) (hm:kX m) (hd:(bI t (wR old) (wR k)).drop 32=uD m) (ht:(bI t (wR old) (wR k)).take 32=hs 20 [uD m]):m=old∨hs 20 [uD m]=hs 20 [uD k]:=by
 have hd0:(wR old).drop 32=uD old:=by unfold wR;rw [List.drop_append_of_le_length (by rw [lU];omega),List.drop_of_length_le (by rw [lU];omega),List.nil_append]
 have ht0:(wR k).take 32=hs 20 [uD k]:=by unfold wR;rw [List.take_append_of_le_length (by rw [lU];omega),List.take_of_length_le (by rw [lU];omega)]
 unfold bI at hd ht;have hn:min t.toNat (wR k).length<=(wR k).length:=Nat.min_le_right _ _;generalize min t.toNat (wR k).length=n at hd ht hn;have hlt:((wR k).take n).length=n:=by rw [List.length_take];omega
 by_cases h:32<=n
 ·right;rw [List.take_append_of_le_length (by omega),List.take_take,Nat.min_eq_left h,ht0] at ht;exact ht.symm
 ·left;rw [List.drop_append,List.drop_of_length_le (by omega),List.nil_append,hlt,List.drop_drop,show n+(32 - n)=32 from by omega,hd0] at hd;exact zJx hm ho hd.symm
theorem cU (codes other:By) (slot torn:Int):rR codes other slot torn=some true:=by
 obtain ⟨si,es,hs0,hs2⟩:=zL0 slot 2 (by decide) (by decide);obtain ⟨s,rfl,hs⟩:∃ s:Nat,si=(s:Int)/\s<2:=⟨si.toNat,by omega,by omega⟩;obtain ⟨l,el,hl⟩:=zGy codes;obtain ⟨k,ek,hk⟩:=zGy other;have hlo:=hl.ok;have hko:=hk.ok;obtain ⟨⟨x,ok⟩,em,hok,st,hv,ha,hr0,h3,h4,h5⟩:=zJ4 [] 2 (by decide) (by decide) hlo;simp only at hok hv h3 h4 h5;subst hok;have hlk:=qQ hko;have hls:=qQ zE9;have h1:=hv.set (a:=4) (y:=wR pL) (by decide) (by decide) (by rw [pH];omega) (by decide);have hn:=hv.n;have hA3:(aI x 4 (wR pL)).Disk.Areas.getD 3 []=wR l:=(getD_set_ne (by decide)).trans h3;have hA4:(aI x 4 (wR pL)).Disk.Areas.getD 4 []=wR pL:=vC (by omega);generalize hy:aI x 4 (wR pL)=y at h1 hA3 hA4;obtain ⟨t,et,ht0,ht1⟩:=zL0 torn (IntKind.i64.wrap (40+((uD k).length:Int))) (by rw [yN (by omega) (by omega)];omega) (by rw [yN (by omega) (by omega)];omega);obtain ⟨old,rest,hpair,hold,hrest,hAo,hAr⟩:∃ old rest:List zB,(bif ((s:Int)==1) then some (pL,l) else some (l,pL):Option (List zB×List zB))=some (old,rest)/\kX old/\kX rest/\y.Disk.Areas.getD (3+s) []=wR old/\y.Disk.Areas.getD (3+(1 - s)) []=wR rest:=by
  rcases (show s=0∨s=1 by omega) with rfl | rfl
  ·exact ⟨l,pL,rfl,hlo,zE9,hA3,hA4⟩
  ·exact ⟨pL,l,rfl,zE9,hlo,hA4,hA3⟩
 obtain ⟨z,hz,zon,zk,zA⟩:=h1.cut_write (by decide) t (a:=3+s) (by omega) (by omega) (wR k) (by rw [pH];omega);obtain ⟨hag,hdv⟩:=zk.again;have hzv:=hdv 0 (by decide);have hyn:=h1.n;have hzA:(onD z 1 st).Disk.Areas.getD (3+s) []=bI t (wR old) (wR k):=by
  show z.Disk.Areas.getD (3+s) []=_;rw [zA,vC (by omega),hAo]
 have hzR:(onD z 1 st).Disk.Areas.getD (3+(1 - s)) []=wR rest:=by
  show z.Disk.Areas.getD (3+(1 - s)) []=_;rw [zA,getD_set_ne (by omega),hAr]
 have hlo':=qQ hold;have hlr':=qQ hrest;have htl:(bI t (wR old) (wR k)).length<2 ^ 30:=by
  unfold bI;rw [List.length_append,List.length_take,List.length_drop,pH,pH];omega
 obtain ⟨⟨m,e⟩,ec,he,hm⟩:=zK3 _ htl;have hc1:sU (onD z 1 st) (s:Int)=some (m,e):=by
  rw [zD9 _ hs hzv.off (by rw [hzv.n];omega) (by rw [hzA];exact htl),hzA,ec]
 have h1s:IntKind.i64.wrap (1 - (s:Int))=((1 - s:Nat):Int):=by rw [yN (by omega) (by omega)];omega
 have hc2:sU (onD z 1 st) (IntKind.i64.wrap (1 - (s:Int)))=some (rest,0):=by
  rw [h1s,zD9 _ (by omega) hzv.off (by rw [hzv.n];omega) (by rw [hzR,pH];omega),hzR,zC3 hrest]
 unfold rR;refine bd zPu (cf rfl ?_);refine bd es (bd el (bd ek (bd em ?_)));refine bd zFf (bd (hv.install (s:=1) (by decide) zE9) ?_);refine bd (a:=false) (cf rfl rfl) (cf rfl ?_);refine bd zFf ?_;refine bd hpair ?_;refine bd (zKk hko) (bd et ?_);rw [show aI x (3+1) (wR pL)=y from hy];refine bd (a:=(zF0 y t).Disk) rfl ?_;refine bd (zC6 (zF0 y t) hs hko hz) ?_;refine bd (a:=false) (cf rfl (congrArg some zon)) (cf rfl ?_);refine bd hag (bd hc1 (bd hc2 ?_));refine bd (a:=false) (cf rfl (cf rfl (bd (jR hrest) rfl))) (cf rfl ?_);simp only at he hm;by_cases h0:e=0
 ·obtain ⟨hmo,_,hd,ht⟩:=hm h0;obtain ⟨c1,e1,_⟩:=aX (b:=old) hmo;obtain ⟨c2,e2,_⟩:=aX (b:=k) hmo;obtain ⟨c3,e3,hc3⟩:=coll hmo hko;obtain ⟨c4,e4,_⟩:=coll hmo hold;refine ct (by simp [h0]) ?_;rcases zNb hold hko hmo hd ht with rfl | hh
  ·exact bd (a:=true) (bd (jR hmo) (ct rfl rfl)) (ct rfl rfl)
  ·rcases hc3 hh with rfl | rfl
   ·cases c1 with
    | true=>exact bd (a:=true) (bd e1 (ct rfl rfl)) (ct rfl rfl)
    | false=>
     refine bd (a:=c2) (bd e1 (cf rfl (bd e2 rfl))) ?_;cases c2 with
     | true=>exact ct rfl rfl
     | false=>exact cf rfl (bd (a:=true) (bd e3 (ct rfl rfl)) rfl)
   ·refine bd (a:=true) (bd e1 ?_) (ct rfl rfl);cases c1 with
    | true=>exact ct rfl rfl
    | false=>exact cf rfl (bd (jR hmo) rfl)
 ·refine cf (by simpa using h0) ?_;rcases he with h | h
  ·exact absurd h h0
  ·rw [h.1];rfl
end Go.Proofs.TT
