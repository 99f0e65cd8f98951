/- AppraiseVerdict (law 37: the verdict about evidence that is right but for up to two changes) is proved for every input, under no condition of ours; this text is a part of that proof. -/
import Derived.Test.YteadpnddgpfbdaaGreatDoorZ13
import Derived.Test.YteadpnddgpfbdaaGreatDoorZ12
set_option linter.all false
open Go.Sw.Def renaming bd -> Q0, s -> Q1, c -> Q2, of -> Q3, loop -> Qc, sub -> Qk, app -> Qp, ck -> Wg, ixN -> Wj, mkN -> Wp
open List renaming length_append -> Q4, getElem_mem -> Q8, take_of_length_le -> Qb, drop_drop -> Qd, take_add_one -> Qf, length_take -> Qg, length_drop -> Qh, take_take -> Qi, mem_iff_getElem -> Ql, mem_cons_of_mem -> Qm, nil_append -> Qn, length_nil -> Qo, length_eq_zero_iff -> Qq, drop_append_of_le_length -> Qw, length -> Qx, mem_cons_self -> Qy, append_assoc -> W0, drop_eq_getElem_cons -> W1, length_cons -> W2, drop_length -> W3, take_length -> W4, length_set -> W6, mem_append -> W7, replicate -> Wa, take_left -> Wb, mem_cons -> Wf, cons_append -> Wl, getElem_set -> Wm, drop_take -> Wq
open Go.Proofs.TT.Def renaming at' -> Q5
open Go.Lib renaming compareBytes -> Q6
open Int renaming toNat_natCast -> Q7, eq_ofNat_of_zero_le -> Q9, tmod_eq_emod_of_nonneg -> Qz
open Go.IntKind renaming i64 -> Qa, u64 -> Qr, u8 -> Ws
open Nat renaming le_refl -> Qe, mul_le_mul_right -> Qv, mul_le_mul -> W9, blt_eq -> Wc, pow_le_pow_right -> Wd, pow_succ -> Wh, mod_eq_of_lt -> Wn, blt -> Wr
open UInt8 renaming toNat_inj -> Qj, lt_iff_toNat_lt -> W8
open Option renaming bind_some -> Qs
open Prod renaming fst -> Qt
open Bool renaming or_eq_false_iff -> Qu, eq_false_iff -> Wk, or_eq_true -> Wo
open BitVec renaming ofInt -> W5, ofInt_natCast -> We, toNat_ofNat -> Wi
namespace Go.Proofs.TT
open Go Go.Sw
set_option maxRecDepth 100000
variable {a b:Nat}{l:By}{n:Nat}{p:By}{r:Nat}
theorem uD (b:By) (size:Nat) (n:Int) (h1:1<=size) (h8:size<=8) (hb:b.length<2 ^ 40):Def (wK b (size:Int) n) (λr=>r.length=b.length+size):=Q3 (uV b size n h1 h8 hb) (yI _ _ _)
theorem bD (b x:By) (hb:b.length<2 ^ 39):Def (vT b x) (λr=>r.length<=b.length+65537):=Q3 (qV b x hb) (tA _ _)
theorem zVb (a:zM) (hd:a.Digest.length=32):Def (rH a) (λr=>r.length<2 ^ 20):=by
 unfold rH;refine Q0 (P:=λr=>r.length=4) (Q1 rfl) (λb0 h0=>?_);refine Q0 (bD b0 _ (by omega)) (λb1 h1=>?_);refine Q0 (bD b1 _ (by omega)) (λb2 h2=>?_);refine Q0 (uD b2 8 _ (by omega) (by omega) (by omega)) (λb3 h3=>?_);refine Q0 (uD b3 8 _ (by omega) (by omega) (by omega)) (λb4 h4=>?_);refine Q0 (uD b4 8 _ (by omega) (by omega) (by omega)) (λb5 h5=>?_);refine Q0 (P:=λ_=>True) (Q2 (λ_=>Q1 trivial) (λ_=>Q1 trivial)) (λsf _=>?_);refine Q0 (Qp (by simp;omega)) (λb6 h6=>?_);have h6':b6.length=b5.length+1:=by rw [h6];simp
 refine Q0 (uD b6 8 _ (by omega) (by omega) (by omega)) (λb7 h7=>?_);refine Q0 (uD b7 2 _ (by omega) (by omega) (by omega)) (λb8 h8=>?_);refine Q0 (uD b8 2 _ (by omega) (by omega) (by omega)) (λb9 h9=>?_);exact Q0 (Qp (by omega)) (λq hq=>Q1 (by rw [hq,Q4];omega))
theorem zK3 (l:zV) (machine key leaf:Int) (a:zM) (h:l.Events.length<2 ^ 20) (hd:a.Digest.length=32) (h0:0<=leaf) (h1:leaf<=1):Def (sA l machine key leaf a) (λx=>x.Attest.length<2 ^ 20/\x.Signature.length<2 ^ 20/\x.Log.length<=8192):=by
 unfold sA;refine Q0 (zHj l h) (λr hr=>?_);obtain ⟨b,e⟩:=r;refine Q0 (zVb a hd) (λm hm=>?_);refine Q0 (zIt key) (λs hs=>?_);obtain ⟨n,rfl⟩:=Q9 h0;have e:xG .i64 (n:Int) 1=((n % 2:Nat):Int):=zW1 n (by omega);rw [e];refine Q0 (P:=λx=>x.length=577) (Q3 (zJ4 s (n % 2) m (by omega) (by omega) (by omega)) (zM6 _ _ _ (by omega))) (λg hg=>?_);exact Q1 ⟨hm,by simp only;omega,hr⟩
theorem zVp (b:By) (n:Int) (h0:0<=n) (h:n<2 ^ 20):Def (zCs b n) (λr=>r.length<=b.length/\r.length<2 ^ 20):=by
 unfold zCs;refine Q2 (λh=>?_) (λh=>Q1 ?_)
 ·have:=dT h;refine Q0 (Qk (by decide) h0 (by omega)) (λx hx=>Q1 ?_);have:x.length<=n.toNat/\x.length<=b.length:=by rw [hx];simp;omega
  omega
 ·have:=dF h;omega
theorem zU1 (b:By):Def (zAc b) (λ_=>True):=by
 unfold zAc;refine Q0 (Wp (by decide) (by decide)) (λn hn=>?_);refine Q0 (Wg (zLg (by simp))) (λ_ _=>?_);refine Def.lt ?_;refine Q0 (Wg (zLg (by rw [zQb];simp))) (λ_ _=>?_);exact Q0 (Wg (cO (by
                 have e:(32:Int).toNat=32:=rfl;omega))) (λ_ _=>Q1 trivial)
theorem zR2 (key n:Int) (a1:By) (a2 a3 a4 a5:Int) (dg:By) (ac:Int) (es:List zC) (c:zB) (hc:uS c) (h0:0<=n) (hn:n<=2) (hd:dg.length=32) (he:es.length<=200) :
  Def (zK fK FU (key,n,a1,a2,a3,a4,a5,dg,ac,es,c.B,c.At)) (λr=>r.2.2.2.2.2.2.1.length=32/\r.2.2.2.2.2.2.2.2.1.length<=300/\uS ⟨r.2.2.2.2.2.2.2.2.2.1,r.2.2.2.2.2.2.2.2.2.2⟩):=by
 refine Qc (λs=>0<=s.2.1/\s.2.1<=2/\s.2.2.2.2.2.2.2.1.length=32/\(s.2.2.2.2.2.2.2.2.2.1.length:Int)+s.2.1<=300/\uS ⟨s.2.2.2.2.2.2.2.2.2.2.1,s.2.2.2.2.2.2.2.2.2.2.2⟩) (λs=>s.2.1.toNat) (λs hs=>?_) ⟨h0,hn,hd,by simp only;omega,hc⟩ (by simp only;omega);obtain ⟨key,n,a1,a2,a3,a4,a5,dg,ac,es,B,A⟩:=s;obtain ⟨g1,g2,g3,g4,g5⟩:=hs;simp only at g1 g2 g3 g4 g5;unfold fK;refine Q2 (λh=>?_) (λh=>Q1 ⟨g3,by simp only;omega,g5⟩);have hn:=dT h;refine Q0 (yE _ 9 g5 (by decide)) (λr hr=>?_);obtain ⟨v,c1⟩:=r;obtain ⟨k1,k2,k3⟩:=hr;simp only at k1 k2 k3;refine Q0 (P:=λr=>r.2.2.2.2.2.2.1.length=32/\(r.2.2.2.2.2.2.2.2.1.length:Int)<=es.length+1/\uS ⟨r.2.2.2.2.2.2.2.2.2.1,r.2.2.2.2.2.2.2.2.2.2⟩) ?_ (λr hr=>?_)
 ·have le:(es.length:Int)<=es.length+1:=by omega
  refine Q2 (λ_=>?_) (λ_=>Q2 (λ_=>?_) (λ_=>Q2 (λ_=>?_) (λ_=>Q2 (λ_=>?_) (λ_=>Q2 (λ_=>?_) (λ_=>Q2 (λ_=>?_) (λ_=>Q2 (λ_=>?_) (λ_=>Q2 (λ_=>?_) (λ_=>?_))))))))
  ·refine Q0 (yE _ 5 k3 (by decide)) (λr hr=>?_);exact Q0 (zU1 _) (λ_ _=>Q1 ⟨g3,le,hr.2.2⟩)
  ·exact Q0 (yE _ 3 k3 (by decide)) (λr hr=>Q1 ⟨g3,le,hr.2.2⟩)
  ·exact Q0 (yE _ 3 k3 (by decide)) (λr hr=>Q1 ⟨g3,le,hr.2.2⟩)
  ·refine Q0 (yE _ 2 k3 (by decide)) (λr hr=>?_);obtain ⟨v2,c2⟩:=r;obtain ⟨m1,m2,m3⟩:=hr;simp only at m1 m2 m3;refine Q2 (λ_=>?_) (λhz=>Q2 (λ_=>?_) (λho=>?_))
   ·exact Q0 (yE _ 13 m3 (by decide)) (λr hr=>Q1 ⟨g3,le,hr.2.2⟩)
   ·exact Q0 (yE _ 13 m3 (by decide)) (λr hr=>Q1 ⟨g3,le,hr.2.2⟩)
   ·simp at hz ho;omega
  ·refine Q0 (Qp (by simp;omega)) (λx hx=>?_);rw [Qn] at hx;subst hx;refine Q0 (yE _ 32 k3 (by decide)) (λr hr=>?_);obtain ⟨v2,c2⟩:=r;obtain ⟨m1,m2,m3⟩:=hr;simp only at m1 m2 m3;refine Q0 (Wj m1 (by omega)) (λj hj=>?_);refine Q0 (Def.at hj.2) (λy _=>?_);refine Q0 (Wj m1 (by omega)) (λj hj=>?_);exact Q0 (Def.upd hj.2) (λz hz=>Q1 ⟨by simp only [hz,W6];exact g3,le,m3⟩)
  ·exact Q0 (yE _ 12 k3 (by decide)) (λr hr=>Q1 ⟨g3,le,hr.2.2⟩)
  ·have e:Qa.wrap ((es.length:Int)+1)=(es.length:Int)+1:=zZ (by omega) (by omega);refine Q0 (yE _ _ k3 (by rw [e];omega)) (λr hr=>?_);obtain ⟨v2,c2⟩:=r;obtain ⟨m1,m2,m3⟩:=hr;simp only at m1 m2 m3;rw [e] at m2;refine Q0 (Qk (by decide) m1 (by omega)) (λx hx=>Q1 ⟨g3,?_,m3⟩);simp only [hx,Qg,Qh];omega
  ·refine Q0 (Qp (by simp;omega)) (λx hx=>?_);rw [Qn] at hx;subst hx;refine Q0 (zEj _ ac k3) (λr hr=>?_);exact Q0 (Qp (by simp;omega)) (λy hy=>Q1 ⟨g3,by simp only [hy,Q4,W2,Qo];omega,hr⟩)
  ·exact Q0 (yE _ 3 k3 (by decide)) (λr hr=>Q1 ⟨g3,le,hr.2.2⟩)
 ·obtain ⟨key',a1',a2',a3',a4',a5',dg',ac',es',B',A'⟩:=r;obtain ⟨p1,p2,p3⟩:=hr;simp only at p1 p2 p3;refine Q1 ?_;rw [zZ (by omega) (by omega)];exact ⟨⟨by simp only;omega,by simp only;omega,p1,by simp only;omega,p3⟩,by simp only;omega⟩
theorem zQi (codes:By) (l:zV) (machine:Int) (nonce:By) (he:l.Events.length<=200) (h1:1<=l.Active) (h3:l.Active<=3) (hn:nonce.length<2 ^ 30):Def (dK codes l machine nonce) (λx=>x.Attest.length<2 ^ 20/\x.Signature.length<2 ^ 20/\x.Log.length<=8192):=by
 unfold dK;refine Q0 (zD1 codes 30 (by decide) (by decide)) (λc hc=>?_);refine Q0 (yE _ 2 hc (by decide)) (λr hr=>?_);obtain ⟨v,c1⟩:=r;obtain ⟨k1,k2,k3⟩:=hr;simp only at k1 k2 k3;refine Def.lt ?_;refine Q0 (zQ1 l machine _ nonce (by omega) h1 h3 hn) (λa ha=>?_);refine Q0 (yE _ 3 k3 (by decide)) (λr hr=>?_);obtain ⟨n,c2⟩:=r;obtain ⟨m1,m2,m3⟩:=hr;simp only at m1 m2 m3;refine Q0 (zR2 _ n _ _ _ _ _ _ _ _ c2 m3 m1 (by omega) ha.2.2 he) (λr hr=>?_);obtain ⟨key',a1',a2',a3',a4',a5',dg',ac',es',B',A'⟩:=r;obtain ⟨p1,p2,p3⟩:=hr;simp only at p1 p2 p3;refine Q0 (yE _ 2 p3 (by decide)) (λr hr=>?_);obtain ⟨lf,c3⟩:=r;obtain ⟨q1,q2,q3⟩:=hr;simp only at q1 q2 q3;refine Q0 (zK3 ⟨ac',l.Resets,es'⟩ machine key' lf _ (by simp only;omega) p1 q1 (by omega)) (λx hx=>?_);obtain ⟨x1,x2,x3⟩:=hx;refine Q0 (yE _ 8 q3 (by decide)) (λr hr=>?_);obtain ⟨w,c4⟩:=r;obtain ⟨w1,w2,w3⟩:=hr;simp only at w1 w2 w3;refine Q0 (P:=λr=>r.2.1.length<2 ^ 20/\r.2.2.length<=8192) ?_ (λr hr=>Q1 ⟨x1,hr.1,hr.2⟩);refine Q2 (λ_=>?_) (λ_=>Q2 (λ_=>?_) (λ_=>Q2 (λ_=>?_) (λ_=>Q1 ⟨x2,x3⟩)))
 ·exact Q0 (yE _ 4 w3 (by decide)) (λr _=>Q1 ⟨x2,x3⟩)
 ·refine Q0 (yE _ 256 w3 (by decide)) (λr hr=>?_);obtain ⟨u,c5⟩:=r;obtain ⟨u1,u2,u3⟩:=hr;simp only at u1 u2 u3;exact Q0 (zVp _ u u1 (by omega)) (λs hs=>Q1 ⟨hs.2,x3⟩)
 ·refine Q2 (λhl=>?_) (λ_=>Q1 ⟨x2,x3⟩);have hl':=dT hl;refine Q0 (Qp (by simp;omega)) (λy hy=>?_);rw [Qn] at hy;subst hy;refine Q0 (yE _ 256 w3 (by decide)) (λr hr=>?_);obtain ⟨u,c5⟩:=r;obtain ⟨u1,u2,u3⟩:=hr;simp only at u1 u2 u3;refine Q0 (yE _ 256 u3 (by decide)) (λr hr=>?_);obtain ⟨t,c6⟩:=r;obtain ⟨t1,t2,t3⟩:=hr;simp only at t1 t2 t3;refine Def.lt ?_;have e:Qa.wrap (Qa.wrap (u*256)+t)=u*256+t:=by rw [zZ (n:=u*256) (by omega) (by omega),zZ (by omega) (by omega)]
  simp only [e];refine Q0 (Wg (by rw [Bool.not_eq_true',beq_eq_false_iff_ne];omega)) (λ_ _=>?_);have j0:0<=Int.tmod (u*256+t) (x.Log.length:Int):=by rw [Qz (by omega)];exact Int.emod_nonneg _ (by omega)
  have j1:Int.tmod (u*256+t) (x.Log.length:Int)<x.Log.length:=by rw [Qz (by omega)];exact Int.emod_lt_of_pos _ hl'
  refine Q0 (Wj j0 j1) (λj hj=>?_);refine Q0 (Def.at hj.2) (λy _=>?_);refine Q0 (yE _ 8 t3 (by decide)) (λr hr=>?_);refine Q0 (Wj j0 j1) (λj hj=>?_);exact Q0 (Def.upd hj.2) (λz hz=>Q1 ⟨x2,by simp only [hz,W6];exact x3⟩)
theorem zKy (machine active:Int):Def (sB machine active) (λe=>e.Quoting.length=2/\(∀ p∈e.Quoting,p.Unique.length=17)/\e.Machine=machine/\e.Active=active):=by
 unfold sB;refine Q0 (aU _) (λp hp=>?_);refine Q0 (aU _) (λq hq=>?_);refine Q0 (zDl _ (by simp)) (λs hs=>?_);refine Q0 (Wp (by decide) (by decide)) (λn hn=>?_);refine Q0 (Wg (zLg (by simp))) (λ_ _=>?_);refine Q0 (Wg (cO (by
                 have e:(32:Int).toNat=32:=rfl;omega))) (λ_ _=>Q1 ⟨rfl,λx hx=>?_,rfl,rfl⟩)
 simp only [Wf,List.not_mem_nil,or_false] at hx;rcases hx with rfl | rfl
 ·exact hp
 ·exact hq
theorem zTp (codes chain manifests changes:By) (active machine:Int):Def (dI codes chain manifests changes active machine) (λr=>zVo r.2.1/\r.2.2.Attest.length<2 ^ 20/\r.2.2.Signature.length<2 ^ 20/\r.2.2.Log.length<=8192):=by
 unfold dI;refine Q0 (zJ0 chain) (λch hch=>?_);refine Q0 (zCo active) (λac hac=>?_);refine Q0 (zWc codes ac 7 hac.1 hac.2) (λl hl=>?_);refine Q0 (zD1 codes 4 (by decide) (by decide)) (λc hc=>?_);refine Q0 (P:=λr=>1<=r.1/\r.1<=3/\r.2.2.length<=200) ?_ (λr hr=>?_)
 ·refine Q0 (yE _ 3 hc (by decide)) (λr hr=>?_);refine Q2 (λ_=>?_) (λ_=>Q1 ⟨by simp only;rw [hl.1];exact hac.1,by simp only;rw [hl.1];exact hac.2,hl.2⟩);exact Q0 (zGy ch ac hch hac.1 hac.2) (λev hev=>Q1 ⟨hac.1,hac.2,by simp only;omega⟩)
 obtain ⟨ac2,rs,es⟩:=r;obtain ⟨r1,r2,r3⟩:=hr;simp only at r1 r2 r3;refine Q0 (zI7 manifests ch hch) (λms hms=>?_);exact Q0 (zQi changes ⟨ac2,rs,es⟩ machine _ r3 r1 r2 (by simp)) (λx hx=>Q1 ⟨hms,hx⟩)
set_option maxRecDepth 100000
theorem kD (a:Int):qS a=some (siz a):=zGi a
theorem zBx (e:zC) (active:Int):Def (nR e active) (λr=>r=0↔EvC e active):=by
 unfold nR;refine Q0 or6 (λb hb=>?_);have hb:=zPs hb;refine Q2 (λh=>Q1 ⟨λh=>(by cases h),λhc=>?_⟩) (λhbf=>?_)
 ·have:=hb.2 ⟨hc.a1,hc.a3,hc.r0,hc.r1,hc.k1,hc.k5⟩;rw [this] at h;cases h
 obtain ⟨h1,h2,h3,h4,h5,h6⟩:=hb.1 hbf;refine Q2 (λh=>Q1 ⟨λh=>(by cases h),λhc=>?_⟩) (λhd=>?_)
 ·have:=dT h;have:=hc.d;omega
 have hd':=dF hd;refine Q2 (λh=>Q1 ⟨λh=>(by cases h),λhc=>?_⟩) (λhl0=>?_)
 ·rw [hc.l] at h;cases h
 have hl:e.Digests.length=2:=by simp at hl0;omega
 refine Q0 (vD e.Digests (mJ e active) (λi=>Fit e active i) (λb=>b=27/\∃ i,i<2/\¬ Fit e active i) (by omega) (λa ha=>?_) ?_) (λr hr=>?_)
 ·unfold mJ;refine Q2 (λ_=>?_) (λh=>by have:=dF h;omega);refine Q0 (Q5 ha) (λd hd=>?_);subst hd;refine Q0 (zNe (e:=e) (active:=active) (a:=a) ?_ (by rw [kD];rfl)) (λw hw=>?_)
  ·refine bd (ckT (by simp)) ?_;have hw:Qr.wrap (a:Int)=(a:Int):=bH (by omega) (by omega);unfold xP;rw [hw]
  refine Q2 (λhne=>Q1 ⟨rfl,a,by omega,λhF=>?_⟩) (λhne=>Q1 ⟨yM (by omega),(zGv ha hw).1 hne⟩);rw [(zGv ha hw).2 hF] at hne;cases hne
 ·unfold mJ;rw [hl];exact cf rfl rfl
 ·cases r with
  | inl b=>exact Q1 ⟨λh=>(by rw [hr.1] at h;cases h),λh=>absurd ⟨h.f0,h.f1⟩ (nf2 hr.2)⟩
  | inr u=>exact Q1 ⟨λ_=>⟨⟨h3,h4,by omega,hl,hr 0 (by omega),hr 1 (by omega)⟩,h1,h2,h5,h6⟩,λ_=>rfl⟩
theorem zX2 {e:zC} {active:Int} (h:EvC e active):Def (nR e active) (λr=>r=0):=(zBx e active).mono λ_ hr=>hr.2 h
set_option maxRecDepth 100000
theorem zQn (b:By) (h:b.length<2 ^ 40):kL b=some (RS.W ⟨b,0,0⟩):=by
 unfold kL;refine bd (yF (by simp;omega)) ?_;rfl
theorem zVc (e:zC) (he:e.Digests.length<2 ^ 30):Def (tD e) (λ_=>True):=by
 unfold tD;refine Q0 (P:=λ_=>True) ?_ (λb _=>?_)
 ·exact Q2 (λ_=>Q1 trivial) (λ_=>Q2 (λ_=>Q1 trivial) (λ_=>Q2 (λ_=>Q1 trivial) (λ_=>Q2 (λ_=>Q1 trivial) (λ_=>Q2 (λ_=>Q1 trivial) (λ_=>Q1 trivial)))))
 refine Q2 (λ_=>Q1 trivial) (λ_=>?_);refine Q0 (P:=λ_=>True) ?_ (λr _=>?_)
 ·refine Qc (λs=>∃ a:Nat,s=(a:Int)/\a<=e.Digests.length) (λs=>e.Digests.length - s.toNat) (λs hs=>?_) ⟨0,rfl,by omega⟩ (by simp;omega);obtain ⟨a,rfl,ha⟩:=hs;unfold uZ;refine Q2 (λh=>?_) (λh=>Q1 trivial);have ha2:a<e.Digests.length:=by have:=dT h;omega
  refine Q0 (Q5 ha2) (λd hd=>?_);refine Q0 (P:=λ_=>True) (Q3 (kD _) trivial) (λw _=>?_);refine Q2 (λ_=>Q1 trivial) (λ_=>Q1 ?_);rw [yM (by omega)];exact ⟨⟨a+1,rfl,by omega⟩,by simp only [Q7];omega⟩
 ·cases r with
  | inl b=>exact Q1 trivial
  | inr u=>exact Q1 trivial
theorem zUf (b:By) (hb:b.length<2 ^ 40):Def (pS b) (λ_=>True):=by
 unfold pS;have ok0:(RS.mk b 0 0).Ok:=⟨by simp,hb⟩;refine Q0 (P:=λr=>r=RS.W ⟨b,0,0⟩) (Q3 (zQn b hb) rfl) (λr hr=>?_);subst hr;refine Q0 (P:=λz=>∃ r:RS,r.Ok/\z.2=r.W) (Q3 (yZ _ 1 ok0 (by omega) (by omega)) ⟨_,vA _ _ ok0,rfl⟩) (λz hz=>?_);obtain ⟨u,x⟩:=z;obtain ⟨r1,ok1,rfl⟩:=hz;refine Q0 (P:=λz=>∃ r:RS,r.Ok/\z.2=r.W) (Q3 (yZ _ 1 ok1 (by omega) (by omega)) ⟨_,vA _ _ ok1,rfl⟩) (λz hz=>?_);obtain ⟨k,x⟩:=z;obtain ⟨r2,ok2,rfl⟩:=hz;refine Q0 (P:=λz=>z.1.length<=2/\∃ r:RS,r.Ok/\z.2=(r.W.b_,r.W.at_,r.W.e_)) ?_ (λz hz=>?_)
 ·refine Qc (λs=>∃ (a:Nat) (l:List By) (r:RS),s=((a:Int),l,r.W.b_,r.W.at_,r.W.e_)/\a<=2/\l.length=a/\r.Ok) (λs=>2 - s.1.toNat) (λs hs=>?_) ⟨0,[],r2,rfl,by omega,rfl,ok2⟩ (by simp);obtain ⟨a,l,r,rfl,ha,hl,ok⟩:=hs;unfold nA;refine Q2 (λh=>?_) (λh=>Q1 ⟨by simp;omega,r,ok,rfl⟩);have ha2:a<2:=by have:=dT h;omega
  refine Q0 (P:=λw=>w=((32:Nat):Int)) (Q3 (kD 1) rfl) (λw hw=>?_);subst hw;refine Q0 (P:=λz=>∃ r:RS,r.Ok/\z.2=r.W) (Q3 (vL r 32 ok) ⟨_,nT _ _ ok,rfl⟩) (λz hz=>?_);obtain ⟨v,x⟩:=z;obtain ⟨r',ok',rfl⟩:=hz;refine Q0 (Qp (by simp;omega)) (λl' hl'=>Q1 ?_);rw [yM (by omega)];exact ⟨⟨a+1,l',r',rfl,by omega,by rw [hl'];simp [hl],ok'⟩,by simp only [Q7];omega⟩
 obtain ⟨l,b',a',e'⟩:=z;obtain ⟨hl,r3,ok3,h3⟩:=hz;obtain ⟨rfl,rfl,rfl⟩:b'=r3.W.b_/\a'=r3.W.at_/\e'=r3.W.e_:=by simpa using h3
 refine Q0 (P:=λz=>∃ r:RS,r.Ok/\z.2=r.W) (Q3 (vL r3 64 ok3) ⟨_,nT _ _ ok3,rfl⟩) (λz hz=>?_);obtain ⟨v,x⟩:=z;obtain ⟨r4,ok4,rfl⟩:=hz;refine Q0 (P:=λ_=>True) ?_ (λbb _=>?_)
 ·refine Q0 (P:=λ_=>True) (Q3 (aK r4 ok4) trivial) (λz _=>?_);refine Q2 (λ_=>Q1 trivial) (λ_=>?_);exact Q0 (zVc _ (by simp at hl ⊢;omega)) (λ_ _=>Q1 trivial)
 ·exact Q2 (λ_=>Q1 trivial) (λ_=>Q1 trivial)
set_option maxRecDepth 100000
structure zB8 (l:zV):Prop where
 ev:∀ e∈l.Events,EvC e l.Active
 n:l.Events.length<=40
theorem zWj (a r:Int):Def (wW a r) (λx=>x.length≠0->1<=a/\a<=3):=by
 unfold wW;refine Q0 (P:=λb=>b=false->1<=a/\a<=3) ?_ (λb hb=>?_)
 ·refine Q2 (λ_=>Q1 (λh=>by cases h)) (λh1=>Q2 (λ_=>Q1 (λh=>by cases h)) (λh2=>Q2 (λ_=>Q1 (λh=>by cases h)) (λ_=>Q1 (λ_=>?_))));have:=dF h1;have:=dF h2;omega
 refine Q2 (λ_=>Q1 (λh=>absurd rfl h)) (λhf=>?_);refine Q0 (P:=λr=>r.length=5) (Q3 (tT _ 1 a (by omega) (by omega) (by simp)) (by rw [yI];rfl)) (λu hu=>?_);exact Q0 (P:=λ_=>True) (Q3 (tT u 6 r (by omega) (by omega) (by omega)) trivial) (λ_ _=>Q1 (λ_=>hb hf))
theorem zJv (r:RS) (m:Nat):(yX r m).1.length<=r.b.length:=by
 unfold yX;repeat' split
 all_goals first | simp [RS.get];omega | simp
theorem zQ2 (r:RS) (m:Nat) (ok:r.Ok) (h:(yX r m).2.e=0):(yX r m).2.left<r.left:=by
 revert h;unfold yX;split
 ·rename_i h1;intro h;exact absurd h h1
 split
 ·intro h;simp [RS.err] at h
 split
 ·intro h;simp [RS.err] at h
 split
 ·intro h;simp [RS.err] at h
 ·intro _;obtain ⟨k1,k2⟩:=ok;simp only [RS.to,RS.left] at *;omega
theorem zT8 (b:By) (hb:b.length<=8192):Def (vK b) (λr=>r.2.2=0->zB8 r.1):=by
 unfold vK;have ok0:(RS.mk b 0 0).Ok:=⟨by simp,by simp;omega⟩;refine Q0 (P:=λr=>r.2.2=0->zB8 r.1) ?_ (λr hr=>Q1 hr);refine Q0 (P:=λr=>r=RS.W ⟨b,0,0⟩) (Q3 (zQn b (by omega)) rfl) (λr hr=>?_);subst hr;refine Q0 (P:=λz=>∃ r:RS,r.Ok/\z.2=r.W) (Q3 (nN _ 4 ok0) ⟨_,zHg _ _ ok0,rfl⟩) (λz hz=>?_);obtain ⟨v,x⟩:=z;obtain ⟨r1,ok1,rfl⟩:=hz;refine Q2 (λ_=>Q1 (λh=>by cases h)) (λ_=>?_);refine Q0 (P:=λz=>∃ r:RS,r.Ok/\z.2=r.W) (Q3 (yZ _ 1 ok1 (by omega) (by omega)) ⟨_,vA _ _ ok1,rfl⟩) (λz hz=>?_);obtain ⟨act,x⟩:=z;obtain ⟨r2,ok2,rfl⟩:=hz;refine Q0 (P:=λz=>∃ r:RS,r.Ok/\z.2=r.W) (Q3 (yZ _ 6 ok2 (by omega) (by omega)) ⟨_,vA _ _ ok2,rfl⟩) (λz hz=>?_);obtain ⟨res,x⟩:=z;obtain ⟨r3,ok3,rfl⟩:=hz;refine Q0 (P:=λz=>z.2=(r3.W.b_,r3.W.at_,r3.W.e_)) ?_ (λz hz=>?_)
 ·refine Q0 (P:=λz=>z=(r3.W.e_,r3.W)) (Q1 rfl) (λz hz=>?_);subst hz;refine Q2 (λ_=>Q1 rfl) (λ_=>?_);exact Q0 (zWj _ _) (λ_ _=>Q1 rfl)
 obtain ⟨bad,b',a',e'⟩:=z;obtain ⟨rfl,rfl,rfl⟩:b'=r3.W.b_/\a'=r3.W.at_/\e'=r3.W.e_:=by simpa using hz
 refine Q2 (λ_=>Q1 (λh=>by cases h)) (λ_=>?_);refine Q0 (P:=λz=>z.2.1=0->(∀ e∈z.2.2,EvC e act)/\z.2.2.length<=40) ?_ (λz hz=>?_)
 ·refine Qc (λs=>∃ (r:RS),s.2.2=(r.W.b_,r.W.at_,r.W.e_)/\r.Ok/\(∀ e∈s.2.1,EvC e act)/\s.2.1.length<=40) (λs=>s.2.2.1.length - s.2.2.2.1.toNat) (λs hs=>?_) ⟨r3,rfl,ok3,by simp,by simp⟩ (by have:=ok3.2;simp [RS.W];omega);obtain ⟨at0,l,b',a',e'⟩:=s;obtain ⟨r,h1,ok,hev,hn⟩:=hs;have hn:l.length<=40:=hn;have hev:∀ e∈l,EvC e act:=hev;obtain ⟨rfl,rfl,rfl⟩:b'=r.W.b_/\a'=r.W.at_/\e'=r.W.e_:=by simpa using h1
  unfold xL;refine Q0 (P:=λz=>z=((r.left:Int),r.W)) (Q1 (by rw [show Qa.wrap (((zO.mk r.W.b_ r.W.at_ r.W.e_).b_.length:Int) - (zO.mk r.W.b_ r.W.at_ r.W.e_).at_)=(r.left:Int) from dV r ok])) (λz hz=>?_);subst hz;refine Q2 (λhlt=>?_) (λ_=>Q1 (λ_=>⟨hev,hn⟩));refine Q0 (P:=λz=>z.1.length<2 ^ 40/\∃ r':RS,r'.Ok/\z.2=r'.W/\r'.b=r.b/\(r'.e=0->r'.left<r.left)) (Q3 (vL r 65535 ok) ⟨by have:=zJv r 65535;have:=ok.2;simp;omega,_,nT _ _ ok,rfl,zHq _ _,zQ2 r _ ok⟩) (λz hz=>?_);obtain ⟨bl,x⟩:=z;obtain ⟨hbl,r',ok',rfl,hbb,hgo⟩:=hz;refine Q0 (zUf bl hbl) (λev _=>?_);obtain ⟨ev,er⟩:=ev;refine Q2 (λ_=>Q1 (λh=>by cases h)) (λhne=>?_);refine Q0 (P:=λz=>z=(r'.W.e_,r'.W)) (Q1 rfl) (λz hz=>?_);subst hz;refine Q2 (λ_=>Q1 (λh=>by cases h)) (λhe0=>?_);refine Q0 (P:=λbb=>bb=false->EvC ev act) ?_ (λbb hbb'=>?_)
  ·refine Q2 (λ_=>Q1 (λh=>by cases h)) (λ_=>?_);refine Q0 (zBx ev act) (λc hc=>Q1 (λh=>hc.1 ?_));simpa using h
  refine Q2 (λ_=>Q1 (λh=>by cases h)) (λhbf=>?_);have hE:=hbb' hbf;have hlen:l.length≠40:=by simp at hne;omega
  refine Q0 (Qp (by simp;omega)) (λl' hl'=>?_);refine Q0 (P:=λz=>z.2=r'.W) (Q1 rfl) (λz hz=>?_);obtain ⟨lf,x⟩:=z;simp only at hz;subst hz;refine Q1 ⟨⟨r',rfl,ok',?_,?_⟩,?_⟩
  ·simp only [hl'];intro e he;rcases W7.1 he with h | h
   ·exact hev e h
   ·simp at h;subst h;exact hE
  ·simp only [hl',Q4,List.length_singleton];omega
  ·have he:r'.e=0:=by simpa [RS.W] using he0
   have hg:=hgo he;have:=ok.1;have:=ok'.1;simp only [RS.W,RS.left,hbb] at *;simp only [Q7];omega
 obtain ⟨at1,er,l⟩:=z;exact Q1 (λh=>⟨(hz h).1,(hz h).2⟩)
theorem zRi (b:By):Def (uX b) (λr=>r.2=0->zB8 r.1):=by
 unfold uX;refine Q2 (λ_=>Q1 (λh=>by cases h)) (λh=>?_);refine Q0 (zT8 b (by have:=dF h;omega)) (λz hz=>?_);obtain ⟨l,n,e⟩:=z;refine Q2 (λhe=>Q1 (λh=>?_)) (λhe=>Q1 (λ_=>hz (by simpa using he)));simp only at h;subst h;simp at he
set_option maxRecDepth 100000
theorem yE9:rT 1=some ⟨[bnk 20,[]],0⟩:=by decide +kernel
theorem yDg:rT 2=some ⟨[[],bnk 32],0⟩:=by decide +kernel
theorem yEr:rT 3=some ⟨[bnk 20,bnk 32],0⟩:=by decide +kernel
theorem zWr (active:Int) (h1:1<=active) (h3:active<=3):rT active=some (zQw active):=by
 rcases zQ3 h1 h3 with rfl | rfl | rfl
 ·exact yE9
 ·exact yDg
 ·exact yEr
def sb (c0 c1:Bool):Int:=(if c0 then 1 else 0)+(if c1 then 2 else 0)
theorem ract (b0 b1:List By) (u:Int) (c0 c1:Bool) (h0:((b0.length:Int)==16)=c0) (h1:((b1.length:Int)==16)=c1):pR ⟨[b0,b1],u⟩=some (sb c0 c1):=by
 unfold pR;refine bd (a:=sb c0 c1) ?_ rfl;refine yB (x:=((0:Int),(0:Int))) 2 (λi=>match i with | 0=>((0:Int),(0:Int)) | 1=>(sb c0 false,1) | _=>(sb c0 c1,2)) rfl (λi hi=>?_) ?_ (xI (by omega))
 ·have:i=0∨i=1:=by omega
  rcases this with rfl | rfl
  ·show uC _ (0,0)=some (.inl (sb c0 false,1));unfold uC;refine ct rfl ?_;refine bd (a:=sb c0 false) (bd (a:=c0) (ct rfl (bd (a:=b0) rfl (by rw [h0]))) ?_) rfl;cases c0<;>rfl
  ·show uC _ (sb c0 false,1)=some (.inl (sb c0 c1,2));unfold uC;refine ct rfl ?_;refine bd (a:=sb c0 c1) (bd (a:=c1) (ct rfl (bd (a:=b1) rfl (by rw [h1]))) ?_) rfl;cases c0<;>cases c1<;>rfl
 ·rfl
theorem zXc (b0 b1:List By) (u:Int) (c0 c1:Bool) (h0:((b0.length:Int)==16)=c0) (h1:((b1.length:Int)==16)=c1):uG ⟨[b0,b1],u⟩ 0=some c0/\uG ⟨[b0,b1],u⟩ 1=some c1:=by
 have h:=ract b0 b1 u c0 c1 h0 h1;unfold uG;constructor
 ·refine bd h ?_;cases c0<;>cases c1<;>rfl
 ·refine bd h ?_;cases c0<;>cases c1<;>rfl
theorem zR3 (r:zD) (b0 b1:List By) (hb:r.Banks=[b0,b1]) (l0:b0.length<=16) (l1:b1.length<=16) (h0:∀ x∈b0,x.length<=32) (h1:∀ x∈b1,x.length<=32):mA r=some (b0,b1,r.Updates):=by
 unfold mA;rw [hb];refine ct rfl ?_;refine bd (a:=b0) rfl ?_;refine bd (a:=b0) ?_ ?_
 ·refine yB b0.length (λi=>(b0.take i,(i:Int))) (by simp) (λi hi=>?_) ?_ (xI (by omega))
  ·unfold mK;refine ct (dlt hi) ?_;refine bd (yT hi) ?_;refine bd (yF (by have:=h0 _ (Q8 hi);simp;omega)) ?_;refine bd (yF (by simp;omega)) ?_;rw [yM (show i<2 ^ 40 by omega),Qf];simp [hi]
  ·unfold mK;refine cf (dge (Qe _)) ?_;simp
 refine ct rfl ?_;refine bd (a:=b1) rfl ?_;refine bd (a:=(b1,b0)) ?_ ?_
 ·refine yB b1.length (λi=>(b1.take i,(i:Int),b0)) (by simp) (λi hi=>?_) ?_ (xI (by omega))
  ·unfold mH;refine ct (dlt hi) ?_;refine bd (yT hi) ?_;refine bd (yF (by have:=h1 _ (Q8 hi);simp;omega)) ?_;refine bd (yF (by simp;omega)) ?_;rw [yM (show i<2 ^ 40 by omega),Qf];simp [hi]
  ·unfold mH;refine cf (dge (Qe _)) ?_;simp
 exact cf rfl rfl
set_option maxRecDepth 100000
theorem zL4 (b:By) (hb:b.length<2 ^ 40):wP ((0:Nat):Int) b=some (gG b):=zT5 b hb
theorem zMp (b:By) (hb:b.length<2 ^ 40):wP ((1:Nat):Int) b=some (sha b):=zP7 b hb
theorem zMl (r:zD) (active:Int) (e:zC) (hr:zI9 active r) (he:EvGood e active) (hk:e.Kind≠5):Def (pY r 0 e.Register e.Digests) (λx=>x=(ext active e r,0)):=by
 obtain ⟨⟨b0,b1,hb,l0,l1,m0,m1⟩⟩:=hr;obtain ⟨r0,r1,_,dl,f0,f1⟩:=he;obtain ⟨bs,u⟩:=r;simp only at hb;subst hb;have l0':b0.length<=16:=by rw [l0];split<;>omega
 have l1':b1.length<=16:=by rw [l1];split<;>omega
 unfold Fit at f0 f1;have f0':((e.Digests.getD 0 []).length:Int)<=32:=by rw [f0];split<;>decide
 have f1':((e.Digests.getD 1 []).length:Int)<=32:=by rw [f1];split<;>decide
 have g0:∀ d∈e.Digests,d.length<=32:=by
  intro d hd;obtain ⟨i,hi,rfl⟩:=Ql.mp hd;have hi2:i=0∨i=1:=by omega
  rcases hi2 with rfl | rfl
  ·have:(e.Digests.getD 0 [])=e.Digests[0]:=by simp [hi]
   rw [<- this];omega
  ·have:(e.Digests.getD 1 [])=e.Digests[1]:=by simp [hi]
   rw [<- this];omega
 have i0:idx e.Digests 0=some (e.Digests.getD 0 []):=zD2 (i:=0) (by omega);have i1:idx e.Digests 1=some (e.Digests.getD 1 []):=zD2 (i:=1) (by omega);obtain ⟨a0,a1⟩:=zXc b0 b1 u (xP active 0) (xP active 1) (by rw [l0];cases xP active 0<;>rfl) (by rw [l1];cases xP active 1<;>rfl);unfold pY;refine Q0 (P:=λb=>b=false) ?_ (λb hb=>?_)
 ·refine Q2 (λh=>by cases h) (λ_=>Q2 (λh=>by cases h) (λ_=>?_));refine Q0 (P:=λb=>b=true) ?_ (λb hb=>?_)
  ·unfold kX;refine Q0 (P:=λb=>b=true) ?_ (λb hb=>Q1 hb);refine Q2 (λ_=>Q1 ?_) (λh=>?_)
   ·rw [decide_eq_true_iff];omega
   ·have:=dF h;omega
  subst hb;refine Q2 (λh=>by cases h) (λ_=>Q1 ?_);simp;omega
 subst hb;refine Q2 (λh=>by cases h) (λ_=>?_);refine Q0 (P:=λn=>n=0) ?_ (λn hn=>?_)
 ·unfold k8;refine Q0 (P:=λb=>b=false) (Q1 rfl) (λb hb=>?_);subst hb;refine Q2 (λh=>by cases h) (λ_=>?_);have e14:(e.Register==14)=false:=by simp;omega
  have e15:(e.Register==15)=false:=by simp;omega
  rw [e14,e15];exact Q1 rfl
 subst hn;refine Q2 (λh=>by cases h) (λ_=>?_);refine Q0 (P:=λr=>r=.inr ()) ?_ (λr hr=>?_)
 ·refine Qc (λs=>s=0∨s=1∨s=2) (λs=>2 - s.toNat) (λs hs=>?_) (.inl rfl) (by simp);unfold jE;refine Q2 (λh=>?_) (λh=>Q1 rfl);rcases hs with rfl | rfl | rfl
  ·refine Q0 (P:=λd=>d=e.Digests.getD 0 []) (Q3 i0 rfl) (λd hd=>?_);refine Q0 (P:=λb=>b=false) ?_ (λb hb=>?_)
   ·refine Q0 (P:=λb=>b=xP active 0) (Q3 a0 rfl) (λb hb=>?_);subst hb;refine Q2 (λh=>Q1 ?_) (λ_=>Q1 rfl);have hh:xP active 0=false:=by simpa using h
    rw [if_neg (by show ¬ (e.Kind≠5/\xP active 0=true);rw [hh];simp)] at f0;rw [decide_eq_false_iff_not,hd];omega
   subst hb;exact Q1 ⟨.inr (.inl rfl),by decide⟩
  ·refine Q0 (P:=λd=>d=e.Digests.getD 1 []) (Q3 i1 rfl) (λd hd=>?_);refine Q0 (P:=λb=>b=false) ?_ (λb hb=>?_)
   ·refine Q0 (P:=λb=>b=xP active 1) (Q3 a1 rfl) (λb hb=>?_);subst hb;refine Q2 (λh=>Q1 ?_) (λ_=>Q1 rfl);have hh:xP active 1=false:=by simpa using h
    rw [if_neg (by show ¬ (e.Kind≠5/\xP active 1=true);rw [hh];simp)] at f1;rw [decide_eq_false_iff_not,hd];omega
   subst hb;exact Q1 ⟨.inr (.inr rfl),by decide⟩
  ·have:=dT h;omega
 subst hr;refine Q0 (P:=λr=>r=.inr ()) ?_ (λr hr=>?_)
 ·refine Qc (λs=>s=0∨s=1∨s=2) (λs=>2 - s.toNat) (λs hs=>?_) (.inl rfl) (by simp);unfold jA;refine Q2 (λh=>?_) (λh=>Q1 rfl);rcases hs with rfl | rfl | rfl
  ·refine Q0 (P:=λd=>d=e.Digests.getD 0 []) (Q3 i0 rfl) (λd hd=>?_);refine Q0 (P:=λb=>b=false) ?_ (λb hb=>?_)
   ·refine Q0 (P:=λb=>b=xP active 0) (Q3 a0 rfl) (λb hb=>?_);subst hb;refine Q2 (λh=>?_) (λ_=>Q1 rfl);refine Q0 (P:=λd=>d=siz 0) (Q3 (kD 0) rfl) (λz hz=>Q1 ?_);rw [if_pos ⟨hk,h⟩] at f0;rw [hd,hz];simp;exact f0
   subst hb;exact Q1 ⟨.inr (.inl rfl),by decide⟩
  ·refine Q0 (P:=λd=>d=e.Digests.getD 1 []) (Q3 i1 rfl) (λd hd=>?_);refine Q0 (P:=λb=>b=false) ?_ (λb hb=>?_)
   ·refine Q0 (P:=λb=>b=xP active 1) (Q3 a1 rfl) (λb hb=>?_);subst hb;refine Q2 (λh=>?_) (λ_=>Q1 rfl);refine Q0 (P:=λd=>d=siz 1) (Q3 (kD 1) rfl) (λz hz=>Q1 ?_);rw [if_pos ⟨hk,h⟩] at f1;rw [hd,hz];simp;exact f1
   subst hb;exact Q1 ⟨.inr (.inr rfl),by decide⟩
  ·have:=dT h;omega
 subst hr;refine Q0 (P:=λx=>x=(b0,b1,u)) (Q3 (zR3 _ b0 b1 rfl l0' l1' m0 m1) rfl) (λx hx=>?_);subst hx;obtain ⟨rn,hrn⟩:=Q9 r0;have one:∀ (a:Nat) (bk:List By) (f:By->By) (hbk:idx [b0,b1] (a:Int)=some bk) (h2:a<2) (h16:bk.length=16) (mm:∀ x∈bk,x.length<=32) (hf:∀ z,z.length<2 ^ 40->wP (a:Int) z=some (f z)),
   Def ((idx [b0,b1] (a:Int)).bind λv=>(idx v e.Register).bind λw=>(yN 1 [] w).bind λw'=>(idx e.Digests (a:Int)).bind λd=>(yN 1 w' d).bind λz=>(wP (a:Int) z).bind λs=>(ixN bk.length e.Register).bind λj=>(vJ bk j s).bind λl=>some l)
    (λb=>b=upR true bk e.Register (λx=>f (x++e.Digests.getD a []))):=by
  intro a bk f hbk h2 h16 mm hf;rw [hrn];refine Q0 (P:=λv=>v=bk) (Q3 hbk rfl) (λv hv=>?_);subst hv;have:=zGo mm rn;refine Q0 (P:=λx=>x=v.getD rn []) (Q3 (zD2 (by omega)) rfl) (λx hx=>?_);subst hx;refine Q0 (Qp (by simp only [Qo];omega)) (λy hy=>?_);rw [Qn] at hy;subst hy;have:=zGo g0 a;refine Q0 (P:=λd=>d=e.Digests.getD a []) (Q3 (zD2 (by omega)) rfl) (λd hd=>?_);subst hd;refine Q0 (Qp (by omega)) (λz hz=>?_);have hzl:z.length<2 ^ 40:=by rw [hz,Q4];omega
  refine Q0 (P:=λs=>s=f z) (Q3 (hf z hzl) rfl) (λs hs=>?_);refine Q0 (Wj (by omega) (by omega)) (λj hj=>?_);refine Q0 (Def.upd hj.2) (λq hq=>Q1 ?_);rw [hq,hj.1,hs,hz];rfl
 refine Q0 (P:=λb=>b=upR (xP active 0) b0 e.Register (λx=>gG (x++e.Digests.getD 0 []))) ?_ (λc0 hc0=>?_)
 ·refine Q0 (P:=λb=>b=xP active 0) (Q3 a0 rfl) (λb hb=>?_);subst hb;refine Q2 (λh=>?_) (λh=>Q1 (by rw [h];rfl));rw [if_pos h] at l0;rw [h];exact one 0 b0 gG rfl (by omega) l0 m0 zL4
 refine Q0 (P:=λb=>b=upR (xP active 1) b1 e.Register (λx=>sha (x++e.Digests.getD 1 []))) ?_ (λc1 hc1=>?_)
 ·refine Q0 (P:=λb=>b=xP active 1) (Q3 a1 rfl) (λb hb=>?_);subst hb;refine Q2 (λh=>?_) (λh=>Q1 (by rw [h];rfl));rw [if_pos h] at l1;rw [h];exact one 1 b1 sha rfl (by omega) l1 m1 zMp
 exact Q1 (by rw [hc0,hc1];rfl)
theorem zMu (l:zV) (h:zB8 l) (h1:1<=l.Active) (h3:l.Active<=3):Def (pO l) (λr=>r=(rpl l.Active l.Events,0)):=by
 have hn:=h.n;unfold pO;refine Q0 (P:=λb=>b=false) ?_ (λb hb=>?_)
 ·refine Q2 (λh=>by have:=dT h;omega) (λ_=>Q1 ?_);rw [decide_eq_false_iff_not];omega
 subst hb;refine Q2 (λh=>by cases h) (λ_=>?_);refine Q0 (P:=λr=>r=zQw l.Active) (Q3 (zWr _ h1 h3) rfl) (λrg hrg=>?_);subst hrg;refine Q0 (P:=λr=>match r with | .inl _=>False | .inr z=>(⟨z.1,z.2⟩:zD)=rpl l.Active l.Events) ?_ (λr hr=>?_)
 ·refine Qc (λs=>∃ a:Nat,s.1=(a:Int)/\a<=l.Events.length/\(⟨s.2.1,s.2.2⟩:zD)=rpl l.Active (l.Events.take a)) (λs=>l.Events.length - s.1.toNat) (λs hs=>?_) ⟨0,rfl,by omega,rfl⟩ (by simp;omega);obtain ⟨a',bs,up⟩:=s;obtain ⟨a,k1,k2,k3⟩:=hs;simp only at k1 k3;subst k1;unfold jF;refine Q2 (λhlt=>?_) (λhge=>Q1 ?_)
  ·have ha2:a<l.Events.length:=by have:=dT hlt;omega
   have hE:=h.ev _ (Q8 ha2);refine Q0 (Q5 ha2) (λe he=>?_);subst he;refine Q0 (P:=λr=>r=0) ?_ (λc hc=>?_)
   ·exact zX2 hE
   subst hc;refine Q0 (P:=λz=>z.1=0/\(⟨z.2.1,z.2.2⟩:zD)=rpl l.Active (l.Events.take (a+1))) ?_ (λz hz=>?_)
   ·rw [zMz _ ha2];refine Q0 (P:=λb=>b=(l.Events[a].Kind != 5)) (Q2 (λ_=>Q1 rfl) (λh=>by cases h)) (λb hb=>?_);subst hb;refine Q2 (λhk=>?_) (λhk=>Q1 ⟨rfl,by rw [if_pos (by simpa using hk)];exact k3⟩);have hk':l.Events[a].Kind≠5:=by simpa using hk
    rw [if_neg hk',k3];exact Q0 (zMl _ l.Active _ (zIm _ _ h1 h3) hE.toEvGood hk') (λx hx=>Q1 (by subst hx;exact ⟨rfl,rfl⟩))
   obtain ⟨er,bs',up'⟩:=z;obtain ⟨z1,z2⟩:=hz;simp only at z1 z2;subst z1;refine Q2 (λh=>by cases h) (λ_=>Q1 ?_);rw [yM (by omega)];exact ⟨⟨a+1,rfl,by omega,z2⟩,by simp only [Q7];omega⟩
  ·have:=dF hge;rw [Qb (by omega)] at k3;exact k3
 cases r with
 | inl v=>exact hr.elim
 | inr z=>exact Q1 (by rw [<- hr])
set_option maxRecDepth 100000
theorem yB5:xW 1=some ⟨4095,0⟩:=by decide +kernel
theorem yDv:xW 2=some ⟨0,4095⟩:=by decide +kernel
theorem yEx:xW 3=some ⟨4095,4095⟩:=by decide +kernel
theorem zS2 (active:Int) (h1:1<=active) (h3:active<=3):xW active=some ⟨xQ active 0,xQ active 1⟩:=by
 rcases zQ3 h1 h3 with rfl | rfl | rfl
 ·exact yB5
 ·exact yDv
 ·exact yEx
theorem zSv (r:zD) (a:Int) (v:Int) (bk:List By) (hi:idx r.Banks a=some bk) (hz:v=0∨bk.length=16) (hb:∀ x∈bk,x.length<=32) (all:By) (hl:all.length<=512) :
  zK (oA r a v) FU (all,0)=some (all++kP v bk 16):=by
 refine yB 16 (λi=>(all++kP v bk i,(i:Int))) (by simp [kP]) (λi hi16=>?_) rfl (xI (by decide));unfold oA;refine ct (by simp;omega) ?_;refine bd (zNo hi16 hz hb hl hi) ?_;rw [yM (by omega)]
theorem zLo (r:zD) (active:Int) (hr:zI9 active r):pE r ⟨xQ active 0,xQ active 1⟩=some (dgs active r,0):=by
 obtain ⟨⟨b0,b1,hb,l0,l1,m0,m1⟩⟩:=hr;obtain ⟨bs,u⟩:=r;simp only at hb;subst hb;have s0:=zEd active 0;have s1:=zEd active 1;have z0:xQ active 0=0∨b0.length=16:=by unfold xQ;split at l0<;>simp_all
 have z1:xQ active 1=0∨b1.length=16:=by unfold xQ;split at l1<;>simp_all
 obtain ⟨a0,a1⟩:=zXc b0 b1 u (xP active 0) (xP active 1) (by rw [l0];cases xP active 0<;>rfl) (by rw [l1];cases xP active 1<;>rfl);have n0:=zKx (active:=active) (a:=0) rfl;have n1:=zKx (active:=active) (a:=1) rfl;have hd:dgs active ⟨[b0,b1],u⟩=hs 5 [vI (vI [] 2 (xQ active 0)) 2 (xQ active 1),kP (xQ active 0) b0 16++kP (xQ active 1) b1 16]:=rfl;rw [hd];generalize xQ active 0=x0 at s0 z0 n0;generalize xQ active 1=x1 at s1 z1 n1;have e0:=fU m0 x0 16;have e1:=fU m1 x1 16;have d0:=zSv ⟨[b0,b1],u⟩ 0 x0 b0 rfl z0 m0 [] (by simp);have d1:=zSv ⟨[b0,b1],u⟩ 1 x1 b1 rfl z1 m1 (kP x0 b0 16) (by omega);rw [Qn] at d0;generalize kP x0 b0 16=t0 at *;generalize kP x1 b1 16=t1 at *;have rng:∀ x:Int,0<=x/\x<=65535->(bif decide (x<0) then some true else some (decide (65535<x)):Option Bool)=some false:=by
  intro x hx;refine cf (by simp;omega) ?_;rw [show decide (65535<x)=false by simp;omega]
 have act:∀ (x:Int) (o:Option Bool) (b:Bool),o=some b->(x != 0&&!b)=false->(bif x != 0 then (o.bind λb=>some (!b)) else some false:Option Bool)=some false:=by
  intro x o b ho hn;subst ho;cases h:x != 0
  ·rfl
  ·rw [h] at hn;exact congrArg some hn
 unfold pE;refine bd (a:=.inr (vI (vI [] 2 x0) 2 x1)) (two (b:=(vI [] 2 x0,1)) (c:=(vI (vI [] 2 x0) 2 x1,2)) ?_ ?_ rfl) ?_
 ·unfold oF;refine ct rfl ?_;refine bd (a:=x0) rfl ?_;refine bd (a:=false) (rng x0 s0) ?_;refine cf rfl ?_;exact bd (tT [] 2 x0 (by omega) (by omega) (by simp)) rfl
 ·unfold oF;refine ct rfl ?_;refine bd (a:=x1) rfl ?_;refine bd (a:=false) (rng x1 s1) ?_;refine cf rfl ?_;exact bd (tT _ 2 x1 (by omega) (by omega) (by rw [yI];simp)) rfl
 refine bd (a:=.inr (t0++t1)) (two (b:=(t0,1)) (c:=(t0++t1,2)) ?_ ?_ rfl) ?_
 ·unfold oG;refine ct rfl ?_;refine bd (a:=x0) rfl ?_;refine bd (a:=false) (act x0 _ _ a0 n0) ?_;refine cf rfl ?_;exact bd d0 rfl
 ·unfold oG;refine ct rfl ?_;refine bd (a:=x1) rfl ?_;refine bd (a:=false) (act x1 _ _ a1 n1) ?_;refine cf rfl ?_;exact bd d1 rfl
 exact bd (iK _ _ (by rw [zOs,yI,yI,Q4];simp only [Qo];omega)) rfl
theorem zLs (l:zV) (h:zB8 l) (h1:1<=l.Active) (h3:l.Active<=3):oS l ⟨xQ l.Active 0,xQ l.Active 1⟩=some (dgs l.Active (rpl l.Active l.Events),0):=by
 obtain ⟨r,hr,rfl⟩:=zMu l h h1 h3;unfold oS;refine bd hr ?_;refine cf rfl ?_;exact bd (zLo _ l.Active (zIm _ _ h1 h3)) rfl
set_option maxRecDepth 100000
set_option maxRecDepth 100000
theorem or5 {a b c d e:Bool}:Def (bif a then some true else bif b then some true else bif c then some true else bif d then some true else some e) (λr=>r=(a||b||c||d||e)):=by
 cases a<;>cases b<;>cases c<;>cases d<;>cases e<;>exact Q1 rfl
theorem zE7 (s:By):Def (wD s) (λb=>b=true->s.length<=12):=by
 unfold wD;refine Q0 (P:=λe=>e=0->s.length<=12) ?_ (λe he=>Q1 (λh=>he (by simpa using h)));unfold gV;refine Q0 (P:=λb=>b=false) (Q1 rfl) (λb hb=>?_);subst hb;refine Q2 (λh=>by cases h) (λ_=>?_);refine Q0 (P:=λb=>b=true->s.length<=12) (Q1 (λh=>by simp at h;omega)) (λb hb=>?_);refine Q2 (λ_=>Q1 (λh=>by cases h)) (λh=>?_);have:=hb (by simpa using h);refine Q2 (λ_=>Q1 (λh=>by cases h)) (λ_=>?_);refine Q0 (P:=λb=>b=false) (Q1 rfl) (λb hb=>?_);subst hb;exact Q2 (λh=>by cases h) (λ_=>Q1 (λ_=>this))
theorem zMc (x y:Int):Def (rK x y) (λr=>r=if x<y then -1 else if y<x then 1 else 0):=by
 unfold rK;have e:∀ x:Int,oQ x=some false:=λx=>by simp [oQ]
 refine Q0 (P:=λb=>b=false) (Q3 (e x) rfl) (λb hb=>?_);subst hb;refine Q0 (P:=λb=>b=false) (Q3 (e y) rfl) (λb hb=>?_);subst hb;refine Q2 (λh=>by cases h) (λ_=>Q2 (λh=>by cases h) (λ_=>Q2 (λh=>Q1 ?_) (λh=>Q2 (λh2=>Q1 ?_) (λh2=>Q1 ?_))))
 ·rw [if_pos (dT h)]
 ·rw [if_neg (dF h),if_pos (dT h2)]
 ·rw [if_neg (dF h),if_neg (dF h2)]
def fnz:List Int->Int
 | []=>0
 | x :: r=>if x=0 then fnz r else x
theorem zVk (l:List Int) (hl:l.length<2 ^ 40):Def (dC l) (λr=>r=fnz l):=by
 unfold dC;refine Q0 (P:=λr=>(match r with | .inl r=>r | .inr _=>0)=fnz l) ?_ (λr hr=>?_)
 ·refine Qc (λs=>∃ i:Nat,s=(i:Int)/\i<=l.length/\fnz (l.drop i)=fnz l) (λs=>l.length - s.toNat) (λs hs=>?_) ⟨0,rfl,by omega,rfl⟩ (by simp;omega);obtain ⟨i,rfl,hi,hf⟩:=hs;unfold zBp;refine Q2 (λh=>?_) (λh=>Q1 ?_)
  ·have hi2:i<l.length:=by have:=dT h;omega
   refine Q0 (Q5 hi2) (λd hd=>?_);have e:fnz l=if d=0 then fnz (l.drop (i+1)) else d:=by rw [<- hf,W1 hi2,hd];rfl
   refine Q2 (λhn=>Q1 ?_) (λhn=>Q1 ?_)
   ·rw [if_neg (by simpa using hn)] at e;exact e.symm
   ·rw [if_pos (by simpa using hn)] at e;rw [yM (by omega)];exact ⟨⟨i+1,rfl,by omega,e.symm⟩,by simp only [Q7];omega⟩
  ·have:i=l.length:=by have:=dF h;omega
   rw [<- hf,this,W3];rfl
 ·cases r with
  | inl r=>exact Q1 hr
  | inr u=>exact Q1 hr
def ord (x y:zS):Int:=fnz [if x.Role<y.Role then -1 else if y.Role<x.Role then 1 else 0,Q6 x.Name y.Name,if x.Version<y.Version then -1 else if y.Version<x.Version then 1 else 0,Q6 x.Digest y.Digest]
theorem zG6 (x y:zS):Def (sZ x y) (λr=>r=ord x y):=by
 unfold sZ;refine Q0 (zMc _ _) (λa ha=>?_);refine Q0 (P:=λr=>r=Q6 x.Name y.Name) (Q1 rfl) (λb hb=>?_);refine Q0 (zMc _ _) (λc hc=>?_);refine Q0 (P:=λr=>r=Q6 x.Digest y.Digest) (Q1 rfl) (λd hd=>?_);subst ha hb hc hd;exact Q0 (zVk _ (by simp)) (λr hr=>Q1 hr)
theorem zU7:∀ a b:By,Op.bytesLess a b=true->Q6 a b=-1
 | [],[],h=>by cases h
 | [],_ :: _,_=>rfl
 | _ :: _,[],h=>by cases h
 | x :: a,y :: b,h=>by
  simp only [Op.bytesLess,Wo,Bool.and_eq_true,decide_eq_true_eq,beq_iff_eq] at h;unfold Q6;by_cases hxy:x<y
  ·rw [if_pos hxy]
  ·rcases h with h | ⟨rfl,h⟩
   ·exact absurd h hxy
   ·rw [if_neg hxy,if_neg hxy];exact zU7 a b h
theorem zR0:∀ a:By,Q6 a a=0
 | []=>rfl
 | x :: a=>by
  have hx:¬ x<x:=by rw [W8];omega
  unfold Q6;rw [if_neg hx,if_neg hx];exact zR0 a
theorem yAm {x y:zS} (h:bfr x y=true):ord x y<0:=by
 unfold bfr at h;unfold ord;by_cases hr:x.Role=y.Role
 ·rw [if_neg (by simp [hr])] at h;rw [if_neg (by omega),if_neg (by omega)];by_cases hn:x.Name=y.Name
  ·rw [if_neg (by simp [hn])] at h;rw [hn,zR0];by_cases hv:x.Version=y.Version
   ·rw [if_neg (by simp [hv])] at h;rw [if_neg (by omega),if_neg (by omega),zU7 _ _ h];decide
   ·rw [if_pos hv] at h;have:=dT h;rw [if_pos this];simp [fnz]
  ·rw [if_pos hn] at h;rw [zU7 _ _ h];simp [fnz]
 ·rw [if_pos hr] at h;have:=dT h;rw [if_pos this];simp [fnz]
theorem zKd {α:Type} {c:UInt8} {f:Bool->Option α} {Q:α->Prop} (h:Def (f (decide (c.toNat<32)||decide (126<c.toNat))) Q) :
  Def ((bif decide ((c.toNat:Int)<32) then (some true) else some (decide (126<(c.toNat:Int))):Option Bool).bind f) Q:=by
 have e:(bif decide ((c.toNat:Int)<32) then (some true) else some (decide (126<(c.toNat:Int))):Option Bool)=some (decide (c.toNat<32)||decide (126<c.toNat)):=by
  have h1:decide ((c.toNat:Int)<32)=decide (c.toNat<32):=decide_eq_decide.2 (by omega);have h2:decide (126<(c.toNat:Int))=decide (126<c.toNat):=decide_eq_decide.2 (by omega);rw [h1,h2];cases decide (c.toNat<32)<;>rfl
 rw [e];exact h
theorem zHt (r:yL) (h:r.Text.length<2 ^ 40):Def (tZ r) (λc=>c=0->r.Text.length<=32):=by
 unfold tZ;refine Q0 (P:=λ_=>True) (Q2 (λ_=>Q1 trivial) (λ_=>Q1 trivial)) (λb _=>?_);refine Q2 (λ_=>Q1 (λh=>by cases h)) (λ_=>?_);refine Q0 (vD r.Text (wR r) (λ_=>True) (λb=>b=1) h (λi hi=>?_) ?_) (λy hy=>?_)
 ·unfold wR;refine Q2 (λ_=>?_) (λh=>by have:=dF h;omega);refine Q0 (Q5 hi) (λc _=>?_);refine zKd ?_;refine Q2 (λ_=>Q1 rfl) (λ_=>Q1 ⟨yM (by omega),trivial⟩)
 ·unfold wR;exact cf (by simp) rfl
 ·cases y with
  | inl b=>exact Q1 (λh=>by rw [h] at hy;cases hy)
  | inr u=>
   refine Q0 (P:=λ_=>True) (Q2 (λ_=>Q2 (λ_=>Q1 trivial) (λ_=>Q2 (λ_=>Q1 trivial) (λ_=>Q1 trivial))) (λ_=>Q1 trivial)) (λb _=>?_);refine Q2 (λ_=>Q1 (λh=>by cases h)) (λ_=>?_);refine Q0 (P:=λ_=>True) (Q2 (λ_=>Q2 (λ_=>Q1 trivial) (λ_=>Q1 trivial)) (λ_=>Q1 trivial)) (λb _=>?_);refine Q2 (λ_=>Q1 (λh=>by cases h)) (λ_=>?_);refine Q0 (P:=λ_=>True) (Q2 (λ_=>Q1 trivial) (λ_=>Q1 trivial)) (λb _=>?_);refine Q2 (λ_=>Q1 (λh=>by cases h)) (λ_=>?_);exact Q2 (λ_=>Q1 (λh=>by cases h)) (λh=>Q1 (λ_=>by have:=dF h;omega))
structure yBc (m:zG):Prop where
 n:m.Entries.length<=16
 k:m.Rules.length<=8
 e:∀ i,(h:i<m.Entries.length)->1<=m.Entries[i].Role/\m.Entries[i].Role<=3/\0<=m.Entries[i].Version/\m.Entries[i].Version<=1000000/\m.Entries[i].Name.length<=12
 r:∀ i,(h:i<m.Rules.length)->m.Rules[i].Text.length<2 ^ 40
theorem zOf (m:zG) (h:MOk m):Def (s5 m) (λc=>c=0->yBc m):=by
 unfold s5;refine Q0 (zE7 _) (λb _=>?_);refine Q2 (λ_=>Q1 (λh=>by cases h)) (λ_=>?_);refine Q0 (P:=λ_=>True) (Q2 (λ_=>Q1 trivial) (λ_=>Q2 (λ_=>Q1 trivial) (λ_=>Q2 (λ_=>Q1 trivial) (λ_=>Q2 (λ_=>Q1 trivial) (λ_=>Q2 (λ_=>Q1 trivial) (λ_=>Q1 trivial)))))) (λb _=>?_);refine Q2 (λ_=>Q1 (λh=>by cases h)) (λ_=>?_);refine Q0 (P:=λb=>b=false->m.Entries.length<=16/\m.Rules.length<=8) (Q2 (λ_=>Q1 (λh=>by cases h)) (λh1=>Q1 (λh2=>⟨by have:=dF h1;omega,by have:=dF h2;omega⟩))) (λb hb=>?_);refine Q2 (λ_=>Q1 (λh=>by cases h)) (λhf=>?_);obtain ⟨n,k⟩:=hb hf;refine Q0 (vD m.Entries (wB m) (λi=>∀ h:i<m.Entries.length,1<=m.Entries[i].Role/\m.Entries[i].Role<=3/\0<=m.Entries[i].Version/\m.Entries[i].Version<=1000000/\m.Entries[i].Name.length<=12) (λb=>b≠0) (by omega) (λi hi=>?_) ?_) (λy hy=>?_)
 ·unfold wB;refine Q2 (λ_=>?_) (λh=>by have:=dF h;omega);refine Q0 (Q5 hi) (λx hx=>?_);refine Q0 or5 (λb hb=>?_);refine Q2 (λ_=>Q1 (by show (1:Int)≠0;decide)) (λhbf=>?_);rw [hbf] at hb;simp only [Bool.false_eq,Qu,decide_eq_false_iff_not] at hb;refine Q0 (zE7 _) (λb2 hb2=>?_);refine Q2 (λ_=>Q1 (by show (43:Int)≠0;decide)) (λhn=>?_);have hn':=hb2 (by simpa using hn);refine Q0 (P:=λ_=>True) ?_ (λ_ _=>?_)
  ·refine Q2 (λh0=>?_) (λ_=>Q1 trivial);have:0<i:=by have:=dT h0;omega
   rw [show Qa.wrap ((i:Int) - 1)=((i - 1:Nat):Int) by rw [zZ (by omega) (by omega)];omega];refine Q0 (Q5 (show i - 1<m.Entries.length by omega)) (λy _=>?_);exact Q0 (zG6 _ _) (λ_ _=>Q1 trivial)
  ·refine Q2 (λ_=>Q1 (by show (41:Int)≠0;decide)) (λ_=>Q1 ⟨yM (by omega),λ_=>?_⟩);rw [<- hx];refine ⟨by omega,by omega,by omega,by omega,hn'⟩
 ·unfold wB;exact cf (by simp) rfl
 cases y with
 | inl b=>exact Q1 (λh=>absurd h hy)
 | inr u=>
  refine Q0 (vD m.Rules (x9 m) (λ_=>True) (λb=>b≠0) (by omega) (λi hi=>?_) ?_) (λz hz=>?_)
  ·unfold x9;refine Q2 (λ_=>?_) (λh=>by have:=dF h;omega);refine Q0 (Q5 hi) (λx hx=>?_);refine Q0 (zHt x (by rw [hx];exact h _ (Q8 _))) (λc _=>?_);exact Q2 (λhc=>Q1 (by simpa using hc)) (λ_=>Q1 ⟨yM (by omega),trivial⟩)
  ·unfold x9;exact cf (by simp) rfl
  cases z with
  | inl b=>exact Q1 (λh=>absurd h hz)
  | inr u=>exact Q1 (λ_=>⟨n,k,λi hi=>hy i hi hi,λi hi=>h _ (Q8 _)⟩)
set_option maxRecDepth 100000
theorem zXn {K a' b' c c':Nat} (hb:b'<K) (hc:c'<K) (h:a'<a∨(a'=a/\(b'<b∨(b'=b/\c'<c)))):a'*(K*K)+b'*K+c'<a*(K*K)+b*K+c:=by
 rcases h with h | ⟨rfl,h | ⟨rfl,h⟩⟩
 ·have h1:(a'+1)*(K*K)<=a*(K*K):=Qv _ h;have h2:(b'+1)*K<=K*K:=Qv _ hb;rw [Nat.add_mul,Nat.one_mul] at h1 h2;omega
 ·have h2:(b'+1)*K<=b*K:=Qv _ h;rw [Nat.add_mul,Nat.one_mul] at h2;omega
 ·omega
theorem zSq (p l:By) (hp:p.length<=32) (hl:l.length<=64):Def (nD p l) (λ_=>True):=by
 unfold nD;refine Q0 (P:=λr=>match r with | .inl _=>True | .inr q=>0<=q/\q<=(p.length:Int)) ?_ (λy hy=>?_)
 ·refine Qc (λst=>∃ (a b r:Nat) (s:Int),st=((a:Int),(b:Int),s,(r:Int))/\a<=p.length/\b<=l.length/\-1<=s/\s<p.length/\r<=b/\s<a)
   (λst=>((p.length:Int) - st.2.2.1).toNat*((l.length+2)*(l.length+2))+(l.length+1 - st.2.2.2.toNat)*(l.length+2)+(l.length+1 - st.2.1.toNat)) (λst hs=>?_) ⟨0,0,0,-1,rfl,by omega,by omega,by omega,by omega,by omega,by omega⟩ ?_
  ·obtain ⟨a,b,r,s,rfl,ha,hb,hs1,hs2,hr,hsa⟩:=hs;unfold oT;refine Q2 (λh=>?_) (λ_=>Q1 ⟨by omega,by omega⟩);have hbl:b<l.length:=by have:=dT h;omega
   refine Q0 (P:=λx=>x=true->a<p.length) ?_ (λx hx=>?_)
   ·refine Q2 (λh=>?_) (λ_=>Q1 (λh=>by cases h));have:=dT h;exact Q0 (Q5 (show a<p.length by omega)) (λ_ _=>Q1 (λ_=>by omega))
   refine Q2 (λhxt=>Q1 ?_) (λ_=>?_)
   ·have:=hx hxt;rw [yM (show a<2 ^ 40 by omega)];refine ⟨⟨a+1,b,b,(a:Int),rfl,by omega,by omega,by omega,by omega,by omega,by omega⟩,?_⟩;refine zXn ?_ ?_ (.inl ?_)<;>simp only [Q7]<;>omega
   refine Q0 (P:=λx=>x=true->a<p.length) ?_ (λx hx=>?_)
   ·refine Q2 (λh=>?_) (λ_=>Q1 (λh=>by cases h));have:=dT h;refine Q0 (Q5 (show a<p.length by omega)) (λ_ _=>?_);refine Q2 (λ_=>Q1 (λ_=>by omega)) (λ_=>?_);refine Q0 (Q5 (show a<p.length by omega)) (λ_ _=>?_);exact Q0 (Q5 hbl) (λ_ _=>Q1 (λ_=>by omega))
   refine Q2 (λhxt=>Q1 ?_) (λ_=>?_)
   ·have:=hx hxt;rw [yM (show a<2 ^ 40 by omega),yM (show b<2 ^ 40 by omega)];refine ⟨⟨a+1,b+1,r,s,rfl,by omega,by omega,by omega,by omega,by omega,by omega⟩,?_⟩;refine zXn ?_ ?_ (.inr ⟨rfl,.inr ⟨rfl,?_⟩⟩)<;>simp only [Q7]<;>omega
   refine Q2 (λh=>Q1 ?_) (λ_=>Q1 trivial);have h0:0<=s:=dT h;obtain ⟨n,rfl⟩:=Q9 h0;rw [yM (show n<2 ^ 40 by omega),yM (show r<2 ^ 40 by omega)];refine ⟨⟨n+1,r+1,r+1,(n:Int),rfl,by omega,by omega,by omega,by omega,by omega,by omega⟩,?_⟩;refine zXn ?_ ?_ (.inr ⟨rfl,.inl ?_⟩)<;>simp only [Q7]<;>omega
  ·have h1:((p.length:Int) - -1).toNat<=33:=by omega
   have h2:(l.length+2)*(l.length+2)<=66*66:=W9 (by omega) (by omega);have h3:((p.length:Int) - -1).toNat*((l.length+2)*(l.length+2))<=33*(66*66):=W9 h1 h2;have h4:(l.length+1 - (0:Int).toNat)*(l.length+2)<=65*66:=W9 (by omega) (by omega);have h5:l.length+1 - (0:Int).toNat<=65:=by omega
   simp only;omega
 ·cases y with
  | inl b=>exact Q1 trivial
  | inr q=>
   refine Q0 (Qk hy.1 (by exact_mod_cast hy.2) (by omega)) (λv hv=>?_);have hvl:v.length<=p.length:=by rw [hv];simp
   refine Q0 (P:=λ_=>True) ?_ (λ_ _=>Q1 trivial);unfold pL;refine Q0 (P:=λ_=>True) (Q2 (λ_=>Q1 trivial) (λ_=>Q1 trivial)) (λb _=>?_);refine Q2 (λ_=>Q1 trivial) (λ_=>?_);refine Q0 (P:=λb=>b=true) (Q1 rfl) (λb hb=>?_);subst hb;refine Q2 (λ_=>?_) (λh=>by cases h);refine Q0 (P:=λ_=>True) (Q1 trivial) (λc _=>?_);refine Q0 (P:=λr=>r.length<=v.length) ?_ (λw hw=>?_)
   ·unfold w6;refine Q0 (P:=λr=>r.length<=v.length) ?_ (λw hw=>Q1 hw);refine Qc (λw=>w.length<=v.length) (λw=>w.length) (λw hw=>?_) (Qe _) (by omega);unfold sD;refine Q0 (P:=λb=>b=true->0<w.length) ?_ (λb hb=>?_)
    ·refine Q2 (λh=>?_) (λ_=>Q1 (λh=>by cases h));have:=dT h;rw [zZ (by omega) (by omega)];exact Q0 (Def.idx (by omega) (by omega)) (λ_ _=>Q1 (λ_=>by omega))
    refine Q2 (λh=>?_) (λ_=>Q1 hw);have:=hb h;rw [zZ (by omega) (by omega)];refine Q0 (Qk (by decide) (by omega) (by omega)) (λx hx=>Q1 ?_);have:x.length=w.length - 1:=by rw [hx];simp
    exact ⟨by omega,by omega⟩
   refine Q0 (P:=λ_=>True) (Q1 trivial) (λc _=>?_);refine Q0 (P:=λ_=>True) ?_ (λ_ _=>Q1 trivial);unfold vQ;refine Q0 (P:=λ_=>True) ?_ (λw hw=>Q1 hw);refine Qc (λw=>w.length<=v.length) (λw=>w.length) (λw hw=>?_) hw (by omega);unfold sY;refine Q0 (P:=λb=>b=true->0<w.length) ?_ (λb hb=>?_)
   ·refine Q2 (λh=>?_) (λ_=>Q1 (λh=>by cases h));have:=dT h;exact Q0 (Def.idx (by omega) (by omega)) (λ_ _=>Q1 (λ_=>by omega))
   refine Q2 (λh=>?_) (λ_=>Q1 trivial);have:=hb h;refine Q0 (Qk (by decide) (by omega) (by omega)) (λx hx=>Q1 ?_);have:x.length=w.length - 1:=by rw [hx];simp
   exact ⟨by omega,by omega⟩
set_option maxRecDepth 100000
inductive G:By->By->Prop
 | nil:G [] []
 | star0 {p l:By}:G p l->G (42 :: p) l
 | star1 {p l:By} {c:UInt8}:G (42 :: p) l->G (42 :: p) (c :: l)
 | one {p l:By} {x c:UInt8}:x≠42->(x=63∨x=c)->G p l->G (x :: p) (c :: l)
theorem zNn:G [] l↔l=[]:=⟨λh=>by cases h;rfl,λh=>by subst h;exact .nil⟩
theorem bZ:G (42 :: p) l↔∃ k,k<=l.length/\G p (l.drop k):=by
 constructor
 ·intro h;generalize hq:(42 :: p:By)=q at h;induction h with
  | nil=>cases hq
  | star0 h _=>cases hq;exact ⟨0,by omega,h⟩
  | star1 _ ih=>
   obtain ⟨k,hk,hg⟩:=ih hq;exact ⟨k+1,by simp;omega,by simpa using hg⟩
  | one hx _ _ _=>cases hq;exact absurd rfl hx
 ·rintro ⟨k,hk,hg⟩;induction k generalizing l with
  | zero=>exact .star0 (by simpa using hg)
  | succ k ih=>
   cases l with
   | nil=>simp at hk
   | cons c t=>exact .star1 (ih (by simp at hk;omega) (by simpa using hg))
theorem aJ {x:UInt8} (hx:x≠42):G (x :: p) l↔∃ c t,l=c :: t/\(x=63∨x=c)/\G p t:=by
 constructor
 ·intro h;cases h with
  | star0 _=>exact absurd rfl hx
  | star1 _=>exact absurd rfl hx
  | one _ h1 h2=>exact ⟨_,_,rfl,h1,h2⟩
 ·rintro ⟨c,t,rfl,h1,h2⟩;exact .one hx h1 h2
theorem zFr:∀ (p q l:By),G (p++q) l↔∃ k,k<=l.length/\G p (l.take k)/\G q (l.drop k)
 | [],q,l=>by
  constructor
  ·intro h;exact ⟨0,by omega,by simpa using G.nil,by simpa using h⟩
  ·rintro ⟨k,hk,h1,h2⟩;have h1:=zNn.1 h1;have:k=0∨l=[]:=by
    cases k with
    | zero=>exact .inl rfl
    | succ k=>cases l with
     | nil=>exact .inr rfl
     | cons c t=>cases h1
   rcases this with rfl | rfl
   ·simpa using h2
   ·simpa using h2
 | x :: p,q,l=>by
  by_cases hx:x=42
  ·subst hx;rw [Wl,bZ];constructor
   ·rintro ⟨j,hj,h⟩;obtain ⟨k,hk,h1,h2⟩:=(zFr p q _).1 h;rw [Qh] at hk;refine ⟨j+k,by omega,bZ.2 ⟨j,by simp;omega,?_⟩,by rw [<- Qd];exact h2⟩;rw [Wq,show j+k - j=k by omega];exact h1
   ·rintro ⟨k,hk,h1,h2⟩;obtain ⟨j,hj,h3⟩:=bZ.1 h1;rw [Qg] at hj;refine ⟨j,by omega,(zFr p q _).2 ⟨k - j,by simp;omega,by rw [Wq] at h3;exact h3,?_⟩⟩;rw [Qd,show j+(k - j)=k by omega];exact h2
  ·rw [Wl,aJ hx];constructor
   ·rintro ⟨c,t,rfl,h1,h2⟩;obtain ⟨k,hk,h3,h4⟩:=(zFr p q t).1 h2;exact ⟨k+1,by simp;omega,(aJ hx).2 ⟨c,t.take k,by simp,h1,h3⟩,by simpa using h4⟩
   ·rintro ⟨k,hk,h1,h2⟩;obtain ⟨c,t,he,h3,h4⟩:=(aJ hx).1 h1;cases l with
    | nil=>simp at he
    | cons c' t'=>
     cases k with
     | zero=>simp at he
     | succ k=>
      simp only [List.take_succ_cons,List.cons.injEq] at he;obtain ⟨rfl,rfl⟩:=he;exact ⟨c',t',rfl,h3,(zFr p q t').2 ⟨k,by simp at hk;omega,h4,by simpa using h2⟩⟩
theorem zW5:∀ (p l:By),(∀ x∈p,x≠42)->G p l->l.length=p.length
 | [],l,_,h=>by rw [zNn.1 h]
 | x :: p,l,hx,h=>by
  obtain ⟨c,t,rfl,_,h2⟩:=(aJ (hx x (Qy ..))).1 h;simp [zW5 p t (λy hy=>hx y (Qm _ hy)) h2]
theorem zLh:∀ p:By,G p []↔∀ x∈p,x=42
 | []=>⟨λ_ x h=>(by cases h),λ_=>.nil⟩
 | x :: p=>by
  by_cases hx:x=42
  ·subst hx;rw [bZ];constructor
   ·rintro ⟨k,hk,h⟩ y hy;rw [List.drop_nil] at h;rcases Wf.1 hy with rfl | hy
    ·rfl
    ·exact (zLh p).1 h y hy
   ·intro h;exact ⟨0,by simp,(zLh p).2 (λy hy=>h y (Qm _ hy))⟩
  ·constructor
   ·intro h;obtain ⟨c,t,he,_⟩:=(aJ hx).1 h;cases he
   ·intro h;exact absurd (h x (Qy ..)) hx
theorem b42 (c:UInt8):((c.toNat:Int)==42)=true↔c=42:=by
 rw [beq_iff_eq];exact ⟨λh=>Qj.mp (by show c.toNat=42;omega),λh=>by subst h;rfl⟩
theorem b63 (c:UInt8):((c.toNat:Int)==63)=true↔c=63:=by
 rw [beq_iff_eq];exact ⟨λh=>Qj.mp (by show c.toNat=63;omega),λh=>by subst h;rfl⟩
theorem bcc (c d:UInt8):((c.toNat:Int)==(d.toNat:Int))=true↔c=d:=by
 rw [beq_iff_eq];exact ⟨λh=>Qj.mp (by omega),λh=>by subst h;rfl⟩
theorem zJx {i:Nat} (h:i<l.length):l.drop i=l[i] :: l.drop (i+1):=W1 h
structure GI (p l:By) (a b r:Nat) (s:Int):Prop where
 ka:a<=p.length
 kb:b<=l.length
 kr:r<=b
 s1:-1<=s
 sa:s<a
 sp:s<p.length
 n:s=-1->(G p l↔G (p.drop a) (l.drop b))
 y:∀ n:Nat,s=(n:Int)->a=n+1+(b - r)/\(∀ x∈(p.drop (n+1)).take (b - r),x≠42)/\(G p l↔∃ j,r<=j/\j<=l.length/\G (p.drop (n+1)) (l.drop j))/\(G (p.drop (n+1)) (l.drop r)↔G (p.drop a) (l.drop b))
theorem GI.seg (h:GI p l a b r (n:Int)):p.drop (n+1)=(p.drop (n+1)).take (b - r)++p.drop a/\((p.drop (n+1)).take (b - r)).length=b - r:=by
 obtain ⟨h1,_⟩:=h.y n rfl;have:=h.ka;refine ⟨?_,by simp;omega⟩;have e:p.drop a=(p.drop (n+1)).drop (b - r):=by rw [Qd,<- h1]
 rw [e,List.take_append_drop]
theorem GI.far (h:GI p l a b r (n:Int)) {j:Nat} (hj:j<=l.length) (hg:G (p.drop (n+1)) (l.drop j)):j+(b - r)<=l.length/\G (p.drop a) (l.drop (j+(b - r))):=by
 obtain ⟨_,h2,_⟩:=h.y n rfl;obtain ⟨e,hl⟩:=h.seg;rw [e] at hg;obtain ⟨k,hk,g1,g2⟩:=(zFr _ _ _).1 hg;have:=zW5 _ _ h2 g1;rw [hl,Qg,Qh] at this;rw [Qh] at hk;have hkk:k=b - r:=by omega
 subst hkk;rw [Qd] at g2;exact ⟨by omega,g2⟩
end Go.Proofs.TT
namespace Go.Sw
open Go
theorem zGx {X Y:Type} {step:X->Option (X ⊕ Y)} (I:X->Prop) (O:Y->Prop) (h:∀ s,I s->Def (step s) (λr=>match r with | .inl s'=>I s' | .inr y=>O y)):∀ (n:Nat) (s:X),I s->∀ y,zK step n s=some y->O y
 | 0,_,_,y,hy=>by cases hy
 | n+1,s,hs,y,hy=>by
  obtain ⟨r,hr,hI⟩:=h s hs;simp only [zK] at hy;rw [hr] at hy;cases r with
  | inl s'=>exact zGx I O h n s' hI y hy
  | inr z=>cases hy;exact hI
end Go.Sw
namespace Go.Proofs.TT
open Go Go.Sw
set_option maxRecDepth 100000
variable {a b:Nat}{c:Bool}{i k:Nat}{l:By}{m n:Nat}{p:By}{r:RS}{rest:By}{s:Int}{u:Bool}{x:By}{α β:Type}{b':α}{f g:α->Option β}{o:Option α}
theorem GI.star {r:Nat} (h:GI p l a b r s) (ha:a<p.length) (h42:p[a]=42):GI p l (a+1) b b (a:Int):=by
 have hb:=h.kb;refine ⟨by omega,hb,Qe _,by omega,by omega,by omega,λh=>by omega,λn hn=>?_⟩;have:n=a:=by omega
 subst this;refine ⟨by omega,by simp,?_,Iff.rfl⟩;have hd:p.drop n=42 :: p.drop (n+1):=by rw [zJx ha,h42]
 by_cases hs:s=-1
 ·rw [h.n hs,hd,bZ];constructor
  ·rintro ⟨k,hk,hg⟩;rw [Qh] at hk;rw [Qd] at hg;exact ⟨b+k,by omega,by omega,hg⟩
  ·rintro ⟨j,h1,h2,hg⟩;refine ⟨j - b,by simp;omega,?_⟩;rw [Qd,show b+(j - b)=j by omega];exact hg
 ·obtain ⟨m,rfl⟩:=Q9 (by have:=h.s1;omega:0<=s);have hy:=h.y m rfl;rw [hy.2.2.1];constructor
  ·rintro ⟨j,h1,h2,hg⟩;obtain ⟨f1,f2⟩:=h.far h2 hg;rw [hd,bZ] at f2;obtain ⟨k,hk,hg2⟩:=f2;rw [Qh] at hk;rw [Qd] at hg2;have:=h.kr;exact ⟨j+(b - r)+k,by omega,by omega,hg2⟩
  ·rintro ⟨j,h1,h2,hg⟩;have hr:=h.kr;refine ⟨r,Qe _,by omega,hy.2.2.2.2 ?_⟩;rw [hd,bZ];refine ⟨j - b,by simp;omega,?_⟩;rw [Qd,show b+(j - b)=j by omega];exact hg
theorem GI.one {r:Nat} (h:GI p l a b r s) (ha:a<p.length) (hb:b<l.length) (h42:p[a]≠42) (hm:p[a]=63∨p[a]=l[b]):GI p l (a+1) (b+1) r s:=by
 have hr:=h.kr;have hs:=h.s1;have hsa:=h.sa;have step:G (p.drop a) (l.drop b)↔G (p.drop (a+1)) (l.drop (b+1)):=by
  rw [zJx ha,zJx hb,aJ h42];constructor
  ·rintro ⟨c,t,he,_,hg⟩;injection he with e1 e2;rw [e2];exact hg
  ·intro hg;exact ⟨_,_,rfl,hm,hg⟩
 refine ⟨by omega,by omega,by omega,hs,by omega,h.sp,λe=>by rw [h.n e,step],λn hn=>?_⟩;have e0:b+1 - r=(b - r)+1:=by omega
 obtain ⟨y1,y2,y3,y4⟩:=h.y n hn;have e1:n+1+(b - r)=a:=by clear y2 y3 y4;omega
 have e2:a+1=n+1+(b+1 - r):=by clear y2 y3 y4;omega
 refine ⟨e2,λx hx=>?_,y3,by rw [y4,step]⟩;rw [e0,Qf,W7] at hx;rcases hx with hx | hx
 ·exact y2 x hx
 ·have e:(p.drop (n+1))[b - r]? = some p[a]:=by
   rw [List.getElem?_drop,e1];simp [ha]
  rw [e] at hx;simp at hx;rw [hx];exact h42
theorem G_no (hb:b<l.length) (hno:∀ ha:a<p.length,p[a]≠42/\¬ (p[a]=63∨p[a]=l[b])):¬ G (p.drop a) (l.drop b):=by
 intro hg;by_cases ha:a<p.length
 ·rw [zJx ha,zJx hb,aJ (hno ha).1] at hg;obtain ⟨c,t,he,h1,_⟩:=hg;injection he with e1 e2;rw [<- e1] at h1;exact (hno ha).2 h1
 ·rw [List.drop_eq_nil_of_le (by omega),zNn] at hg;have:=congrArg Qx hg;simp at this;omega
theorem GI.back {r:Nat} (h:GI p l a b r (n:Int)) (hb:b<l.length) (hno:¬ G (p.drop a) (l.drop b)):GI p l (n+1) (r+1) (r+1) (n:Int):=by
 have hr:=h.kr;have hsp:=h.sp;obtain ⟨y1,y2,y3,y4⟩:=h.y n rfl;refine ⟨by omega,by omega,Qe _,by omega,by omega,hsp,λe=>by omega,λm hm=>?_⟩;have:m=n:=by omega
 subst this;refine ⟨by omega,by simp,?_,Iff.rfl⟩;rw [y3];constructor
 ·rintro ⟨j,h1,h2,hg⟩;by_cases hj:j=r
  ·subst hj;exact absurd (y4.1 hg) hno
  ·exact ⟨j,by omega,h2,hg⟩
 ·rintro ⟨j,h1,h2,hg⟩;exact ⟨j,by omega,h2,hg⟩
theorem GI.fin {r:Nat} (h:GI p l a b r s) (hb:b=l.length):G p l↔G (p.drop a) []:=by
 subst hb;have hd:l.drop l.length=[]:=W3;by_cases hs:s=-1
 ·rw [h.n hs,hd]
 ·obtain ⟨m,rfl⟩:=Q9 (by have:=h.s1;omega:0<=s);obtain ⟨y1,y2,y3,y4⟩:=h.y m rfl;have hr:=h.kr;rw [hd] at y4;rw [y3];constructor
  ·rintro ⟨j,h1,h2,hg⟩;obtain ⟨f1,f2⟩:=h.far h2 hg;have:j=r:=by omega
   subst this;exact y4.1 hg
  ·intro hg;exact ⟨r,Qe _,hr,y4.2 hg⟩
theorem zRh (v:By) (hv:v.length<2 ^ 40):Def (w6 v 42) (λw=>(w=[]/\∀ c∈v,c=42)∨∃ t x,w=t++[x]/\x≠42/\x∈v/\w.length<=v.length):=by
 unfold w6;refine Q0 (P:=λw=>(w=[]/\∀ c∈v,c=42)∨∃ t x,w=t++[x]/\x≠42/\x∈v/\w.length<=v.length) ?_ (λw hw=>Q1 hw);refine Qc (λw=>∃ k,k<=v.length/\w=v.take k/\∀ c∈v.drop k,c=42) (λw=>w.length) (λw hw=>?_) ⟨v.length,Qe _,by simp,by simp⟩ (by omega);obtain ⟨k,hk,rfl,h42⟩:=hw;have hkl:(v.take k).length=k:=by simp;omega
 unfold sD;refine Q0 (P:=λb=>b=true↔∃ h:0<k,v[k - 1]'(by omega)=42) ?_ (λb hb=>?_)
 ·refine Q2 (λh=>?_) (λh=>Q1 ⟨λh=>(by cases h),λ⟨h0,_⟩ =>?_⟩)
  ·have h0:0<k:=by have:=dT h;omega
   rw [hkl,show Qa.wrap ((k:Int) - 1)=((k - 1:Nat):Int) by rw [zZ (by omega) (by omega)];omega];refine Q0 (Q5 (show k - 1<(v.take k).length by omega)) (λc hc=>Q1 ?_);have:c=v[k - 1]'(by omega):=by rw [hc];simp
   exact (b42 c).trans ⟨λh=>⟨h0,by rw [<- this];exact h⟩,λ⟨_,h⟩ =>by rw [this];exact h⟩
  ·have:=dF h;omega
 refine Q2 (λh=>?_) (λh=>Q1 ?_)
 ·obtain ⟨h0,h1⟩:=hb.1 h;rw [hkl,zZ (by omega) (by omega)];refine Q0 (Qk (by decide) (by omega) (by rw [hkl];omega)) (λx hx=>Q1 ?_);have hx':x=v.take (k - 1):=by
   rw [hx];simp only [Int.toNat_zero,List.drop_zero,Nat.sub_zero];rw [Qi];congr 1;omega
  refine ⟨⟨k - 1,by omega,hx',λc hc=>?_⟩,by rw [hx'];simp;omega⟩;rw [zJx (show k - 1<v.length by omega)] at hc;rcases Wf.1 hc with rfl | hc
  ·exact h1
  ·rw [show k - 1+1=k by omega] at hc;exact h42 c hc
 ·by_cases h0:0<k
  ·right;refine ⟨v.take (k - 1),v[k - 1]'(by omega),?_,λe=>?_,Q8 _,by rw [hkl];exact hk⟩
   ·have:v.take k=v.take (k - 1+1):=by rw [show k - 1+1=k by omega]
    rw [this,Qf];simp [show k - 1<v.length by omega]
   ·rw [hb.2 ⟨h0,e⟩] at h;cases h
  ·have:k=0:=by omega
   subst this;exact .inl ⟨by simp,λc hc=>h42 c (by simpa using hc)⟩
theorem zSe (v:By) (hv:v.length<2 ^ 40) (t:By) (x:UInt8) (he:v=t++[x]) (hx:x≠42):Def (vQ v 42) (λw=>w≠[]):=by
 unfold vQ;refine Q0 (P:=λw=>w≠[]) ?_ (λw hw=>Q1 hw);refine Qc (λw=>w.length<=v.length/\∃ t,w=t++[x]) (λw=>w.length) (λw hw=>?_) ⟨Qe _,t,he⟩ (by omega);obtain ⟨hwl,u,rfl⟩:=hw;have hl:(u++[x]).length=u.length+1:=by simp
 unfold sY;refine Q0 (P:=λb=>b=true->u≠[]) ?_ (λb hb=>?_)
 ·refine Q2 (λh=>?_) (λ_=>Q1 (λh=>by cases h));refine Q0 (Q5 (i:=0) (show 0<(u++[x]).length by omega)) (λc hc=>Q1 (λh2 hu=>?_));subst hu;have h3:=(b42 c).1 h2;exact hx (by rw [<- h3,hc];rfl)
 refine Q2 (λh=>?_) (λ_=>Q1 (by simp));have hu:=hb h;refine Q0 (Qk (by decide) (by omega) (by omega)) (λz hz=>Q1 ?_);cases u with
 | nil=>exact absurd rfl hu
 | cons c u=>
  have hz':z=u++[x]:=by
   rw [hz];simp;rw [Qb (by simp;omega)]
  refine ⟨⟨by rw [hz'];simp at hwl ⊢;omega,u,hz'⟩,by rw [hz'];simp⟩
theorem zUz (v:By) (hv:v.length<2 ^ 40):Def (pL v [42]) (λw=>w=[]↔G v []):=by
 unfold pL;refine Q0 (P:=λb=>b=(v==[])) (Q2 (λh=>Q1 h.symm) (λh=>Q1 (by rw [h];rfl))) (λb hb=>?_);refine Q2 (λh=>Q1 ?_) (λ_=>?_)
 ·rw [h] at hb;have:v=[]:=by simpa using hb.symm
  subst this;exact ⟨λ_=>.nil,λ_=>rfl⟩
 refine Q0 (P:=λb=>b=true) (Q1 rfl) (λb hb=>?_);subst hb;refine Q2 (λ_=>?_) (λh=>by cases h);refine Q0 (P:=λc=>c=42) (Q1 rfl) (λc hc=>?_);subst hc;refine Q0 (zRh v hv) (λw hw=>?_);refine Q0 (P:=λc=>c=42) (Q1 rfl) (λc hc=>?_);subst hc;rw [zLh];rcases hw with ⟨rfl,hall⟩ | ⟨t,x,hw,hx,hxv,hwv⟩
 ·refine Q0 (P:=λr=>r=[]) ?_ (λr hr=>Q1 ⟨λ_=>hall,λ_=>hr⟩);exact Q3 rfl rfl
 ·have hwl:w.length<2 ^ 40:=by omega
  refine Q0 (zSe w hwl t x hw hx) (λr hr=>Q1 ⟨λh=>absurd h hr,λh=>absurd (h x hxv) hx⟩)
theorem zU4 (p l:By) (hp:p.length<=32) (hl:l.length<=64):Def (nD p l) (λv=>v=true↔G p l):=by
 obtain ⟨v,hv,_⟩:=zSq p l hp hl;refine ⟨v,hv,?_⟩;unfold nD at hv;cases hlp:zK (oT p l) FU (0,0,(-1),0) with
 | none=>rw [hlp] at hv;cases hv
 | some y=>
  have hO:=zGx (step:=oT p l) (λst=>∃ (a b r:Nat) (s:Int),st=((a:Int),(b:Int),s,(r:Int))/\GI p l a b r s) (λy=>match y with | .inl x=>x=false/\¬ G p l | .inr q=>∃ a:Nat,q=(a:Int)/\a<=p.length/\(G p l↔G (p.drop a) [])) (λst hst=>?_) FU _ ⟨0,0,0,-1,rfl,⟨by omega,by omega,by omega,by omega,by omega,by omega,λ_=>by simp,λn hn=>by omega⟩⟩ y hlp
  ·rw [hlp] at hv;cases y with
   | inl x=>
    injection hv with hv;rw [<- hv,hO.1];exact ⟨λh=>(by cases h),λh=>absurd h hO.2⟩
   | inr q=>
    obtain ⟨a,rfl,ha,hg⟩:=hO;have hd:Def ((sub p (a:Int) p.length).bind λv=>(pL v [42]).bind λw=>some (w==([]:By))) (λv=>v=true↔G p l):=by
     refine Q0 (Qk (by omega) (by omega) (by omega)) (λx hx=>?_);have hx':x=p.drop a:=by
      rw [hx];simp only [Q7];rw [Qb (by simp)]
     refine Q0 (zUz x (by rw [hx'];simp;omega)) (λw hw=>Q1 ?_);rw [hg,<- hx',<- hw];simp
    obtain ⟨v',h1,h2⟩:=hd;have:v'=v:=by
     have e:some v'=some v:=h1.symm.trans hv;injection e
    rw [<- this];exact h2
  ·obtain ⟨a,b,r,s,rfl,h⟩:=hst;have ha:=h.ka;have hb:=h.kb;have hr:=h.kr;unfold oT;refine Q2 (λhlt=>?_) (λhge=>Q1 ?_)
   ·have hbl:b<l.length:=by have:=dT hlt;omega
    refine Q0 (P:=λx=>x=true↔∃ h:a<p.length,p[a]=42) ?_ (λx hx=>?_)
    ·refine Q2 (λh=>?_) (λh=>Q1 ⟨λh=>(by cases h),λ⟨h0,_⟩ =>by have:=dF h;omega⟩);have h0:a<p.length:=by have:=dT h;omega
     refine Q0 (Q5 h0) (λc hc=>Q1 ?_);subst hc;exact (b42 _).trans ⟨λh=>⟨h0,h⟩,λ⟨_,h⟩ =>h⟩
    refine Q2 (λhxt=>Q1 ?_) (λhxf=>?_)
    ·obtain ⟨h0,h42⟩:=hx.1 hxt;rw [yM (by omega)];exact ⟨a+1,b,b,(a:Int),rfl,h.star h0 h42⟩
    have n42:∀ h0:a<p.length,p[a]≠42:=λh0 e=>by rw [hx.2 ⟨h0,e⟩] at hxf;cases hxf
    refine Q0 (P:=λx=>x=true↔∃ h:a<p.length,p[a]=63∨p[a]=l[b]) ?_ (λx hx=>?_)
    ·refine Q2 (λh=>?_) (λh=>Q1 ⟨λh=>(by cases h),λ⟨h0,_⟩ =>by have:=dF h;omega⟩);have h0:a<p.length:=by have:=dT h;omega
     refine Q0 (Q5 h0) (λc hc=>?_);subst hc;refine Q2 (λh=>Q1 ⟨λ_=>⟨h0,.inl ((b63 _).1 h)⟩,λ_=>rfl⟩) (λh=>?_);refine Q0 (Q5 h0) (λc hc=>?_);refine Q0 (Q5 hbl) (λd hd=>Q1 ?_);subst hc hd;rw [bcc];exact ⟨λe=>⟨h0,.inr e⟩,λ⟨_,e⟩ =>e.resolve_left (λe=>by rw [(b63 _).2 e] at h;cases h)⟩
    refine Q2 (λhxt=>Q1 ?_) (λhxf=>?_)
    ·obtain ⟨h0,hm⟩:=hx.1 hxt;rw [yM (by omega),yM (by omega)];exact ⟨a+1,b+1,r,s,rfl,h.one h0 hbl (n42 h0) hm⟩
    have hno:¬ G (p.drop a) (l.drop b):=G_no hbl (λh0=>⟨n42 h0,λe=>by rw [hx.2 ⟨h0,e⟩] at hxf;cases hxf⟩);refine Q2 (λhs=>Q1 ?_) (λhs=>Q1 ⟨rfl,?_⟩)
    ·obtain ⟨n,rfl⟩:=Q9 (dT hs);have:=h.sp;rw [yM (by omega),yM (by omega)];exact ⟨n+1,r+1,r+1,(n:Int),rfl,h.back hbl hno⟩
    ·have:=dF hs;have:=h.s1;rw [h.n (by omega)];exact hno
   ·have hbe:b=l.length:=by have:=dF hge;omega
    exact ⟨a,rfl,ha,h.fin hbe⟩
set_option maxRecDepth 100000
theorem zX5 (q w:By):G (q++[42]) w↔∃ k,k<=w.length/\G q (w.take k):=by
 rw [zFr];constructor
 ·rintro ⟨k,hk,h,_⟩;exact ⟨k,hk,h⟩
 ·rintro ⟨k,hk,h⟩;exact ⟨k,hk,h,bZ.2 ⟨(w.drop k).length,Qe _,by rw [W3];exact G.nil⟩⟩
theorem zXb (q:By) (l:By):G (q++[42]) (l.take 0)↔G q (l.take 0):=by
 rw [zX5];constructor
 ·rintro ⟨k,_,h⟩;simpa using h
 ·intro h;exact ⟨0,by simp,by simpa using h⟩
theorem zW8 (q:By) (l:By) (hi:i<l.length):G (q++[42]) (l.take (i+1))↔G q (l.take (i+1))∨G (q++[42]) (l.take i):=by
 rw [zX5,zX5];constructor
 ·rintro ⟨k,hk,h⟩;rw [Qg] at hk;rw [Qi] at h;by_cases e:k=i+1
  ·left;rw [e,Nat.min_self] at h;exact h
  ·right;exact ⟨k,by simp;omega,by rw [Qi,show min k i=min k (i+1) by omega];exact h⟩
 ·rintro (h | ⟨k,hk,h⟩)
  ·exact ⟨i+1,by simp;omega,by rw [Qi,Nat.min_self];exact h⟩
  ·rw [Qg] at hk;rw [Qi] at h;exact ⟨k,by simp;omega,by rw [Qi,show min k (i+1)=min k i by omega];exact h⟩
theorem G_1 {x:UInt8} (hx:x≠42) (m:By):G [x] m↔∃ c,m=[c]/\(x=63∨x=c):=by
 rw [aJ hx];constructor
 ·rintro ⟨c,t,h1,h2,h3⟩;rw [zNn] at h3;exact ⟨c,by rw [h1,h3],h2⟩
 ·rintro ⟨c,h1,h2⟩;exact ⟨c,[],h1,h2,.nil⟩
theorem G_x0 {x:UInt8} (hx:x≠42) (q l:By):¬ G (q++[x]) (l.take 0):=by
 rw [zFr];rintro ⟨k,_,_,h⟩;obtain ⟨c,h1,_⟩:=(G_1 hx _).1 h;simp at h1
theorem G_xs {x:UInt8} (hx:x≠42) (q l:By) (hi:i<l.length):G (q++[x]) (l.take (i+1))↔(x=63∨x=l[i])/\G q (l.take i):=by
 have ht:l.take (i+1)=l.take i++[l[i]]:=by
  rw [Qf];simp [hi]
 rw [zFr];constructor
 ·rintro ⟨k,hk,h1,h2⟩;obtain ⟨c,h3,h4⟩:=(G_1 hx _).1 h2;have hl:=congrArg Qx h3;simp at hl;have:k=i:=by omega
  subst this;rw [Qi,show min k (k+1)=k by omega] at h1;rw [ht,Qw (by simp;omega)] at h3;simp at h3;rw [<- h3] at h4;exact ⟨h4,h1⟩
 ·rintro ⟨h1,h2⟩;refine ⟨i,by simp;omega,by rw [Qi,show min i (i+1)=i by omega];exact h2,(G_1 hx _).2 ⟨l[i],?_,h1⟩⟩;rw [ht,Qw (by simp;omega)];simp
theorem Def.rd {r:List Bool} (h:i<r.length) {f:Bool->Option α} {Q:α->Prop} (hf:Def (f r[i]) Q):Def ((ixN r.length (i:Int)).bind λj=>(r[j]?).bind f) Q:=by
 rw [uJ h];show Def ((r[i]?).bind f) Q;rw [List.getElem?_eq_getElem h];exact hf
theorem Def.wr {r:List Bool} (h:i<r.length) {Q:List Bool->Prop} (hq:Q (r.set i u)):Def ((ixN r.length (i:Int)).bind λj=>(vJ r j u).bind λl=>some l) Q:=by
 rw [uJ h];show Def ((vJ r i u).bind λl=>some l) Q;rw [aW h];exact Q1 hq
def Row (q l:By) (n:Nat) (r:List Bool):Prop:=∀ j,(h:j<r.length)->j<n->(r[j]=true↔G q (l.take j))
theorem Row.set {q:By} {r:List Bool} (h:Row q l n r) (hu:u=true↔G q (l.take n)):Row q l (n+1) (r.set n u):=by
 intro j hj hn;rw [Wm];split
 ·rename_i e;subst e;exact hu
 ·rw [W6] at hj;exact h j hj (by omega)
theorem zRp (p l:By) (hp:p.length<=32) (hl:l.length<=64):Def (iV p l) (λv=>v=true↔G p l):=by
 unfold iV;rw [yM (by omega)];refine Q0 (Wp (by omega) (by omega)) (λn hn=>?_);have hn:n=l.length+1:=by omega
 subst hn;rw [show (0:Int)=((0:Nat):Int) from rfl,uJ (by simp)];refine Q0 (P:=λj=>j=0) (Q1 rfl) (λj hj=>?_);subst hj;rw [aW (by simp)];refine Q0 (P:=λr=>r=(Wa (l.length+1) false).set 0 true) (Q1 rfl) (λr hr=>?_);refine Q0 (P:=λr=>r.length=l.length+1/\Row p l (l.length+1) r) ?_ (λr hr=>?_)
 ·refine Qc (λs=>∃ k:Nat,k<=p.length/\s.2=(k:Int)/\s.1.length=l.length+1/\Row (p.take k) l (l.length+1) s.1) (λs=>p.length - s.2.toNat) (λs hs=>?_) ⟨0,by omega,rfl,by rw [hr];simp,?_⟩ (by omega)
  ·obtain ⟨row,kk⟩:=s;obtain ⟨k,hk,rfl,hrl,hrow⟩:=hs;unfold zBi;refine Q2 (λh=>?_) (λh=>Q1 ?_)
   ·have hkp:k<p.length:=by have:=dT h;omega
    rw [yM (by omega)];refine Q0 (Wp (by omega) (by omega)) (λn hn=>?_);have hn:n=l.length+1:=by omega
    subst hn;have htk:p.take (k+1)=p.take k++[p[k]]:=by
     rw [Qf];simp [hkp]
    refine Q0 (P:=λr=>r.length=l.length+1/\Row (p.take (k+1)) l (l.length+1) r) ?_ (λr hr=>?_)
    ·refine Qc (λs=>∃ i:Nat,i<=l.length+1/\s.2.2=(i:Int)/\s.1=row/\s.2.1.length=l.length+1/\Row (p.take (k+1)) l i s.2.1/\(i=0->s.2.1=Wa (l.length+1) false)) (λs=>l.length+1 - s.2.2.toNat) (λs hs=>?_) ⟨0,by omega,rfl,rfl,by simp,λj _ h=>by omega,λ_=>rfl⟩ (by simp;omega);obtain ⟨rw',nx,ii⟩:=s;obtain ⟨i,hi,rfl,rfl,hnl,hnx,hz⟩:=hs;replace hnl:nx.length=l.length+1:=hnl;replace hrl:rw'.length=l.length+1:=hrl;replace hnx:Row (p.take (k+1)) l i nx:=hnx;replace hrow:Row (p.take k) l (l.length+1) rw':=hrow;unfold zBf;refine Q2 (λh=>?_) (λh=>Q1 ?_)
     ·have hil:i<=l.length:=by have:=dT h;omega
      refine Q0 (P:=λy=>∃ u:Bool,y=nx.set i u/\(u=true↔G (p.take (k+1)) (l.take i))) ?_ (λy hy=>Q1 ?_)
      ·rw [htk];have hwr:∀ {u:Bool},(u=true↔G (p.take k++[p[k]]) (l.take i))->Def ((ixN nx.length (i:Int)).bind λj=>(vJ nx j u).bind λl=>some l) (λy=>∃ u:Bool,y=nx.set i u/\(u=true↔G (p.take k++[p[k]]) (l.take i))):=λ{u} hu=>Def.wr (by omega) ⟨u,rfl,hu⟩;have hri:=hrow i (by omega) (by omega);refine Q0 (Q5 hkp) (λc hc=>?_);refine Q2 (λh42=>?_) (λh42=>?_)
       ·have e42:p[k]=42:=by rw [<- hc];exact (b42 c).1 h42
        rw [e42] at hwr ⊢;refine Def.rd (by omega) (Q2 (λh=>hwr ?_) (λh=>Q2 (λh0=>?_) (λh0=>hwr ?_)))
        ·cases i with
         | zero=>exact ⟨λ_=>(zXb _ _).2 (hri.1 h),λ_=>rfl⟩
         | succ i=>exact ⟨λ_=>(zW8 _ _ (by omega)).2 (.inl (hri.1 h)),λ_=>rfl⟩
        ·have h0:=dT h0;obtain ⟨m,rfl⟩:∃ m,i=m+1:=⟨i - 1,by omega⟩;rw [show Qa.wrap (((m+1:Nat):Int) - 1)=(m:Int) by rw [zZ (by omega) (by omega)];omega];refine Def.rd (by omega) (hwr ?_);have:=hnx m (by omega) (by omega);rw [htk,e42] at this;rw [this,zW8 _ _ (by omega)];exact ⟨.inr,λh'=>h'.resolve_left (λe=>by rw [hri.2 e] at h;cases h)⟩
        ·have h0:=dF h0;have:i=0:=by omega
         subst this;refine ⟨λe=>(by cases e),λe=>?_⟩;rw [hri.2 ((zXb _ _).1 e)] at h;cases h
       ·have n42:p[k]≠42:=λe=>by rw [hc,(b42 _).2 e] at h42;cases h42
        refine Q2 (λh0=>?_) (λh0=>Q1 ⟨false,?_⟩)
        ·have h0:=dT h0;obtain ⟨m,rfl⟩:∃ m,i=m+1:=⟨i - 1,by omega⟩;rw [show Qa.wrap (((m+1:Nat):Int) - 1)=(m:Int) by rw [zZ (by omega) (by omega)];omega];have hrm:=hrow m (by omega) (by omega);have hx:=G_xs n42 (p.take k) l (show m<l.length by omega);refine Def.rd (by omega) (Q2 (λh=>?_) (λh=>hwr ?_))
         ·refine Q0 (Q5 hkp) (λc hc=>?_);subst hc;refine Q2 (λh63=>hwr ⟨λ_=>hx.2 ⟨.inl ((b63 _).1 h63),hrm.1 h⟩,λ_=>rfl⟩) (λh63=>?_);refine Q0 (Q5 hkp) (λc hc=>?_);refine Q0 (Q5 (show m<l.length by omega)) (λd hd=>hwr ?_);subst hc hd;rw [bcc,hx];exact ⟨λe=>⟨.inr e,hrm.1 h⟩,λe=>e.1.resolve_left (λe=>by rw [(b63 _).2 e] at h63;cases h63)⟩
         ·refine ⟨λe=>(by cases e),λe=>?_⟩;rw [hrm.2 (hx.1 e).2] at h;cases h
        ·have h0:=dF h0;have:i=0:=by omega
         subst this;replace hz:nx=Wa (l.length+1) false:=hz rfl;exact ⟨by rw [hz];rfl,λe=>(by cases e),λe=>absurd e (G_x0 n42 _ _)⟩
      ·obtain ⟨u,rfl,hu⟩:=hy;rw [yM (by omega)];refine ⟨⟨i+1,by omega,by simp,rfl,by simpa using hnl,hnx.set hu,λh=>by omega⟩,?_⟩;show l.length+1 - ((i:Int)+1).toNat<l.length+1 - ((i:Int)).toNat;omega
     ·have:i=l.length+1:=by have:=dF h;omega
      rw [this] at hnx;exact ⟨hnl,hnx⟩
    ·rw [yM (by omega)];refine Q1 ⟨⟨k+1,by omega,by simp,hr.1,hr.2⟩,?_⟩;show p.length - ((k:Int)+1).toNat<p.length - ((k:Int)).toNat;omega
   ·have:k=p.length:=by have:=dF h;omega
    rw [this,W4] at hrow;exact ⟨hrl,hrow⟩
  ·intro j hj hn;rw [List.take_zero,zNn];simp only [hr,Wm];cases j with
   | zero=>simp
   | succ j=>
    simp at hn;simp;intro e;rw [e] at hn;simp at hn
 ·have h1:=hr.2 l.length (by omega) (by omega);rw [W4] at h1;exact Def.rd (by omega) (Q1 h1)
theorem zQv (p l:By) (hp:p.length<=32) (hl:l.length<=64):∃ v,nD p l=some v/\iV p l=some v:=by
 obtain ⟨v,h1,h2⟩:=zU4 p l hp hl;obtain ⟨w,h3,h4⟩:=zRp p l hp hl;have:w=v:=by
  cases v<;>cases w<;>simp_all
 subst this;exact ⟨w,h1,h3⟩
set_option maxRecDepth 100000
theorem zAo (h:∀ a,f a=g a):o.bind f=o.bind g:=by
 cases o with
 | none=>rfl
 | some a=>exact h a
theorem zWm {a:α} (e:o=some a) (h:f a=g a):o.bind f=o.bind g:=by
 subst e;exact h
theorem zCe {p:Option α} (e:o=p) (h:∀ a,f a=g a):o.bind f=p.bind g:=by
 subst e;exact zAo h
theorem bT {a b:α} (h:c=true):(bif c then a else b)=(bif c then a else b'):=by
 subst h;rfl
theorem bF {a a' b:α} (h:c=false) (k:b=b'):(bif c then a else b)=(bif c then a' else b'):=by
 subst h;exact k
def nmB (s:By):Bool:=decide (1<=s.length)&&decide (s.length<=12)&&s.all nameByte
theorem zM5 (s:By):wD s=some (nmB s):=by
 unfold wD;refine bd (a:=if nmB s=true then 0 else 43) ?_ ?_
 ·unfold gV;refine bd (a:=false) rfl ?_;refine cf rfl ?_;refine bd (a:=nmB s) rfl ?_;cases nmB s
  ·exact ct rfl rfl
  ·refine cf rfl ?_;refine cf rfl ?_;exact bd (a:=false) rfl rfl
 ·cases nmB s<;>rfl
def nameN (n:Nat):Bool:=(decide (97<=n)&&decide (n<=122))||(decide (48<=n)&&decide (n<=57))||decide (n=45)
theorem zQz:∀ n:Nat,n<256->(bif decide ((n:Int)<97) then (bif decide ((n:Int)<48) then (some ((n:Int) != 45)) else bif decide (57<(n:Int)) then (some ((n:Int) != 45)) else some false) else bif decide (122<(n:Int)) then (bif decide ((n:Int)<48) then (some ((n:Int) != 45)) else bif decide (57<(n:Int)) then (some ((n:Int) != 45)) else some false) else some false:Option Bool)=some (!nameN n):=by decide +kernel
theorem zId (s:By):rC s=some (nmB s):=by
 have hd:Def (rC s) (λr=>r=nmB s):=by
  unfold rC;refine Q0 (P:=λb=>b=(decide (s.length<1)||decide (12<s.length))) ?_ (λb hb=>?_)
  ·refine Q2 (λh=>Q1 ?_) (λh=>Q1 ?_)
   ·have:=dT h;rw [show decide (s.length<1)=true by rw [decide_eq_true_iff];omega];rfl
   ·have:=dF h;rw [show decide (s.length<1)=false by rw [decide_eq_false_iff_not];omega,Bool.false_or];exact decide_eq_decide.2 (by omega)
  refine Q2 (λh=>Q1 ?_) (λh=>?_)
  ·rw [h] at hb;have hb':s.length<1∨12<s.length:=by
    have:=hb.symm;rw [Wo,decide_eq_true_iff,decide_eq_true_iff] at this;exact this
   unfold nmB;rcases hb' with h1 | h1
   ·rw [show decide (1<=s.length)=false by rw [decide_eq_false_iff_not];omega];rfl
   ·rw [show decide (s.length<=12)=false by rw [decide_eq_false_iff_not];omega,Bool.and_false];rfl
  ·rw [h] at hb;have hb':1<=s.length/\s.length<=12:=by
    have:=hb.symm;rw [Qu,decide_eq_false_iff_not,decide_eq_false_iff_not] at this;omega
   have hn:nmB s=s.all nameByte:=by
    unfold nmB;rw [show decide (1<=s.length)=true by rw [decide_eq_true_iff];omega,show decide (s.length<=12)=true by rw [decide_eq_true_iff];omega];rfl
   rw [hn];refine Q0 (vD s (lD s) (λi=>∀ h:i<s.length,nameByte s[i]=true) (λr=>r=false/\∃ i,∃ h:i<s.length,nameByte s[i]=false) (by omega) (λi hi=>?_) ?_) (λy hy=>?_)
   ·unfold lD;refine Q2 (λ_=>?_) (λh=>by have:=dF h;omega);refine Q0 (Q5 hi) (λc hc=>?_);subst hc;refine Q0 (P:=λb=>b=!nameByte s[i]) (Q3 (zQz s[i].toNat s[i].toNat_lt) rfl) (λb hb=>?_);refine Q2 (λh=>Q1 ⟨rfl,i,hi,?_⟩) (λh=>Q1 ⟨yM (by omega),λ_=>?_⟩)
    ·rw [h] at hb;simpa using hb.symm
    ·rw [h] at hb;simpa using hb.symm
   ·unfold lD;exact cf (by simp) rfl
   ·cases y with
    | inl r=>
     obtain ⟨rfl,i,hi,hn⟩:=hy;refine Q1 ?_;symm;rw [List.all_eq_false];exact ⟨_,Q8 hi,by simp [hn]⟩
    | inr u=>
     refine Q1 ?_;symm;rw [List.all_eq_true];intro c hc;obtain ⟨i,hi,rfl⟩:=Ql.mp hc;exact hy i hi hi
 obtain ⟨r,hr,rfl⟩:=hd;exact hr
theorem zJs (r:yL) (h:r.Text.length<2 ^ 40):iW r=tZ r:=by
 have hl:zK (fP r) FU 0=zK (wR r) FU 0:=by
  refine nK (λs=>∃ i:Nat,s=(i:Int)/\i<=r.Text.length) (λs hs=>?_) _ _ ⟨0,rfl,by omega⟩;obtain ⟨i,rfl,hi⟩:=hs;unfold fP wR;by_cases hi2:i<r.Text.length
  ·have e:idx r.Text (i:Int)=some r.Text[i]:=yT hi2;constructor
   ·rw [e];simp only [Qs]
   rw [e];refine Q2 (λ_=>zKd (Q2 (λ_=>Q1 (λs' h=>by cases h)) (λ_=>Q1 (λs' h=>?_)))) (λh=>by have:=dF h;omega);injection h with h;exact ⟨i+1,by rw [<- h,yM (by omega)],by omega⟩
  ·rw [show decide ((i:Int)<(r.Text.length:Int))=false by simp;omega];exact ⟨rfl,Q1 (λs' h=>by cases h)⟩
 unfold iW tZ;refine zAo (λb=>?_);cases b
 ·refine zCe hl (λy=>?_);cases y with
  | inl v=>rfl
  | inr u=>
   have e1:(r.Kind != 4)=!(r.Kind==4):=rfl;simp only [e1];generalize (r.Kind==4)=k4;generalize decide (r.Low<0)=a;generalize decide (r.High<r.Low)=b;generalize decide (1000000000<r.High)=c;generalize (r.Low != 0)=d;generalize (r.High != 0)=e;cases k4
   ·cases d<;>cases e<;>rfl
   ·cases a<;>cases b<;>cases c<;>rfl
 ·exact bT rfl
theorem zR1:∀ a b:By,Op.bytesLess a b=false->0<=Q6 a b/\(a≠b->Q6 a b=1)
 | [],[],_=>⟨by decide,λh=>absurd rfl h⟩
 | [],_ :: _,h=>by cases h
 | _ :: _,[],_=>⟨by show (0:Int)<=1;decide,λ_=>rfl⟩
 | x :: a,y :: b,h=>by
  simp only [Op.bytesLess,Qu,Bool.and_eq_false_iff,decide_eq_false_iff_not,beq_eq_false_iff_ne] at h;unfold Q6;rw [if_neg h.1];by_cases hyx:y<x
  ·rw [if_pos hyx];exact ⟨by decide,λ_=>rfl⟩
  ·rw [if_neg hyx];have hxy:x=y:=by
    have p:=h.1;rw [W8] at p hyx;exact Qj.mp (by omega)
   subst hxy;have:=zR1 a b (h.2.resolve_left (λh=>h rfl));exact ⟨this.1,λhne=>this.2 (λe=>hne (by rw [e]))⟩
theorem zXl {x y:zS} (h:bfr x y=false):0<=ord x y:=by
 unfold bfr at h;unfold ord;by_cases hr:x.Role=y.Role
 ·rw [if_neg (by simp [hr])] at h;rw [if_neg (by omega),if_neg (by omega)];by_cases hn:x.Name=y.Name
  ·rw [if_neg (by simp [hn])] at h;have e0:Q6 x.Name y.Name=0:=by rw [hn];exact zR0 _
   rw [e0];by_cases hv:x.Version=y.Version
   ·rw [if_neg (by simp [hv])] at h;rw [if_neg (by omega),if_neg (by omega)];have:=(zR1 _ _ h).1;simp only [fnz,if_true];split<;>omega
   ·rw [if_pos hv] at h;have:=dF h;rw [if_neg this,if_pos (by omega)];simp [fnz]
  ·rw [if_pos hn] at h;rw [(zR1 _ _ h).2 hn];simp [fnz]
 ·rw [if_pos hr] at h;have:=dF h;rw [if_neg this,if_pos (by omega)];simp [fnz]
theorem zN9 (x y:zS) (hx:x.Digest.length<2 ^ 40):((sZ x y).bind λo=>some (decide (0<=o)))=((tR x y).bind λc=>some (!c)):=by
 obtain ⟨o,ho,rfl⟩:=zG6 x y;obtain ⟨c,hc,rfl⟩:=zCc x y hx;rw [ho,hc];show some (decide (0<=ord x y))=some (!bfr x y);congr 1;cases hb:bfr x y
 ·simpa using zXl hb
 ·have:=yAm hb;simp;omega
theorem zR6 (m:zG) (h:MOk m) (hd:zM8 m):mB m=s5 m:=by
 unfold mB s5;rw [zM5,zId];refine zAo (λb=>?_);cases b
 ·exact bT rfl
 refine bF rfl ?_;refine zAo (λb=>?_);cases b
 case true=>exact bT rfl
 refine bF rfl ?_;have hlen:(bif decide (16<(m.Entries.length:Int)) then some true else some (decide (8<(m.Rules.length:Int))):Option Bool)=some (decide (16<(m.Entries.length:Int))||decide (8<(m.Rules.length:Int))):=by
  cases decide (16<(m.Entries.length:Int))<;>rfl
 refine zWm hlen ?_;cases hb:(decide (16<(m.Entries.length:Int))||decide (8<(m.Rules.length:Int)))
 case true=>exact bT rfl
 refine bF rfl ?_;have hb':m.Entries.length<=16/\m.Rules.length<=8:=by
  have:¬ (16<(m.Entries.length:Int))/\¬ (8<(m.Rules.length:Int)):=by simpa using hb
  omega
 have l1:zK (rX m) FU 0=zK (wB m) FU 0:=by
  refine nK (λs=>∃ i:Nat,s=(i:Int)/\i<=m.Entries.length) (λs hs=>?_) _ _ ⟨0,rfl,by omega⟩;obtain ⟨i,rfl,hi⟩:=hs;by_cases hi2:i<m.Entries.length
  ·have e:idx m.Entries (i:Int)=some m.Entries[i]:=yT hi2;have hst:(bif decide (0<(i:Int)) then ((idx m.Entries (Qa.wrap ((i:Int) - 1))).bind λy=>(tR y m.Entries[i]).bind λc=>some (!c)) else some false)=(bif decide (0<(i:Int)) then ((idx m.Entries (Qa.wrap ((i:Int) - 1))).bind λy=>(sZ y m.Entries[i]).bind λo=>some (decide (0<=o))) else some false):=by
    by_cases h0:0<i
    ·have e2:idx m.Entries (Qa.wrap ((i:Int) - 1))=some (m.Entries[i - 1]'(by omega)):=by
      rw [show Qa.wrap ((i:Int) - 1)=((i - 1:Nat):Int) by rw [zZ (by omega) (by omega)];omega];exact yT (by omega)
     rw [e2];simp only [Qs];rw [zN9 _ _ (hd _ (Q8 (by omega)))]
    ·rw [show decide (0<(i:Int))=false by simp;omega];rfl
   constructor
   ·unfold rX wB;rw [e];simp only [Qs,zM5,zId,hst]
   ·unfold wB;refine Q2 (λ_=>?_) (λh=>by have:=dF h;omega);refine Q0 (Q5 hi2) (λx hx=>?_);refine Q0 or5 (λb _=>?_);refine Q2 (λ_=>Q1 (λs' h=>by cases h)) (λ_=>?_);refine Q0 (zE7 _) (λb _=>?_);refine Q2 (λ_=>Q1 (λs' h=>by cases h)) (λ_=>?_);refine Q0 (P:=λ_=>True) ?_ (λ_ _=>Q2 (λ_=>Q1 (λs' h=>by cases h)) (λ_=>Q1 (λs' h=>by injection h with h;exact ⟨i+1,by rw [<- h,yM (by omega)],by omega⟩)));refine Q2 (λh0=>?_) (λ_=>Q1 trivial);have h0':0<i:=by have:=dT h0;omega
    rw [show Qa.wrap ((i:Int) - 1)=((i - 1:Nat):Int) by rw [zZ (by omega) (by omega)];omega];refine Q0 (Q5 (show i - 1<m.Entries.length by omega)) (λy _=>?_);exact Q0 (zG6 _ _) (λ_ _=>Q1 trivial)
  ·unfold rX wB;rw [show decide ((i:Int)<(m.Entries.length:Int))=false by simp;omega];exact ⟨rfl,Q1 (λs' h=>by cases h)⟩
 have l2:zK (rZ m) FU 0=zK (x9 m) FU 0:=by
  refine nK (λs=>∃ i:Nat,s=(i:Int)/\i<=m.Rules.length) (λs hs=>?_) _ _ ⟨0,rfl,by omega⟩;obtain ⟨i,rfl,hi⟩:=hs;by_cases hi2:i<m.Rules.length
  ·have e:idx m.Rules (i:Int)=some m.Rules[i]:=yT hi2;have hr:=zJs m.Rules[i] (h _ (Q8 hi2));constructor
   ·unfold rZ x9;rw [e];simp only [Qs,hr]
   ·unfold x9;refine Q2 (λ_=>?_) (λh=>by have:=dF h;omega);refine Q0 (Q5 hi2) (λx hx=>?_);refine Q0 (zHt x (by rw [hx];exact h _ (Q8 hi2))) (λc _=>?_);exact Q2 (λ_=>Q1 (λs' h=>by cases h)) (λ_=>Q1 (λs' h=>by injection h with h;exact ⟨i+1,by rw [<- h,yM (by omega)],by omega⟩))
  ·unfold rZ x9;rw [show decide ((i:Int)<(m.Rules.length:Int))=false by simp;omega];exact ⟨rfl,Q1 (λs' h=>by cases h)⟩
 refine zCe l1 (λy=>?_);cases y with
 | inl v=>rfl
 | inr u=>exact zCe l2 (λz=>by cases z<;>rfl)
set_option maxRecDepth 100000
def nv (s:By):Nat:=s.foldl (λa c=>a*10+(c.toNat - 48)) 0
def Dg (s:By):Prop:=∀ c∈s,48<=c.toNat/\c.toNat<=57
theorem zAl (t:By) (c:UInt8):nv (t++[c])=nv t*10+(c.toNat - 48):=by simp [nv,List.foldl_append]
theorem zC6 {s:By} (h:s.length=n+1):∃ t c,s=t++[c]/\t.length=n:=by
 have hs:s≠[]:=by intro e;rw [e] at h;cases h
 refine ⟨s.dropLast,s.getLast hs,(List.dropLast_concat_getLast hs).symm,by simp [h]⟩
theorem zPf:∀ (n:Nat) (s:By),s.length=n->Dg s->nv s<10 ^ n
 | 0,s,h,_=>by rw [Qq.1 h];decide
 | n+1,s,h,hd=>by
  obtain ⟨t,c,rfl,ht⟩:=zC6 h;have h1:=zPf n t ht (λc hc=>hd c (by simp [hc]));have h2:=hd c (by simp);rw [zAl,Wh];omega
theorem zSa:∀ (n:Nat) (s:By),s.length=n+1->Dg s->s.head? ≠ some 48->1<=nv s
 | 0,s,h,hd,h48=>by
  obtain ⟨t,c,rfl,ht⟩:=zC6 h;rw [Qq.1 ht] at hd h48 ⊢;have h2:=hd c (by simp);have:c.toNat≠48:=λe=>h48 (by simp;exact Qj.mp e);rw [zAl];omega
 | n+1,s,h,hd,h48=>by
  obtain ⟨t,c,rfl,ht⟩:=zC6 h;have h1:=zSa n t ht (λc hc=>hd c (by simp [hc])) (λe=>h48 (by rw [List.head?_append,e];rfl));rw [zAl];omega
theorem zO7:∀ (n:Nat) (s:By),s.length=n+1->Dg s->(s.length=1∨s.head? ≠ some 48)->∀ f,n+1<=f->decF f (nv s)=s
 | n,s,h,hd,h48,0,hf=>by omega
 | 0,s,h,hd,h48,f+1,hf=>by
  obtain ⟨t,c,rfl,ht⟩:=zC6 h;have h2:=hd c (by simp);rw [Qq.1 ht,zAl];have e:nv []*10+(c.toNat - 48)=c.toNat - 48:=by simp [nv]
  rw [e];unfold decF;rw [show Wr (c.toNat - 48) 10=true by rw [Wc];omega,show 48+(c.toNat - 48)=c.toNat by omega];simp
 | n+1,s,h,hd,h48,f+1,hf=>by
  obtain ⟨t,c,rfl,ht⟩:=zC6 h;have h48':t.head? ≠ some 48:=λe=>(h48.resolve_left (by omega)) (by rw [List.head?_append,e];rfl);have hdt:Dg t:=λc hc=>hd c (by simp [hc]);have h2:=hd c (by simp);have h1:=zSa n t ht hdt h48';have ih:=zO7 n t ht hdt (.inr h48') f (by omega);rw [zAl];unfold decF;rw [show Wr (nv t*10+(c.toNat - 48)) 10=false by rw [Wk];intro e;rw [Wc] at e;omega];rw [show (nv t*10+(c.toNat - 48)) / 10=nv t by omega,show 48+(nv t*10+(c.toNat - 48)) % 10=c.toNat by omega];simp only [cond_false,ih];simp
theorem zIu:∀ (k f u:Nat),u<10 ^ (k+1)->(decF f u).length<=k+1
 | _,0,_,_=>by simp [decF]
 | k,f+1,u,h=>by
  unfold decF;by_cases h10:u<10
  ·rw [show Wr u 10=true by rw [Wc];exact h10];simp
  ·rw [show Wr u 10=false by rw [Wk];intro e;rw [Wc] at e;omega];cases k with
   | zero=>simp at h;omega
   | succ k=>
    rw [Wh] at h;have:=zIu k f (u / 10) (by omega);simp;exact this
def Num (s:By):Prop:=1<=s.length/\s.length<=10/\(s.length=1∨s.head? ≠ some 48)/\Dg s
theorem zVx (s:By) (h1:1<=s.length) (h10:s.length<=10) (hd:Dg s):decF 20 (nv s)=s↔Num s:=by
 obtain ⟨n,hn⟩:∃ n,s.length=n+1:=⟨s.length - 1,by omega⟩;constructor
 ·intro h;refine ⟨h1,h10,?_,hd⟩;by_cases h48:s.head? = some 48
  ·left;cases s with
   | nil=>cases h48
   | cons c r=>
    simp at h48;subst h48;cases n with
    | zero=>exact hn
    | succ n=>
     simp at hn;have hv:nv ((48:UInt8) :: r)=nv r:=rfl;have h2:=zPf (n+1) r hn (λc hc=>hd c (Qm _ hc));have h3:=zIu n 20 (nv r) h2;rw [<- hv,h] at h3;simp at h3;omega
  ·exact .inr h48
 ·rintro ⟨_,_,h,_⟩;exact zO7 n s hn hd h 20 (by omega)
theorem zPa:∀ (s:By) (acc:Nat),Dg s->decV acc s=some (s.foldl (λa c=>a*10+(c.toNat - 48)) acc)
 | [],_,_=>rfl
 | c :: r,acc,h=>by
  have h1:=h c (Qy ..);unfold decV;rw [cO h1.1,cO h1.2];exact zPa r _ (λx hx=>h x (Qm _ hx))
theorem zIs (s:By):Def (mN s) (λv=>(Num s/\v=(nv s:Int))∨(¬ Num s/\v=-1)):=by
 unfold mN;refine Q0 (P:=λb=>b=false↔1<=s.length/\s.length<=10/\(s.length=1∨s.head? ≠ some 48)) ?_ (λb hb=>?_)
 ·refine Q2 (λh=>Q1 ⟨λh=>(by cases h),λh1=>?_⟩) (λh1=>Q2 (λh=>Q1 ⟨λh=>(by cases h),λh1=>?_⟩) (λh2=>?_))
  ·have:s=[]:=by simpa using h
   rw [this] at h1;exact absurd h1.1 (by decide)
  ·have:=dT h;omega
  have h3:=dF h2;have h4:1<=s.length:=by
   cases s with
   | nil=>cases h1
   | cons a r=>simp
  refine Q2 (λh=>?_) (λh=>Q1 ⟨λ_=>⟨h4,by omega,.inl (by have:=dF h;omega)⟩,λ_=>rfl⟩);refine Q0 (Q5 (i:=0) h4) (λc hc=>Q1 ?_);have h5:=dT h;have h6:s.head? = some c:=by rw [List.head?_eq_getElem?,List.getElem?_eq_getElem h4,hc]
  rw [h6];constructor
  ·intro e;refine ⟨h4,by omega,.inr λe2=>?_⟩;injection e2 with e2;rw [e2] at e;cases e
  ·rintro ⟨_,_,e | e⟩
   ·omega
   ·rw [beq_eq_false_iff_ne];intro e2;exact e (by rw [show c=48 from Qj.mp (by show c.toNat=48;omega)])
 refine Q2 (λh=>Q1 (.inr ⟨λhn=>?_,rfl⟩)) (λhbf=>?_)
 ·rw [hb.2 ⟨hn.1,hn.2.1,hn.2.2.1⟩] at h;cases h
 obtain ⟨h1,h10,h48⟩:=hb.1 hbf;refine Q0 (vD s (oX s) (λi=>∀ h:i<s.length,48<=s[i].toNat/\s[i].toNat<=57) (λv=>¬ Dg s/\v=-1) (by omega) (λi hi=>?_) ?_) (λy hy=>?_)
 ·unfold oX;refine Q2 (λ_=>?_) (λh=>by have:=dF h;omega);refine Q0 (P:=λb=>b=false↔48<=s[i].toNat/\s[i].toNat<=57) ?_ (λb hb=>?_)
  ·refine Q0 (Q5 hi) (λc hc=>Q2 (λh=>Q1 ⟨λh=>(by cases h),λh1=>?_⟩) (λh48=>?_))
   ·have:=dT h;rw [hc] at this;omega
   refine Q0 (Q5 hi) (λd hd=>Q1 ?_);subst hc hd;have h48:=dF h48;rw [decide_eq_false_iff_not];omega
  ·refine Q2 (λh=>Q1 ⟨λhd=>?_,rfl⟩) (λh=>Q1 ⟨yM (by omega),λ_=>hb.1 h⟩);rw [hb.2 (hd _ (Q8 _))] at h;cases h
 ·unfold oX;exact cf (by simp) rfl
 ·cases y with
  | inl b=>exact Q1 (.inr ⟨λh=>hy.1 h.2.2.2,hy.2⟩)
  | inr u=>
   have hd:Dg s:=λc hc=>by
    obtain ⟨i,hi,rfl⟩:=Ql.mp hc;exact hy i hi hi
   unfold strconv_Atoi;rw [cO h1,cO (show s.length<=18 by omega),zPa s 0 hd];exact Q1 (.inl ⟨⟨h1,h10,h48,hd⟩,rfl⟩)
def Al (r:yL) (l:By):Prop:=l.take r.Text.length=r.Text/\Num (l.drop r.Text.length)/\r.Low<=(nv (l.drop r.Text.length):Int)/\(nv (l.drop r.Text.length):Int)<=r.High
theorem zS5 (s p:By):Def (tV s p) (λz=>(s.take p.length=p/\z=(s.drop p.length,true))∨(s.take p.length≠p/\z=(s,false))):=by
 unfold tV vH vC;refine Q0 (P:=λz=>(s.take p.length=p/\z=(s.drop p.length,true))∨(s.take p.length≠p/\z=(s,false))) ?_ (λz hz=>Q1 hz);refine Q0 (P:=λb=>b=true↔s.take p.length=p) ?_ (λb hb=>?_)
 ·refine Q0 (P:=λb=>b=true↔s.take p.length=p) ?_ (λb hb=>Q1 hb);refine Q2 (λh=>?_) (λh=>Q1 ⟨λh=>(by cases h),λe=>?_⟩)
  ·have:=dT h;refine Q0 (Qk (by decide) (by omega) (by omega)) (λx hx=>Q1 ?_);rw [beq_iff_eq,hx];simp
  ·have:=congrArg Qx e;rw [Qg] at this;have:=dF h;omega
 cases b with
 | false=>exact Q1 (.inr ⟨λe=>(by have:=hb.2 e;cases this),rfl⟩)
 | true=>
  have h1:=hb.1 rfl;have h2:=congrArg Qx h1;rw [Qg] at h2;refine Q0 (Qk (by omega) (by omega) (by omega)) (λx hx=>Q1 (.inl ⟨h1,?_⟩));rw [hx];simp only [Q7];rw [Qb (by simp)]
theorem zTs (r:yL) (h:r.Text.length<2 ^ 40):Def (tZ r) (λc=>c=0->r.Text.length<=32/\1<=r.Kind/\r.Kind<=4/\(r.Kind=4->0<=r.Low)):=by
 unfold tZ;refine Q0 (P:=λb=>b=false->1<=r.Kind/\r.Kind<=4) (Q2 (λ_=>Q1 (λh=>by cases h)) (λh1=>Q1 (λh2=>⟨by have:=dF h1;omega,by have:=dF h2;omega⟩))) (λb hk=>?_);refine Q2 (λ_=>Q1 (λh=>by cases h)) (λhbk=>?_);refine Q0 (vD r.Text (wR r) (λ_=>True) (λb=>b=1) h (λi hi=>?_) ?_) (λy hy=>?_)
 ·unfold wR;refine Q2 (λ_=>?_) (λh=>by have:=dF h;omega);refine Q0 (Q5 hi) (λc _=>?_);refine zKd ?_;refine Q2 (λ_=>Q1 rfl) (λ_=>Q1 ⟨yM (by omega),trivial⟩)
 ·unfold wR;exact cf (by simp) rfl
 ·cases y with
  | inl b=>exact Q1 (λh=>by rw [h] at hy;cases hy)
  | inr u=>
   refine Q0 (P:=λb=>b=false->r.Kind=4->0<=r.Low) (Q2 (λ_=>Q2 (λ_=>Q1 (λh=>by cases h)) (λh0=>Q2 (λ_=>Q1 (λh=>by cases h)) (λ_=>Q1 (λ_ _=>by have:=dF h0;omega)))) (λh4=>Q1 (λ_ e=>by rw [e] at h4;cases h4))) (λb hl=>?_);refine Q2 (λ_=>Q1 (λh=>by cases h)) (λhbl=>?_);refine Q0 (P:=λ_=>True) (Q2 (λ_=>Q2 (λ_=>Q1 trivial) (λ_=>Q1 trivial)) (λ_=>Q1 trivial)) (λb _=>?_);refine Q2 (λ_=>Q1 (λh=>by cases h)) (λ_=>?_);refine Q0 (P:=λ_=>True) (Q2 (λ_=>Q1 trivial) (λ_=>Q1 trivial)) (λb _=>?_);refine Q2 (λ_=>Q1 (λh=>by cases h)) (λ_=>?_);exact Q2 (λ_=>Q1 (λh=>by cases h)) (λh=>Q1 (λ_=>⟨by have:=dF h;omega,(hk hbk).1,(hk hbk).2,hl hbl⟩))
set_option maxRecDepth 100000
theorem Def.iff {o:Option Bool} {v:Bool} {P:Prop} (h:Def o (λw=>w=true↔P)) (hv:v=true↔P):o=some v:=by
 obtain ⟨w,hw,hwa⟩:=h;rw [hw];cases v<;>cases w
 ·rfl
 ·exact absurd (hv.2 (hwa.1 rfl)) (by decide)
 ·exact absurd (hwa.2 (hv.1 rfl)) (by decide)
 ·rfl
theorem zSz (l:By) (t:Nat) (hl:l.length<=64) (ht:t<l.length) (h10:l.length<=t+10):Def (zK (kU l) FU (0,(t:Int))) (λy=>match y with | .inl b=>b=false/\¬ Dg (l.drop t) | .inr v=>v=(nv (l.drop t):Int)/\Dg (l.drop t)):=by
 refine Qc (λs=>∃ k:Nat,t+k<=l.length/\s.2=((t+k:Nat):Int)/\s.1=(nv ((l.drop t).take k):Int)/\Dg ((l.drop t).take k)) (λs=>l.length - s.2.toNat) (λs hs=>?_) ⟨0,by omega,rfl,rfl,λc hc=>by simp at hc⟩ (by simp;omega);obtain ⟨v,ii⟩:=s;obtain ⟨k,hk,rfl,hv,hd⟩:=hs;replace hv:v=(nv ((l.drop t).take k):Int):=hv;subst hv;unfold kU;refine Q2 (λh=>?_) (λh=>Q1 ?_)
 ·have hi:t+k<l.length:=by have:=dT h;omega
  have htk:(l.drop t).take (k+1)=(l.drop t).take k++[l[t+k]]:=by
   rw [Qf];simp [hi]
  refine Q0 (P:=λb=>b=false↔48<=l[t+k].toNat/\l[t+k].toNat<=57) ?_ (λb hb=>?_)
  ·refine Q0 (Q5 hi) (λc hc=>Q2 (λh=>Q1 ⟨λh=>(by cases h),λh1=>?_⟩) (λh48=>?_))
   ·have:=dT h;rw [hc] at this;omega
   refine Q0 (Q5 hi) (λd hd=>Q1 ?_);subst hc hd;have h48:=dF h48;rw [decide_eq_false_iff_not];omega
  ·refine Q2 (λh=>Q1 ⟨rfl,λhd=>?_⟩) (λh=>?_)
   ·rw [hb.2 (hd _ (by rw [Ql];exact ⟨k,by simp;omega,by simp⟩))] at h;cases h
   ·have hc:=hb.1 h;refine Q0 (Q5 hi) (λc hcc=>?_);subst hcc;have hn:=zPf k _ (by simp;omega) hd;have h9:k<=9:=by omega
    have hp:10 ^ k<=10 ^ 9:=Wd (by decide) h9;have e1:((u8 (Ws.wrap ((l[t+k].toNat:Int) - 48))).toNat:Int)=((l[t+k].toNat - 48:Nat):Int):=by
     rw [show Ws.wrap ((l[t+k].toNat:Int) - 48)=((l[t+k].toNat - 48:Nat):Int) by unfold IntKind.wrap;simp only [IntKind.signed,IntKind.bits];simp;omega];rw [tY];omega
    rw [e1];rw [zZ (n:=10*_) (by omega) (by omega),zZ (n:=((l[t+k].toNat - 48:Nat):Int)) (by omega) (by omega),zZ (by omega) (by omega),yM (by omega)];refine Q1 ⟨⟨k+1,by omega,rfl,?_,?_⟩,?_⟩
    ·rw [htk,zAl];show 10*(nv ((l.drop t).take k):Int)+_=_;omega
    ·rw [htk];intro c hcm;rcases W7.1 hcm with hcm | hcm
     ·exact hd c hcm
     ·rw [List.mem_singleton.1 hcm];exact hc
    ·show l.length - (((t+k+1:Nat):Int)).toNat<l.length - (((t+k:Nat):Int)).toNat;omega
 ·have:k=(l.drop t).length:=by have:=dF h;simp;omega
  rw [this,W4] at hd ⊢;exact ⟨rfl,hd⟩
theorem zL3 (r:yL) (l:By) (h:r.Text.length<2 ^ 40) (hl:l.length<=64):∃ v,jT r l=some v/\jP r l=some v:=by
 obtain ⟨c,hc,hg⟩:=zTs r h;unfold jT jP;rw [zJs r h,hc];show ∃ v,(bif (c != 0) then _ else _)=some v/\(bif (c != 0) then _ else _)=some v;by_cases hc0:¬ c=0
 ·have:(c != 0)=true:=by simp [hc0]
  rw [this];exact ⟨false,rfl,rfl⟩
 replace hc0:c=0:=Classical.not_not.1 hc0;obtain ⟨ht,k1,k4,hlow⟩:=hg hc0;have:(c != 0)=false:=by simp [hc0]
 rw [this];show ∃ v,(bif (r.Kind==2) then _ else _)=some v/\(bif (r.Kind==1) then _ else _)=some v;by_cases e2:r.Kind=2
 ·refine ⟨l==r.Text,ct (by rw [e2];rfl) rfl,cf (by rw [e2];rfl) (ct (by rw [e2];rfl) (bd (ckT (cO (by omega))) (bd (uB r.Text l (by omega)) ?_)))⟩;rw [Bool.beq_comm]
 by_cases e3:r.Kind=3
 ·obtain ⟨v,h1,h2⟩:=zQv r.Text l ht hl;exact ⟨v,cf (by rw [e3];rfl) (ct (by rw [e3];rfl) (bd h1 rfl)),cf (by rw [e3];rfl) (cf (by rw [e3];rfl) (ct (by rw [e3];rfl) (bd h2 rfl)))⟩
 by_cases e1:r.Kind=1
 ·exact ⟨true,cf (by rw [e1];rfl) (cf (by rw [e1];rfl) (cf (by rw [e1];rfl) rfl)),ct (by rw [e1];rfl) rfl⟩
 have e4:r.Kind=4:=by omega
 have h0:=hlow e4;have hA:Def ((tV l r.Text).bind λ((v,w):By×Bool)=>(mN v).bind λn=>(bif w then (bif decide (r.Low<=n) then (some (decide (n<=r.High))) else some false) else some false:Option (Bool)).bind λ(x:Bool)=>some x) (λv=>v=true↔Al r l):=by
  refine Q0 (zS5 l r.Text) (λz hz=>?_);obtain ⟨hp,rfl⟩ | ⟨hp,rfl⟩:=hz
  ·refine Q0 (zIs _) (λn hn=>?_);refine Q0 (P:=λv=>v=true↔Al r l) ?_ (λv hv=>Q1 hv);refine Q2 (λ_=>?_) (λh=>by cases h);refine Q2 (λh1=>Q1 ?_) (λh1=>Q1 ⟨λh=>(by cases h),λha=>?_⟩)
   ·have h1:=dT h1;rw [decide_eq_true_iff];obtain ⟨hn,rfl⟩ | ⟨_,rfl⟩:=hn
    ·exact ⟨λh=>⟨hp,hn,h1,h⟩,λh=>h.2.2.2⟩
    ·omega
   ·have h1:=dF h1;obtain ⟨hn,rfl⟩ | ⟨hn,rfl⟩:=hn
    ·exact absurd ha.2.2.1 h1
    ·exact absurd ha.2.1 hn
  ·refine Q0 (zIs _) (λn hn=>?_);refine Q0 (P:=λv=>v=false) (Q2 (λh=>by cases h) (λ_=>Q1 rfl)) (λv hv=>Q1 ?_);rw [hv];exact ⟨λh=>(by cases h),λha=>absurd ha.1 hp⟩
 obtain ⟨v,hv,hva⟩:=hA;refine ⟨v,cf (by rw [e4];rfl) (cf (by rw [e4];rfl) (ct (by rw [e4];rfl) hv)),cf (by rw [e4];rfl) (cf (by rw [e4];rfl) (cf (by rw [e4];rfl) ?_))⟩;refine Def.iff (P:=Al r l) ?_ hva;refine Q0 (P:=λb=>b=false↔l.take r.Text.length=r.Text/\r.Text.length<l.length/\l.length<=r.Text.length+10) ?_ (λb hb=>?_)
 ·refine Q2 (λh=>Q1 ⟨λh=>(by cases h),λh1=>by have:=dT h;omega⟩) (λh1=>?_);rw [zZ (by omega) (by omega)];refine Q2 (λh=>Q1 ⟨λh=>(by cases h),λh1=>by have:=dT h;omega⟩) (λh2=>?_);have h1:=dF h1;have h2:=dF h2;rw [ckT (cO (by omega))];refine Q0 (P:=λ_=>True) (Q1 trivial) (λ_ _=>?_);refine Q0 (Qk (by decide) (by omega) (by omega)) (λx hx=>?_);refine Q0 (Q3 (uB r.Text x (by omega)) rfl:Def _ (λv=>v=(r.Text==x))) (λv hv=>Q1 ?_);rw [hv,hx];simp;constructor
  ·intro e;exact ⟨e.symm,by omega,by omega⟩
  ·intro e;exact e.1.symm
 ·refine Q2 (λh=>Q1 ⟨λh=>(by cases h),λha=>?_⟩) (λhbf=>?_)
  ·have hlt:=ha.2.1.1;have hle:=ha.2.1.2.1;rw [Qh] at hlt hle;rw [hb.2 ⟨ha.1,by omega,by omega⟩] at h;cases h
  ·obtain ⟨p1,p2,p3⟩:=hb.1 hbf;refine Q0 (zSz l r.Text.length hl p2 p3) (λy hy=>?_);cases y with
   | inl b=>
    refine Q1 ?_;rw [hy.1];exact ⟨λh=>(by cases h),λha=>absurd ha.2.1.2.2.2 hy.2⟩
   | inr v=>
    obtain ⟨rfl,hd⟩:=hy;have hn:=zPf (l.drop r.Text.length).length _ rfl hd;have hp:10 ^ (l.drop r.Text.length).length<=10 ^ 10:=Wd (by decide) (by simp;omega);refine Q0 (P:=λv=>v=true↔Al r l) ?_ (λv hv=>Q1 hv);refine Q0 (Q3 (zEl 9 RF 20 (nv (l.drop r.Text.length)) (by omega) (by omega) (by decide) (by decide) (by decide)) rfl:Def _ (λz=>z=decF 20 (nv (l.drop r.Text.length)))) (λz hz=>?_);refine Q0 (Qk (by omega) (by omega) (by omega)) (λx hx=>?_);have hx':x=l.drop r.Text.length:=by
     rw [hx];simp only [Q7];rw [Qb (by simp)]
    have:=eB 20 (nv (l.drop r.Text.length));refine Q0 (Q3 (uB z x (by rw [hz];omega)) rfl:Def _ (λv=>v=(z==x))) (λv hv=>?_);have hnum:=zVx (l.drop r.Text.length) (by simp;omega) (by simp;omega) hd;refine Q2 (λh=>?_) (λh=>Q1 ⟨λh=>(by cases h),λha=>?_⟩)
    ·rw [hv,hz,hx',beq_iff_eq,hnum] at h;refine Q2 (λh1=>Q1 ?_) (λh1=>Q1 ⟨λh=>(by cases h),λha=>absurd ha.2.2.1 (dF h1)⟩);rw [decide_eq_true_iff];exact ⟨λh2=>⟨p1,h,dT h1,h2⟩,λha=>ha.2.2.2⟩
    ·rw [hv,hz,hx',beq_eq_false_iff_ne] at h;exact absurd (hnum.2 ha.2.1) h
set_option maxRecDepth 100000
def kq (i:Int):zN:=⟨2,7,1,[],zK4 (sha [113,u8 i])⟩
theorem zJw (i:Int):vF i=some (sha [113,u8 i]):=by
 unfold vF;exact bd (zAp _ (by simp)) rfl
theorem zCk (i:Int):tU i=some (kq i):=by
 unfold tU;refine bd (zJw i) ?_;exact bd (zFm _ (by rw [jU];decide)) rfl
theorem zY7 (i:Int):chk (kq i)=0:=by
 have h:=bP (sha [113,u8 i]);have e:=fE (kq i);have:sG (kq i)=some 0:=by
  unfold sG kq;simp only [h];rfl
 rw [this] at e;injection e with e;exact e.symm
theorem yA2 (i:Int) (leaf:Nat) (b:By) (a:zM) (hl:leaf<=1) (ha:att b=(a,0)) (hk:a.Key=nm (kq i)):vq (kq i) b (zEs (sha [113,u8 i]) leaf b)=(a,(leaf:Int),0):=by
 have hv:vrf (kq i).Unique b (zEs (sha [113,u8 i]) leaf b)=((leaf:Int),true):=zSp (sha [113,u8 i]) leaf b (by rw [jU];decide) hl;unfold vq;rw [hv,ha,zY7 i,if_neg (by simp),if_neg (by show ¬ ((2:Int)≠2);simp),if_neg (by show ¬ xG .i64 7 4=0;decide),if_neg (by simp),if_neg (by simp),if_neg (by simp [hk])]
set_option maxRecDepth 100000
structure Rem (r:RS) (l:By):Prop where
 e:r.e=0
 at':r.at'<=r.b.length
 d:r.b.drop r.at'=l
theorem Rem.left (h:Rem r l):r.left=l.length:=by
 have:=congrArg Qx h.d;simp at this;exact this
theorem Rem.to (h:Rem r (x++rest)) (hx:x.length=n):Rem (r.to n) rest:=by
 have hl:=h.left;have ha:=h.at';simp only [RS.left,Q4] at hl;refine ⟨h.e,by simp only [RS.to];omega,?_⟩;show r.b.drop (r.at'+n)=rest;rw [<- Qd,h.d,<- hx,List.drop_left]
theorem Rem.raw (h:Rem r (x++rest)) (hx:x.length=n):uN r n=(x,r.to n):=by
 have hl:=h.left;rw [Q4] at hl;unfold uN;rw [if_neg (by simp [h.e]),if_neg (by omega)];have:r.get n=x:=by
  unfold RS.get;rw [h.d,<- hx,Wb]
 rw [this]
theorem Rem.uint (h:Rem r (x++rest)) (hx:x.length=n) (hv:¬ 9223372036854775808<=beV x n):yG r n=(Qa.wrap (beV x n),r.to n):=by
 have hl:=h.left;rw [Q4] at hl;unfold yG;have:r.get n=x:=by
  unfold RS.get;rw [h.d,<- hx,Wb]
 rw [if_neg (by simp [h.e]),if_neg (by omega),this,if_neg hv]
theorem Rem.blob {a b:UInt8} (h:Rem r ([a,b]++(x++rest))) (hx:x.length=a.toNat*256+b.toNat) (hm:x.length<=m):yX r m=(x,r.to (2+x.length))/\Rem (r.to (2+x.length)) rest:=by
 have hl:=h.left;have ha:=h.at';simp only [Q4,W2,Qo] at hl;have hd:=h.d;have e0:r.b.getD r.at' 0=a:=by
  have:=congrArg (λl=>l.getD 0 0) hd;simpa using this
 have e1:r.b.getD (r.at'+1) 0=b:=by
  have:=congrArg (λl=>l.getD 1 0) hd;simpa using this
 have ev:v2 r=x.length:=by unfold v2;rw [e0,e1,hx]
 have h2:Rem (r.to 2) (x++rest):=Rem.to (x:=[a,b]) h rfl;have hd2:r.b.drop (r.at'+2)=x++rest:=h2.d;constructor
 ·unfold yX;rw [if_neg (by simp [h.e]),if_neg (by omega),ev,if_neg (by omega),if_neg (by omega),hd2,Wb]
 ·have:=Rem.to h2 rfl;have e:(r.to 2).to x.length=r.to (2+x.length):=by simp [RS.to,Nat.add_assoc]
  rw [<- e];exact this
theorem Rem.uintV {v:Int} (h:Rem r (x++rest)) (hx:x.length=n) (hv:beV x n=v) (h0:0<=v) (h1:v<9223372036854775808):yG r n=(v,r.to n):=by
 rw [h.uint hx (by omega),hv,zZ (by omega) (by omega)]
theorem Rem.cast {r':RS} (h:Rem r l) (e:r'=r):Rem r' l:=e▸h
theorem zMo (a b:Nat) (ha:a<2 ^ 56) (hb:b<256):ior .u64 (tL .u64 (a:Int) 8) (Qr.wrap (b:Int))=((a*256+b:Nat):Int):=by
 rw [bH (by omega) (by omega)];have e1:tL .u64 (a:Int) 8=((a*256:Nat):Int):=by
  show Qr.wrap ((a:Int)*256)=_;rw [bH (by omega) (by omega)];omega
 rw [e1];unfold ior;have e2:(W5 Qr.bits ((a*256:Nat):Int) ||| W5 Qr.bits (b:Int)).toNat=a*256+b:=by
  show (W5 64 ((a*256:Nat):Int) ||| W5 64 (b:Int)).toNat=_;rw [We,We,BitVec.toNat_or,Wi,Wi,Wn (by omega),Wn (by omega)];rw [Nat.mul_comm,show (256:Nat)=2 ^ 8 from rfl,<- Nat.two_pow_add_eq_or_of_lt (by omega)]
 rw [e2,bH (by omega) (by omega)]
theorem zGt (n size k:Nat) (hn:n<2 ^ 64) (hk:k<size) (h8:size<=8):((beN (n:Int) size size).getD k 0).toNat=n / 256 ^ (size - (k+1)) % 256:=by
 have e:(beN (n:Int) size size).getD k 0=u8 (xE .u64 (Qr.wrap (n:Int)) (8*((size:Int) - 1 - (k:Int)))):=by simp [beN,hk]
 rw [e,bH (by omega) (by omega),show 8*((size:Int) - 1 - (k:Int))=((8*(size - (k+1)):Nat):Int) by omega,zNr .u64 n _ (by show _<=64;omega),tY,Nat.pow_mul]
theorem zPm (n size:Nat) (hn:n<2 ^ 64) (h8:size<=8) (hs:n<256 ^ size):∀ k,k<=size->beV (beN (n:Int) size size) k=((n / 256 ^ (size - k):Nat):Int)
 | 0,_=>by
  rw [Nat.sub_zero,Nat.div_eq_of_lt hs];rfl
 | k+1,hk=>by
  unfold beV;rw [zPm n size hn h8 hs k (by omega),zGt n size k hn (by omega) h8];have e:256 ^ (size - k)=256 ^ (size - (k+1))*256:=by
   rw [<- Wh];congr 1;omega
  rw [e,<- Nat.div_div_eq_div_mul];have hm:n / 256 ^ (size - (k+1))<=n:=Nat.div_le_self _ _;generalize n / 256 ^ (size - (k+1))=m at hm;rw [zMo _ _ (by omega) (by omega)];congr 1;omega
theorem Rem.uintN (h:Rem r (beN (n:Int) k k++rest)) (h8:k<=8) (hn:n<2 ^ 63) (hs:n<256 ^ k):yG r k=((n:Int),r.to k)/\Rem (r.to k) rest:=by
 have hb:=zPm n k (by omega) h8 hs k (Qe _);rw [Nat.sub_self,Nat.pow_zero,Nat.div_one] at hb;exact ⟨h.uintV (lB _ _ _) hb (by omega) (by omega),h.to (lB _ _ _)⟩
theorem be2 (n:Nat) (hn:n<65536):∃ a b:UInt8,beN (n:Int) 2 2=[a,b]/\n=a.toNat*256+b.toNat:=by
 have h0:=zGt n 2 0 (by omega) (by omega) (by omega);have h1:=zGt n 2 1 (by omega) (by omega) (by omega);have hl:=lB (n:Int) 2 2
 match hx:beN (n:Int) 2 2,hl with
 | [a,b],_=>
  rw [hx] at h0 h1;refine ⟨a,b,rfl,?_⟩;have h0:a.toNat=n / 256 ^ 1 % 256:=h0;have h1:b.toNat=n / 256 ^ 0 % 256:=h1;rw [h0,h1];simp only [Nat.pow_one,Nat.pow_zero,Nat.div_one];omega
theorem zMa (b:By) (h:x.length<=65535):eN b x=b++(beN (x.length:Int) 2 2++x):=by
 unfold eN vI;rw [Qb h,W0]
theorem Rem.blobN (h:Rem r (beN (x.length:Int) 2 2++(x++rest))) (hx:x.length<=65535) (hm:x.length<=m):yX r m=(x,r.to (2+x.length))/\Rem (r.to (2+x.length)) rest:=by
 obtain ⟨a,b,h1,h2⟩:=be2 x.length (by omega);rw [h1] at h;exact Rem.blob h h2 hm
theorem Rem.fin (h:Rem r []):qT r=0:=by
 have:=h.left;unfold qT;rw [if_neg (by rw [this];simp)];exact h.e
def qbA (a:zM):By:=[83,87,81,49]++(beN (a.Key.length:Int) 2 2++(a.Key++(beN (a.Nonce.length:Int) 2 2++(a.Nonce++(beN a.Resets 8 8++(beN a.Restarts 8 8++(beN a.Clock 8 8++([0]++(beN a.Updates 8 8++(beN a.Selection.a0 2 2++(beN a.Selection.a1 2 2++(a.Digest++[]))))))))))))
structure zW0 (a:zM):Prop where
 k:a.Key.length=32
 n:a.Nonce.length=32
 d:a.Digest.length=32
 s:a.Safe=false
 r0:0<=a.Resets/\a.Resets<2 ^ 62
 r1:0<=a.Restarts/\a.Restarts<2 ^ 62
 c:0<=a.Clock/\a.Clock<2 ^ 62
 u:0<=a.Updates/\a.Updates<2 ^ 62
 s0:0<=a.Selection.a0/\a.Selection.a0<=65535
 s1:0<=a.Selection.a1/\a.Selection.a1<=65535
theorem Rem.uintI {n:Int} (h:Rem r (beN n k k++rest)) (h8:k<=8) (h0:0<=n) (hn:n<2 ^ 62) (hs:n.toNat<256 ^ k):yG r k=(n,r.to k)/\Rem (r.to k) rest:=by
 obtain ⟨m,rfl⟩:=Q9 h0;exact Rem.uintN h h8 (by omega) hs
theorem zVw (a:zM) (h:zW0 a):(qbA a).length=141:=by
 unfold qbA;simp only [Q4,lB,h.k,h.n,h.d,W2,Qo]
theorem yBf (a:zM) (h:zW0 a):att (qbA a)=(a,0):=by
 have r0:Rem (d0 (qbA a)) ([83,87,81,49]++_):=⟨rfl,Nat.zero_le _,rfl⟩;generalize hB:qbA a=B at r0;have e1:d1 B=([83,87,81,49],(d0 B).to 4):=Rem.raw (x:=[83,87,81,49]) (n:=4) r0 rfl;have r1:=(Rem.to (x:=[83,87,81,49]) (n:=4) r0 rfl).cast (r':=(d1 B).2) (by rw [e1]);obtain ⟨e2,r2⟩:=Rem.blobN (m:=32) r1 (by have:=h.k;omega) (by have:=h.k;omega);replace r2:=r2.cast (r':=(d2 B).2) (by show (yX (d1 B).2 32).2=_;rw [e2]);obtain ⟨e3,r3⟩:=Rem.blobN (m:=128) r2 (by have:=h.n;omega) (by have:=h.n;omega);replace r3:=r3.cast (r':=(d3 B).2) (by show (yX (d2 B).2 128).2=_;rw [e3]);obtain ⟨e4,r4⟩:=Rem.uintI r3 (by omega) h.r0.1 h.r0.2 (by have:=h.r0;omega);replace r4:=r4.cast (r':=(d4 B).2) (by show (yG (d3 B).2 8).2=_;rw [e4]);obtain ⟨e5,r5⟩:=Rem.uintI r4 (by omega) h.r1.1 h.r1.2 (by have:=h.r1;omega);replace r5:=r5.cast (r':=(d5 B).2) (by show (yG (d4 B).2 8).2=_;rw [e5]);obtain ⟨e6,r6⟩:=Rem.uintI r5 (by omega) h.c.1 h.c.2 (by have:=h.c;omega);replace r6:=r6.cast (r':=(d6 B).2) (by show (yG (d5 B).2 8).2=_;rw [e6]);have e7:d7 B=(0,(d6 B).2.to 1):=Rem.uintV (x:=[0]) (n:=1) r6 rfl (by decide +kernel) (by decide) (by decide);have r7:=(Rem.to (x:=[0]) (n:=1) r6 rfl).cast (r':=(d7 B).2) (by rw [e7]);obtain ⟨e8,r8⟩:=Rem.uintI r7 (by omega) h.u.1 h.u.2 (by have:=h.u;omega);replace r8:=r8.cast (r':=(d8 B).2) (by show (yG (d7 B).2 8).2=_;rw [e8]);obtain ⟨e9,r9⟩:=Rem.uintI r8 (by omega) h.s0.1 (by have:=h.s0;omega) (by have:=h.s0;omega);replace r9:=r9.cast (r':=(d9 B).2) (by show (yG (d8 B).2 2).2=_;rw [e9]);obtain ⟨e10,r10⟩:=Rem.uintI r9 (by omega) h.s1.1 (by have:=h.s1;omega) (by have:=h.s1;omega);replace r10:=r10.cast (r':=(d10 B).2) (by show (yG (d9 B).2 2).2=_;rw [e10]);have e11:d11 B=(a.Digest,(d10 B).2.to 32):=Rem.raw (n:=32) r10 h.d;have r11:=(Rem.to (n:=32) r10 h.d).cast (r':=(d11 B).2) (by rw [e11]);have hend:=r11.fin;have f1:(d1 B).2.e=0:=r1.e;have g1:(d1 B).1=[83,87,81,49]:=by rw [e1]
 have g2:(d2 B).1=a.Key:=congrArg Qt e2;have g3:(d3 B).1=a.Nonce:=congrArg Qt e3;have g4:(d4 B).1=a.Resets:=congrArg Qt e4;have g5:(d5 B).1=a.Restarts:=congrArg Qt e5;have g6:(d6 B).1=a.Clock:=congrArg Qt e6;have g7:(d7 B).1=0:=by rw [e7]
 have g8:(d8 B).1=a.Updates:=congrArg Qt e8;have g9:(d9 B).1=a.Selection.a0:=congrArg Qt e9;have g10:(d10 B).1=a.Selection.a1:=congrArg Qt e10;have g11:(d11 B).1=a.Digest:=by rw [e11]
 have hk:=h.k;have hs:=h.s;unfold att;rw [f1,g1,hend,g2,g3,g4,g5,g6,g7,g8,g9,g10,g11,if_neg (by simp),if_neg (by simp),if_neg (by simp),if_neg (by omega)];obtain ⟨_,_,_,_,_,sf,_,sel,_⟩:=a;simp only at hs;subst hs;rfl
theorem yD5 (a:zM) (h:zW0 a):rH a=some (qbA a):=by
 obtain ⟨K,N,r0,r1,c,sf,u,⟨s0,s1⟩,D⟩:=a;have hk:K.length=32:=h.k;have hn:N.length=32:=h.n;have hd:D.length=32:=h.d;have hs:sf=false:=h.s;subst hs;unfold rH qbA;refine bd (a:=[83,87,81,49]) rfl ?_;refine bd ((qV _ K (by simp)).trans (congrArg some (zMa _ (by omega)))) ?_;refine bd ((qV _ N (by simp [lB,hk])).trans (congrArg some (zMa _ (by omega)))) ?_;simp only;generalize hb:[83,87,81,49]++(beN (K.length:Int) 2 2++K)++(beN (N.length:Int) 2 2++N)=b;have l2:b.length=72:=by rw [<- hb];simp [lB,hk,hn]
 refine bd (uV b 8 r0 (by omega) (by omega) (by omega)) ?_;refine bd (uV _ 8 r1 (by omega) (by omega) (by rw [yI];omega)) ?_;refine bd (uV _ 8 c (by omega) (by omega) (by rw [yI,yI];omega)) ?_;refine bd (a:=0) rfl ?_;refine bd (yF (by rw [yI,yI,yI];simp;omega)) ?_;refine bd (uV _ 8 u (by omega) (by omega) (by rw [Q4,yI,yI,yI];simp;omega)) ?_;refine bd (uV _ 2 s0 (by omega) (by omega) (by rw [yI,Q4,yI,yI,yI];simp;omega)) ?_;refine bd (uV _ 2 s1 (by omega) (by omega) (by rw [yI,yI,Q4,yI,yI,yI];simp;omega)) ?_;refine bd (yF (by rw [yI,yI,yI,Q4,yI,yI,yI];simp;omega)) ?_;have z0:u8 0=0:=rfl;unfold vI;rw [z0,<- hb];simp only [W0,List.append_nil]
set_option maxRecDepth 100000
theorem Rem.eqv {l':By} (h:Rem r l) (e:l'=l):Rem r l':=e▸h
set_option maxRecDepth 100000
def zVr (a r:Int):By:=[83,87,76,49]++(u8 a :: beN r 6 6)
theorem zJu (a r:Int) (h1:1<=a) (h3:a<=3) (h0:0<=r) (hr:r<=1099511627776):uH a r=some (zVr a r):=by
 unfold uH;refine bd (a:=false) (cf (by simp;omega) (cf (by simp;omega) (cf (by simp;omega) (congrArg some (by simp;omega))))) ?_;refine cf rfl ?_;refine bd (yF (by simp)) ?_;refine bd (uV _ 6 r (by omega) (by omega) (by simp)) ?_;unfold vI zVr;rw [W0];rfl
theorem zOr (a r:Int) (h1:1<=a) (h3:a<=3) (h0:0<=r) (hr:r<=1099511627776):∃ b,wW a r=some b/\b.length=11:=by
 refine ⟨vI (vI [83,87,76,49] 1 a) 6 r,?_,by rw [yI,yI];rfl⟩;unfold wW;refine bd (a:=false) (cf (by simp;omega) (cf (by simp;omega) (cf (by simp;omega) (congrArg some (by simp;omega))))) ?_;refine cf rfl ?_;refine bd (tT _ 1 a (by omega) (by omega) (by simp)) ?_;exact bd (tT _ 6 r (by omega) (by omega) (by rw [yI];simp)) rfl
set_option maxRecDepth 100000
set_option maxRecDepth 100000
structure EvS (e:zC):Prop where
 d:e.Data.length<=64
 n:e.Digests.length=2
set_option maxRecDepth 100000
theorem zVq (r:Int) (h1:1<=r) (h4:r<=4):sV r=some (rgR r):=by
 have:r=1∨r=2∨r=3∨r=4:=by omega
 rcases this with rfl | rfl | rfl | rfl<;>rfl
end Go.Proofs.TT
