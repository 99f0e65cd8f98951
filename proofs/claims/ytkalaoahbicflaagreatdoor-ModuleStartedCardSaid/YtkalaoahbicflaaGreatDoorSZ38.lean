/- ModuleStarted holds for all inputs -/
import Derived.Test.YtkalaoahbicflaaGreatDoorSZ37
import Derived.Test.YtkalaoahbicflaaGreatDoorSZ6
set_option linter.all false
open Go.Sw.Def renaming bd -> Q0, s -> Q1, of -> Q5, c -> Q7, lt -> Qa, loop -> Qi, ck -> Qk, idx -> Ql, ixN -> Qm, app -> Qn
open Nat renaming zero_le -> Q2, le_refl -> Qh
open List renaming not_mem_nil -> Q3, mem_cons -> Q4, length_append -> Q9, length_cons -> Qb, length_take -> Qc, take_length -> Qd, length_nil -> Qe, replicate -> Qf, map_cons -> Qo, sum_cons -> Qp
open Go.IntKind renaming i64 -> Q6
open Int renaming tmod -> Q8, tdiv -> Qg, tmod_lt_of_pos -> Qj
namespace Go.Proofs.TT
open Go Go.Sw
set_option maxRecDepth 100000
set_option linter.unusedSectionVars false
variable {a:Int}{b:By}{c m n:Int}{q:zC}{r:zD}{s:zB}{v:Int}{α:Type}
section
variable (h:zY s) (k:RqS q) (loc:Int) (al:AlQ s q)
include h k
theorem rm5 (hc:q.Code=5):wT s loc q=some (m5 s q):=by
 obtain ⟨_,_,c,_⟩:=cnt k hc (a:=0) (b:=0) (i:=2) (n:=0) (by decide +kernel);unfold wT m5;rw [hc];refine bd (a:=.inl (if (vlV s.Volatile.Registers (int q 0) (int q 1)).2≠0 then (s,rs (vlV s.Volatile.Registers (int q 0) (int q 1)).2) else (s,⟨0,[s.Volatile.Registers.Updates],[(vlV s.Volatile.Registers (int q 0) (int q 1)).1],[]⟩))) (ct rfl (bd (tN (i:=0) (by omega)) (bd (tN (i:=1) (by omega)) (bd (zI7 h.rg _ _) ?_)))) rfl;dsimp only;by_cases g:(vlV s.Volatile.Registers (int q 0) (int q 1)).2=0
 ·rw [if_neg (show ¬ (vlV s.Volatile.Registers (int q 0) (int q 1)).2≠0 by simp [g])];exact cf (b0 g) rfl
 ·rw [if_pos g];exact ct (b1 g) rfl
theorem rm6 (hc:q.Code=6):wT s loc q=some (m6 s loc q):=by
 obtain ⟨_,_,c,_⟩:=cnt k hc (a:=0) (b:=0) (i:=1) (n:=2) (by decide +kernel);unfold wT m6;rw [hc];refine bd (cf rfl (ct rfl (bd (tN (i:=0) (by omega)) (bd (zBj h.rg _ _ (yA1 k.ok)) rfl)))) ?_;exact zO0 s _ []
theorem rm7 (hc:q.Code=7):wT s loc q=some (m7 s loc q):=by
 obtain ⟨_,_,c,d⟩:=cnt k hc (a:=0) (b:=0) (i:=1) (n:=1) (by decide +kernel);have d:=d (by decide);have l0:=zA1 k.ok 0;unfold wT m7;rw [hc];refine bd (cf rfl (cf rfl (ct rfl (bd (pZ (i:=0) (by omega)) (bd (yHl h.rg (by omega)) (bd (tN (i:=0) (by omega)) (bd (pZ (i:=0) (by omega)) (bd (zJd h.rg _ _ _) rfl)))))))) ?_;exact zO0 s _ _
theorem rm8 (hc:q.Code=8):wT s loc q=some (m8 s loc q):=by
 obtain ⟨_,_,c,_⟩:=cnt k hc (a:=0) (b:=0) (i:=1) (n:=0) (by decide +kernel);unfold wT m8;rw [hc];refine bd (cf rfl (cf rfl (cf rfl (bd (tN (i:=0) (by omega)) (bd (zJk h.rg _ _) rfl))))) ?_;exact zO0 s _ []
theorem rs16 (hc:q.Code=16):xZ s q=some (m16 s q):=by
 obtain ⟨_,_,c,_⟩:=cnt k hc (a:=0) (b:=0) (i:=1) (n:=0) (by decide +kernel);unfold xZ m16;rw [hc];refine ct rfl (bd (tN (i:=0) (by omega)) (bd (zNw h _) ?_));dsimp only;by_cases g:(opV s (int q 0)).2.2=0
 ·rw [if_neg (show ¬ (opV s (int q 0)).2.2≠0 by simp [g])];obtain ⟨a,j,hj,e⟩:=yA5 h g;have ih:I64 (opV s (int q 0)).2.1:=by rw [e];exact ⟨by omega,by omega⟩
  exact cf (b0 g) (bd (zCc a ih) rfl)
 ·rw [if_pos g];exact ct (b1 g) rfl
theorem rs17 (hc:q.Code=17):xZ s q=some (m17 s q):=by
 obtain ⟨_,_,c,_⟩:=cnt k hc (a:=0) (b:=0) (i:=6) (n:=-1) (by decide +kernel);obtain ⟨n1,n2,n3⟩:=yLk s q;unfold xZ;rw [hc];exact cf rfl (ct rfl (bd (zPi h k.ok (by omega)) (tl1 n3 n1 n2)))
theorem rs19 (hc:q.Code=19):xZ s q=some (m19 s q):=by
 obtain ⟨_,_,c,d⟩:=cnt k hc (a:=0) (b:=0) (i:=1) (n:=3) (by decide +kernel);have d:=d (by decide);have l0:=zA1 k.ok 0;have l2:=zA1 k.ok 2;unfold xZ m19;rw [hc];refine cf rfl (cf rfl (cf rfl (ct rfl (bd (pZ (i:=0) (by omega)) (bd (zN5 _ (by omega)) ?_)))));show (bif (ldD q).2 != 0 then _ else _)=_;by_cases g:(ldD q).2=0
 ·rw [if_neg (show ¬ (ldD q).2≠0 by simp [g])];have ok:=zOv g;have hu:(ldD q).1.Unique.length<2 ^ 40:=by rw [ok.un];split<;>decide
  exact cf (b0 g) (bd (tN (i:=0) (by omega)) (bd (pZ (i:=1) (by omega)) (bd (pZ (i:=2) (by omega)) (bd (zMz h (zFh k.ok (by omega)) hu (by omega)) (bd (bU _ _ _) (congrArg some (zLb _ _ _)))))))
 ·rw [if_pos g];exact ct (b1 g) rfl
theorem rs20 (hc:q.Code=20):xZ s q=some (m20 s q):=by
 obtain ⟨_,_,c,_⟩:=cnt k hc (a:=0) (b:=0) (i:=1) (n:=0) (by decide +kernel);have e:=zCc h (zFh k.ok (i:=0) (by omega));unfold xZ m20;rw [hc];generalize sfV s (int q 0)=w at *;refine cf rfl (cf rfl (cf rfl (cf rfl (bd (tN (i:=0) (by omega)) (bd e (bd (oO _ _) ?_))))));cases (w.2 != 0)||(w.1.Kind==1)<;>rfl
include al
theorem rs18 (hc:q.Code=18):xZ s q=some (m18 s q):=by
 obtain ⟨a,b,c,d⟩:=cnt k hc (a:=1) (b:=1) (i:=2) (n:=1) (by decide +kernel);have d:=d (by decide);have sy:(int q 0==(aut q).Session)=((aut q).Session==int q 0):=by
  by_cases e:int q 0=(aut q).Session
  ·rw [c0' e,c0' e.symm]
  ·rw [c1' e,c1' (λg=>e g.symm)]
 unfold xZ m18;rw [hc];refine cf rfl (cf rfl (ct rfl (bd (tN (i:=0) (by omega)) (bd (yJj (by omega)) ?_))));rw [sy];cases (aut q).Session==int q 0
 case true=>rfl
 exact cf rfl (bd (tN (i:=0) (by omega)) (bd (zDw (i:=0) (by omega)) (bd (zQb h (eZ k.ok (by omega))) (bd (pZ (i:=0) (by omega)) (bd (tN (i:=1) (by omega)) (bd (zPu h (zFh k.ok (by omega)) _ _ _) (bd (bU _ _ _) (congrArg some (zLb _ _ _)))))))))
theorem zNs:yQ s loc q=some (bdy s loc q):=by
 obtain ⟨c1,c2,c3⟩:=eF k;by_cases hx:23<=q.Code/\q.Code<=29
 ·obtain ⟨ix,hb⟩:=ixQ h k hx;have ei:=al.ix hx;have e:=zT9 h k.ok ix ei;have nq:∀ c:Int,c<23∨29<c->(q.Code==c)=false:=λc hh=>c1' (by omega);unfold yQ bdy;rw [nq 1 (by decide),nq 2 (by decide),nq 4 (by decide),nq 5 (by decide),nq 6 (by decide),nq 7 (by decide),nq 8 (by decide),nq 9 (by decide),nq 10 (by decide),nq 11 (by decide),nq 12 (by decide),nq 13 (by decide),nq 14 (by decide),nq 15 (by decide),nq 16 (by decide),nq 17 (by decide),nq 18 (by decide),nq 19 (by decide),nq 20 (by decide),nq 21 (by decide),nq 22 (by decide),nq 30 (by decide),nq 31 (by decide),nq 32 (by decide),nq 33 (by decide)];exact cf rfl (cf rfl (cf rfl (bd (a:=false) rfl (cf rfl (bd (a:=false) rfl (cf rfl (bd (a:=false) rfl (cf rfl (cf rfl (cf rfl (cf rfl (cf rfl (cf rfl (cf rfl (bd e (tl2 (zWl h ei).n (yLc s q)))))))))))))))))
 have hk:q.Code=1∨q.Code=2∨q.Code=4∨q.Code=5∨q.Code=6∨q.Code=7∨q.Code=8∨q.Code=9∨q.Code=10∨q.Code=11∨q.Code=12∨q.Code=13∨q.Code=14∨q.Code=15∨q.Code=16∨q.Code=17∨q.Code=18∨q.Code=19∨q.Code=20∨q.Code=21∨q.Code=22∨q.Code=30∨q.Code=31∨q.Code=32∨q.Code=33:=by omega
 rcases hk with hc | hc | hc | hc | hc | hc | hc | hc | hc | hc | hc | hc | hc | hc | hc | hc | hc | hc | hc | hc | hc | hc | hc | hc | hc
 ·rw [sA (r:=m1 s q) hc rfl];obtain ⟨_,_,c,_⟩:=cnt k hc (a:=0) (b:=0) (i:=1) (n:=0) (by decide +kernel);have e:=(zKu h.a0 h.a3 (int q 0) (.inr h.sn.1)).1;have he:=yHr s (int q 0);have ht:=λg=>zW8 (s:=s) (m:=int q 0) g;unfold yQ m1;rw [hc];generalize suV s (int q 0)=x at *;obtain ⟨t,er⟩:=x;exact ct rfl (bd (tN (i:=0) (by omega)) (bd e (bd (bU _ _ _) (yAc he λg=>by rw [(Prod.mk.inj (ht g)).1];rfl))))
 ·rw [sA (r:=m2 s q) hc rfl];obtain ⟨_,_,c,_⟩:=cnt k hc (a:=0) (b:=0) (i:=1) (n:=0) (by decide +kernel);have e:=(zRr s (int q 0)).1;have he:=yLm s (int q 0);have ht:=λg=>zZf (s:=s) (m:=int q 0) g;unfold yQ m2;rw [hc];generalize sdV s (int q 0)=x at *;obtain ⟨t,er⟩:=x;exact cf rfl (ct rfl (bd (tN (i:=0) (by omega)) (bd e (bd (bU _ _ _) (yAc he λg=>by rw [(Prod.mk.inj (ht g)).1];rfl)))))
 ·rw [sA (r:=m4 s) hc rfl];unfold yQ m4 zBs;rw [hc];refine cf rfl (cf rfl (ct rfl ?_));cases s.Volatile.Safe<;>rfl
 ·rw [sA (r:=m5 s q) hc rfl];have e:=rm5 h k loc hc;unfold yQ;rw [hc];exact cf rfl (cf rfl (cf rfl (bd (a:=true) rfl (ct rfl (bd e (tl3 (yHi h q).n))))))
 ·rw [sA (r:=m6 s loc q) hc rfl];have e:=rm6 h k loc hc;unfold yQ;rw [hc];exact cf rfl (cf rfl (cf rfl (bd (a:=true) rfl (ct rfl (bd e (tl3 (yHy h loc q).n))))))
 ·rw [sA (r:=m7 s loc q) hc rfl];have e:=rm7 h k loc hc;unfold yQ;rw [hc];exact cf rfl (cf rfl (cf rfl (bd (a:=true) rfl (ct rfl (bd e (tl3 (yHt h loc q).n))))))
 ·rw [sA (r:=m8 s loc q) hc rfl];have e:=rm8 h k loc hc;unfold yQ;rw [hc];exact cf rfl (cf rfl (cf rfl (bd (a:=true) rfl (ct rfl (bd e (tl3 (yGw h loc q).n))))))
 ·rw [sA (r:=prV s q) hc rfl];have e:=(ma9 h k al hc).2;have n:=(zZ9 h q).n;unfold yQ vG;rw [hc];exact cf rfl (cf rfl (cf rfl (bd (a:=false) rfl (cf rfl (bd (a:=true) rfl (ct rfl (bd (ct rfl (bd e (tl3 n))) (tl3 n))))))))
 ·rw [sA (r:=crO s q) hc rfl];have e:=(ma10 h k al hc).2;have n:=(yA9 h q).n;unfold yQ vG;rw [hc];exact cf rfl (cf rfl (cf rfl (bd (a:=false) rfl (cf rfl (bd (a:=true) rfl (ct rfl (bd (cf rfl (ct rfl (bd e (tl2 n (yMz s q))))) (tl3 n))))))))
 ·rw [sA (r:=ldV s q) hc rfl];have e:=(ma11 h k al hc).2;have n:=(zYy h q).n;unfold yQ vG;rw [hc];exact cf rfl (cf rfl (cf rfl (bd (a:=false) rfl (cf rfl (bd (a:=true) rfl (ct rfl (bd (cf rfl (cf rfl (ct rfl (bd e (tl3 n))))) (tl3 n))))))))
 ·rw [sA (r:=flV s q) hc rfl];obtain ⟨_,_,c,_⟩:=cnt k hc (a:=0) (b:=0) (i:=1) (n:=0) (by decide +kernel);have e:=zTe h k.ok (show 0<q.Ints.length by omega);have n:=(zWi h q).n;have en:(flV s q).2.Ints=[]/\(flV s q).2.Blobs=[]:=by
   unfold flV;cases obf s (int q 0) with
   | some i=>exact ⟨rfl,rfl⟩
   | none=>cases ssf s (int q 0)<;>exact ⟨rfl,rfl⟩
  unfold yQ vG;rw [hc];exact cf rfl (cf rfl (cf rfl (bd (a:=false) rfl (cf rfl (bd (a:=true) rfl (ct rfl (bd (cf rfl (cf rfl (cf rfl (ct rfl (bd e (tl1 n en.1 en.2)))))) (tl3 n))))))))
 ·rw [sA (r:=usV s q) hc rfl];have e:=(ma13 h k al hc).2;have n:=(yBv h (al.ob (by omega))).n;unfold yQ vG;rw [hc];exact cf rfl (cf rfl (cf rfl (bd (a:=false) rfl (cf rfl (bd (a:=true) rfl (ct rfl (bd (cf rfl (cf rfl (cf rfl (cf rfl (ct rfl (bd e (tl2 n (yLj s q)))))))) (tl3 n))))))))
 ·rw [sA (r:=snV s q) hc rfl];have e:=(ma14 h k al hc).2;have n:=(zY4 h (al.ob (by omega))).n;unfold yQ vG;rw [hc];exact cf rfl (cf rfl (cf rfl (bd (a:=false) rfl (cf rfl (bd (a:=true) rfl (ct rfl (bd (cf rfl (cf rfl (cf rfl (cf rfl (cf rfl (ct rfl (bd e (tl2 n (yLr s q))))))))) (tl3 n))))))))
 ·rw [sA (r:=qtV s q) hc rfl];have e:=(ma15 h k al hc).2;have n:=(yA2 h (al.ob (by omega))).n;unfold yQ vG;rw [hc];exact cf rfl (cf rfl (cf rfl (bd (a:=false) rfl (cf rfl (bd (a:=true) rfl (ct rfl (bd (cf rfl (cf rfl (cf rfl (cf rfl (cf rfl (cf rfl (bd e (tl2 n (yMd s q))))))))) (tl3 n))))))))
 ·rw [sA (r:=m16 s q) hc rfl];have e:=rs16 h k hc;unfold yQ;rw [hc];exact cf rfl (cf rfl (cf rfl (bd (a:=false) rfl (cf rfl (bd (a:=false) rfl (cf rfl (bd (a:=true) rfl (ct rfl (bd e (tl3 (yB0 h q).n))))))))))
 ·rw [sA (r:=m17 s q) hc rfl];have e:=rs17 h k hc;unfold yQ;rw [hc];exact cf rfl (cf rfl (cf rfl (bd (a:=false) rfl (cf rfl (bd (a:=false) rfl (cf rfl (bd (a:=true) rfl (ct rfl (bd e (tl3 (zYb h q).n))))))))))
 ·rw [sA (r:=m18 s q) hc rfl];have e:=rs18 h k al hc;unfold yQ;rw [hc];exact cf rfl (cf rfl (cf rfl (bd (a:=false) rfl (cf rfl (bd (a:=false) rfl (cf rfl (bd (a:=true) rfl (ct rfl (bd e (tl3 (zV3 h q).n))))))))))
 ·rw [sA (r:=m19 s q) hc rfl];have e:=rs19 h k hc;unfold yQ;rw [hc];exact cf rfl (cf rfl (cf rfl (bd (a:=false) rfl (cf rfl (bd (a:=false) rfl (cf rfl (bd (a:=true) rfl (ct rfl (bd e (tl3 (zWs h q).n))))))))))
 ·rw [sA (r:=m20 s q) hc rfl];have e:=rs20 h k hc;unfold yQ;rw [hc];exact cf rfl (cf rfl (cf rfl (bd (a:=false) rfl (cf rfl (bd (a:=false) rfl (cf rfl (bd (a:=true) rfl (ct rfl (bd e (tl3 (zZy h q).n))))))))))
 ·rw [sA (r:=m21 s q) hc rfl];have e:=(ma21 h k al hc).2;obtain ⟨n1,n2,n3⟩:=yHx s q;unfold yQ;rw [hc];exact cf rfl (cf rfl (cf rfl (bd (a:=false) rfl (cf rfl (bd (a:=false) rfl (cf rfl (bd (a:=false) rfl (cf rfl (ct rfl (bd e (tl1 n3 n1 n2)))))))))))
 ·rw [sA (r:=m22 s q) hc rfl];have e:=(ma22 h k al hc).2;obtain ⟨n1,n2,n3⟩:=yG9 s q;unfold yQ;rw [hc];exact cf rfl (cf rfl (cf rfl (bd (a:=false) rfl (cf rfl (bd (a:=false) rfl (cf rfl (bd (a:=false) rfl (cf rfl (cf rfl (ct rfl (bd e (tl1 n3 n1 n2))))))))))))
 ·rw [sA (r:=m30 s q) hc rfl];have e:=(mg30 h k al hc).2;obtain ⟨n1,n2,n3⟩:=yK4 s q;unfold yQ;rw [hc];exact cf rfl (cf rfl (cf rfl (bd (a:=false) rfl (cf rfl (bd (a:=false) rfl (cf rfl (bd (a:=false) rfl (cf rfl (cf rfl (cf rfl (ct rfl (bd e (tl1 n3 n1 n2)))))))))))))
 ·rw [sA (r:=m31 s) hc rfl];have e:=(mg31 h k al hc).2;unfold yQ;rw [hc];exact cf rfl (cf rfl (cf rfl (bd (a:=false) rfl (cf rfl (bd (a:=false) rfl (cf rfl (bd (a:=false) rfl (cf rfl (cf rfl (cf rfl (cf rfl (ct rfl (bd e rfl)))))))))))))
 ·rw [sA (r:=m32 s) hc rfl];unfold yQ;rw [hc];rfl
 ·rw [sA (r:=m33 s q) hc rfl];obtain ⟨a,b,c,d⟩:=cnt k hc (a:=1) (b:=1) (i:=3) (n:=0) (by decide +kernel);have e:=yLv s.Stable.Lockout (int q 0) (int q 1) (int q 2);unfold yQ m33 dn;rw [hc];generalize lM s.Stable.Lockout (int q 0) (int q 1) (int q 2)=w at *;refine cf rfl (cf rfl (cf rfl (bd (a:=false) rfl (cf rfl (bd (a:=false) rfl (cf rfl (bd (a:=false) rfl (cf rfl (cf rfl (cf rfl (cf rfl (cf rfl (cf rfl (ct rfl (bd (tN (i:=0) (by omega)) (bd (tN (i:=1) (by omega)) (bd (tN (i:=2) (by omega)) (bd e ?_))))))))))))))))));by_cases g:w.2=0
  ·rw [if_neg (by simp [g])];exact cf (b0 g) rfl
  ·rw [if_pos g];exact ct (b1 g) rfl
end
set_option maxRecDepth 100000
def gA (c:Int):Bool:=(c==10)||((c==11)||((c==13)||((c==14)||(c==15))))
def gB (c:Int):Bool:=(c==21)||(c==22)
def gD (c:Int):Bool:=(c==32)||(c==33)
def alw (s:zB) (q:zC):Bool:=
 bif (q.Handles.length:Int)==0 then true else
 bif q.Code==9 then decide (0<=hnd q 0)&&decide (hnd q 0<=2) else bif gA q.Code then (obf s (hnd q 0)).isSome else bif q.Code==18 then exs s (hnd q 0) else bif gB q.Code then (hnd q 0==1)||(hnd q 0==2) else
 bif q.Code==30 then hrc (hnd q 0) else bif q.Code==31 then (hnd q 0==2)||(hnd q 0==3) else bif gD q.Code then hnd q 0==3 else (ixf s (hnd q 1)).isSome&&((hnd q 0==1)||(hnd q 0==hnd q 1))
theorem oD2 {c d:Bool}:(bif c then some c else some d:Option Bool)=some (c||d):=by cases c<;>rfl
theorem hnds (k:RqS q) (h:q.Handles.length≠0):((q.Code=9∨gA q.Code=true∨q.Code=18∨gB q.Code=true∨q.Code=30∨q.Code=31∨gD q.Code=true)/\q.Handles.length=1)∨(23<=q.Code/\q.Code<=29/\q.Handles.length=2):=by
 obtain ⟨c1,c2,c3⟩:=eF k;have ha:=k.h;unfold shp at ha;rw [if_pos ⟨by omega,c2⟩] at ha;obtain ⟨n,hn⟩:=Int.eq_ofNat_of_zero_le (by omega:0<=q.Code);rw [hn] at ha c1 c2 c3 ⊢;rw [Int.toNat_natCast] at ha;have key:∀ n:Fin 34,(shT.getD n.val shD).1.a0≠0->(((n.val:Int)=9∨gA (n.val:Int)=true∨(n.val:Int)=18∨gB (n.val:Int)=true∨(n.val:Int)=30∨(n.val:Int)=31∨gD (n.val:Int)=true)/\(shT.getD n.val shD).1.a0=1)∨(23<=(n.val:Int)/\(n.val:Int)<=29/\(shT.getD n.val shD).1.a0=2):=by decide +kernel
 rcases key ⟨n,by omega⟩ (by show (shT.getD n shD).1.a0≠0;omega) with ⟨a,b⟩ | ⟨a,b,c⟩
 ·exact .inl ⟨a,by have b:(shT.getD n shD).1.a0=1:=b;omega⟩
 ·exact .inr ⟨a,b,by have c:(shT.getD n shD).1.a0=2:=c;omega⟩
theorem gs (c:Int) (h:23<=c/\c<=29):(c==9)=false/\gA c=false/\(c==18)=false/\gB c=false/\(c==30)=false/\(c==31)=false/\gD c=false:=by
 have e:c=23∨c=24∨c=25∨c=26∨c=27∨c=28∨c=29:=by omega
 rcases e with rfl | rfl | rfl | rfl | rfl | rfl | rfl<;>decide
theorem zNm (h:zY s) (k:RqS q):jB s q=some (alw s q):=by
 unfold jB alw;refine cc (λ_=>rfl) λg0=>?_;have hl:q.Handles.length≠0:=by simpa using g0
 have hh:=eZ k.ok (show 0<q.Handles.length by omega);refine bd (zDw (i:=0) (by omega)) (cc (λ_=>bd (oA _ _) rfl) λg9=>?_);refine bd (a:=gA q.Code) ?_ (cc (λ_=>bd (sK h hh) ?_) λga=>cc (λ_=>bd (zOq h hh) rfl) λg18=>?_)
 ·unfold gA;cases q.Code==10<;>cases q.Code==11<;>cases q.Code==13<;>cases q.Code==14<;>rfl
 ·cases obf s (hnd q 0) with
  | some i=>exact congrArg some (nn i)
  | none=>rfl
 refine bd (a:=gB q.Code) oD2 (cc (λ_=>bd (oO _ _) rfl) λgb=>cc (λ_=>bd (oA _ _) rfl) λg30=>cc (λ_=>bd (oO _ _) rfl) λg31=>?_);refine bd (a:=gD q.Code) oD2 (cc (λ_=>rfl) λgd=>?_);have c:23<=q.Code/\q.Code<=29/\q.Handles.length=2:=by
  rcases hnds k hl with ⟨e,_⟩ | e
  ·rw [ga,gb,gd] at e;simp at g9 g18 g30 g31 e;omega
  ·exact e
 refine bd (bd (zDw (i:=1) (by omega)) (bd (vJ h (eZ k.ok (by omega))) ?_)) rfl;cases ixf s (hnd q 1) with
 | some i=>exact ct (nn i) (oO' λ_=>bd (zDw (i:=1) (by omega)) rfl)
 | none=>rfl
theorem zZq (k:RqS q) (g:alw s q=true) (st:((q.Code != 1)&&!s.Volatile.Started)=false):AlQ s q:=by
 have hs:q.Code≠1->s.Volatile.Started=true:=λe=>by rw [show (q.Code != 1)=true by simpa using e,Bool.true_and] at st;simpa using st
 have nz:∀ c a b i n,q.Code=c->shp c=(A4.mk ((a:Nat):Int) ((b:Nat):Int) ((i:Nat):Int) n,true)->a≠0->((q.Handles.length:Int)==0)=false:=λc a b i n hc e ha=>by
  have:=(cnt k hc e).1;exact c1' (by omega)
 unfold alw at g;refine ⟨λhc=>?_,λhc=>?_,λhc=>?_,λhc=>?_,λhc=>?_,hs⟩
 ·have z:=nz 9 1 1 3 3 hc (by decide +kernel) (by decide);rw [z,hc] at g;have g:(decide (0<=hnd q 0)&&decide (hnd q 0<=2))=true:=g;simp at g;exact g
 ·have hz:((q.Handles.length:Int)==0)=false:=by
   rcases hc with e | e | e | e | e
   ·exact nz 10 1 1 3 3 e (by decide +kernel) (by decide)
   ·exact nz 11 1 1 0 2 e (by decide +kernel) (by decide)
   ·exact nz 13 1 1 0 0 e (by decide +kernel) (by decide)
   ·exact nz 14 1 1 0 1 e (by decide +kernel) (by decide)
   ·exact nz 15 1 1 2 1 e (by decide +kernel) (by decide)
  rw [hz] at g;rcases hc with e | e | e | e | e<;>(rw [e] at g;exact g)
 ·have z:=nz 18 1 1 2 1 hc (by decide +kernel) (by decide);rw [z,hc] at g;exact g
 ·obtain ⟨b1,b2,b3,b4,b5,b6,b7⟩:=gs q.Code hc;have hz:((q.Handles.length:Int)==0)=false:=by
   have e:q.Code=23∨q.Code=24∨q.Code=25∨q.Code=26∨q.Code=27∨q.Code=28∨q.Code=29:=by omega
   rcases e with e | e | e | e | e | e | e
   ·exact nz 23 2 1 1 1 e (by decide +kernel) (by decide)
   ·exact nz 24 2 1 2 0 e (by decide +kernel) (by decide)
   ·exact nz 25 2 1 0 0 e (by decide +kernel) (by decide)
   ·exact nz 26 2 1 0 1 e (by decide +kernel) (by decide)
   ·exact nz 27 2 1 0 1 e (by decide +kernel) (by decide)
   ·exact nz 28 2 1 0 0 e (by decide +kernel) (by decide)
   ·exact nz 29 2 1 0 0 e (by decide +kernel) (by decide)
  rw [hz,b1,b2,b3,b4,b5,b6,b7] at g;have g:((ixf s (hnd q 1)).isSome&&((hnd q 0==1)||(hnd q 0==hnd q 1)))=true:=g;simp only [Bool.and_eq_true] at g;exact g.1
 ·have z:=nz 30 1 1 0 1 hc (by decide +kernel) (by decide);rw [z,hc] at g;exact zKd.1 g
def ex2 (s:zB) (loc:Int) (q:zC):zB×zD:=
 if (bdy s loc q).2.Err≠0 then (s,rs (bdy s loc q).2.Err) else ((afV (bdy s loc q).1 q).1,⟨(bdy s loc q).2.Err,(bdy s loc q).2.Ints,(bdy s loc q).2.Blobs,(afV (bdy s loc q).1 q).2⟩)
def ex1 (s:zB) (loc:Int) (q:zC):zB×zD:=
 if q.Auths.length=0 then bdy s loc q else if (acV s loc q).2≠0 then ((acV s loc q).1,rs (acV s loc q).2) else ex2 s loc q
def exe (s:zB) (loc:Int) (q:zC):zB×zD:=
 if ckV q≠0 then (s,rs (ckV q)) else bif decide (loc<0)||decide (4<loc) then (s,rs 13) else bif (q.Code != 1)&&!s.Volatile.Started then (s,rs 28) else bif !alw s q then (s,rs 7) else ex1 s loc q
theorem zN9 (h:zY s) (l:RqL q) (loc:Int):kX s loc q=some (exe s loc q):=by
 unfold kX exe;refine bd (zHc l) ?_;by_cases g:ckV q=0
 case neg=>rw [if_pos g];exact ct (b1 g) rfl
 rw [if_neg (show ¬ ckV q≠0 by simp [g])];have k:=zPw g;refine cf (b0 g) (bd (oO _ _) ?_);cases gl:decide (loc<0)||decide (4<loc)
 case true=>rfl
 refine cf rfl (bd (oA _ _) ?_);cases gs:(q.Code != 1)&&!s.Volatile.Started
 case true=>rfl
 refine cf rfl (bd (zNm h k) ?_);cases ga:alw s q
 case false=>rfl
 have al:=zZq k ga gs;refine cf rfl ?_;simp only [cond_false,Bool.not_true];have gd:=zOx h al k loc;unfold ex1;by_cases ha:q.Auths.length=0
 ·rw [if_pos ha];have d:decide (0<(q.Auths.length:Int))=false:=decide_eq_false (by omega);rw [d];refine bd (a:=.inr ()) rfl ?_;refine bd (zNs h k loc al) ?_;generalize bdy s loc q=r at gd;refine bd (a:=(r.1,[])) ?_ (tl3 gd.n);cases r.2.Err==0<;>rfl
 ·rw [if_neg ha];have hh:0<q.Handles.length:=by
   rcases yL2 k ha with hc | hc | hc | hc | hc | hc | hc | hc | hc | hc | hc | hc | hc | hc
   ·have:=(cnt k hc (a:=1) (b:=1) (i:=3) (n:=3) (by decide +kernel)).1;omega
   ·have:=(cnt k hc (a:=1) (b:=1) (i:=3) (n:=3) (by decide +kernel)).1;omega
   ·have:=(cnt k hc (a:=1) (b:=1) (i:=0) (n:=2) (by decide +kernel)).1;omega
   ·have:=(cnt k hc (a:=1) (b:=1) (i:=0) (n:=0) (by decide +kernel)).1;omega
   ·have:=(cnt k hc (a:=1) (b:=1) (i:=0) (n:=1) (by decide +kernel)).1;omega
   ·have:=(cnt k hc (a:=1) (b:=1) (i:=2) (n:=1) (by decide +kernel)).1;omega
   ·have:=(cnt k hc (a:=1) (b:=1) (i:=2) (n:=1) (by decide +kernel)).1;omega
   ·have:=(cnt k hc (a:=1) (b:=1) (i:=4) (n:=2) (by decide +kernel)).1;omega
   ·have:=(cnt k hc (a:=1) (b:=1) (i:=1) (n:=0) (by decide +kernel)).1;omega
   ·have:=(cnt k hc (a:=1) (b:=1) (i:=0) (n:=1) (by decide +kernel)).1;omega
   ·have:=(cnt k hc (a:=1) (b:=1) (i:=0) (n:=0) (by decide +kernel)).1;omega
   ·have:=(cnt k hc (a:=1) (b:=1) (i:=0) (n:=0) (by decide +kernel)).1;omega
   ·have:=(cnt k hc (a:=1) (b:=1) (i:=3) (n:=0) (by decide +kernel)).1;omega
   ·have:=(ixQ h k hc).1.h;omega
  have d:decide (0<(q.Auths.length:Int))=true:=decide_eq_true (by omega);rw [d];have ck:=zMv h k.ok hh (show 0<q.Auths.length by omega) loc;by_cases gc:(acV s loc q).2=0
  case neg=>
   rw [if_pos gc];exact bd (a:=.inl ((acV s loc q).1,rs (acV s loc q).2)) (ct rfl (bd ck (ct (b1 gc) rfl))) rfl
  rw [if_neg (show ¬ (acV s loc q).2≠0 by simp [gc])];refine bd (a:=.inr ()) (ct rfl (bd ck (cf (b0 gc) rfl))) ?_;refine bd (zNs h k loc al) ?_;unfold ex2;generalize bdy s loc q=r at gd;by_cases ge:r.2.Err=0
  ·rw [if_neg (show ¬ r.2.Err≠0 by simp [ge])];rw [c0' ge];exact bd (bd (a:=true) rfl (ct rfl (bd (zO1 gd.k k.ok (by omega)) rfl))) rfl
  ·rw [if_pos ge];rw [c1' ge];refine bd (a:=(r.1,[])) rfl ?_;have:=gd.e ge;rw [this];rfl
set_option maxRecDepth 100000
theorem zD2 (x:Int):I64 (Q6.wrap x):=by unfold I64;rw [IntKind.wrap_i64];omega
def Sm (n:Int):Prop:=0<=n/\n<1099511627776
theorem Sm.w (h:Sm n):Q6.wrap n=n:=yH (by have:=h.1;omega) (by have:=h.2;omega)
theorem Sm.i (h:Sm n):I64 n:=⟨by have:=h.1;omega,by have:=h.2;omega⟩
theorem tmB (h:0<=n) (hc:0<c):0<=Q8 n c/\Q8 n c<c:=⟨Int.tmod_nonneg c h,Qj n hc⟩
theorem tdB (h:Sm n) (hc:0<c):Sm (Q6.wrap (Qg n c)):=by
 have h0:0<=Qg n c:=Int.tdiv_nonneg h.1 (by omega);have h1:Qg n c<=n:=Int.tdiv_le_self c h.1;have:Sm (Qg n c):=⟨h0,by have:=h.2;omega⟩;rw [this.w];exact this
theorem tmS (h:0<=n) (hc:0<c) (hc2:c<=1099511627776):Sm (Q8 n c):=⟨(tmB h hc).1,by have:=(tmB h hc).2;omega⟩
theorem yF {b:Bool} {x y:Option α} {Q:α->Prop} (h:Def x Q) (k:Def y Q):Def (bif b then x else y) Q:=Q7 (λ_=>h) (λ_=>k)
theorem yS {b:Bool}:Def (some b) (λ_=>True):=Q1 trivial
theorem zPc (a b:List α):(cpy a b).length=a.length:=by
 unfold cpy;rw [Q9,Qc,List.length_drop];omega
theorem jL (b:By):Def (rI b) (λr=>r.length=32):=by
 refine ⟨cpy (Qf 32 0) b,?_,by show (cpy (Qf 32 0) b).length=32;rw [zPc];simp⟩;unfold rI;exact bd (a:=32) rfl (bd (ckT (zIt (by simp))) (ltk (bd (ckT (zIt (by rw [zPc];simp))) (bd (ckT (zJu (by decide))) rfl))))
theorem zG6 (n m:Int) (hm:1<=m) (hm2:m<=1099511627776):Def (eG n m) (λr=>0<=r/\r<m):=by
 have h1:Q8 n m<m:=Qj n (by omega);have h2:-m<Q8 n m:=by
  have:=Int.lt_tmod_of_pos n (show 0<m by omega);exact this
 unfold eG;refine Q7 (λh=>by have:=dT h;omega) λ_=>Q0 (Qk (by rw [c1' (by omega)];rfl)) λ_ _=>?_;refine Q0 (P:=λr=>0<=r/\r<m) (Q7 (λh=>Q1 ?_) λh=>Q1 ?_) λr hr=>Q1 hr
 ·have:=dT h;rw [yH (by omega) (by omega)];omega
 ·have:=dF h;omega
theorem mB (b:By) (h:0<=n):Def (vU b n) (λr=>r.length<=b.length):=by
 unfold vU;refine Q7 (λg=>?_) λ_=>Q1 (Qh _);have:=dT g;exact Q0 (Def.sub (by decide) h (by omega)) λr hr=>Q1 (by rw [hr];simp;omega)
theorem zT8 {l:List α} {n:Nat} (hl:l.length=n) {i:Int} (h0:0<=i) (h1:i<n):Def (idx l i) (λr=>r∈l):=Ql h0 (by omega)
theorem zCb (h:zY s) (hn:Sm n) (kind:Int):Def (xF s n kind) (λr=>768<=r/\r<=770):=by
 have hl:=h.ss;obtain ⟨n0,n1⟩:=hn;unfold xF;refine Q0 (P:=λr=>match r with | .inl v=>768<=v/\v<=770 | .inr _=>True) ?_ λr hr=>?_
 ·refine Qi (λi=>0<=i/\i<=3) (λi=>3 - i.toNat) (λi hi=>?_) ⟨by decide,by decide⟩ (by decide);unfold mV;refine Q7 (λg=>?_) λ_=>Q1 trivial;have g:=dT g;have e:Q6.wrap (n+i)=n+i:=yH (by omega) (by omega);rw [e];obtain ⟨t0,t1⟩:=tmB (show 0<=n+i by omega) (show (0:Int)<3 by decide);refine Q0 (zT8 hl t0 (by omega)) λv _=>?_;refine Q0 (P:=λ_=>True) (yF (yF yS yS) yS) λb _=>?_;refine Q7 (λ_=>Qa (Q1 ?_)) λ_=>Q1 ?_
  ·rw [yH (by omega) (by omega)];exact ⟨by omega,by omega⟩
  ·rw [yH (by omega) (by omega)];exact ⟨⟨by omega,by omega⟩,by omega⟩
 ·obtain ⟨t0,t1⟩:=tmB n0 (show (0:Int)<3 by decide);cases r with
  | inl v=>exact Q1 hr
  | inr u=>refine Q1 ?_;rw [yH (by omega) (by omega)];exact ⟨by omega,by omega⟩
theorem zAf (h:zY s) (hn:Sm n) (kind:Int):Def (uA s n kind) (λr=>512<=r/\r<=514):=by
 have hl:=h.ol;obtain ⟨n0,n1⟩:=hn;unfold uA;refine Q0 (P:=λr=>match r with | .inl v=>512<=v/\v<=514 | .inr _=>True) ?_ λr hr=>?_
 ·refine Qi (λi=>0<=i/\i<=3) (λi=>3 - i.toNat) (λi hi=>?_) ⟨by decide,by decide⟩ (by decide);unfold zB4;refine Q7 (λg=>?_) λ_=>Q1 trivial;have g:=dT g;have e:Q6.wrap (n+i)=n+i:=yH (by omega) (by omega);rw [e];obtain ⟨t0,t1⟩:=tmB (show 0<=n+i by omega) (show (0:Int)<3 by decide);refine Q0 (zT8 hl t0 (by omega)) λv _=>?_;refine Q0 (P:=λ_=>True) (yF (yF yS yS) yS) λb _=>?_;refine Q7 (λ_=>Qa (Q1 ?_)) λ_=>Q1 ?_
  ·rw [yH (by omega) (by omega)];exact ⟨by omega,by omega⟩
  ·rw [yH (by omega) (by omega)];exact ⟨⟨by omega,by omega⟩,by omega⟩
 ·obtain ⟨t0,t1⟩:=tmB n0 (show (0:Int)<3 by decide);cases r with
  | inl v=>exact Q1 hr
  | inr u=>refine Q1 ?_;rw [yH (by omega) (by omega)];exact ⟨by omega,by omega⟩
theorem zG5 (h:zY s) (hn:Sm n):Def (wP s n) (λr=>256<=r/\r<=511):=by
 have hl:=h.il;obtain ⟨n0,n1⟩:=hn;unfold wP;refine Q0 (P:=λb=>b=true->0<s.Stable.Indices.length) (Q7 (λg=>Q1 λ_=>by have:=dT g;omega) λ_=>Q1 λe=>by cases e) λb hb=>?_;refine Q7 (λg=>?_) λ_=>Q1 ?_
 ·have hp:=hb g;refine Q0 (Qk (by rw [c1' (by omega)];rfl)) λ_ _=>?_;obtain ⟨t0,t1⟩:=tmB n0 (show (0:Int)<s.Stable.Indices.length by omega);refine Q0 (Ql t0 t1) λx hx=>Q1 ?_;have ok:=h.ix x hx;have o0:=ok.n0;have o1:=ok.n1;rw [yH (by omega) (by omega)];exact ⟨by omega,by omega⟩
 ·obtain ⟨t0,t1⟩:=tmB n0 (show (0:Int)<5 by decide);rw [yH (by omega) (by omega)];exact ⟨by omega,by omega⟩
theorem zMy (l:List zI) (hl:l.length<2 ^ 40):Def (jN l) (λr=>r.length<=32):=Q5 (zI4 l hl) (zSc l z32 (by rw [zRt];decide))
theorem zE7 (h:zY s) (ha:I64 a):Def (vO s a) (λr=>r.1.Digest.length<=32/\r.1.Nonce.length<=32):=Q5 (zCc h ha) ⟨(zR8 h a).2,(zR8 h a).1⟩
theorem zSp (h:zY s) (hn:Sm n) (b:By):Def (pX s n b) (λr=>r.length<=32):=by
 unfold pX;refine Q0 (P:=λr=>match r with | .inl v=>v.length<=32 | .inr _=>True) ?_ λr hr=>?_
 ·refine yF (Q1 (Q2 _)) (yF (Q0 (zMy _ (by decide)) λr hr=>Q1 hr) (yF ?_ (Q1 trivial)));refine Q0 (zCb h hn 2) λr hr=>Q0 (zE7 h ⟨by omega,by omega⟩) λx hx=>?_;exact yF (Q1 hx.1) (Q1 trivial)
 ·cases r with
  | inl v=>exact Q1 hr
  | inr u=>exact Q0 (zMy _ (by decide)) λr hr=>Q1 hr
structure IB (r:List Int×List By):Prop where
 il:r.1.length<=8
 i:∀ x∈r.1,I64 x
 bl:r.2.length<=8
 b:∀ x∈r.2,x.length<2 ^ 16
theorem yKd (a b:Int):I64 (ior .i64 a b):=by unfold ior;exact zD2 _
theorem zYe (a b:Int):I64 (zAn .i64 a b):=by unfold zAn;exact zD2 _
theorem tmI (h:0<=n) (hc:0<c) (h2:c<=1099511627776):I64 (Q8 n c):=(tmS h hc h2).i
theorem zK2 (h:zY s) (hn:Sm n) (hb:b.length<=128):Def (rO s n b) (λr=>IB r/\r.1.length=3/\r.2.length=3):=by
 unfold rO;have n0:=hn.1;have d3:=tdB (c:=3) hn (by decide);have d24:=tdB (c:=24) hn (by decide);refine Q0 (P:=λr=>I64 r.1/\I64 r.2.1/\r.2.2.length<=128) ?_ λr hr=>?_
 ·refine yF (Qa (Qa (Q1 ⟨yKd _ _,tmI d24.1 (by decide) (by decide),Q2 _⟩))) (yF ?_ (Q1 ⟨tmI d3.1 (by decide) (by decide),(show I64 0 from ⟨by decide,by decide⟩),Q2 _⟩));exact Q0 (mB b (by decide)) λx hx=>Q1 ⟨tmI d3.1 (by decide) (by decide),(show I64 0 from ⟨by decide,by decide⟩),(show x.length<=128 by omega)⟩
 obtain ⟨at',ht,da⟩:=r;obtain ⟨r1,r2,r3⟩:=hr;refine Q0 (zSp h (tdB (c:=5) hn (by decide)) b) λp hp=>?_;refine Q0 (P:=λr=>I64 r) ?_ λa2 ha2=>?_
 ·exact Q0 (P:=λ_=>True) (yF yS yS) λ_ _=>yF (Q1 (yKd _ _)) (Q1 r1)
 refine Q0 (mB b (tmB n0 (show (0:Int)<3 by decide)).1) λc hc=>Q1 ⟨⟨show (3:Nat)<=8 by decide,?_,show (3:Nat)<=8 by decide,?_⟩,rfl,rfl⟩
 ·intro x hx;simp only [Q4,Q3,or_false] at hx;rcases hx with rfl | rfl | rfl
  ·exact zD2 _
  ·exact ha2
  ·exact r2
 ·intro x hx;have r3:da.length<=128:=r3;simp only [Q4,Q3,or_false] at hx;rcases hx with rfl | rfl | rfl<;>omega
theorem yKr (active:Int) (b:By):Def (gU active b) (λr=>r.length=2/\∀ x∈r,x.length<=32):=by
 have setl:∀ (v:List By) (j:Nat) (u:By),(∀ x∈v,x.length<=32)->u.length<=32->∀ x∈v.set j u,x.length<=32:=λv j u hv hu x hx=>by
  rcases List.mem_or_eq_of_mem_set hx with hx | hx
  ·exact hv x hx
  ·rw [hx];exact hu
 unfold gU;refine Q0 (P:=λr=>r.length=2/\∀ x∈r,x.length<=32) ?_ (λr hr=>Q0 (Qk (zIt hr.1)) (λ_ _=>Q1 hr));refine Qi (λs=>0<=s.1/\s.1<=2/\s.2.length=2/\∀ x∈s.2,x.length<=32) (λs=>(2 - s.1).toNat) (λs hs=>?_) ⟨by decide,by decide,rfl,by simp⟩ (by decide);obtain ⟨a,v⟩:=s;obtain ⟨h0,h1,h2,h3⟩:=hs;simp only at h0 h1 h2 h3;unfold zBh;refine Q7 (λh=>?_) (λ_=>Q1 ⟨h2,h3⟩);have ha:=dT h;refine Q0 (P:=λr=>r.length=2/\∀ x∈r,x.length<=32) ?_ (λw hw=>Q1 ?_)
 ·refine Q7 (λ_=>?_) (λ_=>Q1 ⟨h2,h3⟩);rw [yH (n:=12*a) (by omega) (by omega),yH (by omega) (by omega)];refine Q0 (Def.mkN (by omega) (by omega)) (λn hn=>?_);refine Q0 (Qk (zIt (by simp))) (λ_ _=>?_);refine Qa ?_;have hcl:=zPc (Qf n (0:UInt8)) b;rw [List.length_replicate] at hcl;generalize cpy (Qf n (0:UInt8)) b=x at hcl;refine Q0 (P:=λr=>r.length=n) ?_ (λy hy=>?_)
  ·refine Q7 (λh=>?_) (λ_=>Q1 hcl);have:=dT h;rw [yH (by omega) (by omega)];refine Q0 (Qm (by omega) (by omega)) (λj hj=>?_);refine Q0 (Def.at (by omega)) (λ_ _=>?_);refine Q0 (Qm (by omega) (by omega)) (λj hj=>?_);exact Q0 (Def.upd (by omega)) (λr hr=>Q1 (by rw [hr];simpa using hcl))
  refine Q0 (Qk (zIt hy)) (λ_ _=>?_);refine Q0 (Qk (zJu (by omega))) (λ_ _=>?_);refine Q0 (Qm h0 (by show _<((2:Nat):Int);omega)) (λj hj=>?_);exact Q0 (Def.upd (by omega)) (λr hr=>Q1 ⟨by rw [hr];simpa using h2,by rw [hr];exact setl v j y h3 (by omega)⟩)
 ·rw [yH (by omega) (by omega)];exact ⟨⟨by show 0<=a+1;omega,by show a+1<=2;omega,hw.1,hw.2⟩,by show (2 - (a+1)).toNat<(2 - a).toNat;omega⟩
theorem zYj (h:zY s) (ha:I64 a) (hn:Sm n) (hb:b.length<=128):Def (zC5 s a n b) (λr=>r.length<=8/\∀ x∈r,x.length<2 ^ 16):=by
 have bb:[b,b].length<=8/\∀ x∈[b,b],x.length<2 ^ 16:=⟨show (2:Nat)<=8 by decide,λx hx=>by simp at hx;subst hx;omega⟩;unfold zC5;refine Q0 (P:=λr=>r<0∨∃ i:Nat,r=(i:Int)/\obf s a=some i) (Q5 (sK h ha) ?_) λr hr=>?_
 ·cases q:obf s a with
  | some i=>exact .inr ⟨i,rfl,rfl⟩
  | none=>exact .inl (by decide)
 refine Q7 (λ_=>Q1 bb) λg=>?_;have g:=dF g;obtain ⟨i,rfl,ei⟩:=hr.resolve_left g;obtain ⟨lt3,pk,sk⟩:=cH h ei;refine Q0 (zK2 h hn hb) λt ht=>?_;obtain ⟨ib,t1,t2⟩:=ht;obtain ⟨ti,tb⟩:=t;have t1:ti.length=3:=t1;have t2:tb.length=3:=t2;refine Q0 (mB b (by decide)) λc hc=>?_;refine Q0 (P:=λ_=>True) (Q5 (vX (i:=0) (d:=0) (by omega)) trivial) λx0' _=>Q0 (P:=λ_=>True) (Q5 (vX (i:=1) (d:=0) (by omega)) trivial) λx1 _=>Q0 (P:=λ_=>True) (Q5 (vX (i:=2) (d:=0) (by omega)) trivial) λx2 _=>?_;refine Q0 (P:=λ_=>True) (Q5 (vX (i:=0) (d:=[]) (by omega)) trivial) λy0 _=>Q0 (P:=λ_=>True) (Q5 (vX (i:=1) (d:=[]) (by omega)) trivial) λy1 _=>Q0 (P:=λ_=>True) (Q5 (vX (i:=2) (d:=[]) (by omega)) trivial) λy2 _=>?_;refine Q0 (P:=λr=>r.2.2=0->mW r.1/\zBb r.2.1) (Q5 (zHw c _ y1 y2 (by omega)) λe=>zP7 e) λm hm=>?_;obtain ⟨p,t,e⟩:=m;refine Q7 (λ_=>Q1 bb) λg=>?_;have g:e=0:=by simpa using g
 obtain ⟨po,so⟩:=hm g;have po:mW p:=po;have so:zBb t:=so;refine Q0 (P:=λr=>r=obg s i) (Q5 (zJf h lt3) rfl) λo ho=>?_;subst ho;have pl:=yEo (parent:=(obg s i).Sensitive) (p:=p) so;have ps:=zHm (a:=(obg s i).Sensitive) (p:=p) so;refine Q0 (P:=λr=>r=zH3 (obg s i).Sensitive p t) (Q5 (zK3 _ _ _ (by have:=sk.sd;omega)) rfl) λv hv=>?_;subst hv;generalize zH3 (obg s i).Sensitive p t=v at pl ps;refine Q0 (P:=λr=>r.length=v.length) ?_ λw hw=>?_
 ·refine Q7 (λ_=>?_) λ_=>Q1 rfl;rw [yH (by omega) (by omega)];refine Q0 (Qm (by omega) (by omega)) (λj hj=>?_);refine Q0 (Def.at (by omega)) (λ_ _=>?_);refine Q0 (Qm (by omega) (by omega)) (λj2 hj2=>?_);exact Q0 (Def.upd (by omega)) (λr hr=>Q1 (by rw [hr];simp))
 refine Q0 (P:=λr=>r.length<=80) (Q5 (rM p) (zFu po)) λz hz=>Q1 ⟨show (2:Nat)<=8 by decide,λx hx=>?_⟩;simp only [Q4,Q3,or_false] at hx;rcases hx with rfl | rfl<;>omega
set_option maxRecDepth 100000
theorem zEc {i:List Int} {b:List By} (h1:i.length<=8) (h2:∀ x∈i,I64 x) (h3:b.length<=8) (h4:∀ x∈b,x.length<2 ^ 16):IB (i,b):=⟨h1,h2,h3,h4⟩
theorem i0':I64 0:=⟨by decide,by decide⟩
theorem six {b d e f:Int} (ha:I64 a) (hb:I64 b) (hc:I64 c) (hd:I64 d) (he:I64 e) (hf:I64 f):∀ x∈[a,b,c,d,e,f],I64 x:=by
 intro x hx;simp only [Q4,Q3,or_false] at hx;rcases hx with rfl | rfl | rfl | rfl | rfl | rfl<;>assumption
theorem zDg {d:By} (h:d.length<2 ^ 16):∀ x∈[d],x.length<2 ^ 16:=λx hx=>by simp only [Q4,Q3,or_false] at hx;rw [hx];exact h
theorem lit {n:Nat} (h:n<=1000):I64 (n:Int):=⟨by omega,by omega⟩
theorem yFc (h:zY s) (hn:Sm n) (hm:Sm m) (hb:b.length<=128):Def (nL s n m b) IB:=by
 have n0:=hn.1;have hl:=h.ss;have d8:=tdB (c:=8) hn (by decide);have d32:=tdB (c:=32) hn (by decide);unfold nL;refine Q0 (zCb h hm 0) λh0 hh0=>?_;refine Q0 (P:=λr=>768<=r/\r<=770) ?_ λhd hhd=>?_
 ·refine Qi (λx=>(768<=x.1/\x.1<=770)/\0<=x.2/\x.2<=3) (λx=>3 - x.2.toNat) (λx hx=>?_) ⟨hh0,(show (0:Int)<=0 by decide),(show (0:Int)<=3 by decide)⟩ (show 3 - (0:Int).toNat<2 ^ 64 by decide);obtain ⟨a,i⟩:=x;obtain ⟨⟨a0,a1⟩,i0,i3⟩:=hx;simp only at a0 a1 i0 i3;unfold dD;refine Q0 (P:=λb=>b=true->i<3) ?_ λc hc=>?_
  ·refine Q7 (λg=>?_) λ_=>Q1 λe=>by cases e
   have g:=dT g;refine Q0 (zG6 _ 3 (by decide) (by decide)) λj hj=>?_;exact Q0 (zT8 hl hj.1 (by omega)) λv _=>Q1 λ_=>g
  ·refine Q7 (λg=>Qa (Q1 ?_)) λ_=>Q1 ⟨a0,a1⟩;have i2:=hc g;have e1:Q6.wrap (a - 768)=a - 768:=yH (by omega) (by omega);have e2:Q6.wrap (a - 768+1)=a - 767:=by rw [yH (by omega) (by omega)];omega
   obtain ⟨t0,t1⟩:=tmB (show 0<=a - 767 by omega) (show (0:Int)<3 by decide);rw [e1,e2,yH (n:=i+1) (by omega) (by omega),yH (n:=768+Q8 (a - 767) 3) (by omega) (by omega)];exact ⟨⟨⟨by show 768<=768+Q8 (a - 767) 3;omega,by show 768+Q8 (a - 767) 3<=770;omega⟩,by show 0<=i+1;omega,by show i+1<=3;omega⟩,by show 3 - (i+1).toNat<3 - i.toNat;omega⟩
 have hI:I64 hd:=⟨by omega,by omega⟩;refine Q0 (P:=λ_=>True) (yF yS yS) λc _=>?_;refine yF ?_ (yF (Qa (Q1 (zEc (show (6:Nat)<=8 by decide) (six hI (lit (n:=2) (by decide)) i0' i0' (zD2 _) i0') (Q2 _) (by simp)))) (yF ?_ (yF ?_ (yF ?_ (yF ?_ ?_)))))
 ·refine Q0 (P:=λr=>r.length<2 ^ 16) (yF (Q0 (jL b) λr hr=>Q1 (by omega)) (Q1 (by show (0:Nat)<2 ^ 16;decide))) λd hd2=>?_;exact Qa (Qa (Q1 (zEc (show (6:Nat)<=8 by decide) (six hI (lit (n:=1) (by decide)) (zD2 _) (zD2 _) i0' i0') (show (1:Nat)<=8 by decide) (zDg hd2))))
 ·obtain ⟨t0,t1⟩:=tmB d8.1 (show (0:Int)<5 by decide);refine Q0 (P:=λr=>I64 r) ?_ λv hv=>Q1 (zEc (show (6:Nat)<=8 by decide) (six hI (lit (n:=3) (by decide)) i0' i0' hv i0') (Q2 _) (by simp));refine (zT8 (l:=([13,14,15,23,24]:List Int)) rfl t0 t1).mono λr hr=>?_;simp only [Q4,Q3,or_false] at hr;exact ⟨by omega,by omega⟩
 ·refine Q0 (zG5 h d8) λv hv=>Q0 (mB b (by decide)) λc hc=>Q1 (zEc (show (6:Nat)<=8 by decide) (six hI (lit (n:=4) (by decide)) i0' i0' ⟨by omega,by omega⟩ (tmI d32.1 (by decide) (by decide))) (show (1:Nat)<=8 by decide) (zDg (by omega)))
 ·exact Q1 (zEc (show (6:Nat)<=8 by decide) (six hI (lit (n:=5) (by decide)) i0' i0' (tmI n0 (by decide) (by decide)) (tmI d8.1 (by decide) (by decide))) (Q2 _) (by simp))
 ·exact Q1 (zEc (show (6:Nat)<=8 by decide) (six hI (lit (n:=7) (by decide)) i0' i0' i0' i0') (Q2 _) (by simp))
 ·refine Q0 (zE7 h hI) λx hx=>Q0 (jL b) λy hy=>?_;refine Q0 (P:=λr=>r.length=2/\∀ z∈r,z.length<2 ^ 16) ?_ λl hl2=>Q1 (zEc (show (6:Nat)<=8 by decide) (six hI (lit (n:=8) (by decide)) i0' i0' i0' i0') (by rw [hl2.1];decide) hl2.2);refine Q0 (P:=λ_=>True) (yF yS yS) λc _=>?_;have hx1:x.1.Digest.length<=32:=hx.1;refine yF (Q0 (jL b) λu hu=>Q0 (jL []) λv hv=>Q1 ⟨rfl,λz hz=>?_⟩) (Q1 ⟨rfl,λz hz=>?_⟩)
  ·simp only [Q4,Q3,or_false] at hz;rcases hz with rfl | rfl<;>omega
  ·simp only [Q4,Q3,or_false] at hz;rcases hz with rfl | rfl<;>omega
theorem zWg (h:zY s) (hn:Sm n):Def (dP s n) I64:=by
 unfold dP;have d3:=tdB (c:=3) hn (by decide);refine yF (Q1 (tmI d3.1 (by decide) (by decide))) (yF (Q0 (zG5 h d3) λv hv=>Q1 ⟨by omega,by omega⟩) (Q0 (zAf h d3 0) λv hv=>Q1 ⟨by omega,by omega⟩))
theorem p1 (s:By) (hs:s.length<2 ^ 30):Def (nG s 0) (λr=>r.length=17):=Q5 (zG8 s 0 hs (by decide)) (zQn s (by decide))
theorem zZb (s m:By) (hs:s.length<2 ^ 30) (hm:m.length<2 ^ 31):Def (lU s 0 0 m) (λr=>r.length=561):=Q5 (zMp s 0 0 m hs (by decide) (by decide) hm) (by have:=zSu s 0 0 m (by decide) (by decide);omega)
theorem yDq (h:zY s) (hn:Sm n) (hb:b.length<=128):Def (hZ s n b) IB:=by
 have n0:=hn.1;unfold hZ;refine Q0 (zCb h hn 2) λa ha=>Q0 (zE7 h ⟨by omega,by omega⟩) λx hx=>Q0 (mB b (by decide)) λc hc=>Q0 (jL c) λsd hsd=>Q0 (p1 sd (by omega)) λpk hpk=>Q0 (mB b (tmB n0 (show (0:Int)<4 by decide)).1) λrf hrf=>?_;have hx1:x.1.Digest.length<=32:=hx.1;refine Q0 (P:=λr=>r.length=32) (Q5 (bd (rC 9 [x.1.Digest,rf] (by rw [zUd];omega)) rfl) (iK _ _)) λd hd=>Q0 (zZb sd d (by omega) (by omega)) λsg hsg=>?_;refine Q0 (P:=λr=>r.length=561) (yF (Q0 (zZb sd b (by omega) (by omega)) λr hr=>Q1 hr) (Q1 hsg)) λsg2 hsg2=>?_;refine Q0 (P:=λr=>r.length<2 ^ 16) (Q5 (rM _) ?_) λen hen=>Q1 (zEc (show (1:Nat)<=8 by decide) (λy hy=>?_) (show (3:Nat)<=8 by decide) λy hy=>?_)
 ·have h1:=rB [u8 2,u8 1,u8 0] [] 0 (by decide);have h2:=rB (xX [u8 2,u8 1,u8 0] []) pk 17 (by omega);simp only [Qb,Qe] at h1;show (xX (xX [u8 2,u8 1,u8 0] []) pk).length<2 ^ 16;omega
 ·simp only [Q4,Q3,or_false] at hy;rw [hy];exact ⟨by omega,by omega⟩
 ·simp only [Q4,Q3,or_false] at hy;rcases hy with rfl | rfl | rfl<;>omega
theorem yEj (h:zY s) (hn:Sm n) (hb:b.length<=128):Def (jP s n b) IB:=by
 have n0:=hn.1;have d5:=tdB (c:=5) hn (by decide);obtain ⟨t0,t1⟩:=tmB d5.1 (show (0:Int)<4 by decide);have e:Q6.wrap (1+Q8 (Q6.wrap (Qg n 5)) 4)=1+Q8 (Q6.wrap (Qg n 5)) 4:=yH (by omega) (by omega);unfold jP;refine Qa (Q0 (zSp h (tdB (c:=7) hn (by decide)) b) λp hp=>Qa ?_);refine Q0 (P:=λr=>I64 r) (yF (Q1 (zYe _ _)) (Q1 (yKd _ _))) λat' hat=>?_;rw [e];refine Q0 (P:=λr=>I64 r) ?_ λsz hsz=>?_
 ·rw [yH (by omega) (by omega)];refine (zT8 (l:=([12,8,8,32]:List Int)) rfl (by omega) (by show _<((4:Nat):Int);omega)).mono λr hr=>?_;simp only [Q4,Q3,or_false] at hr;exact ⟨by omega,by omega⟩
 refine Q0 (mB b (tmB n0 (show (0:Int)<3 by decide)).1) λc hc=>Q1 (zEc (show (4:Nat)<=8 by decide) (λy hy=>?_) (show (2:Nat)<=8 by decide) λy hy=>?_)
 ·simp only [Q4,Q3,or_false] at hy;rcases hy with rfl | rfl | rfl | rfl
  ·exact tmI n0 (by decide) (by decide)
  ·exact ⟨by omega,by omega⟩
  ·exact hat
  ·exact hsz
 ·simp only [Q4,Q3,or_false] at hy;rcases hy with rfl | rfl<;>omega
structure Rq0 (q:zC):Prop where
 h:q.Handles.length<=8
 hi:∀ x∈q.Handles,I64 x
 a:q.Auths.length<=8
 i:q.Ints.length<=8
 ii:∀ x∈q.Ints,I64 x
 b:q.Blobs.length<=8
 bb:∀ x∈q.Blobs,x.length<2 ^ 16
theorem Rq0.l (h:Rq0 q):RqL q:=⟨by have:=h.h;omega,by have:=h.a;omega,by have:=h.i;omega,by have:=h.b;omega⟩
theorem zKb {b:Int} (ha:I64 a) (hb:I64 b):∀ x∈[a,b],I64 x:=λx hx=>by
 simp only [Q4,Q3,or_false] at hx;rcases hx with rfl | rfl<;>assumption
theorem zB1 (ha:I64 a):∀ x∈[a],I64 x:=λx hx=>by simp only [Q4,Q3,or_false] at hx;rw [hx];exact ha
theorem yEi (h:zY s) (k:Int) (hn:Sm n) (hb:b.length<=128):Def (hU s k n b) (λq=>Rq0 q/\q.Handles.length=2):=by
 have n0:=hn.1;have d3:=tdB (c:=3) hn (by decide);unfold hU;refine Q0 (zG5 h hn) λv hv=>?_;have hvi:I64 v:=⟨by omega,by omega⟩;refine Q0 (P:=λr=>I64 r) (yF (Q1 (show I64 1 from ⟨by decide,by decide⟩)) (Q1 hvi)) λe he=>?_;refine Q0 (mB b (by decide)) λc hc=>?_;refine Q0 (P:=λr=>r<0∨∃ i:Nat,r=(i:Int)/\i<s.Stable.Indices.length) (Q5 (vJ h hvi) ?_) λr hr=>?_
 ·cases q:ixf s v with
  | some i=>exact .inr ⟨i,rfl,(sC q).1⟩
  | none=>exact .inl (by decide)
 refine Q0 (P:=λ_=>True) ?_ λkd _=>?_
 ·refine Q7 (λg=>?_) λ_=>Q1 trivial;have g:=dT g;obtain ⟨i,rfl,hi⟩:=hr.resolve_left (by omega);exact Q0 (P:=λ_=>True) (Q5 (zLs hi) trivial) λ_ _=>Q1 trivial
 refine Q0 (P:=λr=>r.2.1.length<=8/\(∀ x∈r.2.1,I64 x)/\r.2.2.length<=8/\∀ x∈r.2.2,x.length<2 ^ 16) ?_ λr hr=>Q1 ⟨⟨show (2:Nat)<=8 by decide,zKb he hvi,Q2 _,hr.1,hr.2.1,hr.2.2.1,hr.2.2.2⟩,rfl⟩;have nilb:∀ x∈([]:List By),x.length<2 ^ 16:=λx hx=>by cases hx
 have nili:∀ x∈([]:List Int),I64 x:=λx hx=>by cases hx
 refine yF (Q1 ⟨show (2:Nat)<=8 by decide,zKb (tmI n0 (by decide) (by decide)) (tmI d3.1 (by decide) (by decide)),Q2 _,nilb⟩) (yF (Q1 ⟨Q2 _,nili,Q2 _,nilb⟩) ?_);refine Q0 (P:=λ_=>True) (yF yS yS) λ_ _=>?_;refine yF (Q1 ⟨Q2 _,nili,Q2 _,nilb⟩) (yF ?_ (yF (Q1 ⟨Q2 _,nili,show (1:Nat)<=8 by decide,zDg (by omega)⟩) (Q1 ⟨show (1:Nat)<=8 by decide,zB1 (tmI n0 (by decide) (by decide)),show (1:Nat)<=8 by decide,zDg (by omega)⟩)));refine Q0 (jL b) λy hy=>Q0 (Def.sub (by decide) (by decide) (by omega)) λz hz=>Q1 ⟨Q2 _,nili,show (1:Nat)<=8 by decide,zDg ?_⟩;rw [hz];simp;omega
set_option maxRecDepth 100000
theorem Rq0.k (h:Rq0 q) (ha:q.Auths=[]):mG q:=⟨by have:=h.h;omega,h.hi,by rw [ha];exact Q2 _,λx hx=>(by rw [ha] at hx;cases hx),by have:=h.i;omega,h.ii,by have:=h.b;omega,h.bb⟩
theorem zV7 (h:zY s) (hq:Rq0 q) (ha:q.Auths=[]) (h1:1<=q.Handles.length) (hm:Sm m) (hb:b.length<=128):Def (mS s q m b) Rq0:=by
 have k:=hq.k ha;have h0:=eZ k (show 0<q.Handles.length by omega);have hv:=(zWf h (hnd q 0)).1;have d8:=tdB (c:=8) hm (by decide);unfold mS;refine Q0 (P:=λr=>r=hnd q 0) (Q5 (zDw (i:=0) (by omega)) rfl) λz hz=>?_;subst hz;refine Q0 (P:=λr=>r.length<=32) (Q5 (zAy h h0) hv) λv hv=>?_;refine Q0 (P:=λ_=>True) ?_ λr _=>Q1 ⟨hq.h,hq.hi,show (1:Nat)<=8 by decide,hq.i,hq.ii,hq.b,hq.bb⟩;refine yF (Q0 (Qn (by simp;omega)) λx hx=>Q0 (Qn (by rw [hx];simp;omega)) λy _=>Q1 trivial) ?_;refine Q0 (P:=λ_=>True) (yF yS yS) λ_ _=>yF ?_ ?_
 ·refine Q0 (zCb h d8 1) λa ha2=>Q0 (zE7 h ⟨by omega,by omega⟩) λx hx=>?_;obtain ⟨x,er⟩:=x;have hx1:x.Nonce.length<=32:=hx.2;refine Q0 (P:=λ_=>True) (yF yS yS) λ_ _=>yF ?_ (Q1 trivial);refine Q0 (mB b (by decide)) λc hc=>?_;refine Q0 (P:=λr=>r=nms s q) (Q5 (bd (zJ7 h k) rfl) rfl) λn hn=>?_;subst hn;refine Q0 (P:=λr=>r.length=32) (Q5 (zHt (zRu s q) (by unfold nms;rw [List.length_map];exact k.hl) k) (iK _ _)) λd hd=>?_;refine Q0 (P:=λ_=>True) (Q5 (zNy v d x.Nonce c (by omega) (by omega) (by omega) (by omega)) trivial) λmm _=>?_;exact yF (Q0 (Qn (by simp;omega)) λy hy=>Q0 (Qn (by rw [hy];simp;omega)) λz _=>Q1 trivial) (Q1 trivial)
 ·refine Q0 (P:=λ_=>True) (yF yS yS) λ_ _=>yF ?_ (Q1 trivial);exact Q0 (zCb h d8 2) λa _=>Q1 trivial
structure Rt (r:Bool×Int×List Int×List Int×List By):Prop where
 h:r.2.2.1.length<=8
 hi:∀ x∈r.2.2.1,I64 x
 i:r.2.2.2.1.length<=8
 ii:∀ x∈r.2.2.2.1,I64 x
 b:r.2.2.2.2.length<=8
 bb:∀ x∈r.2.2.2.2,x.length<2 ^ 16
 au:r.1=true->1<=r.2.2.1.length
theorem nilb:∀ x∈([]:List By),x.length<2 ^ 16:=λx hx=>by cases hx
theorem nili:∀ x∈([]:List Int),I64 x:=λx hx=>by cases hx
theorem rt0 {i:List Int} {b:List By} (h1:i.length<=8) (h2:∀ x∈i,I64 x) (h3:b.length<=8) (h4:∀ x∈b,x.length<2 ^ 16):Rt (false,c,[],i,b):=⟨Q2 _,nili,h1,h2,h3,h4,λe=>by cases e⟩
theorem rt1 {h:Int} {i:List Int} {b:List By} (hh:I64 h) (h1:i.length<=8) (h2:∀ x∈i,I64 x) (h3:b.length<=8) (h4:∀ x∈b,x.length<2 ^ 16):Rt (true,c,[h],i,b):=⟨show (1:Nat)<=8 by decide,zB1 hh,h1,h2,h3,h4,λ_=>Qh _⟩
theorem obI (h:512<=v/\v<=514):I64 v:=⟨by omega,by omega⟩
theorem shI (h:768<=v/\v<=770):I64 v:=⟨by omega,by omega⟩
theorem l1 (x:α):[x].length<=8:=show (1:Nat)<=8 by decide
theorem l2 (x y:α):[x,y].length<=8:=show (2:Nat)<=8 by decide
theorem zQm (h:zY s) (k n m:Int) (b:By):Def (nN s k n m b) Rq0:=by
 unfold nN;refine Q0 (zG6 k 48 (by decide) (by decide)) λkk hkk=>Q0 (zG6 n 1073741824 (by decide) (by decide)) λn hn=>Q0 (zG6 m 1073741824 (by decide) (by decide)) λm hm=>?_;have hn:Sm n:=⟨hn.1,by omega⟩;have hm:Sm m:=⟨hm.1,by omega⟩;have n0:=hn.1;refine Q0 (P:=λr=>r.length<=60) ?_ λb hb=>?_
 ·unfold vU;refine Q7 (λg=>?_) λg=>Q1 ?_
  ·have:=dT g;exact Q0 (Def.sub (by decide) (by decide) (by omega)) λr hr=>Q1 (by rw [hr];simp;omega)
  ·have:=dF g;omega
 have hb128:b.length<=128:=by omega
 have d2:=tdB (c:=2) hn (by decide);have d3:=tdB (c:=3) hn (by decide);have d4:=tdB (c:=4) hn (by decide);have d5:=tdB (c:=5) hn (by decide);have t4:I64 (Q8 n 4):=tmI n0 (by decide) (by decide);refine Q0 (P:=λ_=>True) (yF yS yS) λ_ _=>yF (Q1 ⟨Q2 _,nili,Q2 _,Q2 _,nili,Q2 _,nilb⟩) ?_;refine Q0 (P:=Rt) ?_ λr hr=>?_
 ·refine yF (Q1 (rt0 (Q2 _) nili (Q2 _) nilb)) (yF (Q1 (rt0 (l2 _ _) (zKb (tmI n0 (by decide) (by decide)) (tmI d3.1 (by decide) (by decide))) (Q2 _) nilb)) ?_);refine Q0 (P:=λ_=>True) (yF yS yS) λ_ _=>yF (Q0 (yKr _ b) λd hd=>Q1 (rt0 (l1 _) (zB1 (tmI n0 (by decide) (by decide))) (by rw [hd.1];decide) λx hx=>by have:=hd.2 x hx;omega)) ?_;refine Q0 (P:=λ_=>True) (yF yS (yF yS yS)) λ_ _=>yF (Q1 (rt0 (l1 _) (zB1 (tmI n0 (by decide) (by decide))) (l1 _) (zDg (by omega)))) (yF (Q1 (rt0 (l1 _) (zB1 (zD2 _)) (Q2 _) nilb)) ?_);refine Q0 (P:=λ_=>True) (yF yS (yF yS (yF yS yS))) λ_ _=>yF (Q0 (zK2 h d3 hb128) λt ht=>Q1 (rt1 (tmI n0 (by decide) (by decide)) ht.1.il ht.1.i ht.1.bl ht.1.b)) (yF (Q0 (zAf h hn 1) λo ho=>Q0 (zK2 h d3 hb128) λt ht=>Q1 (rt1 (obI ho) ht.1.il ht.1.i ht.1.bl ht.1.b)) ?_);refine Q0 (P:=λ_=>True) (yF yS (yF yS yS)) λ_ _=>yF (Q0 (zAf h hn 1) λo ho=>Q0 (zYj h (obI ho) d3 hb128) λt ht=>Q1 (rt1 (obI ho) (Q2 _) nili ht.1 ht.2)) (yF ?_ ?_)
  ·refine Q0 (zAf h hn 0) λo ho=>Q0 (zCb h hn 0) λp hp=>?_;obtain ⟨u0,u1⟩:=tmB d3.1 (show (0:Int)<2 by decide);refine Q0 (zT8 (l:=[o,p]) rfl u0 (by show _<((2:Nat):Int);omega)) λv hv=>Q1 (rt0 (l1 _) (zB1 ?_) (Q2 _) nilb);exact zKb (obI ho) (shI hp) v hv
  refine Q0 (P:=λ_=>True) (yF yS yS) λ_ _=>yF (Q0 (zAf h hn 3) λo ho=>Q1 (rt1 (obI ho) (Q2 _) nili (Q2 _) nilb)) ?_;refine Q0 (P:=λ_=>True) (yF yS yS) λ_ _=>yF (Q0 (zAf h hn 2) λo ho=>Q1 (rt1 (obI ho) (Q2 _) nili (l1 _) (zDg (by omega)))) ?_;refine Q0 (P:=λ_=>True) (yF yS yS) λ_ _=>yF (Q0 (zAf h hn 2) λo ho=>Qa (Qa (Q1 (rt1 (obI ho) (l2 _ _) (zKb (zD2 _) (zD2 _)) (l1 _) (zDg (by omega)))))) ?_;refine Q0 (P:=λ_=>True) (yF yS (yF yS yS)) λ_ _=>yF (Q1 (rt0 (l1 _) (zB1 (zD2 _)) (Q2 _) nilb)) ?_;refine Q0 (P:=λ_=>True) (yF yS (yF yS (yF yS yS))) λ_ _=>yF (Q0 (yFc h hn hm hb128) λt ht=>Q1 (rt0 ht.il ht.i ht.bl ht.b)) (yF ?_ (yF (Q0 (yDq h hn hb128) λt ht=>Q1 (rt0 ht.il ht.i ht.bl ht.b)) (yF (Q0 (zCb h hn 0) λp hp=>Q1 (rt0 (l1 _) (zB1 (shI hp)) (Q2 _) nilb)) ?_)))
  ·exact Q0 (zWg h hn) λe he=>Q0 (zCb h d3 0) λp hp=>Q0 (mB b (by decide)) λc hc=>Q1 (rt1 he (l2 _ _) (zKb (shI hp) (tmI n0 (by decide) (by decide))) (l1 _) (zDg (by omega)))
  refine Q0 (P:=λ_=>True) (yF yS yS) λ_ _=>yF (Q0 (yEj h d2 hb128) λt ht=>Q1 (rt1 (zD2 _) ht.il ht.i ht.bl ht.b)) (yF (Q0 (zG5 h d2) λv hv=>Q1 (rt1 (zD2 _) (l1 _) (zB1 (zD2 _)) (Q2 _) nilb)) ?_);refine Q0 (P:=λ_=>True) (yF yS (yF yS (yF yS (yF yS (yF yS (yF yS (yF yS yS))))))) λ_ _=>yF (Q0 (yEi h _ hn hb128) λq hq=>Q1 ⟨hq.1.h,hq.1.hi,hq.1.i,hq.1.ii,hq.1.b,hq.1.bb,λ_=>by show 1<=q.Handles.length;rw [hq.2];decide⟩) (yF ?_ (yF ?_ (yF ?_ ?_)))
  ·exact Q0 (mB b (tmB d4.1 (show (0:Int)<3 by decide)).1) λc hc=>Q1 (rt1 t4 (Q2 _) nili (l1 _) (zDg (by omega)))
  ·exact yF (Q1 (rt1 ⟨by decide,by decide⟩ (Q2 _) nili (Q2 _) nilb)) (Q1 (rt1 (zD2 _) (Q2 _) nili (Q2 _) nilb))
  ·refine Q1 (rt1 ⟨by decide,by decide⟩ (show (3:Nat)<=8 by decide) (λx hx=>?_) (Q2 _) nilb);simp only [Q4,Q3,or_false] at hx;rcases hx with rfl | rfl | rfl
   ·exact zD2 _
   ·exact tmI n0 (by decide) (by decide)
   ·exact tmI d5.1 (by decide) (by decide)
  ·exact yF (Q1 (rt0 (l1 _) (zB1 (tmI n0 (by decide) (by decide))) (Q2 _) nilb)) (Q1 (rt0 (l1 _) (zB1 (tmI n0 (by decide) (by decide))) (Q2 _) nilb))
 obtain ⟨au,c,hs,is,bs⟩:=r;have r1:hs.length<=8:=hr.h;have r2:is.length<=8:=hr.i;have r3:bs.length<=8:=hr.b;have q0:Rq0 (zC.mk c hs [] is bs):=⟨r1,hr.hi,Q2 _,r2,hr.ii,r3,hr.bb⟩;refine Q0 (P:=λr=>Rq0 (zC.mk r.1 r.2.1 r.2.2.1 r.2.2.2.1 r.2.2.2.2)) ?_ λr hr=>Q1 hr;refine Q7 (λg=>?_) λ_=>Q1 q0;exact Q0 (zV7 h q0 rfl (hr.au g) hm hb128) λq hq=>Q1 hq
set_option maxRecDepth 100000
theorem yA7 {R:Type} {step:Int->Option (Int ⊕ (R ⊕ Unit))} {n:Nat} (hn:n<2 ^ 40) (h:∀ i,i<n->step (i:Int)=some (.inl ((i+1:Nat):Int))) (he:step (n:Int)=some (.inr (.inr ()))):zO step FU 0=some (.inr ()):=yC n (λi=>(i:Int)) rfl h he (xI (by omega))
theorem sr (h:b.length<2 ^ 40) {β:Type} (f:Bool->Option β):(yT b b).bind f=f true:=bd (zBy b h) rfl
theorem zNx (l:List Int) (h:l.length<2 ^ 40):eN l l=some true:=by
 unfold eN;refine cf (by simp) (bd (yA7 h (λi hi=>?_) ?_) rfl)
 ·unfold cR;refine ct (decide_eq_true (by omega)) (bd (yR hi) (bd (yR hi) (cf (by simp) ?_)));rw [yM (by omega)]
 ·unfold cR;exact cf (decide_eq_false (by omega)) rfl
theorem sJ (x:Int):(x != x)=false:=by simp
theorem zOz (h:zY s):qM s.Stable s.Stable=some true:=by
 have ls:rZ s.Stable.Seeds s.Stable.Seeds=some true:=zFq _ (λx hx=>by have:=h.se x hx;omega) (by rw [h.sl];decide);have la:rZ s.Stable.Auths s.Stable.Auths=some true:=zFq _ (λx hx=>by have:=h.ae x hx;omega) (by rw [h.al];decide);unfold qM;refine bd (a:=false) ?_ (cf rfl ?_)
 ·refine bd ls (cf rfl (bd la (cf rfl ((sr (by have:=h.en;omega) _).trans (cf rfl ?_)))));rw [sJ,sJ,sJ,sJ,sJ,sJ,sJ];refine cf rfl (cf rfl (cf rfl (cf rfl (cf (by simp) (bd (zJ8 h.sv) (cf rfl (cf rfl (cf (by simp) (cf rfl rfl)))))))))
 refine bd (yA7 (n:=s.Stable.Indices.length) (by have:=h.il;omega) (λi hi=>?_) ?_) ?_
 ·unfold pJ;refine ct (decide_eq_true (by omega)) (bd (zLs hi) (bd (zLs hi) (bd (zPf (mF h hi)) ?_)));rw [yM (by have:=h.il;omega)];rfl
 ·unfold pJ;exact cf (decide_eq_false (by omega)) rfl
 refine bd (yA7 (n:=s.Stable.Keys.length) (by have:=h.kl;omega) (λi hi=>?_) ?_) rfl
 ·have ok:=zQf h hi;unfold pI;refine ct (decide_eq_true (by omega)) (bd (a:=false) (bd (zT4 hi) (bd (zT4 hi) ((sr (by have:=ok.u;omega) _).trans (cf rfl (bd (zT4 hi) (bd (zT4 hi) (congrArg some (sJ _)))))))) ?_);rw [yM (by have:=h.kl;omega)];rfl
 ·unfold pI;exact cf (decide_eq_false (by omega)) rfl
theorem yD4 {x:zR} (h:zLm x):x.Public.Policy.length<=32/\x.Public.Unique.length<=32/\x.Sensitive.Auth.length<=32/\x.Sensitive.Seed.length<=32/\x.Sensitive.Data.length<=128:=by
 by_cases e:x.Public.Kind=0
 ·rw [h.z e];exact ⟨Q2 _,Q2 _,Q2 _,Q2 _,Q2 _⟩
 ·obtain ⟨a,b⟩:=h.k.resolve_left e;exact ⟨by have:=a.pl;omega,by rw [a.un];split<;>decide,b.au,b.sd,b.dt⟩
theorem yFs {p:zL} (h1:p.Policy.length<=32) (h2:p.Unique.length<=32):zAv p p=some true:=by
 unfold zAv;refine bd (a:=true) (ct (beq_self_eq_true _) (ct (beq_self_eq_true _) (ct (beq_self_eq_true _) ((sr (by omega) _).trans (ct rfl ((sr (by omega) _).trans rfl)))))) rfl
theorem yEq {p:zJ} (h1:p.Auth.length<=32) (h2:p.Seed.length<=32) (h3:p.Data.length<=128):zAj p p=some true:=by
 unfold zAj;refine bd (a:=true) ((sr (by omega) _).trans (ct rfl ((sr (by omega) _).trans (ct rfl ((sr (by omega) _).trans rfl))))) rfl
theorem yFv {x:zH} (h:zId x):rP x x=some true:=by
 have:=h.n;have:=h.d;unfold rP;refine bd (a:=true) (ct (beq_self_eq_true _) ((sr (by omega) _).trans (ct rfl ((sr (by omega) _).trans (ct rfl (ct (beq_self_eq_true _) (ct (beq_self_eq_true _) (ct (beq_self_eq_true _) (ct (beq_self_eq_true _) (by simp)))))))))) rfl
theorem zZ0 (h:zY s):zAs s s=some true:=by
 have hss:=h.ss;have hol:=h.ol;unfold zAs;refine bd (a:=false) ?_ (cf rfl ?_)
 ·refine bd (zOz h) (cf rfl ?_);rw [sJ,sJ,sJ,sJ];refine cf (by simp) (cf (by simp) (bd (zJ8 h.rg) (cf rfl (cf rfl (cf (by simp) (cf rfl (cf rfl (cf rfl (bd (zNx _ (by have:=h.rl.len;omega)) (cf rfl (bd (zNx _ (by have:=h.wl.len;omega)) rfl)))))))))))
 refine bd (yA7 (n:=3) (by decide) (λi hi=>?_) ?_) ?_
 ·unfold cQ;refine ct (decide_eq_true (by omega)) (bd (yBe h hi) (bd (yBe h hi) (bd (yFv (cM h hi)) ?_)));rw [yM (by omega)];rfl
 ·unfold cQ;exact cf (decide_eq_false (by omega)) rfl
 refine bd (yA7 (n:=3) (by decide) (λi hi=>?_) ?_) rfl
 ·obtain ⟨a,b,c,d,e⟩:=yD4 (zW0 h hi);unfold cP;refine ct (decide_eq_true (by omega)) (bd (a:=false) (bd (zJf h hi) (bd (zJf h hi) (bd (yFs a b) (cf rfl (bd (zJf h hi) (bd (zJf h hi) (bd (yEq c d e) (cf rfl (bd (zJf h hi) (bd (zJf h hi) (congrArg some (sJ _)))))))))))) ?_);rw [yM (by omega)];rfl
 ·unfold cP;exact cf (decide_eq_false (by omega)) rfl
structure Rsp (r:zD):Prop where
 i:r.Ints.length<=8
 b:r.Blobs.length<=8
 t:(r.Blobs.map (·.length)).sum<=1500
 n:r.Nonces.length<=1
 m:∀ x∈r.Nonces,x.length<=16
theorem zW3 (e:Int):Rsp (rs e):=⟨Q2 _,Q2 _,Q2 _,Q2 _,λx hx=>by cases hx⟩
theorem yI7 {r:zB×zD} (h:Gd s r):Rsp r.2:=⟨h.i,h.b,h.t,by rw [h.n];exact Q2 _,λx hx=>by rw [h.n] at hx;cases hx⟩
theorem yMr (s:zB) (q:zC):(afV s q).2.length<=1/\∀ x∈(afV s q).2,x.length<=16:=by
 have nil:([]:List By).length<=1/\∀ x∈([]:List By),x.length<=16:=⟨Q2 _,λx hx=>by cases hx⟩;unfold afV;cases (aut q).Session==0
 ·cases ssf s (aut q).Session with
  | none=>exact nil
  | some i=>
   show (bif (ssg s i).Kind==1 then (ptS (rnS s) i (afN (ssg s i) (rnB s 16)),[rnB s 16]) else (bif (ssg s i).Kind==2 then ptS s i ss0 else s,[])).2.length<=1/\_;show _/\∀ x∈(bif (ssg s i).Kind==1 then (ptS (rnS s) i (afN (ssg s i) (rnB s 16)),[rnB s 16]) else (bif (ssg s i).Kind==2 then ptS s i ss0 else s,[])).2,x.length<=16;cases (ssg s i).Kind==1
   ·exact nil
   ·refine ⟨Qh _,λx hx=>?_⟩;simp only [cond_true,Q4,Q3,or_false] at hx;rw [hx,zE9 _ _ (by decide)];decide
 ·exact nil
theorem yHg (s:zB) (loc:Int) (q:zC):(acV s loc q).1=s∨∃ l,(acV s loc q).1=eA s l/\(acV s loc q).2=9:=by
 have cp:∀ h b,(cpV s h b).1=s∨∃ l,(cpV s h b).1=eA s l/\(cpV s h b).2=9:=by
  intro h b;unfold cpV;cases b
  ·cases (fdV s h).1.protected_
   ·cases h==3
    ·exact .inl rfl
    ·exact .inr ⟨_,rfl,rfl⟩
   ·exact .inr ⟨_,rfl,rfl⟩
  ·exact .inl rfl
 have bv:∀ w,(byV s q w).1=s∨∃ l,(byV s q w).1=eA s l/\(byV s q w).2=9:=by
  intro w;unfold byV;cases fbV s q
  ·cases lkV s (hnd q 0)
   ·exact cp _ _
   ·exact .inl rfl
  ·exact .inl rfl
 unfold acV;cases (aut q).Session==0
 ·cases ssf s (aut q).Session with
  | none=>exact .inl rfl
  | some i=>
   show (bif (ssg s i).Kind==1 then byV s q (wnt s q (ssg s i)) else bif (ssg s i).Kind==2 then byP s loc q (ssg s i) else (s,8)).1=s∨∃ l,(bif (ssg s i).Kind==1 then byV s q (wnt s q (ssg s i)) else bif (ssg s i).Kind==2 then byP s loc q (ssg s i) else (s,8)).1=eA s l/\(bif (ssg s i).Kind==1 then byV s q (wnt s q (ssg s i)) else bif (ssg s i).Kind==2 then byP s loc q (ssg s i) else (s,8)).2=9;cases (ssg s i).Kind==1
   ·cases (ssg s i).Kind==2
    ·exact .inl rfl
    ·show (byP s loc q (ssg s i)).1=s∨∃ l,(byP s loc q (ssg s i)).1=eA s l/\(byP s loc q (ssg s i)).2=9;unfold byP;split
     ·exact .inl rfl
     ·cases (ssg s i).AuthValue
      ·exact .inl rfl
      ·cases lkV s (hnd q 0)
       ·exact cp _ _
       ·exact .inl rfl
   ·exact bv _
 ·exact bv _
structure Exe (s:zB) (r:zB×zD):Prop where
 ok:zY r.1
 rsp:Rsp r.2
 em:r.2.Err≠0->r.2.Ints=[]/\r.2.Blobs=[]/\r.2.Nonces=[]
 sm:r.2.Err≠0->r.2.Err≠9->r.1=s
 lo:r.2.Err≠0->eA r.1 s.Stable.Lockout=s
theorem zIj (h:zY s) (e:Int):Exe s (s,rs e):=⟨h,zW3 e,λ_=>⟨rfl,rfl,rfl⟩,λ_ _=>rfl,λ_=>rfl⟩
theorem zWq (h:zY s) (q:zC) (loc:Int):Exe s (exe s loc q):=by
 unfold exe;by_cases g:ckV q=0
 case neg=>rw [if_pos g];exact zIj h _
 rw [if_neg (show ¬ ckV q≠0 by simp [g])];have k:=zPw g;cases decide (loc<0)||decide (4<loc)
 case true=>exact zIj h _
 simp only [cond_false];cases gs:(q.Code != 1)&&!s.Volatile.Started
 case true=>exact zIj h _
 simp only [cond_false];cases ga:alw s q
 case false=>exact zIj h _
 have al:=zZq k ga gs;have gd:=zOx h al k loc;have fin:Exe s (bdy s loc q):=by
  refine ⟨gd.k,yI7 gd,λe=>?_,λe _=>?_,λe=>?_⟩
  ·rw [gd.e e];exact ⟨rfl,rfl,rfl⟩
  ·rw [gd.e e]
  ·rw [gd.e e];rfl
 show Exe s (ex1 s loc q);unfold ex1;by_cases ha:q.Auths.length=0
 ·rw [if_pos ha];exact fin
 rw [if_neg ha];by_cases gc:(acV s loc q).2=0
 ·rw [if_neg (show ¬ (acV s loc q).2≠0 by simp [gc])];unfold ex2;by_cases ge:(bdy s loc q).2.Err=0
  ·rw [if_neg (show ¬ (bdy s loc q).2.Err≠0 by simp [ge])];obtain ⟨n1,n2⟩:=yMr (bdy s loc q).1 q;exact ⟨yI0 gd.k q,⟨gd.i,gd.b,gd.t,n1,n2⟩,λe=>absurd ge e,λe=>absurd ge e,λe=>absurd ge e⟩
  ·rw [if_pos ge];exact zIj h _
 ·rw [if_pos gc];refine ⟨yJc h loc q,zW3 _,λ_=>⟨rfl,rfl,rfl⟩,λ_ e9=>?_,λ_=>?_⟩
  ·rcases yHg s loc q with e | ⟨l,_,e⟩
   ·exact e
   ·exact absurd e e9
  ·rcases yHg s loc q with e | ⟨l,e,_⟩
   ·show eA (acV s loc q).1 _=s;rw [e];rfl
   ·show eA (acV s loc q).1 _=s;rw [e];rfl
set_option maxRecDepth 100000
theorem yMa (a:Int):0<=yX .i64 a 3/\yX .i64 a 3<=3:=by
 unfold yX;have e:(BitVec.ofInt Q6.bits a &&& BitVec.ofInt Q6.bits 3).toNat<=3:=by
  rw [BitVec.toNat_and];exact Nat.le_trans Nat.and_le_right (by decide)
 rw [yH (by omega) (by omega)];omega
def bO:By:=[115,101,101,100]
def enL:By:=[101,110,116,114,111,112,121]
def nwS (a:Int) (en:By):zU:=⟨[dv en bO [u8 0] 32,dv en bO [u8 1] 32,dv en bO [u8 2] 32],[[],[],[],[]],dv en enL [] 32,a,0,0,0,true,⟨[],0⟩,0,[],⟨0,5,100,0,0,1000⟩,[]⟩
theorem zV8 {en:By} (hl:en.length=32) (a0:0<=a) (a3:a<=3):zCy en a=some (nwS a en,0):=by
 unfold zCy;have d:∀ i:Nat,wK en bO [u8 (i:Int)] 32=some (dv en bO [u8 (i:Int)] 32):=λi=>uG en _ _ 32 (by omega) (by decide) (by simp);refine bd (a:=false) (cf (by rw [hl];rfl) (cf (decide_eq_false (by omega)) (congrArg some (decide_eq_false (by omega))))) (cf rfl (bd (uG en _ _ 32 (by omega) (by decide) (by decide)) (bd (a:=⟨0,5,100,0,0,1000⟩) rfl (bd (a:=[dv en bO [u8 0] 32,dv en bO [u8 1] 32,dv en bO [u8 2] 32]) ?_ rfl))));refine yC (step:=zEh en) (r:=[dv en bO [u8 0] 32,dv en bO [u8 1] 32,dv en bO [u8 2] 32]) 3 (λi=>((i:Int),match i with | 0=>[] | 1=>[dv en bO [u8 0] 32] | 2=>[dv en bO [u8 0] 32,dv en bO [u8 1] 32] | _=>[dv en bO [u8 0] 32,dv en bO [u8 1] 32,dv en bO [u8 2] 32])) rfl (λi hi=>?_) rfl (xI (by decide));rcases (show i=0∨i=1∨i=2 by omega) with rfl | rfl | rfl
 ·exact bd (d 0) rfl
 ·exact bd (d 1) rfl
 ·exact bd (d 2) rfl
def stS (t:zU):zB:=suS (zJi t)
theorem zPh (a0:0<=a) (a3:a<=3) (en:By):zY (stS (nwS a en)):=by
 have l:∀ (la c:By),(dv en la c 32).length<=32:=λla c=>by rw [dY _ _ _ _ (by decide)];decide
 refine ⟨rfl,λx hx=>?_,rfl,λx hx=>?_,l _ _,a0,a3,.inl rfl,⟨λ_=>rfl,λ_=>rfl⟩,zLn _,zDh.1,zDh.2,zJs.1,zJs.2,Q2 _,λx hx=>(by cases hx),List.nodup_nil,Q2 _,λx hx=>(by cases hx),lk0,lk0⟩
 ·have hx:x∈[dv en bO [u8 0] 32,dv en bO [u8 1] 32,dv en bO [u8 2] 32]:=hx;simp only [Q4,Q3,or_false] at hx;rcases hx with rfl | rfl | rfl<;>exact l _ _
 ·have hx:x∈([[],[],[],[]]:List By):=hx;simp only [Q4,Q3,or_false] at hx;rcases hx with rfl | rfl | rfl | rfl<;>exact Q2 _
structure Up (s:zB):Prop where
 ok:zY s
 up:s.Volatile.Started=true
theorem Up.sv (h:Up s):s.Stable.Saved.Banks=[]:=h.ok.sn.1 (h.ok.sn.2 h.up)
theorem yId (h:zY s):zY (stS s.Stable):=⟨h.sl,h.se,h.al,h.ae,h.en,h.a0,h.a3,.inl rfl,⟨λ_=>rfl,λ_=>rfl⟩,zLn _,zDh.1,zDh.2,zJs.1,zJs.2,h.il,h.ix,h.nd,h.kl,h.ky,lk0,lk0⟩
theorem zP4 {t:zU} (a0:0<=t.Active) (a3:t.Active<=3):tK (zJi t) 0=some (stS t,0):=(zKu (s:=zJi t) a0 a3 0 (.inl rfl)).1
theorem zMo (h:zY s):Def (kB s) Up:=by
 unfold kB;refine Q7 (λg=>Q1 ⟨h,g⟩) λ_=>?_;refine Q0 (P:=λr=>r=zJi s.Stable) (Q5 (zGy _).1 rfl) λr hr=>?_;subst hr;refine Q0 (P:=λr=>r=(stS s.Stable,0)) (Q5 (zP4 h.a0 h.a3) rfl) λr hr=>?_;subst hr;exact Q7 (λg=>by cases g) λ_=>Q1 ⟨yId h,rfl⟩
theorem yEt (h:Up s):kB s=some s:=by
 unfold kB;exact ct h.up rfl
theorem yBb (h:zY s) (k n m:Int) (b:By) (hb:b.length<2 ^ 40):Def (zCr s k n m b) zY:=by
 unfold zCr;refine Q0 (zMo h) λt ht=>?_;refine yF ?_ ?_
 ·refine Q0 (zW2 ht.ok _) λr hr=>?_;exact Q7 (λg=>Q1 (hr (eq_of_beq g)).1) λ_=>Q1 ht.ok
 ·refine Qa (Q0 (Qn (by simp;omega)) λb2 _=>?_);refine Q0 (zQm ht.ok _ _ _ b2) λq hq=>?_;exact Q0 (P:=λr=>zY r.1) (Q5 (zN9 ht.ok hq.l _) (zWq ht.ok q _).ok) λr hr=>Q1 hr
theorem zZu (h:zY s) {eF:By} (hb:b.length<2 ^ 40):Def (bM s eF b 10) Up:=by
 unfold bM;refine Q0 (P:=zY) ?_ λt ht=>Q0 (zMo ht) λr hr=>Q1 hr;refine Qi (λx=>0<=x.1/\x.1<=40/\zY x.2) (λx=>40 - x.1.toNat) (λx hx=>?_) ⟨(show (0:Int)<=0 by decide),(show (0:Int)<=40 by decide),h⟩ (show 40 - (0:Int).toNat<2 ^ 64 by decide);obtain ⟨i,t⟩:=x;obtain ⟨i0,i1,ht⟩:=hx;simp only at i0 i1 ht;unfold zAz;have e:Q6.wrap (i+2)=i+2:=yH (by omega) (by omega);have e1:Q6.wrap (i+1)=i+1:=yH (by omega) (by omega);have e3:Q6.wrap (i+3)=i+3:=yH (by omega) (by omega);have e30:Q6.wrap (3*10)=30:=by decide
 dsimp only;rw [e,e1,e3,e30];refine Q0 (P:=λc=>c=true->i+2<eF.length/\i<30) (Q7 (λg=>Q1 λg2=>⟨dT g,dT g2⟩) λ_=>Q1 λe=>by cases e) λc hcc=>?_;refine Q7 (λg=>?_) λ_=>Q1 ht;obtain ⟨c1,c2⟩:=hcc g;refine Q0 (Ql i0 (by omega)) λx _=>Q0 (Ql (by omega) (by omega)) λy _=>Q0 (Ql (by omega) c1) λz _=>?_;exact Q0 (yBb ht _ _ _ b hb) λu hu=>Q1 ⟨⟨by show 0<=i+3;omega,by show i+3<=40;omega,hu⟩,by show 40 - (i+3).toNat<40 - i.toNat;omega⟩
theorem zTo (active:Int) {eF:By} (hb:b.length<2 ^ 40):Def (oV active eF b) Up:=by
 obtain ⟨a0,a3⟩:=yMa active;unfold oV;refine Q0 (jL _) λen hen=>?_;refine Q0 (P:=λr=>r=(nwS (yX .i64 active 3) en,0)) (Q5 (zV8 hen a0 a3) rfl) λr hr=>?_;subst hr;refine Q0 (P:=λr=>r=zJi (nwS (yX .i64 active 3) en)) (Q5 (zGy _).1 rfl) λr hr=>?_;subst hr;refine Q0 (P:=λr=>r=(stS (nwS (yX .i64 active 3) en),0)) (Q5 (zP4 a0 a3) rfl) λr hr=>?_;subst hr;exact Q0 (zZu (zPh a0 a3 en) hb) λr hr=>Q1 hr
theorem yIi:∃ en:By,oV 2 [] []=some (stS (nwS 2 en)):=by
 obtain ⟨en,e,hen⟩:=jL [7];refine ⟨en,?_⟩;have a2:yX .i64 2 3=2:=by decide
 have u:Up (stS (nwS 2 en)):=⟨zPh (by decide) (by decide) en,rfl⟩;unfold oV;rw [a2];refine bd e (bd (zV8 hen (by decide) (by decide)) (bd (zGy _).1 (bd (zP4 (t:=nwS 2 en) (by show (0:Int)<=2;decide) (by show (2:Int)<=3;decide)) (bd (a:=stS (nwS 2 en)) ?_ rfl))));unfold bM;refine bd (a:=stS (nwS 2 en)) (yD1 ?_) (bd (yEt u) rfl);unfold zAz;exact bd (a:=false) (cf (by decide) rfl) rfl
set_option maxRecDepth 100000
def zTh (r:zD):By:=if r.Err≠0 then [u8 r.Err] else fB r.Nonces (fB r.Blobs (igs r.Ints [u8 r.Err,u8 (r.Ints.length:Int)]++[u8 (r.Blobs.length:Int)])++[u8 (r.Nonces.length:Int)])
theorem zP3:∀ (l:List By) (b:By),(fB l b).length<=b.length+2*l.length+(l.map (·.length)).sum
 | [],b=>by simp [fB]
 | x :: l,b=>by
  have:=zP3 l (xX b x);have h1:=rB b x x.length (Qh _);rw [fB];simp only [Qb,Qo,Qp];omega
theorem zM5 (l:List By) (i:Nat):((l.take i).map (·.length)).sum<=(l.map (·.length)).sum:=by
 induction l generalizing i with
 | nil=>simp
 | cons x l ih=>
  cases i with
  | zero=>simp
  | succ i=>have:=ih i;simp only [List.take_succ_cons,Qo,Qp];omega
theorem nsum {l:List By} (h1:l.length<=1) (h2:∀ x∈l,x.length<=16):(l.map (·.length)).sum<=16:=by
 match l,h1 with
 | [],_=>decide
 | [x],_=>have:=h2 x (by simp);simpa using this
theorem yKf (h:Rsp r):(∀ i,(igs (r.Ints.take i) [u8 r.Err,u8 (r.Ints.length:Int)]).length<=66)/\(∀ i,(fB (r.Blobs.take i) (igs r.Ints [u8 r.Err,u8 (r.Ints.length:Int)]++[u8 (r.Blobs.length:Int)])).length<=1583)/\(∀ i,(fB (r.Nonces.take i) (fB r.Blobs (igs r.Ints [u8 r.Err,u8 (r.Ints.length:Int)]++[u8 (r.Blobs.length:Int)])++[u8 (r.Nonces.length:Int)])).length<=1602):=by
 have hi:=h.i;have hb:=h.b;have ht:=h.t;have hn:=h.n;have ns:=nsum h.n h.m;have a1:∀ i,(igs (r.Ints.take i) [u8 r.Err,u8 (r.Ints.length:Int)]).length<=66:=λi=>by rw [aO,Qc];simp only [Qb,Qe];omega
 have a1':=a1 r.Ints.length;rw [Qd] at a1';have a2:∀ i,(fB (r.Blobs.take i) (igs r.Ints [u8 r.Err,u8 (r.Ints.length:Int)]++[u8 (r.Blobs.length:Int)])).length<=1583:=λi=>by
  have h1:=zP3 (r.Blobs.take i) (igs r.Ints [u8 r.Err,u8 (r.Ints.length:Int)]++[u8 (r.Blobs.length:Int)]);have h2:=zM5 r.Blobs i;rw [Q9,Qc] at h1;simp only [Qb,Qe] at h1;omega
 have a2':=a2 r.Blobs.length;rw [Qd] at a2';refine ⟨a1,a2,λi=>?_⟩;have h1:=zP3 (r.Nonces.take i) (fB r.Blobs (igs r.Ints [u8 r.Err,u8 (r.Ints.length:Int)]++[u8 (r.Blobs.length:Int)])++[u8 (r.Nonces.length:Int)]);have h2:=zM5 r.Nonces i;rw [Q9,Qc] at h1;simp only [Qb,Qe] at h1;omega
theorem yF5 (h:Rsp r):wV r=some (zTh r):=by
 obtain ⟨a1,a2,a3⟩:=yKf h;have a1':=a1 r.Ints.length;rw [Qd] at a1';have a2':=a2 r.Blobs.length;rw [Qd] at a2';have hi:=h.i;have hb:=h.b;have hn:=h.n;unfold wV zTh;by_cases g:r.Err=0
 case neg=>rw [if_pos g];exact ct (b1 g) rfl
 rw [if_neg (by simp [g])];have blobs:∀ (l:List By) (b:By),l.length<=8->(∀ i,(fB (l.take i) b).length<=1602)->zO (wY l) FU (b,0)=some (fB l b):=λl b hl hs=>
  kY l fB b (by omega) rfl (λi hi=>by
   have:=hs i;unfold wY;refine ct (decide_eq_true (by omega)) (bd (yR hi) (bd (hP _ _ (by omega)) ?_));rw [yM (by omega),zKi hi]) (λx=>by unfold wY;exact cf (decide_eq_false (by omega)) rfl)
 refine cf (b0 g) (bd (a:=[u8 r.Err,u8 (r.Ints.length:Int)]) rfl (bd (a:=igs r.Ints [u8 r.Err,u8 (r.Ints.length:Int)]) ?_ (bd ?_ rfl)))
 ·refine kY r.Ints igs _ (by omega) rfl (λi hi=>?_) (λx=>?_)
  ·have:=a1 i;unfold uQ;refine ct (decide_eq_true (by omega)) (bd (yR hi) (bd (vW _ 8 _ (by decide) (by decide) (by omega)) ?_));rw [yM (by omega),zEa hi]
  ·unfold uQ;exact cf (decide_eq_false (by omega)) rfl
 ·refine two (b:=(fB r.Blobs (igs r.Ints [u8 r.Err,u8 (r.Ints.length:Int)]++[u8 (r.Blobs.length:Int)]),1)) (c:=(fB r.Nonces (fB r.Blobs (igs r.Ints [u8 r.Err,u8 (r.Ints.length:Int)]++[u8 (r.Blobs.length:Int)])++[u8 (r.Nonces.length:Int)]),2)) ?_ ?_ rfl
  ·unfold uP;exact ct rfl (bd (a:=r.Blobs) rfl (bd (zZ (by simp;omega)) (bd (blobs _ _ hb λi=>by have:=a2 i;omega) rfl)))
  ·unfold uP;exact ct rfl (bd (a:=r.Nonces) rfl (bd (zZ (by simp;omega)) (bd (blobs _ _ (by omega) a3) rfl)))
def q4:zC:=⟨4,[],[],[],[]⟩
theorem dec4:eR [83,87,0,6,4,0]=some (q4,0):=by decide +kernel
theorem q4_l:RqL q4:=⟨by decide,by decide,by decide,by decide⟩
theorem exe4 (h:Up s):exe s 0 q4=m4 s:=by
 have c:ckV q4=0:=by decide +kernel
 unfold exe;rw [if_neg (by simp [c])];have e1:((q4.Code != 1)&&!s.Volatile.Started)=false:=by rw [h.up];rfl
 rw [e1];rfl
set_option maxRecDepth 100000
def qs:zC:=⟨1,[],[],[0],[]⟩
theorem qs_l:RqL qs:=⟨by decide,by decide,by decide,by decide⟩
theorem yMu (t:zB):exe t 0 qs=dn t (suS t) (suE t 0):=by
 have c:ckV qs=0:=by decide +kernel
 unfold exe;rw [if_neg (by simp [c])];rfl
theorem yKg {t:zB} (h:t.Volatile.Started=false) (hq:q.Code≠1) (c:ckV q=0):exe t 0 q=(t,rs 28):=by
 unfold exe;rw [if_neg (by simp [c])];have e:((q.Code != 1)&&!t.Volatile.Started)=true:=by rw [h,show (q.Code != 1)=true by simpa using hq];rfl
 rw [e];rfl
set_option maxRecDepth 100000
theorem zKp (s:zB) (h:q.Handles.length=0):oJ s q=some true:=by
 have e:((q.Handles.length:Int)==0)=true:=c0' (by omega);unfold oJ;rw [e];have l:zO (oY q) FU ()=some ():=by
  refine yC 0 (λ_=>()) rfl (λi hi=>absurd hi (Nat.not_lt_zero _)) ?_ (by decide);unfold oY;exact cf (decide_eq_false (by omega)) rfl
 exact bd l rfl
theorem zAx (h:zY s) (l:RqL q) (loc:Int) (c:(q.Code≠1/\s.Volatile.Started=false)∨q.Code=1∨q.Code=4):vP s loc q=some (exe s loc q):=by
 unfold vP exe;refine bd (zTq l) ?_;by_cases g:ckV q=0
 case neg=>rw [if_pos g];exact ct (b1 g) rfl
 rw [if_neg (show ¬ ckV q≠0 by simp [g])];have k:=zPw g;refine cf (b0 g) (bd (oO _ _) ?_);cases gl:decide (loc<0)||decide (4<loc)
 case true=>rfl
 refine cf rfl (bd (oA _ _) ?_);cases gs:(q.Code != 1)&&!s.Volatile.Started
 case true=>rfl
 have c:=c.resolve_left λe=>by
  rw [e.2,show (q.Code != 1)=true by simpa using e.1] at gs;cases gs
 obtain ⟨hh,ha⟩:q.Handles.length=0/\q.Auths.length=0:=by
  rcases c with e | e
  ·obtain ⟨a,b,_⟩:=cnt k e (a:=0) (b:=0) (i:=1) (n:=0) (by decide +kernel);exact ⟨a,b⟩
  ·obtain ⟨a,b,_⟩:=cnt k e (a:=0) (b:=0) (i:=0) (n:=0) (by decide +kernel);exact ⟨a,b⟩
 have ga:alw s q=true:=by
  unfold alw;rw [show ((q.Handles.length:Int)==0)=true from c0' (by omega)];rfl
 have al:=zZq k ga gs;rw [ga];refine cf rfl (bd (zKp s hh) (cf rfl ?_));simp only [cond_false,Bool.not_true];unfold ex1;rw [if_pos ha];obtain ⟨m1,m2⟩:=zS2 h k loc c;exact ct (c0' (by omega)) (bd m1 (tl4 (zOx h al k loc).n m2))
theorem zPq:gP=some true:=by
 obtain ⟨en,e⟩:=yIi;have u:Up (stS (nwS 2 en)):=⟨zPh (by decide) (by decide) en,rfl⟩;have ex:=exe4 u;have me:=zAx u.ok q4_l 0 (.inr (.inr rfl));rw [ex] at me;have mr:dK (stS (nwS 2 en)) 0 ([83,87,0,6,4,0]:By)=some ((m4 (stS (nwS 2 en))).1,zTh (m4 (stS (nwS 2 en))).2):=by
  unfold dK;have hr:=(zWq u.ok q4 0).rsp;rw [ex] at hr;exact bd dec4 (cf rfl (bd me (bd (yF5 hr) rfl)))
 have el:(zTh (m4 (stS (nwS 2 en))).2).length=36:=by
  unfold zTh;rw [if_neg (by simp [m4])];show (igs _ _++[_]++[_]).length=36;rw [Q9,Q9,aO];rfl
 have e0:idx (zTh (m4 (stS (nwS 2 en))).2) 0=some 0:=rfl;unfold gP;refine bd e (bd me (bd mr (bd (a:=true) ?_ rfl)));refine ct rfl (ct rfl (bd (a:=1) rfl (ct rfl (ct (by rw [el];rfl) (bd e0 rfl)))))
theorem zK5 (active:Int) {eF:By} (k n m:Int) (stopped:Bool):Def (uW active eF b k n m stopped) (· = true):=by
 unfold uW;refine Q0 (P:=λv=>v=true) (Q5 zPq rfl) λv hv=>?_;subst hv;refine Q7 (λg=>by cases g) λ_=>Q7 (λ_=>Q1 rfl) λhb=>?_;have hb:=dF hb;refine Q0 (zTo active (by omega)) λs hs=>Q0 (zQm hs.ok _ _ _ b) λq hq=>?_;refine Q0 (P:=λc=>c=false->q.Code≠1/\ckV q=0) ?_ λc hcc=>?_
 ·refine Q7 (λ_=>Q1 λe=>by cases e) λg=>?_;refine Q0 (P:=λr=>r=ckV q) (Q5 (zHc hq.l) rfl) λr hr=>Q1 λg2=>?_;exact ⟨by simpa using g,by rw [<- hr];simpa using g2⟩
 refine Q7 (λ_=>Q1 rfl) λg=>?_;obtain ⟨c1,c2⟩:=hcc g;refine Q0 (P:=λr=>r=zJi s.Stable) (Q5 (zGy _).1 rfl) λr hr=>?_;subst hr;refine Q0 (P:=λ(a,b,c,d,e,f,g,i,j)=>∃ t,t=zB.mk a (yE.mk b c (zE.mk [] d) e f g i j [] [])/\zY t/\t.Volatile.Started=false/\t.Volatile.Stopped=stopped) ?_ λt ht=>?_
 ·refine Q7 (λhs2=>?_) λhs2=>Q1 ⟨zJi s.Stable,rfl,yFu hs.ok hs.sv,rfl,by rw [hs2];rfl⟩;refine Q0 (P:=λr=>r=(sdS s 1,0)) (Q5 (zRr s 1).1 ?_) λr hr=>?_
  ·refine zZf ?_;unfold sdE;rw [hs.up];rfl
  subst hr;exact Q1 ⟨sdS s 1,rfl,zXq hs.ok 1,rfl,by rw [hs2];rfl⟩
 obtain ⟨a,b,c,d,e,f,g,i,j⟩:=t;obtain ⟨t,et,kt,u,v⟩:=ht;dsimp only;rw [<- et];refine Q0 (P:=λr=>r=(t,rs 28)) (Q5 (zAx kt hq.l 0 (.inl ⟨c1,u⟩)) (yKg u c1 c2)) λr hr=>?_;subst hr;refine Q0 (P:=λr=>r=dn t (suS t) (suE t 0)) (Q5 (zAx kt qs_l 0 (.inr (.inl rfl))) (yMu t)) λr hr=>?_;subst hr;have er:((dn t (suS t) (suE t 0)).2.Err==0)=!stopped:=by
  have e:suE t 0=bif stopped then 28 else 0:=by
   unfold suE;rw [u,v];cases stopped<;>rfl
  rw [e];cases stopped<;>rfl
 refine Q0 (P:=λr=>r=true) (Q5 (a:=true) (ct rfl (bd (zZ0 kt) (ct rfl ?_))) rfl) λr hr=>Q1 hr;rw [er];simp
theorem zJj (active:Int) (eF b:By) (k n m:Int) (stopped:Bool):uW active eF b k n m stopped=some true:=by
 obtain ⟨_,h,rfl⟩:=zK5 active (eF:=eF) (b:=b) k n m stopped;exact h
end Go.Proofs.TT
