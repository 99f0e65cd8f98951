/- ModuleStarted holds for all inputs -/
import Derived.Test.YtkalaoahbicflaaGreatDoorSZ36
set_option linter.all false
open List renaming length_cons -> Q0, length_nil -> Q3, length_append -> Q4, length_take -> Q5, take_length -> Q7, length_set -> Q8, mem_or_eq_of_mem_set -> Q9, mem_cons_of_mem -> Qb, all_eq_true -> Qc, filter_append -> Qd, take_add_one -> Qe, getElem_cons_succ -> Qf, not_mem_nil -> Qh, mem_of_mem_take -> Qi, filter_eq_self -> Qj, drop_drop -> Qk, mem_cons -> Ql, getElem_mem -> Qm, mem_append -> Qn, take_of_length_le -> Qo, replicate -> Qp, length_filter_le -> Qq, mem_iff_getElem -> Qr, take_succ_cons -> Qs, mem_map -> Qt, nodup_append -> Qu, length_drop -> Qx, map_append -> Qy, length_map -> Qz, mem_filter -> W0, map_cons -> W1
open Nat renaming zero_le -> Q1, le_refl -> Qw
open Int renaming eq_ofNat_of_zero_le -> Q2, toNat_natCast -> Q6
open Go.IntKind renaming i64 -> Qa, u64 -> Qv
open Bool renaming and_eq_true -> Qg
namespace Go.Proofs.TT
open Go Go.Sw
set_option maxRecDepth 100000
variable {b:By}{h:Int}{i k:Nat}{l:List By}{q:zC}{s:zB}{x:zR}{α β:Type}
structure AuOk (a:zM):Prop where
 s:I64 a.Session
 n:a.Nonce.length<2 ^ 20
 v:a.Value.length<2 ^ 20
structure mG (q:zC):Prop where
 hl:q.Handles.length<=64
 hi:∀ x∈q.Handles,I64 x
 al:q.Auths.length<=64
 au:∀ x∈q.Auths,AuOk x
 il:q.Ints.length<=64
 ii:∀ x∈q.Ints,I64 x
 bl:q.Blobs.length<=64
 bb:∀ x∈q.Blobs,x.length<2 ^ 16
def hnd (q:zC) (i:Nat):Int:=q.Handles.getD i 0
def au0:zM:=default
def aut (q:zC):zM:=q.Auths.getD 0 au0
theorem zDw (h:i<q.Handles.length):idx q.Handles (i:Int)=some (hnd q i):=vX h
theorem yJj (h:0<q.Auths.length):idx q.Auths 0=some (aut q):=vX (i:=0) h
theorem eZ (k:mG q) (h:i<q.Handles.length):I64 (hnd q i):=k.hi _ (zGh h)
theorem zFm (k:mG q) (h:0<q.Auths.length):AuOk (aut q):=k.au _ (zGh h)
def rdC (c:Int):Bool:=(c==24)||((c==28)||(c==18))
theorem zJw (c:Int):jE c=some (rdC c):=by unfold jE;exact bd b2 rfl
theorem zHo (r:Bool) (a b:Int):fY r a b=some (bif r then a else b):=by cases r<;>rfl
def fb2 (s:zB) (q:zC):Bool:=match ixf s (hnd q 1) with | some i=>yX .i64 (ixg s i).Attr (bif rdC q.Code then 16 else 32)==0 | none=>true
def fb1 (q:zC):Bool:=(hnd q 0==1)&&(decide (23<=q.Code)&&(decide (q.Code<=29)&&decide (1<(q.Handles.length:Int))))
def fbV (s:zB) (q:zC):Bool:=match obf s (hnd q 0) with
 | some i=>yX .i64 (obg s i).Public.Attr 1==0
 | none=>match ixf s (hnd q 0) with
  | some i=>yX .i64 (ixg s i).Attr (bif rdC q.Code then 1 else 2)==0
  | none=>bif fb1 q then fb2 s q else false
theorem yA4 (k:zY s) (kq:mG q) (h0:0<q.Handles.length):rF s q=some (!fbV s q):=by
 have hh:=eZ kq h0;unfold rF fbV;refine bd (zDw (i:=0) h0) (bd (zJw _) (bd (sK k hh) ?_));cases q1:obf s (hnd q 0) with
 | some i=>
  exact ct (nn i) (bd (a:=obg s i) (vX (by rw [k.ol];exact (cH k q1).1)) rfl)
 | none=>
  refine cf rfl (bd (vJ k hh) ?_);cases q2:ixf s (hnd q 0) with
  | some i=>exact ct (nn i) (bd (zLs (sC q2).1) (bd (zHo _ _ _) rfl))
  | none=>
   refine cf rfl (bd (oA' λ_=>oA' λ_=>oA _ _) ?_);show (bif fb1 q then _ else _)=_;cases g:fb1 q
   ·rfl
   ·have hl:1<q.Handles.length:=by
     unfold fb1 at g;simp only [Qg] at g;have:=dT g.2.2.2;omega
    refine ct rfl (bd (zDw (i:=1) hl) (bd (vJ k (eZ kq hl)) ?_));unfold fb2;cases q3:ixf s (hnd q 1) with
    | some j=>exact bd (ct (nn j) (bd (zLs (sC q3).1) (bd (zHo _ _ _) rfl))) rfl
    | none=>rfl
def lkV (s:zB) (h:Int):Bool:=bif h==3 then !decide (s.Stable.Lockout.Closed<=s.Volatile.Clock) else (fdV s h).1.protected_&&lkd s.Stable.Lockout s.Volatile.Clock
theorem zYc (k:zY s) (hh:I64 h):qS s h=some (lkV s h):=by
 unfold qS lkV;refine cc (λ_=>rfl) λ_=>?_;exact bd (bd (zGc k hh) (oA' λ_=>bd (yMm _ _) rfl)) rfl
def cpV (s:zB) (h:Int) (ok:Bool):zB×Int:=bif ok then (s,0) else (bif (fdV s h).1.protected_ then eA s (lF s.Stable.Lockout s.Volatile.Clock) else bif h==3 then eA s (lC s.Stable.Lockout s.Volatile.Clock) else s,9)
theorem zXy (k:zY s) (h:Int) (b:Bool):zY (cpV s h b).1:=by
 unfold cpV;cases b
 ·cases (fdV s h).1.protected_
  ·cases h==3
   ·exact k
   ·exact zEj k _
  ·exact zEj k _
 ·exact k
theorem zSa (k:zY s) (hh:I64 h) (b:Bool):nH s h b=some (cpV s h b):=by
 unfold nH cpV;cases b
 case true=>rfl
 refine cf rfl (bd (a:=bif (fdV s h).1.protected_ then eA s (lF s.Stable.Lockout s.Volatile.Clock) else bif h==3 then eA s (lC s.Stable.Lockout s.Volatile.Clock) else s) ?_ rfl);by_cases g:h=3
 ·subst g;rfl
 ·rw [c1' g];refine cf rfl (bd (zGc k hh) ?_);cases (fdV s h).1.protected_
  ·rfl
  ·exact ct rfl (bd (yMq _ _) rfl)
def nms (s:zB) (q:zC):List By:=q.Handles.map (rnm s)
def igs:List Int->By->By
 | [],b=>b
 | x :: l,b=>igs l (wU b 8 x)
def cat:List By->By->By
 | [],b=>b
 | x :: l,b=>cat l (b++x)
theorem aO:∀ (l:List Int) (b:By),(igs l b).length=b.length+8*l.length
 | [],b=>by simp [igs]
 | x :: l,b=>by rw [igs,aO l,yJ,Q0];omega
theorem zLg:∀ (l:List By) (b:By),(∀ x∈l,x.length<=32)->(cat l b).length<=b.length+32*l.length
 | [],b,_=>by simp [cat]
 | x :: l,b,h=>by
  have:=zLg l (b++x) (λy hy=>h y (Qb _ hy));have:=h x (by simp);rw [cat,Q0];simp only [Q4] at *;omega
theorem yAm (h:i<l.length):cat (l.take (i+1)) b=cat (l.take i) b++l[i]:=by
 induction l generalizing b i with
 | nil=>simp at h
 | cons x l ih=>
  cases i with
  | zero=>rfl
  | succ i=>
   simp only [Q0] at h;simp only [Qs,cat,Qf];exact ih (by omega)
theorem zEa {l:List Int} (h:i<l.length):igs (l.take (i+1)) b=wU (igs (l.take i) b) 8 l[i]:=by
 induction l generalizing b i with
 | nil=>simp at h
 | cons x l ih=>
  cases i with
  | zero=>rfl
  | succ i=>
   simp only [Q0] at h;simp only [Qs,igs,Qf];exact ih (by omega)
def dgF (l:List By) (q:zC):List By:=[[u8 q.Code],cat l [],igs q.Ints []]++q.Blobs
def dgV (l:List By) (q:zC):By:=hs 10 (dgF l q)
theorem yAk:∀ (l:List By),(∀ x∈l,x.length<2 ^ 20)->tot l<=l.length*(2 ^ 20+4)
 | [],_=>by simp [tot]
 | x :: l,h=>by
  have:=yAk l (λy hy=>h y (Qb _ hy));have:=h x (by simp);rw [aC,Q0];omega
theorem zOy (a b:List By):tot (a++b)=tot a+tot b:=by simp [tot]
theorem yFm (hl:∀ x∈l,x.length<=32) (h64:l.length<=64) (k:mG q):tot (dgF l q)<2 ^ 32/\(dgF l q).length<=67:=by
 have h1:=zLg l [] hl;have h2:=aO q.Ints [];have h3:=yAk q.Blobs (λx hx=>by have:=k.bb x hx;omega);have h4:=k.il;have h5:=k.bl;refine ⟨?_,by simp [dgF];omega⟩;unfold dgF;rw [zOy,aC,aC,aC];simp only [Q3,Q0] at *;have:tot []=0:=rfl;omega
theorem zHt (hl:∀ x∈l,x.length<=32) (h64:l.length<=64) (k:mG q):mT l q=some (dgV l q):=by
 have hc:∀ i,(cat (l.take i) []).length<=32*64:=λi=>by
  have:=zLg (l.take i) [] (λx hx=>hl x (Qi hx));simp only [Q5,Q3] at this;omega
 have hg:∀ i,(igs (q.Ints.take i) []).length<=8*64:=λi=>by
  have:=aO (q.Ints.take i) [];have:=k.il;simp only [Q5,Q3] at *;omega
 obtain ⟨t1,t2⟩:=yFm hl h64 k;have hil:=k.il;unfold mT;refine bd (a:=cat l []) ?_ (bd (a:=igs q.Ints []) ?_ (bd (zZ (by have:=k.bl;simp;omega)) (bd (fK 10 _ t1) (bd (dG _ (by have:=hC 10 (dgF l q);show (frm 10 (dgF l q)).length<_;omega)) rfl))))
 ·refine yC l.length (λi=>(cat (l.take i) [],(i:Int))) rfl (λi hi=>?_) ?_ (xI (by omega))
  ·unfold iN;have:=hl _ (Qm hi);have:=hc i;refine ct (decide_eq_true (by omega)) (bd (yR hi) (bd (zZ (by omega)) ?_));rw [yM (by omega),yAm hi]
  ·unfold iN;refine cf (decide_eq_false (by omega)) ?_;rw [Q7]
 ·refine yC q.Ints.length (λi=>(igs (q.Ints.take i) [],(i:Int))) rfl (λi hi=>?_) ?_ (xI (by omega))
  ·unfold iJ;have:=hg i;refine ct (decide_eq_true (by omega)) (bd (yR hi) (bd (vI _ 8 _ (by decide) (by decide) (by omega)) ?_));rw [yM (by omega),zEa hi]
  ·unfold iJ;refine cf (decide_eq_false (by omega)) ?_;rw [Q7]
def mcV (value d m c:By):By:=mc value (frm 10 [d,m,c])
theorem yF1 (value d m c:By) (hv:value.length<2 ^ 30) (hd:d.length<2 ^ 20) (hm:m.length<2 ^ 20) (hc:c.length<2 ^ 20):zDb value d m c=some (mcV value d m c):=
 bd (zTi 10 _ (by rw [zPx];omega)) (bd (zH4 _ _ (by omega) (by rw [hC,zPx];omega)) rfl)
theorem zNy (value d m c:By) (hv:value.length<2 ^ 30) (hd:d.length<2 ^ 20) (hm:m.length<2 ^ 20) (hc:c.length<2 ^ 20):bP value d m c=some (mcV value d m c):=
 bd (fK 10 _ (by rw [zPx];omega)) (bd (zKr _ _ (by omega) (by rw [hC,zPx];omega)) rfl)
theorem zRu (s:zB) (q:zC):∀ x∈nms s q,x.length<=32:=λx hx=>by
 obtain ⟨h,_,rfl⟩:=Qt.1 hx;exact zQs s h
theorem map_take {l:List α} {f:α->β} (h:i<l.length):(l.take (i+1)).map f=(l.take i).map f++[f l[i]]:=by
 rw [Qe,Qy,List.getElem?_eq_getElem h];rfl
theorem zJ7 (k:zY s) (kq:mG q):jY s q=some (nms s q):=by
 have hl:=kq.hl;unfold jY nms;refine bd (a:=q.Handles.map (rnm s)) (yC q.Handles.length (λi=>((q.Handles.take i).map (rnm s),(i:Int))) rfl (λi hi=>?_) ?_ (xI (by omega))) rfl
 ·unfold fU;refine ct (decide_eq_true (by omega)) (bd (yR hi) (bd (zQb k (kq.hi _ (Qm hi))) (bd (zZ (by simp;omega)) ?_)));rw [yM (by omega),map_take hi]
 ·unfold fU;refine cf (decide_eq_false (by omega)) ?_;rw [Q7]
set_option maxRecDepth 100000
def vl (s:zB) (q:zC):By:=(fdV s (hnd q 0)).1.value_
def byV (s:zB) (q:zC) (w:By):zB×Int:=bif fbV s q then (s,20) else bif lkV s (hnd q 0) then (s,10) else cpV s (hnd q 0) ((aut q).Value==w)
def wnt (s:zB) (q:zC) (x:zH):By:=mcV (vl s q) (dgV (nms s q) q) x.Nonce (aut q).Nonce
theorem yI9 (k:zY s) (kq:mG q) (ha:0<q.Auths.length) {x:zH} (hx:zId x):zDb (vl s q) (dgV (nms s q) q) x.Nonce (aut q).Nonce=some (wnt s q x)/\bP (vl s q) (dgV (nms s q) q) x.Nonce (aut q).Nonce=some (wnt s q x):=by
 have h1:(vl s q).length<=32:=(zWf k (hnd q 0)).1;have h2:(dgV (nms s q) q).length=32:=iK _ _;have h3:=hx.n;have h4:=(zFm kq ha).n;exact ⟨yF1 _ _ _ _ (by omega) (by omega) (by omega) (by omega),zNy _ _ _ _ (by omega) (by omega) (by omega) (by omega)⟩
def bpE (s:zB) (loc:Int) (q:zC) (x:zH):Int:=
 bif hrc (hnd q 0) then 8 else
 bif (match ixf s (hnd q 0) with | some i=>yX .i64 (ixg s i).Attr (bif rdC q.Code then 4 else 8)==0 | none=>false) then 20 else
 bif (((fdV s (hnd q 0)).1.policy_.length:Int)==0) then 11 else
 bif (x.Deadline != 0)&&decide (x.Deadline<=s.Volatile.Clock) then 15 else
 bif yX .i64 (xN .i64 x.Localities (Qv.wrap loc)) 1==0 then 13 else
 bif (x.Command != 0)&&(x.Command != q.Code) then 14 else
 bif (x.Updates != -1)&&(x.Updates != s.Volatile.Registers.Updates) then 12 else
 bif !(x.Digest==(fdV s (hnd q 0)).1.policy_) then 11 else 0
def byP (s:zB) (loc:Int) (q:zC) (x:zH):zB×Int:=
 if bpE s loc q x≠0 then (s,bpE s loc q x) else bif !x.AuthValue then (s,0) else bif lkV s (hnd q 0) then (s,10) else cpV s (hnd q 0) ((aut q).Value==vl s q)
theorem yDw (k:zY s) (kq:mG q) (h0:0<q.Handles.length) {loc:Int} {x:zH} (hx:zId x) :
  mM s loc q x=some (if bpE s loc q x=0 then (x.AuthValue,0) else (false,bpE s loc q x)):=by
 have hh:=eZ kq h0;unfold mM bpE;refine bd (zDw (i:=0) h0) (bd (oA _ _) ?_);show (bif hrc (hnd q 0) then _ else _)=_;cases hrc (hnd q 0)
 case true=>rfl
 refine cf rfl (bd (vJ k hh) (bd (a:=match ixf s (hnd q 0) with | some i=>yX .i64 (ixg s i).Attr (bif rdC q.Code then 4 else 8)==0 | none=>false) ?_ ?_))
 ·cases q1:ixf s (hnd q 0) with
  | some i=>exact ct (nn i) (bd (zLs (sC q1).1) (bd (zJw _) (bd (zHo _ _ _) rfl)))
  | none=>rfl
 cases (match ixf s (hnd q 0) with | some i=>yX .i64 (ixg s i).Attr (bif rdC q.Code then 4 else 8)==0 | none=>false:Bool)
 case true=>rfl
 refine cf rfl (bd (zJq k hh) ?_);cases (((fdV s (hnd q 0)).1.policy_.length:Int)==0)
 case true=>rfl
 refine cf rfl (bd (oA _ _) ?_);cases (x.Deadline != 0)&&decide (x.Deadline<=s.Volatile.Clock)
 case true=>rfl
 refine cf rfl (ltk ?_);cases yX .i64 (xN .i64 x.Localities (Qv.wrap loc)) 1==0
 case true=>rfl
 refine cf rfl (bd (oA _ _) ?_);cases (x.Command != 0)&&(x.Command != q.Code)
 case true=>rfl
 refine cf rfl (bd (oA _ _) ?_);cases (x.Updates != -1)&&(x.Updates != s.Volatile.Registers.Updates)
 case true=>rfl
 refine cf rfl (bd (qE _ _ (by have:=hx.d;omega)) ?_);cases x.Digest==(fdV s (hnd q 0)).1.policy_<;>rfl
def acV (s:zB) (loc:Int) (q:zC):zB×Int:=
 bif (aut q).Session==0 then byV s q (vl s q) else
 match ssf s (aut q).Session with
 | none=>(s,8)
 | some i=>bif (ssg s i).Kind==1 then byV s q (wnt s q (ssg s i)) else bif (ssg s i).Kind==2 then byP s loc q (ssg s i) else (s,8)
theorem yBz (k:zY s) (q:zC) (w:By):zY (byV s q w).1:=by
 unfold byV;cases fbV s q
 ·cases lkV s (hnd q 0)
  ·exact zXy k _ _
  ·exact k
 ·exact k
theorem yJc (k:zY s) (loc:Int) (q:zC):zY (acV s loc q).1:=by
 unfold acV;cases (aut q).Session==0
 ·cases ssf s (aut q).Session with
  | none=>exact k
  | some i=>
   show zY (bif (ssg s i).Kind==1 then byV s q (wnt s q (ssg s i)) else bif (ssg s i).Kind==2 then byP s loc q (ssg s i) else (s,8)).1;cases (ssg s i).Kind==1
   ·cases (ssg s i).Kind==2
    ·exact k
    ·show zY (byP s loc q (ssg s i)).1;unfold byP;split
     ·exact k
     ·cases (ssg s i).AuthValue
      ·exact k
      ·cases lkV s (hnd q 0)
       ·exact zXy k _ _
       ·exact k
   ·exact yBz k _ _
 ·exact yBz k _ _
theorem zMh (k:zY s) (kq:mG q) (h0:0<q.Handles.length) (ha:0<q.Auths.length) {o:Option By} {w:By} (ho:o=some w) :
  ((rF s q).bind λv=>bif !v then some (s,20) else (qS s (hnd q 0)).bind λv2=>bif v2 then some (s,10) else o.bind λw=>(yT (aut q).Value w).bind λv3=>(nH s (hnd q 0) v3).bind λp=>some (p.1,p.2))=some (byV s q w):=by
 have hh:=eZ kq h0;have hv:=(zFm kq ha).v;unfold byV;refine bd (yA4 k kq h0) ?_;cases fbV s q
 case true=>rfl
 refine cf rfl (bd (zYc k hh) ?_);cases lkV s (hnd q 0)
 case true=>rfl
 exact cf rfl (bd ho (bd (qE _ _ (by omega)) (bd (zSa k hh _) rfl)))
theorem zMv (k:zY s) (kq:mG q) (h0:0<q.Handles.length) (ha:0<q.Auths.length) (loc:Int) :
  dN s loc q=some (acV s loc q):=by
 have hh:=eZ kq h0;have hv:=(zFm kq ha).v;unfold dN acV;refine bd (zDw (i:=0) h0) (bd (yJj ha) (bd (zCc k (zFm kq ha).s) ?_));dsimp only;unfold bne;cases g:((aut q).Session==0)
 case true=>
  refine bd (a:=false) rfl (cf rfl (bd (zAy k hh) (bd (a:=false) rfl (cf rfl ?_))));exact zMh k kq h0 ha rfl
 unfold sfV;cases q1:ssf s (aut q).Session with
 | none=>rfl
 | some i=>
  obtain ⟨lt3,_,c⟩:=lW q1;have ok:=cM k lt3;have o3:=ok.k3;have o0:=ok.k0;refine bd (a:=(ssg s i).Kind==3) rfl ?_;dsimp only;by_cases h3:(ssg s i).Kind=3
  ·rw [c0' h3,c1' (show (ssg s i).Kind≠1 by omega),c1' (show (ssg s i).Kind≠2 by omega)];rfl
  rw [c1' h3];refine cf rfl (bd (zAy k hh) ?_);by_cases h2:(ssg s i).Kind=2
  ·rw [c0' h2,c1' (show (ssg s i).Kind≠1 by omega)];refine bd (a:=true) rfl (ct rfl (bd (yDw k kq h0 ok) ?_));simp only [cond_true,cond_false];unfold byP;by_cases g:bpE s loc q (ssg s i)=0
   ·rw [if_pos g,if_neg (by simp [g]:¬ bpE s loc q (ssg s i)≠0)];dsimp only;cases (ssg s i).AuthValue
    ·rfl
    ·refine bd (a:=false) rfl (cf rfl (bd (zYc k hh) ?_));cases lkV s (hnd q 0)
     case true=>rfl
     exact cf rfl (bd (qE _ _ (by omega)) (bd (zSa k hh _) rfl))
   ·rw [if_neg g,if_pos g];refine bd (a:=true) ?_ rfl;dsimp only;exact ct (by rw [c1' g];rfl) rfl
  ·have h1:(ssg s i).Kind=1:=by omega
   rw [c1' h2,c0' h1];refine bd (a:=false) rfl (cf rfl ?_);exact zMh k kq h0 ha (ct rfl (bd (zJ7 k kq) (bd (zHt (zRu s q) (by unfold nms;rw [Qz];exact kq.hl) kq) (bd (yI9 k kq ha ok).2 rfl))))
def afN (x:zH) (n:By):zH:=⟨x.Kind,n,x.Digest,x.Updates,x.Localities,x.Command,x.Deadline,x.AuthValue⟩
def afV (s:zB) (q:zC):zB×List By:=
 bif (aut q).Session==0 then (s,[]) else
 match ssf s (aut q).Session with
 | none=>(s,[])
 | some i=>bif (ssg s i).Kind==1 then (ptS (rnS s) i (afN (ssg s i) (rnB s 16)),[rnB s 16]) else (bif (ssg s i).Kind==2 then ptS s i ss0 else s,[])
theorem yI0 (k:zY s) (q:zC):zY (afV s q).1:=by
 unfold afV;cases (aut q).Session==0
 ·cases q1:ssf s (aut q).Session with
  | none=>exact k
  | some i=>
   have ok:=cM k (lW q1).1;show zY (bif (ssg s i).Kind==1 then (ptS (rnS s) i (afN (ssg s i) (rnB s 16)),[rnB s 16]) else (bif (ssg s i).Kind==2 then ptS s i ss0 else s,[])).1;cases (ssg s i).Kind==1
   ·show zY (bif (ssg s i).Kind==2 then ptS s i ss0 else s);cases (ssg s i).Kind==2
    ·exact k
    ·exact zD6 k zPr
   ·exact zD6 (zI1 k) ⟨ok.k0,ok.k3,by show (rnB s 16).length<=32;rw [zE9 _ _ (by decide)];decide,ok.d⟩
 ·exact k
theorem wk (e:h=768+(i:Int)) (hi:i<3):Qa.wrap (h - 768)=(i:Int):=by rw [yH (by omega) (by omega)];omega
theorem zO1 (k:zY s) (kq:mG q) (ha:0<q.Auths.length):gV s q=some (afV s q):=by
 unfold gV afV;refine bd (yJj ha) (bd (zCc k (zFm kq ha).s) ?_);dsimp only;cases (aut q).Session==0
 case true=>rfl
 unfold sfV;cases q1:ssf s (aut q).Session with
 | none=>rfl
 | some i=>
  obtain ⟨lt3,e,_⟩:=lW q1;refine bd (a:=false) rfl (cf rfl ?_);dsimp only;cases h1:((ssg s i).Kind==1)
  case true=>
   refine ct rfl (bd (zEv k 16).1 ?_);rw [wk e lt3];exact bd (zCq (zI1 k) lt3 _) rfl
  refine cf rfl (bd (a:=bif (ssg s i).Kind==2 then ptS s i ss0 else s) ?_ rfl);cases (ssg s i).Kind==2
  ·rfl
  ·refine ct rfl (bd (zJx k (zFm kq ha).s) ?_);unfold scV;rw [q1];rfl
set_option maxRecDepth 100000
def int (q:zC) (i:Nat):Int:=q.Ints.getD i 0
def blb (q:zC) (i:Nat):By:=q.Blobs.getD i []
theorem tN (h:i<q.Ints.length):idx q.Ints (i:Int)=some (int q i):=vX h
theorem pZ (h:i<q.Blobs.length):idx q.Blobs (i:Int)=some (blb q i):=vX h
theorem zFh (k:mG q) (h:i<q.Ints.length):I64 (int q i):=k.ii _ (zGh h)
theorem zA1 (k:mG q) (i:Nat):(blb q i).length<2 ^ 16:=by
 by_cases h:i<q.Blobs.length
 ·exact k.bb _ (zGh h)
 ·have:blb q i=[]:=by simp [blb,List.getD,List.getElem?_eq_none (by omega:q.Blobs.length<=i)]
  rw [this];decide
def rs (e:Int):zD:=⟨e,[],[],[]⟩
def frO (s:zB):Option Nat:=fst (λk=>(obg s k).Public.Kind==0) 3 0
def stO (s:zB) (k:Nat) (x:zR):zB:=yHw s (s.Volatile.Objects.set k x)
theorem zWz (h:zY s) (hx:zLm x):zY (stO s k x):=zZ5 h (by rw [Q8];exact h.ol) λy hy=>by
 rcases Q9 hy with hy | hy
 ·exact h.ob y hy
 ·rw [hy];exact hx
theorem zJf (h:zY s) (hi:i<3):idx s.Volatile.Objects (i:Int)=some (obg s i):=vX (by rw [h.ol];exact hi)
theorem zM0 (h:zY s):eO s=some (match frO s with | some k=>(k:Int) | none=>-1):=by
 have hl:=h.ol;unfold eO frO;refine bd (rY (λk=>(obg s k).Public.Kind==0) 3 (λk=>(k:Int)) (by decide) (λi hi=>?_) ?_) ?_
 ·unfold cZ;constructor
  ·intro g;exact ct (decide_eq_true (by omega)) (bd (zJf h hi) (ct g rfl))
  ·intro g;refine ct (decide_eq_true (by omega)) (bd (zJf h hi) (cf g ?_));rw [yM (by omega)]
 ·unfold cZ;exact cf (decide_eq_false (by omega)) rfl
 ·cases fst (λk=>(obg s k).Public.Kind==0) 3 0<;>rfl
theorem zFt (e:frO s=some k):k<3:=by obtain ⟨_,a,_,_⟩:=qJ e;omega
theorem zIi (h:zY s) (hk:k<3) (x:zR):fO s (k:Int) x=some (stO s k x):=by
 unfold fO;exact bd (ap0 (by rw [h.ol];decide)) (zBv (by rw [h.ol];exact hk) _)
def tpl (q:zC):zL:=⟨int q 0,int q 1,int q 2,blb q 0,[]⟩
theorem zQ5 (hi:2<q.Ints.length) (hb:0<q.Blobs.length):nP q=some (tpl q):=bd (tN (i:=0) (by omega)) (bd (tN (i:=1) (by omega)) (bd (tN (i:=2) hi) (bd (pZ (i:=0) hb) rfl)))
def pmL:By:=[112,114,105,109,97,114,121]
def pmC (q:zC):By:=frm 0 [[u8 (int q 0),u8 (int q 1),u8 (int q 2)],blb q 0,blb q 2]
theorem yFz (k:mG q):tot [[u8 (int q 0),u8 (int q 1),u8 (int q 2)],blb q 0,blb q 2]<2 ^ 19:=by
 have:=zA1 k 0;have:=zA1 k 2;rw [zPx];simp only [Q0,Q3];omega
def pmM (s:zB) (q:zC):zL×zJ×Int:=mkO (dv (s.Stable.Seeds.getD (hnd q 0).toNat []) pmL (pmC q) 32) (tpl q) (blb q 1) (blb q 2)
def ldR (s:zB) (x:zR) (b:List By):zB×zD:=match frO s with | some k=>(stO s k x,⟨0,[512+(k:Int)],b,[]⟩) | none=>(s,rs 25)
def prV (s:zB) (q:zC):zB×zD:=if (pmM s q).2.2≠0 then (s,rs (pmM s q).2.2) else ldR s ⟨(pmM s q).1,(pmM s q).2.1,hnd q 0⟩ [enc (pmM s q).1,nm (pmM s q).1]
theorem yBt (h:zY s) (i:Nat):(s.Stable.Seeds.getD i []).length<=32:=by
 by_cases g:i<s.Stable.Seeds.length
 ·exact h.se _ (zGh g)
 ·have:s.Stable.Seeds.getD i []=[]:=by simp [List.getD,List.getElem?_eq_none (by omega:s.Stable.Seeds.length<=i)]
  rw [this];decide
theorem yAw {p:zL} {t:zJ} (hp:mW p) (ht:zBb t) (h:Int):zLm ⟨p,t,h⟩:=⟨.inr ⟨hp,ht⟩,λe=>by have:=hp.k1;have e:p.Kind=0:=e;omega⟩
theorem zMd (h:zY s) (k:mG q) (h0:0<q.Handles.length) (hi:2<q.Ints.length) (hb:2<q.Blobs.length) (g0:0<=hnd q 0) (g2:hnd q 0<=2):oI s q=some (prV s q):=by
 have ht:=yFz k;have hl:=yBt h (hnd q 0).toNat;obtain ⟨n,hn⟩:=Q2 g0;unfold oI prV;refine bd (zQ5 hi (by omega)) (bd (pZ (i:=2) hb) (bd (fK 0 _ (by show tot [[u8 (int q 0),u8 (int q 1),u8 (int q 2)],blb q 0,blb q 2]<_;omega)) (bd (zDw (i:=0) h0) (bd (a:=s.Stable.Seeds.getD (hnd q 0).toNat []) ?_ (bd (uG _ _ _ 32 (by omega) (by decide) (by rw [hC];show 1+tot [[u8 (int q 0),u8 (int q 1),u8 (int q 2)],blb q 0,blb q 2]<_;omega)) (bd (pZ (i:=1) (by omega)) (bd (pZ (i:=2) hb) (bd (zHw _ _ _ _ (by rw [dY _ _ _ _ (by decide)];decide)) ?_))))))))
 ·rw [hn];exact vX (by rw [h.sl];omega)
 show (bif ((pmM s q).2.2 != 0) then _ else _)=_;by_cases e:(pmM s q).2.2=0
 ·rw [if_neg (by simp [e])];refine cf (b0 e) (bd (zM0 h) ?_);unfold ldR;cases q1:frO s with
  | some j=>
   dsimp only;refine cf (ng j) (bd (zDw (i:=0) h0) (bd (zIi h (zFt q1) _) (bd (rM _) (bd (rW _) ?_))));rw [yH (by have:=zFt q1;omega) (by have:=zFt q1;omega)];rfl
  | none=>rfl
 ·rw [if_pos e];exact ct (b1 e) rfl
def yKa (s:zB) (q:zC):Nat:=(obf s (hnd q 0)).getD 0
def pob (s:zB) (q:zC):zR:=obg s (yKa s q)
theorem zYm (e:(obf s (hnd q 0)).isSome=true):obf s (hnd q 0)=some (yKa s q):=by
 unfold yKa;cases q1:obf s (hnd q 0) with
 | none=>rw [q1] at e;cases e
 | some i=>rfl
theorem zEg (h:zY s) (k:mG q) (h0:0<q.Handles.length) (e:(obf s (hnd q 0)).isSome=true):sU s q=some (pob s q):=by
 have e2:=zYm e;refine bd (zDw (i:=0) h0) (bd (sK h (eZ k h0)) ?_);rw [e2];exact bd (zJf h (cH h e2).1) rfl
def crM (s:zB) (q:zC):zL×zJ×Int:=mkO (rnB s 32) (tpl q) (blb q 1) (blb q 2)
def crO (s:zB) (q:zC):zB×zD:=bif (pob s q).Public.Kind != 1 then (s,rs 19) else if (crM s q).2.2≠0 then (s,rs (crM s q).2.2) else (rnS s,⟨0,[],[enc (crM s q).1,zH3 (pob s q).Sensitive (crM s q).1 (crM s q).2.1],[]⟩)
theorem zB8 (h:zY s) (e:(obf s (hnd q 0)).isSome=true):mW (pob s q).Public/\zBb (pob s q).Sensitive:=(cH h (zYm e)).2
theorem zPy (h:zY s) (k:mG q) (h0:0<q.Handles.length) (hi:2<q.Ints.length) (hb:2<q.Blobs.length) (e:(obf s (hnd q 0)).isSome=true):mI s q=some (crO s q):=by
 have hs:=(zB8 h e).2.sd;unfold mI crO;refine bd (zEg h k h0 e) ?_;cases (pob s q).Public.Kind != 1
 case true=>rfl
 refine cf rfl (bd (zEv h 32).1 (bd (zQ5 hi (by omega)) (bd (pZ (i:=1) (by omega)) (bd (pZ (i:=2) hb) (bd (zHw _ _ _ _ (by rw [zE9 _ _ (by decide)];decide)) ?_)))));show (bif ((crM s q).2.2 != 0) then _ else _)=_;simp only [cond_false];by_cases e:(crM s q).2.2=0
 ·rw [if_neg (by simp [e])];exact cf (b0 e) (bd (rM _) (bd (zGb _ _ _ (by omega)) rfl))
 ·rw [if_pos e];exact ct (b1 e) rfl
def ldD (q:zC):zL×Int:=zUg (blb q 0)
def ldW (s:zB) (q:zC):zJ×Int:=zN0 (pob s q).Sensitive (ldD q).1 (blb q 1)
def ldV (s:zB) (q:zC):zB×zD:=bif (pob s q).Public.Kind != 1 then (s,rs 19) else if (ldD q).2≠0 then (s,rs (ldD q).2) else if (ldW s q).2≠0 then (s,rs (ldW s q).2) else ldR s ⟨(ldD q).1,(ldW s q).1,(pob s q).Hierarchy⟩ [nm (ldD q).1]
theorem zOv (e:(ldD q).2=0):mW (ldD q).1:=zW4 (yGl (blb q 0) e)
theorem zZt (h:zY s) (k:mG q) (h0:0<q.Handles.length) (hb:1<q.Blobs.length) (e:(obf s (hnd q 0)).isSome=true):eU s q=some (ldV s q):=by
 have hs:=(zB8 h e).2.sd;have l0:=zA1 k 0;have l1:=zA1 k 1;unfold eU ldV;refine bd (zEg h k h0 e) ?_;cases (pob s q).Public.Kind != 1
 case true=>rfl
 refine cf rfl (bd (pZ (i:=0) (by omega)) (bd (zN5 _ (by omega)) ?_));show (bif ((ldD q).2 != 0) then _ else _)=_;simp only [cond_false];by_cases e:(ldD q).2=0
 case neg=>rw [if_pos (show (ldD q).2≠0 from e)];exact ct (b1 e) rfl
 have ok:=zOv e;rw [if_neg (show ¬ (ldD q).2≠0 by simp [e])];refine cf (b0 e) (bd (pZ (i:=1) hb) (bd (zTc (pob s q).Sensitive (ldD q).1 _ (by omega) ok.h0 ok.h3 (by omega)) ?_));show (bif ((ldW s q).2 != 0) then _ else _)=_;by_cases e2:(ldW s q).2=0
 case neg=>rw [if_pos e2];exact ct (b1 e2) rfl
 rw [if_neg (show ¬ (ldW s q).2≠0 by simp [e2])];refine cf (b0 e2) (bd (zM0 h) ?_);unfold ldR;cases q1:frO s with
 | some j=>
  dsimp only;refine cf (ng j) (bd (zIi h (zFt q1) _) (bd (rW _) ?_));rw [yH (by have:=zFt q1;omega) (by have:=zFt q1;omega)];rfl
 | none=>rfl
def flV (s:zB) (q:zC):zB×zD:=match obf s (int q 0) with | some i=>(stO s i ob0,rs 0) | none=>match ssf s (int q 0) with | some i=>(ptS s i ss0,rs 0) | none=>(s,rs 7)
theorem yI6 (h:zY s) (q:zC):zY (flV s q).1:=by
 unfold flV;cases obf s (int q 0) with
 | some i=>exact zWz h zZh
 | none=>
  cases ssf s (int q 0) with
  | some i=>exact zD6 h zPr
  | none=>exact h
theorem zTe (h:zY s) (k:mG q) (hi:0<q.Ints.length):dH s q=some (flV s q):=by
 have ik:=zFh k hi;unfold dH flV;refine bd (tN (i:=0) hi) (bd (sK h ik) ?_);cases q1:obf s (int q 0) with
 | some i=>exact ct (nn i) (bd (zIi h (cH h q1).1 _) rfl)
 | none=>
  refine cf rfl (bd (tN (i:=0) hi) (bd (zJx h ik) ?_));unfold scV;cases ssf s (int q 0)<;>rfl
def usV (s:zB) (q:zC):zB×zD:=bif (pob s q).Public.Kind != 3 then (s,rs 19) else (s,⟨0,[],[(pob s q).Sensitive.Data],[]⟩)
theorem zO6 (h:zY s) (k:mG q) (h0:0<q.Handles.length) (e:(obf s (hnd q 0)).isSome=true):nQ s q=some (usV s q):=by
 have hd:=(zB8 h e).2.dt;unfold nQ usV;refine bd (zEg h k h0 e) ?_;cases (pob s q).Public.Kind != 3
 ·exact cf rfl (bd (mN _ (by omega)) rfl)
 ·rfl
set_option maxRecDepth 100000
def kyg (s:zB) (i:Nat):yD:=s.Stable.Keys.getD i default
def kyf (s:zB) (u:By):Option Nat:=fst (λi=>(kyg s i).Unique==u) s.Stable.Keys.length 0
theorem zQf (h:zY s) (g:i<s.Stable.Keys.length):yIj (kyg s i):=h.ky _ (zGh g)
theorem zT4 (z:i<s.Stable.Keys.length):idx s.Stable.Keys (i:Int)=some (kyg s i):=vX z
def lfV (s:zB) (x:zR):zB×Int×Int:=match kyf s x.Public.Unique with
 | some i=>if ((2 ^ x.Public.Height.toNat:Nat):Int)<=(kyg s i).Used then (s,0,26) else (zSk s (s.Stable.Keys.set i ⟨(kyg s i).Unique,Qa.wrap ((kyg s i).Used+1)⟩),(kyg s i).Used,0)
 | none=>if 8<=s.Stable.Keys.length then (s,0,25) else (zSk s (s.Stable.Keys++[⟨x.Public.Unique,1⟩]),0,0)
theorem zPp (h:zY s) (A:mW x.Public):zY (lfV s x).1/\((lfV s x).2.2=0->0<=(lfV s x).2.1/\(lfV s x).2.1<((2 ^ x.Public.Height.toNat:Nat):Int)):=by
 have K:=yGo (h:=x.Public.Height.toNat) (by have:=A.h3;have:=A.h0;omega);have J:0<2 ^ x.Public.Height.toNat:=Nat.two_pow_pos _;have D:x.Public.Unique.length<=32:=by rw [A.un];split<;>decide
 unfold lfV;cases q:kyf s x.Public.Unique with
 | some i=>
  obtain ⟨_,a,_,_⟩:=qJ q;have E:=zQf h (i:=i) (by omega);have L:=E.c8;have I:=E.c0;by_cases g:((2 ^ x.Public.Height.toNat:Nat):Int)<=(kyg s i).Used
  ·simp only [if_pos g];exact ⟨h,λe=>by cases e⟩
  ·simp only [if_neg g];refine ⟨zMr h (by rw [Q8];exact h.kl) λy z=>?_,λ_=>⟨I,by omega⟩⟩;rcases Q9 z with z | z
   ·exact h.ky y z
   ·rw [z];refine ⟨E.u,?_,?_⟩
    ·show 0<=Qa.wrap _;rw [yH (by omega) (by omega)];omega
    ·show Qa.wrap _<=8;rw [yH (by omega) (by omega)];omega
 | none=>
  by_cases g:8<=s.Stable.Keys.length
  ·simp only [if_pos g];exact ⟨h,λe=>by cases e⟩
  ·simp only [if_neg g];refine ⟨zMr h (by rw [Q4];simp only [Q0,Q3];omega) λy z=>?_,λ_=>⟨Int.le_refl _,by omega⟩⟩;rcases Qn.1 z with z | z
   ·exact h.ky y z
   ·simp only [Ql,Qh,or_false] at z;rw [z];exact ⟨D,(show (0:Int)<=1 by decide),(show (1:Int)<=8 by decide)⟩
theorem zX4 {l:List α} {d:α} (F:k<l.length) (g:α->α->α) (f:List α->Option β) :
  ((ixN l.length (k:Int)).bind λH=>(l[H]?).bind λI=>(ixN l.length (k:Int)).bind λD=>(l[D]?).bind λv2=>(wL l D (g I v2)).bind λG=>f G)=f (l.set k (g (l.getD k d) (l.getD k d))):=by
 have e:ixN l.length (k)=some k:=by simp [ixN];omega
 have E:l[k]? = some (l.getD k d):=by simp [F]
 exact bd e (bd E (bd e (bd E (bd (by simp [wL];omega) rfl))))
theorem yB2 (h:zY s) (G:mW x.Public):zAb s x=some (lfV s x):=by
 have R:=h.kl;obtain ⟨n,J⟩:=Q2 G.h0;have N:n<=3:=by have:=G.h3;omega
 have hs:rX .i64 1 (Qv.wrap x.Public.Height)=((2 ^ x.Public.Height.toNat:Nat):Int):=by rw [J];exact zTm n N
 unfold zAb lfV kyf;refine bd (rY (λi=>(kyg s i).Unique==x.Public.Unique) s.Stable.Keys.length (λi=>if ((2 ^ x.Public.Height.toNat:Nat):Int)<=(kyg s i).Used then (s,0,26) else (zSk s (s.Stable.Keys.set i ⟨(kyg s i).Unique,Qa.wrap ((kyg s i).Used+1)⟩),(kyg s i).Used,0)) (by omega) (λi F=>?_) ?_) ?_
 ·have L:=zQf h F;have e:yT (kyg s i).Unique x.Public.Unique=some ((kyg s i).Unique==x.Public.Unique):=qE _ _ (by have:=L.u;omega);unfold cY;constructor
  ·intro g;refine ct (decide_eq_true (by omega)) (bd (zT4 F) (bd e ?_));rw [g,hs];refine cf rfl ?_;by_cases q:((2 ^ x.Public.Height.toNat:Nat):Int)<=(kyg s i).Used
   ·rw [if_pos q];exact ct (decide_eq_true q) rfl
   ·rw [if_neg q];exact cf (decide_eq_false q) (bd (ap0 (by omega)) (zX4 (d:=default) F (λI v2=>yD.mk v2.Unique (Qa.wrap (I.Used+1))) _))
  ·intro g;refine ct (decide_eq_true (by omega)) (bd (zT4 F) (bd e ?_));rw [g,yM (by omega)];rfl
 ·unfold cY;exact cf (decide_eq_false (by omega)) rfl
 ·cases fst (λi=>(kyg s i).Unique==x.Public.Unique) s.Stable.Keys.length 0 with
  | some i=>rfl
  | none=>
   dsimp only;by_cases g:8<=s.Stable.Keys.length
   ·rw [if_pos g];exact ct (decide_eq_true (by omega)) rfl
   ·rw [if_neg g];exact cf (decide_eq_false (by omega)) (bd (ap0 (by omega)) (bd (zZ (by simp;omega)) rfl))
def sgV (s:zB) (x:zR) (m:By):zB×By×Int:=if (lfV s x).2.2≠0 then (s,[],(lfV s x).2.2) else ((lfV s x).1,sig x.Sensitive.Seed x.Public.Height.toNat (lfV s x).2.1.toNat m,0)
theorem yJb (h:zY s) (g:mW x.Public) (m:By):zY (sgV s x m).1:=by
 unfold sgV;split
 ·exact h
 ·exact (zPp h g).1
theorem zSd (h:zY s) (z:mW x.Public) (hs:zBb x.Sensitive) {m:By} (F:m.length<2 ^ 31):eW s x m=some (sgV s x m):=by
 have H:=hs.sd;obtain ⟨_,c⟩:=zPp h z;unfold eW sgV;refine bd (yB2 h z) ?_;generalize lfV s x=r at c;obtain ⟨t,l,e⟩:=r;by_cases g:e=0
 ·subst g;obtain ⟨c0,c1⟩:=c rfl;have c1:l<((2 ^ x.Public.Height.toNat:Nat):Int):=c1;obtain ⟨n,A⟩:=Q2 z.h0;obtain ⟨k,rfl⟩:=Q2 c0;have G:n<=3:=by have:=z.h3;omega
  have E:=zMp x.Sensitive.Seed n k m (by omega) G (by rw [A,Q6] at c1;omega) F;rw [<- A] at E;refine cf rfl (bd E ?_);rw [A];rfl
 ·rw [if_pos g];exact ct (b1 g) rfl
def snE (s:zB) (q:zC) (r:Bool):Int:=bif (pob s q).Public.Kind != 2 then 19 else bif !((yX .i64 (pob s q).Public.Attr 4 != 0)==r) then 20 else bif decide (128<((blb q 0).length:Int)) then 4 else 0
def snR (s:zB) (q:zC) (m:By) (f:By->List By):zB×zD:=if (sgV s (pob s q) m).2.2≠0 then (s,rs (sgV s (pob s q) m).2.2) else ((sgV s (pob s q) m).1,⟨0,[],f (sgV s (pob s q) m).2.1,[]⟩)
def snV (s:zB) (q:zC):zB×zD:=if snE s q false≠0 then (s,rs (snE s q false)) else snR s q (blb q 0) λx=>[x]
theorem yLf (s:zB) (q:zC):snE s q false=bif (pob s q).Public.Kind != 2 then 19 else bif yX .i64 (pob s q).Public.Attr 4 != 0 then 20 else bif decide (128<((blb q 0).length:Int)) then 4 else 0:=by
 unfold snE;simp
theorem yHb (s:zB) (q:zC):snE s q true=bif (pob s q).Public.Kind != 2 then 19 else bif yX .i64 (pob s q).Public.Attr 4==0 then 20 else bif decide (128<((blb q 0).length:Int)) then 4 else 0:=by
 unfold snE bne;simp
theorem zUo (h:zY s) (k:mG q) (J:0<q.Handles.length) (H:0<q.Blobs.length) (e:(obf s (hnd q 0)).isSome=true):eM s q=some (snV s q):=by
 obtain ⟨I,L⟩:=zB8 h e;unfold eM snV;rw [yLf];refine bd (zEg h k J e) ?_;cases (pob s q).Public.Kind != 2
 case true=>rfl
 cases yX .i64 _ 4 != 0
 case true=>rfl
 refine cf rfl (bd (pZ (i:=0) H) ?_);cases decide (128<((blb q 0).length:Int))
 case true=>rfl
 refine cf rfl (bd (pZ (i:=0) H) (bd (zSd h I L (by have:=zA1 k 0;omega)) ?_));unfold snR;by_cases E:(sgV s (pob s q) (blb q 0)).2.2=0
 ·simp_all
 ·rw [if_pos E];exact ct (b1 E) rfl
def aQ:By:=[83,87,81,49]
def at1 (a:wJ):By:=wU (wU (wU (xX (xX aQ a.Key) a.Nonce) 8 a.Resets) 8 a.Restarts) 8 a.Clock
def at2 (a:wJ):By:=wU (at1 a++[if a.Safe=true then 1 else 0]) 8 a.Updates
def atV (a:wJ):By:=wU (wU (at2 a) 2 a.Selection.a0) 2 a.Selection.a1++a.Digest
theorem zSn (a:wJ):(at1 a).length<=131102:=by
 have z:=wW aQ a.Key;have A:=wW (xX aQ a.Key) a.Nonce;have:aQ.length=4:=rfl;unfold at1;rw [yJ,yJ,yJ];omega
theorem zQ6 (a:wJ):(at2 a).length<=131111:=by
 have:=zSn a;unfold at2;rw [yJ];simp_all
theorem yDv (a:wJ) (z:a.Digest.length<=32):(atV a).length<=131147:=by
 have:=zQ6 a;unfold atV;rw [Q4,yJ,yJ];omega
theorem yIc (a:wJ) (hd:a.Digest.length<=32):gZ a=some (atV a):=by
 have h1:=wW aQ a.Key;have h2:=wW (xX aQ a.Key) a.Nonce;have h3:=zSn a;have h4:=zQ6 a;have:aQ.length=4:=rfl;unfold gZ;refine bd (a:=aQ) rfl (bd (tG _ _ (by omega)) (bd (tG _ _ (by omega)) (bd (vI _ 8 _ (by decide) (by decide) (by omega)) (bd (vI _ 8 _ (by decide) (by decide) (by rw [yJ];omega)) (bd (vI _ 8 _ (by decide) (by decide) (by rw [yJ,yJ];omega)) (bd (a:=if a.Safe=true then 1 else 0) (by cases a.Safe<;>rfl) (bd (zZ (show ((at1 a).length+_)*1<=_ by simp only [Q0,Q3];omega)) ?_)))))));refine bd (a:=at2 a) ?_ (bd (vI _ 2 _ (by decide) (by decide) (by omega)) (bd (vI _ 2 _ (by decide) (by decide) (by rw [yJ];omega)) (bd (zZ (by rw [yJ,yJ];omega)) rfl)));have e:[u8 (if a.Safe=true then 1 else 0)]=[if a.Safe=true then (1:UInt8) else 0]:=by cases a.Safe<;>decide
 rw [e];exact vI _ 8 _ (by decide) (by decide) (by rw [Q4];show (at1 a).length+_<_;simp only [Q0,Q3];omega)
def qtD (s:zB) (q:zC):By×Int:=rdV s.Volatile.Registers ⟨int q 0,int q 1⟩
def qtA (s:zB) (q:zC):wJ:=⟨nm (pob s q).Public,blb q 0,s.Stable.Resets,s.Stable.Restarts,s.Volatile.Clock,s.Volatile.Safe,s.Volatile.Registers.Updates,⟨int q 0,int q 1⟩,(qtD s q).1⟩
def qtV (s:zB) (q:zC):zB×zD:=if snE s q true≠0 then (s,rs (snE s q true)) else if (qtD s q).2≠0 then (s,rs (qtD s q).2) else snR s q (atV (qtA s q)) λx=>[atV (qtA s q),x]
theorem zTb (h:zY s) (k:mG q) (U:0<q.Handles.length) (R:1<q.Ints.length) (K:0<q.Blobs.length) (e:(obf s (hnd q 0)).isSome=true):jW s q=some (qtV s q):=by
 obtain ⟨S,L⟩:=zB8 h e;have D:(qtA s q).Digest.length<=32:=zQt _ _;have N:=yDv (qtA s q) D;unfold jW qtV;rw [yHb];refine bd (zEg h k U e) ?_;cases (pob s q).Public.Kind != 2
 case true=>rfl
 refine cf rfl ?_;cases yX .i64 (pob s q).Public.Attr 4==0
 case true=>rfl
 refine cf rfl (bd (pZ (i:=0) K) ?_);cases decide (128<((blb q 0).length:Int))
 case true=>rfl
 refine cf rfl (bd (rW _) (bd (pZ (i:=0) K) (bd (tN (i:=0) (by omega)) (bd (tN (i:=1) R) (bd (zBp h.rg _) ?_)))));by_cases J:(qtD s q).2=0
 case neg=>rw [if_pos (show (qtD s q).2≠0 from J)];exact ct (b1 J) rfl
 rw [if_neg (show ¬ (qtD s q).2≠0 by simp [J])];refine cf (b0 J) (bd (yIc (qtA s q) D) (bd (zSd h S L (by omega)) ?_));unfold snR;by_cases F:(sgV s (pob s q) (atV (qtA s q))).2.2=0
 ·simp_all
 ·rw [if_pos F];exact ct (b1 F) rfl
end Go.Proofs.TT
namespace Go.Sw
open Go
theorem zB6 {α:Type} (l:List α) (p:α->Bool) {step:Bool×Int->Option ((Bool×Int) ⊕ Bool)} (G:l.length<2 ^ 40) (F:∀ i (h:i<l.length) f,step (f,(i:Int))=some (.inl (f&&p l[i],((i+1:Nat):Int)))) (D:∀ f,step (f,(l.length:Int))=some (.inr f)) (f:Bool):zO step FU (f,0)=some (f&&l.all p):=by
 refine yC l.length (λi=>(f&&(l.take i).all p,(i:Int))) (by simp) (λi z=>?_) ?_ (xI (by omega))
 ·rw [F i z,Go.Proofs.TT.all_take z,Bool.and_assoc]
 ·rw [D,Q7]
theorem zBo {α R:Type} (l:List α) (d:α) (p:α->Bool) {step:Int->Option (Int ⊕ (R ⊕ Unit))} {v:R} (I:l.length<2 ^ 40) (H:∀ i (h:i<l.length),step (i:Int)=some (bif p (l.getD i d) then .inl ((i+1:Nat):Int) else .inr (.inl v))) (K:step (l.length:Int)=some (.inr (.inr ()))):zO step FU 0=some (bif l.all p then .inr () else .inl v):=by
 have e:=Go.Proofs.TT.fst_any l d (λx=>!p x);rw [rY _ l.length (λ_=>v) I (λi F=>⟨λg=>?_,λg=>?_⟩) K]
 ·have J:l.all p=!l.any (λx=>!p x):=by rw [List.not_any_eq_all_not];simp
  rw [J,<- e];cases fst _ l.length 0<;>rfl
 ·simp_all
 simp_all
end Go.Sw
namespace Go.Proofs.TT
open Go Go.Sw
set_option maxRecDepth 100000
variable {b:By}{e f:Int}{i:List Int}{m:Int}{n:Nat}{q:zC}{s t u:zB}{x:By}
def shT:List (A4 Int×Bool):=(List.range 34).map λ(n:Nat)=>(jS (n:Int)).getD (⟨0,0,0,0⟩,false)
def shD:A4 Int×Bool:=(⟨0,0,0,0⟩,false)
def shp (c:Int):A4 Int×Bool:=if 0<=c/\c<=33 then shT.getD c.toNat shD else shD
theorem yHv:∀ n:Fin 34,jS (n.val:Int)=some (shT.getD n.val shD)/\oH (n.val:Int)=some ((shT.getD n.val shD).1.a0,(shT.getD n.val shD).1.a1,(shT.getD n.val shD).1.a2,(shT.getD n.val shD).1.a3,(shT.getD n.val shD).2):=by decide +kernel
theorem yBy:∀ i:Fin 32,0<=(tZ.getD i.val default).code_/\(tZ.getD i.val default).code_<=33:=by decide +kernel
theorem zTt (c:Int):jS c=some (shp c):=by
 unfold shp;by_cases h:0<=c/\c<=33
 ·rw [if_pos h];obtain ⟨n,rfl⟩:=Q2 h.1;exact (yHv ⟨n,by omega⟩).1
 ·rw [if_neg h];refine bd rfl (bd (ckT rfl) (bd (a:=true) ?_ rfl));by_cases g:c<0
  ·exact ct (decide_eq_true g) rfl
  ·exact cf (decide_eq_false g) (ct (decide_eq_true (by omega)) rfl)
theorem zTn (c:Int):oH c=some ((shp c).1.a0,(shp c).1.a1,(shp c).1.a2,(shp c).1.a3,(shp c).2):=by
 unfold shp;by_cases h:0<=c/\c<=33
 ·rw [if_pos h];obtain ⟨n,rfl⟩:=Q2 h.1;exact (yHv ⟨n,by omega⟩).2
 ·rw [if_neg h];refine bd (a:=.inr ()) (yC 32 (λi=>(i:Int)) rfl (λi A=>?_) rfl (xI (by decide))) rfl;have E:=yBy ⟨i,A⟩;refine ct (decide_eq_true (by omega)) (bd (vX (d:=default) (show i<tZ.length from A)) (cf (c1' (λe=>h ?_)) ?_))
  ·rw [<- e];exact E
  ·rw [yM (by omega)]
def wrd (n:Int):Bool:=decide (0<=n)&&decide (n<=65535)
def inr (n:Int):Bool:=decide (0<=n)&&decide (n<=1099511627776)
def cnb (n want:Int):Bool:=(n==want)||(decide (want<0)&&decide (n<=8))
def auL (a:zM):Bool:=decide ((a.Nonce.length:Int)<=128)&&decide ((a.Value.length:Int)<=128)
def blL (b:By):Bool:=decide ((b.length:Int)<=1024)
def fH:List Int->By->By
 | [],b=>b
 | x :: l,b=>fH l (wU b 2 x)
def fA:List zM->By->By
 | [],b=>b
 | x :: l,b=>fA l (xX (xX (wU b 2 x.Session) x.Nonce) x.Value)
def fB:List By->By->By
 | [],b=>b
 | x :: l,b=>fB l (xX b x)
def fm0 (q:zC):By:=fB q.Blobs (igs q.Ints (fA q.Auths (fH q.Handles [83,87,0,0,u8 q.Code]))++[u8 (q.Blobs.length:Int)])
def zK8 (q:zC):Bool:=((q.Handles.length:Int)==(shp q.Code).1.a0)&&(((q.Auths.length:Int)==(shp q.Code).1.a1)&&(((q.Ints.length:Int)==(shp q.Code).1.a2)&&cnb (q.Blobs.length:Int) (shp q.Code).1.a3))
def zFy (q:zC):Bool:=((zK8 q&&q.Handles.all wrd)&&q.Auths.all (λa=>wrd a.Session))&&q.Ints.all inr
def zDx (q:zC):Bool:=q.Auths.all auL&&q.Blobs.all blL
def ckV (q:zC):Int:=bif !(shp q.Code).2 then 6 else bif !zFy q then 1 else bif !zDx q||decide (2048<((fm0 q).length:Int)) then 4 else 0
structure RqL (q:zC):Prop where
 h:q.Handles.length<2 ^ 40
 a:q.Auths.length<2 ^ 40
 i:q.Ints.length<2 ^ 40
 b:q.Blobs.length<2 ^ 40
theorem zIa (n:Int):hY n=some (wrd n):=by exact bd (oA _ _) rfl
theorem zMi (n:Int):hK n=some (wrd n):=zIa n
theorem yGc (n g:Int):oR n g=some (cnb n g):=by
 exact bd (oO' λ_=>oA _ _) rfl
theorem yLb (c:Int):(shp c).1.a3<0->(shp c).1.a3=-1:=by
 unfold shp;by_cases h:0<=c/\c<=33
 ·rw [if_pos h];obtain ⟨n,rfl⟩:=Q2 h.1;have A:∀ n:Fin 34,(shT.getD n.val shD).1.a3<0->(shT.getD n.val shD).1.a3=-1:=by decide +kernel
  exact A ⟨n,by omega⟩
 ·rw [if_neg h];decide
theorem zXf (n:Nat) (c:Int):zDt (shp c).1.a3 (n:Int)=some (cnb (n:Int) (shp c).1.a3):=by
 refine bd (oO' λ_=>?_) rfl;by_cases h:(shp c).1.a3=-1
 ·simp_all
 ·have:=λq=>h (yLb c q);rw [decide_eq_false this];exact cf (c1' h) rfl
theorem zGw (h:zFy q=true):zK8 q=true/\(∀ x∈q.Handles,0<=x/\x<=65535)/\(∀ a∈q.Auths,0<=a.Session/\a.Session<=65535)/\(∀ x∈q.Ints,0<=x/\x<=1099511627776):=by
 unfold zFy at h;simp only [Qg] at h;obtain ⟨⟨⟨A,F⟩,G⟩,E⟩:=h;refine ⟨A,λx z=>?_,λa D=>?_,λx z=>?_⟩
 ·have:=Qc.1 F x z;unfold wrd at this;simp_all
 ·have:=Qc.1 G a D;unfold wrd at this;simp at this;exact this
 ·have:=Qc.1 E x z;unfold inr at this;simp_all
theorem zQq (h:zDx q=true):(∀ a∈q.Auths,a.Nonce.length<=128/\a.Value.length<=128)/\(∀ b∈q.Blobs,b.length<=1024):=by
 unfold zDx at h;simp only [Qg] at h;refine ⟨λa A=>?_,λb z=>?_⟩
 ·have:=Qc.1 h.1 a A;unfold auL at this;simp at this;omega
 ·have:=Qc.1 h.2 b z;unfold blL at this;simp at this;omega
theorem yL9 (c:Int):(shp c).1.a0<=2/\(shp c).1.a1<=1/\(shp c).1.a2<=6/\(shp c).1.a3<=3:=by
 unfold shp;by_cases h:0<=c/\c<=33
 ·rw [if_pos h];obtain ⟨n,rfl⟩:=Q2 h.1;have z:∀ n:Fin 34,(shT.getD n.val shD).1.a0<=2/\(shT.getD n.val shD).1.a1<=1/\(shT.getD n.val shD).1.a2<=6/\(shT.getD n.val shD).1.a3<=3:=by decide +kernel
  exact z ⟨n,by omega⟩
 ·rw [if_neg h];decide
theorem zRz (h:zK8 q=true):(q.Handles.length:Int)=(shp q.Code).1.a0/\(q.Auths.length:Int)=(shp q.Code).1.a1/\(q.Ints.length:Int)=(shp q.Code).1.a2/\((q.Blobs.length:Int)=(shp q.Code).1.a3∨((shp q.Code).1.a3<0/\q.Blobs.length<=8)):=by
 unfold zK8 cnb at h;simp only [Qg,Bool.or_eq_true,beq_iff_eq,decide_eq_true_eq] at h;omega
theorem zG1 (h:zK8 q=true):q.Handles.length<=2/\q.Auths.length<=1/\q.Ints.length<=6/\q.Blobs.length<=8:=by
 have:=zRz h;have:=yL9 q.Code;omega
theorem zLx:∀ (l:List Int) (b:By),(fH l b).length=b.length+2*l.length
 | [],b=>by rfl
 | x :: l,b=>by rw [fH,zLx l,yJ,Q0];omega
theorem rB (b x:By) (n:Nat) (h:x.length<=n):(xX b x).length<=b.length+2+n:=by
 unfold xX;simp only [Q4,yJ,Q5];omega
theorem zZm:∀ (l:List zM) (b:By),(∀ a∈l,a.Nonce.length<=128/\a.Value.length<=128)->(fA l b).length<=b.length+262*l.length
 | [],b,_=>by simp [fA]
 | x :: l,b,h=>by
  have A:=h x (by simp);have:=zZm l (xX (xX (wU b 2 x.Session) x.Nonce) x.Value) (λy D=>h y (Qb _ D));have G:=rB (wU b 2 x.Session) _ 128 A.1;have F:=rB (xX (wU b 2 x.Session) x.Nonce) _ _ A.2;have E:=yJ b 2 x.Session;rw [fA,Q0];omega
theorem zZl:∀ (l:List By) (b:By),(∀ x∈l,x.length<=1024)->(fB l b).length<=b.length+1026*l.length
 | [],b,_=>by simp [fB]
 | x :: l,b,h=>by
  have:=zZl l (xX b x) (λy A=>h y (Qb _ A));have D:=rB b x _ (h x (by simp));rw [fB,Q0];omega
theorem zSr {l:List Int} {i:Nat} (h:i<l.length):fH (l.take (i+1)) b=wU (fH (l.take i) b) 2 l[i]:=by
 induction l generalizing b i with
 | nil=>simp at h
 | cons x l E=>
  cases i with
  | zero=>rfl
  | succ i=>
   exact E _
theorem zSf {l:List zM} {i:Nat} (h:i<l.length):fA (l.take (i+1)) b=xX (xX (wU (fA (l.take i) b) 2 l[i].Session) l[i].Nonce) l[i].Value:=by
 induction l generalizing b i with
 | nil=>simp at h
 | cons x l G=>
  cases i with
  | zero=>rfl
  | succ i=>
   exact G _
theorem zKi {l:List By} {i:Nat} (h:i<l.length):fB (l.take (i+1)) b=xX (fB (l.take i) b) l[i]:=by
 induction l generalizing b i with
 | nil=>simp at h
 | cons x l E=>
  cases i with
  | zero=>rfl
  | succ i=>
   exact E _
theorem kY {α:Type} (l:List α) (F:List α->By->By) (b:By) {step:By×Int->Option ((By×Int) ⊕ By)} (G:l.length<2 ^ 40) (A:F [] b=b) (hs:∀ i (h:i<l.length),step (F (l.take i) b,(i:Int))=some (.inl (F (l.take (i+1)) b,((i+1:Nat):Int)))) (E:∀ x,step (x,(l.length:Int))=some (.inr x)):zO step FU (b,0)=some (F l b):=by
 refine yC _ _ (by simp [A]) (λi D=>hs i D) ?_ (xI (by omega));simp_all
def hd5 (q:zC):By:=[83,87,0,0,u8 q.Code]
theorem yHj (I:zFy q=true) (G:zDx q=true):(∀ i,(fH (q.Handles.take i) (hd5 q)).length<=9)/\(∀ i,(fA (q.Auths.take i) (fH q.Handles (hd5 q))).length<=271)/\(∀ i,(igs (q.Ints.take i) (fA q.Auths (fH q.Handles (hd5 q)))).length<=319)/\(∀ i,(fB (q.Blobs.take i) (igs q.Ints (fA q.Auths (fH q.Handles (hd5 q)))++[u8 (q.Blobs.length:Int)])).length<=8528):=by
 obtain ⟨H,_,_,_⟩:=zGw I;obtain ⟨K,b1⟩:=zQq G;obtain ⟨N,L,R,S⟩:=zG1 H;have T:(hd5 q).length=5:=rfl;have s1:∀ i,(fH (q.Handles.take i) (hd5 q)).length<=9:=λi=>by rw [zLx,Q5];omega
 have E:=zLx q.Handles (hd5 q);have s2:∀ i,(fA (q.Auths.take i) (fH q.Handles (hd5 q))).length<=271:=λi=>by
  have:=zZm (q.Auths.take i) (fH q.Handles (hd5 q)) (λa A=>K a (Qi A));rw [Q5] at this;omega
 have J:(fA q.Auths (fH q.Handles (hd5 q))).length<=271:=by have:=s2 q.Auths.length;rwa [Q7] at this
 have D:∀ i,(igs (q.Ints.take i) (fA q.Auths (fH q.Handles (hd5 q)))).length<=319:=λi=>by rw [aO,Q5];omega
 have F:=by have:=D q.Ints.length;rwa [Q7] at this
 refine ⟨s1,s2,D,λi=>?_⟩;have:=zZl (q.Blobs.take i) (igs q.Ints (fA q.Auths (fH q.Handles (hd5 q)))++[u8 (q.Blobs.length:Int)]) (λa A=>b1 a (Qi A));rw [Q5,Q4] at this;simp only [Q0,Q3] at this;omega
theorem zMl (q:zC):5<=(fm0 q).length:=by
 have A:∀ (l:List zM) (b:By),b.length<=(fA l b).length:=by
  intro l;induction l with
  | nil=>intro b;exact Qw _
  | cons x l E=>intro b;have:=E (xX (xX (wU b 2 x.Session) x.Nonce) x.Value);rw [fA];unfold xX at *;simp only [Q4,yJ] at *;omega
 have z:∀ (l:List By) (b:By),b.length<=(fB l b).length:=by
  intro l;induction l with
  | nil=>intro b;exact Qw _
  | cons x l E=>intro b;have:=E (xX b x);rw [fB];unfold xX at *;simp only [Q4,yJ] at *;omega
 have G:=z q.Blobs (igs q.Ints (fA q.Auths (fH q.Handles [83,87,0,0,u8 q.Code]))++[u8 (q.Blobs.length:Int)]);have J:=A q.Auths (fH q.Handles [83,87,0,0,u8 q.Code]);have I:=zLx q.Handles [83,87,0,0,u8 q.Code];have H:=aO q.Ints (fA q.Auths (fH q.Handles [83,87,0,0,u8 q.Code]));unfold fm0;rw [Q4] at G;simp only [Q0,Q3] at *;omega
theorem zZ2 (J:zFy q=true) (L:zDx q=true):∃ b,zAd q=some b/\b.length=(fm0 q).length:=by
 obtain ⟨s1,s2,I,R⟩:=yHj J L;obtain ⟨K,_,_,_⟩:=zGw J;obtain ⟨l1,S,l3,l4⟩:=zG1 K;have N:(igs q.Ints (fA q.Auths (fH q.Handles (hd5 q)))).length<=319:=by have:=I q.Ints.length;rwa [Q7] at this
 have T:=zMl q;refine ⟨((fm0 q).set 2 (u8 (xN .i64 ((fm0 q).length:Int) 8))).set 3 (u8 ((fm0 q).length:Int)),?_,by simp⟩;unfold zAd;refine bd (a:=fH q.Handles (hd5 q)) ?_ (bd (a:=fA q.Auths (fH q.Handles (hd5 q))) ?_ (bd (a:=igs q.Ints (fA q.Auths (fH q.Handles (hd5 q)))) ?_ (bd (zZ (by simp;omega)) (bd (a:=fm0 q) ?_ ?_))))
 ·refine kY q.Handles fH (hd5 q) (by omega) rfl (λi z=>?_) (λx=>?_)
  ·unfold dZ;have:=s1 i;refine ct (decide_eq_true (by omega)) (bd (yR z) (bd (vI _ 2 _ (by decide) (by decide) (by omega)) ?_));rw [yM (by omega),zSr z]
  ·unfold dZ;exact cf (decide_eq_false (by omega)) rfl
 ·refine kY q.Auths fA _ (by omega) rfl (λi z=>?_) (λx=>?_)
  ·unfold cS;have:=s2 i;have hn:=yJ (fA (q.Auths.take i) (fH q.Handles (hd5 q))) 2 q.Auths[i].Session;have hb:=wW (wU (fA (q.Auths.take i) (fH q.Handles (hd5 q))) 2 q.Auths[i].Session) q.Auths[i].Nonce;refine ct (decide_eq_true (by omega)) (bd (yR z) (bd (vI _ 2 _ (by decide) (by decide) (by omega)) (bd (yR z) (bd (tG _ _ (by omega)) (bd (yR z) (bd (tG _ _ (by omega)) ?_))))));rw [yM (by omega),zSf z]
  ·unfold cS;exact cf (decide_eq_false (by omega)) rfl
 ·refine kY q.Ints igs _ (by omega) rfl (λi z=>?_) (λx=>?_)
  ·unfold cV;have:=I i;refine ct (decide_eq_true (by omega)) (bd (yR z) (bd (vI _ 8 _ (by decide) (by decide) (by omega)) ?_));rw [yM (by omega),zEa z]
  ·unfold cV;exact cf (decide_eq_false (by omega)) rfl
 ·refine kY q.Blobs fB _ (by omega) rfl (λi z=>?_) (λx=>?_)
  ·unfold dW;have:=R i;refine ct (decide_eq_true (by omega)) (bd (yR z) (bd (tG _ _ (by omega)) ?_));rw [yM (by omega),zKi z]
  ·unfold dW;exact cf (decide_eq_false (by omega)) rfl
 ·refine bd (a:=2) (by simp [ixN];omega) (bd (a:=(fm0 q).set 2 (u8 (xN .i64 ((fm0 q).length:Int) 8))) (by simp [wL];omega) (bd (a:=3) (by simp [ixN];omega) (bd (a:=((fm0 q).set 2 (u8 (xN .i64 ((fm0 q).length:Int) 8))).set 3 (u8 ((fm0 q).length:Int))) (by simp [wL];omega) rfl)))
theorem zTu (H:zFy q=true) (K:zDx q=true):∃ b,kP q=some b/\b.length=(fm0 q).length:=by
 obtain ⟨s1,s2,F,J⟩:=yHj H K;obtain ⟨L,_,_,_⟩:=zGw H;obtain ⟨W,S,R,V⟩:=zG1 L;have I:(igs q.Ints (fA q.Auths (fH q.Handles (hd5 q)))).length<=319:=by have:=F q.Ints.length;rwa [Q7] at this
 have T:=zMl q;refine ⟨cpA (fm0 q) 2 2 (wU [] 2 ((fm0 q).length:Int)),?_,zRj (zJu (by omega)) rfl⟩;unfold kP;refine bd (ckT rfl) (bd (a:=wQ) rfl (bd (a:=hd5 q) rfl (bd (a:=fH q.Handles (hd5 q)) ?_ (bd (a:=fA q.Auths (fH q.Handles (hd5 q))) ?_ (bd (a:=igs q.Ints (fA q.Auths (fH q.Handles (hd5 q)))) ?_ (bd (zZ (by simp;omega)) (bd (a:=fm0 q) ?_ ?_)))))))
 ·refine kY q.Handles fH (hd5 q) (by omega) rfl (λi z=>?_) (λx=>?_)
  ·unfold kE;have:=s1 i;refine ct (decide_eq_true (by omega)) (bd (yR z) (bd (vW _ 2 _ (by decide) (by decide) (by omega)) ?_));rw [yM (by omega),zSr z]
  ·unfold kE;exact cf (decide_eq_false (by omega)) rfl
 ·refine kY q.Auths fA _ (by omega) rfl (λi z=>?_) (λx=>?_)
  ·unfold lN;have:=s2 i;have U:=yJ (fA (q.Auths.take i) (fH q.Handles (hd5 q))) 2 q.Auths[i].Session;have N:=wW (wU (fA (q.Auths.take i) (fH q.Handles (hd5 q))) 2 q.Auths[i].Session) q.Auths[i].Nonce;refine ct (decide_eq_true (by omega)) (bd (yR z) (bd (vW _ 2 _ (by decide) (by decide) (by omega)) (bd (hP _ _ (by omega)) (bd (hP _ _ (by omega)) ?_))));rw [yM (by omega),zSf z]
  ·unfold lN;exact cf (decide_eq_false (by omega)) rfl
 ·refine kY q.Ints igs _ (by omega) rfl (λi z=>?_) (λx=>?_)
  ·unfold lJ;have:=F i;refine ct (decide_eq_true (by omega)) (bd (yR z) (bd (vW _ 8 _ (by decide) (by decide) (by omega)) ?_));rw [yM (by omega),zEa z]
  ·unfold lJ;exact cf (decide_eq_false (by omega)) rfl
 ·refine kY q.Blobs fB _ (by omega) rfl (λi z=>?_) (λx=>?_)
  ·unfold kA;have:=J i;refine ct (decide_eq_true (by omega)) (bd (yR z) (bd (hP _ _ (by omega)) ?_));rw [yM (by omega),zKi z]
  ·unfold kA;exact cf (decide_eq_false (by omega)) rfl
 ·exact bd (ckT (zJu (by omega))) (bd (vW [] 2 _ (by decide) (by decide) (by decide)) (bd (ckT (zJu (by omega))) rfl))
set_option maxRecDepth 100000
theorem zTq (k:RqL q):kG q=some (ckV q):=by
 have kh:=k.h;have ka:=k.a;have ki:=k.i;have kb:=k.b;unfold kG ckV;refine bd (zTn _) ?_;dsimp only;cases (shp q.Code).2
 case false=>rfl
 refine cf rfl (bd (a:=zK8 q) (oA' λ_=>oA' λ_=>oA' λ_=>bd (yGc _ _) rfl) ?_);refine bd (zB6 q.Handles wrd kh (λi hi f=>?_) (λf=>?_) _) ?_
 ·unfold mX;refine ct (decide_eq_true (by omega)) (bd (yR hi) (bd (oA' λ_=>bd (zIa _) rfl) ?_));rw [yM (by omega)]
 ·unfold mX;exact cf (decide_eq_false (by omega)) rfl
 refine bd (zB6 q.Auths (λa=>wrd a.Session) ka (λi hi f=>?_) (λf=>?_) _) ?_
 ·unfold lH;refine ct (decide_eq_true (by omega)) (bd (yR hi) (bd (oA' λ_=>bd (zIa _) rfl) ?_));rw [yM (by omega)]
 ·unfold lH;exact cf (decide_eq_false (by omega)) rfl
 refine bd (zB6 q.Ints inr ki (λi hi f=>?_) (λf=>?_) _) ?_
 ·unfold kF;refine ct (decide_eq_true (by omega)) (bd (yR hi) (bd (oA' λ_=>oA _ _) ?_));rw [yM (by omega)];rfl
 ·unfold kF;exact cf (decide_eq_false (by omega)) rfl
 show (bif !zFy q then _ else (zO (qW q) FU (zFy q,0)).bind _)=_;cases h2:zFy q
 case false=>rfl
 refine cf rfl ?_;refine bd (zB6 q.Auths auL ka (λi hi f=>?_) (λf=>?_) _) ?_
 ·unfold qW;refine ct (decide_eq_true (by omega)) (bd (yR hi) (bd (oA' λ_=>oA _ _) ?_));rw [yM (by omega)];rfl
 ·unfold qW;exact cf (decide_eq_false (by omega)) rfl
 refine bd (zB6 q.Blobs blL kb (λi hi f=>?_) (λf=>?_) _) ?_
 ·unfold mY;refine ct (decide_eq_true (by omega)) (bd (yR hi) (bd (oA _ _) ?_));rw [yM (by omega)];rfl
 ·unfold mY;exact cf (decide_eq_false (by omega)) rfl
 rw [Bool.true_and];show Option.bind (bif !zDx q then _ else _) _=_;cases h3:zDx q
 case false=>rfl
 obtain ⟨b,e,hl⟩:=zTu h2 h3;refine bd (a:=decide (2048<((fm0 q).length:Int))) (cf rfl (bd e (by rw [hl]))) ?_;simp only [Bool.not_true,cond_false,Bool.false_or];cases decide (2048<((fm0 q).length:Int))<;>rfl
theorem yBq (a b:Bool):(!(a&&b))=(!a||!b):=by cases a<;>rfl
theorem zHc (k:RqL q):jV q=some (ckV q):=by
 have kh:=k.h;have ka:=k.a;have ki:=k.i;have kb:=k.b;unfold jV ckV;refine bd (zTt _) ?_;dsimp only;cases (shp q.Code).2
 case false=>rfl
 refine cf rfl (bd (a:=!zK8 q) ?_ ?_)
 ·unfold zK8;rw [yBq,yBq,yBq];exact oO' λ_=>oO' λ_=>oO' λ_=>bd (zXf _ _) rfl
 unfold zFy;cases h1:zK8 q
 case false=>rfl
 refine cf rfl (bd (zBo q.Handles 0 wrd kh (v:=(1:Int)) (λi hi=>?_) ?_) ?_)
 ·unfold fV;refine ct (decide_eq_true (by omega)) (bd (vX (d:=0) hi) (bd (zMi _) ?_));rw [yM (by omega)];cases wrd (q.Handles.getD i 0)<;>rfl
 ·unfold fV;exact cf (decide_eq_false (by omega)) rfl
 cases g1:q.Handles.all wrd
 case false=>rfl
 refine bd (zBo q.Auths default (λa=>wrd a.Session) ka (v:=(1:Int)) (λi hi=>?_) ?_) ?_
 ·unfold eY;refine ct (decide_eq_true (by omega)) (bd (vX (d:=default) hi) (bd (zMi _) ?_));rw [yM (by omega)];cases wrd (q.Auths.getD i default).Session<;>rfl
 ·unfold eY;exact cf (decide_eq_false (by omega)) rfl
 cases g2:q.Auths.all (λa=>wrd a.Session)
 case false=>rfl
 refine bd (zBo q.Ints 0 inr ki (v:=(1:Int)) (λi hi=>?_) ?_) ?_
 ·unfold fW;refine ct (decide_eq_true (by omega)) (bd (a:=!inr (q.Ints.getD i 0)) (bd (vX (d:=0) hi) ?_) ?_)
  ·have e:(!inr (q.Ints.getD i 0))=(decide (q.Ints.getD i 0<0)||decide (1099511627776<q.Ints.getD i 0)):=by
    unfold inr;rw [yBq,<- decide_not,<- decide_not];exact congr (congrArg _ (decide_eq_decide.2 (by omega))) (decide_eq_decide.2 (by omega))
   rw [e];exact oO' λ_=>bd (vX (d:=0) hi) rfl
  ·rw [yM (by omega)];cases inr (q.Ints.getD i 0)<;>rfl
 ·unfold fW;exact cf (decide_eq_false (by omega)) rfl
 cases g3:q.Ints.all inr
 case false=>rfl
 have h2:zFy q=true:=by unfold zFy;rw [h1,g1,g2,g3];rfl
 show ((zA0 q).bind λv=>bif v then some 4 else some 0)=some (bif !zDx q||decide (2048<((fm0 q).length:Int)) then 4 else 0);refine bd (a:=!zDx q||decide (2048<((fm0 q).length:Int))) ?_ (by cases !zDx q||decide (2048<((fm0 q).length:Int))<;>rfl);unfold zA0;refine bd (zBo q.Auths default auL ka (v:=true) (λi hi=>?_) ?_) ?_
 ·unfold bC;refine ct (decide_eq_true (by omega)) (bd (a:=!auL (q.Auths.getD i default)) (bd (vX (d:=default) hi) ?_) ?_)
  ·have e:(!auL (q.Auths.getD i default))=(decide (128<((q.Auths.getD i default).Nonce.length:Int))||decide (128<((q.Auths.getD i default).Value.length:Int))):=by
    unfold auL;rw [yBq,<- decide_not,<- decide_not];exact congr (congrArg _ (decide_eq_decide.2 (by omega))) (decide_eq_decide.2 (by omega))
   rw [e];exact oO' λ_=>bd (vX (d:=default) hi) rfl
  ·rw [yM (by omega)];cases auL (q.Auths.getD i default)<;>rfl
 ·unfold bC;exact cf (decide_eq_false (by omega)) rfl
 unfold zDx;cases g4:q.Auths.all auL
 case false=>rfl
 refine bd (zBo q.Blobs [] blL kb (v:=true) (λi hi=>?_) ?_) ?_
 ·unfold bB;have e:decide (1024<((q.Blobs.getD i []).length:Int))=!blL (q.Blobs.getD i []):=by
   unfold blL;rw [<- decide_not];exact decide_eq_decide.2 (by omega)
  refine ct (decide_eq_true (by omega)) (bd (vX (d:=[]) hi) ?_);rw [e,yM (by omega)];cases blL (q.Blobs.getD i [])<;>rfl
 ·unfold bB;exact cf (decide_eq_false (by omega)) rfl
 cases g5:q.Blobs.all blL
 case false=>rfl
 have h3:zDx q=true:=by unfold zDx;rw [g4,g5];rfl
 obtain ⟨b,e,hl⟩:=zZ2 h2 h3;exact bd e (by rw [hl];rfl)
structure RqS (q:zC):Prop where
 ok:mG q
 s:(shp q.Code).2=true
 h:(q.Handles.length:Int)=(shp q.Code).1.a0
 a:(q.Auths.length:Int)=(shp q.Code).1.a1
 i:(q.Ints.length:Int)=(shp q.Code).1.a2
 b:(q.Blobs.length:Int)=(shp q.Code).1.a3∨((shp q.Code).1.a3<0/\q.Blobs.length<=8)
 l:∀ x∈q.Blobs,x.length<=1024
 h0:∀ x∈q.Handles,0<=x/\x<=65535
 i0:∀ x∈q.Ints,0<=x/\x<=1099511627776
theorem zPw (h:ckV q=0):RqS q:=by
 unfold ckV at h;cases hs:(shp q.Code).2<;>rw [hs] at h
 case false=>exact absurd h (show ¬ (6:Int)=0 by decide)
 cases h2:zFy q<;>rw [h2] at h
 case false=>exact absurd h (show ¬ (1:Int)=0 by decide)
 cases h3:zDx q<;>rw [h3] at h
 case false=>exact absurd h (show ¬ (4:Int)=0 by decide)
 obtain ⟨f1,hh,ha,hi⟩:=zGw h2;obtain ⟨l1,l2,l3,l4⟩:=zG1 f1;obtain ⟨g1,g2,g3,g4⟩:=zRz f1;obtain ⟨n1,b1⟩:=zQq h3;exact ⟨⟨by omega,λx hx=>by have:=hh x hx;exact ⟨by omega,by omega⟩,by omega,λa hx=>⟨by have:=ha a hx;exact ⟨by omega,by omega⟩,by have:=n1 a hx;omega,by have:=n1 a hx;omega⟩,by omega,λx hx=>by have:=hi x hx;exact ⟨by omega,by omega⟩,by omega,λx hx=>by have:=b1 x hx;omega⟩,hs,g1,g2,g3,g4,b1,hh,hi⟩
set_option maxRecDepth 100000
structure Gd (s:zB) (r:zB×zD):Prop where
 e:r.2.Err≠0->r=(s,rs r.2.Err)
 n:r.2.Nonces=[]
 k:zY r.1
 i:r.2.Ints.length<=8
 b:r.2.Blobs.length<=8
 t:(r.2.Blobs.map (·.length)).sum<=1500
theorem uH (h:zY s) (e:Int):Gd s (s,rs e):=⟨λ_=>rfl,rfl,h,Q1 _,Q1 _,Q1 _⟩
theorem zBt (h:zY t):Gd s (t,rs 0):=⟨λe=>absurd rfl e,rfl,h,Q1 _,Q1 _,Q1 _⟩
theorem yMw (h:zY t) (hi:i.length<=8):Gd s (t,⟨0,i,[],[]⟩):=⟨λe=>absurd rfl e,rfl,h,hi,Q1 _,Q1 _⟩
theorem zMa (h:zY t) (hi:i.length<=8) (hx:x.length<=1000):Gd s (t,⟨0,i,[x],[]⟩):=⟨λe=>absurd rfl e,rfl,h,hi,by show (1:Nat)<=8;decide,by simp;omega⟩
theorem yMc (h:zY t) (hi:i.length<=8) {y:By} (hx:x.length+y.length<=1000):Gd s (t,⟨0,i,[x,y],[]⟩):=⟨λe=>absurd rfl e,rfl,h,hi,by show (2:Nat)<=8;decide,by simp;omega⟩
def dn (s t:zB) (e:Int):zB×zD:=if e≠0 then (s,rs e) else (t,rs 0)
theorem zKe (h:zY s) (k:e=0->zY t):Gd s (dn s t e):=by
 unfold dn;by_cases g:e=0
 ·rw [if_neg (by simp [g])];exact zBt (k g)
 ·rw [if_pos g];exact uH h e
theorem zZn (s t:zB) (e:Int):dC s t e=some (dn s t e):=by
 unfold dC dn;by_cases g:e=0
 ·rw [if_neg (by simp [g])];exact cf (b0 g) rfl
 ·rw [if_pos g];exact ct (b1 g) rfl
theorem bU (s t:zB) (e:Int):tH s t e=some (dn s t e):=by
 unfold tH dn;by_cases g:e=0
 ·rw [if_neg (by simp [g])];exact cf (b0 g) rfl
 ·rw [if_pos g];exact ct (b1 g) rfl
theorem zLb (s t:zB) (e:Int):((dn s t e).1,zD.mk (dn s t e).2.Err [] [] [])=dn s t e:=by unfold dn;split<;>rfl
theorem dn_n (s t:zB) (e:Int):(dn s t e).2.Ints=[]/\(dn s t e).2.Blobs=[]/\(dn s t e).2.Nonces=[]:=by unfold dn;split<;>exact ⟨rfl,rfl,rfl⟩
def m1 (s:zB) (q:zC):zB×zD:=dn s (suS s) (suE s (int q 0))
theorem yKx (h:zY s) (q:zC):Gd s (m1 s q):=zKe h λe=>yIs h (yLq e)
theorem dn_c (he:e=f) (ht:f=0->t=u):dn s t e=dn s u f:=by
 subst he;unfold dn;by_cases g:e=0
 ·rw [if_neg (by simp [g]),if_neg (by simp [g]),ht g]
 ·rw [if_pos g,if_pos g]
theorem yAc (he:e=f) (ht:f=0->t=u):some ((dn s t e).1,zD.mk (dn s t e).2.Err [] [] [])=some (dn s u f):=congrArg some ((zLb _ _ _).trans (dn_c he ht))
theorem zW8 (g:suE s m=0):suV s m=(suS s,0):=by unfold suV;rw [if_pos g]
theorem yHr (s:zB) (m:Int):(suV s m).2=suE s m:=by
 unfold suV;split
 ·rename_i g;exact g.symm
 ·rfl
theorem zZf (g:sdE s m=0):sdV s m=(sdS s m,0):=by unfold sdV;rw [if_pos g]
theorem yLm (s:zB) (m:Int):(sdV s m).2=sdE s m:=by
 unfold sdV;split
 ·rename_i g;exact g.symm
 ·rfl
def m2 (s:zB) (q:zC):zB×zD:=dn s (sdS s (int q 0)) (sdE s (int q 0))
theorem yK3 (h:zY s) (q:zC):Gd s (m2 s q):=zKe h λ_=>zXq h _
def m4 (s:zB):zB×zD:=(s,⟨0,[s.Volatile.Clock,s.Stable.Resets,s.Stable.Restarts,bif s.Volatile.Safe then 1 else 0],[],[]⟩)
theorem yLd (h:zY s):Gd s (m4 s):=yMw h (show (4:Nat)<=8 by decide)
def m5 (s:zB) (q:zC):zB×zD:=if (vlV s.Volatile.Registers (int q 0) (int q 1)).2≠0 then (s,rs (vlV s.Volatile.Registers (int q 0) (int q 1)).2) else (s,⟨0,[s.Volatile.Registers.Updates],[(vlV s.Volatile.Registers (int q 0) (int q 1)).1],[]⟩)
def mR (s:zB) (x:zE×Int) (b:List By):zB×zD:=if x.2≠0 then (s,rs x.2) else (zZ7 s x.1,⟨0,[],b,[]⟩)
def m6 (s:zB) (loc:Int) (q:zC):zB×zD:=mR s (exV s.Volatile.Registers loc (int q 0) q.Blobs) []
def m7 (s:zB) (loc:Int) (q:zC):zB×zD:=mR s (evV s.Volatile.Registers loc (int q 0) (blb q 0)) (dgE s.Volatile.Registers (blb q 0))
def m8 (s:zB) (loc:Int) (q:zC):zB×zD:=mR s (rsV s.Volatile.Registers loc (int q 0)) []
theorem yF7 {r:zE} (h:pR r) (a b:Int):(vlV r a b).1.length<=32:=by
 unfold vlV;split
 ·exact zNu h _ _
 ·exact Q1 _
theorem yHi (h:zY s) (q:zC):Gd s (m5 s q):=by
 unfold m5;split
 ·exact uH h _
 ·exact zMa h (by simp) (by have:=yF7 h.rg (int q 0) (int q 1);omega)
theorem zZe (h:zY s) {x:zE×Int} (hx:pR x.1) {b:List By} (h1:b.length<=8) (h2:(b.map (·.length)).sum<=1500):Gd s (mR s x b):=by
 unfold mR;split
 ·exact uH h _
 ·exact ⟨λe=>absurd rfl e,rfl,zXj h hx,Q1 _,h1,h2⟩
theorem yE3 (r:zE) (b:By):((dgE r b).map (·.length)).sum<=1500:=by
 have h0:(bif onv r 0 then zJn b else []).length<=20:=by
  cases onv r 0
  ·exact Q1 _
  ·show (zJn b).length<=20;rw [zHj];decide
 have h1:(bif onv r 1 then sha b else []).length<=32:=by
  cases onv r 1
  ·exact Q1 _
  ·show (sha b).length<=32;rw [mH];decide
 simp only [dgE,W1,List.map_nil,List.sum_cons,List.sum_nil];omega
theorem yHy (h:zY s) (loc:Int) (q:zC):Gd s (m6 s loc q):=zZe h (zY7 h.rg) (by decide) (by show (0:Nat)<=_;decide)
theorem yHt (h:zY s) (loc:Int) (q:zC):Gd s (m7 s loc q):=zZe h (yJx h.rg) (show (2:Nat)<=8 by decide) (yE3 _ _)
theorem yGw (h:zY s) (loc:Int) (q:zC):Gd s (m8 s loc q):=zZe h (yIl h.rg) (by decide) (by show (0:Nat)<=_;decide)
theorem yA1 (k:mG q):yEf q.Blobs:=λd hd=>by have:=k.bb d hd;omega
def m16 (s:zB) (q:zC):zB×zD:=if (opV s (int q 0)).2.2≠0 then (s,rs (opV s (int q 0)).2.2) else ((opV s (int q 0)).1,⟨0,[(opV s (int q 0)).2.1],[(sfV (opV s (int q 0)).1 (opV s (int q 0)).2.1).1.Nonce],[]⟩)
theorem zR8 (h:zY s) (a:Int):(sfV s a).1.Nonce.length<=32/\(sfV s a).1.Digest.length<=32:=by
 unfold sfV;cases q:ssf s a with
 | some i=>have ok:=cM h (lW q).1;exact ⟨ok.n,ok.d⟩
 | none=>exact ⟨Q1 _,Q1 _⟩
theorem yB0 (h:zY s) (q:zC):Gd s (m16 s q):=by
 unfold m16;by_cases g:(opV s (int q 0)).2.2=0
 ·rw [if_neg (by simp [g])];obtain ⟨a,_⟩:=yA5 h g;exact zMa a (by simp) (by have:=(zR8 a (opV s (int q 0)).2.1).1;omega)
 ·rw [if_pos g];exact uH h _
def asF (s:zB) (q:zC):zI:=
 ⟨int q 1,⟨int q 2,int q 3⟩,bif int q 1==1 then blb q 0 else [],int q 4,int q 5,bif int q 1==4 then blb q 0 else [],bif int q 1==4 then rnm s (int q 4) else [],[],bif int q 1==8 then q.Blobs else []⟩
def asO (q:zC):Bool:=bif (int q 1==1)||(int q 1==4) then (q.Blobs.length:Int)==1 else (int q 1==8)||((q.Blobs.length:Int)==0)
def m17 (s:zB) (q:zC):zB×zD:=bif !asO q then (s,rs 1) else bif (int q 1==4)&&(ixf s (int q 4)).isNone then (s,rs 7) else
 if (asV s (int q 0) (asF s q)).2≠0 then (s,rs (asV s (int q 0) (asF s q)).2) else ((asV s (int q 0) (asF s q)).1,rs 0)
theorem zYb (h:zY s) (q:zC):Gd s (m17 s q):=by
 unfold m17;cases !asO q
 ·cases (int q 1==4)&&(ixf s (int q 4)).isNone
  ·show Gd s (dn s (asV s (int q 0) (asF s q)).1 (asV s (int q 0) (asF s q)).2);exact zKe h λe=>yKp h e
  ·exact uH h _
 ·exact uH h _
theorem yJ3 (k:mG q):yGj (asF s q):=by
 have h0:=zA1 k 0;have h1:=zQs s (int q 4);have h2:=k.bl;refine ⟨?_,?_,?_,?_,?_⟩
 ·show (bif int q 1==1 then blb q 0 else []).length<_;cases int q 1==1
  ·show (0:Nat)<_;decide
  ·show (blb q 0).length<_;omega
 ·show (bif int q 1==4 then blb q 0 else []).length<_;cases int q 1==4
  ·show (0:Nat)<_;decide
  ·show (blb q 0).length<_;omega
 ·show (bif int q 1==4 then rnm s (int q 4) else []).length<_;cases int q 1==4
  ·show (0:Nat)<_;decide
  ·show (rnm s (int q 4)).length<_;omega
 ·show (0:Nat)<_;decide
 ·show (bif int q 1==8 then q.Blobs else []).length<_;cases int q 1==8
  ·show (0:Nat)<_;decide
  ·show q.Blobs.length<_;omega
set_option maxRecDepth 100000
theorem yMj (h:int q 1=1):asF s q=⟨int q 1,⟨int q 2,int q 3⟩,blb q 0,int q 4,int q 5,[],[],[],[]⟩:=by
 unfold asF;rw [c0' h,c1' (show int q 1≠4 by omega),c1' (show int q 1≠8 by omega)];rfl
theorem yLe (h:int q 1=4):asF s q=⟨int q 1,⟨int q 2,int q 3⟩,[],int q 4,int q 5,blb q 0,rnm s (int q 4),[],[]⟩:=by
 unfold asF;rw [c0' h,c1' (show int q 1≠1 by omega),c1' (show int q 1≠8 by omega)];rfl
theorem yL1 (h:int q 1=8):asF s q=⟨int q 1,⟨int q 2,int q 3⟩,[],int q 4,int q 5,[],[],[],q.Blobs⟩:=by
 unfold asF;rw [c0' h,c1' (show int q 1≠1 by omega),c1' (show int q 1≠4 by omega)];rfl
theorem yLu (h1:int q 1≠1) (h4:int q 1≠4) (h8:int q 1≠8):asF s q=⟨int q 1,⟨int q 2,int q 3⟩,[],int q 4,int q 5,[],[],[],[]⟩:=by
 unfold asF;rw [c1' h1,c1' h4,c1' h8];rfl
theorem dJ (h:zY s) (k:mG q) (hi:0<q.Ints.length) {a:zI} (e:asF s q=a):((idx q.Ints 0).bind λv=>(nY s v a).bind λ(x,y)=>(tH s x y).bind λ(u,w)=>some (u,zD.mk w.Err [] [] []))=some (dn s (asV s (int q 0) (asF s q)).1 (asV s (int q 0) (asF s q)).2):=by
 subst e;exact bd (tN (i:=0) hi) (bd (zPj h (zFh k hi) (yJ3 k)) (bd (bU _ _ _) (congrArg some (zLb _ _ _))))
theorem bn1 (h:n=1):((n:Int) != 1)=false:=by subst h;rfl
theorem bn1' (h:n≠1):((n:Int) != 1)=true:=by have:(n:Int)≠1:=by { omega };simpa using this
theorem be1 (h:n=1):((n:Int)==1)=true:=by subst h;rfl
theorem be1' (h:n≠1):((n:Int)==1)=false:=c1' (by omega)
theorem zPi (h:zY s) (k:mG q) (hi:5<q.Ints.length):gX s q=some (m17 s q):=by
 have i4:=zFh k (show 4<q.Ints.length by omega);unfold gX m17;refine bd (tN (i:=1) (by omega)) (bd (tN (i:=2) (by omega)) (bd (tN (i:=3) (by omega)) (bd (tN (i:=4) (by omega)) (bd (tN (i:=5) hi) ?_))));show _=some (bif !asO q then (s,rs 1) else bif (int q 1==4)&&(ixf s (int q 4)).isNone then (s,rs 7) else dn s (asV s (int q 0) (asF s q)).1 (asV s (int q 0) (asF s q)).2);unfold asO;by_cases h1:int q 1=1
 ·have e4:=c1' (show int q 1≠4 by omega);have e8:=c1' (show int q 1≠8 by omega);rw [c0' h1,e4];by_cases hb:q.Blobs.length=1
  ·rw [bn1 hb,be1 hb];refine bd (a:=true) rfl (bd (a:=false) rfl (cf rfl ?_));refine bd (a:=.inr (blb q 0,[],[],[])) (bd (pZ (i:=0) (by omega)) rfl) ?_;exact dJ h k (by omega) (yMj h1)
  ·rw [bn1' hb,be1' hb];rfl
 have e1:=c1' h1;by_cases h4:int q 1=4
 ·have e8:=c1' (show int q 1≠8 by omega);rw [e1,c0' h4];by_cases hb:q.Blobs.length=1
  ·rw [bn1 hb,be1 hb];refine bd (a:=true) rfl (bd (a:=false) rfl (cf rfl ?_));have hix:=vJ h i4;cases q4:ixf s (int q 4) with
   | none=>
    rw [q4] at hix;exact bd (a:=.inl (s,rs 7)) (bd hix rfl) rfl
   | some i=>
    rw [q4] at hix;refine bd (a:=.inr ([],blb q 0,rnm s (int q 4),[])) (bd hix (cf (ng i) (bd (zQb h i4) (bd (pZ (i:=0) (by omega)) rfl)))) ?_;exact dJ h k (by omega) (yLe h4)
  ·rw [bn1' hb,be1' hb];rfl
 have e4:=c1' h4;by_cases h8:int q 1=8
 ·have n8:(int q 1 != 8)=false:=by unfold bne;rw [c0' h8];rfl
  rw [e1,e4,n8,c0' h8];refine bd (a:=false) rfl (bd (a:=false) rfl (cf rfl ?_));refine bd (a:=.inr ([],[],[],q.Blobs)) rfl ?_;exact dJ h k (by omega) (yL1 h8)
 have e8:=c1' h8;have n8:(int q 1 != 8)=true:=by unfold bne;rw [e8];rfl
 rw [e1,e4,n8,e8];by_cases hb:q.Blobs.length=0
 ·have n0:decide (0<(q.Blobs.length:Int))=false:=decide_eq_false (by omega);have n1:((q.Blobs.length:Int)==0)=true:=c0' (by omega);rw [n0,n1];refine bd (a:=false) rfl (bd (a:=false) rfl (cf rfl ?_));refine bd (a:=.inr ([],[],[],[])) rfl ?_;exact dJ h k (by omega) (yLu h1 h4 h8)
 ·have n0:decide (0<(q.Blobs.length:Int))=true:=decide_eq_true (by omega);have n1:((q.Blobs.length:Int)==0)=false:=c1' (by omega);rw [n0,n1];rfl
end Go.Proofs.TT
namespace Go.Sw
open Go
variable {α:Type}
theorem zN3 (l:List α) (d:α) (p:α->Bool) {step:List α×Int×Int->Option ((List α×Int×Int) ⊕ (List α×Int))}
  (hs:∀ (w:List α) (i j:Nat) (v:α),w[j]? = some v->i<w.length->w.length<2 ^ 40->step (w,(i:Int),(j:Int))=some (.inl (bif p v then w else w.set i v,bif p v then (i:Int) else ((i+1:Nat):Int),((j+1:Nat):Int))))
  (he:∀ (w:List α) (i:Int) (j:Nat),¬ j<w.length->step (w,i,(j:Int))=some (.inr (w,i))) (hl:l.length<2 ^ 40) {k:Nat} (hk:fst (λi=>p (l.getD i d)) l.length 0=some k) :
  Def (zO step FU (l,(k:Int),((k+1:Nat):Int))) (λr=>∃ i:Nat,r.2=(i:Int)/\i<r.1.length/\r.1.take i=l.filter (λx=>!p x)):=by
 obtain ⟨_,k1,k2,k3⟩:=qJ hk;refine Def.loop (λs=>∃ i j:Nat,s.2.1=(i:Int)/\s.2.2=(j:Int)/\s.1.length=l.length/\i<j/\j<=l.length/\s.1.take i=(l.take j).filter (λx=>!p x)/\s.1.drop j=l.drop j) (λs=>l.length - s.2.2.toNat) (λs h=>?_) ⟨k,k+1,rfl,rfl,rfl,by omega,by omega,?_,rfl⟩ (by omega)
 ·obtain ⟨w,i',j'⟩:=s;obtain ⟨i,j,h1,h2,K,h4,h5,I,H⟩:=h;simp only at h1 h2 K I H;subst h1 h2;by_cases g:j<w.length
  ·have hv:w[j]? = some l[j]:=by
    have e:(w.drop j)[0]? = (l.drop j)[0]?:=by rw [H]
    rw [List.getElem?_drop,List.getElem?_drop,Nat.add_zero,List.getElem?_eq_getElem (by omega:j<l.length)] at e;exact e
   refine Def.of (hs w i j _ hv (by omega) (by omega)) ?_;have G:l.take (j+1)=l.take j++[l[j]]:=by rw [Qe,List.getElem?_eq_getElem (by omega)];rfl
   cases q:p l[j]
   ·refine ⟨⟨i+1,j+1,rfl,rfl,by simpa using K,by omega,by omega,?_,?_⟩,by simp only [Q6];omega⟩
    ·show (w.set i l[j]).take (i+1)=_;rw [G,Qd,<- I,Qe,List.getElem?_set_self (by omega),List.take_set_of_le (Qw _)];simp [q]
    ·show (w.set i l[j]).drop (j+1)=_;rw [List.drop_set_of_lt (by omega)];have:w.drop (j+1)=(w.drop j).drop 1:=by rw [Qk]
     rw [this,H,Qk]
   ·refine ⟨⟨i,j+1,rfl,rfl,K,by omega,by omega,?_,?_⟩,by simp only [Q6];omega⟩
    ·show w.take i=_;rw [G,Qd,<- I];simp [q]
    ·show w.drop (j+1)=_;have:w.drop (j+1)=(w.drop j).drop 1:=by rw [Qk]
     rw [this,H,Qk]
  ·refine Def.of (he w _ j g) ⟨i,rfl,by show i<w.length;omega,?_⟩;show w.take i=_;rw [I,Qo (by omega)]
 ·have G:l.take (k+1)=l.take k++[l[k]]:=by rw [Qe,List.getElem?_eq_getElem (by omega)];rfl
  have e:l.getD k d=l[k]:=by simp [show k<l.length by omega]
  rw [e] at k2;rw [G,Qd];have f1:(l.take k).filter (λx=>!p x)=l.take k:=Qj.2 λx hx=>by
   obtain ⟨m,hm,rfl⟩:=Qr.1 hx;rw [Q5] at hm;have:=k3 m (by omega) (by omega);have e:l.getD m d=l[m]:=by simp [show m<l.length by omega]
   rw [e] at this;rw [List.getElem_take,this];rfl
  rw [f1];simp [k2]
theorem zM8 {l:List α} {d:α} {p:α->Bool} (h:fst (λi=>p (l.getD i d)) l.length 0=none):l.filter (λx=>!p x)=l:=by
 refine Qj.2 λx A=>?_;obtain ⟨m,z,rfl⟩:=Qr.1 A;have:=zEf h m (by omega) (by omega);simp_all
theorem bltT {a b:Nat} (h:a<b):Nat.blt a b=true:=by simp_all
theorem zV5 (w:List α) (d:α) {i:Nat} (h:i<w.length) (n:Nat):(w.take i++Qp n d).take i=w.take i:=by
 rw [List.take_append_of_le_length (by rw [Q5];omega),List.take_take,Nat.min_self]
end Go.Sw
namespace Go.Proofs.TT
open Go Go.Sw
set_option maxRecDepth 100000
variable {c:Int}{d:By}{er:Int}{i:Nat}{l:List Int}{m n:Int}{p:zL}{q:zC}{r:zB×zD}{s:zB}{x:zF}{α:Type}
theorem pix (l:List Int) (n:Int) (G:l.length<2 ^ 40):vM l n=some (match fst (λi=>l.getD i 0==n) l.length 0 with | some j=>(j:Int) | none=>-1):=by
 unfold vM;refine bd (rY (λi=>l.getD i 0==n) l.length (λi=>(i:Int)) G (λi D=>?_) ?_) ?_
 ·unfold tQ;constructor
  ·intro g;exact ct (decide_eq_true (by omega)) (bd (vX (d:=0) D) (bd (a:=true) (congrArg some g) rfl))
  ·intro g;refine ct (decide_eq_true (by omega)) (bd (vX (d:=0) D) (bd (a:=false) (congrArg some g) ?_));rw [yM (by omega)];rfl
 ·exact cf (decide_eq_false (by omega)) rfl
 ·cases fst (λi=>l.getD i 0==n) l.length 0<;>rfl
def wo (l:List Int) (n:Int):List Int:=l.filter (λx=>!(x==n))
theorem ne1 (k:Nat):((k:Int)==-1)=false:=rfl
theorem zF5 (l:List Int) (n:Int) (F:l.length<2 ^ 40):mQ l n=some (wo l n):=by
 unfold mQ tO;refine bd (cln (by omega)) (bd (a:=wo l n) (bd (pix l n F) ?_) rfl);cases q:fst (λi=>l.getD i 0==n) l.length 0 with
 | none=>exact ct rfl (congrArg some (zM8 (p:=(· == n)) q).symm)
 | some k=>
  have L:Def (zO (xW n) FU (l,(k:Int),((k+1:Nat):Int))) (λr=>∃ i:Nat,r.2=(i:Int)/\i<r.1.length/\r.1.take i=l.filter (λx=>!(x==n))):=by
   refine zN3 l 0 (· == n) (λw i j v G T N=>?_) (λw i j g=>?_) F q
   ·have R:j<w.length:=(List.getElem?_eq_some_iff.1 G).1;unfold xW;refine ct (decide_eq_true (by omega)) (bd (a:=(bif v==n then w else w.set i v,bif v==n then (i:Int) else ((i+1:Nat):Int))) (bd (a:=j) (by simp [ixN];omega) (bd G (bd (a:=v==n) rfl ?_))) (by rw [yM (by omega)]));cases v==n
    ·exact ct rfl (bd (a:=i) (by simp [ixN];omega) (bd (a:=w.set i v) (by simp [wL];omega) (by rw [yM (by omega)];rfl)))
    ·rfl
   ·unfold xW;exact cf (decide_eq_false (by omega)) rfl
  ·obtain ⟨r,e,i,I,D,J⟩:=L;obtain ⟨w,S⟩:=r;simp only at I D J;subst I;have U:=(qJ q).2.1;refine cf (ne1 k) ?_;rw [yM (by omega)];refine bd e (bd (ckT (decide_eq_true ⟨by omega,by omega⟩)) (bd (ckT (bltT (by rw [Q6];exact D))) (bd (ckT (decide_eq_true ⟨by omega,by omega⟩)) ?_)));rw [Q6,zV5 w 0 D,J];rfl
theorem zGa (l:List Int) (n:Int) (E:l.length<2 ^ 40):pY l n=some (wo l n):=by
 unfold pY;refine bd (a:=wo l n) (yC l.length (λi=>((l.take i).filter (λx=>!(x==n)),(i:Int))) rfl (λi z=>?_) ?_ (xI (by omega))) rfl
 ·have D:l.take (i+1)=l.take i++[l[i]]:=by simp
  unfold lX;rw [D,Qd];refine ct (decide_eq_true (by omega)) (bd (bd (yR z) ?_) (by rw [yM (by omega)]));show (bif !(l[i]==n) then _ else _)=_;cases q:l[i]==n
  ·refine ct rfl (bd (yR z) (bd (zZ ?_) ?_))
   ·have:=Qq (λx=>!(x==n)) (l.take i);rw [Q5] at this;simp only [Q0,Q3];omega
   ·simp [q]
  ·simp [q]
 ·unfold lX;refine cf (decide_eq_false (by omega)) ?_;rw [Q7];rfl
theorem yHm (h:zGn l) (n:Int):zGn (wo l n):=⟨h.nd.filter _,λx g=>h.el x (W0.1 g).1⟩
def zD5 (s:zB) (n:Int):Bool:=s.Stable.Indices.any (λx=>x.N==n)
theorem zQp (s:zB) (n:Int):(ixf s (256+n)).isSome=zD5 s n:=by
 unfold zD5;rw [<- fst_any _ _ _];unfold ixf;rw [zJv λm _ _=>by rw [show 256+n - 256=n by omega]]
def nwX (q:zC):zF×Int:=nwV (int q 0) (int q 1) (int q 2) (int q 3) (blb q 0) (blb q 1)
def m21 (s:zB) (q:zC):zB×zD:=if (nwX q).2≠0 then (s,rs (nwX q).2) else bif zD5 s (nwX q).1.N then (s,rs 21) else if 6<=s.Stable.Indices.length then (s,rs 25) else (zNb s (s.Stable.Indices++[(nwX q).1]) s.Stable.MaxCounter,rs 0)
theorem zY2 (h:(nwX q).2=0):zB3 (nwX q).1:=by
 have e:nwE (int q 0) (int q 1) (int q 2) (int q 3) (blb q 0) (blb q 1)=0:=by
  unfold nwX nwV at h;split at h
  ·omega
  omega
 exact (yJr e).1
theorem yI5 (h:zY s) (q:zC):Gd s (m21 s q):=by
 unfold m21;by_cases g:(nwX q).2=0
 case neg=>rw [if_pos g];exact uH h _
 rw [if_neg (show ¬ (nwX q).2≠0 by simp [g])];cases E:zD5 s (nwX q).1.N
 case true=>exact uH h _
 simp only [cond_false];split
 ·exact uH h _
 ·rename_i G;refine zBt (zHu h (by rw [Q4];simp only [Q0,Q3];omega) (λx z=>?_) ?_)
  ·rcases Qn.1 z with z | z
   ·exact h.ix x z
   ·simp only [Ql,Qh,or_false] at z;rw [z];exact zY2 g
  ·rw [Qy];refine Qu.2 ⟨h.nd,by simp,λa F b D e=>?_⟩;obtain ⟨x,z,rfl⟩:=Qt.1 F;have:zD5 s (nwX q).1.N=true:=List.any_eq_true.2 ⟨x,z,by simp_all⟩;rw [E] at this;cases this
theorem zPl (h:zY s) (F:3<q.Ints.length) (I:1<q.Blobs.length):cJ s q=some (m21 s q):=by
 have J:=h.il;unfold cJ m21;refine bd (tN (i:=0) (by omega)) (bd (tN (i:=1) (by omega)) (bd (tN (i:=2) (by omega)) (bd (tN (i:=3) F) (bd (pZ (i:=0) (by omega)) (bd (pZ (i:=1) I) (bd (zQg _ _ _ _ _ _) ?_))))));show (bif ((nwX q).2 != 0) then _ else _)=_;by_cases g:(nwX q).2=0
 case neg=>rw [if_pos g];exact ct (b1 g) rfl
 rw [if_neg (show ¬ (nwX q).2≠0 by simp [g])];refine cf (b0 g) (bd (a:=zD5 s (nwX q).1.N) ?_ ?_)
 ·show xA s.Stable.Indices (nwX q).1=_;unfold xA vC zD5;rw [<- fst_any s.Stable.Indices default (λx=>x.N==(nwX q).1.N)];refine bd (a:=match fst (λi=>(s.Stable.Indices.getD i default).N==(nwX q).1.N) s.Stable.Indices.length 0 with | some j=>(j:Int) | none=>-1) (bd (rY (λi=>(s.Stable.Indices.getD i default).N==(nwX q).1.N) s.Stable.Indices.length (λi=>(i:Int)) (by omega) (λi F=>?_) ?_) ?_) ?_
  ·unfold xR;constructor
   ·intro g;exact ct (decide_eq_true (by omega)) (bd (vX (d:=default) F) (bd (a:=true) (congrArg some g) rfl))
   ·intro g;refine ct (decide_eq_true (by omega)) (bd (vX (d:=default) F) (bd (a:=false) (congrArg some g) ?_));rw [yM (by omega)];rfl
  ·unfold xR;exact cf (decide_eq_false (by omega)) rfl
  ·cases fst (λi=>(s.Stable.Indices.getD i default).N==(nwX q).1.N) s.Stable.Indices.length 0<;>rfl
  ·cases fst (λi=>(s.Stable.Indices.getD i default).N==(nwX q).1.N) s.Stable.Indices.length 0 with
   | some i=>exact congrArg some (nn i)
   | none=>rfl
 cases zD5 s (nwX q).1.N
 case true=>rfl
 simp only [cond_false];by_cases H:6<=s.Stable.Indices.length
 ·rw [if_pos H];exact ct (decide_eq_true (by omega)) rfl
 ·rw [if_neg H];exact cf (decide_eq_false (by omega)) (bd (cln (by omega)) (bd (zZ (by simp;omega)) rfl))
theorem zQc (h:zY s) (G:3<q.Ints.length) (H:1<q.Blobs.length):mC s q=some (m21 s q):=by
 have I:=h.il;unfold mC m21;refine bd (tN (i:=0) (by omega)) (bd (tN (i:=1) (by omega)) (bd (tN (i:=2) (by omega)) (bd (tN (i:=3) G) (bd (pZ (i:=0) (by omega)) (bd (pZ (i:=1) H) (bd (zOt _ _ _ _ _ _) ?_))))));show (bif ((nwX q).2 != 0) then _ else (xG s (Qa.wrap (256+(nwX q).1.N))).bind _)=_;by_cases g:(nwX q).2=0
 case neg=>rw [if_pos g];exact ct (b1 g) rfl
 have A:=zY2 g;have K:=A.n0;have J:=A.n1;rw [if_neg (show ¬ (nwX q).2≠0 by simp [g]),yH (by omega) (by omega)];refine cf (b0 g) (bd (vJ h (h:=256+(nwX q).1.N) ⟨by omega,by omega⟩) ?_);rw [<- zQp];cases ixf s (256+(nwX q).1.N) with
 | some i=>exact ct (nn i) rfl
 | none=>
  refine cf rfl ?_;simp only [Option.isSome_none,cond_false];by_cases E:6<=s.Stable.Indices.length
  ·rw [if_pos E];exact ct (decide_eq_true (by omega)) rfl
  ·rw [if_neg E];exact cf (decide_eq_false (by omega)) (bd (ap0 (by omega)) (bd (zZ (by simp;omega)) rfl))
def woI (s:zB) (n:Int):List zF:=s.Stable.Indices.filter (λx=>!(x.N==n))
def unS (s:zB) (n:Int):zB:=zSj (zNb s (woI s n) s.Stable.MaxCounter) (wo s.Volatile.ReadLocks n) (wo s.Volatile.WriteLocks n)
def m22 (s:zB) (q:zC):zB×zD:=bif !zD5 s (int q 0) then (s,rs 7) else (unS s (int q 0),rs 0)
theorem yJa (h:zY s) (q:zC):Gd s (m22 s q):=by
 unfold m22;cases zD5 s _
 ·exact uH h _
 ·have D:=Qq (λx=>!(x.N==int q 0)) s.Stable.Indices;refine zBt (zIv (zHu h (by have:=h.il;show (woI s _).length<=6;unfold woI;omega) (λx z=>h.ix x (W0.1 z).1) ?_) (yHm h.rl _) (yHm h.wl _));exact h.nd.sublist ((List.filter_sublist).map _)
theorem zZ8:((woI s n).length=s.Stable.Indices.length)↔zD5 s n=false:=by
 unfold woI zD5;constructor
 ·simp
 simp
theorem zKw (h:zY s) (q:zC):jZ s (int q 0)=some (m22 s q):=by
 have hl:=h.il;have G:=h.rl.len;have F:=h.wl.len;generalize U:int q 0=n;unfold jZ m22;rw [U];refine bd (cln (by omega)) (bd (a:=woI s n) ?_ ?_)
 ·unfold wS wZ;refine bd (a:=match fst (λi=>(s.Stable.Indices.getD i default).N==n) s.Stable.Indices.length 0 with | some j=>(j:Int) | none=>-1) (bd (rY (λi=>(s.Stable.Indices.getD i default).N==n) s.Stable.Indices.length (λi=>(i:Int)) (by omega) (λi H=>?_) ?_) ?_) ?_
  ·unfold xQ;constructor
   ·intro g;exact ct (decide_eq_true (by omega)) (bd (vX (d:=default) H) (bd (a:=true) (congrArg some g) rfl))
   ·intro g;refine ct (decide_eq_true (by omega)) (bd (vX (d:=default) H) (bd (a:=false) (congrArg some g) ?_));rw [yM (by omega)];rfl
  ·unfold xQ;exact cf (decide_eq_false (by omega)) rfl
  ·cases fst (λi=>(s.Stable.Indices.getD i default).N==n) s.Stable.Indices.length 0<;>rfl
  cases q:fst (λi=>(s.Stable.Indices.getD i default).N==n) s.Stable.Indices.length 0 with
  | none=>exact ct rfl (congrArg some (zM8 (p:=λ(x:zF)=>x.N==n) q).symm)
  | some k=>
   have T:Def (zO (yV n) FU (s.Stable.Indices,(k:Int),((k+1:Nat):Int))) (λr=>∃ i:Nat,r.2=(i:Int)/\i<r.1.length/\r.1.take i=s.Stable.Indices.filter (λx=>!(x.N==n))):=by
    refine zN3 s.Stable.Indices default (λ(x:zF)=>x.N==n) (λw i j v R H X=>?_) (λw i j g=>?_) (by omega) q
    ·have V:j<w.length:=(List.getElem?_eq_some_iff.1 R).1;unfold yV;refine ct (decide_eq_true (by omega)) (bd (a:=(bif v.N==n then w else w.set i v,bif v.N==n then (i:Int) else ((i+1:Nat):Int))) (bd (a:=j) (by simp [ixN];omega) (bd R (bd (a:=v.N==n) rfl ?_))) (by rw [yM (by omega)]));cases v.N==n
     ·exact ct rfl (bd (a:=i) (by simp [ixN];omega) (bd (a:=w.set i v) (by simp [wL];omega) (by rw [yM (by omega)];rfl)))
     ·rfl
    ·unfold yV;exact cf (decide_eq_false (by omega)) rfl
   ·obtain ⟨r,e,i,G,F,K⟩:=T;obtain ⟨w,W⟩:=r;simp only at G F K;subst G;have Y:=(qJ q).2.1;refine cf (ne1 k) ?_;rw [yM (by omega)];refine bd e (bd (ckT (decide_eq_true ⟨by omega,by omega⟩)) (bd (ckT (bltT (by rw [Q6];exact F))) (bd (ckT (decide_eq_true ⟨by omega,by omega⟩)) ?_)));rw [Q6,zV5 w default F,K];rfl
 ·cases g:zD5 s n
  ·exact ct (c0' (by have:=zZ8.2 g;omega)) rfl
  ·have:(woI s n).length≠s.Stable.Indices.length:=λe=>by rw [zZ8.1 e] at g;cases g
   exact cf (c1' (by omega)) (bd (zF5 _ _ (by omega)) (bd (zF5 _ _ (by omega)) rfl))
theorem zTl {l:List zF} (g:(l.map (·.N)).Nodup) (E:i<l.length) (e:l[i].N=n):l.take i++l.drop (i+1)=l.filter (λx=>!(x.N==n)):=by
 induction l generalizing i with
 | nil=>simp at E
 | cons x l G=>
  rw [W1,List.nodup_cons] at g;cases i with
  | zero=>
   simp only [List.getElem_cons_zero] at e;have f:l.filter (λy=>!(y.N==n))=l:=Qj.2 λy H=>by
    simp_all
   rw [List.filter_cons_of_neg (by simp [e]),f];rfl
  | succ i=>
   simp only [Q0] at E;simp only [Qf] at e;have I:x.N≠n:=λq=>g.1 (Qt.2 ⟨l[i],Qm _,by rw [e,q]⟩);rw [List.filter_cons_of_pos (by simpa using I),<- G g.2 _ e];rfl
theorem zK1 (h:zY s) (A:0<q.Ints.length) (I:0<=int q 0) (H:int q 0<=1099511627776):qH s q=some (m22 s q):=by
 have E:=h.il;have G:=h.rl.len;have F:=h.wl.len;unfold qH m22;rw [<- zQp];refine bd (tN (i:=0) A) ?_;rw [yH (by omega) (by omega)];refine bd (vJ h (h:=256+int q 0) ⟨by omega,by omega⟩) ?_;cases D:ixf s (256+int q 0) with
 | none=>rfl
 | some i=>
  obtain ⟨a,b⟩:=sC D;have b:s.Stable.Indices[i].N=int q 0:=by
   have e:ixg s i=s.Stable.Indices[i]:=by simp [ixg,a]
   rw [<- e,b];omega
  have s1:sub s.Stable.Indices 0 (i:Int)=some (s.Stable.Indices.take i):=by rw [show (0:Int)=((0:Nat):Int) from rfl,vY (by omega) (by omega)];simp
  have s2:sub s.Stable.Indices (Qa.wrap ((i:Int)+1)) (s.Stable.Indices.length:Int)=some (s.Stable.Indices.drop (i+1)):=by
   rw [yM (by omega),vY (by omega) (by omega),Qo (by rw [Qx];omega)]
  refine cf (ng i) (bd s1 (bd (ap0 (by rw [Q5];omega)) (bd s2 (bd (zZ (by rw [Q5,Qx];omega)) ?_))));rw [zTl h.nd a b];exact bd (zGa _ _ (by omega)) (bd (zGa _ _ (by omega)) rfl)
set_option maxRecDepth 100000
def lkA (l:List Int) (n:Int):List Int:=bif has l n then l else l++[n]
theorem yBh (h:zGn l) (n0:0<=n) (n1:n<=255):zGn (lkA l n):=by
 unfold lkA;cases g:has l n
 ·refine ⟨Qu.2 ⟨h.nd,by simp,λa ha b hb e=>?_⟩,λx hx=>?_⟩
  ·simp only [Ql,Qh,or_false] at hb;have:has l n=true:=yFh.2 (by rw [<- hb,<- e];exact ha);rw [g] at this;cases this
  ·rcases Qn.1 hx with hx | hx
   ·exact h.el x hx
   ·simp only [Ql,Qh,or_false] at hx;rw [hx];exact ⟨n0,n1⟩
 ·exact h
theorem zL6 (h:zGn l) (n:Int):fZ l n=some (lkA l n):=by
 have:=h.len;unfold fZ lkA;refine bd (yD0 _ _ (by omega)) ?_;cases has l n
 ·exact cf rfl (bd (ap0 (by omega)) (bd (zZ (by simp;omega)) rfl))
 ·rfl
def ixp (s:zB) (q:zC):Nat:=(ixf s (hnd q 1)).getD 0
def ixx (s:zB) (q:zC):zF:=ixg s (ixp s q)
theorem zWb (e:(ixf s (hnd q 1)).isSome=true):ixf s (hnd q 1)=some (ixp s q):=by
 unfold ixp;cases q1:ixf s (hnd q 1) with
 | none=>rw [q1] at e;cases e
 | some i=>rfl
theorem cC (e:(ixf s (hnd q 1)).isSome=true):ixp s q<s.Stable.Indices.length:=(sC (zWb e)).1
def m28 (s:zB) (q:zC):zB×zD:=(zSj s (lkA s.Volatile.ReadLocks (ixx s q).N) s.Volatile.WriteLocks,rs 0)
def m29 (s:zB) (q:zC):zB×zD:=(zSj s s.Volatile.ReadLocks (lkA s.Volatile.WriteLocks (ixx s q).N),rs 0)
theorem yJ2 (h:zY s) (e:(ixf s (hnd q 1)).isSome=true):Gd s (m28 s q):=by
 have ok:=mF h (cC e);exact zBt (zIv h (yBh h.rl ok.n0 ok.n1) h.wl)
theorem yIe (h:zY s) (e:(ixf s (hnd q 1)).isSome=true):Gd s (m29 s q):=by
 have ok:=mF h (cC e);exact zBt (zIv h h.rl (yBh h.wl ok.n0 ok.n1))
def m24 (s:zB) (q:zC):zB×zD:=bif has s.Volatile.ReadLocks (ixx s q).N then (s,rs 23) else if (irV (ixx s q) (int q 0) (int q 1)).2≠0 then (s,rs (irV (ixx s q) (int q 0) (int q 1)).2) else (s,⟨0,[],[(irV (ixx s q) (int q 0) (int q 1)).1],[]⟩)
theorem yKq (h:zY s) (e:(ixf s (hnd q 1)).isSome=true):Gd s (m24 s q):=by
 have ok:=mF h (cC e);unfold m24;cases has s.Volatile.ReadLocks (ixx s q).N
 ·simp only [cond_false];split
  ·exact uH h _
  ·refine zMa h (Q1 _) ?_;have h1:=yD8 (ixx s q) (int q 0) (int q 1);have h2:(ixx s q).Data.length<=128:=ok.d;omega
 ·exact uH h _
def wrI (s:zB) (q:zC) (x:zF) (m e:Int):zB×zD:=bif has s.Volatile.WriteLocks (ixx s q).N then (s,rs 23) else if e≠0 then (s,rs e) else (zNb s (s.Stable.Indices.set (ixp s q) x) m,rs 0)
theorem yMf (hi:i<s.Stable.Indices.length) (hx:x.N=(ixg s i).N):(s.Stable.Indices.set i x).map (·.N)=s.Stable.Indices.map (·.N):=by
 rw [List.map_set,hx];have e:(ixg s i).N=(s.Stable.Indices.map (·.N))[i]'(by rw [Qz];exact hi):=by rw [List.getElem_map];simp [ixg,hi]
 rw [e,List.set_getElem_self]
theorem zLu (h:zY s) (e:(ixf s (hnd q 1)).isSome=true) (hx:er=0->zB3 x/\x.N=(ixx s q).N):Gd s (wrI s q x m er):=by
 unfold wrI;cases has s.Volatile.WriteLocks (ixx s q).N
 ·simp only [cond_false];by_cases g:er=0
  ·rw [if_neg (by simp [g])];obtain ⟨a,b⟩:=hx g;refine zBt (zHu h (by rw [Q8];exact h.il) (λy hy=>?_) (by rw [yMf (cC e) b];exact h.nd));rcases Q9 hy with hy | hy
   ·exact h.ix y hy
   ·rw [hy];exact a
  ·rw [if_pos g];exact uH h _
 ·exact uH h _
def m23 (s:zB) (q:zC):zB×zD:=wrI s q (iwV (ixx s q) (int q 0) (blb q 0)).1 s.Stable.MaxCounter (iwV (ixx s q) (int q 0) (blb q 0)).2
def m25 (s:zB) (q:zC):zB×zD:=wrI s q (inV (ixx s q) s.Stable.MaxCounter).1 (inV (ixx s q) s.Stable.MaxCounter).2.1 (inV (ixx s q) s.Stable.MaxCounter).2.2
def m26 (s:zB) (q:zC):zB×zD:=wrI s q (sbV (ixx s q) (blb q 0)).1 s.Stable.MaxCounter (sbV (ixx s q) (blb q 0)).2
def m27 (s:zB) (q:zC):zB×zD:=wrI s q (ieV (ixx s q) (blb q 0)).1 s.Stable.MaxCounter (ieV (ixx s q) (blb q 0)).2
theorem iw_e {o:Int} (h:(iwV x o d).2=0):iwE x o d=0:=by
 unfold iwV at h;split at h
 ·assumption
 ·rename_i g;exact absurd h g
theorem in_e (h:(inV x m).2.2=0):inE x m=0:=by
 unfold inV at h;split at h
 ·assumption
 ·rename_i g;exact absurd h g
theorem sb_e (h:(sbV x d).2=0):sbE x d=0:=by
 unfold sbV at h;split at h
 ·assumption
 ·rename_i g;exact absurd h g
theorem ie_e (h:(ieV x d).2=0):ieE x d=0:=by
 unfold ieV at h;split at h
 ·assumption
 ·rename_i g;exact absurd h g
theorem yJ0 (h:zY s) (e:(ixf s (hnd q 1)).isSome=true):Gd s (m23 s q):=zLu h e λg=>yIg (mF h (cC e)) (iw_e g)
theorem yJd (h:zY s) (e:(ixf s (hnd q 1)).isSome=true):Gd s (m25 s q):=zLu h e λg=>yKn (mF h (cC e)) (in_e g)
theorem yIu (h:zY s) (e:(ixf s (hnd q 1)).isSome=true):Gd s (m26 s q):=zLu h e λg=>yH6 (mF h (cC e)) (sb_e g)
theorem yI3 (h:zY s) (e:(ixf s (hnd q 1)).isSome=true):Gd s (m27 s q):=zLu h e λg=>yKb (mF h (cC e)) (ie_e g)
def mIx (s:zB) (q:zC):zB×zD:=
 bif q.Code==28 then m28 s q else bif q.Code==29 then m29 s q else bif q.Code==24 then m24 s q else bif q.Code==23 then m23 s q else bif q.Code==25 then m25 s q else bif q.Code==26 then m26 s q else m27 s q
theorem zG0 (h:zY s) (e:(ixf s (hnd q 1)).isSome=true) {o:Option (List zF)} (ho:o=some s.Stable.Indices) (hw:has s.Volatile.WriteLocks (ixx s q).N=false) {fl:Option (zB×zD)} (hf:fl=some (s,rs er)) :
  (bif er != 0 then fl else o.bind λl=>(ixN l.length (ixp s q:Int)).bind λj=>(wL l j x).bind λl2=>some (zNb s l2 m,rs 0))=some (wrI s q x m er):=by
 subst ho;unfold wrI;rw [hw];simp only [cond_false];by_cases g:er=0
 ·rw [if_neg (by simp [g])];exact cf (b0 g) (zBv (cC e) _)
 ·rw [if_pos g];exact ct (b1 g) hf
theorem zRf (hw:has s.Volatile.WriteLocks (ixx s q).N=true) (x:zF) (m er:Int):wrI s q x m er=(s,rs 23):=by unfold wrI;rw [hw];rfl
theorem yJv (hw:has s.Volatile.WriteLocks (ixx s q).N=true) (h1:(q.Code==28)=false) (h2:(q.Code==29)=false) (h3:(q.Code==24)=false):mIx s q=(s,rs 23):=by
 unfold mIx m23 m25 m26 m27;rw [h1,h2,h3,zRf hw,zRf hw,zRf hw,zRf hw];cases q.Code==23<;>cases q.Code==25<;>cases q.Code==26<;>rfl
structure IxQ (q:zC):Prop where
 h:1<q.Handles.length
 r:q.Code=24->1<q.Ints.length
 w:q.Code=23->0<q.Ints.length
 b:q.Code=23∨q.Code=26∨q.Code=27->0<q.Blobs.length
 c:23<=q.Code/\q.Code<=29
theorem zT9 (h:zY s) (k:mG q) (c:IxQ q) (e:(ixf s (hnd q 1)).isSome=true):dR s q=some (mIx s q):=by
 have hl:=h.il;have lt:=cC e;have ok:=mF h lt;have d1:=ok.d;have d1:(ixx s q).Data.length<=128:=d1;unfold dR;refine bd (zDw (i:=1) c.h) (bd (vJ h (eZ k c.h)) ?_);rw [zWb e];refine bd (zLs lt) ?_;cases h28:(q.Code==28)
 case true=>exact ct rfl (bd (zL6 h.rl _) (by unfold mIx;rw [h28];rfl))
 refine cf rfl ?_;cases h29:(q.Code==29)
 case true=>exact ct rfl (bd (zL6 h.wl _) (by unfold mIx;rw [h28,h29];rfl))
 refine cf rfl ?_;cases h24:(q.Code==24)
 case true=>
  have hr:=c.r (eq_of_beq h24);have em:mIx s q=m24 s q:=by unfold mIx;rw [h28,h29,h24];rfl
  rw [em];refine ct rfl (bd (yD0 _ _ (by have:=h.rl.len;omega)) ?_);show (bif has s.Volatile.ReadLocks (ixx s q).N then _ else _)=_;unfold m24;cases has s.Volatile.ReadLocks (ixx s q).N
  case true=>rfl
  refine cf rfl (bd (tN (i:=0) (by omega)) (bd (tN (i:=1) hr) (bd (zOb (ixx s q) _ _ (by omega)) ?_)));simp only [cond_false];by_cases g:(irV (ixx s q) (int q 0) (int q 1)).2=0
  ·rw [if_neg (show ¬ (irV (ixx s q) (int q 0) (int q 1)).2≠0 by simp [g])];exact cf (b0 g) rfl
  ·rw [if_pos g];exact ct (b1 g) rfl
 refine cf rfl (bd (yD0 _ _ (by have:=h.wl.len;omega)) ?_);show (bif has s.Volatile.WriteLocks (ixx s q).N then _ else _)=_;cases hw:has s.Volatile.WriteLocks (ixx s q).N
 case true=>rw [yJv hw h28 h29 h24];rfl
 refine cf rfl ?_;have cl:yK 112 ([]:List zF) s.Stable.Indices=some s.Stable.Indices:=ap0 (by omega);cases h23:(q.Code==23)
 case true=>
  have em:mIx s q=m23 s q:=by unfold mIx;rw [h28,h29,h24,h23];rfl
  rw [em];refine bd (ct rfl (bd (tN (i:=0) (c.w (eq_of_beq h23))) (bd (pZ (i:=0) (c.b (.inl (eq_of_beq h23)))) (bd (zLz (ixx s q) _ _ (by omega)) rfl)))) ?_;exact zG0 h e cl hw rfl
 cases h25:(q.Code==25)
 case true=>
  have em:mIx s q=m25 s q:=by unfold mIx;rw [h28,h29,h24,h23,h25];rfl
  rw [em];refine bd (cf rfl (ct rfl (bd (zO3 (ixx s q) _ (by omega)) rfl))) ?_;exact zG0 h e cl hw rfl
 cases h26:(q.Code==26)
 case true=>
  have em:mIx s q=m26 s q:=by unfold mIx;rw [h28,h29,h24,h23,h25,h26];rfl
  rw [em];refine bd (cf rfl (cf rfl (ct rfl (bd (pZ (i:=0) (c.b (.inr (.inl (eq_of_beq h26))))) (bd (zMe (ixx s q) _ ok.b) rfl))))) ?_;exact zG0 h e cl hw rfl
 have em:mIx s q=m27 s q:=by unfold mIx;rw [h28,h29,h24,h23,h25,h26];rfl
 have h27:q.Code=27:=by
  have:=c.c;simp at h28 h29 h24 h23 h25 h26;omega
 rw [em];refine bd (cf rfl (cf rfl (cf rfl (bd (pZ (i:=0) (c.b (.inr (.inr h27)))) (bd (zPb (ixx s q) _ (by omega)) rfl))))) ?_;exact zG0 h e cl hw rfl
theorem zWl (h:zY s) (e:(ixf s (hnd q 1)).isSome=true):Gd s (mIx s q):=by
 unfold mIx;cases q.Code==28
 ·cases q.Code==29
  ·cases q.Code==24
   ·cases q.Code==23
    ·cases q.Code==25
     ·cases q.Code==26
      ·exact yI3 h e
      ·exact yIu h e
     ·exact yJd h e
    ·exact yJ0 h e
   ·exact yKq h e
  ·exact yIe h e
 ·exact yJ2 h e
def m30 (s:zB) (q:zC):zB×zD:=if 32<(blb q 0).length then (s,rs 4) else (yHo s (s.Stable.Auths.set (hnd q 0).toNat (blb q 0)),rs 0)
def clS (s:zB):zB:=⟨⟨s.Stable.Seeds.set 1 (rnB s 32),(s.Stable.Auths.set 1 []).set 3 [],s.Stable.Entropy,s.Stable.Active,s.Stable.Resets,s.Stable.Restarts,s.Stable.Clock,s.Stable.Orderly,s.Stable.Saved,s.Stable.MaxCounter,[],⟨0,5,100,0,0,1000⟩,s.Stable.Keys⟩,⟨s.Volatile.Started,s.Volatile.Stopped,s.Volatile.Registers,s.Volatile.Clock,s.Volatile.Safe,Qa.wrap (s.Volatile.Draws+1),Qp 3 ss0,Qp 3 ob0,[],[]⟩⟩
def m31 (s:zB):zB×zD:=(clS s,rs 0)
def m32 (s:zB):zB×zD:=(eA s ⟨0,s.Stable.Lockout.Max,s.Stable.Lockout.Recovery,s.Volatile.Clock,s.Stable.Lockout.Closed,s.Stable.Lockout.Penalty⟩,rs 0)
def m33 (s:zB) (q:zC):zB×zD:=dn s (eA s (lM s.Stable.Lockout (int q 0) (int q 1) (int q 2)).1) (lM s.Stable.Lockout (int q 0) (int q 1) (int q 2)).2
theorem zKk {l:List By} (h:∀ x∈l,x.length<=32) {y:By} (hy:y.length<=32):∀ x∈l.set i y,x.length<=32:=λx hx=>by
 rcases Q9 hx with hx | hx
 ·exact h x hx
 ·rw [hx];exact hy
theorem yKi (h:zY s) (q:zC):Gd s (m30 s q):=by
 unfold m30;split
 ·exact uH h _
 ·exact zBt (zYo h (by rw [Q8];exact h.al) (zKk h.ae (by omega)))
theorem yJq (h:zY s):zY (clS s):=
 ⟨by show (s.Stable.Seeds.set 1 (rnB s 32)).length=3;rw [Q8];exact h.sl,zKk h.se (by rw [zE9 _ _ (by decide)];decide),by show ((s.Stable.Auths.set 1 []).set 3 []).length=4;rw [Q8,Q8];exact h.al,zKk (zKk h.ae (Q1 _)) (Q1 _),h.en,h.a0,h.a3,h.sv,h.sn,h.rg,zDh.1,zDh.2,zJs.1,zJs.2,Q1 _,λx hx=>(by cases hx),List.nodup_nil,h.kl,h.ky,lk0,lk0⟩
theorem yJf (h:zY s):Gd s (m31 s):=zBt (yJq h)
theorem yJ1 (h:zY s):Gd s (m32 s):=zBt (zEj h _)
theorem yJm (h:zY s) (q:zC):Gd s (m33 s q):=zKe h λ_=>zEj h _
theorem zG3 {l:List By} (hl:l.length<2 ^ 40) (hi:i<l.length) (x:By):tX l (i:Int) x=some (l.set i x):=by
 unfold tX;exact bd (cln (by omega)) (bd (ct (decide_eq_true (by omega)) (zBv hi _)) rfl)
theorem len3 {l:List α} (h:l.length=3):∃ a b c,l=[a,b,c]:=by
 match l,h with
 | [a,b,c],_=>exact ⟨a,b,c,rfl⟩
theorem len4 {l:List α} (h:l.length=4):∃ a b c d,l=[a,b,c,d]:=by
 match l,h with
 | [a,b,c,d],_=>exact ⟨a,b,c,d,rfl⟩
set_option maxRecDepth 100000
def m18 (s:zB) (q:zC):zB×zD:=bif (aut q).Session==int q 0 then (s,rs 8) else dn s (seV s (int q 0) (rnm s (hnd q 0)) (blb q 0) (int q 1)).1 (seV s (int q 0) (rnm s (hnd q 0)) (blb q 0) (int q 1)).2
def m19 (s:zB) (q:zC):zB×zD:=if (ldD q).2≠0 then (s,rs (ldD q).2) else dn s (apV s (int q 0) (ldD q).1 (blb q 1) (blb q 2)).1 (apV s (int q 0) (ldD q).1 (blb q 1) (blb q 2)).2
def m20 (s:zB) (q:zC):zB×zD:=bif ((sfV s (int q 0)).2 != 0)||((sfV s (int q 0)).1.Kind==1) then (s,rs 8) else (s,⟨0,[],[(sfV s (int q 0)).1.Digest],[]⟩)
def bdy (s:zB) (loc:Int) (q:zC):zB×zD:=
 bif q.Code==1 then m1 s q else bif q.Code==2 then m2 s q else bif q.Code==4 then m4 s else bif q.Code==5 then m5 s q else bif q.Code==6 then m6 s loc q else bif q.Code==7 then m7 s loc q else bif q.Code==8 then m8 s loc q else
 bif q.Code==9 then prV s q else bif q.Code==10 then crO s q else bif q.Code==11 then ldV s q else bif q.Code==12 then flV s q else bif q.Code==13 then usV s q else bif q.Code==14 then snV s q else bif q.Code==15 then qtV s q else
 bif q.Code==16 then m16 s q else bif q.Code==17 then m17 s q else bif q.Code==18 then m18 s q else bif q.Code==19 then m19 s q else bif q.Code==20 then m20 s q else bif q.Code==21 then m21 s q else bif q.Code==22 then m22 s q else
 bif q.Code==30 then m30 s q else bif q.Code==31 then m31 s else bif q.Code==32 then m32 s else bif q.Code==33 then m33 s q else mIx s q
theorem cnt (k:RqS q) (hc:q.Code=c) {a b:Nat} (e:shp c=(A4.mk (a:Int) (b:Int) (i:Int) n,true)):q.Handles.length=a/\q.Auths.length=b/\q.Ints.length=i/\(0<=n->(q.Blobs.length:Int)=n):=by
 have h1:=k.h;have h2:=k.a;have h3:=k.i;have h4:=k.b;rw [hc,e] at h1 h2 h3 h4;simp only at h1 h2 h3 h4;exact ⟨by omega,by omega,by omega,λ_=>by omega⟩
structure AlQ (s:zB) (q:zC):Prop where
 c9:q.Code=9->0<=hnd q 0/\hnd q 0<=2
 ob:q.Code=10∨q.Code=11∨q.Code=13∨q.Code=14∨q.Code=15->(obf s (hnd q 0)).isSome=true
 ex:q.Code=18->exs s (hnd q 0)=true
 ix:23<=q.Code/\q.Code<=29->(ixf s (hnd q 1)).isSome=true
 au:q.Code=30->0<=hnd q 0/\hnd q 0<=3
 st:q.Code≠1->s.Volatile.Started=true
theorem yK5 (r:zD) (h:r.Nonces=[]):zD.mk r.Err r.Ints r.Blobs []=r:=by obtain ⟨a,b,c,d⟩:=r;simp only at h;subst h;rfl
theorem tl3 (h:r.2.Nonces=[]):some (r.1,zD.mk r.2.Err r.2.Ints r.2.Blobs [])=some r:=congrArg some (Prod.ext rfl (yK5 _ h))
theorem tl2 (h:r.2.Nonces=[]) (hi:r.2.Ints=[]):some (r.1,zD.mk r.2.Err [] r.2.Blobs [])=some r:=by rw [<- hi];exact tl3 h
theorem tl1 (h:r.2.Nonces=[]) (hi:r.2.Ints=[]) (hb:r.2.Blobs=[]):some (r.1,zD.mk r.2.Err [] [] [])=some r:=by
 have:zD.mk r.2.Err [] [] []=zD.mk r.2.Err r.2.Ints r.2.Blobs []:=by rw [hi,hb]
 rw [this];exact tl3 h
theorem yBg {t:zB} (h:zY s) {x:zR} (hx:zLm x) {b:List By} (h1:b.length<=8) (h2:(b.map (·.length)).sum<=1500):Gd s (ldR s x b):=by
 unfold ldR;cases frO s with
 | some k=>exact ⟨λe=>absurd rfl e,rfl,zWz h hx,by simp,h1,h2⟩
 | none=>exact uH h _
theorem zFu (h:mW p):(enc p).length<=80:=by
 have h1:=rB [u8 p.Kind,u8 p.Attr,u8 p.Height] p.Policy 32 (by have:=h.pl;omega);have h2:=rB (xX [u8 p.Kind,u8 p.Attr,u8 p.Height] p.Policy) p.Unique 32 (by rw [h.un];split<;>decide);simp only [Q0,Q3] at h1;unfold enc;omega
theorem zHm {a:zJ} {t:zJ} (h:zBb t):(zH3 a p t).length<=400:=by
 have e1:=rB [] t.Auth 32 h.au;have e2:=rB (xX [] t.Auth) t.Seed 32 h.sd;have e3:=rB (xX (xX [] t.Auth) t.Seed) t.Data 128 h.dt;have e4:(zDv t).length<=198:=by unfold zDv;simp only [Q3] at e1;omega
 unfold zH3 zN6;split
 ·exact Q1 _
 ·have l1:=rB [] ((nm p).take 16) 16 (by simp;omega);have l2:=rB (xX [] ((nm p).take 16)) (zI9 (zFi a p) ((nm p).take 16) (zDv t)) 198 (by rw [zEu];exact e4);rw [Q4,zHv];simp only [Q3] at l1;omega
theorem yEl (h:zY s) {x:zR} (hx:mW x.Public) (m:By):(sgV s x m).2.1.length<=700:=by
 unfold sgV;by_cases g:(lfV s x).2.2=0
 ·rw [if_neg (by simp [g])];obtain ⟨a,b⟩:=(zPp h hx).2 g;have h3:x.Public.Height.toNat<=3:=by have:=hx.h3;omega
  have:=zSu x.Sensitive.Seed x.Public.Height.toNat (lfV s x).2.1.toNat m h3 (by omega);show (sig _ _ _ m).length<=700;omega
 ·rw [if_pos g];exact Q1 _
theorem zXb (a:wJ) (h1:a.Key.length<=32) (h2:a.Nonce.length<=128) (h3:a.Digest.length<=32):(atV a).length<=300:=by
 have e1:=rB aQ a.Key 32 h1;have e2:=rB (xX aQ a.Key) a.Nonce 128 h2;have e0:aQ.length=4:=rfl;unfold atV at2 at1;simp only [Q4,yJ,Q0,Q3];omega
theorem zZ9 (h:zY s) (q:zC):Gd s (prV s q):=by
 unfold prV;by_cases e:(pmM s q).2.2=0
 ·rw [if_neg (by simp [e])];obtain ⟨a,b⟩:=zP7 (secret:=dv (s.Stable.Seeds.getD (hnd q 0).toNat []) pmL (pmC q) 32) (t:=tpl q) (auth:=blb q 1) (data:=blb q 2) e;have h1:=zFu a;have h2:(enc (pmM s q).1).length<=80:=h1;have h3:=zCa (pmM s q).1;exact yBg (t:=s) h (yAw a b _) (show (2:Nat)<=8 by decide) (by simp;omega)
 ·rw [if_pos e];exact uH h _
theorem yA9 (h:zY s) (q:zC):Gd s (crO s q):=by
 unfold crO;cases (pob s q).Public.Kind != 1
 case true=>exact uH h _
 simp only [cond_false];by_cases e:(crM s q).2.2=0
 ·rw [if_neg (by simp [e])];obtain ⟨a,b⟩:=zP7 (secret:=rnB s 32) (t:=tpl q) (auth:=blb q 1) (data:=blb q 2) e;have h1:(enc (crM s q).1).length<=80:=zFu a;have h2:(zH3 (pob s q).Sensitive (crM s q).1 (crM s q).2.1).length<=400:=zHm b;exact yMc (zI1 h) (Q1 _) (by omega)
 ·rw [if_pos e];exact uH h _
theorem zYy (h:zY s) (q:zC):Gd s (ldV s q):=by
 unfold ldV;cases (pob s q).Public.Kind != 1
 case true=>exact uH h _
 simp only [cond_false];by_cases e:(ldD q).2=0
 case neg=>rw [if_pos e];exact uH h _
 rw [if_neg (by simp [e])];split
 ·exact uH h _
 ·have h3:=zCa (ldD q).1;exact yBg (t:=s) h (yAw (zOv e) yBc _) (show (1:Nat)<=8 by decide) (by simp;omega)
theorem zWi (h:zY s) (q:zC):Gd s (flV s q):=by
 have k:=yI6 h q;unfold flV at k ⊢;cases q1:obf s (int q 0) with
 | some i=>rw [q1] at k;exact zBt k
 | none=>
  rw [q1] at k;cases q2:ssf s (int q 0) with
  | some i=>rw [q2] at k;exact zBt k
  | none=>exact uH h _
theorem yBv (h:zY s) (e:(obf s (hnd q 0)).isSome=true):Gd s (usV s q):=by
 have hd:=(zB8 h e).2.dt;unfold usV;cases (pob s q).Public.Kind != 3
 ·exact zMa h (Q1 _) (by omega)
 ·exact uH h _
theorem zXi (h:zY s) (e:(obf s (hnd q 0)).isSome=true) (m:By) {f:By->List By} (hf:∀ x:By,x.length<=700->(f x).length<=8/\((f x).map (·.length)).sum<=1500):Gd s (snR s q m f):=by
 unfold snR;split
 ·exact uH h _
 ·obtain ⟨a,b⟩:=hf _ (yEl h (zB8 h e).1 m);exact ⟨λe=>absurd rfl e,rfl,yJb h (zB8 h e).1 m,Q1 _,a,b⟩
theorem zY4 (h:zY s) (e:(obf s (hnd q 0)).isSome=true):Gd s (snV s q):=by
 unfold snV;split
 ·exact uH h _
 ·exact zXi h e _ λx hx=>⟨show (1:Nat)<=8 by decide,by simp;omega⟩
theorem yA2 (h:zY s) (e:(obf s (hnd q 0)).isSome=true):Gd s (qtV s q):=by
 unfold qtV;by_cases g:snE s q true=0
 case neg=>rw [if_pos g];exact uH h _
 rw [if_neg (by simp [g])];split
 ·exact uH h _
 ·have hb:(blb q 0).length<=128:=by
   rw [yHb] at g;cases g1:(pob s q).Public.Kind != 2<;>rw [g1] at g
   case true=>cases g
   cases g2:yX .i64 (pob s q).Public.Attr 4==0<;>rw [g2] at g
   case true=>cases g
   cases g3:decide (128<((blb q 0).length:Int))<;>rw [g3] at g
   case true=>cases g
   have:=dF g3;omega
  have ha:(atV (qtA s q)).length<=300:=zXb _ (by show (nm _).length<=32;rw [zCa];decide) hb (zQt _ _);exact zXi h e _ λx hx=>⟨show (2:Nat)<=8 by decide,by simp;omega⟩
theorem zV3 (h:zY s) (q:zC):Gd s (m18 s q):=by
 unfold m18;cases (aut q).Session==int q 0
 ·exact zKe h λe=>yJ6 h e
 ·exact uH h _
theorem zWs (h:zY s) (q:zC):Gd s (m19 s q):=by
 unfold m19;split
 ·exact uH h _
 ·exact zKe h λe=>yJ5 h e
theorem zZy (h:zY s) (q:zC):Gd s (m20 s q):=by
 unfold m20;cases ((sfV s (int q 0)).2 != 0)||((sfV s (int q 0)).1.Kind==1)
 ·exact zMa h (Q1 _) (by have:=(zR8 h (int q 0)).2;omega)
 ·exact uH h _
theorem eF (k:RqS q):1<=q.Code/\q.Code<=33/\q.Code≠3:=by
 have h:=k.s;unfold shp at h;by_cases g:0<=q.Code/\q.Code<=33
 ·rw [if_pos g] at h;obtain ⟨n,hn⟩:=Q2 g.1;rw [hn] at h ⊢;rw [Q6] at h;have key:∀ n:Fin 34,(shT.getD n.val shD).2=true->1<=(n.val:Int)/\(n.val:Int)<=33/\(n.val:Int)≠3:=by decide +kernel
  exact key ⟨n,by omega⟩ h
 ·rw [if_neg g] at h;cases h
theorem zOx (h:zY s) (al:AlQ s q) (k:RqS q) (loc:Int):Gd s (bdy s loc q):=by
 have hk:=eF k;unfold bdy;cases h1:q.Code==1
 case true=>exact yKx h q
 cases h2:q.Code==2
 case true=>exact yK3 h q
 cases h4:q.Code==4
 case true=>exact yLd h
 cases h5:q.Code==5
 case true=>exact yHi h q
 cases h6:q.Code==6
 case true=>exact yHy h loc q
 cases h7:q.Code==7
 case true=>exact yHt h loc q
 cases h8:q.Code==8
 case true=>exact yGw h loc q
 cases h9:q.Code==9
 case true=>exact zZ9 h q
 cases h10:q.Code==10
 case true=>exact yA9 h q
 cases h11:q.Code==11
 case true=>exact zYy h q
 cases h12:q.Code==12
 case true=>exact zWi h q
 cases h13:q.Code==13
 case true=>exact yBv h (al.ob (by have:=eq_of_beq h13;omega))
 cases h14:q.Code==14
 case true=>exact zY4 h (al.ob (by have:=eq_of_beq h14;omega))
 cases h15:q.Code==15
 case true=>exact yA2 h (al.ob (by have:=eq_of_beq h15;omega))
 cases h16:q.Code==16
 case true=>exact yB0 h q
 cases h17:q.Code==17
 case true=>exact zYb h q
 cases h18:q.Code==18
 case true=>exact zV3 h q
 cases h19:q.Code==19
 case true=>exact zWs h q
 cases h20:q.Code==20
 case true=>exact zZy h q
 cases h21:q.Code==21
 case true=>exact yI5 h q
 cases h22:q.Code==22
 case true=>exact yJa h q
 cases h30:q.Code==30
 case true=>exact yKi h q
 cases h31:q.Code==31
 case true=>exact yJf h
 cases h32:q.Code==32
 case true=>exact yJ1 h
 cases h33:q.Code==33
 case true=>exact yJm h q
 refine zWl h (al.ix ?_);simp at h1 h2 h4 h5 h6 h7 h8 h9 h10 h11 h12 h13 h14 h15 h16 h17 h18 h19 h20 h21 h22 h30 h31 h32 h33;omega
set_option maxRecDepth 100000
set_option linter.unusedSectionVars false
theorem zO0 (s:zB) (x:zE×Int) (b:List By):(bif x.2 != 0 then some (s,rs x.2) else some (zZ7 s x.1,zD.mk 0 [] b []))=some (mR s x b):=by
 unfold mR;by_cases g:x.2=0
 ·rw [if_neg (by simp [g])];exact cf (b0 g) rfl
 ·rw [if_pos g];exact ct (b1 g) rfl
section
variable (h:zY s) (k:RqS q) (loc:Int)
include h k
theorem mp1 (hc:q.Code=1) (al:s.Volatile.Stopped=false->s.Stable.Saved.Banks=[]):sX s loc q=some (m1 s q):=by
 obtain ⟨_,_,c,_⟩:=cnt k hc (a:=0) (b:=0) (i:=1) (n:=0) (by decide +kernel);unfold sX m1;rw [hc];have e:=(zKu h.a0 h.a3 (int q 0) (.inr al)).2;have he:=yHr s (int q 0);have ht:=λg=>zW8 (s:=s) (m:=int q 0) g;generalize suV s (int q 0)=x at *;obtain ⟨t,er⟩:=x;exact ct rfl (bd (tN (i:=0) (by omega)) (bd e (bd (zZn _ _ _) (yAc he λg=>by rw [(Prod.mk.inj (ht g)).1];rfl))))
omit h k in
theorem mp4 (hc:q.Code=4):sX s loc q=some (m4 s):=by
 unfold sX m4;rw [hc];refine cf rfl (cf rfl (ct rfl ?_));cases s.Volatile.Safe<;>rfl
omit h k in
theorem yLk (s:zB) (q:zC):(m17 s q).2.Ints=[]/\(m17 s q).2.Blobs=[]/\(m17 s q).2.Nonces=[]:=by
 unfold m17;cases !asO q
 ·cases (int q 1==4)&&(ixf s (int q 4)).isNone
  ·exact dn_n _ _ _
  ·exact ⟨rfl,rfl,rfl⟩
 ·exact ⟨rfl,rfl,rfl⟩
end
theorem yL2 (k:RqS q) (h:q.Auths.length≠0):q.Code=9∨q.Code=10∨q.Code=11∨q.Code=13∨q.Code=14∨q.Code=15∨q.Code=18∨q.Code=21∨q.Code=22∨q.Code=30∨q.Code=31∨q.Code=32∨q.Code=33∨(23<=q.Code/\q.Code<=29):=by
 obtain ⟨c1,c2,c3⟩:=eF k;have ha:=k.a;unfold shp at ha;rw [if_pos ⟨by omega,c2⟩] at ha;obtain ⟨n,hn⟩:=Q2 (by omega:0<=q.Code);rw [hn] at ha c1 c2 c3 ⊢;rw [Q6] at ha;have key:∀ n:Fin 34,(shT.getD n.val shD).1.a1≠0->(n.val:Int)=9∨(n.val:Int)=10∨(n.val:Int)=11∨(n.val:Int)=13∨(n.val:Int)=14∨(n.val:Int)=15∨(n.val:Int)=18∨(n.val:Int)=21∨(n.val:Int)=22∨(n.val:Int)=30∨(n.val:Int)=31∨(n.val:Int)=32∨(n.val:Int)=33∨(23<=(n.val:Int)/\(n.val:Int)<=29):=by decide +kernel
 exact key ⟨n,by omega⟩ (by show (shT.getD n shD).1.a1≠0;omega)
theorem sA {loc:Int} (hc:q.Code=c) 
  (e:(bif c==1 then m1 s q else bif c==2 then m2 s q else bif c==4 then m4 s else bif c==5 then m5 s q else bif c==6 then m6 s loc q else bif c==7 then m7 s loc q else bif c==8 then m8 s loc q else
 bif c==9 then prV s q else bif c==10 then crO s q else bif c==11 then ldV s q else bif c==12 then flV s q else bif c==13 then usV s q else bif c==14 then snV s q else bif c==15 then qtV s q else
 bif c==16 then m16 s q else bif c==17 then m17 s q else bif c==18 then m18 s q else bif c==19 then m19 s q else bif c==20 then m20 s q else bif c==21 then m21 s q else bif c==22 then m22 s q else
 bif c==30 then m30 s q else bif c==31 then m31 s else bif c==32 then m32 s else bif c==33 then m33 s q else mIx s q)=r):bdy s loc q=r:=by unfold bdy;rw [hc];exact e
theorem zS2 (h:zY s) (k:RqS q) (loc:Int) (c:q.Code=1∨q.Code=4):sX s loc q=some (bdy s loc q)/\(bdy s loc q).2.Blobs=[]:=by
 rcases c with hc | hc
 ·rw [sA (r:=m1 s q) hc rfl];exact ⟨mp1 h k loc hc h.sn.1,(dn_n _ _ _).2.1⟩
 ·rw [sA (r:=m4 s) hc rfl];exact ⟨mp4 loc hc,rfl⟩
theorem tl4 (h:r.2.Nonces=[]) (hb:r.2.Blobs=[]):some (r.1,zD.mk r.2.Err r.2.Ints [] [])=some r:=by
 obtain ⟨a,b,c,d,e⟩:=r;simp only at h hb;subst h hb;rfl
set_option maxRecDepth 100000
set_option linter.unusedSectionVars false
theorem yMz (s:zB) (q:zC):(crO s q).2.Ints=[]:=by
 unfold crO;cases (pob s q).Public.Kind != 1
 ·simp only [cond_false];split<;>rfl
 ·rfl
theorem yLj (s:zB) (q:zC):(usV s q).2.Ints=[]:=by unfold usV;cases (pob s q).Public.Kind != 3<;>rfl
theorem yG3 (s:zB) (q:zC) (m:By) (f:By->List By):(snR s q m f).2.Ints=[]:=by unfold snR;split<;>rfl
theorem yLr (s:zB) (q:zC):(snV s q).2.Ints=[]:=by unfold snV;split;rfl;exact yG3 _ _ _ _
theorem yMd (s:zB) (q:zC):(qtV s q).2.Ints=[]:=by
 unfold qtV;split
 ·rfl
 split
 ·rfl
 ·exact yG3 _ _ _ _
theorem yHx (s:zB) (q:zC):(m21 s q).2.Ints=[]/\(m21 s q).2.Blobs=[]/\(m21 s q).2.Nonces=[]:=by
 unfold m21;split
 ·exact ⟨rfl,rfl,rfl⟩
 cases zD5 s (nwX q).1.N
 ·simp only [cond_false];split<;>exact ⟨rfl,rfl,rfl⟩
 ·exact ⟨rfl,rfl,rfl⟩
theorem yG9 (s:zB) (q:zC):(m22 s q).2.Ints=[]/\(m22 s q).2.Blobs=[]/\(m22 s q).2.Nonces=[]:=by
 unfold m22;cases zD5 s (int q 0)<;>exact ⟨rfl,rfl,rfl⟩
theorem yK4 (s:zB) (q:zC):(m30 s q).2.Ints=[]/\(m30 s q).2.Blobs=[]/\(m30 s q).2.Nonces=[]:=by unfold m30;split<;>exact ⟨rfl,rfl,rfl⟩
theorem zSo (s:zB) (q:zC) (x:zF) (m e:Int):(wrI s q x m e).2.Ints=[]:=by
 unfold wrI;cases has s.Volatile.WriteLocks (ixx s q).N
 ·simp only [cond_false];split<;>rfl
 ·rfl
theorem yLc (s:zB) (q:zC):(mIx s q).2.Ints=[]:=by
 unfold mIx;cases q.Code==28
 ·cases q.Code==29
  ·cases q.Code==24
   ·cases q.Code==23
    ·cases q.Code==25
     ·cases q.Code==26
      ·exact zSo _ _ _ _ _
      ·exact zSo _ _ _ _ _
     ·exact zSo _ _ _ _ _
    ·exact zSo _ _ _ _ _
   ·show (m24 s q).2.Ints=[];unfold m24;cases has s.Volatile.ReadLocks (ixx s q).N
    ·simp only [cond_false];split<;>rfl
    ·rfl
  ·rfl
 ·rfl
section
variable (h:zY s) (k:RqS q) (loc:Int) (al:AlQ s q)
include h k
theorem ixQ (hc:23<=q.Code/\q.Code<=29):IxQ q/\q.Auths.length=1:=by
 have e:q.Code=23∨q.Code=24∨q.Code=25∨q.Code=26∨q.Code=27∨q.Code=28∨q.Code=29:=by omega
 rcases e with e | e | e | e | e | e | e
 ·obtain ⟨a,b,c,d⟩:=cnt k e (a:=2) (b:=1) (i:=1) (n:=1) (by decide +kernel);have d:=d (by decide);exact ⟨⟨by omega,λ_=>by omega,λ_=>by omega,λ_=>by omega,hc⟩,b⟩
 ·obtain ⟨a,b,c,d⟩:=cnt k e (a:=2) (b:=1) (i:=2) (n:=0) (by decide +kernel);exact ⟨⟨by omega,λ_=>by omega,λ_=>by omega,λ_=>by omega,hc⟩,b⟩
 ·obtain ⟨a,b,c,d⟩:=cnt k e (a:=2) (b:=1) (i:=0) (n:=0) (by decide +kernel);exact ⟨⟨by omega,λ_=>by omega,λ_=>by omega,λ_=>by omega,hc⟩,b⟩
 ·obtain ⟨a,b,c,d⟩:=cnt k e (a:=2) (b:=1) (i:=0) (n:=1) (by decide +kernel);have d:=d (by decide);exact ⟨⟨by omega,λ_=>by omega,λ_=>by omega,λ_=>by omega,hc⟩,b⟩
 ·obtain ⟨a,b,c,d⟩:=cnt k e (a:=2) (b:=1) (i:=0) (n:=1) (by decide +kernel);have d:=d (by decide);exact ⟨⟨by omega,λ_=>by omega,λ_=>by omega,λ_=>by omega,hc⟩,b⟩
 ·obtain ⟨a,b,c,d⟩:=cnt k e (a:=2) (b:=1) (i:=0) (n:=0) (by decide +kernel);exact ⟨⟨by omega,λ_=>by omega,λ_=>by omega,λ_=>by omega,hc⟩,b⟩
 ·obtain ⟨a,b,c,d⟩:=cnt k e (a:=2) (b:=1) (i:=0) (n:=0) (by decide +kernel);exact ⟨⟨by omega,λ_=>by omega,λ_=>by omega,λ_=>by omega,hc⟩,b⟩
include al
theorem ma9 (hc:q.Code=9):True/\oI s q=some (prV s q):=by
 obtain ⟨a,b,c,d⟩:=cnt k hc (a:=1) (b:=1) (i:=3) (n:=3) (by decide +kernel);have d:=d (by decide);have g:=al.c9 hc;exact ⟨trivial,zMd h k.ok (by omega) (by omega) (by omega) g.1 g.2⟩
theorem ma10 (hc:q.Code=10):True/\mI s q=some (crO s q):=by
 obtain ⟨a,b,c,d⟩:=cnt k hc (a:=1) (b:=1) (i:=3) (n:=3) (by decide +kernel);have d:=d (by decide);have g:=al.ob (.inl hc);exact ⟨trivial,zPy h k.ok (by omega) (by omega) (by omega) g⟩
theorem ma11 (hc:q.Code=11):True/\eU s q=some (ldV s q):=by
 obtain ⟨a,b,c,d⟩:=cnt k hc (a:=1) (b:=1) (i:=0) (n:=2) (by decide +kernel);have d:=d (by decide);have g:=al.ob (.inr (.inl hc));exact ⟨trivial,zZt h k.ok (by omega) (by omega) g⟩
theorem ma13 (hc:q.Code=13):True/\nQ s q=some (usV s q):=by
 obtain ⟨a,b,c,d⟩:=cnt k hc (a:=1) (b:=1) (i:=0) (n:=0) (by decide +kernel);have g:=al.ob (by omega);exact ⟨trivial,zO6 h k.ok (by omega) g⟩
theorem ma14 (hc:q.Code=14):True/\eM s q=some (snV s q):=by
 obtain ⟨a,b,c,d⟩:=cnt k hc (a:=1) (b:=1) (i:=0) (n:=1) (by decide +kernel);have d:=d (by decide);have g:=al.ob (by omega);exact ⟨trivial,zUo h k.ok (by omega) (by omega) g⟩
theorem ma15 (hc:q.Code=15):True/\jW s q=some (qtV s q):=by
 obtain ⟨a,b,c,d⟩:=cnt k hc (a:=1) (b:=1) (i:=2) (n:=1) (by decide +kernel);have d:=d (by decide);have g:=al.ob (by omega);exact ⟨trivial,zTb h k.ok (by omega) (by omega) (by omega) g⟩
theorem ma21 (hc:q.Code=21):tD s q=some (m21 s q)/\mC s q=some (m21 s q):=by
 obtain ⟨a,b,c,d⟩:=cnt k hc (a:=1) (b:=1) (i:=4) (n:=2) (by decide +kernel);have d:=d (by decide);obtain ⟨n1,n2,n3⟩:=yHx s q;refine ⟨?_,zQc h (by omega) (by omega)⟩;unfold tD;rw [hc];exact cf rfl (cf rfl (cf rfl (cf rfl (cf rfl (cf rfl (cf rfl (ct rfl (bd (zPl h (by omega) (by omega)) (tl1 n3 n1 n2)))))))))
theorem ma22 (hc:q.Code=22):tD s q=some (m22 s q)/\qH s q=some (m22 s q):=by
 obtain ⟨a,b,c,d⟩:=cnt k hc (a:=1) (b:=1) (i:=1) (n:=0) (by decide +kernel);obtain ⟨n1,n2,n3⟩:=yG9 s q;have i0:=k.i0 _ (zGh (d:=0) (show 0<q.Ints.length by omega));refine ⟨?_,zK1 h (by omega) i0.1 i0.2⟩;unfold tD;rw [hc];exact cf rfl (cf rfl (cf rfl (cf rfl (cf rfl (cf rfl (cf rfl (cf rfl (ct rfl (bd (tN (i:=0) (by omega)) (bd (zKw h q) (tl1 n3 n1 n2)))))))))))
theorem mg30 (hc:q.Code=30):kW s q=some (m30 s q)/\hH s q=some (m30 s q):=by
 obtain ⟨a,b,c,d⟩:=cnt k hc (a:=1) (b:=1) (i:=0) (n:=1) (by decide +kernel);have d:=d (by decide);have g:=al.au hc;obtain ⟨n,hn⟩:=Q2 g.1;have ll:=h.al;unfold kW hH m30;constructor
 ·rw [hc];by_cases g2:32<(blb q 0).length
  ·rw [if_pos g2];exact bd (ct rfl (bd (pZ (i:=0) (by omega)) (ct (decide_eq_true (by omega)) rfl))) rfl
  ·rw [if_neg g2];refine bd (ct rfl (bd (pZ (i:=0) (by omega)) (cf (decide_eq_false (by omega)) (bd (zDw (i:=0) (by omega)) (bd (pZ (i:=0) (by omega)) (bd (a:=s.Stable.Auths.set (hnd q 0).toNat (blb q 0)) ?_ rfl)))))) rfl;rw [hn];exact zG3 (by omega) (by omega) _
 ·refine bd (pZ (i:=0) (by omega)) ?_;by_cases g2:32<(blb q 0).length
  ·rw [if_pos g2];exact ct (decide_eq_true (by omega)) rfl
  ·rw [if_neg g2];refine cf (decide_eq_false (by omega)) (bd (ap0 (by omega)) (bd (zDw (i:=0) (by omega)) (bd (pZ (i:=0) (by omega)) ?_)));rw [hn];exact zBv (by omega) _
theorem mg31 (hc:q.Code=31):kW s q=some (m31 s)/\dV s=some (m31 s):=by
 have ll:=h.al;have ls:=h.sl;constructor
 ·unfold kW m31;rw [hc];refine bd (cf rfl (ct rfl (bd (zEv h 32).2 (bd (a:=s.Stable.Seeds.set 1 (rnB s 32)) (zG3 (i:=1) (by show s.Stable.Seeds.length<_;omega) (by show 1<s.Stable.Seeds.length;omega) _) (bd (a:=s.Stable.Auths.set 1 []) (zG3 (i:=1) (by show s.Stable.Auths.length<_;omega) (by show 1<s.Stable.Auths.length;omega) _) (bd (a:=(s.Stable.Auths.set 1 []).set 3 []) (zG3 (i:=3) (by rw [Q8];omega) (by rw [Q8];omega) _) (bd (a:=⟨0,5,100,0,0,1000⟩) rfl rfl))))))) rfl
 ·obtain ⟨x,y,z,hs⟩:=len3 ls;obtain ⟨u,v,w,t,ha⟩:=len4 ll;unfold dV m31 clS;refine bd (zEv h 32).1 ?_;rw [hs,ha];rfl
end
end Go.Proofs.TT
