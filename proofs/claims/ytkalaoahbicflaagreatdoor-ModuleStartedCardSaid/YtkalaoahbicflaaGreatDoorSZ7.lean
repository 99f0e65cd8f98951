/- ModuleStarted holds for all inputs -/
import Derived.Shelf.SlicesE.Clone
import Derived.Test.YtkalaoahbicflaaGreatDoorProg
import Derived.Test.YtkalaoahbicflaaGreatDoorSZ6
import Derived.Test.YtkalaoahbicflaaGreatDoorSZ4
import Derived.Lib.LazyBuf
import Derived.Laws.StructEq
import Derived.Lib.SliceRun
import Derived.Test.YtkalaoahbicflaaGreatDoorSZ3
set_option linter.all false
namespace Go.Proofs
open Go.Shelf
end Go.Proofs
namespace Go.Proofs.H
open Go Go.Sw Go.Proofs Go.Proofs.TT Go.RowKit Go.Lib Go.Shelf
end Go.Proofs.H
namespace Go.Proofs.Tryz.S
open Go Go.Sw Go.Proofs.TT
theorem zNc:Tryz.prog.follows .mixedOrders=true:=by kernel_rfl
abbrev Z (f na:Nat) (l:List PV) (v:AV) (b:List (Nat×zN)):Prop:=Ok Tryz.prog f na (mkS (argE 0 l) []) (mkS [(0,v)] b)
theorem Y {cx:Ctx} {q:Exit->AS->Prop} {s:AS} {ops:Array Oper} {id n:Nat} (hnt:cx.nt=n) (h:RK Tryz.prog ops ops.toList s λs' ms=>cO n ms=true/\(rQ ops ms&&zLw ops)=true/\q .normal s'):awp Tryz.prog cx (.region id ops true) q s:=rgd hnt zNc h
instance tenv:pB Tryz.prog:=⟨te,iG⟩
theorem zGp {b:List UInt8} {n:Int} {r:List UInt8} (h:zA7 b n=some r):Ok Tryz.prog 309 2 (mkS (argE 0 [.bytes b,.int .i64 n]) []) (mkS [(0,qY r)] []):=by
 unfold zA7 at h
 split at h
 ·rename_i x
  rcases zJ9 h with ⟨hn,h⟩ | ⟨hn,h⟩
  ·cases h
   have key:∀ (m:Nat),(∀ (b o c:Nat) (w:World),w.cell? ⟨b,o,none⟩=some (.int .u8 x.toNat)->Calls Tryz.prog 309 #[.slice (some ⟨b,o,none⟩) 1 c,.int .i64 (m:Int)] w λe w'=>e=.returned (.slice (some ⟨w.heap.size,0,none⟩) m m)/\∃ cs d cur,w'=(H.dr d (w.alloc (.cells cs 5))).setRow w.heap.size cur/\∀ j,j<m->cur[j]? = some (.int .u8 x.toNat)) ->
     Ok Tryz.prog 309 2 (mkS (argE 0 [.bytes [x],.int .i64 (m:Int)]) []) (mkS [(0,qY (List.replicate m x))] []):=by
    intro m hwalk
    refine ok_hand (ps:=[.bytes [x],.int .i64 m]) ⟨_,Tryz.func309,by kernel_rfl,by kernel_rfl⟩ λw M args hm hs hr=>?_
    have h0:=hr 0 _ rfl
    have h1:=xK (hr 1 _ rfl)
    obtain ⟨al⟩:=args
    match al,hs,h0,h1 with
    | [a0,a1],_,h0,h1=>
    simp at h0 h1
    subst h1
    cases h0 with
    | bytes _ b o n c g1 g2 g3=>
    simp at g1
    subst g1
    have hc:w.cell? ⟨b,o,none⟩=some (.int .u8 x.toNat):=hm _ _ _ (by simpa using g3 0 x rfl)
    refine (hwalk b o c w hc).mono ?_
    rintro e w' ⟨rfl,cs,d,cur,rfl,hcur⟩
    have hold:∀ i,i<w.heap.size->((H.dr d (w.alloc (.cells cs 5))).setRow w.heap.size cur).heap[i]? = w.heap[i]?:=by
     intro i hi
     rw [setRow_other _ _ _ _ (by omega)]
     exact hao w _ i hi
    have hg:((H.dr d (w.alloc (.cells cs 5))).setRow w.heap.size cur).heap[w.heap.size]? = some (.cells cur 5 (0,0)):=setRow_heap _ _ _ _ _ _ (heap_alloc_new w _)
    refine ⟨_,xY M w.heap.size 0 m (cur[·]?),rfl,rfl,rfl,rfl,?_,hold,uM ?_,?_,?_,?_⟩
    ·rw [setRow_size]
     show w.heap.size<=(w.alloc (.cells cs 5)).heap.size
     simp
    ·intro o _ _
     cases hmm:M w.heap.size o with
     | none=>rfl
     | some y=>have:=World.block_lt_of_cell? w _ (hm _ _ _ hmm);simp at this
    ·intro b' o' y hy
     unfold xY at hy
     split at hy
     ·rename_i hcc
      obtain ⟨rfl,_,_⟩:=hcc
      simp only [World.cell?,hg]
      simpa using hy
     ·have h2:=hm b' o' y hy
      have hlt:=World.block_lt_of_cell? w _ h2
      rw [World.cell?_of_block (hold b' hlt)]
      exact h2
    ·intro b' o' hlt
     unfold xY
     rw [if_neg (by omega)]
    ·refine .bytes _ _ 0 m m (by simp) (Nat.le_refl _) λi y hy=>?_
     rw [List.getElem?_replicate] at hy
     split at hy
     ·cases hy
      rename_i hlt
      simp only [xY,Nat.zero_add]
      rw [if_pos ⟨trivial,Nat.zero_le _,hlt⟩]
      exact hcur i hlt
     ·cases hy
   simp only [Bool.or_eq_true,beq_iff_eq] at hn
   rcases hn with rfl | rfl
   ·exact key 20 λb o c w hc=>H.walk_rep20 b o c x w hc
   ·exact key 32 λb o c w hc=>H.walk_rep32 b o c x w hc
  ·cases h
 ·cases h
end Go.Proofs.Tryz.S
set_option linter.all false
namespace Go.Sw
open Go
section
variable {P:Program} {te:TE} {s:AS} {o:Oper} {x y:Operand} {vx vy:AV} {bx by':List (Nat×zN)} {k:IntKind}
end
section
variable {P:Program} [T:pB P] {ops:Array Oper} {s:AS} {r:List Oper} {K:AS->List Mic->Prop} {d:Nat} {ty:TypeId} {pos:String} {af:Array Edge} {x y:Operand}
end
section
variable {P:Program} [T:pB P] {ops:Array Oper} {s:AS} {r:List Oper} {K:AS->List Mic->Prop} {d:Nat} {ty:TypeId} {pos:String} {af:Array Edge} {x y:Operand}
end
section
variable {P:Program} [T:pB P] {ops:Array Oper} {s:AS}
end
abbrev qP (k:Nat):Nat×AV:=(k,.ptr k 0)
theorem R {α:Sort _} {a:α}:a=a:=rfl
section
variable {P:Program} {cx:Ctx} {q:Exit->AS->Prop} {s:AS} {α β I:Type} {r:β} {ks:List Nat}
theorem bS {m:Option α} {k:α->Option β} (h:m.bind k=some r):∃ x,m=some x/\k x=some r:=bind_some h
theorem O {G:Prop} {m:Option α} {k:α->Option β} (h:m.bind k=some r) (K:∀ x,m=some x->k x=some r->G):G:=(bind_some h).elim λx h=>K x h.1 h.2
theorem V {G:Prop} {e:α} {f:α->Option β} (h:lt e f=some r) (K:∀ v,e=v->f v=some r->G):G:=K e rfl h
theorem C {G:Prop} {c:Bool} {a b:Option β} (h:(bif c then a else b)=some r) (x:c=true->a=some r->G) (y:c=false->b=some r->G):G:=(zJ9 h).elim (λh=>x h.1 h.2) λh=>y h.1 h.2
theorem N {G:Prop} (h:none=some r):G:=by cases h
theorem D {c:Code} {m:Option α} {k:α->Option β} (h:m.bind k=some r) (f:α->Exit×AS) (x:∀ j,m=some j->awp P cx c (OQ cx f j) s) (y:∀ j,k j=some r->q (f j).1 (f j).2):awp P cx c q s:=(bind_some h).elim λj h=>zH0 f j (x j h.1) (y j h.2)
theorem J {c:Code} {m:Option α} {k:α->Option β} (h:m.bind k=some r) (f:α->AS) (x:∀ j,m=some j->awp P cx c (OQ cx (λj=>(.normal,f j)) j) s) (y:∀ j,k j=some r->q .normal (f j)):awp P cx c q s:=D h _ x y
theorem U {X:Type} {body:Code} {step:X->Option (X ⊕ α)} {n:Nat} {x0:X} {k:α->Option β} (h:(zO step n x0).bind k=some r) (E:X->AS) (f:α->Exit×AS) (hi:Imp cx.pk s (E x0)) (hne:∀ y,(f y).1≠.normal)
  (hb:∀ x r,step x=some r->awp P cx body (OQ cx (LF E f) r) (E x)) (y:∀ j,k j=some r->q (f j).1 (f j).2):awp P cx (.loop body) q s:=(bind_some h).elim λj h=>yF6 E f h.1 hi hne hb (y j h.2)
theorem Q {X:Type} {body:Code} {step:X->Option (X ⊕ α)} {n:Nat} {x0:X} {k:α->Option β} (h:(zO step n x0).bind k=some r) (i:Nat) (E:X->AS) (f:α->AS) (hi:Imp cx.pk s (E x0))
  (hb:∀ x r,step x=some r->awp P cx body (OQ cx (LF E λy=>(.exit i,f y)) r) (E x)) (y:∀ j,k j=some r->q (.exit i) (f j)):awp P cx (.loop body) q s:=U h E _ hi (λ_ h=>by cases h) hb y
theorem K (h:q .normal s):awp P cx .skip q s:=zYl h
theorem X {id:Nat} (h:q (.exit id) s):awp P cx (.exit id) q s:=zY5 h
theorem T (h:q .ret s):awp P cx .ret q s:=yGm h
theorem B {id:Nat} {c:Code} (h:awp P cx c (zH8 id q) s):awp P cx (.block id c) q s:=zT3 h
theorem L {l:Nat} (h:q .normal s):awp P cx (.label l) q s:=zS9 h
theorem A {t:Nat} {x y:Code} {b:Bool} (he:b=true) (hc:s.env t=some (.p (.bool b))) (h:awp P cx x q s):awp P cx (.cond (.tmp t) x y) q s:=cT he hc h
theorem F {t:Nat} {x y:Code} {b:Bool} (he:b=false) (hc:s.env t=some (.p (.bool b))) (h:awp P cx y q s):awp P cx (.cond (.tmp t) x y) q s:=cF he hc h
theorem G {ops:Array Oper} {id n:Nat} (hnt:cx.nt=n) (h:RK P ops ops.toList s λs' ms=>cO n ms=true/\q .normal s'):awp P cx (.region id ops false) q s:=rgn hnt h
theorem S {x y:Code} (h:awp P cx x (zRx (awp P cx y q) q) s):awp P cx (.seq x y) q s:=yFd h
theorem lpX {env:List (Nat×AV)} {blk:List (Nat×zN)} (hpk:PK cx ks) (H:(gE s env,gB s id blk,(nO (lk blk) env&&ks.all (λk=>(lk blk k).isSome)))=(vE id env,vB id blk,true)) (h:uF (lk blk) blk=true):Imp cx.pk s (mkS env blk):=have ⟨a,H⟩:=pq H;have ⟨b,c⟩:=pq H;lp hpk a b c h
theorem lP {env:List (Nat×AV)} {blk:List (Nat×zN)} (hpk:PK cx ks) (H:(gE s env,gB s id blk,(nO (lk blk) env&&ks.all (λk=>(lk blk k).isSome)),uF (lk blk) blk)=(vE id env,vB id blk,true,true)):Imp cx.pk s (mkS env blk):=have ⟨a,H⟩:=pq H;have ⟨b,H⟩:=pq H;have ⟨c,d⟩:=pq H;lp hpk a b c d
theorem iX {c:Code} (env:List (Nat×AV)) (blk:List (Nat×zN)) (hpk:PK cx ks) (H:(gE s env,gB s id blk,(nO (lk blk) env&&ks.all (λk=>(lk blk k).isSome)),uF (lk blk) blk)=(vE id env,vB id blk,true,true)) (k:awp P cx c q (mkS env blk)):awp P cx c q s:=im (lP hpk H) k
theorem E {f:I->Exit×AS} {j i:I} {e:Exit} (h:some j=some i) (hpk:PK cx ks) {env:List (Nat×AV)} {blk:List (Nat×zN)} (H:(f j,gE s env,gB s id blk,(nO (lk blk) env&&ks.all (λk=>(lk blk k).isSome)),uF (lk blk) blk)=((e,mkS env blk),vE id env,vB id blk,true,true)):OQ cx f i e s:=by
 cases h;have ⟨a,H⟩:=pq H;exact ⟨by rw [a],by rw [a];exact lP hpk H⟩
theorem W {f:I->Exit×AS} {j i:I} {e:Exit} (h:some j=some i) (a:e=(f j).1) (b:Imp cx.pk s (f j).2):OQ cx f i e s:=by cases h;exact ⟨a,b⟩
theorem lR {env:List (Nat×AV)} {blk:List (Nat×zN)} (hpk:PK cx ks) (m:List (Nat×Nat))
  (H:(gE s env,gB s (rho m) blk,(nO (lk (bR (rho m) blk)) (rE (rho m) env)&&(ks.all (λk=>(lk (bR (rho m) blk) k).isSome) &&
   (((kR (rho m) blk).all λj=>(Nat.blt j BIG||Nat.ble BIG (rho (swp m) j))&&(kR (rho m) blk).all λj'=>!Nat.beq (rho (swp m) j) (rho (swp m) j')||Nat.beq j j')&&ks.all λk=>Nat.beq (rho (swp m) k) k))),
   uF (lk (bR (rho m) blk)) (bR (rho m) blk),rE (rho (swp m)) (rE (rho m) env),bR (rho (swp m)) (bR (rho m) blk))=(vE (AV.ren (rho m)) env,vB (zN.ren (rho m)) blk,true,true,env,blk)):Imp cx.pk s (mkS env blk):=
 have ⟨a,H⟩:=pq H;have ⟨b,H⟩:=pq H;have ⟨c,H⟩:=pq H;have ⟨d,H⟩:=pq H;have ⟨e,g⟩:=pq H;lr hpk m a b c d e g
theorem pU {pk:PKs} (t:Nat) {v:AV} {p:PV} {bs:List (Nat×zN)} (H:(s.env t,s.rd v)=(some v,some (p,bs))):Imp pk s (s.put t (.p p)):=have ⟨a,b⟩:=pq H;Imp.pure a b
theorem pV {pk:PKs} (t:Nat) {v:AV} {p:PV} {bs:List (Nat×zN)} (a:s.env t=some v) (b:s.rd v=some (p,bs)):Imp pk s (s.put t (.p p)):=Imp.pure a b
theorem pC {pk:PKs} (k:Nat) {l:List AV} (j:Nat) {z:AV} {p:PV} {bs:List (Nat×zN)} (H:(s.blk k,l[j]?,s.rd z)=(some (.var l),some z,some (p,bs))):Imp pk s (s.setb k (.var (l.set j (.p p)))):=have ⟨a,H⟩:=pq H;have ⟨b,c⟩:=pq H;Imp.pureC j a b c
theorem pD {pk:PKs} (k:Nat) {l:List AV} (j:Nat) {z:AV} {p:PV} {bs:List (Nat×zN)} (H:(s.blk k,l[j]?)=(some (.var l),some z)) (c:s.rd z=some (p,bs)):Imp pk s (s.setb k (.var (l.set j (.p p)))):=have ⟨a,b⟩:=pq H;Imp.pureC j a b c
theorem pM {pk:PKs} (t k:Nat) {c:PV} (H:(s.env t,s.blk k,Nat.blt 0 c.width)=(some (.nl c),none,true)):Imp pk s ((s.setb k (.buf c)).put t (.buf k 0)):=have ⟨a,H⟩:=pq H;have ⟨b,d⟩:=pq H;Imp.promote a b (Nat.le_of_ble_eq_true d)
theorem hA {f:FuncId} {fn:Func} {body:Code} {na:Nat} {en:List (Nat×AV)} {rs:AS} (E:I->AS) (j:I) (hf:P.funcs[f]? = some fn) (H:(fn.body,(fn.name == "runtime.NumGoroutine"),Nat.ble na fn.ntmps)=(some body,false,true))
  (hr:∀ cx:Ctx,PK cx []->jU P fn cx (E j) rs) (h:∀ cx:Ctx,cx.nt=fn.ntmps->PK cx []->awp P cx body (OQ cx (λj=>(.ret,E j)) j) (mkS en [])):Ok P f na (mkS en []) rs:=
 have ⟨a,H⟩:=pq H;have ⟨b,c⟩:=pq H;zQ7 (E j) hf a b (Nat.le_of_ble_eq_true c) (zP6 rfl) hr λcx n p=>zH0 (λj=>(.ret,E j)) j (h cx n p) ⟨rfl,Imp.refl⟩
theorem hB {f:FuncId} {fn:Func} {body:Code} {na:Nat} {en:List (Nat×AV)} {bl:zN} {rs:AS} (E:I->AS) (j:I) (hf:P.funcs[f]? = some fn) (H:(fn.body,(fn.name == "runtime.NumGoroutine"),Nat.ble na fn.ntmps)=(some body,false,true))
  (hr:∀ cx:Ctx,PK cx [0]->jU P fn cx (E j) rs) (h:∀ cx:Ctx,cx.nt=fn.ntmps->PK cx [0]->awp P cx body (OQ cx (λj=>(.ret,E j)) j) (mkS en [(0,bl)])):Ok P f na (mkS en [(0,bl)]) rs:=
 have ⟨a,H⟩:=pq H;have ⟨b,c⟩:=pq H;zQ7 (E j) hf a b (Nat.le_of_ble_eq_true c) (zQy rfl) hr λcx n p=>zH0 (λj=>(.ret,E j)) j (h cx n p) ⟨rfl,Imp.refl⟩
theorem r1 [T:pB P] {fn:Func} {rs:AS} {t:Nat} {av:AV} (H:(fn.results,s.env t,({ env:=lk [(0,av)],blk:=s.blk }:AS))=(#[.tmp t],some av,rs)):∀ cx:Ctx,PK cx ks->jU P fn cx s rs:=λ_ _=>have ⟨a,H⟩:=pq H;have ⟨b,c⟩:=pq H;uX T.ok a (.tmp _ _ b) (c▸Imp.refl)
section
variable {te:TE} {t1 t2 t3 t4 t5:TypeId} {x1 x2 x3 x4 x5:Operand} {v1 v2 v3 v4 v5:AV} {p1 p2 p3 p4 p5:PV} {b1 b2 b3 b4 b5:List (Nat×zN)}
theorem a1 (H:(s.get te t1 x1,s.rd v1)=(some v1,some (p1,b1))):iF s te [x1] [t1] [p1] (opS x1 v1++[]) (b1++[]):=have ⟨a,b⟩:=pq H;ac a b an
theorem a2 (H:(s.get te t1 x1,s.rd v1,s.get te t2 x2,s.rd v2)=(some v1,some (p1,b1),some v2,some (p2,b2))):iF s te [x1,x2] [t1,t2] [p1,p2] (opS x1 v1++(opS x2 v2++[])) (b1++(b2++[])):=have ⟨a,H⟩:=pq H;have ⟨b,H⟩:=pq H;ac a b (a1 H)
theorem a3 (H:(s.get te t1 x1,s.rd v1,s.get te t2 x2,s.rd v2,s.get te t3 x3,s.rd v3)=(some v1,some (p1,b1),some v2,some (p2,b2),some v3,some (p3,b3))):iF s te [x1,x2,x3] [t1,t2,t3] [p1,p2,p3] (opS x1 v1++(opS x2 v2++(opS x3 v3++[]))) (b1++(b2++(b3++[]))):=have ⟨a,H⟩:=pq H;have ⟨b,H⟩:=pq H;ac a b (a2 H)
theorem a4 (H:(s.get te t1 x1,s.rd v1,s.get te t2 x2,s.rd v2,s.get te t3 x3,s.rd v3,s.get te t4 x4,s.rd v4)=(some v1,some (p1,b1),some v2,some (p2,b2),some v3,some (p3,b3),some v4,some (p4,b4))):iF s te [x1,x2,x3,x4] [t1,t2,t3,t4] [p1,p2,p3,p4] (opS x1 v1++(opS x2 v2++(opS x3 v3++(opS x4 v4++[])))) (b1++(b2++(b3++(b4++[])))):=have ⟨a,H⟩:=pq H;have ⟨b,H⟩:=pq H;ac a b (a3 H)
end
end
section
variable {P:Program} {ops:Array Oper} {s:AS} {K:AS->List Mic->Prop} {A B D:Prop} {n:Nat} {ms:List Mic}
theorem RK.e (H:(K s [],cO n ms)=((cO n ms=true/\B),true)) (b:B):RK P ops [] s K:=have ⟨h,a⟩:=pq H;.nil (h▸⟨a,b⟩)
theorem RK.d (H:(K s [],cO n ms)=((cO n ms=true/\B/\D),true)) (b:B) (d:D):RK P ops [] s K:=have ⟨h,a⟩:=pq H;.nil (h▸⟨a,b,d⟩)
end
def evI (k:IntKind) (a b:Int):BinOp->Option PV
 | .add=>some (.int k (k.wrap (a+b)))
 | .sub=>some (.int k (k.wrap (a - b)))
 | .mul=>some (.int k (k.wrap (a*b)))
 | .and=>some (.int k (yX k a b))
 | .or=>some (.int k (ior k a b))
 | .xor=>some (.int k (wC k a b))
 | .andNot=>some (.int k (zAn k a b))
 | .eql=>some (.bool (a==b))
 | .neq=>some (.bool (a != b))
 | .lss=>some (.bool (decide (a<b)))
 | .leq=>some (.bool (decide (a<=b)))
 | .gtr=>some (.bool (decide (b<a)))
 | .geq=>some (.bool (decide (b<=a)))
 | _=>none
def evJ (a b:Int):BinOp->Option PV
 | .add=>some (.int .u8 (u8 (IntKind.u8.wrap (a+b))).toNat)
 | .sub=>some (.int .u8 (u8 (IntKind.u8.wrap (a - b))).toNat)
 | .mul=>some (.int .u8 (u8 (IntKind.u8.wrap (a*b))).toNat)
 | .and=>some (.int .u8 (u8 (yX .u8 a b)).toNat)
 | .or=>some (.int .u8 (u8 (ior .u8 a b)).toNat)
 | .xor=>some (.int .u8 (u8 (wC .u8 a b)).toNat)
 | .andNot=>some (.int .u8 (u8 (zAn .u8 a b)).toNat)
 | f=>evI .u8 a b f
def evT (a b:List UInt8):BinOp->Option PV
 | .eql=>some (.bool (SOp .eql a b))
 | .neq=>some (.bool (SOp .neq a b))
 | .lss=>some (.bool (SOp .lss a b))
 | .leq=>some (.bool (SOp .leq a b))
 | .gtr=>some (.bool (SOp .gtr a b))
 | .geq=>some (.bool (SOp .geq a b))
 | _=>none
def is8:IntKind->Bool
 | .u8=>true
 | _=>false
def evP (f:BinOp):AV->AV->Option PV
 | .p (.int k a),.p (.int k' b)=>bif decide (k=k') then bif is8 k then evJ a b f else evI k a b f else none
 | .p (.str a),.p (.str b)=>evT a b f
 | _,_=>none
def evA (te:TE) (t:TypeId) (f:Nat):AV->Option AV
 | .ptr k o=>match (te t).map TI.ty with
  | some (.struct fs)=>match fs[f]? with
   | some (ft,fo)=>match te ft with
    | some fi=>bif nzw fi then some (.ptr k (o+fo)) else none
    | none=>none
   | none=>none
  | _=>none
 | .p (.cptr (.agg l))=>match (te t).map TI.ty with
  | some (.struct fs)=>match fs[f]? with
   | some (ft,fo)=>match te ft with
    | some fi=>bif nzw fi then match iE fi.isAgg l fo fi.w with
     | some q=>some (.p (.cptr q))
     | none=>none else none
    | none=>none
   | none=>none
  | _=>none
 | _=>none
def evL (s:AS) (i:TI):AV->Option (AV×List (Nat×zN))
 | .ptr k o=>match s.blk k with
  | some (.var l)=>bif i.plain then match l[o]? with
   | some v=>some (v,[(k,.var l)])
   | none=>none else bif i.isAgg&&(Nat.beq o 0&&Nat.beq i.w l.length) then some (.ag l,[(k,.var l)]) else none
  | _=>none
 | .p (.cptr (.agg l))=>bif i.isAgg&&Nat.beq l.length i.w then some (.p (.agg l),[]) else none
 | .p (.cptr q)=>bif i.plain then some (.p q,[]) else none
 | _=>none
def evC (te:TE) (s d:TypeId):AV->Option AV
 | .p (.int k a)=>match (te s).map TI.ty,(te d).map TI.ty with
  | some (.int k'),some (.int k2)=>bif decide (k'=k) then bif is8 k2 then some (.p (.int .u8 (u8 a).toNat)) else some (.p (.int k2 (k2.wrap a))) else none
  | _,_=>none
 | _=>none
def ev1 (te:TE) (s:AS) (ty:TypeId):Op->Option (AV×List (Nat×AV)×List (Nat×zN))
 | .move x=>match s.get te ty x with
  | some v=>some (v,opS x v,[])
  | none=>none
 | .assign x=>match s.get te ty x with
  | some v=>some (v,opS x v,[])
  | none=>none
 | .binOp f tx x y t=>match s.get te tx x,s.get te t y with
  | some v,some w=>match evP f v w with
   | some p=>some (.p p,opS x v++opS y w,[])
   | none=>none
  | _,_=>none
 | .unOp .not tx x=>match s.get te tx x with
  | some (.p (.bool a))=>some (.p (.bool (!a)),opS x (.p (.bool a)),[])
  | _=>none
 | .fieldAddr t x f=>match s.get te 0 x with
  | some v=>match evA te t f v with
   | some w=>some (w,opS x v,[])
   | none=>none
  | none=>none
 | .load t x=>match s.get te 0 x,te t with
  | some v,some i=>match evL s i v with
   | some (w,bs)=>some (w,opS x v,bs)
   | none=>none
  | _,_=>none
 | .convert a b x=>match s.get te a x with
  | some v=>match evC te a b v with
   | some w=>some (w,opS x v,[])
   | none=>none
  | none=>none
 | .extract x n=>match s.get te 0 x with
  | some (.tu l)=>match l[n]? with
   | some v=>some (v,opS x (.tu l),[])
   | none=>none
  | _=>none
 | .nilCheck x=>match s.get te 0 x with
  | some (.ptr k n)=>some (.ptr k n,opS x (.ptr k n),[])
  | _=>none
 | _=>none
section
variable {P:Program} {te:TE} {s:AS} {o:Oper}
theorem yA8 {α:Type} {c:Bool} {x:Option α} {y:α} (h:(bif c then x else none)=some y):c=true/\x=some y:=by cases c<;>simp_all
theorem zY9 (hok:yO P te) {f:BinOp} {tx ty:TypeId} {x y:Operand} {k:IntKind} {a b:Int} {p:PV} (ho:o.op=.binOp f tx x y ty) (hx:s.get te tx x=some (.p (.int k a))) (hy:s.get te ty y=some (.p (.int k b))) (h:evI k a b f=some p):VA P o s (opS x (.p (.int k a))++opS y (.p (.int k b))) [] (.p p):=by
 cases f<;>simp only [evI,Option.some.injEq,reduceCtorEq] at h<;>subst h
 ·exact iop hok .add ho hx hy
 ·exact iop hok .sub ho hx hy
 ·exact iop hok .mul ho hx hy
 ·exact iop hok .and ho hx hy
 ·exact iop hok .or ho hx hy
 ·exact iop hok .xor ho hx hy
 ·exact iop hok .andNot ho hx hy
 ·exact cmp hok .eql ho hx hy
 ·exact cmp hok .neq ho hx hy
 ·exact cmp hok .lss ho hx hy
 ·exact cmp hok .leq ho hx hy
 ·exact cmp hok .gtr ho hx hy
 ·exact cmp hok .geq ho hx hy
theorem yIo (hok:yO P te) {f:BinOp} {tx ty:TypeId} {x y:Operand} {a b:Int} {p:PV} (ho:o.op=.binOp f tx x y ty) (hx:s.get te tx x=some (.p (.int .u8 a))) (hy:s.get te ty y=some (.p (.int .u8 b))) (h:evJ a b f=some p):VA P o s (opS x (.p (.int .u8 a))++opS y (.p (.int .u8 b))) [] (.p p):=by
 cases f<;>simp only [evJ] at h<;>first | exact zY9 hok ho hx hy h | (simp only [Option.some.injEq] at h;subst h)
 ·exact iop8 hok .add ho hx hy
 ·exact iop8 hok .sub ho hx hy
 ·exact iop8 hok .mul ho hx hy
 ·exact iop8 hok .and ho hx hy
 ·exact iop8 hok .or ho hx hy
 ·exact iop8 hok .xor ho hx hy
 ·exact iop8 hok .andNot ho hx hy
theorem yH0 (hok:yO P te) {f:BinOp} {tx ty:TypeId} {x y:Operand} {a b:List UInt8} {p:PV} (ho:o.op=.binOp f tx x y ty) (hx:s.get te tx x=some (.p (.str a))) (hy:s.get te ty y=some (.p (.str b))) (h:evT a b f=some p):VA P o s (opS x (.p (.str a))++opS y (.p (.str b))) [] (.p p):=by
 cases f<;>simp only [evT,Option.some.injEq,reduceCtorEq] at h<;>subst h
 ·exact scm hok .eql ho hx hy
 ·exact scm hok .neq ho hx hy
 ·exact scm hok .lss ho hx hy
 ·exact scm hok .leq ho hx hy
 ·exact scm hok .gtr ho hx hy
 ·exact scm hok .geq ho hx hy
theorem yI2 (hok:yO P te) {f:BinOp} {tx ty:TypeId} {x y:Operand} {v w:AV} {p:PV} (ho:o.op=.binOp f tx x y ty) (hx:s.get te tx x=some v) (hy:s.get te ty y=some w) (h:evP f v w=some p):VA P o s (opS x v++opS y w) [] (.p p):=by
 unfold evP at h
 split at h
 ·rename_i k a k' b
  by_cases e:k=k'
  ·subst e
   simp only [decide_true,cond_true] at h
   cases k<;>simp only [is8,cond_true,cond_false] at h<;>first | exact yIo hok ho hx hy h | exact zY9 hok ho hx hy h
  ·simp [e] at h
 ·exact yH0 hok ho hx hy h
 ·cases h
theorem yIm (hok:yO P te) {t:TypeId} {f:Nat} {x:Operand} {v w:AV} (ho:o.op=.fieldAddr t x f) (hx:s.get te 0 x=some v) (h:evA te t f v=some w):VA P o s (opS x v) [] w:=by
 unfold evA at h
 split at h
 ·split at h<;>try cases h
  split at h<;>try cases h
  split at h<;>try cases h
  rename_i h1 _ _ _ h2 _ _ h3
  obtain ⟨hz,h⟩:=yA8 h
  cases h
  exact fa hok ho h1 h2 h3 hz hx
 ·split at h<;>try cases h
  split at h<;>try cases h
  split at h<;>try cases h
  rename_i h1 _ _ _ h2 _ _ h3
  obtain ⟨hz,h⟩:=yA8 h
  split at h<;>try cases h
  rename_i h4
  exact fc hok ho h1 h2 h3 hz hx h4
 ·cases h
theorem yKo (hok:yO P te) {t:TypeId} {x:Operand} {v w:AV} {i:TI} {bs:List (Nat×zN)} (ho:o.op=.load t x) (hx:s.get te 0 x=some v) (ht:te t=some i) (h:evL s i v=some (w,bs)):VA P o s (opS x v) bs w:=by
 unfold evL at h
 split at h
 ·split at h<;>try cases h
  rename_i h1
  cases hp:i.plain<;>simp only [hp,cond_true,cond_false] at h
  ·obtain ⟨hz,h⟩:=yA8 h
   simp only [Bool.and_eq_true] at hz
   cases h
   have:=Nat.eq_of_beq_eq_true hz.2.1
   subst this
   exact ldW hok ho ht hz.1 hx h1 hz.2.2
  ·split at h<;>try cases h
   exact ld hok ho ht hp hx h1 ‹_›
 ·obtain ⟨hz,h⟩:=yA8 h
  simp only [Bool.and_eq_true] at hz
  cases h
  exact ldCN hok ho ht hz.1 hx hz.2
 ·rename_i q hq
  obtain ⟨hp,h⟩:=yA8 h
  cases h
  exact ldC hok ho ht hp hx (by cases q<;>first | rfl | exact absurd rfl (hq _))
 ·cases h
theorem yJ4 (hok:yO P te) {a b:TypeId} {x:Operand} {v w:AV} (ho:o.op=.convert a b x) (hx:s.get te a x=some v) (h:evC te a b v=some w):VA P o s (opS x v) [] w:=by
 unfold evC at h
 split at h
 ·split at h<;>try cases h
  rename_i k c _ _ k' k2 h1 h2
  by_cases e:k'=k
  ·subst e
   simp only [decide_true,cond_true] at h
   cases k2<;>simp only [is8,cond_true,cond_false,Option.some.injEq] at h<;>subst h<;>first | exact va_conv8 hok ho h1 h2 hx | exact va_conv hok ho h1 h2 hx
  ·simp [e] at h
 ·cases h
theorem yJe (hok:yO P te) {v:AV} {rs:List (Nat×AV)} {bs:List (Nat×zN)} (h:ev1 te s o.type o.op=some (v,rs,bs)):VA P o s rs bs v:=by
 unfold ev1 at h
 split at h
 ·rename_i ho
  split at h<;>cases h
  exact mv hok ho ‹_›
 ·rename_i ho
  split at h<;>cases h
  exact asg hok ho ‹_›
 ·rename_i ho
  split at h<;>try cases h
  split at h<;>cases h
  exact yI2 hok ho ‹_› ‹_› ‹_›
 ·rename_i ho
  split at h<;>cases h
  exact not' hok ho ‹_›
 ·rename_i ho
  split at h<;>try cases h
  split at h<;>cases h
  exact yIm hok ho ‹_› ‹_›
 ·rename_i ho
  split at h<;>try cases h
  split at h<;>cases h
  exact yKo hok ho ‹_› ‹_› ‹_›
 ·rename_i ho
  split at h<;>try cases h
  split at h<;>cases h
  exact yJ4 hok ho ‹_› ‹_›
 ·rename_i ho
  split at h<;>try cases h
  split at h<;>cases h
  exact va_extractA ho ‹_› ‹_›
 ·rename_i ho
  split at h<;>cases h
  exact ncp hok ho ‹_›
 ·cases h
end
section
variable {P:Program} {ops:Array Oper} {s:AS} {r:List Oper} {K:AS->List Mic->Prop} {d:Nat} {ty:TypeId} {pos:String} {af:Array Edge} {v:AV} {op:Op} {rs:List (Nat×AV)} {bs:List (Nat×zN)}
theorem RK.ev [T:pB P] (h:ev1 T.te s ty op=some (v,rs,bs)) (k:VK P ops r s K d rs bs v):RK P ops (⟨some d,op,ty,pos,af,none⟩:: r) s K:=RK.va rfl rfl (yJe T.ok h) k
class Lit (b:Bool):Prop where
 x:True
instance:Lit true:=⟨trivial⟩
instance:Lit false:=⟨trivial⟩
theorem RK.gl {j dj:Nat} {b b2:Bool} [Lit b2] (H:((ops[j]?).bind (·.dst),s.env dj)=(some dj,some (.p (.bool b2)))) (k:bif b.xor b2 then RK P ops r (s.put d (.p (.tup []))) λs' ms=>K s' (⟨[(dj,.p (.bool b2))],[],[],some (d,some (.p (.tup []))),[]⟩:: ms) else RK P ops (⟨some d,op,ty,pos,af,none⟩:: r) s (GK K dj b)):RK P ops (⟨some d,op,ty,pos,af,some (j,b)⟩:: r) s K:=by
 cases b<;>cases b2
 ·exact RK.g rfl H k
 ·have ⟨a,c⟩:=pq H;exact RK.sk (j:=j) (b:=true) (b':=false) rfl (by rw [a,c];rfl) k
 ·have ⟨a,c⟩:=pq H;exact RK.sk (j:=j) (b:=false) (b':=true) rfl (by rw [a,c];rfl) k
 ·exact RK.g rfl H k
theorem zHx {dj:Nat} (H:s.env dj=some v):s.put dj v=s:=by
 unfold AS.put
 cases s with
 | mk e b=>
  simp only [AS.mk.injEq,and_true]
  funext t
  cases hb:Nat.beq t dj with
  | true=>have:=Nat.eq_of_beq_eq_true hb;subst this;simp only [cond_true];exact H.symm
  | false=>rfl
variable {β:Type} {c:Bool} {x y:Option β} {z:β}
theorem RK.gp {dst:Option Nat} {j dj:Nat} {b:Bool} (h:(bif c then x else y)=some z) (H:((ops[j]?).bind (·.dst),s.env dj)=(some dj,some (.p (.bool c)))) (k:x=some z->RK P ops (⟨dst,op,ty,pos,af,some (j,b)⟩:: r) (s.put dj (.p (.bool true))) K) (l:y=some z->RK P ops (⟨dst,op,ty,pos,af,some (j,b)⟩:: r) (s.put dj (.p (.bool false))) K):RK P ops (⟨dst,op,ty,pos,af,some (j,b)⟩:: r) s K:=by
 have ⟨_,g⟩:=pq H
 cases c
 ·rw [<- zHx g];exact l h
 ·rw [<- zHx g];exact k h
theorem RK.pk [T:pB P] {t:Nat} {a b:Operand} {b2:Bool} [Lit b2] (H:(s.env t,s.get T.te ty (bif b2 then a else b))=(some (.p (.bool b2)),some v)) (k:VK P ops r s K d ([(t,.p (.bool b2))]++opS (bif b2 then a else b) v) [] v):RK P ops (⟨some d,.pick (.tmp t) a b,ty,pos,af,none⟩:: r) s K:=by
 cases b2
 ·exact RK.pF rfl H k
 ·exact RK.pT rfl H k
end
class zIr (s:AS):Prop where
 x:True
instance {s:AS} {d:Nat} {v:AV}:zIr (s.put d v):=⟨trivial⟩
instance {s:AS} {d:Nat} {v:zN}:zIr (s.setb d v):=⟨trivial⟩
instance {s:AS} {m:Mic}:zIr (m.upd s):=⟨trivial⟩
def cid:Code->Nat
 | .region i _ _=>i
 | .cond (.tmp t) _ _=>t
 | .block i _=>i+500000
 | .loop c=>cid c
 | .seq a _=>cid a+1000
 | .ret=>999999
 | _=>888888
abbrev EB:=List (Nat×AV)×List (Nat×zN)
def mkE (e:EB) (k:EB):AS:=mkS (e.1++k.1) (e.2++k.2)
def Has (s:AS) (k:EB):Prop:=(gE s k.1,gB s id k.2)=(vE id k.1,vB id k.2)
inductive Wp (P:Program) (cx:Ctx) (c:Code) (Q:Exit->AS->Prop) (s:AS):Prop where
 | mk (a:awp P cx c Q s)
section
variable {P:Program} {cx:Ctx} {q:Exit->AS->Prop} {s:AS} {α β I:Type} {r:β} {ks:List Nat}
def isS:Code->Bool
 | .seq _ _ | .block _ _ | .skip | .exit _ | .ret=>true
 | _=>false
def zWd (k:AS->Prop) (Q:Exit->AS->Prop):Exit->AS->Prop
 | .normal,s=>k s
 | e,s=>Q e s
def nxt (P:Program) (cx:Ctx) (q:Exit->AS->Prop) (s:AS):Code->Prop
 | .seq x y=>Wp P cx x (zWd (Wp P cx y q) q) s
 | .block i c=>Wp P cx c (zH8 i q) s
 | .skip=>q .normal s
 | .exit i=>q (.exit i) s
 | .ret=>q .ret s
 | _=>False
theorem Z1 {c:Code} (h:isS c=true) (k:nxt P cx q s c):Wp P cx c q s:=by
 cases c<;>first | cases h | skip
 ·exact ⟨K k⟩
 ·refine ⟨S (zHe k.1 λe s h=>?_)⟩
  cases e<;>first | exact h.1 | exact h
 ·exact ⟨B k.1⟩
 ·exact ⟨X k⟩
 ·exact ⟨T k⟩
theorem G1 {ops:Array Oper} {id n:Nat} (hnt:cx.nt=n) (h:RK P ops ops.toList s λs' ms=>cO n ms=true/\q .normal s'):Wp P cx (.region id ops false) q s:=⟨rgn hnt h⟩
theorem Y1 {ops:Array Oper} {id n:Nat} (hnt:cx.nt=n) (hm:P.follows .mixedOrders=true) (h:RK P ops ops.toList s λs' ms=>cO n ms=true/\(rQ ops ms&&zLw ops)=true/\q .normal s'):Wp P cx (.region id ops true) q s:=⟨rgd hnt hm h⟩
theorem A1 {t:Nat} {x y:Code} {b:Bool} (he:b=true) (hc:s.env t=some (.p (.bool b))) (h:Wp P cx x q s):Wp P cx (.cond (.tmp t) x y) q s:=⟨cT he hc h.1⟩
theorem F1 {t:Nat} {x y:Code} {b:Bool} (he:b=false) (hc:s.env t=some (.p (.bool b))) (h:Wp P cx y q s):Wp P cx (.cond (.tmp t) x y) q s:=⟨cF he hc h.1⟩
variable {m:Option α} {k:α->Option β}
theorem Jg {c:Code} (h:m.bind k=some r) (f:α->AS) (x:∀ j,m=some j->Wp P cx c (OQ cx (λj=>(.normal,f j)) j) s) (y:∀ j,k j=some r->q .normal (f j)):Wp P cx c q s:=⟨J h f (λj h=>(x j h).1) y⟩
theorem Jn {c:Code} (z:isS c=true) (h:m.bind k=some r) (f:α->AS) (x:∀ j,m=some j->nxt P cx (OQ cx (λj=>(.normal,f j)) j) s c) (y:∀ j,k j=some r->q .normal (f j)):Wp P cx c q s:=Jg h f (λj h=>Z1 z (x j h)) y
theorem Jr (i:Nat) {o:Array Oper} {n:Nat} (hnt:cx.nt=n) (h:m.bind k=some r) (e:EB) (_:Has s e) (F:α->EB) (x:∀ j,m=some j->RK P o o.toList s λs' ms=>cO n ms=true/\OQ cx (λj=>(.normal,mkE (F j) e)) j .normal s') (y:∀ j,k j=some r->q .normal (mkE (F j) e)):Wp P cx (.region i o false) q s:=Jg h _ (λj h=>G1 hnt (x j h)) y
theorem Jy (i:Nat) {o:Array Oper} {n:Nat} (hnt:cx.nt=n) (hm:P.follows .mixedOrders=true) (h:m.bind k=some r) (e:EB) (_:Has s e) (F:α->EB) (x:∀ j,m=some j->RK P o o.toList s λs' ms=>cO n ms=true/\(rQ o ms&&zLw o)=true/\OQ cx (λj=>(.normal,mkE (F j) e)) j .normal s') (y:∀ j,k j=some r->q .normal (mkE (F j) e)):Wp P cx (.region i o true) q s:=Jg h _ (λj h=>Y1 hnt hm (x j h)) y
theorem Js (i:Nat) {c:Code} (_:cid c=i) (z:isS c=true) (h:m.bind k=some r) (e:EB) (_:Has s e) (F:α->EB) (x:∀ j,m=some j->nxt P cx (OQ cx (λj=>(.normal,mkE (F j) e)) j) s c) (y:∀ j,k j=some r->q .normal (mkE (F j) e)):Wp P cx c q s:=Jn z h _ x y
theorem Di (i:Nat) {c:Code} (_:cid c=i) (z:isS c=true) (h:m.bind k=some r) (e:EB) (_:Has s e) (f:EB->α->Exit×AS) (x:∀ j,m=some j->nxt P cx (OQ cx (f e) j) s c) (y:∀ j,k j=some r->q (f e j).1 (f e j).2):Wp P cx c q s:=⟨D h _ (λj h=>(Z1 z (x j h)).1) y⟩
theorem Qi (i:Nat) {X:Type} {body:Code} {step:X->Option (X ⊕ α)} {n:Nat} {x0:X} (_:cid body=i) (h:(zO step n x0).bind k=some r) (e:EB) (_:Has s e) (l:Nat) (E:X->EB) (F:α->EB) (hi:Imp cx.pk s (mkE (E x0) e))
  (hb:∀ x r,step x=some r->Wp P cx body (OQ cx (LF (λx=>mkE (E x) e) λy=>(.exit l,mkE (F y) e)) r) (mkE (E x) e)) (y:∀ j,k j=some r->q (.exit l) (mkE (F j) e)):Wp P cx (.loop body) q s:=⟨Q h l _ _ hi (λx r h=>(hb x r h).1) y⟩
theorem Ui (i:Nat) {X:Type} {body:Code} {step:X->Option (X ⊕ α)} {n:Nat} {x0:X} (_:cid body=i) (h:(zO step n x0).bind k=some r) (e:EB) (_:Has s e) (E:X->EB) (f:EB->α->Exit×AS) (hi:Imp cx.pk s (mkE (E x0) e)) (hne:∀ y,(f e y).1≠.normal)
  (hb:∀ x r,step x=some r->Wp P cx body (OQ cx (LF (λx=>mkE (E x) e) (f e)) r) (mkE (E x) e)) (y:∀ j,k j=some r->q (f e j).1 (f e j).2):Wp P cx (.loop body) q s:=⟨U h _ _ hi hne (λx r h=>(hb x r h).1) y⟩
theorem Qj (i:Nat) {X:Type} {body:Code} {step:X->Option (X ⊕ α)} {n:Nat} {x0:X} (_:cid body=i) (h:(zO step n x0).bind k=some r) (e:EB) (_:Has s e) (d:EB) (_:Has s d) (l:Nat) (E:X->EB) (F:α->EB) (hi:Imp cx.pk s (mkE (E x0) e))
  (hb:∀ x r,step x=some r->Wp P cx body (OQ cx (LF (λx=>mkE (E x) e) λy=>(.exit l,mkE (F y) d)) r) (mkE (E x) e)) (y:∀ j,k j=some r->q (.exit l) (mkE (F j) d)):Wp P cx (.loop body) q s:=⟨Q h l _ _ hi (λx r h=>(hb x r h).1) y⟩
theorem Uj (i:Nat) {X:Type} {body:Code} {step:X->Option (X ⊕ α)} {n:Nat} {x0:X} (_:cid body=i) (h:(zO step n x0).bind k=some r) (e:EB) (_:Has s e) (d:EB) (_:Has s d) (E:X->EB) (f:EB->α->Exit×AS) (hi:Imp cx.pk s (mkE (E x0) e)) (hne:∀ y,(f d y).1≠.normal)
  (hb:∀ x r,step x=some r->Wp P cx body (OQ cx (LF (λx=>mkE (E x) e) (f d)) r) (mkE (E x) e)) (y:∀ j,k j=some r->q (f d j).1 (f d j).2):Wp P cx (.loop body) q s:=⟨U h _ _ hi hne (λx r h=>(hb x r h).1) y⟩
theorem iZ (i:Nat) {c:Code} [zIr s] (_:cid c=i) (env:List (Nat×AV)) (blk:List (Nat×zN)) (hpk:PK cx ks) (H:(gE s env,gB s id blk,(nO (lk blk) env&&ks.all (λk=>(lk blk k).isSome)),uF (lk blk) blk)=(vE id env,vB id blk,true,true)) (k:Wp P cx c q (mkS env blk)):Wp P cx c q s:=⟨iX env blk hpk H k.1⟩
theorem hW {f:FuncId} {fn:Func} {body:Code} {na:Nat} {en:List (Nat×AV)} {rs:AS} (E:I->AS) (j:I) (hf:P.funcs[f]? = some fn) (H:(fn.body,(fn.name == "runtime.NumGoroutine"),Nat.ble na fn.ntmps)=(some body,false,true))
  (hr:∀ cx:Ctx,PK cx []->jU P fn cx (E j) rs) (h:∀ cx:Ctx,cx.nt=fn.ntmps->PK cx []->Wp P cx body (OQ cx (λj=>(.ret,E j)) j) (mkS en [])):Ok P f na (mkS en []) rs:=hA E j hf H hr λcx n p=>(h cx n p).1
theorem hX {f:FuncId} {fn:Func} {body:Code} {na:Nat} {en:List (Nat×AV)} {bl:zN} {rs:AS} (E:I->AS) (j:I) (hf:P.funcs[f]? = some fn) (H:(fn.body,(fn.name == "runtime.NumGoroutine"),Nat.ble na fn.ntmps)=(some body,false,true))
  (hr:∀ cx:Ctx,PK cx [0]->jU P fn cx (E j) rs) (h:∀ cx:Ctx,cx.nt=fn.ntmps->PK cx [0]->Wp P cx body (OQ cx (λj=>(.ret,E j)) j) (mkS en [(0,bl)])):Ok P f na (mkS en [(0,bl)]) rs:=hB E j hf H hr λcx n p=>(h cx n p).1
theorem iM (i:Nat) {c:Code} {s':AS} (_:cid c=i) (h:Imp cx.pk s s') (k:Wp P cx c q s'):Wp P cx c q s:=⟨im h k.1⟩
theorem iY (i:Nat) {c:Code} [zIr s] (_:cid c=i) (env:List (Nat×AV)) (blk:List (Nat×zN)) (hpk:PK cx ks) (H:(gE s env,gB s id blk,(nO (lk blk) env&&ks.all (λk=>(lk blk k).isSome)))=(vE id env,vB id blk,true)) (h:uF (lk blk) blk=true) (k:Wp P cx c q (mkS env blk)):Wp P cx c q s:=⟨im (lpX hpk H h) k.1⟩
def gR (P:Program) (cx:Ctx) (c:Code) (q:Exit->AS->Prop):Nat->AS->Prop
 | 0,_=>False
 | n+1,s=>Wp P cx c (zWd (gR P cx c q n) q) s
theorem lV {env:List (Nat×AV)} {blk:List (Nat×zN)} (hpk:PK cx ks) (m:List (Nat×Nat))
  (H:(gE s env,(nO (lk (bR (rho m) blk)) (rE (rho m) env)&&(ks.all (λk=>(lk (bR (rho m) blk) k).isSome) &&
   (((kR (rho m) blk).all λj=>(Nat.blt j BIG||Nat.ble BIG (rho (swp m) j))&&(kR (rho m) blk).all λj'=>!Nat.beq (rho (swp m) j) (rho (swp m) j')||Nat.beq j j')&&ks.all λk=>Nat.beq (rho (swp m) k) k))),
   rE (rho (swp m)) (rE (rho m) env))=(vE (AV.ren (rho m)) env,true,env))
  (h:gB s (rho m) blk=vB (zN.ren (rho m)) blk/\uF (lk (bR (rho m) blk)) (bR (rho m) blk)=true/\bR (rho (swp m)) (bR (rho m) blk)=blk):Imp cx.pk s (mkS env blk):=
 have ⟨a,H⟩:=pq H;have ⟨b,c⟩:=pq H;lr hpk m a h.1 b h.2.1 c h.2.2
theorem oL {pk:PKs} (t:Nat) {k n n':Nat} (H:s.env t=some (.own k n)) (h:n'=n):Imp pk s (s.put t (.own k n')):=by subst h;rw [zHx H];exact Imp.refl
structure OF (cx:Ctx) (E:I->AS) (j:I) (e:Exit) (s:AS):Prop where
 a:e=.ret∨e=.normal
 b:Imp cx.pk s (E j)
theorem hR {f:FuncId} {fn:Func} {body:Code} {na:Nat} {en:List (Nat×AV)} {bl:zN} {rs:AS} (E:I->AS) (j:I) (hf:P.funcs[f]? = some fn) (H:(fn.body,(fn.name == "runtime.NumGoroutine"),Nat.ble na fn.ntmps)=(some body,false,true))
  (hr:∀ cx:Ctx,PK cx [0]->jU P fn cx (E j) rs) (h:∀ cx:Ctx,cx.nt=fn.ntmps->PK cx [0]->Wp P cx body (OF cx E j) (mkS en [(0,bl)])):Ok P f na (mkS en [(0,bl)]) rs:=
 have ⟨a,H⟩:=pq H;have ⟨b,c⟩:=pq H;yLg (E j) hf a b (Nat.le_of_ble_eq_true c) (zQy rfl) hr λcx n p=>zHe (h cx n p).1 λ_ _ h=>⟨h.1,h.2⟩
theorem Wr {E:I->AS} {j i:I} {e:Exit} (h:some j=some i) (a:e=.ret∨e=.normal) (b:Imp cx.pk s (E j)):OF cx E i e s:=by cases h;exact ⟨a,b⟩
theorem Lv {E:I->AS} {i:I} {e:Exit} (h:OF cx E i e s):OF cx E i e s:=h
theorem Cs {t:Nat} {X Y:Code} {c:Bool} {x y:Option β} (h:(bif c then x else y)=some r) (H:s.env t=some (.p (.bool c))) (k:x=some r->Wp P cx X q s) (l:y=some r->Wp P cx Y q s):Wp P cx (.cond (.tmp t) X Y) q s:=by
 cases c
 ·exact F1 rfl H (l h)
 ·exact A1 rfl H (k h)
theorem Lo {c:Code} (h:Wp P cx (.loop c) q s):Wp P cx (.loop c) q s:=h
theorem Lu {f:I->Exit×AS} {i:I} {e:Exit} (h:OQ cx f i e s):OQ cx f i e s:=h
end
theorem Ru {P:Program} {ops:Array Oper} {l:List Oper} {s:AS} {K:AS->List Mic->Prop} (h:RK P ops l s K):RK P ops l s K:=h
def eqC:PV->PV->Bool
 | .int _ a,.int _ b=>a==b
 | .str a,.str b=>a==b
 | .bool a,.bool b=>a==b
 | _,_=>false
def zOm:List PV->List PV->Bool
 | x :: l,y :: m=>eqC x y&&zOm l m
 | _,_=>true
def tyC:Ty->PV->Bool
 | .int k,.int k' _=>decide (k=k')
 | .str,.str _=>true
 | .bool,.bool _=>true
 | _,_=>false
def fsC (i:Nat):List Ty->List (Bool×Option Ty×Nat)
 | []=>[]
 | t :: l=>(false,some t,i) :: fsC (i+1) l
def zGj:List Ty->List PV->Bool
 | t :: l,x :: m=>tyC t x&&zGj l m
 | [],[]=>true
 | _,_=>false
section
variable {P:Program} {te:TE} {s:AS} {o:Oper} {x y:Operand} {M:Mem}
def fsK (P:Program) (t:TypeId):List (Bool×Option Ty×Nat):=(P.fieldsOf t).toList.map λf=>(f.name == "_",(P.underlying f.type).map dL,f.offset)
theorem yIk {t:TypeId} {ty:Ty} (h:(P.underlying t).map dL=some ty):(∀ k,ty=.int k->P.underlying t=some (.int k))/\(ty=.str->P.underlying t=some .string)/\(ty=.bool->P.underlying t=some .bool):=by
 obtain ⟨d,a,b⟩:=Option.map_eq_some_iff.1 h
 refine ⟨λk e=>?_,λe=>?_,λe=>?_⟩<;>subst e<;>cases d<;>simp only [dL,reduceCtorEq,Ty.int.injEq] at b<;>simp_all
theorem yFa {w:World} {d:Nat} {t:TypeId} {ty:Ty} {p q:PV} {a b:Value} (ht:(P.underlying t).map dL=some ty) (hp:tyC ty p=true) (hq:tyC ty q=true) (ra:Rep M p a) (rb:Rep M q b) :
  (isAgg t).run P w=.ok false w/\(Op.equalIn (d+1) t a b).run P w=.ok (eqC p q) w:=by
 obtain ⟨ui,us,ub⟩:=yIk ht
 cases ty<;>cases p<;>simp only [tyC,Bool.false_eq_true,decide_eq_true_eq] at hp<;>cases q<;>simp only [tyC,Bool.false_eq_true,decide_eq_true_eq] at hq
 ·have u:=ub rfl
  have:=mP ra;have:=mP rb;subst a;subst b
  exact ⟨by simp [isAgg,run_underlying u],by simp [Op.equalIn,run_underlying u,eqC]⟩
 ·subst hp;subst hq
  have u:=ui _ rfl
  have:=xK ra;have:=xK rb;subst a;subst b
  exact ⟨by simp [isAgg,run_underlying u],by rw [run_equalIn_int w d t _ _ _ _ u];rfl⟩
 ·have u:=us rfl
  have:=zE6 ra;have:=zE6 rb;subst a;subst b
  refine ⟨by simp [isAgg,run_underlying u],?_⟩
  rw [run_equalIn_string w d t _ _ u]
  simp [eqC,ByteArray.toList_eq]
theorem zM2 (d:Nat) (w:World) (vx vy:Array Value):∀ (fs:List Field) (i:Nat) (ts:List Ty) (xs ys:List PV),(fs.map λf=>(f.name == "_",(P.underlying f.type).map dL,f.offset))=fsC i ts->zGj ts xs=true->zGj ts ys=true ->
  (∀ j p,xs[j]? = some p->∃ a,vx[i+j]? = some a/\Rep M p a)->(∀ j p,ys[j]? = some p->∃ a,vy[i+j]? = some a/\Rep M p a) ->
  (Op.eqFields (d+1) vx vy fs).run P w=.ok (zOm xs ys) w
 | [],i,[],[],[],_,_,_,_,_=>by simp [Op.eqFields,zOm]
 | [],i,t :: ts,_,_,h,_,_,_,_=>by simp [fsC] at h
 | f :: fs,i,[],_,_,h,_,_,_,_=>by simp [fsC] at h
 | [],i,[],x :: xs,_,_,h,_,_,_=>by simp [zGj] at h
 | [],i,[],[],y :: ys,_,_,h,_,_=>by simp [zGj] at h
 | f :: fs,i,t :: ts,[],_,_,h,_,_,_=>by simp [zGj] at h
 | f :: fs,i,t :: ts,x :: xs,[],_,_,h,_,_=>by simp [zGj] at h
 | f :: fs,i,t :: ts,x :: xs,y :: ys,h,hx,hy,rx,ry=>by
  simp only [List.map_cons,fsC,List.cons.injEq,Prod.mk.injEq] at h
  obtain ⟨⟨h1,h2,h3⟩,h4⟩:=h
  simp only [zGj,Bool.and_eq_true] at hx hy
  have hn:f.name ≠ "_":=by simpa using h1
  obtain ⟨a,ea,ra⟩:=rx 0 x rfl
  obtain ⟨b,eb,rb⟩:=ry 0 y rfl
  rw [Nat.add_zero] at ea eb
  obtain ⟨hag,heq⟩:=yFa (w:=w) (d:=d) h2 hx.1 hy.1 ra rb
  have p1:(part f.type vx f.offset).run P w=.ok a w:=by
   simp only [part,Sem.run_bind,hag,Result.andThen_ok,h3,ea];rfl
  have p2:(part f.type vy f.offset).run P w=.ok b w:=by
   simp only [part,Sem.run_bind,hag,Result.andThen_ok,h3,eb];rfl
  have ih:=zM2 d w vx vy fs (i+1) ts xs ys h4 hx.2 hy.2 (λj p h=>by
   obtain ⟨a,e,r⟩:=rx (j+1) p (by simpa using h)
   exact ⟨a,by rw [<- e];congr 1;omega,r⟩) (λj p h=>by
   obtain ⟨a,e,r⟩:=ry (j+1) p (by simpa using h)
   exact ⟨a,by rw [<- e];congr 1;omega,r⟩)
  simp only [Op.eqFields,Sem.run_bind,if_pos hn,p1,p2,Result.andThen_ok,heq,zOm]
  cases hb:eqC x y
  ·simp
  ·simpa using ih
theorem zMs {l:List PV} {z:Value} (h:Rep M (.agg l) z):∃ vs:Array Value,z=.agg vs/\∀ j p,l[j]? = some p->∃ a,vs[0+j]? = some a/\Rep M p a:=by
 cases h with
 | agg l vs h1 h2=>
  refine ⟨vs,rfl,λj p hj=>?_⟩
  have hl:j<l.length:=(List.getElem?_eq_some_iff.1 hj).1
  have hv:j<vs.size:=by omega
  refine ⟨vs[j],by simp [hv],?_⟩
  have:=h2 j p hj
  rwa [Array.getD_eq_getD_getElem?,Array.getElem?_eq_getElem hv] at this
theorem yIz {tx tyy:TypeId} {ts:List Ty} {xs ys:List PV} {vx vy:AV} {bx by':List (Nat×zN)} (ho:o.op=.binOp .neq tx x y tyy) (hg:P.eqGuardType P.depth tx=false) (hs:P.underlying tx=some (.struct (P.fieldsOf tx))) (hp:P.stoodInHeld tx=false) (hf:fsK P tx=fsC 0 ts) (hlx:zGj ts xs=true) (hly:zGj ts ys=true)
  (hx:s.get te tx x=some vx) (rx:s.rd vx=some (.agg xs,bx)) (hy:s.get te tyy y=some vy) (ry:s.rd vy=some (.agg ys,by')):VA P o s (opS x vx++opS y vy) (bx++by') (.p (.bool (!(zOm xs ys)))):=by
 refine ⟨?_,yL (zP hx) (zP hy),λe he=>(List.mem_append.1 he).elim (uJ _ _ _ rx e) (uJ _ _ _ ry e)⟩
 intro cx M κ tip s' a w hi hr hb
 obtain ⟨v1,h1,r1⟩:=zMs (eK hi hx rx (yG hr) λe he=>hb e (List.mem_append.2 (.inl he)))
 obtain ⟨v2,h2,r2⟩:=zMs (eK hi hy ry (zX hr) λe he=>hb e (List.mem_append.2 (.inr he)))
 refine ⟨_,?_,.p _ _ (.bool _)⟩
 have h3:(Op.equalIn (9998+2) tx (.agg v1) (.agg v2)).run P w=.ok (zOm xs ys) w:=by
  rw [run_equalIn_struct w (9998+1) tx _ _ hs hp]
  exact zM2 9998 w v1 v2 _ 0 ts xs ys hf hlx hly r1 r2
 simp [execOp,ho,h1,h2,run_eqGuard_agg w .neq tx x y _ _ hg,run_neq_struct w tx,h3,Result.andThen]
end
section
variable {P:Program} [T:pB P] {ops:Array Oper} {s:AS} {r:List Oper} {K:AS->List Mic->Prop} {d:Nat} {ty:TypeId} {pos:String} {af:Array Edge} {x y:Operand}
theorem RK.nS3 {tx tyy:TypeId} (ts:List Ty) {xs ys:List PV} {vx vy:AV} {bx by':List (Nat×zN)} (hg:P.eqGuardType P.depth tx=false) (hs:P.underlying tx=some (.struct (P.fieldsOf tx))) (hp:P.stoodInHeld tx=false) (hf:fsK P tx=fsC 0 ts)
  (hx:s.get T.te tx x=some vx) (rx:s.rd vx=some (.agg xs,bx)) (hlx:zGj ts xs=true) (hy:s.get T.te tyy y=some vy) (ry:s.rd vy=some (.agg ys,by')) (hly:zGj ts ys=true) (k:VK P ops r s K d (opS x vx++opS y vy) (bx++by') (.p (.bool (!(zOm xs ys))))):RK P ops (⟨some d,.binOp .neq tx x y tyy,ty,pos,af,none⟩:: r) s K:=
 RK.va rfl rfl (yIz rfl hg hs hp hf hlx hly hx rx hy ry) k
end
section
variable {P:Program} {te:TE} {s:AS} {o:Oper} {v:AV} {x y:Operand} {d:Nat} {ty:TypeId}
end
section
variable {P:Program} {te:TE} {s:AS} {o:Oper} {v:AV} {x y:Operand} {d:Nat} {ty:TypeId}
end
section
variable {P:Program} [T:pB P] {ops:Array Oper} {s:AS} {r:List Oper} {K:AS->List Mic->Prop} {d:Nat} {ty:TypeId} {pos:String} {af:Array Edge} {x y:Operand} {v:AV}
end
section
variable {P:Program} {te:TE} {s:AS} {o:Oper} {v:AV} {x y:Operand} {d:Nat} {ty:TypeId}
theorem zS0 {t ft:TypeId} {fs:List (TypeId×Nat)} {k n wd off f fo:Nat} {l:List AV} {fi:TI} (hok:yO P te) (ho:o.op=.fieldAddr t x f) (ht:(te t).map (·.ty)=some (.struct fs)) (hf:fs[f]? = some (ft,fo)) (he:te ft=some fi) (hw:fi.w≠0) (hx:s.get te ty x=some (.optr k n off)) (hb:s.blk k=some (.own wd l)) (hn:n*wd=l.length) :
  VA P o s (opS x (.optr k n off)) [(k,.own wd l)] (.optr k n (off+fo)):=by
 refine ⟨?_,zP hx,by simpa using hb⟩
 intro cx M κ tip s' a w hi hr hb'
 have hx':=yB hi (yI hx s' hr)
 have hbk:=hb' (k,.own wd l) (by simp)
 simp only at hbk
 obtain ⟨fields,hu,hfs⟩:=zA3 hok ht
 have hfield:∃ fl,fields[f]? = some fl/\fl.type=ft/\fl.offset=fo:=by
  rw [<- hfs,List.getElem?_map] at hf
  obtain ⟨fl,h1,h2⟩:=Option.map_eq_some_iff.1 hf
  simp at h2
  exact ⟨fl,by simpa using h1,h2.1,h2.2⟩
 obtain ⟨fl,hfl,rfl,rfl⟩:=hfield
 generalize hev:a.eval x=z at hx'
 cases hx' with
 | optr _ _ _ w' l' _ h1 h2 h3 hs=>
 rw [hbk] at h1
 cases h1
 obtain ⟨b,hκ,rfl⟩:=h3 hn
 have hsz:=vK hok he w
 refine ⟨.pointer (some ⟨b,off+fl.offset,none⟩),?_,.optr k n _ _ l _ hbk (by omega) (λ_=>⟨b,hκ,rfl⟩) ⟨_,rfl⟩⟩
 simp [execOp,ho,hev,Instr.fieldAt,Instr.sureAddr,run_underlying hu,hfl,fieldPlace,hsz,hw,add_off]
end
section
variable {P:Program} [T:pB P] {ops:Array Oper} {s:AS} {r:List Oper} {K:AS->List Mic->Prop} {d:Nat} {ty:TypeId} {pos:String} {af:Array Edge} {x y:Operand} {v:AV}
theorem RK.faO {t ft:TypeId} {fs:List (TypeId×Nat)} {k0 n w off f fo:Nat} {p:PV} {fi:TI} (hn:n*w=p.ecs.length) (ht:(T.te t).map (·.ty)=some (.struct fs)) (hf:fs[f]? = some (ft,fo)) (he:T.te ft=some fi) (hw:Nat.blt 0 fi.w=true) (hx:s.get T.te 0 x=some (.optr k0 n off)) (hb:s.blk k0=some (.own w p.ecs))
  (k:VK P ops r s K d (opS x (.optr k0 n off)) [(k0,.own w p.ecs)] (.optr k0 n (off+fo))):RK P ops (⟨some d,.fieldAddr t x f,ty,pos,af,none⟩:: r) s K:=
 RK.va rfl rfl (zS0 T.ok rfl ht hf he (by have:=Nat.le_of_ble_eq_true hw;omega) hx hb hn) k
theorem RK.ldoF {α:Type} (g:α->PV) {w fo:Nat} {q:PV} {t:TypeId} {k0 j:Nat} {l:List α} {u:α} {i:TI} {n:Nat} (hn:l.length=n) (h:l[j]? = some u) (hg:∀ a,(g a).cells.length=w) (ht:T.te t=some i) (hp:i.plain=true) (hq:(g u).cells[fo]? = some q) (hx:s.get T.te 0 x=some (.optr k0 n (j*w+fo))) (hb:s.blk k0=some (qO (.sl w (l.map g))))
  (k:VK P ops r s K d (opS x (.optr k0 n (j*w+fo))) [(k0,qO (.sl w (l.map g)))] (.p q)):RK P ops (⟨some d,.load t x,ty,pos,af,none⟩:: r) s K:=by
 subst hn
 exact RK.va rfl rfl (zHi T.ok rfl ht hp hx hb (tC hg l) (zE1 hg h hq)) k
theorem RK.stoF {α:Type} (g:α->PV) {w fo:Nat} {q:PV} {t:TypeId} {i:TI} {ax:Operand} {k0 j:Nat} {l l':List α} {u u':α} {n:Nat} (hn:l.length=n) (h0:l[j]? = some u) (h:wL l j u'=some l') (hg:∀ a,(g a).cells.length=w) (hfo:Nat.blt fo w=true) (hq:(g u').cells=(g u).cells.set fo q) (hone:q.one=true) (hqc:q.cells=[q]) (ht:T.te t=some i) (hw:i.w=1) (ha:s.get T.te 0 ax=some (.optr k0 n (j*w+fo))) (hx:s.get T.te t x=some (.p q)) (hb:s.blk k0=some (qO (.sl w (l.map g))))
  (k:RK P ops r (s.setb k0 (qO (.sl w (l'.map g)))) λs' ms=>K s' (⟨opS ax (.optr k0 n (j*w+fo))++opS x (.p q),[(k0,qO (.sl w (l.map g)))],[],none,[(k0,qO (.sl w (l'.map g)))]⟩:: ms)):RK P ops (⟨none,.store t ax x,ty,pos,af,none⟩:: r) s K:=by
 subst hn
 obtain ⟨h1,h2⟩:=fM h
 have hf:=Nat.le_of_ble_eq_true hfo
 have hjw:(j+1)*w<=l.length*w:=Nat.mul_le_mul_right _ h1
 rw [Nat.add_mul] at hjw
 have hlen:=tC hg l
 have:=zDo (P:=P) (o:=⟨none,.store t ax x,ty,pos,af,none⟩) T.ok rfl rfl ht ha hx rfl hb (tC hg l) (by rw [hqc,hw];rfl) (by omega) (by rw [hqc];simp [hone])
 have e1:uO (PV.ecs (.sl w (l.map g))) (j*w+fo) (q.cells.map AV.p)=PV.ecs (.sl w (l'.map g)):=by
  rw [hqc,h2,<- zNa hg u' h1,hq]
  have hcl:((g u).cells.map AV.p).length=w:=by rw [List.length_map,hg]
  apply List.ext_getElem?
  intro o
  rw [lL (by simp;omega),lL (by simp [hg];omega)]
  simp only [List.map_cons,List.map_nil,List.length_cons,List.length_nil,List.length_map,List.length_set,hg,List.map_set]
  by_cases ho:j*w<=o/\o<j*w+w
  ·rw [if_pos ho]
   by_cases ho2:o=j*w+fo
   ·subst ho2
    rw [if_pos (by omega),Nat.sub_self,show j*w+fo - j*w=fo by omega,List.getElem?_set_self (by rw [hcl];omega)]
    rfl
   ·rw [if_neg (by omega),List.getElem?_set_ne (by omega)]
    have h3:o - j*w<(g u).cells.length:=by rw [hg];omega
    have h4:=zE1 hg h0 (o:=o - j*w) (q:=(g u).cells[o - j*w]) (by simp)
    rw [show j*w+(o - j*w)=o by omega] at h4
    rw [h4,List.getElem?_map]
    simp [h3]
  ·rw [if_neg ho,if_neg (by omega)]
 rw [show (PV.sl w (l.map g)).width=w from rfl,e1] at this
 exact RK.so rfl this k
theorem RK.loB {t e:TypeId} {ei:TI} {n:Nat} {pa:Array (Nat×Operand)} {vs rs:List (Nat×AV)} (u:List UInt8) (ht:(T.te t).map (·.ty)=some (.slice e)) (he:T.te e=some ei) (hw:ei.w=1) (hz:ei.z.length=ei.w) (hn:Nat.ble (n*ei.w) 16777216=true) (hp:oD s T.te pa.toList vs rs) (hf:oC (λj=>some (j*ei.w,ei.w)) (rR ei.z n) vs=some (PV.ecs (.bytes u))) (hln:Nat.beq u.length n=true) (hk:s.blk d=none)
  (k:BK P ops r s K d rs [] [d] d (qO (.bytes u)) (.own d u.length)):RK P ops (⟨some d,.buildSlice t n pa,ty,pos,af,none⟩:: r) s K:=by
 have e1:=Nat.eq_of_beq_eq_true hln
 rw [e1] at k
 have:=zSv (P:=P) (o:=⟨some d,.buildSlice t n pa,ty,pos,af,none⟩) T.ok rfl rfl rfl ht he hz (by omega) (yZ hn) hp hf (by rw [hw,<- tJ,e1]) hk
 rw [hw] at this
 exact RK.sb rfl this k
theorem RK.ixBU {t e:TypeId} {l:List UInt8} {u:UInt8} {bs:List (Nat×zN)} {i:Int} {ei:TI} (h:idx l i=some u) (ht:(T.te t).map (·.ty)=some (.slice e)) (he:T.te e=some ei) (hx:s.get T.te t x=some v) (hp:s.rd v=some (.bytes l,bs)) (hw:1=ei.w) (hy:s.get T.te 0 y=some (.p (.int .i64 i))) (k:VK P ops r s K d (opS x v++opS y (.p (.int .i64 i))) (bs) (.p (.cptr (.int .u8 u.toNat)))):RK P ops (⟨some d,.indexAddr t x y,ty,pos,af,none⟩:: r) s K:=RK.va rfl rfl (Go.Sw.ixB T.ok h rfl ht he hx hp hw hy) k
theorem RK.iaW {n j k0 off w:Nat} {t e:TypeId} {i:Int} {ei:TI} (h:ixN n i=some j) (ht:(T.te t).map (·.ty)=some (.arr n e)) (he:T.te e=some ei) (hw:ei.w=w) (hx:s.get T.te t x=some (.ptr k0 off)) (hy:s.get T.te 0 y=some (.p (.int .i64 i))) (k:VK P ops r s K d (opS x (.ptr k0 off)++opS y (.p (.int .i64 i))) ([]) (.ptr k0 (off+j*w))):RK P ops (⟨some d,.indexAddr t x y,ty,pos,af,none⟩:: r) s K:=by
 have h3:0<=i/\i<n/\j=i.toNat:=by
  unfold ixN at h
  split at h
  ·cases h;exact ⟨by omega,by omega,rfl⟩
  ·cases h
 obtain ⟨h0,h1,rfl⟩:=h3
 subst hw
 exact RK.va rfl rfl (zLa T.ok rfl ht he hx hy h0 h1) k
theorem RK.ld4 {α:Type} {f:α->AV} {u:A4 α} {k0 off:Nat} {t:TypeId} {l:List α} {i:TI} (h:lA4 ((l.drop off).take 4)=some u) (ht:T.te t=some i) (hp:i.isAgg=true) (hw:i.w=4) (hx:s.get T.te 0 x=some (.ptr k0 off)) (hb:s.blk k0=some (.var (l.map f)))
  (k:VK P ops r s K d (opS x (.ptr k0 off)) [(k0,.var (l.map f))] (.ag [f u.a0,f u.a1,f u.a2,f u.a3])):RK P ops (⟨some d,.load t x,ty,pos,af,none⟩:: r) s K:=by
 have e:=yBw h
 have hl:off+4<=l.length:=by
  have:=congrArg List.length e
  simp only [List.length_take,List.length_drop,List.length_cons,List.length_nil] at this
  omega
 have h2:=zNi (P:=P) (o:=⟨some d,.load t x,ty,pos,af,none⟩) T.ok rfl ht hp hx hb (by rw [hw,List.length_map];exact hl)
 rw [hw,<- List.map_drop,<- List.map_take,e] at h2
 exact RK.va rfl rfl h2 k
end
theorem sumC {α:Type} {c:Bool} {a b:Option α} {r:α} {P:Prop} (h:(bif c then a else b)=some r) (f:a=some r->P) (g:b=some r->P):P:=by
 cases c
 ·exact g h
 ·exact f h
theorem zBx {k n:Nat} {v:AV} (hv:wX k n v=true):∀ {l:List AV} {i:Nat},wG k n l=true->wG k n (l.set i v)=true
 | [],_,_=>rfl
 | a :: l,0,h=>by
  simp only [wG,Bool.and_eq_true] at h
  simp only [List.set,wG,Bool.and_eq_true];exact ⟨hv,h.2⟩
 | a :: l,i+1,h=>by
  simp only [wG,Bool.and_eq_true] at h
  simp only [List.set,wG,Bool.and_eq_true];exact ⟨h.1,zBx hv h.2⟩
theorem zLv {k n:Nat} {p:PV}:wG k n (AV.p p).cells=true:=by
 cases p<;>first | rfl | exact vQ _
theorem zE8 {l:List AV}:(AV.ag l).cells=l:=rfl
theorem zIu {k n:Nat}:∀ {l:List PV},wG k n (l.map zA)=true
 | []=>rfl
 | a :: l=>by
  simp only [List.map_cons,wG,Bool.and_eq_true];refine ⟨?_,zIu⟩;unfold zA;cases a.nilOf<;>rfl
section
variable {P:Program} {te:TE} {cx:Ctx} {s:AS} {α β I:Type} {r:β} {ks:List Nat} {q:Exit->AS->Prop} {env:List (Nat×AV)} {blk:List (Nat×zN)}
theorem cN {t k off:Nat} {ty:TypeId} {l:List AV} {i:TI} (H:(s.env t,s.blk k,te ty,i.isAgg,Nat.ble (off+i.w) l.length)=(some (.ptr k off),some (.var l),some i,true,true)):RV te s (.cell t ty) (.ag ((l.drop off).take i.w)):=
 have ⟨a,H⟩:=pq H;have ⟨b,H⟩:=pq H;have ⟨c,H⟩:=pq H;have ⟨d,e⟩:=pq H;.cellN t k off ty l i a b c d (Nat.le_of_ble_eq_true e)
theorem tM {t:Nat} {v:AV} (h:s.env t=some v):RV te s (.tmp t) v:=.tmp _ _ h
theorem Ez {f:I->Exit×AS} {j i:I} {e:Exit} (h:some j=some i) (p:PK cx ks) (H:(f j,gE s env,gB s id blk,(nO (lk blk) env&&ks.all (λk=>(lk blk k).isSome)),uF (lk blk) blk)=((e,mkS env blk),vE id env,vB id blk,true,true):=by exact R):OQ cx f i e s:=E h p H
theorem lY (p:PK cx ks) (H:(gE s env,gB s id blk,(nO (lk blk) env&&ks.all (λk=>(lk blk k).isSome)))=(vE id env,vB id blk,true):=by exact R) (h:uF (lk blk) blk=true:=by repeat' first | exact R | exact om | exact oE | refine cbo ?_ ?_ | refine cbb ?_ | refine cbv ?_ ?_):Imp cx.pk s (mkS env blk):=lpX p H h
theorem lZ (p:PK cx ks) (m:List (Nat×Nat))
  (he:gE s env=vE (AV.ren (rho m)) env:=by exact R) (hb:gB s (rho m) blk=vB (zN.ren (rho m)) blk:=by first | exact R | (simp only [gB,vB,bR,bV,zN.ren,zPs,dB];exact R))
  (h1:(nO (lk (bR (rho m) blk)) (rE (rho m) env)&&(ks.all (λk=>(lk (bR (rho m) blk) k).isSome) &&
   (((kR (rho m) blk).all λj=>(Nat.blt j BIG||Nat.ble BIG (rho (swp m) j))&&(kR (rho m) blk).all λj'=>!Nat.beq (rho (swp m) j) (rho (swp m) j')||Nat.beq j j')&&ks.all λk=>Nat.beq (rho (swp m) k) k)))=true:=by exact R)
  (h2:uF (lk (bR (rho m) blk)) (bR (rho m) blk)=true:=by first | exact R | (simp only [gB,vB,bR,bV,zN.ren,zPs,dB];repeat' first | exact R | exact om | exact oE | refine cbo ?_ ?_ | refine cbb ?_ | refine cbv ?_ ?_))
  (h3:rE (rho (swp m)) (rE (rho m) env)=env:=by exact R) (h4:bR (rho (swp m)) (bR (rho m) blk)=blk:=by first | exact R | (simp only [gB,vB,bR,bV,zN.ren,zPs,dB];exact R)):Imp cx.pk s (mkS env blk):=lr p m he hb h1 h2 h3 h4
theorem iW (i:Nat) {c:Code} [zIr s] (_:cid c=i) (env:List (Nat×AV)) (blk:List (Nat×zN)) (p:PK cx ks) (H:(gE s env,gB s id blk,(nO (lk blk) env&&ks.all (λk=>(lk blk k).isSome)))=(vE id env,vB id blk,true)) (k:Wp P cx c q (mkS env blk)) (h:uF (lk blk) blk=true:=by repeat' first | exact R | exact om | exact oE | refine cbo ?_ ?_ | refine cbb ?_ | refine cbv ?_ ?_):Wp P cx c q s:=⟨im (lpX p H h) k.1⟩
def nxR (P:Program) (cx:Ctx) (q:Exit->AS->Prop) (s:AS) (n:Nat):Code->Prop
 | .region _ ops false=>RK P ops ops.toList s λs' ms=>cO n ms=true/\q .normal s'
 | .region _ ops true=>RK P ops ops.toList s λs' ms=>cO n ms=true/\(rQ ops ms&&zLw ops)=true/\q .normal s'
 | .seq x y=>Wp P cx x (zWd (Wp P cx y q) q) s
 | .block i c=>Wp P cx c (zH8 i q) s
 | .skip=>q .normal s
 | .exit i=>q (.exit i) s
 | .ret=>q .ret s
 | _=>False
def isT:Code->Bool
 | .seq _ _ | .block _ _ | .skip | .exit _ | .ret | .region _ _ _=>true
 | _=>false
class Mx (P:Program):Prop where
 x:P.follows .mixedOrders=true
theorem ZA {c:Code} {n:Nat} (hnt:cx.nt=n) (hm:P.follows .mixedOrders=true) (h:isT c=true) (k:nxR P cx q s n c):Wp P cx c q s:=by
 cases c<;>first | cases h | skip
 all_goals first
  | exact Z1 rfl k
  | skip
 rename_i b
 cases b
 ·exact G1 hnt k
 ·exact Y1 hnt hm k
theorem ZB [M:Mx P] {c:Code} {n:Nat} (h:isT c=true) (k:nxR P cx q s n c) (hnt:cx.nt=n:=by exact n):Wp P cx c q s:=ZA hnt M.x h k
theorem rA [T:pB P] {fn:Func} {rv1 rv2:ResultVar} {v1 v2 v:AV} {l:List AV} {p:PV} {bs:List (Nat×zN)} (H:fn.results=#[rv1,rv2]) (a:RV T.te s rv1 v1) (b:RV T.te s rv2 v2)
  (h:(({ env:=lk [(0,.tu [v1,v2])],blk:=s.blk }:AS).env 0,l[0]?,({ env:=lk [(0,.tu [v1,v2])],blk:=s.blk }:AS).rd v)=(some (.tu l),some v,some (p,bs)))
  (H2:(gE ((({ env:=lk [(0,.tu [v1,v2])],blk:=s.blk }:AS)).put 0 (.tu (l.set 0 (.p p)))) env,gB ((({ env:=lk [(0,.tu [v1,v2])],blk:=s.blk }:AS)).put 0 (.tu (l.set 0 (.p p)))) id blk,(nO (lk blk) env&&ks.all (λk=>(lk blk k).isSome)),uF (lk blk) blk)=(vE id env,vB id blk,true,true)) :
  ∀ cx:Ctx,PK cx ks->jU P fn cx s (mkS env blk):=λ_ p=>have ⟨c,h⟩:=pq h;have ⟨d,e⟩:=pq h;fD T.ok H a b (tI (Imp.pureT (t:=0) 0 c d e) (lP p H2))
end
section
variable {O:GO} {s:AS} {ρ:Nat->Nat} {D:List Nat} {v v1 v2 v3 v4:AV} {q q1 q2 q3 q4:PV} {b b1 b2 b3 b4 bs:List (Nat×zN)} {vs us:List AV} {j j1 j2 k o:Nat}
theorem g4 (H:(s.rd v1,s.rd v2,s.rd v3,s.rd v4)=(some (q1,b1),some (q2,b2),some (q3,b3),some (q4,b4))) (k:GVs O s ρ D vs us bs):GVs O s ρ D (v1 :: v2 :: v3 :: v4 :: vs) (.p q1 :: .p q2 :: .p q3 :: .p q4 :: us) (b1++(b2++(b3++(b4++bs)))):=
 have ⟨a,H⟩:=pq H;have ⟨b,H⟩:=pq H;have ⟨c,d⟩:=pq H;glp a (glp b (glp c (glp d k)))
end
section
variable {P:Program} [T:pB P] {ops:Array Oper} {s:AS} {r:List Oper} {K:AS->List Mic->Prop} {d:Nat} {ty:TypeId} {pos:String} {af:Array Edge}
theorem RK.cA {p:Prop} {f:FuncId} {xs:Array Operand} {ts:Array TypeId} {xl:List Operand} {tl:List TypeId} {ps:List PV} {rs:List (Nat×AV)} {bb:List (Nat×zN)} {na:Nat} {av:AV} {blks:List (Nat×zN)} (c:p->Ok P f na (mkS (argE 0 ps) []) (mkS [(0,av)] blks)) (hx:(xs.toList,ts.toList)=(xl,tl)) (ha:iF s T.te xl tl ps rs bb) (hn:(Nat.beq na ps.length,(kR (sh d) blks).all (λk=>(s.blk k).isNone))=(true,true))
  (k:RK P ops r (Mic.upd ⟨rs,bb,kR (sh d) blks,some (d,some (av.ren (sh d))),bR (sh d) blks⟩ s) λs' ms=>K s' (⟨rs,bb,kR (sh d) blks,some (d,some (av.ren (sh d))),bR (sh d) blks⟩:: ms)) (hp:p:=by exact a):RK P ops (⟨some d,.call ⟨.value (.func f),xs,ts⟩,ty,pos,af,none⟩:: r) s K:=RK.cl (c hp) hx ha hn k
end
def stZ (te:TE) (s:AS):Oper->Option (AS×Mic)
 | ⟨some d,.alloc t,_,_,_,none⟩ =>match te t,s.blk d with
  | some i,none=>some ((s.setb d (.var (i.z.map zA))).put d (.ptr d 0),⟨[],[],[d],some (d,some (.ptr d 0)),[(d,.var (i.z.map zA))]⟩)
  | _,_=>none
 | ⟨some d,.box t x,_,_,_,none⟩ =>match s.get te t x,s.blk d with
  | some v,none=>some ((s.setb d (.var v.cells)).put d (.ptr d 0),⟨opS x v,[],[d],some (d,some (.ptr d 0)),[(d,.var v.cells)]⟩)
  | _,_=>none
 | ⟨none,.store t ax x,_,_,_,none⟩ =>match te t,s.get te 0 ax,s.get te t x with
  | some i,some (.ptr k0 off),some v=>match s.blk k0 with
   | some (.var l)=>bif Nat.beq off 0&&(Nat.beq v.cells.length i.w&&(Nat.beq i.w l.length&&v.cells.all AV.one)) then some (s.setb k0 (.var v.cells),⟨opS ax (.ptr k0 off)++opS x v,[(k0,.var l)],[],none,[(k0,.var v.cells)]⟩)
    else bif Nat.beq v.cells.length i.w&&(Nat.ble (off+i.w) l.length&&v.cells.all AV.one) then some (s.setb k0 (.var (uO l off v.cells)),⟨opS ax (.ptr k0 off)++opS x v,[(k0,.var l)],[],none,[(k0,.var (uO l off v.cells))]⟩) else none
   | _=>none
  | _,_,_=>none
 | ⟨some d,op,ty,_,_,none⟩ =>match ev1 te s ty op with
  | some (v,rs,bs)=>some (s.put d v,⟨rs,bs,[],some (d,some v),[]⟩)
  | none=>none
 | _=>none
section
variable {P:Program} [T:pB P] {ops:Array Oper} {s:AS} {r:List Oper} {K:AS->List Mic->Prop}
theorem bif2 {α:Type} {c d:Bool} {x y z:α} (h:(bif c then some x else bif d then some y else none)=some z):(c=true/\x=z)∨(d=true/\y=z):=by cases c<;>cases d<;>simp_all
theorem RK.z {o:Oper} {s':AS} {m:Mic} (h:stZ T.te s o=some (s',m)) (k:RK P ops r s' λs2 ms=>K s2 (m :: ms)):RK P ops (o :: r) s K:=by
 unfold stZ at h
 split at h
 ·split at h
  ·rename_i h1 h2
   cases h
   exact RK.al (by rw [h1,h2]) k
  ·cases h
 ·split at h
  ·rename_i h1 h2
   cases h
   exact RK.bx (by rw [h1,h2]) k
  ·cases h
 ·split at h
  ·rename_i h1 h2 h3
   split at h
   ·rename_i h4
    rcases bif2 h with ⟨e,q⟩ | ⟨e,q⟩<;>cases q<;>simp only [Bool.and_eq_true] at e
    ·obtain ⟨e0,e1,e2,e3⟩:=e
     have e0:=Nat.eq_of_beq_eq_true e0
     subst e0
     exact RK.stW (by rw [h1,h2,h3,h4,e1,e2,e3]) k
    ·obtain ⟨e1,e2,e3⟩:=e
     exact RK.sto (by rw [h1,h2,h3,h4,e1,e2,e3]) k
   ·cases h
  ·cases h
 ·split at h
  ·rename_i h1
   cases h
   exact RK.ev h1 k
  ·cases h
 ·cases h
def yF9 (te:TE):Nat->AS->List Oper->Option (AS×List Mic×List Oper)
 | 0,s,l=>some (s,[],l)
 | n+1,s,o :: r=>match stZ te s o with
  | some (s',m)=>match yF9 te n s' r with
   | some (a,b,c)=>some (a,m :: b,c)
   | none=>none
  | none=>none
 | _+1,_,[]=>none
theorem RK.zn (n:Nat):∀ {l:List Oper} {s s':AS} {ms:List Mic} {q:List Oper} {K:AS->List Mic->Prop},yF9 T.te n s l=some (s',ms,q)->(RK P ops q s' λs2 b=>K s2 (ms++b))->RK P ops l s K:=by
 induction n with
 | zero=>intro l s s' ms q K h k;simp only [yF9,Option.some.injEq,Prod.mk.injEq] at h;obtain ⟨rfl,rfl,rfl⟩:=h;exact k
 | succ n ih=>
  intro l s s' ms q K h k
  cases l with
  | nil=>cases h
  | cons o r=>
   simp only [yF9] at h
   split at h
   ·rename_i s1 m h1
    split at h
    ·rename_i a b c h2
     cases h
     exact RK.z h1 (ih h2 k)
    ·cases h
   ·cases h
end
end Go.Sw
