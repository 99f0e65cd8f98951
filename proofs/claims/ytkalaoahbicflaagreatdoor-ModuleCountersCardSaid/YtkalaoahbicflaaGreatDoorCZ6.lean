/- A part. -/
import Derived.Shelf.SlicesE.Clone
import Derived.Test.YtkalaoahbicflaaGreatDoorProg
import Derived.Test.YtkalaoahbicflaaGreatDoorCZ5
import Derived.Lib.LazyBuf
import Derived.Laws.StructEq
import Derived.Lib.SliceRun
set_option linter.all false
namespace Go.Proofs
open Go.Shelf
def Tryz.laysSlE041_f179_ren:Go.Shelf.Ren:=⟨fun | 41=>179 | n=>n,fun | 22=>28 | 23=>75 | 4=>4 | n=>n,fun | n=>n⟩
theorem Tryz.laysSlE041_f179:Go.Proofs.SlLaysE0.n41 Tryz.prog Tryz.laysSlE041_f179_ren:={
 mixed:=by kernel_rfl
 f41:=⟨Tryz.f179.name,by decide,Tryz.func179.trans (congrArg some (by kernel_rfl))⟩
 t4:=Tryz.underlying4
 a4:=Tryz.isAgg4
 z4:=Tryz.sizeOf4
 v4:=Tryz.zeroValue4
 t22:=Tryz.underlying28
 a22:=Tryz.isAgg28
 z22:=Tryz.sizeOf28
 v22:=Tryz.zeroValue28 }
def Tryz.laysSlE041_f267_ren:Go.Shelf.Ren:=⟨fun | 41=>267 | n=>n,fun | 22=>36 | 23=>3 | 4=>4 | n=>n,fun | n=>n⟩
theorem Tryz.laysSlE041_f267:Go.Proofs.SlLaysE0.n41 Tryz.prog Tryz.laysSlE041_f267_ren:={
 mixed:=by kernel_rfl
 f41:=⟨Tryz.f267.name,by decide,Tryz.func267.trans (congrArg some (by kernel_rfl))⟩
 t4:=Tryz.underlying4
 a4:=Tryz.isAgg4
 z4:=Tryz.sizeOf4
 v4:=Tryz.zeroValue4
 t22:=Tryz.underlying36
 a22:=Tryz.isAgg36
 z22:=Tryz.sizeOf36
 v22:=Tryz.zeroValue36 }
end Go.Proofs
namespace Go.Proofs.H
open Go Go.Sw Go.Proofs Go.Proofs.TT Go.RowKit Go.Lib Go.Shelf
theorem clone_gen {P:Program} {f:FuncId} {t:TypeId} {size bytes:Nat} {α:Type} {enc:α->PV} (hc:Callable P f) (hs:0<size) (h4:size≠4) (hwd:∀ a,(enc a).cells.length=size) (hone:∀ a,(enc a).cells.all PV.one=true) (hb:0<bytes)
  (hN:∀ (n c:Nat) (w:World),Calls P f #[.slice none n c] w λe w'=>e=.returned (.slice none 0 0)/\w'=w)
  (hC:∀ (b off n c:Nat) (news:List Value) (w:World),news.length=n*size->n<=maxLen->n*bytes<=140737488355328->(∀ j u,news[j]? = some u->w.cell? ⟨b,off+j,none⟩=some u)->(∀ u∈news,u.oneCell'=true) ->
   Calls P f #[.slice (some ⟨b,off,none⟩) n c] w λe w'=>∃ v',e=.returned v'/\w'.ownsRow w.heap.size t size v' n news/\v'≠.slice none 0 0/\Below w.heap.size w w')
  {l r:List α} (h:slices_Clone bytes l=some r):Ok P f 1 (mkS (argE 0 [.sl size (l.map enc)]) []) (mkS [(0,.own 500 r.length)] [(500,qO (.sl size (r.map enc)))]):=by
 unfold slices_Clone at h
 rcases cond_some h with ⟨hle,h⟩ | ⟨_,h⟩
 case inr=>cases h
 cases h
 have hle:=Nat.le_of_ble_eq_true hle
 have hfl:=flat_len (f:=enc) hwd l
 have hall:∀ p∈l.map enc,p.cells.length=size:=λp hp=>by obtain ⟨a,_,rfl⟩:=List.mem_map.1 hp;exact hwd a
 obtain ⟨_,hfg⟩:=flat_get (l.map enc) hall
 refine ok_handO (ps:=[.sl size (l.map enc)]) (n:=l.length) (l:=flatCells (l.map enc)) hs hfl.symm hc λw M args hm hsz hr=>?_
 have h0:=hr 0 _ rfl
 obtain ⟨al⟩:=args
 match al,hsz,h0 with
 | [a0],_,h0=>
 simp only [Array.getD_eq_getD_getElem?,List.getElem?_toArray,List.getElem?_cons_zero,Option.getD_some] at h0
 generalize hL:l.map enc=L at h0 hfg hfl hall
 have hlen:L.length=l.length:=by rw [<- hL,List.length_map]
 have hoL:∀ p∈L,p.cells.all PV.one=true:=λp hp=>by rw [<- hL] at hp;obtain ⟨a,_,rfl⟩:=List.mem_map.1 hp;exact hone a
 cases h0 with
 | sl0=>
  have hl0:l.length=0:=by rw [<- hlen];rfl
  refine (hN 0 0 w).mono ?_
  rintro e w' ⟨rfl,rfl⟩
  exact ⟨_,t,[],rfl,rfl,rfl,rfl,Nat.le_refl _,λ_ _=>rfl,⟨by rw [hl0];simp,.inl ⟨rfl,hl0⟩⟩,λj q hq=>by simp [flatCells] at hq⟩
 | slE a=>exact absurd rfl h4
 | sl _ _ b o n c g1 g2 g3 g4 g5=>
  obtain rfl:n=l.length:=by omega
  have hn:=rfl (a:=l.length)
  have hat:∀ j,j<l.length*size->∃ q,(flatCells L)[j]? = some q/\q.one=true/\(M b (o+j)).isSome=true/\Rep M q (mget M b (o+j)):=λj hj=>by
   have hi:j / size<L.length:=by rw [<- g1];exact Nat.div_lt_of_lt_mul (by rw [Nat.mul_comm];exact hj)
   have hk:j % size<(L[j / size]).cells.length:=by rw [hall _ (List.getElem_mem hi)];exact Nat.mod_lt _ hs
   have e:j / size*size+j % size=j:=by rw [Nat.mul_comm];exact Nat.div_add_mod j size
   have p1:=List.getElem?_eq_getElem hi
   have p2:=List.getElem?_eq_getElem hk
   have a1:=hfg _ _ _ _ p1 p2
   have a2:=g4 _ _ _ _ p1 p2
   have a3:=g5 _ _ _ _ p1 p2
   rw [e] at a1 a2 a3
   exact ⟨_,a1,(List.all_eq_true.1 (hoL _ (List.getElem_mem hi))) _ (List.getElem_mem hk),a2,a3⟩
  have hnw:∀ j,j<l.length*size->((List.range (l.length*size)).map λj=>mget M b (o+j))[j]? = some (mget M b (o+j)):=λj hj=>by
   rw [List.getElem?_map,List.getElem?_range hj];rfl
  refine (hC b o l.length c ((List.range (l.length*size)).map λj=>mget M b (o+j)) w (by simp) ?_ hle (λj u hu=>?_) λu hu=>?_).mono ?_
  ·have:l.length*1<=l.length*bytes:=Nat.mul_le_mul_left _ hb
   have:l.length*bytes<=140737488355328:=hle
   exact Nat.le_trans (by omega) (show 140737488355328<=maxLen by decide)
  ·have hj:j<l.length*size:=by have:=(List.getElem?_eq_some_iff.1 hu).1;simpa using this
   rw [hnw j hj] at hu
   cases hu
   obtain ⟨q,_,_,h2,_⟩:=hat j hj
   obtain ⟨x,hx⟩:=Option.isSome_iff_exists.1 h2
   have:mget M b (o+j)=x:=by unfold mget;rw [hx];rfl
   rw [this]
   exact hm _ _ _ hx
  ·obtain ⟨j,hj,rfl⟩:=List.mem_map.1 hu
   obtain ⟨q,_,h1,_,h3⟩:=hat j (List.mem_range.1 hj)
   exact one_pv h3 h1
  ·rintro e w' ⟨v',rfl,hown,_,hbel⟩
   refine ⟨v',t,_,rfl,hbel.os,hbel.tape,hbel.output,hbel.size,hbel.block,hown,λj q hq=>?_⟩
   have hj:j<l.length*size:=by have:=(List.getElem?_eq_some_iff.1 hq).1;omega
   obtain ⟨q',h1,_,_,h3⟩:=hat j hj
   rw [h1] at hq
   cases hq
   exact ⟨_,hnw j hj,h3⟩
end Go.Proofs.H
namespace Go.Proofs.Tryz.S
open Go Go.Sw Go.Proofs.TT
theorem mixed:Tryz.prog.follows .mixedOrders=true:=by kernel_rfl
abbrev Z (f na:Nat) (l:List PV) (v:AV) (b:List (Nat×ABlk)):Prop:=Ok Tryz.prog f na (mkS (argE 0 l) []) (mkS [(0,v)] b)
theorem Y {cx:Ctx} {q:Exit->AS->Prop} {s:AS} {ops:Array Oper} {id n:Nat} (hnt:cx.nt=n) (h:RK Tryz.prog ops ops.toList s λs' ms=>bC n ms=true/\(qH ops ms&&zLp ops)=true/\q .normal s'):awp Tryz.prog cx (.region id ops true) q s:=rgd hnt mixed h
instance tenv:pK Tryz.prog:=⟨te,nB⟩
theorem oN {l r:List zF} (h:slices_Clone 112 l=some r):Ok Tryz.prog 179 1 (mkS (argE 0 [.sl 8 (l.map zF.pv)]) []) (mkS [(0,.own 500 r.length)] [(500,qO (.sl 8 (r.map zF.pv)))]):=by
 obtain ⟨i,z,g1,g2,g3,g4,g5⟩:=(nB 75 t75 rfl).info
 exact H.clone_gen (t:=75) (size:=8) (bytes:=112) ⟨_,Tryz.func179,by kernel_rfl,by kernel_rfl⟩ (by decide) (by decide) (λ_=>rfl) (λ_=>rfl) (by decide) (AnyE.slices_Clone_nil Tryz.laysSlE041_f179) (AnyE.slices_Clone Tryz.laysSlE041_f179 i z 8 112 g1 g4 g2 g3 (by rw [<- Array.length_toList,g5];rfl) (by decide) Tryz.sizeOf75) h
theorem zDr {l r:List Int} (h:slices_Clone 8 l=some r):Ok Tryz.prog 267 1 (mkS (argE 0 [.sl 1 (l.map (PV.int .i64))]) []) (mkS [(0,.own 500 r.length)] [(500,qO (.sl 1 (r.map (PV.int .i64))))]):=by
 obtain ⟨i,z,g1,g2,g3,g4,g5⟩:=(nB 3 t3 rfl).info
 exact H.clone_gen (t:=3) (size:=1) (bytes:=8) ⟨_,Tryz.func267,by kernel_rfl,by kernel_rfl⟩ (by decide) (by decide) (λ_=>rfl) (λ_=>rfl) (by decide) (AnyE.slices_Clone_nil Tryz.laysSlE041_f267) (AnyE.slices_Clone Tryz.laysSlE041_f267 i z 1 8 g1 g4 g2 g3 (by rw [<- Array.length_toList,g5];rfl) (by decide) Tryz.sizeOf3) h
end Go.Proofs.Tryz.S
set_option linter.all false
namespace Go.Sw
open Go
section
variable {P:Program} {te:TE} {s:AS} {o:Oper} {x y:Operand} {vx vy:AV} {bx by':List (Nat×ABlk)} {k:IntKind}
end
section
variable {P:Program} [T:pK P] {ops:Array Oper} {s:AS} {r:List Oper} {K:AS->List Mic->Prop} {d:Nat} {ty:TypeId} {pos:String} {af:Array Edge} {x y:Operand}
end
section
variable {P:Program} [T:pK P] {ops:Array Oper} {s:AS} {r:List Oper} {K:AS->List Mic->Prop} {d:Nat} {ty:TypeId} {pos:String} {af:Array Edge} {x y:Operand}
end
section
variable {P:Program} [T:pK P] {ops:Array Oper} {s:AS}
end
abbrev qP (k:Nat):Nat×AV:=(k,.ptr k 0)
theorem R {α:Sort _} {a:α}:a=a:=rfl
section
variable {P:Program} {cx:Ctx} {q:Exit->AS->Prop} {s:AS} {α β I:Type} {r:β} {ks:List Nat}
theorem bS {m:Option α} {k:α->Option β} (h:m.bind k=some r):∃ x,m=some x/\k x=some r:=bind_some h
theorem O {G:Prop} {m:Option α} {k:α->Option β} (h:m.bind k=some r) (K:∀ x,m=some x->k x=some r->G):G:=(bind_some h).elim λx h=>K x h.1 h.2
theorem V {G:Prop} {e:α} {f:α->Option β} (h:lt e f=some r) (K:∀ v,e=v->f v=some r->G):G:=K e rfl h
theorem C {G:Prop} {c:Bool} {a b:Option β} (h:(bif c then a else b)=some r) (x:c=true->a=some r->G) (y:c=false->b=some r->G):G:=(cond_some h).elim (λh=>x h.1 h.2) λh=>y h.1 h.2
theorem N {G:Prop} (h:none=some r):G:=by cases h
theorem D {c:Code} {m:Option α} {k:α->Option β} (h:m.bind k=some r) (f:α->Exit×AS) (x:∀ j,m=some j->awp P cx c (OQ cx f j) s) (y:∀ j,k j=some r->q (f j).1 (f j).2):awp P cx c q s:=(bind_some h).elim λj h=>zF4 f j (x j h.1) (y j h.2)
theorem J {c:Code} {m:Option α} {k:α->Option β} (h:m.bind k=some r) (f:α->AS) (x:∀ j,m=some j->awp P cx c (OQ cx (λj=>(.normal,f j)) j) s) (y:∀ j,k j=some r->q .normal (f j)):awp P cx c q s:=D h _ x y
theorem U {X:Type} {body:Code} {step:X->Option (X ⊕ α)} {n:Nat} {x0:X} {k:α->Option β} (h:(zP step n x0).bind k=some r) (E:X->AS) (f:α->Exit×AS) (hi:Imp cx.pk s (E x0)) (hne:∀ y,(f y).1≠.normal)
  (hb:∀ x r,step x=some r->awp P cx body (OQ cx (LF E f) r) (E x)) (y:∀ j,k j=some r->q (f j).1 (f j).2):awp P cx (.loop body) q s:=(bind_some h).elim λj h=>yG3 E f h.1 hi hne hb (y j h.2)
theorem Q {X:Type} {body:Code} {step:X->Option (X ⊕ α)} {n:Nat} {x0:X} {k:α->Option β} (h:(zP step n x0).bind k=some r) (i:Nat) (E:X->AS) (f:α->AS) (hi:Imp cx.pk s (E x0))
  (hb:∀ x r,step x=some r->awp P cx body (OQ cx (LF E λy=>(.exit i,f y)) r) (E x)) (y:∀ j,k j=some r->q (.exit i) (f j)):awp P cx (.loop body) q s:=U h E _ hi (λ_ h=>by cases h) hb y
theorem K (h:q .normal s):awp P cx .skip q s:=zXw h
theorem X {id:Nat} (h:q (.exit id) s):awp P cx (.exit id) q s:=yA1 h
theorem T (h:q .ret s):awp P cx .ret q s:=yGi h
theorem B {id:Nat} {c:Code} (h:awp P cx c (zIf id q) s):awp P cx (.block id c) q s:=zV9 h
theorem L {l:Nat} (h:q .normal s):awp P cx (.label l) q s:=zU0 h
theorem A {t:Nat} {x y:Code} {b:Bool} (he:b=true) (hc:s.env t=some (.p (.bool b))) (h:awp P cx x q s):awp P cx (.cond (.tmp t) x y) q s:=cT he hc h
theorem F {t:Nat} {x y:Code} {b:Bool} (he:b=false) (hc:s.env t=some (.p (.bool b))) (h:awp P cx y q s):awp P cx (.cond (.tmp t) x y) q s:=cF he hc h
theorem G {ops:Array Oper} {id n:Nat} (hnt:cx.nt=n) (h:RK P ops ops.toList s λs' ms=>bC n ms=true/\q .normal s'):awp P cx (.region id ops false) q s:=rgn hnt h
theorem S {x y:Code} (h:awp P cx x (zSw (awp P cx y q) q) s):awp P cx (.seq x y) q s:=yGw h
theorem lpX {env:List (Nat×AV)} {blk:List (Nat×ABlk)} (hpk:PK cx ks) (H:(gE s env,gB s id blk,(lL (lk blk) env&&ks.all (λk=>(lk blk k).isSome)))=(vE id env,vB id blk,true)) (h:tA (lk blk) blk=true):Imp cx.pk s (mkS env blk):=have ⟨a,H⟩:=pq H;have ⟨b,c⟩:=pq H;lp hpk a b c h
theorem lP {env:List (Nat×AV)} {blk:List (Nat×ABlk)} (hpk:PK cx ks) (H:(gE s env,gB s id blk,(lL (lk blk) env&&ks.all (λk=>(lk blk k).isSome)),tA (lk blk) blk)=(vE id env,vB id blk,true,true)):Imp cx.pk s (mkS env blk):=have ⟨a,H⟩:=pq H;have ⟨b,H⟩:=pq H;have ⟨c,d⟩:=pq H;lp hpk a b c d
theorem iX {c:Code} (env:List (Nat×AV)) (blk:List (Nat×ABlk)) (hpk:PK cx ks) (H:(gE s env,gB s id blk,(lL (lk blk) env&&ks.all (λk=>(lk blk k).isSome)),tA (lk blk) blk)=(vE id env,vB id blk,true,true)) (k:awp P cx c q (mkS env blk)):awp P cx c q s:=im (lP hpk H) k
theorem E {f:I->Exit×AS} {j i:I} {e:Exit} (h:some j=some i) (hpk:PK cx ks) {env:List (Nat×AV)} {blk:List (Nat×ABlk)} (H:(f j,gE s env,gB s id blk,(lL (lk blk) env&&ks.all (λk=>(lk blk k).isSome)),tA (lk blk) blk)=((e,mkS env blk),vE id env,vB id blk,true,true)):OQ cx f i e s:=by
 cases h;have ⟨a,H⟩:=pq H;exact ⟨by rw [a],by rw [a];exact lP hpk H⟩
theorem W {f:I->Exit×AS} {j i:I} {e:Exit} (h:some j=some i) (a:e=(f j).1) (b:Imp cx.pk s (f j).2):OQ cx f i e s:=by cases h;exact ⟨a,b⟩
theorem lR {env:List (Nat×AV)} {blk:List (Nat×ABlk)} (hpk:PK cx ks) (m:List (Nat×Nat))
  (H:(gE s env,gB s (rho m) blk,(lL (lk (bR (rho m) blk)) (rE (rho m) env)&&(ks.all (λk=>(lk (bR (rho m) blk) k).isSome) &&
   (((kR (rho m) blk).all λj=>(Nat.blt j BIG||Nat.ble BIG (rho (swp m) j))&&(kR (rho m) blk).all λj'=>!Nat.beq (rho (swp m) j) (rho (swp m) j')||Nat.beq j j')&&ks.all λk=>Nat.beq (rho (swp m) k) k))),
   tA (lk (bR (rho m) blk)) (bR (rho m) blk),rE (rho (swp m)) (rE (rho m) env),bR (rho (swp m)) (bR (rho m) blk))=(vE (AV.ren (rho m)) env,vB (ABlk.ren (rho m)) blk,true,true,env,blk)):Imp cx.pk s (mkS env blk):=
 have ⟨a,H⟩:=pq H;have ⟨b,H⟩:=pq H;have ⟨c,H⟩:=pq H;have ⟨d,H⟩:=pq H;have ⟨e,g⟩:=pq H;lr hpk m a b c d e g
theorem pU {pk:PKs} (t:Nat) {v:AV} {p:PV} {bs:List (Nat×ABlk)} (H:(s.env t,s.rd v)=(some v,some (p,bs))):Imp pk s (s.put t (.p p)):=have ⟨a,b⟩:=pq H;Imp.pure a b
theorem pV {pk:PKs} (t:Nat) {v:AV} {p:PV} {bs:List (Nat×ABlk)} (a:s.env t=some v) (b:s.rd v=some (p,bs)):Imp pk s (s.put t (.p p)):=Imp.pure a b
theorem pC {pk:PKs} (k:Nat) {l:List AV} (j:Nat) {z:AV} {p:PV} {bs:List (Nat×ABlk)} (H:(s.blk k,l[j]?,s.rd z)=(some (.var l),some z,some (p,bs))):Imp pk s (s.setb k (.var (l.set j (.p p)))):=have ⟨a,H⟩:=pq H;have ⟨b,c⟩:=pq H;Imp.pureC j a b c
theorem pD {pk:PKs} (k:Nat) {l:List AV} (j:Nat) {z:AV} {p:PV} {bs:List (Nat×ABlk)} (H:(s.blk k,l[j]?)=(some (.var l),some z)) (c:s.rd z=some (p,bs)):Imp pk s (s.setb k (.var (l.set j (.p p)))):=have ⟨a,b⟩:=pq H;Imp.pureC j a b c
theorem pM {pk:PKs} (t k:Nat) {c:PV} (H:(s.env t,s.blk k,Nat.blt 0 c.width)=(some (.nl c),none,true)):Imp pk s ((s.setb k (.buf c)).put t (.buf k 0)):=have ⟨a,H⟩:=pq H;have ⟨b,d⟩:=pq H;Imp.promote a b (Nat.le_of_ble_eq_true d)
theorem hA {f:FuncId} {fn:Func} {body:Code} {na:Nat} {en:List (Nat×AV)} {rs:AS} (E:I->AS) (j:I) (hf:P.funcs[f]? = some fn) (H:(fn.body,(fn.name == "runtime.NumGoroutine"),Nat.ble na fn.ntmps)=(some body,false,true))
  (hr:∀ cx:Ctx,PK cx []->kL P fn cx (E j) rs) (h:∀ cx:Ctx,cx.nt=fn.ntmps->PK cx []->awp P cx body (OQ cx (λj=>(.ret,E j)) j) (mkS en [])):Ok P f na (mkS en []) rs:=
 have ⟨a,H⟩:=pq H;have ⟨b,c⟩:=pq H;zM3 (E j) hf a b (Nat.le_of_ble_eq_true c) (zPx rfl) hr λcx n p=>zF4 (λj=>(.ret,E j)) j (h cx n p) ⟨rfl,Imp.refl⟩
theorem hB {f:FuncId} {fn:Func} {body:Code} {na:Nat} {en:List (Nat×AV)} {bl:ABlk} {rs:AS} (E:I->AS) (j:I) (hf:P.funcs[f]? = some fn) (H:(fn.body,(fn.name == "runtime.NumGoroutine"),Nat.ble na fn.ntmps)=(some body,false,true))
  (hr:∀ cx:Ctx,PK cx [0]->kL P fn cx (E j) rs) (h:∀ cx:Ctx,cx.nt=fn.ntmps->PK cx [0]->awp P cx body (OQ cx (λj=>(.ret,E j)) j) (mkS en [(0,bl)])):Ok P f na (mkS en [(0,bl)]) rs:=
 have ⟨a,H⟩:=pq H;have ⟨b,c⟩:=pq H;zM3 (E j) hf a b (Nat.le_of_ble_eq_true c) (zLz rfl) hr λcx n p=>zF4 (λj=>(.ret,E j)) j (h cx n p) ⟨rfl,Imp.refl⟩
theorem hDo {f:FuncId} {fn:Func} {body:Code} {na:Nat} {en:List (Nat×AV)} {K:List (Nat×ABlk)} {rs:AS} {ks:List Nat} (E:I->AS) (j:I) (hf:P.funcs[f]? = some fn) (H:(fn.body,(fn.name == "runtime.NumGoroutine"),Nat.ble na fn.ntmps)=(some body,false,true)) (hks:∀ k,k<BIG->((mkS en K).blk k).isSome=true->k∈ks)
  (hr:∀ cx:Ctx,PK cx ks->kL P fn cx (E j) rs) (h:∀ cx:Ctx,cx.nt=fn.ntmps->PK cx ks->awp P cx body (OQ cx (λj=>(.ret,E j)) j) (mkS en K)):Ok P f na (mkS en K) rs:=
 have ⟨a,H⟩:=pq H;have ⟨b,c⟩:=pq H;zM3 (E j) hf a b (Nat.le_of_ble_eq_true c) hks hr λcx n p=>zF4 (λj=>(.ret,E j)) j (h cx n p) ⟨rfl,Imp.refl⟩
theorem r1 [T:pK P] {fn:Func} {rs:AS} {t:Nat} {av:AV} (H:(fn.results,s.env t,({ env:=lk [(0,av)],blk:=s.blk }:AS))=(#[.tmp t],some av,rs)):∀ cx:Ctx,PK cx ks->kL P fn cx s rs:=λ_ _=>have ⟨a,H⟩:=pq H;have ⟨b,c⟩:=pq H;uM T.ok a (.tmp _ _ b) (c▸Imp.refl)
section
variable {te:TE} {t1 t2 t3 t4 t5:TypeId} {x1 x2 x3 x4 x5:Operand} {v1 v2 v3 v4 v5:AV} {p1 p2 p3 p4 p5:PV} {b1 b2 b3 b4 b5:List (Nat×ABlk)}
theorem a1 (H:(s.get te t1 x1,s.rd v1)=(some v1,some (p1,b1))):lH s te [x1] [t1] [p1] (opS x1 v1++[]) (b1++[]):=have ⟨a,b⟩:=pq H;ac a b an
theorem a2 (H:(s.get te t1 x1,s.rd v1,s.get te t2 x2,s.rd v2)=(some v1,some (p1,b1),some v2,some (p2,b2))):lH s te [x1,x2] [t1,t2] [p1,p2] (opS x1 v1++(opS x2 v2++[])) (b1++(b2++[])):=have ⟨a,H⟩:=pq H;have ⟨b,H⟩:=pq H;ac a b (a1 H)
theorem a3 (H:(s.get te t1 x1,s.rd v1,s.get te t2 x2,s.rd v2,s.get te t3 x3,s.rd v3)=(some v1,some (p1,b1),some v2,some (p2,b2),some v3,some (p3,b3))):lH s te [x1,x2,x3] [t1,t2,t3] [p1,p2,p3] (opS x1 v1++(opS x2 v2++(opS x3 v3++[]))) (b1++(b2++(b3++[]))):=have ⟨a,H⟩:=pq H;have ⟨b,H⟩:=pq H;ac a b (a2 H)
theorem a4 (H:(s.get te t1 x1,s.rd v1,s.get te t2 x2,s.rd v2,s.get te t3 x3,s.rd v3,s.get te t4 x4,s.rd v4)=(some v1,some (p1,b1),some v2,some (p2,b2),some v3,some (p3,b3),some v4,some (p4,b4))):lH s te [x1,x2,x3,x4] [t1,t2,t3,t4] [p1,p2,p3,p4] (opS x1 v1++(opS x2 v2++(opS x3 v3++(opS x4 v4++[])))) (b1++(b2++(b3++(b4++[])))):=have ⟨a,H⟩:=pq H;have ⟨b,H⟩:=pq H;ac a b (a3 H)
end
end
section
variable {P:Program} {ops:Array Oper} {s:AS} {K:AS->List Mic->Prop} {A B D:Prop} {n:Nat} {ms:List Mic}
theorem RK.e (H:(K s [],bC n ms)=((bC n ms=true/\B),true)) (b:B):RK P ops [] s K:=have ⟨h,a⟩:=pq H;.nil (h▸⟨a,b⟩)
theorem RK.d (H:(K s [],bC n ms)=((bC n ms=true/\B/\D),true)) (b:B) (d:D):RK P ops [] s K:=have ⟨h,a⟩:=pq H;.nil (h▸⟨a,b,d⟩)
end
def evI (k:IntKind) (a b:Int):BinOp->Option PV
 | .add=>some (.int k (k.wrap (a+b)))
 | .sub=>some (.int k (k.wrap (a - b)))
 | .mul=>some (.int k (k.wrap (a*b)))
 | .and=>some (.int k (xB k a b))
 | .or=>some (.int k (ior k a b))
 | .xor=>some (.int k (xK k a b))
 | .andNot=>some (.int k (zAx k a b))
 | .eql=>some (.bool (a==b))
 | .neq=>some (.bool (a != b))
 | .lss=>some (.bool (decide (a<b)))
 | .leq=>some (.bool (decide (a<=b)))
 | .gtr=>some (.bool (decide (b<a)))
 | .geq=>some (.bool (decide (b<=a)))
 | _=>none
def evJ (a b:Int):BinOp->Option PV
 | .add=>some (.int .u8 (u8 (IntKind.u8.wrap (a+b))).toNat)
 | .sub=>some (.int .u8 (u8 (IntKind.u8.wrap (a - b))).toNat)
 | .mul=>some (.int .u8 (u8 (IntKind.u8.wrap (a*b))).toNat)
 | .and=>some (.int .u8 (u8 (xB .u8 a b)).toNat)
 | .or=>some (.int .u8 (u8 (ior .u8 a b)).toNat)
 | .xor=>some (.int .u8 (u8 (xK .u8 a b)).toNat)
 | .andNot=>some (.int .u8 (u8 (zAx .u8 a b)).toNat)
 | f=>evI .u8 a b f
def evT (a b:List UInt8):BinOp->Option PV
 | .eql=>some (.bool (SOp .eql a b))
 | .neq=>some (.bool (SOp .neq a b))
 | .lss=>some (.bool (SOp .lss a b))
 | .leq=>some (.bool (SOp .leq a b))
 | .gtr=>some (.bool (SOp .gtr a b))
 | .geq=>some (.bool (SOp .geq a b))
 | _=>none
def is8:IntKind->Bool
 | .u8=>true
 | _=>false
def evP (f:BinOp):AV->AV->Option PV
 | .p (.int k a),.p (.int k' b)=>bif decide (k=k') then bif is8 k then evJ a b f else evI k a b f else none
 | .p (.str a),.p (.str b)=>evT a b f
 | _,_=>none
def evA (te:TE) (t:TypeId) (f:Nat):AV->Option AV
 | .ptr k o=>match (te t).map TI.ty with
  | some (.struct fs)=>match fs[f]? with
   | some (ft,fo)=>match te ft with
    | some fi=>bif nzw fi then some (.ptr k (o+fo)) else none
    | none=>none
   | none=>none
  | _=>none
 | .p (.cptr (.agg l))=>match (te t).map TI.ty with
  | some (.struct fs)=>match fs[f]? with
   | some (ft,fo)=>match te ft with
    | some fi=>bif nzw fi then match nV fi.isAgg l fo fi.w with
     | some q=>some (.p (.cptr q))
     | none=>none else none
    | none=>none
   | none=>none
  | _=>none
 | _=>none
def evL (s:AS) (i:TI):AV->Option (AV×List (Nat×ABlk))
 | .ptr k o=>match s.blk k with
  | some (.var l)=>bif i.plain then match l[o]? with
   | some v=>some (v,[(k,.var l)])
   | none=>none else bif i.isAgg&&(Nat.beq o 0&&Nat.beq i.w l.length) then some (.ag l,[(k,.var l)]) else none
  | _=>none
 | .p (.cptr (.agg l))=>bif i.isAgg&&Nat.beq l.length i.w then some (.p (.agg l),[]) else none
 | .p (.cptr q)=>bif i.plain then some (.p q,[]) else none
 | _=>none
def evC (te:TE) (s d:TypeId):AV->Option AV
 | .p (.int k a)=>match (te s).map TI.ty,(te d).map TI.ty with
  | some (.int k'),some (.int k2)=>bif decide (k'=k) then bif is8 k2 then some (.p (.int .u8 (u8 a).toNat)) else some (.p (.int k2 (k2.wrap a))) else none
  | _,_=>none
 | _=>none
def ev1 (te:TE) (s:AS) (ty:TypeId):Op->Option (AV×List (Nat×AV)×List (Nat×ABlk))
 | .move x=>match s.get te ty x with
  | some v=>some (v,opS x v,[])
  | none=>none
 | .assign x=>match s.get te ty x with
  | some v=>some (v,opS x v,[])
  | none=>none
 | .binOp f tx x y t=>match s.get te tx x,s.get te t y with
  | some v,some w=>match evP f v w with
   | some p=>some (.p p,opS x v++opS y w,[])
   | none=>none
  | _,_=>none
 | .unOp .not tx x=>match s.get te tx x with
  | some (.p (.bool a))=>some (.p (.bool (!a)),opS x (.p (.bool a)),[])
  | _=>none
 | .fieldAddr t x f=>match s.get te 0 x with
  | some v=>match evA te t f v with
   | some w=>some (w,opS x v,[])
   | none=>none
  | none=>none
 | .load t x=>match s.get te 0 x,te t with
  | some v,some i=>match evL s i v with
   | some (w,bs)=>some (w,opS x v,bs)
   | none=>none
  | _,_=>none
 | .convert a b x=>match s.get te a x with
  | some v=>match evC te a b v with
   | some w=>some (w,opS x v,[])
   | none=>none
  | none=>none
 | .extract x n=>match s.get te 0 x with
  | some (.tu l)=>match l[n]? with
   | some v=>some (v,opS x (.tu l),[])
   | none=>none
  | _=>none
 | .nilCheck x=>match s.get te 0 x with
  | some (.ptr k n)=>some (.ptr k n,opS x (.ptr k n),[])
  | _=>none
 | _=>none
section
variable {P:Program} {te:TE} {s:AS} {o:Oper}
theorem zY3 {α:Type} {c:Bool} {x:Option α} {y:α} (h:(bif c then x else none)=some y):c=true/\x=some y:=by cases c<;>simp_all
theorem yDm (hok:yN P te) {f:BinOp} {tx ty:TypeId} {x y:Operand} {k:IntKind} {a b:Int} {p:PV} (ho:o.op=.binOp f tx x y ty) (hx:s.get te tx x=some (.p (.int k a))) (hy:s.get te ty y=some (.p (.int k b))) (h:evI k a b f=some p):VA P o s (opS x (.p (.int k a))++opS y (.p (.int k b))) [] (.p p):=by
 cases f<;>simp only [evI,Option.some.injEq,reduceCtorEq] at h<;>subst h
 ·exact iop hok .add ho hx hy
 ·exact iop hok .sub ho hx hy
 ·exact iop hok .mul ho hx hy
 ·exact iop hok .and ho hx hy
 ·exact iop hok .or ho hx hy
 ·exact iop hok .xor ho hx hy
 ·exact iop hok .andNot ho hx hy
 ·exact cmp hok .eql ho hx hy
 ·exact cmp hok .neq ho hx hy
 ·exact cmp hok .lss ho hx hy
 ·exact cmp hok .leq ho hx hy
 ·exact cmp hok .gtr ho hx hy
 ·exact cmp hok .geq ho hx hy
theorem yMw (hok:yN P te) {f:BinOp} {tx ty:TypeId} {x y:Operand} {a b:Int} {p:PV} (ho:o.op=.binOp f tx x y ty) (hx:s.get te tx x=some (.p (.int .u8 a))) (hy:s.get te ty y=some (.p (.int .u8 b))) (h:evJ a b f=some p):VA P o s (opS x (.p (.int .u8 a))++opS y (.p (.int .u8 b))) [] (.p p):=by
 cases f<;>simp only [evJ] at h<;>first | exact yDm hok ho hx hy h | (simp only [Option.some.injEq] at h;subst h)
 ·exact iop8 hok .add ho hx hy
 ·exact iop8 hok .sub ho hx hy
 ·exact iop8 hok .mul ho hx hy
 ·exact iop8 hok .and ho hx hy
 ·exact iop8 hok .or ho hx hy
 ·exact iop8 hok .xor ho hx hy
 ·exact iop8 hok .andNot ho hx hy
theorem yNn (hok:yN P te) {f:BinOp} {tx ty:TypeId} {x y:Operand} {a b:List UInt8} {p:PV} (ho:o.op=.binOp f tx x y ty) (hx:s.get te tx x=some (.p (.str a))) (hy:s.get te ty y=some (.p (.str b))) (h:evT a b f=some p):VA P o s (opS x (.p (.str a))++opS y (.p (.str b))) [] (.p p):=by
 cases f<;>simp only [evT,Option.some.injEq,reduceCtorEq] at h<;>subst h
 ·exact scm hok .eql ho hx hy
 ·exact scm hok .neq ho hx hy
 ·exact scm hok .lss ho hx hy
 ·exact scm hok .leq ho hx hy
 ·exact scm hok .gtr ho hx hy
 ·exact scm hok .geq ho hx hy
theorem yLu (hok:yN P te) {f:BinOp} {tx ty:TypeId} {x y:Operand} {v w:AV} {p:PV} (ho:o.op=.binOp f tx x y ty) (hx:s.get te tx x=some v) (hy:s.get te ty y=some w) (h:evP f v w=some p):VA P o s (opS x v++opS y w) [] (.p p):=by
 unfold evP at h
 split at h
 ·rename_i k a k' b
  by_cases e:k=k'
  ·subst e
   simp only [decide_true,cond_true] at h
   cases k<;>simp only [is8,cond_true,cond_false] at h<;>first | exact yMw hok ho hx hy h | exact yDm hok ho hx hy h
  ·simp [e] at h
 ·exact yNn hok ho hx hy h
 ·cases h
theorem yNe (hok:yN P te) {t:TypeId} {f:Nat} {x:Operand} {v w:AV} (ho:o.op=.fieldAddr t x f) (hx:s.get te 0 x=some v) (h:evA te t f v=some w):VA P o s (opS x v) [] w:=by
 unfold evA at h
 split at h
 ·split at h<;>try cases h
  split at h<;>try cases h
  split at h<;>try cases h
  rename_i h1 _ _ _ h2 _ _ h3
  obtain ⟨hz,h⟩:=zY3 h
  cases h
  exact fa hok ho h1 h2 h3 hz hx
 ·split at h<;>try cases h
  split at h<;>try cases h
  split at h<;>try cases h
  rename_i h1 _ _ _ h2 _ _ h3
  obtain ⟨hz,h⟩:=zY3 h
  split at h<;>try cases h
  rename_i h4
  exact fc hok ho h1 h2 h3 hz hx h4
 ·cases h
theorem yKt (hok:yN P te) {t:TypeId} {x:Operand} {v w:AV} {i:TI} {bs:List (Nat×ABlk)} (ho:o.op=.load t x) (hx:s.get te 0 x=some v) (ht:te t=some i) (h:evL s i v=some (w,bs)):VA P o s (opS x v) bs w:=by
 unfold evL at h
 split at h
 ·split at h<;>try cases h
  rename_i h1
  cases hp:i.plain<;>simp only [hp,cond_true,cond_false] at h
  ·obtain ⟨hz,h⟩:=zY3 h
   simp only [Bool.and_eq_true] at hz
   cases h
   have:=Nat.eq_of_beq_eq_true hz.2.1
   subst this
   exact ldW hok ho ht hz.1 hx h1 hz.2.2
  ·split at h<;>try cases h
   exact ld hok ho ht hp hx h1 ‹_›
 ·obtain ⟨hz,h⟩:=zY3 h
  simp only [Bool.and_eq_true] at hz
  cases h
  exact ldCN hok ho ht hz.1 hx hz.2
 ·rename_i q hq
  obtain ⟨hp,h⟩:=zY3 h
  cases h
  exact ldC hok ho ht hp hx (by cases q<;>first | rfl | exact absurd rfl (hq _))
 ·cases h
theorem yK7 (hok:yN P te) {a b:TypeId} {x:Operand} {v w:AV} (ho:o.op=.convert a b x) (hx:s.get te a x=some v) (h:evC te a b v=some w):VA P o s (opS x v) [] w:=by
 unfold evC at h
 split at h
 ·split at h<;>try cases h
  rename_i k c _ _ k' k2 h1 h2
  by_cases e:k'=k
  ·subst e
   simp only [decide_true,cond_true] at h
   cases k2<;>simp only [is8,cond_true,cond_false,Option.some.injEq] at h<;>subst h<;>first | exact va_conv8 hok ho h1 h2 hx | exact va_conv hok ho h1 h2 hx
  ·simp [e] at h
 ·cases h
theorem yNk (hok:yN P te) {v:AV} {rs:List (Nat×AV)} {bs:List (Nat×ABlk)} (h:ev1 te s o.type o.op=some (v,rs,bs)):VA P o s rs bs v:=by
 unfold ev1 at h
 split at h
 ·rename_i ho
  split at h<;>cases h
  exact mv hok ho ‹_›
 ·rename_i ho
  split at h<;>cases h
  exact asg hok ho ‹_›
 ·rename_i ho
  split at h<;>try cases h
  split at h<;>cases h
  exact yLu hok ho ‹_› ‹_› ‹_›
 ·rename_i ho
  split at h<;>cases h
  exact not' hok ho ‹_›
 ·rename_i ho
  split at h<;>try cases h
  split at h<;>cases h
  exact yNe hok ho ‹_› ‹_›
 ·rename_i ho
  split at h<;>try cases h
  split at h<;>cases h
  exact yKt hok ho ‹_› ‹_› ‹_›
 ·rename_i ho
  split at h<;>try cases h
  split at h<;>cases h
  exact yK7 hok ho ‹_› ‹_›
 ·rename_i ho
  split at h<;>try cases h
  split at h<;>cases h
  exact va_extractA ho ‹_› ‹_›
 ·rename_i ho
  split at h<;>cases h
  exact ncp hok ho ‹_›
 ·cases h
end
section
variable {P:Program} {ops:Array Oper} {s:AS} {r:List Oper} {K:AS->List Mic->Prop} {d:Nat} {ty:TypeId} {pos:String} {af:Array Edge} {v:AV} {op:Op} {rs:List (Nat×AV)} {bs:List (Nat×ABlk)}
theorem RK.ev [T:pK P] (h:ev1 T.te s ty op=some (v,rs,bs)) (k:VK P ops r s K d rs bs v):RK P ops (⟨some d,op,ty,pos,af,none⟩:: r) s K:=RK.va rfl rfl (yNk T.ok h) k
class Lit (b:Bool):Prop where
 x:True
instance:Lit true:=⟨trivial⟩
instance:Lit false:=⟨trivial⟩
theorem RK.gl {j dj:Nat} {b b2:Bool} [Lit b2] (H:((ops[j]?).bind (·.dst),s.env dj)=(some dj,some (.p (.bool b2)))) (k:bif b.xor b2 then RK P ops r (s.put d (.p (.tup []))) λs' ms=>K s' (⟨[(dj,.p (.bool b2))],[],[],some (d,some (.p (.tup []))),[]⟩:: ms) else RK P ops (⟨some d,op,ty,pos,af,none⟩:: r) s (GK K dj b)):RK P ops (⟨some d,op,ty,pos,af,some (j,b)⟩:: r) s K:=by
 cases b<;>cases b2
 ·exact RK.g rfl H k
 ·have ⟨a,c⟩:=pq H;exact RK.sk (j:=j) (b:=true) (b':=false) rfl (by rw [a,c];rfl) k
 ·have ⟨a,c⟩:=pq H;exact RK.sk (j:=j) (b:=false) (b':=true) rfl (by rw [a,c];rfl) k
 ·exact RK.g rfl H k
theorem zH2 {dj:Nat} (H:s.env dj=some v):s.put dj v=s:=by
 unfold AS.put
 cases s with
 | mk e b=>
  simp only [AS.mk.injEq,and_true]
  funext t
  cases hb:Nat.beq t dj with
  | true=>have:=Nat.eq_of_beq_eq_true hb;subst this;simp only [cond_true];exact H.symm
  | false=>rfl
variable {β:Type} {c:Bool} {x y:Option β} {z:β}
theorem RK.gp {dst:Option Nat} {j dj:Nat} {b:Bool} (h:(bif c then x else y)=some z) (H:((ops[j]?).bind (·.dst),s.env dj)=(some dj,some (.p (.bool c)))) (k:x=some z->RK P ops (⟨dst,op,ty,pos,af,some (j,b)⟩:: r) (s.put dj (.p (.bool true))) K) (l:y=some z->RK P ops (⟨dst,op,ty,pos,af,some (j,b)⟩:: r) (s.put dj (.p (.bool false))) K):RK P ops (⟨dst,op,ty,pos,af,some (j,b)⟩:: r) s K:=by
 have ⟨_,g⟩:=pq H
 cases c
 ·rw [<- zH2 g];exact l h
 ·rw [<- zH2 g];exact k h
theorem RK.pk [T:pK P] {t:Nat} {a b:Operand} {b2:Bool} [Lit b2] (H:(s.env t,s.get T.te ty (bif b2 then a else b))=(some (.p (.bool b2)),some v)) (k:VK P ops r s K d ([(t,.p (.bool b2))]++opS (bif b2 then a else b) v) [] v):RK P ops (⟨some d,.pick (.tmp t) a b,ty,pos,af,none⟩:: r) s K:=by
 cases b2
 ·exact RK.pF rfl H k
 ·exact RK.pT rfl H k
end
class zIn (s:AS):Prop where
 x:True
instance {s:AS} {d:Nat} {v:AV}:zIn (s.put d v):=⟨trivial⟩
instance {s:AS} {d:Nat} {v:ABlk}:zIn (s.setb d v):=⟨trivial⟩
instance {s:AS} {m:Mic}:zIn (m.upd s):=⟨trivial⟩
def cid:Code->Nat
 | .region i _ _=>i
 | .cond (.tmp t) _ _=>t
 | .block i _=>i+500000
 | .loop c=>cid c
 | .seq a _=>cid a+1000
 | .ret=>999999
 | _=>888888
abbrev EB:=List (Nat×AV)×List (Nat×ABlk)
def mkE (e:EB) (k:EB):AS:=mkS (e.1++k.1) (e.2++k.2)
def Has (s:AS) (k:EB):Prop:=(gE s k.1,gB s id k.2)=(vE id k.1,vB id k.2)
inductive Wp (P:Program) (cx:Ctx) (c:Code) (Q:Exit->AS->Prop) (s:AS):Prop where
 | mk (a:awp P cx c Q s)
section
variable {P:Program} {cx:Ctx} {q:Exit->AS->Prop} {s:AS} {α β I:Type} {r:β} {ks:List Nat}
def isS:Code->Bool
 | .seq _ _ | .block _ _ | .skip | .exit _ | .ret=>true
 | _=>false
def zYc (k:AS->Prop) (Q:Exit->AS->Prop):Exit->AS->Prop
 | .normal,s=>k s
 | e,s=>Q e s
def nxt (P:Program) (cx:Ctx) (q:Exit->AS->Prop) (s:AS):Code->Prop
 | .seq x y=>Wp P cx x (zYc (Wp P cx y q) q) s
 | .block i c=>Wp P cx c (zIf i q) s
 | .skip=>q .normal s
 | .exit i=>q (.exit i) s
 | .ret=>q .ret s
 | _=>False
theorem Z1 {c:Code} (h:isS c=true) (k:nxt P cx q s c):Wp P cx c q s:=by
 cases c<;>first | cases h | skip
 ·exact ⟨K k⟩
 ·refine ⟨S (zJb k.1 λe s h=>?_)⟩
  cases e<;>first | exact h.1 | exact h
 ·exact ⟨B k.1⟩
 ·exact ⟨X k⟩
 ·exact ⟨T k⟩
theorem G1 {ops:Array Oper} {id n:Nat} (hnt:cx.nt=n) (h:RK P ops ops.toList s λs' ms=>bC n ms=true/\q .normal s'):Wp P cx (.region id ops false) q s:=⟨rgn hnt h⟩
theorem Y1 {ops:Array Oper} {id n:Nat} (hnt:cx.nt=n) (hm:P.follows .mixedOrders=true) (h:RK P ops ops.toList s λs' ms=>bC n ms=true/\(qH ops ms&&zLp ops)=true/\q .normal s'):Wp P cx (.region id ops true) q s:=⟨rgd hnt hm h⟩
theorem A1 {t:Nat} {x y:Code} {b:Bool} (he:b=true) (hc:s.env t=some (.p (.bool b))) (h:Wp P cx x q s):Wp P cx (.cond (.tmp t) x y) q s:=⟨cT he hc h.1⟩
theorem F1 {t:Nat} {x y:Code} {b:Bool} (he:b=false) (hc:s.env t=some (.p (.bool b))) (h:Wp P cx y q s):Wp P cx (.cond (.tmp t) x y) q s:=⟨cF he hc h.1⟩
variable {m:Option α} {k:α->Option β}
theorem Jg {c:Code} (h:m.bind k=some r) (f:α->AS) (x:∀ j,m=some j->Wp P cx c (OQ cx (λj=>(.normal,f j)) j) s) (y:∀ j,k j=some r->q .normal (f j)):Wp P cx c q s:=⟨J h f (λj h=>(x j h).1) y⟩
theorem Jn {c:Code} (z:isS c=true) (h:m.bind k=some r) (f:α->AS) (x:∀ j,m=some j->nxt P cx (OQ cx (λj=>(.normal,f j)) j) s c) (y:∀ j,k j=some r->q .normal (f j)):Wp P cx c q s:=Jg h f (λj h=>Z1 z (x j h)) y
theorem Jr (i:Nat) {o:Array Oper} {n:Nat} (hnt:cx.nt=n) (h:m.bind k=some r) (e:EB) (_:Has s e) (F:α->EB) (x:∀ j,m=some j->RK P o o.toList s λs' ms=>bC n ms=true/\OQ cx (λj=>(.normal,mkE (F j) e)) j .normal s') (y:∀ j,k j=some r->q .normal (mkE (F j) e)):Wp P cx (.region i o false) q s:=Jg h _ (λj h=>G1 hnt (x j h)) y
theorem Jy (i:Nat) {o:Array Oper} {n:Nat} (hnt:cx.nt=n) (hm:P.follows .mixedOrders=true) (h:m.bind k=some r) (e:EB) (_:Has s e) (F:α->EB) (x:∀ j,m=some j->RK P o o.toList s λs' ms=>bC n ms=true/\(qH o ms&&zLp o)=true/\OQ cx (λj=>(.normal,mkE (F j) e)) j .normal s') (y:∀ j,k j=some r->q .normal (mkE (F j) e)):Wp P cx (.region i o true) q s:=Jg h _ (λj h=>Y1 hnt hm (x j h)) y
theorem Js (i:Nat) {c:Code} (_:cid c=i) (z:isS c=true) (h:m.bind k=some r) (e:EB) (_:Has s e) (F:α->EB) (x:∀ j,m=some j->nxt P cx (OQ cx (λj=>(.normal,mkE (F j) e)) j) s c) (y:∀ j,k j=some r->q .normal (mkE (F j) e)):Wp P cx c q s:=Jn z h _ x y
theorem Di (i:Nat) {c:Code} (_:cid c=i) (z:isS c=true) (h:m.bind k=some r) (e:EB) (_:Has s e) (f:EB->α->Exit×AS) (x:∀ j,m=some j->nxt P cx (OQ cx (f e) j) s c) (y:∀ j,k j=some r->q (f e j).1 (f e j).2):Wp P cx c q s:=⟨D h _ (λj h=>(Z1 z (x j h)).1) y⟩
theorem Qi (i:Nat) {X:Type} {body:Code} {step:X->Option (X ⊕ α)} {n:Nat} {x0:X} (_:cid body=i) (h:(zP step n x0).bind k=some r) (e:EB) (_:Has s e) (l:Nat) (E:X->EB) (F:α->EB) (hi:Imp cx.pk s (mkE (E x0) e))
  (hb:∀ x r,step x=some r->Wp P cx body (OQ cx (LF (λx=>mkE (E x) e) λy=>(.exit l,mkE (F y) e)) r) (mkE (E x) e)) (y:∀ j,k j=some r->q (.exit l) (mkE (F j) e)):Wp P cx (.loop body) q s:=⟨Q h l _ _ hi (λx r h=>(hb x r h).1) y⟩
theorem Ui (i:Nat) {X:Type} {body:Code} {step:X->Option (X ⊕ α)} {n:Nat} {x0:X} (_:cid body=i) (h:(zP step n x0).bind k=some r) (e:EB) (_:Has s e) (E:X->EB) (f:EB->α->Exit×AS) (hi:Imp cx.pk s (mkE (E x0) e)) (hne:∀ y,(f e y).1≠.normal)
  (hb:∀ x r,step x=some r->Wp P cx body (OQ cx (LF (λx=>mkE (E x) e) (f e)) r) (mkE (E x) e)) (y:∀ j,k j=some r->q (f e j).1 (f e j).2):Wp P cx (.loop body) q s:=⟨U h _ _ hi hne (λx r h=>(hb x r h).1) y⟩
theorem Qj (i:Nat) {X:Type} {body:Code} {step:X->Option (X ⊕ α)} {n:Nat} {x0:X} (_:cid body=i) (h:(zP step n x0).bind k=some r) (e:EB) (_:Has s e) (d:EB) (_:Has s d) (l:Nat) (E:X->EB) (F:α->EB) (hi:Imp cx.pk s (mkE (E x0) e))
  (hb:∀ x r,step x=some r->Wp P cx body (OQ cx (LF (λx=>mkE (E x) e) λy=>(.exit l,mkE (F y) d)) r) (mkE (E x) e)) (y:∀ j,k j=some r->q (.exit l) (mkE (F j) d)):Wp P cx (.loop body) q s:=⟨Q h l _ _ hi (λx r h=>(hb x r h).1) y⟩
theorem Uj (i:Nat) {X:Type} {body:Code} {step:X->Option (X ⊕ α)} {n:Nat} {x0:X} (_:cid body=i) (h:(zP step n x0).bind k=some r) (e:EB) (_:Has s e) (d:EB) (_:Has s d) (E:X->EB) (f:EB->α->Exit×AS) (hi:Imp cx.pk s (mkE (E x0) e)) (hne:∀ y,(f d y).1≠.normal)
  (hb:∀ x r,step x=some r->Wp P cx body (OQ cx (LF (λx=>mkE (E x) e) (f d)) r) (mkE (E x) e)) (y:∀ j,k j=some r->q (f d j).1 (f d j).2):Wp P cx (.loop body) q s:=⟨U h _ _ hi hne (λx r h=>(hb x r h).1) y⟩
theorem iZ (i:Nat) {c:Code} [zIn s] (_:cid c=i) (env:List (Nat×AV)) (blk:List (Nat×ABlk)) (hpk:PK cx ks) (H:(gE s env,gB s id blk,(lL (lk blk) env&&ks.all (λk=>(lk blk k).isSome)),tA (lk blk) blk)=(vE id env,vB id blk,true,true)) (k:Wp P cx c q (mkS env blk)):Wp P cx c q s:=⟨iX env blk hpk H k.1⟩
theorem hW {f:FuncId} {fn:Func} {body:Code} {na:Nat} {en:List (Nat×AV)} {rs:AS} (E:I->AS) (j:I) (hf:P.funcs[f]? = some fn) (H:(fn.body,(fn.name == "runtime.NumGoroutine"),Nat.ble na fn.ntmps)=(some body,false,true))
  (hr:∀ cx:Ctx,PK cx []->kL P fn cx (E j) rs) (h:∀ cx:Ctx,cx.nt=fn.ntmps->PK cx []->Wp P cx body (OQ cx (λj=>(.ret,E j)) j) (mkS en [])):Ok P f na (mkS en []) rs:=hA E j hf H hr λcx n p=>(h cx n p).1
theorem hX {f:FuncId} {fn:Func} {body:Code} {na:Nat} {en:List (Nat×AV)} {bl:ABlk} {rs:AS} (E:I->AS) (j:I) (hf:P.funcs[f]? = some fn) (H:(fn.body,(fn.name == "runtime.NumGoroutine"),Nat.ble na fn.ntmps)=(some body,false,true))
  (hr:∀ cx:Ctx,PK cx [0]->kL P fn cx (E j) rs) (h:∀ cx:Ctx,cx.nt=fn.ntmps->PK cx [0]->Wp P cx body (OQ cx (λj=>(.ret,E j)) j) (mkS en [(0,bl)])):Ok P f na (mkS en [(0,bl)]) rs:=hB E j hf H hr λcx n p=>(h cx n p).1
theorem iM (i:Nat) {c:Code} {s':AS} (_:cid c=i) (h:Imp cx.pk s s') (k:Wp P cx c q s'):Wp P cx c q s:=⟨im h k.1⟩
theorem iY (i:Nat) {c:Code} [zIn s] (_:cid c=i) (env:List (Nat×AV)) (blk:List (Nat×ABlk)) (hpk:PK cx ks) (H:(gE s env,gB s id blk,(lL (lk blk) env&&ks.all (λk=>(lk blk k).isSome)))=(vE id env,vB id blk,true)) (h:tA (lk blk) blk=true) (k:Wp P cx c q (mkS env blk)):Wp P cx c q s:=⟨im (lpX hpk H h) k.1⟩
def fQ (P:Program) (cx:Ctx) (c:Code) (q:Exit->AS->Prop):Nat->AS->Prop
 | 0,_=>False
 | n+1,s=>Wp P cx c (zYc (fQ P cx c q n) q) s
theorem lV {env:List (Nat×AV)} {blk:List (Nat×ABlk)} (hpk:PK cx ks) (m:List (Nat×Nat))
  (H:(gE s env,(lL (lk (bR (rho m) blk)) (rE (rho m) env)&&(ks.all (λk=>(lk (bR (rho m) blk) k).isSome) &&
   (((kR (rho m) blk).all λj=>(Nat.blt j BIG||Nat.ble BIG (rho (swp m) j))&&(kR (rho m) blk).all λj'=>!Nat.beq (rho (swp m) j) (rho (swp m) j')||Nat.beq j j')&&ks.all λk=>Nat.beq (rho (swp m) k) k))),
   rE (rho (swp m)) (rE (rho m) env))=(vE (AV.ren (rho m)) env,true,env))
  (h:gB s (rho m) blk=vB (ABlk.ren (rho m)) blk/\tA (lk (bR (rho m) blk)) (bR (rho m) blk)=true/\bR (rho (swp m)) (bR (rho m) blk)=blk):Imp cx.pk s (mkS env blk):=
 have ⟨a,H⟩:=pq H;have ⟨b,c⟩:=pq H;lr hpk m a h.1 b h.2.1 c h.2.2
theorem oL {pk:PKs} (t:Nat) {k n n':Nat} (H:s.env t=some (.own k n)) (h:n'=n):Imp pk s (s.put t (.own k n')):=by subst h;rw [zH2 H];exact Imp.refl
structure OF (cx:Ctx) (E:I->AS) (j:I) (e:Exit) (s:AS):Prop where
 a:e=.ret∨e=.normal
 b:Imp cx.pk s (E j)
theorem hR {f:FuncId} {fn:Func} {body:Code} {na:Nat} {en:List (Nat×AV)} {bl:ABlk} {rs:AS} (E:I->AS) (j:I) (hf:P.funcs[f]? = some fn) (H:(fn.body,(fn.name == "runtime.NumGoroutine"),Nat.ble na fn.ntmps)=(some body,false,true))
  (hr:∀ cx:Ctx,PK cx [0]->kL P fn cx (E j) rs) (h:∀ cx:Ctx,cx.nt=fn.ntmps->PK cx [0]->Wp P cx body (OF cx E j) (mkS en [(0,bl)])):Ok P f na (mkS en [(0,bl)]) rs:=
 have ⟨a,H⟩:=pq H;have ⟨b,c⟩:=pq H;yIz (E j) hf a b (Nat.le_of_ble_eq_true c) (zLz rfl) hr λcx n p=>zJb (h cx n p).1 λ_ _ h=>⟨h.1,h.2⟩
theorem Wr {E:I->AS} {j i:I} {e:Exit} (h:some j=some i) (a:e=.ret∨e=.normal) (b:Imp cx.pk s (E j)):OF cx E i e s:=by cases h;exact ⟨a,b⟩
theorem Lv {E:I->AS} {i:I} {e:Exit} (h:OF cx E i e s):OF cx E i e s:=h
theorem Cs {t:Nat} {X Y:Code} {c:Bool} {x y:Option β} (h:(bif c then x else y)=some r) (H:s.env t=some (.p (.bool c))) (k:x=some r->Wp P cx X q s) (l:y=some r->Wp P cx Y q s):Wp P cx (.cond (.tmp t) X Y) q s:=by
 cases c
 ·exact F1 rfl H (l h)
 ·exact A1 rfl H (k h)
theorem Lo {c:Code} (h:Wp P cx (.loop c) q s):Wp P cx (.loop c) q s:=h
theorem Lu {f:I->Exit×AS} {i:I} {e:Exit} (h:OQ cx f i e s):OQ cx f i e s:=h
end
theorem Ru {P:Program} {ops:Array Oper} {l:List Oper} {s:AS} {K:AS->List Mic->Prop} (h:RK P ops l s K):RK P ops l s K:=h
section
variable {P:Program} {te:TE} {s:AS} {o:Oper} {x y:Operand} {M:Mem}
end
section
variable {P:Program} [T:pK P] {ops:Array Oper} {s:AS} {r:List Oper} {K:AS->List Mic->Prop} {d:Nat} {ty:TypeId} {pos:String} {af:Array Edge} {x y:Operand}
end
section
variable {P:Program} {te:TE} {s:AS} {o:Oper} {v:AV} {x y:Operand} {d:Nat} {ty:TypeId}
theorem zRk {lo:Operand} {a:Nat} {kl:IntKind} {t e:TypeId} {k n wd:Nat} {l:List AV} {ei:TI} (hok:yN P te) (ho:o.op=.slice t x (some lo) none none)
  (ht:(te t).map (·.ty)=some (.slice e)) (he:te e=some ei) (hw:ei.w=wd) (hx:s.get te t x=some (.own k n)) (hb:s.blk k=some (.own wd l)) (hn:n*wd=l.length)
  (hlo:s.get te 0 lo=some (.p (.int kl (a:Nat)))) (h1:a<n) :
  VA P o s (opS x (.own k n)++opS lo (.p (.int kl (a:Nat)))) [(k,.own wd l)] (.osl k n (a*wd) (n - a)):=by
 have bl:Bd s te (some lo) (some (a:Int)) _:=.some _ _ _ hlo
 refine ⟨?_,yK (zO hx) bl.reads,by simpa using hb⟩
 intro cx M κ tip s' ac w hin hr hb'
 have hbk:=hb' (k,.own wd l) (by simp)
 simp only at hbk
 obtain ⟨fl,hfl⟩:=bl.eval hin (zY hr)
 have hu:=yV hok ht
 have hsz:=vV hok he w
 have hev:=zEs (cx:=cx) hbk hn (yB hin (yJ hx s' (yE hr)))
 obtain ⟨g1,g2⟩:=hin.owns.live hbk hn
 rcases g2 with ⟨_,_,rfl⟩ | ⟨b0,n1,cap,arr,e1,fz,q1,q2,q3,q4,q5,q6,q7,q8,q9,q10,q11⟩
 ·have hp:=Nat.mul_pos (show 0<n by omega) g1
  simp only [List.length_nil] at hn
  omega
 ·have hnn:n1=n:=Nat.eq_of_mul_eq_mul_right g1 (by omega)
  subst hnn
  rw [q1] at hev
  have hb0:=kM P w true n1 cap (some (a:Int)) none none fl fl fl (by simp) (by simp) (by simp;omega) (by simp;omega) (by simp)
  have hml:¬ cap=a:=by omega
  refine ⟨.slice (some ⟨b0,0+a*wd,none⟩) (n1 - a) (cap - a),?_,.osl k n1 (a*wd) (n1 - a) wd l _ hbk (by omega) (λ_=>⟨b0,cap - a,q2,by simp,by omega⟩) ⟨_,_,_,rfl⟩⟩
  simp only [Option.map_some,Option.map_none,Option.getD_some,Int.toNat_natCast,Option.getD_none] at hb0 hfl
  simp [execOp,ho,hev,Instr.sliceAt,Instr.slice,run_underlying hu,hfl,hb0,hsz,hw,hml,vL]
theorem Inv.ownAdd {cx:Ctx} {M:Mem} {κ:Nat->Option Nat} {tip:Nat->Value} {a:Act} {w:World} (hi:Inv cx M κ tip s a w) {k wd n cap b:Nat} {l:List AV} {arr:Array Value} {e:TypeId} {fz:Nat×Nat} (hb:w.heap[b]? = some (.cells arr e fz)) (hfr:zDu fz arr.size)
  (hk:s.blk k=none) (hnew:∀ i,κ i≠some b) (hbase:cx.w0.heap.size<=b∨b∈cx.ob/\BIG<=k) (hM:∀ o,M b o=none) (hwd:0<wd) (hn:n*wd=l.length) (hcap:cap*wd<=arr.size) (hnc:n<=cap) (hml:cap<=maxLen)
  (hcs:∀ (j:Nat) (q:AV),l[j]? = some q->yT M κ tip s.blk q (arr.getD j undef)) :
  Inv cx M (kF κ k (some b)) (nC tip k (.slice (some ⟨b,0,none⟩) n cap)) (s.setb k (.own wd l)) a w:=by
 have gle:GLe κ (kF κ k (some b)) tip (nC tip k (.slice (some ⟨b,0,none⟩) n cap)) s.blk (s.setb k (.own wd l)).blk:={
  var:=λi b l h h'=>by
   have e:i≠k:=by rintro rfl;rw [hk] at h';cases h'
   rw [zW e,zN e]
   exact ⟨h,l,h'⟩
  buf:=λi c1 h=>by
   have e:i≠k:=by rintro rfl;rw [hk] at h;cases h
   exact GLe.same (by rw [zN e];exact h) (yQ e)
  own:=λi w1 l1 h=>by
   have e:i≠k:=by rintro rfl;rw [hk] at h;cases h
   exact GLe.sameO (by rw [zN e];exact h) (zW e) (yQ e) }
 have hmap:∀ {v:AV} {x:Value},yT M κ tip s.blk v x->yT M (kF κ k (some b)) (nC tip k (.slice (some ⟨b,0,none⟩) n cap)) (s.setb k (.own wd l)).blk v x:=λh=>h.ghost gle
 exact {
  defers:=hi.defers
  size:=hi.size
  fr:=hi.fr
  mem:=hi.mem
  env:=λt v h=>let ⟨x,h1,h2⟩:=hi.env t v h;⟨x,h1,hmap h2⟩
  vars:=λi l h=>by
   have e':i≠k:=by rintro rfl;rw [zU] at h;cases h
   rw [zN e'] at h
   obtain ⟨b,arr',e1,fz',h1,h2,h3,h4,h5,h6,h7⟩:=hi.vars i l h
   exact ⟨b,arr',e1,fz',by rw [zW e'];exact h1,h2,h3,h4,λj q hq=>hmap (h5 j q hq),h6,h7⟩
  bufs:=λi c1 h=>by
   have e':i≠k:=by rintro rfl;rw [zU] at h;cases h
   rw [zN e'] at h
   rw [yQ e',zW e']
   exact hi.bufs i c1 h
  inj:=λi j b' h1 h2=>by
   by_cases e1:i=k
   ·subst e1
    rw [xO] at h1
    cases h1
    by_cases e2:j=i
    ·exact e2.symm
    ·rw [zW e2] at h2;exact (hnew j h2).elim
   ·rw [zW e1] at h1
    by_cases e2:j=k
    ·subst e2;rw [xO] at h2;cases h2;exact (hnew i h1).elim
    ·rw [zW e2] at h2;exact hi.inj i j b' h1 h2
  dom:=λi h=>by
   by_cases e':i=k
   ·subst e';rw [zU] at h;cases h
   ·rw [zN e'] at h;rw [zW e'];exact hi.dom i h
  glob:=hi.glob
  old:=hi.old
  owns:=λi w1 l1 h=>by
   by_cases e':i=k
   ·subst e'
    rw [zU] at h
    cases h
    rw [yR,xO]
    exact .inr ⟨hwd,.inr ⟨b,n,cap,arr,e,fz,rfl,rfl,hbase,hb,hfr,hn,hcap,hnc,hml,λj q hq=>hmap (hcs j q hq),hM⟩⟩
   ·rw [zN e'] at h
    rw [yQ e',zW e']
    rcases hi.owns i w1 l1 h with g0 | ⟨g1,g2⟩
    ·exact .inl g0
    refine .inr ⟨g1,?_⟩
    rcases g2 with g2 | ⟨b,n1,cap1,arr1,e1,fz1,q1,q2,q3,q4,q5,q6,q7,q8,q9,q10,q11⟩
    ·exact .inl g2
    ·exact .inr ⟨b,n1,cap1,arr1,e1,fz1,q1,q2,q3,q4,q5,q6,q7,q8,q9,λj q hq=>hmap (q10 j q hq),q11⟩}
theorem yHa {rs:List (Nat×AV)} {bs:List (Nat×ABlk)} {fr:List Nat} {k k':Nat} {bl bl':ABlk}:Mic.upd ⟨rs,bs,fr,some (d,some v),[(k',bl'),(k,bl)]⟩ s=((s.setb k bl).setb k' bl').put d v:=by
 unfold Mic.upd AS.setb AS.put
 congr 1
 funext i
 simp only [lk]
 cases Nat.beq i k'<;>cases Nat.beq i k<;>rfl
theorem yMg {hi:Operand} {i:Nat} {kh:IntKind} {t e:TypeId} {k k' n wd:Nat} {l:List AV} {ei:TI} (hok:yN P te) (hd:o.dst=some d) (ho:o.op=.slice t x none (some hi) none)
  (ht:(te t).map (·.ty)=some (.slice e)) (he:te e=some ei) (hw:ei.w=wd) (hx:s.get te t x=some (.own k n)) (hb:s.blk k=some (.own wd l)) (hn:n*wd=l.length)
  (hhi:s.get te 0 hi=some (.p (.int kh (i:Nat)))) (h1:i<n) (hk':s.blk k'=none) (hbig:BIG<=k'):SA P o s ⟨opS x (.own k n)++opS hi (.p (.int kh (i:Nat))),[(k,.own wd l)],[k'],some (d,some (.own k' i)),[(k',.own wd (l.take (i*wd))),(k,zIr)]⟩:=by
 have bh:Bd s te (some hi) (some (i:Int)) _:=.some _ _ _ hhi
 refine ⟨?_,yK (zO hx) bh.reads,by simpa using hb,by intro j hj;simp at hj;subst hj;exact hk'⟩
 intro cx s' a w K Q hm hs hws hK
 obtain ⟨M,κ,tip,h0,hp,hin⟩:=hs
 have hbk:=hm.2.1 (k,.own wd l) (by simp)
 have hbn:=hm.2.2 k' (by simp)
 simp only at hbk
 obtain ⟨fh,hfh⟩:=bh.eval hin (zY hm.1)
 have hu:=yV hok ht
 have hsz:=vV hok he w
 have hev:=zEs (cx:=cx) hbk hn (yB hin (yJ hx s' (yE hm.1)))
 obtain ⟨g1,g2⟩:=hin.owns.live hbk hn
 rcases g2 with ⟨_,_,rfl⟩ | ⟨b0,n1,cap,arr,e1,fz,q1,q2,q3,q4,q5,q6,q7,q8,q9,q10,q11⟩
 ·have hp:=Nat.mul_pos (show 0<n by omega) g1
  simp only [List.length_nil] at hn
  omega
 have hnn:n1=n:=Nat.eq_of_mul_eq_mul_right g1 (by omega)
 subst hnn
 rw [q1] at hev
 have hb0:=kM P w true n1 cap none (some (i:Int)) none fh fh fh (by simp) (by simp) (by simp) (by simp;omega) (by simp)
 simp only [Option.map_some,Option.map_none,Option.getD_some,Int.toNat_natCast,Option.getD_none] at hb0 hfh
 have hfh':a.eval hi=.int (fh i) i:=by simpa using hfh
 have hle:i*wd<=n1*wd:=Nat.mul_le_mul_right _ (by omega)
 have hc0:¬ cap=0:=by omega
 have hrun:(execOp a.eval o).run P w=.ok (.value (.slice (some ⟨b0,0,none⟩) i cap)) w:=by
  simp [execOp,ho,hev,Instr.sliceAt,Instr.slice,run_underlying hu,hfh',hb0,hsz,hw,hc0,vL]
 unfold Oper.wp
 rw [hrun]
 show K (a.put o.dst _) _
 rw [hd]
 refine hK _ _ ?_
 rw [yHa]
 have hi1:=hin.kill hbk
 have hne:k'≠k:=by rintro rfl;rw [hbk] at hbn;cases hbn
 have hi2:=hi1.ownAdd (k:=k') (wd:=wd) (n:=i) (cap:=cap) (l:=l.take (i*wd)) q4 q5 (by rw [zN hne];exact hbn) (λj hj=>by
   by_cases e':j=k
   ·subst e';rw [xO] at hj;cases hj
   ·rw [zW e'] at hj;exact e' (hin.inj j k b0 hj q2)) (q3.imp id λh=>⟨h.1,hbig⟩) q11 g1 (by rw [List.length_take];omega) q7 (by omega) q9 (λj q hq=>by
   have hq':l[j]? = some q:=by
    rw [List.getElem?_take] at hq
    split at hq
    ·exact hq
    ·cases hq
   have gle:GLe κ (kF κ k none) tip tip s'.blk (s'.setb k zIr).blk:={
    var:=λi b l h h'=>by
     have e:i≠k:=by rintro rfl;rw [hbk] at h';cases h'
     rw [zW e,zN e];exact ⟨h,l,h'⟩
    buf:=λi c1 h=>by
     have e:i≠k:=by rintro rfl;rw [hbk] at h;cases h
     exact GLe.same (by rw [zN e];exact h) rfl
    own:=λi w1 l1 h=>by
     by_cases e:i=k
     ·subst e;exact ⟨0,_,zU _ _ _,.inr ⟨rfl,by simp⟩⟩
     ·exact GLe.sameO (by rw [zN e];exact h) (zW e) rfl }
   exact (q10 j q hq').ghost gle)
 have hp1:=zMh hin hp hbk none
 refine ⟨M,_,_,h0,zBj hi1 hp1 (by rw [zN hne];exact hbn) _,hi2.put (hws d (by simp [Mic.ws])) (.own k' i wd _ _ (zU _ _ _) (by rw [List.length_take];omega) (λ_=>(yR _ _ _).symm) ⟨_,_,_,rfl⟩)⟩
def zOk:PV->Bool
 | .bool _ | .int _ _ | .str _ | .nilp | .err false | .bytes [] | .sl _ []=>true
 | _=>false
theorem yNf {M:Mem} {p:PV} (h:zOk p=true):Rep M p (zv p):=by
 cases p with
 | bool b=>exact .bool b
 | int k n=>exact .int k n
 | str s=>exact .str s
 | nilp=>exact .nilp
 | err b=>cases b with
  | false=>exact .err0
  | true=>cases h
 | bytes l=>cases l with
  | nil=>exact .bytes0
  | cons _ _=>cases h
 | sl w l=>cases l with
  | nil=>exact .sl0 w
  | cons _ _=>cases h
 | _=>cases h
theorem zOv {α:Type} (c:List α) (n:Nat):((List.replicate n c).flatten).length=n*c.length:=by simp
theorem zOt {α:Type} (c:List α):∀ (n j:Nat),((List.replicate n c).flatten)[j]? = if j<n*c.length then c[j % c.length]? else none
 | 0,j=>by simp
 | n+1,j=>by
  rw [List.replicate_succ,List.flatten_cons]
  have ih:=zOt c n
  by_cases hj:j<c.length
  ·rw [List.getElem?_append_left hj,Nat.mod_eq_of_lt hj,if_pos (by rw [Nat.succ_mul];omega)]
  ·rw [List.getElem?_append_right (by omega),ih (j - c.length),Nat.succ_mul]
   have:(j - c.length) % c.length=j % c.length:=by rw [<- Nat.mod_eq_sub_mod (by omega)]
   rw [this]
   by_cases h2:j<n*c.length+c.length
   ·rw [if_pos (by omega),if_pos h2]
   ·rw [if_neg (by omega),if_neg h2]
def bJ (z:List PV) (n:Nat):List AV:=(List.replicate n (z.map AV.p)).flatten
theorem zUi {t e:TypeId} {ei:TI} {k n off m wd:Nat} {l:List AV} (hok:yN P te) (hd:o.dst=none) (ho:o.op=.call { callee:=.builtin .clear,args:=#[x],argTypes:=#[t] }) (ht:(te t).map (·.ty)=some (.slice e)) (he:te e=some ei) (hw:ei.w=wd) (hz:ei.z.length=wd) (hzk:ei.z.all zOk=true)
  (hx:s.get te t x=some (.osl k n off m)) (hb:s.blk k=some (.own wd l)) (hn:n*wd=l.length) (h1:0<m) (hl:off+m*wd<=l.length) :
  SA P o s ⟨opS x (.osl k n off m),[(k,.own wd l)],[],none,[(k,.own wd (uS l off (bJ ei.z m)))]⟩:=by
 refine ⟨?_,zO hx,by simpa using hb,by intro k hk';simp at hk'⟩
 intro cx s' a w K Q hm hs' hws hK
 obtain ⟨M,κ,tip,h0,hpk,hi⟩:=hs'
 have hbk:=hm.2.1 (k,.own wd l) (by simp)
 simp only at hbk
 have hx':=yB hi (yJ hx s' hm.1)
 obtain ⟨info,z,i1,i2,i3,i4,i5⟩:=(hok e ei he).info
 have hu:=yV hok ht
 generalize hev:a.eval x=zx at hx'
 cases hx' with
 | osl _ _ _ _ w' l' _ f1 f2 f3 f4=>
 rw [hbk] at f1
 cases f1
 obtain ⟨b,c,hκ,rfl,hnc⟩:=f3 hn
 obtain ⟨g1,g2⟩:=hi.owns.live hbk hn
 rcases g2 with ⟨_,y2,_⟩ | ⟨b',n1,cap,arr,e1,fz,q1,q2,q3,q4,q5,q6,q7,q8,q9,q10,q11⟩
 ·rw [hκ] at y2;cases y2
 rw [hκ] at q2
 cases q2
 have hnn:n1=n:=Nat.eq_of_mul_eq_mul_right g1 (by omega)
 subst hnn
 have hfit:n1*wd<=cap*wd:=Nat.mul_le_mul_right _ q8
 have hzs:z.cells.size=wd:=by rw [<- Array.length_toList,i5,List.length_map,hz]
 have hvl:(Builtin.zeroCells z.cells m).toList.length=m*wd:=by rw [Array.length_toList,size_zeroCells,hzs]
 have hvg:∀ j,j<m*wd->∃ q,ei.z[j % wd]? = some q/\zOk q=true/\(Builtin.zeroCells z.cells m).toList[j]? = some (zv q):=λj hj=>by
  have hjm:j % wd<ei.z.length:=by rw [hz];exact Nat.mod_lt _ g1
  have hjm':j % wd<z.cells.size:=by rw [hzs];exact Nat.mod_lt _ g1
  refine ⟨ei.z[j % wd],by simp,(List.all_eq_true.1 hzk) _ (List.getElem_mem _),?_⟩
  have e5:z.cells[j % wd]=zv ei.z[j % wd]:=by
   have:z.cells.toList[j % wd]? = some (zv ei.z[j % wd]):=by rw [i5,List.getElem?_map,List.getElem?_eq_getElem hjm];rfl
   rw [Array.getElem?_toList] at this
   simpa [hjm'] using this
  have hlt:j<(Builtin.zeroCells z.cells m).size:=by rw [size_zeroCells,hzs];exact hj
  rw [Array.getElem?_toList,Array.getElem?_eq_getElem hlt]
  simp only [Builtin.zeroCells,Array.getElem_map,Array.getElem_range,hzs]
  rw [getElem!_pos z.cells (j % wd) hjm',e5]
 have hrun:=run_storeCells_cells (P:=P) b off (Builtin.zeroCells z.cells m).toList 0 w
  (by
    intro j hj;rw [hvl] at hj;have:off+j<arr.size:=by omega
    simp [World.cell?,q4,this])
  (by intro j hj;rw [hvl] at hj;simp only [Nat.add_zero];exact tZ q4 q5 (by omega))
  (by
   intro u hu
   obtain ⟨j,hj,hju⟩:=List.getElem_of_mem hu
   rw [hvl] at hj
   obtain ⟨q,_,r2,r3⟩:=hvg j hj
   rw [List.getElem?_eq_getElem (by rw [hvl];exact hj),hju] at r3
   cases r3
   cases q with
   | bool _ | int _ _ | str _ | nilp=>rfl
   | err b=>cases b with
    | false=>rfl
    | true=>cases r2
   | bytes l=>cases l with
    | nil=>rfl
    | cons _ _=>cases r2
   | sl w l=>cases l with
    | nil=>rfl
    | cons _ _=>cases r2
   | _=>cases r2)
 simp only [Nat.add_zero] at hrun
 obtain ⟨m',rfl⟩:∃ m',m=m'+1:=⟨m - 1,by omega⟩
 have hclear:(execOp a.eval o).run P w=.ok (.value (.tuple #[])) (w.setCells b off (Builtin.zeroCells z.cells (m'+1)).toList):=by
  have hzv:(zeroValue e).run P w=.ok z w:=by simp [zeroValue,typeInfo,i1,i4]
  simp [execOp,ho,hev,resolve,invoke,builtin,Builtin.clear_,run_underlying hu,hzv,hrun]
 unfold Oper.wp
 rw [hclear]
 show K (a.put o.dst _) _
 rw [hd]
 refine hK _ _ ?_
 rw [aT]
 obtain ⟨arr',z1,z2,z3⟩:=sO b (Builtin.zeroCells z.cells (m'+1)).toList off w arr e1 fz q4 (by omega)
 have hzl:(bJ ei.z (m'+1)).length=(m'+1)*wd:=by unfold bJ;rw [zOv,List.length_map,hz]
 have hlen:=aV (l:=l) (cs:=bJ ei.z (m'+1)) (off:=off) (by omega)
 refine ⟨M,κ,_,h0,hpk,hi.ownSet (n':=n1) hbk q1 hκ q3 (by rw [z2];exact q5) z1 (by rw [z2];exact q7) q8 q9 g1 q11 (by omega) (by omega) q6 ?_⟩
 intro j q hq
 rw [nY (by omega)] at hq
 rw [Array.getD_eq_getD_getElem?,z3 j]
 by_cases hj:off<=j/\j<off+(m'+1)*wd
 ·rw [if_pos (by omega)] at hq
  rw [if_pos (by omega)]
  obtain ⟨q',r1,r2,r3⟩:=hvg (j - off) (by omega)
  unfold bJ at hq
  rw [zOt,List.length_map,hz,if_pos (by omega),List.getElem?_map,r1] at hq
  cases hq
  rw [r3]
  exact .p _ _ (yNf r2)
 ·rw [if_neg (by omega)] at hq
  rw [if_neg (by omega)]
  have:=q10 j q hq
  rw [Array.getD_eq_getD_getElem?] at this
  exact this
end
section
variable {P:Program} {te:TE} {s:AS} {o:Oper} {v:AV} {x y:Operand} {d:Nat} {ty:TypeId}
theorem Inv.stable {cx:Ctx} {M:Mem} {κ:Nat->Option Nat} {tip:Nat->Value} {s:AS} {a:Act} {w w':World} (hi:Inv cx M κ tip s a w) (h1:w'.os=w.os) (h2:w'.tape=w.tape) (h3:w'.output=w.output) (h4:w.heap.size<=w'.heap.size) (h5:∀ b,b<w.heap.size->w'.heap[b]? = w.heap[b]?):Inv cx M κ tip s a w' where
 defers:=hi.defers
 size:=hi.size
 fr:=⟨h1.trans hi.fr.os,h2.trans hi.fr.tape,h3.trans hi.fr.output,Nat.le_trans hi.fr.size h4,λb b1 b2 b3=>by
  rw [h5 b (by have:=hi.fr.size;omega)];exact hi.fr.block b b1 b2 b3⟩
 mem:=λb o x h=>by
  have:=hi.mem b o x h
  rw [World.cell?_of_block (h5 b (World.block_lt_of_cell? w _ this))]
  exact this
 env:=hi.env
 vars:=λi l h=>by
  obtain ⟨b,arr',e1,fz',k1,k2,k3,k4,k5,k6,k7⟩:=hi.vars i l h
  exact ⟨b,arr',e1,fz',k1,by rw [h5 b (hi.lt k1)];exact k2,k3,k4,k5,k6,k7⟩
 bufs:=λi c1 h=>by
  obtain ⟨k1,k2,k3,k4⟩:=hi.bufs i c1 h
  refine ⟨k1,k2,k3,?_⟩
  rcases k4 with k4 | ⟨b,n1,cap1,arr1,e1,fz1,q1,q2,q3,q4,q5,q6,q7,q8⟩
  ·exact .inl k4
  ·exact .inr ⟨b,n1,cap1,arr1,e1,fz1,q1,q2,q3,by rw [h5 b (hi.lt q2)];exact q4,q5,q6,q7,q8⟩
 inj:=hi.inj
 dom:=hi.dom
 glob:=hi.glob
 old:=hi.old
 owns:=λi w1 l1 h=>by
  rcases hi.owns i w1 l1 h with g0 | ⟨g1,g2⟩
  ·exact .inl g0
  refine .inr ⟨g1,?_⟩
  rcases g2 with g2 | ⟨b,n1,cap1,arr1,e1,fz1,q1,q2,q3,q4,q5,q6,q7,q8,q9,q10,q11⟩
  ·exact .inl g2
  ·exact .inr ⟨b,n1,cap1,arr1,e1,fz1,q1,q2,q3,by rw [h5 b (hi.lt q2)];exact q4,q5,q6,q7,q8,q9,q10,q11⟩
theorem Inv.borrow {cx:Ctx} {M:Mem} {κ:Nat->Option Nat} {tip:Nat->Value} {s:AS} {a:Act} {w:World} (hi:Inv cx M κ tip s a w) {k wd n:Nat} {cs:List PV} {c:PV} (hb:s.blk k=some (.own wd (cs.map .p))) (hn:n*wd=cs.length) (hc:fO wd c cs) (hcn:c.len=n) :
  ∃ M',M.le M'/\Rep M' c (tip k)/\∀ b o x,M' b o=some x->w.cell? ⟨b,o,none⟩=some x:=by
 obtain ⟨g1,g2⟩:=hi.owns.live hb (n:=n) (by simpa using hn)
 rcases g2 with ⟨y1,y2,hl⟩ | ⟨b,n',cap,arr,e,fz,q1,q2,q3,q4,q5,q6,q7,q8,q9,q10,q11⟩
 ·have hcs:cs=[]:=by simpa using hl
  subst hcs
  obtain ⟨c1,c2,c3,c4⟩:=hc.cells (M:=M) (f:=λ_=>undef) (by simp)
  have hl0:c.len=0:=by
   rcases Nat.eq_zero_or_pos c.len with h | h
   ·exact h
   ·have:=Nat.mul_pos h g1;simp at c4;omega
  refine ⟨M,Mem.le_refl M,?_,hi.mem⟩
  rw [y1]
  cases c with
  | bytes l=>simp [PV.len] at hl0;subst hl0;exact .bytes0
  | sl w l=>simp [PV.len] at hl0;subst hl0;exact .sl0 w
  | _=>simp [PV.isSlice] at c2
 ·rw [List.length_map] at q6
  have hnn:n'=n:=Nat.eq_of_mul_eq_mul_right g1 (by omega)
  subst hnn
  have hfit:n'*wd<=cap*wd:=Nat.mul_le_mul_right _ q8
  obtain ⟨c1,c2,c3,c4⟩:=hc.cells (M:=M) (f:=λj=>arr.getD j undef) (λj q hq=>repA_pv (q10 j (.p q) (by rw [List.getElem?_map,hq];rfl)))
  have hle:M.le (xI M b 0 (n'*wd) (arr[·]?)):=uK λo _ _=>q11 o
  refine ⟨xI M b 0 (n'*wd) (arr[·]?),hle,?_,λb' o x h=>?_⟩
  ·rw [q1]
   have:=wB (M':=xI M b 0 (n'*wd) (arr[·]?)) (b:=b) (o:=0) (cap:=cap) c1 c2 hle ?_ (by omega)
   ·rwa [hcn] at this
   intro j hj
   rw [hcn,c3] at hj
   simp only [xI,Nat.zero_add]
   rw [if_pos ⟨trivial,Nat.zero_le _,hj⟩]
   have:j<arr.size:=by omega
   simp [this]
  ·unfold xI at h
   split at h
   ·rename_i hc'
    obtain ⟨rfl,_,hlt⟩:=hc'
    simp only [World.cell?,q4]
    simpa using h
   ·exact hi.mem b' o x h
inductive fE (s:AS) (te:TE) (k0 n0:Nat) (c:PV):List Operand->List TypeId->List PV->List (Nat×AV)->List (Nat×ABlk)->Prop where
 | nil:fE s te k0 n0 c [] [] [] [] []
 | cons {x:Operand} {t:TypeId} {v:AV} {p:PV} {bs:List (Nat×ABlk)} {xs:List Operand} {ts:List TypeId} {ps:List PV} {rs:List (Nat×AV)} {bb:List (Nat×ABlk)} :
   s.get te t x=some v->s.rd v=some (p,bs)->fE s te k0 n0 c xs ts ps rs bb->fE s te k0 n0 c (x :: xs) (t :: ts) (p :: ps) (opS x v++rs) (bs++bb)
 | own {x:Operand} {t:TypeId} {xs:List Operand} {ts:List TypeId} {ps:List PV} {rs:List (Nat×AV)} {bb:List (Nat×ABlk)} :
   s.get te t x=some (.own k0 n0)->fE s te k0 n0 c xs ts ps rs bb->fE s te k0 n0 c (x :: xs) (t :: ts) (c :: ps) (opS x (.own k0 n0)++rs) bb
theorem fE.reads {k0 n0:Nat} {c:PV} {xs:List Operand} {ts:List TypeId} {ps:List PV} {rs:List (Nat×AV)} {bb:List (Nat×ABlk)} (h:fE s te k0 n0 c xs ts ps rs bb):wH s rs/\∀ e∈bb,s.blk e.1=some e.2:=by
 induction h with
 | nil=>exact ⟨by intro e he;simp at he,by simp⟩
 | cons h1 h2 _ ih=>exact ⟨yK (zO h1) ih.1,λe he=>(List.mem_append.1 he).elim (uV _ _ _ h2 e) (ih.2 e)⟩
 | own h1 _ ih=>exact ⟨yK (zO h1) ih.1,ih.2⟩
theorem fE.rep {k0 n0 wd:Nat} {c:PV} {l:List AV} {xs:List Operand} {ts:List TypeId} {ps:List PV} {rs:List (Nat×AV)} {bb:List (Nat×ABlk)} (h:fE s te k0 n0 c xs ts ps rs bb) {cx:Ctx} {M M':Mem} {κ:Nat->Option Nat} {tip:Nat->Value} {s':AS} {a:Act} {w:World} (hi:Inv cx M κ tip s' a w) (hM:M.le M') (hb0:s'.blk k0=some (.own wd l)) (hn:n0*wd=l.length) (hc:Rep M' c (tip k0)) :
  wH s' rs->(∀ e∈bb,s'.blk e.1=some e.2)->xs.length=ps.length/\∀ (j:Nat) (p:PV),ps[j]? = some p->Rep M' p (((xs.map a.eval)[j]?).getD undef):=by
 induction h with
 | nil=>intro _ _;exact ⟨rfl,by simp⟩
 | cons h1 h2 _ ih=>
  intro hr hb
  obtain ⟨e1,e2⟩:=ih (zY hr) (λe he=>hb e (List.mem_append.2 (.inr he)))
  refine ⟨by simp [e1],λj q hq=>?_⟩
  cases j with
  | zero=>simp at hq;subst hq;simpa using (dS hi h1 h2 (yE hr) (λe he=>hb e (List.mem_append.2 (.inl he)))).mono hM
  | succ j=>simpa using e2 j q (by simpa using hq)
 | @own x t xs ts ps rs bb h1 _ ih=>
  intro hr hb
  obtain ⟨e1,e2⟩:=ih (zY hr) hb
  refine ⟨by simp [e1],λj q hq=>?_⟩
  cases j with
  | zero=>
   simp at hq;subst hq
   have:=zEs (cx:=cx) hb0 hn (yB hi (yJ h1 s' (yE hr)))
   simpa [this] using hc
  | succ j=>simpa using e2 j q (by simpa using hq)
def zZs:PV->Bool
 | .bool _ | .int _ _=>true
 | _=>false
def yCg:AV->Bool
 | .p q=>zZs q
 | .tu l=>l.all λv=>match v with | .p q=>zZs q | _=>false
 | _=>false
theorem zKk {M M':Mem} {q:PV} {z:Value} (h:zZs q=true) (hr:Rep M q z):Rep M' q z:=by
 cases hr with
 | bool b=>exact .bool b
 | int k n=>exact .int k n
 | _=>cases h
theorem zV7 {M M':Mem} {κ κ':Nat->Option Nat} {tip tip':Nat->Value} {B B':Nat->Option ABlk} {v:AV} {z:Value} (h:yCg v=true) (hr:yT M κ tip B v z):yT M' κ' tip' B' v z:=by
 cases hr with
 | p q x h1=>exact .p _ _ (zKk h h1)
 | tu l vs h1 h2=>
  refine .tu l vs h1 λj q hq=>?_
  have h3:=(List.all_eq_true.1 h) q (List.mem_of_getElem? hq)
  have h4:=h2 j q hq
  cases q with
  | p q=>exact .p _ _ (zKk h3 (repA_pv h4))
  | _=>cases h3
 | _=>cases h
theorem zYw {f:FuncId} {xs:Array Operand} {ts:Array TypeId} {xl:List Operand} {tl:List TypeId} {ps cs:List PV} {rs:List (Nat×AV)} {bb:List (Nat×ABlk)} {na:Nat} {av:AV} {k0 n0 wd:Nat} {c:PV} (hd:o.dst=some d) (ho:o.op=.call { callee:=.value (.func f),args:=xs,argTypes:=ts })
  (hok:Ok P f na (mkS (argE 0 ps) []) (mkS [(0,av)] [])) (hav:yCg av=true) (hxl:xs.toList=xl) (htl:ts.toList=tl) (ha:fE s te k0 n0 c xl tl ps rs bb) (hna:na=ps.length) (hb:s.blk k0=some (.own wd (cs.map .p))) (hn:n0*wd=cs.length) (hc:fO wd c cs) (hcn:c.len=n0) :
  SA P o s ⟨rs,bb++[(k0,.own wd (cs.map .p))],[],some (d,some av),[]⟩:=by
 refine ⟨?_,ha.reads.1,λe he=>(List.mem_append.1 he).elim (ha.reads.2 e) (λh=>by simp at h;subst h;exact hb),by intro k hk;simp at hk⟩
 intro cx s' a w K Q hm hs hws hk
 obtain ⟨M,κ,tip,h0,hp,hi⟩:=hs
 have hbk:s'.blk k0=some (.own wd (cs.map .p)):=hm.2.1 (k0,_) (by simp)
 obtain ⟨M1,m1,m2,m3⟩:=hi.borrow hbk hn hc hcn
 obtain ⟨hl,hrep⟩:=ha.rep hi m1 hbk (by simpa using hn) m2 hm.1 (λe he=>hm.2.1 e (List.mem_append.2 (.inl he)))
 have hsz:(xs.map a.eval).size=ps.length:=by rw [<- hl,<- hxl];simp
 have hinv:=zJu (w:=w) ((hi.globw hp).mono m1) m3 hsz (λj p hj=>by
  have:=hrep j p hj
  rw [<- hxl] at this
  rw [Array.getD_eq_getD_getElem?]
  simpa using this)
 subst hna
 unfold Oper.wp
 rw [zE6 ho hok.1]
 show Calls P f _ w _
 refine (hok.2 w M1 zP4 _ _ _ hinv (by simp)).mono ?_
 rintro e w' ⟨v,rfl,M',κ',tip',h0',hp',hr⟩
 show K (a.put o.dst v) w'
 rw [hd]
 refine hk _ _ ?_
 have hst:=hi.stable hr.fr.os hr.fr.tape hr.fr.output hr.fr.size (λb hb=>hr.fr.block b hb (by simp [Ctx.pb]) (λh=>by cases h))
 obtain ⟨x,hx,hrx⟩:=hr.env 0 av (by simp [mkS,lk])
 simp at hx
 subst hx
 exact ⟨M,κ,tip,h0,hp,hst.put (hws d (by simp [Mic.ws])) (zV7 hav hrx)⟩
end
section
variable {P:Program} [T:pK P] {ops:Array Oper} {s:AS} {r:List Oper} {K:AS->List Mic->Prop} {d:Nat} {ty:TypeId} {pos:String} {af:Array Edge} {x y:Operand} {v:AV}
theorem abN {te:TE} {k0 n0:Nat} {c:PV}:fE s te k0 n0 c [] [] [] [] []:=.nil
theorem abC {te:TE} {k0 n0:Nat} {c:PV} {t:TypeId} {p:PV} {bs bb:List (Nat×ABlk)} {xs:List Operand} {ts:List TypeId} {ps:List PV} {rs:List (Nat×AV)} (h1:s.get te t x=some v) (h2:s.rd v=some (p,bs)) (k:fE s te k0 n0 c xs ts ps rs bb):fE s te k0 n0 c (x :: xs) (t :: ts) (p :: ps) (opS x v++rs) (bs++bb):=.cons h1 h2 k
theorem abO {te:TE} {k0 n0:Nat} {c:PV} {t:TypeId} {bb:List (Nat×ABlk)} {xs:List Operand} {ts:List TypeId} {ps:List PV} {rs:List (Nat×AV)} (h1:s.get te t x=some (.own k0 n0)) (k:fE s te k0 n0 c xs ts ps rs bb):fE s te k0 n0 c (x :: xs) (t :: ts) (c :: ps) (opS x (.own k0 n0)++rs) bb:=.own h1 k
theorem RK.clB {α:Type} (k0:Nat) (g:α->PV) (w:Nat) {l:List α} {n:Nat} {f:FuncId} {xs:Array Operand} {ts:Array TypeId} {ps:List PV} {rs:List (Nat×AV)} {bb:List (Nat×ABlk)} {na:Nat} {av:AV} (hn:l.length=n) (h:Ok P f na (mkS (argE 0 ps) []) (mkS [(0,av)] [])) (hg:∀ a,(g a).cells.length=w) (hb:s.blk k0=some (qO (.sl w (l.map g)))) (ha:fE s T.te k0 n (.sl w (l.map g)) xs.toList ts.toList ps rs bb) (hna:Nat.beq na ps.length=true) (hav:yCg av=true)
  (k:VK P ops r s K d rs (bb++[(k0,qO (.sl w (l.map g)))]) av):RK P ops (⟨some d,.call ⟨.value (.func f),xs,ts⟩,ty,pos,af,none⟩:: r) s K:=
 RK.st rfl (zYw (o:=⟨some d,.call ⟨.value (.func f),xs,ts⟩,ty,pos,af,none⟩) rfl rfl h hav rfl rfl ha (Nat.eq_of_beq_eq_true hna) hb (by rw [flat_len hg,hn];rfl) (yFi l hg) (by simp [PV.len,hn])) k
theorem RK.slL {lo:Operand} {a:Int} {kl:IntKind} {t e:TypeId} {k0 n w:Nat} {p:PV} {ei:TI} (hn:n*w=p.ecs.length) (h:decide (0<=a/\a<n)=true) (ht:(T.te t).map (·.ty)=some (.slice e)) (he:T.te e=some ei) (hw:ei.w=w) (hx:s.get T.te t x=some (.own k0 n)) (hb:s.blk k0=some (.own w p.ecs)) (hlo:s.get T.te 0 lo=some (.p (.int kl a)))
  (k:VK P ops r s K d (opS x (.own k0 n)++opS lo (.p (.int kl a))) [(k0,.own w p.ecs)] (.osl k0 n (a.toNat*w) (n - a.toNat))):RK P ops (⟨some d,.slice t x (some lo) none none,ty,pos,af,none⟩:: r) s K:=by
 obtain ⟨h1,h2⟩:=of_decide_eq_true h
 have e:((a.toNat:Nat):Int)=a:=Int.toNat_of_nonneg h1
 have:=zRk (P:=P) (o:=⟨some d,.slice t x (some lo) none none,ty,pos,af,none⟩) (a:=a.toNat) T.ok rfl ht he hw hx hb hn (by rw [e];exact hlo) (by omega)
 rw [e] at this
 exact RK.va rfl rfl this k
theorem zVp {a b c:List AV} (h:c.length=b.length):uS (a++b) a.length c=a++c:=by
 rw [lX (by simp [h]),List.take_left,List.drop_eq_nil_of_le (by simp [h]),List.append_nil]
theorem RK.clr {α:Type} (g:α->PV) (u:α) (w:Nat) {t e:TypeId} {ei:TI} {k0 n i:Nat} {l:List α} (hn:l.length=n) (h:Nat.blt i n=true) (hg:∀ a,(g a).cells.length=w) (ht:(T.te t).map (·.ty)=some (.slice e)) (he:T.te e=some ei) (hw:ei.w=w) (hz:ei.z=(g u).cells) (hzk:ei.z.all zOk=true) (hx:s.get T.te t x=some (.osl k0 n (i*w) (n - i))) (hb:s.blk k0=some (qO (.sl w (l.map g))))
  (k:RK P ops r (s.setb k0 (qO (.sl w ((l.take i++List.replicate (n - i) u).map g)))) λs' ms=>K s' (⟨opS x (.osl k0 n (i*w) (n - i)),[(k0,qO (.sl w (l.map g)))],[],none,[(k0,qO (.sl w ((l.take i++List.replicate (n - i) u).map g)))]⟩:: ms)):RK P ops (⟨none,.call ⟨.builtin .clear,#[x],#[t]⟩,ty,pos,af,none⟩:: r) s K:=by
 have hlt:=Nat.le_of_ble_eq_true h
 have hl:(PV.ecs (.sl w (l.map g))).length=n*w:=by rw [<- xQ hg,hn]
 have h2:=zUi (P:=P) (o:=⟨none,.call ⟨.builtin .clear,#[x],#[t]⟩,ty,pos,af,none⟩) T.ok rfl rfl ht he hw (by rw [hz,hg]) hzk hx hb (by rw [hl]) (by omega) (by rw [hl,<- Nat.add_mul];exact Nat.mul_le_mul_right _ (by omega))
 have e1:uS (PV.ecs (.sl w (l.map g))) (i*w) (bJ ei.z (n - i))=PV.ecs (.sl w ((l.take i++List.replicate (n - i) u).map g)):=by
  have ea:PV.ecs (.sl w (l.map g))=PV.ecs (.sl w ((l.take i).map g))++PV.ecs (.sl w ((l.drop i).map g)):=by
   simp only [PV.ecs];rw [<- List.map_append,<- hH,<- List.map_append,List.take_append_drop]
  have eb:PV.ecs (.sl w ((l.take i++List.replicate (n - i) u).map g))=PV.ecs (.sl w ((l.take i).map g))++bJ ei.z (n - i):=by
   have:∀ m:Nat,PV.ecs (.sl w ((List.replicate m u).map g))=bJ ei.z m:=λm=>by
    induction m with
    | zero=>rfl
    | succ m ih=>
     have e1:PV.ecs (.sl w ((List.replicate (m+1) u).map g))=(g u).cells.map AV.p++PV.ecs (.sl w ((List.replicate m u).map g)):=by
      simp only [PV.ecs,List.replicate_succ,List.map_cons,flatCells,List.map_append]
     rw [e1,ih,<- hz]
     unfold bJ
     rw [List.replicate_succ,List.flatten_cons]
   rw [<- this]
   simp only [PV.ecs];rw [<- List.map_append,<- hH,<- List.map_append]
  have ec:i*w=(PV.ecs (.sl w ((l.take i).map g))).length:=by rw [<- xQ hg,List.length_take,Nat.min_eq_left (by omega)]
  rw [ea,eb,ec]
  refine zVp ?_
  unfold bJ
  rw [zOv,List.length_map,hz,hg,<- xQ hg,List.length_drop,hn]
 rw [show qO (.sl w (l.map g))=.own w (PV.ecs (.sl w (l.map g))) from rfl] at *
 rw [e1] at h2
 exact RK.so rfl h2 k
theorem RK.shO {α:Type} (g:α->PV) (w k1:Nat) {hi:Operand} {i:Int} {kh:IntKind} {t e:TypeId} {ei:TI} {k0 n:Nat} {l:List α} (hn:l.length=n) (h:decide (0<=i/\i<n)=true) (hg:∀ a,(g a).cells.length=w) (ht:(T.te t).map (·.ty)=some (.slice e)) (he:T.te e=some ei) (hw:ei.w=w) (hx:s.get T.te t x=some (.own k0 n)) (hb:s.blk k0=some (qO (.sl w (l.map g)))) (hhi:s.get T.te 0 hi=some (.p (.int kh i))) (hk1:s.blk k1=none) (hbig:Nat.ble BIG k1=true)
  (k:RK P ops r (Mic.upd ⟨opS x (.own k0 n)++opS hi (.p (.int kh i)),[(k0,qO (.sl w (l.map g)))],[k1],some (d,some (.own k1 (l.take i.toNat).length)),[(k1,qO (.sl w ((l.take i.toNat).map g))),(k0,zIr)]⟩ s) λs' ms=>K s' (⟨opS x (.own k0 n)++opS hi (.p (.int kh i)),[(k0,qO (.sl w (l.map g)))],[k1],some (d,some (.own k1 (l.take i.toNat).length)),[(k1,qO (.sl w ((l.take i.toNat).map g))),(k0,zIr)]⟩:: ms)):RK P ops (⟨some d,.slice t x none (some hi) none,ty,pos,af,none⟩:: r) s K:=by
 obtain ⟨h1,h2⟩:=of_decide_eq_true h
 have e:((i.toNat:Nat):Int)=i:=Int.toNat_of_nonneg h1
 have h3:=yMg (P:=P) (o:=⟨some d,.slice t x none (some hi) none,ty,pos,af,none⟩) (i:=i.toNat) T.ok rfl rfl ht he hw hx hb (by rw [<- xQ hg,hn]) (by rw [e];exact hhi) (by omega) hk1 (Nat.le_of_ble_eq_true hbig)
 have e1:(PV.ecs (.sl w (l.map g))).take (i.toNat*w)=PV.ecs (.sl w ((l.take i.toNat).map g)):=by
  have ea:PV.ecs (.sl w (l.map g))=PV.ecs (.sl w ((l.take i.toNat).map g))++PV.ecs (.sl w ((l.drop i.toNat).map g)):=by
   simp only [PV.ecs];rw [<- List.map_append,<- hH,<- List.map_append,List.take_append_drop]
  have ec:i.toNat*w=(PV.ecs (.sl w ((l.take i.toNat).map g))).length:=by rw [<- xQ hg,List.length_take,Nat.min_eq_left (by omega)]
  rw [ea,ec,List.take_left]
 have e2:(l.take i.toNat).length=i.toNat:=by rw [List.length_take];omega
 rw [e2] at k
 rw [e1,e] at h3
 exact RK.st rfl h3 k
theorem RK.quo8 {tx tyy:TypeId} {a b:Int} (h0:(b==0)=false) (hx:s.get T.te tx x=some (.p (.int .u8 a))) (hy:s.get T.te tyy y=some (.p (.int .u8 b))) (k:VK P ops r s K d (opS x (.p (.int .u8 a))++opS y (.p (.int .u8 b))) ([]) (.p (.int .u8 (u8 (a.tdiv b)).toNat))):RK P ops (⟨some d,.binOp .quo tx x y tyy,ty,pos,af,none⟩:: r) s K:=by
 rw [<- wrap_u8] at k
 exact RK.va rfl rfl (Go.Sw.quo T.ok h0 rfl hx hy) k
theorem RK.rem8 {tx tyy:TypeId} {a b:Nat} (h0:((b:Int)==0)=false) (hx:s.get T.te tx x=some (.p (.int .u8 (a:Nat)))) (ha:a<256) (hy:s.get T.te tyy y=some (.p (.int .u8 (b:Nat)))) (k:VK P ops r s K d (opS x (.p (.int .u8 (a:Nat)))++opS y (.p (.int .u8 (b:Nat)))) ([]) (.p (.int .u8 (u8 ((a:Int).tmod b)).toNat))):RK P ops (⟨some d,.binOp .rem tx x y tyy,ty,pos,af,none⟩:: r) s K:=by
 have e:(((u8 ((a:Int).tmod b)).toNat:Nat):Int)=(a:Int).tmod b:=by
  rw [<- wrap_u8]
  have:(a:Int).tmod b=((a % b:Nat):Int):=by rw [Int.ofNat_tmod]
  rw [this]
  have h2:a % b<=a:=Nat.mod_le _ _
  have hb:(2:Int) ^ IntKind.u8.bits=256:=by decide
  have hs:IntKind.u8.signed=false:=rfl
  simp only [IntKind.wrap,hb,hs,Bool.false_and,Bool.false_eq_true,if_false]
  omega
 rw [e] at k
 exact RK.va rfl rfl (Go.Sw.rem T.ok h0 rfl hx hy) k
end
section
variable {P:Program} {te:TE} {s:AS} {o:Oper} {v:AV} {x y:Operand} {d:Nat} {ty:TypeId}
theorem zVo {t ft:TypeId} {fs:List (TypeId×Nat)} {k n wd off f fo:Nat} {l:List AV} {fi:TI} (hok:yN P te) (ho:o.op=.fieldAddr t x f) (ht:(te t).map (·.ty)=some (.struct fs)) (hf:fs[f]? = some (ft,fo)) (he:te ft=some fi) (hw:fi.w≠0) (hx:s.get te ty x=some (.optr k n off)) (hb:s.blk k=some (.own wd l)) (hn:n*wd=l.length) :
  VA P o s (opS x (.optr k n off)) [(k,.own wd l)] (.optr k n (off+fo)):=by
 refine ⟨?_,zO hx,by simpa using hb⟩
 intro cx M κ tip s' a w hi hr hb'
 have hx':=yB hi (yJ hx s' hr)
 have hbk:=hb' (k,.own wd l) (by simp)
 simp only at hbk
 obtain ⟨fields,hu,hfs⟩:=dM hok ht
 have hfield:∃ fl,fields[f]? = some fl/\fl.type=ft/\fl.offset=fo:=by
  rw [<- hfs,List.getElem?_map] at hf
  obtain ⟨fl,h1,h2⟩:=Option.map_eq_some_iff.1 hf
  simp at h2
  exact ⟨fl,by simpa using h1,h2.1,h2.2⟩
 obtain ⟨fl,hfl,rfl,rfl⟩:=hfield
 generalize hev:a.eval x=z at hx'
 cases hx' with
 | optr _ _ _ w' l' _ h1 h2 h3 hs=>
 rw [hbk] at h1
 cases h1
 obtain ⟨b,hκ,rfl⟩:=h3 hn
 have hsz:=vV hok he w
 refine ⟨.pointer (some ⟨b,off+fl.offset,none⟩),?_,.optr k n _ _ l _ hbk (by omega) (λ_=>⟨b,hκ,rfl⟩) ⟨_,rfl⟩⟩
 simp [execOp,ho,hev,Instr.fieldAt,Instr.sureAddr,run_underlying hu,hfl,fieldPlace,hsz,hw,vL]
end
section
variable {P:Program} [T:pK P] {ops:Array Oper} {s:AS} {r:List Oper} {K:AS->List Mic->Prop} {d:Nat} {ty:TypeId} {pos:String} {af:Array Edge} {x y:Operand} {v:AV}
theorem RK.faO {t ft:TypeId} {fs:List (TypeId×Nat)} {k0 n w off f fo:Nat} {p:PV} {fi:TI} (hn:n*w=p.ecs.length) (ht:(T.te t).map (·.ty)=some (.struct fs)) (hf:fs[f]? = some (ft,fo)) (he:T.te ft=some fi) (hw:Nat.blt 0 fi.w=true) (hx:s.get T.te 0 x=some (.optr k0 n off)) (hb:s.blk k0=some (.own w p.ecs))
  (k:VK P ops r s K d (opS x (.optr k0 n off)) [(k0,.own w p.ecs)] (.optr k0 n (off+fo))):RK P ops (⟨some d,.fieldAddr t x f,ty,pos,af,none⟩:: r) s K:=
 RK.va rfl rfl (zVo T.ok rfl ht hf he (by have:=Nat.le_of_ble_eq_true hw;omega) hx hb hn) k
theorem RK.ldoF {α:Type} (g:α->PV) {w fo:Nat} {q:PV} {t:TypeId} {k0 j:Nat} {l:List α} {u:α} {i:TI} {n:Nat} (hn:l.length=n) (h:l[j]? = some u) (hg:∀ a,(g a).cells.length=w) (ht:T.te t=some i) (hp:i.plain=true) (hq:(g u).cells[fo]? = some q) (hx:s.get T.te 0 x=some (.optr k0 n (j*w+fo))) (hb:s.blk k0=some (qO (.sl w (l.map g))))
  (k:VK P ops r s K d (opS x (.optr k0 n (j*w+fo))) [(k0,qO (.sl w (l.map g)))] (.p q)):RK P ops (⟨some d,.load t x,ty,pos,af,none⟩:: r) s K:=by
 subst hn
 exact RK.va rfl rfl (zF2 T.ok rfl ht hp hx hb (xQ hg l) (zAw hg h hq)) k
theorem RK.stoF {α:Type} (g:α->PV) {w fo:Nat} {q:PV} {t:TypeId} {i:TI} {ax:Operand} {k0 j:Nat} {l l':List α} {u u':α} {n:Nat} (hn:l.length=n) (h0:l[j]? = some u) (h:wY l j u'=some l') (hg:∀ a,(g a).cells.length=w) (hfo:Nat.blt fo w=true) (hq:(g u').cells=(g u).cells.set fo q) (hone:q.one=true) (hqc:q.cells=[q]) (ht:T.te t=some i) (hw:i.w=1) (ha:s.get T.te 0 ax=some (.optr k0 n (j*w+fo))) (hx:s.get T.te t x=some (.p q)) (hb:s.blk k0=some (qO (.sl w (l.map g))))
  (k:RK P ops r (s.setb k0 (qO (.sl w (l'.map g)))) λs' ms=>K s' (⟨opS ax (.optr k0 n (j*w+fo))++opS x (.p q),[(k0,qO (.sl w (l.map g)))],[],none,[(k0,qO (.sl w (l'.map g)))]⟩:: ms)):RK P ops (⟨none,.store t ax x,ty,pos,af,none⟩:: r) s K:=by
 subst hn
 obtain ⟨h1,h2⟩:=eR h
 have hf:=Nat.le_of_ble_eq_true hfo
 have hjw:(j+1)*w<=l.length*w:=Nat.mul_le_mul_right _ h1
 rw [Nat.add_mul] at hjw
 have hlen:=xQ hg l
 have:=zEg (P:=P) (o:=⟨none,.store t ax x,ty,pos,af,none⟩) T.ok rfl rfl ht ha hx rfl hb (xQ hg l) (by rw [hqc,hw];rfl) (by omega) (by rw [hqc];simp [hone])
 have e1:uS (PV.ecs (.sl w (l.map g))) (j*w+fo) (q.cells.map AV.p)=PV.ecs (.sl w (l'.map g)):=by
  rw [hqc,h2,<- zNw hg u' h1,hq]
  have hcl:((g u).cells.map AV.p).length=w:=by rw [List.length_map,hg]
  apply List.ext_getElem?
  intro o
  rw [nY (by simp;omega),nY (by simp [hg];omega)]
  simp only [List.map_cons,List.map_nil,List.length_cons,List.length_nil,List.length_map,List.length_set,hg,List.map_set]
  by_cases ho:j*w<=o/\o<j*w+w
  ·rw [if_pos ho]
   by_cases ho2:o=j*w+fo
   ·subst ho2
    rw [if_pos (by omega),Nat.sub_self,show j*w+fo - j*w=fo by omega,List.getElem?_set_self (by rw [hcl];omega)]
    rfl
   ·rw [if_neg (by omega),List.getElem?_set_ne (by omega)]
    have h3:o - j*w<(g u).cells.length:=by rw [hg];omega
    have h4:=zAw hg h0 (o:=o - j*w) (q:=(g u).cells[o - j*w]) (by simp)
    rw [show j*w+(o - j*w)=o by omega] at h4
    rw [h4,List.getElem?_map]
    simp [h3]
  ·rw [if_neg ho,if_neg (by omega)]
 rw [show (PV.sl w (l.map g)).width=w from rfl,e1] at this
 exact RK.so rfl this k
theorem RK.loB {t e:TypeId} {ei:TI} {n:Nat} {pa:Array (Nat×Operand)} {vs rs:List (Nat×AV)} (u:List UInt8) (ht:(T.te t).map (·.ty)=some (.slice e)) (he:T.te e=some ei) (hw:ei.w=1) (hz:ei.z.length=ei.w) (hn:Nat.ble (n*ei.w) 16777216=true) (hp:nD s T.te pa.toList vs rs) (hf:nE (λj=>some (j*ei.w,ei.w)) (qJ ei.z n) vs=some (PV.ecs (.bytes u))) (hln:Nat.beq u.length n=true) (hk:s.blk d=none)
  (k:BK P ops r s K d rs [] [d] d (qO (.bytes u)) (.own d u.length)):RK P ops (⟨some d,.buildSlice t n pa,ty,pos,af,none⟩:: r) s K:=by
 have e1:=Nat.eq_of_beq_eq_true hln
 rw [e1] at k
 have:=zS9 (P:=P) (o:=⟨some d,.buildSlice t n pa,ty,pos,af,none⟩) T.ok rfl rfl rfl ht he hz (by omega) (yZ hn) hp hf (by rw [hw,<- sM,e1]) hk
 rw [hw] at this
 exact RK.sb rfl this k
theorem yCi {α:Type} {l:List α} {u:α} {i n:Nat} (hn:l.length=n) (h:Nat.blt i n=true):(l.take i++List.replicate (n - i) u).length=n:=by
 have:=Nat.le_of_ble_eq_true h
 simp;omega
theorem RK.ixBU {t e:TypeId} {l:List UInt8} {u:UInt8} {bs:List (Nat×ABlk)} {i:Int} {ei:TI} (h:idx l i=some u) (ht:(T.te t).map (·.ty)=some (.slice e)) (he:T.te e=some ei) (hx:s.get T.te t x=some v) (hp:s.rd v=some (.bytes l,bs)) (hw:1=ei.w) (hy:s.get T.te 0 y=some (.p (.int .i64 i))) (k:VK P ops r s K d (opS x v++opS y (.p (.int .i64 i))) (bs) (.p (.cptr (.int .u8 u.toNat)))):RK P ops (⟨some d,.indexAddr t x y,ty,pos,af,none⟩:: r) s K:=RK.va rfl rfl (Go.Sw.ixB T.ok h rfl ht he hx hp hw hy) k
theorem RK.iaW {n j k0 off w:Nat} {t e:TypeId} {i:Int} {ei:TI} (h:ixN n i=some j) (ht:(T.te t).map (·.ty)=some (.arr n e)) (he:T.te e=some ei) (hw:ei.w=w) (hx:s.get T.te t x=some (.ptr k0 off)) (hy:s.get T.te 0 y=some (.p (.int .i64 i))) (k:VK P ops r s K d (opS x (.ptr k0 off)++opS y (.p (.int .i64 i))) ([]) (.ptr k0 (off+j*w))):RK P ops (⟨some d,.indexAddr t x y,ty,pos,af,none⟩:: r) s K:=by
 have h3:0<=i/\i<n/\j=i.toNat:=by
  unfold ixN at h
  split at h
  ·cases h;exact ⟨by omega,by omega,rfl⟩
  ·cases h
 obtain ⟨h0,h1,rfl⟩:=h3
 subst hw
 exact RK.va rfl rfl (zK6 T.ok rfl ht he hx hy h0 h1) k
theorem RK.ld4 {α:Type} {f:α->AV} {u:A4 α} {k0 off:Nat} {t:TypeId} {l:List α} {i:TI} (h:lA4 ((l.drop off).take 4)=some u) (ht:T.te t=some i) (hp:i.isAgg=true) (hw:i.w=4) (hx:s.get T.te 0 x=some (.ptr k0 off)) (hb:s.blk k0=some (.var (l.map f)))
  (k:VK P ops r s K d (opS x (.ptr k0 off)) [(k0,.var (l.map f))] (.ag [f u.a0,f u.a1,f u.a2,f u.a3])):RK P ops (⟨some d,.load t x,ty,pos,af,none⟩:: r) s K:=by
 have e:=yCb h
 have hl:off+4<=l.length:=by
  have:=congrArg List.length e
  simp only [List.length_take,List.length_drop,List.length_cons,List.length_nil] at this
  omega
 have h2:=zN9 (P:=P) (o:=⟨some d,.load t x,ty,pos,af,none⟩) T.ok rfl ht hp hx hb (by rw [hw,List.length_map];exact hl)
 rw [hw,<- List.map_drop,<- List.map_take,e] at h2
 exact RK.va rfl rfl h2 k
end
theorem sumC {α:Type} {c:Bool} {a b:Option α} {r:α} {P:Prop} (h:(bif c then a else b)=some r) (f:a=some r->P) (g:b=some r->P):P:=by
 cases c
 ·exact g h
 ·exact f h
theorem cG {k n:Nat} {v:AV} (hv:wV k n v=true):∀ {l:List AV} {i:Nat},wC k n l=true->wC k n (l.set i v)=true
 | [],_,_=>rfl
 | a :: l,0,h=>by
  simp only [wC,Bool.and_eq_true] at h
  simp only [List.set,wC,Bool.and_eq_true];exact ⟨hv,h.2⟩
 | a :: l,i+1,h=>by
  simp only [wC,Bool.and_eq_true] at h
  simp only [List.set,wC,Bool.and_eq_true];exact ⟨h.1,cG hv h.2⟩
theorem zGb {k n:Nat} {p:PV}:wC k n (AV.p p).cells=true:=by
 cases p<;>first | rfl | exact vQ _
theorem aC {l:List AV}:(AV.ag l).cells=l:=rfl
theorem zEc {k n:Nat}:∀ {l:List PV},wC k n (l.map zA)=true
 | []=>rfl
 | a :: l=>by
  simp only [List.map_cons,wC,Bool.and_eq_true];refine ⟨?_,zEc⟩;unfold zA;cases a.nilOf<;>rfl
section
variable {P:Program} {te:TE} {cx:Ctx} {s:AS} {α β I:Type} {r:β} {ks:List Nat} {q:Exit->AS->Prop} {env:List (Nat×AV)} {blk:List (Nat×ABlk)}
theorem cN {t k off:Nat} {ty:TypeId} {l:List AV} {i:TI} (H:(s.env t,s.blk k,te ty,i.isAgg,Nat.ble (off+i.w) l.length)=(some (.ptr k off),some (.var l),some i,true,true)):RV te s (.cell t ty) (.ag ((l.drop off).take i.w)):=
 have ⟨a,H⟩:=pq H;have ⟨b,H⟩:=pq H;have ⟨c,H⟩:=pq H;have ⟨d,e⟩:=pq H;.cellN t k off ty l i a b c d (Nat.le_of_ble_eq_true e)
theorem tM {t:Nat} {v:AV} (h:s.env t=some v):RV te s (.tmp t) v:=.tmp _ _ h
theorem Ez {f:I->Exit×AS} {j i:I} {e:Exit} (h:some j=some i) (p:PK cx ks) (H:(f j,gE s env,gB s id blk,(lL (lk blk) env&&ks.all (λk=>(lk blk k).isSome)),tA (lk blk) blk)=((e,mkS env blk),vE id env,vB id blk,true,true):=by exact R):OQ cx f i e s:=E h p H
theorem lY (p:PK cx ks) (H:(gE s env,gB s id blk,(lL (lk blk) env&&ks.all (λk=>(lk blk k).isSome)))=(vE id env,vB id blk,true):=by exact R) (h:tA (lk blk) blk=true:=by repeat' first | exact R | exact om | exact oE | refine cbo ?_ ?_ | refine cbb ?_ | refine cbv ?_ ?_):Imp cx.pk s (mkS env blk):=lpX p H h
theorem lZ (p:PK cx ks) (m:List (Nat×Nat))
  (he:gE s env=vE (AV.ren (rho m)) env:=by exact R) (hb:gB s (rho m) blk=vB (ABlk.ren (rho m)) blk:=by first | exact R | (simp only [gB,vB,bR,bV,ABlk.ren,zQq,jL];exact R))
  (h1:(lL (lk (bR (rho m) blk)) (rE (rho m) env)&&(ks.all (λk=>(lk (bR (rho m) blk) k).isSome) &&
   (((kR (rho m) blk).all λj=>(Nat.blt j BIG||Nat.ble BIG (rho (swp m) j))&&(kR (rho m) blk).all λj'=>!Nat.beq (rho (swp m) j) (rho (swp m) j')||Nat.beq j j')&&ks.all λk=>Nat.beq (rho (swp m) k) k)))=true:=by exact R)
  (h2:tA (lk (bR (rho m) blk)) (bR (rho m) blk)=true:=by first | exact R | (simp only [gB,vB,bR,bV,ABlk.ren,zQq,jL];repeat' first | exact R | exact om | exact oE | refine cbo ?_ ?_ | refine cbb ?_ | refine cbv ?_ ?_))
  (h3:rE (rho (swp m)) (rE (rho m) env)=env:=by exact R) (h4:bR (rho (swp m)) (bR (rho m) blk)=blk:=by first | exact R | (simp only [gB,vB,bR,bV,ABlk.ren,zQq,jL];exact R)):Imp cx.pk s (mkS env blk):=lr p m he hb h1 h2 h3 h4
theorem iW (i:Nat) {c:Code} [zIn s] (_:cid c=i) (env:List (Nat×AV)) (blk:List (Nat×ABlk)) (p:PK cx ks) (H:(gE s env,gB s id blk,(lL (lk blk) env&&ks.all (λk=>(lk blk k).isSome)))=(vE id env,vB id blk,true)) (k:Wp P cx c q (mkS env blk)) (h:tA (lk blk) blk=true:=by repeat' first | exact R | exact om | exact oE | refine cbo ?_ ?_ | refine cbb ?_ | refine cbv ?_ ?_):Wp P cx c q s:=⟨im (lpX p H h) k.1⟩
def nxR (P:Program) (cx:Ctx) (q:Exit->AS->Prop) (s:AS) (n:Nat):Code->Prop
 | .region _ ops false=>RK P ops ops.toList s λs' ms=>bC n ms=true/\q .normal s'
 | .region _ ops true=>RK P ops ops.toList s λs' ms=>bC n ms=true/\(qH ops ms&&zLp ops)=true/\q .normal s'
 | .seq x y=>Wp P cx x (zYc (Wp P cx y q) q) s
 | .block i c=>Wp P cx c (zIf i q) s
 | .skip=>q .normal s
 | .exit i=>q (.exit i) s
 | .ret=>q .ret s
 | _=>False
def isT:Code->Bool
 | .seq _ _ | .block _ _ | .skip | .exit _ | .ret | .region _ _ _=>true
 | _=>false
class Mx (P:Program):Prop where
 x:P.follows .mixedOrders=true
theorem ZA {c:Code} {n:Nat} (hnt:cx.nt=n) (hm:P.follows .mixedOrders=true) (h:isT c=true) (k:nxR P cx q s n c):Wp P cx c q s:=by
 cases c<;>first | cases h | skip
 all_goals first
  | exact Z1 rfl k
  | skip
 rename_i b
 cases b
 ·exact G1 hnt k
 ·exact Y1 hnt hm k
theorem ZB [M:Mx P] {c:Code} {n:Nat} (h:isT c=true) (k:nxR P cx q s n c) (hnt:cx.nt=n:=by exact n):Wp P cx c q s:=ZA hnt M.x h k
theorem rA [T:pK P] {fn:Func} {rv1 rv2:ResultVar} {v1 v2 v:AV} {l:List AV} {p:PV} {bs:List (Nat×ABlk)} (H:fn.results=#[rv1,rv2]) (a:RV T.te s rv1 v1) (b:RV T.te s rv2 v2)
  (h:(({ env:=lk [(0,.tu [v1,v2])],blk:=s.blk }:AS).env 0,l[0]?,({ env:=lk [(0,.tu [v1,v2])],blk:=s.blk }:AS).rd v)=(some (.tu l),some v,some (p,bs)))
  (H2:(gE ((({ env:=lk [(0,.tu [v1,v2])],blk:=s.blk }:AS)).put 0 (.tu (l.set 0 (.p p)))) env,gB ((({ env:=lk [(0,.tu [v1,v2])],blk:=s.blk }:AS)).put 0 (.tu (l.set 0 (.p p)))) id blk,(lL (lk blk) env&&ks.all (λk=>(lk blk k).isSome)),tA (lk blk) blk)=(vE id env,vB id blk,true,true)) :
  ∀ cx:Ctx,PK cx ks->kL P fn cx s (mkS env blk):=λ_ p=>have ⟨c,h⟩:=pq h;have ⟨d,e⟩:=pq h;mZ T.ok H a b (tI (Imp.pureT (t:=0) 0 c d e) (lP p H2))
end
section
variable {O:GO} {s:AS} {ρ:Nat->Nat} {D:List Nat} {v v1 v2 v3 v4:AV} {q q1 q2 q3 q4:PV} {b b1 b2 b3 b4 bs:List (Nat×ABlk)} {vs us:List AV} {j j1 j2 k o:Nat}
theorem g4 (H:(s.rd v1,s.rd v2,s.rd v3,s.rd v4)=(some (q1,b1),some (q2,b2),some (q3,b3),some (q4,b4))) (k:GVs O s ρ D vs us bs):GVs O s ρ D (v1 :: v2 :: v3 :: v4 :: vs) (.p q1 :: .p q2 :: .p q3 :: .p q4 :: us) (b1++(b2++(b3++(b4++bs)))):=
 have ⟨a,H⟩:=pq H;have ⟨b,H⟩:=pq H;have ⟨c,d⟩:=pq H;glp a (glp b (glp c (glp d k)))
end
section
variable {P:Program} [T:pK P] {ops:Array Oper} {s:AS} {r:List Oper} {K:AS->List Mic->Prop} {d:Nat} {ty:TypeId} {pos:String} {af:Array Edge}
theorem RK.cA {p:Prop} {f:FuncId} {xs:Array Operand} {ts:Array TypeId} {xl:List Operand} {tl:List TypeId} {ps:List PV} {rs:List (Nat×AV)} {bb:List (Nat×ABlk)} {na:Nat} {av:AV} {blks:List (Nat×ABlk)} (c:p->Ok P f na (mkS (argE 0 ps) []) (mkS [(0,av)] blks)) (hx:(xs.toList,ts.toList)=(xl,tl)) (ha:lH s T.te xl tl ps rs bb) (hn:(Nat.beq na ps.length,(kR (sh d) blks).all (λk=>(s.blk k).isNone))=(true,true))
  (k:RK P ops r (Mic.upd ⟨rs,bb,kR (sh d) blks,some (d,some (av.ren (sh d))),bR (sh d) blks⟩ s) λs' ms=>K s' (⟨rs,bb,kR (sh d) blks,some (d,some (av.ren (sh d))),bR (sh d) blks⟩:: ms)) (hp:p:=by exact a):RK P ops (⟨some d,.call ⟨.value (.func f),xs,ts⟩,ty,pos,af,none⟩:: r) s K:=RK.cl (c hp) hx ha hn k
end
def stZ (te:TE) (s:AS):Oper->Option (AS×Mic)
 | ⟨some d,.alloc t,_,_,_,none⟩ =>match te t,s.blk d with
  | some i,none=>some ((s.setb d (.var (i.z.map zA))).put d (.ptr d 0),⟨[],[],[d],some (d,some (.ptr d 0)),[(d,.var (i.z.map zA))]⟩)
  | _,_=>none
 | ⟨some d,.box t x,_,_,_,none⟩ =>match s.get te t x,s.blk d with
  | some v,none=>some ((s.setb d (.var v.cells)).put d (.ptr d 0),⟨opS x v,[],[d],some (d,some (.ptr d 0)),[(d,.var v.cells)]⟩)
  | _,_=>none
 | ⟨none,.store t ax x,_,_,_,none⟩ =>match te t,s.get te 0 ax,s.get te t x with
  | some i,some (.ptr k0 off),some v=>match s.blk k0 with
   | some (.var l)=>bif Nat.beq off 0&&(Nat.beq v.cells.length i.w&&(Nat.beq i.w l.length&&v.cells.all AV.one)) then some (s.setb k0 (.var v.cells),⟨opS ax (.ptr k0 off)++opS x v,[(k0,.var l)],[],none,[(k0,.var v.cells)]⟩)
    else bif Nat.beq v.cells.length i.w&&(Nat.ble (off+i.w) l.length&&v.cells.all AV.one) then some (s.setb k0 (.var (uS l off v.cells)),⟨opS ax (.ptr k0 off)++opS x v,[(k0,.var l)],[],none,[(k0,.var (uS l off v.cells))]⟩) else none
   | _=>none
  | _,_,_=>none
 | ⟨some d,op,ty,_,_,none⟩ =>match ev1 te s ty op with
  | some (v,rs,bs)=>some (s.put d v,⟨rs,bs,[],some (d,some v),[]⟩)
  | none=>none
 | _=>none
section
variable {P:Program} [T:pK P] {ops:Array Oper} {s:AS} {r:List Oper} {K:AS->List Mic->Prop}
theorem bif2 {α:Type} {c d:Bool} {x y z:α} (h:(bif c then some x else bif d then some y else none)=some z):(c=true/\x=z)∨(d=true/\y=z):=by cases c<;>cases d<;>simp_all
theorem RK.z {o:Oper} {s':AS} {m:Mic} (h:stZ T.te s o=some (s',m)) (k:RK P ops r s' λs2 ms=>K s2 (m :: ms)):RK P ops (o :: r) s K:=by
 unfold stZ at h
 split at h
 ·split at h
  ·rename_i h1 h2
   cases h
   exact RK.al (by rw [h1,h2]) k
  ·cases h
 ·split at h
  ·rename_i h1 h2
   cases h
   exact RK.bx (by rw [h1,h2]) k
  ·cases h
 ·split at h
  ·rename_i h1 h2 h3
   split at h
   ·rename_i h4
    rcases bif2 h with ⟨e,q⟩ | ⟨e,q⟩<;>cases q<;>simp only [Bool.and_eq_true] at e
    ·obtain ⟨e0,e1,e2,e3⟩:=e
     have e0:=Nat.eq_of_beq_eq_true e0
     subst e0
     exact RK.stW (by rw [h1,h2,h3,h4,e1,e2,e3]) k
    ·obtain ⟨e1,e2,e3⟩:=e
     exact RK.sto (by rw [h1,h2,h3,h4,e1,e2,e3]) k
   ·cases h
  ·cases h
 ·split at h
  ·rename_i h1
   cases h
   exact RK.ev h1 k
  ·cases h
 ·cases h
def yG6 (te:TE):Nat->AS->List Oper->Option (AS×List Mic×List Oper)
 | 0,s,l=>some (s,[],l)
 | n+1,s,o :: r=>match stZ te s o with
  | some (s',m)=>match yG6 te n s' r with
   | some (a,b,c)=>some (a,m :: b,c)
   | none=>none
  | none=>none
 | _+1,_,[]=>none
theorem RK.zn (n:Nat):∀ {l:List Oper} {s s':AS} {ms:List Mic} {q:List Oper} {K:AS->List Mic->Prop},yG6 T.te n s l=some (s',ms,q)->(RK P ops q s' λs2 b=>K s2 (ms++b))->RK P ops l s K:=by
 induction n with
 | zero=>intro l s s' ms q K h k;simp only [yG6,Option.some.injEq,Prod.mk.injEq] at h;obtain ⟨rfl,rfl,rfl⟩:=h;exact k
 | succ n ih=>
  intro l s s' ms q K h k
  cases l with
  | nil=>cases h
  | cons o r=>
   simp only [yG6] at h
   split at h
   ·rename_i s1 m h1
    split at h
    ·rename_i a b c h2
     cases h
     exact RK.z h1 (ih h2 k)
    ·cases h
   ·cases h
end
end Go.Sw
