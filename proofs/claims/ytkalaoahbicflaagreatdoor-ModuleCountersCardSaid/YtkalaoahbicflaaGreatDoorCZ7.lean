/- A part. -/
import Derived.Test.YtkalaoahbicflaaGreatDoorCZ6
set_option linter.all false
set_option linter.all false
namespace Go.Sw
open Go
variable {P:Program}{body c:Code}{cx:Ctx}{dx:LV}{dy:LB}{ex:LV}{ey:LB}{f:FuncId}{ks:List Nat}{n:Nat}{ps:List PV}{s:AS}{x:LV}{y:LB}{α β:Type}{m:Option α}{o:α->AV×LB}{r:β}
class Ct (P:Program) {α:Type} (m:Option α) (f:outParam FuncId) (ps:outParam (List PV)) (o:outParam (α->AV×LB)):Prop where
 k:∀ x,m=some x->Ok P f ps.length (mkS (argE 0 ps) []) (mkS [(0,(o x).1)] (o x).2)
section
def uC [c:Ct P m f ps o] {x:α} (h:m=some x):Ok P f ps.length (mkS (argE 0 ps) []) (mkS [(0,(o x).1)] (o x).2):=c.k x h
section
variable [T:pK P] {ops:Array Oper} {l:List Oper} {K:AS->List Mic->Prop} {d:Nat} {ty:TypeId} {pos:String} {af:Array Edge}
def RK.cc {kk:α->Option β} {xs:Array Operand} {ts:Array TypeId} {xl:List Operand} {tl:List TypeId} {rs:LV} {bb:LB} (h:m.bind kk=some r) [c:Ct P m f ps o] (hx:(xs.toList,ts.toList)=(xl,tl)) (ha:lH s T.te xl tl ps rs bb)
  (k:∀ x,m=some x->kk x=some r->RK P ops l (Mic.upd ⟨rs,bb,kR (sh d) (o x).2,some (d,some ((o x).1.ren (sh d))),bR (sh d) (o x).2⟩ s) λs' ms=>K s' (⟨rs,bb,kR (sh d) (o x).2,some (d,some ((o x).1.ren (sh d))),bR (sh d) (o x).2⟩:: ms))
  (hn:∀ x,((kR (sh d) (o x).2).all (λk=>(s.blk k).isNone))=true:=by exact λ_=>R):RK P ops (⟨some d,.call ⟨.value (.func f),xs,ts⟩,ty,pos,af,none⟩:: l) s K:=
 (bind_some h).elim λx h=>RK.cl (c.k x h.1) hx ha (Prod.ext_iff.2 ⟨Nat.beq_refl _,hn x⟩) (k x h.1 h.2)
end
def rnV:AV->AV->List (Nat×Nat)
 | .buf a _,.buf b _=>bif Nat.beq a b then [] else [(a,b)]
 | .ptr a _,.ptr b _=>bif Nat.beq a b then [] else [(a,b)]
 | .own a _,.own b _=>bif Nat.beq a b then [] else [(a,b)]
 | _,_=>[]
def rnE (s:AS):LV->List (Nat×Nat)
 | []=>[]
 | (t,v) :: l=>match s.env t with
  | some w=>rnV v w++rnE s l
  | none=>rnE s l
def lS {env:LV} {blk:LB} (p:PK cx ks)
  (H:(gE s env,gB s (rho (rnE s env)) blk,(lL (lk (bR (rho (rnE s env)) blk)) (rE (rho (rnE s env)) env)&&(ks.all (λk=>(lk (bR (rho (rnE s env)) blk) k).isSome) &&
   (((kR (rho (rnE s env)) blk).all λj=>(Nat.blt j BIG||Nat.ble BIG (rho (swp (rnE s env)) j))&&(kR (rho (rnE s env)) blk).all λj'=>!Nat.beq (rho (swp (rnE s env)) j) (rho (swp (rnE s env)) j')||Nat.beq j j')&&ks.all λk=>Nat.beq (rho (swp (rnE s env)) k) k))),
   tA (lk (bR (rho (rnE s env)) blk)) (bR (rho (rnE s env)) blk),rE (rho (swp (rnE s env))) (rE (rho (rnE s env)) env),bR (rho (swp (rnE s env))) (bR (rho (rnE s env)) blk))=(vE (AV.ren (rho (rnE s env))) env,vB (ABlk.ren (rho (rnE s env))) blk,true,true,env,blk)):Imp cx.pk s (mkS env blk):=lR p _ H
end
def gL (s:AS):List Nat->Option LV
 | []=>some []
 | t :: l=>match s.env t,gL s l with
  | some v,some r=>some ((t,v) :: r)
  | _,_=>none
def gM (s:AS):List Nat->Option LB
 | []=>some []
 | t :: l=>match s.blk t,gM s l with
  | some v,some r=>some ((t,v) :: r)
  | _,_=>none
theorem zYh:∀ {l:List Nat} {e:LV},gL s l=some e->gE s e=vE id e
 | [],_,h=>by cases h;rfl
 | t :: l,_,h=>by
  unfold gL at h;split at h<;>cases h;rename_i h1 h2;simp [gE,vE,zYh h2,h1]
theorem yAj:∀ {l:List Nat} {e:LB},gM s l=some e->gB s id e=vB id e
 | [],_,h=>by cases h;rfl
 | t :: l,_,h=>by
  unfold gM at h;split at h<;>cases h;rename_i h1 h2;simp [gB,vB,yAj h2,h1]
section
variable {q:Exit->AS->Prop} {k:α->Option β}
def hs {l b:List Nat} (H:(gL s l,gM s b)=(some x,some y)):Has s (x,y):=have ⟨a,c⟩:=pq H;Prod.ext_iff.2 ⟨zYh a,yAj c⟩
def iQ (i:Nat) [zIn s] (z:cid c=i) (l b:List Nat) (H:(gL s l,gM s b,(lL (lk y) x&&ks.all (λk=>(lk y k).isSome)),tA (lk y) y)=(some x,some y,true,true)) (k:Wp P cx c q (mkS x y)) (p:PK cx ks:=by exact p):Wp P cx c q s:=
 have ⟨a,H⟩:=pq H;have ⟨b,H⟩:=pq H;iZ i z x y p (Prod.ext_iff.2 ⟨zYh a,Prod.ext_iff.2 ⟨yAj b,H⟩⟩) k
def jr (i:Nat) {o:Array Oper} (h:m.bind k=some r) (l b:List Nat) (H:(gL s l,gM s b)=(some ex,some ey)) (F:α->EB) (x:∀ j,m=some j->RK P o o.toList s λs' ms=>bC n ms=true/\OQ cx (λj=>(.normal,mkE (F j) (ex,ey))) j .normal s') (y:∀ j,k j=some r->q .normal (mkE (F j) (ex,ey))) (hnt:cx.nt=n:=by exact n):Wp P cx (.region i o false) q s:=Jr i hnt h (ex,ey) (hs H) F x y
def jb (i:Nat) {m:Option Bool} {k:Bool->Option β} {o:Array Oper} (h:m.bind k=some r) (l b:List Nat) (H:(gL s l,gM s b)=(some ex,some ey)) (t:Nat) (x:∀ j,m=some j->RK P o o.toList s λs' ms=>bC n ms=true/\OQ cx (λj=>(.normal,mkE ([(t,.p (.bool j))],[]) (ex,ey))) j .normal s') (y:∀ j,k j=some r->q .normal (mkE ([(t,.p (.bool j))],[]) (ex,ey))) (hnt:cx.nt=n:=by exact n):Wp P cx (.region i o false) q s:=jr i h l b H (λj=>([(t,.p (.bool j))],[])) x y hnt
def jy [M:Mx P] (i:Nat) {o:Array Oper} (h:m.bind k=some r) (l b:List Nat) (H:(gL s l,gM s b)=(some ex,some ey)) (F:α->EB) (x:∀ j,m=some j->RK P o o.toList s λs' ms=>bC n ms=true/\(qH o ms&&zLp o)=true/\OQ cx (λj=>(.normal,mkE (F j) (ex,ey))) j .normal s') (y:∀ j,k j=some r->q .normal (mkE (F j) (ex,ey))) (hnt:cx.nt=n:=by exact n):Wp P cx (.region i o true) q s:=Jy i hnt M.x h (ex,ey) (hs H) F x y
def jq (i:Nat) (z:(cid c,isS c)=(i,true)) (h:m.bind k=some r) (l b:List Nat) (H:(gL s l,gM s b)=(some ex,some ey)) (F:α->EB) (x:∀ j,m=some j->nxt P cx (OQ cx (λj=>(.normal,mkE (F j) (ex,ey))) j) s c) (y:∀ j,k j=some r->q .normal (mkE (F j) (ex,ey))):Wp P cx c q s:=have ⟨a,z⟩:=pq z;Js i a z h (ex,ey) (hs H) F x y
variable {X:Type} {step:X->Option (X ⊕ α)} {x0:X}
def qi (i:Nat) (z:cid body=i) (h:(zP step n x0).bind k=some r) (l b:List Nat) (H:(gL s l,gM s b)=(some ex,some ey)) (w:Nat) (E:X->EB) (F:α->EB)
  (hb:∀ x r,step x=some r->Wp P cx body (OQ cx (LF (λx=>mkE (E x) (ex,ey)) λy=>(.exit w,mkE (F y) (ex,ey))) r) (mkE (E x) (ex,ey))) (y:∀ j,k j=some r->q (.exit w) (mkE (F j) (ex,ey))) (hi:Imp cx.pk s (mkE (E x0) (ex,ey)):=by exact lP p R):Wp P cx (.loop body) q s:=Qi i z h (ex,ey) (hs H) w E F hi hb y
def qj (i:Nat) (z:cid body=i) (h:(zP step n x0).bind k=some r) (l b:List Nat) (H:(gL s l,gM s b)=(some ex,some ey)) (l2 b2:List Nat) (H2:(gL s l2,gM s b2)=(some dx,some dy)) (w:Nat) (E:X->EB) (F:α->EB)
  (hb:∀ x r,step x=some r->Wp P cx body (OQ cx (LF (λx=>mkE (E x) (ex,ey)) λy=>(.exit w,mkE (F y) (dx,dy))) r) (mkE (E x) (ex,ey))) (y:∀ j,k j=some r->q (.exit w) (mkE (F j) (dx,dy))) (hi:Imp cx.pk s (mkE (E x0) (ex,ey)):=by exact lP p R):Wp P cx (.loop body) q s:=Qj i z h (ex,ey) (hs H) (dx,dy) (hs H2) w E F hi hb y
def ui (i:Nat) (z:cid body=i) (h:(zP step n x0).bind k=some r) (l b:List Nat) (H:(gL s l,gM s b)=(some ex,some ey)) (E:X->EB) (f:EB->α->Exit×AS)
  (hb:∀ x r,step x=some r->Wp P cx body (OQ cx (LF (λx=>mkE (E x) (ex,ey)) (f (ex,ey))) r) (mkE (E x) (ex,ey))) (y:∀ j,k j=some r->q (f (ex,ey) j).1 (f (ex,ey) j).2) (hi:Imp cx.pk s (mkE (E x0) (ex,ey)):=by exact lP p R) (hne:∀ y,(f (ex,ey) y).1≠.normal:=by first | (rintro (y | y) h<;>cases h) | (intro y h;cases h) | (rintro (y | y | y) h<;>cases h)):Wp P cx (.loop body) q s:=Ui i z h (ex,ey) (hs H) E f hi hne hb y
def uj (i:Nat) (z:cid body=i) (h:(zP step n x0).bind k=some r) (l b:List Nat) (H:(gL s l,gM s b)=(some ex,some ey)) (l2 b2:List Nat) (H2:(gL s l2,gM s b2)=(some dx,some dy)) (E:X->EB) (f:EB->α->Exit×AS)
  (hb:∀ x r,step x=some r->Wp P cx body (OQ cx (LF (λx=>mkE (E x) (ex,ey)) (f (dx,dy))) r) (mkE (E x) (ex,ey))) (y:∀ j,k j=some r->q (f (dx,dy) j).1 (f (dx,dy) j).2) (hi:Imp cx.pk s (mkE (E x0) (ex,ey)):=by exact lP p R) (hne:∀ y,(f (dx,dy) y).1≠.normal:=by first | (rintro (y | y) h<;>cases h) | (intro y h;cases h) | (rintro (y | y | y) h<;>cases h)):Wp P cx (.loop body) q s:=Uj i z h (ex,ey) (hs H) (dx,dy) (hs H2) E f hi hne hb y
end
def sF {A:Prop} (H:A:=by first|with_reducible exact N h|(refine Lu ?_;first|exact Ez h p|exact W h R .refl|exact W h R (lS p R))):A:=H
def sH {A B C:Prop} (k:B) (l:C) (H:B->C->A:=by intro k l;first|exact Cs h R k l|(refine Ru ?_;first|exact RK.gp h R k l|exact RK.pp h R k l)):A:=H k l
def sG {A B:Prop} (k:B) (H:B->A:=by intro k;first|with_reducible exact V h k|(refine Ru ?_;first|exact RK.z R k|exact RK.d R (by kernel_rfl) k|exact RK.e R k|exact RK.gl R k|exact RK.pk R k|exact RK.cc h R (by repeat' first|exact an|apply ac R R|apply ac R (rdB R)|apply ac R (rdM R)) k|exact RK.lnM R (rdM R) k|exact RK.lnM R R k|exact RK.lnS R R R k|exact RK.lnS R (rdB R) R k|exact RK.lnT R k|exact RK.ldN R k|exact RK.bl R (by repeat' first|exact pn|apply pc 0 R|apply pc 3 R|apply pc 4 R) R k|exact RK.bts R R k|exact RK.bts R (rdB R) k|exact RK.shl (by decide) R k|exact RK.shr (by decide) R k|(refine O h λv a h=>RK.ixM (by exact a) R (rdM R) R ?_;revert v;exact k)|(refine O h λv a h=>RK.ixM (by exact a) R R R ?_;revert v;exact k)|(refine O h λv a h=>RK.ixB (by exact a) R ?_;revert v;exact k)|(refine O h λv a h=>RK.apB (by exact a) R R R ?_;revert v;exact k)|(refine O h λv a h=>RK.apB (by exact a) R (rdB R) R ?_;revert v;exact k)|(refine O h λv a h=>RK.apNB (by exact a) R ?_;revert v;exact k)|(refine O h λv a h=>RK.ir (by exact a) R ?_;revert v;exact k)|(refine O h λv a h=>RK.slB (by exact a) R R R .none (.some _ _ _ R) .none (.inl R) R ?_;revert v;exact k)|(refine O h λv a h=>RK.slB (by exact a) R R R (.some _ _ _ R) .none .none (.inl R) R ?_;revert v;exact k)|exact RK.su R k)|exact ZB R k):A:=H k
def sD {A:Prop} (H:A:=by repeat' first|intro _ _ h|intro h|exact sF|refine sG ?_|refine sH ?_ ?_|fail):A:=H
def zT:List ResultVar->List AV->LV
 | .tmp t :: l,v :: vs=>(t,v) :: zT l vs
 | _,_=>[]
def rS (l:List ResultVar) (v:AV):LV:=match l with
 | [.tmp t]=>[(t,v)]
 | l=>match v with
  | .tu vs=>zT l vs
  | _=>[]
section
variable [T:pK P] {fn:Func} 
theorem hI (E:α->AS) (hf:P.funcs[f]? = some fn) (H:(fn.body,(fn.name == "runtime.NumGoroutine"),Nat.ble ps.length fn.ntmps)=(some body,false,true))
  (h:∀ x,∀ cx:Ctx,m=some x->cx.nt=fn.ntmps->PK cx []->Wp P cx body (OQ cx (λj=>(.ret,E j)) x) (mkS (argE 0 ps) []):=by intro x cx h n p;exact sD)
  (hr:∀ x,∀ cx:Ctx,PK cx []->kL P fn cx (E x) (mkS [(0,(o x).1)] (o x).2):=by intro x cx p;first|exact rA R (cN R) (tM R) R R cx p|exact uM pK.ok R (cN R) (tI (pU 0 R) (lP p R))|exact rA R (cN R) (cN R) R R cx p|exact mZ pK.ok R (cN R) (tM R) (lP p R)|exact uM pK.ok R (cN R) (lP p R)|exact eQ pK.ok R (cN R) (tM R) (tM R) (tI (Imp.pureT (t:=0) 0 R R R) (lP p R))):Ct P m f ps o:=
 ⟨λx a=>hW E x hf H (hr x) λcx n p=>h x cx a n p⟩
theorem hJ (hf:P.funcs[f]? = some fn) (H:(fn.body,(fn.name == "runtime.NumGoroutine"),Nat.ble ps.length fn.ntmps)=(some body,false,true))
  (h:∀ x,∀ cx:Ctx,m=some x->cx.nt=fn.ntmps->PK cx []->Wp P cx body (OQ cx (λj=>(.ret,mkS (rS fn.results.toList (o j).1) (o j).2)) x) (mkS (argE 0 ps) []):=by intro x cx h n p;exact sD)
  (hr:∀ x,∀ cx:Ctx,PK cx []->kL P fn cx (mkS (rS fn.results.toList (o x).1) (o x).2) (mkS [(0,(o x).1)] (o x).2):=by intro x cx p;first|exact r1 R cx p|exact mZ pK.ok R (tM R) (tM R) .refl|exact eQ pK.ok R (tM R) (tM R) (tM R) .refl|exact yBb pK.ok R (tM R) (tM R) (tM R) (tM R) (tM R) .refl):Ct P m f ps o:=
 ⟨λx a=>hW _ x hf H (hr x) λcx n p=>h x cx a n p⟩
end
end Go.Sw
