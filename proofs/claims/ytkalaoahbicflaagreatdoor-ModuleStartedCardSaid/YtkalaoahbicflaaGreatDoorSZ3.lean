/- ModuleStarted holds for all inputs -/
import Derived.Test.YtkalaoahbicflaaGreatDoorSZ2
import Derived.Laws.StructEq
import Derived.ChangeKeysEq
import Derived.Lib.Bytealg
import Derived.Defers
set_option linter.all false
open Nat renaming le_of_ble_eq_true -> Q0, eq_of_beq_eq_true -> Q2, beq -> Q5, mul_le_mul_right -> Q7, blt -> Q9, le_refl -> Qa, eq_of_mul_eq_mul_right -> Qb, zero_add -> Qf, add_mul -> Qg, le_mul_of_pos_right -> Qj, eq_zero_or_pos -> Qo, mul_pos -> Qt, le_trans -> Qv, ble -> Qw, add_zero -> W1, mul_comm -> W4, zero_le -> W6, div_lt_of_lt_mul -> W8, div_add_mod -> Wd
open Array renaming getD_eq_getD_getElem? -> Q1, size_append -> Ql, length_toList -> Qr
open Option renaming map_eq_some_iff -> Q3, isSome_iff_exists -> Qm, getD_some -> W3, map_some -> We
open Bool renaming and_eq_true -> Q4, eq_false_iff -> Qp
open List renaming mem_cons -> Q6, eq_nil_of_length_eq_zero -> Q8, size_toArray -> Qc, all_eq_true -> Qd, map_cons -> Qe, getElem_of_mem -> Qs, mem_map -> Qu, length_append -> Qz, getElem_mem -> W2, length_map -> W5, mem_filter -> Wa, range -> Wb, length_nil -> Wc, replicate -> Wf, map_nil -> Wi
open Go.Sw.PV renaming len -> Qh, src -> Qn, isSlice -> W0, width -> W7, one -> W9
open Go.Builtin renaming zeroCells -> Qi, len_ -> Wj
open Go.World renaming cell? -> Qk
open Go.Sw.Mic renaming ws -> Qq
open Go.Instr renaming sureAddr -> Qx, sliceAt -> Wg, storeAt -> Wh
open Go.Oper renaming wp -> Qy
namespace Go.Sw
open Go
variable {A:Nat}{B:NB}{D:List Nat}{E F:Nat}{G I:TI}{J:TypeId}{K:AS->List Mic->Prop}{L:TypeId}{M:Mem}{N:Nat}{P:Program}{Q:Exit->AS->Prop}{S:List AV}{U:TypeId}{V:AV}{W Y:TypeId}{a:Act}{a0 a1:Int}{af:Array Edge}{av:AV}{ax:Operand}{b:LB}{b0 b1:Int}{bb blk blk' blks bs by':LB}{c:PV}{cap:Nat}{cs:List PV}{cx:Ctx}{d:Nat}{dd:TypeDesc}{e e2:TypeId}{ei:TI}{env env':LV}{f:FuncId}{fn:Func}{h:Type}{i:TI}{j:Nat}{k0 kc kl:IntKind}{ks:List Nat}{l l':By}{m n na off:Nat}{ops:Array Oper}{p:PV}{pk:PKs}{pl:List (Nat×Operand)}{pos:String}{ps:List PV}{q rr:PV}{rs:LV}{s s':AS}{t t' ta:TypeId}{te:TE}{tip:Nat->Value}{tl ts:List TypeId}{tx ty:TypeId}{u v:AV}{vs:List AV}{vx vy:AV}{w:World}{w0 wd:Nat}{x:Operand}{xl xs:List Operand}{y:Operand}{α:Type}{κ:Nat->Option Nat}{ρ:Nat->Nat}
def gE (s:AS):LV->List (Option AV)
 | []=>[]
 | (t,_) :: r=>s.env t :: gE s r
def vE (ρ:AV->AV):LV->List (Option AV)
 | []=>[]
 | (_,v) :: r=>some (ρ v) :: vE ρ r
def gB (s:AS) (ρ:Nat->Nat):LB->List (Option zN)
 | []=>[]
 | (t,_) :: r=>s.blk (ρ t) :: gB s ρ r
def vB (ρ:zN->zN):LB->List (Option zN)
 | []=>[]
 | (_,v) :: r=>some (ρ v) :: vB ρ r
def rE (ρ:Nat->Nat):LV->LV
 | []=>[]
 | (t,v) :: r=>(t,v.ren ρ) :: rE ρ r
theorem zSl (s:AS):∀ l,gE s l=l.map λe=>s.env e.1
 | []=>rfl
 | (_,_) :: r=>by simp [gE,zSl s r]
theorem zQk (d:AV->AV):∀ l,vE d l=l.map λe=>some (d e.2)
 | []=>rfl
 | (_,_) :: r=>by simp [vE,zQk d r]
theorem zQw (s:AS) (h:Nat->Nat):∀ l,gB s h l=l.map λe=>s.blk (h e.1)
 | []=>rfl
 | (_,_) :: r=>by simp [gB,zQw s h r]
theorem zRa (d:zN->zN):∀ l,vB d l=l.map λe=>some (d e.2)
 | []=>rfl
 | (_,_) :: r=>by simp [vB,zRa d r]
theorem zW7 (h:Nat->Nat):∀ l,rE h l=l.map λe=>(e.1,e.2.ren h)
 | []=>rfl
 | (_,_) :: r=>by simp [rE,zW7 h r]
def swp:List (Nat×Nat)->List (Nat×Nat)
 | []=>[]
 | (a,b) :: r=>(b,a) :: swp r
theorem zRd:∀ (env:LV),env.map (λe=>s.env e.1)=env.map (λe=>some e.2)->zOr s env
 | [],_=>trivial
 | (t,v) :: r,h=>by
  simp only [Qe,List.cons.injEq] at h;exact ⟨h.1,zRd r h.2⟩
theorem zQ9:∀ (blk:LB),blk.map (λe=>s.blk e.1)=blk.map (λe=>some e.2)->zPn s blk
 | [],_=>trivial
 | (t,v) :: r,h=>by
  simp only [Qe,List.cons.injEq] at h;exact ⟨h.1,zQ9 r h.2⟩
theorem lp (y:PK cx ks) (D:gE s env=vE id env) (A:gB s id blk=vB id blk) (v:(nO (lk blk) env&&ks.all (λk=>(lk blk k).isSome))=true) (E:uF (lk blk) blk=true):Imp cx.pk s (mkS env blk):=by
 simp only [Q4] at v;rw [zSl,zQk] at D;rw [zQw,zRa] at A;exact Imp.lep (Lep.mk' y (zRd _ D) (zQ9 _ A) v.1 E v.2)
theorem cbv {k:Nat} {l:List AV} {r:LB} (h:oW B l=true) (v:uF B r=true):uF B ((k,.var l) :: r)=true:=by simp [uF,h,v]
theorem cbb {k:Nat} {r:LB} (h:uF B r=true):uF B ((k,.buf c) :: r)=true:=by assumption
theorem om {d:Type} {f:d->PV} {l:List d}:oW B (l.map λx=>AV.p (f x))=true:=zDz f l
theorem lr (d:PK cx ks) (m:List (Nat×Nat)) 
  (K:gE s env=vE (AV.ren (rho m)) env) (F:gB s (rho m) blk=vB (zN.ren (rho m)) blk)
  (G:(nO (lk (bR (rho m) blk)) (rE (rho m) env)&&(ks.all (λk=>(lk (bR (rho m) blk) k).isSome) &&
   (((kR (rho m) blk).all λj=>(Q9 j BIG||Qw BIG (rho (swp m) j))&&(kR (rho m) blk).all λN=>!Nat.beq (rho (swp m) j) (rho (swp m) N)||Q5 j N)&&ks.all λk=>Q5 (rho (swp m) k) k)))=true)
  (V:uF (lk (bR (rho m) blk)) (bR (rho m) blk)=true)
  (U:rE (rho (swp m)) (rE (rho m) env)=env) (T:bR (rho (swp m)) (bR (rho m) blk)=blk):Imp cx.pk s (mkS env blk):=by
 simp only [Q4] at G;obtain ⟨W,D,I,E⟩:=G;rw [zSl,zQk] at K;rw [zQw,zRa] at F;have S:=lp d (s:=s) (env:=rE (rho m) env) (blk:=bR (rho m) blk) (by rw [zSl,zQk,zW7];simpa using K) (by rw [zQw,zRa,zH7];simpa using F) (by simp_all) V;refine S.trans ?_;rw [zF8] at I;have J:=Imp.renK d (swp m) (env:=rE (rho m) env) (blks:=bR (rho m) blk) (by rw [zH7];simpa using I) (by
  rw [Qd] at E D ⊢;intro k L;simp only [Q4,List.any_eq_true];refine ⟨E k L,k,?_,by simp⟩;obtain ⟨b,y⟩:=Qm.1 (D k L);exact Qu.2 ⟨_,sY _ _ _ y,rfl⟩)
 rw [<- zW7,<- zH7,U,T] at J;exact J
theorem tV {f:h->PV}:∀ {l:List h},s.rdL (l.map λx=>AV.p (f x))=some (l.map f,[])
 | []=>by rfl
 | x :: r=>by simp [AS.rdL,AS.rd,tV]
theorem zMt {v:Type} {f:v->PV} (y:∀ a,(f a).cells=[f a]):∀ (l:List v),xJ (l.map f)=l.map f
 | []=>rfl
 | x :: r=>by simp [xJ,y,zMt y r]
theorem zBf (l:By):dA 1 (.bytes l) (l.map λx=>PV.int .u8 x.toNat):=.bytes l rfl
theorem zKf {f:h->PV} (v:∀ a,(f a).cells=[f a]) (l:List h):dA 1 (.sl 1 (l.map f)) (l.map f):=by
 have:=yIq l (λa=>by rw [v a];rfl);rwa [zMt v] at this
def rD (B:NB) (k:Nat):LB->Bool
 | []=>true
 | (i,.var l) :: r=>(Q5 i k||oW B l)&&rD B k r
 | (_,.buf _) :: r=>rD B k r
 | (_,.own _ l) :: r=>oW B l&&rD B k r
theorem cxv {k i:Nat} {l:List AV} {r:LB} (h:oW B l=true) (v:rD B k r=true):rD B k ((i,.var l) :: r)=true:=by simp [rD,h,v]
theorem cxk {k:Nat} {l:List AV} {r:LB} (h:rD B k r=true):rD B k ((k,.var l) :: r)=true:=by simp [rD,h]
theorem cxb {k i:Nat} {r:LB} (k':rD B k r=true):rD B k ((i,.buf c) :: r)=true:=by simp [rD,k']
theorem rD.mem {k:Nat}:∀ {l:LB},rD B k l=true->∀ {t v},t≠k->(t,.var v)∈l->oW B v=true
 | (i,.var u) :: _,h,t,v,d,y=>by
  simp only [rD,Q4] at h;rcases Q6.1 y with e | y
  ·simp_all
  ·exact rD.mem h.2 d y
 | (i,.buf u) :: _,h,t,v,d,y=>by
  simp only [rD] at h;rcases Q6.1 y with e | y
  ·cases e
  ·exact rD.mem h d y
 | (i,.own w u) :: _,h,t,v,d,y=>by
  simp only [rD,Q4] at h;rcases Q6.1 y with e | y
  ·cases e
  ·exact rD.mem h.2 d y
theorem rD.memO {k:Nat}:∀ {l:LB},rD B k l=true->∀ {t w v},(t,.own w v)∈l->oW B v=true
 | (i,.var u) :: _,h,t,w,v,d=>by
  simp only [rD,Q4] at h;rcases Q6.1 d with e | d
  ·cases e
  ·exact rD.memO h.2 d
 | (i,.buf u) :: _,h,t,w,v,d=>by
  simp only [rD] at h;rcases Q6.1 d with e | d
  ·cases e
  ·exact rD.memO h d
 | (i,.own w0 u) :: _,h,t,w,v,d=>by
  simp only [rD,Q4] at h;rcases Q6.1 d with e | d
  ·simp_all
  ·exact rD.memO h.2 d
theorem cbo {i w:Nat} {l:List AV} {r:LB} (h:oW B l=true) (y:uF B r=true):uF B ((i,.own w l) :: r)=true:=by simp [uF,h,y]
def zKt (B:NB) (t:Nat):LV->Bool
 | []=>true
 | (u,v) :: r=>(Q5 u t||v.oks B)&&zKt B t r
theorem zKt.mem {t:Nat}:∀ {l:LV},zKt B t l=true->∀ {u v},u≠t->(u,v)∈l->v.oks B=true
 | (i,x) :: _,h,u,v,y,A=>by
  simp only [zKt,Q4] at h;rcases Q6.1 A with e | A
  ·simp_all
  ·exact zKt.mem h.2 y A
section
theorem fzE (E:PK cx ks) (t:Nat) {k:Nat} {l:List AV} (he:lk env t=some (.ref k 0 n)) (N:lk blk k=some (.var l)) (D:(mkS env blk).rdL l=some (cs,bs)) (hc:dA w0 c cs) (I:c.len=n) (L:Q9 0 w0=true) (be:n<=140737488355328)
  (G:(ks.all (λj=>!Nat.beq j k)&&zKt (tP (lk blk) k) t env)=true) (K:rD (tP (lk blk) k) k blk=true):Imp cx.pk (mkS env blk) (((mkS env blk).setb k (.buf c)).put t (.buf k n)):=by
 simp only [Q4] at G;refine Imp.freeze he N D hc I (by simp_all) (by simp only [maxLen];omega) (λe F Z=>?_) (λu v hu h=>zKt.mem G.2 hu (sY _ u v h)) (λi U Y h=>rD.mem K Y (sY _ i _ h)) (λi w U h=>rD.memO K (sY _ i _ h));have:=(Qd.1 G.1) _ (E e F);simp_all
theorem fzC (J:PK cx ks) (A K:Nat) {k:Nat} {I l:List AV} (he:lk blk A=some (.var I)) (U:I[K]? = some (.ref k 0 n)) (hb:lk blk k=some (.var l)) (W:(mkS env blk).rdL l=some (cs,bs)) (hc:dA w0 c cs) (V:c.len=n) (hw:Q9 0 w0=true) (bh:n<=140737488355328)
  (G:(ks.all (λj=>!Nat.beq j k)&&(!Nat.beq A k&&(nO (tP (lk blk) k) env&&oW (tP (lk blk) k) (I.set K (.p .nilp)))))=true) (h2:rD (tP (lk blk) k) k (blk.filter λe=>!Nat.beq e.1 A)=true):Imp cx.pk (mkS env blk) (((mkS env blk).setb k (.buf c)).setb A (.var (I.set K (.buf k n)))):=by
 simp only [Q4] at G;refine Imp.freezeC (w0:=w0) he U (λe=>by have:=G.2.1;simp [e] at this) hb W hc V (by simp_all) (by simp only [maxLen];omega) (λe L hk=>?_) (λu v h=>nO.mem G.2.2.1 (sY env u v h)) (λi Y hi S h=>rD.mem h2 hi (Wa.2 ⟨sY blk i _ h,?_⟩)) G.2.2.2 (λi w Y h=>rD.memO h2 (Wa.2 ⟨sY blk i _ h,?_⟩))
 ·have:=(Qd.1 G.1) e.1 (J e L);simp [hk] at this
 ·have:Q5 i A=false:=by rw [Qp];simp_all
  simp [this]
 ·have T:i≠A:=by rintro rfl;have h':lk blk i=some (.own w Y):=h;rw [he] at h';cases h'
  have:Q5 i A=false:=by rw [Qp];simp_all
  simp [this]
theorem zPo (y:PK cx ks) (t:Nat) (u:By) {k:Nat} {l:List AV} (A:u.length=n) (N:lk env t=some (.ref k 0 n)) (G:lk blk k=some (.var l)) (E:(mkS env blk).rdL l=some (cs,bs)) (S:dA 1 (.bytes u) cs) (v:n<=140737488355328)
  (J:(ks.all (λj=>!Nat.beq j k)&&zKt (tP (lk blk) k) t env)=true) (T:rD (tP (lk blk) k) k blk=true):Imp cx.pk (mkS env blk) (((mkS env blk).setb k (.buf (.bytes u))).put t (.buf k u.length)):=by
 subst A;exact fzE y t N G E S rfl rfl v J T
theorem yH7 (D:PK cx ks) (t:Nat) {F:Type} (f:F->PV) (u:List F) {k:Nat} {l:List AV} (A:u.length=n) (S:lk env t=some (.ref k 0 n)) (W:lk blk k=some (.var l)) (E:(mkS env blk).rdL l=some (cs,bs)) (T:dA 1 (.sl 1 (u.map f)) cs) (y:n<=140737488355328)
  (I:(ks.all (λj=>!Nat.beq j k)&&zKt (tP (lk blk) k) t env)=true) (U:rD (tP (lk blk) k) k blk=true):Imp cx.pk (mkS env blk) (((mkS env blk).setb k (.buf (.sl 1 (u.map f)))).put t (.buf k u.length)):=by
 subst A;exact fzE D t S W E T (by simp [Qh]) rfl y I U
theorem yH8 (I:PK cx ks) (h E:Nat) (u:By) {k:Nat} {D l:List AV} (K:u.length=n) (W:lk blk h=some (.var D)) (J:D[E]? = some (.ref k 0 n)) (Z:lk blk k=some (.var l)) (L:(mkS env blk).rdL l=some (cs,bs)) (V:dA 1 (.bytes u) cs) (F:n<=140737488355328)
  (T:(ks.all (λj=>!Nat.beq j k)&&(!Nat.beq h k&&(nO (tP (lk blk) k) env&&oW (tP (lk blk) k) (D.set E (.p .nilp)))))=true) (Y:rD (tP (lk blk) k) k (blk.filter λe=>!Nat.beq e.1 h)=true):Imp cx.pk (mkS env blk) (((mkS env blk).setb k (.buf (.bytes u))).setb h (.var (D.set E (.buf k u.length)))):=by
 subst K;exact fzC I h E W J Z L V rfl rfl F T Y
theorem fzCM (G:PK cx ks) (y D:Nat) {N:Type} (f:N->PV) (u:List N) {k:Nat} {E l:List AV} (J:u.length=n) (Y:lk blk y=some (.var E)) (K:E[D]? = some (.ref k 0 n)) (hb:lk blk k=some (.var l)) (L:(mkS env blk).rdL l=some (cs,bs)) (hc:dA 1 (.sl 1 (u.map f)) cs) (I:n<=140737488355328)
  (U:(ks.all (λj=>!Nat.beq j k)&&(!Nat.beq y k&&(nO (tP (lk blk) k) env&&oW (tP (lk blk) k) (E.set D (.p .nilp)))))=true) (Z:rD (tP (lk blk) k) k (blk.filter λe=>!Nat.beq e.1 y)=true):Imp cx.pk (mkS env blk) (((mkS env blk).setb k (.buf (.sl 1 (u.map f)))).setb y (.var (E.set D (.buf k u.length)))):=by
 subst J;exact fzC G y D Y K hb L hc (by simp [Qh]) rfl I U Z
end
section
variable {o:Oper} 
theorem va_sliceC (D:yO P te) {l:List PV} {L:PV} (ho:o.op=.slice t x none none none) (ht:(te t).map (·.ty)=some (.arr n e)) (he:(te e).map (·.w)=some 1) (T:s.get te t x=some (.p (.cptr (.agg l)))) (Z:l.length=n) (U:0<n) (V:dA 1 L l) (E:L.len=n):VA P o s (opS x (.p (.cptr (.agg l)))) [] (.p L):=by
 refine ⟨?_,zP T,by simp⟩;intro cx M κ tip s' a w hi hr _;have S:=repA_pv (yB hi (yI T s' hr));generalize F:a.eval x=z at S;cases S with
 | cptr _ b off g1 g2=>
 obtain ⟨c1,c2,c3,c4⟩:=V.cells (M:=M) (λj q Y=>g2 j q Y);obtain ⟨ei,I,bj⟩:=Q3.1 he;have hu:=zEt D ht;refine ⟨.slice (some ⟨b,off,none⟩) n n,?_,.p _ _ ?_⟩
 ·have W:¬ n=0:=by omega
  simp [execOp,ho,F,Wg,Qx,Instr.sliceBounds,run_underlying hu,vK D I,Addr.add]
 ·have:=wH (M:=M) (M':=M) (b:=b) (o:=off) (cap:=n) c1 c2 (Mem.le_refl M) (λj N=>?_) (by omega)
  ·rwa [E] at this
  ·rw [c3,Nat.mul_one,E,<- Z] at N;have:=g1 j l[j] (by simp [PV.cells,N]);obtain ⟨u,K⟩:=Qm.1 this;simp [oS,K]
end
section
variable {o:Oper} 
theorem yE4 (T:Inv cx M κ tip s' a w) {L:Nat} (hy:s'.get te t' y=some (.ref L 0 n)) (N:s'.blk L=some (.var S)) (hp:s'.rdL S=some (cs,bs)) (D:dA E p cs) (F:p.len=n) (Y:c.app p=some rr) (K:c.width=E) (bm:0<E) :
  ∃ v g,Src P w c.width p.src.len (a.eval y) v/\rV M p.src g/\∀ j,j<p.src.len*c.width->v[j]? = some (g j):=by
 have Z:=yB T hy;obtain ⟨b,A,e,fz,q1,q2,q3,q4,q5,q6,q7⟩:=T.vars L S N;obtain ⟨r1,r2⟩:=aK hp q5;obtain ⟨c1,c2,c3,c4⟩:=D.cells r2;generalize bl:a.eval y=z at Z;cases Z with
 | ref _ _ _ b' l' W g2=>
 rw [q1] at W;cases W;have I:p.src=p:=by cases p<;>simp [W0] at c2<;>rfl
 have h:A.size=n*E:=by simp_all
 rw [I,F,K];refine ⟨A.toList,λj=>A.getD j undef,⟨λw'=>by simp [Builtin.lenOf],λw' J=>?_,by simp [h]⟩,c1,λj U=>by
  simp_all⟩
 refine run_firstCells_some (P:=P) w' E n ⟨b,0,none⟩ n n _ (by simp [h]) ?_;intro j u hu;rw [add_off];refine J _ _ ?_;simp only [Qk,q2,Qf];simpa using hu
theorem sa_appR {o:Oper} {k2:Nat} {l2:List AV} {E:TI} {k:Nat} (hok:yO P te) (hd:o.dst=some d) (ho:o.op=.call { callee:=.builtin .append,args:=#[x,y],argTypes:=#[t,t'] })
  (ht:(te t).map (·.ty)=some (.slice e)) (he:te e=some E) (ht':P.underlying t'=some dd) (hdd:zAu dd) (hx:s.get te t x=some (.buf k c.len)) (hk:s.blk k=some (.buf c)) (J:c.width=E.w) (hw0:0<E.w) (hz:E.z.length=E.w) (hy:s.get te t' y=some (.ref k2 0 n)) (hk2:s.blk k2=some (.var l2)) (hp:s.rdL l2=some (cs,bs)) (hlit:dA E.w p cs) (hpn:p.len=n) (v:c.app p=some rr)
  (hel:bK p=true) (hb:(c.len+p.src.len)*E.b<=140737488355328) (hb1:0<E.b) :
  SA P o s ⟨opS x (.buf k c.len)++opS y (.ref k2 0 n),(k,.buf c) :: (k2,.var l2) :: bs,[],some (d,some (.buf k rr.len)),[(k,.buf rr)]⟩:=by
 refine ⟨?_,yL (zP hx) (zP hy),?_,by intro k hk';simp at hk'⟩
 ·intro cx s' a w K Q hm hs hws hk';obtain ⟨M,κ,tip,h0,hpk,hi⟩:=hs;have hbk:=hm.2.1 (k,.buf c) (by simp);simp only at hbk;have hx':=yB hi (yI hx s' (yG hm.1));obtain ⟨q1,q2,q3,q4,q5,q6,q7⟩:=zFd v;obtain ⟨b1,b2,b3,b4⟩:=hi.bufs k c hbk;have hevx:a.eval x=tip k:=by
   generalize a.eval x=zx at hx';cases hx' with
   | buf _ _ c' _ g1 g2 g3 g4 g5=>rw [hbk] at g1;cases g1;exact g5 rfl
  obtain ⟨G,g,n1,n2,n3⟩:=yE4 (P:=P) hi (yI hy s' (zX hm.1)) (hm.2.1 (k2,.var l2) (by simp)) (bT l2 cs bs hp (λe he=>hm.2.1 e (by simp [he]))) hlit hpn v J hw0;obtain ⟨info,z,i1,i2,i3,i4,i5⟩:=(hok e E he).info;have hu:=xB hok ht;have hlen:c.len+p.src.len<=140737488355328:=Qv (Qj _ hb1) hb;rw [J,<- i2] at n1;have hnl:G.length=p.src.len*E.w:=by rw [n1.nl,i2]
  have hrw:rr.width=E.w:=by omega
  have hzs:z.cells.size=E.w:=by rw [<- Qr,i5];simpa using hz
  have hone:∀ u∈G,u.oneCell'=true:=by
   rcases zQu v with hsl | ⟨l,rfl⟩
   ·have hps:p.src=p:=by cases p<;>simp [W0] at hsl<;>rfl
    rw [hps] at n2 n3 hnl q5;exact zEi hsl (by omega) hw0 n2 hnl (λj hj=>n3 j (by rw [J];exact hj)) hel
   ·exact zEi (p:=.bytes l) rfl (by have h5:(1:Nat)=c.width:=q5;show (1:Nat)=E.w;omega) hw0 n2 hnl (λj hj=>n3 j (by rw [J];exact hj)) rfl
  unfold Qy;rcases b4 with ⟨hnil,hκ⟩ | ⟨b,n,cap,arr,e1,fz,htip,hκ,hbase,hheap,hfree,hcap,hml,hM⟩
  ·
   have hlen0:c.len=0:=by
    rw [hnil] at b1;rcases nD b1 b2 with ⟨_,h⟩ | ⟨b,o,n,cc,h,_⟩ | ⟨aa,h,_⟩
    ·exact h
    ·cases h
    ·cases h
   by_cases hm0:p.src.len=0
   ·rw [hm0] at n1;have hrun:=mO (P:=P) (ty:=o.type) hu ht' hdd i1 n1;rw [xH ho (hevx.trans hnil) hrun];show K (a.put o.dst _) _;rw [hd];refine hk' _ _ ?_;rw [vZ];have hrl:rr.len=0:=by omega
    have hrn:rr=c:=by
     have hps:p.src.len=0:=hm0;unfold PV.app at v;split at v
     ·rename_i aa bb;simp only [Qn,Qh] at hps;have:bb=[]:=Q8 hps;subst this;simp at v;exact v.symm
     ·rename_i ww aa ww' bb;simp only [Qn,Qh] at hps;have:bb=[]:=Q8 hps;subst this;cases hbq:Q5 ww ww' with
      | false=>simp [hbq] at v
      | true=>simp [hbq] at v;exact v.symm
     ·rename_i aa bb;simp only [Qn,Qh] at hps;have:bb=[]:=Q8 hps;subst this;simp at v;exact v.symm
     ·cases v
    subst hrn;have hset:s'.setb k (.buf rr)=s':=by
     cases s' with
     | mk env blk=>
      simp only [AS.setb];congr 1;funext t;by_cases ht:t=k
      ·subst ht;simp;exact hbk.symm
      ·have:Q5 t k=false:=by rw [Qp];intro e;exact ht (Q2 e)
       simp [this]
    rw [hset];refine ⟨M,κ,tip,h0,hpk,hi.put (hws d (by simp [Qq])) ?_⟩;refine .buf k _ rr _ hbk b2 (Qa _) ?_ (λ_=>hnil.symm);rw [sP b2,<- hnil];exact b1
   ·have hrun:=jI (P:=P) (ty:=o.type) hu ht' hdd i1 i4 n1 (by omega) (by rw [i3];rw [hlen0,Qf] at hb;exact hb) (by omega);rw [xH ho (hevx.trans hnil) hrun];show K (a.put o.dst _) _;rw [hd];refine hk' _ _ ?_;rw [vZ];have F:=bX v (jM q1 hlen0 (λ_=>undef)) n2;have hge:=grownCap_ge w p.src.len 0 e;have hrl:rr.len=p.src.len:=by omega
    have hsize:(G.toArray++Qi z.cells (grownCap w p.src.len 0 e - p.src.len)).size=grownCap w p.src.len 0 e*E.w:=by
     simp only [Ql,Qc,size_zeroCells,hzs,hnl,<- Qg];congr 1;omega
    have hfit:p.src.len*E.w<=grownCap w p.src.len 0 e*E.w:=Q7 _ hge;have hml:grownCap w p.src.len 0 e<=maxLen:=grownCap_le_maxLen w p.src.len 0 e (by simp only [maxLen];omega);have I:Rep (xY M w.heap.size 0 (p.src.len*rr.width) ((G.toArray++Qi z.cells (grownCap w p.src.len 0 e - p.src.len))[·]?)) rr (.slice (some ⟨w.heap.size,0,none⟩) p.src.len (grownCap w p.src.len 0 e)):=by
     have:=wH (M':=xY M w.heap.size 0 (p.src.len*rr.width) ((G.toArray++Qi z.cells (grownCap w p.src.len 0 e - p.src.len))[·]?)) (b:=w.heap.size) (o:=0) (cap:=grownCap w p.src.len 0 e) F q2 (uM λo _ _=>hi.mlt (Qa _)) ?_ (by omega)
     ·rwa [hrl] at this
     intro j hj;rw [hrl] at hj;simp only [xY,Qf];rw [if_pos ⟨trivial,W6 _,hj⟩,hlen0];simp only [Nat.zero_mul,Nat.not_lt_zero,if_false,Nat.sub_zero];rw [hrw] at hj;have:=n3 j (by rw [J];exact hj);rw [Array.getElem?_append_left (by simp;omega)];simpa using this
    refine ⟨_,_,_,h0.trans' (uM λo _ _=>hi.mlt (Qa _)),zGz hi hpk hbk _,(hi.bufNew (tA w _ e) (.inr ⟨c,hbk,by omega,q7⟩) q2 (by omega) ?_ ?_ hml I).put (hws d (by simp [Qq])) ?_⟩
    ·rw [hsize,hrw];exact hfit
    ·rw [hsize,hrw];exact Qa _
    ·rw [hrl];refine .buf k _ rr _ (zW _ _ _) q2 (by omega) ?_ (λ_=>(yU _ _ _).symm);rw [<- hrl,sP q2,hrl];exact I
  ·rw [htip] at b1;have hn:n=c.len/\n<=cap:=by
    rcases nD b1 b2 with ⟨h,_⟩ | ⟨b',o',n',cc,h,h2,h3⟩ | ⟨aa,h,hpe⟩
    ·cases h
    ·cases h;exact ⟨h2,h3⟩
    ·cases h;rcases hpe with hpe | hpe<;>(rw [hpe];exact ⟨rfl,Qa _⟩)
   obtain ⟨hn,hcl⟩:=hn;subst hn;have F:=bX v (zB5 b2 b1) n2;simp only [Qf] at F;have hsome:=zIo b2 b1 b3;simp only [Qf] at hsome;have hadd:(c.len+p.src.len)*E.w=c.len*E.w+p.src.len*E.w:=Qg _ _ _;by_cases hroom:c.len+p.src.len<=cap
   ·have hfits:(c.len+p.src.len)*E.w<=arr.size:=by rw [<- J];exact Qv (Q7 _ hroom) hcap
    have hrun:=zAl (P:=P) (ty:=o.type) hu ht' hdd i1 n1 (b:=b) (n:=c.len) (cap:=cap) hone hroom
     (by
       intro j hj;rw [i2];have:c.len*E.w+j<arr.size:=by omega
       simp [Qk,hheap,this])
     (by intro j hj;rw [i2];exact sR hheap hfree (by omega))
    rw [xH ho (hevx.trans htip) hrun];show K (a.put o.dst _) _;rw [hd];refine hk' _ _ ?_;rw [vZ,i2,<- J];have hle:M.le (xY M b (c.len*c.width) ((c.len+p.src.len)*c.width) (λo=>G[o - c.len*c.width]?)):=uM λo h _=>hM o h;have I:Rep (xY M b (c.len*c.width) ((c.len+p.src.len)*c.width) (λo=>G[o - c.len*c.width]?)) rr (.slice (some ⟨b,0,none⟩) (c.len+p.src.len) cap):=by
     have:=wH (M':=xY M b (c.len*c.width) ((c.len+p.src.len)*c.width) (λo=>G[o - c.len*c.width]?)) (b:=b) (o:=0) (cap:=cap) F q2 hle ?_ (by omega)
     ·rwa [q6] at this
     intro j hj;rw [q6,q4] at hj;simp only [Qf];by_cases hjc:j<c.len*c.width
     ·rw [if_pos hjc];obtain ⟨u,hu⟩:=Qm.1 (hsome j hjc);rw [hle _ _ _ hu];simp [oS,hu]
     ·rw [if_neg hjc];simp only [xY];rw [if_pos ⟨trivial,by omega,hj⟩];exact n3 _ (by rw [J] at hj hjc ⊢;omega)
    refine ⟨_,_,_,h0.trans' hle,hpk,(hi.bufIn hbk htip hκ hbase hheap hfree hcap hml hM (by rw [hnl,J]) hroom q2 q4 (by omega) q7 (by omega) I).put (hws d (by simp [Qq])) ?_⟩;rw [q6];refine .buf k _ rr _ (zW _ _ _) q2 (by omega) ?_ (λ_=>(yU _ _ _).symm);rw [<- q6,sP q2,q6];exact I
   ·have hol:((Wb (c.len*E.w)).map λj=>oS M b j).length=c.len*info.size:=by simp [i2]
    have hrun:=aI (P:=P) (ty:=o.type) hu ht' hdd i1 i4 n1 (b:=b) (n:=c.len) (cap:=cap) (olds:=(Wb (c.len*E.w)).map λj=>oS M b j) hol
     (by
      intro j u hu;rw [List.getElem?_map] at hu;obtain ⟨j',h1,h2⟩:=Q3.1 hu;have hj:j<c.len*E.w:=by have:=(List.getElem?_eq_some_iff.1 h1).1;simpa using this
      have hjj:j'=j:=by have:=(List.getElem?_eq_some_iff.1 h1).2;simpa using this.symm
      subst hjj;obtain ⟨zz,hz⟩:=Qm.1 (hsome j' (by rw [J];exact hj));rw [hi.mem _ _ _ hz,<- h2];simp [oS,hz])
     (by omega) (by rw [i3];exact hb) (by omega)
    rw [xH ho (hevx.trans htip) hrun];show K (a.put o.dst _) _;rw [hd];refine hk' _ _ ?_;rw [vZ];have hge:=grownCap_ge w (c.len+p.src.len) cap e;have hml:grownCap w (c.len+p.src.len) cap e<=maxLen:=grownCap_le_maxLen w _ cap e (by simp only [maxLen];omega);generalize hA:(((Wb (c.len*E.w)).map λj=>oS M b j).toArray++G.toArray++Qi z.cells (grownCap w (c.len+p.src.len) cap e - (c.len+p.src.len)))=A;have hsize:A.size=grownCap w (c.len+p.src.len) cap e*E.w:=by
     rw [<- hA];simp only [Ql,Qc,W5,List.length_range,size_zeroCells,hzs,hnl,<- Qg];congr 1;omega
    have hfit:(c.len+p.src.len)*E.w<=grownCap w (c.len+p.src.len) cap e*E.w:=Q7 _ hge;have hget:∀ j,j<(c.len+p.src.len)*E.w->A[j]? = some (if j<c.len*E.w then oS M b j else g (j - c.len*E.w)):=by
     intro j hj;rw [<- hA,Array.getElem?_append_left (by simp;omega)];by_cases hjc:j<c.len*E.w
     ·rw [if_pos hjc,Array.getElem?_append_left (by simpa using hjc)];simp [hjc]
     ·rw [if_neg hjc,Array.getElem?_append_right (by simp;omega)];have:=n3 (j - c.len*E.w) (by rw [J];omega);simpa using this
    have hle:M.le (xY M w.heap.size 0 ((c.len+p.src.len)*rr.width) (A[·]?)):=uM λo _ _=>hi.mlt (Qa _);have I:Rep (xY M w.heap.size 0 ((c.len+p.src.len)*rr.width) (A[·]?)) rr (.slice (some ⟨w.heap.size,0,none⟩) (c.len+p.src.len) (grownCap w (c.len+p.src.len) cap e)):=by
     have:=wH (M':=xY M w.heap.size 0 ((c.len+p.src.len)*rr.width) (A[·]?)) (b:=w.heap.size) (o:=0) (cap:=grownCap w (c.len+p.src.len) cap e) F q2 hle ?_ (by omega)
     ·rwa [q6] at this
     intro j hj;rw [q6] at hj;simp only [xY,Qf];rw [if_pos ⟨trivial,W6 _,hj⟩];rw [hrw] at hj;rw [hget j hj,J]
    refine ⟨_,_,_,h0.trans' hle,zGz hi hpk hbk _,(hi.bufNew (tA w _ e) (.inr ⟨c,hbk,by omega,q7⟩) q2 (by omega) ?_ ?_ hml I).put (hws d (by simp [Qq])) ?_⟩
    ·rw [hsize,hrw];exact hfit
    ·rw [hsize,hrw];exact Qa _
    ·rw [q6];refine .buf k _ rr _ (zW _ _ _) q2 (by omega) ?_ (λ_=>(yU _ _ _).symm);rw [<- q6,sP q2,q6];exact I
 ·intro e he;rcases Q6.1 he with he | he
  ·subst he;exact hk
  ·rcases Q6.1 he with he | he
   ·subst he;exact hk2
   ·exact bF l2 cs bs hp e he
end
section
variable {o:Oper} 
theorem sa_mkb {tl tc:TypeId} {n:Int} (S:yO P te) (hd:o.dst=some d) (ho:o.op=.makeSlice t x y) (ht:(te t).map (·.ty)=some (.slice e)) (he:te e=some ei) (hz:ei.z.length=ei.w) (ch:0<ei.w) (hx:s.get te tl x=some (.p (.int kl n))) (hy:s.get te tc y=some (.p (.int kc n)))
  (h0:0<=n) (hb:n.toNat*ei.b<=140737488355328) (bg:0<ei.b) (bk:∀ s:AS,s.rdL (rR ei.z n.toNat)=some (cs,[])) (Y:dA ei.w c cs) (E:c.len=n.toNat) (hk:s.blk d=none):SA P o s ⟨opS x (.p (.int kl n))++opS y (.p (.int kc n)),[],[d],some (d,some (.buf d n.toNat)),[(d,.buf c)]⟩:=by
 refine ⟨?_,yL (zP hx) (zP hy),by intro e he;simp at he,by intro k F;simp at F;subst F;exact hk⟩;intro cx s' a w K Q hm hs bf F;obtain ⟨M,κ,tip,bm,hp,W⟩:=hs;have U:=hm.2.2 d (by simp);have h1:=xK (repA_pv (yB W (yI hx s' (yG hm.1))));have h2:=xK (repA_pv (yB W (yI hy s' (zX hm.1))));obtain ⟨info,z,i1,i2,i3,i4,i5⟩:=(S e ei he).info;have hu:=xB S ht;have bv:n.toNat<=n.toNat*ei.b:=Qj _ bg;have be:(info.bytes:Int)*n<=281474976710656:=by
  rw [i3];have:((n.toNat*ei.b:Nat):Int)<=140737488355328:=by omega
  rw [Int.natCast_mul,Int.toNat_of_nonneg h0,Int.mul_comm] at this;omega
 have I:=run_make (P:=P) w t e info z hu i1 i4 kl kc n n h0 (Int.le_refl _) be (by omega);unfold Qy;have:(execOp a.eval o).run P w=.ok (.value (.slice (some ⟨w.heap.size,0,none⟩) n.toNat n.toNat)) (w.alloc (.cells (madeCells z.cells (n.toNat*ei.w)) e)):=by
  rw [i2] at I;simp [execOp,ho,h1,h2,I]
 rw [this];show K (a.put o.dst _) _;rw [hd];refine F _ _ ?_;rw [vZ];have bh:=zFr S he hz i1 i4 (M:=M) (κ:=κ) (tip:=tip) (B:=s'.blk) n.toNat;obtain ⟨r1,r2⟩:=aK (bk s') bh.2;obtain ⟨c1,c2,c3,c4⟩:=Y.cells r2;have T:M.le (xY M w.heap.size 0 (n.toNat*c.width) ((madeCells z.cells (n.toNat*ei.w))[·]?)):=uM λo _ _=>W.mlt (Qa _);have G:=by
  have:=wH (M:=M) (M':=xY M w.heap.size 0 (n.toNat*c.width) ((madeCells z.cells (n.toNat*ei.w))[·]?)) (b:=w.heap.size) (o:=0) (cap:=n.toNat) c1 c2 T ?_ (by omega)
  ·rwa [E] at this
  intro j Z;rw [E] at Z;simp only [xY,Qf];rw [if_pos ⟨trivial,W6 _,Z⟩];rw [c3] at Z;have:j<(madeCells z.cells (n.toNat*ei.w)).size:=by rw [size_madeCells];exact Z
  simp [this]
 refine ⟨_,_,_,bm.trans' T,zDp W hp U _,(W.bufNew (cK w _ e) (.inl U) c2 (by omega) (by rw [size_madeCells,c3];exact Qa _) (by rw [size_madeCells,c3];exact Qa _) (by simp only [maxLen];omega) G).put (bf d (by simp [Qq])) ?_⟩;refine .buf d _ c _ (zW _ _ _) c2 (by omega) ?_ (λ_=>(yU _ _ _).symm);rw [<- E,sP c2,E];exact G
theorem zX0 {f:α->PV} {x:α} {z:PV} (h:z=f x) (E:z.nilOf=false):∀ (n:Nat),rR [z] n=(Wf n x).map λy=>AV.p (f y)
 | 0=>rfl
 | n+1=>by
  have D:=zX0 h E n;simp only [rR,List.replicate_succ,List.flatten_cons,Qe,Wi,List.singleton_append] at D ⊢;rw [D];have G:zA z=AV.p (f x):=by unfold zA;simp_all
  rw [G]
def mkN (b:Nat) (n:Int):Option Nat:=if 0<=n/\n.toNat*b<=140737488355328 then some n.toNat else none
theorem yAt {b:Nat} {n:Int} (h:mkN b n=some m):0<=n/\n.toNat*b<=140737488355328/\m=n.toNat:=by
 unfold mkN at h;split at h
 ·simp_all
 simp_all
def cpy (l m:List α):List α:=m.take l.length++l.drop m.length
theorem zUn {m:By}:uO (l.map λx=>AV.p (.int .u8 x.toNat)) 0 ((m.take l.length).map λu=>AV.p (.int .u8 u.toNat))=(cpy l m).map λx=>AV.p (.int .u8 x.toNat):=by
 rw [jQ (by simp;omega)];unfold cpy;rcases Nat.le_total l.length m.length with h | h
 ·simp_all
 simp_all
end
section
variable [T:pB P] {r:List Oper} 
theorem RK.scB (y:((T.te t).map (·.ty),(T.te e).map (·.w),s.get T.te t x)=(some (.arr n e),some 1,some (.p (.cptr (.agg (l.map λu=>PV.int .u8 u.toNat)))))) (I:l.length=n) (F:Q9 0 n=true) (k:VK P ops r s K d (opS x (.p (.cptr (.agg (l.map λu=>PV.int .u8 u.toNat))))) ([]) (.p (.bytes l))):RK P ops (⟨some d,.slice t x none none none,ty,pos,af,none⟩:: r) s K:=have ⟨L,y⟩:=pq y;have ⟨S,N⟩:=pq y;RK.va rfl rfl (Go.Sw.va_sliceC T.ok rfl L S N (by simp_all) (by simp_all) (zBf l) I) k
theorem RK.mr {Y:Type} (f:Y->PV) (u:Y) {b:Nat} {Z:IntKind} {n:Int} (h:mkN b n=some m) (v:((T.te t).map (·.ty),T.te e,G.b,Q9 0 b,G.z.length,s.get T.te 0 x,s.get T.te 0 y,s.blk d,G.z,(f u).nilOf)=(some (.slice e),some G,b,true,G.w,some (.p (.int Z n)),some (.p (.int kc n)),none,[f u],false)) (k:BK P ops r s K d (opS x (.p (.int Z n))++opS y (.p (.int kc n))) [] [d] d (.var ((Wf m u).map λy=>AV.p (f y))) (.ref d 0 m)):RK P ops (⟨some d,.makeSlice t x y,ty,pos,af,none⟩:: r) s K:=have ⟨ht,v⟩:=pq v;have ⟨he,v⟩:=pq v;have ⟨hb,v⟩:=pq v;have ⟨S,v⟩:=pq v;have ⟨hz,v⟩:=pq v;have ⟨hx,v⟩:=pq v;have ⟨hy,v⟩:=pq v;have ⟨hk,v⟩:=pq v;have ⟨J,I⟩:=pq v;by
 obtain ⟨h0,h1,rfl⟩:=yAt h;subst hb;have be:=Q0 S;have:=Go.Sw.sa_mkr (o:=⟨some d,.makeSlice t x y,ty,pos,af,none⟩) T.ok rfl rfl ht he hz hx hy h0 h1 (by omega) hk;rw [J,zX0 rfl I] at this;exact RK.sb rfl this k
theorem RK.mrK {b:Nat} {F:TI} {S N:IntKind} (h:Qw (m*b) 140737488355328=true) (Z:(T.te t).map (·.ty)=some (.slice e)) (he:T.te e=some F) (hb:F.b=b) (L:Q9 0 b=true) (hz:F.z.length=F.w) (U:s.get T.te 0 x=some (.p (.int S (m:Nat)))) (hy:s.get T.te 0 y=some (.p (.int N (m:Nat)))) (hk:s.blk d=none) (k:BK P ops r s K d (opS x (.p (.int S (m:Nat)))++opS y (.p (.int N (m:Nat)))) [] [d] d (.var (rR F.z m)) (.ref d 0 m)):RK P ops (⟨some d,.makeSlice t x y,ty,pos,af,none⟩:: r) s K:=by
 have ba:=Q0 L;exact RK.sb rfl (Go.Sw.sa_mkr T.ok rfl rfl Z he hz U hy (by omega) (by simp_all) (by omega) hk) k
theorem RK.cpB {W:TI} {m:By} (hn:l.length=n) (h:((T.te t).map (·.ty),T.te e,W.w,s.get T.te t x,s.blk E,s.get T.te L y,s.rd V)=(some (.slice e),some W,1,some (.ref E 0 n),some (.var (l.map λx=>AV.p (.int .u8 x.toNat))),some V,some (.bytes m,bs)))
  (k:BK P ops r s K d (opS x (.ref E 0 n)++opS y V) ((E,.var (l.map λx=>AV.p (.int .u8 x.toNat))) :: bs) [] E (.var ((cpy l m).map λx=>AV.p (.int .u8 x.toNat))) (.p (.int .i64 (min m.length n:Nat)))):RK P ops (⟨some d,.call ⟨.builtin .copy,#[x,y],#[t,L]⟩,ty,pos,af,none⟩:: r) s K:=have ⟨ht,h⟩:=pq h;have ⟨he,h⟩:=pq h;have ⟨hw,h⟩:=pq h;have ⟨hx,h⟩:=pq h;have ⟨hk,h⟩:=pq h;have ⟨hy,Y⟩:=pq h;by
 subst hn;have:=Go.Sw.sa_copy (o:=⟨some d,.call _,ty,pos,af,none⟩) T.ok rfl rfl ht he hw hx hk (by simp) hy Y;rw [zUn] at this;exact RK.sb rfl this k
theorem RK.apR (f:α->PV) {t2:TypeId} {b G S:Nat} {l m u:List α} (hf:∀ a,(f a).cells=[f a]) (h:yK b l m=some u) (v:((T.te t).map (·.ty),T.te e,(T.te t2).map (·.ty),s.get T.te t x,s.blk G,1,I.z.length,s.get T.te t2 y,s.blk S)=(some (.slice e),some I,some (.slice e2),some (.buf G l.length),some (.buf (.sl 1 (l.map f))),I.w,I.w,some (.ref S 0 n),some (.var (m.map λx=>AV.p (f x))))) (hn:m.length=n) (L:∀ a,(f a).cells.all W9=true) (bf:(I.b,Q9 0 b)=(b,true)) (k:BK P ops r s K d (opS x (.buf G (PV.sl 1 (l.map f)).len)++opS y (.ref S 0 n)) ((G,.buf (.sl 1 (l.map f))) :: (S,.var (m.map λx=>AV.p (f x))) :: []) ([]) (G) (.buf (.sl 1 (u.map f))) (.buf G (PV.sl 1 (u.map f)).len)):RK P ops (⟨some d,.call ⟨.builtin .append,#[x,y],#[t,t2]⟩,ty,pos,af,none⟩:: r) s K:=have ⟨ht,v⟩:=pq v;have ⟨he,v⟩:=pq v;have ⟨bd,v⟩:=pq v;have ⟨hx,v⟩:=pq v;have ⟨hk,v⟩:=pq v;have ⟨J,v⟩:=pq v;have ⟨hz,v⟩:=pq v;have ⟨hy,bg⟩:=pq v;have ⟨hb,Z⟩:=pq bf;RK.sb rfl (Go.Sw.sa_appR (c:=.sl 1 (l.map f)) T.ok rfl rfl ht he (xB T.ok bd) (.inr ⟨_,rfl⟩) (by simpa [Qh] using hx) hk J (by omega) hz hy bg tV (by rw [<- J];exact zKf hf m) (by simpa [Qh] using hn) (appM h) (oneM L) (by subst hb;have:=zNl h;simpa [Qh,Qn] using this) (by simp_all)) k
theorem RK.mfA (D:(s.get T.te 0 x,Q9 f 1000000)=(some v,true)) (k:VK P ops r s K d (opS x v) ([]) (.fnv f [v])):RK P ops (⟨some d,.makeFunc (.func f) #[x] #[],ty,pos,af,none⟩:: r) s K:=have ⟨L,A⟩:=pq D;RK.va rfl rfl (Go.Sw.va_mkfA rfl L A) k
theorem RK.cpf {tx:TypeId} {xs:Array Operand} {ts:Array TypeId} {l:List AV} {V:LV} {G:LB} {l':List AV} (h:Ok P f na (mkS ((0,.ptr 0 0) :: argE 1 ps) [(0,.var (cs.map .p))]) (mkS [(0,av)] ((0,.var l') :: blks))) (y:(s.get T.te 0 x,xs.toList,ts.toList,s.blk F,s.rdL l)=(some (.fnv f [.ptr F 0]),xl,tl,some (.var l),some (cs,G))) (ha:iF s T.te xl tl ps V bb) (D:(Q5 na (ps.length+1),(kR (sh d) blks).all (λk=>(s.blk k).isNone),blks.all (λe=>!Nat.beq e.1 0),Q9 f 1000000)=(true,true,true,true))
  (k:RK P ops r (Mic.upd ⟨opS x (.fnv f [.ptr F 0])++V,(F,.var l) :: (G++bb),kR (sh d) blks,some (d,some (av.ren (shp d F))),bR (shp d F) ((0,.var l') :: blks)⟩ s) λs' ms=>K s' (⟨opS x (.fnv f [.ptr F 0])++V,(F,.var l) :: (G++bb),kR (sh d) blks,some (d,some (av.ren (shp d F))),bR (shp d F) ((0,.var l') :: blks)⟩:: ms)):RK P ops (⟨some d,.call ⟨.value x,xs,ts⟩,ty,pos,af,none⟩:: r) s K:=have ⟨hx,y⟩:=pq y;have ⟨W,y⟩:=pq y;have ⟨N,y⟩:=pq y;have ⟨ba,S⟩:=pq y;have ⟨hn,D⟩:=pq D;have ⟨hf,D⟩:=pq D;have ⟨Y,U⟩:=pq D;
 by
 rw [zF8,zH7] at k;rw [zF8] at hf;exact RK.st rfl (Go.Sw.sa_callpf rfl rfl hx h W N ba S ha (Q2 hn) (λk hk=>by simpa using (Qd.1 hf) k hk) (λe he h0=>by have:=(Qd.1 Y) e he;simp_all) U) k
end
abbrev qI (n:Int):AV:=.p (.int .i64 n)
abbrev qU (x:UInt8):AV:=.p (.int .u8 x.toNat)
abbrev qB (b:Bool):AV:=.p (.bool b)
abbrev qY (l:By):AV:=.p (.bytes l)
abbrev qL (w:Nat) (f:α->PV) (l:List α):AV:=.p (.sl w (l.map f))
abbrev qA (f:α->PV) (l:List α):zN:=.var (l.map λx=>AV.p (f x))
section
theorem im {c:Code} (v:Imp cx.pk s s') (h:awp P cx c Q s'):awp P cx c Q s:=zRe v h
end
def lA4:List α->Option (A4 α) | [a,b,c,d]=>some ⟨a,b,c,d⟩ | _=>none
def lA8:List α->Option (A8 α) | [a,b,c,d,e,f,g,h]=>some ⟨a,b,c,d,e,f,g,h⟩ | _=>none
theorem yBw {l:List α} {r:A4 α} (h:lA4 l=some r):l=[r.a0,r.a1,r.a2,r.a3]:=by unfold lA4 at h;split at h<;>cases h;rfl
theorem nz {b:Int} (h:(!(b==0))=true):(b==0)=false:=by simp_all
theorem nR {l:List α} (h:Q5 l.length n=true):l.length=n:=by simp_all
theorem zPs {f:α->PV}:∀ {l:List α},oG ρ (l.map λx=>AV.p (f x))=l.map λx=>AV.p (f x)
 | []=>rfl
 | x :: r=>by simp only [Qe,oG,AV.ren];rw [zPs]
theorem tI {s'':AS} (h:Imp pk s s') (k:Imp pk s' s''):Imp pk s s'':=Imp.trans h k
section
def OR (cx:Ctx) (E:AS) (e:Exit) (s:AS):Prop:=(e=.ret∨e=.normal)/\Imp cx.pk s E
theorem yLg {body:Code} {as rs:AS} (E:AS) (V:P.funcs[f]? = some fn) (L:fn.body=some body) (D:(fn.name == "runtime.NumGoroutine")=false) (F:na<=fn.ntmps) (A:∀ k,k<BIG->(as.blk k).isSome=true->k∈ks)
  (hr:∀ cx:Ctx,PK cx ks->jU P fn cx E rs) (h:∀ cx:Ctx,cx.nt=fn.ntmps->PK cx ks->awp P cx body (OR cx E) as):Ok P f na as rs:=
 zJ5 V L D F A λcx T J a w W=>wp_mono (h cx T J a w W) λe N w' ⟨s',K,S,U⟩ =>⟨E,U cx N w' rfl K,S,hr cx J⟩
end
section
variable {o:Oper} {bx:LB} {k:IntKind}
end
section
variable [T:pB P] {r:List Oper} {tyy:TypeId} {bx:LB} 
end
section
theorem zTz {o:Oper} {k:Nat} {l:List AV} (bi:yO P te) (hd:o.dst=none) (ho:o.op=.store t ax x) (ht:te t=some i) (ha:s.get te ta ax=some (.ptr k off)) (hx:s.get te t x=some v) (I:s.rd v=some (p,bs)) (hb:s.blk k=some (.var l))
  (hw:(AV.p p).cells.length=i.w) (hl:off+i.w<=l.length) (S:(AV.p p).cells.all AV.one=true):SA P o s ⟨opS ax (.ptr k off)++opS x v,(k,.var l) :: bs,[],none,[(k,.var (uO l off (AV.p p).cells))]⟩:=by
 refine ⟨?_,yL (zP ha) (zP hx),λe W=>(Q6.1 W).elim (λh=>by subst h;exact hb) (uJ v p bs I e),by intro e W;simp at W⟩;intro cx s' a w K Q Z hs cn hk;obtain ⟨M,κ,tip,h0,hp,hi⟩:=hs;have T:=Z.2.1 (k,.var l) (by simp);have be:RepA M κ tip s'.blk (.p p) (a.eval x):=.p _ _ (eK hi hx I (zX Z.1) (λe W=>Z.2.1 e (by simp [W])));have V:=yB hi (yI ha s' (yG Z.1));obtain ⟨L,G⟩:=bG be;obtain ⟨b,bk,e,fz,h1,h2,h3,h4,h5,h6,h7⟩:=hi.vars k l T;generalize bh:a.eval ax=z at V;cases V with
 | ptr k o b' l' N ci=>
  rw [h1] at N;cases N;have E:(a.eval x).cells.toList.length=(AV.p p).cells.length:=by simp [L]
  have A:=run_storeCells_cells (P:=P) b off (a.eval x).cells.toList 0 w
   (by
     intro j hj;rw [E] at hj;have:off+j<bk.size:=by omega
     simp [Qk,h2,this])
   (by intro j hj;rw [E] at hj;simp only [W1];exact sR h2 h3 (by omega))
   (by
    intro u hu;obtain ⟨j,hj,bj⟩:=Qs hu;have ca:j<(AV.p p).cells.length:=by omega
    have Y:=G j (AV.p p).cells[j] (by simp);have bg:j<(a.eval x).cells.size:=by omega
    have:(a.eval x).cells.getD j undef=u:=by simp [bg];simpa using bj
    rw [this] at Y;exact zEd Y ((Qd.1 S) _ (W2 _)))
  unfold Qy;have:(execOp a.eval o).run P w=.ok .skip (w.setCells b off (a.eval x).cells.toList):=by
   simp only [W1] at A;have bf:¬ ((a.eval x).cells.size≠i.w):=by rw [L,hw];simp
   simp [execOp,ho,bh,Wh,Qx,storeVar,vK bi ht,bf,A]
  rw [this];show K (a.put o.dst undef) _;rw [hd];refine hk _ _ ?_;rw [zCx];refine ⟨M,κ,tip,h0,hp,hi.setVar T h1 (by omega) E ?_⟩;intro j q Y;have:=G j q Y;rw [Q1] at this;simpa using this
end
section
variable [T:pB P] {r:List Oper} 
theorem RK.stP {J:Type} {f:J->PV} {G:Operand} {l l':List J} {u:J} (h:wL l j u=some l') (I:(T.te t,s.get T.te 0 G)=(some i,some (.ptr E off))) (Z:off=j) (hx:s.get T.te t x=some v) (hp:s.rd v=some (f u,bs)) (A:(s.blk E,i.w,(AV.p (f u)).cells,(AV.p (f u)).one)=(some (.var (l.map λx=>AV.p (f x))),1,[AV.p (f u)],true)) (k:RK P ops r (s.setb E (.var (l'.map λx=>AV.p (f x)))) λs' ms=>K s' (⟨opS G (.ptr E off)++opS x v,(E,.var (l.map λx=>AV.p (f x))) :: bs,[],none,[(E,.var (l'.map λx=>AV.p (f x)))]⟩:: ms)):RK P ops (⟨none,.store t G x,ty,pos,af,none⟩:: r) s K:=have ⟨ht,ha⟩:=pq I;have ⟨hb,A⟩:=pq A;have ⟨V,A⟩:=pq A;have ⟨U,F⟩:=pq A;by
 refine RK.so rfl ?_ k;subst Z;obtain ⟨Y,h2⟩:=fM h;have:=zTz (o:=⟨none,.store t G x,ty,pos,af,none⟩) T.ok rfl rfl ht ha hx hp hb (by simp [U,V]) (by rw [V];simpa using Nat.succ_le_of_lt Y) (by simp [U,F]);rw [U,zCz (by simp_all)] at this;have e:(l.map λx=>AV.p (f x)).set off (AV.p (f u))=l'.map λx=>AV.p (f x):=by simp_all
 rw [e] at this;omega
theorem RK.stB {U:Type} {f:U->PV} {y:List U} {I:Operand} {l:List AV} (A:y.length=i.w) (d:(T.te t,s.get T.te 0 I,s.get T.te t x,s.blk E,i.w)=(some i,some (.ptr E 0),some (.p (.agg (y.map f))),some (.var l),l.length)) (G:∀ a,(f a).one=true)
  (k:RK P ops r (s.setb E (.var (y.map λx=>AV.p (f x)))) λs' Y=>K s' (⟨opS I (.ptr E 0)++opS x (.p (.agg (y.map f))),[(E,.var l)],[],none,[(E,.var (y.map λx=>AV.p (f x)))]⟩:: Y)):RK P ops (⟨none,.store t I x,ty,pos,af,none⟩:: r) s K:=have ⟨Z,d⟩:=pq d;have ⟨ha,d⟩:=pq d;have ⟨hx,d⟩:=pq d;have ⟨hb,hl⟩:=pq d;by
 refine RK.so rfl ?_ k;have L:(AV.p (.agg (y.map f))).cells=y.map λx=>AV.p (f x):=by simp [AV.cells]
 have:=Go.Sw.sa_store (o:=⟨none,.store t I x,ty,pos,af,none⟩) T.ok rfl rfl Z ha hx hb (by simp [L,A]) (by omega) (by simp [L,AV.one,G]);have e:uO l 0 (y.map λx=>AV.p (f x))=y.map λx=>AV.p (f x):=by rw [jQ (by simp_all)];simp_all
 simp_all
end
section
variable {v':AV} {p':PV} {bs':LB} 
variable {r:List Oper} [T:pB P]
end
section
variable {w':World}
theorem yAz (L:Inv cx M κ tip s a w) (G:∀ k∈cx.pk,κ k.1=some k.2/\k.2<cx.w0.heap.size) {k:Nat} {l:List AV} (J:s.blk k=some (.own wd l)) (b:Option Nat):∀ v∈cx.pk,zBu κ k b v.1=some v.2/\v.2<cx.w0.heap.size:=by
 intro v y;have A:=G v y;rw [yP]
 ·exact A
 ·intro e;have F:=L.owns _ wd l J;rw [<- e] at F;rcases F with ⟨_,d,_⟩ | ⟨_,⟨_,d,_⟩ | ⟨b',n,cap,I,e,S,_,d,D,N,_⟩⟩
  ·simp_all
  ·simp_all
  ·rw [A.1] at d;cases d;have:=cx.pk.nk v y;omega
theorem Inv.ownNew (d:Inv cx M κ tip s a w) {k:Nat} {l:List AV} {U:Array Value} {fz:Nat×Nat} (S:zLk w w' U e fz)
  (I:s.blk k=none∨∃ l0,s.blk k=some (.own wd l0)/\l0.length<l.length) (cb:0<wd) (hn:n*wd=l.length) (bc:cap*wd<=U.size) (bv:n<=cap) (br:cap<=maxLen)
  (cd:∀ (j:Nat) (q:AV),l[j]? = some q->RepA M κ tip s.blk q (U.getD j undef)) :
  Inv cx M (zBu κ k (some w.heap.size)) (nS tip k (.slice (some ⟨w.heap.size,0,none⟩) n cap)) (s.setb k (.own wd l)) a w':=by
 have bt:GLe κ (zBu κ k (some w.heap.size)) tip (nS tip k (.slice (some ⟨w.heap.size,0,none⟩) n cap)) s.blk (s.setb k (.own wd l)).blk:={
  var:=λi b l h h'=>by
   have e:i≠k:=by
    rintro rfl;rcases I with I | ⟨l0,I,_⟩<;>(rw [I] at h';cases h')
   rw [yP e,zS e];exact ⟨h,l,h'⟩
  buf:=λi c1 h=>by
   have e:i≠k:=by
    rintro rfl;rcases I with I | ⟨l0,I,_⟩<;>(rw [I] at h;cases h)
   exact GLe.same (by rw [zS e];exact h) (yW e)
  own:=λi w1 l1 h=>by
   by_cases e:i=k
   ·subst e;rcases I with I | ⟨l0,I,A⟩
    ·rw [I] at h;cases h
    ·rw [I] at h;cases h;exact ⟨wd,l,zW _ _ _,.inl ⟨rfl,by omega,λe=>by omega⟩⟩
   ·exact GLe.sameO (by rw [zS e];exact h) (yP e) (yW e) }
 have E:∀ {v:AV} {x:Value},RepA M κ tip s.blk v x->RepA M (zBu κ k (some w.heap.size)) (nS tip k (.slice (some ⟨w.heap.size,0,none⟩) n cap)) (s.setb k (.own wd l)).blk v x:=λh=>h.ghost bt;exact {
  defers:=d.defers
  size:=d.size
  fr:=⟨S.os.trans d.fr.os,S.tape.trans d.fr.tape,S.output.trans d.fr.output,by have:=d.fr.size;rw [S.size];omega,λb G F h3=>by
   rw [S.old b (by have:=d.fr.size;omega)];exact d.fr.block b G F h3⟩
  mem:=λb o x h=>by
   have:=d.mem b o x h;have A:=World.block_lt_of_cell? w _ this;rw [World.cell?_of_block (S.old b A)];exact this
  env:=λt v h=>let ⟨x,G,F⟩:=d.env t v h;⟨x,G,E F⟩
  vars:=λi l h=>by
   have D:i≠k:=by rintro rfl;rw [zW] at h;cases h
   rw [zS D] at h;obtain ⟨b,bf,Y,bu,G,F,h3,h4,h5,h6,h7⟩:=d.vars i l h;have A:=d.lt G;exact ⟨b,bf,Y,bu,by rw [yP D];exact G,by rw [S.old b A];exact F,h3,h4,λj q hq=>E (h5 j q hq),h6,h7⟩
  bufs:=λi c1 h=>by
   have D:i≠k:=by rintro rfl;rw [zW] at h;cases h
   rw [zS D] at h;obtain ⟨G,F,h3,h4⟩:=d.bufs i c1 h;rw [yW D,yP D];refine ⟨G,F,h3,?_⟩;rcases h4 with h4 | ⟨b,n1,J,K,Y,Z,q1,q2,q3,q4,q5,q6,q7,q8⟩
   ·exact .inl h4
   ·have A:=d.lt q2;exact .inr ⟨b,n1,J,K,Y,Z,q1,q2,q3,by rw [S.old b A];exact q4,q5,q6,q7,q8⟩
  inj:=λi j b G F=>by
   by_cases Y:i=k
   ·subst Y;rw [sL] at G;cases G;by_cases e2:j=i
    ·exact e2.symm
    ·rw [yP e2] at F;have:=d.lt F;omega
   ·rw [yP Y] at G;by_cases e2:j=k
    ·subst e2;rw [sL] at F;cases F;have:=d.lt G;omega
    ·rw [yP e2] at F;exact d.inj i j b G F
  dom:=λi h=>by
   by_cases D:i=k
   ·subst D;rw [zW] at h;cases h
   ·rw [zS D] at h;rw [yP D];exact d.dom i h
  glob:=d.glob
  old:=d.old
  owns:=λi w1 l1 h=>by
   by_cases D:i=k
   ·subst D;rw [zW] at h;cases h;rw [yU,sL];exact .inr ⟨cb,.inr ⟨w.heap.size,n,cap,U,e,fz,rfl,rfl,.inl d.fr.size,S.new,S.free,hn,bc,bv,br,λj q hq=>E (cd j q hq),λo=>d.mlt (Qa _)⟩⟩
   ·rw [zS D] at h;rw [yW D,yP D];rcases d.owns i w1 l1 h with g0 | ⟨g1,g2⟩
    ·exact .inl g0
    refine .inr ⟨g1,?_⟩;rcases g2 with g2 | ⟨b,n1,J,K,Y,Z,q1,q2,q3,q4,q5,q6,q7,q8,q9,bw,bn⟩
    ·exact .inl g2
    ·have A:=d.lt q2;exact .inr ⟨b,n1,J,K,Y,Z,q1,q2,q3,by rw [S.old b A];exact q4,q5,q6,q7,q8,q9,λj q hq=>E (bw j q hq),bn⟩}
theorem Inv.ownNil (d:Inv cx M κ tip s a w) {k:Nat} (S:s.blk k=none) (bi:0<wd) :
  Inv cx M κ (nS tip k (.slice none 0 0)) (s.setb k (.own wd [])) a w:=by
 have D:GLe κ κ tip (nS tip k (.slice none 0 0)) s.blk (s.setb k (.own wd [])).blk:={
  var:=λi b l h W=>by
   have e:i≠k:=by rintro rfl;rw [S] at W;cases W
   rw [zS e];exact ⟨h,l,W⟩
  buf:=λi c1 h=>by
   have e:i≠k:=by rintro rfl;rw [S] at h;cases h
   exact GLe.same (by rw [zS e];exact h) (yW e)
  own:=λi c1 l1 h=>by
   have e:i≠k:=by rintro rfl;rw [S] at h;cases h
   exact GLe.sameO (by rw [zS e];exact h) rfl (yW e) }
 exact {
  defers:=d.defers
  size:=d.size
  fr:=d.fr
  mem:=d.mem
  env:=λt v h=>let ⟨x,h1,h2⟩:=d.env t v h;⟨x,h1,h2.ghost D⟩
  vars:=λi l h=>by
   have y:i≠k:=by rintro rfl;rw [zW] at h;cases h
   rw [zS y] at h;obtain ⟨b,J,Y,bc,h1,h2,h3,h4,h5,h6⟩:=d.vars i l h;exact ⟨b,J,Y,bc,h1,h2,h3,h4,λj q hq=>(h5 j q hq).ghost D,h6⟩
  bufs:=λi c1 h=>by
   have y:i≠k:=by rintro rfl;rw [zW] at h;cases h
   rw [zS y] at h;rw [yW y];exact d.bufs i c1 h
  inj:=d.inj
  dom:=λi h=>by
   by_cases y:i=k
   ·subst y;rw [zW] at h;cases h
   ·rw [zS y] at h;exact d.dom i h
  glob:=d.glob
  old:=d.old
  owns:=λi w1 l1 h=>by
   by_cases y:i=k
   ·subst y;rw [zW] at h;cases h;rw [yU];exact .inr ⟨bi,.inl ⟨rfl,d.dom i S,rfl⟩⟩
   ·rw [zS y] at h;rw [yW y];rcases d.owns i w1 l1 h with g0 | ⟨g1,V⟩
    ·exact .inl g0
    refine .inr ⟨g1,?_⟩;rcases V with V | ⟨b,n1,I,K,Y,Z,q1,q2,q3,q4,q5,q6,q7,q8,q9,bd,bf⟩
    ·exact .inl V
    ·exact .inr ⟨b,n1,I,K,Y,Z,q1,q2,q3,q4,q5,q6,q7,q8,q9,λj q hq=>(bd j q hq).ghost D,bf⟩}
theorem Inv.ownSet (y:Inv cx M κ tip s a w) {k b n':Nat} {l l':List AV} {A:Array Value} {fz:Nat×Nat} {W:List Value} (hb:s.blk k=some (.own wd l)) (bk:tip k=.slice (some ⟨b,0,none⟩) n cap) (U:κ k=some b) (K:cx.w0.heap.size<=b∨b∈cx.ob/\BIG<=k)
  (Z:zD3 fz A.size) (g1:(w.setCells b off W).heap[b]? = some (.cells A e fz)) (bh:cap*wd<=A.size) (cg:n'<=cap) (cb:cap<=maxLen) (be:0<wd) (hM:∀ o,M b o=none) (bj:n'*wd=l'.length) (cd:l.length<=l'.length) (hl0:n*wd=l.length)
  (cp:∀ (j:Nat) (q:AV),l'[j]? = some q->RepA M κ tip s.blk q (A.getD j undef)) :
  Inv cx M κ (nS tip k (.slice (some ⟨b,0,none⟩) n' cap)) (s.setb k (.own wd l')) a (w.setCells b off W):=by
 have D:=kJ b W off w;have bv:GLe κ κ tip (nS tip k (.slice (some ⟨b,0,none⟩) n' cap)) s.blk (s.setb k (.own wd l')).blk:={
  var:=λi b l h h'=>by
   have e:i≠k:=by rintro rfl;rw [hb] at h';cases h'
   rw [zS e];exact ⟨h,l,h'⟩
  buf:=λi c1 h=>by
   have e:i≠k:=by rintro rfl;rw [hb] at h;cases h
   exact GLe.same (by rw [zS e];exact h) (yW e)
  own:=λi c1 l1 h=>by
   by_cases e:i=k
   ·subst e;rw [hb] at h;cases h;refine ⟨wd,l',zW _ _ _,.inl ⟨rfl,cd,λe=>⟨rfl,?_⟩⟩⟩;rw [yU,bk];have:n'=n:=Qb be (by omega);rw [this]
   ·exact GLe.sameO (by rw [zS e];exact h) rfl (yW e) }
 have J:∀ {v:AV} {x:Value},RepA M κ tip s.blk v x->RepA M κ (nS tip k (.slice (some ⟨b,0,none⟩) n' cap)) (s.setb k (.own wd l')).blk v x:=λh=>h.ghost bv;exact {
  defers:=y.defers
  size:=y.size
  fr:=⟨D.1.trans y.fr.os,D.2.1.trans y.fr.tape,D.2.2.trans y.fr.output,by rw [kO];exact y.fr.size,λi cv ce bn=>by
   rw [xP b W _ w i (by rintro rfl;exact K.elim (λh=>by omega) λh=>bn h.1)];exact y.fr.block i cv ce bn⟩
  mem:=λi o x h=>by
   have F:i≠b:=by rintro rfl;rw [hM] at h;cases h
   have:=y.mem i o x h;rw [World.cell?_setCells_out b W off w _ (λe=>(F e).elim)];exact this
  env:=λt v h=>let ⟨x,h1,h2⟩:=y.env t v h;⟨x,h1,J h2⟩
  vars:=λi l h=>by
   have I:i≠k:=by rintro rfl;rw [zW] at h;cases h
   rw [zS I] at h;obtain ⟨N,S,e2,bc,k1,k2,k3,k4,k5,k6,k7⟩:=y.vars i l h;have F:N≠b:=λe=>I (y.inj i k b (e▸k1) U);exact ⟨N,S,e2,bc,k1,by rw [xP b W _ w N F];exact k2,k3,k4,λj q hq=>J (k5 j q hq),k6,k7⟩
  bufs:=λi c1 h=>by
   have I:i≠k:=by rintro rfl;rw [zW] at h;cases h
   rw [zS I] at h;obtain ⟨k1,k2,k3,k4⟩:=y.bufs i c1 h;rw [yW I];refine ⟨k1,k2,k3,?_⟩;rcases k4 with k4 | ⟨N,n2,bd,S,e2,bc,q1,q2,q3,q4,q5,q6,q7,q8⟩
   ·exact .inl k4
   ·have F:N≠b:=λe=>I (y.inj i k b (e▸q2) U);exact .inr ⟨N,n2,bd,S,e2,bc,q1,q2,q3,by rw [xP b W _ w N F];exact q4,q5,q6,q7,q8⟩
  inj:=y.inj
  dom:=λi h=>by
   by_cases I:i=k
   ·subst I;rw [zW] at h;cases h
   ·rw [zS I] at h;exact y.dom i h
  glob:=y.glob
  old:=y.old
  owns:=λi w1 l1 h=>by
   by_cases I:i=k
   ·subst I;rw [zW] at h;cases h;rw [yU];exact .inr ⟨be,.inr ⟨b,n',cap,A,e,fz,rfl,U,K,g1,Z,bj,bh,cg,cb,λj q hq=>J (cp j q hq),hM⟩⟩
   ·rw [zS I] at h;rw [yW I];rcases y.owns i w1 l1 h with g0 | ⟨cw,g2⟩
    ·exact .inl g0
    refine .inr ⟨cw,?_⟩;rcases g2 with g2 | ⟨N,n1,bl,bf,e1,bt,q1,q2,q3,q4,q5,q6,q7,q8,q9,cf,bz⟩
    ·exact .inl g2
    ·have F:N≠b:=λe=>I (y.inj i k b (e▸q2) U);exact .inr ⟨N,n1,bl,bf,e1,bt,q1,q2,q3,by rw [xP b W _ w N F];exact q4,q5,q6,q7,q8,q9,λj q hq=>J (cf j q hq),bz⟩}
end
section
variable {o:Oper} 
theorem zLo {cx:Ctx} {A:Nat->Option Nat} {k:Nat} {l:List AV} {z:Value} (F:B k=some (.own wd l)) (E:n*wd=l.length) (h:RepA M A tip B (.own k n) z):z=tip k:=by
 cases h with
 | own _ _ w' l' _ y G D I=>simp_all
theorem zLh {k:Nat} {l:List AV} {i:Int} (E:yO P te) (ho:o.op=.indexAddr t x y) (ht:(te t).map (·.ty)=some (.slice e)) (he:te e=some I)
  (hx:s.get te t x=some (.own k n)) (hb:s.blk k=some (.own wd l)) (W:n*wd=l.length) (hw:wd=I.w) (hy:s.get te L y=some (.p (.int .i64 i))) (h0:0<=i) (h1:i<n) :
  VA P o s (opS x (.own k n)++opS y (.p (.int .i64 i))) [(k,.own wd l)] (.optr k n (i.toNat*I.w)):=by
 refine ⟨?_,yL (zP hx) (zP hy),by simpa using hb⟩;intro cx M κ tip s' a w Y hr N;have v:=N (k,.own wd l) (by simp);simp only at v;have J:=yB Y (yI hx s' (yG hr));have h2:=xK (repA_pv (yB Y (yI hy s' (zX hr))));have hu:=xB E ht;have V:=vK E he w;have D:=zLo (cx:=cx) v W J;obtain ⟨g1,g2⟩:=Y.owns.live v W;rcases g2 with ⟨_,_,rfl⟩ | ⟨b,n1,cap,bz,e1,fz,q1,q2,q3,q4,q5,q6,q7,q8,q9,bm,bl⟩
 ·have hp:=Qt (show 0<n by omega) g1;simp only [Wc] at W;omega
 ·have T:n1=n:=Qb g1 (by omega);subst T;rw [q1] at D;exact ⟨.pointer (some ⟨b,0+i.toNat*I.w,none⟩),by simp [execOp,ho,D,h2,Instr.indexAt,asIntOf,run_underlying hu,h0,h1,V,add_off],.optr k n1 _ wd l _ v (by omega) (λ_=>⟨b,q2,by simp⟩) ⟨_,rfl⟩⟩
theorem yDn {k:Nat} {l:List AV} (N:yO P te) (ho:o.op=.call { callee:=.builtin .len,args:=#[x],argTypes:=#[t] }) (ht:(te t).map (·.ty)=some (.slice e)) (S:s.get te t x=some (.own k n)) (hb:s.blk k=some (.own wd l)) (I:n*wd=l.length):VA P o s (opS x (.own k n)) [(k,.own wd l)] (.p (.int .i64 n)):=by
 refine ⟨?_,zP S,by simpa using hb⟩;intro cx M κ tip s' a w hi hr L;have D:=L (k,.own wd l) (by simp);simp only at D;have y:=zLo (cx:=cx) D I (yB hi (yI S s' hr));have hu:=xB N ht;obtain ⟨T,g2⟩:=hi.owns.live D I;rcases g2 with ⟨y1,_,rfl⟩ | ⟨b,n1,cap,arr,e1,fz,q1,q2,q3,q4,q5,q6,q7,q8,q9,q10,q11⟩
 ·have:n=0:=by
            rcases Qo n with h | h
            ·exact h
            ·have:=Qt h T;simp at I;omega
  subst this;rw [y1] at y;exact ⟨.int .i64 0,by simp [execOp,ho,y,resolve,invoke,builtin,Wj,run_underlying hu,goInt],.p _ _ (.int _ _)⟩
 ·have J:n1=n:=Qb T (by omega);subst J;rw [q1] at y;exact ⟨.int .i64 n1,by simp [execOp,ho,y,resolve,invoke,builtin,Wj,run_underlying hu,goInt],.p _ _ (.int _ _)⟩
theorem zHi {k:Nat} {l:List AV} (N:yO P te) (ho:o.op=.load t x) (ht:te t=some i) (hp:i.plain=true) (V:s.get te ty x=some (.optr k n off)) (hb:s.blk k=some (.own wd l)) (Z:n*wd=l.length) (Y:l[off]? = some v) :
  VA P o s (opS x (.optr k n off)) [(k,.own wd l)] v:=by
 refine ⟨?_,zP V,by simpa using hb⟩;intro cx M κ tip s' a w U hr S;have G:=yB U (yI V s' hr);have E:=S (k,.own wd l) (by simp);obtain ⟨g1,g2⟩:=U.owns.live E Z;generalize K:a.eval x=z at G;cases G with
 | optr _ _ _ w' l' _ h1 h2 h3 hs=>
  rw [E] at h1;cases h1;obtain ⟨b,J,rfl⟩:=h3 Z;rcases g2 with ⟨_,T,_⟩ | ⟨b',n1,cap,F,e1,fz,q1,W,q3,q4,q5,q6,q7,q8,q9,L,bq⟩
  ·rw [J] at T;cases T
  ·rw [J] at W;cases W;have bm:off<l.length:=(List.getElem?_eq_some_iff.1 Y).1;have be:n1*wd<=cap*wd:=Q7 _ q8;have h:off<F.size:=by omega
   have D:w.cell? ⟨b,off,none⟩=some F[off]:=by simp [Qk,q4,h]
   refine ⟨F[off],?_,?_⟩
   ·simp [execOp,ho,K,Instr.loadAt,Qx,gI N ht hp D]
   ·have:=L off v Y;simpa [h] using this
theorem zUf {k:Nat} {b:zN} (h:s.blk k=some b):s.setb k b=s:=by
 cases s with
 | mk env blk=>
  simp only [AS.setb];congr 1;funext t;by_cases v:t=k
  ·simp_all
  ·have:Q5 t k=false:=by rw [Qp];simp_all
   simp_all
end
section
variable {o:Oper} 
def yFf (P:Program) (y:Operand) (rs:LV) (bs:LB) (size m:Nat) (cs:List AV):Prop:=
 ∀ (cx:Ctx) (M:Mem) (κ:Nat->Option Nat) (tip:Nat->Value) (s:AS) (a:Act) (w:World),Inv cx M κ tip s a w->wR s rs->(∀ e∈bs,s.blk e.1=some e.2) ->
  ∃ news,Src P w size m (a.eval y) news/\∀ (j:Nat) (q:AV),cs[j]? = some q->RepA M κ tip s.blk q ((news[j]?).getD undef)
theorem zLi {k:Nat} {l cs:List AV} (hok:yO P te) (hd:o.dst=some d) (ho:o.op=.call { callee:=.builtin .append,args:=#[x,y],argTypes:=#[t,t'] })
  (ht:(te t).map (·.ty)=some (.slice e)) (he:te e=some ei) (ht':P.underlying t'=some dd) (hdd:zAu dd) (hx:s.get te t x=some (.own k n)) (hk:s.blk k=some (.own wd l)) (hn:n*wd=l.length) (E:wd=ei.w) (hz:ei.z.length=ei.w) (hy:s.get te t' y=some vy) (hbs:∀ e∈bs,s.blk e.1=some e.2)
  (hsrc:yFf P y (opS y vy) bs ei.w m cs) (hm:cs.length=m*ei.w) (hone:cs.all AV.one=true) (hb:(n+m)*ei.b<=140737488355328) (hb1:0<ei.b) :
  SA P o s ⟨opS x (.own k n)++opS y vy,(k,.own wd l) :: bs,[],some (d,some (.own k (n+m))),[(k,.own wd (l++cs))]⟩:=by
 refine ⟨?_,yL (zP hx) (zP hy),?_,by intro k hk';simp at hk'⟩
 ·intro cx s' a w K Q hmm hs hws hk';obtain ⟨M,κ,tip,h0,hpk,hi⟩:=hs;have G:=hmm.2.1 (k,.own wd l) (by simp);simp only at G;have hevx:=zLo (cx:=cx) G hn (yB hi (yI hx s' (yG hmm.1)));obtain ⟨D,n1,n2⟩:=hsrc cx M κ tip s' a w hi (zX hmm.1) (λe he=>hmm.2.1 e (by simp [he]));obtain ⟨g1,g2⟩:=hi.owns.live G hn;obtain ⟨info,z,i1,i2,i3,i4,i5⟩:=(hok e ei he).info;have hu:=xB hok ht;have hlen:n+m<=140737488355328:=Qv (Qj _ hb1) hb;have hnl:D.length=m*ei.w:=n1.nl;have hnc:D.length=cs.length:=by omega
  rw [<- i2] at n1;have hzs:z.cells.size=ei.w:=by rw [<- Qr,i5];simpa using hz
  have hlc:(l++cs).length=(n+m)*wd:=by rw [Qz,hm,<- hn,E,Qg]
  have honev:∀ u∈D,u.oneCell'=true:=by
   intro u hu;obtain ⟨j,hj,hju⟩:=Qs hu;have hq:=n2 j cs[j] (by simp);rw [List.getElem?_eq_getElem hj,hju] at hq;exact zEd hq ((Qd.1 hone) _ (W2 _))
  unfold Qy;rcases g2 with ⟨hnil,hκ,rfl⟩ | ⟨b,n',cap,arr,e1,fz,q1,q2,q3,q4,q5,q6,q7,q8,q9,q10,q11⟩
  ·have hn0:n=0:=by
    rcases Qo n with h | h
    ·exact h
    ·have:=Qt h g1;simp only [Wc] at hn;omega
   subst hn0;simp only [List.nil_append,Qf] at *;by_cases hm0:m=0
   ·subst hm0;have hcs:cs=[]:=Q8 (by omega);subst hcs;have F:=mO (P:=P) (ty:=o.type) hu ht' hdd i1 n1;rw [xH ho (hevx.trans hnil) F];show K (a.put o.dst _) _;rw [hd];refine hk' _ _ ?_;rw [vZ,zUf G];exact ⟨M,κ,tip,h0,hpk,hi.put (hws d (by simp [Qq])) (.own k 0 wd [] _ G (by simp) (λ_=>hnil.symm) ⟨_,_,_,rfl⟩)⟩
   ·have F:=jI (P:=P) (ty:=o.type) hu ht' hdd i1 i4 n1 (by omega) (by rw [i3];exact hb) (by omega);rw [xH ho (hevx.trans hnil) F];show K (a.put o.dst _) _;rw [hd];refine hk' _ _ ?_;rw [vZ];have hge:=grownCap_ge w m 0 e;have hsize:(D.toArray++Qi z.cells (grownCap w m 0 e - m)).size=grownCap w m 0 e*ei.w:=by
     simp only [Ql,Qc,size_zeroCells,hzs,hnl,<- Qg];congr 1;omega
    have hml:grownCap w m 0 e<=maxLen:=grownCap_le_maxLen w m 0 e (by simp only [maxLen];omega);have hpos:=Qt (show 0<m by omega) g1;refine ⟨M,_,_,h0,yAz hi hpk G _,(hi.ownNew (k:=k) (wd:=wd) (n:=m) (cap:=grownCap w m 0 e) (l:=cs) (tA w _ e) (.inr ⟨[],G,by simp;omega⟩) g1 (by omega) (by rw [hsize,E];exact Qa _) hge hml ?_).put (hws d (by simp [Qq])) (.own k m wd cs _ (zW _ _ _) (by omega) (λ_=>(yU _ _ _).symm) ⟨_,_,_,rfl⟩)⟩;intro j q hq;have hlt:j<cs.length:=(List.getElem?_eq_some_iff.1 hq).1;rw [Q1,Array.getElem?_append_left (by simp;omega)];have:=n2 j q hq;simpa using this
  ·have hnn:n'=n:=Qb g1 (by omega);subst hnn;have hfit0:n'*wd<=cap*wd:=Q7 _ q8;by_cases hroom:n'+m<=cap
   ·have hfits:(n'+m)*wd<=arr.size:=Qv (Q7 _ hroom) q7;have hadd:(n'+m)*wd=n'*wd+m*wd:=Qg _ _ _;have hnw:D.length=m*wd:=by rw [hnl,E]
    have F:=zAl (P:=P) (ty:=o.type) hu ht' hdd i1 n1 (b:=b) (n:=n') (cap:=cap) honev hroom
     (by
       intro j hj;rw [i2,<- E];have:n'*wd+j<arr.size:=by omega
       simp [Qk,q4,this])
     (by intro j hj;rw [i2,<- E];exact sR q4 q5 (by omega))
    rw [xH ho (hevx.trans q1) F];show K (a.put o.dst _) _;rw [hd];refine hk' _ _ ?_;rw [vZ,i2,<- E];obtain ⟨arr',z1,z2,z3⟩:=rK b D (n'*wd) w arr e1 fz q4 (by omega);refine ⟨M,κ,_,h0,hpk,(hi.ownSet (n':=n'+m) (l':=l++cs) G q1 q2 q3 (by rw [z2];exact q5) z1 (by rw [z2];exact q7) hroom q9 g1 q11 (by omega) (by simp) q6 ?_).put (hws d (by simp [Qq])) (.own k (n'+m) wd (l++cs) _ (zW _ _ _) (by omega) (λ_=>(yU _ _ _).symm) ⟨_,_,_,rfl⟩)⟩;intro j q hq;rw [Q1,z3 j];by_cases hj:j<l.length
    ·rw [List.getElem?_append_left hj] at hq;rw [if_neg (by omega)];have:=q10 j q hq;rw [Q1] at this;exact this
    ·rw [List.getElem?_append_right (by omega)] at hq;have hlt:j - l.length<cs.length:=(List.getElem?_eq_some_iff.1 hq).1;rw [if_pos (by omega)];have:=n2 _ q hq;rw [show j - n'*wd=j - l.length by omega];exact this
   ·have hol:(arr.toList.take (n'*wd)).length=n'*info.size:=by simp [i2,<- E];omega
    have F:=aI (P:=P) (ty:=o.type) hu ht' hdd i1 i4 n1 (b:=b) (n:=n') (cap:=cap) (olds:=arr.toList.take (n'*wd)) hol
     (by
      intro j u hu;rw [List.getElem?_take] at hu;split at hu
      ·simp only [Qk,q4];simpa using hu
      ·cases hu)
     (by omega) (by rw [i3];exact hb) (by omega)
    rw [xH ho (hevx.trans q1) F];show K (a.put o.dst _) _;rw [hd];refine hk' _ _ ?_;rw [vZ];have hge:=grownCap_ge w (n'+m) cap e;have hml:grownCap w (n'+m) cap e<=maxLen:=grownCap_le_maxLen w _ cap e (by simp only [maxLen];omega);have hmp:0<m:=by omega
    have hmw:=Qt hmp g1;have hadd:(n'+m)*wd=n'*wd+m*wd:=Qg _ _ _;have htl:(arr.toList.take (n'*wd)).length=n'*wd:=by simp;omega
    generalize hA:((arr.toList.take (n'*wd)).toArray++D.toArray++Qi z.cells (grownCap w (n'+m) cap e - (n'+m)))=A;have hsize:A.size=grownCap w (n'+m) cap e*ei.w:=by
     rw [<- hA];have hsub:(grownCap w (n'+m) cap e - (n'+m))*ei.w=grownCap w (n'+m) cap e*ei.w - (n'+m)*ei.w:=Nat.sub_mul _ _ _;have hge2:(n'+m)*ei.w<=grownCap w (n'+m) cap e*ei.w:=Q7 _ hge;simp only [Ql,Qc,htl,size_zeroCells,hzs,hnl];rw [hsub,E];rw [E] at hadd;omega
    refine ⟨M,_,_,h0,yAz hi hpk G _,(hi.ownNew (k:=k) (wd:=wd) (n:=n'+m) (cap:=grownCap w (n'+m) cap e) (l:=l++cs) (tA w A e) (.inr ⟨l,G,by omega⟩) g1 (by omega) (by rw [hsize,E];exact Qa _) hge hml ?_).put (hws d (by simp [Qq])) (.own k (n'+m) wd (l++cs) _ (zW _ _ _) (by omega) (λ_=>(yU _ _ _).symm) ⟨_,_,_,rfl⟩)⟩;intro j q hq;have hnw:D.length=m*wd:=by rw [hnl,E]
    have hjt:j<(l++cs).length:=(List.getElem?_eq_some_iff.1 hq).1;rw [Q1,<- hA,Array.getElem?_append_left (by simp only [Ql,Qc,htl];omega)];by_cases hj:j<l.length
    ·rw [List.getElem?_append_left hj] at hq;rw [Array.getElem?_append_left (by simp only [Qc,htl];omega)];have:=q10 j q hq;rw [Q1] at this;simp only [List.getElem?_toArray,List.getElem?_take];rw [if_pos (by omega)];simpa using this
    ·rw [List.getElem?_append_right (by omega)] at hq;rw [Array.getElem?_append_right (by simp only [Qc,htl];omega)];have:=n2 _ q hq;simp only [Qc,htl,List.getElem?_toArray];rw [show j - n'*wd=j - l.length by omega];exact this
 ·intro e he;rcases Q6.1 he with he | he
  ·subst he;exact hk
  ·exact hbs e he
def PV.ecs:PV->List AV
 | .bytes l=>l.map λx=>.p (.int .u8 x.toNat)
 | .str l=>l.map λx=>.p (.int .u8 x.toNat)
 | .sl _ l=>(xJ l).map .p
 | _=>[]
theorem zFf {g:Nat->Value} {v:List Value} (G:rV M p.src g) (U:p.src.isSlice=true) (W:p.src.width=wd) (F:∀ j,j<p.src.len*wd->v[j]? = some (g j)) :
  p.ecs.length=p.src.len*wd/\∀ (j:Nat) (q:AV),p.ecs[j]? = some q->RepA M κ tip B q ((v[j]?).getD undef):=by
 have I:∀ (l:By),rV M (.bytes l) g->(∀ j,j<l.length*1->v[j]? = some (g j))->∀ (j:Nat) (q:AV),(l.map λx=>AV.p (.int .u8 x.toNat))[j]? = some q->RepA M κ tip B q ((v[j]?).getD undef):=by
  intro l G F j q A;rw [List.getElem?_map] at A;obtain ⟨u,J,h2⟩:=Q3.1 A;have Y:j<l.length:=(List.getElem?_eq_some_iff.1 J).1;rw [F j (by omega),<- h2,W3,G j u J];exact .p _ _ (.int _ _)
 cases p with
 | bytes l=>simp only [Qn,W7] at *;subst W;exact ⟨by simp [PV.ecs,Qh],I l G F⟩
 | str l=>simp only [Qn,W7] at *;subst W;exact ⟨by simp [PV.ecs,Qh],I l G F⟩
 | sl w' l=>
  simp only [Qn,W7] at *;subst W;obtain ⟨c1,c2⟩:=G;have N:∀ p∈l,p.cells.length=w':=λp D=>by obtain ⟨i,hi,h⟩:=Qs D;exact c1 i p (by simp [hi,h])
  obtain ⟨f1,f2⟩:=zFc l N;refine ⟨by simp [PV.ecs,Qh,f1],λj q A=>?_⟩;simp only [PV.ecs] at A;rw [List.getElem?_map] at A;obtain ⟨u,J,h2⟩:=Q3.1 A;have Y:j<(xJ l).length:=(List.getElem?_eq_some_iff.1 J).1;have Z:0<w':=by
   rcases Qo w' with h | h
   ·subst h;omega
   ·exact h
  have S:w'*(j / w')+j % w'=j:=Wd j w';have hi:j / w'<l.length:=W8 (by rw [W4];omega);have D:l[j / w']? = some l[j / w']:=by simp
  have V:=c1 _ _ D;have hr:j % w'<l[j / w'].cells.length:=by rw [V];exact Nat.mod_lt _ Z
  have K:l[j / w'].cells[j % w']? = some l[j / w'].cells[j % w']:=by simp
  have e:j / w'*w'+j % w'=j:=by rw [W4];exact S
  have h3:=f2 _ _ _ _ D K;rw [e,J] at h3;cases h3;have h4:=c2 _ _ _ _ D K;rw [e] at h4;rw [F j (by simp only [Qh];omega),<- h2,W3];exact .p _ _ h4
 | _=>simp [Qn,W0] at U
theorem zF1 {L:AV} (Z:s.get te U y=some L) (Y:s.rd L=some (p,bs)) (K:p.src.isSlice=true) (J:p.src.width=wd) (V:0<wd):yFf P y (opS y L) bs wd p.src.len p.ecs:=by
 intro cx M κ tip s' a w G T W;have h:=eK G Z Y T W;cases p with
 | str l=>
  rw [zE6 h];obtain ⟨d,g,F,D,A⟩:=zR2 (P:=P) (M:=M) (w:=w) l;have v:wd=1:=by rw [<- J];rfl
  subst v;exact ⟨d,F,(zFf (p:=.str l) D rfl rfl A).2⟩
 | bytes l=>
  obtain ⟨d,g,F,D,A⟩:=zCu (P:=P) G.mem rfl h (by simp [W7]);have v:wd=1:=by rw [<- J];rfl
  subst v;exact ⟨d,F,(zFf (p:=.bytes l) D rfl rfl A).2⟩
 | sl w' l=>
  have v:wd=w':=by rw [<- J];rfl
  subst v;obtain ⟨d,g,F,D,A⟩:=zCu (P:=P) G.mem rfl h (by simp [W7];omega);exact ⟨d,F,(zFf (p:=.sl wd l) D rfl rfl A).2⟩
 | _=>simp [Qn,W0] at K
theorem zMf {v:List AV} (N:s.get te W y=some (.ref A 0 m)) (hl:v.length=m*wd):yFf P y (opS y (.ref A 0 m)) [(A,.var v)] wd m v:=by
 intro cx M κ tip s' a w J U hb;have D:=hb (A,.var v) (by simp);have h:=yB J (yI N s' U);obtain ⟨b,F,e,fz,Y,q2,q3,q4,Z,q6,q7⟩:=J.vars A v D;generalize S:a.eval y=z at h;cases h with
 | ref _ _ _ b' l' L g2=>
 rw [Y] at L;cases L;refine ⟨F.toList,⟨λw'=>by rfl,λw' G=>?_,by simp;omega⟩,λj q T=>?_⟩
 ·refine run_firstCells_some (P:=P) w' wd m ⟨b,0,none⟩ m m _ (by simp;omega) ?_;intro j u V;rw [add_off];refine G _ _ ?_;simp only [Qk,q2,Qf];simpa using V
 simp_all
theorem zSv {ps:Array (Nat×Operand)} {vs:LV} {l:List AV} (hok:yO P te) (hd:o.dst=some d) (ho:o.op=.buildSlice t n ps) (hpl:ps.toList=pl) (ht:(te t).map (·.ty)=some (.slice e)) (he:te e=some ei) (hz:ei.z.length=ei.w) (hw0:0<ei.w) (hn:n*ei.w<=16777216)
  (hp:oD s te pl vs rs) (hf:oC (λj=>some (j*ei.w,ei.w)) (rR ei.z n) vs=some l) (hln:n*ei.w=l.length) (hk:s.blk d=none):SA P o s ⟨rs,[],[d],some (d,some (.own d n)),[(d,.own ei.w l)]⟩:=by
 refine ⟨?_,hp.reads,by intro e he;simp at he,by intro k hk';simp at hk';subst hk';exact hk⟩;intro cx s' a w K Q hm hs hw hk';obtain ⟨M,κ,tip,h0,hpk,hi⟩:=hs;have hpr:=hp.rep hi hm.1;have hxs:(ps.map λ(i,x)=>(i,a.eval x)).toList=pl.map λp=>(p.1,a.eval p.2):=by simp [<- hpl]
 obtain ⟨arr,hrun,hcr⟩:=zKv hok ht he hz hn (xs:=ps.map λ(i,x)=>(i,a.eval x)) (by rw [hxs];exact hpr) hf w;have hb:=hm.2.2 d (by simp);unfold Qy;have:(execOp a.eval o).run P w=.ok (.value (.slice (some ⟨w.heap.size,0,none⟩) n n)) (w.alloc (.cells arr e)):=by simp [execOp,ho,hrun]
 rw [this];show K (a.put o.dst _) _;rw [hd];refine hk' _ _ ?_;rw [eC];have hnn:n<=n*ei.w:=Qj _ hw0;exact ⟨M,_,_,h0,zDp hi hpk hb _,(hi.ownNew (k:=d) (wd:=ei.w) (n:=n) (cap:=n) (l:=l) (cK w arr e) (.inl hb) hw0 hln (by rw [hcr.1];omega) (Qa _) (by simp only [maxLen];omega) hcr.2).put (hw d (by simp [Qq])) (.own d n ei.w l _ (zW _ _ _) (by omega) (λ_=>(yU _ _ _).symm) ⟨_,_,_,rfl⟩)⟩
theorem zM6 {v:TI} {cs:List AV} (hok:yO P te) (hd:o.dst=some d) (ho:o.op=.call { callee:=.builtin .append,args:=#[x,y],argTypes:=#[t,t'] })
  (ht:(te t).map (·.ty)=some (.slice e)) (he:te e=some v) (ht':P.underlying t'=some dd) (hdd:zAu dd) (hx:s.get te t x=some (.nl c)) (hw0:0<v.w) (hz:v.z.length=v.w) (hy:s.get te t' y=some vy) (hbs:∀ e∈bs,s.blk e.1=some e.2)
  (T:yFf P y (opS y vy) bs v.w m cs) (hm:cs.length=m*v.w) (hb:m*v.b<=140737488355328) (hb1:0<v.b) (hk:s.blk d=none) :
  SA P o s ⟨opS x (.nl c)++opS y vy,bs,[d],some (d,some (.own d m)),[(d,.own v.w cs)]⟩:=by
 refine ⟨?_,yL (zP hx) (zP hy),hbs,by intro k D;simp at D;subst D;exact hk⟩;intro cx s' a w K Q E hs hws D;obtain ⟨M,κ,tip,h0,hpk,hi⟩:=hs;have L:=E.2.2 d (by simp);have F:a.eval x=.slice none 0 0:=by
  have hx':=yB hi (yI hx s' (yG E.1));generalize a.eval x=z at hx';cases hx' with
  | nl _ _=>rfl
 obtain ⟨G,n1,n2⟩:=T cx M κ tip s' a w hi (zX E.1) E.2.1;obtain ⟨info,z,i1,i2,i3,i4,i5⟩:=(hok e v he).info;have hu:=xB hok ht;have hlen:m<=140737488355328:=Qv (Qj _ hb1) hb;have hnl:G.length=m*v.w:=n1.nl;rw [<- i2] at n1;have hzs:z.cells.size=v.w:=by rw [<- Qr,i5];simpa using hz
 unfold Qy;by_cases hm0:m=0
 ·subst hm0;have hcs:cs=[]:=Q8 (by omega);subst hcs;have A:=mO (P:=P) (ty:=o.type) hu ht' hdd i1 n1;rw [xH ho F A];show K (a.put o.dst _) _;rw [hd];refine D _ _ ?_;rw [eC];exact ⟨M,κ,_,h0,hpk,(hi.ownNil L hw0).put (hws d (by simp [Qq])) (.own d 0 v.w [] _ (zW _ _ _) (by simp) (λ_=>(yU _ _ _).symm) ⟨_,_,_,rfl⟩)⟩
 ·have A:=jI (P:=P) (ty:=o.type) hu ht' hdd i1 i4 n1 (by omega) (by rw [i3];exact hb) (by omega);rw [xH ho F A];show K (a.put o.dst _) _;rw [hd];refine D _ _ ?_;rw [eC];have hge:=grownCap_ge w m 0 e;have N:(G.toArray++Qi z.cells (grownCap w m 0 e - m)).size=grownCap w m 0 e*v.w:=by
   simp only [Ql,Qc,size_zeroCells,hzs,hnl,<- Qg];congr 1;omega
  have hml:grownCap w m 0 e<=maxLen:=grownCap_le_maxLen w m 0 e (by simp only [maxLen];omega);refine ⟨M,_,_,h0,zDp hi hpk L _,(hi.ownNew (k:=d) (wd:=v.w) (n:=m) (cap:=grownCap w m 0 e) (l:=cs) (tA w _ e) (.inl L) hw0 (by omega) (by rw [N];exact Qa _) hge hml ?_).put (hws d (by simp [Qq])) (.own d m v.w cs _ (zW _ _ _) (by omega) (λ_=>(yU _ _ _).symm) ⟨_,_,_,rfl⟩)⟩;intro j q hq;have hlt:j<cs.length:=(List.getElem?_eq_some_iff.1 hq).1;rw [Q1,Array.getElem?_append_left (by simp;omega)];have:=n2 j q hq;simpa using this
end
mutual
def fzV (k m:Nat):AV->AV
 | .own j n=>bif Q5 j k then .buf j m else .own j n
 | .ag l=>.ag (fzL k m l)
 | .tu l=>.tu (fzL k m l)
 | .fnv f l=>.fnv f (fzL k m l)
 | v=>v
def fzL (k m:Nat):List AV->List AV
 | []=>[]
 | v :: r=>fzV k m v :: fzL k m r
end
mutual
def wX (k n:Nat):AV->Bool
 | .own j m=>!Nat.beq j k||Q5 m n
 | .optr j _ _=>!Nat.beq j k
 | .osl j _ _ _=>!Nat.beq j k
 | .ag l=>wG k n l
 | .tu l=>wG k n l
 | .fnv _ l=>wG k n l
 | _=>true
def wG (k n:Nat):List AV->Bool
 | []=>true
 | v :: r=>wX k n v&&wG k n r
end
def fzB (k m:Nat):zN->zN
 | .var l=>.var (fzL k m l)
 | .own w l=>.own w (fzL k m l)
 | .buf c=>.buf c
def fyE (k m:Nat):LV->LV
 | []=>[]
 | (t,v) :: r=>(t,fzV k m v) :: fyE k m r
def zD4 (k m:Nat) (c:PV):LB->LB
 | []=>[]
 | (i,b) :: r=>(bif Q5 i k then (i,.buf c) else (i,fzB k m b)) :: zD4 k m c r
def pP (k n:Nat):LV->Bool
 | []=>true
 | (_,v) :: r=>wX k n v&&pP k n r
def sQ (k n:Nat):LB->Bool
 | []=>true
 | (_,.var l) :: r=>wG k n l&&sQ k n r
 | (_,.own _ l) :: r=>wG k n l&&sQ k n r
 | (_,.buf _) :: r=>sQ k n r
theorem kS (k m:Nat):∀ (l:List AV),(fzL k m l).length=l.length/\∀ (j:Nat),(fzL k m l)[j]? = (l[j]?).map (fzV k m)
 | []=>⟨rfl,by simp [fzL]⟩
 | v :: r=>by
  obtain ⟨F,E⟩:=kS k m r;refine ⟨by simp [fzL,F],λj=>?_⟩;cases j with
  | zero=>rfl
  | succ j=>simp [fzL,E j]
theorem zCd {k:Nat}:∀ (l:List AV),wG k n l=true->∀ (j:Nat) (q:AV),l[j]? = some q->wX k n q=true
 | [],_,_,_,h=>by simp_all
 | v :: r,h,0,q,A=>by
  simp only [wG] at h;simp_all
 | v :: r,h,j+1,q,A=>by
  simp only [wG,Q4] at h;exact zCd r h.2 j q (by simp_all)
theorem zRb {k:Nat} (f:h->PV):∀ (l:List h),fzL k m (l.map λx=>AV.p (f x))=l.map λx=>AV.p (f x)
 | []=>rfl
 | _ :: r=>by simp only [Qe,fzL,fzV];rw [zRb f r]
theorem zXn {k:Nat}:∀ (l:List PV),fzL k m (l.map AV.p)=l.map AV.p
 | []=>rfl
 | _ :: r=>by simp only [Qe,fzL,fzV];rw [zXn r]
theorem vL {k:Nat} (f:h->PV):∀ (l:List h),wG k n (l.map λx=>AV.p (f x))=true
 | []=>rfl
 | _ :: r=>by exact vL f r
theorem vQ {k:Nat}:∀ (l:List PV),wG k n (l.map AV.p)=true
 | []=>rfl
 | _ :: r=>by simp only [Qe,wG,wX,Bool.true_and];exact vQ r
theorem pP.mem {k:Nat}:∀ {l:LV},pP k n l=true->∀ {t v},(t,v)∈l->wX k n v=true
 | (_,_) :: _,h,_,_,y=>by
  simp only [pP,Q4] at h;rcases Q6.1 y with e | y
  ·simp_all
  ·exact pP.mem h.2 y
theorem sQ.mem {k:Nat}:∀ {l:LB},sQ k n l=true->∀ {t b},(t,b)∈l->(∀ v,b=.var v->wG k n v=true)/\∀ w v,b=.own w v->wG k n v=true
 | (_,.var u) :: _,h,_,_,d=>by
  simp only [sQ,Q4] at h;rcases Q6.1 d with e | d
  ·simp_all
  ·exact sQ.mem h.2 d
 | (_,.own w u) :: _,h,_,_,d=>by
  simp only [sQ,Q4] at h;rcases Q6.1 d with e | d
  ·simp_all
  ·exact sQ.mem h.2 d
 | (_,.buf u) :: _,h,_,_,d=>by
  simp only [sQ] at h;rcases Q6.1 d with e | d
  ·simp_all
  ·exact sQ.mem h d
theorem yAf {k:Nat}:∀ {l:LV} {t:Nat} {v:AV},lk (fyE k m l) t=some v->∃ u,lk l t=some u/\v=fzV k m u
 | [],_,_,h=>by simp [fyE,lk] at h
 | (i,x) :: r,t,v,h=>by
  simp only [fyE,lk] at h ⊢;cases D:Q5 t i with
  | true=>simp_all
  | false=>simp [D] at h;simpa using yAf h
theorem zEx {k:Nat} :∀ {l:LB} {t:Nat},lk (zD4 k m c l) t=(lk l t).map (λb=>bif Q5 t k then .buf c else fzB k m b)
 | [],t=>by rfl
 | (i,x) :: r,t=>by
  simp only [zD4,lk];cases y:Q5 t i with
  | true=>
   have:=Q2 y;subst this;cases D:Q5 t k<;>simp [lk]
  | false=>
   cases D:Q5 i k<;>simp [y,zEx]
theorem RepA.fz {M':Mem} {B':NB} {k:Nat} {l:List AV} (hM:M.le M') (hk:B k=some (.own wd l)) (hn:n*wd=l.length) (V:∀ i b,i≠k->B i=some b->B' i=some (fzB k n b)) (bh:B' k=some (.buf c)) (hc:c.isSlice=true) (bd:c.len=n) (bf:Rep M' c (tip k))
  {x:Value} (hr:RepA M κ tip B v x):wX k n v=true->RepA M' κ tip B' (fzV k n v) x:=by
 have N:∀ {i:Nat} {b:zN},B i=some b->(∀ w l,b≠.own w l)->i≠k:=by
  rintro i b d D rfl;rw [hk] at d;cases d;exact D _ _ rfl
 induction hr with
 | p v x d=>intro _;exact .p v x (d.mono hM)
 | nl c d=>intro _;exact .nl c d
 | ptr i o b l d D=>intro _;exact .ptr i o b _ d (V i _ (N D (by intros;simp)) D)
 | ref i o n b l d D=>intro _;exact .ref i o n b _ d (V i _ (N D (by intros;simp)) D)
 | buf i n c x d L D y S=>intro _;exact .buf i n c x (V i _ (N d (by intros;simp)) d) L D (y.mono hM) S
 | ag l Y d _ ih=>
  intro h;obtain ⟨r1,G⟩:=kS k n l;refine .ag _ Y (by omega) (λj q F=>?_);rw [G] at F;obtain ⟨I,y,S⟩:=Q3.1 F;subst S;exact ih j I y (zCd l h j I y)
 | tu l Y d _ ih=>
  intro h;obtain ⟨r1,G⟩:=kS k n l;refine .tu _ Y (by omega) (λj q F=>?_);rw [G] at F;obtain ⟨I,y,S⟩:=Q3.1 F;subst S;exact ih j I y (zCd l h j I y)
 | fnv f l Y d _ ih=>
  intro h;obtain ⟨r1,G⟩:=kS k n l;refine .fnv f _ Y (by omega) (λj q F=>?_);rw [G] at F;obtain ⟨I,y,S⟩:=Q3.1 F;subst S;exact ih j I y (zCd l h j I y)
 | own i m w J x d D y L=>
  intro h;simp only [wX] at h;cases Z:Q5 i k with
  | true=>
   have:=Q2 Z;subst this;simp [Z] at h;subst h;rw [hk] at d;cases d;simp only [fzV,Z,cond_true];have hx:=y hn;refine .buf i m c x bh hc (by omega) ?_ (λ_=>hx);rw [<- bd,sP hc,hx];exact bf
  | false=>
   have E:i≠k:=by rintro rfl;simp at Z
   simp only [fzV,Z,cond_false];obtain ⟨r1,G⟩:=kS k n J;exact .own i m w (fzL k n J) x (V i _ E d) (by omega) (λe=>y (by omega)) L
 | optr i m o w J x d D y L=>
  intro h;simp only [wX] at h;have E:i≠k:=by rintro rfl;simp at h
  obtain ⟨r1,G⟩:=kS k n J;exact .optr i m o w (fzL k n J) x (V i _ E d) (by omega) (λe=>y (by omega)) L
 | osl i m o q w J x d D y L=>
  intro h;simp only [wX] at h;have E:i≠k:=by rintro rfl;simp at h
  obtain ⟨r1,G⟩:=kS k n J;exact .osl i m o q w (fzL k n J) x (V i _ E d) (by omega) (λe=>y (by omega)) L
theorem Imp.freezeO (k:Nat) {l:List AV} (hb:lk blk k=some (.own wd l)) (hn:n*wd=l.length) (hrd:(mkS env blk).rdL l=some (cs,bs)) (hc:dA wd c cs) (hcn:c.len=n) (hm:m=n)
  (h1:pP k n env=true) (h2:sQ k n blk=true) (he:fyE k m env=env') (hbb:zD4 k m c blk=blk') (bg:Q9 k BIG=true:=by rfl):Imp pk (mkS env blk) (mkS env' blk'):=by
 subst he hbb hm;intro cx a w hcx hs;obtain ⟨M,κ,tip,h0,hp,J⟩:=hs;have bg:=Q0 bg;obtain ⟨g1,g2⟩:=J.owns.live hb hn;have key:∃ M',M.le M'/\Rep M' c (tip k)/\c.isSlice=true/\c.width=wd/\(∀ b o x,M' b o=some x->w.cell? ⟨b,o,none⟩=some x)/\(∀ b o,κ k≠some b->M' b o=M b o) /\
   ((tip k=.slice none 0 0/\κ k=none)∨∃ b n cap A e fz,tip k=.slice (some ⟨b,0,none⟩) n cap/\κ k=some b/\cx.w0.heap.size<=b /\
    w.heap[b]? = some (.cells A e fz)/\zD3 fz A.size/\cap*c.width<=A.size/\cap<=maxLen/\∀ j,n*c.width<=j->M' b j=none):=by
  rcases g2 with ⟨y1,W,rfl⟩ | ⟨b,n',cap,A,e,fz,q1,q2,q3,q4,q5,q6,q7,q8,q9,q10,q11⟩
  ·simp [AS.rdL] at hrd;obtain ⟨rfl,rfl⟩:=hrd;obtain ⟨c1,c2,c3,c4⟩:=hc.cells (M:=M) (f:=λ_=>undef) (by simp);have bc:c.len=0:=by
    rcases Qo c.len with h | h
    ·exact h
    ·have:=Qt h g1;simp at c4;omega
   refine ⟨M,Mem.le_refl M,?_,c2,c3,J.mem,λ_ _ _=>rfl,.inl ⟨y1,W⟩⟩;rw [y1];cases c with
   | bytes l=>simp [Qh] at bc;subst bc;exact .bytes0
   | sl w l=>simp [Qh] at bc;subst bc;exact .sl0 w
   | _=>simp [W0] at c2
  ·have hnn:n'=m:=Qb g1 (by omega);subst hnn;have hfit:n'*wd<=cap*wd:=Q7 _ q8;obtain ⟨r1,r2⟩:=aK hrd q10;obtain ⟨c1,c2,c3,c4⟩:=hc.cells r2;have L:M.le (xY M b 0 (n'*wd) (A[·]?)):=uM λo _ _=>q11 o;refine ⟨xY M b 0 (n'*wd) (A[·]?),L,?_,c2,c3,λb' o x h=>?_,λb' o I=>?_,.inr ⟨b,n',cap,A,e,fz,q1,q2,q3.resolve_right (λh=>by omega),q4,q5,by rw [c3];exact q7,q9,λj hj=>?_⟩⟩
   ·rw [q1];have:=wH (M':=xY M b 0 (n'*wd) (A[·]?)) (b:=b) (o:=0) (cap:=cap) c1 c2 L ?_ (by omega)
    ·rwa [hcn] at this
    intro j hj;rw [hcn,c3] at hj;simp only [xY,Qf];rw [if_pos ⟨trivial,W6 _,hj⟩];have:j<A.size:=by omega
    simp [this]
   ·unfold xY at h;split at h
    ·rename_i hc';obtain ⟨rfl,_,hlt⟩:=hc';simp only [Qk,q4];simpa using h
    ·exact J.mem b' o x h
   ·unfold xY;rw [if_neg (by intro h;exact I (by rw [h.1];exact q2))]
   ·unfold xY;rw [c3] at hj;rw [if_neg (by omega)];exact q11 j
 obtain ⟨M',L,bi,hcs,hcw,hmem,S,hrow⟩:=key;have hB:∀ i b,i≠k->lk blk i=some b->lk (zD4 k m c blk) i=some (fzB k m b):=λi b I h=>by
  have:Q5 i k=false:=by rw [Qp];intro e;exact I (Q2 e)
  rw [zEx,h,this];rfl
 have hBk:lk (zD4 k m c blk) k=some (.buf c):=by rw [zEx,hb];simp
 have hBi:∀ i b',lk (zD4 k m c blk) i=some b'->(i=k/\b'=.buf c)∨(i≠k/\∃ b,lk blk i=some b/\b'=fzB k m b):=by
  intro i b' h;rw [zEx] at h;obtain ⟨b,E,D⟩:=Q3.1 h;cases hq:Q5 i k with
  | true=>simp [hq] at D;exact .inl ⟨Q2 hq,D.symm⟩
  | false=>simp [hq] at D;exact .inr ⟨by rintro rfl;simp at hq,b,E,D.symm⟩
 have bh:∀ {v:AV} {x:Value},RepA M κ tip (lk blk) v x->wX k m v=true->RepA M' κ tip (lk (zD4 k m c blk)) (fzV k m v) x:=λh ho=>h.fz L hb hn hB hBk hcs hcn bi ho;have N:∀ (li:List AV),wG k m li=true->∀ {A:Array Value},(∀ (j:Nat) (q:AV),li[j]? = some q->RepA M κ tip (lk blk) q (A.getD j undef))->∀ (j:Nat) (q:AV),(fzL k m li)[j]? = some q->RepA M' κ tip (lk (zD4 k m c blk)) q (A.getD j undef):=by
  intro li ho A hr j q hq;rw [(kS k m li).2] at hq;obtain ⟨q',E,D⟩:=Q3.1 hq;subst D;exact bh (hr j q' E) (zCd li ho j q' E)
 refine ⟨M',κ,tip,h0.trans' L,hp,{
  defers:=J.defers
  size:=J.size
  fr:=J.fr
  mem:=hmem
  env:=λu v h=>by
   obtain ⟨v',E,rfl⟩:=yAf (show lk (fyE k m env) u=some v from h);obtain ⟨y,D,h5⟩:=J.env u v' E;exact ⟨y,D,bh h5 (pP.mem h1 (sY env u v' E))⟩
  vars:=λi li h=>by
   rcases hBi i _ h with ⟨_,E⟩ | ⟨I,b,E,D⟩
   ·cases E
   ·cases b with
    | buf _=>simp [fzB] at D
    | own _ _=>simp [fzB] at D
    | var Z=>
     simp only [fzB,zN.var.injEq] at D;subst D;obtain ⟨U,K,e2,T,z1,z2,z3,z4,z5,z6,z7⟩:=J.vars i Z E;exact ⟨U,K,e2,T,z1,z2,z3,by rw [(kS k m Z).1];exact z4,N Z ((sQ.mem h2 (sY blk i _ E)).1 Z rfl) z5,λo=>by rw [S U o (λe=>I (J.inj i k U z1 e))];exact z6 o,z7⟩
  bufs:=λi ci h=>by
   rcases hBi i _ h with ⟨rfl,E⟩ | ⟨I,b,E,D⟩
   ·cases E;exact ⟨bi,hcs,by omega,hrow⟩
   ·cases b with
    | own _ _=>simp [fzB] at D
    | var _=>simp [fzB] at D
    | buf c0=>
     simp only [fzB,zN.buf.injEq] at D;subst D;obtain ⟨z1,z2,z3,z4⟩:=J.bufs i ci E;refine ⟨z1.mono L,z2,z3,?_⟩;rcases z4 with z4 | ⟨U,n2,V,K,e2,T,y1,W,y3,y4,y5,y6,y7,y8⟩
     ·exact .inl z4
     ·exact .inr ⟨U,n2,V,K,e2,T,y1,W,y3,y4,y5,y6,y7,λj hj=>by rw [S U j (λe=>I (J.inj i k U W e))];exact y8 j hj⟩
  inj:=J.inj
  dom:=λi h=>by
   have h':lk (zD4 k m c blk) i=none:=h;rw [zEx] at h';exact J.dom i (show lk blk i=none by simpa using h')
  glob:=J.glob.mono L
  old:=⟨λb' o hb'=>by
   rw [S b' o (λe=>?_)]
   ·exact J.old.1 b' o hb'
   ·rcases hrow with ⟨_,W⟩ | ⟨b,_,_,_,_,_,_,W,y3,_⟩
    ·rw [W] at e;cases e
    ·rw [W] at e;cases e;omega,J.old.2⟩
  owns:=λi wi li h=>by
   rcases hBi i _ h with ⟨_,E⟩ | ⟨I,b,E,D⟩
   ·cases E
   ·cases b with
    | buf _=>simp [fzB] at D
    | var _=>simp [fzB] at D
    | own w0 Z=>
     simp only [fzB,zN.own.injEq] at D;obtain ⟨rfl,rfl⟩:=D;rcases J.owns i wi Z E with ⟨z0,z1,rfl⟩ | ⟨z0,z⟩
     ·exact .inl ⟨z0,z1,rfl⟩
     refine .inr ⟨z0,?_⟩;rcases z with ⟨z1,z2,rfl⟩ | ⟨U,n2,V,K,e2,T,y1,W,y3,y4,y5,y6,y7,y8,y9,y10,y11⟩
     ·exact .inl ⟨z1,z2,rfl⟩
     ·exact .inr ⟨U,n2,V,K,e2,T,y1,W,y3,y4,y5,by rw [(kS k m Z).1];exact y6,y7,y8,y9,N Z ((sQ.mem h2 (sY blk i _ E)).2 wi Z rfl) y10,λo=>by rw [S U o (λe=>I (J.inj i k U W e))];exact y11 o⟩}⟩
theorem Imp.promO {S:PKs} {t k:Nat} (wd:Nat) (Y:s.env t=some (.nl c)) (U:s.blk k=none) (hw:Q9 0 wd=true):Imp S s ((s.setb k (.own wd [])).put t (.own k 0)):=by
 intro cx a w _ Z;obtain ⟨M,κ,tip,W,N,J⟩:=Z;have ba:=Q0 hw;have d:=J.ownNil (wd:=wd) U (by omega);obtain ⟨x,E,F⟩:=J.env t _ Y;cases F with
 | nl _ hc=>
 refine ⟨M,κ,_,W,N,{ d with env:=λu v h=>?_ }⟩;simp only [AS.put] at h;cases L:Q5 u t with
 | true=>
  have:=Q2 L;subst this;simp at h;subst h;exact ⟨_,E,.own k 0 wd [] _ (zW _ _ _) (by simp) (λ_=>(yU _ _ _).symm) ⟨_,_,_,rfl⟩⟩
 | false=>
  simp [L] at h;exact d.env u v h
abbrev qO (c:PV):zN:=.own c.width c.ecs
theorem zF7:∀ (a b:List PV),xJ (a++b)=xJ a++xJ b
 | [],_=>rfl
 | x :: r,b=>by simp [xJ,zF7 r b]
theorem tJ (l:By):l.length*1=(PV.ecs (.bytes l)).length:=by simp [PV.ecs]
theorem zL8 {y:Type} {f:y->PV} {w:Nat} (A:∀ a,(f a).cells.length=w):∀ (l:List y),(xJ (l.map f)).length=l.length*w
 | []=>by simp [xJ]
 | x :: r=>by simp only [Qe,xJ,Qz,A,zL8 A r,List.length_cons];rw [Qg];omega
theorem tC {v:Type} {f:v->PV} {w:Nat} (y:∀ a,(f a).cells.length=w) (l:List v):l.length*w=(PV.ecs (.sl w (l.map f))).length:=by simp [PV.ecs,zL8 y]
theorem yHh:∀ (l:List PV),s.rdL (l.map AV.p)=some (l,[])
 | []=>rfl
 | x :: r=>by simp [AS.rdL,AS.rd,yHh r]
theorem yFe (l:By):s.rdL (PV.ecs (.bytes l))=some (l.map λx=>PV.int .u8 x.toNat,[]):=by
 exact tV
theorem yD5 {w:Nat} (l:List PV):s.rdL (PV.ecs (.sl w l))=some (xJ l,[]):=by exact yHh _
theorem zE1 {y:Type} {f:y->PV} {w:Nat} (A:∀ a,(f a).cells.length=w) {l:List y} {u:y} (h:l[j]? = some u) {o:Nat} (D:(f u).cells[o]? = some q):(PV.ecs (.sl w (l.map f)))[j*w+o]? = some (.p q):=by
 obtain ⟨_,E⟩:=zFc (l.map f) (w:=w) (by simp_all);simp only [PV.ecs];simp_all
theorem zNa {S:Type} {f:S->PV} {w:Nat} (v:∀ a,(f a).cells.length=w) {l:List S} (u:S) (h:j<l.length):uO (PV.ecs (.sl w (l.map f))) (j*w) ((f u).cells.map AV.p)=PV.ecs (.sl w ((l.set j u).map f)):=by
 have ba:=tC v l;have V:(j+1)*w<=l.length*w:=Q7 _ h;rw [Qg] at V;have F:((f u).cells.map AV.p).length=w:=by simp [v]
 have hw:∀ p∈(l.set j u).map f,p.cells.length=w:=by intro p Y;obtain ⟨a,_,rfl⟩:=Qu.1 Y;exact v a
 have be:∀ p∈l.map f,p.cells.length=w:=by intro p Y;obtain ⟨a,_,rfl⟩:=Qu.1 Y;exact v a
 apply List.ext_getElem?;intro o;rw [lL (by rw [F];omega),F];rcases Qo w with hz | y
 ·subst hz;have L:(PV.ecs (.sl 0 (l.map f)))=[]:=Q8 (by omega);have K:(PV.ecs (.sl 0 ((l.set j u).map f)))=[]:=Q8 (by have:=tC v (l.set j u);omega);rw [if_neg (by omega),L,K]
 ·by_cases ho:o<l.length*w
  ·have W:w*(o / w)+o % w=o:=Wd o w;have G:o / w*w+o % w=o:=by rw [W4];exact W
   have hi:o / w<l.length:=W8 (by rw [W4];exact ho);have Z:o % w<w:=Nat.mod_lt _ y;by_cases T:j*w<=o/\o<j*w+w
   ·rw [if_pos T];have A:o / w=j:=Nat.div_eq_of_lt_le (by omega) (by rw [Qg];omega);have I:o - j*w=o % w:=by rw [A] at G;omega
    have E:o % w<(f u).cells.length:=by rw [v];exact Z
    have:=zE1 v (l:=l.set j u) (j:=j) (u:=u) (by simp [h]) (o:=o % w) (q:=(f u).cells[o % w]) (by simp);rw [A] at G;rw [G] at this;rw [this,I,List.getElem?_map];simp [E]
   ·rw [if_neg T];have U:o / w≠j:=by
     intro e;rw [e] at G;exact T ⟨by omega,by omega⟩
    have E:o % w<(f l[o / w]).cells.length:=by rw [v];exact Z
    have L:=zE1 v (l:=l) (j:=o / w) (u:=l[o / w]) (by simp) (o:=o % w) (q:=(f l[o / w]).cells[o % w]) (by simp);have K:=zE1 v (l:=l.set j u) (j:=o / w) (u:=l[o / w]) (by rw [List.getElem?_set_ne (Ne.symm U)];simp) (o:=o % w) (q:=(f l[o / w]).cells[o % w]) (by simp);rw [G] at L K;rw [L,K]
  ·rw [if_neg (by omega),List.getElem?_eq_none (by omega),List.getElem?_eq_none (by have:=tC v (l.set j u);rw [List.length_set] at this;omega)]
section
theorem zDo {o:Oper} {k:Nat} {l:List AV} (bf:yO P te) (hd:o.dst=none) (ho:o.op=.store t ax x) (ht:te t=some i) (ha:s.get te ta ax=some (.optr k n off)) (hx:s.get te t x=some v) (hp:s.rd v=some (p,bs)) (hb:s.blk k=some (.own wd l)) (hn:n*wd=l.length)
  (hw:p.cells.length=i.w) (hl:off+i.w<=l.length) (V:p.cells.all W9=true):SA P o s ⟨opS ax (.optr k n off)++opS x v,(k,.own wd l) :: bs,[],none,[(k,.own wd (uO l off (p.cells.map AV.p)))]⟩:=by
 have hpc:(AV.p p).cells=p.cells.map AV.p:=by cases p<;>rfl
 refine ⟨?_,yL (zP ha) (zP hx),?_,by intro e D;simp at D⟩
 ·intro cx s' a w K Q hm hs hws hk;obtain ⟨M,κ,tip,h0,hpk,hi⟩:=hs;have A:=hm.2.1 (k,.own wd l) (by simp);simp only at A;have hr:=eK hi hx hp (zX hm.1) (λe D=>hm.2.1 e (by simp [D]));have Y:=yB hi (yI ha s' (yG hm.1));have hx':RepA M κ tip s'.blk (.p p) (a.eval x):=.p _ _ hr;obtain ⟨J,L⟩:=bG hx';rw [hpc] at J L;obtain ⟨g1,g2⟩:=hi.owns.live A hn;generalize hev:a.eval ax=z at Y;cases Y with
  | optr _ _ _ w' l' _ h1 h2 h3 hs=>
   rw [A] at h1;cases h1;obtain ⟨b,S,rfl⟩:=h3 hn;rcases g2 with ⟨_,y2,_⟩ | ⟨b',n1,cap,Z,e1,fz,q1,q2,q3,q4,q5,q6,q7,q8,q9,q10,be⟩
   ·rw [S] at y2;cases y2
   ·rw [S] at q2;cases q2;have hnn:n1=n:=Qb g1 (by omega);subst hnn;have hfit:n1*wd<=cap*wd:=Q7 _ q8;have hpl:(p.cells.map AV.p).length=i.w:=by simp [hw]
    have T:(a.eval x).cells.toList.length=(p.cells.map AV.p).length:=by simp only [Qr,J]
    have F:=run_storeCells_cells (P:=P) b off (a.eval x).cells.toList 0 w
     (by
       intro j G;rw [T] at G;have:off+j<Z.size:=by omega
       simp [Qk,q4,this])
     (by intro j G;rw [T] at G;simp only [W1];exact sR q4 q5 (by omega))
     (by
      intro u hu;obtain ⟨j,G,hju⟩:=Qs hu;have bg:j<p.cells.length:=by simp only [W5] at T;omega
      have I:=L j (.p p.cells[j]) (by simp [bg]);have hjs:j<(a.eval x).cells.size:=by simpa using G
      have:(a.eval x).cells.getD j undef=u:=by simp [hjs];simpa using hju
      rw [this] at I;exact zEd I ((Qd.1 V) _ (W2 _)))
    unfold Qy;have:(execOp a.eval o).run P w=.ok .skip (w.setCells b off (a.eval x).cells.toList):=by
     simp only [W1] at F;have hcs:¬ ((a.eval x).cells.size≠i.w):=by rw [J,hpl];simp
     simp [execOp,ho,hev,Wh,Qx,storeVar,vK bf ht,hcs,F]
    rw [this];show K (a.put o.dst undef) _;rw [hd];refine hk _ _ ?_;rw [zCx];obtain ⟨arr',z1,z2,z3⟩:=rK b (a.eval x).cells.toList off w Z e1 fz q4 (by omega);have hlen:=zCn (l:=l) (cs:=p.cells.map AV.p) (off:=off) (by omega);refine ⟨M,κ,_,h0,hpk,hi.ownSet (n':=n1) A q1 S q3 (by rw [z2];exact q5) z1 (by rw [z2];exact q7) q8 q9 g1 be (by omega) (by omega) q6 ?_⟩;intro j q I;rw [lL (by omega)] at I;rw [Q1,z3 j];by_cases G:off<=j/\j<off+(p.cells.map AV.p).length
    ·rw [if_pos G] at I;rw [if_pos (by omega)];have:=L (j - off) q I;rw [Q1] at this;simpa using this
    ·rw [if_neg G] at I;rw [if_neg (by omega)];have:=q10 j q I;rw [Q1] at this;exact this
 ·intro e D;rcases Q6.1 D with D | D
  ·subst D;exact hb
  ·exact uJ v p bs hp e D
end
section
variable [T:pB P] {r:List Oper} 
theorem RK.xoB {k0:Nat} {i:Int} (hn:l.length=n) (h:ixN n i=some j) (ht:(T.te t).map (·.ty)=some (.slice e)) (he:T.te e=some ei) (hw:1=ei.w) (hx:s.get T.te t x=some (.own k0 n)) (hb:s.blk k0=some (qO (.bytes l))) (hy:s.get T.te 0 y=some (.p (.int .i64 i)))
  (k:VK P ops r s K d (opS x (.own k0 n)++opS y (.p (.int .i64 i))) [(k0,qO (.bytes l))] (.optr k0 n j)):RK P ops (⟨some d,.indexAddr t x y,ty,pos,af,none⟩:: r) s K:=by
 subst hn;obtain ⟨h0,h1,h2⟩:=zE5 h;have:=zLh (P:=P) (o:=⟨some d,.indexAddr t x y,ty,pos,af,none⟩) T.ok rfl ht he hx hb (tJ l) hw hy h0 h1;rw [<- h2,<- hw,Nat.mul_one] at this;exact RK.va rfl rfl this k
theorem RK.xoM {S:Type} (f:S->PV) {w:Nat} {D:Nat} {l:List S} {i:Int} {V:TI} (hn:l.length=n) (h:ixN n i=some j) (hf:∀ a,(f a).cells.length=w) (ht:(T.te t).map (·.ty)=some (.slice e)) (he:T.te e=some V) (W:w=V.w) (Z:s.get T.te t x=some (.own D n)) (Y:s.blk D=some (qO (.sl w (l.map f)))) (hy:s.get T.te 0 y=some (.p (.int .i64 i)))
  (k:VK P ops r s K d (opS x (.own D n)++opS y (.p (.int .i64 i))) [(D,qO (.sl w (l.map f)))] (.optr D n (j*w))):RK P ops (⟨some d,.indexAddr t x y,ty,pos,af,none⟩:: r) s K:=by
 subst hn;obtain ⟨h0,h1,h2⟩:=zE5 h;have:=zLh (o:=⟨some d,.indexAddr t x y,ty,pos,af,none⟩) T.ok rfl ht he Z Y (tC hf l) W hy h0 h1;rw [<- h2,<- W] at this;exact RK.va rfl rfl this k
theorem RK.xoK {w:Nat} {l:List AV} {V:TI} (i:Nat) (h:Q9 i n=true) (ht:(T.te t).map (·.ty)=some (.slice e)) (he:T.te e=some V) (S:w=V.w) (hx:s.get T.te t x=some (.own E n)) (W:s.blk E=some (.own w l)) (hn:Q5 (n*w) l.length=true) (Y:s.get T.te 0 y=some (.p (.int .i64 (i:Nat))))
  (k:VK P ops r s K d (opS x (.own E n)++opS y (.p (.int .i64 (i:Nat)))) [(E,.own w l)] (.optr E n (i*w))):RK P ops (⟨some d,.indexAddr t x y,ty,pos,af,none⟩:: r) s K:=by
 have hi:=Q0 h;have:=zLh (o:=⟨some d,.indexAddr t x y,ty,pos,af,none⟩) T.ok rfl ht he hx W (Q2 hn) S Y (by omega) (by omega);rw [<- S] at this;exact RK.va rfl rfl this k
theorem RK.lnO {w:Nat} {l:List AV} (W:n*w=l.length) (v:((T.te t).map (·.ty),s.get T.te t x,s.blk A)=(some (.slice e),some (.own A n),some (.own w l))) (k:VK P ops r s K d (opS x (.own A n)) [(A,.own w l)] (.p (.int .i64 n))):RK P ops (⟨some d,.call ⟨.builtin .len,#[x],#[t]⟩,ty,pos,af,none⟩:: r) s K:=have ⟨G,v⟩:=pq v;have ⟨L,J⟩:=pq v;RK.va rfl rfl (yDn T.ok rfl G L J W) k
theorem RK.ldoB {k0:Nat} {u:UInt8} (hn:l.length=n) (h:l[j]? = some u) (ht:T.te t=some i) (hp:i.plain=true) (hx:s.get T.te 0 x=some (.optr k0 n j)) (hb:s.blk k0=some (qO (.bytes l)))
  (k:VK P ops r s K d (opS x (.optr k0 n j)) [(k0,qO (.bytes l))] (.p (.int .u8 u.toNat))):RK P ops (⟨some d,.load t x,ty,pos,af,none⟩:: r) s K:=by
 subst hn;exact RK.va rfl rfl (zHi T.ok rfl ht hp hx hb (tJ l) (by simp [PV.ecs,h])) k
theorem RK.ldoK {D w:Nat} {l:List AV} (S:T.te t=some i) (I:i.plain=true) (L:s.get T.te 0 x=some (.optr D n off)) (U:s.blk D=some (.own w l)) (N:Q5 (n*w) l.length=true) (J:l[off]? = some v)
  (k:VK P ops r s K d (opS x (.optr D n off)) [(D,.own w l)] v):RK P ops (⟨some d,.load t x,ty,pos,af,none⟩:: r) s K:=
 RK.va rfl rfl (zHi T.ok rfl S I L U (Q2 N) J) k
theorem zQh (u:UInt8) (h:j<l.length):uO (PV.ecs (.bytes l)) j ([PV.int .u8 u.toNat].map AV.p)=PV.ecs (.bytes (l.set j u)):=by
 simp only [PV.ecs,Qe,Wi];rw [zCz (by simpa using h),List.map_set]
theorem RK.stoB {k0:Nat} {u:UInt8} (hn:l.length=n) (h:wL l j u=some l') (ht:T.te t=some i) (hw:i.w=1) (ha:s.get T.te 0 ax=some (.optr k0 n j)) (hx:s.get T.te t x=some (.p (.int .u8 u.toNat))) (hb:s.blk k0=some (qO (.bytes l)))
  (k:RK P ops r (s.setb k0 (qO (.bytes l'))) λs' ms=>K s' (⟨opS ax (.optr k0 n j)++opS x (.p (.int .u8 u.toNat)),[(k0,qO (.bytes l))],[],none,[(k0,qO (.bytes l'))]⟩:: ms)):RK P ops (⟨none,.store t ax x,ty,pos,af,none⟩:: r) s K:=by
 subst hn;obtain ⟨h1,h2⟩:=fM h;have hlen:=tJ l;have:=zDo (P:=P) (o:=⟨none,.store t ax x,ty,pos,af,none⟩) T.ok rfl rfl ht ha hx rfl hb (tJ l) (by simp [PV.cells,hw]) (by omega) rfl;have e:uO (PV.ecs (.bytes l)) j ((PV.int .u8 (u.toNat:Int)).cells.map AV.p)=PV.ecs (.bytes l'):=by rw [h2];exact zQh u h1
 rw [e] at this;exact RK.so rfl this k
theorem RK.stoM {J:Type} (f:J->PV) {w:Nat} {G:Operand} {D:Nat} {l l':List J} {u:J} (hn:l.length=n) (h:wL l j u=some l') (I:∀ a,(f a).cells.length=w) (E:∀ a,(f a).cells.all W9=true) (ht:T.te t=some i) (hw:w=i.w) (ha:s.get T.te 0 G=some (.optr D n (j*w))) (hx:s.get T.te t x=some v) (hp:s.rd v=some (f u,bs)) (Z:s.blk D=some (qO (.sl w (l.map f))))
  (k:RK P ops r (s.setb D (qO (.sl w (l'.map f)))) λs' ms=>K s' (⟨opS G (.optr D n (j*w))++opS x v,(D,qO (.sl w (l.map f))) :: bs,[],none,[(D,qO (.sl w (l'.map f)))]⟩:: ms)):RK P ops (⟨none,.store t G x,ty,pos,af,none⟩:: r) s K:=by
 subst hn;obtain ⟨V,h2⟩:=fM h;have U:(j+1)*w<=l.length*w:=Q7 _ V;rw [Qg] at U;have W:=tC I l;have:=zDo (o:=⟨none,.store t G x,ty,pos,af,none⟩) T.ok rfl rfl ht ha hx hp Z (tC I l) (by simp_all) (by omega) (E u);rw [zNa I u V,<- h2] at this;exact RK.so rfl this k
theorem yBu (l:By):(PV.ecs (.bytes l)).all AV.one=true:=by simp [PV.ecs,AV.one,W9]
theorem zL5 {A:Type} {f:A->PV} {w:Nat} (d:∀ a,(f a).cells.all W9=true):∀ (l:List A),(PV.ecs (.sl w (l.map f))).all AV.one=true
 | []=>rfl
 | a :: r=>by
  have:=zL5 d r (w:=w);simp only [PV.ecs,Qe,xJ,List.map_append,List.all_append,Q4] at this ⊢;refine ⟨?_,this⟩;have D:=d a;simp only [Qd,Qu] at D ⊢;rintro q ⟨p,F,rfl⟩;exact D p F
theorem RK.aoB {N:TypeId} {S:AV} {b:Nat} {m u:By} (hn:l.length=n) (h:yK b l m=some u) (ht:(T.te t).map (·.ty)=some (.slice e)) (he:T.te e=some G) (Z:(T.te N).map (·.ty)=some (.slice W)) (hx:s.get T.te t x=some (.own F n)) (hk:s.blk F=some (qO (.bytes l))) (E:1=G.w) (hz:G.z.length=G.w) (hy:s.get T.te N y=some S) (hp:s.rd S=some (.bytes m,bs)) (hb:G.b=b) (V:Q9 0 b=true)
  (k:BK P ops r s K d (opS x (.own F n)++opS y S) ((F,qO (.bytes l)) :: bs) [] F (qO (.bytes u)) (.own F u.length)):RK P ops (⟨some d,.call ⟨.builtin .append,#[x,y],#[t,N]⟩,ty,pos,af,none⟩:: r) s K:=by
 subst hn;obtain ⟨hu,U⟩:=kD h;subst hb;have br:=Q0 V;have:=zLi (o:=⟨some d,.call _,ty,pos,af,none⟩) T.ok rfl rfl ht he (xB T.ok Z) (.inr ⟨_,rfl⟩) hx hk (tJ l) E hz hy (uJ S _ bs hp) (zF1 hy hp rfl E (by omega)) (by rw [<- E];exact (tJ m).symm) (yBu m) (by assumption) (by omega);have e1:PV.ecs (.bytes l)++PV.ecs (.bytes m)=PV.ecs (.bytes u):=by rw [hu];simp [PV.ecs]
 have W:l.length+(Qn (.bytes m)).len=u.length:=by rw [hu];simp [Qn,Qh]
 rw [e1,W] at this;exact RK.sb rfl this k
theorem RK.aoM (f:α->PV) {w:Nat} {L:TI} {W:AV} {b:Nat} {J:Nat} {l m u:List α} (hn:l.length=n) (h:yK b l m=some u) (hf:∀ a,(f a).cells.length=w) (V:∀ a,(f a).cells.all W9=true) (ht:(T.te t).map (·.ty)=some (.slice e)) (he:T.te e=some L) (bf:(T.te Y).map (·.ty)=some (.slice e2)) (hx:s.get T.te t x=some (.own J n)) (hk:s.blk J=some (qO (.sl w (l.map f)))) (G:w=L.w) (bg:Q9 0 w=true) (hz:L.z.length=L.w) (hy:s.get T.te Y y=some W) (hp:s.rd W=some (.sl w (m.map f),bs)) (hb:L.b=b) (Z:Q9 0 b=true)
  (k:BK P ops r s K d (opS x (.own J n)++opS y W) ((J,qO (.sl w (l.map f))) :: bs) [] J (qO (.sl w (u.map f))) (.own J u.length)):RK P ops (⟨some d,.call ⟨.builtin .append,#[x,y],#[t,Y]⟩,ty,pos,af,none⟩:: r) s K:=by
 subst hn;obtain ⟨hu,bd⟩:=kD h;subst hb;have bn:=Q0 Z;have cb:=Q0 bg;have:=zLi (o:=⟨some d,.call _,ty,pos,af,none⟩) T.ok rfl rfl ht he (xB T.ok bf) (.inr ⟨_,rfl⟩) hx hk (tC hf l) G hz hy (uJ W _ bs hp) (zF1 hy hp rfl G (by omega)) (by rw [<- G];simp only [Qn,Qh,W5];exact (tC hf m).symm) (zL5 V m) (by simpa [Qn,Qh] using bd) (by omega);have e1:PV.ecs (.sl w (l.map f))++PV.ecs (.sl w (m.map f))=PV.ecs (.sl w (u.map f)):=by rw [hu];simp [PV.ecs,zF7]
 have e2:l.length+(Qn (.sl w (m.map f))).len=u.length:=by rw [hu];simp [Qn,Qh]
 rw [e1,e2] at this;exact RK.sb rfl this k
theorem RK.aoR {w:Nat} {N:TI} {b G W:Nat} {l I:List AV} (ht:(T.te t).map (·.ty)=some (.slice e)) (V:T.te e=some N) (bf:(T.te Y).map (·.ty)=some (.slice e2)) (hx:s.get T.te t x=some (.own G n)) (hk:s.blk G=some (.own w l)) (hn:Q5 (n*w) l.length=true) (F:w=N.w) (hz:N.z.length=N.w) (hy:s.get T.te Y y=some (.ref W 0 m)) (bh:s.blk W=some (.var I)) (hm:Q5 I.length (m*w)=true) (L:I.all AV.one=true) (hb:N.b=b) (ba:Q9 0 b=true) (Z:Qw ((n+m)*b) 140737488355328=true)
  (k:BK P ops r s K d (opS x (.own G n)++opS y (.ref W 0 m)) [(G,.own w l),(W,.var I)] [] G (.own w (l++I)) (.own G (n+m))):RK P ops (⟨some d,.call ⟨.builtin .append,#[x,y],#[t,Y]⟩,ty,pos,af,none⟩:: r) s K:=by
 subst hb;have bk:=Q0 ba;have U:=Q2 hm;exact RK.sb rfl (zLi T.ok rfl rfl ht V (xB T.ok bf) (.inr ⟨_,rfl⟩) hx hk (Q2 hn) F hz hy (by simp_all) (by rw [<- F];exact zMf hy U) (by simp_all) L (yZ Z) (by omega)) k
theorem RK.anB {L:AV} {b:Nat} {m u:By} (h:yK b [] m=some u) (ht:(T.te t).map (·.ty)=some (.slice e)) (he:T.te e=some I) (W:(T.te J).map (·.ty)=some (.slice e2)) (hx:s.get T.te t x=some (.nl c)) (F:1=I.w) (hz:I.z.length=I.w) (hy:s.get T.te J y=some L) (Z:s.rd L=some (.bytes m,bs)) (hb:I.b=b) (U:Q9 0 b=true) (hk:s.blk d=none)
  (k:BK P ops r s K d (opS x (.nl c)++opS y L) bs [d] d (qO (.bytes u)) (.own d u.length)):RK P ops (⟨some d,.call ⟨.builtin .append,#[x,y],#[t,J]⟩,ty,pos,af,none⟩:: r) s K:=by
 obtain ⟨hu,N⟩:=kD h;subst hu;subst hb;have bk:=Q0 U;have:=zM6 (o:=⟨some d,.call _,ty,pos,af,none⟩) T.ok rfl rfl ht he (xB T.ok W) (.inr ⟨_,rfl⟩) hx (by omega) hz hy (uJ L _ bs Z) (zF1 hy Z rfl F (by omega)) (by rw [<- F];exact (tJ u).symm) (by simpa [Qn,Qh] using N) (by omega) hk;rw [<- F] at this;exact RK.sb rfl this k
theorem RK.anR {w:Nat} {b L:Nat} (ht:(T.te t).map (·.ty)=some (.slice e)) (V:T.te e=some G) (ba:(T.te U).map (·.ty)=some (.slice e2)) (hx:s.get T.te t x=some (.nl c)) (F:w=G.w) (be:Q9 0 w=true) (hz:G.z.length=G.w) (hy:s.get T.te U y=some (.ref L 0 m)) (bf:s.blk L=some (.var S)) (hm:Q5 S.length (m*w)=true) (hb:G.b=b) (bd:Q9 0 b=true) (W:Qw (m*b) 140737488355328=true) (hk:s.blk d=none)
  (k:BK P ops r s K d (opS x (.nl c)++opS y (.ref L 0 m)) [(L,.var S)] [d] d (.own w S) (.own d m)):RK P ops (⟨some d,.call ⟨.builtin .append,#[x,y],#[t,U]⟩,ty,pos,af,none⟩:: r) s K:=by
 subst hb;have bv:=Q0 bd;have bt:=Q0 be;have J:=Q2 hm;have:=zM6 (bs:=[(L,.var S)]) (o:=⟨some d,.call _,ty,pos,af,none⟩) T.ok rfl rfl ht V (xB T.ok ba) (.inr ⟨_,rfl⟩) hx (by omega) hz hy (by simp_all) (by rw [<- F];exact zMf hy J) (by simp_all) (yZ W) (by omega) hk;rw [<- F] at this;exact RK.sb rfl this k
theorem RK.clO {xs:Array Operand} {ts:Array TypeId} {blks':LB} (h:Ok P f na (mkS (argE 0 ps) []) (mkS [(0,av)] blks)) (hB:bR (sh d) blks=blks') (hxl0:(xs.toList,ts.toList)=(xl,tl)) (ha:iF s T.te xl tl ps rs bb) (hn0:(Q5 na ps.length,(kR (sh d) blks).all (λk=>(s.blk k).isNone))=(true,true))
  (k:RK P ops r (Mic.upd ⟨rs,bb,kR (sh d) blks,some (d,some (av.ren (sh d))),blks'⟩ s) λs' ms=>K s' (⟨rs,bb,kR (sh d) blks,some (d,some (av.ren (sh d))),blks'⟩:: ms)):RK P ops (⟨some d,.call ⟨.value (.func f),xs,ts⟩,ty,pos,af,none⟩:: r) s K:=have ⟨hxl,htl⟩:=pq hxl0;have ⟨hn,hf⟩:=pq hn0;by
 subst hB;subst hxl htl;exact RK.cl h rfl ha (by rw [hn,hf]) k
theorem RK.lo {w:Nat} {pa:Array (Nat×Operand)} {vs:LV} {l:List AV} (hpl:pa.toList=pl) (ht:(T.te t).map (·.ty)=some (.slice e)) (he:T.te e=some ei) (hw:ei.w=w) (hw0:Q9 0 w=true) (hz:ei.z.length=ei.w) (hn:Qw (n*ei.w) 16777216=true) (hp:oD s T.te pl vs rs) (hf:oC (λj=>some (j*ei.w,ei.w)) (rR ei.z n) vs=some l) (hln:Q5 (n*ei.w) l.length=true) (hk:s.blk d=none)
  (k:BK P ops r s K d rs [] [d] d (.own w l) (.own d n)):RK P ops (⟨some d,.buildSlice t n pa,ty,pos,af,none⟩:: r) s K:=by
 subst hw;have hw2:=Q0 hw0;exact RK.sb rfl (zSv T.ok rfl rfl hpl ht he hz (by omega) (yZ hn) hp hf (Q2 hln) hk) k
end
theorem fxB (k:Nat) (u:By) (hn:u.length=n) (hb:lk blk k=some (qO (.bytes u))) (h1:pP k n env=true) (h2:sQ k n blk=true) (he:fyE k u.length env=env') (hbb:zD4 k u.length (.bytes u) blk=blk') (hbig:Q9 k BIG=true:=by rfl):Imp cx.pk (mkS env blk) (mkS env' blk'):=
 Imp.freezeO k hb (by rw [<- hn];exact tJ u) (yFe u) (zBf u) hn hn h1 h2 he hbb hbig
theorem fxM (k:Nat) (f:α->PV) (w:Nat) (u:List α) (hf:∀ a,(f a).cells.length=w) (hn:u.length=n) (hb:lk blk k=some (qO (.sl w (u.map f)))) (h1:pP k n env=true) (h2:sQ k n blk=true) (he:fyE k u.length env=env') (hbb:zD4 k u.length (.sl w (u.map f)) blk=blk') (hbig:Q9 k BIG=true:=by rfl):Imp cx.pk (mkS env blk) (mkS env' blk'):=
 Imp.freezeO k hb (by rw [<- hn];exact tC hf u) (yD5 (u.map f)) (yIq u hf) (by simp [Qh,hn]) hn h1 h2 he hbb hbig
theorem fxK (k:Nat) (f:α->PV) (u:List α) {l:List AV} (hf:∀ a,(f a).cells=[f a]) (hb:lk blk k=some (.own 1 l)) (hn:u.length=n) (hl:l.length=n) (hrd:(mkS env blk).rdL l=some (u.map f,bs)) (h1:pP k n env=true) (h2:sQ k n blk=true) (he:fyE k u.length env=env') (hbb:zD4 k u.length (.sl 1 (u.map f)) blk=blk') (hbig:Q9 k BIG=true:=by rfl):Imp cx.pk (mkS env blk) (mkS env' blk'):=
 Imp.freezeO k hb (by omega) hrd (zKf hf u) (by simp [Qh,hn]) hn h1 h2 he hbb hbig
theorem uN (a b:Nat):Q5 a b=decide (a=b):=by
 cases h:Q5 a b with
 | true=>simp_all
 | false=>symm;simp only [decide_eq_false_iff_not];rintro rfl;simp_all
theorem Imp.ofEq {d:PKs} (h:s=s'):Imp d s s':=by subst h;exact λ_ _ _ _ h=>h
theorem nB {v:Type} {l l':List v} {u:v} (h:wL l j u=some l') (y:l.length=n):l'.length=n:=by
 obtain ⟨_,A⟩:=fM h;simp_all
theorem oE:oW B c.ecs=true:=by
 cases c<;>first | rfl | (exact zDz _ _)
theorem uI {k:Nat} :wG k n c.ecs=true:=by
 cases c<;>first | rfl | (exact vL _ _)
theorem yHd {k:Nat} :fzL k m c.ecs=c.ecs:=by
 cases c<;>first | rfl | (exact zRb _ _)
theorem dB {y:Nat->Nat} :oG y c.ecs=c.ecs:=by
 have h:∀ {d:Type} (f:d->PV) (l:List d),oG y (l.map λx=>AV.p (f x))=l.map λx=>AV.p (f x):=by
  intro d f l;induction l with
  | nil=>rfl
  | cons x r D=>simp only [Qe,oG,AV.ren,D]
 cases c<;>first | rfl | (exact h _ _)
def zGt (P:Program) (cx:Ctx) (body:Code) (Q:Exit->AS->Prop):Nat->AS->Prop
 | 0,_=>False
 | n+1,s=>awp P cx body (zRx (zGt P cx body Q n) Q) s
theorem ar {d:Code} (h:awp P cx d (zRx (zGt P cx d Q n) Q) s):zGt P cx d Q (n+1) s:=h
theorem zD0 {d:Code} (n:Nat) (h:zGt P cx d Q n s):awp P cx (.loop d) Q s:=by
 intro a w J;refine wp_loop_rounds n ?_;induction n generalizing s a w with
 | zero=>assumption
 | succ n G=>
  refine wp_mono (h a w J) ?_;rintro e I w' ⟨s',E,y⟩;cases e with
  | normal=>exact G y I w' E
  | _=>exact ⟨s',E,y⟩
section
variable {o:Oper} 
end
section
variable [T:pB P] {r:List Oper} 
end
abbrev GO:=Option (Nat×Nat×List PV)
variable {O:GO}
inductive GV0 (O:GO) (s:AS) (ρ:Nat->Nat) (D:List Nat):AV->AV->LB->Prop where
 | p {v:AV} {q:PV} {bs:LB}:s.rd v=some (q,bs)->GV0 O s ρ D v (.p q) bs
 | ptr {k j o:Nat}:ρ j=k->j∈D->GV0 O s ρ D (.ptr k o) (.ptr j o) []
 | ref {k j o n:Nat}:ρ j=k->j∈D->GV0 O s ρ D (.ref k o n) (.ref j o n) []
 | own {k n wd:Nat} {cs:List PV}:O=some (k,wd,cs)->GV0 O s ρ D (.own k n) (.own BIG n) []
inductive GVs (O:GO) (s:AS) (ρ:Nat->Nat) (D:List Nat):List AV->List AV->LB->Prop where
 | nil:GVs O s ρ D [] [] []
 | cons {v u:AV} {vs us:List AV} {b bs:LB}:GV0 O s ρ D v u b->GVs O s ρ D vs us bs->GVs O s ρ D (v :: vs) (u :: us) (b++bs)
inductive GB (O:GO) (s:AS) (ρ:Nat->Nat) (D:List Nat):List (Nat×List AV)->LB->Prop where
 | nil:GB O s ρ D [] []
 | cons {j:Nat} {us as:List AV} {b bs:LB} {r:List (Nat×List AV)}:s.blk (ρ j)=some (.var as)->GVs O s ρ D as us b->GB O s ρ D r bs->GB O s ρ D ((j,us) :: r) ((ρ j,.var as) :: (b++bs))
def bV:List (Nat×List AV)->LB
 | []=>[]
 | (j,us) :: r=>(j,.var us) :: bV r
section
end
section
end
section
variable {us as:List AV} {k o:Nat} {r:List (Nat×List AV)}
theorem glp (A:s.rd v=some (q,b)) (k:GVs O s ρ D vs us bs):GVs O s ρ D (v :: vs) (.p q :: us) (b++bs):=.cons (.p A) k
theorem gb (h:s.blk (ρ j)=some (.var as)) (g:GVs O s ρ D as us b) (k:GB O s ρ D r bs):GB O s ρ D ((j,us) :: r) ((ρ j,.var as) :: (b++bs)):=.cons h g k
end
section
end
section
variable [T:pB P] {r:List Oper} 
end
section
theorem zTa {o:Oper} {N S:Operand} {a b:Nat} {kh:IntKind} {k:Nat} {l:List AV} (J:yO P te) (ho:o.op=.slice t x (some N) (some S) none)
  (ht:(te t).map (·.ty)=some (.slice e)) (he:te e=some ei) (hw:ei.w=1) (hx:s.get te t x=some (.own k n)) (hb:s.blk k=some (.own 1 l)) (hn:n=l.length)
  (Z:s.get te 0 N=some (.p (.int kl (a:Nat)))) (U:s.get te 0 S=some (.p (.int kh (b:Nat)))) (h1:a<b) (h2:b<=n) :
  VA P o s (opS x (.own k n)++(opS N (.p (.int kl (a:Nat)))++opS S (.p (.int kh (b:Nat))))) [(k,.own 1 l)] (.osl k n a (b - a)):=by
 have bl:Bd s te (some N) (some (a:Int)) _:=.some _ _ _ Z;have bh:Bd s te (some S) (some (b:Int)) _:=.some _ _ _ U;refine ⟨?_,yL (zP hx) (yL bl.reads bh.reads),by simpa using hb⟩;intro cx M κ tip s' ac w y Y V;have v:=V (k,.own 1 l) (by simp);simp only at v;obtain ⟨fl,K⟩:=bl.eval y (yG (zX Y));obtain ⟨fh,G⟩:=bh.eval y (zX (zX Y));have hu:=xB J ht;have ba:=vK J he w;have I:=zLo (cx:=cx) v (by omega) (yB y (yI hx s' (yG Y)));obtain ⟨g1,g2⟩:=y.owns.live v (n:=n) (by omega);rcases g2 with ⟨_,_,rfl⟩ | ⟨b0,n1,cap,arr,e1,fz,q1,q2,q3,q4,q5,q6,q7,q8,q9,q10,q11⟩
 ·simp at hn;omega
 ·have W:n1=n:=by omega
  subst W;rw [q1] at I;have L:=aW P w true n1 cap (some (a:Int)) (some (b:Int)) none fl fh fl (by simp) (by simp) (by simp;omega) (by simp;omega) (by simp);have T:¬ cap=a:=by omega
  refine ⟨.slice (some ⟨b0,0+a,none⟩) (b - a) (cap - a),?_,.osl k n1 a (b - a) 1 l _ v (by omega) (λ_=>⟨b0,cap - a,q2,by simp,by omega⟩) ⟨_,_,_,rfl⟩⟩;simp only [We,Option.map_none,W3,Int.toNat_natCast,Option.getD_none] at L K G;simp [execOp,ho,I,Wg,Instr.slice,run_underlying hu,K,G,L,ba,hw,T,add_off]
theorem yAr {o:Oper} {k:Nat} {l:List AV} {m:By} (hok:yO P te) (hd:o.dst=some d) (ho:o.op=.call { callee:=.builtin .copy,args:=#[x,y],argTypes:=#[t,t'] }) (ht:(te t).map (·.ty)=some (.slice e)) (he:te e=some ei) (hw:ei.w=1)
  (hx:s.get te t x=some (.osl k N off n)) (hk:s.blk k=some (.own 1 l)) (hN:N=l.length) (hl:off+n<=l.length) (hy:s.get te t' y=some vy) (hp:s.rd vy=some (.bytes m,bs)) :
  SA P o s ⟨opS x (.osl k N off n)++opS y vy,(k,.own 1 l) :: bs,[],some (d,some (.p (.int .i64 (min m.length n:Nat)))),[(k,.own 1 (uO l off ((m.take n).map λu=>.p (.int .u8 u.toNat))))]⟩:=by
 refine ⟨?_,yL (zP hx) (zP hy),λe he=>(Q6.1 he).elim (λh=>by subst h;exact hk) (uJ vy _ bs hp e),by intro k hk';simp at hk'⟩;intro cx s' a w K Q hm hs' hws hk';obtain ⟨M,κ,tip,h0,hpk,hi⟩:=hs';have hbk:s'.blk k=some (.own 1 l):=hm.2.1 (k,.own 1 l) (by simp);have hx':=yB hi (yI hx s' (yG hm.1));have hy':=eK hi hy hp (zX hm.1) (λe he=>hm.2.1 e (by simp [he]));obtain ⟨info,z,i1,i2,i3,i4,i5⟩:=(hok e ei he).info;have hu:=xB hok ht;have F:(P.info? e).map (·.size)=some 1:=by rw [i1,We,i2,hw]
 generalize hev:a.eval x=zx at hx';cases hx' with
 | osl _ _ _ _ w' l' _ g1 g2 g3 g4=>
 rw [hbk] at g1;cases g1;obtain ⟨b,c,hκ,rfl,hnc⟩:=g3 (by omega);obtain ⟨_,g5⟩:=hi.owns.live hbk (n:=N) (by omega);rcases g5 with ⟨_,y2,_⟩ | ⟨b',n1,cap,arr,e1,fz,q1,q2,q3,q4,q5,q6,q7,q8,q9,q10,q11⟩
 ·rw [hκ] at y2;cases y2
 rw [hκ] at q2;cases q2;have hnn:n1=N:=by omega
 subst hnn;have J:∀ (w':World) (U:List Value),(execOp a.eval o).run P w=.ok (.value (.int .i64 (min m.length n:Nat))) w'->w'=w.setCells b off U->U=(m.take n).map (λu=>.int .u8 u.toNat)->o.wp P a w K Q:=by
  intro w' U h1 h2 h3;subst h2;unfold Qy;rw [h1];show K (a.put o.dst _) _;rw [hd];refine hk' _ _ ?_;rw [vZ];have hvl:U.length=((m.take n).map λu=>(AV.p (.int .u8 u.toNat))).length:=by simp [h3]
  have hvn:U.length<=n:=by rw [h3];simp;omega
  obtain ⟨arr',z1,z2,z3⟩:=rK b U off w arr e1 fz q4 (by omega);have hlen:=zCn (l:=l) (cs:=(m.take n).map λu=>(AV.p (.int .u8 u.toNat))) (off:=off) (by omega);refine ⟨M,κ,_,h0,hpk,(hi.ownSet (n':=n1) hbk q1 hκ q3 (by rw [z2];exact q5) z1 (by rw [z2];exact q7) q8 q9 (by omega) q11 (by omega) (by omega) q6 ?_).put (hws d (by simp [Qq])) (.p _ _ (.int _ _))⟩;intro j q hq;rw [lL (by omega)] at hq;rw [Q1,z3 j];by_cases hj:off<=j/\j<off+U.length
  ·rw [if_pos (by omega)] at hq;rw [if_pos hj];rw [List.getElem?_map] at hq;obtain ⟨u,h4,h5⟩:=Q3.1 hq;subst h5;rw [h3,List.getElem?_map,h4];exact .p _ _ (.int _ _)
  ·rw [if_neg (by omega)] at hq;rw [if_neg hj];have:=q10 j q hq;rw [Q1] at this;exact this
 generalize I:a.eval y=zy at hy';cases hy' with
 | bytes0=>
  refine J w [] ?_ rfl (by simp);have:=run_copy_none (P:=P) w t t' o.type e (some ⟨b,off,none⟩) none n c 0 0 hu F (by simp [Nat.min_def]);simp [execOp,ho,hev,I,resolve,invoke,builtin,this,goInt]
 | bytesE aa=>
  refine J w [] ?_ rfl (by simp);have:=run_copy_none (P:=P) w t t' o.type e (some ⟨b,off,none⟩) (some aa) n c 0 0 hu F (by simp [Nat.min_def]);simp [execOp,ho,hev,I,resolve,invoke,builtin,this,goInt]
 | bytes _ b2 o2 n2 c2 e1' e2' e3'=>
  have hcs:((m.take n).map λu=>Value.int .u8 u.toNat).length=Nat.min n2 n:=by simp [e1',Nat.min_comm]
  have T:=run_copy_cells (P:=P) w t t' o.type e b off n c ⟨b2,o2,none⟩ n2 c2 ((m.take n).map λu=>Value.int .u8 u.toNat) hu F hcs
   (by
    intro j u S;rw [List.getElem?_map] at S;obtain ⟨u',h4,h5⟩:=Q3.1 S;rw [List.getElem?_take] at h4;split at h4
    ·rw [add_off,<- h5];exact hi.mem _ _ _ (e3' j u' h4)
    ·cases h4)
   (by
     intro j hj;simp at hj;have:off+j<arr.size:=by omega
     simp [Qk,q4,this])
   (by intro j hj;simp at hj;exact sR q4 q5 (by omega))
   (by intro u S;obtain ⟨u',_,rfl⟩:=Qu.1 S;rfl)
  refine J _ _ ?_ rfl rfl;have hmin:((m.take n).map λu=>Value.int .u8 u.toNat).length=min m.length n:=by simp [Nat.min_comm]
  rw [hmin] at T;simp [execOp,ho,hev,I,resolve,invoke,builtin,T,goInt]
end
def cpA (l:By) (o n:Nat) (m:By):By:=l.take o++(m.take n++l.drop (o+(m.take n).length))
theorem zRj {m:By} {o k:Nat} (h:Qw (o+n) l.length=true) (y:l.length=k):(cpA l o n m).length=k:=by
 have:=Q0 h;simp only [cpA,Qz,List.length_take,List.length_drop];omega
section
variable [T:pB P] {r:List Oper} 
theorem RK.slO {L S:Operand} {W V:IntKind} {U:TI} (a b:Nat) (hn:l.length=n) (h:Qw b l.length=true) (v:((T.te t).map (·.ty),T.te e,U.w,s.get T.te t x,s.blk E,s.get T.te 0 L,s.get T.te 0 S,Q9 a b)=(some (.slice e),some U,1,some (.own E n),some (qO (.bytes l)),some (.p (.int W (a:Nat))),some (.p (.int V (b:Nat))),true))
  (k:VK P ops r s K d (opS x (.own E n)++(opS L (.p (.int W (a:Nat)))++opS S (.p (.int V (b:Nat))))) [(E,qO (.bytes l))] (.osl E n a (b - a))):RK P ops (⟨some d,.slice t x (some L) (some S) none,ty,pos,af,none⟩:: r) s K:=have ⟨ht,v⟩:=pq v;have ⟨he,v⟩:=pq v;have ⟨Y,v⟩:=pq v;have ⟨hx,v⟩:=pq v;have ⟨hb,v⟩:=pq v;have ⟨J,v⟩:=pq v;have ⟨N,h1⟩:=pq v;
 RK.va rfl rfl (zTa T.ok rfl ht he Y hx hb (by simp [PV.ecs,hn]) J N (Q0 h1) (by simp_all)) k
theorem RK.cpO {Y:TI} {m:By} (hN:l.length=N) (h:Qw (off+n) l.length=true) (A:((T.te t).map (·.ty),T.te e,Y.w,s.get T.te t x,s.blk F,s.get T.te J y)=(some (.slice e),some Y,1,some (.osl F N off n),some (qO (.bytes l)),some V)) (hp:s.rd V=some (.bytes m,bs))
  (k:BK P ops r s K d (opS x (.osl F N off n)++opS y V) ((F,qO (.bytes l)) :: bs) [] F (qO (.bytes (cpA l off n m))) (.p (.int .i64 (min m.length n:Nat)))):RK P ops (⟨some d,.call ⟨.builtin .copy,#[x,y],#[t,J]⟩,ty,pos,af,none⟩:: r) s K:=have ⟨ht,A⟩:=pq A;have ⟨he,A⟩:=pq A;have ⟨hw,A⟩:=pq A;have ⟨hx,A⟩:=pq A;have ⟨hk,hy⟩:=pq A;by
 have bd:=Q0 h;have h2:=yAr (o:=⟨some d,.call _,ty,pos,af,none⟩) T.ok rfl rfl ht he hw hx hk (by simp [PV.ecs,hN]) (by simp [PV.ecs];omega) hy hp;have e1:uO (PV.ecs (.bytes l)) off ((m.take n).map λu=>AV.p (.int .u8 u.toNat))=PV.ecs (.bytes (cpA l off n m)):=by
  rw [jQ (by simp [PV.ecs];omega)];simp [PV.ecs,cpA]
 rw [e1] at h2;exact RK.sb rfl h2 k
end
section
end
section
end
end Go.Sw
