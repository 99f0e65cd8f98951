/- A part. -/
import Derived.Test.YtkalaoahbicflaaGreatDoorCZ1
import Derived.Scope
import Derived.Laws.StructEq
import Derived.ChangeKeysEq
import Derived.Lib.Bytealg
set_option linter.all false
open Go.Sw.RK renaming va -> Q0, sb -> Qk, so -> W0
open Nat renaming eq_of_beq_eq_true -> Q1, beq -> Q3, blt -> Q5, le_of_ble_eq_true -> Q6, zero_add -> Q9, le_refl -> Qa, ble -> Qb, mul_le_mul_right -> Qc, eq_of_mul_eq_mul_right -> Qi, zero_le -> Qm, le_mul_of_pos_right -> Qs, succ_le_of_lt -> Qv, add_mul -> Qx
open List renaming all_eq_true -> Q2, mem_cons -> Q7, mem_map -> Qd, eq_nil_of_length_eq_zero -> Qf, map_cons -> Qq, mem_append -> Qt, size_toArray -> Qw, mem_filter -> W1, range -> W2, replicate -> W3
open Bool renaming and_eq_true -> Q4, eq_false_iff -> Qg
open Array renaming getD_eq_getD_getElem? -> Q8, length_toList -> Qn, size_append -> Qr
open Option renaming isSome_iff_exists -> Qe, map_eq_some_iff -> Qu
open Go.Sw.PV renaming len -> Qh, src -> Qz, one -> W4
open Go.World renaming cell? -> Qj
open Go.Builtin renaming zeroCells -> Ql, len_ -> W5
open Go.Instr renaming sureAddr -> Qo, loadAt -> W6
open Go.Sw.AV renaming oks -> Qp, one -> Qy
namespace Go.Sw
open Go
variable {A:TypeId}{B:NB}{D:TypeId}{E:Nat}{F:List (Nat×Operand)}{G I J:TypeId}{K:AS->List Mic->Prop}{L:TI}{M:Mem}{N:List (Nat×Operand)}{P:Program}{Q:Exit->AS->Prop}{S U V:LV}{W:TI}{Y:Type}{Z:Option Operand}{a:Act}{a0 a1:Int}{af:Array Edge}{av:AV}{b b0 b1:Int}{blk blks bs by':LB}{c:PV}{cap:Nat}{cc:Int}{cs:List PV}{cx:Ctx}{d:Nat}{e e' e2:TypeId}{ei:TI}{env:LV}{f:FuncId}{fi:TI}{fn:Func}{fo:Nat}{fs:List (TypeId×Nat)}{ft:TypeId}{fz:Nat×Nat}{h:Type}{i:TI}{j:Nat}{k k2 kc kk:IntKind}{ks:List Nat}{l l':By}{l2:List AV}{m:By}{ms:List Mic}{n na:Nat}{o:Oper}{off:Nat}{ops:Array Oper}{p:PV}{pk:PKs}{pos:String}{ps:List PV}{q:PV}{r:List Oper}{rh rl:LV}{rr:PV}{rs:LV}{s s':AS}{t t' t2 ta:TypeId}{te:TE}{tip:Nat->Value}{tl:List TypeId}{ts:Array TypeId}{tx ty tyy:TypeId}{v vx vy:AV}{w:World}{w0 wd:Nat}{x:Operand}{xl:List Operand}{xs:Array Operand}{y:Operand}{α:Type}{κ:Nat->Option Nat}{u:List α}
def nzw (i:TI):Bool:=!Nat.beq i.w 0
def yDz (h:nzw i=true):i.w≠0:=by intro e;simp [nzw,e] at h
section
def fv (hok:yN P te) {l:List PV} {f:Nat} (ho:o.op=.field t x f) (ht:(te t).map (·.ty)=some (.struct fs)) (hf:fs[f]? = some (ft,fo)) (he:te ft=some fi) (hne:fi.known=true)
  (hx:s.get te t x=some v) (hp:s.rd v=some (.agg l,bs)) (hq:nV fi.isAgg l fo fi.w=some q):VA P o s (opS x v) bs (.p q):=yAo hok ho ht hf he (zNr hne) hx hp hq
def fa (A:yN P te) {F:TypeId} {k f:Nat} {D:TI} (I:o.op=.fieldAddr t x f) (J:(te t).map (·.ty)=some (.struct fs)) (N:fs[f]? = some (F,E)) (L:te F=some D) (S:nzw D=true)
  (T:s.get te 0 x=some (.ptr k off)):VA P o s (opS x (.ptr k off)) [] (.ptr k (off+E)):=yLr A I J N L (yDz S) T
def fc (E:yN P te) {l:List PV} {f G:Nat} {y:TI} (T:o.op=.fieldAddr t x f) (J:(te t).map (·.ty)=some (.struct fs)) (N:fs[f]? = some (I,G)) (L:te I=some y) (S:nzw y=true)
  (V:s.get te 0 x=some (.p (.cptr (.agg l)))) (U:nV y.isAgg l G y.w=some q):VA P o s (opS x (.p (.cptr (.agg l)))) [] (.p (.cptr q)):=yH0 E T J N L (yDz S) V U
def ncp (y:yN P te) {k:Nat} (E:o.op=.nilCheck x) (D:s.get te 0 x=some (.ptr k n)):VA P o s (opS x (.ptr k n)) [] (.ptr k n):=yFm E D (.inl ⟨k,n,rfl⟩)
def iaK (A:yN P te) {k:Nat} {i:Nat} {G:TI} (S:o.op=.indexAddr t x y) (K:(te t).map (·.ty)=some (.arr n e)) (N:te e=some G) (J:s.get te t x=some (.ptr k off)) (U:s.get te 0 y=some (.p (.int .i64 i))) (I:Q5 i n=true) :
  VA P o s (opS x (.ptr k off)++opS y (.p (.int .i64 i))) [] (.ptr k (off+i*G.w)):=zK6 A S K N J U (Int.natCast_nonneg i) jm
def ld (h:yN P te) {k:Nat} {l:List AV} (F:o.op=.load t x) (I:te t=some i) (K:i.plain=true) (G:s.get te 0 x=some (.ptr k off)) (J:s.blk k=some (.var l)) (E:l[off]? = some v):VA P o s (opS x (.ptr k off)) [(k,.var l)] v:=yGr h F I K G J E
def ldN (v:yN P te) {k:Nat} {l:List AV} (J:o.op=.load t x) (G:te t=some i) (K:i.isAgg=true) (F:s.get te 0 x=some (.ptr k off)) (I:s.blk k=some (.var l)) (E:Qb (off+i.w) l.length=true):VA P o s (opS x (.ptr k off)) [(k,.var l)] (.ag ((l.drop off).take i.w)):=zN9 v J G K F I (yZ E)
def ldC (v:yN P te) (D:o.op=.load t x) (G:te t=some i) (F:i.plain=true) (E:s.get te 0 x=some (.p (.cptr q))) (A:q.cells=[q]):VA P o s (opS x (.p (.cptr q))) [] (.p q):=yCc v D G F E A
def ldCN (A:yN P te) {l:List PV} (G:o.op=.load t x) (D:te t=some i) (I:i.isAgg=true) (E:s.get te 0 x=some (.p (.cptr (.agg l)))) (F:Q3 l.length i.w=true):VA P o s (opS x (.p (.cptr (.agg l)))) [] (.p (.agg l)):=zV4 A G D I E (Q1 F)
def sto (E:yN P te) {F:Operand} {k:Nat} {l:List AV} (S:o.dst=none) (J:o.op=.store t F x) (L:te t=some i) (T:s.get te 0 F=some (.ptr k off)) (K:s.get te t x=some v) (U:s.blk k=some (.var l))
  (I:Q3 v.cells.length i.w=true) (N:Qb (off+i.w) l.length=true) (D:v.cells.all Qy=true):SA P o s ⟨opS F (.ptr k off)++opS x v,[(k,.var l)],[],none,[(k,.var (uS l off v.cells))]⟩:=sa_store E S J L T K U (Q1 I) (yZ N) D
def al (y:yN P te) (G:o.dst=some d) (J:o.op=.alloc t) (I:te t=some i) (E:s.blk d=none):SA P o s ⟨[],[],[d],some (d,some (.ptr d 0)),[(d,.var (i.z.map zA))]⟩:=zZ7 y G J I E
def bx (A:yN P te) (F:o.dst=some d) (K:o.op=.box t x) (I:s.get te t x=some v) (G:s.blk d=none):SA P o s ⟨opS x v,[],[d],some (d,some (.ptr d 0)),[(d,.var v.cells)]⟩:=yMu F K I G
def pn:nD s te [] [] []:=.nil
def pc (t:TypeId) {i:Nat} {ps:List (Nat×Operand)} {d A:LV} (h:s.get te t x=some v) (k:nD s te ps d A):nD s te ((i,x) :: ps) ((i,v) :: d) (opS x v++A):=.cons _ _ t _ _ _ _ h k
def bld (y:yN P te) {ps:Array (Nat×Operand)} {J:List (Nat×Operand)} {G K:LV} {l:List AV} (L:o.op=.build t ps) (E:ps.toList=J) (S:te t=some i) (A:i.ty=.struct fs) (D:fs.all (λf=>(te f.1).isSome)=true)
  (T:nD s te J G K) (N:nE (zId te fs) (i.z.map zA) G=some l):VA P o s K [] (.ag l):=yC2 y L E S A D T N
def bldA (h:yN P te) {ps:Array (Nat×Operand)} {E G:LV} {D:TI} {l:List AV} (K:o.op=.build t ps) (y:ps.toList=F) (I:te t=some i) (A:i.ty=.arr n e) (N:te e=some D)
  (S:nD s te F E G) (J:nE (λj=>some (j*D.w,D.w)) (i.z.map zA) E=some l):VA P o s G [] (.ag l):=zVx h K y I A N S J
def yFi {f:h->PV} {w:Nat} (l:List h) (v:∀ a,(f a).cells.length=w):fO w (.sl w (l.map f)) (flatCells (l.map f)):=.sl _ λp A=>by
 obtain ⟨a,_,rfl⟩:=Qd.1 A;simp_all
def qn:nP s te t n [] [] [] []:=.nil n
def qc {ps:List (Nat×Operand)} {y A:LV} {bb:LB} (h:s.get te t x=some v) (E:s.rd v=some (p,bs)) (k:nP s te t (n+1) ps y A bb):nP s te t n ((n,x) :: ps) ((n,.p p) :: y) (opS x v++A) (bs++bb):=.cons n x v p bs ps y A bb h E k
def litB (G:yN P te) (l:By) {y:TI} {ps:Array (Nat×Operand)} {T:LV} {bb:LB} (W:o.dst=some d) (ho:o.op=.buildSlice t n ps) (J:ps.toList=N) (ht:(te t).map (·.ty)=some (.slice e)) (he:te e=some y) (Y:y.z.length=y.w) (A:1=y.w) (Z:Qb n 16777216=true)
  (U:nP s te e 0 N S T bb) (hf:nE (λj=>some (j*y.w,y.w)) (qJ y.z n) S=some ((l.map λx=>PV.int .u8 x.toNat).map .p)) (I:l.length=n) (V:s.blk d=none) :
  SA P o s ⟨T,bb,[d],some (d,some (.buf d l.length)),[(d,.buf (.bytes l))]⟩:=
 zX3 G W ho J ht he Y jh (by rw [<- A];have:=yZ Z;omega) U hf (.bytes l A.symm) I V
def lit (I:yN P te) {N:Type} {w:Nat} (f:N->PV) (l:List N) {y:TI} {ps:Array (Nat×Operand)} {T:List (Nat×Operand)} {bb:LB} (hd:o.dst=some d) (ho:o.op=.buildSlice t n ps) (E:ps.toList=T) (ht:(te t).map (·.ty)=some (.slice e)) (he:te e=some y) (Y:y.z.length=y.w) (hw:y.w=w) (L:Q5 0 w=true) (hn:Qb (n*w) 16777216=true)
  (hp:nP s te e 0 T S V bb) (hl:∀ a,(f a).cells.length=w) (hf:nE (λj=>some (j*y.w,y.w)) (qJ y.z n) S=some ((flatCells (l.map f)).map .p)) (K:l.length=n) (Z:s.blk d=none) :
  SA P o s ⟨V,bb,[d],some (d,some (.buf d l.length)),[(d,.buf (.sl w (l.map f)))]⟩:=by
 subst hw;have:=zX3 I hd ho E ht he Y jm (yZ hn) hp hf (yFi l hl) (by simpa [Qh] using K) Z;simpa [Qh] using this
def oneM {y:Type} {f:y->PV} {w:Nat} {l:List y} (A:∀ a,(f a).cells.all W4=true):aW (.sl w (l.map f))=true:=by
 simp only [aW,List.all_map,Q2];exact λa _=>by simpa using A a
def apNB (E:yN P te) {F:TI} {r:By} {U:AV} {b:Nat} (h:yM b [] m=some r) (hd:o.dst=some d) (ho:o.op=.call { callee:=.builtin .append,args:=#[x,y],argTypes:=#[t,J] })
  (ht:(te t).map (·.ty)=some (.slice e)) (he:te e=some F) (T:(te J).map (·.ty)=some (.slice e')) (hx:s.get te t x=some (.nl (.bytes []))) (L:1=F.w) (hz:F.z.length=F.w) (hy:s.get te J y=some U) (hp:s.rd U=some (.bytes m,bs)) (hb:F.b=b) (N:Q5 0 b=true) (hk:s.blk d=none) :
  SA P o s ⟨opS x (.nl (.bytes []))++opS y U,bs,[d],some (d,some (.buf d r.length)),[(d,.buf (.bytes r))]⟩:=by
 subst hb;exact zVa E hd ho ht he (yV E T) (.inr ⟨_,rfl⟩) hx L jh hz hy hp (appB h) (zN6 h) jm hk
def apB (G:yN P te) {S:TypeId} {F:TI} {k:Nat} {r:By} {U:AV} {b:Nat} (h:yM b l m=some r) (hd:o.dst=some d) (ho:o.op=.call { callee:=.builtin .append,args:=#[x,y],argTypes:=#[t,S] })
  (ht:(te t).map (·.ty)=some (.slice e)) (he:te e=some F) (K:(te S).map (·.ty)=some (.slice e')) (hx:s.get te t x=some (.buf k l.length)) (hk:s.blk k=some (.buf (.bytes l))) (L:1=F.w) (hz:F.z.length=F.w) (hy:s.get te S y=some U) (Z:s.rd U=some (.bytes m,bs)) (hb:F.b=b) (T:Q5 0 b=true) :
  SA P o s ⟨opS x (.buf k l.length)++opS y U,(k,.buf (.bytes l)) :: bs,[],some (d,some (.buf k r.length)),[(k,.buf (.bytes r))]⟩:=by
 subst hb;exact zPv G hd ho ht he (yV G K) (.inr ⟨_,rfl⟩) hx hk L jh hz hy Z (appB h) rfl (zN6 h) jm
def apS (hok:yN P te) {k:Nat} {r:By} {b:Nat} (h:yM b l m=some r) (hd:o.dst=some d) (ho:o.op=.call { callee:=.builtin .append,args:=#[x,y],argTypes:=#[t,t'] })
  (ht:(te t).map (·.ty)=some (.slice e)) (he:te e=some ei) (ht':(te t').map (·.ty)=some .str) (hx:s.get te t x=some (.buf k l.length)) (hk:s.blk k=some (.buf (.bytes l))) (hcw:1=ei.w) (hz:ei.z.length=ei.w) (hy:s.get te t' y=some vy) (hp:s.rd vy=some (.str m,bs)) (hb:ei.b=b) (hb1:Q5 0 b=true) :
  SA P o s ⟨opS x (.buf k l.length)++opS y vy,(k,.buf (.bytes l)) :: bs,[],some (d,some (.buf k r.length)),[(k,.buf (.bytes r))]⟩:=by
 subst hb;exact zPv (c:=.bytes l) hok hd ho ht he (zRz hok ht') (.inl rfl) hx hk hcw jh hz hy hp (appS h) rfl (zN6 h) (by have:=Q6 hb1;omega)
def apM (J:yN P te) (f:α->PV) {w:Nat} {S:TypeId} {G:TI} {k:Nat} {l m r:List α} {b:Nat} (h:yM b l m=some r) (hd:o.dst=some d) (ho:o.op=.call { callee:=.builtin .append,args:=#[x,y],argTypes:=#[t,S] })
  (ht:(te t).map (·.ty)=some (.slice e)) (he:te e=some G) (V:(te S).map (·.ty)=some (.slice e')) (hx:s.get te t x=some (.buf k l.length)) (hk:s.blk k=some (.buf (.sl w (l.map f)))) (T:w=G.w) (Y:Q5 0 w=true) (hz:G.z.length=G.w) (hy:s.get te S y=some vy) (hp:s.rd vy=some (.sl w (m.map f),bs)) (I:∀ a,(f a).cells.all W4=true) (hb:G.b=b) (W:Q5 0 b=true) :
  SA P o s ⟨opS x (.buf k l.length)++opS y vy,(k,.buf (.sl w (l.map f))) :: bs,[],some (d,some (.buf k r.length)),[(k,.buf (.sl w (r.map f)))]⟩:=by
 subst hb;have hl:(PV.sl w (l.map f)).len=l.length:=by simp [Qh]
 have:=zPv J hd ho ht he (yV J V) (.inr ⟨_,rfl⟩) jm hk T jm hz hy hp (appM h) (oneM I) (by have:=zN6 h;simpa [Qh,Qz] using this) jm;simpa [Qh] using this
def an:lH s te [] [] [] [] []:=.nil
def ac {bb:LB} {xs:List Operand} {A:List TypeId} {y:LV} (h:s.get te t x=some v) (E:s.rd v=some (p,bs)) (k:lH s te xs A ps y bb):lH s te (x :: xs) (t :: A) (p :: ps) (opS x v++y) (bs++bb):=.cons _ _ _ _ _ _ _ _ _ _ h E k
end
section
def cl (Z:yN P te) {J:Array TypeId} {T:List Operand} {S:List TypeId} {bb:LB} {N:Nat} (h:Ok P f N (mkS (argE 0 ps) []) (mkS [(0,av)] blks)) (W:o.dst=some d) (V:o.op=.call { callee:=.value (.func f),args:=xs,argTypes:=J })
  (G:xs.toList=T) (F:J.toList=S) (ha:lH s te T S ps U bb) (hn:Q3 N ps.length=true) (hf:(blks.map λe=>sh d e.1).all (λk=>(s.blk k).isNone)=true) :
  SA P o s ⟨U,bb,blks.map λe=>sh d e.1,some (d,some (av.ren (sh d))),blks.map λe=>(sh d e.1,e.2.ren (sh d))⟩:=
 yF0 W V h G F ha (Q1 hn) (λk Y=>by simpa using (Q2.1 hf) k Y)
def clp (bm:yN P te) {K:Operand} {Z:List TypeId} {l:List AV} {bb E:LB} {Y k:Nat} {l':List AV} (h:Ok P f Y (mkS ((0,.ptr 0 0) :: argE 1 ps) [(0,.var (cs.map .p))]) (mkS [(0,av)] ((0,.var l') :: blks))) (hd:o.dst=some d)
  (ho:o.op=.call { callee:=.value (.func f),args:=xs,argTypes:=ts }) (L:xs.toList=K :: xl) (S:ts.toList=ta :: Z) (U:s.get te ta K=some (.ptr k 0)) (V:s.blk k=some (.var l)) (T:s.rdL l=some (cs,E))
  (ha:lH s te xl Z ps rs bb) (hn:Q3 Y (ps.length+1)=true) (hf:(blks.map λe=>sh d e.1).all (λk=>(s.blk k).isNone)=true) (J:blks.all (λe=>!Nat.beq e.1 0)=true) :
  SA P o s ⟨opS K (.ptr k 0)++rs,(k,.var l) :: (E++bb),blks.map λe=>sh d e.1,some (d,some (av.ren (shp d k))),((0,.var l') :: blks).map λe=>(shp d k e.1,e.2.ren (shp d k))⟩:=
 zZe hd ho h L S U V T ha (Q1 hn) (λk hk=>by simpa using (Q2.1 hf) k hk) (λe he h0=>by have:=(Q2.1 J) e he;simp_all)
end
def zTj {k:Nat} {l l':List AV} (A:s.blk k=some (.var l)):GLe κ κ tip tip s.blk (s.setb k (.var l')).blk where
 var:=λi b F h G=>by
  by_cases e:i=k
  ·subst e;exact ⟨h,l',zU _ _ _⟩
  ·exact ⟨h,F,by rw [zN e];exact G⟩
 buf:=λi c h=>by
  have e:i≠k:=by rintro rfl;simp_all
  exact GLe.same (by rw [zN e];exact h) rfl
 own:=λi c I h=>by
  have e:i≠k:=by rintro rfl;simp_all
  exact GLe.sameO (by rw [zN e];exact h) rfl rfl
def Inv.reVar (y:Inv cx M κ tip s a w) {k:Nat} {l l':List AV} (hb:s.blk k=some (.var l)) (bi:l'.length=l.length)
  (h:∀ (j:Nat) (q:AV) (x:Value),l'[j]? = some q->(∀ K,l[j]? = some K->yT M κ tip s.blk K x)->yT M κ tip s.blk q x):Inv cx M κ tip (s.setb k (.var l')) a w:=by
 have D:=zTj (κ:=κ) (tip:=tip) (l':=l') hb;exact {
  defers:=y.defers
  size:=y.size
  fr:=y.fr
  mem:=y.mem
  env:=λt v e=>let ⟨x,h1,h2⟩:=y.env t v e;⟨x,h1,h2.ghost D⟩
  vars:=λi li A=>by
   by_cases e:i=k
   ·subst e;rw [zU] at A;cases A;obtain ⟨b,F,Y,V,L,S,N,q4,U,Z⟩:=y.vars i l hb;exact ⟨b,F,Y,V,L,S,N,jh,λj q I=>(h j q _ I (λK W=>U j K W)).ghost D,Z⟩
   ·rw [zN e] at A;obtain ⟨b,F,Y,V,L,S,N,q4,U,Z⟩:=y.vars i li A;exact ⟨b,F,Y,V,L,S,N,q4,λj q I=>(U j q I).ghost D,Z⟩
  bufs:=λi c h=>by
   have e:i≠k:=by rintro rfl;rw [zU] at h;cases h
   rw [zN e] at h;exact y.bufs i c h
  inj:=y.inj
  dom:=λi h=>by
   have e:i≠k:=by rintro rfl;rw [zU] at h;cases h
   rw [zN e] at h;exact y.dom i h
  glob:=y.glob
  old:=y.old
  owns:=y.owns.keep λi wd li h=>by
   have e:i≠k:=by rintro rfl;rw [zU] at h;cases h
   rw [zN e] at h;exact ⟨h,rfl,rfl,λb2 z=>⟨rfl,λo hm=>hm⟩,λj q x I hr=>hr.ghost D⟩}
def Imp.pureC {k:Nat} {l:List AV} (j:Nat) {q:AV} (K:s.blk k=some (.var l)) (G:l[j]? = some q) (hr:s.rd q=some (p,bs)):Imp pk s (s.setb k (.var (l.set j (.p p)))):=by
 intro cx a w _ J;obtain ⟨M,κ,tip,I,E,F⟩:=J;refine ⟨M,κ,tip,I,E,F.reVar K jk λi L x v D=>?_⟩;rw [List.getElem?_set] at v;split at v
 ·rename_i e;subst e;split at v
  ·cases v;exact .p _ _ (zGg (D q G) hr)
  simp_all
 simp_all
def Imp.promC {k:Nat} {l:List AV} (j k2:Nat) (S:s.blk k=some (.var l)) (J:l[j]? = some (.nl c)) (D:s.blk k2=none) (hw:Q5 0 c.width=true):Imp pk s ((s.setb k2 (.buf c)).setb k (.var (l.set j (.buf k2 0)))):=by
 intro cx a w _ hs;obtain ⟨M,κ,tip,h0,hp,Y⟩:=hs;have N:k≠k2:=by rintro rfl;rw [S] at D;cases D
 have hj:j<l.length:=(List.getElem?_eq_some_iff.1 J).1;have v:c.nilOf=true:=by
  obtain ⟨b,T,e1,fz,q1,q2,q3,q4,q5,q6⟩:=Y.vars k l S;have h:=q5 j _ J;generalize T.getD j undef=y at h;cases h with
  | nl _ v=>exact v
 have K:=Y.bufNil D v jm;refine ⟨M,κ,_,h0,hp,K.reVar (l:=l) (by rw [zN N];exact S) jk λi q' x A hx=>?_⟩;rw [List.getElem?_set] at A;split at A
 ·rename_i e;subst e;cases A;have h2:=hx _ J;cases h2 with
  | nl _ _=>
  refine .buf k2 0 c _ (zU _ _ _) ?_ (Qm _) ?_ (λ_=>(yR _ _ _).symm)
  ·unfold PV.nilOf at v;split at v<;>first | rfl | cases v
  ·unfold PV.nilOf at v;split at v
   ·exact .bytes0
   ·exact .sl0 _
   ·cases v
 ·exact hx q' A
structure A2 (α:Type) where (a0 a1:α) deriving DecidableEq,Inhabited
structure A4 (α:Type) where (a0 a1 a2 a3:α) deriving DecidableEq,Inhabited
structure A5 (α:Type) where (a0 a1 a2 a3 a4:α) deriving DecidableEq,Inhabited
structure A8 (α:Type) where (a0 a1 a2 a3 a4 a5 a6 a7:α) deriving DecidableEq,Inhabited
def eU8 (x:UInt8):PV:=.int .u8 x.toNat
def eSl (w:Nat) (f:α->PV) (l:List α):PV:=.sl w (l.map f)
def FU:Nat:=2 ^ 70
def SE {X:Type} (f:X->Exit×AS) (g:Y->Exit×AS):X ⊕ Y->Exit×AS
 | .inl x=>f x
 | .inr y=>g y
def rho (m:List (Nat×Nat)) (j:Nat):Nat:=(lk m j).getD j
def Imp.renK (D:PK cx ks) (m:List (Nat×Nat)) (G:((blks.map (·.1)).all λj=>(Q5 j BIG||Qb BIG (rho m j))&&(blks.map (·.1)).all λv=>!Nat.beq (rho m j) (rho m v)||Q3 j v)=true) (S:(ks.all λk=>Q3 (rho m k) k&&(blks.map (·.1)).any (Q3 k))=true) :
  Imp cx.pk (mkS env blks) (mkS (env.map λe=>(e.1,e.2.ren (rho m))) (blks.map λe=>(rho m e.1,e.2.ren (rho m)))):=by
 refine Imp.ren (rho m) (λj A v y h=>?_) (λe K=>?_) (λj A U=>?_)
 ·have:=(Q2.1 (((Q4 _ _).mp ((Q2.1 G) j A)).2)) v y;simp_all
 ·have:=(Q2.1 S) e.1 (D e K);simp_all
 ·have:=((Q4 _ _).mp ((Q2.1 G) j A)).1;rcases (Bool.or_eq_true _ _).mp this with h | h
  ·have:=Q6 (show Qb (j+1) BIG=true from h);omega
  ·exact Q6 h
def zPx {as:AS} (h:as.blk=lk []):∀ k,k<BIG->(as.blk k).isSome=true->k∈([]:List Nat):=λk _ v=>by
 rw [h] at v;simp [lk] at v
def zLz {as:AS} {b:ABlk} (h:as.blk=lk [(0,b)]):∀ k,k<BIG->(as.blk k).isSome=true->k∈[0]:=λk _ A=>by
 rw [h] at A;simp only [lk] at A;cases D:Q3 k 0 with
 | true=>simp_all
 | false=>simp_all
def Imp.refl {d:PKs} :Imp d s s:=λ_ _ _ _ h=>h
def kR (ρ:Nat->Nat):LB->List Nat
 | []=>[]
 | (k,_) :: r=>ρ k :: kR ρ r
def bR (ρ:Nat->Nat):LB->LB
 | []=>[]
 | (k,b) :: r=>(ρ k,b.ren ρ) :: bR ρ r
def zBv (d:Nat->Nat):∀ (l:LB),kR d l=l.map λe=>d e.1
 | []=>rfl
 | (_,_) :: r=>by simp [kR,zBv d r]
def zG5 (d:Nat->Nat):∀ (l:LB),bR d l=l.map λe=>(d e.1,e.2.ren d)
 | []=>rfl
 | (_,_) :: r=>by simp [bR,zG5 d r]
def ixN (n:Nat) (i:Int):Option Nat:=if 0<=i/\i<n then some i.toNat else none
def wY (l:List α) (j:Nat) (u:α):Option (List α):=if j<l.length then some (l.set j u) else none
def zFk {i:Int} (h:ixN n i=some j):0<=i/\i<n/\j=i.toNat:=by
 unfold ixN at h;split at h
 ·simp_all
 simp_all
def eR {d:Type} {l l':List d} {u:d} (h:wY l j u=some l'):j<l.length/\l'=l.set j u:=by
 unfold wY at h;split at h
 ·simp_all
 simp_all
def zC2 {l:List AV} (h:off<l.length):uS l off [v]=l.set off v:=by
 rw [lX (by assumption)];rw [List.set_eq_take_append_cons_drop,if_pos h];simp
def ir8 {a:Nat} (h:a<256) (b:Int):xT .u8 (a:Int) b=((u8 (xT .u8 (a:Int) b)).toNat:Int):=by
 rw [qS];unfold xT;generalize min b.toNat IntKind.u8.bits=m;have h2:(0:Int)<2 ^ m:=Int.pow_pos ji;rw [Int.fdiv_eq_ediv_of_nonneg _ jh];have h0:0<=(a:Int) / 2 ^ m:=Int.ediv_nonneg jh jh;have h1:(a:Int) / 2 ^ m<=a:=Int.ediv_le_self _ jh;omega
section
def ia (G:yN P te) {k:Nat} {i:Int} {I:TI} (h:ixN n i=some j) (Y:o.op=.indexAddr t x y) (N:(te t).map (·.ty)=some (.arr n e)) (U:te e=some I) (J:I.w=1) (K:s.get te t x=some (.ptr k off)) (L:s.get te D y=some (.p (.int .i64 i))) :
  VA P o s (opS x (.ptr k off)++opS y (.p (.int .i64 i))) [] (.ptr k (off+j)):=by
 obtain ⟨S,V,rfl⟩:=zFk h;have:=zK6 G Y N U K L S V;simp_all
def ir (A:yN P te) {F:TypeId} {k:Nat} {i:Int} {J:TI} (h:ixN n i=some j) (L:o.op=.indexAddr t x y) (Y:(te t).map (·.ty)=some (.slice e)) (W:te e=some J) (K:J.w=1) (N:s.get te t x=some (.ref k off n)) (S:s.get te F y=some (.p (.int .i64 i))) :
  VA P o s (opS x (.ref k off n)++opS y (.p (.int .i64 i))) [] (.ptr k (off+j)):=by
 obtain ⟨U,Z,rfl⟩:=zFk h;have:=yFg A L Y W N S U Z;simp_all
def zJ3 (h:p.cells=[p]):∀ l,p≠.agg l:=by
 intro l e;subst e;simp only [PV.cells] at h;have v:=congrArg SizeOf.sizeOf h;simp at v;omega
def ixC (K:yN P te) {D:Type} {f:D->PV} {l:List D} {u:D} {i:Int} {J:TI} (h:idx l i=some u) (ho:o.op=.indexAddr t x y) (ht:(te t).map (·.ty)=some (.arr n e)) (he:te e=some J) (W:s.get te t x=some (.p (.cptr (.agg (l.map f))))) (hn:Qb l.length n=true) (I:J.isAgg=false) (hw:J.w=1) (hf:∀ a,(f a).cells=[f a]) (V:s.get te G y=some (.p (.int .i64 i))) :
  VA P o s (opS x (.p (.cptr (.agg (l.map f))))++opS y (.p (.int .i64 i))) [] (.p (.cptr (f u))):=by
 obtain ⟨h0,U⟩:=zFz h;have Z:=(List.getElem?_eq_some_iff.1 U).1;have bi:=yZ hn;refine yH6 K ho ht he W V h0 jh ?_;simp only [nV];have:=zJ3 (hf u);simp_all
def ldW (v:yN P te) {k:Nat} {l:List AV} (F:o.op=.load t x) (E:te t=some i) (K:i.isAgg=true) (G:s.get te 0 x=some (.ptr k 0)) (J:s.blk k=some (.var l)) (I:Q3 i.w l.length=true):VA P o s (opS x (.ptr k 0)) [(k,.var l)] (.ag l):=by
 have D:=Q1 I;have:=ldN v F E K G J (by simp [D]);simp_all
end
class pK (P:Program) where
 te:TE
 ok:yN P te
section
abbrev VK (P:Program) (ops:Array Oper) (r:List Oper) (s:AS) (K:AS->List Mic->Prop) (d:Nat) (rs:LV) (bs:LB) (w:AV):Prop:=RK P ops r (s.put d w) λs' ms=>K s' (⟨rs,bs,[],some (d,some w),[]⟩:: ms)
abbrev BK (P:Program) (ops:Array Oper) (r:List Oper) (s:AS) (K:AS->List Mic->Prop) (d:Nat) (rs:LV) (bs:LB) (fr:List Nat) (k:Nat) (bl:ABlk) (w:AV):Prop:=RK P ops r ((s.setb k bl).put d w) λs' ms=>K s' (⟨rs,bs,fr,some (d,some w),[(k,bl)]⟩:: ms)
def GK (K:AS->List Mic->Prop) (dj:Nat) (b:Bool) (s:AS):List Mic->Prop
 | m :: ms=>K s ({ m with slots:=(dj,.p (.bool b)) :: m.slots } :: ms)
 | []=>False
def RK.g {dst:Option Nat} {J:Op} {G:Nat} {b b':Bool} (L:b'=b) (N:((ops[j]?).bind (·.dst),s.env G)=(some G,some (.p (.bool b')))) (k:RK P ops (⟨dst,J,ty,pos,af,none⟩:: r) s (GK K G b)):RK P ops (⟨dst,J,ty,pos,af,some (j,b)⟩:: r) s K:=have ⟨hj,hb⟩:=pq N;by
 obtain ⟨s',ms,h1,h2⟩:=k;cases h1 with
 | cons _ _ _ _ _ _ D I hr=>
  refine ⟨s',_,.cons _ _ _ _ _ _ ?_ ?_ ?_,h2⟩
  ·intro cx s a w K Q F T hw hk;have hy:=zJj T hj (F.1 (G,.p (.bool b)) jk);have S:Region.wanted ⟨dst,J,ty,pos,af,some (j,b)⟩ (yielded ops a.tmps)=true:=by simp [Region.wanted,hy]
   rw [if_pos S];have:=D cx s a w K Q ⟨λe D=>F.1 e (List.mem_cons_of_mem _ D),F.2.1,F.2.2⟩ T hw hk;assumption
  ·exact ⟨λe D=>(Q7.1 D).elim (λh=>by simp_all) (I.1 e),I.2.1,I.2.2⟩
  assumption
variable [T:pK P]
def RK.mv (h:s.get T.te ty x=some v) (k:VK P ops r s K d (opS x v) ([]) (v)):RK P ops (⟨some d,.move x,ty,pos,af,none⟩:: r) s K:=Q0 rfl rfl (Go.Sw.mv T.ok rfl h) k
def RK.as (h:s.get T.te ty x=some v) (k:VK P ops r s K d (opS x v) ([]) (v)):RK P ops (⟨some d,.assign x,ty,pos,af,none⟩:: r) s K:=Q0 rfl rfl (Go.Sw.asg T.ok rfl h) k
def RK.pT {c a b:Operand} {bb:Bool} (G:bb=true) (D:(s.get T.te 0 c,s.get T.te ty a)=(some (.p (.bool bb)),some v)) (k:VK P ops r s K d (opS c (.p (.bool true))++opS a v) ([]) (v)):RK P ops (⟨some d,.pick c a b,ty,pos,af,none⟩:: r) s K:=have ⟨I,h⟩:=pq D;Q0 rfl rfl (Go.Sw.pkT T.ok G rfl I h) k
def RK.pF {c a b:Operand} {bb:Bool} (G:bb=false) (D:(s.get T.te 0 c,s.get T.te ty b)=(some (.p (.bool bb)),some v)) (k:VK P ops r s K d (opS c (.p (.bool false))++opS b v) ([]) (v)):RK P ops (⟨some d,.pick c a b,ty,pos,af,none⟩:: r) s K:=have ⟨J,h⟩:=pq D;Q0 rfl rfl (Go.Sw.pkF T.ok G rfl J h) k
def RK.ad {A:IntKind} {a:Int} (F:(s.get T.te I x,s.get T.te D y)=(some (.p (.int A a)),some (.p (.int A b)))) (k:VK P ops r s K d (opS x (.p (.int A a))++opS y (.p (.int A b))) ([]) (.p (.int A (A.wrap (a+b))))):RK P ops (⟨some d,.binOp .add I x y D,ty,pos,af,none⟩:: r) s K:=have ⟨L,N⟩:=pq F;Q0 rfl rfl (Go.Sw.iop T.ok .add rfl L N) k
def RK.adE {a:Int} (hc:kk.wrap (a+b)=cc) (hx0:(s.get T.te tx x,s.get T.te tyy y)=(some (.p (.int kk a)),some (.p (.int kk b)))) (k:VK P ops r s K d (opS x (.p (.int kk a))++opS y (.p (.int kk b))) ([]) (.p (.int kk cc))):RK P ops (⟨some d,.binOp .add tx x y tyy,ty,pos,af,none⟩:: r) s K:=have ⟨hx,hy⟩:=pq hx0;Q0 rfl rfl (Go.Sw.iopE T.ok .add hc rfl hx hy) k
def RK.sbt {A:IntKind} {a:Int} (E:(s.get T.te G x,s.get T.te D y)=(some (.p (.int A a)),some (.p (.int A b)))) (k:VK P ops r s K d (opS x (.p (.int A a))++opS y (.p (.int A b))) ([]) (.p (.int A (A.wrap (a - b))))):RK P ops (⟨some d,.binOp .sub G x y D,ty,pos,af,none⟩:: r) s K:=have ⟨J,L⟩:=pq E;Q0 rfl rfl (Go.Sw.iop T.ok .sub rfl J L) k
def RK.sbtE {A:IntKind} {a:Int} {F:Int} (N:A.wrap (a - b)=F) (E:(s.get T.te I x,s.get T.te D y)=(some (.p (.int A a)),some (.p (.int A b)))) (k:VK P ops r s K d (opS x (.p (.int A a))++opS y (.p (.int A b))) ([]) (.p (.int A F))):RK P ops (⟨some d,.binOp .sub I x y D,ty,pos,af,none⟩:: r) s K:=have ⟨L,S⟩:=pq E;Q0 rfl rfl (Go.Sw.iopE T.ok .sub N rfl L S) k
def RK.mu {a:Int} (hx0:(s.get T.te tx x,s.get T.te tyy y)=(some (.p (.int kk a)),some (.p (.int kk b)))) (k:VK P ops r s K d (opS x (.p (.int kk a))++opS y (.p (.int kk b))) ([]) (.p (.int kk (kk.wrap (a*b))))):RK P ops (⟨some d,.binOp .mul tx x y tyy,ty,pos,af,none⟩:: r) s K:=have ⟨hx,hy⟩:=pq hx0;Q0 rfl rfl (Go.Sw.iop T.ok .mul rfl hx hy) k
def RK.muE {A:IntKind} {a:Int} {G:Int} (S:A.wrap (a*b)=G) (F:(s.get T.te J x,s.get T.te D y)=(some (.p (.int A a)),some (.p (.int A b)))) (k:VK P ops r s K d (opS x (.p (.int A a))++opS y (.p (.int A b))) ([]) (.p (.int A G))):RK P ops (⟨some d,.binOp .mul J x y D,ty,pos,af,none⟩:: r) s K:=have ⟨N,U⟩:=pq F;Q0 rfl rfl (Go.Sw.iopE T.ok .mul S rfl N U) k
def RK.an {a:Int} (hx0:(s.get T.te tx x,s.get T.te tyy y)=(some (.p (.int kk a)),some (.p (.int kk b)))) (k:VK P ops r s K d (opS x (.p (.int kk a))++opS y (.p (.int kk b))) ([]) (.p (.int kk (xB kk a b)))):RK P ops (⟨some d,.binOp .and tx x y tyy,ty,pos,af,none⟩:: r) s K:=have ⟨hx,hy⟩:=pq hx0;Q0 rfl rfl (Go.Sw.iop T.ok .and rfl hx hy) k
def RK.anE {A:IntKind} {a:Int} {G:Int} (S:xB A a b=G) (F:(s.get T.te J x,s.get T.te D y)=(some (.p (.int A a)),some (.p (.int A b)))) (k:VK P ops r s K d (opS x (.p (.int A a))++opS y (.p (.int A b))) ([]) (.p (.int A G))):RK P ops (⟨some d,.binOp .and J x y D,ty,pos,af,none⟩:: r) s K:=have ⟨N,U⟩:=pq F;Q0 rfl rfl (Go.Sw.iopE T.ok .and S rfl N U) k
def RK.oE {a:Int} (hc:ior kk a b=cc) (hx0:(s.get T.te tx x,s.get T.te tyy y)=(some (.p (.int kk a)),some (.p (.int kk b)))) (k:VK P ops r s K d (opS x (.p (.int kk a))++opS y (.p (.int kk b))) ([]) (.p (.int kk cc))):RK P ops (⟨some d,.binOp .or tx x y tyy,ty,pos,af,none⟩:: r) s K:=have ⟨hx,hy⟩:=pq hx0;Q0 rfl rfl (Go.Sw.iopE T.ok .or hc rfl hx hy) k
def RK.o8 {a:Int} (hx0:(s.get T.te tx x,s.get T.te tyy y)=(some (.p (.int .u8 a)),some (.p (.int .u8 b)))) (k:VK P ops r s K d (opS x (.p (.int .u8 a))++opS y (.p (.int .u8 b))) ([]) (.p (.int .u8 (u8 (ior IntKind.u8 a b)).toNat))):RK P ops (⟨some d,.binOp .or tx x y tyy,ty,pos,af,none⟩:: r) s K:=have ⟨hx,hy⟩:=pq hx0;Q0 rfl rfl (Go.Sw.iop8 T.ok .or rfl hx hy) k
def RK.xoE {A:IntKind} {a:Int} {G:Int} (N:xK A a b=G) (F:(s.get T.te I x,s.get T.te D y)=(some (.p (.int A a)),some (.p (.int A b)))) (k:VK P ops r s K d (opS x (.p (.int A a))++opS y (.p (.int A b))) ([]) (.p (.int A G))):RK P ops (⟨some d,.binOp .xor I x y D,ty,pos,af,none⟩:: r) s K:=have ⟨U,L⟩:=pq F;Q0 rfl rfl (Go.Sw.iopE T.ok .xor N rfl U L) k
def RK.xo8 {a:Int} (hx0:(s.get T.te tx x,s.get T.te tyy y)=(some (.p (.int .u8 a)),some (.p (.int .u8 b)))) (k:VK P ops r s K d (opS x (.p (.int .u8 a))++opS y (.p (.int .u8 b))) ([]) (.p (.int .u8 (u8 (xK IntKind.u8 a b)).toNat))):RK P ops (⟨some d,.binOp .xor tx x y tyy,ty,pos,af,none⟩:: r) s K:=have ⟨hx,hy⟩:=pq hx0;Q0 rfl rfl (Go.Sw.iop8 T.ok .xor rfl hx hy) k
def RK.eq {D:IntKind} {a:Int} (E:(s.get T.te G x,s.get T.te A y)=(some (.p (.int D a)),some (.p (.int D b)))) (k:VK P ops r s K d (opS x (.p (.int D a))++opS y (.p (.int D b))) ([]) (.p (.bool (a==b)))):RK P ops (⟨some d,.binOp .eql G x y A,ty,pos,af,none⟩:: r) s K:=have ⟨L,N⟩:=pq E;Q0 rfl rfl (Go.Sw.cmp T.ok .eql rfl L N) k
def RK.ne {D:IntKind} {a:Int} (F:(s.get T.te I x,s.get T.te A y)=(some (.p (.int D a)),some (.p (.int D b)))) (k:VK P ops r s K d (opS x (.p (.int D a))++opS y (.p (.int D b))) ([]) (.p (.bool (a != b)))):RK P ops (⟨some d,.binOp .neq I x y A,ty,pos,af,none⟩:: r) s K:=have ⟨N,J⟩:=pq F;Q0 rfl rfl (Go.Sw.cmp T.ok .neq rfl N J) k
def RK.ls {D:IntKind} {a:Int} (G:(s.get T.te J x,s.get T.te A y)=(some (.p (.int D a)),some (.p (.int D b)))) (k:VK P ops r s K d (opS x (.p (.int D a))++opS y (.p (.int D b))) ([]) (.p (.bool (decide (a<b))))):RK P ops (⟨some d,.binOp .lss J x y A,ty,pos,af,none⟩:: r) s K:=have ⟨N,S⟩:=pq G;Q0 rfl rfl (Go.Sw.cmp T.ok .lss rfl N S) k
def RK.gt {D:IntKind} {a:Int} (G:(s.get T.te J x,s.get T.te A y)=(some (.p (.int D a)),some (.p (.int D b)))) (k:VK P ops r s K d (opS x (.p (.int D a))++opS y (.p (.int D b))) ([]) (.p (.bool (decide (b<a))))):RK P ops (⟨some d,.binOp .gtr J x y A,ty,pos,af,none⟩:: r) s K:=have ⟨N,S⟩:=pq G;Q0 rfl rfl (Go.Sw.cmp T.ok .gtr rfl N S) k
def RK.ge {D:IntKind} {a:Int} (F:(s.get T.te J x,s.get T.te A y)=(some (.p (.int D a)),some (.p (.int D b)))) (k:VK P ops r s K d (opS x (.p (.int D a))++opS y (.p (.int D b))) ([]) (.p (.bool (decide (b<=a))))):RK P ops (⟨some d,.binOp .geq J x y A,ty,pos,af,none⟩:: r) s K:=have ⟨N,S⟩:=pq F;Q0 rfl rfl (Go.Sw.cmp T.ok .geq rfl N S) k
def RK.quo {A:IntKind} {a:Int} (N:(b==0)=false) (L:s.get T.te G x=some (.p (.int A a))) (J:s.get T.te D y=some (.p (.int A b))) (k:VK P ops r s K d (opS x (.p (.int A a))++opS y (.p (.int A b))) ([]) (.p (.int A (A.wrap (a.tdiv b))))):RK P ops (⟨some d,.binOp .quo G x y D,ty,pos,af,none⟩:: r) s K:=Q0 rfl rfl (Go.Sw.quo T.ok N rfl L J) k
def RK.rem {A:IntKind} {a:Int} (N:(b==0)=false) (L:s.get T.te G x=some (.p (.int A a))) (J:s.get T.te D y=some (.p (.int A b))) (k:VK P ops r s K d (opS x (.p (.int A a))++opS y (.p (.int A b))) ([]) (.p (.int A (a.tmod b)))):RK P ops (⟨some d,.binOp .rem G x y D,ty,pos,af,none⟩:: r) s K:=Q0 rfl rfl (Go.Sw.rem T.ok N rfl L J) k
def RK.shl {D F:IntKind} {a:Int} (S:0<=b) (E:(s.get T.te I x,s.get T.te A y)=(some (.p (.int D a)),some (.p (.int F b)))) (k:VK P ops r s K d (opS x (.p (.int D a))++opS y (.p (.int F b))) ([]) (.p (.int D (qW D a b)))):RK P ops (⟨some d,.binOp .shl I x y A,ty,pos,af,none⟩:: r) s K:=have ⟨L,N⟩:=pq E;Q0 rfl rfl (Go.Sw.shl T.ok S rfl L N) k
def RK.shlE {a:Int} (hc:qW kk a b=cc) (h0:0<=b) (hx:s.get T.te tx x=some (.p (.int kk a))) (hy:s.get T.te tyy y=some (.p (.int k2 b))) (k:VK P ops r s K d (opS x (.p (.int kk a))++opS y (.p (.int k2 b))) ([]) (.p (.int kk cc))):RK P ops (⟨some d,.binOp .shl tx x y tyy,ty,pos,af,none⟩:: r) s K:=Q0 rfl rfl (Go.Sw.shlE T.ok hc h0 rfl hx hy) k
def RK.shr {D F:IntKind} {a:Int} (S:0<=b) (E:(s.get T.te I x,s.get T.te A y)=(some (.p (.int D a)),some (.p (.int F b)))) (k:VK P ops r s K d (opS x (.p (.int D a))++opS y (.p (.int F b))) ([]) (.p (.int D (xT D a b)))):RK P ops (⟨some d,.binOp .shr I x y A,ty,pos,af,none⟩:: r) s K:=have ⟨L,N⟩:=pq E;Q0 rfl rfl (Go.Sw.shr T.ok S rfl L N) k
def RK.shrE {D F:IntKind} {a:Int} {J:Int} (U:xT D a b=J) (L:0<=b) (E:(s.get T.te I x,s.get T.te A y)=(some (.p (.int D a)),some (.p (.int F b)))) (k:VK P ops r s K d (opS x (.p (.int D a))++opS y (.p (.int F b))) ([]) (.p (.int D J))):RK P ops (⟨some d,.binOp .shr I x y A,ty,pos,af,none⟩:: r) s K:=have ⟨N,S⟩:=pq E;Q0 rfl rfl (Go.Sw.shrE T.ok U L rfl N S) k
def RK.shr8 {a:Nat} (h0:0<=b) (hx:s.get T.te tx x=some (.p (.int .u8 (a:Nat)))) (ha:a<256) (hy:s.get T.te tyy y=some (.p (.int k2 b))) (k:VK P ops r s K d (opS x (.p (.int .u8 (a:Nat)))++opS y (.p (.int k2 b))) ([]) (.p (.int .u8 (u8 (xT .u8 (a:Nat) b)).toNat))):RK P ops (⟨some d,.binOp .shr tx x y tyy,ty,pos,af,none⟩:: r) s K:=Q0 rfl rfl (Go.Sw.shrE T.ok (ir8 ha _) h0 rfl hx hy) k
def RK.no {y:TypeId} {a:Bool} (F:s.get T.te y x=some (.p (.bool a))) (k:VK P ops r s K d (opS x (.p (.bool a))) ([]) (.p (.bool (!a)))):RK P ops (⟨some d,.unOp .not y x,ty,pos,af,none⟩:: r) s K:=Q0 rfl rfl (Go.Sw.not' T.ok rfl F) k
def RK.com {y:IntKind} {a:Int} (G:s.get T.te A x=some (.p (.int y a))) (k:VK P ops r s K d (opS x (.p (.int y a))) ([]) (.p (.int y (zMn y a)))):RK P ops (⟨some d,.unOp .xor A x,ty,pos,af,none⟩:: r) s K:=Q0 rfl rfl (Go.Sw.com T.ok rfl G) k
def RK.cv {E G:IntKind} {a:Int} (y:((T.te A).map (·.ty),(T.te D).map (·.ty),s.get T.te A x)=(some (.int G),some (.int E),some (.p (.int G a)))) (k:VK P ops r s K d (opS x (.p (.int G a))) ([]) (.p (.int E (E.wrap a)))):RK P ops (⟨some d,.convert A D x,ty,pos,af,none⟩:: r) s K:=have ⟨L,y⟩:=pq y;have ⟨J,N⟩:=pq y;Q0 rfl rfl (Go.Sw.va_conv T.ok rfl L J N) k
def RK.cv8 {y:TypeId} {G:IntKind} {a:Int} (A:((T.te y).map (·.ty),(T.te D).map (·.ty),s.get T.te y x)=(some (.int G),some (.int .u8),some (.p (.int G a)))) (k:VK P ops r s K d (opS x (.p (.int G a))) ([]) (.p (.int .u8 (u8 a).toNat))):RK P ops (⟨some d,.convert y D x,ty,pos,af,none⟩:: r) s K:=have ⟨S,A⟩:=pq A;have ⟨L,N⟩:=pq A;Q0 rfl rfl (Go.Sw.va_conv8 T.ok rfl S L N) k
def RK.fv {l:List PV} {f:Nat} (ht:(T.te t).map (·.ty)=some (.struct fs)) (hf:fs[f]? = some (ft,fo)) (he:T.te ft=some fi) (hne:fi.known=true) (hx:s.get T.te t x=some v) (hp:s.rd v=some (.agg l,bs)) (hq:nV fi.isAgg l fo fi.w=some q) (k:VK P ops r s K d (opS x v) (bs) (.p q)):RK P ops (⟨some d,.field t x f,ty,pos,af,none⟩:: r) s K:=Q0 rfl rfl (Go.Sw.fv T.ok rfl ht hf he hne hx hp hq) k
def RK.fa {f L:Nat} {I:TI} (h:((T.te t).map (·.ty),fs[f]?,T.te G,nzw I,s.get T.te 0 x)=(some (.struct fs),some (G,L),some I,true,some (.ptr E off))) (k:VK P ops r s K d (opS x (.ptr E off)) ([]) (.ptr E (off+L))):RK P ops (⟨some d,.fieldAddr t x f,ty,pos,af,none⟩:: r) s K:=have ⟨Y,h⟩:=pq h;have ⟨Z,h⟩:=pq h;have ⟨W,h⟩:=pq h;have ⟨N,S⟩:=pq h;Q0 rfl rfl (Go.Sw.fa T.ok rfl Y Z W N S) k
def RK.fc {l:List PV} {f:Nat} (ht0:((T.te t).map (·.ty),fs[f]?,T.te ft,nzw fi,s.get T.te 0 x,nV fi.isAgg l fo fi.w)=(some (.struct fs),some (ft,fo),some fi,true,some (.p (.cptr (.agg l))),some q)) (k:VK P ops r s K d (opS x (.p (.cptr (.agg l)))) ([]) (.p (.cptr q))):RK P ops (⟨some d,.fieldAddr t x f,ty,pos,af,none⟩:: r) s K:=have ⟨ht,ht0⟩:=pq ht0;have ⟨hf,ht0⟩:=pq ht0;have ⟨he,ht0⟩:=pq ht0;have ⟨hw,ht0⟩:=pq ht0;have ⟨hx,hq⟩:=pq ht0;Q0 rfl rfl (Go.Sw.fc T.ok rfl ht hf he hw hx hq) k
def RK.ixB {u:UInt8} {i:Int} (h:idx l i=some u) (D:((T.te t).map (·.ty),T.te e,s.get T.te t x,s.rd v,1,s.get T.te 0 y)=(some (.slice e),some L,some v,some (.bytes l,bs),L.w,some (.p (.int .i64 i)))) (k:VK P ops r s K d (opS x v++opS y (.p (.int .i64 i))) (bs) (.p (.cptr (.int .u8 u.toNat)))):RK P ops (⟨some d,.indexAddr t x y,ty,pos,af,none⟩:: r) s K:=have ⟨V,D⟩:=pq D;have ⟨he,D⟩:=pq D;have ⟨W,D⟩:=pq D;have ⟨S,D⟩:=pq D;have ⟨U,Y⟩:=pq D;Q0 rfl rfl (Go.Sw.ixB T.ok h rfl V he W S U Y) k
def RK.ixM {F:Type} {f:F->PV} {w:Nat} {l:List F} {u:F} {i:Int} {N:TI} (h:idx l i=some u) (E:((T.te t).map (·.ty),T.te e,s.get T.te t x)=(some (.slice e),some N,some v)) (hp:s.rd v=some (.sl w (l.map f),bs)) (I:(w,s.get T.te 0 y)=(N.w,some (.p (.int .i64 i)))) (k:VK P ops r s K d (opS x v++opS y (.p (.int .i64 i))) (bs) (.p (.cptr (f u)))):RK P ops (⟨some d,.indexAddr t x y,ty,pos,af,none⟩:: r) s K:=have ⟨ht,E⟩:=pq E;have ⟨W,V⟩:=pq E;have ⟨hw,Y⟩:=pq I;Q0 rfl rfl (Go.Sw.ixM T.ok h rfl ht W V hp hw Y) k
def RK.ixC {F:Type} {f:F->PV} {l:List F} {u:F} {i:Int} (h:idx l i=some u) (v:((T.te t).map (·.ty),T.te e,s.get T.te t x,Qb l.length n,L.isAgg,L.w)=(some (.arr n e),some L,some (.p (.cptr (.agg (l.map f)))),true,false,1)) (hf:∀ a,(f a).cells=[f a]) (Y:s.get T.te 0 y=some (.p (.int .i64 i))) (k:VK P ops r s K d (opS x (.p (.cptr (.agg (l.map f))))++opS y (.p (.int .i64 i))) ([]) (.p (.cptr (f u)))):RK P ops (⟨some d,.indexAddr t x y,ty,pos,af,none⟩:: r) s K:=have ⟨ht,v⟩:=pq v;have ⟨he,v⟩:=pq v;have ⟨Z,v⟩:=pq v;have ⟨hn,v⟩:=pq v;have ⟨J,hw⟩:=pq v;Q0 rfl rfl (Go.Sw.ixC T.ok h rfl ht he Z hn J hw hf Y) k
def RK.ia {G:Nat} {i:Int} {J:TI} (h:ixN n i=some j) (A:((T.te t).map (·.ty),T.te e,J.w,s.get T.te t x,s.get T.te 0 y)=(some (.arr n e),some J,1,some (.ptr G off),some (.p (.int .i64 i)))) (k:VK P ops r s K d (opS x (.ptr G off)++opS y (.p (.int .i64 i))) ([]) (.ptr G (off+j))):RK P ops (⟨some d,.indexAddr t x y,ty,pos,af,none⟩:: r) s K:=have ⟨Y,A⟩:=pq A;have ⟨he,A⟩:=pq A;have ⟨S,A⟩:=pq A;have ⟨V,W⟩:=pq A;Q0 rfl rfl (Go.Sw.ia T.ok h rfl Y he S V W) k
def RK.iaK {i F:Nat} {I:TI} (h:((T.te t).map (·.ty),T.te e,s.get T.te t x,s.get T.te 0 y,Q5 i n)=(some (.arr n e),some I,some (.ptr F off),some (.p (.int .i64 (i:Nat))),true)) (k:VK P ops r s K d (opS x (.ptr F off)++opS y (.p (.int .i64 (i:Nat)))) ([]) (.ptr F (off+i*I.w))):RK P ops (⟨some d,.indexAddr t x y,ty,pos,af,none⟩:: r) s K:=have ⟨N,h⟩:=pq h;have ⟨W,h⟩:=pq h;have ⟨U,h⟩:=pq h;have ⟨S,V⟩:=pq h;Q0 rfl rfl (Go.Sw.iaK T.ok rfl N W U S V) k
def RK.ir {J:Nat} {i:Int} (h:ixN n i=some j) (A:((T.te t).map (·.ty),T.te e,L.w,s.get T.te t x,s.get T.te 0 y)=(some (.slice e),some L,1,some (.ref J off n),some (.p (.int .i64 i)))) (k:VK P ops r s K d (opS x (.ref J off n)++opS y (.p (.int .i64 i))) ([]) (.ptr J (off+j))):RK P ops (⟨some d,.indexAddr t x y,ty,pos,af,none⟩:: r) s K:=have ⟨U,A⟩:=pq A;have ⟨he,A⟩:=pq A;have ⟨Z,A⟩:=pq A;have ⟨V,W⟩:=pq A;Q0 rfl rfl (Go.Sw.ir T.ok h rfl U he Z V W) k
def RK.ld {A:Nat} {l:List AV} (h:(T.te t,i.plain,s.get T.te 0 x,s.blk A,l[off]?)=(some i,true,some (.ptr A off),some (.var l),some v)) (k:VK P ops r s K d (opS x (.ptr A off)) ([(A,.var l)]) (v)):RK P ops (⟨some d,.load t x,ty,pos,af,none⟩:: r) s K:=have ⟨S,h⟩:=pq h;have ⟨L,h⟩:=pq h;have ⟨N,h⟩:=pq h;have ⟨U,I⟩:=pq h;Q0 rfl rfl (Go.Sw.ld T.ok rfl S L N U I) k
def RK.ldA {D:Type} {f:D->AV} {A:Nat} {l:List D} {u:D} (h:l[j]? = some u) (y:(T.te t,i.plain,s.get T.te 0 x)=(some i,true,some (.ptr A off))) (L:off=j) (V:s.blk A=some (.var (l.map f))) (k:VK P ops r s K d (opS x (.ptr A off)) ([(A,.var (l.map f))]) (f u)):RK P ops (⟨some d,.load t x,ty,pos,af,none⟩:: r) s K:=have ⟨J,y⟩:=pq y;have ⟨U,N⟩:=pq y;Q0 rfl rfl (Go.Sw.ld T.ok rfl J U N V jm) k
def RK.ldN {A:Nat} {l:List AV} (h:(T.te t,i.isAgg,s.get T.te 0 x,s.blk A,Qb (off+i.w) l.length)=(some i,true,some (.ptr A off),some (.var l),true)) (k:VK P ops r s K d (opS x (.ptr A off)) ([(A,.var l)]) (.ag ((l.drop off).take i.w))):RK P ops (⟨some d,.load t x,ty,pos,af,none⟩:: r) s K:=have ⟨J,h⟩:=pq h;have ⟨I,h⟩:=pq h;have ⟨L,h⟩:=pq h;have ⟨U,S⟩:=pq h;Q0 rfl rfl (Go.Sw.ldN T.ok rfl J I L U S) k
def RK.ldW {A:Nat} {l:List AV} (h:(T.te t,i.isAgg,s.get T.te 0 x,s.blk A,Q3 i.w l.length)=(some i,true,some (.ptr A 0),some (.var l),true)) (k:VK P ops r s K d (opS x (.ptr A 0)) ([(A,.var l)]) (.ag l)):RK P ops (⟨some d,.load t x,ty,pos,af,none⟩:: r) s K:=have ⟨N,h⟩:=pq h;have ⟨J,h⟩:=pq h;have ⟨L,h⟩:=pq h;have ⟨S,G⟩:=pq h;Q0 rfl rfl (Go.Sw.ldW T.ok rfl N J L S G) k
def RK.ldC (h:(T.te t,i.plain,s.get T.te 0 x,q.cells)=(some i,true,some (.p (.cptr q)),[q])) (k:VK P ops r s K d (opS x (.p (.cptr q))) ([]) (.p q)):RK P ops (⟨some d,.load t x,ty,pos,af,none⟩:: r) s K:=have ⟨I,h⟩:=pq h;have ⟨J,h⟩:=pq h;have ⟨G,F⟩:=pq h;Q0 rfl rfl (Go.Sw.ldC T.ok rfl I J G F) k
def RK.ldD {l:List PV} (h:(T.te t,i.isAgg,s.get T.te 0 x,Q3 l.length i.w)=(some i,true,some (.p (.cptr (.agg l))),true)) (k:VK P ops r s K d (opS x (.p (.cptr (.agg l)))) ([]) (.p (.agg l))):RK P ops (⟨some d,.load t x,ty,pos,af,none⟩:: r) s K:=have ⟨F,h⟩:=pq h;have ⟨I,h⟩:=pq h;have ⟨J,L⟩:=pq h;Q0 rfl rfl (Go.Sw.ldCN T.ok rfl F I J L) k
def RK.sto {G:Operand} {l:List AV} (d:(T.te t,s.get T.te 0 G,s.get T.te t x,s.blk E,Q3 v.cells.length i.w,Qb (off+i.w) l.length,v.cells.all Qy)=(some i,some (.ptr E off),some v,some (.var l),true,true,true)) (k:RK P ops r (s.setb E (.var (uS l off v.cells))) λs' V=>K s' (⟨opS G (.ptr E off)++opS x v,[(E,.var l)],[],none,[(E,.var (uS l off v.cells))]⟩:: V)):RK P ops (⟨none,.store t G x,ty,pos,af,none⟩:: r) s K:=have ⟨N,d⟩:=pq d;have ⟨Y,d⟩:=pq d;have ⟨U,d⟩:=pq d;have ⟨J,d⟩:=pq d;have ⟨W,d⟩:=pq d;have ⟨L,F⟩:=pq d;
 W0 rfl (Go.Sw.sto T.ok rfl rfl N Y U J W L F) k
def RK.st1 {G:Operand} {D:Nat} {l:List AV} (d:(T.te t,s.get T.te 0 G,s.get T.te t x,s.blk D,i.w,v.cells,Q5 off l.length,v.one)=(some i,some (.ptr D off),some v,some (.var l),1,[v],true,true)) (k:RK P ops r (s.setb D (.var (l.set off v))) λs' ms=>K s' (⟨opS G (.ptr D off)++opS x v,[(D,.var l)],[],none,[(D,.var (l.set off v))]⟩:: ms)):RK P ops (⟨none,.store t G x,ty,pos,af,none⟩:: r) s K:=have ⟨Y,d⟩:=pq d;have ⟨W,d⟩:=pq d;have ⟨V,d⟩:=pq d;have ⟨Z,d⟩:=pq d;have ⟨S,d⟩:=pq d;have ⟨J,d⟩:=pq d;have ⟨hl,E⟩:=pq d;by
 refine W0 rfl ?_ k;have N:off<l.length:=by simp_all
 have:=Go.Sw.sto (o:=⟨none,.store t G x,ty,pos,af,none⟩) T.ok rfl rfl Y W V Z jm (by rw [S];assumption) jm;rw [J,zC2 N] at this;omega
def RK.stW {G:Operand} {l:List AV} (d:(T.te t,s.get T.te 0 G,s.get T.te t x,s.blk E,Q3 v.cells.length i.w,Q3 i.w l.length,v.cells.all Qy)=(some i,some (.ptr E 0),some v,some (.var l),true,true,true)) (k:RK P ops r (s.setb E (.var v.cells)) λs' ms=>K s' (⟨opS G (.ptr E 0)++opS x v,[(E,.var l)],[],none,[(E,.var v.cells)]⟩:: ms)):RK P ops (⟨none,.store t G x,ty,pos,af,none⟩:: r) s K:=have ⟨W,d⟩:=pq d;have ⟨Z,d⟩:=pq d;have ⟨U,d⟩:=pq d;have ⟨S,d⟩:=pq d;have ⟨N,d⟩:=pq d;have ⟨hl,F⟩:=pq d;by
 refine W0 rfl ?_ k;have Y:=Q1 N;have L:=Q1 hl;have:=Go.Sw.sto (o:=⟨none,.store t G x,ty,pos,af,none⟩) T.ok rfl rfl W Z U S N (by simp [L]) F;have e:uS l 0 v.cells=v.cells:=by rw [lX jh];simp_all
 simp_all
def RK.stA {G:Type} {f:G->AV} {F:Operand} {D:Nat} {l l':List G} {u:G} (h:wY l j u=some l') (I:(T.te t,s.get T.te 0 F)=(some i,some (.ptr D off))) (hj:off=j) (d:(s.get T.te t x,s.blk D,i.w,(f u).cells,(f u).one)=(some (f u),some (.var (l.map f)),1,[f u],true)) (k:RK P ops r (s.setb D (.var (l'.map f))) λs' ms=>K s' (⟨opS F (.ptr D off)++opS x (f u),[(D,.var (l.map f))],[],none,[(D,.var (l'.map f))]⟩:: ms)):RK P ops (⟨none,.store t F x,ty,pos,af,none⟩:: r) s K:=have ⟨ht,ha⟩:=pq I;have ⟨Y,d⟩:=pq d;have ⟨hb,d⟩:=pq d;have ⟨U,d⟩:=pq d;have ⟨S,E⟩:=pq d;by
 refine W0 rfl ?_ k;subst hj;obtain ⟨W,h2⟩:=eR h;have:=Go.Sw.sto (o:=⟨none,.store t F x,ty,pos,af,none⟩) T.ok rfl rfl ht ha Y hb jm (by rw [U];simpa using Qv W) jm;rw [S,zC2 jm,<- List.map_set,<- h2] at this;omega
def RK.al (y:(T.te t,s.blk d)=(some i,none)) (k:BK P ops r s K d ([]) ([]) ([d]) (d) (.var (i.z.map zA)) (.ptr d 0)):RK P ops (⟨some d,.alloc t,ty,pos,af,none⟩:: r) s K:=have ⟨D,F⟩:=pq y;Qk rfl (Go.Sw.al T.ok rfl rfl D F) k
def RK.bx (A:(s.get T.te t x,s.blk d)=(some v,none)) (k:BK P ops r s K d (opS x v) ([]) ([d]) (d) (.var v.cells) (.ptr d 0)):RK P ops (⟨some d,.box t x,ty,pos,af,none⟩:: r) s K:=have ⟨G,D⟩:=pq A;Qk rfl (Go.Sw.bx T.ok rfl rfl G D) k
def RK.bl {J:Array (Nat×Operand)} {l:List AV} (h:(J.toList,T.te t,i.ty,fs.all (λf=>(T.te f.1).isSome))=(N,some i,.struct fs,true)) (V:nD s T.te N S U) (Y:nE (zId T.te fs) (i.z.map zA) S=some l) (k:VK P ops r s K d (U) ([]) (.ag l)):RK P ops (⟨some d,.build t J,ty,pos,af,none⟩:: r) s K:=have ⟨F,h⟩:=pq h;have ⟨W,h⟩:=pq h;have ⟨G,D⟩:=pq h;Q0 rfl rfl (Go.Sw.bld T.ok rfl F W G D V Y) k
def RK.bA {G:Array (Nat×Operand)} {L J:LV} {A:TI} {l:List AV} (h:(G.toList,T.te t,i.ty,T.te e)=(F,some i,.arr n e,some A)) (N:nD s T.te F L J) (U:nE (λj=>some (j*A.w,A.w)) (i.z.map zA) L=some l) (k:VK P ops r s K d (J) ([]) (.ag l)):RK P ops (⟨some d,.build t G,ty,pos,af,none⟩:: r) s K:=have ⟨y,h⟩:=pq h;have ⟨Y,h⟩:=pq h;have ⟨E,V⟩:=pq h;Q0 rfl rfl (Go.Sw.bldA T.ok rfl y Y E V N U) k
def RK.liB (l:By) {D:TI} {U:Array (Nat×Operand)} {W:List (Nat×Operand)} {Y:LV} {bb:LB} (h:(U.toList,(T.te t).map (·.ty),T.te e,D.z.length,1,Qb n 16777216)=(W,some (.slice e),some D,D.w,D.w,true)) (Z:nP s T.te e 0 W V Y bb) (A:(nE (λj=>some (j*D.w,D.w)) (qJ D.z n) V,l.length,s.blk d)=(some ((l.map λx=>PV.int .u8 x.toNat).map .p),n,none)) (k:BK P ops r s K d (Y) (bb) ([d]) (d) (.buf (.bytes l)) (.buf d l.length)):RK P ops (⟨some d,.buildSlice t n U,ty,pos,af,none⟩:: r) s K:=have ⟨L,h⟩:=pq h;have ⟨ht,h⟩:=pq h;have ⟨he,h⟩:=pq h;have ⟨hz,h⟩:=pq h;have ⟨I,hn⟩:=pq h;have ⟨hf,A⟩:=pq A;have ⟨G,hk⟩:=pq A;Qk rfl (Go.Sw.litB T.ok l rfl rfl L ht he hz I hn Z hf G hk) k
def RK.li {V:Type} {w:Nat} (f:V->PV) (l:List V) {A:TI} {W:Array (Nat×Operand)} {Y:List (Nat×Operand)} {Z:LV} {bb:LB} (h:(W.toList,(T.te t).map (·.ty),T.te e,A.z.length,A.w,Q5 0 w,Qb (n*w) 16777216)=(Y,some (.slice e),some A,A.w,w,true,true)) (hp:nP s T.te e 0 Y Z rs bb) (hl:∀ a,(f a).cells.length=w) (D:(nE (λj=>some (j*A.w,A.w)) (qJ A.z n) Z,l.length,s.blk d)=(some ((flatCells (l.map f)).map .p),n,none)) (k:BK P ops r s K d (rs) (bb) ([d]) (d) (.buf (.sl w (l.map f))) (.buf d l.length)):RK P ops (⟨some d,.buildSlice t n W,ty,pos,af,none⟩:: r) s K:=have ⟨U,h⟩:=pq h;have ⟨ht,h⟩:=pq h;have ⟨he,h⟩:=pq h;have ⟨hz,h⟩:=pq h;have ⟨hw,h⟩:=pq h;have ⟨S,hn⟩:=pq h;have ⟨hf,D⟩:=pq D;have ⟨I,hk⟩:=pq D;Qk rfl (Go.Sw.lit T.ok f l rfl rfl U ht he hz hw S hn hp hl hf I hk) k
def RK.lr {A:TI} {L:Array (Nat×Operand)} {J:List (Nat×Operand)} {N:LV} {l:List AV} (h:(L.toList,(T.te t).map (·.ty),T.te e,A.z.length,Qb (n*A.w) 16777216)=(J,some (.slice e),some A,A.w,true)) (U:nD s T.te J N S) (F:(nE (λj=>some (j*A.w,A.w)) (qJ A.z n) N,s.blk d)=(some l,none)) (k:BK P ops r s K d (S) ([]) ([d]) (d) (.var l) (.ref d 0 n)):RK P ops (⟨some d,.buildSlice t n L,ty,pos,af,none⟩:: r) s K:=have ⟨G,h⟩:=pq h;have ⟨Z,h⟩:=pq h;have ⟨he,h⟩:=pq h;have ⟨hz,W⟩:=pq h;have ⟨hf,hk⟩:=pq F;Qk rfl (Go.Sw.sa_litr T.ok rfl rfl G Z he hz (yZ W) U hf hk) k
def RK.ex {l:List AV} (A:(s.get T.te 0 x,l[n]?)=(some (.tu l),some v)) (k:VK P ops r s K d (opS x (.tu l)) ([]) (v)):RK P ops (⟨some d,.extract x n,ty,pos,af,none⟩:: r) s K:=have ⟨F,E⟩:=pq A;Q0 rfl rfl (Go.Sw.va_extractA rfl F E) k
def RK.slB {lo Y:Option Operand} {G A E:Option Int} {a:Int} {u:By} (h:sub l a b=some u) (F:((T.te t).map (·.ty),T.te e,s.get T.te t x)=(some (.slice e),some W,some v)) (hp:s.rd v=some (.bytes l,bs)) (hw:1=W.w) (L:Bd s T.te lo G rl) (J:Bd s T.te Y A rh) (N:Bd s T.te Z E U) (hm:E=none∨(E=A/\A.isSome=true)) (S:(G.getD 0,A.getD l.length)=(a,b)) (k:VK P ops r s K d (opS x v++(rl++(rh++U))) (bs) (.p (.bytes u))):RK P ops (⟨some d,.slice t x lo Y Z,ty,pos,af,none⟩:: r) s K:=have ⟨ht,F⟩:=pq F;have ⟨he,hx⟩:=pq F;have ⟨ea,eb⟩:=pq S;Q0 rfl rfl (Go.Sw.slB T.ok h rfl ht he hx hp hw L J N hm ea eb) k
def RK.slM {W mx:Option Operand} {G A F:Option Int} {Y:TI} {a:Int} {f:α->PV} {w:Nat} {l:List α} (h:sub l a b=some u) (E:((T.te t).map (·.ty),T.te e,s.get T.te t x)=(some (.slice e),some Y,some v)) (hp:s.rd v=some (.sl w (l.map f),bs)) (hw:w=Y.w) (J:Bd s T.te W G rl) (N:Bd s T.te Z A rh) (S:Bd s T.te mx F U) (hm:F=none∨(F=A/\A.isSome=true)) (L:(G.getD 0,A.getD l.length)=(a,b)) (k:VK P ops r s K d (opS x v++(rl++(rh++U))) (bs) (.p (.sl w (u.map f)))):RK P ops (⟨some d,.slice t x W Z mx,ty,pos,af,none⟩:: r) s K:=have ⟨ht,E⟩:=pq E;have ⟨he,hx⟩:=pq E;have ⟨ea,eb⟩:=pq L;Q0 rfl rfl (Go.Sw.slM T.ok h rfl ht he hx hp hw J N S hm ea eb) k
def RK.lnS (A:((T.te t).map (·.ty),s.get T.te t x)=(some (.slice e),some v)) (L:s.rd v=some (p,bs)) (N:p.isSlice=true) (k:VK P ops r s K d (opS x v) (bs) (.p (.int .i64 p.len))):RK P ops (⟨some d,.call ⟨.builtin .len,#[x],#[t]⟩,ty,pos,af,none⟩:: r) s K:=have ⟨W,S⟩:=pq A;Q0 rfl rfl (Go.Sw.lnS T.ok rfl W S L N) k
def RK.lnM {E:Type} {f:E->PV} {w:Nat} {l:List E} (A:((T.te t).map (·.ty),s.get T.te t x)=(some (.slice e),some v)) (V:s.rd v=some (.sl w (l.map f),bs)) (k:VK P ops r s K d (opS x v) (bs) (.p (.int .i64 l.length))):RK P ops (⟨some d,.call ⟨.builtin .len,#[x],#[t]⟩,ty,pos,af,none⟩:: r) s K:=have ⟨J,N⟩:=pq A;Q0 rfl rfl (Go.Sw.lnM T.ok rfl J N V) k
def RK.lnR {D:Nat} (v:((T.te t).map (·.ty),s.get T.te t x)=(some (.slice e),some (.ref D off n))) (k:VK P ops r s K d (opS x (.ref D off n)) ([]) (.p (.int .i64 n))):RK P ops (⟨some d,.call ⟨.builtin .len,#[x],#[t]⟩,ty,pos,af,none⟩:: r) s K:=have ⟨G,N⟩:=pq v;Q0 rfl rfl (Go.Sw.va_lenR T.ok rfl G N) k
def RK.mi {A:IntKind} {a:Int} (D:(s.get T.te t x,s.get T.te G y)=(some (.p (.int A a)),some (.p (.int A b)))) (k:VK P ops r s K d (opS x (.p (.int A a))++opS y (.p (.int A b))) ([]) (.p (.int A (if b<a then b else a)))):RK P ops (⟨some d,.call ⟨.builtin .min,#[x,y],#[t,G]⟩,ty,pos,af,none⟩:: r) s K:=have ⟨L,I⟩:=pq D;Q0 rfl rfl (Go.Sw.minI T.ok rfl L I) k
def RK.apNB {E:TI} {b:Nat} {u:By} (h:yM b [] m=some u) (v:((T.te t).map (·.ty),T.te e,(T.te t2).map (·.ty),s.get T.te t x,1,E.z.length,s.get T.te t2 y,s.rd vy,E.b,Q5 0 b,s.blk d)=(some (.slice e),some E,some (.slice e2),some (.nl (.bytes [])),E.w,E.w,some vy,some (.bytes m,bs),b,true,none)) (k:BK P ops r s K d (opS x (.nl (.bytes []))++opS y vy) (bs) ([d]) (d) (.buf (.bytes u)) (.buf d u.length)):RK P ops (⟨some d,.call ⟨.builtin .append,#[x,y],#[t,t2]⟩,ty,pos,af,none⟩:: r) s K:=have ⟨ht,v⟩:=pq v;have ⟨he,v⟩:=pq v;have ⟨ht2,v⟩:=pq v;have ⟨hx,v⟩:=pq v;have ⟨I,v⟩:=pq v;have ⟨hz,v⟩:=pq v;have ⟨hy,v⟩:=pq v;have ⟨hp,v⟩:=pq v;have ⟨hb,v⟩:=pq v;have ⟨hb1,hk⟩:=pq v;Qk rfl (Go.Sw.apNB T.ok h rfl rfl ht he ht2 hx I hz hy hp hb hb1 hk) k
def RK.apB {N:TypeId} {G:TI} {S:AV} {b:Nat} {F:Nat} {u:By} (h:yM b l m=some u) (v:((T.te t).map (·.ty),T.te e,(T.te N).map (·.ty),s.get T.te t x,s.blk F,1,G.z.length,s.get T.te N y)=(some (.slice e),some G,some (.slice e2),some (.buf F l.length),some (.buf (.bytes l)),G.w,G.w,some S)) (hp:s.rd S=some (.bytes m,bs)) (W:(G.b,Q5 0 b)=(b,true)) (k:BK P ops r s K d (opS x (.buf F l.length)++opS y S) ((F,.buf (.bytes l)) :: bs) ([]) (F) (.buf (.bytes u)) (.buf F u.length)):RK P ops (⟨some d,.call ⟨.builtin .append,#[x,y],#[t,N]⟩,ty,pos,af,none⟩:: r) s K:=have ⟨ht,v⟩:=pq v;have ⟨he,v⟩:=pq v;have ⟨V,v⟩:=pq v;have ⟨hx,v⟩:=pq v;have ⟨hk,v⟩:=pq v;have ⟨J,v⟩:=pq v;have ⟨hz,hy⟩:=pq v;have ⟨hb,L⟩:=pq W;Qk rfl (Go.Sw.apB T.ok h rfl rfl ht he V hx hk J hz hy hp hb L) k
def RK.apS {b:Nat} {k0:Nat} {u:By} (h:yM b l m=some u) (ht:(T.te t).map (·.ty)=some (.slice e)) (he:T.te e=some ei) (ht2:(T.te t2).map (·.ty)=some .str) (hx:s.get T.te t x=some (.buf k0 l.length)) (hk:s.blk k0=some (.buf (.bytes l))) (hcw:1=ei.w) (hz:ei.z.length=ei.w) (hy:s.get T.te t2 y=some vy) (hp:s.rd vy=some (.str m,bs)) (hb:ei.b=b) (hb1:Q5 0 b=true) (k:BK P ops r s K d (opS x (.buf k0 l.length)++opS y vy) ((k0,.buf (.bytes l)) :: bs) ([]) (k0) (.buf (.bytes u)) (.buf k0 u.length)):RK P ops (⟨some d,.call ⟨.builtin .append,#[x,y],#[t,t2]⟩,ty,pos,af,none⟩:: r) s K:=Qk rfl (Go.Sw.apS T.ok h rfl rfl ht he ht2 hx hk hcw hz hy hp hb hb1) k
def RK.apM {S:TypeId} {I:TI} {b:Nat} (f:α->PV) {w G:Nat} {l m:List α} (h:yM b l m=some u) (v:((T.te t).map (·.ty),T.te e,(T.te S).map (·.ty),s.get T.te t x,s.blk G,w,Q5 0 w,I.z.length,s.get T.te S y)=(some (.slice e),some I,some (.slice e2),some (.buf G l.length),some (.buf (.sl w (l.map f))),I.w,true,I.w,some vy)) (hp:s.rd vy=some (.sl w (m.map f),bs)) (J:∀ a,(f a).cells.all W4=true) (bd:(I.b,Q5 0 b)=(b,true)) (k:BK P ops r s K d (opS x (.buf G l.length)++opS y vy) ((G,.buf (.sl w (l.map f))) :: bs) ([]) (G) (.buf (.sl w (u.map f))) (.buf G u.length)):RK P ops (⟨some d,.call ⟨.builtin .append,#[x,y],#[t,S]⟩,ty,pos,af,none⟩:: r) s K:=have ⟨ht,v⟩:=pq v;have ⟨he,v⟩:=pq v;have ⟨V,v⟩:=pq v;have ⟨hx,v⟩:=pq v;have ⟨hk,v⟩:=pq v;have ⟨N,v⟩:=pq v;have ⟨bc,v⟩:=pq v;have ⟨hz,hy⟩:=pq v;have ⟨hb,Y⟩:=pq bd;Qk rfl (Go.Sw.apM T.ok f h rfl rfl ht he V hx hk N bc hz hy hp J hb Y) k
def RK.bb {A:Nat} (y:((T.te t).map (·.ty),(T.te e).map (·.ty),s.get T.te t x,s.blk A)=(some (.slice e),some (.int .u8),some (.buf A l.length),some (.buf (.bytes l)))) (L:l≠[])
  (k:RK P ops r (s.put d (.buf A l.length)) λs' U=>K s' (⟨opS x (.buf A l.length),[(A,.buf (.bytes l))],[],some (d,some (.buf A l.length)),[]⟩:: U)):RK P ops (⟨some d,.convert t t x,ty,pos,af,none⟩:: r) s K:=have ⟨I,y⟩:=pq y;have ⟨N,y⟩:=pq y;have ⟨S,V⟩:=pq y;RK.st rfl (Go.Sw.sa_bb T.ok rfl rfl I N S V L) k
def RK.cl {U:Array TypeId} {Y:List Operand} {S:List TypeId} {E:LV} {bb:LB} {W:Nat} (h:Ok P f W (mkS (argE 0 ps) []) (mkS [(0,av)] blks)) (A:(xs.toList,U.toList)=(Y,S)) (ha:lH s T.te Y S ps E bb) (I:(Q3 W ps.length,(kR (sh d) blks).all (λk=>(s.blk k).isNone))=(true,true))
  (k:RK P ops r (Mic.upd ⟨E,bb,kR (sh d) blks,some (d,some (av.ren (sh d))),bR (sh d) blks⟩ s) λs' ms=>K s' (⟨E,bb,kR (sh d) blks,some (d,some (av.ren (sh d))),bR (sh d) blks⟩:: ms)):RK P ops (⟨some d,.call ⟨.value (.func f),xs,U⟩,ty,pos,af,none⟩:: r) s K:=have ⟨G,F⟩:=pq A;have ⟨hn,hf⟩:=pq I;
 by
 rw [zBv,zG5] at k;exact RK.st rfl (Go.Sw.cl T.ok h rfl rfl G F ha hn (by rw [<- zBv];exact hf)) k
def RK.cp {J:Operand} {l:List AV} {bb G:LB} {D:Nat} {l':List AV} (h:Ok P f na (mkS ((0,.ptr 0 0) :: argE 1 ps) [(0,.var (cs.map .p))]) (mkS [(0,av)] ((0,.var l') :: blks))) (v:(xs.toList,ts.toList,s.get T.te ta J,s.blk D,s.rdL l)=(J :: xl,ta :: tl,some (.ptr D 0),some (.var l),some (cs,G))) (ha:lH s T.te xl tl ps S bb) (F:(Q3 na (ps.length+1),(kR (sh d) blks).all (λk=>(s.blk k).isNone),blks.all (λe=>!Nat.beq e.1 0))=(true,true,true))
  (k:RK P ops r (Mic.upd ⟨opS J (.ptr D 0)++S,(D,.var l) :: (G++bb),kR (sh d) blks,some (d,some (av.ren (shp d D))),bR (shp d D) ((0,.var l') :: blks)⟩ s) λs' ms=>K s' (⟨opS J (.ptr D 0)++S,(D,.var l) :: (G++bb),kR (sh d) blks,some (d,some (av.ren (shp d D))),bR (shp d D) ((0,.var l') :: blks)⟩:: ms)):RK P ops (⟨some d,.call ⟨.value (.func f),xs,ts⟩,ty,pos,af,none⟩:: r) s K:=have ⟨U,v⟩:=pq v;have ⟨N,v⟩:=pq v;have ⟨Z,v⟩:=pq v;have ⟨ba,Y⟩:=pq v;have ⟨hn,F⟩:=pq F;have ⟨hf,V⟩:=pq F;
 by
 rw [zBv,zG5] at k;exact RK.st rfl (Go.Sw.clp T.ok h rfl rfl U N Z ba Y ha hn (by rw [<- zBv];exact hf) V) k
end
def AS.unb (s:AS) (k:Nat):AS:={ s with blk:=wP s.blk k }
def uZ {k i:Nat} (h:i≠k):wP B k i=B i:=by
 unfold wP;have:Q3 i k=false:=by rw [Qg];simp_all
 simp_all
def zAr {k:Nat}:wP B k k=none:=by simp [wP]
def yT.unb {k:Nat} {x:Value} (hr:yT M κ tip B v x):v.oks (wP B k)=true->yT M (kF κ k none) tip (wP B k) v x:=by
 have y:∀ i,(wP B k i).isSome=true->i≠k:=by
  rintro i h rfl;rw [zAr] at h;cases h
 induction hr with
 | p v x A=>intro _;exact .p v x A
 | nl c A=>intro _;exact .nl c A
 | ptr i o b l A D=>intro h;simp only [Qp] at h;exact .ptr i o b l (by rw [zW (y i h)];exact A) (by rw [uZ (y i h)];exact D)
 | ref i o n b l A D=>intro h;simp only [Qp] at h;exact .ref i o n b l (by rw [zW (y i h)];exact A) (by rw [uZ (y i h)];exact D)
 | buf i n c x A F D G h4=>intro h;simp only [Qp] at h;exact .buf i n c x (by rw [uZ (y i h)];exact A) F D G h4
 | ag l K A _ I=>intro h;simp only [Qp] at h;exact .ag l K A (λj q E=>I j q E (vN l h j q E))
 | tu l K A _ I=>intro h;simp only [Qp] at h;exact .tu l K A (λj q E=>I j q E (vN l h j q E))
 | fnv f l K A _ I=>intro h;simp only [Qp] at h;exact .fnv f l K A (λj q E=>I j q E (vN l h j q E))
 | own i n w l x A D G F=>intro h;simp only [Qp] at h;exact .own i n w l x (by rw [uZ (y i h)];exact A) D G F
 | optr i n o w l x A D G F=>intro h;simp only [Qp] at h;exact .optr i n o w l x (by rw [uZ (y i h)];exact A) D (λe=>by rw [zW (y i h)];exact G e) F
 | osl i n o m w l x A D G F=>intro h;simp only [Qp] at h;exact .osl i n o m w l x (by rw [uZ (y i h)];exact A) D (λe=>by rw [zW (y i h)];exact G e) F
def Imp.fixV {t k:Nat} {l:List AV} (he:s.env t=some (.ptr k 0)) (hb:s.blk k=some (.var l)) (bz:s.rdL l=some (cs,bs)) (hc:c.cells=cs)
  (bj:∀ e∈pk,e.1≠k) (hE:∀ u v,u≠t->s.env u=some v->v.oks (wP s.blk k)=true) (hV:∀ i K,i≠k->s.blk i=some (.var K)->oJ (wP s.blk k) K=true) (hW:∀ i w K,s.blk i=some (.own w K)->oJ (wP s.blk k) K=true):Imp pk s ((s.unb k).put t (.p (.cptr c))):=by
 intro cx a w bk hs;obtain ⟨M,κ,tip,h0,hp,I⟩:=hs;obtain ⟨b,E,e,fz,q1,q2,q3,q4,q5,q6,q7⟩:=I.vars k l hb;obtain ⟨x,cc,ch⟩:=I.env t _ he;obtain ⟨r1,r2⟩:=zAh bz q5;cases ch with
 | ptr _ _ b' l' g1 g2=>
 rw [q1] at g1;cases g1;have cf:cx.w0.heap.size<=b:=by
  rcases q7 with q7 | q7
  ·exact q7
  ·simp only [Ctx.pb,Qd] at q7;obtain ⟨e',S,rfl⟩:=q7;have W:=(hp e' S).1;have:=I.inj _ _ _ W q1;exact (bj e' (bk▸S) this).elim
 have N:M.le (xI M b 0 E.size (E[·]?)):=uK λo _ _=>q6 o;have F:∀ b' o,b'≠b->xI M b 0 E.size (E[·]?) b' o=M b' o:=by
  intro b' o A;unfold xI;rw [if_neg (by intro h;exact A h.1)]
 have bm:∀ j,j<E.size->xI M b 0 E.size (E[·]?) b j=E[j]?:=by
  intro j hj;unfold xI;rw [if_pos ⟨rfl,Qm _,hj⟩]
 have U:∀ {v:AV} {x:Value},yT M κ tip s.blk v x->v.oks (wP s.blk k)=true->yT (xI M b 0 E.size (E[·]?)) (kF κ k none) tip (wP s.blk k) v x:=
  λh ho=>(h.unb ho).mono N
 have bn:∀ (j:Nat) (q:PV),c.cells[j]? = some q->j<E.size:=λj q L=>by
  have:=(List.getElem?_eq_some_iff.1 L).1;rw [hc] at this;omega
 refine ⟨xI M b 0 E.size (E[·]?),kF κ k none,tip,h0.trans' N,λe' S=>?_,{
  defers:=I.defers
  size:=I.size
  fr:=I.fr
  mem:=λb' o y h=>by
   unfold xI at h;split at h
   ·rename_i cb;obtain ⟨rfl,_,bl⟩:=cb;simp only [Qj,q2];simpa using h
   ·exact I.mem b' o y h
  env:=λu v h=>by
   simp only [AS.put,AS.unb] at h;cases Z:Q3 u t with
   | true=>
    have:=Q1 Z;subst this;simp at h;subst h;refine ⟨_,cc,.p _ _ (.cptr c b 0 (λj q L=>?_) (λj q L=>?_))⟩
    ·have:=bn j q L;rw [Q9,bm j this];simp [this]
    ·have bl:=bn j q L;rw [hc] at L;have:=(r2 j q L).mono N;simp only [mget,Q9,bm j bl];simpa [Q8] using this
   | false=>
    simp [Z] at h;have A:u≠t:=by rintro rfl;simp at Z
    obtain ⟨y,W,h2⟩:=I.env u v h;exact ⟨y,W,U h2 (hE u v A h)⟩
  vars:=λi K h=>by
   have G:wP s.blk k i=some (.var K):=h;have A:i≠k:=by rintro rfl;rw [zAr] at G;cases G
   rw [uZ A] at G;obtain ⟨V,T,e2,ba,z1,z2,z3,z4,z5,z6,z7⟩:=I.vars i K G;have bc:V≠b:=λe=>A (I.inj i k b (e▸z1) q1);exact ⟨V,T,e2,ba,by rw [zW A];exact z1,z2,z3,z4,λj q L=>U (z5 j q L) (vN K (hV i K A G) j q L),λo=>by rw [F V o bc];exact z6 o,z7⟩
  bufs:=λi ci h=>by
   have G:wP s.blk k i=some (.buf ci):=h;have A:i≠k:=by rintro rfl;rw [zAr] at G;cases G
   rw [uZ A] at G;obtain ⟨z1,z2,z3,z4⟩:=I.bufs i ci G;refine ⟨z1.mono N,z2,z3,?_⟩;rw [zW A];rcases z4 with z4 | ⟨V,n2,bp,T,e2,ba,y1,y2,y3,y4,y5,y6,y7,y8⟩
   ·exact .inl z4
   ·have bc:V≠b:=λe=>A (I.inj i k b (e▸y2) q1);exact .inr ⟨V,n2,bp,T,e2,ba,y1,y2,y3,y4,y5,y6,y7,λj hj=>by rw [F V j bc];exact y8 j hj⟩
  inj:=λi i' b' W h2=>by
   have e1:i≠k:=by rintro rfl;rw [xO] at W;cases W
   have e2:i'≠k:=by rintro rfl;rw [xO] at h2;cases h2
   rw [zW e1] at W;rw [zW e2] at h2;exact I.inj i i' b' W h2
  dom:=λi h=>by
   have G:wP s.blk k i=none:=h;by_cases A:i=k
   ·subst A;exact xO _ _ _
   ·rw [uZ A] at G;rw [zW A];exact I.dom i G
  glob:=I.glob.mono N
  old:=⟨λb' o ca=>by rw [F b' o jh];exact I.old.1 b' o ca,I.old.2⟩
  owns:=I.owns.keep λi wd K h=>by
   have G:wP s.blk k i=some (.own wd K):=h;have A:i≠k:=by rintro rfl;rw [zAr] at G;cases G
   rw [uZ A] at G;exact ⟨G,zW A,rfl,λV z=>⟨rfl,λo hm=>by rw [F V o (λe=>A (I.inj i k b (e▸z) q1))];exact hm⟩,λj q x L hr=>U hr (vN K (hW i wd K G) j q L)⟩}⟩
 have A:e'.1≠k:=bj e' (bk▸S);rw [zW A];exact hp e' S
def Imp.pureT {t:Nat} {l:List AV} (j:Nat) (W:s.env t=some (.tu l)) (L:l[j]? = some v) (hr:s.rd v=some (p,bs)):Imp pk s (s.put t (.tu (l.set j (.p p)))):=by
 intro cx a w _ U;obtain ⟨M,κ,tip,T,N,G⟩:=U;refine ⟨M,κ,tip,T,N,{ G with env:=λu y e=>?_ }⟩;simp only [AS.put] at e;cases J:Q3 u t with
 | true=>
  have:=Q1 J;subst this;simp at e;subst e;obtain ⟨x,S,Y⟩:=G.env u _ W;cases Y with
  | tu _ V Z I=>
  refine ⟨_,S,.tu _ V jm (λi q D=>?_)⟩;rw [List.getElem?_set] at D;split at D
  ·rename_i e;subst e;split at D
   ·cases D;exact .p _ _ (zGg (I j v L) hr)
   ·cases D
  ·exact I i q D
 | false=>
  simp [J] at e;exact G.env u y e
section
def zU0 {l:Nat} (h:Q .normal s):awp P cx (.label l) Q s:=λ_ _ hs=>wp_label ⟨s,hs,h⟩
end
def Imp.freezeC {k2 j0 k:Nat} {l:List AV} (he:s.blk k2=some (.var l2)) (hj0:l2[j0]? = some (.ref k 0 n)) (bu:k2≠k) (hb:s.blk k=some (.var l)) (hrd:s.rdL l=some (cs,bs)) (hc:fO w0 c cs) (ba:c.len=n) (hw:0<w0) (hml:n<=maxLen)
  (hpk:∀ e∈pk,e.1≠k) (hE:∀ u v,s.env u=some v->v.oks (wP s.blk k)=true) (hV:∀ i V,i≠k->i≠k2->s.blk i=some (.var V)->oJ (wP s.blk k) V=true) (hV2:oJ (wP s.blk k) (l2.set j0 (.p .nilp))=true) (hW:∀ i w V,s.blk i=some (.own w V)->oJ (wP s.blk k) V=true):Imp pk s ((s.setb k (.buf c)).setb k2 (.var (l2.set j0 (.buf k n)))):=by
 intro cx a w hcx hs;obtain ⟨M,κ,tip,h0,hp,G⟩:=hs;obtain ⟨b,K,e,fz,q1,q2,q3,q4,q5,q6,q7⟩:=G.vars k l hb;obtain ⟨bb,bg,eb,fzb,p1,p2,p3,p4,p5,p6,p7⟩:=G.vars k2 l2 he;obtain ⟨r1,r2⟩:=zAh hrd q5;obtain ⟨c1,c2,c3,c4⟩:=hc.cells r2;have bh:K.size=n*w0:=by rw [q4,<- r1,<- c4,ba]
 have bw:=p5 j0 _ hj0;generalize hx:bg.getD j0 undef=xx at bw;cases bw with
 | ref _ _ _ b' l' g1 g2=>
 rw [q1] at g1;cases g1;have bl:cx.w0.heap.size<=b:=by
  rcases q7 with q7 | q7
  ·exact q7
  ·simp only [Ctx.pb,Qd] at q7;obtain ⟨e',cb,rfl⟩:=q7;have h1:=(hp e' cb).1;have:=G.inj _ _ _ h1 q1;exact (hpk e' (hcx▸cb) this).elim
 have Y:M.le (xI M b 0 (n*c.width) (K[·]?)):=uK λo _ _=>q6 o;have bi:Rep (xI M b 0 (n*c.width) (K[·]?)) c (.slice (some ⟨b,0,none⟩) n n):=by
  have:=wB (M':=xI M b 0 (n*c.width) (K[·]?)) (b:=b) (o:=0) (cap:=n) c1 c2 Y ?_ jh
  ·rwa [ba] at this
  intro j hj;rw [ba] at hj;simp only [xI,Q9];rw [if_pos ⟨trivial,Qm _,hj⟩];rw [c3,<- bh] at hj;simp [hj]
 have E:∀ b' o,b'≠b->xI M b 0 (n*c.width) (K[·]?) b' o=M b' o:=by
  intro b' o D;unfold xI;rw [if_neg (by intro h;exact D h.1)]
 generalize hS:(s.setb k (.buf c)).setb k2 (.var (l2.set j0 (.buf k n)))=S;have bc:S.blk k=some (.buf c):=by rw [<- hS,zN (Ne.symm bu)];exact zU _ _ _
 have T:S.blk k2=some (.var (l2.set j0 (.buf k n))):=by rw [<- hS];exact zU _ _ _
 have be:∀ i,i≠k->i≠k2->S.blk i=s.blk i:=λi h1 U=>by rw [<- hS,zN U,zN h1]
 have hSe:S.env=s.env:=by rw [<- hS];rfl
 have hT:∀ i,i≠k->nC tip k (.slice (some ⟨b,0,none⟩) n n) i=tip i:=λi h=>yQ h;have bk:∀ {v:AV} {x:Value},yT M κ tip s.blk v x->v.oks (wP s.blk k)=true->yT M κ (nC tip k (.slice (some ⟨b,0,none⟩) n n)) (s.setb k (.buf c)).blk v x:=
  λh ho=>h.frz (λi h=>zN h) hT ho
 have gle:GLe κ κ (nC tip k (.slice (some ⟨b,0,none⟩) n n)) (nC tip k (.slice (some ⟨b,0,none⟩) n n)) (s.setb k (.buf c)).blk S.blk:=by
  rw [<- hS];exact zTj (by rw [zN bu];exact he)
 have N:∀ {v:AV} {x:Value},yT M κ tip s.blk v x->v.oks (wP s.blk k)=true->yT (xI M b 0 (n*c.width) (K[·]?)) κ (nC tip k (.slice (some ⟨b,0,none⟩) n n)) S.blk v x:=
  λh ho=>((bk h ho).ghost gle).mono Y
 refine ⟨xI M b 0 (n*c.width) (K[·]?),κ,nC tip k (.slice (some ⟨b,0,none⟩) n n),h0.trans' Y,hp,{
  defers:=G.defers
  size:=G.size
  fr:=G.fr
  mem:=λb' o y h=>by
   unfold xI at h;split at h
   ·rename_i hc';obtain ⟨rfl,_,hlt⟩:=hc';simp only [Qj,q2];simpa using h
   ·exact G.mem b' o y h
  env:=λu v h=>by
   rw [hSe] at h;obtain ⟨y,h1,U⟩:=G.env u v h;exact ⟨y,h1,N U (hE u v h)⟩
  vars:=λi V h=>by
   have D:i≠k:=by rintro rfl;rw [bc] at h;cases h
   by_cases U:i=k2
   ·subst U;rw [T] at h;cases h;refine ⟨bb,bg,eb,fzb,p1,p2,p3,by simpa using p4,λj q W=>?_,λo=>by rw [E bb o (λe=>D (G.inj i k b (e▸p1) q1))];exact p6 o,p7⟩;rw [List.getElem?_set] at W;split at W
    ·rename_i e;subst e;split at W
     ·cases W;rw [hx];refine .buf k n c _ bc c2 jh ?_ (λ_=>(yR _ _ _).symm);rw [<- ba,sL c2,ba];exact bi
     ·cases W
    ·rename_i hjn;refine N (p5 j q W) (vN _ hV2 j q ?_);rw [List.getElem?_set_ne hjn];exact W
   ·rw [be i D U] at h;obtain ⟨b2,Z,e2,bj,z1,z2,z3,z4,z5,z6,z7⟩:=G.vars i V h;have bn:b2≠b:=λe=>D (G.inj i k b (e▸z1) q1);exact ⟨b2,Z,e2,bj,z1,z2,z3,z4,λj q W=>N (z5 j q W) (vN V (hV i V D U h) j q W),λo=>by rw [E b2 o bn];exact z6 o,z7⟩
  bufs:=λi ci h=>by
   by_cases D:i=k
   ·subst D;rw [bc] at h;cases h;rw [yR];refine ⟨bi,c2,jh,.inr ⟨b,n,n,K,e,fz,rfl,q1,bl,q2,q3,by rw [c3,bh];exact Qa _,hml,λj hj=>?_⟩⟩;unfold xI;rw [if_neg jh];exact q6 j
   ·have U:i≠k2:=by rintro rfl;rw [T] at h;cases h
    rw [be i D U] at h;obtain ⟨z1,z2,z3,z4⟩:=G.bufs i ci h;rw [hT i D];refine ⟨z1.mono Y,z2,z3,?_⟩;rcases z4 with z4 | ⟨b2,n2,bz,Z,e2,bj,y1,y2,y3,y4,y5,y6,y7,y8⟩
    ·exact .inl z4
    ·have bn:b2≠b:=λe=>D (G.inj i k b (e▸y2) q1);exact .inr ⟨b2,n2,bz,Z,e2,bj,y1,y2,y3,y4,y5,y6,y7,λj hj=>by rw [E b2 j bn];exact y8 j hj⟩
  inj:=G.inj
  dom:=λi h=>by
   by_cases D:i=k
   ·subst D;rw [bc] at h;cases h
   ·by_cases U:i=k2
    ·subst U;rw [T] at h;cases h
    ·rw [be i D U] at h;exact G.dom i h
  glob:=G.glob.mono Y
  old:=⟨λb' o hb'=>by rw [E b' o jh];exact G.old.1 b' o hb',G.old.2⟩
  owns:=G.owns.keep λi wd V h=>by
   have D:i≠k:=by rintro rfl;rw [bc] at h;cases h
   have U:i≠k2:=by rintro rfl;rw [T] at h;cases h
   rw [be i D U] at h;exact ⟨h,rfl,hT i D,λb2 z=>⟨rfl,λo hm=>by rw [E b2 o (λe=>D (G.inj i k b (e▸z) q1))];exact hm⟩,λj q x W hr=>N hr (vN V (hW i wd V h) j q W)⟩}⟩
section
def sa_callf {fs:List PV} {bb:LB} (hd:o.dst=some d) (ho:o.op=.call { callee:=.value x,args:=xs,argTypes:=ts }) (Z:s.get te tx x=some (.p (.fn f fs cs)))
  (ba:Ok P f na (mkS (argE 0 (fs++(ps++cs))) []) (mkS [(0,av)] blks)) (hxl:xs.toList=xl) (htl:ts.toList=tl) (ha:lH s te xl tl ps rs bb) (hn:na=(fs++(ps++cs)).length) (hf:∀ k∈(blks.map λe=>sh d e.1),s.blk k=none) :
  SA P o s ⟨opS x (.p (.fn f fs cs))++rs,bb,blks.map λe=>sh d e.1,some (d,some (av.ren (sh d))),blks.map λe=>(sh d e.1,e.2.ren (sh d))⟩:=by
 refine ⟨?_,yK (zO Z) ha.reads.1,ha.reads.2,hf⟩;intro cx s' a w K Q N hs hws hk;obtain ⟨M,κ,tip,h0,hp,I⟩:=hs;obtain ⟨hl,S⟩:=ha.rep I (zY N.1) N.2.1;have W:=repA_pv (yB I (yJ Z s' (yE N.1)));generalize bh:a.eval x=z at W;cases W with
 | fn _ _ _ vf vc e1 e2 e3 e4=>
 have D:(xs.map a.eval).toList=xl.map a.eval:=by simp [hxl]
 have hsz:(vf++xs.map a.eval++vc).size=(fs++(ps++cs)).length:=by
  have:(xs.map a.eval).size=ps.length:=by rw [<- hl,<- Qn,D];simp
  simp only [Qr,List.length_append,this,e1,e2];omega
 have Y:=zJu (w:=w) (I.globw hp) I.mem hsz (λj p E=>by
  have U:(xs.map a.eval).size=ps.length:=by rw [<- hl,<- Qn,D];simp
  rw [Q8];rw [List.getElem?_append] at E;rw [Array.append_assoc,Array.getElem?_append];split at E
  ·rename_i G;rw [if_pos jh];simpa [Q8] using e3 j p E
  ·rename_i G;rw [if_neg jh,Array.getElem?_append,U];rw [List.getElem?_append] at E;split at E
   ·rename_i V;rw [if_pos jh];have:=S (j - fs.length) p E;rw [e1,<- Array.getElem?_toList,D];exact this
   ·rename_i V;rw [if_neg jh,e1];simpa [Q8] using e4 _ p E)
 have L:(execOp a.eval o).run P w=.ok (.enter f (vf++xs.map a.eval++vc)) w:=by
  obtain ⟨fn,G,V,h3⟩:=ba.1;have h2':fn.body≠none:=by intro e;simp [e] at V
  have h3':fn.name ≠ "runtime.NumGoroutine":=by intro e;simp [e] at h3
  simp [execOp,ho,resolve,bh,Deferred.ofValue,invoke,callFunc,G,h2',h3']
 subst hn;unfold Oper.wp;rw [L];show Calls P f _ w _;refine (ba.2 w M zP4 _ _ _ Y jk).mono ?_;rintro e w' ⟨v,rfl,M',κ',tip',bc,hp',hr⟩;show K (a.put o.dst v) w';rw [hd];refine hk _ _ ?_;rw [zJh];obtain ⟨i1,i2⟩:=I.import bc hr (sh d) (λj _ j' _ h=>zQ0 d h) jk (hob:=by simp) (λj E=>.inr (by
  refine N.2.2 (sh d j) ?_;obtain ⟨e,he,rfl⟩:=Qd.1 E;exact Qd.2 ⟨e,he,rfl⟩))
 obtain ⟨x,Z,hrx⟩:=hr.env 0 av (by simp [mkS,lk]);simp at Z;subst Z;refine ⟨M',_,_,h0.trans' bc,?_,i1.put (hws d (by simp [Mic.ws])) (i2 av v hrx)⟩;intro k hk';obtain ⟨G,V⟩:=hp k hk';refine ⟨?_,V⟩;have:fk (sh d) (blks.map (·.1)) k.1=none:=by
  cases hfk:fk (sh d) (blks.map (·.1)) k.1 with
  | none=>rfl
  | some j=>
   obtain ⟨E,he⟩:=qT hfk;have:=N.2.2 (sh d j) (by obtain ⟨e,he',rfl⟩:=Qd.1 E;exact Qd.2 ⟨e,he',rfl⟩);rw [he,I.dom _ this] at G;cases G
 simp only [this];exact G
def va_mkf {ys:Array Operand} {yl:List Operand} {tl':List TypeId} {qs:List PV} {rs':LV} {bb bb':LB} (W:o.op=.makeFunc (.func f) xs ys) (E:xs.toList=xl) (D:ys.toList=yl) (K:lH s te xl tl ps rs bb) (J:lH s te yl tl' qs rs' bb'):VA P o s (rs++rs') (bb++bb') (.p (.fn f ps qs)):=by
 refine ⟨?_,yK K.reads.1 J.reads.1,λe F=>(Qt.1 F).elim (K.reads.2 e) (J.reads.2 e)⟩;intro cx M κ tip s' a w N hr A;obtain ⟨V,h2⟩:=K.rep N (yE hr) (λe F=>A e (Qt.2 (.inl F)));obtain ⟨Y,U⟩:=J.rep N (zY hr) (λe F=>A e (Qt.2 (.inr F)));refine ⟨.func _ (xs.map a.eval) (ys.map a.eval),by simp [execOp,W,Instr.makeFunc],.p _ _ (.fn f ps qs _ _ (by rw [<- V,<- E];simp) (by rw [<- Y,<- D];simp) (λj q G=>?_) (λj q G=>?_))⟩
 ·have:=h2 j q G;rw [<- E] at this;simpa using this
 ·have:=U j q G;rw [<- D] at this;simpa using this
end
def gE (s:AS):LV->List (Option AV)
 | []=>[]
 | (t,_) :: r=>s.env t :: gE s r
def vE (ρ:AV->AV):LV->List (Option AV)
 | []=>[]
 | (_,v) :: r=>some (ρ v) :: vE ρ r
def gB (s:AS) (ρ:Nat->Nat):LB->List (Option ABlk)
 | []=>[]
 | (t,_) :: r=>s.blk (ρ t) :: gB s ρ r
def vB (ρ:ABlk->ABlk):LB->List (Option ABlk)
 | []=>[]
 | (_,v) :: r=>some (ρ v) :: vB ρ r
def rE (ρ:Nat->Nat):LV->LV
 | []=>[]
 | (t,v) :: r=>(t,v.ren ρ) :: rE ρ r
def zTs (s:AS):∀ l,gE s l=l.map λe=>s.env e.1
 | []=>rfl
 | (_,_) :: r=>by simp [gE,zTs s r]
def zSv (d:AV->AV):∀ l,vE d l=l.map λe=>some (d e.2)
 | []=>rfl
 | (_,_) :: r=>by simp [vE,zSv d r]
def zR1 (s:AS) (h:Nat->Nat):∀ l,gB s h l=l.map λe=>s.blk (h e.1)
 | []=>rfl
 | (_,_) :: r=>by simp [gB,zR1 s h r]
def zR3 (d:ABlk->ABlk):∀ l,vB d l=l.map λe=>some (d e.2)
 | []=>rfl
 | (_,_) :: r=>by simp [vB,zR3 d r]
def zZb (h:Nat->Nat):∀ l,rE h l=l.map λe=>(e.1,e.2.ren h)
 | []=>rfl
 | (_,_) :: r=>by simp [rE,zZb h r]
def swp:List (Nat×Nat)->List (Nat×Nat)
 | []=>[]
 | (a,b) :: r=>(b,a) :: swp r
def zTt:∀ (env:LV),env.map (λe=>s.env e.1)=env.map (λe=>some e.2)->zRe s env
 | [],_=>trivial
 | (t,v) :: r,h=>by
  simp only [Qq,List.cons.injEq] at h;exact ⟨h.1,zTt r h.2⟩
def zT8:∀ (blk:LB),blk.map (λe=>s.blk e.1)=blk.map (λe=>some e.2)->zQy s blk
 | [],_=>trivial
 | (t,v) :: r,h=>by
  simp only [Qq,List.cons.injEq] at h;exact ⟨h.1,zT8 r h.2⟩
theorem lp (y:PK cx ks) (D:gE s env=vE id env) (A:gB s id blk=vB id blk) (v:(lL (lk blk) env&&ks.all (λk=>(lk blk k).isSome))=true) (E:tA (lk blk) blk=true):Imp cx.pk s (mkS env blk):=by
 simp only [Q4] at v;rw [zTs,zSv] at D;rw [zR1,zR3] at A;exact Imp.lep (Lep.mk' y (zTt _ D) (zT8 _ A) v.1 E v.2)
def cbv {k:Nat} {l:List AV} {r:LB} (h:oJ B l=true) (v:tA B r=true):tA B ((k,.var l) :: r)=true:=by simp [tA,h,v]
def cbb {k:Nat} {r:LB} (h:tA B r=true):tA B ((k,.buf c) :: r)=true:=by assumption
def om {d:Type} {f:d->PV} {l:List d}:oJ B (l.map λx=>AV.p (f x))=true:=zEn f l
def lr (d:PK cx ks) (m:List (Nat×Nat)) 
  (K:gE s env=vE (AV.ren (rho m)) env) (F:gB s (rho m) blk=vB (ABlk.ren (rho m)) blk)
  (G:(lL (lk (bR (rho m) blk)) (rE (rho m) env)&&(ks.all (λk=>(lk (bR (rho m) blk) k).isSome) &&
   (((kR (rho m) blk).all λj=>(Q5 j BIG||Qb BIG (rho (swp m) j))&&(kR (rho m) blk).all λN=>!Nat.beq (rho (swp m) j) (rho (swp m) N)||Q3 j N)&&ks.all λk=>Q3 (rho (swp m) k) k)))=true)
  (V:tA (lk (bR (rho m) blk)) (bR (rho m) blk)=true)
  (U:rE (rho (swp m)) (rE (rho m) env)=env) (T:bR (rho (swp m)) (bR (rho m) blk)=blk):Imp cx.pk s (mkS env blk):=by
 simp only [Q4] at G;obtain ⟨W,D,I,E⟩:=G;rw [zTs,zSv] at K;rw [zR1,zR3] at F;have S:=lp d (s:=s) (env:=rE (rho m) env) (blk:=bR (rho m) blk) (by rw [zTs,zSv,zZb];simpa using K) (by rw [zR1,zR3,zG5];simpa using F) jm V;refine S.trans ?_;rw [zBv] at I;have J:=Imp.renK d (swp m) (env:=rE (rho m) env) (blks:=bR (rho m) blk) (by rw [zG5];simpa using I) (by
  rw [Q2] at E D ⊢;intro k L;simp only [Q4,List.any_eq_true];refine ⟨E k L,k,?_,jk⟩;obtain ⟨b,y⟩:=Qe.1 (D k L);exact Qd.2 ⟨_,tG _ _ _ y,rfl⟩)
 rw [<- zZb,<- zG5,U,T] at J;exact J
def sU {f:h->PV}:∀ {l:List h},s.rdL (l.map λx=>AV.p (f x))=some (l.map f,[])
 | []=>by rfl
 | x :: r=>by simp [AS.rdL,AS.rd,sU]
def zNh {v:Type} {f:v->PV} (y:∀ a,(f a).cells=[f a]):∀ (l:List v),flatCells (l.map f)=l.map f
 | []=>rfl
 | x :: r=>by simp [flatCells,y,zNh y r]
def zBw (l:By):fO 1 (.bytes l) (l.map λx=>PV.int .u8 x.toNat):=.bytes l rfl
def zHz {f:h->PV} (v:∀ a,(f a).cells=[f a]) (l:List h):fO 1 (.sl 1 (l.map f)) (l.map f):=by
 have:=yFi l (λa=>by rw [v a];rfl);rwa [zNh v] at this
def rD (B:NB) (k:Nat):LB->Bool
 | []=>true
 | (i,.var l) :: r=>(Q3 i k||oJ B l)&&rD B k r
 | (_,.buf _) :: r=>rD B k r
 | (_,.own _ l) :: r=>oJ B l&&rD B k r
def cxv {k i:Nat} {l:List AV} {r:LB} (h:oJ B l=true) (v:rD B k r=true):rD B k ((i,.var l) :: r)=true:=by simp [rD,h,v]
def cxk {k:Nat} {l:List AV} {r:LB} (h:rD B k r=true):rD B k ((k,.var l) :: r)=true:=by simp [rD,h]
def cxb {k i:Nat} {r:LB} (k':rD B k r=true):rD B k ((i,.buf c) :: r)=true:=by simp [rD,k']
def rD.mem {k:Nat}:∀ {l:LB},rD B k l=true->∀ {t v},t≠k->(t,.var v)∈l->oJ B v=true
 | (i,.var u) :: _,h,t,v,d,y=>by
  simp only [rD,Q4] at h;rcases Q7.1 y with e | y
  ·simp_all
  ·exact rD.mem h.2 d y
 | (i,.buf u) :: _,h,t,v,d,y=>by
  simp only [rD] at h;rcases Q7.1 y with e | y
  ·cases e
  ·exact rD.mem h d y
 | (i,.own w u) :: _,h,t,v,d,y=>by
  simp only [rD,Q4] at h;rcases Q7.1 y with e | y
  ·cases e
  ·exact rD.mem h.2 d y
def rD.memO {k:Nat}:∀ {l:LB},rD B k l=true->∀ {t w v},(t,.own w v)∈l->oJ B v=true
 | (i,.var u) :: _,h,t,w,v,d=>by
  simp only [rD,Q4] at h;rcases Q7.1 d with e | d
  ·cases e
  ·exact rD.memO h.2 d
 | (i,.buf u) :: _,h,t,w,v,d=>by
  simp only [rD] at h;rcases Q7.1 d with e | d
  ·cases e
  ·exact rD.memO h d
 | (i,.own w0 u) :: _,h,t,w,v,d=>by
  simp only [rD,Q4] at h;rcases Q7.1 d with e | d
  ·simp_all
  ·exact rD.memO h.2 d
def cbo {i w:Nat} {l:List AV} {r:LB} (h:oJ B l=true) (y:tA B r=true):tA B ((i,.own w l) :: r)=true:=by simp [tA,h,y]
def zJf (B:NB) (t:Nat):LV->Bool
 | []=>true
 | (u,v) :: r=>(Q3 u t||v.oks B)&&zJf B t r
def zJf.mem {t:Nat}:∀ {l:LV},zJf B t l=true->∀ {u v},u≠t->(u,v)∈l->v.oks B=true
 | (i,x) :: _,h,u,v,y,A=>by
  simp only [zJf,Q4] at h;rcases Q7.1 A with e | A
  ·simp_all
  ·exact zJf.mem h.2 y A
section
def fzE (E:PK cx ks) (t:Nat) {k:Nat} {l:List AV} (he:lk env t=some (.ref k 0 n)) (N:lk blk k=some (.var l)) (D:(mkS env blk).rdL l=some (cs,bs)) (hc:fO w0 c cs) (I:c.len=n) (L:Q5 0 w0=true) (be:n<=140737488355328)
  (G:(ks.all (λj=>!Nat.beq j k)&&zJf (wP (lk blk) k) t env)=true) (K:rD (wP (lk blk) k) k blk=true):Imp cx.pk (mkS env blk) (((mkS env blk).setb k (.buf c)).put t (.buf k n)):=by
 simp only [Q4] at G;refine Imp.freeze he N D hc I jm (by simp only [maxLen];omega) (λe F Z=>?_) (λu v hu h=>zJf.mem G.2 hu (tG _ u v h)) (λi U Y h=>rD.mem K Y (tG _ i _ h)) (λi w U h=>rD.memO K (tG _ i _ h));have:=(Q2.1 G.1) _ (E e F);simp_all
def fzC (J:PK cx ks) (A K:Nat) {k:Nat} {I l:List AV} (he:lk blk A=some (.var I)) (U:I[K]? = some (.ref k 0 n)) (hb:lk blk k=some (.var l)) (W:(mkS env blk).rdL l=some (cs,bs)) (hc:fO w0 c cs) (V:c.len=n) (hw:Q5 0 w0=true) (bh:n<=140737488355328)
  (G:(ks.all (λj=>!Nat.beq j k)&&(!Nat.beq A k&&(lL (wP (lk blk) k) env&&oJ (wP (lk blk) k) (I.set K (.p .nilp)))))=true) (h2:rD (wP (lk blk) k) k (blk.filter λe=>!Nat.beq e.1 A)=true):Imp cx.pk (mkS env blk) (((mkS env blk).setb k (.buf c)).setb A (.var (I.set K (.buf k n)))):=by
 simp only [Q4] at G;refine Imp.freezeC (w0:=w0) he U (λe=>by have:=G.2.1;simp [e] at this) hb W hc V jm (by simp only [maxLen];omega) (λe L hk=>?_) (λu v h=>lL.mem G.2.2.1 (tG env u v h)) (λi Y hi S h=>rD.mem h2 hi (W1.2 ⟨tG blk i _ h,?_⟩)) G.2.2.2 (λi w Y h=>rD.memO h2 (W1.2 ⟨tG blk i _ h,?_⟩))
 ·have:=(Q2.1 G.1) e.1 (J e L);simp [hk] at this
 ·have:Q3 i A=false:=by rw [Qg];simp_all
  simp [this]
 ·have T:i≠A:=by rintro rfl;have h':lk blk i=some (.own w Y):=h;rw [he] at h';cases h'
  have:Q3 i A=false:=by rw [Qg];simp_all
  simp [this]
def zPq (y:PK cx ks) (t:Nat) (u:By) {k:Nat} {l:List AV} (A:u.length=n) (N:lk env t=some (.ref k 0 n)) (G:lk blk k=some (.var l)) (E:(mkS env blk).rdL l=some (cs,bs)) (S:fO 1 (.bytes u) cs) (v:n<=140737488355328)
  (J:(ks.all (λj=>!Nat.beq j k)&&zJf (wP (lk blk) k) t env)=true) (T:rD (wP (lk blk) k) k blk=true):Imp cx.pk (mkS env blk) (((mkS env blk).setb k (.buf (.bytes u))).put t (.buf k u.length)):=by
 subst A;exact fzE y t N G E S rfl rfl v J T
def yKv (D:PK cx ks) (t:Nat) {F:Type} (f:F->PV) (u:List F) {k:Nat} {l:List AV} (A:u.length=n) (S:lk env t=some (.ref k 0 n)) (W:lk blk k=some (.var l)) (E:(mkS env blk).rdL l=some (cs,bs)) (T:fO 1 (.sl 1 (u.map f)) cs) (y:n<=140737488355328)
  (I:(ks.all (λj=>!Nat.beq j k)&&zJf (wP (lk blk) k) t env)=true) (U:rD (wP (lk blk) k) k blk=true):Imp cx.pk (mkS env blk) (((mkS env blk).setb k (.buf (.sl 1 (u.map f)))).put t (.buf k u.length)):=by
 subst A;exact fzE D t S W E T (by simp [Qh]) rfl y I U
def yMc (I:PK cx ks) (h E:Nat) (u:By) {k:Nat} {D l:List AV} (K:u.length=n) (W:lk blk h=some (.var D)) (J:D[E]? = some (.ref k 0 n)) (Z:lk blk k=some (.var l)) (L:(mkS env blk).rdL l=some (cs,bs)) (V:fO 1 (.bytes u) cs) (F:n<=140737488355328)
  (T:(ks.all (λj=>!Nat.beq j k)&&(!Nat.beq h k&&(lL (wP (lk blk) k) env&&oJ (wP (lk blk) k) (D.set E (.p .nilp)))))=true) (Y:rD (wP (lk blk) k) k (blk.filter λe=>!Nat.beq e.1 h)=true):Imp cx.pk (mkS env blk) (((mkS env blk).setb k (.buf (.bytes u))).setb h (.var (D.set E (.buf k u.length)))):=by
 subst K;exact fzC I h E W J Z L V rfl rfl F T Y
def fzCM (G:PK cx ks) (y D:Nat) {N:Type} (f:N->PV) (u:List N) {k:Nat} {E l:List AV} (J:u.length=n) (Y:lk blk y=some (.var E)) (K:E[D]? = some (.ref k 0 n)) (hb:lk blk k=some (.var l)) (L:(mkS env blk).rdL l=some (cs,bs)) (hc:fO 1 (.sl 1 (u.map f)) cs) (I:n<=140737488355328)
  (U:(ks.all (λj=>!Nat.beq j k)&&(!Nat.beq y k&&(lL (wP (lk blk) k) env&&oJ (wP (lk blk) k) (E.set D (.p .nilp)))))=true) (Z:rD (wP (lk blk) k) k (blk.filter λe=>!Nat.beq e.1 y)=true):Imp cx.pk (mkS env blk) (((mkS env blk).setb k (.buf (.sl 1 (u.map f)))).setb y (.var (E.set D (.buf k u.length)))):=by
 subst J;exact fzC G y D Y K hb L hc (by simp [Qh]) rfl I U Z
def fxV (D:PK cx ks) (t:Nat) {k:Nat} {l:List AV} (c:PV) (Y:lk env t=some (.ptr k 0)) (K:lk blk k=some (.var l)) (A:(mkS env blk).rdL l=some (cs,bs)) (U:c.cells=cs)
  (F:(ks.all (λj=>!Nat.beq j k)&&zJf (wP (lk blk) k) t env)=true) (I:rD (wP (lk blk) k) k blk=true):Imp cx.pk (mkS env blk) (((mkS env blk).unb k).put t (.p (.cptr c))):=by
 simp only [Q4] at F;refine Imp.fixV Y K A U (λe E V=>?_) (λu v Z h=>zJf.mem F.2 Z (tG _ u v h)) (λi li T h=>rD.mem I T (tG _ i _ h)) (λi w li h=>rD.memO I (tG _ i _ h));have:=(Q2.1 F.1) _ (D e E);simp_all
end
section
def va_sliceC (D:yN P te) {l:List PV} {L:PV} (ho:o.op=.slice t x none none none) (ht:(te t).map (·.ty)=some (.arr n e)) (he:(te e).map (·.w)=some 1) (T:s.get te t x=some (.p (.cptr (.agg l)))) (Z:l.length=n) (U:0<n) (V:fO 1 L l) (E:L.len=n):VA P o s (opS x (.p (.cptr (.agg l)))) [] (.p L):=by
 refine ⟨?_,zO T,jk⟩;intro cx M κ tip s' a w hi hr _;have S:=repA_pv (yB hi (yJ T s' hr));generalize F:a.eval x=z at S;cases S with
 | cptr _ b off g1 g2=>
 obtain ⟨c1,c2,c3,c4⟩:=V.cells (M:=M) (λj q Y=>g2 j q Y);obtain ⟨ei,I,bj⟩:=Qu.1 he;have hu:=zFf D ht;refine ⟨.slice (some ⟨b,off,none⟩) n n,?_,.p _ _ ?_⟩
 ·have W:¬ n=0:=jh
  simp [execOp,ho,F,Instr.sliceAt,Qo,Instr.sliceBounds,run_underlying hu,vV D I,Addr.add]
 ·have:=wB (M:=M) (M':=M) (b:=b) (o:=off) (cap:=n) c1 c2 (Mem.le_refl M) (λj N=>?_) jh
  ·rwa [E] at this
  ·rw [c3,Nat.mul_one,E,<- Z] at N;have:=g1 j l[j] (by simp [PV.cells,N]);obtain ⟨u,K⟩:=Qe.1 this;simp [mget,K]
end
section
def yGt (T:Inv cx M κ tip s' a w) {L:Nat} {S:List AV} (hy:s'.get te t' y=some (.ref L 0 n)) (N:s'.blk L=some (.var S)) (hp:s'.rdL S=some (cs,bs)) (D:fO E p cs) (F:p.len=n) (Y:c.app p=some rr) (K:c.width=E) (bm:0<E) :
  ∃ v g,Src P w c.width p.src.len (a.eval y) v/\qM M p.src g/\∀ j,j<p.src.len*c.width->v[j]? = some (g j):=by
 have Z:=yB T hy;obtain ⟨b,A,e,fz,q1,q2,q3,q4,q5,q6,q7⟩:=T.vars L S N;obtain ⟨r1,r2⟩:=zAh hp q5;obtain ⟨c1,c2,c3,c4⟩:=D.cells r2;generalize bl:a.eval y=z at Z;cases Z with
 | ref _ _ _ b' l' W g2=>
 rw [q1] at W;cases W;have I:p.src=p:=by cases p<;>simp [PV.isSlice] at c2<;>rfl
 have h:A.size=n*E:=by simp_all
 rw [I,F,K];refine ⟨A.toList,λj=>A.getD j undef,⟨λw'=>by simp [Builtin.lenOf],λw' J=>?_,by simp [h]⟩,c1,λj U=>by
  simp_all⟩
 refine run_firstCells_some (P:=P) w' E n ⟨b,0,none⟩ n n _ (by simp [h]) ?_;intro j u hu;rw [vL];refine J _ _ ?_;simp only [Qj,q2,Q9];simpa using hu
def sa_appR {k2:Nat} {E:TI} {k:Nat} {dd:TypeDesc} (hok:yN P te) (hd:o.dst=some d) (ho:o.op=.call { callee:=.builtin .append,args:=#[x,y],argTypes:=#[t,t'] })
  (ht:(te t).map (·.ty)=some (.slice e)) (he:te e=some E) (ht':P.underlying t'=some dd) (hdd:zBd dd) (hx:s.get te t x=some (.buf k c.len)) (hk:s.blk k=some (.buf c)) (J:c.width=E.w) (hw0:0<E.w) (hz:E.z.length=E.w) (hy:s.get te t' y=some (.ref k2 0 n)) (hk2:s.blk k2=some (.var l2)) (hp:s.rdL l2=some (cs,bs)) (hlit:fO E.w p cs) (hpn:p.len=n) (v:c.app p=some rr)
  (hel:aW p=true) (hb:(c.len+p.src.len)*E.b<=140737488355328) (hb1:0<E.b) :
  SA P o s ⟨opS x (.buf k c.len)++opS y (.ref k2 0 n),(k,.buf c) :: (k2,.var l2) :: bs,[],some (d,some (.buf k rr.len)),[(k,.buf rr)]⟩:=by
 refine ⟨?_,yK (zO hx) (zO hy),?_,by intro k hk';simp at hk'⟩
 ·intro cx s' a w K Q hm hs hws hk';obtain ⟨M,κ,tip,h0,hpk,hi⟩:=hs;have hbk:=hm.2.1 (k,.buf c) jk;simp only at hbk;have hx':=yB hi (yJ hx s' (yE hm.1));obtain ⟨q1,q2,q3,q4,q5,q6,q7⟩:=zFs v;obtain ⟨b1,b2,b3,b4⟩:=hi.bufs k c hbk;have hevx:a.eval x=tip k:=by
   generalize a.eval x=zx at hx';cases hx' with
   | buf _ _ c' _ g1 g2 g3 g4 g5=>rw [hbk] at g1;cases g1;exact g5 rfl
  obtain ⟨G,g,n1,n2,n3⟩:=yGt (P:=P) hi (yJ hy s' (zY hm.1)) (hm.2.1 (k2,.var l2) jk) (zCq l2 cs bs hp (λe he=>hm.2.1 e (by simp [he]))) hlit hpn v J hw0;obtain ⟨info,z,i1,i2,i3,i4,i5⟩:=(hok e E he).info;have hu:=yV hok ht;have hlen:c.len+p.src.len<=140737488355328:=Nat.le_trans (Qs _ hb1) hb;rw [J,<- i2] at n1;have hnl:G.length=p.src.len*E.w:=by rw [n1.nl,i2]
  have hrw:rr.width=E.w:=jh
  have hzs:z.cells.size=E.w:=by rw [<- Qn,i5];simpa using hz
  have hone:∀ u∈G,u.oneCell'=true:=by
   rcases zSk v with hsl | ⟨l,rfl⟩
   ·have hps:p.src=p:=by cases p<;>simp [PV.isSlice] at hsl<;>rfl
    rw [hps] at n2 n3 hnl q5;exact zE8 hsl jh hw0 n2 hnl (λj hj=>n3 j (by rw [J];exact hj)) hel
   ·exact zE8 (p:=.bytes l) rfl (by have h5:(1:Nat)=c.width:=q5;show (1:Nat)=E.w;omega) hw0 n2 hnl (λj hj=>n3 j (by rw [J];exact hj)) rfl
  unfold Oper.wp;rcases b4 with ⟨hnil,hκ⟩ | ⟨b,n,cap,arr,e1,fz,htip,hκ,hbase,hheap,hfree,hcap,hml,hM⟩
  ·
   have hlen0:c.len=0:=by
    rw [hnil] at b1;rcases mE b1 b2 with ⟨_,h⟩ | ⟨b,o,n,cc,h,_⟩ | ⟨aa,h,_⟩
    ·exact h
    ·cases h
    ·cases h
   by_cases hm0:p.src.len=0
   ·rw [hm0] at n1;have hrun:=mL (P:=P) (ty:=o.type) hu ht' hdd i1 n1;rw [xH ho (hevx.trans hnil) hrun];show K (a.put o.dst _) _;rw [hd];refine hk' _ _ ?_;rw [uL];have hrl:rr.len=0:=jh
    have hrn:rr=c:=by
     have hps:p.src.len=0:=hm0;unfold PV.app at v;split at v
     ·rename_i aa bb;simp only [Qz,Qh] at hps;have:bb=[]:=Qf hps;subst this;simp at v;exact v.symm
     ·rename_i ww aa ww' bb;simp only [Qz,Qh] at hps;have:bb=[]:=Qf hps;subst this;cases hbq:Q3 ww ww' with
      | false=>simp [hbq] at v
      | true=>simp [hbq] at v;exact v.symm
     ·rename_i aa bb;simp only [Qz,Qh] at hps;have:bb=[]:=Qf hps;subst this;simp at v;exact v.symm
     ·cases v
    subst hrn;have hset:s'.setb k (.buf rr)=s':=by
     cases s' with
     | mk env blk=>
      simp only [AS.setb];congr 1;funext t;by_cases ht:t=k
      ·subst ht;simp;exact hbk.symm
      ·have:Q3 t k=false:=by rw [Qg];intro e;exact ht (Q1 e)
       simp [this]
    rw [hset];refine ⟨M,κ,tip,h0,hpk,hi.put (hws d (by simp [Mic.ws])) ?_⟩;refine .buf k _ rr _ hbk b2 (Qa _) ?_ (λ_=>hnil.symm);rw [sL b2,<- hnil];exact b1
   ·have hrun:=iP (P:=P) (ty:=o.type) hu ht' hdd i1 i4 n1 jh (by rw [i3];rw [hlen0,Q9] at hb;exact hb) jh;rw [xH ho (hevx.trans hnil) hrun];show K (a.put o.dst _) _;rw [hd];refine hk' _ _ ?_;rw [uL];have F:=aO v (mA q1 hlen0 (λ_=>undef)) n2;have hge:=grownCap_ge w p.src.len 0 e;have hrl:rr.len=p.src.len:=jh
    have hsize:(G.toArray++Ql z.cells (grownCap w p.src.len 0 e - p.src.len)).size=grownCap w p.src.len 0 e*E.w:=by
     simp only [Qr,Qw,size_zeroCells,hzs,hnl,<- Qx];congr 1;omega
    have hfit:p.src.len*E.w<=grownCap w p.src.len 0 e*E.w:=Qc _ hge;have hml:grownCap w p.src.len 0 e<=maxLen:=grownCap_le_maxLen w p.src.len 0 e (by simp only [maxLen];omega);have I:Rep (xI M w.heap.size 0 (p.src.len*rr.width) ((G.toArray++Ql z.cells (grownCap w p.src.len 0 e - p.src.len))[·]?)) rr (.slice (some ⟨w.heap.size,0,none⟩) p.src.len (grownCap w p.src.len 0 e)):=by
     have:=wB (M':=xI M w.heap.size 0 (p.src.len*rr.width) ((G.toArray++Ql z.cells (grownCap w p.src.len 0 e - p.src.len))[·]?)) (b:=w.heap.size) (o:=0) (cap:=grownCap w p.src.len 0 e) F q2 (uK λo _ _=>hi.mlt (Qa _)) ?_ jh
     ·rwa [hrl] at this
     intro j hj;rw [hrl] at hj;simp only [xI,Q9];rw [if_pos ⟨trivial,Qm _,hj⟩,hlen0];simp only [Nat.zero_mul,Nat.not_lt_zero,if_false,Nat.sub_zero];rw [hrw] at hj;have:=n3 j (by rw [J];exact hj);rw [Array.getElem?_append_left jl];simpa using this
    refine ⟨_,_,_,h0.trans' (uK λo _ _=>hi.mlt (Qa _)),zHj hi hpk hbk _,(hi.bufNew (sC w _ e) (.inr ⟨c,hbk,jh,q7⟩) q2 jh ?_ ?_ hml I).put (hws d (by simp [Mic.ws])) ?_⟩
    ·rw [hsize,hrw];exact hfit
    ·rw [hsize,hrw];exact Qa _
    ·rw [hrl];refine .buf k _ rr _ (zU _ _ _) q2 jh ?_ (λ_=>(yR _ _ _).symm);rw [<- hrl,sL q2,hrl];exact I
  ·rw [htip] at b1;have hn:n=c.len/\n<=cap:=by
    rcases mE b1 b2 with ⟨h,_⟩ | ⟨b',o',n',cc,h,h2,h3⟩ | ⟨aa,h,hpe⟩
    ·cases h
    ·cases h;exact ⟨h2,h3⟩
    ·cases h;rcases hpe with hpe | hpe<;>(rw [hpe];exact ⟨rfl,Qa _⟩)
   obtain ⟨hn,hcl⟩:=hn;subst hn;have F:=aO v (zCx b2 b1) n2;simp only [Q9] at F;have hsome:=zJg b2 b1 b3;simp only [Q9] at hsome;have hadd:(c.len+p.src.len)*E.w=c.len*E.w+p.src.len*E.w:=Qx _ _ _;by_cases hroom:c.len+p.src.len<=cap
   ·have hfits:(c.len+p.src.len)*E.w<=arr.size:=by rw [<- J];exact Nat.le_trans (Qc _ hroom) hcap
    have hrun:=zAb (P:=P) (ty:=o.type) hu ht' hdd i1 n1 (b:=b) (n:=c.len) (cap:=cap) hone hroom
     (by
       intro j hj;rw [i2];have:c.len*E.w+j<arr.size:=jh
       simp [Qj,hheap,this])
     (by intro j hj;rw [i2];exact tZ hheap hfree jh)
    rw [xH ho (hevx.trans htip) hrun];show K (a.put o.dst _) _;rw [hd];refine hk' _ _ ?_;rw [uL,i2,<- J];have hle:M.le (xI M b (c.len*c.width) ((c.len+p.src.len)*c.width) (λo=>G[o - c.len*c.width]?)):=uK λo h _=>hM o h;have I:Rep (xI M b (c.len*c.width) ((c.len+p.src.len)*c.width) (λo=>G[o - c.len*c.width]?)) rr (.slice (some ⟨b,0,none⟩) (c.len+p.src.len) cap):=by
     have:=wB (M':=xI M b (c.len*c.width) ((c.len+p.src.len)*c.width) (λo=>G[o - c.len*c.width]?)) (b:=b) (o:=0) (cap:=cap) F q2 hle ?_ jh
     ·rwa [q6] at this
     intro j hj;rw [q6,q4] at hj;simp only [Q9];by_cases hjc:j<c.len*c.width
     ·rw [if_pos hjc];obtain ⟨u,hu⟩:=Qe.1 (hsome j hjc);rw [hle _ _ _ hu];simp [mget,hu]
     ·rw [if_neg hjc];simp only [xI];rw [if_pos ⟨trivial,jh,hj⟩];exact n3 _ (by rw [J] at hj hjc ⊢;omega)
    refine ⟨_,_,_,h0.trans' hle,hpk,(hi.bufIn hbk htip hκ hbase hheap hfree hcap hml hM (by rw [hnl,J]) hroom q2 q4 jh q7 jh I).put (hws d (by simp [Mic.ws])) ?_⟩;rw [q6];refine .buf k _ rr _ (zU _ _ _) q2 jh ?_ (λ_=>(yR _ _ _).symm);rw [<- q6,sL q2,q6];exact I
   ·have hol:((W2 (c.len*E.w)).map λj=>mget M b j).length=c.len*info.size:=by simp [i2]
    have hrun:=zBa (P:=P) (ty:=o.type) hu ht' hdd i1 i4 n1 (b:=b) (n:=c.len) (cap:=cap) (olds:=(W2 (c.len*E.w)).map λj=>mget M b j) hol
     (by
      intro j u hu;rw [List.getElem?_map] at hu;obtain ⟨j',h1,h2⟩:=Qu.1 hu;have hj:j<c.len*E.w:=by have:=(List.getElem?_eq_some_iff.1 h1).1;simpa using this
      have hjj:j'=j:=by have:=(List.getElem?_eq_some_iff.1 h1).2;simpa using this.symm
      subst hjj;obtain ⟨zz,hz⟩:=Qe.1 (hsome j' (by rw [J];exact hj));rw [hi.mem _ _ _ hz,<- h2];simp [mget,hz])
     jh (by rw [i3];exact hb) jh
    rw [xH ho (hevx.trans htip) hrun];show K (a.put o.dst _) _;rw [hd];refine hk' _ _ ?_;rw [uL];have hge:=grownCap_ge w (c.len+p.src.len) cap e;have hml:grownCap w (c.len+p.src.len) cap e<=maxLen:=grownCap_le_maxLen w _ cap e (by simp only [maxLen];omega);generalize hA:(((W2 (c.len*E.w)).map λj=>mget M b j).toArray++G.toArray++Ql z.cells (grownCap w (c.len+p.src.len) cap e - (c.len+p.src.len)))=A;have hsize:A.size=grownCap w (c.len+p.src.len) cap e*E.w:=by
     rw [<- hA];simp only [Qr,Qw,List.length_map,List.length_range,size_zeroCells,hzs,hnl,<- Qx];congr 1;omega
    have hfit:(c.len+p.src.len)*E.w<=grownCap w (c.len+p.src.len) cap e*E.w:=Qc _ hge;have hget:∀ j,j<(c.len+p.src.len)*E.w->A[j]? = some (if j<c.len*E.w then mget M b j else g (j - c.len*E.w)):=by
     intro j hj;rw [<- hA,Array.getElem?_append_left jl];by_cases hjc:j<c.len*E.w
     ·rw [if_pos hjc,Array.getElem?_append_left (by simpa using hjc)];simp [hjc]
     ·rw [if_neg hjc,Array.getElem?_append_right jl];have:=n3 (j - c.len*E.w) (by rw [J];omega);simpa using this
    have hle:M.le (xI M w.heap.size 0 ((c.len+p.src.len)*rr.width) (A[·]?)):=uK λo _ _=>hi.mlt (Qa _);have I:Rep (xI M w.heap.size 0 ((c.len+p.src.len)*rr.width) (A[·]?)) rr (.slice (some ⟨w.heap.size,0,none⟩) (c.len+p.src.len) (grownCap w (c.len+p.src.len) cap e)):=by
     have:=wB (M':=xI M w.heap.size 0 ((c.len+p.src.len)*rr.width) (A[·]?)) (b:=w.heap.size) (o:=0) (cap:=grownCap w (c.len+p.src.len) cap e) F q2 hle ?_ jh
     ·rwa [q6] at this
     intro j hj;rw [q6] at hj;simp only [xI,Q9];rw [if_pos ⟨trivial,Qm _,hj⟩];rw [hrw] at hj;rw [hget j hj,J]
    refine ⟨_,_,_,h0.trans' hle,zHj hi hpk hbk _,(hi.bufNew (sC w _ e) (.inr ⟨c,hbk,jh,q7⟩) q2 jh ?_ ?_ hml I).put (hws d (by simp [Mic.ws])) ?_⟩
    ·rw [hsize,hrw];exact hfit
    ·rw [hsize,hrw];exact Qa _
    ·rw [q6];refine .buf k _ rr _ (zU _ _ _) q2 jh ?_ (λ_=>(yR _ _ _).symm);rw [<- q6,sL q2,q6];exact I
 ·intro e he;rcases Q7.1 he with he | he
  ·subst he;exact hk
  ·rcases Q7.1 he with he | he
   ·subst he;exact hk2
   ·exact zC0 l2 cs bs hp e he
end
section
def sa_mkb {tl tc:TypeId} {kl:IntKind} {n:Int} (S:yN P te) (hd:o.dst=some d) (ho:o.op=.makeSlice t x y) (ht:(te t).map (·.ty)=some (.slice e)) (he:te e=some ei) (hz:ei.z.length=ei.w) (ch:0<ei.w) (hx:s.get te tl x=some (.p (.int kl n))) (hy:s.get te tc y=some (.p (.int kc n)))
  (h0:0<=n) (hb:n.toNat*ei.b<=140737488355328) (bg:0<ei.b) (bk:∀ s:AS,s.rdL (qJ ei.z n.toNat)=some (cs,[])) (Y:fO ei.w c cs) (E:c.len=n.toNat) (hk:s.blk d=none):SA P o s ⟨opS x (.p (.int kl n))++opS y (.p (.int kc n)),[],[d],some (d,some (.buf d n.toNat)),[(d,.buf c)]⟩:=by
 refine ⟨?_,yK (zO hx) (zO hy),by intro e he;simp at he,by intro k F;simp at F;subst F;exact hk⟩;intro cx s' a w K Q hm hs bf F;obtain ⟨M,κ,tip,bm,hp,W⟩:=hs;have U:=hm.2.2 d jk;have h1:=xU (repA_pv (yB W (yJ hx s' (yE hm.1))));have h2:=xU (repA_pv (yB W (yJ hy s' (zY hm.1))));obtain ⟨info,z,i1,i2,i3,i4,i5⟩:=(S e ei he).info;have hu:=yV S ht;have bv:n.toNat<=n.toNat*ei.b:=Qs _ bg;have be:(info.bytes:Int)*n<=281474976710656:=by
  rw [i3];have:((n.toNat*ei.b:Nat):Int)<=140737488355328:=jh
  rw [Int.natCast_mul,Int.toNat_of_nonneg h0,Int.mul_comm] at this;omega
 have I:=run_make (P:=P) w t e info z hu i1 i4 kl kc n n h0 (Int.le_refl _) be jh;unfold Oper.wp;have:(execOp a.eval o).run P w=.ok (.value (.slice (some ⟨w.heap.size,0,none⟩) n.toNat n.toNat)) (w.alloc (.cells (madeCells z.cells (n.toNat*ei.w)) e)):=by
  rw [i2] at I;simp [execOp,ho,h1,h2,I]
 rw [this];show K (a.put o.dst _) _;rw [hd];refine F _ _ ?_;rw [uL];have bh:=zF6 S he hz i1 i4 (M:=M) (κ:=κ) (tip:=tip) (B:=s'.blk) n.toNat;obtain ⟨r1,r2⟩:=zAh (bk s') bh.2;obtain ⟨c1,c2,c3,c4⟩:=Y.cells r2;have T:M.le (xI M w.heap.size 0 (n.toNat*c.width) ((madeCells z.cells (n.toNat*ei.w))[·]?)):=uK λo _ _=>W.mlt (Qa _);have G:=by
  have:=wB (M:=M) (M':=xI M w.heap.size 0 (n.toNat*c.width) ((madeCells z.cells (n.toNat*ei.w))[·]?)) (b:=w.heap.size) (o:=0) (cap:=n.toNat) c1 c2 T ?_ jh
  ·rwa [E] at this
  intro j Z;rw [E] at Z;simp only [xI,Q9];rw [if_pos ⟨trivial,Qm _,Z⟩];rw [c3] at Z;have:j<(madeCells z.cells (n.toNat*ei.w)).size:=by rw [size_madeCells];exact Z
  simp [this]
 refine ⟨_,_,_,bm.trans' T,zBj W hp U _,(W.bufNew (iD w _ e) (.inl U) c2 jh (by rw [size_madeCells,c3];exact Qa _) (by rw [size_madeCells,c3];exact Qa _) (by simp only [maxLen];omega) G).put (bf d (by simp [Mic.ws])) ?_⟩;refine .buf d _ c _ (zU _ _ _) c2 jh ?_ (λ_=>(yR _ _ _).symm);rw [<- E,sL c2,E];exact G
def yBm {f:α->PV} {x:α} {z:PV} (h:z=f x) (E:z.nilOf=false):∀ (n:Nat),qJ [z] n=(W3 n x).map λy=>AV.p (f y)
 | 0=>rfl
 | n+1=>by
  have D:=yBm h E n;simp only [qJ,List.replicate_succ,List.flatten_cons,Qq,List.map_nil,List.singleton_append] at D ⊢;rw [D];have G:zA z=AV.p (f x):=by unfold zA;simp_all
  rw [G]
def mkN (b:Nat) (n:Int):Option Nat:=if 0<=n/\n.toNat*b<=140737488355328 then some n.toNat else none
def zOe {b:Nat} {n:Int} {m:Nat} (h:mkN b n=some m):0<=n/\n.toNat*b<=140737488355328/\m=n.toNat:=by
 unfold mkN at h;split at h
 ·simp_all
 simp_all
def cpy (l m:List α):List α:=m.take l.length++l.drop m.length
def zVt:uS (l.map λx=>AV.p (.int .u8 x.toNat)) 0 ((m.take l.length).map λu=>AV.p (.int .u8 u.toNat))=(cpy l m).map λx=>AV.p (.int .u8 x.toNat):=by
 rw [lX jl];unfold cpy;rcases Nat.le_total l.length m.length with h | h
 ·simp_all
 simp_all
end
section
variable [T:pK P] 
def RK.scB (y:((T.te t).map (·.ty),(T.te e).map (·.w),s.get T.te t x)=(some (.arr n e),some 1,some (.p (.cptr (.agg (l.map λu=>PV.int .u8 u.toNat)))))) (I:l.length=n) (F:Q5 0 n=true) (k:VK P ops r s K d (opS x (.p (.cptr (.agg (l.map λu=>PV.int .u8 u.toNat))))) ([]) (.p (.bytes l))):RK P ops (⟨some d,.slice t x none none none,ty,pos,af,none⟩:: r) s K:=have ⟨L,y⟩:=pq y;have ⟨S,N⟩:=pq y;Q0 rfl rfl (Go.Sw.va_sliceC T.ok rfl L S N jm jm (zBw l) I) k
def RK.scM {J:Type} (f:J->PV) {l:List J} (S:∀ a,(f a).cells=[f a]) (h:((T.te t).map (·.ty),(T.te e).map (·.w),s.get T.te t x,l.length,Q5 0 n)=(some (.arr n e),some 1,some (.p (.cptr (.agg (l.map f)))),n,true)) (k:VK P ops r s K d (opS x (.p (.cptr (.agg (l.map f))))) ([]) (.p (.sl 1 (l.map f)))):RK P ops (⟨some d,.slice t x none none none,ty,pos,af,none⟩:: r) s K:=have ⟨V,h⟩:=pq h;have ⟨Y,h⟩:=pq h;have ⟨U,h⟩:=pq h;have ⟨N,E⟩:=pq h;Q0 rfl rfl (Go.Sw.va_sliceC T.ok rfl V Y U jm jm (zHz S l) (by simpa [Qh] using N)) k
def RK.mr (f:Y->PV) (u:Y) {b m:Nat} {G:TI} {Z:IntKind} {n:Int} (h:mkN b n=some m) (v:((T.te t).map (·.ty),T.te e,G.b,Q5 0 b,G.z.length,s.get T.te 0 x,s.get T.te 0 y,s.blk d,G.z,(f u).nilOf)=(some (.slice e),some G,b,true,G.w,some (.p (.int Z n)),some (.p (.int kc n)),none,[f u],false)) (k:BK P ops r s K d (opS x (.p (.int Z n))++opS y (.p (.int kc n))) [] [d] d (.var ((W3 m u).map λy=>AV.p (f y))) (.ref d 0 m)):RK P ops (⟨some d,.makeSlice t x y,ty,pos,af,none⟩:: r) s K:=have ⟨ht,v⟩:=pq v;have ⟨he,v⟩:=pq v;have ⟨hb,v⟩:=pq v;have ⟨S,v⟩:=pq v;have ⟨hz,v⟩:=pq v;have ⟨hx,v⟩:=pq v;have ⟨hy,v⟩:=pq v;have ⟨hk,v⟩:=pq v;have ⟨J,I⟩:=pq v;by
 obtain ⟨h0,h1,rfl⟩:=zOe h;subst hb;have be:=Q6 S;have:=Go.Sw.sa_mkr (o:=⟨some d,.makeSlice t x y,ty,pos,af,none⟩) T.ok rfl rfl ht he hz hx hy h0 h1 jh hk;rw [J,yBm rfl I] at this;exact Qk rfl this k
def RK.mrK {b m:Nat} {F:TI} {S N:IntKind} (h:Qb (m*b) 140737488355328=true) (Z:(T.te t).map (·.ty)=some (.slice e)) (he:T.te e=some F) (hb:F.b=b) (L:Q5 0 b=true) (hz:F.z.length=F.w) (U:s.get T.te 0 x=some (.p (.int S (m:Nat)))) (hy:s.get T.te 0 y=some (.p (.int N (m:Nat)))) (hk:s.blk d=none) (k:BK P ops r s K d (opS x (.p (.int S (m:Nat)))++opS y (.p (.int N (m:Nat)))) [] [d] d (.var (qJ F.z m)) (.ref d 0 m)):RK P ops (⟨some d,.makeSlice t x y,ty,pos,af,none⟩:: r) s K:=by
 have ba:=Q6 L;exact Qk rfl (Go.Sw.sa_mkr T.ok rfl rfl Z he hz U hy jh jm jh hk) k
def RK.mk0 {b m:Nat} {I:TI} {W V:IntKind} {n:Int} (h:mkN b n=some m) (v:((T.te t).map (·.ty),T.te e,I.b,Q5 0 b,I.z.length,s.get T.te 0 x,s.get T.te 0 y,s.blk d,I.w,Q5 0 I.w,c.nilOf)=(some (.slice e),some I,b,true,I.w,some (.p (.int W 0)),some (.p (.int V n)),none,c.width,true,true)) (k:BK P ops r s K d (opS x (.p (.int W 0))++opS y (.p (.int V n))) [] [d] d (.buf c) (.buf d 0)):RK P ops (⟨some d,.makeSlice t x y,ty,pos,af,none⟩:: r) s K:=have ⟨ht,v⟩:=pq v;have ⟨he,v⟩:=pq v;have ⟨hb,v⟩:=pq v;have ⟨J,v⟩:=pq v;have ⟨hz,v⟩:=pq v;have ⟨hx,v⟩:=pq v;have ⟨hy,v⟩:=pq v;have ⟨hk,v⟩:=pq v;have ⟨Z,v⟩:=pq v;have ⟨U,hc⟩:=pq v;by
 obtain ⟨h0,h1,rfl⟩:=zOe h;subst hb;have Y:=Q6 J;have bl:=Q6 U;exact Qk rfl (Go.Sw.sa_mk0 T.ok rfl rfl ht he hz jh hx hy h0 h1 jh hc Z.symm hk) k
def RK.cpB {L:TypeId} {V:AV} (hn:l.length=n) (h:((T.te t).map (·.ty),T.te e,W.w,s.get T.te t x,s.blk E,s.get T.te L y,s.rd V)=(some (.slice e),some W,1,some (.ref E 0 n),some (.var (l.map λx=>AV.p (.int .u8 x.toNat))),some V,some (.bytes m,bs)))
  (k:BK P ops r s K d (opS x (.ref E 0 n)++opS y V) ((E,.var (l.map λx=>AV.p (.int .u8 x.toNat))) :: bs) [] E (.var ((cpy l m).map λx=>AV.p (.int .u8 x.toNat))) (.p (.int .i64 (min m.length n:Nat)))):RK P ops (⟨some d,.call ⟨.builtin .copy,#[x,y],#[t,L]⟩,ty,pos,af,none⟩:: r) s K:=have ⟨ht,h⟩:=pq h;have ⟨he,h⟩:=pq h;have ⟨hw,h⟩:=pq h;have ⟨hx,h⟩:=pq h;have ⟨hk,h⟩:=pq h;have ⟨hy,Y⟩:=pq h;by
 subst hn;have:=Go.Sw.sa_copy (o:=⟨some d,.call _,ty,pos,af,none⟩) T.ok rfl rfl ht he hw hx hk jk hy Y;rw [zVt] at this;exact Qk rfl this k
def RK.apR (f:α->PV) {I:TI} {b G S:Nat} {l m:List α} (hf:∀ a,(f a).cells=[f a]) (h:yM b l m=some u) (v:((T.te t).map (·.ty),T.te e,(T.te t2).map (·.ty),s.get T.te t x,s.blk G,1,I.z.length,s.get T.te t2 y,s.blk S)=(some (.slice e),some I,some (.slice e2),some (.buf G l.length),some (.buf (.sl 1 (l.map f))),I.w,I.w,some (.ref S 0 n),some (.var (m.map λx=>AV.p (f x))))) (hn:m.length=n) (L:∀ a,(f a).cells.all W4=true) (bf:(I.b,Q5 0 b)=(b,true)) (k:BK P ops r s K d (opS x (.buf G (PV.sl 1 (l.map f)).len)++opS y (.ref S 0 n)) ((G,.buf (.sl 1 (l.map f))) :: (S,.var (m.map λx=>AV.p (f x))) :: []) ([]) (G) (.buf (.sl 1 (u.map f))) (.buf G (PV.sl 1 (u.map f)).len)):RK P ops (⟨some d,.call ⟨.builtin .append,#[x,y],#[t,t2]⟩,ty,pos,af,none⟩:: r) s K:=have ⟨ht,v⟩:=pq v;have ⟨he,v⟩:=pq v;have ⟨bd,v⟩:=pq v;have ⟨hx,v⟩:=pq v;have ⟨hk,v⟩:=pq v;have ⟨J,v⟩:=pq v;have ⟨hz,v⟩:=pq v;have ⟨hy,bg⟩:=pq v;have ⟨hb,Z⟩:=pq bf;Qk rfl (Go.Sw.sa_appR (c:=.sl 1 (l.map f)) T.ok rfl rfl ht he (yV T.ok bd) (.inr ⟨_,rfl⟩) (by simpa [Qh] using hx) hk J jh hz hy bg sU (by rw [<- J];exact zHz hf m) (by simpa [Qh] using hn) (appM h) (oneM L) (by subst hb;have:=zN6 h;simpa [Qh,Qz] using this) jm) k
def RK.mf {L:Array Operand} {S N:List Operand} {Z F:List TypeId} {I:List PV} {G A:LV} {bb y:LB} (v:(xs.toList,L.toList)=(S,N)) (ha:lH s T.te S Z ps G bb) (Y:lH s T.te N F I A y) (k:VK P ops r s K d (G++A) (bb++y) (.p (.fn f ps I))):RK P ops (⟨some d,.makeFunc (.func f) xs L,ty,pos,af,none⟩:: r) s K:=have ⟨E,D⟩:=pq v;Q0 rfl rfl (Go.Sw.va_mkf rfl E D ha Y) k
def RK.cf {tx:TypeId} {fs:List PV} {U:Array TypeId} {Y:List TypeId} {F:LV} {bb:LB} {V:Nat} (h:Ok P f V (mkS (argE 0 (fs++(ps++cs))) []) (mkS [(0,av)] blks)) (y:(s.get T.te 0 x,xs.toList,U.toList)=(some (.p (.fn f fs cs)),xl,Y)) (ha:lH s T.te xl Y ps F bb) (G:(Q3 V (fs++(ps++cs)).length,(kR (sh d) blks).all (λk=>(s.blk k).isNone))=(true,true))
  (k:RK P ops r (Mic.upd ⟨opS x (.p (.fn f fs cs))++F,bb,kR (sh d) blks,some (d,some (av.ren (sh d))),bR (sh d) blks⟩ s) λs' ms=>K s' (⟨opS x (.p (.fn f fs cs))++F,bb,kR (sh d) blks,some (d,some (av.ren (sh d))),bR (sh d) blks⟩:: ms)):RK P ops (⟨some d,.call ⟨.value x,xs,U⟩,ty,pos,af,none⟩:: r) s K:=have ⟨hx,y⟩:=pq y;have ⟨J,I⟩:=pq y;have ⟨hn,Z⟩:=pq G;
 by
 rw [zBv,zG5] at k;rw [zBv] at Z;exact RK.st rfl (Go.Sw.sa_callf rfl rfl hx h J I ha (Q1 hn) (λk hk=>by simpa using (Q2.1 Z) k hk)) k
end
abbrev qI (n:Int):AV:=.p (.int .i64 n)
abbrev qU (x:UInt8):AV:=.p (.int .u8 x.toNat)
abbrev qB (b:Bool):AV:=.p (.bool b)
abbrev qY (l:By):AV:=.p (.bytes l)
abbrev qL (w:Nat) (f:α->PV) (l:List α):AV:=.p (.sl w (l.map f))
abbrev qA (f:α->PV) (l:List α):ABlk:=.var (l.map λx=>AV.p (f x))
section
def im {c:Code} (v:Imp cx.pk s s') (h:awp P cx c Q s'):awp P cx c Q s:=zSu v h
end
def lA4:List α->Option (A4 α) | [a,b,c,d]=>some ⟨a,b,c,d⟩ | _=>none
def lA8:List α->Option (A8 α) | [a,b,c,d,e,f,g,h]=>some ⟨a,b,c,d,e,f,g,h⟩ | _=>none
def yCb {l:List α} {r:A4 α} (h:lA4 l=some r):l=[r.a0,r.a1,r.a2,r.a3]:=by unfold lA4 at h;split at h<;>cases h;rfl
def zYl {l:List α} {r:A8 α} (h:lA8 l=some r):l=[r.a0,r.a1,r.a2,r.a3,r.a4,r.a5,r.a6,r.a7]:=by unfold lA8 at h;split at h<;>cases h;rfl
def nz (h:(!(b==0))=true):(b==0)=false:=by simp_all
def lD {l:List α} (h:Q3 l.length n=true):l.length=n:=by simp_all
def zQq {ρ:Nat->Nat} {f:α->PV}:∀ {l:List α},qN ρ (l.map λx=>AV.p (f x))=l.map λx=>AV.p (f x)
 | []=>rfl
 | x :: r=>by simp only [Qq,qN,AV.ren];rw [zQq]
def tI {s'':AS} (h:Imp pk s s') (k:Imp pk s' s''):Imp pk s s'':=Imp.trans h k
section
def OR (cx:Ctx) (E:AS) (e:Exit) (s:AS):Prop:=(e=.ret∨e=.normal)/\Imp cx.pk s E
def yIz {body:Code} {as rs:AS} (E:AS) (V:P.funcs[f]? = some fn) (L:fn.body=some body) (D:(fn.name == "runtime.NumGoroutine")=false) (F:na<=fn.ntmps) (A:∀ k,k<BIG->(as.blk k).isSome=true->k∈ks)
  (hr:∀ cx:Ctx,PK cx ks->kL P fn cx E rs) (h:∀ cx:Ctx,cx.nt=fn.ntmps->PK cx ks->awp P cx body (OR cx E) as):Ok P f na as rs:=
 zKr V L D F A λcx T J a w W=>wp_mono (h cx T J a w W) λe N w' ⟨s',K,S,U⟩ =>⟨E,U cx N w' rfl K,S,hr cx J⟩
end
section
variable {bx:LB} 
end
section
variable [T:pK P] {k0:IntKind} {bx:LB} 
end
section
def zVj {ax:Operand} {k:Nat} {l:List AV} (bi:yN P te) (hd:o.dst=none) (ho:o.op=.store t ax x) (ht:te t=some i) (ha:s.get te ta ax=some (.ptr k off)) (hx:s.get te t x=some v) (I:s.rd v=some (p,bs)) (hb:s.blk k=some (.var l))
  (hw:(AV.p p).cells.length=i.w) (hl:off+i.w<=l.length) (S:(AV.p p).cells.all Qy=true):SA P o s ⟨opS ax (.ptr k off)++opS x v,(k,.var l) :: bs,[],none,[(k,.var (uS l off (AV.p p).cells))]⟩:=by
 refine ⟨?_,yK (zO ha) (zO hx),λe W=>(Q7.1 W).elim (λh=>by subst h;exact hb) (uV v p bs I e),by intro e W;simp at W⟩;intro cx s' a w K Q Z hs cn hk;obtain ⟨M,κ,tip,h0,hp,hi⟩:=hs;have T:=Z.2.1 (k,.var l) jk;have be:yT M κ tip s'.blk (.p p) (a.eval x):=.p _ _ (dS hi hx I (zY Z.1) (λe W=>Z.2.1 e (by simp [W])));have V:=yB hi (yJ ha s' (yE Z.1));obtain ⟨L,G⟩:=aD be;obtain ⟨b,bk,e,fz,h1,h2,h3,h4,h5,h6,h7⟩:=hi.vars k l T;generalize bh:a.eval ax=z at V;cases V with
 | ptr k o b' l' N ci=>
  rw [h1] at N;cases N;have E:(a.eval x).cells.toList.length=(AV.p p).cells.length:=by simp [L]
  have A:=run_storeCells_cells (P:=P) b off (a.eval x).cells.toList 0 w
   (by
     intro j hj;rw [E] at hj;have:off+j<bk.size:=jh
     simp [Qj,h2,this])
   (by intro j hj;rw [E] at hj;simp only [Nat.add_zero];exact tZ h2 h3 jh)
   (by
    intro u hu;obtain ⟨j,hj,bj⟩:=List.getElem_of_mem hu;have ca:j<(AV.p p).cells.length:=jh
    have Y:=G j (AV.p p).cells[j] jk;have bg:j<(a.eval x).cells.size:=jh
    have:(a.eval x).cells.getD j undef=u:=by simp [bg];simpa using bj
    rw [this] at Y;exact zE5 Y ((Q2.1 S) _ (List.getElem_mem _)))
  unfold Oper.wp;have:(execOp a.eval o).run P w=.ok .skip (w.setCells b off (a.eval x).cells.toList):=by
   simp only [Nat.add_zero] at A;have bf:¬ ((a.eval x).cells.size≠i.w):=by rw [L,hw];simp
   simp [execOp,ho,bh,Instr.storeAt,Qo,storeVar,vV bi ht,bf,A]
  rw [this];show K (a.put o.dst undef) _;rw [hd];refine hk _ _ ?_;rw [aT];refine ⟨M,κ,tip,h0,hp,hi.setVar T h1 jh E ?_⟩;intro j q Y;have:=G j q Y;rw [Q8] at this;simpa using this
end
section
variable [T:pK P] 
def RK.stP {J:Type} {f:J->PV} {G:Operand} {l l':List J} {u:J} (h:wY l j u=some l') (I:(T.te t,s.get T.te 0 G)=(some i,some (.ptr E off))) (Z:off=j) (hx:s.get T.te t x=some v) (hp:s.rd v=some (f u,bs)) (A:(s.blk E,i.w,(AV.p (f u)).cells,(AV.p (f u)).one)=(some (.var (l.map λx=>AV.p (f x))),1,[AV.p (f u)],true)) (k:RK P ops r (s.setb E (.var (l'.map λx=>AV.p (f x)))) λs' ms=>K s' (⟨opS G (.ptr E off)++opS x v,(E,.var (l.map λx=>AV.p (f x))) :: bs,[],none,[(E,.var (l'.map λx=>AV.p (f x)))]⟩:: ms)):RK P ops (⟨none,.store t G x,ty,pos,af,none⟩:: r) s K:=have ⟨ht,ha⟩:=pq I;have ⟨hb,A⟩:=pq A;have ⟨V,A⟩:=pq A;have ⟨U,F⟩:=pq A;by
 refine W0 rfl ?_ k;subst Z;obtain ⟨Y,h2⟩:=eR h;have:=zVj (o:=⟨none,.store t G x,ty,pos,af,none⟩) T.ok rfl rfl ht ha hx hp hb (by simp [U,V]) (by rw [V];simpa using Qv Y) (by simp [U,F]);rw [U,zC2 jm] at this;have e:(l.map λx=>AV.p (f x)).set off (AV.p (f u))=l'.map λx=>AV.p (f x):=by simp_all
 rw [e] at this;omega
def RK.stB {U:Type} {f:U->PV} {y:List U} {I:Operand} {l:List AV} (A:y.length=i.w) (d:(T.te t,s.get T.te 0 I,s.get T.te t x,s.blk E,i.w)=(some i,some (.ptr E 0),some (.p (.agg (y.map f))),some (.var l),l.length)) (G:∀ a,(f a).one=true)
  (k:RK P ops r (s.setb E (.var (y.map λx=>AV.p (f x)))) λs' Y=>K s' (⟨opS I (.ptr E 0)++opS x (.p (.agg (y.map f))),[(E,.var l)],[],none,[(E,.var (y.map λx=>AV.p (f x)))]⟩:: Y)):RK P ops (⟨none,.store t I x,ty,pos,af,none⟩:: r) s K:=have ⟨Z,d⟩:=pq d;have ⟨ha,d⟩:=pq d;have ⟨hx,d⟩:=pq d;have ⟨hb,hl⟩:=pq d;by
 refine W0 rfl ?_ k;have L:(AV.p (.agg (y.map f))).cells=y.map λx=>AV.p (f x):=by simp [AV.cells]
 have:=Go.Sw.sa_store (o:=⟨none,.store t I x,ty,pos,af,none⟩) T.ok rfl rfl Z ha hx hb (by simp [L,A]) jh (by simp [L,Qy,G]);have e:uS l 0 (y.map λx=>AV.p (f x))=y.map λx=>AV.p (f x):=by rw [lX jm];simp_all
 simp_all
end
section
variable {v':AV} {p':PV} {bs':LB} 
variable [T:pK P]
end
section
variable {w':World}
def zMh (L:Inv cx M κ tip s a w) (G:∀ k∈cx.pk,κ k.1=some k.2/\k.2<cx.w0.heap.size) {k:Nat} {l:List AV} (J:s.blk k=some (.own wd l)) (b:Option Nat):∀ v∈cx.pk,kF κ k b v.1=some v.2/\v.2<cx.w0.heap.size:=by
 intro v y;have A:=G v y;rw [zW]
 ·exact A
 ·intro e;have F:=L.owns _ wd l J;rw [<- e] at F;rcases F with ⟨_,d,_⟩ | ⟨_,⟨_,d,_⟩ | ⟨b',n,cap,I,e,S,_,d,D,N,_⟩⟩
  ·simp_all
  ·simp_all
  ·rw [A.1] at d;cases d;have:=cx.pk.nk v y;omega
def Inv.ownNew (d:Inv cx M κ tip s a w) {k:Nat} {l:List AV} {U:Array Value} (S:zMb w w' U e fz)
  (I:s.blk k=none∨∃ l0,s.blk k=some (.own wd l0)/\l0.length<l.length) (cb:0<wd) (hn:n*wd=l.length) (bc:cap*wd<=U.size) (bv:n<=cap) (br:cap<=maxLen)
  (cd:∀ (j:Nat) (q:AV),l[j]? = some q->yT M κ tip s.blk q (U.getD j undef)) :
  Inv cx M (kF κ k (some w.heap.size)) (nC tip k (.slice (some ⟨w.heap.size,0,none⟩) n cap)) (s.setb k (.own wd l)) a w':=by
 have bt:GLe κ (kF κ k (some w.heap.size)) tip (nC tip k (.slice (some ⟨w.heap.size,0,none⟩) n cap)) s.blk (s.setb k (.own wd l)).blk:={
  var:=λi b l h h'=>by
   have e:i≠k:=by
    rintro rfl;rcases I with I | ⟨l0,I,_⟩<;>(rw [I] at h';cases h')
   rw [zW e,zN e];exact ⟨h,l,h'⟩
  buf:=λi c1 h=>by
   have e:i≠k:=by
    rintro rfl;rcases I with I | ⟨l0,I,_⟩<;>(rw [I] at h;cases h)
   exact GLe.same (by rw [zN e];exact h) (yQ e)
  own:=λi w1 l1 h=>by
   by_cases e:i=k
   ·subst e;rcases I with I | ⟨l0,I,A⟩
    ·rw [I] at h;cases h
    ·rw [I] at h;cases h;exact ⟨wd,l,zU _ _ _,.inl ⟨rfl,jh,λe=>jh⟩⟩
   ·exact GLe.sameO (by rw [zN e];exact h) (zW e) (yQ e) }
 have E:∀ {v:AV} {x:Value},yT M κ tip s.blk v x->yT M (kF κ k (some w.heap.size)) (nC tip k (.slice (some ⟨w.heap.size,0,none⟩) n cap)) (s.setb k (.own wd l)).blk v x:=λh=>h.ghost bt;exact {
  defers:=d.defers
  size:=d.size
  fr:=⟨S.os.trans d.fr.os,S.tape.trans d.fr.tape,S.output.trans d.fr.output,by have:=d.fr.size;rw [S.size];omega,λb G F h3=>by
   rw [S.old b (by have:=d.fr.size;omega)];exact d.fr.block b G F h3⟩
  mem:=λb o x h=>by
   have:=d.mem b o x h;have A:=World.block_lt_of_cell? w _ this;rw [World.cell?_of_block (S.old b A)];exact this
  env:=λt v h=>let ⟨x,G,F⟩:=d.env t v h;⟨x,G,E F⟩
  vars:=λi l h=>by
   have D:i≠k:=by rintro rfl;rw [zU] at h;cases h
   rw [zN D] at h;obtain ⟨b,bf,Y,bu,G,F,h3,h4,h5,h6,h7⟩:=d.vars i l h;have A:=d.lt G;exact ⟨b,bf,Y,bu,by rw [zW D];exact G,by rw [S.old b A];exact F,h3,h4,λj q hq=>E (h5 j q hq),h6,h7⟩
  bufs:=λi c1 h=>by
   have D:i≠k:=by rintro rfl;rw [zU] at h;cases h
   rw [zN D] at h;obtain ⟨G,F,h3,h4⟩:=d.bufs i c1 h;rw [yQ D,zW D];refine ⟨G,F,h3,?_⟩;rcases h4 with h4 | ⟨b,n1,J,K,Y,Z,q1,q2,q3,q4,q5,q6,q7,q8⟩
   ·exact .inl h4
   ·have A:=d.lt q2;exact .inr ⟨b,n1,J,K,Y,Z,q1,q2,q3,by rw [S.old b A];exact q4,q5,q6,q7,q8⟩
  inj:=λi j b G F=>by
   by_cases Y:i=k
   ·subst Y;rw [xO] at G;cases G;by_cases e2:j=i
    ·exact e2.symm
    ·rw [zW e2] at F;have:=d.lt F;omega
   ·rw [zW Y] at G;by_cases e2:j=k
    ·subst e2;rw [xO] at F;cases F;have:=d.lt G;omega
    ·rw [zW e2] at F;exact d.inj i j b G F
  dom:=λi h=>by
   by_cases D:i=k
   ·subst D;rw [zU] at h;cases h
   ·rw [zN D] at h;rw [zW D];exact d.dom i h
  glob:=d.glob
  old:=d.old
  owns:=λi w1 l1 h=>by
   by_cases D:i=k
   ·subst D;rw [zU] at h;cases h;rw [yR,xO];exact .inr ⟨cb,.inr ⟨w.heap.size,n,cap,U,e,fz,rfl,rfl,.inl d.fr.size,S.new,S.free,hn,bc,bv,br,λj q hq=>E (cd j q hq),λo=>d.mlt (Qa _)⟩⟩
   ·rw [zN D] at h;rw [yQ D,zW D];rcases d.owns i w1 l1 h with g0 | ⟨g1,g2⟩
    ·exact .inl g0
    refine .inr ⟨g1,?_⟩;rcases g2 with g2 | ⟨b,n1,J,K,Y,Z,q1,q2,q3,q4,q5,q6,q7,q8,q9,bw,bn⟩
    ·exact .inl g2
    ·have A:=d.lt q2;exact .inr ⟨b,n1,J,K,Y,Z,q1,q2,q3,by rw [S.old b A];exact q4,q5,q6,q7,q8,q9,λj q hq=>E (bw j q hq),bn⟩}
def Inv.ownNil (d:Inv cx M κ tip s a w) {k:Nat} (S:s.blk k=none) (bi:0<wd) :
  Inv cx M κ (nC tip k (.slice none 0 0)) (s.setb k (.own wd [])) a w:=by
 have D:GLe κ κ tip (nC tip k (.slice none 0 0)) s.blk (s.setb k (.own wd [])).blk:={
  var:=λi b l h W=>by
   have e:i≠k:=by rintro rfl;rw [S] at W;cases W
   rw [zN e];exact ⟨h,l,W⟩
  buf:=λi c1 h=>by
   have e:i≠k:=by rintro rfl;rw [S] at h;cases h
   exact GLe.same (by rw [zN e];exact h) (yQ e)
  own:=λi c1 l1 h=>by
   have e:i≠k:=by rintro rfl;rw [S] at h;cases h
   exact GLe.sameO (by rw [zN e];exact h) rfl (yQ e) }
 exact {
  defers:=d.defers
  size:=d.size
  fr:=d.fr
  mem:=d.mem
  env:=λt v h=>let ⟨x,h1,h2⟩:=d.env t v h;⟨x,h1,h2.ghost D⟩
  vars:=λi l h=>by
   have y:i≠k:=by rintro rfl;rw [zU] at h;cases h
   rw [zN y] at h;obtain ⟨b,J,Y,bc,h1,h2,h3,h4,h5,h6⟩:=d.vars i l h;exact ⟨b,J,Y,bc,h1,h2,h3,h4,λj q hq=>(h5 j q hq).ghost D,h6⟩
  bufs:=λi c1 h=>by
   have y:i≠k:=by rintro rfl;rw [zU] at h;cases h
   rw [zN y] at h;rw [yQ y];exact d.bufs i c1 h
  inj:=d.inj
  dom:=λi h=>by
   by_cases y:i=k
   ·subst y;rw [zU] at h;cases h
   ·rw [zN y] at h;exact d.dom i h
  glob:=d.glob
  old:=d.old
  owns:=λi w1 l1 h=>by
   by_cases y:i=k
   ·subst y;rw [zU] at h;cases h;rw [yR];exact .inr ⟨bi,.inl ⟨rfl,d.dom i S,rfl⟩⟩
   ·rw [zN y] at h;rw [yQ y];rcases d.owns i w1 l1 h with g0 | ⟨g1,V⟩
    ·exact .inl g0
    refine .inr ⟨g1,?_⟩;rcases V with V | ⟨b,n1,I,K,Y,Z,q1,q2,q3,q4,q5,q6,q7,q8,q9,bd,bf⟩
    ·exact .inl V
    ·exact .inr ⟨b,n1,I,K,Y,Z,q1,q2,q3,q4,q5,q6,q7,q8,q9,λj q hq=>(bd j q hq).ghost D,bf⟩}
def Inv.ownSet (y:Inv cx M κ tip s a w) {k b n':Nat} {l l':List AV} {A:Array Value} {W:List Value} (hb:s.blk k=some (.own wd l)) (bk:tip k=.slice (some ⟨b,0,none⟩) n cap) (U:κ k=some b) (K:cx.w0.heap.size<=b∨b∈cx.ob/\BIG<=k)
  (Z:zDu fz A.size) (g1:(w.setCells b off W).heap[b]? = some (.cells A e fz)) (bh:cap*wd<=A.size) (cg:n'<=cap) (cb:cap<=maxLen) (be:0<wd) (hM:∀ o,M b o=none) (bj:n'*wd=l'.length) (cd:l.length<=l'.length) (hl0:n*wd=l.length)
  (cp:∀ (j:Nat) (q:AV),l'[j]? = some q->yT M κ tip s.blk q (A.getD j undef)) :
  Inv cx M κ (nC tip k (.slice (some ⟨b,0,none⟩) n' cap)) (s.setb k (.own wd l')) a (w.setCells b off W):=by
 have D:=iE b W off w;have bv:GLe κ κ tip (nC tip k (.slice (some ⟨b,0,none⟩) n' cap)) s.blk (s.setb k (.own wd l')).blk:={
  var:=λi b l h h'=>by
   have e:i≠k:=by rintro rfl;rw [hb] at h';cases h'
   rw [zN e];exact ⟨h,l,h'⟩
  buf:=λi c1 h=>by
   have e:i≠k:=by rintro rfl;rw [hb] at h;cases h
   exact GLe.same (by rw [zN e];exact h) (yQ e)
  own:=λi c1 l1 h=>by
   by_cases e:i=k
   ·subst e;rw [hb] at h;cases h;refine ⟨wd,l',zU _ _ _,.inl ⟨rfl,cd,λe=>⟨rfl,?_⟩⟩⟩;rw [yR,bk];have:n'=n:=Qi be jh;rw [this]
   ·exact GLe.sameO (by rw [zN e];exact h) rfl (yQ e) }
 have J:∀ {v:AV} {x:Value},yT M κ tip s.blk v x->yT M κ (nC tip k (.slice (some ⟨b,0,none⟩) n' cap)) (s.setb k (.own wd l')).blk v x:=λh=>h.ghost bv;exact {
  defers:=y.defers
  size:=y.size
  fr:=⟨D.1.trans y.fr.os,D.2.1.trans y.fr.tape,D.2.2.trans y.fr.output,by rw [iH];exact y.fr.size,λi cv ce bn=>by
   rw [xR b W _ w i (by rintro rfl;exact K.elim (λh=>by omega) λh=>bn h.1)];exact y.fr.block i cv ce bn⟩
  mem:=λi o x h=>by
   have F:i≠b:=by rintro rfl;rw [hM] at h;cases h
   have:=y.mem i o x h;rw [World.cell?_setCells_out b W off w _ (λe=>(F e).elim)];exact this
  env:=λt v h=>let ⟨x,h1,h2⟩:=y.env t v h;⟨x,h1,J h2⟩
  vars:=λi l h=>by
   have I:i≠k:=by rintro rfl;rw [zU] at h;cases h
   rw [zN I] at h;obtain ⟨N,S,e2,bc,k1,k2,k3,k4,k5,k6,k7⟩:=y.vars i l h;have F:N≠b:=λe=>I (y.inj i k b (e▸k1) U);exact ⟨N,S,e2,bc,k1,by rw [xR b W _ w N F];exact k2,k3,k4,λj q hq=>J (k5 j q hq),k6,k7⟩
  bufs:=λi c1 h=>by
   have I:i≠k:=by rintro rfl;rw [zU] at h;cases h
   rw [zN I] at h;obtain ⟨k1,k2,k3,k4⟩:=y.bufs i c1 h;rw [yQ I];refine ⟨k1,k2,k3,?_⟩;rcases k4 with k4 | ⟨N,n2,bd,S,e2,bc,q1,q2,q3,q4,q5,q6,q7,q8⟩
   ·exact .inl k4
   ·have F:N≠b:=λe=>I (y.inj i k b (e▸q2) U);exact .inr ⟨N,n2,bd,S,e2,bc,q1,q2,q3,by rw [xR b W _ w N F];exact q4,q5,q6,q7,q8⟩
  inj:=y.inj
  dom:=λi h=>by
   by_cases I:i=k
   ·subst I;rw [zU] at h;cases h
   ·rw [zN I] at h;exact y.dom i h
  glob:=y.glob
  old:=y.old
  owns:=λi w1 l1 h=>by
   by_cases I:i=k
   ·subst I;rw [zU] at h;cases h;rw [yR];exact .inr ⟨be,.inr ⟨b,n',cap,A,e,fz,rfl,U,K,g1,Z,bj,bh,cg,cb,λj q hq=>J (cp j q hq),hM⟩⟩
   ·rw [zN I] at h;rw [yQ I];rcases y.owns i w1 l1 h with g0 | ⟨cw,g2⟩
    ·exact .inl g0
    refine .inr ⟨cw,?_⟩;rcases g2 with g2 | ⟨N,n1,bl,bf,e1,bt,q1,q2,q3,q4,q5,q6,q7,q8,q9,cf,bz⟩
    ·exact .inl g2
    ·have F:N≠b:=λe=>I (y.inj i k b (e▸q2) U);exact .inr ⟨N,n1,bl,bf,e1,bt,q1,q2,q3,by rw [xR b W _ w N F];exact q4,q5,q6,q7,q8,q9,λj q hq=>J (cf j q hq),bz⟩}
end
section
def zEs {cx:Ctx} {A:Nat->Option Nat} {k:Nat} {l:List AV} {z:Value} (F:B k=some (.own wd l)) (E:n*wd=l.length) (h:yT M A tip B (.own k n) z):z=tip k:=by
 cases h with
 | own _ _ w' l' _ y G D I=>simp_all
def zMg {L:TypeId} {k:Nat} {l:List AV} {i:Int} {I:TI} (E:yN P te) (ho:o.op=.indexAddr t x y) (ht:(te t).map (·.ty)=some (.slice e)) (he:te e=some I)
  (hx:s.get te t x=some (.own k n)) (hb:s.blk k=some (.own wd l)) (W:n*wd=l.length) (hw:wd=I.w) (hy:s.get te L y=some (.p (.int .i64 i))) (h0:0<=i) (h1:i<n) :
  VA P o s (opS x (.own k n)++opS y (.p (.int .i64 i))) [(k,.own wd l)] (.optr k n (i.toNat*I.w)):=by
 refine ⟨?_,yK (zO hx) (zO hy),by simpa using hb⟩;intro cx M κ tip s' a w Y hr N;have v:=N (k,.own wd l) jk;simp only at v;have J:=yB Y (yJ hx s' (yE hr));have h2:=xU (repA_pv (yB Y (yJ hy s' (zY hr))));have hu:=yV E ht;have V:=vV E he w;have D:=zEs (cx:=cx) v W J;obtain ⟨g1,g2⟩:=Y.owns.live v W;rcases g2 with ⟨_,_,rfl⟩ | ⟨b,n1,cap,bz,e1,fz,q1,q2,q3,q4,q5,q6,q7,q8,q9,bm,bl⟩
 ·have hp:=Nat.mul_pos (show 0<n by omega) g1;simp only [List.length_nil] at W;omega
 ·have T:n1=n:=Qi g1 jh;subst T;rw [q1] at D;exact ⟨.pointer (some ⟨b,0+i.toNat*I.w,none⟩),by simp [execOp,ho,D,h2,Instr.indexAt,asIntOf,run_underlying hu,h0,h1,V,vL],.optr k n1 _ wd l _ v jh (λ_=>⟨b,q2,jk⟩) ⟨_,rfl⟩⟩
def yHe {k:Nat} {l:List AV} (N:yN P te) (ho:o.op=.call { callee:=.builtin .len,args:=#[x],argTypes:=#[t] }) (ht:(te t).map (·.ty)=some (.slice e)) (S:s.get te t x=some (.own k n)) (hb:s.blk k=some (.own wd l)) (I:n*wd=l.length):VA P o s (opS x (.own k n)) [(k,.own wd l)] (.p (.int .i64 n)):=by
 refine ⟨?_,zO S,by simpa using hb⟩;intro cx M κ tip s' a w hi hr L;have D:=L (k,.own wd l) jk;simp only at D;have y:=zEs (cx:=cx) D I (yB hi (yJ S s' hr));have hu:=yV N ht;obtain ⟨T,g2⟩:=hi.owns.live D I;rcases g2 with ⟨y1,_,rfl⟩ | ⟨b,n1,cap,arr,e1,fz,q1,q2,q3,q4,q5,q6,q7,q8,q9,q10,q11⟩
 ·have:n=0:=by
            rcases Nat.eq_zero_or_pos n with h | h
            ·exact h
            ·have:=Nat.mul_pos h T;simp at I;omega
  subst this;rw [y1] at y;exact ⟨.int .i64 0,by simp [execOp,ho,y,resolve,invoke,builtin,W5,run_underlying hu,goInt],.p _ _ (.int _ _)⟩
 ·have J:n1=n:=Qi T jh;subst J;rw [q1] at y;exact ⟨.int .i64 n1,by simp [execOp,ho,y,resolve,invoke,builtin,W5,run_underlying hu,goInt],.p _ _ (.int _ _)⟩
def zF2 {k:Nat} {l:List AV} (N:yN P te) (ho:o.op=.load t x) (ht:te t=some i) (hp:i.plain=true) (V:s.get te ty x=some (.optr k n off)) (hb:s.blk k=some (.own wd l)) (Z:n*wd=l.length) (Y:l[off]? = some v) :
  VA P o s (opS x (.optr k n off)) [(k,.own wd l)] v:=by
 refine ⟨?_,zO V,by simpa using hb⟩;intro cx M κ tip s' a w U hr S;have G:=yB U (yJ V s' hr);have E:=S (k,.own wd l) jk;obtain ⟨g1,g2⟩:=U.owns.live E Z;generalize K:a.eval x=z at G;cases G with
 | optr _ _ _ w' l' _ h1 h2 h3 hs=>
  rw [E] at h1;cases h1;obtain ⟨b,J,rfl⟩:=h3 Z;rcases g2 with ⟨_,T,_⟩ | ⟨b',n1,cap,F,e1,fz,q1,W,q3,q4,q5,q6,q7,q8,q9,L,bq⟩
  ·rw [J] at T;cases T
  ·rw [J] at W;cases W;have bm:off<l.length:=(List.getElem?_eq_some_iff.1 Y).1;have be:n1*wd<=cap*wd:=Qc _ q8;have h:off<F.size:=jh
   have D:w.cell? ⟨b,off,none⟩=some F[off]:=by simp [Qj,q4,h]
   refine ⟨F[off],?_,?_⟩
   ·simp [execOp,ho,K,W6,Qo,eB N ht hp D]
   ·have:=L off v Y;simpa [h] using this
def zU2 {k:Nat} {l:List AV} (hok:yN P te) (ho:o.op=.load t x) (ht:te t=some i) (hp:i.isAgg=true) (hx:s.get te ty x=some (.optr k n off)) (hb:s.blk k=some (.own wd l)) (hn:n*wd=l.length) (hv:off+i.w<=l.length) :
  VA P o s (opS x (.optr k n off)) [(k,.own wd l)] (.ag ((l.drop off).take i.w)):=by
 refine ⟨?_,zO hx,by simpa using hb⟩;intro cx M κ tip s' a w hi hr hb';have hx':=yB hi (yJ hx s' hr);have hbk:=hb' (k,.own wd l) jk;simp only at hbk;obtain ⟨g1,g2⟩:=hi.owns.live hbk hn;generalize hev:a.eval x=z at hx';cases hx' with
 | optr _ _ _ w' l' _ h1 h2 h3 hs=>
  rw [hbk] at h1;cases h1;obtain ⟨b,hκ,rfl⟩:=h3 hn;rcases g2 with ⟨_,y2,_⟩ | ⟨b',n1,cap,arr,e1,fz,q1,q2,q3,q4,q5,q6,q7,q8,q9,q10,q11⟩
  ·rw [hκ] at y2;cases y2
  ·rw [hκ] at q2;cases q2;have hfit:n1*wd<=cap*wd:=Qc _ q8;have hlen:((arr.toList.drop off).take i.w).length=i.w:=by simp;omega
   refine ⟨.agg ((arr.toList.drop off).take i.w).toArray,?_,?_⟩
   ·have:=fZ hok ht hp (w:=w) (a:=⟨b,off,none⟩) ((arr.toList.drop off).take i.w) hlen (by
     intro j u hu;rw [List.getElem?_take,List.getElem?_drop] at hu;split at hu
     ·rw [vL];simp [Qj,q4];simpa using hu
     ·cases hu)
    simp [execOp,ho,hev,W6,Qo,this]
   ·refine .ag _ _ jl (λj q hq=>?_);rw [List.getElem?_take,List.getElem?_drop] at hq;split at hq
    ·rename_i hj;have:=q10 (off+j) q hq;have hlt:off+j<arr.size:=jh
     simpa [hj,hlt,List.getElem?_take,List.getElem?_drop] using this
    ·cases hq
def zUe {k:Nat} {b:ABlk} (h:s.blk k=some b):s.setb k b=s:=by
 cases s with
 | mk env blk=>
  simp only [AS.setb];congr 1;funext t;by_cases v:t=k
  ·simp_all
  ·have:Q3 t k=false:=by rw [Qg];simp_all
   simp_all
end
end Go.Sw
