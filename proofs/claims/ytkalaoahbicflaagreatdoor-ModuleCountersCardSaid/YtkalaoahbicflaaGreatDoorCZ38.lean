/- A part. -/
import Derived.ChangeReads
import Derived.ChangeSame
import Derived.ChangeOld
import Derived.ChangeSlices
import Derived.ChangeShapes
import Derived.WideShapes
import Derived.Test.YtkalaoahbicflaaGreatDoorCZ3
import Derived.Lib.LaidTab
import Derived.Test.YtkalaoahbicflaaGreatDoorRows
import Derived.Lib.SmallJoins
import Derived.RowKit
import Derived.RowKit3
import Derived.ChangeAt
import Derived.ProofKit
import Derived.OpenShut
set_option maxRecDepth 100000
set_option linter.all false
open Option renaming map_eq_some_iff -> Q0, bind_eq_some_iff -> Q8
open Go.DataW renaming trod -> Q1, TrodAll -> Q2, trod_step -> Q5, trodStep -> Q7, LaidVars -> Q9
open Go.Lib renaming TabIs -> Q3, tabData -> Q4
open Option.some renaming inj -> Q6
namespace Go.Sw
open Go
variable {H:Type}{P:Program}{W':World}{base:Nat}{cs:List Value}{e:TypeId}{fs:Array Field}{fuel g:Nat}{held:Bool}{k:IntKind}{n:Nat}{name:String}{p:List MemPlace}{sp:Nat->Bool}{t:TypeId}{w:World}{zss:List (List Int)}
inductive Smp (P:Program):TypeId->Prop
 | bool (t:TypeId):P.underlying t=some .bool->Smp P t
 | int (t:TypeId) (k:IntKind):P.underlying t=some (.int k)->Smp P t
 | str (t:TypeId):P.underlying t=some .string->Smp P t
 | slice (t e:TypeId):P.underlying t=some (.slice e)->0<P.cellsOf e->Smp P e->Smp P t
 | struct (t:TypeId) (fs:Array Field):P.underlying t=some (.struct fs)->(∀ f∈fs.toList,Smp P f.type)->Smp P t
def zQ8 {enc:TypeId×Value->H} (hs:Smp P t) :
  ∀ (n:Nat) (cs:List Value) (x:DataW H×List MemPlace),Q1 enc P w base (λ_=>true) held n t cs=some x->(∀ p∈x.2,sp p.block=true)->Q1 enc P w base sp held n t cs=some x:=by
 induction hs with
 | bool t ht=>
  intro n cs x h _;cases n with
  | zero=>simp [Q1] at h
  | succ n=>
   rw [Q5] at h ⊢;unfold Q7 at h ⊢;split at h<;>first | exact h | (exfalso;simp_all;done)
 | int t k ht=>
  intro n cs x h _;cases n with
  | zero=>simp [Q1] at h
  | succ n=>
   rw [Q5] at h ⊢;unfold Q7 at h ⊢;split at h<;>first | exact h | (exfalso;simp_all;done)
 | str t ht=>
  intro n cs x h _;cases n with
  | zero=>simp [Q1] at h
  | succ n=>
   rw [Q5] at h ⊢;unfold Q7 at h ⊢;split at h<;>first | exact h | (exfalso;simp_all;done)
 | slice t e ht hc _ ih=>
  intro n cs x h hp;cases n with
  | zero=>simp [Q1] at h
  | succ n=>
   rw [Q5] at h ⊢;unfold Q7 at h ⊢;split at h
   case h_7=>exact h
   case h_21=>cases h
   case h_8 e' a len cap he'=>
    obtain rfl:e=e':=by rw [ht] at he';injection he' with he';injection he' with he'
    simp only at h ⊢;split at h
    ·rename_i hcond;rw [if_pos hcond];simp only [Q0,Q8,if_true] at h ⊢;obtain ⟨elems,he,rest,hrest,rfl⟩:=h;simp only at hp;have one:∀ (i:Nat) (y:DataW H×List MemPlace),y∈elems++rest->(∃ c,w.cells? base (a.add (i*P.cellsOf e)) (P.cellsOf e)=some c/\Q1 enc P w base (λ_=>true) held n e c=some y)->∃ c,w.cells? base (a.add (i*P.cellsOf e)) (P.cellsOf e)=some c/\Q1 enc P w base sp held n e c=some y:=by
      intro i y hy hv;obtain ⟨c,h1,h2⟩:=hv;exact ⟨c,h1,ih n c y h2 (λp hpp=>hp p (by simp only [List.mem_append,List.mem_flatMap];right;exact ⟨y,by simpa using hy,hpp⟩))⟩
     have hrl:rest.length=cap - len:=by simpa using mapM_some_length hrest
     have hel:elems.length=len:=by simpa using mapM_some_length he
     refine ⟨elems,mapM_carry he (λi y _ hy hv=>?_),rest,?_,rfl⟩
     ·simp only [Q8] at hv ⊢;exact one i y (by simp [hy]) hv
     ·by_cases hz:cap=len
      ·have:rest=[]:=List.eq_nil_of_length_eq_zero jh;subst this;have e0:cap - len=0:=jh
       rw [e0];split<;>rfl
      ·have hsp:sp a.block=true:=by
        refine hp (.cell a.block a.off) ?_;simp only [List.mem_append];left;refine MemPlace.mem_row.2 ⟨0,?_,rfl⟩;refine Nat.mul_pos jh hc
       rw [if_pos hsp];refine mapM_carry hrest (λj y _ hy hv=>?_);simp only [Q8] at hv ⊢;exact one (len+j) y (by simp [hy]) hv
    ·cases h
   all_goals (exfalso;simp_all;done)
 | struct t fs ht _ ih=>
  intro n cs x h hp;cases n with
  | zero=>simp [Q1] at h
  | succ n=>
   rw [Q5] at h ⊢;unfold Q7 at h ⊢;split at h
   case h_21=>cases h
   case h_9 fs' hf'=>
    obtain rfl:fs=fs':=by rw [ht] at hf';injection hf' with hf';injection hf' with hf'
    split at h
    ·rename_i hc;rw [if_pos hc];simp only [Q0] at h ⊢;obtain ⟨xs,hx,rfl⟩:=h;refine ⟨xs,mapM_carry hx (λf y hf hy hv=>ih f hf n _ y hv (λp hpp=>hp p (List.mem_flatMap.2 ⟨y,hy,hpp⟩))),rfl⟩
    ·cases h
   all_goals (exfalso;simp_all;done)
def zWe {W:World} (keep:∀ b,b<W.heap.size->W'.heap[b]? = W.heap[b]?):∀ p:MemPlace,p.block<W.heap.size->W.sameAt W' p:=by
 intro p hp;cases p with
 | cell b off=>
  have:=keep b hp;simp only [World.sameAt,World.cell?,this]
 | map b=>exact keep b hp
def zD3 {enc:TypeId×Value->H} {W:World} (keep:∀ b,b<W.heap.size->W'.heap[b]? = W.heap[b]?) :
  ∀ {ts:List TypeId} {vs:List Value} {ds:List (DataW H)} {p:List MemPlace},(∀ t∈ts,Smp P t)->Q2 enc P W 0 (λ_=>true) true ts vs ds p->(∀ q∈p,sp q.block=true)->Q2 enc P W' 0 sp true ts vs ds p
 | [],[],[],_,_,h,_=>h
 | t :: ts,v :: vs,d :: ds,ps,hS,h,hsp=>by
  obtain ⟨p,q,⟨fuel,h1⟩,h2,rfl⟩:=h;refine ⟨p,q,⟨fuel,?_⟩,zD3 keep (λt ht=>hS t (by simp [ht])) h2 (λx hx=>hsp x (by simp [hx])),rfl⟩;have hlt:=DataW.trod_lt fuel t _ _ h1;have h3:=DataW.trod_carry (w':=W') fuel t _ _ h1 (λx hx=>zWe keep x (hlt x hx));exact zQ8 (hS t jk) fuel _ _ h3 (λx hx=>hsp x (by simp only [List.mem_append];exact .inl hx))
 | [],[],_ :: _,_,_,h,_=>by simp [Q2] at h
 | [],_ :: _,_,_,_,h,_=>by simp [Q2] at h
 | _ :: _,[],_,_,_,h,_=>by simp [Q2] at h
 | _ :: _,_ :: _,[],_,_,h,_=>by simp [Q2] at h
open Go Go.ChangeShapes
def zFl (W:World):Mem:=λb o=>W.cell? ⟨b,o,none⟩
def yPw {n:Int} (h:(Lit.int .u8 n).wf=true):0<=n/\n<=255:=by
 simp [Lit.wf] at h;exact h
def zVe {enc:TypeId×Value->H} {W:World} {b0:Nat} {r:Reach} {v:Value} {x:DataW H×List MemPlace}
  (ht:P.underlying t=some (.slice e)) (he:P.underlying e=some (.int .u8)) (hc:P.cellsOf e=1) (hval:Cell.okWide P W r b0 t v)
  (hd:Q1 enc P W base sp held fuel t [v]=some x):∃ l:By,Rep (zFl W) (.bytes l) v:=by
 rcases open_ints ht he hc hd with ⟨h,_⟩ | ⟨a,len,cap,zs,h,_,hl,_,hz,_,hcell,hwf⟩
 ·simp at h;subst h;exact ⟨[],.bytes0⟩
 ·simp at h;subst h;have hs:a.spot=none:=by
   simp only [Cell.okWide,ht,Cell.ok] at hval;exact hval.2.2.2.1
  obtain ⟨b,o,s⟩:=a;simp only at hs;subst hs;have hlz:len<=zs.length:=by rw [hz];split<;>omega
  refine ⟨(zs.take len).map (λn=>UInt8.ofNat n.toNat),.bytes _ b o len cap ?_ hl ?_⟩
  ·simp;omega
  ·intro i y hy;simp only [List.getElem?_map,Q0] at hy;obtain ⟨n,hn,rfl⟩:=hy;have hi:i<len:=by
    have:=(List.getElem?_eq_some_iff.1 hn).1;simp at this;omega
   have hn2:zs[i]? = some n:=by
    rw [List.getElem?_take] at hn;simpa [hi] using hn
   have hmem:=List.mem_of_getElem? hn2;have hw:=yPw (hwf n hmem);have h1:=hcell i jh;have e1:zs.getD i 0=n:=by rw [List.getD_eq_getElem?_getD,hn2];rfl
   have e2:Addr.add ⟨b,o,none⟩ i=⟨b,o+i,none⟩:=by
    unfold Addr.add;split
    ·rename_i h0;simp [h0]
    ·rfl
   rw [e1,e2] at h1;show W.cell? ⟨b,o+i,none⟩=_;rw [h1];have e3:((UInt8.ofNat n.toNat).toNat:Int)=n:=by
    rw [UInt8.toNat_ofNat'];omega
   rw [e3]
def yA6 {f:FuncId} {na:Nat} {pvs:List PV} (h:Ok P f na (mkS (argE 0 pvs) []) (mkS [(0,qB true)] [])) (W:World) (args:Array Value) (hn:args.size=na)
  (hrep:∀ (i:Nat) (p:PV),pvs[i]? = some p->∃ x,args[i]? = some x/\Rep (zFl W) p x) (hg:GlobOk W (zFl W)) :
  Calls P f args W λe w'=>e=.returned (.bool true)/\(∀ b,b<W.heap.size->w'.heap[b]? = W.heap[b]?)/\w'.os=W.os/\w'.output=W.output:=by
 refine (h.2 W (zFl W) zP4 args (λ_=>none) (λ_=>undef) ?_ (λk hk=>by simp at hk)).mono ?_
 ·refine ⟨rfl,hn,⟨rfl,rfl,rfl,Nat.le_refl _,λ_ _ _ _=>rfl⟩,λb o x hx=>hx,?_,?_,?_,?_,?_,⟨λ_ _ _=>rfl,λb hb=>by simp [Ctx.ob] at hb⟩,hg,?_⟩
  ·intro t v hv;obtain ⟨p,rfl,_,hp⟩:=zFa pvs 0 t v hv;obtain ⟨x,hx,hr⟩:=hrep t p (by simpa using hp);exact ⟨x,hx,.p p x hr⟩
  ·intro k l hk;simp [mkS,lk] at hk
  ·intro k c hk;simp [mkS,lk] at hk
  ·intro k k' b hk;simp at hk
  ·intro k _;rfl
  ·intro k w l hk;simp [mkS,lk] at hk
 ·intro e w' he;obtain ⟨v,rfl,M,κ,tip,_,_,hI⟩:=he;obtain ⟨x,hx,hr⟩:=hI.env 0 _ rfl;simp at hx;subst hx;refine ⟨?_,λb hb=>hI.fr.block b hb (by simp [Ctx.pb]) (by simp [Ctx.ob]),hI.fr.os,hI.fr.output⟩;cases hr with
  | p _ _ h1=>cases h1;rfl
def zRf {W:World} {zs:List Int} 
  (hg:P.globalNamed name=some g) (hty:(P.globals[g]?).map (·.type)=some t) (ht:P.underlying t=some (.array n e)) (he:P.underlying e=some (.int k)) (hce:P.cellsOf e=1) (hct:P.cellsOf t=n) :
  ∀ (laid:List (String×DataW Unit)) (ps:List MemPlace),Q9 P W laid ps->(name,Q4 k zs)∈laid->Q3 P W name k zs
 | [],_,_,h=>by simp at h
 | x :: rest,ps,hl,h=>by
  obtain ⟨nm,d⟩:=x;obtain ⟨g',t',cs,fuel,p,q,hg',ht',hvar,hd,hr,_⟩:=hl;rcases List.mem_cons.1 h with h | h
  ·injection h with h1 h2;subst h1 h2;obtain rfl:=Q6 (hg.symm.trans hg');obtain rfl:=Q6 (hty.symm.trans ht');unfold Q3;rw [hvar,<- Lib.cells_of_tab ht he hce hct hd]
  ·exact zRf hg hty ht he hce hct rest q hr h
def zL0 {W:World} {zs:List Int} (h:Q3 P W name k zs) (hg:P.globalNamed name=some g) :
  Rep (zFl W) (.cptr (.agg (zs.map (PV.int k)))) (.pointer (some ⟨g,0,none⟩)):=by
 have hc:∀ (j:Nat) (q:PV),(PV.agg (zs.map (PV.int k))).cells[j]? = some q->∃ z,q=.int k z/\W.cell? ⟨g,0+j,none⟩=some (.int k z):=by
  intro j q hq;have hq':(zs.map (PV.int k))[j]? = some q:=hq;rw [List.getElem?_map,Q0] at hq';obtain ⟨z,hz,rfl⟩:=hq';have hj:j<zs.length:=(List.getElem?_eq_some_iff.1 hz).1;have:=h.cell hg j hj;rw [List.getD_eq_getElem?_getD,hz] at this;exact ⟨z,rfl,by rw [Nat.zero_add];exact this⟩
 refine .cptr _ g 0 (λj q hq=>?_) (λj q hq=>?_)
 ·obtain ⟨z,_,hw⟩:=hc j q hq;show (W.cell? ⟨g,0+j,none⟩).isSome=true;rw [hw];rfl
 ·obtain ⟨z,rfl,hw⟩:=hc j q hq;have e:mget (zFl W) g (0+j)=.int k z:=by
   show (W.cell? ⟨g,0+j,none⟩).getD _=_;rw [hw];rfl
  rw [e];exact .int k z
def zIa {W:World} {zs:List Int} (h:Q3 P W name k zs) (hg:P.globalNamed name=some g) (hz:0<zs.length) :
  0<(PV.agg (zs.map (PV.int k))).cells.length/\∃ arr e fz,W.heap[g]? = some (.cells arr e fz)/\arr.size=(PV.agg (zs.map (PV.int k))).cells.length:=by
 have e1:(PV.agg (zs.map (PV.int k))).cells.length=zs.length:=by simp [PV.cells]
 refine ⟨by rw [e1];exact hz,?_⟩;unfold Q3 World.var? at h;rw [hg] at h;simp only [Option.bind_some] at h;split at h
 ·rename_i cs t fr hh;cases h;exact ⟨_,_,_,hh,by rw [e1];simp⟩
 ·cases h
def zVv {enc:TypeId×Value->H} {zs:List Int} 
  (ht:P.underlying t=some (.struct fs)) (hf:∀ (i:Nat) (f:Field),fs.toList[i]? = some f->f.offset=i/\P.underlying f.type=some (.int k)/\P.cellsOf f.type=1) (hc:P.cellsOf t=fs.size)
  (h:Q1 enc P w base sp held fuel t cs=some (Q4 k zs,p)):cs=zs.map λz=>Value.int k z:=by
 cases fuel with
 | zero=>simp [Q1] at h
 | succ fuel=>
  simp only [Q1,ht,hc] at h;split at h
  ·rename_i hl;obtain ⟨xs,hm,hx⟩:=Q0.1 h;have hxs:xs.map (·.1)=zs.map λz=>(DataW.lit (.int k z):DataW H):=by
    have:=congrArg Prod.fst hx;simpa [Q4] using this
   have hxl:xs.length=fs.size:=by simpa using Lib.mapM_length hm
   have hzl:zs.length=fs.size:=by
    have:=congrArg List.length hxs;simp at this;omega
   apply List.ext_getElem?;intro i;by_cases hi:i<fs.size
   ·obtain ⟨f,hfi⟩:∃ f,fs.toList[i]? = some f:=⟨fs.toList[i]'(by simpa using hi),List.getElem?_eq_getElem (by simpa using hi)⟩;obtain ⟨b,hb,hg⟩:=Lib.mapM_at hm i f hfi;obtain ⟨h1,h2,h3⟩:=hf i f hfi;rw [h1,h3] at hg;obtain ⟨z,hc',rfl,_⟩:=DataW.trod_int h2 hg;have h1:cs[i]? = some (.int k z):=by
     have:=congrArg (·[0]?) hc';simpa [List.getElem?_take,List.getElem?_drop] using this
    have h2:(xs.map (·.1))[i]? = some (DataW.lit (.int k z):DataW H):=by simp [hb]
    rw [hxs] at h2;simp only [List.getElem?_map,Q0,DataW.lit.injEq,Lit.int.injEq,true_and] at h2;obtain ⟨z',hz',rfl⟩:=h2;simp [h1,hz']
   ·rw [List.getElem?_eq_none jh,List.getElem?_eq_none jl]
  ·cases h
def zKm {α:Type} (w:Nat):∀ (rows:List (List α)) (cs:List α),cs.length=rows.length*w->(∀ i r,rows[i]? = some r->(cs.drop (i*w)).take w=r)->cs=rows.flatten
 | [],cs,hl,_=>by
  have:cs.length=0:=by simpa using hl
  simpa using this
 | r :: rows,cs,hl,h=>by
  have h0:=h 0 r rfl;rw [Nat.zero_mul,List.drop_zero] at h0;have hr:=zKm w rows (cs.drop w) (by rw [List.length_drop,hl,List.length_cons,Nat.succ_mul];omega) (λi q hq=>by
   have:=h (i+1) q hq;rw [List.drop_drop];rw [Nat.succ_mul,Nat.add_comm] at this;exact this)
  rw [List.flatten_cons,<- hr,<- h0,List.take_append_drop]
def zPg {enc:TypeId×Value->H} 
  (ht:P.underlying t=some (.array n e)) (he:P.underlying e=some (.struct fs)) (hf:∀ (i:Nat) (f:Field),fs.toList[i]? = some f->f.offset=i/\P.underlying f.type=some (.int k)/\P.cellsOf f.type=1) (hce:P.cellsOf e=fs.size) (hct:P.cellsOf t=n*fs.size)
  (h:Q1 enc P w base sp held fuel t cs=some (.agg (zss.map (Q4 k)),p)):cs=zss.flatten.map λz=>Value.int k z:=by
 cases fuel with
 | zero=>simp [Q1] at h
 | succ fuel=>
  simp only [Q1,ht,hct,hce] at h;split at h
  ·rename_i hl;obtain ⟨xs,hm,hx⟩:=Q0.1 h;have hxs:xs.map (·.1)=zss.map (Q4 (H:=H) k):=by
    have:=congrArg Prod.fst hx;simpa using this
   have hxl:xs.length=n:=by simpa using Lib.mapM_length hm
   have hzl:zss.length=n:=by
    have:=congrArg List.length hxs;simp at this;omega
   rw [List.map_flatten];refine zKm fs.size _ cs (by rw [List.length_map,hzl];exact hl) (λi r hr=>?_);rw [List.getElem?_map,Q0] at hr;obtain ⟨zs,hz,rfl⟩:=hr;have hi:i<n:=by have:=(List.getElem?_eq_some_iff.1 hz).1;omega
   obtain ⟨b,hb,hg⟩:=Lib.mapM_at hm i i (by simp [hi]);have h2:(xs.map (·.1))[i]? = some b.1:=by simp [hb]
   rw [hxs,List.getElem?_map,hz] at h2;have h3:b.1=Q4 k zs:=(Q6 h2).symm;obtain ⟨b1,b2⟩:=b;simp only at h3;subst h3;exact zVv he hf hce hg
  ·cases h
def zRt {W:World} {zs:List Int} 
  (hg:P.globalNamed name=some g) (hty:(P.globals[g]?).map (·.type)=some t) (ht:P.underlying t=some (.array n e)) (he:P.underlying e=some (.struct fs)) (hf:∀ (i:Nat) (f:Field),fs.toList[i]? = some f->f.offset=i/\P.underlying f.type=some (.int k)/\P.cellsOf f.type=1) (hce:P.cellsOf e=fs.size) (hct:P.cellsOf t=n*fs.size) (hz:zss.flatten=zs) :
  ∀ (laid:List (String×DataW Unit)) (ps:List MemPlace),Q9 P W laid ps->(name,.agg (zss.map (Q4 k)))∈laid->Q3 P W name k zs
 | [],_,_,h=>by simp at h
 | x :: rest,ps,hl,h=>by
  obtain ⟨nm,d⟩:=x;obtain ⟨g',t',cs,fuel,p,q,hg',ht',hvar,hd,hr,_⟩:=hl;rcases List.mem_cons.1 h with h | h
  ·injection h with h1 h2;subst h1 h2;obtain rfl:=Q6 (hg.symm.trans hg');obtain rfl:=Q6 (hty.symm.trans ht');unfold Q3;rw [hvar,<- hz,<- zPg ht he hf hce hct hd]
  ·exact zRt hg hty ht he hf hce hct hz rest q hr h
end Go.Sw
namespace Go.Proofs.TQ
open Go Go.Sw Go.Proofs Go.ChangeShapes Go.WideShapes
def smp5:Smp Tryz.prog 5:=.int _ _ Tryz.underlying5
def zX1:Tryz.prog.cellsOf 5=1:=by kernel_rfl
def yI6:Smp Tryz.prog 22:=.slice _ _ Tryz.underlying22 (by rw [zX1];decide) smp5
end Go.Proofs.TQ
namespace Go.Proofs.TQ
open Go Go.Sw Go.Proofs Go.ChangeShapes Go.WideShapes
open Go.Proofs.YtkalaoahbicflaaGreatDoor
def met {W:World} (h:laidMetH Tryz.prog Rows.moduleCountersRow.laid W):∃ ps,Q9 Tryz.prog W Rows.moduleCountersRow.laid ps:=by
 have h':laidMet Tryz.prog Rows.moduleCountersRow.laid W:=h;obtain ⟨ps,h1,_⟩:=h';exact ⟨ps,h1⟩
def yCu:List Int->List (List Int)
 | a :: b :: c :: d :: e :: r=>[a,b,c,d,e] :: yCu r
 | _=>[]
def zQu:(yCu rC).flatten=rC:=by decide +kernel
def yMj {fs:Array Field} (h:Tryz.prog.underlying 169=some (.struct fs)):∀ (i:Nat) (f:Field),fs.toList[i]? = some f->f.offset=i/\Tryz.prog.underlying f.type=some (.int .i64)/\Tryz.prog.cellsOf f.type=1:=by
 rw [Tryz.underlying169] at h;cases h;intro i f h;rcases i with _ | _ | _ | _ | _ | i;all_goals first | (cases h;exact ⟨rfl,Tryz.underlying3,jo⟩) | cases h
def g2:Tryz.prog.globalNamed "sealwright/command.forms" = some 0:=by kernel_rfl
def g0:Tryz.prog.globalNamed "sealwright/command.magic" = some 1:=by kernel_rfl
def g3:Tryz.prog.globalNamed "sealwright/digest.round256" = some 2:=by kernel_rfl
def yPx {W:World} (h:laidMetH Tryz.prog Rows.moduleCountersRow.laid W):GlobOk W (zFl W):=by
 obtain ⟨ps,hl⟩:=met h;have t0:Q3 Tryz.prog W "sealwright/command.magic" .u8 (vI.map λx=>(x.toNat:Int)):=zRf (zs:=(vI.map λx=>(x.toNat:Int))) g0 jo Tryz.underlying171 jo jo jo _ ps hl (by simp [Rows.moduleCountersRow];rfl);have t3:Q3 Tryz.prog W "sealwright/digest.round256" .u32 wQ:=zRf (zs:=wQ) g3 jo Tryz.underlying295 jo jo jo _ ps hl (by simp [Rows.moduleCountersRow];rfl);have t2:Q3 Tryz.prog W "sealwright/command.forms" .i64 rC:=zRt (zss:=yCu rC) g2 jo Tryz.underlying170 Tryz.underlying169 (yMj Tryz.underlying169) jo jo zQu _ ps hl (by simp [Rows.moduleCountersRow];rfl);have key:∀ g p,GL g=some p->Rep (zFl W) (.cptr p) (.pointer (some ⟨g,0,none⟩))/\0<p.cells.length/\∃ arr e fz,W.heap[g]? = some (.cells arr e fz)/\arr.size=p.cells.length:=by
  intro g p hg;unfold GL at hg;by_cases c0:g=1
  ·subst c0;cases hg;exact ⟨zL0 t0 g0,zIa t0 g0 ji⟩
  by_cases c2:g=0
  ·subst c2;cases hg;exact ⟨zL0 t2 g2,zIa t2 g2 ji⟩
  by_cases c3:g=2
  ·subst c3;cases hg;exact ⟨zL0 t3 g3,zIa t3 g3 ji⟩
  have nb:∀ m:Nat,g≠m->Nat.beq g m=false:=λm hm=>by
   cases hb:Nat.beq g m with
   | false=>rfl
   | true=>exact absurd (Nat.eq_of_beq_eq_true hb) hm
  rw [nb 1 c0,nb 0 c2,nb 2 c3] at hg;cases hg
 exact ⟨λg p hg=>(key g p hg).1,λg p hg=>(key g p hg).2⟩
end Go.Proofs.TQ
namespace Go.Proofs.TQ
open Go Go.Sw Go.Proofs Go.ChangeShapes Go.WideShapes
open Go.Proofs.YtkalaoahbicflaaGreatDoor
def zH4 {H:Type} {enc:TypeId×Value->H} {W:World} {sp:Nat->Bool} {held:Bool} {base b0:Nat} {r:Reach} {v:Value} {d:DataW H} {p:List MemPlace}
  (hval:Value.okWide Tryz.prog W r b0 22 v) (hd:DataW.Trod enc Tryz.prog W base sp held 22 v d p):∃ l:By,Rep (zFl W) (.bytes l) v:=by
 obtain ⟨fuel,hf⟩:=hd;obtain ⟨a,len,cap,rfl⟩:=okWide_slice Tryz.underlying22 hval;have hv:Cell.okWide Tryz.prog W r b0 22 (.slice a len cap):=by
  simpa only [Value.okWide,Tryz.underlying22] using hval
 exact zVe Tryz.underlying22 Tryz.underlying5 zX1 hv (by simpa [Value.cells] using hf)
end Go.Proofs.TQ
namespace Go.Sw
open Go Go.ChangeShapes Go.WideShapes Go.RowKit
def zRp {W W':World} {m:MemPlace->Prop} (keep:∀ b,b<W.heap.size->W'.heap[b]? = W.heap[b]?) (ho:W'.os=W.os) (hp:W'.output=W.output):W.keptBut W' m:=by
 refine ⟨ho,hp,λi hi=>?_⟩;rw [keep i hi];cases h:W.heap[i]? with
 | none=>simp
 | some o=>cases o<;>simp
def zV1 {H:Type} {enc:TypeId×Value->H} {P:Program} {fn:Func} {s:ChangeSpec} {W W':World} {args:Array Value} {ds gs:List (DataW H)} {p:List MemPlace} {tb:TypeId}
  (hW:DataW.Whole enc P fn.params.toList s.vars false W args.toList ds gs (p++[])) (hA:Q2 enc P W 0 (λ_=>true) true fn.params.toList args.toList ds p)
  (hS:∀ t∈fn.params.toList,Smp P t) (hb:P.underlying tb=some .bool) (hrt:fn.resultTypes=#[tb]) (hv:s.vars=[]) (hfn:s.fn H (ds++gs)={ results:=[.lit (.bool true)],args:=ds })
  (keep:∀ b,b<W.heap.size->W'.heap[b]? = W.heap[b]?) (ho:W'.os=W.os) (hp:W'.output=W.output):s.post enc P fn false true false false W args (.bool true) W':=by
 refine ⟨ds,gs,p++[],[],p,[],hW,?_,?_,?_,zRp keep ho hp,λh=>by cases h⟩
 ·rw [hfn,hrt];exact trodAll_cons_mk (shut_bool hb _) trodAll_mk0
 ·rw [hfn];refine zD3 keep hS hA (λq hq=>?_);have:=hW.lt q (by simpa using hq);simpa using this
 ·rw [hfn,hv];exact rfl
end Go.Sw
namespace Go.Proofs.TQ
open Go Go.Sw Go.Proofs Go.ChangeShapes Go.WideShapes Go.RowKit
open Go.Proofs.YtkalaoahbicflaaGreatDoor
def OkA:Prop:=∀ (x0:By) (x1:By),Ok Tryz.prog 3 2 (mkS (argE 0 [.bytes x0,.bytes x1]) []) (mkS [(0,qB true)] [])
def zXv (hok:OkA) (H:Type) (enc:TypeId×Value->H) (W:World) (base:Nat) (args:Array Value) (ds gs:List (DataW H)) (before:List MemPlace)
  (hval:∀ (j:Nat) t v,Tryz.f3.params[j]? = some t->args[j]? = some v->Value.okWide Tryz.prog W .any base t v)
  (hW:DataW.Whole enc Tryz.prog Tryz.f3.params.toList Rows.moduleCountersSpec.vars false W args.toList ds gs before) (hL:laidMetH Tryz.prog Rows.moduleCountersRow.laid W) :
  Calls Tryz.prog 3 args W λe W'=>∃ v,e=.returned v/\Rows.moduleCountersSpec.post enc Tryz.prog Tryz.f3 false true false false W args v W':=by
 have hW':=hW;obtain ⟨p,q,hA0,hV,rfl,hfz,hnd⟩:=hW;have hA:Q2 enc Tryz.prog W 0 (λ_=>true) true Tryz.f3.params.toList args.toList ds p:=hA0;have hA':=hA;rw [Tryz.params3] at hA hval;obtain ⟨v0,vs0,d0,ds0,p0,q0,e0,rfl,rfl,h0,r0⟩:=trodAll_cons hA;obtain ⟨v1,vs1,d1,ds1,p1,q1,rfl,rfl,rfl,h1,r1⟩:=trodAll_cons r0;obtain ⟨rfl,rfl,rfl⟩:=trodAll_nil r1;obtain rfl:args=#[v0,v1]:=by cases args;simp_all
 obtain ⟨rfl,rfl⟩:=trodVars_none hV;obtain ⟨x0,k0⟩:=zH4 (hval 0 22 v0 rfl rfl) h0;obtain ⟨x1,k1⟩:=zH4 (hval 1 22 v1 rfl rfl) h1;refine (yA6 (hok x0 x1) W _ rfl ?_ (yPx hL)).mono λe W' ⟨he,hkeep,ho,hp⟩ =>?_
 ·intro i x hx;rcases i with _ | _ | i
  ·cases hx;exact ⟨_,rfl,k0⟩
  ·cases hx;exact ⟨_,rfl,k1⟩
  ·simp at hx
 ·subst he;refine ⟨_,rfl,zV1 hW' hA' ?_ Tryz.underlying4 jo rfl rfl hkeep ho hp⟩;rw [Tryz.params3];intro t ht;simp only [List.mem_cons,List.not_mem_nil,or_false] at ht;rcases ht with rfl | rfl
  ·exact yI6
  ·exact yI6
end Go.Proofs.TQ
