/- AppraiseVerdict (law 37: the verdict about evidence that is right but for up to two changes) is proved for every input, under no condition of ours; this text is a part of that proof. -/
import Derived.ChangeReads
import Derived.ChangeSame
import Derived.ChangeOld
import Derived.Test.YteadpnddgpfbdaaGreatDoorZ0
import Derived.ChangeSlices
import Derived.ChangeShapes
import Derived.WideShapes
import Derived.Test.YteadpnddgpfbdaaGreatDoorZ4
import Derived.Lib.LaidTab
import Derived.Test.YteadpnddgpfbdaaGreatDoorRows
import Derived.Lib.SmallJoins
import Derived.RowKit
import Derived.RowKit3
import Derived.ChangeAt
import Derived.ProofKit
import Derived.OpenShut
import Derived.JoinedOf
import Derived.Test.YteadpnddgpfbdaaGreatDoorCards
import Derived.Test.YteadpnddgpfbdaaGreatDoorTie
import Derived.LaidMore
import Derived.Lay
import Derived.SevenTiedAt
import Derived.Stop.Joined
set_option linter.all false
open Go.DataW renaming TrodAll -> Q0, trod -> Q1, trod_step -> Q4, trodStep -> Q5, LaidVars -> Q8, Whole -> Q9
open Go.Lib renaming TabIs -> Q2
open Option renaming map_eq_some_iff -> Q3, bind_eq_some_iff -> Q6
open Option.some renaming inj -> Q7
namespace Go.Sw
open Go
variable {H:Type}{P:Program}{W':World}{base:Nat}{e:TypeId}{g:Nat}{held:Bool}{k:IntKind}{name:String}{sp:Nat->Bool}{t:TypeId}
inductive Smp (P:Program):TypeId->Prop
 | bool (t:TypeId):P.underlying t=some .bool->Smp P t
 | int (t:TypeId) (k:IntKind):P.underlying t=some (.int k)->Smp P t
 | str (t:TypeId):P.underlying t=some .string->Smp P t
 | slice (t e:TypeId):P.underlying t=some (.slice e)->0<P.cellsOf e->Smp P e->Smp P t
 | struct (t:TypeId) (fs:Array Field):P.underlying t=some (.struct fs)->(∀ f∈fs.toList,Smp P f.type)->Smp P t
theorem zOh {enc:TypeId×Value->H} {w:World} (hs:Smp P t) :
  ∀ (n:Nat) (cs:List Value) (x:DataW H×List MemPlace),Q1 enc P w base (λ_=>true) held n t cs=some x->(∀ p∈x.2,sp p.block=true)->Q1 enc P w base sp held n t cs=some x:=by
 induction hs with
 | bool t ht=>
  intro n cs x h _;cases n with
  | zero=>simp [Q1] at h
  | succ n=>
   rw [Q4] at h ⊢;unfold Q5 at h ⊢;split at h<;>first | exact h | (exfalso;simp_all;done)
 | int t k ht=>
  intro n cs x h _;cases n with
  | zero=>simp [Q1] at h
  | succ n=>
   rw [Q4] at h ⊢;unfold Q5 at h ⊢;split at h<;>first | exact h | (exfalso;simp_all;done)
 | str t ht=>
  intro n cs x h _;cases n with
  | zero=>simp [Q1] at h
  | succ n=>
   rw [Q4] at h ⊢;unfold Q5 at h ⊢;split at h<;>first | exact h | (exfalso;simp_all;done)
 | slice t e ht hc _ ih=>
  intro n cs x h hp;cases n with
  | zero=>simp [Q1] at h
  | succ n=>
   rw [Q4] at h ⊢;unfold Q5 at h ⊢;split at h
   case h_7=>exact h
   case h_21=>cases h
   case h_8 e' a len cap he'=>
    obtain rfl:e=e':=by rw [ht] at he';injection he' with he';injection he' with he'
    simp only at h ⊢;split at h
    ·rename_i hcond;rw [if_pos hcond];simp only [Q3,Q6,if_true] at h ⊢;obtain ⟨elems,he,rest,hrest,rfl⟩:=h;simp only at hp;have one:∀ (i:Nat) (y:DataW H×List MemPlace),y∈elems++rest->(∃ c,w.cells? base (a.add (i*P.cellsOf e)) (P.cellsOf e)=some c/\Q1 enc P w base (λ_=>true) held n e c=some y)->∃ c,w.cells? base (a.add (i*P.cellsOf e)) (P.cellsOf e)=some c/\Q1 enc P w base sp held n e c=some y:=by
      intro i y hy hv;obtain ⟨c,h1,h2⟩:=hv;exact ⟨c,h1,ih n c y h2 (λp hpp=>hp p (by simp only [List.mem_append,List.mem_flatMap];right;exact ⟨y,by simpa using hy,hpp⟩))⟩
     have hrl:rest.length=cap - len:=by simpa using mapM_some_length hrest
     have hel:elems.length=len:=by simpa using mapM_some_length he
     refine ⟨elems,mapM_carry he (λi y _ hy hv=>?_),rest,?_,rfl⟩
     ·simp only [Q6] at hv ⊢;exact one i y (by simp [hy]) hv
     ·by_cases hz:cap=len
      ·have:rest=[]:=List.eq_nil_of_length_eq_zero (by omega);subst this;have e0:cap - len=0:=by omega
       rw [e0];split<;>rfl
      ·have hsp:sp a.block=true:=by
        refine hp (.cell a.block a.off) ?_;simp only [List.mem_append];left;refine MemPlace.mem_row.2 ⟨0,?_,rfl⟩;refine Nat.mul_pos (by omega) hc
       rw [if_pos hsp];refine mapM_carry hrest (λj y _ hy hv=>?_);simp only [Q6] at hv ⊢;exact one (len+j) y (by simp [hy]) hv
    ·cases h
   all_goals (exfalso;simp_all;done)
 | struct t fs ht _ ih=>
  intro n cs x h hp;cases n with
  | zero=>simp [Q1] at h
  | succ n=>
   rw [Q4] at h ⊢;unfold Q5 at h ⊢;split at h
   case h_21=>cases h
   case h_9 fs' hf'=>
    obtain rfl:fs=fs':=by rw [ht] at hf';injection hf' with hf';injection hf' with hf'
    split at h
    ·rename_i hc;rw [if_pos hc];simp only [Q3] at h ⊢;obtain ⟨xs,hx,rfl⟩:=h;refine ⟨xs,mapM_carry hx (λf y hf hy hv=>ih f hf n _ y hv (λp hpp=>hp p (List.mem_flatMap.2 ⟨y,hy,hpp⟩))),rfl⟩
    ·cases h
   all_goals (exfalso;simp_all;done)
theorem zRb {W:World} (keep:∀ b,b<W.heap.size->W'.heap[b]? = W.heap[b]?):∀ p:MemPlace,p.block<W.heap.size->W.sameAt W' p:=by
 intro p hp;cases p with
 | cell b off=>
  have:=keep b hp;simp only [World.sameAt,World.cell?,this]
 | map b=>exact keep b hp
theorem zBj {enc:TypeId×Value->H} {W:World} (keep:∀ b,b<W.heap.size->W'.heap[b]? = W.heap[b]?) :
  ∀ {ts:List TypeId} {vs:List Value} {ds:List (DataW H)} {p:List MemPlace},(∀ t∈ts,Smp P t)->Q0 enc P W 0 (λ_=>true) true ts vs ds p->(∀ q∈p,sp q.block=true)->Q0 enc P W' 0 sp true ts vs ds p
 | [],[],[],_,_,h,_=>h
 | t :: ts,v :: vs,d :: ds,ps,hS,h,hsp=>by
  obtain ⟨p,q,⟨fuel,h1⟩,h2,rfl⟩:=h;refine ⟨p,q,⟨fuel,?_⟩,zBj keep (λt ht=>hS t (by simp [ht])) h2 (λx hx=>hsp x (by simp [hx])),rfl⟩;have hlt:=DataW.trod_lt fuel t _ _ h1;have h3:=DataW.trod_carry (w':=W') fuel t _ _ h1 (λx hx=>zRb keep x (hlt x hx));exact zOh (hS t (by simp)) fuel _ _ h3 (λx hx=>hsp x (by simp only [List.mem_append];exact .inl hx))
 | [],[],_ :: _,_,_,h,_=>by simp [Q0] at h
 | [],_ :: _,_,_,_,h,_=>by simp [Q0] at h
 | _ :: _,[],_,_,_,h,_=>by simp [Q0] at h
 | _ :: _,_ :: _,[],_,_,h,_=>by simp [Q0] at h
open Go Go.ChangeShapes
def zCu (W:World):Mem:=λb o=>W.cell? ⟨b,o,none⟩
theorem yDs {n:Int} (h:(Lit.int .u8 n).wf=true):0<=n/\n<=255:=by
 simp [Lit.wf] at h;exact h
theorem zRg {enc:TypeId×Value->H} {W:World} {b0 fuel:Nat} {r:Reach} {v:Value} {x:DataW H×List MemPlace}
  (ht:P.underlying t=some (.slice e)) (he:P.underlying e=some (.int .u8)) (hc:P.cellsOf e=1) (hval:Cell.okWide P W r b0 t v)
  (hd:Q1 enc P W base sp held fuel t [v]=some x):∃ l:By,Rep (zCu W) (.bytes l) v:=by
 rcases open_ints ht he hc hd with ⟨h,_⟩ | ⟨a,len,cap,zs,h,_,hl,_,hz,_,hcell,hwf⟩
 ·simp at h;subst h;exact ⟨[],.bytes0⟩
 ·simp at h;subst h;have hs:a.spot=none:=by
   simp only [Cell.okWide,ht,Cell.ok] at hval;exact hval.2.2.2.1
  obtain ⟨b,o,s⟩:=a;simp only at hs;subst hs;have hlz:len<=zs.length:=by rw [hz];split<;>omega
  refine ⟨(zs.take len).map (λn=>UInt8.ofNat n.toNat),.bytes _ b o len cap ?_ hl ?_⟩
  ·simp;omega
  ·intro i y hy;simp only [List.getElem?_map,Q3] at hy;obtain ⟨n,hn,rfl⟩:=hy;have hi:i<len:=by
    have:=(List.getElem?_eq_some_iff.1 hn).1;simp at this;omega
   have hn2:zs[i]? = some n:=by
    rw [List.getElem?_take] at hn;simpa [hi] using hn
   have hmem:=List.mem_of_getElem? hn2;have hw:=yDs (hwf n hmem);have h1:=hcell i (by omega);have e1:zs.getD i 0=n:=by rw [List.getD_eq_getElem?_getD,hn2];rfl
   have e2:Addr.add ⟨b,o,none⟩ i=⟨b,o+i,none⟩:=by
    unfold Addr.add;split
    ·rename_i h0;simp [h0]
    ·rfl
   rw [e1,e2] at h1;show W.cell? ⟨b,o+i,none⟩=_;rw [h1];have e3:((UInt8.ofNat n.toNat).toNat:Int)=n:=by
    rw [UInt8.toNat_ofNat'];omega
   rw [e3]
theorem zTf {f:FuncId} {na:Nat} {pvs:List PV} (h:Ok P f na (mkS (argE 0 pvs) []) (mkS [(0,qB true)] [])) (W:World) (args:Array Value) (hn:args.size=na)
  (hrep:∀ (i:Nat) (p:PV),pvs[i]? = some p->∃ x,args[i]? = some x/\Rep (zCu W) p x) (hg:GlobOk W (zCu W)) :
  Calls P f args W λe w'=>e=.returned (.bool true)/\(∀ b,b<W.heap.size->w'.heap[b]? = W.heap[b]?)/\w'.os=W.os/\w'.output=W.output:=by
 refine (h.2 W (zCu W) [] args (λ_=>none) (λ_=>undef) ?_ (λk hk=>by simp at hk)).mono ?_
 ·refine ⟨rfl,hn,⟨rfl,rfl,rfl,Nat.le_refl _,λ_ _ _=>rfl⟩,λb o x hx=>hx,?_,?_,?_,?_,?_,λ_ _ _=>rfl,hg,?_⟩
  ·intro t v hv;obtain ⟨p,rfl,_,hp⟩:=zDv pvs 0 t v hv;obtain ⟨x,hx,hr⟩:=hrep t p (by simpa using hp);exact ⟨x,hx,.p p x hr⟩
  ·intro k l hk;simp [mkS,lk] at hk
  ·intro k c hk;simp [mkS,lk] at hk
  ·intro k k' b hk;simp at hk
  ·intro k _;rfl
  ·intro k w l hk;simp [mkS,lk] at hk
 ·intro e w' he;obtain ⟨v,rfl,M,κ,tip,_,_,hI⟩:=he;obtain ⟨x,hx,hr⟩:=hI.env 0 _ rfl;simp at hx;subst hx;refine ⟨?_,λb hb=>hI.fr.block b hb (by simp [Ctx.pb]),hI.fr.os,hI.fr.output⟩;cases hr with
  | p _ _ h1=>cases h1;rfl
theorem zFa {W:World} {zs:List Int} {n:Nat}
  (hg:P.globalNamed name=some g) (hty:(P.globals[g]?).map (·.type)=some t) (ht:P.underlying t=some (.array n e)) (he:P.underlying e=some (.int k)) (hce:P.cellsOf e=1) (hct:P.cellsOf t=n) :
  ∀ (laid:List (String×DataW Unit)) (ps:List MemPlace),Q8 P W laid ps->(name,Lib.tabData k zs)∈laid->Q2 P W name k zs
 | [],_,_,h=>by simp at h
 | x :: rest,ps,hl,h=>by
  obtain ⟨nm,d⟩:=x;obtain ⟨g',t',cs,fuel,p,q,hg',ht',hvar,hd,hr,_⟩:=hl;rcases List.mem_cons.1 h with h | h
  ·injection h with h1 h2;subst h1 h2;obtain rfl:=Q7 (hg.symm.trans hg');obtain rfl:=Q7 (hty.symm.trans ht');unfold Q2;rw [hvar,<- Lib.cells_of_tab ht he hce hct hd]
  ·exact zFa hg hty ht he hce hct rest q hr h
theorem zD9 {W:World} {zs:List Int} (h:Q2 P W name k zs) (hg:P.globalNamed name=some g) :
  Rep (zCu W) (.cptr (.agg (zs.map (PV.int k)))) (.pointer (some ⟨g,0,none⟩)):=by
 have hc:∀ (j:Nat) (q:PV),(PV.agg (zs.map (PV.int k))).cells[j]? = some q->∃ z,q=.int k z/\W.cell? ⟨g,0+j,none⟩=some (.int k z):=by
  intro j q hq;have hq':(zs.map (PV.int k))[j]? = some q:=hq;rw [List.getElem?_map,Q3] at hq';obtain ⟨z,hz,rfl⟩:=hq';have hj:j<zs.length:=(List.getElem?_eq_some_iff.1 hz).1;have:=h.cell hg j hj;rw [List.getD_eq_getElem?_getD,hz] at this;exact ⟨z,rfl,by rw [Nat.zero_add];exact this⟩
 refine .cptr _ g 0 (λj q hq=>?_) (λj q hq=>?_)
 ·obtain ⟨z,_,hw⟩:=hc j q hq;show (W.cell? ⟨g,0+j,none⟩).isSome=true;rw [hw];rfl
 ·obtain ⟨z,rfl,hw⟩:=hc j q hq;have e:mget (zCu W) g (0+j)=.int k z:=by
   show (W.cell? ⟨g,0+j,none⟩).getD _=_;rw [hw];rfl
  rw [e];exact .int k z
theorem bL {W:World} {zs:List Int} (h:Q2 P W name k zs) (hg:P.globalNamed name=some g) (hz:0<zs.length) :
  0<(PV.agg (zs.map (PV.int k))).cells.length/\∃ arr e fz,W.heap[g]? = some (.cells arr e fz)/\arr.size=(PV.agg (zs.map (PV.int k))).cells.length:=by
 have e1:(PV.agg (zs.map (PV.int k))).cells.length=zs.length:=by simp [PV.cells]
 refine ⟨by rw [e1];exact hz,?_⟩;unfold Q2 World.var? at h;rw [hg] at h;simp only [Option.bind_some] at h;split at h
 ·rename_i cs t fr hh;cases h;exact ⟨_,_,_,hh,by rw [e1];simp⟩
 ·cases h
end Go.Sw
namespace Go.Proofs.TQ
open Go Go.Sw Go.Proofs Go.ChangeShapes Go.WideShapes
theorem zX3:Smp Tryz.prog 3:=.int _ _ Tryz.underlying3
theorem smp5:Smp Tryz.prog 5:=.int _ _ Tryz.underlying5
theorem zU6:Tryz.prog.cellsOf 5=1:=by kernel_rfl
theorem zPo:Smp Tryz.prog 22:=.slice _ _ Tryz.underlying22 (by rw [zU6];decide) smp5
open Go.Proofs.YteadpnddgpfbdaaGreatDoor
theorem met {W:World} (h:laidMetH Tryz.prog Rows.appraiseQuoteRow.laid W):∃ ps,Q8 Tryz.prog W Rows.appraiseQuoteRow.laid ps:=by
 have h':laidMet Tryz.prog Rows.appraiseQuoteRow.laid W:=h;obtain ⟨ps,h1,_⟩:=h';exact ⟨ps,h1⟩
theorem g0:Tryz.prog.globalNamed "sealwright/image.measured" = some 0:=by kernel_rfl
theorem g1:Tryz.prog.globalNamed "sealwright/digest.round256" = some 1:=by kernel_rfl
theorem g3:Tryz.prog.globalNamed "internal/strconv.uint64pow10" = some 3:=by kernel_rfl
theorem g6:Tryz.prog.globalNamed "math/bits.deBruijn32tab" = some 6:=by kernel_rfl
theorem g7:Tryz.prog.globalNamed "math/bits.deBruijn64tab" = some 7:=by kernel_rfl
theorem yD4 {W:World} (h:laidMetH Tryz.prog Rows.appraiseQuoteRow.laid W):GlobOk W (zCu W):=by
 obtain ⟨ps,hl⟩:=met h;have t0:Q2 Tryz.prog W "sealwright/image.measured" .i64 gd0:=zFa (zs:=gd0) g0 (by kernel_rfl) Tryz.underlying230 Tryz.underlying3 (by kernel_rfl) (by kernel_rfl) _ ps hl (by simp [Rows.appraiseQuoteRow];rfl);have t1:Q2 Tryz.prog W "sealwright/digest.round256" .u32 gd1:=zFa (zs:=gd1) g1 (by kernel_rfl) Tryz.underlying140 (by kernel_rfl) (by kernel_rfl) (by kernel_rfl) _ ps hl (by simp [Rows.appraiseQuoteRow];rfl);have t3:Q2 Tryz.prog W "internal/strconv.uint64pow10" .u64 gd3:=zFa (zs:=gd3) g3 (by kernel_rfl) Tryz.underlying273 (by kernel_rfl) (by kernel_rfl) (by kernel_rfl) _ ps hl (by simp [Rows.appraiseQuoteRow];rfl);have t6:Q2 Tryz.prog W "math/bits.deBruijn32tab" .u8 gd6:=zFa (zs:=gd6) g6 (by kernel_rfl) Tryz.underlying294 Tryz.underlying5 (by kernel_rfl) (by kernel_rfl) _ ps hl (by simp [Rows.appraiseQuoteRow];rfl);have t7:Q2 Tryz.prog W "math/bits.deBruijn64tab" .u8 gd7:=zFa (zs:=gd7) g7 (by kernel_rfl) Tryz.underlying295 Tryz.underlying5 (by kernel_rfl) (by kernel_rfl) _ ps hl (by simp [Rows.appraiseQuoteRow];rfl);have key:∀ g p,GL g=some p->Rep (zCu W) (.cptr p) (.pointer (some ⟨g,0,none⟩))/\0<p.cells.length/\∃ arr e fz,W.heap[g]? = some (.cells arr e fz)/\arr.size=p.cells.length:=by
  intro g p hg;unfold GL at hg;by_cases c0:g=0
  ·subst c0;cases hg;exact ⟨zD9 t0 g0,bL t0 g0 (by decide)⟩
  by_cases c1:g=1
  ·subst c1;cases hg;exact ⟨zD9 t1 g1,bL t1 g1 (by decide)⟩
  by_cases c3:g=3
  ·subst c3;cases hg;exact ⟨zD9 t3 g3,bL t3 g3 (by decide)⟩
  by_cases c6:g=6
  ·subst c6;cases hg;exact ⟨zD9 t6 g6,bL t6 g6 (by decide)⟩
  by_cases c7:g=7
  ·subst c7;cases hg;exact ⟨zD9 t7 g7,bL t7 g7 (by decide)⟩
  have nb:∀ m:Nat,g≠m->Nat.beq g m=false:=λm hm=>by
   cases hb:Nat.beq g m with
   | false=>rfl
   | true=>exact absurd (Nat.eq_of_beq_eq_true hb) hm
  rw [nb 0 c0,nb 1 c1,nb 3 c3,nb 6 c6,nb 7 c7] at hg;cases hg
 exact ⟨λg p hg=>(key g p hg).1,λg p hg=>(key g p hg).2⟩
end Go.Proofs.TQ
set_option maxRecDepth 100000
namespace Go.Proofs.TQ
open Go Go.Sw Go.Proofs Go.ChangeShapes Go.WideShapes
open Go.Proofs.YteadpnddgpfbdaaGreatDoor
theorem dG {H:Type} {enc:TypeId×Value->H} {W:World} {sp:Nat->Bool} {held:Bool} {base b0:Nat} {r:Reach} {v:Value} {d:DataW H} {p:List MemPlace}
  (hval:Value.okWide Tryz.prog W r b0 22 v) (hd:DataW.Trod enc Tryz.prog W base sp held 22 v d p):∃ l:By,Rep (zCu W) (.bytes l) v:=by
 obtain ⟨fuel,hf⟩:=hd;obtain ⟨a,len,cap,rfl⟩:=okWide_slice Tryz.underlying22 hval;have hv:Cell.okWide Tryz.prog W r b0 22 (.slice a len cap):=by
  simpa only [Value.okWide,Tryz.underlying22] using hval
 exact zRg Tryz.underlying22 Tryz.underlying5 zU6 hv (by simpa [Value.cells] using hf)
end Go.Proofs.TQ
namespace Go.Sw
open Go Go.ChangeShapes Go.WideShapes Go.RowKit
theorem zOy {W W':World} {m:MemPlace->Prop} (keep:∀ b,b<W.heap.size->W'.heap[b]? = W.heap[b]?) (ho:W'.os=W.os) (hp:W'.output=W.output):W.keptBut W' m:=by
 refine ⟨ho,hp,λi hi=>?_⟩;rw [keep i hi];cases h:W.heap[i]? with
 | none=>simp
 | some o=>cases o<;>simp
theorem zRr {H:Type} {enc:TypeId×Value->H} {P:Program} {fn:Func} {s:ChangeSpec} {W W':World} {args:Array Value} {ds gs:List (DataW H)} {p:List MemPlace} {tb:TypeId}
  (hW:Q9 enc P fn.params.toList s.vars false W args.toList ds gs (p++[])) (hA:Q0 enc P W 0 (λ_=>true) true fn.params.toList args.toList ds p)
  (hS:∀ t∈fn.params.toList,Smp P t) (hb:P.underlying tb=some .bool) (hrt:fn.resultTypes=#[tb]) (hv:s.vars=[]) (hfn:s.fn H (ds++gs)={ results:=[.lit (.bool true)],args:=ds })
  (keep:∀ b,b<W.heap.size->W'.heap[b]? = W.heap[b]?) (ho:W'.os=W.os) (hp:W'.output=W.output):s.post enc P fn false true false false W args (.bool true) W':=by
 refine ⟨ds,gs,p++[],[],p,[],hW,?_,?_,?_,zOy keep ho hp,λh=>by cases h⟩
 ·rw [hfn,hrt];exact trodAll_cons_mk (shut_bool hb _) trodAll_mk0
 ·rw [hfn];refine zBj keep hS hA (λq hq=>?_);have:=hW.lt q (by simpa using hq);simpa using this
 ·rw [hfn,hv];exact rfl
end Go.Sw
set_option maxRecDepth 100000
namespace Go.Proofs.TQ
open Go Go.Sw Go.Proofs Go.ChangeShapes Go.WideShapes Go.RowKit
open Go.Proofs.YteadpnddgpfbdaaGreatDoor
def OkA:Prop:=∀ (x0:By) (x1:By) (x2:By) (x3:By) (x4:Int) (x5:Int) (x6:Int),Ok Tryz.prog 4 7 (mkS (argE 0 [.bytes x0,.bytes x1,.bytes x2,.bytes x3,.int .i64 x4,.int .i64 x5,.int .i64 x6]) []) (mkS [(0,qB true)] [])
theorem zT2 (hok:OkA) (H:Type) (enc:TypeId×Value->H) (W:World) (base:Nat) (args:Array Value) (ds gs:List (DataW H)) (before:List MemPlace)
  (hval:∀ (j:Nat) t v,Tryz.f4.params[j]? = some t->args[j]? = some v->Value.okWide Tryz.prog W .any base t v)
  (hW:Q9 enc Tryz.prog Tryz.f4.params.toList Rows.appraiseVerdictSpec.vars false W args.toList ds gs before) (hL:laidMetH Tryz.prog Rows.appraiseVerdictRow.laid W) :
  Calls Tryz.prog 4 args W λe W'=>∃ v,e=.returned v/\Rows.appraiseVerdictSpec.post enc Tryz.prog Tryz.f4 false true false false W args v W':=by
 have hW':=hW;obtain ⟨p,q,hA0,hV,rfl,hfz,hnd⟩:=hW;have hA:Q0 enc Tryz.prog W 0 (λ_=>true) true Tryz.f4.params.toList args.toList ds p:=hA0;have hA':=hA;rw [Tryz.params4] at hA hval;obtain ⟨v0,vs0,d0,ds0,p0,q0,e0,rfl,rfl,h0,r0⟩:=trodAll_cons hA;obtain ⟨v1,vs1,d1,ds1,p1,q1,rfl,rfl,rfl,h1,r1⟩:=trodAll_cons r0;obtain ⟨v2,vs2,d2,ds2,p2,q2,rfl,rfl,rfl,h2,r2⟩:=trodAll_cons r1;obtain ⟨v3,vs3,d3,ds3,p3,q3,rfl,rfl,rfl,h3,r3⟩:=trodAll_cons r2;obtain ⟨v4,vs4,d4,ds4,p4,q4,rfl,rfl,rfl,h4,r4⟩:=trodAll_cons r3;obtain ⟨v5,vs5,d5,ds5,p5,q5,rfl,rfl,rfl,h5,r5⟩:=trodAll_cons r4;obtain ⟨v6,vs6,d6,ds6,p6,q6,rfl,rfl,rfl,h6,r6⟩:=trodAll_cons r5;obtain ⟨rfl,rfl,rfl⟩:=trodAll_nil r6;obtain rfl:args=#[v0,v1,v2,v3,v4,v5,v6]:=by cases args;simp_all
 obtain ⟨rfl,rfl⟩:=trodVars_none hV;obtain ⟨x0,k0⟩:=dG (hval 0 22 v0 rfl rfl) h0;obtain ⟨x1,k1⟩:=dG (hval 1 22 v1 rfl rfl) h1;obtain ⟨x2,k2⟩:=dG (hval 2 22 v2 rfl rfl) h2;obtain ⟨x3,k3⟩:=dG (hval 3 22 v3 rfl rfl) h3;obtain ⟨x4,rfl,rfl,rfl,_⟩:=open_int Tryz.underlying3 (hval 4 3 v4 rfl rfl) h4;obtain ⟨x5,rfl,rfl,rfl,_⟩:=open_int Tryz.underlying3 (hval 5 3 v5 rfl rfl) h5;obtain ⟨x6,rfl,rfl,rfl,_⟩:=open_int Tryz.underlying3 (hval 6 3 v6 rfl rfl) h6;refine (zTf (hok x0 x1 x2 x3 x4 x5 x6) W _ rfl ?_ (yD4 hL)).mono λe W' ⟨he,hkeep,ho,hp⟩ =>?_
 ·intro i x hx;rcases i with _ | _ | _ | _ | _ | _ | _ | i
  ·cases hx;exact ⟨_,rfl,k0⟩
  ·cases hx;exact ⟨_,rfl,k1⟩
  ·cases hx;exact ⟨_,rfl,k2⟩
  ·cases hx;exact ⟨_,rfl,k3⟩
  ·cases hx;exact ⟨_,rfl,.int _ _⟩
  ·cases hx;exact ⟨_,rfl,.int _ _⟩
  ·cases hx;exact ⟨_,rfl,.int _ _⟩
  ·simp at hx
 ·subst he;refine ⟨_,rfl,zRr hW' hA' ?_ Tryz.underlying4 (by kernel_rfl) rfl rfl hkeep ho hp⟩;rw [Tryz.params4];intro t ht;simp only [List.mem_cons,List.not_mem_nil,or_false] at ht;rcases ht with rfl | rfl | rfl | rfl | rfl | rfl | rfl
  ·exact zPo
  ·exact zPo
  ·exact zPo
  ·exact zPo
  ·exact zX3
  ·exact zX3
  ·exact zX3
end Go.Proofs.TQ
set_option maxRecDepth 100000
set_option maxHeartbeats 4000000
namespace Go.Proofs.TQ
open Go Go.Proofs
open Go.Proofs.YteadpnddgpfbdaaGreatDoor
theorem andI {a b:Bool} (ha:a=true) (hb:b=true):(a&&b)=true:=by rw [ha,hb];rfl
theorem zWo:joinedFacts Tryz.prog 4 Tryz.f4 Rows.appraiseVerdictSpec Rows.appraiseVerdictRow=true:=by
 unfold joinedFacts;repeat with_reducible refine andI ?_ ?_
 all_goals as_aux_lemma=>kernel_rfl
end Go.Proofs.TQ
set_option maxRecDepth 100000
namespace Go.Proofs.TQ
open Go Go.Sw Go.Proofs Go.ChangeShapes Go.WideShapes Go.RowKit Go.ChangeAt
open Go.Proofs.YteadpnddgpfbdaaGreatDoor
theorem own:ownKnob Tryz.prog.godebug=none:=by kernel_rfl
def wit:Array Value:=#[.slice none 0 0,.slice none 0 0,.slice none 0 0,.slice none 0 0,.int .i64 0,.int .i64 0,.int .i64 0]
theorem zYh (hok:OkA) (os:Os) (started:os.Started) (H:Type) (enc:TypeId×Value->H) :
  ReturnsInHanded {} Tryz.checked os 4 .any (λw args=>(Rows.appraiseVerdictSpec.pre enc Tryz.prog Tryz.f4 [] false w args/\laidMetH Tryz.prog Rows.appraiseVerdictRow.laid w)/\sizedMet enc Tryz.prog Tryz.f4 (OpenSpec.ofChange Rows.appraiseVerdictSpec) false w args)
   (Rows.appraiseVerdictSpec.post enc Tryz.prog Tryz.f4 false true false false):=by
 refine returnsInHanded_of_change_and (C:=Tryz.checked) (X:=λw _=>laidMetH Tryz.prog Rows.appraiseVerdictRow.laid w) (λ_ _ _ hh h=>h.of_heap hh) own started (by kernel_rfl) Tryz.func4
  (ChangeSpec.witness_shaped (enc:=enc) (C:=Tryz.checked) (os:=os) (X:=λw _=>laidMetH Tryz.prog Rows.appraiseVerdictRow.laid w) false (World.laidAll Tryz.prog os Rows.appraiseVerdictRow.laid) wit 8 (World.laidAll_os _ _ _)
   (World.shaped_of_ZipB (by kernel_rfl) (by kernel_rfl)) (by kernel_rfl) (by kernel_rfl) (by kernel_rfl)
   (by rw [MakeChecks.laidMetH_plain _ _ _ (by kernel_rfl)];exact laidMet_laidAll _ (by kernel_rfl) (by kernel_rfl))) ?_
 intro W base args ds gs before hval hW _ _ hL _;exact zT2 hok H enc W base args ds gs before hval hW hL
theorem said (hok:OkA):Rows.AppraiseVerdictSaid:=
 OpenClaim.holds_of_wide 4 Tryz.f4 rfl rfl rfl rfl rfl rfl rfl ⟨rfl,rfl,rfl,rfl,rfl⟩ rfl rfl rfl rfl rfl (by as_aux_lemma=>kernel_rfl) Tryz.func4 zWo
  (of_decide_eq_true (by kernel_rfl)) (by unfold Func.isWrapper;first | (rw [if_pos (by decide +kernel)];kernel_rfl) | (rw [if_neg (by decide +kernel)];exact ⟨rfl,rfl⟩))
  (λos started H enc _=>zYh hok os started H enc)
theorem plain (f:FuncId) (fn:Func) (hf:Tryz.pinned.checked.prog.funcNamed "sealwright/sealwrightlaw37.AppraiseVerdict" = some f) (hfn:Tryz.pinned.checked.prog.funcs[f]? = some fn) :
  true=Tryz.pinned.checked.prog.looks []/\∀ (j:Nat) t,fn.params[j]? = some t->Tryz.pinned.checked.prog.wantsStandIn t=false:=by
 obtain rfl:f=4:=Q7 ((show Tryz.prog.funcNamed "sealwright/sealwrightlaw37.AppraiseVerdict" = some 4 by kernel_rfl).symm.trans hf) |>.symm;obtain rfl:fn=Tryz.f4:=(Q7 (Tryz.func4.symm.trans hfn)).symm;refine ⟨by kernel_rfl,λj t ht=>?_⟩;rw [Tryz.params4] at ht;have hm:t∈[22,22,22,22,3,3,3]:=by simpa using Array.mem_of_getElem? ht
 have hall:([22,22,22,22,3,3,3].all λu=>!Tryz.prog.wantsStandIn u)=true:=by kernel_rfl
 have:=List.all_eq_true.1 hall t hm;show Tryz.prog.wantsStandIn t=false;simpa using this
theorem card (hok:OkA):Rows.AppraiseVerdictCardSaid:=
 Claim7.holds_tied_plain_at .later [] _ _ _ _ (said hok) (λ_ h=>by cases h) (by kernel_rfl) (λ_ h=>by cases h) appraiseVerdict_row_tie rfl ⟨rfl,rfl⟩ (by kernel_rfl) rfl plain (by kernel_rfl)
end Go.Proofs.TQ
