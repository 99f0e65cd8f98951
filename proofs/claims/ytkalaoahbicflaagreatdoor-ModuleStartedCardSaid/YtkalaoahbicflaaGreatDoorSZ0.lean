/- ModuleStarted holds for all inputs -/
import Derived.Calls
import Derived.Orders
import Derived.KernelRfl
import Derived.ArgAppend
import Derived.Laws.MakeOwn
import Derived.WalkKit
import Derived.LoopN
set_option linter.all false
open List renaming range -> Q0, all_eq_true -> Q3, mem_append -> Q4, mem_range -> Q7, mem_cons -> Q9, mem_cons_of_mem -> Qe, filterMap_cons -> Qg, foldl_cons -> Qh, mem_filter -> Qi, length_eq_zero_iff -> Qk, mem_map -> Qo, eq_nil_iff_forall_not_mem -> Qq, length_cons -> Qs, range_succ_eq_map -> Qv, filterMap_append -> Qy, mem_of_getElem? -> Qz, mem_cons_self -> W0, filter_append -> W1, filter_congr -> W4, filter_cons -> W5, range_succ -> W7, map_cons -> Wa
open Option renaming map_eq_some_iff -> Q1, isSome_iff_exists -> Q2
open Bool renaming and_eq_true -> Q5, eq_false_iff -> Ql, or_eq_true -> Qp, not_eq_true' -> W3, not_true -> Wb
open Go.Region renaming binds -> Q6, before -> Qd, wanted -> Wc
open Nat renaming add_assoc -> Q8, beq -> Qf, eq_of_beq_eq_true -> Qn, sub_self -> Qu, zero_le -> Qw, add_zero -> W2, blt -> W9
open BitVec renaming ofInt -> Qa
open Go.Instr renaming sliceBounds -> Qb, sureAddr -> Qc, indexAt -> Qm, sliceAt -> Qr, loadAt -> Qt, slice -> Qx, sliceBound -> W6, fieldAt -> Wd
open Array renaming foldl_toList -> Qj, replicate -> W8
namespace Go.Sw
open Go
variable {A:TypeId}{D:Nat->Option Nat}{F:TypeId}{P:Program}{T:TypeId}{a:Act}{af:Array Edge}{b:Int}{c:Operand}{d:Nat}{e:TypeId}{f:Nat}{fs:List (TypeId×Nat)}{h:TypeId}{id:Nat}{k:IntKind}{n:Nat}{o:Oper}{off:Nat}{ops:Array Oper}{pos:String}{r:List Oper}{t t0:TypeId}{tip:Nat->Value}{tx ty tyy:TypeId}{w:World}{x y:Operand}{α:Type}{κ:Nat->Option Nat}
abbrev By:=List UInt8
inductive PV where
 | bool (b:Bool)
 | int (k:IntKind) (n:Int)
 | str (s:By)
 | bytes (l:By)
 | sl (w:Nat) (l:List PV)
 | agg (l:List PV)
 | tup (l:List PV)
 | cptr (p:PV)
 | nilp
 | fn (f:FuncId) (first caps:List PV)
 | box (l:List PV)
 | err (nonNil:Bool)
 deriving Inhabited
variable {l:List PV}{p q:PV}
def PV.cells:PV->List PV
 | .agg l=>l
 | p=>[p]
theorem pq {β:Type} {a c:α} {b d:β} (h:(a,b)=(c,d)):a=c/\b=d:=Prod.mk.inj h
def sE:List Int:=[1,0,0,1,0,2,0,0,1,0,4,0,0,0,0,5,0,0,2,0,6,0,0,1,2,7,0,0,1,1,8,0,0,1,0,9,1,1,3,3,10,1,1,3,3,11,1,1,0,2,12,0,0,1,0,13,1,1,0,0,14,1,1,0,1,15,1,1,2,1,16,0,0,1,0,17,0,0,6,(-1),18,1,1,2,1,19,0,0,1,3,20,0,0,1,0,21,1,1,4,2,22,1,1,1,0,23,2,1,1,1,24,2,1,2,0,25,2,1,0,0,26,2,1,0,1,27,2,1,0,1,28,2,1,0,0,29,2,1,0,0,30,1,1,0,1,31,1,1,0,0,32,1,1,0,0,33,1,1,3,0]
def zFo:PV:=.agg (sE.map (PV.int .i64))
def wQ:By:=[83,87]
def zFl:PV:=.agg (wQ.map λx=>PV.int .u8 x.toNat)
def wF:List Int:=[1116352408,1899447441,3049323471,3921009573,961987163,1508970993,2453635748,2870763221,3624381080,310598401,607225278,1426881987,1925078388,2162078206,2614888103,3248222580,3835390401,4022224774,264347078,604807628,770255983,1249150122,1555081692,1996064986,2554220882,2821834349,2952996808,3210313671,3336571891,3584528711,113926993,338241895,666307205,773529912,1294757372,1396182291,1695183700,1986661051,2177026350,2456956037,2730485921,2820302411,3259730800,3345764771,3516065817,3600352804,4094571909,275423344,430227734,506948616,659060556,883997877,958139571,1322822218,1537002063,1747873779,1955562222,2024104815,2227730452,2361852424,2428436474,2756734187,3204031479,3329325298]
def zDy:PV:=.agg (wF.map (PV.int .u32))
def GL (g:Nat):Option PV:=bif Qf g 0 then some zFo else bif Qf g 1 then some zFl else bif Qf g 2 then some zDy else none
abbrev Mem:=Nat->Nat->Option Value
variable {M M':Mem}
def oS (M:Mem) (b o:Nat):Value:=(M b o).getD undef
def Mem.le (M M':Mem):Prop:=∀ b o x,M b o=some x->M' b o=some x
inductive Rep (M:Mem):PV->Value->Prop where
 | bool (b:Bool):Rep M (.bool b) (.bool b)
 | int (k:IntKind) (n:Int):Rep M (.int k n) (.int k n)
 | str (s:By):Rep M (.str s) (.string ⟨s.toArray⟩)
 | bytes0:Rep M (.bytes []) (.slice none 0 0)
 | bytesE (a:Addr):Rep M (.bytes []) (.slice (some a) 0 0)
 | bytes (l:By) (b o n c:Nat):n=l.length->n<=c ->
   (∀ (i:Nat) (x:UInt8),l[i]? = some x->M b (o+i)=some (.int .u8 x.toNat))->Rep M (.bytes l) (.slice (some ⟨b,o,none⟩) n c)
 | sl0 (w:Nat):Rep M (.sl w []) (.slice none 0 0)
 | slE (a:Addr):Rep M (.sl 4 []) (.slice (some a) 0 0)
 | sl (w:Nat) (l:List PV) (b o n c:Nat):n=l.length->n<=c ->
   (∀ (i:Nat) (p:PV),l[i]? = some p->p.cells.length=w) ->
   (∀ (i:Nat) (p:PV) (j:Nat) (q:PV),l[i]? = some p->p.cells[j]? = some q->(M b (o+(i*w+j))).isSome=true) ->
   (∀ (i:Nat) (p:PV) (j:Nat) (q:PV),l[i]? = some p->p.cells[j]? = some q->Rep M q (oS M b (o+(i*w+j)))) ->
   Rep M (.sl w l) (.slice (some ⟨b,o,none⟩) n c)
 | agg (l:List PV) (vs:Array Value):vs.size=l.length->(∀ (j:Nat) (q:PV),l[j]? = some q->Rep M q (vs.getD j undef))->Rep M (.agg l) (.agg vs)
 | tup (l:List PV) (vs:Array Value):vs.size=l.length->(∀ (j:Nat) (q:PV),l[j]? = some q->Rep M q (vs.getD j undef))->Rep M (.tup l) (.tuple vs)
 | cptr (p:PV) (b o:Nat):(∀ (j:Nat) (q:PV),p.cells[j]? = some q->(M b (o+j)).isSome=true) ->
   (∀ (j:Nat) (q:PV),p.cells[j]? = some q->Rep M q (oS M b (o+j)))->Rep M (.cptr p) (.pointer (some ⟨b,o,none⟩))
 | nilp:Rep M .nilp (.pointer none)
 | fn (f:FuncId) (fs cs:List PV) (vf vc:Array Value):vf.size=fs.length->vc.size=cs.length ->
   (∀ (j:Nat) (q:PV),fs[j]? = some q->Rep M q (vf.getD j undef))->(∀ (j:Nat) (q:PV),cs[j]? = some q->Rep M q (vc.getD j undef)) ->
   Rep M (.fn f fs cs) (.func (.func f) vf vc)
 | err0:Rep M (.err false) .nilIface
 | err1 (t:TypeId) (v:Value):Rep M (.err true) (.iface t v)
theorem zQ8 (h:M.le M') {b o:Nat} (A:(M b o).isSome=true):oS M' b o=oS M b o:=by
 obtain ⟨x,y⟩:=Q2.1 A;simp [oS,y,h b o x y]
theorem zQj (h:M.le M') {b o:Nat} (A:(M b o).isSome=true):(M' b o).isSome=true:=by
 obtain ⟨x,y⟩:=Q2.1 A;simp [h b o x y]
theorem Mem.le_refl (M:Mem):M.le M:=λ_ _ _ h=>h
theorem Mem.le.trans' {A B C:Mem} (h:A.le B) (k:B.le C):A.le C:=λb o x e=>k b o x (h b o x e)
theorem Rep.mono (h:M.le M') {v:Value} (hr:Rep M p v):Rep M' p v:=by
 induction hr with
 | bool b=>exact .bool b
 | int k n=>exact .int k n
 | str s=>exact .str s
 | bytes0=>exact .bytes0
 | bytesE a=>exact .bytesE a
 | bytes l b o n c d J Y=>exact .bytes l b o n c d J λi x hx=>h _ _ _ (Y i x hx)
 | sl0 w=>exact .sl0 w
 | slE a=>exact .slE a
 | sl w l b o n c d J Y h4 _ E=>
  exact .sl w l b o n c d J Y (λi p j q L y=>zQj h (h4 i p j q L y))
   (λi p j q L y=>by rw [zQ8 h (h4 i p j q L y)];simp_all)
 | agg l W d _ E=>exact .agg l W d E
 | tup l W d _ E=>exact .tup l W d E
 | cptr p b o d _ E=>exact .cptr p b o (λj q y=>zQj h (d j q y)) (λj q y=>by rw [zQ8 h (d j q y)];simp_all)
 | nilp=>exact .nilp
 | fn f fs cs vf vc d J _ _ i1 i2=>exact .fn f fs cs vf vc d J i1 i2
 | err0=>exact .err0
 | err1 t v=>exact .err1 t v
inductive AV where
 | p (v:PV)
 | nl (c:PV)
 | ptr (k o:Nat)
 | ref (k o n:Nat)
 | buf (k n:Nat)
 | ag (l:List AV)
 | tu (l:List AV)
 | fnv (f:FuncId) (l:List AV)
 | own (k n:Nat)
 | optr (k n o:Nat)
 | osl (k n o m:Nat)
 deriving Inhabited
variable {v:AV}
abbrev LV:=List (Nat×AV)
inductive zN where
 | var (l:List AV)
 | buf (c:PV)
 | own (w:Nat) (l:List AV)
 deriving Inhabited
abbrev NB:=Nat->Option zN
variable {B:NB}
abbrev LB:=List (Nat×zN)
variable {bs:LB}
structure AS where
 env:Nat->Option AV
 blk:NB
variable {Q:Exit->AS->Prop}{s s':AS}
def AS.put (s:AS) (d:Nat) (v:AV):AS:={ s with env:=λt=>bif Qf t d then some v else s.env t }
def AS.setb (s:AS) (k:Nat) (b:zN):AS:={ s with blk:=λt=>bif Qf t k then some b else s.blk t }
def PV.len:PV->Nat
 | .bytes l=>l.length
 | .sl _ l=>l.length
 | _=>0
def PV.take:PV->Nat->PV
 | .bytes l,n=>.bytes (l.take n)
 | .sl w l,n=>.sl w (l.take n)
 | p,_=>p
def PV.width:PV->Nat
 | .sl w _=>w
 | _=>1
def PV.isSlice:PV->Bool
 | .bytes _ | .sl _ _=>true
 | _=>false
def PV.nilOf:PV->Bool
 | .bytes [] | .sl _ []=>true
 | _=>false
def mkF (f:FuncId) (vs:Array Value):Value:=bif W9 f 1000000 then .func (.func f) vs #[] else .func (.func (f - 1000000)) #[] vs
section
variable (M:Mem) (κ:Nat->Option Nat) (tip:Nat->Value) (B:NB)
inductive RepA:AV->Value->Prop where
 | p (v:PV) (x:Value):Rep M v x->RepA (.p v) x
 | nl (c:PV):c.nilOf=true->RepA (.nl c) (.slice none 0 0)
 | ptr (k o b:Nat) (l:List AV):κ k=some b->B k=some (.var l)->RepA (.ptr k o) (.pointer (some ⟨b,o,none⟩))
 | ref (k o n b:Nat) (l:List AV):κ k=some b->B k=some (.var l)->RepA (.ref k o n) (.slice (some ⟨b,o,none⟩) n n)
 | buf (k n:Nat) (c:PV) (x:Value):B k=some (.buf c)->c.isSlice=true->n<=c.len->Rep M (c.take n) x->(n=c.len->x=tip k)->RepA (.buf k n) x
 | ag (l:List AV) (vs:Array Value):vs.size=l.length->(∀ (j:Nat) (q:AV),l[j]? = some q->RepA q (vs.getD j undef))->RepA (.ag l) (.agg vs)
 | tu (l:List AV) (vs:Array Value):vs.size=l.length->(∀ (j:Nat) (q:AV),l[j]? = some q->RepA q (vs.getD j undef))->RepA (.tu l) (.tuple vs)
 | fnv (f:FuncId) (l:List AV) (vs:Array Value):vs.size=l.length->(∀ (j:Nat) (q:AV),l[j]? = some q->RepA q (vs.getD j undef))->RepA (.fnv f l) (mkF f vs)
 | own (k n w:Nat) (l:List AV) (x:Value):B k=some (.own w l)->n*w<=l.length->(n*w=l.length->x=tip k)->(∃ a m c,x=.slice a m c)->RepA (.own k n) x
 | optr (k n o w:Nat) (l:List AV) (x:Value):B k=some (.own w l)->n*w<=l.length->(n*w=l.length->∃ b,κ k=some b/\x=.pointer (some ⟨b,o,none⟩))->(∃ a,x=.pointer a)->RepA (.optr k n o) x
 | osl (k n o m w:Nat) (l:List AV) (x:Value):B k=some (.own w l)->n*w<=l.length->(n*w=l.length->∃ b c,κ k=some b/\x=.slice (some ⟨b,o,none⟩) m c/\m<=c)->(∃ a m c,x=.slice a m c)->RepA (.osl k n o m) x
end
def zD3 (fz:Nat×Nat) (n:Nat):Prop:=fz.1=fz.2∨n<=fz.1
def BIG:Nat:=1000000000
structure PKs where
 l:List (Nat×Nat)
 ob:List Nat
 nk:∀ e∈l,e.1<BIG
instance:Membership (Nat×Nat) PKs:=⟨λp e=>e∈p.l⟩
def zXd:PKs:=⟨[],[],λ_ h=>by cases h⟩
@[simp] theorem yM4 {p:PKs} {e:Nat×Nat}:e∈p↔e∈p.l:=Iff.rfl
@[simp] theorem noPK_l:zXd.l=[]:=rfl
@[simp] theorem yM3:zXd.ob=[]:=rfl
structure Ctx where
 w0:World
 M0:Mem
 pk:PKs
 nt:Nat
 df:List Deferred
variable {cx:Ctx}
def Ctx.pb (cx:Ctx):List Nat:=cx.pk.l.map (·.2)
abbrev Ctx.ob (cx:Ctx):List Nat:=cx.pk.ob
structure yIh (cx:Ctx) (w:World):Prop where
 os:w.os=cx.w0.os
 tape:w.tape=cx.w0.tape
 output:w.output=cx.w0.output
 size:cx.w0.heap.size<=w.heap.size
 block:∀ b,b<cx.w0.heap.size->b∉cx.pb->b∉cx.ob->w.heap[b]? = cx.w0.heap[b]?
def yL6 (w:World):Prop:=∀ g p,GL g=some p->0<p.cells.length/\∃ arr e fz,w.heap[g]? = some (.cells arr e fz)/\arr.size=p.cells.length
def GlobOk (w:World) (M:Mem):Prop:=(∀ g p,GL g=some p->Rep M (.cptr p) (.pointer (some ⟨g,0,none⟩)))/\yL6 w
theorem GlobOk.mono (h:M.le M') (v:GlobOk w M):GlobOk w M':=⟨λg p e=>(v.1 g p e).mono h,v.2⟩
def zJ2 (cx:Ctx) (M:Mem) (κ:Nat->Option Nat) (tip:Nat->Value) (B:NB) (w:World):Prop:=
 ∀ k wd l,B k=some (.own wd l)->(wd=0/\κ k=none/\l=[.p (.tup [])])∨0<wd/\((tip k=.slice none 0 0/\κ k=none/\l=[])∨∃ b n cap arr e fz,tip k=.slice (some ⟨b,0,none⟩) n cap/\κ k=some b/\(cx.w0.heap.size<=b∨b∈cx.ob/\BIG<=k) /\
  w.heap[b]? = some (.cells arr e fz)/\zD3 fz arr.size/\n*wd=l.length/\cap*wd<=arr.size/\n<=cap/\cap<=maxLen/\(∀ (j:Nat) (q:AV),l[j]? = some q->RepA M κ tip B q (arr.getD j undef))/\∀ o,M b o=none)
structure Inv (cx:Ctx) (M:Mem) (κ:Nat->Option Nat) (tip:Nat->Value) (s:AS) (a:Act) (w:World):Prop where
 defers:a.defers=cx.df
 size:a.tmps.size=cx.nt
 fr:yIh cx w
 mem:∀ b o x,M b o=some x->w.cell? ⟨b,o,none⟩=some x
 env:∀ t v,s.env t=some v->∃ x,a.tmps[t]? = some x/\RepA M κ tip s.blk v x
 vars:∀ k l,s.blk k=some (.var l)->∃ b arr e fz,κ k=some b/\w.heap[b]? = some (.cells arr e fz)/\zD3 fz arr.size /\
  arr.size=l.length/\(∀ (j:Nat) (q:AV),l[j]? = some q->RepA M κ tip s.blk q (arr.getD j undef))/\(∀ o,M b o=none)/\(cx.w0.heap.size<=b∨b∈cx.pb)
 bufs:∀ k c,s.blk k=some (.buf c)->Rep M c (tip k)/\c.isSlice=true/\0<c.width /\
  ((tip k=.slice none 0 0/\κ k=none)∨∃ b n cap arr e fz,tip k=.slice (some ⟨b,0,none⟩) n cap/\κ k=some b/\cx.w0.heap.size<=b /\
   w.heap[b]? = some (.cells arr e fz)/\zD3 fz arr.size/\cap*c.width<=arr.size/\cap<=maxLen/\∀ j,n*c.width<=j->M b j=none)
 inj:∀ k k' b,κ k=some b->κ k'=some b->k=k'
 dom:∀ k,s.blk k=none->κ k=none
 old:(∀ b o,b<cx.w0.heap.size->M b o=cx.M0 b o)/\∀ b∈cx.ob,b<cx.w0.heap.size/\∀ o,cx.M0 b o=none
 glob:GlobOk cx.w0 M
 owns:zJ2 cx M κ tip s.blk w
theorem Inv.globw {W:Nat->Option Nat} (y:Inv cx M W tip s a w) (Y:∀ k∈cx.pk,W k.1=some k.2/\k.2<cx.w0.heap.size):GlobOk w M:=by
 refine ⟨y.glob.1,λg p L=>?_⟩;obtain ⟨N,S,e,fz,V,h2⟩:=y.glob.2 g p L;have F:g<cx.w0.heap.size:=(Array.getElem?_eq_some_iff.1 V).1;refine ⟨N,S,e,fz,?_,h2⟩;rw [y.fr.block g F ?_ (λK=>by
  have D:(M g 0).isSome=true:=by
   cases y.glob.1 g p L with
   | cptr _ _ _ v T=>exact v 0 _ (List.getElem?_eq_getElem N)
  rw [y.old.1 g 0 F,(y.old.2 g K).2 0] at D;cases D)]
 ·exact V
 intro K;obtain ⟨k,Z,rfl⟩:=Qo.1 K;obtain ⟨d,_⟩:=Y k Z;have D:(M k.2 0).isSome=true:=by
  cases y.glob.1 k.2 p L with
  | cptr _ _ _ v T=>exact v 0 _ (List.getElem?_eq_getElem N)
 cases J:s.blk k.1 with
 | none=>rw [y.dom _ J] at d;cases d
 | some bl=>
  cases bl with
  | var l=>
   obtain ⟨b,_,_,_,v,_,_,_,_,h8,_⟩:=y.vars _ l J;rw [d] at v;cases v;rw [h8 0] at D;cases D
  | buf c=>
   obtain ⟨_,_,_,h | ⟨b,_,_,_,_,_,_,v,T,_⟩⟩:=y.bufs _ c J
   ·rw [d] at h;cases h.2
   ·rw [d] at v;cases v;omega
  | own wd l=>
   rcases y.owns _ wd l J with ⟨_,h,_⟩ | ⟨_,h | ⟨b,_,_,_,_,_,_,v,_,_,_,_,_,_,_,_,h5⟩⟩
   ·rw [d] at h;cases h
   ·rw [d] at h;cases h.2.1
   simp_all
def SRel (cx:Ctx) (s:AS) (a:Act) (w:World):Prop:=∃ M κ tip,cx.M0.le M/\(∀ k∈cx.pk,κ k.1=some k.2/\k.2<cx.w0.heap.size)/\Inv cx M κ tip s a w
theorem RepA.mono {T:Nat->Option Nat} (h:M.le M') {x:Value}
  (Z:RepA M T tip B v x):RepA M' T tip B v x:=by
 induction Z with
 | p v x d=>exact .p v x (d.mono h)
 | nl c d=>exact .nl c d
 | ptr k o b l d y=>exact .ptr k o b l d y
 | ref k o n b l d y=>exact .ref k o n b l d y
 | buf k n c x d V y A D=>exact .buf k n c x d V y (A.mono h) D
 | ag l F d _ G=>exact .ag l F d G
 | tu l F d _ G=>exact .tu l F d G
 | fnv f l F d _ G=>exact .fnv f l F d G
 | own k n w l x d y A D=>exact .own k n w l x d y A D
 | optr k n o w l x d y A D=>exact .optr k n o w l x d y A D
 | osl k n o m w l x d y A D=>exact .osl k n o m w l x d y A D
structure GLe (κ κ':Nat->Option Nat) (tip tip':Nat->Value) (B B':NB):Prop where
 var:∀ k b l,κ k=some b->B k=some (.var l)->κ' k=some b/\∃ l',B' k=some (.var l')
 buf:∀ k c,B k=some (.buf c)->∃ c',B' k=some (.buf c')/\(c.isSlice=true->c'.isSlice=true)/\c.len<=c'.len/\(∀ n,n<=c.len->c'.take n=c.take n)/\(c'.len=c.len->tip' k=tip k)
 own:∀ k w l,B k=some (.own w l)->∃ w' l',B' k=some (.own w' l')/\((w'=w/\l.length<=l'.length/\(l'.length=l.length->κ' k=κ k/\tip' k=tip k))∨(w'=0/\l'≠[]))
theorem RepA.ghost {S:Nat->Option Nat} {K:Nat->Value} {B':NB} (h:GLe κ S tip K B B') {x:Value}
  (hr:RepA M κ tip B v x):RepA M S K B' v x:=by
 induction hr with
 | p v x d=>exact .p v x d
 | nl c d=>exact .nl c d
 | ptr k o b l d I=>obtain ⟨F,l',E⟩:=h.var k b l d I;exact .ptr k o b l' F E
 | ref k o n b l d I=>obtain ⟨E,l',N⟩:=h.var k b l d I;exact .ref k o n b l' E N
 | buf k n c x d A I F E=>
  obtain ⟨c',D,y,L,g4,g5⟩:=h.buf k c d;refine .buf k n c' x D (y A) (by omega) (by rw [g4 n I];exact F) (λe=>?_);rw [E (by omega),g5 (by omega)]
 | ag l V d _ T=>exact .ag l V d T
 | tu l V d _ T=>exact .tu l V d T
 | fnv f l V d _ T=>exact .fnv f l V d T
 | own k n w l x d I F A=>
  obtain ⟨w',l',D,⟨rfl,y,L⟩ | ⟨rfl,y⟩⟩:=h.own k w l d
  ·exact .own k n _ l' x D (by omega) (λe=>by rw [F (by omega),(L (by omega)).2]) A
  ·exact .own k n 0 l' x D (by omega) (λe=>(y (Qk.1 (by omega))).elim) A
 | optr k n o w l x d I F A=>
  obtain ⟨w',l',D,⟨rfl,y,L⟩ | ⟨rfl,y⟩⟩:=h.own k w l d
  ·exact .optr k n o _ l' x D (by omega) (λe=>by
    obtain ⟨b,E,N⟩:=F (by omega);exact ⟨b,by rw [(L (by omega)).1];exact E,N⟩) A
  ·exact .optr k n o 0 l' x D (by omega) (λe=>(y (Qk.1 (by omega))).elim) A
 | osl k n o m w l x d I F A=>
  obtain ⟨w',l',D,⟨rfl,y,L⟩ | ⟨rfl,y⟩⟩:=h.own k w l d
  ·exact .osl k n o m _ l' x D (by omega) (λe=>by
    obtain ⟨b,c,E,N⟩:=F (by omega);exact ⟨b,c,by rw [(L (by omega)).1];exact E,N⟩) A
  ·exact .osl k n o m 0 l' x D (by omega) (λe=>(y (Qk.1 (by omega))).elim) A
theorem GLe.same {D:NB} {d:Nat->Value} {k:Nat} {c:PV} (F:D k=some (.buf c)) (E:d k=tip k) :
  ∃ y,D k=some (.buf y)/\(c.isSlice=true->y.isSlice=true)/\c.len<=y.len/\(∀ n,n<=c.len->y.take n=c.take n)/\(y.len=c.len->d k=tip k):=by simp_all
theorem GLe.sameO {D:NB} {A v:Nat->Option Nat} {d:Nat->Value} {k w:Nat} {l:List AV} (F:D k=some (.own w l)) (I:v k=A k) (E:d k=tip k) :
  ∃ w' l',D k=some (.own w' l')/\((w'=w/\l.length<=l'.length/\(l'.length=l.length->v k=A k/\d k=tip k))∨(w'=0/\l'≠[])):=⟨w,l,F,.inl ⟨rfl,Nat.le_refl _,λ_=>⟨I,E⟩⟩⟩
theorem zJ2.live (h:zJ2 cx M D tip B w) {k wd:Nat} {l:List AV} (L:B k=some (.own wd l)) (J:n*wd=l.length) :
  0<wd/\((tip k=.slice none 0 0/\D k=none/\l=[])∨∃ b n cap y e F,tip k=.slice (some ⟨b,0,none⟩) n cap/\D k=some b/\(cx.w0.heap.size<=b∨b∈cx.ob/\BIG<=k) /\
  w.heap[b]? = some (.cells y e F)/\zD3 F y.size/\n*wd=l.length/\cap*wd<=y.size/\n<=cap/\cap<=maxLen/\(∀ (j:Nat) (q:AV),l[j]? = some q->RepA M D tip B q (y.getD j undef))/\∀ o,M b o=none):=by
 rcases h k wd l L with ⟨I,_,G⟩ | h
 ·simp_all
 omega
theorem zJ2.keep {y:Nat->Option Nat} {v:Nat->Value} {J:NB} {w':World} (h:zJ2 cx M D tip B w)
  (hk:∀ k wd l,J k=some (.own wd l)->B k=some (.own wd l)/\y k=D k/\v k=tip k/\(∀ b,D k=some b->w'.heap[b]? = w.heap[b]? /\ ∀ o,M b o=none->M' b o=none)/\∀ (j:Nat) (q:AV) (x:Value),l[j]? = some q->RepA M D tip B q x->RepA M' y v J q x) :
  zJ2 cx M' y v J w':=by
 intro k wd l hb;obtain ⟨h1,S,Y,Z,h5⟩:=hk k wd l hb;rcases h k wd l h1 with ⟨U,K,N⟩ | ⟨U,K⟩
 ·simp_all
 refine .inr ⟨U,?_⟩;rcases K with ⟨N,g4,g5⟩ | ⟨b,n,cap,T,e,fz,q1,G,q3,q4,q5,q6,q7,q8,q9,I,L⟩
 ·simp_all
 ·exact .inr ⟨b,n,cap,T,e,fz,by rw [Y];exact q1,by rw [S];exact G,q3,by rw [(Z b G).1];exact q4,q5,q6,q7,q8,q9,λj q W=>h5 j q _ W (I j q W),λo=>(Z b G).2 o (L o)⟩
def lk:List (Nat×α)->Nat->Option α
 | [],_=>none
 | (k,v) :: r,t=>bif Qf t k then some v else lk r t
theorem zGx {D:Type}:∀ (l:List (Nat×D)) (t:Nat),t∉l.map (·.1)->lk l t=none
 | [],_,_=>rfl
 | (k,v) :: r,t,h=>by
  simp only [Wa,Q9,not_or] at h;have:Qf t k=false:=by rw [Ql];simp_all
  simp only [lk,this];exact zGx r t h.2
structure Mic where
 slots:LV
 blks:LB
 fresh:List Nat
 out:Option (Nat×Option AV)
 wr:LB
variable {m:Mic}{ms:List Mic}
def Mic.holds (m:Mic) (s:AS):Prop:=
 (∀ e∈m.slots,s.env e.1=some e.2)/\(∀ e∈m.blks,s.blk e.1=some e.2)/\(∀ k∈m.fresh,s.blk k=none)
def zIb (o:Option (Nat×Option AV)) (env:Nat->Option AV):Nat->Option AV:=
 match o with
 | none=>env
 | some (d,v)=>λt=>bif Qf t d then v else env t
def Mic.upd (m:Mic) (s:AS):AS:={ env:=zIb m.out s.env,blk:=λk=>(lk m.wr k).or (s.blk k) }
def Mic.ws (m:Mic):List Nat:=match m.out with | none=>[] | some (d,_)=>[d]
def bY (l r:List Nat):Bool:=l.all λx=>r.all λy=>!Nat.beq x y
theorem eD {l r:List Nat} (h:bY l r=true) {x:Nat} (v:x∈l) (y:x∈r):False:=by
 simp only [bY,Q3] at h;have:=h x v x y;simp_all
def zJo:List (Nat×α)->List Nat
 | []=>[]
 | (k,_) :: r=>k :: zJo r
theorem zK6 {h:Type}:∀ (l:List (Nat×h)),zJo l=l.map (·.1)
 | []=>rfl
 | (_,_) :: r=>by simp [zJo,zK6 r]
def Mic.indep (m n:Mic):Bool:=
 bY m.ws (zJo n.slots++n.ws)&&bY n.ws (zJo m.slots) &&
 bY (zJo m.wr) (zJo n.blks++n.fresh++zJo n.wr)&&bY (zJo n.wr) (zJo m.blks++m.fresh)
theorem zLt {o:Option (Nat×Option AV)} {env:Nat->Option AV} {t:Nat} (h:∀ d v,o=some (d,v)->t≠d):zIb o env t=env t:=by
 cases o with
 | none=>rfl
 | some e=>
  obtain ⟨d,v⟩:=e;have:Qf t d=false:=by rw [Ql];simp_all
  simp [zIb,this]
theorem Mic.upd_env {t:Nat} (h:t∉m.ws):(m.upd s).env t=s.env t:=by
 refine zLt (λd v e=>?_);intro y;exact h (by simp [Mic.ws,e,y])
theorem Mic.upd_blk {k:Nat} (h:k∉m.wr.map (·.1)):(m.upd s).blk k=s.blk k:=by
 simp [Mic.upd,zGx _ _ h]
theorem Mic.holds_iff {n:Mic} (h:m.indep n=true) (s:AS):n.holds (m.upd s)↔n.holds s:=by
 simp only [Mic.indep,zK6,Q5] at h;obtain ⟨⟨⟨K,L⟩,D⟩,N⟩:=h;have G:∀ e∈n.slots,(m.upd s).env e.1=s.env e.1:=λe d=>
  Mic.upd_env λA=>eD K A (Q4.2 (.inl (Qo.2 ⟨e,d,rfl⟩)))
 have F:∀ e∈n.blks,(m.upd s).blk e.1=s.blk e.1:=λe d=>
  Mic.upd_blk λA=>eD D A (Q4.2 (.inl (Q4.2 (.inl (Qo.2 ⟨e,d,rfl⟩)))))
 have E:∀ k∈n.fresh,(m.upd s).blk k=s.blk k:=λk v=>
  Mic.upd_blk λA=>eD D A (Q4.2 (.inl (Q4.2 (.inr v))))
 constructor
 ·rintro ⟨a,b,c⟩;exact ⟨λe d=>by rw [<- G e d];exact a e d,λe d=>by rw [<- F e d];exact b e d,λk v=>by rw [<- E k v];exact c k v⟩
 ·rintro ⟨a,b,c⟩;exact ⟨λe d=>by rw [G e d];exact a e d,λe d=>by rw [F e d];exact b e d,λk v=>by simp_all⟩
theorem Mic.indep_comm {n:Mic} (h:m.indep n=true):n.indep m=true:=by
 have flip:∀ {l r:List Nat},bY l r=true->bY r l=true:=by
  intro l r h;simp only [bY,Q3,W3] at *;intro x A y E;have:=h y E x A;rw [Ql] at this ⊢;intro e;exact this (by simp_all)
 have D:∀ {l r t:List Nat},bY l (r++t)=true↔bY l r=true/\bY l t=true:=by
  simp only [bY,List.all_append,Q3,Q5];exact ⟨λh=>⟨λx A=>(h x A).1,λx A=>(h x A).2⟩,λh x A=>⟨h.1 x A,h.2 x A⟩⟩
 simp only [Mic.indep,Q5] at *;simp_all
theorem Mic.upd_comm {n:Mic} (h:m.indep n=true) (s:AS):n.upd (m.upd s)=m.upd (n.upd s):=by
 simp only [Mic.indep,zK6,Q5] at h;obtain ⟨⟨⟨E,_⟩,K⟩,_⟩:=h;have L:∀ t,t∈m.ws->t∈n.ws->False:=λt a b=>eD E a (Q4.2 (.inr b));have I:∀ t,t∈m.wr.map (·.1)->t∈n.wr.map (·.1)->False:=λt a b=>eD K a (Q4.2 (.inr b));have N:(n.upd (m.upd s)).env=(m.upd (n.upd s)).env:=by
  funext t;by_cases a:t∈n.ws
  ·have b:t∉m.ws:=λb=>L t b a;rw [Mic.upd_env (m:=m) b];cases y:n.out with
   | none=>simp [Mic.ws,y] at a
   | some e=>
    obtain ⟨d,v⟩:=e;simp [Mic.ws,y] at a;subst a;simp [Mic.upd,zIb,y]
  ·rw [Mic.upd_env (m:=n) a];by_cases b:t∈m.ws
   ·cases y:m.out with
    | none=>simp [Mic.ws,y] at b
    | some e=>
     obtain ⟨d,v⟩:=e;simp [Mic.ws,y] at b;subst b;simp [Mic.upd,zIb,y]
   ·rw [Mic.upd_env (m:=m) b,Mic.upd_env (m:=m) b,Mic.upd_env (m:=n) a]
 have J:(n.upd (m.upd s)).blk=(m.upd (n.upd s)).blk:=by
  funext t;by_cases a:t∈n.wr.map (·.1)
  ·have b:t∉m.wr.map (·.1):=λb=>I t b a;rw [Mic.upd_blk (m:=m) b];simp only [Mic.upd];rw [zGx _ _ b];simp
  ·rw [Mic.upd_blk (m:=n) a];simp only [Mic.upd,zGx _ _ a];simp
 cases E:n.upd (m.upd s);cases S:m.upd (n.upd s);rw [E,S] at N J;simp_all
inductive mU:List Mic->AS->AS->Prop where
 | nil (s:AS):mU [] s s
 | cons (m:Mic) (r:List Mic) (s s':AS):m.holds s->mU r (m.upd s) s'->mU (m :: r) s s'
theorem mU.front:∀ (A:List Mic) (m:Mic) (y:List Mic) (s s':AS),(∀ n∈A,n.indep m=true)->mU (A++m :: y) s s'->m.holds s/\mU (A++y) (m.upd s) s'
 | [],m,y,s,s',_,h=>by
  cases h with
  | cons _ _ _ _ E D=>simp_all
 | n :: A,m,y,s,s',G,h=>by
  cases h with
  | cons _ _ _ _ E D=>
   obtain ⟨a,b⟩:=mU.front A m y _ s' (λx I=>G x (by simp [I])) D;have v:=G n (by simp);refine ⟨(Mic.holds_iff v s).1 a,.cons n _ _ _ ((Mic.holds_iff (Mic.indep_comm v) s).2 E) ?_⟩;rw [<- Mic.upd_comm v];exact b
def yI8 (P:Program) (ops:Array Oper) (i:Nat) (m:Mic):Prop:=
 ∀ (cx:Ctx) (s:AS) (a:Act) (w:World) (K:Act->World->Prop) (Q:Exit->Act->World->Prop),m.holds s->SRel cx s a w ->
  (∀ d∈m.ws,d<cx.nt)->(∀ a' w',SRel cx (m.upd s) a' w'->K a' w')->wpOp P ops Q i K a w
theorem SRel.drew (h:SRel cx s a w):SRel cx s a { w with drawn:=w.drawn+1 }:=by
 obtain ⟨M,v,tip,y,A,h⟩:=h;exact ⟨M,v,tip,y,A,⟨h.defers,h.size,⟨h.fr.os,h.fr.tape,h.fr.output,h.fr.size,h.fr.block⟩,h.mem,h.env,h.vars,h.bufs,h.inj,h.dom,h.old,h.glob,h.owns⟩⟩
def rQ (ops:Array Oper) (ms:List Mic):Bool:=
 (Q0 ops.size).all λi=>(Q0 i).all λj=>
  match ms[j]?,ms[i]? with
  | some n,some m=>((Qd ops).getD i 0).testBit j||n.indep m
  | _,_=>true
def zLw (ops:Array Oper):Bool:=(Q0 ops.size).all λi=>match ops[i]? with | some o=>o.after.all λe=>!Region.binds .any e||W9 e.on i | none=>true
theorem zA9:∀ (l:List Oper) (d:Array Nat),(l.foldl (λd o=>d.push (o.after.foldl (λs e=>if Q6 .any e then s ||| 2 ^ e.on ||| d.getD e.on 0 else s) 0)) d).size=d.size+l.length
 | [],d=>by simp
 | o :: l,d=>by rw [Qh,zA9 l];simp;omega
def lO (acc:Array Nat) (o:Oper):Nat:=o.after.foldl (λs e=>if Q6 .any e then s ||| 2 ^ e.on ||| acc.getD e.on 0 else s) 0
theorem zFn:∀ (l:List Oper) (d:Array Nat) (i:Nat),i<d.size->(l.foldl (λd o=>d.push (lO d o)) d).getD i 0=d.getD i 0
 | [],d,i,_=>rfl
 | o :: l,d,i,h=>by
  rw [Qh,zFn l _ i (by simp;omega)];simp [Array.getElem?_push,Nat.ne_of_lt h]
theorem zTs (ops:Array Oper) (i:Nat) (o:Oper) (Z:ops[i]? = some o) (S:∀ e∈o.after,Q6 .any e=true->e.on<i) :
  (Qd ops).getD i 0=lO (Qd ops) o:=by
 have L:Qd ops=ops.toList.foldl (λv o=>v.push (lO v o)) #[]:=by
  unfold Qd;rw [<- Qj];rfl
 have T:i<ops.toList.length:=by
  have:=(Array.getElem?_eq_some_iff.1 Z).1;simpa using this
 have D:ops.toList=ops.toList.take i++o :: ops.toList.drop (i+1):=by
  have h1:ops.toList[i]=o:=by
   have:=(Array.getElem?_eq_some_iff.1 Z).2;simpa using this
  rw [<- h1,<- List.drop_eq_getElem_cons T,List.take_append_drop]
 rw [L];generalize hF:ops.toList.foldl (λv o=>v.push (lO v o)) #[]=F;have I:F=(ops.toList.drop (i+1)).foldl (λv o=>v.push (lO v o)) (((ops.toList.take i).foldl (λv o=>v.push (lO v o)) #[]).push
   (lO ((ops.toList.take i).foldl (λv o=>v.push (lO v o)) #[]) o)):=by
  rw [<- hF]
  conv=>lhs;rw [D]
  rw [List.foldl_append,Qh]
 generalize hG:(ops.toList.take i).foldl (λv o=>v.push (lO v o)) #[]=G at I;have J:G.size=i:=by
  rw [<- hG];have:=zA9 (ops.toList.take i) #[];simp only [lO] at *;rw [this];simp;have:ops.toList.length=ops.size:=by simp
  omega
 have K:∀ j,j<i->F.getD j 0=G.getD j 0:=by
  intro j hj;rw [I,zFn _ _ j (by simp;omega)];simp [Array.getElem?_push,J,Nat.ne_of_lt hj]
 have hi:F.getD i 0=lO G o:=by
  rw [I,zFn _ _ i (by simp;omega),<- J];simp
 rw [hi];unfold lO;rw [<- Qj,<- Qj];have:∀ (l:List Edge) (s:Nat),(∀ e∈l,Q6 .any e=true->e.on<i)->l.foldl (λs e=>if Q6 .any e then s ||| 2 ^ e.on ||| G.getD e.on 0 else s) s=l.foldl (λs e=>if Q6 .any e then s ||| 2 ^ e.on ||| F.getD e.on 0 else s) s:=by
  intro l;induction l with
  | nil=>intros;rfl
  | cons e l ih=>
   intro s h;simp only [Qh];by_cases L:Q6 .any e=true
   ·rw [K e.on (h e (by simp) L)];exact ih _ (λx N=>h x (by simp [N]))
   ·rw [if_neg L,if_neg L];exact ih _ (λx N=>h x (by simp [N]))
 exact this _ _ (λe he=>S e (by simpa using he))
theorem zM3 (D:Array Nat) (j:Nat):∀ (l:List Edge) (s:Nat),(l.foldl (λs e=>if Q6 .any e then s ||| 2 ^ e.on ||| D.getD e.on 0 else s) s).testBit j=true ->
  s.testBit j=true∨∃ e∈l,Q6 .any e=true/\(e.on=j∨(D.getD e.on 0).testBit j=true)
 | [],s,h=>.inl h
 | e :: l,s,h=>by
  rw [Qh] at h;rcases zM3 D j l _ h with h | ⟨K,I,L,N⟩
  ·split at h
   ·rename_i A;rw [Nat.testBit_or,Nat.testBit_or,Qp,Qp] at h;rcases h with (h | h) | h
    ·exact .inl h
    ·refine .inr ⟨e,by simp,A,.inl ?_⟩;rw [Nat.testBit_two_pow] at h;simpa using h
    simp_all
   simp_all
  ·exact .inr ⟨K,by simp [I],L,N⟩
def zDl (ms:List Mic) (n:Nat) (listed:Array Bool):List Mic:=((Q0 n).filter λi=>!listed.getD i true).filterMap λi=>ms[i]?
theorem zNj {f g:Nat->Option Mic}:∀ (l:List Nat),(∀ j∈l,f j=g j)->l.filterMap f=l.filterMap g
 | [],_=>rfl
 | j :: l,h=>by rw [Qg,Qg,h j W0,zNj l λx v=>h x (Qe _ v)]
def Mic.late (n:Mic) (e:Nat×zN):Mic:=⟨n.slots,[e],n.fresh,n.out,n.wr⟩
def Mic.free (n:Mic):Mic:=⟨n.slots,[],n.fresh,n.out,n.wr⟩
theorem Mic.late_swap {n:Mic} {e:Nat×zN} (d:n.free.indep m=true) (K:lk m.wr e.1=some e.2) (v:n.holds s) (F:m.holds (n.upd s)) :
  m.holds s/\(n.late e).holds (m.upd s)/\(n.late e).upd (m.upd s)=m.upd (n.upd s):=by
 have G:n.free.holds s:=⟨v.1,by simp [Mic.free],v.2.2⟩;have y:=(Mic.holds_iff (Mic.indep_comm d) s).2 G;refine ⟨(Mic.holds_iff d s).1 F,⟨y.1,?_,y.2.2⟩,(Mic.upd_comm d s).symm⟩;intro x I;rw [List.mem_singleton.1 I];simp [Mic.upd,K]
theorem mU.frontX (A:List Mic) (p:Nat) (e:Nat×zN) (n m:Mic) (I:A[p]? = some n) (T:n.free.indep m=true) (S:lk m.wr e.1=some e.2):∀ (E:List Nat) (G:List Mic) (s s':AS),(∀ j∈E,j≠p->∀ x,A[j]? = some x->x.indep m=true) ->
  mU (E.filterMap (λi=>A[i]?)++m :: G) s s'->m.holds s/\mU (E.filterMap (λi=>(A.set p (n.late e))[i]?)++G) (m.upd s) s'
 | [],G,s,s',_,h=>by
  cases h with
  | cons _ _ _ _ K L=>exact ⟨K,L⟩
 | j :: E,G,s,s',N,h=>by
  rw [Qg] at h ⊢;by_cases U:j=p
  ·subst U;have V:j<A.length:=(List.getElem?_eq_some_iff.1 I).1;have D:(A.set j (n.late e))[j]? = some (n.late e):=by simp [V]
   rw [D];rw [I] at h;cases h with
   | cons _ _ _ _ K L=>
    obtain ⟨a,b⟩:=mU.frontX A j e n m I T S E G _ s' (λx h=>N x (Qe _ h)) L;obtain ⟨c,d,f⟩:=Mic.late_swap T S K a;refine ⟨c,.cons _ _ _ _ d ?_⟩;rw [f];exact b
  ·have D:(A.set p (n.late e))[j]? = A[j]?:=by rw [List.getElem?_set_ne (λh=>U h.symm)]
   rw [D];cases W:A[j]? with
   | none=>
    rw [W] at h;exact mU.frontX A p e n m I T S E G _ s' (λx h=>N x (Qe _ h)) h
   | some x=>
    rw [W] at h;cases h with
    | cons _ _ _ _ K L=>
     obtain ⟨a,b⟩:=mU.frontX A p e n m I T S E G _ s' (λx h=>N x (Qe _ h)) L;have F:=N j W0 U x W;refine ⟨(Mic.holds_iff F s).1 a,.cons x _ _ _ ((Mic.holds_iff (Mic.indep_comm F) s).2 K) ?_⟩;rw [<- Mic.upd_comm F];exact b
def zBw (p q:Nat) (ops:Array Oper) (ms:List Mic):Bool:=
 (Q0 ops.size).all λi=>(Q0 i).all λj=>
  match ms[j]?,ms[i]? with
  | some n,some m=>((Qd ops).getD i 0).testBit j||n.indep m||(Qf i q&&Qf j p)
  | _,_=>true
structure zSb (P:Program) (ops:Array Oper) (p q:Nat) (e:Nat×zN) (ms:List Mic) (n m:Mic):Prop where
 lt:p<q
 hp:ms[p]? = some n
 hq:ms[q]? = some m
 hi:n.free.indep m=true
 he:lk m.wr e.1=some e.2
 ho:zBw p q ops (ms.set p (n.late e))=true
 hx:yI8 P ops p (n.late e)
theorem zJm {Q:Exit->Act->World->Prop} {ms0:List Mic} {p q:Nat} {e0:Nat×zN}
  (hx:rQ ops ms0=true∨∃ n m,zSb P ops p q e0 ms0 n m)
  (hlen0:ms0.length=ops.size) (hex0:∀ i m,ms0[i]? = some m->yI8 P ops i m) (hws0:∀ m∈ms0,∀ d∈m.ws,d<cx.nt)
  (hord0:zBw p q ops ms0=true) (hon:zLw ops=true) (hQ:∀ a w,SRel cx s' a w->Q .normal a w) :
  ∀ (T:Nat) (N:List Mic) (v:Array Bool) (s:AS) (a:Act) (w:World),(N=ms0∨∃ n m,zSb P ops p q e0 ms0 n m/\N=ms0.set p (n.late e0)/\v.getD q false=true)->v.size=ops.size->((Q0 ops.size).filter λi=>!v.getD i true).length<=T ->
   (∀ (i:Nat),v.getD i false=true->∀ (o:Oper),ops[i]? = some o->∀ e∈o.after,Q6 .any e=true->v.getD e.on false=true) ->
   mU (zDl N ops.size v) s s'->SRel cx s a w->wpAny P .any ops Q T v a w:=by
 have hon':∀ (i:Nat) (o:Oper),ops[i]? = some o->∀ e∈o.after,Q6 .any e=true->e.on<i:=by
  intro i o ho e he hbi;have J:i<ops.size:=(Array.getElem?_eq_some_iff.1 ho).1;have:=(Q3.1 hon) i (Q7.2 J);rw [ho] at this;have:=(Array.all_eq_true_iff_forall_mem.1 this) e he;rw [hbi] at this;simp only [Wb,Bool.false_or] at this;exact Nat.blt_eq▸this
 have hmask:∀ (i:Nat) (v:Array Bool),(∀ (i:Nat),v.getD i false=true->∀ (o:Oper),ops[i]? = some o->∀ e∈o.after,Q6 .any e=true->v.getD e.on false=true) ->
   ∀ (o:Oper),ops[i]? = some o->(∀ e∈o.after,Q6 .any e=true->v.getD e.on false=true)->∀ j,((Qd ops).getD i 0).testBit j=true->v.getD j false=true:=by
  intro i;induction i using Nat.strongRecOn with
  | _ i ih=>
   intro v F o ho hall j K;rw [zTs ops i o ho (hon' i o ho)] at K;unfold lO at K;rw [<- Qj] at K;rcases zM3 _ j _ 0 K with h | ⟨e,he,hb,h⟩
   ·simp at h
   ·have he':e∈o.after:=by simpa using he
    have hl:=hall e he' hb;rcases h with h | h
    ·rw [<- h];exact hl
    ·have hei:=hon' i o ho e he' hb;cases hoe:ops[e.on]? with
     | none=>
      have:ops.size<=e.on:=by
       rcases Nat.lt_or_ge e.on ops.size with h' | h'
       ·simp [h'] at hoe
       ·exact h'
      have:=(Array.getElem?_eq_some_iff.1 ho).1;omega
     | some oe=>exact ih e.on hei v F oe hoe (F e.on hl oe hoe) j h
 intro T;induction T with
 | zero=>
  intro N v s a w U hls hf F hch hs;have hnil:((Q0 ops.size).filter λi=>!v.getD i true)=[]:=List.eq_nil_of_length_eq_zero (by omega);refine ⟨?_,?_⟩
  ·rw [Qq];intro j K;rw [mem_ready] at K;obtain ⟨h0,o,ho,_⟩:=K;have J:j<ops.size:=(Array.getElem?_eq_some_iff.1 ho).1;have:j∈((Q0 ops.size).filter λi=>!v.getD i true):=Qi.2 ⟨Q7.2 J,by simp [h0]⟩;rw [hnil] at this;simp at this
  ·rw [zDl,hnil] at hch;cases hch;exact hQ a w hs
 | succ T ih=>
  intro N v s a w U hls hf F hch hs;have hlen:N.length=ops.size:=by
   rcases U with rfl | ⟨n,m,_,rfl,_⟩
   ·exact hlen0
   ·rw [List.length_set];exact hlen0
  have hex:∀ i m,N[i]? = some m->yI8 P ops i m:=by
   rcases U with rfl | ⟨n,m,L,rfl,_⟩
   ·exact hex0
   ·intro i x hx;by_cases hip:i=p
    ·subst hip;have J:i<ms0.length:=(List.getElem?_eq_some_iff.1 L.hp).1;rw [List.getElem?_set_self J] at hx;cases hx;exact L.hx
    ·rw [List.getElem?_set_ne (λh=>hip h.symm)] at hx;exact hex0 i x hx
  have hws:∀ m∈N,∀ d∈m.ws,d<cx.nt:=by
   rcases U with rfl | ⟨n,m,L,rfl,_⟩
   ·exact hws0
   ·intro x hx;rcases List.mem_or_eq_of_mem_set hx with hx | rfl
    ·exact hws0 x hx
    ·exact hws0 n (Qz L.hp)
  have hord:zBw p q ops N=true:=by
   rcases U with rfl | ⟨n,m,L,rfl,_⟩
   ·exact hord0
   ·exact L.ho
  constructor
  ·intro hnone;have hnil:((Q0 ops.size).filter λi=>!v.getD i true)=[]:=by
    rw [Qq];intro j;induction j using Nat.strongRecOn with
    | _ j ihj=>
     intro K;obtain ⟨hr,hb⟩:=Qi.1 K;have J:=Q7.1 hr;have:j∈Region.ready .any ops v:=by
      rw [mem_ready];refine ⟨by simpa using hb,ops[j],by simp [J],?_⟩;intro e he hbi;have hej:=hon' j ops[j] (by simp [J]) e he hbi;have hne:=ihj e.on hej;have hel:e.on<ops.size:=by omega
      have hel':e.on<v.size:=by omega
      rw [Qi,not_and] at hne;have:=hne (Q7.2 hel);simp only [W3,Bool.not_eq_false] at this;simp [hel'] at this ⊢;exact this
     rw [hnone] at this;simp at this
   rw [zDl,hnil] at hch;cases hch;exact hQ a w hs
  ·intro i hi;have hi':=hi;rw [mem_ready] at hi';obtain ⟨h0,o,ho,hall⟩:=hi';have J:i<ops.size:=(Array.getElem?_eq_some_iff.1 ho).1;obtain ⟨m,hm⟩:∃ m,N[i]? = some m:=⟨N[i]'(by omega),by simp⟩;have hsplit:∃ l1 l2,((Q0 ops.size).filter λi=>!v.getD i true)=l1++i :: l2/\(∀ j∈l1,j<i/\v.getD j true=false) /\
     ((Q0 ops.size).filter λj=>!(v.setIfInBounds i true).getD j true)=l1++l2/\∀ j∈l2,i<j:=by
    refine ⟨(Q0 i).filter (λi=>!v.getD i true),((Q0 (ops.size - (i+1))).map (λk=>i+1+k)).filter (λi=>!v.getD i true),?_,?_,?_,?_⟩
    ·have hr:Q0 ops.size=Q0 i++i :: (Q0 (ops.size - (i+1))).map (λk=>i+1+k):=by
      have I:ops.size=(i+1)+(ops.size - (i+1)):=by omega
      rw [I,List.range_add,W7];simp
     rw [hr,W1,W5];simp [h0]
    ·intro j K;obtain ⟨a1,a2⟩:=Qi.1 K;exact ⟨Q7.1 a1,by simpa using a2⟩
    ·have hr:Q0 ops.size=Q0 i++i :: (Q0 (ops.size - (i+1))).map (λk=>i+1+k):=by
      have I:ops.size=(i+1)+(ops.size - (i+1)):=by omega
      rw [I,List.range_add,W7];simp
     rw [hr,W1,W5];have hself:(v.setIfInBounds i true).getD i true=true:=by simp [hls,J]
     rw [hself];congr 1
     ·refine W4 (λx hx=>?_);have:=Q7.1 hx;rw [getD_set_ne true (by omega)]
     ·simp only [Wb,Bool.false_eq_true,if_false];refine W4 (λx hx=>?_);obtain ⟨k,_,rfl⟩:=Qo.1 hx;rw [getD_set_ne true (by omega)]
    ·intro j K;obtain ⟨k,_,rfl⟩:=Qo.1 (Qi.1 K).1;omega
   obtain ⟨l1,l2,e1,hl1,e2,hl2⟩:=hsplit;have hch':=hch;rw [zDl,e1,Qy,Qg,hm] at hch';have hgen:∀ j∈l1,∀ n,N[j]? = some n->(i=q/\j=p/\rQ ops N≠true)∨n.indep m=true:=by
    intro j K n hjn;obtain ⟨hji,hjl⟩:=hl1 j K;have I:((Qd ops).getD i 0).testBit j=true∨n.indep m=true∨(i=q/\j=p/\rQ ops N≠true):=by
     by_cases hoo:rQ ops N=true
     ·have I:=(Q3.1 ((Q3.1 hoo) i (Q7.2 J))) j (Q7.2 hji);rw [hjn,hm] at I;simp only [Qp] at I;exact I.imp id .inl
     ·have I:=(Q3.1 ((Q3.1 hord) i (Q7.2 J))) j (Q7.2 hji);rw [hjn,hm] at I;simp only [Qp,Q5] at I;rcases I with (I | I) | I
      ·exact .inl I
      ·exact .inr (.inl I)
      ·exact .inr (.inr ⟨Qn I.1,Qn I.2,hoo⟩)
    rcases I with I | I | I
    ·have:=hmask i v F o ho (λe he hb=>hall e he hb) j I;have hjs:j<v.size:=by omega
     simp [hjs] at hjl this;rw [hjl] at this;simp at this
    ·exact .inr I
    ·exact .inl I
   have hmain:∃ ms',(ms'=ms0∨∃ n m,zSb P ops p q e0 ms0 n m/\ms'=ms0.set p (n.late e0)/\(v.setIfInBounds i true).getD q false=true)/\m.holds s/\mU (l1.filterMap (λi=>ms'[i]?)++l2.filterMap (λi=>ms'[i]?)) (m.upd s) s':=by
    by_cases hsp:i=q/\p∈l1/\rQ ops N≠true
    ·obtain ⟨rfl,hpl,hoo⟩:=hsp;have e0':N=ms0:=by
      rcases U with h | ⟨_,_,_,_,hq⟩
      ·exact h
      ·have his:i<v.size:=by omega
       simp [his] at h0 hq;rw [h0] at hq;simp at hq
     subst e0';obtain ⟨n,m2,L⟩:=hx.resolve_left hoo;have hmm:m2=m:=by have:=L.hq;rw [hm] at this;cases this;rfl
     subst hmm;have hfx:=mU.frontX N p e0 n m2 L.hp L.hi L.he l1 _ s s' (λj K hjp x hjx=>(hgen j K x hjx).resolve_left λh=>hjp h.2.1) hch';refine ⟨N.set p (n.late e0),.inr ⟨n,m2,L,rfl,?_⟩,hfx.1,?_⟩
     ·have his:i<v.size:=by omega
      simp [his]
     ·have:l2.filterMap (λi=>(N.set p (n.late e0))[i]?)=l2.filterMap (λi=>N[i]?):=by
       refine zNj _ λj K=>?_;rw [List.getElem?_set_ne];intro hjp;have:=hl2 j K;have:=L.lt;omega
      rw [this];exact hfx.2
    ·have hind:∀ n∈l1.filterMap (λi=>N[i]?),n.indep m=true:=by
      intro n hn;obtain ⟨j,K,hjn⟩:=List.mem_filterMap.1 hn;exact (hgen j K n hjn).resolve_left λh=>hsp ⟨h.1,h.2.1▸K,h.2.2⟩
     obtain ⟨hmh,hrest⟩:=mU.front _ m _ s s' hind hch';refine ⟨N,?_,hmh,hrest⟩;rcases U with h | ⟨n,m,L,h,hq⟩
     ·exact .inl h
     ·exact .inr ⟨n,m,L,h,getD_set_true hq⟩
   obtain ⟨ms',hms',hmh,hrest⟩:=hmain;refine hex i m hm cx s a w _ Q hmh hs (hws m (Qz hm)) ?_;intro a' w' hs';refine ih ms' _ (m.upd s) a' w' hms' (by simp [hls]) ?_ ?_ ?_ hs'
   ·rw [e2];rw [e1] at hf;simp only [List.length_append,Qs] at hf ⊢;omega
   ·intro j K oj hoj e he hb;by_cases hij:i=j
    ·subst hij;rw [ho] at hoj;cases hoj;exact getD_set_true (hall e he hb)
    ·rw [getD_set_ne false hij] at K;exact getD_set_true (F j K oj hoj e he hb)
   ·rw [zDl,e2,Qy];exact hrest
theorem zN1 {p q:Nat} {y:List Mic} (d:rQ ops y=true):zBw p q ops y=true:=by
 refine Q3.2 λi E=>Q3.2 λj D=>?_;have h:=(Q3.1 ((Q3.1 d) i E)) j D;split
 ·simp_all
 ·rfl
def mkS (env:LV) (blk:LB):AS:={ env:=lk env,blk:=lk blk }
mutual
def AV.oks (B:NB):AV->Bool
 | .p _=>true
 | .nl _=>true
 | .ptr k _=>(B k).isSome
 | .ref k _ _=>(B k).isSome
 | .buf k _=>(B k).isSome
 | .ag l=>oW B l
 | .tu l=>oW B l
 | .fnv _ l=>oW B l
 | .own k _=>(B k).isSome
 | .optr k _ _=>(B k).isSome
 | .osl k _ _ _=>(B k).isSome
def oW (B:NB):List AV->Bool
 | []=>true
 | v :: r=>v.oks B&&oW B r
end
theorem uY:∀ (l:List AV),oW B l=true->∀ (j:Nat) (q:AV),l[j]? = some q->q.oks B=true
 | [],_,_,_,h=>by simp_all
 | v :: r,h,0,q,A=>by
  simp only [oW] at h;simp_all
 | v :: r,h,j+1,q,A=>by
  simp only [oW,Q5] at h;exact uY r h.2 j q (by simp_all)
theorem zDz {h:Type} (f:h->PV):∀ (l:List h),oW B (l.map λx=>AV.p (f x))=true
 | []=>rfl
 | _ :: r=>by exact zDz f r
structure Le (s' s:AS):Prop where
 env:∀ t v,s'.env t=some v->s.env t=some v
 blk:∀ k b,s'.blk k=some b->s.blk k=some b
 oke:∀ t v,s'.env t=some v->v.oks s'.blk=true
 okb:∀ k l,s'.blk k=some (.var l)->oW s'.blk l=true
 okw:∀ k w l,s'.blk k=some (.own w l)->oW s'.blk l=true
theorem RepA.less {S:NB} (G:∀ k b,S k=some b->B k=some b) {x:Value}
  (hr:RepA M κ tip B v x):v.oks S=true->RepA M (λk=>if (S k).isSome then κ k else none) tip S v x:=by
 induction hr with
 | p v x y=>intro _;exact .p v x y
 | nl c y=>intro _;exact .nl c y
 | ptr k o b l y A=>
  intro h;simp only [AV.oks] at h;obtain ⟨Y,d⟩:=Q2.1 h;have:=G k Y d;rw [A] at this;cases this;exact .ptr k o b l (by simp [h,y]) d
 | ref k o n b l y A=>
  intro h;simp only [AV.oks] at h;obtain ⟨Y,d⟩:=Q2.1 h;have:=G k Y d;rw [A] at this;cases this;exact .ref k o n b l (by simp [h,y]) d
 | buf k n c x y F A E h4=>
  intro h;simp only [AV.oks] at h;obtain ⟨b,d⟩:=Q2.1 h;have:=G k b d;rw [y] at this;cases this;exact .buf k n c x d F A E h4
 | ag l J y _ I=>intro h;simp only [AV.oks] at h;exact .ag l J y (λj q D=>I j q D (uY l h j q D))
 | tu l J y _ I=>intro h;simp only [AV.oks] at h;exact .tu l J y (λj q D=>I j q D (uY l h j q D))
 | fnv f l J y _ I=>intro h;simp only [AV.oks] at h;exact .fnv f l J y (λj q D=>I j q D (uY l h j q D))
 | own k n w l x y A E F=>
  intro h;simp only [AV.oks] at h;obtain ⟨b,d⟩:=Q2.1 h;have:=G k b d;rw [y] at this;cases this;exact .own k n w l x d A E F
 | optr k n o w l x y A E F=>
  intro h;simp only [AV.oks] at h;obtain ⟨b,d⟩:=Q2.1 h;have:=G k b d;rw [y] at this;cases this;exact .optr k n o w l x d A (λe=>by obtain ⟨b,g1,U⟩:=E e;exact ⟨b,by simp [h,g1],U⟩) F
 | osl k n o m w l x y A E F=>
  intro h;simp only [AV.oks] at h;obtain ⟨b,d⟩:=Q2.1 h;have:=G k b d;rw [y] at this;cases this;exact .osl k n o m w l x d A (λe=>by simp_all) F
theorem Inv.less {J:Nat->Option Nat} (h:Inv cx M J tip s a w) (d:Le s' s) :
  Inv cx M (λk=>if (s'.blk k).isSome then J k else none) tip s' a w where
 defers:=h.defers
 size:=h.size
 fr:=h.fr
 mem:=h.mem
 env:=λt v e=>let ⟨x,hx,N⟩:=h.env t v (d.env t v e);⟨x,hx,N.less d.blk (d.oke t v e)⟩
 vars:=λk l e=>by
  obtain ⟨b,A,V,T,L,U,S,y,D,K,h7⟩:=h.vars k l (d.blk k _ e);exact ⟨b,A,V,T,by simp [e,L],U,S,y,λj q F=>(D j q F).less d.blk (uY l (d.okb k l e) j q F),K,h7⟩
 bufs:=λk c e=>by
  obtain ⟨L,U,S,y⟩:=h.bufs k c (d.blk k _ e);refine ⟨L,U,S,?_⟩;simp_all
 inj:=λk Y b e W=>by
  have e1:J k=some b:=by
   split at e
   ·exact e
   ·cases e
  have e2:J Y=some b:=by
   split at W
   ·exact W
   ·cases W
  exact h.inj k Y b e1 e2
 dom:=λk e=>by simp [e]
 glob:=h.glob
 old:=h.old
 owns:=h.owns.keep λk wd l e=>⟨d.blk k _ e,by simp [e],rfl,λb _=>⟨rfl,λ_ h=>h⟩,λj q x F N=>N.less d.blk (uY l (d.okw k wd l e) j q F)⟩
theorem SRel.less (h:SRel cx s a w) (E:Le s' s) (D:∀ k∈cx.pk,(s'.blk k.1).isSome=true):SRel cx s' a w:=by
 obtain ⟨M,F,tip,A,v,h⟩:=h;exact ⟨M,_,tip,A,λk e=>⟨by simp [D k e,(v k e).1],(v k e).2⟩,h.less E⟩
def zOr (s:AS):LV->Prop
 | []=>True
 | (t,v) :: r=>s.env t=some v/\zOr s r
def zPn (s:AS):LB->Prop
 | []=>True
 | (k,b) :: r=>s.blk k=some b/\zPn s r
def nO (B:NB):LV->Bool
 | []=>true
 | (_,v) :: r=>v.oks B&&nO B r
def uF (B:NB):LB->Bool
 | []=>true
 | (_,.var l) :: r=>oW B l&&uF B r
 | (_,.buf _) :: r=>uF B r
 | (_,.own _ l) :: r=>oW B l&&uF B r
theorem sY {F:Type}:∀ (l:List (Nat×F)) (t:Nat) (v:F),lk l t=some v->(t,v)∈l
 | [],_,_,h=>by simp [lk] at h
 | (k,u) :: r,t,v,h=>by
  simp only [lk] at h;cases y:Qf t k with
  | true=>
   simp_all
  | false=>
   simp [y] at h;exact Qe _ (sY r t v h)
theorem zOr.mem:∀ {l:LV},zOr s l->∀ {t v},(t,v)∈l->s.env t=some v
 | (_,_) :: _,h,_,_,d=>by
  rcases Q9.1 d with e | d
  ·cases e;exact h.1
  ·exact zOr.mem h.2 d
theorem zPn.mem:∀ {l:LB},zPn s l->∀ {t v},(t,v)∈l->s.blk t=some v
 | (_,_) :: _,h,_,_,d=>by
  rcases Q9.1 d with e | d
  ·cases e;exact h.1
  ·exact zPn.mem h.2 d
theorem nO.mem:∀ {l:LV},nO B l=true->∀ {t v},(t,v)∈l->v.oks B=true
 | (_,_) :: _,h,_,_,y=>by
  simp only [nO,Q5] at h;rcases Q9.1 y with e | y
  ·simp_all
  ·exact nO.mem h.2 y
theorem uF.mem:∀ {l:LB},uF B l=true->∀ {t v},(t,.var v)∈l->oW B v=true
 | (_,.var u) :: _,h,_,_,d=>by
  simp only [uF,Q5] at h;rcases Q9.1 d with e | d
  ·simp_all
  ·exact uF.mem h.2 d
 | (_,.buf u) :: _,h,_,_,d=>by
  simp only [uF] at h;rcases Q9.1 d with e | d
  ·cases e
  ·exact uF.mem h d
 | (_,.own w u) :: _,h,_,_,d=>by
  simp only [uF,Q5] at h;rcases Q9.1 d with e | d
  ·cases e
  ·exact uF.mem h.2 d
theorem uF.memO:∀ {l:LB},uF B l=true->∀ {t w v},(t,.own w v)∈l->oW B v=true
 | (_,.var u) :: _,h,_,_,_,d=>by
  simp only [uF,Q5] at h;rcases Q9.1 d with e | d
  ·cases e
  ·exact uF.memO h.2 d
 | (_,.buf u) :: _,h,_,_,_,d=>by
  simp only [uF] at h;rcases Q9.1 d with e | d
  ·cases e
  ·exact uF.memO h d
 | (_,.own w u) :: _,h,_,_,_,d=>by
  simp only [uF,Q5] at h;rcases Q9.1 d with e | d
  ·simp_all
  ·exact uF.memO h.2 d
theorem Le.mk' {env:LV} {blk:LB} (D:zOr s env) (G:zPn s blk) (A:nO (lk blk) env=true) (h:uF (lk blk) blk=true):Le (mkS env blk) s where
 env:=λt v e=>D.mem (sY _ t v e)
 blk:=λk b e=>G.mem (sY _ k b e)
 oke:=λt v e=>nO.mem A (sY _ t v e)
 okb:=λk l e=>uF.mem h (sY _ k _ e)
 okw:=λk w l e=>uF.memO h (sY _ k _ e)
def awp (P:Program) (cx:Ctx) (c:Code) (Q:Exit->AS->Prop) (s:AS):Prop:=
 ∀ a w,SRel cx s a w->c.wp P (λe a' w'=>∃ s',SRel cx s' a' w'/\Q e s') a w
section
variable {Q':Exit->AS->Prop} 
theorem zHe {c:Code} (h:awp P cx c Q s) (v:∀ e s,Q e s->Q' e s):awp P cx c Q' s:=
 λa w y=>wp_mono (h a w y) λe E w' ⟨s',D,A⟩ =>⟨s',D,v e s' A⟩
theorem zYl (h:Q .normal s):awp P cx .skip Q s:=λ_ _ y=>wp_skip ⟨s,y,h⟩
theorem zY5 (h:Q (.exit id) s):awp P cx (.exit id) Q s:=λ_ _ v=>wp_exit ⟨s,v,h⟩
theorem yGm (h:Q .ret s):awp P cx .ret Q s:=λ_ _ v=>wp_ret ⟨s,v,h⟩
def zRx (k:AS->Prop) (Q:Exit->AS->Prop):Exit->AS->Prop
 | .normal,s=>k s
 | e,s=>Q e s
theorem yFd {x y:Code} (h:awp P cx x (zRx (awp P cx y Q) Q) s):awp P cx (.seq x y) Q s:=λa w E=>
 wp_seq (wp_mono (h a w E) λe D w' ⟨s',A,v⟩ =>by
  cases e with
  | normal=>exact v D w' A
  | _=>assumption)
def zH8 (id:Nat) (Q:Exit->AS->Prop):Exit->AS->Prop
 | .exit id',s=>if Qf id' id then Q .normal s else Q (.exit id') s
 | e,s=>Q e s
theorem zT3 {c:Code} (h:awp P cx c (zH8 id Q) s):awp P cx (.block id c) Q s:=λa w G=>
 wp_block (wp_mono (h a w G) λe J w' ⟨s',E,v⟩ =>by
  cases e with
  | exit y=>
   simp only [zH8] at v;simp only [Exit.inBlock];by_cases d:y=id
   ·subst d;simp at v ⊢;exact ⟨s',E,v⟩
   ·simp [d] at v ⊢;exact ⟨s',E,v⟩
  | _=>assumption)
theorem zNp {t:Nat} {x y:Code} {b:Bool} (N:s.env t=some (.p (.bool b))) (J:b=true->awp P cx x Q s) (K:b=false->awp P cx y Q s) :
  awp P cx (.cond (.tmp t) x y) Q s:=λa w I=>by
 have d:=I;obtain ⟨M,U,tip,S,T,h⟩:=I;obtain ⟨v,L,E⟩:=h.env t _ N;have:a.eval (.tmp t)=.bool b:=by
  cases E with
  | p _ _ E=>cases E;simp [Act.eval,L]
 exact wp_cond_split this (λe=>J e a w d) (λe=>K e a w d)
def zO {X Y:Type} (step:X->Option (X ⊕ Y)):Nat->X->Option Y
 | 0,_=>none
 | n+1,x=>match step x with
  | none=>none
  | some (.inl x')=>zO step n x'
  | some (.inr y)=>some y
def Lep (cx:Ctx) (s' s:AS):Prop:=Le s' s/\∀ k∈cx.pk,(s'.blk k.1).isSome=true
end
def zR9 (P:Program) (ops:Array Oper) (o:Oper) (m:Mic):Prop:=
 ∀ (cx:Ctx) (s:AS) (a:Act) (w:World) (K:Act->World->Prop) (Q:Exit->Act->World->Prop),m.holds s->SRel cx s a w ->
  (∀ d∈m.ws,d<cx.nt)->(∀ a' w',SRel cx (m.upd s) a' w'->K a' w') ->
  if Wc o (yielded ops a.tmps) then o.wp P a w K Q∨(o.asks P a w/\LetsOut Q) else K (a.put o.dst undef) w
inductive Run (P:Program) (ops:Array Oper):List Oper->AS->AS->List Mic->Prop where
 | nil (s:AS):Run P ops [] s s []
 | cons (o:Oper) (r:List Oper) (m:Mic) (s s':AS) (ms:List Mic):zR9 P ops o m->m.holds s->Run P ops r (m.upd s) s' ms->Run P ops (o :: r) s s' (m :: ms)
theorem Run.chain {l:List Oper} {v:List Mic} (h:Run P ops l s s' v):mU v s s':=by
 induction h with
 | nil s=>exact .nil s
 | cons o r m s s' v _ A _ D=>exact .cons m v s s' A D
theorem Run.exec {l:List Oper} {v:List Mic} (h:Run P ops l s s' v) :
  v.length=l.length/\∀ (i:Nat) (o:Oper) (m:Mic),l[i]? = some o->v[i]? = some m->zR9 P ops o m:=by
 induction h with
 | nil s=>simp
 | cons o r m s s' v K N _ E=>
  refine ⟨by simp_all,λi L J A y=>?_⟩;cases i with
  | zero=>simp_all
  | succ i=>exact E.2 i L J (by simp_all) (by simp_all)
def cO (nt:Nat) (ms:List Mic):Bool:=ms.all λm=>m.ws.all λd=>W9 d nt
theorem zJz {v:Nat} {A:List Mic} (h:cO v A=true):∀ m∈A,∀ d∈m.ws,d<v:=by
 intro m E d D;have:=(Q3.1 ((Q3.1 h) m E)) d D;simp_all
theorem zTy {Q:Exit->Act->World->Prop} (J:∀ a w,SRel cx s' a w->Q .normal a w) {l:List Oper} {G:List Mic}
  (h:Run P ops l s s' G):(∀ m∈G,∀ d∈m.ws,d<cx.nt)->∀ (n:Nat),(∀ i,l[i]? = ops[n+i]?)->∀ (a:Act) (w:World),SRel cx s a w->wpOps P ops Q ((Q0 l.length).map (n+·)) a w:=by
 induction h with
 | nil s=>intro _ n _ a w I;exact J a w I
 | cons o r m s s' G U Z _ V=>
  intro A n L a w I;have e:(Q0 (o :: r).length).map (n+·)=n :: (Q0 r.length).map (n+1+·):=by
   rw [Qs,Qv];simp only [Wa,List.map_map,W2];congr 1;refine List.map_congr_left (λx _=>?_);simp only [Function.comp];omega
  rw [e,wpOps_cons];have T:=by
   have:=L 0;simpa using this.symm
  unfold wpOp;rw [T];refine U cx s a w _ Q Z I (A m (by simp)) ?_;intro S w' F;exact V J (λx W=>A x (by simp [W])) (n+1) (λi=>by have:=L (i+1);rw [show n+1+i=n+(i+1) by omega];simpa using this) S w' F
theorem zPa {F:List Mic} (h:Run P ops ops.toList s s' F) (A:cO cx.nt F=true)
  (G:Q .normal s'):awp P cx (.region id ops false) Q s:=λa w y=>by
 refine wp_region ?_;have:=zTy (Q:=λe I w'=>∃ s',SRel cx s' I w'/\Q e s') (λa w y=>⟨s',y,G⟩) h (zJz A) 0 (by simp) a w y;simp_all
theorem zTv {p q:Nat} {e:Nat×zN} {A:List Mic} (h:Run P ops ops.toList s s' A) (I:cO cx.nt A=true)
  (hm:P.follows .mixedOrders=true) (hx:rQ ops A=true∨∃ n m,zSb P ops p q e A n m) (E:zBw p q ops A=true) (Z:zLw ops=true) (hq:Q .normal s'):awp P cx (.region id ops true) Q s:=λa w Y=>by
 refine wp_region_any hm ?_;obtain ⟨v,F⟩:=h.exec;have L:=h.chain;refine zJm (cx:=cx) (ms0:=A) (s':=s') hx (by simpa using v) ?_ (zJz I) E Z (λa w Y=>⟨s',Y,hq⟩) ops.size A _ s a _ (.inl rfl) (by simp) ?_ ?_ ?_ Y.drew
 ·intro i m J;have G:i<ops.size:=by
   have:=(List.getElem?_eq_some_iff.1 J).1;simp at v;omega
  intro cx s a w K Q N W h3 h4;unfold wpOp;rw [show ops[i]? = some ops[i] by simp [G]];exact F i ops[i] m (by simp [G]) J cx s a w K Q N W h3 h4
 ·refine Nat.le_trans (List.length_filter_le _ _) (by simp)
 ·intro i V;have:i<ops.size:=by
   rcases Nat.lt_or_ge i ops.size with h' | h'
   ·exact h'
   simp_all
  simp [this] at V
 ·have:zDl A ops.size (W8 ops.size false)=A:=by
   unfold zDl;have N:(Q0 ops.size).filter (λi=>!(W8 ops.size false).getD i true)=Q0 ops.size:=by
    rw [List.filter_eq_self];intro i V;have:=Q7.1 V;simp [this]
   rw [N];have W:ops.size=A.length:=by simpa using v.symm
   rw [W];clear N W v F L h I E hq hx;induction A with
   | nil=>rfl
   | cons m r ih=>
    rw [Qs,Qv,Qg];simp only [List.getElem?_cons_zero,List.filterMap_map];congr 1
  rw [this];exact L
theorem yBj {E:List Mic} (h:Run P ops ops.toList s s' E) (G:cO cx.nt E=true)
  (I:P.follows .mixedOrders=true) (y:rQ ops E=true) (F:zLw ops=true) (K:Q .normal s'):awp P cx (.region id ops true) Q s:=
 zTv (p:=0) (q:=0) (e:=(0,.var [])) h G I (.inl y) (zN1 y) F K
inductive Ty where
 | bool | int (k:IntKind) | str | slice (e:TypeId) | arr (n:Nat) (e:TypeId) | struct (fs:List (TypeId×Nat)) | ptr (e:TypeId) | func | iface | other
structure TI where
 w:Nat
 b:Nat
 z:List PV
 ty:Ty
variable {ei i:TI}
def zv:PV->Value
 | .bool b=>.bool b
 | .int k n=>.int k n
 | .str s=>.string ⟨s.toArray⟩
 | .bytes _=>.slice none 0 0
 | .sl _ _=>.slice none 0 0
 | .nilp=>.pointer none
 | .err _=>.nilIface
 | _=>undef
def PV.zok:PV->Bool
 | .bool _ | .int _ _ | .str _ | .bytes [] | .sl _ [] | .nilp | .err false=>true
 | _=>false
structure TOk (P:Program) (t:TypeId) (i:TI):Prop where
 info:∃ info z,P.info? t=some info/\info.size=i.w/\info.bytes=i.b/\info.zero=some z/\z.cells.toList=i.z.map zv
 zok:∀ z∈i.z,z.zok=true
 und:match i.ty with
  | .bool=>P.underlying t=some .bool
  | .int k=>P.underlying t=some (.int k)
  | .str=>P.underlying t=some .string
  | .slice e=>P.underlying t=some (.slice e)
  | .arr n e=>P.underlying t=some (.array n e)
  | .struct fs=>∃ fields,P.underlying t=some (.struct fields)/\fields.toList.map (λf=>(f.type,f.offset))=fs
  | .ptr e=>P.underlying t=some (.pointer e)
  | .func=>∃ a b c,P.underlying t=some (.func a b c)
  | .iface=>∃ ms,P.underlying t=some (.interface ms)
  | .other=>True
abbrev TE:=TypeId->Option TI
variable {te:TE}
def yO (P:Program) (te:TE):Prop:=∀ t i,te t=some i->TOk P t i
def zSz (te:TE) (t:TypeId):Value->Option AV
 | .bool b=>some (.p (.bool b))
 | .int k n=>some (.p (.int k n))
 | .string s=>some (.p (.str s.data.toList))
 | .pointer none=>some (.p .nilp)
 | .nilIface=>some (.p (.err false))
 | .slice none 0 0=>match te t with
  | some ⟨_,_,[c],_⟩ =>bif c.nilOf then some (.nl c) else none
  | _=>none
 | _=>none
def AS.get (s:AS) (te:TE) (t:TypeId):Operand->Option AV
 | .tmp n=>s.env n
 | .const v=>zSz te t v
 | .func f=>some (.p (.fn f [] []))
 | .global g=>(GL g).map λp=>.p (.cptr p)
def opS (x:Operand) (v:AV):LV:=match x with | .tmp t=>[(t,v)] | _=>[]
def wR (s:AS) (l:LV):Prop:=∀ e∈l,s.env e.1=some e.2
theorem zP (h:s.get te t x=some v):wR s (opS x v):=by
 cases x<;>intro e y<;>simp [opS] at y;subst y;exact h
def yLo (te:TE) (t:TypeId) (x:Operand) (v:AV):Prop:=∀ s:AS,wR s (opS x v)->s.get te t x=some v
theorem yI (h:s.get te t x=some v):yLo te t x v:=by
 intro s' y;cases x with
 | tmp n=>exact y (n,v) (by simp [opS])
 | const c=>exact h
 | global g=>exact h
 | func f=>exact h
theorem yB (hi:Inv cx M κ tip s a w) 
  (h:s.get te t x=some v):RepA M κ tip s.blk v (a.eval x):=by
 cases x with
 | tmp n=>
  obtain ⟨y,hy,hr⟩:=hi.env n v h;have:a.eval (.tmp n)=y:=by simp [Act.eval,hy]
  rw [this];exact hr
 | const c=>
  simp only [AS.get,Act.eval] at *;unfold zSz at h;split at h
  ·cases h;exact .p _ _ (.bool _)
  ·cases h;exact .p _ _ (.int _ _)
  ·rename_i s;cases h;refine .p _ _ ?_;have:=Rep.str (M:=M) s.data.toList;simpa using this
  ·cases h;exact .p _ _ .nilp
  ·cases h;exact .p _ _ .err0
  ·split at h
   ·rename_i c ty hte;cases hc:c.nilOf with
    | true=>rw [hc] at h;cases h;exact .nl _ hc
    | false=>rw [hc] at h;cases h
   ·cases h
  ·cases h
 | global g=>
  simp only [AS.get] at h;obtain ⟨p,h1,h2⟩:=Q1.1 h;subst h2;exact .p _ _ (hi.glob.1 g p h1)
 | func f=>
  simp only [AS.get] at h;cases h;exact .p _ _ (.fn f [] [] #[] #[] rfl rfl (by simp) (by simp))
theorem Inv.put (hi:Inv cx M κ tip s a w) (hd:d<cx.nt) {x:Value}
  (hr:RepA M κ tip s.blk v x):Inv cx M κ tip (s.put d v) (a.put (some d) x) w where
 defers:=hi.defers
 size:=by simp [Act.put,hi.size]
 fr:=hi.fr
 mem:=hi.mem
 env:=λt u e=>by
  simp only [AS.put] at e;by_cases ht:t=d
  ·subst ht;simp at e;subst e;exact ⟨x,by simp [Act.put,hi.size,hd],hr⟩
  ·have hb:Qf t d=false:=by rw [Ql];intro e;exact ht (Qn e)
   simp [hb] at e;obtain ⟨y,hy,hr'⟩:=hi.env t u e;exact ⟨y,by simp [Act.put,Array.getElem?_setIfInBounds_ne (Ne.symm ht),hy],hr'⟩
 vars:=hi.vars
 bufs:=hi.bufs
 inj:=hi.inj
 dom:=hi.dom
 glob:=hi.glob
 owns:=hi.owns
 old:=hi.old
def zYd (P:Program) (o:Oper) (rs:LV) (bs:LB) (v:AV):Prop:=
 ∀ (cx:Ctx) (M:Mem) (κ:Nat->Option Nat) (tip:Nat->Value) (s:AS) (a:Act) (w:World),Inv cx M κ tip s a w->wR s rs->(∀ e∈bs,s.blk e.1=some e.2) ->
  ∃ x,(execOp a.eval o).run P w=.ok (.value x) w/\RepA M κ tip s.blk v x
def Snd (P:Program) (o:Oper) (m:Mic):Prop:=
 ∀ (cx:Ctx) (s:AS) (a:Act) (w:World) (K:Act->World->Prop) (Q:Exit->Act->World->Prop),m.holds s->SRel cx s a w ->
  (∀ d∈m.ws,d<cx.nt)->(∀ a' w',SRel cx (m.upd s) a' w'->K a' w')->o.wp P a w K Q
theorem zPk {A:LV} (N:o.dst=some d) (h:zYd P o A bs v) :
  Snd P o ⟨A,bs,[],some (d,some v),[]⟩:=by
 intro cx s a w K Q F L T S;obtain ⟨M,E,tip,J,G,D⟩:=L;obtain ⟨x,U,I⟩:=h cx M E _ s a w D F.1 F.2.1;unfold Oper.wp;rw [U];show K _ w;rw [N];exact S _ _ ⟨M,E,tip,J,G,D.put (T d (by simp [Mic.ws])) I⟩
theorem zG9 (E:o.guard=none) (h:Snd P o m):zR9 P ops o m:=by
 intro cx s a w K Q y D A G;rw [if_pos (by simp [Wc,E])];exact .inl (h cx s a w K Q y D A G)
theorem zHg (J:SRel cx s a w) {j h:Nat} {b:Bool} (E:(ops[j]?).bind (·.dst)=some h) (G:s.env h=some (.p (.bool b))) :
  yielded ops a.tmps j=some b:=by
 obtain ⟨M,N,tip,L,K,I⟩:=J;obtain ⟨y,D,v⟩:=I.env h _ G;cases v with
 | p _ _ v=>cases v;simp [yielded,E,D]
section
theorem Run.val {A:LV} (K:o.dst=some d) (I:o.guard=none) (h:zYd P o A bs v) (G:wR s A) (J:∀ e∈bs,s.blk e.1=some e.2)
  (k:Run P ops r (s.put d v) s' ms):Run P ops (o :: r) s s' (⟨A,bs,[],some (d,some v),[]⟩:: ms):=
 .cons o r _ s s' ms (zG9 I (zPk K h)) ⟨G,J,by simp⟩ k
def VA (P:Program) (o:Oper) (s:AS) (rs:LV) (bs:LB) (v:AV):Prop:=
 zYd P o rs bs v/\wR s rs/\∀ e∈bs,s.blk e.1=some e.2
theorem Run.vv {A:LV} (G:o.dst=some d) (F:o.guard=none) (h:VA P o s A bs v) (k:Run P ops r (s.put d v) s' ms) :
  Run P ops (o :: r) s s' (⟨A,bs,[],some (d,some v),[]⟩:: ms):=Run.val G F h.1 h.2.1 h.2.2 k
theorem yL {y d:LV} (h:wR s y) (D:wR s d):wR s (y++d):=λe A=>(Q4.1 A).elim (h e) (D e)
theorem yG {v d:LV} (h:wR s (v++d)):wR s v:=λe y=>h e (Q4.2 (.inl y))
theorem zX {A d:LV} (h:wR s (A++d)):wR s d:=λe v=>h e (Q4.2 (.inr v))
theorem zR7 (d:o.op=.move x∨o.op=.assign x) (h:s.get te o.type x=some v):VA P o s (opS x v) [] v:=by
 refine ⟨?_,zP h,by simp⟩;intro cx M G tip s' a w D F _;have E:=yI h s' F;refine ⟨a.eval x,?_,yB D E⟩;rcases d with d | d<;>simp [execOp,d]
theorem repA_pv {x:Value} (h:RepA M κ tip B (.p p) x):Rep M p x:=by cases h;assumption
theorem mP {b:Bool} {x:Value} (h:Rep M (.bool b) x):x=.bool b:=by cases h;rfl
theorem xK {n:Int} {x:Value} (h:Rep M (.int k n) x):x=.int k n:=by cases h;rfl
theorem zE6 {l:By} {x:Value} (h:Rep M (.str l) x):x=.string ⟨l.toArray⟩:=by cases h;rfl
theorem zXc {a b:Operand} (G:o.op=.pick c a b) (F:s.get te t0 c=some (.p (.bool true))) (h:s.get te o.type a=some v) :
  VA P o s (opS c (.p (.bool true))++opS a v) [] v:=by
 refine ⟨?_,yL (zP F) (zP h),by simp⟩;intro cx M K tip s' J w D E _;have I:=mP (repA_pv (yB D (yI F s' (yG E))));refine ⟨J.eval a,?_,yB D (yI h s' (zX E))⟩;simp [execOp,G,I,asBool]
theorem zXm {a b:Operand} (I:o.op=.pick c a b) (F:s.get te t0 c=some (.p (.bool false))) (h:s.get te o.type b=some v) :
  VA P o s (opS c (.p (.bool false))++opS b v) [] v:=by
 refine ⟨?_,yL (zP F) (zP h),by simp⟩;intro cx M K tip s' J w A E _;have G:=mP (repA_pv (yB A (yI F s' (yG E))));refine ⟨J.eval b,?_,yB A (yI h s' (zX E))⟩;simp [execOp,I,G,asBool]
def yX (k:IntKind) (a b:Int):Int:=k.wrap (Qa k.bits a &&& Qa k.bits b).toNat
def ior (k:IntKind) (a b:Int):Int:=k.wrap (Qa k.bits a ||| Qa k.bits b).toNat
def wC (k:IntKind) (a b:Int):Int:=k.wrap (Qa k.bits a ^^^ Qa k.bits b).toNat
def zAn (k:IntKind) (a b:Int):Int:=k.wrap (Qa k.bits a &&& ~~~Qa k.bits b).toNat
def zK0 (k:IntKind) (a:Int):Int:=k.wrap (Qa k.bits (if k.signed then -1 else k.max) ^^^ Qa k.bits a).toNat
def rX (k:IntKind) (a b:Int):Int:=k.wrap (a*2 ^ (min b.toNat k.bits))
def xN (k:IntKind) (a b:Int):Int:=a.fdiv (2 ^ (min b.toNat k.bits))
inductive IOp where | add | sub | mul | and | or | xor | andNot
 deriving DecidableEq
def IOp.op:IOp->BinOp | .add=>.add | .sub=>.sub | .mul=>.mul | .and=>.and | .or=>.or | .xor=>.xor | .andNot=>.andNot
def IOp.val (f:IOp) (k:IntKind) (a b:Int):Int:=match f with
 | .add=>k.wrap (a+b) | .sub=>k.wrap (a - b) | .mul=>k.wrap (a*b) | .and=>yX k a b | .or=>ior k a b | .xor=>wC k a b | .andNot=>zAn k a b
theorem zQi (f:IOp) {v:TypeId} {a:Int} (K:o.op=.binOp f.op A x y v) (G:s.get te A x=some (.p (.int k a))) (D:s.get te v y=some (.p (.int k b))) :
  VA P o s (opS x (.p (.int k a))++opS y (.p (.int k b))) [] (.p (.int k (f.val k a b))):=by
 refine ⟨?_,yL (zP G) (zP D),by simp⟩;intro cx M L tip s' N w F E _;have I:=xK (repA_pv (yB F (yI G s' (yG E))));have J:=xK (repA_pv (yB F (yI D s' (zX E))));refine ⟨.int k _,?_,.p _ _ (.int _ _)⟩;cases f<;>simp [execOp,K,I,J,IOp.op,IOp.val,eqGuard,binOp,Op.intArith,Op.intBits,yX,ior,wC,zAn]
inductive COp where | eql | neq | lss | leq | gtr | geq
 deriving DecidableEq
def COp.op:COp->BinOp | .eql=>.eql | .neq=>.neq | .lss=>.lss | .leq=>.leq | .gtr=>.gtr | .geq=>.geq
def COp.val (f:COp) (a b:Int):Bool:=match f with
 | .eql=>a==b | .neq=>a != b | .lss=>decide (a<b) | .leq=>decide (a<=b) | .gtr=>decide (b<a) | .geq=>decide (b<=a)
theorem yIv (f:COp) {v:TypeId} {a:Int} (K:o.op=.binOp f.op A x y v) (G:s.get te A x=some (.p (.int k a))) (D:s.get te v y=some (.p (.int k b))) :
  VA P o s (opS x (.p (.int k a))++opS y (.p (.int k b))) [] (.p (.bool (f.val a b))):=by
 refine ⟨?_,yL (zP G) (zP D),by simp⟩;intro cx M L tip s' N w F E _;have I:=xK (repA_pv (yB F (yI G s' (yG E))));have J:=xK (repA_pv (yB F (yI D s' (zX E))));refine ⟨.bool _,?_,.p _ _ (.bool _)⟩;cases f<;>simp [execOp,K,I,J,COp.op,COp.val,eqGuard,binOp,Op.intCmp]
theorem yIw {v:TypeId} {a:Int} (J:o.op=.binOp .quo F x y v) (G:s.get te F x=some (.p (.int k a))) (D:s.get te v y=some (.p (.int k b))) (N:b≠0) :
  VA P o s (opS x (.p (.int k a))++opS y (.p (.int k b))) [] (.p (.int k (k.wrap (a.tdiv b)))):=by
 refine ⟨?_,yL (zP G) (zP D),by simp⟩;intro cx M S tip s' T w E A _;have K:=xK (repA_pv (yB E (yI G s' (yG A))));have L:=xK (repA_pv (yB E (yI D s' (zX A))));exact ⟨.int k _,by simp [execOp,J,K,L,eqGuard,binOp,Op.intDiv,N],.p _ _ (.int _ _)⟩
theorem yH5 {v:TypeId} {a:Int} (J:o.op=.binOp .rem A x y v) (G:s.get te A x=some (.p (.int k a))) (D:s.get te v y=some (.p (.int k b))) (I:b≠0) :
  VA P o s (opS x (.p (.int k a))++opS y (.p (.int k b))) [] (.p (.int k (a.tmod b))):=by
 refine ⟨?_,yL (zP G) (zP D),by simp⟩;intro cx M S tip s' T w E F _;have K:=xK (repA_pv (yB E (yI G s' (yG F))));have L:=xK (repA_pv (yB E (yI D s' (zX F))));exact ⟨.int k _,by simp [execOp,J,K,L,eqGuard,binOp,Op.intDiv,I],.p _ _ (.int _ _)⟩
theorem yAx {v:TypeId} {I:IntKind} {a:Int} (J:o.op=.binOp .shl A x y v) (G:s.get te A x=some (.p (.int k a))) (D:s.get te v y=some (.p (.int I b))) (T:0<=b) :
  VA P o s (opS x (.p (.int k a))++opS y (.p (.int I b))) [] (.p (.int k (rX k a b))):=by
 refine ⟨?_,yL (zP G) (zP D),by simp⟩;intro cx M U tip s' V w F E _;have L:=xK (repA_pv (yB F (yI G s' (yG E))));have K:=xK (repA_pv (yB F (yI D s' (zX E))));have N:¬ b<0:=by omega
 exact ⟨.int k _,by simp [execOp,J,L,K,eqGuard,binOp,Op.shift,N,rX],.p _ _ (.int _ _)⟩
theorem yBd {E v:TypeId} {F:IntKind} {a:Int} (N:o.op=.binOp .shr E x y v) (I:s.get te E x=some (.p (.int k a))) (D:s.get te v y=some (.p (.int F b))) (T:0<=b) :
  VA P o s (opS x (.p (.int k a))++opS y (.p (.int F b))) [] (.p (.int k (xN k a b))):=by
 refine ⟨?_,yL (zP I) (zP D),by simp⟩;intro cx M V tip s' U w G A _;have L:=xK (repA_pv (yB G (yI I s' (yG A))));have S:=xK (repA_pv (yB G (yI D s' (zX A))));have K:¬ b<0:=by omega
 exact ⟨.int k _,by simp [execOp,N,L,S,eqGuard,binOp,Op.shift,K,xN],.p _ _ (.int _ _)⟩
def SOp (f:COp) (a b:By):Bool:=match f with
 | .eql=>a==b | .neq=>!(a==b) | .lss=>Op.bytesLess a b | .leq=>Op.bytesLess a b||a==b | .gtr=>!(Op.bytesLess a b||a==b) | .geq=>!Op.bytesLess a b
theorem yEr (f:COp) {v:TypeId} {a b:By} (K:o.op=.binOp f.op A x y v) (E:s.get te A x=some (.p (.str a))) (G:s.get te v y=some (.p (.str b))) :
  VA P o s (opS x (.p (.str a))++opS y (.p (.str b))) [] (.p (.bool (SOp f a b))):=by
 refine ⟨?_,yL (zP E) (zP G),by simp⟩;intro cx M L tip s' N w F D _;have I:=zE6 (repA_pv (yB F (yI E s' (yG D))));have J:=zE6 (repA_pv (yB F (yI G s' (zX D))));refine ⟨.bool _,?_,.p _ _ (.bool _)⟩;cases f<;>simp [execOp,K,I,J,COp.op,SOp,eqGuard,binOp,Op.stringOp]
theorem yH9 {a b:Bool} (hok:yO P te) (ho:o.op=.binOp .eql tx x y tyy) (ht:∃ i,te tx=some i/\i.ty=.bool) (hx:s.get te tx x=some (.p (.bool a))) (hy:s.get te tyy y=some (.p (.bool b))) :
  VA P o s (opS x (.p (.bool a))++opS y (.p (.bool b))) [] (.p (.bool (a==b))):=by
 refine ⟨?_,yL (zP hx) (zP hy),by simp⟩;intro cx M κ tip s' ac w hi hr _;have h1:=mP (repA_pv (yB hi (yI hx s' (yG hr))));have h2:=mP (repA_pv (yB hi (yI hy s' (zX hr))));obtain ⟨i,hi1,hi2⟩:=ht;have hu:=(hok tx i hi1).und;simp only [hi2] at hu;refine ⟨.bool (a==b),?_,.p _ _ (.bool _)⟩;simp [execOp,ho,h1,h2,eqGuard,binOp,run_equal_bool w tx a b hu]
theorem yJn {a b:Bool} (hok:yO P te) (ho:o.op=.binOp .neq tx x y tyy) (ht:∃ i,te tx=some i/\i.ty=.bool) (hx:s.get te tx x=some (.p (.bool a))) (hy:s.get te tyy y=some (.p (.bool b))) :
  VA P o s (opS x (.p (.bool a))++opS y (.p (.bool b))) [] (.p (.bool (!(a==b)))):=by
 refine ⟨?_,yL (zP hx) (zP hy),by simp⟩;intro cx M κ tip s' ac w hi hr _;have h1:=mP (repA_pv (yB hi (yI hx s' (yG hr))));have h2:=mP (repA_pv (yB hi (yI hy s' (zX hr))));obtain ⟨i,hi1,hi2⟩:=ht;have hu:=(hok tx i hi1).und;simp only [hi2] at hu;refine ⟨.bool (!(a==b)),?_,.p _ _ (.bool _)⟩;simp [execOp,ho,h1,h2,eqGuard,binOp,run_equal_bool w tx a b hu]
theorem yKm {a:Bool} (A:o.op=.unOp .not h x) (d:s.get te h x=some (.p (.bool a))):VA P o s (opS x (.p (.bool a))) [] (.p (.bool (!a))):=by
 refine ⟨?_,zP d,by simp⟩;intro cx M I tip s' J w G E _;have D:=mP (repA_pv (yB G (yI d s' E)));exact ⟨.bool _,by simp [execOp,A,D,Op.unary],.p _ _ (.bool _)⟩
theorem yJz {v:TypeId} {a:Int} (E:o.op=.unOp .xor v x) (y:s.get te v x=some (.p (.int k a))):VA P o s (opS x (.p (.int k a))) [] (.p (.int k (zK0 k a))):=by
 refine ⟨?_,zP y,by simp⟩;intro cx M K tip s' J w F G _;have I:=xK (repA_pv (yB F (yI y s' G)));exact ⟨.int k _,by simp [execOp,E,I,Op.unary,Op.intBits,zK0],.p _ _ (.int _ _)⟩
theorem va_conv {G:IntKind} {a:Int} (D:yO P te) (ho:o.op=.convert h A x) (V:(te h).map (·.ty)=some (.int G)) (Y:(te A).map (·.ty)=some (.int k)) (T:s.get te h x=some (.p (.int G a))) :
  VA P o s (opS x (.p (.int G a))) [] (.p (.int k (k.wrap a))):=by
 refine ⟨?_,zP T,by simp⟩;intro cx M κ tip s' ac w U W _;have Z:=xK (repA_pv (yB U (yI T s' W)));obtain ⟨i,J,E⟩:=Q1.1 Y;have S:=(D A i J).und;simp only [E] at S;obtain ⟨j,L,K⟩:=Q1.1 V;have y:=(D h j L).und;simp only [K] at y;exact ⟨.int k _,by simp [execOp,ho,Z,convert,run_underlying S,run_underlying y,Conv.intToInt],.p _ _ (.int _ _)⟩
end
mutual
def AS.rd (s:AS):AV->Option (PV×LB)
 | .p v=>some (v,[])
 | .nl c=>some (c,[])
 | .buf k n=>match s.blk k with
  | some (.buf c)=>some (c.take n,[(k,.buf c)])
  | _=>none
 | .ag l=>match s.rdL l with
  | some (ps,bs)=>some (.agg ps,bs)
  | none=>none
 | .tu l=>match s.rdL l with
  | some (ps,bs)=>some (.tup ps,bs)
  | none=>none
 | _=>none
def AS.rdL (s:AS):List AV->Option (List PV×LB)
 | []=>some ([],[])
 | v :: r=>match s.rd v,s.rdL r with
  | some (p,bs),some (ps,bs')=>some (p :: ps,bs++bs')
  | _,_=>none
end
mutual
theorem uJ:∀ (v:AV) (p:PV) (bs:LB),s.rd v=some (p,bs)->∀ e∈bs,s.blk e.1=some e.2
 | .p v,p,bs,h,e,he=>by simp [AS.rd] at h;obtain ⟨rfl,rfl⟩:=h;simp at he
 | .nl v,p,bs,h,e,he=>by simp [AS.rd] at h;obtain ⟨rfl,rfl⟩:=h;simp at he
 | .buf k n,p,bs,h,e,he=>by
  simp only [AS.rd] at h;split at h
  ·rename_i c hc;simp at h;obtain ⟨rfl,rfl⟩:=h;simp at he;subst he;exact hc
  ·cases h
 | .ag l,p,bs,h,e,he=>by
  simp only [AS.rd] at h;split at h
  ·rename_i ps bs' hl;simp at h;obtain ⟨rfl,rfl⟩:=h;exact bF l ps _ hl e he
  ·cases h
 | .tu l,p,bs,h,e,he=>by
  simp only [AS.rd] at h;split at h
  ·rename_i ps bs' hl;simp at h;obtain ⟨rfl,rfl⟩:=h;exact bF l ps _ hl e he
  ·cases h
 | .ptr _ _,p,bs,h,_,_=>by simp [AS.rd] at h
 | .ref _ _ _,p,bs,h,_,_=>by simp [AS.rd] at h
 | .fnv _ _,p,bs,h,_,_=>by simp [AS.rd] at h
 | .own _ _,p,bs,h,_,_=>by simp [AS.rd] at h
 | .optr _ _ _,p,bs,h,_,_=>by simp [AS.rd] at h
 | .osl _ _ _ _,p,bs,h,_,_=>by simp [AS.rd] at h
theorem bF:∀ (l:List AV) (ps:List PV) (bs:LB),s.rdL l=some (ps,bs)->∀ e∈bs,s.blk e.1=some e.2
 | [],ps,bs,h,e,he=>by simp [AS.rdL] at h;obtain ⟨rfl,rfl⟩:=h;simp at he
 | v :: r,ps,bs,h,e,he=>by
  simp only [AS.rdL] at h;split at h
  ·rename_i p b1 qs b2 h1 h2;simp at h;obtain ⟨rfl,rfl⟩:=h;rcases Q4.1 he with he | he
   ·exact uJ v p b1 h1 e he
   ·exact bF r qs b2 h2 e he
  ·cases h
end
mutual
theorem zR6:∀ (v:AV) (p:PV) (bs:LB),s.rd v=some (p,bs)->(∀ e∈bs,s'.blk e.1=some e.2)->s'.rd v=some (p,bs)
 | .p v,p,bs,h,_=>by simpa [AS.rd] using h
 | .nl v,p,bs,h,_=>by simpa [AS.rd] using h
 | .buf k n,p,bs,h,hb=>by
  simp only [AS.rd] at h;split at h
  ·rename_i c hc;simp at h;obtain ⟨rfl,rfl⟩:=h;have:=hb (k,.buf c) (by simp);simp only at this;simp [AS.rd,this]
  ·cases h
 | .ag l,p,bs,h,hb=>by
  simp only [AS.rd] at h;split at h
  ·rename_i ps bs' hl;simp at h;obtain ⟨rfl,rfl⟩:=h;simp [AS.rd,bT l ps _ hl hb]
  ·cases h
 | .tu l,p,bs,h,hb=>by
  simp only [AS.rd] at h;split at h
  ·rename_i ps bs' hl;simp at h;obtain ⟨rfl,rfl⟩:=h;simp [AS.rd,bT l ps _ hl hb]
  ·cases h
 | .ptr _ _,p,bs,h,_=>by simp [AS.rd] at h
 | .ref _ _ _,p,bs,h,_=>by simp [AS.rd] at h
 | .fnv _ _,p,bs,h,_=>by simp [AS.rd] at h
 | .own _ _,p,bs,h,_=>by simp [AS.rd] at h
 | .optr _ _ _,p,bs,h,_=>by simp [AS.rd] at h
 | .osl _ _ _ _,p,bs,h,_=>by simp [AS.rd] at h
theorem bT:∀ (l:List AV) (ps:List PV) (bs:LB),s.rdL l=some (ps,bs)->(∀ e∈bs,s'.blk e.1=some e.2)->s'.rdL l=some (ps,bs)
 | [],ps,bs,h,_=>by simpa [AS.rdL] using h
 | v :: r,ps,bs,h,hb=>by
  simp only [AS.rdL] at h;split at h
  ·rename_i p b1 qs b2 h1 h2;simp at h;obtain ⟨rfl,rfl⟩:=h;have e1:=zR6 v p b1 h1 (λe he=>hb e (Q4.2 (.inl he)));have e2:=bT r qs b2 h2 (λe he=>hb e (Q4.2 (.inr he)));simp [AS.rdL,e1,e2]
  ·cases h
end
theorem zGs:∀ (l:List AV) (ps:List PV) (bs:LB),s.rdL l=some (ps,bs)->ps.length=l.length/\∀ (j:Nat) (q:PV),ps[j]? = some q->∃ v b,l[j]? = some v/\s.rd v=some (q,b)
 | [],ps,bs,h=>by simp [AS.rdL] at h;simp_all
 | v :: r,ps,bs,h=>by
  simp only [AS.rdL] at h;split at h
  ·rename_i p K I L J F;obtain ⟨rfl,rfl⟩:=h;obtain ⟨N,U⟩:=zGs r I L F;refine ⟨by simp [N],λj q A=>?_⟩;cases j with
   | zero=>simp_all
   | succ j=>simp_all
  ·cases h
theorem zIq {x:Value} (Z:RepA M κ tip s.blk v x):∀ {p:PV} {bs:LB},s.rd v=some (p,bs)->Rep M p x:=by
 induction Z with
 | p v x d=>intro p bs h;simp [AS.rd] at h;obtain ⟨rfl,rfl⟩:=h;exact d
 | nl c d=>
  intro p bs h;simp [AS.rd] at h;obtain ⟨rfl,rfl⟩:=h;unfold PV.nilOf at d;split at d
  ·exact .bytes0
  ·exact .sl0 _
  ·cases d
 | ptr k o b l d S=>intro p bs h;simp [AS.rd] at h
 | ref k o n b l d S=>intro p bs h;simp [AS.rd] at h
 | buf k n c x d hs S y A=>
  intro p bs h;simp only [AS.rd,d] at h;simp_all
 | ag l E d _ J=>
  intro p bs h;simp only [AS.rd] at h;split at h
  ·rename_i ps K I;simp at h;obtain ⟨rfl,rfl⟩:=h;obtain ⟨e1,G⟩:=zGs l ps _ I;refine .agg ps E (by omega) (λj q F=>?_);obtain ⟨v,b,y,A⟩:=G j q F;exact J j v y A
  ·cases h
 | tu l E d _ J=>
  intro p bs h;simp only [AS.rd] at h;split at h
  ·rename_i ps K I;simp at h;obtain ⟨rfl,rfl⟩:=h;obtain ⟨e1,G⟩:=zGs l ps _ I;refine .tup ps E (by omega) (λj q F=>?_);obtain ⟨v,b,y,A⟩:=G j q F;exact J j v y A
  ·cases h
 | fnv f l E d _ _=>intro p bs h;simp [AS.rd] at h
 | own=>intro p bs h;simp [AS.rd] at h
 | optr=>intro p bs h;simp [AS.rd] at h
 | osl=>intro p bs h;simp [AS.rd] at h
theorem yDu (l:By):(ByteArray.mk l.toArray).size=l.length:=rfl
section
theorem eK {F:Nat->Option Nat} (y:Inv cx M F tip s' a w) 
  (A:s.get te t x=some v) (h:s.rd v=some (p,bs)) (D:wR s' (opS x v)) (E:∀ e∈bs,s'.blk e.1=some e.2):Rep M p (a.eval x):=
 zIq (yB y (yI A s' D)) (zR6 v p bs h E)
theorem xB (y:yO P te) (h:(te t).map (·.ty)=some (.slice e)):P.underlying t=some (.slice e):=by
 obtain ⟨i,D,F⟩:=Q1.1 h;have:=(y t i D).und;simp_all
theorem zQl (y:yO P te) (h:(te t).map (·.ty)=some .str):P.underlying t=some .string:=by
 obtain ⟨i,D,F⟩:=Q1.1 h;have:=(y t i D).und;simp_all
theorem yEv (y:yO P te) (h:(te t).map (·.ty)=some (.int k)):P.underlying t=some (.int k):=by
 obtain ⟨i,D,F⟩:=Q1.1 h;have:=(y t i D).und;simp_all
theorem zEt (y:yO P te) (h:(te t).map (·.ty)=some (.arr n e)):P.underlying t=some (.array n e):=by
 obtain ⟨i,E,G⟩:=Q1.1 h;have:=(y t i E).und;simp_all
theorem zA3 (A:yO P te) (h:(te t).map (·.ty)=some (.struct fs)):∃ d,P.underlying t=some (.struct d)/\d.toList.map (λf=>(f.type,f.offset))=fs:=by
 obtain ⟨i,E,G⟩:=Q1.1 h;have:=(A t i E).und;simp_all
theorem vK (v:yO P te) (h:te t=some i) (w:World):(sizeOf t).run P w=.ok i.w w:=by
 obtain ⟨info,z,D,E,_⟩:=(v t i h).info;simp [sizeOf,typeInfo,D,E]
def PV.slen:PV->Option Nat
 | .bytes l=>some l.length
 | .sl _ l=>some l.length
 | .str l=>some l.length
 | _=>none
theorem yJk (hok:yO P te) (ho:o.op=.call { callee:=.builtin .len,args:=#[x],argTypes:=#[t] })
  (ht:(∃ e,(te t).map (·.ty)=some (.slice e))∨(te t).map (·.ty)=some .str) (hx:s.get te t x=some v) (hp:s.rd v=some (p,bs)) (hn:p.slen=some n) (hs:(∃ e,(te t).map (·.ty)=some (.slice e))->p.isSlice=true) (hs':(te t).map (·.ty)=some .str->p.isSlice=false) :
  VA P o s (opS x v) bs (.p (.int .i64 n)):=by
 refine ⟨?_,zP hx,uJ v p bs hp⟩;intro cx M κ tip s' a w hi hr hb;have h1:=eK hi hx hp hr hb;refine ⟨.int .i64 n,?_,.p _ _ (.int _ _)⟩;rcases ht with ⟨e,he⟩ | he
 ·have hu:=xB hok he;have:=hs ⟨e,he⟩;generalize hev:a.eval x=y at h1;cases h1<;>simp [PV.isSlice] at this<;>simp [PV.slen] at hn<;>subst hn<;>simp_all [execOp,resolve,invoke,builtin,Builtin.len_,run_underlying hu,goInt]
 ·have hu:=zQl hok he;have:=hs' he;generalize hev:a.eval x=y at h1;cases h1<;>simp [PV.isSlice] at this<;>simp [PV.slen] at hn<;>subst hn<;>simp_all [execOp,resolve,invoke,builtin,Builtin.len_,run_underlying hu,goInt,yDu]
def PV.idx:PV->Int->Option PV
 | .bytes l,i=>if 0<=i then (l[i.toNat]?).map λb=>.int .u8 b.toNat else none
 | .sl _ l,i=>if 0<=i then l[i.toNat]? else none
 | _,_=>none
theorem add_off (b o n:Nat):(⟨b,o,none⟩:Addr).add n=⟨b,o+n,none⟩:=by unfold Addr.add;simp
theorem yAy {ity:TypeId} {i:Int} (N:yO P te) (ho:o.op=.indexAddr t x y) (ht:(te t).map (·.ty)=some (.slice e)) (he:te e=some ei)
  (hx:s.get te t x=some v) (hp:s.rd v=some (p,bs)) (hw:p.width=ei.w) (hy:s.get te ity y=some (.p (.int .i64 i))) (h:p.idx i=some q) :
  VA P o s (opS x v++opS y (.p (.int .i64 i))) bs (.p (.cptr q)):=by
 refine ⟨?_,yL (zP hx) (zP hy),uJ v p bs hp⟩;intro cx M κ tip s' a w hi hr hb;have h1:=eK hi hx hp (yG hr) hb;have h2:=xK (repA_pv (yB hi (yI hy s' (zX hr))));have hu:=xB N ht;have F:=vK N he w;generalize L:a.eval x=z at h1;cases h1 with
 | bytes l b off n c hn hc hl=>
  simp only [PV.idx] at h;split at h
  ·rename_i h0;obtain ⟨u,K,hu2⟩:=Q1.1 h;subst hu2;have hlt:i.toNat<l.length:=(List.getElem?_eq_some_iff.1 K).1;have D:i<(n:Int):=by omega
   have hm:=hl i.toNat u K;refine ⟨.pointer (some ⟨b,off+i.toNat,none⟩),?_,.p _ _ (.cptr _ b _ ?_ ?_)⟩
   ·simp only [PV.width] at hw;rw [<- hw] at F;simp [execOp,ho,L,h2,Qm,asIntOf,run_underlying hu,h0,D,F,add_off]
   ·intro j q' E;cases j with
    | zero=>simp [PV.cells] at E;simp [hm]
    | succ j=>simp [PV.cells] at E
   ·intro j q' E;cases j with
    | zero=>simp [PV.cells] at E;subst E;simp only [oS,W2,hm,Option.getD_some];exact .int _ _
    | succ j=>simp [PV.cells] at E
  ·cases h
 | sl w' l b off n c hn hc hwd hs hr'=>
  simp only [PV.idx] at h;split at h
  ·rename_i h0;have hlt:i.toNat<l.length:=(List.getElem?_eq_some_iff.1 h).1;have D:i<(n:Int):=by omega
   refine ⟨.pointer (some ⟨b,off+i.toNat*w',none⟩),?_,.p _ _ (.cptr _ b _ ?_ ?_)⟩
   ·simp only [PV.width] at hw;rw [<- hw] at F;simp [execOp,ho,L,h2,Qm,asIntOf,run_underlying hu,h0,D,F,add_off]
   ·intro j q' E;have:=hs i.toNat q j q' h E;rw [Q8];exact this
   ·intro j q' E;have:=hr' i.toNat q j q' h E;rw [Q8];exact this
  ·cases h
 | bytes0=>simp [PV.idx] at h
 | sl0 w'=>simp [PV.idx] at h
 | slE a=>simp [PV.idx] at h
 | _=>simp [PV.idx] at h
theorem zLa {G:TypeId} {k:Nat} {i:Int} {I:TI} (F:yO P te) (Y:o.op=.indexAddr t x y) (ht:(te t).map (·.ty)=some (.arr n e)) (he:te e=some I)
  (S:s.get te t x=some (.ptr k off)) (U:s.get te G y=some (.p (.int .i64 i))) (h0:0<=i) (Z:i<n) :
  VA P o s (opS x (.ptr k off)++opS y (.p (.int .i64 i))) [] (.ptr k (off+i.toNat*I.w)):=by
 refine ⟨?_,yL (zP S) (zP U),by simp⟩;intro cx M κ tip s' a w W V hb;have D:=yB W (yI S s' (yG V));have h2:=xK (repA_pv (yB W (yI U s' (zX V))));have hu:=zEt F ht;have J:=vK F he w;generalize K:a.eval x=z at D;cases D with
 | ptr k o b l hk hl=>
  exact ⟨.pointer _,by simp [execOp,Y,K,h2,Qm,Qc,asIntOf,run_underlying hu,h0,Z,J,add_off],.ptr _ _ b l hk hl⟩
theorem yE8 {k:Nat} {i:Int} {K:TI} (A:yO P te) (ho:o.op=.indexAddr t x y) (ht:(te t).map (·.ty)=some (.slice e)) (he:te e=some K)
  (W:s.get te t x=some (.ref k off n)) (Z:s.get te F y=some (.p (.int .i64 i))) (h0:0<=i) (h1:i<n) :
  VA P o s (opS x (.ref k off n)++opS y (.p (.int .i64 i))) [] (.ptr k (off+i.toNat*K.w)):=by
 refine ⟨?_,yL (zP W) (zP Z),by simp⟩;intro cx M κ tip s' a w Y U hb;have D:=yB Y (yI W s' (yG U));have h2:=xK (repA_pv (yB Y (yI Z s' (zX U))));have hu:=xB A ht;have I:=vK A he w;generalize J:a.eval x=z at D;cases D with
 | ref k o n b l hk hl=>
  exact ⟨.pointer _,by simp [execOp,ho,J,h2,Qm,asIntOf,run_underlying hu,h0,h1,I,add_off],.ptr _ _ b l hk hl⟩
theorem yKj {k L:Nat} {Z:TI} (I:yO P te) (ho:o.op=.fieldAddr t x f) (ht:(te t).map (·.ty)=some (.struct fs)) (Y:fs[f]? = some (T,L)) (he:te T=some Z) (hw:Z.w≠0)
  (W:s.get te ty x=some (.ptr k off)):VA P o s (opS x (.ptr k off)) [] (.ptr k (off+L)):=by
 refine ⟨?_,zP W,by simp⟩;intro cx M κ tip s' a w hi hr hb;have F:=yB hi (yI W s' hr);obtain ⟨y,hu,N⟩:=zA3 I ht;have K:=vK I he w;have h:∃ E,y[f]? = some E/\E.type=T/\E.offset=L:=by
  rw [<- N,List.getElem?_map] at Y;simp_all
 obtain ⟨E,S,rfl,rfl⟩:=h;generalize U:a.eval x=z at F;cases F with
 | ptr k o b l hk hl=>
  exact ⟨.pointer _,by simp [execOp,ho,U,Wd,Qc,run_underlying hu,S,fieldPlace,K,hw,add_off],.ptr _ _ b l hk hl⟩
def iE (agg:Bool) (l:List PV) (off w:Nat):Option PV:=bif agg then (bif Nat.ble (off+w) l.length then some (.agg ((l.drop off).take w)) else none) else (match l[off]? with | some (.agg _)=>none | r=>r)
def TI.isAgg (i:TI):Bool:=match i.ty with | .struct _ | .arr _ _=>true | _=>false
theorem aJ {w:Nat} {b:Bool} (h:iE b l off w=some q):∀ (j:Nat) (D:PV),q.cells[j]? = some D->l[off+j]? = some D:=by
 intro j D d;unfold iE at h;cases b with
 | true=>
  cases F:Nat.ble (off+w) l.length with
  | false=>simp [F] at h
  | true=>
   simp [F] at h;subst h;simp only [PV.cells,List.getElem?_take,List.getElem?_drop] at d;simp_all
 | false=>
  split at h
  ·cases h
  ·rename_i E;have K:q.cells=[q]:=by
    cases q<;>first | rfl | (exact (E _ h).elim)
   rw [K] at d;cases j with
   | zero=>simp at d;subst d;simpa using h
   | succ j=>simp at d
theorem yDo {fo:Nat} {N:TI} (F:yO P te) (ho:o.op=.fieldAddr t x f) (ht:(te t).map (·.ty)=some (.struct fs)) (hf:fs[f]? = some (T,fo)) (he:te T=some N) (hw:N.w≠0)
  (hx:s.get te ty x=some (.p (.cptr (.agg l)))) (hq:iE N.isAgg l fo N.w=some q):VA P o s (opS x (.p (.cptr (.agg l)))) [] (.p (.cptr q)):=by
 refine ⟨?_,zP hx,by simp⟩;intro cx M κ tip s' a w hi hr hb;have I:=repA_pv (yB hi (yI hx s' hr));obtain ⟨y,hu,Z⟩:=zA3 F ht;have W:=vK F he w;have v:∃ E,y[f]? = some E/\E.type=T/\E.offset=fo:=by
  rw [<- Z,List.getElem?_map] at hf;obtain ⟨E,U,K⟩:=Q1.1 hf;simp at K;exact ⟨E,by simpa using U,K.1,K.2⟩
 obtain ⟨E,Y,rfl,rfl⟩:=v;generalize bc:a.eval x=z at I;cases I with
 | cptr p b o U K=>
  refine ⟨.pointer (some ⟨b,o+E.offset,none⟩),by simp [execOp,ho,bc,Wd,Qc,run_underlying hu,Y,fieldPlace,W,hw,add_off],.p _ _ (.cptr _ b _ ?_ ?_)⟩
  ·intro j G V;rw [Q8];exact U _ G (aJ hq j G V)
  ·intro j G V;rw [Q8];exact K _ G (aJ hq j G V)
theorem yFn {N:TypeId} {i:Int} {G:TI} (D:yO P te) (ho:o.op=.indexAddr t x y) (ht:(te t).map (·.ty)=some (.arr n e)) (he:te e=some G)
  (Y:s.get te t x=some (.p (.cptr (.agg l)))) (V:s.get te N y=some (.p (.int .i64 i))) (h0:0<=i) (h1:i<n) (hq:iE G.isAgg l (i.toNat*G.w) G.w=some q) :
  VA P o s (opS x (.p (.cptr (.agg l)))++opS y (.p (.int .i64 i))) [] (.p (.cptr q)):=by
 refine ⟨?_,yL (zP Y) (zP V),by simp⟩;intro cx M κ tip s' a w Z W hb;have F:=repA_pv (yB Z (yI Y s' (yG W)));have h2:=xK (repA_pv (yB Z (yI V s' (zX W))));have hu:=zEt D ht;have T:=vK D he w;generalize L:a.eval x=z at F;cases F with
 | cptr p b o h3 h4=>
  refine ⟨.pointer (some ⟨b,o+i.toNat*G.w,none⟩),by simp [execOp,ho,L,h2,Qm,Qc,asIntOf,run_underlying hu,h0,h1,T,add_off],.p _ _ (.cptr _ b _ ?_ ?_)⟩
  ·intro j E K;rw [Q8];exact h3 _ E (aJ hq j E K)
  ·intro j E K;rw [Q8];exact h4 _ E (aJ hq j E K)
theorem yFl (F:o.op=.nilCheck x) (E:s.get te ty x=some v) (I:(∃ k n,v=.ptr k n)∨∃ q,v=.p (.cptr q)):VA P o s (opS x v) [] v:=by
 refine ⟨?_,zP E,by simp⟩;intro cx M V tip s' a w J K T;have d:=yB J (yI E s' K);refine ⟨a.eval x,?_,d⟩;generalize A:a.eval x=z at d;rcases I with ⟨k,n,rfl⟩ | ⟨q,rfl⟩
 ·cases d with
  | ptr k o b l U L=>simp [execOp,F,A]
 ·cases d with
  | p _ _ d=>cases d with
   | cptr p b o N S=>simp [execOp,F,A]
theorem zX2 (D:yO P te) (h:te t=some i) (E:i.isAgg=true) (w:World):(isAgg t).run P w=.ok true w:=by
 have v:=(D t i h).und;unfold TI.isAgg at E;split at E
 ·rename_i fs d;simp only [d] at v;obtain ⟨A,v,_⟩:=v;simp [isAgg,run_underlying v]
 ·rename_i n e d;simp only [d] at v;simp [isAgg,run_underlying v]
 simp_all
theorem zSq (E:yO P te) (h:te t=some i) (J:i.isAgg=false) (I:i.ty≠.other) (w:World):(isAgg t).run P w=.ok false w:=by
 have v:=(E t i h).und;unfold TI.isAgg at J;cases d:i.ty with
 | struct fs=>simp [d] at J
 | arr n e=>simp [d] at J
 | bool=>simp only [d] at v;simp [isAgg,run_underlying v]
 | int k=>simp only [d] at v;simp [isAgg,run_underlying v]
 | str=>simp only [d] at v;simp [isAgg,run_underlying v]
 | slice e=>simp only [d] at v;simp [isAgg,run_underlying v]
 | ptr e=>simp only [d] at v;simp [isAgg,run_underlying v]
 | func=>simp only [d] at v;obtain ⟨a,b,c,v⟩:=v;simp [isAgg,run_underlying v]
 | iface=>simp only [d] at v;obtain ⟨Z,v⟩:=v;simp [isAgg,run_underlying v]
 | other=>exact (I d).elim
def TI.plain (i:TI):Bool:=match i.ty with | .struct _ | .arr _ _ | .other=>false | _=>true
theorem zP9 (h:i.plain=true):i.isAgg=false/\i.ty≠.other:=by
 unfold TI.plain at h;unfold TI.isAgg;split at h<;>first  | simp_all
theorem gI (v:yO P te) (h:te t=some i) (A:i.plain=true) {a:Addr} {x:Value} (E:w.cell? a=some x):(loadVar t a).run P w=.ok x w:=by
 obtain ⟨D,F⟩:=zP9 A;simp [loadVar,zSq v h D F,E]
theorem zA2 (v:yO P te) (h:te t=some i) (A:i.isAgg=true) {a:Addr} (cs:List Value) (G:cs.length=i.w) (E:∀ (j:Nat) (u:Value),cs[j]? = some u->w.cell? (a.add j)=some u) :
  (loadVar t a).run P w=.ok (.agg cs.toArray) w:=by
 have:=run_loadCells_list (P:=P) w a cs E;rw [G] at this;simp [loadVar,zX2 v h A,vK v h,this]
theorem yGd {k:Nat} {l:List AV} (J:yO P te) (ho:o.op=.load t x) (ht:te t=some i) (Z:i.plain=true) (W:s.get te ty x=some (.ptr k off)) (hb:s.blk k=some (.var l)) (S:l[off]? = some v) :
  VA P o s (opS x (.ptr k off)) [(k,.var l)] v:=by
 refine ⟨?_,zP W,by simpa using hb⟩;intro cx M κ tip s' a w U Y I;have G:=yB U (yI W s' Y);have L:=I (k,.var l) (by simp);obtain ⟨b,A,e,fz,h1,h2,h3,h4,h5,h6⟩:=U.vars k l L;generalize K:a.eval x=z at G;cases G with
 | ptr k o b' l' T bd=>
  rw [h1] at T;cases T;have bf:=(List.getElem?_eq_some_iff.1 S).1;have h:off<A.size:=by omega
  have D:w.cell? ⟨b,off,none⟩=some A[off]:=by simp [World.cell?,h2,h]
  refine ⟨A[off],?_,?_⟩
  ·simp [execOp,ho,K,Qt,Qc,gI J ht Z D]
  ·have:=h5 off v S;simp_all
theorem zNi {k:Nat} {l:List AV} (N:yO P te) (ho:o.op=.load t x) (ht:te t=some i) (hp:i.isAgg=true) (Y:s.get te ty x=some (.ptr k off)) (hb:s.blk k=some (.var l)) (hv:off+i.w<=l.length) :
  VA P o s (opS x (.ptr k off)) [(k,.var l)] (.ag ((l.drop off).take i.w)):=by
 refine ⟨?_,zP Y,by simpa using hb⟩;intro cx M κ tip s' a w V hr L;have D:=yB V (yI Y s' hr);have T:=L (k,.var l) (by simp);obtain ⟨b,h,e,fz,h1,h2,h3,h4,h5,h6⟩:=V.vars k l T;generalize S:a.eval x=z at D;cases D with
 | ptr k o b' l' W be=>
  rw [h1] at W;cases W;have G:((h.toList.drop off).take i.w).length=i.w:=by simp;omega
  refine ⟨.agg ((h.toList.drop off).take i.w).toArray,?_,?_⟩
  ·have:=zA2 N ht hp (w:=w) (a:=⟨b,off,none⟩) ((h.toList.drop off).take i.w) G (by
    intro j u J;rw [List.getElem?_take,List.getElem?_drop] at J;split at J
    ·rw [add_off];simp [World.cell?,h2];simpa using J
    ·cases J)
   simp [execOp,ho,S,Qt,Qc,this]
  ·refine .ag _ _ (by simp;omega) (λj q K=>?_);rw [List.getElem?_take,List.getElem?_drop] at K;split at K
   ·rename_i hj;have:=h5 (off+j) q K;have U:off+j<h.size:=by omega
    simpa [hj,U,List.getElem?_take,List.getElem?_drop] using this
   ·cases K
theorem zXe (F:yO P te) (S:o.op=.load t x) (T:te t=some i) (U:i.plain=true) (K:s.get te ty x=some (.p (.cptr q))) (I:q.cells=[q]) :
  VA P o s (opS x (.p (.cptr q))) [] (.p q):=by
 refine ⟨?_,zP K,by simp⟩;intro cx M κ tip s' a w N Z W;have A:=repA_pv (yB N (yI K s' Z));generalize E:a.eval x=z at A;cases A with
 | cptr p b o V h2=>
  have Y:=V 0 q (by simp_all);have J:=h2 0 q (by simp_all);obtain ⟨y,G⟩:=Q2.1 Y;simp only [W2] at G J;have v:=N.mem b o y G;refine ⟨y,by simp [execOp,S,E,Qt,Qc,gI F T U v],.p _ _ ?_⟩;simpa [oS,G] using J
theorem zT7 (S:yO P te) (ho:o.op=.load t x) (ht:te t=some i) (hp:i.isAgg=true) (W:s.get te ty x=some (.p (.cptr (.agg l)))) (hl:l.length=i.w) :
  VA P o s (opS x (.p (.cptr (.agg l)))) [] (.p (.agg l)):=by
 refine ⟨?_,zP W,by simp⟩;intro cx M κ tip s' a w hi hr bk;have J:=repA_pv (yB hi (yI W s' hr));generalize T:a.eval x=z at J;cases J with
 | cptr p b o V h2=>
  simp only [PV.cells] at V h2;have K:((Q0 i.w).map λj=>oS M b (o+j)).length=i.w:=by simp
  refine ⟨.agg ((Q0 i.w).map λj=>oS M b (o+j)).toArray,?_,.p _ _ (.agg _ _ (by simp [hl]) ?_)⟩
  ·have:=zA2 S ht hp (w:=w) (a:=⟨b,o,none⟩) ((Q0 i.w).map λj=>oS M b (o+j)) K (by
    intro j u hu;rw [List.getElem?_map] at hu;obtain ⟨E,G,U⟩:=Q1.1 hu;have A:j<i.w:=by
     have:=(List.getElem?_eq_some_iff.1 G).1;simpa using this
    have:E=j:=by
     have:=(List.getElem?_eq_some_iff.1 G).2;simpa using this.symm
    subst this;have N:l[E]? = some l[E]:=by simp [hl,A]
    have h3:=V E l[E] N;obtain ⟨y,Z⟩:=Q2.1 h3;rw [add_off];have:=hi.mem b (o+E) y Z;rw [this,<- U];simp [oS,Z])
   simp [execOp,ho,T,Qt,Qc,this]
  ·intro j q N;have A:j<i.w:=by
    have:=(List.getElem?_eq_some_iff.1 N).1;omega
   have:=h2 j q N;simpa [A] using this
theorem zWy (F:yO P te) (h:te t=some i) {A:Array Value} (Y:A.size=l.length) (S:∀ (j:Nat) (q:PV),l[j]? = some q->Rep M q (A.getD j undef)) 
  (d:iE i.isAgg l off i.w=some q) (T:i.ty≠.other) (w:World):∃ x,(part t A off).run P w=.ok x w/\Rep M q x:=by
 unfold iE at d;cases K:i.isAgg with
 | true=>
  simp only [K,cond_true] at d;cases D:Nat.ble (off+i.w) l.length with
  | false=>simp [D] at d
  | true=>
   simp [D] at d;subst d;have U:off+i.w<=l.length:=Nat.le_of_ble_eq_true D;refine ⟨.agg (A.extract off (off+i.w)),by simp [part,zX2 F h K,vK F h],.agg _ _ (by simp;omega) ?_⟩;intro j q d;rw [List.getElem?_take,List.getElem?_drop] at d;split at d
   ·rename_i hj;have:=S (off+j) q d;have G:off+j<A.size:=by omega
    have J:j<min (off+i.w) A.size - off:=by omega
    simpa [G,J] using this
   ·cases d
 | false=>
  simp only [K,cond_false] at d;split at d
  ·cases d
  ·have G:off<l.length:=(List.getElem?_eq_some_iff.1 d).1;have y:off<A.size:=by omega
   refine ⟨A[off],by simp [part,zSq F h K T,y],?_⟩;have:=S off q d;simpa [y] using this
theorem zZ3 {K:TypeId} {i:Int} {A:TI} (h:yO P te) (ho:o.op=.index t x y) (ht:(te t).map (·.ty)=some (.arr n e)) (W:te e=some A) (F:A.ty≠.other)
  (U:s.get te t x=some v) (hp:s.rd v=some (.agg l,bs)) (Z:s.get te K y=some (.p (.int .i64 i))) (h0:0<=i) (hn:i<n) (hq:iE A.isAgg l (i.toNat*A.w) A.w=some q) :
  VA P o s (opS x v++opS y (.p (.int .i64 i))) bs (.p q):=by
 refine ⟨?_,yL (zP U) (zP Z),uJ v _ bs hp⟩;intro cx M κ tip s' a w V Y hb;have h1:=eK V U hp (yG Y) hb;have h2:=xK (repA_pv (yB V (yI Z s' (zX Y))));have hu:=zEt h ht;generalize I:a.eval x=z at h1;cases h1 with
 | agg l vs h3 h4=>
  obtain ⟨y',S,N⟩:=zWy h W h3 h4 hq F w;exact ⟨y',by simp [execOp,ho,I,h2,Instr.index,asIntOf,run_underlying hu,h0,hn,vK h W,S],.p _ _ N⟩
theorem va_extractA {l:List AV} (L:o.op=.extract x n) (F:s.get te ty x=some (.tu l)) (E:l[n]? = some v):VA P o s (opS x (.tu l)) [] v:=by
 refine ⟨?_,zP F,by simp⟩;intro cx M W tip s' a w K S U;have J:=yB K (yI F s' S);generalize D:a.eval x=z at J;cases J with
 | tu l I V N=>
  have T:=(List.getElem?_eq_some_iff.1 E).1;have d:n<I.size:=by omega
  refine ⟨I[n],by simp [execOp,L,D,Instr.extract,d],?_⟩;have:=N n v E;simp_all
end
inductive Bd (s:AS) (te:TE):Option Operand->Option Int->LV->Prop where
 | none:Bd s te none none []
 | some (x:Operand) (k:IntKind) (i:Int):s.get te 0 x=some (.p (.int k i))->Bd s te (some x) (some i) (opS x (.p (.int k i)))
theorem Bd.reads {x:Option Operand} {i:Option Int} {v:LV} (h:Bd s te x i v):wR s v:=by
 cases h with
 | none=>intro e A;simp_all
 | some x k i h=>exact zP h
theorem Bd.eval {x:Option Operand} {i:Option Int} {rs:LV} (h:Bd s te x i rs) (hi:Inv cx M κ tip s' a w) (hr:wR s' rs) :
  ∃ f:Int->IntKind,x.map a.eval=i.map λn=>.int (f n) n:=by
 cases h with
 | none=>exact ⟨λ_=>.i64,rfl⟩
 | some x k i h=>
  have:=xK (repA_pv (yB hi (yI h s' hr)));exact ⟨λ_=>k,by simp [this]⟩
theorem qN (P:Program) (w:World) (k:IntKind) (i:Int) (y:Nat) (c:BoundsCode) (h:0<=i) (D:i<=y):(W6 (.int k i) y c).run P w=.ok i.toNat w:=by
 simp [W6,asIntOf,h,D]
theorem aW (P:Program) (w:World) (b:Bool) (D cap:Nat) (F G I:Option Int) (fl Z fm:Int->IntKind) (U:I.isSome=true->G.isSome=true)
  (E:0<=F.getD 0) (J:F.getD 0<=G.getD D) (T:G.getD D<=I.getD cap) (V:I.getD cap<=cap) :
  (Qb b D cap (F.map λn=>.int (fl n) n) (G.map λn=>.int (Z n) n) (I.map λn=>.int (fm n) n)).run P w=.ok ((F.getD 0).toNat,(G.getD D).toNat,(I.getD cap).toNat) w:=by
 cases I with
 | none=>
  cases G with
  | none=>
   cases F with
   | none=>simp [Qb]
   | some l=>simp at E J;simp [Qb,qN P w _ l D _ E J]
  | some h=>
   simp at E J T;have S:0<=h:=by omega
   cases F with
   | none=>simp [Qb,qN P w _ h cap _ S T]
   | some l=>
    simp at E J;have W:l<=(h.toNat:Int):=by omega
    simp [Qb,qN P w _ h cap _ S T,qN P w _ l h.toNat _ E W]
 | some m=>
  cases G with
  | none=>simp at U
  | some h=>
   simp at E J T V;have S:0<=h:=by omega
   have Y:0<=m:=by omega
   have K:h<=(m.toNat:Int):=by omega
   cases F with
   | none=>simp [Qb,qN P w _ m cap _ Y V,qN P w _ h m.toNat _ S K]
   | some l=>
    simp at E J;have W:l<=(h.toNat:Int):=by omega
    simp [Qb,qN P w _ m cap _ Y V,qN P w _ h m.toNat _ S K,qN P w _ l h.toNat _ E W]
def PV.sub:PV->Nat->Nat->PV
 | .bytes l,a,b=>.bytes ((l.drop a).take (b - a))
 | .sl w l,a,b=>.sl w ((l.drop a).take (b - a))
 | .str l,a,b=>.str ((l.drop a).take (b - a))
 | p,_,_=>p
theorem yDs (h:p.isSlice=true) {a:Nat} {b o c:Nat} (K:Rep M p (.slice (some ⟨b,o,none⟩) n c)) (A:Nat):Rep M (p.sub a a) (.slice (some ⟨b,o,none⟩) 0 A):=by
 cases K with
 | bytesE a=>simp only [PV.sub,Qu];exact .bytes [] b o 0 A rfl (Qw _) (by simp)
 | slE a=>simp only [PV.sub,Qu];exact .sl 4 [] b o 0 A rfl (Qw _) (by simp) (by simp) (by simp)
 | bytes l b o n c I J G=>simp only [PV.sub,Qu];exact .bytes [] b o 0 A rfl (Qw _) (by simp)
 | sl w l b o n c I J G N S=>simp only [PV.sub,Qu,List.take_zero];exact .sl w [] b o 0 A rfl (Qw _) (by simp) (by simp) (by simp)
theorem yFx (h:p.isSlice=true) {v E:Nat} {b o c:Nat} (S:Rep M p (.slice (some ⟨b,o,none⟩) n c)) (h1:v<=E) (Y:E<=n) (m:Nat) (Z:E<=m) :
  Rep M (p.sub v E) (.slice (some ⟨b,o+v*p.width,none⟩) (E - v) (m - v)):=by
 cases S with
 | bytesE a=>
  simp only [PV.sub,PV.width,Nat.mul_one];exact .bytes _ b _ _ _ (by simp;omega) (by omega) (by simp)
 | slE a=>
  simp only [PV.sub,PV.width];exact .sl 4 _ b _ _ _ (by simp;omega) (by omega) (by simp) (by simp) (by simp)
 | bytes l b o n c V T J=>
  simp only [PV.sub,PV.width,Nat.mul_one];refine .bytes _ b _ _ _ (by simp;omega) (by omega) ?_;intro i x G;rw [List.getElem?_take,List.getElem?_drop] at G;split at G
  ·rw [Q8];exact J _ x G
  ·cases G
 | sl w l b o n c V T J U W=>
  simp only [PV.sub,PV.width];refine .sl w _ b _ _ _ (by simp;omega) (by omega) ?_ ?_ ?_
  ·intro i p d;rw [List.getElem?_take,List.getElem?_drop] at d;split at d
   ·exact J _ p d
   ·cases d
  ·intro i p j q d I;rw [List.getElem?_take,List.getElem?_drop] at d;split at d
   ·have:=U _ p j q d I;rw [Q8,<- Q8 (v*w),<- Nat.add_mul];exact this
   ·cases d
  ·intro i p j q d I;rw [List.getElem?_take,List.getElem?_drop] at d;split at d
   ·have:=W _ p j q d I;rw [Q8,<- Q8 (v*w),<- Nat.add_mul];exact this
   ·cases d
theorem nD {x:Value} (h:Rep M p x) (I:p.isSlice=true):(x=.slice none 0 0/\p.len=0)∨(∃ b o n c,x=.slice (some ⟨b,o,none⟩) n c/\n=p.len/\n<=c)∨∃ a,x=.slice (some a) 0 0/\(p=.bytes []∨p=.sl 4 []):=by
 cases h<;>simp [PV.isSlice] at I
 ·exact .inl ⟨rfl,rfl⟩
 ·simp
 ·rename_i l b o n c E F J;exact .inr (.inl ⟨b,o,n,c,rfl,E,F⟩)
 ·exact .inl ⟨rfl,rfl⟩
 ·simp
 ·rename_i w l b o n c E F J L N;exact .inr (.inl ⟨b,o,n,c,rfl,E,F⟩)
section
theorem yD7 (D:p.isSlice=true) (F:p.len=0) :Rep M (p.sub 0 0) (.slice none 0 0):=by
 cases p with
 | bytes l=>exact .bytes0
 | sl w l=>exact .sl0 w
 | _=>simp [PV.isSlice] at D
theorem zL3 {lo hi mx:Option Operand} {A y h:Option Int} {rl rh rm:LV} (hok:yO P te) (ho:o.op=.slice t x lo hi mx)
  (ht:(te t).map (·.ty)=some (.slice e)) (he:te e=some ei) (hx:s.get te t x=some v) (hp:s.rd v=some (p,bs)) (hsl:p.isSlice=true) (hw:p.width=ei.w)
  (hlo:Bd s te lo A rl) (hhi:Bd s te hi y rh) (hmx:Bd s te mx h rm) (hm:h.isSome=true->y.isSome=true)
  (h0:0<=A.getD 0) (h1:A.getD 0<=y.getD p.len) (h2:y.getD p.len<=h.getD p.len) (h3:h.getD p.len<=p.len) :
  VA P o s (opS x v++(rl++(rh++rm))) bs (.p (p.sub (A.getD 0).toNat (y.getD p.len).toNat)):=by
 refine ⟨?_,yL (zP hx) (yL hlo.reads (yL hhi.reads hmx.reads)),uJ v p bs hp⟩;intro cx M κ tip s' a w hin hr hb;have h4:=eK hin hx hp (yG hr) hb;obtain ⟨fl,hfl⟩:=hlo.eval hin (yG (zX hr));obtain ⟨fh,hfh⟩:=hhi.eval hin (yG (zX (zX hr)));obtain ⟨fm,hfm⟩:=hmx.eval hin (zX (zX (zX hr)));have hu:=xB hok ht;have hsz:=vK hok he w;rcases nD h4 hsl with ⟨hxe,hl⟩ | ⟨b,off,n,c,hxe,hn,hc⟩ | ⟨aa,hxe,hpe⟩
 ·rw [hl] at h1 h2 h3;have I:=aW P w true 0 0 A y h fl fh fm hm h0 (by simpa using h1) (by simpa using h2) (by simpa using h3);have e1:(A.getD 0).toNat=0:=by simp at h1 h2 h3;omega
  have e2:(y.getD (0:Nat)).toNat=0:=by simp at h1 h2 h3;simp;omega
  have e3:(h.getD (0:Nat)).toNat=0:=by simp at h1 h2 h3;simp;omega
  rw [e1,e2,e3] at I;refine ⟨.slice none 0 0,?_,.p _ _ ?_⟩
  ·simp [execOp,ho,hxe,Qr,Qx,run_underlying hu,hfl,hfh,hfm,I,hsz]
  ·rw [hl,e1,e2];exact yD7 hsl hl
 ·have h3':h.getD (c:Int)<=c:=by cases h with | none=>simp | some m=>simp at h3 ⊢;omega
  have h2':y.getD (n:Int)<=h.getD c:=by
   rw [hn];cases h with
   | none=>simp at h2 ⊢;omega
   | some m=>simpa using h2
  have I:=aW P w true n c A y h fl fh fm hm h0 (by rw [hn];exact h1) h2' h3';rw [<- hn] at h1 h2 h3;have hlh:(A.getD 0).toNat<=(y.getD (n:Int)).toNat:=by omega
  have hhn:(y.getD (n:Int)).toNat<=n:=by omega
  have hhm:(y.getD (n:Int)).toNat<=(h.getD (c:Int)).toNat:=by omega
  rw [hxe] at h4;by_cases hml:(h.getD (c:Int)).toNat=(A.getD 0).toNat
  ·have:(y.getD (n:Int)).toNat=(A.getD 0).toNat:=by omega
   refine ⟨.slice (some ⟨b,off,none⟩) 0 ((h.getD (c:Int)).toNat - (A.getD 0).toNat),?_,.p _ _ ?_⟩
   ·simp [execOp,ho,hxe,Qr,Qx,run_underlying hu,hfl,hfh,hfm,I,hsz,hml,this]
   ·rw [<- hn,this];exact yDs hsl h4 _
  ·refine ⟨.slice (some ⟨b,off+(A.getD 0).toNat*p.width,none⟩) ((y.getD (n:Int)).toNat - (A.getD 0).toNat) ((h.getD (c:Int)).toNat - (A.getD 0).toNat),?_,.p _ _ ?_⟩
   ·rw [hw];simp [execOp,ho,hxe,Qr,Qx,run_underlying hu,hfl,hfh,hfm,I,hsz,hml,add_off]
   ·rw [<- hn];exact yFx hsl h4 hlh hhn _ hhm
 ·have hl:p.len=0:=by rcases hpe with rfl | rfl<;>rfl
  rw [hl] at h1 h2 h3;have I:=aW P w true 0 0 A y h fl fh fm hm h0 (by simpa using h1) (by simpa using h2) (by simpa using h3);have e1:(A.getD 0).toNat=0:=by simp at h1 h2 h3;omega
  have e2:(y.getD (0:Nat)).toNat=0:=by simp at h1 h2 h3;simp;omega
  have e3:(h.getD (0:Nat)).toNat=0:=by simp at h1 h2 h3;simp;omega
  rw [e1,e2,e3] at I;refine ⟨.slice (some aa) 0 0,?_,.p _ _ ?_⟩
  ·simp [execOp,ho,hxe,Qr,Qx,run_underlying hu,hfl,hfh,hfm,I,hsz]
  ·rw [hl,e1,e2];rcases hpe with rfl | rfl;exact .bytesE aa;exact .slE aa
theorem yJo {I:TypeId} {a:Int} (N:o.op=.call { callee:=.builtin .min,args:=#[x,y],argTypes:=#[t,I] }) (E:s.get te t x=some (.p (.int k a))) (F:s.get te I y=some (.p (.int k b))) :
  VA P o s (opS x (.p (.int k a))++opS y (.p (.int k b))) [] (.p (.int k (if b<a then b else a))):=by
 refine ⟨?_,yL (zP E) (zP F),by simp⟩;intro cx M U tip s' T w J G _;have L:=xK (repA_pv (yB J (yI E s' (yG G))));have S:=xK (repA_pv (yB J (yI F s' (zX G))));refine ⟨.int k _,?_,.p _ _ (.int _ _)⟩;simp [execOp,N,L,S,resolve,invoke,builtin,Builtin.min_,Builtin.min2]
def zA (c:PV):AV:=bif c.nilOf then .nl c else .p c
theorem yI4 {c:PV} (h:c.zok=true):RepA M D tip B (zA c) (zv c):=by
 unfold PV.zok at h;split at h<;>first | simp_all
 ·exact .p _ _ (.bool _)
 ·exact .p _ _ (.int _ _)
 ·exact .p _ _ (.str _)
 ·exact .nl _ rfl
 ·exact .nl _ rfl
 ·exact .p _ _ .nilp
 ·exact .p _ _ .err0
def AV.cells:AV->List AV
 | .ag l=>l
 | .p (.agg l)=>l.map .p
 | v=>[v]
theorem bG {x:Value} (h:RepA M κ tip B v x) :
  x.cells.size=v.cells.length/\∀ (j:Nat) (q:AV),v.cells[j]? = some q->RepA M κ tip B q (x.cells.getD j undef):=by
 have d:∀ (v:AV) (x:Value),RepA M κ tip B v x->v.cells=[v]->x.cells=#[x]->x.cells.size=v.cells.length/\∀ (j:Nat) (q:AV),v.cells[j]? = some q->RepA M κ tip B q (x.cells.getD j undef):=by
  intro v x h y A;rw [y,A];refine ⟨rfl,λj q hq=>?_⟩;cases j with
  | zero=>simp at hq;subst hq;simpa using h
  | succ j=>simp at hq
 cases h with
 | p p x hr=>
  cases hr with
  | agg l vs y A=>
   simp only [AV.cells,Value.cells];refine ⟨by simp [y],λj q hq=>?_⟩;rw [List.getElem?_map] at hq;obtain ⟨p,D,I⟩:=Q1.1 hq;subst I;exact .p _ _ (A j p D)
  | bool b=>exact d _ _ (.p _ _ (.bool b)) rfl rfl
  | int k n=>exact d _ _ (.p _ _ (.int k n)) rfl rfl
  | str s=>exact d _ _ (.p _ _ (.str s)) rfl rfl
  | bytes0=>exact d _ _ (.p _ _ .bytes0) rfl rfl
  | bytesE a=>exact d _ _ (.p _ _ (.bytesE a)) rfl rfl
  | bytes l b o n c y A D=>exact d _ _ (.p _ _ (.bytes l b o n c y A D)) rfl rfl
  | sl0 w=>exact d _ _ (.p _ _ (.sl0 w)) rfl rfl
  | slE a=>exact d _ _ (.p _ _ (.slE a)) rfl rfl
  | sl w l b o n c y A D I h5=>exact d _ _ (.p _ _ (.sl w l b o n c y A D I h5)) rfl rfl
  | tup l vs y A=>exact d _ _ (.p _ _ (.tup l vs y A)) rfl rfl
  | cptr p b o y A=>exact d _ _ (.p _ _ (.cptr p b o y A)) rfl rfl
  | nilp=>exact d _ _ (.p _ _ .nilp) rfl rfl
  | fn f fs cs vf vc y A D I=>exact d _ _ (.p _ _ (.fn f fs cs vf vc y A D I)) rfl rfl
  | err0=>exact d _ _ (.p _ _ .err0) rfl rfl
  | err1 t v=>exact d _ _ (.p _ _ (.err1 t v)) rfl rfl
 | nl c y=>exact d _ _ (.nl c y) rfl rfl
 | ptr k o b l y A=>exact d _ _ (.ptr k o b l y A) rfl rfl
 | ref k o n b l y A=>exact d _ _ (.ref k o n b l y A) rfl rfl
 | buf k n c x y E A D I=>
  refine d _ _ (.buf k n c x y E A D I) rfl ?_;have hs':(c.take n).isSlice=true:=by cases c<;>simp_all [PV.take,PV.isSlice]
  rcases nD D hs' with ⟨hx,_⟩ | ⟨b,o,m,cc,hx,_⟩ | ⟨aa,hx,_⟩<;>rw [hx]<;>rfl
 | ag l vs y A=>exact ⟨y,A⟩
 | tu l vs y A=>exact d _ _ (.tu l vs y A) rfl rfl
 | fnv f l vs y A=>exact d _ _ (.fnv f l vs y A) rfl (by unfold mkF;cases W9 f 1000000<;>rfl)
 | own k n w l x y A D E=>exact d _ _ (.own k n w l x y A D E) rfl (by obtain ⟨a,m,c,rfl⟩:=E;rfl)
 | optr k n o w l x y A D E=>exact d _ _ (.optr k n o w l x y A D E) rfl (by obtain ⟨a,rfl⟩:=E;rfl)
 | osl k n o m w l x y A D E=>exact d _ _ (.osl k n o m w l x y A D E) rfl (by obtain ⟨a,m',c,rfl⟩:=E;rfl)
end
end Go.Sw
