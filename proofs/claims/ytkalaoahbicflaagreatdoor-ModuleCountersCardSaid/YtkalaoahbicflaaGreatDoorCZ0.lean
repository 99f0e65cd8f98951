/- A part. -/
import Derived.Calls
import Derived.Orders
import Derived.KernelRfl
import Derived.ArgAppend
import Derived.Laws.MakeOwn
import Derived.WalkKit
import Derived.LoopN
set_option linter.all false
open Option renaming map_eq_some_iff -> Q0, isSome_iff_exists -> Q1, getD_some -> Wf
open List renaming range -> Q2, all_eq_true -> Q3, mem_append -> Q4, mem_range -> Q8, mem_cons -> Qb, mem_cons_of_mem -> Qh, length_cons -> Qi, filterMap_cons -> Qj, foldl_cons -> Qk, mem_of_getElem? -> Qn, mem_filter -> Qo, mem_map -> Qp, length_eq_zero_iff -> Qr, eq_nil_iff_forall_not_mem -> Qu, eq_nil_of_length_eq_zero -> Qv, range_succ_eq_map -> W0, filterMap_append -> W3, map_cons -> W5, drop_succ_cons -> W6, mem_cons_self -> W8, filter_append -> W9, filter_congr -> Wd, filter_cons -> We, cons_append -> Wh, range_succ -> Wi
open Bool renaming and_eq_true -> Q5, eq_false_iff -> Qg, or_eq_true -> Qt, not_eq_true' -> Wc, not_true -> Wk
open Array renaming getD_eq_getD_getElem? -> Q6, foldl_toList -> Ql, replicate -> Wj
open Go.Region renaming binds -> Q7, before -> Qf, wanted -> Wl
open Nat renaming beq -> Q9, add_assoc -> Qa, eq_of_beq_eq_true -> Qm, add_zero -> Qq, sub_self -> Qz, zero_le -> W1, le_of_ble_eq_true -> W4, ne_of_lt -> W7, blt -> Wa, ble -> Wb
open Go.Instr renaming sureAddr -> Qc, sliceBounds -> Qe, indexAt -> Qs, sliceAt -> Qw, loadAt -> Qy, slice -> W2, sliceBound -> Wg, fieldAt -> Wm
open BitVec renaming ofInt -> Qd
open Go.Result renaming andThen_ok -> Qx
namespace Go.Sw
open Go
def jh {p:Prop} (h:p:=by omega):p:=h
def ji {p:Prop} (h:p:=by decide):p:=h
def jk {p:Prop} (h:p:=by simp):p:=h
def jl {p:Prop} (h:p:=by simp;omega):p:=h
def jm {p:Prop} (h:p:=by simp_all):p:=h
def jn {p:Prop} (h:p:=by decide +kernel):p:=h
def jo {p:Prop} (h:p:=by kernel_rfl):p:=h
def jp {p:Prop} (h:p:=by exact a):p:=h
variable {A:TypeId}{D:Nat->Option Nat}{F:TypeId}{P:Program}{T W:Nat->Option Nat}{a:Act}{af:Array Edge}{b:Nat}{c:Operand}{d:Nat}{e:TypeId}{f fo:Nat}{fs:List (TypeId×Nat)}{h:TypeId}{id k n:Nat}{o:Oper}{off:Nat}{ops:Array Oper}{pos:String}{ps:Array (Nat×Operand)}{r:List Oper}{t t0:TypeId}{tip:Nat->Value}{ty:TypeId}{w:World}{x y:Operand}{α:Type}{κ:Nat->Option Nat}
abbrev By:=List UInt8
inductive PV where
 | bool (b:Bool)
 | int (k:IntKind) (n:Int)
 | str (s:By)
 | bytes (l:By)
 | sl (w:Nat) (l:List PV)
 | agg (l:List PV)
 | tup (l:List PV)
 | cptr (p:PV)
 | nilp
 | fn (f:FuncId) (first caps:List PV)
 | box (l:List PV)
 | err (nonNil:Bool)
 deriving Inhabited
variable {p q:PV}
def PV.cells:PV->List PV
 | .agg l=>l
 | p=>[p]
def pq {β:Type} {a c:α} {b d:β} (h:(a,b)=(c,d)):a=c/\b=d:=Prod.mk.inj h
def rC:List Int:=[1,0,0,1,0,2,0,0,1,0,4,0,0,0,0,5,0,0,2,0,6,0,0,1,2,7,0,0,1,1,8,0,0,1,0,9,1,1,3,3,10,1,1,3,3,11,1,1,0,2,12,0,0,1,0,13,1,1,0,0,14,1,1,0,1,15,1,1,2,1,16,0,0,1,0,17,0,0,6,(-1),18,1,1,2,1,19,0,0,1,3,20,0,0,1,0,21,1,1,4,2,22,1,1,1,0,23,2,1,1,1,24,2,1,2,0,25,2,1,0,0,26,2,1,0,1,27,2,1,0,1,28,2,1,0,0,29,2,1,0,0,30,1,1,0,1,31,1,1,0,0,32,1,1,0,0,33,1,1,3,0]
def zGl:PV:=.agg (rC.map (PV.int .i64))
def vI:By:=[83,87]
def zF9:PV:=.agg (vI.map λx=>PV.int .u8 x.toNat)
def wQ:List Int:=[1116352408,1899447441,3049323471,3921009573,961987163,1508970993,2453635748,2870763221,3624381080,310598401,607225278,1426881987,1925078388,2162078206,2614888103,3248222580,3835390401,4022224774,264347078,604807628,770255983,1249150122,1555081692,1996064986,2554220882,2821834349,2952996808,3210313671,3336571891,3584528711,113926993,338241895,666307205,773529912,1294757372,1396182291,1695183700,1986661051,2177026350,2456956037,2730485921,2820302411,3259730800,3345764771,3516065817,3600352804,4094571909,275423344,430227734,506948616,659060556,883997877,958139571,1322822218,1537002063,1747873779,1955562222,2024104815,2227730452,2361852424,2428436474,2756734187,3204031479,3329325298]
def zEl:PV:=.agg (wQ.map (PV.int .u32))
def GL (g:Nat):Option PV:=bif Q9 g 0 then some zGl else bif Q9 g 1 then some zF9 else bif Q9 g 2 then some zEl else none
abbrev Mem:=Nat->Nat->Option Value
variable {M M':Mem}
def mget (M:Mem) (b o:Nat):Value:=(M b o).getD undef
def Mem.le (M M':Mem):Prop:=∀ b o x,M b o=some x->M' b o=some x
inductive Rep (M:Mem):PV->Value->Prop where
 | bool (b:Bool):Rep M (.bool b) (.bool b)
 | int (k:IntKind) (n:Int):Rep M (.int k n) (.int k n)
 | str (s:By):Rep M (.str s) (.string ⟨s.toArray⟩)
 | bytes0:Rep M (.bytes []) (.slice none 0 0)
 | bytesE (a:Addr):Rep M (.bytes []) (.slice (some a) 0 0)
 | bytes (l:By) (b o n c:Nat):n=l.length->n<=c ->
   (∀ (i:Nat) (x:UInt8),l[i]? = some x->M b (o+i)=some (.int .u8 x.toNat))->Rep M (.bytes l) (.slice (some ⟨b,o,none⟩) n c)
 | sl0 (w:Nat):Rep M (.sl w []) (.slice none 0 0)
 | slE (a:Addr):Rep M (.sl 4 []) (.slice (some a) 0 0)
 | sl (w:Nat) (l:List PV) (b o n c:Nat):n=l.length->n<=c ->
   (∀ (i:Nat) (p:PV),l[i]? = some p->p.cells.length=w) ->
   (∀ (i:Nat) (p:PV) (j:Nat) (q:PV),l[i]? = some p->p.cells[j]? = some q->(M b (o+(i*w+j))).isSome=true) ->
   (∀ (i:Nat) (p:PV) (j:Nat) (q:PV),l[i]? = some p->p.cells[j]? = some q->Rep M q (mget M b (o+(i*w+j)))) ->
   Rep M (.sl w l) (.slice (some ⟨b,o,none⟩) n c)
 | agg (l:List PV) (vs:Array Value):vs.size=l.length->(∀ (j:Nat) (q:PV),l[j]? = some q->Rep M q (vs.getD j undef))->Rep M (.agg l) (.agg vs)
 | tup (l:List PV) (vs:Array Value):vs.size=l.length->(∀ (j:Nat) (q:PV),l[j]? = some q->Rep M q (vs.getD j undef))->Rep M (.tup l) (.tuple vs)
 | cptr (p:PV) (b o:Nat):(∀ (j:Nat) (q:PV),p.cells[j]? = some q->(M b (o+j)).isSome=true) ->
   (∀ (j:Nat) (q:PV),p.cells[j]? = some q->Rep M q (mget M b (o+j)))->Rep M (.cptr p) (.pointer (some ⟨b,o,none⟩))
 | nilp:Rep M .nilp (.pointer none)
 | fn (f:FuncId) (fs cs:List PV) (vf vc:Array Value):vf.size=fs.length->vc.size=cs.length ->
   (∀ (j:Nat) (q:PV),fs[j]? = some q->Rep M q (vf.getD j undef))->(∀ (j:Nat) (q:PV),cs[j]? = some q->Rep M q (vc.getD j undef)) ->
   Rep M (.fn f fs cs) (.func (.func f) vf vc)
 | err0:Rep M (.err false) .nilIface
 | err1 (t:TypeId) (v:Value):Rep M (.err true) (.iface t v)
def zTm (h:M.le M') {o:Nat} (A:(M b o).isSome=true):mget M' b o=mget M b o:=by
 obtain ⟨x,y⟩:=Q1.1 A;simp [mget,y,h b o x y]
def zS7 (h:M.le M') {o:Nat} (A:(M b o).isSome=true):(M' b o).isSome=true:=by
 obtain ⟨x,y⟩:=Q1.1 A;simp [h b o x y]
def Mem.le_refl (M:Mem):M.le M:=λ_ _ _ h=>h
def Mem.le.trans' {A B C:Mem} (h:A.le B) (k:B.le C):A.le C:=λb o x e=>k b o x (h b o x e)
def Rep.mono (h:M.le M') {v:Value} (hr:Rep M p v):Rep M' p v:=by
 induction hr with
 | bool b=>exact .bool b
 | int k n=>exact .int k n
 | str s=>exact .str s
 | bytes0=>exact .bytes0
 | bytesE a=>exact .bytesE a
 | bytes l b o n c d J Y=>exact .bytes l b o n c d J λi x hx=>h _ _ _ (Y i x hx)
 | sl0 w=>exact .sl0 w
 | slE a=>exact .slE a
 | sl w l b o n c d J Y h4 _ E=>
  exact .sl w l b o n c d J Y (λi p j q L y=>zS7 h (h4 i p j q L y))
   (λi p j q L y=>by rw [zTm h (h4 i p j q L y)];simp_all)
 | agg l W d _ E=>exact .agg l W d E
 | tup l W d _ E=>exact .tup l W d E
 | cptr p b o d _ E=>exact .cptr p b o (λj q y=>zS7 h (d j q y)) (λj q y=>by rw [zTm h (d j q y)];simp_all)
 | nilp=>exact .nilp
 | fn f fs cs vf vc d J _ _ i1 i2=>exact .fn f fs cs vf vc d J i1 i2
 | err0=>exact .err0
 | err1 t v=>exact .err1 t v
inductive AV where
 | p (v:PV)
 | nl (c:PV)
 | ptr (k o:Nat)
 | ref (k o n:Nat)
 | buf (k n:Nat)
 | ag (l:List AV)
 | tu (l:List AV)
 | fnv (f:FuncId) (l:List AV)
 | own (k n:Nat)
 | optr (k n o:Nat)
 | osl (k n o m:Nat)
 deriving Inhabited
variable {cs l:List AV}{v:AV}
abbrev LV:=List (Nat×AV)
variable {rs vs:LV}
inductive ABlk where
 | var (l:List AV)
 | buf (c:PV)
 | own (w:Nat) (l:List AV)
 deriving Inhabited
abbrev NB:=Nat->Option ABlk
variable {B:NB}
abbrev LB:=List (Nat×ABlk)
variable {bs:LB}
structure AS where
 env:Nat->Option AV
 blk:NB
variable {Q:Exit->AS->Prop}{s s':AS}
def AS.put (s:AS) (d:Nat) (v:AV):AS:={ s with env:=λt=>bif Q9 t d then some v else s.env t }
def AS.setb (s:AS) (k:Nat) (b:ABlk):AS:={ s with blk:=λt=>bif Q9 t k then some b else s.blk t }
def PV.len:PV->Nat
 | .bytes l=>l.length
 | .sl _ l=>l.length
 | _=>0
def PV.take:PV->Nat->PV
 | .bytes l,n=>.bytes (l.take n)
 | .sl w l,n=>.sl w (l.take n)
 | p,_=>p
def PV.width:PV->Nat
 | .sl w _=>w
 | _=>1
def PV.isSlice:PV->Bool
 | .bytes _ | .sl _ _=>true
 | _=>false
def PV.nilOf:PV->Bool
 | .bytes [] | .sl _ []=>true
 | _=>false
def mkF (f:FuncId) (vs:Array Value):Value:=bif Wa f 1000000 then .func (.func f) vs #[] else .func (.func (f - 1000000)) #[] vs
section
variable (M:Mem) (κ:Nat->Option Nat) (tip:Nat->Value) (B:NB)
inductive yT:AV->Value->Prop where
 | p (v:PV) (x:Value):Rep M v x->yT (.p v) x
 | nl (c:PV):c.nilOf=true->yT (.nl c) (.slice none 0 0)
 | ptr (k o b:Nat) (l:List AV):κ k=some b->B k=some (.var l)->yT (.ptr k o) (.pointer (some ⟨b,o,none⟩))
 | ref (k o n b:Nat) (l:List AV):κ k=some b->B k=some (.var l)->yT (.ref k o n) (.slice (some ⟨b,o,none⟩) n n)
 | buf (k n:Nat) (c:PV) (x:Value):B k=some (.buf c)->c.isSlice=true->n<=c.len->Rep M (c.take n) x->(n=c.len->x=tip k)->yT (.buf k n) x
 | ag (l:List AV) (vs:Array Value):vs.size=l.length->(∀ (j:Nat) (q:AV),l[j]? = some q->yT q (vs.getD j undef))->yT (.ag l) (.agg vs)
 | tu (l:List AV) (vs:Array Value):vs.size=l.length->(∀ (j:Nat) (q:AV),l[j]? = some q->yT q (vs.getD j undef))->yT (.tu l) (.tuple vs)
 | fnv (f:FuncId) (l:List AV) (vs:Array Value):vs.size=l.length->(∀ (j:Nat) (q:AV),l[j]? = some q->yT q (vs.getD j undef))->yT (.fnv f l) (mkF f vs)
 | own (k n w:Nat) (l:List AV) (x:Value):B k=some (.own w l)->n*w<=l.length->(n*w=l.length->x=tip k)->(∃ a m c,x=.slice a m c)->yT (.own k n) x
 | optr (k n o w:Nat) (l:List AV) (x:Value):B k=some (.own w l)->n*w<=l.length->(n*w=l.length->∃ b,κ k=some b/\x=.pointer (some ⟨b,o,none⟩))->(∃ a,x=.pointer a)->yT (.optr k n o) x
 | osl (k n o m w:Nat) (l:List AV) (x:Value):B k=some (.own w l)->n*w<=l.length->(n*w=l.length->∃ b c,κ k=some b/\x=.slice (some ⟨b,o,none⟩) m c/\m<=c)->(∃ a m c,x=.slice a m c)->yT (.osl k n o m) x
end
def zDu (fz:Nat×Nat) (n:Nat):Prop:=fz.1=fz.2∨n<=fz.1
def BIG:Nat:=1000000000
structure PKs where
 l:List (Nat×Nat)
 ob:List Nat
 nk:∀ e∈l,e.1<BIG
instance:Membership (Nat×Nat) PKs:=⟨λp e=>e∈p.l⟩
def zP4:PKs:=⟨[],[],λ_ h=>by cases h⟩
@[simp] def yQc {p:PKs} {e:Nat×Nat}:e∈p↔e∈p.l:=Iff.rfl
@[simp] def noPK_l:zP4.l=[]:=rfl
@[simp] def yQb:zP4.ob=[]:=rfl
structure Ctx where
 w0:World
 M0:Mem
 pk:PKs
 nt:Nat
 df:List Deferred
variable {cx:Ctx}
def Ctx.pb (cx:Ctx):List Nat:=cx.pk.l.map (·.2)
abbrev Ctx.ob (cx:Ctx):List Nat:=cx.pk.ob
structure yMd (cx:Ctx) (w:World):Prop where
 os:w.os=cx.w0.os
 tape:w.tape=cx.w0.tape
 output:w.output=cx.w0.output
 size:cx.w0.heap.size<=w.heap.size
 block:∀ b,b<cx.w0.heap.size->b∉cx.pb->b∉cx.ob->w.heap[b]? = cx.w0.heap[b]?
def yN9 (w:World):Prop:=∀ g p,GL g=some p->0<p.cells.length/\∃ arr e fz,w.heap[g]? = some (.cells arr e fz)/\arr.size=p.cells.length
def GlobOk (w:World) (M:Mem):Prop:=(∀ g p,GL g=some p->Rep M (.cptr p) (.pointer (some ⟨g,0,none⟩)))/\yN9 w
def GlobOk.mono (h:M.le M') (v:GlobOk w M):GlobOk w M':=⟨λg p e=>(v.1 g p e).mono h,v.2⟩
def zKq (cx:Ctx) (M:Mem) (κ:Nat->Option Nat) (tip:Nat->Value) (B:NB) (w:World):Prop:=
 ∀ k wd l,B k=some (.own wd l)->(wd=0/\κ k=none/\l=[.p (.tup [])])∨0<wd/\((tip k=.slice none 0 0/\κ k=none/\l=[])∨∃ b n cap arr e fz,tip k=.slice (some ⟨b,0,none⟩) n cap/\κ k=some b/\(cx.w0.heap.size<=b∨b∈cx.ob/\BIG<=k) /\
  w.heap[b]? = some (.cells arr e fz)/\zDu fz arr.size/\n*wd=l.length/\cap*wd<=arr.size/\n<=cap/\cap<=maxLen/\(∀ (j:Nat) (q:AV),l[j]? = some q->yT M κ tip B q (arr.getD j undef))/\∀ o,M b o=none)
structure Inv (cx:Ctx) (M:Mem) (κ:Nat->Option Nat) (tip:Nat->Value) (s:AS) (a:Act) (w:World):Prop where
 defers:a.defers=cx.df
 size:a.tmps.size=cx.nt
 fr:yMd cx w
 mem:∀ b o x,M b o=some x->w.cell? ⟨b,o,none⟩=some x
 env:∀ t v,s.env t=some v->∃ x,a.tmps[t]? = some x/\yT M κ tip s.blk v x
 vars:∀ k l,s.blk k=some (.var l)->∃ b arr e fz,κ k=some b/\w.heap[b]? = some (.cells arr e fz)/\zDu fz arr.size /\
  arr.size=l.length/\(∀ (j:Nat) (q:AV),l[j]? = some q->yT M κ tip s.blk q (arr.getD j undef))/\(∀ o,M b o=none)/\(cx.w0.heap.size<=b∨b∈cx.pb)
 bufs:∀ k c,s.blk k=some (.buf c)->Rep M c (tip k)/\c.isSlice=true/\0<c.width /\
  ((tip k=.slice none 0 0/\κ k=none)∨∃ b n cap arr e fz,tip k=.slice (some ⟨b,0,none⟩) n cap/\κ k=some b/\cx.w0.heap.size<=b /\
   w.heap[b]? = some (.cells arr e fz)/\zDu fz arr.size/\cap*c.width<=arr.size/\cap<=maxLen/\∀ j,n*c.width<=j->M b j=none)
 inj:∀ k k' b,κ k=some b->κ k'=some b->k=k'
 dom:∀ k,s.blk k=none->κ k=none
 old:(∀ b o,b<cx.w0.heap.size->M b o=cx.M0 b o)/\∀ b∈cx.ob,b<cx.w0.heap.size/\∀ o,cx.M0 b o=none
 glob:GlobOk cx.w0 M
 owns:zKq cx M κ tip s.blk w
def Inv.globw (y:Inv cx M W tip s a w) (Y:∀ k∈cx.pk,W k.1=some k.2/\k.2<cx.w0.heap.size):GlobOk w M:=by
 refine ⟨y.glob.1,λg p L=>?_⟩;obtain ⟨N,S,e,fz,V,h2⟩:=y.glob.2 g p L;have F:g<cx.w0.heap.size:=(Array.getElem?_eq_some_iff.1 V).1;refine ⟨N,S,e,fz,?_,h2⟩;rw [y.fr.block g F ?_ (λK=>by
  have D:(M g 0).isSome=true:=by
   cases y.glob.1 g p L with
   | cptr _ _ _ v T=>exact v 0 _ (List.getElem?_eq_getElem N)
  rw [y.old.1 g 0 F,(y.old.2 g K).2 0] at D;cases D)]
 ·exact V
 intro K;obtain ⟨k,Z,rfl⟩:=Qp.1 K;obtain ⟨d,_⟩:=Y k Z;have D:(M k.2 0).isSome=true:=by
  cases y.glob.1 k.2 p L with
  | cptr _ _ _ v T=>exact v 0 _ (List.getElem?_eq_getElem N)
 cases J:s.blk k.1 with
 | none=>rw [y.dom _ J] at d;cases d
 | some bl=>
  cases bl with
  | var l=>
   obtain ⟨b,_,_,_,v,_,_,_,_,h8,_⟩:=y.vars _ l J;rw [d] at v;cases v;rw [h8 0] at D;cases D
  | buf c=>
   obtain ⟨_,_,_,h | ⟨b,_,_,_,_,_,_,v,T,_⟩⟩:=y.bufs _ c J
   ·rw [d] at h;cases h.2
   ·rw [d] at v;cases v;omega
  | own wd l=>
   rcases y.owns _ wd l J with ⟨_,h,_⟩ | ⟨_,h | ⟨b,_,_,_,_,_,_,v,_,_,_,_,_,_,_,_,h5⟩⟩
   ·rw [d] at h;cases h
   ·rw [d] at h;cases h.2.1
   simp_all
def SRel (cx:Ctx) (s:AS) (a:Act) (w:World):Prop:=∃ M κ tip,cx.M0.le M/\(∀ k∈cx.pk,κ k.1=some k.2/\k.2<cx.w0.heap.size)/\Inv cx M κ tip s a w
def yT.mono (h:M.le M') {x:Value}
  (Z:yT M T tip B v x):yT M' T tip B v x:=by
 induction Z with
 | p v x d=>exact .p v x (d.mono h)
 | nl c d=>exact .nl c d
 | ptr k o b l d y=>exact .ptr k o b l d y
 | ref k o n b l d y=>exact .ref k o n b l d y
 | buf k n c x d V y A D=>exact .buf k n c x d V y (A.mono h) D
 | ag l F d _ G=>exact .ag l F d G
 | tu l F d _ G=>exact .tu l F d G
 | fnv f l F d _ G=>exact .fnv f l F d G
 | own k n w l x d y A D=>exact .own k n w l x d y A D
 | optr k n o w l x d y A D=>exact .optr k n o w l x d y A D
 | osl k n o m w l x d y A D=>exact .osl k n o m w l x d y A D
structure GLe (κ κ':Nat->Option Nat) (tip tip':Nat->Value) (B B':NB):Prop where
 var:∀ k b l,κ k=some b->B k=some (.var l)->κ' k=some b/\∃ l',B' k=some (.var l')
 buf:∀ k c,B k=some (.buf c)->∃ c',B' k=some (.buf c')/\(c.isSlice=true->c'.isSlice=true)/\c.len<=c'.len/\(∀ n,n<=c.len->c'.take n=c.take n)/\(c'.len=c.len->tip' k=tip k)
 own:∀ k w l,B k=some (.own w l)->∃ w' l',B' k=some (.own w' l')/\((w'=w/\l.length<=l'.length/\(l'.length=l.length->κ' k=κ k/\tip' k=tip k))∨(w'=0/\l'≠[]))
def yT.ghost {S:Nat->Option Nat} {K:Nat->Value} {B':NB} (h:GLe κ S tip K B B') {x:Value}
  (hr:yT M κ tip B v x):yT M S K B' v x:=by
 induction hr with
 | p v x d=>exact .p v x d
 | nl c d=>exact .nl c d
 | ptr k o b l d I=>obtain ⟨F,l',E⟩:=h.var k b l d I;exact .ptr k o b l' F E
 | ref k o n b l d I=>obtain ⟨E,l',N⟩:=h.var k b l d I;exact .ref k o n b l' E N
 | buf k n c x d A I F E=>
  obtain ⟨c',D,y,L,g4,g5⟩:=h.buf k c d;refine .buf k n c' x D (y A) jh (by rw [g4 n I];exact F) (λe=>?_);rw [E jh,g5 jh]
 | ag l V d _ T=>exact .ag l V d T
 | tu l V d _ T=>exact .tu l V d T
 | fnv f l V d _ T=>exact .fnv f l V d T
 | own k n w l x d I F A=>
  obtain ⟨w',l',D,⟨rfl,y,L⟩ | ⟨rfl,y⟩⟩:=h.own k w l d
  ·exact .own k n _ l' x D jh (λe=>by rw [F jh,(L jh).2]) A
  ·exact .own k n 0 l' x D jh (λe=>(y (Qr.1 jh)).elim) A
 | optr k n o w l x d I F A=>
  obtain ⟨w',l',D,⟨rfl,y,L⟩ | ⟨rfl,y⟩⟩:=h.own k w l d
  ·exact .optr k n o _ l' x D jh (λe=>by
    obtain ⟨b,E,N⟩:=F jh;exact ⟨b,by rw [(L jh).1];exact E,N⟩) A
  ·exact .optr k n o 0 l' x D jh (λe=>(y (Qr.1 jh)).elim) A
 | osl k n o m w l x d I F A=>
  obtain ⟨w',l',D,⟨rfl,y,L⟩ | ⟨rfl,y⟩⟩:=h.own k w l d
  ·exact .osl k n o m _ l' x D jh (λe=>by
    obtain ⟨b,c,E,N⟩:=F jh;exact ⟨b,c,by rw [(L jh).1];exact E,N⟩) A
  ·exact .osl k n o m 0 l' x D jh (λe=>(y (Qr.1 jh)).elim) A
def GLe.same {D:NB} {d:Nat->Value} {c:PV} (F:D k=some (.buf c)) (E:d k=tip k) :
  ∃ y,D k=some (.buf y)/\(c.isSlice=true->y.isSlice=true)/\c.len<=y.len/\(∀ n,n<=c.len->y.take n=c.take n)/\(y.len=c.len->d k=tip k):=by simp_all
def GLe.sameO {D:NB} {A v:Nat->Option Nat} {d:Nat->Value} {w:Nat} (F:D k=some (.own w l)) (I:v k=A k) (E:d k=tip k) :
  ∃ w' l',D k=some (.own w' l')/\((w'=w/\l.length<=l'.length/\(l'.length=l.length->v k=A k/\d k=tip k))∨(w'=0/\l'≠[])):=⟨w,l,F,.inl ⟨rfl,Nat.le_refl _,λ_=>⟨I,E⟩⟩⟩
def zKq.live (h:zKq cx M D tip B w) {wd:Nat} (L:B k=some (.own wd l)) (J:n*wd=l.length) :
  0<wd/\((tip k=.slice none 0 0/\D k=none/\l=[])∨∃ b n cap y e F,tip k=.slice (some ⟨b,0,none⟩) n cap/\D k=some b/\(cx.w0.heap.size<=b∨b∈cx.ob/\BIG<=k) /\
  w.heap[b]? = some (.cells y e F)/\zDu F y.size/\n*wd=l.length/\cap*wd<=y.size/\n<=cap/\cap<=maxLen/\(∀ (j:Nat) (q:AV),l[j]? = some q->yT M D tip B q (y.getD j undef))/\∀ o,M b o=none):=by
 rcases h k wd l L with ⟨I,_,G⟩ | h
 ·simp_all
 omega
def zKq.keep {y:Nat->Option Nat} {v:Nat->Value} {J:NB} {w':World} (h:zKq cx M D tip B w)
  (hk:∀ k wd l,J k=some (.own wd l)->B k=some (.own wd l)/\y k=D k/\v k=tip k/\(∀ b,D k=some b->w'.heap[b]? = w.heap[b]? /\ ∀ o,M b o=none->M' b o=none)/\∀ (j:Nat) (q:AV) (x:Value),l[j]? = some q->yT M D tip B q x->yT M' y v J q x) :
  zKq cx M' y v J w':=by
 intro k wd l hb;obtain ⟨h1,S,Y,Z,h5⟩:=hk k wd l hb;rcases h k wd l h1 with ⟨U,K,N⟩ | ⟨U,K⟩
 ·simp_all
 refine .inr ⟨U,?_⟩;rcases K with ⟨N,g4,g5⟩ | ⟨b,n,cap,T,e,fz,q1,G,q3,q4,q5,q6,q7,q8,q9,I,L⟩
 ·simp_all
 ·exact .inr ⟨b,n,cap,T,e,fz,by rw [Y];exact q1,by rw [S];exact G,q3,by rw [(Z b G).1];exact q4,q5,q6,q7,q8,q9,λj q W=>h5 j q _ W (I j q W),λo=>(Z b G).2 o (L o)⟩
def lk:List (Nat×α)->Nat->Option α
 | [],_=>none
 | (k,v) :: r,t=>bif Q9 t k then some v else lk r t
def zHq {D:Type}:∀ (l:List (Nat×D)) (t:Nat),t∉l.map (·.1)->lk l t=none
 | [],_,_=>rfl
 | (k,v) :: r,t,h=>by
  simp only [W5,Qb,not_or] at h;have:Q9 t k=false:=by rw [Qg];simp_all
  simp only [lk,this];exact zHq r t h.2
structure Mic where
 slots:LV
 blks:LB
 fresh:List Nat
 out:Option (Nat×Option AV)
 wr:LB
variable {m:Mic}{ms:List Mic}
def Mic.holds (m:Mic) (s:AS):Prop:=
 (∀ e∈m.slots,s.env e.1=some e.2)/\(∀ e∈m.blks,s.blk e.1=some e.2)/\(∀ k∈m.fresh,s.blk k=none)
def zJe (o:Option (Nat×Option AV)) (env:Nat->Option AV):Nat->Option AV:=
 match o with
 | none=>env
 | some (d,v)=>λt=>bif Q9 t d then v else env t
def Mic.upd (m:Mic) (s:AS):AS:={ env:=zJe m.out s.env,blk:=λk=>(lk m.wr k).or (s.blk k) }
def Mic.ws (m:Mic):List Nat:=match m.out with | none=>[] | some (d,_)=>[d]
def aA (l r:List Nat):Bool:=l.all λx=>r.all λy=>!Nat.beq x y
def dV {l r:List Nat} (h:aA l r=true) {x:Nat} (v:x∈l) (y:x∈r):False:=by
 simp only [aA,Q3] at h;have:=h x v x y;simp_all
def zKb:List (Nat×α)->List Nat
 | []=>[]
 | (k,_) :: r=>k :: zKb r
def zLj {h:Type}:∀ (l:List (Nat×h)),zKb l=l.map (·.1)
 | []=>rfl
 | (_,_) :: r=>by simp [zKb,zLj r]
def Mic.indep (m n:Mic):Bool:=
 aA m.ws (zKb n.slots++n.ws)&&aA n.ws (zKb m.slots) &&
 aA (zKb m.wr) (zKb n.blks++n.fresh++zKb n.wr)&&aA (zKb n.wr) (zKb m.blks++m.fresh)
def zK9 {o:Option (Nat×Option AV)} {env:Nat->Option AV} {t:Nat} (h:∀ d v,o=some (d,v)->t≠d):zJe o env t=env t:=by
 cases o with
 | none=>rfl
 | some e=>
  obtain ⟨d,v⟩:=e;have:Q9 t d=false:=by rw [Qg];simp_all
  simp [zJe,this]
def Mic.upd_env {t:Nat} (h:t∉m.ws):(m.upd s).env t=s.env t:=by
 refine zK9 (λd v e=>?_);intro y;exact h (by simp [Mic.ws,e,y])
def Mic.upd_blk (h:k∉m.wr.map (·.1)):(m.upd s).blk k=s.blk k:=by
 simp [Mic.upd,zHq _ _ h]
def Mic.holds_iff {n:Mic} (h:m.indep n=true) (s:AS):n.holds (m.upd s)↔n.holds s:=by
 simp only [Mic.indep,zLj,Q5] at h;obtain ⟨⟨⟨K,L⟩,D⟩,N⟩:=h;have G:∀ e∈n.slots,(m.upd s).env e.1=s.env e.1:=λe d=>
  Mic.upd_env λA=>dV K A (Q4.2 (.inl (Qp.2 ⟨e,d,rfl⟩)))
 have F:∀ e∈n.blks,(m.upd s).blk e.1=s.blk e.1:=λe d=>
  Mic.upd_blk λA=>dV D A (Q4.2 (.inl (Q4.2 (.inl (Qp.2 ⟨e,d,rfl⟩)))))
 have E:∀ k∈n.fresh,(m.upd s).blk k=s.blk k:=λk v=>
  Mic.upd_blk λA=>dV D A (Q4.2 (.inl (Q4.2 (.inr v))))
 constructor
 ·rintro ⟨a,b,c⟩;exact ⟨λe d=>by rw [<- G e d];exact a e d,λe d=>by rw [<- F e d];exact b e d,λk v=>by rw [<- E k v];exact c k v⟩
 ·rintro ⟨a,b,c⟩;exact ⟨λe d=>by rw [G e d];exact a e d,λe d=>by rw [F e d];exact b e d,λk v=>jm⟩
def Mic.indep_comm {n:Mic} (h:m.indep n=true):n.indep m=true:=by
 have flip:∀ {l r:List Nat},aA l r=true->aA r l=true:=by
  intro l r h;simp only [aA,Q3,Wc] at *;intro x A y E;have:=h y E x A;rw [Qg] at this ⊢;intro e;exact this jm
 have D:∀ {l r t:List Nat},aA l (r++t)=true↔aA l r=true/\aA l t=true:=by
  simp only [aA,List.all_append,Q3,Q5];exact ⟨λh=>⟨λx A=>(h x A).1,λx A=>(h x A).2⟩,λh x A=>⟨h.1 x A,h.2 x A⟩⟩
 simp only [Mic.indep,Q5] at *;simp_all
def Mic.upd_comm {n:Mic} (h:m.indep n=true) (s:AS):n.upd (m.upd s)=m.upd (n.upd s):=by
 simp only [Mic.indep,zLj,Q5] at h;obtain ⟨⟨⟨E,_⟩,K⟩,_⟩:=h;have L:∀ t,t∈m.ws->t∈n.ws->False:=λt a b=>dV E a (Q4.2 (.inr b));have I:∀ t,t∈m.wr.map (·.1)->t∈n.wr.map (·.1)->False:=λt a b=>dV K a (Q4.2 (.inr b));have N:(n.upd (m.upd s)).env=(m.upd (n.upd s)).env:=by
  funext t;by_cases a:t∈n.ws
  ·have b:t∉m.ws:=λb=>L t b a;rw [Mic.upd_env (m:=m) b];cases y:n.out with
   | none=>simp [Mic.ws,y] at a
   | some e=>
    obtain ⟨d,v⟩:=e;simp [Mic.ws,y] at a;subst a;simp [Mic.upd,zJe,y]
  ·rw [Mic.upd_env (m:=n) a];by_cases b:t∈m.ws
   ·cases y:m.out with
    | none=>simp [Mic.ws,y] at b
    | some e=>
     obtain ⟨d,v⟩:=e;simp [Mic.ws,y] at b;subst b;simp [Mic.upd,zJe,y]
   ·rw [Mic.upd_env (m:=m) b,Mic.upd_env (m:=m) b,Mic.upd_env (m:=n) a]
 have J:(n.upd (m.upd s)).blk=(m.upd (n.upd s)).blk:=by
  funext t;by_cases a:t∈n.wr.map (·.1)
  ·have b:t∉m.wr.map (·.1):=λb=>I t b a;rw [Mic.upd_blk (m:=m) b];simp only [Mic.upd];rw [zHq _ _ b];simp
  ·rw [Mic.upd_blk (m:=n) a];simp only [Mic.upd,zHq _ _ a];simp
 cases E:n.upd (m.upd s);cases S:m.upd (n.upd s);rw [E,S] at N J;simp_all
inductive kK:List Mic->AS->AS->Prop where
 | nil (s:AS):kK [] s s
 | cons (m:Mic) (r:List Mic) (s s':AS):m.holds s->kK r (m.upd s) s'->kK (m :: r) s s'
def kK.front:∀ (A:List Mic) (m:Mic) (y:List Mic) (s s':AS),(∀ n∈A,n.indep m=true)->kK (A++m :: y) s s'->m.holds s/\kK (A++y) (m.upd s) s'
 | [],m,y,s,s',_,h=>by
  cases h with
  | cons _ _ _ _ E D=>simp_all
 | n :: A,m,y,s,s',G,h=>by
  cases h with
  | cons _ _ _ _ E D=>
   obtain ⟨a,b⟩:=kK.front A m y _ s' (λx I=>G x (by simp [I])) D;have v:=G n jk;refine ⟨(Mic.holds_iff v s).1 a,.cons n _ _ _ ((Mic.holds_iff (Mic.indep_comm v) s).2 E) ?_⟩;rw [<- Mic.upd_comm v];exact b
def yM7 (P:Program) (ops:Array Oper) (i:Nat) (m:Mic):Prop:=
 ∀ (cx:Ctx) (s:AS) (a:Act) (w:World) (K:Act->World->Prop) (Q:Exit->Act->World->Prop),m.holds s->SRel cx s a w ->
  (∀ d∈m.ws,d<cx.nt)->(∀ a' w',SRel cx (m.upd s) a' w'->K a' w')->wpOp P ops Q i K a w
def SRel.drew (h:SRel cx s a w):SRel cx s a { w with drawn:=w.drawn+1 }:=by
 obtain ⟨M,v,tip,y,A,h⟩:=h;exact ⟨M,v,tip,y,A,⟨h.defers,h.size,⟨h.fr.os,h.fr.tape,h.fr.output,h.fr.size,h.fr.block⟩,h.mem,h.env,h.vars,h.bufs,h.inj,h.dom,h.old,h.glob,h.owns⟩⟩
def qH (ops:Array Oper) (ms:List Mic):Bool:=
 (Q2 ops.size).all λi=>(Q2 i).all λj=>
  match ms[j]?,ms[i]? with
  | some n,some m=>((Qf ops).getD i 0).testBit j||n.indep m
  | _,_=>true
def zLp (ops:Array Oper):Bool:=(Q2 ops.size).all λi=>match ops[i]? with | some o=>o.after.all λe=>!Region.binds .any e||Wa e.on i | none=>true
def zBq:∀ (l:List Oper) (d:Array Nat),(l.foldl (λd o=>d.push (o.after.foldl (λs e=>if Q7 .any e then s ||| 2 ^ e.on ||| d.getD e.on 0 else s) 0)) d).size=d.size+l.length
 | [],d=>by simp
 | o :: l,d=>by rw [Qk,zBq l];simp;omega
def jB (acc:Array Nat) (o:Oper):Nat:=o.after.foldl (λs e=>if Q7 .any e then s ||| 2 ^ e.on ||| acc.getD e.on 0 else s) 0
def zGk:∀ (l:List Oper) (d:Array Nat) (i:Nat),i<d.size->(l.foldl (λd o=>d.push (jB d o)) d).getD i 0=d.getD i 0
 | [],d,i,_=>rfl
 | o :: l,d,i,h=>by
  rw [Qk,zGk l _ i jl];simp [Array.getElem?_push,W7 h]
def zU9 (ops:Array Oper) (i:Nat) (o:Oper) (Z:ops[i]? = some o) (S:∀ e∈o.after,Q7 .any e=true->e.on<i) :
  (Qf ops).getD i 0=jB (Qf ops) o:=by
 have L:Qf ops=ops.toList.foldl (λv o=>v.push (jB v o)) #[]:=by
  unfold Qf;rw [<- Ql];rfl
 have T:i<ops.toList.length:=by
  have:=(Array.getElem?_eq_some_iff.1 Z).1;simpa using this
 have D:ops.toList=ops.toList.take i++o :: ops.toList.drop (i+1):=by
  have h1:ops.toList[i]=o:=by
   have:=(Array.getElem?_eq_some_iff.1 Z).2;simpa using this
  rw [<- h1,<- List.drop_eq_getElem_cons T,List.take_append_drop]
 rw [L];generalize hF:ops.toList.foldl (λv o=>v.push (jB v o)) #[]=F;have I:F=(ops.toList.drop (i+1)).foldl (λv o=>v.push (jB v o)) (((ops.toList.take i).foldl (λv o=>v.push (jB v o)) #[]).push
   (jB ((ops.toList.take i).foldl (λv o=>v.push (jB v o)) #[]) o)):=by
  rw [<- hF]
  conv=>lhs;rw [D]
  rw [List.foldl_append,Qk]
 generalize hG:(ops.toList.take i).foldl (λv o=>v.push (jB v o)) #[]=G at I;have J:G.size=i:=by
  rw [<- hG];have:=zBq (ops.toList.take i) #[];simp only [jB] at *;rw [this];simp;have:ops.toList.length=ops.size:=by simp
  omega
 have K:∀ j,j<i->F.getD j 0=G.getD j 0:=by
  intro j hj;rw [I,zGk _ _ j jl];simp [Array.getElem?_push,J,W7 hj]
 have hi:F.getD i 0=jB G o:=by
  rw [I,zGk _ _ i jl,<- J];simp
 rw [hi];unfold jB;rw [<- Ql,<- Ql];have:∀ (l:List Edge) (s:Nat),(∀ e∈l,Q7 .any e=true->e.on<i)->l.foldl (λs e=>if Q7 .any e then s ||| 2 ^ e.on ||| G.getD e.on 0 else s) s=l.foldl (λs e=>if Q7 .any e then s ||| 2 ^ e.on ||| F.getD e.on 0 else s) s:=by
  intro l;induction l with
  | nil=>intros;rfl
  | cons e l ih=>
   intro s h;simp only [Qk];by_cases L:Q7 .any e=true
   ·rw [K e.on (h e jk L)];exact ih _ (λx N=>h x (by simp [N]))
   ·rw [if_neg L,if_neg L];exact ih _ (λx N=>h x (by simp [N]))
 exact this _ _ (λe he=>S e (by simpa using he))
def zM0 (D:Array Nat) (j:Nat):∀ (l:List Edge) (s:Nat),(l.foldl (λs e=>if Q7 .any e then s ||| 2 ^ e.on ||| D.getD e.on 0 else s) s).testBit j=true ->
  s.testBit j=true∨∃ e∈l,Q7 .any e=true/\(e.on=j∨(D.getD e.on 0).testBit j=true)
 | [],s,h=>.inl h
 | e :: l,s,h=>by
  rw [Qk] at h;rcases zM0 D j l _ h with h | ⟨K,I,L,N⟩
  ·split at h
   ·rename_i A;rw [Nat.testBit_or,Nat.testBit_or,Qt,Qt] at h;rcases h with (h | h) | h
    ·exact .inl h
    ·refine .inr ⟨e,jk,A,.inl ?_⟩;rw [Nat.testBit_two_pow] at h;simpa using h
    simp_all
   simp_all
  ·exact .inr ⟨K,by simp [I],L,N⟩
def zEr (ms:List Mic) (n:Nat) (listed:Array Bool):List Mic:=((Q2 n).filter λi=>!listed.getD i true).filterMap λi=>ms[i]?
def zOf {f g:Nat->Option Mic}:∀ (l:List Nat),(∀ j∈l,f j=g j)->l.filterMap f=l.filterMap g
 | [],_=>rfl
 | j :: l,h=>by rw [Qj,Qj,h j W8,zOf l λx v=>h x (Qh _ v)]
def Mic.late (n:Mic) (e:Nat×ABlk):Mic:=⟨n.slots,[e],n.fresh,n.out,n.wr⟩
def Mic.free (n:Mic):Mic:=⟨n.slots,[],n.fresh,n.out,n.wr⟩
def Mic.late_swap {n:Mic} {e:Nat×ABlk} (d:n.free.indep m=true) (K:lk m.wr e.1=some e.2) (v:n.holds s) (F:m.holds (n.upd s)) :
  m.holds s/\(n.late e).holds (m.upd s)/\(n.late e).upd (m.upd s)=m.upd (n.upd s):=by
 have G:n.free.holds s:=⟨v.1,by simp [Mic.free],v.2.2⟩;have y:=(Mic.holds_iff (Mic.indep_comm d) s).2 G;refine ⟨(Mic.holds_iff d s).1 F,⟨y.1,?_,y.2.2⟩,(Mic.upd_comm d s).symm⟩;intro x I;rw [List.mem_singleton.1 I];simp [Mic.upd,K]
def kK.frontX (A:List Mic) (p:Nat) (e:Nat×ABlk) (n m:Mic) (I:A[p]? = some n) (T:n.free.indep m=true) (S:lk m.wr e.1=some e.2):∀ (E:List Nat) (G:List Mic) (s s':AS),(∀ j∈E,j≠p->∀ x,A[j]? = some x->x.indep m=true) ->
  kK (E.filterMap (λi=>A[i]?)++m :: G) s s'->m.holds s/\kK (E.filterMap (λi=>(A.set p (n.late e))[i]?)++G) (m.upd s) s'
 | [],G,s,s',_,h=>by
  cases h with
  | cons _ _ _ _ K L=>exact ⟨K,L⟩
 | j :: E,G,s,s',N,h=>by
  rw [Qj] at h ⊢;by_cases U:j=p
  ·subst U;have V:j<A.length:=(List.getElem?_eq_some_iff.1 I).1;have D:(A.set j (n.late e))[j]? = some (n.late e):=by simp [V]
   rw [D];rw [I] at h;cases h with
   | cons _ _ _ _ K L=>
    obtain ⟨a,b⟩:=kK.frontX A j e n m I T S E G _ s' (λx h=>N x (Qh _ h)) L;obtain ⟨c,d,f⟩:=Mic.late_swap T S K a;refine ⟨c,.cons _ _ _ _ d ?_⟩;rw [f];exact b
  ·have D:(A.set p (n.late e))[j]? = A[j]?:=by rw [List.getElem?_set_ne (λh=>U h.symm)]
   rw [D];cases W:A[j]? with
   | none=>
    rw [W] at h;exact kK.frontX A p e n m I T S E G _ s' (λx h=>N x (Qh _ h)) h
   | some x=>
    rw [W] at h;cases h with
    | cons _ _ _ _ K L=>
     obtain ⟨a,b⟩:=kK.frontX A p e n m I T S E G _ s' (λx h=>N x (Qh _ h)) L;have F:=N j W8 U x W;refine ⟨(Mic.holds_iff F s).1 a,.cons x _ _ _ ((Mic.holds_iff (Mic.indep_comm F) s).2 K) ?_⟩;rw [<- Mic.upd_comm F];exact b
def zCv (p q:Nat) (ops:Array Oper) (ms:List Mic):Bool:=
 (Q2 ops.size).all λi=>(Q2 i).all λj=>
  match ms[j]?,ms[i]? with
  | some n,some m=>((Qf ops).getD i 0).testBit j||n.indep m||(Q9 i q&&Q9 j p)
  | _,_=>true
structure zSr (P:Program) (ops:Array Oper) (p q:Nat) (e:Nat×ABlk) (ms:List Mic) (n m:Mic):Prop where
 lt:p<q
 hp:ms[p]? = some n
 hq:ms[q]? = some m
 hi:n.free.indep m=true
 he:lk m.wr e.1=some e.2
 ho:zCv p q ops (ms.set p (n.late e))=true
 hx:yM7 P ops p (n.late e)
theorem zJ5 {Q:Exit->Act->World->Prop} {ms0:List Mic} {p q:Nat} {e0:Nat×ABlk}
  (hx:qH ops ms0=true∨∃ n m,zSr P ops p q e0 ms0 n m)
  (hlen0:ms0.length=ops.size) (hex0:∀ i m,ms0[i]? = some m->yM7 P ops i m) (hws0:∀ m∈ms0,∀ d∈m.ws,d<cx.nt)
  (hord0:zCv p q ops ms0=true) (hon:zLp ops=true) (hQ:∀ a w,SRel cx s' a w->Q .normal a w) :
  ∀ (T:Nat) (N:List Mic) (v:Array Bool) (s:AS) (a:Act) (w:World),(N=ms0∨∃ n m,zSr P ops p q e0 ms0 n m/\N=ms0.set p (n.late e0)/\v.getD q false=true)->v.size=ops.size->((Q2 ops.size).filter λi=>!v.getD i true).length<=T ->
   (∀ (i:Nat),v.getD i false=true->∀ (o:Oper),ops[i]? = some o->∀ e∈o.after,Q7 .any e=true->v.getD e.on false=true) ->
   kK (zEr N ops.size v) s s'->SRel cx s a w->wpAny P .any ops Q T v a w:=by
 have hon':∀ (i:Nat) (o:Oper),ops[i]? = some o->∀ e∈o.after,Q7 .any e=true->e.on<i:=by
  intro i o ho e he hbi;have J:i<ops.size:=(Array.getElem?_eq_some_iff.1 ho).1;have:=(Q3.1 hon) i (Q8.2 J);rw [ho] at this;have:=(Array.all_eq_true_iff_forall_mem.1 this) e he;rw [hbi] at this;simp only [Wk,Bool.false_or] at this;exact Nat.blt_eq▸this
 have hmask:∀ (i:Nat) (v:Array Bool),(∀ (i:Nat),v.getD i false=true->∀ (o:Oper),ops[i]? = some o->∀ e∈o.after,Q7 .any e=true->v.getD e.on false=true) ->
   ∀ (o:Oper),ops[i]? = some o->(∀ e∈o.after,Q7 .any e=true->v.getD e.on false=true)->∀ j,((Qf ops).getD i 0).testBit j=true->v.getD j false=true:=by
  intro i;induction i using Nat.strongRecOn with
  | _ i ih=>
   intro v F o ho hall j K;rw [zU9 ops i o ho (hon' i o ho)] at K;unfold jB at K;rw [<- Ql] at K;rcases zM0 _ j _ 0 K with h | ⟨e,he,hb,h⟩
   ·simp at h
   ·have he':e∈o.after:=by simpa using he
    have hl:=hall e he' hb;rcases h with h | h
    ·rw [<- h];exact hl
    ·have hei:=hon' i o ho e he' hb;cases hoe:ops[e.on]? with
     | none=>
      have:ops.size<=e.on:=by
       rcases Nat.lt_or_ge e.on ops.size with h' | h'
       ·simp [h'] at hoe
       ·exact h'
      have:=(Array.getElem?_eq_some_iff.1 ho).1;omega
     | some oe=>exact ih e.on hei v F oe hoe (F e.on hl oe hoe) j h
 intro T;induction T with
 | zero=>
  intro N v s a w U hls hf F hch hs;have hnil:((Q2 ops.size).filter λi=>!v.getD i true)=[]:=Qv jh;refine ⟨?_,?_⟩
  ·rw [Qu];intro j K;rw [mem_ready] at K;obtain ⟨h0,o,ho,_⟩:=K;have J:j<ops.size:=(Array.getElem?_eq_some_iff.1 ho).1;have:j∈((Q2 ops.size).filter λi=>!v.getD i true):=Qo.2 ⟨Q8.2 J,by simp [h0]⟩;rw [hnil] at this;simp at this
  ·rw [zEr,hnil] at hch;cases hch;exact hQ a w hs
 | succ T ih=>
  intro N v s a w U hls hf F hch hs;have hlen:N.length=ops.size:=by
   rcases U with rfl | ⟨n,m,_,rfl,_⟩
   ·exact hlen0
   ·rw [List.length_set];exact hlen0
  have hex:∀ i m,N[i]? = some m->yM7 P ops i m:=by
   rcases U with rfl | ⟨n,m,L,rfl,_⟩
   ·exact hex0
   ·intro i x hx;by_cases hip:i=p
    ·subst hip;have J:i<ms0.length:=(List.getElem?_eq_some_iff.1 L.hp).1;rw [List.getElem?_set_self J] at hx;cases hx;exact L.hx
    ·rw [List.getElem?_set_ne (λh=>hip h.symm)] at hx;exact hex0 i x hx
  have hws:∀ m∈N,∀ d∈m.ws,d<cx.nt:=by
   rcases U with rfl | ⟨n,m,L,rfl,_⟩
   ·exact hws0
   ·intro x hx;rcases List.mem_or_eq_of_mem_set hx with hx | rfl
    ·exact hws0 x hx
    ·exact hws0 n (Qn L.hp)
  have hord:zCv p q ops N=true:=by
   rcases U with rfl | ⟨n,m,L,rfl,_⟩
   ·exact hord0
   ·exact L.ho
  constructor
  ·intro hnone;have hnil:((Q2 ops.size).filter λi=>!v.getD i true)=[]:=by
    rw [Qu];intro j;induction j using Nat.strongRecOn with
    | _ j ihj=>
     intro K;obtain ⟨hr,hb⟩:=Qo.1 K;have J:=Q8.1 hr;have:j∈Region.ready .any ops v:=by
      rw [mem_ready];refine ⟨by simpa using hb,ops[j],by simp [J],?_⟩;intro e he hbi;have hej:=hon' j ops[j] (by simp [J]) e he hbi;have hne:=ihj e.on hej;have hel:e.on<ops.size:=jh
      have hel':e.on<v.size:=jh
      rw [Qo,not_and] at hne;have:=hne (Q8.2 hel);simp only [Wc,Bool.not_eq_false] at this;simp [hel'] at this ⊢;exact this
     rw [hnone] at this;simp at this
   rw [zEr,hnil] at hch;cases hch;exact hQ a w hs
  ·intro i hi;have hi':=hi;rw [mem_ready] at hi';obtain ⟨h0,o,ho,hall⟩:=hi';have J:i<ops.size:=(Array.getElem?_eq_some_iff.1 ho).1;obtain ⟨m,hm⟩:∃ m,N[i]? = some m:=⟨N[i]' jh,jk⟩;have hsplit:∃ l1 l2,((Q2 ops.size).filter λi=>!v.getD i true)=l1++i :: l2/\(∀ j∈l1,j<i/\v.getD j true=false) /\
     ((Q2 ops.size).filter λj=>!(v.setIfInBounds i true).getD j true)=l1++l2/\∀ j∈l2,i<j:=by
    refine ⟨(Q2 i).filter (λi=>!v.getD i true),((Q2 (ops.size - (i+1))).map (λk=>i+1+k)).filter (λi=>!v.getD i true),?_,?_,?_,?_⟩
    ·have hr:Q2 ops.size=Q2 i++i :: (Q2 (ops.size - (i+1))).map (λk=>i+1+k):=by
      have I:ops.size=(i+1)+(ops.size - (i+1)):=jh
      rw [I,List.range_add,Wi];simp
     rw [hr,W9,We];simp [h0]
    ·intro j K;obtain ⟨a1,a2⟩:=Qo.1 K;exact ⟨Q8.1 a1,by simpa using a2⟩
    ·have hr:Q2 ops.size=Q2 i++i :: (Q2 (ops.size - (i+1))).map (λk=>i+1+k):=by
      have I:ops.size=(i+1)+(ops.size - (i+1)):=jh
      rw [I,List.range_add,Wi];simp
     rw [hr,W9,We];have hself:(v.setIfInBounds i true).getD i true=true:=by simp [hls,J]
     rw [hself];congr 1
     ·refine Wd (λx hx=>?_);have:=Q8.1 hx;rw [getD_set_ne true jh]
     ·simp only [Wk,Bool.false_eq_true,if_false];refine Wd (λx hx=>?_);obtain ⟨k,_,rfl⟩:=Qp.1 hx;rw [getD_set_ne true jh]
    ·intro j K;obtain ⟨k,_,rfl⟩:=Qp.1 (Qo.1 K).1;omega
   obtain ⟨l1,l2,e1,hl1,e2,hl2⟩:=hsplit;have hch':=hch;rw [zEr,e1,W3,Qj,hm] at hch';have hgen:∀ j∈l1,∀ n,N[j]? = some n->(i=q/\j=p/\qH ops N≠true)∨n.indep m=true:=by
    intro j K n hjn;obtain ⟨hji,hjl⟩:=hl1 j K;have I:((Qf ops).getD i 0).testBit j=true∨n.indep m=true∨(i=q/\j=p/\qH ops N≠true):=by
     by_cases hoo:qH ops N=true
     ·have I:=(Q3.1 ((Q3.1 hoo) i (Q8.2 J))) j (Q8.2 hji);rw [hjn,hm] at I;simp only [Qt] at I;exact I.imp id .inl
     ·have I:=(Q3.1 ((Q3.1 hord) i (Q8.2 J))) j (Q8.2 hji);rw [hjn,hm] at I;simp only [Qt,Q5] at I;rcases I with (I | I) | I
      ·exact .inl I
      ·exact .inr (.inl I)
      ·exact .inr (.inr ⟨Qm I.1,Qm I.2,hoo⟩)
    rcases I with I | I | I
    ·have:=hmask i v F o ho (λe he hb=>hall e he hb) j I;have hjs:j<v.size:=jh
     simp [hjs] at hjl this;rw [hjl] at this;simp at this
    ·exact .inr I
    ·exact .inl I
   have hmain:∃ ms',(ms'=ms0∨∃ n m,zSr P ops p q e0 ms0 n m/\ms'=ms0.set p (n.late e0)/\(v.setIfInBounds i true).getD q false=true)/\m.holds s/\kK (l1.filterMap (λi=>ms'[i]?)++l2.filterMap (λi=>ms'[i]?)) (m.upd s) s':=by
    by_cases hsp:i=q/\p∈l1/\qH ops N≠true
    ·obtain ⟨rfl,hpl,hoo⟩:=hsp;have e0':N=ms0:=by
      rcases U with h | ⟨_,_,_,_,hq⟩
      ·exact h
      ·have his:i<v.size:=jh
       simp [his] at h0 hq;rw [h0] at hq;simp at hq
     subst e0';obtain ⟨n,m2,L⟩:=hx.resolve_left hoo;have hmm:m2=m:=by have:=L.hq;rw [hm] at this;cases this;rfl
     subst hmm;have hfx:=kK.frontX N p e0 n m2 L.hp L.hi L.he l1 _ s s' (λj K hjp x hjx=>(hgen j K x hjx).resolve_left λh=>hjp h.2.1) hch';refine ⟨N.set p (n.late e0),.inr ⟨n,m2,L,rfl,?_⟩,hfx.1,?_⟩
     ·have his:i<v.size:=jh
      simp [his]
     ·have:l2.filterMap (λi=>(N.set p (n.late e0))[i]?)=l2.filterMap (λi=>N[i]?):=by
       refine zOf _ λj K=>?_;rw [List.getElem?_set_ne];intro hjp;have:=hl2 j K;have:=L.lt;omega
      rw [this];exact hfx.2
    ·have hind:∀ n∈l1.filterMap (λi=>N[i]?),n.indep m=true:=by
      intro n hn;obtain ⟨j,K,hjn⟩:=List.mem_filterMap.1 hn;exact (hgen j K n hjn).resolve_left λh=>hsp ⟨h.1,h.2.1▸K,h.2.2⟩
     obtain ⟨hmh,hrest⟩:=kK.front _ m _ s s' hind hch';refine ⟨N,?_,hmh,hrest⟩;rcases U with h | ⟨n,m,L,h,hq⟩
     ·exact .inl h
     ·exact .inr ⟨n,m,L,h,getD_set_true hq⟩
   obtain ⟨ms',hms',hmh,hrest⟩:=hmain;refine hex i m hm cx s a w _ Q hmh hs (hws m (Qn hm)) ?_;intro a' w' hs';refine ih ms' _ (m.upd s) a' w' hms' (by simp [hls]) ?_ ?_ ?_ hs'
   ·rw [e2];rw [e1] at hf;simp only [List.length_append,Qi] at hf ⊢;omega
   ·intro j K oj hoj e he hb;by_cases hij:i=j
    ·subst hij;rw [ho] at hoj;cases hoj;exact getD_set_true (hall e he hb)
    ·rw [getD_set_ne false hij] at K;exact getD_set_true (F j K oj hoj e he hb)
   ·rw [zEr,e2,W3];exact hrest
def zOa {p q:Nat} {y:List Mic} (d:qH ops y=true):zCv p q ops y=true:=by
 refine Q3.2 λi E=>Q3.2 λj D=>?_;have h:=(Q3.1 ((Q3.1 d) i E)) j D;split
 ·simp_all
 ·rfl
def mkS (env:LV) (blk:LB):AS:={ env:=lk env,blk:=lk blk }
mutual
def AV.oks (B:NB):AV->Bool
 | .p _=>true
 | .nl _=>true
 | .ptr k _=>(B k).isSome
 | .ref k _ _=>(B k).isSome
 | .buf k _=>(B k).isSome
 | .ag l=>oJ B l
 | .tu l=>oJ B l
 | .fnv _ l=>oJ B l
 | .own k _=>(B k).isSome
 | .optr k _ _=>(B k).isSome
 | .osl k _ _ _=>(B k).isSome
def oJ (B:NB):List AV->Bool
 | []=>true
 | v :: r=>v.oks B&&oJ B r
end
def vN:∀ (l:List AV),oJ B l=true->∀ (j:Nat) (q:AV),l[j]? = some q->q.oks B=true
 | [],_,_,_,h=>by simp_all
 | v :: r,h,0,q,A=>by
  simp only [oJ] at h;simp_all
 | v :: r,h,j+1,q,A=>by
  simp only [oJ,Q5] at h;exact vN r h.2 j q jm
def zEn {h:Type} (f:h->PV):∀ (l:List h),oJ B (l.map λx=>AV.p (f x))=true
 | []=>rfl
 | _ :: r=>by exact zEn f r
structure Le (s' s:AS):Prop where
 env:∀ t v,s'.env t=some v->s.env t=some v
 blk:∀ k b,s'.blk k=some b->s.blk k=some b
 oke:∀ t v,s'.env t=some v->v.oks s'.blk=true
 okb:∀ k l,s'.blk k=some (.var l)->oJ s'.blk l=true
 okw:∀ k w l,s'.blk k=some (.own w l)->oJ s'.blk l=true
def yT.less {S:NB} (G:∀ k b,S k=some b->B k=some b) {x:Value}
  (hr:yT M κ tip B v x):v.oks S=true->yT M (λk=>if (S k).isSome then κ k else none) tip S v x:=by
 induction hr with
 | p v x y=>intro _;exact .p v x y
 | nl c y=>intro _;exact .nl c y
 | ptr k o b l y A=>
  intro h;simp only [AV.oks] at h;obtain ⟨Y,d⟩:=Q1.1 h;have:=G k Y d;rw [A] at this;cases this;exact .ptr k o b l (by simp [h,y]) d
 | ref k o n b l y A=>
  intro h;simp only [AV.oks] at h;obtain ⟨Y,d⟩:=Q1.1 h;have:=G k Y d;rw [A] at this;cases this;exact .ref k o n b l (by simp [h,y]) d
 | buf k n c x y F A E h4=>
  intro h;simp only [AV.oks] at h;obtain ⟨b,d⟩:=Q1.1 h;have:=G k b d;rw [y] at this;cases this;exact .buf k n c x d F A E h4
 | ag l J y _ I=>intro h;simp only [AV.oks] at h;exact .ag l J y (λj q D=>I j q D (vN l h j q D))
 | tu l J y _ I=>intro h;simp only [AV.oks] at h;exact .tu l J y (λj q D=>I j q D (vN l h j q D))
 | fnv f l J y _ I=>intro h;simp only [AV.oks] at h;exact .fnv f l J y (λj q D=>I j q D (vN l h j q D))
 | own k n w l x y A E F=>
  intro h;simp only [AV.oks] at h;obtain ⟨b,d⟩:=Q1.1 h;have:=G k b d;rw [y] at this;cases this;exact .own k n w l x d A E F
 | optr k n o w l x y A E F=>
  intro h;simp only [AV.oks] at h;obtain ⟨b,d⟩:=Q1.1 h;have:=G k b d;rw [y] at this;cases this;exact .optr k n o w l x d A (λe=>by obtain ⟨b,g1,U⟩:=E e;exact ⟨b,by simp [h,g1],U⟩) F
 | osl k n o m w l x y A E F=>
  intro h;simp only [AV.oks] at h;obtain ⟨b,d⟩:=Q1.1 h;have:=G k b d;rw [y] at this;cases this;exact .osl k n o m w l x d A (λe=>by simp_all) F
def Inv.less {J:Nat->Option Nat} (h:Inv cx M J tip s a w) (d:Le s' s) :
  Inv cx M (λk=>if (s'.blk k).isSome then J k else none) tip s' a w where
 defers:=h.defers
 size:=h.size
 fr:=h.fr
 mem:=h.mem
 env:=λt v e=>let ⟨x,hx,N⟩:=h.env t v (d.env t v e);⟨x,hx,N.less d.blk (d.oke t v e)⟩
 vars:=λk l e=>by
  obtain ⟨b,A,V,T,L,U,S,y,D,K,h7⟩:=h.vars k l (d.blk k _ e);exact ⟨b,A,V,T,by simp [e,L],U,S,y,λj q F=>(D j q F).less d.blk (vN l (d.okb k l e) j q F),K,h7⟩
 bufs:=λk c e=>by
  obtain ⟨L,U,S,y⟩:=h.bufs k c (d.blk k _ e);refine ⟨L,U,S,?_⟩;simp_all
 inj:=λk Y b e W=>by
  have e1:J k=some b:=by
   split at e
   ·exact e
   ·cases e
  have e2:J Y=some b:=by
   split at W
   ·exact W
   ·cases W
  exact h.inj k Y b e1 e2
 dom:=λk e=>by simp [e]
 glob:=h.glob
 old:=h.old
 owns:=h.owns.keep λk wd l e=>⟨d.blk k _ e,by simp [e],rfl,λb _=>⟨rfl,λ_ h=>h⟩,λj q x F N=>N.less d.blk (vN l (d.okw k wd l e) j q F)⟩
def SRel.less (h:SRel cx s a w) (E:Le s' s) (D:∀ k∈cx.pk,(s'.blk k.1).isSome=true):SRel cx s' a w:=by
 obtain ⟨M,F,tip,A,v,h⟩:=h;exact ⟨M,_,tip,A,λk e=>⟨by simp [D k e,(v k e).1],(v k e).2⟩,h.less E⟩
def zRe (s:AS):LV->Prop
 | []=>True
 | (t,v) :: r=>s.env t=some v/\zRe s r
def zQy (s:AS):LB->Prop
 | []=>True
 | (k,b) :: r=>s.blk k=some b/\zQy s r
def lL (B:NB):LV->Bool
 | []=>true
 | (_,v) :: r=>v.oks B&&lL B r
def tA (B:NB):LB->Bool
 | []=>true
 | (_,.var l) :: r=>oJ B l&&tA B r
 | (_,.buf _) :: r=>tA B r
 | (_,.own _ l) :: r=>oJ B l&&tA B r
def tG {F:Type}:∀ (l:List (Nat×F)) (t:Nat) (v:F),lk l t=some v->(t,v)∈l
 | [],_,_,h=>by simp [lk] at h
 | (k,u) :: r,t,v,h=>by
  simp only [lk] at h;cases y:Q9 t k with
  | true=>
   simp_all
  | false=>
   simp [y] at h;exact Qh _ (tG r t v h)
def zRe.mem:∀ {l:LV},zRe s l->∀ {t v},(t,v)∈l->s.env t=some v
 | (_,_) :: _,h,_,_,d=>by
  rcases Qb.1 d with e | d
  ·cases e;exact h.1
  ·exact zRe.mem h.2 d
def zQy.mem:∀ {l:LB},zQy s l->∀ {t v},(t,v)∈l->s.blk t=some v
 | (_,_) :: _,h,_,_,d=>by
  rcases Qb.1 d with e | d
  ·cases e;exact h.1
  ·exact zQy.mem h.2 d
def lL.mem:∀ {l:LV},lL B l=true->∀ {t v},(t,v)∈l->v.oks B=true
 | (_,_) :: _,h,_,_,y=>by
  simp only [lL,Q5] at h;rcases Qb.1 y with e | y
  ·simp_all
  ·exact lL.mem h.2 y
def tA.mem:∀ {l:LB},tA B l=true->∀ {t v},(t,.var v)∈l->oJ B v=true
 | (_,.var u) :: _,h,_,_,d=>by
  simp only [tA,Q5] at h;rcases Qb.1 d with e | d
  ·simp_all
  ·exact tA.mem h.2 d
 | (_,.buf u) :: _,h,_,_,d=>by
  simp only [tA] at h;rcases Qb.1 d with e | d
  ·cases e
  ·exact tA.mem h d
 | (_,.own w u) :: _,h,_,_,d=>by
  simp only [tA,Q5] at h;rcases Qb.1 d with e | d
  ·cases e
  ·exact tA.mem h.2 d
def tA.memO:∀ {l:LB},tA B l=true->∀ {t w v},(t,.own w v)∈l->oJ B v=true
 | (_,.var u) :: _,h,_,_,_,d=>by
  simp only [tA,Q5] at h;rcases Qb.1 d with e | d
  ·cases e
  ·exact tA.memO h.2 d
 | (_,.buf u) :: _,h,_,_,_,d=>by
  simp only [tA] at h;rcases Qb.1 d with e | d
  ·cases e
  ·exact tA.memO h d
 | (_,.own w u) :: _,h,_,_,_,d=>by
  simp only [tA,Q5] at h;rcases Qb.1 d with e | d
  ·simp_all
  ·exact tA.memO h.2 d
def Le.mk' {env:LV} {blk:LB} (D:zRe s env) (G:zQy s blk) (A:lL (lk blk) env=true) (h:tA (lk blk) blk=true):Le (mkS env blk) s where
 env:=λt v e=>D.mem (tG _ t v e)
 blk:=λk b e=>G.mem (tG _ k b e)
 oke:=λt v e=>lL.mem A (tG _ t v e)
 okb:=λk l e=>tA.mem h (tG _ k _ e)
 okw:=λk w l e=>tA.memO h (tG _ k _ e)
def awp (P:Program) (cx:Ctx) (c:Code) (Q:Exit->AS->Prop) (s:AS):Prop:=
 ∀ a w,SRel cx s a w->c.wp P (λe a' w'=>∃ s',SRel cx s' a' w'/\Q e s') a w
section
variable {Q':Exit->AS->Prop} 
def zJb {c:Code} (h:awp P cx c Q s) (v:∀ e s,Q e s->Q' e s):awp P cx c Q' s:=
 λa w y=>wp_mono (h a w y) λe E w' ⟨s',D,A⟩ =>⟨s',D,v e s' A⟩
def zXw (h:Q .normal s):awp P cx .skip Q s:=λ_ _ y=>wp_skip ⟨s,y,h⟩
theorem yA1 (h:Q (.exit id) s):awp P cx (.exit id) Q s:=λ_ _ v=>wp_exit ⟨s,v,h⟩
def yGi (h:Q .ret s):awp P cx .ret Q s:=λ_ _ v=>wp_ret ⟨s,v,h⟩
def zSw (k:AS->Prop) (Q:Exit->AS->Prop):Exit->AS->Prop
 | .normal,s=>k s
 | e,s=>Q e s
def yGw {x y:Code} (h:awp P cx x (zSw (awp P cx y Q) Q) s):awp P cx (.seq x y) Q s:=λa w E=>
 wp_seq (wp_mono (h a w E) λe D w' ⟨s',A,v⟩ =>by
  cases e with
  | normal=>exact v D w' A
  | _=>assumption)
def zIf (id:Nat) (Q:Exit->AS->Prop):Exit->AS->Prop
 | .exit id',s=>if Q9 id' id then Q .normal s else Q (.exit id') s
 | e,s=>Q e s
theorem zV9 {c:Code} (h:awp P cx c (zIf id Q) s):awp P cx (.block id c) Q s:=λa w G=>
 wp_block (wp_mono (h a w G) λe J w' ⟨s',E,v⟩ =>by
  cases e with
  | exit y=>
   simp only [zIf] at v;simp only [Exit.inBlock];by_cases d:y=id
   ·subst d;simp at v ⊢;exact ⟨s',E,v⟩
   ·simp [d] at v ⊢;exact ⟨s',E,v⟩
  | _=>assumption)
def zOc {t:Nat} {x y:Code} {b:Bool} (N:s.env t=some (.p (.bool b))) (J:b=true->awp P cx x Q s) (K:b=false->awp P cx y Q s) :
  awp P cx (.cond (.tmp t) x y) Q s:=λa w I=>by
 have d:=I;obtain ⟨M,U,tip,S,T,h⟩:=I;obtain ⟨v,L,E⟩:=h.env t _ N;have:a.eval (.tmp t)=.bool b:=by
  cases E with
  | p _ _ E=>cases E;simp [Act.eval,L]
 exact wp_cond_split this (λe=>J e a w d) (λe=>K e a w d)
def zP {X Y:Type} (step:X->Option (X ⊕ Y)):Nat->X->Option Y
 | 0,_=>none
 | n+1,x=>match step x with
  | none=>none
  | some (.inl x')=>zP step n x'
  | some (.inr y)=>some y
def Lep (cx:Ctx) (s' s:AS):Prop:=Le s' s/\∀ k∈cx.pk,(s'.blk k.1).isSome=true
end
def zSs (P:Program) (ops:Array Oper) (o:Oper) (m:Mic):Prop:=
 ∀ (cx:Ctx) (s:AS) (a:Act) (w:World) (K:Act->World->Prop) (Q:Exit->Act->World->Prop),m.holds s->SRel cx s a w ->
  (∀ d∈m.ws,d<cx.nt)->(∀ a' w',SRel cx (m.upd s) a' w'->K a' w') ->
  if Wl o (yielded ops a.tmps) then o.wp P a w K Q∨(o.asks P a w/\LetsOut Q) else K (a.put o.dst undef) w
inductive Run (P:Program) (ops:Array Oper):List Oper->AS->AS->List Mic->Prop where
 | nil (s:AS):Run P ops [] s s []
 | cons (o:Oper) (r:List Oper) (m:Mic) (s s':AS) (ms:List Mic):zSs P ops o m->m.holds s->Run P ops r (m.upd s) s' ms->Run P ops (o :: r) s s' (m :: ms)
def Run.chain {l:List Oper} {v:List Mic} (h:Run P ops l s s' v):kK v s s':=by
 induction h with
 | nil s=>exact .nil s
 | cons o r m s s' v _ A _ D=>exact .cons m v s s' A D
def Run.exec {l:List Oper} {v:List Mic} (h:Run P ops l s s' v) :
  v.length=l.length/\∀ (i:Nat) (o:Oper) (m:Mic),l[i]? = some o->v[i]? = some m->zSs P ops o m:=by
 induction h with
 | nil s=>simp
 | cons o r m s s' v K N _ E=>
  refine ⟨jm,λi L J A y=>?_⟩;cases i with
  | zero=>simp_all
  | succ i=>exact E.2 i L J jm jm
def bC (nt:Nat) (ms:List Mic):Bool:=ms.all λm=>m.ws.all λd=>Wa d nt
def zKz {v:Nat} {A:List Mic} (h:bC v A=true):∀ m∈A,∀ d∈m.ws,d<v:=by
 intro m E d D;have:=(Q3.1 ((Q3.1 h) m E)) d D;simp_all
def zV2 {Q:Exit->Act->World->Prop} (J:∀ a w,SRel cx s' a w->Q .normal a w) {l:List Oper} {G:List Mic}
  (h:Run P ops l s s' G):(∀ m∈G,∀ d∈m.ws,d<cx.nt)->∀ (n:Nat),(∀ i,l[i]? = ops[n+i]?)->∀ (a:Act) (w:World),SRel cx s a w->wpOps P ops Q ((Q2 l.length).map (n+·)) a w:=by
 induction h with
 | nil s=>intro _ n _ a w I;exact J a w I
 | cons o r m s s' G U Z _ V=>
  intro A n L a w I;have e:(Q2 (o :: r).length).map (n+·)=n :: (Q2 r.length).map (n+1+·):=by
   rw [Qi,W0];simp only [W5,List.map_map,Qq];congr 1;refine List.map_congr_left (λx _=>?_);simp only [Function.comp];omega
  rw [e,wpOps_cons];have T:=by
   have:=L 0;simpa using this.symm
  unfold wpOp;rw [T];refine U cx s a w _ Q Z I (A m jk) ?_;intro S w' F;exact V J (λx W=>A x (by simp [W])) (n+1) (λi=>by have:=L (i+1);rw [show n+1+i=n+(i+1) by omega];simpa using this) S w' F
theorem zQx {F:List Mic} (h:Run P ops ops.toList s s' F) (A:bC cx.nt F=true)
  (G:Q .normal s'):awp P cx (.region id ops false) Q s:=λa w y=>by
 refine wp_region ?_;have:=zV2 (Q:=λe I w'=>∃ s',SRel cx s' I w'/\Q e s') (λa w y=>⟨s',y,G⟩) h (zKz A) 0 jk a w y;simp_all
theorem zWd {p q:Nat} {e:Nat×ABlk} {A:List Mic} (h:Run P ops ops.toList s s' A) (I:bC cx.nt A=true)
  (hm:P.follows .mixedOrders=true) (hx:qH ops A=true∨∃ n m,zSr P ops p q e A n m) (E:zCv p q ops A=true) (Z:zLp ops=true) (hq:Q .normal s'):awp P cx (.region id ops true) Q s:=λa w Y=>by
 refine wp_region_any hm ?_;obtain ⟨v,F⟩:=h.exec;have L:=h.chain;refine zJ5 (cx:=cx) (ms0:=A) (s':=s') hx (by simpa using v) ?_ (zKz I) E Z (λa w Y=>⟨s',Y,hq⟩) ops.size A _ s a _ (.inl rfl) jk ?_ ?_ ?_ Y.drew
 ·intro i m J;have G:i<ops.size:=by
   have:=(List.getElem?_eq_some_iff.1 J).1;simp at v;omega
  intro cx s a w K Q N W h3 h4;unfold wpOp;rw [show ops[i]? = some ops[i] by simp [G]];exact F i ops[i] m (by simp [G]) J cx s a w K Q N W h3 h4
 ·refine Nat.le_trans (List.length_filter_le _ _) jk
 ·intro i V;have:i<ops.size:=by
   rcases Nat.lt_or_ge i ops.size with h' | h'
   ·exact h'
   simp_all
  simp [this] at V
 ·have:zEr A ops.size (Wj ops.size false)=A:=by
   unfold zEr;have N:(Q2 ops.size).filter (λi=>!(Wj ops.size false).getD i true)=Q2 ops.size:=by
    rw [List.filter_eq_self];intro i V;have:=Q8.1 V;simp [this]
   rw [N];have W:ops.size=A.length:=by simpa using v.symm
   rw [W];clear N W v F L h I E hq hx;induction A with
   | nil=>rfl
   | cons m r ih=>
    rw [Qi,W0,Qj];simp only [List.getElem?_cons_zero,List.filterMap_map];congr 1
  rw [this];exact L
theorem yDa {E:List Mic} (h:Run P ops ops.toList s s' E) (G:bC cx.nt E=true)
  (I:P.follows .mixedOrders=true) (y:qH ops E=true) (F:zLp ops=true) (K:Q .normal s'):awp P cx (.region id ops true) Q s:=
 zWd (p:=0) (q:=0) (e:=(0,.var [])) h G I (.inl y) (zOa y) F K
inductive Ty where
 | bool | int (k:IntKind) | str | slice (e:TypeId) | arr (n:Nat) (e:TypeId) | struct (fs:List (TypeId×Nat)) | ptr (e:TypeId) | func | iface | other
structure TI where
 w:Nat
 b:Nat
 z:List PV
 ty:Ty
variable {ei i:TI}
def zv:PV->Value
 | .bool b=>.bool b
 | .int k n=>.int k n
 | .str s=>.string ⟨s.toArray⟩
 | .bytes _=>.slice none 0 0
 | .sl _ _=>.slice none 0 0
 | .nilp=>.pointer none
 | .err _=>.nilIface
 | _=>undef
def PV.zok:PV->Bool
 | .bool _ | .int _ _ | .str _ | .bytes [] | .sl _ [] | .nilp | .err false=>true
 | _=>false
structure TOk (P:Program) (t:TypeId) (i:TI):Prop where
 info:∃ info z,P.info? t=some info/\info.size=i.w/\info.bytes=i.b/\info.zero=some z/\z.cells.toList=i.z.map zv
 zok:∀ z∈i.z,z.zok=true
 und:match i.ty with
  | .bool=>P.underlying t=some .bool
  | .int k=>P.underlying t=some (.int k)
  | .str=>P.underlying t=some .string
  | .slice e=>P.underlying t=some (.slice e)
  | .arr n e=>P.underlying t=some (.array n e)
  | .struct fs=>∃ fields,P.underlying t=some (.struct fields)/\fields.toList.map (λf=>(f.type,f.offset))=fs
  | .ptr e=>P.underlying t=some (.pointer e)
  | .func=>∃ a b c,P.underlying t=some (.func a b c)
  | .iface=>∃ ms,P.underlying t=some (.interface ms)
  | .other=>True
abbrev TE:=TypeId->Option TI
variable {te:TE}
def yN (P:Program) (te:TE):Prop:=∀ t i,te t=some i->TOk P t i
def zTa (te:TE) (t:TypeId):Value->Option AV
 | .bool b=>some (.p (.bool b))
 | .int k n=>some (.p (.int k n))
 | .string s=>some (.p (.str s.data.toList))
 | .pointer none=>some (.p .nilp)
 | .nilIface=>some (.p (.err false))
 | .slice none 0 0=>match te t with
  | some ⟨_,_,[c],_⟩ =>bif c.nilOf then some (.nl c) else none
  | _=>none
 | _=>none
def AS.get (s:AS) (te:TE) (t:TypeId):Operand->Option AV
 | .tmp n=>s.env n
 | .const v=>zTa te t v
 | .func f=>some (.p (.fn f [] []))
 | .global g=>(GL g).map λp=>.p (.cptr p)
def opS (x:Operand) (v:AV):LV:=match x with | .tmp t=>[(t,v)] | _=>[]
def wH (s:AS) (l:LV):Prop:=∀ e∈l,s.env e.1=some e.2
def zO (h:s.get te t x=some v):wH s (opS x v):=by
 cases x<;>intro e y<;>simp [opS] at y;subst y;exact h
def yO6 (te:TE) (t:TypeId) (x:Operand) (v:AV):Prop:=∀ s:AS,wH s (opS x v)->s.get te t x=some v
def yJ (h:s.get te t x=some v):yO6 te t x v:=by
 intro s' y;cases x with
 | tmp n=>exact y (n,v) (by simp [opS])
 | const c=>exact h
 | global g=>exact h
 | func f=>exact h
def yB (hi:Inv cx M κ tip s a w) 
  (h:s.get te t x=some v):yT M κ tip s.blk v (a.eval x):=by
 cases x with
 | tmp n=>
  obtain ⟨y,hy,hr⟩:=hi.env n v h;have:a.eval (.tmp n)=y:=by simp [Act.eval,hy]
  rw [this];exact hr
 | const c=>
  simp only [AS.get,Act.eval] at *;unfold zTa at h;split at h
  ·cases h;exact .p _ _ (.bool _)
  ·cases h;exact .p _ _ (.int _ _)
  ·rename_i s;cases h;refine .p _ _ ?_;have:=Rep.str (M:=M) s.data.toList;simpa using this
  ·cases h;exact .p _ _ .nilp
  ·cases h;exact .p _ _ .err0
  ·split at h
   ·rename_i c ty hte;cases hc:c.nilOf with
    | true=>rw [hc] at h;cases h;exact .nl _ hc
    | false=>rw [hc] at h;cases h
   ·cases h
  ·cases h
 | global g=>
  simp only [AS.get] at h;obtain ⟨p,h1,h2⟩:=Q0.1 h;subst h2;exact .p _ _ (hi.glob.1 g p h1)
 | func f=>
  simp only [AS.get] at h;cases h;exact .p _ _ (.fn f [] [] #[] #[] rfl rfl jk jk)
def Inv.put (hi:Inv cx M κ tip s a w) (hd:d<cx.nt) {x:Value}
  (hr:yT M κ tip s.blk v x):Inv cx M κ tip (s.put d v) (a.put (some d) x) w where
 defers:=hi.defers
 size:=by simp [Act.put,hi.size]
 fr:=hi.fr
 mem:=hi.mem
 env:=λt u e=>by
  simp only [AS.put] at e;by_cases ht:t=d
  ·subst ht;simp at e;subst e;exact ⟨x,by simp [Act.put,hi.size,hd],hr⟩
  ·have hb:Q9 t d=false:=by rw [Qg];intro e;exact ht (Qm e)
   simp [hb] at e;obtain ⟨y,hy,hr'⟩:=hi.env t u e;exact ⟨y,by simp [Act.put,Array.getElem?_setIfInBounds_ne (Ne.symm ht),hy],hr'⟩
 vars:=hi.vars
 bufs:=hi.bufs
 inj:=hi.inj
 dom:=hi.dom
 glob:=hi.glob
 owns:=hi.owns
 old:=hi.old
def yDh (P:Program) (o:Oper) (rs:LV) (bs:LB) (v:AV):Prop:=
 ∀ (cx:Ctx) (M:Mem) (κ:Nat->Option Nat) (tip:Nat->Value) (s:AS) (a:Act) (w:World),Inv cx M κ tip s a w->wH s rs->(∀ e∈bs,s.blk e.1=some e.2) ->
  ∃ x,(execOp a.eval o).run P w=.ok (.value x) w/\yT M κ tip s.blk v x
def Snd (P:Program) (o:Oper) (m:Mic):Prop:=
 ∀ (cx:Ctx) (s:AS) (a:Act) (w:World) (K:Act->World->Prop) (Q:Exit->Act->World->Prop),m.holds s->SRel cx s a w ->
  (∀ d∈m.ws,d<cx.nt)->(∀ a' w',SRel cx (m.upd s) a' w'->K a' w')->o.wp P a w K Q
def zPh {A:LV} (N:o.dst=some d) (h:yDh P o A bs v) :
  Snd P o ⟨A,bs,[],some (d,some v),[]⟩:=by
 intro cx s a w K Q F L T S;obtain ⟨M,E,tip,J,G,D⟩:=L;obtain ⟨x,U,I⟩:=h cx M E _ s a w D F.1 F.2.1;unfold Oper.wp;rw [U];show K _ w;rw [N];exact S _ _ ⟨M,E,tip,J,G,D.put (T d (by simp [Mic.ws])) I⟩
def zJn (E:o.guard=none) (h:Snd P o m):zSs P ops o m:=by
 intro cx s a w K Q y D A G;rw [if_pos (by simp [Wl,E])];exact .inl (h cx s a w K Q y D A G)
def zJj (J:SRel cx s a w) {j h:Nat} {b:Bool} (E:(ops[j]?).bind (·.dst)=some h) (G:s.env h=some (.p (.bool b))) :
  yielded ops a.tmps j=some b:=by
 obtain ⟨M,N,tip,L,K,I⟩:=J;obtain ⟨y,D,v⟩:=I.env h _ G;cases v with
 | p _ _ v=>cases v;simp [yielded,E,D]
section
def Run.val {A:LV} (K:o.dst=some d) (I:o.guard=none) (h:yDh P o A bs v) (G:wH s A) (J:∀ e∈bs,s.blk e.1=some e.2)
  (k:Run P ops r (s.put d v) s' ms):Run P ops (o :: r) s s' (⟨A,bs,[],some (d,some v),[]⟩:: ms):=
 .cons o r _ s s' ms (zJn I (zPh K h)) ⟨G,J,jk⟩ k
def VA (P:Program) (o:Oper) (s:AS) (rs:LV) (bs:LB) (v:AV):Prop:=
 yDh P o rs bs v/\wH s rs/\∀ e∈bs,s.blk e.1=some e.2
def Run.vv {A:LV} (G:o.dst=some d) (F:o.guard=none) (h:VA P o s A bs v) (k:Run P ops r (s.put d v) s' ms) :
  Run P ops (o :: r) s s' (⟨A,bs,[],some (d,some v),[]⟩:: ms):=Run.val G F h.1 h.2.1 h.2.2 k
def yK {y d:LV} (h:wH s y) (D:wH s d):wH s (y++d):=λe A=>(Q4.1 A).elim (h e) (D e)
def yE {v d:LV} (h:wH s (v++d)):wH s v:=λe y=>h e (Q4.2 (.inl y))
def zY {A d:LV} (h:wH s (A++d)):wH s d:=λe v=>h e (Q4.2 (.inr v))
def zTf (d:o.op=.move x∨o.op=.assign x) (h:s.get te o.type x=some v):VA P o s (opS x v) [] v:=by
 refine ⟨?_,zO h,jk⟩;intro cx M G tip s' a w D F _;have E:=yJ h s' F;refine ⟨a.eval x,?_,yB D E⟩;rcases d with d | d<;>simp [execOp,d]
def repA_pv {x:Value} (h:yT M κ tip B (.p p) x):Rep M p x:=by cases h;assumption
def zIm {b:Bool} {x:Value} (h:Rep M (.bool b) x):x=.bool b:=by cases h;rfl
def xU {k:IntKind} {n:Int} {x:Value} (h:Rep M (.int k n) x):x=.int k n:=by cases h;rfl
def zLy {l:By} {x:Value} (h:Rep M (.str l) x):x=.string ⟨l.toArray⟩:=by cases h;rfl
def zZ1 {a b:Operand} (G:o.op=.pick c a b) (F:s.get te t0 c=some (.p (.bool true))) (h:s.get te o.type a=some v) :
  VA P o s (opS c (.p (.bool true))++opS a v) [] v:=by
 refine ⟨?_,yK (zO F) (zO h),jk⟩;intro cx M K tip s' J w D E _;have I:=zIm (repA_pv (yB D (yJ F s' (yE E))));refine ⟨J.eval a,?_,yB D (yJ h s' (zY E))⟩;simp [execOp,G,I,asBool]
def yBo {a b:Operand} (I:o.op=.pick c a b) (F:s.get te t0 c=some (.p (.bool false))) (h:s.get te o.type b=some v) :
  VA P o s (opS c (.p (.bool false))++opS b v) [] v:=by
 refine ⟨?_,yK (zO F) (zO h),jk⟩;intro cx M K tip s' J w A E _;have G:=zIm (repA_pv (yB A (yJ F s' (yE E))));refine ⟨J.eval b,?_,yB A (yJ h s' (zY E))⟩;simp [execOp,I,G,asBool]
def xB (k:IntKind) (a b:Int):Int:=k.wrap (Qd k.bits a &&& Qd k.bits b).toNat
def ior (k:IntKind) (a b:Int):Int:=k.wrap (Qd k.bits a ||| Qd k.bits b).toNat
def xK (k:IntKind) (a b:Int):Int:=k.wrap (Qd k.bits a ^^^ Qd k.bits b).toNat
def zAx (k:IntKind) (a b:Int):Int:=k.wrap (Qd k.bits a &&& ~~~Qd k.bits b).toNat
def zMn (k:IntKind) (a:Int):Int:=k.wrap (Qd k.bits (if k.signed then -1 else k.max) ^^^ Qd k.bits a).toNat
def qW (k:IntKind) (a b:Int):Int:=k.wrap (a*2 ^ (min b.toNat k.bits))
def xT (k:IntKind) (a b:Int):Int:=a.fdiv (2 ^ (min b.toNat k.bits))
inductive IOp where | add | sub | mul | and | or | xor | andNot
 deriving DecidableEq
def IOp.op:IOp->BinOp | .add=>.add | .sub=>.sub | .mul=>.mul | .and=>.and | .or=>.or | .xor=>.xor | .andNot=>.andNot
def IOp.val (f:IOp) (k:IntKind) (a b:Int):Int:=match f with
 | .add=>k.wrap (a+b) | .sub=>k.wrap (a - b) | .mul=>k.wrap (a*b) | .and=>xB k a b | .or=>ior k a b | .xor=>xK k a b | .andNot=>zAx k a b
def zRd (f:IOp) {v:TypeId} {k:IntKind} {a b:Int} (K:o.op=.binOp f.op A x y v) (G:s.get te A x=some (.p (.int k a))) (D:s.get te v y=some (.p (.int k b))) :
  VA P o s (opS x (.p (.int k a))++opS y (.p (.int k b))) [] (.p (.int k (f.val k a b))):=by
 refine ⟨?_,yK (zO G) (zO D),jk⟩;intro cx M L tip s' N w F E _;have I:=xU (repA_pv (yB F (yJ G s' (yE E))));have J:=xU (repA_pv (yB F (yJ D s' (zY E))));refine ⟨.int k _,?_,.p _ _ (.int _ _)⟩;cases f<;>simp [execOp,K,I,J,IOp.op,IOp.val,eqGuard,binOp,Op.intArith,Op.intBits,xB,ior,xK,zAx]
inductive COp where | eql | neq | lss | leq | gtr | geq
 deriving DecidableEq
def COp.op:COp->BinOp | .eql=>.eql | .neq=>.neq | .lss=>.lss | .leq=>.leq | .gtr=>.gtr | .geq=>.geq
def COp.val (f:COp) (a b:Int):Bool:=match f with
 | .eql=>a==b | .neq=>a != b | .lss=>decide (a<b) | .leq=>decide (a<=b) | .gtr=>decide (b<a) | .geq=>decide (b<=a)
def yL4 (f:COp) {v:TypeId} {k:IntKind} {a b:Int} (K:o.op=.binOp f.op A x y v) (G:s.get te A x=some (.p (.int k a))) (D:s.get te v y=some (.p (.int k b))) :
  VA P o s (opS x (.p (.int k a))++opS y (.p (.int k b))) [] (.p (.bool (f.val a b))):=by
 refine ⟨?_,yK (zO G) (zO D),jk⟩;intro cx M L tip s' N w F E _;have I:=xU (repA_pv (yB F (yJ G s' (yE E))));have J:=xU (repA_pv (yB F (yJ D s' (zY E))));refine ⟨.bool _,?_,.p _ _ (.bool _)⟩;cases f<;>simp [execOp,K,I,J,COp.op,COp.val,eqGuard,binOp,Op.intCmp]
def yLp {v:TypeId} {k:IntKind} {a b:Int} (J:o.op=.binOp .quo F x y v) (G:s.get te F x=some (.p (.int k a))) (D:s.get te v y=some (.p (.int k b))) (N:b≠0) :
  VA P o s (opS x (.p (.int k a))++opS y (.p (.int k b))) [] (.p (.int k (k.wrap (a.tdiv b)))):=by
 refine ⟨?_,yK (zO G) (zO D),jk⟩;intro cx M S tip s' T w E A _;have K:=xU (repA_pv (yB E (yJ G s' (yE A))));have L:=xU (repA_pv (yB E (yJ D s' (zY A))));exact ⟨.int k _,by simp [execOp,J,K,L,eqGuard,binOp,Op.intDiv,N],.p _ _ (.int _ _)⟩
def yL5 {v:TypeId} {k:IntKind} {a b:Int} (J:o.op=.binOp .rem A x y v) (G:s.get te A x=some (.p (.int k a))) (D:s.get te v y=some (.p (.int k b))) (I:b≠0) :
  VA P o s (opS x (.p (.int k a))++opS y (.p (.int k b))) [] (.p (.int k (a.tmod b))):=by
 refine ⟨?_,yK (zO G) (zO D),jk⟩;intro cx M S tip s' T w E F _;have K:=xU (repA_pv (yB E (yJ G s' (yE F))));have L:=xU (repA_pv (yB E (yJ D s' (zY F))));exact ⟨.int k _,by simp [execOp,J,K,L,eqGuard,binOp,Op.intDiv,I],.p _ _ (.int _ _)⟩
def yDu {v:TypeId} {k I:IntKind} {a b:Int} (J:o.op=.binOp .shl A x y v) (G:s.get te A x=some (.p (.int k a))) (D:s.get te v y=some (.p (.int I b))) (T:0<=b) :
  VA P o s (opS x (.p (.int k a))++opS y (.p (.int I b))) [] (.p (.int k (qW k a b))):=by
 refine ⟨?_,yK (zO G) (zO D),jk⟩;intro cx M U tip s' V w F E _;have L:=xU (repA_pv (yB F (yJ G s' (yE E))));have K:=xU (repA_pv (yB F (yJ D s' (zY E))));have N:¬ b<0:=jh
 exact ⟨.int k _,by simp [execOp,J,L,K,eqGuard,binOp,Op.shift,N,qW],.p _ _ (.int _ _)⟩
def yB1 {E v:TypeId} {k F:IntKind} {a b:Int} (N:o.op=.binOp .shr E x y v) (I:s.get te E x=some (.p (.int k a))) (D:s.get te v y=some (.p (.int F b))) (T:0<=b) :
  VA P o s (opS x (.p (.int k a))++opS y (.p (.int F b))) [] (.p (.int k (xT k a b))):=by
 refine ⟨?_,yK (zO I) (zO D),jk⟩;intro cx M V tip s' U w G A _;have L:=xU (repA_pv (yB G (yJ I s' (yE A))));have S:=xU (repA_pv (yB G (yJ D s' (zY A))));have K:¬ b<0:=jh
 exact ⟨.int k _,by simp [execOp,N,L,S,eqGuard,binOp,Op.shift,K,xT],.p _ _ (.int _ _)⟩
def SOp (f:COp) (a b:By):Bool:=match f with
 | .eql=>a==b | .neq=>!(a==b) | .lss=>Op.bytesLess a b | .leq=>Op.bytesLess a b||a==b | .gtr=>!(Op.bytesLess a b||a==b) | .geq=>!Op.bytesLess a b
def yFq (f:COp) {v:TypeId} {a b:By} (K:o.op=.binOp f.op A x y v) (E:s.get te A x=some (.p (.str a))) (G:s.get te v y=some (.p (.str b))) :
  VA P o s (opS x (.p (.str a))++opS y (.p (.str b))) [] (.p (.bool (SOp f a b))):=by
 refine ⟨?_,yK (zO E) (zO G),jk⟩;intro cx M L tip s' N w F D _;have I:=zLy (repA_pv (yB F (yJ E s' (yE D))));have J:=zLy (repA_pv (yB F (yJ G s' (zY D))));refine ⟨.bool _,?_,.p _ _ (.bool _)⟩;cases f<;>simp [execOp,K,I,J,COp.op,SOp,eqGuard,binOp,Op.stringOp]
def yKl {a:Bool} (A:o.op=.unOp .not h x) (d:s.get te h x=some (.p (.bool a))):VA P o s (opS x (.p (.bool a))) [] (.p (.bool (!a))):=by
 refine ⟨?_,zO d,jk⟩;intro cx M I tip s' J w G E _;have D:=zIm (repA_pv (yB G (yJ d s' E)));exact ⟨.bool _,by simp [execOp,A,D,Op.unary],.p _ _ (.bool _)⟩
def yMp {v:TypeId} {k:IntKind} {a:Int} (E:o.op=.unOp .xor v x) (y:s.get te v x=some (.p (.int k a))):VA P o s (opS x (.p (.int k a))) [] (.p (.int k (zMn k a))):=by
 refine ⟨?_,zO y,jk⟩;intro cx M K tip s' J w F G _;have I:=xU (repA_pv (yB F (yJ y s' G)));exact ⟨.int k _,by simp [execOp,E,I,Op.unary,Op.intBits,zMn],.p _ _ (.int _ _)⟩
def va_conv {k G:IntKind} {a:Int} (D:yN P te) (ho:o.op=.convert h A x) (V:(te h).map (·.ty)=some (.int G)) (Y:(te A).map (·.ty)=some (.int k)) (T:s.get te h x=some (.p (.int G a))) :
  VA P o s (opS x (.p (.int G a))) [] (.p (.int k (k.wrap a))):=by
 refine ⟨?_,zO T,jk⟩;intro cx M κ tip s' ac w U W _;have Z:=xU (repA_pv (yB U (yJ T s' W)));obtain ⟨i,J,E⟩:=Q0.1 Y;have S:=(D A i J).und;simp only [E] at S;obtain ⟨j,L,K⟩:=Q0.1 V;have y:=(D h j L).und;simp only [K] at y;exact ⟨.int k _,by simp [execOp,ho,Z,convert,run_underlying S,run_underlying y,Conv.intToInt],.p _ _ (.int _ _)⟩
end
mutual
def AS.rd (s:AS):AV->Option (PV×LB)
 | .p v=>some (v,[])
 | .nl c=>some (c,[])
 | .buf k n=>match s.blk k with
  | some (.buf c)=>some (c.take n,[(k,.buf c)])
  | _=>none
 | .ag l=>match s.rdL l with
  | some (ps,bs)=>some (.agg ps,bs)
  | none=>none
 | .tu l=>match s.rdL l with
  | some (ps,bs)=>some (.tup ps,bs)
  | none=>none
 | _=>none
def AS.rdL (s:AS):List AV->Option (List PV×LB)
 | []=>some ([],[])
 | v :: r=>match s.rd v,s.rdL r with
  | some (p,bs),some (ps,bs')=>some (p :: ps,bs++bs')
  | _,_=>none
end
mutual
def uV:∀ (v:AV) (p:PV) (bs:LB),s.rd v=some (p,bs)->∀ e∈bs,s.blk e.1=some e.2
 | .p v,p,bs,h,e,he=>by simp [AS.rd] at h;obtain ⟨rfl,rfl⟩:=h;simp at he
 | .nl v,p,bs,h,e,he=>by simp [AS.rd] at h;obtain ⟨rfl,rfl⟩:=h;simp at he
 | .buf k n,p,bs,h,e,he=>by
  simp only [AS.rd] at h;split at h
  ·rename_i c hc;simp at h;obtain ⟨rfl,rfl⟩:=h;simp at he;subst he;exact hc
  ·cases h
 | .ag l,p,bs,h,e,he=>by
  simp only [AS.rd] at h;split at h
  ·rename_i ps bs' hl;simp at h;obtain ⟨rfl,rfl⟩:=h;exact zC0 l ps _ hl e he
  ·cases h
 | .tu l,p,bs,h,e,he=>by
  simp only [AS.rd] at h;split at h
  ·rename_i ps bs' hl;simp at h;obtain ⟨rfl,rfl⟩:=h;exact zC0 l ps _ hl e he
  ·cases h
 | .ptr _ _,p,bs,h,_,_=>by simp [AS.rd] at h
 | .ref _ _ _,p,bs,h,_,_=>by simp [AS.rd] at h
 | .fnv _ _,p,bs,h,_,_=>by simp [AS.rd] at h
 | .own _ _,p,bs,h,_,_=>by simp [AS.rd] at h
 | .optr _ _ _,p,bs,h,_,_=>by simp [AS.rd] at h
 | .osl _ _ _ _,p,bs,h,_,_=>by simp [AS.rd] at h
def zC0:∀ (l:List AV) (ps:List PV) (bs:LB),s.rdL l=some (ps,bs)->∀ e∈bs,s.blk e.1=some e.2
 | [],ps,bs,h,e,he=>by simp [AS.rdL] at h;obtain ⟨rfl,rfl⟩:=h;simp at he
 | v :: r,ps,bs,h,e,he=>by
  simp only [AS.rdL] at h;split at h
  ·rename_i p b1 qs b2 h1 h2;simp at h;obtain ⟨rfl,rfl⟩:=h;rcases Q4.1 he with he | he
   ·exact uV v p b1 h1 e he
   ·exact zC0 r qs b2 h2 e he
  ·cases h
end
mutual
def zLm:∀ (v:AV) (p:PV) (bs:LB),s.rd v=some (p,bs)->(∀ e∈bs,s'.blk e.1=some e.2)->s'.rd v=some (p,bs)
 | .p v,p,bs,h,_=>by simpa [AS.rd] using h
 | .nl v,p,bs,h,_=>by simpa [AS.rd] using h
 | .buf k n,p,bs,h,hb=>by
  simp only [AS.rd] at h;split at h
  ·rename_i c hc;simp at h;obtain ⟨rfl,rfl⟩:=h;have:=hb (k,.buf c) jk;simp only at this;simp [AS.rd,this]
  ·cases h
 | .ag l,p,bs,h,hb=>by
  simp only [AS.rd] at h;split at h
  ·rename_i ps bs' hl;simp at h;obtain ⟨rfl,rfl⟩:=h;simp [AS.rd,zCq l ps _ hl hb]
  ·cases h
 | .tu l,p,bs,h,hb=>by
  simp only [AS.rd] at h;split at h
  ·rename_i ps bs' hl;simp at h;obtain ⟨rfl,rfl⟩:=h;simp [AS.rd,zCq l ps _ hl hb]
  ·cases h
 | .ptr _ _,p,bs,h,_=>by simp [AS.rd] at h
 | .ref _ _ _,p,bs,h,_=>by simp [AS.rd] at h
 | .fnv _ _,p,bs,h,_=>by simp [AS.rd] at h
 | .own _ _,p,bs,h,_=>by simp [AS.rd] at h
 | .optr _ _ _,p,bs,h,_=>by simp [AS.rd] at h
 | .osl _ _ _ _,p,bs,h,_=>by simp [AS.rd] at h
def zCq:∀ (l:List AV) (ps:List PV) (bs:LB),s.rdL l=some (ps,bs)->(∀ e∈bs,s'.blk e.1=some e.2)->s'.rdL l=some (ps,bs)
 | [],ps,bs,h,_=>by simpa [AS.rdL] using h
 | v :: r,ps,bs,h,hb=>by
  simp only [AS.rdL] at h;split at h
  ·rename_i p b1 qs b2 h1 h2;simp at h;obtain ⟨rfl,rfl⟩:=h;have e1:=zLm v p b1 h1 (λe he=>hb e (Q4.2 (.inl he)));have e2:=zCq r qs b2 h2 (λe he=>hb e (Q4.2 (.inr he)));simp [AS.rdL,e1,e2]
  ·cases h
end
def zHr:∀ (l:List AV) (ps:List PV) (bs:LB),s.rdL l=some (ps,bs)->ps.length=l.length/\∀ (j:Nat) (q:PV),ps[j]? = some q->∃ v b,l[j]? = some v/\s.rd v=some (q,b)
 | [],ps,bs,h=>by simp [AS.rdL] at h;simp_all
 | v :: r,ps,bs,h=>by
  simp only [AS.rdL] at h;split at h
  ·rename_i p K I L J F;obtain ⟨rfl,rfl⟩:=h;obtain ⟨N,U⟩:=zHr r I L F;refine ⟨by simp [N],λj q A=>?_⟩;cases j with
   | zero=>simp_all
   | succ j=>simp_all
  ·cases h
def zGg {x:Value} (Z:yT M κ tip s.blk v x):∀ {p:PV} {bs:LB},s.rd v=some (p,bs)->Rep M p x:=by
 induction Z with
 | p v x d=>intro p bs h;simp [AS.rd] at h;obtain ⟨rfl,rfl⟩:=h;exact d
 | nl c d=>
  intro p bs h;simp [AS.rd] at h;obtain ⟨rfl,rfl⟩:=h;unfold PV.nilOf at d;split at d
  ·exact .bytes0
  ·exact .sl0 _
  ·cases d
 | ptr k o b l d S=>intro p bs h;simp [AS.rd] at h
 | ref k o n b l d S=>intro p bs h;simp [AS.rd] at h
 | buf k n c x d hs S y A=>
  intro p bs h;simp only [AS.rd,d] at h;simp_all
 | ag l E d _ J=>
  intro p bs h;simp only [AS.rd] at h;split at h
  ·rename_i ps K I;simp at h;obtain ⟨rfl,rfl⟩:=h;obtain ⟨e1,G⟩:=zHr l ps _ I;refine .agg ps E jh (λj q F=>?_);obtain ⟨v,b,y,A⟩:=G j q F;exact J j v y A
  ·cases h
 | tu l E d _ J=>
  intro p bs h;simp only [AS.rd] at h;split at h
  ·rename_i ps K I;simp at h;obtain ⟨rfl,rfl⟩:=h;obtain ⟨e1,G⟩:=zHr l ps _ I;refine .tup ps E jh (λj q F=>?_);obtain ⟨v,b,y,A⟩:=G j q F;exact J j v y A
  ·cases h
 | fnv f l E d _ _=>intro p bs h;simp [AS.rd] at h
 | own=>intro p bs h;simp [AS.rd] at h
 | optr=>intro p bs h;simp [AS.rd] at h
 | osl=>intro p bs h;simp [AS.rd] at h
def yH1 (l:By):(ByteArray.mk l.toArray).size=l.length:=rfl
section
def dS {F:Nat->Option Nat} (y:Inv cx M F tip s' a w) 
  (A:s.get te t x=some v) (h:s.rd v=some (p,bs)) (D:wH s' (opS x v)) (E:∀ e∈bs,s'.blk e.1=some e.2):Rep M p (a.eval x):=
 zGg (yB y (yJ A s' D)) (zLm v p bs h E)
def yV (y:yN P te) (h:(te t).map (·.ty)=some (.slice e)):P.underlying t=some (.slice e):=by
 obtain ⟨i,D,F⟩:=Q0.1 h;have:=(y t i D).und;simp_all
def zRz (y:yN P te) (h:(te t).map (·.ty)=some .str):P.underlying t=some .string:=by
 obtain ⟨i,D,F⟩:=Q0.1 h;have:=(y t i D).und;simp_all
def yIw (y:yN P te) {k:IntKind} (h:(te t).map (·.ty)=some (.int k)):P.underlying t=some (.int k):=by
 obtain ⟨i,D,F⟩:=Q0.1 h;have:=(y t i D).und;simp_all
def zFf (y:yN P te) (h:(te t).map (·.ty)=some (.arr n e)):P.underlying t=some (.array n e):=by
 obtain ⟨i,E,G⟩:=Q0.1 h;have:=(y t i E).und;simp_all
def dM (A:yN P te) (h:(te t).map (·.ty)=some (.struct fs)):∃ d,P.underlying t=some (.struct d)/\d.toList.map (λf=>(f.type,f.offset))=fs:=by
 obtain ⟨i,E,G⟩:=Q0.1 h;have:=(A t i E).und;simp_all
def vV (v:yN P te) (h:te t=some i) (w:World):(sizeOf t).run P w=.ok i.w w:=by
 obtain ⟨info,z,D,E,_⟩:=(v t i h).info;simp [sizeOf,typeInfo,D,E]
def PV.slen:PV->Option Nat
 | .bytes l=>some l.length
 | .sl _ l=>some l.length
 | .str l=>some l.length
 | _=>none
def yLi (hok:yN P te) (ho:o.op=.call { callee:=.builtin .len,args:=#[x],argTypes:=#[t] })
  (ht:(∃ e,(te t).map (·.ty)=some (.slice e))∨(te t).map (·.ty)=some .str) (hx:s.get te t x=some v) (hp:s.rd v=some (p,bs)) (hn:p.slen=some n) (hs:(∃ e,(te t).map (·.ty)=some (.slice e))->p.isSlice=true) (hs':(te t).map (·.ty)=some .str->p.isSlice=false) :
  VA P o s (opS x v) bs (.p (.int .i64 n)):=by
 refine ⟨?_,zO hx,uV v p bs hp⟩;intro cx M κ tip s' a w hi hr hb;have h1:=dS hi hx hp hr hb;refine ⟨.int .i64 n,?_,.p _ _ (.int _ _)⟩;rcases ht with ⟨e,he⟩ | he
 ·have hu:=yV hok he;have:=hs ⟨e,he⟩;generalize hev:a.eval x=y at h1;cases h1<;>simp [PV.isSlice] at this<;>simp [PV.slen] at hn<;>subst hn<;>simp_all [execOp,resolve,invoke,builtin,Builtin.len_,run_underlying hu,goInt]
 ·have hu:=zRz hok he;have:=hs' he;generalize hev:a.eval x=y at h1;cases h1<;>simp [PV.isSlice] at this<;>simp [PV.slen] at hn<;>subst hn<;>simp_all [execOp,resolve,invoke,builtin,Builtin.len_,run_underlying hu,goInt,yH1]
def PV.idx:PV->Int->Option PV
 | .bytes l,i=>if 0<=i then (l[i.toNat]?).map λb=>.int .u8 b.toNat else none
 | .sl _ l,i=>if 0<=i then l[i.toNat]? else none
 | _,_=>none
def vL (b o n:Nat):(⟨b,o,none⟩:Addr).add n=⟨b,o+n,none⟩:=by unfold Addr.add;simp
def yCx {ity:TypeId} {i:Int} (N:yN P te) (ho:o.op=.indexAddr t x y) (ht:(te t).map (·.ty)=some (.slice e)) (he:te e=some ei)
  (hx:s.get te t x=some v) (hp:s.rd v=some (p,bs)) (hw:p.width=ei.w) (hy:s.get te ity y=some (.p (.int .i64 i))) (h:p.idx i=some q) :
  VA P o s (opS x v++opS y (.p (.int .i64 i))) bs (.p (.cptr q)):=by
 refine ⟨?_,yK (zO hx) (zO hy),uV v p bs hp⟩;intro cx M κ tip s' a w hi hr hb;have h1:=dS hi hx hp (yE hr) hb;have h2:=xU (repA_pv (yB hi (yJ hy s' (zY hr))));have hu:=yV N ht;have F:=vV N he w;generalize L:a.eval x=z at h1;cases h1 with
 | bytes l b off n c hn hc hl=>
  simp only [PV.idx] at h;split at h
  ·rename_i h0;obtain ⟨u,K,hu2⟩:=Q0.1 h;subst hu2;have hlt:i.toNat<l.length:=(List.getElem?_eq_some_iff.1 K).1;have D:i<(n:Int):=jh
   have hm:=hl i.toNat u K;refine ⟨.pointer (some ⟨b,off+i.toNat,none⟩),?_,.p _ _ (.cptr _ b _ ?_ ?_)⟩
   ·simp only [PV.width] at hw;rw [<- hw] at F;simp [execOp,ho,L,h2,Qs,asIntOf,run_underlying hu,h0,D,F,vL]
   ·intro j q' E;cases j with
    | zero=>simp [PV.cells] at E;simp [hm]
    | succ j=>simp [PV.cells] at E
   ·intro j q' E;cases j with
    | zero=>simp [PV.cells] at E;subst E;simp only [mget,Qq,hm,Wf];exact .int _ _
    | succ j=>simp [PV.cells] at E
  ·cases h
 | sl w' l b off n c hn hc hwd hs hr'=>
  simp only [PV.idx] at h;split at h
  ·rename_i h0;have hlt:i.toNat<l.length:=(List.getElem?_eq_some_iff.1 h).1;have D:i<(n:Int):=jh
   refine ⟨.pointer (some ⟨b,off+i.toNat*w',none⟩),?_,.p _ _ (.cptr _ b _ ?_ ?_)⟩
   ·simp only [PV.width] at hw;rw [<- hw] at F;simp [execOp,ho,L,h2,Qs,asIntOf,run_underlying hu,h0,D,F,vL]
   ·intro j q' E;have:=hs i.toNat q j q' h E;rw [Qa];exact this
   ·intro j q' E;have:=hr' i.toNat q j q' h E;rw [Qa];exact this
  ·cases h
 | bytes0=>simp [PV.idx] at h
 | sl0 w'=>simp [PV.idx] at h
 | slE a=>simp [PV.idx] at h
 | _=>simp [PV.idx] at h
def zK6 {G:TypeId} {i:Int} {I:TI} (F:yN P te) (Y:o.op=.indexAddr t x y) (ht:(te t).map (·.ty)=some (.arr n e)) (he:te e=some I)
  (S:s.get te t x=some (.ptr k off)) (U:s.get te G y=some (.p (.int .i64 i))) (h0:0<=i) (Z:i<n) :
  VA P o s (opS x (.ptr k off)++opS y (.p (.int .i64 i))) [] (.ptr k (off+i.toNat*I.w)):=by
 refine ⟨?_,yK (zO S) (zO U),jk⟩;intro cx M κ tip s' a w W V hb;have D:=yB W (yJ S s' (yE V));have h2:=xU (repA_pv (yB W (yJ U s' (zY V))));have hu:=zFf F ht;have J:=vV F he w;generalize K:a.eval x=z at D;cases D with
 | ptr k o b l hk hl=>
  exact ⟨.pointer _,by simp [execOp,Y,K,h2,Qs,Qc,asIntOf,run_underlying hu,h0,Z,J,vL],.ptr _ _ b l hk hl⟩
def yFg {i:Int} {K:TI} (A:yN P te) (ho:o.op=.indexAddr t x y) (ht:(te t).map (·.ty)=some (.slice e)) (he:te e=some K)
  (W:s.get te t x=some (.ref k off n)) (Z:s.get te F y=some (.p (.int .i64 i))) (h0:0<=i) (h1:i<n) :
  VA P o s (opS x (.ref k off n)++opS y (.p (.int .i64 i))) [] (.ptr k (off+i.toNat*K.w)):=by
 refine ⟨?_,yK (zO W) (zO Z),jk⟩;intro cx M κ tip s' a w Y U hb;have D:=yB Y (yJ W s' (yE U));have h2:=xU (repA_pv (yB Y (yJ Z s' (zY U))));have hu:=yV A ht;have I:=vV A he w;generalize J:a.eval x=z at D;cases D with
 | ref k o n b l hk hl=>
  exact ⟨.pointer _,by simp [execOp,ho,J,h2,Qs,asIntOf,run_underlying hu,h0,h1,I,vL],.ptr _ _ b l hk hl⟩
def yLr {T:TypeId} {L:Nat} {Z:TI} (I:yN P te) (ho:o.op=.fieldAddr t x f) (ht:(te t).map (·.ty)=some (.struct fs)) (Y:fs[f]? = some (T,L)) (he:te T=some Z) (hw:Z.w≠0)
  (W:s.get te ty x=some (.ptr k off)):VA P o s (opS x (.ptr k off)) [] (.ptr k (off+L)):=by
 refine ⟨?_,zO W,jk⟩;intro cx M κ tip s' a w hi hr hb;have F:=yB hi (yJ W s' hr);obtain ⟨y,hu,N⟩:=dM I ht;have K:=vV I he w;have h:∃ E,y[f]? = some E/\E.type=T/\E.offset=L:=by
  rw [<- N,List.getElem?_map] at Y;simp_all
 obtain ⟨E,S,rfl,rfl⟩:=h;generalize U:a.eval x=z at F;cases F with
 | ptr k o b l hk hl=>
  exact ⟨.pointer _,by simp [execOp,ho,U,Wm,Qc,run_underlying hu,S,fieldPlace,K,hw,vL],.ptr _ _ b l hk hl⟩
def nV (agg:Bool) (l:List PV) (off w:Nat):Option PV:=bif agg then (bif Wb (off+w) l.length then some (.agg ((l.drop off).take w)) else none) else (match l[off]? with | some (.agg _)=>none | r=>r)
def TI.isAgg (i:TI):Bool:=match i.ty with | .struct _ | .arr _ _=>true | _=>false
def zAf {l:List PV} {w:Nat} {b:Bool} (h:nV b l off w=some q):∀ (j:Nat) (D:PV),q.cells[j]? = some D->l[off+j]? = some D:=by
 intro j D d;unfold nV at h;cases b with
 | true=>
  cases F:Wb (off+w) l.length with
  | false=>simp [F] at h
  | true=>
   simp [F] at h;subst h;simp only [PV.cells,List.getElem?_take,List.getElem?_drop] at d;simp_all
 | false=>
  split at h
  ·cases h
  ·rename_i E;have K:q.cells=[q]:=by
    cases q<;>first | rfl | (exact (E _ h).elim)
   rw [K] at d;cases j with
   | zero=>simp at d;subst d;simpa using h
   | succ j=>simp at d
def yH0 {T:TypeId} {l:List PV} {N:TI} (F:yN P te) (ho:o.op=.fieldAddr t x f) (ht:(te t).map (·.ty)=some (.struct fs)) (hf:fs[f]? = some (T,fo)) (he:te T=some N) (hw:N.w≠0)
  (hx:s.get te ty x=some (.p (.cptr (.agg l)))) (hq:nV N.isAgg l fo N.w=some q):VA P o s (opS x (.p (.cptr (.agg l)))) [] (.p (.cptr q)):=by
 refine ⟨?_,zO hx,jk⟩;intro cx M κ tip s' a w hi hr hb;have I:=repA_pv (yB hi (yJ hx s' hr));obtain ⟨y,hu,Z⟩:=dM F ht;have W:=vV F he w;have v:∃ E,y[f]? = some E/\E.type=T/\E.offset=fo:=by
  rw [<- Z,List.getElem?_map] at hf;obtain ⟨E,U,K⟩:=Q0.1 hf;simp at K;exact ⟨E,by simpa using U,K.1,K.2⟩
 obtain ⟨E,Y,rfl,rfl⟩:=v;generalize bc:a.eval x=z at I;cases I with
 | cptr p b o U K=>
  refine ⟨.pointer (some ⟨b,o+E.offset,none⟩),by simp [execOp,ho,bc,Wm,Qc,run_underlying hu,Y,fieldPlace,W,hw,vL],.p _ _ (.cptr _ b _ ?_ ?_)⟩
  ·intro j G V;rw [Qa];exact U _ G (zAf hq j G V)
  ·intro j G V;rw [Qa];exact K _ G (zAf hq j G V)
def yH6 {N:TypeId} {l:List PV} {i:Int} {G:TI} (D:yN P te) (ho:o.op=.indexAddr t x y) (ht:(te t).map (·.ty)=some (.arr n e)) (he:te e=some G)
  (Y:s.get te t x=some (.p (.cptr (.agg l)))) (V:s.get te N y=some (.p (.int .i64 i))) (h0:0<=i) (h1:i<n) (hq:nV G.isAgg l (i.toNat*G.w) G.w=some q) :
  VA P o s (opS x (.p (.cptr (.agg l)))++opS y (.p (.int .i64 i))) [] (.p (.cptr q)):=by
 refine ⟨?_,yK (zO Y) (zO V),jk⟩;intro cx M κ tip s' a w Z W hb;have F:=repA_pv (yB Z (yJ Y s' (yE W)));have h2:=xU (repA_pv (yB Z (yJ V s' (zY W))));have hu:=zFf D ht;have T:=vV D he w;generalize L:a.eval x=z at F;cases F with
 | cptr p b o h3 h4=>
  refine ⟨.pointer (some ⟨b,o+i.toNat*G.w,none⟩),by simp [execOp,ho,L,h2,Qs,Qc,asIntOf,run_underlying hu,h0,h1,T,vL],.p _ _ (.cptr _ b _ ?_ ?_)⟩
  ·intro j E K;rw [Qa];exact h3 _ E (zAf hq j E K)
  ·intro j E K;rw [Qa];exact h4 _ E (zAf hq j E K)
def yFm (F:o.op=.nilCheck x) (E:s.get te ty x=some v) (I:(∃ k n,v=.ptr k n)∨∃ q,v=.p (.cptr q)):VA P o s (opS x v) [] v:=by
 refine ⟨?_,zO E,jk⟩;intro cx M V tip s' a w J K T;have d:=yB J (yJ E s' K);refine ⟨a.eval x,?_,d⟩;generalize A:a.eval x=z at d;rcases I with ⟨k,n,rfl⟩ | ⟨q,rfl⟩
 ·cases d with
  | ptr k o b l U L=>simp [execOp,F,A]
 ·cases d with
  | p _ _ d=>cases d with
   | cptr p b o N S=>simp [execOp,F,A]
def yCn (D:yN P te) (h:te t=some i) (E:i.isAgg=true) (w:World):(isAgg t).run P w=.ok true w:=by
 have v:=(D t i h).und;unfold TI.isAgg at E;split at E
 ·rename_i fs d;simp only [d] at v;obtain ⟨A,v,_⟩:=v;simp [isAgg,run_underlying v]
 ·rename_i n e d;simp only [d] at v;simp [isAgg,run_underlying v]
 simp_all
def zR8 (E:yN P te) (h:te t=some i) (J:i.isAgg=false) (I:i.ty≠.other) (w:World):(isAgg t).run P w=.ok false w:=by
 have v:=(E t i h).und;unfold TI.isAgg at J;cases d:i.ty with
 | struct fs=>simp [d] at J
 | arr n e=>simp [d] at J
 | bool=>simp only [d] at v;simp [isAgg,run_underlying v]
 | int k=>simp only [d] at v;simp [isAgg,run_underlying v]
 | str=>simp only [d] at v;simp [isAgg,run_underlying v]
 | slice e=>simp only [d] at v;simp [isAgg,run_underlying v]
 | ptr e=>simp only [d] at v;simp [isAgg,run_underlying v]
 | func=>simp only [d] at v;obtain ⟨a,b,c,v⟩:=v;simp [isAgg,run_underlying v]
 | iface=>simp only [d] at v;obtain ⟨Z,v⟩:=v;simp [isAgg,run_underlying v]
 | other=>exact (I d).elim
def TI.plain (i:TI):Bool:=match i.ty with | .struct _ | .arr _ _ | .other=>false | _=>true
def zQs (h:i.plain=true):i.isAgg=false/\i.ty≠.other:=by
 unfold TI.plain at h;unfold TI.isAgg;split at h<;>first  | simp_all
def eB (v:yN P te) (h:te t=some i) (A:i.plain=true) {a:Addr} {x:Value} (E:w.cell? a=some x):(loadVar t a).run P w=.ok x w:=by
 obtain ⟨D,F⟩:=zQs A;simp [loadVar,zR8 v h D F,E]
def fZ (v:yN P te) (h:te t=some i) (A:i.isAgg=true) {a:Addr} (cs:List Value) (G:cs.length=i.w) (E:∀ (j:Nat) (u:Value),cs[j]? = some u->w.cell? (a.add j)=some u) :
  (loadVar t a).run P w=.ok (.agg cs.toArray) w:=by
 have:=run_loadCells_list (P:=P) w a cs E;rw [G] at this;simp [loadVar,yCn v h A,vV v h,this]
def yGr (J:yN P te) (ho:o.op=.load t x) (ht:te t=some i) (Z:i.plain=true) (W:s.get te ty x=some (.ptr k off)) (hb:s.blk k=some (.var l)) (S:l[off]? = some v) :
  VA P o s (opS x (.ptr k off)) [(k,.var l)] v:=by
 refine ⟨?_,zO W,by simpa using hb⟩;intro cx M κ tip s' a w U Y I;have G:=yB U (yJ W s' Y);have L:=I (k,.var l) jk;obtain ⟨b,A,e,fz,h1,h2,h3,h4,h5,h6⟩:=U.vars k l L;generalize K:a.eval x=z at G;cases G with
 | ptr k o b' l' T bd=>
  rw [h1] at T;cases T;have bf:=(List.getElem?_eq_some_iff.1 S).1;have h:off<A.size:=jh
  have D:w.cell? ⟨b,off,none⟩=some A[off]:=by simp [World.cell?,h2,h]
  refine ⟨A[off],?_,?_⟩
  ·simp [execOp,ho,K,Qy,Qc,eB J ht Z D]
  ·have:=h5 off v S;simp_all
def zN9 (N:yN P te) (ho:o.op=.load t x) (ht:te t=some i) (hp:i.isAgg=true) (Y:s.get te ty x=some (.ptr k off)) (hb:s.blk k=some (.var l)) (hv:off+i.w<=l.length) :
  VA P o s (opS x (.ptr k off)) [(k,.var l)] (.ag ((l.drop off).take i.w)):=by
 refine ⟨?_,zO Y,by simpa using hb⟩;intro cx M κ tip s' a w V hr L;have D:=yB V (yJ Y s' hr);have T:=L (k,.var l) jk;obtain ⟨b,h,e,fz,h1,h2,h3,h4,h5,h6⟩:=V.vars k l T;generalize S:a.eval x=z at D;cases D with
 | ptr k o b' l' W be=>
  rw [h1] at W;cases W;have G:((h.toList.drop off).take i.w).length=i.w:=by simp;omega
  refine ⟨.agg ((h.toList.drop off).take i.w).toArray,?_,?_⟩
  ·have:=fZ N ht hp (w:=w) (a:=⟨b,off,none⟩) ((h.toList.drop off).take i.w) G (by
    intro j u J;rw [List.getElem?_take,List.getElem?_drop] at J;split at J
    ·rw [vL];simp [World.cell?,h2];simpa using J
    ·cases J)
   simp [execOp,ho,S,Qy,Qc,this]
  ·refine .ag _ _ jl (λj q K=>?_);rw [List.getElem?_take,List.getElem?_drop] at K;split at K
   ·rename_i hj;have:=h5 (off+j) q K;have U:off+j<h.size:=jh
    simpa [hj,U,List.getElem?_take,List.getElem?_drop] using this
   ·cases K
def yCc (F:yN P te) (S:o.op=.load t x) (T:te t=some i) (U:i.plain=true) (K:s.get te ty x=some (.p (.cptr q))) (I:q.cells=[q]) :
  VA P o s (opS x (.p (.cptr q))) [] (.p q):=by
 refine ⟨?_,zO K,jk⟩;intro cx M κ tip s' a w N Z W;have A:=repA_pv (yB N (yJ K s' Z));generalize E:a.eval x=z at A;cases A with
 | cptr p b o V h2=>
  have Y:=V 0 q jm;have J:=h2 0 q jm;obtain ⟨y,G⟩:=Q1.1 Y;simp only [Qq] at G J;have v:=N.mem b o y G;refine ⟨y,by simp [execOp,S,E,Qy,Qc,eB F T U v],.p _ _ ?_⟩;simpa [mget,G] using J
def zV4 {l:List PV} (S:yN P te) (ho:o.op=.load t x) (ht:te t=some i) (hp:i.isAgg=true) (W:s.get te ty x=some (.p (.cptr (.agg l)))) (hl:l.length=i.w) :
  VA P o s (opS x (.p (.cptr (.agg l)))) [] (.p (.agg l)):=by
 refine ⟨?_,zO W,jk⟩;intro cx M κ tip s' a w hi hr bk;have J:=repA_pv (yB hi (yJ W s' hr));generalize T:a.eval x=z at J;cases J with
 | cptr p b o V h2=>
  simp only [PV.cells] at V h2;have K:((Q2 i.w).map λj=>mget M b (o+j)).length=i.w:=by simp
  refine ⟨.agg ((Q2 i.w).map λj=>mget M b (o+j)).toArray,?_,.p _ _ (.agg _ _ (by simp [hl]) ?_)⟩
  ·have:=fZ S ht hp (w:=w) (a:=⟨b,o,none⟩) ((Q2 i.w).map λj=>mget M b (o+j)) K (by
    intro j u hu;rw [List.getElem?_map] at hu;obtain ⟨E,G,U⟩:=Q0.1 hu;have A:j<i.w:=by
     have:=(List.getElem?_eq_some_iff.1 G).1;simpa using this
    have:E=j:=by
     have:=(List.getElem?_eq_some_iff.1 G).2;simpa using this.symm
    subst this;have N:l[E]? = some l[E]:=by simp [hl,A]
    have h3:=V E l[E] N;obtain ⟨y,Z⟩:=Q1.1 h3;rw [vL];have:=hi.mem b (o+E) y Z;rw [this,<- U];simp [mget,Z])
   simp [execOp,ho,T,Qy,Qc,this]
  ·intro j q N;have A:j<i.w:=by
    have:=(List.getElem?_eq_some_iff.1 N).1;omega
   have:=h2 j q N;simpa [A] using this
def zNx (F:yN P te) (h:te t=some i) {l:List PV} {A:Array Value} (Y:A.size=l.length) (S:∀ (j:Nat) (q:PV),l[j]? = some q->Rep M q (A.getD j undef)) 
  (d:nV i.isAgg l off i.w=some q) (T:i.ty≠.other) (w:World):∃ x,(part t A off).run P w=.ok x w/\Rep M q x:=by
 unfold nV at d;cases K:i.isAgg with
 | true=>
  simp only [K,cond_true] at d;cases D:Wb (off+i.w) l.length with
  | false=>simp [D] at d
  | true=>
   simp [D] at d;subst d;have U:off+i.w<=l.length:=W4 D;refine ⟨.agg (A.extract off (off+i.w)),by simp [part,yCn F h K,vV F h],.agg _ _ jl ?_⟩;intro j q d;rw [List.getElem?_take,List.getElem?_drop] at d;split at d
   ·rename_i hj;have:=S (off+j) q d;have G:off+j<A.size:=jh
    have J:j<min (off+i.w) A.size - off:=jh
    simpa [G,J] using this
   ·cases d
 | false=>
  simp only [K,cond_false] at d;split at d
  ·cases d
  ·have G:off<l.length:=(List.getElem?_eq_some_iff.1 d).1;have y:off<A.size:=jh
   refine ⟨A[off],by simp [part,zR8 F h K T,y],?_⟩;have:=S off q d;simpa [y] using this
def yAo {ft:TypeId} {l:List PV} {fi:TI} (hok:yN P te) (ho:o.op=.field t x f) (ht:(te t).map (·.ty)=some (.struct fs)) (hf:fs[f]? = some (ft,fo)) (he:te ft=some fi) (hne:fi.ty≠.other)
  (hx:s.get te t x=some v) (hp:s.rd v=some (.agg l,bs)) (hq:nV fi.isAgg l fo fi.w=some q):VA P o s (opS x v) bs (.p q):=by
 refine ⟨?_,zO hx,uV v _ bs hp⟩;intro cx M κ tip s' a w hi hr hb;have h1:=dS hi hx hp hr hb;obtain ⟨fields,hu,hfs⟩:=dM hok ht;have hfield:∃ fl,fields[f]? = some fl/\fl.type=ft/\fl.offset=fo:=by
  rw [<- hfs,List.getElem?_map] at hf;obtain ⟨fl,h1,h2⟩:=Q0.1 hf;simp at h2;exact ⟨fl,by simpa using h1,h2.1,h2.2⟩
 obtain ⟨fl,hfl,rfl,rfl⟩:=hfield;generalize hev:a.eval x=z at h1;cases h1 with
 | agg l vs h2 h3=>
  obtain ⟨y,hy,hr'⟩:=zNx hok he h2 h3 hq hne w;exact ⟨y,by simp [execOp,ho,hev,Instr.field,run_underlying hu,hfl,asAgg,hy],.p _ _ hr'⟩
def yA7 {K:TypeId} {l:List PV} {i:Int} {A:TI} (h:yN P te) (ho:o.op=.index t x y) (ht:(te t).map (·.ty)=some (.arr n e)) (W:te e=some A) (F:A.ty≠.other)
  (U:s.get te t x=some v) (hp:s.rd v=some (.agg l,bs)) (Z:s.get te K y=some (.p (.int .i64 i))) (h0:0<=i) (hn:i<n) (hq:nV A.isAgg l (i.toNat*A.w) A.w=some q) :
  VA P o s (opS x v++opS y (.p (.int .i64 i))) bs (.p q):=by
 refine ⟨?_,yK (zO U) (zO Z),uV v _ bs hp⟩;intro cx M κ tip s' a w V Y hb;have h1:=dS V U hp (yE Y) hb;have h2:=xU (repA_pv (yB V (yJ Z s' (zY Y))));have hu:=zFf h ht;generalize I:a.eval x=z at h1;cases h1 with
 | agg l vs h3 h4=>
  obtain ⟨y',S,N⟩:=zNx h W h3 h4 hq F w;exact ⟨y',by simp [execOp,ho,I,h2,Instr.index,asIntOf,run_underlying hu,h0,hn,vV h W,S],.p _ _ N⟩
def va_extractA (L:o.op=.extract x n) (F:s.get te ty x=some (.tu l)) (E:l[n]? = some v):VA P o s (opS x (.tu l)) [] v:=by
 refine ⟨?_,zO F,jk⟩;intro cx M W tip s' a w K S U;have J:=yB K (yJ F s' S);generalize D:a.eval x=z at J;cases J with
 | tu l I V N=>
  have T:=(List.getElem?_eq_some_iff.1 E).1;have d:n<I.size:=jh
  refine ⟨I[n],by simp [execOp,L,D,Instr.extract,d],?_⟩;have:=N n v E;simp_all
end
inductive Bd (s:AS) (te:TE):Option Operand->Option Int->LV->Prop where
 | none:Bd s te none none []
 | some (x:Operand) (k:IntKind) (i:Int):s.get te 0 x=some (.p (.int k i))->Bd s te (some x) (some i) (opS x (.p (.int k i)))
def Bd.reads {x:Option Operand} {i:Option Int} {v:LV} (h:Bd s te x i v):wH s v:=by
 cases h with
 | none=>intro e A;simp_all
 | some x k i h=>exact zO h
def Bd.eval {x:Option Operand} {i:Option Int} (h:Bd s te x i rs) (hi:Inv cx M κ tip s' a w) (hr:wH s' rs) :
  ∃ f:Int->IntKind,x.map a.eval=i.map λn=>.int (f n) n:=by
 cases h with
 | none=>exact ⟨λ_=>.i64,rfl⟩
 | some x k i h=>
  have:=xU (repA_pv (yB hi (yJ h s' hr)));exact ⟨λ_=>k,by simp [this]⟩
def pN (P:Program) (w:World) (k:IntKind) (i:Int) (y:Nat) (c:BoundsCode) (h:0<=i) (D:i<=y):(Wg (.int k i) y c).run P w=.ok i.toNat w:=by
 simp [Wg,asIntOf,h,D]
def kM (P:Program) (w:World) (b:Bool) (D cap:Nat) (F G I:Option Int) (fl Z fm:Int->IntKind) (U:I.isSome=true->G.isSome=true)
  (E:0<=F.getD 0) (J:F.getD 0<=G.getD D) (T:G.getD D<=I.getD cap) (V:I.getD cap<=cap) :
  (Qe b D cap (F.map λn=>.int (fl n) n) (G.map λn=>.int (Z n) n) (I.map λn=>.int (fm n) n)).run P w=.ok ((F.getD 0).toNat,(G.getD D).toNat,(I.getD cap).toNat) w:=by
 cases I with
 | none=>
  cases G with
  | none=>
   cases F with
   | none=>simp [Qe]
   | some l=>simp at E J;simp [Qe,pN P w _ l D _ E J]
  | some h=>
   simp at E J T;have S:0<=h:=jh
   cases F with
   | none=>simp [Qe,pN P w _ h cap _ S T]
   | some l=>
    simp at E J;have W:l<=(h.toNat:Int):=jh
    simp [Qe,pN P w _ h cap _ S T,pN P w _ l h.toNat _ E W]
 | some m=>
  cases G with
  | none=>simp at U
  | some h=>
   simp at E J T V;have S:0<=h:=jh
   have Y:0<=m:=jh
   have K:h<=(m.toNat:Int):=jh
   cases F with
   | none=>simp [Qe,pN P w _ m cap _ Y V,pN P w _ h m.toNat _ S K]
   | some l=>
    simp at E J;have W:l<=(h.toNat:Int):=jh
    simp [Qe,pN P w _ m cap _ Y V,pN P w _ h m.toNat _ S K,pN P w _ l h.toNat _ E W]
def PV.sub:PV->Nat->Nat->PV
 | .bytes l,a,b=>.bytes ((l.drop a).take (b - a))
 | .sl w l,a,b=>.sl w ((l.drop a).take (b - a))
 | .str l,a,b=>.str ((l.drop a).take (b - a))
 | p,_,_=>p
def yGa (h:p.isSlice=true) {a:Nat} {o c:Nat} (K:Rep M p (.slice (some ⟨b,o,none⟩) n c)) (A:Nat):Rep M (p.sub a a) (.slice (some ⟨b,o,none⟩) 0 A):=by
 cases K with
 | bytesE a=>simp only [PV.sub,Qz];exact .bytes [] b o 0 A rfl (W1 _) jk
 | slE a=>simp only [PV.sub,Qz];exact .sl 4 [] b o 0 A rfl (W1 _) jk jk jk
 | bytes l b o n c I J G=>simp only [PV.sub,Qz];exact .bytes [] b o 0 A rfl (W1 _) jk
 | sl w l b o n c I J G N S=>simp only [PV.sub,Qz,List.take_zero];exact .sl w [] b o 0 A rfl (W1 _) jk jk jk
def yHj (h:p.isSlice=true) {v E:Nat} {o c:Nat} (S:Rep M p (.slice (some ⟨b,o,none⟩) n c)) (h1:v<=E) (Y:E<=n) (m:Nat) (Z:E<=m) :
  Rep M (p.sub v E) (.slice (some ⟨b,o+v*p.width,none⟩) (E - v) (m - v)):=by
 cases S with
 | bytesE a=>
  simp only [PV.sub,PV.width,Nat.mul_one];exact .bytes _ b _ _ _ jl jh jk
 | slE a=>
  simp only [PV.sub,PV.width];exact .sl 4 _ b _ _ _ jl jh jk jk jk
 | bytes l b o n c V T J=>
  simp only [PV.sub,PV.width,Nat.mul_one];refine .bytes _ b _ _ _ jl jh ?_;intro i x G;rw [List.getElem?_take,List.getElem?_drop] at G;split at G
  ·rw [Qa];exact J _ x G
  ·cases G
 | sl w l b o n c V T J U W=>
  simp only [PV.sub,PV.width];refine .sl w _ b _ _ _ jl jh ?_ ?_ ?_
  ·intro i p d;rw [List.getElem?_take,List.getElem?_drop] at d;split at d
   ·exact J _ p d
   ·cases d
  ·intro i p j q d I;rw [List.getElem?_take,List.getElem?_drop] at d;split at d
   ·have:=U _ p j q d I;rw [Qa,<- Qa (v*w),<- Nat.add_mul];exact this
   ·cases d
  ·intro i p j q d I;rw [List.getElem?_take,List.getElem?_drop] at d;split at d
   ·have:=W _ p j q d I;rw [Qa,<- Qa (v*w),<- Nat.add_mul];exact this
   ·cases d
def mE {x:Value} (h:Rep M p x) (I:p.isSlice=true):(x=.slice none 0 0/\p.len=0)∨(∃ b o n c,x=.slice (some ⟨b,o,none⟩) n c/\n=p.len/\n<=c)∨∃ a,x=.slice (some a) 0 0/\(p=.bytes []∨p=.sl 4 []):=by
 cases h<;>simp [PV.isSlice] at I
 ·exact .inl ⟨rfl,rfl⟩
 ·simp
 ·rename_i l b o n c E F J;exact .inr (.inl ⟨b,o,n,c,rfl,E,F⟩)
 ·exact .inl ⟨rfl,rfl⟩
 ·simp
 ·rename_i w l b o n c E F J L N;exact .inr (.inl ⟨b,o,n,c,rfl,E,F⟩)
section
def yG0 (D:p.isSlice=true) (F:p.len=0) :Rep M (p.sub 0 0) (.slice none 0 0):=by
 cases p with
 | bytes l=>exact .bytes0
 | sl w l=>exact .sl0 w
 | _=>simp [PV.isSlice] at D
def zNn {lo hi mx:Option Operand} {A y h:Option Int} {rl rh rm:LV} (hok:yN P te) (ho:o.op=.slice t x lo hi mx)
  (ht:(te t).map (·.ty)=some (.slice e)) (he:te e=some ei) (hx:s.get te t x=some v) (hp:s.rd v=some (p,bs)) (hsl:p.isSlice=true) (hw:p.width=ei.w)
  (hlo:Bd s te lo A rl) (hhi:Bd s te hi y rh) (hmx:Bd s te mx h rm) (hm:h.isSome=true->y.isSome=true)
  (h0:0<=A.getD 0) (h1:A.getD 0<=y.getD p.len) (h2:y.getD p.len<=h.getD p.len) (h3:h.getD p.len<=p.len) :
  VA P o s (opS x v++(rl++(rh++rm))) bs (.p (p.sub (A.getD 0).toNat (y.getD p.len).toNat)):=by
 refine ⟨?_,yK (zO hx) (yK hlo.reads (yK hhi.reads hmx.reads)),uV v p bs hp⟩;intro cx M κ tip s' a w hin hr hb;have h4:=dS hin hx hp (yE hr) hb;obtain ⟨fl,hfl⟩:=hlo.eval hin (yE (zY hr));obtain ⟨fh,hfh⟩:=hhi.eval hin (yE (zY (zY hr)));obtain ⟨fm,hfm⟩:=hmx.eval hin (zY (zY (zY hr)));have hu:=yV hok ht;have hsz:=vV hok he w;rcases mE h4 hsl with ⟨hxe,hl⟩ | ⟨b,off,n,c,hxe,hn,hc⟩ | ⟨aa,hxe,hpe⟩
 ·rw [hl] at h1 h2 h3;have I:=kM P w true 0 0 A y h fl fh fm hm h0 (by simpa using h1) (by simpa using h2) (by simpa using h3);have e1:(A.getD 0).toNat=0:=by simp at h1 h2 h3;omega
  have e2:(y.getD (0:Nat)).toNat=0:=by simp at h1 h2 h3;simp;omega
  have e3:(h.getD (0:Nat)).toNat=0:=by simp at h1 h2 h3;simp;omega
  rw [e1,e2,e3] at I;refine ⟨.slice none 0 0,?_,.p _ _ ?_⟩
  ·simp [execOp,ho,hxe,Qw,W2,run_underlying hu,hfl,hfh,hfm,I,hsz]
  ·rw [hl,e1,e2];exact yG0 hsl hl
 ·have h3':h.getD (c:Int)<=c:=by cases h with | none=>simp | some m=>simp at h3 ⊢;omega
  have h2':y.getD (n:Int)<=h.getD c:=by
   rw [hn];cases h with
   | none=>simp at h2 ⊢;omega
   | some m=>simpa using h2
  have I:=kM P w true n c A y h fl fh fm hm h0 (by rw [hn];exact h1) h2' h3';rw [<- hn] at h1 h2 h3;have hlh:(A.getD 0).toNat<=(y.getD (n:Int)).toNat:=jh
  have hhn:(y.getD (n:Int)).toNat<=n:=jh
  have hhm:(y.getD (n:Int)).toNat<=(h.getD (c:Int)).toNat:=jh
  rw [hxe] at h4;by_cases hml:(h.getD (c:Int)).toNat=(A.getD 0).toNat
  ·have:(y.getD (n:Int)).toNat=(A.getD 0).toNat:=jh
   refine ⟨.slice (some ⟨b,off,none⟩) 0 ((h.getD (c:Int)).toNat - (A.getD 0).toNat),?_,.p _ _ ?_⟩
   ·simp [execOp,ho,hxe,Qw,W2,run_underlying hu,hfl,hfh,hfm,I,hsz,hml,this]
   ·rw [<- hn,this];exact yGa hsl h4 _
  ·refine ⟨.slice (some ⟨b,off+(A.getD 0).toNat*p.width,none⟩) ((y.getD (n:Int)).toNat - (A.getD 0).toNat) ((h.getD (c:Int)).toNat - (A.getD 0).toNat),?_,.p _ _ ?_⟩
   ·rw [hw];simp [execOp,ho,hxe,Qw,W2,run_underlying hu,hfl,hfh,hfm,I,hsz,hml,vL]
   ·rw [<- hn];exact yHj hsl h4 hlh hhn _ hhm
 ·have hl:p.len=0:=by rcases hpe with rfl | rfl<;>rfl
  rw [hl] at h1 h2 h3;have I:=kM P w true 0 0 A y h fl fh fm hm h0 (by simpa using h1) (by simpa using h2) (by simpa using h3);have e1:(A.getD 0).toNat=0:=by simp at h1 h2 h3;omega
  have e2:(y.getD (0:Nat)).toNat=0:=by simp at h1 h2 h3;simp;omega
  have e3:(h.getD (0:Nat)).toNat=0:=by simp at h1 h2 h3;simp;omega
  rw [e1,e2,e3] at I;refine ⟨.slice (some aa) 0 0,?_,.p _ _ ?_⟩
  ·simp [execOp,ho,hxe,Qw,W2,run_underlying hu,hfl,hfh,hfm,I,hsz]
  ·rw [hl,e1,e2];rcases hpe with rfl | rfl;exact .bytesE aa;exact .slE aa
def yM9 {I:TypeId} {k:IntKind} {a b:Int} (N:o.op=.call { callee:=.builtin .min,args:=#[x,y],argTypes:=#[t,I] }) (E:s.get te t x=some (.p (.int k a))) (F:s.get te I y=some (.p (.int k b))) :
  VA P o s (opS x (.p (.int k a))++opS y (.p (.int k b))) [] (.p (.int k (if b<a then b else a))):=by
 refine ⟨?_,yK (zO E) (zO F),jk⟩;intro cx M U tip s' T w J G _;have L:=xU (repA_pv (yB J (yJ E s' (yE G))));have S:=xU (repA_pv (yB J (yJ F s' (zY G))));refine ⟨.int k _,?_,.p _ _ (.int _ _)⟩;simp [execOp,N,L,S,resolve,invoke,builtin,Builtin.min_,Builtin.min2]
def zA (c:PV):AV:=bif c.nilOf then .nl c else .p c
def yNp {c:PV} (h:c.zok=true):yT M D tip B (zA c) (zv c):=by
 unfold PV.zok at h;split at h<;>first | simp_all
 ·exact .p _ _ (.bool _)
 ·exact .p _ _ (.int _ _)
 ·exact .p _ _ (.str _)
 ·exact .nl _ rfl
 ·exact .nl _ rfl
 ·exact .p _ _ .nilp
 ·exact .p _ _ .err0
def AV.cells:AV->List AV
 | .ag l=>l
 | .p (.agg l)=>l.map .p
 | v=>[v]
def aD {x:Value} (h:yT M κ tip B v x) :
  x.cells.size=v.cells.length/\∀ (j:Nat) (q:AV),v.cells[j]? = some q->yT M κ tip B q (x.cells.getD j undef):=by
 have d:∀ (v:AV) (x:Value),yT M κ tip B v x->v.cells=[v]->x.cells=#[x]->x.cells.size=v.cells.length/\∀ (j:Nat) (q:AV),v.cells[j]? = some q->yT M κ tip B q (x.cells.getD j undef):=by
  intro v x h y A;rw [y,A];refine ⟨rfl,λj q hq=>?_⟩;cases j with
  | zero=>simp at hq;subst hq;simpa using h
  | succ j=>simp at hq
 cases h with
 | p p x hr=>
  cases hr with
  | agg l vs y A=>
   simp only [AV.cells,Value.cells];refine ⟨by simp [y],λj q hq=>?_⟩;rw [List.getElem?_map] at hq;obtain ⟨p,D,I⟩:=Q0.1 hq;subst I;exact .p _ _ (A j p D)
  | bool b=>exact d _ _ (.p _ _ (.bool b)) rfl rfl
  | int k n=>exact d _ _ (.p _ _ (.int k n)) rfl rfl
  | str s=>exact d _ _ (.p _ _ (.str s)) rfl rfl
  | bytes0=>exact d _ _ (.p _ _ .bytes0) rfl rfl
  | bytesE a=>exact d _ _ (.p _ _ (.bytesE a)) rfl rfl
  | bytes l b o n c y A D=>exact d _ _ (.p _ _ (.bytes l b o n c y A D)) rfl rfl
  | sl0 w=>exact d _ _ (.p _ _ (.sl0 w)) rfl rfl
  | slE a=>exact d _ _ (.p _ _ (.slE a)) rfl rfl
  | sl w l b o n c y A D I h5=>exact d _ _ (.p _ _ (.sl w l b o n c y A D I h5)) rfl rfl
  | tup l vs y A=>exact d _ _ (.p _ _ (.tup l vs y A)) rfl rfl
  | cptr p b o y A=>exact d _ _ (.p _ _ (.cptr p b o y A)) rfl rfl
  | nilp=>exact d _ _ (.p _ _ .nilp) rfl rfl
  | fn f fs cs vf vc y A D I=>exact d _ _ (.p _ _ (.fn f fs cs vf vc y A D I)) rfl rfl
  | err0=>exact d _ _ (.p _ _ .err0) rfl rfl
  | err1 t v=>exact d _ _ (.p _ _ (.err1 t v)) rfl rfl
 | nl c y=>exact d _ _ (.nl c y) rfl rfl
 | ptr k o b l y A=>exact d _ _ (.ptr k o b l y A) rfl rfl
 | ref k o n b l y A=>exact d _ _ (.ref k o n b l y A) rfl rfl
 | buf k n c x y E A D I=>
  refine d _ _ (.buf k n c x y E A D I) rfl ?_;have hs':(c.take n).isSlice=true:=by cases c<;>simp_all [PV.take,PV.isSlice]
  rcases mE D hs' with ⟨hx,_⟩ | ⟨b,o,m,cc,hx,_⟩ | ⟨aa,hx,_⟩<;>rw [hx]<;>rfl
 | ag l vs y A=>exact ⟨y,A⟩
 | tu l vs y A=>exact d _ _ (.tu l vs y A) rfl rfl
 | fnv f l vs y A=>exact d _ _ (.fnv f l vs y A) rfl (by unfold mkF;cases Wa f 1000000<;>rfl)
 | own k n w l x y A D E=>exact d _ _ (.own k n w l x y A D E) rfl (by obtain ⟨a,m,c,rfl⟩:=E;rfl)
 | optr k n o w l x y A D E=>exact d _ _ (.optr k n o w l x y A D E) rfl (by obtain ⟨a,rfl⟩:=E;rfl)
 | osl k n o m w l x y A D E=>exact d _ _ (.osl k n o m w l x y A D E) rfl (by obtain ⟨a,m',c,rfl⟩:=E;rfl)
end
def CR (M:Mem) (κ:Nat->Option Nat) (tip:Nat->Value) (B:NB) (l:List AV) (arr:Array Value):Prop:=
 arr.size=l.length/\∀ (j:Nat) (q:AV),l[j]? = some q->yT M κ tip B q (arr.getD j undef)
def Inv.lt {K:Nat->Option Nat} (A:Inv cx M K tip s a w) (h:K k=some b):b<w.heap.size:=by
 cases D:s.blk k with
 | none=>rw [A.dom k D] at h;cases h
 | some T=>
  cases T with
  | var l=>
   obtain ⟨b',y,e,J,I,N,_⟩:=A.vars k l D;rw [h] at I;cases I;exact (Array.getElem?_eq_some_iff.1 N).1
  | buf c=>
   obtain ⟨_,_,_,F⟩:=A.bufs k c D;rcases F with ⟨_,d⟩ | ⟨b',n,cap,y,e,J,_,d,_,E,_⟩
   ·rw [h] at d;cases d
   ·rw [h] at d;cases d;exact (Array.getElem?_eq_some_iff.1 E).1
  | own wd l=>
   rcases A.owns k wd l D with ⟨_,d,_⟩ | ⟨_,F⟩
   ·rw [h] at d;cases d
   rcases F with ⟨_,d,_⟩ | ⟨b',n,cap,y,e,J,_,d,_,E,_⟩
   ·simp_all
   ·rw [h] at d;cases d;exact (Array.getElem?_eq_some_iff.1 E).1
def Inv.mlt (A:Inv cx M D tip s a w) {o:Nat} (h:w.heap.size<=b):M b o=none:=by
 cases y:M b o with
 | none=>rfl
 | some x=>
  have:=World.block_lt_of_cell? w _ (A.mem b o x y);simp at this;omega
def kF (κ:Nat->Option Nat) (k:Nat) (b:Option Nat):Nat->Option Nat:=λi=>bif Q9 i k then b else κ i
def xO (d:Nat->Option Nat) (k:Nat) (b:Option Nat):kF d k b k=b:=by simp [kF]
def zW {v:Nat->Option Nat} {i:Nat} {b:Option Nat} (h:i≠k):kF v k b i=v i:=by
 have:Q9 i k=false:=by rw [Qg];simp_all
 simp [kF,this]
def zU (s:AS) (k:Nat) (b:ABlk):(s.setb k b).blk k=some b:=by simp [AS.setb]
def zN {i:Nat} {b:ABlk} (h:i≠k):(s.setb k b).blk i=s.blk i:=by
 have:Q9 i k=false:=by rw [Qg];simp_all
 simp [AS.setb,this]
def hao (w:World) (o:Obj) (i:Nat) (h:i<w.heap.size):(w.alloc o).heap[i]? = w.heap[i]?:=by
 simp only [World.alloc,Array.getElem?_push,if_neg (W7 h)]
def zGq (n:Nat):zDu (0,0) n:=.inl rfl
def zAc {y:Nat->Option Nat} (G:y k=none) (D:s.blk k=none):GLe y (kF y k (some b)) tip tip s.blk (s.setb k (.var l)).blk where
 var:=λi b' l' h F=>by
  by_cases e:i=k
  ·subst e;rw [G] at h;cases h
  ·rw [zW e,zN e];exact ⟨h,l',F⟩
 buf:=λi c h=>by
  by_cases e:i=k
  ·simp_all
  ·exact GLe.same (by rw [zN e];exact h) rfl
 own:=λi c J h=>by
  by_cases e:i=k
  ·simp_all
  ·exact GLe.sameO (by rw [zN e];exact h) (zW e) rfl
def Inv.newVar (d:Inv cx M κ tip s a w) (F:s.blk k=none) {J:Array Value} (U:CR M κ tip s.blk l J) (e:TypeId) :
  Inv cx M (kF κ k (some w.heap.size)) tip (s.setb k (.var l)) a (w.alloc (.cells J e)) where
 defers:=d.defers
 size:=d.size
 fr:=⟨d.fr.os,d.fr.tape,d.fr.output,by have:=d.fr.size;simp;omega,λb A D N=>by
  rw [hao w _ b (by have:=d.fr.size;omega)];exact d.fr.block b A D N⟩
 mem:=λb o x h=>by
  have:=d.mem b o x h;rw [World.cell?_alloc_lt w _ _ (World.block_lt_of_cell? w _ this)];exact this
 env:=λt v h=>let ⟨x,A,D⟩:=d.env t v h;⟨x,A,D.ghost (zAc (d.dom k F) F)⟩
 vars:=λi li h=>by
  by_cases y:i=k
  ·subst y;rw [zU] at h;cases h;exact ⟨w.heap.size,J,e,(0,0),xO _ _ _,heap_alloc_new w _,zGq _,U.1,λj q Y=>(U.2 j q Y).ghost (zAc (d.dom i F) F),λo=>d.mlt (Nat.le_refl _),.inl d.fr.size⟩
  ·rw [zN y] at h;obtain ⟨b,E,L,fz,A,D,N,I,K,Z,V⟩:=d.vars i li h;exact ⟨b,E,L,fz,by rw [zW y];exact A,by rw [hao w _ b (d.lt A)];exact D,N,I,λj q Y=>(K j q Y).ghost (zAc (d.dom k F) F),Z,V⟩
 bufs:=λi c h=>by
  by_cases y:i=k
  ·subst y;rw [zU] at h;cases h
  ·rw [zN y] at h;obtain ⟨A,D,N,I⟩:=d.bufs i c h;refine ⟨A,D,N,?_⟩;rcases I with ⟨I,K⟩ | ⟨b,n,cap,E,L,fz,I,K,Z,V,h8⟩
   ·exact .inl ⟨I,by rw [zW y];exact K⟩
   ·exact .inr ⟨b,n,cap,E,L,fz,I,by rw [zW y];exact K,Z,by rw [hao w _ b (d.lt K)];exact V,h8⟩
 inj:=λi j b A D=>by
  by_cases L:i=k
  ·subst L;rw [xO] at A;cases A;by_cases S:j=i
   ·exact S.symm
   ·rw [zW S] at D;have:=d.lt D;omega
  ·rw [zW L] at A;by_cases S:j=k
   ·subst S;rw [xO] at D;cases D;have:=d.lt A;omega
   ·rw [zW S] at D;exact d.inj i j b A D
 dom:=λi h=>by
  by_cases y:i=k
  ·subst y;rw [zU] at h;cases h
  ·rw [zN y] at h;rw [zW y];exact d.dom i h
 glob:=d.glob
 old:=d.old
 owns:=d.owns.keep λi wd li h=>by
  have y:i≠k:=by rintro rfl;rw [zU] at h;cases h
  rw [zN y] at h;exact ⟨h,zW y,rfl,λb' bc=>⟨hao w _ b' (d.lt bc),λ_ h=>h⟩,λj q x _ U=>U.ghost (zAc (d.dom k F) F)⟩
section
def Run.st (D:o.guard=none) (h:Snd P o m) (A:m.holds s) (k:Run P ops r (m.upd s) s' ms):Run P ops (o :: r) s s' (m :: ms):=.cons o r m s s' ms (zJn D h) A k
def SA (P:Program) (o:Oper) (s:AS) (m:Mic):Prop:=Snd P o m/\m.holds s
def Run.ss (y:o.guard=none) (h:SA P o s m) (k:Run P ops r (m.upd s) s' ms):Run P ops (o :: r) s s' (m :: ms):=Run.st y h.1 h.2 k
def eY {A:LV} {b:ABlk}:Mic.upd ⟨A,bs,[k],some (d,some v),[(k,b)]⟩ s=(s.setb k b).put d v:=by
 simp only [Mic.upd,AS.setb,AS.put,lk];congr 1;funext t;cases Q9 t k<;>simp
def zBj {y:Nat->Option Nat} (D:Inv cx M y tip s a w) (F:∀ k∈cx.pk,y k.1=some k.2/\k.2<cx.w0.heap.size) (E:s.blk k=none) (b:Option Nat):∀ h∈cx.pk,kF y k b h.1=some h.2/\h.2<cx.w0.heap.size:=by
 intro h v;have:=F h v;rw [zW]
 ·omega
 ·intro e;rw [e,D.dom k E] at this;simp_all
def zH7 (hd:o.dst=some d)
  (h:∀ (cx:Ctx) (M:Mem) (κ:Nat->Option Nat) (tip:Nat->Value) (s:AS) (a:Act) (w:World),Inv cx M κ tip s a w->wH s rs->(∀ e∈bs,s.blk e.1=some e.2) ->
   ∃ arr e,(execOp a.eval o).run P w=.ok (.value (.pointer (some ⟨w.heap.size,0,none⟩))) (w.alloc (.cells arr e))/\CR M κ tip s.blk l arr) :
  Snd P o ⟨rs,bs,[d],some (d,some (.ptr d 0)),[(d,.var l)]⟩:=by
 intro cx s a w K Q hm hs hw hk;obtain ⟨M,κ,tip,h0,hp,hi⟩:=hs;obtain ⟨arr,e,hx,hr⟩:=h cx M κ tip s a w hi hm.1 hm.2.1;have hb:=hm.2.2 d jk;unfold Oper.wp;rw [hx];show K (a.put o.dst _) _;rw [hd];refine hk _ _ ?_;rw [eY];exact ⟨M,kF κ d (some w.heap.size),tip,h0,zBj hi hp hb _,(hi.newVar hb hr e).put (hw d (by simp [Mic.ws])) (.ptr d 0 _ l (xO _ _ _) (zU _ _ _))⟩
def zHs (hok:yN P te) (h:te t=some i) (w:World):∃ z,(zeroValue t).run P w=.ok z w/\z.cells.size=i.z.length/\CR M κ tip B (i.z.map zA) z.cells:=by
 obtain ⟨info,z,h1,h2,h3,h4,h5⟩:=(hok t i h).info;have hzok:=(hok t i h).zok;have hsz:z.cells.size=i.z.length:=by rw [<- Array.length_toList,h5];simp
 refine ⟨z,by simp [zeroValue,typeInfo,h1,h4],hsz,by simp [hsz],λj q hq=>?_⟩;rw [List.getElem?_map] at hq;obtain ⟨c,h6,h7⟩:=Q0.1 hq;subst h7;have hlt:j<i.z.length:=(List.getElem?_eq_some_iff.1 h6).1;have hlt':j<z.cells.size:=jh
 have hv:z.cells.toList[j]? = some (zv c):=by rw [h5,List.getElem?_map,h6];rfl
 have hv':z.cells[j]? = some (zv c):=by simpa using hv
 have:z.cells.getD j undef=zv c:=by simp [Q6,hv']
 rw [this];exact yNp (hzok c (Qn h6))
def zZ7 (hok:yN P te) (hd:o.dst=some d) (ho:o.op=.alloc t) (ht:te t=some i) (hb:s.blk d=none):SA P o s ⟨[],[],[d],some (d,some (.ptr d 0)),[(d,.var (i.z.map zA))]⟩:=by
 refine ⟨zH7 hd ?_,by intro e he;simp at he,by intro e he;simp at he,by intro k hk;simp at hk;subst hk;exact hb⟩;intro cx M κ tip s a w hi _ _;obtain ⟨z,h1,h2,h3⟩:=zHs hok ht (M:=M) (κ:=κ) (tip:=tip) (B:=s.blk) w;exact ⟨z.cells,t,by simp [execOp,ho,Instr.alloc,h1,newVar,newRow],h3⟩
def yMu (U:o.dst=some d) (J:o.op=.box t x) (D:s.get te t x=some v) (V:s.blk d=none):SA P o s ⟨opS x v,[],[d],some (d,some (.ptr d 0)),[(d,.var v.cells)]⟩:=by
 refine ⟨zH7 U ?_,zO D,jk,jm⟩;intro cx M W tip s' a w I L _;have G:=aD (yB I (yJ D s' L));exact ⟨(a.eval x).cells,t,by simp [execOp,J,Instr.box,newVar,newRow],G⟩
def ovr:List AV->List AV->List AV
 | _ :: l,c :: cs=>c :: ovr l cs
 | l,[]=>l
 | [],cs=>cs
def uS:List AV->Nat->List AV->List AV
 | x :: l,n+1,cs=>x :: uS l n cs
 | l,_,cs=>ovr l cs
def yA2:∀ (l cs:List AV),cs.length<=l.length->ovr l cs=cs++l.drop cs.length
 | _ :: l,c :: cs,h=>by simp only [ovr,Wh,Qi,W6,yA2 l cs jm]
 | l,[],_=>by cases l<;>simp [ovr]
 | [],_ :: _,h=>by simp_all
def lX:∀ {l cs:List AV} {off:Nat},off+cs.length<=l.length->uS l off cs=l.take off++cs++l.drop (off+cs.length)
 | x :: l,cs,n+1,h=>by
  have:=lX (l:=l) (cs:=cs) (off:=n) (by simp at h;omega);rw [show n+1+cs.length=(n+cs.length)+1 by omega];simp only [uS,this,List.take_succ_cons,W6,Wh]
 | x :: l,cs,0,h=>by simp only [uS,Nat.zero_add];exact yA2 _ _ jh
 | [],cs,off,h=>by
  have:cs=[]:=Qv jm;subst this;simp [uS,ovr]
def aV (h:off+cs.length<=l.length):(uS l off cs).length=l.length:=by rw [lX h];simp;omega
def nY (h:off+cs.length<=l.length) (j:Nat):(uS l off cs)[j]? = if off<=j/\j<off+cs.length then cs[j - off]? else l[j]?:=by
 rw [lX h];have d:(l.take off).length=off:=by simp;omega
 by_cases y:j<off
 ·rw [List.append_assoc,List.getElem?_append_left jh,List.getElem?_take,if_pos y,if_neg jh]
 ·by_cases A:j<off+cs.length
  ·rw [List.getElem?_append_left jl,List.getElem?_append_right jh,d,if_pos jh]
  ·rw [List.getElem?_append_right jl,List.getElem?_drop,if_neg jh];congr 1;simp_all
def sO (b:Nat):∀ (I:List Value) (o:Nat) (w:World) (d:Array Value) (e:TypeId) (F:Nat×Nat),w.heap[b]? = some (.cells d e F)->o+I.length<=d.size ->
  ∃ y,(w.setCells b o I).heap[b]? = some (.cells y e F)/\y.size=d.size/\∀ j,y[j]? = if o<=j/\j<o+I.length then I[j - o]? else d[j]?
 | [],o,w,d,e,F,h,_=>⟨d,h,rfl,λj=>by rw [if_neg jk]⟩
 | v :: r,o,w,d,e,F,h,V=>by
  simp only [Qi] at V;have N:(w.setCell ⟨b,o,none⟩ v).heap[b]? = some (.cells (d.setIfInBounds o v) e F):=by
   simp [World.setCell,Array.getElem?_modify,h]
  obtain ⟨y,U,S,T⟩:=sO b r (o+1) _ _ e F N jl;refine ⟨y,U,by simpa using S,λj=>?_⟩;rw [T j];by_cases K:o+1<=j/\j<o+1+r.length
  ·rw [if_pos K,if_pos jl];have:j - o=(j - (o+1))+1:=jh
   rw [this];simp
  ·rw [if_neg K];by_cases J:j=o
   ·subst J;rw [if_pos jk];have:j<d.size:=jh
    simp [this]
   ·rw [if_neg jl,Array.getElem?_setIfInBounds_ne jh]
def xR (b:Nat):∀ (A:List Value) (o:Nat) (w:World) (k:Nat),k≠b->(w.setCells b o A).heap[k]? = w.heap[k]?
 | [],_,_,_,_=>rfl
 | v :: r,o,w,k,h=>by rw [World.setCells,xR b r _ _ k h,heap_setCell_other w _ k v h]
def iH (b:Nat):∀ (y:List Value) (o:Nat) (w:World),(w.setCells b o y).heap.size=w.heap.size
 | [],_,_=>rfl
 | v :: r,o,w=>by rw [World.setCells,iH b r];simp
def iE (b:Nat):∀ (y:List Value) (o:Nat) (w:World),(w.setCells b o y).os=w.os/\(w.setCells b o y).tape=w.tape/\(w.setCells b o y).output=w.output
 | [],_,_=>⟨rfl,rfl,rfl⟩
 | v :: r,o,w=>by exact iE b r _ _
def zQd {A:Nat->Option Nat} {l':List AV} (D:s.blk k=some (.var l)):GLe A A tip tip s.blk (s.setb k (.var l')).blk where
 var:=λi b' v h G=>by
  by_cases e:i=k
  ·subst e;exact ⟨h,l',zU _ _ _⟩
  ·exact ⟨h,v,by rw [zN e];exact G⟩
 buf:=λi c h=>by
  by_cases e:i=k
  ·simp_all
  ·exact GLe.same (by rw [zN e];exact h) rfl
 own:=λi c v h=>by
  by_cases e:i=k
  ·simp_all
  ·exact GLe.sameO (by rw [zN e];exact h) rfl rfl
def Inv.setVar (d:Inv cx M T tip s a w) (hb:s.blk k=some (.var l)) (W:T k=some b) {J:List Value}
  (hl:off+cs.length<=l.length) (hv:J.length=cs.length) (hr:∀ (j:Nat) (q:AV),cs[j]? = some q->yT M T tip s.blk q ((J[j]?).getD undef)) :
  Inv cx M T tip (s.setb k (.var (uS l off cs))) a (w.setCells b off J):=by
 obtain ⟨b',bm,e,fz,h1,h2,h3,h4,h5,h6,h7⟩:=d.vars k l hb;rw [W] at h1;cases h1;obtain ⟨Y,g1,g2,g3⟩:=sO b J off w bm e fz h2 jh;have y:=iE b J off w;have D:GLe T T tip tip s.blk (s.setb k (.var (uS l off cs))).blk:=zQd hb;exact {
  defers:=d.defers
  size:=d.size
  fr:=⟨y.1.trans d.fr.os,y.2.1.trans d.fr.tape,y.2.2.trans d.fr.output,by rw [iH];exact d.fr.size,λi bl V bi=>by
   rw [xR b J off w i (by rintro rfl;exact h7.elim (λh7=>by omega) V)];exact d.fr.block i bl V bi⟩
  mem:=λi o x h=>by
   have I:i≠b:=by rintro rfl;rw [h6] at h;cases h
   have:=d.mem i o x h;rw [World.cell?_setCells_out b J off w _ (λe=>(I e).elim)];exact this
  env:=λt v h=>let ⟨x,h1,h2⟩:=d.env t v h;⟨x,h1,h2.ghost D⟩
  vars:=λi li h=>by
   by_cases A:i=k
   ·subst A;rw [zU] at h;cases h;refine ⟨b,Y,e,fz,W,g1,by rw [g2];exact h3,by rw [g2,aV hl];exact h4,λj q L=>?_,h6,h7⟩;rw [nY hl] at L;rw [Q6,g3 j];by_cases hj:off<=j/\j<off+cs.length
    ·rw [if_pos hj] at L;rw [if_pos jh];exact (hr _ q L).ghost D
    ·rw [if_neg hj] at L;rw [if_neg jh];have:=(h5 j q L).ghost D;rw [Q6] at this;exact this
   ·rw [zN A] at h;obtain ⟨N,F,e2,S,k1,k2,k3,U,k5,k6,k7⟩:=d.vars i li h;have I:N≠b:=λe=>A (d.inj i k b (e▸k1) W);exact ⟨N,F,e2,S,k1,by rw [xR b J off w N I];exact k2,k3,U,λj q L=>(k5 j q L).ghost D,k6,k7⟩
  bufs:=λi c h=>by
   by_cases A:i=k
   ·subst A;rw [zU] at h;cases h
   ·rw [zN A] at h;obtain ⟨k1,k2,k3,U⟩:=d.bufs i c h;refine ⟨k1,k2,k3,?_⟩;rcases U with U | ⟨N,n,cap,F,e2,S,q1,q2,q3,q4,q5⟩
    ·exact .inl U
    ·have I:N≠b:=λe=>A (d.inj i k b (e▸q2) W);exact .inr ⟨N,n,cap,F,e2,S,q1,q2,q3,by rw [xR b J off w N I];exact q4,q5⟩
  inj:=d.inj
  dom:=λi h=>by
   by_cases A:i=k
   ·subst A;rw [zU] at h;cases h
   ·rw [zN A] at h;exact d.dom i h
  glob:=d.glob
  old:=d.old
  owns:=d.owns.keep λi wd li h=>by
   have A:i≠k:=by rintro rfl;rw [zU] at h;cases h
   rw [zN A] at h;exact ⟨h,rfl,rfl,λb' bn=>⟨xR b J off w b' (λe=>A (d.inj i k b (e▸bn) W)),λ_ h=>h⟩,λj q x _ hr=>hr.ghost D⟩}
end
def PV.one:PV->Bool
 | .agg _ | .tup _=>false
 | _=>true
def AV.one:AV->Bool
 | .p q=>q.one
 | .ag _ | .tu _=>false
 | _=>true
def zE5 {x:Value} (h:yT M κ tip B v x) (ho:v.one=true):x.oneCell'=true:=by
 cases h with
 | p p x hr=>cases hr<;>first | rfl | (simp [AV.one,PV.one] at ho)
 | nl c h1=>rfl
 | ptr k o b l h1 h2=>rfl
 | ref k o n b l h1 h2=>rfl
 | buf k n c x h1 hs h2 h3 h4=>
  have hs':(c.take n).isSlice=true:=by cases c<;>simp_all [PV.take,PV.isSlice]
  rcases mE h3 hs' with ⟨hx,_⟩ | ⟨b,o,m,cc,hx,_⟩ | ⟨aa,hx,_⟩<;>rw [hx]<;>rfl
 | ag l vs h1 h2=>simp [AV.one] at ho
 | tu l vs h1 h2=>simp [AV.one] at ho
 | fnv f l vs h1 h2=>unfold mkF;cases Wa f 1000000<;>rfl
 | own k n w l x h1 h2 h3 hs=>obtain ⟨a,m,c,rfl⟩:=hs;rfl
 | optr k n o w l x h1 h2 h3 hs=>obtain ⟨a,rfl⟩:=hs;rfl
 | osl k n o m w l x h1 h2 h3 hs=>obtain ⟨a,m',c,rfl⟩:=hs;rfl
def tZ {d:Array Value} {A:Nat×Nat} (h:w.heap[b]? = some (.cells d e A)) (D:zDu A d.size) {o:Nat} (J:o<d.size):w.frozen? ⟨b,o,none⟩=false:=by
 simp only [World.frozen?,h];unfold zDu at D;simp;omega
section
def aT {h:LV} {b:ABlk}:Mic.upd ⟨h,bs,[],none,[(k,b)]⟩ s=s.setb k b:=by
 simp only [Mic.upd,lk];congr 1;funext t;cases Q9 t k<;>simp
def sa_store {ta:TypeId} {V:Operand} (bh:yN P te) (hd:o.dst=none) (ho:o.op=.store t V x) (ht:te t=some i) (ha:s.get te ta V=some (.ptr k off)) (hx:s.get te t x=some v) (hb:s.blk k=some (.var l))
  (hw:v.cells.length=i.w) (hl:off+i.w<=l.length) (I:v.cells.all AV.one=true):SA P o s ⟨opS V (.ptr k off)++opS x v,[(k,.var l)],[],none,[(k,.var (uS l off v.cells))]⟩:=by
 refine ⟨?_,yK (zO ha) (zO hx),by intro e Z;simp at Z;subst Z;exact hb,by intro e Z;simp at Z⟩;intro cx s' a w K Q hm hs br hk;obtain ⟨M,κ,tip,h0,hp,Y⟩:=hs;have L:=hm.2.1 (k,.var l) jk;have bf:=yB Y (yJ hx s' (zY hm.1));have T:=yB Y (yJ ha s' (yE hm.1));obtain ⟨N,F⟩:=aD bf;obtain ⟨b,bi,e,fz,h1,h2,h3,h4,h5,h6,h7⟩:=Y.vars k l L;generalize be:a.eval V=z at T;cases T with
 | ptr k o b' l' G ce=>
  rw [h1] at G;cases G;have D:(a.eval x).cells.toList.length=v.cells.length:=by simp [N]
  have y:=run_storeCells_cells (P:=P) b off (a.eval x).cells.toList 0 w
   (by
     intro j W;rw [D] at W;have:off+j<bi.size:=jh
     simp [World.cell?,h2,this])
   (by intro j W;rw [D] at W;simp only [Qq];exact tZ h2 h3 jh)
   (by
    intro u hu;obtain ⟨j,W,bc⟩:=List.getElem_of_mem hu;have bx:j<v.cells.length:=jh
    have U:=F j v.cells[j] jk;have bd:j<(a.eval x).cells.size:=jh
    have:(a.eval x).cells.getD j undef=u:=by simp [bd];simpa using bc
    rw [this] at U;exact zE5 U ((Q3.1 I) _ (List.getElem_mem _)))
  unfold Oper.wp;have:(execOp a.eval o).run P w=.ok .skip (w.setCells b off (a.eval x).cells.toList):=by
   simp only [Qq] at y;have bg:¬ ((a.eval x).cells.size≠i.w):=by rw [N,hw];simp
   simp [execOp,ho,be,Instr.storeAt,Qc,storeVar,vV bh ht,bg,y]
  rw [this];show K (a.put o.dst undef) _;rw [hd];refine hk _ _ ?_;rw [aT];refine ⟨M,κ,tip,h0,hp,Y.setVar L h1 jh D ?_⟩;intro j q U;have:=F j q U;rw [Q6] at this;simpa using this
inductive nD (s:AS) (te:TE):List (Nat×Operand)->LV->LV->Prop where
 | nil:nD s te [] [] []
 | cons (i:Nat) (x:Operand) (t:TypeId) (v:AV) (ps:List (Nat×Operand)) (vs rs:LV):s.get te t x=some v->nD s te ps vs rs->nD s te ((i,x) :: ps) ((i,v) :: vs) (opS x v++rs)
def nD.reads {ps:List (Nat×Operand)} {A d:LV} (h:nD s te ps A d):wH s d:=by
 induction h with
 | nil=>intro e F;simp_all
 | cons i x t v ps A d G _ D=>exact yK (zO G) D
def eX (M:Mem) (κ:Nat->Option Nat) (tip:Nat->Value) (B:NB):List (Nat×Value)->LV->Prop
 | [],[]=>True
 | (i,x) :: xs,(j,v) :: vs=>i=j/\yT M κ tip B v x/\eX M κ tip B xs vs
 | _,_=>False
def nD.rep {ps:List (Nat×Operand)} (h:nD s te ps vs rs) (hi:Inv cx M κ tip s' a w) :
  wH s' rs->eX M κ tip s'.blk (ps.map λp=>(p.1,a.eval p.2)) vs:=by
 induction h with
 | nil=>intro _;trivial
 | cons i x t v ps vs rs h1 _ ih=>
  intro hr;exact ⟨rfl,yB hi (yJ h1 s' (yE hr)),ih (zY hr)⟩
def nE (place:Nat->Option (Nat×Nat)) (cells:List AV):LV->Option (List AV)
 | []=>some cells
 | (i,v) :: rest=>match place i with
  | none=>none
  | some (off,size)=>bif Q9 v.cells.length size&&Wb (off+v.cells.length) cells.length then nE place (uS cells off v.cells) rest else none
def zKn (off:Nat):∀ (y:List Value) (n:Nat) (d:Array Value),off+n+y.length<=d.size ->
  let r:=(y.zipIdx n).foldl (λcs (c,j)=>cs.setIfInBounds (off+j) c) d
  r.size=d.size/\∀ j,r[j]? = if off+n<=j/\j<off+n+y.length then y[j - (off+n)]? else d[j]?
 | [],n,d,_=>by simp only [List.zipIdx_nil,List.foldl_nil,List.length_nil,Qq,true_and];intro j;rw [if_neg jh]
 | v :: y,n,d,h=>by
  simp only [List.zipIdx_cons,Qk,Qi] at h ⊢;obtain ⟨G,I⟩:=zKn off y (n+1) (d.setIfInBounds (off+n) v) jl;refine ⟨by simpa using G,λj=>?_⟩;rw [I j];by_cases F:off+(n+1)<=j/\j<off+(n+1)+y.length
  ·rw [if_pos F,if_pos jh];have:j - (off+n)=(j - (off+(n+1)))+1:=jh
   rw [this];simp
  ·rw [if_neg F];by_cases E:j=off+n
   ·subst E;rw [if_pos jh];have:off+n<d.size:=jh
    simp [this]
   ·rw [if_neg jh,Array.getElem?_setIfInBounds_ne jh]
def zE2 {y:Nat->Option (Nat×Nat)}:∀ (V:LV) (xs:List (Nat×Value)) (l l':List AV) (d:Array Value),eX M W tip B xs V->CR M W tip B l d ->
  nE y l V=some l'->∃ A,Instr.fill y d xs=some A/\CR M W tip B l' A
 | [],[],l,l',d,_,T,h=>by simp [nE] at h;subst h;exact ⟨d,rfl,T⟩
 | (i,v) :: V,[],_,_,_,E,_,_=>by simp [eX] at E
 | [],(i,x) :: xs,_,_,_,E,_,_=>by simp [eX] at E
 | (i,v) :: V,(j,x) :: xs,l,l',d,E,T,h=>by
  obtain ⟨rfl,hr,E⟩:=E;simp only [nE] at h;cases I:y j with
  | none=>simp [I] at h
  | some os=>
   obtain ⟨off,size⟩:=os;simp only [I] at h;cases U:(Q9 v.cells.length size&&Wb (off+v.cells.length) l.length) with
   | false=>simp [U] at h
   | true=>
    rw [U] at h;simp only [Q5] at U;have e1:=Qm U.1;have Z:=W4 U.2;obtain ⟨c1,c2⟩:=aD hr;have Y:off+x.cells.size<=d.size:=by rw [c1,T.1];exact Z
    have F:=zKn off x.cells.toList 0 d (by simpa using Y);have hz:x.cells.zipIdx.foldl (λcs (c,j)=>cs.setIfInBounds (off+j) c) d=(x.cells.toList.zipIdx 0).foldl (λcs (c,j)=>cs.setIfInBounds (off+j) c) d:=by
     rw [<- Ql,Array.toList_zipIdx]
    generalize hG:(x.cells.toList.zipIdx 0).foldl (λcs (c,j)=>cs.setIfInBounds (off+j) c) d=G at F hz;have ba:CR M W tip B (uS l off v.cells) G:=by
     refine ⟨by rw [F.1,aV Z];exact T.1,λj q S=>?_⟩;rw [nY Z] at S;rw [Q6,F.2 j];by_cases hj:off<=j/\j<off+v.cells.length
     ·simp_all
     ·rw [if_neg hj] at S;rw [if_neg jl];have:=T.2 j q S;rw [Q6] at this;exact this
    obtain ⟨A,f1,f2⟩:=zE2 V xs _ l' G E ba h;refine ⟨A,?_,f2⟩;have hg:(x.cells.size≠size||off+x.cells.size > d.size)=false:=by
     have:¬ (d.size<off+x.cells.size):=jh
     simp [c1,e1];omega
    simp only [Instr.fill,I,hg,hz,f1];simp
def zId (te:TE) (fs:List (TypeId×Nat)) (i:Nat):Option (Nat×Nat):=match fs[i]? with
 | some (ft,fo)=>match te ft with
  | some fi=>some (fo,fi.w)
  | none=>none
 | none=>none
def zJm (v:yN P te) (w:World):∀ (d:List Field),(∀ f∈d,(te f.type).isSome=true) ->
  (d.mapM λf=>(do pure (f.offset,<- sizeOf f.type):Sem (Nat×Nat))).run P w=.ok (d.map λf=>(f.offset,((te f.type).map (·.w)).getD 0)) w
 | [],_=>by simp
 | f :: d,h=>by
  obtain ⟨i,D⟩:=Q1.1 (h f jk);have:=zJm v w d (λg J=>h g (by simp [J]));rw [List.mapM_cons];simp only [Sem.run_bind,vV v D,Qx,Sem.run_pure,this,W5,D,Option.map_some,Wf]
def yC2 {W:List (Nat×Operand)} (F:yN P te) (ho:o.op=.build t ps) (V:ps.toList=W) (ht:te t=some i) (Z:i.ty=.struct fs) (bc:fs.all (λf=>(te f.1).isSome)=true)
  (hp:nD s te W vs rs) (U:nE (zId te fs) (i.z.map zA) vs=some l):VA P o s rs [] (.ag l):=by
 refine ⟨?_,hp.reads,jk⟩;intro cx M κ tip s' a w hi hr _;have bg:=hp.rep hi hr;obtain ⟨z,h1,h2,h3⟩:=zHs F ht (M:=M) (κ:=κ) (tip:=tip) (B:=s'.blk) w;obtain ⟨d,hu,G⟩:=dM F (t:=t) (fs:=fs) (by simp [ht,Z]);have E:∀ f∈d.toList,(te f.type).isSome=true:=by
  intro f U;have:(f.type,f.offset)∈fs:=by rw [<- G];exact Qp.2 ⟨f,U,rfl⟩
  exact (Q3.1 bc) _ this
 have K:=zJm (P:=P) F w d.toList E;have A:zId te fs=λj=>((d.toList.map λf=>(f.offset,((te f.type).map (·.w)).getD 0)).toArray)[j]?:=by
  funext j;simp only [zId,<- G,List.getElem?_map];cases N:d.toList[j]? with
  | none=>
   have:d.size<=j:=by simpa using N
   simp [N]
  | some f=>
   obtain ⟨fi,ba⟩:=Q1.1 (E f (Qn N));simp [N,ba]
 rw [A] at U;obtain ⟨J,f1,f2⟩:=zE2 vs _ _ l z.cells bg h3 U;refine ⟨.agg J,?_,.ag _ _ f2.1 f2.2⟩;have bh:(d.mapM λf=>(do pure (f.offset,<- sizeOf f.type):Sem (Nat×Nat))).run P w=.ok (d.toList.map λf=>(f.offset,((te f.type).map (·.w)).getD 0)).toArray w:=by
  rw [Array.mapM_eq_mapM_toList];rw [Sem.run_map,K];rfl
 have v:(ps.map λ(i,x)=>(i,a.eval x)).toList=W.map λp=>(p.1,a.eval p.2):=by simp [<- V]
 simp only [execOp,ho,Instr.build,Sem.run_bind,h1,Qx,run_underlying hu,bh,v,f1];simp
def zVx {K:List (Nat×Operand)} {J U:LV} {E:TI} (v:yN P te) (ho:o.op=.build t ps) (D:ps.toList=K) (N:te t=some i) (I:i.ty=.arr n e) (he:te e=some E)
  (V:nD s te K J U) (hf:nE (λj=>some (j*E.w,E.w)) (i.z.map zA) J=some l):VA P o s U [] (.ag l):=by
 refine ⟨?_,V.reads,jk⟩;intro cx M κ tip s' a w hi hr _;have L:=V.rep hi hr;obtain ⟨z,h1,h2,Z⟩:=zHs v N w;have hu:=zFf v (t:=t) (n:=n) (e:=e) (by simp [N,I]);obtain ⟨y,Y,S⟩:=zE2 J _ _ l _ L Z hf;refine ⟨.agg y,?_,.ag _ _ S.1 S.2⟩;have h:(ps.map λ(i,x)=>(i,a.eval x)).toList=K.map λp=>(p.1,a.eval p.2):=by simp_all
 simp only [execOp,ho,Instr.build,Sem.run_bind,h1,Qx,run_underlying hu,vV v he,h,Y];simp
end
end Go.Sw
