/- UpdateDecode holds for all inputs -/
import Derived.Calls
import Derived.Orders
import Derived.KernelRfl
import Derived.ArgAppend
import Derived.Laws.MakeOwn
import Derived.WalkKit
import Derived.LoopN
set_option linter.all false
open Option renaming map_eq_some_iff -> Q0, isSome_iff_exists -> Q2
open List renaming range -> Q1, all_eq_true -> Q3, mem_append -> Q4, mem_range -> Q8, mem_cons -> Qb, mem_cons_of_mem -> Qg, filterMap_cons -> Qh, foldl_cons -> Qi, take_zero -> Qk, mem_filter -> Ql, length_eq_zero_iff -> Qo, mem_map -> Qq, eq_nil_iff_forall_not_mem -> Qs, map_cons -> Qt, length_cons -> Qv, range_succ_eq_map -> Qy, filterMap_append -> W1, mem_of_getElem? -> W2, mem_cons_self -> W3, filter_append -> W4, filter_congr -> W7, filter_cons -> W8, range_succ -> Wa
open Bool renaming and_eq_true -> Q5, eq_false_iff -> Qj, or_eq_true -> Qr, not_eq_true' -> W6, not_true -> Wc
open Nat renaming eq_of_beq_eq_true -> Q6, add_assoc -> Q9, beq -> Qa, sub_self -> Qn, zero_le -> Qz, add_zero -> W5, blt -> Wb
open Go.Region renaming binds -> Q7, before -> Qf, wanted -> Wd
open BitVec renaming ofInt -> Qc
open Go.Instr renaming sliceBounds -> Qd, sureAddr -> Qe, indexAt -> Qp, sliceAt -> Qu, loadAt -> Qw, slice -> W0, sliceBound -> W9
open Array renaming foldl_toList -> Qm, replicate -> Qx
namespace Go.Sw
open Go
variable {P:Program}{a:Act}{af:Array Edge}{b:Int}{c:Operand}{d:Nat}{dst e:TypeId}{f fo:Nat}{fs:List (TypeId×Nat)}{ft:TypeId}{id:Nat}{ity:TypeId}{k k':IntKind}{n:Nat}{o:Oper}{off:Nat}{ops:Array Oper}{pos:String}{r:List Oper}{src t t0:TypeId}{tip tip':Nat->Value}{tx ty tyy:TypeId}{w:World}{x y:Operand}{α:Type}{κ κ':Nat->Option Nat}
abbrev By:=List UInt8
inductive PV where
 | bool (b:Bool)
 | int (k:IntKind) (n:Int)
 | str (s:By)
 | bytes (l:By)
 | sl (w:Nat) (l:List PV)
 | agg (l:List PV)
 | tup (l:List PV)
 | cptr (p:PV)
 | nilp
 | fn (f:FuncId) (first caps:List PV)
 | box (l:List PV)
 | err (nonNil:Bool)
 deriving Inhabited
variable {l:List PV}{p q:PV}
def PV.cells:PV->List PV
 | .agg l=>l
 | p=>[p]
theorem pq {β:Type} {a c:α} {b d:β} (h:(a,b)=(c,d)):a=c/\b=d:=Prod.mk.inj h
def qS:List Int:=[(-1),0,4,8,9]
def zH2:PV:=.agg (qS.map (PV.int .i64))
def uR:By:=[83,87]
def zKg:PV:=.agg (uR.map λx=>PV.int .u8 x.toNat)
def wJ:List Int:=[1116352408,1899447441,3049323471,3921009573,961987163,1508970993,2453635748,2870763221,3624381080,310598401,607225278,1426881987,1925078388,2162078206,2614888103,3248222580,3835390401,4022224774,264347078,604807628,770255983,1249150122,1555081692,1996064986,2554220882,2821834349,2952996808,3210313671,3336571891,3584528711,113926993,338241895,666307205,773529912,1294757372,1396182291,1695183700,1986661051,2177026350,2456956037,2730485921,2820302411,3259730800,3345764771,3516065817,3600352804,4094571909,275423344,430227734,506948616,659060556,883997877,958139571,1322822218,1537002063,1747873779,1955562222,2024104815,2227730452,2361852424,2428436474,2756734187,3204031479,3329325298]
def zGk:PV:=.agg (wJ.map (PV.int .u32))
def rF:List Int:=[1,0,0,1,0,2,0,0,1,0,4,0,0,0,0,5,0,0,2,0,6,0,0,1,2,7,0,0,1,1,8,0,0,1,0,9,1,1,3,3,10,1,1,3,3,11,1,1,0,2,12,0,0,1,0,13,1,1,0,0,14,1,1,0,1,15,1,1,2,1,16,0,0,1,0,17,0,0,6,(-1),18,1,1,2,1,19,0,0,1,3,20,0,0,1,0,21,1,1,4,2,22,1,1,1,0,23,2,1,1,1,24,2,1,2,0,25,2,1,0,0,26,2,1,0,1,27,2,1,0,1,28,2,1,0,0,29,2,1,0,0,30,1,1,0,1,31,1,1,0,0,32,1,1,0,0,33,1,1,3,0]
def zJv:PV:=.agg (rF.map (PV.int .i64))
def gd_internal_strconv_uint64pow10:List Int:=[1,10,100,1000,10000,100000,1000000,10000000,100000000,1000000000,10000000000,100000000000,1000000000000,10000000000000,100000000000000,1000000000000000,10000000000000000,100000000000000000,1000000000000000000,10000000000000000000]
def gp_internal_strconv_uint64pow10:PV:=.agg (gd_internal_strconv_uint64pow10.map (PV.int .u64))
def tX:By:=[0,1,28,2,29,14,24,3,30,22,20,15,25,17,4,8,31,27,13,23,21,19,16,7,26,12,18,6,11,5,10,9]
def fK:PV:=.agg (tX.map λx=>PV.int .u8 x.toNat)
def tQ:By:=[0,1,56,2,57,49,28,3,61,58,42,50,38,29,17,4,62,47,59,36,45,43,51,22,53,39,33,30,24,18,12,5,63,55,48,27,60,41,37,16,46,35,44,21,52,32,23,11,54,26,40,15,34,20,31,10,25,14,19,9,13,8,7,6]
def eP:PV:=.agg (tQ.map λx=>PV.int .u8 x.toNat)
def GL (g:Nat):Option PV:=bif Qa g 0 then some zH2 else bif Qa g 1 then some zKg else bif Qa g 2 then some zGk else bif Qa g 4 then some zJv else bif Qa g 5 then some gp_internal_strconv_uint64pow10 else bif Qa g 6 then some fK else bif Qa g 7 then some eP else none
abbrev Mem:=Nat->Nat->Option Value
variable {M M':Mem}
def mget (M:Mem) (b o:Nat):Value:=(M b o).getD undef
def Mem.le (M M':Mem):Prop:=∀ b o x,M b o=some x->M' b o=some x
inductive Rep (M:Mem):PV->Value->Prop where
 | bool (b:Bool):Rep M (.bool b) (.bool b)
 | int (k:IntKind) (n:Int):Rep M (.int k n) (.int k n)
 | str (s:By):Rep M (.str s) (.string ⟨s.toArray⟩)
 | bytes0:Rep M (.bytes []) (.slice none 0 0)
 | bytesE (a:Addr):Rep M (.bytes []) (.slice (some a) 0 0)
 | bytes (l:By) (b o n c:Nat):n=l.length->n<=c ->
   (∀ (i:Nat) (x:UInt8),l[i]? = some x->M b (o+i)=some (.int .u8 x.toNat))->Rep M (.bytes l) (.slice (some ⟨b,o,none⟩) n c)
 | sl0 (w:Nat):Rep M (.sl w []) (.slice none 0 0)
 | slE (a:Addr):Rep M (.sl 4 []) (.slice (some a) 0 0)
 | sl (w:Nat) (l:List PV) (b o n c:Nat):n=l.length->n<=c ->
   (∀ (i:Nat) (p:PV),l[i]? = some p->p.cells.length=w) ->
   (∀ (i:Nat) (p:PV) (j:Nat) (q:PV),l[i]? = some p->p.cells[j]? = some q->(M b (o+(i*w+j))).isSome=true) ->
   (∀ (i:Nat) (p:PV) (j:Nat) (q:PV),l[i]? = some p->p.cells[j]? = some q->Rep M q (mget M b (o+(i*w+j)))) ->
   Rep M (.sl w l) (.slice (some ⟨b,o,none⟩) n c)
 | agg (l:List PV) (vs:Array Value):vs.size=l.length->(∀ (j:Nat) (q:PV),l[j]? = some q->Rep M q (vs.getD j undef))->Rep M (.agg l) (.agg vs)
 | tup (l:List PV) (vs:Array Value):vs.size=l.length->(∀ (j:Nat) (q:PV),l[j]? = some q->Rep M q (vs.getD j undef))->Rep M (.tup l) (.tuple vs)
 | cptr (p:PV) (b o:Nat):(∀ (j:Nat) (q:PV),p.cells[j]? = some q->(M b (o+j)).isSome=true) ->
   (∀ (j:Nat) (q:PV),p.cells[j]? = some q->Rep M q (mget M b (o+j)))->Rep M (.cptr p) (.pointer (some ⟨b,o,none⟩))
 | nilp:Rep M .nilp (.pointer none)
 | fn (f:FuncId) (fs cs:List PV) (vf vc:Array Value):vf.size=fs.length->vc.size=cs.length ->
   (∀ (j:Nat) (q:PV),fs[j]? = some q->Rep M q (vf.getD j undef))->(∀ (j:Nat) (q:PV),cs[j]? = some q->Rep M q (vc.getD j undef)) ->
   Rep M (.fn f fs cs) (.func (.func f) vf vc)
 | err0:Rep M (.err false) .nilIface
 | err1 (t:TypeId) (v:Value):Rep M (.err true) (.iface t v)
theorem zT4 (h:M.le M') {b o:Nat} (hs:(M b o).isSome=true):mget M' b o=mget M b o:=by
 obtain ⟨x,hx⟩:=Q2.1 hs;simp [mget,hx,h b o x hx]
theorem zUi (h:M.le M') {b o:Nat} (hs:(M b o).isSome=true):(M' b o).isSome=true:=by
 obtain ⟨x,hx⟩:=Q2.1 hs;simp [h b o x hx]
theorem Mem.le_refl (M:Mem):M.le M:=λ_ _ _ h=>h
theorem Mem.le.trans' {A B C:Mem} (h:A.le B) (k:B.le C):A.le C:=λb o x e=>k b o x (h b o x e)
theorem Rep.mono (h:M.le M') {v:Value} (hr:Rep M p v):Rep M' p v:=by
 induction hr with
 | bool b=>exact .bool b
 | int k n=>exact .int k n
 | str s=>exact .str s
 | bytes0=>exact .bytes0
 | bytesE a=>exact .bytesE a
 | bytes l b o n c h1 h2 h3=>exact .bytes l b o n c h1 h2 λi x hx=>h _ _ _ (h3 i x hx)
 | sl0 w=>exact .sl0 w
 | slE a=>exact .slE a
 | sl w l b o n c h1 h2 h3 h4 _ ih=>
  exact .sl w l b o n c h1 h2 h3 (λi p j q hp hq=>zUi h (h4 i p j q hp hq))
   (λi p j q hp hq=>by rw [zT4 h (h4 i p j q hp hq)];exact ih i p j q hp hq)
 | agg l vs h1 _ ih=>exact .agg l vs h1 ih
 | tup l vs h1 _ ih=>exact .tup l vs h1 ih
 | cptr p b o h1 _ ih=>exact .cptr p b o (λj q hq=>zUi h (h1 j q hq)) (λj q hq=>by rw [zT4 h (h1 j q hq)];exact ih j q hq)
 | nilp=>exact .nilp
 | fn f fs cs vf vc h1 h2 _ _ i1 i2=>exact .fn f fs cs vf vc h1 h2 i1 i2
 | err0=>exact .err0
 | err1 t v=>exact .err1 t v
inductive AV where
 | p (v:PV)
 | nl (c:PV)
 | ptr (k o:Nat)
 | ref (k o n:Nat)
 | buf (k n:Nat)
 | ag (l:List AV)
 | tu (l:List AV)
 | fnv (f:FuncId) (l:List AV)
 | own (k n:Nat)
 | optr (k n o:Nat)
 | osl (k n o m:Nat)
 deriving Inhabited
variable {v:AV}
abbrev LV:=List (Nat×AV)
variable {rs rs':LV}
inductive ABlk where
 | var (l:List AV)
 | buf (c:PV)
 | own (w:Nat) (l:List AV)
 deriving Inhabited
abbrev NB:=Nat->Option ABlk
variable {B B':NB}
abbrev LB:=List (Nat×ABlk)
variable {bs:LB}
structure AS where
 env:Nat->Option AV
 blk:NB
variable {Q:Exit->AS->Prop}{s s':AS}
def AS.put (s:AS) (d:Nat) (v:AV):AS:={ s with env:=λt=>bif Qa t d then some v else s.env t }
def AS.setb (s:AS) (k:Nat) (b:ABlk):AS:={ s with blk:=λt=>bif Qa t k then some b else s.blk t }
def PV.len:PV->Nat
 | .bytes l=>l.length
 | .sl _ l=>l.length
 | _=>0
def PV.take:PV->Nat->PV
 | .bytes l,n=>.bytes (l.take n)
 | .sl w l,n=>.sl w (l.take n)
 | p,_=>p
def PV.width:PV->Nat
 | .sl w _=>w
 | _=>1
def PV.isSlice:PV->Bool
 | .bytes _ | .sl _ _=>true
 | _=>false
def PV.nilOf:PV->Bool
 | .bytes [] | .sl _ []=>true
 | _=>false
def mkF (f:FuncId) (vs:Array Value):Value:=bif Wb f 1000000 then .func (.func f) vs #[] else .func (.func (f - 1000000)) #[] vs
section
variable (M:Mem) (κ:Nat->Option Nat) (tip:Nat->Value) (B:NB)
inductive RepA:AV->Value->Prop where
 | p (v:PV) (x:Value):Rep M v x->RepA (.p v) x
 | nl (c:PV):c.nilOf=true->RepA (.nl c) (.slice none 0 0)
 | ptr (k o b:Nat) (l:List AV):κ k=some b->B k=some (.var l)->RepA (.ptr k o) (.pointer (some ⟨b,o,none⟩))
 | ref (k o n b:Nat) (l:List AV):κ k=some b->B k=some (.var l)->RepA (.ref k o n) (.slice (some ⟨b,o,none⟩) n n)
 | buf (k n:Nat) (c:PV) (x:Value):B k=some (.buf c)->c.isSlice=true->n<=c.len->Rep M (c.take n) x->(n=c.len->x=tip k)->RepA (.buf k n) x
 | ag (l:List AV) (vs:Array Value):vs.size=l.length->(∀ (j:Nat) (q:AV),l[j]? = some q->RepA q (vs.getD j undef))->RepA (.ag l) (.agg vs)
 | tu (l:List AV) (vs:Array Value):vs.size=l.length->(∀ (j:Nat) (q:AV),l[j]? = some q->RepA q (vs.getD j undef))->RepA (.tu l) (.tuple vs)
 | fnv (f:FuncId) (l:List AV) (vs:Array Value):vs.size=l.length->(∀ (j:Nat) (q:AV),l[j]? = some q->RepA q (vs.getD j undef))->RepA (.fnv f l) (mkF f vs)
 | own (k n w:Nat) (l:List AV) (x:Value):B k=some (.own w l)->n*w<=l.length->(n*w=l.length->x=tip k)->(∃ a m c,x=.slice a m c)->RepA (.own k n) x
 | optr (k n o w:Nat) (l:List AV) (x:Value):B k=some (.own w l)->n*w<=l.length->(n*w=l.length->∃ b,κ k=some b/\x=.pointer (some ⟨b,o,none⟩))->(∃ a,x=.pointer a)->RepA (.optr k n o) x
 | osl (k n o m w:Nat) (l:List AV) (x:Value):B k=some (.own w l)->n*w<=l.length->(n*w=l.length->∃ b c,κ k=some b/\x=.slice (some ⟨b,o,none⟩) m c/\m<=c)->(∃ a m c,x=.slice a m c)->RepA (.osl k n o m) x
end
def zGs (fz:Nat×Nat) (n:Nat):Prop:=fz.1=fz.2∨n<=fz.1
def BIG:Nat:=1000000000
structure PKs where
 l:List (Nat×Nat)
 ob:List Nat
 nk:∀ e∈l,e.1<BIG
instance:Membership (Nat×Nat) PKs:=⟨λp e=>e∈p.l⟩
def zU8:PKs:=⟨[],[],λ_ h=>by cases h⟩
@[simp] theorem yGw {p:PKs} {e:Nat×Nat}:e∈p↔e∈p.l:=Iff.rfl
@[simp] theorem noPK_l:zU8.l=[]:=rfl
@[simp] theorem yGv:zU8.ob=[]:=rfl
structure Ctx where
 w0:World
 M0:Mem
 pk:PKs
 nt:Nat
 df:List Deferred
variable {cx:Ctx}
def Ctx.pb (cx:Ctx):List Nat:=cx.pk.l.map (·.2)
abbrev Ctx.ob (cx:Ctx):List Nat:=cx.pk.ob
structure yA6 (cx:Ctx) (w:World):Prop where
 os:w.os=cx.w0.os
 tape:w.tape=cx.w0.tape
 output:w.output=cx.w0.output
 size:cx.w0.heap.size<=w.heap.size
 block:∀ b,b<cx.w0.heap.size->b∉cx.pb->b∉cx.ob->w.heap[b]? = cx.w0.heap[b]?
def yF8 (w:World):Prop:=∀ g p,GL g=some p->0<p.cells.length/\∃ arr e fz,w.heap[g]? = some (.cells arr e fz)/\arr.size=p.cells.length
def GlobOk (w:World) (M:Mem):Prop:=(∀ g p,GL g=some p->Rep M (.cptr p) (.pointer (some ⟨g,0,none⟩)))/\yF8 w
theorem GlobOk.mono (h:M.le M') (hg:GlobOk w M):GlobOk w M':=⟨λg p e=>(hg.1 g p e).mono h,hg.2⟩
def zPs (cx:Ctx) (M:Mem) (κ:Nat->Option Nat) (tip:Nat->Value) (B:NB) (w:World):Prop:=
 ∀ k wd l,B k=some (.own wd l)->(wd=0/\κ k=none/\l=[.p (.tup [])])∨0<wd/\((tip k=.slice none 0 0/\κ k=none/\l=[])∨∃ b n cap arr e fz,tip k=.slice (some ⟨b,0,none⟩) n cap/\κ k=some b/\(cx.w0.heap.size<=b∨b∈cx.ob/\BIG<=k) /\
  w.heap[b]? = some (.cells arr e fz)/\zGs fz arr.size/\n*wd=l.length/\cap*wd<=arr.size/\n<=cap/\cap<=maxLen/\(∀ (j:Nat) (q:AV),l[j]? = some q->RepA M κ tip B q (arr.getD j undef))/\∀ o,M b o=none)
structure Inv (cx:Ctx) (M:Mem) (κ:Nat->Option Nat) (tip:Nat->Value) (s:AS) (a:Act) (w:World):Prop where
 defers:a.defers=cx.df
 size:a.tmps.size=cx.nt
 fr:yA6 cx w
 mem:∀ b o x,M b o=some x->w.cell? ⟨b,o,none⟩=some x
 env:∀ t v,s.env t=some v->∃ x,a.tmps[t]? = some x/\RepA M κ tip s.blk v x
 vars:∀ k l,s.blk k=some (.var l)->∃ b arr e fz,κ k=some b/\w.heap[b]? = some (.cells arr e fz)/\zGs fz arr.size /\
  arr.size=l.length/\(∀ (j:Nat) (q:AV),l[j]? = some q->RepA M κ tip s.blk q (arr.getD j undef))/\(∀ o,M b o=none)/\(cx.w0.heap.size<=b∨b∈cx.pb)
 bufs:∀ k c,s.blk k=some (.buf c)->Rep M c (tip k)/\c.isSlice=true/\0<c.width /\
  ((tip k=.slice none 0 0/\κ k=none)∨∃ b n cap arr e fz,tip k=.slice (some ⟨b,0,none⟩) n cap/\κ k=some b/\cx.w0.heap.size<=b /\
   w.heap[b]? = some (.cells arr e fz)/\zGs fz arr.size/\cap*c.width<=arr.size/\cap<=maxLen/\∀ j,n*c.width<=j->M b j=none)
 inj:∀ k k' b,κ k=some b->κ k'=some b->k=k'
 dom:∀ k,s.blk k=none->κ k=none
 old:(∀ b o,b<cx.w0.heap.size->M b o=cx.M0 b o)/\∀ b∈cx.ob,b<cx.w0.heap.size/\∀ o,cx.M0 b o=none
 glob:GlobOk cx.w0 M
 owns:zPs cx M κ tip s.blk w
theorem Inv.globw (hi:Inv cx M κ tip s a w) (hp:∀ k∈cx.pk,κ k.1=some k.2/\k.2<cx.w0.heap.size):GlobOk w M:=by
 refine ⟨hi.glob.1,λg p hg=>?_⟩;obtain ⟨h0,arr,e,fz,h1,h2⟩:=hi.glob.2 g p hg;have hlt:g<cx.w0.heap.size:=(Array.getElem?_eq_some_iff.1 h1).1;refine ⟨h0,arr,e,fz,?_,h2⟩;rw [hi.fr.block g hlt ?_ (λhm=>by
  have hs:(M g 0).isSome=true:=by
   cases hi.glob.1 g p hg with
   | cptr _ _ _ h3 h4=>exact h3 0 _ (List.getElem?_eq_getElem h0)
  rw [hi.old.1 g 0 hlt,(hi.old.2 g hm).2 0] at hs;cases hs)]
 ·exact h1
 intro hm;obtain ⟨k,hk,rfl⟩:=Qq.1 hm;obtain ⟨hκ,_⟩:=hp k hk;have hs:(M k.2 0).isSome=true:=by
  cases hi.glob.1 k.2 p hg with
  | cptr _ _ _ h3 h4=>exact h3 0 _ (List.getElem?_eq_getElem h0)
 cases hb:s.blk k.1 with
 | none=>rw [hi.dom _ hb] at hκ;cases hκ
 | some bl=>
  cases bl with
  | var l=>
   obtain ⟨b,_,_,_,h3,_,_,_,_,h8,_⟩:=hi.vars _ l hb;rw [hκ] at h3;cases h3;rw [h8 0] at hs;cases hs
  | buf c=>
   obtain ⟨_,_,_,h | ⟨b,_,_,_,_,_,_,h3,h4,_⟩⟩:=hi.bufs _ c hb
   ·rw [hκ] at h;cases h.2
   ·rw [hκ] at h3;cases h3;omega
  | own wd l=>
   rcases hi.owns _ wd l hb with ⟨_,h,_⟩ | ⟨_,h | ⟨b,_,_,_,_,_,_,h3,_,_,_,_,_,_,_,_,h5⟩⟩
   ·rw [hκ] at h;cases h
   ·rw [hκ] at h;cases h.2.1
   ·rw [hκ] at h3;cases h3;rw [h5 0] at hs;cases hs
def SRel (cx:Ctx) (s:AS) (a:Act) (w:World):Prop:=∃ M κ tip,cx.M0.le M/\(∀ k∈cx.pk,κ k.1=some k.2/\k.2<cx.w0.heap.size)/\Inv cx M κ tip s a w
theorem RepA.mono (h:M.le M') {x:Value}
  (hr:RepA M κ tip B v x):RepA M' κ tip B v x:=by
 induction hr with
 | p v x h1=>exact .p v x (h1.mono h)
 | nl c h1=>exact .nl c h1
 | ptr k o b l h1 h2=>exact .ptr k o b l h1 h2
 | ref k o n b l h1 h2=>exact .ref k o n b l h1 h2
 | buf k n c x h1 hs h2 h3 h4=>exact .buf k n c x h1 hs h2 (h3.mono h) h4
 | ag l vs h1 _ ih=>exact .ag l vs h1 ih
 | tu l vs h1 _ ih=>exact .tu l vs h1 ih
 | fnv f l vs h1 _ ih=>exact .fnv f l vs h1 ih
 | own k n w l x h1 h2 h3 h4=>exact .own k n w l x h1 h2 h3 h4
 | optr k n o w l x h1 h2 h3 h4=>exact .optr k n o w l x h1 h2 h3 h4
 | osl k n o m w l x h1 h2 h3 h4=>exact .osl k n o m w l x h1 h2 h3 h4
structure GLe (κ κ':Nat->Option Nat) (tip tip':Nat->Value) (B B':NB):Prop where
 var:∀ k b l,κ k=some b->B k=some (.var l)->κ' k=some b/\∃ l',B' k=some (.var l')
 buf:∀ k c,B k=some (.buf c)->∃ c',B' k=some (.buf c')/\(c.isSlice=true->c'.isSlice=true)/\c.len<=c'.len/\(∀ n,n<=c.len->c'.take n=c.take n)/\(c'.len=c.len->tip' k=tip k)
 own:∀ k w l,B k=some (.own w l)->∃ w' l',B' k=some (.own w' l')/\((w'=w/\l.length<=l'.length/\(l'.length=l.length->κ' k=κ k/\tip' k=tip k))∨(w'=0/\l'≠[]))
theorem RepA.ghost (h:GLe κ κ' tip tip' B B') {x:Value}
  (hr:RepA M κ tip B v x):RepA M κ' tip' B' v x:=by
 induction hr with
 | p v x h1=>exact .p v x h1
 | nl c h1=>exact .nl c h1
 | ptr k o b l h1 h2=>obtain ⟨h3,l',h4⟩:=h.var k b l h1 h2;exact .ptr k o b l' h3 h4
 | ref k o n b l h1 h2=>obtain ⟨h4,l',h5⟩:=h.var k b l h1 h2;exact .ref k o n b l' h4 h5
 | buf k n c x h1 hs h2 h3 h4=>
  obtain ⟨c',g1,g2,g3,g4,g5⟩:=h.buf k c h1;refine .buf k n c' x g1 (g2 hs) (by omega) (by rw [g4 n h2];exact h3) (λe=>?_);rw [h4 (by omega),g5 (by omega)]
 | ag l vs h1 _ ih=>exact .ag l vs h1 ih
 | tu l vs h1 _ ih=>exact .tu l vs h1 ih
 | fnv f l vs h1 _ ih=>exact .fnv f l vs h1 ih
 | own k n w l x h1 h2 h3 hs=>
  obtain ⟨w',l',g1,⟨rfl,g2,g3⟩ | ⟨rfl,g2⟩⟩:=h.own k w l h1
  ·exact .own k n _ l' x g1 (by omega) (λe=>by rw [h3 (by omega),(g3 (by omega)).2]) hs
  ·exact .own k n 0 l' x g1 (by omega) (λe=>(g2 (Qo.1 (by omega))).elim) hs
 | optr k n o w l x h1 h2 h3 hs=>
  obtain ⟨w',l',g1,⟨rfl,g2,g3⟩ | ⟨rfl,g2⟩⟩:=h.own k w l h1
  ·exact .optr k n o _ l' x g1 (by omega) (λe=>by
    obtain ⟨b,h4,h5⟩:=h3 (by omega);exact ⟨b,by rw [(g3 (by omega)).1];exact h4,h5⟩) hs
  ·exact .optr k n o 0 l' x g1 (by omega) (λe=>(g2 (Qo.1 (by omega))).elim) hs
 | osl k n o m w l x h1 h2 h3 hs=>
  obtain ⟨w',l',g1,⟨rfl,g2,g3⟩ | ⟨rfl,g2⟩⟩:=h.own k w l h1
  ·exact .osl k n o m _ l' x g1 (by omega) (λe=>by
    obtain ⟨b,c,h4,h5⟩:=h3 (by omega);exact ⟨b,c,by rw [(g3 (by omega)).1];exact h4,h5⟩) hs
  ·exact .osl k n o m 0 l' x g1 (by omega) (λe=>(g2 (Qo.1 (by omega))).elim) hs
theorem GLe.same {k:Nat} {c:PV} (h1:B' k=some (.buf c)) (h2:tip' k=tip k) :
  ∃ c',B' k=some (.buf c')/\(c.isSlice=true->c'.isSlice=true)/\c.len<=c'.len/\(∀ n,n<=c.len->c'.take n=c.take n)/\(c'.len=c.len->tip' k=tip k):=
 ⟨c,h1,id,Nat.le_refl _,λ_ _=>rfl,λ_=>h2⟩
theorem GLe.sameO {k w:Nat} {l:List AV} (h1:B' k=some (.own w l)) (h2:κ' k=κ k) (h3:tip' k=tip k) :
  ∃ w' l',B' k=some (.own w' l')/\((w'=w/\l.length<=l'.length/\(l'.length=l.length->κ' k=κ k/\tip' k=tip k))∨(w'=0/\l'≠[])):=⟨w,l,h1,.inl ⟨rfl,Nat.le_refl _,λ_=>⟨h2,h3⟩⟩⟩
theorem zPs.live (h:zPs cx M κ tip B w) {k wd:Nat} {l:List AV} (hb:B k=some (.own wd l)) (hn:n*wd=l.length) :
  0<wd/\((tip k=.slice none 0 0/\κ k=none/\l=[])∨∃ b n cap arr e fz,tip k=.slice (some ⟨b,0,none⟩) n cap/\κ k=some b/\(cx.w0.heap.size<=b∨b∈cx.ob/\BIG<=k) /\
  w.heap[b]? = some (.cells arr e fz)/\zGs fz arr.size/\n*wd=l.length/\cap*wd<=arr.size/\n<=cap/\cap<=maxLen/\(∀ (j:Nat) (q:AV),l[j]? = some q->RepA M κ tip B q (arr.getD j undef))/\∀ o,M b o=none):=by
 rcases h k wd l hb with ⟨h1,_,h3⟩ | h
 ·subst h1 h3;simp at hn
 ·exact h
theorem zPs.keep {w':World} (h:zPs cx M κ tip B w)
  (hk:∀ k wd l,B' k=some (.own wd l)->B k=some (.own wd l)/\κ' k=κ k/\tip' k=tip k/\(∀ b,κ k=some b->w'.heap[b]? = w.heap[b]? /\ ∀ o,M b o=none->M' b o=none)/\∀ (j:Nat) (q:AV) (x:Value),l[j]? = some q->RepA M κ tip B q x->RepA M' κ' tip' B' q x) :
  zPs cx M' κ' tip' B' w':=by
 intro k wd l hb;obtain ⟨h1,h2,h3,h4,h5⟩:=hk k wd l hb;rcases h k wd l h1 with ⟨g1,g2,g3⟩ | ⟨g1,g2⟩
 ·exact .inl ⟨g1,by rw [h2];exact g2,g3⟩
 refine .inr ⟨g1,?_⟩;rcases g2 with ⟨g3,g4,g5⟩ | ⟨b,n,cap,arr,e,fz,q1,q2,q3,q4,q5,q6,q7,q8,q9,q10,q11⟩
 ·exact .inl ⟨by rw [h3];exact g3,by rw [h2];exact g4,g5⟩
 ·exact .inr ⟨b,n,cap,arr,e,fz,by rw [h3];exact q1,by rw [h2];exact q2,q3,by rw [(h4 b q2).1];exact q4,q5,q6,q7,q8,q9,λj q hq=>h5 j q _ hq (q10 j q hq),λo=>(h4 b q2).2 o (q11 o)⟩
def lk:List (Nat×α)->Nat->Option α
 | [],_=>none
 | (k,v) :: r,t=>bif Qa t k then some v else lk r t
theorem zMq:∀ (l:List (Nat×α)) (t:Nat),t∉l.map (·.1)->lk l t=none
 | [],_,_=>rfl
 | (k,v) :: r,t,h=>by
  simp only [Qt,Qb,not_or] at h;have:Qa t k=false:=by rw [Qj];intro e;exact h.1 (Q6 e)
  simp only [lk,this,cond_false];exact zMq r t h.2
structure Mic where
 slots:LV
 blks:LB
 fresh:List Nat
 out:Option (Nat×Option AV)
 wr:LB
variable {m:Mic}{ms:List Mic}
def Mic.holds (m:Mic) (s:AS):Prop:=
 (∀ e∈m.slots,s.env e.1=some e.2)/\(∀ e∈m.blks,s.blk e.1=some e.2)/\(∀ k∈m.fresh,s.blk k=none)
def zCt (o:Option (Nat×Option AV)) (env:Nat->Option AV):Nat->Option AV:=
 match o with
 | none=>env
 | some (d,v)=>λt=>bif Qa t d then v else env t
def Mic.upd (m:Mic) (s:AS):AS:={ env:=zCt m.out s.env,blk:=λk=>(lk m.wr k).or (s.blk k) }
def Mic.ws (m:Mic):List Nat:=match m.out with | none=>[] | some (d,_)=>[d]
def aF (l r:List Nat):Bool:=l.all λx=>r.all λy=>!Nat.beq x y
theorem eD {l r:List Nat} (h:aF l r=true) {x:Nat} (hl:x∈l) (hr:x∈r):False:=by
 simp only [aF,Q3] at h;have:=h x hl x hr;simp at this
def zOz:List (Nat×α)->List Nat
 | []=>[]
 | (k,_) :: r=>k :: zOz r
theorem zQv:∀ (l:List (Nat×α)),zOz l=l.map (·.1)
 | []=>rfl
 | (_,_) :: r=>by simp [zOz,zQv r]
def Mic.indep (m n:Mic):Bool:=
 aF m.ws (zOz n.slots++n.ws)&&aF n.ws (zOz m.slots) &&
 aF (zOz m.wr) (zOz n.blks++n.fresh++zOz n.wr)&&aF (zOz n.wr) (zOz m.blks++m.fresh)
theorem zQd {o:Option (Nat×Option AV)} {env:Nat->Option AV} {t:Nat} (h:∀ d v,o=some (d,v)->t≠d):zCt o env t=env t:=by
 cases o with
 | none=>rfl
 | some e=>
  obtain ⟨d,v⟩:=e;have:Qa t d=false:=by rw [Qj];intro e;exact h d v rfl (Q6 e)
  simp [zCt,this]
theorem Mic.upd_env {t:Nat} (h:t∉m.ws):(m.upd s).env t=s.env t:=by
 refine zQd (λd v e=>?_);intro hd;exact h (by simp [Mic.ws,e,hd])
theorem Mic.upd_blk {k:Nat} (h:k∉m.wr.map (·.1)):(m.upd s).blk k=s.blk k:=by
 simp [Mic.upd,zMq _ _ h]
theorem Mic.holds_iff {n:Mic} (h:m.indep n=true) (s:AS):n.holds (m.upd s)↔n.holds s:=by
 simp only [Mic.indep,zQv,Q5] at h;obtain ⟨⟨⟨h1,h2⟩,h3⟩,h4⟩:=h;have e1:∀ e∈n.slots,(m.upd s).env e.1=s.env e.1:=λe he=>
  Mic.upd_env λhw=>eD h1 hw (Q4.2 (.inl (Qq.2 ⟨e,he,rfl⟩)))
 have e2:∀ e∈n.blks,(m.upd s).blk e.1=s.blk e.1:=λe he=>
  Mic.upd_blk λhw=>eD h3 hw (Q4.2 (.inl (Q4.2 (.inl (Qq.2 ⟨e,he,rfl⟩)))))
 have e3:∀ k∈n.fresh,(m.upd s).blk k=s.blk k:=λk hk=>
  Mic.upd_blk λhw=>eD h3 hw (Q4.2 (.inl (Q4.2 (.inr hk))))
 unfold Mic.holds;constructor
 ·rintro ⟨a,b,c⟩;exact ⟨λe he=>by rw [<- e1 e he];exact a e he,λe he=>by rw [<- e2 e he];exact b e he,λk hk=>by rw [<- e3 k hk];exact c k hk⟩
 ·rintro ⟨a,b,c⟩;exact ⟨λe he=>by rw [e1 e he];exact a e he,λe he=>by rw [e2 e he];exact b e he,λk hk=>by rw [e3 k hk];exact c k hk⟩
theorem Mic.indep_comm {n:Mic} (h:m.indep n=true):n.indep m=true:=by
 have flip:∀ {l r:List Nat},aF l r=true->aF r l=true:=by
  intro l r h;simp only [aF,Q3,W6] at *;intro x hx y hy;have:=h y hy x hx;rw [Qj] at this ⊢;intro e;exact this (by rw [Q6 e];simp)
 have app:∀ {l r t:List Nat},aF l (r++t)=true↔aF l r=true/\aF l t=true:=by
  intro l r t;simp only [aF,List.all_append,Q3,Q5];exact ⟨λh=>⟨λx hx=>(h x hx).1,λx hx=>(h x hx).2⟩,λh x hx=>⟨h.1 x hx,h.2 x hx⟩⟩
 simp only [Mic.indep,Q5,app] at *;obtain ⟨⟨⟨⟨a,b⟩,c⟩,⟨⟨d,e⟩,f⟩⟩,⟨g,i⟩⟩:=h;exact ⟨⟨⟨⟨c,flip b⟩,a⟩,⟨⟨g,i⟩,flip f⟩⟩,⟨d,e⟩⟩
theorem Mic.upd_comm {n:Mic} (h:m.indep n=true) (s:AS):n.upd (m.upd s)=m.upd (n.upd s):=by
 simp only [Mic.indep,zQv,Q5] at h;obtain ⟨⟨⟨h1,_⟩,h3⟩,_⟩:=h;have hw:∀ t,t∈m.ws->t∈n.ws->False:=λt a b=>eD h1 a (Q4.2 (.inr b));have hb:∀ t,t∈m.wr.map (·.1)->t∈n.wr.map (·.1)->False:=λt a b=>eD h3 a (Q4.2 (.inr b));have he:(n.upd (m.upd s)).env=(m.upd (n.upd s)).env:=by
  funext t;by_cases a:t∈n.ws
  ·have b:t∉m.ws:=λb=>hw t b a;rw [Mic.upd_env (m:=m) b];cases ho:n.out with
   | none=>simp [Mic.ws,ho] at a
   | some e=>
    obtain ⟨d,v⟩:=e;simp [Mic.ws,ho] at a;subst a;simp [Mic.upd,zCt,ho]
  ·rw [Mic.upd_env (m:=n) a];by_cases b:t∈m.ws
   ·cases ho:m.out with
    | none=>simp [Mic.ws,ho] at b
    | some e=>
     obtain ⟨d,v⟩:=e;simp [Mic.ws,ho] at b;subst b;simp [Mic.upd,zCt,ho]
   ·rw [Mic.upd_env (m:=m) b,Mic.upd_env (m:=m) b,Mic.upd_env (m:=n) a]
 have hk:(n.upd (m.upd s)).blk=(m.upd (n.upd s)).blk:=by
  funext t;by_cases a:t∈n.wr.map (·.1)
  ·have b:t∉m.wr.map (·.1):=λb=>hb t b a;rw [Mic.upd_blk (m:=m) b];simp only [Mic.upd];rw [zMq _ _ b];simp
  ·rw [Mic.upd_blk (m:=n) a];simp only [Mic.upd,zMq _ _ a];simp
 cases h1:n.upd (m.upd s);cases h2:m.upd (n.upd s);rw [h1,h2] at he hk;simp_all
inductive kA:List Mic->AS->AS->Prop where
 | nil (s:AS):kA [] s s
 | cons (m:Mic) (r:List Mic) (s s':AS):m.holds s->kA r (m.upd s) s'->kA (m :: r) s s'
theorem kA.front:∀ (l1:List Mic) (m:Mic) (l2:List Mic) (s s':AS),(∀ n∈l1,n.indep m=true)->kA (l1++m :: l2) s s'->m.holds s/\kA (l1++l2) (m.upd s) s'
 | [],m,l2,s,s',_,h=>by
  cases h with
  | cons _ _ _ _ h1 h2=>exact ⟨h1,h2⟩
 | n :: l1,m,l2,s,s',hi,h=>by
  cases h with
  | cons _ _ _ _ h1 h2=>
   obtain ⟨a,b⟩:=kA.front l1 m l2 _ s' (λx hx=>hi x (by simp [hx])) h2;have hin:=hi n (by simp);refine ⟨(Mic.holds_iff hin s).1 a,.cons n _ _ _ ((Mic.holds_iff (Mic.indep_comm hin) s).2 h1) ?_⟩;rw [<- Mic.upd_comm hin];exact b
def yAr (P:Program) (ops:Array Oper) (i:Nat) (m:Mic):Prop:=
 ∀ (cx:Ctx) (s:AS) (a:Act) (w:World) (K:Act->World->Prop) (Q:Exit->Act->World->Prop),m.holds s->SRel cx s a w ->
  (∀ d∈m.ws,d<cx.nt)->(∀ a' w',SRel cx (m.upd s) a' w'->K a' w')->wpOp P ops Q i K a w
theorem SRel.drew (h:SRel cx s a w):SRel cx s a { w with drawn:=w.drawn+1 }:=by
 obtain ⟨M,κ,tip,h0,hk,h⟩:=h;exact ⟨M,κ,tip,h0,hk,⟨h.defers,h.size,⟨h.fr.os,h.fr.tape,h.fr.output,h.fr.size,h.fr.block⟩,h.mem,h.env,h.vars,h.bufs,h.inj,h.dom,h.old,h.glob,h.owns⟩⟩
def oW (ops:Array Oper) (ms:List Mic):Bool:=
 (Q1 ops.size).all λi=>(Q1 i).all λj=>
  match ms[j]?,ms[i]? with
  | some n,some m=>((Qf ops).getD i 0).testBit j||n.indep m
  | _,_=>true
def zQr (ops:Array Oper):Bool:=(Q1 ops.size).all λi=>match ops[i]? with | some o=>o.after.all λe=>!Region.binds .any e||Wb e.on i | none=>true
theorem zBd:∀ (l:List Oper) (acc:Array Nat),(l.foldl (λacc o=>acc.push (o.after.foldl (λs e=>if Q7 .any e then s ||| 2 ^ e.on ||| acc.getD e.on 0 else s) 0)) acc).size=acc.size+l.length
 | [],acc=>by simp
 | o :: l,acc=>by rw [Qi,zBd l];simp;omega
def kO (acc:Array Nat) (o:Oper):Nat:=o.after.foldl (λs e=>if Q7 .any e then s ||| 2 ^ e.on ||| acc.getD e.on 0 else s) 0
theorem zI7:∀ (l:List Oper) (acc:Array Nat) (i:Nat),i<acc.size->(l.foldl (λacc o=>acc.push (kO acc o)) acc).getD i 0=acc.getD i 0
 | [],acc,i,_=>rfl
 | o :: l,acc,i,h=>by
  rw [Qi,zI7 l _ i (by simp;omega)];simp [Array.getElem?_push,Nat.ne_of_lt h]
theorem zVc (ops:Array Oper) (i:Nat) (o:Oper) (ho:ops[i]? = some o) (hon:∀ e∈o.after,Q7 .any e=true->e.on<i) :
  (Qf ops).getD i 0=kO (Qf ops) o:=by
 have hb:Qf ops=ops.toList.foldl (λacc o=>acc.push (kO acc o)) #[]:=by
  unfold Qf;rw [<- Qm];rfl
 have hlt:i<ops.toList.length:=by
  have:=(Array.getElem?_eq_some_iff.1 ho).1;simpa using this
 have hsplit:ops.toList=ops.toList.take i++o :: ops.toList.drop (i+1):=by
  have h1:ops.toList[i]=o:=by
   have:=(Array.getElem?_eq_some_iff.1 ho).2;simpa using this
  rw [<- h1,<- List.drop_eq_getElem_cons hlt,List.take_append_drop]
 rw [hb];generalize hF:ops.toList.foldl (λacc o=>acc.push (kO acc o)) #[]=F;have hF':F=(ops.toList.drop (i+1)).foldl (λacc o=>acc.push (kO acc o)) (((ops.toList.take i).foldl (λacc o=>acc.push (kO acc o)) #[]).push
   (kO ((ops.toList.take i).foldl (λacc o=>acc.push (kO acc o)) #[]) o)):=by
  rw [<- hF]
  conv=>lhs;rw [hsplit]
  rw [List.foldl_append,Qi]
 generalize hG:(ops.toList.take i).foldl (λacc o=>acc.push (kO acc o)) #[]=G at hF';have hGs:G.size=i:=by
  rw [<- hG];have:=zBd (ops.toList.take i) #[];simp only [kO] at *;rw [this];simp;have:ops.toList.length=ops.size:=by simp
  omega
 have hlow:∀ j,j<i->F.getD j 0=G.getD j 0:=by
  intro j hj;rw [hF',zI7 _ _ j (by simp;omega)];simp [Array.getElem?_push,hGs,Nat.ne_of_lt hj]
 have hi:F.getD i 0=kO G o:=by
  rw [hF',zI7 _ _ i (by simp;omega),<- hGs];simp
 rw [hi];unfold kO;rw [<- Qm,<- Qm];have:∀ (l:List Edge) (s:Nat),(∀ e∈l,Q7 .any e=true->e.on<i)->l.foldl (λs e=>if Q7 .any e then s ||| 2 ^ e.on ||| G.getD e.on 0 else s) s=l.foldl (λs e=>if Q7 .any e then s ||| 2 ^ e.on ||| F.getD e.on 0 else s) s:=by
  intro l;induction l with
  | nil=>intros;rfl
  | cons e l ih=>
   intro s h;simp only [Qi];by_cases hb:Q7 .any e=true
   ·rw [hlow e.on (h e (by simp) hb)];exact ih _ (λx hx=>h x (by simp [hx]))
   ·rw [if_neg hb,if_neg hb];exact ih _ (λx hx=>h x (by simp [hx]))
 exact this _ _ (λe he=>hon e (by simpa using he))
theorem zRc (acc:Array Nat) (j:Nat):∀ (l:List Edge) (s:Nat),(l.foldl (λs e=>if Q7 .any e then s ||| 2 ^ e.on ||| acc.getD e.on 0 else s) s).testBit j=true ->
  s.testBit j=true∨∃ e∈l,Q7 .any e=true/\(e.on=j∨(acc.getD e.on 0).testBit j=true)
 | [],s,h=>.inl h
 | e :: l,s,h=>by
  rw [Qi] at h;rcases zRc acc j l _ h with h | ⟨e',he',hb,hh⟩
  ·split at h
   ·rename_i hbnd;rw [Nat.testBit_or,Nat.testBit_or,Qr,Qr] at h;rcases h with (h | h) | h
    ·exact .inl h
    ·refine .inr ⟨e,by simp,hbnd,.inl ?_⟩;rw [Nat.testBit_two_pow] at h;simpa using h
    ·exact .inr ⟨e,by simp,hbnd,.inr h⟩
   ·exact .inl h
  ·exact .inr ⟨e',by simp [he'],hb,hh⟩
def zGm (ms:List Mic) (n:Nat) (listed:Array Bool):List Mic:=((Q1 n).filter λi=>!listed.getD i true).filterMap λi=>ms[i]?
theorem zR5 {f g:Nat->Option Mic}:∀ (l:List Nat),(∀ j∈l,f j=g j)->l.filterMap f=l.filterMap g
 | [],_=>rfl
 | j :: l,h=>by rw [Qh,Qh,h j W3,zR5 l λx hx=>h x (Qg _ hx)]
def Mic.late (n:Mic) (e:Nat×ABlk):Mic:=⟨n.slots,[e],n.fresh,n.out,n.wr⟩
def Mic.free (n:Mic):Mic:=⟨n.slots,[],n.fresh,n.out,n.wr⟩
theorem Mic.late_swap {n:Mic} {e:Nat×ABlk} (hi:n.free.indep m=true) (he:lk m.wr e.1=some e.2) (hn:n.holds s) (hm:m.holds (n.upd s)) :
  m.holds s/\(n.late e).holds (m.upd s)/\(n.late e).upd (m.upd s)=m.upd (n.upd s):=by
 have h1:n.free.holds s:=⟨hn.1,by simp [Mic.free],hn.2.2⟩;have h2:=(Mic.holds_iff (Mic.indep_comm hi) s).2 h1;refine ⟨(Mic.holds_iff hi s).1 hm,⟨h2.1,?_,h2.2.2⟩,(Mic.upd_comm hi s).symm⟩;intro x hx;rw [List.mem_singleton.1 hx];simp [Mic.upd,he]
theorem kA.frontX (ms:List Mic) (p:Nat) (e:Nat×ABlk) (n m:Mic) (hp:ms[p]? = some n) (hi:n.free.indep m=true) (he:lk m.wr e.1=some e.2):∀ (l1:List Nat) (l2:List Mic) (s s':AS),(∀ j∈l1,j≠p->∀ x,ms[j]? = some x->x.indep m=true) ->
  kA (l1.filterMap (λi=>ms[i]?)++m :: l2) s s'->m.holds s/\kA (l1.filterMap (λi=>(ms.set p (n.late e))[i]?)++l2) (m.upd s) s'
 | [],l2,s,s',_,h=>by
  cases h with
  | cons _ _ _ _ h1 h2=>exact ⟨h1,h2⟩
 | j :: l1,l2,s,s',hx,h=>by
  rw [Qh] at h ⊢;by_cases hj:j=p
  ·subst hj;have hlt:j<ms.length:=(List.getElem?_eq_some_iff.1 hp).1;have hset:(ms.set j (n.late e))[j]? = some (n.late e):=by simp [hlt]
   rw [hset];rw [hp] at h;cases h with
   | cons _ _ _ _ h1 h2=>
    obtain ⟨a,b⟩:=kA.frontX ms j e n m hp hi he l1 l2 _ s' (λx h=>hx x (Qg _ h)) h2;obtain ⟨c,d,f⟩:=Mic.late_swap hi he h1 a;refine ⟨c,.cons _ _ _ _ d ?_⟩;rw [f];exact b
  ·have hset:(ms.set p (n.late e))[j]? = ms[j]?:=by rw [List.getElem?_set_ne (λh=>hj h.symm)]
   rw [hset];cases hm:ms[j]? with
   | none=>
    rw [hm] at h;exact kA.frontX ms p e n m hp hi he l1 l2 _ s' (λx h=>hx x (Qg _ h)) h
   | some x=>
    rw [hm] at h;cases h with
    | cons _ _ _ _ h1 h2=>
     obtain ⟨a,b⟩:=kA.frontX ms p e n m hp hi he l1 l2 _ s' (λx h=>hx x (Qg _ h)) h2;have hin:=hx j W3 hj x hm;refine ⟨(Mic.holds_iff hin s).1 a,.cons x _ _ _ ((Mic.holds_iff (Mic.indep_comm hin) s).2 h1) ?_⟩;rw [<- Mic.upd_comm hin];exact b
def eR (p q:Nat) (ops:Array Oper) (ms:List Mic):Bool:=
 (Q1 ops.size).all λi=>(Q1 i).all λj=>
  match ms[j]?,ms[i]? with
  | some n,some m=>((Qf ops).getD i 0).testBit j||n.indep m||(Qa i q&&Qa j p)
  | _,_=>true
structure zPi (P:Program) (ops:Array Oper) (p q:Nat) (e:Nat×ABlk) (ms:List Mic) (n m:Mic):Prop where
 lt:p<q
 hp:ms[p]? = some n
 hq:ms[q]? = some m
 hi:n.free.indep m=true
 he:lk m.wr e.1=some e.2
 ho:eR p q ops (ms.set p (n.late e))=true
 hx:yAr P ops p (n.late e)
theorem zOq {Q:Exit->Act->World->Prop} {ms0:List Mic} {p q:Nat} {e0:Nat×ABlk}
  (hx:oW ops ms0=true∨∃ n m,zPi P ops p q e0 ms0 n m)
  (hlen0:ms0.length=ops.size) (hex0:∀ i m,ms0[i]? = some m->yAr P ops i m) (hws0:∀ m∈ms0,∀ d∈m.ws,d<cx.nt)
  (hord0:eR p q ops ms0=true) (hon:zQr ops=true) (hQ:∀ a w,SRel cx s' a w->Q .normal a w) :
  ∀ (fuel:Nat) (ms:List Mic) (listed:Array Bool) (s:AS) (a:Act) (w:World),(ms=ms0∨∃ n m,zPi P ops p q e0 ms0 n m/\ms=ms0.set p (n.late e0)/\listed.getD q false=true)->listed.size=ops.size->((Q1 ops.size).filter λi=>!listed.getD i true).length<=fuel ->
   (∀ (i:Nat),listed.getD i false=true->∀ (o:Oper),ops[i]? = some o->∀ e∈o.after,Q7 .any e=true->listed.getD e.on false=true) ->
   kA (zGm ms ops.size listed) s s'->SRel cx s a w->wpAny P .any ops Q fuel listed a w:=by
 have hon':∀ (i:Nat) (o:Oper),ops[i]? = some o->∀ e∈o.after,Q7 .any e=true->e.on<i:=by
  intro i o ho e he hbi;have hlt:i<ops.size:=(Array.getElem?_eq_some_iff.1 ho).1;have:=(Q3.1 hon) i (Q8.2 hlt);rw [ho] at this;have:=(Array.all_eq_true_iff_forall_mem.1 this) e he;rw [hbi] at this;simp only [Wc,Bool.false_or] at this;exact Nat.blt_eq▸this
 have hmask:∀ (i:Nat) (listed:Array Bool),(∀ (i:Nat),listed.getD i false=true->∀ (o:Oper),ops[i]? = some o->∀ e∈o.after,Q7 .any e=true->listed.getD e.on false=true) ->
   ∀ (o:Oper),ops[i]? = some o->(∀ e∈o.after,Q7 .any e=true->listed.getD e.on false=true)->∀ j,((Qf ops).getD i 0).testBit j=true->listed.getD j false=true:=by
  intro i;induction i using Nat.strongRecOn with
  | _ i ih=>
   intro listed hdown o ho hall j hj;rw [zVc ops i o ho (hon' i o ho)] at hj;unfold kO at hj;rw [<- Qm] at hj;rcases zRc _ j _ 0 hj with h | ⟨e,he,hb,h⟩
   ·simp at h
   ·have he':e∈o.after:=by simpa using he
    have hl:=hall e he' hb;rcases h with h | h
    ·rw [<- h];exact hl
    ·have hei:=hon' i o ho e he' hb;cases hoe:ops[e.on]? with
     | none=>
      have:ops.size<=e.on:=by
       rcases Nat.lt_or_ge e.on ops.size with h' | h'
       ·simp [h'] at hoe
       ·exact h'
      have:=(Array.getElem?_eq_some_iff.1 ho).1;omega
     | some oe=>exact ih e.on hei listed hdown oe hoe (hdown e.on hl oe hoe) j h
 intro fuel;induction fuel with
 | zero=>
  intro ms listed s a w hms hls hf hdown hch hs;have hnil:((Q1 ops.size).filter λi=>!listed.getD i true)=[]:=List.eq_nil_of_length_eq_zero (by omega);refine ⟨?_,?_⟩
  ·rw [Qs];intro j hj;rw [mem_ready] at hj;obtain ⟨h0,o,ho,_⟩:=hj;have hlt:j<ops.size:=(Array.getElem?_eq_some_iff.1 ho).1;have:j∈((Q1 ops.size).filter λi=>!listed.getD i true):=Ql.2 ⟨Q8.2 hlt,by simp [h0]⟩;rw [hnil] at this;simp at this
  ·rw [zGm,hnil] at hch;cases hch;exact hQ a w hs
 | succ fuel ih=>
  intro ms listed s a w hms hls hf hdown hch hs;have hlen:ms.length=ops.size:=by
   rcases hms with rfl | ⟨n,m,_,rfl,_⟩
   ·exact hlen0
   ·rw [List.length_set];exact hlen0
  have hex:∀ i m,ms[i]? = some m->yAr P ops i m:=by
   rcases hms with rfl | ⟨n,m,L,rfl,_⟩
   ·exact hex0
   ·intro i x hx;by_cases hip:i=p
    ·subst hip;have hlt:i<ms0.length:=(List.getElem?_eq_some_iff.1 L.hp).1;rw [List.getElem?_set_self hlt] at hx;cases hx;exact L.hx
    ·rw [List.getElem?_set_ne (λh=>hip h.symm)] at hx;exact hex0 i x hx
  have hws:∀ m∈ms,∀ d∈m.ws,d<cx.nt:=by
   rcases hms with rfl | ⟨n,m,L,rfl,_⟩
   ·exact hws0
   ·intro x hx;rcases List.mem_or_eq_of_mem_set hx with hx | rfl
    ·exact hws0 x hx
    ·exact hws0 n (W2 L.hp)
  have hord:eR p q ops ms=true:=by
   rcases hms with rfl | ⟨n,m,L,rfl,_⟩
   ·exact hord0
   ·exact L.ho
  constructor
  ·intro hnone;have hnil:((Q1 ops.size).filter λi=>!listed.getD i true)=[]:=by
    rw [Qs];intro j;induction j using Nat.strongRecOn with
    | _ j ihj=>
     intro hj;obtain ⟨hr,hb⟩:=Ql.1 hj;have hlt:=Q8.1 hr;have:j∈Region.ready .any ops listed:=by
      rw [mem_ready];refine ⟨by simpa using hb,ops[j],by simp [hlt],?_⟩;intro e he hbi;have hej:=hon' j ops[j] (by simp [hlt]) e he hbi;have hne:=ihj e.on hej;have hel:e.on<ops.size:=by omega
      have hel':e.on<listed.size:=by omega
      rw [Ql,not_and] at hne;have:=hne (Q8.2 hel);simp only [W6,Bool.not_eq_false] at this;simp [hel'] at this ⊢;exact this
     rw [hnone] at this;simp at this
   rw [zGm,hnil] at hch;cases hch;exact hQ a w hs
  ·intro i hi;have hi':=hi;rw [mem_ready] at hi';obtain ⟨h0,o,ho,hall⟩:=hi';have hlt:i<ops.size:=(Array.getElem?_eq_some_iff.1 ho).1;obtain ⟨m,hm⟩:∃ m,ms[i]? = some m:=⟨ms[i]'(by omega),by simp⟩;have hsplit:∃ l1 l2,((Q1 ops.size).filter λi=>!listed.getD i true)=l1++i :: l2/\(∀ j∈l1,j<i/\listed.getD j true=false) /\
     ((Q1 ops.size).filter λj=>!(listed.setIfInBounds i true).getD j true)=l1++l2/\∀ j∈l2,i<j:=by
    refine ⟨(Q1 i).filter (λi=>!listed.getD i true),((Q1 (ops.size - (i+1))).map (λk=>i+1+k)).filter (λi=>!listed.getD i true),?_,?_,?_,?_⟩
    ·have hr:Q1 ops.size=Q1 i++i :: (Q1 (ops.size - (i+1))).map (λk=>i+1+k):=by
      have h1:ops.size=(i+1)+(ops.size - (i+1)):=by omega
      rw [h1,List.range_add,Wa];simp
     rw [hr,W4,W8];simp [h0]
    ·intro j hj;obtain ⟨a1,a2⟩:=Ql.1 hj;exact ⟨Q8.1 a1,by simpa using a2⟩
    ·have hr:Q1 ops.size=Q1 i++i :: (Q1 (ops.size - (i+1))).map (λk=>i+1+k):=by
      have h1:ops.size=(i+1)+(ops.size - (i+1)):=by omega
      rw [h1,List.range_add,Wa];simp
     rw [hr,W4,W8];have hself:(listed.setIfInBounds i true).getD i true=true:=by simp [hls,hlt]
     rw [hself];congr 1
     ·refine W7 (λx hx=>?_);have:=Q8.1 hx;rw [getD_set_ne true (by omega)]
     ·simp only [Wc,Bool.false_eq_true,if_false];refine W7 (λx hx=>?_);obtain ⟨k,_,rfl⟩:=Qq.1 hx;rw [getD_set_ne true (by omega)]
    ·intro j hj;obtain ⟨k,_,rfl⟩:=Qq.1 (Ql.1 hj).1;omega
   obtain ⟨l1,l2,e1,hl1,e2,hl2⟩:=hsplit;have hch':=hch;rw [zGm,e1,W1,Qh,hm] at hch';have hgen:∀ j∈l1,∀ n,ms[j]? = some n->(i=q/\j=p/\oW ops ms≠true)∨n.indep m=true:=by
    intro j hj n hjn;obtain ⟨hji,hjl⟩:=hl1 j hj;have h1:((Qf ops).getD i 0).testBit j=true∨n.indep m=true∨(i=q/\j=p/\oW ops ms≠true):=by
     by_cases hoo:oW ops ms=true
     ·have h1:=(Q3.1 ((Q3.1 hoo) i (Q8.2 hlt))) j (Q8.2 hji);rw [hjn,hm] at h1;simp only [Qr] at h1;exact h1.imp id .inl
     ·have h1:=(Q3.1 ((Q3.1 hord) i (Q8.2 hlt))) j (Q8.2 hji);rw [hjn,hm] at h1;simp only [Qr,Q5] at h1;rcases h1 with (h1 | h1) | h1
      ·exact .inl h1
      ·exact .inr (.inl h1)
      ·exact .inr (.inr ⟨Q6 h1.1,Q6 h1.2,hoo⟩)
    rcases h1 with h1 | h1 | h1
    ·have:=hmask i listed hdown o ho (λe he hb=>hall e he hb) j h1;have hjs:j<listed.size:=by omega
     simp [hjs] at hjl this;rw [hjl] at this;simp at this
    ·exact .inr h1
    ·exact .inl h1
   have hmain:∃ ms',(ms'=ms0∨∃ n m,zPi P ops p q e0 ms0 n m/\ms'=ms0.set p (n.late e0)/\(listed.setIfInBounds i true).getD q false=true)/\m.holds s/\kA (l1.filterMap (λi=>ms'[i]?)++l2.filterMap (λi=>ms'[i]?)) (m.upd s) s':=by
    by_cases hsp:i=q/\p∈l1/\oW ops ms≠true
    ·obtain ⟨rfl,hpl,hoo⟩:=hsp;have e0':ms=ms0:=by
      rcases hms with h | ⟨_,_,_,_,hq⟩
      ·exact h
      ·have his:i<listed.size:=by omega
       simp [his] at h0 hq;rw [h0] at hq;simp at hq
     subst e0';obtain ⟨n,m2,L⟩:=hx.resolve_left hoo;have hmm:m2=m:=by have:=L.hq;rw [hm] at this;cases this;rfl
     subst hmm;have hfx:=kA.frontX ms p e0 n m2 L.hp L.hi L.he l1 _ s s' (λj hj hjp x hjx=>(hgen j hj x hjx).resolve_left λh=>hjp h.2.1) hch';refine ⟨ms.set p (n.late e0),.inr ⟨n,m2,L,rfl,?_⟩,hfx.1,?_⟩
     ·have his:i<listed.size:=by omega
      simp [his]
     ·have:l2.filterMap (λi=>(ms.set p (n.late e0))[i]?)=l2.filterMap (λi=>ms[i]?):=by
       refine zR5 _ λj hj=>?_;rw [List.getElem?_set_ne];intro hjp;have:=hl2 j hj;have:=L.lt;omega
      rw [this];exact hfx.2
    ·have hind:∀ n∈l1.filterMap (λi=>ms[i]?),n.indep m=true:=by
      intro n hn;obtain ⟨j,hj,hjn⟩:=List.mem_filterMap.1 hn;exact (hgen j hj n hjn).resolve_left λh=>hsp ⟨h.1,h.2.1▸hj,h.2.2⟩
     obtain ⟨hmh,hrest⟩:=kA.front _ m _ s s' hind hch';refine ⟨ms,?_,hmh,hrest⟩;rcases hms with h | ⟨n,m,L,h,hq⟩
     ·exact .inl h
     ·exact .inr ⟨n,m,L,h,getD_set_true hq⟩
   obtain ⟨ms',hms',hmh,hrest⟩:=hmain;refine hex i m hm cx s a w _ Q hmh hs (hws m (W2 hm)) ?_;intro a' w' hs';refine ih ms' _ (m.upd s) a' w' hms' (by simp [hls]) ?_ ?_ ?_ hs'
   ·rw [e2];rw [e1] at hf;simp only [List.length_append,Qv] at hf ⊢;omega
   ·intro j hj oj hoj e he hb;by_cases hij:i=j
    ·subst hij;rw [ho] at hoj;cases hoj;exact getD_set_true (hall e he hb)
    ·rw [getD_set_ne false hij] at hj;exact getD_set_true (hdown j hj oj hoj e he hb)
   ·rw [zGm,e2,W1];exact hrest
theorem zSa {p q:Nat} (hord:oW ops ms=true):eR p q ops ms=true:=by
 refine Q3.2 λi hi=>Q3.2 λj hj=>?_;have h:=(Q3.1 ((Q3.1 hord) i hi)) j hj;split
 ·rename_i h1 h2;rw [h1,h2] at h;simp only [h,Bool.true_or]
 ·rfl
def mkS (env:LV) (blk:LB):AS:={ env:=lk env,blk:=lk blk }
mutual
def AV.oks (B:NB):AV->Bool
 | .p _=>true
 | .nl _=>true
 | .ptr k _=>(B k).isSome
 | .ref k _ _=>(B k).isSome
 | .buf k _=>(B k).isSome
 | .ag l=>qN B l
 | .tu l=>qN B l
 | .fnv _ l=>qN B l
 | .own k _=>(B k).isSome
 | .optr k _ _=>(B k).isSome
 | .osl k _ _ _=>(B k).isSome
def qN (B:NB):List AV->Bool
 | []=>true
 | v :: r=>v.oks B&&qN B r
end
theorem uC:∀ (l:List AV),qN B l=true->∀ (j:Nat) (q:AV),l[j]? = some q->q.oks B=true
 | [],_,_,_,h=>by simp at h
 | v :: r,h,0,q,hq=>by
  simp only [qN,Q5] at h;simp at hq;rw [<- hq];exact h.1
 | v :: r,h,j+1,q,hq=>by
  simp only [qN,Q5] at h;exact uC r h.2 j q (by simpa using hq)
theorem zFt (f:α->PV):∀ (l:List α),qN B (l.map λx=>AV.p (f x))=true
 | []=>rfl
 | _ :: r=>by simp only [Qt,qN,AV.oks,Bool.true_and];exact zFt f r
structure Le (s' s:AS):Prop where
 env:∀ t v,s'.env t=some v->s.env t=some v
 blk:∀ k b,s'.blk k=some b->s.blk k=some b
 oke:∀ t v,s'.env t=some v->v.oks s'.blk=true
 okb:∀ k l,s'.blk k=some (.var l)->qN s'.blk l=true
 okw:∀ k w l,s'.blk k=some (.own w l)->qN s'.blk l=true
theorem RepA.less (hb:∀ k b,B' k=some b->B k=some b) {x:Value}
  (hr:RepA M κ tip B v x):v.oks B'=true->RepA M (λk=>if (B' k).isSome then κ k else none) tip B' v x:=by
 induction hr with
 | p v x h1=>intro _;exact .p v x h1
 | nl c h1=>intro _;exact .nl c h1
 | ptr k o b l h1 h2=>
  intro h;simp only [AV.oks] at h;obtain ⟨bl,hb'⟩:=Q2.1 h;have:=hb k bl hb';rw [h2] at this;cases this;exact .ptr k o b l (by simp [h,h1]) hb'
 | ref k o n b l h1 h2=>
  intro h;simp only [AV.oks] at h;obtain ⟨bl,hb'⟩:=Q2.1 h;have:=hb k bl hb';rw [h2] at this;cases this;exact .ref k o n b l (by simp [h,h1]) hb'
 | buf k n c x h1 hs h2 h3 h4=>
  intro h;simp only [AV.oks] at h;obtain ⟨b,hb'⟩:=Q2.1 h;have:=hb k b hb';rw [h1] at this;cases this;exact .buf k n c x hb' hs h2 h3 h4
 | ag l vs h1 _ ih=>intro h;simp only [AV.oks] at h;exact .ag l vs h1 (λj q hq=>ih j q hq (uC l h j q hq))
 | tu l vs h1 _ ih=>intro h;simp only [AV.oks] at h;exact .tu l vs h1 (λj q hq=>ih j q hq (uC l h j q hq))
 | fnv f l vs h1 _ ih=>intro h;simp only [AV.oks] at h;exact .fnv f l vs h1 (λj q hq=>ih j q hq (uC l h j q hq))
 | own k n w l x h1 h2 h3 hs=>
  intro h;simp only [AV.oks] at h;obtain ⟨b,hb'⟩:=Q2.1 h;have:=hb k b hb';rw [h1] at this;cases this;exact .own k n w l x hb' h2 h3 hs
 | optr k n o w l x h1 h2 h3 hs=>
  intro h;simp only [AV.oks] at h;obtain ⟨b,hb'⟩:=Q2.1 h;have:=hb k b hb';rw [h1] at this;cases this;exact .optr k n o w l x hb' h2 (λe=>by obtain ⟨b,g1,g2⟩:=h3 e;exact ⟨b,by simp [h,g1],g2⟩) hs
 | osl k n o m w l x h1 h2 h3 hs=>
  intro h;simp only [AV.oks] at h;obtain ⟨b,hb'⟩:=Q2.1 h;have:=hb k b hb';rw [h1] at this;cases this;exact .osl k n o m w l x hb' h2 (λe=>by obtain ⟨b,c,g1,g2⟩:=h3 e;exact ⟨b,c,by simp [h,g1],g2⟩) hs
theorem Inv.less (h:Inv cx M κ tip s a w) (hl:Le s' s) :
  Inv cx M (λk=>if (s'.blk k).isSome then κ k else none) tip s' a w where
 defers:=h.defers
 size:=h.size
 fr:=h.fr
 mem:=h.mem
 env:=λt v e=>let ⟨x,hx,hr⟩:=h.env t v (hl.env t v e);⟨x,hx,hr.less hl.blk (hl.oke t v e)⟩
 vars:=λk l e=>by
  obtain ⟨b,arr,el,fz,h1,h2,h3,h4,h5,h6,h7⟩:=h.vars k l (hl.blk k _ e);exact ⟨b,arr,el,fz,by simp [e,h1],h2,h3,h4,λj q hq=>(h5 j q hq).less hl.blk (uC l (hl.okb k l e) j q hq),h6,h7⟩
 bufs:=λk c e=>by
  obtain ⟨h1,h2,h3,h4⟩:=h.bufs k c (hl.blk k _ e);refine ⟨h1,h2,h3,?_⟩;rcases h4 with ⟨h4,h5⟩ | ⟨b,n,cap,arr,el,fz,h4,h5,h6⟩
  ·exact .inl ⟨h4,by simp [h5]⟩
  ·exact .inr ⟨b,n,cap,arr,el,fz,h4,by simp [e,h5],h6⟩
 inj:=λk k' b e e'=>by
  have e1:κ k=some b:=by
   split at e
   ·exact e
   ·cases e
  have e2:κ k'=some b:=by
   split at e'
   ·exact e'
   ·cases e'
  exact h.inj k k' b e1 e2
 dom:=λk e=>by simp [e]
 glob:=h.glob
 old:=h.old
 owns:=h.owns.keep λk wd l e=>⟨hl.blk k _ e,by simp [e],rfl,λb _=>⟨rfl,λ_ h=>h⟩,λj q x hq hr=>hr.less hl.blk (uC l (hl.okw k wd l e) j q hq)⟩
theorem SRel.less (h:SRel cx s a w) (hl:Le s' s) (hk:∀ k∈cx.pk,(s'.blk k.1).isSome=true):SRel cx s' a w:=by
 obtain ⟨M,κ,tip,h0,hp,h⟩:=h;exact ⟨M,_,tip,h0,λk e=>⟨by simp [hk k e,(hp k e).1],(hp k e).2⟩,h.less hl⟩
def zTe (s:AS):LV->Prop
 | []=>True
 | (t,v) :: r=>s.env t=some v/\zTe s r
def zTg (s:AS):LB->Prop
 | []=>True
 | (k,b) :: r=>s.blk k=some b/\zTg s r
def jT (B:NB):LV->Bool
 | []=>true
 | (_,v) :: r=>v.oks B&&jT B r
def sC (B:NB):LB->Bool
 | []=>true
 | (_,.var l) :: r=>qN B l&&sC B r
 | (_,.buf _) :: r=>sC B r
 | (_,.own _ l) :: r=>qN B l&&sC B r
theorem tR:∀ (l:List (Nat×α)) (t:Nat) (v:α),lk l t=some v->(t,v)∈l
 | [],_,_,h=>by simp [lk] at h
 | (k,u) :: r,t,v,h=>by
  simp only [lk] at h;cases hb:Qa t k with
  | true=>
   simp [hb] at h;have:=Q6 hb;simp [h,this]
  | false=>
   simp [hb] at h;exact Qg _ (tR r t v h)
theorem zTe.mem:∀ {l:LV},zTe s l->∀ {t v},(t,v)∈l->s.env t=some v
 | (_,_) :: _,h,_,_,hm=>by
  rcases Qb.1 hm with e | hm
  ·cases e;exact h.1
  ·exact zTe.mem h.2 hm
theorem zTg.mem:∀ {l:LB},zTg s l->∀ {t v},(t,v)∈l->s.blk t=some v
 | (_,_) :: _,h,_,_,hm=>by
  rcases Qb.1 hm with e | hm
  ·cases e;exact h.1
  ·exact zTg.mem h.2 hm
theorem jT.mem:∀ {l:LV},jT B l=true->∀ {t v},(t,v)∈l->v.oks B=true
 | (_,_) :: _,h,_,_,hm=>by
  simp only [jT,Q5] at h;rcases Qb.1 hm with e | hm
  ·cases e;exact h.1
  ·exact jT.mem h.2 hm
theorem sC.mem:∀ {l:LB},sC B l=true->∀ {t v},(t,.var v)∈l->qN B v=true
 | (_,.var u) :: _,h,_,_,hm=>by
  simp only [sC,Q5] at h;rcases Qb.1 hm with e | hm
  ·cases e;exact h.1
  ·exact sC.mem h.2 hm
 | (_,.buf u) :: _,h,_,_,hm=>by
  simp only [sC] at h;rcases Qb.1 hm with e | hm
  ·cases e
  ·exact sC.mem h hm
 | (_,.own w u) :: _,h,_,_,hm=>by
  simp only [sC,Q5] at h;rcases Qb.1 hm with e | hm
  ·cases e
  ·exact sC.mem h.2 hm
theorem sC.memO:∀ {l:LB},sC B l=true->∀ {t w v},(t,.own w v)∈l->qN B v=true
 | (_,.var u) :: _,h,_,_,_,hm=>by
  simp only [sC,Q5] at h;rcases Qb.1 hm with e | hm
  ·cases e
  ·exact sC.memO h.2 hm
 | (_,.buf u) :: _,h,_,_,_,hm=>by
  simp only [sC] at h;rcases Qb.1 hm with e | hm
  ·cases e
  ·exact sC.memO h hm
 | (_,.own w u) :: _,h,_,_,_,hm=>by
  simp only [sC,Q5] at h;rcases Qb.1 hm with e | hm
  ·cases e;exact h.1
  ·exact sC.memO h.2 hm
theorem Le.mk' {env:LV} {blk:LB} (he:zTe s env) (hb:zTg s blk) (h1:jT (lk blk) env=true) (h2:sC (lk blk) blk=true):Le (mkS env blk) s where
 env:=λt v e=>he.mem (tR env t v e)
 blk:=λk b e=>hb.mem (tR blk k b e)
 oke:=λt v e=>jT.mem h1 (tR env t v e)
 okb:=λk l e=>sC.mem h2 (tR blk k _ e)
 okw:=λk w l e=>sC.memO h2 (tR blk k _ e)
def awp (P:Program) (cx:Ctx) (c:Code) (Q:Exit->AS->Prop) (s:AS):Prop:=
 ∀ a w,SRel cx s a w->c.wp P (λe a' w'=>∃ s',SRel cx s' a' w'/\Q e s') a w
section
variable {Q':Exit->AS->Prop} 
theorem zCb {c:Code} (h:awp P cx c Q s) (hq:∀ e s,Q e s->Q' e s):awp P cx c Q' s:=
 λa w hs=>wp_mono (h a w hs) λe a' w' ⟨s',h1,h2⟩ =>⟨s',h1,hq e s' h2⟩
theorem wE (h:Q .normal s):awp P cx .skip Q s:=λ_ _ hs=>wp_skip ⟨s,hs,h⟩
theorem bU (h:Q (.exit id) s):awp P cx (.exit id) Q s:=λ_ _ hs=>wp_exit ⟨s,hs,h⟩
theorem cH (h:Q .ret s):awp P cx .ret Q s:=λ_ _ hs=>wp_ret ⟨s,hs,h⟩
def zNo (k:AS->Prop) (Q:Exit->AS->Prop):Exit->AS->Prop
 | .normal,s=>k s
 | e,s=>Q e s
theorem zTt {x y:Code} (h:awp P cx x (zNo (awp P cx y Q) Q) s):awp P cx (.seq x y) Q s:=λa w hs=>
 wp_seq (wp_mono (h a w hs) λe a' w' ⟨s',h1,h2⟩ =>by
  cases e with
  | normal=>exact h2 a' w' h1
  | _=>exact ⟨s',h1,h2⟩)
def zNe (id:Nat) (Q:Exit->AS->Prop):Exit->AS->Prop
 | .exit id',s=>if Qa id' id then Q .normal s else Q (.exit id') s
 | e,s=>Q e s
theorem sY {c:Code} (h:awp P cx c (zNe id Q) s):awp P cx (.block id c) Q s:=λa w hs=>
 wp_block (wp_mono (h a w hs) λe a' w' ⟨s',h1,h2⟩ =>by
  cases e with
  | exit id'=>
   simp only [zNe] at h2;simp only [Exit.inBlock];by_cases hid:id'=id
   ·subst hid;simp at h2 ⊢;exact ⟨s',h1,h2⟩
   ·have hb:Qa id' id=false:=by rw [Qj];intro e;exact hid (Q6 e)
    simp [hb,hid] at h2 ⊢;exact ⟨s',h1,h2⟩
  | _=>exact ⟨s',h1,h2⟩)
theorem zQ9 {t:Nat} {x y:Code} {b:Bool} (hc:s.env t=some (.p (.bool b))) (ht:b=true->awp P cx x Q s) (hf:b=false->awp P cx y Q s) :
  awp P cx (.cond (.tmp t) x y) Q s:=λa w hs=>by
 have hs':=hs;obtain ⟨M,κ,tip,h0,hp,h⟩:=hs;obtain ⟨v,hv,hr⟩:=h.env t _ hc;have:a.eval (.tmp t)=.bool b:=by
  cases hr with
  | p _ _ hr=>cases hr;simp [Act.eval,hv]
 exact wp_cond_split this (λe=>ht e a w hs') (λe=>hf e a w hs')
def zT {X Y:Type} (step:X->Option (X ⊕ Y)):Nat->X->Option Y
 | 0,_=>none
 | n+1,x=>match step x with
  | none=>none
  | some (.inl x')=>zT step n x'
  | some (.inr y)=>some y
def Lep (cx:Ctx) (s' s:AS):Prop:=Le s' s/\∀ k∈cx.pk,(s'.blk k.1).isSome=true
end
def zUk (P:Program) (ops:Array Oper) (o:Oper) (m:Mic):Prop:=
 ∀ (cx:Ctx) (s:AS) (a:Act) (w:World) (K:Act->World->Prop) (Q:Exit->Act->World->Prop),m.holds s->SRel cx s a w ->
  (∀ d∈m.ws,d<cx.nt)->(∀ a' w',SRel cx (m.upd s) a' w'->K a' w') ->
  if Wd o (yielded ops a.tmps) then o.wp P a w K Q∨(o.asks P a w/\LetsOut Q) else K (a.put o.dst undef) w
inductive Run (P:Program) (ops:Array Oper):List Oper->AS->AS->List Mic->Prop where
 | nil (s:AS):Run P ops [] s s []
 | cons (o:Oper) (r:List Oper) (m:Mic) (s s':AS) (ms:List Mic):zUk P ops o m->m.holds s->Run P ops r (m.upd s) s' ms->Run P ops (o :: r) s s' (m :: ms)
theorem Run.chain {l:List Oper} (h:Run P ops l s s' ms):kA ms s s':=by
 induction h with
 | nil s=>exact .nil s
 | cons o r m s s' ms _ h2 _ ih=>exact .cons m ms s s' h2 ih
theorem Run.exec {l:List Oper} (h:Run P ops l s s' ms) :
  ms.length=l.length/\∀ (i:Nat) (o:Oper) (m:Mic),l[i]? = some o->ms[i]? = some m->zUk P ops o m:=by
 induction h with
 | nil s=>exact ⟨rfl,by simp⟩
 | cons o r m s s' ms h1 h2 _ ih=>
  refine ⟨by simp [ih.1],λi o' m' ho hm=>?_⟩;cases i with
  | zero=>simp at ho hm;rw [<- ho,<- hm];exact h1
  | succ i=>exact ih.2 i o' m' (by simpa using ho) (by simpa using hm)
def bW (nt:Nat) (ms:List Mic):Bool:=ms.all λm=>m.ws.all λd=>Wb d nt
theorem zKa {nt:Nat} (h:bW nt ms=true):∀ m∈ms,∀ d∈m.ws,d<nt:=by
 intro m hm d hd;have:=(Q3.1 ((Q3.1 h) m hm)) d hd;exact Nat.blt_eq▸this
theorem zU2 {Q:Exit->Act->World->Prop} (hQ:∀ a w,SRel cx s' a w->Q .normal a w) {l:List Oper} 
  (h:Run P ops l s s' ms):(∀ m∈ms,∀ d∈m.ws,d<cx.nt)->∀ (n:Nat),(∀ i,l[i]? = ops[n+i]?)->∀ (a:Act) (w:World),SRel cx s a w->wpOps P ops Q ((Q1 l.length).map (n+·)) a w:=by
 induction h with
 | nil s=>intro _ n _ a w hs;exact hQ a w hs
 | cons o r m s s' ms h1 h2 _ ih=>
  intro hws n hl a w hs;have e:(Q1 (o :: r).length).map (n+·)=n :: (Q1 r.length).map (n+1+·):=by
   rw [Qv,Qy];simp only [Qt,List.map_map,W5];congr 1;refine List.map_congr_left (λx _=>?_);simp only [Function.comp];omega
  rw [e,wpOps_cons];have ho:ops[n]? = some o:=by
   have:=hl 0;simpa using this.symm
  unfold wpOp;rw [ho];refine h1 cx s a w _ Q h2 hs (hws m (by simp)) ?_;intro a' w' hs';exact ih hQ (λx hx=>hws x (by simp [hx])) (n+1) (λi=>by have:=hl (i+1);rw [show n+1+i=n+(i+1) by omega];simpa using this) a' w' hs'
theorem zS6 (h:Run P ops ops.toList s s' ms) (hws:bW cx.nt ms=true)
  (hq:Q .normal s'):awp P cx (.region id ops false) Q s:=λa w hs=>by
 refine wp_region ?_;have:=zU2 (cx:=cx) (Q:=λe a' w'=>∃ s',SRel cx s' a' w'/\Q e s') (λa w hs=>⟨s',hs,hq⟩) h (zKa hws) 0 (by simp) a w hs;simpa using this
theorem zO6 {p q:Nat} {e:Nat×ABlk} (h:Run P ops ops.toList s s' ms) (hws:bW cx.nt ms=true)
  (hm:P.follows .mixedOrders=true) (hx:oW ops ms=true∨∃ n m,zPi P ops p q e ms n m) (hord:eR p q ops ms=true) (hon:zQr ops=true) (hq:Q .normal s'):awp P cx (.region id ops true) Q s:=λa w hs=>by
 refine wp_region_any hm ?_;obtain ⟨hlen,hex⟩:=h.exec;have hch:=h.chain;refine zOq (cx:=cx) (ms0:=ms) (s':=s') hx (by simpa using hlen) ?_ (zKa hws) hord hon (λa w hs=>⟨s',hs,hq⟩) ops.size ms _ s a _ (.inl rfl) (by simp) ?_ ?_ ?_ hs.drew
 ·intro i m hm';have hlt:i<ops.size:=by
   have:=(List.getElem?_eq_some_iff.1 hm').1;simp at hlen;omega
  intro cx s a w K Q h1 h2 h3 h4;unfold wpOp;rw [show ops[i]? = some ops[i] by simp [hlt]];exact hex i ops[i] m (by simp [hlt]) hm' cx s a w K Q h1 h2 h3 h4
 ·refine Nat.le_trans (List.length_filter_le _ _) (by simp)
 ·intro i hi;have:i<ops.size:=by
   rcases Nat.lt_or_ge i ops.size with h' | h'
   ·exact h'
   ·simp [Array.getElem?_eq_none (show (Qx ops.size false).size<=i by simpa using h')] at hi
  simp [this] at hi
 ·have:zGm ms ops.size (Qx ops.size false)=ms:=by
   unfold zGm;have h1:(Q1 ops.size).filter (λi=>!(Qx ops.size false).getD i true)=Q1 ops.size:=by
    rw [List.filter_eq_self];intro i hi;have:=Q8.1 hi;simp [this]
   rw [h1];have h2:ops.size=ms.length:=by simpa using hlen.symm
   rw [h2];clear h1 h2 hlen hex hch h hws hord hq hx;induction ms with
   | nil=>rfl
   | cons m r ih=>
    rw [Qv,Qy,Qh];simp only [List.getElem?_cons_zero,List.filterMap_map];congr 1
  rw [this];exact hch
theorem zWd (h:Run P ops ops.toList s s' ms) (hws:bW cx.nt ms=true)
  (hm:P.follows .mixedOrders=true) (hord:oW ops ms=true) (hon:zQr ops=true) (hq:Q .normal s'):awp P cx (.region id ops true) Q s:=
 zO6 (p:=0) (q:=0) (e:=(0,.var [])) h hws hm (.inl hord) (zSa hord) hon hq
inductive Ty where
 | bool | int (k:IntKind) | str | slice (e:TypeId) | arr (n:Nat) (e:TypeId) | struct (fs:List (TypeId×Nat)) | ptr (e:TypeId) | func | iface | other
structure TI where
 w:Nat
 b:Nat
 z:List PV
 ty:Ty
variable {ei fi i:TI}
def zv:PV->Value
 | .bool b=>.bool b
 | .int k n=>.int k n
 | .str s=>.string ⟨s.toArray⟩
 | .bytes _=>.slice none 0 0
 | .sl _ _=>.slice none 0 0
 | .nilp=>.pointer none
 | .err _=>.nilIface
 | _=>undef
def PV.zok:PV->Bool
 | .bool _ | .int _ _ | .str _ | .bytes [] | .sl _ [] | .nilp | .err false=>true
 | _=>false
structure TOk (P:Program) (t:TypeId) (i:TI):Prop where
 info:∃ info z,P.info? t=some info/\info.size=i.w/\info.bytes=i.b/\info.zero=some z/\z.cells.toList=i.z.map zv
 zok:∀ z∈i.z,z.zok=true
 und:match i.ty with
  | .bool=>P.underlying t=some .bool
  | .int k=>P.underlying t=some (.int k)
  | .str=>P.underlying t=some .string
  | .slice e=>P.underlying t=some (.slice e)
  | .arr n e=>P.underlying t=some (.array n e)
  | .struct fs=>∃ fields,P.underlying t=some (.struct fields)/\fields.toList.map (λf=>(f.type,f.offset))=fs
  | .ptr e=>P.underlying t=some (.pointer e)
  | .func=>∃ a b c,P.underlying t=some (.func a b c)
  | .iface=>∃ ms,P.underlying t=some (.interface ms)
  | .other=>True
abbrev TE:=TypeId->Option TI
variable {te:TE}
def yX (P:Program) (te:TE):Prop:=∀ t i,te t=some i->TOk P t i
def zTv (te:TE) (t:TypeId):Value->Option AV
 | .bool b=>some (.p (.bool b))
 | .int k n=>some (.p (.int k n))
 | .string s=>some (.p (.str s.data.toList))
 | .pointer none=>some (.p .nilp)
 | .nilIface=>some (.p (.err false))
 | .slice none 0 0=>match te t with
  | some ⟨_,_,[c],_⟩ =>bif c.nilOf then some (.nl c) else none
  | _=>none
 | _=>none
def AS.get (s:AS) (te:TE) (t:TypeId):Operand->Option AV
 | .tmp n=>s.env n
 | .const v=>zTv te t v
 | .func f=>some (.p (.fn f [] []))
 | .global g=>(GL g).map λp=>.p (.cptr p)
def opS (x:Operand) (v:AV):LV:=match x with | .tmp t=>[(t,v)] | _=>[]
def wN (s:AS) (l:LV):Prop:=∀ e∈l,s.env e.1=some e.2
theorem zM (h:s.get te t x=some v):wN s (opS x v):=by
 cases x<;>intro e he<;>simp [opS] at he;subst he;exact h
def yFp (te:TE) (t:TypeId) (x:Operand) (v:AV):Prop:=∀ s:AS,wN s (opS x v)->s.get te t x=some v
theorem yN (h:s.get te t x=some v):yFp te t x v:=by
 intro s' hs';cases x with
 | tmp n=>exact hs' (n,v) (by simp [opS])
 | const c=>exact h
 | global g=>exact h
 | func f=>exact h
theorem yF (hi:Inv cx M κ tip s a w) 
  (h:s.get te t x=some v):RepA M κ tip s.blk v (a.eval x):=by
 cases x with
 | tmp n=>
  obtain ⟨y,hy,hr⟩:=hi.env n v h;have:a.eval (.tmp n)=y:=by simp [Act.eval,hy]
  rw [this];exact hr
 | const c=>
  simp only [AS.get,Act.eval] at *;unfold zTv at h;split at h
  ·cases h;exact .p _ _ (.bool _)
  ·cases h;exact .p _ _ (.int _ _)
  ·rename_i s;cases h;refine .p _ _ ?_;have:=Rep.str (M:=M) s.data.toList;simpa using this
  ·cases h;exact .p _ _ .nilp
  ·cases h;exact .p _ _ .err0
  ·split at h
   ·rename_i c ty hte;cases hc:c.nilOf with
    | true=>rw [hc] at h;cases h;exact .nl _ hc
    | false=>rw [hc] at h;cases h
   ·cases h
  ·cases h
 | global g=>
  simp only [AS.get] at h;obtain ⟨p,h1,h2⟩:=Q0.1 h;subst h2;exact .p _ _ (hi.glob.1 g p h1)
 | func f=>
  simp only [AS.get] at h;cases h;exact .p _ _ (.fn f [] [] #[] #[] rfl rfl (by simp) (by simp))
theorem Inv.put (hi:Inv cx M κ tip s a w) (hd:d<cx.nt) {x:Value}
  (hr:RepA M κ tip s.blk v x):Inv cx M κ tip (s.put d v) (a.put (some d) x) w where
 defers:=hi.defers
 size:=by simp [Act.put,hi.size]
 fr:=hi.fr
 mem:=hi.mem
 env:=λt u e=>by
  simp only [AS.put] at e;by_cases ht:t=d
  ·subst ht;simp at e;subst e;exact ⟨x,by simp [Act.put,hi.size,hd],hr⟩
  ·have hb:Qa t d=false:=by rw [Qj];intro e;exact ht (Q6 e)
   simp [hb] at e;obtain ⟨y,hy,hr'⟩:=hi.env t u e;exact ⟨y,by simp [Act.put,Array.getElem?_setIfInBounds_ne (Ne.symm ht),hy],hr'⟩
 vars:=hi.vars
 bufs:=hi.bufs
 inj:=hi.inj
 dom:=hi.dom
 glob:=hi.glob
 owns:=hi.owns
 old:=hi.old
def zXl (P:Program) (o:Oper) (rs:LV) (bs:LB) (v:AV):Prop:=
 ∀ (cx:Ctx) (M:Mem) (κ:Nat->Option Nat) (tip:Nat->Value) (s:AS) (a:Act) (w:World),Inv cx M κ tip s a w->wN s rs->(∀ e∈bs,s.blk e.1=some e.2) ->
  ∃ x,(execOp a.eval o).run P w=.ok (.value x) w/\RepA M κ tip s.blk v x
def Snd (P:Program) (o:Oper) (m:Mic):Prop:=
 ∀ (cx:Ctx) (s:AS) (a:Act) (w:World) (K:Act->World->Prop) (Q:Exit->Act->World->Prop),m.holds s->SRel cx s a w ->
  (∀ d∈m.ws,d<cx.nt)->(∀ a' w',SRel cx (m.upd s) a' w'->K a' w')->o.wp P a w K Q
theorem zNq (hd:o.dst=some d) (h:zXl P o rs bs v) :
  Snd P o ⟨rs,bs,[],some (d,some v),[]⟩:=by
 intro cx s a w K Q hm hs hw hk;obtain ⟨M,κ,tip,h0,hp,hi⟩:=hs;obtain ⟨x,hx,hr⟩:=h cx M κ tip s a w hi hm.1 hm.2.1;unfold Oper.wp;rw [hx];show K (a.put o.dst x) w;rw [hd];exact hk _ _ ⟨M,κ,tip,h0,hp,hi.put (hw d (by simp [Mic.ws])) hr⟩
theorem zF9 (hg:o.guard=none) (h:Snd P o m):zUk P ops o m:=by
 intro cx s a w K Q hm hs hw hk;rw [if_pos (by simp [Wd,hg])];exact .inl (h cx s a w K Q hm hs hw hk)
theorem zMs (hs:SRel cx s a w) {j dj:Nat} {b:Bool} (hj:(ops[j]?).bind (·.dst)=some dj) (he:s.env dj=some (.p (.bool b))) :
  yielded ops a.tmps j=some b:=by
 obtain ⟨M,κ,tip,h0,hp,hi⟩:=hs;obtain ⟨y,hy,hr⟩:=hi.env dj _ he;cases hr with
 | p _ _ hr=>cases hr;simp [yielded,hj,hy]
section
theorem Run.val (hd:o.dst=some d) (hg:o.guard=none) (h:zXl P o rs bs v) (h1:wN s rs) (h2:∀ e∈bs,s.blk e.1=some e.2)
  (k:Run P ops r (s.put d v) s' ms):Run P ops (o :: r) s s' (⟨rs,bs,[],some (d,some v),[]⟩:: ms):=
 .cons o r _ s s' ms (zF9 hg (zNq hd h)) ⟨h1,h2,by simp⟩ k
def VA (P:Program) (o:Oper) (s:AS) (rs:LV) (bs:LB) (v:AV):Prop:=
 zXl P o rs bs v/\wN s rs/\∀ e∈bs,s.blk e.1=some e.2
theorem Run.vv (hd:o.dst=some d) (hg:o.guard=none) (h:VA P o s rs bs v) (k:Run P ops r (s.put d v) s' ms) :
  Run P ops (o :: r) s s' (⟨rs,bs,[],some (d,some v),[]⟩:: ms):=Run.val hd hg h.1 h.2.1 h.2.2 k
theorem yM (h:wN s rs) (h':wN s rs'):wN s (rs++rs'):=λe he=>(Q4.1 he).elim (h e) (h' e)
theorem yI (h:wN s (rs++rs')):wN s rs:=λe he=>h e (Q4.2 (.inl he))
theorem zZ (h:wN s (rs++rs')):wN s rs':=λe he=>h e (Q4.2 (.inr he))
theorem zUl (ho:o.op=.move x∨o.op=.assign x) (h:s.get te o.type x=some v):VA P o s (opS x v) [] v:=by
 refine ⟨?_,zM h,by simp⟩;intro cx M κ tip s' a w hi hr _;have hg:=yN h s' hr;refine ⟨a.eval x,?_,yF hi hg⟩;rcases ho with ho | ho<;>simp [execOp,ho]
theorem repA_pv {x:Value} (h:RepA M κ tip B (.p p) x):Rep M p x:=by cases h;assumption
theorem zOa {b:Bool} {x:Value} (h:Rep M (.bool b) x):x=.bool b:=by cases h;rfl
theorem rep_int {n:Int} {x:Value} (h:Rep M (.int k n) x):x=.int k n:=by cases h;rfl
theorem gQ {l:By} {x:Value} (h:Rep M (.str l) x):x=.string ⟨l.toArray⟩:=by cases h;rfl
theorem zWu {a b:Operand} (ho:o.op=.pick c a b) (hc:s.get te t0 c=some (.p (.bool true))) (h:s.get te o.type a=some v) :
  VA P o s (opS c (.p (.bool true))++opS a v) [] v:=by
 refine ⟨?_,yM (zM hc) (zM h),by simp⟩;intro cx M κ tip s' ac w hi hr _;have h1:=zOa (repA_pv (yF hi (yN hc s' (yI hr))));refine ⟨ac.eval a,?_,yF hi (yN h s' (zZ hr))⟩;simp [execOp,ho,h1,asBool]
theorem zWj {a b:Operand} (ho:o.op=.pick c a b) (hc:s.get te t0 c=some (.p (.bool false))) (h:s.get te o.type b=some v) :
  VA P o s (opS c (.p (.bool false))++opS b v) [] v:=by
 refine ⟨?_,yM (zM hc) (zM h),by simp⟩;intro cx M κ tip s' ac w hi hr _;have h1:=zOa (repA_pv (yF hi (yN hc s' (yI hr))));refine ⟨ac.eval b,?_,yF hi (yN h s' (zZ hr))⟩;simp [execOp,ho,h1,asBool]
def uJ (k:IntKind) (a b:Int):Int:=k.wrap (Qc k.bits a &&& Qc k.bits b).toNat
def ior (k:IntKind) (a b:Int):Int:=k.wrap (Qc k.bits a ||| Qc k.bits b).toNat
def tD (k:IntKind) (a b:Int):Int:=k.wrap (Qc k.bits a ^^^ Qc k.bits b).toNat
def zMh (k:IntKind) (a b:Int):Int:=k.wrap (Qc k.bits a &&& ~~~Qc k.bits b).toNat
def zQu (k:IntKind) (a:Int):Int:=k.wrap (Qc k.bits (if k.signed then -1 else k.max) ^^^ Qc k.bits a).toNat
def lT (k:IntKind) (a b:Int):Int:=k.wrap (a*2 ^ (min b.toNat k.bits))
def wK (k:IntKind) (a b:Int):Int:=a.fdiv (2 ^ (min b.toNat k.bits))
inductive IOp where | add | sub | mul | and | or | xor | andNot
 deriving DecidableEq
def IOp.op:IOp->BinOp | .add=>.add | .sub=>.sub | .mul=>.mul | .and=>.and | .or=>.or | .xor=>.xor | .andNot=>.andNot
def IOp.val (f:IOp) (k:IntKind) (a b:Int):Int:=match f with
 | .add=>k.wrap (a+b) | .sub=>k.wrap (a - b) | .mul=>k.wrap (a*b) | .and=>uJ k a b | .or=>ior k a b | .xor=>tD k a b | .andNot=>zMh k a b
theorem zS4 (f:IOp) {a:Int} (ho:o.op=.binOp f.op tx x y tyy) (hx:s.get te tx x=some (.p (.int k a))) (hy:s.get te tyy y=some (.p (.int k b))) :
  VA P o s (opS x (.p (.int k a))++opS y (.p (.int k b))) [] (.p (.int k (f.val k a b))):=by
 refine ⟨?_,yM (zM hx) (zM hy),by simp⟩;intro cx M κ tip s' ac w hi hr _;have h1:=rep_int (repA_pv (yF hi (yN hx s' (yI hr))));have h2:=rep_int (repA_pv (yF hi (yN hy s' (zZ hr))));refine ⟨.int k (f.val k a b),?_,.p _ _ (.int _ _)⟩;cases f<;>simp [execOp,ho,h1,h2,IOp.op,IOp.val,eqGuard,binOp,Op.intArith,Op.intBits,uJ,ior,tD,zMh]
inductive COp where | eql | neq | lss | leq | gtr | geq
 deriving DecidableEq
def COp.op:COp->BinOp | .eql=>.eql | .neq=>.neq | .lss=>.lss | .leq=>.leq | .gtr=>.gtr | .geq=>.geq
def COp.val (f:COp) (a b:Int):Bool:=match f with
 | .eql=>a==b | .neq=>a != b | .lss=>decide (a<b) | .leq=>decide (a<=b) | .gtr=>decide (b<a) | .geq=>decide (b<=a)
theorem zZ0 (f:COp) {a:Int} (ho:o.op=.binOp f.op tx x y tyy) (hx:s.get te tx x=some (.p (.int k a))) (hy:s.get te tyy y=some (.p (.int k b))) :
  VA P o s (opS x (.p (.int k a))++opS y (.p (.int k b))) [] (.p (.bool (f.val a b))):=by
 refine ⟨?_,yM (zM hx) (zM hy),by simp⟩;intro cx M κ tip s' ac w hi hr _;have h1:=rep_int (repA_pv (yF hi (yN hx s' (yI hr))));have h2:=rep_int (repA_pv (yF hi (yN hy s' (zZ hr))));refine ⟨.bool (f.val a b),?_,.p _ _ (.bool _)⟩;cases f<;>simp [execOp,ho,h1,h2,COp.op,COp.val,eqGuard,binOp,Op.intCmp]
theorem yB9 {a:Int} (ho:o.op=.binOp .quo tx x y tyy) (hx:s.get te tx x=some (.p (.int k a))) (hy:s.get te tyy y=some (.p (.int k b))) (h0:b≠0) :
  VA P o s (opS x (.p (.int k a))++opS y (.p (.int k b))) [] (.p (.int k (k.wrap (a.tdiv b)))):=by
 refine ⟨?_,yM (zM hx) (zM hy),by simp⟩;intro cx M κ tip s' ac w hi hr _;have h1:=rep_int (repA_pv (yF hi (yN hx s' (yI hr))));have h2:=rep_int (repA_pv (yF hi (yN hy s' (zZ hr))));exact ⟨.int k (k.wrap (a.tdiv b)),by simp [execOp,ho,h1,h2,eqGuard,binOp,Op.intDiv,h0],.p _ _ (.int _ _)⟩
theorem yAk {a:Int} (ho:o.op=.binOp .rem tx x y tyy) (hx:s.get te tx x=some (.p (.int k a))) (hy:s.get te tyy y=some (.p (.int k b))) (h0:b≠0) :
  VA P o s (opS x (.p (.int k a))++opS y (.p (.int k b))) [] (.p (.int k (a.tmod b))):=by
 refine ⟨?_,yM (zM hx) (zM hy),by simp⟩;intro cx M κ tip s' ac w hi hr _;have h1:=rep_int (repA_pv (yF hi (yN hx s' (yI hr))));have h2:=rep_int (repA_pv (yF hi (yN hy s' (zZ hr))));exact ⟨.int k (a.tmod b),by simp [execOp,ho,h1,h2,eqGuard,binOp,Op.intDiv,h0],.p _ _ (.int _ _)⟩
theorem yA4 {a:Int} (ho:o.op=.binOp .shl tx x y tyy) (hx:s.get te tx x=some (.p (.int k a))) (hy:s.get te tyy y=some (.p (.int k' b))) (h0:0<=b) :
  VA P o s (opS x (.p (.int k a))++opS y (.p (.int k' b))) [] (.p (.int k (lT k a b))):=by
 refine ⟨?_,yM (zM hx) (zM hy),by simp⟩;intro cx M κ tip s' ac w hi hr _;have h1:=rep_int (repA_pv (yF hi (yN hx s' (yI hr))));have h2:=rep_int (repA_pv (yF hi (yN hy s' (zZ hr))));have h3:¬ b<0:=by omega
 exact ⟨.int k (lT k a b),by simp [execOp,ho,h1,h2,eqGuard,binOp,Op.shift,h3,lT],.p _ _ (.int _ _)⟩
theorem zXr {a:Int} (ho:o.op=.binOp .shr tx x y tyy) (hx:s.get te tx x=some (.p (.int k a))) (hy:s.get te tyy y=some (.p (.int k' b))) (h0:0<=b) :
  VA P o s (opS x (.p (.int k a))++opS y (.p (.int k' b))) [] (.p (.int k (wK k a b))):=by
 refine ⟨?_,yM (zM hx) (zM hy),by simp⟩;intro cx M κ tip s' ac w hi hr _;have h1:=rep_int (repA_pv (yF hi (yN hx s' (yI hr))));have h2:=rep_int (repA_pv (yF hi (yN hy s' (zZ hr))));have h3:¬ b<0:=by omega
 exact ⟨.int k (wK k a b),by simp [execOp,ho,h1,h2,eqGuard,binOp,Op.shift,h3,wK],.p _ _ (.int _ _)⟩
def SOp (f:COp) (a b:By):Bool:=match f with
 | .eql=>a==b | .neq=>!(a==b) | .lss=>Op.bytesLess a b | .leq=>Op.bytesLess a b||a==b | .gtr=>!(Op.bytesLess a b||a==b) | .geq=>!Op.bytesLess a b
theorem zZk (f:COp) {a b:By} (ho:o.op=.binOp f.op tx x y tyy) (hx:s.get te tx x=some (.p (.str a))) (hy:s.get te tyy y=some (.p (.str b))) :
  VA P o s (opS x (.p (.str a))++opS y (.p (.str b))) [] (.p (.bool (SOp f a b))):=by
 refine ⟨?_,yM (zM hx) (zM hy),by simp⟩;intro cx M κ tip s' ac w hi hr _;have h1:=gQ (repA_pv (yF hi (yN hx s' (yI hr))));have h2:=gQ (repA_pv (yF hi (yN hy s' (zZ hr))));refine ⟨.bool (SOp f a b),?_,.p _ _ (.bool _)⟩;cases f<;>simp [execOp,ho,h1,h2,COp.op,SOp,eqGuard,binOp,Op.stringOp,ByteArray.toList_mk]
theorem yBf {a:Bool} (ho:o.op=.unOp .not tx x) (hx:s.get te tx x=some (.p (.bool a))):VA P o s (opS x (.p (.bool a))) [] (.p (.bool (!a))):=by
 refine ⟨?_,zM hx,by simp⟩;intro cx M κ tip s' ac w hi hr _;have h1:=zOa (repA_pv (yF hi (yN hx s' hr)));exact ⟨.bool (!a),by simp [execOp,ho,h1,Op.unary],.p _ _ (.bool _)⟩
theorem yB5 {a:Int} (ho:o.op=.unOp .xor tx x) (hx:s.get te tx x=some (.p (.int k a))):VA P o s (opS x (.p (.int k a))) [] (.p (.int k (zQu k a))):=by
 refine ⟨?_,zM hx,by simp⟩;intro cx M κ tip s' ac w hi hr _;have h1:=rep_int (repA_pv (yF hi (yN hx s' hr)));exact ⟨.int k (zQu k a),by simp [execOp,ho,h1,Op.unary,Op.intBits,zQu],.p _ _ (.int _ _)⟩
theorem zT0 {a:Int} (hok:yX P te) (ho:o.op=.convert src dst x) (hs:(te src).map (·.ty)=some (.int k')) (ht:(te dst).map (·.ty)=some (.int k)) (hx:s.get te src x=some (.p (.int k' a))) :
  VA P o s (opS x (.p (.int k' a))) [] (.p (.int k (k.wrap a))):=by
 refine ⟨?_,zM hx,by simp⟩;intro cx M κ tip s' ac w hi hr _;have h1:=rep_int (repA_pv (yF hi (yN hx s' hr)));obtain ⟨i,hi1,hi2⟩:=Q0.1 ht;have hu:=(hok dst i hi1).und;simp only [hi2] at hu;obtain ⟨j,hj1,hj2⟩:=Q0.1 hs;have hdsc:=(hok src j hj1).und;simp only [hj2] at hdsc;exact ⟨.int k (k.wrap a),by simp [execOp,ho,h1,convert,run_underlying hu,run_underlying hdsc,Conv.intToInt],.p _ _ (.int _ _)⟩
end
mutual
def AS.rd (s:AS):AV->Option (PV×LB)
 | .p v=>some (v,[])
 | .nl c=>some (c,[])
 | .buf k n=>match s.blk k with
  | some (.buf c)=>some (c.take n,[(k,.buf c)])
  | _=>none
 | .ag l=>match s.rdL l with
  | some (ps,bs)=>some (.agg ps,bs)
  | none=>none
 | .tu l=>match s.rdL l with
  | some (ps,bs)=>some (.tup ps,bs)
  | none=>none
 | _=>none
def AS.rdL (s:AS):List AV->Option (List PV×LB)
 | []=>some ([],[])
 | v :: r=>match s.rd v,s.rdL r with
  | some (p,bs),some (ps,bs')=>some (p :: ps,bs++bs')
  | _,_=>none
end
mutual
theorem uM:∀ (v:AV) (p:PV) (bs:LB),s.rd v=some (p,bs)->∀ e∈bs,s.blk e.1=some e.2
 | .p v,p,bs,h,e,he=>by simp [AS.rd] at h;obtain ⟨rfl,rfl⟩:=h;simp at he
 | .nl v,p,bs,h,e,he=>by simp [AS.rd] at h;obtain ⟨rfl,rfl⟩:=h;simp at he
 | .buf k n,p,bs,h,e,he=>by
  simp only [AS.rd] at h;split at h
  ·rename_i c hc;simp at h;obtain ⟨rfl,rfl⟩:=h;simp at he;subst he;exact hc
  ·cases h
 | .ag l,p,bs,h,e,he=>by
  simp only [AS.rd] at h;split at h
  ·rename_i ps bs' hl;simp at h;obtain ⟨rfl,rfl⟩:=h;exact zC3 l ps _ hl e he
  ·cases h
 | .tu l,p,bs,h,e,he=>by
  simp only [AS.rd] at h;split at h
  ·rename_i ps bs' hl;simp at h;obtain ⟨rfl,rfl⟩:=h;exact zC3 l ps _ hl e he
  ·cases h
 | .ptr _ _,p,bs,h,_,_=>by simp [AS.rd] at h
 | .ref _ _ _,p,bs,h,_,_=>by simp [AS.rd] at h
 | .fnv _ _,p,bs,h,_,_=>by simp [AS.rd] at h
 | .own _ _,p,bs,h,_,_=>by simp [AS.rd] at h
 | .optr _ _ _,p,bs,h,_,_=>by simp [AS.rd] at h
 | .osl _ _ _ _,p,bs,h,_,_=>by simp [AS.rd] at h
theorem zC3:∀ (l:List AV) (ps:List PV) (bs:LB),s.rdL l=some (ps,bs)->∀ e∈bs,s.blk e.1=some e.2
 | [],ps,bs,h,e,he=>by simp [AS.rdL] at h;obtain ⟨rfl,rfl⟩:=h;simp at he
 | v :: r,ps,bs,h,e,he=>by
  simp only [AS.rdL] at h;split at h
  ·rename_i p b1 qs b2 h1 h2;simp at h;obtain ⟨rfl,rfl⟩:=h;rcases Q4.1 he with he | he
   ·exact uM v p b1 h1 e he
   ·exact zC3 r qs b2 h2 e he
  ·cases h
end
mutual
theorem zQp:∀ (v:AV) (p:PV) (bs:LB),s.rd v=some (p,bs)->(∀ e∈bs,s'.blk e.1=some e.2)->s'.rd v=some (p,bs)
 | .p v,p,bs,h,_=>by simpa [AS.rd] using h
 | .nl v,p,bs,h,_=>by simpa [AS.rd] using h
 | .buf k n,p,bs,h,hb=>by
  simp only [AS.rd] at h;split at h
  ·rename_i c hc;simp at h;obtain ⟨rfl,rfl⟩:=h;have:=hb (k,.buf c) (by simp);simp only at this;simp [AS.rd,this]
  ·cases h
 | .ag l,p,bs,h,hb=>by
  simp only [AS.rd] at h;split at h
  ·rename_i ps bs' hl;simp at h;obtain ⟨rfl,rfl⟩:=h;simp [AS.rd,zCj l ps _ hl hb]
  ·cases h
 | .tu l,p,bs,h,hb=>by
  simp only [AS.rd] at h;split at h
  ·rename_i ps bs' hl;simp at h;obtain ⟨rfl,rfl⟩:=h;simp [AS.rd,zCj l ps _ hl hb]
  ·cases h
 | .ptr _ _,p,bs,h,_=>by simp [AS.rd] at h
 | .ref _ _ _,p,bs,h,_=>by simp [AS.rd] at h
 | .fnv _ _,p,bs,h,_=>by simp [AS.rd] at h
 | .own _ _,p,bs,h,_=>by simp [AS.rd] at h
 | .optr _ _ _,p,bs,h,_=>by simp [AS.rd] at h
 | .osl _ _ _ _,p,bs,h,_=>by simp [AS.rd] at h
theorem zCj:∀ (l:List AV) (ps:List PV) (bs:LB),s.rdL l=some (ps,bs)->(∀ e∈bs,s'.blk e.1=some e.2)->s'.rdL l=some (ps,bs)
 | [],ps,bs,h,_=>by simpa [AS.rdL] using h
 | v :: r,ps,bs,h,hb=>by
  simp only [AS.rdL] at h;split at h
  ·rename_i p b1 qs b2 h1 h2;simp at h;obtain ⟨rfl,rfl⟩:=h;have e1:=zQp v p b1 h1 (λe he=>hb e (Q4.2 (.inl he)));have e2:=zCj r qs b2 h2 (λe he=>hb e (Q4.2 (.inr he)));simp [AS.rdL,e1,e2]
  ·cases h
end
theorem zMo:∀ (l:List AV) (ps:List PV) (bs:LB),s.rdL l=some (ps,bs)->ps.length=l.length/\∀ (j:Nat) (q:PV),ps[j]? = some q->∃ v b,l[j]? = some v/\s.rd v=some (q,b)
 | [],ps,bs,h=>by simp [AS.rdL] at h;obtain ⟨rfl,rfl⟩:=h;simp
 | v :: r,ps,bs,h=>by
  simp only [AS.rdL] at h;split at h
  ·rename_i p b1 qs b2 h1 h2;simp at h;obtain ⟨rfl,rfl⟩:=h;obtain ⟨e1,e2⟩:=zMo r qs b2 h2;refine ⟨by simp [e1],λj q hq=>?_⟩;cases j with
   | zero=>simp at hq;subst hq;exact ⟨v,b1,by simp,h1⟩
   | succ j=>obtain ⟨v',b',h3,h4⟩:=e2 j q (by simpa using hq);exact ⟨v',b',by simpa using h3,h4⟩
  ·cases h
theorem zKl {x:Value} (hr:RepA M κ tip s.blk v x):∀ {p:PV} {bs:LB},s.rd v=some (p,bs)->Rep M p x:=by
 induction hr with
 | p v x h1=>intro p bs h;simp [AS.rd] at h;obtain ⟨rfl,rfl⟩:=h;exact h1
 | nl c h1=>
  intro p bs h;simp [AS.rd] at h;obtain ⟨rfl,rfl⟩:=h;unfold PV.nilOf at h1;split at h1
  ·exact .bytes0
  ·exact .sl0 _
  ·cases h1
 | ptr k o b l h1 h2=>intro p bs h;simp [AS.rd] at h
 | ref k o n b l h1 h2=>intro p bs h;simp [AS.rd] at h
 | buf k n c x h1 hs h2 h3 h4=>
  intro p bs h;simp only [AS.rd,h1] at h;simp at h;obtain ⟨rfl,rfl⟩:=h;exact h3
 | ag l vs h1 _ ih=>
  intro p bs h;simp only [AS.rd] at h;split at h
  ·rename_i ps bs' hl;simp at h;obtain ⟨rfl,rfl⟩:=h;obtain ⟨e1,e2⟩:=zMo l ps _ hl;refine .agg ps vs (by omega) (λj q hq=>?_);obtain ⟨v,b,h3,h4⟩:=e2 j q hq;exact ih j v h3 h4
  ·cases h
 | tu l vs h1 _ ih=>
  intro p bs h;simp only [AS.rd] at h;split at h
  ·rename_i ps bs' hl;simp at h;obtain ⟨rfl,rfl⟩:=h;obtain ⟨e1,e2⟩:=zMo l ps _ hl;refine .tup ps vs (by omega) (λj q hq=>?_);obtain ⟨v,b,h3,h4⟩:=e2 j q hq;exact ih j v h3 h4
  ·cases h
 | fnv f l vs h1 _ _=>intro p bs h;simp [AS.rd] at h
 | own=>intro p bs h;simp [AS.rd] at h
 | optr=>intro p bs h;simp [AS.rd] at h
 | osl=>intro p bs h;simp [AS.rd] at h
theorem zIu (l:By):(ByteArray.mk l.toArray).size=l.length:=by simp [ByteArray.size]
section
theorem kE (hi:Inv cx M κ tip s' a w) 
  (hx:s.get te t x=some v) (hp:s.rd v=some (p,bs)) (hr:wN s' (opS x v)) (hb:∀ e∈bs,s'.blk e.1=some e.2):Rep M p (a.eval x):=
 zKl (yF hi (yN hx s' hr)) (zQp v p bs hp hb)
theorem xA (hok:yX P te) (h:(te t).map (·.ty)=some (.slice e)):P.underlying t=some (.slice e):=by
 obtain ⟨i,h1,h2⟩:=Q0.1 h;have:=(hok t i h1).und;simp only [h2] at this;exact this
theorem zDz (hok:yX P te) (h:(te t).map (·.ty)=some .str):P.underlying t=some .string:=by
 obtain ⟨i,h1,h2⟩:=Q0.1 h;have:=(hok t i h1).und;simp only [h2] at this;exact this
theorem zG2 (hok:yX P te) (h:(te t).map (·.ty)=some (.int k)):P.underlying t=some (.int k):=by
 obtain ⟨i,h1,h2⟩:=Q0.1 h;have:=(hok t i h1).und;simp only [h2] at this;exact this
theorem zIk (hok:yX P te) (h:(te t).map (·.ty)=some (.arr n e)):P.underlying t=some (.array n e):=by
 obtain ⟨i,h1,h2⟩:=Q0.1 h;have:=(hok t i h1).und;simp only [h2] at this;exact this
theorem zFx (hok:yX P te) (h:(te t).map (·.ty)=some (.struct fs)):∃ fields,P.underlying t=some (.struct fields)/\fields.toList.map (λf=>(f.type,f.offset))=fs:=by
 obtain ⟨i,h1,h2⟩:=Q0.1 h;have:=(hok t i h1).und;simp only [h2] at this;exact this
theorem tC (hok:yX P te) (h:te t=some i) (w:World):(sizeOf t).run P w=.ok i.w w:=by
 obtain ⟨info,z,h1,h2,_⟩:=(hok t i h).info;simp [sizeOf,typeInfo,h1,h2]
def PV.slen:PV->Option Nat
 | .bytes l=>some l.length
 | .sl _ l=>some l.length
 | .str l=>some l.length
 | _=>none
theorem zX0 (hok:yX P te) (ho:o.op=.call { callee:=.builtin .len,args:=#[x],argTypes:=#[t] })
  (ht:(∃ e,(te t).map (·.ty)=some (.slice e))∨(te t).map (·.ty)=some .str) (hx:s.get te t x=some v) (hp:s.rd v=some (p,bs)) (hn:p.slen=some n) (hs:(∃ e,(te t).map (·.ty)=some (.slice e))->p.isSlice=true) (hs':(te t).map (·.ty)=some .str->p.isSlice=false) :
  VA P o s (opS x v) bs (.p (.int .i64 n)):=by
 refine ⟨?_,zM hx,uM v p bs hp⟩;intro cx M κ tip s' a w hi hr hb;have h1:=kE hi hx hp hr hb;refine ⟨.int .i64 n,?_,.p _ _ (.int _ _)⟩;rcases ht with ⟨e,he⟩ | he
 ·have hu:=xA hok he;have:=hs ⟨e,he⟩;generalize hev:a.eval x=y at h1;cases h1<;>simp [PV.isSlice] at this<;>simp [PV.slen] at hn<;>subst hn<;>simp_all [execOp,resolve,invoke,builtin,Builtin.len_,run_underlying hu,goInt]
 ·have hu:=zDz hok he;have:=hs' he;generalize hev:a.eval x=y at h1;cases h1<;>simp [PV.isSlice] at this<;>simp [PV.slen] at hn<;>subst hn<;>simp_all [execOp,resolve,invoke,builtin,Builtin.len_,run_underlying hu,goInt,zIu]
def PV.idx:PV->Int->Option PV
 | .bytes l,i=>if 0<=i then (l[i.toNat]?).map λb=>.int .u8 b.toNat else none
 | .sl _ l,i=>if 0<=i then l[i.toNat]? else none
 | _,_=>none
theorem add_off (b o n:Nat):(⟨b,o,none⟩:Addr).add n=⟨b,o+n,none⟩:=by unfold Addr.add;split<;>simp_all
theorem zXj {i:Int} (hok:yX P te) (ho:o.op=.indexAddr t x y) (ht:(te t).map (·.ty)=some (.slice e)) (he:te e=some ei)
  (hx:s.get te t x=some v) (hp:s.rd v=some (p,bs)) (hw:p.width=ei.w) (hy:s.get te ity y=some (.p (.int .i64 i))) (hq:p.idx i=some q) :
  VA P o s (opS x v++opS y (.p (.int .i64 i))) bs (.p (.cptr q)):=by
 refine ⟨?_,yM (zM hx) (zM hy),uM v p bs hp⟩;intro cx M κ tip s' a w hi hr hb;have h1:=kE hi hx hp (yI hr) hb;have h2:=rep_int (repA_pv (yF hi (yN hy s' (zZ hr))));have hu:=xA hok ht;have hsz:=tC hok he w;generalize hev:a.eval x=z at h1;cases h1 with
 | bytes l b off n c hn hc hl=>
  simp only [PV.idx] at hq;split at hq
  ·rename_i h0;obtain ⟨u,hu1,hu2⟩:=Q0.1 hq;subst hu2;have hlt:i.toNat<l.length:=(List.getElem?_eq_some_iff.1 hu1).1;have hlt':i<(n:Int):=by omega
   have hm:=hl i.toNat u hu1;refine ⟨.pointer (some ⟨b,off+i.toNat,none⟩),?_,.p _ _ (.cptr _ b _ ?_ ?_)⟩
   ·simp only [PV.width] at hw;rw [<- hw] at hsz;simp [execOp,ho,hev,h2,Qp,asIntOf,run_underlying hu,h0,hlt',hsz,add_off]
   ·intro j q' hj;cases j with
    | zero=>simp [PV.cells] at hj;simp [hm]
    | succ j=>simp [PV.cells] at hj
   ·intro j q' hj;cases j with
    | zero=>simp [PV.cells] at hj;subst hj;simp only [mget,W5,hm,Option.getD_some];exact .int _ _
    | succ j=>simp [PV.cells] at hj
  ·cases hq
 | sl w' l b off n c hn hc hwd hs hr'=>
  simp only [PV.idx] at hq;split at hq
  ·rename_i h0;have hlt:i.toNat<l.length:=(List.getElem?_eq_some_iff.1 hq).1;have hlt':i<(n:Int):=by omega
   refine ⟨.pointer (some ⟨b,off+i.toNat*w',none⟩),?_,.p _ _ (.cptr _ b _ ?_ ?_)⟩
   ·simp only [PV.width] at hw;rw [<- hw] at hsz;simp [execOp,ho,hev,h2,Qp,asIntOf,run_underlying hu,h0,hlt',hsz,add_off]
   ·intro j q' hj;have:=hs i.toNat q j q' hq hj;rw [Q9];exact this
   ·intro j q' hj;have:=hr' i.toNat q j q' hq hj;rw [Q9];exact this
  ·cases hq
 | bytes0=>simp [PV.idx] at hq
 | sl0 w'=>simp [PV.idx] at hq
 | slE a=>simp [PV.idx] at hq
 | _=>simp [PV.idx] at hq
theorem zT7 {k:Nat} {i:Int} (hok:yX P te) (ho:o.op=.indexAddr t x y) (ht:(te t).map (·.ty)=some (.arr n e)) (he:te e=some ei)
  (hx:s.get te t x=some (.ptr k off)) (hy:s.get te ity y=some (.p (.int .i64 i))) (h0:0<=i) (h1:i<n) :
  VA P o s (opS x (.ptr k off)++opS y (.p (.int .i64 i))) [] (.ptr k (off+i.toNat*ei.w)):=by
 refine ⟨?_,yM (zM hx) (zM hy),by simp⟩;intro cx M κ tip s' a w hi hr hb;have hx':=yF hi (yN hx s' (yI hr));have h2:=rep_int (repA_pv (yF hi (yN hy s' (zZ hr))));have hu:=zIk hok ht;have hsz:=tC hok he w;generalize hev:a.eval x=z at hx';cases hx' with
 | ptr k o b l hk hl=>
  exact ⟨.pointer (some ⟨b,off+i.toNat*ei.w,none⟩),by simp [execOp,ho,hev,h2,Qp,Qe,asIntOf,run_underlying hu,h0,h1,hsz,add_off],.ptr _ _ b l hk hl⟩
theorem zYl {k:Nat} {i:Int} (hok:yX P te) (ho:o.op=.indexAddr t x y) (ht:(te t).map (·.ty)=some (.slice e)) (he:te e=some ei)
  (hx:s.get te t x=some (.ref k off n)) (hy:s.get te ity y=some (.p (.int .i64 i))) (h0:0<=i) (h1:i<n) :
  VA P o s (opS x (.ref k off n)++opS y (.p (.int .i64 i))) [] (.ptr k (off+i.toNat*ei.w)):=by
 refine ⟨?_,yM (zM hx) (zM hy),by simp⟩;intro cx M κ tip s' a w hi hr hb;have hx':=yF hi (yN hx s' (yI hr));have h2:=rep_int (repA_pv (yF hi (yN hy s' (zZ hr))));have hu:=xA hok ht;have hsz:=tC hok he w;generalize hev:a.eval x=z at hx';cases hx' with
 | ref k o n b l hk hl=>
  exact ⟨.pointer (some ⟨b,off+i.toNat*ei.w,none⟩),by simp [execOp,ho,hev,h2,Qp,asIntOf,run_underlying hu,h0,h1,hsz,add_off],.ptr _ _ b l hk hl⟩
theorem yCa {k:Nat} (hok:yX P te) (ho:o.op=.fieldAddr t x f) (ht:(te t).map (·.ty)=some (.struct fs)) (hf:fs[f]? = some (ft,fo)) (he:te ft=some fi) (hw:fi.w≠0)
  (hx:s.get te ty x=some (.ptr k off)):VA P o s (opS x (.ptr k off)) [] (.ptr k (off+fo)):=by
 refine ⟨?_,zM hx,by simp⟩;intro cx M κ tip s' a w hi hr hb;have hx':=yF hi (yN hx s' hr);obtain ⟨fields,hu,hfs⟩:=zFx hok ht;have hsz:=tC hok he w;have hfield:∃ fl,fields[f]? = some fl/\fl.type=ft/\fl.offset=fo:=by
  rw [<- hfs,List.getElem?_map] at hf;obtain ⟨fl,h1,h2⟩:=Q0.1 hf;simp at h2;exact ⟨fl,by simpa using h1,h2.1,h2.2⟩
 obtain ⟨fl,hfl,rfl,rfl⟩:=hfield;generalize hev:a.eval x=z at hx';cases hx' with
 | ptr k o b l hk hl=>
  exact ⟨.pointer (some ⟨b,off+fl.offset,none⟩),by simp [execOp,ho,hev,Instr.fieldAt,Qe,run_underlying hu,hfl,fieldPlace,hsz,hw,add_off],.ptr _ _ b l hk hl⟩
def kV (agg:Bool) (l:List PV) (off w:Nat):Option PV:=bif agg then (bif Nat.ble (off+w) l.length then some (.agg ((l.drop off).take w)) else none) else (match l[off]? with | some (.agg _)=>none | r=>r)
def TI.isAgg (i:TI):Bool:=match i.ty with | .struct _ | .arr _ _=>true | _=>false
theorem zA4 {w:Nat} {b:Bool} (h:kV b l off w=some q):∀ (j:Nat) (q':PV),q.cells[j]? = some q'->l[off+j]? = some q':=by
 intro j q' hj;unfold kV at h;cases b with
 | true=>
  simp only [cond_true] at h;cases hb:Nat.ble (off+w) l.length with
  | false=>simp [hb] at h
  | true=>
   simp [hb] at h;subst h;simp only [PV.cells,List.getElem?_take,List.getElem?_drop] at hj;split at hj
   ·exact hj
   ·cases hj
 | false=>
  simp only [cond_false] at h;split at h
  ·cases h
  ·rename_i hne;have hc:q.cells=[q]:=by
    cases q<;>first | rfl | (exact (hne _ h).elim)
   rw [hc] at hj;cases j with
   | zero=>simp at hj;subst hj;simpa using h
   | succ j=>simp at hj
theorem zZm (hok:yX P te) (ho:o.op=.fieldAddr t x f) (ht:(te t).map (·.ty)=some (.struct fs)) (hf:fs[f]? = some (ft,fo)) (he:te ft=some fi) (hw:fi.w≠0)
  (hx:s.get te ty x=some (.p (.cptr (.agg l)))) (hq:kV fi.isAgg l fo fi.w=some q):VA P o s (opS x (.p (.cptr (.agg l)))) [] (.p (.cptr q)):=by
 refine ⟨?_,zM hx,by simp⟩;intro cx M κ tip s' a w hi hr hb;have hx':=repA_pv (yF hi (yN hx s' hr));obtain ⟨fields,hu,hfs⟩:=zFx hok ht;have hsz:=tC hok he w;have hfield:∃ fl,fields[f]? = some fl/\fl.type=ft/\fl.offset=fo:=by
  rw [<- hfs,List.getElem?_map] at hf;obtain ⟨fl,h1,h2⟩:=Q0.1 hf;simp at h2;exact ⟨fl,by simpa using h1,h2.1,h2.2⟩
 obtain ⟨fl,hfl,rfl,rfl⟩:=hfield;generalize hev:a.eval x=z at hx';cases hx' with
 | cptr p b o h1 h2=>
  refine ⟨.pointer (some ⟨b,o+fl.offset,none⟩),by simp [execOp,ho,hev,Instr.fieldAt,Qe,run_underlying hu,hfl,fieldPlace,hsz,hw,add_off],.p _ _ (.cptr _ b _ ?_ ?_)⟩
  ·intro j q' hj;rw [Q9];exact h1 _ q' (zA4 hq j q' hj)
  ·intro j q' hj;rw [Q9];exact h2 _ q' (zA4 hq j q' hj)
theorem zZe {i:Int} (hok:yX P te) (ho:o.op=.indexAddr t x y) (ht:(te t).map (·.ty)=some (.arr n e)) (he:te e=some ei)
  (hx:s.get te t x=some (.p (.cptr (.agg l)))) (hy:s.get te ity y=some (.p (.int .i64 i))) (h0:0<=i) (h1:i<n) (hq:kV ei.isAgg l (i.toNat*ei.w) ei.w=some q) :
  VA P o s (opS x (.p (.cptr (.agg l)))++opS y (.p (.int .i64 i))) [] (.p (.cptr q)):=by
 refine ⟨?_,yM (zM hx) (zM hy),by simp⟩;intro cx M κ tip s' a w hi hr hb;have hx':=repA_pv (yF hi (yN hx s' (yI hr)));have h2:=rep_int (repA_pv (yF hi (yN hy s' (zZ hr))));have hu:=zIk hok ht;have hsz:=tC hok he w;generalize hev:a.eval x=z at hx';cases hx' with
 | cptr p b o h3 h4=>
  refine ⟨.pointer (some ⟨b,o+i.toNat*ei.w,none⟩),by simp [execOp,ho,hev,h2,Qp,Qe,asIntOf,run_underlying hu,h0,h1,hsz,add_off],.p _ _ (.cptr _ b _ ?_ ?_)⟩
  ·intro j q' hj;rw [Q9];exact h3 _ q' (zA4 hq j q' hj)
  ·intro j q' hj;rw [Q9];exact h4 _ q' (zA4 hq j q' hj)
theorem zZl (ho:o.op=.nilCheck x) (hx:s.get te ty x=some v) (hv:(∃ k n,v=.ptr k n)∨∃ q,v=.p (.cptr q)):VA P o s (opS x v) [] v:=by
 refine ⟨?_,zM hx,by simp⟩;intro cx M κ tip s' a w hi hr hb;have hx':=yF hi (yN hx s' hr);refine ⟨a.eval x,?_,hx'⟩;generalize hev:a.eval x=z at hx';rcases hv with ⟨k,n,rfl⟩ | ⟨q,rfl⟩
 ·cases hx' with
  | ptr k o b l hk hl=>simp [execOp,ho,hev]
 ·cases hx' with
  | p _ _ hx'=>cases hx' with
   | cptr p b o h1 h2=>simp [execOp,ho,hev]
theorem zW5 (hok:yX P te) (h:te t=some i) (hb:i.isAgg=true) (w:World):(isAgg t).run P w=.ok true w:=by
 have hu:=(hok t i h).und;unfold TI.isAgg at hb;split at hb
 ·rename_i fs hty;simp only [hty] at hu;obtain ⟨fields,hu,_⟩:=hu;simp [isAgg,run_underlying hu]
 ·rename_i n e hty;simp only [hty] at hu;simp [isAgg,run_underlying hu]
 ·cases hb
theorem zTx (hok:yX P te) (h:te t=some i) (hb:i.isAgg=false) (hne:i.ty≠.other) (w:World):(isAgg t).run P w=.ok false w:=by
 have hu:=(hok t i h).und;unfold TI.isAgg at hb;cases hty:i.ty with
 | struct fs=>simp [hty] at hb
 | arr n e=>simp [hty] at hb
 | bool=>simp only [hty] at hu;simp [isAgg,run_underlying hu]
 | int k=>simp only [hty] at hu;simp [isAgg,run_underlying hu]
 | str=>simp only [hty] at hu;simp [isAgg,run_underlying hu]
 | slice e=>simp only [hty] at hu;simp [isAgg,run_underlying hu]
 | ptr e=>simp only [hty] at hu;simp [isAgg,run_underlying hu]
 | func=>simp only [hty] at hu;obtain ⟨a,b,c,hu⟩:=hu;simp [isAgg,run_underlying hu]
 | iface=>simp only [hty] at hu;obtain ⟨ms,hu⟩:=hu;simp [isAgg,run_underlying hu]
 | other=>exact (hne hty).elim
def TI.plain (i:TI):Bool:=match i.ty with | .struct _ | .arr _ _ | .other=>false | _=>true
theorem zSz (h:i.plain=true):i.isAgg=false/\i.ty≠.other:=by
 unfold TI.plain at h;unfold TI.isAgg;split at h<;>first | (cases h;done) | (refine ⟨?_,?_⟩<;>(cases hty:i.ty<;>simp_all))
theorem gG (hok:yX P te) (h:te t=some i) (hp:i.plain=true) {a:Addr} {x:Value} (hc:w.cell? a=some x):(loadVar t a).run P w=.ok x w:=by
 obtain ⟨h1,h2⟩:=zSz hp;simp [loadVar,zTx hok h h1 h2,load,Sem.run,hc]
theorem zAp (hok:yX P te) (h:te t=some i) (hp:i.isAgg=true) {a:Addr} (cs:List Value) (hl:cs.length=i.w) (hc:∀ (j:Nat) (u:Value),cs[j]? = some u->w.cell? (a.add j)=some u) :
  (loadVar t a).run P w=.ok (.agg cs.toArray) w:=by
 have:=run_loadCells_list (P:=P) w a cs hc;rw [hl] at this;simp [loadVar,zW5 hok h hp,tC hok h,this]
theorem zZa {k:Nat} {l:List AV} (hok:yX P te) (ho:o.op=.load t x) (ht:te t=some i) (hp:i.plain=true) (hx:s.get te ty x=some (.ptr k off)) (hb:s.blk k=some (.var l)) (hv:l[off]? = some v) :
  VA P o s (opS x (.ptr k off)) [(k,.var l)] v:=by
 refine ⟨?_,zM hx,by simpa using hb⟩;intro cx M κ tip s' a w hi hr hb';have hx':=yF hi (yN hx s' hr);have hbk:=hb' (k,.var l) (by simp);obtain ⟨b,arr,e,fz,h1,h2,h3,h4,h5,h6⟩:=hi.vars k l hbk;generalize hev:a.eval x=z at hx';cases hx' with
 | ptr k o b' l' hk hl'=>
  rw [h1] at hk;cases hk;have hlt:off<l.length:=(List.getElem?_eq_some_iff.1 hv).1;have hlt':off<arr.size:=by omega
  have hcell:w.cell? ⟨b,off,none⟩=some arr[off]:=by simp [World.cell?,h2,hlt']
  refine ⟨arr[off],?_,?_⟩
  ·simp [execOp,ho,hev,Qw,Qe,gG hok ht hp hcell]
  ·have:=h5 off v hv;simpa [hlt'] using this
theorem zW9 {k:Nat} {l:List AV} (hok:yX P te) (ho:o.op=.load t x) (ht:te t=some i) (hp:i.isAgg=true) (hx:s.get te ty x=some (.ptr k off)) (hb:s.blk k=some (.var l)) (hv:off+i.w<=l.length) :
  VA P o s (opS x (.ptr k off)) [(k,.var l)] (.ag ((l.drop off).take i.w)):=by
 refine ⟨?_,zM hx,by simpa using hb⟩;intro cx M κ tip s' a w hi hr hb';have hx':=yF hi (yN hx s' hr);have hbk:=hb' (k,.var l) (by simp);obtain ⟨b,arr,e,fz,h1,h2,h3,h4,h5,h6⟩:=hi.vars k l hbk;generalize hev:a.eval x=z at hx';cases hx' with
 | ptr k o b' l' hk hl'=>
  rw [h1] at hk;cases hk;have hlen:((arr.toList.drop off).take i.w).length=i.w:=by simp;omega
  refine ⟨.agg ((arr.toList.drop off).take i.w).toArray,?_,?_⟩
  ·have:=zAp hok ht hp (w:=w) (a:=⟨b,off,none⟩) ((arr.toList.drop off).take i.w) hlen (by
    intro j u hu;rw [List.getElem?_take,List.getElem?_drop] at hu;split at hu
    ·rw [add_off];simp [World.cell?,h2];simpa using hu
    ·cases hu)
   simp [execOp,ho,hev,Qw,Qe,this]
  ·refine .ag _ _ (by simp;omega) (λj q hq=>?_);rw [List.getElem?_take,List.getElem?_drop] at hq;split at hq
   ·rename_i hj;have:=h5 (off+j) q hq;have hlt:off+j<arr.size:=by omega
    simpa [hj,hlt,List.getElem?_take,List.getElem?_drop] using this
   ·cases hq
theorem zWg (hok:yX P te) (ho:o.op=.load t x) (ht:te t=some i) (hp:i.plain=true) (hx:s.get te ty x=some (.p (.cptr q))) (hq:q.cells=[q]) :
  VA P o s (opS x (.p (.cptr q))) [] (.p q):=by
 refine ⟨?_,zM hx,by simp⟩;intro cx M κ tip s' a w hi hr hb';have hx':=repA_pv (yF hi (yN hx s' hr));generalize hev:a.eval x=z at hx';cases hx' with
 | cptr p b o h1 h2=>
  have h3:=h1 0 q (by rw [hq];rfl);have h4:=h2 0 q (by rw [hq];rfl);obtain ⟨y,hy⟩:=Q2.1 h3;simp only [W5] at hy h4;have hcell:=hi.mem b o y hy;refine ⟨y,by simp [execOp,ho,hev,Qw,Qe,gG hok ht hp hcell],.p _ _ ?_⟩;simpa [mget,hy] using h4
theorem zVr (hok:yX P te) (ho:o.op=.load t x) (ht:te t=some i) (hp:i.isAgg=true) (hx:s.get te ty x=some (.p (.cptr (.agg l)))) (hl:l.length=i.w) :
  VA P o s (opS x (.p (.cptr (.agg l)))) [] (.p (.agg l)):=by
 refine ⟨?_,zM hx,by simp⟩;intro cx M κ tip s' a w hi hr hb';have hx':=repA_pv (yF hi (yN hx s' hr));generalize hev:a.eval x=z at hx';cases hx' with
 | cptr p b o h1 h2=>
  simp only [PV.cells] at h1 h2;have hlen:((Q1 i.w).map λj=>mget M b (o+j)).length=i.w:=by simp
  refine ⟨.agg ((Q1 i.w).map λj=>mget M b (o+j)).toArray,?_,.p _ _ (.agg _ _ (by simp [hl]) ?_)⟩
  ·have:=zAp hok ht hp (w:=w) (a:=⟨b,o,none⟩) ((Q1 i.w).map λj=>mget M b (o+j)) hlen (by
    intro j u hu;rw [List.getElem?_map] at hu;obtain ⟨j',hj1,hj2⟩:=Q0.1 hu;have hjl:j<i.w:=by
     have:=(List.getElem?_eq_some_iff.1 hj1).1;simpa using this
    have:j'=j:=by
     have:=(List.getElem?_eq_some_iff.1 hj1).2;simpa using this.symm
    subst this;have hq:l[j']? = some l[j']:=by simp [hl,hjl]
    have h3:=h1 j' l[j'] hq;obtain ⟨y,hy⟩:=Q2.1 h3;rw [add_off];have:=hi.mem b (o+j') y hy;rw [this,<- hj2];simp [mget,hy])
   simp [execOp,ho,hev,Qw,Qe,this]
  ·intro j q hq;have hjl:j<i.w:=by
    have:=(List.getElem?_eq_some_iff.1 hq).1;omega
   have:=h2 j q hq;simpa [hjl] using this
theorem zWh (hok:yX P te) (h:te t=some i) {vs:Array Value} (hs:vs.size=l.length) (hr:∀ (j:Nat) (q:PV),l[j]? = some q->Rep M q (vs.getD j undef)) 
  (hq:kV i.isAgg l off i.w=some q) (hp:i.ty≠.other) (w:World):∃ x,(part t vs off).run P w=.ok x w/\Rep M q x:=by
 unfold kV at hq;cases hb:i.isAgg with
 | true=>
  simp only [hb,cond_true] at hq;cases hbl:Nat.ble (off+i.w) l.length with
  | false=>simp [hbl] at hq
  | true=>
   simp [hbl] at hq;subst hq;have hle:off+i.w<=l.length:=Nat.le_of_ble_eq_true hbl;refine ⟨.agg (vs.extract off (off+i.w)),by simp [part,zW5 hok h hb,tC hok h],.agg _ _ (by simp;omega) ?_⟩;intro j q hq;rw [List.getElem?_take,List.getElem?_drop] at hq;split at hq
   ·rename_i hj;have:=hr (off+j) q hq;have hlt:off+j<vs.size:=by omega
    have hlt2:j<min (off+i.w) vs.size - off:=by omega
    simpa [hlt,hlt2] using this
   ·cases hq
 | false=>
  simp only [hb,cond_false] at hq;split at hq
  ·cases hq
  ·have hlt:off<l.length:=(List.getElem?_eq_some_iff.1 hq).1;have hlt':off<vs.size:=by omega
   refine ⟨vs[off],by simp [part,zTx hok h hb hp,hlt'],?_⟩;have:=hr off q hq;simpa [hlt'] using this
theorem zQz {i:Int} (hok:yX P te) (ho:o.op=.index t x y) (ht:(te t).map (·.ty)=some (.arr n e)) (he:te e=some ei) (hne:ei.ty≠.other)
  (hx:s.get te t x=some v) (hp:s.rd v=some (.agg l,bs)) (hy:s.get te ity y=some (.p (.int .i64 i))) (h0:0<=i) (hn:i<n) (hq:kV ei.isAgg l (i.toNat*ei.w) ei.w=some q) :
  VA P o s (opS x v++opS y (.p (.int .i64 i))) bs (.p q):=by
 refine ⟨?_,yM (zM hx) (zM hy),uM v _ bs hp⟩;intro cx M κ tip s' a w hi hr hb;have h1:=kE hi hx hp (yI hr) hb;have h2:=rep_int (repA_pv (yF hi (yN hy s' (zZ hr))));have hu:=zIk hok ht;generalize hev:a.eval x=z at h1;cases h1 with
 | agg l vs h3 h4=>
  obtain ⟨y',hy',hr'⟩:=zWh hok he h3 h4 hq hne w;exact ⟨y',by simp [execOp,ho,hev,h2,Instr.index,asIntOf,run_underlying hu,h0,hn,tC hok he,hy'],.p _ _ hr'⟩
theorem zU9 {l:By} {i:Int} {u:UInt8} (hok:yX P te) (ho:o.op=.index t x y) (ht:(te t).map (·.ty)=some .str)
  (hx:s.get te t x=some (.p (.str l))) (hy:s.get te ity y=some (.p (.int .i64 i))) (h0:0<=i) (hq:l[i.toNat]? = some u) :
  VA P o s (opS x (.p (.str l))++opS y (.p (.int .i64 i))) [] (.p (.int .u8 u.toNat)):=by
 refine ⟨?_,yM (zM hx) (zM hy),by simp⟩;intro cx M κ tip s' a w hi hr hb;have h1:=gQ (repA_pv (yF hi (yN hx s' (yI hr))));have h2:=rep_int (repA_pv (yF hi (yN hy s' (zZ hr))));have hu:=zDz hok ht;have hlt:i.toNat<l.length:=(List.getElem?_eq_some_iff.1 hq).1;have hg:(ByteArray.mk l.toArray)[i.toNat]? = some u:=by
  rw [getElem?_pos _ _ (by rw [zIu];exact hlt)];have:=(List.getElem?_eq_some_iff.1 hq).2;simp [<- this,ByteArray.getElem_eq_getElem_data]
 exact ⟨.int .u8 u.toNat,by simp [execOp,ho,h1,h2,Instr.index,asIntOf,run_underlying hu,h0,hg],.p _ _ (.int _ _)⟩
theorem va_extractA {l:List AV} (ho:o.op=.extract x n) (hx:s.get te ty x=some (.tu l)) (hq:l[n]? = some v):VA P o s (opS x (.tu l)) [] v:=by
 refine ⟨?_,zM hx,by simp⟩;intro cx M κ tip s' a w hi hr hb;have h1:=yF hi (yN hx s' hr);generalize hev:a.eval x=z at h1;cases h1 with
 | tu l vs h2 h3=>
  have hlt:n<l.length:=(List.getElem?_eq_some_iff.1 hq).1;have hlt':n<vs.size:=by omega
  refine ⟨vs[n],by simp [execOp,ho,hev,Instr.extract,hlt'],?_⟩;have:=h3 n v hq;simpa [hlt'] using this
end
inductive Bd (s:AS) (te:TE):Option Operand->Option Int->LV->Prop where
 | none:Bd s te none none []
 | some (x:Operand) (k:IntKind) (i:Int):s.get te 0 x=some (.p (.int k i))->Bd s te (some x) (some i) (opS x (.p (.int k i)))
theorem Bd.reads {x:Option Operand} {i:Option Int} (h:Bd s te x i rs):wN s rs:=by
 cases h with
 | none=>intro e he;simp at he
 | some x k i h=>exact zM h
theorem Bd.eval {x:Option Operand} {i:Option Int} (h:Bd s te x i rs) (hi:Inv cx M κ tip s' a w) (hr:wN s' rs) :
  ∃ f:Int->IntKind,x.map a.eval=i.map λn=>.int (f n) n:=by
 cases h with
 | none=>exact ⟨λ_=>.i64,rfl⟩
 | some x k i h=>
  have:=rep_int (repA_pv (yF hi (yN h s' hr)));exact ⟨λ_=>k,by simp [this]⟩
theorem oO (P:Program) (w:World) (k:IntKind) (i:Int) (y:Nat) (c:BoundsCode) (h0:0<=i) (h1:i<=y):(W9 (.int k i) y c).run P w=.ok i.toNat w:=by
 simp [W9,asIntOf,h0,h1]
theorem zAm (P:Program) (w:World) (b:Bool) (len cap:Nat) (lo hi mx:Option Int) (fl fh fm:Int->IntKind) (hmx:mx.isSome=true->hi.isSome=true)
  (h0:0<=lo.getD 0) (h1:lo.getD 0<=hi.getD len) (h2:hi.getD len<=mx.getD cap) (h3:mx.getD cap<=cap) :
  (Qd b len cap (lo.map λn=>.int (fl n) n) (hi.map λn=>.int (fh n) n) (mx.map λn=>.int (fm n) n)).run P w=.ok ((lo.getD 0).toNat,(hi.getD len).toNat,(mx.getD cap).toNat) w:=by
 cases mx with
 | none=>
  cases hi with
  | none=>
   cases lo with
   | none=>simp [Qd]
   | some l=>simp at h0 h1;simp [Qd,oO P w _ l len _ h0 h1]
  | some h=>
   simp at h0 h1 h2;have hh:0<=h:=by omega
   cases lo with
   | none=>simp [Qd,oO P w _ h cap _ hh h2]
   | some l=>
    simp at h0 h1;have hl:l<=(h.toNat:Int):=by omega
    simp [Qd,oO P w _ h cap _ hh h2,oO P w _ l h.toNat _ h0 hl]
 | some m=>
  cases hi with
  | none=>simp at hmx
  | some h=>
   simp at h0 h1 h2 h3;have hh:0<=h:=by omega
   have hm:0<=m:=by omega
   have hh':h<=(m.toNat:Int):=by omega
   cases lo with
   | none=>simp [Qd,oO P w _ m cap _ hm h3,oO P w _ h m.toNat _ hh hh']
   | some l=>
    simp at h0 h1;have hl:l<=(h.toNat:Int):=by omega
    simp [Qd,oO P w _ m cap _ hm h3,oO P w _ h m.toNat _ hh hh',oO P w _ l h.toNat _ h0 hl]
def PV.sub:PV->Nat->Nat->PV
 | .bytes l,a,b=>.bytes ((l.drop a).take (b - a))
 | .sl w l,a,b=>.sl w ((l.drop a).take (b - a))
 | .str l,a,b=>.str ((l.drop a).take (b - a))
 | p,_,_=>p
theorem zX8 (h:p.isSlice=true) {a:Nat} {b o c:Nat} (hr:Rep M p (.slice (some ⟨b,o,none⟩) n c)) (c':Nat):Rep M (p.sub a a) (.slice (some ⟨b,o,none⟩) 0 c'):=by
 cases hr with
 | bytesE a=>simp only [PV.sub,Qn,Qk];exact .bytes [] b o 0 c' rfl (Qz _) (by simp)
 | slE a=>simp only [PV.sub,Qn,Qk];exact .sl 4 [] b o 0 c' rfl (Qz _) (by simp) (by simp) (by simp)
 | bytes l b o n c h1 h2 h3=>simp only [PV.sub,Qn,Qk];exact .bytes [] b o 0 c' rfl (Qz _) (by simp)
 | sl w l b o n c h1 h2 h3 h4 h5=>simp only [PV.sub,Qn,Qk];exact .sl w [] b o 0 c' rfl (Qz _) (by simp) (by simp) (by simp)
theorem zYy (h:p.isSlice=true) {lo hi:Nat} {b o c:Nat} (hr:Rep M p (.slice (some ⟨b,o,none⟩) n c)) (h1:lo<=hi) (h2:hi<=n) (m:Nat) (hm:hi<=m) :
  Rep M (p.sub lo hi) (.slice (some ⟨b,o+lo*p.width,none⟩) (hi - lo) (m - lo)):=by
 cases hr with
 | bytesE a=>
  simp only [PV.sub,PV.width,Nat.mul_one];exact .bytes _ b _ _ _ (by simp;omega) (by omega) (by simp)
 | slE a=>
  simp only [PV.sub,PV.width];exact .sl 4 _ b _ _ _ (by simp;omega) (by omega) (by simp) (by simp) (by simp)
 | bytes l b o n c e1 e2 e3=>
  simp only [PV.sub,PV.width,Nat.mul_one];refine .bytes _ b _ _ _ (by simp;omega) (by omega) ?_;intro i x hx;rw [List.getElem?_take,List.getElem?_drop] at hx;split at hx
  ·rw [Q9];exact e3 _ x hx
  ·cases hx
 | sl w l b o n c e1 e2 e3 e4 e5=>
  simp only [PV.sub,PV.width];refine .sl w _ b _ _ _ (by simp;omega) (by omega) ?_ ?_ ?_
  ·intro i p hp;rw [List.getElem?_take,List.getElem?_drop] at hp;split at hp
   ·exact e3 _ p hp
   ·cases hp
  ·intro i p j q hp hq;rw [List.getElem?_take,List.getElem?_drop] at hp;split at hp
   ·have:=e4 _ p j q hp hq;rw [Q9,<- Q9 (lo*w),<- Nat.add_mul];exact this
   ·cases hp
  ·intro i p j q hp hq;rw [List.getElem?_take,List.getElem?_drop] at hp;split at hp
   ·have:=e5 _ p j q hp hq;rw [Q9,<- Q9 (lo*w),<- Nat.add_mul];exact this
   ·cases hp
theorem kL {x:Value} (h:Rep M p x) (hs:p.isSlice=true):(x=.slice none 0 0/\p.len=0)∨(∃ b o n c,x=.slice (some ⟨b,o,none⟩) n c/\n=p.len/\n<=c)∨∃ a,x=.slice (some a) 0 0/\(p=.bytes []∨p=.sl 4 []):=by
 cases h<;>simp [PV.isSlice] at hs
 ·exact .inl ⟨rfl,rfl⟩
 ·exact .inr (.inr ⟨_,rfl,.inl rfl⟩)
 ·rename_i l b o n c h1 h2 h3;exact .inr (.inl ⟨b,o,n,c,rfl,h1,h2⟩)
 ·exact .inl ⟨rfl,rfl⟩
 ·exact .inr (.inr ⟨_,rfl,.inr rfl⟩)
 ·rename_i w l b o n c h1 h2 h3 h4 h5;exact .inr (.inl ⟨b,o,n,c,rfl,h1,h2⟩)
section
theorem zY1 (hs:p.isSlice=true) (hl:p.len=0) :Rep M (p.sub 0 0) (.slice none 0 0):=by
 cases p with
 | bytes l=>simp only [PV.sub,Qn,Qk];exact .bytes0
 | sl w l=>simp only [PV.sub,Qn,Qk];exact .sl0 w
 | _=>simp [PV.isSlice] at hs
theorem zQ8 {lo hi mx:Option Operand} {lo' hi' mx':Option Int} {rl rh rm:LV} (hok:yX P te) (ho:o.op=.slice t x lo hi mx)
  (ht:(te t).map (·.ty)=some (.slice e)) (he:te e=some ei) (hx:s.get te t x=some v) (hp:s.rd v=some (p,bs)) (hsl:p.isSlice=true) (hw:p.width=ei.w)
  (hlo:Bd s te lo lo' rl) (hhi:Bd s te hi hi' rh) (hmx:Bd s te mx mx' rm) (hm:mx'.isSome=true->hi'.isSome=true)
  (h0:0<=lo'.getD 0) (h1:lo'.getD 0<=hi'.getD p.len) (h2:hi'.getD p.len<=mx'.getD p.len) (h3:mx'.getD p.len<=p.len) :
  VA P o s (opS x v++(rl++(rh++rm))) bs (.p (p.sub (lo'.getD 0).toNat (hi'.getD p.len).toNat)):=by
 refine ⟨?_,yM (zM hx) (yM hlo.reads (yM hhi.reads hmx.reads)),uM v p bs hp⟩;intro cx M κ tip s' a w hin hr hb;have h4:=kE hin hx hp (yI hr) hb;obtain ⟨fl,hfl⟩:=hlo.eval hin (yI (zZ hr));obtain ⟨fh,hfh⟩:=hhi.eval hin (yI (zZ (zZ hr)));obtain ⟨fm,hfm⟩:=hmx.eval hin (zZ (zZ (zZ hr)));have hu:=xA hok ht;have hsz:=tC hok he w;rcases kL h4 hsl with ⟨hxe,hl⟩ | ⟨b,off,n,c,hxe,hn,hc⟩ | ⟨aa,hxe,hpe⟩
 ·rw [hl] at h1 h2 h3;have hb0:=zAm P w true 0 0 lo' hi' mx' fl fh fm hm h0 (by simpa using h1) (by simpa using h2) (by simpa using h3);have e1:(lo'.getD 0).toNat=0:=by simp at h1 h2 h3;omega
  have e2:(hi'.getD (0:Nat)).toNat=0:=by simp at h1 h2 h3;simp;omega
  have e3:(mx'.getD (0:Nat)).toNat=0:=by simp at h1 h2 h3;simp;omega
  rw [e1,e2,e3] at hb0;refine ⟨.slice none 0 0,?_,.p _ _ ?_⟩
  ·simp [execOp,ho,hxe,Qu,W0,run_underlying hu,hfl,hfh,hfm,hb0,hsz]
  ·rw [hl,e1,e2];exact zY1 hsl hl
 ·have h3':mx'.getD (c:Int)<=c:=by cases mx' with | none=>simp | some m=>simp at h3 ⊢;omega
  have h2':hi'.getD (n:Int)<=mx'.getD c:=by
   rw [hn];cases mx' with
   | none=>simp at h2 ⊢;omega
   | some m=>simpa using h2
  have hb0:=zAm P w true n c lo' hi' mx' fl fh fm hm h0 (by rw [hn];exact h1) h2' h3';rw [<- hn] at h1 h2 h3;have hlh:(lo'.getD 0).toNat<=(hi'.getD (n:Int)).toNat:=by omega
  have hhn:(hi'.getD (n:Int)).toNat<=n:=by omega
  have hhm:(hi'.getD (n:Int)).toNat<=(mx'.getD (c:Int)).toNat:=by omega
  rw [hxe] at h4;by_cases hml:(mx'.getD (c:Int)).toNat=(lo'.getD 0).toNat
  ·have:(hi'.getD (n:Int)).toNat=(lo'.getD 0).toNat:=by omega
   refine ⟨.slice (some ⟨b,off,none⟩) 0 ((mx'.getD (c:Int)).toNat - (lo'.getD 0).toNat),?_,.p _ _ ?_⟩
   ·simp [execOp,ho,hxe,Qu,W0,run_underlying hu,hfl,hfh,hfm,hb0,hsz,hml,this]
   ·rw [<- hn,this];exact zX8 hsl h4 _
  ·refine ⟨.slice (some ⟨b,off+(lo'.getD 0).toNat*p.width,none⟩) ((hi'.getD (n:Int)).toNat - (lo'.getD 0).toNat) ((mx'.getD (c:Int)).toNat - (lo'.getD 0).toNat),?_,.p _ _ ?_⟩
   ·rw [hw];simp [execOp,ho,hxe,Qu,W0,run_underlying hu,hfl,hfh,hfm,hb0,hsz,hml,add_off]
   ·rw [<- hn];exact zYy hsl h4 hlh hhn _ hhm
 ·have hl:p.len=0:=by rcases hpe with rfl | rfl<;>rfl
  rw [hl] at h1 h2 h3;have hb0:=zAm P w true 0 0 lo' hi' mx' fl fh fm hm h0 (by simpa using h1) (by simpa using h2) (by simpa using h3);have e1:(lo'.getD 0).toNat=0:=by simp at h1 h2 h3;omega
  have e2:(hi'.getD (0:Nat)).toNat=0:=by simp at h1 h2 h3;simp;omega
  have e3:(mx'.getD (0:Nat)).toNat=0:=by simp at h1 h2 h3;simp;omega
  rw [e1,e2,e3] at hb0;refine ⟨.slice (some aa) 0 0,?_,.p _ _ ?_⟩
  ·simp [execOp,ho,hxe,Qu,W0,run_underlying hu,hfl,hfh,hfm,hb0,hsz]
  ·rw [hl,e1,e2];rcases hpe with rfl | rfl;exact .bytesE aa;exact .slE aa
theorem zTk {l:By} {b o:Nat} (h3:∀ (i:Nat) (x:UInt8),l[i]? = some x->M b (o+i)=some (.int .u8 x.toNat)) (hm:∀ b o x,M b o=some x->w.cell? ⟨b,o,none⟩=some x) :
  ∀ (j:Nat) (u:Value),(l.map λx=>Value.int .u8 x.toNat)[j]? = some u->w.cell? ((⟨b,o,none⟩:Addr).add j)=some u:=by
 intro j u hu;rw [List.getElem?_map] at hu;obtain ⟨x,h1,h2⟩:=Q0.1 hu;rw [add_off,<- h2];exact hm _ _ _ (h3 j x h1)
theorem zPw:∀ (l:By) (r:ByteArray),(l.map λu=>(u.toNat:Int)).foldl (λr n=>r.push (UInt8.ofNat n.toNat)) r=⟨r.data++l.toArray⟩
 | [],r=>by simp
 | u :: l,r=>by
  simp only [Qt,Qi];rw [zPw l];apply ByteArray.ext;simp [ByteArray.push]
theorem zYc {l:By} {x:Value} (h:Rep M (.bytes l) x) (hm:∀ b o x,M b o=some x->w.cell? ⟨b,o,none⟩=some x):(Conv.bytesToString x).run P w=.ok (.string ⟨l.toArray⟩) w:=by
 cases h with
 | bytes0=>simp [Conv.bytesToString];rfl
 | bytesE a=>
  have h4:=run_loadCells_list (P:=P) w a ([]:List Value) (by simp);have:=run_bytesToString (P:=P) w a 0 0 [] (by simpa using h4);rw [this];rfl
 | bytes l b o n c h1 h2 h3=>
  have h4:=run_loadCells_list (P:=P) w ⟨b,o,none⟩ _ (zTk h3 hm);have:=run_bytesToString (P:=P) w ⟨b,o,none⟩ n c (l.map λu=>(u.toNat:Int)) (by simpa [h1,Function.comp_def] using h4);rw [this,zPw];have he:ByteArray.empty.data=#[]:=rfl;simp [he]
theorem va_bts {l:By} (hok:yX P te) (ho:o.op=.convert src dst x) (hs:(te src).map (·.ty)=some (.slice e)) (he:(te e).map (·.ty)=some (.int .u8)) (hd:(te dst).map (·.ty)=some .str)
  (hx:s.get te src x=some v) (hp:s.rd v=some (.bytes l,bs)):VA P o s (opS x v) bs (.p (.str l)):=by
 refine ⟨?_,zM hx,uM v _ bs hp⟩;intro cx M κ tip s' a w hin hr hb;have h4:=kE hin hx hp hr hb;have h5:=zYc (P:=P) h4 hin.mem;refine ⟨.string ⟨l.toArray⟩,?_,.p _ _ (.str _)⟩;rcases kL h4 rfl with ⟨hxe,hl⟩ | ⟨b,off,n,c,hxe,hn,hc⟩ | ⟨aa,hxe,hpe⟩
 ·rw [hxe] at h5;simp [execOp,ho,hxe,run_convert_bytes_string w src dst e none 0 0 (xA hok hs) (zG2 hok he) (zDz hok hd),h5]
 ·rw [hxe] at h5;simp [execOp,ho,hxe,run_convert_bytes_string w src dst e _ n c (xA hok hs) (zG2 hok he) (zDz hok hd),h5]
 ·rw [hxe] at h5;simp [execOp,ho,hxe,run_convert_bytes_string w src dst e _ 0 0 (xA hok hs) (zG2 hok he) (zDz hok hd),h5]
theorem yCv {t':TypeId} {a:Int} (ho:o.op=.call { callee:=.builtin .min,args:=#[x,y],argTypes:=#[t,t'] }) (hx:s.get te t x=some (.p (.int k a))) (hy:s.get te t' y=some (.p (.int k b))) :
  VA P o s (opS x (.p (.int k a))++opS y (.p (.int k b))) [] (.p (.int k (if b<a then b else a))):=by
 refine ⟨?_,yM (zM hx) (zM hy),by simp⟩;intro cx M κ tip s' ac w hi hr _;have h1:=rep_int (repA_pv (yF hi (yN hx s' (yI hr))));have h2:=rep_int (repA_pv (yF hi (yN hy s' (zZ hr))));refine ⟨.int k (if b<a then b else a),?_,.p _ _ (.int _ _)⟩;simp [execOp,ho,h1,h2,resolve,invoke,builtin,Builtin.min_,Builtin.min2]
def zA (c:PV):AV:=bif c.nilOf then .nl c else .p c
theorem yCg {c:PV} (h:c.zok=true):RepA M κ tip B (zA c) (zv c):=by
 unfold PV.zok at h;split at h<;>first | (cases h;done) | skip
 ·exact .p _ _ (.bool _)
 ·exact .p _ _ (.int _ _)
 ·exact .p _ _ (.str _)
 ·exact .nl _ rfl
 ·exact .nl _ rfl
 ·exact .p _ _ .nilp
 ·exact .p _ _ .err0
def AV.cells:AV->List AV
 | .ag l=>l
 | .p (.agg l)=>l.map .p
 | v=>[v]
theorem aN {x:Value} (h:RepA M κ tip B v x) :
  x.cells.size=v.cells.length/\∀ (j:Nat) (q:AV),v.cells[j]? = some q->RepA M κ tip B q (x.cells.getD j undef):=by
 have one:∀ (v:AV) (x:Value),RepA M κ tip B v x->v.cells=[v]->x.cells=#[x]->x.cells.size=v.cells.length/\∀ (j:Nat) (q:AV),v.cells[j]? = some q->RepA M κ tip B q (x.cells.getD j undef):=by
  intro v x h h1 h2;rw [h1,h2];refine ⟨rfl,λj q hq=>?_⟩;cases j with
  | zero=>simp at hq;subst hq;simpa using h
  | succ j=>simp at hq
 cases h with
 | p p x hr=>
  cases hr with
  | agg l vs h1 h2=>
   simp only [AV.cells,Value.cells];refine ⟨by simp [h1],λj q hq=>?_⟩;rw [List.getElem?_map] at hq;obtain ⟨p,h3,h4⟩:=Q0.1 hq;subst h4;exact .p _ _ (h2 j p h3)
  | bool b=>exact one _ _ (.p _ _ (.bool b)) rfl rfl
  | int k n=>exact one _ _ (.p _ _ (.int k n)) rfl rfl
  | str s=>exact one _ _ (.p _ _ (.str s)) rfl rfl
  | bytes0=>exact one _ _ (.p _ _ .bytes0) rfl rfl
  | bytesE a=>exact one _ _ (.p _ _ (.bytesE a)) rfl rfl
  | bytes l b o n c h1 h2 h3=>exact one _ _ (.p _ _ (.bytes l b o n c h1 h2 h3)) rfl rfl
  | sl0 w=>exact one _ _ (.p _ _ (.sl0 w)) rfl rfl
  | slE a=>exact one _ _ (.p _ _ (.slE a)) rfl rfl
  | sl w l b o n c h1 h2 h3 h4 h5=>exact one _ _ (.p _ _ (.sl w l b o n c h1 h2 h3 h4 h5)) rfl rfl
  | tup l vs h1 h2=>exact one _ _ (.p _ _ (.tup l vs h1 h2)) rfl rfl
  | cptr p b o h1 h2=>exact one _ _ (.p _ _ (.cptr p b o h1 h2)) rfl rfl
  | nilp=>exact one _ _ (.p _ _ .nilp) rfl rfl
  | fn f fs cs vf vc h1 h2 h3 h4=>exact one _ _ (.p _ _ (.fn f fs cs vf vc h1 h2 h3 h4)) rfl rfl
  | err0=>exact one _ _ (.p _ _ .err0) rfl rfl
  | err1 t v=>exact one _ _ (.p _ _ (.err1 t v)) rfl rfl
 | nl c h1=>exact one _ _ (.nl c h1) rfl rfl
 | ptr k o b l h1 h2=>exact one _ _ (.ptr k o b l h1 h2) rfl rfl
 | ref k o n b l h1 h2=>exact one _ _ (.ref k o n b l h1 h2) rfl rfl
 | buf k n c x h1 hs h2 h3 h4=>
  refine one _ _ (.buf k n c x h1 hs h2 h3 h4) rfl ?_;have hs':(c.take n).isSlice=true:=by cases c<;>simp_all [PV.take,PV.isSlice]
  rcases kL h3 hs' with ⟨hx,_⟩ | ⟨b,o,m,cc,hx,_⟩ | ⟨aa,hx,_⟩<;>rw [hx]<;>rfl
 | ag l vs h1 h2=>exact ⟨h1,h2⟩
 | tu l vs h1 h2=>exact one _ _ (.tu l vs h1 h2) rfl rfl
 | fnv f l vs h1 h2=>exact one _ _ (.fnv f l vs h1 h2) rfl (by unfold mkF;cases Wb f 1000000<;>rfl)
 | own k n w l x h1 h2 h3 hs=>exact one _ _ (.own k n w l x h1 h2 h3 hs) rfl (by obtain ⟨a,m,c,rfl⟩:=hs;rfl)
 | optr k n o w l x h1 h2 h3 hs=>exact one _ _ (.optr k n o w l x h1 h2 h3 hs) rfl (by obtain ⟨a,rfl⟩:=hs;rfl)
 | osl k n o m w l x h1 h2 h3 hs=>exact one _ _ (.osl k n o m w l x h1 h2 h3 hs) rfl (by obtain ⟨a,m',c,rfl⟩:=hs;rfl)
end
end Go.Sw
