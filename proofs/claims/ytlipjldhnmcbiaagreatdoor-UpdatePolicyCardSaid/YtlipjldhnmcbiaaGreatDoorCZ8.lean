/- UpdatePolicy holds for all inputs -/
import Derived.Shelf.LaysM
import Derived.Shelf.Strconv.Itoa3
import Derived.Shelf.Bytes.SlClone
import Derived.Shelf.SlicesE.Clone
import Derived.Shelf.SlicesE.DeleteFunc
import Derived.Test.YtlipjldhnmcbiaaGreatDoorProg
import Derived.Test.YtlipjldhnmcbiaaGreatDoorCZ7
import Derived.Test.YtlipjldhnmcbiaaGreatDoorCZ5
import Derived.Lib.LaidTab
import Derived.Test.YtlipjldhnmcbiaaGreatDoorCZ4
import Derived.Lib.LazyBuf
import Derived.KernelRfl
set_option linter.all false
namespace Go.Proofs
open Go.Shelf
def Tryz.laysM171_ren:Go.Shelf.Ren:=⟨fun | 171=>197 | 243=>226 | 246=>252 | 283=>289 | 284=>290 | 285=>291 | 286=>292 | 129=>353 | 317=>352 | 318=>354 | 319=>355 | 320=>356 | 337=>386 | 338=>387 | n=>n,fun | 3=>3 | 9=>9 | 2=>2 | 4=>4 | 171=>344 | 0=>0 | 53=>134 | 37=>22 | 5=>5 | 173=>347 | 212=>408 | 51=>252 | 20=>20 | 213=>409 | 46=>135 | 232=>448 | 233=>449 | n=>n,fun | 17=>5 | 18=>6 | 19=>7 | n=>n⟩
theorem Tryz.laysM171:Go.Proofs.LaysM.n171 Tryz.prog Tryz.laysM171_ren:={
 mixed:=by kernel_rfl
 f129:=Tryz.func353.trans (congrArg some (by kernel_rfl))
 f171:=Tryz.func197.trans (congrArg some (by kernel_rfl))
 f243:=Tryz.func226.trans (congrArg some (by kernel_rfl))
 f246:=Tryz.func252.trans (congrArg some (by kernel_rfl))
 f283:=Tryz.func289.trans (congrArg some (by kernel_rfl))
 f284:=Tryz.func290.trans (congrArg some (by kernel_rfl))
 f285:=Tryz.func291.trans (congrArg some (by kernel_rfl))
 f286:=Tryz.func292.trans (congrArg some (by kernel_rfl))
 f317:=Tryz.func352.trans (congrArg some (by kernel_rfl))
 f318:=Tryz.func354.trans (congrArg some (by kernel_rfl))
 f319:=Tryz.func355.trans (congrArg some (by kernel_rfl))
 f320:=Tryz.func356.trans (congrArg some (by kernel_rfl))
 f337:=Tryz.func386.trans (congrArg some (by kernel_rfl))
 f338:=Tryz.func387.trans (congrArg some (by kernel_rfl))
 t0:=Tryz.underlying0
 a0:=Tryz.isAgg0
 z0:=Tryz.sizeOf0
 v0:=Tryz.zeroValue0
 t2:=Tryz.underlying2
 a2:=Tryz.isAgg2
 z2:=Tryz.sizeOf2
 v2:=Tryz.zeroValue2
 t3:=Tryz.underlying3
 a3:=Tryz.isAgg3
 z3:=Tryz.sizeOf3
 v3:=Tryz.zeroValue3
 t4:=Tryz.underlying4
 a4:=Tryz.isAgg4
 z4:=Tryz.sizeOf4
 v4:=Tryz.zeroValue4
 t5:=Tryz.underlying5
 a5:=Tryz.isAgg5
 z5:=Tryz.sizeOf5
 v5:=Tryz.zeroValue5
 t9:=Tryz.underlying9
 a9:=Tryz.isAgg9
 z9:=Tryz.sizeOf9
 v9:=Tryz.zeroValue9
 t20:=Tryz.underlying20
 a20:=Tryz.isAgg20
 z20:=Tryz.sizeOf20
 v20:=Tryz.zeroValue20
 t37:=Tryz.underlying22
 a37:=Tryz.isAgg22
 z37:=Tryz.sizeOf22
 v37:=Tryz.zeroValue22
 t46:=Tryz.underlying135
 a46:=Tryz.isAgg135
 z46:=Tryz.sizeOf135
 v46:=Tryz.zeroValue135
 t51:=Tryz.underlying252
 a51:=Tryz.isAgg252
 z51:=Tryz.sizeOf252
 v51:=Tryz.zeroValue252
 t53:=Tryz.underlying134
 a53:=Tryz.isAgg134
 z53:=Tryz.sizeOf134
 v53:=Tryz.zeroValue134
 t171:=Tryz.underlying344
 a171:=Tryz.isAgg344
 z171:=Tryz.sizeOf344
 v171:=Tryz.zeroValue344
 t173:=Tryz.underlying347
 a173:=Tryz.isAgg347
 z173:=Tryz.sizeOf347
 v173:=Tryz.zeroValue347
 t212:=Tryz.underlying408
 a212:=Tryz.isAgg408
 z212:=Tryz.sizeOf408
 v212:=Tryz.zeroValue408
 t213:=Tryz.underlying409
 a213:=Tryz.isAgg409
 z213:=Tryz.sizeOf409
 t232:=Tryz.underlying448
 a232:=Tryz.isAgg448
 z232:=Tryz.sizeOf448
 v232:=Tryz.zeroValue448
 t233:=Tryz.underlying449
 a233:=Tryz.isAgg449
 z233:=Tryz.sizeOf449
 v233:=Tryz.zeroValue449
 g17:=by kernel_rfl
 g18:=by kernel_rfl
 g19:=by kernel_rfl
 i0:=by kernel_rfl
 i2:=by kernel_rfl
 i3:=by kernel_rfl
 i4:=by kernel_rfl
 i5:=by kernel_rfl
 i9:=by kernel_rfl
 i20:=by kernel_rfl
 i37:=by kernel_rfl
 i46:=by kernel_rfl
 i51:=by kernel_rfl
 i53:=by kernel_rfl
 i171:=by kernel_rfl
 i173:=by kernel_rfl
 i212:=by kernel_rfl
 i232:=by kernel_rfl
 i233:=by kernel_rfl
 m17:=by kernel_rfl
 m18:=by kernel_rfl
 m19:=by kernel_rfl }
def Tryz.laysSlK4_ren:Go.Shelf.Ren:=⟨fun | 4=>146 | n=>n,fun | 22=>22 | 4=>4 | 5=>5 | n=>n,fun | n=>n⟩
theorem Tryz.laysSlK4:Go.Proofs.SlLaysK.n4 Tryz.prog Tryz.laysSlK4_ren:={
 mixed:=by kernel_rfl
 f4:=Tryz.func146.trans (congrArg some (by kernel_rfl))
 t4:=Tryz.underlying4
 a4:=Tryz.isAgg4
 z4:=Tryz.sizeOf4
 v4:=Tryz.zeroValue4
 t22:=Tryz.underlying22
 a22:=Tryz.isAgg22
 z22:=Tryz.sizeOf22
 v22:=Tryz.zeroValue22
 t5:=Tryz.underlying5
 i5:=by kernel_rfl }
def Tryz.laysSlE041_f287_ren:Go.Shelf.Ren:=⟨fun | 41=>287 | n=>n,fun | 22=>49 | 23=>333 | 4=>4 | n=>n,fun | n=>n⟩
theorem Tryz.laysSlE041_f287:Go.Proofs.SlLaysE0.n41 Tryz.prog Tryz.laysSlE041_f287_ren:={
 mixed:=by kernel_rfl
 f41:=⟨Tryz.f287.name,by decide,Tryz.func287.trans (congrArg some (by kernel_rfl))⟩
 t4:=Tryz.underlying4
 a4:=Tryz.isAgg4
 z4:=Tryz.sizeOf4
 v4:=Tryz.zeroValue4
 t22:=Tryz.underlying49
 a22:=Tryz.isAgg49
 z22:=Tryz.sizeOf49
 v22:=Tryz.zeroValue49 }
def Tryz.laysSlE041_f304_ren:Go.Shelf.Ren:=⟨fun | 41=>304 | n=>n,fun | 22=>50 | 23=>227 | 4=>4 | n=>n,fun | n=>n⟩
theorem Tryz.laysSlE041_f304:Go.Proofs.SlLaysE0.n41 Tryz.prog Tryz.laysSlE041_f304_ren:={
 mixed:=by kernel_rfl
 f41:=⟨Tryz.f304.name,by decide,Tryz.func304.trans (congrArg some (by kernel_rfl))⟩
 t4:=Tryz.underlying4
 a4:=Tryz.isAgg4
 z4:=Tryz.sizeOf4
 v4:=Tryz.zeroValue4
 t22:=Tryz.underlying50
 a22:=Tryz.isAgg50
 z22:=Tryz.sizeOf50
 v22:=Tryz.zeroValue50 }
def Tryz.laysSlE041_f337_ren:Go.Shelf.Ren:=⟨fun | 41=>337 | n=>n,fun | 22=>43 | 23=>30 | 4=>4 | n=>n,fun | n=>n⟩
theorem Tryz.laysSlE041_f337:Go.Proofs.SlLaysE0.n41 Tryz.prog Tryz.laysSlE041_f337_ren:={
 mixed:=by kernel_rfl
 f41:=⟨Tryz.f337.name,by decide,Tryz.func337.trans (congrArg some (by kernel_rfl))⟩
 t4:=Tryz.underlying4
 a4:=Tryz.isAgg4
 z4:=Tryz.sizeOf4
 v4:=Tryz.zeroValue4
 t22:=Tryz.underlying43
 a22:=Tryz.isAgg43
 z22:=Tryz.sizeOf43
 v22:=Tryz.zeroValue43 }
def Tryz.laysSlE041_f406_ren:Go.Shelf.Ren:=⟨fun | 41=>406 | n=>n,fun | 22=>46 | 23=>200 | 4=>4 | n=>n,fun | n=>n⟩
theorem Tryz.laysSlE041_f406:Go.Proofs.SlLaysE0.n41 Tryz.prog Tryz.laysSlE041_f406_ren:={
 mixed:=by kernel_rfl
 f41:=⟨Tryz.f406.name,by decide,Tryz.func406.trans (congrArg some (by kernel_rfl))⟩
 t4:=Tryz.underlying4
 a4:=Tryz.isAgg4
 z4:=Tryz.sizeOf4
 v4:=Tryz.zeroValue4
 t22:=Tryz.underlying46
 a22:=Tryz.isAgg46
 z22:=Tryz.sizeOf46
 v22:=Tryz.zeroValue46 }
def Tryz.laysSlH10_f194_ren:Go.Shelf.Ren:=⟨fun | 10=>194 | 6=>225 | n=>n,fun | 22=>51 | 23=>3 | 25=>191 | 3=>3 | 4=>4 | 0=>0 | n=>n,fun | n=>n⟩
theorem Tryz.laysSlH10_f194:Go.Proofs.SlLaysH.n10 Tryz.prog Tryz.laysSlH10_f194_ren:={
 mixed:=by kernel_rfl
 f6:=⟨Tryz.f225.name,by decide,Tryz.func225.trans (congrArg some (by kernel_rfl))⟩
 f10:=⟨Tryz.f194.name,by decide,Tryz.func194.trans (congrArg some (by kernel_rfl))⟩
 t0:=Tryz.underlying0
 a0:=Tryz.isAgg0
 z0:=Tryz.sizeOf0
 v0:=Tryz.zeroValue0
 t3:=Tryz.underlying3
 a3:=Tryz.isAgg3
 z3:=Tryz.sizeOf3
 v3:=Tryz.zeroValue3
 t4:=Tryz.underlying4
 a4:=Tryz.isAgg4
 z4:=Tryz.sizeOf4
 v4:=Tryz.zeroValue4
 t22:=Tryz.underlying51
 a22:=Tryz.isAgg51
 z22:=Tryz.sizeOf51
 v22:=Tryz.zeroValue51
 a23:=Tryz.isAgg3
 z23:=Tryz.sizeOf3
 t25:=Tryz.underlying191
 a25:=Tryz.isAgg191
 z25:=Tryz.sizeOf191
 v25:=Tryz.zeroValue191 }
end Go.Proofs
namespace Go.Proofs.H
open Go Go.Sw Go.Proofs Go.Proofs.TT
theorem decF_eq:∀ (f u:Nat),u<10 ^ f->0<f->decF f u=Lib.decDigits u
 | 0,_,_,h=>by omega
 | f+1,u,h,_=>by
  rw [decF,Lib.decDigits]
  by_cases hu:u<10
  ·have:Nat.blt u 10=true:=by simp [Nat.blt_eq,hu]
   rw [this,dif_pos hu];rfl
  ·have:Nat.blt u 10=false:=by
    rw [Bool.eq_false_iff];intro e;rw [Nat.blt_eq] at e;exact hu e
   rw [this,dif_neg hu]
   have hf:0<f:=by
    cases f with
    | zero=>simp at h;omega
    | succ f=>omega
   have hd:u / 10<10 ^ f:=by
    rw [Nat.pow_succ] at h
    exact Nat.div_lt_of_lt_mul (by omega)
   show decF f (u / 10)++_=_
   rw [decF_eq f (u / 10) hd hf]
theorem tab_of {w:World} {M:Mem} (hg:GlobOk w M) (hm:∀ b o x,M b o=some x->w.cell? ⟨b,o,none⟩=some x):Lib.TabIs Tryz.prog w "internal/strconv.uint64pow10" .u64 Lib.pow10Tab:=by
 obtain ⟨h0,arr,e,fz,h1,h2⟩:=hg.2 5 gp_internal_strconv_uint64pow10 rfl
 have hlen:gp_internal_strconv_uint64pow10.cells.length=20:=rfl
 rw [hlen] at h2
 have hn:Tryz.prog.globalNamed "internal/strconv.uint64pow10" = some 5:=by kernel_rfl
 have ht:Lib.pow10Tab=gd_internal_strconv_uint64pow10:=by decide
 unfold Lib.TabIs World.var?
 rw [hn,ht]
 simp only [Option.bind_some,h1]
 have harr:arr=(gd_internal_strconv_uint64pow10.map λz=>Value.int .u64 z).toArray:=by
  apply Array.ext
  ·rw [h2];rfl
  ·intro i hi1 hi2
   have hi:i<gd_internal_strconv_uint64pow10.length:=by simpa using hi2
   cases hg.1 5 gp_internal_strconv_uint64pow10 rfl with
   | cptr _ _ _ h3 h4=>
    have hc:gp_internal_strconv_uint64pow10.cells[i]? = some (.int .u64 gd_internal_strconv_uint64pow10[i]):=by
     show (gd_internal_strconv_uint64pow10.map (PV.int .u64))[i]? = _
     rw [List.getElem?_map,List.getElem?_eq_getElem hi];rfl
    have h5:=h3 i _ hc
    have h6:=h4 i _ hc
    obtain ⟨x,hx⟩:=Option.isSome_iff_exists.1 h5
    have hx2:mget M 5 (0+i)=x:=by unfold mget;rw [hx];rfl
    rw [hx2] at h6
    have hx3:=rep_int h6
    have hcell:=hm _ _ _ hx
    simp only [World.cell?,h1,Nat.zero_add] at hcell
    have:arr[i]? = some x:=by simpa using hcell
    rw [Array.getElem?_eq_getElem hi1] at this
    have e1:=Option.some.inj this
    rw [e1,hx3]
    simp
 rw [harr]
theorem itoa_ok {n:Int} {r:List UInt8} (h:strconv_Itoa n=some r):Ok Tryz.prog 197 1 (mkS (argE 0 [.int .i64 n]) []) (mkS [(0,.p (.str r))] []):=by
 unfold strconv_Itoa at h
 rcases cond_some h with ⟨hc,h⟩ | ⟨_,h⟩
 ·cases h
  simp only [Bool.and_eq_true,decide_eq_true_eq] at hc
  have hr:decF 20 n.toNat=Lib.itoa n:=by
   rw [decF_eq 20 n.toNat (by omega) (by omega),Lib.itoa,if_neg (by omega)]
  rw [hr]
  refine ok_handG (ps:=[.int .i64 n]) ⟨_,Tryz.func197,by kernel_rfl,by kernel_rfl⟩ λw M args hg hm hs ha=>?_
  have hx:=ha 0 _ rfl
  have e0:=rep_int hx
  obtain rfl:args=#[.int .i64 n]:=by
   obtain ⟨l⟩:=args
   match l,hs with
   | [x],_=>simp at e0;rw [e0]
  refine (Any.strconv_Itoa Tryz.laysM171 n (by omega) (by omega) w (tab_of hg hm)).mono λe w' ⟨he,k,os,hw⟩ =>⟨_,M,he,?_⟩
  subst hw
  refine ⟨rfl,rfl,rfl,by simp [Sort.grow,World.drewN],λb hb=>?_,λ_ _ _ h=>h,λb o x hx=>?_,λ_ _ _=>rfl,.p _ _ (.str _)⟩
  ·exact Sort.heap_grow_old _ _ hb
  ·have:=hm b o x hx
   have hb:b<w.heap.size:=World.block_lt_of_cell? w _ this
   rw [Sort.cell?_grow _ _ _ hb]
   exact this
 ·cases h
theorem clone_ok {b r:List UInt8} (h:bytes_Clone b=some r):Ok Tryz.prog 146 1 (mkS (argE 0 [.bytes b]) []) (mkS [(0,qY r)] []):=by
 unfold bytes_Clone at h
 rcases cond_some h with ⟨hb,h⟩ | ⟨_,h⟩
 case inr=>cases h
 cases h
 refine ok_hand (ps:=[.bytes b]) ⟨_,Tryz.func146,by kernel_rfl,by kernel_rfl⟩ λw M args hm hs hr=>?_
 have h0:=hr 0 _ rfl
 obtain ⟨al⟩:=args
 match al,hs,h0 with
 | [a0],_,h0=>
 simp at h0
 cases h0 with
 | bytes0=>
  refine (Any.bytes_Clone_nil Tryz.laysSlK4 0 0 w).mono ?_
  rintro e w' ⟨rfl,rfl⟩
  exact ⟨_,M,rfl,rfl,rfl,rfl,Nat.le_refl _,λ_ _=>rfl,Mem.le_refl M,hm,λ_ _ _=>rfl,.bytes0⟩
 | bytesE aa=>
  refine (Any.bytes_Clone_at Tryz.laysSlK4 aa 0 0 [] w rfl (by decide) (λi hi=>absurd hi (by omega))).mono ?_
  rintro e w' ⟨v',rfl,⟨hl,hv⟩,_,hbel⟩
  have hk:∀ b o x,M b o=some x->w'.cell? ⟨b,o,none⟩=some x:=λb o x hx=>by
   have h1:=hm b o x hx
   have hlt:=World.block_lt_of_cell? w _ h1
   rw [World.cell?_of_block (hbel.block b hlt)]
   exact h1
  rcases hv with ⟨rfl,hn0⟩ | ⟨g,cap,cur,rfl,hg1,hg2,hc1,hc2,hc3,hc4⟩
  ·exact ⟨_,M,rfl,hbel.os,hbel.tape,hbel.output,hbel.size,hbel.block,Mem.le_refl M,hk,λ_ _ _=>rfl,.bytes0⟩
  ·exact ⟨_,M,rfl,hbel.os,hbel.tape,hbel.output,hbel.size,hbel.block,Mem.le_refl M,hk,λ_ _ _=>rfl,.bytes [] g 0 0 cap rfl (Nat.zero_le _) (by simp)⟩
 | bytes _ b0 o n c g1 g2 g3=>
  have hn:n<=140737488355328:=by rw [g1];exact Nat.le_of_ble_eq_true hb
  refine (Any.bytes_Clone_at Tryz.laysSlK4 ⟨b0,o,none⟩ n c (b.map λx=>(x.toNat:Int)) w (by simp [g1]) hn (λi hi=>?_)).mono ?_
  ·have hlt:i<b.length:=by omega
   rw [Sw.add_off]
   refine (hm _ _ _ (g3 i b[i] (List.getElem?_eq_getElem hlt))).trans ?_
   simp [List.getD_eq_getElem?_getD,hlt]
  ·rintro e w' ⟨v',rfl,⟨hl,hv⟩,_,hbel⟩
   rcases hv with ⟨rfl,hn0⟩ | ⟨g,cap,cur,rfl,hg1,hg2,hc1,hc2,hc3,hc4⟩
   ·have:b=[]:=List.eq_nil_of_length_eq_zero (by omega)
    subst this
    exact ⟨_,M,rfl,hbel.os,hbel.tape,hbel.output,hbel.size,hbel.block,Mem.le_refl M,λb o x hx=>by
     have h1:=hm b o x hx
     have hlt:=World.block_lt_of_cell? w _ h1
     rw [World.cell?_of_block (hbel.block b hlt)]
     exact h1,λ_ _ _=>rfl,.bytes0⟩
   ·have hnone:∀ o,M g o=none:=λo=>by
     cases hmm:M g o with
     | none=>rfl
     | some y=>have:=World.block_lt_of_cell? w _ (hm _ _ _ hmm);simp at this;omega
    have hcur:∀ (i:Nat) (x:UInt8),b[i]? = some x->cur[i]? = some (.int .u8 x.toNat):=λi x hx=>by
     have hlt:i<b.length:=(List.getElem?_eq_some_iff.1 hx).1
     have h1:(cur.toList.take (n*1))[i]? = some (.int .u8 x.toNat):=by rw [hc4];simp [hx]
     rw [List.getElem?_take,if_pos (by omega)] at h1
     simpa using h1
    refine ⟨_,addM M g 0 n (cur[·]?),rfl,hbel.os,hbel.tape,hbel.output,hbel.size,hbel.block,addM_le λo _ _=>hnone _,?_,?_,?_⟩
    ·intro b' o' y hy
     unfold addM at hy
     split at hy
     ·rename_i hcc
      obtain ⟨rfl,_,_⟩:=hcc
      simp only [World.cell?,hg2]
      simpa using hy
     ·have h2:=hm b' o' y hy
      have hlt:=World.block_lt_of_cell? w _ h2
      rw [World.cell?_of_block (hbel.block b' hlt)]
      exact h2
    ·intro b' o' hlt
     unfold addM
     rw [if_neg (by omega)]
    ·refine .bytes _ _ 0 n cap g1 hc1 λi y hy=>?_
     have hlt:i<n:=by have:=(List.getElem?_eq_some_iff.1 hy).1;omega
     simp only [addM,Nat.zero_add]
     rw [if_pos ⟨trivial,Nat.zero_le _,hlt⟩]
     exact hcur i y hy
open Go Go.Sw Go.Proofs Go.Proofs.TT Go.RowKit Go.Lib Go.Shelf
theorem clone_gen {P:Program} {f:FuncId} {t:TypeId} {size bytes:Nat} {α:Type} {enc:α->PV} (hc:Callable P f) (hs:0<size) (h4:size≠4) (hwd:∀ a,(enc a).cells.length=size) (hone:∀ a,(enc a).cells.all PV.one=true) (hb:0<bytes)
  (hN:∀ (n c:Nat) (w:World),Calls P f #[.slice none n c] w λe w'=>e=.returned (.slice none 0 0)/\w'=w)
  (hC:∀ (b off n c:Nat) (news:List Value) (w:World),news.length=n*size->n<=maxLen->n*bytes<=140737488355328->(∀ j u,news[j]? = some u->w.cell? ⟨b,off+j,none⟩=some u)->(∀ u∈news,u.oneCell'=true) ->
   Calls P f #[.slice (some ⟨b,off,none⟩) n c] w λe w'=>∃ v',e=.returned v'/\w'.ownsRow w.heap.size t size v' n news/\v'≠.slice none 0 0/\Below w.heap.size w w')
  {l r:List α} (h:slices_Clone bytes l=some r):Ok P f 1 (mkS (argE 0 [.sl size (l.map enc)]) []) (mkS [(0,.own 500 r.length)] [(500,qO (.sl size (r.map enc)))]):=by
 unfold slices_Clone at h
 rcases cond_some h with ⟨hle,h⟩ | ⟨_,h⟩
 case inr=>cases h
 cases h
 have hle:=Nat.le_of_ble_eq_true hle
 have hfl:=flat_len (f:=enc) hwd l
 have hall:∀ p∈l.map enc,p.cells.length=size:=λp hp=>by obtain ⟨a,_,rfl⟩:=List.mem_map.1 hp;exact hwd a
 obtain ⟨_,hfg⟩:=flat_get (l.map enc) hall
 refine ok_handO (ps:=[.sl size (l.map enc)]) (n:=l.length) (l:=flatCells (l.map enc)) hs hfl.symm hc λw M args hm hsz hr=>?_
 have h0:=hr 0 _ rfl
 obtain ⟨al⟩:=args
 match al,hsz,h0 with
 | [a0],_,h0=>
 simp only [Array.getD_eq_getD_getElem?,List.getElem?_toArray,List.getElem?_cons_zero,Option.getD_some] at h0
 generalize hL:l.map enc=L at h0 hfg hfl hall
 have hlen:L.length=l.length:=by rw [<- hL,List.length_map]
 have hoL:∀ p∈L,p.cells.all PV.one=true:=λp hp=>by rw [<- hL] at hp;obtain ⟨a,_,rfl⟩:=List.mem_map.1 hp;exact hone a
 cases h0 with
 | sl0=>
  have hl0:l.length=0:=by rw [<- hlen];rfl
  refine (hN 0 0 w).mono ?_
  rintro e w' ⟨rfl,rfl⟩
  exact ⟨_,t,[],rfl,rfl,rfl,rfl,Nat.le_refl _,λ_ _=>rfl,⟨by rw [hl0];simp,.inl ⟨rfl,hl0⟩⟩,λj q hq=>by simp [flatCells] at hq⟩
 | slE a=>exact absurd rfl h4
 | sl _ _ b o n c g1 g2 g3 g4 g5=>
  obtain rfl:n=l.length:=by omega
  have hn:=rfl (a:=l.length)
  have hat:∀ j,j<l.length*size->∃ q,(flatCells L)[j]? = some q/\q.one=true/\(M b (o+j)).isSome=true/\Rep M q (mget M b (o+j)):=λj hj=>by
   have hi:j / size<L.length:=by rw [<- g1];exact Nat.div_lt_of_lt_mul (by rw [Nat.mul_comm];exact hj)
   have hk:j % size<(L[j / size]).cells.length:=by rw [hall _ (List.getElem_mem hi)];exact Nat.mod_lt _ hs
   have e:j / size*size+j % size=j:=by rw [Nat.mul_comm];exact Nat.div_add_mod j size
   have p1:=List.getElem?_eq_getElem hi
   have p2:=List.getElem?_eq_getElem hk
   have a1:=hfg _ _ _ _ p1 p2
   have a2:=g4 _ _ _ _ p1 p2
   have a3:=g5 _ _ _ _ p1 p2
   rw [e] at a1 a2 a3
   exact ⟨_,a1,(List.all_eq_true.1 (hoL _ (List.getElem_mem hi))) _ (List.getElem_mem hk),a2,a3⟩
  have hnw:∀ j,j<l.length*size->((List.range (l.length*size)).map λj=>mget M b (o+j))[j]? = some (mget M b (o+j)):=λj hj=>by
   rw [List.getElem?_map,List.getElem?_range hj];rfl
  refine (hC b o l.length c ((List.range (l.length*size)).map λj=>mget M b (o+j)) w (by simp) ?_ hle (λj u hu=>?_) λu hu=>?_).mono ?_
  ·have:l.length*1<=l.length*bytes:=Nat.mul_le_mul_left _ hb
   have:l.length*bytes<=140737488355328:=hle
   exact Nat.le_trans (by omega) (show 140737488355328<=maxLen by decide)
  ·have hj:j<l.length*size:=by have:=(List.getElem?_eq_some_iff.1 hu).1;simpa using this
   rw [hnw j hj] at hu
   cases hu
   obtain ⟨q,_,_,h2,_⟩:=hat j hj
   obtain ⟨x,hx⟩:=Option.isSome_iff_exists.1 h2
   have:mget M b (o+j)=x:=by unfold mget;rw [hx];rfl
   rw [this]
   exact hm _ _ _ hx
  ·obtain ⟨j,hj,rfl⟩:=List.mem_map.1 hu
   obtain ⟨q,_,h1,_,h3⟩:=hat j (List.mem_range.1 hj)
   exact one_pv h3 h1
  ·rintro e w' ⟨v',rfl,hown,_,hbel⟩
   refine ⟨v',t,_,rfl,hbel.os,hbel.tape,hbel.output,hbel.size,hbel.block,hown,λj q hq=>?_⟩
   have hj:j<l.length*size:=by have:=(List.getElem?_eq_some_iff.1 hq).1;omega
   obtain ⟨q',h1,_,_,h3⟩:=hat j hj
   rw [h1] at hq
   cases hq
   exact ⟨_,hnw j hj,h3⟩
open Go Go.Sw Go.Proofs Go.Proofs.TT Go.RowKit Go.Lib Go.Shelf Go.Sort
theorem gives195 (lim x:Int) (b o:Nat) (W:World) (hc:W.cell? ⟨b,o,none⟩=some (.int .i64 lim)) :
  FnGives Tryz.prog 195 #[.pointer (some ⟨b,o,none⟩)] #[.int .i64 x] (.bool (x==lim)) W:=by
 show Calls Tryz.prog 195 #[.int .i64 x,.pointer (some ⟨b,o,none⟩)] W _
 go_enter Tryz.func195,Tryz.ntmps195
 go_wp2
 all_goals (go_ret;exact ⟨by simp_all,0,rfl⟩)
theorem del_nil {P:Program} {ρ:Ren} (L:SlLaysH.n10 P ρ) (c:Nat) (fv:Value) (w:World) :
  Calls P (ρ.f 10) #[.slice none 0 c,fv] w λe w'=>e=.returned (.slice none 0 c)/\w'=w:=by
 have mixed:=L.mixed;have t0:=L.t0;have a0:=L.a0;have z0:=L.z0;have v0:=L.v0;have t3:=L.t3;have a3:=L.a3;have z3:=L.z3;have v3:=L.v3;have t4:=L.t4;have a4:=L.a4;have z4:=L.z4;have v4:=L.v4;have t22:=L.t22;have a22:=L.a22;have z22:=L.z22;have v22:=L.v22;have a23:=L.a23;have z23:=L.z23;have t25:=L.t25;have a25:=L.a25;have z25:=L.z25;have v25:=L.v25
 have e6:∀ args w,(callFunc (ρ.f 6) args).run P w=.ok (.enter (ρ.f 6) args) w:=L.f6.enters rfl
 have hIF:=AnyE.slices_IndexFunc_empty (P:=P) (ρ:=ρ) { L with } none c fv w
 obtain ⟨_,_,FG⟩:=L.f10
 go_enter FG,SlBodyH.n10_ntmps ρ
 go_wp2_with (go_at_fn (ρ.f 6);refine hIF.mono ?_;rintro e w' ⟨rfl,rfl⟩)
 go_ret
 exact ⟨rfl,rfl⟩
theorem del_ok {l r:List Int} {x:Int} (h:slices_DeleteFuncI l x=some r):Ok Tryz.prog 194 2 (mkS (argA 0 [.own BIG l.length,.p (.fn 195 [] [.cptr (.int .i64 x)])]) (bV []++[(BIG,qO (.sl 1 (l.map (PV.int .i64))))])) (mkS [(0,.own BIG r.length)] (bV []++[(BIG,qO (.sl 1 (r.map (PV.int .i64))))])):=by
 unfold slices_DeleteFuncI at h
 rcases cond_some h with ⟨hle,h⟩ | ⟨_,h⟩
 case inr=>cases h
 cases h
 have hsz:=Nat.le_of_ble_eq_true hle
 have hcells:∀ (m:List Int),flatCells (m.map (PV.int .i64))=m.map (PV.int .i64):=λm=>by
  induction m with
  | nil=>rfl
  | cons a m ih=>show PV.int .i64 a :: flatCells (m.map (PV.int .i64))=_;rw [ih];rfl
 have hecs:∀ (m:List Int),PV.ecs (.sl 1 (m.map (PV.int .i64)))=m.map λz=>AV.p (PV.int .i64 z):=λm=>by
  show (flatCells (m.map (PV.int .i64))).map AV.p=_
  rw [hcells,List.map_map];rfl
 have hB:∀ (m:List Int) (k:Nat),lk (bV []++[(BIG,qO (.sl 1 (m.map (PV.int .i64))))]) k=if k=BIG then some (qO (.sl 1 (m.map (PV.int .i64)))) else none:=λm k=>by
  show lk [(BIG,qO (.sl 1 (m.map (PV.int .i64))))] k=_
  unfold lk
  by_cases hk:k=BIG
  ·subst hk;rw [if_pos rfl,Nat.beq_refl];rfl
  ·rw [if_neg hk,show Nat.beq k BIG=false by rw [Bool.eq_false_iff];intro e;exact hk (Nat.eq_of_beq_eq_true e)];rfl
 have hno:∀ (R:List Int) (k:Nat) (c:ABlk),lk (bV []++[(BIG,qO (.sl 1 (R.map (PV.int .i64))))]) k=some c->k=BIG/\c=.own 1 (PV.ecs (.sl 1 (R.map (PV.int .i64)))):=λR k c h=>by
  rw [hB] at h
  split at h
  ·rename_i hk;cases h;exact ⟨hk,rfl⟩
  ·cases h
 have hRB:∀ R:List Int,(lk (bV []++[(BIG,qO (.sl 1 (R.map (PV.int .i64))))])) BIG=some (.own 1 (PV.ecs (.sl 1 (R.map (PV.int .i64))))):=λR=>(hB R BIG).trans (if_pos rfl)
 refine ⟨⟨_,Tryz.func194,by kernel_rfl,by kernel_rfl⟩,λw M pk args κ tip hi hp=>?_⟩
 obtain ⟨pl,ob,nk⟩:=pk
 have hpk:pl=[]:=by
  cases pl with
  | nil=>rfl
  | cons e pl=>
   have h1:=(hp e (by simp)).1
   have h2:=nk e (by simp)
   rw [hi.dom e.1 ((hB l e.1).trans (if_neg (by omega)))] at h1
   cases h1
 subst hpk
 obtain ⟨a0,ha0,hr0⟩:=hi.env 0 (.own BIG l.length) rfl
 obtain ⟨a1,ha1,hr1⟩:=hi.env 1 (.p (.fn 195 [] [.cptr (.int .i64 x)])) rfl
 have hsize:=hi.size
 obtain rfl:args=#[a0,a1]:=by
  obtain ⟨al⟩:=args
  match al,hsize,ha0,ha1 with
  | [b0,b1],_,e0,e1=>simp at e0 e1;rw [e0,e1]
 have hblk:(mkS (argA 0 [.own BIG l.length,.p (.fn 195 [] [.cptr (.int .i64 x)])]) (bV []++[(BIG,qO (.sl 1 (l.map (PV.int .i64))))])).blk BIG=some (.own 1 (PV.ecs (.sl 1 (l.map (PV.int .i64))))):=(hB l BIG).trans (if_pos rfl)
 have hlen:(PV.ecs (.sl 1 (l.map (PV.int .i64)))).length=l.length:=by rw [hecs,List.length_map]
 rcases hi.owns BIG 1 _ hblk with ⟨h1,_⟩ | ⟨_,⟨n1,n2,h3⟩ | ⟨b,n,cap,arr,e,fz,o1,o2,o3,o4,o5,o6,o7,o8,o9,o10,o11⟩⟩
 ·cases h1
 ·have hl0:l=[]:=by rw [h3] at hlen;exact List.length_eq_zero_iff.1 hlen.symm
  subst hl0
  have harg:a0=.slice none 0 0:=by
   cases hr0 with
   | own _ _ wd l' _ g1 g2 g3 g4=>rw [hblk] at g1;cases g1;rw [g3 rfl,n1]
  subst harg
  refine Calls.mono (show Calls Tryz.prog 194 #[.slice none 0 0,a1] w _ from del_nil Tryz.laysSlH10_f194 0 a1 w) ?_
  rintro ex w' ⟨rfl,hw⟩
  rw [hw]
  refine ⟨_,rfl,M,κ,λ_=>.slice none 0 0,Mem.le_refl M,by simp,{
   defers:=rfl
   size:=rfl
   fr:=⟨rfl,rfl,rfl,Nat.le_refl _,λ_ _ _ _=>rfl⟩
   mem:=hi.mem
   env:=λt u e=>by
    simp only [mkS,lk] at e
    cases hb:Nat.beq t 0 with
    | true=>
     have:=Nat.eq_of_beq_eq_true hb
     subst this
     simp at e
     subst e
     exact ⟨_,rfl,.own BIG 0 1 _ _ (hRB []) (by decide) (λ_=>rfl) ⟨_,_,_,rfl⟩⟩
    | false=>simp [hb] at e
   vars:=λk y h=>by have:=(hno [] k _ h).2;cases this
   bufs:=λk c h=>by have:=(hno [] k _ h).2;cases this
   inj:=hi.inj
   dom:=λk h=>by
    have h:lk (bV []++[(BIG,qO (.sl 1 (([]:List Int).map (PV.int .i64))))]) k=none:=h
    rw [hB] at h
    split at h
    ·cases h
    ·rename_i hk;exact hi.dom k ((hB [] k).trans (if_neg hk))
   old:=hi.old
   glob:=hi.glob
   owns:=λk wd' l' h=>by
    obtain ⟨rfl,h2⟩:=hno [] k _ h
    cases h2
    exact .inr ⟨by decide,.inl ⟨rfl,n2,rfl⟩⟩}⟩
 have hn:n=l.length:=by omega
 subst hn
 have hbw:b<w.heap.size:=(Array.getElem?_eq_some_iff.1 o4).1
 have hbo:b∈ob:=by
  rcases o3 with o3 | o3
  ·exact absurd o3 (by show ¬ w.heap.size<=b;omega)
  ·exact o3.1
 have harg:a0=.slice (some ⟨b,0,none⟩) l.length cap:=by
  cases hr0 with
  | own _ _ wd l' _ g1 g2 g3 g4=>
   rw [hblk] at g1
   cases g1
   rw [g3 (by omega),o1]
 obtain ⟨pb,po,rfl,hcell⟩:∃ pb po,a1=.func (.func 195) #[] #[.pointer (some ⟨pb,po,none⟩)]/\w.cell? ⟨pb,po,none⟩=some (.int .i64 x)/\M pb po=some (.int .i64 x):=by
  have hr1:=repA_pv hr1
  cases hr1 with
  | fn _ _ _ vf vc s1 s2 s3 s4=>
   have e1:vf=#[]:=Array.eq_empty_of_size_eq_zero s1
   have h4:=s4 0 (.cptr (.int .i64 x)) rfl
   obtain ⟨vl⟩:=vc
   match vl,s2,h4 with
   | [v0],_,h4=>
    simp at h4
    cases h4 with
    | cptr _ b2 o2' g1 g2=>
     have h5:=g1 0 (.int .i64 x) rfl
     have h6:=g2 0 (.int .i64 x) rfl
     obtain ⟨y,hy⟩:=Option.isSome_iff_exists.1 h5
     have hg:mget M b2 (o2'+0)=y:=by unfold mget;rw [hy];rfl
     rw [hg] at h6
     have h7:=rep_int h6
     subst h7
     exact ⟨b2,o2',by rw [e1],hi.mem _ _ _ hy,hy⟩
 obtain ⟨hcell,hM⟩:=hcell
 have hpbw:pb<w.heap.size:=World.block_lt_of_cell? w _ hcell
 have hne:pb≠b:=λe=>by rw [e,o11 po] at hM;cases hM
 subst harg
 have hat:∀ j,j<l.length->∃ z,l[j]? = some z/\arr[j]? = some (.int .i64 z):=λj hj=>by
  have h1:(PV.ecs (.sl 1 (l.map (PV.int .i64))))[j]? = some (.p (.int .i64 l[j])):=by rw [hecs,List.getElem?_map,List.getElem?_eq_getElem hj];rfl
  have h2:=o10 j _ h1
  have h3:=rep_int (repA_pv h2)
  have hja:j<arr.size:=by omega
  refine ⟨l[j],List.getElem?_eq_getElem hj,?_⟩
  rw [Array.getD_eq_getD_getElem?,Array.getElem?_eq_getElem hja] at h3
  rw [Array.getElem?_eq_getElem hja]
  exact congrArg some h3
 have hH:Holds (Value.int .i64) w b 0 l.toArray:=λj hj=>by
  have hj:j<l.length:=by simpa using hj
  obtain ⟨z,h1,h2⟩:=hat j hj
  have hz:l.toArray[j]! = z:=by
   rw [getElem!_pos _ j (by simpa using hj)]
   simp only [List.getElem_toArray]
   rw [List.getElem?_eq_getElem hj] at h1
   exact Option.some.inj h1
  refine ⟨?_,?_⟩
  ·rw [hz,Nat.zero_add]
   simp only [World.cell?,o4]
   simpa using h2
  ·have hja:j<arr.size:=by omega
   simp only [World.frozen?,o4,Nat.zero_add]
   rcases o5 with h | h<;>simp<;>omega
 have eg:∀ args w,(callFunc 195 args).run Tryz.prog w=.ok (.enter 195 args) w:=enters_of Tryz.func195 (by kernel_rfl) rfl
 have hcon:=AnyE.slices_DeleteFunc Tryz.laysSlH10_f194 (Value.int .i64) (λ_=>rfl) (λy=>y==x) 195 #[.pointer (some ⟨pb,po,none⟩)] eg 0 Tryz.zeroValue3 b 0 cap l.toArray w
  (λW y hb=>gives195 x y pb po W ((hb.cell (p:=⟨pb,po,none⟩) hpbw).trans hcell))
  (λn os dk y _=>gives195 x y pb po _ (by
   unfold sortWorld
   rw [cell?_grow _ _ _ (by show pb<(putRow _ _ _ _ _).heap.size;rw [size_putRow];exact hpbw),cell?_putRow_other _ _ b 0 _ _ (Or.inl hne)]
   exact hcell)) hH (by simp;omega) (by simpa using o8)
 refine Calls.mono (show Calls Tryz.prog 194 #[.slice (some ⟨b,0,none⟩) l.length cap,.func (.func 195) #[] #[.pointer (some ⟨pb,po,none⟩)]] w _ from hcon) ?_
 rintro ex w' ⟨rfl,q,rfl⟩
 refine ⟨_,rfl,?_⟩
 show SRel ⟨w,M,⟨[],ob,nk⟩,1,[]⟩ (mkS [(0,.own BIG (l.filter λy=>!(y==x)).length)] (bV []++[(BIG,qO (.sl 1 ((l.filter λy=>!(y==x)).map (PV.int .i64))))])) ⟨#[.slice (some ⟨b,0,none⟩) (l.filter λy=>!(y==x)).length cap],[]⟩ (putRow (Value.int .i64) (Sort.ahead w q) b 0 ((l.filter λy=>!(y==x))++List.replicate (l.length - (l.filter λy=>!(y==x)).length) (0:Int)).toArray)
 have hRl:(l.filter λy=>!(y==x)).length<=l.length:=List.length_filter_le _ _
 generalize (l.filter λy=>!(y==x))=R at hRl ⊢
 generalize hD:(R++List.replicate (l.length - R.length) (0:Int)).toArray=D
 have hDs:D.size=l.length:=by rw [<- hD];simp;omega
 have hDj:∀ j z,R[j]? = some z->D[j]! = z:=λj z hz=>by
  have hj:j<R.length:=(List.getElem?_eq_some_iff.1 hz).1
  have h1:D[j]? = some z:=by
   rw [<- hD,List.getElem?_toArray,List.getElem?_append_left hj,hz]
  rw [getElem!_pos D j (by omega)]
  rw [Array.getElem?_eq_getElem (by omega)] at h1
  exact Option.some.inj h1
 have hheap:∀ i,(putRow (Value.int .i64) (Sort.ahead w q) b 0 D).heap[i]? = if b=i then (w.heap[i]?).map (onCells (putCells (Value.int .i64) 0 D)) else w.heap[i]?:=λi=>by
  show (w.heap.modify b _)[i]? = _
  rw [Array.getElem?_modify]
 have hrow:(putRow (Value.int .i64) (Sort.ahead w q) b 0 D).heap[b]? = some (.cells (putCells (Value.int .i64) 0 D arr) e fz):=by rw [hheap,if_pos rfl,o4];rfl
 have hoth:∀ i,i≠b->(putRow (Value.int .i64) (Sort.ahead w q) b 0 D).heap[i]? = w.heap[i]?:=λi hi=>by rw [hheap,if_neg (Ne.symm hi)]
 have hps:(putCells (Value.int .i64) 0 D arr).size=arr.size:=by simp [putCells]
 have hRlen:(PV.ecs (.sl 1 (R.map (PV.int .i64)))).length=R.length:=by rw [hecs,List.length_map]
 refine ⟨M,κ,λ_=>.slice (some ⟨b,0,none⟩) R.length cap,Mem.le_refl M,by simp,{
  defers:=rfl
  size:=rfl
  fr:=⟨rfl,rfl,rfl,by show w.heap.size<=(w.heap.modify b _).size;simp,λi hi _ hn=>hoth i (λe=>hn (e▸hbo))⟩
  mem:=λb' o y hy=>by
   have hne':b'≠b:=λe=>by rw [e,o11 o] at hy;cases hy
   rw [World.cell?_of_block (hoth b' hne')]
   exact hi.mem _ _ _ hy
  env:=λt u e=>by
   simp only [mkS,lk] at e
   cases hb:Nat.beq t 0 with
   | true=>
    have:=Nat.eq_of_beq_eq_true hb
    subst this
    simp at e
    subst e
    exact ⟨_,rfl,.own BIG R.length 1 _ _ (hRB R) (by omega) (λ_=>rfl) ⟨_,_,_,rfl⟩⟩
   | false=>simp [hb] at e
  vars:=λk y h=>by have:=(hno R k _ h).2;cases this
  bufs:=λk c h=>by have:=(hno R k _ h).2;cases this
  inj:=hi.inj
  dom:=λk h=>by
   have h:lk (bV []++[(BIG,qO (.sl 1 (R.map (PV.int .i64))))]) k=none:=h
   rw [hB] at h
   split at h
   ·cases h
   ·rename_i hk;exact hi.dom k ((hB l k).trans (if_neg hk))
  old:=hi.old
  glob:=hi.glob
  owns:=λk wd' l' h=>by
   obtain ⟨rfl,h2⟩:=hno R k _ h
   cases h2
   refine .inr ⟨by decide,.inr ⟨b,R.length,cap,putCells (Value.int .i64) 0 D arr,e,fz,rfl,o2,.inr ⟨hbo,Nat.le_refl _⟩,hrow,by rw [hps];exact o5,by omega,by omega,by omega,o9,λj q' hq=>?_,o11⟩⟩
   rw [hecs,List.getElem?_map] at hq
   obtain ⟨z,hz,rfl⟩:=Option.map_eq_some_iff.1 hq
   have hj:j<R.length:=(List.getElem?_eq_some_iff.1 hz).1
   have hja:j<arr.size:=by omega
   have:(putCells (Value.int .i64) 0 D arr).getD j undef=.int .i64 z:=by
    rw [Array.getD_eq_getD_getElem?]
    unfold putCells
    rw [Array.getElem?_mapIdx,Array.getElem?_eq_getElem hja]
    simp only [Option.map_some,Option.getD_some]
    rw [if_pos ⟨Nat.zero_le _,by omega⟩,Nat.sub_zero,hDj j z hz]
   rw [this]
   exact .p _ _ (.int _ _) }⟩
end Go.Proofs.H
namespace Go.Proofs.Tryz.S
open Go Go.Sw Go.Proofs.TT
theorem mixed:Tryz.prog.follows .mixedOrders=true:=by kernel_rfl
abbrev Z (f na:Nat) (l:List PV) (v:AV) (b:List (Nat×ABlk)):Prop:=Ok Tryz.prog f na (mkS (argE 0 l) []) (mkS [(0,v)] b)
theorem Y {cx:Ctx} {q:Exit->AS->Prop} {s:AS} {ops:Array Oper} {id n:Nat} (hnt:cx.nt=n) (h:RK Tryz.prog ops ops.toList s λs' ms=>fW n ms=true/\(pA ops ms&&zK0 ops)=true/\q .normal s'):awp Tryz.prog cx (.region id ops true) q s:=rgd hnt mixed h
instance tenv:nZ Tryz.prog:=⟨te,vT⟩
theorem zI5 {s:List UInt8} {r:Bool} (h:zBw s=some r):Ok Tryz.prog 124 1 (mkS (argE 0 [.str s]) []) (mkS [(0,qB r)] []):=by
 cases h
 refine ok_hand (ps:=[.str s]) ⟨_,Tryz.func124,by kernel_rfl,by kernel_rfl⟩ λw M args hm hs hr=>?_
 have ha:args=#[.string ⟨s.toArray⟩]:=by
  have h0:=gU (hr 0 _ rfl)
  obtain ⟨al⟩:=args
  match al,hs,h0 with
  | [a],_,h0=>simp at h0;rw [h0]
 subst ha
 refine (H.walk_named ⟨s.toArray⟩ w).mono ?_
 rintro e w' ⟨rfl,hw⟩
 have hb:(decide (1<=(⟨s.toArray⟩:ByteArray).size)&&decide ((⟨s.toArray⟩:ByteArray).size<=12)&&H.nameAll ⟨s.toArray⟩ 0)=(decide (1<=s.length)&&decide (s.length<=12)&&s.all nameByte):=rfl
 rw [hb]
 rcases hw with rfl | ⟨pos,rfl⟩
 ·exact ⟨_,M,rfl,rfl,rfl,rfl,Nat.le_refl _,λ_ _=>rfl,Mem.le_refl M,hm,λ_ _ _=>rfl,.bool _⟩
 ·refine ⟨_,M,rfl,rfl,rfl,rfl,?_,?_,Mem.le_refl M,?_,λ_ _ _=>rfl,.bool _⟩
  ·simp [World.iter]
  ·intro b hb
   exact hao w _ b hb
  ·intro b o x hx
   have h1:=hm b o x hx
   rw [<- h1]
   exact World.cell?_alloc_lt w _ ⟨b,o,none⟩ (World.block_lt_of_cell? w _ h1)
theorem zH2 {b:List UInt8} {n:Int} {r:List UInt8} (h:aZ b n=some r):Ok Tryz.prog 260 2 (mkS (argE 0 [.bytes b,.int .i64 n]) []) (mkS [(0,qY r)] []):=by
 unfold aZ at h
 split at h
 ·rename_i x
  rcases cond_some h with ⟨hn,h⟩ | ⟨hn,h⟩
  ·cases h
   have key:∀ (m:Nat),(∀ (b o c:Nat) (w:World),w.cell? ⟨b,o,none⟩=some (.int .u8 x.toNat)->Calls Tryz.prog 260 #[.slice (some ⟨b,o,none⟩) 1 c,.int .i64 (m:Int)] w λe w'=>e=.returned (.slice (some ⟨w.heap.size,0,none⟩) m m)/\∃ cs d cur,w'=(H.dr d (w.alloc (.cells cs 5))).setRow w.heap.size cur/\∀ j,j<m->cur[j]? = some (.int .u8 x.toNat)) ->
     Ok Tryz.prog 260 2 (mkS (argE 0 [.bytes [x],.int .i64 (m:Int)]) []) (mkS [(0,qY (List.replicate m x))] []):=by
    intro m hwalk
    refine ok_hand (ps:=[.bytes [x],.int .i64 m]) ⟨_,Tryz.func260,by kernel_rfl,by kernel_rfl⟩ λw M args hm hs hr=>?_
    have h0:=hr 0 _ rfl
    have h1:=rep_int (hr 1 _ rfl)
    obtain ⟨al⟩:=args
    match al,hs,h0,h1 with
    | [a0,a1],_,h0,h1=>
    simp at h0 h1
    subst h1
    cases h0 with
    | bytes _ b o n c g1 g2 g3=>
    simp at g1
    subst g1
    have hc:w.cell? ⟨b,o,none⟩=some (.int .u8 x.toNat):=hm _ _ _ (by simpa using g3 0 x rfl)
    refine (hwalk b o c w hc).mono ?_
    rintro e w' ⟨rfl,cs,d,cur,rfl,hcur⟩
    have hold:∀ i,i<w.heap.size->((H.dr d (w.alloc (.cells cs 5))).setRow w.heap.size cur).heap[i]? = w.heap[i]?:=by
     intro i hi
     rw [setRow_other _ _ _ _ (by omega)]
     exact hao w _ i hi
    have hg:((H.dr d (w.alloc (.cells cs 5))).setRow w.heap.size cur).heap[w.heap.size]? = some (.cells cur 5 (0,0)):=setRow_heap _ _ _ _ _ _ (heap_alloc_new w _)
    refine ⟨_,addM M w.heap.size 0 m (cur[·]?),rfl,rfl,rfl,rfl,?_,hold,addM_le ?_,?_,?_,?_⟩
    ·rw [setRow_size]
     show w.heap.size<=(w.alloc (.cells cs 5)).heap.size
     simp
    ·intro o _ _
     cases hmm:M w.heap.size o with
     | none=>rfl
     | some y=>have:=World.block_lt_of_cell? w _ (hm _ _ _ hmm);simp at this
    ·intro b' o' y hy
     unfold addM at hy
     split at hy
     ·rename_i hcc
      obtain ⟨rfl,_,_⟩:=hcc
      simp only [World.cell?,hg]
      simpa using hy
     ·have h2:=hm b' o' y hy
      have hlt:=World.block_lt_of_cell? w _ h2
      rw [World.cell?_of_block (hold b' hlt)]
      exact h2
    ·intro b' o' hlt
     unfold addM
     rw [if_neg (by omega)]
    ·refine .bytes _ _ 0 m m (by simp) (Nat.le_refl _) λi y hy=>?_
     rw [List.getElem?_replicate] at hy
     split at hy
     ·cases hy
      rename_i hlt
      simp only [addM,Nat.zero_add]
      rw [if_pos ⟨trivial,Nat.zero_le _,hlt⟩]
      exact hcur i hlt
     ·cases hy
   simp only [Bool.or_eq_true,beq_iff_eq] at hn
   rcases hn with rfl | rfl
   ·exact key 20 λb o c w hc=>H.walk_rep20 b o c x w hc
   ·exact key 32 λb o c w hc=>H.walk_rep32 b o c x w hc
  ·cases h
 ·cases h
theorem zAg {n:Int} {r:List UInt8} (h:strconv_Itoa n=some r):Ok Tryz.prog 197 1 (mkS (argE 0 [.int .i64 n]) []) (mkS [(0,qZ r)] []):=H.itoa_ok h
theorem zI6 {b r:List UInt8} (h:bytes_Clone b=some r):Ok Tryz.prog 146 1 (mkS (argE 0 [.bytes b]) []) (mkS [(0,qY r)] []):=H.clone_ok h
theorem zDb {l r:List zL} (h:slices_Clone 96 l=some r):Ok Tryz.prog 287 1 (mkS (argE 0 [.sl 8 (l.map zL.pv)]) []) (mkS [(0,.own 500 r.length)] [(500,qO (.sl 8 (r.map zL.pv)))]):=by
 obtain ⟨i,z,g1,g2,g3,g4,g5⟩:=(vT 333 t333 rfl).info
 exact H.clone_gen (t:=333) (size:=8) (bytes:=96) ⟨_,Tryz.func287,by kernel_rfl,by kernel_rfl⟩ (by decide) (by decide) (λ_=>rfl) (λ_=>rfl) (by decide) (AnyE.slices_Clone_nil Tryz.laysSlE041_f287) (AnyE.slices_Clone Tryz.laysSlE041_f287 i z 8 96 g1 g4 g2 g3 (by rw [<- Array.length_toList,g5];rfl) (by decide) Tryz.sizeOf333) h
theorem gA {l r:List zX} (h:slices_Clone 152 l=some r):Ok Tryz.prog 304 1 (mkS (argE 0 [.sl 9 (l.map zX.pv)]) []) (mkS [(0,.own 500 r.length)] [(500,qO (.sl 9 (r.map zX.pv)))]):=by
 obtain ⟨i,z,g1,g2,g3,g4,g5⟩:=(vT 227 t227 rfl).info
 exact H.clone_gen (t:=227) (size:=9) (bytes:=152) ⟨_,Tryz.func304,by kernel_rfl,by kernel_rfl⟩ (by decide) (by decide) (λ_=>rfl) (λ_=>rfl) (by decide) (AnyE.slices_Clone_nil Tryz.laysSlE041_f304) (AnyE.slices_Clone Tryz.laysSlE041_f304 i z 9 152 g1 g4 g2 g3 (by rw [<- Array.length_toList,g5];rfl) (by decide) Tryz.sizeOf227) h
theorem gI {l r:List zJ} (h:slices_Clone 112 l=some r):Ok Tryz.prog 337 1 (mkS (argE 0 [.sl 8 (l.map zJ.pv)]) []) (mkS [(0,.own 500 r.length)] [(500,qO (.sl 8 (r.map zJ.pv)))]):=by
 obtain ⟨i,z,g1,g2,g3,g4,g5⟩:=(vT 30 t30 rfl).info
 exact H.clone_gen (t:=30) (size:=8) (bytes:=112) ⟨_,Tryz.func337,by kernel_rfl,by kernel_rfl⟩ (by decide) (by decide) (λ_=>rfl) (λ_=>rfl) (by decide) (AnyE.slices_Clone_nil Tryz.laysSlE041_f337) (AnyE.slices_Clone Tryz.laysSlE041_f337 i z 8 112 g1 g4 g2 g3 (by rw [<- Array.length_toList,g5];rfl) (by decide) Tryz.sizeOf30) h
theorem zO8 {l r:List xG} (h:slices_Clone 32 l=some r):Ok Tryz.prog 406 1 (mkS (argE 0 [.sl 2 (l.map xG.pv)]) []) (mkS [(0,.own 500 r.length)] [(500,qO (.sl 2 (r.map xG.pv)))]):=by
 obtain ⟨i,z,g1,g2,g3,g4,g5⟩:=(vT 200 t200 rfl).info
 exact H.clone_gen (t:=200) (size:=2) (bytes:=32) ⟨_,Tryz.func406,by kernel_rfl,by kernel_rfl⟩ (by decide) (by decide) (λ_=>rfl) (λ_=>rfl) (by decide) (AnyE.slices_Clone_nil Tryz.laysSlE041_f406) (AnyE.slices_Clone Tryz.laysSlE041_f406 i z 2 32 g1 g4 g2 g3 (by rw [<- Array.length_toList,g5];rfl) (by decide) Tryz.sizeOf200) h
theorem zA1 {l r:List Int} {x:Int} (h:slices_DeleteFuncI l x=some r):Ok Tryz.prog 194 2 (mkS (argA 0 [.own BIG l.length,.p (.fn 195 [] [.cptr (.int .i64 x)])]) (bV []++[(BIG,qO (.sl 1 (l.map (PV.int .i64))))])) (mkS [(0,.own BIG r.length)] (bV []++[(BIG,qO (.sl 1 (r.map (PV.int .i64))))])):=H.del_ok h
end Go.Proofs.Tryz.S
set_option linter.all false
namespace Go.Sw
open Go
section
variable {P:Program} {te:TE} {s:AS} {o:Oper} {x y:Operand} {vx vy:AV} {bx by':List (Nat×ABlk)} {k:IntKind}
end
section
variable {P:Program} [T:nZ P] {ops:Array Oper} {s:AS} {r:List Oper} {K:AS->List Mic->Prop} {d:Nat} {ty:TypeId} {pos:String} {af:Array Edge} {x y:Operand}
end
section
variable {P:Program} [T:nZ P] {ops:Array Oper} {s:AS} {r:List Oper} {K:AS->List Mic->Prop} {d:Nat} {ty:TypeId} {pos:String} {af:Array Edge} {x y:Operand}
theorem RK.eNl {tx tyy e:TypeId} {vx:AV} {l:List UInt8} {c:PV} {bs:List (Nat×ABlk)} (I:decide (0<l.length)=true) (L:((T.te tx).map (·.ty),s.get T.te tx x)=(some (.slice e),some vx)) (U:s.rd vx=some (.bytes l,bs)) (hy:s.get T.te tyy y=some (.nl c))
  (k:VK P ops r s K d (opS x vx++opS y (.nl c)) bs (.p (.bool false))):RK P ops (⟨some d,.binOp .eql tx x y tyy,ty,pos,af,none⟩:: r) s K:=have ⟨ht,Z⟩:=pq L;by
 refine RK.va rfl rfl ⟨?_,yI (zN Z) (zN hy),vU vx _ bs U⟩ k
 intro cx M κ tip s' ac w hi hr hb
 have h1:=kM hi Z U (yF hr) hb
 have h2:=yD hi (yJ hy s' (zZ hr))
 have hu:=yX T.ok ht
 generalize he:ac.eval x=zx at h1
 generalize S:ac.eval y=zy at h2
 cases h2 with
 | nl _ hc=>
  cases h1 with
  | bytes0=>simp_all
  | bytesE a=>simp_all
  | bytes _ b o n c' g1 g2 g3=>
   exact ⟨.bool _,by simp [execOp,he,S,eqGuard,run_eql_slice_nil w tx e _ n c' hu],.p _ _ (.bool _)⟩
end
section
variable {P:Program} [T:nZ P] {ops:Array Oper} {s:AS}
theorem rgx {cx:Ctx} {Q:Exit->AS->Prop} {id n:Nat} (p q:Nat) (hnt:cx.nt=n) (hm:P.follows .mixedOrders=true) (h:RK P ops ops.toList s λs' ms=>fW n ms=true/\(eV p q ops ms&&zK0 ops)=true/\(∃ e n m,zLr P ops p q e ms n m)/\Q .normal s'):awp P cx (.region id ops true) Q s:=by
 obtain ⟨s',ms,h1,h2,h3,⟨e,hx⟩,h4⟩:=h
 simp only [Bool.and_eq_true] at h3
 exact zLn h1 (by rw [hnt];exact h2) hm (.inr hx) h3.1 h3.2 h4
theorem yGw {p q d k off t0:Nat} {ty t:TypeId} {pos:String} {af:Array Edge} {ms:List Mic} {l l':List AV} {i:TI} {m:Mic} (hop:ops[p]? = some ⟨some d,.load t (.tmp t0),ty,pos,af,none⟩) (hpq:p<q)
  (hp:ms[p]? = some ⟨opS (.tmp t0) (.ptr k off),[(k,.var l)],[],some (d,some (.ag ((l.drop off).take i.w))),[]⟩) (hq:ms[q]? = some m) (he:lk m.wr k=some (.var l')) (ht:T.te t=some i) (ha:i.isAgg=true) (hv:Nat.ble (off+i.w) l'.length=true)
  (hl:(l'.drop off).take i.w=(l.drop off).take i.w) (hi:(Mic.free ⟨opS (.tmp t0) (.ptr k off),[(k,.var l)],[],some (d,some (.ag ((l.drop off).take i.w))),[]⟩).indep m=true)
  (ho:eV p q ops (ms.set p ⟨opS (.tmp t0) (.ptr k off),[(k,.var l')],[],some (d,some (.ag ((l.drop off).take i.w))),[]⟩)=true):∃ e n m,zLr P ops p q e ms n m:=by
 refine ⟨(k,.var l'),_,m,hpq,hp,hq,hi,he,ho,?_⟩
 have hlt:p<ops.size:=(Array.getElem?_eq_some_iff.1 hop).1
 intro cx s a w K Q h1 h2 h3 h4
 unfold wpOp
 rw [hop]
 have hva:VA P ⟨some d,.load t (.tmp t0),ty,pos,af,none⟩ (mkS [(t0,.ptr k off)] [(k,.var l')]) (opS (.tmp t0) (.ptr k off)) [(k,.var l')] (.ag ((l'.drop off).take i.w)):=
  Go.Sw.ldN T.ok rfl ht ha (by simp [AS.get,mkS,lk]) (by simp [mkS,lk]) hv
 rw [hl] at hva
 exact zD4 rfl (zJg rfl hva.1) cx s a w K Q h1 h2 h3 h4
end
abbrev qP (k:Nat):Nat×AV:=(k,.ptr k 0)
theorem R {α:Sort _} {a:α}:a=a:=rfl
section
variable {P:Program} {cx:Ctx} {q:Exit->AS->Prop} {s:AS} {α β I:Type} {r:β} {ks:List Nat}
theorem bS {m:Option α} {k:α->Option β} (h:m.bind k=some r):∃ x,m=some x/\k x=some r:=bind_some h
theorem O {G:Prop} {m:Option α} {k:α->Option β} (h:m.bind k=some r) (K:∀ x,m=some x->k x=some r->G):G:=(bind_some h).elim λx h=>K x h.1 h.2
theorem V {G:Prop} {e:α} {f:α->Option β} (h:lt e f=some r) (K:∀ v,e=v->f v=some r->G):G:=K e rfl h
theorem C {G:Prop} {c:Bool} {a b:Option β} (h:(bif c then a else b)=some r) (x:c=true->a=some r->G) (y:c=false->b=some r->G):G:=(cond_some h).elim (λh=>x h.1 h.2) λh=>y h.1 h.2
theorem N {G:Prop} (h:none=some r):G:=by cases h
theorem D {c:Code} {m:Option α} {k:α->Option β} (h:m.bind k=some r) (f:α->Exit×AS) (x:∀ j,m=some j->awp P cx c (OQ cx f j) s) (y:∀ j,k j=some r->q (f j).1 (f j).2):awp P cx c q s:=(bind_some h).elim λj h=>kA f j (x j h.1) (y j h.2)
theorem J {c:Code} {m:Option α} {k:α->Option β} (h:m.bind k=some r) (f:α->AS) (x:∀ j,m=some j->awp P cx c (OQ cx (λj=>(.normal,f j)) j) s) (y:∀ j,k j=some r->q .normal (f j)):awp P cx c q s:=D h _ x y
theorem U {X:Type} {body:Code} {step:X->Option (X ⊕ α)} {n:Nat} {x0:X} {k:α->Option β} (h:(zP step n x0).bind k=some r) (E:X->AS) (f:α->Exit×AS) (hi:Imp cx.pk s (E x0)) (hne:∀ y,(f y).1≠.normal)
  (hb:∀ x r,step x=some r->awp P cx body (OQ cx (LF E f) r) (E x)) (y:∀ j,k j=some r->q (f j).1 (f j).2):awp P cx (.loop body) q s:=(bind_some h).elim λj h=>zIw E f h.1 hi hne hb (y j h.2)
theorem Q {X:Type} {body:Code} {step:X->Option (X ⊕ α)} {n:Nat} {x0:X} {k:α->Option β} (h:(zP step n x0).bind k=some r) (i:Nat) (E:X->AS) (f:α->AS) (hi:Imp cx.pk s (E x0))
  (hb:∀ x r,step x=some r->awp P cx body (OQ cx (LF E λy=>(.exit i,f y)) r) (E x)) (y:∀ j,k j=some r->q (.exit i) (f j)):awp P cx (.loop body) q s:=U h E _ hi (λ_ h=>by cases h) hb y
theorem K (h:q .normal s):awp P cx .skip q s:=zWj h
theorem X {id:Nat} (h:q (.exit id) s):awp P cx (.exit id) q s:=zZj h
theorem T (h:q .ret s):awp P cx .ret q s:=yBn h
theorem B {id:Nat} {c:Code} (h:awp P cx c (zKl id q) s):awp P cx (.block id c) q s:=zUa h
theorem L {l:Nat} (h:q .normal s):awp P cx (.label l) q s:=zS1 h
theorem A {t:Nat} {x y:Code} {b:Bool} (he:b=true) (hc:s.env t=some (.p (.bool b))) (h:awp P cx x q s):awp P cx (.cond (.tmp t) x y) q s:=cT he hc h
theorem F {t:Nat} {x y:Code} {b:Bool} (he:b=false) (hc:s.env t=some (.p (.bool b))) (h:awp P cx y q s):awp P cx (.cond (.tmp t) x y) q s:=cF he hc h
theorem G {ops:Array Oper} {id n:Nat} (hnt:cx.nt=n) (h:RK P ops ops.toList s λs' ms=>fW n ms=true/\q .normal s'):awp P cx (.region id ops false) q s:=rgn hnt h
theorem S {x y:Code} (h:awp P cx x (zK9 (awp P cx y q) q) s):awp P cx (.seq x y) q s:=yAx h
theorem lpX {env:List (Nat×AV)} {blk:List (Nat×ABlk)} (hpk:PK cx ks) (H:(gE s env,gB s id blk,(kC (lk blk) env&&ks.all (λk=>(lk blk k).isSome)))=(vE id env,vB id blk,true)) (h:uY (lk blk) blk=true):Imp cx.pk s (mkS env blk):=have ⟨a,H⟩:=pq H;have ⟨b,c⟩:=pq H;lp hpk a b c h
theorem lP {env:List (Nat×AV)} {blk:List (Nat×ABlk)} (hpk:PK cx ks) (H:(gE s env,gB s id blk,(kC (lk blk) env&&ks.all (λk=>(lk blk k).isSome)),uY (lk blk) blk)=(vE id env,vB id blk,true,true)):Imp cx.pk s (mkS env blk):=have ⟨a,H⟩:=pq H;have ⟨b,H⟩:=pq H;have ⟨c,d⟩:=pq H;lp hpk a b c d
theorem iX {c:Code} (env:List (Nat×AV)) (blk:List (Nat×ABlk)) (hpk:PK cx ks) (H:(gE s env,gB s id blk,(kC (lk blk) env&&ks.all (λk=>(lk blk k).isSome)),uY (lk blk) blk)=(vE id env,vB id blk,true,true)) (k:awp P cx c q (mkS env blk)):awp P cx c q s:=im (lP hpk H) k
theorem E {f:I->Exit×AS} {j i:I} {e:Exit} (h:some j=some i) (hpk:PK cx ks) {env:List (Nat×AV)} {blk:List (Nat×ABlk)} (H:(f j,gE s env,gB s id blk,(kC (lk blk) env&&ks.all (λk=>(lk blk k).isSome)),uY (lk blk) blk)=((e,mkS env blk),vE id env,vB id blk,true,true)):OQ cx f i e s:=by
 cases h;have ⟨a,H⟩:=pq H;exact ⟨by rw [a],by rw [a];exact lP hpk H⟩
theorem W {f:I->Exit×AS} {j i:I} {e:Exit} (h:some j=some i) (a:e=(f j).1) (b:Imp cx.pk s (f j).2):OQ cx f i e s:=by cases h;exact ⟨a,b⟩
theorem lR {env:List (Nat×AV)} {blk:List (Nat×ABlk)} (hpk:PK cx ks) (m:List (Nat×Nat))
  (H:(gE s env,gB s (rho m) blk,(kC (lk (bR (rho m) blk)) (rE (rho m) env)&&(ks.all (λk=>(lk (bR (rho m) blk) k).isSome) &&
   (((kR (rho m) blk).all λj=>(Nat.blt j BIG||Nat.ble BIG (rho (swp m) j))&&(kR (rho m) blk).all λj'=>!Nat.beq (rho (swp m) j) (rho (swp m) j')||Nat.beq j j')&&ks.all λk=>Nat.beq (rho (swp m) k) k))),
   uY (lk (bR (rho m) blk)) (bR (rho m) blk),rE (rho (swp m)) (rE (rho m) env),bR (rho (swp m)) (bR (rho m) blk))=(vE (AV.ren (rho m)) env,vB (ABlk.ren (rho m)) blk,true,true,env,blk)):Imp cx.pk s (mkS env blk):=
 have ⟨a,H⟩:=pq H;have ⟨b,H⟩:=pq H;have ⟨c,H⟩:=pq H;have ⟨d,H⟩:=pq H;have ⟨e,g⟩:=pq H;lr hpk m a b c d e g
theorem pU {pk:PKs} (t:Nat) {v:AV} {p:PV} {bs:List (Nat×ABlk)} (H:(s.env t,s.rd v)=(some v,some (p,bs))):Imp pk s (s.put t (.p p)):=have ⟨a,b⟩:=pq H;Imp.pure a b
theorem pV {pk:PKs} (t:Nat) {v:AV} {p:PV} {bs:List (Nat×ABlk)} (a:s.env t=some v) (b:s.rd v=some (p,bs)):Imp pk s (s.put t (.p p)):=Imp.pure a b
theorem pC {pk:PKs} (k:Nat) {l:List AV} (j:Nat) {z:AV} {p:PV} {bs:List (Nat×ABlk)} (H:(s.blk k,l[j]?,s.rd z)=(some (.var l),some z,some (p,bs))):Imp pk s (s.setb k (.var (l.set j (.p p)))):=have ⟨a,H⟩:=pq H;have ⟨b,c⟩:=pq H;Imp.pureC j a b c
theorem pD {pk:PKs} (k:Nat) {l:List AV} (j:Nat) {z:AV} {p:PV} {bs:List (Nat×ABlk)} (H:(s.blk k,l[j]?)=(some (.var l),some z)) (c:s.rd z=some (p,bs)):Imp pk s (s.setb k (.var (l.set j (.p p)))):=have ⟨a,b⟩:=pq H;Imp.pureC j a b c
theorem pM {pk:PKs} (t k:Nat) {c:PV} (H:(s.env t,s.blk k,Nat.blt 0 c.width)=(some (.nl c),none,true)):Imp pk s ((s.setb k (.buf c)).put t (.buf k 0)):=have ⟨a,H⟩:=pq H;have ⟨b,d⟩:=pq H;Imp.promote a b (Nat.le_of_ble_eq_true d)
theorem hA {f:FuncId} {fn:Func} {body:Code} {na:Nat} {en:List (Nat×AV)} {rs:AS} (E:I->AS) (j:I) (hf:P.funcs[f]? = some fn) (H:(fn.body,(fn.name == "runtime.NumGoroutine"),Nat.ble na fn.ntmps)=(some body,false,true))
  (hr:∀ cx:Ctx,PK cx []->vY P fn cx (E j) rs) (h:∀ cx:Ctx,cx.nt=fn.ntmps->PK cx []->awp P cx body (OQ cx (λj=>(.ret,E j)) j) (mkS en [])):Ok P f na (mkS en []) rs:=
 have ⟨a,H⟩:=pq H;have ⟨b,c⟩:=pq H;zLd (E j) hf a b (Nat.le_of_ble_eq_true c) (aL rfl) hr λcx n p=>kA (λj=>(.ret,E j)) j (h cx n p) ⟨rfl,Imp.refl⟩
theorem hB {f:FuncId} {fn:Func} {body:Code} {na:Nat} {en:List (Nat×AV)} {bl:ABlk} {rs:AS} (E:I->AS) (j:I) (hf:P.funcs[f]? = some fn) (H:(fn.body,(fn.name == "runtime.NumGoroutine"),Nat.ble na fn.ntmps)=(some body,false,true))
  (hr:∀ cx:Ctx,PK cx [0]->vY P fn cx (E j) rs) (h:∀ cx:Ctx,cx.nt=fn.ntmps->PK cx [0]->awp P cx body (OQ cx (λj=>(.ret,E j)) j) (mkS en [(0,bl)])):Ok P f na (mkS en [(0,bl)]) rs:=
 have ⟨a,H⟩:=pq H;have ⟨b,c⟩:=pq H;zLd (E j) hf a b (Nat.le_of_ble_eq_true c) (zMn rfl) hr λcx n p=>kA (λj=>(.ret,E j)) j (h cx n p) ⟨rfl,Imp.refl⟩
theorem hD {f:FuncId} {fn:Func} {body:Code} {na:Nat} {en:List (Nat×AV)} {B:List (Nat×List AV)} {rs:AS} {ks:List Nat} (E:I->AS) (j:I) (hf:P.funcs[f]? = some fn) (H:(fn.body,(fn.name == "runtime.NumGoroutine"),Nat.ble na fn.ntmps)=(some body,false,true)) (hks:kR id (bV B)=ks)
  (hr:∀ cx:Ctx,PK cx ks->vY P fn cx (E j) rs) (h:∀ cx:Ctx,cx.nt=fn.ntmps->PK cx ks->awp P cx body (OQ cx (λj=>(.ret,E j)) j) (mkS en (bV B))):Ok P f na (mkS en (bV B)) rs:=
 have ⟨a,H⟩:=pq H;have ⟨b,c⟩:=pq H;zLd (E j) hf a b (Nat.le_of_ble_eq_true c) (zNl rfl hks) hr λcx n p=>kA (λj=>(.ret,E j)) j (h cx n p) ⟨rfl,Imp.refl⟩
theorem hDo {f:FuncId} {fn:Func} {body:Code} {na:Nat} {en:List (Nat×AV)} {K:List (Nat×ABlk)} {rs:AS} {ks:List Nat} (E:I->AS) (j:I) (hf:P.funcs[f]? = some fn) (H:(fn.body,(fn.name == "runtime.NumGoroutine"),Nat.ble na fn.ntmps)=(some body,false,true)) (hks:∀ k,k<BIG->((mkS en K).blk k).isSome=true->k∈ks)
  (hr:∀ cx:Ctx,PK cx ks->vY P fn cx (E j) rs) (h:∀ cx:Ctx,cx.nt=fn.ntmps->PK cx ks->awp P cx body (OQ cx (λj=>(.ret,E j)) j) (mkS en K)):Ok P f na (mkS en K) rs:=
 have ⟨a,H⟩:=pq H;have ⟨b,c⟩:=pq H;zLd (E j) hf a b (Nat.le_of_ble_eq_true c) hks hr λcx n p=>kA (λj=>(.ret,E j)) j (h cx n p) ⟨rfl,Imp.refl⟩
theorem r1 [T:nZ P] {fn:Func} {rs:AS} {t:Nat} {av:AV} (H:(fn.results,s.env t,({ env:=lk [(0,av)],blk:=s.blk }:AS))=(#[.tmp t],some av,rs)):∀ cx:Ctx,PK cx ks->vY P fn cx s rs:=λ_ _=>have ⟨a,H⟩:=pq H;have ⟨b,c⟩:=pq H;tK T.ok a (.tmp _ _ b) (c▸Imp.refl)
section
variable {te:TE} {t1 t2 t3 t4 t5:TypeId} {x1 x2 x3 x4 x5:Operand} {v1 v2 v3 v4 v5:AV} {p1 p2 p3 p4 p5:PV} {b1 b2 b3 b4 b5:List (Nat×ABlk)}
theorem a1 (H:(s.get te t1 x1,s.rd v1)=(some v1,some (p1,b1))):mD s te [x1] [t1] [p1] (opS x1 v1++[]) (b1++[]):=have ⟨a,b⟩:=pq H;ac a b an
theorem a2 (H:(s.get te t1 x1,s.rd v1,s.get te t2 x2,s.rd v2)=(some v1,some (p1,b1),some v2,some (p2,b2))):mD s te [x1,x2] [t1,t2] [p1,p2] (opS x1 v1++(opS x2 v2++[])) (b1++(b2++[])):=have ⟨a,H⟩:=pq H;have ⟨b,H⟩:=pq H;ac a b (a1 H)
theorem a3 (H:(s.get te t1 x1,s.rd v1,s.get te t2 x2,s.rd v2,s.get te t3 x3,s.rd v3)=(some v1,some (p1,b1),some v2,some (p2,b2),some v3,some (p3,b3))):mD s te [x1,x2,x3] [t1,t2,t3] [p1,p2,p3] (opS x1 v1++(opS x2 v2++(opS x3 v3++[]))) (b1++(b2++(b3++[]))):=have ⟨a,H⟩:=pq H;have ⟨b,H⟩:=pq H;ac a b (a2 H)
theorem a4 (H:(s.get te t1 x1,s.rd v1,s.get te t2 x2,s.rd v2,s.get te t3 x3,s.rd v3,s.get te t4 x4,s.rd v4)=(some v1,some (p1,b1),some v2,some (p2,b2),some v3,some (p3,b3),some v4,some (p4,b4))):mD s te [x1,x2,x3,x4] [t1,t2,t3,t4] [p1,p2,p3,p4] (opS x1 v1++(opS x2 v2++(opS x3 v3++(opS x4 v4++[])))) (b1++(b2++(b3++(b4++[])))):=have ⟨a,H⟩:=pq H;have ⟨b,H⟩:=pq H;ac a b (a3 H)
end
end
section
variable {P:Program} {ops:Array Oper} {s:AS} {K:AS->List Mic->Prop} {A B D:Prop} {n:Nat} {ms:List Mic}
theorem RK.e (H:(K s [],fW n ms)=((fW n ms=true/\B),true)) (b:B):RK P ops [] s K:=have ⟨h,a⟩:=pq H;.nil (h▸⟨a,b⟩)
theorem RK.d (H:(K s [],fW n ms)=((fW n ms=true/\B/\D),true)) (b:B) (d:D):RK P ops [] s K:=have ⟨h,a⟩:=pq H;.nil (h▸⟨a,b,d⟩)
end
def evI (k:IntKind) (a b:Int):BinOp->Option PV
 | .add=>some (.int k (k.wrap (a+b)))
 | .sub=>some (.int k (k.wrap (a - b)))
 | .mul=>some (.int k (k.wrap (a*b)))
 | .and=>some (.int k (vA k a b))
 | .or=>some (.int k (ior k a b))
 | .xor=>some (.int k (wN k a b))
 | .andNot=>some (.int k (zIx k a b))
 | .eql=>some (.bool (a==b))
 | .neq=>some (.bool (a != b))
 | .lss=>some (.bool (decide (a<b)))
 | .leq=>some (.bool (decide (a<=b)))
 | .gtr=>some (.bool (decide (b<a)))
 | .geq=>some (.bool (decide (b<=a)))
 | _=>none
def evJ (a b:Int):BinOp->Option PV
 | .add=>some (.int .u8 (u8 (IntKind.u8.wrap (a+b))).toNat)
 | .sub=>some (.int .u8 (u8 (IntKind.u8.wrap (a - b))).toNat)
 | .mul=>some (.int .u8 (u8 (IntKind.u8.wrap (a*b))).toNat)
 | .and=>some (.int .u8 (u8 (vA .u8 a b)).toNat)
 | .or=>some (.int .u8 (u8 (ior .u8 a b)).toNat)
 | .xor=>some (.int .u8 (u8 (wN .u8 a b)).toNat)
 | .andNot=>some (.int .u8 (u8 (zIx .u8 a b)).toNat)
 | f=>evI .u8 a b f
def evT (a b:List UInt8):BinOp->Option PV
 | .eql=>some (.bool (SOp .eql a b))
 | .neq=>some (.bool (SOp .neq a b))
 | .lss=>some (.bool (SOp .lss a b))
 | .leq=>some (.bool (SOp .leq a b))
 | .gtr=>some (.bool (SOp .gtr a b))
 | .geq=>some (.bool (SOp .geq a b))
 | _=>none
def is8:IntKind->Bool
 | .u8=>true
 | _=>false
def evP (f:BinOp):AV->AV->Option PV
 | .p (.int k a),.p (.int k' b)=>bif decide (k=k') then bif is8 k then evJ a b f else evI k a b f else none
 | .p (.str a),.p (.str b)=>evT a b f
 | _,_=>none
def evA (te:TE) (t:TypeId) (f:Nat):AV->Option AV
 | .ptr k o=>match (te t).map TI.ty with
  | some (.struct fs)=>match fs[f]? with
   | some (ft,fo)=>match te ft with
    | some fi=>bif nzw fi then some (.ptr k (o+fo)) else none
    | none=>none
   | none=>none
  | _=>none
 | .p (.cptr (.agg l))=>match (te t).map TI.ty with
  | some (.struct fs)=>match fs[f]? with
   | some (ft,fo)=>match te ft with
    | some fi=>bif nzw fi then match iO fi.isAgg l fo fi.w with
     | some q=>some (.p (.cptr q))
     | none=>none else none
    | none=>none
   | none=>none
  | _=>none
 | _=>none
def evL (s:AS) (i:TI):AV->Option (AV×List (Nat×ABlk))
 | .ptr k o=>match s.blk k with
  | some (.var l)=>bif i.plain then match l[o]? with
   | some v=>some (v,[(k,.var l)])
   | none=>none else bif i.isAgg&&(Nat.beq o 0&&Nat.beq i.w l.length) then some (.ag l,[(k,.var l)]) else none
  | _=>none
 | .p (.cptr (.agg l))=>bif i.isAgg&&Nat.beq l.length i.w then some (.p (.agg l),[]) else none
 | .p (.cptr q)=>bif i.plain then some (.p q,[]) else none
 | _=>none
def evC (te:TE) (s d:TypeId):AV->Option AV
 | .p (.int k a)=>match (te s).map TI.ty,(te d).map TI.ty with
  | some (.int k'),some (.int k2)=>bif decide (k'=k) then bif is8 k2 then some (.p (.int .u8 (u8 a).toNat)) else some (.p (.int k2 (k2.wrap a))) else none
  | _,_=>none
 | _=>none
def ev1 (te:TE) (s:AS) (ty:TypeId):Op->Option (AV×List (Nat×AV)×List (Nat×ABlk))
 | .move x=>match s.get te ty x with
  | some v=>some (v,opS x v,[])
  | none=>none
 | .assign x=>match s.get te ty x with
  | some v=>some (v,opS x v,[])
  | none=>none
 | .binOp f tx x y t=>match s.get te tx x,s.get te t y with
  | some v,some w=>match evP f v w with
   | some p=>some (.p p,opS x v++opS y w,[])
   | none=>none
  | _,_=>none
 | .unOp .not tx x=>match s.get te tx x with
  | some (.p (.bool a))=>some (.p (.bool (!a)),opS x (.p (.bool a)),[])
  | _=>none
 | .fieldAddr t x f=>match s.get te 0 x with
  | some v=>match evA te t f v with
   | some w=>some (w,opS x v,[])
   | none=>none
  | none=>none
 | .load t x=>match s.get te 0 x,te t with
  | some v,some i=>match evL s i v with
   | some (w,bs)=>some (w,opS x v,bs)
   | none=>none
  | _,_=>none
 | .convert a b x=>match s.get te a x with
  | some v=>match evC te a b v with
   | some w=>some (w,opS x v,[])
   | none=>none
  | none=>none
 | .extract x n=>match s.get te 0 x with
  | some (.tu l)=>match l[n]? with
   | some v=>some (v,opS x (.tu l),[])
   | none=>none
  | _=>none
 | .nilCheck x=>match s.get te 0 x with
  | some (.ptr k n)=>some (.ptr k n,opS x (.ptr k n),[])
  | _=>none
 | _=>none
section
variable {P:Program} {te:TE} {s:AS} {o:Oper}
theorem zX2 {α:Type} {c:Bool} {x:Option α} {y:α} (h:(bif c then x else none)=some y):c=true/\x=some y:=by cases c<;>simp_all
theorem zYx (hok:yV P te) {f:BinOp} {tx ty:TypeId} {x y:Operand} {k:IntKind} {a b:Int} {p:PV} (ho:o.op=.binOp f tx x y ty) (hx:s.get te tx x=some (.p (.int k a))) (hy:s.get te ty y=some (.p (.int k b))) (h:evI k a b f=some p):VA P o s (opS x (.p (.int k a))++opS y (.p (.int k b))) [] (.p p):=by
 cases f<;>simp only [evI,Option.some.injEq,reduceCtorEq] at h<;>subst h
 ·exact iop hok .add ho hx hy
 ·exact iop hok .sub ho hx hy
 ·exact iop hok .mul ho hx hy
 ·exact iop hok .and ho hx hy
 ·exact iop hok .or ho hx hy
 ·exact iop hok .xor ho hx hy
 ·exact iop hok .andNot ho hx hy
 ·exact cmp hok .eql ho hx hy
 ·exact cmp hok .neq ho hx hy
 ·exact cmp hok .lss ho hx hy
 ·exact cmp hok .leq ho hx hy
 ·exact cmp hok .gtr ho hx hy
 ·exact cmp hok .geq ho hx hy
theorem yD9 (hok:yV P te) {f:BinOp} {tx ty:TypeId} {x y:Operand} {a b:Int} {p:PV} (ho:o.op=.binOp f tx x y ty) (hx:s.get te tx x=some (.p (.int .u8 a))) (hy:s.get te ty y=some (.p (.int .u8 b))) (h:evJ a b f=some p):VA P o s (opS x (.p (.int .u8 a))++opS y (.p (.int .u8 b))) [] (.p p):=by
 cases f<;>simp only [evJ] at h<;>first | exact zYx hok ho hx hy h | (simp only [Option.some.injEq] at h;subst h)
 ·exact zQo hok .add ho hx hy
 ·exact zQo hok .sub ho hx hy
 ·exact zQo hok .mul ho hx hy
 ·exact zQo hok .and ho hx hy
 ·exact zQo hok .or ho hx hy
 ·exact zQo hok .xor ho hx hy
 ·exact zQo hok .andNot ho hx hy
theorem yE5 (hok:yV P te) {f:BinOp} {tx ty:TypeId} {x y:Operand} {a b:List UInt8} {p:PV} (ho:o.op=.binOp f tx x y ty) (hx:s.get te tx x=some (.p (.str a))) (hy:s.get te ty y=some (.p (.str b))) (h:evT a b f=some p):VA P o s (opS x (.p (.str a))++opS y (.p (.str b))) [] (.p p):=by
 cases f<;>simp only [evT,Option.some.injEq,reduceCtorEq] at h<;>subst h
 ·exact scm hok .eql ho hx hy
 ·exact scm hok .neq ho hx hy
 ·exact scm hok .lss ho hx hy
 ·exact scm hok .leq ho hx hy
 ·exact scm hok .gtr ho hx hy
 ·exact scm hok .geq ho hx hy
theorem yEb (hok:yV P te) {f:BinOp} {tx ty:TypeId} {x y:Operand} {v w:AV} {p:PV} (ho:o.op=.binOp f tx x y ty) (hx:s.get te tx x=some v) (hy:s.get te ty y=some w) (h:evP f v w=some p):VA P o s (opS x v++opS y w) [] (.p p):=by
 unfold evP at h
 split at h
 ·rename_i k a k' b
  by_cases e:k=k'
  ·subst e
   simp only [decide_true,cond_true] at h
   cases k<;>simp only [is8,cond_true,cond_false] at h<;>first | exact yD9 hok ho hx hy h | exact zYx hok ho hx hy h
  ·simp [e] at h
 ·exact yE5 hok ho hx hy h
 ·cases h
theorem yD5 (hok:yV P te) {t:TypeId} {f:Nat} {x:Operand} {v w:AV} (ho:o.op=.fieldAddr t x f) (hx:s.get te 0 x=some v) (h:evA te t f v=some w):VA P o s (opS x v) [] w:=by
 unfold evA at h
 split at h
 ·split at h<;>try cases h
  split at h<;>try cases h
  split at h<;>try cases h
  rename_i h1 _ _ _ h2 _ _ h3
  obtain ⟨hz,h⟩:=zX2 h
  cases h
  exact fa hok ho h1 h2 h3 hz hx
 ·split at h<;>try cases h
  split at h<;>try cases h
  split at h<;>try cases h
  rename_i h1 _ _ _ h2 _ _ h3
  obtain ⟨hz,h⟩:=zX2 h
  split at h<;>try cases h
  rename_i h4
  exact fc hok ho h1 h2 h3 hz hx h4
 ·cases h
theorem yE6 (hok:yV P te) {t:TypeId} {x:Operand} {v w:AV} {i:TI} {bs:List (Nat×ABlk)} (ho:o.op=.load t x) (hx:s.get te 0 x=some v) (ht:te t=some i) (h:evL s i v=some (w,bs)):VA P o s (opS x v) bs w:=by
 unfold evL at h
 split at h
 ·split at h<;>try cases h
  rename_i h1
  cases hp:i.plain<;>simp only [hp,cond_true,cond_false] at h
  ·obtain ⟨hz,h⟩:=zX2 h
   simp only [Bool.and_eq_true] at hz
   cases h
   have:=Nat.eq_of_beq_eq_true hz.2.1
   subst this
   exact ldW hok ho ht hz.1 hx h1 hz.2.2
  ·split at h<;>try cases h
   exact ld hok ho ht hp hx h1 ‹_›
 ·obtain ⟨hz,h⟩:=zX2 h
  simp only [Bool.and_eq_true] at hz
  cases h
  exact ldCN hok ho ht hz.1 hx hz.2
 ·rename_i q hq
  obtain ⟨hp,h⟩:=zX2 h
  cases h
  exact ldC hok ho ht hp hx (by cases q<;>first | rfl | exact absurd rfl (hq _))
 ·cases h
theorem yDx (hok:yV P te) {a b:TypeId} {x:Operand} {v w:AV} (ho:o.op=.convert a b x) (hx:s.get te a x=some v) (h:evC te a b v=some w):VA P o s (opS x v) [] w:=by
 unfold evC at h
 split at h
 ·split at h<;>try cases h
  rename_i k c _ _ k' k2 h1 h2
  by_cases e:k'=k
  ·subst e
   simp only [decide_true,cond_true] at h
   cases k2<;>simp only [is8,cond_true,cond_false,Option.some.injEq] at h<;>subst h<;>first | exact va_conv8 hok ho h1 h2 hx | exact va_conv hok ho h1 h2 hx
  ·simp [e] at h
 ·cases h
theorem yE0 (hok:yV P te) {v:AV} {rs:List (Nat×AV)} {bs:List (Nat×ABlk)} (h:ev1 te s o.type o.op=some (v,rs,bs)):VA P o s rs bs v:=by
 unfold ev1 at h
 split at h
 ·rename_i ho
  split at h<;>cases h
  exact mv hok ho ‹_›
 ·rename_i ho
  split at h<;>cases h
  exact asg hok ho ‹_›
 ·rename_i ho
  split at h<;>try cases h
  split at h<;>cases h
  exact yEb hok ho ‹_› ‹_› ‹_›
 ·rename_i ho
  split at h<;>cases h
  exact not' hok ho ‹_›
 ·rename_i ho
  split at h<;>try cases h
  split at h<;>cases h
  exact yD5 hok ho ‹_› ‹_›
 ·rename_i ho
  split at h<;>try cases h
  split at h<;>cases h
  exact yE6 hok ho ‹_› ‹_› ‹_›
 ·rename_i ho
  split at h<;>try cases h
  split at h<;>cases h
  exact yDx hok ho ‹_› ‹_›
 ·rename_i ho
  split at h<;>try cases h
  split at h<;>cases h
  exact va_extractA ho ‹_› ‹_›
 ·rename_i ho
  split at h<;>cases h
  exact ncp hok ho ‹_›
 ·cases h
end
section
variable {P:Program} {ops:Array Oper} {s:AS} {r:List Oper} {K:AS->List Mic->Prop} {d:Nat} {ty:TypeId} {pos:String} {af:Array Edge} {v:AV} {op:Op} {rs:List (Nat×AV)} {bs:List (Nat×ABlk)}
theorem RK.ev [T:nZ P] (h:ev1 T.te s ty op=some (v,rs,bs)) (k:VK P ops r s K d rs bs v):RK P ops (⟨some d,op,ty,pos,af,none⟩:: r) s K:=RK.va rfl rfl (yE0 T.ok h) k
class Lit (b:Bool):Prop where
 x:True
instance:Lit true:=⟨trivial⟩
instance:Lit false:=⟨trivial⟩
theorem RK.gl {j dj:Nat} {b b2:Bool} [Lit b2] (H:((ops[j]?).bind (·.dst),s.env dj)=(some dj,some (.p (.bool b2)))) (k:bif b.xor b2 then RK P ops r (s.put d (.p (.tup []))) λs' ms=>K s' (⟨[(dj,.p (.bool b2))],[],[],some (d,some (.p (.tup []))),[]⟩:: ms) else RK P ops (⟨some d,op,ty,pos,af,none⟩:: r) s (GK K dj b)):RK P ops (⟨some d,op,ty,pos,af,some (j,b)⟩:: r) s K:=by
 cases b<;>cases b2
 ·exact RK.g rfl H k
 ·have ⟨a,c⟩:=pq H;exact RK.sk (j:=j) (b:=true) (b':=false) rfl (by rw [a,c];rfl) k
 ·have ⟨a,c⟩:=pq H;exact RK.sk (j:=j) (b:=false) (b':=true) rfl (by rw [a,c];rfl) k
 ·exact RK.g rfl H k
theorem zO2 {dj:Nat} (H:s.env dj=some v):s.put dj v=s:=by
 unfold AS.put
 cases s with
 | mk e b=>
  simp only [AS.mk.injEq,and_true]
  funext t
  cases hb:Nat.beq t dj with
  | true=>have:=Nat.eq_of_beq_eq_true hb;subst this;simp only [cond_true];exact H.symm
  | false=>rfl
variable {β:Type} {c:Bool} {x y:Option β} {z:β}
theorem RK.gp {dst:Option Nat} {j dj:Nat} {b:Bool} (h:(bif c then x else y)=some z) (H:((ops[j]?).bind (·.dst),s.env dj)=(some dj,some (.p (.bool c)))) (k:x=some z->RK P ops (⟨dst,op,ty,pos,af,some (j,b)⟩:: r) (s.put dj (.p (.bool true))) K) (l:y=some z->RK P ops (⟨dst,op,ty,pos,af,some (j,b)⟩:: r) (s.put dj (.p (.bool false))) K):RK P ops (⟨dst,op,ty,pos,af,some (j,b)⟩:: r) s K:=by
 have ⟨_,g⟩:=pq H
 cases c
 ·rw [<- zO2 g];exact l h
 ·rw [<- zO2 g];exact k h
theorem RK.pk [T:nZ P] {t:Nat} {a b:Operand} {b2:Bool} [Lit b2] (H:(s.env t,s.get T.te ty (bif b2 then a else b))=(some (.p (.bool b2)),some v)) (k:VK P ops r s K d ([(t,.p (.bool b2))]++opS (bif b2 then a else b) v) [] v):RK P ops (⟨some d,.pick (.tmp t) a b,ty,pos,af,none⟩:: r) s K:=by
 cases b2
 ·exact RK.pF rfl H k
 ·exact RK.pT rfl H k
end
class zLa (s:AS):Prop where
 x:True
instance {s:AS} {d:Nat} {v:AV}:zLa (s.put d v):=⟨trivial⟩
instance {s:AS} {d:Nat} {v:ABlk}:zLa (s.setb d v):=⟨trivial⟩
instance {s:AS} {m:Mic}:zLa (m.upd s):=⟨trivial⟩
def cid:Code->Nat
 | .region i _ _=>i
 | .cond (.tmp t) _ _=>t
 | .block i _=>i+500000
 | .loop c=>cid c
 | .seq a _=>cid a+1000
 | .ret=>999999
 | _=>888888
abbrev EB:=List (Nat×AV)×List (Nat×ABlk)
def mkE (e:EB) (k:EB):AS:=mkS (e.1++k.1) (e.2++k.2)
def Has (s:AS) (k:EB):Prop:=(gE s k.1,gB s id k.2)=(vE id k.1,vB id k.2)
inductive Wp (P:Program) (cx:Ctx) (c:Code) (Q:Exit->AS->Prop) (s:AS):Prop where
 | mk (a:awp P cx c Q s)
section
variable {P:Program} {cx:Ctx} {q:Exit->AS->Prop} {s:AS} {α β I:Type} {r:β} {ks:List Nat}
def isS:Code->Bool
 | .seq _ _ | .block _ _ | .skip | .exit _ | .ret=>true
 | _=>false
def zZk (k:AS->Prop) (Q:Exit->AS->Prop):Exit->AS->Prop
 | .normal,s=>k s
 | e,s=>Q e s
def nxt (P:Program) (cx:Ctx) (q:Exit->AS->Prop) (s:AS):Code->Prop
 | .seq x y=>Wp P cx x (zZk (Wp P cx y q) q) s
 | .block i c=>Wp P cx c (zKl i q) s
 | .skip=>q .normal s
 | .exit i=>q (.exit i) s
 | .ret=>q .ret s
 | _=>False
theorem Z1 {c:Code} (h:isS c=true) (k:nxt P cx q s c):Wp P cx c q s:=by
 cases c<;>first | cases h | skip
 ·exact ⟨K k⟩
 ·refine ⟨S (zB2 k.1 λe s h=>?_)⟩
  cases e<;>first | exact h.1 | exact h
 ·exact ⟨B k.1⟩
 ·exact ⟨X k⟩
 ·exact ⟨T k⟩
theorem G1 {ops:Array Oper} {id n:Nat} (hnt:cx.nt=n) (h:RK P ops ops.toList s λs' ms=>fW n ms=true/\q .normal s'):Wp P cx (.region id ops false) q s:=⟨rgn hnt h⟩
theorem Y1 {ops:Array Oper} {id n:Nat} (hnt:cx.nt=n) (hm:P.follows .mixedOrders=true) (h:RK P ops ops.toList s λs' ms=>fW n ms=true/\(pA ops ms&&zK0 ops)=true/\q .normal s'):Wp P cx (.region id ops true) q s:=⟨rgd hnt hm h⟩
theorem A1 {t:Nat} {x y:Code} {b:Bool} (he:b=true) (hc:s.env t=some (.p (.bool b))) (h:Wp P cx x q s):Wp P cx (.cond (.tmp t) x y) q s:=⟨cT he hc h.1⟩
theorem F1 {t:Nat} {x y:Code} {b:Bool} (he:b=false) (hc:s.env t=some (.p (.bool b))) (h:Wp P cx y q s):Wp P cx (.cond (.tmp t) x y) q s:=⟨cF he hc h.1⟩
variable {m:Option α} {k:α->Option β}
theorem Jg {c:Code} (h:m.bind k=some r) (f:α->AS) (x:∀ j,m=some j->Wp P cx c (OQ cx (λj=>(.normal,f j)) j) s) (y:∀ j,k j=some r->q .normal (f j)):Wp P cx c q s:=⟨J h f (λj h=>(x j h).1) y⟩
theorem Jn {c:Code} (z:isS c=true) (h:m.bind k=some r) (f:α->AS) (x:∀ j,m=some j->nxt P cx (OQ cx (λj=>(.normal,f j)) j) s c) (y:∀ j,k j=some r->q .normal (f j)):Wp P cx c q s:=Jg h f (λj h=>Z1 z (x j h)) y
theorem Jr (i:Nat) {o:Array Oper} {n:Nat} (hnt:cx.nt=n) (h:m.bind k=some r) (e:EB) (_:Has s e) (F:α->EB) (x:∀ j,m=some j->RK P o o.toList s λs' ms=>fW n ms=true/\OQ cx (λj=>(.normal,mkE (F j) e)) j .normal s') (y:∀ j,k j=some r->q .normal (mkE (F j) e)):Wp P cx (.region i o false) q s:=Jg h _ (λj h=>G1 hnt (x j h)) y
theorem Jy (i:Nat) {o:Array Oper} {n:Nat} (hnt:cx.nt=n) (hm:P.follows .mixedOrders=true) (h:m.bind k=some r) (e:EB) (_:Has s e) (F:α->EB) (x:∀ j,m=some j->RK P o o.toList s λs' ms=>fW n ms=true/\(pA o ms&&zK0 o)=true/\OQ cx (λj=>(.normal,mkE (F j) e)) j .normal s') (y:∀ j,k j=some r->q .normal (mkE (F j) e)):Wp P cx (.region i o true) q s:=Jg h _ (λj h=>Y1 hnt hm (x j h)) y
theorem Js (i:Nat) {c:Code} (_:cid c=i) (z:isS c=true) (h:m.bind k=some r) (e:EB) (_:Has s e) (F:α->EB) (x:∀ j,m=some j->nxt P cx (OQ cx (λj=>(.normal,mkE (F j) e)) j) s c) (y:∀ j,k j=some r->q .normal (mkE (F j) e)):Wp P cx c q s:=Jn z h _ x y
theorem Di (i:Nat) {c:Code} (_:cid c=i) (z:isS c=true) (h:m.bind k=some r) (e:EB) (_:Has s e) (f:EB->α->Exit×AS) (x:∀ j,m=some j->nxt P cx (OQ cx (f e) j) s c) (y:∀ j,k j=some r->q (f e j).1 (f e j).2):Wp P cx c q s:=⟨D h _ (λj h=>(Z1 z (x j h)).1) y⟩
theorem Qi (i:Nat) {X:Type} {body:Code} {step:X->Option (X ⊕ α)} {n:Nat} {x0:X} (_:cid body=i) (h:(zP step n x0).bind k=some r) (e:EB) (_:Has s e) (l:Nat) (E:X->EB) (F:α->EB) (hi:Imp cx.pk s (mkE (E x0) e))
  (hb:∀ x r,step x=some r->Wp P cx body (OQ cx (LF (λx=>mkE (E x) e) λy=>(.exit l,mkE (F y) e)) r) (mkE (E x) e)) (y:∀ j,k j=some r->q (.exit l) (mkE (F j) e)):Wp P cx (.loop body) q s:=⟨Q h l _ _ hi (λx r h=>(hb x r h).1) y⟩
theorem Ui (i:Nat) {X:Type} {body:Code} {step:X->Option (X ⊕ α)} {n:Nat} {x0:X} (_:cid body=i) (h:(zP step n x0).bind k=some r) (e:EB) (_:Has s e) (E:X->EB) (f:EB->α->Exit×AS) (hi:Imp cx.pk s (mkE (E x0) e)) (hne:∀ y,(f e y).1≠.normal)
  (hb:∀ x r,step x=some r->Wp P cx body (OQ cx (LF (λx=>mkE (E x) e) (f e)) r) (mkE (E x) e)) (y:∀ j,k j=some r->q (f e j).1 (f e j).2):Wp P cx (.loop body) q s:=⟨U h _ _ hi hne (λx r h=>(hb x r h).1) y⟩
theorem Qj (i:Nat) {X:Type} {body:Code} {step:X->Option (X ⊕ α)} {n:Nat} {x0:X} (_:cid body=i) (h:(zP step n x0).bind k=some r) (e:EB) (_:Has s e) (d:EB) (_:Has s d) (l:Nat) (E:X->EB) (F:α->EB) (hi:Imp cx.pk s (mkE (E x0) e))
  (hb:∀ x r,step x=some r->Wp P cx body (OQ cx (LF (λx=>mkE (E x) e) λy=>(.exit l,mkE (F y) d)) r) (mkE (E x) e)) (y:∀ j,k j=some r->q (.exit l) (mkE (F j) d)):Wp P cx (.loop body) q s:=⟨Q h l _ _ hi (λx r h=>(hb x r h).1) y⟩
theorem Uj (i:Nat) {X:Type} {body:Code} {step:X->Option (X ⊕ α)} {n:Nat} {x0:X} (_:cid body=i) (h:(zP step n x0).bind k=some r) (e:EB) (_:Has s e) (d:EB) (_:Has s d) (E:X->EB) (f:EB->α->Exit×AS) (hi:Imp cx.pk s (mkE (E x0) e)) (hne:∀ y,(f d y).1≠.normal)
  (hb:∀ x r,step x=some r->Wp P cx body (OQ cx (LF (λx=>mkE (E x) e) (f d)) r) (mkE (E x) e)) (y:∀ j,k j=some r->q (f d j).1 (f d j).2):Wp P cx (.loop body) q s:=⟨U h _ _ hi hne (λx r h=>(hb x r h).1) y⟩
theorem iZ (i:Nat) {c:Code} [zLa s] (_:cid c=i) (env:List (Nat×AV)) (blk:List (Nat×ABlk)) (hpk:PK cx ks) (H:(gE s env,gB s id blk,(kC (lk blk) env&&ks.all (λk=>(lk blk k).isSome)),uY (lk blk) blk)=(vE id env,vB id blk,true,true)) (k:Wp P cx c q (mkS env blk)):Wp P cx c q s:=⟨iX env blk hpk H k.1⟩
theorem hW {f:FuncId} {fn:Func} {body:Code} {na:Nat} {en:List (Nat×AV)} {rs:AS} (E:I->AS) (j:I) (hf:P.funcs[f]? = some fn) (H:(fn.body,(fn.name == "runtime.NumGoroutine"),Nat.ble na fn.ntmps)=(some body,false,true))
  (hr:∀ cx:Ctx,PK cx []->vY P fn cx (E j) rs) (h:∀ cx:Ctx,cx.nt=fn.ntmps->PK cx []->Wp P cx body (OQ cx (λj=>(.ret,E j)) j) (mkS en [])):Ok P f na (mkS en []) rs:=hA E j hf H hr λcx n p=>(h cx n p).1
theorem hX {f:FuncId} {fn:Func} {body:Code} {na:Nat} {en:List (Nat×AV)} {bl:ABlk} {rs:AS} (E:I->AS) (j:I) (hf:P.funcs[f]? = some fn) (H:(fn.body,(fn.name == "runtime.NumGoroutine"),Nat.ble na fn.ntmps)=(some body,false,true))
  (hr:∀ cx:Ctx,PK cx [0]->vY P fn cx (E j) rs) (h:∀ cx:Ctx,cx.nt=fn.ntmps->PK cx [0]->Wp P cx body (OQ cx (λj=>(.ret,E j)) j) (mkS en [(0,bl)])):Ok P f na (mkS en [(0,bl)]) rs:=hB E j hf H hr λcx n p=>(h cx n p).1
theorem hY {f:FuncId} {fn:Func} {body:Code} {na:Nat} {en:List (Nat×AV)} {B:List (Nat×List AV)} {rs:AS} {ks:List Nat} (E:I->AS) (j:I) (hf:P.funcs[f]? = some fn) (H:(fn.body,(fn.name == "runtime.NumGoroutine"),Nat.ble na fn.ntmps)=(some body,false,true)) (hks:kR id (bV B)=ks)
  (hr:∀ cx:Ctx,PK cx ks->vY P fn cx (E j) rs) (h:∀ cx:Ctx,cx.nt=fn.ntmps->PK cx ks->Wp P cx body (OQ cx (λj=>(.ret,E j)) j) (mkS en (bV B))):Ok P f na (mkS en (bV B)) rs:=hD E j hf H hks hr λcx n p=>(h cx n p).1
theorem hYo {f:FuncId} {fn:Func} {body:Code} {na:Nat} {en:List (Nat×AV)} {K:List (Nat×ABlk)} {rs:AS} {ks:List Nat} (E:I->AS) (j:I) (hf:P.funcs[f]? = some fn) (H:(fn.body,(fn.name == "runtime.NumGoroutine"),Nat.ble na fn.ntmps)=(some body,false,true)) (hks:∀ k,k<BIG->((mkS en K).blk k).isSome=true->k∈ks)
  (hr:∀ cx:Ctx,PK cx ks->vY P fn cx (E j) rs) (h:∀ cx:Ctx,cx.nt=fn.ntmps->PK cx ks->Wp P cx body (OQ cx (λj=>(.ret,E j)) j) (mkS en K)):Ok P f na (mkS en K) rs:=hDo E j hf H hks hr λcx n p=>(h cx n p).1
theorem iM (i:Nat) {c:Code} {s':AS} (_:cid c=i) (h:Imp cx.pk s s') (k:Wp P cx c q s'):Wp P cx c q s:=⟨im h k.1⟩
def kF (P:Program) (cx:Ctx) (c:Code) (q:Exit->AS->Prop):Nat->AS->Prop
 | 0,_=>False
 | n+1,s=>Wp P cx c (zZk (kF P cx c q n) q) s
theorem zXx {c:Code}:∀ {n:Nat} {s:AS},kF P cx c q n s->zFt P cx c q n s
 | 0,_,h=>h
 | n+1,s,h=>zB2 h.1 λe s h=>by
  cases e<;>first | exact h | exact zXx h
theorem Rn (n:Nat) {c:Code} (h:kF P cx c q n s):Wp P cx (.loop c) q s:=⟨tH n (zXx h)⟩
theorem lV {env:List (Nat×AV)} {blk:List (Nat×ABlk)} (hpk:PK cx ks) (m:List (Nat×Nat))
  (H:(gE s env,(kC (lk (bR (rho m) blk)) (rE (rho m) env)&&(ks.all (λk=>(lk (bR (rho m) blk) k).isSome) &&
   (((kR (rho m) blk).all λj=>(Nat.blt j BIG||Nat.ble BIG (rho (swp m) j))&&(kR (rho m) blk).all λj'=>!Nat.beq (rho (swp m) j) (rho (swp m) j')||Nat.beq j j')&&ks.all λk=>Nat.beq (rho (swp m) k) k))),
   rE (rho (swp m)) (rE (rho m) env))=(vE (AV.ren (rho m)) env,true,env))
  (h:gB s (rho m) blk=vB (ABlk.ren (rho m)) blk/\uY (lk (bR (rho m) blk)) (bR (rho m) blk)=true/\bR (rho (swp m)) (bR (rho m) blk)=blk):Imp cx.pk s (mkS env blk):=
 have ⟨a,H⟩:=pq H;have ⟨b,c⟩:=pq H;lr hpk m a h.1 b h.2.1 c h.2.2
structure OF (cx:Ctx) (E:I->AS) (j:I) (e:Exit) (s:AS):Prop where
 a:e=.ret∨e=.normal
 b:Imp cx.pk s (E j)
theorem hR {f:FuncId} {fn:Func} {body:Code} {na:Nat} {en:List (Nat×AV)} {bl:ABlk} {rs:AS} (E:I->AS) (j:I) (hf:P.funcs[f]? = some fn) (H:(fn.body,(fn.name == "runtime.NumGoroutine"),Nat.ble na fn.ntmps)=(some body,false,true))
  (hr:∀ cx:Ctx,PK cx [0]->vY P fn cx (E j) rs) (h:∀ cx:Ctx,cx.nt=fn.ntmps->PK cx [0]->Wp P cx body (OF cx E j) (mkS en [(0,bl)])):Ok P f na (mkS en [(0,bl)]) rs:=
 have ⟨a,H⟩:=pq H;have ⟨b,c⟩:=pq H;zOb (E j) hf a b (Nat.le_of_ble_eq_true c) (zMn rfl) hr λcx n p=>zB2 (h cx n p).1 λ_ _ h=>⟨h.1,h.2⟩
theorem hRo {f:FuncId} {fn:Func} {body:Code} {na:Nat} {en:List (Nat×AV)} {K:List (Nat×ABlk)} {rs:AS} {ks:List Nat} (E:I->AS) (j:I) (hf:P.funcs[f]? = some fn) (H:(fn.body,(fn.name == "runtime.NumGoroutine"),Nat.ble na fn.ntmps)=(some body,false,true)) (hks:∀ k,k<BIG->((mkS en K).blk k).isSome=true->k∈ks)
  (hr:∀ cx:Ctx,PK cx ks->vY P fn cx (E j) rs) (h:∀ cx:Ctx,cx.nt=fn.ntmps->PK cx ks->Wp P cx body (OF cx E j) (mkS en K)):Ok P f na (mkS en K) rs:=
 have ⟨a,H⟩:=pq H;have ⟨b,c⟩:=pq H;zOb (E j) hf a b (Nat.le_of_ble_eq_true c) hks hr λcx n p=>zB2 (h cx n p).1 λ_ _ h=>⟨h.1,h.2⟩
theorem Wr {E:I->AS} {j i:I} {e:Exit} (h:some j=some i) (a:e=.ret∨e=.normal) (b:Imp cx.pk s (E j)):OF cx E i e s:=by cases h;exact ⟨a,b⟩
theorem Lv {E:I->AS} {i:I} {e:Exit} (h:OF cx E i e s):OF cx E i e s:=h
theorem Cl {t:Nat} {x y:Code} {b:Bool} [Lit b] (H:s.env t=some (.p (.bool b))) (h:bif b then Wp P cx x q s else Wp P cx y q s):Wp P cx (.cond (.tmp t) x y) q s:=by
 cases b
 ·exact F1 rfl H h
 ·exact A1 rfl H h
theorem Cs {t:Nat} {X Y:Code} {c:Bool} {x y:Option β} (h:(bif c then x else y)=some r) (H:s.env t=some (.p (.bool c))) (k:x=some r->Wp P cx X q s) (l:y=some r->Wp P cx Y q s):Wp P cx (.cond (.tmp t) X Y) q s:=by
 cases c
 ·exact F1 rfl H (l h)
 ·exact A1 rfl H (k h)
theorem Lo {c:Code} (h:Wp P cx (.loop c) q s):Wp P cx (.loop c) q s:=h
theorem Lu {f:I->Exit×AS} {i:I} {e:Exit} (h:OQ cx f i e s):OQ cx f i e s:=h
end
theorem Ru {P:Program} {ops:Array Oper} {l:List Oper} {s:AS} {K:AS->List Mic->Prop} (h:RK P ops l s K):RK P ops l s K:=h
end Go.Sw
namespace Go.Proofs.TT
open Go Go.Sw
abbrev zF.zv (r:List AV):List AV:=qI 0 :: .nl (.sl 1 []) :: qI 0 :: qI 0 :: qI 0 :: qB false :: .nl (.sl 1 []) :: .nl (.sl 1 []) :: .nl (.bytes []) :: qI 0 :: qI 0 :: qI 0 :: qI 0 :: qB false :: .nl (.sl 1 []) :: qI 0 :: qI 0 :: .nl (.sl 8 []) :: qI 0 :: qI 0 :: qI 0 :: qI 0 :: qI 0 :: qI 0 :: .nl (.sl 2 []) :: qB false :: qB false :: .nl (.sl 1 []) :: qI 0 :: qI 0 :: qB false :: qI 0 :: .nl (.sl 8 []) :: .nl (.sl 9 []) :: .nl (.sl 1 []) :: .nl (.sl 1 []) :: qB false :: qI 0 :: qB false :: .nl (.sl 8 []) :: r
abbrev zB.zv (r:List AV):List AV:=.nl (.sl 1 []) :: qI 0 :: qI 0 :: qI 0 :: qB false :: .nl (.sl 1 []) :: .nl (.sl 1 []) :: .nl (.bytes []) :: qI 0 :: qI 0 :: qI 0 :: qI 0 :: qB false :: .nl (.sl 1 []) :: qI 0 :: qI 0 :: .nl (.sl 8 []) :: qI 0 :: qI 0 :: qI 0 :: qI 0 :: qI 0 :: qI 0 :: .nl (.sl 2 []) :: qB false :: qB false :: .nl (.sl 1 []) :: qI 0 :: qI 0 :: qB false :: qI 0 :: .nl (.sl 8 []) :: .nl (.sl 9 []) :: .nl (.sl 1 []) :: .nl (.sl 1 []) :: qB false :: qI 0 :: r
abbrev zE.zv (r:List AV):List AV:=.nl (.sl 1 []) :: .nl (.sl 1 []) :: .nl (.bytes []) :: qI 0 :: qI 0 :: qI 0 :: qI 0 :: qB false :: .nl (.sl 1 []) :: qI 0 :: qI 0 :: .nl (.sl 8 []) :: qI 0 :: qI 0 :: qI 0 :: qI 0 :: qI 0 :: qI 0 :: .nl (.sl 2 []) :: qB false :: qB false :: .nl (.sl 1 []) :: qI 0 :: qI 0 :: qB false :: qI 0 :: .nl (.sl 8 []) :: .nl (.sl 9 []) :: .nl (.sl 1 []) :: .nl (.sl 1 []) :: r
abbrev zW.zv (r:List AV):List AV:=.nl (.sl 1 []) :: .nl (.sl 1 []) :: .nl (.bytes []) :: qI 0 :: qI 0 :: qI 0 :: qI 0 :: qB false :: .nl (.sl 1 []) :: qI 0 :: qI 0 :: .nl (.sl 8 []) :: qI 0 :: qI 0 :: qI 0 :: qI 0 :: qI 0 :: qI 0 :: .nl (.sl 2 []) :: r
abbrev yL.av (x:yL) (r:List AV):List AV:=qB x.Started :: qB x.Stopped :: qL 1 (eSl 1 PV.bytes) x.Registers.Banks :: qI x.Registers.Updates :: qI x.Clock :: qB x.Safe :: qI x.Draws :: qL 8 zL.pv x.Sessions :: qL 9 zX.pv x.Objects :: qL 1 (PV.int .i64) x.ReadLocks :: qL 1 (PV.int .i64) x.WriteLocks :: r
abbrev yU.av (x:yU) (r:List AV):List AV:=qI x.Machine :: qI x.Active :: qL 5 zQ.pv x.Quoting :: qY x.Parent.Auth :: qY x.Parent.Seed :: qY x.Parent.Data :: qI x.Parents.Kind :: qI x.Parents.Attr :: qI x.Parents.Height :: qY x.Parents.Policy :: qY x.Parents.Unique :: r
abbrev yU.zv (r:List AV):List AV:=qI 0 :: qI 0 :: .nl (.sl 5 []) :: .nl (.bytes []) :: .nl (.bytes []) :: .nl (.bytes []) :: qI 0 :: qI 0 :: qI 0 :: .nl (.bytes []) :: .nl (.bytes []) :: r
abbrev zH.av (x:zH) (r:List AV):List AV:=qI x.Kind :: qI x.Selection.a0 :: qI x.Selection.a1 :: qY x.Digest :: qI x.N :: qI x.Op :: qY x.Operand :: qY x.Name :: qY x.Ref :: qL 1 PV.bytes x.Branches :: r
abbrev zH.zv (r:List AV):List AV:=qI 0 :: qI 0 :: qI 0 :: .nl (.bytes []) :: qI 0 :: qI 0 :: .nl (.bytes []) :: .nl (.bytes []) :: .nl (.bytes []) :: .nl (.sl 1 []) :: r
abbrev zX.av (x:zX) (r:List AV):List AV:=qI x.Public.Kind :: qI x.Public.Attr :: qI x.Public.Height :: qY x.Public.Policy :: qY x.Public.Unique :: qY x.Sensitive.Auth :: qY x.Sensitive.Seed :: qY x.Sensitive.Data :: qI x.Hierarchy :: r
abbrev zJ.av (x:zJ) (r:List AV):List AV:=qI x.N :: qI x.Kind :: qI x.Attr :: qI x.Size :: qY x.Policy :: qY x.Auth :: qB x.Written :: qY x.Data :: r
abbrev zJ.zv (r:List AV):List AV:=qI 0 :: qI 0 :: qI 0 :: qI 0 :: .nl (.bytes []) :: .nl (.bytes []) :: qB false :: .nl (.bytes []) :: r
abbrev zL.av (x:zL) (r:List AV):List AV:=qI x.Kind :: qY x.Nonce :: qY x.Digest :: qI x.Updates :: qI x.Localities :: qI x.Command :: qI x.Deadline :: qB x.AuthValue :: r
abbrev zL.zv (r:List AV):List AV:=qI 0 :: .nl (.bytes []) :: .nl (.bytes []) :: qI 0 :: qI 0 :: qI 0 :: qI 0 :: qB false :: r
abbrev yO.av (x:yO) (r:List AV):List AV:=qI x.Epoch :: qL 1 (eSl 4 zD.pv) x.Chains :: qI x.Public.Kind :: qI x.Public.Attr :: qI x.Public.Height :: qY x.Public.Policy :: qY x.Public.Unique :: qY x.Private :: r
abbrev yO.zv (r:List AV):List AV:=qI 0 :: .nl (.sl 1 []) :: qI 0 :: qI 0 :: qI 0 :: .nl (.bytes []) :: .nl (.bytes []) :: .nl (.bytes []) :: r
abbrev yG.av (x:yG) (r:List AV):List AV:=qI x.Failed :: qI x.Max :: qI x.Recovery :: qI x.Since :: qI x.Closed :: qI x.Penalty :: r
abbrev yG.zv (r:List AV):List AV:=qI 0 :: qI 0 :: qI 0 :: qI 0 :: qI 0 :: qI 0 :: r
abbrev yC.av (x:yC) (r:List AV):List AV:=qL 1 PV.bytes x.Areas :: qI x.Writes :: qI x.CutAt :: qI x.Torn :: qB x.Off :: r
abbrev zQ.av (x:zQ) (r:List AV):List AV:=qI x.Kind :: qI x.Attr :: qI x.Height :: qY x.Policy :: qY x.Unique :: r
abbrev zQ.zv (r:List AV):List AV:=qI 0 :: qI 0 :: qI 0 :: .nl (.bytes []) :: .nl (.bytes []) :: r
abbrev zK.av (x:zK) (r:List AV):List AV:=qI x.Code :: qL 1 (PV.int .i64) x.Handles :: qL 3 zO.pv x.Auths :: qL 1 (PV.int .i64) x.Ints :: qL 1 PV.bytes x.Blobs :: r
abbrev zK.zv (r:List AV):List AV:=qI 0 :: .nl (.sl 1 []) :: .nl (.sl 3 []) :: .nl (.sl 1 []) :: .nl (.sl 1 []) :: r
abbrev zD.av (x:zD) (r:List AV):List AV:=qI x.Role :: qZ x.Name :: qI x.Version :: qY x.Payload :: r
abbrev zI.av (x:zI) (r:List AV):List AV:=qI x.Err :: qL 1 (PV.int .i64) x.Ints :: qL 1 PV.bytes x.Blobs :: qL 1 PV.bytes x.Nonces :: r
abbrev zI.zv (r:List AV):List AV:=qI 0 :: .nl (.sl 1 []) :: .nl (.sl 1 []) :: .nl (.sl 1 []) :: r
abbrev zG.av (x:zG) (r:List AV):List AV:=qI x.Register :: qI x.Kind :: qL 1 PV.bytes x.Digests :: qY x.Data :: r
abbrev vC.av (x:vC) (r:List AV):List AV:=qY x.name_ :: qY x.value_ :: qY x.policy_ :: qB x.protected_ :: r
abbrev yA.av (x:yA) (r:List AV):List AV:=qY x.Auth :: qY x.Seed :: qY x.Data :: r
abbrev yA.zv (r:List AV):List AV:=.nl (.bytes []) :: .nl (.bytes []) :: .nl (.bytes []) :: r
abbrev zO.av (x:zO) (r:List AV):List AV:=qI x.Session :: qY x.Nonce :: qY x.Value :: r
abbrev zO.zv (r:List AV):List AV:=qI 0 :: .nl (.bytes []) :: .nl (.bytes []) :: r
abbrev zR.av (x:zR) (r:List AV):List AV:=qY x.b_ :: qI x.at_ :: qI x.e_ :: r
abbrev zC.av (x:zC) (r:List AV):List AV:=qL 1 (eSl 1 PV.bytes) x.Banks :: qI x.Updates :: r
end Go.Proofs.TT
namespace Go.Sw
open Go
section
variable {P:Program} {te:TE} {cx:Ctx} {s:AS} {α β I:Type} {r:β} {ks:List Nat} {q:Exit->AS->Prop} {env:List (Nat×AV)} {blk:List (Nat×ABlk)}
theorem cN {t k off:Nat} {ty:TypeId} {l:List AV} {i:TI} (H:(s.env t,s.blk k,te ty,i.isAgg,Nat.ble (off+i.w) l.length)=(some (.ptr k off),some (.var l),some i,true,true)):RV te s (.cell t ty) (.ag ((l.drop off).take i.w)):=
 have ⟨a,H⟩:=pq H;have ⟨b,H⟩:=pq H;have ⟨c,H⟩:=pq H;have ⟨d,e⟩:=pq H;.cellN t k off ty l i a b c d (Nat.le_of_ble_eq_true e)
theorem tM {t:Nat} {v:AV} (h:s.env t=some v):RV te s (.tmp t) v:=.tmp _ _ h
theorem Ez {f:I->Exit×AS} {j i:I} {e:Exit} (h:some j=some i) (p:PK cx ks) (H:(f j,gE s env,gB s id blk,(kC (lk blk) env&&ks.all (λk=>(lk blk k).isSome)),uY (lk blk) blk)=((e,mkS env blk),vE id env,vB id blk,true,true):=by exact R):OQ cx f i e s:=E h p H
theorem lY (p:PK cx ks) (H:(gE s env,gB s id blk,(kC (lk blk) env&&ks.all (λk=>(lk blk k).isSome)))=(vE id env,vB id blk,true):=by exact R) (h:uY (lk blk) blk=true:=by repeat' first | exact R | exact om | exact oE | refine cbo ?_ ?_ | refine cbb ?_ | refine cbv ?_ ?_):Imp cx.pk s (mkS env blk):=lpX p H h
theorem lZ (p:PK cx ks) (m:List (Nat×Nat))
  (he:gE s env=vE (AV.ren (rho m)) env:=by exact R) (hb:gB s (rho m) blk=vB (ABlk.ren (rho m)) blk:=by first | exact R | (simp only [gB,vB,bR,bV,ABlk.ren,zXo,zBx];exact R))
  (h1:(kC (lk (bR (rho m) blk)) (rE (rho m) env)&&(ks.all (λk=>(lk (bR (rho m) blk) k).isSome) &&
   (((kR (rho m) blk).all λj=>(Nat.blt j BIG||Nat.ble BIG (rho (swp m) j))&&(kR (rho m) blk).all λj'=>!Nat.beq (rho (swp m) j) (rho (swp m) j')||Nat.beq j j')&&ks.all λk=>Nat.beq (rho (swp m) k) k)))=true:=by exact R)
  (h2:uY (lk (bR (rho m) blk)) (bR (rho m) blk)=true:=by first | exact R | (simp only [gB,vB,bR,bV,ABlk.ren,zXo,zBx];repeat' first | exact R | exact om | exact oE | refine cbo ?_ ?_ | refine cbb ?_ | refine cbv ?_ ?_))
  (h3:rE (rho (swp m)) (rE (rho m) env)=env:=by exact R) (h4:bR (rho (swp m)) (bR (rho m) blk)=blk:=by first | exact R | (simp only [gB,vB,bR,bV,ABlk.ren,zXo,zBx];exact R)):Imp cx.pk s (mkS env blk):=lr p m he hb h1 h2 h3 h4
theorem iW (i:Nat) {c:Code} [zLa s] (_:cid c=i) (env:List (Nat×AV)) (blk:List (Nat×ABlk)) (p:PK cx ks) (H:(gE s env,gB s id blk,(kC (lk blk) env&&ks.all (λk=>(lk blk k).isSome)))=(vE id env,vB id blk,true)) (k:Wp P cx c q (mkS env blk)) (h:uY (lk blk) blk=true:=by repeat' first | exact R | exact om | exact oE | refine cbo ?_ ?_ | refine cbb ?_ | refine cbv ?_ ?_):Wp P cx c q s:=⟨im (lpX p H h) k.1⟩
def nxR (P:Program) (cx:Ctx) (q:Exit->AS->Prop) (s:AS) (n:Nat):Code->Prop
 | .region _ ops false=>RK P ops ops.toList s λs' ms=>fW n ms=true/\q .normal s'
 | .region _ ops true=>RK P ops ops.toList s λs' ms=>fW n ms=true/\(pA ops ms&&zK0 ops)=true/\q .normal s'
 | .seq x y=>Wp P cx x (zZk (Wp P cx y q) q) s
 | .block i c=>Wp P cx c (zKl i q) s
 | .skip=>q .normal s
 | .exit i=>q (.exit i) s
 | .ret=>q .ret s
 | _=>False
def isT:Code->Bool
 | .seq _ _ | .block _ _ | .skip | .exit _ | .ret | .region _ _ _=>true
 | _=>false
class Mx (P:Program):Prop where
 x:P.follows .mixedOrders=true
theorem ZA {c:Code} {n:Nat} (hnt:cx.nt=n) (hm:P.follows .mixedOrders=true) (h:isT c=true) (k:nxR P cx q s n c):Wp P cx c q s:=by
 cases c<;>first | cases h | skip
 all_goals first
  | exact Z1 rfl k
  | skip
 rename_i b
 cases b
 ·exact G1 hnt k
 ·exact Y1 hnt hm k
theorem ZB [M:Mx P] {c:Code} {n:Nat} (h:isT c=true) (k:nxR P cx q s n c) (hnt:cx.nt=n:=by exact n):Wp P cx c q s:=ZA hnt M.x h k
theorem rA [T:nZ P] {fn:Func} {rv1 rv2:ResultVar} {v1 v2 v:AV} {l:List AV} {p:PV} {bs:List (Nat×ABlk)} (H:fn.results=#[rv1,rv2]) (a:RV T.te s rv1 v1) (b:RV T.te s rv2 v2)
  (h:(({ env:=lk [(0,.tu [v1,v2])],blk:=s.blk }:AS).env 0,l[0]?,({ env:=lk [(0,.tu [v1,v2])],blk:=s.blk }:AS).rd v)=(some (.tu l),some v,some (p,bs)))
  (H2:(gE ((({ env:=lk [(0,.tu [v1,v2])],blk:=s.blk }:AS)).put 0 (.tu (l.set 0 (.p p)))) env,gB ((({ env:=lk [(0,.tu [v1,v2])],blk:=s.blk }:AS)).put 0 (.tu (l.set 0 (.p p)))) id blk,(kC (lk blk) env&&ks.all (λk=>(lk blk k).isSome)),uY (lk blk) blk)=(vE id env,vB id blk,true,true)) :
  ∀ cx:Ctx,PK cx ks->vY P fn cx s (mkS env blk):=λ_ p=>have ⟨c,h⟩:=pq h;have ⟨d,e⟩:=pq h;vG T.ok H a b (tI (Imp.pureT (t:=0) 0 c d e) (lP p H2))
end
section
variable {O:GO} {s:AS} {ρ:Nat->Nat} {D:List Nat} {v v1 v2 v3 v4:AV} {q q1 q2 q3 q4:PV} {b b1 b2 b3 b4 bs:List (Nat×ABlk)} {vs us:List AV} {j j1 j2 k o:Nat}
theorem g4 (H:(s.rd v1,s.rd v2,s.rd v3,s.rd v4)=(some (q1,b1),some (q2,b2),some (q3,b3),some (q4,b4))) (k:GVs O s ρ D vs us bs):GVs O s ρ D (v1 :: v2 :: v3 :: v4 :: vs) (.p q1 :: .p q2 :: .p q3 :: .p q4 :: us) (b1++(b2++(b3++(b4++bs)))):=
 have ⟨a,H⟩:=pq H;have ⟨b,H⟩:=pq H;have ⟨c,d⟩:=pq H;glp a (glp b (glp c (glp d k)))
theorem gy (H:(s.blk (ρ j1),ρ j,D.any (Nat.beq j),s.rd v,s.blk (ρ j2),s.rd v1,s.rd v2,s.rd v3)=(some (.var [.ptr k o,v]),k,true,some (q,b),some (.var [v1,v2,v3]),some (q1,b1),some (q2,b2),some (q3,b3))) :
  GB O s ρ D [(j1,[.ptr j o,.p q]),(j2,[.p q1,.p q2,.p q3])] ((ρ j1,.var [.ptr k o,v]) :: (([]++(b++[]))++((ρ j2,.var [v1,v2,v3]) :: ((b1++(b2++(b3++[])))++[])))):=
 have ⟨a,H⟩:=pq H;have ⟨b,H⟩:=pq H;have ⟨c,H⟩:=pq H;have ⟨d,H⟩:=pq H;have ⟨e,H⟩:=pq H;have ⟨f,H⟩:=pq H;have ⟨g,h⟩:=pq H;gb a (glt b c (glp d gl0)) (gb e (glp f (glp g (glp h gl0))) gb0)
end
section
variable {P:Program} [T:nZ P] {ops:Array Oper} {s:AS} {r:List Oper} {K:AS->List Mic->Prop} {d:Nat} {ty:TypeId} {pos:String} {af:Array Edge}
theorem RK.cA {p:Prop} {f:FuncId} {xs:Array Operand} {ts:Array TypeId} {xl:List Operand} {tl:List TypeId} {ps:List PV} {rs:List (Nat×AV)} {bb:List (Nat×ABlk)} {na:Nat} {av:AV} {blks:List (Nat×ABlk)} (c:p->Ok P f na (mkS (argE 0 ps) []) (mkS [(0,av)] blks)) (hx:(xs.toList,ts.toList)=(xl,tl)) (ha:mD s T.te xl tl ps rs bb) (hn:(Nat.beq na ps.length,(kR (sh d) blks).all (λk=>(s.blk k).isNone))=(true,true))
  (k:RK P ops r (Mic.upd ⟨rs,bb,kR (sh d) blks,some (d,some (av.ren (sh d))),bR (sh d) blks⟩ s) λs' ms=>K s' (⟨rs,bb,kR (sh d) blks,some (d,some (av.ren (sh d))),bR (sh d) blks⟩:: ms)) (hp:p:=by exact a):RK P ops (⟨some d,.call ⟨.value (.func f),xs,ts⟩,ty,pos,af,none⟩:: r) s K:=RK.cl (c hp) hx ha hn k
theorem RK.cgi (k0:Nat) (l:List Int) (μ:List (Nat×Nat)) {f:FuncId} {xs:Array Operand} {ts:Array TypeId} {us:List AV} {rs:List (Nat×AV)} {bb bB:List (Nat×ABlk)} {B B2:List (Nat×List AV)} {av:AV} {bn:List (Nat×ABlk)} {na:Nat} [ow:zA2 bn] (h:Ok P f na (mkS (argA 0 us) (bV B++[(BIG,qO (.sl 1 (l.map (PV.int .i64))))])) (mkS [(0,av)] (bV B2++bn))) (ha:GA (some (k0,1,flatCells (l.map (PV.int .i64)))) s T.te (shm d μ) (B.map (·.1)) xs.toList ts.toList us rs bb) (hB:GB (some (k0,1,flatCells (l.map (PV.int .i64)))) s (shm d μ) (B.map (·.1)) B bB) (hc:(s.blk k0,zQ5 s d na us.length μ B B2 bn,(kR id (bV B2++bn)).all (λj=>(lk μ j).isNone||Nat.blt j BIG))=(some (qO (.sl 1 (l.map (PV.int .i64)))),true,true))
  (k:RK P ops r (Mic.upd ⟨rs,bb++(bB++[(k0,qO (.sl 1 (l.map (PV.int .i64))))]),kR (shm d μ) bn,some (d,some (av.ren (shm d μ))),bRq (shm d μ) (bV B2++bn)++[(k0,zKu)]⟩ s) λs' ms=>K s' (⟨rs,bb++(bB++[(k0,qO (.sl 1 (l.map (PV.int .i64))))]),kR (shm d μ) bn,some (d,some (av.ren (shm d μ))),bRq (shm d μ) (bV B2++bn)++[(k0,zKu)]⟩:: ms)):RK P ops (⟨some d,.call ⟨.value (.func f),xs,ts⟩,ty,pos,af,none⟩:: r) s K:=
 have ⟨a,b⟩:=pq hc;RK.cgo (wd:=1) (cs:=flatCells (l.map (PV.int .i64))) μ h (by rw [a];rfl) ha hB b k
end
def stZ (te:TE) (s:AS):Oper->Option (AS×Mic)
 | ⟨some d,.alloc t,_,_,_,none⟩ =>match te t,s.blk d with
  | some i,none=>some ((s.setb d (.var (i.z.map zA))).put d (.ptr d 0),⟨[],[],[d],some (d,some (.ptr d 0)),[(d,.var (i.z.map zA))]⟩)
  | _,_=>none
 | ⟨some d,.box t x,_,_,_,none⟩ =>match s.get te t x,s.blk d with
  | some v,none=>some ((s.setb d (.var v.cells)).put d (.ptr d 0),⟨opS x v,[],[d],some (d,some (.ptr d 0)),[(d,.var v.cells)]⟩)
  | _,_=>none
 | ⟨none,.store t ax x,_,_,_,none⟩ =>match te t,s.get te 0 ax,s.get te t x with
  | some i,some (.ptr k0 off),some v=>match s.blk k0 with
   | some (.var l)=>bif Nat.beq off 0&&(Nat.beq v.cells.length i.w&&(Nat.beq i.w l.length&&v.cells.all AV.one)) then some (s.setb k0 (.var v.cells),⟨opS ax (.ptr k0 off)++opS x v,[(k0,.var l)],[],none,[(k0,.var v.cells)]⟩)
    else bif Nat.beq v.cells.length i.w&&(Nat.ble (off+i.w) l.length&&v.cells.all AV.one) then some (s.setb k0 (.var (sW l off v.cells)),⟨opS ax (.ptr k0 off)++opS x v,[(k0,.var l)],[],none,[(k0,.var (sW l off v.cells))]⟩) else none
   | _=>none
  | _,_,_=>none
 | ⟨some d,op,ty,_,_,none⟩ =>match ev1 te s ty op with
  | some (v,rs,bs)=>some (s.put d v,⟨rs,bs,[],some (d,some v),[]⟩)
  | none=>none
 | _=>none
section
variable {P:Program} [T:nZ P] {ops:Array Oper} {s:AS} {r:List Oper} {K:AS->List Mic->Prop}
theorem bif2 {α:Type} {c d:Bool} {x y z:α} (h:(bif c then some x else bif d then some y else none)=some z):(c=true/\x=z)∨(d=true/\y=z):=by cases c<;>cases d<;>simp_all
theorem RK.z {o:Oper} {s':AS} {m:Mic} (h:stZ T.te s o=some (s',m)) (k:RK P ops r s' λs2 ms=>K s2 (m :: ms)):RK P ops (o :: r) s K:=by
 unfold stZ at h
 split at h
 ·split at h
  ·rename_i h1 h2
   cases h
   exact RK.al (by rw [h1,h2]) k
  ·cases h
 ·split at h
  ·rename_i h1 h2
   cases h
   exact RK.bx (by rw [h1,h2]) k
  ·cases h
 ·split at h
  ·rename_i h1 h2 h3
   split at h
   ·rename_i h4
    rcases bif2 h with ⟨e,q⟩ | ⟨e,q⟩<;>cases q<;>simp only [Bool.and_eq_true] at e
    ·obtain ⟨e0,e1,e2,e3⟩:=e
     have e0:=Nat.eq_of_beq_eq_true e0
     subst e0
     exact RK.stW (by rw [h1,h2,h3,h4,e1,e2,e3]) k
    ·obtain ⟨e1,e2,e3⟩:=e
     exact RK.sto (by rw [h1,h2,h3,h4,e1,e2,e3]) k
   ·cases h
  ·cases h
 ·split at h
  ·rename_i h1
   cases h
   exact RK.ev h1 k
  ·cases h
 ·cases h
def yBy (te:TE):Nat->AS->List Oper->Option (AS×List Mic×List Oper)
 | 0,s,l=>some (s,[],l)
 | n+1,s,o :: r=>match stZ te s o with
  | some (s',m)=>match yBy te n s' r with
   | some (a,b,c)=>some (a,m :: b,c)
   | none=>none
  | none=>none
 | _+1,_,[]=>none
theorem RK.zn (n:Nat):∀ {l:List Oper} {s s':AS} {ms:List Mic} {q:List Oper} {K:AS->List Mic->Prop},yBy T.te n s l=some (s',ms,q)->(RK P ops q s' λs2 b=>K s2 (ms++b))->RK P ops l s K:=by
 induction n with
 | zero=>intro l s s' ms q K h k;simp only [yBy,Option.some.injEq,Prod.mk.injEq] at h;obtain ⟨rfl,rfl,rfl⟩:=h;exact k
 | succ n ih=>
  intro l s s' ms q K h k
  cases l with
  | nil=>cases h
  | cons o r=>
   simp only [yBy] at h
   split at h
   ·rename_i s1 m h1
    split at h
    ·rename_i a b c h2
     cases h
     exact RK.z h1 (ih h2 k)
    ·cases h
   ·cases h
end
end Go.Sw
namespace Go.Proofs.TT
open Go Go.Sw
theorem gz {x:zB} {O:GO} {s:AS} {ρ:Nat->Nat} {D:List Nat} {j k n wd:Nat} {cs:List PV} (H:(s.blk (ρ j),O)=(some (.var (zB.av x [.own k n])),some (k,wd,cs))):GB O s ρ D [(j,zB.av x [.own BIG n])] ((ρ j,.var (zB.av x [.own k n])) :: (([]++[])++[])):=
 have ⟨a,b⟩:=pq H;gb a (zB.gl (glo b gl0)) gb0
end Go.Proofs.TT
namespace Go.Proofs.Tryz.S
open Go Go.Sw
instance:Mx Tryz.prog:=⟨by kernel_rfl⟩
end Go.Proofs.Tryz.S
