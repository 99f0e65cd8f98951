/- what a loss of power at a start leaves -/
import Derived.Shelf.LaysM
import Derived.Shelf.Strconv.Itoa3
import Derived.Shelf.Slices.Clone
import Derived.Shelf.Bytes.SlClone
import Derived.Test.YtpbnmpopifipbaaGreatDoorProg
import Derived.Test.YtpbnmpopifipbaaGreatDoorCZ6
import Derived.Test.YtpbnmpopifipbaaGreatDoorCZ4
import Derived.Lib.LaidTab
set_option linter.all false
namespace Go.Proofs
open Go.Shelf
def Tryz.laysM171_ren:Go.Shelf.Ren:=⟨fun | 171=>139 | 243=>176 | 246=>195 | 283=>227 | 284=>228 | 285=>229 | 286=>230 | 129=>294 | 317=>293 | 318=>295 | 319=>296 | 320=>297 | 337=>337 | 338=>338 | n=>n,fun | 3=>3 | 9=>9 | 2=>2 | 4=>4 | 171=>285 | 0=>0 | 53=>200 | 37=>22 | 5=>5 | 173=>288 | 212=>358 | 51=>205 | 20=>20 | 213=>359 | 46=>151 | 232=>405 | 233=>406 | n=>n,fun | 17=>5 | 18=>6 | 19=>7 | n=>n⟩
theorem Tryz.laysM171:Go.Proofs.LaysM.n171 Tryz.prog Tryz.laysM171_ren:={
 mixed:=by kernel_rfl
 f129:=Tryz.func294.trans (congrArg some (by kernel_rfl))
 f171:=Tryz.func139.trans (congrArg some (by kernel_rfl))
 f243:=Tryz.func176.trans (congrArg some (by kernel_rfl))
 f246:=Tryz.func195.trans (congrArg some (by kernel_rfl))
 f283:=Tryz.func227.trans (congrArg some (by kernel_rfl))
 f284:=Tryz.func228.trans (congrArg some (by kernel_rfl))
 f285:=Tryz.func229.trans (congrArg some (by kernel_rfl))
 f286:=Tryz.func230.trans (congrArg some (by kernel_rfl))
 f317:=Tryz.func293.trans (congrArg some (by kernel_rfl))
 f318:=Tryz.func295.trans (congrArg some (by kernel_rfl))
 f319:=Tryz.func296.trans (congrArg some (by kernel_rfl))
 f320:=Tryz.func297.trans (congrArg some (by kernel_rfl))
 f337:=Tryz.func337.trans (congrArg some (by kernel_rfl))
 f338:=Tryz.func338.trans (congrArg some (by kernel_rfl))
 t0:=Tryz.underlying0
 a0:=Tryz.isAgg0
 z0:=Tryz.sizeOf0
 v0:=Tryz.zeroValue0
 t2:=Tryz.underlying2
 a2:=Tryz.isAgg2
 z2:=Tryz.sizeOf2
 v2:=Tryz.zeroValue2
 t3:=Tryz.underlying3
 a3:=Tryz.isAgg3
 z3:=Tryz.sizeOf3
 v3:=Tryz.zeroValue3
 t4:=Tryz.underlying4
 a4:=Tryz.isAgg4
 z4:=Tryz.sizeOf4
 v4:=Tryz.zeroValue4
 t5:=Tryz.underlying5
 a5:=Tryz.isAgg5
 z5:=Tryz.sizeOf5
 v5:=Tryz.zeroValue5
 t9:=Tryz.underlying9
 a9:=Tryz.isAgg9
 z9:=Tryz.sizeOf9
 v9:=Tryz.zeroValue9
 t20:=Tryz.underlying20
 a20:=Tryz.isAgg20
 z20:=Tryz.sizeOf20
 v20:=Tryz.zeroValue20
 t37:=Tryz.underlying22
 a37:=Tryz.isAgg22
 z37:=Tryz.sizeOf22
 v37:=Tryz.zeroValue22
 t46:=Tryz.underlying151
 a46:=Tryz.isAgg151
 z46:=Tryz.sizeOf151
 v46:=Tryz.zeroValue151
 t51:=Tryz.underlying205
 a51:=Tryz.isAgg205
 z51:=Tryz.sizeOf205
 v51:=Tryz.zeroValue205
 t53:=Tryz.underlying200
 a53:=Tryz.isAgg200
 z53:=Tryz.sizeOf200
 v53:=Tryz.zeroValue200
 t171:=Tryz.underlying285
 a171:=Tryz.isAgg285
 z171:=Tryz.sizeOf285
 v171:=Tryz.zeroValue285
 t173:=Tryz.underlying288
 a173:=Tryz.isAgg288
 z173:=Tryz.sizeOf288
 v173:=Tryz.zeroValue288
 t212:=Tryz.underlying358
 a212:=Tryz.isAgg358
 z212:=Tryz.sizeOf358
 v212:=Tryz.zeroValue358
 t213:=Tryz.underlying359
 a213:=Tryz.isAgg359
 z213:=Tryz.sizeOf359
 t232:=Tryz.underlying405
 a232:=Tryz.isAgg405
 z232:=Tryz.sizeOf405
 v232:=Tryz.zeroValue405
 t233:=Tryz.underlying406
 a233:=Tryz.isAgg406
 z233:=Tryz.sizeOf406
 v233:=Tryz.zeroValue406
 g17:=by kernel_rfl
 g18:=by kernel_rfl
 g19:=by kernel_rfl
 i0:=by kernel_rfl
 i2:=by kernel_rfl
 i3:=by kernel_rfl
 i4:=by kernel_rfl
 i5:=by kernel_rfl
 i9:=by kernel_rfl
 i20:=by kernel_rfl
 i37:=by kernel_rfl
 i46:=by kernel_rfl
 i51:=by kernel_rfl
 i53:=by kernel_rfl
 i171:=by kernel_rfl
 i173:=by kernel_rfl
 i212:=by kernel_rfl
 i232:=by kernel_rfl
 i233:=by kernel_rfl
 m17:=by kernel_rfl
 m18:=by kernel_rfl
 m19:=by kernel_rfl }
def Tryz.laysSlK4_ren:Go.Shelf.Ren:=⟨fun | 4=>84 | n=>n,fun | 22=>22 | 4=>4 | 5=>5 | n=>n,fun | n=>n⟩
theorem Tryz.laysSlK4:Go.Proofs.SlLaysK.n4 Tryz.prog Tryz.laysSlK4_ren:={
 mixed:=by kernel_rfl
 f4:=Tryz.func84.trans (congrArg some (by kernel_rfl))
 t4:=Tryz.underlying4
 a4:=Tryz.isAgg4
 z4:=Tryz.sizeOf4
 v4:=Tryz.zeroValue4
 t22:=Tryz.underlying22
 a22:=Tryz.isAgg22
 z22:=Tryz.sizeOf22
 v22:=Tryz.zeroValue22
 t5:=Tryz.underlying5
 i5:=by kernel_rfl }
open Go.RowKit Go.Lib in
theorem Tryz.bytes_Clone_at (a:Addr) (n c:Nat) (xs:List Int) (w:World) (hx:xs.length=n) (hbig:n<=140737488355328) (hc:∀ i,i<n->w.cell? (a.add i)=some (.int .u8 (xs.getD i 0))) :
  Calls Tryz.prog 84 #[.slice (some a) n c] w λe w'=>∃ v',e=.returned v'/\w'.ownsRow w.heap.size 5 1 v' n (xs.map (Value.int .u8))/\v'≠.slice none 0 0/\Below w.heap.size w w':=Any.bytes_Clone_at Tryz.laysSlK4 a n c xs w hx hbig hc
open Go.RowKit Go.Lib in
theorem Tryz.bytes_Clone_nil (n c:Nat) (w:World) :
  Calls Tryz.prog 84 #[.slice none n c] w λe w'=>e=.returned (.slice none 0 0)/\w'=w:=Any.bytes_Clone_nil Tryz.laysSlK4 n c w
end Go.Proofs
namespace Go.Proofs.H
open Go Go.Sw Go.Proofs Go.Proofs.TT
theorem decF_eq:∀ (f u:Nat),u<10 ^ f->0<f->decF f u=Lib.decDigits u
 | 0,_,_,h=>by omega
 | f+1,u,h,_=>by
  rw [decF,Lib.decDigits]
  by_cases hu:u<10
  ·have:Nat.blt u 10=true:=by simp [Nat.blt_eq,hu]
   rw [this,dif_pos hu];rfl
  ·have:Nat.blt u 10=false:=by
    rw [Bool.eq_false_iff];intro e;rw [Nat.blt_eq] at e;exact hu e
   rw [this,dif_neg hu]
   have hf:0<f:=by
    cases f with
    | zero=>simp at h;omega
    | succ f=>omega
   have hd:u / 10<10 ^ f:=by
    rw [Nat.pow_succ] at h
    exact Nat.div_lt_of_lt_mul (by omega)
   show decF f (u / 10)++_=_
   rw [decF_eq f (u / 10) hd hf]
theorem tab_of {w:World} {M:Mem} (hg:GlobOk w M) (hm:∀ b o x,M b o=some x->w.cell? ⟨b,o,none⟩=some x):Lib.TabIs Tryz.prog w "internal/strconv.uint64pow10" .u64 Lib.pow10Tab:=by
 obtain ⟨h0,arr,e,fz,h1,h2⟩:=hg.2 5 gp_internal_strconv_uint64pow10 rfl
 have hlen:gp_internal_strconv_uint64pow10.cells.length=20:=rfl
 rw [hlen] at h2
 have hn:Tryz.prog.globalNamed "internal/strconv.uint64pow10" = some 5:=by kernel_rfl
 have ht:Lib.pow10Tab=gd_internal_strconv_uint64pow10:=by decide
 unfold Lib.TabIs World.var?
 rw [hn,ht]
 simp only [Option.bind_some,h1]
 have harr:arr=(gd_internal_strconv_uint64pow10.map λz=>Value.int .u64 z).toArray:=by
  apply Array.ext
  ·rw [h2];rfl
  ·intro i hi1 hi2
   have hi:i<gd_internal_strconv_uint64pow10.length:=by simpa using hi2
   cases hg.1 5 gp_internal_strconv_uint64pow10 rfl with
   | cptr _ _ _ h3 h4=>
    have hc:gp_internal_strconv_uint64pow10.cells[i]? = some (.int .u64 gd_internal_strconv_uint64pow10[i]):=by
     show (gd_internal_strconv_uint64pow10.map (PV.int .u64))[i]? = _
     rw [List.getElem?_map,List.getElem?_eq_getElem hi];rfl
    have h5:=h3 i _ hc
    have h6:=h4 i _ hc
    obtain ⟨x,hx⟩:=Option.isSome_iff_exists.1 h5
    have hx2:mget M 5 (0+i)=x:=by unfold mget;rw [hx];rfl
    rw [hx2] at h6
    have hx3:=rep_int h6
    have hcell:=hm _ _ _ hx
    simp only [World.cell?,h1,Nat.zero_add] at hcell
    have:arr[i]? = some x:=by simpa using hcell
    rw [Array.getElem?_eq_getElem hi1] at this
    have e1:=Option.some.inj this
    rw [e1,hx3]
    simp
 rw [harr]
theorem itoa_ok {n:Int} {r:List UInt8} (h:strconv_Itoa n=some r):Ok Tryz.prog 139 1 (mkS (argE 0 [.int .i64 n]) []) (mkS [(0,.p (.str r))] []):=by
 unfold strconv_Itoa at h
 rcases cond_some h with ⟨hc,h⟩ | ⟨_,h⟩
 ·cases h
  simp only [Bool.and_eq_true,decide_eq_true_eq] at hc
  have hr:decF 20 n.toNat=Lib.itoa n:=by
   rw [decF_eq 20 n.toNat (by omega) (by omega),Lib.itoa,if_neg (by omega)]
  rw [hr]
  refine ok_handG (ps:=[.int .i64 n]) ⟨_,Tryz.func139,by kernel_rfl,by kernel_rfl⟩ λw M args hg hm hs ha=>?_
  have hx:=ha 0 _ rfl
  have e0:=rep_int hx
  obtain rfl:args=#[.int .i64 n]:=by
   obtain ⟨l⟩:=args
   match l,hs with
   | [x],_=>simp at e0;rw [e0]
  refine (Any.strconv_Itoa Tryz.laysM171 n (by omega) (by omega) w (tab_of hg hm)).mono λe w' ⟨he,k,os,hw⟩ =>⟨_,M,he,?_⟩
  subst hw
  refine ⟨rfl,rfl,rfl,by simp [Sort.grow,World.drewN],λb hb=>?_,λ_ _ _ h=>h,λb o x hx=>?_,λ_ _ _=>rfl,.p _ _ (.str _)⟩
  ·exact Sort.heap_grow_old _ _ hb
  ·have:=hm b o x hx
   have hb:b<w.heap.size:=World.block_lt_of_cell? w _ this
   rw [Sort.cell?_grow _ _ _ hb]
   exact this
 ·cases h
theorem clone_ok {b r:List UInt8} (h:bytes_Clone b=some r):Ok Tryz.prog 84 1 (mkS (argE 0 [.bytes b]) []) (mkS [(0,qY r)] []):=by
 unfold bytes_Clone at h
 rcases cond_some h with ⟨hb,h⟩ | ⟨_,h⟩
 case inr=>cases h
 cases h
 refine ok_hand (ps:=[.bytes b]) ⟨_,Tryz.func84,by kernel_rfl,by kernel_rfl⟩ λw M args hm hs hr=>?_
 have h0:=hr 0 _ rfl
 obtain ⟨al⟩:=args
 match al,hs,h0 with
 | [a0],_,h0=>
 simp at h0
 cases h0 with
 | bytes0=>
  refine (Tryz.bytes_Clone_nil 0 0 w).mono ?_
  rintro e w' ⟨rfl,rfl⟩
  exact ⟨_,M,rfl,rfl,rfl,rfl,Nat.le_refl _,λ_ _=>rfl,Mem.le_refl M,hm,λ_ _ _=>rfl,.bytes0⟩
 | bytesE aa=>
  refine (Tryz.bytes_Clone_at aa 0 0 [] w rfl (by decide) (λi hi=>absurd hi (by omega))).mono ?_
  rintro e w' ⟨v',rfl,⟨hl,hv⟩,_,hbel⟩
  have hk:∀ b o x,M b o=some x->w'.cell? ⟨b,o,none⟩=some x:=λb o x hx=>by
   have h1:=hm b o x hx
   have hlt:=World.block_lt_of_cell? w _ h1
   rw [World.cell?_of_block (hbel.block b hlt)]
   exact h1
  rcases hv with ⟨rfl,hn0⟩ | ⟨g,cap,cur,rfl,hg1,hg2,hc1,hc2,hc3,hc4⟩
  ·exact ⟨_,M,rfl,hbel.os,hbel.tape,hbel.output,hbel.size,hbel.block,Mem.le_refl M,hk,λ_ _ _=>rfl,.bytes0⟩
  ·exact ⟨_,M,rfl,hbel.os,hbel.tape,hbel.output,hbel.size,hbel.block,Mem.le_refl M,hk,λ_ _ _=>rfl,.bytes [] g 0 0 cap rfl (Nat.zero_le _) (by simp)⟩
 | bytes _ b0 o n c g1 g2 g3=>
  have hn:n<=140737488355328:=by rw [g1];exact Nat.le_of_ble_eq_true hb
  refine (Tryz.bytes_Clone_at ⟨b0,o,none⟩ n c (b.map λx=>(x.toNat:Int)) w (by simp [g1]) hn (λi hi=>?_)).mono ?_
  ·have hlt:i<b.length:=by omega
   rw [Sw.add_off]
   refine (hm _ _ _ (g3 i b[i] (List.getElem?_eq_getElem hlt))).trans ?_
   simp [List.getD_eq_getElem?_getD,hlt]
  ·rintro e w' ⟨v',rfl,⟨hl,hv⟩,_,hbel⟩
   rcases hv with ⟨rfl,hn0⟩ | ⟨g,cap,cur,rfl,hg1,hg2,hc1,hc2,hc3,hc4⟩
   ·have:b=[]:=List.eq_nil_of_length_eq_zero (by omega)
    subst this
    exact ⟨_,M,rfl,hbel.os,hbel.tape,hbel.output,hbel.size,hbel.block,Mem.le_refl M,λb o x hx=>by
     have h1:=hm b o x hx
     have hlt:=World.block_lt_of_cell? w _ h1
     rw [World.cell?_of_block (hbel.block b hlt)]
     exact h1,λ_ _ _=>rfl,.bytes0⟩
   ·have hnone:∀ o,M g o=none:=λo=>by
     cases hmm:M g o with
     | none=>rfl
     | some y=>have:=World.block_lt_of_cell? w _ (hm _ _ _ hmm);simp at this;omega
    have hcur:∀ (i:Nat) (x:UInt8),b[i]? = some x->cur[i]? = some (.int .u8 x.toNat):=λi x hx=>by
     have hlt:i<b.length:=(List.getElem?_eq_some_iff.1 hx).1
     have h1:(cur.toList.take (n*1))[i]? = some (.int .u8 x.toNat):=by rw [hc4];simp [hx]
     rw [List.getElem?_take,if_pos (by omega)] at h1
     simpa using h1
    refine ⟨_,addM M g 0 n (cur[·]?),rfl,hbel.os,hbel.tape,hbel.output,hbel.size,hbel.block,addM_le λo _ _=>hnone _,?_,?_,?_⟩
    ·intro b' o' y hy
     unfold addM at hy
     split at hy
     ·rename_i hcc
      obtain ⟨rfl,_,_⟩:=hcc
      simp only [World.cell?,hg2]
      simpa using hy
     ·have h2:=hm b' o' y hy
      have hlt:=World.block_lt_of_cell? w _ h2
      rw [World.cell?_of_block (hbel.block b' hlt)]
      exact h2
    ·intro b' o' hlt
     unfold addM
     rw [if_neg (by omega)]
    ·refine .bytes _ _ 0 n cap g1 hc1 λi y hy=>?_
     have hlt:i<n:=by have:=(List.getElem?_eq_some_iff.1 hy).1;omega
     simp only [addM,Nat.zero_add]
     rw [if_pos ⟨trivial,Nat.zero_le _,hlt⟩]
     exact hcur i y hy
end Go.Proofs.H
namespace Go.Proofs.Tryz.S
open Go Go.Sw Go.Proofs.TT
theorem mixed:Tryz.prog.follows .mixedOrders=true:=by kernel_rfl
abbrev Z (f na:Nat) (l:List PV) (v:AV) (b:List (Nat×zG)):Prop:=Ok Tryz.prog f na (mkS (argE 0 l) []) (mkS [(0,v)] b)
theorem Y {cx:Ctx} {q:Exit->AS->Prop} {s:AS} {ops:Array Oper} {id n:Nat} (hnt:cx.nt=n) (h:RK Tryz.prog ops ops.toList s λs' ms=>zBz n ms=true/\(zBe ops ms&&zQ3 ops)=true/\q .normal s'):awp Tryz.prog cx (.region id ops true) q s:=rgd hnt mixed h
instance tenv:zAn Tryz.prog:=⟨te,wP⟩
theorem zIk {s:List UInt8} {r:Bool} (h:zA4 s=some r):Ok Tryz.prog 160 1 (mkS (argE 0 [.str s]) []) (mkS [(0,qB r)] []):=by
 cases h
 refine ok_hand (ps:=[.str s]) ⟨_,Tryz.func160,by kernel_rfl,by kernel_rfl⟩ λw M args hm hs hr=>?_
 have ha:args=#[.string ⟨s.toArray⟩]:=by
  have h0:=iO (hr 0 _ rfl)
  obtain ⟨al⟩:=args
  match al,hs,h0 with
  | [a],_,h0=>simp at h0;rw [h0]
 subst ha
 refine (H.walk_named ⟨s.toArray⟩ w).mono ?_
 rintro e w' ⟨rfl,hw⟩
 have hb:(decide (1<=(⟨s.toArray⟩:ByteArray).size)&&decide ((⟨s.toArray⟩:ByteArray).size<=12)&&H.nameAll ⟨s.toArray⟩ 0)=(decide (1<=s.length)&&decide (s.length<=12)&&s.all nameByte):=rfl
 rw [hb]
 rcases hw with rfl | ⟨pos,rfl⟩
 ·exact ⟨_,M,rfl,rfl,rfl,rfl,Nat.le_refl _,λ_ _=>rfl,Mem.le_refl M,hm,λ_ _ _=>rfl,.bool _⟩
 ·refine ⟨_,M,rfl,rfl,rfl,rfl,?_,?_,Mem.le_refl M,?_,λ_ _ _=>rfl,.bool _⟩
  ·simp [World.iter]
  ·intro b hb
   exact hao w _ b hb
  ·intro b o x hx
   have h1:=hm b o x hx
   rw [<- h1]
   exact World.cell?_alloc_lt w _ ⟨b,o,none⟩ (World.block_lt_of_cell? w _ h1)
theorem zFn {b:List UInt8} {n:Int} {r:List UInt8} (h:bP b n=some r):Ok Tryz.prog 231 2 (mkS (argE 0 [.bytes b,.int .i64 n]) []) (mkS [(0,qY r)] []):=by
 unfold bP at h
 split at h
 ·rename_i x
  rcases cond_some h with ⟨hn,h⟩ | ⟨hn,h⟩
  ·cases h
   have key:∀ (m:Nat),(∀ (b o c:Nat) (w:World),w.cell? ⟨b,o,none⟩=some (.int .u8 x.toNat)->Calls Tryz.prog 231 #[.slice (some ⟨b,o,none⟩) 1 c,.int .i64 (m:Int)] w λe w'=>e=.returned (.slice (some ⟨w.heap.size,0,none⟩) m m)/\∃ cs d cur,w'=(H.dr d (w.alloc (.cells cs 5))).setRow w.heap.size cur/\∀ j,j<m->cur[j]? = some (.int .u8 x.toNat)) ->
     Ok Tryz.prog 231 2 (mkS (argE 0 [.bytes [x],.int .i64 (m:Int)]) []) (mkS [(0,qY (List.replicate m x))] []):=by
    intro m hwalk
    refine ok_hand (ps:=[.bytes [x],.int .i64 m]) ⟨_,Tryz.func231,by kernel_rfl,by kernel_rfl⟩ λw M args hm hs hr=>?_
    have h0:=hr 0 _ rfl
    have h1:=rep_int (hr 1 _ rfl)
    obtain ⟨al⟩:=args
    match al,hs,h0,h1 with
    | [a0,a1],_,h0,h1=>
    simp at h0 h1
    subst h1
    cases h0 with
    | bytes _ b o n c g1 g2 g3=>
    simp at g1
    subst g1
    have hc:w.cell? ⟨b,o,none⟩=some (.int .u8 x.toNat):=hm _ _ _ (by simpa using g3 0 x rfl)
    refine (hwalk b o c w hc).mono ?_
    rintro e w' ⟨rfl,cs,d,cur,rfl,hcur⟩
    have hold:∀ i,i<w.heap.size->((H.dr d (w.alloc (.cells cs 5))).setRow w.heap.size cur).heap[i]? = w.heap[i]?:=by
     intro i hi
     rw [setRow_other _ _ _ _ (by omega)]
     exact hao w _ i hi
    have hg:((H.dr d (w.alloc (.cells cs 5))).setRow w.heap.size cur).heap[w.heap.size]? = some (.cells cur 5 (0,0)):=setRow_heap _ _ _ _ _ _ (heap_alloc_new w _)
    refine ⟨_,addM M w.heap.size 0 m (cur[·]?),rfl,rfl,rfl,rfl,?_,hold,addM_le ?_,?_,?_,?_⟩
    ·rw [setRow_size]
     show w.heap.size<=(w.alloc (.cells cs 5)).heap.size
     simp
    ·intro o _ _
     cases hmm:M w.heap.size o with
     | none=>rfl
     | some y=>have:=World.block_lt_of_cell? w _ (hm _ _ _ hmm);simp at this
    ·intro b' o' y hy
     unfold addM at hy
     split at hy
     ·rename_i hcc
      obtain ⟨rfl,_,_⟩:=hcc
      simp only [World.cell?,hg]
      simpa using hy
     ·have h2:=hm b' o' y hy
      have hlt:=World.block_lt_of_cell? w _ h2
      rw [World.cell?_of_block (hold b' hlt)]
      exact h2
    ·intro b' o' hlt
     unfold addM
     rw [if_neg (by omega)]
    ·refine .bytes _ _ 0 m m (by simp) (Nat.le_refl _) λi y hy=>?_
     rw [List.getElem?_replicate] at hy
     split at hy
     ·cases hy
      rename_i hlt
      simp only [addM,Nat.zero_add]
      rw [if_pos ⟨trivial,Nat.zero_le _,hlt⟩]
      exact hcur i hlt
     ·cases hy
   simp only [Bool.or_eq_true,beq_iff_eq] at hn
   rcases hn with rfl | rfl
   ·exact key 20 λb o c w hc=>H.walk_rep20 b o c x w hc
   ·exact key 32 λb o c w hc=>H.walk_rep32 b o c x w hc
  ·cases h
 ·cases h
theorem zFr {n:Int} {r:List UInt8} (h:strconv_Itoa n=some r):Ok Tryz.prog 139 1 (mkS (argE 0 [.int .i64 n]) []) (mkS [(0,qZ r)] []):=H.itoa_ok h
theorem zHx {b r:List UInt8} (h:bytes_Clone b=some r):Ok Tryz.prog 84 1 (mkS (argE 0 [.bytes b]) []) (mkS [(0,qY r)] []):=H.clone_ok h
end Go.Proofs.Tryz.S
set_option linter.all false
namespace Go.Sw
open Go
section
variable {P:Program} {te:TE} {s:AS} {o:Oper} {x y:Operand} {vx vy:AV} {bx by':List (Nat×zG)} {k:IntKind}
end
section
variable {P:Program} [T:zAn P] {ops:Array Oper} {s:AS} {r:List Oper} {K:AS->List Mic->Prop} {d:Nat} {ty:TypeId} {pos:String} {af:Array Edge} {x y:Operand}
end
abbrev qP (k:Nat):Nat×AV:=(k,.ptr k 0)
theorem R {α:Sort _} {a:α}:a=a:=rfl
section
variable {P:Program} {cx:Ctx} {q:Exit->AS->Prop} {s:AS} {α β I:Type} {r:β} {ks:List Nat}
theorem bS {m:Option α} {k:α->Option β} (h:m.bind k=some r):∃ x,m=some x/\k x=some r:=bind_some h
theorem O {G:Prop} {m:Option α} {k:α->Option β} (h:m.bind k=some r) (K:∀ x,m=some x->k x=some r->G):G:=(bind_some h).elim λx h=>K x h.1 h.2
theorem V {G:Prop} {e:α} {f:α->Option β} (h:lt e f=some r) (K:∀ v,e=v->f v=some r->G):G:=K e rfl h
theorem C {G:Prop} {c:Bool} {a b:Option β} (h:(bif c then a else b)=some r) (x:c=true->a=some r->G) (y:c=false->b=some r->G):G:=(cond_some h).elim (λh=>x h.1 h.2) λh=>y h.1 h.2
theorem N {G:Prop} (h:none=some r):G:=by cases h
theorem D {c:Code} {m:Option α} {k:α->Option β} (h:m.bind k=some r) (f:α->Exit×AS) (x:∀ j,m=some j->awp P cx c (OQ cx f j) s) (y:∀ j,k j=some r->q (f j).1 (f j).2):awp P cx c q s:=(bind_some h).elim λj h=>cR f j (x j h.1) (y j h.2)
theorem J {c:Code} {m:Option α} {k:α->Option β} (h:m.bind k=some r) (f:α->AS) (x:∀ j,m=some j->awp P cx c (OQ cx (λj=>(.normal,f j)) j) s) (y:∀ j,k j=some r->q .normal (f j)):awp P cx c q s:=D h _ x y
theorem U {X:Type} {body:Code} {step:X->Option (X ⊕ α)} {n:Nat} {x0:X} {k:α->Option β} (h:(zL step n x0).bind k=some r) (E:X->AS) (f:α->Exit×AS) (hi:Imp cx.pk s (E x0)) (hne:∀ y,(f y).1≠.normal)
  (hb:∀ x r,step x=some r->awp P cx body (OQ cx (LF E f) r) (E x)) (y:∀ j,k j=some r->q (f j).1 (f j).2):awp P cx (.loop body) q s:=(bind_some h).elim λj h=>zPh E f h.1 hi hne hb (y j h.2)
theorem Q {X:Type} {body:Code} {step:X->Option (X ⊕ α)} {n:Nat} {x0:X} {k:α->Option β} (h:(zL step n x0).bind k=some r) (i:Nat) (E:X->AS) (f:α->AS) (hi:Imp cx.pk s (E x0))
  (hb:∀ x r,step x=some r->awp P cx body (OQ cx (LF E λy=>(.exit i,f y)) r) (E x)) (y:∀ j,k j=some r->q (.exit i) (f j)):awp P cx (.loop body) q s:=U h E _ hi (λ_ h=>by cases h) hb y
theorem K (h:q .normal s):awp P cx .skip q s:=qN h
theorem X {id:Nat} (h:q (.exit id) s):awp P cx (.exit id) q s:=zC8 h
theorem T (h:q .ret s):awp P cx .ret q s:=bM h
theorem B {id:Nat} {c:Code} (h:awp P cx c (zK2 id q) s):awp P cx (.block id c) q s:=iY h
theorem L {l:Nat} (h:q .normal s):awp P cx (.label l) q s:=zQe h
theorem A {t:Nat} {x y:Code} {b:Bool} (he:b=true) (hc:s.env t=some (.p (.bool b))) (h:awp P cx x q s):awp P cx (.cond (.tmp t) x y) q s:=cT he hc h
theorem F {t:Nat} {x y:Code} {b:Bool} (he:b=false) (hc:s.env t=some (.p (.bool b))) (h:awp P cx y q s):awp P cx (.cond (.tmp t) x y) q s:=cF he hc h
theorem G {ops:Array Oper} {id n:Nat} (hnt:cx.nt=n) (h:RK P ops ops.toList s λs' ms=>zBz n ms=true/\q .normal s'):awp P cx (.region id ops false) q s:=rgn hnt h
theorem S {x y:Code} (h:awp P cx x (zIj (awp P cx y q) q) s):awp P cx (.seq x y) q s:=zOr h
theorem lpX {env:List (Nat×AV)} {blk:List (Nat×zG)} (hpk:PK cx ks) (H:(gE s env,gB s id blk,(fR (lk blk) env&&ks.all (λk=>(lk blk k).isSome)))=(vE id env,vB id blk,true)) (h:rS (lk blk) blk=true):Imp cx.pk s (mkS env blk):=have ⟨a,H⟩:=pq H;have ⟨b,c⟩:=pq H;lp hpk a b c h
theorem lP {env:List (Nat×AV)} {blk:List (Nat×zG)} (hpk:PK cx ks) (H:(gE s env,gB s id blk,(fR (lk blk) env&&ks.all (λk=>(lk blk k).isSome)),rS (lk blk) blk)=(vE id env,vB id blk,true,true)):Imp cx.pk s (mkS env blk):=have ⟨a,H⟩:=pq H;have ⟨b,H⟩:=pq H;have ⟨c,d⟩:=pq H;lp hpk a b c d
theorem iX {c:Code} (env:List (Nat×AV)) (blk:List (Nat×zG)) (hpk:PK cx ks) (H:(gE s env,gB s id blk,(fR (lk blk) env&&ks.all (λk=>(lk blk k).isSome)),rS (lk blk) blk)=(vE id env,vB id blk,true,true)) (k:awp P cx c q (mkS env blk)):awp P cx c q s:=im (lP hpk H) k
theorem E {f:I->Exit×AS} {j i:I} {e:Exit} (h:some j=some i) (hpk:PK cx ks) {env:List (Nat×AV)} {blk:List (Nat×zG)} (H:(f j,gE s env,gB s id blk,(fR (lk blk) env&&ks.all (λk=>(lk blk k).isSome)),rS (lk blk) blk)=((e,mkS env blk),vE id env,vB id blk,true,true)):OQ cx f i e s:=by
 cases h;have ⟨a,H⟩:=pq H;exact ⟨by rw [a],by rw [a];exact lP hpk H⟩
theorem W {f:I->Exit×AS} {j i:I} {e:Exit} (h:some j=some i) (a:e=(f j).1) (b:Imp cx.pk s (f j).2):OQ cx f i e s:=by cases h;exact ⟨a,b⟩
theorem lR {env:List (Nat×AV)} {blk:List (Nat×zG)} (hpk:PK cx ks) (m:List (Nat×Nat))
  (H:(gE s env,gB s (rho m) blk,(fR (lk (bR (rho m) blk)) (rE (rho m) env)&&(ks.all (λk=>(lk (bR (rho m) blk) k).isSome) &&
   (((kR (rho m) blk).all λj=>(kR (rho m) blk).all λj'=>!Nat.beq (rho (swp m) j) (rho (swp m) j')||Nat.beq j j')&&ks.all λk=>Nat.beq (rho (swp m) k) k))),
   rS (lk (bR (rho m) blk)) (bR (rho m) blk),rE (rho (swp m)) (rE (rho m) env),bR (rho (swp m)) (bR (rho m) blk))=(vE (AV.ren (rho m)) env,vB (zG.ren (rho m)) blk,true,true,env,blk)):Imp cx.pk s (mkS env blk):=
 have ⟨a,H⟩:=pq H;have ⟨b,H⟩:=pq H;have ⟨c,H⟩:=pq H;have ⟨d,H⟩:=pq H;have ⟨e,g⟩:=pq H;lr hpk m a b c d e g
theorem pU {pk:List (Nat×Nat)} (t:Nat) {v:AV} {p:PV} {bs:List (Nat×zG)} (H:(s.env t,s.rd v)=(some v,some (p,bs))):Imp pk s (s.put t (.p p)):=have ⟨a,b⟩:=pq H;Imp.pure a b
theorem pV {pk:List (Nat×Nat)} (t:Nat) {v:AV} {p:PV} {bs:List (Nat×zG)} (a:s.env t=some v) (b:s.rd v=some (p,bs)):Imp pk s (s.put t (.p p)):=Imp.pure a b
theorem pC {pk:List (Nat×Nat)} (k:Nat) {l:List AV} (j:Nat) {z:AV} {p:PV} {bs:List (Nat×zG)} (H:(s.blk k,l[j]?,s.rd z)=(some (.var l),some z,some (p,bs))):Imp pk s (s.setb k (.var (l.set j (.p p)))):=have ⟨a,H⟩:=pq H;have ⟨b,c⟩:=pq H;Imp.pureC j a b c
theorem pD {pk:List (Nat×Nat)} (k:Nat) {l:List AV} (j:Nat) {z:AV} {p:PV} {bs:List (Nat×zG)} (H:(s.blk k,l[j]?)=(some (.var l),some z)) (c:s.rd z=some (p,bs)):Imp pk s (s.setb k (.var (l.set j (.p p)))):=have ⟨a,b⟩:=pq H;Imp.pureC j a b c
theorem pM {pk:List (Nat×Nat)} (t k:Nat) {c:PV} (H:(s.env t,s.blk k,Nat.blt 0 c.width)=(some (.nl c),none,true)):Imp pk s ((s.setb k (.buf c)).put t (.buf k 0)):=have ⟨a,H⟩:=pq H;have ⟨b,d⟩:=pq H;Imp.promote a b (Nat.le_of_ble_eq_true d)
theorem hA {f:FuncId} {fn:Func} {body:Code} {na:Nat} {en:List (Nat×AV)} {rs:AS} (E:I->AS) (j:I) (hf:P.funcs[f]? = some fn) (H:(fn.body,(fn.name == "runtime.NumGoroutine"),Nat.ble na fn.ntmps)=(some body,false,true))
  (hr:∀ cx:Ctx,PK cx []->qH P fn cx (E j) rs) (h:∀ cx:Ctx,cx.nt=fn.ntmps->PK cx []->awp P cx body (OQ cx (λj=>(.ret,E j)) j) (mkS en [])):Ok P f na (mkS en []) rs:=
 have ⟨a,H⟩:=pq H;have ⟨b,c⟩:=pq H;zOs (E j) hf a b (Nat.le_of_ble_eq_true c) (zKo rfl) hr λcx n p=>cR (λj=>(.ret,E j)) j (h cx n p) ⟨rfl,Imp.refl⟩
theorem hB {f:FuncId} {fn:Func} {body:Code} {na:Nat} {en:List (Nat×AV)} {bl:zG} {rs:AS} (E:I->AS) (j:I) (hf:P.funcs[f]? = some fn) (H:(fn.body,(fn.name == "runtime.NumGoroutine"),Nat.ble na fn.ntmps)=(some body,false,true))
  (hr:∀ cx:Ctx,PK cx [0]->qH P fn cx (E j) rs) (h:∀ cx:Ctx,cx.nt=fn.ntmps->PK cx [0]->awp P cx body (OQ cx (λj=>(.ret,E j)) j) (mkS en [(0,bl)])):Ok P f na (mkS en [(0,bl)]) rs:=
 have ⟨a,H⟩:=pq H;have ⟨b,c⟩:=pq H;zOs (E j) hf a b (Nat.le_of_ble_eq_true c) (zJ9 rfl) hr λcx n p=>cR (λj=>(.ret,E j)) j (h cx n p) ⟨rfl,Imp.refl⟩
theorem hD {f:FuncId} {fn:Func} {body:Code} {na:Nat} {en:List (Nat×AV)} {B:List (Nat×List AV)} {rs:AS} {ks:List Nat} (E:I->AS) (j:I) (hf:P.funcs[f]? = some fn) (H:(fn.body,(fn.name == "runtime.NumGoroutine"),Nat.ble na fn.ntmps)=(some body,false,true)) (hks:kR id (bV B)=ks)
  (hr:∀ cx:Ctx,PK cx ks->qH P fn cx (E j) rs) (h:∀ cx:Ctx,cx.nt=fn.ntmps->PK cx ks->awp P cx body (OQ cx (λj=>(.ret,E j)) j) (mkS en (bV B))):Ok P f na (mkS en (bV B)) rs:=
 have ⟨a,H⟩:=pq H;have ⟨b,c⟩:=pq H;zOs (E j) hf a b (Nat.le_of_ble_eq_true c) (zPp rfl hks) hr λcx n p=>cR (λj=>(.ret,E j)) j (h cx n p) ⟨rfl,Imp.refl⟩
theorem r1 [T:zAn P] {fn:Func} {rs:AS} {t:Nat} {av:AV} (H:(fn.results,s.env t,({ env:=lk [(0,av)],blk:=s.blk }:AS))=(#[.tmp t],some av,rs)):∀ cx:Ctx,PK cx ks->qH P fn cx s rs:=λ_ _=>have ⟨a,H⟩:=pq H;have ⟨b,c⟩:=pq H;vQ T.ok a (.tmp _ _ b) (c▸Imp.refl)
section
variable {te:TE} {t1 t2 t3 t4 t5:TypeId} {x1 x2 x3 x4 x5:Operand} {v1 v2 v3 v4 v5:AV} {p1 p2 p3 p4 p5:PV} {b1 b2 b3 b4 b5:List (Nat×zG)}
theorem a1 (H:(s.get te t1 x1,s.rd v1)=(some v1,some (p1,b1))):mG s te [x1] [t1] [p1] (opS x1 v1++[]) (b1++[]):=have ⟨a,b⟩:=pq H;ac a b an
theorem a2 (H:(s.get te t1 x1,s.rd v1,s.get te t2 x2,s.rd v2)=(some v1,some (p1,b1),some v2,some (p2,b2))):mG s te [x1,x2] [t1,t2] [p1,p2] (opS x1 v1++(opS x2 v2++[])) (b1++(b2++[])):=have ⟨a,H⟩:=pq H;have ⟨b,H⟩:=pq H;ac a b (a1 H)
theorem a3 (H:(s.get te t1 x1,s.rd v1,s.get te t2 x2,s.rd v2,s.get te t3 x3,s.rd v3)=(some v1,some (p1,b1),some v2,some (p2,b2),some v3,some (p3,b3))):mG s te [x1,x2,x3] [t1,t2,t3] [p1,p2,p3] (opS x1 v1++(opS x2 v2++(opS x3 v3++[]))) (b1++(b2++(b3++[]))):=have ⟨a,H⟩:=pq H;have ⟨b,H⟩:=pq H;ac a b (a2 H)
theorem a4 (H:(s.get te t1 x1,s.rd v1,s.get te t2 x2,s.rd v2,s.get te t3 x3,s.rd v3,s.get te t4 x4,s.rd v4)=(some v1,some (p1,b1),some v2,some (p2,b2),some v3,some (p3,b3),some v4,some (p4,b4))):mG s te [x1,x2,x3,x4] [t1,t2,t3,t4] [p1,p2,p3,p4] (opS x1 v1++(opS x2 v2++(opS x3 v3++(opS x4 v4++[])))) (b1++(b2++(b3++(b4++[])))):=have ⟨a,H⟩:=pq H;have ⟨b,H⟩:=pq H;ac a b (a3 H)
end
end
section
variable {P:Program} {ops:Array Oper} {s:AS} {K:AS->List Mic->Prop} {A B D:Prop} {n:Nat} {ms:List Mic}
theorem RK.e (H:(K s [],zBz n ms)=((zBz n ms=true/\B),true)) (b:B):RK P ops [] s K:=have ⟨h,a⟩:=pq H;.nil (h▸⟨a,b⟩)
theorem RK.d (H:(K s [],zBz n ms)=((zBz n ms=true/\B/\D),true)) (b:B) (d:D):RK P ops [] s K:=have ⟨h,a⟩:=pq H;.nil (h▸⟨a,b,d⟩)
end
def evI (k:IntKind) (a b:Int):BinOp->Option PV
 | .add=>some (.int k (k.wrap (a+b)))
 | .sub=>some (.int k (k.wrap (a - b)))
 | .mul=>some (.int k (k.wrap (a*b)))
 | .and=>some (.int k (tR k a b))
 | .or=>some (.int k (ior k a b))
 | .xor=>some (.int k (wY k a b))
 | .andNot=>some (.int k (zGa k a b))
 | .eql=>some (.bool (a==b))
 | .neq=>some (.bool (a != b))
 | .lss=>some (.bool (decide (a<b)))
 | .leq=>some (.bool (decide (a<=b)))
 | .gtr=>some (.bool (decide (b<a)))
 | .geq=>some (.bool (decide (b<=a)))
 | _=>none
def evJ (a b:Int):BinOp->Option PV
 | .add=>some (.int .u8 (u8 (IntKind.u8.wrap (a+b))).toNat)
 | .sub=>some (.int .u8 (u8 (IntKind.u8.wrap (a - b))).toNat)
 | .mul=>some (.int .u8 (u8 (IntKind.u8.wrap (a*b))).toNat)
 | .and=>some (.int .u8 (u8 (tR .u8 a b)).toNat)
 | .or=>some (.int .u8 (u8 (ior .u8 a b)).toNat)
 | .xor=>some (.int .u8 (u8 (wY .u8 a b)).toNat)
 | .andNot=>some (.int .u8 (u8 (zGa .u8 a b)).toNat)
 | f=>evI .u8 a b f
def evT (a b:List UInt8):BinOp->Option PV
 | .eql=>some (.bool (SOp .eql a b))
 | .neq=>some (.bool (SOp .neq a b))
 | .lss=>some (.bool (SOp .lss a b))
 | .leq=>some (.bool (SOp .leq a b))
 | .gtr=>some (.bool (SOp .gtr a b))
 | .geq=>some (.bool (SOp .geq a b))
 | _=>none
def is8:IntKind->Bool
 | .u8=>true
 | _=>false
def evP (f:BinOp):AV->AV->Option PV
 | .p (.int k a),.p (.int k' b)=>bif decide (k=k') then bif is8 k then evJ a b f else evI k a b f else none
 | .p (.str a),.p (.str b)=>evT a b f
 | _,_=>none
def evA (te:TE) (t:TypeId) (f:Nat):AV->Option AV
 | .ptr k o=>match (te t).map TI.ty with
  | some (.struct fs)=>match fs[f]? with
   | some (ft,fo)=>match te ft with
    | some fi=>bif nzw fi then some (.ptr k (o+fo)) else none
    | none=>none
   | none=>none
  | _=>none
 | .p (.cptr (.agg l))=>match (te t).map TI.ty with
  | some (.struct fs)=>match fs[f]? with
   | some (ft,fo)=>match te ft with
    | some fi=>bif nzw fi then match jT fi.isAgg l fo fi.w with
     | some q=>some (.p (.cptr q))
     | none=>none else none
    | none=>none
   | none=>none
  | _=>none
 | _=>none
def evL (s:AS) (i:TI):AV->Option (AV×List (Nat×zG))
 | .ptr k o=>match s.blk k with
  | some (.var l)=>bif i.plain then match l[o]? with
   | some v=>some (v,[(k,.var l)])
   | none=>none else bif i.isAgg&&(Nat.beq o 0&&Nat.beq i.w l.length) then some (.ag l,[(k,.var l)]) else none
  | _=>none
 | .p (.cptr (.agg l))=>bif i.isAgg&&Nat.beq l.length i.w then some (.p (.agg l),[]) else none
 | .p (.cptr q)=>bif i.plain then some (.p q,[]) else none
 | _=>none
def evC (te:TE) (s d:TypeId):AV->Option AV
 | .p (.int k a)=>match (te s).map TI.ty,(te d).map TI.ty with
  | some (.int k'),some (.int k2)=>bif decide (k'=k) then bif is8 k2 then some (.p (.int .u8 (u8 a).toNat)) else some (.p (.int k2 (k2.wrap a))) else none
  | _,_=>none
 | _=>none
def ev1 (te:TE) (s:AS) (ty:TypeId):Op->Option (AV×List (Nat×AV)×List (Nat×zG))
 | .move x=>match s.get te ty x with
  | some v=>some (v,opS x v,[])
  | none=>none
 | .assign x=>match s.get te ty x with
  | some v=>some (v,opS x v,[])
  | none=>none
 | .binOp f tx x y t=>match s.get te tx x,s.get te t y with
  | some v,some w=>match evP f v w with
   | some p=>some (.p p,opS x v++opS y w,[])
   | none=>none
  | _,_=>none
 | .unOp .not tx x=>match s.get te tx x with
  | some (.p (.bool a))=>some (.p (.bool (!a)),opS x (.p (.bool a)),[])
  | _=>none
 | .fieldAddr t x f=>match s.get te 0 x with
  | some v=>match evA te t f v with
   | some w=>some (w,opS x v,[])
   | none=>none
  | none=>none
 | .load t x=>match s.get te 0 x,te t with
  | some v,some i=>match evL s i v with
   | some (w,bs)=>some (w,opS x v,bs)
   | none=>none
  | _,_=>none
 | .convert a b x=>match s.get te a x with
  | some v=>match evC te a b v with
   | some w=>some (w,opS x v,[])
   | none=>none
  | none=>none
 | .extract x n=>match s.get te 0 x with
  | some (.tu l)=>match l[n]? with
   | some v=>some (v,opS x (.tu l),[])
   | none=>none
  | _=>none
 | .nilCheck x=>match s.get te 0 x with
  | some (.ptr k n)=>some (.ptr k n,opS x (.ptr k n),[])
  | _=>none
 | _=>none
section
variable {P:Program} {te:TE} {s:AS} {o:Oper}
theorem zRy {α:Type} {c:Bool} {x:Option α} {y:α} (h:(bif c then x else none)=some y):c=true/\x=some y:=by cases c<;>simp_all
theorem zR7 (hok:yR P te) {f:BinOp} {tx ty:TypeId} {x y:Operand} {k:IntKind} {a b:Int} {p:PV} (ho:o.op=.binOp f tx x y ty) (hx:s.get te tx x=some (.p (.int k a))) (hy:s.get te ty y=some (.p (.int k b))) (h:evI k a b f=some p):VA P o s (opS x (.p (.int k a))++opS y (.p (.int k b))) [] (.p p):=by
 cases f<;>simp only [evI,Option.some.injEq,reduceCtorEq] at h<;>subst h
 ·exact iop hok .add ho hx hy
 ·exact iop hok .sub ho hx hy
 ·exact iop hok .mul ho hx hy
 ·exact iop hok .and ho hx hy
 ·exact iop hok .or ho hx hy
 ·exact iop hok .xor ho hx hy
 ·exact iop hok .andNot ho hx hy
 ·exact cmp hok .eql ho hx hy
 ·exact cmp hok .neq ho hx hy
 ·exact cmp hok .lss ho hx hy
 ·exact cmp hok .leq ho hx hy
 ·exact cmp hok .gtr ho hx hy
 ·exact cmp hok .geq ho hx hy
theorem zZp (hok:yR P te) {f:BinOp} {tx ty:TypeId} {x y:Operand} {a b:Int} {p:PV} (ho:o.op=.binOp f tx x y ty) (hx:s.get te tx x=some (.p (.int .u8 a))) (hy:s.get te ty y=some (.p (.int .u8 b))) (h:evJ a b f=some p):VA P o s (opS x (.p (.int .u8 a))++opS y (.p (.int .u8 b))) [] (.p p):=by
 cases f<;>simp only [evJ] at h<;>first | exact zR7 hok ho hx hy h | (simp only [Option.some.injEq] at h;subst h)
 ·exact iop8 hok .add ho hx hy
 ·exact iop8 hok .sub ho hx hy
 ·exact iop8 hok .mul ho hx hy
 ·exact iop8 hok .and ho hx hy
 ·exact iop8 hok .or ho hx hy
 ·exact iop8 hok .xor ho hx hy
 ·exact iop8 hok .andNot ho hx hy
theorem zWp (hok:yR P te) {f:BinOp} {tx ty:TypeId} {x y:Operand} {a b:List UInt8} {p:PV} (ho:o.op=.binOp f tx x y ty) (hx:s.get te tx x=some (.p (.str a))) (hy:s.get te ty y=some (.p (.str b))) (h:evT a b f=some p):VA P o s (opS x (.p (.str a))++opS y (.p (.str b))) [] (.p p):=by
 cases f<;>simp only [evT,Option.some.injEq,reduceCtorEq] at h<;>subst h
 ·exact scm hok .eql ho hx hy
 ·exact scm hok .neq ho hx hy
 ·exact scm hok .lss ho hx hy
 ·exact scm hok .leq ho hx hy
 ·exact scm hok .gtr ho hx hy
 ·exact scm hok .geq ho hx hy
theorem zV9 (hok:yR P te) {f:BinOp} {tx ty:TypeId} {x y:Operand} {v w:AV} {p:PV} (ho:o.op=.binOp f tx x y ty) (hx:s.get te tx x=some v) (hy:s.get te ty y=some w) (h:evP f v w=some p):VA P o s (opS x v++opS y w) [] (.p p):=by
 unfold evP at h
 split at h
 ·rename_i k a k' b
  by_cases e:k=k'
  ·subst e
   simp only [decide_true,cond_true] at h
   cases k<;>simp only [is8,cond_true,cond_false] at h<;>first | exact zZp hok ho hx hy h | exact zR7 hok ho hx hy h
  ·simp [e] at h
 ·exact zWp hok ho hx hy h
 ·cases h
theorem zW9 (hok:yR P te) {t:TypeId} {f:Nat} {x:Operand} {v w:AV} (ho:o.op=.fieldAddr t x f) (hx:s.get te 0 x=some v) (h:evA te t f v=some w):VA P o s (opS x v) [] w:=by
 unfold evA at h
 split at h
 ·split at h<;>try cases h
  split at h<;>try cases h
  split at h<;>try cases h
  rename_i h1 _ _ _ h2 _ _ h3
  obtain ⟨hz,h⟩:=zRy h
  cases h
  exact fa hok ho h1 h2 h3 hz hx
 ·split at h<;>try cases h
  split at h<;>try cases h
  split at h<;>try cases h
  rename_i h1 _ _ _ h2 _ _ h3
  obtain ⟨hz,h⟩:=zRy h
  split at h<;>try cases h
  rename_i h4
  exact fc hok ho h1 h2 h3 hz hx h4
 ·cases h
theorem zXl (hok:yR P te) {t:TypeId} {x:Operand} {v w:AV} {i:TI} {bs:List (Nat×zG)} (ho:o.op=.load t x) (hx:s.get te 0 x=some v) (ht:te t=some i) (h:evL s i v=some (w,bs)):VA P o s (opS x v) bs w:=by
 unfold evL at h
 split at h
 ·split at h<;>try cases h
  rename_i h1
  cases hp:i.plain<;>simp only [hp,cond_true,cond_false] at h
  ·obtain ⟨hz,h⟩:=zRy h
   simp only [Bool.and_eq_true] at hz
   cases h
   have:=Nat.eq_of_beq_eq_true hz.2.1
   subst this
   exact ldW hok ho ht hz.1 hx h1 hz.2.2
  ·split at h<;>try cases h
   exact ld hok ho ht hp hx h1 ‹_›
 ·obtain ⟨hz,h⟩:=zRy h
  simp only [Bool.and_eq_true] at hz
  cases h
  exact ldCN hok ho ht hz.1 hx hz.2
 ·rename_i q hq
  obtain ⟨hp,h⟩:=zRy h
  cases h
  exact ldC hok ho ht hp hx (by cases q<;>first | rfl | exact absurd rfl (hq _))
 ·cases h
theorem zZb (hok:yR P te) {a b:TypeId} {x:Operand} {v w:AV} (ho:o.op=.convert a b x) (hx:s.get te a x=some v) (h:evC te a b v=some w):VA P o s (opS x v) [] w:=by
 unfold evC at h
 split at h
 ·split at h<;>try cases h
  rename_i k c _ _ k' k2 h1 h2
  by_cases e:k'=k
  ·subst e
   simp only [decide_true,cond_true] at h
   cases k2<;>simp only [is8,cond_true,cond_false,Option.some.injEq] at h<;>subst h<;>first | exact va_conv8 hok ho h1 h2 hx | exact zPu hok ho h1 h2 hx
  ·simp [e] at h
 ·cases h
theorem zXg (hok:yR P te) {v:AV} {rs:List (Nat×AV)} {bs:List (Nat×zG)} (h:ev1 te s o.type o.op=some (v,rs,bs)):VA P o s rs bs v:=by
 unfold ev1 at h
 split at h
 ·rename_i ho
  split at h<;>cases h
  exact mv hok ho ‹_›
 ·rename_i ho
  split at h<;>cases h
  exact asg hok ho ‹_›
 ·rename_i ho
  split at h<;>try cases h
  split at h<;>cases h
  exact zV9 hok ho ‹_› ‹_› ‹_›
 ·rename_i ho
  split at h<;>cases h
  exact not' hok ho ‹_›
 ·rename_i ho
  split at h<;>try cases h
  split at h<;>cases h
  exact zW9 hok ho ‹_› ‹_›
 ·rename_i ho
  split at h<;>try cases h
  split at h<;>cases h
  exact zXl hok ho ‹_› ‹_› ‹_›
 ·rename_i ho
  split at h<;>try cases h
  split at h<;>cases h
  exact zZb hok ho ‹_› ‹_›
 ·rename_i ho
  split at h<;>try cases h
  split at h<;>cases h
  exact va_extractA ho ‹_› ‹_›
 ·rename_i ho
  split at h<;>cases h
  exact ncp hok ho ‹_›
 ·cases h
end
section
variable {P:Program} {ops:Array Oper} {s:AS} {r:List Oper} {K:AS->List Mic->Prop} {d:Nat} {ty:TypeId} {pos:String} {af:Array Edge} {v:AV} {op:Op} {rs:List (Nat×AV)} {bs:List (Nat×zG)}
theorem RK.ev [T:zAn P] (h:ev1 T.te s ty op=some (v,rs,bs)) (k:VK P ops r s K d rs bs v):RK P ops (⟨some d,op,ty,pos,af,none⟩:: r) s K:=RK.va rfl rfl (zXg T.ok h) k
class Lit (b:Bool):Prop where
 x:True
instance:Lit true:=⟨trivial⟩
instance:Lit false:=⟨trivial⟩
theorem RK.gl {j dj:Nat} {b b2:Bool} [Lit b2] (H:((ops[j]?).bind (·.dst),s.env dj)=(some dj,some (.p (.bool b2)))) (k:bif b.xor b2 then RK P ops r (s.put d (.p (.tup []))) λs' ms=>K s' (⟨[(dj,.p (.bool b2))],[],[],some (d,some (.p (.tup []))),[]⟩:: ms) else RK P ops (⟨some d,op,ty,pos,af,none⟩:: r) s (GK K dj b)):RK P ops (⟨some d,op,ty,pos,af,some (j,b)⟩:: r) s K:=by
 cases b<;>cases b2
 ·exact RK.g rfl H k
 ·have ⟨a,c⟩:=pq H;exact RK.sk (j:=j) (b:=true) (b':=false) rfl (by rw [a,c];rfl) k
 ·have ⟨a,c⟩:=pq H;exact RK.sk (j:=j) (b:=false) (b':=true) rfl (by rw [a,c];rfl) k
 ·exact RK.g rfl H k
theorem zLv {dj:Nat} (H:s.env dj=some v):s.put dj v=s:=by
 unfold AS.put
 cases s with
 | mk e b=>
  simp only [AS.mk.injEq,and_true]
  funext t
  cases hb:Nat.beq t dj with
  | true=>have:=Nat.eq_of_beq_eq_true hb;subst this;simp only [cond_true];exact H.symm
  | false=>rfl
variable {β:Type} {c:Bool} {x y:Option β} {z:β}
theorem RK.gp {dst:Option Nat} {j dj:Nat} {b:Bool} (h:(bif c then x else y)=some z) (H:((ops[j]?).bind (·.dst),s.env dj)=(some dj,some (.p (.bool c)))) (k:x=some z->RK P ops (⟨dst,op,ty,pos,af,some (j,b)⟩:: r) (s.put dj (.p (.bool true))) K) (l:y=some z->RK P ops (⟨dst,op,ty,pos,af,some (j,b)⟩:: r) (s.put dj (.p (.bool false))) K):RK P ops (⟨dst,op,ty,pos,af,some (j,b)⟩:: r) s K:=by
 have ⟨_,g⟩:=pq H
 cases c
 ·rw [<- zLv g];exact l h
 ·rw [<- zLv g];exact k h
theorem RK.pk [T:zAn P] {t:Nat} {a b:Operand} {b2:Bool} [Lit b2] (H:(s.env t,s.get T.te ty (bif b2 then a else b))=(some (.p (.bool b2)),some v)) (k:VK P ops r s K d ([(t,.p (.bool b2))]++opS (bif b2 then a else b) v) [] v):RK P ops (⟨some d,.pick (.tmp t) a b,ty,pos,af,none⟩:: r) s K:=by
 cases b2
 ·exact RK.pF rfl H k
 ·exact RK.pT rfl H k
end
class zPn (s:AS):Prop where
 x:True
instance {s:AS} {d:Nat} {v:AV}:zPn (s.put d v):=⟨trivial⟩
instance {s:AS} {d:Nat} {v:zG}:zPn (s.setb d v):=⟨trivial⟩
instance {s:AS} {m:Mic}:zPn (m.upd s):=⟨trivial⟩
def cid:Code->Nat
 | .region i _ _=>i
 | .cond (.tmp t) _ _=>t
 | .block i _=>i+500000
 | .loop c=>cid c
 | .seq a _=>cid a+1000
 | .ret=>999999
 | _=>888888
abbrev EB:=List (Nat×AV)×List (Nat×zG)
def mkE (e:EB) (k:EB):AS:=mkS (e.1++k.1) (e.2++k.2)
def Has (s:AS) (k:EB):Prop:=(gE s k.1,gB s id k.2)=(vE id k.1,vB id k.2)
inductive Wp (P:Program) (cx:Ctx) (c:Code) (Q:Exit->AS->Prop) (s:AS):Prop where
 | mk (a:awp P cx c Q s)
section
variable {P:Program} {cx:Ctx} {q:Exit->AS->Prop} {s:AS} {α β I:Type} {r:β} {ks:List Nat}
def isS:Code->Bool
 | .seq _ _ | .block _ _ | .skip | .exit _ | .ret=>true
 | _=>false
def zVo (k:AS->Prop) (Q:Exit->AS->Prop):Exit->AS->Prop
 | .normal,s=>k s
 | e,s=>Q e s
def nxt (P:Program) (cx:Ctx) (q:Exit->AS->Prop) (s:AS):Code->Prop
 | .seq x y=>Wp P cx x (zVo (Wp P cx y q) q) s
 | .block i c=>Wp P cx c (zK2 i q) s
 | .skip=>q .normal s
 | .exit i=>q (.exit i) s
 | .ret=>q .ret s
 | _=>False
theorem Z1 {c:Code} (h:isS c=true) (k:nxt P cx q s c):Wp P cx c q s:=by
 cases c<;>first | cases h | skip
 ·exact ⟨K k⟩
 ·refine ⟨S (zC9 k.1 λe s h=>?_)⟩
  cases e<;>first | exact h.1 | exact h
 ·exact ⟨B k.1⟩
 ·exact ⟨X k⟩
 ·exact ⟨T k⟩
theorem G1 {ops:Array Oper} {id n:Nat} (hnt:cx.nt=n) (h:RK P ops ops.toList s λs' ms=>zBz n ms=true/\q .normal s'):Wp P cx (.region id ops false) q s:=⟨rgn hnt h⟩
theorem Y1 {ops:Array Oper} {id n:Nat} (hnt:cx.nt=n) (hm:P.follows .mixedOrders=true) (h:RK P ops ops.toList s λs' ms=>zBz n ms=true/\(zBe ops ms&&zQ3 ops)=true/\q .normal s'):Wp P cx (.region id ops true) q s:=⟨rgd hnt hm h⟩
theorem A1 {t:Nat} {x y:Code} {b:Bool} (he:b=true) (hc:s.env t=some (.p (.bool b))) (h:Wp P cx x q s):Wp P cx (.cond (.tmp t) x y) q s:=⟨cT he hc h.1⟩
theorem F1 {t:Nat} {x y:Code} {b:Bool} (he:b=false) (hc:s.env t=some (.p (.bool b))) (h:Wp P cx y q s):Wp P cx (.cond (.tmp t) x y) q s:=⟨cF he hc h.1⟩
variable {m:Option α} {k:α->Option β}
theorem Jg {c:Code} (h:m.bind k=some r) (f:α->AS) (x:∀ j,m=some j->Wp P cx c (OQ cx (λj=>(.normal,f j)) j) s) (y:∀ j,k j=some r->q .normal (f j)):Wp P cx c q s:=⟨J h f (λj h=>(x j h).1) y⟩
theorem Jn {c:Code} (z:isS c=true) (h:m.bind k=some r) (f:α->AS) (x:∀ j,m=some j->nxt P cx (OQ cx (λj=>(.normal,f j)) j) s c) (y:∀ j,k j=some r->q .normal (f j)):Wp P cx c q s:=Jg h f (λj h=>Z1 z (x j h)) y
theorem Jr (i:Nat) {o:Array Oper} {n:Nat} (hnt:cx.nt=n) (h:m.bind k=some r) (e:EB) (_:Has s e) (F:α->EB) (x:∀ j,m=some j->RK P o o.toList s λs' ms=>zBz n ms=true/\OQ cx (λj=>(.normal,mkE (F j) e)) j .normal s') (y:∀ j,k j=some r->q .normal (mkE (F j) e)):Wp P cx (.region i o false) q s:=Jg h _ (λj h=>G1 hnt (x j h)) y
theorem Jy (i:Nat) {o:Array Oper} {n:Nat} (hnt:cx.nt=n) (hm:P.follows .mixedOrders=true) (h:m.bind k=some r) (e:EB) (_:Has s e) (F:α->EB) (x:∀ j,m=some j->RK P o o.toList s λs' ms=>zBz n ms=true/\(zBe o ms&&zQ3 o)=true/\OQ cx (λj=>(.normal,mkE (F j) e)) j .normal s') (y:∀ j,k j=some r->q .normal (mkE (F j) e)):Wp P cx (.region i o true) q s:=Jg h _ (λj h=>Y1 hnt hm (x j h)) y
theorem Js (i:Nat) {c:Code} (_:cid c=i) (z:isS c=true) (h:m.bind k=some r) (e:EB) (_:Has s e) (F:α->EB) (x:∀ j,m=some j->nxt P cx (OQ cx (λj=>(.normal,mkE (F j) e)) j) s c) (y:∀ j,k j=some r->q .normal (mkE (F j) e)):Wp P cx c q s:=Jn z h _ x y
theorem Di (i:Nat) {c:Code} (_:cid c=i) (z:isS c=true) (h:m.bind k=some r) (e:EB) (_:Has s e) (f:EB->α->Exit×AS) (x:∀ j,m=some j->nxt P cx (OQ cx (f e) j) s c) (y:∀ j,k j=some r->q (f e j).1 (f e j).2):Wp P cx c q s:=⟨D h _ (λj h=>(Z1 z (x j h)).1) y⟩
theorem Qi (i:Nat) {X:Type} {body:Code} {step:X->Option (X ⊕ α)} {n:Nat} {x0:X} (_:cid body=i) (h:(zL step n x0).bind k=some r) (e:EB) (_:Has s e) (l:Nat) (E:X->EB) (F:α->EB) (hi:Imp cx.pk s (mkE (E x0) e))
  (hb:∀ x r,step x=some r->Wp P cx body (OQ cx (LF (λx=>mkE (E x) e) λy=>(.exit l,mkE (F y) e)) r) (mkE (E x) e)) (y:∀ j,k j=some r->q (.exit l) (mkE (F j) e)):Wp P cx (.loop body) q s:=⟨Q h l _ _ hi (λx r h=>(hb x r h).1) y⟩
theorem Ui (i:Nat) {X:Type} {body:Code} {step:X->Option (X ⊕ α)} {n:Nat} {x0:X} (_:cid body=i) (h:(zL step n x0).bind k=some r) (e:EB) (_:Has s e) (E:X->EB) (f:EB->α->Exit×AS) (hi:Imp cx.pk s (mkE (E x0) e)) (hne:∀ y,(f e y).1≠.normal)
  (hb:∀ x r,step x=some r->Wp P cx body (OQ cx (LF (λx=>mkE (E x) e) (f e)) r) (mkE (E x) e)) (y:∀ j,k j=some r->q (f e j).1 (f e j).2):Wp P cx (.loop body) q s:=⟨U h _ _ hi hne (λx r h=>(hb x r h).1) y⟩
theorem Qj (i:Nat) {X:Type} {body:Code} {step:X->Option (X ⊕ α)} {n:Nat} {x0:X} (_:cid body=i) (h:(zL step n x0).bind k=some r) (e:EB) (_:Has s e) (d:EB) (_:Has s d) (l:Nat) (E:X->EB) (F:α->EB) (hi:Imp cx.pk s (mkE (E x0) e))
  (hb:∀ x r,step x=some r->Wp P cx body (OQ cx (LF (λx=>mkE (E x) e) λy=>(.exit l,mkE (F y) d)) r) (mkE (E x) e)) (y:∀ j,k j=some r->q (.exit l) (mkE (F j) d)):Wp P cx (.loop body) q s:=⟨Q h l _ _ hi (λx r h=>(hb x r h).1) y⟩
theorem Uj (i:Nat) {X:Type} {body:Code} {step:X->Option (X ⊕ α)} {n:Nat} {x0:X} (_:cid body=i) (h:(zL step n x0).bind k=some r) (e:EB) (_:Has s e) (d:EB) (_:Has s d) (E:X->EB) (f:EB->α->Exit×AS) (hi:Imp cx.pk s (mkE (E x0) e)) (hne:∀ y,(f d y).1≠.normal)
  (hb:∀ x r,step x=some r->Wp P cx body (OQ cx (LF (λx=>mkE (E x) e) (f d)) r) (mkE (E x) e)) (y:∀ j,k j=some r->q (f d j).1 (f d j).2):Wp P cx (.loop body) q s:=⟨U h _ _ hi hne (λx r h=>(hb x r h).1) y⟩
theorem iZ (i:Nat) {c:Code} [zPn s] (_:cid c=i) (env:List (Nat×AV)) (blk:List (Nat×zG)) (hpk:PK cx ks) (H:(gE s env,gB s id blk,(fR (lk blk) env&&ks.all (λk=>(lk blk k).isSome)),rS (lk blk) blk)=(vE id env,vB id blk,true,true)) (k:Wp P cx c q (mkS env blk)):Wp P cx c q s:=⟨iX env blk hpk H k.1⟩
theorem hW {f:FuncId} {fn:Func} {body:Code} {na:Nat} {en:List (Nat×AV)} {rs:AS} (E:I->AS) (j:I) (hf:P.funcs[f]? = some fn) (H:(fn.body,(fn.name == "runtime.NumGoroutine"),Nat.ble na fn.ntmps)=(some body,false,true))
  (hr:∀ cx:Ctx,PK cx []->qH P fn cx (E j) rs) (h:∀ cx:Ctx,cx.nt=fn.ntmps->PK cx []->Wp P cx body (OQ cx (λj=>(.ret,E j)) j) (mkS en [])):Ok P f na (mkS en []) rs:=hA E j hf H hr λcx n p=>(h cx n p).1
theorem hX {f:FuncId} {fn:Func} {body:Code} {na:Nat} {en:List (Nat×AV)} {bl:zG} {rs:AS} (E:I->AS) (j:I) (hf:P.funcs[f]? = some fn) (H:(fn.body,(fn.name == "runtime.NumGoroutine"),Nat.ble na fn.ntmps)=(some body,false,true))
  (hr:∀ cx:Ctx,PK cx [0]->qH P fn cx (E j) rs) (h:∀ cx:Ctx,cx.nt=fn.ntmps->PK cx [0]->Wp P cx body (OQ cx (λj=>(.ret,E j)) j) (mkS en [(0,bl)])):Ok P f na (mkS en [(0,bl)]) rs:=hB E j hf H hr λcx n p=>(h cx n p).1
theorem hY {f:FuncId} {fn:Func} {body:Code} {na:Nat} {en:List (Nat×AV)} {B:List (Nat×List AV)} {rs:AS} {ks:List Nat} (E:I->AS) (j:I) (hf:P.funcs[f]? = some fn) (H:(fn.body,(fn.name == "runtime.NumGoroutine"),Nat.ble na fn.ntmps)=(some body,false,true)) (hks:kR id (bV B)=ks)
  (hr:∀ cx:Ctx,PK cx ks->qH P fn cx (E j) rs) (h:∀ cx:Ctx,cx.nt=fn.ntmps->PK cx ks->Wp P cx body (OQ cx (λj=>(.ret,E j)) j) (mkS en (bV B))):Ok P f na (mkS en (bV B)) rs:=hD E j hf H hks hr λcx n p=>(h cx n p).1
theorem iM (i:Nat) {c:Code} {s':AS} (_:cid c=i) (h:Imp cx.pk s s') (k:Wp P cx c q s'):Wp P cx c q s:=⟨im h k.1⟩
def kZ (P:Program) (cx:Ctx) (c:Code) (q:Exit->AS->Prop):Nat->AS->Prop
 | 0,_=>False
 | n+1,s=>Wp P cx c (zVo (kZ P cx c q n) q) s
theorem zTe {c:Code}:∀ {n:Nat} {s:AS},kZ P cx c q n s->zD3 P cx c q n s
 | 0,_,h=>h
 | n+1,s,h=>zC9 h.1 λe s h=>by
  cases e<;>first | exact h | exact zTe h
theorem Rn (n:Nat) {c:Code} (h:kZ P cx c q n s):Wp P cx (.loop c) q s:=⟨rY n (zTe h)⟩
theorem lV {env:List (Nat×AV)} {blk:List (Nat×zG)} (hpk:PK cx ks) (m:List (Nat×Nat))
  (H:(gE s env,(fR (lk (bR (rho m) blk)) (rE (rho m) env)&&(ks.all (λk=>(lk (bR (rho m) blk) k).isSome) &&
   (((kR (rho m) blk).all λj=>(kR (rho m) blk).all λj'=>!Nat.beq (rho (swp m) j) (rho (swp m) j')||Nat.beq j j')&&ks.all λk=>Nat.beq (rho (swp m) k) k))),
   rE (rho (swp m)) (rE (rho m) env))=(vE (AV.ren (rho m)) env,true,env))
  (h:gB s (rho m) blk=vB (zG.ren (rho m)) blk/\rS (lk (bR (rho m) blk)) (bR (rho m) blk)=true/\bR (rho (swp m)) (bR (rho m) blk)=blk):Imp cx.pk s (mkS env blk):=
 have ⟨a,H⟩:=pq H;have ⟨b,c⟩:=pq H;lr hpk m a h.1 b h.2.1 c h.2.2
structure OF (cx:Ctx) (E:I->AS) (j:I) (e:Exit) (s:AS):Prop where
 a:e=.ret∨e=.normal
 b:Imp cx.pk s (E j)
theorem hR {f:FuncId} {fn:Func} {body:Code} {na:Nat} {en:List (Nat×AV)} {bl:zG} {rs:AS} (E:I->AS) (j:I) (hf:P.funcs[f]? = some fn) (H:(fn.body,(fn.name == "runtime.NumGoroutine"),Nat.ble na fn.ntmps)=(some body,false,true))
  (hr:∀ cx:Ctx,PK cx [0]->qH P fn cx (E j) rs) (h:∀ cx:Ctx,cx.nt=fn.ntmps->PK cx [0]->Wp P cx body (OF cx E j) (mkS en [(0,bl)])):Ok P f na (mkS en [(0,bl)]) rs:=
 have ⟨a,H⟩:=pq H;have ⟨b,c⟩:=pq H;zS7 (E j) hf a b (Nat.le_of_ble_eq_true c) (zJ9 rfl) hr λcx n p=>zC9 (h cx n p).1 λ_ _ h=>⟨h.1,h.2⟩
theorem Wr {E:I->AS} {j i:I} {e:Exit} (h:some j=some i) (a:e=.ret∨e=.normal) (b:Imp cx.pk s (E j)):OF cx E i e s:=by cases h;exact ⟨a,b⟩
theorem Lv {E:I->AS} {i:I} {e:Exit} (h:OF cx E i e s):OF cx E i e s:=h
theorem Cs {t:Nat} {X Y:Code} {c:Bool} {x y:Option β} (h:(bif c then x else y)=some r) (H:s.env t=some (.p (.bool c))) (k:x=some r->Wp P cx X q s) (l:y=some r->Wp P cx Y q s):Wp P cx (.cond (.tmp t) X Y) q s:=by
 cases c
 ·exact F1 rfl H (l h)
 ·exact A1 rfl H (k h)
theorem Lo {c:Code} (h:Wp P cx (.loop c) q s):Wp P cx (.loop c) q s:=h
theorem Lu {f:I->Exit×AS} {i:I} {e:Exit} (h:OQ cx f i e s):OQ cx f i e s:=h
end
theorem Ru {P:Program} {ops:Array Oper} {l:List Oper} {s:AS} {K:AS->List Mic->Prop} (h:RK P ops l s K):RK P ops l s K:=h
end Go.Sw
