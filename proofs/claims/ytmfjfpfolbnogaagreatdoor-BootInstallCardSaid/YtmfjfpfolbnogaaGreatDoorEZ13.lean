/- the slots after installing -/
import Derived.Test.YtmfjfpfolbnogaaGreatDoorEZ12
set_option linter.all false
namespace Go.Proofs.TT
open Go Go.Sw
set_option maxRecDepth 100000
variable {a:List api_Image}{d:zD}{m seq:Nat}{st:zT}{vo:yF}
theorem zN6 (es:List zB) (h40:es.length<=40) (hE:∀ e∈es,EvC e st.Active) (hK:∀ e∈es,e.Kind≠5) (n:Nat):∀ (i fuel:Nat) (d:zD) (vo:yF) (m:Nat),i+n=es.length->n<fuel->Mz d seq st vo m (es.take i)->m+n<2 ^ 50 ->
  ∃ d' vo',zR (rK es) fuel ((i:Int),0,yC.mk d [])=some (.inr (0,yC.mk d' []))/\Mz d' seq st vo' (m+n) es/\∀ a,3<=a->d'.Disk.Areas.getD a []=d.Disk.Areas.getD a []:=by
 induction n with
 | zero=>
  intro i fuel d vo m hi hf h _;obtain ⟨f,rfl⟩:∃ f,fuel=f+1:=⟨fuel - 1,by omega⟩;have hi:i=es.length:=by omega
  subst hi;rw [List.take_length] at h;refine ⟨d,vo,?_,h,λ_ _=>rfl⟩;have:rK es ((es.length:Int),0,yC.mk d [])=some (.inr (.inr (0,yC.mk d []))):=by
   unfold rK;exact cf (decide_eq_false (by omega)) rfl
  simp only [zR,this]
 | succ n ih=>
  intro i fuel d vo m hi hf h hm;obtain ⟨f,rfl⟩:∃ f,fuel=f+1:=⟨fuel - 1,by omega⟩;have hl:i<es.length:=by omega
  have hmem:es[i]∈es:=List.getElem_mem _;obtain ⟨d1,vo1,e1,h1,s1⟩:=h.step (hE _ hmem) (hK _ hmem) (by rw [List.length_take];omega) (λe he=>hE e (List.mem_of_mem_take he)) (by omega);rw [show es.take i++[es[i]]=es.take (i+1) from by rw [List.take_add_one];simp [hl]] at h1;obtain ⟨d2,vo2,e2,h2,s2⟩:=ih (i+1) f d1 vo1 (m+1) (by omega) (by omega) h1 (by omega);refine ⟨d2,vo2,?_,by rw [show m+(n+1)=m+1+n from by omega];exact h2,λa ha=>(s2 a ha).trans (s1 a ha)⟩;have:rK es ((i:Int),0,yC.mk d [])=some (.inl (((i+1:Nat):Int),0,yC.mk d1 [])):=by
   unfold rK;refine ct (decide_eq_true (by omega)) (bd (yS hl) (bd e1 (cf rfl ?_)));rw [yW (by omega) (by omega)];rfl
  simp only [zR,this];exact e2
section
theorem Dv.start (h:Dv d seq st vo m) (hs:vo.Started=false) (hp:vo.Stopped=false) (hR:st.Resets+1<2 ^ 30) (hq:seq+1<2 ^ 29) (hm:m+1<2 ^ 50):∃ d1 seq1,rQ (yC.mk d []) (zZ.mk 1 [] [] [0] [])=some (zL.mk 0 [] [] [],0,yC.mk d1 [])/\Dv d1 seq1 (stS st) (zM7 st vo) (m+1)/\seq1<=seq+1/\∀ a,2<=a->d1.Disk.Areas.getD a []=d.Disk.Areas.getD a []:=by
 obtain ⟨d1,seq1,e,h1,h2,h3⟩:=h.send_new (h.sst.S hR) hq hm (zLp st vo h.sst hs hp);exact ⟨d1,seq1,zOv rqS e rsd0 rfl (by decide) (yC.mk d []) rfl,h1,h2,h3⟩
def lT (d:zD):Nat:=if d.Disk.Areas.getD 5 []=[1] then 1 else 0
theorem zOd (d:zD):lT d<2:=by unfold lT;split<;>omega
theorem Dv.chosen (h:Dv d seq st vo m):pN d=some (lT d:Int):=by
 rw [zLc d h.off (by rw [h.n];decide) (by have:=h.al 5;omega)];unfold lT;split<;>rfl
def zA5 (active c:Int) (pe:List zB):List zB:=if c=0 then pe else [zPz active]
theorem Dv.run (h:Dv d seq st vo m) (hs:vo.Started=false) (hp:vo.Stopped=false) (hR:st.Resets+1<2 ^ 30) (hq:seq+1<2 ^ 29) (hm:m+60<2 ^ 50)
  {ch:List api_Image} {c:Int} {pe:List zB} (hsm:(d.Disk.Areas.getD (3+lT d) []).length<2 ^ 30) (hch:bY (d.Disk.Areas.getD (3+lT d) [])=some (ch,c)) (hpe:uL ch st.Active=some pe)
  (h40:pe.length<=40) (hE:∀ e∈pe,EvC e st.Active) (hK:∀ e∈pe,e.Kind≠5) :
  ∃ d' seq' vo' m',mI d=some (d',if c=0 then 0 else 50)/\Mz d' seq' (stS st) vo' m' (zA5 st.Active c pe)/\seq'<=seq+1/\m'<=m+43/\∀ a,3<=a->d'.Disk.Areas.getD a []=d.Disk.Areas.getD a []:=by
 obtain ⟨d1,seq1,e1,h1,hq1,s1⟩:=h.start hs hp hR hq (by omega);have hr0:=h.sst.r0;have hw:=h1.write (a:=2) (bZ st.Active (st.Resets+1)) (by decide) (by rw [eW];decide);have h2:=h1.set (a:=2) (y:=bZ st.Active (st.Resets+1)) (by decide) (by decide) (by rw [eW];decide) (by omega);have hge:∀ a,3<=a->(dE d1 2 (bZ st.Active (st.Resets+1))).Disk.Areas.getD a []=d.Disk.Areas.getD a []:=λa ha=>(getD_set_ne (by omega)).trans (s1 a (by omega));have hn:lT (dE d1 2 (bZ st.Active (st.Resets+1)))=lT d:=by unfold lT;rw [hge 5 (by decide)]
 have hlt:=zOd d;have hco:pN (dE d1 2 (bZ st.Active (st.Resets+1)))=some (lT d:Int):=by rw [h2.chosen,hn]
 have hcc:vD (dE d1 2 (bZ st.Active (st.Resets+1))) (lT d:Int)=some (ch,c):=by
  rw [eF _ hlt h2.off (by rw [h2.n];omega) (by rw [hge _ (by omega)];exact hsm),hge _ (by omega),hch]
 have hz:Mz (dE d1 2 (bZ st.Active (st.Resets+1))) seq1 (stS st) (zM7 st vo) (m+1+1) ((zA5 st.Active c pe).take 0):=⟨h2,rfl,rfl,by
  show (d1.Disk.Areas.set 2 _).getD 2 []=_;rw [vK (by rw [h1.n];decide)];simp [nF,stS]⟩
 have hl40:(zA5 st.Active c pe).length<=40:=by unfold zA5;split;exact h40;simp
 have hE':∀ e∈zA5 st.Active c pe,EvC e (stS st).Active:=by
  intro e he;unfold zA5 at he;split at he
  ·exact hE e he
  ·rw [List.mem_singleton.1 he];exact zKm h.sst.a0 h.sst.a3
 have hK':∀ e∈zA5 st.Active c pe,e.Kind≠5:=by
  intro e he;unfold zA5 at he;split at he
  ·exact hK e he
  ·rw [List.mem_singleton.1 he];exact show (4:Int)≠5 by decide
 obtain ⟨d3,vo3,e3,h3,s3⟩:=zN6 (seq:=seq1) (st:=stS st) (zA5 st.Active c pe) hl40 hE' hK' (zA5 st.Active c pe).length 0 FU _ _ (m+1+1) (by omega) (wN (by omega)) hz (by omega);refine ⟨d3,seq1,vo3,m+1+1+(zA5 st.Active c pe).length,?_,h3,hq1,by omega,λa ha=>(s3 a ha).trans (hge a ha)⟩;have hst:d1.State=⟨stS st,zM7 st vo⟩:=h1.s;have hA:d1.State.Stable.Active=st.Active:=by rw [hst];rfl
 have hRs:d1.State.Stable.Resets=st.Resets+1:=by rw [hst];rfl
 unfold mI;refine cf (by rw [h.on];rfl) ?_;refine bd (a:=yC.mk d []) rfl ?_;refine bd (a:=(default,if c=0 then 0 else 50,yC.mk d3 [])) ?_ ?_
 ·refine bd e1 (cf rfl ?_);show (wY d1.State.Stable.Active d1.State.Stable.Resets).bind _=_;rw [hA,hRs];refine bd (zTz st.Active (st.Resets+1) h.sst.a0 h.sst.a3 (by omega) (by omega)) ?_;refine bd hw (cf rfl ?_);refine bd hco (bd hcc ?_);refine bd hpe ?_;refine bd (a:=zA5 st.Active c pe) ?_ (bd e3 ?_)
  ·unfold zA5;by_cases hc:c=0
   ·rw [if_pos hc];exact cf (b0 hc) rfl
   ·rw [if_neg hc];exact ct (b1 hc) (bd (zDc 0 4 st.Active [99,104,97,105,110] (by decide)) rfl)
  ·show ((bif c != 0 then some 50 else some 0:Option Int).bind λe=>some ((default:zD),e,yC.mk d3 []))=_;by_cases hc:c=0
   ·rw [if_pos hc];exact bd (a:=0) (cf (b0 hc) rfl) rfl
   ·rw [if_neg hc];exact bd (a:=50) (ct (b1 hc) rfl) rfl
 ·refine bd (a:=(d3,if c=0 then 0 else 50,yC.mk d3 [])) ?_ rfl;unfold jM;refine cf ?_ rfl;split<;>rfl
end
set_option maxRecDepth 100000
def zBj:List api_Image:=[api_Image.mk 1 [102] 0 [],api_Image.mk 3 [107] 0 []]
theorem zOe:eH=some zBj:=rfl
theorem zF6:kF zBj:=by
 have g1:qF (api_Image.mk 1 [102] 0 []):=⟨by decide,by decide,by decide,by decide,by rw [fF];decide +kernel,by decide,by decide,λh=>absurd h (by decide)⟩;have g3:qF (api_Image.mk 3 [107] 0 []):=⟨by decide,by decide,by decide,by decide,by rw [fF];decide +kernel,by decide,by decide,λh=>absurd h (by decide)⟩;refine ⟨by decide,?_,?_,⟨_,.head _,rfl⟩,⟨_,.tail _ (.head _),rfl⟩⟩
 ·intro x hx;rcases List.mem_cons.1 hx with rfl | hx
  ·exact g1
  ·rw [List.mem_singleton.1 hx];exact g3
 ·refine .cons ?_ (.cons (by simp) .nil);intro y hy;rw [List.mem_singleton.1 hy];exact ⟨by decide,by decide⟩
theorem zSh:zB8 zBj:=zF6.ok
section
variable {es:List zB}
theorem Mz.log (h:Mz d seq st vo m es) (hE:∀ e∈es,EvC e st.Active) (h40:es.length<=40):eM d=some (⟨st.Active,st.Resets,es⟩,0):=by
 have hr0:=h.sst.r0;have hr1:=h.sst.r1;unfold eM;refine bd (h.toDv.read (a:=2) (by decide)) (cf rfl ?_);rw [h.lg];exact bd (zLm ⟨st.Active,st.Resets,es⟩ ⟨⟨hE,h40⟩,h.sst.a0,h.sst.a3,hr0,by show st.Resets<=1099511627776;omega⟩) rfl
theorem Dv.run_good (h:Dv d seq st vo m) (hs:vo.Started=false) (hp:vo.Stopped=false) (hR:st.Resets+1<2 ^ 30) (hq:seq+1<2 ^ 29) (hm:m+60<2 ^ 50) {l:List api_Image} (hc:kF l) (hA:d.Disk.Areas.getD (3+lT d) []=uY l) :
  ∃ d' seq' vo' m',mI d=some (d',0)/\Mz d' seq' (stS st) vo' m' (evs l st.Active)/\seq'<=seq+1/\m'<=m+43/\∀ a,3<=a->d'.Disk.Areas.getD a []=d.Disk.Areas.getD a []:=by
 have hl:=kC hc.ok;have h1:=h.sst.a0;have h3:=h.sst.a3;obtain ⟨d',seq',vo',m',e,hz,r⟩:=h.run hs hp hR hq hm (ch:=l) (c:=0) (pe:=evs l st.Active) (by rw [hA,rZ];omega) (by rw [hA];exact jS hc.ok) (zJa l st.Active hc h1 h3) (zNm l st.Active hc).2 (zMw h1 h3 hc) zNz;exact ⟨d',seq',vo',m',e,hz,r⟩
theorem Dv.run_none (h:Dv d seq st vo m) (hs:vo.Started=false) (hp:vo.Stopped=false) (hR:st.Resets+1<2 ^ 30) (hq:seq+1<2 ^ 29) (hm:m+60<2 ^ 50) (hA:d.Disk.Areas.getD (3+lT d) []=[]) :
  ∃ d' seq' vo' m',mI d=some (d',50)/\Mz d' seq' (stS st) vo' m' [zPz st.Active]:=by
 obtain ⟨d',seq',vo',m',e,hz,_⟩:=h.run hs hp hR hq hm (ch:=[]) (c:=30) (pe:=[]) (by rw [hA];decide) (by rw [hA];exact zC4) (zHp _) (by decide) (by simp) (by simp);exact ⟨d',seq',vo',m',e,hz⟩
theorem ev10:(evs zBj 2).length=10:=by decide +kernel
theorem zMd:jP=some true:=by
 obtain ⟨⟨x,ok⟩,em,hok,st,hv,ha,hr0,h3,h4,h5⟩:=zH4 [] 2 (by decide) (by decide) zSh;simp only at hok hv h3 h4 h5;subst hok;have hsl:lT x=0:=by unfold lT;rw [h5];rfl
 obtain ⟨d1,seq1,vo1,m1,e1,hz1,_⟩:=hv.run_good rfl rfl (by rw [hr0];decide) (by decide) (by decide) zF6 (by rw [hsl];exact h3);have hact1:(stS st).Active=2:=ha;have hlog1:=hz1.log (by rw [ha];exact λe he=>by rw [hact1];exact zMw (by decide) (by decide) zF6 e he) (by rw [ha];exact (zNm zBj 2 zF6).2);rw [ha] at hlog1;obtain ⟨⟨y,c⟩,ef,hc0,⟨d0,hd⟩,st2,hp2,hv2,ha2,hr2,hz2⟩:=zFf (List.replicate 32 0) 2 (by simp) (by decide) (by decide);simp only at hc0 hd hp2 hv2 hz2;subst hc0;subst hd;have hv2':=hv2 0 (by decide);have hA2:∀ a,2<=a->(onD (zDn d0) 1 st2).Disk.Areas.getD a []=[]:=λa ha=>hz2 a (by omega);obtain ⟨d2,seq2,vo2,m2,e2,hzb⟩:=hv2'.run_none rfl rfl (by rw [hr2];decide) (by decide) (by decide) (hA2 _ (by omega));have hact2:(stS st2).Active=2:=ha2;have hlog2:=hzb.log (λe he=>by rw [List.mem_singleton.1 he,hact2,ha2];exact zKm (by decide) (by decide)) (by simp);unfold jP;refine bd zOe (bd em (cf rfl ?_));refine bd e1 (bd hlog1 ?_);refine bd (a:=32) rfl ?_;refine bd ef ?_;refine bd (a:=(onD (zDn d0) 1 st2,0)) hp2 ?_;refine bd e2 (bd hlog2 ?_);refine bd (a:=true) ?_ rfl;refine ct rfl (ct rfl (ct ?_ (ct rfl (ct rfl (ct rfl (ct rfl (ct rfl ?_)))))))
 ·show (((evs zBj 2).length:Int)==10)=true;rw [ev10];rfl
 ·exact bd (a:=zPz st2.Active) rfl rfl
end
set_option maxRecDepth 100000
theorem zLx {α:Type} (a:List α) (f:α->α->Option Bool) (step:Int->Option (Int ⊕ (Bool ⊕ Unit))) (ha:a.length<2 ^ 40)
  (hs:∀ (i:Nat) (h:i<a.length),step (i:Int)=(f a[i] a[i]).bind λv=>bif !v then (some (.inr (.inl false))) else some (.inl (IntKind.i64.wrap ((i:Int)+1)))) (he:step (a.length:Int)=some (.inr (.inr ())))
  (hf:∀ x∈a,f x x=some true):zR step FU 0=some (.inr ()):=by
 refine yM a.length (λi=>(i:Int)) rfl (λi hi=>?_) he (wN (by omega));rw [hs i hi];refine bd (hf _ (List.getElem_mem _)) (cf rfl ?_);rw [yW (by omega) (by omega)];rfl
theorem zI0 {b:List api_Image} (hl:a.length=b.length) (i:Nat) (h:i<a.length):vF a b (i:Int)=(uT a[i] (b[i]'(hl▸h))).bind λv=>bif !v then (some (.inr (.inl false))) else some (.inl (IntKind.i64.wrap ((i:Int)+1))):=by
 unfold vF;exact ct (decide_eq_true (by omega)) (bd (yS h) (bd (yS (hl▸h)) rfl))
theorem zK4 (a b:List api_Image):vF a b (a.length:Int)=some (.inr (.inr ())):=by
 unfold vF;exact cf (decide_eq_false (by omega)) rfl
theorem zLt (x y:api_Image) (h:x.Payload.length<2 ^ 40):uT x y=some (x.Role==y.Role&&(x.Name==y.Name&&(x.Version==y.Version&&x.Payload==y.Payload))):=by
 have hs:=zGw x.Payload y.Payload h;unfold uT;rw [hs];generalize (x.Role==y.Role)=a;generalize (x.Name==y.Name)=b;generalize (x.Version==y.Version)=c;cases a<;>cases b<;>cases c<;>rfl
theorem dH (h:zB8 a):sO a a=some true:=by
 have h8:=h.h8;unfold sO;refine cf (by simp) ?_;refine bd (zLx a uT (vF a a) (by omega) (λi hi=>zI0 rfl i hi) (zK4 a a) (λx hx=>?_)) rfl;rw [zLt x x (by have:=(h.im x hx).f;omega)];simp
set_option maxRecDepth 100000
section
end
set_option maxRecDepth 100000
theorem zK2 (d:zD) {s:Int} (h:s≠0) (h1:s≠1):vD d s=some ([],1):=by
 unfold vD;exact bd (zF4 h h1) (ct rfl rfl)
theorem zBh (raw:List api_Image) (codes other:By) (slot:Int) (any:Bool):oD raw codes other slot any=some true:=by
 obtain ⟨l,el,hl⟩:=zE3 codes;obtain ⟨k,ek,hk⟩:=zE3 other;have hlo:=hl.ok;have hko:=hk.ok;obtain ⟨⟨x,ok⟩,em,hok,st,hv,ha,hr0,h3,h4,h5⟩:=zH4 [] 2 (by decide) (by decide) hlo;simp only at hok hv h3 h4 h5;subst hok;have hlk:=kC hko;have hll:=kC hlo;have hraw:(bif decide (10<(raw.length:Int)) then ((sub raw 0 10).bind λv=>some v) else some raw:Option (List api_Image))=some (raw.take 10):=by
  by_cases h:10<raw.length
  ·refine ct (decide_eq_true (by omega)) ?_;exact bd (tZ (l:=raw) (a:=0) (b:=10) (by decide) (by omega)) rfl
  ·refine cf (decide_eq_false (by omega)) ?_;rw [List.take_of_length_le (by omega)]
 have hslot:∃ s,(bif !any then ((eV slot 2).bind λv=>some v) else some slot:Option Int)=some s:=by
  cases any with
  | true=>exact ⟨slot,rfl⟩
  | false=>
   obtain ⟨r,e,_⟩:=zPh slot 2 (by decide) (by decide);exact ⟨r,bd e rfl⟩
 obtain ⟨s,hs⟩:=hslot;have hrl:(raw.take 10).length<2 ^ 40:=by rw [List.length_take];omega
 generalize raw.take 10=raw' at hraw hrl;obtain ⟨c,hc,hcp,hc0,_⟩:=zEz raw' hrl;unfold oD;refine bd zMd (cf rfl ?_);refine bd hraw (bd el (bd ek (bd em (cf rfl ?_))));refine bd hs ?_;by_cases hb:s≠0/\s≠1
 ·refine bd (zK2 x hb.1 hb.2) (bd (zBq x hb.1 hb.2 k) (bd (zBq x hb.1 hb.2 raw') ?_));exact bd (zF4 hb.1 hb.2) (ct rfl rfl)
 obtain ⟨n,rfl,hn⟩:∃ n:Nat,s=(n:Int)/\n<2:=⟨s.toNat,by omega,by omega⟩;have hx8:=hv.n;obtain ⟨ch0,e0,hch0,he0⟩:∃ ch e,vD x (n:Int)=some (ch,e)/\((e==0)==((n:Int)==0))=true:=by
  rcases (show n=0∨n=1 by omega) with rfl | rfl
  ·exact ⟨l,0,by rw [eF x (by decide) hv.off (by omega) (by rw [h3,rZ];omega),h3,jS hlo],rfl⟩
  ·exact ⟨[],30,by rw [eF x (by decide) hv.off (by omega) (by rw [h4];decide),h4,zC4],rfl⟩
 obtain ⟨z,hz⟩:∃ z,wK x (n:Int) raw'=some (z,c):=by
  by_cases h0:c=0
  ·subst h0;exact ⟨_,hv.install hn (chOk hrl hc)⟩
  ·exact ⟨_,zHd x hn hcp h0⟩
 have hy:=hv.set (a:=3+n) (y:=uY k) (by omega) (by omega) (by rw [rZ];omega) (by decide);have hyA:(dE x (3+n) (uY k)).Disk.Areas.getD (3+n) []=uY k:=vK (by omega);have hy8:=hy.n;have hyc:vD (dE x (3+n) (uY k)) (n:Int)=some (k,0):=by
  rw [eF _ hn hy.off (by omega) (by rw [hyA,rZ];omega),hyA,jS hko]
 have hyr:uI (dE x (3+n) (uY k)).Disk (IntKind.i64.wrap (3+(n:Int)))=some (uY k,0):=by
  rw [zOr hn,hy.read (by omega),hyA]
 have hm0:=hv.m0;have hw0:=hv.ok.w0;refine bd hch0 (bd (hv.install hn hko) (bd hz ?_));refine bd (zCv hn) (cf rfl ?_);refine bd (a:=false) (bd hc (cf (by simp) (cf rfl (congrArg some (by rw [he0];rfl))))) (cf rfl ?_);refine bd hyc (bd hyr (bd (zQt hko) ?_));refine bd (a:=false) ?_ (cf rfl ?_)
 ·refine cf rfl (cf rfl (bd (dH hko) (cf rfl ?_)));refine bd (zAl 20 [fZ k] (by simp [tot];omega)) ?_;refine bd (yJ (by rw [dC];omega)) ?_;refine bd (zGw _ _ (by rw [rZ];omega)) ?_;refine cf (by show (!(uY k==uY k))=false;simp) (congrArg some ?_);show (x.Disk.Writes+1 != IntKind.i64.wrap (x.Disk.Writes+1))=false;rw [yW (by omega) (by omega)];simp
 rcases (show n=0∨n=1 by omega) with rfl | rfl
 ·refine bd hyc ?_;exact bd (a:=true) (ct rfl rfl) rfl
 ·have hy0:(dE x (3+1) (uY k)).Disk.Areas.getD 3 []=uY l:=(getD_set_ne (by decide)).trans h3;have hyc0:vD (dE x (3+1) (uY k)) ((0:Nat):Int)=some (l,0):=by
   rw [eF _ (by decide) hy.off (by omega) (by rw [hy0,rZ];omega),hy0,jS hlo]
  refine bd hyc0 ?_;exact bd (a:=true) (cf rfl (ct rfl (bd (dH hlo) rfl))) rfl
end Go.Proofs.TT
