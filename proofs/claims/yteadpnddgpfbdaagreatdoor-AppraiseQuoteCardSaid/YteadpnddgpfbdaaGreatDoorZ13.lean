/- AppraiseQuote (law 37: the program and the reference say the same of a quote, or give the same error) is proved for every input, under no condition of ours; this text is a part of that proof. -/
import Derived.Test.YteadpnddgpfbdaaGreatDoorZ12
set_option linter.all false
namespace Go.Proofs.TT
open Go Go.Sw
set_option maxRecDepth 100000
structure Rem (r:RS) (l:List UInt8):Prop where
 e:r.e=0
 at':r.at'<=r.b.length
 d:r.b.drop r.at'=l
theorem Rem.left {r:RS} {l:List UInt8} (h:Rem r l):r.left=l.length:=by
 have:=congrArg List.length h.d
 simp at this
 exact this
theorem Rem.to {r:RS} {x rest:List UInt8} {n:Nat} (h:Rem r (x++rest)) (hx:x.length=n):Rem (r.to n) rest:=by
 have hl:=h.left
 have ha:=h.at'
 simp only [RS.left,List.length_append] at hl
 refine ⟨h.e,by simp only [RS.to];omega,?_⟩
 show r.b.drop (r.at'+n)=rest
 rw [<- List.drop_drop,h.d,<- hx,List.drop_left]
theorem Rem.raw {r:RS} {x rest:List UInt8} {n:Nat} (h:Rem r (x++rest)) (hx:x.length=n):rdRaw r n=(x,r.to n):=by
 have hl:=h.left
 rw [List.length_append] at hl
 unfold rdRaw
 rw [if_neg (by simp [h.e]),if_neg (by omega)]
 have:r.get n=x:=by
  unfold RS.get
  rw [h.d,<- hx,List.take_left]
 rw [this]
theorem Rem.uint {r:RS} {x rest:List UInt8} {n:Nat} (h:Rem r (x++rest)) (hx:x.length=n) (hv:¬ 9223372036854775808<=beV x n):rdUint r n=(IntKind.i64.wrap (beV x n),r.to n):=by
 have hl:=h.left
 rw [List.length_append] at hl
 unfold rdUint
 have:r.get n=x:=by
  unfold RS.get
  rw [h.d,<- hx,List.take_left]
 rw [if_neg (by simp [h.e]),if_neg (by omega),this,if_neg hv]
theorem Rem.blob {r:RS} {a b:UInt8} {x rest:List UInt8} {m:Nat} (h:Rem r ([a,b]++(x++rest))) (hx:x.length=a.toNat*256+b.toNat) (hm:x.length<=m):rdBlob r m=(x,r.to (2+x.length))/\Rem (r.to (2+x.length)) rest:=by
 have hl:=h.left
 have ha:=h.at'
 simp only [List.length_append,List.length_cons,List.length_nil] at hl
 have hd:=h.d
 have e0:r.b.getD r.at' 0=a:=by
  have:=congrArg (λl=>l.getD 0 0) hd
  simpa using this
 have e1:r.b.getD (r.at'+1) 0=b:=by
  have:=congrArg (λl=>l.getD 1 0) hd
  simpa using this
 have ev:v2 r=x.length:=by unfold v2;rw [e0,e1,hx]
 have h2:Rem (r.to 2) (x++rest):=Rem.to (x:=[a,b]) h rfl
 have hd2:r.b.drop (r.at'+2)=x++rest:=h2.d
 constructor
 ·unfold rdBlob
  rw [if_neg (by simp [h.e]),if_neg (by omega),ev,if_neg (by omega),if_neg (by omega),hd2,List.take_left]
 ·have:=Rem.to h2 rfl
  have e:(r.to 2).to x.length=r.to (2+x.length):=by simp [RS.to,Nat.add_assoc]
  rw [<- e]
  exact this
theorem Rem.uintV {r:RS} {x rest:List UInt8} {n:Nat} {v:Int} (h:Rem r (x++rest)) (hx:x.length=n) (hv:beV x n=v) (h0:0<=v) (h1:v<9223372036854775808):rdUint r n=(v,r.to n):=by
 rw [h.uint hx (by omega),hv,wrapI (by omega) (by omega)]
theorem Rem.cast {r r':RS} {l:List UInt8} (h:Rem r l) (e:r'=r):Rem r' l:=e▸h
def qb (K:List UInt8):List UInt8:=[83,87,81,49]++([0,32]++(K++([0,32]++(N1++([0,0,0,0,0,0,0,1]++([0,0,0,0,0,0,0,0]++([0,0,0,0,0,0,0,17]++([0]++([0,0,0,0,0,0,0,10]++([0,0]++([15,255]++(DG++[]))))))))))))
def qa (K:List UInt8):api_Attest:=⟨K,N1,1,0,17,false,10,⟨0,4095⟩,DG⟩
theorem qdec (K:List UInt8) (h:K.length=32):att (qb K)=(qa K,0):=by
 have r0:Rem (d0 (qb K)) ([83,87,81,49]++([0,32]++(K++([0,32]++(N1++([0,0,0,0,0,0,0,1]++([0,0,0,0,0,0,0,0]++([0,0,0,0,0,0,0,17]++([0]++([0,0,0,0,0,0,0,10]++([0,0]++([15,255]++(DG++[]))))))))))))):=⟨rfl,Nat.zero_le _,rfl⟩
 have e1:d1 (qb K)=([83,87,81,49],(d0 (qb K)).to 4):=Rem.raw (x:=[83,87,81,49]) (n:=4) r0 rfl
 have r1:Rem (d1 (qb K)).2 ([0,32]++(K++([0,32]++(N1++([0,0,0,0,0,0,0,1]++([0,0,0,0,0,0,0,0]++([0,0,0,0,0,0,0,17]++([0]++([0,0,0,0,0,0,0,10]++([0,0]++([15,255]++(DG++[])))))))))))):=(Rem.to (x:=[83,87,81,49]) (n:=4) r0 rfl).cast (by rw [e1])
 obtain ⟨e2,r2⟩:=Rem.blob (a:=0) (b:=32) (x:=K) (m:=32) r1 h (by omega)
 have e2':d2 (qb K)=(K,(d1 (qb K)).2.to (2+K.length)):=e2
 have r2':Rem (d2 (qb K)).2 ([0,32]++(N1++([0,0,0,0,0,0,0,1]++([0,0,0,0,0,0,0,0]++([0,0,0,0,0,0,0,17]++([0]++([0,0,0,0,0,0,0,10]++([0,0]++([15,255]++(DG++[])))))))))):=r2.cast (by rw [e2'])
 obtain ⟨e3,r3⟩:=Rem.blob (a:=0) (b:=32) (x:=N1) (m:=128) r2' (by decide) (by decide)
 have e3':d3 (qb K)=(N1,(d2 (qb K)).2.to (2+N1.length)):=e3
 have r3':Rem (d3 (qb K)).2 ([0,0,0,0,0,0,0,1]++([0,0,0,0,0,0,0,0]++([0,0,0,0,0,0,0,17]++([0]++([0,0,0,0,0,0,0,10]++([0,0]++([15,255]++(DG++[])))))))):=r3.cast (by rw [e3'])
 have e4:d4 (qb K)=(1,(d3 (qb K)).2.to 8):=Rem.uintV (x:=[0,0,0,0,0,0,0,1]) (n:=8) r3' rfl (by decide +kernel) (by decide) (by decide)
 have r4:Rem (d4 (qb K)).2 ([0,0,0,0,0,0,0,0]++([0,0,0,0,0,0,0,17]++([0]++([0,0,0,0,0,0,0,10]++([0,0]++([15,255]++(DG++[]))))))):=(Rem.to (x:=[0,0,0,0,0,0,0,1]) (n:=8) r3' rfl).cast (by rw [e4])
 have e5:d5 (qb K)=(0,(d4 (qb K)).2.to 8):=Rem.uintV (x:=[0,0,0,0,0,0,0,0]) (n:=8) r4 rfl (by decide +kernel) (by decide) (by decide)
 have r5:Rem (d5 (qb K)).2 ([0,0,0,0,0,0,0,17]++([0]++([0,0,0,0,0,0,0,10]++([0,0]++([15,255]++(DG++[])))))):=(Rem.to (x:=[0,0,0,0,0,0,0,0]) (n:=8) r4 rfl).cast (by rw [e5])
 have e6:d6 (qb K)=(17,(d5 (qb K)).2.to 8):=Rem.uintV (x:=[0,0,0,0,0,0,0,17]) (n:=8) r5 rfl (by decide +kernel) (by decide) (by decide)
 have r6:Rem (d6 (qb K)).2 ([0]++([0,0,0,0,0,0,0,10]++([0,0]++([15,255]++(DG++[]))))):=(Rem.to (x:=[0,0,0,0,0,0,0,17]) (n:=8) r5 rfl).cast (by rw [e6])
 have e7:d7 (qb K)=(0,(d6 (qb K)).2.to 1):=Rem.uintV (x:=[0]) (n:=1) r6 rfl (by decide +kernel) (by decide) (by decide)
 have r7:Rem (d7 (qb K)).2 ([0,0,0,0,0,0,0,10]++([0,0]++([15,255]++(DG++[])))):=(Rem.to (x:=[0]) (n:=1) r6 rfl).cast (by rw [e7])
 have e8:d8 (qb K)=(10,(d7 (qb K)).2.to 8):=Rem.uintV (x:=[0,0,0,0,0,0,0,10]) (n:=8) r7 rfl (by decide +kernel) (by decide) (by decide)
 have r8:Rem (d8 (qb K)).2 ([0,0]++([15,255]++(DG++[]))):=(Rem.to (x:=[0,0,0,0,0,0,0,10]) (n:=8) r7 rfl).cast (by rw [e8])
 have e9:d9 (qb K)=(0,(d8 (qb K)).2.to 2):=Rem.uintV (x:=[0,0]) (n:=2) r8 rfl (by decide +kernel) (by decide) (by decide)
 have r9:Rem (d9 (qb K)).2 ([15,255]++(DG++[])):=(Rem.to (x:=[0,0]) (n:=2) r8 rfl).cast (by rw [e9])
 have e10:d10 (qb K)=(4095,(d9 (qb K)).2.to 2):=Rem.uintV (x:=[15,255]) (n:=2) r9 rfl (by decide +kernel) (by decide) (by decide)
 have r10:Rem (d10 (qb K)).2 (DG++[]):=(Rem.to (x:=[15,255]) (n:=2) r9 rfl).cast (by rw [e10])
 have e11:d11 (qb K)=(DG,(d10 (qb K)).2.to 32):=Rem.raw (x:=DG) (n:=32) r10 rfl
 have r11:Rem (d11 (qb K)).2 []:=(Rem.to (x:=DG) (n:=32) r10 rfl).cast (by rw [e11])
 have hend:rdEnd (d11 (qb K)).2=0:=by
  have:=r11.left
  unfold rdEnd
  rw [if_neg (by rw [this];simp)]
  exact r11.e
 have f1:(d1 (qb K)).2.e=0:=r1.e
 have g1:(d1 (qb K)).1=[83,87,81,49]:=by rw [e1]
 have g2:(d2 (qb K)).1=K:=by rw [e2']
 have g3:(d3 (qb K)).1=N1:=by rw [e3']
 have g4:(d4 (qb K)).1=1:=by rw [e4]
 have g5:(d5 (qb K)).1=0:=by rw [e5]
 have g6:(d6 (qb K)).1=17:=by rw [e6]
 have g7:(d7 (qb K)).1=0:=by rw [e7]
 have g8:(d8 (qb K)).1=10:=by rw [e8]
 have g9:(d9 (qb K)).1=0:=by rw [e9]
 have g10:(d10 (qb K)).1=4095:=by rw [e10]
 have g11:(d11 (qb K)).1=DG:=by rw [e11]
 unfold att
 rw [f1,g1,hend,g2,g3,g4,g5,g6,g7,g8,g9,g10,g11,if_neg (by simp),if_neg (by simp),if_neg (by simp),if_neg (by omega)]
 rfl
theorem qenc (K:List UInt8) (h:K.length=32):ref16_Encode (qa K)=some (qb K):=by
 have bK:∀ b x:List UInt8,x.length=32->blobB b x=b++[0,32]++x:=by
  intro b x hx
  unfold blobB uintB
  rw [List.take_of_length_le (by omega),hx]
  have:beN ((32:Nat):Int) 2 2=[0,32]:=by decide +kernel
  rw [this]
 have hN:N1.length=32:=rfl
 have hD:DG.length=32:=rfl
 unfold ref16_Encode qa
 refine bd (a:=[83,87,81,49]) rfl ?_
 refine bd (a:=[83,87,81,49]++[0,32]++K) ((ref_Blob _ _ (by simp)).trans (by rw [bK _ _ h])) ?_
 generalize hb1:[83,87,81,49]++[0,32]++K=b1
 have l1:b1.length=38:=by rw [<- hb1];simp [h]
 refine bd (a:=b1++[0,32]++N1) ((ref_Blob _ _ (by omega)).trans (by rw [bK _ _ hN])) ?_
 generalize hb2:b1++[0,32]++N1=b2
 have l2:b2.length=72:=by rw [<- hb2];simp [l1,hN]
 refine bd (ref_Uint b2 8 1 (by omega) (by omega) (by omega)) ?_
 refine bd (ref_Uint _ 8 0 (by omega) (by omega) (by rw [uintB_len];omega)) ?_
 refine bd (ref_Uint _ 8 17 (by omega) (by omega) (by rw [uintB_len,uintB_len];omega)) ?_
 refine bd (a:=0) rfl ?_
 refine bd (appL_eq (by rw [uintB_len,uintB_len,uintB_len];simp;omega)) ?_
 refine bd (ref_Uint _ 8 10 (by omega) (by omega) (by rw [List.length_append,uintB_len,uintB_len,uintB_len];simp;omega)) ?_
 refine bd (ref_Uint _ 2 0 (by omega) (by omega) (by rw [uintB_len,List.length_append,uintB_len,uintB_len,uintB_len];simp;omega)) ?_
 refine bd (ref_Uint _ 2 4095 (by omega) (by omega) (by rw [uintB_len,uintB_len,List.length_append,uintB_len,uintB_len,uintB_len];simp;omega)) ?_
 refine bd (appL_eq (by rw [uintB_len,uintB_len,uintB_len,List.length_append,uintB_len,uintB_len,uintB_len];simp;omega)) ?_
 have u1:beN 1 8 8=[0,0,0,0,0,0,0,1]:=by decide +kernel
 have u0:beN 0 8 8=[0,0,0,0,0,0,0,0]:=by decide +kernel
 have u17:beN 17 8 8=[0,0,0,0,0,0,0,17]:=by decide +kernel
 have u10:beN 10 8 8=[0,0,0,0,0,0,0,10]:=by decide +kernel
 have w0:beN 0 2 2=[0,0]:=by decide +kernel
 have w1:beN 4095 2 2=[15,255]:=by decide +kernel
 have z0:u8 0=0:=rfl
 unfold uintB
 rw [u1,u0,u17,u10,w0,w1,z0,<- hb2,<- hb1]
 unfold qb
 simp only [List.append_assoc,List.append_nil]
end Go.Proofs.TT
namespace Go.Proofs.TT
open Go Go.Sw
set_option maxRecDepth 100000
def kq (i:Int):api_Public:=⟨2,7,1,[],pub1 (sha [113,u8 i])⟩
theorem secret_eq (i:Int):draw_QuoteSecret i=some (sha [113,u8 i]):=by
 unfold draw_QuoteSecret
 exact bd (ref_sha _ (by simp)) rfl
theorem quoting_eq (i:Int):draw_Quoting i=some (kq i):=by
 unfold draw_Quoting
 refine bd (secret_eq i) ?_
 exact bd (ref_Public1 _ (by rw [sha_len];decide)) rfl
def enr:api_Enrolled:=⟨2,2,[kq 4,kq 5],⟨[],sha [112,u8 2],[]⟩,⟨1,3,0,[],List.replicate 32 0⟩⟩
theorem enrolled_eq:draw_Enrolled 2 2=some enr:=by
 unfold draw_Enrolled
 refine bd (quoting_eq 4) ?_
 refine bd (quoting_eq 5) ?_
 refine bd (ref_sha _ (by simp)) ?_
 refine bd (a:=32) rfl ?_
 refine bd (ckT rfl) ?_
 refine bd (ckT rfl) ?_
 rfl
def KN:List UInt8:=nm (kq 4)
theorem KN_len:KN.length=32:=hs_len _ _
def evd:api_Evidence:=⟨2,qb KN,sig1 (sha [113,u8 4]) 0 (qb KN),LOGB⟩
theorem wQ:draw_Quote ⟨2,1,EVS⟩ 2 4 [110]=some (qa KN):=by
 unfold draw_Quote
 refine bd aw_fmt ?_
 refine bd sel2 ?_
 refine bd aw_rd ?_
 refine bd (a:=DG) (cf rfl rfl) ?_
 refine bd (quoting_eq 4) ?_
 refine bd (ref_Name_eq (kq 4)) ?_
 refine bd ((ref_Nonce [110] 2 LOGB (by decide) (by decide)).trans (congrArg some aw_n1)) ?_
 rfl
theorem qb_len (K:List UInt8) (h:K.length=32):(qb K).length=141:=by
 unfold qb
 simp only [List.length_append,h,List.length_cons,List.length_nil]
 rfl
theorem wE:draw_Evidence ⟨2,1,EVS⟩ 2 4 0 (qa KN)=some evd:=by
 unfold draw_Evidence
 refine bd aw_fmt ?_
 refine bd (qenc KN KN_len) ?_
 refine bd (secret_eq 4) ?_
 have hq:=qb_len KN KN_len
 refine bd (a:=sig1 (sha [113,u8 4]) 0 (qb KN)) ?_ rfl
 rw [show iand .i64 0 1=((0:Nat):Int) from rfl]
 exact ref_Sign1 _ 0 _ (by rw [sha_len];decide) (by omega) (by omega)
theorem wG:draw_Good ⟨2,1,EVS⟩ 2 [110]=some evd:=by
 unfold draw_Good
 rw [show IntKind.i64.wrap (2*2)=4 from rfl]
 refine bd wQ ?_
 exact bd wE rfl
theorem kq_chk (i:Int):chk (kq i)=0:=by
 have h:=pub1_len (sha [113,u8 i])
 have e:=area_Check_eq (kq i)
 have:area_Check (kq i)=some 0:=by
  unfold area_Check kq
  simp only [h]
  rfl
 rw [this] at e
 injection e with e
 exact e.symm
theorem wV:vq (kq 4) (qb KN) (sig1 (sha [113,u8 4]) 0 (qb KN))=(qa KN,0,0):=by
 have hv:vrf (kq 4).Unique (qb KN) (sig1 (sha [113,u8 4]) 0 (qb KN))=(0,true):=vrf_sign (sha [113,u8 4]) 0 (qb KN) (by rw [sha_len];decide) (by omega)
 have ha:=qdec KN KN_len
 have hk:(qa KN).Key=nm (kq 4):=rfl
 unfold vq
 rw [hv,ha,kq_chk 4,if_neg (by simp),if_neg (by show ¬ ((2:Int)≠2);simp),if_neg (by show ¬ iand .i64 7 4=0;decide),if_neg (by simp),if_neg (by simp),if_neg (by simp [hk])]
theorem wqf (r:List api_Public):qf evd.Attest evd.Signature (kq 4 :: r) 17=(some (qa KN),0):=by
 show qf (qb KN) (sig1 (sha [113,u8 4]) 0 (qb KN)) (kq 4 :: r) 17=_
 unfold qf
 rw [wV]
 rfl
theorem evok (n:List UInt8) (hn:n.length<2 ^ 30):EvOk evd [kq 4,kq 5] n:=by
 refine ⟨?_,?_,by decide,hn,by decide,λp hp=>?_⟩
 ·show (qb KN).length<_
  rw [qb_len KN KN_len];decide
 ·show (sig1 (sha [113,u8 4]) 0 (qb KN)).length<_
  rw [sig1_len _ _ _ (by rw [sha_len];decide)];decide
 ·simp only [List.mem_cons,List.not_mem_nil,or_false] at hp
  rcases hp with rfl | rfl
  ·show (pub1 _).length<_
   rw [pub1_len];decide
  ·show (pub1 _).length<_
   rw [pub1_len];decide
theorem qt_yes (x:api_Evidence) (keys:List api_Public) (n:List UInt8) (a:api_Attest) (h:qf x.Attest x.Signature keys 17=(some a,0)) (hn:a.Nonce=nnc n x.Machine x.Log):qt x keys n=(a,0):=by
 unfold qt
 rw [h]
 exact if_pos hn
theorem qt_no (x:api_Evidence) (keys:List api_Public) (n:List UInt8) (a:api_Attest) (h:qf x.Attest x.Signature keys 17=(some a,0)) (hn:¬ a.Nonce=nnc n x.Machine x.Log):qt x keys n=(noAtt,45):=by
 unfold qt
 rw [h]
 exact if_neg hn
theorem n12:¬ N1=N2:=by decide
theorem nn1:(qa KN).Nonce=nnc [110] evd.Machine evd.Log:=aw_n1.symm
theorem nn2:¬ (qa KN).Nonce=nnc [109] evd.Machine evd.Log:=λe=>n12 ((show N1=nnc [109] 2 LOGB from e).trans aw_n2)
theorem wq1:qt evd [kq 4,kq 5] [110]=(qa KN,0):=qt_yes _ _ _ _ (wqf [kq 5]) nn1
theorem wq2:qt evd [kq 4,kq 5] [109]=(noAtt,45):=qt_no _ _ _ _ (wqf [kq 5]) nn2
theorem aw_sel:evidence_Selection 2=some ⟨0,4095⟩:=by decide +kernel
def enr':api_Enrolled:=⟨2,2,[kq 4,kq 5],⟨[],sha [112,u8 2],[]⟩,⟨1,3,0,[],List.replicate 32 0⟩⟩
theorem wX:appraise_explained evd enr' (qa KN)=some (⟨2,1,EVS⟩,0):=by
 unfold appraise_explained
 refine bd (show evidence_Selection enr'.Active=some ⟨0,4095⟩ from aw_sel) ?_
 refine cf rfl ?_
 refine bd aw_parse ?_
 refine cf rfl ?_
 refine bd (a:=false) rfl ?_
 refine cf rfl ?_
 refine bd (a:=false) rfl ?_
 refine cf rfl ?_
 refine bd aw_pd ?_
 refine cf rfl ?_
 refine bd (a:=true) ((equal_eq DG DG).trans (by simp)) ?_
 exact cf rfl rfl
theorem wA1:Def (appraise_Appraise evd enr' [110] [MAN]) (λv=>v.Err=0/\v.Reasons.length=10/\v.Clock=17):=by
 unfold appraise_Appraise
 refine Def.c (λh=>by cases h) (λ_=>?_)
 refine Def.bd (P:=λr=>r=(qa KN,0)) (Def.of (app_Quote evd [kq 4,kq 5] [110] (evok _ (by decide))) wq1) (λr hr=>?_)
 subst hr
 refine Def.c (λh=>by cases h) (λ_=>?_)
 refine Def.bd (P:=λr=>r=(⟨2,1,EVS⟩,0)) (Def.of wX rfl) (λr hr=>?_)
 subst hr
 refine Def.c (λh=>by cases h) (λ_=>?_)
 have hx:=aw_ex
 refine Def.bd (P:=λr=>r.1.length=10/\r.2.2=0) ?_ (λr hr=>?_)
 ·cases hm:match_Explain ⟨2,1,EVS⟩ [MAN] with
  | none=>rw [hm] at hx;cases hx
  | some r=>
   rw [hm] at hx
   simp only [Option.map_some,Option.some.injEq,Prod.mk.injEq] at hx
   exact Def.s hx
 obtain ⟨rs,a,b⟩:=r
 obtain ⟨h1,h2⟩:=hr
 simp only at h1 h2
 subst h2
 exact Def.c (λh=>by cases h) (λ_=>Def.s ⟨rfl,h1,rfl⟩)
theorem wA2:Def (appraise_Appraise evd enr' [109] [MAN]) (λv=>v.Err=45):=by
 unfold appraise_Appraise
 refine Def.c (λh=>by cases h) (λ_=>?_)
 refine Def.bd (P:=λr=>r=(noAtt,45)) (Def.of (app_Quote evd [kq 4,kq 5] [109] (evok _ (by decide))) wq2) (λr hr=>?_)
 subst hr
 exact Def.c (λ_=>Def.s rfl) (λh=>by cases h)
theorem wA3:Def (appraise_Appraise evd enr' [110] []) (λv=>v.Err=47):=by
 unfold appraise_Appraise
 refine Def.c (λh=>by cases h) (λ_=>?_)
 refine Def.bd (P:=λr=>r=(qa KN,0)) (Def.of (app_Quote evd [kq 4,kq 5] [110] (evok _ (by decide))) wq1) (λr hr=>?_)
 subst hr
 refine Def.c (λh=>by cases h) (λ_=>?_)
 refine Def.bd (P:=λr=>r=(⟨2,1,EVS⟩,0)) (Def.of wX rfl) (λr hr=>?_)
 subst hr
 refine Def.c (λh=>by cases h) (λ_=>?_)
 refine Def.bd (P:=λr=>r=([],0,47)) (Def.of aw_ex2 rfl) (λr hr=>?_)
 subst hr
 exact Def.c (λ_=>Def.s rfl) (λh=>by cases h)
theorem awake_eq:law37_awake=some true:=by
 obtain ⟨v1,a1,a2,a3,a4⟩:=wA1
 obtain ⟨v2,b1,b2⟩:=wA2
 obtain ⟨v3,c1,c2⟩:=wA3
 unfold law37_awake
 refine bd aw_ev ?_
 refine bd aw_man ?_
 refine bd enrolled_eq ?_
 refine bd wG ?_
 refine bd (a:=v1) a1 ?_
 refine bd (a:=true) ?_ rfl
 refine ct (by rw [a2];rfl) ?_
 refine ct (by rw [a3];rfl) ?_
 refine ct (by rw [a4];rfl) ?_
 refine bd (a:=v2) b1 ?_
 refine ct (by rw [b2];rfl) ?_
 refine bd (a:=v3) c1 ?_
 rw [c2]
 rfl
theorem appraiseQuote_true (raw:api_Evidence) (codes changes:List UInt8) (active machine:Int) (other:Bool) (keys:Int):law37_AppraiseQuote raw codes changes active machine other keys=some true:=
 quote_law awake_eq raw codes changes active machine other keys
end Go.Proofs.TT
