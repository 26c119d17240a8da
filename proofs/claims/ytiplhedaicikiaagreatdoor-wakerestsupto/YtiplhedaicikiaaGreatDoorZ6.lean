/- Part of the proof that WakeRests holds of the program for arguments that together hold at most 1048576 values and letters; no other condition. -/
import Derived.Test.YtiplhedaicikiaaGreatDoorZ5
import Derived.Test.YtiplhedaicikiaaGreatDoorRows
import Derived.Test.YtiplhedaicikiaaGreatDoorCards
import Derived.Test.YtiplhedaicikiaaGreatDoorTie
import Derived.ProofKit
import Derived.OpenShut
import Derived.Carry
import Derived.SevenTiedAt
import Derived.JoinedCond
import Derived.LaidMore
import Derived.SizedLaws
import Derived.Stop.LaidErr
import Derived.Deep.DeepHandedRow
import Derived.Deep.DeepWitnessRowRef
import Derived.Lib.LaidTab
set_option linter.all false
open Bool renaming and_eq_true->AI,and_self->zAu,and_true->zAz,not_eq_true'->zAf,true_and->zAF
open Go.DataW renaming Trod->zCX,TrodAll->zDU
open Go.IntKind renaming i64->BY
open Go.IntWalk renaming i64_in->zAZ
open Go.Value renaming int->zCx,okWide->zCD
open List renaming all_eq_true->zAj,any_cons->zCu,any_eq_false->zED,append_nil->zBN,cons_append->zAL,drop_length->zAD,eraseIdx_of_length_le->zCJ,getElem?_append_left->zAV,getElem?_append_right->zAQ,getElem?_eq_getElem->zAU,getElem?_map->zAX,getElem_mem->AT,length_append->By,length_cons->IS,length_map->zAH,length_nil->zAG,length_take->zAq,map->zDv,map_cons->zAN,map_nil->zBC,mem_append->zAI,mem_cons->zAR,mem_cons_of_mem->zAn,mem_cons_self->zBO,mem_map->zAt,mem_of_getElem?->zAK,mem_range->zBR,mem_singleton->zAw,nil_append->zAM,range->zAC,sum_cons->zCq,take_length->zAr,take_of_length_le->zAs,take_succ_eq_append_getElem->zAp
open List.range renaming loop->zAc
open Nat renaming beq->IN,ble->zAP,ble_eq_true_of_le->sh,le_refl->IT,le_trans->zAY,lt_of_lt_of_le->zAJ,strongRecOn->zBv,sub_self->zDP,zero_add->No,zero_le->zBB
open Option renaming map_eq_some_iff->zBg
open Option.some renaming inj->zBy
open SizeOf renaming sizeOf->zAT
section
namespace Go.Ah.Tz
open Go.Proofs.Tryz (prog)
set_option maxRecDepth 100000
attribute [local irreducible] aF.rd aF.pu aF.wr aF.dr aF.gr aF.gw aF.gl aF.gd aF.opt cI W
set_option maxHeartbeats 8000000
theorem u204(cs:List Cd)(gu:cs.length<=gn)(l:List Ef)(hf:bE l=true):PC 61 [iH cs,gY l] (.bool (bD cs true 1 l&&decide (dA 0 l<=200))):=by
 refine Xa hP g61.ok rfl rfl ?_;rw[H2.e];unfold g61;dsimp only;refine au ?_;refine Zu (rd:=[0]) (c188 cs gu true l 1 hf (by decide)) rfl g94.ok.plain (.cons (aB.box (row:=yj cs true) rfl (by simp) (bu.ro rfl)) (bu.ro rfl)) rfl ?_;cases bD cs true 1 l with
 |true=>
  refine au ?_;refine aY (c142 l hf) g66.ok ?_;refine au ?_;rfl
 |false=>refine au ?_;rfl
theorem u54(x:Nm)(hf:cW x=true):PC 143 [.agg (c8 x)] (.bool (decide (mi x<=200)&&eP true x)):=by
 have h166:=c76 x hf;have h167:=c77 [] true x hf;rw[QA]at h166 h167 ⊢;refine Xa hP g143.ok rfl rfl ?_;rw[H1.e];unfold g143;dsimp only;refine au ?_;refine aY h166 g99.ok ?_;refine au ?_;cases decide (mi x<=200)with
 |true=>
  refine au ?_;refine Zu (rd:=[1]) h167 rfl g137.ok.plain (.cons ?_ (bu.ro rfl)) rfl ?_
  ·refine aB.box (row:=[.an,.bool true]) rfl (by simp) (.cons (aB.dY (aB.ro rfl) λM u d=>d.e_ 12) (bu.ro rfl))
  cases eP true x with
  |true=>refine au ?_;rfl
  |false=>refine au ?_;rfl
 |false=>refine au ?_;rfl
theorem u414(cs:List Cd)(gu:cs.length<=gn)(x:Cn)(hf:cG x=true):PC 141 [iH cs,.agg (f_ x)] (.bool (decide (nX x<=200)&&fG cs true x)):=by
 have h412:=c178 x hf;have h409:=c226 cs gu true x hf;rw[XE]at h412 h409 ⊢;refine Xa hP g141.ok rfl rfl ?_;rw[H2.e];unfold g141;dsimp only;refine au ?_;refine aY h412 g100.ok ?_;refine au ?_;cases decide (nX x<=200)with
 |true=>
  refine au ?_;refine Zu (rd:=[1]) h409 rfl g135.ok.plain (.cons (aB.box (row:=yj cs true) rfl (by simp) (bu.ro rfl)) (bu.ro rfl)) rfl ?_;cases fG cs true x with
  |true=>refine au ?_;rfl
  |false=>refine au ?_;rfl
 |false=>refine au ?_;rfl
theorem u483(n:Int):PC 183 [iv n] (iv (pc n)):=by
 refine Xa hP g183.ok rfl rfl ?_;rw[H1.e];unfold g183;dsimp only;refine au ?_;rfl
theorem u413(b:Bk)(s:St)(gW:bd 1000000000 s)(hm:aO (bz b).1 b s true=true)(h67:PC 42 [cC b] (.agg [iv (bz b).1,iv (bz b).2]))(sd tg:Int)(h01:sd=0∨sd=1):PC 140 [cC b,bZ s,.agg [iv sd,iv tg]] (iv 0):=by
 have h50:=c25 b s gW true _ _ h67;rw[hm]at h50;refine Xa hP g140.ok rfl rfl ?_;rw[H3.e];unfold g140;dsimp only;rcases h01 with rfl|rfl
 all_goals
  refine au ?_;refine aY h50 g29.ok ?_;refine au ?_;rfl
theorem u482(b:Bk)(s:St)(sd tg who:Int)(h01:sd=0∨sd=1){r:List aa}(hr:r=cy b++(aI s++[iv sd,iv tg])):PC 181 [.aq r 0,aN who] (.agg (yE (iN s (bG sd who)))):=by
 subst hr;refine Xa hP g181.ok rfl rfl ?_;rw[H2.e];unfold g181;dsimp only;have e:bG sd who=if (who==1)=true then 1-sd else sd:=by unfold bG;simp
 rw[e];rcases cA (who==1)with h|h<;>rcases h01 with rfl|rfl
 all_goals
  rw[h];refine au ?_;rw[h];refine au ?_;rfl
theorem u288(b:Bk)(s:St)(gW:bd 1000000000 s)(hm:aO (bz b).1 b s true=true)(h67:PC 42 [cC b] (.agg [iv (bz b).1,iv (bz b).2]))(id:Int):PC 182 [cC b,bZ s,iv id] (nE b s id):=by
 obtain⟨he,hM⟩:=Xo.1 hm;have h50:=c25 b s gW true _ _ h67;rw[hm]at h50;refine Xa hP g182.ok rfl rfl ?_;rw[H3.e];unfold g182;dsimp only;refine au (aY (c23 s gW id) g56.ok ?_);refine au (aY h50 g29.ok ?_);cases h:(aL s id).2.2 with
 |false=>
  refine au ?_;simp[nE,mj,h]
 |true=>
  obtain⟨k,u,h1,h2,_,h4⟩:=ZdC h;have e:nE b s id=.bp [iv (jL b (Xx s (aL s id).1).af k).1,iv (jL b (Xx s (aL s id).1).af k).2,.bool true]:=by simp[nE,mj,h,h1]
  have ta:(Xx s (aL s id).1).af.length<=1000000∧∀u∈(Xx s (aL s id).1).af,0<=u.card∧u.card.toNat<b.ai.length:=by
   rcases h4 with h4|h4<;>rw[h4]
   ·exact⟨hM.le.s0.af,IB hm⟩
   ·exact⟨hM.le.s1.af,Ih hm⟩
  refine au ?_;rw[h1,e];refine aY (c177 b he s h4 ta.1 ta.2 h2) g93.ok (au ?_);rfl
theorem Xew{t:Bool}{op n who:Int}{kids:List Nm}(h:eP t (.mk op n who kids)=true):0<=op∧op<=12∧(8<=op→∃y z,kids=[y,z]∧eP t y=true∧eP t z=true)∧(op=0→0<=n∧n<=999):=by
 have h:(iM t op n who kids.length&&(cx t kids&&fJ t op n who))=true:=h;simp only[iM,AI,fE]at h;obtain⟨⟨h1,h2,h3⟩,h4,h5⟩:=h;refine⟨h1,h2,λh=>?_,λh=>?_⟩
 ·rw[xl,aJ ⟨h,h2⟩]at h3
  match kids,h3 with
  |[y,z],_=>exact⟨y,z,rfl,GK h4 y (by simp),GK h4 z (by simp)⟩
 ·subst h;simp[fJ]at h5;omega
theorem qX(cs:List Cd):∀(l pre:List Cd),(dE cs pre l).1=0→∀c∈l,0<=c.cost∧c.cost<=999
 |[],_,_,c,hc=>absurd hc (by simp)
 |d::l,pre,h,c,hc=>by
  unfold dE at h;split at h
  ·cases h
  ·split at h
   ·rename_i h2;rcases zAR.1 hc with rfl|hc
    ·simp only[eG,ck,AI,fE]at h2;exact h2.2.1
    ·exact qX cs l _ h c hc
   ·cases h
theorem zq{b:Bk}(h:(bz b).1=0):∀c∈b.ai,0<=c.cost∧c.cost<=999:=by
 unfold bz at h;split at h
 ·rename_i h1;exact absurd h h1
 ·rename_i h1;have h1:(cE b.ai).1=0:=by simpa using h1
  unfold cE at h1;split at h1
  ·cases h1
  ·exact qX _ _ _ h1
theorem ze{n:Int}(h:-1000000<=n∧n<=1000000):pc n=n:=by unfold pc;omega
section
variable (b:Bk) (s:St) (gW:bd 1000000000 s) (hm:aO (bz b).1 b s true=true) (h67:PC 42 [cC b] (.agg [iv (bz b).1,iv (bz b).2])) (sd tg:Int) (h01:sd=0∨sd=1)
include gW hm h67 h01
theorem u416:∀(k:Nat) (x:Nm),zAT x<=k→eP true x=true→PC 144 [.aq (cy b++(aI s++[iv sd,iv tg])) 0,.agg (c8 x)] (iv (dO b s sd tg x))
 |0,x,hk,_=>by cases x;simp at hk
 |k+1,.mk op n who kids,hk,hx=>by
  obtain⟨h1,h2,h3,h4⟩:=Xew hx;have hM:=(Xo.1 hm).2;have pI:∀w,ij b (iN s (bG sd w)):=λw=>by unfold iN;split;exact hM.s0;exact hM.s1
  rw[QA];have h482:=λw=>u482 b s sd tg w h01 rfl;have e0:bG sd 0=sd:=rfl;refine Xa hP g144.ok rfl rfl ?_;rw[H2.e];unfold g144;dsimp only[Nm.op,Nm.n,Nm.who,Nm.kids];have hY:op=0∨op=1∨op=2∨op=3∨op=4∨op=5∨op=6∨op=7∨8<=op:=by omega
  rcases hY with rfl|rfl|rfl|rfl|rfl|rfl|rfl|rfl|hY
  ·refine au ?_;show _=iv (pc n);rw[ze (by have:=h4 rfl;omega)]
  ·refine au ?_;refine aY (h482 who) g181.ok ?_;refine au ?_;show _=iv (pc (iN s (bG sd who)).aV);rw[ze (ZU.1 (pI who).aV)]
  ·refine au ?_;refine aY (h482 who) g181.ok ?_;refine au ?_;show iv (((iN s (bG sd who)).hand.map aR).length:Int)=iv (pc (iN s (bG sd who)).hand.length);have:=(Xj.1 (pI who).hand).1;rw[ze (by omega),zAH]
  ·refine au ?_;refine aY (h482 who) g181.ok ?_;refine au ?_;show iv (((iN s (bG sd who)).az.map aR).length:Int)=iv (pc (iN s (bG sd who)).az.length);have:=(Xj.1 (pI who).az).1;rw[ze (by omega),zAH]
  ·refine au ?_;refine aY (h482 who) g181.ok ?_;refine au ?_;show iv (((iN s (bG sd who)).af.map bg).length:Int)=iv (pc (iN s (bG sd who)).af.length);have:=(pI who).af;rw[ze (by omega),zAH]
  ·refine au ?_;refine aY (h482 0) g181.ok ?_;refine au ?_;show iv (iN s (bG sd 0)).aT=iv (pc (iN s sd).aT);have:=ze (ZU.1 (pI 0).aT.2);rw[e0]at this ⊢;rw[this]
  ·refine au (aY (h482 0) g181.ok ?_);have hd:=pI 0;have et:dO b s sd tg (.mk 6 n who kids)=pc (tD b (iN s (bG sd 0))):=rfl;rw[et];generalize iN s (bG sd 0)=d at *;obtain⟨l,m,o,dk,h,g,u,t⟩:=d;cases dk with
   |nil=>refine au ?_;rfl
   |cons c dk=>
    have hc:=(Xj.1 hd.az).2 c (by simp);have b_:c.toNat<b.ai.length:=by omega
    refine au ?_;refine Za (sH _ cL false false 12 b.ai .i64 c hc.1 b_) ?_;refine au ?_;show _=iv (pc (match b.ai[c.toNat]? with|some k=>k.cost|none=>_));rw[zAU b_];exact congrArg iv (ze (by have:=zq (Xo.1 hm).1 _ (AT b_);omega)).symm
  ·refine au ?_;have h288:=u288 b s gW hm h67 tg;unfold nE at h288;refine aY h288 g182.ok (au (aY (u483 _) g183.ok (au ?_)));rfl
  ·obtain⟨y,z,rfl,hy,hz⟩:=h3 hY;have K6:=u416 k y (by simp at hk;omega) hy;have K7:=u416 k z (by simp at hk;omega) hz;have by_:=GH b s sd tg y;have bz_:=GH b s sd tg z;have hmul:=Xd0 by_ bz_;have et:dO b s sd tg (.mk op n who [y,z])=pc (vK op (dO b s sd tg y) (dO b s sd tg z)):=by
    show pc (if op<8 then _ else tN op (kh b s sd tg [y,z]))=_;rw[aE (by omega)];rfl
   rw[et];clear et;generalize dO b s sd tg y=p at *;generalize dO b s sd tg z=q at *;simp only[zAN,zBC];rw[QA y]at K6 ⊢;rw[QA z]at K7 ⊢;have hY:op=8∨op=9∨op=10∨op=11∨op=12:=by omega
   rcases hY with rfl|rfl|rfl|rfl|rfl
   all_goals
    refine au ?_;refine Y9 K6 g144.ok ?_;refine au ?_;refine aY K7 g144.ok ?_;refine au ?_
    first
     |rw[br (by omega) (by omega)]
      refine aY (u483 _) g183.ok (au ?_);rfl
     |exact congrArg iv (ze (n:=min p q) (by omega)).symm
     |exact congrArg iv (ze (n:=max p q) (by omega)).symm
end
theorem Zel{cs:List Cd}{t:Bool}{op who:Int}{name:Tx}{aC:List Nm}{kids:List Cn}(h:fG cs t (.mk op who name aC kids)=true) :
  0<=op∧op<=6∧(op<=2→∃y z,aC=[y,z]∧eP t y=true∧eP t z=true)∧(op=3→∃p,kids=[p]∧fG cs t p=true)∧(op=4∨op=5→∃p q,kids=[p,q]∧fG cs t p=true∧fG cs t q=true):=by
 have h:(gM op aC.length kids.length&&(cx t aC&&(eH cs t kids&&gL cs op who name)))=true:=h;simp only[gM,AI,fE]at h;obtain⟨⟨h1,h2,h3,h4⟩,h5,h6,_⟩:=h;refine⟨h1,h2,λh=>?_,λh=>?_,λh=>?_⟩
 ·rw[nj,aJ ⟨h1,h⟩]at h3
  match aC,h3 with
  |[y,z],_=>exact⟨y,z,rfl,GK h5 y (by simp),GK h5 z (by simp)⟩
 ·rw[nk,aE (by omega),aJ h]at h4
  match kids,h4 with
  |[p],_=>exact⟨p,rfl,IA h6 p (by simp)⟩
 ·rw[nk,aJ h]at h4
  match kids,h4 with
  |[p,q],_=>exact⟨p,q,rfl,IA h6 p (by simp),IA h6 q (by simp)⟩
section
variable (b:Bk) (s:St) (gW:bd 1000000000 s) (hm:aO (bz b).1 b s true=true) (h67:PC 42 [cC b] (.agg [iv (bz b).1,iv (bz b).2])) (sd tg:Int) (h01:sd=0∨sd=1)
include gW hm h67 h01
theorem u415:∀(k:Nat) (x:Cn),zAT x<=k→fG b.ai true x=true→PC 142 [.aq (cy b++(aI s++[iv sd,iv tg])) 0,.agg (f_ x)] (.bool (dQ b s sd tg x))
 |0,x,hk,_=>by cases x;simp at hk
 |k+1,.mk op who name aC kids,hk,hx=>by
  obtain⟨h1,h2,h3,h4,h5⟩:=Zel hx;have hM:=(Xo.1 hm).2;have pI:ij b (iN s (bG sd who)):=by unfold iN;split;exact hM.s0;exact hM.s1
  rw[XE];refine Xa hP g142.ok rfl rfl ?_;rw[H2.e];unfold g142;dsimp only[Cn.op,Cn.who,Cn.name,Cn.aC,Cn.kids];have hY:op<=2∨op=3∨op=4∨op=5∨op=6:=by omega
  rcases hY with hY|rfl|rfl|rfl|rfl
  ·obtain⟨y,z,rfl,hy,hz⟩:=h3 hY;have K6:=u416 b s gW hm h67 sd tg h01 _ y (IT _) hy;have K7:=u416 b s gW hm h67 sd tg h01 _ z (IT _) hz;have et:dQ b s sd tg (.mk op who name [y,z] kids)=pB b s sd op who name [dO b s sd tg y,dO b s sd tg z] (j0 b s sd tg kids):=rfl;rw[et];generalize dO b s sd tg y=p at *;generalize dO b s sd tg z=q at *;simp only[zAN,zBC];rw[QA y]at K6 ⊢;rw[QA z]at K7 ⊢;have hY:op=0∨op=1∨op=2:=by omega
   rcases hY with rfl|rfl|rfl
   all_goals
    refine au ?_;refine Y9 K6 g144.ok ?_;refine au ?_;refine aY K7 g144.ok ?_;refine au ?_;rfl
  ·obtain⟨p,rfl,hp⟩:=h4 rfl;have BN:=u415 k p (by simp at hk;omega) hp;have et:dQ b s sd tg (.mk 3 who name aC [p]) = !dQ b s sd tg p:=rfl;rw[et];simp only[zAN,zBC];rw[XE p]at BN ⊢;refine au ?_;refine aY BN g142.ok ?_;refine au ?_;rfl
  ·obtain⟨p,q,rfl,hp,hq⟩:=h5 (.inl rfl);have BN:=u415 k p (by simp at hk;omega) hp;have K5:=u415 k q (by simp at hk;omega) hq;have et:dQ b s sd tg (.mk 4 who name aC [p,q])=(dQ b s sd tg p&&dQ b s sd tg q):=rfl;rw[et];simp only[zAN,zBC];rw[XE p]at BN ⊢;rw[XE q]at K5 ⊢;refine au (aY BN g142.ok ?_);cases dQ b s sd tg p with
   |false=>refine au ?_;rfl
   |true=>
    refine au (aY K5 g142.ok ?_);cases dQ b s sd tg q<;>(refine au ?_;rfl)
  ·obtain⟨p,q,rfl,hp,hq⟩:=h5 (.inr rfl);have BN:=u415 k p (by simp at hk;omega) hp;have K5:=u415 k q (by simp at hk;omega) hq;have et:dQ b s sd tg (.mk 5 who name aC [p,q])=(dQ b s sd tg p||dQ b s sd tg q):=rfl;rw[et];simp only[zAN,zBC];rw[XE p]at BN ⊢;rw[XE q]at K5 ⊢;refine au (aY BN g142.ok ?_);cases dQ b s sd tg p with
   |true=>refine au ?_;rfl
   |false=>
    refine au (aY K5 g142.ok ?_);cases dQ b s sd tg q<;>(refine au ?_;rfl)
  ·have et:dQ b s sd tg (.mk 6 who name aC kids)=(iN s (bG sd who)).hand.any λc=>(Yr b c).name==name:=rfl;rw[et];refine au (aY (u482 b s sd tg who h01 rfl) g181.ok ?_);have hc:=(Xj.1 pI.hand).2;have hl:=(Xj.1 pI.hand).1;generalize iN s (bG sd who)=d at *;refine au ?_;generalize d.hand=l at *;refine Xg (ι:=Nat) (λi vs σ=>vs=[iv i]∧i<=l.length∧σ=_∧(l.any λc=>(Yr b c).name==name)=((l.drop i).any λc=>(Yr b c).name==name)) (λi=>l.length-i) 0 ⟨rfl,by omega,rfl,rfl⟩ ?_;rintro i _ _ again ⟨rfl,hi,rfl,he⟩ bn;refine au (Ya (λh=>?_) (λh=>?_))
   ·have h:i<l.length:=by simpa using h
    have yr:=hc l[i] (AT h);have b_:(l[i]).toNat<b.ai.length:=by omega
    refine au ?_;refine Za (Xm _ aR false false 1 l .i64 i h) ?_;refine au ?_;refine Za (sH _ cL false false 12 b.ai .i64 l[i] yr.1 b_) ?_;refine au ?_;have uK:(Yr b l[i]).name=b.ai[(l[i]).toNat].name:=by unfold Yr;rw[zAU b_];rfl
    rw[gI h,zCu,uK]at he;refine Ya (λh6=>?_) (λh6=>?_)
    ·rw[he,h6];rfl
    ·rw[h6,Bool.false_or]at he;refine Za (Qj ..) ?_;rw[Qc (n:=i) (by omega)];exact bn (i+1) _ _ (by omega) ⟨rfl,by omega,rfl,he⟩
   ·have h:i=l.length:=by simp at h;omega
    subst h;rw[zAD]at he;rw[he];rfl
theorem u307(x:Nm)(hf:cW x=true)(hx:eP true x=true)(hw:mi x<=200):PC 96 [cC b,bZ s,.agg [iv sd,iv tg],.agg (c8 x)] (.bp [iv (dO b s sd tg x),iv 0]):=by
 have h54:=u54 x hf;have h416:=u416 b s gW hm h67 sd tg h01 _ x (IT _) hx;rw[hx,fk hw]at h54;rw[QA]at h54 h416 ⊢;refine Xa hP g96.ok rfl rfl ?_;rw[H4.e];unfold g96;dsimp only;refine au (aY (u413 b s gW hm h67 sd tg h01) g140.ok ?_);refine au (aY h54 g143.ok ?_);refine au ?_;refine Zu (rd:=[4]) h416 rfl g144.ok.plain (.cons (aB.box (row:=cy b++(aI s++[iv sd,iv tg])) rfl (by simp) (bu.ro rfl)) (bu.ro rfl)) rfl ?_;refine au ?_;rfl
theorem u306(gu:b.ai.length<=gn)(x:Cn)(hf:cG x=true)(hx:fG b.ai true x=true)(hw:nX x<=200):PC 95 [cC b,bZ s,.agg [iv sd,iv tg],.agg (f_ x)] (.bp [.bool (dQ b s sd tg x),iv 0]):=by
 have h414:=u414 b.ai gu x hf;have h415:=u415 b s gW hm h67 sd tg h01 _ x (IT _) hx;rw[hx,fk hw]at h414;rw[XE]at h414 h415 ⊢;refine Xa hP g95.ok rfl rfl ?_;rw[H4.e];unfold g95;dsimp only;refine au (aY (u413 b s gW hm h67 sd tg h01) g140.ok ?_);refine au (aY h414 g141.ok ?_);refine au ?_;refine Zu (rd:=[4]) h415 rfl g142.ok.plain (.cons (aB.box (row:=cy b++(aI s++[iv sd,iv tg])) rfl (by simp) (bu.ro rfl)) (bu.ro rfl)) rfl ?_;refine au ?_;rfl
end
theorem u484(s:St)(gW:bd 1000000000 s)(sd tg who:Int)(h01:sd=0∨sd=1):PC 184 [bZ s,.agg [iv sd,iv tg],aN who] (.bp [iv (c_ s sd tg who).1,iv (c_ s sd tg who).2.1,.bool (c_ s sd tg who).2.2]):=by
 have h48:=c23 s gW tg;unfold gz at h48;refine Xa hP g184.ok rfl rfl ?_;rw[H3.e];unfold g184;dsimp only;have hw:(who<0∨2<who)∨who=0∨who=1∨who=2:=by omega
 rcases hw with hw|rfl|rfl|rfl
 ·have e:c_ s sd tg who=(0,0,false):=by unfold c_;rw[aE (by omega),aE (by omega),aJ (by omega)]
  rw[e];rcases h01 with rfl|rfl<;>rcases hw with hw|hw
  all_goals
   refine au ?_
   first
    |rw[fk hw]
     refine au ?_;rfl
    |rw[gm (by omega)]
     refine au ?_;rw[fk hw];refine au ?_;rfl
 ·rcases h01 with rfl|rfl<;>(refine au ?_;rfl)
 ·rcases h01 with rfl|rfl<;>(refine au ?_;rfl)
 have ht:tg = -2∨tg = -3∨(tg≠-2∧tg≠-3∧tg<1)∨0<tg:=by omega
 rcases ht with rfl|rfl|⟨t1,t2,t3⟩|ht
 ·rcases h01 with rfl|rfl<;>(refine au ?_;rfl)
 ·rcases h01 with rfl|rfl<;>(refine au ?_;rfl)
 ·have e:c_ s sd tg 2=(0,0,false):=by unfold c_;rw[aE (by omega),aE (by omega),aE (by omega),aE (by omega),aE (by omega)]
  rw[e];rcases h01 with rfl|rfl
  all_goals
   refine au ?_;rw[show (tg == -2)=false by simpa using t1];refine au ?_;rw[show (tg == -3)=false by simpa using t2];refine au ?_;refine aY h48 g56.ok ?_;refine au ?_;rw[fk t3];refine au ?_;rfl
 ·have e:c_ s sd tg 2=if (aL s tg).2.2=true then (tg,(aL s tg).1,true)else (0,0,false):=by unfold c_;rw[aE (by omega),aE (by omega),aE (by omega),aE (by omega),aJ ht]
  rw[e];rcases h01 with rfl|rfl<;>cases h:(aL s tg).2.2
  all_goals
   rw[h]at h48;refine au ?_;rw[show (tg == -2)=false by simp;omega];refine au ?_;rw[show (tg == -3)=false by simp;omega];refine au ?_;refine aY h48 g56.ok ?_;refine au ?_;rw[show decide (tg<1)=false by simp;omega];refine au ?_;rfl
def OW(q:Nat→Prop)(σ:List ab)(v:aa)(l:List Int):Prop:=v=aP l∨(v=.an∧l=[])∨∃c,v=.sl c 0 l.length false∧aj σ c=.rows 1 (l.map aR)∧q c
variable {q:Nat→Prop}
theorem OW.mono{σ τ:List ab}{v:aa}{l:List Int}(h:OW q σ v l)(hk:∀c rs,aj σ c=.rows 1 rs→aj τ c=.rows 1 rs):OW q τ v l:=by
 rcases h with h|h|⟨c,h1,h2⟩
 ·exact .inl h
 ·exact .inr (.inl h)
 ·exact .inr (.inr ⟨c,h1,hk c _ h2.1,h2.2⟩)
theorem OW.wk{q':Nat→Prop}{σ:List ab}{v:aa}{l:List Int}(h:OW q σ v l)(hk:∀c,q c→c<σ.length→q' c):OW q' σ v l:=by
 rcases h with h|h|⟨c,h1,h2,h3⟩
 ·exact .inl h
 ·exact .inr (.inl h)
 ·exact .inr (.inr ⟨c,h1,h2,hk c h3 (Yb h2)⟩)
theorem OW.app{σ:List ab}{v:aa}{l:List Int}(h:OW q σ v l)(x:List ab):OW q (σ++x) v l:=h.mono λ_ _ e=>QC _ e
theorem OW.src{σ:List ab}{v:aa}{l:List Int}(h:OW q σ v l):∃rd,Xk 1 σ v=some (l.map aR,rd):=by
 rcases h with rfl|⟨rfl,rfl⟩|⟨c,rfl,h2,_⟩
 ·exact⟨[],Gl⟩
 ·exact⟨[],rfl⟩
 ·exact⟨[c],Y0 h2 (by simp)⟩
theorem OW.cell{σ:List ab}{v:aa}{l:List Int}(h:OW q σ v l):cellsOf v=some [v]:=by
 rcases h with rfl|⟨rfl,rfl⟩|⟨c,rfl,h2,_⟩<;>rfl
theorem OW.len{σ:List ab}{v:aa}{l:List Int}(h:OW q σ v l):Qn [v] σ=.ok (iv l.length) [] []:=by
 rcases h with rfl|⟨rfl,rfl⟩|⟨c,rfl,h2,_⟩
 ·simp[Qn]
 ·rfl
 ·rfl
theorem Wf(l:List Int):aW (l.map aR)=true:=XQ λr hr=>by obtain⟨x,_,rfl⟩:=zAt.1 hr;rfl
theorem H9{σ:List ab}{v:aa}{l:List Int}{rd:List Nat}(h:Xk 1 σ v=some (l.map aR,rd))(hl:l.length<=1000000000):Qf 1 8 [.an,v] σ=.ok (.sl σ.length 0 l.length false) rd [(σ.length,.rows 1 (l.map aR))]:=by
 have:=Cc 1 8 h (Wf l) (by simp;omega);simpa using this
theorem Tu{σ:List ab}{c:Nat}{v:aa}{l m:List Int}{rd:List Nat}(hc:aj σ c=.rows 1 (l.map aR))(h:Xk 1 σ v=some (m.map aR,rd))(hl:l.length+m.length<=1000000000) :
  Qf 1 8 [.sl c 0 l.length false,v] σ=.ok (.sl σ.length 0 (l++m).length false) rd ([(c,.dead)]++[(σ.length,.rows 1 ((l++m).map aR))]):=by
 have:=QP 1 8 (off:=0) (len:=l.length) hc (by simp) h (Wf m) (by simp;omega);simpa using this
theorem OW.um{σ:List ab}{v:aa}{l:List Int}(h:OW q σ v l):RI σ (zAC σ.length) v l:=by
 rcases h with rfl|⟨rfl,rfl⟩|⟨c,rfl,h2,_⟩
 ·exact RI.ro l
 ·exact RI.an
 ·exact RI.own h2 (zBR.2 (Yb h2)) rfl
def ER(q:Nat→Prop)(σ:List ab)(rows:List (List aa))(l:List Ev):Prop:=rows.length=l.length∧∀(i:Nat) (row:List aa) (e:Ev),rows[i]?=some row→l[i]?=some e→∃cv,row=cV e cv∧OW q σ cv e.ai
def LO(q:Nat→Prop)(l:List Ev)(lv:aa)(σ:List ab):Prop:=(l=[]∧lv=.an)∨∃c rows,lv=.sl c 0 l.length false∧aj σ c=.rows 7 rows∧ER q σ rows l
theorem ER.mono{σ τ:List ab}{rows:List (List aa)}{l:List Ev}(h:ER q σ rows l)(hk:∀c rs,aj σ c=.rows 1 rs→aj τ c=.rows 1 rs):ER q τ rows l:=
 ⟨h.1,λi row e q1 q2=>by obtain⟨cv,h1,h2⟩:=h.2 i row e q1 q2;exact⟨cv,h1,h2.mono hk⟩⟩
theorem LO.mono{σ τ:List ab}{l:List Ev}{lv:aa}(h:LO q l lv σ)(hk:∀c n rs,aj σ c=.rows n rs→aj τ c=.rows n rs):LO q l lv τ:=by
 rcases h with h|⟨c,rows,h1,h2,h3⟩
 ·exact .inl h
 ·exact .inr ⟨c,rows,h1,hk c 7 _ h2,h3.mono λc rs=>hk c 1 rs⟩
theorem LO.cells{σ:List ab}{l:List Ev}{lv:aa}(h:LO q l lv σ):cellsOf lv=some [lv]:=by
 rcases h with ⟨_,rfl⟩|⟨c,rows,rfl,_⟩<;>rfl
theorem OW.e8{σ:List ab}{v:aa}{l:List Int}(h:OW q σ v l):v.cell=true:=by
 rcases h with rfl|⟨rfl,rfl⟩|⟨c,rfl,h2,_⟩<;>rfl
theorem ER.aW{σ:List ab}{rows:List (List aa)}{l:List Ev}(h:ER q σ rows l):aW rows=true:=XQ λr hr=>by
 obtain⟨i,hi,rfl⟩:=List.mem_iff_getElem.1 hr;have tZ:i<l.length:=by rw[←h.1];exact hi
 obtain⟨cv,h1,h2⟩:=h.2 i rows[i] l[i] (by simp) (by simp);rw[h1];show (true&&(true&&(true&&(true&&(true&&(true&&(cv.cell&&true)))))))=true;rw[h2.e8];rfl
theorem ER.app{σ:List ab}{rows ys:List (List aa)}{l m:List Ev}(h:ER q σ rows l)(k:ER q σ ys m):ER q σ (rows++ys) (l++m):=by
 refine⟨by simp[h.1,k.1],λi row e q1 q2=>?_⟩;by_cases hi:i<rows.length
 ·rw[zAV hi]at q1;rw[zAV (by rw[←h.1];exact hi)]at q2;exact h.2 i row e q1 q2
 ·rw[zAQ (by omega)]at q1;rw[zAQ (by rw[←h.1];omega),←h.1]at q2;exact k.2 _ row e q1 q2
theorem Zd4{l:List Ev}{lv:aa}{τ:List ab}(h:LO q l lv τ){y:aa}{ys:List (List aa)}{rd:List Nat}{m:List Ev}(hy:Xk 7 τ y=some (ys,rd))(hm:ER q τ ys m)(bM:l.length+m.length<=200000000) :
  ∃nv up τ',Qf 7 72 [lv,y] τ=.ok nv rd up∧gp τ up=some τ'∧LO q (l++m) nv τ'∧Kq [] 7 τ τ'∧(∀k row,aj τ k=.box row→k∉up.map (·.1)):=by
 have hlen:=hm.1;rcases h with ⟨rfl,rfl⟩|⟨c,rows,rfl,h2,h3⟩
 ·refine⟨_,_,_,Cc 7 72 hy hm.aW (by rw[hlen];simp at bM;omega),Xe τ _,.inr ⟨τ.length,ys,by simp[hlen],Yc τ _,by simpa using hm.mono λc rs e=>QC _ e⟩,Kq.app [] 7 τ _,λk row hk=>?_⟩;have:=Yb hk;simp;omega
 ·have hK:=NA h2 (.rows 7 (rows.drop 0++ys)) [];refine⟨_,_,_,QP 7 72 h2 (by rw[h3.1,Nat.add_zero]) hy hm.aW (by rw[hlen];omega),XI _ _ (Yb h2),.inr ⟨τ.length,rows.drop 0++ys,by simp[hlen],AO c _,by rw[List.drop_zero];exact(h3.app hm).mono λc rs e=>hK.rows e (by simp) (by decide)⟩,hK,λk row hk=>?_⟩;have:=Yb hk;simp;exact⟨(by rintro rfl;rw[h2]at hk;cases hk),(by omega)⟩
theorem LO.GP{l:List Ev}{lv:aa}{σ:List ab}(h:LO q l lv σ):aB (hp σ) (zAC σ.length) lv (.aU false false 7 (l.map dF)):=by
 rcases h with ⟨rfl,rfl⟩|⟨k,rows,rfl,hk,hR⟩
 ·exact aB.dY (aB.ro rfl) (λM u d=>d.e_ 7)
 ·refine aB.dY (aB.sl (rs:=rows) (rs':=l.map dF) (Xw hk (by simp)) (zBR.2 (Yb hk)) (by rw[hR.1];omega) (by simp) (λi row row' q1 q2=>?_)) (λM u d=>d.gS);rw[No]at q1;rw[zAX]at q2;cases h:l[i]? with
  |none=>rw[h]at q2;cases q2
  |some e=>
   rw[h]at q2;cases q2;obtain⟨cv,rfl,h2⟩:=hR.2 i row e q1 h;exact .cons (aB.ro rfl) <| .cons (aB.ro rfl) <| .cons (aB.ro rfl) <| .cons (aB.ro rfl) <| .cons (aB.ro rfl) <| .cons (aB.ro rfl) <| .cons h2.um .nil
@[reducible] def va(b:Bk)(s:St)(h0 g0 t0 h1 g1 t1:aa)(sd tg:Int)(lv:aa)(fu e:Int):List aa:=
 cy b++(tl s (aP s.ao) (aP s.s0.az) h0 g0 (gU s.s0.af) t0 (aP s.s1.az) h1 g1 (gU s.s1.af) t1++[iv sd,iv tg,lv,iv fu,iv e])
def pr(p:Nat→Prop)(σ:List ab)(rb:Nat)(b:Bk)(s:St)(sd tg fu e:Int)(l:List Ev):Prop:=
 ∃h0 g0 t0 h1 g1 t1 lv,aj σ rb=.box (va b s h0 g0 t0 h1 g1 t1 sd tg lv fu e)∧OW (¬p ·) σ h0 s.s0.hand∧OW (¬p ·) σ g0 s.s0.al∧OW (¬p ·) σ t0 s.s0.told∧OW (¬p ·) σ h1 s.s1.hand∧OW (¬p ·) σ g1 s.s1.al∧OW (¬p ·) σ t1 s.s1.told∧LO p l lv σ
def RR(σ:List ab)(rb:Nat)(b:Bk)(s:St)(sd tg fu e:Int)(l:List Ev):Prop:=∃p:Nat→Prop,(∀c,p c→c<σ.length)∧pr p σ rb b s sd tg fu e l
structure eE (B:Prop):Prop where
 get:B
theorem av{A B:Prop}(k:B)(h:eE B→A:=by intro k;(repeat (first|refine Za (vA ..) ?_|refine Za (Z1 ..) ?_|refine Za rfl ?_|refine Za (ld (by assumption) (by rfl)) ?_|refine Zi rfl ?_|refine Xf (ld (by assumption) (by rfl)) (Zg _) ?_|refine Yh ?_|refine Ye ?_|refine Gb ?_|refine Zw rfl ?_));exact k.get):A:=h ⟨k⟩
theorem Vr(σ:List ab)(x y:ab):du σ ((σ++[x]).set σ.length .dead++[y]) []∧aj ((σ++[x]).set σ.length .dead++[y]) (σ++[x]).length=y:=by
 refine⟨⟨by simp,λc hc _=>?_⟩,?_⟩
 ·rw[Yf _ (by simp;omega),Xc _ (by simp;omega) (by omega),Yf _ hc]
 ·have:=Yc ((σ++[x]).set σ.length .dead) y;simpa using this
theorem Zeg{σ:List ab}{v y:aa}{l m:List Int}(ho:OW q σ v l)(hy:∀x,∃rd,Xk 1 (σ++[x]) y=some (m.map aR,rd))(hlen:l.length+m.length<=1000000000){K:aa→List Nat×List Nat→List ab→Prop}
 (hK:∀τ rd,du σ τ []→σ.length+2=τ.length→aj τ (σ.length+1)=.rows 1 ((l++m).map aR)→K (.sl (σ.length+1) 0 (l++m).length false) (rd,[σ.length,σ.length+1]) τ) :
  VV.wr (Qf 1 8 [.an,v] σ) σ λt σ=>VV.dr (Qf 1 8 [t,y] σ) σ λu z σ=>K u z σ:=by
 obtain⟨xo,e1⟩:=ho.src;refine Yd (H9 e1 (by omega)) (Xe _ _) ?_;obtain⟨rW,e2⟩:=hy (.rows 1 (l.map aR));refine Xf (Tu (Yc σ _) e2 hlen) (XI _ _ (by simp)) ?_;obtain⟨a1,a2⟩:=Vr σ (.rows 1 (l.map aR)) (.rows 1 ((l++m).map aR));have:=hK _ rW a1 (by simp) (by simpa using a2);simpa using this
theorem w420{p:Nat→Prop}{σ:List ab}{rb:Nat}{b:Bk}{s:St}{sd tg fu e:Int}{l:List Ev}(hp:∀c,p c→c<σ.length)(h:pr p σ rb b s sd tg fu e l){side:Int}(h01:side=0∨side=1){y:aa}{m:List Int}(hy:∀x,∃rd,Xk 1 (σ++[x]) y=some (m.map aR,rd))
 (hlen:(s.side side).told.length+m.length<=1000000000){K:KT}(hK:∀σ',pr p σ' rb b (iP m s side) sd tg fu e l→du σ σ' [rb]→K (.bp []) σ'):g148.u VV [.ak rb 0,iv side,y] σ K:=by
 obtain⟨h0,g0,t0,h1,g1,t1,lv,hr,o1,o2,o3,o4,o5,o6,ol⟩:=h;have uV:=Yb hr;rw[H3.e];unfold g148;dsimp only;rcases h01 with rfl|rfl
 rotate_left;have ot:OW (¬p ·) σ t1 (s.side 1).told:=o6;rotate_left;have ot:OW (¬p ·) σ t0 (s.side 0).told:=o3
 all_goals
  refine av (Zeg ot hy hlen λτ rd a1 a2 a3=>?_);have r2:=a1.get hr;have n1:rb≠σ.length:=by omega
  have n2:rb≠σ.length+1:=by omega
  refine av ?_;refine Xf (cX r2 rfl rfl rfl) (Ze _ (by omega)) ?_;refine Zw (by simp[Zj,Xn,Zn,Qv,cf,dZ,zAC,zAc,n1,n2,n1.symm,n2.symm,jN]) ?_;have np:¬p (σ.length+1):=λe=>by have:=hp _ e;omega
  have A:=λx=>a1.trans (du.set τ rb x);have kr:∀x c n rs,aj σ c=.rows n rs→aj (τ.set rb x) c=.rows n rs:=λx c n rs e=>(A x).get e (by simp) (by simp;rintro rfl;rw[hr]at e;cases e);have a4:=λx=>Zb (x:=x) a3 (by simp) n2;refine hK _ ?_ (A _)
  first
   |exact⟨h0,g0,_,h1,g1,t1,lv,Zd _ (by omega),o1.mono λc rs=>kr _ c 1 rs,o2.mono λc rs=>kr _ c 1 rs,.inr (.inr ⟨_,rfl,a4 _,np⟩),o4.mono λc rs=>kr _ c 1 rs,o5.mono λc rs=>kr _ c 1 rs,o6.mono λc rs=>kr _ c 1 rs,ol.mono (kr _)⟩
   |exact⟨h0,g0,t0,h1,g1,_,lv,Zd _ (by omega),o1.mono λc rs=>kr _ c 1 rs,o2.mono λc rs=>kr _ c 1 rs,o3.mono λc rs=>kr _ c 1 rs,o4.mono λc rs=>kr _ c 1 rs,o5.mono λc rs=>kr _ c 1 rs,.inr (.inr ⟨_,rfl,a4 _,np⟩),ol.mono (kr _)⟩
theorem w417{p:Nat→Prop}{σ:List ab}{rb:Nat}{b:Bk}{s:St}{sd tg fu e:Int}{l:List Ev}(h:pr p σ rb b s sd tg fu e l)(h01:sd=0∨sd=1)(who:Int){K:KT}(hK:K (iv (bG sd who)) σ):g145.u VV [.ak rb 0,aN who] σ K:=by
 obtain⟨h0,g0,t0,h1,g1,t1,lv,hr,_⟩:=h;have ew:bG sd who=if (who==1)=true then 1-sd else sd:=by unfold bG;simp
 rw[ew]at hK;rw[H2.e];unfold g145;dsimp only;rcases cA (who==1)with h|h<;>rcases h01 with rfl|rfl
 all_goals
  rw[h]at hK;refine av ?_;rw[h];exact av hK
end Go.Ah.Tz
end
section
namespace Go.Ah.Tz
open Go.Proofs.Tryz (prog)
set_option maxRecDepth 100000
theorem Gh{σ:List ab}{rb:Nat}{row:List aa}(hr:aj σ rb=.box row)(x:ab):∀c n rs,aj σ c=.rows n rs→aj (σ.set rb x) c=.rows n rs:=λc n rs e=>(du.set σ rb x).get e (by simp) (by simp;rintro rfl;rw[hr]at e;cases e)
theorem Rt{p:Nat→Prop}{τ:List ab}{rb:Nat}{b:Bk}{s:St}{sd tg fu er:Int}{l:List Ev}{h0 g0 t0 h1 g1 t1 lv:aa}(hr:aj τ rb=.box (va b s h0 g0 t0 h1 g1 t1 sd tg lv fu er))
 (o1:OW (¬p ·) τ h0 s.s0.hand)(o2:OW (¬p ·) τ g0 s.s0.al)(o3:OW (¬p ·) τ t0 s.s0.told)(o4:OW (¬p ·) τ h1 s.s1.hand)(o5:OW (¬p ·) τ g1 s.s1.al)(o6:OW (¬p ·) τ t1 s.s1.told)(ol:LO p l lv τ)
 {y:aa}{ys:List (List aa)}{rd:List Nat}{m:List Ev}(hy:Xk 7 τ y=some (ys,rd))(hm:ER p τ ys m)(hlen:l.length+m.length<=200000000) :
  ∃nv up τ',Qf 7 72 [lv,y] τ=.ok nv rd up∧gp τ up=some τ'∧cellsOf nv=some [nv]∧aj τ' rb=.box (va b s h0 g0 t0 h1 g1 t1 sd tg lv fu er)∧(∀k row,aj τ k=.box row→k∉up.map (·.1)) ∧
   pr p (τ'.set rb (.box (va b s h0 g0 t0 h1 g1 t1 sd tg nv fu er))) rb b s sd tg fu er (l++m)∧Kq [rb] 7 τ (τ'.set rb (.box (va b s h0 g0 t0 h1 g1 t1 sd tg nv fu er))):=by
 obtain⟨nv,up,τ',q1,q2,q3,q4,q5⟩:=Zd4 ol hy hm hlen;have r2:=q4.box hr (by simp);have kk:∀c rs,aj τ c=.rows 1 rs→aj (τ'.set rb (.box (va b s h0 g0 t0 h1 g1 t1 sd tg nv fu er))) c=.rows 1 rs:=λc rs e=>Gh r2 _ c 1 rs (q4.rows e (by simp) (by decide));exact⟨nv,up,τ',q1,q2,q3.cells,r2,q5,⟨h0,g0,t0,h1,g1,t1,nv,Zd _ (Yb r2),o1.mono kk,o2.mono kk,o3.mono kk,o4.mono kk,o5.mono kk,o6.mono kk,q3.mono (Gh r2 _)⟩,(q4.more (by simp)).trans (Kq.set 7 τ' _ (by simp))⟩
attribute [local irreducible] aF.rd aF.pu aF.wr aF.dr aF.gr aF.gw aF.gl aF.gd aF.opt cI W
set_option maxHeartbeats 8000000
theorem HV{p:Nat→Prop}{σ:List ab}{rb:Nat}{b:Bk}{s:St}{sd tg fu er:Int}{l:List Ev}{h0 g0 t0 h1 g1 t1 lv:aa}(hr:aj σ rb=.box (va b s h0 g0 t0 h1 g1 t1 sd tg lv fu er))
 (o1:OW (¬p ·) σ h0 s.s0.hand)(o2:OW (¬p ·) σ g0 s.s0.al)(o3:OW (¬p ·) σ t0 s.s0.told)(o4:OW (¬p ·) σ h1 s.s1.hand)(o5:OW (¬p ·) σ g1 s.s1.al)(o6:OW (¬p ·) σ t1 s.s1.told)(ol:LO p l lv σ)(e:Ev){cv:aa}(hc:OW p σ cv e.ai)(hlen:l.length<200000000)
 {K:List ab→Prop}(hK:∀σ',pr p σ' rb b s sd tg fu er (l++[e])→Kq [rb] 7 σ σ'→K σ') :
  VV.wr (Yp 7 1 bX [(0,7)] [.agg (cV e cv)] σ) σ λy σ=>VV.wr (Qf 7 72 [lv,y] σ) σ λnv σ=>VV.rd (Xl [.ak rb 0] σ) λt=>VV.rd (Xb 27 [t] σ) λu=>VV.wr (Yj 1 [u,nv] σ) σ λ_ σ=>K σ:=by
 have e1:Yp 7 1 bX [(0,7)] [.agg (cV e cv)] σ=.ok (.sl σ.length 0 1 true) [] [(σ.length,.rows 7 [cV e cv])]:=by rcases hc with rfl|⟨rfl,_⟩|⟨c,rfl,_⟩<;>rfl
 refine Yd e1 (Xe σ _) ?_;have A:=λq v n h=>OW.app (q:=q) (σ:=σ) (v:=v) (l:=n) h [.rows 7 [cV e cv]];have r1:=Qb [ab.rows 7 [cV e cv]] hr;obtain⟨nv,up,τ',q1,q2,qc,r2,_,q4,q5⟩:=Rt r1 (A _ _ _ o1) (A _ _ _ o2) (A _ _ _ o3) (A _ _ _ o4) (A _ _ _ o5) (A _ _ _ o6) (ol.mono λc n rs e=>QC _ e) (Y0 (ex2:=true) (Yc σ (.rows 7 [cV e cv])) rfl) (m:=[e]) ⟨rfl,λi row x q1 q2=>by
  cases i with
  |zero=>simp at q1 q2;subst q1 q2;exact⟨cv,rfl,A _ _ _ hc⟩
  | succ i=>simp at q1⟩ (by simp;omega)
 refine Yd q1 q2 (Za rfl (Za rfl (Yd (cX r2 qc rfl rfl) (Ze _ (Yb r2)) ?_)));exact hK _ q4 ((Kq.app [rb] 7 σ _).trans q5)
theorem OW.cons{q:Nat→Prop}{σ:List ab}{v:aa}{c:Int}{m:List Int}(h:OW q σ v (c::m)):∃p xo rW u B5 O8,Qh 1 [v,iv 0] σ=.ok p xo []∧Qe false 1 [p] σ=.ok (iv c) rW []∧Xy 1 [v,iv 1] σ=.ok u B5 []∧Xk 1 σ u=some (m.map aR,O8):=by
 rcases h with rfl|⟨rfl,h⟩|⟨k,rfl,hk,_⟩
 ·have e:Xy 1 [aP (c::m),iv 1] σ=.ok (.aU false false 1 (cut 1 (m.map aR).length.succ (aR c::m.map aR))) [] []:=by
   show (bif IN 1 1&&zAP 1 ((m.map aR).length+1)then aA.ok (.aU false false 1 (cut 1 ((m.map aR).length+1) (aR c::m.map aR))) [] []else .stop)=_;rw[show zAP 1 ((m.map aR).length+1)=true from sh (by omega)];rfl
  refine⟨_,[],[],_,[],[],rfl,rfl,e,?_⟩;have:List.take m.length (zDv aR m)=zDv aR m:=zAs (by simp);simpa[Xk,cut]using this
 ·cases h
 ·have e0:Qh 1 [.sl k 0 (c::m).length false,iv 0] σ=.ok (.ptr k 0 0) [k] []:=sE σ k 0 _ false 1 _ .i64 0 (by simp) hk;have e1:Qe false 1 [.ptr k 0 0] σ=.ok (iv c) [k] []:=by simp only[Qe,hk];rfl
  cases m with
  |nil=>exact⟨_,_,_,.aU false true 1 [],[],[],e0,e1,(by simp only[Xy,hk];rfl),rfl⟩
  |cons d m=>
   refine⟨_,_,_,.sl k 1 (d::m).length false,[k],[k],e0,e1,(by simp[Xy,hk,Nat.blt,sh (show 2<=m.length+1+1 by omega)]),?_⟩;simp[Xk,hk,cut,show 1+(m.length+1)=m.length+1+1 by omega,sh (IT _),zAs]
theorem Vs(σ:List ab)(x y z:ab):du σ (((σ++[x])++[y]).set σ.length .dead++[z]) []∧aj (((σ++[x])++[y]).set σ.length .dead++[z]) ((σ++[x])++[y]).length=z:=by
 refine⟨⟨by simp,λc hc _=>?_⟩,?_⟩
 ·rw[Yf _ (by simp;omega),Xc _ (by simp;omega) (by omega),Yf _ (by simp;omega),Yf _ hc]
 ·have:=Yc (((σ++[x])++[y]).set σ.length .dead) z;rw[List.length_set]at this;exact this
theorem On{σ:List ab}{rb j n:Nat}{x:aa}{cs row row':List aa}{K:aa→List Nat×List Nat→List ab→Prop}(hb:aj σ rb=.box row)(hc:cellsOf x=some cs)(hn:IN cs.length n=true)(hs:cc j cs row=some row')
 (hK:∀τ,aj τ rb=.box row'→Kq [rb] 7 σ τ→(∀c n rs,aj σ c=.rows n rs→aj τ c=.rows n rs)→K .aQ ([],[rb]) τ):VV.dr (Yj n [.ak rb j,x] σ) σ K:=
 Xf (cX hb hc hn hs) (Ze _ (Yb hb)) (hK _ (Zd _ (Yb hb)) (Kq.set 7 σ _ (by simp)) (Gh hb _))
theorem XH{σ:List ab}{rb j n:Nat}{x:aa}{cs row row':List aa}{K:KT}(hb:aj σ rb=.box row)(hc:cellsOf x=some cs)(hn:IN cs.length n=true)(hs:cc j cs row=some row')
 (hK:∀τ,aj τ rb=.box row'→Kq [rb] 7 σ τ→(∀c n rs,aj σ c=.rows n rs→aj τ c=.rows n rs)→K .aQ τ):VV.wr (Yj n [.ak rb j,x] σ) σ K:=
 Yd (cX hb hc hn hs) (Ze _ (Yb hb)) (hK _ (Zd _ (Yb hb)) (Kq.set 7 σ _ (by simp)) (Gh hb _))
def tF(σ σ':List ab)(rb:Nat)(b:Bk)(sd tg fu:Int)(l:List Ev)(r:Int×St×List Ev):Prop:=RR σ' rb b r.2.1 sd tg fu r.1 (l++r.2.2)∧Kq [rb] 7 σ σ'
theorem pr.app{p:Nat→Prop}{σ:List ab}{rb:Nat}{b:Bk}{s:St}{sd tg fu e:Int}{l:List Ev}(h:pr p σ rb b s sd tg fu e l)(x:ab):pr p (σ++[x]) rb b s sd tg fu e l:=by
 obtain⟨h0,g0,t0,h1,g1,t1,lv,hr,o1,o2,o3,o4,o5,o6,ol⟩:=h;exact⟨h0,g0,t0,h1,g1,t1,lv,Qb [x] hr,o1.app _,o2.app _,o3.app _,o4.app _,o5.app _,o6.app _,ol.mono λc n rs e=>QC _ e⟩
theorem pr.more{p:Nat→Prop}{σ:List ab}{rb:Nat}{b:Bk}{s:St}{sd tg fu e:Int}{l:List Ev}(h:pr p σ rb b s sd tg fu e l)(x:ab):pr (λc=>p c∨c=σ.length) (σ++[x]) rb b s sd tg fu e l:=by
 obtain⟨h0,g0,t0,h1,g1,t1,lv,hr,o1,o2,o3,o4,o5,o6,ol⟩:=h;have w:=λv m (o:OW (¬p ·) σ v m)=>(o.wk (q':=λc=>¬(p c∨c=σ.length)) λc h1 h2=>by simp[h1];omega).app [x];refine⟨h0,g0,t0,h1,g1,t1,lv,Qb [x] hr,w _ _ o1,w _ _ o2,w _ _ o3,w _ _ o4,w _ _ o5,w _ _ o6,?_⟩;rcases ol with ol|⟨c,rows,q1,q2,q3,q4⟩
 ·exact .inl ol
 ·exact .inr ⟨c,rows,q1,QC _ q2,q3,λi row e a1 a2=>by obtain⟨cv,a3,a4⟩:=q4 i row e a1 a2;exact⟨cv,a3,(a4.wk λc h1 _=>.inl h1).app [x]⟩⟩
theorem pr.err{p:Nat→Prop}{σ:List ab}{rb:Nat}{b:Bk}{s:St}{sd tg fu e:Int}{l:List Ev}{h0 g0 t0 h1 g1 t1 lv:aa}(hr:aj σ rb=.box (va b s h0 g0 t0 h1 g1 t1 sd tg lv fu e))(h:pr p σ rb b s sd tg fu e l)(e':Int):pr p (σ.set rb (.box (va b s h0 g0 t0 h1 g1 t1 sd tg lv fu e'))) rb b s sd tg fu e' l:=by
 obtain⟨GX,OC,O_,uG,OD,O',cB,jS,o1,o2,o3,o4,o5,o6,ol⟩:=h;rw[hr]at jS;cases jS;have kk:=λc rs=>Gh hr (.box (va b s h0 g0 t0 h1 g1 t1 sd tg lv fu e')) c 1 rs;exact⟨h0,g0,t0,h1,g1,t1,lv,Zd _ (Yb hr),o1.mono kk,o2.mono kk,o3.mono kk,o4.mono kk,o5.mono kk,o6.mono kk,ol.mono (Gh hr _)⟩
theorem Kq.nH{rb:Nat}{σ τ:List ab}(h:du σ τ [rb]):Kq [rb] 7 σ τ:=⟨h.1,λk hk hn _=>h.2 k hk hn⟩
section
variable {σ:List ab} {rb:Nat} {b:Bk} {s:St} {sd tg fu:Int} {l:List Ev} (h:RR σ rb b s sd tg fu 0 l) (hn:l.length<100000000) (h01:sd=0∨sd=1)
include h hn h01
theorem Xes(x:Ef)(n:Int)(hY:x.op=3)(hb:-1000000<=n∧n<=1000000)(hm:0<=(s.side sd).aT∧(s.side sd).aT<=1000000){K:KT}(hK:∀σ',tF σ σ' rb b sd tg fu l (eh s sd n)→K (.bp []) σ'):g97.u VV [.ak rb 0,.agg (bj x),iv n] σ K:=by
 obtain⟨op,who,nn,name,c,bP,bS⟩:=x;obtain⟨p,hp,h⟩:=h;cases (show op=3 from hY);have h:=h.app (.box (bj (.mk 3 who nn name c bP bS)));have n1:=Yc σ (.box (bj (.mk 3 who nn name c bP bS)));have k1:=Kq.app [rb] 7 σ [.box (bj (.mk 3 who nn name c bP bS))];rw[H3.e];unfold g97;dsimp only;refine Yd (XM _ _) (Xe σ _) ?_;rw[Zr]at *;dsimp only[Ef.op,Ef.who,Ef.name]at *;generalize σ++[_]=τ at *
 replace hp:∀c,p c→c<τ.length:=λc e=>zAJ (hp c e) k1.1
 have h':=h;obtain⟨h0,g0,t0,h1,g1,t1,lv,hr,o1,o2,o3,o4,o5,o6,ol⟩:=h';refine av (Qd hP (f:=145) rfl g145.ok rfl (w417 h h01 who ?_));refine av ?_;unfold eh at hK;rcases h01 with rfl|rfl
 rotate_left;have hm:0<=s.s1.aT∧s.s1.aT<=1000000:=hm;rotate_left;have hm:0<=s.s0.aT∧s.s0.aT<=1000000:=hm
 all_goals
  refine Ya (λq=>?_) (λq=>?_)
  ·rw[aJ (by simpa using q)]at hK;exact hK _ ⟨⟨p,hp,by simpa using h⟩,k1⟩
  rw[aE (by simpa using q)]at hK;refine av ?_;rw[zAZ _ (by omega)];refine Ya (λq2=>?_) (λq2=>?_)
  ·first
    |rw[aJ (show 1000000<(s.side 0).aT+n from of_decide_eq_true q2)]at hK
    |rw[aJ (show 1000000<(s.side 1).aT+n from of_decide_eq_true q2)]at hK
   exact av (Yd (cX hr rfl rfl rfl) (Ze _ (Yb hr)) (hK _ ⟨⟨p,by simpa using hp,by simpa using pr.err hr h 171⟩,k1.trans (Kq.set 7 _ _ (by simp))⟩))
  ·first
    |rw[aE (show ¬1000000<(s.side 0).aT+n from of_decide_eq_false q2)]at hK
    |rw[aE (show ¬1000000<(s.side 1).aT+n from of_decide_eq_false q2)]at hK
   refine av ?_;rw[zAZ _ (by omega)];refine av (On hr rfl rfl rfl λτ2 r2 k2 kk=>?_);refine av ?_;have p1:=o1.mono λc=>kk c 1;have p2:=o2.mono λc=>kk c 1;have p3:=o3.mono λc=>kk c 1;have p4:=o4.mono λc=>kk c 1;have p5:=o5.mono λc=>kk c 1;have p6:=o6.mono λc=>kk c 1
   first
    |refine HV (s:=s.put 0 { s.side 0 with aT:=s.s0.aT+n }) r2 p1 p2 p3 p4 p5 p6 (ol.mono kk) ⟨7,0,0,0,0,n,[]⟩ (.inr (.inl ⟨rfl,rfl⟩)) (by omega) λσ' q1 q2=>?_
    |refine HV (s:=s.put 1 { s.side 1 with aT:=s.s1.aT+n }) r2 p1 p2 p3 p4 p5 p6 (ol.mono kk) ⟨7,1,0,0,0,n,[]⟩ (.inr (.inl ⟨rfl,rfl⟩)) (by omega) λσ' q1 q2=>?_
   exact hK _ ⟨⟨p,λc e=>zAJ (hp c e) (k2.trans q2).1,q1⟩,(k1.trans k2).trans q2⟩
theorem Xeu(x:Ef)(n:Int)(hY:x.op=5)(hT:TB 100000000 s)(hd:(s.side sd).az.length<=100000000){K:KT}(hK:∀σ',tF σ σ' rb b sd tg fu l (gy s sd n)→K (.bp []) σ'):g97.u VV [.ak rb 0,.agg (bj x),iv n] σ K:=by
 obtain⟨op,who,nn,name,c,bP,bS⟩:=x;obtain⟨p,hp,h⟩:=h;cases (show op=5 from hY);have h:=h.app (.box (bj (.mk 5 who nn name c bP bS)));have n1:=Yc σ (.box (bj (.mk 5 who nn name c bP bS)));have k1:=Kq.app [rb] 7 σ [.box (bj (.mk 5 who nn name c bP bS))];rw[H3.e];unfold g97;dsimp only;refine Yd (XM _ _) (Xe σ _) ?_;rw[Zr]at *;dsimp only[Ef.op,Ef.who,Ef.name]at *;generalize σ++[_]=τ at *
 replace hp:∀c,p c→c<τ.length:=λc e=>zAJ (hp c e) k1.1
 have h':=h;obtain⟨h0,g0,t0,h1,g1,t1,lv,hr,o1,o2,o3,o4,o5,o6,ol⟩:=h';refine av (Qd hP (f:=145) rfl g145.ok rfl (w417 h h01 who ?_));refine av ?_;unfold gy at hK;have hT1:(s.side sd).told.length<=100000000:=by rcases h01 with rfl|rfl;exact hT.1;exact hT.2
 obtain⟨k,hk,sr⟩:∃k:Nat,min (max n 0) ((s.side sd).az.length:Int)=(k:Int)∧k<=(s.side sd).az.length:=⟨(min (max n 0) ((s.side sd).az.length:Int)).toNat,by omega,by omega⟩;rcases h01 with rfl|rfl
 rotate_left;have E:s.side 1=s.s1:=rfl;rotate_left;have E:s.side 0=s.s0:=rfl
 all_goals
  simp only[E]at hK hk sr hT1 hd;refine av ?_;rw[zAH,hk];rw[hk]at hK;simp only[Int.toNat_natCast]at hK;cases k with
  |zero=>refine av ?_;exact hK _ ⟨⟨p,hp,by simpa using h⟩,k1⟩
  |succ k=>
   refine av (Za (PT _ _ sr _) ?_);generalize hm:List.take (k+1) _=m;rw[hm]at hK;have dU:m.length=k+1:=by rw[←hm,zAq];omega
   cases m with
   |nil=>cases dU
   |cons y ys=>
   replace hK:∀σ',tF σ σ' rb b _ tg fu l (0,dh s (y::ys) [_],[⟨9,_,0,0,0,0,y::ys⟩])→K (.bp []) σ':=hK
   generalize y::ys=m at *;refine Yd (H9 Gl (by omega)) (Xe τ _) ?_;have nm:=Yc τ (.rows 1 (m.map aR));have s_:=Yb hr;have h2:=h.more (.rows 1 (m.map aR));have k2:=Kq.app [rb] 7 τ [.rows 1 (m.map aR)];have vp:∀c,(p c∨c=τ.length)→c<(τ++[ab.rows 1 (m.map aR)]).length:=λc e=>by rcases e with e|rfl;have:=hp c e;simp;omega;simp
   generalize τ++[_]=υ at *;refine Qd hP (f:=148) rfl g148.ok rfl (w420 vp h2 (by simp) (y:=.sl τ.length 0 m.length false) (m:=m) (λx=>⟨_,Y0 (Qb [x] nm) (by simp)⟩) (by rw[E];omega) λσ3 h3 a3=>?_);have Hj:=a3.get nm (by simp) (by simp;omega);obtain⟨h0,g0,t0,h1,g1,t1,lv,hr,o1,o2,o3,o4,o5,o6,ol⟩:=h3;refine av (HV hr o1 o2 o3 o4 o5 o6 ol ⟨9,_,0,0,0,0,m⟩ (.inr (.inr ⟨_,rfl,Hj,.inr rfl⟩)) (by omega) λσ' q1 q2=>?_);exact hK _ ⟨⟨_,λc e=>zAJ (vp c e) ((Kq.nH a3).trans q2).1,q1⟩,(k1.trans k2).trans ((Kq.nH a3).trans q2)⟩
theorem Yey(x:Ef)(n:Int)(hY:x.op=6)(hT:TB 100000000 s)(zE:s.s0.hand.length<=100000000)(BB:s.s1.hand.length<=100000000){K:KT}(hK:∀σ',tF σ σ' rb b sd tg fu l (mn s (bG sd x.who))→K (.bp []) σ'):g97.u VV [.ak rb 0,.agg (bj x),iv n] σ K:=by
 obtain⟨op,who,nn,name,c,bP,bS⟩:=x;obtain⟨p,hp,h⟩:=h;cases (show op=6 from hY);have h:=h.app (.box (bj (.mk 6 who nn name c bP bS)));have n1:=Yc σ (.box (bj (.mk 6 who nn name c bP bS)));have k1:=Kq.app [rb] 7 σ [.box (bj (.mk 6 who nn name c bP bS))];rw[H3.e];unfold g97;dsimp only;refine Yd (XM _ _) (Xe σ _) ?_;rw[Zr]at *;dsimp only[Ef.op,Ef.who,Ef.name]at *;generalize σ++[_]=τ at *
 replace hp:∀c,p c→c<τ.length:=λc e=>zAJ (hp c e) k1.1
 have h':=h;obtain⟨h0,g0,t0,h1,g1,t1,lv,hr,o1,o2,o3,o4,o5,o6,ol⟩:=h';refine av (Qd hP (f:=145) rfl g145.ok rfl (w417 h h01 who ?_));have hi:bG sd who=0∨bG sd who=1:=by unfold bG;split<;>omega
 generalize bG sd who=i at *;refine av ?_;unfold mn at hK;rcases hi with rfl|rfl
 rotate_left;have E:s.side 1=s.s1:=rfl;have oh:=o4;have dU:=BB;rotate_left;have E:s.side 0=s.s0:=rfl;have oh:=o1;have dU:=zE
 all_goals
  simp only[E]at hK;clear o1 o2 o3 o4 o5 o6 ol zE BB;refine av ?_;obtain⟨rd,er⟩:=oh.src;have t0l:=hT.1;have t1l:=hT.2;generalize Sd.hand _=m at er dU hK;have s_:=Yb hr;refine Yd (H9 er (by omega)) (Xe τ _) ?_;have nm:=Yc τ (.rows 1 (m.map aR));have h2:=h.more (.rows 1 (m.map aR));have k2:=Kq.app [rb] 7 τ [.rows 1 (m.map aR)];clear hr oh er;have vp:∀c,(p c∨c=τ.length)→c<(τ++[ab.rows 1 (m.map aR)]).length:=λc e=>by rcases e with e|rfl;have:=hp c e;simp;omega;simp
  generalize τ++[_]=υ at *;refine Qd hP (f:=148) rfl g148.ok rfl (w420 vp h2 (.inl rfl) (y:=.sl τ.length 0 m.length false) (m:=m) (λx=>⟨_,Y0 (Qb [x] nm) (by simp)⟩) (show s.s0.told.length+m.length<=1000000000 by omega) λσ3 h3 a3=>?_);have Hj:=a3.get nm (by simp) (by simp;omega);refine Qd hP (f:=148) rfl g148.ok rfl (w420 (λc e=>zAJ (vp c e) a3.1) h3 (.inr rfl) (y:=.sl τ.length 0 m.length false) (m:=m) (λx=>⟨_,Y0 (Qb [x] Hj) (by simp)⟩) (show s.s1.told.length+m.length<=1000000000 by omega) λσ4 h4 a4=>?_);have nm4:=a4.get Hj (by simp) (by simp;omega);obtain⟨h0,g0,t0,h1,g1,t1,lv,hr,o1,o2,o3,o4,o5,o6,ol⟩:=h4;refine av (HV hr o1 o2 o3 o4 o5 o6 ol ⟨10,_,0,0,0,0,m⟩ (.inr (.inr ⟨_,rfl,nm4,.inr rfl⟩)) (by omega) λσ' q1 q2=>?_);exact hK _ ⟨⟨_,λc e=>zAJ (vp c e) ((Kq.nH a3).trans ((Kq.nH a4).trans q2)).1,q1⟩,(k1.trans k2).trans ((Kq.nH a3).trans ((Kq.nH a4).trans q2))⟩
theorem Zeo(x:Ef)(n:Int)(hY:x.op=4)(hT:TB 100000000 s)(zE:s.s0.hand.length<=100000000∧s.s0.al.length<=100000000)(BB:s.s1.hand.length<=100000000∧s.s1.al.length<=100000000){K:KT}(hK:∀σ',tF σ σ' rb b sd tg fu l (cU s (bG sd x.who))→K (.bp []) σ'):g97.u VV [.ak rb 0,.agg (bj x),iv n] σ K:=by
 obtain⟨op,who,nn,name,c,bP,bS⟩:=x;obtain⟨p,hp,h⟩:=h;cases (show op=4 from hY);have h:=h.app (.box (bj (.mk 4 who nn name c bP bS)));have n1:=Yc σ (.box (bj (.mk 4 who nn name c bP bS)));have k1:=Kq.app [rb] 7 σ [.box (bj (.mk 4 who nn name c bP bS))];rw[H3.e];unfold g97;dsimp only;refine Yd (XM _ _) (Xe σ _) ?_;rw[Zr]at *;dsimp only[Ef.op,Ef.who,Ef.name]at *;generalize σ++[_]=τ at *
 replace hp:∀c,p c→c<τ.length:=λc e=>zAJ (hp c e) k1.1
 have h':=h;obtain⟨h0,g0,t0,h1,g1,t1,lv,hr,o1,o2,o3,o4,o5,o6,ol⟩:=h';refine av (Qd hP (f:=145) rfl g145.ok rfl (w417 h h01 who ?_));have hi:bG sd who=0∨bG sd who=1:=by unfold bG;split<;>omega
 generalize bG sd who=i at *;refine av ?_;unfold cU at hK;have t0l:=hT.1;have t1l:=hT.2;rcases hi with rfl|rfl
 rotate_left;have E:s.side 1=s.s1:=rfl;have oh:=o4;have og:=o5;have dU:=BB;rotate_left;have E:s.side 0=s.s0:=rfl;have oh:=o1;have og:=o2;have dU:=zE
 all_goals
  simp only[E]at hK;refine av (Za oh.len ?_);generalize hh:Sd.hand _=m at oh dU hK;cases m with
  |nil=>refine av ?_;exact hK _ ⟨⟨p,hp,by simpa using h⟩,k1⟩
  |cons c m=>
   obtain⟨pt,xo,rW,u,B5,O8,e1,e2,e3,e4⟩:=oh.cons;refine av (Za e1 (Za e2 (Xf e3 (Zg _) ?_)));have lm:m.length<=100000000:=by have:=dU.1;simp at this;omega
   refine Xf (H9 e4 (by omega)) (Xe τ _) ?_;have nm:=Yc τ (.rows 1 (m.map aR));have s_:=Yb hr;have h2:=h.app (.rows 1 (m.map aR));have k2:=Kq.app [rb] 7 τ [.rows 1 (m.map aR)];have r2:=Qb [ab.rows 1 (m.map aR)] hr;have og2:=og.app [ab.rows 1 (m.map aR)];have p1:=o1.app [ab.rows 1 (m.map aR)];have p2:=o2.app [ab.rows 1 (m.map aR)];have p3:=o3.app [ab.rows 1 (m.map aR)];have p4:=o4.app [ab.rows 1 (m.map aR)];have p5:=o5.app [ab.rows 1 (m.map aR)];have p6:=o6.app [ab.rows 1 (m.map aR)];have pl:=ol.mono (τ:=τ++[ab.rows 1 (m.map aR)]) λc n rs e=>QC _ e;clear e1 e2 e3 e4 oh og o1 o2 o3 o4 o5 o6 ol hr h;generalize aaL:τ++[_]=τ2 at *;refine av (On r2 rfl rfl rfl λτ3 r3 k3 kk=>?_);refine Zw (by simp[Zj,Xn,Zn,Qv,cf,dZ,zAC,zAc,jN]) ?_;have og3:=og2.mono λc=>kk c 1;have Hj:=kk _ _ _ nm
   replace p1:=p1.mono λc=>kk c 1
   replace p2:=p2.mono λc=>kk c 1
   replace p3:=p3.mono λc=>kk c 1
   replace p4:=p4.mono λc=>kk c 1
   replace p5:=p5.mono λc=>kk c 1
   replace p6:=p6.mono λc=>kk c 1
   replace pl:=pl.mono kk
   refine av ?_;obtain⟨rdg,eg⟩:=og3.src;refine Yd (H9 eg (by omega)) (Xe τ3 _) ?_;generalize hg:Sd.al _=g at eg dU hK;refine Xf (v:=.sl (τ3++[ab.rows 1 (g.map aR)]).length 0 1 true) (rd:=[]) (up:=[((τ3++[ab.rows 1 (g.map aR)]).length,.rows 1 [[iv c]])]) rfl (Xe _ _) (Iy (l:=g) (x:=c) (Qb [_] (Yc τ3 _)) (Yc _ _) rfl (by omega) ?_);obtain⟨a4,a5⟩:=Vs τ3 (.rows 1 (g.map aR)) (.rows 1 [[iv c]]) (.rows 1 ((g++[c]).map aR));generalize ((τ3++[ab.rows 1 (g.map aR)])++[_]).set τ3.length .dead++[_]=τ4 at a4 a5 ⊢;have r4:=a4.get r3;refine av (On r4 rfl rfl rfl λτ5 r5 k5 qH=>?_);refine Zw (by simp[Zj,Xn,Zn,Qv,cf,dZ,zAC,zAc,jN]) ?_;have nm5:=qH _ _ _ (a4.get Hj);have ng5:=qH _ _ _ a5;have kr:=λq rs (e:aj τ3 q=.rows 1 rs)=>qH _ _ _ (a4.get e);have kl:=λq n rs (e:aj τ3 q=.rows n rs)=>qH _ _ _ (a4.get e)
   replace p1:=p1.mono kr
   replace p2:=p2.mono kr
   replace p3:=p3.mono kr
   replace p4:=p4.mono kr
   replace p5:=p5.mono kr
   replace p6:=p6.mono kr
   replace pl:=pl.mono kl
   dsimp only[dh,List.foldl]at hK;generalize hS:St.put s _ _=S at hK;have ht0:S.s0.told=s.s0.told:=by rw[←hS];rfl
   have ht1:S.s1.told=s.s1.told:=by rw[←hS];rfl
   have npm:¬p τ.length:=λe=>by have:=hp _ e;omega
   have npg:¬p (τ3++[ab.rows 1 (g.map aR)]++[ab.rows 1 [[iv c]]]).length:=λe=>by
    have:=hp _ e;have:=(k2.trans k3).1;simp at *;omega
   have UJ:∀c,p c→c<τ5.length:=λc e=>zAJ (hp c e) ((k2.trans k3).trans ((Kq.h_ a4 [rb] 7).trans k5)).1;have h5:pr p τ5 rb b S sd tg fu 0 l:=by
    rw[←hS]
    first
     |exact⟨_,_,_,_,_,_,_,r5,.inr (.inr ⟨_,rfl,nm5,npm⟩),.inr (.inr ⟨_,rfl,ng5,npg⟩),p3,p4,p5,p6,pl⟩
     |exact⟨_,_,_,_,_,_,_,r5,p1,p2,p3,.inr (.inr ⟨_,rfl,nm5,npm⟩),.inr (.inr ⟨_,rfl,ng5,npg⟩),p6,pl⟩
   refine Yd (v:=.sl τ5.length 0 1 true) (rd:=[]) (up:=[(τ5.length,.rows 1 [[iv c]])]) rfl (Xe τ5 _) (Qd hP (f:=148) rfl g148.ok rfl (w420 (λc e=>by have:=UJ c e;simp;omega) (h5.app _) (.inl rfl) (y:=.sl τ5.length 0 1 true) (m:=[c]) (λx=>⟨_,Y0 (Qb [x] (Yc τ5 _)) rfl⟩) (show S.s0.told.length+1<=1000000000 by rw[ht0];omega) λσ7 h7 a7=>?_));refine Yd (v:=.sl σ7.length 0 1 true) (rd:=[]) (up:=[(σ7.length,.rows 1 [[iv c]])]) rfl (Xe σ7 _) (Qd hP (f:=148) rfl g148.ok rfl (w420 (λc e=>by have:=UJ c e;have:=a7.1;simp at *;omega) (h7.app _) (.inr rfl) (y:=.sl σ7.length 0 1 true) (m:=[c]) (λx=>⟨_,Y0 (Qb [x] (Yc σ7 _)) rfl⟩) (show S.s1.told.length+1<=1000000000 by rw[ht1];omega) λσ8 h8 a8=>?_));obtain⟨h0,g0,t0,h1,g1,t1,lv,hr,o1,o2,o3,o4,o5,o6,ol⟩:=h8;refine av (HV hr o1 o2 o3 o4 o5 o6 ol ⟨8,_,c,0,0,0,[]⟩ (.inr (.inl ⟨rfl,rfl⟩)) (by omega) λσ' q1 q2=>?_);have kz:=(((Kq.app [rb] 7 τ5 _).trans (Kq.nH a7)).trans (((Kq.app [rb] 7 σ7 _).trans (Kq.nH a8)).trans q2));exact hK _ ⟨⟨p,λc e=>zAJ (UJ c e) kz.1,q1⟩,(k1.trans (k2.trans k3)).trans (((Kq.h_ a4 [rb] 7).trans k5).trans (((Kq.app [rb] 7 τ5 _).trans (Kq.nH a7)).trans (((Kq.app [rb] 7 σ7 _).trans (Kq.nH a8)).trans q2)))⟩
end
end Go.Ah.Tz
end
section
namespace Go.Ah
section
variable {P:Program} {GL:ar}
def kX(h:Hp)(rd:List Nat):Hp:=λb=>if b∈rd then h b else (h b).map λ_=>.dead
theorem Q3{h:Hp}{rd:List Nat}{b:Nat}{blk:ab}(e:kX h rd b=some blk)(hl:blk.live=true):b∈rd∧h b=some blk:=by
 unfold kX at e;by_cases hb:b∈rd
 ·rw[aJ hb]at e;exact⟨hb,e⟩
 ·rw[aE hb]at e;obtain⟨x,_,rfl⟩:=zBg.1 e;simp[ab.live]at hl
theorem bx.only{w0:World}{L:Ln}{g:Gm}{h:Hp}{w:World}(r:bx GL w0 L g h w)(rd:List Nat):bx GL w0 L g (kX h rd) w where
 keeps:=r.keeps
 aX:=r.aX
 src:=r.src
 cr:=r.cr
 d_:=λb e=>r.d_ b (by
  unfold kX at e;split at e
  ·exact e
  ·simpa using e)
 jn:=λb blk e=>by
  unfold kX at e;split at e
  ·exact r.jn b blk e
  ·obtain⟨x,hx,_⟩:=zBg.1 e;exact r.jn b x hx
 own:=λb blk cb e hl=>r.own b blk cb (Q3 e hl).2 hl
 bc:=λb blk cb e hl=>r.bc b blk cb (Q3 e hl).2 hl
 inj:=λb b' blk blk' cb eN e e' hl lX=>r.inj b b' blk blk' cb eN (Q3 e hl).2 (Q3 e' lX).2 hl lX
def jK(rd:List Nat):List (Nat×ab):=rd.map λb=>(b,.dead)
theorem bx.JG{w0:World}{L:Ln}{w:World}(c:Own):∀(rd:List Nat) {M0:Nat→Option Obj} {h:Hp},bx GL w0 L ⟨M0,c⟩ h w→(∀b∈rd,∃blk,h b=some blk) →
  ∃M,i9 M0 M∧bx GL w0 L ⟨M,c⟩ (cw h (jK rd)) w∧∀b∈rd,∀blk cb o,h b=some blk→blk.live=true→c b=some cb→cb.cK=false→w.heap[cb.blk]?=some o→M cb.blk=some o
 |[],M0,h,r,_=>⟨M0,i9.refl _,r,λb hb=>absurd hb (by simp)⟩
 |b::rd,M0,h,r,di=>by
  obtain⟨blk,hb⟩:=di b (zBO);have Ui:∀c∈rd,∃blk,ei h b .dead c=some blk:=λc hc=>by
   by_cases e:c=b
   ·subst e;exact⟨_,Qr _ _ _⟩
   ·rw[Xp _ _ e];exact di c (zAn _ hc)
  obtain⟨cb,ec⟩:=r.jn b blk hb;have key:∃M1,i9 M0 M1∧bx GL w0 L ⟨M1,c⟩ (ei h b .dead) w∧(blk.live=true→cb.cK=false→∀o,w.heap[cb.blk]?=some o→M1 cb.blk=some o):=by
   by_cases hl:blk.live=true∧cb.cK=false
   ·obtain⟨_,_,o,ho,_⟩:=r.own b blk cb hb hl.1 ec hl.2;obtain⟨q1,q2⟩:=r.freeze hb hl.1 ec hl.2 ho;refine⟨_,q1.m,q2,λ_ _ o' fO=>?_⟩;rw[ho]at fO;cases fO;simp[nI]
   ·exact⟨M0,i9.refl _,r.kill hb,λh1 h2=>absurd ⟨h1,h2⟩ hl⟩
  obtain⟨M1,m1,r1,k1⟩:=key;obtain⟨M,m2,r2,k2⟩:=bx.JG c rd r1 Ui;refine⟨M,m1.trans m2,r2,λx hx blk' eN o e1 e2 e3 e4 e5=>?_⟩;by_cases e:x=b
  ·subst e;have GU:c x=some cb:=ec;rw[hb]at e1;cases e1;rw[GU]at e3;cases e3;exact m2 _ _ (k1 e2 e4 o e5)
  ·rcases zAR.1 hx with h'|h'
   ·exact absurd h' e
   ·exact k2 x h' blk' eN o (by rw[Xp _ _ e];exact e1) e2 e3 e4 e5
def rK(σ:List ab)(rd:List Nat):List ab:=rd.foldl (λσ b=>σ.set b .dead) σ
theorem Hv:∀(rd:List Nat) (σ:List ab),(rK σ rd).length=σ.length
 |[],_=>rfl
 |b::rd,σ=>(Hv rd (σ.set b .dead)).trans (by simp)
theorem RU:∀(rd:List Nat) (σ:List ab),(∀b∈rd,b<σ.length)→gp σ (jK rd)=some (rK σ rd)
 |[],_,_=>rfl
 |b::rd,σ,h=>by
  have hb:=h b zBO;show (bif IN b σ.length then gp (σ ++ [.dead]) (jK rd)else (match QF b .dead σ with
   |some σ'=>gp σ' (jK rd)
   | none=>none))=_
  have:IN b σ.length=false:=by
   cases e:IN b σ.length with
   |false=>rfl
   |true=>have:=fV e;omega
  rw[this,Y8 hb];exact RU rd (σ.set b .dead) (λc hc=>by simpa using h c (zAn _ hc))
end
end Go.Ah
end
section
namespace Go.Ah
section
variable {P:Program} {GL:ar}
theorem Zb6:∀(l:List (Nat×ab)) (h:Hp) (k:Nat) (x:ab),cw h (l++[(k,x)])=ei (cw h l) k x
 |[],_,_,_=>rfl
 |(b,y)::l,h,k,x=>Zb6 l (ei h b y) k x
theorem Wo:∀(l:List Nat) (h:Hp) (k:Nat),k∉l→cw h (jK l) k=h k
 |[],_,_,_=>rfl
 |b::l,h,k,hk=>by
  simp only[zAR,not_or]at hk;show cw (ei h b .dead) (jK l) k=h k;rw[Wo l _ k hk.2,Xp _ _ hk.1]
theorem dK.tT{f:FuncId}{xs ys:List aa}{v:aa}{rd:List Nat}{h0:Hp}(hc:dK P GL f ys v)(hb:bu h0 rd xs ys)(di:∀b∈rd,∃blk,h0 b=some blk){k:Nat}{row row':List aa}(hk:h0 k=some (.box row))(gC:k∉rd)(hlen:row'.length=row.length)
 (dN:∀(j:Nat) (x x':aa),row[j]?=some x→row'[j]?=some x'→x'=x∨aB h0 rd x x'):jo P GL f xs h0 v rd (jK rd++[(k,.box row')]):=by
 intro w0 L g h w vs r hx dc gD;have wH:h k=some (.box row):=by rw[gD (k,.box row') (by simp)];exact hk
 obtain⟨M,hM,r2,T2⟩:=bx.JG g.c rd (M0:=g.M) r (λb cj=>by rw[dc b cj];exact di b cj);have sj:yI g (kX h rd) w M:=⟨hM,λb blk cb o e hl ec hv ho=>T2 b (Q3 e hl).1 blk cb o (Q3 e hl).2 hl ec hv ho⟩;have Kv:∀b∈rd,kX h rd b=h0 b:=λb cj=>by unfold kX;rw[aJ cj];exact dc b cj
 have hd:=hb GL w0 L g (kX h rd) w M (r.only rd) sj Kv vs hx;have r3:bx GL w0 L ⟨M,g.c⟩ (ei (cw h (jK rd)) k (.box row')) w:=by
  obtain⟨cb,ec⟩:=r.jn k _ wH;have hv:cb.cK=false:=by
   cases e:cb.cK with
   |false=>rfl
   |true=>have:=r.bc k _ cb wH rfl ec e;cases this
  obtain⟨_,_,o,ho,arr,T,rfl,hs,oz⟩:=r.own k _ cb wH rfl ec hv;have sr:cw h (jK rd) k=some (.box row):=by rw[Wo rd h k gC];exact wH
  refine r2.write (w':=w) sr rfl ec hv (blk':=.box row') rfl (o':=.cells arr T (0,0)) rfl rfl rfl ?_ ⟨arr,T,rfl,by rw[hs,hlen],λj x' u e1 e2=>?_⟩
  ·apply Array.ext_getElem?;intro i;by_cases hi:i=cb.blk
   ·subst hi;rw[Array.getElem?_setIfInBounds_self_of_lt (Array.getElem?_eq_some_iff.1 ho).1,ho]
   ·rw[Array.getElem?_setIfInBounds_ne (λe=>hi e.symm)]
  ·have hj:j<row.length:=by rw[←hlen];exact(gK e1).1
   have e0:row[j]?=some row[j]:=by simp[hj]
   have c7:=oz j row[j] u e0 e2;rcases dN j row[j] x' e0 e1 with rfl|sS
   ·exact Den.mono hM c7 (gH.refl _)
   ·exact(sS GL w0 L g (kX h rd) w M (r.only rd) sj Kv u c7).mono (i9.refl _) (gH.bA _)
 refine(hc w M _ r3.aX r3.cr hd).mono ?_;rintro e w' ⟨y,he,kp,M',hle,ir,kO,hdv⟩;rw[Zb6];exact⟨y,he,⟨M',g.c⟩,⟨hM.trans hle,gH.refl _⟩,r3.after kp hle ir kO,hdv.mono (i9.refl _) (gH.bA _)⟩
theorem Qbu{k:MK}{xs ys zs:List aa}{f:FuncId}{v:aa}{b q:Nat}{row row':List aa}(h:dK P GL f zs v){σ:List ab}(hc:Zt k xs=some (f,ys))(iq:Zh P f=true)(hb:bu (hp σ) [b] ys zs)(di:aj σ b≠.dead)(hq:aj σ q=.box row)(OZ:q≠b)(hlen:row'.length=row.length)
 (dN:∀(j:Nat) (x x':aa),row[j]?=some x→row'[j]?=some x'→x'=x∨aB (hp σ) [b] x x'){K:KT}(hK:K v ((σ.set b .dead).set q (.box row'))):(W P GL).call k xs σ K:=by
 refine Cm hc iq (h.tT hb (λc yq=>by rw[zAw]at yq;subst yq;exact⟨_,Xw rfl di⟩) (Xw hq (by simp)) (by simpa using OZ) hlen dN) ?_ hK;have h1:=RU [b] σ (λc yq=>by rw[zAw]at yq;subst yq;exact Yb rfl di);have yy:=Yb hq;have C1:=Yb (σ:=σ) (b:=b) rfl di;show gp σ [(b,.dead),(q,.box row')]=_;have s1:∀(τ:List ab) (c:Nat) (x:ab) (r:List (Nat×ab)),c<τ.length→gp τ ((c,x)::r)=gp (τ.set c x) r:=by
  intro τ c x r kH;show (bif IN c τ.length then gp (τ ++ [x]) r else (match QF c x τ with
   |some σ'=>gp σ' r
   | none=>none))=_
  have:IN c τ.length=false:=by
   cases e:IN c τ.length with
   |false=>rfl
   |true=>have:=fV e;omega
  rw[this,Y8 kH];rfl
 rw[s1 σ b .dead _ C1,s1 _ q _ _ (by simpa using yy)];rfl
end
end Go.Ah
end
section
namespace Go.Ah
theorem PQ:∀(a b:List (Nat×ab)) (σ τ:List ab),gp σ a=some τ→gp σ (a++b)=gp τ b
 |[],b,σ,τ,h=>by cases h;rfl
 |(c,x)::a,b,σ,τ,h=>by
  have h:(bif IN c σ.length then gp (σ ++ [x]) a else (match QF c x σ with
   |some σ'=>gp σ' a
   | none=>none))=some τ:=h
  show (bif IN c σ.length then gp (σ ++ [x]) (a ++ b)else (match QF c x σ with
   |some σ'=>gp σ' (a++b)
   | none=>none))=gp τ b
  cases hc:IN c σ.length with
  |true=>rw[hc]at h;exact PQ a b _ τ h
  |false=>
   rw[hc]at h;cases hs:QF c x σ with
   |none=>rw[hs]at h;cases h
   |some υ=>rw[hs]at h;exact PQ a b υ τ h
theorem Zb7:∀(rd:List Nat) (σ:List ab) (c:Nat),c<σ.length→c∉rd→aj (rK σ rd) c=aj σ c
 |[],_,_,_,_=>rfl
 |b::rd,σ,c,h,hn=>by
  show aj (rK (σ.set b .dead) rd) c=_;rw[Zb7 rd _ c (by simpa using h) (λe=>hn (zAn _ e)),Tz.Xc _ h (λe=>hn (by rw[e];exact zBO))]
def iZ(h:Hp)(rd:List Nat):List aa→List aa→Prop
 |[],[]=>True
 |x::xs,y::ys=>(y=x∨aB h rd x y)∧iZ h rd xs ys
 |_,_=>False
theorem iZ.len{h:Hp}{rd:List Nat}:∀ {xs ys:List aa},iZ h rd xs ys→ys.length=xs.length
 |[],[],_=>rfl
 |_::xs,_::ys,e=>by simp[iZ.len (xs:=xs) e.2]
theorem iZ.at{h:Hp}{rd:List Nat}:∀ {xs ys:List aa},iZ h rd xs ys→∀(j:Nat) (x x':aa),xs[j]?=some x→ys[j]?=some x'→x'=x∨aB h rd x x'
 |[],[],_,j,x,x',e,_=>by cases e
 |y::xs,y'::ys,e,0,x,x',e1,e2=>by cases e1;cases e2;exact e.1
 |y::xs,y'::ys,e,j+1,x,x',e1,e2=>iZ.at (xs:=xs) (ys:=ys) e.2 j x x' (by simpa using e1) (by simpa using e2)
section
variable {P:Program} {GL:ar}
theorem Zbb{k:MK}{xs ys zs:List aa}{f:FuncId}{v:aa}{rd:List Nat}{q:Nat}{row row':List aa}(h:dK P GL f zs v){σ:List ab}(hc:Zt k xs=some (f,ys))(iq:Zh P f=true)(hb:bu (hp σ) rd ys zs)(di:∀b∈rd,aj σ b≠.dead)(hq:aj σ q=.box row)(OZ:q∉rd)
 (dN:iZ (hp σ) rd row row'){K:KT}(hK:∀τ,aj τ q=.box row'→σ.length=τ.length→(∀c,c<σ.length→c≠q→c∉rd→aj τ c=aj σ c)→K v τ):(W P GL).call k xs σ K:=by
 have yy:=Yb hq;refine Cm hc iq (h.tT hb (λc yq=>⟨_,Xw rfl (di c yq)⟩) (Xw hq (by simp)) OZ dN.len dN.at) (σ':=(rK σ rd).set q (.box row')) ?_ (hK _ (Tz.Zd _ (by rw[Hv];exact yy)) (by simp[Hv]) λc h1 h2 h3=>by rw[Tz.Xc _ (by rw[Hv];exact h1) h2,Zb7 rd σ c h1 h3]);rw[PQ _ _ _ _ (RU rd σ (λb cj=>Yb rfl (di b cj)))];exact Ze _ (by rw[Hv];exact yy)
end
end Go.Ah
namespace Go.Ah.Tz
open Go.Proofs.Tryz (prog)
set_option maxRecDepth 100000
def ow:aa→List Nat
 |.sl c _ _ _=>[c]
 |_=>[]
theorem OW.Hk{q:Nat→Prop}{σ:List ab}{v:aa}{l:List Int}{rd:List Nat}(h:OW q σ v l)(hs:∀c∈ow v,c∈rd):RI σ rd v l:=by
 rcases h with rfl|⟨rfl,rfl⟩|⟨c,rfl,h2,_⟩
 ·exact RI.ro l
 ·exact RI.an
 ·exact RI.own h2 (hs c (by simp[ow])) rfl
theorem OW.live{q:Nat→Prop}{σ:List ab}{v:aa}{l:List Int}(h:OW q σ v l):∀c∈ow v,(∃rs,aj σ c=.rows 1 rs)∧q c:=by
 intro c hc;rcases h with rfl|⟨rfl,rfl⟩|⟨k,rfl,h2,h3⟩
 ·simp[ow]at hc
 ·simp[ow]at hc
 ·simp[ow]at hc;subst hc;exact⟨⟨_,h2⟩,h3⟩
@[reducible] def LB(b:Bk)(s:St)(sd tg:Int)(lv:aa)(fu e:Int):List aa:=va b s (aP s.s0.hand) (aP s.s0.al) (aP s.s0.told) (aP s.s1.hand) (aP s.s1.al) (aP s.s1.told) sd tg lv fu e
def Kb(rb:Nat)(σ τ:List ab):Prop:=σ.length<=τ.length∧∀k row,k≠rb→aj σ k=.box row→aj τ k=.box row
theorem Kb.refl(rb:Nat)(σ:List ab):Kb rb σ σ:=⟨IT _,λ_ _ _ h=>h⟩
theorem Kb.trans{rb:Nat}{σ τ υ:List ab}(h:Kb rb σ τ)(q:Kb rb τ υ):Kb rb σ υ:=⟨zAY h.1 q.1,λk row h1 h2=>q.2 k row h1 (h.2 k row h1 h2)⟩
theorem Kb.kq{rb:Nat}{σ τ:List ab}(h:Kq [rb] 7 σ τ):Kb rb σ τ:=⟨h.1,λk row h1 h2=>h.box h2 (by simpa using h1)⟩
attribute [local irreducible] aF.rd aF.pu aF.wr aF.dr aF.gr aF.gw aF.gl aF.gd aF.opt cI W
theorem ZbY{p:Nat→Prop}{σ:List ab}{rb:Nat}{b:Bk}{s:St}{sd tg fu e:Int}{l:List Ev}{h0 g0 t0 h1 g1 t1 lv:aa}(hr:aj σ rb=.box (va b s h0 g0 t0 h1 g1 t1 sd tg lv fu e))
 (o1:OW (¬p ·) σ h0 s.s0.hand)(o2:OW (¬p ·) σ g0 s.s0.al)(o3:OW (¬p ·) σ t0 s.s0.told)(o4:OW (¬p ·) σ h1 s.s1.hand)(o5:OW (¬p ·) σ g1 s.s1.al)(o6:OW (¬p ·) σ t1 s.s1.told)(ol:LO p l lv σ)
 {f:FuncId}{v x y:aa}(h:PC f [cC b,bZ s,x,y] v)(iq:Zh prog f=true)(hx:x.ro=true)(hy:y.ro=true){K:KT}
 (hK:∀τ,aj τ rb=.box (LB b s sd tg lv fu e)→LO p l lv τ→Kb rb σ τ→K v τ) :
  VV.call (.call f) [.agg (cy b),.agg (tl s (aP s.ao) (aP s.s0.az) h0 g0 (gU s.s0.af) t0 (aP s.s1.az) h1 g1 (gU s.s1.af) t1),x,y] σ K:=by
 have hm:∀w∈[h0,g0,t0,h1,g1,t1],∀c∈ow w,c∈[h0,g0,t0,h1,g1,t1].flatMap ow:=λw hw c hc=>List.mem_flatMap.2 ⟨w,hw,hc⟩;have hl:∀c∈[h0,g0,t0,h1,g1,t1].flatMap ow,(∃rs,aj σ c=.rows 1 rs)∧¬p c:=by
  intro c hc;obtain⟨w,hw,G3⟩:=List.mem_flatMap.1 hc;simp only[zAR,List.not_mem_nil,or_false]at hw;rcases hw with rfl|rfl|rfl|rfl|rfl|rfl
  ·exact o1.live c G3
  ·exact o2.live c G3
  ·exact o3.live c G3
  ·exact o4.live c G3
  ·exact o5.live c G3
  ·exact o6.live c G3
 have i1:=o1.Hk (hm h0 (by simp));have i2:=o2.Hk (hm g0 (by simp));have i3:=o3.Hk (hm t0 (by simp));have i4:=o4.Hk (hm h1 (by simp));have i5:=o5.Hk (hm g1 (by simp));have i6:=o6.Hk (hm t1 (by simp));generalize [h0,g0,t0,h1,g1,t1].flatMap ow=rd at *;refine Zbb (rd:=rd) (row':=LB b s sd tg lv fu e) h rfl iq (.cons (aB.ro rfl) (.cons (SB.mk (RI.ro _) (RI.ro _) i1 i2 (RT.ro _) i3 (RI.ro _) i4 i5 (RT.ro _) i6).agg (bu.ro (by simp[hx,hy])))) (λc hc=>by obtain⟨⟨rs,e⟩,_⟩:=hl c hc;rw[e];simp) hr (λe=>by obtain⟨⟨rs,e⟩,_⟩:=hl rb e;rw[hr]at e;cases e) ?_ λτ q1 q2 q3=>?_
 ·exact⟨.inl rfl,.inl rfl,.inl rfl,.inl rfl,.inl rfl,.inl rfl,.inl rfl,.inl rfl,.inl rfl,.inl rfl,.inl rfl,.inl rfl,.inl rfl,.inr i1,.inr i2,.inl rfl,.inr i3,.inl rfl,.inl rfl,.inl rfl,.inl rfl,.inr i4,.inr i5,.inl rfl,.inr i6,.inl rfl,.inl rfl,.inl rfl,.inl rfl,.inl rfl,trivial⟩
 ·refine hK τ q1 ?_ ⟨by omega,λk row h1 h2=>by rw[q3 k (Yb h2) h1 (λe=>by obtain⟨⟨rs,e⟩,_⟩:=hl k e;rw[h2]at e;cases e)];exact h2⟩;rcases ol with ol|⟨c,rows,a1,a2,a3,a4⟩
  ·exact .inl ol
  ·refine .inr ⟨c,rows,a1,?_,a3,λi row e b1 b2=>?_⟩
   ·rw[q3 c (Yb a2) (λe=>by rw[e,hr]at a2;cases a2) (λe=>by obtain⟨⟨rs,e⟩,_⟩:=hl c e;rw[a2]at e;cases e)];exact a2
   ·obtain⟨cv,c1,c2⟩:=a4 i row e b1 b2;refine⟨cv,c1,?_⟩;rcases c2 with c2|c2|⟨k,d1,d2,d3⟩
    ·exact .inl c2
    ·exact .inr (.inl c2)
    ·exact .inr (.inr ⟨k,d1,by rw[q3 k (Yb d2) (λe=>by rw[e,hr]at d2;cases d2) (λe=>(hl k e).2 d3)];exact d2,d3⟩)
set_option maxHeartbeats 8000000
theorem Ydz{p:Nat→Prop}{σ:List ab}{rb:Nat}{b:Bk}{s:St}{sd tg fu er:Int}{l:List Ev}{h0 g0 t0 h1 g1 t1 lv:aa}(hr:aj σ rb=.box (va b s h0 g0 t0 h1 g1 t1 sd tg lv fu er))
 (o1:OW (¬p ·) σ h0 s.s0.hand)(o2:OW (¬p ·) σ g0 s.s0.al)(o3:OW (¬p ·) σ t0 s.s0.told)(o4:OW (¬p ·) σ h1 s.s1.hand)(o5:OW (¬p ·) σ g1 s.s1.al)(o6:OW (¬p ·) σ t1 s.s1.told)(ol:LO p l lv σ)(e:Ev)(hlen:l.length<200000000)
 {K:List Nat×List Nat→List Nat×List Nat→List Nat×List Nat→List ab→Prop}(hK:∀σ' y w,rb≠y→pr p σ' rb b s sd tg fu er (l++[e])→Kq [rb] 7 σ σ'→K ([],[y]) ([y],w) ([],[rb]) σ') :
  VV.dr (Yp 7 1 bX [(0,7)] [.agg (dF e)] σ) σ λy l1 σ=>VV.dr (Qf 7 72 [lv,y] σ) σ λnv l2 σ=>VV.pu (Xl [.ak rb 0] σ) λt=>VV.pu (Xb 27 [t] σ) λu=>VV.dr (Yj 1 [u,nv] σ) σ λ_ l3 σ=>K l1 l2 l3 σ:=by
 refine Xf (v:=.sl σ.length 0 1 true) (rd:=[]) (up:=[(σ.length,.rows 7 [dF e])]) rfl (Xe σ _) ?_;have A:=λq v n h=>OW.app (q:=q) (σ:=σ) (v:=v) (l:=n) h [.rows 7 [dF e]];have r1:=Qb [ab.rows 7 [dF e]] hr;have s_:=Yb hr;obtain⟨nv,up,τ',q1,q2,qc,r2,_,q4,q5⟩:=Rt r1 (A _ _ _ o1) (A _ _ _ o2) (A _ _ _ o3) (A _ _ _ o4) (A _ _ _ o5) (A _ _ _ o6) (ol.mono λc n rs e=>QC _ e) (Y0 (ex2:=true) (Yc σ (.rows 7 [dF e])) rfl) (m:=[e]) ⟨rfl,λi row x q1 q2=>by
  cases i with
  |zero=>simp at q1 q2;subst q1 q2;exact⟨_,rfl,.inl rfl⟩
  | succ i=>simp at q1⟩ (by simp;omega)
 refine Xf q1 q2 (Zi rfl (Zi rfl (Xf (cX r2 qc rfl rfl) (Ze _ (Yb r2)) ?_)));exact hK _ σ.length _ (by omega) q4 ((Kq.app [rb] 7 σ _).trans q5)
theorem du.new{σ τ υ:List ab}{zb:Nat}(h:du σ τ [])(q:du τ υ [zb])(hz:σ.length<=zb):du σ υ []:=⟨zAY h.1 q.1,λc hc hn=>by rw[q.2 c (zAJ hc h.1) (by simp;omega),h.2 c hc hn]⟩
theorem vE{σ:List ab}{z:List aa}{K:KT}(hK:∀τ,aj τ σ.length=.box z→du σ τ []→τ.length=σ.length+1→K (.ak σ.length 0) τ):VV.wr (Qs z [] σ) σ K:=
 Yd (v:=.ak σ.length 0) (rd:=[]) (up:=[(σ.length,.box z)]) rfl (Xe σ _) (hK _ (Yc σ _) (du.app σ _) (by simp))
theorem MY{σ:List ab}{z:List aa}{K:aa→List Nat×List Nat→List ab→Prop}(hK:∀τ,aj τ σ.length=.box z→du σ τ []→τ.length=σ.length+1→K (.ak σ.length 0) ([],[σ.length]) τ):VV.dr (Qs z [] σ) σ K:=
 Xf (v:=.ak σ.length 0) (rd:=[]) (up:=[(σ.length,.box z)]) rfl (Xe σ _) (hK _ (Yc σ _) (du.app σ _) (by simp))
theorem CA{σ:List ab}{zb j n:Nat}{x:aa}{cs row row':List aa}{K:aa→List Nat×List Nat→List ab→Prop}(hb:aj σ zb=.box row)(hc:cellsOf x=some cs)(hn:IN cs.length n=true)(hs:cc j cs row=some row')
 (hK:∀τ,aj τ zb=.box row'→du σ τ [zb]→K .aQ ([],[zb]) τ):VV.dr (Yj n [.ak zb j,x] σ) σ K:=
 Xf (cX hb hc hn hs) (Ze _ (Yb hb)) (hK _ (Zd _ (Yb hb)) (du.set σ zb _))
end Go.Ah.Tz
end
section
namespace Go.Ah.Tz
open Go.Proofs.Tryz (prog)
set_option maxRecDepth 100000
theorem LO.nH{p:Nat→Prop}{σ τ:List ab}{l:List Ev}{lv:aa}(h:LO p l lv σ)(a:du σ τ []):LO p l lv τ:=h.mono λc n rs e=>a.get e
attribute [local irreducible] aF.rd aF.pu aF.wr aF.dr aF.gr aF.gw aF.gl aF.gd aF.opt cI W
set_option maxHeartbeats 8000000
section
variable {p:Nat→Prop} {σ:List ab} {rb:Nat} {b:Bk} {s:St} {sd tg fu:Int} {l:List Ev} {lv:aa} (hp:∀c,p c→c<σ.length) (hr:aj σ rb=.box (LB b s sd tg lv fu 0)) (ol:LO p l lv σ) (hn:l.length<100000000) (h01:sd=0∨sd=1)
 (hs:bd 1000000 s) (hm:aO (bz b).1 b s true=true) (h67:PC 42 [cC b] (.agg [iv (bz b).1,iv (bz b).2]))
include hp hr ol hn h01 hs hm h67
theorem Yet(x:Ef)(n:Int)(hY:x.op=0∨x.op=1){K:KT}(hK:∀σ',tF σ σ' rb b sd tg fu l (fX b s sd tg x.op x.who n)→K (.bp []) σ'):g146.u VV [.ak rb 0,.agg (bj x),iv n] σ K:=by
 obtain⟨op,who,nn,name,c,bP,bS⟩:=x;have hw:=SM (s:=s) (tg:=tg) (who:=who) h01;have h484:=u484 s (hs.mono (by decide)) sd tg who h01;have a0:=du.jY σ (.box (bj (.mk op who nn name c bP bS)));have n1:=Yc σ (.box (bj (.mk op who nn name c bP bS)));rw[H3.e];unfold g146;dsimp only;refine Yd (XM _ _) (Xe σ _) ?_;rw[Zr]at *;dsimp only[Ef.op,Ef.who,Ef.name]at *;generalize σ++[_]=τ at *;have r0:=a0.get hr;have BW:=ol.nH a0;have s_:=Yb hr;have sz:=a0.1;have same:tF σ τ rb b sd tg fu l (0,s,[]):=⟨⟨p,λc e=>zAJ (hp c e) sz,_,_,_,_,_,_,lv,r0,.inl rfl,.inl rfl,.inl rfl,.inl rfl,.inl rfl,.inl rfl,by simpa using BW⟩,Kq.h_ a0 _ _⟩;unfold fX at hK;refine av (aY h484 g184.ok ?_);generalize c_ s sd tg who=wr at *;obtain⟨id,k,ok⟩:=wr;dsimp only at *;refine av ?_;cases ok with
 |false=>
  refine Zc rfl (Zc rfl ?_);exact av (hK _ same)
 |true=>
 obtain⟨hk,gP⟩:=hw rfl;refine Qa (Za rfl (Qa (Za rfl ?_)));refine av (Ya (λq=>?_) (λq=>?_))
 ·have q:n<0:=by simpa using q
  rw[aE (by omega)]at hK;exact hK _ same
 have q:0<=n:=by simpa using q
 rw[aJ ⟨rfl,q⟩]at hK;refine vE λτ1 z1 a1 e1=>?_;refine vE λτ2 z2 a2 e2=>?_;have a12:=a1.trans a2;have n3:=a12.get n1;have zs:=a2.get z1;have r2:=a12.get r0;clear n1 z1;obtain⟨r,wV⟩:∃r,r=oO op b s id k n:=⟨_,rfl⟩;rw[←wV]at hK;rcases hY with rfl|rfl
 rotate_left;have c485:PC 186 [cC b,bZ s,iv id,iv k,iv n] (eA r):=by rw[wV];exact u485 b s hs hm h67 id k n hk
 rotate_left;have c485:PC 185 [cC b,bZ s,iv id,iv k,iv n] (eA r):=by rw[wV];exact u197 b s hs hm h67 id k n hk
 all_goals
  obtain⟨S,ev,er⟩:=r;dsimp only at hK c485;refine av (Yo c485 rfl (by first|exact g186.ok.plain|exact g185.ok.plain) rfl ?_);refine av (CA zs rfl rfl rfl λτ3 zs3 a3=>?_);have ze3:=a3.get z2 (by simp) (by simp;omega);refine CA ze3 rfl rfl rfl λτ4 ze4 a4=>?_;have zs4:=a4.get zs3 (by simp) (by simp;omega);refine Zw (by rfl) ?_;have a04:=a0.trans ((a12.new a3 (by omega)).new a4 (by omega));have r4:=a04.get hr;have Lp:=ol.nH a04;have sz4:=a04.1;clear r0 r2 zs zs3 z2 ze3 n3 BW;refine av (Ya (λq2=>?_) (λq2=>?_))
  ·have q2:er≠0:=by simpa using q2
   rw[aE q2]at hK;refine av (XH r4 rfl rfl rfl λτ5 r5 k5 qH=>?_);exact hK _ ⟨⟨p,λc e=>zAJ (hp c e) (zAY sz4 k5.1),_,_,_,_,_,_,lv,r5,.inl rfl,.inl rfl,.inl rfl,.inl rfl,.inl rfl,.inl rfl,by simpa using Lp.mono qH⟩,(Kq.h_ a04 _ _).trans k5⟩
  ·have q2:er=0:=by simpa using q2
   subst q2;rw[aJ rfl]at hK;refine av (XH r4 rfl rfl rfl λτ5 r5 k5 qH=>?_);have ze5:=k5.box ze4;refine av (Ydz (s:=S) r5 (.inl rfl) (.inl rfl) (.inl rfl) (.inl rfl) (.inl rfl) (.inl rfl) (Lp.mono qH) ev (by omega) λσ' y w hy q1 q2=>?_);exact Zw (by simp[Zj,Xn,Zn,Qv,cf,dZ,zAC,zAc,jN,hy,hy.symm]) (hK _ ⟨⟨p,λc e=>zAJ (hp c e) (zAY sz4 (k5.trans q2).1),q1⟩,(Kq.h_ a04 _ _).trans (k5.trans q2)⟩)
end
theorem MO{b:Bk}{s:St}(h:dz b s):bd 1000000 s:=by
 obtain⟨hd,h0,h1,_,ha⟩:=h;have side:∀x:Sd,ij b x→lO 1000000 x:=by
  intro x k;have k1:=(Xj.1 k.az).1;have k2:=(Xj.1 k.hand).1;have k3:=(Xj.1 k.al).1;have k4:=(Xj.1 k.told).1;have k5:=k.af;exact⟨by omega,by omega,by omega,by omega,by omega⟩
 refine⟨?_,side _ h0,side _ h1⟩;by_cases hp:s.phase=1
 ·have:=(ha.2 hp).2.1;omega
 ·rw[ha.1 hp];simp
def LL(B:Nat)(l:List Ev)(lv:aa)(σ:List ab):Prop:=(l=[]∧lv=.an)∨∃c,lv=.sl c 0 l.length false∧B<=c∧aj σ c=.rows 7 (l.map dF)
theorem LL.nH{B:Nat}{l:List Ev}{lv:aa}{σ τ:List ab}{zb:Nat}{row:List aa}(h:LL B l lv σ)(a:du σ τ [zb])(hz:aj σ zb=.box row):LL B l lv τ:=by
 rcases h with h|⟨c,h1,h2,h3⟩
 ·exact .inl h
 ·exact .inr ⟨c,h1,h2,a.get h3 (by simp) (by simp;rintro rfl;rw[hz]at h3;cases h3)⟩
theorem LL.S4{B:Nat}{l:List Ev}{lv:aa}{σ τ:List ab}(h:LL B l lv σ)(a:du σ τ []):LL B l lv τ:=by
 rcases h with h|⟨c,h1,h2,h3⟩
 ·exact .inl h
 ·exact .inr ⟨c,h1,h2,a.get h3⟩
theorem LL.rows{B:Nat}{l:List Ev}{lv:aa}{σ τ:List ab}(h:LL B l lv σ)(hk:∀c n rs,aj σ c=.rows n rs→aj τ c=.rows n rs):LL B l lv τ:=by
 rcases h with h|⟨c,h1,h2,h3⟩
 ·exact .inl h
 ·exact .inr ⟨c,h1,h2,hk _ _ _ h3⟩
theorem LL.src{B:Nat}{p:Nat→Prop}{l:List Ev}{lv:aa}{σ:List ab}(h:LL B l lv σ):∃ys rd,Xk 7 σ lv=some (ys,rd)∧ER p σ ys l:=by
 rcases h with ⟨rfl,rfl⟩|⟨c,rfl,_,h3⟩
 ·exact⟨[],[],rfl,rfl,λi row e q=>by simp at q⟩
 ·refine⟨_,_,Y0 h3 (by simp),by simp,λi row e q1 q2=>?_⟩;rw[zAX,q2]at q1;cases q1;exact⟨_,rfl,.inl rfl⟩
theorem LQ{B:Nat}{σ:List ab}{l:List Ev}{lv:aa}(h:LL B l lv σ)(hB:B<=σ.length)(e:Ev)(hlen:l.length<100000000){K:KT}
 (hK:∀nv τ,LL B (l++[e]) nv τ→(∀c,c<B→aj τ c=aj σ c)→σ.length<=τ.length→K nv τ) :
  VV.wr (Yp 7 1 bX [(0,7)] [.agg (dF e)] σ) σ λy σ=>VV.wr (Qf 7 72 [lv,y] σ) σ K:=by
 refine Yd (v:=.sl σ.length 0 1 true) (rd:=[]) (up:=[(σ.length,.rows 7 [dF e])]) rfl (Xe σ _) ?_;rcases h with ⟨rfl,rfl⟩|⟨c,rfl,h2,h3⟩
 ·refine Yd (Xb2 7 72 (Yc σ _) rfl rfl (by omega)) (Xe _ _) ?_;exact hK _ _ (.inr ⟨_,rfl,by simp<;>omega,Yc _ _⟩) (λc hc=>by rw[Yf _ (by simp<;>omega),Yf _ (by omega)]) (by simp<;>omega)
 ·have kH:=Yb h3;have uH:=Qb [ab.rows 7 [dF e]] h3;refine Yd (HL 7 72 (rs2:=[dF e]) uH (Yc σ _) (by simp) rfl rfl (by omega)) (XI _ _ (by simp<;>omega)) ?_;refine hK _ _ (.inr ⟨(σ++[ab.rows 7 [dF e]]).length,by simp,by simp<;>omega,?_⟩) (λk hk=>by rw[Yf _ (by simp<;>omega),Xc _ (by simp<;>omega) (by omega),Yf _ (by omega)]) (by simp<;>omega);have:=AO (σ:=σ++[ab.rows 7 [dF e]]) c (.rows 7 (l.map dF++[dF e]));simpa using this
section
variable {p:Nat→Prop} {σ:List ab} {rb:Nat} {b:Bk} {s:St} {sd tg fu:Int} {l:List Ev} {lv:aa} (hp:∀c,p c→c<σ.length) (hr:aj σ rb=.box (LB b s sd tg lv fu 0)) (ol:LO p l lv σ) (hn:l.length<100000000)
 (cN:(bz b).1=0) (h67:PC 42 [cC b] (.agg [iv (bz b).1,iv (bz b).2])) {N C:Nat} (bQ:cY b N C s) (hC:C<1000000)
include hp hr ol hn cN h67 bQ hC
theorem Xen(hN:N+60<=1000000){k:Int}(hk:k=0∨k=1)(n:Int){K:KT}(hK:∀σ',tF σ σ' rb b sd tg fu l (ja s k n)→K (.bp []) σ'):g147.u VV [.ak rb 0,iv k,iv n] σ K:=by
 rw[H3.e];unfold g147;dsimp only;have s_:=Yb hr;refine av (vE λτ1 z1 a1 e1=>?_);have r1:=a1.get hr;refine Yd (cX z1 rfl rfl rfl) (Ze _ (Yb z1)) ?_;have z2:aj (τ1.set σ.length (.box (aI s))) σ.length=.box (aI s):=Zd _ (by omega);have a2:=a1.new (du.set τ1 σ.length (.box (aI s))) (IT _);have e2:(τ1.set σ.length (.box (aI s))).length=σ.length+1:=by simp;omega
 generalize τ1.set σ.length _=τ2 at *;unfold ja at hK;obtain⟨M,hM⟩:∃ M,M=(min (max n 0) 60).toNat:=⟨_,rfl⟩;rw[← hM]at hK;refine Xg (ι:=Nat) (λi vs τ=>∃ S cB l',vs=[iv i,cB]∧i<=M∧aj τ σ.length=.box (aI S)∧du σ τ []∧σ.length + 1<=τ.length∧LL (σ.length + 1) l' cB τ∧l'.length=i∧cY b (N + i) C S ∧
  (Qq k M s).1=(Qq k (M - i) S).1∧((Qq k M s).1=0→Qq k M s=(0,(Qq k (M - i) S).2.1,l' ++ (Qq k (M - i) S).2.2))) (λi=>M - i) 0 ⟨s,.an,[],rfl,by omega,z2,a2,by omega,.inl ⟨rfl,rfl⟩,rfl,bQ,rfl,λe=>by rw[← e];rfl⟩ ?_
 rintro i _ τ again ⟨S,cB,l',rfl,hi,hz,ha,lY,Ku,hli,hS,yt,C9⟩ bn;have hr3:=ha.get hr;refine av ?_;have lu:=Xo.2 ⟨cN,hS.may⟩;have h218:=u218 b S (MO hS.may) lu h67 k hk;by_cases di:i<M
 ·rw[show decide ((i:Int)<n)=true from fk (by omega)];refine Qa (Za rfl (Qa (Za rfl ?_)));refine av ?_;refine Ya (λq=>?_) (λq=>absurd q (by simp;omega));refine av ?_;refine Y9 h218 g37.ok ?_;have hd:Qq k (M-i) S=if (aS S k).2.2=0 then ((Qq k (M-(i+1)) (aS S k).1).1,(Qq k (M-(i+1)) (aS S k).1).2.1,(aS S k).2.1::(Qq k (M-(i+1)) (aS S k).1).2.2)else ((aS S k).2.2,S,[]):=by
   rw[show M-i=(M-(i+1))+1 by omega];rfl
  have OJ:(aS S k).2.2=0→cY b (N+(i+1)) C (aS S k).1:=λe=>by have:=hS.draw (by omega) hC hk e;rw[Nat.add_assoc]at this;exact this
  rw[hd]at yt C9;generalize aS S k=r at *;obtain⟨S',ev,er⟩:=r;dsimp only at *;refine av (MY λτa za b1 c1=>?_);refine MY λτb zb b2 c2=>?_;have Pb:=b2.get za;have my:=(b1.trans b2).get hz;refine CA Pb rfl rfl rfl λτc zc b3=>?_;have Pc:=b3.get zb (by simp) (by simp;omega);have yA:=b3.get my (by simp) (by simp;omega);refine CA Pc rfl rfl rfl λτd zd b4=>?_;have zc4:=b4.get zc (by simp) (by simp;omega);have U2:=b4.get yA (by simp) (by simp;omega);have n1:τ.length≠rb:=by omega
  have n2:τa.length≠rb:=by omega
  have n3:τ.length≠σ.length:=by omega
  have n4:τa.length≠σ.length:=by omega
  have n5:τa.length≠τ.length:=by omega
  refine Zw (by simp[Zj,Xn,Zn,Qv,cf,dZ,zAC,zAc,jN,n1,n2,n3,n4,n5,n1.symm,n2.symm,n3.symm,n4.symm,n5.symm]) ?_;have Up:=((Ku.S4 (b1.trans b2)).nH b3 Pb).nH b4 Pc;have JU:=((ha.trans (b1.trans b2)).new b3 (by omega)).new b4 (by omega);have l4:=b4.1;have l34:=b3.1;have hr4:=JU.get hr;refine av (Ya (λq2=>?_) (λq2=>?_))
  ·have q2:er≠0:=by simpa using q2
   rw[aE q2]at yt;rw[aE (by rw[yt];exact q2),yt]at hK;refine av (XH hr4 rfl rfl rfl λτ5 r5 k5 qH=>?_);exact hK _ ⟨⟨p,λc e=>zAJ (hp c e) (zAY JU.1 k5.1),_,_,_,_,_,_,lv,r5,.inl rfl,.inl rfl,.inl rfl,.inl rfl,.inl rfl,.inl rfl,by simpa using (ol.nH JU).mono qH⟩,(Kq.h_ JU _ _).trans k5⟩
  ·have q2:er=0:=by simpa using q2
   subst q2;rw[aJ rfl]at yt C9;refine av (Yd (cX U2 rfl rfl rfl) (Ze _ (Yb U2)) ?_);have U3:aj (τd.set σ.length (.box (aI S'))) σ.length=.box (aI S'):=Zd _ (by omega);have zd5:=Zb (x:=.box (aI S')) zd (by simp) (c:=σ.length) (by omega);have Uq:=Up.nH (du.set τd σ.length (.box (aI S'))) U2;have TV:=JU.new (du.set τd σ.length (.box (aI S'))) (IT _);have l5:(τd.set σ.length (.box (aI S'))).length=τd.length:=by simp
   generalize τd.set σ.length _=τ5 at *;refine av ?_;refine LQ Uq (by omega) ev (by omega) λnv τ6 Ur h6 l6=>?_;refine av ?_;rw[Qc (n:=i) (by omega)];refine bn (i+1) _ _ (by omega) ⟨S',nv,l'++[ev],rfl,by omega,by rw[h6 _ (by omega)];exact U3,⟨by omega,λc hc _=>by rw[h6 c (by omega),TV.2 c hc (by simp)]⟩,by omega,Ur,by simp[hli],OJ rfl,yt,λe=>?_⟩;rw[C9 e];simp
 ·have hiM:i=M:=by omega
  subst hiM;rw[zDP]at yt C9;have yt:(Qq k i s).1=0:=yt;have C9:Qq k i s=(0,S,l'):=by rw[C9 yt];simp[Qq]
  rw[C9,aJ rfl]at hK;by_cases q:(i:Int)<n;rotate_left;rw[gm q];refine Zc rfl (Zc rfl ?_);refine av ?_;rotate_left;rw[fk q];refine Qa (Za rfl (Qa (Za rfl ?_)));refine av ?_;refine Ya (λq3=>absurd q3 (by simp;omega)) (λ_=>?_);refine av ?_
  all_goals
   refine XH hr3 rfl rfl rfl λτ5 r5 k5 qH=>?_;refine av ?_;obtain⟨ys,rd,g1,g2⟩:=(Ku.rows qH).src (p:=p);obtain⟨nv,up,τ',q1,q2,qc,r2,_,q4,q5⟩:=Rt (s:=S) r5 (.inl rfl) (.inl rfl) (.inl rfl) (.inl rfl) (.inl rfl) (.inl rfl) ((ol.nH ha).mono qH) g1 g2 (by omega);refine Yd q1 q2 (Za rfl (Za rfl (Yd (cX r2 qc rfl rfl) (Ze _ (Yb r2)) ?_)));exact hK _ ⟨⟨p,λc e=>zAJ (hp c e) (zAY ha.1 (k5.trans q5).1),q4⟩,(Kq.h_ ha _ _).trans (k5.trans q5)⟩
theorem ZdV(h01:sd=0∨sd=1)(jg:b.ai.length<=gn)(x:Ef)(n:Int)(hY:x.op=7){K:KT}(hK:∀σ',tF σ σ' rb b sd tg fu l (YW b s sd x.name)→K (.bp []) σ'):g97.u VV [.ak rb 0,.agg (bj x),iv n] σ K:=by
 obtain⟨op,who,nn,name,c,bP,bS⟩:=x;cases (show op=7 from hY);have a0:=du.jY σ (.box (bj (.mk 7 who nn name c bP bS)));have n1:=Yc σ (.box (bj (.mk 7 who nn name c bP bS)));rw[H3.e];unfold g97;dsimp only;refine Yd (XM _ _) (Xe σ _) ?_;rw[Zr]at *;dsimp only[Ef.op,Ef.who,Ef.name]at *;generalize σ++[_]=τ at *;have r0:=a0.get hr;have BW:=ol.nH a0;have s_:=Yb hr;have sz:=a0.1;have h0:pr p τ rb b s sd tg fu 0 l:=⟨_,_,_,_,_,_,lv,r0,.inl rfl,.inl rfl,.inl rfl,.inl rfl,.inl rfl,.inl rfl,BW⟩;refine av (Qd hP (f:=145) rfl g145.ok rfl (w417 h0 h01 who ?_));refine av (aY (c195 b jg name) g149.ok ?_);unfold YW at hK;generalize (fZ 0 b.ai name).1=cd at *;obtain⟨st,ev,q,he,hq⟩:=Yb3 b s sd cd;have u:=u330 b s (MO bQ.may) (Xo.2 ⟨cN,bQ.may⟩) h67 sd cd h01;rw[he]at u;refine av (Y9 u g150.ok ?_);refine av (MY λτa za b1 c1=>?_);refine MY λτb zb b2 c2=>?_;have Pb:=b2.get za;refine CA Pb rfl rfl rfl λτc zc b3=>?_;have Pc:=b3.get zb (by simp) (by simp;omega);refine CA Pc rfl rfl rfl λτd zd b4=>?_;have zc4:=b4.get zc (by simp) (by simp;omega);have m1:τ.length≠rb:=by omega
 have m2:τa.length≠rb:=by omega
 have m5:τa.length≠τ.length:=by omega
 refine Zw (by simp[Zj,Xn,Zn,Qv,cf,dZ,zAC,zAc,jN,m1,m2,m5,m1.symm,m2.symm,m5.symm]) ?_;have a4:=((a0.trans (b1.trans b2)).new b3 (by omega)).new b4 (by omega);have r4:=a4.get hr;have Lp:=ol.nH a4;rcases hq with ⟨rfl,hq⟩|⟨rfl,hq,rfl,rfl⟩
 ·rw[aJ hq]at hK;exact av (hK _ ⟨⟨p,λc e=>zAJ (hp c e) a4.1,_,_,_,_,_,_,lv,r4,.inl rfl,.inl rfl,.inl rfl,.inl rfl,.inl rfl,.inl rfl,by simpa using Lp⟩,Kq.h_ a4 _ _⟩)
 ·rw[aE (by simp[hq])]at hK;refine av (XH r4 rfl rfl rfl λτ5 r5 k5 qH=>?_);have ze5:=k5.box zd;refine av (Ydz (s:=ZB s sd cd) r5 (.inl rfl) (.inl rfl) (.inl rfl) (.inl rfl) (.inl rfl) (.inl rfl) (Lp.mono qH) ⟨2,sd,cd,s.next,0,0,[]⟩ (by omega) λσ' y w hy q1 q2=>?_);exact Zw (by simp[Zj,Xn,Zn,Qv,cf,dZ,zAC,zAc,jN,hy,hy.symm]) (hK _ ⟨⟨p,λc e=>zAJ (hp c e) (zAY a4.1 (k5.trans q2).1),q1⟩,(Kq.h_ a4 _ _).trans (k5.trans q2)⟩)
end
theorem tF.pre{σ τ υ:List ab}{rb:Nat}{b:Bk}{sd tg fu:Int}{l:List Ev}{r:Int×St×List Ev}(k:Kq [rb] 7 σ τ)(h:tF τ υ rb b sd tg fu l r):tF σ υ rb b sd tg fu l r:=⟨h.1,k.trans h.2⟩
theorem ND{σ:List ab}{c:Nat}{x:Ef}(h:aj σ c=.box (bj x)):Qe true 14 [.ak c 0] σ=.ok (.agg (bj x)) [c] []:=ld h (by rw[Zr];rfl)
section
variable {p:Nat→Prop} {σ:List ab} {rb:Nat} {b:Bk} {s:St} {sd tg fu:Int} {l:List Ev} {lv:aa} (hp:∀c,p c→c<σ.length) (hr:aj σ rb=.box (LB b s sd tg lv fu 0)) (ol:LO p l lv σ) (hn:l.length<100000000)
 (cN:(bz b).1=0) (h67:PC 42 [cC b] (.agg [iv (bz b).1,iv (bz b).2])) {N C:Nat} (bQ:cY b N C s) (hC:C<1000000) (hN:N+60<=1000000) (h01:sd=0∨sd=1) (jg:b.ai.length<=gn)
include hp hr ol hn cN h67 bQ hC hN h01 jg
theorem W_(x:Ef)(n:Int)(hY:0<=x.op∧x.op<=7)(hb:-1000000<=n∧n<=1000000){K:KT}(hK:∀σ',tF σ σ' rb b sd tg fu l (iY b s sd tg x.op x.who x.name n)→K (.bp []) σ'):g97.u VV [.ak rb 0,.agg (bj x),iv n] σ K:=by
 have hR:RR σ rb b s sd tg fu 0 l:=⟨p,hp,_,_,_,_,_,_,lv,hr,.inl rfl,.inl rfl,.inl rfl,.inl rfl,.inl rfl,.inl rfl,ol⟩;have hle:=bQ.le;have d0:=hle.s0;have d1:=hle.s1;have hT:TB 100000000 s:=⟨by have:=d0.told;omega,by have:=d1.told;omega⟩;have wM:0<=(s.side sd).aT∧(s.side sd).aT<=1000000:=by
  rcases h01 with rfl|rfl
  ·have:=bQ.may.s0.aT;exact⟨this.1,(ZU.1 this.2).2⟩
  ·have:=bQ.may.s1.aT;exact⟨this.1,(ZU.1 this.2).2⟩
 have J4:(s.side sd).az.length<=100000000:=by
  rcases h01 with rfl|rfl
  ·show s.s0.az.length<=_;have:=d0.az;omega
  ·show s.s1.az.length<=_;have:=d1.az;omega
 have hw:=Gn h01 x.who;have ops:x.op=3∨x.op=4∨x.op=5∨x.op=6∨x.op=7∨(x.op=0∨x.op=1)∨x.op=2:=by omega
 unfold iY at hK;rcases ops with e|e|e|e|e|e|e
 ·exact Xes hR hn h01 x n e hb wM λσ' h=>hK σ' (by rw[e];exact h)
 ·exact Zeo hR hn h01 x n e hT ⟨by have:=d0.hand;omega,by have:=d0.al;omega⟩ ⟨by have:=d1.hand;omega,by have:=d1.al;omega⟩ λσ' h=>hK σ' (by rw[e];exact h)
 ·exact Xeu hR hn h01 x n e hT J4 λσ' h=>hK σ' (by rw[e];exact h)
 ·exact Yey hR hn h01 x n e hT (by have:=d0.hand;omega) (by have:=d1.hand;omega) λσ' h=>hK σ' (by rw[e];exact h)
 ·exact ZdV hp hr ol hn cN h67 bQ hC h01 jg x n e λσ' h=>hK σ' (by rw[e];exact h)
 all_goals
  obtain⟨op,who,nn,name,c,bP,bS⟩:=x;have a0:=du.jY σ (.box (bj (.mk op who nn name c bP bS)));have n1:=Yc σ (.box (bj (.mk op who nn name c bP bS)));rw[H3.e];unfold g97;dsimp only;refine Yd (XM _ _) (Xe σ _) ?_;generalize σ++[_]=τ at *;have n2:=n1;rw[Zr]at n2;dsimp only[Ef.op,Ef.who,Ef.name]at *;have r0:=a0.get hr;have BW:=ol.nH a0;have sz:=a0.1;have h0:pr p τ rb b s sd tg fu 0 l:=⟨_,_,_,_,_,_,lv,r0,.inl rfl,.inl rfl,.inl rfl,.inl rfl,.inl rfl,.inl rfl,BW⟩;have hp0:∀c,p c→c<τ.length:=λc e=>zAJ (hp c e) sz;refine av (Qd hP (f:=145) rfl g145.ok rfl (w417 h0 h01 who ?_));refine av ?_
 ·clear n2;have lj:∀σ',tF σ σ' rb b sd tg fu l (fX b s sd tg op who n)→K (.bp []) σ':=λσ' h=>hK σ' (by rcases e with rfl|rfl<;>exact h);have k0:=Kq.h_ a0 [rb] 7;have hh:=Yet hp0 r0 BW hn h01 (MO bQ.may) (Xo.2 ⟨cN,bQ.may⟩) h67 (.mk op who nn name c bP bS) n e (K:=K) λσ' h=>lj σ' (h.pre k0);rcases e with rfl|rfl
  ·refine Yh (Yh (Za (ND n1) ?_));exact Qd hP (f:=146) rfl g146.ok rfl hh
  ·refine Ye (Za rfl (Yh (Za (ND n1) ?_)));exact Qd hP (f:=146) rfl g146.ok rfl hh
 ·subst e;have k0:=Kq.h_ a0 [rb] 7;refine av ?_;exact Qd hP (f:=147) rfl g147.ok rfl (Xen hp0 r0 BW hn cN h67 bQ hC hN hw n λσ' h=>hK σ' (h.pre k0))
end
theorem Zdd{b:Bk}{d:Int}{x:Ef}(h:mH b.ai true d x=true)(h8:x.op=8)(hw:(qx x.c).length<=200):uB b x.c=true∧nX x.c<=200∧fG b.ai true x.c=true:=by
 rw[ye,aJ h8]at h;simp only[AI]at h;obtain⟨_,_,_,_,_,hc,_⟩:=h;refine⟨?_,by rw[SO];omega,hc⟩;have e1:o7 (zg x.c)<=201:=by
  rw[IL];have:(pz (zg x.c)).length=(qx x.c).length+1:=by simp[pz,zg,u5,bw,iA,cq]
  omega
 have e2:mH b.ai true 1 (u5 x.c)=true:=by
  generalize x.c=y at hc;rw[ye];simp[u5,Ef.op,Ef.who,Ef.n,Ef.name,Ef.c,Ef.bP,Ef.bS,hc,bD,bU,DH,el,Nm.op,Nm.n,Nm.who,Nm.kids]
 simp only[uB,bD,bU,e2,AI,zAf,sG,fE];exact⟨by omega,by simp,by omega,by simp⟩
def Pd(σ σ':List ab)(rb:Nat)(b:Bk)(sd tg:Int)(l:List Ev)(r:Int×St×Int×List Ev):Prop:=RR σ' rb b r.2.1 sd tg r.2.2.1 r.1 (l++r.2.2.2)∧Kb rb σ σ'
def yH(b:Bk)(sd tg:Int)(l:List Ef):Prop:=∀(σ:List ab) (rb:Nat) (s:St) (fu:Int) (cM:List Ev) (N C:Nat) (d:Int) (K:KT),
 RR σ rb b s sd tg fu 0 cM→bE l=true→bU b.ai true d l=true→(bw l).length<=200→cY b N C s→N+60*(bw l).length<=1000000→C+(bw l).length<=1000000 →
 cM.length+60*(bw l).length<=1000000→0<=fu→fu<=1000→(∀σ',Pd σ σ' rb b sd tg cM (runs b sd tg l s fu)→K (.bp []) σ')→g62.u VV [.ak rb 0,gY l] σ K
theorem Ycv(b:Bk)(sd tg:Int)(h01:sd=0∨sd=1)(jg:b.ai.length<=gn)(cN:(bz b).1=0)(h67:PC 42 [cC b] (.agg [iv (bz b).1,iv (bz b).2]))(m:Nat)(IH:∀l:List Ef,(bw l).length<m→yH b sd tg l):∀l:List Ef,(bw l).length<=m→yH b sd tg l:=by
 intro l hlm σ rb s fu cM N C d K hR dB bQ hW hS hN hC hE wB uO hK;have hlen:=YF dB;rw[cZ]at hlen;rw[H2.e];unfold g62;dsimp only;refine Xg (ι:=Nat) (λi vs τ=>∃ t fi er fh Ni Ci,vs=[iv i]∧i<=l.length∧RR τ rb b t sd tg fi er (cM ++ fh)∧Kb rb σ τ ∧
   ((er≠0∧runs b sd tg l s fu=(er,t,fi,fh))∨(er=0∧runs b sd tg l s fu=((runs b sd tg (l.drop i) t fi).1,(runs b sd tg (l.drop i) t fi).2.1,(runs b sd tg (l.drop i) t fi).2.2.1,fh ++ (runs b sd tg (l.drop i) t fi).2.2.2) ∧
   0<=fi∧fi<=1000∧cY b Ni Ci t∧Ni + 60 * (bw (l.drop i)).length<=1000000∧Ci + (bw (l.drop i)).length<=1000000∧(cM ++ fh).length + 60 * (bw (l.drop i)).length<=1000000∧(bw (l.drop i)).length<=(bw l).length)))
  (λi=>l.length-i) 0 ⟨s,fu,0,[],N,C,rfl,by omega,by simpa using hR,Kb.refl _ _,.inr ⟨rfl,rfl,wB,uO,hS,hN,hC,by simpa using hE,IT _⟩⟩ ?_
 rintro i _ τ again ⟨t,fi,er,fh,Ni,Ci,rfl,hi,⟨p,hp,GY⟩,Kk,jx⟩ bn;obtain⟨h0,g0,t0,h1,g1,t1,lv,hr,o1,o2,o3,o4,o5,o6,ol⟩:=id GY;refine av ?_;rw[zAH];by_cases h:i<l.length;rotate_left
 ·rw[gm (by omega)];refine Zc rfl (Zc rfl (Zc rfl (Zc rfl (Zc rfl ?_))));refine av ?_;have h:i=l.length:=by omega
  subst h;rcases jx with ⟨_,ba⟩|⟨G4,ba,_⟩
  ·exact hK _ ⟨by rw[ba];exact⟨p,hp,GY⟩,Kk⟩
  ·have e0:runs b sd tg (l.drop l.length) t fi=(0,t,fi,[]):=by rw[zAD,runs]
   rw[e0]at ba;subst G4;exact hK _ ⟨by rw[ba];exact⟨p,hp,by simpa using GY⟩,Kk⟩
 rw[fk (by omega)];refine Qa (Za rfl (Qa (Za rfl (Qa (Za rfl (Qa (Za (v:=iv er) (ld hr rfl) (Qa (Za rfl ?_)))))))));refine av ?_;rcases jx with ⟨cO,ba⟩|⟨G4,ba,uP,zI,ht,JQ,JO,CU,CW⟩
 ·refine Ya (λq=>absurd q (by simpa using cO)) (λ_=>?_);exact hK _ ⟨by rw[ba];exact⟨p,hp,GY⟩,Kk⟩
 refine Ya (λ_=>?_) (λq=>absurd G4 (by simpa using q));subst G4;have wz:l.drop i=l[i]::l.drop (i+1):=gI h;have g_:=AT h;have zX:=QN dB g_;have ud:=RX bQ _ g_;have cH:=λ(σ:List ab)=>Xm σ bj false false 14 l .i64 i h;rw[wz]at ba JQ JO CU CW;generalize l[i]=x at *;have Dv:(bw (x::l.drop (i+1))).length=(iA x).length+(bw (l.drop (i+1))).length:=by simp[bw]
 rw[Dv]at JQ JO CU CW;have hx1:1<=(iA x).length:=by cases x;simp[iA]
 have rD:=MX (b:=b) (tg:=tg) h01 x fi ht (by omega) (by omega);have Db:=Rg b sd tg x t fi uP;rw[runs]at ba;refine Qg λk' ek=>?_;have fin:∀τ',RR τ' rb b (cm b sd tg x t fi).2.1 sd tg (cm b sd tg x t fi).2.2.1 (cm b sd tg x t fi).1 ((cM++fh)++(cm b sd tg x t fi).2.2.2)→Kb rb τ τ'→(cm b sd tg x t fi).1≠0→K (.bp []) τ':=by
  intro τ' q1 q2 Dp;rw[aE Dp]at ba;exact hK _ ⟨by rw[ba];simpa using q1,Kk.trans q2⟩
 have cont:∀τ',RR τ' rb b (cm b sd tg x t fi).2.1 sd tg (cm b sd tg x t fi).2.2.1 (cm b sd tg x t fi).1 ((cM++fh)++(cm b sd tg x t fi).2.2.2)→Kb rb τ τ'→k' [] τ':=by
  intro τ' q1 q2;rw[ek];refine Za (Qj ..) ?_;rw[Qc (n:=i) (by omega)];refine bn (i+1) _ _ (by omega) ⟨(cm b sd tg x t fi).2.1,(cm b sd tg x t fi).2.2.1,(cm b sd tg x t fi).1,fh++(cm b sd tg x t fi).2.2.2,Ni+60*(iA x).length,Ci+(iA x).length,rfl,by omega,by simpa using q1,Kk.trans q2,?_⟩;by_cases h0:(cm b sd tg x t fi).1=0
  ·rw[aJ h0]at ba;refine .inr ⟨h0,by rw[ba];simp,Db.1,by omega,rD.1,by omega,by omega,?_,by omega⟩;have:=rD.2;simp only[By]at CU ⊢;omega
  ·rw[aE h0]at ba;exact .inl ⟨h0,by rw[ba]⟩
 clear ek bn hK;refine Za (cH _) (Za (bB (lS _)) (Qu (row:=bj x) (row':=bj x) (by rw[Zr];rfl) (by rw[Zr];rfl) (by rw[Zr];rfl) ?_));have b1:=du.jY τ (.box (bj x));have x1:=Yc τ (.box (bj x));have s_:=Yb hr;have JS:=GY.app (.box (bj x));generalize τ++[ab.box (bj x)]=τ1 at *;have OV:∀c,p c→c<τ1.length:=λc e=>zAJ (hp c e) b1.1;clear hr o1 o2 o3 o4 o5 o6 ol GY hp;obtain⟨h0,g0,t0,h1,g1,t1,lv,hr,o1,o2,o3,o4,o5,o6,ol⟩:=id JS;have fH:(cM++fh).length<100000000:=by omega
 have Va:Kb rb τ τ1:=Kb.kq (Kq.h_ b1 _ _);generalize fg:cM++fh=ev at *;refine Za rfl (Za (ld x1 (gO x)) (Za (Ys ..) (Ya (λh8=>?_) (λh8=>?_))))
 ·have h8:x.op=8:=by simpa using h8
  have gu:(qx x.c).length<=200∧(bw x.bP).length<(iA x).length∧(bw x.bS).length<(iA x).length:=by
   cases x;simp[Ef.op]at h8;simp[iA,h8,Ef.c,Ef.bP,Ef.bS]at CW ⊢;omega
  have tZ:=Ydi ud h8;obtain⟨vm,kN,hc3⟩:=Zdd ud h8 gu.1;have jW:cm b sd tg x t fi=if dQ b t sd tg x.c=true then runs b sd tg x.bP t fi else runs b sd tg x.bS t fi:=by rw[NC,aJ h8,vm,zAF]
  refine av (Za (ld x1 (od x)) (ZbY hr o1 o2 o3 o4 o5 o6 ol (u306 b t ht.rL (Xo.2 ⟨cN,ht.may⟩) h67 sd tg h01 jg x.c (Y6 zX) hc3 kN) g95.ok.plain rfl (by rw[XE];rfl) λτ2 r2 Lo vq=>?_));have x2:=vq.2 _ _ (by omega) x1;have JT:RR τ2 rb b t sd tg fi 0 ev:=⟨p,λc e=>zAJ (OV c e) vq.1,_,_,_,_,_,_,lv,r2,.inl rfl,.inl rfl,.inl rfl,.inl rfl,.inl rfl,.inl rfl,Lo⟩;refine Za rfl (Za rfl ?_);refine Ya (λhq=>?_) (λhq=>?_)
  ·rw[aJ hq]at jW;refine Za rfl (Za (v:=gY x.bP) (ld x2 (by rw[Zr];rfl)) ?_);refine Qd hP (f:=62) rfl g62.ok rfl (IH x.bP (by omega) τ2 rb t fi ev Ni Ci (d+1) _ JT (XN zX) tZ.1 (by omega) ht (by omega) (by omega) (by omega) uP zI (λτ' hD=>?_));rw[←jW]at hD;exact cont _ hD.1 (Va.trans (vq.trans hD.2))
  ·rw[aE (by simp[hq])]at jW;refine Za rfl (Za (v:=gY x.bS) (ld x2 (by rw[Zr];rfl)) ?_);refine Qd hP (f:=62) rfl g62.ok rfl (IH x.bS (by omega) τ2 rb t fi ev Ni Ci (d+1) _ JT (YN zX) tZ.2 (by omega) ht (by omega) (by omega) (by omega) uP zI (λτ' hD=>?_));rw[←jW]at hD;exact cont _ hD.1 (Va.trans (vq.trans hD.2))
 ·have h8:x.op≠8:=by simpa using h8
  have jW:cm b sd tg x t fi=if fi < fy x.op then (190,t,fi,[])else ((iY b t sd tg x.op x.who x.name (dO b t sd tg x.n)).1,(iY b t sd tg x.op x.who x.name (dO b t sd tg x.n)).2.1,
   (if (iY b t sd tg x.op x.who x.name (dO b t sd tg x.n)).1=0 then fi - fy x.op else fi),(iY b t sd tg x.op x.who x.name (dO b t sd tg x.n)).2.2):=by rw[NC,aE h8]
  have rB:=ZcB ud h8 (by omega);have hY:0<=x.op∧x.op<=7:=by
   rw[ye]at ud;simp only[AI,fE]at ud;exact⟨ud.1,by have:=ud.2.1;omega⟩
  refine av (Za (ld x1 (rf x)) (ZbY hr o1 o2 o3 o4 o5 o6 ol (u307 b t ht.rL (Xo.2 ⟨cN,ht.may⟩) h67 sd tg h01 x.n (zh zX) rB.1 rB.2) g96.ok.plain rfl (by rw[QA];rfl) λτ2 r2 Lo vq=>?_));have x2:=vq.2 _ _ (by omega) x1;have vp:∀c,p c→c<τ2.length:=λc e=>zAJ (OV c e) vq.1;have yw:=GH b t sd tg x.n;generalize dO b t sd tg x.n=n at *;have Dy:=Va.trans vq;refine Za rfl (Za rfl (Za rfl (Za (ld x2 (gO x)) (Za (Ys ..) (Ya (λh5=>?_) (λh5=>?_))))))
  ·have h5:x.op=5:=by simpa using h5
   have hu:fy x.op=0:=by unfold fy;rw[aJ h5]
   rw[hu,aE (by omega)]at jW;have UU:cm b sd tg x t fi=((iY b t sd tg x.op x.who x.name n).1,(iY b t sd tg x.op x.who x.name n).2.1,fi,(iY b t sd tg x.op x.who x.name n).2.2):=by
    rw[jW];split<;>simp
   refine Za (ND x2) (Qd hP (f:=97) rfl g97.ok rfl (W_ vp r2 Lo fH cN h67 ht (by omega) (by omega) h01 jg x n hY yw λτ' hD=>?_));exact cont _ (by rw[UU];exact hD.1) (Dy.trans (Kb.kq hD.2))
  ·have h5:x.op≠5:=by simpa using h5
   have hu:fy x.op=1:=by unfold fy;rw[aE h5]
   rw[hu]at jW;refine Za rfl (Za rfl (Za (v:=iv fi) (ld r2 rfl) (Za (Ot ..) (Ya (λhq=>?_) (λhq=>?_)))))
   ·have hq:fi<=0:=by simpa using hq
    rw[aJ (by omega)]at jW;refine Za rfl (Za rfl ?_);refine XH r2 rfl rfl rfl λτ3 r3 k3 He=>?_;refine fin _ ?_ (Dy.trans (Kb.kq k3)) (by rw[jW];show (190:Int)≠0;decide);rw[jW];exact⟨p,λc e=>zAJ (vp c e) k3.1,_,_,_,_,_,_,lv,r3,.inl rfl,.inl rfl,.inl rfl,.inl rfl,.inl rfl,.inl rfl,by simpa using Lo.mono He⟩
   ·have hq:¬fi<=0:=by simpa using hq
    rw[aE (by omega)]at jW;refine Za (ND x2) (Qd hP (f:=97) rfl g97.ok rfl (W_ vp r2 Lo fH cN h67 ht (by omega) (by omega) h01 jg x n hY yw λτ' hD=>?_));obtain⟨⟨p3,hp3,JT⟩,Hf⟩:=hD;generalize iY b t sd tg x.op x.who x.name n=r at *;obtain⟨er,S,ev2⟩:=r;dsimp only at *;have kb3:=Dy.trans (Kb.kq Hf);obtain⟨h0,g0,t0,h1,g1,t1,lv3,r3,w1,w2,w3,w4,w5,w6,wl⟩:=id JT;refine Za rfl (Za rfl (Za (v:=iv er) (ld r3 rfl) (Za (Ys ..) (Ya (λhz=>?_) (λhz=>?_)))))
    ·have hz:er=0:=by simpa using hz
     subst hz;rw[aJ rfl]at jW;refine Za rfl (Za rfl (Za (v:=iv fi) (ld r3 rfl) (Za (Cv ..) ?_)));rw[zAZ _ (by omega)];refine Za rfl (Za rfl ?_);refine XH r3 rfl rfl rfl λτ4 r4 k4 Dz=>?_;refine cont _ ?_ (kb3.trans (Kb.kq k4));rw[jW];exact⟨p3,λc e=>zAJ (hp3 c e) k4.1,h0,g0,t0,h1,g1,t1,lv3,r4,w1.mono λc=>Dz c 1,w2.mono λc=>Dz c 1,w3.mono λc=>Dz c 1,w4.mono λc=>Dz c 1,w5.mono λc=>Dz c 1,w6.mono λc=>Dz c 1,wl.mono Dz⟩
    ·have hz:er≠0:=by simpa using hz
     rw[aE hz]at jW;exact cont _ (by rw[jW];exact⟨p3,hp3,JT⟩) kb3
theorem IW(b:Bk)(sd tg:Int)(h01:sd=0∨sd=1)(jg:b.ai.length<=gn)(cN:(bz b).1=0)(h67:PC 42 [cC b] (.agg [iv (bz b).1,iv (bz b).2]))(l:List Ef):yH b sd tg l:=by
 have key:∀(m:Nat) (l:List Ef),(bw l).length<=m→yH b sd tg l:=by
  intro m
  induction m with
  |zero=>exact Ycv b sd tg h01 jg cN h67 0 (λ_ h=>absurd h (by omega))
  |succ m ih=>exact Ycv b sd tg h01 jg cN h67 (m+1) (λl h=>ih l (by omega))
 exact key _ l (IT _)
theorem u44(s:St)(hs:bd 1000000000 s):PC 31 [bZ s] (bZ s):=
 Ra (c19 s hs) ⟨zAC 11,(SB.copy (n:=0) (λi x h=>by rw[No];exact Zq h) (λi h=>zBR.2 (by omega))).agg⟩
theorem Xb0{cs:List aa}(h:cs.all aa.cell=true):cellsOf (.agg cs)=some cs:=by simp only[cellsOf,h,cond_true]
@[reducible] def VH(r:Int×St×Int×List Ev):aa:=.bp [bZ r.2.1,.aU false false 7 (r.2.2.2.map dF),iv r.2.2.1,iv r.1]
theorem u80(b:Bk)(sd tg:Int)(h01:sd=0∨sd=1)(jg:b.ai.length<=gn)(cN:(bz b).1=0)(h67:PC 42 [cC b] (.agg [iv (bz b).1,iv (bz b).2]))(l:List Ef)(dB:bE l=true)(bQ:bD b.ai true 1 l=true)(hw:dA 0 l<=200)
 (s:St)(fu:Int)(hf:0<=fu∧fu<=1000){N C:Nat}(hS:cY b N C s)(hN:N+12000<=1000000)(hC:C+200<=1000000):PC 34 [cC b,bZ s,.agg [iv sd,iv tg],gY l,iv fu] (VH (runs b sd tg l s fu)):=by
 have h50:=c25 b s hS.rL true _ _ h67;rw[Xo.2 ⟨cN,hS.may⟩]at h50;have h204:=u204 b.ai jg l dB;rw[bQ,fk hw]at h204;have h44:=u44 s hS.rL;have hW:(bw l).length<=200:=by rw[vG 0 l (by omega) (by omega)]at hw;omega
 have UH:bU b.ai true 1 l=true:=by simp only[bD,AI]at bQ;exact bQ.2.2
 refine Qi hP g34.ok rfl ?_;rw[H5.e];unfold g34;dsimp only;refine au (aY h50 g29.ok ?_);rcases h01 with rfl|rfl
 all_goals
  refine au ?_;rw[gm (show ¬fu<0 by omega)];refine au ?_;rw[gm (show ¬1000<fu by omega)];refine au (aY h204 g61.ok ?_);refine au (Y9 h44 g31.ok ?_);refine au ?_;refine Qd hP (f:=62) rfl g62.ok rfl ?_;refine IW b _ tg (by simp) jg cN h67 l _ 4 s fu [] N C 1 _ ⟨λ_=>False,λ_ e=>e.elim,_,_,_,_,_,_,.an,rfl,.inl rfl,.inl rfl,.inl rfl,.inl rfl,.inl rfl,.inl rfl,.inl ⟨rfl,rfl⟩⟩ dB UH hW hS (by omega) (by omega) (by simp;omega) hf.1 hf.2 λσ' hD=>?_;obtain⟨⟨p,hp,h0,g0,t0,h1,g1,t1,lv,hr,o1,o2,o3,o4,o5,o6,ol⟩,kb⟩:=hD;have z3:aj σ' 3=.box aZ:=kb.2 3 _ (by decide) rfl;generalize runs b _ tg l s fu=r at *;obtain⟨er,S,fi,cM⟩:=r;simp only[zAM]at *;dsimp only[List.length,List.append,zAL]at *;refine av ?_;have c1:=o1.e8;have c2:=o2.e8;have c3:=o3.e8;have c4:=o4.e8;have c5:=o5.e8;have c6:=o6.e8;have hc:cellsOf (.agg (tl S (aP S.ao) (aP S.s0.az) h0 g0 (gU S.s0.af) t0 (aP S.s1.az) h1 g1 (gU S.s1.af) t1))=some (tl S (aP S.ao) (aP S.s0.az) h0 g0 (gU S.s0.af) t0 (aP S.s1.az) h1 g1 (gU S.s1.af) t1):=by
   refine Xb0 ?_;simp only[List.all_cons,List.all_nil,c1,c2,c3,c4,c5,c6,zAz,zAF];rfl
  refine CA (zb:=3) z3 hc rfl rfl λτ z4 a4=>?_;refine Zw (by simp[Zj,Xn,Zn,Qv,cf,dZ,zAC,zAc,jN]) (Zs (yh z4 rfl) ?_);have kk:∀c n rs,aj σ' c=.rows n rs→aj τ c=.rows n rs:=λc n rs e=>a4.get e (by simp) (by simp;rintro rfl;rw[z3]at e;cases e);have s1:=o1.mono λc=>kk c 1;have s2:=o2.mono λc=>kk c 1;have s3:=o3.mono λc=>kk c 1;have s4:=o4.mono λc=>kk c 1;have s5:=o5.mono λc=>kk c 1;have s6:=o6.mono λc=>kk c 1;have sl:=(ol.mono kk).GP;exact⟨zAC τ.length,aB.bp (.cons (SB.mk (RI.ro _) (RI.ro _) s1.um s2.um (RT.ro _) s3.um (RI.ro _) s4.um s5.um (RT.ro _) s6.um).agg (.cons sl (bu.ro rfl)))⟩
theorem u216(s:St):PC 33 [bZ s] (aN (bN s)):=by
 refine Xa hP g33.ok rfl rfl ?_;rw[H1.e];unfold g33;dsimp only;unfold bN;by_cases h0:s.s0.aV<=0<;>by_cases h1:s.s1.aV<=0
 all_goals
  refine au ?_
  first|rw[fk h0]|rw[gm h0]
  first|rw[fk h1]|rw[gm h1]
  refine au ?_;simp[h0,h1]
theorem u99(b:Bk)(s:St)(hs:bd 1000000000 s)(h67:PC 42 [cC b] (.agg [iv (bz b).1,iv (bz b).2]))(r:Int):PC 14 [cC b,bZ s,aN r] (.bp [bZ (eo b s r).1,wa (eo b s r).2]):=by
 have h50:=c25 b s hs true _ _ h67;have h44:=u44 s hs;refine Qi hP g14.ok rfl ?_;rw[H3.e];unfold g14;dsimp only;refine au ?_;refine aY h44 g31.ok ?_;refine au ?_;have ho:yN b s r=(!(((decide (r<=0)||decide (r>3))||(s.phase==2)) || !aO (bz b).1 b s true)):=rfl;unfold eo;by_cases q1:r<=0
 ·rw[fk q1];refine au ?_;rw[aE (by rw[ho];simp[q1])];exact⟨[],aB.bp (.cons (aB.ro rfl) (.cons (o8 (e:=jm) RI.an) .nil))⟩
 rw[gm q1];refine au ?_;by_cases q3:3<r
 ·rw[fk q3];refine au ?_;rw[aE (by rw[ho];simp[q3])];exact⟨[],aB.bp (.cons (aB.ro rfl) (.cons (o8 (e:=jm) RI.an) .nil))⟩
 rw[gm q3];refine au ?_;refine aY h50 g29.ok ?_;generalize aO (bz b).1 b s true=m at *;cases m with
 |false=>
  refine au ?_;rw[aE (by rw[ho];simp)];exact⟨[],aB.bp (.cons (aB.ro rfl) (.cons (o8 (e:=jm) RI.an) .nil))⟩
 |true=>
 refine au ?_;by_cases q2:s.phase=2
 ·rw[show (s.phase==2)=true by simpa using q2];refine au ?_;rw[aE (by rw[ho];simp[q2])];exact⟨[],aB.bp (.cons (aB.ro rfl) (.cons (o8 (e:=jm) RI.an) .nil))⟩
 ·rw[show (s.phase==2)=false by simpa using q2];refine au ?_;rw[zAZ r (by omega),aJ (by rw[ho];simp[q2];omega)];exact⟨[],aB.bp (.cons (SB.mk (s:={ s with phase:=2,ao:=[],result:=r }) RI.an (RI.ro _) (RI.ro _) (RI.ro _) (RT.ro _) (RI.ro _) (RI.ro _) (RI.ro _) (RI.ro _) (RT.ro _) (RI.ro _)).agg (.cons (o8 (e:=⟨15,0,0,0,0,r,[]⟩) RI.an) .nil))⟩
theorem u214(b:Bk)(row:List Tr)(hl:row.length<=1000000000):PC 30 [cC b,nG row] (.bool (!row.any (kL b)&&decide ((row.length:Int)<=1000))):=by
 refine Xa hP g30.ok rfl rfl ?_;rw[H2.e];unfold g30;dsimp only;refine au ?_;refine Xg (ι:=Nat) (λi vs σ=>vs=[iv i]∧i<=row.length∧σ=[.box (cy b)]∧row.any (kL b)=(row.drop i).any (kL b)) (λi=>row.length-i) 0 ⟨rfl,by omega,rfl,rfl⟩ ?_;rintro i _ _ again ⟨rfl,hi,rfl,he⟩ bn;refine au ?_;rw[zAH];refine YS (λh=>?_) (λh=>?_)
 ·have cH:=λ(σ:List ab)=>Xm σ dH false false 3 row .i64 i h;rw[gI h,zCu]at he;generalize row[i]=x at *;have hb:kL b x=(((decide (x.card<0)||decide (x.card >= b.ai.length))||decide (x.side<0))||decide (x.side>1)):=rfl;refine Za (cH _) ?_;refine au ?_;by_cases q1:x.card<0
  ·rw[fk q1];refine au ?_;rw[he,hb,fk q1];rfl
  rw[gm q1];refine au ?_;refine Za (cH _) ?_;refine au ?_;rw[zAH];by_cases q2:(b.ai.length:Int)<=x.card
  ·rw[fk q2];refine au ?_;rw[he,hb,fk (show x.card >= b.ai.length from q2)];simp
  rw[gm q2];refine au ?_;refine Za (cH _) ?_;refine au ?_;by_cases q3:x.side<0
  ·rw[fk q3];refine au ?_;rw[he,hb,fk q3];simp
  rw[gm q3];refine au ?_;refine Za (cH _) ?_;refine au ?_;by_cases q4:1<x.side
  ·rw[fk q4];refine au ?_;rw[he,hb,fk (show x.side>1 from q4)];simp
  rw[gm q4];refine au ?_;rw[Qc (n:=i) (by omega)];refine bn (i+1) _ _ (by omega) ⟨rfl,by omega,rfl,?_⟩;rw[he,hb,gm q1,gm (show ¬x.card >= b.ai.length from q2),gm q3,gm (show ¬x.side>1 from q4)];rfl
 ·subst h;rw[zAD]at he;rw[he];refine au ?_;rw[zAH];rfl
def OT(σ:List ab)(v:aa)(l:List Th):Prop:=v=gU l∨(v=.an∧l=[])∨∃c,v=.sl c 0 l.length false∧aj σ c=.rows 4 (l.map bg)
theorem OT.bT{σ τ:List ab}{v:aa}{l:List Th}(h:OT σ v l)(hk:∀c rs,aj σ c=.rows 4 rs→aj τ c=.rows 4 rs):OT τ v l:=by
 rcases h with h|h|⟨c,h1,h2⟩
 ·exact .inl h
 ·exact .inr (.inl h)
 ·exact .inr (.inr ⟨c,h1,hk _ _ h2⟩)
theorem OT.rt{σ:List ab}{v:aa}{l:List Th}(h:OT σ v l):RT σ (zAC σ.length) v l:=by
 rcases h with rfl|⟨rfl,rfl⟩|⟨c,rfl,h2⟩
 ·exact RT.ro l
 ·exact RT.an
 ·exact RT.own h2 (zBR.2 (Yb h2)) rfl
theorem OT.len{σ:List ab}{v:aa}{l:List Th}(h:OT σ v l):Qn [v] σ=.ok (iv l.length) [] []:=by
 rcases h with rfl|⟨rfl,rfl⟩|⟨c,rfl,h2⟩
 ·simp[Qn]
 ·rfl
 ·rfl
theorem OT.at{σ:List ab}{v:aa}{l:List Th}(h:OT σ v l){i:Nat}(hi:i<l.length):∃p rd rW,Qh 4 [v,iv i] σ=.ok p rd []∧Qe true 4 [p] σ=.ok (.agg (bg l[i])) rW []:=by
 rcases h with rfl|⟨rfl,rfl⟩|⟨c,rfl,h2⟩
 ·exact⟨_,_,_,Xm σ bg false false 4 l .i64 i hi,rfl⟩
 ·simp at hi
 ·exact⟨.ptr c (0+i) 0,[c],[c],sE σ c 0 l.length false 4 _ .i64 i hi h2,by rw[No];exact z7 h2 (row:=bg l[i]) (by simp[hi]) rfl⟩
theorem OW.at{q:Nat→Prop}{σ:List ab}{v:aa}{l:List Int}(h:OW q σ v l){i:Nat}(hi:i<l.length):∃p rd rW,Qh 1 [v,iv i] σ=.ok p rd []∧Qe false 1 [p] σ=.ok (iv l[i]) rW []:=by
 rcases h with rfl|⟨rfl,rfl⟩|⟨c,rfl,h2,_⟩
 ·exact⟨_,_,_,Xm σ aR false false 1 l .i64 i hi,rfl⟩
 ·simp at hi
 ·exact⟨.ptr c (0+i) 0,[c],[c],sE σ c 0 l.length false 1 _ .i64 i hi h2,by rw[No];exact z7 h2 (row:=aR l[i]) (by simp[hi]) rfl⟩
theorem OT.cells{σ:List ab}{v:aa}{l:List Th}(h:OT σ v l):cellsOf v=some [v]:=by
 rcases h with rfl|⟨rfl,rfl⟩|⟨c,rfl,h2⟩<;>rfl
theorem OT.e8{σ:List ab}{v:aa}{l:List Th}(h:OT σ v l):v.cell=true:=by
 rcases h with rfl|⟨rfl,rfl⟩|⟨c,rfl,h2⟩<;>rfl
@[reducible] def evO(e:Ev):List aa:=cV e .an
theorem GR.lo{B:Nat}{l:List Ev}{lv:aa}{σ:List ab}(h:GR 7 evO B l lv σ)(hc:∀e∈l,e.ai=[]):LO (λ_=>True) l lv σ:=by
 rcases h with h|⟨c,h1,_,h3⟩
 ·exact .inl h
 ·refine .inr ⟨c,_,h1,h3,by simp,λi row e q1 q2=>?_⟩;rw[zAX,q2]at q1;cases q1;exact⟨_,rfl,.inr (.inl ⟨rfl,hc e (zAK q2)⟩)⟩
theorem OW.mv{q q':Nat→Prop}{σ τ:List ab}{v:aa}{l:List Int}(h:OW q σ v l)(hk:∀c rs,q c→aj σ c=.rows 1 rs→aj τ c=.rows 1 rs∧q' c):OW q' τ v l:=by
 rcases h with h|h|⟨c,h1,h2,h3⟩
 ·exact .inl h
 ·exact .inr (.inl h)
 ·exact .inr (.inr ⟨c,h1,(hk c _ h3 h2).1,(hk c _ h3 h2).2⟩)
structure GS (σ:List ab) (cb:Nat) (t:St) (c0 c1:Nat) (a d0 h0 u0 t0 d1 h1 u1 t1:aa):Prop where
 ne:c0≠c1
 box:aj σ cb=.box (tl t a d0 h0 (.sl c0 0 t.s0.al.length false) u0 t0 d1 h1 (.sl c1 0 t.s1.al.length false) u1 t1)
 r0:aj σ c0=.rows 1 (t.s0.al.map aR)
 r1:aj σ c1=.rows 1 (t.s1.al.map aR)
 a:OW (λc=>c≠c0∧c≠c1) σ a t.ao
 d0:OW (λc=>c≠c0∧c≠c1) σ d0 t.s0.az
 h0:OW (λc=>c≠c0∧c≠c1) σ h0 t.s0.hand
 u0:OT σ u0 t.s0.af
 t0:OW (λc=>c≠c0∧c≠c1) σ t0 t.s0.told
 d1:OW (λc=>c≠c0∧c≠c1) σ d1 t.s1.az
 h1:OW (λc=>c≠c0∧c≠c1) σ h1 t.s1.hand
 u1:OT σ u1 t.s1.af
 t1:OW (λc=>c≠c0∧c≠c1) σ t1 t.s1.told
theorem GS.bT{σ τ:List ab}{cb:Nat}{t:St}{c0 c1:Nat}{a d0 h0 u0 t0 d1 h1 u1 t1:aa}(h:GS σ cb t c0 c1 a d0 h0 u0 t0 d1 h1 u1 t1)(hk:∀c n rs,aj σ c=.rows n rs→aj τ c=.rows n rs)(hb:∀row,aj σ cb=.box row→aj τ cb=.box row):GS τ cb t c0 c1 a d0 h0 u0 t0 d1 h1 u1 t1:=
 ⟨h.ne,hb _ h.box,hk _ _ _ h.r0,hk _ _ _ h.r1,h.a.mono λc=>hk c 1,h.d0.mono λc=>hk c 1,h.h0.mono λc=>hk c 1,h.u0.bT λc=>hk c 4,h.t0.mono λc=>hk c 1,h.d1.mono λc=>hk c 1,h.h1.mono λc=>hk c 1,h.u1.bT λc=>hk c 4,h.t1.mono λc=>hk c 1⟩
theorem GS.sb{σ:List ab}{cb:Nat}{t:St}{c0 c1:Nat}{a d0 h0 u0 t0 d1 h1 u1 t1:aa}(h:GS σ cb t c0 c1 a d0 h0 u0 t0 d1 h1 u1 t1):SB σ (zAC σ.length) (tl t a d0 h0 (.sl c0 0 t.s0.al.length false) u0 t0 d1 h1 (.sl c1 0 t.s1.al.length false) u1 t1) t:=
 SB.mk h.a.um h.d0.um h.h0.um (RI.own h.r0 (zBR.2 (Yb h.r0)) rfl) h.u0.rt h.t0.um h.d1.um h.h1.um (RI.own h.r1 (zBR.2 (Yb h.r1)) rfl) h.u1.rt h.t1.um
theorem GS.cells{σ:List ab}{cb:Nat}{t:St}{c0 c1:Nat}{a d0 h0 u0 t0 d1 h1 u1 t1:aa}(h:GS σ cb t c0 c1 a d0 h0 u0 t0 d1 h1 u1 t1):cellsOf (.agg (tl t a d0 h0 (.sl c0 0 t.s0.al.length false) u0 t0 d1 h1 (.sl c1 0 t.s1.al.length false) u1 t1))=some (tl t a d0 h0 (.sl c0 0 t.s0.al.length false) u0 t0 d1 h1 (.sl c1 0 t.s1.al.length false) u1 t1):=by
 refine Xb0 ?_;simp only[List.all_cons,List.all_nil,h.a.e8,h.d0.e8,h.h0.e8,h.u0.e8,h.t0.e8,h.d1.e8,h.h1.e8,h.u1.e8,h.t1.e8,zAz,zAF];rfl
theorem GR.ot{B:Nat}{l:List Th}{v:aa}{σ:List ab}(h:GR 4 bg B l v σ):OT σ v l:=by
 rcases h with ⟨rfl,rfl⟩|⟨c,h1,_,h3⟩
 ·exact .inr (.inl ⟨rfl,rfl⟩)
 ·exact .inr (.inr ⟨c,h1,h3⟩)
theorem GR.ow{B:Nat}{l:List Int}{v:aa}{σ:List ab}(h:GR 1 aR B l v σ):OW (λ_=>True) σ v l:=by
 rcases h with ⟨rfl,rfl⟩|⟨c,h1,_,h3⟩
 ·exact .inr (.inl ⟨rfl,rfl⟩)
 ·exact .inr (.inr ⟨c,h1,h3,trivial⟩)
theorem YcQ(l:List Th)(k:Nat):(l.take k).eraseIdx k=l.take k:=zCJ (by simp;omega)
theorem ZcQ{l:List Th}{k j:Nat}(hj:j<l.length):(l.take (j+1)).eraseIdx k=if j=k then (l.take j).eraseIdx k else (l.take j).eraseIdx k++[l[j]]:=by
 rw[zAp hj];have hlen:(l.take j).length=j:=by rw[zAq];omega
 split
 ·rename_i h;subst h;rw[List.eraseIdx_append_of_length_le (by omega),hlen,zDP,YcQ];simp
 ·rename_i h;by_cases h2:k<j
  ·rw[List.eraseIdx_append_of_lt_length (by omega)]
  ·rw[zCJ (l:=l.take j++[l[j]]) (by simp;omega),zCJ (l:=l.take j) (by omega)]
theorem Xch{id:Int}{l:List Int}{j:Nat}(hj:j<l.length):bC id (l.take (j+1))=if l[j]=id then bC id (l.take j)else bC id (l.take j)++[l[j]]:=by
 rw[zAp hj];unfold bC;rw[List.filter_append];split<;>simp_all
theorem u315(b:Bk)(s:St)(hs:bd 1000000 s)(hm:aO (bz b).1 b s true=true)(h67:PC 42 [cC b] (.agg [iv (bz b).1,iv (bz b).2]))(ids:List Int)(pk:ids.length<=1000000) :
  PC 60 [cC b,bZ s,aP ids] (.bp [bZ (Yl ids s).1,.aU false false 7 ((Yl ids s).2.map dF)]):=by
 have gW:bd 1000000000 s:=hs.mono (by decide);have h50:=c25 b s gW true _ _ h67;rw[hm]at h50;refine Qi hP g60.ok rfl ?_;rw[H3.e];unfold g60;dsimp only;refine au (aY h50 g29.ok ?_);refine au (w19 gW ?_);dsimp only[po,mq,yF,uq];refine au ?_;simp only[IS,zAG,zAM,zAL,No,Nat.reduceAdd];refine Xg (ι:=Nat) (λi vs τ=>∃ t ev wc c0 c1 a d0 h0 u0 t0 d1 h1 u1 t1,vs=[iv i,wc]∧i<=ids.length∧GS τ 14 t c0 c1 a d0 h0 u0 t0 d1 h1 u1 t1∧GR 7 evO 15 ev wc τ∧aj τ 2=.box aZ∧15<=τ.length∧bd (1000000 + i) t∧ev.length<=i∧(∀ e∈ev,e.ai=[]) ∧
  Yl ids s=((Yl (ids.drop i) t).1,ev++(Yl (ids.drop i) t).2)) (λi=>ids.length-i) 0 ⟨s,[],.an,6,11,_,_,_,_,_,_,_,_,_,rfl,by omega,
   ⟨by decide,rfl,rfl,rfl,.inr (.inr ⟨3,rfl,rfl,by decide⟩),.inr (.inr ⟨4,rfl,rfl,by decide⟩),.inr (.inr ⟨5,rfl,rfl,by decide⟩),.inr (.inr ⟨7,rfl,rfl⟩),.inr (.inr ⟨8,rfl,rfl,by decide⟩),.inr (.inr ⟨9,rfl,rfl,by decide⟩),.inr (.inr ⟨10,rfl,rfl,by decide⟩),.inr (.inr ⟨12,rfl,rfl⟩),.inr (.inr ⟨13,rfl,rfl,by decide⟩)⟩,
   .inl ⟨rfl,rfl⟩,rfl,by simp,by simpa using hs,by simp,by simp,rfl⟩ ?_
 rintro i _ τ again ⟨t,ev,wc,c0,c1,a,d0,h0,u0,t0,d1,h1,u1,t1,rfl,hi,G,fg,hz,h4,hle,hel,T6,ba⟩ bn;have hb:=G.box;refine av ?_;rw[zAH];have Hc:bd 1000000000 t:=hle.mono (by omega);refine Ya (λh=>?_) (λh=>?_);rotate_left
 ·have h:i=ids.length:=by simp at h;omega
  subst h;rw[zAD]at ba;have ba:Yl ids s=(t,ev):=by rw[ba];simp[Yl]
  rw[ba];refine av ?_;refine XH hz G.cells rfl rfl λτ' z' kq kk=>?_;refine Zs (yh z' rfl) ?_;have G':=G.bT (τ:=τ') kk λrow e=>kq.box e (by decide);have fg:=(fg.bT λc=>kk c 7).lo T6;exact⟨zAC τ'.length,aB.bp (.cons G'.sb.agg (.cons fg.GP .nil))⟩
 have h:i<ids.length:=by simpa using h
 rw[gI h]at ba;have cH:=λ(σ:List ab)=>Xm σ aR false false 1 ids .i64 i h;generalize ids[i]=id at *;refine Qg λk' ek=>?_;refine av ?_;refine Za (cH _) ?_;refine av ?_;have h48:=c23 t Hc id;unfold gz at h48;refine Zu h48 rfl g56.ok.plain (.cons G.sb.agg (bu.ro rfl)) rfl ?_;refine av ?_;rcases Ych t id with lZ|⟨side,k,ta⟩
 ·have hB:=Xby lZ;rw[lZ];refine av ?_;rw[ek];refine Za (Qj ..) ?_;rw[Qc (n:=i) (by omega)];refine bn (i+1) _ _ (by omega) ⟨t,ev,wc,_,_,_,_,_,_,_,_,_,_,_,rfl,by omega,G,fg,hz,h4,hle.mono (by omega),by omega,T6,?_⟩;rw[ba,Yl,hB];simp
 obtain⟨pI,u,jT,gP,hB⟩:=Zby ta;have b_:k<(t.side side).af.length:=(gK jT).1;have O4:(t.side side).af.length<=1000000000:=by rcases pI with rfl|rfl;exact Hc.s0.af;exact Hc.s1.af
 rw[ta];refine av ?_;have CT:=Yby hle id;have KP:Yl ids s=((Yl (ids.drop (i+1)) (Qm t id).1).1,ev++((Qm t id).2++(Yl (ids.drop (i+1)) (Qm t id).1).2)):=by rw[ba,Yl]
 rcases pI with rfl|rfl
 rotate_left;have wt:OT τ u1 (t.side 1).af:=G.u1;obtain⟨cg,C5⟩:∃cg,cg=c1:=⟨_,rfl⟩;obtain⟨gr,Dc⟩:∃gr,gr=(t.side 1).al:=⟨_,rfl⟩;have rg:aj τ cg=.rows 1 (gr.map aR):=by rw[C5,Dc];exact G.r1
 have hgl:gr.length<=1000000000:=by rw[Dc];exact Hc.s1.al
 rotate_left;have wt:OT τ u0 (t.side 0).af:=G.u0;obtain⟨cg,C5⟩:∃cg,cg=c0:=⟨_,rfl⟩;obtain⟨gr,Dc⟩:∃gr,gr=(t.side 0).al:=⟨_,rfl⟩;have rg:aj τ cg=.rows 1 (gr.map aR):=by rw[C5,Dc];exact G.r0
 have hgl:gr.length<=1000000000:=by rw[Dc];exact Hc.s0.al
 all_goals
  obtain⟨pt,xo,rW,e1,e2⟩:=wt.at b_;refine av (Za e1 ?_);have vn:=(gK jT).2;rw[vn]at e2;clear vn e1 jT;refine Za e2 (Qu (row:=bg u) (row':=bg u) rfl rfl rfl ?_);have G1:=G.bT (τ:=τ++[.box (bg u)]) (λc n rs e=>QC _ e) (λrow e=>Qb [_] e);have zH:=fg.bT (τ:=τ++[.box (bg u)]) (λc rs e=>QC _ e);have hz1:=Qb [ab.box (bg u)] hz;have n1:=Yc τ (.box (bg u));have wt1:=wt.bT (τ:=τ++[.box (bg u)]) (λc rs e=>QC _ e);have rg1:=QC [.box (bg u)] rg;have oM:(τ++[ab.box (bg u)]).length=τ.length+1:=by simp
  generalize τ++[_]=τ1 at *;clear wt hz hb;generalize UZ:(St.side t _).af=us at b_ O4 wt1 hB;refine Xg (ι:=Nat) (λj vs υ=>∃uv,vs=[iv j,uv]∧j<=us.length∧GR 4 bg τ1.length ((us.take j).eraseIdx k) uv υ∧(∀c,c<τ1.length→aj υ c=aj τ1 c)∧τ1.length<=υ.length) (λj=>us.length-j) 0 ⟨.an,rfl,by omega,.inl ⟨by simp,rfl⟩,λ_ _=>rfl,IT _⟩ ?_;rintro j _ υ mE ⟨uv,rfl,hj,hg,sr,dU⟩ ll;have Vk:∀c n rs,aj τ1 c=.rows n rs→aj υ c=.rows n rs:=λc n rs e=>by rw[sr c (Yb e)];exact e
  have vq:∀c row,aj τ1 c=.box row→aj υ c=.box row:=λc row e=>by rw[sr c (Yb e)];exact e
  have G2:=G1.bT Vk (vq 14);have V_:=wt1.bT λc=>Vk c 4;have lV:=G2.box;have n2:=vq _ _ n1;refine av (Za V_.len ?_);refine av (Ya (λhq=>?_) (λhq=>?_))
  ·have uQ:j<us.length:=by simpa using hq
   have en:=ZcQ (k:=k) uQ;obtain⟨p2,B5,O8,f1,f2⟩:=V_.at uQ;refine Qg λk2 yl=>?_;refine av (Ya (λqE=>?_) (λqE=>?_))
   ·have qE:j≠k:=by rintro rfl;simp at qE
    rw[aE qE]at en;refine av ?_;refine Za f1 (Za f2 ?_);refine Cq hg dU us[j] rfl rfl (by have:=List.length_eraseIdx_le (us.take j) k;rw[zAq]at this;omega) λnv υ2 g2 q1 q2 _=>?_;rw[yl];refine Za (Qj ..) ?_;rw[Qc (n:=j) (by omega)];exact ll (j+1) _ _ (by omega) ⟨nv,rfl,by omega,by rw[en];exact g2,λc hc=>by rw[q1 c hc,sr c hc],by omega⟩
   ·have qE:j=k:=by simp at qE;omega
    rw[aJ qE]at en;rw[yl];refine Za (Qj ..) ?_;rw[Qc (n:=j) (by omega)];exact ll (j+1) _ _ (by omega) ⟨uv,rfl,by omega,by rw[en];exact hg,sr,dU⟩
  have uQ:j=us.length:=by simp at hq;omega
  subst uQ;rw[zAr]at hg;refine av ?_;refine XH lV hg.ot.cells rfl rfl λτ2 b2 Vh yB=>?_;have Vl:∀c n rs,aj τ1 c=.rows n rs→aj τ2 c=.rows n rs:=λc n rs e=>yB c n rs (Vk c n rs e);have hgu:=hg.bT λc=>yB c 4;have n3:=Vh.box n2;have l3:=Vh.1;have oa3:=G1.a.mono λc=>Vl c 1;have J7:=zH.bT λc=>Vl c 7;have yA:=Vh.box (vq _ _ hz1) (by decide);clear lV n2 V_ G2 hg;have hal:=Hc.ao;refine Xg (ι:=Nat) (λj vs υ=>∃uv,vs=[iv j,uv]∧j<=t.ao.length∧GR 1 aR τ2.length (bC id (t.ao.take j)) uv υ∧(∀c,c<τ2.length→aj υ c=aj τ2 c)∧τ2.length<=υ.length) (λj=>t.ao.length-j) 0 ⟨.an,rfl,by omega,.inl ⟨by simp[bC],rfl⟩,λ_ _=>rfl,IT _⟩ ?_;rintro j _ υ3 S3 ⟨av3,rfl,hj,so,ON,lY⟩ JW;have kr4:∀c n rs,aj τ2 c=.rows n rs→aj υ3 c=.rows n rs:=λc n rs e=>by rw[ON c (Yb e)];exact e
  have Vb:∀c row,aj τ2 c=.box row→aj υ3 c=.box row:=λc row e=>by rw[ON c (Yb e)];exact e
  have Vy:=oa3.mono λc=>kr4 c 1;have b4:=Vb _ _ b2;have n4:=Vb _ _ n3;refine av (Za Vy.len ?_);refine av (Ya (λhq=>?_) (λhq=>?_))
  ·have uQ:j<t.ao.length:=by simpa using hq
   have en:=Xch (id:=id) uQ;obtain⟨p2,B5,O8,f1,f2⟩:=Vy.at uQ;refine Qg λk2 yl=>?_;refine av (Za f1 (Za f2 ?_));refine av (Ya (λqE=>?_) (λqE=>?_))
   ·have qE:t.ao[j]≠id:=by rw[←gP];simpa using qE
    rw[aE qE]at en;refine av ?_;refine Za f1 (Za f2 ?_);refine Cq so lY t.ao[j] rfl rfl (by have:=Wy id (t.ao.take j);rw[zAq]at this;omega) λnv υ2 g2 q1 q2 _=>?_;rw[yl];refine Za (Qj ..) ?_;rw[Qc (n:=j) (by omega)];exact JW (j+1) _ _ (by omega) ⟨nv,rfl,by omega,by rw[en];exact g2,λc hc=>by rw[q1 c hc,ON c hc],by omega⟩
   ·have qE:t.ao[j]=id:=by rw[←gP];simpa using qE
    rw[aJ qE]at en;rw[yl];refine Za (Qj ..) ?_;rw[Qc (n:=j) (by omega)];exact JW (j+1) _ _ (by omega) ⟨av3,rfl,by omega,by rw[en];exact so,ON,lY⟩
  have uQ:j=t.ao.length:=by simp at hq;omega
  subst uQ;rw[zAr]at so;refine av ?_;refine XH b4 so.ow.cell rfl rfl λτ3 b5 Vi qH=>?_;have Vm:∀c n rs,aj τ2 c=.rows n rs→aj τ3 c=.rows n rs:=λc n rs e=>qH c n rs (kr4 c n rs e);have DA:∀c n rs,aj τ1 c=.rows n rs→aj τ3 c=.rows n rs:=λc n rs e=>Vm c n rs (Vl c n rs e);have hga:=so.bT λc=>qH c 1;have Kc:=hgu.bT λc=>Vm c 4;have n5:=Vi.box n4;have T8:=J7.bT λc=>Vm c 7;have U3:=Vi.box (Vb _ _ yA) (by decide);have l5:=Vi.1;clear b4 n4 Vy oa3 J7 yA hgu so b2 n3;refine av ?_;have Lz:=DA _ _ _ rg1;have lcg:=Yb rg1;refine Xf (v:=.sl τ3.length 0 1 true) (rd:=[]) (up:=[(τ3.length,.rows 1 [[iv u.card]])]) rfl (Xe τ3 _) ?_;rw[←C5];refine Iy (l:=gr) (x:=u.card) (Qb [_] Lz) (Yc τ3 _) (by rw[Dc];rfl) hgl ?_;have ng:aj ((τ3++[ab.rows 1 [[iv u.card]]]).set cg ab.dead++[ab.rows 1 ((gr++[u.card]).map aR)]) (τ3++[ab.rows 1 [[iv u.card]]]).length=.rows 1 ((gr++[u.card]).map aR):=by
   have:=Yc ((τ3++[ab.rows 1 [[iv u.card]]]).set cg ab.dead) (ab.rows 1 ((gr++[u.card]).map aR));simpa using this
  have kx:∀c,c<τ3.length→c≠cg→aj ((τ3++[ab.rows 1 [[iv u.card]]]).set cg ab.dead++[ab.rows 1 ((gr++[u.card]).map aR)]) c=aj τ3 c:=λc hc hn=>by rw[Yf _ (by simp;omega),Xc _ (by simp;omega) hn,Yf _ hc]
  have lx:((τ3++[ab.rows 1 [[iv u.card]]]).set cg ab.dead++[ab.rows 1 ((gr++[u.card]).map aR)]).length=τ3.length+2:=by simp
  have nl:(τ3++[ab.rows 1 [[iv u.card]]]).length=τ3.length+1:=by simp
  rw[nl]at ng ⊢;generalize (τ3++[ab.rows 1 [[iv u.card]]]).set cg ab.dead++[ab.rows 1 ((gr++[u.card]).map aR)]=τ4 at *;have Vc:∀c row,aj τ3 c=.box row→aj τ4 c=.box row:=λc row e=>by rw[kx c (Yb e) (by rintro rfl;rw[Lz]at e;cases e)];exact e
  have b6:=Vc _ _ b5;have n6:=Vc _ _ n5;refine av (On b6 rfl rfl rfl λτ5 b7 BQ Ld=>?_);refine Zw (by
   have m1:τ3.length≠14:=by omega
   simp[Zj,Xn,Zn,Qv,cf,dZ,zAC,zAc,jN,m1,m1.symm]) ?_
  have n7:=BQ.box n6;have Vn:∀c n rs,c≠cg→aj τ3 c=.rows n rs→aj τ5 c=.rows n rs:=λc n rs hn e=>Ld c n rs (by rw[kx c (Yb e) hn];exact e);have C_:=T8.bT (τ:=τ5) λc rs e=>Vn c 7 rs (by rintro rfl;rw[Lz]at e;cases e) e;have l7:=BQ.1;refine av ?_;refine Cq C_ (by omega) ⟨13,_,u.card,u.id,0,0,[]⟩ rfl rfl (by omega) λnv υ6 g9996 _ q2 q3=>?_;rw[ek];refine Za (Qj ..) ?_;rw[Qc (n:=i) (by omega)];have Ki:∀c y,aj τ5 c=y→y≠.dead→(∀rs,y≠.rows 7 rs)→aj υ6 c=y:=λc y e h1 h2=>by rw[q3 c (Yb e h1) (by rw[e];exact h2)];exact e
  have ng7:=Ki _ _ (Ld _ _ _ ng) (by simp) (by simp);have aaN:cg<τ3.length:=Yb Lz;have mv:∀c rs,c<τ3.length→c≠cg→aj τ3 c=.rows 1 rs→aj υ6 c=.rows 1 rs:=λc rs _ hn e=>Ki _ _ (Vn c 1 rs hn e) (by simp) (by simp);have z_:∀c rs,aj τ3 c=.rows 4 rs→aj υ6 c=.rows 4 rs:=λc rs e=>Ki _ _ (Vn c 4 rs (by rintro rfl;rw[Lz]at e;cases e) e) (by simp) (by simp);have b8:=Ki _ _ b7 (by simp) (by simp);have z8:=Ki _ _ (BQ.box (Vc _ _ U3) (by decide)) (by simp) (by simp);have l13:τ1.length<=τ3.length:=by omega
  have lc0:=Yb G1.r0;have lc1:=Yb G1.r1;have M:∀q':Nat→Prop,(∀c,c<τ3.length→c≠c0→c≠c1→q' c)→∀v m,OW (λc=>c≠c0∧c≠c1) τ1 v m→OW q' υ6 v m:=λq' hq v m o=>o.mv λc rs h1 e=>by
   have hl:=Yb (DA _ _ _ e);exact⟨mv c rs hl (by rw[C5];first|exact h1.1|exact h1.2) (DA c 1 rs e),hq c hl h1.1 h1.2⟩
  have MA:∀q':Nat→Prop,(∀c,c<τ3.length→c≠c0→c≠c1→q' c)→OW q' υ6 av3 (bC id t.ao):=λq' hq=>by
   rcases hga with ⟨e1,e2⟩|⟨c,e1,e2,e3⟩
   ·rw[e1,e2];exact .inr (.inl ⟨rfl,rfl⟩)
   ·have hl:=Yb e3;exact .inr (.inr ⟨c,e1,mv c _ hl (by omega) e3,hq c hl (by omega) (by omega)⟩)
  have GF:∃S_ sN a' Tq GX V4 O_ Ts uG V5 O',GS υ6 14 (Qm t id).1 S_ sN a' Tq GX V4 O_ Ts uG V5 O':=by
   rw[hB];subst Dc
   first
    |exact⟨τ3.length+1,c1,_,_,_,_,_,_,_,_,_,⟨by omega,b8,ng7,mv c1 _ (by omega) (by rw[C5];exact G1.ne.symm) (DA _ _ _ G1.r1),MA _ (λc h1 h2 h3=>⟨by omega,h3⟩),M _ (λc h1 h2 h3=>⟨by omega,h3⟩) _ _ G1.d0,M _ (λc h1 h2 h3=>⟨by omega,h3⟩) _ _ G1.h0,Kc.ot.bT z_,M _ (λc h1 h2 h3=>⟨by omega,h3⟩) _ _ G1.t0,M _ (λc h1 h2 h3=>⟨by omega,h3⟩) _ _ G1.d1,M _ (λc h1 h2 h3=>⟨by omega,h3⟩) _ _ G1.h1,(G1.u1.bT λc=>DA c 4).bT z_,M _ (λc h1 h2 h3=>⟨by omega,h3⟩) _ _ G1.t1⟩⟩
    |exact⟨c0,τ3.length+1,_,_,_,_,_,_,_,_,_,⟨by omega,b8,mv c0 _ (by omega) (by rw[C5];exact G1.ne) (DA _ _ _ G1.r0),ng7,MA _ (λc h1 h2 h3=>⟨h2,by omega⟩),M _ (λc h1 h2 h3=>⟨h2,by omega⟩) _ _ G1.d0,M _ (λc h1 h2 h3=>⟨h2,by omega⟩) _ _ G1.h0,(G1.u0.bT λc=>DA c 4).bT z_,M _ (λc h1 h2 h3=>⟨h2,by omega⟩) _ _ G1.t0,M _ (λc h1 h2 h3=>⟨h2,by omega⟩) _ _ G1.d1,M _ (λc h1 h2 h3=>⟨h2,by omega⟩) _ _ G1.h1,Kc.ot.bT z_,M _ (λc h1 h2 h3=>⟨h2,by omega⟩) _ _ G1.t1⟩⟩
  obtain⟨S_,sN,a',Tq,GX,V4,O_,Ts,uG,V5,O',GF⟩:=GF;have e2:(Qm t id).2=_:=congrArg Prod.snd hB;refine bn (i+1) _ _ (by omega) ⟨(Qm t id).1,ev++(Qm t id).2,nv,S_,sN,a',Tq,GX,V4,O_,Ts,uG,V5,O',rfl,by omega,GF,by rw[e2,←gP];exact g9996,z8,by omega,CT,by rw[e2];simp;omega,λe he=>?_,by rw[KP,List.append_assoc]⟩;rcases zAI.1 he with he|he
  ·exact T6 e he
  ·rw[e2]at he;simp at he;rw[he]
theorem GR.tr{B:Nat}{l:List Tr}{v:aa}{σ:List ab}(h:GR 3 dH B l v σ):aB (hp σ) (zAC σ.length) v (nG l):=by
 rcases h with ⟨rfl,rfl⟩|⟨c,rfl,_,h3⟩
 ·exact aB.dY (aB.ro rfl) (λM u d=>d.e_ 3)
 ·refine aB.dY (aB.sl (rs:=l.map dH) (rs':=l.map dH) (Xw h3 (by simp)) (zBR.2 (Yb h3)) (by simp) (by simp) (λi row row' q1 q2=>?_)) (λM u d=>d.gS);rw[No]at q1;rw[q1]at q2;cases q2;rw[zAX]at q1;cases h:l[i]? with
  |none=>rw[h]at q1;cases q1
  |some x=>rw[h]at q1;cases q1;exact bu.ro rfl
theorem u215(b:Bk)(s:St)(cN:(bz b).1=0)(hM:dz b s)(h67:PC 42 [cC b] (.agg [iv (bz b).1,iv (bz b).2])) :
  PC 32 [cC b,bZ s] (.bp [bZ (Yl (aH b s) s).1,.aU false false 7 ((Yl (aH b s) s).2.map dF),nG (eX b s (aH b s))]):=by
 have hm:=Xo.2 ⟨cN,hM⟩;have hs:=MO hM;obtain⟨_,g_,T5⟩:=ZF hM;have h95:=q95 b s (hs.mono (by decide)) hm h67;have h315:=u315 b s hs hm h67 (aH b s) (by omega);generalize aH b s=D at *;refine Qi hP g32.ok rfl ?_;rw[H2.e];unfold g32;dsimp only;refine au (aY h95 g59.ok ?_);simp only[IS,zAG,zAM,zAL,No,Nat.reduceAdd];refine Xg (ι:=Nat) (λj vs τ=>∃wv,vs=[iv j,wv]∧j<=D.length∧GR 3 dH 3 (eX b s (D.take j)) wv τ∧aj τ 0=.box (cy b)∧aj τ 1=.box (aI s)∧aj τ 2=.box aZ∧3<=τ.length) (λj=>D.length-j) 0 ⟨.an,rfl,by omega,.inl ⟨rfl,rfl⟩,rfl,rfl,rfl,by simp⟩ ?_;rintro j _ τ again ⟨wv,rfl,hj,hg,z0,z1,z2,hl⟩ bn;refine av ?_;rw[zAH];refine YS (λh=>?_) (λh=>?_)
 ·have cH:=λ(σ:List ab)=>Xm σ aR false false 1 D .i64 j h;have gP:=g_ D[j] (AT h);have uX:=Pn b s D[j] (D.take j);rw[←zAp h]at uX;have ji:=Q5 b s (D.take j);rw[zAq]at ji;generalize D[j]=id at *;refine Qg λk' ek=>?_;refine av ?_;refine Za (cH _) ?_;refine av ?_;have h48:=c23 s (hs.mono (by decide)) id;unfold gz at h48;refine aY h48 g56.ok ?_;obtain⟨k,u,hk,hu,pI,huc⟩:=Sv gP;have uK:=Rh hM pI hu;have b_:(u.card).toNat<b.ai.length:=by omega
  have yr:Yr b u.card=b.ai[(u.card).toNat]:=by unfold Yr;rw[zAU b_];rfl
  rw[huc,yr]at uX;have mw:=(gK hu).1;have vn:=(gK hu).2;generalize aL s id=w at *;obtain⟨side,ki,ok⟩:=w;dsimp only at hk pI uX mw vn;subst hk;rcases pI with rfl|rfl
  all_goals
   refine av (Za (Xm _ bg false false 4 _ .i64 k mw) ?_);rw[vn];refine av ?_;refine Za (sH _ cL false false 12 b.ai .i64 u.card uK.1 b_) ?_;refine av ?_;rw[zAH];refine Ya (λhq=>?_) (λhq=>?_)
   ·have hq:0<(b.ai[(u.card).toNat]).dead.length:=by simpa using hq
    rw[aJ hq]at uX;refine av ?_;refine Cq hg hl ⟨u.card,_,false⟩ rfl rfl (by omega) λnv υ g2 q1 q2 _=>?_;rw[ek];refine Za (Qj ..) ?_;rw[Qc (n:=j) (by omega)];exact bn (j+1) _ _ (by omega) ⟨nv,rfl,by omega,by rw[uX];exact g2,by rw[q1 0 (by omega)];exact z0,by rw[q1 1 (by omega)];exact z1,by rw[q1 2 (by omega)];exact z2,by omega⟩
   ·have hq:¬0<(b.ai[(u.card).toNat]).dead.length:=by simpa using hq
    rw[aE hq,zBN]at uX;rw[ek];refine Za (Qj ..) ?_;rw[Qc (n:=j) (by omega)];exact bn (j+1) _ _ (by omega) ⟨wv,rfl,by omega,by rw[uX];exact hg,z0,z1,z2,hl⟩
 ·subst h;rw[zAr]at hg;refine av (aY h315 g60.ok ?_);refine av (vE λτ1 y1 a1 l1=>?_);refine XH y1 rfl rfl rfl λτ2 y2 k2 yB=>?_;refine av ?_;have z2':=k2.box (a1.get z2) (by simp;omega);refine XH z2' rfl rfl rfl λτ3 y3 k3 He=>?_;refine Zs (yh y3 rfl) ?_;have so:=hg.bT (τ:=τ3) λc rs e=>He c 3 rs (yB c 3 rs (a1.get e));exact⟨zAC τ3.length,aB.bp (.cons (aB.ro rfl) (.cons (aB.ro rfl) (.cons so.tr .nil)))⟩
theorem Zed{op n who:Int}(h:fJ false op n who=true):fJ true op n who=true:=by
 unfold fJ at h ⊢
 grind
mutual
theorem Zd1:∀x:Nm,eP false x=true→eP true x=true
 |.mk op n who kids,h=>by
  have h:(iM false op n who kids.length&&(cx false kids&&fJ false op n who))=true:=h
  show (iM true op n who kids.length&&(cx true kids&&fJ true op n who))=true
  simp only[AI]at h ⊢
  exact⟨h.1,R5 kids h.2.1,Zed h.2.2⟩
theorem R5:∀l:List Nm,cx false l=true→cx true l=true
 |[],_=>rfl
 |x::l,h=>by
  simp only[cx,AI]at h ⊢
  exact⟨Zd1 x h.1,R5 l h.2⟩
end
mutual
theorem XdW (cs:List Cd):∀x:Cn,fG cs false x=true→fG cs true x=true
 |.mk op who name aC kids,h=>by
  have h:(gM op aC.length kids.length&&(cx false aC&&(eH cs false kids&&gL cs op who name)))=true:=h
  show (gM op aC.length kids.length&&(cx true aC&&(eH cs true kids&&gL cs op who name)))=true
  simp only[AI]at h ⊢
  exact⟨h.1,R5 aC h.2.1,Ydb cs kids h.2.2.1,h.2.2.2⟩
theorem Ydb (cs:List Cd):∀l:List Cn,eH cs false l=true→eH cs true l=true
 |[],_=>rfl
 |x::l,h=>by
  simp only[eH,AI]at h ⊢
  exact⟨XdW cs x h.1,Ydb cs l h.2⟩
end
theorem Yd9{op who:Int}(h:iJ false op who=true):iJ true op who=true:=by
 unfold iJ pF at h ⊢
 grind
mutual
theorem Zes (cs:List Cd):∀(x:Ef) (d:Int),mH cs false d x=true→mH cs true d x=true
 |.mk op who n name c bP bS,d,h=>by
  have h:(decide (0<=op) && (decide (op<=8) && (if op=8 then
   decide (who=0)&&(el n&&(name==[]&&(fG cs false c&&((decide (bP.length<=16)&&(decide (d+1<=8)&&bU cs false (d+1) bP))&&(decide (bS.length<=16)&&(decide (d+1<=8)&&bU cs false (d+1) bS))))))
  else fe c && (decide (bP.length=0) && (decide (bS.length=0) && ((if cq op then eP false n else el n) && ((if op=7 then ee cs name true else name == []) && iJ false op who)))))))=true:=h
  show (decide (0<=op) && (decide (op<=8) && (if op=8 then
   decide (who=0)&&(el n&&(name==[]&&(fG cs true c&&((decide (bP.length<=16)&&(decide (d+1<=8)&&bU cs true (d+1) bP))&&(decide (bS.length<=16)&&(decide (d+1<=8)&&bU cs true (d+1) bS))))))
  else fe c && (decide (bP.length=0) && (decide (bS.length=0) && ((if cq op then eP true n else el n) && ((if op=7 then ee cs name true else name == []) && iJ true op who)))))))=true
  rw[AI,AI]at h ⊢
  refine⟨h.1,h.2.1,?_⟩
  have h:=h.2.2
  by_cases h8:op=8
  ·rw[aJ h8]at h ⊢
   simp only[AI]at h ⊢
   obtain⟨a1,a2,a3,a4,⟨a5,a6,a7⟩,a8,a9,a10⟩:=h
   exact⟨a1,a2,a3,XdW cs c a4,⟨a5,a6,HO cs bP _ a7⟩,a8,a9,HO cs bS _ a10⟩
  ·rw[aE h8]at h ⊢
   simp only[AI]at h ⊢
   obtain⟨a1,a2,a3,a4,a5,a6⟩:=h
   refine⟨a1,a2,a3,?_,a5,Yd9 a6⟩
   by_cases hc:cq op=true
   ·rw[aJ hc]at a4 ⊢;exact Zd1 n a4
   ·rw[aE hc]at a4 ⊢;exact a4
theorem HO (cs:List Cd):∀(l:List Ef) (d:Int),bU cs false d l=true→bU cs true d l=true
 |[],_,_=>rfl
 |x::l,d,h=>by
  simp only[bU,AI]at h ⊢
  exact⟨Zes cs x d h.1,HO cs l d h.2⟩
end
theorem Qc6{b:Bk}(h:(bz b).1=0){c:Cd}(hc:c∈b.ai):(bD b.ai true 1 c.dead=true∧dA 0 c.dead<=200)∧(bD b.ai true 1 c.dR=true∧dA 0 c.dR<=200):=by
 have k:=Ri h c hc;simp only[eG,AI,fE]at k;obtain⟨_,_,_,_,_,_,_,_,hw,_,hd,hn⟩:=k;have p0:=vG 0 c.c9 (by omega) (by omega);have p1:=vG 0 c.dead (by omega) (by omega);have p2:=vG 0 c.dR (by omega) (by omega);unfold o7 at hw;simp only[bD,AI,fE]at hd hn ⊢;exact⟨⟨⟨hd.1,hd.2.1,HO _ _ _ hd.2.2⟩,by omega⟩,⟨hn.1,hn.2.1,HO _ _ _ hn.2.2⟩,by omega⟩
theorem XcQ(a:Cd)(t:Tx)(u:Bool):∀p:List Cd,ee p t u=true→ee (p++[a]) t u=true:=by
 intro p
 induction p with
 |nil=>intro h;cases h
 |cons c p ih=>
  intro h;have h:(if c.name==t then c.unit || !u else ee p t u)=true:=h;show (if c.name==t then c.unit || !u else ee (p++[a]) t u)=true;by_cases hc:(c.name==t)=true
  ·rw[aJ hc]at h ⊢;exact h
  ·rw[aE hc]at h ⊢;exact ih h
theorem YbC{cs:List Cd}(hl:cs.length<=61):∀(n i:Nat),n+i=62→(∀k<i,(cs.any λc=>c.name==YI k)=true)→(cs.any λc=>c.name==yc cs n i)=false∧∃j,j<62∧yc cs n i=YI j
 |0,i,hi,h=>by
  have:=ZcG (by omega) h;omega
 |n+1,i,hi,h=>by
  unfold yc;by_cases q:(cs.any λc=>c.name==YI i)=true
  ·rw[aJ q];exact YbC hl n (i + 1) (by omega) (λk hk=>by
    by_cases e:k=i
    ·subst e;exact q
    ·exact h k (by omega))
  ·rw[aE q];exact⟨by simpa using q,i,by omega,rfl⟩
section
variable {A B:List Cd} (yn:∀t u,ee B t u=true→ee A t u=true)
include yn
theorem YdI{op who:Int}{name:Tx}(h:gL B op who name=true):gL A op who name=true:=by
 unfold gL at h ⊢;by_cases h6:op=6
 ·rw[aJ h6]at h ⊢;simp only[AI]at h ⊢;exact⟨h.1,yn _ _ h.2⟩
 ·rw[aE h6]at h ⊢;exact h
mutual
theorem Zda (t:Bool):∀x:Cn,fG B t x=true→fG A t x=true
 |.mk op who name aC kids,h=>by
  have h:(gM op aC.length kids.length&&(cx t aC&&(eH B t kids&&gL B op who name)))=true:=h
  show (gM op aC.length kids.length&&(cx t aC&&(eH A t kids&&gL A op who name)))=true
  simp only[AI]at h ⊢
  exact⟨h.1,h.2.1,Ycy t kids h.2.2.1,YdI yn h.2.2.2⟩
theorem Ycy (t:Bool):∀l:List Cn,eH B t l=true→eH A t l=true
 |[],_=>rfl
 |x::l,h=>by
  simp only[eH,AI]at h ⊢
  exact⟨Zda t x h.1,Ycy t l h.2⟩
end
mutual
theorem Xd9 (t:Bool):∀(x:Ef) (d:Int),mH B t d x=true→mH A t d x=true
 |.mk op who n name c bP bS,d,h=>by
  have h:(decide (0<=op) && (decide (op<=8) && (if op=8 then
   decide (who=0)&&(el n&&(name==[]&&(fG B t c&&((decide (bP.length<=16)&&(decide (d+1<=8)&&bU B t (d+1) bP))&&(decide (bS.length<=16)&&(decide (d+1<=8)&&bU B t (d+1) bS))))))
  else fe c && (decide (bP.length=0) && (decide (bS.length=0) && ((if cq op then eP t n else el n) && ((if op=7 then ee B name true else name == []) && iJ t op who)))))))=true:=h
  show (decide (0<=op) && (decide (op<=8) && (if op=8 then
   decide (who=0)&&(el n&&(name==[]&&(fG A t c&&((decide (bP.length<=16)&&(decide (d+1<=8)&&bU A t (d+1) bP))&&(decide (bS.length<=16)&&(decide (d+1<=8)&&bU A t (d+1) bS))))))
  else fe c && (decide (bP.length=0) && (decide (bS.length=0) && ((if cq op then eP t n else el n) && ((if op=7 then ee A name true else name == []) && iJ t op who)))))))=true
  rw[AI,AI]at h ⊢
  refine⟨h.1,h.2.1,?_⟩
  have h:=h.2.2
  by_cases h8:op=8
  ·rw[aJ h8]at h ⊢
   simp only[AI]at h ⊢
   obtain⟨a1,a2,a3,a4,⟨a5,a6,a7⟩,a8,a9,a10⟩:=h
   exact⟨a1,a2,a3,Zda yn t c a4,⟨a5,a6,Nj t bP _ a7⟩,a8,a9,Nj t bS _ a10⟩
  ·rw[aE h8]at h ⊢
   simp only[AI]at h ⊢
   obtain⟨a1,a2,a3,a4,a5,a6⟩:=h
   refine⟨a1,a2,a3,a4,?_,a6⟩
   by_cases h7:op=7
   ·rw[aJ h7]at a5 ⊢;exact yn _ _ a5
   ·rw[aE h7]at a5 ⊢;exact a5
theorem Nj (t:Bool):∀(l:List Ef) (d:Int),bU B t d l=true→bU A t d l=true
 |[],_,_=>rfl
 |x::l,d,h=>by
  simp only[bU,AI]at h ⊢
  exact⟨Xd9 t x d h.1,Nj t l d h.2⟩
end
theorem NM{t:Bool}{d:Int}{l:List Ef}(h:bD B t d l=true):bD A t d l=true:=by
 simp only[bD,AI]at h ⊢;exact⟨h.1,h.2.1,Nj yn t l d h.2.2⟩
theorem Qd5{c:Cd}(h:eG B c=true):eG A c=true:=by
 simp only[eG,AI]at h ⊢;obtain⟨q1,q2,q3,q4,q5,q6,q7,q8,q9,q10,q11,q12⟩:=h;exact⟨q1,q2,q3,q4,q5,q6,q7,q8,q9,NM yn q10,NM yn q11,NM yn q12⟩
theorem Wz{a:Cd}(ha:eG A a=true):∀(l pre:List Cd),(dE B pre l).1=0→((pre++l).any λd=>d.name==a.name)=false→(dE A pre (l++[a])).1=0
 |[],pre,_,hn=>by
  rw[zBN]at hn;show (dE A pre [a]).1=0;unfold dE;rw[aE (by simp[hn]),aJ ha];rfl
 |c::l,pre,h,hn=>by
  unfold dE at h;show (dE A pre (c::(l++[a]))).1=0;unfold dE;split at h
  ·cases h
  ·rename_i h1;rw[aE h1];split at h
   ·rename_i h2;rw[aJ (Qd5 yn h2)];exact Wz ha l _ h (by simpa using hn)
   ·cases h
end
theorem Aa:∀j<62,ez (YI j)=true:=by decide +kernel
theorem Zea{b:Bk}(cN:(bz b).1=0)(hl:b.ai.length<=61){l:List Ef}(h1:bD b.ai true 1 l=true)(h2:dA 0 l<=200):mV b l=true:=by
 have h:(cE b.ai).1=0:=by
  unfold bz at cN;split at cN
  ·rename_i h1;exact absurd cN h1
  ·rename_i h1;simpa using h1
 refine fk ?_;unfold cE at h ⊢;rw[aE (by omega)]at h;rw[aE (by simp;omega)];have up:∀t u,ee b.ai t u=true→ee (b.ai++[nC b.ai l]) t u=true:=λt u=>XcQ _ t u b.ai;obtain⟨f1,j,hj,f2⟩:=YbC hl 62 0 rfl (λk hk=>absurd hk (by omega));refine Wz up ?_ b.ai [] h ?_
 ·have hp:=NM up h1;have e1:dA 0 ([]:List Ef)=0:=rfl;simp only[eG,AI,fE];refine⟨?_,rfl,rfl,rfl,rfl,rfl,rfl,rfl,?_,hp,rfl,rfl⟩
  ·show ez (yc b.ai 62 0)=true;rw[f2];exact Aa j hj
  ·show min (dA 0 l+dA 0 []+dA 0 []) 1073741824<=200;rw[e1];omega
 ·rw[zAM];exact f1
theorem XcK{α:Type}{n by_:Nat}{f:α→List aa}{B:Nat}{σ:List ab}{l m:List α}{v y:aa}{rd:List Nat}(h:GR n f B l v σ)(hB:B<=σ.length)(hy:Xk n σ y=some (m.map f,rd))(hc:aW (m.map f)=true)(hlen:(2*(l.length+m.length)+192)*by_<=2 ^ 48){K:KT}
 (hK:∀nv τ,GR n f B (l++m) nv τ→(∀c,c<B→aj τ c=aj σ c)→σ.length<=τ.length→(∀c,c<σ.length→(∀rs,aj σ c≠.rows n rs)→aj τ c=aj σ c)→K nv τ) :
  VV.wr (Qf n by_ [v,y] σ) σ K:=by
 rcases h with ⟨rfl,rfl⟩|⟨c,rfl,h2,h3⟩
 ·exact Yd (Cc n by_ hy hc (by simpa using hlen)) (Xe σ _) (hK _ _ (.inr ⟨_,by simp,hB,by simpa using Yc σ _⟩) (λc hc=>Yf _ (by omega)) (by simp) (λc hc _=>Yf _ hc))
 ·have kH:=Yb h3;refine Yd (QP n by_ (off:=0) (len:=l.length) h3 (by simp) hy hc (by simpa using hlen)) (XI _ _ kH) (hK _ _ (.inr ⟨σ.length,by simp,hB,?_⟩) (λk hk=>by rw[Yf _ (by simp;omega),Xc _ (by omega) (by omega)]) (by simp) (λk hk hr=>by rw[Yf _ (by simp;omega),Xc _ hk (by rintro rfl;exact hr _ h3)]));have:=AO (σ:=σ) c (.rows n ((l.map f).drop 0++m.map f));simpa using this
def QS(B:Nat)(ws:List Tr)(qv:aa)(σ:List ab):Prop:=(ws=[]∧qv=.an)∨∃c off rows,qv=.sl c off ws.length false∧B<=c∧aj σ c=.rows 3 rows∧rows.length=ws.length+off∧rows.drop off=ws.map dH
theorem QS.bT{B:Nat}{ws:List Tr}{qv:aa}{σ τ:List ab}(h:QS B ws qv σ)(hk:∀c rs,aj σ c=.rows 3 rs→aj τ c=.rows 3 rs):QS B ws qv τ:=by
 rcases h with h|⟨c,off,rows,h1,h2,h3,h4⟩
 ·exact .inl h
 ·exact .inr ⟨c,off,rows,h1,h2,hk _ _ h3,h4⟩
theorem QS.len{B:Nat}{ws:List Tr}{qv:aa}{σ:List ab}(h:QS B ws qv σ):Qn [qv] σ=.ok (iv ws.length) [] []:=by
 rcases h with ⟨rfl,rfl⟩|⟨c,off,rows,rfl,_⟩<;>rfl
theorem QS.head{B:Nat}{x:Tr}{ws:List Tr}{qv:aa}{σ:List ab}(h:QS B (x::ws) qv σ):∃p xo rW u B5,Qh 3 [qv,iv 0] σ=.ok p xo []∧Qe true 3 [p] σ=.ok (.agg (dH x)) rW []∧Xy 3 [qv,iv 1] σ=.ok u B5 []∧QS B ws u σ:=by
 rcases h with ⟨h,_⟩|⟨c,off,rows,rfl,hB,h2,h3,h4⟩
 ·cases h
 rw[IS]at *;have dN:rows[off]?=some (dH x):=by
  have:(rows.drop off)[0]?=some (dH x):=by rw[h4];rfl
  grind
 have mX:rows.drop (off+1)=ws.map dH:=by
  have:(rows.drop off).drop 1=ws.map dH:=by rw[h4];rfl
  rwa [List.drop_drop]at this
 exact⟨.ptr c (off+0) 0,[c],[c],.sl c (off+1) ws.length false,[c],sE _ c off (ws.length+1) false 3 rows .i64 0 (by omega) h2,z7 h2 dN rfl,Zdi h2,.inr ⟨c,off+1,rows,rfl,hB,h2,by omega,mX⟩⟩
theorem Zdz{B:Nat}{σ:List ab}{ws ys:List Tr}{v y:aa}{rd:List Nat}(h:QS B ws v σ)(hB:B<=σ.length)(hy:Xk 3 σ y=some (ys.map dH,rd))(hlen:ws.length+ys.length<=100000000){K:KT}
 (hK:∀nv τ,QS B (ws++ys) nv τ→(∀c,c<B→aj τ c=aj σ c)→σ.length<=τ.length→(∀c,c<σ.length→(∀rs,aj σ c≠.rows 3 rs)→aj τ c=aj σ c)→K nv τ) :
  VV.wr (Qf 3 24 [v,y] σ) σ K:=by
 have hc:aW (ys.map dH)=true:=XQ λr hr=>by obtain⟨e,_,rfl⟩:=zAt.1 hr;rfl
 rcases h with ⟨rfl,rfl⟩|⟨c,off,rows,rfl,h2,h3,h4,h5⟩
 ·exact Yd (Cc 3 24 hy hc (by simp at hlen ⊢;omega)) (Xe σ _) (hK _ _ (.inr ⟨σ.length,0,ys.map dH,by simp,hB,Yc σ _,by simp,by simp⟩) (λc hc=>Yf _ (by omega)) (by simp) (λc hc _=>Yf _ hc))
 ·have kH:=Yb h3;refine Yd (QP 3 24 (off:=off) (len:=ws.length) h3 h4 hy hc (by simp;omega)) (XI _ _ kH) (hK _ _ (.inr ⟨σ.length,0,rows.drop off++ys.map dH,by simp,hB,AO c _,by simp[h4],by simp[h5]⟩) (λk hk=>by rw[Yf _ (by simp;omega),Xc _ (by omega) (by omega)]) (by simp) (λk hk hr=>by rw[Yf _ (by simp;omega),Xc _ hk (by rintro rfl;exact hr _ h3)]))
def nw(s:St):Int×Int×Int×Bool×Int:=(s.turn,s.mover,s.phase,s.bV,s.result)
theorem zf(s:St)(k:Int)(d:Sd):nw (s.put k d)=nw s:=by unfold St.put;split<;>rfl
theorem Qea(m:List Int)(s:St)(i:Int):nw (iP m s i)=nw s:=zf ..
theorem Nk(m:List Int):∀(l:List Int) (s:St),nw (dh s m l)=nw s
 |[],_=>rfl
 |i::l,s=>(Nk m l (iP m s i)).trans (Qea m s i)
theorem QdK{s:St}{k:Int}(e:(aS s k).2.2=0):nw (aS s k).1=nw s:=by
 unfold aS at e ⊢;split
 ·rename_i h;rw[h]at e;dsimp only at e;split at e
  ·rename_i q;rw[aJ q];exact zf ..
  ·cases e
 ·split
  ·exact(zf ..).trans rfl
  ·exact zf ..
theorem Zb2(k:Int):∀(j:Nat) (s:St),nw (Qq k j s).2.1=nw s
 |0,_=>rfl
 |j+1,s=>by
  unfold Qq;split
  ·rename_i e;exact(Zb2 k j _).trans (QdK e)
  ·rfl
theorem Zc9{kd:Int}{fP:Int→Int×Int}{fU:Th→Int×Int}{s:St}{id k:Int}(e:(fY kd fP fU s id k).2.2=0):nw (fY kd fP fU s id k).1=nw s:=by
 have z:∀(x:Int),x≠0→(iz,jm,x).2.2=0→False:=λx hx h=>hx h;have hP:∀v,(ni s kd k v).2.2=0→nw (ni s kd k v).1=nw s:=by
  intro v e;unfold ni at e ⊢;split at e
  ·rename_i q;rw[aJ q];exact zf ..
  ·exact(z _ (by decide) e).elim
 have hU:∀w i id u v,(jH s kd w i id u v).2.2=0→nw (jH s kd w i id u v).1=nw s:=by
  intro w i id u v e;unfold jH at e ⊢;split at e
  ·rename_i q;rw[aJ q];exact zf ..
  ·exact(z _ (by decide) e).elim
 grind [fY]
theorem Zex(b:Bk)(s:St)(sd tg op who:Int)(name:Tx)(n:Int):nw (iY b s sd tg op who name n).2.1=nw s:=by
 unfold iY;split
 ·unfold fX;split
  ·split
   ·rename_i e;unfold oO at e ⊢;split at e
    ·rename_i q;rw[aJ q];exact Zc9 e
    ·rename_i q;rw[aE q];exact Zc9 e
   ·rfl
  ·rfl
 split
 ·unfold ja;split
  ·exact Zb2 ..
  ·rfl
 split
 ·unfold eh;split
  ·rfl
  split
  ·rfl
  ·exact zf ..
 split
 ·unfold cU;split
  ·rfl
  ·exact(Nk ..).trans (zf ..)
 split
 ·unfold gy;split
  ·rfl
  ·exact Nk ..
 split
 ·exact Nk ..
 ·unfold YW;split
  ·rfl
  ·show nw (s.put sd { s.side sd with af:=(s.side sd).af++[⟨s.next,(fZ 0 b.ai name).1,0,true⟩] })=_;exact zf ..
mutual
theorem W6 (b:Bk) (sd tg:Int):∀(x:Ef) (s:St) (fu:Int),nw (cm b sd tg x s fu).2.1=nw s
 |.mk op who n name c bP bS,s,fu=>by
  rw[cm]
  split
  ·split
   ·exact Oi b sd tg bP s fu
   ·exact Oi b sd tg bS s fu
  split
  ·rfl
  ·exact Zex ..
theorem Oi (b:Bk) (sd tg:Int):∀(l:List Ef) (s:St) (fu:Int),nw (runs b sd tg l s fu).2.1=nw s
 |[],s,fu=>by rw[runs]
 |x::l,s,fu=>by
  rw[runs]
  split
  ·exact(Oi b sd tg l _ _).trans (W6 b sd tg x s fu)
  ·exact W6 b sd tg x s fu
end
theorem XaZ:∀(l:List Int) (s:St),(Yl l s).1.phase=s.phase
 |[],_=>rfl
 |id::l,s=>by
  rw[Yl];show (Yl l (Qm s id).1).1.phase=s.phase;rw[XaZ l];unfold Qm;split
  ·rfl
  ·split<;>rfl
def wb(e:Ev):List aa:=cV e (if e.kind=14 then .an else aP e.ai)
theorem XdY{e:Ev}(h:e.kind≠14):wb e=dF e:=by unfold wb;rw[aE h]
theorem Q_(l:List Ev):aW (l.map wb)=true:=XQ λr hr=>by obtain⟨e,_,rfl⟩:=zAt.1 hr;unfold wb;split<;>rfl
theorem LP{σ:List ab}{m:List Ev}(h:∀e∈m,e.kind≠14):Xk 7 σ (.aU false false 7 (m.map dF))=some (m.map wb,[]):=by
 rw[List.map_congr_left (g:=wb) λe he=>(XdY (h e he)).symm];simp[Xk]
theorem GR.loZ{B:Nat}{l:List Ev}{lv:aa}{σ:List ab}(h:GR 7 wb B l lv σ)(hz:∀e∈l,e.kind=14→e.ai=[]):LO (λ_=>True) l lv σ:=by
 rcases h with h|⟨c,h1,_,h3⟩
 ·exact .inl h
 ·refine .inr ⟨c,_,h1,h3,by simp,λi row e q1 q2=>?_⟩;rw[zAX,q2]at q1;cases q1;refine⟨_,rfl,?_⟩;split
  ·exact .inr (.inl ⟨rfl,hz e (zAK q2) ‹_›⟩)
  ·exact .inl rfl
def tj(again:mC)(v54:List aa)(σ:List ab):Prop:=
 VV.rd (Ym .neq false [h0 v54,.int .i8 0] σ) λt143=>VV.test t143 (
  VV.rd (Qe true 2 [.ak 0 0] σ) λt145=>VV.rd (Qe true 23 [.ak 3 0] σ) λt146=>VV.call (.call 14) [t145,t146,h0 v54] σ λt148 σ=>VV.rd (Xi 0 [t148] σ) λt149=>VV.rd (Xi 1 [t148] σ) λt150=>
  VV.wr (Qs aZ [] σ) σ λt25 σ=>VV.wr (Qs bX [] σ) σ λt26 σ=>VV.wr (Yj 23 [t25,t149] σ) σ λ_ σ=>VV.wr (Yj 7 [t26,t150] σ) σ λ_ σ=>VV.rd (Qe true 23 [t25] σ) λt151=>VV.wr (Yj 23 [.ak 3 0,t151] σ) σ λ_ σ=>
  VV.rd (Qe true 7 [t26] σ) λt153=>VV.wr (Yp 7 1 bX [(0,7)] [t153] σ) σ λt154 σ=>VV.wr (Qf 7 72 [h1 v54,t154] σ) σ λt155 σ=>again [t155,h2 v54,h3 v54] σ) (again [h1 v54,h2 v54,h3 v54] σ)
theorem YdQ{b:Bk}(h67:PC 42 [cC b] (.agg [iv (bz b).1,iv (bz b).2])){t:St}(ht:bd 1000000000 t){how:Int}(hr:1<=how∧how<=3){again:mC}{cM:List Ev}{ws:List Tr}{wc qv fv:aa}{τ:List ab}(fg:GR 7 wb 4 cM wc τ)(iS:QS 4 ws qv τ)
 (c0:aj τ 0=.box (cy b))(c2:aj τ 2=.box aZ)(c3:aj τ 3=.box (aI t))(l4:4<=τ.length)(hn:cM.length<=100000000)(h14:(eo b t how).2.kind≠14)
 (hK:∀nv τ',GR 7 wb 4 (cM++[(eo b t how).2]) nv τ'→QS 4 ws qv τ'→aj τ' 0=.box (cy b)→aj τ' 2=.box aZ→aj τ' 3=.box (aI (eo b t how).1)→4<=τ'.length→again [nv,qv,fv] τ'):tj again [aN how,wc,qv,fv] τ:=by
 have h99:=u99 b t ht h67 how;unfold tj;refine av ?_;rw[show (how != 0)=true by simp;omega];refine av (aY h99 g14.ok ?_);generalize eo b t how=r at *;obtain⟨S,e⟩:=r;dsimp only at *;refine av (vE λτ6 y6 a6 e6=>?_);refine vE λτ7 y7 a7 e7=>?_;have a67:=a6.trans a7;have y6:=a7.get y6;have c0:=a67.get c0;have c2:=a67.get c2;have c3:=a67.get c3;have fg:=fg.bT (τ:=τ7) λc rs e=>a67.get e;have iS:=iS.bT (τ:=τ7) λc rs e=>a67.get e;refine XH y6 rfl rfl rfl λτ8 y8 k8 kk8=>?_;have y7:=k8.box y7;have l8:=k8.1;refine XH y7 rfl rfl rfl λτ9 y9 k9 kk9=>?_;have y8:=k9.box y8;have l9:=k9.1;have c0:=k9.box (k8.box c0) (by simp;omega);have c2:=k9.box (k8.box c2) (by simp;omega);have c3:=k9.box (k8.box c3) (by simp;omega);have fg:=(fg.bT λc=>kk8 c 7).bT λc=>kk9 c 7;have iS:=(iS.bT λc=>kk8 c 3).bT λc=>kk9 c 3;refine av (XH c3 rfl rfl rfl λAE c3 k10 w_=>?_);have y9:=k10.box y9;have l10:=k10.1;have c0:=k10.box c0 (by decide);have c2:=k10.box c2 (by decide);have fg:=fg.bT λc=>w_ c 7;have iS:=iS.bT λc=>w_ c 3;refine av ?_;refine Cq fg (by omega) e (by rw[XdY h14];rfl) (Q_ [e]) (by omega) λnv2 F' fg q1 q2 q3=>?_;exact hK _ _ fg (iS.bT λc rs e=>by rw[q3 c (Yb e) (by rw[e];simp)];exact e) (by rw[q1 0 (by decide)];exact c0) (by rw[q1 2 (by decide)];exact c2) (by rw[q1 3 (by decide)];exact c3) (by omega)
theorem u93(b:Bk)(s:St)(hf:a_ b=true)(bY:Yg b.ai)(TZ:b.ai.length<=61)(cN:(bz b).1=0)(h67:PC 42 [cC b] (.agg [iv (bz b).1,iv (bz b).2]))(row:List Tr)(hl:row.length<=1000)(dN:∀x∈row,jR b x)(fu:Int){N C:Nat}(hS:cY b N C s)(hN:N+12000*(row.length+bF s+1)<=1000000)(hC:C+200*((Qp fu).toNat+1)+14<=1000000) :
  PC 9 [cC b,bZ s,nG row,iv fu] (mm (ca b s row fu)):=by
 have jg:b.ai.length<=gn:=by rw[cZ];omega
 have h50:=c25 b s hS.rL true _ _ h67;rw[Xo.2 ⟨cN,hS.may⟩]at h50;have h214:=u214 b row (by omega);have ou:row.any (kL b)=false:=by
  rw[zED];intro x hx;obtain⟨h1,h2,h3⟩:=dN x hx;have e1:¬x.card<0:=by omega
  have e2:¬x.card >= b.ai.length:=by omega
  have e3:¬x.side<0:=by omega
  have e4:¬x.side>1:=by omega
  unfold kL;rw[gm e1,gm e2,gm e3,gm e4];decide
 rw[ou,fk (by omega)]at h214;have h44:=u44 s hS.rL;refine Qi hP g9.ok rfl ?_;rw[H4.e];unfold g9;dsimp only;refine au (aY h50 g29.ok ?_);refine au (aY h214 g30.ok ?_);refine au ?_;refine aY h44 g31.ok ?_;refine au ?_;simp only[IS,zAG,zAM,zAL,No,Nat.reduceAdd];have wD:0<=Qp fu∧Qp fu<=1000:=by unfold Qp;omega
 have hF0:ca b s row fu=if s.phase=2 then (0,s,[],Qp fu)else YK b ((Qp fu).toNat+1) s row (Qp fu) []:=by
  unfold ca;rw[aE (by rw[Xo.2 ⟨cN,hS.may⟩];simp;omega),aE (by rw[ou];simp)]
 refine Zdz (B:=4) (ws:=[]) (ys:=row) (.inl ⟨rfl,rfl⟩) (by simp) (y:=nG row) (rd:=[]) (by simp[Xk]) (by simp;omega) λqv τ0 KG k0 l0 _=>?_;rw[zAM]at KG;simp only[IS,zAG,No,Nat.reduceAdd]at l0;have b0:aj τ0 0=.box (cy b):=by rw[k0 0 (by decide)];rfl
 have b2:aj τ0 2=.box aZ:=by rw[k0 2 (by decide)];rfl
 have b3:aj τ0 3=.box (aI s):=by rw[k0 3 (by decide)];rfl
 have iT:Zk s<=14:=by have h0:=hS.may.s0.af;have h1:=hS.may.s1.af;unfold Zk;omega
 refine Qg λkk ekk=>?_;refine Xg (ι:=Nat) (λm vs τ=>∃ t ws fi cM wc qv N' C' n,vs=[wc,qv,iv fi]∧m=(if t.phase=2 then 0 else fi.toNat * 100 + Zk t + 1)∧GR 7 wb 4 cM wc τ∧QS 4 ws qv τ∧aj τ 0=.box (cy b)∧aj τ 2=.box aZ∧aj τ 3=.box (aI t)∧4<=τ.length ∧
   cY b N' C' t∧C'+200*(fi.toNat+1)+14<=1000000∧(∀x∈ws,jR b x)∧(∀e∈cM,e.kind=14→e.ai=[])∧0<=fi∧fi<=1000∧fi<=((n:Nat):Int)∧(t.phase≠2→N'+12000*(ws.length+bF t+1)<=1000000∧cM.length+Zk t<=13000*(1001-fi.toNat)∧ws.length+14*Zk t<=1200+200*(1001-fi.toNat)) ∧
   ca b s row fu=(if t.phase=2 then (0,t,cM,fi)else YK b (n + 1) t ws fi cM)) (λm=>m) _ ⟨s,row,Qp fu,[],.an,qv,N,C,(Qp fu).toNat,rfl,rfl,.inl ⟨rfl,rfl⟩,KG,b0,b2,b3,l0,hS,hC,dN,by simp,wD.1,wD.2,by omega,λ_=>⟨hN,by have:=iT;simp;omega,by have:=iT;omega⟩,hF0⟩ ?_
 rintro m _ τ again ⟨t,ws,fi,cM,wc,qv,N',C',n,rfl,rfl,fg,iS,c0,c2,c3,l4,ht,TM,zW,hz,wB,uO,yu,hJ,hF⟩ bn;refine av ?_;refine Ya (λhp=>?_) (λhp=>?_)
 ·have hp:t.phase≠2:=by simpa using hp
  rw[aE hp]at hF bn;obtain⟨hN',hJ1,hJ2⟩:=hJ hp;have zC:=(Yz (aH b t) t).1;have T5:=Q5 b t (aH b t);have aau:=(ZF ht.may).2.2;have h215:=u215 b t cN ht.may h67;refine av (aY h215 g32.ok ?_);refine av (vE λτ1 z1 a1 e1=>?_);have c0:=a1.get c0;have c2:=a1.get c2;have c3:=a1.get c3;have fg:=fg.bT (τ:=τ1) λc rs e=>a1.get e;have iS:=iS.bT (τ:=τ1) λc rs e=>a1.get e;refine XH z1 rfl rfl rfl λτ2 z2 k2 yB=>?_;have n0:(0:Nat)∉[τ.length]:=by simp;omega
  have n2:(2:Nat)∉[τ.length]:=by simp;omega
  have n3:(3:Nat)∉[τ.length]:=by simp;omega
  have c0:=k2.box c0 n0;have c2:=k2.box c2 n2;have c3:=k2.box c3 n3;have fg:=fg.bT λc=>yB c 7;have iS:=iS.bT λc=>yB c 3;have l2:=k2.1;refine av (XH c3 rfl rfl rfl λτ3 c3 k3 He=>?_);have c0:=k3.box c0 (by decide);have c2:=k3.box c2 (by decide);have fg:=fg.bT λc=>He c 7;have iS:=iS.bT λc=>He c 3;have l3:=k3.1;have JZ:∀e∈(Yl (aH b t) t).2,e.kind≠14:=λe he=>by rw[((Yz (aH b t) t).2.1 e he).2];decide
  refine XcK fg (by omega) (m:=(Yl (aH b t) t).2) (LP JZ) (Q_ _) (by omega) λnv τ4 fg k4 l4b r4=>?_;have iS:=iS.bT (τ:=τ4) λc rs e=>by rw[r4 c (Yb e) (by rw[e];simp)];exact e
  refine Zdz iS (by omega) (ys:=eX b t (aH b t)) (rd:=[]) (by simp[Xk]) (by omega) λnq τ5 iS k5 l5 r5=>?_;have fg:=fg.bT (τ:=τ5) λc rs e=>by rw[r5 c (Yb e) (by rw[e];simp)];exact e
  have c0:aj τ5 0=.box (cy b):=by rw[k5 0 (by decide),k4 0 (by decide)];exact c0
  have c2:aj τ5 2=.box aZ:=by rw[k5 2 (by decide),k4 2 (by decide)];exact c2
  have c3:aj τ5 3=.box (aI (Yl (aH b t) t).1):=by rw[k5 3 (by decide),k4 3 (by decide)];exact c3
  refine av ?_;rw[zAH];refine Ya (λhq=>?_) (λhq=>?_)
  ·have hd:aH b t≠[]:=by intro e;rw[e]at hq;simp[Yl]at hq
   have hqs:=YbH (by omega:C'+14<=1000000) ws cM ht hd;have wJ:=Gx ht.may hd;have hbh:=Ph (aH b t) t (ZF ht.may).1 ht.may.un.2 (Xb1 cN ht.may);have wS:(Yl (aH b t) t).1.phase≠2:=by rw[XaZ];exact hp
   refine bn _ _ _ ?_ ⟨(Yl (aH b t) t).1,ws++eX b t (aH b t),fi,_,nv,nq,N',C',n,rfl,rfl,fg,iS,c0,c2,c3,by omega,ht.sM (by omega),TM,?_,?_,wB,uO,yu,λ_=>⟨by simp only[By];omega,by simp only[By];omega,by simp only[By];omega⟩,?_⟩
   ·rw[aE wS];omega
   ·intro x hx;rcases zAI.1 hx with hx|hx
    ·exact zW x hx
    ·exact Sm ht.may _ (ZF ht.may).2.1 x hx
   ·intro e he;rcases zAI.1 he with he|he
    ·exact hz e he
    ·exact λq=>absurd q (JZ e he)
   ·rw[aE wS,hF];unfold YK;rw[hqs]
  ·have hd:aH b t=[]:=by
    by_cases e:aH b t=[]
    ·exact e
    ·have h1:=Gx ht.may e;have h2:=(Yz (aH b t) t).1;have hq:¬0<(Yl (aH b t) t).2.length:=by simpa using hq
     omega
   rw[hd]at fg iS c3;simp only[Yl,eX,zBN]at fg iS c3;have hR:=NS (b:=b) n fi (ZbH (Zk t) ws cM hd);rw[hR]at hF;refine av (aY (u216 t) g33.ok ?_);have hrr:0<=bN t∧bN t<=3:=by unfold bN;grind
   generalize bN t=how at *;have oG:∀(how:Int) (S:St) (N2 C2:Nat) (fh:List Ev) (vc:List Tr) (we:Int) (CQ Lu:aa) (τ2:List ab),1<=how∧how<=3→cY b N2 C2 S→GR 7 wb 4 fh CQ τ2→QS 4 vc Lu τ2→aj τ2 0=.box (cy b)→aj τ2 2=.box aZ→aj τ2 3=.box (aI S)→4<=τ2.length→fh.length<=100000000→0<=we→we<=1000 →
     C2+200*(we.toNat+1)+14<=1000000→(∀x∈vc,jR b x)→(∀e∈fh,e.kind=14→e.ai=[])→ca b s row fu=jd b S fh we how→tj again [aN how,CQ,Lu,iv we] τ2:=by
    intro how S N2 C2 fh vc we CQ Lu τ2 hr OJ fg iS c0 c2 c3 l4 hn f0 f1 pX U0 my hF2;obtain⟨UI,Ds,KE⟩:=WI cN OJ hr;refine YdQ h67 OJ.rL hr fg iS c0 c2 c3 l4 hn KE λnv τ' fg iS c0 c2 c3 l4=>?_;refine bn 0 _ _ (by omega) ⟨_,vc,we,_,nv,Lu,N2,C2,we.toNat,rfl,by rw[aJ Ds],fg,iS,c0,c2,c3,l4,UI,pX,U0,λe he=>?_,f0,f1,by omega,λq=>absurd Ds q,by rw[aJ Ds,hF2];rfl⟩;rcases zAI.1 he with he|he
    ·exact my e he
    ·rw[zAw]at he;subst he;exact λq=>absurd q KE
   refine av ?_;by_cases hr:how=0
   ·subst hr;rw[aE (by simp)]at hF;refine Qa (Za rfl (Qa (Za iS.len (Qa (Za rfl ?_)))));cases ws with
    |nil=>
     refine av ?_;rw[ekk,hF];refine av (XH c2 rfl rfl rfl λτ6 y1 k1 Vj=>?_);refine Zs (yh y1 rfl) ?_;have fg:=fg.bT (τ:=τ6) λc=>Vj c 7;exact⟨zAC τ6.length,aB.bp (.cons (aB.ro rfl) (.cons (fg.loZ hz).GP (bu.ro rfl)))⟩
    |cons x ws=>
     dsimp only at hF;have hx:=zW x (by simp);have KZ:∀y∈ws,jR b y:=λy hy=>zW y (by simp[hy]);refine Za rfl (Ya (λh=>by simp at h;omega) λ_=>?_);refine Za rfl (Qa (Za rfl (Qa (Za rfl (Za rfl (Qg λk50 e50=>?_))))));by_cases tX:fi=0
     ·subst tX;rw[aJ rfl]at hF;refine Yh ?_;rw[e50];refine Za rfl (Qg λk53 e53=>Ye ?_);rw[e53];exact oG 3 t N' C' _ (x::ws) 0 _ _ _ (by decide) ht fg iS c0 c2 c3 (by omega) (by omega) (by decide) (by decide) TM zW hz hF
     rw[aE tX]at hF;refine Ya (λh=>absurd (by simpa using h) tX) λ_=>?_;rw[e50];refine Za rfl (Qg λk53 e53=>Yh ?_);obtain⟨p,xo,rW,u,B5,q1,q2,_,_⟩:=iS.head;refine Za q1 (Za q2 ?_);refine vE λτ6 y6 a6 e6=>?_;have c0:=a6.get c0;have c2:=a6.get c2;have c3:=a6.get c3;have fg:=fg.bT (τ:=τ6) λc rs e=>a6.get e;have iS:=iS.bT (τ:=τ6) λc rs e=>a6.get e;refine XH (cs:=dH x) y6 rfl rfl rfl λτ7 y7 k7 Ld=>?_;have c0:=k7.box c0;have c2:=k7.box c2;have c3:=k7.box c3;have fg:=fg.bT λc=>Ld c 7;have iS:=iS.bT λc=>Ld c 3;have l7:=k7.1;obtain⟨_,_,_,Lu,B5,_,_,q3,wU⟩:=iS.head;clear q1 q2 iS;refine Za q3 (Za (Cv ..) ?_);rw[zAZ _ (by omega)];refine av ?_;refine Cq fg (by omega) (nt x) rfl rfl (by omega) λnv2 τ8 fg r1 r2 r3=>?_;have y8:aj τ8 τ5.length=.box (dH x):=by rw[r3 _ (by omega) (by rw[y7];simp)];exact y7
     have c0:aj τ8 0=.box (cy b):=by rw[r1 0 (by decide)];exact c0
     have c2:aj τ8 2=.box aZ:=by rw[r1 2 (by decide)];exact c2
     have c3:aj τ8 3=.box (aI t):=by rw[r1 3 (by decide)];exact c3
     have iS:=wU.bT (τ:=τ8) λc rs e=>by rw[r3 c (Yb e) (by rw[e];simp)];exact e
     generalize τ5.length=xb at *;obtain⟨c,hc,c1,c5⟩:=Hy (b:=b) ⟨hx.1,hx.2.1⟩;have cH:=λ(σ:List ab)=>Xm σ cL false false 12 b.ai .i64 c hc;rw[←c1]at cH;have hE:bq b x=if x.dR=true then b.ai[c].dR else b.ai[c].dead:=by unfold bq;rw[c5]
     have ma:=Qc6 cN (AT hc);have zG:=Xcw hf bY (AT hc);generalize b.ai[c]=cd at *;refine av (Za (cH _) (Za rfl (Za (v:=gY cd.dead) (bB rfl) ?_)));refine Za rfl (Za (v:=.bool x.dR) (ld y8 rfl) (Qg λk76 e76=>?_));have body:k76 [gY (bq b x)] τ8:=by
      have jD:bE (bq b x)=true∧bD b.ai true 1 (bq b x)=true∧dA 0 (bq b x)<=200:=by
       rw[hE];split
       ·exact⟨zG.2.1,ma.2⟩
       ·exact⟨zG.1,ma.1⟩
      clear hE cH zG ma;obtain⟨f1,f2,f3⟩:=jD;rw[IS]at hN';have dB:=Zea cN TZ f2 f3;have h80:=u80 b x.side (-1) hx.2.2 jg cN h67 (bq b x) f1 f2 f3 t (fi-1) ⟨by omega,by omega⟩ ht (by omega) (by omega);rw[aE (show ¬Xs b x.side (fi-1) (bq b x)=true by unfold Xs;rw[dB];have:=hx.2.2;simp;omega)]at hF;have rm:=Ge b x.side (-1) (bq b x) t (fi-1) (by omega);have wS:(runs b x.side (-1) (bq b x) t (fi-1)).2.1.phase=t.phase:=congrArg (λp=>p.2.2.1) (Oi ..);have UR:=Q7 b x.side (-1) (bq b x) 1 t (fi-1) (NK cN hx);have OP:=Ij b x.side (-1) (bq b x) t (fi-1);have uN:(bw (bq b x)).length<=200:=by rw[vG 0 _ (by omega) (by omega)]at f3;omega
      obtain⟨k1,k2⟩:=AP (b:=b) (tg:=-1) hx.2.2 (bq b x) (fi-1) ht (by omega) (by omega);have k1:=k1.mono (N':=N'+12000) (C':=C'+200) (by omega) (by omega);rw[e76];refine av (aY h80 g34.ok ?_);generalize runs b x.side (-1) (bq b x) t (fi-1)=r at *;obtain⟨er,S,we,fh⟩:=r;dsimp only at *;refine av (vE λτ9 y9 a9 e9=>?_);have c0:=a9.get c0;have c2:=a9.get c2;have c3:=a9.get c3;have fg:=fg.bT (τ:=τ9) λc rs e=>a9.get e;have iS:=iS.bT (τ:=τ9) λc rs e=>a9.get e;refine XH y9 rfl rfl rfl λAE y10 k10 w_=>?_;have c0:=k10.box c0;have c2:=k10.box c2;have c3:=k10.box c3;have fg:=fg.bT λc=>w_ c 7;have iS:=iS.bT λc=>w_ c 3;have l10:=k10.1;refine Za (Z6 ..) ?_;by_cases ou:er≠0∧er≠190
      ·rw[aE ou.1,aE ou.2]at hF;rw[fk ou.1,hF];refine Qa (Za rfl (Qa (Za (Z6 ..) ?_)));rw[fk ou.2];refine av (XH c2 rfl rfl rfl λF' y11 k11 aaM=>?_);refine Zs (yh y11 rfl) ?_;exact⟨[],aB.bp (.cons SB.zero.agg (.cons (aB.nl 7) (bu.ro rfl)))⟩
      have skip:∀K,K (.bool false)→VV.gr (.bool (decide (er≠0))) true (λk=>VV.rd (qM [iv er] AE) k) λv=>VV.gr (.bool (decide (er≠0))) true (λk=>VV.rd (Ym .neq false [v,.int .i64 190] AE) k) λw=>VV.rd (Zo [.bool (decide (er≠0)),w,.bool false] AE) K:=by
       intro K hk;by_cases h0:er≠0
       ·have h1:¬er≠190:=λq=>ou ⟨h0,q⟩;rw[fk h0];refine Qa (Za rfl (Qa (Za (Z6 ..) ?_)));rw[gm h1];exact Za rfl hk
       ·rw[gm h0];exact Zc rfl (Zc rfl (Za rfl hk))
      refine skip _ (Ye (Za (ld y10 rfl) ?_));refine XH c3 rfl rfl rfl λF' c3 k11 Lc=>?_
      replace c3:aj F' 3=.box (aI S):=c3
      have c0:=k11.box c0 (by decide);have c2:=k11.box c2 (by decide);have fg:=fg.bT λc=>Lc c 7;have iS:=iS.bT λc=>Lc c 3;have l11:=k11.1;refine XcK fg (by omega) (m:=fh) (LP OP) (Q_ _) (by simp only[By,IS,zAG];omega) λnv3 AF fg q1 q2 q3=>?_;have iS:=iS.bT (τ:=AF) λc rs e=>by rw[q3 c (Yb e) (by rw[e];simp)];exact e
      have c0:aj AF 0=.box (cy b):=by rw[q1 0 (by decide)];exact c0
      have c2:aj AF 2=.box aZ:=by rw[q1 2 (by decide)];exact c2
      have c3:aj AF 3=.box (aI S):=by rw[q1 3 (by decide)];exact c3
      have my:∀e∈cM++[nt x]++fh,e.kind=14→e.ai=[]:=by
       intro e he;rcases zAI.1 he with he|he
       ·rcases zAI.1 he with he|he
        ·exact hz e he
        ·rw[zAw]at he;subst he;exact λ_=>rfl
       ·exact λq=>absurd q (OP e he)
      have aaH:Zk S<=14:=by have h0:=k1.may.s0.af;have h1:=k1.may.s1.af;unfold Zk;omega
      have fH:(cM++[nt x]++fh).length=cM.length+1+fh.length:=by simp;omega
      rw[IS]at hJ2;refine Za (Ys ..) (Ya (λh1=>?_) (λh1=>?_))
      ·have h1:er=190:=by simpa using h1
       subst h1;rw[aE (by decide),aJ rfl]at hF;rw[e53];exact oG 3 S _ _ _ ws we _ _ _ (by decide) k1 fg iS c0 c2 c3 (by omega) (by omega) rm.1 (by omega) (by omega) KZ my hF
      ·have h0:er=0:=by
        have h1:er≠190:=by simpa using h1
        by_cases h0:er=0
        ·exact h0
        ·exact absurd ⟨h0,h1⟩ ou
       subst h0;rw[aJ rfl]at hF;rw[e53];refine Za rfl (Ye ?_);obtain⟨n',rfl⟩:∃n',n=n'+1:=⟨n-1,by omega⟩;refine bn _ _ _ ?_ ⟨S,ws,we,_,nv3,_,_,_,n',rfl,rfl,fg,iS,c0,c2,c3,by omega,k1,by omega,KZ,my,rm.1,by omega,by omega,λ_=>⟨by omega,by omega,by omega⟩,?_⟩
       ·rw[aE (by rw[wS];exact hp)];omega
       ·rw[aE (by rw[wS];exact hp)];exact hF
     refine Ya (λhd=>?_) (λhd=>?_)
     ·rw[aJ hd]at hE;rw[hE]at body;exact av (Za (cH _) (Za rfl (Za (v:=gY cd.dR) (bB rfl) body)))
     ·rw[aE (by simpa using hd)]at hE;rw[hE]at body;exact body
   ·rw[aJ hr]at hF;have zy:(how==0)=false:=by simpa using hr
    rw[zy];refine Zc rfl (Zc rfl (Zc rfl ?_));refine av ?_;rw[zy];refine Zc rfl (Zc rfl (Za rfl (Qg λk50 e50=>Ye ?_)));rw[e50];refine Za rfl (Qg λk53 e53=>?_);rw[zy];refine Ye ?_;rw[e53];exact oG how t N' C' _ ws fi _ _ _ (by omega) ht fg iS c0 c2 c3 (by omega) (by omega) wB uO TM zW hz hF
 ·have hp:t.phase=2:=by simpa using hp
  rw[aJ hp]at hF;rw[ekk,hF];refine av (XH c2 rfl rfl rfl λτ1 y1 k1 Vj=>?_);refine Zs (yh y1 rfl) ?_;have fg:=fg.bT (τ:=τ1) λc=>Vj c 7;exact⟨zAC τ1.length,aB.bp (.cons (aB.ro rfl) (.cons (fg.loZ hz).GP (bu.ro rfl)))⟩
theorem V6(b:Bk)(s:St)(hf:a_ b=true)(bY:Yg b.ai)(jh:aO (bz b).1 b s true=true→b.ai.length<=61)(hs:bd 1000000000 s)(row:List Tr)(hl:row.length<=1000000000)(fu:Int)(N C:Nat)(hT:TB N s)(hC:Zm s<=C)(hN:aO (bz b).1 b s true=true→N+12000*(row.length+bF s+1)<=1000000)(pX:C+200*((Qp fu).toNat+1)+14<=1000000) :
  PC 9 [cC b,bZ s,nG row,iv fu] (mm (ca b s row fu)):=by
 have h67:=c67 b hf;have h50:=c25 b s hs true _ _ h67;have h214:=u214 b row hl;by_cases rq:aO (bz b).1 b s true=true∧(!row.any (kL b)&&decide ((row.length:Int)<=1000))=true
 ·obtain⟨hm,hr⟩:=rq;obtain⟨cN,hM⟩:=Xo.1 hm;simp only[AI,fE,zAf]at hr;exact u93 b s hf bY (jh hm) cN h67 row (by omega) (λx hx=>MW (by have:=zED.1 hr.1 x hx;simpa using this)) fu ⟨hM,hT,hC⟩ (hN hm) pX
 have hF:ca b s row fu=(170,iz,[],0):=by
  unfold ca
  grind
 rw[hF];refine Qi hP g9.ok rfl ?_;rw[H4.e];unfold g9;dsimp only;refine au (aY h50 g29.ok ?_);cases hm:aO (bz b).1 b s true with
 |false=>
  refine au ?_;exact⟨[],aB.bp (.cons SB.zero.agg (.cons (aB.nl 7) (bu.ro rfl)))⟩
 |true=>
  refine au (aY h214 g30.ok ?_);rw[show (!row.any (kL b)&&decide ((row.length:Int)<=1000))=false by simpa[hm]using rq];refine au ?_;exact⟨[],aB.bp (.cons SB.zero.agg (.cons (aB.nl 7) (bu.ro rfl)))⟩
theorem XbH{b:Bk}:∀(n:Nat) (s:St) (ws:List Tr) (fu:Int) (l:List Ev),(YK b n s ws fu l).1=0∨((YK b n s ws fu l).2.1=iz∧(YK b n s ws fu l).2.2.1=[])
 |0,_,_,_,_=>.inl rfl
 |n+1,s,ws,fu,l=>by
  unfold YK;split
  ·exact .inl rfl
  split
  ·exact .inl rfl
  split
  ·exact .inl rfl
  split
  ·exact .inr ⟨rfl,rfl⟩
  split
  ·exact XbH n ..
  split
  ·exact .inl rfl
  ·exact .inr ⟨rfl,rfl⟩
theorem Zdr(b:Bk)(s:St)(row:List Tr)(fu:Int):(ca b s row fu).1=0∨((ca b s row fu).2.1=iz∧(ca b s row fu).2.2.1=[]):=by
 unfold ca;split
 ·exact .inr ⟨rfl,rfl⟩
 split
 ·exact .inr ⟨rfl,rfl⟩
 split
 ·exact .inl rfl
 ·exact XbH ..
theorem Ycq(b:Bk)(s:St)(row:List Tr)(fu:Int):ca b s row fu=ca b s row (Qp fu):=by
 have:Qp (Qp fu)=Qp fu:=by unfold Qp;omega
 unfold ca;rw[this]
theorem XcS{b:Bk}{s:St}{row:List Tr}{fu:Int}{N C:Nat}(hT:TB N s)(hC:Zm s<=C)(hN:aO (bz b).1 b s true=true→N+12000*(row.length+bF s+1)<=1000000)(pX:C+200*((Qp fu).toNat+1)+14<=1000000):bd 1000000000 (ca b s row fu).2.1∧(ca b s row fu).2.2.1.length<=100000000:=by
 rcases Zdr b s row fu with e|⟨e1,e2⟩
 ·have hF:0<=Qp fu∧Qp fu<=1000:=by unfold Qp;omega
  rw[Ycq]at e ⊢;obtain⟨_,k,_,_,_,k2,_⟩:=Xcq hT hC hF hN pX e;exact⟨k.rL,by omega⟩
 ·rw[e1,e2];exact⟨⟨zBB _,⟨zBB _,zBB _,zBB _,zBB _,zBB _⟩,⟨zBB _,zBB _,zBB _,zBB _,zBB _⟩⟩,zBB _⟩
theorem i19(h91:PC 7 [] (.bool true))(b:Bk)(hf:a_ b=true)(bY:Yg b.ai)(s:St)(hs:bd 2000000 s)(row:List Tr)(fu:Int)(dN:row.length<=1000000000) :
  PC 3 [cC b,bZ s,nG row,iv fu] (.bool true):=by
 have gW:bd 1000000000 s:=hs.mono (by decide);have h67:=c67 b hf;refine Xa hP g3.ok rfl rfl ?_;rw[H4.e];unfold g3;dsimp only;refine au ?_;refine Qd hP rfl g5.ok rfl (Ta b hf _ _ (λq hq=>?_));obtain⟨σ,eσ⟩:∃σ:List ab,[ab.box (cy b)]++[ab.box (aI s)]++[ab.box (cy b)]=σ:=⟨_,rfl⟩;rw[show ([]++[ab.box (cy b)]++[ab.box (aI s)]++[ab.box (cy b)]:List ab)=σ from eσ];have b1:aj σ 0=.box (cy b):=by rw[←eσ];rfl
 have s1:aj σ 1=.box (aI s):=by rw[←eσ];rfl
 have hl:σ.length=3:=by rw[←eσ];rfl
 clear eσ;refine Ydy (d:=decide (2000<uu s)) (v1:=bZ s) (λ_=>ld s1 rfl) (λ_ k hk=>aY (Tb s hs) g6.ok hk) ?_;refine vg (d:=decide ((row.length:Int)>60)) (v1:=nG row) (v2:=iv row.length) (q2:=[]) (λ_=>rfl) (λ_=>by simp[Qn]) (λ_=>rfl) ?_;refine Ya (λ_=>aY h91 g7.ok rfl) (λhg=>?_);simp only[Bool.or_eq_false_iff,sG]at hg;obtain⟨⟨KG,eL⟩,hlen⟩:=hg;have J9:=hq KG;clear hq KG;refine Za (v:=iv (min fu 60)) (Z1 ..) ?_;have hF:Qp (min fu 60)<=60:=by unfold Qp;omega
 generalize min fu 60=F at *;have hT:TB 2000 s:=by unfold uu at eL;exact⟨by omega,by omega⟩
 have hC:Zm s<=((2000:Nat):Int):=by grind [uu,Zm]
 have h92:=q92 b s hf bY (λh=>Yb0 h J9) gW row F 2000 2000 hT hC (λh=>by have:=NL (Xo.1 h).2;omega) (by omega);have h93:=V6 b s hf bY (λh=>Yb0 h J9) gW row dN F 2000 2000 hT hC (λh=>by have:=NL (Xo.1 h).2;omega) (by omega);obtain⟨gk,dU⟩:=XcS (b:=b) (s:=s) (row:=row) (fu:=F) hT hC (λh=>by have:=NL (Xo.1 h).2;omega) (by omega);have hfw:=Ydr (b:=b) (s:=s) (row:=row) (fu:=F) hT hC (λh=>by have:=NL (Xo.1 h).2;omega) (by omega);refine Za (v:=cC b) (ld b1 rfl) (Za (v:=bZ s) (ld s1 rfl) (aY h92 g8.ok (Za rfl (Za rfl (Za rfl (Za rfl ?_))))));generalize ca b s row F=R at *;obtain⟨e,t,l,n⟩:=R;have h94:=i94 t gk hfw (zAY dU (by decide)) n e;refine vE λτ t2 a2 e2=>?_;rw[hl]at t2 ⊢;have b2:=a2.get b1;have s2:=a2.get s1;refine XH t2 rfl rfl rfl λτ t2 k2 _=>?_;have b2:=k2.box b2 (by simp);have s2:=k2.box s2 (by simp);have hl:=k2.1;refine av (aY h93 g9.ok ?_);refine av (vE λυ t3 a3 e3=>?_);have t2:=a3.get t2;refine XH t3 rfl rfl rfl λυ t3 k3 _=>?_;have t2:=k3.box t2;refine av (aY h94 g10.ok ?_);refine av (Yq (aY h91 g7.ok ?_));refine av ?_;rfl
open Go.Proofs.YtiplhedaicikiaaGreatDoor.Rows (uptoBulk uptoBulkAll)
variable {H:Type}
theorem X1(b:List UInt8):uptoBulk (DataW.lit (H:=H) (.string b))=b.length+1:=by simp only[uptoBulk]
theorem ZX(ds:List (DataW H)):uptoBulk (.agg ds)=uptoBulkAll ds+1:=by simp only[uptoBulk]
theorem Yd5(es sp:List (DataW H)):uptoBulk (.slice es sp)=uptoBulkAll es+uptoBulkAll sp+1:=by simp only[uptoBulk]
theorem ZE(d:DataW H)(ds:List (DataW H)):uptoBulkAll (d::ds)=uptoBulk d+uptoBulkAll ds:=by simp only[uptoBulkAll]
theorem QdH(d:DataW H):1<=uptoBulk d:=by
 cases d with
 |lit l=>cases l<;>simp[uptoBulk]
 |_=>simp[uptoBulk]
def Xu(P:Program)(t:TypeId):Option (List TypeId):=match P.underlying t with
 |some (.struct fs)=>some (fs.toList.map (·.type))
 |_=>none
theorem QO{P:Program}{fuel:Nat}{t:TypeId}{xs:List aa}{d:DataW H}{ts:List TypeId}(h:Typed P fuel t xs d)(hs:Xu P t=some ts):∃f parts ds,fuel=f+1∧xs=parts.flatten∧d=.agg ds∧yS (Typed P f) ts parts ds:=by
 cases fuel with
 |zero=>exact h.elim
 |succ f=>
  unfold Typed at h;unfold Xu at hs;split at hs
  ·rename_i fs e;rw[e]at h;cases hs;obtain⟨parts,ds,h1,h2,h3⟩:=h;exact⟨f,parts,ds,rfl,h1,h2,h3⟩
  ·cases hs
theorem Xz{P:Program}{fuel:Nat}{t:TypeId}{xs:List aa}{d:DataW H}{k:IntKind}(h:Typed P fuel t xs d)(hu:P.underlying t=some (.int k)):∃n,xs=[.int k n]∧(Lit.int k n).wf=true∧d=.lit (.int k n):=by
 cases fuel with
 |zero=>exact h.elim
 |succ f=>unfold Typed at h;rw[hu]at h;exact h
theorem MZ{P:Program}{fuel:Nat}{t:TypeId}{xs:List aa}{d:DataW H}(h:Typed P fuel t xs d)(hu:P.underlying t=some .bool):∃b,xs=[.bool b]∧d=.lit (.bool b):=by
 cases fuel with
 |zero=>exact h.elim
 |succ f=>unfold Typed at h;rw[hu]at h;exact h
theorem HC{P:Program}{fuel:Nat}{t:TypeId}{xs:List aa}{d:DataW H}(h:Typed P fuel t xs d)(hu:P.underlying t=some .string):∃s,xs=[.str s]∧d=.lit (.string s):=by
 cases fuel with
 |zero=>exact h.elim
 |succ f=>unfold Typed at h;rw[hu]at h;exact h
theorem ZdB{P:Program}{fuel:Nat}{e:TypeId}{X:Type}(F_:X→List aa)(m:X→Nat)(Q:X→Prop){B:Nat}(hx:∀xs (d:DataW H),Typed P fuel e xs d→uptoBulk d<=B→∃x,xs=F_ x∧Q x∧m x<=uptoBulk d) :
  ∀ {rows:List (List aa)} {es:List (DataW H)},sf (Typed P fuel e) rows es→uptoBulkAll es<=B→∃l:List X,rows=l.map F_∧(∀x∈l,Q x)∧(l.map m).sum<=uptoBulkAll es∧l.length<=uptoBulkAll es
 |[],[],_,_=>⟨[],rfl,by simp,by simp,by simp⟩
 |r::rows,d::es,h,hb=>by
  rw[ZE]at hb;obtain⟨x,e1,q1,m1⟩:=hx r d h.1 (by omega);obtain⟨l,e2,q2,s2,l2⟩:=ZdB F_ m Q hx h.2 (by omega);refine⟨x::l,by rw[e1,e2];rfl,λy hy=>?_,?_,?_⟩
  ·rcases zAR.1 hy with rfl|hy
   ·exact q1
   ·exact q2 y hy
  ·rw[zAN,zCq,ZE];omega
  ·have:=QdH d;rw[IS,ZE];omega
 |[],_::_,h,_=>h.elim
 |_::_,[],h,_=>h.elim
theorem QL{P:Program}{fuel:Nat}{t e:TypeId}{n:Nat}{xs:List aa}{d:DataW H}{X:Type}(F_:X→List aa)(m:X→Nat)(Q:X→Prop){B:Nat}(h:Typed P fuel t xs d)(hu:P.underlying t=some (.slice e))(hn:P.cellsOf e=n)
 (hx:∀f,f<fuel→∀xs (d:DataW H),Typed P f e xs d→uptoBulk d<=B→∃x,xs=F_ x∧Q x∧m x<=uptoBulk d)(hb:uptoBulk d<=B) :
  ∃l:List X,xs=[.aU false false n (l.map F_)]∧(∀x∈l,Q x)∧(l.map m).sum<=uptoBulk d∧l.length<=uptoBulk d:=by
 cases fuel with
 |zero=>exact h.elim
 |succ f=>
  unfold Typed at h;rw[hu]at h;subst hn;obtain⟨rows,rfl,⟨rfl,rfl⟩|⟨es,sp,rfl,h2⟩⟩:=h
  ·exact⟨[],rfl,by simp,by simp,by simp⟩
  ·rw[Yd5]at hb ⊢;obtain⟨l,rfl,q,s,k⟩:=ZdB F_ m Q (hx f (by omega)) h2 (by omega);exact⟨l,rfl,q,by omega,by omega⟩
theorem Zei{P:Program}{fuel:Nat}{t e:TypeId}{xs:List aa}{d:DataW H}(h:Typed P fuel t xs d)(hu:P.underlying t=some (.array 2 e)):∃f p q a b,fuel=f+1∧xs=p++q∧d=.agg [a,b]∧Typed P f e p a∧Typed P f e q b:=by
 cases fuel with
 |zero=>exact h.elim
 |succ f=>
  unfold Typed at h;rw[hu]at h;obtain⟨parts,ds,rfl,rfl,hl,h2⟩:=h
  match parts,hl,h2 with
  |[p,q],_,h2=>
   obtain⟨a,ds,rfl,ha,h2⟩:=h2.cons;obtain⟨b,ds,rfl,hb,h2⟩:=h2.cons
   match ds,h2 with
   |[],_=>exact⟨f,p,q,a,b,rfl,by simp,rfl,ha,hb⟩
theorem V8{n:Int}(h:(Lit.int .i8 n).wf=true):BL n=true:=by
 have h1:IntKind.i8.min = -128:=by decide
 have h2:IntKind.i8.max=127:=by decide
 simp only[Lit.wf,h1,h2]at h;exact h
theorem V7{n:Int}(h:(Lit.int .i64 n).wf=true):Dx n=true:=by
 have h1:BY.min = -9223372036854775808:=by decide
 have h2:BY.max=9223372036854775807:=by decide
 simp only[Lit.wf,h1,h2]at h;exact h
theorem Yb9{l:List Nm}(h:∀x∈l,cW x=true):y_ l=true:=by
 induction l with
 |nil=>rfl
 |cons x l ih=>simp only[y_,AI];exact⟨h x (zBO ..),ih λy hy=>h y (zAn _ hy)⟩
theorem Zdb{l:List Cn}(h:∀x∈l,cG x=true):Cs l=true:=by
 induction l with
 |nil=>rfl
 |cons x l ih=>simp only[Cs,AI];exact⟨h x (zBO ..),ih λy hy=>h y (zAn _ hy)⟩
theorem Sz{l:List Ef}(h:∀x∈l,dS x=true):yg l=true:=by
 induction l with
 |nil=>rfl
 |cons x l ih=>simp only[yg,AI];exact⟨h x (zBO ..),ih λy hy=>h y (zAn _ hy)⟩
theorem Pz:∀l:List Nm,(oP l).length=(l.map λx=>(qI x).length).sum
 |[]=>rfl
 |x::l=>by simp only[oP,By,zAN,zCq,Pz l]
theorem Zcy:∀l:List Cn,(pS l).length=(l.map λx=>(qx x).length).sum
 |[]=>rfl
 |x::l=>by simp only[pS,By,zAN,zCq,Zcy l]
theorem N9:∀l:List Ef,(bw l).length=(l.map λx=>(iA x).length).sum
 |[]=>rfl
 |x::l=>by simp only[bw,By,zAN,zCq,N9 l]
theorem jM{n k:Nat}(h:n<=k)(hk:k<=1048576):decide (n<=gn)=true:=fk (zAY h (zAY hk (by decide)))
abbrev yf:TypeId:=26
abbrev QI:TypeId:=3
abbrev CC:TypeId:=4
abbrev yZ:TypeId:=9
abbrev Gs:TypeId:=153
abbrev NH:TypeId:=151
abbrev GD:TypeId:=156
abbrev PV:TypeId:=154
abbrev HE:TypeId:=158
abbrev AU:TypeId:=72
abbrev H_:TypeId:=81
abbrev Ru:TypeId:=22
abbrev IV:TypeId:=54
abbrev SS:TypeId:=23
abbrev Na:TypeId:=52
abbrev vC:TypeId:=25
abbrev HZ:TypeId:=61
abbrev Rv:TypeId:=28
abbrev AN:TypeId:=27
abbrev NI:TypeId:=30
abbrev Sa:TypeId:=31
abbrev vH:TypeId:=33
theorem AV:prog.underlying yf=some (.int .i8):=by kernel_rfl
theorem X0:prog.underlying QI=some (.int .i64):=by kernel_rfl
theorem Gj:prog.underlying CC=some .bool:=by kernel_rfl
theorem Ir:prog.underlying yZ=some .string:=by kernel_rfl
theorem XeC:prog.underlying NH=some (.slice Gs):=by kernel_rfl
theorem My:prog.underlying PV=some (.slice GD):=by kernel_rfl
theorem Sb:prog.underlying AU=some (.slice HE):=by kernel_rfl
theorem Mx:prog.underlying Ru=some (.slice H_):=by kernel_rfl
theorem Mz:prog.underlying SS=some (.slice IV):=by kernel_rfl
theorem ZeD:prog.underlying Na=some (.slice yZ):=by kernel_rfl
theorem MC:prog.underlying Rv=some (.slice HZ):=by kernel_rfl
theorem YeC:prog.underlying AN=some (.slice QI):=by kernel_rfl
theorem MB:prog.underlying Sa=some (.array 2 NI):=by kernel_rfl
theorem Lk:prog.cellsOf Gs=4:=by kernel_rfl
theorem Vu:prog.cellsOf GD=5:=by kernel_rfl
theorem DE:prog.cellsOf HE=14:=by kernel_rfl
theorem Vt:prog.cellsOf H_=12:=by kernel_rfl
theorem Vv:prog.cellsOf IV=7:=by kernel_rfl
theorem Yew:prog.cellsOf yZ=1:=by kernel_rfl
theorem Vw:prog.cellsOf HZ=4:=by kernel_rfl
theorem Lj:prog.cellsOf QI=1:=by kernel_rfl
theorem VN:Xu prog Gs=some [yf,QI,yf,NH]:=by kernel_rfl
theorem VK:Xu prog GD=some [yf,yf,yZ,NH,PV]:=by kernel_rfl
theorem VL:Xu prog HE=some [yf,yf,Gs,yZ,GD,AU,AU]:=by kernel_rfl
theorem VJ:Xu prog H_=some [yZ,CC,QI,QI,QI,QI,QI,QI,AU,AU,AU,QI]:=by kernel_rfl
theorem VM:Xu prog IV=some [yZ,QI,QI,QI,Na,Na,QI]:=by kernel_rfl
theorem LG:Xu prog vC=some [Ru,SS]:=by kernel_rfl
theorem VP:Xu prog HZ=some [QI,QI,QI,CC]:=by kernel_rfl
theorem VO:Xu prog NI=some [QI,QI,QI,AN,AN,AN,Rv,AN]:=by kernel_rfl
theorem LH:Xu prog vH=some [QI,QI,yf,CC,yf,AN,QI,Sa]:=by kernel_rfl
theorem YeB(fuel:Nat):∀xs (d:DataW H),Typed prog fuel Gs xs d→uptoBulk d<=1048576→∃x,xs=c8 x∧cW x=true∧(qI x).length<=uptoBulk d:=by
 induction fuel using zBv with
 |_ fuel ih=>
 intro xs d h hb;obtain⟨f,parts,ds,rfl,rfl,rfl,r⟩:=QO h VN;obtain⟨p0,parts,d0,ds,rfl,rfl,h0,r⟩:=r.cons;obtain⟨p1,parts,d1,ds,rfl,rfl,h1,r⟩:=r.cons;obtain⟨p2,parts,d2,ds,rfl,rfl,h2,r⟩:=r.cons;obtain⟨p3,parts,d3,ds,rfl,rfl,h3,r⟩:=r.cons;obtain⟨rfl,rfl⟩:=r.nil;obtain⟨v0,rfl,w0,rfl⟩:=Xz h0 AV;obtain⟨v1,rfl,w1,rfl⟩:=Xz h1 X0;obtain⟨v2,rfl,w2,rfl⟩:=Xz h2 AV;simp only[ZX,ZE,X1]at hb ⊢;obtain⟨l,rfl,q,s,k⟩:=QL c8 (λx=>(qI x).length) (λx=>cW x=true) h3 XeC Lk (λf' hf=>ih f' (by omega)) (show uptoBulk d3<=1048576 by omega);refine⟨.mk v0 v1 v2 l,by rw[QA];rfl,?_,?_⟩
 ·simp only[cW,jM k (show uptoBulk d3<=1048576 by omega),Yb9 q,V8 w0,V7 w1,zAu]
 ·simp only[qI,IS,Pz];omega
theorem Mr(fuel:Nat):∀xs (d:DataW H),Typed prog fuel GD xs d→uptoBulk d<=1048576→∃x,xs=f_ x∧cG x=true∧(qx x).length<=uptoBulk d:=by
 induction fuel using zBv with
 |_ fuel ih=>
 intro xs d h hb;obtain⟨f,parts,ds,rfl,rfl,rfl,r⟩:=QO h VK;obtain⟨p0,parts,d0,ds,rfl,rfl,h0,r⟩:=r.cons;obtain⟨p1,parts,d1,ds,rfl,rfl,h1,r⟩:=r.cons;obtain⟨p2,parts,d2,ds,rfl,rfl,h2,r⟩:=r.cons;obtain⟨p3,parts,d3,ds,rfl,rfl,h3,r⟩:=r.cons;obtain⟨p4,parts,d4,ds,rfl,rfl,h4,r⟩:=r.cons;obtain⟨rfl,rfl⟩:=r.nil;obtain⟨v0,rfl,w0,rfl⟩:=Xz h0 AV;obtain⟨v1,rfl,w1,rfl⟩:=Xz h1 AV;obtain⟨v2,rfl,rfl⟩:=HC h2 Ir;simp only[ZX,ZE,X1]at hb ⊢;obtain⟨l,rfl,q,s,k⟩:=QL c8 (λx=>(qI x).length) (λx=>cW x=true) h3 XeC Lk (λf' _=>YeB f') (show uptoBulk d3<=1048576 by omega);obtain⟨l2,rfl,q2,s2,k2⟩:=QL f_ (λx=>(qx x).length) (λx=>cG x=true) h4 My Vu (λf' hf=>ih f' (by omega)) (show uptoBulk d4<=1048576 by omega);refine⟨.mk v0 v1 v2 l l2,by rw[XE];rfl,?_,?_⟩
 ·simp only[cG,jM k (show uptoBulk d3<=1048576 by omega),Yb9 q,jM k2 (show uptoBulk d4<=1048576 by omega),Zdb q2,V8 w0,zAu]
 ·simp only[qx,IS,By,Pz,Zcy];omega
theorem Ms(fuel:Nat):∀xs (d:DataW H),Typed prog fuel HE xs d→uptoBulk d<=1048576→∃x,xs=bj x∧dS x=true∧(iA x).length<=uptoBulk d:=by
 induction fuel using zBv with
 |_ fuel ih=>
 intro xs d h hb;obtain⟨f,parts,ds,rfl,rfl,rfl,r⟩:=QO h VL;obtain⟨p0,parts,d0,ds,rfl,rfl,h0,r⟩:=r.cons;obtain⟨p1,parts,d1,ds,rfl,rfl,h1,r⟩:=r.cons;obtain⟨p2,parts,d2,ds,rfl,rfl,h2,r⟩:=r.cons;obtain⟨p3,parts,d3,ds,rfl,rfl,h3,r⟩:=r.cons;obtain⟨p4,parts,d4,ds,rfl,rfl,h4,r⟩:=r.cons;obtain⟨p5,parts,d5,ds,rfl,rfl,h5,r⟩:=r.cons;obtain⟨p6,parts,d6,ds,rfl,rfl,h6,r⟩:=r.cons;obtain⟨rfl,rfl⟩:=r.nil;obtain⟨v0,rfl,w0,rfl⟩:=Xz h0 AV;obtain⟨v1,rfl,w1,rfl⟩:=Xz h1 AV;obtain⟨v3,rfl,rfl⟩:=HC h3 Ir;simp only[ZX,ZE,X1]at hb ⊢;obtain⟨n,rfl,qn,kn⟩:=YeB _ _ _ h2 (by omega);obtain⟨c,rfl,qc,kc⟩:=Mr _ _ _ h4 (by omega);obtain⟨l,rfl,q,s,k⟩:=QL bj (λx=>(iA x).length) (λx=>dS x=true) h5 Sb DE (λf' hf=>ih f' (by omega)) (show uptoBulk d5<=1048576 by omega);obtain⟨l2,rfl,q2,s2,k2⟩:=QL bj (λx=>(iA x).length) (λx=>dS x=true) h6 Sb DE (λf' hf=>ih f' (by omega)) (show uptoBulk d6<=1048576 by omega);refine⟨.mk v0 v1 n v3 c l l2,by rw[Zr,QA,XE];rfl,?_,?_⟩
 ·simp only[dS,qn,qc,jM k (show uptoBulk d5<=1048576 by omega),Sz q,jM k2 (show uptoBulk d6<=1048576 by omega),Sz q2,V8 w0,zAu]
 ·have e1:(if cq v0 then qI n else []).length<=(qI n).length:=by split<;>simp
  have e2:(if v0=8 then qx c++(bw l++bw l2)else []).length<=(qx c).length+(bw l).length+(bw l2).length:=by
   split
   ·simp only[By];omega
   ·simp
  rw[N9,N9]at e2;simp only[iA,IS,By];omega
theorem PS{fuel:Nat}{xs:List aa}{d:DataW H}(h:Typed prog fuel AU xs d)(hb:uptoBulk d<=1048576):∃l,xs=[gY l]∧bE l=true∧(bw l).length<=uptoBulk d:=by
 obtain⟨l,rfl,q,s,k⟩:=QL bj (λx=>(iA x).length) (λx=>dS x=true) h Sb DE (λf' _=>Ms f') hb;exact⟨l,rfl,by simp only[bE,jM k hb,Sz q,zAu],by rw[N9];exact s⟩
theorem Mq(fuel:Nat)(xs:List aa)(d:DataW H)(h:Typed prog fuel H_ xs d)(hb:uptoBulk d<=1048576):∃x,xs=cL x∧(il x=true∧(pz x).length<=1048576)∧0<=uptoBulk d:=by
 obtain⟨f,parts,ds,rfl,rfl,rfl,r⟩:=QO h VJ;obtain⟨p0,parts,d0,ds,rfl,rfl,h0,r⟩:=r.cons;obtain⟨p1,parts,d1,ds,rfl,rfl,h1,r⟩:=r.cons;obtain⟨p2,parts,d2,ds,rfl,rfl,h2,r⟩:=r.cons;obtain⟨p3,parts,d3,ds,rfl,rfl,h3,r⟩:=r.cons;obtain⟨p4,parts,d4,ds,rfl,rfl,h4,r⟩:=r.cons;obtain⟨p5,parts,d5,ds,rfl,rfl,h5,r⟩:=r.cons;obtain⟨p6,parts,d6,ds,rfl,rfl,h6,r⟩:=r.cons;obtain⟨p7,parts,d7,ds,rfl,rfl,h7,r⟩:=r.cons;obtain⟨p8,parts,d8,ds,rfl,rfl,h8,r⟩:=r.cons;obtain⟨p9,parts,d9,ds,rfl,rfl,h9,r⟩:=r.cons;obtain⟨p10,parts,d10,ds,rfl,rfl,h10,r⟩:=r.cons;obtain⟨p11,parts,d11,ds,rfl,rfl,h11,r⟩:=r.cons;obtain⟨rfl,rfl⟩:=r.nil;obtain⟨v0,rfl,rfl⟩:=HC h0 Ir;obtain⟨v1,rfl,rfl⟩:=MZ h1 Gj;obtain⟨v2,rfl,w2,rfl⟩:=Xz h2 X0;obtain⟨v3,rfl,w3,rfl⟩:=Xz h3 X0;obtain⟨v4,rfl,w4,rfl⟩:=Xz h4 X0;obtain⟨v5,rfl,w5,rfl⟩:=Xz h5 X0;obtain⟨v6,rfl,w6,rfl⟩:=Xz h6 X0;obtain⟨v7,rfl,w7,rfl⟩:=Xz h7 X0;obtain⟨v11,rfl,w11,rfl⟩:=Xz h11 X0;simp only[ZX,ZE,X1]at hb ⊢;obtain⟨a,rfl,qa,ka⟩:=PS h8 (by omega);obtain⟨b,rfl,qb,kb⟩:=PS h9 (by omega);obtain⟨c,rfl,qc,kc⟩:=PS h10 (by omega);refine⟨⟨v0,v1,v2,v3,v4,v5,v6,v7,a,b,c,v11⟩,rfl,⟨?_,?_⟩,by omega⟩
 ·simp only[il,jM (IT v0.length) (by omega),qa,qb,qc,zAu]
 ·simp only[pz,By];omega
theorem ZeC(fuel:Nat)(xs:List aa)(d:DataW H)(h:Typed prog fuel yZ xs d)(_:uptoBulk d<=1048576):∃x,xs=vb x∧True∧0<=uptoBulk d:=by
 obtain⟨s,rfl,rfl⟩:=HC h Ir;exact⟨s,rfl,trivial,by omega⟩
theorem Mt(fuel:Nat)(xs:List aa)(d:DataW H)(h:Typed prog fuel IV xs d)(hb:uptoBulk d<=1048576):∃x,xs=oi x∧oj x=true∧0<=uptoBulk d:=by
 obtain⟨f,parts,ds,rfl,rfl,rfl,r⟩:=QO h VM;obtain⟨p0,parts,d0,ds,rfl,rfl,h0,r⟩:=r.cons;obtain⟨p1,parts,d1,ds,rfl,rfl,h1,r⟩:=r.cons;obtain⟨p2,parts,d2,ds,rfl,rfl,h2,r⟩:=r.cons;obtain⟨p3,parts,d3,ds,rfl,rfl,h3,r⟩:=r.cons;obtain⟨p4,parts,d4,ds,rfl,rfl,h4,r⟩:=r.cons;obtain⟨p5,parts,d5,ds,rfl,rfl,h5,r⟩:=r.cons;obtain⟨p6,parts,d6,ds,rfl,rfl,h6,r⟩:=r.cons;obtain⟨rfl,rfl⟩:=r.nil;obtain⟨v0,rfl,rfl⟩:=HC h0 Ir;obtain⟨v1,rfl,w1,rfl⟩:=Xz h1 X0;obtain⟨v2,rfl,w2,rfl⟩:=Xz h2 X0;obtain⟨v3,rfl,w3,rfl⟩:=Xz h3 X0;obtain⟨v6,rfl,w6,rfl⟩:=Xz h6 X0;simp only[ZX,ZE,X1]at hb ⊢;obtain⟨a,rfl,_,_,ka⟩:=QL vb (λ_=>0) (λ_=>True) h4 ZeD Yew (λf' _=>ZeC f') (show uptoBulk d4<=1048576 by omega);obtain⟨b,rfl,_,_,kb⟩:=QL vb (λ_=>0) (λ_=>True) h5 ZeD Yew (λf' _=>ZeC f') (show uptoBulk d5<=1048576 by omega);refine⟨⟨v0,v1,v2,v3,a,b,v6⟩,rfl,?_,by omega⟩;simp only[oj,jM (IT v0.length) (by omega),jM ka (show uptoBulk d4<=1048576 by omega),jM kb (show uptoBulk d5<=1048576 by omega),zAu]
theorem Mp{fuel:Nat}{xs:List aa}{d:DataW H}(h:Typed prog fuel vC xs d)(hb:uptoBulk d<=1048576):∃x,xs=cy x∧a_ x=true∧Yg x.ai:=by
 obtain⟨f,parts,ds,rfl,rfl,rfl,r⟩:=QO h LG;obtain⟨p0,parts,d0,ds,rfl,rfl,h0,r⟩:=r.cons;obtain⟨p1,parts,d1,ds,rfl,rfl,h1,r⟩:=r.cons;obtain⟨rfl,rfl⟩:=r.nil;simp only[ZX,ZE,X1]at hb ⊢;obtain⟨a,rfl,q,_,k⟩:=QL cL (λ_=>0) (λx=>il x=true∧(pz x).length<=1048576) h0 Mx Vt (λf' _=>Mq f') (show uptoBulk d0<=1048576 by omega);obtain⟨b,rfl,q2,_,k2⟩:=QL oi (λ_=>0) (λx=>oj x=true) h1 Mz Vv (λf' _=>Mt f') (show uptoBulk d1<=1048576 by omega);refine⟨⟨a,b⟩,rfl,?_,λc hc=>zAY (q c hc).2 (by decide)⟩;simp only[a_,ZG,jM k (show uptoBulk d0<=1048576 by omega),jM k2 (show uptoBulk d1<=1048576 by omega),zAF,AI,zAj];exact⟨λc hc=>(q c hc).1,q2⟩
theorem Mv(fuel:Nat)(xs:List aa)(d:DataW H)(h:Typed prog fuel HZ xs d)(hb:uptoBulk d<=1048576):∃x,xs=bg x∧True∧0<=uptoBulk d:=by
 obtain⟨f,parts,ds,rfl,rfl,rfl,r⟩:=QO h VP;obtain⟨p0,parts,d0,ds,rfl,rfl,h0,r⟩:=r.cons;obtain⟨p1,parts,d1,ds,rfl,rfl,h1,r⟩:=r.cons;obtain⟨p2,parts,d2,ds,rfl,rfl,h2,r⟩:=r.cons;obtain⟨p3,parts,d3,ds,rfl,rfl,h3,r⟩:=r.cons;obtain⟨rfl,rfl⟩:=r.nil;obtain⟨v0,rfl,w0,rfl⟩:=Xz h0 X0;obtain⟨v1,rfl,w1,rfl⟩:=Xz h1 X0;obtain⟨v2,rfl,w2,rfl⟩:=Xz h2 X0;obtain⟨v3,rfl,rfl⟩:=MZ h3 Gj;simp only[ZX,ZE,X1]at hb ⊢;exact⟨⟨v0,v1,v2,v3⟩,rfl,trivial,by omega⟩
theorem V3(fuel:Nat)(xs:List aa)(d:DataW H)(h:Typed prog fuel QI xs d)(_:uptoBulk d<=1048576):∃x,xs=aR x∧True∧0<=uptoBulk d:=by
 obtain⟨s,rfl,_,rfl⟩:=Xz h X0;exact⟨s,rfl,trivial,by omega⟩
theorem HW{fuel:Nat}{xs:List aa}{d:DataW H}(h:Typed prog fuel AN xs d)(hb:uptoBulk d<=1048576):∃l,xs=[aP l]∧l.length<=2000000:=by
 obtain⟨l,rfl,_,_,k⟩:=QL aR (λ_=>0) (λ_=>True) h YeC Lj (λf' _=>V3 f') hb;exact⟨l,rfl,by omega⟩
theorem XeB{fuel:Nat}{xs:List aa}{d:DataW H}(h:Typed prog fuel NI xs d)(hb:uptoBulk d<=1048576):∃x,xs=yE x∧lO 2000000 x:=by
 obtain⟨f,parts,ds,rfl,rfl,rfl,r⟩:=QO h VO;obtain⟨p0,parts,d0,ds,rfl,rfl,h0,r⟩:=r.cons;obtain⟨p1,parts,d1,ds,rfl,rfl,h1,r⟩:=r.cons;obtain⟨p2,parts,d2,ds,rfl,rfl,h2,r⟩:=r.cons;obtain⟨p3,parts,d3,ds,rfl,rfl,h3,r⟩:=r.cons;obtain⟨p4,parts,d4,ds,rfl,rfl,h4,r⟩:=r.cons;obtain⟨p5,parts,d5,ds,rfl,rfl,h5,r⟩:=r.cons;obtain⟨p6,parts,d6,ds,rfl,rfl,h6,r⟩:=r.cons;obtain⟨p7,parts,d7,ds,rfl,rfl,h7,r⟩:=r.cons;obtain⟨rfl,rfl⟩:=r.nil;obtain⟨v0,rfl,w0,rfl⟩:=Xz h0 X0;obtain⟨v1,rfl,w1,rfl⟩:=Xz h1 X0;obtain⟨v2,rfl,w2,rfl⟩:=Xz h2 X0;simp only[ZX,ZE,X1]at hb ⊢;obtain⟨a,rfl,ka⟩:=HW h3 (by omega);obtain⟨b,rfl,kb⟩:=HW h4 (by omega);obtain⟨c,rfl,kc⟩:=HW h5 (by omega);obtain⟨u,rfl,_,_,ku⟩:=QL bg (λ_=>0) (λ_=>True) h6 MC Vw (λf' _=>Mv f') (show uptoBulk d6<=1048576 by omega);obtain⟨t,rfl,kt⟩:=HW h7 (by omega);exact⟨⟨v0,v1,v2,a,b,c,u,t⟩,rfl,ka,kb,kc,by show u.length<=_;omega,kt⟩
theorem Mu{fuel:Nat}{xs:List aa}{d:DataW H}(h:Typed prog fuel vH xs d)(hb:uptoBulk d<=1048576):∃x,xs=aI x∧bd 2000000 x:=by
 obtain⟨f,parts,ds,rfl,rfl,rfl,r⟩:=QO h LH;obtain⟨p0,parts,d0,ds,rfl,rfl,h0,r⟩:=r.cons;obtain⟨p1,parts,d1,ds,rfl,rfl,h1,r⟩:=r.cons;obtain⟨p2,parts,d2,ds,rfl,rfl,h2,r⟩:=r.cons;obtain⟨p3,parts,d3,ds,rfl,rfl,h3,r⟩:=r.cons;obtain⟨p4,parts,d4,ds,rfl,rfl,h4,r⟩:=r.cons;obtain⟨p5,parts,d5,ds,rfl,rfl,h5,r⟩:=r.cons;obtain⟨p6,parts,d6,ds,rfl,rfl,h6,r⟩:=r.cons;obtain⟨p7,parts,d7,ds,rfl,rfl,h7,r⟩:=r.cons;obtain⟨rfl,rfl⟩:=r.nil;obtain⟨v0,rfl,w0,rfl⟩:=Xz h0 X0;obtain⟨v1,rfl,w1,rfl⟩:=Xz h1 X0;obtain⟨v2,rfl,w2,rfl⟩:=Xz h2 AV;obtain⟨v3,rfl,rfl⟩:=MZ h3 Gj;obtain⟨v4,rfl,w4,rfl⟩:=Xz h4 AV;obtain⟨v6,rfl,w6,rfl⟩:=Xz h6 X0;simp only[ZX,ZE,X1]at hb ⊢;obtain⟨a,rfl,ka⟩:=HW h5 (by omega);obtain⟨f',p,q,da,db,rfl,rfl,rfl,hp,hq⟩:=Zei h7 MB;simp only[ZX,ZE]at hb;obtain⟨x,rfl,kx⟩:=XeB hp (by omega);obtain⟨y,rfl,ky⟩:=XeB hq (by omega);exact⟨⟨v0,v1,v2,v3,v4,a,v6,x,y⟩,rfl,ka,kx,ky⟩
end Go.Ah.Tz
end
section
namespace Go.Ah.Tz
open Go.Proofs.Tryz (prog)
set_option maxRecDepth 100000
noncomputable def Mm:GT:=(.node 135 2 g135.u (.node 80 2 g80.u (.node 48 2 g48.u (.node 26 3 g26.u (.node 20 1 g20.u (.node 13 3 g13.u (.node 8 4 g8.u (.node 7 0 g7.u .leaf .leaf) .leaf) (.node 19 2 g19.u (.node 18 1 g18.u .leaf .leaf) .leaf)) (.node 23 5 g23.u (.node 22 6 g22.u (.node 21 2 g21.u .leaf .leaf) .leaf) (.node 25 2 g25.u (.node 24 2 g24.u .leaf .leaf) .leaf))) (.node 42 1 g42.u (.node 36 3 g36.u (.node 28 1 g28.u (.node 27 1 g27.u .leaf .leaf) .leaf) (.node 41 1 g41.u (.node 40 1 g40.u .leaf .leaf) .leaf)) (.node 45 1 g45.u (.node 44 1 g44.u (.node 43 2 g43.u .leaf .leaf) .leaf) (.node 47 2 g47.u (.node 46 2 g46.u .leaf .leaf) .leaf)))) (.node 69 2 g69.u (.node 54 2 g54.u (.node 51 2 g51.u (.node 50 2 g50.u (.node 49 3 g49.u .leaf .leaf) .leaf) (.node 53 2 g53.u (.node 52 3 g52.u .leaf .leaf) .leaf)) (.node 66 1 g66.u (.node 64 2 g64.u (.node 63 1 g63.u .leaf .leaf) .leaf) (.node 68 1 g68.u (.node 67 1 g67.u .leaf .leaf) .leaf))) (.node 75 2 g75.u (.node 72 2 g72.u (.node 71 2 g71.u (.node 70 2 g70.u .leaf .leaf) .leaf) (.node 74 1 g74.u (.node 73 1 g73.u .leaf .leaf) .leaf)) (.node 78 1 g78.u (.node 77 1 g77.u (.node 76 3 g76.u .leaf .leaf) .leaf) (.node 79 2 g79.u .leaf .leaf))))) (.node 110 3 g110.u (.node 99 1 g99.u (.node 86 3 g86.u (.node 83 3 g83.u (.node 82 3 g82.u (.node 81 1 g81.u .leaf .leaf) .leaf) (.node 85 3 g85.u (.node 84 3 g84.u .leaf .leaf) .leaf)) (.node 91 2 g91.u (.node 88 3 g88.u (.node 87 3 g87.u .leaf .leaf) .leaf) (.node 98 1 g98.u (.node 94 3 g94.u .leaf .leaf) .leaf))) (.node 105 0 g105.u (.node 102 1 g102.u (.node 101 2 g101.u (.node 100 1 g100.u .leaf .leaf) .leaf) (.node 104 1 g104.u (.node 103 2 g103.u .leaf .leaf) .leaf)) (.node 108 1 g108.u (.node 107 2 g107.u (.node 106 1 g106.u .leaf .leaf) .leaf) (.node 109 2 g109.u .leaf .leaf)))) (.node 122 1 g122.u (.node 116 1 g116.u (.node 113 1 g113.u (.node 112 1 g112.u (.node 111 1 g111.u .leaf .leaf) .leaf) (.node 115 2 g115.u (.node 114 2 g114.u .leaf .leaf) .leaf)) (.node 119 4 g119.u (.node 118 1 g118.u (.node 117 2 g117.u .leaf .leaf) .leaf) (.node 121 2 g121.u (.node 120 2 g120.u .leaf .leaf) .leaf))) (.node 128 1 g128.u (.node 125 2 g125.u (.node 124 5 g124.u (.node 123 5 g123.u .leaf .leaf) .leaf) (.node 127 2 g127.u (.node 126 2 g126.u .leaf .leaf) .leaf)) (.node 131 4 g131.u (.node 130 2 g130.u (.node 129 3 g129.u .leaf .leaf) .leaf) (.node 134 1 g134.u .leaf .leaf)))))) (.node 199 1 g199.u (.node 168 1 g168.u (.node 157 2 g157.u (.node 151 1 g151.u (.node 138 3 g138.u (.node 137 2 g137.u (.node 136 1 g136.u .leaf .leaf) .leaf) (.node 149 2 g149.u (.node 139 1 g139.u .leaf .leaf) .leaf)) (.node 154 1 g154.u (.node 153 1 g153.u (.node 152 1 g152.u .leaf .leaf) .leaf) (.node 156 2 g156.u (.node 155 1 g155.u .leaf .leaf) .leaf))) (.node 163 1 g163.u (.node 160 1 g160.u (.node 159 1 g159.u (.node 158 1 g158.u .leaf .leaf) .leaf) (.node 162 1 g162.u (.node 161 1 g161.u .leaf .leaf) .leaf)) (.node 166 2 g166.u (.node 165 2 g165.u (.node 164 1 g164.u .leaf .leaf) .leaf) (.node 167 1 g167.u .leaf .leaf)))) (.node 188 2 g188.u (.node 174 1 g174.u (.node 171 7 g171.u (.node 170 2 g170.u (.node 169 3 g169.u .leaf .leaf) .leaf) (.node 173 4 g173.u (.node 172 1 g172.u .leaf .leaf) .leaf)) (.node 177 2 g177.u (.node 176 3 g176.u (.node 175 4 g175.u .leaf .leaf) .leaf) (.node 187 0 g187.u (.node 178 2 g178.u .leaf .leaf) .leaf))) (.node 194 1 g194.u (.node 191 1 g191.u (.node 190 1 g190.u (.node 189 1 g189.u .leaf .leaf) .leaf) (.node 193 2 g193.u (.node 192 1 g192.u .leaf .leaf) .leaf)) (.node 197 2 g197.u (.node 196 2 g196.u (.node 195 1 g195.u .leaf .leaf) .leaf) (.node 198 1 g198.u .leaf .leaf))))) (.node 223 1 g223.u (.node 212 2 g212.u (.node 205 2 g205.u (.node 202 2 g202.u (.node 201 1 g201.u (.node 200 2 g200.u .leaf .leaf) .leaf) (.node 204 1 g204.u (.node 203 1 g203.u .leaf .leaf) .leaf)) (.node 209 3 g209.u (.node 208 1 g208.u (.node 206 5 g206.u .leaf .leaf) .leaf) (.node 211 2 g211.u (.node 210 1 g210.u .leaf .leaf) .leaf))) (.node 218 1 g218.u (.node 215 2 g215.u (.node 214 2 g214.u (.node 213 2 g213.u .leaf .leaf) .leaf) (.node 217 1 g217.u (.node 216 3 g216.u .leaf .leaf) .leaf)) (.node 221 1 g221.u (.node 220 2 g220.u (.node 219 0 g219.u .leaf .leaf) .leaf) (.node 222 1 g222.u .leaf .leaf)))) (.node 235 1 g235.u (.node 229 1 g229.u (.node 226 1 g226.u (.node 225 1 g225.u (.node 224 1 g224.u .leaf .leaf) .leaf) (.node 228 2 g228.u (.node 227 1 g227.u .leaf .leaf) .leaf)) (.node 232 1 g232.u (.node 231 2 g231.u (.node 230 1 g230.u .leaf .leaf) .leaf) (.node 234 1 g234.u (.node 233 2 g233.u .leaf .leaf) .leaf))) (.node 241 2 g241.u (.node 238 0 g238.u (.node 237 1 g237.u (.node 236 1 g236.u .leaf .leaf) .leaf) (.node 240 1 g240.u (.node 239 2 g239.u .leaf .leaf) .leaf)) (.node 280 3 g280.u (.node 243 2 g243.u (.node 242 2 g242.u .leaf .leaf) .leaf) (.node 281 3 g281.u .leaf .leaf)))))))
theorem Qeh:Mm.Ok prog aG:=⟨g135.ok,⟨g80.ok,⟨g48.ok,⟨g26.ok,⟨g20.ok,⟨g13.ok,⟨g8.ok,⟨g7.ok,trivial,trivial⟩,trivial⟩,⟨g19.ok,⟨g18.ok,trivial,trivial⟩,trivial⟩⟩,⟨g23.ok,⟨g22.ok,⟨g21.ok,trivial,trivial⟩,trivial⟩,⟨g25.ok,⟨g24.ok,trivial,trivial⟩,trivial⟩⟩⟩,⟨g42.ok,⟨g36.ok,⟨g28.ok,⟨g27.ok,trivial,trivial⟩,trivial⟩,⟨g41.ok,⟨g40.ok,trivial,trivial⟩,trivial⟩⟩,⟨g45.ok,⟨g44.ok,⟨g43.ok,trivial,trivial⟩,trivial⟩,⟨g47.ok,⟨g46.ok,trivial,trivial⟩,trivial⟩⟩⟩⟩,⟨g69.ok,⟨g54.ok,⟨g51.ok,⟨g50.ok,⟨g49.ok,trivial,trivial⟩,trivial⟩,⟨g53.ok,⟨g52.ok,trivial,trivial⟩,trivial⟩⟩,⟨g66.ok,⟨g64.ok,⟨g63.ok,trivial,trivial⟩,trivial⟩,⟨g68.ok,⟨g67.ok,trivial,trivial⟩,trivial⟩⟩⟩,⟨g75.ok,⟨g72.ok,⟨g71.ok,⟨g70.ok,trivial,trivial⟩,trivial⟩,⟨g74.ok,⟨g73.ok,trivial,trivial⟩,trivial⟩⟩,⟨g78.ok,⟨g77.ok,⟨g76.ok,trivial,trivial⟩,trivial⟩,⟨g79.ok,trivial,trivial⟩⟩⟩⟩⟩,⟨g110.ok,⟨g99.ok,⟨g86.ok,⟨g83.ok,⟨g82.ok,⟨g81.ok,trivial,trivial⟩,trivial⟩,⟨g85.ok,⟨g84.ok,trivial,trivial⟩,trivial⟩⟩,⟨g91.ok,⟨g88.ok,⟨g87.ok,trivial,trivial⟩,trivial⟩,⟨g98.ok,⟨g94.ok,trivial,trivial⟩,trivial⟩⟩⟩,⟨g105.ok,⟨g102.ok,⟨g101.ok,⟨g100.ok,trivial,trivial⟩,trivial⟩,⟨g104.ok,⟨g103.ok,trivial,trivial⟩,trivial⟩⟩,⟨g108.ok,⟨g107.ok,⟨g106.ok,trivial,trivial⟩,trivial⟩,⟨g109.ok,trivial,trivial⟩⟩⟩⟩,⟨g122.ok,⟨g116.ok,⟨g113.ok,⟨g112.ok,⟨g111.ok,trivial,trivial⟩,trivial⟩,⟨g115.ok,⟨g114.ok,trivial,trivial⟩,trivial⟩⟩,⟨g119.ok,⟨g118.ok,⟨g117.ok,trivial,trivial⟩,trivial⟩,⟨g121.ok,⟨g120.ok,trivial,trivial⟩,trivial⟩⟩⟩,⟨g128.ok,⟨g125.ok,⟨g124.ok,⟨g123.ok,trivial,trivial⟩,trivial⟩,⟨g127.ok,⟨g126.ok,trivial,trivial⟩,trivial⟩⟩,⟨g131.ok,⟨g130.ok,⟨g129.ok,trivial,trivial⟩,trivial⟩,⟨g134.ok,trivial,trivial⟩⟩⟩⟩⟩⟩,⟨g199.ok,⟨g168.ok,⟨g157.ok,⟨g151.ok,⟨g138.ok,⟨g137.ok,⟨g136.ok,trivial,trivial⟩,trivial⟩,⟨g149.ok,⟨g139.ok,trivial,trivial⟩,trivial⟩⟩,⟨g154.ok,⟨g153.ok,⟨g152.ok,trivial,trivial⟩,trivial⟩,⟨g156.ok,⟨g155.ok,trivial,trivial⟩,trivial⟩⟩⟩,⟨g163.ok,⟨g160.ok,⟨g159.ok,⟨g158.ok,trivial,trivial⟩,trivial⟩,⟨g162.ok,⟨g161.ok,trivial,trivial⟩,trivial⟩⟩,⟨g166.ok,⟨g165.ok,⟨g164.ok,trivial,trivial⟩,trivial⟩,⟨g167.ok,trivial,trivial⟩⟩⟩⟩,⟨g188.ok,⟨g174.ok,⟨g171.ok,⟨g170.ok,⟨g169.ok,trivial,trivial⟩,trivial⟩,⟨g173.ok,⟨g172.ok,trivial,trivial⟩,trivial⟩⟩,⟨g177.ok,⟨g176.ok,⟨g175.ok,trivial,trivial⟩,trivial⟩,⟨g187.ok,⟨g178.ok,trivial,trivial⟩,trivial⟩⟩⟩,⟨g194.ok,⟨g191.ok,⟨g190.ok,⟨g189.ok,trivial,trivial⟩,trivial⟩,⟨g193.ok,⟨g192.ok,trivial,trivial⟩,trivial⟩⟩,⟨g197.ok,⟨g196.ok,⟨g195.ok,trivial,trivial⟩,trivial⟩,⟨g198.ok,trivial,trivial⟩⟩⟩⟩⟩,⟨g223.ok,⟨g212.ok,⟨g205.ok,⟨g202.ok,⟨g201.ok,⟨g200.ok,trivial,trivial⟩,trivial⟩,⟨g204.ok,⟨g203.ok,trivial,trivial⟩,trivial⟩⟩,⟨g209.ok,⟨g208.ok,⟨g206.ok,trivial,trivial⟩,trivial⟩,⟨g211.ok,⟨g210.ok,trivial,trivial⟩,trivial⟩⟩⟩,⟨g218.ok,⟨g215.ok,⟨g214.ok,⟨g213.ok,trivial,trivial⟩,trivial⟩,⟨g217.ok,⟨g216.ok,trivial,trivial⟩,trivial⟩⟩,⟨g221.ok,⟨g220.ok,⟨g219.ok,trivial,trivial⟩,trivial⟩,⟨g222.ok,trivial,trivial⟩⟩⟩⟩,⟨g235.ok,⟨g229.ok,⟨g226.ok,⟨g225.ok,⟨g224.ok,trivial,trivial⟩,trivial⟩,⟨g228.ok,⟨g227.ok,trivial,trivial⟩,trivial⟩⟩,⟨g232.ok,⟨g231.ok,⟨g230.ok,trivial,trivial⟩,trivial⟩,⟨g234.ok,⟨g233.ok,trivial,trivial⟩,trivial⟩⟩⟩,⟨g241.ok,⟨g238.ok,⟨g237.ok,⟨g236.ok,trivial,trivial⟩,trivial⟩,⟨g240.ok,⟨g239.ok,trivial,trivial⟩,trivial⟩⟩,⟨g280.ok,⟨g243.ok,⟨g242.ok,trivial,trivial⟩,trivial⟩,⟨g281.ok,trivial,trivial⟩⟩⟩⟩⟩⟩⟩
set_option maxRecDepth 1000000
theorem TQ:∀f np g,Mm.get f=some (np,g)→GQ f np g:=GT.pW Qeh
abbrev F168:Nat:=18
def txI:Tx:=[99,97,114,100,32,73,109,112,32,117,110,105,116,32,49,32,50,47,50,32,123,32,100,101,97,100,32,123,32,103,97,105,110,32,49,59,32,125,32,125]
def tM:List aa:=[(.aU false false 12 [[(.str [73,109,112]),(.bool true),(.int .i64 1),(.int .i64 2),(.int .i64 2),(.int .i64 0),(.int .i64 0),(.int .i64 0),.an,(.aU false false 14 [[(.int .i8 3),(.int .i8 0),(.int .i8 0),(.int .i64 1),(.int .i8 0),.an,(.str []),(.int .i8 0),(.int .i8 0),(.str []),.an,.an,.an,.an]]),.an,(.int .i64 0)]]),.an]
theorem p168:PC F168 [.str txI] (.bp [.agg tM,.agg [iv 0,iv 0]]):=WO hP TQ (much:=1000000000) 60 (by kernel_rfl)
def bI:Bk:=⟨[⟨[73,109,112],true,1,2,2,0,0,0,[],[.mk 3 0 (.mk 0 1 0 []) [] (.mk 0 0 [] [] []) [] []],[],0⟩],[]⟩
def sI(a c:Int):St:={ turn:=1,mover:=0,phase:=0,bV:=false,result:=0,ao:=[],next:=9,s0:=⟨a,0,0,[],[],[],[⟨1,0,2,false⟩],[]⟩,s1:=⟨c,0,0,[],[],[],[],[]⟩ }
def tI:St:={ turn:=1,mover:=0,phase:=0,bV:=false,result:=0,ao:=[],next:=9,s0:=⟨20,1,0,[],[],[0],[],[]⟩,s1:=⟨20,0,0,[],[],[],[],[]⟩ }
def tJ:St:={ turn:=1,mover:=0,phase:=2,bV:=false,result:=3,ao:=[],next:=9,s0:=⟨0,0,0,[],[],[0],[],[]⟩,s1:=⟨0,0,0,[],[],[],[],[]⟩ }
def lI:List Ev:=[⟨13,0,0,1,0,0,[]⟩,⟨14,0,0,0,0,0,[]⟩,⟨7,0,0,0,0,1,[]⟩]
def lJ:List Ev:=[⟨13,0,0,1,0,0,[]⟩,⟨15,0,0,0,0,3,[]⟩]
theorem Ycw:Yg bI.ai:=by
 intro c hc;simp only[bI,zAw]at hc;subst hc;decide
theorem Zey(a c:Int):bd 1000000000 (sI a c):=by
 refine⟨?_,⟨?_,?_,?_,?_,?_⟩,⟨?_,?_,?_,?_,?_⟩⟩<;>(simp[sI])
theorem TK:PC 8 [cC bI,bZ (sI 20 20),.an,iv 9] (mm (0,tI,lI,7)):=by
 have:=Lt (q92 bI (sI 20 20) (by kernel_rfl) Ycw (λ_=>by decide) (Zey _ _) [] 9 100 100 ⟨by decide,by decide⟩ (by decide) (λ _=>by decide) (by decide))
 rwa [show ca bI (sI 20 20) [] 9=(0,tI,lI,7) from by kernel_rfl]at this
theorem TL:PC 8 [cC bI,bZ (sI 0 0),.an,iv 9] (mm (0,tJ,lJ,9)):=by
 have:=Lt (q92 bI (sI 0 0) (by kernel_rfl) Ycw (λ_=>by decide) (Zey _ _) [] 9 100 100 ⟨by decide,by decide⟩ (by decide) (λ _=>by decide) (by decide))
 rwa [show ca bI (sI 0 0) [] 9=(0,tJ,lJ,9) from by kernel_rfl]at this
def kF(a c:Int)(u:aa):List aa:=tl (sI a c) .an .an .an .an u .an .an .an .an .an .an
attribute [local irreducible] aF.rd aF.pu aF.wr aF.dr aF.gr aF.gw aF.gl aF.gd aF.opt cI W
set_option maxHeartbeats 8000000
theorem Zd5{σ:List ab}{rd:List Nat}:aB (hp σ) rd (.agg tM) (cC bI):=
 aB.dY (y:=.agg tM) (aB.ro rfl) (λM u d=>(RW (M:=M) (xs:=[.agg tM]) (ys:=[cC bI]) (by kernel_rfl) (show dM ⟨M,bA⟩ [.agg tM] [u] from ⟨d,trivial⟩)).1)
theorem p91:PC 7 [] (.bool true):=by
 refine Xa hP g7.ok rfl rfl ?_;rw[H0.e];unfold g7;dsimp only;refine aY p168 g18.ok (Za (v:=.agg tM) rfl (Za (v:=.agg [iv 0,iv 0]) rfl ?_));refine Yd (v:=.ak 0 0) (rd:=[]) (up:=[(0,.box [.an,.an])]) rfl (Xe [] _) ?_;refine Yd (v:=.ak 1 0) (rd:=[]) (up:=[(1,.box [iv 0,iv 0])]) rfl (Xe [ab.box [.an,.an]] _) ?_;refine Yd (cX (row:=[.an,.an]) (row':=tM) rfl rfl rfl rfl) (Ze _ (by simp)) ?_;refine Yd (cX (row:=[iv 0,iv 0]) (row':=[iv 0,iv 0]) rfl rfl rfl rfl) (Ze _ (by simp)) ?_;refine Za (v:=.agg (kF 0 0 .an)) rfl (Qu (row:=kF 0 0 .an) (row':=kF 0 0 .an) rfl rfl rfl ?_);obtain⟨σ,eσ⟩:∃σ:List ab,((([ab.box [.an,.an]]++[ab.box [iv 0,iv 0]]).set 0 (ab.box tM)).set 1 (ab.box [iv 0,iv 0]))++[ab.box (kF 0 0 .an)]=σ:=⟨_,rfl⟩;rw[eσ];have b1:aj σ 0=.box tM:=by rw[←eσ];rfl
 have s1:aj σ 2=.box (kF 0 0 .an):=by rw[←eσ];rfl
 have hl:σ.length=3:=by rw[←eσ];rfl
 have dU:((([ab.box [.an,.an]]++[ab.box [iv 0,iv 0]]).set 0 (ab.box tM)).set 1 (ab.box [iv 0,iv 0])).length=2:=rfl;rw[dU];clear eσ dU;refine Za (v:=.agg (bg ⟨1,0,2,false⟩)) rfl (Yd (Zep 4 σ _ _ (bg ⟨1,0,2,false⟩) rfl rfl) (Xe σ _) ?_);have b2:=Qb [ab.rows 4 [bg ⟨1,0,2,false⟩]] b1;have s2:=Qb [ab.rows 4 [bg ⟨1,0,2,false⟩]] s1;have u2:=Yc σ (.rows 4 [bg ⟨1,0,2,false⟩]);rw[hl]at u2 ⊢;generalize σ++[ab.rows 4 [bg ⟨1,0,2,false⟩]]=σ2 at *;clear b1 s1 hl;refine ay ?_;refine Yd (cX (row':=kF 20 0 (.sl 3 0 1 true)) s2 rfl rfl rfl) (Ze _ (Yb s2)) ?_;have b3:=Zb (x:=.box (kF 20 0 (.sl 3 0 1 true))) b2 (by simp) (show 2≠0 by decide);have u3:=Zb (x:=.box (kF 20 0 (.sl 3 0 1 true))) u2 (by simp) (show 2≠3 by decide);have s3:aj (σ2.set 2 (.box (kF 20 0 (.sl 3 0 1 true)))) 2=_:=Zd _ (Yb s2);generalize σ2.set 2 (.box (kF 20 0 (.sl 3 0 1 true)))=σ3 at *;refine ay ?_;refine Yd (cX (row':=kF 20 20 (.sl 3 0 1 true)) s3 rfl rfl rfl) (Ze _ (Yb s3)) ?_;have b4:=Zb (x:=.box (kF 20 20 (.sl 3 0 1 true))) b3 (by simp) (show 2≠0 by decide);have u4:=Zb (x:=.box (kF 20 20 (.sl 3 0 1 true))) u3 (by simp) (show 2≠3 by decide);have s4:aj (σ3.set 2 (.box (kF 20 20 (.sl 3 0 1 true)))) 2=_:=Zd _ (Yb s3);generalize σ3.set 2 (.box (kF 20 20 (.sl 3 0 1 true)))=σ4 at *;clear b2 b3 u2 u3 s2 s3;have TY:RT σ4 [3] (.sl 3 0 1 true) [⟨1,0,2,false⟩]:=RT.own (l:=[⟨1,0,2,false⟩]) u4 (by simp) rfl;refine Za (v:=.agg tM) (ld b4 rfl) (Za (v:=.agg (kF 20 20 (.sl 3 0 1 true))) (ld s4 rfl) ?_);refine Qbu (b:=3) (q:=2) (row':=kF 20 20 (gU [⟨1,0,2,false⟩])) TK rfl g8.ok.plain (.cons Zd5 (.cons (SB.agg (SB.mk (s:=sI 20 20) .an .an .an .an TY .an .an .an .an .an .an)) (.cons (aB.ro rfl) (.cons (aB.ro rfl) .nil)))) (by rw[u4];simp) s4 (by decide) rfl (λj x x' e1 e2=>?_) ?_
 ·by_cases hj:j=13
  ·subst hj;have e1:x=.sl 3 0 1 true:=by have:some _=some x:=e1;exact(zBy this).symm
   have e2:x'=gU [⟨1,0,2,false⟩]:=by have:some _=some x':=e2;exact(zBy this).symm
   subst e1;subst e2;exact .inr TY
  ·left;have b_:j<23:=(gK e1).1;have:(kF 20 20 (.sl 3 0 1 true))[j]?=(kF 20 20 (gU [⟨1,0,2,false⟩]))[j]?:=by
    match j,b_,hj with
    |0,_,_|1,_,_|2,_,_|3,_,_|4,_,_|5,_,_|6,_,_|7,_,_|8,_,_|9,_,_|10,_,_|11,_,_|12,_,_|14,_,_|15,_,_|16,_,_|17,_,_|18,_,_|19,_,_|20,_,_|21,_,_|22,_,_=>rfl
    |13,_,h=>exact absurd rfl h
    |j+23,h,_=>omega
   simp_all
 have b5:aj (σ4.set 3 .dead) 0=.box tM:=Zb b4 (by simp) (by decide);have b5:=Zb (x:=.box (kF 20 20 (gU [⟨1,0,2,false⟩]))) b5 (by simp) (show 2≠0 by decide);have s5:aj ((σ4.set 3 .dead).set 2 (.box (kF 20 20 (gU [⟨1,0,2,false⟩])))) 2=_:=Zd _ (by simpa using Yb s4);generalize (σ4.set 3 .dead).set 2 (.box (kF 20 20 (gU [⟨1,0,2,false⟩])))=σ5 at *;clear b4 u4 s4 TY;refine Za (v:=bZ tI) rfl (Za (v:=.aU false false 7 (lI.map dF)) rfl (Za (v:=iv 7) rfl (Za (v:=iv 0) rfl (Qu (row:=aI tI) (row':=aI tI) rfl rfl rfl ?_))));have b6:=Qb [ab.box (aI tI)] b5;have s6:=Qb [ab.box (aI tI)] s5;have t6:=Yc σ5 (.box (aI tI));have hl6:=Yb s5;generalize σ5.length=tn at *;generalize σ5++[ab.box (aI tI)]=σ6 at *;refine Za rfl (Za rfl (Za rfl (Yd (cX (row':=kF 0 20 (gU [⟨1,0,2,false⟩])) s6 rfl rfl rfl) (Ze _ (Yb s6)) ?_)));have b7:=Zb (x:=.box (kF 0 20 (gU [⟨1,0,2,false⟩]))) b6 (by simp) (show 2≠0 by decide);have t7:=Zb (x:=.box (kF 0 20 (gU [⟨1,0,2,false⟩]))) t6 (by simp) (show 2≠tn by omega);have s7:aj (σ6.set 2 (.box (kF 0 20 (gU [⟨1,0,2,false⟩])))) 2=_:=Zd _ (Yb s6);generalize σ6.set 2 (.box (kF 0 20 (gU [⟨1,0,2,false⟩])))=σ7 at *;refine ay ?_;refine Yd (cX (row':=kF 0 0 (gU [⟨1,0,2,false⟩])) s7 rfl rfl rfl) (Ze _ (Yb s7)) ?_;have b8:=Zb (x:=.box (kF 0 0 (gU [⟨1,0,2,false⟩]))) b7 (by simp) (show 2≠0 by decide);have t8:=Zb (x:=.box (kF 0 0 (gU [⟨1,0,2,false⟩]))) t7 (by simp) (show 2≠tn by omega);have s8:aj (σ7.set 2 (.box (kF 0 0 (gU [⟨1,0,2,false⟩])))) 2=_:=Zd _ (Yb s7);generalize σ7.set 2 (.box (kF 0 0 (gU [⟨1,0,2,false⟩])))=σ8 at *;have hJ:PC 8 [.agg tM,.agg (kF 0 0 (gU [⟨1,0,2,false⟩])),.an,iv 9] (mm (0,tJ,lJ,9)):=YcS TL (by kernel_rfl);refine Za (v:=.agg tM) (ld b8 rfl) (Za (v:=.agg (kF 0 0 (gU [⟨1,0,2,false⟩]))) (ld s8 rfl) (aY hJ g8.ok ?_));refine Za (v:=bZ tJ) rfl (Za (v:=.aU false false 7 (lJ.map dF)) rfl (Za (v:=iv 9) rfl (Za (v:=iv 0) rfl (Qu (row:=aI tJ) (row':=aI tJ) rfl rfl rfl ?_))));have t9:=Qb [ab.box (aI tJ)] t8;have r9:=Yc σ8 (.box (aI tJ));generalize σ8.length=rn at *;generalize σ8++[ab.box (aI tJ)]=σ9 at *;refine Za (v:=.bool true) rfl ?_;refine Qa (Za rfl (Qa (Za rfl (Qa (Za rfl (Qa (Za (v:=gU []) (ld t9 rfl) ?_)))))));refine ay ?_;refine Za (v:=iv 1) (ld t9 rfl) (Qa (Za (v:=.bool true) rfl (Za (v:=.bool true) rfl ?_)));refine Qa (Za rfl (Qa (Za (v:=iv 3) rfl (Qa (Za (v:=.bool true) rfl (Za (v:=.bool true) rfl ?_))))));refine Qa (Za rfl (Qa (Za (Xm _ dF false false 7 lI .i64 1 (by decide)) (Qa (Za rfl (Qa (Za (v:=aN 14) (bB rfl) (Qa (Za (v:=.bool true) rfl (Za (v:=.bool true) rfl ?_))))))))));refine Qa (Za rfl (Qa (Za (v:=.bool true) rfl (Za (v:=.bool true) rfl ?_))));refine Qa (Za rfl (Qa (Za (v:=.bool true) rfl (Za (v:=.bool true) rfl ?_))));refine Qa (Za rfl (Qa (Za (v:=aN 3) (ld r9 rfl) ?_)));refine ay ?_;rfl
end Go.Ah.Tz
end
section
namespace Go.Ah.Tz
open Go.Proofs.Tryz (prog)
open Go.Proofs.YtiplhedaicikiaaGreatDoor.Rows (uptoBulk uptoBulkAll)
set_option maxRecDepth 100000
section
variable {H:Type}
abbrev Nc:TypeId:=66
abbrev vF:TypeId:=34
theorem VQ:Xu prog Nc=some [QI,QI,CC]:=by kernel_rfl
theorem W8:prog.underlying vF=some (.slice Nc):=by kernel_rfl
theorem Mw(fuel:Nat)(xs:List aa)(d:DataW H)(h:Typed prog fuel Nc xs d)(_:uptoBulk d<=1048576):∃x,xs=dH x∧True∧0<=uptoBulk d:=by
 obtain⟨f,parts,ds,rfl,rfl,rfl,r⟩:=QO h VQ;obtain⟨p0,parts,d0,ds,rfl,rfl,h0,r⟩:=r.cons;obtain⟨p1,parts,d1,ds,rfl,rfl,h1,r⟩:=r.cons;obtain⟨p2,parts,d2,ds,rfl,rfl,h2,r⟩:=r.cons;obtain⟨rfl,rfl⟩:=r.nil;obtain⟨v0,rfl,w0,rfl⟩:=Xz h0 X0;obtain⟨v1,rfl,w1,rfl⟩:=Xz h1 X0;obtain⟨v2,rfl,rfl⟩:=MZ h2 Gj;exact⟨⟨v0,v1,v2⟩,rfl,trivial,zBB _⟩
theorem QeB{fuel:Nat}{xs:List aa}{d:DataW H}(h:Typed prog fuel vF xs d)(hb:uptoBulk d<=1048576):∃l:List Tr,xs=[nG l]∧l.length<=1000000000:=by
 obtain⟨l,e,_,_,k⟩:=QL dH (λ_=>0) (λ_=>True) h W8 (by kernel_rfl) (λf _ xs d h hb=>Mw f xs d h hb) hb;exact⟨l,e,by omega⟩
end
end Go.Ah.Tz
namespace Go.Proofs.YtiplhedaicikiaaGreatDoor
open Go.ChangeShapes Go.WideShapes Go.ChangeAt Go.RowKit Go.Ah Go.Ah.Tz
theorem QbT{H:Type}{enc:TypeId×Value→H}{P:Program}{f:Func}{s:ChangeSpec}{apart fresh handsOn again:Bool}{W W':World}{args:Array Value}{v:Value}{ds gs:List (DataW H)}{before pa pv:List MemPlace}
 (hW:DataW.Whole enc P f.params.toList s.vars apart W args.toList ds gs before)
 (nB:∀(b:Nat) (sp:Nat→Bool) (hd:Bool),zDU enc P W' b sp hd f.resultTypes.toList (v.resultList f.resultTypes.size) (s.fn H (ds++gs)).results [])
 (wm:∀sp:Nat→Bool,(∀p∈before,sp p.block=true)→zDU enc P W' 0 sp true f.params.toList args.toList (s.fn H (ds++gs)).args pa)
 (BK:∀sp:Nat→Bool,(∀p∈before,sp p.block=true)→DataW.TrodVars enc P W' sp s.vars (s.fn H (ds++gs)).vars pv)
 (uU:before=pa++pv)(hb:Below W.heap.size W W')
 (bQ:∀(j:Nat) (t:TypeId) (r:Value),f.resultTypes[j]?=some t→(v.resultList f.resultTypes.size)[j]?=some r→zCD P W' .any 0 t r) :
  s.post enc P f apart fresh handsOn again W args v W':=by
 have hold:∀p∈before,(λb=>decide (b<W.heap.size)) p.block=true:=λp hp=>by simpa using hW.lt p hp
 refine⟨ds,gs,before,[],pa,pv,hW,nB _ _ _,wm _ hold,BK _ hold,World.keptBut_mono (λp hp=>⟨hp,?_⟩) (hb.frame (·∈before)),λ_=>?_⟩
 ·rw[uU,zAI]at hp;exact Or.inr hp
 ·have b_:=hW.lt;obtain⟨_,_,_,_,_,hz,hn⟩:=hW;refine⟨bQ,_,_,([]++pa)++pv,⟨[]++pa,pv,trodAll_append (wm _ (λ_ _=>rfl)) (nB _ _ _),BK _ (λ_ _=>rfl),rfl,?_,?_⟩,?_⟩
  ·intro b off hp;have di:MemPlace.cell b off∈before:=by rw[uU];simpa using hp
   rw[hb.frozen (p:=⟨b,off,none⟩) (show b<W.heap.size from b_ _ di)];exact hz b off di
  ·intro ha;have:=hn ha;rw[uU]at this;simpa using this
  ·intro p hp _;rw[uU];simpa using hp
set_option maxRecDepth 100000
abbrev Ml:TypeId:=5
abbrev YeA:TypeId:=311
theorem Jp:ownKnob Tryz.prog.godebug=none:=by kernel_rfl
theorem W9:Tryz.prog.globalNamed "strings.asciiSpace" = some 1:=by kernel_rfl
theorem Zde:(Tryz.prog.globals[1]?).map (·.type)=some YeA:=by kernel_rfl
theorem Qdd:laidOutB Tryz.prog=true:=by kernel_rfl
def iO:List Int:=(zAC 256).map λi=>match (zAP 9 i&&zAP i 13)||IN i 32 with|true=>1|false=>0
theorem Yd6{l:List (String×DataW Unit)}{x0 x1 x2 x3:String×DataW Unit}(hl:l=[x0,x1,x2,x3,("strings.asciiSpace",Lib.tabData .u8 iO)]){W:World}(h:laidMet Tryz.prog l W):∀p∈aG,Den (λb=>W.heap[b]?) bA (.aq p.2 0) (.pointer (some ⟨p.1,0,none⟩)):=by
 subst hl;have ht:Lib.TabIs Tryz.prog W "strings.asciiSpace" .u8 iO:=Lib.tabIs_of_head (rest:=[]) W9 Zde (show Tryz.prog.underlying YeA=some (.array 256 Ml) by kernel_rfl) (show Tryz.prog.underlying Ml=some (.int .u8) by kernel_rfl) (by kernel_rfl) (by kernel_rfl) h.tail.tail.tail.tail;have hlen:iO.length=256:=by simp[iO]
 have dN:Ae=iO.map (aa.int .u8):=by rw[Ae,iO,List.map_map];rfl
 intro p hp;simp only[aG,zAw]at hp;subst hp;refine .aq _ Ae 0 1 0 (λk=>.int .u8 (iO.getD k 0)) (λk hk=>?_) (λk y hy=>?_)
 ·have wH:k<iO.length:=by rw[dN,zAH]at hk;exact hk
  have:=(SH (ht.cell W9 k wH)).2;rw[No];exact this
 ·rw[dN,zAX]at hy;obtain⟨z,hz,rfl⟩:=zBg.1 hy;have:iO.getD k 0=z:=by simp[List.getD,hz]
  rw[this];exact .int _ _ _
def Nz:List TypeId:=[yf,QI,CC,yZ,Gs,NH,GD,PV,HE,AU,H_,Ru,IV,SS,Na,vC,HZ,Rv,AN,NI,Sa,vH]
theorem Zb1:Nz.all (AA Tryz.prog Nz)=true:=by kernel_rfl
theorem Yem{M:Nat→Option Obj}{xs:List aa}{cs:Array Value}(h:DL M xs cs.toList):Den M bA (.agg xs) (.agg cs):=
 .agg _ _ _ (by have:=h.1;simpa using this.symm) (λi x v h1 h2=>h.2 i x v h1 (by simpa using h2))
theorem WM{P:Program}{t:TypeId}{ts:List TypeId}(h:Xu P t=some ts):∃fs,P.underlying t=some (.struct fs):=by
 unfold Xu at h;split at h
 ·rename_i fs e;exact⟨fs,e⟩
 ·cases h
section
variable {H:Type} {enc:TypeId×Value→H} {W:World} {base:Nat} {v:Value} {d:DataW H} {ps:List MemPlace}
theorem Xem(ho:zCD Tryz.prog W .any base vC v)(h:zCX enc Tryz.prog W 0 (λ_=>true) true vC v d ps)(hb:Rows.uptoBulk d<=1048576):∃b:Bk,a_ b=true∧Yg b.ai∧Den (λk=>W.heap[k]?) bA (cC b) v:=by
 obtain⟨fs,Uc⟩:=WM LG;obtain⟨cs,rfl,_⟩:=okWide_struct Uc ho;obtain⟨fuel,hf⟩:=h;obtain⟨_,xs,h1,h2⟩:=NT (S:=Nz) Zb1 fuel vC (by decide) _ _ ⟨_,hf⟩;obtain⟨b,rfl,k1,k2⟩:=Mp h2 hb;exact⟨b,k1,k2,Yem h1⟩
theorem Xd6(ho:zCD Tryz.prog W .any base vH v)(h:zCX enc Tryz.prog W 0 (λ_=>true) true vH v d ps)(hb:Rows.uptoBulk d<=1048576):∃s:St,bd 2000000 s∧Den (λk=>W.heap[k]?) bA (bZ s) v:=by
 obtain⟨fs,Uc⟩:=WM LH;obtain⟨cs,rfl,_⟩:=okWide_struct Uc ho;obtain⟨fuel,hf⟩:=h;obtain⟨_,xs,h1,h2⟩:=NT (S:=Nz) Zb1 fuel vH (by decide) _ _ ⟨_,hf⟩;obtain⟨s,rfl,k⟩:=Mu h2 hb;exact⟨s,k,Yem h1⟩
theorem Jo(ho:zCD Tryz.prog W .any base QI v)(h:zCX enc Tryz.prog W 0 (λ_=>true) true QI v d ps):∃n:Int,Den (λk=>W.heap[k]?) bA (iv n) v:=by
 obtain⟨n,rfl,_⟩:=open_int X0 ho h;exact⟨n,.int _ _ _⟩
end
theorem N0{H:Type}{enc:TypeId×Value→H}{t:TypeId}(hr:Tryz.prog.readableRec t=true)(dN:t<Tryz.prog.types.size){W W':World}{v:Value}{d:DataW H}{ps all:List MemPlace}(h:zCX enc Tryz.prog W 0 (λ_=>true) true t v d ps)(hb:Below W.heap.size W W')(b_:∀p∈all,p.block<W.heap.size)(di:∀p∈ps,p∈all){sp:Nat→Bool}(hs:∀p∈all,sp p.block=true):zCX enc Tryz.prog W' 0 sp true t v d ps:=
 WideElems.Trod_stays Qdd hr dN h (λp hp=>hb.same (b_ p (di p hp))) (λp hp=>hs p (di p hp))
theorem Oo(t:TypeId)(h:(Tryz.prog.readableRec t&&decide (t<Tryz.prog.types.size))=true):Tryz.prog.readableRec t=true∧t<Tryz.prog.types.size:=by simpa using h
theorem Lv:Tryz.prog.readableRec vC=true∧vC<Tryz.prog.types.size:=Oo vC (by kernel_rfl)
theorem Lw:Tryz.prog.readableRec vH=true∧vH<Tryz.prog.types.size:=Oo vH (by kernel_rfl)
theorem Xex:Tryz.prog.readableRec QI=true∧QI<Tryz.prog.types.size:=Oo QI (by kernel_rfl)
def Pv:List TypeId:=[QI,CC,Nc,vF]
theorem YcO:Pv.all (AA Tryz.prog Pv)=true:=by kernel_rfl
theorem X_:Tryz.prog.readableRec vF=true∧vF<Tryz.prog.types.size:=Oo vF (by kernel_rfl)
section
variable {H:Type} {enc:TypeId×Value→H} {W:World} {base:Nat} {v:Value} {d:DataW H} {ps:List MemPlace}
theorem Jr(ho:zCD Tryz.prog W .any base vF v)(h:zCX enc Tryz.prog W 0 (λ_=>true) true vF v d ps)(hb:Rows.uptoBulk d<=1048576):∃l:List Tr,l.length<=1000000000∧Den (λk=>W.heap[k]?) bA (nG l) v:=by
 obtain⟨a,len,cap,rfl⟩:=okWide_slice W8 ho;obtain⟨fuel,hf⟩:=h;obtain⟨_,xs,h1,h2⟩:=NT (S:=Pv) YcO fuel vF (by decide) _ _ ⟨_,hf⟩;obtain⟨l,rfl,k1⟩:=QeB h2 hb;exact⟨l,k1,h1.2 0 _ _ rfl rfl⟩
end
theorem Ql{a b:Bool}(h:a=true)(k:b=true):(a&&b)=true:=by rw[h,k];rfl
def Jq:List Int:=[1,10,100,1000,10000,100000,1000000,10000000,100000000,1000000000,10000000000,100000000000,1000000000000,10000000000000,100000000000000,1000000000000000,10000000000000000,100000000000000000,1000000000000000000,10000000000000000000]
def Jm:List Int:=[0,1,28,2,29,14,24,3,30,22,20,15,25,17,4,8,31,27,13,23,21,19,16,7,26,12,18,6,11,5,10,9]
def Jn:List Int:=[0,1,56,2,57,49,28,3,61,58,42,50,38,29,17,4,62,47,59,36,45,43,51,22,53,39,33,30,24,18,12,5,63,55,48,27,60,41,37,16,46,35,44,21,52,32,23,11,54,26,40,15,34,20,31,10,25,14,19,9,13,8,7,6]
def ZdK:List Int:=[9,13,1,32,133,101,160,5760,5600,8192,8202,1,8232,8233,1,8239,8287,48,12288,12288,1]
noncomputable def PM (os:Os):World:=
 let w0:=World.holding Tryz.prog os ⟨#[],#[],[]⟩
 let put (h:Array Obj) (g:Nat) (cs:Array Value):Array Obj:=h.modify g fun
  |.cells _ t frozen=>.cells cs t frozen
  |o=>o
 let h1:=put w0.heap 0 (Jq.map λz=>zCx .u64 z).toArray
 let h2:=put h1 1 (iO.map λz=>zCx .u8 z).toArray
 let h3:=put h2 2 (Jm.map λz=>zCx .u8 z).toArray
 let h4:=put h3 3 (Jn.map λz=>zCx .u8 z).toArray
 let h5:=put h4 4 #[.pointer (some ⟨w0.heap.size,0,none⟩)]
 { w0 with heap:=(h5.push (.cells #[.slice (some ⟨w0.heap.size+1,0,none⟩) 7 7,.slice none 0 0,.int .i64 2] 323 (0,0))).push (.cells (ZdK.map λz=>zCx .u16 z).toArray 326 (0,0)) }
theorem Ycu:Rows.wakeRestsUptoRow.laid=[("math/bits.deBruijn32tab",Rows.laid_math_bits_deBruijn32tab),("math/bits.deBruijn64tab",Rows.laid_math_bits_deBruijn64tab),("internal/strconv.uint64pow10",Rows.laid_internal_strconv_uint64pow10),("unicode.White_Space",Rows.laid_unicode_White_Space),("strings.asciiSpace",Lib.tabData .u8 iO)]:=by kernel_rfl
theorem Xbu(H:Type)(enc:TypeId×Value→H)(W:World)(base:Nat)(args:Array Value)(ds gs:List (DataW H))(before:List MemPlace)
 (tc:∀(j:Nat) t v,Tryz.f3.params[j]?=some t→args[j]?=some v→zCD Tryz.prog W .any base t v)
 (hW:DataW.Whole enc Tryz.prog Tryz.f3.params.toList Rows.wakeRestsSpec.vars false W args.toList ds gs before)(hk:Rows.uptoSmall H (ds++gs)=true)(hL:laidMetH Tryz.prog Rows.wakeRestsUptoRow.laid W) :
  Calls Tryz.prog 3 args W λe W'=>∃v,e=.returned v∧Rows.wakeRestsSpec.post enc Tryz.prog Tryz.f3 false true false false W args v W':=by
 have hW':=hW;have b_:=hW.lt;obtain⟨p,q,hA0,hV,rfl,hfz,hnd⟩:=hW;have hA:zDU enc Tryz.prog W 0 (λ_=>true) true Tryz.f3.params.toList args.toList ds p:=hA0;rw[Tryz.params3]at hA tc;obtain⟨v0,vs,d0,ds,p0,p,wm,rfl,rfl,h0,r⟩:=trodAll_cons hA;obtain⟨v1,vs,d1,ds,p1,p,rfl,rfl,rfl,h1,r⟩:=trodAll_cons r;obtain⟨v2,vs,d2,ds,p2,p,rfl,rfl,rfl,h2,r⟩:=trodAll_cons r;obtain⟨v3,vs,d3,ds,p3,p,rfl,rfl,rfl,h3,r⟩:=trodAll_cons r;obtain⟨rfl,rfl,rfl⟩:=trodAll_nil r;obtain rfl:args = #[v0,v1,v2,v3]:=by cases args;simp_all
 obtain⟨rfl,rfl⟩:=trodVars_none hV;have cN:Rows.uptoBulkAll [d0,d1,d2,d3]<=1048576:=of_decide_eq_true hk;simp only[Rows.uptoBulkAll]at cN;obtain⟨b,hf,bY,e0⟩:=Xem (tc 0 _ v0 rfl rfl) h0 (by omega);obtain⟨s,hs,e1⟩:=Xd6 (tc 1 _ v1 rfl rfl) h1 (by omega);obtain⟨a2,l2,e2⟩:=Jr (tc 2 _ v2 rfl rfl) h2 (by omega);obtain⟨n3,e3⟩:=Jo (tc 3 _ v3 rfl rfl) h3;have hg:=Yd6 Ycu (show laidMet Tryz.prog Rows.wakeRestsUptoRow.laid W from hL);refine(i19 p91 b hf bY s hs a2 n3 l2 W (λk=>W.heap[k]?) [v0,v1,v2,v3] (λ_ _ h=>h) hg ⟨e0,e1,e2,e3,trivial⟩).mono ?_;rintro e W' ⟨u,rfl,Kl,M',_,_,_,hd⟩;cases hd;have hb:=Kl.below;refine⟨_,rfl,QbT (pa:=p0++(p1++(p2++(p3++[])))) (pv:=[]) hW' (λ_ _ _=>trodAll_cons_mk (shut_bool Gj _) trodAll_mk0) (λsp uc=>?_) (λ_ _=>rfl) rfl hb (ok_one (by kernel_rfl) rfl (okWide_bool_mk Gj _))⟩;rw[Tryz.params3];refine trodAll_cons_mk (N0 Lv.1 Lv.2 h0 hb b_ (λp hp=>by simp[hp]) uc) <| trodAll_cons_mk (N0 Lw.1 Lw.2 h1 hb b_ (λp hp=>by simp[hp]) uc) <| trodAll_cons_mk (N0 X_.1 X_.2 h2 hb b_ (λp hp=>by simp[hp]) uc) <| trodAll_cons_mk (N0 Xex.1 Xex.2 h3 hb b_ (λp hp=>by simp[hp]) uc) trodAll_mk0
def MT:Array Value:=#[.agg #[.slice none 0 0,.slice none 0 0],.agg #[.int .i64 0,.int .i64 0,.int .i8 0,.bool false,.int .i8 0,.slice none 0 0,.int .i64 0,.int .i64 0,.int .i64 0,.int .i64 0,.slice none 0 0,.slice none 0 0,.slice none 0 0,.slice none 0 0,.slice none 0 0,.int .i64 0,.int .i64 0,.int .i64 0,.slice none 0 0,.slice none 0 0,.slice none 0 0,.slice none 0 0,.slice none 0 0],.slice none 0 0,.int .i64 0]
theorem Xc3(os:Os):laidMet Tryz.prog Rows.wakeRestsUptoRow.laid ((PM os).forCall (λ_ _=>0) ⟨#[],MT,[]⟩).memory:=
 laidMet_of_run' 8 (by kernel_rfl) (by kernel_rfl)
theorem Yci(os:Os){H:Type}(enc:TypeId×Value→H):∃places,DataW.whole enc Tryz.prog ((PM os).forCall (λ_ _=>0) ⟨#[],MT,[]⟩).memory Tryz.f3.params.toList Rows.wakeRestsSpec.vars false MT.toList 8 =
  some ([.agg [.nil,.nil],.agg [.lit (.int .i64 0),.lit (.int .i64 0),.lit (.int .i8 0),.lit (.bool false),.lit (.int .i8 0),.nil,.lit (.int .i64 0),.agg [.agg [.lit (.int .i64 0),.lit (.int .i64 0),.lit (.int .i64 0),.nil,.nil,.nil,.nil,.nil],.agg [.lit (.int .i64 0),.lit (.int .i64 0),.lit (.int .i64 0),.nil,.nil,.nil,.nil,.nil]]],.nil,.lit (.int .i64 0)],[],places):=⟨[],by kernel_rfl⟩
theorem QbX(os:Os)(started:os.Started)(H:Type)(enc:TypeId×Value→H)(F:Stop.Interp) :
  ReturnsInHanded {} Tryz.checked os 3 .any ((Rows.OpenSpec.upto Rows.wakeRestsSpec).preRow enc Tryz.prog Tryz.f3 Rows.wakeRestsUptoRow.domain false Rows.wakeRestsUptoRow.laid) (((Rows.OpenSpec.upto Rows.wakeRestsSpec).at F).post enc Tryz.prog Tryz.f3 false true false false):=by
 obtain⟨places,hx⟩:=Yci os enc;refine returnsInHanded_of_row (C:=Tryz.checked) (s:=Rows.OpenSpec.upto Rows.wakeRestsSpec) Jp started (by kernel_rfl) Tryz.func3
  (witness_row_atRef (enc:=enc) (C:=Tryz.checked) false (PM os) MT rfl (by kernel_rfl) (by kernel_rfl) (by kernel_rfl)
   (OpenSpec.preRow_of_cond 8 hx (by kernel_rfl) (λk hk=>by cases hk;kernel_rfl) (by kernel_rfl) (Xc3 os))) ?_
 intro W base args ds gs before tc hW _ tW _ hL _ _;exact Xbu H enc W base args ds gs before tc hW (tW _ rfl) hL
theorem QdC:Tryz.prog.funcNamed Rows.wakeRestsUptoRow.func=some 3:=by kernel_rfl
theorem ZdD:(Rows.wakeRestsUptoRow.wf (OpenSpec.ofChange (Rows.OpenSpec.upto Rows.wakeRestsSpec).bare))=true:=by kernel_rfl
theorem YdD:(laidOutB Tryz.prog)=true:=by kernel_rfl
theorem XdD:(mapsRowed Tryz.prog)=true:=by kernel_rfl
theorem QdD:(Tryz.f3.params.all (Tryz.prog.readableRec ·))=true:=by kernel_rfl
theorem ZdE:(namedTie Tryz.prog Rows.wakeRestsUptoRow.named (Rows.OpenSpec.upto Rows.wakeRestsSpec).bare.vars)=true:=by kernel_rfl
theorem YdE:(Rows.wakeRestsUptoRow.stops==[])=true:=by kernel_rfl
theorem XdE:(Tryz.prog.stops==[])=true:=by kernel_rfl
theorem QdE:(Rows.wakeRestsUptoRow.knobs==[])=true:=by kernel_rfl
theorem ZdF:(Tryz.prog.stopKnobs==[])=true:=by kernel_rfl
theorem QcX:(Rows.wakeRestsUptoRow.inPlace==Tryz.prog.inPlace 3)=true:=by kernel_rfl
theorem ZcY:(Rows.wakeRestsUptoRow.unfollowed==Tryz.prog.unfollowed 3)=true:=by kernel_rfl
theorem YcY:(Rows.wakeRestsUptoRow.recurses==Tryz.prog.recurses 3)=true:=by kernel_rfl
theorem XcY:(Rows.wakeRestsUptoRow.named==Tryz.prog.varsNamed 3)=true:=by kernel_rfl
theorem QcY:(Rows.wakeRestsUptoRow.maps==(Tryz.f3.params.toList++(Rows.OpenSpec.upto Rows.wakeRestsSpec).bare.plain.varTypes Tryz.prog).any (Tryz.prog.mapsRec ·))=true:=by kernel_rfl
theorem ZcZ:(Rows.wakeRestsUptoRow.ifaces==(Tryz.f3.params.toList++(Rows.OpenSpec.upto Rows.wakeRestsSpec).bare.plain.varTypes Tryz.prog).any (Tryz.prog.ifacesRec ·))=true:=by kernel_rfl
theorem YcZ:(Rows.wakeRestsUptoRow.mapsOut==Tryz.prog.mapsAmong Tryz.f3.resultTypes.toList)=true:=by kernel_rfl
theorem XcZ:(Rows.wakeRestsUptoRow.loops==(Tryz.f3.params.toList++(Rows.OpenSpec.upto Rows.wakeRestsSpec).bare.plain.varTypes Tryz.prog).any (Tryz.prog.loopsFrom ·))=true:=by kernel_rfl
theorem QcZ:(Rows.wakeRestsUptoRow.wideKeys==(Tryz.f3.params.toList++(Rows.OpenSpec.upto Rows.wakeRestsSpec).bare.plain.varTypes Tryz.prog++Tryz.f3.resultTypes.toList).any (Tryz.prog.wideKeysFrom ·))=true:=by kernel_rfl
theorem Zc0:((Rows.OpenSpec.upto Rows.wakeRestsSpec).bare.vars.all (Tryz.prog.varReadable ·))=true:=by kernel_rfl
theorem Yc0:(Tryz.f3.resultTypes.all (λt=>Tryz.prog.readableRec t&&decide (t<Tryz.prog.types.size)))=true:=by kernel_rfl
theorem Xc0:(Rows.wakeRestsUptoRow.ifacesOut==Tryz.f3.resultTypes.toList.any (Tryz.prog.ifacesRec ·))=true:=by kernel_rfl
theorem Qc0:(Rows.wakeRestsUptoRow.loopsOut==Tryz.f3.resultTypes.toList.any (Tryz.prog.loopsFrom ·))=true:=by kernel_rfl
theorem Zc1:(Rows.wakeRestsUptoRow.plainKeys==Tryz.prog.plainKeys)=true:=by kernel_rfl
theorem Yc1:(Rows.wakeRestsUptoRow.shortTexts.isNone)=true:=by kernel_rfl
theorem Xc1:(Tryz.prog.stopsHeard)=true:=by kernel_rfl
theorem Qc1:(Tryz.prog.mayEnter)=true:=by kernel_rfl
theorem Zc2:(Rows.wakeRestsUptoRow.lifted==Tryz.prog.liftsFinal)=true:=by kernel_rfl
theorem Yc2:(Tryz.prog.make==some Rows.wakeRestsUptoRow.make)=true:=by kernel_rfl
theorem Xc2:(Rows.wakeRestsUptoRow.kinds==(if Rows.wakeRestsUptoRow.domain.isEmpty then []else Tryz.f3.params.toList.map λt=>match Tryz.prog.underlying t with|some (.int k)=>some k|_=>none))=true:=by kernel_rfl
theorem Qc2:(Rows.wakeRestsUptoRow.pinned==Rows.wakeRestsUptoRow.pinnedBy)=true:=by kernel_rfl
theorem Zc3:(Rows.wakeRestsUptoRow.veiled==(Tryz.f3.params.toList++(Rows.OpenSpec.upto Rows.wakeRestsSpec).bare.plain.varTypes Tryz.prog++Tryz.f3.resultTypes.toList).any (Tryz.prog.veiledRec ·))=true:=by kernel_rfl
theorem Yc3:(Rows.wakeRestsUptoRow.veiledFits Tryz.prog Tryz.f3.params.toList (Tryz.f3.params.toList++(Rows.OpenSpec.upto Rows.wakeRestsSpec).bare.plain.varTypes Tryz.prog++Tryz.f3.resultTypes.toList))=true:=by kernel_rfl
theorem XbX:joinedFacts Tryz.prog 3 Tryz.f3 (Rows.OpenSpec.upto Rows.wakeRestsSpec).bare Rows.wakeRestsUptoRow=true:=(Ql (Ql (Ql (Ql (Ql (Ql (Ql (Ql (Ql (Ql (Ql (Ql (Ql (Ql (Ql (Ql (Ql (Ql (Ql (Ql (Ql (Ql (Ql (Ql (Ql (Ql (Ql (Ql (Ql (Ql (Ql ZdD YdD) XdD) QdD) ZdE) YdE) XdE) QdE) ZdF) QcX) ZcY) YcY) XcY) QcY) ZcZ) YcZ) XcZ) QcZ) Zc0) Yc0) Xc0) Qc0) Zc1) Yc1) Xc1) Qc1) Zc2) Yc2) Xc2) Qc2) Zc3) Yc3)
theorem Xcu:Rows.WakeRestsUptoSaid:=
 OpenClaim.holds_of_cond 3 Tryz.f3 rfl rfl rfl rfl rfl rfl rfl ⟨rfl,rfl,rfl,rfl,rfl⟩ rfl rfl rfl rfl rfl QdC Tryz.func3 XbX
  (of_decide_eq_true (by kernel_rfl)) (by unfold Func.isWrapper;first|(rw[aJ (by decide +kernel)];kernel_rfl)|(rw[aE (by decide +kernel)];exact⟨rfl,rfl⟩))
  (λos started H enc _ F=>by rw[OpenClaim.pre_eq_preRow];exact QbX os started H enc F)
theorem Zci(f:FuncId)(fn:Func)(hf:Tryz.pinned.checked.prog.funcNamed "baize/baizelaw23.WakeRests" = some f)(yu:Tryz.pinned.checked.prog.funcs[f]?=some fn) :
  true=Tryz.pinned.checked.prog.looks []∧∀(j:Nat) t,fn.params[j]?=some t→Tryz.pinned.checked.prog.wantsStandIn t=false:=by
 obtain rfl:f=3:=zBy ((show Tryz.prog.funcNamed "baize/baizelaw23.WakeRests" = some 3 by kernel_rfl).symm.trans hf) |>.symm;obtain rfl:fn=Tryz.f3:=(zBy (Tryz.func3.symm.trans yu)).symm;refine⟨by kernel_rfl,λj t ht=>?_⟩;rw[Tryz.params3]at ht;have hm:t∈[vC,vH,vF,QI]:=by simpa using Array.mem_of_getElem? ht
 have iK:([vC,vH,vF,QI].all λu=>!Tryz.prog.wantsStandIn u)=true:=by kernel_rfl
 exact(show Tryz.prog.wantsStandIn t=false by simpa using zAj.1 iK t hm)
theorem wakeRests_upto_card:Rows.WakeRestsUptoCardSaid:=
 Claim7.holds_tied_plain_at .later [] _ _ _ _ Xcu (λ_ h=>by cases h) (by kernel_rfl) (λ_ h=>by cases h) wakeRestsUpto_row_tie rfl ⟨rfl,rfl⟩ (by kernel_rfl) rfl Zci (by kernel_rfl)
#print axioms wakeRests_upto_card
end Go.Proofs.YtiplhedaicikiaaGreatDoor
end
