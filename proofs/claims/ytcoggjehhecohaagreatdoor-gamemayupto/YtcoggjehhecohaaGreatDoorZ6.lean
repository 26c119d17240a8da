/- Part of the proof that GameMay holds of the program for arguments that together hold at most 1048576 values and letters; no other condition. -/
import Derived.Test.YtcoggjehhecohaaGreatDoorZ5
import Derived.Test.YtcoggjehhecohaaGreatDoorRows
import Derived.Shelf.Sort.Plain
import Derived.Test.YtcoggjehhecohaaGreatDoorChecked
import Derived.Shelf.Slices.In.SortNone
import Derived.Test.YtcoggjehhecohaaGreatDoorCards
import Derived.Test.YtcoggjehhecohaaGreatDoorTie
import Derived.ProofKit
import Derived.OpenShut
import Derived.Carry
import Derived.SevenTiedAt
import Derived.JoinedCond
import Derived.LaidMore
import Derived.SizedLaws
import Derived.Stop.LaidErr
import Derived.Deep.DeepHandedRow
import Derived.Deep.DeepWitnessRowRef
import Derived.Lib.LaidTab
set_option linter.all false
open Array renaming ext_getElem?->GP,getElem?_eq_some_iff->E1,getElem?_setIfInBounds_ne->EF,getElem?_setIfInBounds_self_of_lt->Fz
open Bool renaming and_eq_true->AA,and_self->C2,and_true->DZ,not_eq_false'->FI,not_eq_true'->B9,or_eq_false_iff->Ct,or_eq_true->EA,true_and->Ax
open Classical renaming not_not->Ha
open Go.DataW renaming Trod->GJ,TrodAll->G7,Whole->Mc
open Go.IntKind renaming i64->AF,i8->Ly
open Go.IntWalk renaming i64_in->Bb
open Go.Lib renaming tabData->Mp
open Go.Lit renaming int->Mh
open Go.OpenClaim renaming holds_of_cond->NA,pre_eq_preRow->M7
open Go.Proofs.Lays renaming n189->MX
open Go.Value renaming int->Eo,okWide->Fj
open Go.WideElems renaming Trod_stays->M1
open Int renaming le_of_eq->Ml,le_refl->FW,not_lt->Mx
open List renaming all_eq_true->C1,any_eq_true->FV,append_assoc->Cp,append_nil->DR,cons_append->Cz,drop_left->HA,getElem?_append_left->Bi,getElem?_append_right->Bc,getElem?_eq_getElem->Cv,getElem?_map->Ba,getElem_mem->AI,length_append->AT,length_cons->A1,length_eq_zero_iff->Ck,length_eraseIdx_of_lt->E2,length_map->Be,length_nil->Cb,map->Hw,map_append->A8,map_cons->B7,map_map->E5,mem_append->Bd,mem_cons->Az,mem_cons_of_mem->DI,mem_cons_self->EL,mem_flatMap->IY,mem_map->By,mem_of_getElem?->Au,mem_range->DW,mem_singleton->D1,nil_append->Cm,nodup_append->Gf,nodup_cons->EX,not_mem_nil->EZ,range->Ao,replicate->CD,sum_cons->GI,take_length->C5,take_of_length_le->DN,take_succ_eq_append_getElem->Cq
open List.range renaming loop->B0
open Nat renaming beq->AJ,beq_refl->EK,ble->BY,ble_eq_true_of_le->AH,blt->C3,le_add_right->Kw,le_refl->AO,le_trans->CI,lt_irrefl->MJ,lt_of_lt_of_le->Er,strongRecOn->Eu,zero_add->Al,zero_le->Bf
open Option renaming getD_some->Cw,map_eq_some_iff->Eg
open Option.some renaming inj->GC
open Prod.mk renaming injEq->F0
section
namespace Go.Ah.Tz
open Go.Proofs.Tryz (prog)
set_option maxRecDepth 100000
attribute [local irreducible] aI.rd aI.pu aI.wr aI.dr aI.gr aI.gw aI.gl aI.gd aI.opt c8 W
set_option maxHeartbeats 8000000
def Qem(b d:Nat)(K:KT)(k58 f:n_)(abp:List I)(J:List U):Prop:=
 VV.rd (Xf true 2 [.ak 0 0] J) λt86=>VV.rd (Xf true 23 [.ak 1 0] J) λt87=>VV.call (.call 95) [t86,t87] J λt88 J=>
 VV.loop (λi v66 J=>VV.rd (Yn [h0 v66] J) λt90=>VV.rd (Qn .gtr false [t90,.int .i64 0] J) λt91=>VV.test t91 (
  VV.rd (Yn [h0 v66] J) λt96=>VV.loop (λj v71 J=>VV.rd (Qn .lss false [h0 v71,t96] J) λt98=>VV.test t98 (
    c8 (λk73=>yL d (h0 v66) (h0 v71) k73 J) (λ_ J=>VV.rd (Qn .add false [h0 v71,.int .i64 1] J) λt131=>j [t131] J))
    (wX b (h0 v66) i J)) [.int .i64 0] J) (
  VV.call (.call 97) [.ak 1 0] J λt143 J=>VV.rd (Qn .neq false [t143,.int .i8 0] J) λt145=>VV.test t145 (k58 [t143] J) (
   VV.call (.call 98) [.ak d 0] J λt148 J=>VV.rd (Zk 0 [t148] J) λt149=>VV.rd (Zk 1 [t148] J) λt150=>VV.wr (Zt [.int .i64 0,.int .i64 0,.bool false] [] J) J λt27 J=>
   VV.wr (Xh 3 [t27,t149] J) J λ_ J=>VV.rd (qH .not [t150] J) λt152=>VV.test t152 (
    VV.dr (Xf true 23 [.ak 1 0] J) J λt153 l125 J=>VV.dr (Xf false 1 [.ak b 0] J) J λt154 l127 J=>VV.dr (Xf false 1 [.ak 2 0] J) J λt155 l129 J=>VV.dr (Xh 23 [.ak 3 0,t153] J) J λ_ l130 J=>
    VV.gd (Qg [[],[],[],[0],[0,1,3],[0,1,2,3,4],[0,1,2,3,4,5]] [l125,l127,l129,l130,([],[]),([],[]),([],[])]) <| VV.opt (fz true 23 (.ak 3 0) J) λr131=>K (.bw [r131,t154,t155,.int .i64 0]) J) (
    VV.rd (Xf false 1 [.ak 2 0] J) λt156=>VV.rd (Qn .eql false [t156,.int .i64 0] J) λt157=>VV.test t157 (k58 [.int .i8 3] J) (
     yM b f k58 K (.func (.func 94) [] [.ak 0 0,.ak 1 0,.ak 2 0,.ak b 0]) t27 J))))) [t88] J
def CN(b d:Nat)(K:KT)(J:List U):Prop:=
 c8 (λk58=>VV.loop (Qem b d K k58) [] J) (λv59 J=>yJ b K v59 J)
variable{τ J:List U}
theorem YeX{b:Bk}(hf:aN b=true)(bn:Yg b.aj)(iY:b.aj.length<=61)(c6:(bO b).1=0){s:St}{N C:Nat}(hS:cu b N C s){fu:Int}(wh:0<=fu/\fu<=1000)(hC:C+200*(fu.toNat+1)+14<=1000000){ws:List Tr}(hN:N+12000*(ws.length+bB s+1)<=1000000)(hws:ws.length<=1000)(bT:∀x∈ws,kX b x)
 {L S:Nat}(hR:RS b s fu [] ws L S τ){K:KT}
 (hK:∀(r:Int×St×List Ev×Int) (lv:I) (cs:List I) (σ':List U),r=YO b (fu.toNat+1) s ws fu []->SB σ' [] cs r.2.1->LE r.2.2.1 lv σ'->K (.bw [.agg cs,lv,O r.2.2.2,O r.1]) σ'):CN L S K τ:=by
 unfold CN;refine Zj λk58 ek=>?_;have xZ:∀(t:St) (d how:Int) (D:List Ev) (E:List Tr) (T:List U),ba 1000000000 t->RS b t d D E L S T->0<=how/\how<=3->D.length<=100000000->jB b t D d how=YO b (fu.toNat+1) s ws fu []->k58 [aS how] T:=by
  intro t d how D E T ht hr hh hl e;rw[ek];exact Ye3 b hf bn ht hr how hh hl (λσ' lv hle=>hK _ lv _ σ' e (SB.ro _) hle)
 clear ek;refine Zh (ι:=Nat) (λi V T=>V=[]/\∃ (t:St) (d:Int) (D:List Ev) (E:List Tr) (P F n:Nat),RS b t d D E L S T/\cu b P F t/\0<=d/\d<=1000/\i=d.toNat/\P + 12000 * (E.length + bB t + 1)<=1000000/\F + 200 * (i + 1) + 14<=1000000 /\
   D.length + 13000 * (i + 1)<=90000000/\E.length + 20 * (i + 1)<=80000000/\(∀ x∈E,kX b x)/\d<=n/\YO b (n + 1) t E d D=YO b (fu.toNat + 1) s ws fu []) id fu.toNat
  ⟨rfl,s,fu,[],ws,N,C,fu.toNat,hR,hS,wh.1,wh.2,rfl,hN,hC,by simp;omega,by omega,bT,by omega,rfl⟩ ?_
 clear hR hS hN hC hws bT;rintro i V T again ⟨rfl,t0,d,X,G,P,F,n,hR,hS,IM,Cs,rfl,hN,hC,hl,hw,bT,hn,nF⟩ bj;unfold Qem;refine Z (v:=dd b) (ld hR.hb rfl) (Z (v:=bN t0) (ld hR.hs rfl) (bD (c28 b hf bn t0 hS.le (Qs.2 ⟨c6,hS.may⟩)) g95.ok ?_));have wu:Xl t0<=14:=by have:=hS.may.s0.af;have:=hS.may.s1.af;unfold Xl;omega
 have Ee:=Pk (b:=b) (N:=P) (C:=F) (by omega) (Xl t0) t0 G X (AO _) hS;refine Zh (ι:=Nat) (λi V φ=>∃(t:St) (o:List Ev) (p:List Tr),V=[aM (bc b t)]/\i=Xl t/\RS b t d o p L S φ/\cu b P F t/\quiet b (Xl t) t p o=quiet b (Xl t0) t0 G X/\o.length+Xl t<=X.length+14/\p.length+Xl t<=G.length+14) id (Xl t0)
  ⟨t0,X,G,rfl,rfl,hR,hS,rfl,by omega,by omega⟩ ?_
 clear hR;rintro _ _ φ Vz ⟨t,o,p,rfl,rfl,hR,w,hq,fw,Sm⟩ Lz;refine Z (v:=O (bc b t).length) (rd:=[]) (by simp[Yn,h0]) (Z (v:=.bool (decide (((bc b t).length:Int)>0))) rfl (Ya (λh=>?_) (λh=>?_)))
 ·have hd:bc b t≠[]:=by rintro e;rw[e]at h;simp at h
  obtain⟨d1,d2,d3⟩:=QY w.may;refine Z (v:=O (bc b t).length) (rd:=[]) (by simp[Yn,h0]) (Zh (ι:=Nat) (λj V ψ=>V=[O j]/\j<=(bc b t).length/\RS b t d o (p++gu b t ((bc b t).take j)) L S ψ) (λj=>(bc b t).length-j) 0 ⟨rfl,by omega,by simpa[gu]using hR⟩ ?_);rintro j _ ψ qJ ⟨rfl,hj,IG⟩ qX;refine Z (v:=.bool (decide ((j:Int)<(bc b t).length))) rfl (ZT (λh2=>?_) (λh2=>?_))
  ·have hwl:(p++gu b t ((bc b t).take j)).length<=90000000:=by
    grind [JD]
   refine Zj λk73 ek=>?_;refine Ze6 hf w IG h2 (d2 _ (AI h2)) hwl λψ' h3=>?_;rw[Cp,<-QbI,<-Yv _ _ h2]at h3;rw[ek];refine Z (Qi ..) ?_;rw[Zd (n:=j) (by omega)]
   grind
  ·subst h2;rw[C5]at IG;refine QeN hf bn c6 w (by omega) IG (by omega) λψ' h3=>?_;have Cy:=PA w.may hd;have DV:=(XK (bc b t) t).1;have rN:=Pw (bc b t) t d1 d2;have hT:=JD b t (bc b t);rw[Yc8 (N:=P) (C:=F) (by omega) p o w hd]at hq;refine Lz _ _ _ Cy ⟨_,_,_,rfl,rfl,h3,w.vp (by omega),hq,?_,?_⟩
   ·rw[AT];omega
   ·rw[AT];omega
 ·have hd:bc b t=[]:=by
   grind [Ck]
  rw[Zc8 _ _ _ hd]at hq;have H:=PE n d hq.symm;rw[nF]at H;clear Lz nF;obtain⟨_,_,_,⟨m',p1,p2,p3⟩⟩:=Ee;rw[<-hq]at p1;have p1:p=G++m':=p1;have vD:∀x∈p,kX b x:=by
   grind
  have Y:=O4 c6 (by omega:F+14<=1000000) (Xl t0) t0 G X hS;rw[<-hq]at Y
  replace Y:bB t+p.length<=bB t0+G.length:=Y
  clear p1 p2 p3 hq;refine Xe hP (f:=97) rfl g97.ok rfl (w212 t hR.hs ?_);have DQ:=QbQ t;refine Z (QM ..) (Ya (λQ=>?_) (λQ=>?_))
  ·have Q:XA t≠0:=by simpa using Q
   rw[aE Q]at H;exact xZ t d _ o p φ w.ni hR DQ (by omega) H.symm
  have Q:XA t=0:=by simpa using Q
  rw[aB (by simpa using Q)]at H;obtain⟨qv,q1,q2⟩:=hR.hq;refine Xe hP (f:=98) rfl g98.ok rfl (w213 q1 q2 (by omega) (λEc σ' r1 r2 r3=>?_) (λx wr xG σ' wv r1 r2 r3=>?_))
  ·subst Ec;have h3:=hR.Sr r1 r2 r3;refine Z rfl (Z rfl (Zq (row:=[O 0,O 0,.bool false]) (row':=[O 0,O 0,.bool false]) rfl rfl rfl ?_));have h4:=h3.app (.box [O 0,O 0,.bool false]);generalize σ'++[U.box [O 0,O 0,.bool false]]=φ2 at *;obtain⟨lv,e1,l1⟩:=h4.he;have hr:=h4.hr;have e3:=h4.e3;refine Z rfl (Xg (Ze (v:=bN t) (ld h4.hs rfl) (Yd _) (Ze (v:=lv) (ld e1 rfl) (Yd _) (Ze (v:=O d) (ld h4.hf rfl) (Yd _) (Ze (cO (row':=aH t) hr rfl rfl rfl) (Ye _ (Yb hr)) ?_)))));have n1:L≠3:=by omega
   refine Xo (by simp[Qg,Qj,Zl,Zs,bF,df,Ao,B0,n1,n1.symm]) (Zp (Qr (Yb hr) rfl) ?_);exact hK (0,t,o,d) lv _ _ H.symm (SB.ro _) (l1.mono λc rs k=>ZC _ hr k)
  ·subst xG;have h3:=hR.Sr r1 r2 r3;refine Z rfl (Z rfl (Zq (row:=eP x) (row':=eP x) rfl rfl rfl ?_));have hq3:=Yb r1;have h4:=h3.app (.box (eP x));have x4:=Xc σ' (.box (eP x));generalize σ'.length=xb at *;generalize σ'++[U.box (eP x)]=φ2 at *;refine Z rfl (Yf (Z (v:=O d) (ld h4.hf rfl) (Z (Xr ..) (Ya (λR=>?_) (λR=>?_)))))
   ·have R:d=0:=by simpa using R
    have A:YO b (fu.toNat+1) s ws fu []=jB b t o d 3:=by rw[H];simp only;rw[aE R]
    exact xZ t d 3 o wr φ2 w.ni h4 (by decide) (by omega) A.symm
   have R:d≠0:=by simpa using R
   have hx:=vD x (by simp)
   replace Y:bB t+(wr.length+1)<=bB t0+G.length:=Y
   have hrh:=Iu b x.side (-1) (bG b x) 1 t (d-1) (S0 c6 hx);have A:YO b (fu.toNat+1) s ws fu []=if Xs b x.side (d-1) (bG b x)=true then (2,eG,[],0)
    else if (runs b x.side (-1) (bG b x) t (d-1)).1=0 then YO b n (runs b x.side (-1) (bG b x) t (d-1)).2.1 wr (runs b x.side (-1) (bG b x) t (d-1)).2.2.1 (o++[pJ x]++(runs b x.side (-1) (bG b x) t (d-1)).2.2.2)
    else if (runs b x.side (-1) (bG b x) t (d-1)).1=190 then jB b (runs b x.side (-1) (bG b x) t (d-1)).2.1 (o++[pJ x]++(runs b x.side (-1) (bG b x) t (d-1)).2.2.2) (runs b x.side (-1) (bG b x) t (d-1)).2.2.1 3
    else ((runs b x.side (-1) (bG b x) t (d-1)).1,eG,[],0):=by rw[H];simp only;rw[aB R]
   clear H;have sJ:Xs b x.side (d-1) (bG b x)=false->cu b (P+12000) (F+200) (runs b x.side (-1) (bG b x) t (d-1)).2.1/\(runs b x.side (-1) (bG b x) t (d-1)).2.2.2.length<=12000:=by
    intro B;have eI:nD b (bG b x)=true:=by
     grind [Xs]
    obtain⟨_,xL⟩:=Ds eI;obtain⟨k1,k2⟩:=zy (b:=b) (tg:=-1) hx.2.2 (bG b x) (d-1) w (by omega) (by omega);exact⟨k1.mono (by omega) (by omega),by omega⟩
   refine Ye6 hf bn iY c6 w (by omega) (by omega) (by omega) h4 (by omega) hx x4 hq3 (λB σ2=>?_) (λB z1 z2 σ2=>?_) (λB z σ2 h5=>?_) (λB z σ2 h5=>?_)
   ·rw[aE B]at A;exact hK (2,eG,[],0) .aq _ _ A.symm SB.zero (.inl ⟨rfl,rfl⟩)
   ·rw[aB (by rw[B];simp),aB z1,aB z2]at A;exact hK (_,eG,[],0) .aq _ _ A.symm SB.zero (.inl ⟨rfl,rfl⟩)
   ·rw[aB (by rw[B];simp),aB (by rw[z];decide),aE z]at A;obtain⟨k1,k2⟩:=sJ B;exact xZ _ _ 3 _ wr σ2 k1.ni h5 (by decide) (by grind) A.symm
   ·rw[aB (by rw[B];simp),aE z]at A;obtain⟨k1,k2⟩:=sJ B;have WH:=HQ b x.side (-1) (bG b x) t (d-1) (by omega);obtain⟨n',rfl⟩:∃n',n=n'+1:=⟨n-1,by omega⟩;have hwl:wr.length+1=(x::wr).length:=rfl;obtain⟨m,hm⟩:∃m,((runs b x.side (-1) (bG b x) t (d-1)).2.2.1).toNat=m:=⟨_,rfl⟩;have sF:m<d.toNat:=by omega
    have vA:(runs b x.side (-1) (bG b x) t (d-1)).2.2.1<=(n':Int):=by omega
    refine bj m [] σ2 sF ⟨rfl,_,_,_,wr,_,_,n',h5,k1,WH.1,by omega,hm.symm,by omega,by omega,by grind,by omega,λy hy=>vD y (by simp[hy]),vA,A.symm⟩
def rY(b:Bk)(x:Tr):Bool:=((decide (x.card<0)||decide (x.card >= b.aj.length))||decide (x.side<0))||decide (x.side>1)
def Xm(fu:Int):Int:=min (max fu 0) 1000
def bK(b:Bk)(s:St)(row:List Tr)(fu:Int):Int×St×List Ev×Int:=
 if (decide ((row.length:Int)>1000) || !aJ (bO b).1 b s true)=true then (170,eG,[],0)
 else if row.any (rY b)=true then (170,eG,[],0)
 else if s.phase=2 then (0,s,[],Xm fu)
 else YO b ((Xm fu).toNat+1) s row (Xm fu) []
theorem Td{b:Bk}{x:Tr}(h:rY b x=false):kX b x:=by
 unfold rY at h;simp only[Ct,pI]at h;obtain⟨⟨⟨h1,h2⟩,h3⟩,h4⟩:=h;exact⟨by omega,by omega,by omega⟩
theorem q92(b:Bk)(s:St)(hf:aN b=true)(Q:Yg b.aj)(iY:aJ (bO b).1 b s true=true->b.aj.length<=61)(hs:ba 1000000000 s)(row:List Tr)(fu:Int)(N C:Nat)(hT:TB N s)(hC:Xj s<=C)(hN:aJ (bO b).1 b s true=true->N+12000*(row.length+bB s+1)<=1000000)(oV:C+200*((Xm fu).toNat+1)+14<=1000000) :
  PC 63 [dd b,bN s,HH row,O fu] (jW (bK b s row fu)):=by
 refine Zo hP g63.ok rfl ?_;have hF:0<=Xm fu/\Xm fu<=1000:=by unfold Xm;omega
 rw[H4.e];unfold g63;dsimp only;refine Qd (v:=.ak 0 0) (rd:=[]) (up:=[(0,.box (cf b))]) rfl (Qf [] _) (Qd (v:=.ak 1 0) (rd:=[]) (up:=[(1,.box (aH s))]) rfl (Qf [U.box (cf b)] _) (Qd (v:=.ak 2 0) (rd:=[]) (up:=[(2,.box [O fu])]) rfl (Qf [U.box (cf b),.box (aH s)] _) (Qd (v:=.ak 3 0) (rd:=[]) (up:=[(3,.box aU)]) rfl (Qf [U.box (cf b),.box (aH s),.box [O fu]] _) (Z (v:=O fu) (ld (row:=[O fu]) rfl rfl) (Z (v:=O (max fu 0)) (vX ..) (Z (v:=O (Xm fu)) (YU ..) (Qd (cO (row:=[O fu]) (row':=[O (Xm fu)]) rfl rfl rfl rfl) (Ye _ (by simp)) ?_)))))));obtain⟨J,eσ⟩:∃J:List U,([U.box (cf b),U.box (aH s),U.box [O fu]]++[U.box aU]).set 2 (U.box [O (Xm fu)])=J:=⟨_,rfl⟩;rw[eσ];have E:ai J 0=.box (cf b):=by rw[<-eσ];rfl
 have s1:ai J 1=.box (aH s):=by rw[<-eσ];rfl
 have R:ai J 2=.box [O (Xm fu)]:=by rw[<-eσ];rfl
 have r1:ai J 3=.box aU:=by rw[<-eσ];rfl
 clear eσ;refine Z (v:=O row.length) (rd:=[]) (by simp[Yn]) (ay ?_);have S:∀F:KT,(∀τ,dk J τ []->F (.bool (decide ((row.length:Int)>1000) || !aJ (bO b).1 b s true)) τ) ->
   VV.gw (.bool (decide ((row.length:Int)>1000))) false (λk=>VV.call (.call 61) [.ak 0 0,.ak 1 0] J k) J λt40 J=>
   VV.gr (.bool (decide ((row.length:Int)>1000))) false (λk=>VV.rd (qH .not [t40] J) k) λt41=>
   VV.rd (Xk [.bool (decide ((row.length:Int)>1000)),.bool true,t41] J) (λv=>F v J):=by
  intro F G;rcases cE (decide ((row.length:Int)>1000))with q|q
  ·rw[q]at G ⊢;have:=G J ⟨AO _,λ_ _ _=>rfl⟩;refine ay ?_;exact by simpa using this
  ·rw[q]at G ⊢;refine Xq (Xe hP (f:=61) rfl g61.ok rfl (w209 b hf Q s hs E s1 λτ hτ=>Xb (Z rfl (Z rfl ?_))));simp_all
 refine S _ λτ hτ=>?_;clear S;have b2:=hτ.get E;have s2:=hτ.get s1;have f2:=hτ.get R;have T:=hτ.get r1;clear hτ E s1 R r1;have V:∀(i:List U),ai i 3=.box aU->bK b s row fu=(170,eG,[],0) ->
   VV.wr (Xh 23 [.ak 3 0,.agg aU] i) i λ_ J=>VV.opt (fz true 23 (.ak 3 0) J) λr13=>∃rd,aA (hp J) rd (.bw [r13,.aq,.int .i64 0,.int .i64 170]) (jW (bK b s row fu)):=by
  intro i hr e;refine Qd (cO (row':=aU) hr rfl rfl rfl) (Ye _ (Yb hr)) (Zp (Qr (Yb hr) rfl) ?_);rw[e];exact yk (r:=(170,eG,[],0)) SB.zero (.inl ⟨rfl,rfl⟩)
 rcases cE (decide ((row.length:Int)>1000) || !aJ (bO b).1 b s true)with q|q
 ·rw[q];exact Xg (Z (v:=.agg aU) rfl (V _ T (by unfold bK;rw[aE q])))
 rw[q];have hq:=q;simp only[Ct,pI,FI]at hq;obtain⟨hlen,y⟩:=hq;have hlen:row.length<=1000:=by omega
 have c6:=(Qs.1 y).1;have hS:cu b N C s:=⟨(Qs.1 y).2,hT,hC⟩;refine Yf (Z (v:=O row.length) (rd:=[]) (by simp[Yn]) ?_);refine Zh (ι:=Nat) (λj vs i=>vs=[O j]/\j<=row.length/\dk τ i []/\∀x∈row.take j,rY b x=false) (λj=>row.length-j) 0 ⟨rfl,by omega,⟨AO _,λ_ _ _=>rfl⟩,by simp⟩ ?_;rintro j _ i again ⟨rfl,hj,p,X⟩ sG;have Y:=p.get b2;have z:=p.get s2;have f3:=p.get f2;have r3:=p.get T;refine ay (ZT (λh=>?_) (λh=>?_))
 ·refine Z (Zm _ eP false false 3 row .i64 j h) ?_;have iO:row[j]∈row:=AI h;have ij:=Yv row j h;generalize row[j]=x at *;refine Z (v:=.agg (eP x)) (bg rfl) (Zq (row:=eP x) (row':=eP x) rfl rfl rfl ?_);have qX:=p.j9 (.box (eP x));have A:=Xc i (.box (eP x));have H:=Zb [U.box (eP x)] Y;have B:=Zb [U.box (eP x)] r3;generalize i.length=L at *;generalize i++[U.box (eP x)]=υ2 at *;refine Z rfl (Z (v:=O x.card) (ld A rfl) ?_);refine ay ?_;refine Ia (d:=decide (x.card >= b.aj.length)) (v1:=.ak L 0) (v2:=O x.card) (v3:=.ak 0 0) (v4:=iX b.aj) (v5:=O b.aj.length) (q5:=[]) (λ_=>rfl) (λ_=>ld A rfl) (λ_=>rfl) (λ_=>ld H rfl) (λ_=>by simp[Yn]) (λ_=>rfl) ?_;refine vl (d:=decide (x.side<0)) (v1:=.ak L 1) (v2:=O x.side) (λ_=>rfl) (λ_=>ld A rfl) (λ_=>rfl) ?_;refine vl (d:=decide (x.side>1)) (v1:=.ak L 1) (v2:=O x.side) (λ_=>rfl) (λ_=>ld A rfl) (λ_=>rfl) (Ya (c:=rY b x) (λhb=>?_) (λhb=>?_))
  ·exact ay (V _ B (by grind [bK]))
  ·refine Z (Qi ..) ?_;rw[Zd (n:=j) (by omega)]
   grind
 ·subst h;rw[C5]at X;clear sG;have abt:row.any (rY b)=false:=by
   simp_all
  refine Z (v:=bN s) (ld z rfl) (bD (w_ s hs) g17.ok (Qd (cO (row':=aH s) z rfl rfl rfl) (Ye _ (Yb z)) ?_));have H:=Qa (x:=.box (aH s)) Y (by simp) (show 1≠0 by decide);have s4:ai (i.set 1 (.box (aH s))) 1=.box (aH s):=Zc _ (Yb z);have f4:=Qa (x:=.box (aH s)) f3 (by simp) (show 1≠2 by decide);have B:=Qa (x:=.box (aH s)) r3 (by simp) (show 1≠3 by decide);generalize i.set 1 (.box (aH s))=υ1 at *;have hr4:=Yb B;refine Qd (v:=.ak υ1.length 0) (rd:=[]) (up:=[(υ1.length,.box [.aq])]) rfl (Qf υ1 _) ?_;have b5:=Zb [U.box [.aq]] H;have P:=Zb [U.box [.aq]] s4;have f5:=Zb [U.box [.aq]] f4;have D:=Zb [U.box [.aq]] B;have e5:=Xc υ1 (.box [.aq]);have WY:(υ1++[U.box [.aq]]).length=υ1.length+1:=by simp
  generalize υ1++[U.box [.aq]]=υ2 at *;refine Z rfl (Z (v:=aS s.phase) (ld P rfl) (Z (Xr ..) (Ya (λw=>?_) (λw=>?_))))
  ·have w:s.phase=2:=by simpa using w
   refine Ze (v:=bN s) (ld P rfl) (Yd _) (Ze (v:=O (Xm fu)) (ld f5 rfl) (Yd _) (Ze (cO (row':=aH s) D rfl rfl rfl) (Ye _ (Yb D)) ?_));refine Xo (by rfl) (Zp (Qr (Yb D) rfl) ?_);have e:bK b s row fu=(0,s,[],Xm fu):=by
    simp_all [bK,aB]
   rw[e];exact yk (r:=(0,s,[],Xm fu)) (SB.ro s) (.inl ⟨rfl,rfl⟩)
  ·have w:¬s.phase=2:=by simpa using w
   have e:bK b s row fu=YO b ((Xm fu).toNat+1) s row (Xm fu) []:=by
    simp_all [bK,aB]
   rw[e];refine Z (v:=.agg [.aq]) rfl (Qd (v:=.ak υ2.length 0) (rd:=[]) (up:=[(υ2.length,.box [.aq])]) rfl (Qf υ2 _) ?_);have h6:RS b s (Xm fu) [] [] υ1.length υ2.length (υ2++[.box [.aq]]):=
    ⟨Zb _ b5,Zb _ P,Zb _ f5,Zb _ D,⟨.aq,Zb _ e5,.inl ⟨rfl,rfl⟩⟩,⟨.aq,Xc υ2 _,.inl ⟨rfl,rfl⟩⟩,by omega,by omega⟩
   generalize υ2++[U.box [.aq]]=υ3 at *;generalize υ2.length=qb at *;generalize υ1.length=eb at *;obtain⟨qv,q1,q2⟩:=h6.hq;refine Xe hP (f:=93) rfl g93.ok rfl (w210 (ys:=row) q1 q2 JX (by simp;omega) λσ' wv p1 p2 p3=>?_);have h7:=h6.Sr p1 p2 p3;rw[Cm]at h7;exact Z rfl (YeX hf Q (iY y) c6 hS hF oV (hN y) hlen (λx hx=>Td (X x hx)) h7 (K:=λv J=>∃rd,aA (hp J) rd v (jW (YO b ((Xm fu).toNat+1) s row (Xm fu) []))) (λr lv cs σ' er AK hle=>by rw[<-er];exact yk AK hle))
theorem Ky(s:St)(hs:ba 2000000 s):PC 10 [bN s] (.bool (decide (1000<s8 s))):=by
 have b:=hs.an;obtain⟨d0,h0,g0,u0,t0⟩:=hs.s0;obtain⟨d1,h1,g1,u1,t1⟩:=hs.s1;refine Xa hP g10.ok rfl rfl ?_;rw[H1.e];unfold g10;dsimp only;refine Qd rfl rfl (Z rfl (Z rfl (Z (v:=O s.an.length) (rd:=[]) (by simp[Qe]) (ZM 3 (Yk ?_)))));refine Z rfl (Xg (Z rfl (Z rfl (Z rfl (Qd rfl rfl (Qd rfl rfl ?_))))));refine Z rfl (Z rfl (Z (v:=O s.s0.az.length) (rd:=[]) (by simp[Qe]) (Z (Qi ..) ?_)));rw[Bb ((s.an.length:Int)+s.s0.az.length) (by omega)];refine Z rfl (Z rfl (Z (v:=O s.s0.hand.length) (rd:=[]) (by simp[Qe]) (Z (Qi ..) ?_)));rw[Bb ((s.an.length:Int)+s.s0.az.length+s.s0.hand.length) (by omega)];refine Z rfl (Z rfl (Z (v:=O s.s0.ao.length) (rd:=[]) (by simp[Qe]) (Z (Qi ..) ?_)));rw[Bb ((s.an.length:Int)+s.s0.az.length+s.s0.hand.length+s.s0.ao.length) (by omega)];refine Z rfl (Z rfl (Z (v:=O s.s0.af.length) (rd:=[]) (by simp[Qe]) (Z (Qi ..) ?_)));rw[Bb ((s.an.length:Int)+s.s0.az.length+s.s0.hand.length+s.s0.ao.length+s.s0.af.length) (by omega)];refine Z rfl (Z rfl (Z (v:=O s.s0.told.length) (rd:=[]) (by simp[Qe]) (Z (Qi ..) ?_)));rw[Bb ((s.an.length:Int)+s.s0.az.length+s.s0.hand.length+s.s0.ao.length+s.s0.af.length+s.s0.told.length) (by omega)];generalize d:(s.an.length:Int)+s.s0.az.length+s.s0.hand.length+s.s0.ao.length+s.s0.af.length+s.s0.told.length=A;refine Z (Qi ..) ?_;rw[show AF.wrap (0+1)=1 from by decide];refine Yk (Z rfl (Xg (Z rfl (Z rfl (Z rfl (Qd rfl rfl (Qd rfl rfl ?_)))))));refine Z rfl (Z rfl (Z (v:=O s.s1.az.length) (rd:=[]) (by simp[Qe]) (Z (Qi ..) ?_)));rw[Bb (A+s.s1.az.length) (by omega)];refine Z rfl (Z rfl (Z (v:=O s.s1.hand.length) (rd:=[]) (by simp[Qe]) (Z (Qi ..) ?_)));rw[Bb (A+s.s1.az.length+s.s1.hand.length) (by omega)];refine Z rfl (Z rfl (Z (v:=O s.s1.ao.length) (rd:=[]) (by simp[Qe]) (Z (Qi ..) ?_)));rw[Bb (A+s.s1.az.length+s.s1.hand.length+s.s1.ao.length) (by omega)];refine Z rfl (Z rfl (Z (v:=O s.s1.af.length) (rd:=[]) (by simp[Qe]) (Z (Qi ..) ?_)));rw[Bb (A+s.s1.az.length+s.s1.hand.length+s.s1.ao.length+s.s1.af.length) (by omega)];refine Z rfl (Z rfl (Z (v:=O s.s1.told.length) (rd:=[]) (by simp[Qe]) (Z (Qi ..) ?_)));rw[Bb (A+s.s1.az.length+s.s1.hand.length+s.s1.ao.length+s.s1.af.length+s.s1.told.length) (by omega)];refine Z (Qi ..) ?_;rw[show AF.wrap (1+1)=2 from by decide];refine Yk (ay ?_)
 congr 1
 rw[decide_eq_decide];unfold s8;omega
theorem VN(b:Bk)(hf:aN b=true)(s:St)(hs:ba 2000000 s)(l:List Ef)(hl:bz l=true):∃q:Bool,PC 4 [dd b,bN s,gE l] (.bool q)/\(q=false->b.aj.length<=60/\s8 s<=1000):=by
 obtain⟨i,h1⟩:=c133 b hf;have h2:=Ky s hs;obtain⟨f,h3⟩:=c135 _ l (AO _) hl;refine⟨((decide ((b.aj.length:Int)>60)||i)||decide (1000<s8 s))||decide (f>1000),?_,λh=>?_⟩
 ·refine Xa hP g4.ok rfl rfl ?_;rw[H3.e];unfold g4;dsimp only;refine Qd (v:=.ak 0 0) (rd:=[]) (up:=[(0,.box (cf b))]) rfl rfl (Qd (v:=.ak 1 0) (rd:=[]) (up:=[(1,.box (aH s))]) rfl rfl (Z rfl (Z rfl (Z (v:=O b.aj.length) (rd:=[]) (by simp[Qe]) (Z (Y4 ..) ?_)))));exact U2 (v1:=dd b) (λ_=>rfl) (λ_ k d=>bD h1 g9.ok d) (U2 (v1:=bN s) (λ_=>rfl) (λ_ k d=>bD h2 g10.ok d) (XdM (v1:=gE l) (u0:=O f) (λ_=>rfl) (λ_ k d=>bD h3 g11.ok d) (λ_=>Y4 ..) rfl))
 ·simp only[Ct,pI]at h;omega
theorem Xc2(b:Int)(d:Int->Int×Int)(f:Th->Int×Int)(s:St)(id k:Int):(gm b d f s id k).2.1.aj=[]:=by
 unfold gm;split
 ·unfold kZ;split<;>rfl
 split
 ·rfl
 split
 ·unfold jH;split<;>rfl
 ·split
  ·unfold jH;split<;>rfl
  ·rfl
theorem Ybo(s:St)(k:Int):(aT s k).2.1.aj=[]:=by
 unfold aT;split
 ·split<;>rfl
 ·split<;>rfl
theorem Ya6(k:Int):∀(j:Nat) (s:St),∀e∈(Zz k j s).2.2,e.aj.length<=60
 |0,s,e,h=>by simp[Zz]at h
 |j+1,s,e,h=>by
  unfold Zz at h;split at h
  ·simp only[Az]at h;rcases h with rfl|h
   ·rw[Ybo];simp
   ·exact Ya6 k j _ e h
  ·simp at h
theorem ZdC{b:Bk}{N C:Nat}{s:St}(h:cu b N C s){sd:Int}(h01:sd=0\/sd=1)(tg op who:Int)(name:Tx)(n:Int):∀e∈(kH b s sd tg op who name n).2.2,e.aj.length<=60:=by
 have d:=JF h01 who;intro e he;unfold kH at he;split at he
 ·grind [gX,pk,nH,eX,Xc2]
 split at he
 ·grind [jP,Ya6]
 split at he
 ·grind [eL]
 split at he
 ·grind [dt]
 split at he
 ·have hd:=(Ql.1 (h.rows h01).1).1
  grind [iy]
 split at he
 ·have hd:=(Ql.1 (h.rows d).2).1
  grind [pz]
 grind [wR]
mutual
theorem QbR {b:Bk} {sd tg:Int} (h01:sd=0\/sd=1):∀(x:Ef) {N C:Nat} {s:St} (fu:Int),cu b N C s->N+60*(jD x).length<=1000000->C+(jD x).length<=1000000->∀e∈(dN b sd tg x s fu).2.2.2,e.aj.length<=60
 |.mk op who n name c cL cV,N,C,s,fu,h,d,f,e,he=>by
  rw[dN]at he
  split at he
  ·rename_i h8
   have i:(bR cL).length+(bR cV).length<=(jD (.mk op who n name c cL cV)).length:=by simp[jD,h8];omega
   split at he
   ·exact Ou h01 cL fu h (by omega) (by omega) e he
   ·exact Ou h01 cV fu h (by omega) (by omega) e he
  grind [ZdC]
theorem Ou {b:Bk} {sd tg:Int} (h01:sd=0\/sd=1):∀(l:List Ef) {N C:Nat} {s:St} (fu:Int),cu b N C s->N+60*(bR l).length<=1000000->C+(bR l).length<=1000000->∀e∈(runs b sd tg l s fu).2.2.2,e.aj.length<=60
 |[],N,C,s,fu,h,d,f,e,he=>by rw[runs]at he;simp at he
 |x::l,N,C,s,fu,h,d,f,e,he=>by
  rw[runs]at he
  have i:(bR (x::l)).length=(jD x).length+(bR l).length:=by simp[bR]
  obtain⟨j,o⟩:=Ta (tg:=tg) h01 x fu h (by omega) (by omega)
  split at he
  ·rcases Bd.1 he with he|he
   ·exact QbR h01 x fu h (by omega) (by omega) e he
   ·exact Ou h01 l _ j (by omega) (by omega) e he
  ·exact QbR h01 x fu h (by omega) (by omega) e he
end
theorem Ydj{b:Int}(h0:b≠14)(d:Int->Int×Int)(f:Th->Int×Int)(s:St)(id k:Int):(gm b d f s id k).2.1.kind≠14:=by
 have z:mr.kind≠14:=by decide
 have j:∀v,(kZ s b k v).2.1.kind≠14:=by intro v;unfold kZ;split;exact h0;exact z
 have o:∀k i id u v,(jH s b k i id u v).2.1.kind≠14:=by intro k i id u v;unfold jH;split;exact h0;exact z
 grind [gm]
theorem Zc5(s:St)(k:Int):(aT s k).2.1.kind≠14:=by
 unfold aT;split
 ·split
  ·show (3:Int)≠14;decide
  ·show mr.kind≠14;decide
 grind
theorem Qbo(k:Int):∀(j:Nat) (s:St),∀e∈(Zz k j s).2.2,e.kind≠14
 |0,s,e,h=>by simp[Zz]at h
 |j+1,s,e,h=>by
  unfold Zz at h;split at h
  ·simp only[Az]at h;rcases h with rfl|h
   ·exact Zc5 s k
   ·exact Qbo k j _ e h
  ·simp at h
theorem Qd9(b:Bk)(s:St)(sd tg op who:Int)(name:Tx)(n:Int):∀e∈(kH b s sd tg op who name n).2.2,e.kind≠14:=by
 intro e he;unfold kH at he;split at he
 ·grind [gX,pk,nH,eX,Ydj]
 grind [jP,eL,dt,iy,pz,wR,Qbo]
mutual
theorem Ycl (b:Bk) (sd tg:Int):∀(x:Ef) (s:St) (fu:Int),∀e∈(dN b sd tg x s fu).2.2.2,e.kind≠14
 |.mk op who n name c cL cV,s,fu,e,he=>by
  rw[dN]at he
  split at he
  ·split at he
   ·exact Rj b sd tg cL s fu e he
   ·exact Rj b sd tg cV s fu e he
  split at he
  ·simp at he
  ·exact Qd9 b s sd tg op who name _ e he
theorem Rj (b:Bk) (sd tg:Int):∀(l:List Ef) (s:St) (fu:Int),∀e∈(runs b sd tg l s fu).2.2.2,e.kind≠14
 |[],s,fu,e,he=>by rw[runs]at he;simp at he
 |x::l,s,fu,e,he=>by
  rw[runs]at he
  split at he
  ·rcases Bd.1 he with he|he
   ·exact Ycl b sd tg x s fu e he
   ·exact Rj b sd tg l _ _ e he
  ·exact Ycl b sd tg x s fu e he
end
def fJ:List Ev->Nat
 |[]=>0
 |e::l=>(if e.kind=14 then 1 else 0)+fJ l
theorem Q3:∀l m:List Ev,fJ (l++m)=fJ l+fJ m
 |[],m=>by simp[fJ]
 |e::l,m=>by simp only[Cz,fJ,Q3 l m];omega
theorem O5:∀ {l:List Ev},(∀e∈l,e.kind≠14)->fJ l=0
 |[],_=>rfl
 |e::l,h=>by
  rw[fJ,aB (h e (by simp)),O5 (λx b=>h x (by simp[b]))]
theorem ON{b:Bk}{N C:Nat}{s:St}(c6:(bO b).1=0)(h:cu b N C s){r:Int}(hr:1<=r/\r<=3):cu b N C (bV b s r).1/\(bV b s r).1.phase=2/\(bV b s r).2.kind≠14:=by
 have hm:=Qs.2 ⟨c6,h.may⟩;unfold bV;by_cases d:Bs b s r=true
 ·rw[aE d];refine⟨⟨?_,h.told,h.aj⟩,rfl,by show (15:Int)≠14;decide⟩;obtain⟨⟨t1,f,i,j,y,z,A,B,D,t10,t11⟩,o,p,w,E⟩:=h.may;refine⟨⟨t1,f,i,j,by show (0:Int)<=2;decide,by show (2:Int)<=2;decide,by show 0<=r;omega,hr.2,?_,t10,t11⟩,o,p,w,⟨λ_=>rfl,λe=>?_⟩⟩
  ·show ((r==0)==((2:Int) != 2))=true;have:(r==0)=false:=by simp;omega
   rw[this];rfl
  ·have e:(2:Int)=1:=e;exact absurd e (by decide)
 ·rw[aB d];have d:Bs b s r=false:=by simpa using d
  unfold Bs at d;rw[hm]at d;simp only[Bool.not_true,Bool.or_false,FI,EA,fe,beq_iff_eq]at d;have x:s.phase=2:=by
   rcases d with (d|d)|d
   ·omega
   ·omega
   ·exact d
  exact⟨h,x,by show mr.kind≠14;decide⟩
def oA(b:Bk)(N C:Nat)(fu:Int)(l:List Ev)(r:Int×St×List Ev×Int):Prop:=
 r.1=0->cu b (N+12000*(fu-r.2.2.2).toNat) (C+200*(fu-r.2.2.2).toNat) r.2.1/\0<=r.2.2.2/\r.2.2.2<=fu/\(fJ r.2.2.1:Int)<=fJ l+(fu-r.2.2.2)/\r.2.2.1.length<=l.length+13000*((fu-r.2.2.2).toNat+1)/\(r.2.1.phase=2\/(bc b r.2.1=[]/\XA r.2.1=0))
variable{l:List Ev}
theorem Uh{b:Bk}{N C N' C':Nat}{s:St}(c6:(bO b).1=0)(h:cu b N' C' s){how:Int}(hr:1<=how/\how<=3){fu f0:Int}{l0:List Ev}(hf:0<=fu/\fu<=f0)(hw:(fJ l:Int)<=fJ l0+(f0-fu))(hN:N'<=N+12000*(f0-fu).toNat)(hC:C'<=C+200*(f0-fu).toNat)(hlen:l.length+1<=l0.length+13000*((f0-fu).toNat+1)):oA b N C f0 l0 (jB b s l fu how):=by
 intro _;obtain⟨k1,k2,k3⟩:=ON c6 h hr;refine⟨k1.mono hN hC,hf.1,hf.2,?_,by show (l++[(bV b s how).2]).length<=l0.length+13000*((f0-fu).toNat+1);simp_all,.inl k2⟩;show (fJ (l++[(bV b s how).2]):Int)<=_+(f0-fu);simp_all [Q3,O5]
theorem oA.mono{b:Bk}{N C:Nat}{fu d:Int}{l':List Ev}{r:Int×St×List Ev×Int}(h:oA b (N+12000) (C+200) fu l r)(hf:fu+1<=d)(hw:(fJ l:Int)+fu<=fJ l'+d)(hlen:l.length<=l'.length+13000):oA b N C d l' r:=by
 intro e;obtain⟨h1,h2,h3,h4,h6,h5⟩:=h e;exact⟨h1.mono (by omega) (by omega),h2,by omega,by omega,by omega,h5⟩
theorem Zck{b:Bk}(c6:(bO b).1=0):∀(n:Nat) {s:St} {ws:List Tr} {fu:Int} {l:List Ev} {N C:Nat},cu b N C s->(∀x∈ws,kX b x)->0<=fu->fu<=n->N+12000*(ws.length+bB s+1)<=1000000->C+200*(n+1)+14<=1000000 ->
  oA b N C fu l (YO b (n+1) s ws fu l):=by
  intro n
  induction n using Eu with|ind n K=>?_
  intro s ws fu l N C j hws B V X Y;have hq:=Pk (b:=b) (N:=N) (C:=C) (by omega) (Xl s) s ws l (AO _) j;have f:=O4 c6 (by omega:C+14<=1000000) (Xl s) s ws l j;generalize eq:quiet b (Xl s) s ws l=q at hq f;obtain⟨t,o,d⟩:=q;obtain⟨i,D,⟨m,w,q4,q5⟩,⟨L,E,q7,q8⟩⟩:=hq;have i:cu b N C t:=i
  replace f:bB t+o.length<=bB s+ws.length:=f
  have D:bc b t=[]:=D;have w:d=l++m:=w;have E:o=ws++L:=E;have wu:Xl s<=14:=by have:=j.may.s0.af;have:=j.may.s1.af;unfold Xl;omega
  have hlen:d.length<=l.length+14:=by rw[w,AT];omega
  have hw:fJ d=fJ l:=by
   simp_all [Q3,O5]
  have F:∀x∈o,kX b x:=by
   grind
  rw[PE n fu eq];have DQ:=QbQ t;by_cases z:XA t≠0
  ·rw[aE z];exact Uh c6 i (by omega) (f0:=fu) (l0:=l) ⟨B,FW _⟩ (by omega) (by omega) (by omega) (by omega)
  rw[aB z];have z:XA t=0:=by omega
  cases o with
  |nil=>
   intro _
   grind
  |cons x wr=>
   simp only;by_cases G:fu=0
   ·rw[aE G];exact Uh c6 i (by omega) (f0:=fu) (l0:=l) ⟨B,FW _⟩ (by omega) (by omega) (by omega) (by omega)
   rw[aB G];by_cases p:Xs b x.side (fu-1) (bG b x)=true
   ·rw[aE p];intro e;exact absurd e (by decide)
   rw[aB p];have p:Xs b x.side (fu-1) (bG b x)=false:=by simpa using p
   have Q:nD b (bG b x)=true:=by
    simp_all [Xs]
   obtain⟨_,xL⟩:=Ds Q;have H:=F x (by simp)
   replace f:bB t+(wr.length+1)<=bB s+ws.length:=f
   have hrh:=Iu b x.side (-1) (bG b x) 1 t (fu-1) (S0 c6 H);obtain⟨k1,k2⟩:=zy (b:=b) (tg:=-1) H.2.2 (bG b x) (fu-1) i (by omega) (by omega);have k1:=k1.mono (N':=N+12000) (C':=C+200) (by omega) (by omega);have R:=HQ b x.side (-1) (bG b x) t (fu-1) (by omega);have S:=O5 (Rj b x.side (-1) (bG b x) t (fu-1));generalize runs b x.side (-1) (bG b x) t (fu-1)=r at *;have dg:(d++[pJ x]++r.2.2.2).length<=l.length+13000:=by grind
   have hw2:fJ (d++[pJ x]++r.2.2.2)=fJ l+1:=by
    rw[Q3,Q3,S,hw];rfl
   by_cases h0:r.1=0
   ·rw[aE h0];obtain⟨A,rfl⟩:∃A,n=A+1:=⟨n-1,by omega⟩;have:=K A (by omega) (l:=d++[pJ x]++r.2.2.2) k1 (λy T=>F y (by simp[T])) R.1 (by omega) (by omega) (by omega) (ws:=wr);exact this.mono (by omega) (by omega) (by omega)
   rw[aB h0];by_cases h1:r.1=190
   ·rw[aE h1]
    grind [Uh]
   ·rw[aB h1];intro e;exact absurd e h0
theorem TE{b:Bk}{s:St}{row:List Tr}{fu:Int}{N C:Nat}(hT:TB N s)(hC:Xj s<=C)(hf:0<=fu/\fu<=1000)(hN:aJ (bO b).1 b s true=true->N+12000*(row.length+bB s+1)<=1000000)(j:C+200*(fu.toNat+1)+14<=1000000)(h:(bK b s row fu).1=0) :
  (bO b).1=0/\cu b (N+12000*(fu-(bK b s row fu).2.2.2).toNat) (C+200*(fu-(bK b s row fu).2.2.2).toNat) (bK b s row fu).2.1/\0<=(bK b s row fu).2.2.2/\(bK b s row fu).2.2.2<=fu/\(fJ (bK b s row fu).2.2.1:Int)<=fu-(bK b s row fu).2.2.2/\(bK b s row fu).2.2.1.length<=13000*(fu.toNat+1) /\
   ((bK b s row fu).2.1.phase=2\/(bc b (bK b s row fu).2.1=[]/\XA (bK b s row fu).2.1=0)):=by
 have o:Xm fu=fu:=by unfold Xm;omega
 unfold bK at h ⊢;rw[o]at h ⊢;by_cases q:(decide ((row.length:Int)>1000) || !aJ (bO b).1 b s true)=true
 ·simp_all
 rw[aB q]at h ⊢;have hq:(decide ((row.length:Int)>1000) || !aJ (bO b).1 b s true)=false:=by simpa using q
 simp only[Ct,pI,FI]at hq;obtain⟨d,p⟩:=Qs.1 hq.2;have i:cu b N C s:=⟨p,hT,hC⟩;by_cases r:row.any (rY b)=true
 ·simp_all
 rw[aB r]at h ⊢;have w:∀x∈row,kX b x:=by
  simp_all [Td]
 by_cases f:s.phase=2
 ·rw[aE f]at h ⊢;exact⟨d,i.mono (Kw _ _) (Kw _ _),hf.1,FW _,by show ((0:Nat):Int)<=fu-fu;omega,Bf _,.inl f⟩
 rw[aB f]at h ⊢;obtain⟨k1,k2,k3,A,y,z⟩:=Zck d fu.toNat (l:=[]) i w hf.1 (by omega) (hN hq.2) j h;exact⟨d,k1,k2,k3,by simp_all [fJ],by rw[Cb]at y;omega,z⟩
def vU(u:Th):Th:={ u with e_:=false }
def Bw(x:Sd):Sd:={ x with aW:=min (x.most+1) 10,most:=min (x.most+1) 10,af:=x.af.map vU }
def QH(s:St):St:={ s.put s.mover (Bw (s.side s.mover))with bq:=false }
def fk(b:Bk)(m:Int):List Th->List Tr
 |[]=>[]
 |u::l=>(if 0<(ZP b u.card).dw.length then [⟨u.card,m,true⟩]else [])++fk b m l
def P6(s:St):Ev:=⟨0,s.mover,0,0,0,s.turn,[]⟩
def eV(b:Bk)(s:St)(fu:Int):Int×St×List Ev×Int:=
 if (aJ (bO b).1 b s true&&decide (s.phase≠1))=false then (170,eG,[],0)
 else if s.phase=2 then (0,s,[],Xm fu)
 else if (aT (QH s) s.mover).2.2≠0 then ((aT (QH s) s.mover).2.2,eG,[],0)
 else
  let r:=bK b (aT (QH s) s.mover).1 (fk b s.mover ((aT (QH s) s.mover).1.side s.mover).af) (Xm fu)
  if r.1≠0 then (r.1,eG,[],0)else (0,r.2.1,[P6 s,(aT (QH s) s.mover).2.1]++r.2.2.1,r.2.2.2)
theorem Zca{b:Bk}{x:Sd}(h:gp b x):gp b (Bw x):=by
 obtain⟨h1,h2,h3,h4,h5,h6,h7,d⟩:=h;refine⟨h1,?_,?_,h4,h5,h6,h7,by simpa[Bw]using d⟩
 ·show 0<=min (x.most+1) 10/\i5 (min (x.most+1) 10)=true;exact⟨by omega,by simp[i5];omega⟩
 ·show 0<=min (x.most+1) 10/\min (x.most+1) 10<=10;omega
theorem Qcd(l:List Th):(l.map vU).map Th.id=l.map Th.id:=by
 rw[E5];rfl
theorem QdZ{b:Bk}{n:Int}{u:Th}:Qv b n (vU u)=Qv b n u:=rfl
theorem cu.dw{b:Bk}{N C:Nat}{s:St}(h:cu b N C s)(hp:s.phase≠1):cu b N C (QH s):=by
 obtain⟨⟨hd,h0,h1,⟨u1,f⟩,i,_⟩,j,d⟩:=h;have un:∀ {l m:List Th},(∀u∈l++m,Qv b s.next u=true)->(∀u∈l.map vU++m,Qv b s.next u=true)/\(∀u∈l++m.map vU,Qv b s.next u=true):=by
  intro l m h;constructor<;>intro u r<;>rw[Bd,By]at * <;> grind [QdZ]
 have p:s.mover=0\/s.mover=1:=by have:=hd.2.2.1;have:=hd.2.2.2.1;omega
 unfold QH St.put St.side;rcases p with e|e
 ·rw[aE e,aE e];refine⟨⟨hd,Zca h0,h1,⟨(un u1).1,?_⟩,⟨i,λq=>absurd q hp⟩⟩,j,?_⟩
  ·show (((s.s0.af.map vU)++s.s1.af).map Th.id).Nodup;rw[A8,Qcd,<-A8];exact f
  ·unfold Xj at d ⊢;simpa[Bw]using d
 ·have o:¬s.mover=0:=by omega
  rw[aB o,aB o];refine⟨⟨hd,h0,Zca h1,⟨(un u1).2,?_⟩,⟨i,λq=>absurd q hp⟩⟩,j,?_⟩
  ·show ((s.s0.af++(s.s1.af.map vU)).map Th.id).Nodup;rw[A8,Qcd,<-A8];exact f
  ·unfold Xj at d ⊢;simpa[Bw]using d
theorem ZdW{b:Bk}{N C:Nat}{s:St}(h:cu b N C s){m:Int}(hm:m=0\/m=1):∀x∈fk b m (s.side m).af,kX b x:=by
 have key:∀l:List Th,(∀u∈l,0<=u.card/\u.card<b.aj.length)->∀x∈fk b m l,kX b x:=by
  intro l
  induction l with
  |nil=>intro _ x d;simp[fk]at d
  |cons u l i=>
   intro f x d;rw[fk,Bd]at d;rcases d with d|d
   ·split at d
    ·rw[D1]at d;subst d;exact⟨(f u (by simp)).1,(f u (by simp)).2,hm⟩
    ·simp at d
   ·exact i (λv j=>f v (by simp[j])) x d
 refine key _ λu o=>?_;obtain⟨k,p,rfl⟩:=List.getElem_of_mem o;exact O8 h.may hm (Cv p)
theorem JV(b:Bk)(m:Int):∀l:List Th,(fk b m l).length<=l.length
 |[]=>AO _
 |u::l=>by
  have:=JV b m l;unfold fk;split<;>simp<;>omega
theorem YbI(b:Bk)(m:Int)(u:Th):∀l:List Th,fk b m (l++[u])=fk b m l++(if 0<(ZP b u.card).dw.length then [⟨u.card,m,true⟩]else [])
 |[]=>by simp[fk]
 |a::l=>by simp[fk,YbI]
section
variable (b:Bk) (s:St) (qu:ba 1000000000 s) (hm:aJ (bO b).1 b s true=true) (h67:PC 50 [dd b] (.agg [O (bO b).1,O (bO b).2])) (sd tg:Int) (h01:sd=0\/sd=1)
include qu hm h67 h01
end
section
variable (b:Bk) (s:St) (qu:ba 1000000000 s) (hm:aJ (bO b).1 b s true=true) (h67:PC 50 [dd b] (.agg [O (bO b).1,O (bO b).2])) (sd tg:Int) (h01:sd=0\/sd=1)
include qu hm h67 h01
end
def OW(q:Nat->Prop)(J:List U)(v:I)(l:List Int):Prop:=v=aM l\/(v=.aq/\l=[])\/∃c,v=.sl c 0 l.length false/\ai J c=.rows 1 (l.map aK)/\q c
variable {q:Nat->Prop}
variable{v lv:I}
theorem OW.mono{l:List Int}(h:OW q J v l)(hk:∀c rs,ai J c=.rows 1 rs->ai τ c=.rows 1 rs):OW q τ v l:=by
 rcases h with h|h|⟨c,h1,h2⟩
 ·exact .inl h
 ·exact .inr (.inl h)
 ·exact .inr (.inr ⟨c,h1,hk c _ h2.1,h2.2⟩)
theorem OW.src{l:List Int}(h:OW q J v l):∃rd,Yl 1 J v=some (l.map aK,rd):=by
 rcases h with rfl|⟨rfl,rfl⟩|⟨c,rfl,h2,_⟩
 ·exact⟨[],JX⟩
 ·exact⟨[],rfl⟩
 ·exact⟨[c],De h2 (by simp)⟩
theorem OW.cell{l:List Int}(h:OW q J v l):cellsOf v=some [v]:=by
 rcases h with rfl|⟨rfl,rfl⟩|⟨c,rfl,h2,_⟩<;>rfl
theorem OW.len{l:List Int}(h:OW q J v l):Yn [v] J=.ok (O l.length) [] []:=by
 rcases h with rfl|⟨rfl,rfl⟩|⟨c,rfl,h2,_⟩
 ·simp[Yn]
 ·rfl
 ·rfl
theorem Qb8(l:List Int):a_ (l.map aK)=true:=Z0 λr hr=>by obtain⟨x,_,rfl⟩:=By.1 hr;rfl
theorem OW.riR{l:List Int}(h:OW q J v l):RI J (Ao J.length) v l:=by
 rcases h with rfl|⟨rfl,rfl⟩|⟨c,rfl,h2,_⟩
 ·exact RI.ro l
 ·exact RI.aq
 ·exact RI.own h2 (DW.2 (Yb h2)) rfl
def ER(q:Nat->Prop)(J:List U)(rows:List (List I))(l:List Ev):Prop:=rows.length=l.length/\∀(i:Nat) (row:List I) (e:Ev),rows[i]?=some row->l[i]?=some e->∃b,row=c_ e b/\OW q J b e.aj
def LO(q:Nat->Prop)(l:List Ev)(lv:I)(J:List U):Prop:=(l=[]/\lv=.aq)\/∃c rows,lv=.sl c 0 l.length false/\ai J c=.rows 7 rows/\ER q J rows l
theorem ER.mono{rows:List (List I)}(h:ER q J rows l)(hk:∀c rs,ai J c=.rows 1 rs->ai τ c=.rows 1 rs):ER q τ rows l:=
 ⟨h.1,λi row e b d=>by obtain⟨f,h1,h2⟩:=h.2 i row e b d;exact⟨f,h1,h2.mono hk⟩⟩
theorem LO.mono(h:LO q l lv J)(hk:∀c n b,ai J c=.rows n b->ai τ c=.rows n b):LO q l lv τ:=by
 rcases h with h|⟨c,rows,h1,h2,h3⟩
 ·exact .inl h
 ·exact .inr ⟨c,rows,h1,hk c 7 _ h2,h3.mono λc b=>hk c 1 b⟩
theorem LO.cells(h:LO q l lv J):cellsOf lv=some [lv]:=by
 rcases h with ⟨_,rfl⟩|⟨c,rows,rfl,_⟩<;>rfl
theorem OW.iQ{l:List Int}(h:OW q J v l):v.cell=true:=by
 rcases h with rfl|⟨rfl,rfl⟩|⟨c,rfl,h2,_⟩<;>rfl
theorem ER.a_{rows:List (List I)}(h:ER q J rows l):a_ rows=true:=Z0 λr hr=>by
 obtain⟨i,b,rfl⟩:=List.mem_iff_getElem.1 hr;have f:i<l.length:=by rw[<-h.1];exact b
 obtain⟨d,h1,h2⟩:=h.2 i rows[i] l[i] (by simp) (by simp);rw[h1];show (true&&(true&&(true&&(true&&(true&&(true&&(d.cell&&true)))))))=true;rw[h2.iQ];rfl
theorem ER.app{rows ys:List (List I)}{m:List Ev}(h:ER q J rows l)(k:ER q J ys m):ER q J (rows++ys) (l++m):=by
 refine⟨by simp[h.1,k.1],λi row e b d=>?_⟩;by_cases f:i<rows.length
 ·rw[Bi f]at b;rw[Bi (by rw[<-h.1];exact f)]at d;exact h.2 i row e b d
 ·rw[Bc (by omega)]at b;rw[Bc (by rw[<-h.1];omega),<-h.1]at d;exact k.2 _ row e b d
theorem LO.Iz(h:LO q l lv J):aA (hp J) (Ao J.length) lv (.aX false false 7 (l.map cS)):=by
 rcases h with ⟨rfl,rfl⟩|⟨k,rows,rfl,f,j⟩
 ·exact aA.d_ (aA.ro rfl) (λM u d=>d.eZ 7)
 ·refine aA.d_ (aA.sl (rs:=rows) (rs':=l.map cS) (Zw f (by simp)) (DW.2 (Yb f)) (by rw[j.1];omega) (by simp) (λi row row' o b=>?_)) (λM u d=>d.g_);rw[Al]at o;rw[Ba]at b;cases h:l[i]? with
  |none=>rw[h]at b;cases b
  |some e=>
   rw[h]at b;cases b;obtain⟨p,rfl,h2⟩:=j.2 i row e o h;exact .cons (aA.ro rfl) <| .cons (aA.ro rfl) <| .cons (aA.ro rfl) <| .cons (aA.ro rfl) <| .cons (aA.ro rfl) <| .cons (aA.ro rfl) <| .cons h2.riR .nil
@[reducible] def rrC(b:Bk)(s:St)(h0 g0 t0 h1 g1 t1:I)(sd tg:Int)(lv:I)(fu e:Int):List I:=
 cf b++(ui s (aM s.an) (aM s.s0.az) h0 g0 (ly s.s0.af) t0 (aM s.s1.az) h1 g1 (ly s.s1.af) t1++[O sd,O tg,lv,O fu,O e])
def RR1(p:Nat->Prop)(J:List U)(d:Nat)(b:Bk)(s:St)(sd tg fu e:Int)(l:List Ev):Prop:=
 ∃h0 g0 t0 h1 g1 t1 lv,ai J d=.box (rrC b s h0 g0 t0 h1 g1 t1 sd tg lv fu e)/\OW (¬p ·) J h0 s.s0.hand/\OW (¬p ·) J g0 s.s0.ao/\OW (¬p ·) J t0 s.s0.told/\OW (¬p ·) J h1 s.s1.hand/\OW (¬p ·) J g1 s.s1.ao/\OW (¬p ·) J t1 s.s1.told/\LO p l lv J
def RR(J:List U)(d:Nat)(b:Bk)(s:St)(sd tg fu e:Int)(l:List Ev):Prop:=∃p:Nat->Prop,(∀c,p c->c<J.length)/\RR1 p J d b s sd tg fu e l
structure et (B:Prop):Prop where
 get:B
theorem av{A B:Prop}(k:B)(h:et B->A:=by intro k;(repeat (first|refine Z (vX ..) ?_|refine Z (YU ..) ?_|refine Z rfl ?_|refine Z (ld (by assumption) (by rfl)) ?_|refine Xd rfl ?_|refine Ze (ld (by assumption) (by rfl)) (Yd _) ?_|refine Xg ?_|refine Yf ?_|refine yR ?_|refine Xo rfl ?_));exact k.get):A:=h ⟨k⟩
end Go.Ah.Tz
end
section
namespace Go.Ah.Tz
open Go.Proofs.Tryz (prog)
set_option maxRecDepth 100000
theorem XcW{J:List U}{b:Nat}{row:List I}(hr:ai J b=.box row)(x:U):∀c n d,ai J c=.rows n d->ai (J.set b x) c=.rows n d:=λc n d e=>(dk.set J b x).get e (by simp) (by simp;rintro rfl;rw[hr]at e;cases e)
attribute [local irreducible] aI.rd aI.pu aI.wr aI.dr aI.gr aI.gw aI.gl aI.gd aI.opt c8 W
set_option maxHeartbeats 8000000
theorem OW.cons{q:Nat->Prop}{J:List U}{v:I}{c:Int}{m:List Int}(h:OW q J v (c::m)):∃p j o u rd3 rd4,Zi 1 [v,O 0] J=.ok p j []/\Xf false 1 [p] J=.ok (O c) o []/\ZB 1 [v,O 1] J=.ok u rd3 []/\Yl 1 J u=some (m.map aK,rd4):=by
 rcases h with rfl|⟨rfl,h⟩|⟨k,rfl,b,_⟩
 ·have e:ZB 1 [aM (c::m),O 1] J=.ok (.aX false false 1 (cut 1 (m.map aK).length.succ (aK c::m.map aK))) [] []:=by
   show (bif AJ 1 1&&BY 1 ((m.map aK).length+1)then aL.ok (.aX false false 1 (cut 1 ((m.map aK).length+1) (aK c::m.map aK))) [] []else .stop)=_;rw[show BY 1 ((m.map aK).length+1)=true from AH (by omega)];rfl
  refine⟨_,[],[],_,[],[],rfl,rfl,e,?_⟩;have:List.take m.length (Hw aK m)=Hw aK m:=DN (by simp);simpa[Yl,cut]using this
 ·cases h
 ·have f:Zi 1 [.sl k 0 (c::m).length false,O 0] J=.ok (.ptr k 0 0) [k] []:=Y9 J k 0 _ false 1 _ .i64 0 (by simp) b;have i:Xf false 1 [.ptr k 0 0] J=.ok (O c) [k] []:=by simp only[Xf,b];rfl
  cases m with
  |nil=>exact⟨_,_,_,.aX false true 1 [],[],[],f,i,(by simp only[ZB,b];rfl),rfl⟩
  |cons d m=>
   refine⟨_,_,_,.sl k 1 (d::m).length false,[k],[k],f,i,(by simp[ZB,b,C3,AH (show 2<=m.length+1+1 by omega)]),?_⟩;simp[Yl,b,cut,show 1+(m.length+1)=m.length+1+1 by omega,AH (AO _),DN]
theorem XW{J:List U}{b j n:Nat}{x:I}{cs row row':List I}{K:I->List Nat×List Nat->List U->Prop}(hb:ai J b=.box row)(hc:cellsOf x=some cs)(hn:AJ cs.length n=true)(hs:bW j cs row=some row')
 (f:∀d,ai d b=.box row'->Kq [b] 7 J d->(∀c n rs,ai J c=.rows n rs->ai d c=.rows n rs)->K .aP ([],[b]) d):VV.dr (Xh n [.ak b j,x] J) J K:=
 Ze (cO hb hc hn hs) (Ye _ (Yb hb)) (f _ (Zc _ (Yb hb)) (Kq.set 7 J _ (by simp)) (XcW hb _))
theorem Z5{J:List U}{b j n:Nat}{x:I}{cs row row':List I}{K:KT}(hb:ai J b=.box row)(hc:cellsOf x=some cs)(hn:AJ cs.length n=true)(hs:bW j cs row=some row')
 (f:∀d,ai d b=.box row'->Kq [b] 7 J d->(∀c n rs,ai J c=.rows n rs->ai d c=.rows n rs)->K .aP d):VV.wr (Xh n [.ak b j,x] J) J K:=
 Qd (cO hb hc hn hs) (Ye _ (Yb hb)) (f _ (Zc _ (Yb hb)) (Kq.set 7 J _ (by simp)) (XcW hb _))
section
variable {J:List U} {rb:Nat} {b:Bk} {s:St} {sd tg fu:Int} {l:List Ev} (h:RR J rb b s sd tg fu 0 l) (hn:l.length<100000000) (h01:sd=0\/sd=1)
include h hn h01
end
end Go.Ah.Tz
end
section
namespace Go.Ah
section
variable {P:Program} {GL:aw}
def gW(h:Hp)(rd:List Nat):Hp:=λb=>if b∈rd then h b else (h b).map λ_=>.dead
variable{rd:List Nat}
theorem XI{h:Hp}{b:Nat}{aD:U}(e:gW h rd b=some aD)(hl:aD.live=true):b∈rd/\h b=some aD:=by
 unfold gW at e;by_cases hb:b∈rd
 ·rw[aE hb]at e;exact⟨hb,e⟩
 ·rw[aB hb]at e;obtain⟨x,_,rfl⟩:=Eg.1 e;simp[U.live]at hl
theorem bu.only{w0:World}{L:Ln}{g:Gm}{h:Hp}{w:World}(r:bu GL w0 L g h w)(rd:List Nat):bu GL w0 L g (gW h rd) w where
 keeps:=r.keeps
 aZ:=r.aZ
 src:=r.src
 cr:=r.cr
 dU:=λb e=>r.dU b (by
  unfold gW at e;split at e
  ·exact e
  ·simpa using e)
 jb:=λb aD e=>by
  unfold gW at e;split at e
  ·exact r.jb b aD e
  ·obtain⟨x,j,_⟩:=Eg.1 e;exact r.jb b x j
 own:=λb aD f e d=>r.own b aD f (XI e d).2 d
 bd:=λb aD f e d=>r.bd b aD f (XI e d).2 d
 inj:=λb o aD blk' f p e s d i=>r.inj b o aD blk' f p (XI e d).2 (XI s i).2 d i
def gH(rd:List Nat):List (Nat×U):=rd.map λb=>(b,.dead)
theorem bu.sq{w0:World}{L:Ln}{w:World}(c:Own):∀(rd:List Nat) {M0:Nat->Option Obj} {h:Hp},bu GL w0 L ⟨M0,c⟩ h w->(∀b∈rd,∃aD,h b=some aD) ->
  ∃M,iJ M0 M/\bu GL w0 L ⟨M,c⟩ (cx h (gH rd)) w/\∀b∈rd,∀aD d o,h b=some aD->aD.live=true->c b=some d->d.cI=false->w.heap[d.aD]?=some o->M d.aD=some o
 |[],M0,h,r,_=>⟨M0,iJ.refl _,r,λb hb=>absurd hb (by simp)⟩
 |b::rd,M0,h,r,y=>by
  obtain⟨aD,hb⟩:=y b (EL);have F:∀c∈rd,∃aD,dQ h b .dead c=some aD:=λc G=>by
   by_cases e:c=b
   ·subst e;exact⟨_,Ys _ _ _⟩
   ·rw[Yr _ _ e];exact y c (DI _ G)
  obtain⟨d,j⟩:=r.jb b aD hb;have key:∃i,iJ M0 i/\bu GL w0 L ⟨i,c⟩ (dQ h b .dead) w/\(aD.live=true->d.cI=false->∀o,w.heap[d.aD]?=some o->i d.aD=some o):=by
   by_cases f:aD.live=true/\d.cI=false
   ·obtain⟨_,_,o,z,_⟩:=r.own b aD d hb f.1 j f.2;obtain⟨H,K⟩:=r.freeze hb f.1 j f.2 z;refine⟨_,H.m,K,λ_ _ V A=>?_⟩;rw[z]at A;cases A;simp[oh]
   ·exact⟨M0,iJ.refl _,r.kill hb,λh1 h2=>absurd ⟨h1,h2⟩ f⟩
  obtain⟨i,N,r1,k1⟩:=key;obtain⟨M,B,Q,k2⟩:=bu.sq c rd r1 F;refine⟨M,N.trans B,Q,λx R blk' S o p C e3 D E=>?_⟩;by_cases e:x=b
  ·subst e;have T:c x=some d:=j;rw[hb]at p;cases p;rw[T]at e3;cases e3;exact B _ _ (k1 C D o E)
  ·rcases Az.1 R with s|s
   ·exact absurd s e
   ·exact k2 x s blk' S o (by rw[Yr _ _ e];exact p) C e3 D E
theorem dh.sq{f:FuncId}{xs ys:List I}{v:I}{h0:Hp}(hc:dh P GL f ys v)(hb:bA h0 rd xs ys)(ct:∀b∈rd,∃aD,h0 b=some aD):im P GL f xs h0 v rd (gH rd):=by
 intro x L g h w z r A p _;obtain⟨M,s,i,B⟩:=bu.sq g.c rd (M0:=g.M) r (λb d=>by rw[p b d];exact ct b d);have qk:wB g (gW h rd) w M:=⟨s,λb aD C o e j D E F=>B b (XI e j).1 aD C o (XI e j).2 j D E F⟩;have hd:=hb GL x L g (gW h rd) w M (r.only rd) qk (λb d=>by unfold gW;rw[aE d];exact p b d) z A;refine(hc w M _ i.aZ i.cr hd).mono ?_;rintro e Q ⟨y,he,k,G,hle,H,K,N⟩;exact⟨y,he,⟨G,g.c⟩,⟨s.trans hle,fW.refl _⟩,i.after k hle H K,N.mono (iJ.refl _) (fW.bE _)⟩
def iw(J:List U)(rd:List Nat):List U:=rd.foldl (λJ b=>J.set b .dead) J
theorem QP:∀(rd:List Nat) (J:List U),(iw J rd).length=J.length
 |[],_=>rfl
 |b::rd,J=>(QP rd (J.set b .dead)).trans (by simp)
theorem OP:∀(rd:List Nat) (J:List U),(∀b∈rd,b<J.length)->h_ J (gH rd)=some (iw J rd)
 |[],_,_=>rfl
 |b::rd,J,h=>by
  have hb:=h b EL;show (bif AJ b J.length then h_ (J ++ [.dead]) (gH rd)else (match QF b .dead J with
   |some σ'=>h_ σ' (gH rd)
   | none=>none))=_
  have:AJ b J.length=false:=by
   cases e:AJ b J.length with
   |false=>rfl
   |true=>have:=fK e;omega
  rw[this,Dt hb];exact OP rd (J.set b .dead) (λc d=>by simpa using h c (DI _ d))
theorem Ybk{k:MK}{xs ys zs:List I}{f:FuncId}{v:I}(h:dh P GL f zs v){J:List U}(hc:Xt k xs=some (f,ys))(i:Qh P f=true)(hb:bA (hp J) rd ys zs)(ct:∀b∈rd,ai J b≠.dead){K:KT}(j:K v (iw J rd)):(W P GL).call k xs J K:=
 Y5 hc i (h.sq hb λb d=>⟨_,Zw rfl (ct b d)⟩) (OP rd J λb d=>Yb rfl (ct b d)) j
end
end Go.Ah
end
section
namespace Go.Ah
section
variable {P:Program} {GL:aw}
theorem TT:∀(l:List (Nat×U)) (h:Hp) (k:Nat) (x:U),cx h (l++[(k,x)])=dQ (cx h l) k x
 |[],_,_,_=>rfl
 |(b,y)::l,h,k,x=>TT l (dQ h b y) k x
theorem UO:∀(l:List Nat) (h:Hp) (k:Nat),k∉l->cx h (gH l) k=h k
 |[],_,_,_=>rfl
 |b::l,h,k,d=>by
  simp only[Az,not_or]at d;show cx (dQ h b .dead) (gH l) k=h k;rw[UO l _ k d.2,Yr _ _ d.1]
theorem dh.qW{f:FuncId}{xs ys:List I}{v:I}{rd:List Nat}{h0:Hp}(hc:dh P GL f ys v)(hb:bA h0 rd xs ys)(ct:∀b∈rd,∃aD,h0 b=some aD){k:Nat}{row row':List I}(hk:h0 k=some (.box row))(V:k∉rd)(hlen:row'.length=row.length)
 (X:∀(j:Nat) (x p:I),row[j]?=some x->row'[j]?=some p->p=x\/aA h0 rd x p):im P GL f xs h0 v rd (gH rd++[(k,.box row')]):=by
 intro D L g h w Y r hx H gG;have A:h k=some (.box row):=by rw[gG (k,.box row') (by simp)];exact hk
 obtain⟨M,E,r2,xH⟩:=bu.sq g.c rd (M0:=g.M) r (λb s=>by rw[H b s];exact ct b s);have qk:wB g (gW h rd) w M:=⟨E,λb aD d o e F z B C=>xH b (XI e F).1 aD d o (XI e F).2 F z B C⟩;have K:∀b∈rd,gW h rd b=h0 b:=λb s=>by unfold gW;rw[aE s];exact H b s
 have hd:=hb GL D L g (gW h rd) w M (r.only rd) qk K Y hx;have G:bu GL D L ⟨M,g.c⟩ (dQ (cx h (gH rd)) k (.box row')) w:=by
  obtain⟨d,z⟩:=r.jb k _ A;have B:d.cI=false:=by
   cases e:d.cI with
   |false=>rfl
   |true=>have:=r.bd k _ d A rfl z e;cases this
  obtain⟨_,_,o,C,arr,T,rfl,hs,kf⟩:=r.own k _ d A rfl z B;have uU:cx h (gH rd) k=some (.box row):=by rw[UO rd h k V];exact A
  refine r2.write (w':=w) uU rfl z B (blk':=.box row') rfl (o':=.cells arr T (0,0)) rfl rfl rfl ?_ ⟨arr,T,rfl,by rw[hs,hlen],λj p u N e2=>?_⟩
  ·apply GP;intro i;by_cases Q:i=d.aD
   ·subst Q;rw[Fz (E1.1 C).1,C]
   ·rw[EF (λe=>Q e.symm)]
  ·have hj:j<row.length:=by rw[<-hlen];exact(eS N).1
   have R:row[j]?=some row[j]:=by simp[hj]
   have S:=kf j row[j] u R e2;rcases X j row[j] p R N with rfl|nU
   ·exact Den.mono E S (fW.refl _)
   ·exact(nU GL D L g (gW h rd) w M (r.only rd) qk K u S).mono (iJ.refl _) (fW.bE _)
 refine(hc w M _ G.aZ G.cr hd).mono ?_;rintro e w' ⟨y,he,kp,M',hle,dW,iP,Wv⟩;rw[TT];exact⟨y,he,⟨M',g.c⟩,⟨E.trans hle,fW.refl _⟩,G.after kp hle dW iP,Wv.mono (iJ.refl _) (fW.bE _)⟩
end
end Go.Ah
end
section
namespace Go.Ah
theorem PI:∀(a b:List (Nat×U)) (J τ:List U),h_ J a=some τ->h_ J (a++b)=h_ τ b
 |[],b,J,τ,h=>by cases h;rfl
 |(c,x)::a,b,J,τ,h=>by
  have h:(bif AJ c J.length then h_ (J ++ [x]) a else (match QF c x J with
   |some σ'=>h_ σ' a
   | none=>none))=some τ:=h
  show (bif AJ c J.length then h_ (J ++ [x]) (a ++ b)else (match QF c x J with
   |some σ'=>h_ σ' (a++b)
   | none=>none))=h_ τ b
  cases d:AJ c J.length with
  |true=>rw[d]at h;exact PI a b _ τ h
  |false=>
   rw[d]at h;cases hs:QF c x J with
   |none=>rw[hs]at h;cases h
   |some f=>rw[hs]at h;exact PI a b f τ h
theorem Ow:∀(rd:List Nat) (J:List U) (c:Nat),c<J.length->c∉rd->ai (iw J rd) c=ai J c
 |[],_,_,_,_=>rfl
 |b::rd,J,c,h,d=>by
  show ai (iw (J.set b .dead) rd) c=_;rw[Ow rd _ c (by simpa using h) (λe=>d (DI _ e)),Tz.Qb _ h (λe=>d (by rw[e];exact EL))]
def gK(h:Hp)(rd:List Nat):List I->List I->Prop
 |[],[]=>True
 |x::xs,y::b=>(y=x\/aA h rd x y)/\gK h rd xs b
 |_,_=>False
theorem gK.len{h:Hp}{rd:List Nat}:∀ {xs ys:List I},gK h rd xs ys->ys.length=xs.length
 |[],[],_=>rfl
 |_::xs,_::ys,e=>by simp[gK.len (xs:=xs) e.2]
theorem gK.at{h:Hp}{rd:List Nat}:∀ {xs ys:List I},gK h rd xs ys->∀(j:Nat) (x b:I),xs[j]?=some x->ys[j]?=some b->b=x\/aA h rd x b
 |[],[],_,j,x,b,e,_=>by cases e
 |y::xs,i::ys,e,0,x,b,d,f=>by cases d;cases f;exact e.1
 |y::xs,i::ys,e,j+1,x,b,d,f=>gK.at (xs:=xs) (ys:=ys) e.2 j x b (by simpa using d) (by simpa using f)
section
variable {P:Program} {GL:aw}
theorem Xbk{k:MK}{xs ys zs:List I}{f:FuncId}{v:I}{rd:List Nat}{q:Nat}{row row':List I}(h:dh P GL f zs v){J:List U}(hc:Xt k xs=some (f,ys))(o:Qh P f=true)(hb:bA (hp J) rd ys zs)(ct:∀b∈rd,ai J b≠.dead)(hq:ai J q=.box row)(p:q∉rd)
 (i:gK (hp J) rd row row'){K:KT}(r:∀d,ai d q=.box row'->J.length=d.length->(∀c,c<J.length->c≠q->c∉rd->ai d c=ai J c)->K v d):(W P GL).call k xs J K:=by
 have j:=Yb hq;refine Y5 hc o (h.qW hb (λc s=>⟨_,Zw rfl (ct c s)⟩) (Zw hq (by simp)) p i.len i.at) (σ':=(iw J rd).set q (.box row')) ?_ (r _ (Tz.Zc _ (by rw[QP];exact j)) (by simp[QP]) λc h1 h2 h3=>by rw[Tz.Qb _ (by rw[QP];exact h1) h2,Ow rd J c h1 h3]);rw[PI _ _ _ _ (OP rd J (λb w=>Yb rfl (ct b w)))];exact Ye _ (by rw[QP];exact j)
end
end Go.Ah
namespace Go.Ah.Tz
open Go.Proofs.Tryz (prog)
set_option maxRecDepth 100000
def ow:I->List Nat
 |.sl c _ _ _=>[c]
 |_=>[]
@[reducible] def rrT(b:Bk)(s:St)(sd tg:Int)(lv:I)(fu e:Int):List I:=rrC b s (aM s.s0.hand) (aM s.s0.ao) (aM s.s0.told) (aM s.s1.hand) (aM s.s1.ao) (aM s.s1.told) sd tg lv fu e
attribute [local irreducible] aI.rd aI.pu aI.wr aI.dr aI.gr aI.gw aI.gl aI.gd aI.opt c8 W
set_option maxHeartbeats 8000000
theorem dk.new{J τ υ:List U}{zb:Nat}(h:dk J τ [])(q:dk τ υ [zb])(hz:J.length<=zb):dk J υ []:=⟨CI h.1 q.1,λc b d=>by rw[q.2 c (Er b h.1) (by simp;omega),h.2 c b d]⟩
theorem Rz{J:List U}{z:List I}{K:KT}(d:∀b,ai b J.length=.box z->dk J b []->b.length=J.length+1->K (.ak J.length 0) b):VV.wr (Zt z [] J) J K:=
 Qd (v:=.ak J.length 0) (rd:=[]) (up:=[(J.length,.box z)]) rfl (Qf J _) (d _ (Xc J _) (dk.app J _) (by simp))
theorem yY{J:List U}{z:List I}{K:I->List Nat×List Nat->List U->Prop}(d:∀b,ai b J.length=.box z->dk J b []->b.length=J.length+1->K (.ak J.length 0) ([],[J.length]) b):VV.dr (Zt z [] J) J K:=
 Ze (v:=.ak J.length 0) (rd:=[]) (up:=[(J.length,.box z)]) rfl (Qf J _) (d _ (Xc J _) (dk.app J _) (by simp))
theorem Qe0{J:List U}{zb j n:Nat}{x:I}{cs row row':List I}{K:I->List Nat×List Nat->List U->Prop}(hb:ai J zb=.box row)(hc:cellsOf x=some cs)(hn:AJ cs.length n=true)(hs:bW j cs row=some row')
 (d:∀b,ai b zb=.box row'->dk J b [zb]->K .aP ([],[zb]) b):VV.dr (Xh n [.ak zb j,x] J) J K:=
 Ze (cO hb hc hn hs) (Ye _ (Yb hb)) (d _ (Zc _ (Yb hb)) (dk.set J zb _))
end Go.Ah.Tz
end
section
namespace Go.Ah.Tz
open Go.Proofs.Tryz (prog)
set_option maxRecDepth 100000
attribute [local irreducible] aI.rd aI.pu aI.wr aI.dr aI.gr aI.gw aI.gl aI.gd aI.opt c8 W
set_option maxHeartbeats 8000000
section
variable {p:Nat->Prop} {J:List U} {rb:Nat} {b:Bk} {s:St} {sd tg fu:Int} {l:List Ev} {lv:I} (hp:∀c,p c->c<J.length) (hr:ai J rb=.box (rrT b s sd tg lv fu 0)) (ol:LO p l lv J) (hn:l.length<100000000) (h01:sd=0\/sd=1)
 (hs:ba 1000000 s) (hm:aJ (bO b).1 b s true=true) (h67:PC 50 [dd b] (.agg [O (bO b).1,O (bO b).2]))
include hp hr ol hn h01 hs hm h67
end
def LL(B:Nat)(l:List Ev)(lv:I)(J:List U):Prop:=(l=[]/\lv=.aq)\/∃c,lv=.sl c 0 l.length false/\B<=c/\ai J c=.rows 7 (l.map cS)
theorem LL.rows{B:Nat}{l:List Ev}{lv:I}{J τ:List U}(h:LL B l lv J)(hk:∀c n rs,ai J c=.rows n rs->ai τ c=.rows n rs):LL B l lv τ:=by
 rcases h with h|⟨c,h1,h2,h3⟩
 ·exact .inl h
 ·exact .inr ⟨c,h1,h2,hk _ _ _ h3⟩
theorem Zcx:∀l:List Ev,a_ (l.map cS)=true:=λl=>Z0 λr hr=>by obtain⟨e,_,rfl⟩:=By.1 hr;rfl
theorem LL.src{B:Nat}{p:Nat->Prop}{l:List Ev}{lv:I}{J:List U}(h:LL B l lv J):∃b rd,Yl 7 J lv=some (b,rd)/\ER p J b l:=by
 rcases h with ⟨rfl,rfl⟩|⟨c,rfl,_,h3⟩
 ·exact⟨[],[],rfl,rfl,λi row e q=>by simp at q⟩
 ·refine⟨_,_,De h3 (by simp),by simp,λi row e d f=>?_⟩;rw[Ba,f]at d;cases d;exact⟨_,rfl,.inl rfl⟩
section
variable {p:Nat->Prop} {J:List U} {rb:Nat} {b:Bk} {s:St} {sd tg fu:Int} {l:List Ev} {lv:I} (hp:∀c,p c->c<J.length) (hr:ai J rb=.box (rrT b s sd tg lv fu 0)) (ol:LO p l lv J) (hn:l.length<100000000)
 (c6:(bO b).1=0) (h67:PC 50 [dd b] (.agg [O (bO b).1,O (bO b).2])) {N C:Nat} (bT:cu b N C s) (hC:C<1000000)
include hp hr ol hn c6 h67 bT hC
end
section
variable {p:Nat->Prop} {J:List U} {rb:Nat} {b:Bk} {s:St} {sd tg fu:Int} {l:List Ev} {lv:I} (hp:∀c,p c->c<J.length) (hr:ai J rb=.box (rrT b s sd tg lv fu 0)) (ol:LO p l lv J) (hn:l.length<100000000)
 (c6:(bO b).1=0) (h67:PC 50 [dd b] (.agg [O (bO b).1,O (bO b).2])) {N C:Nat} (bT:cu b N C s) (hC:C<1000000) (hN:N+60<=1000000) (h01:sd=0\/sd=1) (vu:b.aj.length<=iC)
include hp hr ol hn c6 h67 bT hC hN h01 vu
end
theorem XH{cs:List I}(h:cs.all I.cell=true):cellsOf (.agg cs)=some cs:=by simp only[cellsOf,h,cond_true]
@[reducible] def Nj(r:Int×St×Int×List Ev):I:=.bw [bN r.2.1,.aX false false 7 (r.2.2.2.map cS),O r.2.2.1,O r.1]
def OT(J:List U)(v:I)(l:List Th):Prop:=v=ly l\/(v=.aq/\l=[])\/∃c,v=.sl c 0 l.length false/\ai J c=.rows 4 (l.map br)
theorem OT.cq{J τ:List U}{v:I}{l:List Th}(h:OT J v l)(hk:∀c rs,ai J c=.rows 4 rs->ai τ c=.rows 4 rs):OT τ v l:=by
 rcases h with h|h|⟨c,h1,h2⟩
 ·exact .inl h
 ·exact .inr (.inl h)
 ·exact .inr (.inr ⟨c,h1,hk _ _ h2⟩)
theorem OT.len{J:List U}{v:I}{l:List Th}(h:OT J v l):Yn [v] J=.ok (O l.length) [] []:=by
 rcases h with rfl|⟨rfl,rfl⟩|⟨c,rfl,h2⟩
 ·simp[Yn]
 ·rfl
 ·rfl
theorem OT.at{J:List U}{v:I}{l:List Th}(h:OT J v l){i:Nat}(hi:i<l.length):∃p rd b,Zi 4 [v,O i] J=.ok p rd []/\Xf true 4 [p] J=.ok (.agg (br l[i])) b []:=by
 rcases h with rfl|⟨rfl,rfl⟩|⟨c,rfl,h2⟩
 ·exact⟨_,_,_,Zm J br false false 4 l .i64 i hi,rfl⟩
 ·simp at hi
 ·exact⟨.ptr c (0+i) 0,[c],[c],Y9 J c 0 l.length false 4 _ .i64 i hi h2,by rw[Al];exact ru h2 (row:=br l[i]) (by simp[hi]) rfl⟩
theorem OW.at{q:Nat->Prop}{J:List U}{v:I}{l:List Int}(h:OW q J v l){i:Nat}(hi:i<l.length):∃p rd b,Zi 1 [v,O i] J=.ok p rd []/\Xf false 1 [p] J=.ok (O l[i]) b []:=by
 rcases h with rfl|⟨rfl,rfl⟩|⟨c,rfl,h2,_⟩
 ·exact⟨_,_,_,Zm J aK false false 1 l .i64 i hi,rfl⟩
 ·simp at hi
 ·exact⟨.ptr c (0+i) 0,[c],[c],Y9 J c 0 l.length false 1 _ .i64 i hi h2,by rw[Al];exact ru h2 (row:=aK l[i]) (by simp[hi]) rfl⟩
theorem OT.cells{J:List U}{v:I}{l:List Th}(h:OT J v l):cellsOf v=some [v]:=by
 rcases h with rfl|⟨rfl,rfl⟩|⟨c,rfl,h2⟩<;>rfl
theorem OT.iQ{J:List U}{v:I}{l:List Th}(h:OT J v l):v.cell=true:=by
 rcases h with rfl|⟨rfl,rfl⟩|⟨c,rfl,h2⟩<;>rfl
@[reducible] def evO(e:Ev):List I:=c_ e .aq
theorem GR.lo{B:Nat}{l:List Ev}{lv:I}{J:List U}(h:GR 7 evO B l lv J)(hc:∀e∈l,e.aj=[]):LO (λ_=>True) l lv J:=by
 rcases h with h|⟨c,h1,_,h3⟩
 ·exact .inl h
 ·refine .inr ⟨c,_,h1,h3,by simp,λi row e b d=>?_⟩;rw[Ba,d]at b;cases b;exact⟨_,rfl,.inr (.inl ⟨rfl,hc e (Au d)⟩)⟩
structure GS (J:List U) (cb:Nat) (t:St) (c0 c1:Nat) (a d0 h0 u0 t0 d1 h1 u1 t1:I):Prop where
 ne:c0≠c1
 box:ai J cb=.box (ui t a d0 h0 (.sl c0 0 t.s0.ao.length false) u0 t0 d1 h1 (.sl c1 0 t.s1.ao.length false) u1 t1)
 r0:ai J c0=.rows 1 (t.s0.ao.map aK)
 r1:ai J c1=.rows 1 (t.s1.ao.map aK)
 a:OW (λc=>c≠c0/\c≠c1) J a t.an
 d0:OW (λc=>c≠c0/\c≠c1) J d0 t.s0.az
 h0:OW (λc=>c≠c0/\c≠c1) J h0 t.s0.hand
 u0:OT J u0 t.s0.af
 t0:OW (λc=>c≠c0/\c≠c1) J t0 t.s0.told
 d1:OW (λc=>c≠c0/\c≠c1) J d1 t.s1.az
 h1:OW (λc=>c≠c0/\c≠c1) J h1 t.s1.hand
 u1:OT J u1 t.s1.af
 t1:OW (λc=>c≠c0/\c≠c1) J t1 t.s1.told
theorem GS.cq{J τ:List U}{cb:Nat}{t:St}{c0 c1:Nat}{a d0 h0 u0 t0 d1 h1 u1 t1:I}(h:GS J cb t c0 c1 a d0 h0 u0 t0 d1 h1 u1 t1)(hk:∀c n rs,ai J c=.rows n rs->ai τ c=.rows n rs)(hb:∀row,ai J cb=.box row->ai τ cb=.box row):GS τ cb t c0 c1 a d0 h0 u0 t0 d1 h1 u1 t1:=
 ⟨h.ne,hb _ h.box,hk _ _ _ h.r0,hk _ _ _ h.r1,h.a.mono λc=>hk c 1,h.d0.mono λc=>hk c 1,h.h0.mono λc=>hk c 1,h.u0.cq λc=>hk c 4,h.t0.mono λc=>hk c 1,h.d1.mono λc=>hk c 1,h.h1.mono λc=>hk c 1,h.u1.cq λc=>hk c 4,h.t1.mono λc=>hk c 1⟩
theorem GS.cells{J:List U}{cb:Nat}{t:St}{c0 c1:Nat}{a d0 h0 u0 t0 d1 h1 u1 t1:I}(h:GS J cb t c0 c1 a d0 h0 u0 t0 d1 h1 u1 t1):cellsOf (.agg (ui t a d0 h0 (.sl c0 0 t.s0.ao.length false) u0 t0 d1 h1 (.sl c1 0 t.s1.ao.length false) u1 t1))=some (ui t a d0 h0 (.sl c0 0 t.s0.ao.length false) u0 t0 d1 h1 (.sl c1 0 t.s1.ao.length false) u1 t1):=by
 refine XH ?_;simp only[List.all_cons,List.all_nil,h.a.iQ,h.d0.iQ,h.h0.iQ,h.u0.iQ,h.t0.iQ,h.d1.iQ,h.h1.iQ,h.u1.iQ,h.t1.iQ,DZ,Ax];rfl
theorem GR.ow{B:Nat}{l:List Int}{v:I}{J:List U}(h:GR 1 aK B l v J):OW (λ_=>True) J v l:=by
 rcases h with ⟨rfl,rfl⟩|⟨c,h1,_,h3⟩
 ·exact .inr (.inl ⟨rfl,rfl⟩)
 ·exact .inr (.inr ⟨c,h1,h3,trivial⟩)
theorem Qc5(a:Cd)(t:Tx)(u:Bool):∀p:List Cd,eK p t u=true->eK (p++[a]) t u=true:=by
 intro p
 induction p with
 |nil=>intro h;cases h
 |cons c p d=>
  intro h;have h:(if c.name==t then c.unit || !u else eK p t u)=true:=h;show (if c.name==t then c.unit || !u else eK (p++[a]) t u)=true;by_cases b:(c.name==t)=true
  ·rw[aE b]at h ⊢;exact h
  ·rw[aB b]at h ⊢;exact d h
theorem ZbL{cs:List Cd}(hl:cs.length<=61):∀(n i:Nat),n+i=62->(∀k<i,(cs.any λc=>c.name==ZK k)=true)->(cs.any λc=>c.name==yW cs n i)=false/\∃j,j<62/\yW cs n i=ZK j
 |0,i,b,h=>by
  have:=XcR (by omega) h;omega
 |n+1,i,b,h=>by
  unfold yW;by_cases q:(cs.any λc=>c.name==ZK i)=true
  ·rw[aE q];exact ZbL hl n (i + 1) (by omega) (λk d=>by
    by_cases e:k=i
    ·subst e;exact q
    ·exact h k (by omega))
  ·rw[aB q];exact⟨by simpa using q,i,by omega,rfl⟩
section
variable {A B:List Cd} (za:∀t u,eK B t u=true->eK A t u=true)
include za
theorem ZdU{op who:Int}{name:Tx}(h:i_ B op who name=true):i_ A op who name=true:=by
 unfold i_ at h ⊢;by_cases h6:op=6
 ·rw[aE h6]at h ⊢;simp only[AA]at h ⊢;exact⟨h.1,za _ _ h.2⟩
 ·rw[aB h6]at h ⊢;exact h
mutual
theorem Qdj (t:Bool):∀x:Cn,jI B t x=true->jI A t x=true
 |.mk op who name aF kids,h=>by
  have h:(jv op aF.length kids.length&&(dI t aF&&(ga B t kids&&i_ B op who name)))=true:=h
  show (jv op aF.length kids.length&&(dI t aF&&(ga A t kids&&i_ A op who name)))=true
  simp only[AA]at h ⊢
  exact⟨h.1,h.2.1,YcI t kids h.2.2.1,ZdU za h.2.2.2⟩
theorem YcI (t:Bool):∀l:List Cn,ga B t l=true->ga A t l=true
 |[],_=>rfl
 |x::l,h=>by
  simp only[ga,AA]at h ⊢
  exact⟨Qdj t x h.1,YcI t l h.2⟩
end
mutual
theorem Xev (t:Bool):∀(x:Ef) (d:Int),qP B t d x=true->qP A t d x=true
 |.mk op who n name c cL cV,d,h=>by
  have h:(decide (0<=op) && (decide (op<=8) && (if op=8 then
   decide (who=0)&&(fF n&&(name==[]&&(jI B t c&&((decide (cL.length<=16)&&(decide (d+1<=8)&&cR B t (d+1) cL))&&(decide (cV.length<=16)&&(decide (d+1<=8)&&cR B t (d+1) cV))))))
  else fO c && (decide (cL.length=0) && (decide (cV.length=0) && ((if cQ op then iF t n else fF n) && ((if op=7 then eK B name true else name == []) && lE t op who)))))))=true:=h
  show (decide (0<=op) && (decide (op<=8) && (if op=8 then
   decide (who=0)&&(fF n&&(name==[]&&(jI A t c&&((decide (cL.length<=16)&&(decide (d+1<=8)&&cR A t (d+1) cL))&&(decide (cV.length<=16)&&(decide (d+1<=8)&&cR A t (d+1) cV))))))
  else fO c && (decide (cL.length=0) && (decide (cV.length=0) && ((if cQ op then iF t n else fF n) && ((if op=7 then eK A name true else name == []) && lE t op who)))))))=true
  rw[AA,AA]at h ⊢
  refine⟨h.1,h.2.1,?_⟩
  have h:=h.2.2
  by_cases r:op=8
  ·rw[aE r]at h ⊢
   simp only[AA]at h ⊢
   obtain⟨f,i,j,o,⟨b,p,s⟩,w,y,a10⟩:=h
   exact⟨f,i,j,Qdj za t c o,⟨b,p,OJ t cL _ s⟩,w,y,OJ t cV _ a10⟩
  ·rw[aB r]at h ⊢
   simp only[AA]at h ⊢
   obtain⟨f,i,j,o,b,p⟩:=h
   refine⟨f,i,j,o,?_,p⟩
   by_cases h7:op=7
   ·rw[aE h7]at b ⊢;exact za _ _ b
   ·rw[aB h7]at b ⊢;exact b
theorem OJ (t:Bool):∀(l:List Ef) (d:Int),cR B t d l=true->cR A t d l=true
 |[],_,_=>rfl
 |x::l,d,h=>by
  simp only[cR,AA]at h ⊢
  exact⟨Xev t x d h.1,OJ t l d h.2⟩
end
theorem OM{t:Bool}{d:Int}{l:List Ef}(h:b_ B t d l=true):b_ A t d l=true:=by
 simp only[b_,AA]at h ⊢;exact⟨h.1,h.2.1,OJ za t l d h.2.2⟩
theorem Qep{c:Cd}(h:eQ B c=true):eQ A c=true:=by
 simp only[eQ,AA]at h ⊢;obtain⟨b,d,f,i,j,o,p,r,s,q10,q11,q12⟩:=h;exact⟨b,d,f,i,j,o,p,r,s,OM za q10,OM za q11,OM za q12⟩
theorem ZbH{a:Cd}(ha:eQ A a=true):∀(l pre:List Cd),(eA B pre l).1=0->((pre++l).any λd=>d.name==a.name)=false->(eA A pre (l++[a])).1=0
 |[],pre,_,b=>by
  rw[DR]at b;show (eA A pre [a]).1=0;unfold eA;rw[aB (by simp[b]),aE ha];rfl
 |c::l,pre,h,b=>by
  unfold eA at h;show (eA A pre (c::(l++[a]))).1=0;unfold eA;split at h
  ·cases h
  ·rename_i h1;rw[aB h1];split at h
   ·rename_i h2;rw[aE (Qep za h2)];exact ZbH ha l _ h (by simpa using b)
   ·cases h
end
theorem AU:∀j<62,ej (ZK j)=true:=by decide +kernel
theorem Zdu{b:Bk}(c6:(bO b).1=0)(hl:b.aj.length<=61){l:List Ef}(h1:b_ b.aj true 1 l=true)(h2:eF 0 l<=200):nD b l=true:=by
 have h:(dD b.aj).1=0:=by
  unfold bO at c6;split at c6
  ·rename_i h1;exact absurd c6 h1
  ·rename_i h1;simpa using h1
 refine gA ?_;unfold dD at h ⊢;rw[aB (by omega)]at h;rw[aB (by simp;omega)];have up:∀t u,eK b.aj t u=true->eK (b.aj++[nY b.aj l]) t u=true:=λt u=>Qc5 _ t u b.aj;obtain⟨d,j,f,f2⟩:=ZbL hl 62 0 rfl (λk i=>absurd i (by omega));refine ZbH up ?_ b.aj [] h ?_
 ·have o:=OM up h1;have p:eF 0 ([]:List Ef)=0:=rfl;simp only[eQ,AA,fe];refine⟨?_,rfl,rfl,rfl,rfl,rfl,rfl,rfl,?_,o,rfl,rfl⟩
  ·show ej (yW b.aj 62 0)=true;rw[f2];exact AU j f
  ·show min (eF 0 l+eF 0 []+eF 0 []) 1073741824<=200;rw[p];omega
 ·rw[Cm];exact d
def QS(B:Nat)(ws:List Tr)(b:I)(J:List U):Prop:=(ws=[]/\b=.aq)\/∃c off rows,b=.sl c off ws.length false/\B<=c/\ai J c=.rows 3 rows/\rows.length=ws.length+off/\rows.drop off=ws.map eP
theorem QS.cq{B:Nat}{ws:List Tr}{b:I}{J τ:List U}(h:QS B ws b J)(hk:∀c rs,ai J c=.rows 3 rs->ai τ c=.rows 3 rs):QS B ws b τ:=by
 rcases h with h|⟨c,off,rows,h1,h2,h3,h4⟩
 ·exact .inl h
 ·exact .inr ⟨c,off,rows,h1,h2,hk _ _ h3,h4⟩
theorem QS.len{B:Nat}{ws:List Tr}{b:I}{J:List U}(h:QS B ws b J):Yn [b] J=.ok (O ws.length) [] []:=by
 rcases h with ⟨rfl,rfl⟩|⟨c,off,rows,rfl,_⟩<;>rfl
def iZ(s:St):Int×Int×Int×Bool×Int:=(s.turn,s.mover,s.phase,s.bq,s.result)
theorem wL(s:St)(k:Int)(d:Sd):iZ (s.put k d)=iZ s:=by unfold St.put;split<;>rfl
theorem QeA(m:List Int)(s:St)(i:Int):iZ (ji m s i)=iZ s:=wL ..
theorem OL(m:List Int):∀(l:List Int) (s:St),iZ (dJ s m l)=iZ s
 |[],_=>rfl
 |i::l,s=>(OL m l (ji m s i)).trans (QeA m s i)
theorem ZcK{s:St}{k:Int}(e:(aT s k).2.2=0):iZ (aT s k).1=iZ s:=by
 unfold aT at e ⊢;split
 ·rename_i h;rw[h]at e;dsimp only at e;split at e
  ·rename_i q;rw[aE q];exact wL ..
  ·cases e
 ·split
  ·exact(wL ..).trans rfl
  ·exact wL ..
theorem Qca(k:Int):∀(j:Nat) (s:St),iZ (Zz k j s).2.1=iZ s
 |0,_=>rfl
 |j+1,s=>by
  unfold Zz;split
  ·rename_i e;exact(Qca k j _).trans (ZcK e)
  ·rfl
theorem T6{b:Int}{d:Int->Int×Int}{f:Th->Int×Int}{s:St}{id k:Int}(e:(gm b d f s id k).2.2=0):iZ (gm b d f s id k).1=iZ s:=by
 have z:∀(x:Int),x≠0->(eG,mr,x).2.2=0->False:=λx j h=>j h;have o:∀v,(kZ s b k v).2.2=0->iZ (kZ s b k v).1=iZ s:=by
  intro v e;unfold kZ at e ⊢;split at e
  ·rename_i q;rw[aE q];exact wL ..
  ·exact(z _ (by decide) e).elim
 have p:∀w i id u v,(jH s b w i id u v).2.2=0->iZ (jH s b w i id u v).1=iZ s:=by
  intro w i id u v e;unfold jH at e ⊢;split at e
  ·rename_i q;rw[aE q];exact wL ..
  ·exact(z _ (by decide) e).elim
 grind [gm]
theorem YeZ(b:Bk)(s:St)(sd tg op who:Int)(name:Tx)(n:Int):iZ (kH b s sd tg op who name n).2.1=iZ s:=by
 unfold kH;split
 ·unfold gX;split
  ·split
   ·rename_i e;unfold pk at e ⊢;split at e
    ·rename_i q;rw[aE q];exact T6 e
    ·rename_i q;rw[aB q];exact T6 e
   ·rfl
  ·rfl
 split
 ·unfold jP;split
  ·exact Qca ..
  ·rfl
 split
 ·unfold eL;split
  ·rfl
  split
  ·rfl
  ·exact wL ..
 split
 ·unfold dt;split
  ·rfl
  ·exact(OL ..).trans (wL ..)
 split
 ·unfold iy;split
  ·rfl
  ·exact OL ..
 split
 ·exact OL ..
 ·unfold wR;split
  ·rfl
  ·show iZ (s.put sd { s.side sd with af:=(s.side sd).af++[⟨s.next,(gf 0 b.aj name).1,0,true⟩] })=_;exact wL ..
mutual
theorem ZdG (b:Bk) (sd tg:Int):∀(x:Ef) (s:St) (fu:Int),iZ (dN b sd tg x s fu).2.1=iZ s
 |.mk op who n name c cL cV,s,fu=>by
  rw[dN]
  split
  ·split
   ·exact J1 b sd tg cL s fu
   ·exact J1 b sd tg cV s fu
  split
  ·rfl
  ·exact YeZ ..
theorem J1 (b:Bk) (sd tg:Int):∀(l:List Ef) (s:St) (fu:Int),iZ (runs b sd tg l s fu).2.1=iZ s
 |[],s,fu=>by rw[runs]
 |x::l,s,fu=>by
  rw[runs]
  split
  ·exact(J1 b sd tg l _ _).trans (ZdG b sd tg x s fu)
  ·exact ZdG b sd tg x s fu
end
theorem YdY{J:List U}{b k:Nat}{l:List Th}{u:Th}(v:Bool)(hb:ai J b=.rows 4 (l.map br))(hk:l[k]?=some u):Xh 1 [.ptr b k 3,.bool v] J=.ok .aP [] [(b,.rows 4 ((l.set k { u with e_:=v }).map br))]:=by
 have d:k<(l.map br).length:=by grind
 have h1:nth (l.map br) k=some (br u):=by rw[Q4,Ba,hk];rfl
 have h2:QF k (br { u with e_:=v }) (l.map br)=some ((l.set k { u with e_:=v }).map br):=by
  rw[Dt d,List.map_set]
 show (match ai J b with
   |.rows sz rs=>match nth rs k with
    |some row=>match cellsOf (.bool v)with
     | some cs=>bif AJ cs.length 1 then (match bW 3 cs row with
      |some row'=>match QF k row' rs with
       |some rs'=>aL.ok .aP [] [(b,.rows sz rs')]
       |none=>.stop
      | none=>.stop)else .stop
     |none=>.stop
    |none=>.stop
   | _=>.stop)=_
 simp_all [br]
def HI(s:St)(m:Int)(l:List Th):St:=s.put m { s.side m with af:=l }
def KP(τ:List U)(n:Nat)(t:St):Prop:=∀i x,(hJ t)[i]?=some x->ai τ (n+i)=x
theorem KP.mono{τ τ':List U}{n:Nat}{t:St}(h:KP τ n t)(k:∀c m rs,ai τ c=.rows m rs->ai τ' c=.rows m rs):KP τ' n t:=by
 intro i x b;have:=h i x b
 match i,b with
 |0,rfl|1,rfl|2,rfl|3,rfl|4,rfl|5,rfl|6,rfl|7,rfl|8,rfl|9,rfl|10,rfl=>exact k _ _ _ this
theorem KP.un{τ:List U}{n:Nat}{s:St}{m:Int}(hm:m=0\/m=1){l:List Th}(h:KP τ n (HI s m l)):ai τ (n+mq m)=.rows 4 (l.map br):=by
 rcases hm with rfl|rfl
 ·exact h 4 _ rfl
 ·exact h 9 _ rfl
theorem KP.set{τ:List U}{n:Nat}{s:St}{m:Int}(hm:m=0\/m=1){l l':List Th}(h:KP τ n (HI s m l)):KP (τ.set (n+mq m) (.rows 4 (l'.map br))) n (HI s m l'):=by
 have d:=Yb (h.un hm);intro i x b;have f:i<11:=(eS b).1;by_cases e:i=mq m
 ·subst e;rw[Zc _ d];rcases hm with rfl|rfl<;>(cases b;rfl)
 ·have j:(hJ (HI s m l))[i]?=some x:=by
   rw[<-b];rcases hm with rfl|rfl
   ·match i,e with
    |0,_|1,_|2,_|3,_|5,_|6,_|7,_|8,_|9,_|10,_=>rfl
    |i+11,_=>rfl
   ·match i,e with
    |0,_|1,_|2,_|3,_|4,_|5,_|6,_|7,_|8,_|10,_=>rfl
    |i+11,_=>rfl
  have h0:=h i x j;have o:n+i<τ.length:=by
   by_cases hd:x=.dead
   ·subst hd
    match i,f with
    |0,_|1,_|2,_|3,_|4,_|5,_|6,_|7,_|8,_|9,_|10,_=>cases b
   ·exact Yb h0 hd
  rw[Qb _ o (by omega)];exact h0
def I7(n:Nat):List Nat:=(Ao 11).map (n + ·)
theorem vY{n i:Nat}(h:i<11):n+i∈I7 n:=By.2 ⟨i,DW.2 h,rfl⟩
theorem Tk{n c:Nat}(h:c∈I7 n):n<=c/\c<n+11:=by obtain⟨i,b,rfl⟩:=By.1 h;rw[DW]at b;omega
theorem KP.sb{τ:List U}{n:Nat}{t:St}(h:KP τ n t):SB τ (I7 n) (jL t n) t:=SB.copy h λ_ b=>vY b
theorem KP.cells{τ:List U}{n:Nat}{t:St}(h:KP τ n t):gK (hp τ) (I7 n) (jL t n) (aH t):=
 ⟨.inl rfl,.inl rfl,.inl rfl,.inl rfl,.inl rfl,.inr (RI.own (h 0 _ rfl) (vY (i:=0) (by decide)) rfl),.inl rfl,.inl rfl,.inl rfl,.inl rfl,.inr (RI.own (h 1 _ rfl) (vY (i:=1) (by decide)) rfl),.inr (RI.own (h 2 _ rfl) (vY (i:=2) (by decide)) rfl),.inr (RI.own (h 3 _ rfl) (vY (i:=3) (by decide)) rfl),.inr (RT.own (h 4 _ rfl) (vY (i:=4) (by decide)) rfl),.inr (RI.own (h 5 _ rfl) (vY (i:=5) (by decide)) rfl),
  .inl rfl,.inl rfl,.inl rfl,.inr (RI.own (h 6 _ rfl) (vY (i:=6) (by decide)) rfl),.inr (RI.own (h 7 _ rfl) (vY (i:=7) (by decide)) rfl),.inr (RI.own (h 8 _ rfl) (vY (i:=8) (by decide)) rfl),.inr (RT.own (h 9 _ rfl) (vY (i:=9) (by decide)) rfl),.inr (RI.own (h 10 _ rfl) (vY (i:=10) (by decide)) rfl),trivial⟩
theorem KP.live{τ:List U}{n:Nat}{t:St}(h:KP τ n t):∀c∈I7 n,ai τ c≠.dead:=by
 intro c d;obtain⟨i,b,rfl⟩:=By.1 d;have b:=DW.1 b
 match i,b with
 |0,_|1,_|2,_|3,_|4,_|5,_|6,_|7,_|8,_|9,_|10,_=>rw[h _ _ rfl];simp
def ja(s:St)(m:Int):St:={ s.put m (Bw (s.side m))with bq:=false }
theorem Qdn(s:St):QH s=ja s s.mover:=rfl
def B'(s:St)(m:Int):St:={ s.put m { s.side m with aW:=min ((s.side m).most+1) 10,most:=min ((s.side m).most+1) 10 }with bq:=false }
theorem Zc4{s:St}{m:Int}(hm:m=0\/m=1)(n:Nat):jL (ja s m) n=jL (B' s m) n:=by
 rcases hm with rfl|rfl<;>simp[jL,CZ,ja,B',St.put,St.side,Bw]
theorem XdW{τ:List U}{s:St}{m:Int}{n:Nat}(hm:m=0\/m=1)(h:KP τ n (HI s m ((s.side m).af.map vU))):KP τ n (ja s m):=by
 rcases hm with rfl|rfl<;>exact h
theorem Zeh{s:St}{m:Int}(hm:m=0\/m=1):HI s m (s.side m).af=s:=by
 rcases hm with rfl|rfl<;>rfl
section
variable {m:Int} (hm:m=0\/m=1)
include hm
theorem Yej(q:Nat)(J:List U):Qo 2 8 [.ak q (0+7),O m] J=.ok (.ak q (vi m)) [] []:=by rcases hm with rfl|rfl<;>rfl
theorem QdD(s:St)(n:Nat):aO false (vi m+2) 1 (jL s n)=some (O (s.side m).most):=by rcases hm with rfl|rfl<;>rfl
theorem YcU(s:St)(n:Nat):aO false (vi m+6) 1 (jL s n)=some (.sl (n+mq m) 0 (s.side m).af.length false):=by rcases hm with rfl|rfl<;>rfl
theorem ZdE(s:St):aO false (vi m+6) 1 (aH s)=some (ly (s.side m).af):=by rcases hm with rfl|rfl<;>rfl
theorem QeF(s:St)(n:Nat)(x:Int):bW (vi m+2) [O x] (jL s n)=some (jL (s.put m { s.side m with most:=x }) n):=by rcases hm with rfl|rfl<;>rfl
theorem XeF(s:St)(n:Nat)(x:Int):bW (vi m+1) [O x] (jL s n)=some (jL (s.put m { s.side m with aW:=x }) n):=by rcases hm with rfl|rfl<;>rfl
theorem Xee(s:St)(d:Sd):(s.put m d).side m=d:=by rcases hm with rfl|rfl<;>rfl
end
def qQ(l:List Th)(i:Nat):List Th:=(l.take i).map vU++l.drop i
theorem Xew{l:List Th}{i:Nat}(h:i<l.length):(qQ l i)[i]?=some l[i]/\(qQ l i).set i (vU l[i])=qQ l (i+1):=by
 unfold qQ;have b:((l.take i).map vU).length=i:=by simp;omega
 constructor
 ·rw[Bc (by omega),b];simp[h]
 ·rw[List.set_append_right _ _ (by omega),b,Nat.sub_self,gB h,List.set_cons_zero,Yv l i h,A8,Cp];rfl
def Jb(d:List Int)(a:Int):Prop:=0<=a/\(a=0\/a<d.length)/\(d≠[]->a<d.length)
theorem Jb.zero(d:List Int):Jb d 0:=⟨by omega,.inl rfl,λh=>by cases d with|nil=>exact(h rfl).elim|cons x l=>simp⟩
@[reducible] def n4(l:List Int):Nat:=min 4 l.length
theorem Nb{b:Bk}{t:St}{n:Int}{v:I}(h:PC 63 [dd b,bN t,HH [],O n] v):PC 63 [dd b,bN t,.aq,O n] v:=by
 intro w M d f i j
 match d,j with
 |[v1,v2,v3,v4],⟨h1,h2,h3,h4,h5⟩=>exact h w M [v1,v2,v3,v4] f i ⟨h1,h2,Den.eZ 3 h3,h4,h5⟩
def tc(l:List Ev):Prop:=∀e∈l,e.aj.length<=60
theorem tc.app{l m:List Ev}(h:tc l)(k:tc m):tc (l++m):=λe he=>(Bd.1 he).elim (h e) (k e)
theorem TK(b:Bk)(s:St)(r:Int):tc [(bV b s r).2]:=by
 intro e he;rw[D1]at he;subst he;unfold bV;split<;>exact Bf _
theorem Qc8{b:Bk}(c6:(bO b).1=0):∀(n:Nat) {s:St} {ws:List Tr} {fu:Int} {l:List Ev} {N C:Nat},cu b N C s->(∀x∈ws,kX b x)->0<=fu->fu<=n->N+12000*(ws.length+bB s+1)<=1000000->C+200*(n+1)+14<=1000000->tc l->tc (YO b (n+1) s ws fu l).2.2.1:=by
 intro n
 induction n using Eu with|ind n j=>?_
 intro s ws fu l N C w hws T V X Y H;have hq:=Pk (b:=b) (N:=N) (C:=C) (by omega) (Xl s) s ws l (AO _) w;have hm:tc (quiet b (Xl s) s ws l).2.2:=by
  have key:∀(k:Nat) (s:St) (ws:List Tr) (l:List Ev),tc l->tc (quiet b k s ws l).2.2:=by
   intro k
   induction k with
   |zero=>intro s ws l h;exact h
   |succ k j=>
    intro s ws l h;unfold quiet;split
    ·exact h
    ·exact j _ _ _ (h.app λe he=>by rw[((XK (bc b s) s).2.1 e he).1];exact Bf _)
  exact key _ s ws l H
 have d:=O4 c6 (by omega:C+14<=1000000) (Xl s) s ws l w;generalize eq:quiet b (Xl s) s ws l=q at hq hm d;obtain⟨t,f,z⟩:=q;obtain⟨i,_,_,K,A,q7,q8⟩:=hq;have i:cu b N C t:=i
 replace d:bB t+f.length<=bB s+ws.length:=d
 have A:f=ws++K:=A;have hm:tc z:=hm;have B:∀x∈f,kX b x:=by grind
 rw[PE n fu eq];by_cases D:XA t≠0
 ·rw[aE D];exact hm.app (TK _ _ _)
 rw[aB D];cases f with
 |nil=>exact hm
 |cons x wr=>
  simp only;by_cases E:fu=0
  ·rw[aE E];exact hm.app (TK _ _ _)
  rw[aB E];by_cases F:Xs b x.side (fu-1) (bG b x)=true
  ·rw[aE F];intro e he;cases he
  rw[aB F];have L:nD b (bG b x)=true:=by simp_all [Xs]
  obtain⟨_,xL⟩:=Ds L;have o:=B x (by simp)
  replace d:bB t+(wr.length+1)<=bB s+ws.length:=d
  have hrh:=Iu b x.side (-1) (bG b x) 1 t (fu-1) (S0 c6 o);obtain⟨k1,k2⟩:=zy (b:=b) (tg:=-1) o.2.2 (bG b x) (fu-1) i (by omega) (by omega);have k1:=k1.mono (N':=N+12000) (C':=C+200) (by omega) (by omega);have Q:=HQ b x.side (-1) (bG b x) t (fu-1) (by omega);have R:=Ou (b:=b) (tg:=-1) o.2.2 (bG b x) (fu-1) i (by omega) (by omega);generalize runs b x.side (-1) (bG b x) t (fu-1)=r at *;have G:tc (z++[pJ x]++r.2.2.2):=(hm.app λe he=>by rw[D1]at he;subst he;exact Bf _).app R;by_cases h0:r.1=0
  ·rw[aE h0];obtain⟨p,rfl⟩:∃p,n=p+1:=⟨n-1,by omega⟩;exact j p (by omega) k1 (λy S=>B y (by simp[S])) Q.1 (by omega) (by omega) (by omega) G
  rw[aB h0];by_cases h1:r.1=190
  ·rw[aE h1];exact G.app (TK _ _ _)
  ·rw[aB h1];intro e he;cases he
theorem YdF{b:Bk}{s:St}{row:List Tr}{fu:Int}{N C:Nat}(hT:TB N s)(hC:Xj s<=C)(hN:aJ (bO b).1 b s true=true->N+12000*(row.length+bB s+1)<=1000000)(i:C+200*((Xm fu).toNat+1)+14<=1000000):tc (bK b s row fu).2.2.1:=by
 have j:0<=Xm fu:=by unfold Xm;omega
 unfold bK;by_cases q:(decide ((row.length:Int)>1000) || !aJ (bO b).1 b s true)=true
 ·rw[aE q];intro e he;cases he
 rw[aB q];have hq:(decide ((row.length:Int)>1000) || !aJ (bO b).1 b s true)=false:=by simpa using q
 simp only[Ct,pI,FI]at hq;obtain⟨o,p⟩:=Qs.1 hq.2;by_cases d:row.any (rY b)=true
 ·rw[aE d];intro e he;cases he
 rw[aB d];have r:∀x∈row,kX b x:=by simp_all [Td]
 by_cases f:s.phase=2
 ·rw[aE f];intro e he;cases he
 rw[aB f];exact Qc8 o (Xm fu).toNat ⟨p,hT,hC⟩ r j (by omega) (hN hq.2) i (λe he=>by cases he)
theorem XbQ{b:Bk}:∀(n:Nat) (s:St) (ws:List Tr) (fu:Int) (l:List Ev),(YO b n s ws fu l).1=0\/((YO b n s ws fu l).2.1=eG/\(YO b n s ws fu l).2.2.1=[])
 |0,_,_,_,_=>.inl rfl
 |n+1,s,ws,fu,l=>by
  unfold YO;split
  ·exact .inl rfl
  split
  ·exact .inl rfl
  split
  ·exact .inl rfl
  split
  ·exact .inr ⟨rfl,rfl⟩
  split
  ·exact XbQ n ..
  split
  ·exact .inl rfl
  ·exact .inr ⟨rfl,rfl⟩
theorem ZdF(b:Bk)(s:St)(row:List Tr)(fu:Int):(bK b s row fu).1=0\/((bK b s row fu).2.1=eG/\(bK b s row fu).2.2.1=[]):=by
 unfold bK;split
 ·exact .inr ⟨rfl,rfl⟩
 split
 ·exact .inr ⟨rfl,rfl⟩
 split
 ·exact .inl rfl
 ·exact XbQ ..
theorem YcB(b:Bk)(s:St)(row:List Tr)(fu:Int):bK b s row fu=bK b s row (Xm fu):=by
 have:Xm (Xm fu)=Xm fu:=by unfold Xm;omega
 unfold bK;rw[this]
theorem Re{b:Bk}{s:St}{row:List Tr}{fu:Int}{N C:Nat}(hT:TB N s)(hC:Xj s<=C)(hN:aJ (bO b).1 b s true=true->N+12000*(row.length+bB s+1)<=1000000)(d:C+200*((Xm fu).toNat+1)+14<=1000000):ba 1000000000 (bK b s row fu).2.1/\(bK b s row fu).2.2.1.length<=100000000:=by
 rcases ZdF b s row fu with e|⟨f,i⟩
 ·have j:0<=Xm fu/\Xm fu<=1000:=by unfold Xm;omega
  rw[YcB]at e ⊢;obtain⟨_,k,_,_,_,k2,_⟩:=TE hT hC j hN d e;exact⟨k.ni,by omega⟩
 ·rw[f,i];exact⟨⟨Bf _,⟨Bf _,Bf _,Bf _,Bf _,Bf _⟩,⟨Bf _,Bf _,Bf _,Bf _,Bf _⟩⟩,Bf _⟩
theorem GR.sq{B:Nat}{l:List Tr}{v:I}{J:List U}(h:GR 3 eP B l v J):∃rd,(∀c∈rd,B<=c/\ai J c≠.dead)/\aA (hp J) rd v (HH l):=by
 rcases h with ⟨rfl,rfl⟩|⟨c,rfl,h2,h3⟩
 ·exact⟨[],by simp,aA.d_ (aA.ro rfl) (λM u d=>d.eZ 3)⟩
 ·refine⟨[c],by simp[h2,h3],aA.d_ (aA.sl (rs:=l.map eP) (rs':=l.map eP) (Zw h3 (by simp)) (by simp) (by simp) (by simp) (λi row row' b f=>?_)) (λM u d=>d.g_)⟩;rw[Al]at b;rw[b]at f;cases f;obtain⟨x,_,rfl⟩:=By.1 (Au b);exact bA.ro rfl
theorem Qe3{e f:Ev}(he:e.aj=[]){m:List Ev}{c:Nat}{J:List U}(h:ai J c=.rows 7 ([c_ e .aq,cS f]++m.map cS)):LO (λ_=>True) ([e,f]++m) (.sl c 0 ([e,f]++m).length false) J:=by
 refine .inr ⟨c,_,rfl,h,by simp,λi row x b d=>?_⟩
 match i with
 |0=>cases b;cases d;exact⟨_,rfl,.inr (.inl ⟨rfl,he⟩)⟩
 |1=>cases b;cases d;exact⟨_,rfl,.inl rfl⟩
 |i+2=>
  have b:(m.map cS)[i]?=some row:=b;have d:m[i]?=some x:=d;rw[Ba,d]at b;cases b;exact⟨_,rfl,.inl rfl⟩
theorem Rw(J:List U)(e:Int):∃rd,aA (hp J) rd (.bw [.agg aU,.aq,O 0,O e]) (jW (e,eG,[],0)):=
 ⟨[],aA.bw (.cons SB.zero.agg (.cons (aA.nl 7) (bA.ro rfl)))⟩
theorem YeS(n by_:Nat){J:List U}{b len:Nat}{ex:Bool}{rs ys:List (List I)}{y:I}{rd:List Nat}(hb:ai J b=.rows n rs)(hl:rs.length=len)(hy:Yl n J y=some (ys,rd))(hr:a_ ys=true)(d:(2*(len+ys.length)+192)*by_<=2 ^ 48) :
  Yh n by_ [.sl b 0 len ex,y] J=.ok (.sl J.length 0 (len+ys.length) false) rd ([(b,.dead)]++[(J.length,.rows n (rs++ys))]):=by
 have h2:=AH d;have:Yh n by_ [.sl b 0 len ex,y] J=Qz n by_ J rs [(b,.dead)] y:=by
  simp[Yh,yU,hb,hl]
 rw[this];unfold Qz;simp only[hy,hr,h2,C2,cond_true,hl]
theorem Zdo(s:St)(m:Int):(ja s m).turn=s.turn/\(ja s m).mover=s.mover:=by unfold ja St.put;split<;>exact⟨rfl,rfl⟩
theorem u96(b:Bk)(s:St)(hf:aN b=true)(bn:Yg b.aj)(iY:aJ (bO b).1 b s true=true->b.aj.length<=61)(hs:ba 1000000000 s)(fu:Int)(N C:Nat)(hT:TB N s)(hC:Xj s<=C)(hN:N+1+12000*22<=1000000)(oV:C+200*((Xm fu).toNat+1)+14<=1000000) :
  PC 34 [dd b,bN s,O fu] (jW (eV b s fu)):=by
 refine Zo hP g34.ok rfl ?_;rw[H3.e];unfold g34;dsimp only;refine au ?_;simp only[A1,Cb,Cm,Cz,Al,Nat.reduceAdd];by_cases hp:s.phase=1
 ·have A:eV b s fu=(170,eG,[],0):=by unfold eV;rw[hp];simp
  rw[show (s.phase==1)=true by simpa using hp,A];refine au ?_;exact Rw _ _
 rw[show (s.phase==1)=false by simpa using hp];refine Xq (Xe hP (f:=61) rfl g61.ok rfl (w209 b hf bn s hs rfl rfl λF a=>?_));have j:=a.get (c:=0) rfl (by simp) (by simp);have o:=a.get (c:=1) rfl (by simp) (by simp);have d:=a.get (c:=2) rfl (by simp) (by simp);have l0:=a.1;clear a
 replace j:ai F 0=.box (cf b):=j
 replace o:ai F 1=.box (aH s):=o
 replace d:ai F 2=.box aU:=d
 replace l0:3<=F.length:=l0
 cases hm:aJ (bO b).1 b s true with
 |false=>
  have A:eV b s fu=(170,eG,[],0):=by unfold eV;rw[hm];rfl
  rw[A];refine av ?_;refine ay ?_;refine av ?_;refine Z5 d rfl rfl rfl λτ6 P k1 kr1=>?_;exact Zp (Z9 P rfl) (Rw _ _)
 |true=>
 obtain⟨c6,Q⟩:=Qs.1 hm;have jY:=iY hm;refine ay ?_;refine av ?_;refine w59 hs (SB.ro (rd:=[]) s) ?_;have w:KP (F++hJ s) F.length s:=λi x hx=>by
  have hi:i<11:=(eS hx).1;exact Qp (by rw[Bc (by omega)];simpa using hx)
 have j:=Zb (hJ s) j;have o:=Zb (hJ s) o;have d:=Zb (hJ s) d;have e2:(F++hJ s).length=F.length+11:=by simp[hJ,rU]
 generalize F++hJ s=τ0 at *;generalize F.length=n at *;refine Z5 o rfl rfl rfl λτ1 hq k1 El=>?_
 replace hq:ai τ1 1=.box (jL s n):=hq
 have j:=k1.box j (by decide);have d:=k1.box d (by decide);have w:=w.mono El;have l1:=k1.1;clear k1 El o;refine av (Ya (λS=>?_) (λS=>?_))
 ·have S:s.phase=2:=by simpa using S
  have A:eV b s fu=(0,s,[],Xm fu):=by unfold eV;rw[hm,gA hp];rw[aB (by simp),aE S]
  rw[A];refine Z (ld hq rfl) (Z5 d rfl rfl rfl λτ1 P k1 T=>?_);refine Zp (Z9 P rfl) ?_;exact⟨_,aA.bw (.cons (w.mono T).sb.agg (.cons (aA.nl 7) (bA.ro rfl)))⟩
 have S:s.phase≠2:=by simpa using S
 have A:eV b s fu=if (aT (QH s) s.mover).2.2≠0 then ((aT (QH s) s.mover).2.2,eG,[],0)else
  let r:=bK b (aT (QH s) s.mover).1 (fk b s.mover ((aT (QH s) s.mover).1.side s.mover).af) (Xm fu)
  if r.1≠0 then (r.1,eG,[],0)else (0,r.2.1,[P6 s,(aT (QH s) s.mover).2.1]++r.2.2.1,r.2.2.2):=by
  unfold eV;rw[hm,gA hp];rw[aB (by simp),aB S]
 have hO:cu b N C (QH s):=cu.dw ⟨Q,hT,hC⟩ hp;have h01:s.mover=0\/s.mover=1:=by have:=Q.hd.2.2.1;have:=Q.hd.2.2.2.1;omega
 have h43:=c18 b hf bn (QH s) hO.le (Qs.2 ⟨c6,hO.may⟩) s.mover h01;rw[Qdn]at *;obtain⟨m,em⟩:∃m,s.mover=m:=⟨_,rfl⟩;have abi:0<=(s.side m).most/\(s.side m).most<=10:=by rcases h01 with h|h<;>rw[<-em,h];exact Q.s0.most;exact Q.s1.most
 rw[em]at h43 A hO h01;refine Z rfl (Z (v:=O m) (by rw[<-em];exact ld hq rfl) ?_);refine Z rfl (Z (Yej h01 ..) (Z rfl (Z rfl (Z (ld hq (QdD h01 s n)) (Z (Qi ..) (Z (YU ..) ?_))))));rw[Bb _ (by omega)];refine Z rfl (Z rfl ?_);refine Z5 hq rfl rfl (QeF h01 s n _) λτ2 hq k2 MW=>?_;refine Z rfl (Z rfl (Z (ld hq (QdD h01 _ n)) ?_));rw[Xee h01];refine Z rfl (Z rfl ?_);refine Z5 hq rfl rfl (XeF h01 _ n _) λτ3 hq k3 kk3=>?_;refine Z rfl (Z5 hq rfl rfl rfl λτ4 hq k4 kk4=>?_)
 replace hq:ai τ4 1=.box (jL (ja s m) n):=by rw[Zc4 h01,hq];rcases h01 with rfl|rfl<;>rfl
 have l3:n+11<=τ4.length:=by have:=k2.1;have:=k3.1;have:=k4.1;omega
 have j:=k4.box (k3.box (k2.box j (by decide)) (by decide)) (by decide);have d:=k4.box (k3.box (k2.box d (by decide)) (by decide)) (by decide);have w:=((w.mono MW).mono kk3).mono kk4;clear k2 MW k3 kk3 k4 kk4 e2 l1;have hlen:(s.side m).af.length<=7:=by rcases h01 with rfl|rfl;exact Q.s0.af;exact Q.s1.af
 have hUm:((ja s m).side m).af.length=(s.side m).af.length:=by rcases h01 with rfl|rfl<;>simp[ja,St.put,St.side,Bw]
 refine Z rfl (Z rfl (Z (ld hq (YcU h01 _ n)) (Z rfl ?_)));rw[hUm];refine Zh (ι:=Nat) (λi vs V=>vs=[O i]/\i<=(s.side m).af.length/\ai V 0=.box (cf b)/\ai V 2=.box aU/\ai V 1=.box (jL (ja s m) n)/\KP V n (HI s m (qQ (s.side m).af i))/\n+11<=V.length) (λi=>(s.side m).af.length-i) 0 ⟨rfl,by omega,j,d,hq,by rw[show qQ (s.side m).af 0=(s.side m).af from rfl,Zeh h01];exact w,l3⟩ ?_;rintro i _ V again ⟨rfl,hi,j,d,hq,w,l3⟩ X;refine Z (Xy ..) (ZT (λh=>?_) (λh=>?_))
 ·obtain⟨f1,f2⟩:=Xew h;refine Z rfl (Z rfl (Z (ld hq (YcU h01 _ n)) ?_));refine Z (Y9 _ _ 0 _ _ _ _ _ i (by omega) (w.un h01)) (Z rfl ?_);rw[Al];refine Qd (YdY false (w.un h01) f1) (Ye _ (Yb (w.un h01))) ?_;have hb:=Yb (w.un h01);have ne:∀c,c=0\/c=1\/c=2->c≠n+mq m:=by rcases h01 with rfl|rfl<;>(intro c hc;simp[mq];omega)
  refine Z (Qi ..) ?_;rw[Zd (n:=i) (by omega)];have D4:=w.set h01 (l':=qQ (s.side m).af (i+1));rw[<-f2]at D4;exact X (i+1) _ _ (by omega) ⟨rfl,by omega,by rw[Qb _ (by omega) (ne _ (by omega))];exact j,by rw[Qb _ (by omega) (ne _ (by omega))];exact d,by rw[Qb _ (by omega) (ne _ (by omega))];exact hq,by rw[<-f2];exact D4,by simpa using l3⟩
 subst h;rw[show qQ (s.side m).af (s.side m).af.length=(s.side m).af.map vU by simp[qQ]]at w;have w:=XdW h01 w;have eT:P6 s=⟨0,m,0,0,0,s.turn,[]⟩:=by unfold P6;rw[em]
 rw[eT]at A;clear X;refine Z (ld j rfl) (Z (ld hq rfl) (Z rfl (Z (v:=O m) (by rw[<-em,<- (Zdo s m).2];exact ld hq rfl) ?_)));refine Xbk (rd:=I7 n) (row':=aH (ja s m)) h43 rfl g62.ok.plain (.cons (aA.ro rfl) (.cons w.sb.agg (bA.ro rfl))) w.live hq (λe=>by have:=Tk e;omega) w.cells λυ2 hq L Y=>?_;have j:ai υ2 0=.box (cf b):=by rw[Y 0 (by omega) (by decide) (λe=>by have:=Tk e;omega)];exact j
 have d:ai υ2 2=.box aU:=by rw[Y 2 (by omega) (by decide) (λe=>by have:=Tk e;omega)];exact d
 clear w Y;have dS:=λe=>hO.draw (by omega) (by omega) h01 e;have Wu:=Zdo s m;rw[em]at Wu;generalize aT (ja s m) m=r at *;generalize ja s m=s1 at *;obtain⟨t,ev,e⟩:=r;dsimp only at *;refine av (Rz λυ3 z a3 e3=>?_);refine Rz λυ4 p a4 e4=>?_;have z:=a4.get z;have j:=(a3.trans a4).get j;have o:=(a3.trans a4).get hq;have d:=(a3.trans a4).get d;refine Z5 z rfl rfl rfl λυ5 z E kk5=>?_;have p:=E.box p;have j:=E.box j;have o:=E.box o;have d:=E.box d;refine Z5 p rfl rfl rfl λυ6 p k6 kk6=>?_;have z:=k6.box z;have j:=k6.box j;have o:=k6.box o;have d:=k6.box d;have l6:υ6.length >= υ2.length+2:=by have:=E.1;have:=k6.1;omega
 have lx4:υ2.length<υ3.length:=by omega
 generalize hx3:υ2.length=x3 at *;generalize hx4:υ3.length=x4 at *;refine Z (QM ..) (Ya (λhe=>?_) (λhe=>?_))
 ·have he:e≠0:=by simpa using he
  rw[aE he]at A;rw[A];refine av (Z5 d rfl rfl rfl λτ6 P k1 kr1=>?_);exact Zp (Z9 P rfl) (Rw _ _)
 have he:e=0:=by simpa using he
 subst he;rw[aB (by simp)]at A;have G:=dS rfl;clear dS hO
 replace z:ai υ6 x3=.box (aH t):=z
 replace p:ai υ6 x4=.box (cS ev):=p
 have hU7:(t.side m).af.length<=7:=by rcases h01 with rfl|rfl;exact G.may.s0.af;exact G.may.s1.af
 have hTr:=ZdW G h01;have hTl:=JV b m (t.side m).af;have huc:∀(i:Nat) (h:i<(t.side m).af.length),0<=(t.side m).af[i].card/\(t.side m).af[i].card<b.aj.length:=λi h=>O8 G.may h01 (Cv h);have D8:∀ {J:List U},ai J 1=.box (aH s1)->Xf false 1 [.ak 1 1] J=.ok (O m) [1] []:=λh=>by rw[<-Wu.2];exact ld h rfl
 refine Z rfl (Z (D8 o) (Z rfl (Z (Yej h01 ..) (Z rfl (Z (ld z (ZdE h01 t)) ?_)))));generalize hU:(t.side m).af=B at *;refine Z (v:=O B.length) (rd:=[]) (by simp[Yn]) (Zh (ι:=Nat) (λi vs D=>∃rv,vs=[O i,rv]/\i<=B.length/\GR 3 eP υ6.length (fk b m (B.take i)) rv D/\ai D 0=.box (cf b)/\ai D 1=.box (aH s1)/\ai D 2=.box aU/\ai D x3=.box (aH t)/\ai D x4=.box (cS ev)/\υ6.length<=D.length) (λi=>B.length-i) 0 ⟨.aq,rfl,by omega,.inl ⟨rfl,rfl⟩,j,o,d,z,p,by omega⟩ ?_);clear j o d z p;rintro i _ D again ⟨rv,rfl,hi,H,j,o,d,z,p,lφ⟩ X;refine Z (Xy ..) (ZT (λh=>?_) (λh=>?_))
 ·refine Zj λk83 ek=>?_;obtain⟨c,hc,L,Y⟩:=JG (b:=b) (huc i h);have cJ:=λ(J:List U)=>Zm J cM false false 12 b.aj .i64 c hc;rw[<-L]at cJ;have zj:fk b m (B.take (i+1))=fk b m (B.take i)++(if 0<b.aj[c].dw.length then [⟨B[i].card,m,true⟩]else []):=by rw[Yv B i h,YbI,Y]
  have hTk:=JV b m (B.take i);rw[List.length_take]at hTk;refine Z (Zm _ br false false 4 B .i64 i h) (ax (Rz λφ1 K a5 e5=>?_));have j:=a5.get j;have o:=a5.get o;have d:=a5.get d;have z:=a5.get z;have p:=a5.get p;have H:=H.cq (τ:=φ1) λc rs e=>a5.get e;refine Z5 (cs:=br B[i]) K rfl rfl rfl λφ2 K E kk5=>?_;have j:=E.box j;have o:=E.box o;have d:=E.box d;have z:=E.box z;have p:=E.box p;have H:=H.cq λc=>kk5 c 3;have l5:=E.1;refine av (Z (cJ _) (Z rfl (Z (v:=gE b.aj[c].dw) (bg rfl) ?_)));generalize b.aj[c].dw=dl at *;refine Z (v:=O dl.length) (rd:=[]) (by simp[Yn]) (Z (Y4 ..) (Ya (λhd=>?_) (λhd=>?_)))
  ·have hd:0<dl.length:=by simpa using hd
   rw[aE hd]at zj;refine Z rfl (Z (v:=O B[i].card) (ld K rfl) (Z rfl (Z (D8 o) (Z rfl ?_))));refine XdK H (by omega) ⟨B[i].card,m,true⟩ rfl rfl (by omega) λnv φ' H L Y q3=>?_;rw[ek];refine Z (Qi ..) ?_;rw[Zd (n:=i) (by omega)];exact X (i+1) _ _ (by omega) ⟨nv,rfl,by omega,by rw[zj];exact H,by rw[L 0 (by omega)];exact j,by rw[L 1 (by omega)];exact o,by rw[L 2 (by omega)];exact d,by rw[L x3 (by omega)];exact z,by rw[L x4 (by omega)];exact p,by omega⟩
  ·have hd:¬0<dl.length:=by simpa using hd
   rw[aB hd,DR]at zj;rw[ek];refine Z (Qi ..) ?_;rw[Zd (n:=i) (by omega)];exact X (i+1) _ _ (by omega) ⟨rv,rfl,by omega,by rw[zj];exact H,j,o,d,z,p,by omega⟩
 subst h;rw[C5]at H;clear X;have pK:Xm (Xm fu)=Xm fu:=by unfold Xm;omega
 have h92:=q92 b t hf bn (λ_=>jY) G.ni (fk b m B) (Xm fu) (N+1) C G.told G.aj (λ_=>by have:=Pg G.may;omega) (by rw[pK];exact oV);obtain⟨_,dg⟩:=Re (b:=b) (s:=t) (row:=fk b m B) (fu:=Xm fu) G.told G.aj (λ_=>by have:=Pg G.may;omega) (by rw[pK];exact oV);obtain⟨rd,cZ,nU⟩:=H.sq;refine Z (ld j rfl) (Z (ld z rfl) ?_);refine Ybk (rd:=rd) h92 rfl g63.ok.plain (.cons (aA.ro rfl) (.cons (aA.ro rfl) (.cons nU (bA.ro rfl)))) (λc hc=>(cZ c hc).2) ?_;have T:∀c x,ai D c=x->c<υ6.length->ai (iw D rd) c=x:=λc x h hc=>by rw[Ow rd D c (by omega) (λe=>by have:=(cZ c e).1;omega)];exact h
 have o:=T _ _ o (by omega);have d:=T _ _ d (by omega);have p:=T _ _ p (by omega);have lψ:=QP rd D;generalize iw D rd=ψ at *;clear H nU cZ T;generalize bK b t (fk b m B) (Xm fu)=R at *;obtain⟨e2,u,l,n⟩:=R;dsimp only at A dg;refine ay (Rz λψ1 K a5 e5=>?_);have o:=a5.get o;have d:=a5.get d;have p:=a5.get p;refine Z5 K rfl rfl rfl λψ2 K k9 kk9=>?_;have o:=k9.box o;have d:=k9.box d;have p:=k9.box p;have l9:=k9.1
 replace K:ai ψ2 ψ.length=.box (aH u):=K
 generalize hx5:ψ.length=x5 at *;refine Z (QM ..) (Ya (λhe=>?_) (λhe=>?_))
 ·have he:e2≠0:=by simpa using he
  rw[aE he]at A;rw[A];refine av (Z5 d rfl rfl rfl λτ6 P k1 kr1=>?_);exact Zp (Z9 P rfl) (Rw _ _)
 have he:e2=0:=by simpa using he
 rw[aB (by simpa using he)]at A;rw[A];refine Ze (ld K rfl) (Yd _) (Xd rfl (Ze (D8 o) (Yd _) (Xd rfl (Ze (v:=O s.turn) (by rw[<-Wu.1];exact ld o rfl) (Yd _) (Xd rfl (Ze (ld p rfl) (Yd _) ?_))))));refine Ze (v:=.sl ψ2.length 0 2 true) (rd:=[]) (up:=[(ψ2.length,.rows 7 [c_ ⟨0,m,0,0,0,s.turn,[]⟩ .aq,cS ev])]) rfl (Qf ψ2 _) ?_;have r3:=Xc ψ2 (.rows 7 [c_ ⟨0,m,0,0,0,s.turn,[]⟩ .aq,cS ev]);have a7:=dk.app ψ2 [.rows 7 [c_ ⟨0,m,0,0,0,s.turn,[]⟩ .aq,cS ev]];have l7:(ψ2++[U.rows 7 [c_ ⟨0,m,0,0,0,s.turn,[]⟩ .aq,cS ev]]).length=ψ2.length+1:=by simp
 have d:=a7.get d;have WY:x5<ψ2.length:=Yb K;have Sc:x4<ψ2.length:=Yb p;clear a7;generalize ψ2++[U.rows 7 [c_ ⟨0,m,0,0,0,s.turn,[]⟩ .aq,cS ev]]=ψ3 at *;generalize ψ2.length=k3 at *;refine Ze (YeS 7 72 (y:=.aX false false 7 (l.map cS)) (rd:=[]) r3 rfl (by simp[Yl]) (Zcx l) (by simp;omega)) (YK _ _ (by omega)) ?_;have r4:=Di (J:=ψ3) k3 (.rows 7 ([c_ ⟨0,m,0,0,0,s.turn,[]⟩ .aq,cS ev]++l.map cS));have d:ai (ψ3.set k3 .dead++[U.rows 7 ([c_ ⟨0,m,0,0,0,s.turn,[]⟩ .aq,cS ev]++l.map cS)]) 2=.box aU:=by
  rw[Zg _ (by simp;omega),Qb _ (by omega) (by omega)];exact d
 generalize ψ3.set k3 .dead ++ [U.rows 7 ([c_ ⟨0,m,0,0,0,s.turn,[]⟩ .aq,cS ev] ++ l.map cS)]=ψ4 at *;refine Qe0 (zb:=2) d (XH rfl) rfl rfl λψ5 d a10=>?_;refine Xo (by
  have n1:x5≠2:=by omega
  have n2:k3≠2:=by omega
  have n3:ψ3.length≠2:=by omega
  have n4:x4≠2:=by omega
  have n5:k3≠1:=by omega
  have n6:ψ3.length≠1:=by omega
  simp[Qg,Qj,Zl,Zs,bF,df,Ao,B0,n1,n2,n3,n4,n5,n6];omega) ?_
 refine Zp (Z9 d rfl) ?_;have r5:=a10.get r4 (by simp) (by simp;omega);have na:=Qe3 (e:=⟨0,m,0,0,0,s.turn,[]⟩) (f:=ev) rfl (m:=l) r5;rw[show ([⟨0,m,0,0,0,s.turn,[]⟩,ev]++l:List Ev).length=2+(l.map cS).length by simp;omega]at na;exact⟨Ao ψ5.length,aA.bw (.cons (aA.ro rfl) (.cons na.Iz (bA.ro rfl)))⟩
end Go.Ah.Tz
end
section
namespace Go.Ah
section
variable {P:Program} {GL:aw}
theorem tD.up{w0:World}{L:Ln}{g d:Gm}{R:KT}(hg:g.Le d):∀ {r:Result Next},tD P GL w0 L d R r->tD P GL w0 L g R r:=by
 intro r h;cases r with
 |ok i j=>
  cases i with
  |value u=>
   obtain⟨b,x,σ',k0,k1,k2,k3⟩:=h;exact⟨b,x,σ',k0,hg.trans k1,k2,k3⟩
  |skip=>
   obtain⟨b,σ',k0,k1,k2⟩:=h;exact⟨b,σ',k0,hg.trans k1,k2⟩
  |enter f args=>
   refine Calls.mono h ?_;rintro e o ⟨u,he,b,x,σ',k0,k1,k2,k3⟩;exact⟨u,he,b,x,σ',k0,hg.trans k1,k2,k3⟩
  |_=>exact h.elim
 |_=>exact h.elim
theorem bu.qW{w0:World}{L:Ln}{g:Gm}{h:Hp}{w:World}(r:bu GL w0 L g h w){rd:List Nat}(ct:∀b∈rd,∃aD,h b=some aD){k:Nat}{row row':List I}(hk:h k=some (.box row))(F:k∉rd)(hlen:row'.length=row.length)
 (G:∀(j:Nat) (x f:I),row[j]?=some x->row'[j]?=some f->f=x\/aA h rd x f):∃M,iJ g.M M/\bu GL w0 L ⟨M,g.c⟩ (dQ (cx h (gH rd)) k (.box row')) w:=by
 obtain⟨M,z,H,K⟩:=bu.sq g.c rd (M0:=g.M) r ct;have qk:wB g (gW h rd) w M:=⟨z,λb aD d o e A p s y=>K b (XI e A).1 aD d o (XI e A).2 A p s y⟩;have N:∀b∈rd,gW h rd b=h b:=λb Q=>by unfold gW;rw[aE Q]
 refine⟨M,z,?_⟩;obtain⟨d,p⟩:=r.jb k _ hk;have s:d.cI=false:=by
  cases e:d.cI with
  |false=>rfl
  |true=>have:=r.bd k _ d hk rfl p e;cases this
 obtain⟨_,_,o,y,arr,T,rfl,hs,R⟩:=r.own k _ d hk rfl p s;have S:cx h (gH rd) k=some (.box row):=by rw[UO rd h k F];exact hk
 refine H.write (w':=w) S rfl p s (blk':=.box row') rfl (o':=.cells arr T (0,0)) rfl rfl rfl ?_ ⟨arr,T,rfl,by rw[hs,hlen],λj f u B V=>?_⟩
 ·apply GP;intro i;by_cases C:i=d.aD
  ·subst C;rw[Fz (E1.1 y).1,y]
  ·rw[EF (λe=>C e.symm)]
 ·have X:j<row.length:=by rw[<-hlen];exact(eS B).1
  have D:row[j]?=some row[j]:=by simp[X]
  have E:=R j row[j] u D V;rcases G j row[j] f D B with rfl|Y
  ·exact Den.mono z E (fW.refl _)
  ·exact(Y GL w0 L g (gW h rd) w M (r.only rd) qk N u E).mono (iJ.refl _) (fW.bE _)
theorem Ycs{k:MK}{xs:List I}{rd:List Nat}{q:Nat}{row row':List I}{J:List U}{K:KT}(ct:∀b∈rd,ai J b≠.dead)(hq:ai J q=.box row)(s:q∉rd)(f:gK (hp J) rd row row')
 (h:∀d,ai d q=.box row'->J.length=d.length->(∀c,c<J.length->c≠q->c∉rd->ai d c=ai J c)->(W P GL).call k xs d K):(W P GL).call k xs J K:=by
 have i:=Yb hq;have x:h_ J (gH rd++[(q,.box row')])=some ((iw J rd).set q (.box row')):=by
  rw[PI _ _ _ _ (OP rd J (λb y=>Yb rfl (ct b y)))];exact Ye _ (by rw[QP];exact i)
 obtain⟨R,z,A⟩:=h ((iw J rd).set q (.box row')) (Tz.Zc _ (by rw[QP];exact i)) (by simp[QP]) (λc h1 h2 h3=>by rw[Tz.Qb _ (by rw[QP];exact h1) h2,Ow rd J c h1 h3]);refine⟨R,?_,A⟩;intro o os B C L g w a r D;obtain⟨M,E,j⟩:=r.qW (λc F=>⟨_,Zw rfl (ct c F)⟩) (Zw hq (by simp)) s f.len f.at;have p:g.Le ⟨M,g.c⟩:=⟨E,fW.refl _⟩;rw[<-TT,Ij _ _ _ x]at j;exact tD.up p (z o os B C L ⟨M,g.c⟩ w a j (D.mono p))
end
end Go.Ah
end
section
namespace Go.Ah.Tz
open Go.Proofs.Tryz (prog)
set_option maxRecDepth 100000
def OR(J:List U)(v:I)(l:List Int):Prop:=v=aM l\/(v=.aq/\l=[])\/∃c r,v=.sl c 0 l.length false/\ai J c=.rows 1 ((l++r).map aK)
def OU(J:List U)(v:I)(l:List Th):Prop:=v=ly l\/(v=.aq/\l=[])\/∃c r,v=.sl c 0 l.length false/\ai J c=.rows 4 ((l++r).map br)
variable{v:I}
theorem OR.cq{J τ:List U}{l:List Int}(h:OR J v l)(hk:∀c rs,ai J c=.rows 1 rs->ai τ c=.rows 1 rs):OR τ v l:=by
 rcases h with h|h|⟨c,r,h1,h2⟩
 ·exact .inl h
 ·exact .inr (.inl h)
 ·exact .inr (.inr ⟨c,r,h1,hk _ _ h2⟩)
theorem OU.cq{J τ:List U}{l:List Th}(h:OU J v l)(hk:∀c rs,ai J c=.rows 4 rs->ai τ c=.rows 4 rs):OU τ v l:=by
 rcases h with h|h|⟨c,r,h1,h2⟩
 ·exact .inl h
 ·exact .inr (.inl h)
 ·exact .inr (.inr ⟨c,r,h1,hk _ _ h2⟩)
@[reducible] def I6(b:Bk)(cs:List I)(a:Ac)(lv:I)(fu:Int):List I:=cf b++(cs++(iK a++[lv,O fu]))
structure PS (J:List U) (pb:Nat) (b:Bk) (t:St) (a:Ac) (l:List Ev) (fu:Int) (q d0 h0 g0 u0 t0 d1 h1 g1 u1 t1 lv:I):Prop where
 box:ai J pb=.box (I6 b (ui t q d0 h0 g0 u0 t0 d1 h1 g1 u1 t1) a lv fu)
 q:OR J q t.an
 d0:OR J d0 t.s0.az
 h0:OR J h0 t.s0.hand
 g0:OR J g0 t.s0.ao
 u0:OU J u0 t.s0.af
 t0:OR J t0 t.s0.told
 d1:OR J d1 t.s1.az
 h1:OR J h1 t.s1.hand
 g1:OR J g1 t.s1.ao
 u1:OU J u1 t.s1.af
 t1:OR J t1 t.s1.told
 lv:LO (λ_=>False) l lv J
def PL(J:List U)(d:Nat)(b:Bk)(t:St)(a:Ac)(l:List Ev)(fu:Int):Prop:=∃q d0 h0 g0 u0 t0 d1 h1 g1 u1 t1 lv,PS J d b t a l fu q d0 h0 g0 u0 t0 d1 h1 g1 u1 t1 lv
def PT(J:List U)(d:Nat)(b:Bk)(t:St)(a:Ac)(l:List Ev)(fu:Int):Prop:=∃lv,ai J d=.box (I6 b (aH t) a lv fu)/\LO (λ_=>False) l lv J
variable{fu m kd k id side:Int}
theorem PT.cq{J τ:List U}{d:Nat}{b:Bk}{t:St}{a:Ac}{l:List Ev}(h:PT J d b t a l fu)(hk:∀c n rs,ai J c=.rows n rs->ai τ c=.rows n rs)(hb:∀row,ai J d=.box row->ai τ d=.box row):PT τ d b t a l fu:=by
 obtain⟨lv,h1,h2⟩:=h;exact⟨lv,hb _ h1,h2.mono hk⟩
theorem OR.tr{J:List U}{l:List Int}(h:OR J v l){rd:List Nat}(hr:∀c∈ow v,c∈rd):aM l=v\/aA (hp J) rd v (aM l):=by
 rcases h with rfl|⟨rfl,rfl⟩|⟨c,r,rfl,h2⟩
 ·exact .inl rfl
 ·exact .inr RI.aq
 ·exact .inr (T' h2 (hr _ (by simp[ow])) rfl)
theorem OU.tr{J:List U}{l:List Th}(h:OU J v l){rd:List Nat}(hr:∀c∈ow v,c∈rd):ly l=v\/aA (hp J) rd v (ly l):=by
 rcases h with rfl|⟨rfl,rfl⟩|⟨c,r,rfl,h2⟩
 ·exact .inl rfl
 ·exact .inr RT.aq
 ·exact .inr (Tj h2 (hr _ (by simp[ow])) rfl)
def mw(rs:List (List I)):Prop:=∃f b d rest,rs=[.func f b d]::rest
theorem mw.no{l:List Int}(h:mw (l.map aK)):False:=by
 obtain⟨f,b,d,rest,e⟩:=h;cases l with
 |nil=>cases e
 |cons x l=>cases e
theorem OR.aD{J:List U}{l:List Int}(h:OR J v l):∀c∈ow v,∃rs,ai J c=.rows 1 rs/\¬mw rs:=by
 rcases h with rfl|⟨rfl,rfl⟩|⟨c,r,rfl,h2⟩
 ·simp[ow]
 ·simp[ow]
 ·simp only[ow,D1,forall_eq];exact⟨_,h2,mw.no⟩
theorem OU.aD{J:List U}{l:List Th}(h:OU J v l):∀c∈ow v,∃rs,ai J c=.rows 4 rs:=by
 rcases h with rfl|⟨rfl,rfl⟩|⟨c,r,rfl,h2⟩
 ·simp[ow]
 ·simp[ow]
 ·simpa[ow]using ⟨_,h2⟩
variable{K:KT}
theorem Ji{J:List U}{x:Nat}{b:Bk}{t:St}{a:Ac}{l:List Ev}(h:PL J x b t a l fu){k:MK}{xs:List I}
 (z:∀p,PT p x b t a l fu->J.length=p.length->(∀c row,c≠x->ai J c=.box row->ai p c=.box row)->(∀c rs,mw rs->ai J c=.rows 1 rs->ai p c=.rows 1 rs)->VV.call k xs p K):VV.call k xs J K:=by
 obtain⟨q,d0,h0,g0,u0,t0,d1,h1,g1,u1,t1,lv,P⟩:=h;have f:∀v,v∈[q,d0,h0,g0,u0,t0,d1,h1,g1,u1,t1]->∀c∈ow v,c∈[q,d0,h0,g0,u0,t0,d1,h1,g1,u1,t1].flatMap ow:=λv w c o=>IY.2 ⟨v,w,o⟩;have r:∀c∈[q,d0,h0,g0,u0,t0,d1,h1,g1,u1,t1].flatMap ow,∃n rs,ai J c=.rows n rs/\n≠7/\(n=1->¬mw rs):=by
  intro c o;obtain⟨v,w,j⟩:=IY.1 o;simp only[Az,EZ,or_false]at w;rcases w with rfl|rfl|rfl|rfl|rfl|rfl|rfl|rfl|rfl|rfl|rfl
  ·obtain⟨rs,e,e3⟩:=P.q.aD c j;exact⟨1,rs,e,by decide,λ_=>e3⟩
  ·obtain⟨rs,e,e3⟩:=P.d0.aD c j;exact⟨1,rs,e,by decide,λ_=>e3⟩
  ·obtain⟨rs,e,e3⟩:=P.h0.aD c j;exact⟨1,rs,e,by decide,λ_=>e3⟩
  ·obtain⟨rs,e,e3⟩:=P.g0.aD c j;exact⟨1,rs,e,by decide,λ_=>e3⟩
  ·obtain⟨rs,e⟩:=P.u0.aD c j;exact⟨4,rs,e,by decide,λh=>absurd h (by decide)⟩
  ·obtain⟨rs,e,e3⟩:=P.t0.aD c j;exact⟨1,rs,e,by decide,λ_=>e3⟩
  ·obtain⟨rs,e,e3⟩:=P.d1.aD c j;exact⟨1,rs,e,by decide,λ_=>e3⟩
  ·obtain⟨rs,e,e3⟩:=P.h1.aD c j;exact⟨1,rs,e,by decide,λ_=>e3⟩
  ·obtain⟨rs,e,e3⟩:=P.g1.aD c j;exact⟨1,rs,e,by decide,λ_=>e3⟩
  ·obtain⟨rs,e⟩:=P.u1.aD c j;exact⟨4,rs,e,by decide,λh=>absurd h (by decide)⟩
  ·obtain⟨rs,e,e3⟩:=P.t1.aD c j;exact⟨1,rs,e,by decide,λ_=>e3⟩
 generalize [q,d0,h0,g0,u0,t0,d1,h1,g1,u1,t1].flatMap ow=rd at *;refine Ycs (rd:=rd) (row':=I6 b (aH t) a lv fu) (λc o e=>by obtain⟨n,rs,d,_⟩:=r c o;rw[e]at d;cases d) P.box (λo=>by obtain⟨n,rs,d,_⟩:=r _ o;rw[P.box]at d;cases d)
  ⟨.inl rfl,.inl rfl,.inl rfl,.inl rfl,.inl rfl,.inl rfl,.inl rfl,P.q.tr (f _ (by simp)),.inl rfl,.inl rfl,.inl rfl,.inl rfl,P.d0.tr (f _ (by simp)),P.h0.tr (f _ (by simp)),P.g0.tr (f _ (by simp)),P.u0.tr (f _ (by simp)),P.t0.tr (f _ (by simp)),.inl rfl,.inl rfl,.inl rfl,P.d1.tr (f _ (by simp)),P.h1.tr (f _ (by simp)),P.g1.tr (f _ (by simp)),P.u1.tr (f _ (by simp)),P.t1.tr (f _ (by simp)),.inl rfl,.inl rfl,.inl rfl,.inl rfl,.inl rfl,.inl rfl,.inl rfl,.inl rfl,trivial⟩
  λp A B y=>z p ⟨lv,A,?_⟩ B (λc row o e=>by
   rw[y c (Yb e) o (λs=>by obtain⟨n,rs,d,_⟩:=r c s;rw[e]at d;cases d)];exact e) λc rs hf e=>by
   rw[y c (Yb e) (by rintro rfl;rw[P.box]at e;cases e) (λs=>by obtain⟨n,rs2,d,_,C⟩:=r c s;rw[e]at d;cases d;exact C rfl hf)];exact e
 have D:∀c rs,ai J c=.rows 7 rs->ai p c=.rows 7 rs:=λc rs e=>by
  rw[y c (Yb e) (by rintro rfl;rw[P.box]at e;cases e) (λs=>by obtain⟨n,rs2,d,e3,_⟩:=r c s;rw[e]at d;cases d;exact e3 rfl)];exact e
 rcases P.lv with e|⟨c,rows,E,d,e3⟩
 ·exact .inl e
 ·refine .inr ⟨c,rows,E,D _ _ d,e3.1,λi row e F G=>?_⟩;obtain⟨H,L,f2⟩:=e3.2 i row e F G;refine⟨H,L,?_⟩;rcases f2 with f2|f2|⟨_,_,_,f2⟩
  ·exact .inl f2
  ·exact .inr (.inl f2)
  ·exact f2.elim
theorem PL.cq{J τ:List U}{d:Nat}{b:Bk}{t:St}{a:Ac}{l:List Ev}(h:PL J d b t a l fu)(hk:∀c n rs,ai J c=.rows n rs->ai τ c=.rows n rs)(hb:∀row,ai J d=.box row->ai τ d=.box row):PL τ d b t a l fu:=by
 obtain⟨q,d0,h0,g0,u0,t0,d1,h1,g1,u1,t1,lv,P⟩:=h;exact⟨q,d0,h0,g0,u0,t0,d1,h1,g1,u1,t1,lv,hb _ P.box,P.q.cq λc=>hk c 1,P.d0.cq λc=>hk c 1,P.h0.cq λc=>hk c 1,P.g0.cq λc=>hk c 1,P.u0.cq λc=>hk c 4,P.t0.cq λc=>hk c 1,P.d1.cq λc=>hk c 1,P.h1.cq λc=>hk c 1,P.g1.cq λc=>hk c 1,P.u1.cq λc=>hk c 4,P.t1.cq λc=>hk c 1,P.lv.mono hk⟩
attribute [local irreducible] aI.rd aI.pu aI.wr aI.dr aI.gr aI.gw aI.gl aI.gd aI.opt c8 W
set_option maxHeartbeats 8000000
theorem p325{J:List U}{f:Nat}{b:Bk}{t:St}{a:Ac}{l:List Ev}(h:PT J f b t a l fu)(s:St)(m:List Ev){rows:List (List I)}(hm:ER (λ_=>False) J rows m){y:I}{rd:List Nat}(hy:∀x,Yl 7 (J++[.box x]) y=some (rows,rd))(Y:f∉rd/\J.length∉rd)(hl:l.length+m.length<=1000000000)(e:Int)
 (p:∀j,(if e=0 then PT j f b s a (l++m) fu else PT j f b t a l fu)->J.length<=j.length->(∀c row,c≠f->ai J c=.box row->ai j c=.box row)->(∀c n d,n≠7->ai J c=.rows n d->ai j c=.rows n d)->K (O e) j) :
  g42.u VV [.ak f 0,bN s,y,O e] J K:=by
 rw[H4.e];unfold g42;dsimp only;refine Qd (v:=.ak J.length 0) (rd:=[]) (up:=[(J.length,.box (aH s))]) rfl (Qf J _) (ag (qG (λhe=>?_) (λhe=>?_)));rotate_left
 ·simp only[aB he]at p;exact p _ (h.cq (λc n d e=>Qu _ e) (λrow e=>Zb _ e)) (by simp) (λc row _ e=>Zb _ e) λc n d _ e=>Qu _ e
 simp only[aE he]at p;obtain⟨lv,L,Pl⟩:=h;have wo:=Yb L;have hb:=Zb [.box (aH s)] L;have N:=Xc J (.box (aH s));have zh:=Pl.mono (τ:=J++[.box (aH s)]) λc n d e=>Qu _ e
 replace hm:=hm.mono (τ:=J++[.box (aH s)]) λc d e=>Qu _ e
 have hy:=hy (aH s);have hN:(J++[U.box (aH s)]).length=J.length+1:=by simp
 have P:∀c row,ai J c=.box row->ai (J++[.box (aH s)]) c=.box row:=λc row e=>Zb _ e;have Q:∀c n d,ai J c=.rows n d->ai (J++[.box (aH s)]) c=.rows n d:=λc n d e=>Qu _ e;generalize J++[U.box (aH s)]=σ1 at *;have o:J.length≠f:=by omega
 refine Ze (ld N rfl) (Yd _) (Xd rfl (Xd rfl (Ze (ld hb rfl) (Yd _) ?_)));have R:=λ(J:List U) (v:I) (r:LO (λ_=>False) (l++m) v J) (h:ai J f=.box (I6 b (aH s) a v fu))=>(⟨v,h,r⟩:PT J f b s a (l++m) fu);have hmr:=hm.a_;have S:=hm.1;have hr1:=qm Y.1;rcases zh with ⟨rfl,rfl⟩|⟨c,rws,rfl,h3,h4⟩
 ·refine Ze (PN 7 72 hy hmr (by simp at hl;omega)) (Qf σ1 _) ?_;have C:=Zb [U.rows 7 rows] hb;have r:LO (λ_=>False) ([]++m) (.sl σ1.length 0 rows.length false) (σ1++[U.rows 7 rows]):=.inr ⟨σ1.length,rows,by simp[S],Xc σ1 _,hm.mono λc d e=>Qu _ e⟩;have D:∀c row,ai σ1 c=.box row->ai (σ1++[U.rows 7 rows]) c=.box row:=λc row e=>Zb _ e;have E:∀c n d,ai σ1 c=.rows n d->ai (σ1++[U.rows 7 rows]) c=.rows n d:=λc n d e=>Qu _ e;have dg:(σ1++[U.rows 7 rows]).length=σ1.length+1:=by simp
  have F:σ1.length≠f:=by omega
  generalize σ1++[U.rows 7 rows]=σ2 at *;refine Xd rfl (Xd rfl (XW C (XH rfl) rfl rfl λσ3 G k3 w=>?_));refine Xd rfl (Xd rfl (XW G rfl rfl rfl λσ4 H z A=>?_));refine Xo (by simp[Qg,Qj,Zl,Zs,bF,df,Ao,B0,o,F,hr1];omega) ?_;exact p _ (R _ _ (r.mono λc n d e=>A _ _ _ (w _ _ _ e)) H) (by have:=k3.1;have:=z.1;omega) (λc row B e=>z.box (k3.box (D _ _ (P _ _ e)) (by simpa using B)) (by simpa using B)) λc n d _ e=>A _ _ _ (w _ _ _ (E _ _ _ (Q _ _ _ e)))
 ·have T:c≠f:=by rintro rfl;rw[hb]at h3;cases h3
  have V:c≠J.length:=by rintro rfl;rw[N]at h3;cases h3
  have mm:=Yb h3;refine Ze (Q5 7 72 (off:=0) (len:=l.length) h3 (by simp[h4.1]) hy hmr (by omega)) (YK _ _ mm) ?_;have C:ai (σ1.set c .dead++[U.rows 7 (rws.drop 0++rows)]) f=.box (I6 b (aH t) a (.sl c 0 l.length false) fu):=by rw[Zg _ (by simp;omega),Qb _ (by omega) (Ne.symm T)];exact hb
  have D:∀i row,ai σ1 i=.box row->ai (σ1.set c .dead++[U.rows 7 (rws.drop 0++rows)]) i=.box row:=λi row e=>by
   rw[Zg _ (by have:=Yb e;simp;omega),Qb _ (Yb e) (by rintro rfl;rw[h3]at e;cases e)];exact e
  have E:∀i n d,n≠7->ai σ1 i=.rows n d->ai (σ1.set c .dead++[U.rows 7 (rws.drop 0++rows)]) i=.rows n d:=λi n d o e=>by
   rw[Zg _ (by have:=Yb e;simp;omega),Qb _ (Yb e) (by rintro rfl;rw[h3]at e;cases e;exact o rfl)];exact e
  have X:∀i d,ai σ1 i=.rows 1 d->ai (σ1.set c .dead++[U.rows 7 (rws.drop 0++rows)]) i=.rows 1 d:=λi d e=>by
   rw[Zg _ (by have:=Yb e;simp;omega),Qb _ (Yb e) (by rintro rfl;rw[h3]at e;cases e)];exact e
  have r:LO (λ_=>False) (l++m) (.sl σ1.length 0 (l.length+rows.length) false) (σ1.set c .dead++[U.rows 7 (rws.drop 0++rows)]):=.inr ⟨σ1.length,rws++rows,by simp[S],by have:=Di (J:=σ1) c (.rows 7 (rws.drop 0++rows));simpa using this,(h4.mono X).app (hm.mono X)⟩;have dg:(σ1.set c .dead++[U.rows 7 (rws.drop 0++rows)]).length=σ1.length+1:=by simp
  have F:σ1.length≠f:=by omega
  generalize σ1.set c .dead++[U.rows 7 (rws.drop 0++rows)]=σ2 at *;refine Xd rfl (Xd rfl (XW C (XH rfl) rfl rfl λσ3 G k3 w=>?_));refine Xd rfl (Xd rfl (XW G rfl rfl rfl λσ4 H z A=>?_));refine Xo (by simp[Qg,Qj,Zl,Zs,bF,df,Ao,B0,o,F,T,V,V.symm,hr1];omega) ?_;exact p _ (R _ _ (r.mono λc n d e=>A _ _ _ (w _ _ _ e)) H) (by have:=k3.1;have:=z.1;omega) (λc row B e=>z.box (k3.box (D _ _ (P _ _ e)) (by simpa using B)) (by simpa using B)) λc n d o e=>A _ _ _ (w _ _ _ (E _ _ _ o (Q _ _ _ e)))
abbrev Sp:Int->I:=λn=>O n
def mc(b:Bk)(s:St)(l:List Th):List (Int×Int):=l.map λu=>(u.id,kK b s u.id)
theorem Zcj(b:Bk)(s:St)(l:List Th):(mc b s l).map (·.1)=l.map Th.id:=by simp[mc]
theorem Ycj(b:Bk)(s:St)(id:Int):∀l:List Th,(c7 id (mc b s l))=if id∈l.map Th.id then some (kK b s id)else none
 |[]=>rfl
 |u::l=>by
  show (if id==u.id then some (kK b s u.id)else c7 id (mc b s l))=_;by_cases e:id=u.id
  ·subst e;simp
  ·rw[aB (by simpa using e),Ycj b s id l];simp[e]
theorem Xea(b:Bk)(s:St)(id:Int):(c7 id (mc b s (s.s0.af++s.s1.af))).getD 0=kK b s id:=by
 rw[Ycj];split
 ·rfl
 ·rename_i h;refine(XdD ?_).symm;cases h2:(aC s id).2.2 with
  |false=>rfl
  |true=>
   obtain⟨k,u,_,h3,rfl,_⟩:=Tb h2;refine absurd ?_ h;have hm:=Au h3;rw[QG]at hm;refine By.2 ⟨u,?_,rfl⟩;split at hm<;>simp[hm]
structure zq (b:Bk) (s:St) (M:List (Int×Int)) (τ:List U):Prop where
 k0:ai τ 0=.box (cf b)
 k1:ai τ 1=.box (aH s)
 k2:ai τ 2=.box aU
 k3:ai τ 3=.map (jq Sp M)
theorem zq.app{b:Bk}{s:St}{M:List (Int×Int)}{τ:List U}(h:zq b s M τ)(l:List U):zq b s M (τ++l):=
 ⟨Zb _ h.k0,Zb _ h.k1,Zb _ h.k2,Zb _ h.k3⟩
theorem XdE(b:Bk)(hf:aN b=true)(z:Yg b.aj)(s:St)(hs:ba 1000000000 s)(hm:aJ (bO b).1 b s true=true)(d:List Th)(hU:d.length<=1000000000)(M:List (Int×Int))(hn:(M.map (·.1)++d.map Th.id).Nodup){τ:List U}(h0:zq b s M τ){K:List U->Prop}(A:∀τ',zq b s (M++mc b s d) τ'->K τ') :
  VV.loop (λB v31 J=>
  VV.rd (Qn .lss false [(Go.Ah.h0 v31),O d.length] J) λC=>
  VV.test C (
  VV.rd (Zi 4 [ly d,(Go.Ah.h0 v31)] J) λD=>
  VV.rd (Xf true 4 [D] J) λE=>
  VV.wr (Zt [(.int .i64 0),(.int .i64 0),(.int .i64 0),(.bool false)] [] J) J λf J=>
  VV.wr (Xh 4 [f,E] J) J λ_ J=>
  VV.rd (Xf true 2 [.ak 0 0] J) λF=>
  VV.rd (Xf true 23 [.ak 1 0] J) λG=>
  VV.rd (Qc 0 [f] J) λH=>
  VV.rd (Xf false 1 [H] J) λL=>
  VV.call (.call 75) [F,G,L] J λj J=>
  VV.rd (Zk 0 [j] J) λN=>
  VV.rd (Zk 1 [j] J) λaa0=>
  VV.rd (Zk 2 [j] J) λaa1=>
  VV.rd (Qc 0 [f] J) λP=>
  VV.rd (Xf false 1 [P] J) λQ=>
  VV.rd (H9 [N,(.int .i64 0)] J) λR=>
  VV.wr (XD false [.map 3,Q,R] J) J λ_ J=>
  VV.rd (Qn .add false [(Go.Ah.h0 v31),(.int .i64 1)] J) λS=>
  B [S] J) (K J)) [(.int .i64 0)] τ:=by
 refine Zh (ι:=Nat) (λi p τ=>p=[O i]/\i<=d.length/\zq b s (M++mc b s (d.take i)) τ) (λi=>d.length-i) 0 ⟨rfl,by omega,by simpa[mc]using h0⟩ ?_;clear h0;rintro i p τ again ⟨rfl,Y,h0⟩ T;refine Z (Xy ..) (ZT (λh=>?_) (λh=>?_))
 ·have r:d.take (i+1)=d.take i++[d[i]]:=by rw[Cq h]
  have w:=λ(t:List U)=>Zm t br false false 4 d .i64 i h;have x:c7 d[i].id (M++mc b s (d.take i))=none:=by
   have o:=Rc d[i].id (M++mc b s (d.take i));rw[A8,Zcj]at o;have:(M.map (·.1)++(d.take i).map Th.id).contains d[i].id=false:=by
    rw[<-List.take_append_drop i d,A8,<-Cp]at hn;have h3:=(Gf.1 hn).2.2;cases V:(M.map (·.1)++(d.take i).map Th.id).contains d[i].id with
    |false=>rfl
    |true=>
     refine absurd rfl (h3 d[i].id (by simpa using V) d[i].id (By.2 ⟨d[i],?_,rfl⟩));rw[gB h];exact EL
   rw[this]at o;simpa using o
  generalize d[i]=u at w r x;refine Z (w _) (Z (v:=.agg (br u)) (rd:=[]) (bg rfl) (Zq (row:=br u) (row':=br u) rfl rfl rfl ?_));have y:=Xc τ (U.box (br u));have h1:=h0.app [.box (br u)];refine Z (ld h1.k0 rfl) (Z (ld h1.k1 rfl) (Z rfl (Z (v:=O u.id) (ld y rfl) ?_)));refine bD (c54 b hf z s hs hm u.id) g75.ok (Z rfl (Z rfl (Z rfl (Z rfl (Z (v:=O u.id) (ld y rfl) (Z (vX ..) ?_))))));refine Qd (H_ Sp h1.k3 u.id (kK b s u.id) x) (Ye _ (Yb h1.k3)) (Z (Qi ..) ?_);rw[Zd (n:=i) (by omega)];refine T (i+1) _ _ (by omega) ⟨rfl,by omega,Qa h1.k0 (by simp) (by decide),Qa h1.k1 (by simp) (by decide),Qa h1.k2 (by simp) (by decide),?_⟩;rw[Zc _ (Yb h1.k3),r];simp[mc]
 ·subst h;rw[C5]at h0;exact A _ h0
inductive FS where
 |harm (id n:Int)
 |block (a d:Int)
def sn(b:Bk)(s:St)(l:List (Int×Int))(a:Int):List FS:=match tF l a with
 |none=>[.harm 0 (kK b s a)]
 |some p=>[.block a p.2,.harm p.2 (kK b s a),.harm a (kK b s p.2)]
def gR(b:Bk)(s:St)(l:List (Int×Int)):List Int->List FS
 |[]=>[]
 |a::r=>sn b s l a++gR b s l r
theorem Zce(b:Bk)(s:St)(l:List (Int×Int))(x y:List Int):gR b s l (x++y)=gR b s l x++gR b s l y:=by
 induction x with
 |nil=>rfl
 |cons a x d=>simp[gR,d]
theorem U_(b:Bk)(s:St)(l:List (Int×Int))(x:List Int):(gR b s l x).length<=3*x.length:=by
 induction x with
 |nil=>simp[gR]
 |cons a x d=>
  have:(sn b s l a).length<=3:=by unfold sn;split<;>simp
  simp[gR];omega
def k_(e:Ev):List I:=if e.kind=12 then la e else cS e
def ig(b:Bk)(mv:Int):List FS->St->List Ev->St×List Ev×Int
 |[],t,l=>(t,l,0)
 |.block a d::r,t,l=>ig b mv r t (l++[⟨12,mv,0,a,d,0,[]⟩])
 |.harm id n::r,t,l=>if (eX b t id (1-mv) n).2.2=0 then ig b mv r (eX b t id (1-mv) n).1 (l++[(eX b t id (1-mv) n).2.1])else (eG,[],(eX b t id (1-mv) n).2.2)
def Dp(r:St×List Ev×Int):St×List Ev×Int:=if r.2.2=0 then ({ r.1 with an:=[],phase:=0 },r.2.1,0)else (eG,[],r.2.2)
def dK(b:Bk)(s:St)(l:List (Int×Int)):St×List Ev×Int:=
 if aJ (bO b).1 b s false=true then (if (decide (s.phase≠1) || !Ki s l)=true then (eG,[],2)else Dp (ig b s.mover (gR b s l s.an) s []))else (eG,[],170)
@[reducible] def Db(r:St×List Ev×Int):I:=.bw [bN r.1,.aX false false 7 (r.2.1.map k_),O r.2.2]
theorem SI{J:List U}(e:Int):∃rd,aA (Go.Ah.hp J) rd (.bw [.agg aU,.aq,O e]) (Db (eG,[],e)):=
 ⟨[],aA.bw (.cons SB.zero.agg <| .cons (aA.nl 7) <| .cons (aA.ro rfl) .nil)⟩
inductive yO (n:Nat) (τ:List U):FS->I->Prop
 |harm {p q:Nat} {id k:Int}:n+14<=p->n+14<=q->ai τ p=.box [O id]->ai τ q=.box [O k]->yO n τ (.harm id k) (.func (.func 77) [] [.ak 0 0,.ak (n+11) 0,.ak p 0,.ak 1 0,.ak q 0,.ak (n+12) 0])
 |block {p q:Nat} {a a' d:Int}:n+14<=p->n+14<=q->ai τ p=.box [O a]->ai τ q=.box [O a',O d]->yO n τ (.block a d) (.func (.func 81) [] [.ak (n+12) 0,.ak 1 0,.ak p 0,.ak q 0])
def wA(e:Nat)(τ τ':List U):Prop:=τ.length<=τ'.length/\∀c y,c≠e->ai τ c=.box y->ai τ' c=.box y
theorem wA.app(e:Nat)(τ l:List U):wA e τ (τ++l):=⟨by simp,λc y _ h=>Zb _ h⟩
theorem wA.trans{e:Nat}{a b c:List U}(h:wA e a b)(k:wA e b c):wA e a c:=⟨CI h.1 k.1,λx y d h1=>k.2 x y d (h.2 x y d h1)⟩
variable{x:FS}
theorem yO.bx{n:Nat}{τ τ':List U}(h:yO n τ x v)(k:∀c y,n+14<=c->ai τ c=.box y->ai τ' c=.box y):yO n τ' x v:=by
 cases h with
 |harm h1 h2 h3 h4=>exact .harm h1 h2 (k _ _ h1 h3) (k _ _ h2 h4)
 |block h1 h2 h3 h4=>exact .block h1 h2 (k _ _ h1 h3) (k _ _ h2 h4)
def SR(n:Nat)(τ:List U)(S:List FS)(v:I):Prop:=
 (S=[]/\v=.aq)\/∃R rows,n+14<=R/\0<S.length/\v=.sl R 0 S.length false/\ai τ R=.rows 1 rows/\rows.length=S.length/\∀i (h:i<S.length),∃b,rows[i]?=some [b]/\b.cell=true/\yO n τ S[i] b
structure SX (b:Bk) (s:St) (M:List (Int×Int)) (n:Nat) (S:List FS) (v:I) (τ:List U):Prop where
 ln:n+14<=τ.length
 n4:4<=n
 pw:zq b s M τ
 cp:CP τ n s
 ev:ai τ (n+12)=.box [.aq]
 st:ai τ (n+13)=.box [v]
 row:SR n τ S v
theorem SX.app{b:Bk}{s:St}{M:List (Int×Int)}{n:Nat}{S:List FS}{τ:List U}(h:SX b s M n S v τ)(l:List U):SX b s M n S v (τ++l):=by
 refine⟨by have:=h.ln;simp;omega,h.n4,h.pw.app l,⟨Zb _ h.cp.box,λi x d=>?_⟩,Zb _ h.ev,Zb _ h.st,?_⟩
 ·have f:i<11:=(eS d).1;have:=h.ln;rw[Zg l (by omega)];exact h.cp.key i x d
 ·rcases h.row with h1|⟨R,rows,h1,h2,h3,h4,h5,h6⟩
  ·exact .inl h1
  ·refine .inr ⟨R,rows,h1,h2,h3,Zb _ h4,h5,λi f=>?_⟩;obtain⟨j,o,p,r⟩:=h6 i f;exact⟨j,o,p,r.bx (λc y _ w=>Zb _ w)⟩
theorem yO.cell{n:Nat}{τ:List U}(h:yO n τ x v):v.cell=true:=by cases h<;>rfl
theorem SX.I_{b:Bk}{s:St}{M:List (Int×Int)}{n:Nat}{S S':List FS}{v':I}{τ τ':List U}(h:SX b s M n S v τ){R:Nat}(hR:n+14<=R)(hA:dk τ τ' [n+13,R])(dW:ai τ' (n+13)=.box [v'])(f:SR n τ' S' v'):SX b s M n S' v' τ':=by
 have j:=h.ln;have n4:=h.n4;refine⟨CI j hA.1,n4,⟨hA.get h.pw.k0 (by simp) (by simp;omega),hA.get h.pw.k1 (by simp) (by simp;omega),hA.get h.pw.k2 (by simp) (by simp;omega),hA.get h.pw.k3 (by simp) (by simp;omega)⟩,⟨hA.get h.cp.box (by simp) (by simp;omega),λi x d=>?_⟩,hA.get h.ev (by simp) (by simp;omega),dW,f⟩;have o:i<11:=(eS d).1;rw[hA.2 (n+i) (by omega) (by simp;omega)];exact h.cp.key i x d
theorem dk.bx{n R:Nat}{τ τ':List U}(hA:dk τ τ' [n,R])(hR:∀ y,ai τ R≠.box y):wA n τ τ':=⟨hA.1,λc y d b=>hA.get b (by simp) (by
 have:c≠R:=λe=>hR y (e ▸ b);simp[d,this])⟩
theorem Zeo{b:Bk}{s:St}{M:List (Int×Int)}{n:Nat}{S:List FS}{τ:List U}(h:SX b s M n S v τ)(hS:S.length<=1000000){d:I}(hx:yO n τ x d)(D:∀z τ',SX b s M n (S++[x]) z τ'->wA (n+13) τ τ'->K .aP τ') :
  VV.wr (Yq 1 1 [.bH] [(0,1)] [d] τ) τ λt J=>VV.wr (Yh 1 8 [v,t] J) J λt2 J=>VV.wr (Xh 1 [.ak (n+13) 0,t2] J) J K:=by
 have f:=hx.cell;have E:a_ [[d]]=true:=by cases hx<;>rfl
 have T:=h.ln;have n4:=h.n4;refine Qd (Ib 1 τ d [.bH] [d] (by cases hx<;>rfl) rfl) (Qf _ _) ?_;have F:=Xc τ (.rows 1 [[d]]);have V:∀(m:Nat),cellsOf (.sl m 0 (S.length+1) false)=some [.sl m 0 (S.length+1) false]:=λm=>rfl;rcases h.row with ⟨rfl,rfl⟩|⟨R,rows,r1,X,rfl,A,B,L⟩
 ·refine Qd (X8 1 8 F rfl E (by simp)) (Qf _ _) ?_;have j:=Zb [.rows 1 [[d]]] (Zb [.rows 1 [[d]]] h.st (by simp));refine Qd (cO (row':=[.sl (τ.length + 1) 0 1 false]) j (by simp;rfl) rfl rfl) (Ye _ (Yb j)) ?_;have o:dk τ ((τ ++ [U.rows 1 [[d]]] ++ [U.rows 1 [[d]]]).set (n + 13) (.box [.sl (τ.length + 1) 0 1 false])) [n + 13,τ.length]:=⟨by simp;try omega,λc f p=>by
   simp only[Az,EZ,or_false,not_or]at p;rw[Qb _ (by simp;omega) p.1,Zg _ (by simp;omega),Zg _ f]⟩
  refine D _ _ (h.I_ (v':=.sl (τ.length+1) 0 1 false) (by omega) o (Zc _ (Yb j)) (.inr ⟨τ.length+1,[[d]],by omega,by simp,rfl,?_,rfl,λi G=>?_⟩)) (o.bx (λy f=>MJ _ (Yb f)))
  ·have:=Xc (τ++[U.rows 1 [[d]]]) (.rows 1 [[d]]);exact Qa (by simpa using this) (by simp) (by omega)
  ·obtain rfl:i=0:=by simp at G;omega
   exact⟨d,rfl,f,hx.bx (λc y f r=>(o.bx (λy f=>MJ _ (Yb f))).2 c y (by omega) r)⟩
 ·refine Qd (Q8 1 8 (Zb _ A) F B rfl E (by omega)) (YK _ _ (by have:=Yb A;simp;omega)) ?_;have j:=Zb [.rows 1 (rows ++ [[d]])] (Qa (c:=R) (x:=.dead) (Zb [.rows 1 [[d]]] h.st (by simp)) (by simp) (by omega));refine Qd (cO (row':=[.sl (τ.length + 1) 0 (S.length + 1) false]) j (by simp;rfl) rfl rfl) (Ye _ (Yb j)) ?_;have o:dk τ (((τ ++ [U.rows 1 [[d]]]).set R .dead ++ [U.rows 1 (rows ++ [[d]])]).set (n + 13) (.box [.sl (τ.length + 1) 0 (S.length + 1) false])) [n + 13,R]:=⟨by simp;try omega,λc f p=>by
   simp only[Az,EZ,or_false,not_or]at p;rw[Qb _ (by simp;omega) p.1,Zg _ (by simp;omega),Qb _ (by simp;omega) p.2,Zg _ f]⟩
  have C:=o.bx (λy=>by rw[A];simp);have hlen:(S++[x]).length=S.length+1:=by simp
  refine D _ _ (h.I_ (v':=.sl (τ.length+1) 0 (S.length+1) false) r1 o (Zc _ (Yb j)) (.inr ⟨τ.length+1,rows++[[d]],by omega,by simp,by rw[hlen],?_,by simp[B],λi G=>?_⟩)) C
  ·have:=Xc ((τ++[U.rows 1 [[d]]]).set R .dead) (.rows 1 (rows++[[d]]));exact Qa (by simpa using this) (by simp) (by omega)
  ·by_cases H:i<S.length
   ·obtain⟨w,N,P,Q⟩:=L i H;refine⟨w,by rw[Bi (by omega)];exact N,P,?_⟩;rw[List.getElem_append_left H];exact Q.bx (λc y f r=>C.2 c y (by omega) r)
   ·obtain rfl:i=S.length:=by omega
    refine⟨d,by rw[Bc (by omega),B];simp,f,?_⟩;rw[List.getElem_append_right (by omega)];simpa using hx.bx (λc y f r=>C.2 c y (by omega) r)
theorem w101{b:Bk}{s:St}{M:List (Int×Int)}{n:Nat}{S:List FS}{τ:List U}(h:SX b s M n S v τ)(hS:S.length<=1000000)(id k:Int)(f:∀d τ',SX b s M n (S++[.harm id k]) d τ'->wA (n+13) τ τ'->K (.bw []) τ') :
  VV.call .gP [.func (.func 76) [] [.ak (n+13) 0,.ak 0 0,.ak (n+11) 0,.ak 1 0,.ak (n+12) 0],O id,O k] τ K:=by
 refine Xe hP rfl g76.ok rfl ?_;show g76.u VV [O id,O k,.ak (n+13) 0,.ak 0 0,.ak (n+11) 0,.ak 1 0,.ak (n+12) 0] τ K;rw[H7.e];unfold g76;dsimp only;refine Qd (v:=.ak τ.length 0) (rd:=[]) (up:=[(τ.length,.box [O id])]) rfl (Qf _ _) ?_;refine Qd (v:=.ak (τ++[U.box [O id]]).length 0) (rd:=[]) (up:=[((τ++[U.box [O id]]).length,.box [O k])]) rfl (Qf _ _) ?_;have h1:=(h.app [.box [O id]]).app [.box [O k]];have i:=(wA.app (n+13) τ [.box [O id]]).trans (wA.app (n+13) _ [.box [O k]]);refine Z (ld h1.st rfl) (Z (Ov ..) (Zeo h1 hS (x:=.harm id k) (.harm h.ln (by have:=h.ln;simp;omega) (Zb _ (Xc _ _)) (Xc _ _)) (λd τ' h2 j=>f d τ' h2 (i.trans j))))
theorem ER.tree(J:List U)(m:List Ev):ER (λ_=>False) J (m.map cS) m:=
 ⟨by simp,λi row e b d=>by rw[Ba,d]at b;cases b;exact⟨_,rfl,.inl rfl⟩⟩
theorem ER.M6(J:List U){m:List Ev}(h:∀e∈m,e.aj=[]):ER (λ_=>False) J (m.map la) m:=
 ⟨by simp,λi row e b d=>by rw[Ba,d]at b;cases b;exact⟨_,rfl,.inr (.inl ⟨rfl,h _ (Au d)⟩)⟩⟩
theorem ER.Lf(J:List U){m:List Ev}(h:∀e∈m,e.kind=12->e.aj=[]):ER (λ_=>False) J (m.map k_) m:=
 ⟨by simp,λi row e b d=>by
  rw[Ba,d]at b;cases b;unfold k_;split
  ·exact⟨_,rfl,.inr (.inl ⟨rfl,h _ (Au d) ‹_›⟩)⟩
  ·exact⟨_,rfl,.inl rfl⟩⟩
def gO(J:List U)(d:Nat)(b:Bk)(a:Ac)(e:Int)(f:St)(l':List Ev)(i:Int)(τ:List U):Prop:=(e=0->PT τ d b f a l' i)/\J.length<=τ.length/\(∀c row,c≠d->ai J c=.box row->ai τ c=.box row)/\∀c n rs,n≠7->ai J c=.rows n rs->ai τ c=.rows n rs
theorem gO.trans{J υ τ:List U}{d:Nat}{b:Bk}{a:Ac}{e i:Int}{t j:St}{l l':List Ev}{f o:Int}(h:gO J d b a e t l f υ)(k:gO υ d b a i j l' o τ):gO J d b a i j l' o τ:=
 ⟨k.1,CI h.2.1 k.2.1,λc row p e=>k.2.2.1 c row p (h.2.2.1 c row p e),λc n r s e=>k.2.2.2 c n r s (h.2.2.2 c n r s e)⟩
theorem p329{J:List U}{d:Nat}{b:Bk}{t:St}{a:Ac}{l:List Ev}(h:PT J d b t a l fu)(r:Int×St×List Ev×Int)(h92:PC 63 [dd b,bN t,.aq,O fu] (jW r))(hl:l.length+r.2.2.1.length<=1000000000)
 (p:∀j,gO J d b a r.1 r.2.1 (l++r.2.2.1) fu j->K (O r.1) j):g47.u VV [.ak d 0] J K:=by
 rw[H1.e];unfold g47;dsimp only;obtain⟨lv,P,C⟩:=id h;have D:=Yb P;refine Xd rfl (Xd rfl (Ze (v:=dd b) (ld P rfl) (Yd _) (Xd rfl (Xd rfl (Ze (v:=bN t) (ld P rfl) (Yd _) (Xd rfl (Xd rfl (Ze (v:=O fu) (ld P rfl) (Yd _) ?_))))))));refine YX h92 g63.ok ?_;refine Xd rfl (Xd rfl (Xd rfl (Xd rfl (yY λτ1 s i E=>?_))));refine XW s (XH rfl) rfl rfl λτ2 w k2 o=>?_;have f:J.length≠d:=by omega
 refine Xo (by simp[Qg,Qj,Zl,Zs,bF,df,Ao,B0,iN,f,f.symm]) ?_;refine Z (v:=bN r.2.1) (ld w rfl) ?_;have h2:PT τ2 d b t a l fu:=h.cq (λc n y e=>o _ _ _ (i.get e)) (λrow e=>k2.box (i.get e) (by simpa using f.symm));have F:=k2.1;refine Xe hP rfl g42.ok rfl (p325 h2 r.2.1 r.2.2.1 (ER.tree _ _) (rd:=[]) (λx=>by simp[Yl]) (by simp) hl r.1 λτ3 h3 G z A=>?_);exact p _ ⟨λe=>by rw[aE e]at h3;exact h3,by omega,λc row B e=>z _ _ B (k2.box (i.get e) (by have:=Yb e;simp;omega)),λc n y f e=>A _ _ _ f (o _ _ _ (i.get e))⟩
theorem p327{J:List U}{d:Nat}{b:Bk}{t:St}{a:Ac}{l:List Ev}(h:PT J d b t a l fu)(hf:aN b=true)(A:Yg b.aj)(ht:ba 1000000000 t)(res:Int)(hl:l.length+1<=1000000000)
 (B:∀s,gO J d b a 0 (bV b t res).1 (l++[(bV b t res).2]) fu s->K (O 0) s):g45.u VV [.ak d 0,aS res] J K:=by
 rw[H2.e];unfold g45;dsimp only;obtain⟨lv,P,R⟩:=id h;have S:=Yb P;refine Xd rfl (Xd rfl (Ze (v:=dd b) (ld P rfl) (Yd _) (Xd rfl (Xd rfl (Ze (v:=bN t) (ld P rfl) (Yd _) ?_)))));refine YX (q98 b hf A t ht res) g71.ok ?_;generalize bV b t res=r at *;refine Xd rfl (Xd rfl (yY λτ1 C j T=>yY λτ2 D a2 V=>?_));have w:J.length≠τ1.length:=by omega
 refine XW (a2.get C) (XH rfl) rfl rfl λτ3 E k3 y=>?_;refine XW (k3.box D) (XH rfl) rfl rfl λτ4 F o z=>?_;have f:J.length≠d:=by omega
 have hm:τ1.length≠d:=by omega
 refine Xo (by simp[Qg,Qj,Zl,Zs,bF,df,Ao,B0,iN,f,f.symm,hm,hm.symm,w,w.symm]) ?_;refine Z (v:=bN r.1) (ld (o.box E) rfl) (Z (v:=tj r.2) (ld F rfl) ?_);refine Qd (v:=.sl τ4.length 0 1 true) (rd:=[]) (up:=[(τ4.length,.rows 7 [cS r.2])]) rfl (Qf τ4 _) ?_;have G:=Xc τ4 (.rows 7 [cS r.2]);have h2:PT (τ4++[.rows 7 [cS r.2]]) d b t a l fu:=h.cq (λc n i e=>Qu _ (z _ _ _ (y _ _ _ (a2.get (j.get e) (by simp) (by simp))))) (λrow e=>Zb _ (o.box (k3.box (a2.get (j.get e) (by simp) (by simp)) (by simpa using f.symm)) (by simpa using hm.symm)) (by simp));have X:=k3.1;have Y:=o.1;have Sc:(τ4++[U.rows 7 [cS r.2]]).length=τ4.length+1:=by simp
 have H:∀c row,c≠d->ai J c=.box row->ai (τ4++[.rows 7 [cS r.2]]) c=.box row:=λc row p e=>by
  have bZ:=Yb e;exact Zb _ (o.box (k3.box (a2.get (j.get e) (by simp) (by simp)) (by simp;omega)) (by simp;omega)) (by simp)
 have L:∀c n i,ai J c=.rows n i->ai (τ4++[.rows 7 [cS r.2]]) c=.rows n i:=λc n i e=>Qu _ (z _ _ _ (y _ _ _ (a2.get (j.get e) (by simp) (by simp))));generalize τ4++[U.rows 7 [cS r.2]]=τ5 at *;refine Xe hP rfl g42.ok rfl (p325 h2 r.1 [r.2] (ER.tree _ [r.2]) (rd:=[τ4.length]) (λx=>De (Qu _ G) rfl) (by simp;omega) (by simpa using hl) 0 λτ6 h6 l6 N Q=>?_);exact B _ ⟨λ_=>h6,by omega,λc row p e=>N _ _ p (H _ _ p e),λc n i f e=>Q _ _ _ f (L _ _ _ e)⟩
theorem p226{J:List U}{d:Nat}{b:Bk}{t:St}{a:Ac}{l:List Ev}(h:PT J d b t a l fu)(r:St×List Ev×Int)(h70:PC 48 [dd b,bN t,aM a.ids] (Rx r))(hc:∀e∈r.2.1,e.aj=[])(hl:l.length+r.2.1.length<=1000000000)
 (i:∀f,gO J d b a r.2.2 r.1 (l++r.2.1) fu f->K (O r.2.2) f):g19.u VV [.ak d 0] J K:=by
 rw[H1.e];unfold g19;dsimp only;obtain⟨lv,P,s⟩:=id h;have w:=Yb P;refine Xd rfl (Xd rfl (Ze (v:=dd b) (ld P rfl) (Yd _) (Xd rfl (Xd rfl (Ze (v:=bN t) (ld P rfl) (Yd _) (Xd rfl (Xd rfl (Xd rfl (Ze (v:=aM a.ids) (ld P rfl) (Yd _) ?_)))))))));refine YX h70 g48.ok (Xd rfl (Xd rfl (Xd rfl (Xo (by rfl) ?_))));refine Xe hP rfl g42.ok rfl (p325 h r.1 r.2.1 (ER.M6 _ hc) (rd:=[]) (λx=>by simp[Yl]) (by simp) hl r.2.2 λτ3 h3 j o p=>?_);exact i _ ⟨λe=>by rw[aE e]at h3;exact h3,j,o,p⟩
theorem p227{J:List U}{d:Nat}{b:Bk}{t:St}{a:Ac}{l:List Ev}(h:PT J d b t a l fu)(r:St×List Ev×Int)(h73:PC 49 [dd b,bN t,AX a.cN] (Db r))(hc:∀e∈r.2.1,e.kind=12->e.aj=[])(q:Int×St×List Ev×Int)(h92:r.2.2=0->PC 63 [dd b,bN r.1,.aq,O fu] (jW q))(hl:l.length+r.2.1.length+q.2.2.1.length<=1000000000)
 (f:∀i,gO J d b a (if r.2.2=0 then q.1 else r.2.2) q.2.1 (l++r.2.1++q.2.2.1) fu i->K (O (if r.2.2=0 then q.1 else r.2.2)) i):g20.u VV [.ak d 0] J K:=by
 rw[H1.e];unfold g20;dsimp only;obtain⟨lv,P,s⟩:=id h;have w:=Yb P;refine Xd rfl (Xd rfl (Ze (v:=dd b) (ld P rfl) (Yd _) (Xd rfl (Xd rfl (Ze (v:=bN t) (ld P rfl) (Yd _) (Xd rfl (Xd rfl (Xd rfl (Ze (v:=AX a.cN) (ld P rfl) (Yd _) ?_)))))))));refine YX h73 g49.ok (Xd rfl (Xd rfl (Xd rfl (Xo (by rfl) ?_))));refine Xe hP rfl g42.ok rfl (p325 h r.1 r.2.1 (ER.Lf _ hc) (rd:=[]) (λx=>by simp[Yl]) (by simp) (by omega) r.2.2 λτ3 h3 j o p=>?_);refine ag ?_;refine Ya (λhe=>?_) (λhe=>?_)
 ·have he:r.2.2≠0:=by simpa using he
  rw[aB he]at f;exact f _ ⟨λe=>absurd e he,j,o,p⟩
 have he:r.2.2=0:=by simpa using he
 rw[aE he]at f h3;refine Xe hP rfl g47.ok rfl (p329 h3 q (h92 he) (by simp;omega) λτ4 h4=>?_);exact f _ (gO.trans (⟨λ_=>h3,j,o,p⟩:gO J d b a 0 r.1 (l++r.2.1) fu τ3) h4)
theorem p229{J:List U}{f:Nat}{b:Bk}{t:St}{a:Ac}{l:List Ev}(h:PT J f b t a l fu)(hf:aN b=true)(i:Yg b.aj)(ht:ba 1000000000 t)(hl:l.length+1<=1000000000)
 (d:∀j,gO J f b a 0 (bV b t (if a.side=0 then 2 else 1)).1 (l++[(bV b t (if a.side=0 then 2 else 1)).2]) fu j->K (O 0) j):g22.u VV [.ak f 0] J K:=by
 rw[H1.e];unfold g22;dsimp only;obtain⟨lv,P,o⟩:=id h;refine ag (qG (λhs=>?_) (λhs=>?_))
 ·rw[aE hs]at d;exact Xe hP rfl g45.ok rfl (p327 h hf i ht 2 hl d)
 ·rw[aB hs]at d;exact Xe hP rfl g45.ok rfl (p327 h hf i ht 1 hl d)
theorem p228{J:List U}{d:Nat}{b:Bk}{t:St}{a:Ac}{l:List Ev}(h:PT J d b t a l fu)(hf:aN b=true)(z:Yg b.aj)(ht:ba 1000000000 t)(hl:l.length+1<=1000000000)
 (h1:t.phase=1->g20.u VV [.ak d 0] J K)
 (h2:t.phase≠1->4096<=t.turn->∀f,gO J d b a 0 (bV b t 3).1 (l++[(bV b t 3).2]) fu f->K (O 0) f)
 (h3:t.phase≠1->t.turn<4096->∃r:Int×St×List Ev×Int,PC 34 [dd b,bN { t with turn:=AF.wrap (t.turn+1),mover:=AF.wrap (1-t.mover) },O 1000] (jW r)/\l.length+r.2.2.1.length<=1000000000/\∀f,gO J d b a r.1 r.2.1 (l++r.2.2.1) fu f->K (O r.1) f):g21.u VV [.ak d 0] J K:=by
 rw[H1.e];unfold g21;dsimp only;obtain⟨lv,P,A⟩:=id h;have N:=Yb P;refine ag (qG (λj=>?_) (λj=>?_))
 ·exact Xe hP rfl g20.ok rfl (h1 j)
 refine ag (qG (λhq=>?_) (λhq=>?_))
 ·exact Xe hP rfl g45.ok rfl (p327 h hf z ht 3 hl (h2 j hq))
 obtain⟨r,h96,B,C⟩:=h3 j (by omega);refine ag (Z5 P rfl rfl rfl λτ1 D k1 r1=>?_);refine ag (Z5 D rfl rfl rfl λτ2 o k2 w=>?_);refine Xd rfl (Xd rfl (Ze (v:=dd b) (ld o rfl) (Yd _) (Xd rfl (Xd rfl (Ze (v:=bN { t with turn:=AF.wrap (t.turn+1),mover:=AF.wrap (1-t.mover) }) (ld o rfl) (Yd _) ?_)))));refine YX h96 g34.ok ?_;refine Xd rfl (Xd rfl (Xd rfl (Xd rfl (yY λτ3 E a3 e3=>?_))));refine XW E (XH rfl) rfl rfl λτ4 F p y=>?_;have Q:=k2.1;have R:=k1.1;have i:τ2.length≠d:=by omega
 refine Xo (by simp[Qg,Qj,Zl,Zs,bF,df,Ao,B0,iN,i,i.symm]) ?_;refine Z (v:=bN r.2.1) (ld F rfl) ?_;have h4:PT τ4 d b { t with turn:=AF.wrap (t.turn+1),mover:=AF.wrap (1-t.mover) } a l fu:=⟨lv,p.box (a3.get o) (by simpa using i.symm),A.mono λc n G e=>y _ _ _ (a3.get (w _ _ _ (r1 _ _ _ e)) (by simp) (by simp))⟩;have S:=p.1;refine Xe hP rfl g42.ok rfl (p325 h4 r.2.1 r.2.2.1 (ER.tree _ _) (rd:=[]) (λx=>by simp[Yl]) (by simp) B r.1 λτ5 h5 T H L=>?_);exact C _ ⟨λe=>by rw[aE e]at h5;exact h5,by omega,λc row s e=>H _ _ s (p.box (a3.get (k2.box (k1.box e (by simpa using s)) (by simpa using s)) (by simp) (by simp)) (by have:=Yb e;simp;omega)),λc n G i e=>L _ _ _ i (y _ _ _ (a3.get (w _ _ _ (r1 _ _ _ e)) (by simp) (by simp)))⟩
theorem Ydp(l:List Int)(i:Nat)(hi:i<l.length):∃b u d,l=b++u::d/\b.length=i/\l.eraseIdx i=b++d:=by
 refine⟨l.take i,l[i],l.drop (i+1),?_,by simp;omega,List.eraseIdx_eq_take_drop_succ ..⟩;simp
theorem p323{J:List U}{b i:Nat}{l rest:List Int}(hb:ai J b=.rows 1 ((l++rest).map aK))(hi:i<l.length)(hl:l.length<=1000000000)
 (r:K (.sl b 0 (l.length-1) false) (J.set b (.rows 1 ((l.eraseIdx i++0::rest).map aK)))):g39.u VV [.sl b 0 l.length false,O i,O ((i+1:Nat):Int)] J K:=by
 have j:=Yb hb;obtain⟨f,u,d,y,B,C⟩:=Ydp l i hi;have hlen:l.length=i+1+d.length:=by rw[y];simp;omega
 rw[H3.e];unfold g39;dsimp only;refine Z (v:=O l.length) (rd:=[]) rfl (Z (v:=.aP) (rd:=[]) ?_ ?_)
 ·show (bif BY i (i+1)&&(BY (i+1) l.length&&BY l.length l.length)then aL.ok .aP [] []else .stop)=_;simp_all [AH]
 refine Z (Xr ..) ?_;rw[i7 (by omega)];refine Yf (Z (v:=O l.length) (rd:=[]) rfl ?_);refine Ze (v:=.sl b 0 i false) (rd:=[b]) ?_ (Yd _) ?_
 ·show (match ai J b with
   |.rows s _=>bif AJ s 1&&BY i l.length then aL.ok (.sl b 0 i false) [b] []else .stop
   | _=>.stop)=_
  rw[hb];simp only[EK,AH (show i<=l.length by omega),C2,cond_true]
 obtain⟨v,rd,D,E⟩:=JM (n:=l.length) (i:=i+1) (ex:=false) hb (by omega);refine Ze D (Yd _) ?_;have o:∃p,Yl 1 J v=some (d.map aK,p):=by
  rcases E with ⟨h1,rfl,_⟩|⟨h1,rfl,_⟩
  ·refine⟨[b],?_⟩;have F:cut (i+1) (i+1+(l.length-(i+1))) ((l++rest).map aK)=d.map aK:=by
    rw[y];unfold cut;rw[show i+1+((f++u::d).length-(i+1))=(f++u::d).length by simp;omega,A8,List.take_left' (by simp),A8,B7,show i+1=(f.map aK++[aK u]).length by simp[B],show f.map aK++aK u::d.map aK=(f.map aK++[aK u])++d.map aK by simp];exact HA
   show (match ai J b with
    |.rows s rs=>bif AJ s 1&&BY (i+1+(l.length-(i+1))) rs.length then some (cut (i+1) (i+1+(l.length-(i+1))) rs,[b])else none
    | _=>none)=_
   rw[hb];simp only[EK,AH (show i+1+(l.length-(i+1))<=((l++rest).map aK).length by simp;omega),C2,cond_true,F]
  ·have:d=[]:=Ck.1 (by omega);subst this;exact⟨[],rfl⟩
 obtain⟨p,o⟩:=o;have P:((l++rest).map aK).length=l.length+rest.length:=by simp
 have G:Yh 1 8 [.sl b 0 i false,v] J=.ok (.sl b 0 (i+d.length) false) p [(b,.rows 1 (over i (d.map aK) ((l++rest).map aK)))]:=by
  have h1:(AJ 0 0&&AJ ((l++rest).map aK).length i)=false:=by
   grind [fK]
  have:Yh 1 8 [.sl b 0 i false,v] J=zN 1 8 J b 0 i ((l++rest).map aK) v:=by
   show (match ai J b with
    |.rows s rs=>bif AJ s 1 then (bif AJ 0 0&&AJ rs.length i then Qz 1 8 J rs [(b,.dead)] v else zN 1 8 J b 0 i rs v)else .stop
    |.full s rs=>bif AJ s 1&&AJ 0 0 then zw 1 8 J b i rs v else .stop
    | _=>.stop)=_
   simp_all
  rw[this,zN];simp only[o,Qb8,cond_true,Al,AH (show i+(d.map aK).length<=((l++rest).map aK).length by simp;omega),Be]
  grind [AH]
 refine Ze G (Ye _ j) (Xo (by rfl) ?_);refine Z (v:=O ((i+d.length:Nat):Int)) (rd:=[]) rfl ?_;have z:=Zc (J:=J) (.rows 1 (over i (d.map aK) ((l++rest).map aK))) j;have A:over i (d.map aK) ((l++rest).map aK)=(f++d).map aK++((u::d).drop d.length).map aK++rest.map aK:=by
  grind [over,List.drop_drop,HA,Be,List.map_drop]
 have H:∃w,(u::d).drop d.length=[w]:=by
  have:((u::d).drop d.length).length=1:=by simp
  exact List.length_eq_one_iff.1 this
 obtain⟨w,hw⟩:=H;rw[hw]at A;rw[A]at z ⊢;have Q:((f++d).map aK++[w].map aK++rest.map aK).length=l.length+rest.length:=by simp;omega
 refine Z (v:=.sl b (0+(i+d.length)) (l.length-(i+d.length)) false) (rd:=[b]) ?_ ?_
 ·show (match ai (J.set b _) b with
   |.rows s rs=>bif AJ s 1&&((C3 (i+d.length) l.length||AJ (i+d.length) 0)&&(BY l.length (i+d.length)||(!(AJ 1 0)&&BY (0+l.length) rs.length)))then aL.ok (.sl b (0+(i+d.length)) (l.length-(i+d.length)) false) [b] []else .stop
   | _=>.stop)=_
  rw[z];have k1:C3 (i+d.length) l.length=true:=AH (show i+d.length+1<=l.length by omega);have k2:BY (0+l.length) ((f++d).map aK++[w].map aK++rest.map aK).length=true:=AH (by omega);simp only[k1,k2,EK,Bool.true_or,Ax,DZ];cases BY l.length (i+d.length)<;>rfl
 refine Qd (v:=.aP) (rd:=[]) (up:=[(b,.rows 1 (over (0+(i+d.length)) (CD (l.length-(i+d.length)) (aK 0)) ((f++d).map aK++[w].map aK++rest.map aK)))]) ?_ (Ye _ (by simpa using j)) ?_
 ·show (match ai (J.set b _) b with
   |.rows s rs=>bif AJ s 1&&BY (0+(i+d.length)+(l.length-(i+d.length))) rs.length then aL.ok .aP [] [(b,.rows 1 (over (0+(i+d.length)) (CD (l.length-(i+d.length)) (aK 0)) rs))]else .stop
   | _=>.stop)=_
  simp_all [AH]
 rw[List.set_set];have L:l.length-1=i+d.length:=by omega
 have N:over (0+(i+d.length)) (CD (l.length-(i+d.length)) (aK 0)) ((f++d).map aK++[w].map aK++rest.map aK)=(l.eraseIdx i++0::rest).map aK:=by
  rw[show l.length-(i+d.length)=1 by omega,C]
  grind [over]
 rw[L]at r;rw[N];exact r
theorem Xbu(m:Nat->Option Nat)(l:List Int):U.dE (I.cy m) (.rows 1 (l.map aK))=.rows 1 (l.map aK):=by
 show U.rows 1 ((l.map aK).map λr=>r.map (I.cy m))=_
 congr 1
 induction l with
 |nil=>rfl
 |cons x l b=>simp only[B7,b];rfl
theorem YbN(b:List Nat)(n:Nat):∀(i:Nat) (l:List U),(Br b n i l).length=l.length
 |_,[]=>rfl
 |i,x::l=>by simp[Br,YbN b n (i+1) l]
theorem Zcs{J:List U}{b i:Nat}{l rest:List Int}(hb:ai J b=.rows 1 ((l++rest).map aK))(hi:i<l.length)(hl:l.length<=1000000000){K:I->List Nat×List Nat->List U->Prop}
 (j:K (.sl b 0 (l.length-1) false) ([b],[b]) (J.set b (.rows 1 ((l.eraseIdx i++0::rest).map aK)))):VV.dT (.call 39) [.sl b 0 l.length false,O i,O ((i+1:Nat):Int)] J K:=by
 have d:=Yb hb;have f:(je [b] J).length=J.length:=YbN _ _ _ _;have o:ai (je [b] J) b=.rows 1 ((l++rest).map aK):=by
  refine Qp ?_;rw[PD,O7 d,hb];simp only[Option.map_some,Xbu];simp[ub]
 have p:C3 b J.length=true:=AH d;refine SN hP (zs:=[.sl b 0 l.length false,O i,O ((i+1:Nat):Int)]) (τ:=je [b] J) (τ':=(je [b] J).set b (.rows 1 ((l.eraseIdx i++0::rest).map aK))) rfl g39.ok rfl [b] [b] (v:=.sl b 0 (l.length-1) false) (m:=0) (by simp) (by simpa using d) ?_ rfl (p323 o hi hl ⟨rfl,rfl⟩) (by simp[f]) (u:=.sl b 0 (l.length-1) false) (up:=[(b,.rows 1 ((l.eraseIdx i++0::rest).map aK))]) ?_ ?_ (Ye _ d) j
 ·simp[gZ,I.cy,og,p]
 ·simp[I.cy,eY]
 ·have:=Zc (J:=je [b] J) (.rows 1 ((l.eraseIdx i++0::rest).map aK)) (by rw[f];exact d);simp only[List.range'_zero,DR,B7,List.map_nil,this,Xbu]
theorem p328{J:List U}{i x1:Nat}{b:Bk}{t:St}{a:Ac}{l:List Ev}(h:PT J i b t a l fu)(hx:ai J x1=.box [.ak i 0])(r:Int×St×List Ev×Int)(h92:t.phase≠2->PC 63 [dd b,bN t,.aq,O fu] (jW r))(hl:t.phase≠2->l.length+r.2.2.1.length<=1000000000)
 (f:∀j,gO J i b a (if t.phase=2 then 0 else r.1) (if t.phase=2 then t else r.2.1) (if t.phase=2 then l else l++r.2.2.1) fu j->K (O (if t.phase=2 then 0 else r.1)) j):g46.u VV [.ak x1 0] J K:=by
 rw[H1.e];unfold g46;dsimp only;obtain⟨lv,P,o⟩:=id h;refine ag (qG (λd=>?_) (λd=>?_))
 ·simp only[aE d]at f;exact f _ ⟨λ_=>h,AO _,λ_ _ _ e=>e,λ_ _ _ _ e=>e⟩
 ·simp only[aB d]at f;refine ag ?_;exact Xe hP rfl g47.ok rfl (p329 h r (h92 d) (hl d) f)
theorem NZ{J:List U}{f:Nat}{b:Bk}{t:St}{a:Ac}{l:List Ev}(h:PT J f b t a l fu)(s:St)(ev:Ev)(hl:l.length+1<=1000000000)
 (j:∀i,gO J f b a 0 s (l++[ev]) fu i->K (O 0) i):VV.wr (Yq 7 1 bY [(0,7)] [tj ev] J) J λy J=>VV.call (.call 42) [.ak f 0,bN s,y,O 0] J K:=by
 obtain⟨lv,P,C⟩:=id h;have D:=Yb P;refine Qd (v:=.sl J.length 0 1 true) (rd:=[]) (up:=[(J.length,.rows 7 [cS ev])]) rfl (Qf J _) ?_;have o:=Xc J (.rows 7 [cS ev]);have h2:PT (J++[.rows 7 [cS ev]]) f b t a l fu:=h.cq (λc n d e=>Qu _ e) (λrow e=>Zb _ e);have E:(J++[U.rows 7 [cS ev]]).length=J.length+1:=by simp
 have p:∀c row,ai J c=.box row->ai (J++[.rows 7 [cS ev]]) c=.box row:=λc row e=>Zb _ e;have r:∀c n d,ai J c=.rows n d->ai (J++[.rows 7 [cS ev]]) c=.rows n d:=λc n d e=>Qu _ e;generalize J++[U.rows 7 [cS ev]]=τ5 at *;refine Xe hP rfl g42.ok rfl (p325 h2 s [ev] (ER.tree _ [ev]) (rd:=[J.length]) (λx=>De (Qu _ o) rfl) (by simp;omega) (by simpa using hl) 0 λτ6 h6 F w z=>?_);exact j _ ⟨λ_=>h6,by omega,λc row A e=>w _ _ A (p _ _ e),λc n d B e=>z _ _ _ B (r _ _ _ e)⟩
theorem p324{J:List U}{d w x1 x4:Nat}{b:Bk}{t:St}{a:Ac}{l:List Ev}(h:PT J d b t a l fu)(cd:Cd)(c:Int)(h5:ai J w=.box (cM cd))(h1:ai J x1=.box [.ak d 0])(h4:ai J x4=.box [O c])(r:St×Ev×Bool)(h46:cd.unit=true->PC 41 [dd b,bN t,O a.side,O c] (.bw [bN r.1,tj r.2.1,.bool r.2.2]))(hl:l.length+1<=1000000000)
 (i:∀y,gO J d b a 0 (if (cd.unit&&r.2.2)=true then r.1 else t) (if (cd.unit&&r.2.2)=true then l++[r.2.1]else l) fu y->K (O 0) y):g40.u VV [.ak w 0,.ak x1 0,.ak x4 0] J K:=by
 rw[H3.e];unfold g40;dsimp only;obtain⟨lv,P,S⟩:=id h;have T:=Yb P;cases hu:cd.unit with
 |false=>
  refine Z rfl (Z (v:=.bool cd.unit) (ld h5 rfl) ?_);rw[hu]at i ⊢;refine ag ?_;exact i _ ⟨λ_=>h,AO _,λ_ _ _ e=>e,λ_ _ _ _ e=>e⟩
 |true=>
 refine Z rfl (Z (v:=.bool cd.unit) (ld h5 rfl) ?_);rw[hu]at i ⊢;refine ag ?_;refine Ze (ld h1 rfl) (Yd _) (Xd rfl (Xd rfl (Ze (v:=dd b) (ld P rfl) (Yd _) ?_)));refine Ze (ld h1 rfl) (Yd _) (Xd rfl (Xd rfl (Ze (v:=bN t) (ld P rfl) (Yd _) ?_)));refine Ze (ld h1 rfl) (Yd _) (Xd rfl (Xd rfl (Xd rfl (Ze (v:=O a.side) (ld P rfl) (Yd _) ?_))));refine Ze (ld h4 rfl) (Yd _) ?_;refine YX (h46 hu) g41.ok (Xd rfl (Xd rfl (Xd rfl (yY λτ1 F z V=>yY λτ2 G a2 X=>?_))));have A:J.length≠τ1.length:=by omega
 refine XW (a2.get F) (XH rfl) rfl rfl λτ3 H k3 L=>?_;refine XW (k3.box G) (XH rfl) rfl rfl λτ4 N s Q=>?_;have o:J.length≠d:=by omega
 have hm:τ1.length≠d:=by omega
 have Y:=Yb h1;have l4:=Yb h4;have B:x1≠J.length:=by omega
 have C:x1≠τ1.length:=by omega
 have D:x4≠J.length:=by omega
 have E:x4≠τ1.length:=by omega
 refine Xo (by simp[Qg,Qj,Zl,Zs,bF,df,Ao,B0,iN,o,o.symm,hm,hm.symm,A,A.symm,B,C,D,E,B.symm,C.symm,D.symm,E.symm]) ?_;have j:∀c row,ai J c=.box row->ai τ4 c=.box row:=λc row e=>by
  have:=Yb e;exact s.box (k3.box (a2.get (z.get e) (by simp) (by simp)) (by simp;omega)) (by simp;omega)
 have p:∀c n f,ai J c=.rows n f->ai τ4 c=.rows n f:=λc n f e=>Q _ _ _ (L _ _ _ (a2.get (z.get e) (by simp) (by simp)));have dg:=k3.1;have j0:=s.1;cases hq:r.2.2 with
 |false=>
  rw[hq]at i;refine ag ?_;exact i _ ⟨λ_=>h.cq p (j d),by omega,λc row _ e=>j c row e,λc n f _ e=>p c n f e⟩
 |true=>
 rw[hq]at i;refine ag (Z (v:=.ak d 0) (ld (j _ _ h1) rfl) ?_);refine Z (v:=bN r.1) (ld (s.box H) rfl) (Z (v:=tj r.2.1) (ld N rfl) ?_);exact NZ (h.cq p (j d)) r.1 r.2.1 hl λτ6 h6=>i _ ⟨λ_=>h6.1 rfl,by have:=h6.2.1;omega,λc row R e=>h6.2.2.1 c row R (j c row e),λc n f o e=>h6.2.2.2 c n f o (p c n f e)⟩
theorem p326{J:List U}{d x1 s:Nat}{b:Bk}{t:St}{a:Ac}{l:List Ev}(h:PT J d b t a l fu)(hf:aN b=true)(G:Yg b.aj)(cd:Cd)(h1:ai J x1=.box [.ak d 0])(h5:ai J s=.box (cM cd))(r:Int×St×Int×List Ev)(h79:PC 44 [dd b,bN t,.agg [O a.side,O a.target],gE cd.bp,O 1000] (Nj r))(hl:l.length+r.2.2.2.length+1<=1000000000)(hr:ba 1000000000 r.2.1)
 (p:∀z,gO J d b a (if r.1=190 then 0 else r.1) (if r.1=190 then (bV b r.2.1 3).1 else r.2.1) (if r.1=190 then l++r.2.2.2++[(bV b r.2.1 3).2]else l++r.2.2.2) (if r.1=190 then fu else r.2.2.1) z->K (O (if r.1=190 then 0 else r.1)) z):g43.u VV [.ak x1 0,.ak s 0] J K:=by
 rw[H2.e];unfold g43;dsimp only;obtain⟨lv,P,X⟩:=id h;have Y:=Yb P;refine Ze (ld h1 rfl) (Yd _) (Xd rfl (Xd rfl (Ze (v:=dd b) (ld P rfl) (Yd _) ?_)));refine Ze (ld h1 rfl) (Yd _) (Xd rfl (Xd rfl (Ze (v:=bN t) (ld P rfl) (Yd _) ?_)));refine Ze (ld h1 rfl) (Yd _) (Xd rfl (Xd rfl (Xd rfl (Ze (v:=O a.side) (ld P rfl) (Yd _) ?_))));refine Ze (ld h1 rfl) (Yd _) (Xd rfl (Xd rfl (Xd rfl (Ze (v:=O a.target) (ld P rfl) (Yd _) ?_))));refine Xd rfl (Xd rfl (Ze (v:=gE cd.bp) (ld h5 rfl) (Yd _) ?_));refine YX h79 g44.ok (Xd rfl (Xd rfl (Xd rfl (Xd rfl (yY λτ1 H A e1=>?_)))));refine XW H (XH rfl) rfl rfl λτ2 B k2 L=>?_;have f:J.length≠d:=by omega
 have l1:=Yb h1;have l5:=Yb h5;have C:x1≠J.length:=by omega
 have D:s≠J.length:=by omega
 refine Xo (by simp[Qg,Qj,Zl,Zs,bF,df,Ao,B0,iN,f,f.symm,C,D,C.symm,D.symm]) ?_;have j:∀c row,ai J c=.box row->ai τ2 c=.box row:=λc row e=>by
  have:=Yb e;exact k2.box (A.get e) (by simp;omega)
 have w:∀c n i,ai J c=.rows n i->ai τ2 c=.rows n i:=λc n i e=>L _ _ _ (A.get e);have dg:=k2.1;have h2:=h.cq w (j d);refine Z (Xr ..) (qG (λhe=>?_) (λhe=>?_))
 ·simp only[aE he]at p;refine Z (v:=.ak d 0) (ld (j _ _ h1) rfl) (Z (v:=bN r.2.1) (ld B rfl) ?_);refine Xe hP rfl g42.ok rfl (p325 h2 r.2.1 r.2.2.2 (ER.tree _ _) (rd:=[]) (λx=>by simp[Yl]) (by simp) (by omega) 0 λτ3 h3 l3 E N=>?_);refine Z (v:=.ak d 0) (ld (E _ _ (by rintro rfl;rw[P]at h1;cases h1) (j _ _ h1)) rfl) ?_;refine Xe hP rfl g45.ok rfl (p327 h3 hf G hr 3 (by simp;omega) λτ4 h4=>?_);exact p _ ⟨h4.1,by have:=h4.2.1;omega,λc row o e=>h4.2.2.1 c row o (E c row o (j c row e)),λc n i f e=>h4.2.2.2 c n i f (N _ _ _ f (w c n i e))⟩
 ·simp only[aB he]at p;obtain⟨lv2,Q,R⟩:=h2;refine Z (v:=.ak d 0) (ld (j _ _ h1) rfl) (Z rfl (Z rfl (Z5 Q rfl rfl rfl λτ3 S k3 F=>?_)));have y:∀ {c row},c≠d->ai τ2 c=.box row->ai τ3 c=.box row:=λo e=>k3.box e (by simpa using o);refine Z (v:=.ak d 0) (ld (y (by rintro rfl;rw[P]at h1;cases h1) (j _ _ h1)) rfl) (Z (v:=bN r.2.1) (ld (y f B) rfl) ?_);have h3:PT τ3 d b t a l r.2.2.1:=⟨lv2,S,R.mono F⟩;refine Xe hP rfl g42.ok rfl (p325 h3 r.2.1 r.2.2.2 (ER.tree _ _) (rd:=[]) (λx=>by simp[Yl]) (by simp) (by omega) r.1 λτ4 h4 l4 T V=>?_);exact p _ ⟨λe=>by rw[aE e]at h4;exact h4,by have:=k3.1;omega,λc row o e=>T _ _ o (y o (j c row e)),λc n i f e=>V _ _ _ f (F _ _ _ (w c n i e))⟩
@[reducible] def stN(t:St)(n:Nat):List I:=ui t (.sl n 0 t.an.length false) (.sl (n+1) 0 t.s0.az.length false) (.sl (n+2) 0 t.s0.hand.length false) (.sl (n+3) 0 t.s0.ao.length false) (.sl (n+4) 0 t.s0.af.length false) .aq (.sl (n+6) 0 t.s1.az.length false) (.sl (n+7) 0 t.s1.hand.length false) (.sl (n+8) 0 t.s1.ao.length false) (.sl (n+9) 0 t.s1.af.length false) .aq
structure P0 (J:List U) (pb n:Nat) (b:Bk) (t:St) (a:Ac) (fu:Int):Prop where
 box:ai J pb=.box (I6 b (stN t n) a .aq fu)
 q:ai J n=.rows 1 (t.an.map aK)
 d0:ai J (n+1)=.rows 1 (t.s0.az.map aK)
 h0:ai J (n+2)=.rows 1 (t.s0.hand.map aK)
 g0:ai J (n+3)=.rows 1 (t.s0.ao.map aK)
 u0:ai J (n+4)=.rows 4 (t.s0.af.map br)
 d1:ai J (n+6)=.rows 1 (t.s1.az.map aK)
 h1:ai J (n+7)=.rows 1 (t.s1.hand.map aK)
 g1:ai J (n+8)=.rows 1 (t.s1.ao.map aK)
 u1:ai J (n+9)=.rows 4 (t.s1.af.map br)
 told:t.s0.told=[]/\t.s1.told=[]
theorem P0.cq{J τ:List U}{d n:Nat}{b:Bk}{t:St}{a:Ac}(h:P0 J d n b t a fu)(hk:∀c n rs,ai J c=.rows n rs->ai τ c=.rows n rs)(hb:∀row,ai J d=.box row->ai τ d=.box row):P0 τ d n b t a fu:=
 ⟨hb _ h.box,hk _ _ _ h.q,hk _ _ _ h.d0,hk _ _ _ h.h0,hk _ _ _ h.g0,hk _ _ _ h.u0,hk _ _ _ h.d1,hk _ _ _ h.h1,hk _ _ _ h.g1,hk _ _ _ h.u1,h.told⟩
def gz(t:St)(m:Int)(k:Nat)(c:Int)(cd:Cd):St:=t.put m { t.side m with hand:=(t.side m).hand.eraseIdx k,aW:=AF.wrap ((t.side m).aW-cd.cost),ao:=if cd.unit then (t.side m).ao else (t.side m).ao++[c] }
theorem Xb5{J:List U}{b i:Nat}{l:List Int}(hb:ai J b=.rows 1 (l.map aK))(hi:i<l.length)(hl:l.length<=1000000000){K:I->List Nat×List Nat->List U->Prop}
 (f:∀d,dk J d [b]->ai d b=.rows 1 ((l.eraseIdx i++[0]).map aK)->K (.sl b 0 (l.eraseIdx i).length false) ([b],[b]) d):VV.dT (.call 39) [.sl b 0 l.length false,O i,O ((i+1:Nat):Int)] J K:=by
 refine Zcs (rest:=[]) (by rw[DR];exact hb) hi hl ?_;rw[<-E2 hi];exact f _ (dk.set ..) (Zc _ (Yb hb))
theorem ZeG{J:List U}{b:Nat}{l:List Int}{x:Int}(hb:ai J b=.rows 1 (l.map aK))(hl:l.length<=1000000000){K:I->List Nat×List Nat->I->List Nat×List Nat->List U->Prop}
 (i:∀d,dk J d [b]->ai d (J.length+1)=.rows 1 ((l++[x]).map aK)->K (.sl J.length 0 1 true) ([],[J.length]) (.sl (J.length+1) 0 (l++[x]).length false) ([J.length],[b,J.length+1]) d) :
  VV.dr (Yq 1 1 [.int .i64 0] [(0,1)] [O x] J) J λy j J=>VV.dr (Yh 1 8 [.sl b 0 l.length false,y] J) J (K y j):=by
 refine Ze (v:=.sl J.length 0 1 true) (rd:=[]) (up:=[(J.length,.rows 1 [[O x]])]) rfl (Qf J _) ?_;refine Pm (x:=x) (Zb [_] hb) (Xc J _) rfl hl ?_;have o:(J++[U.rows 1 [[O x]]]).length=J.length+1:=by simp
 have r:=Yb hb;have f:=Di (J:=J++[U.rows 1 [[O x]]]) b (.rows 1 ((l++[x]).map aK));have p:=((dk.app J [U.rows 1 [[O x]]]).trans (dk.set (J++[U.rows 1 [[O x]]]) b .dead)).trans (dk.app ((J++[U.rows 1 [[O x]]]).set b .dead) [U.rows 1 ((l++[x]).map aK)]);rw[o]at f ⊢;exact i _ (by simpa using p) f
theorem p322{J:List U}{j n D x1 x5 x4:Nat}{b:Bk}{t:St}{a:Ac}(P:P0 J j n b t a fu)(ht:ba 1000000000 t)(h01:a.side=0\/a.side=1){k:Nat}(pc:a.place=k)(hk:k<(t.side a.side).hand.length)(cd:Cd)(c:Int)
 (g0:ai J D=.box [.ak j (if a.side=0 then 9 else 17)])(g1:ai J x1=.box [.ak j 0])(g9995:ai J x5=.box (cM cd))(g9994:ai J x4=.box [O c])
 (hK:∀f,PL f j b (gz t a.side k c cd) a [⟨1,a.side,c,0,a.target,0,[]⟩] fu->J.length<=f.length->(∀c row,c≠j->ai J c=.box row->ai f c=.box row)->(∀c i,mw i->ai J c=.rows 1 i->ai f c=.rows 1 i)->K (O 0) f):g38.u VV [.ak D 0,.ak x1 0,.ak x5 0,.ak x4 0] J K:=by
 have fw:=ht.s0.hand;have dg:=ht.s1.hand;have j0:=ht.s0.ao;have Sc:=ht.s1.ao;have hw:AF.wrap (a.place+1)=((k+1:Nat):Int):=by rw[pc,Zd (n:=k) (by rcases h01 with e|e<;>(rw[e]at hk;have:k<1000000000:=Er hk (by assumption);omega))]
 have A:D≠j:=by rintro rfl;have:=P.box;rw[g0]at this;cases this
 have E:x1≠j:=by rintro rfl;have:=P.box;rw[g1]at this;cases this
 have X:x5≠j:=by rintro rfl;have:=P.box;rw[g9995]at this;cases this
 have B:x4≠j:=by rintro rfl;have:=P.box;rw[g9994]at this;cases this
 rw[H4.e];unfold g38;dsimp only;rcases h01 with h01|h01
 rotate_left;rw[h01]at hk g0;have hk:k<t.s1.hand.length:=hk;have s:=P.h1;have w:=P.g1;rotate_left;rw[h01]at hk g0;have hk:k<t.s0.hand.length:=hk;have s:=P.h0;have w:=P.g0
 all_goals
  refine Ze (ld g0 rfl) (Yd _) (Ze (ld g0 rfl) (Yd _) (Xd rfl (Xd rfl (Ze (ld P.box rfl) (Yd _) ?_))));refine Ze (ld g1 rfl) (Yd _) (Xd rfl (Xd rfl (Xd rfl (Ze (v:=O k) (by rw[<-pc];exact ld P.box rfl) (Yd _) ?_))));refine Ze (ld g1 rfl) (Yd _) (Xd rfl (Xd rfl (Xd rfl (Ze (v:=O a.place) (ld P.box rfl) (Yd _) (Xd (Qi ..) ?_)))));rw[hw];refine Xb5 s hk (by omega) λτ1 Y H1=>?_;have NE:∀ {c d m i row},ai J c=.rows m i->ai J d=.box row->c≠d:=λh1 h2=>by rintro rfl;rw[h1]at h2;cases h2
  have b1:=Y.get P.box (by simp) (by simpa using (NE s P.box).symm);refine Xd rfl (Xd rfl (XW b1 rfl rfl rfl λτ2 b2 k2 r2=>?_));refine Xo (by simp[Qg,Qj,Zl,Zs,bF,df,Ao,B0,iN,NE s g0,NE s g1,NE s P.box,(NE s g0).symm,(NE s g1).symm,(NE s P.box).symm,A,E,A.symm,E.symm]) ?_;have B2:∀ {c row},c≠j->ai J c=.box row->ai τ2 c=.box row:=λp e=>k2.box (Y.get e (by simp) (by simpa using (NE s e).symm)) (by simpa using p);refine Ze (ld (B2 A g0) rfl) (Yd _) (Xd rfl (Xd rfl (Ze (ld b2 rfl) (Yd _) (Xd rfl (Ze (v:=O cd.cost) (ld (B2 X g9995) rfl) (Yd _) (Xd rfl ?_))))));refine Xd rfl (Xd rfl (XW b2 rfl rfl rfl λτ3 b3 k3 r3=>?_));refine Xo (by simp[Qg,Qj,Zl,Zs,bF,df,Ao,B0,iN,A,X,A.symm,X.symm]) ?_;have C:∀ {c row},c≠j->ai J c=.box row->ai τ3 c=.box row:=λp e=>k3.box (B2 p e) (by simpa using p);refine Z rfl (Z (v:=.bool cd.unit) (ld (C X g9995) rfl) (Z rfl ?_));obtain⟨T,hT⟩:∃T,gz t a.side k c cd=T:=⟨_,rfl⟩;rw[hT]at hK;rw[h01]at hT;have r:∀ {c m i},ai J c=.rows m i->c∉_->ai τ3 c=.rows m i:=λe p=>r3 _ _ _ (r2 _ _ _ (Y.get e (by simp) p));have H3:=r3 _ _ _ (r2 _ _ _ H1);have L3:J.length<=τ3.length:=by have:=Y.1;have:=k2.1;have:=k3.1;omega
  have Ar:=r w (by simp);have lg:=Yb w;have lp:=Yb P.box;have l0:=Yb g0;have l4:=Yb g9994;have l1:=Yb g1;refine Zj λk' ek=>?_;have fin:∀f q d0 h0 g0 u0 t0 d1 h1 V8 u1 t1,PS f j b T a [] fu q d0 h0 g0 u0 t0 d1 h1 V8 u1 t1 .aq->J.length<=f.length->(∀ {c row},c≠j->ai J c=.box row->ai f c=.box row)->(∀c i,mw i->ai J c=.rows 1 i->ai f c=.rows 1 i)->k' [] f:=by
   intro f q d0 h0 g0 u0 t0 d1 h1 V8 u1 t1 S hL hB hF;rw[ek];have F:=hB E g1;have w4:=hB B g9994;refine Ze (ld F rfl) (Yd _) (Ze (ld F rfl) (Yd _) (Xd rfl (Xd rfl (Ze (ld S.box rfl) (Yd _) ?_))));refine Ze (ld F rfl) (Yd _) (Xd rfl (Xd rfl (Xd rfl (Ze (v:=O a.side) (ld S.box rfl) (Yd _) ?_))));refine Ze (v:=O c) (ld w4 rfl) (Yd _) (Ze (ld F rfl) (Yd _) (Xd rfl (Xd rfl (Xd rfl (Ze (v:=O a.target) (ld S.box rfl) (Yd _) (Xd rfl ?_))))));refine Ze (v:=.sl f.length 0 1 true) (rd:=[]) (up:=[(f.length,.rows 7 [la ⟨1,a.side,c,0,a.target,0,[]⟩])]) rfl (Qf f _) ?_;refine Ze (X8 7 72 (Xc f _) rfl rfl (by decide)) (Qf _ _) ?_;have n1:=Xc (f++[.rows 7 [la ⟨1,a.side,c,0,a.target,0,[]⟩]]) (.rows 7 [la ⟨1,a.side,c,0,a.target,0,[]⟩]);have b1:=Zb [.rows 7 [la ⟨1,a.side,c,0,a.target,0,[]⟩]] (Zb [.rows 7 [la ⟨1,a.side,c,0,a.target,0,[]⟩]] S.box (by simp));have lpb:=Yb S.box;have hR:∀ {x m i},ai f x=.rows m i->ai (f++[.rows 7 [la ⟨1,a.side,c,0,a.target,0,[]⟩]]++[.rows 7 [la ⟨1,a.side,c,0,a.target,0,[]⟩]]) x=.rows m i:=λe=>Qu _ (Qu _ e);have gS:∀ {x row},ai f x=.box row->ai (f++[.rows 7 [la ⟨1,a.side,c,0,a.target,0,[]⟩]]++[.rows 7 [la ⟨1,a.side,c,0,a.target,0,[]⟩]]) x=.box row:=λe=>Zb _ (Zb _ e (by simp));have WY:(f++[U.rows 7 [la ⟨1,a.side,c,0,a.target,0,[]⟩]]).length=f.length+1:=by simp
   have hl6:(f++[U.rows 7 [la ⟨1,a.side,c,0,a.target,0,[]⟩]]++[U.rows 7 [la ⟨1,a.side,c,0,a.target,0,[]⟩]]).length=f.length+2:=by simp
   rw[WY]at n1 ⊢;generalize f ++ [U.rows 7 [la ⟨1,a.side,c,0,a.target,0,[]⟩]] ++ [U.rows 7 [la ⟨1,a.side,c,0,a.target,0,[]⟩]]=υ at *;have m1:=Yb F;have m4:=Yb w4;refine Xd rfl (Xd rfl (XW b1 rfl rfl rfl λυ2 VC Sq r2'=>?_));refine Xo (by
    have G:x1≠f.length:=by omega
    have H:x1≠f.length+1:=by omega
    have L:x4≠f.length:=by omega
    have N:x4≠f.length+1:=by omega
    have Q:j≠f.length:=by omega
    have R:j≠f.length+1:=by omega
    simp[Qg,Qj,Zl,Zs,bF,df,Ao,B0,iN,E,B,E.symm,B.symm,G,H,L,N,Q,R,G.symm,H.symm,L.symm,N.symm,Q.symm,R.symm]) ?_
   have y:∀m c i,ai f c=.rows m i->ai υ2 c=.rows m i:=λm c i e=>r2' _ _ _ (hR e);refine hK _ ⟨q,d0,h0,g0,u0,t0,d1,h1,V8,u1,t1,_,⟨VC,S.q.cq (y 1),S.d0.cq (y 1),S.h0.cq (y 1),S.g0.cq (y 1),S.u0.cq (y 4),S.t0.cq (y 1),S.d1.cq (y 1),S.h1.cq (y 1),S.g1.cq (y 1),S.u1.cq (y 4),S.t1.cq (y 1),.inr ⟨f.length+1,_,rfl,r2' _ _ _ n1,ER.M6 _ (m:=[_]) (by simp)⟩⟩⟩ (by have:=Sq.1;omega) (λc row p e=>Sq.box (gS (hB p e)) (by simpa using p)) λc i hf e=>y _ _ _ (hF c i hf e)
  clear ek hK;have o:∀ {x:Nat} {l:List Int} {f:List U},ai f x=.rows 1 (l.map aK)->OR f (.sl x 0 l.length false) l:=λe=>.inr (.inr ⟨_,[],rfl,by rw[DR];exact e⟩);have UK:∀ {x:Nat} {l:List Th} {f:List U},ai f x=.rows 4 (l.map br)->OU f (.sl x 0 l.length false) l:=λe=>.inr (.inr ⟨_,[],rfl,by rw[DR];exact e⟩);have NK:∀ {l:List Int} {f:List U},l=[]->OR f .aq l:=λe=>.inr (.inl ⟨rfl,e⟩);cases hu:cd.unit with
  |true=>
   refine ag ?_;subst hT;refine fin τ3 _ _ _ _ _ _ _ _ _ _ _ ⟨b3,?_,?_,?_,?_,?_,?_,?_,?_,?_,?_,?_,.inl ⟨rfl,rfl⟩⟩ L3 C λc i hf e=>r e (by simp only[D1];rintro rfl;rw[s]at e;cases e;exact hf.no)
   all_goals first
    |exact NK P.told.1
    |exact NK P.told.2
    |exact .inr (.inr ⟨_,[0],rfl,H3⟩)
    |exact o (r P.q (by simp))
    |exact o (r P.d0 (by simp))
    |exact o (r P.h0 (by simp))
    |exact o (r P.d1 (by simp))
    |exact o (r P.h1 (by simp))
    |exact UK (r P.u0 (by simp))
    |exact UK (r P.u1 (by simp))
    |exact o (r P.g0 (by simp))
    |exact o (r P.g1 (by simp))
    |(simp only[gz,hu];first|exact o (r P.g0 (by simp))|exact o (r P.g1 (by simp)))
  |false=>
   refine ag ?_;refine Ze (ld (C A g0) rfl) (Yd _) (Ze (ld (C A g0) rfl) (Yd _) (Xd rfl (Xd rfl (Ze (ld b3 rfl) (Yd _) (Ze (v:=O c) (ld (C B g9994) rfl) (Yd _) ?_)))));refine ZeG Ar (by omega) λτ4 V G4=>?_;refine Xd rfl (Xd rfl (XW (V.get b3 (by simp) (by simpa using (NE w P.box).symm)) rfl rfl rfl λτ5 b5 k5 r5=>?_));refine Xo (by
    have G:D≠τ3.length:=by omega
    have H:D≠τ3.length+1:=by omega
    have L:x4≠τ3.length:=by omega
    have N:x4≠τ3.length+1:=by omega
    have Q:j≠τ3.length:=by omega
    have R:j≠τ3.length+1:=by omega
    simp[Qg,Qj,Zl,Zs,bF,df,Ao,B0,iN,A,B,A.symm,B.symm,G,H,L,N,Q,R,G.symm,H.symm,L.symm,N.symm,Q.symm,R.symm,NE w g0,NE w g9994,NE w P.box,(NE w g0).symm,(NE w g9994).symm,(NE w P.box).symm];try omega) ?_
   have z:∀ {c m i},ai J c=.rows m i->c∉_->c∉_->ai τ5 c=.rows m i:=λe p ll=>r5 _ _ _ (V.get (r e p) (by simp) ll);have H5:=r5 _ _ _ (V.get H3);have G5:=r5 _ _ _ G4;have B5:∀ {c row},c≠j->ai J c=.box row->ai τ5 c=.box row:=λp e=>k5.box (V.get (C p e) (by simp) (by simpa using (NE w e).symm)) (by simpa using p);have L5:J.length<=τ5.length:=by have:=V.1;have:=k5.1;omega
   subst hT;refine fin τ5 _ _ _ _ _ _ _ _ _ _ _ ⟨b5,?_,?_,?_,?_,?_,?_,?_,?_,?_,?_,?_,.inl ⟨rfl,rfl⟩⟩ L5 B5 λc i hf e=>z e (by simp only[D1];rintro rfl;rw[s]at e;cases e;exact hf.no) (by simp only[D1];rintro rfl;rw[w]at e;cases e;exact hf.no)
   all_goals first
    |exact NK P.told.1
    |exact NK P.told.2
    |exact .inr (.inr ⟨_,[0],rfl,H5⟩)
    |exact o (z P.q (by simp) (by simp))
    |exact o (z P.d0 (by simp) (by simp))
    |exact o (z P.h0 (by simp) (by simp))
    |exact o (z P.d1 (by simp) (by simp))
    |exact o (z P.h1 (by simp) (by simp))
    |exact UK (z P.u0 (by simp) (by simp))
    |exact UK (z P.u1 (by simp) (by simp))
    |exact o (z P.g0 (by simp) (by simp))
    |exact o (z P.g1 (by simp) (by simp))
    |(simp only[gz,hu];exact o G5)
theorem p225{J:List U}{d n:Nat}{b:Bk}{t:St}{a:Ac}(P:P0 J d n b t a fu)(hf:aN b=true)(bn:Yg b.aj)(ht:ba 1000000000 t)(h01:a.side=0\/a.side=1){k:Nat}(pc:a.place=k)(hk:k<(t.side a.side).hand.length)
 (c:Int)(hc:(t.side a.side).hand[k]?=some c)(cd:Cd)(oY:0<=c)(X:b.aj[c.toNat]?=some cd)
 (r:St×Ev×Bool)(h46:cd.unit=true->PC 41 [dd b,bN (gz t a.side k c cd),O a.side,O c] (.bw [bN r.1,tj r.2.1,.bool r.2.2]))
 (t2:St)(l2:List Ev)(Eh:t2=if (cd.unit&&r.2.2)=true then r.1 else gz t a.side k c cd)(dg:l2=if (cd.unit&&r.2.2)=true then [⟨1,a.side,c,0,a.target,0,[]⟩]++[r.2.1]else [⟨1,a.side,c,0,a.target,0,[]⟩])
 (f:Int×St×Int×List Ev)(h79:PC 44 [dd b,bN t2,.agg [O a.side,O a.target],gE cd.bp,O 1000] (Nj f))(hlR:f.2.2.2.length<=100000000)(hrR:ba 1000000000 f.2.1)
 (t3:St)(l3:List Ev)(RP:Int)(ht3:t3=if f.1=190 then (bV b f.2.1 3).1 else f.2.1)(j0:l3=if f.1=190 then l2++f.2.2.2++[(bV b f.2.1 3).2]else l2++f.2.2.2)(WI:RP=if f.1=190 then fu else f.2.2.1)
 (q:Int×St×List Ev×Int)(h92:(f.1=0\/f.1=190)->t3.phase≠2->PC 63 [dd b,bN t3,.aq,O RP] (jW q))(Mg:q.2.2.1.length<=100000000)
 (e:Int)(t':St)(l':List Ev)(he:e=if f.1=190\/f.1=0 then (if t3.phase=2 then 0 else q.1)else f.1)(Sk:t'=if t3.phase=2 then t3 else q.2.1)(lU:l'=if t3.phase=2 then l3 else l3++q.2.2.1)
 (L:∀B,(e=0->PT B d b t' a l' RP)->(∀c row,c≠d->ai J c=.box row->ai B c=.box row)->K (O e) B):g18.u VV [.ak d 0] J K:=by
 have fw:=ht.s0.hand;have Md:=ht.s1.hand;rw[H1.e];unfold g18;dsimp only;refine Qd (v:=.ak J.length 0) (rd:=[]) (up:=[(J.length,.box [.ak d 0])]) rfl (Qf J _) ?_;have wo:=Yb P.box;have s:=Xc J (.box [.ak d 0])
 replace P:=P.cq (τ:=J++[.box [.ak d 0]]) (λc n j e=>Qu _ e) (λrow e=>Zb _ e)
 have B1:∀c row,ai J c=.box row->ai (J++[.box [.ak d 0]]) c=.box row:=λc row e=>Zb _ e;have W1:∀c n j,ai J c=.rows n j->ai (J++[.box [.ak d 0]]) c=.rows n j:=λc n j e=>Qu _ e;have L1:(J++[U.box [.ak d 0]]).length=J.length+1:=by simp
 generalize J++[U.box [.ak d 0]]=σ1 at *;have n1:J.length≠d:=by omega
 have si:∀J,Qo 2 8 [.ak d (0+2+7),O a.side] J=.ok (.ak d (if a.side=0 then 9 else 17)) [] []:=λJ=>by rcases h01 with h|h<;>rw[h]<;>rfl
 refine Ze (ld s rfl) (Yd _) (Ze (ld s rfl) (Yd _) (Xd rfl (Xd rfl (Xd rfl (Ze (v:=O a.side) (ld P.box rfl) (Yd _) (Xd rfl (Xd rfl (Xd rfl (Xd (si _) ?_)))))))));refine yY λσ2 m2 a2 e2=>XW m2 rfl rfl rfl λσ3 Y k3 r3=>?_;have n2:σ1.length≠d:=by omega
 have n3:J.length≠σ1.length:=by omega
 refine Xo (by simp[Qg,Qj,Zl,Zs,bF,df,Ao,B0,iN,n1,n1.symm,n2,n2.symm,n3,n3.symm]) ?_;have N:∀c row,ai σ1 c=.box row->ai σ3 c=.box row:=λc row e=>k3.box (a2.get e) (by have:=Yb e;simp;omega);have W3:∀c n j,ai σ1 c=.rows n j->ai σ3 c=.rows n j:=λc n j e=>r3 _ _ _ (a2.get e)
 replace P:=P.cq W3 (N d)
 replace s:=N _ _ s
 have AR:=k3.1;rcases h01 with h01|h01
 rotate_left;rw[h01]at hk hc;have hk:k<t.s1.hand.length:=hk;have hc:t.s1.hand[k]?=some c:=hc;have C:=P.h1;have Q:ai σ3 σ1.length=.box [.ak d 17]:=by rw[Y,h01];rfl
 rotate_left;rw[h01]at hk hc;have hk:k<t.s0.hand.length:=hk;have hc:t.s0.hand[k]?=some c:=hc;have C:=P.h0;have Q:ai σ3 σ1.length=.box [.ak d 9]:=by rw[Y,h01];rfl
 all_goals
  refine Ze (ld Q rfl) (Yd _) (Xd rfl (Xd rfl (Ze (ld P.box rfl) (Yd _) (Ze (ld s rfl) (Yd _) (Xd rfl (Xd rfl (Xd rfl (Ze (v:=O k) (by rw[<- pc];exact ld P.box rfl) (Yd _) ?_))))))));refine Ze (Y9 _ _ 0 _ false 1 _ .i64 k hk C) (Yd _) (Ze (v:=O c) (ru (i:=0 + k) C (row:=aK c) (by rw[Al,Ba,hc];rfl) rfl) (Yd _) ?_);refine yY λσ4 m4 a4 e4=>XW m4 rfl rfl rfl λσ5 m5 k5 r5=>?_;have lh:=Yb C;have lp:=Yb P.box;refine Xo (by
   have o:σ3.length≠d:=by omega
   have D:σ3.length≠J.length:=by omega
   have E:σ3.length≠σ1.length:=by omega
   have F:=Nat.ne_of_gt lh;simp[Qg,Qj,Zl,Zs,bF,df,Ao,B0,iN,o,o.symm,D,D.symm,E,E.symm,F,F.symm]) ?_
  have G:∀ c row,ai σ3 c=.box row->ai σ5 c=.box row:=λc row e=>k5.box (a4.get e) (by have:=Yb e;simp;omega);have W5:∀ c n j,ai σ3 c=.rows n j->ai σ5 c=.rows n j:=λc n j e=>r5 _ _ _ (a4.get e);have P5:=P.cq W5 (G d);have o1:=G _ _ s;have o3:=G _ _ Q;have l5:=k5.1;have mm:c.toNat < b.aj.length:=(eS X).1;have IJ:b.aj[c.toNat]=cd:=(eS X).2;refine Ze (ld o1 rfl) (Yd _) (Xd rfl (Xd rfl (Xd rfl (Ze (v:=iX b.aj) (ld P5.box rfl) (Yd _) (Ze (v:=O c) (ld m5 rfl) (Yd _) (Ze (wM _ cM false false 12 b.aj .i64 c oY mm) (Yd _) ?_))))));rw[IJ];refine Ze (bg (oH cd)) (Yd _) (yY λσ6 m6 a6 e6=>XW m6 rfl rfl rfl λσ7 m7 k7 r7=>?_);refine Xo (by
   have o:σ5.length≠d:=by omega
   have D:σ5.length≠J.length:=by omega
   have E:σ5.length≠σ3.length:=by omega
   simp[Qg,Qj,Zl,Zs,bF,df,Ao,B0,iN,o,o.symm,D,D.symm,E,E.symm]) ?_
  have w:∀c row,ai σ5 c=.box row->ai σ7 c=.box row:=λc row e=>k7.box (a6.get e) (by have:=Yb e;simp;omega);have W7:∀c n j,ai σ5 c=.rows n j->ai σ7 c=.rows n j:=λc n j e=>r7 _ _ _ (a6.get e);have P7:=P5.cq W7 (w d);have x1:=w _ _ o1;have x3:=w _ _ o3;have x4:=w _ _ m5;have l7:=k7.1;refine Z rfl (Z rfl (Z rfl (Z rfl ?_)));refine Qd (v:=.sl σ7.length 0 4 true) (rd:=[]) rfl (Qf σ7 (.rows 1 [[.func (.func 38) [] [.ak σ1.length 0,.ak J.length 0,.ak σ5.length 0,.ak σ3.length 0]],[.func (.func 40) [] [.ak σ5.length 0,.ak J.length 0,.ak σ3.length 0]],[.func (.func 43) [] [.ak J.length 0,.ak σ5.length 0]],[.func (.func 46) [] [.ak J.length 0]]])) ?_;have P8:=P7.cq (τ:=σ7++[.rows 1 [[.func (.func 38) [] [.ak σ1.length 0,.ak J.length 0,.ak σ5.length 0,.ak σ3.length 0]],[.func (.func 40) [] [.ak σ5.length 0,.ak J.length 0,.ak σ3.length 0]],[.func (.func 43) [] [.ak J.length 0,.ak σ5.length 0]],[.func (.func 46) [] [.ak J.length 0]]]]) (λc n j e=>Qu _ e) (λrow e=>Zb _ e);have y8:=Xc σ7 (.rows 1 [[.func (.func 38) [] [.ak σ1.length 0,.ak J.length 0,.ak σ5.length 0,.ak σ3.length 0]],[.func (.func 40) [] [.ak σ5.length 0,.ak J.length 0,.ak σ3.length 0]],[.func (.func 43) [] [.ak J.length 0,.ak σ5.length 0]],[.func (.func 46) [] [.ak J.length 0]]]);have y:∀c row,ai σ7 c=.box row->ai (σ7++[.rows 1 [[.func (.func 38) [] [.ak σ1.length 0,.ak J.length 0,.ak σ5.length 0,.ak σ3.length 0]],[.func (.func 40) [] [.ak σ5.length 0,.ak J.length 0,.ak σ3.length 0]],[.func (.func 43) [] [.ak J.length 0,.ak σ5.length 0]],[.func (.func 46) [] [.ak J.length 0]]]]) c=.box row:=λc row e=>Zb _ e;have l8:(σ7++[U.rows 1 [[.func (.func 38) [] [.ak σ1.length 0,.ak J.length 0,.ak σ5.length 0,.ak σ3.length 0]],[.func (.func 40) [] [.ak σ5.length 0,.ak J.length 0,.ak σ3.length 0]],[.func (.func 43) [] [.ak J.length 0,.ak σ5.length 0]],[.func (.func 46) [] [.ak J.length 0]]]]).length=σ7.length+1:=by simp
  generalize σ7++[U.rows 1 _]=σ8 at *;have fr:mw [[.func (.func 38) [] [.ak σ1.length 0,.ak J.length 0,.ak σ5.length 0,.ak σ3.length 0]],[.func (.func 40) [] [.ak σ5.length 0,.ak J.length 0,.ak σ3.length 0]],[.func (.func 43) [] [.ak J.length 0,.ak σ5.length 0]],[.func (.func 46) [] [.ak J.length 0]]]:=⟨_,_,_,_,rfl⟩;have BB:∀c row,ai J c=.box row->ai σ8 c=.box row:=λc row e=>y _ _ (w _ _ (G _ _ (N _ _ (B1 _ _ e))));have v1:=y _ _ x1;have v3:=y _ _ x3;have v4:=y _ _ x4;have v5:=y _ _ m7;have o:J.length≠d:=n1;have F:σ3.length≠d:=by omega
  have R:σ5.length≠d:=by omega
  clear y m7 x1 x3 x4 P7 W7 w m6 m5 o1 o3 P5 G W5 m4 s IJ mm X C P N W3 Y m2 Q a2 a4 a6 k3 k5 k7 r3 r5 r7;have w1:AF.wrap (0+1)=1:=by decide
  have w2:AF.wrap (1+1)=2:=by decide
  have w3:AF.wrap (2+1)=3:=by decide
  refine Z (v:=O 4) (rd:=[]) rfl (ZM 6 (Yk ?_));refine Z rfl (Xg (Z (Y9 _ _ 0 4 true 1 _ .i64 0 (by decide) y8) (Z (ru (i:=0+0) y8 rfl rfl) ?_)));refine Xe hP rfl g38.ok rfl (p322 P8 ht (by omega) pc (by rw[h01];exact hk) cd c (by rw[h01];exact v3) v1 v5 v4 λτ1 T1 L1 S F1=>?_);refine Z rfl (Yf (Z rfl ?_));rw[w1];have yA:=F1 _ _ fr y8;have u1:=S _ _ o v1;have u4:=S _ _ F v4;have u5:=S _ _ R v5;refine Yk (Z rfl (Xg (Z (Y9 _ _ 0 4 true 1 _ .i64 1 (by decide) yA) (Z (ru (i:=0+1) yA rfl rfl) ?_))));refine Ji T1 λτ2 T2 L2 z F2=>Xe hP rfl g40.ok rfl (p324 T2 cd c (z _ _ R u5) (z _ _ o u1) (z _ _ F u4) r h46 (by simp) λτ3 A=>?_);refine Z rfl (Yf (Z rfl ?_));rw[w2];rw[<-Eh]at A;have T3:PT τ3 d b t2 a l2 fu:=by rw[dg];exact A.1 rfl
  have yB:=A.2.2.2 _ _ _ (by decide) (F2 _ _ fr yA);have z1:=A.2.2.1 _ _ o (z _ _ o u1);have z5:=A.2.2.1 _ _ R (z _ _ R u5);have Mf:l2.length<=2:=by rw[dg];split<;>simp
  refine Yk (Z rfl (Xg (Z (Y9 _ _ 0 4 true 1 _ .i64 2 (by decide) yB) (Z (ru (i:=0+2) yB rfl rfl) ?_))));refine Xe hP rfl g43.ok rfl (p326 T3 hf bn cd z1 z5 f h79 (by omega) hrR λτ4 T=>?_);have B4:∀c row,c≠d->ai J c=.box row->ai τ4 c=.box row:=λc row hc e=>T.2.2.1 _ _ hc (A.2.2.1 _ _ hc (z _ _ hc (S _ _ hc (BB _ _ e))));refine Z (QM ..) (Ya (λp=>?_) (λp=>?_))
  ·have p:(if f.1=190 then 0 else f.1)≠0:=by simpa using p
   have h9:f.1≠190:=λe=>by simp[e]at p
   rw[aB h9]at p;have e':e=f.1:=by rw[he,aB (by omega)]
   rw[aB h9,<-e'];exact L _ (λe0=>absurd (e'.symm.trans e0) p) B4
  have p:(if f.1=190 then 0 else f.1)=0:=by simpa using p
  have h9:f.1=190\/f.1=0:=by
   by_cases h:f.1=190
   ·exact .inl h
   ·rw[aB h]at p;exact .inr p
  rw[aE h9]at he;refine Z rfl ?_;rw[w3];have T4:PT τ4 d b t3 a l3 RP:=by rw[ht3,j0,WI];exact T.1 p
  have yC:=T.2.2.2 _ _ _ (by decide) yB;have z1':=T.2.2.1 _ _ o z1;have Sc:l3.length<=100000010:=by rw[j0];split<;>simp<;>omega
  refine Yk (Z rfl (Xg (Z (Y9 _ _ 0 4 true 1 _ .i64 3 (by decide) yC) (Z (ru (i:=0+3) yC rfl rfl) ?_))));refine Xe hP rfl g46.ok rfl (p328 T4 z1' q (h92 (h9.symm)) (λ_=>by omega) λτ5 H=>?_);rw[<-he,<-Sk,<-lU]at H;rw[<-he];have B5':∀c row,c≠d->ai J c=.box row->ai τ5 c=.box row:=λc row hc e=>H.2.2.1 _ _ hc (B4 _ _ hc e);refine Z (QM ..) (Ya (λV=>?_) (λV=>?_))
  ·exact L _ H.1 B5'
  ·have V:e=0:=by simpa using V
   refine Z rfl (Yk (Z rfl (Yf ?_)));rw[V]at L H;exact L _ H.1 B5'
def cH(s:St):St:={ s with s0:={ s.s0 with told:=[] },s1:={ s.s1 with told:=[] } }
theorem p107(b:Bk)(s:St)(hs:ba 1000000000 s)(a:Ac)(d e:Int)(f:St)(l':List Ev)(h60:PC 16 [dd b,bN s,.agg (iK a)] (O d))
 (hz:e≠0->f=eG/\l'=[])(p:d≠0->e=d)(mn:d=0->0<=a.op/\a.op<=4)
 (kh:d=0->∀J i,P0 J i 4 b (cH s) a 1000->∀K:KT,(∀j,(e=0->∃fu,PT j i b f a l' fu)->(∀c row,c≠i->ai J c=.box row->ai j c=.box row)->K (O e) j)->VV.call .gP [.func (.func (18+a.op.toNat)) [.ak i 0] []] J K) :
  PC 6 [dd b,bN s,.agg (iK a)] (.bw [bN f,.aX false false 7 (l'.map cS),O e]):=by
 refine Zo hP g6.ok rfl ?_;rw[H3.e];unfold g6;dsimp only;refine au (bD h60 g16.ok ?_);refine Z (QM ..) (Ya (λh=>?_) (λh=>?_))
 ·have h:d≠0:=by simpa using h
  have he:=p h;obtain⟨rfl,rfl⟩:=hz (by rw[he];exact h);rw[<-he];refine au ?_;exact⟨[],aA.bw (.cons SB.zero.agg (.cons (aA.nl 7) (.cons (aA.ro rfl) .nil)))⟩
 have h:d=0:=by simpa using h
 refine au (d59 hs (SB.mk (RI.ro _) (RI.ro _) (RI.ro _) (RI.ro _) (RT.ro _) (RI.ro _) (RI.ro _) (RI.ro _) (RI.ro _) (RT.ro _) (RI.ro _)) (rd:=[]) ?_);dsimp only[jL,hJ,CZ,rU];simp only[A1,Cb,Cm,Cz,Al,Nat.reduceAdd];refine au ?_;have kh:=kh h;have mn:=mn h;clear h60 p;have mn:a.op=0\/a.op=1\/a.op=2\/a.op=3\/a.op=4:=by omega
 rcases mn with h0|h0|h0|h0|h0
 all_goals
  rw[h0]at kh;refine Z (v:=.ak 16 _) (rd:=[]) (by rw[h0];rfl) ?_;refine au ?_;refine kh _ 15 ⟨rfl,rfl,rfl,rfl,rfl,rfl,rfl,rfl,rfl,rfl,rfl,rfl⟩ _ λj A r=>?_;have w:=r 3 _ (by decide) rfl;clear r kh;refine Z (QM ..) (Ya (λhe=>?_) (λhe=>?_))
  ·have he:e≠0:=by simpa using he
   obtain⟨rfl,rfl⟩:=hz he;refine ag (Z5 w rfl rfl rfl λτ2 o k2 y=>Zp (Z9 o rfl) ?_);exact⟨[],aA.bw (.cons SB.zero.agg (.cons (aA.nl 7) (.cons (aA.ro rfl) .nil)))⟩
  have he:e=0:=by simpa using he
  obtain⟨fu,lv,z,B⟩:=A he;refine Xd rfl (Xd rfl (Ze (v:=bN f) (ld z rfl) (Yd _) (Xd rfl (Xd rfl (Ze (v:=lv) (ld z rfl) (Yd _) ?_)))));refine XW w (XH rfl) rfl rfl λτ2 o k2 y=>?_;refine Xo (by rfl) (Zp (Z9 o rfl) ?_);rw[he];exact⟨Ao τ2.length,aA.bw (.cons (aA.ro rfl) (.cons (B.mono y).Iz (bA.ro rfl)))⟩
theorem Qbl{b:Bk}(h:(bO b).1=0){c:Cd}(hc:c∈b.aj):b_ b.aj true 1 c.bp=true/\eF 0 c.bp<=200/\0<=c.cost/\c.cost<=999:=by
 have k:=Te h c hc;simp only[eQ,cw,AA,fe]at k;obtain⟨_,d,_,_,_,_,_,_,f,i,_,_⟩:=k;have j:=zO 0 c.bp (by omega) (by omega);have o:=zO 0 c.dead (by omega) (by omega);have p:=zO 0 c.dw (by omega) (by omega);unfold pN at f;exact⟨i,by omega,d.1,d.2⟩
theorem Tv{n:Nat}{l l':List Int}{most:Int}(h:Zn n l most=true)(hs:∀x∈l',x∈l)(hl:l'.length<=l.length):Zn n l' most=true:=by
 rw[Ql]at *;exact⟨by omega,λx b=>h.2 x (hs x b)⟩
theorem cc.cH{b:Bk}{s:St}(h:cc b s):cc b (cH s):=by
 obtain⟨hd,h0,h1,un,at_⟩:=h;exact⟨hd,⟨h0.aY,h0.aW,h0.most,h0.az,h0.hand,h0.ao,Tv (l':=[]) h0.told (by simp) (by simp),h0.af⟩,⟨h1.aY,h1.aW,h1.most,h1.az,h1.hand,h1.ao,Tv (l':=[]) h1.told (by simp) (by simp),h1.af⟩,un,at_⟩
theorem gp.yi{b:Bk}{x:Sd}(h:gp b x){k:Nat}(hk:k<x.hand.length){cd:Cd}(j:0<=cd.cost/\cd.cost<=x.aW)(hg:x.ao.length+1<=1000000):gp b { x with hand:=x.hand.eraseIdx k,aW:=AF.wrap (x.aW-cd.cost),ao:=if cd.unit then x.ao else x.ao++[x.hand[k]] }:=by
 have d:=h.aW;have hw:AF.wrap (x.aW-cd.cost)=x.aW-cd.cost:=by
  have:=d.2;simp only[i5,AA,fe]at this;exact Bb _ (by omega)
 have f:=Ql.1 h.hand;refine⟨h.aY,?_,h.most,h.az,Tv h.hand (λy i=>List.mem_of_mem_eraseIdx i) (List.length_eraseIdx_le ..),?_,h.told,h.af⟩
 ·show 0<=AF.wrap _/\i5 (AF.wrap _)=true;rw[hw];have:=d.2;simp only[i5,AA,fe]at this ⊢;omega
 ·show Zn _ (if cd.unit then _ else _) _=true;split
  ·exact h.ao
  ·exact Zr h.ao (by have:=f.2 _ (AI hk);omega) (by omega)
theorem cc.yi{b:Bk}{t:St}(h:cc b t)(h01:m=0\/m=1){k:Nat}(hk:k<(t.side m).hand.length){cd:Cd}(d:0<=cd.cost/\cd.cost<=(t.side m).aW)(hg:(t.side m).ao.length+1<=1000000):cc b (gz t m k (t.side m).hand[k] cd):=by
 obtain⟨hd,h0,h1,un,at_⟩:=h;rcases h01 with rfl|rfl
 ·exact⟨hd,h0.yi hk d hg,h1,un,at_⟩
 ·exact⟨hd,h0,h1.yi hk d hg,un,at_⟩
theorem Qbx(t:St)(h01:m=0\/m=1){k:Nat}(hk:k<(t.side m).hand.length)(c:Int)(cd:Cd):Xj (gz t m k c cd)<=Xj t:=by
 have h:=E2 hk;have b:∀g:List Int,(if cd.unit then g else g++[c]).length<=g.length+1:=λg=>by split<;>simp
 rcases h01 with rfl|rfl
 ·have hk:k<t.s0.hand.length:=hk;have h:(t.s0.hand.eraseIdx k).length=t.s0.hand.length-1:=h;have b:=b t.s0.ao;have e:Xj (gz t 0 k c cd)=((t.s0.az.length:Int)+(t.s0.hand.eraseIdx k).length+(if cd.unit then t.s0.ao else t.s0.ao++[c]).length+t.s0.af.length)+(t.s1.az.length+t.s1.hand.length+t.s1.ao.length+t.s1.af.length):=rfl;rw[e,Xj,h];omega
 ·have hk:k<t.s1.hand.length:=hk;have h:(t.s1.hand.eraseIdx k).length=t.s1.hand.length-1:=h;have b:=b t.s1.ao;have e:Xj (gz t 1 k c cd)=((t.s0.az.length:Int)+t.s0.hand.length+t.s0.ao.length+t.s0.af.length)+(t.s1.az.length+(t.s1.hand.eraseIdx k).length+(if cd.unit then t.s1.ao else t.s1.ao++[c]).length+t.s1.af.length):=rfl;rw[e,Xj,h];omega
def Lm(a:Ac)(c:Int):Ev:=⟨1,a.side,c,0,a.target,0,[]⟩
def y9(b:Bk)(a:Ac)(c:Int)(cd:Cd)(t1:St):St×List Ev:=if (cd.unit && !YZ b t1 a.side c)=true then (Qy t1 a.side c,[Lm a c]++[⟨2,a.side,c,t1.next,0,0,[]⟩])else (t1,[Lm a c])
def RU(b:Bk)(a:Ac)(cd:Cd)(t2:St)(l2:List Ev):Int×St×List Ev×Int:=
 if (runs b a.side a.target cd.bp t2 1000).1=190 then (0,(bV b (runs b a.side a.target cd.bp t2 1000).2.1 3).1,l2++(runs b a.side a.target cd.bp t2 1000).2.2.2++[(bV b (runs b a.side a.target cd.bp t2 1000).2.1 3).2],1000)
 else ((runs b a.side a.target cd.bp t2 1000).1,(runs b a.side a.target cd.bp t2 1000).2.1,l2++(runs b a.side a.target cd.bp t2 1000).2.2.2,(runs b a.side a.target cd.bp t2 1000).2.2.1)
def v_(b:Bk)(t:St)(l:List Ev)(fu:Int):Int×St×List Ev:=if (bK b t [] fu).1=0 then (0,(bK b t [] fu).2.1,l++(bK b t [] fu).2.2.1)else ((bK b t [] fu).1,eG,[])
def sr(b:Bk)(x:Int×St×List Ev×Int):Int×St×List Ev:=if x.1≠0 then (x.1,eG,[])else if x.2.1.phase=2 then (0,x.2.1,x.2.2.1)else v_ b x.2.1 x.2.2.1 x.2.2.2
def QR(b:Bk)(t:St)(a:Ac):Int×St×List Ev:=
 let c:=((t.side a.side).hand[a.place.toNat]?).getD 0
 let d:=(b.aj[c.toNat]?).getD default
 let x:=y9 b a c d (gz t a.side a.place.toNat c d)
 sr b (RU b a d x.1 x.2)
theorem Ll(b:Bk)(x:Int×St×List Ev×Int):(sr b x).1≠0->(sr b x).2.1=eG/\(sr b x).2.2=[]:=by
 unfold sr v_;split
 ·exact λ_=>⟨rfl,rfl⟩
 ·split
  ·exact λh=>absurd rfl h
  ·split
   ·exact λh=>absurd rfl h
   ·exact λ_=>⟨rfl,rfl⟩
theorem qY{b:Bk}{t:St}(h:cc b t):bB t<=14:=by
 have h0:=h.s0.af;have h1:=h.s1.af;have l:∀x:List Th,eN x<=x.length:=λx=>by exact PQ x
 have d:=l t.s0.af;have f:=l t.s1.af;unfold bB;omega
theorem ZcM{b:Bk}{t:St}{C:Nat}(h:cu b 0 C t){c:Int}(h01:m=0\/m=1)(hn:YZ b t m c=false):cu b 0 (C+1) (Qy t m c):=by
 have f:=h.aj;have d:=h.told;rcases h01 with rfl|rfl
 ·obtain⟨k1,k2⟩:=Za7 h.may hn;exact⟨k1,d,by rw[k2];omega⟩
 ·obtain⟨k1,k2⟩:=Ya7 h.may hn;exact⟨k1,d,by rw[k2];omega⟩
theorem YeA{b:Bk}(hf:aN b=true)(y:Yg b.aj)(jY:b.aj.length<=61)(c6:(bO b).1=0){t:St}{C:Nat}(hS:cu b 0 C t)(hC:C+210000<=1000000){a:Ac}(h01:a.side=0\/a.side=1)(Mq:0<=a.place)(CC:a.place<((t.side a.side).hand.length:Int))
 (mJ:((b.aj[(((t.side a.side).hand[a.place.toNat]?).getD 0).toNat]?).getD default).cost<=(t.side a.side).aW){J:List U}{N n:Nat}(P:P0 J N n b t a 1000)
 (p:∀s,((QR b t a).1=0->∃fu,PT s N b (QR b t a).2.1 a (QR b t a).2.2 fu)->(∀c row,c≠N->ai J c=.box row->ai s c=.box row)->K (O (QR b t a).1) s):VV.call .gP [.func (.func 18) [.ak N 0] []] J K:=by
 obtain⟨k,Q⟩:∃k:Nat,a.place=k:=⟨a.place.toNat,by omega⟩;have rO:a.place.toNat=k:=by omega
 have B:k<(t.side a.side).hand.length:=by omega
 obtain⟨c,Y⟩:∃c,c=(t.side a.side).hand[k]:=⟨_,rfl⟩;have F:(t.side a.side).hand[k]?=some c:=by rw[Y];simp[B]
 have S:0<=c/\c<b.aj.length:=by
  have h:=hS.may;have D:Zn b.aj.length (t.side a.side).hand 10=true:=by rcases h01 with e|e<;>rw[e];exact h.s0.hand;exact h.s1.hand
  rw[Y];exact(Ql.1 D).2 _ (AI _)
 obtain⟨f,E⟩:∃f,b.aj[c.toNat]?=some f:=⟨b.aj[c.toNat]'(by omega),by simp[show c.toNat<b.aj.length by omega]⟩;have iO:f∈b.aj:=Au E;obtain⟨p1,p2,p3,p4⟩:=Qbl c6 iO;have e1:QR b t a=sr b (RU b a f (y9 b a c f (gz t a.side k c f)).1 (y9 b a c f (gz t a.side k c f)).2):=by
  simp only[QR,rO,F,Cw,E]
 rw[rO,F,Cw,E,Cw]at mJ;rw[e1]at p;have W8:bz f.bp=true:=by
  simp only[aN,QE,AA,C1]at hf;have:=hf.1.2 f iO;simp only[gq,AA]at this;exact this.2.1
 have Cu:=Zdu c6 jY p1 p2;have h200:=(Ds Cu).2;have DP:Xs b a.side 1000 f.bp=false:=by
  rcases h01 with e|e<;>simp[Xs,e,Cu]
 have tV:(t.side a.side).ao.length+1<=1000000:=by
  have:=hS.aj;unfold Xj at this;rcases h01 with e|e<;>rw[e]
  ·show t.s0.ao.length+1<=_;omega
  ·show t.s1.ao.length+1<=_;omega
 have IF:=hS.may.yi h01 B ⟨p3,mJ⟩ tV;rw[<-Y]at IF;have DM:TB 0 (gz t a.side k c f):=by
  have:=hS.told;rcases h01 with e|e<;>rw[e]<;>exact this
 have hC1:=Qbx t h01 B c f;have hSc:=hS.aj;generalize z:gz t a.side k c f=t1 at *;have T:cu b 0 C t1:=⟨IF,DM,by omega⟩;have IW:=Qs.2 ⟨c6,IF⟩;have h46:PC 41 [dd b,bN t1,O a.side,O c] (vV b t1 a.side c):=by
  rcases h01 with e|e<;>rw[e]
  ·exact ZeO b hf y t1 T.le IW c
  ·exact YeO b hf y t1 T.le IW c
 obtain⟨i,hE,V,Wd⟩:∃i:St×Ev×Bool,vV b t1 a.side c=.bw [bN i.1,tj i.2.1,.bool i.2.2]/\i.2.2 = !YZ b t1 a.side c/\(i.2.2=true->i.1=Qy t1 a.side c/\i.2.1=⟨2,a.side,c,t1.next,0,0,[]⟩):=by
  unfold vV;cases hn:YZ b t1 a.side c with
  |true=>exact⟨(eG,mr,false),rfl,rfl,λh=>by cases h⟩
  |false=>exact⟨(Qy t1 a.side c,⟨2,a.side,c,t1.next,0,0,[]⟩,true),rfl,rfl,λ_=>⟨rfl,rfl⟩⟩
 rw[hE]at h46;obtain⟨d,hx2⟩:∃x,x=y9 b a c f t1:=⟨_,rfl⟩;have G:d.1=if (f.unit&&i.2.2)=true then i.1 else t1:=by
  rw[hx2,y9,V];split
  ·rw[(Wd (by simp_all)).1]
  ·rfl
 have X:d.2=if (f.unit&&i.2.2)=true then [⟨1,a.side,c,0,a.target,0,[]⟩]++[i.2.1]else [⟨1,a.side,c,0,a.target,0,[]⟩]:=by
  rw[hx2,y9,V];split
  ·rw[(Wd (by simp_all)).2];rfl
  ·rfl
 have H:cu b 0 (C+1) d.1:=by
  rw[G];split
  ·rename_i D;rw[V]at D;simp only[AA,B9]at D;rw[(Wd (by rw[V,D.2];rfl)).1];exact ZcM T h01 D.2
  ·exact T.mono (by omega) (by omega)
 have vA:=Qs.2 ⟨c6,H.may⟩;rw[<-hx2]at p;have h79:=KK b hf y jY d.1 H.ni a.side a.target 1000 f.bp W8 (by omega) 0 (C+1) H.told (by omega) H.aj (by omega) vA DP;obtain⟨o,hlR⟩:=zy (tg:=a.target) h01 f.bp 1000 H (by omega) (by omega);obtain⟨R,hR⟩:∃R,R=runs b a.side a.target f.bp d.1 1000:=⟨_,rfl⟩;have hG:RU b a f d.1 d.2=if R.1=190 then (0,(bV b R.2.1 3).1,d.2++R.2.2.2++[(bV b R.2.1 3).2],1000)else (R.1,R.2.1,d.2++R.2.2.2,R.2.2.1):=by rw[hR];rfl
 rw[<-hR]at h79 o hlR;clear hR;rw[hG]at p;have o:cu b 12000 (C+201) R.2.1:=o.mono (by omega) (by omega);obtain⟨abG,L,abH⟩:=ON c6 o (r:=3) (by omega);have nF:R.1=0->PC 63 [dd b,bN R.2.1,.aq,O R.2.2.1] (jW (bK b R.2.1 [] R.2.2.1))/\(bK b R.2.1 [] R.2.2.1).2.2.1.length<=100000000:=by
  intro _;have D:=qY o.may;have hN:(aJ (bO b).1 b R.2.1 true=true->12000+12000*(([]:List Tr).length+bB R.2.1+1)<=1000000):=λ_=>by simp;omega
  have hF:C+201+200*((Xm R.2.2.1).toNat+1)+14<=1000000:=by unfold Xm;omega
  exact⟨Nb (q92 b R.2.1 hf y (λ_=>jY) o.ni [] R.2.2.1 12000 (C+201) o.told o.aj hN hF),(Re o.told o.aj hN hF).2⟩
 refine Xe hP rfl g18.ok rfl ?_;by_cases j:R.1=190
 ·simp only[aE j]at p;have A:sr b (0,(bV b R.2.1 3).1,d.2++R.2.2.2++[(bV b R.2.1 3).2],1000)=(0,(bV b R.2.1 3).1,d.2++R.2.2.2++[(bV b R.2.1 3).2]):=by
   unfold sr;rw[aB (by simp),aE L]
  rw[A]at p;refine p225 P hf y hS.ni h01 Q B c F f S.1 E i (λ_=>by rw[z];exact h46) d.1 d.2 (by rw[z];exact G) X R h79 (by omega) o.ni (bV b R.2.1 3).1 (d.2++R.2.2.2++[(bV b R.2.1 3).2]) 1000 (by rw[aE j]) (by rw[aE j]) (by rw[aE j]) (0,eG,[],0) (λ_ h=>absurd L h) (by simp) 0 _ _ (by rw[aE (.inl j),aE L]) (by rw[aE L]) (by rw[aE L]) λs h1 h2=>p s (λe=>⟨_,h1 e⟩) h2
 ·simp only[aB j]at p;by_cases h0:R.1=0
  ·obtain⟨q1,q2⟩:=nF h0;by_cases w:R.2.1.phase=2
   ·have A:sr b (R.1,R.2.1,d.2++R.2.2.2,R.2.2.1)=(0,R.2.1,d.2++R.2.2.2):=by
     unfold sr;rw[aB (by simp[h0]),aE w]
    rw[A]at p;refine p225 P hf y hS.ni h01 Q B c F f S.1 E i (λ_=>by rw[z];exact h46) d.1 d.2 (by rw[z];exact G) X R h79 (by omega) o.ni R.2.1 (d.2++R.2.2.2) R.2.2.1 (by rw[aB j]) (by rw[aB j]) (by rw[aB j]) (0,eG,[],0) (λ_ h=>absurd w h) (by simp) 0 _ _ (by rw[aE (.inr h0),aE w]) (by rw[aE w]) (by rw[aE w]) λs h1 h2=>p s (λe=>⟨_,h1 e⟩) h2
   ·have A:(sr b (R.1,R.2.1,d.2++R.2.2.2,R.2.2.1)).1=(bK b R.2.1 [] R.2.2.1).1/\((bK b R.2.1 [] R.2.2.1).1=0->sr b (R.1,R.2.1,d.2++R.2.2.2,R.2.2.1)=(0,(bK b R.2.1 [] R.2.2.1).2.1,d.2++R.2.2.2++(bK b R.2.1 [] R.2.2.1).2.2.1)):=by
     unfold sr;rw[aB (by simp[h0]),aB w];unfold v_;split
     ·rename_i hq;exact⟨hq.symm,λ_=>rfl⟩
     ·rename_i hq;exact⟨rfl,λh=>absurd h hq⟩
    rw[A.1]at p;refine p225 P hf y hS.ni h01 Q B c F f S.1 E i (λ_=>by rw[z];exact h46) d.1 d.2 (by rw[z];exact G) X R h79 (by omega) o.ni R.2.1 (d.2++R.2.2.2) R.2.2.1 (by rw[aB j]) (by rw[aB j]) (by rw[aB j]) (bK b R.2.1 [] R.2.2.1) (λ_ _=>q1) q2 _ _ _ (by rw[aE (.inr h0),aB w]) (by rw[aB w]) (by rw[aB w]) λs h1 h2=>p s (λe=>⟨_,by rw[A.2 e];exact h1 e⟩) h2
  ·have A:sr b (R.1,R.2.1,d.2++R.2.2.2,R.2.2.1)=(R.1,eG,[]):=by
    unfold sr;rw[aE h0]
   rw[A]at p;refine p225 P hf y hS.ni h01 Q B c F f S.1 E i (λ_=>by rw[z];exact h46) d.1 d.2 (by rw[z];exact G) X R h79 (by omega) o.ni R.2.1 (d.2++R.2.2.2) R.2.2.1 (by rw[aB j]) (by rw[aB j]) (by rw[aB j]) (0,eG,[],0) (λh _=>by rcases h with h|h;exact absurd h h0;exact absurd h j) (by simp) R.1 _ _ (by rw[aB (by omega)]) rfl rfl λs h1 h2=>p s (λe=>absurd e h0) h2
def Jd(n:Nat)(τ:List U)(l:List Ev)(v:I):Prop:=
 (l=[]/\v=.aq)\/∃Q,n+14<=Q/\0<l.length/\v=.sl Q 0 l.length false/\ai τ Q=.rows 7 (l.map k_)
def yS(n:Nat)(s t:St)(τ:List U):Prop:=(t=s/\CP τ n s)\/ai τ (n+11)=.box (aH t)
theorem yS.cq{n:Nat}{s t:St}{τ τ':List U}(h:yS n s t τ)(k:∀c,c<n+12->ai τ' c=ai τ c):yS n s t τ':=by
 rcases h with ⟨h1,h2⟩|h1
 ·refine .inl ⟨h1,by rw[k _ (by omega)];exact h2.box,λi x b=>?_⟩;have d:i<11:=(eS b).1;rw[k _ (by omega)];exact h2.key i x b
 ·exact .inr (by rw[k _ (by omega)];exact h1)
theorem yS.sb{n:Nat}{s t:St}{τ:List U}(h:yS n s t τ):∃cs rd,ai τ (n+11)=.box cs/\cs.length=23/\aO true 0 23 cs=some (.agg cs)/\SB τ rd cs t/\(∀c∈rd,n<=c/\c<n+11)/\(∀c∈rd,ai τ c≠.dead):=by
 rcases h with ⟨rfl,h2⟩|h1
 ·refine⟨_,(Ao 11).map (n + ·),h2.box,rfl,rfl,SB.copy h2.key λi b=>By.2 ⟨i,DW.2 b,rfl⟩,λc d=>?_,λc d=>?_⟩
  ·obtain⟨i,b,rfl⟩:=By.1 d;have:=DW.1 b;omega
  ·obtain⟨i,b,rfl⟩:=By.1 d;have:=DW.1 b;have f:i<(hJ t).length:=by simpa[hJ,rU]using this
   rw[h2.key i _ (Cv f)]
   match i,this with
   |0,_|1,_|2,_|3,_|4,_|5,_|6,_|7,_|8,_|9,_|10,_=>simp[hJ,rU]
 ·exact⟨_,[],h1,rfl,rfl,SB.ro t,by simp,by simp⟩
structure RX (b:Bk) (s:St) (n:Nat) (l:List Ev) (v:I) (τ:List U):Prop where
 ln:n+14<=τ.length
 n4:4<=n
 k0:ai τ 0=.box (cf b)
 k1:ai τ 1=.box (aH s)
 k2:ai τ 2=.box aU
 ev:ai τ (n+12)=.box [v]
 row:Jd n τ l v
def wE(n:Nat)(τ τ':List U):Prop:=τ.length<=τ'.length/\∀c y,ai τ c=y->y≠.dead->(c<n\/n+13<=c)->(∀rs,y≠.rows 7 rs)->ai τ' c=y
theorem wE.trans{n:Nat}{a b c:List U}(h:wE n a b)(k:wE n b c):wE n a c:=⟨CI h.1 k.1,λx y h1 h2 h3 h4=>k.2 x y (h.2 x y h1 h2 h3 h4) h2 h3 h4⟩
theorem dk.Em{n:Nat}{τ τ':List U}{e:List Nat}(h:dk τ τ' e)(he:∀ c∈e,(n<=c/\c < n + 13)\/(∃ b,ai τ c=.rows 7 b)):wE n τ τ':=⟨h.1,λc y h1 h2 h3 h4=>h.get h1 h2 (λd=>by
 rcases he c d with q|⟨b,q⟩
 ·omega
 ·exact h4 b (h1.symm.trans q))⟩
theorem SR.Em{n:Nat}{τ τ':List U}{S:List FS}(h:SR n τ S v)(k:wE n τ τ'):SR n τ' S v:=by
 rcases h with h|⟨R,rows,h1,h2,h3,h4,h5,h6⟩
 ·exact .inl h
 ·refine .inr ⟨R,rows,h1,h2,h3,k.2 R _ h4 (by simp) (by omega) (by simp),h5,λi b=>?_⟩;obtain⟨d,f,j,o⟩:=h6 i b;exact⟨d,f,j,o.bx (λc y r p=>k.2 c _ p (by simp) (by omega) (by simp))⟩
theorem RX.I_{b:Bk}{s:St}{n:Nat}{l l':List Ev}{v':I}{τ τ':List U}(h:RX b s n l v τ){e:List Nat}(he:∀c∈e,n<=c)(hA:dk τ τ' e)(rN:ai τ' (n+12)=.box [v'])(f:Jd n τ' l' v'):RX b s n l' v' τ':=by
 have i:=h.ln;have n4:=h.n4;have d:∀c,c<n->c∉e:=λc o j=>by have:=he c j;omega
 exact⟨CI i hA.1,n4,hA.get h.k0 (by simp) (d _ (by omega)),hA.get h.k1 (by simp) (d _ (by omega)),hA.get h.k2 (by simp) (d _ (by omega)),rN,f⟩
theorem RX.mono{b:Bk}{s:St}{n:Nat}{l:List Ev}{τ τ':List U}(h:RX b s n l v τ){e:List Nat}(he:∀c∈e,n<=c/\c<n+12)(hA:dk τ τ' e):RX b s n l v τ':=by
 refine h.I_ (λc d=>(he c d).1) hA (hA.get h.ev (by simp) (λd=>by have:=he _ d;omega)) ?_;rcases h.row with h1|⟨Q,h1,h2,h3,h4⟩
 ·exact .inl h1
 ·exact .inr ⟨Q,h1,h2,h3,hA.get h4 (by simp) (λd=>by have:=he _ d;omega)⟩
theorem Qcf:∀(rd:List Nat) (J:List U),dk J (iw J rd) rd
 |[],J=>⟨AO _,λ_ _ _=>rfl⟩
 |b::rd,J=>by
  have h:=Qcf rd (J.set b .dead);refine⟨by have:=h.1;simpa[iw]using this,λc f d=>?_⟩;simp only[Az,not_or]at d;show ai (iw (J.set b .dead) rd) c=_;rw[h.2 c (by simpa using f) d.2,Qb _ f d.1]
theorem Zek{b:Bk}{s:St}{n:Nat}{l:List Ev}{τ:List U}(h:RX b s n l v τ)(hl:l.length<=1000000)(e:Ev)(p:∀y τ',RX b s n (l++[e]) y τ'->wE n τ τ'->(∀c,c<n+12->ai τ' c=ai τ c)->K .aP τ') :
  VV.wr (Yq 7 1 bY [(0,7)] [.agg (k_ e)] τ) τ λt J=>VV.wr (Yh 7 72 [v,t] J) J λt2 J=>VV.wr (Xh 1 [.ak (n+12) 0,t2] J) J K:=by
 have r:a_ [k_ e]=true:=by unfold k_;split<;>rfl
 have z:=h.ln;refine Qd (Ib 7 τ (.agg (k_ e)) bY (k_ e) (by unfold k_;split<;>rfl) (by unfold k_;split<;>rfl)) (Qf _ _) ?_;have w:=Xc τ (.rows 7 [k_ e]);have hlen:(l++[e]).length=l.length+1:=by simp
 rcases h.row with ⟨rfl,rfl⟩|⟨Q,r1,A,rfl,o⟩
 ·refine Qd (X8 7 72 w rfl r (by simp)) (Qf _ _) ?_;have d:=Zb [.rows 7 [k_ e]] (Zb [.rows 7 [k_ e]] h.ev (by simp));refine Qd (cO (row':=[.sl (τ.length + 1) 0 1 false]) d (by simp;rfl) rfl rfl) (Ye _ (Yb d)) ?_;have f:dk τ ((τ ++ [U.rows 7 [k_ e]] ++ [U.rows 7 [k_ e]]).set (n + 12) (.box [.sl (τ.length + 1) 0 1 false])) [n + 12]:=⟨by simp;try omega,λc i j=>by
   rw[Qb _ (by simp;omega) (by simpa using j),Zg _ (by simp;omega),Zg _ i]⟩
  refine p (.sl (τ.length+1) 0 1 false) _ (h.I_ (e:=[n+12]) (by simp) f (Zc _ (Yb d)) (.inr ⟨τ.length+1,by omega,by simp,rfl,?_⟩)) (f.Em (by simp)) (λc i=>f.2 c (by omega) (by simp;omega));have:=Xc (τ++[U.rows 7 [k_ e]]) (.rows 7 [k_ e]);exact Qa (by simpa using this) (by simp) (by omega)
 ·refine Qd (Q8 7 72 (Zb _ o) w (by simp) rfl r (by omega)) (YK _ _ (by have:=Yb o;simp;omega)) ?_;have d:=Zb [.rows 7 (l.map k_ ++ [k_ e])] (Qa (c:=Q) (x:=.dead) (Zb [.rows 7 [k_ e]] h.ev (by simp)) (by simp) (by omega));refine Qd (cO (row':=[.sl (τ.length + 1) 0 (l.length + 1) false]) d (by simp;rfl) rfl rfl) (Ye _ (Yb d)) ?_;have f:dk τ (((τ ++ [U.rows 7 [k_ e]]).set Q .dead ++ [U.rows 7 (l.map k_ ++ [k_ e])]).set (n + 12) (.box [.sl (τ.length + 1) 0 (l.length + 1) false])) [n + 12,Q]:=⟨by simp;try omega,λc i j=>by
   simp only[Az,EZ,or_false,not_or]at j;rw[Qb _ (by simp;omega) j.1,Zg _ (by simp;omega),Qb _ (by simp;omega) j.2,Zg _ i]⟩
  refine p (.sl (τ.length+1) 0 (l.length+1) false) _ (h.I_ (e:=[n+12,Q]) (by simp;omega) f (Zc _ (Yb d)) (.inr ⟨τ.length+1,by omega,by simp,by rw[hlen],?_⟩)) (f.Em (by simp only[Az,EZ,or_false];rintro c (rfl|rfl);exact .inl (by omega);exact .inr ⟨_,o⟩)) (λc i=>f.2 c (by omega) (by simp;omega));have:=Xc ((τ++[U.rows 7 [k_ e]]).set Q .dead) (.rows 7 (l.map k_++[k_ e]));exact Qa (by simpa using this) (by simp) (by omega)
theorem Xdj{s:St}{v:Int×Int}(h:(kZ s kd k v).2.2=0):(kZ s kd k v).2.1.kind=kd:=by
 unfold kZ at *;by_cases c:i5 v.1=true
 ·rw[aE c]
 ·rw[aB c]at h;cases h
theorem Zb9{s:St}{i:Nat}{u:Th}{v:Int×Int}(h:(jH s kd k i id u v).2.2=0):(jH s kd k i id u v).2.1.kind=kd:=by
 unfold jH at *;by_cases c:i5 v.1=true
 ·rw[aE c]
 ·rw[aB c]at h;cases h
theorem Qc2{s:St}{b:Int->Int×Int}{d:Th->Int×Int}(h:(gm kd b d s id k).2.2=0):(gm kd b d s id k).2.1.kind=kd:=by
 unfold gm at *;by_cases c:id=0
 ·rw[aE c]at *;exact Xdj h
 rw[aB c]at *;by_cases c:id<0
 ·rw[aE c]at h;cases h
 rw[aB c]at *;cases f:gk s.s0.af id with
 |some i=>rw[f]at h;exact Zb9 h
 |none=>
  rw[f]at h;cases j:gk s.s1.af id with
  |some i=>rw[j]at h;exact Zb9 h
  |none=>rw[j]at h;cases h
theorem Qdv{b:Bk}{t:St}{n:Int}(h:(eX b t id k n).2.2=0):cS (eX b t id k n).2.1=k_ (eX b t id k n).2.1:=by
 have:(eX b t id k n).2.1.kind=5:=Qc2 h;unfold k_;rw[aB (by rw[this];decide)]
theorem Qe5(b:Bk)(hf:aN b=true)(bn:Yg b.aj)(he:(bO b).1=0){s:St}(wk:s.mover=0\/s.mover=1){n:Nat}{t:St}{l:List Ev}{τ:List U}(h:RX b s n l v τ)(hT:yS n s t τ)(hM:cc b t)(hl:l.length<=1000000){P:I}(hx:yO n τ x P)
 (hOk:∀f e o τ',(∀r,ig b s.mover (x::r) t l=ig b s.mover r f (l++[e]))->cc b f->RX b s n (l++[e]) o τ'->yS n s f τ'->wE n τ τ'->K (O 0) τ')
 (xz:∀e τ',e≠0->(∀r,ig b s.mover (x::r) t l=(eG,[],e))->wE n τ τ'->K (O e) τ') :
  VV.call .gP [P] τ K:=by
 have A:=h.ln;cases hx with
 |block h1 h2 h3 h4=>
  rename_i p q a a' d;refine Xe hP rfl g81.ok rfl ?_;show g81.u VV [.ak (n+12) 0,.ak 1 0,.ak p 0,.ak q 0] τ K;rw[H4.e];unfold g81;dsimp only;refine Z (ld h.ev rfl) (Z rfl (Z (v:=O s.mover) (ld h.k1 rfl) (Z (ld h3 rfl) (Z rfl (Z (v:=O d) (ld h4 rfl) (Z (v:=.agg (la ⟨12,s.mover,0,a,d,0,[]⟩)) (rd:=[]) rfl ?_))))));refine Zek h hl ⟨12,s.mover,0,a,d,0,[]⟩ (λo τ' h2 B C=>?_);exact hOk t _ o τ' (λr=>rfl) hM h2 (hT.cq C) B
 |harm h1 h2 h3 h4=>
  rename_i p q id k;refine Xe hP rfl g77.ok rfl ?_;show g77.u VV [.ak 0 0,.ak (n+11) 0,.ak p 0,.ak 1 0,.ak q 0,.ak (n+12) 0] τ K;rw[H6.e];unfold g77;dsimp only;obtain⟨cs,rd,Q,b2,b3,R,w,S⟩:=hT.sb;have h0:1-s.mover=0\/1-s.mover=1:=by omega
  have hmt:aJ (bO b).1 b t true=true:=Qs.2 ⟨he,hM⟩;refine Z (ld h.k0 rfl) (Z (ld Q b3) (Z (ld h3 rfl) (Z rfl (Z (v:=O s.mover) (ld h.k1 rfl) (Z (Bv ..) (Z (ld h4 rfl) ?_))))));rw[ck (n:=1-s.mover) (by omega) (by omega)];refine Ybk (rd:=rd) (c22 b hf bn t (hM.le.mono (by decide)) hmt id (1-s.mover) k h0) rfl g78.ok.plain (.cons (aA.ro rfl) <| .cons R.agg <| .cons (aA.ro rfl) <| .cons (aA.ro rfl) <| .cons (aA.ro rfl) .nil) S ?_;have T:=YbL hM h0 (id:=id) (n:=k);have D:∀r,ig b s.mover (.harm id k::r) t l=if (eX b t id (1-s.mover) k).2.2=0 then ig b s.mover r (eX b t id (1-s.mover) k).1 (l++[(eX b t id (1-s.mover) k).2.1])else (eG,[],(eX b t id (1-s.mover) k).2.2):=λr=>rfl
  have V:=Qdv (b:=b) (t:=t) (id:=id) (k:=1 - s.mover) (n:=k);generalize eX b t id (1 - s.mover) k=r at T D V;obtain⟨f,ev,e⟩:=r;have y:=Qcf rd τ;have E:=h.mono (λc i=>⟨(w c i).1,by have:=(w c i).2;omega⟩) y;have hK0:wE n τ (iw τ rd):=y.Em (λc i=>.inl (by have:=w c i;omega));have X:=y.get Q (by simp) (λi=>by have:=w _ i;omega);clear y h1 h2 h3 h4 R w S hT h;have A:n + 14<=(iw τ rd).length:=E.ln;generalize iw τ rd=τ0 at E hK0 X A ⊢;refine Z rfl (Z rfl (Z rfl ?_));refine Qd (v:=.ak τ0.length 0) (rd:=[]) (up:=[(τ0.length,.box aU)]) rfl (Qf _ _) ?_;refine Qd (v:=.ak (τ0 ++ [U.box aU]).length 0) (rd:=[]) (up:=[((τ0 ++ [U.box aU]).length,.box bY)]) rfl (Qf _ _) ?_;have F:=Zb [U.box bY] (Xc τ0 (.box aU));have n8:=Xc (τ0 ++ [U.box aU]) (.box bY);refine Qd (cO (row':=aH f) F rfl rfl rfl) (Ye _ (Yb F)) ?_;have n8':=Qa (c:=τ0.length) (x:=.box (aH f)) n8 (by simp) (by simp);refine Qd (cO (row':=cS ev) n8' rfl rfl rfl) (Ye _ (Yb n8')) ?_;have G:=Zc (.box (cS ev)) (Yb n8');have H:=Qa (c:=(τ0 ++ [U.box aU]).length) (x:=.box (cS ev)) (Zc (.box (aH f)) (Yb F)) (by simp) (by simp);have z:dk τ0 (((τ0 ++ [U.box aU] ++ [U.box bY]).set τ0.length (.box (aH f))).set (τ0 ++ [U.box aU]).length (.box (cS ev))) []:=⟨by simp;try omega,λc i _=>by
   rw[Qb _ (by simp;omega) (by simp;omega),Qb _ (by simp;omega) (by omega),Zg _ (by simp;omega),Zg _ i]⟩
  have hp8:n+14<=(τ0++[U.box aU]).length:=by simp;omega
  generalize ((τ0++[U.box aU]++[U.box bY]).set τ0.length (.box (aH f))).set (τ0++[U.box aU]).length (.box (cS ev))=τ1 at G H z ⊢;generalize (τ0++[U.box aU]).length=p8 at G hp8 ⊢;generalize τ0.length=p7 at H A ⊢;have hR:=E.mono (by simp) z;have hK1:wE n τ τ1:=hK0.trans (z.Em (by simp));refine Z (Xr ..) (Ya (λj=>?_) (λj=>?_))
  ·have j:e=0:=by simpa using j
   subst j;refine Z (ld H rfl) ?_;have L:=z.get X;refine Qd (cO (row':=aH f) L rfl rfl (Py _ _ (by rw[b2];rfl))) (Ye _ (Yb L)) ?_;have N:=dk.set τ1 (n+11) (.box (aH f));have Y:=hR.mono (λc i=>by simp at i;omega) N;refine Z (ld Y.ev rfl) (Z (ld (N.get G (by simp) (by simp;omega)) rfl) ?_);have hT2:yS n s f (τ1.set (n+11) (.box (aH f))):=.inr (Zc _ (Yb L));rw[show [aS ev.kind,O ev.side,O ev.card,O ev.id,O ev.other,O ev.n,aM ev.aj]=k_ ev from V rfl];refine Zek Y hl ev (λo τ' h2 B C=>?_);exact hOk f ev o τ' (λr=>by rw[D];exact aE rfl) (T rfl).1 h2 (hT2.cq C) (hK1.trans ((N.Em (λc i=>.inl (by simp at i;omega))).trans B))
  ·have j:e≠0:=by simpa using j
   exact xz e τ1 j (λr=>by rw[D];exact aB j) hK1
theorem Gr.op{σ0 J:List U}{n by_ k:Nat}{rows:List (List I)}{cs:List I}(hg:Gr σ0 n rows k v J)(hr:cs.all I.cell=true)(f:(2*(k+1)+192)*by_<=2 ^ 48) :
  ∃i rd up σ',Yh n by_ [v,.sl J.length 0 1 true] (J++[.rows n [cs]])=.ok i rd up/\h_ (J++[.rows n [cs]]) up=some σ'/\Gr σ0 n (rows++[cs]) (k+1) i σ':=by
 obtain⟨g1,g2,hg⟩:=hg;have j:=Xc J (.rows n [cs]);rcases hg with ⟨rfl,rfl,rfl⟩|⟨p,b,r,rfl,hb,o⟩
 ·have e:=X8 n by_ (ex2:=true) j rfl (XG hr) (by simpa using f);refine⟨_,_,_,_,e,Qf _ _,by simp;omega,λc d=>?_,.inr ⟨by omega,_,?_,rfl,by have:=Xc (J++[U.rows n [cs]]) (.rows n [cs]);simpa using this,rfl⟩⟩
  ·rw[Zg _ (by simp;omega),Zg _ (by omega),g2 c d]
  ·simp;omega
 ·have e:=Q8 n by_ (ex:=false) (ex2:=true) (Zb [.rows n [cs]] hb) j o rfl (XG hr) f;have s:=Yb hb;refine⟨_,_,_,_,e,YK _ _ (by simp;omega),by simp;omega,λc d=>?_,.inr ⟨by omega,_,?_,rfl,?_,by simp[o]⟩⟩
  ·rw[Zg _ (by simp;omega),Qb _ (by simp;omega) (by omega),Zg _ (by omega),g2 c d]
  ·simp;omega
  ·have:=Xc ((J++[U.rows n [cs]]).set b .dead) (.rows n (rows++[cs]));simpa using this
theorem Yef{s:St}(hs:ba 1000000000 s){J:List U}{n:Nat}(hn:J.length=n){K:I->KT}(f:∀b,b.length=n+12->(∀c y,ai J c=y->y≠.dead->ai b c=y)->CP b n s->K (.ak (n+11) 0) .aP b) :
  VV.call (.call 17) [bN s] J λv J=>VV.wr (Zt aU [] J) J λt J=>VV.wr (Xh 23 [t,v] J) J (K t):=by
 subst hn;refine w59 hs (SB.ro (rd:=[]) s) ?_;have j:(J++hJ s).length=J.length+11:=by simp[hJ,rU]
 refine Zq (row:=jL s J.length) (row':=jL s J.length) rfl rfl rfl ?_;have h11:=Xc (J++hJ s) (.box (jL s J.length));rw[j]at h11 ⊢;refine f _ (by simp[hJ,rU]) (λc y h hd=>Zb _ (Zb _ h hd) hd) ⟨h11,λi x d=>?_⟩;have o:i<11:=(eS d).1;exact Qp (by rw[Bi (by omega),Bc (by omega)];simpa using d)
theorem ZeV(e:Ev):fV (k_ e)=true:=by unfold k_;split<;>rfl
theorem Jd.Iz{n:Nat}{τ:List U}{l:List Ev}(h:Jd n τ l v):∃rd,(∀c∈rd,n+14<=c)/\aA (Go.Ah.hp τ) rd v (.aX false false 7 (l.map k_)):=by
 rcases h with ⟨rfl,rfl⟩|⟨Q,h1,h2,rfl,h4⟩
 ·exact⟨[],by simp,aA.d_ (aA.ro rfl) (λM u d=>d.eZ 7)⟩
 ·refine⟨[Q],by simpa using h1,aA.own h4 (by simp) (by simp) (HO _ _ (by simp)) (λr hr=>?_)⟩;obtain⟨e,_,rfl⟩:=By.1 hr;exact ZeV e
@[reducible] def Ae(t s:St)(n:Nat):List I:=ui t .aq (.sl (n+1) 0 s.s0.az.length false) (.sl (n+2) 0 s.s0.hand.length false) (.sl (n+3) 0 s.s0.ao.length false) (.sl (n+4) 0 s.s0.af.length false) (.sl (n+5) 0 s.s0.told.length false) (.sl (n+6) 0 s.s1.az.length false) (.sl (n+7) 0 s.s1.hand.length false) (.sl (n+8) 0 s.s1.ao.length false) (.sl (n+9) 0 s.s1.af.length false) (.sl (n+10) 0 s.s1.told.length false)
@[reducible] def Af(t s:St):List I:=ui t .aq (aM s.s0.az) (aM s.s0.hand) (aM s.s0.ao) (ly s.s0.af) (aM s.s0.told) (aM s.s1.az) (aM s.s1.hand) (aM s.s1.ao) (ly s.s1.af) (aM s.s1.told)
theorem Zew{τ:List U}{n:Nat}{s:St}(key:∀i x,1<=i->(hJ s)[i]?=some x->ai τ (n+i)=x):∃rd,SB τ rd (Ae { s with an:=[],phase:=0 } s n) { s with an:=[],phase:=0 }:=by
 have b:∀ i,i < 11->n + i∈(Ao 11).map (n + ·):=λi d=>By.2 ⟨i,DW.2 d,rfl⟩;exact⟨(Ao 11).map (n + ·),SB.mk RI.aq (RI.own (key 1 _ (by decide) rfl) (b 1 (by decide)) rfl) (RI.own (key 2 _ (by decide) rfl) (b 2 (by decide)) rfl) (RI.own (key 3 _ (by decide) rfl) (b 3 (by decide)) rfl) (RT.own (key 4 _ (by decide) rfl) (b 4 (by decide)) rfl) (RI.own (key 5 _ (by decide) rfl) (b 5 (by decide)) rfl)
  (RI.own (key 6 _ (by decide) rfl) (b 6 (by decide)) rfl) (RI.own (key 7 _ (by decide) rfl) (b 7 (by decide)) rfl) (RI.own (key 8 _ (by decide) rfl) (b 8 (by decide)) rfl) (RT.own (key 9 _ (by decide) rfl) (b 9 (by decide)) rfl) (RI.own (key 10 _ (by decide) rfl) (b 10 (by decide)) rfl)⟩
theorem Qev{τ:List U}(s:St):SB τ [] (Af { s with an:=[],phase:=0 } s) { s with an:=[],phase:=0 }:=
 SB.mk RI.aq (RI.ro _) (RI.ro _) (RI.ro _) (aA.ro rfl) (RI.ro _) (RI.ro _) (RI.ro _) (RI.ro _) (aA.ro rfl) (RI.ro _)
theorem QeJ(b:Bk){s t:St}{n:Nat}{l:List Ev}{ev:I}{τ:List U}(hR:RX b s n l ev τ)(hT:yS n s t τ) :
  VV.rd (Qc 5 [.ak (n+11) 0] τ) λG=>
  VV.wr (Xh 1 [G,.aq] τ) τ λ_ J=>
  VV.rd (Qc 2 [.ak (n+11) 0] J) λH=>
  VV.wr (Xh 1 [H,(.int .i8 0)] J) J λ_ J=>
  VV.dr (Xf true 23 [.ak (n+11) 0] J) J λr l105 J=>
  VV.dr (Xf false 1 [.ak (n+12) 0] J) J λw l107 J=>
  VV.dr (Xh 23 [.ak 2 0,r] J) J λ_ l108 J=>
  VV.gd (Qg [[],[],[0],[0,1,2],[0,1,2,3]] [l105,l107,l108,([],[]),([],[])]) <|
  VV.opt (fz true 23 (.ak 2 0) J) λr109=>
  (λy J=>∃rd,aA (Go.Ah.hp J) rd y (Db ({ t with an:=[],phase:=0 },l,0))) (.bw [r109,w,(.int .i64 0)]) J:=by
 have S:=hR.ln;have hn4:=hR.n4;have key:∀f d:List I,d.length=23->cellsOf (.agg d)=some d->aO true 0 23 d=some (.agg d)->(∀τ',dk τ τ' [2,n+11]->∃rd,SB τ' rd d { t with an:=[],phase:=0 }) ->
  VV.dr (Xf true 23 [.ak (n+11) 0] ((τ.set (n+11) (.box f)).set (n+11) (.box d))) ((τ.set (n+11) (.box f)).set (n+11) (.box d)) λr l105 J=>
  VV.dr (Xf false 1 [.ak (n+12) 0] J) J λw l107 J=>
  VV.dr (Xh 23 [.ak 2 0,r] J) J λ_ l108 J=>
  VV.gd (Qg [[],[],[0],[0,1,2],[0,1,2,3]] [l105,l107,l108,([],[]),([],[])]) <|
  VV.opt (fz true 23 (.ak 2 0) J) λr109=>
  (λy J=>∃rd,aA (Go.Ah.hp J) rd y (Db ({ t with an:=[],phase:=0 },l,0))) (.bw [r109,w,(.int .i64 0)]) J:=by
  intro f d hlen z B A;have h2:ai ((τ.set (n + 11) (.box f)).set (n + 11) (.box d)) 2=.box aU:=Qa (Qa hR.k2 (by simp) (by omega)) (by simp) (by omega);have C:ai ((τ.set (n + 11) (.box f)).set (n + 11) (.box d)) (n + 12)=.box [ev]:=Qa (Qa hR.ev (by simp) (by omega)) (by simp) (by omega);have D:ai ((τ.set (n + 11) (.box f)).set (n + 11) (.box d)) (n + 11)=.box d:=Zc _ (by simp;omega);have j:dk τ (((τ.set (n + 11) (.box f)).set (n + 11) (.box d)).set 2 (.box d)) [2,n + 11]:=⟨by simp,λc z p=>by
   simp only[Az,EZ,or_false,not_or]at p;rw[Qb _ (by simp;omega) p.1,Qb _ (by simp;omega) p.2,Qb _ z p.2]⟩
  generalize (τ.set (n+11) (.box f)).set (n+11) (.box d)=J at h2 C D j ⊢;refine Ze (ld D B) (Yd _) (Ze (ld C (v:=ev) rfl) (Yd _) (Ze (cO (row':=d) h2 z (by rw[hlen];rfl) (Py _ _ (by rw[hlen];rfl))) (Ye _ (Yb h2)) (Xo ?_ ?_)))
  ·simp[Qg,Ao,B0,Zl,Zs,Qj,bF,df]
  refine Zp (Q7 (Zc _ (Yb h2)) B) ?_;obtain⟨rd,A⟩:=A _ j;have L:Jd n (J.set 2 (.box d)) l ev:=by
   rcases hR.row with h1|⟨Q,h1,h2,h3,h4⟩
   ·exact .inl h1
   ·exact .inr ⟨Q,h1,h2,h3,j.get h4 (by simp) (by simp;omega)⟩
  obtain⟨N,_,P⟩:=L.Iz;exact⟨rd++N,aA.bw (.cons (aA.more A.agg (by simp +contextual)) <| .cons (aA.more P (by simp +contextual)) <| .cons (aA.ro rfl) .nil)⟩
 rcases hT with ⟨rfl,E⟩|hT
 ·have hb:=E.box;refine Z rfl (Qd (cO (row':=Ae t t n) hb rfl rfl rfl) (Ye _ (Yb hb)) ?_);have o:=Zc (.box (Ae t t n)) (Yb hb);refine Z rfl (Qd (cO (row':=Ae { t with an:=[],phase:=0 } t n) o rfl rfl rfl) (Ye _ (Yb o)) ?_);refine key _ _ rfl rfl rfl (λτ' j=>Zew λi x R F=>?_);have R:i<11:=(eS F).1;rw[j.2 (n+i) (by omega) (by simp;omega)];exact E.key i x F
 ·refine Z rfl (Qd (cO (row':=Af t t) hT rfl rfl rfl) (Ye _ (Yb hT)) ?_);have o:=Zc (.box (Af t t)) (Yb hT);refine Z rfl (Qd (cO (row':=Af { t with an:=[],phase:=0 } t) o rfl rfl rfl) (Ye _ (Yb o)) ?_);exact key _ _ rfl rfl rfl (λτ' j=>⟨[],Qev t⟩)
theorem ZeK(b:Bk)(hf:aN b=true)(G:Yg b.aj)(he:(bO b).1=0){s:St}(hM:cc b s)(wk:s.mover=0\/s.mover=1){M:List (Int×Int)}{n:Nat}{S:List FS}(hS:S.length<=100000){τ:List U}(h:SX b s M n S v τ) :
  VV.rd (Xf false 1 [.ak (n+13) 0] τ) λz=>
  VV.rd (Yn [z] τ) λH=>
  VV.loop (λL v93 J=>
  VV.rd (Qn .lss false [(Go.Ah.h0 v93),H] J) λN=>
  VV.test N (
  VV.rd (Zi 1 [z,(Go.Ah.h0 v93)] J) λP=>
  VV.rd (Xf false 1 [P] J) λQ=>
  VV.call .gP [Q] J λA J=>
  VV.rd (Qn .neq false [A,(.int .i64 0)] J) λT=>
  VV.test T (
  VV.rd (XJ aU [] [] J) λV=>
  VV.wr (Xh 23 [.ak 2 0,V] J) J λ_ J=>
  VV.opt (fz true 23 (.ak 2 0) J) λr100=>
  (λd J=>∃rd,aA (Go.Ah.hp J) rd d (Db (Dp (ig b s.mover S s [])))) (.bw [r100,.aq,A]) J) (
  VV.rd (Qn .add false [(Go.Ah.h0 v93),(.int .i64 1)] J) λX=>
  L [X] J)) (
  VV.rd (Qc 5 [.ak (n+11) 0] J) λY=>
  VV.wr (Xh 1 [Y,.aq] J) J λ_ J=>
  VV.rd (Qc 2 [.ak (n+11) 0] J) λpC=>
  VV.wr (Xh 1 [pC,(.int .i8 0)] J) J λ_ J=>
  VV.dr (Xf true 23 [.ak (n+11) 0] J) J λkL l105 J=>
  VV.dr (Xf false 1 [.ak (n+12) 0] J) J λkM l107 J=>
  VV.dr (Xh 23 [.ak 2 0,kL] J) J λ_ l108 J=>
  VV.gd (Qg [[],[],[0],[0,1,2],[0,1,2,3]] [l105,l107,l108,([],[]),([],[])]) <|
  VV.opt (fz true 23 (.ak 2 0) J) λr109=>
  (λd J=>∃ rd,aA (Go.Ah.hp J) rd d (Db (Dp (ig b s.mover S s [])))) (.bw [r109,kM,(.int .i64 0)]) J)) [(.int .i64 0)] τ:=by
 have B:Yn [v] τ=.ok (O S.length) [] []:=by
  rcases h.row with ⟨rfl,rfl⟩|⟨R,rows,_,_,rfl,_,_,_⟩<;>rfl
 refine Z (ld h.st rfl) (Z B ?_);have hRX:RX b s n [] .aq τ:=⟨h.ln,h.n4,h.pw.k0,h.pw.k1,h.pw.k2,h.ev,.inl ⟨rfl,rfl⟩⟩;refine Zh (ι:=Nat) (λi C τ=>∃t l ev,C=[O i]/\i<=S.length/\RX b s n l ev τ/\yS n s t τ/\cc b t/\SR n τ S v/\l.length<=i/\ig b s.mover S s []=ig b s.mover (S.drop i) t l) (λi=>S.length-i) 0 ⟨s,[],.aq,rfl,by omega,hRX,.inl ⟨rfl,h.cp⟩,hM,h.row,by simp,rfl⟩ ?_;clear hRX B h hM;rintro i C τ again ⟨t,l,ev,rfl,hi,j,D,hM,o,Mf,f⟩ bj;refine Z (Xy ..) (Ya (λh=>?_) (λh=>?_))
 ·have h:i<S.length:=by simpa using h
  rcases o with ⟨rfl,_⟩|⟨R,rows,r1,r2,rfl,p,r5,E⟩
  ·simp at h
  obtain⟨fv,q1,q2,r⟩:=E i h;rw[gB h]at f;refine Z (v:=.ptr R i 0) (rd:=[R]) ?_ (Z (v:=fv) (rd:=[R]) (ru p q1 (by generalize S[i]=x at r;cases r<;>rfl)) ?_)
  ·have:=Y9 τ R 0 S.length false 1 rows .i64 i h p;rw[Al]at this;exact this
  have o:SR n τ S (.sl R 0 S.length false):=.inr ⟨R,rows,r1,r2,rfl,p,r5,E⟩;refine Qe5 b hf G he wk j D hM (by omega) r (λt' e d τ' w hM' hR' R7 y=>?_) (λe τ' F w y=>?_)
  ·refine Z (QM ..) (Yf (Z (Qi ..) ?_));rw[Zd (n:=i) (by omega)];exact bj (i+1) _ _ (by omega) ⟨t',_,d,rfl,by omega,hR',R7,hM',o.Em y,by simp;omega,by rw[f,w]⟩
  ·have k2:=y.2 2 _ j.k2 (by simp) (by have:=j.n4;omega) (by simp);refine Z (QM ..) ?_;rw[gA F];refine Xg (Z rfl (Qd (cO (row':=aU) k2 rfl rfl rfl) (Ye _ (Yb k2)) (Zp (Q7 (Zc _ (Yb k2)) rfl) ?_)));rw[f,w,Dp,aB F];exact SI e
 have h:i=S.length:=by simp at h;omega
 subst h;rw[List.drop_length]at f;rw[f,ig,Dp,aE rfl];exact QeJ b j D
theorem c48(h89:jN prog 118)(hn:j8 prog 118)(b:Bk)(hf:aN b=true)(B:Yg b.aj)(s:St)(hs:ba 1000000000 s)(l:List (Int×Int))(hl:l.length<=1000000000):PC 49 [dd b,bN s,AX l] (Db (dK b s l)):=by
 refine Zo hP g49.ok rfl ?_;rw[H3.e];unfold g49;dsimp only;refine Qd (v:=.ak 0 0) (rd:=[]) (up:=[(0,.box (cf b))]) rfl rfl ?_;refine Qd (v:=.ak 1 0) (rd:=[]) (up:=[(1,.box (aH s))]) rfl rfl ?_;refine Qd (v:=.ak 2 0) (rd:=[]) (up:=[(2,.box aU)]) rfl rfl ?_;refine Z rfl (Z rfl (bD (c55 b hf B s hs) g35.ok (Z (QM ..) ?_)));rcases cE (aJ (bO b).1 b s false)with hm|hm
 rotate_left
 ·rw[dK,aB (by rw[hm];simp),hm];exact Xg (Z rfl (Qd rfl rfl (Zp rfl (SI 170))))
 rw[dK,aE hm,hm];have F:=Jy hm;obtain⟨he,f⟩:=Qs.1 F;have abv:s.an.length<=7:=by
  by_cases hp:s.phase=1
  ·exact(f.at_.2 hp).2.1
  ·rw[f.at_.1 hp];simp
 refine Yf (Z rfl (Z rfl (Z (QM ..) ?_)));refine QdM (v1:=bN s) (v2:=AX l) (u0:=.bool (Ki s l)) (λ_=>rfl) (λ_=>rfl) (λ_ k o=>bD (c100 h89 hn s hs l hl (by omega)) g74.ok o) (λ_=>rfl) (Ya (λh=>?_) (λh=>?_))
 ·rw[aE h];exact Z rfl (Qd rfl rfl (Zp rfl (SI 2)))
 rw[aB (by rw[h];simp)];clear h;have wk:s.mover=0\/s.mover=1:=by have:=f.hd;unfold Bl at this;omega
 refine Qd (v:=.map 3) (rd:=[]) (up:=[(3,.map [])]) rfl rfl (Z rfl (Z rfl (ZM 3 (Yk ?_))));have N:(([]:List (Int×Int)).map (·.1)++s.s0.af.map Th.id).Nodup:=by
  have:=f.un.2;rw[A8,Gf]at this;simpa using this.1
 have P:AF.wrap (0+1)=1:=by decide
 have Q:AF.wrap (1+1)=2:=by decide
 refine Z rfl (Xg (Z rfl ?_));refine Zq (row:=vP s.s0) (row':=vP s.s0) rfl rfl rfl (Z rfl (Z (v:=ly s.s0.af) (ld (Xc _ _) rfl) (Z (v:=O s.s0.af.length) (rd:=[]) (by simp[Qe]) ?_)));refine XdE b hf B s hs F s.s0.af (by have:=f.le.s0.af;omega) [] N (h0:=⟨rfl,rfl,rfl,rfl⟩) (λτ1 h1=>?_);refine Z rfl ?_;rw[P];refine Yk (Z rfl (Xg (Z rfl ?_)));refine Zq (row:=vP s.s1) (row':=vP s.s1) rfl rfl rfl (Z rfl (Z (v:=ly s.s1.af) (ld (Xc _ _) rfl) (Z (v:=O s.s1.af.length) (rd:=[]) (by simp[Qe]) ?_)));refine XdE b hf B s hs F s.s1.af (by have:=f.le.s1.af;omega) _ ?_ (h0:=h1.app _) (λτ2 h2=>?_)
 ·rw[Cm,Zcj,<-A8];exact f.un.2
 refine Z rfl ?_;rw[Q];refine Yk (Z rfl (Yf ?_));rw[Cm,mc,mc,<-A8]at h2;have h2:zq b s (mc b s (s.s0.af++s.s1.af)) τ2:=h2;have R:=λid=>Xea b s id;generalize mc b s (s.s0.af++s.s1.af)=M at h2 R;clear h1 N P Q;have n4:=Yb h2.k3;refine Z (ld h2.k1 rfl) (Yef hs rfl (λτ3 hlen o C=>?_));generalize τ2.length=n at hlen C n4 ⊢;have h3:zq b s M τ3:=⟨o 0 _ h2.k0 (by simp),o 1 _ h2.k1 (by simp),o 2 _ h2.k2 (by simp),o 3 _ h2.k3 (by simp)⟩;refine Qd (v:=.ak τ3.length 0) (rd:=[]) (up:=[(τ3.length,.box [.aq])]) rfl (Qf _ _) ?_;refine Qd (v:=.ak (τ3++[U.box [.aq]]).length 0) (rd:=[]) (up:=[((τ3++[U.box [.aq]]).length,.box [.aq])]) rfl (Qf _ _) ?_;have d:SX b s M n (gR b s l (s.an.take 0)) .aq (τ3++[U.box [.aq]]++[U.box [.aq]]):=by
  have T:=Xc τ3 (.box [.aq]);have V:=Xc (τ3++[U.box [.aq]]) (.box [.aq]);rw[show (τ3++[U.box [.aq]]).length=n+13 by simp[hlen]]at V;rw[hlen]at T;refine⟨by simp[hlen],by omega,(h3.app _).app _,⟨Zb _ (Zb _ C.box (by simp)),λi x X=>?_⟩,Zb _ T,V,.inl ⟨rfl,rfl⟩⟩;have hi:i<11:=(eS X).1;rw[Zg _ (by simp;omega),Zg _ (by omega)];exact C.key i x X
 have e13:(τ3++[U.box [I.aq]]).length=n+13:=by simp[hlen]
 rw[e13,hlen];clear C h3 h2 o;generalize τ3++[U.box [.aq]]++[U.box [.aq]]=τ4 at d ⊢;refine Z (Ov ..) (Z rfl (Z (v:=aM s.an) (ld d.pw.k1 rfl) (Z (v:=O s.an.length) (rd:=[]) (by simp[Qe]) ?_)));refine Zh (ι:=Nat) (λi Y r=>Y=[O i]/\i<=s.an.length/\∃v,SX b s M n (gR b s l (s.an.take i)) v r) (λi=>s.an.length-i) 0 ⟨rfl,by omega,_,d⟩ ?_;clear d;rintro i Y r again ⟨rfl,hi,v,d⟩ bj;refine Z (Xy ..) (Ya (λh=>?_) (λh=>?_));rotate_left
 ·have h:i=s.an.length:=by simp at h;omega
  subst h;rw[C5]at d;exact ZeK b hf B he f wk (by have:=U_ b s l s.an;omega) d
 have h:i<s.an.length:=by simpa using h
 have ij:s.an.take (i+1)=s.an.take i++[s.an[i]]:=by rw[Cq h]
 have cJ:=λ(t:List U)=>Zm t aK false false 1 s.an .i64 i h;have hlen:(gR b s l (s.an.take i)).length<=100000:=by
  have:=U_ b s l (s.an.take i);simp at this;omega
 generalize s.an[i]=a at ij cJ;have w:∀y τ',SX b s M n (gR b s l (s.an.take i)++sn b s l a) y τ'->again [O (i+1)] τ':=λy τ' hX'=>by
  refine bj (i+1) _ _ (by omega) ⟨rfl,by omega,y,?_⟩;rw[ij,Zce];simpa[gR]using hX'
 generalize gR b s l (s.an.take i)=S at d hlen w;refine Zj λk61 L8=>?_;refine Z (cJ _) (Z (v:=O a) (rd:=[]) (bg rfl) (Zq (row:=[O a]) (row':=[O a]) rfl rfl rfl ?_));have z:=Xc r (U.box [O a]);have D:=d.app [.box [O a]];have Mr:n+14<=r.length:=d.ln;clear d;generalize r++[U.box [O a]]=τ5 at z D ⊢;generalize r.length=G at z Mr ⊢;refine Z (Ov ..) (Yt (rd:=[G]) (c103 l hl a) rfl g79.ok.plain (.cons (aA.ro rfl) <| .cons (aA.func .nil (.cons (aA.box (row:=[O a]) (Zw z (by simp)) (by simp) (bA.ro rfl)) .nil)) .nil) (by cases tF l a<;>rfl) (Z rfl (Z rfl ?_)));refine Zq (row:=jr ((tF l a).getD (0,0))) (row':=jr ((tF l a).getD (0,0))) rfl rfl rfl (Z rfl ?_);have j:=Xc τ5 (U.box (jr ((tF l a).getD (0,0))));have E:=Zb [U.box (jr ((tF l a).getD (0,0)))] z;have A:=D.app [.box (jr ((tF l a).getD (0,0)))];have wo:n+14<=τ5.length:=D.ln;clear D z;generalize τ5++[U.box (jr ((tF l a).getD (0,0)))]=τ6 at E j A ⊢;generalize τ5.length=H at j wo ⊢;have L:∀ {τ':List U} (id:Int),ai τ' 3=.map (jq Sp M)->Yu false false (.int .i64 0) [.map 3,O id] τ'=.ok (O (kK b s id)) [3] []:=λid h=>by
  have:=Dl Sp (.int .i64 0) false h id;rw[<-R id];refine this.trans ?_;cases c7 id M<;>rfl
 cases hp:tF l a with
 |none=>
  rw[hp]at j;have e:sn b s l a=[.harm 0 (kK b s a)]:=by simp[sn,hp]
  rw[e]at w;refine Xg (Z (ld E rfl) (Z (L a A.pw.k3) (w101 A (by omega) 0 (kK b s a) (λy τ' h1 _=>?_))));rw[L8];refine Z (Qi ..) ?_;rw[Zd (n:=i) (by omega)];exact w y τ' h1
 |some p=>
  rw[hp]at j;have j:ai τ6 H=.box [O p.1,O p.2]:=j;have e:sn b s l a=[.block a p.2,.harm p.2 (kK b s a),.harm a (kK b s p.2)]:=by simp[sn,hp]
  rw[e]at w;refine Yf (Z (ld A.st rfl) (Z (Ov ..) (Zeo A (by omega) (x:=.block a p.2) (.block Mr wo E j) (λv1 τ7 hX3 b3=>?_))));have Lu:=b3.2 G _ (by omega) E;have Lv:=b3.2 H _ (by omega) j;refine Z rfl (Z (v:=O p.2) (ld Lv rfl) (Z (ld Lu rfl) (Z (L a hX3.pw.k3) (w101 hX3 (by simp;omega) p.2 (kK b s a) (λv2 τ8 hX4 b4=>?_)))));have V_:=b4.2 G _ (by omega) Lu;have V':=b4.2 H _ (by omega) Lv;refine Z (ld V_ rfl) (Z rfl (Z (v:=O p.2) (ld V' rfl) (Z (L p.2 hX4.pw.k3) (w101 hX4 (by simp;omega) a (kK b s p.2) (λv3 τ9 hX5 _=>?_)))));rw[L8];refine Z (Qi ..) ?_;rw[Zd (n:=i) (by omega)];exact w v3 τ9 (by simpa using hX5)
theorem XdT{b:Int->Int×Int}{d:Th->Int×Int}{s:St}(h:(gm kd b d s id k).2.2=0):(gm kd b d s id k).2.1.kind=kd:=by
 unfold gm at h ⊢;split
 ·unfold kZ at *;grind
 ·unfold jH at *;grind
theorem T9{b:Bk}{mv:Int}(h01:mv=0\/mv=1):∀(i:List FS) {N C:Nat} {t:St} (l:List Ev),cu b N C t->(∀e∈l,e.kind=12->e.aj=[])->(ig b mv i t l).2.2=0 ->
  cu b N C (ig b mv i t l).1/\(∀e∈(ig b mv i t l).2.1,e.kind=12->e.aj=[])/\(ig b mv i t l).2.1.length<=l.length+i.length
 |[],_,_,_,l,h,j,_=>⟨h,j,by simp[ig]⟩
 |.block a d::r,N,C,t,l,h,j,he=>by
  rw[ig]at he ⊢;obtain⟨k1,k2,k3⟩:=T9 h01 r _ h (by intro e f;rcases Bd.1 f with f|f;exact j e f;simp at f;subst f;exact λ_=>rfl) he;exact⟨k1,k2,by simp at k3 ⊢;omega⟩
 |.harm id n::r,N,C,t,l,h,j,he=>by
  rw[ig]at he ⊢;split at he
  ·rename_i h0;rw[aE h0];have o:cu b N C (eX b t id (1-mv) n).1:=by
    have:=h.mv (op:=0) (id:=id) (k:=1-mv) (n:=n) (by omega);simp only[pk]at this;exact this h0
   obtain⟨k1,k2,k3⟩:=T9 h01 r _ o (by
    intro e f;rcases Bd.1 f with f|f
    ·exact j e f
    ·simp at f;subst f;have:=XdT h0;unfold eX;intro q;rw[this]at q;cases q) he
   exact⟨k1,k2,by simp at k3 ⊢;omega⟩
  ·rename_i h0;exact absurd he h0
theorem Zbr{b:Bk}{t:St}{C:Nat}(h:cu b 0 C t)(cN:List (Int×Int)):(∀e∈(dK b t cN).2.1,e.kind=12->e.aj=[])/\(dK b t cN).2.1.length<=21/\((dK b t cN).2.2=0->TB 0 (dK b t cN).1/\Xj (dK b t cN).1<=C/\ba 1000000000 (dK b t cN).1/\bB (dK b t cN).1<=14):=by
 have f:t.mover=0\/t.mover=1:=by have:=h.may.hd;unfold Bl at this;omega
 have i:t.an.length<=7:=by
  by_cases d:t.phase=1
  ·exact(h.may.at_.2 d).2.1
  ·rw[h.may.at_.1 d];simp
 have j:=U_ b t cN t.an;unfold dK;split
 ·split
  ·exact⟨by simp,by simp,λq=>by cases q⟩
  ·unfold Dp;split
   ·rename_i h0;obtain⟨k1,k2,k3⟩:=T9 f _ _ h (by simp) h0;refine⟨k2,by simp at k3 ⊢;omega,λ_=>⟨k1.told,k1.aj,?_,?_⟩⟩
    ·have:=k1.ni;exact⟨by simp,this.s0,this.s1⟩
    ·exact(qY k1.may:bB (ig b t.mover (gR b t cN t.an) t []).1<=14)
   ·rename_i h0;exact⟨by simp,by simp,λq=>absurd q h0⟩
 ·exact⟨by simp,by simp,λq=>by cases q⟩
def ZA(b:Bk)(t:St)(cN:List (Int×Int)):Int×St×List Ev:=if (dK b t cN).2.2≠0 then ((dK b t cN).2.2,eG,[])else v_ b (dK b t cN).1 (dK b t cN).2.1 1000
def ZF(b:Bk)(t:St)(ids:List Int):Int×St×List Ev:=if (vm b t ids).2.2=0 then (0,(vm b t ids).1,(vm b t ids).2.1)else ((vm b t ids).2.2,eG,[])
theorem P0.pl{J:List U}{i n:Nat}{b:Bk}{t:St}{a:Ac}(P:P0 J i n b t a fu):PL J i b t a [] fu:=by
 have d:∀ {x:Nat} {l:List Int} {f:List U},ai f x=.rows 1 (l.map aK)->OR f (.sl x 0 l.length false) l:=λe=>.inr (.inr ⟨_,[],rfl,by rw[DR];exact e⟩);have j:∀ {x:Nat} {l:List Th} {f:List U},ai f x=.rows 4 (l.map br)->OU f (.sl x 0 l.length false) l:=λe=>.inr (.inr ⟨_,[],rfl,by rw[DR];exact e⟩);exact⟨_,_,_,_,_,_,_,_,_,_,_,_,P.box,d P.q,d P.d0,d P.h0,d P.g0,j P.u0,.inr (.inl ⟨rfl,P.told.1⟩),d P.d1,d P.h1,d P.g1,j P.u1,.inr (.inl ⟨rfl,P.told.2⟩),.inl ⟨rfl,rfl⟩⟩
section
variable {b:Bk} (hf:aN b=true) (bn:Yg b.aj) (jY:b.aj.length<=61) {t:St} {C:Nat} (hS:cu b 0 C t) (hC:C+210000<=1000000) {a:Ac} {J:List U} {pb:Nat}
include hf bn hS
theorem Xdv(h89:jN prog 118)(hn:j8 prog 118)(hl:a.ids.length<=1000000)(P:PT J pb b t a [] 1000)
 (f:∀d,((ZF b t a.ids).1=0->∃fu,PT d pb b (ZF b t a.ids).2.1 a (ZF b t a.ids).2.2 fu)->(∀c row,c≠pb->ai J c=.box row->ai d c=.box row)->K (O (ZF b t a.ids).1) d):g19.u VV [.ak pb 0] J K:=by
 have hb:=c45 h89 hn b hf bn t hS.ni a.ids (by omega);have i:∀e∈(vm b t a.ids).2.1,e.aj=[]:=by
  unfold vm;split
  ·split
   ·intro e he;simp only[wP,By]at he;obtain⟨_,_,rfl⟩:=he;rfl
   ·simp
  ·simp
 have j:(vm b t a.ids).2.1.length<=a.ids.length:=by
  unfold vm;split
  ·split<;>simp[wP]
  ·simp
 unfold ZF at f;refine p226 P (vm b t a.ids) hb i (by simp;omega) λd S=>?_;split at f
 ·rename_i h0;rw[h0]at S ⊢;exact f d (λ_=>⟨_,S.1 rfl⟩) S.2.2.1
 ·rename_i h0;exact f d (λe=>absurd e h0) S.2.2.1
include jY hC
theorem QcO(h89:jN prog 118)(hn:j8 prog 118)(hl:a.cN.length<=1000000)(P:PT J pb b t a [] 1000)
 (f:∀d,((ZA b t a.cN).1=0->∃fu,PT d pb b (ZA b t a.cN).2.1 a (ZA b t a.cN).2.2 fu)->(∀c row,c≠pb->ai J c=.box row->ai d c=.box row)->K (O (ZA b t a.cN).1) d):g20.u VV [.ak pb 0] J K:=by
 obtain⟨k1,k2,k3⟩:=Zbr hS a.cN;have h73:=c48 h89 hn b hf bn t hS.ni a.cN (by omega);unfold ZA v_ at f;generalize dK b t a.cN=r at *;have i:∀h:r.2.2=0,(aJ (bO b).1 b r.1 true=true->0+12000*(([]:List Tr).length+bB r.1+1)<=1000000):=λh _=>by have:=(k3 h).2.2.2;simp;omega
 have j:C+200*((Xm 1000).toNat+1)+14<=1000000:=by unfold Xm;omega
 by_cases h0:r.2.2=0
 ·obtain⟨o,p,s,w⟩:=k3 h0;have h92:=Nb (q92 b r.1 hf bn (λ_=>jY) s [] 1000 0 C o p (i h0) j);have hle:=(Re o p (i h0) j).2;refine p227 P r h73 k1 (bK b r.1 [] 1000) (λ_=>h92) (by simp;omega) λd S=>?_;rw[aE h0]at S ⊢;rw[aB (by simp[h0])]at f;split at f
  ·rename_i h1;rw[h1]at S ⊢;exact f d (λ_=>⟨_,S.1 rfl⟩) S.2.2.1
  ·rename_i h1;exact f d (λe=>absurd e h1) S.2.2.1
 ·refine p227 P r h73 k1 (0,eG,[],0) (λh=>absurd h h0) (by simp;omega) λd S=>?_;rw[aB h0]at S ⊢;rw[aE h0]at f;exact f d (λe=>absurd e h0) S.2.2.1
end
theorem Qc3{b:Bk}{s:St}{N C:Nat}(hs:ba 1000000000 s)(hT:TB N s)(hC:Xj s<=C)(hN:N+1+12000*22<=1000000)(i:C+200*((Xm fu).toNat+1)+14<=1000000):ba 1000000000 (eV b s fu).2.1/\(eV b s fu).2.2.1.length<=1000000000/\tc (eV b s fu).2.2.1:=by
 have z:ba 1000000000 eG:=⟨Bf _,⟨Bf _,Bf _,Bf _,Bf _,Bf _⟩,⟨Bf _,Bf _,Bf _,Bf _,Bf _⟩⟩;have n:tc []:=λe he=>by cases he
 have j:Xm (Xm fu)=Xm fu:=by unfold Xm;omega
 unfold eV;by_cases q:(aJ (bO b).1 b s true&&decide (s.phase≠1))=false
 ·rw[aE q];exact⟨z,Bf _,n⟩
 rw[aB q];have q:(aJ (bO b).1 b s true&&decide (s.phase≠1))=true:=by simpa using q
 rw[AA,fe]at q;obtain⟨p,f⟩:=Qs.1 q.1;have o:cu b N C (QH s):=cu.dw ⟨f,hT,hC⟩ q.2;have h01:s.mover=0\/s.mover=1:=by have:=f.hd.2.2.1;have:=f.hd.2.2.2.1;omega
 split
 ·exact⟨hs,Bf _,n⟩
 split
 ·exact⟨z,Bf _,n⟩
 rename_i hd;have d:=o.draw (by omega) (by omega) h01 (by simpa using hd);have hTl:(fk b s.mover ((aT (QH s) s.mover).1.side s.mover).af).length<=7:=CI (JV ..) (by unfold St.side;split;exact d.may.s0.af;exact d.may.s1.af);obtain⟨k1,k2⟩:=Re (b:=b) (row:=fk b s.mover ((aT (QH s) s.mover).1.side s.mover).af) (fu:=Xm fu) d.told d.aj (λ_=>by have:=Pg d.may;omega) (by rw[j];exact i);have k3:=YdF (b:=b) (row:=fk b s.mover ((aT (QH s) s.mover).1.side s.mover).af) (fu:=Xm fu) d.told d.aj (λ_=>by have:=Pg d.may;omega) (by rw[j];exact i);have hdc:=Ybo (QH s) s.mover;dsimp only;split
 ·exact⟨z,Bf _,n⟩
 ·refine⟨k1,?_,tc.app (λe he=>?_) k3⟩
  ·simp only[AT,A1,Cb];omega
  ·simp only[Az,EZ,or_false]at he;rcases he with rfl|rfl
   ·exact Bf _
   ·rw[hdc];exact Bf _
theorem Ux:∀ {l m:List Int},l.Nodup->(∀x∈l,x∈m)->l.length<=m.length
 |[],m,_,_=>by simp
 |x::l,m,h,hs=>by
  rw[EX]at h;have b:x∈m:=hs x (by simp);have:=Ux (l:=l) (m:=m.erase x) h.2 (λy d=>by
   have f:y≠x:=λe=>h.1 (e ▸ d);exact(List.mem_erase_of_ne f).2 (hs y (by simp[d])))
  rw[List.length_erase_of_mem b]at this;have:=List.length_pos_of_mem b;simp only[A1];omega
theorem XeJ{s:St}(h:(aC s id).2.2=true)(h2:(aC s id).1=side):id∈(if side=0 then s.s0.af else s.s1.af).map Th.id:=by
 unfold aC at h h2;cases b:gk s.s0.af id with
 |some k=>
  rw[b]at h2;obtain⟨u,d,e⟩:=ZO b;have h2:(0:Int)=side:=h2;rw[aE h2.symm];exact By.2 ⟨u,Au d,e⟩
 |none=>
  rw[b]at h h2;cases f:gk s.s1.af id with
  |some k=>
   rw[f]at h2;obtain⟨u,d,e⟩:=ZO f;have h2:(1:Int)=side:=h2;rw[aB (by omega)];exact By.2 ⟨u,Au d,e⟩
  |none=>rw[f]at h;cases h
theorem Yb7{s:St}:∀ {l prev:List Int},j_ s side prev l=true->(∀x∈l,pZ s side x=true)/\l.Nodup/\∀x∈l,x∉prev
 |[],prev,_=>by simp
 |x::l,prev,h=>by
  simp only[j_,AA,B9]at h;obtain⟨h1,h2,h3⟩:=h;obtain⟨k1,k2,k3⟩:=Yb7 h3;have d:x∉prev:=by simpa using h2
  refine⟨λy b=>?_,?_,λy b=>?_⟩
  ·rcases Az.1 b with rfl|b
   ·exact h1
   ·exact k1 y b
  ·rw[EX];exact⟨λhm=>k3 x hm (by simp),k2⟩
  ·rcases Az.1 b with rfl|b
   ·exact d
   ·exact λhm=>k3 y b (by simp[hm])
theorem Zdf{b:Bk}{s:St}(hM:cc b s){l:List Int}(h:j_ s side [] l=true):l.length<=7:=by
 obtain⟨h1,h2,_⟩:=Yb7 h;have d:∀x∈l,x∈(if side=0 then s.s0.af else s.s1.af).map Th.id:=λx f=>by
  have:=h1 x f;simp only[pZ,AA,fe]at this;exact XeJ this.1 this.2.1
 have:=Ux h2 d;rw[Be]at this;have u0:=hM.s0.af;have u1:=hM.s1.af;split at this<;>omega
theorem Xb7{s:St}:∀ {l prev:List (Int×Int)},ke s side prev l=true->(∀p∈l,p.1∈s.an)/\(l.map (·.1)).Nodup/\∀p∈l,∀q∈prev,q.1≠p.1
 |[],prev,_=>by simp
 |p::l,prev,h=>by
  simp only[ke,AA,B9]at h;obtain⟨⟨h1,_⟩,h2,h3⟩:=h;obtain⟨k1,k2,k3⟩:=Xb7 h3;have d:p.1∈s.an:=by
   obtain⟨y,b,e⟩:=FV.1 h1;have e:y=p.1:=by simpa using e
   rw[<-e];exact b
  have f:∀q∈prev,q.1≠p.1:=λq hq e=>by
   have:(prev.any λq=>decide (q.1=p.1)||decide (q.2=p.2))=true:=FV.2 ⟨q,hq,by simp[e]⟩;rw[this]at h2;cases h2
  refine⟨λy b=>?_,?_,λy b=>?_⟩
  ·rcases Az.1 b with rfl|b
   ·exact d
   ·exact k1 y b
  ·rw[B7,EX];refine⟨λi=>?_,k2⟩;obtain⟨y,b,e⟩:=By.1 i;exact k3 y b p (by simp) e.symm
  ·rcases Az.1 b with rfl|b
   ·exact f
   ·exact λq hq=>k3 y b q (by simp[hq])
theorem Ydg{b:Bk}{s:St}(hM:cc b s){l:List (Int×Int)}(h:ke s side [] l=true):l.length<=7:=by
 obtain⟨h1,h2,_⟩:=Xb7 h;have:=Ux h2 (m:=s.an) (λx f=>by
  obtain⟨p,d,rfl⟩:=By.1 f;exact h1 p d)
 rw[Be]at this;by_cases d:s.phase=1
 ·have:=(hM.at_.2 d).2.1;omega
 ·rw[hM.at_.1 d,Cb]at this;omega
theorem XeM{b:Bk}{s:St}(hM:cc b s)(a:Ac):tJ s a=(decide (s.phase=0)&&zU s a):=by
 unfold tJ zU;cases h:j_ s a.side [] a.ids with
 |false=>simp
 |true=>
  have d:=Zdf hM h;rw[i7 (show ¬(a.ids.length:Int)>7 by omega)];by_cases h0:(a.ids.length:Int)=0
  ·rw[gA h0,i7 (show ¬(a.ids.length:Int)>0 by omega)];simp
  ·rw[i7 h0,gA (show (a.ids.length:Int)>0 by omega)];simp
theorem YeN{b:Bk}{s:St}(hM:cc b s)(a:Ac):tK s a=(decide (s.phase=1)&&Dz s a):=by
 unfold tK Dz;cases h:ke s a.side [] a.cN with
 |false=>simp
 |true=>
  have d:=Ydg hM h;rw[i7 (show ¬(a.cN.length:Int)>7 by omega)];by_cases h0:(a.cN.length:Int)=0
  ·rw[gA h0,i7 (show ¬(a.cN.length:Int)>0 by omega)];simp
  ·rw[i7 h0,gA (show (a.cN.length:Int)>0 by omega)];simp
theorem c161(x y z:List I):PC 103 [.agg [.al x 0,.al y 0,.al z 0]] (.bool true):=by
 refine Xa hP g103.ok rfl rfl ?_;rw[H1.e];unfold g103;dsimp only;exact Qd (v:=.ak 0 0) (rd:=[]) (up:=[(0,.box [.al x 0,.al y 0,.al z 0])]) rfl rfl rfl
theorem c162(x y z:List I):PC 104 [.agg [.al x 0,.al y 0,.al z 0]] (.bool true):=by
 refine Xa hP g104.ok rfl rfl ?_;rw[H1.e];unfold g104;dsimp only;exact Qd (v:=.ak 0 0) (rd:=[]) (up:=[(0,.box [.al x 0,.al y 0,.al z 0])]) rfl rfl rfl
theorem Xeh(b:Bk)(s:St)(a:Ac)(w:Bool)(hw:(a.op=0/\PC 100 [.agg [.al (cf b) 0,.al (aH s) 0,.al (iK a) 0]] (.bool w))\/(a.op=1/\PC 101 [.agg [.al (cf b) 0,.al (aH s) 0,.al (iK a) 0]] (.bool w))\/(a.op=2/\PC 102 [.agg [.al (cf b) 0,.al (aH s) 0,.al (iK a) 0]] (.bool w))\/(a.op=3/\PC 103 [.agg [.al (cf b) 0,.al (aH s) 0,.al (iK a) 0]] (.bool w))\/(a.op=4/\PC 104 [.agg [.al (cf b) 0,.al (aH s) 0,.al (iK a) 0]] (.bool w))){K:n_}(d:K [.bool (!w)] []) :
  VV.dT (.call 67) [] [] λf l41 J=>
  VV.pu (Yi [.al (iK a) 0] J) λi=>
  VV.pu (Qc 0 [i] J) λj=>
  VV.dr (Xf false 1 [j] J) J λo l45 J=>
  VV.pu (Ra false 5 1 [f,o] J) λp=>
  VV.pu (XJ [.dq,.dq,.dq] [(0,1),(1,1),(2,1)] [.al (cf b) 0,.al (aH s) 0,.al (iK a) 0] J) λr=>
  VV.dT .gP [p,r] J λy l49 J=>
  VV.pu (qH .not [y] J) λz=>
  VV.gd (Qg [[],[],[1],[1,2],[1,2,3],[0,1,2,3,4],[],[],[],[6,7,8],[0,1,2,3,4,5,6,7,8,9],[0,1,2,3,4,5,6,7,8,9,10],[0,1,2,3,4,5,6,7,8,9,10,11]] [l41,([],[]),([],[]),([],[]),l45,([],[]),([],[]),([],[]),([],[]),([],[]),l49,([],[]),([],[])]) <| K [z] J:=by
 refine YX c127 g67.ok (Xd rfl (Xd rfl ?_));rcases hw with ⟨e,h⟩|⟨e,h⟩|⟨e,h⟩|⟨e,h⟩|⟨e,h⟩
 ·refine Ze (v:=aS 0) (rd:=[]) (by rw[<-e];exact bg rfl) rfl (Xd rfl (Xd rfl ?_));exact Yo h rfl g100.ok.plain rfl (Xd rfl (Xo (by rfl) d))
 ·refine Ze (v:=aS 1) (rd:=[]) (by rw[<-e];exact bg rfl) rfl (Xd rfl (Xd rfl ?_));exact Yo h rfl g101.ok.plain rfl (Xd rfl (Xo (by rfl) d))
 ·refine Ze (v:=aS 2) (rd:=[]) (by rw[<-e];exact bg rfl) rfl (Xd rfl (Xd rfl ?_));exact Yo h rfl g102.ok.plain rfl (Xd rfl (Xo (by rfl) d))
 ·refine Ze (v:=aS 3) (rd:=[]) (by rw[<-e];exact bg rfl) rfl (Xd rfl (Xd rfl ?_));exact Yo h rfl g103.ok.plain rfl (Xd rfl (Xo (by rfl) d))
 ·refine Ze (v:=aS 4) (rd:=[]) (by rw[<-e];exact bg rfl) rfl (Xd rfl (Xd rfl ?_));exact Yo h rfl g104.ok.plain rfl (Xd rfl (Xo (by rfl) d))
theorem VR(b:Bk)(hf:aN b=true)(r:Yg b.aj)(s:St)(hs:ba 1000000000 s)(hM:cc b s)(a:Ac)(hl:a.ids.length<=1000000000)(dg:a.cN.length<=1000000000):PC 36 [.al (cf b) 0,.al (aH s) 0,.al (iK a) 0] (O (wa b s a)):=by
 have z:s.mover=0\/s.mover=1:=by have:=hM.hd;unfold Bl at this;omega
 have o:∀ {l:List Int} {m:Int},Zn b.aj.length l m=true->∀c∈l,0<=c/\c.toNat<b.aj.length:=λh c A=>by have:=(Ql.1 h).2 c A;omega
 refine Xa hP g36.ok rfl rfl ?_;rw[H3.e];unfold g36;dsimp only;refine Z rfl (Z rfl (Z (bg rfl) (Z (Xy ..) ?_)));refine Zj λw f=>?_;have bad:oF a=true->w [.bool true] []:=λh=>by
  rw[f];exact Xg (congrArg O (by rw[wa,aE h]))
 have B:oF a=false->w [.bool false] []:=λhb=>by
  rw[f];have hd:wa b s a=if a.op=4 then 0 else if a.side=rI s/\kR b s a=true then 0 else 210:=by rw[wa,aB (by rw[hb];simp)]
  rw[hd];have p:(a.side=0\/a.side=1)/\0<=a.op/\a.op<=4:=by
   simp only[oF,Ct,pI]at hb;omega
  obtain⟨p,H⟩:=p;have y:(a.op=0/\PC 100 [.agg [.al (cf b) 0,.al (aH s) 0,.al (iK a) 0]] (.bool (kR b s a)))\/(a.op=1/\PC 101 [.agg [.al (cf b) 0,.al (aH s) 0,.al (iK a) 0]] (.bool (kR b s a)))\/(a.op=2/\PC 102 [.agg [.al (cf b) 0,.al (aH s) 0,.al (iK a) 0]] (.bool (kR b s a)))\/(a.op=3/\PC 103 [.agg [.al (cf b) 0,.al (aH s) 0,.al (iK a) 0]] (.bool (kR b s a)))\/(a.op=4/\PC 104 [.agg [.al (cf b) 0,.al (aH s) 0,.al (iK a) 0]] (.bool (kR b s a))):=by
   rcases (show a.op=0\/a.op=1\/a.op=2\/a.op=3\/a.op=4 by omega)with e|e|e|e|e
   ·refine .inl ⟨e,?_⟩;rw[kR,aE e,<-QeD];rcases p with i|i
    ·rw[aE i];exact c158 b hf r s hs a.side 7 s.s0 (CX s) (λ_=>by rw[i];rfl) (o hM.s0.hand) a.place a.target
    ·rw[aB (by omega)];exact c158 b hf r s hs a.side 15 s.s1 (CY s) (λ_=>by rw[i];rfl) (o hM.s1.hand) a.place a.target
   ·refine .inr (.inl ⟨e,?_⟩);rw[kR,aB (by omega),aE e,<-XeM hM];exact c159 b s hs a hl
   ·refine .inr (.inr (.inl ⟨e,?_⟩));rw[kR,aB (by omega),aB (by omega),aE e,<-YeN hM];exact c160 b s hs a dg
   ·refine .inr (.inr (.inr (.inl ⟨e,?_⟩)));rw[kR,aB (by omega),aB (by omega),aB (by omega)];exact c161 _ _ _
   ·refine .inr (.inr (.inr (.inr ⟨e,?_⟩)));rw[kR,aB (by omega),aB (by omega),aB (by omega)];exact c162 _ _ _
  clear f bad o;refine Yf (Xd rfl (Xd rfl (Ze (bg rfl) rfl (Xd (QM ..) ?_))));by_cases h4:a.op=4
  ·rw[aE h4,show decide (a.op≠4)=false by simp[h4]];repeat first|refine Yc rfl ?_|refine YG rfl ?_|refine Xu rfl ?_|refine XS rfl ?_|refine HY rfl ?_
   refine Xd rfl (Xo (by rfl) ?_);refine Zj λk38 j=>Yf (Xeh b s a _ y ?_);rw[j,kR,aB (by omega),aB (by omega),aB (by omega)];exact Yf rfl
  rw[aB h4,show decide (a.op≠4)=true by simp[h4]];refine Xb (Xd rfl (Xb (Xd rfl (Xb (Xd rfl (ZX (Ze (bg rfl) rfl ?_)))))));refine Xb (Xd rfl (Xb (Xd rfl (ZX (Ze (v:=bN s) (rd:=[]) rfl rfl (ZX (YX (c37 s z) g66.ok ?_)))))));refine Xb (Xd (QM ..) (Xd rfl (Xo (by rfl) ?_)));refine Zj λk38 j=>?_;refine Ya (λh=>?_) (λh=>?_)
  ·rw[j];have h:¬a.side=rI s:=by simpa using h
   rw[show decide (a.side≠rI s)=true by simpa using h];exact Xg (congrArg O (by rw[aB (λk=>h k.1)]))
  have h:a.side=rI s:=by simpa using h
  refine Xeh b s a _ y ?_;rw[j];generalize kR b s a=q;cases q with
  |true=>exact Yf (congrArg O (by rw[aE ⟨h,rfl⟩]))
  |false=>exact Xg (congrArg O (by rw[aB (λk=>by cases k.2)]))
 clear f;have d:oF a=((((decide (a.side<0)||decide (a.side>1))||decide (a.op<0))||decide (a.op>4)) || !nz a):=rfl;generalize decide (a.side<0)=C at d ⊢;cases C with
 |true=>exact Xg (bad (by rw[d];rfl))
 |false=>
 refine Yf (Z rfl (Z rfl (Z (bg rfl) (Z (Y4 ..) ?_))));generalize decide (a.side>1)=D at d ⊢;cases D with
 |true=>exact Xg (bad (by rw[d];rfl))
 |false=>
 refine Yf (Z rfl (Z rfl (Z (bg rfl) (Z (Xy ..) ?_))));generalize decide (a.op<0)=E at d ⊢;cases E with
 |true=>exact Xg (bad (by rw[d];rfl))
 |false=>
 refine Yf (Z rfl (Z rfl (Z (bg rfl) (Z (Y4 ..) ?_))));generalize decide (a.op>4)=F at d ⊢;cases F with
 |true=>exact Xg (bad (by rw[d];rfl))
 |false=>
 refine Yf (bD (Kz a) g65.ok (Z rfl ?_));generalize nz a=G at d ⊢;cases G with
 |true=>exact B (by rw[d];rfl)
 |false=>exact bad (by rw[d];rfl)
theorem KH(b:Bk)(hf:aN b=true)(d:Yg b.aj)(s:St)(hs:ba 1000000000 s)(a:Ac)(hl:a.ids.length<=1000000000)(dg:a.cN.length<=1000000000):PC 16 [dd b,bN s,.agg (iK a)] (O (if aJ (bO b).1 b s false=true then (if s.phase=2 then 211 else wa b s a)else 170)):=by
 refine Xa hP g16.ok rfl rfl ?_;rw[H3.e];unfold g16;dsimp only;refine Qd (v:=.ak 0 0) (rd:=[]) (up:=[(0,.box (cf b))]) rfl rfl ?_;refine Qd (v:=.ak 1 0) (rd:=[]) (up:=[(1,.box (aH s))]) rfl rfl ?_;refine Qd (v:=.ak 2 0) (rd:=[]) (up:=[(2,.box (iK a))]) rfl rfl ?_;refine Z rfl (Z rfl (bD (c55 b hf d s hs) g35.ok ?_));rcases cE (aJ (bO b).1 b s false)with hm|hm
 rotate_left
 ·rw[hm,aB (by simp)];exact Z rfl (Xg rfl)
 have f:=(Qs.1 (Jy hm)).2;rw[hm,aE rfl];refine Z rfl (Yf (Z rfl (Z rfl (Z (Xr ..) ?_))));refine Ya (λh=>?_) (λh=>?_)
 ·exact congrArg O (by rw[aE (by simpa using h)])
 rw[aB (show ¬s.phase=2 by simpa using h)];exact Yt (rd:=[0,1,2]) (VR b hf d s hs f a hl dg) rfl g36.ok.plain (.cons (aA.box (row:=cf b) rfl (by simp) (bA.ro rfl)) <| .cons (aA.box (row:=aH s) rfl (by simp) (bA.ro rfl)) <| .cons (aA.box (row:=iK a) rfl (by simp) (bA.ro rfl)) .nil) rfl rfl
def kJ(t:St):St:={ t with turn:=AF.wrap (t.turn+1),mover:=AF.wrap (1-t.mover) }
def YV(b:Bk)(t:St)(cN:List (Int×Int)):Int×St×List Ev:=
 if t.phase=1 then ZA b t cN else if 4096<=t.turn then (0,(bV b t 3).1,[(bV b t 3).2])else
 if (eV b (kJ t) 1000).1=0 then (0,(eV b (kJ t) 1000).2.1,(eV b (kJ t) 1000).2.2.1)else ((eV b (kJ t) 1000).1,eG,[])
def Ip(b:Bk)(t:St)(side:Int):Int×St×List Ev:=(0,(bV b t (if side=0 then 2 else 1)).1,[(bV b t (if side=0 then 2 else 1)).2])
def QJ(b:Bk)(t:St)(a:Ac):Int×St×List Ev:=if a.op=0 then QR b t a else if a.op=1 then ZF b t a.ids else if a.op=2 then ZA b t a.cN else if a.op=3 then YV b t a.cN else Ip b t a.side
def jV(b:Bk)(s:St)(a:Ac):Int:=if aJ (bO b).1 b s false=true then (if s.phase=2 then 211 else wa b s a)else 170
def gg(b:Bk)(s:St)(a:Ac):Int×St×List Ev:=if jV b s a≠0 then (jV b s a,eG,[])else QJ b (cH s) a
theorem QeZ(b:Bk)(t:St)(l:List Ev)(fu:Int):(v_ b t l fu).1≠0->(v_ b t l fu).2.1=eG/\(v_ b t l fu).2.2=[]:=by
 unfold v_;split
 ·exact λh=>absurd rfl h
 ·exact λ_=>⟨rfl,rfl⟩
theorem Xdt(b:Bk)(t:St)(p:List (Int×Int)):(ZA b t p).1≠0->(ZA b t p).2.1=eG/\(ZA b t p).2.2=[]:=by
 unfold ZA;split
 ·exact λ_=>⟨rfl,rfl⟩
 ·exact QeZ _ _ _ _
theorem K6(b:Bk)(s:St)(a:Ac):(gg b s a).1≠0->(gg b s a).2.1=eG/\(gg b s a).2.2=[]:=by
 unfold gg;split
 ·exact λ_=>⟨rfl,rfl⟩
 unfold QJ;split
 ·unfold QR;exact Ll _ _
 split
 ·unfold ZF;split
  ·exact λh=>absurd rfl h
  ·exact λ_=>⟨rfl,rfl⟩
 split
 ·exact Xdt _ _ _
 split
 ·unfold YV;split
  ·exact Xdt _ _ _
  ·split
   ·exact λh=>absurd rfl h
   ·split
    ·exact λh=>absurd rfl h
    ·exact λ_=>⟨rfl,rfl⟩
 ·exact λh=>absurd rfl h
section
variable {b:Bk} (hf:aN b=true) (bn:Yg b.aj) (jY:b.aj.length<=61) {t:St} {C:Nat} (hS:cu b 0 C t) (hC:C+210000<=1000000) {a:Ac} {J:List U} {pb:Nat}
include hf bn hS
theorem Qez(P:PT J pb b t a [] 1000)
 (f:∀d,((Ip b t a.side).1=0->∃fu,PT d pb b (Ip b t a.side).2.1 a (Ip b t a.side).2.2 fu)->(∀c row,c≠pb->ai J c=.box row->ai d c=.box row)->K (O (Ip b t a.side).1) d):g22.u VV [.ak pb 0] J K:=
 p229 P hf bn hS.ni (by simp) λd S=>f d (λ_=>⟨_,S.1 rfl⟩) S.2.2.1
include jY hC
theorem ZeA(h89:jN prog 118)(hn:j8 prog 118)(hl:a.cN.length<=1000000)(P:PT J pb b t a [] 1000)
 (d:∀f,((YV b t a.cN).1=0->∃fu,PT f pb b (YV b t a.cN).2.1 a (YV b t a.cN).2.2 fu)->(∀c row,c≠pb->ai J c=.box row->ai f c=.box row)->K (O (YV b t a.cN).1) f):g21.u VV [.ak pb 0] J K:=by
 have j:TB 0 (kJ t):=hS.told;have o:Xj (kJ t)<=C:=hS.aj;have hle:ba 1000000000 (kJ t):=by have:=hS.ni;exact⟨this.an,this.s0,this.s1⟩
 have p:C+200*((Xm 1000).toNat+1)+14<=1000000:=by unfold Xm;omega
 have h96:=u96 b (kJ t) hf bn (λ_=>jY) hle 1000 0 C j o (by omega) p;have r:=(Qc3 (b:=b) hle j o (by omega:0+1+12000*22<=1000000) p).2.1;unfold YV at d;refine p228 P hf bn hS.ni (by simp) (λi=>?_) (λi hq f S=>?_) (λi hq=>⟨eV b (kJ t) 1000,h96,by simpa using r,λf S=>?_⟩)
 ·simp only[aE i]at d;exact QcO hf bn jY hS hC h89 hn hl P d
 ·simp only[aB i,aE hq]at d;exact d f (λ_=>⟨_,S.1 rfl⟩) S.2.2.1
 ·simp only[aB i,aB (show ¬4096<=t.turn by omega)]at d;split at d
  ·rename_i h0;rw[h0]at S ⊢;exact d f (λ_=>⟨_,S.1 rfl⟩) S.2.2.1
  ·rename_i h0;exact d f (λe=>absurd e h0) S.2.2.1
end
theorem ZbB(s:St):((cH s).side m).hand=(s.side m).hand/\((cH s).side m).aW=(s.side m).aW:=by
 unfold St.side cH;split<;>exact⟨rfl,rfl⟩
theorem c107(h89:jN prog 118)(hn:j8 prog 118)(b:Bk)(hf:aN b=true)(p:Yg b.aj)(s:St)(hs:ba 2000000 s){C:Nat}(jY:aJ (bO b).1 b s false=true->b.aj.length<=61)(E:Xj s<=C)(hC:C+210000<=1000000)(a:Ac)(hl:a.ids.length<=1000000)(dg:a.cN.length<=1000000) :
  PC 6 [dd b,bN s,.agg (iK a)] (.bw [bN (gg b s a).2.1,.aX false false 7 ((gg b s a).2.2.map cS),O (gg b s a).1]):=by
 have z:ba 1000000000 s:=hs.mono (by decide);have h60:=KH b hf p s z a (by omega) (by omega);refine p107 b s z a (jV b s a) _ _ _ h60 (K6 b s a) (λh=>?_) (λh=>?_) (λh J R P K f=>?_)
 ·unfold gg;rw[aE h]
 ·unfold jV at h;split at h
  ·split at h
   ·cases h
   ·unfold wa at h;split at h
    ·cases h
    ·rename_i hb;simp only[oF,EA,fe,not_or]at hb;omega
  ·cases h
 have hd:wa b s a=0/\s.phase≠2/\aJ (bO b).1 b s false=true:=by
  unfold jV at h;split at h
  ·rename_i w;split at h
   ·cases h
   ·rename_i F;exact⟨h,F,w⟩
  ·cases h
 obtain⟨hd,S,w⟩:=hd;have A:=(Qs.1 (Jy w));have r:cu b 0 C (cH s):=⟨A.2.cH,⟨by simp[cH],by simp[cH]⟩,E⟩;have hb:oF a=false:=by
  cases e:oF a with
  |false=>rfl
  |true=>rw[wa,aE e]at hd;cases hd
 have G:a.side=0\/a.side=1:=by
  simp only[oF,Ct,pI]at hb;omega
 have d:=jY w;have e:gg b s a=QJ b (cH s) a:=by unfold gg;rw[aB (by simpa using h)]
 rw[e]at f;have T:0<=a.op/\a.op<=4:=by
  simp only[oF,Ct,pI]at hb;omega
 rcases (by omega:a.op=0\/a.op=1\/a.op=2\/a.op=3\/a.op=4)with h0|h0|h0|h0|h0
 ·have B:pq b s (s.side a.side) a.place a.target=true:=by
   rw[wa,aB (by simp[hb]),aB (by omega)]at hd;split at hd
   ·rename_i h;have:=h.2;rw[kR,aE h0]at this;exact(Bool.and_eq_true_iff.1 this).2
   ·cases hd
  simp only[pq,AA,fe,B9,Ct,pI]at B;obtain⟨⟨H,L⟩,⟨N,-⟩,-⟩:=B;have i:QJ b (cH s) a=QR b (cH s) a:=by unfold QJ;rw[aE h0]
  rw[i]at f;rw[h0];obtain⟨D,Q⟩:=ZbB s (m:=a.side);refine YeA hf p d A.1 r hC G H (by rw[D];exact L) (by rw[D,Q];exact Mx.1 N) P f
 ·have i:QJ b (cH s) a=ZF b (cH s) a.ids:=by unfold QJ;rw[aB (by omega),aE h0]
  rw[i]at f;rw[h0];refine Ji P.pl λy j _ o _=>Xe hP rfl g19.ok rfl ?_;exact Xdv hf p r h89 hn hl j λτ2 h1 h2=>f τ2 h1 λc row d hr=>h2 c row d (o c row d hr)
 ·have i:QJ b (cH s) a=ZA b (cH s) a.cN:=by unfold QJ;rw[aB (by omega),aB (by omega),aE h0]
  rw[i]at f;rw[h0];refine Ji P.pl λy j _ o _=>Xe hP rfl g20.ok rfl ?_;exact QcO hf p d r hC h89 hn dg j λτ2 h1 h2=>f τ2 h1 λc row d hr=>h2 c row d (o c row d hr)
 ·have i:QJ b (cH s) a=YV b (cH s) a.cN:=by unfold QJ;rw[aB (by omega),aB (by omega),aB (by omega),aE h0]
  rw[i]at f;rw[h0];refine Ji P.pl λy j _ o _=>Xe hP rfl g21.ok rfl ?_;exact ZeA hf p d r hC h89 hn dg j λτ2 h1 h2=>f τ2 h1 λc row d hr=>h2 c row d (o c row d hr)
 ·have i:QJ b (cH s) a=Ip b (cH s) a.side:=by unfold QJ;rw[aB (by omega),aB (by omega),aB (by omega),aB (by omega)]
  rw[i]at f;rw[h0];refine Ji P.pl λy j _ o _=>Xe hP rfl g22.ok rfl ?_;exact Qez hf p r j λτ2 h1 h2=>f τ2 h1 λc row d hr=>h2 c row d (o c row d hr)
def Hd(s t:St):Prop:=t.turn=s.turn/\(t.phase=s.phase\/t.phase=2)
theorem Uc{s t:St}(h:iZ t=iZ s):Hd s t:=by
 simp only[iZ,F0]at h;exact⟨h.1,.inl h.2.2.1⟩
theorem Hd.trans{s t u:St}(h:Hd s t)(k:Hd t u):Hd s u:=by
 unfold Hd at *;omega
theorem Hd.ne{s t:St}(h:Hd s t)(k:s.phase≠1):t.phase≠1:=by
 unfold Hd at h;omega
theorem Jn(b:Bk)(s:St)(r:Int):Hd s (bV b s r).1:=by
 unfold bV Hd;split
 ·exact⟨rfl,.inr rfl⟩
 ·exact⟨rfl,.inl rfl⟩
theorem Yc1(s:St)(id:Int):iZ (Yp s id).1=iZ s:=by
 unfold Yp;split
 ·rfl
 ·split<;>rfl
theorem Qb7:∀(ids:List Int) (s:St),iZ (Qq ids s).1=iZ s
 |[],s=>by rw[Qq]
 |id::ids,s=>by rw[Qq];exact(Qb7 ids _).trans (Yc1 s id)
theorem U1(b:Bk):∀(n:Nat) (s:St) (ws:List Tr) (l:List Ev),iZ (quiet b n s ws l).1=iZ s
 |0,s,ws,l=>rfl
 |n+1,s,ws,l=>by
  unfold quiet;split
  ·rfl
  ·exact(U1 b n _ _ _).trans (Qb7 ..)
theorem Qcj(b:Bk):∀(n:Nat) (s:St) (ws:List Tr) (fu:Int) (l:List Ev),(YO b n s ws fu l).1=0->Hd s (YO b n s ws fu l).2.1
 |0,s,ws,fu,l,_=>(Uc (U1 b _ s ws l)).trans (Jn ..)
 |n+1,s,ws,fu,l,h=>by
  have q:=Uc (U1 b (Xl s) s ws l);obtain⟨t,w,d,hq⟩:∃t w d,quiet b (Xl s) s ws l=(t,w,d):=⟨_,_,_,rfl⟩;rw[hq]at q;have q:Hd s t:=q;rw[PE n fu hq]at h ⊢;split at h
  ·rename_i h0;rw[aE h0];exact q.trans (Jn ..)
  rename_i h0;rw[aB h0];cases w with
  |nil=>exact q
  |cons x w=>
  have r:=λf=>Uc (J1 b x.side (-1) (bG b x) t f);dsimp only at h ⊢;split at h
  ·rename_i h1;rw[aE h1];exact q.trans (Jn ..)
  rename_i h1;rw[aB h1];split at h
  ·cases h
  rename_i h2;rw[aB h2];split at h
  ·rename_i h3;rw[aE h3];exact(q.trans (r _)).trans (Qcj b n _ _ _ _ h)
  rename_i h3;rw[aB h3];split at h
  ·rename_i h4;rw[aE h4];exact(q.trans (r _)).trans (Jn ..)
  ·rename_i h4;exact absurd h h3
theorem TL{b:Bk}{s:St}{row:List Tr}(h:(bK b s row fu).1=0):Hd s (bK b s row fu).2.1:=by
 unfold bK at h ⊢;split at h
 ·cases h
 rename_i h1;rw[aB h1];split at h
 ·cases h
 rename_i h2;rw[aB h2];split at h
 ·rename_i h3;rw[aE h3];exact⟨rfl,.inl rfl⟩
 ·rename_i h3;rw[aB h3];exact Qcj _ _ _ _ _ _ h
def uG(b:Bk)(s t:St):Prop:=cc b t/\(t.phase=1->t.an≠[])/\s.turn<=t.turn/\t.turn<=s.turn+1
theorem ZeM{b:Bk}{s t:St}(hM:cc b t)(h:Hd s t)(h0:s.phase≠1):uG b s t:=by
 unfold Hd at h;exact⟨hM,λe=>by omega,by omega,by omega⟩
theorem Up{b:Bk}{N C:Nat}{s:St}(c6:(bO b).1=0)(h:cu b N C s){r:Int}(hr:1<=r/\r<=3):uG b s (bV b s r).1:=by
 obtain⟨k1,k2,_⟩:=ON c6 h hr;have:=Jn b s r;unfold Hd at this;exact⟨k1.may,λe=>by omega,by omega,by omega⟩
theorem QcU{b:Bk}{s:St}{l:List Ev}{N C:Nat}(hT:TB N s)(hC:Xj s<=C)(hf:0<=fu/\fu<=1000)(hh:bB s<=14)(hN:N<=12000)(d:C+205000<=1000000)(hp:s.phase≠1)(h:(v_ b s l fu).1=0):uG b s (v_ b s l fu).2.1:=by
 unfold v_ at h ⊢;split at h
 ·rename_i h0;rw[aE h0];exact ZeM (TE hT hC hf (λ_=>by simp;omega) (by omega) h0).2.1.may (TL h0) hp
 ·rename_i h0;exact absurd h h0
theorem uG.of{b:Bk}{s t u:St}(h:uG b t u)(e:t.turn=s.turn):uG b s u:=by
 unfold uG at *;rw[<-e];exact h
theorem UD(b:Bk)(mv:Int):∀(f:List FS) (t:St) (l:List Ev),(ig b mv f t l).2.2=0->iZ (ig b mv f t l).1=iZ t
 |[],t,l,_=>rfl
 |.block a d::r,t,l,h=>by rw[ig]at h ⊢;exact UD b mv r t _ h
 |.harm id n::r,t,l,h=>by
  rw[ig]at h ⊢;split at h
  ·rename_i h0;rw[aE h0];exact(UD b mv r _ _ h).trans (T6 h0)
  ·rename_i h0;exact absurd h h0
theorem Zcd{b:Bk}{t:St}{C:Nat}(hS:cu b 0 C t)(hC:C+210000<=1000000){cN:List (Int×Int)}(h:(ZA b t cN).1=0):uG b t (ZA b t cN).2.1:=by
 obtain⟨k1,k2,k3⟩:=Zbr hS cN;have e:(dK b t cN).2.2=0->(dK b t cN).1.turn=t.turn/\(dK b t cN).1.phase=0:=by
  unfold dK;split
  ·split
   ·exact λq=>by cases q
   ·unfold Dp;split
    ·rename_i h0;intro _;exact⟨(Prod.mk.inj (UD b t.mover (gR b t cN t.an) t [] h0)).1,rfl⟩
    ·rename_i h0;exact λq=>absurd q h0
  ·exact λq=>by cases q
 unfold ZA at h ⊢;split at h
 ·rename_i h0;exact absurd h h0
 ·rename_i h0;rw[aB h0];have h0:(dK b t cN).2.2=0:=by simpa using h0
  obtain⟨d,f,_,i⟩:=k3 h0;exact(QcU d f (by omega) i (by omega) (by omega) (by rw[(e h0).2];omega) h).of (e h0).1
theorem Yc0{b:Bk}{t:St}{C:Nat}(hS:cu b 0 C t){ids:List Int}(h7:ids.length<=7)(h:(ZF b t ids).1=0):uG b t (ZF b t ids).2.1:=by
 unfold ZF at h ⊢;split at h
 ·rename_i h0;rw[aE h0];unfold vm at h0 ⊢;split at h0
  ·rename_i h1;rw[aE h1];split at h0
   ·rename_i h2;rw[aE h2];simp only[Kf,AA,B9,Ct,pI,fe,C1]at h2;obtain⟨⟨⟨⟨g1,D⟩,g9993⟩,g9994⟩,g9995⟩:=h2;obtain⟨hd,h0,h1,⟨u1,j⟩,at_⟩:=hS.may;have hq:t.phase=0:=by simpa using g1
    have o:∀u,Qv b t.next (ca ids u)=Qv b t.next u:=λu=>by unfold ca;split<;>rfl
    have d:∀l:List Th,(l.map (ca ids)).map Th.id=l.map Th.id:=λl=>by rw[E5];congr 1;funext u;exact XcX ids u
    refine⟨⟨?_,⟨h0.aY,h0.aW,h0.most,h0.az,h0.hand,h0.ao,h0.told,by simpa[XT,bI]using h0.af⟩,⟨h1.aY,h1.aW,h1.most,h1.az,h1.hand,h1.ao,h1.told,by simpa[XT,bI]using h1.af⟩,⟨?_,?_⟩,λe=>absurd rfl e,λ_=>⟨rfl,h7,g9994,λx p=>?_⟩⟩,λ_ e=>?_,FW _,by show t.turn<=t.turn+1;omega⟩
    ·unfold Bl at hd ⊢;obtain⟨r,s,w,y,E,F,z,A,f,q10,q11⟩:=hd;exact⟨r,s,w,y,by show (0:Int)<=1;decide,by show (1:Int)<=2;decide,z,A,by rw[hq]at f;exact f,q10,q11⟩
    ·intro u i;show Qv b t.next u=true;simp only[XT,bI,<-A8,By]at i;obtain⟨v,B,rfl⟩:=i;rw[o];exact u1 v B
    ·show ((t.s0.af.map (ca ids)++t.s1.af.map (ca ids)).map Th.id).Nodup;rw[A8,d,d,<-A8];exact j
    ·have:=g9995 x p;rw[OS]at this;simp only[AA,fe]at this;have e:aC (XT t ids) x=aC t x:=Ug ids t x;rw[e];exact⟨this.1,this.2.1⟩
    ·have e:ids=[]:=e;rw[e]at g9993;exact absurd rfl g9993
   ·cases h0
  ·cases h0
 ·rename_i h0;exact absurd h h0
theorem YdW{b:Bk}{s:St}{C:Nat}(hT:TB 0 s)(hC:Xj s<=C)(o:C+210000<=1000000)(hp:s.phase=0)(h:(eV b s 1000).1=0):cc b (eV b s 1000).2.1/\(eV b s 1000).2.1.phase≠1/\(eV b s 1000).2.1.turn=s.turn:=by
 have i:Xm 1000=1000:=by unfold Xm;omega
 unfold eV at h ⊢;split at h
 ·cases h
 rename_i q;rw[aB q];have q:(aJ (bO b).1 b s true&&decide (s.phase≠1))=true:=by simpa using q
 rw[AA]at q;obtain⟨p,f⟩:=Qs.1 q.1;have j:cu b 0 C (QH s):=cu.dw ⟨f,hT,hC⟩ (by omega);have h01:s.mover=0\/s.mover=1:=by have:=f.hd.2.2.1;have:=f.hd.2.2.2.1;omega
 rw[aB (by omega)]at h ⊢;split at h
 ·rename_i h0;exact absurd h h0
 rename_i h0;rw[aB h0];have h0:(aT (QH s) s.mover).2.2=0:=by simpa using h0
 have d:=j.draw (by omega) (by omega) h01 h0;have hd:=(ZcK h0).trans (show iZ (QH s)=(s.turn,s.mover,s.phase,false,s.result) by unfold QH St.put;split<;>rfl);simp only[iZ,F0]at hd;have r:=qY d.may;have w:=CI (JV b s.mover ((aT (QH s) s.mover).1.side s.mover).af) (show _<=7 by unfold St.side;split;exact d.may.s0.af;exact d.may.s1.af);rw[i]at h ⊢;dsimp only at h ⊢;split at h
 ·rename_i h1;exact absurd h h1
 rename_i h1;rw[aB h1];have h1:=Ha.1 h1;exact⟨(TE d.told d.aj (by omega) (λ_=>by omega) (by omega) h1).2.1.may,(TL h1).ne (by have:=hd.2.2.1;omega),(TL h1).1.trans hd.1⟩
theorem Yea{b:Bk}(jY:b.aj.length<=61)(c6:(bO b).1=0){t:St}{C:Nat}(hS:cu b 0 C t)(hC:C+210000<=1000000){a:Ac}(h01:a.side=0\/a.side=1)(T:0<=a.place)(V:a.place<((t.side a.side).hand.length:Int))
 (o:((b.aj[(((t.side a.side).hand[a.place.toNat]?).getD 0).toNat]?).getD default).cost<=(t.side a.side).aW)(E:t.phase=0)(h:(QR b t a).1=0):uG b t (QR b t a).2.1:=by
 have p:a.place.toNat<(t.side a.side).hand.length:=by omega
 have F:(t.side a.side).hand[a.place.toNat]?=some (t.side a.side).hand[a.place.toNat]:=by simp[p]
 have X:0<=(t.side a.side).hand[a.place.toNat]/\(t.side a.side).hand[a.place.toNat]<b.aj.length:=by
  have h:=hS.may;have i:Zn b.aj.length (t.side a.side).hand 10=true:=by rcases h01 with e|e<;>rw[e];exact h.s0.hand;exact h.s1.hand
  exact(Ql.1 i).2 _ (AI _)
 unfold QR at h ⊢;dsimp only at h ⊢;rw[F,Cw]at h o ⊢;generalize G:(t.side a.side).hand[a.place.toNat]=c at *;obtain⟨d,y⟩:∃d,b.aj[c.toNat]?=some d:=⟨b.aj[c.toNat]'(by omega),by simp[show c.toNat<b.aj.length by omega]⟩;rw[y,Cw]at h o ⊢;obtain⟨H,L,N,Y⟩:=Qbl c6 (Au y);have h200:=(Ds (Zdu c6 jY H L)).2;have P:(t.side a.side).ao.length+1<=1000000:=by
  have:=hS.aj;unfold Xj at this;rcases h01 with e|e<;>rw[e]
  ·show t.s0.ao.length+1<=_;omega
  ·show t.s1.ao.length+1<=_;omega
 have z:=hS.may.yi h01 p ⟨N,o⟩ P;rw[G]at z;have Q:TB 0 (gz t a.side a.place.toNat c d):=by
  have:=hS.told;rcases h01 with e|e<;>rw[e]<;>exact this
 have hC1:=Qbx t h01 p c d;have hSc:=hS.aj;have A:iZ (gz t a.side a.place.toNat c d)=iZ t:=wL ..;generalize gz t a.side a.place.toNat c d=t1 at *;have B:cu b 0 C t1:=⟨z,Q,by omega⟩;have D:cu b 0 (C+1) (y9 b a c d t1).1/\iZ (y9 b a c d t1).1=iZ t:=by
  unfold y9;split
  ·rename_i i;simp only[AA,B9]at i;exact⟨ZcM B h01 i.2,(show iZ (Qy t1 a.side c)=iZ t1 from wL ..).trans A⟩
  ·exact⟨B.mono (by omega) (by omega),A⟩
 generalize y9 b a c d t1=s at *;obtain⟨f,-⟩:=zy (tg:=a.target) h01 d.bp 1000 D.1 (by omega) (by omega);have j:=(J1 b a.side a.target d.bp s.1 1000).trans D.2;have wh:=HQ b a.side a.target d.bp s.1 1000 (by omega);unfold RU at h ⊢;generalize runs b a.side a.target d.bp s.1 1000=R at *;have f:cu b 12000 (C+201) R.2.1:=f.mono (by omega) (by omega);simp only[iZ,F0]at j;have hd4:R.2.1.phase=0:=by rw[j.2.2.1,E]
 split at h
 ·rename_i w;rw[aE w];have k:=Up c6 f (r:=3) (by omega);obtain⟨_,S,_⟩:=ON c6 f (r:=3) (by omega);unfold sr;rw[aB (by simp),aE S];exact k.of j.1
 ·rename_i w;rw[aB w];unfold sr at h ⊢;split at h
  ·rename_i h0;exact absurd h h0
  rename_i h0;rw[aB h0];dsimp only at h ⊢;rw[aB (by omega)]at h ⊢;exact(QcU f.told f.aj (by omega) (qY f.may) (by omega) (by omega) (by omega) h).of j.1
theorem Zea{b:Bk}{t:St}{C:Nat}(c6:(bO b).1=0)(hS:cu b 0 C t)(hC:C+210000<=1000000)(hp:t.phase≠2){cN:List (Int×Int)}(h:(YV b t cN).1=0):uG b t (YV b t cN).2.1:=by
 unfold YV at h ⊢;split at h
 ·rename_i h0;rw[aE h0];exact Zcd hS hC h
 rename_i h0;rw[aB h0];have d:t.phase=0:=by have:=hS.may.hd;unfold Bl at this;omega
 split at h
 ·rename_i h1;rw[aE h1];exact Up c6 hS (by omega)
 rename_i h1;rw[aB h1];split at h
 ·rename_i h2;rw[aE h2];obtain⟨k1,k2,k3⟩:=YdW (s:=kJ t) hS.told hS.aj hC d h2;have f:=hS.may.hd;unfold Bl at f;have e:(kJ t).turn=t.turn+1:=Bb _ (by omega);rw[e]at k3;unfold uG;exact⟨k1,λq=>absurd q k2,Int.le_trans (b:=t.turn+1) (by omega) (Ml k3.symm),Ml k3⟩
 ·rename_i h2;exact absurd h h2
theorem Zd8{b:Bk}{s:St}(c6:(bO b).1=0)(h:cc b s)(h1:s.phase=1->s.an≠[]):aJ (bO b).1 b s false=true:=by
 have k:=Qs.2 ⟨c6,h⟩;simp only[aJ,AA]at k ⊢
 grind
theorem YeY{b:Bk}{s:St}{a:Ac}(h:jV b s a=0):aJ (bO b).1 b s false=true/\s.phase≠2/\wa b s a=0:=by
 unfold jV at h;split at h
 ·rename_i d;split at h
  ·cases h
  ·rename_i f;exact⟨d,f,h⟩
 ·cases h
theorem XeQ{b:Bk}{s:St}{C:Nat}(jY:aJ (bO b).1 b s false=true->b.aj.length<=61)(z:Xj s<=C)(hC:C+210000<=1000000){a:Ac}(h:(gg b s a).1=0):(bO b).1=0/\cc b s/\uG b s (gg b s a).2.1:=by
 unfold gg at h ⊢;split at h
 ·rename_i h0;exact absurd h h0
 rename_i h0;rw[aB h0];obtain⟨r,A,hd⟩:=YeY (Ha.1 h0);obtain⟨j,w⟩:=Qs.1 (Jy r);have f:cu b 0 C (cH s):=⟨w.cH,⟨by simp[cH],by simp[cH]⟩,z⟩;refine⟨j,w,uG.of (t:=cH s) ?_ rfl⟩;unfold wa at hd;split at hd
 ·cases hd
 rename_i hb;simp only[oF,EA,fe,not_or]at hb;unfold QJ at h ⊢;split at h
 ·rename_i i;rw[aE i];rw[aB (by omega)]at hd;split at hd
  ·rename_i d;have d:=d.2;rw[kR,aE i,AA,fe]at d;obtain⟨B,d⟩:=d;have d:pq b s (s.side a.side) a.place a.target=true:=d;simp only[pq,AA,fe,B9,Ct,pI]at d;obtain⟨⟨D,E⟩,⟨F,-⟩,-⟩:=d;obtain⟨y,G⟩:=ZbB s (m:=a.side);exact Yea (jY r) j f hC (by omega) D (by rw[y];exact E) (by rw[y,G];exact Mx.1 F) B h
  ·cases hd
 rename_i i;rw[aB i];split at h
 ·rename_i o;rw[aE o];refine Yc0 f ?_ h;rw[aB (by omega)]at hd;split at hd
  ·rename_i d;have d:=d.2;rw[kR,aB i,aE o,AA]at d;have d:=d.2;simp only[zU,AA,B9,pI]at d;omega
  ·cases hd
 rename_i o;rw[aB o];split at h
 ·rename_i p;rw[aE p];exact Zcd f hC h
 rename_i p;rw[aB p];split at h
 ·rename_i ho3;rw[aE ho3];exact Zea j f hC A h
 ·rename_i ho3;rw[aB ho3];exact Up j f (by split<;>omega)
theorem Kx(b:Bk)(hf:aN b=true)(d:Yg b.aj)(s:St)(hs:ba 1000000000 s)(a:Ac)(hl:a.ids.length<=1000000)(dg:a.cN.length<=1000000)(h:jV b s a≠0) :
  PC 6 [dd b,bN s,.agg (iK a)] (.bw [bN eG,.aX false false 7 (([]:List Ev).map cS),O (jV b s a)]):=
 p107 b s hs a (jV b s a) _ _ _ (KH b hf d s hs a (by omega) (by omega)) (λ_=>⟨rfl,rfl⟩) (λ_=>rfl) (λe=>absurd e h) (λe=>absurd e h)
theorem o25(h101:PC 5 [] (.bool true))(h89:jN prog 118)(hn:j8 prog 118)(b:Bk)(hf:aN b=true)(f:Yg b.aj)(s:St)(hs:ba 2000000 s)(a c:Ac)(hl:a.ids.length<=1000000000)(dg:a.cN.length<=1000000000)(hm:c.ids.length<=1000000000)(vA:c.cN.length<=1000000000) :
  PC 3 [dd b,bN s,.agg (iK a),.agg (iK c)] (.bool true):=by
 obtain⟨q,h77,hq⟩:=VN b hf s hs [] rfl;refine Xa hP g3.ok rfl rfl ?_;rw[H4.e];unfold g3;dsimp only;refine au ?_;refine Yt (rd:=[]) h77 rfl g4.ok.plain (.cons (aA.ro rfl) <| .cons (aA.ro rfl) <| .cons (aA.nl 14) .nil) rfl ?_;cases q with
 |true=>
  refine au ?_;exact bD h101 g5.ok rfl
 |false=>
 obtain⟨C,z⟩:=hq rfl;have i:Xj s<=((1000:Nat):Int):=by unfold s8 at z;unfold Xj;omega
 refine au ?_;refine Ya (λ_=>bD h101 g5.ok rfl) (λj=>?_);simp only[Be]at j;rw[Bb ((a.ids.length:Int)+a.cN.length) (by omega),Bb ((a.ids.length:Int)+a.cN.length+c.ids.length) (by omega),Bb ((a.ids.length:Int)+a.cN.length+c.ids.length+c.cN.length) (by omega),pI]at j;have h107:=c107 h89 hn b hf f s hs (λ_=>by omega) i (by omega) a (by omega) (by omega);refine au ?_;refine bD h107 g6.ok ?_;have o:=K6 b s a;have p:=XeQ (b:=b) (s:=s) (a:=a) (λ_=>by omega) i (by omega);clear h107;generalize gg b s a=R at *;obtain⟨e,t,l⟩:=R;dsimp only at o p ⊢;refine au ?_;refine Ya (λhe=>?_) (λhe=>?_)
 ·have he:e≠0:=by simpa using he
  obtain⟨rfl,rfl⟩:=o he;have h45:=VH eG ⟨Bf _,⟨Bf _,Bf _,Bf _,Bf _,Bf _⟩,⟨Bf _,Bf _,Bf _,Bf _,Bf _⟩⟩;refine au ?_;refine Yt (rd:=[]) h45 rfl g7.ok.plain (.cons (aA.ro rfl) <| .cons SB.zero.agg .nil) rfl ?_;refine au ?_;refine bD h101 g5.ok ?_;exact Z rfl rfl
 have he:e=0:=by simpa using he
 obtain⟨A,B,r,hA1,D,hA3⟩:=p he;have hle:=Zdz r;have w:=Zd8 A r hA1;have h41:=c16 b t (hle.mono (by decide)) _ _ (c67 b hf);rw[w]at h41;refine au ?_;refine bD h41 g8.ok ?_;refine au ?_;have hd:=B.hd;unfold Bl at hd;rw[i7 (show ¬t.turn<s.turn by omega)];refine au ?_;rw[Bb (s.turn+1) (by omega),i7 (show ¬s.turn+1<t.turn by omega)];refine au ?_;refine Ya (λ_=>bD h101 g5.ok rfl) (λd=>?_);have d:t.phase=2:=by simpa using d
 have y:jV b t c=211:=by unfold jV;rw[aE w,aE d]
 have h107:=Kx b hf f t (hle.mono (by decide)) c (by omega) (by omega) (by rw[y];decide);rw[y]at h107;refine au ?_;refine bD h107 g6.ok ?_;refine au ?_;refine bD h101 g5.ok ?_;exact Z rfl rfl
end Go.Ah.Tz
end
section
namespace Go.Ah.Tz
open Go.Proofs.Tryz (prog)
open Go.Proofs.YtcoggjehhecohaaGreatDoor.Rows (uptoBulk uptoBulkAll)
variable {H:Type}
theorem X5(b:List UInt8):uptoBulk (DataW.lit (H:=H) (.string b))=b.length+1:=by simp only[uptoBulk]
theorem QU(ds:List (DataW H)):uptoBulk (.agg ds)=uptoBulkAll ds+1:=by simp only[uptoBulk]
theorem Yep(es b:List (DataW H)):uptoBulk (.slice es b)=uptoBulkAll es+uptoBulkAll b+1:=by simp only[uptoBulk]
theorem XB(d:DataW H)(ds:List (DataW H)):uptoBulkAll (d::ds)=uptoBulk d+uptoBulkAll ds:=by simp only[uptoBulkAll]
theorem QdS(d:DataW H):1<=uptoBulk d:=by
 cases d with
 |lit l=>cases l<;>simp[uptoBulk]
 |_=>simp[uptoBulk]
def Qt(P:Program)(t:TypeId):Option (List TypeId):=match P.underlying t with
 |some (.struct b)=>some (b.toList.map (·.type))
 |_=>none
variable{t e:TypeId}
variable{P:Program}
variable{xs:List I}
variable{fuel:Nat}
theorem XM{d:DataW H}{i:List TypeId}(h:Typed P fuel t xs d)(hs:Qt P t=some i):∃f parts b,fuel=f+1/\xs=parts.flatten/\d=.agg b/\zC (Typed P f) i parts b:=by
 cases fuel with
 |zero=>exact h.elim
 |succ f=>
  unfold Typed at h;unfold Qt at hs;split at hs
  ·rename_i j e;rw[e]at h;cases hs;obtain⟨parts,b,h1,h2,h3⟩:=h;exact⟨f,parts,b,rfl,h1,h2,h3⟩
  ·cases hs
theorem Xw{d:DataW H}{k:IntKind}(h:Typed P fuel t xs d)(hu:P.underlying t=some (.int k)):∃n,xs=[.int k n]/\(Mh k n).wf=true/\d=.lit (.int k n):=by
 cases fuel with
 |zero=>exact h.elim
 |succ f=>unfold Typed at h;rw[hu]at h;exact h
theorem T5{d:DataW H}(h:Typed P fuel t xs d)(hu:P.underlying t=some .bool):∃b,xs=[.bool b]/\d=.lit (.bool b):=by
 cases fuel with
 |zero=>exact h.elim
 |succ f=>unfold Typed at h;rw[hu]at h;exact h
theorem JN{d:DataW H}(h:Typed P fuel t xs d)(hu:P.underlying t=some .string):∃s,xs=[.str s]/\d=.lit (.string s):=by
 cases fuel with
 |zero=>exact h.elim
 |succ f=>unfold Typed at h;rw[hu]at h;exact h
theorem QdO{X:Type}(f:X->List I)(m:X->Nat)(Q:X->Prop){B:Nat}(hx:∀xs (d:DataW H),Typed P fuel e xs d->uptoBulk d<=B->∃x,xs=f x/\Q x/\m x<=uptoBulk d) :
  ∀ {rows:List (List I)} {b:List (DataW H)},te (Typed P fuel e) rows b->uptoBulkAll b<=B->∃l:List X,rows=l.map f/\(∀x∈l,Q x)/\(l.map m).sum<=uptoBulkAll b/\l.length<=uptoBulkAll b
 |[],[],_,_=>⟨[],rfl,by simp,by simp,by simp⟩
 |r::rows,d::b,h,hb=>by
  rw[XB]at hb;obtain⟨x,j,o,w⟩:=hx r d h.1 (by omega);obtain⟨l,p,s,z,A⟩:=QdO f m Q hx h.2 (by omega);refine⟨x::l,by rw[j,p];rfl,λy i=>?_,?_,?_⟩
  ·rcases Az.1 i with rfl|i
   ·exact o
   ·exact s y i
  ·rw[B7,GI,XB];omega
  ·have:=QdS d;rw[A1,XB];omega
 |[],_::_,h,_=>h.elim
 |_::_,[],h,_=>h.elim
theorem YN{n:Nat}{d:DataW H}{X:Type}(b:X->List I)(m:X->Nat)(Q:X->Prop){B:Nat}(h:Typed P fuel t xs d)(hu:P.underlying t=some (.slice e))(hn:P.cellsOf e=n)
 (hx:∀f,f<fuel->∀xs (d:DataW H),Typed P f e xs d->uptoBulk d<=B->∃x,xs=b x/\Q x/\m x<=uptoBulk d)(hb:uptoBulk d<=B) :
  ∃l:List X,xs=[.aX false false n (l.map b)]/\(∀x∈l,Q x)/\(l.map m).sum<=uptoBulk d/\l.length<=uptoBulk d:=by
 cases fuel with
 |zero=>exact h.elim
 |succ f=>
  unfold Typed at h;rw[hu]at h;subst hn;obtain⟨rows,rfl,⟨rfl,rfl⟩|⟨i,j,rfl,h2⟩⟩:=h
  ·exact⟨[],rfl,by simp,by simp,by simp⟩
  ·rw[Yep]at hb ⊢;obtain⟨l,rfl,q,s,k⟩:=QdO b m Q (hx f (by omega)) h2 (by omega);exact⟨l,rfl,q,by omega,by omega⟩
theorem QeI{d:DataW H}(h:Typed P fuel t xs d)(hu:P.underlying t=some (.array 2 e)):∃f p q a b,fuel=f+1/\xs=p++q/\d=.agg [a,b]/\Typed P f e p a/\Typed P f e q b:=by
 cases fuel with
 |zero=>exact h.elim
 |succ f=>
  unfold Typed at h;rw[hu]at h;obtain⟨parts,i,rfl,rfl,j,h2⟩:=h
  match parts,j,h2 with
  |[p,q],_,h2=>
   obtain⟨a,i,rfl,o,h2⟩:=h2.cons;obtain⟨b,i,rfl,hb,h2⟩:=h2.cons
   match i,h2 with
   |[],_=>exact⟨f,p,q,a,b,rfl,by simp,rfl,o,hb⟩
theorem wf8{n:Int}(h:(Mh .i8 n).wf=true):CK n=true:=by
 have h1:Ly.min = -128:=by decide
 have h2:Ly.max=127:=by decide
 simp only[Lit.wf,h1,h2]at h;exact h
theorem aa_{n:Int}(h:(Mh .i64 n).wf=true):Ek n=true:=by
 have h1:AF.min = -9223372036854775808:=by decide
 have h2:AF.max=9223372036854775807:=by decide
 simp only[Lit.wf,h1,h2]at h;exact h
theorem Yci{l:List Nm}(h:∀x∈l,di x=true):zJ l=true:=by
 induction l with
 |nil=>rfl
 |cons x l b=>simp only[zJ,AA];exact⟨h x (EL ..),b λy d=>h y (DI _ d)⟩
theorem Qdk{l:List Cn}(h:∀x∈l,cP x=true):Dr l=true:=by
 induction l with
 |nil=>rfl
 |cons x l b=>simp only[Dr,AA];exact⟨h x (EL ..),b λy d=>h y (DI _ d)⟩
theorem S9{l:List Ef}(h:∀x∈l,dO x=true):yX l=true:=by
 induction l with
 |nil=>rfl
 |cons x l b=>simp only[yX,AA];exact⟨h x (EL ..),b λy d=>h y (DI _ d)⟩
theorem U0:∀l:List Nm,(pn l).length=(l.map λx=>(rQ x).length).sum
 |[]=>rfl
 |x::l=>by simp only[pn,AT,B7,GI,U0 l]
theorem ZcI:∀l:List Cn,(qM l).length=(l.map λx=>(tN x).length).sum
 |[]=>rfl
 |x::l=>by simp only[qM,AT,B7,GI,ZcI l]
theorem Pf:∀l:List Ef,(bR l).length=(l.map λx=>(jD x).length).sum
 |[]=>rfl
 |x::l=>by simp only[bR,AT,B7,GI,Pf l]
theorem jO{n k:Nat}(h:n<=k)(hk:k<=1048576):decide (n<=iC)=true:=gA (CI h (CI hk (by decide)))
abbrev vW:TypeId:=26
abbrev QQ:TypeId:=3
abbrev Jq:TypeId:=4
abbrev zS:TypeId:=9
abbrev Iy:TypeId:=74
abbrev RD:TypeId:=72
abbrev HV:TypeId:=77
abbrev UJ:TypeId:=75
abbrev Kn:TypeId:=79
abbrev BC:TypeId:=46
abbrev Jt:TypeId:=67
abbrev Vn:TypeId:=22
abbrev J8:TypeId:=70
abbrev Ud:TypeId:=23
abbrev Pu:TypeId:=68
abbrev wN:TypeId:=25
abbrev Ko:TypeId:=100
abbrev Vo:TypeId:=28
abbrev yV:TypeId:=27
abbrev Ps:TypeId:=30
abbrev Tt:TypeId:=31
abbrev wI:TypeId:=33
theorem zA:prog.underlying vW=some (.int .i8):=by kernel_rfl
theorem X0:prog.underlying QQ=some (.int .i64):=by kernel_rfl
theorem Jr:prog.underlying Jq=some .bool:=by kernel_rfl
theorem Kl:prog.underlying zS=some .string:=by kernel_rfl
theorem Ye5:prog.underlying RD=some (.slice Iy):=by kernel_rfl
theorem Oe:prog.underlying UJ=some (.slice HV):=by kernel_rfl
theorem Vp:prog.underlying BC=some (.slice Kn):=by kernel_rfl
theorem Od:prog.underlying Vn=some (.slice Jt):=by kernel_rfl
theorem Of:prog.underlying Ud=some (.slice J8):=by kernel_rfl
theorem Xe5:prog.underlying Pu=some (.slice zS):=by kernel_rfl
theorem Oi:prog.underlying Vo=some (.slice Ko):=by kernel_rfl
theorem Ze5:prog.underlying yV=some (.slice QQ):=by kernel_rfl
theorem Oh:prog.underlying Tt=some (.array 2 Ps):=by kernel_rfl
theorem M5:prog.cellsOf Iy=4:=by kernel_rfl
theorem aaE:prog.cellsOf HV=5:=by kernel_rfl
theorem Ep:prog.cellsOf Kn=14:=by kernel_rfl
theorem aaD:prog.cellsOf Jt=12:=by kernel_rfl
theorem aaF:prog.cellsOf J8=7:=by kernel_rfl
theorem ZeZ:prog.cellsOf zS=1:=by kernel_rfl
theorem aaH:prog.cellsOf Ko=4:=by kernel_rfl
theorem M4:prog.cellsOf QQ=1:=by kernel_rfl
theorem aaT:Qt prog Iy=some [vW,QQ,vW,RD]:=by kernel_rfl
theorem aaQ:Qt prog HV=some [vW,vW,zS,RD,UJ]:=by kernel_rfl
theorem aaR:Qt prog Kn=some [vW,vW,Iy,zS,HV,BC,BC]:=by kernel_rfl
theorem aaP:Qt prog Jt=some [zS,Jq,QQ,QQ,QQ,QQ,QQ,QQ,BC,BC,BC,QQ]:=by kernel_rfl
theorem aaS:Qt prog J8=some [zS,QQ,QQ,QQ,Pu,Pu,QQ]:=by kernel_rfl
theorem Nq:Qt prog wN=some [Vn,Ud]:=by kernel_rfl
theorem aaW:Qt prog Ko=some [QQ,QQ,QQ,Jq]:=by kernel_rfl
theorem aaV:Qt prog Ps=some [QQ,QQ,QQ,yV,yV,yV,Vo,yV]:=by kernel_rfl
theorem Nr:Qt prog wI=some [QQ,QQ,vW,Jq,vW,yV,QQ,Tt]:=by kernel_rfl
theorem Ze4(fuel:Nat):∀xs (d:DataW H),Typed prog fuel Iy xs d->uptoBulk d<=1048576->∃x,xs=cK x/\di x=true/\(rQ x).length<=uptoBulk d:=by
 induction fuel using Eu with
 |_ fuel j=>
 intro xs d h hb;obtain⟨f,parts,b,rfl,rfl,rfl,r⟩:=XM h aaT;obtain⟨B,parts,d0,b,rfl,rfl,h0,r⟩:=r.cons;obtain⟨C,parts,d1,b,rfl,rfl,h1,r⟩:=r.cons;obtain⟨D,parts,E,b,rfl,rfl,h2,r⟩:=r.cons;obtain⟨F,parts,i,b,rfl,rfl,h3,r⟩:=r.cons;obtain⟨rfl,rfl⟩:=r.nil;obtain⟨o,rfl,p,rfl⟩:=Xw h0 zA;obtain⟨w,rfl,y,rfl⟩:=Xw h1 X0;obtain⟨z,rfl,G,rfl⟩:=Xw h2 zA;simp only[QU,XB,X5]at hb ⊢;obtain⟨l,rfl,q,s,k⟩:=YN cK (λx=>(rQ x).length) (λx=>di x=true) h3 Ye5 M5 (λA hf=>j A (by omega)) (show uptoBulk i<=1048576 by omega);refine⟨.mk o w z l,by rw[YD];rfl,?_,?_⟩
 ·simp only[di,jO k (show uptoBulk i<=1048576 by omega),Yci q,wf8 p,aa_ y,C2]
 ·simp only[rQ,A1,U0];omega
theorem N8(fuel:Nat):∀xs (d:DataW H),Typed prog fuel HV xs d->uptoBulk d<=1048576->∃x,xs=fA x/\cP x=true/\(tN x).length<=uptoBulk d:=by
 induction fuel using Eu with
 |_ fuel p=>
 intro xs d h hb;obtain⟨f,parts,b,rfl,rfl,rfl,r⟩:=XM h aaQ;obtain⟨D,parts,d0,b,rfl,rfl,h0,r⟩:=r.cons;obtain⟨E,parts,d1,b,rfl,rfl,h1,r⟩:=r.cons;obtain⟨F,parts,G,b,rfl,rfl,h2,r⟩:=r.cons;obtain⟨K,parts,j,b,rfl,rfl,h3,r⟩:=r.cons;obtain⟨L,parts,o,b,rfl,rfl,h4,r⟩:=r.cons;obtain⟨rfl,rfl⟩:=r.nil;obtain⟨w,rfl,y,rfl⟩:=Xw h0 zA;obtain⟨z,rfl,N,rfl⟩:=Xw h1 zA;obtain⟨A,rfl,rfl⟩:=JN h2 Kl;simp only[QU,XB,X5]at hb ⊢;obtain⟨l,rfl,q,s,k⟩:=YN cK (λx=>(rQ x).length) (λx=>di x=true) h3 Ye5 M5 (λi _=>Ze4 i) (show uptoBulk j<=1048576 by omega);obtain⟨B,rfl,C,Q,k2⟩:=YN fA (λx=>(tN x).length) (λx=>cP x=true) h4 Oe aaE (λi hf=>p i (by omega)) (show uptoBulk o<=1048576 by omega);refine⟨.mk w z A l B,by rw[QN];rfl,?_,?_⟩
 ·simp only[cP,jO k (show uptoBulk j<=1048576 by omega),Yci q,jO k2 (show uptoBulk o<=1048576 by omega),Qdk C,wf8 y,C2]
 ·simp only[tN,A1,AT,U0,ZcI];omega
theorem N9(fuel:Nat):∀xs (d:DataW H),Typed prog fuel Kn xs d->uptoBulk d<=1048576->∃x,xs=bC x/\dO x=true/\(jD x).length<=uptoBulk d:=by
 induction fuel using Eu with
 |_ fuel p=>
 intro xs d h hb;obtain⟨f,parts,b,rfl,rfl,rfl,r⟩:=XM h aaR;obtain⟨G,parts,d0,b,rfl,rfl,h0,r⟩:=r.cons;obtain⟨K,parts,d1,b,rfl,rfl,h1,r⟩:=r.cons;obtain⟨L,parts,N,b,rfl,rfl,h2,r⟩:=r.cons;obtain⟨Q,parts,R,b,rfl,rfl,h3,r⟩:=r.cons;obtain⟨S,parts,T,b,rfl,rfl,h4,r⟩:=r.cons;obtain⟨V,parts,w,b,rfl,rfl,h5,r⟩:=r.cons;obtain⟨X,parts,y,b,rfl,rfl,h6,r⟩:=r.cons;obtain⟨rfl,rfl⟩:=r.nil;obtain⟨i,rfl,z,rfl⟩:=Xw h0 zA;obtain⟨A,rfl,Y,rfl⟩:=Xw h1 zA;obtain⟨B,rfl,rfl⟩:=JN h3 Kl;simp only[QU,XB,X5]at hb ⊢;obtain⟨n,rfl,C,kn⟩:=Ze4 _ _ _ h2 (by omega);obtain⟨c,rfl,D,kc⟩:=N8 _ _ _ h4 (by omega);obtain⟨l,rfl,q,s,k⟩:=YN bC (λx=>(jD x).length) (λx=>dO x=true) h5 Vp Ep (λj hf=>p j (by omega)) (show uptoBulk w<=1048576 by omega);obtain⟨o,rfl,E,s2,k2⟩:=YN bC (λx=>(jD x).length) (λx=>dO x=true) h6 Vp Ep (λj hf=>p j (by omega)) (show uptoBulk y<=1048576 by omega);refine⟨.mk i A n B c l o,by rw[Yz,YD,QN];rfl,?_,?_⟩
 ·simp only[dO,C,D,jO k (show uptoBulk w<=1048576 by omega),S9 q,jO k2 (show uptoBulk y<=1048576 by omega),S9 E,wf8 z,C2]
 ·have e1:(if cQ i then rQ n else []).length<=(rQ n).length:=by split<;>simp
  have F:(if i=8 then tN c++(bR l++bR o)else []).length<=(tN c).length+(bR l).length+(bR o).length:=by
   split
   ·simp only[AT];omega
   ·simp
  rw[Pf,Pf]at F;simp only[jD,A1,AT];omega
theorem Ua{d:DataW H}(h:Typed prog fuel BC xs d)(hb:uptoBulk d<=1048576):∃l,xs=[gE l]/\bz l=true/\(bR l).length<=uptoBulk d:=by
 obtain⟨l,rfl,q,s,k⟩:=YN bC (λx=>(jD x).length) (λx=>dO x=true) h Vp Ep (λb _=>N9 b) hb;exact⟨l,rfl,by simp only[bz,jO k hb,S9 q,C2],by rw[Pf];exact s⟩
theorem N7(fuel:Nat)(xs:List I)(d:DataW H)(h:Typed prog fuel Jt xs d)(hb:uptoBulk d<=1048576):∃x,xs=cM x/\(gq x=true/\(od x).length<=1048576)/\0<=uptoBulk d:=by
 obtain⟨f,parts,i,rfl,rfl,rfl,r⟩:=XM h aaP;obtain⟨F,parts,d0,i,rfl,rfl,h0,r⟩:=r.cons;obtain⟨G,parts,d1,i,rfl,rfl,h1,r⟩:=r.cons;obtain⟨K,parts,L,i,rfl,rfl,h2,r⟩:=r.cons;obtain⟨N,parts,Q,i,rfl,rfl,h3,r⟩:=r.cons;obtain⟨R,parts,S,i,rfl,rfl,h4,r⟩:=r.cons;obtain⟨T,parts,V,i,rfl,rfl,h5,r⟩:=r.cons;obtain⟨X,parts,Y,i,rfl,rfl,h6,r⟩:=r.cons;obtain⟨p7,parts,d7,i,rfl,rfl,h7,r⟩:=r.cons;obtain⟨p8,parts,d8,i,rfl,rfl,j,r⟩:=r.cons;obtain⟨p9,parts,d9,i,rfl,rfl,o,r⟩:=r.cons;obtain⟨p10,parts,d10,i,rfl,rfl,h10,r⟩:=r.cons;obtain⟨p11,parts,d11,i,rfl,rfl,h11,r⟩:=r.cons;obtain⟨rfl,rfl⟩:=r.nil;obtain⟨v0,rfl,rfl⟩:=JN h0 Kl;obtain⟨p,rfl,rfl⟩:=T5 h1 Jr;obtain⟨s,rfl,w2,rfl⟩:=Xw h2 X0;obtain⟨w,rfl,w3,rfl⟩:=Xw h3 X0;obtain⟨y,rfl,w4,rfl⟩:=Xw h4 X0;obtain⟨z,rfl,w5,rfl⟩:=Xw h5 X0;obtain⟨A,rfl,w6,rfl⟩:=Xw h6 X0;obtain⟨B,rfl,w7,rfl⟩:=Xw h7 X0;obtain⟨v11,rfl,w11,rfl⟩:=Xw h11 X0;simp only[QU,XB,X5]at hb ⊢;obtain⟨a,rfl,C,ka⟩:=Ua j (by omega);obtain⟨b,rfl,D,kb⟩:=Ua o (by omega);obtain⟨c,rfl,E,kc⟩:=Ua h10 (by omega);refine⟨⟨v0,p,s,w,y,z,A,B,a,b,c,v11⟩,rfl,⟨?_,?_⟩,by omega⟩
 ·simp only[gq,jO (AO v0.length) (by omega),C,D,E,C2]
 ·simp only[od,AT];omega
theorem Qe4(fuel:Nat)(xs:List I)(d:DataW H)(h:Typed prog fuel zS xs d)(_:uptoBulk d<=1048576):∃x,xs=vR x/\True/\0<=uptoBulk d:=by
 obtain⟨s,rfl,rfl⟩:=JN h Kl;exact⟨s,rfl,trivial,by omega⟩
theorem N_(fuel:Nat)(xs:List I)(d:DataW H)(h:Typed prog fuel J8 xs d)(hb:uptoBulk d<=1048576):∃x,xs=oR x/\oS x=true/\0<=uptoBulk d:=by
 obtain⟨f,parts,i,rfl,rfl,rfl,r⟩:=XM h aaS;obtain⟨C,parts,d0,i,rfl,rfl,h0,r⟩:=r.cons;obtain⟨D,parts,d1,i,rfl,rfl,h1,r⟩:=r.cons;obtain⟨E,parts,F,i,rfl,rfl,h2,r⟩:=r.cons;obtain⟨G,parts,K,i,rfl,rfl,h3,r⟩:=r.cons;obtain⟨L,parts,o,i,rfl,rfl,h4,r⟩:=r.cons;obtain⟨N,parts,p,i,rfl,rfl,h5,r⟩:=r.cons;obtain⟨Q,parts,R,i,rfl,rfl,h6,r⟩:=r.cons;obtain⟨rfl,rfl⟩:=r.nil;obtain⟨v0,rfl,rfl⟩:=JN h0 Kl;obtain⟨s,rfl,S,rfl⟩:=Xw h1 X0;obtain⟨w,rfl,T,rfl⟩:=Xw h2 X0;obtain⟨y,rfl,V,rfl⟩:=Xw h3 X0;obtain⟨z,rfl,X,rfl⟩:=Xw h6 X0;simp only[QU,XB,X5]at hb ⊢;obtain⟨a,rfl,_,_,A⟩:=YN vR (λ_=>0) (λ_=>True) h4 Xe5 ZeZ (λj _=>Qe4 j) (show uptoBulk o<=1048576 by omega);obtain⟨b,rfl,_,_,B⟩:=YN vR (λ_=>0) (λ_=>True) h5 Xe5 ZeZ (λj _=>Qe4 j) (show uptoBulk p<=1048576 by omega);refine⟨⟨v0,s,w,y,a,b,z⟩,rfl,?_,by omega⟩;simp only[oS,jO (AO v0.length) (by omega),jO A (show uptoBulk o<=1048576 by omega),jO B (show uptoBulk p<=1048576 by omega),C2]
theorem N6{d:DataW H}(h:Typed prog fuel wN xs d)(hb:uptoBulk d<=1048576):∃x,xs=cf x/\aN x=true/\Yg x.aj:=by
 obtain⟨f,parts,o,rfl,rfl,rfl,r⟩:=XM h Nq;obtain⟨s,parts,d0,o,rfl,rfl,h0,r⟩:=r.cons;obtain⟨w,parts,d1,o,rfl,rfl,h1,r⟩:=r.cons;obtain⟨rfl,rfl⟩:=r.nil;simp only[QU,XB,X5]at hb ⊢;obtain⟨a,rfl,q,_,k⟩:=YN cM (λ_=>0) (λx=>gq x=true/\(od x).length<=1048576) h0 Od aaD (λi _=>N7 i) (show uptoBulk d0<=1048576 by omega);obtain⟨b,rfl,p,_,k2⟩:=YN oR (λ_=>0) (λx=>oS x=true) h1 Of aaF (λi _=>N_ i) (show uptoBulk d1<=1048576 by omega);refine⟨⟨a,b⟩,rfl,?_,λc j=>CI (q c j).2 (by decide)⟩;simp only[aN,QE,jO k (show uptoBulk d0<=1048576 by omega),jO k2 (show uptoBulk d1<=1048576 by omega),Ax,AA,C1];exact⟨λc j=>(q c j).1,p⟩
theorem Oc(fuel:Nat)(xs:List I)(d:DataW H)(h:Typed prog fuel Ko xs d)(hb:uptoBulk d<=1048576):∃x,xs=br x/\True/\0<=uptoBulk d:=by
 obtain⟨f,parts,b,rfl,rfl,rfl,r⟩:=XM h aaW;obtain⟨s,parts,d0,b,rfl,rfl,h0,r⟩:=r.cons;obtain⟨w,parts,d1,b,rfl,rfl,h1,r⟩:=r.cons;obtain⟨y,parts,z,b,rfl,rfl,h2,r⟩:=r.cons;obtain⟨A,parts,B,b,rfl,rfl,h3,r⟩:=r.cons;obtain⟨rfl,rfl⟩:=r.nil;obtain⟨i,rfl,C,rfl⟩:=Xw h0 X0;obtain⟨j,rfl,D,rfl⟩:=Xw h1 X0;obtain⟨o,rfl,E,rfl⟩:=Xw h2 X0;obtain⟨p,rfl,rfl⟩:=T5 h3 Jr;simp only[QU,XB,X5]at hb ⊢;exact⟨⟨i,j,o,p⟩,rfl,trivial,by omega⟩
theorem aa9(fuel:Nat)(xs:List I)(d:DataW H)(h:Typed prog fuel QQ xs d)(_:uptoBulk d<=1048576):∃x,xs=aK x/\True/\0<=uptoBulk d:=by
 obtain⟨s,rfl,_,rfl⟩:=Xw h X0;exact⟨s,rfl,trivial,by omega⟩
theorem Ix{d:DataW H}(h:Typed prog fuel yV xs d)(hb:uptoBulk d<=1048576):∃l,xs=[aM l]/\l.length<=2000000:=by
 obtain⟨l,rfl,_,_,k⟩:=YN aK (λ_=>0) (λ_=>True) h Ze5 M4 (λb _=>aa9 b) hb;exact⟨l,rfl,by omega⟩
theorem Xe4{d:DataW H}(h:Typed prog fuel Ps xs d)(hb:uptoBulk d<=1048576):∃x,xs=vP x/\mX 2000000 x:=by
 obtain⟨f,parts,i,rfl,rfl,rfl,r⟩:=XM h aaV;obtain⟨C,parts,d0,i,rfl,rfl,h0,r⟩:=r.cons;obtain⟨D,parts,d1,i,rfl,rfl,h1,r⟩:=r.cons;obtain⟨E,parts,F,i,rfl,rfl,h2,r⟩:=r.cons;obtain⟨G,parts,K,i,rfl,rfl,h3,r⟩:=r.cons;obtain⟨L,parts,N,i,rfl,rfl,h4,r⟩:=r.cons;obtain⟨Q,parts,R,i,rfl,rfl,h5,r⟩:=r.cons;obtain⟨S,parts,j,i,rfl,rfl,h6,r⟩:=r.cons;obtain⟨T,parts,V,i,rfl,rfl,h7,r⟩:=r.cons;obtain⟨rfl,rfl⟩:=r.nil;obtain⟨o,rfl,X,rfl⟩:=Xw h0 X0;obtain⟨p,rfl,Y,rfl⟩:=Xw h1 X0;obtain⟨s,rfl,w2,rfl⟩:=Xw h2 X0;simp only[QU,XB,X5]at hb ⊢;obtain⟨a,rfl,w⟩:=Ix h3 (by omega);obtain⟨b,rfl,y⟩:=Ix h4 (by omega);obtain⟨c,rfl,z⟩:=Ix h5 (by omega);obtain⟨u,rfl,_,_,ku⟩:=YN br (λ_=>0) (λ_=>True) h6 Oi aaH (λA _=>Oc A) (show uptoBulk j<=1048576 by omega);obtain⟨t,rfl,B⟩:=Ix h7 (by omega);exact⟨⟨o,p,s,a,b,c,u,t⟩,rfl,w,y,z,by show u.length<=_;omega,B⟩
theorem Ob{d:DataW H}(h:Typed prog fuel wI xs d)(hb:uptoBulk d<=1048576):∃x,xs=aH x/\ba 2000000 x:=by
 obtain⟨f,parts,b,rfl,rfl,rfl,r⟩:=XM h Nr;obtain⟨E,parts,d0,b,rfl,rfl,h0,r⟩:=r.cons;obtain⟨F,parts,d1,b,rfl,rfl,h1,r⟩:=r.cons;obtain⟨G,parts,K,b,rfl,rfl,h2,r⟩:=r.cons;obtain⟨L,parts,N,b,rfl,rfl,h3,r⟩:=r.cons;obtain⟨Q,parts,R,b,rfl,rfl,h4,r⟩:=r.cons;obtain⟨S,parts,T,b,rfl,rfl,h5,r⟩:=r.cons;obtain⟨V,parts,X,b,rfl,rfl,h6,r⟩:=r.cons;obtain⟨Y,parts,d7,b,rfl,rfl,h7,r⟩:=r.cons;obtain⟨rfl,rfl⟩:=r.nil;obtain⟨i,rfl,w0,rfl⟩:=Xw h0 X0;obtain⟨j,rfl,w1,rfl⟩:=Xw h1 X0;obtain⟨o,rfl,w2,rfl⟩:=Xw h2 zA;obtain⟨s,rfl,rfl⟩:=T5 h3 Jr;obtain⟨w,rfl,w4,rfl⟩:=Xw h4 zA;obtain⟨z,rfl,w6,rfl⟩:=Xw h6 X0;simp only[QU,XB,X5]at hb ⊢;obtain⟨a,rfl,A⟩:=Ix h5 (by omega);obtain⟨f',p,q,da,db,rfl,rfl,rfl,B,hq⟩:=QeI h7 Oh;simp only[QU,XB]at hb;obtain⟨x,rfl,C⟩:=Xe4 B (by omega);obtain⟨y,rfl,D⟩:=Xe4 hq (by omega);exact⟨⟨i,j,o,s,w,a,z,x,y⟩,rfl,A,C,D⟩
end Go.Ah.Tz
end
section
namespace Go.Ah.Tz
open Go.Proofs.Tryz (prog)
set_option maxRecDepth 100000
noncomputable def N0:GT:=(.node 100 1 g100.u (.node 58 1 g58.u (.node 32 2 g32.u (.node 16 3 g16.u (.node 13 3 g13.u (.node 6 3 g6.u (.node 5 0 g5.u .leaf .leaf) (.node 12 3 g12.u .leaf .leaf)) (.node 15 0 g15.u (.node 14 0 g14.u .leaf .leaf) .leaf)) (.node 29 2 g29.u (.node 22 1 g22.u (.node 17 1 g17.u .leaf .leaf) (.node 28 2 g28.u .leaf .leaf)) (.node 31 1 g31.u (.node 30 1 g30.u .leaf .leaf) .leaf))) (.node 45 2 g45.u (.node 36 3 g36.u (.node 34 3 g34.u (.node 33 2 g33.u .leaf .leaf) (.node 35 2 g35.u .leaf .leaf)) (.node 42 4 g42.u (.node 37 1 g37.u .leaf .leaf) .leaf)) (.node 55 1 g55.u (.node 54 1 g54.u (.node 53 2 g53.u .leaf .leaf) .leaf) (.node 57 1 g57.u (.node 56 1 g56.u .leaf .leaf) .leaf)))) (.node 87 2 g87.u (.node 65 1 g65.u (.node 62 3 g62.u (.node 60 2 g60.u (.node 59 1 g59.u .leaf .leaf) (.node 61 2 g61.u .leaf .leaf)) (.node 64 3 g64.u (.node 63 4 g63.u .leaf .leaf) .leaf)) (.node 68 2 g68.u (.node 67 0 g67.u (.node 66 1 g66.u .leaf .leaf) .leaf) (.node 73 2 g73.u (.node 71 3 g71.u .leaf .leaf) .leaf))) (.node 94 6 g94.u (.node 91 1 g91.u (.node 89 1 g89.u (.node 88 2 g88.u .leaf .leaf) (.node 90 2 g90.u .leaf .leaf)) (.node 93 2 g93.u (.node 92 2 g92.u .leaf .leaf) .leaf)) (.node 97 1 g97.u (.node 96 3 g96.u (.node 95 2 g95.u .leaf .leaf) .leaf) (.node 99 4 g99.u (.node 98 1 g98.u .leaf .leaf) .leaf))))) (.node 161 2 g161.u (.node 137 2 g137.u (.node 122 2 g122.u (.node 104 1 g104.u (.node 102 1 g102.u (.node 101 1 g101.u .leaf .leaf) (.node 103 1 g103.u .leaf .leaf)) (.node 121 2 g121.u (.node 120 2 g120.u .leaf .leaf) .leaf)) (.node 134 2 g134.u (.node 132 1 g132.u (.node 123 3 g123.u .leaf .leaf) (.node 133 3 g133.u .leaf .leaf)) (.node 136 2 g136.u (.node 135 2 g135.u .leaf .leaf) .leaf))) (.node 144 3 g144.u (.node 141 1 g141.u (.node 139 3 g139.u (.node 138 2 g138.u .leaf .leaf) (.node 140 1 g140.u .leaf .leaf)) (.node 143 2 g143.u (.node 142 2 g142.u .leaf .leaf) .leaf)) (.node 147 2 g147.u (.node 146 2 g146.u (.node 145 2 g145.u .leaf .leaf) .leaf) (.node 149 2 g149.u (.node 148 1 g148.u .leaf .leaf) .leaf)))) (.node 184 2 g184.u (.node 178 2 g178.u (.node 175 1 g175.u (.node 173 2 g173.u (.node 172 2 g172.u .leaf .leaf) (.node 174 1 g174.u .leaf .leaf)) (.node 177 1 g177.u (.node 176 2 g176.u .leaf .leaf) .leaf)) (.node 181 1 g181.u (.node 180 1 g180.u (.node 179 2 g179.u .leaf .leaf) .leaf) (.node 183 1 g183.u (.node 182 2 g182.u .leaf .leaf) .leaf))) (.node 220 1 g220.u (.node 188 2 g188.u (.node 186 1 g186.u (.node 185 1 g185.u .leaf .leaf) (.node 187 0 g187.u .leaf .leaf)) (.node 219 0 g219.u (.node 218 2 g218.u .leaf .leaf) .leaf)) (.node 240 2 g240.u (.node 234 1 g234.u (.node 233 2 g233.u .leaf .leaf) .leaf) (.node 244 2 g244.u (.node 243 2 g243.u .leaf .leaf) .leaf))))))
theorem YeI:N0.Ok prog aQ:=⟨g100.ok,⟨g58.ok,⟨g32.ok,⟨g16.ok,⟨g13.ok,⟨g6.ok,⟨g5.ok,trivial,trivial⟩,⟨g12.ok,trivial,trivial⟩⟩,⟨g15.ok,⟨g14.ok,trivial,trivial⟩,trivial⟩⟩,⟨g29.ok,⟨g22.ok,⟨g17.ok,trivial,trivial⟩,⟨g28.ok,trivial,trivial⟩⟩,⟨g31.ok,⟨g30.ok,trivial,trivial⟩,trivial⟩⟩⟩,⟨g45.ok,⟨g36.ok,⟨g34.ok,⟨g33.ok,trivial,trivial⟩,⟨g35.ok,trivial,trivial⟩⟩,⟨g42.ok,⟨g37.ok,trivial,trivial⟩,trivial⟩⟩,⟨g55.ok,⟨g54.ok,⟨g53.ok,trivial,trivial⟩,trivial⟩,⟨g57.ok,⟨g56.ok,trivial,trivial⟩,trivial⟩⟩⟩⟩,⟨g87.ok,⟨g65.ok,⟨g62.ok,⟨g60.ok,⟨g59.ok,trivial,trivial⟩,⟨g61.ok,trivial,trivial⟩⟩,⟨g64.ok,⟨g63.ok,trivial,trivial⟩,trivial⟩⟩,⟨g68.ok,⟨g67.ok,⟨g66.ok,trivial,trivial⟩,trivial⟩,⟨g73.ok,⟨g71.ok,trivial,trivial⟩,trivial⟩⟩⟩,⟨g94.ok,⟨g91.ok,⟨g89.ok,⟨g88.ok,trivial,trivial⟩,⟨g90.ok,trivial,trivial⟩⟩,⟨g93.ok,⟨g92.ok,trivial,trivial⟩,trivial⟩⟩,⟨g97.ok,⟨g96.ok,⟨g95.ok,trivial,trivial⟩,trivial⟩,⟨g99.ok,⟨g98.ok,trivial,trivial⟩,trivial⟩⟩⟩⟩⟩,⟨g161.ok,⟨g137.ok,⟨g122.ok,⟨g104.ok,⟨g102.ok,⟨g101.ok,trivial,trivial⟩,⟨g103.ok,trivial,trivial⟩⟩,⟨g121.ok,⟨g120.ok,trivial,trivial⟩,trivial⟩⟩,⟨g134.ok,⟨g132.ok,⟨g123.ok,trivial,trivial⟩,⟨g133.ok,trivial,trivial⟩⟩,⟨g136.ok,⟨g135.ok,trivial,trivial⟩,trivial⟩⟩⟩,⟨g144.ok,⟨g141.ok,⟨g139.ok,⟨g138.ok,trivial,trivial⟩,⟨g140.ok,trivial,trivial⟩⟩,⟨g143.ok,⟨g142.ok,trivial,trivial⟩,trivial⟩⟩,⟨g147.ok,⟨g146.ok,⟨g145.ok,trivial,trivial⟩,trivial⟩,⟨g149.ok,⟨g148.ok,trivial,trivial⟩,trivial⟩⟩⟩⟩,⟨g184.ok,⟨g178.ok,⟨g175.ok,⟨g173.ok,⟨g172.ok,trivial,trivial⟩,⟨g174.ok,trivial,trivial⟩⟩,⟨g177.ok,⟨g176.ok,trivial,trivial⟩,trivial⟩⟩,⟨g181.ok,⟨g180.ok,⟨g179.ok,trivial,trivial⟩,trivial⟩,⟨g183.ok,⟨g182.ok,trivial,trivial⟩,trivial⟩⟩⟩,⟨g220.ok,⟨g188.ok,⟨g186.ok,⟨g185.ok,trivial,trivial⟩,⟨g187.ok,trivial,trivial⟩⟩,⟨g219.ok,⟨g218.ok,trivial,trivial⟩,trivial⟩⟩,⟨g240.ok,⟨g234.ok,⟨g233.ok,trivial,trivial⟩,trivial⟩,⟨g244.ok,⟨g243.ok,trivial,trivial⟩,trivial⟩⟩⟩⟩⟩⟩
set_option maxRecDepth 1000000
theorem Aj:∀f np g,N0.get f=some (np,g)->GQ f np g:=GT.qV YeI
abbrev F182:Nat:=14
abbrev F219:Nat:=15
abbrev F220:Nat:=31
def zV:I:=(.agg [(.aX true false 12 [[(.str [73,109,112]),(.bool true),(.int .i64 1),(.int .i64 2),(.int .i64 3),(.int .i64 1),(.int .i64 0),(.int .i64 0),.aq,.aq,.aq,(.int .i64 0)],[(.str [69,108,102]),(.bool true),(.int .i64 2),(.int .i64 1),(.int .i64 1),(.int .i64 0),(.int .i64 1),(.int .i64 0),.aq,.aq,.aq,(.int .i64 0)],[(.str [66,111,108,116]),(.bool false),(.int .i64 1),(.int .i64 0),(.int .i64 0),(.int .i64 0),(.int .i64 0),(.int .i64 0),(.aX true false 14 [[(.int .i8 0),(.int .i8 2),(.int .i8 0),(.int .i64 3),(.int .i8 0),.aq,(.str []),(.int .i8 0),(.int .i8 0),(.str []),.aq,.aq,.aq,.aq]]),.aq,.aq,(.int .i64 0)]]),(.aX true false 7 [[(.str [115,116,100]),(.int .i64 0),(.int .i64 60),(.int .i64 60),.aq,.aq,(.int .i64 0)]])])
def dkV:I:=(.agg [(.aX true false 1 [[(.int .i64 0)],[(.int .i64 1)],[(.int .i64 2)],[(.int .i64 0)],[(.int .i64 1)],[(.int .i64 2)]]),(.aX true false 1 [[(.int .i64 2)],[(.int .i64 1)],[(.int .i64 0)],[(.int .i64 0)]])])
theorem p182:PC F182 [] zV:=PM hP Aj (much:=1000000000) 60 (by kernel_rfl)
theorem p219:PC F219 [] dkV:=PM hP Aj (much:=1000000000) 60 (by kernel_rfl)
theorem p220:PC F220 [zV] (.agg [.int .i64 0,.int .i64 0]):=PM hP Aj (much:=1000000000) 60 (by kernel_rfl)
def aaz:oq:=[(F182,[],zV),(F219,[],dkV),(F220,[zV],.agg [.int .i64 0,.int .i64 0])]
theorem QeB:wD prog aQ aaz:=⟨⟨⟨g14.ok.plain,rfl,rfl⟩,p182⟩,⟨⟨g15.ok.plain,rfl,rfl⟩,p219⟩,⟨⟨g31.ok.plain,rfl,rfl⟩,p220⟩,trivial⟩
theorem p101:PC 5 [] (.bool true):=QdT hP Aj (much:=1000000000) QeB 60 (by kernel_rfl)
open Go.Shelf Go.Proofs
def Zc7:Go.Shelf.Ren:=⟨fun|189=>118|125=>160|257=>159|128=>204|129=>205|294=>195|295=>196|296=>197|297=>198|298=>199|299=>200|216=>201|300=>202|301=>203|328=>225|329=>226|330=>227|331=>228|332=>229|215=>230|343=>239|n=>n,fun|28=>27|3=>3|46=>247|0=>0|51=>298|53=>300|4=>4|183=>291|182=>290|131=>170|5=>5|9=>9|218=>316|222=>84|228=>331|229=>201|n=>n,fun|n=>n⟩
theorem yf:MX prog Zc7:={
 mixed:=by kernel_rfl,
 f125:=Tryz.func160.trans (congrArg some (by kernel_rfl)),
 f128:=Tryz.func204.trans (congrArg some (by kernel_rfl)),
 f129:=Tryz.func205.trans (congrArg some (by kernel_rfl)),
 f189:=Tryz.func118.trans (congrArg some (by kernel_rfl)),
 f215:=Tryz.func230.trans (congrArg some (by kernel_rfl)),
 f216:=Tryz.func201.trans (congrArg some (by kernel_rfl)),
 f257:=Tryz.func159.trans (congrArg some (by kernel_rfl)),
 f294:=Tryz.func195.trans (congrArg some (by kernel_rfl)),
 f295:=Tryz.func196.trans (congrArg some (by kernel_rfl)),
 f296:=Tryz.func197.trans (congrArg some (by kernel_rfl)),
 f297:=Tryz.func198.trans (congrArg some (by kernel_rfl)),
 f298:=Tryz.func199.trans (congrArg some (by kernel_rfl)),
 f299:=Tryz.func200.trans (congrArg some (by kernel_rfl)),
 f300:=Tryz.func202.trans (congrArg some (by kernel_rfl)),
 f301:=Tryz.func203.trans (congrArg some (by kernel_rfl)),
 f328:=Tryz.func225.trans (congrArg some (by kernel_rfl)),
 f329:=Tryz.func226.trans (congrArg some (by kernel_rfl)),
 f330:=Tryz.func227.trans (congrArg some (by kernel_rfl)),
 f331:=Tryz.func228.trans (congrArg some (by kernel_rfl)),
 f332:=Tryz.func229.trans (congrArg some (by kernel_rfl)),
 f343:=Tryz.func239.trans (congrArg some (by kernel_rfl)),
 t0:=Tryz.underlying0,
 a0:=Tryz.isAgg0,
 z0:=Tryz.sizeOf0,
 v0:=Tryz.zeroValue0,
 t3:=Tryz.underlying3,
 a3:=Tryz.isAgg3,
 z3:=Tryz.sizeOf3,
 v3:=Tryz.zeroValue3,
 t4:=Tryz.underlying4,
 a4:=Tryz.isAgg4,
 z4:=Tryz.sizeOf4,
 v4:=Tryz.zeroValue4,
 t5:=Tryz.underlying5,
 a5:=Tryz.isAgg5,
 z5:=Tryz.sizeOf5,
 v5:=Tryz.zeroValue5,
 t9:=Tryz.underlying9,
 a9:=Tryz.isAgg9,
 z9:=Tryz.sizeOf9,
 v9:=Tryz.zeroValue9,
 t28:=Tryz.underlying27,
 a28:=Tryz.isAgg27,
 z28:=Tryz.sizeOf27,
 v28:=Tryz.zeroValue27,
 t46:=Tryz.underlying247,
 a46:=Tryz.isAgg247,
 z46:=Tryz.sizeOf247,
 v46:=Tryz.zeroValue247,
 t51:=Tryz.underlying298,
 a51:=Tryz.isAgg298,
 z51:=Tryz.sizeOf298,
 v51:=Tryz.zeroValue298,
 t53:=Tryz.underlying300,
 a53:=Tryz.isAgg300,
 z53:=Tryz.sizeOf300,
 v53:=Tryz.zeroValue300,
 t131:=Tryz.underlying170,
 a131:=Tryz.isAgg170,
 z131:=Tryz.sizeOf170,
 v131:=Tryz.zeroValue170,
 t182:=Tryz.underlying290,
 a182:=Tryz.isAgg290,
 z182:=Tryz.sizeOf290,
 v182:=Tryz.zeroValue290,
 t183:=Tryz.underlying291,
 a183:=Tryz.isAgg291,
 z183:=Tryz.sizeOf291,
 v183:=Tryz.zeroValue291,
 t218:=Tryz.underlying316,
 a218:=Tryz.isAgg316,
 z218:=Tryz.sizeOf316,
 v218:=Tryz.zeroValue316,
 t222:=Tryz.underlying84,
 a222:=Tryz.isAgg84,
 z222:=Tryz.sizeOf84,
 v222:=Tryz.zeroValue84,
 t228:=Tryz.underlying331,
 a228:=Tryz.isAgg331,
 z228:=Tryz.sizeOf331,
 v228:=Tryz.zeroValue331,
 t229:=Tryz.underlying201,
 a229:=Tryz.isAgg201,
 z229:=Tryz.sizeOf201,
 v229:=Tryz.zeroValue201 }
theorem Ey:jN prog 118:=λaD off cap b w d hb f=>Any.slices_Sort_int yf aD off cap b w d hb f
theorem A9:j8 prog 118:=λp cap w=>Any.slices_Sort_int_none yf p cap w
end Go.Ah.Tz
end
section
namespace Go.Ah.Tz
open Go.Proofs.Tryz (prog)
open Go.Proofs.YtcoggjehhecohaaGreatDoor.Rows (uptoBulk uptoBulkAll)
set_option maxRecDepth 100000
section
variable {H:Type}
abbrev vo:TypeId:=36
abbrev Q_:TypeId:=34
abbrev JR:TypeId:=154
theorem Og:prog.underlying Q_=some (.slice JR):=by kernel_rfl
theorem aaG:prog.cellsOf JR=2:=by kernel_rfl
theorem aaU:Qt prog JR=some [QQ,QQ]:=by kernel_rfl
theorem Np:Qt prog vo=some [vW,QQ,QQ,QQ,yV,Q_]:=by kernel_rfl
theorem Oa(fuel:Nat)(xs:List I)(d:DataW H)(h:Typed prog fuel JR xs d)(hb:uptoBulk d<=1048576):∃x,xs=jr x/\True/\0<=uptoBulk d:=by
 obtain⟨f,parts,b,rfl,rfl,rfl,r⟩:=XM h aaU;obtain⟨o,parts,d0,b,rfl,rfl,h0,r⟩:=r.cons;obtain⟨p,parts,d1,b,rfl,rfl,h1,r⟩:=r.cons;obtain⟨rfl,rfl⟩:=r.nil;obtain⟨i,rfl,s,rfl⟩:=Xw h0 X0;obtain⟨j,rfl,w,rfl⟩:=Xw h1 X0;exact⟨(i,j),rfl,trivial,by omega⟩
theorem Ye4{fuel:Nat}{xs:List I}{d:DataW H}(h:Typed prog fuel Q_ xs d)(hb:uptoBulk d<=1048576):∃l,xs=[AX l]/\l.length<=2000000:=by
 obtain⟨l,rfl,_,_,k⟩:=YN jr (λ_=>0) (λ_=>True) h Og aaG (λb _=>Oa b) hb;exact⟨l,rfl,by omega⟩
theorem N5{fuel:Nat}{xs:List I}{d:DataW H}(h:Typed prog fuel vo xs d)(hb:uptoBulk d<=1048576):∃x,xs=iK x/\x.ids.length<=2000000/\x.cN.length<=2000000:=by
 obtain⟨f,parts,i,rfl,rfl,rfl,r⟩:=XM h Np;obtain⟨z,parts,d0,i,rfl,rfl,h0,r⟩:=r.cons;obtain⟨A,parts,d1,i,rfl,rfl,h1,r⟩:=r.cons;obtain⟨B,parts,C,i,rfl,rfl,h2,r⟩:=r.cons;obtain⟨D,parts,E,i,rfl,rfl,h3,r⟩:=r.cons;obtain⟨F,parts,G,i,rfl,rfl,h4,r⟩:=r.cons;obtain⟨K,parts,L,i,rfl,rfl,h5,r⟩:=r.cons;obtain⟨rfl,rfl⟩:=r.nil;obtain⟨j,rfl,N,rfl⟩:=Xw h0 zA;obtain⟨o,rfl,P,rfl⟩:=Xw h1 X0;obtain⟨p,rfl,Q,rfl⟩:=Xw h2 X0;obtain⟨s,rfl,R,rfl⟩:=Xw h3 X0;simp only[QU,XB]at hb;obtain⟨a,rfl,w⟩:=Ix h4 (by omega);obtain⟨b,rfl,y⟩:=Ye4 h5 (by omega);exact⟨⟨j,o,p,s,a,b⟩,rfl,w,y⟩
end
end Go.Ah.Tz
namespace Go.Proofs.YtcoggjehhecohaaGreatDoor
open Go.ChangeShapes Go.WideShapes Go.ChangeAt Go.RowKit Go.Ah Go.Ah.Tz
theorem Qb2{H:Type}{enc:TypeId×Value->H}{P:Program}{f:Func}{s:ChangeSpec}{apart fresh handsOn again:Bool}{W W':World}{args:Array Value}{v:Value}{ds i:List (DataW H)}{before pa pv:List MemPlace}
 (o:Mc enc P f.params.toList s.vars apart W args.toList ds i before)
 (x:∀(b:Nat) (sp:Nat->Bool) (hd:Bool),G7 enc P W' b sp hd f.resultTypes.toList (v.resultList f.resultTypes.size) (s.fn H (ds++i)).results [])
 (y:∀sp:Nat->Bool,(∀p∈before,sp p.block=true)->G7 enc P W' 0 sp true f.params.toList args.toList (s.fn H (ds++i)).args pa)
 (z:∀sp:Nat->Bool,(∀p∈before,sp p.block=true)->DataW.TrodVars enc P W' sp s.vars (s.fn H (ds++i)).vars pv)
 (w:before=pa++pv)(hb:Below W.heap.size W W')
 (bT:∀(j:Nat) (t:TypeId) (r:Value),f.resultTypes[j]?=some t->(v.resultList f.resultTypes.size)[j]?=some r->Fj P W' .any 0 t r) :
  s.post enc P f apart fresh handsOn again W args v W':=by
 have hold:∀p∈before,(λb=>decide (b<W.heap.size)) p.block=true:=λp d=>by simpa using o.lt p d
 refine⟨ds,i,before,[],pa,pv,o,x _ _ _,y _ hold,z _ hold,World.keptBut_mono (λp d=>⟨d,?_⟩) (hb.frame (·∈before)),λ_=>?_⟩
 ·rw[w,Bd]at d;exact Or.inr d
 ·have B:=o.lt;obtain⟨_,_,_,_,_,C,D⟩:=o;refine⟨bT,_,_,([]++pa)++pv,⟨[]++pa,pv,trodAll_append (y _ (λ_ _=>rfl)) (x _ _ _),z _ (λ_ _=>rfl),rfl,?_,?_⟩,?_⟩
  ·intro b off d;have A:MemPlace.cell b off∈before:=by rw[w];simpa using d
   rw[hb.frozen (p:=⟨b,off,none⟩) (show b<W.heap.size from B _ A)];exact C b off A
  ·intro E;have:=D E;rw[w]at this;simpa using this
  ·intro p d _;rw[w];simpa using d
set_option maxRecDepth 100000
abbrev NY:TypeId:=5
abbrev Qe2:TypeId:=325
theorem K3:ownKnob Tryz.prog.godebug=none:=by kernel_rfl
theorem YeQ:Tryz.prog.globalNamed "strings.asciiSpace" = some 0:=by kernel_rfl
theorem Xdn:(Tryz.prog.globals[0]?).map (·.type)=some Qe2:=by kernel_rfl
theorem Zdn:laidOutB Tryz.prog=true:=by kernel_rfl
def iT:List Int:=(Ao 256).map λi=>match (BY 9 i&&BY i 13)||AJ i 32 with|true=>1|false=>0
theorem Zes{l:List (String×DataW Unit)}{o x1 x2 x3:String×DataW Unit}(hl:l=[o,x1,x2,x3,("strings.asciiSpace",Mp .u8 iT)]){W:World}(h:laidMet Tryz.prog l W):∀p∈aQ,Den (λb=>W.heap[b]?) bE (.al p.2 0) (.pointer (some ⟨p.1,0,none⟩)):=by
 subst hl;have r:Lib.TabIs Tryz.prog W "strings.asciiSpace" .u8 iT:=Lib.tabIs_of_head (rest:=[]) YeQ Xdn (show Tryz.prog.underlying Qe2=some (.array 256 NY) by kernel_rfl) (show Tryz.prog.underlying NY=some (.int .u8) by kernel_rfl) (by kernel_rfl) (by kernel_rfl) h.tail.tail.tail.tail;have hlen:iT.length=256:=by simp[iT]
 have d:A0=iT.map (I.int .u8):=by rw[A0,iT,E5];rfl
 intro p f;simp only[aQ,D1]at f;subst f;refine .al _ A0 0 0 0 (λk=>.int .u8 (iT.getD k 0)) (λk i=>?_) (λk y j=>?_)
 ·have s:k<iT.length:=by rw[d,Be]at i;exact i
  have:=(Vj (r.cell YeQ k s)).2;rw[Al];exact this
 ·rw[d,Ba]at j;obtain⟨z,w,rfl⟩:=Eg.1 j;have:iT.getD k 0=z:=by simp[List.getD,w]
  rw[this];exact .int _ _ _
def OG:List TypeId:=[vW,QQ,Jq,zS,Iy,RD,HV,UJ,Kn,BC,Jt,Vn,J8,Ud,Pu,wN,Ko,Vo,yV,Ps,Tt,wI]
theorem Qb9:OG.all (Bg Tryz.prog OG)=true:=by kernel_rfl
theorem Tu{M:Nat->Option Obj}{xs:List I}{cs:Array Value}(h:DL M xs cs.toList):Den M bE (.agg xs) (.agg cs):=
 .agg _ _ _ (by have:=h.1;simpa using this.symm) (λi x v h1 h2=>h.2 i x v h1 (by simpa using h2))
theorem Ur{P:Program}{t:TypeId}{d:List TypeId}(h:Qt P t=some d):∃b,P.underlying t=some (.struct b):=by
 unfold Qt at h;split at h
 ·rename_i b e;exact⟨b,e⟩
 ·cases h
section
variable {H:Type} {enc:TypeId×Value->H} {W:World} {base:Nat} {v:Value} {d:DataW H} {ps:List MemPlace}
theorem ZeQ(ho:Fj Tryz.prog W .any base wN v)(h:GJ enc Tryz.prog W 0 (λ_=>true) true wN v d ps)(hb:Rows.uptoBulk d<=1048576):∃b:Bk,aN b=true/\Yg b.aj/\Den (λk=>W.heap[k]?) bE (dd b) v:=by
 obtain⟨i,f⟩:=Ur Nq;obtain⟨j,rfl,_⟩:=okWide_struct f ho;obtain⟨fuel,hf⟩:=h;obtain⟨_,xs,h1,h2⟩:=Rk (S:=OG) Qb9 fuel wN (by decide) _ _ ⟨_,hf⟩;obtain⟨b,rfl,k1,k2⟩:=N6 h2 hb;exact⟨b,k1,k2,Tu h1⟩
theorem Yes(ho:Fj Tryz.prog W .any base wI v)(h:GJ enc Tryz.prog W 0 (λ_=>true) true wI v d ps)(hb:Rows.uptoBulk d<=1048576):∃s:St,ba 2000000 s/\Den (λk=>W.heap[k]?) bE (bN s) v:=by
 obtain⟨f,b⟩:=Ur Nr;obtain⟨i,rfl,_⟩:=okWide_struct b ho;obtain⟨fuel,hf⟩:=h;obtain⟨_,xs,h1,h2⟩:=Rk (S:=OG) Qb9 fuel wI (by decide) _ _ ⟨_,hf⟩;obtain⟨s,rfl,k⟩:=Ob h2 hb;exact⟨s,k,Tu h1⟩
end
theorem Pc{H:Type}{enc:TypeId×Value->H}{t:TypeId}(hr:Tryz.prog.readableRec t=true)(f:t<Tryz.prog.types.size){W W':World}{v:Value}{d:DataW H}{ps all:List MemPlace}(h:GJ enc Tryz.prog W 0 (λ_=>true) true t v d ps)(hb:Below W.heap.size W W')(bZ:∀p∈all,p.block<W.heap.size)(ct:∀p∈ps,p∈all){sp:Nat->Bool}(hs:∀p∈all,sp p.block=true):GJ enc Tryz.prog W' 0 sp true t v d ps:=
 M1 Zdn hr f h (λp b=>hb.same (bZ p (ct p b))) (λp b=>hs p (ct p b))
theorem UG(t:TypeId)(h:(Tryz.prog.readableRec t&&decide (t<Tryz.prog.types.size))=true):Tryz.prog.readableRec t=true/\t<Tryz.prog.types.size:=by simpa using h
theorem Nc:Tryz.prog.readableRec wN=true/\wN<Tryz.prog.types.size:=UG wN (by kernel_rfl)
theorem Nd:Tryz.prog.readableRec wI=true/\wI<Tryz.prog.types.size:=UG wI (by kernel_rfl)
def U5:List TypeId:=[vW,QQ,vo,Q_,JR,yV]
theorem Xc3:U5.all (Bg Tryz.prog U5)=true:=by kernel_rfl
theorem P':Tryz.prog.readableRec vo=true/\vo<Tryz.prog.types.size:=UG vo (by kernel_rfl)
section
variable {H:Type} {enc:TypeId×Value->H} {W:World} {base:Nat} {v:Value} {d:DataW H} {ps:List MemPlace}
theorem QeP(ho:Fj Tryz.prog W .any base vo v)(h:GJ enc Tryz.prog W 0 (λ_=>true) true vo v d ps)(hb:Rows.uptoBulk d<=1048576):∃a:Ac,a.ids.length<=1000000000/\a.cN.length<=1000000000/\Den (λk=>W.heap[k]?) bE (.agg (iK a)) v:=by
 obtain⟨f,b⟩:=Ur Np;obtain⟨i,rfl,_⟩:=okWide_struct b ho;obtain⟨fuel,hf⟩:=h;obtain⟨_,xs,h1,h2⟩:=Rk (S:=U5) Xc3 fuel vo (by decide) _ _ ⟨_,hf⟩;obtain⟨a,rfl,k1,k2⟩:=N5 h2 hb;exact⟨a,by omega,by omega,Tu h1⟩
end
theorem Ym{a b:Bool}(h:a=true)(k:b=true):(a&&b)=true:=by rw[h,k];rfl
def K4:List Int:=[1,10,100,1000,10000,100000,1000000,10000000,100000000,1000000000,10000000000,100000000000,1000000000000,10000000000000,100000000000000,1000000000000000,10000000000000000,100000000000000000,1000000000000000000,10000000000000000000]
def K1:List Int:=[0,1,28,2,29,14,24,3,30,22,20,15,25,17,4,8,31,27,13,23,21,19,16,7,26,12,18,6,11,5,10,9]
def K2:List Int:=[0,1,56,2,57,49,28,3,61,58,42,50,38,29,17,4,62,47,59,36,45,43,51,22,53,39,33,30,24,18,12,5,63,55,48,27,60,41,37,16,46,35,44,21,52,32,23,11,54,26,40,15,34,20,31,10,25,14,19,9,13,8,7,6]
def QdV:List Int:=[9,13,1,32,133,101,160,5760,5600,8192,8202,1,8232,8233,1,8239,8287,48,12288,12288,1]
noncomputable def Vg (os:Os):World:=
 let b:=World.holding Tryz.prog os ⟨#[],#[],[]⟩
 let put (h:Array Obj) (g:Nat) (d:Array Value):Array Obj:=h.modify g fun
  |.cells _ t frozen=>.cells d t frozen
  |o=>o
 let h1:=put b.heap 0 (iT.map λz=>Eo .u8 z).toArray
 let h2:=put h1 1 (K4.map λz=>Eo .u64 z).toArray
 let h3:=put h2 2 #[.pointer (some ⟨b.heap.size,0,none⟩)]
 let h4:=put h3 3 (K1.map λz=>Eo .u8 z).toArray
 let h5:=put h4 4 (K2.map λz=>Eo .u8 z).toArray
 { b with heap:=(h5.push (.cells #[.slice (some ⟨b.heap.size+1,0,none⟩) 7 7,.slice none 0 0,.int .i64 2] 341 (0,0))).push (.cells (QdV.map λz=>Eo .u16 z).toArray 344 (0,0)) }
theorem Zdv:Rows.gameMayUptoRow.laid=[("math/bits.deBruijn32tab",Rows.laid_math_bits_deBruijn32tab),("math/bits.deBruijn64tab",Rows.laid_math_bits_deBruijn64tab),("internal/strconv.uint64pow10",Rows.laid_internal_strconv_uint64pow10),("unicode.White_Space",Rows.laid_unicode_White_Space),("strings.asciiSpace",Mp .u8 iT)]:=by kernel_rfl
theorem QbZ(H:Type)(enc:TypeId×Value->H)(W:World)(base:Nat)(args:Array Value)(ds x:List (DataW H))(before:List MemPlace)
 (d:∀(j:Nat) t v,Tryz.f3.params[j]?=some t->args[j]?=some v->Fj Tryz.prog W .any base t v)
 (o:Mc enc Tryz.prog Tryz.f3.params.toList Rows.gameMaySpec.vars false W args.toList ds x before)(hk:Rows.uptoSmall H (ds++x)=true)(A:laidMetH Tryz.prog Rows.gameMayUptoRow.laid W) :
  Calls Tryz.prog 3 args W λe y=>∃v,e=.returned v/\Rows.gameMaySpec.post enc Tryz.prog Tryz.f3 false true false false W args v y:=by
 have hW':=o;have f:=o.lt;obtain⟨p,q,B,C,rfl,hfz,IX⟩:=o;have z:G7 enc Tryz.prog W 0 (λ_=>true) true Tryz.f3.params.toList args.toList ds p:=B;rw[Tryz.params3]at z d;obtain⟨v0,w,d0,ds,D,p,xD,rfl,rfl,h0,r⟩:=trodAll_cons z;obtain⟨v1,w,d1,ds,E,p,rfl,rfl,rfl,h1,r⟩:=trodAll_cons r;obtain⟨v2,w,d2,ds,F,p,rfl,rfl,rfl,h2,r⟩:=trodAll_cons r;obtain⟨v3,w,d3,ds,G,p,rfl,rfl,rfl,h3,r⟩:=trodAll_cons r;obtain⟨rfl,rfl,rfl⟩:=trodAll_nil r;obtain rfl:args = #[v0,v1,v2,v3]:=by cases args;simp_all
 obtain⟨rfl,rfl⟩:=trodVars_none C;have K:Rows.uptoBulkAll [d0,d1,d2,d3]<=1048576:=of_decide_eq_true hk;simp only[Rows.uptoBulkAll]at K;obtain⟨b,hf,L,N⟩:=ZeQ (d 0 _ v0 rfl rfl) h0 (by omega);obtain⟨s,hs,P⟩:=Yes (d 1 _ v1 rfl rfl) h1 (by omega);obtain⟨Q,R,S,T⟩:=QeP (d 2 _ v2 rfl rfl) h2 (by omega);obtain⟨V,X,Y,e3⟩:=QeP (d 3 _ v3 rfl rfl) h3 (by omega);have hg:=Zes Zdv (show laidMet Tryz.prog Rows.gameMayUptoRow.laid W from A);refine(o25 p101 Ey A9 b hf L s hs Q V R S X Y W (λk=>W.heap[k]?) [v0,v1,v2,v3] (λ_ _ h=>h) hg ⟨N,P,T,e3,trivial⟩).mono ?_;rintro e y ⟨u,rfl,uV,M',_,_,_,hd⟩;cases hd;have hb:=uV.below;refine⟨_,rfl,Qb2 (pa:=D++(E++(F++(G++[])))) (pv:=[]) hW' (λ_ _ _=>trodAll_cons_mk (shut_bool Jr _) trodAll_mk0) (λsp i=>?_) (λ_ _=>rfl) rfl hb (ok_one (by kernel_rfl) rfl (okWide_bool_mk Jr _))⟩;rw[Tryz.params3];refine trodAll_cons_mk (Pc Nc.1 Nc.2 h0 hb f (λp hp=>by simp[hp]) i) <| trodAll_cons_mk (Pc Nd.1 Nd.2 h1 hb f (λp hp=>by simp[hp]) i) <| trodAll_cons_mk (Pc P'.1 P'.2 h2 hb f (λp hp=>by simp[hp]) i) <| trodAll_cons_mk (Pc P'.1 P'.2 h3 hb f (λp hp=>by simp[hp]) i) trodAll_mk0
def Rh:Array Value:=#[.agg #[.slice none 0 0,.slice none 0 0],.agg #[.int .i64 0,.int .i64 0,.int .i8 0,.bool false,.int .i8 0,.slice none 0 0,.int .i64 0,.int .i64 0,.int .i64 0,.int .i64 0,.slice none 0 0,.slice none 0 0,.slice none 0 0,.slice none 0 0,.slice none 0 0,.int .i64 0,.int .i64 0,.int .i64 0,.slice none 0 0,.slice none 0 0,.slice none 0 0,.slice none 0 0,.slice none 0 0],.agg #[.int .i8 0,.int .i64 0,.int .i64 0,.int .i64 0,.slice none 0 0,.slice none 0 0],.agg #[.int .i8 0,.int .i64 0,.int .i64 0,.int .i64 0,.slice none 0 0,.slice none 0 0]]
theorem Zd6(os:Os):laidMet Tryz.prog Rows.gameMayUptoRow.laid ((Vg os).forCall (λ_ _=>0) ⟨#[],Rh,[]⟩).memory:=
 laidMet_of_run' 8 (by kernel_rfl) (by kernel_rfl)
theorem Yc6(os:Os){H:Type}(enc:TypeId×Value->H):∃places,DataW.whole enc Tryz.prog ((Vg os).forCall (λ_ _=>0) ⟨#[],Rh,[]⟩).memory Tryz.f3.params.toList Rows.gameMaySpec.vars false Rh.toList 8 =
  some ([.agg [.nil,.nil],.agg [.lit (.int .i64 0),.lit (.int .i64 0),.lit (.int .i8 0),.lit (.bool false),.lit (.int .i8 0),.nil,.lit (.int .i64 0),.agg [.agg [.lit (.int .i64 0),.lit (.int .i64 0),.lit (.int .i64 0),.nil,.nil,.nil,.nil,.nil],.agg [.lit (.int .i64 0),.lit (.int .i64 0),.lit (.int .i64 0),.nil,.nil,.nil,.nil,.nil]]],.agg [.lit (.int .i8 0),.lit (.int .i64 0),.lit (.int .i64 0),.lit (.int .i64 0),.nil,.nil],.agg [.lit (.int .i8 0),.lit (.int .i64 0),.lit (.int .i64 0),.lit (.int .i64 0),.nil,.nil]],[],places):=⟨[],by kernel_rfl⟩
theorem Zcz(os:Os)(started:os.Started)(H:Type)(enc:TypeId×Value->H)(F:Stop.Interp) :
  ReturnsInHanded {} Tryz.checked os 3 .any ((Rows.OpenSpec.upto Rows.gameMaySpec).preRow enc Tryz.prog Tryz.f3 Rows.gameMayUptoRow.domain false Rows.gameMayUptoRow.laid) (((Rows.OpenSpec.upto Rows.gameMaySpec).at F).post enc Tryz.prog Tryz.f3 false true false false):=by
 obtain⟨places,b⟩:=Yc6 os enc;refine returnsInHanded_of_row (C:=Tryz.checked) (s:=Rows.OpenSpec.upto Rows.gameMaySpec) K3 started (by kernel_rfl) Tryz.func3
  (witness_row_atRef (enc:=enc) (C:=Tryz.checked) false (Vg os) Rh rfl (by kernel_rfl) (by kernel_rfl) (by kernel_rfl)
   (OpenSpec.preRow_of_cond 8 b (by kernel_rfl) (λk d=>by cases d;kernel_rfl) (by kernel_rfl) (Zd6 os))) ?_
 intro W base args f i before j o _ p _ r _ _;exact QbZ H enc W base args f i before j o (p _ rfl) r
theorem Yex:Tryz.prog.funcNamed Rows.gameMayUptoRow.func=some 3:=by kernel_rfl
theorem Xex:(Rows.gameMayUptoRow.wf (OpenSpec.ofChange (Rows.OpenSpec.upto Rows.gameMaySpec).bare))=true:=by kernel_rfl
theorem Qex:(laidOutB Tryz.prog)=true:=by kernel_rfl
theorem Zey:(mapsRowed Tryz.prog)=true:=by kernel_rfl
theorem Yey:(Tryz.f3.params.all (Tryz.prog.readableRec ·))=true:=by kernel_rfl
theorem Xey:(namedTie Tryz.prog Rows.gameMayUptoRow.named (Rows.OpenSpec.upto Rows.gameMaySpec).bare.vars)=true:=by kernel_rfl
theorem Qey:(Rows.gameMayUptoRow.stops==[])=true:=by kernel_rfl
theorem Zez:(Tryz.prog.stops==[])=true:=by kernel_rfl
theorem Yez:(Rows.gameMayUptoRow.knobs==[])=true:=by kernel_rfl
theorem Xez:(Tryz.prog.stopKnobs==[])=true:=by kernel_rfl
theorem Yd0:(Rows.gameMayUptoRow.inPlace==Tryz.prog.inPlace 3)=true:=by kernel_rfl
theorem Xd0:(Rows.gameMayUptoRow.unfollowed==Tryz.prog.unfollowed 3)=true:=by kernel_rfl
theorem Qd0:(Rows.gameMayUptoRow.recurses==Tryz.prog.recurses 3)=true:=by kernel_rfl
theorem Zd1:(Rows.gameMayUptoRow.named==Tryz.prog.varsNamed 3)=true:=by kernel_rfl
theorem Yd1:(Rows.gameMayUptoRow.maps==(Tryz.f3.params.toList++(Rows.OpenSpec.upto Rows.gameMaySpec).bare.plain.varTypes Tryz.prog).any (Tryz.prog.mapsRec ·))=true:=by kernel_rfl
theorem Xd1:(Rows.gameMayUptoRow.ifaces==(Tryz.f3.params.toList++(Rows.OpenSpec.upto Rows.gameMaySpec).bare.plain.varTypes Tryz.prog).any (Tryz.prog.ifacesRec ·))=true:=by kernel_rfl
theorem Qd1:(Rows.gameMayUptoRow.mapsOut==Tryz.prog.mapsAmong Tryz.f3.resultTypes.toList)=true:=by kernel_rfl
theorem Zd2:(Rows.gameMayUptoRow.loops==(Tryz.f3.params.toList++(Rows.OpenSpec.upto Rows.gameMaySpec).bare.plain.varTypes Tryz.prog).any (Tryz.prog.loopsFrom ·))=true:=by kernel_rfl
theorem Yd2:(Rows.gameMayUptoRow.wideKeys==(Tryz.f3.params.toList++(Rows.OpenSpec.upto Rows.gameMaySpec).bare.plain.varTypes Tryz.prog++Tryz.f3.resultTypes.toList).any (Tryz.prog.wideKeysFrom ·))=true:=by kernel_rfl
theorem Xd2:((Rows.OpenSpec.upto Rows.gameMaySpec).bare.vars.all (Tryz.prog.varReadable ·))=true:=by kernel_rfl
theorem Qd2:(Tryz.f3.resultTypes.all (λt=>Tryz.prog.readableRec t&&decide (t<Tryz.prog.types.size)))=true:=by kernel_rfl
theorem Zd3:(Rows.gameMayUptoRow.ifacesOut==Tryz.f3.resultTypes.toList.any (Tryz.prog.ifacesRec ·))=true:=by kernel_rfl
theorem Yd3:(Rows.gameMayUptoRow.loopsOut==Tryz.f3.resultTypes.toList.any (Tryz.prog.loopsFrom ·))=true:=by kernel_rfl
theorem Xd3:(Rows.gameMayUptoRow.plainKeys==Tryz.prog.plainKeys)=true:=by kernel_rfl
theorem Qd3:(Rows.gameMayUptoRow.shortTexts.isNone)=true:=by kernel_rfl
theorem Zd4:(Tryz.prog.stopsHeard)=true:=by kernel_rfl
theorem Yd4:(Tryz.prog.mayEnter)=true:=by kernel_rfl
theorem Xd4:(Rows.gameMayUptoRow.lifted==Tryz.prog.liftsFinal)=true:=by kernel_rfl
theorem Qd4:(Tryz.prog.make==some Rows.gameMayUptoRow.make)=true:=by kernel_rfl
theorem Zd5:(Rows.gameMayUptoRow.kinds==(if Rows.gameMayUptoRow.domain.isEmpty then []else Tryz.f3.params.toList.map λt=>match Tryz.prog.underlying t with|some (.int k)=>some k|_=>none))=true:=by kernel_rfl
theorem Yd5:(Rows.gameMayUptoRow.pinned==Rows.gameMayUptoRow.pinnedBy)=true:=by kernel_rfl
theorem Xd5:(Rows.gameMayUptoRow.veiled==(Tryz.f3.params.toList++(Rows.OpenSpec.upto Rows.gameMaySpec).bare.plain.varTypes Tryz.prog++Tryz.f3.resultTypes.toList).any (Tryz.prog.veiledRec ·))=true:=by kernel_rfl
theorem Qd5:(Rows.gameMayUptoRow.veiledFits Tryz.prog Tryz.f3.params.toList (Tryz.f3.params.toList++(Rows.OpenSpec.upto Rows.gameMaySpec).bare.plain.varTypes Tryz.prog++Tryz.f3.resultTypes.toList))=true:=by kernel_rfl
theorem Qcy:joinedFacts Tryz.prog 3 Tryz.f3 (Rows.OpenSpec.upto Rows.gameMaySpec).bare Rows.gameMayUptoRow=true:=(Ym (Ym (Ym (Ym (Ym (Ym (Ym (Ym (Ym (Ym (Ym (Ym (Ym (Ym (Ym (Ym (Ym (Ym (Ym (Ym (Ym (Ym (Ym (Ym (Ym (Ym (Ym (Ym (Ym (Ym (Ym Xex Qex) Zey) Yey) Xey) Qey) Zez) Yez) Xez) Yd0) Xd0) Qd0) Zd1) Yd1) Xd1) Qd1) Zd2) Yd2) Xd2) Qd2) Zd3) Yd3) Xd3) Qd3) Zd4) Yd4) Xd4) Qd4) Zd5) Yd5) Xd5) Qd5)
theorem Ydv:Rows.GameMayUptoSaid:=
 NA 3 Tryz.f3 rfl rfl rfl rfl rfl rfl rfl ⟨rfl,rfl,rfl,rfl,rfl⟩ rfl rfl rfl rfl rfl Yex Tryz.func3 Qcy
  (of_decide_eq_true (by kernel_rfl)) (by unfold Func.isWrapper;first|(rw[aE (by decide +kernel)];kernel_rfl)|(rw[aB (by decide +kernel)];exact⟨rfl,rfl⟩))
  (λos started H enc _ F=>by rw[M7];exact Zcz os started H enc F)
theorem Zc6(f:FuncId)(fn:Func)(hf:Tryz.pinned.checked.prog.funcNamed "baize/baizelaw24.GameMay" = some f)(d:Tryz.pinned.checked.prog.funcs[f]?=some fn) :
  true=Tryz.pinned.checked.prog.looks []/\∀(j:Nat) t,fn.params[j]?=some t->Tryz.pinned.checked.prog.wantsStandIn t=false:=by
 obtain rfl:f=3:=GC ((show Tryz.prog.funcNamed "baize/baizelaw24.GameMay" = some 3 by kernel_rfl).symm.trans hf) |>.symm;obtain rfl:fn=Tryz.f3:=(GC (Tryz.func3.symm.trans d)).symm;refine⟨by kernel_rfl,λj t b=>?_⟩;rw[Tryz.params3]at b;have i:t∈[wN,wI,vo,vo]:=by simpa using Array.mem_of_getElem? b
 have o:([wN,wI,vo,vo].all λu=>!Tryz.prog.wantsStandIn u)=true:=by kernel_rfl
 exact(show Tryz.prog.wantsStandIn t=false by simpa using C1.1 o t i)
theorem gameMay_upto_card:Rows.GameMayUptoCardSaid:=
 Claim7.holds_tied_plain_at .later [] _ _ _ _ Ydv (λ_ h=>by cases h) (by kernel_rfl) (λ_ h=>by cases h) gameMayUpto_row_tie rfl ⟨rfl,rfl⟩ (by kernel_rfl) rfl Zc6 (by kernel_rfl)
#print axioms gameMay_upto_card
end Go.Proofs.YtcoggjehhecohaaGreatDoor
end
