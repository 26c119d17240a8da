/- Part of the proof that WakeRests holds of the program for arguments that together hold at most 1048576 values and letters; no other condition. -/
import Derived.Test.YtiplhedaicikiaaGreatDoorZ4
set_option linter.all false
open Bool renaming and_eq_true->AI,and_true->zAz,eq_iff_iff->zAk,false_eq_true->zAS,not_eq_false'->zBh,not_eq_true'->zAf,or_eq_false_iff->zAv
open Go.IntKind renaming i64->BY
open Go.IntWalk renaming i64_in->zAZ
open Int renaming le_refl->zBK
open List renaming all_eq_true->zAj,append_assoc->zAa,append_nil->zBN,cons_append->zAL,drop_length->zAD,drop_zero->zDW,eraseIdx_sublist->zCj,getElem?_eq_getElem->zAU,getElem?_map->zAX,getElem?_set_self->zAb,getElem_mem->AT,getElem_of_mem->zBp,length_append->By,length_cons->IS,length_eq_zero_iff->zAW,length_nil->zAG,length_set->zCf,map_append->zAe,map_cons->zAN,map_nil->zBC,mem_append->zAI,mem_append_left->zAl,mem_append_right->zAg,mem_cons->zAR,mem_map->zAt,mem_of_getElem?->zAK,mem_singleton->zAw,nil_append->zAM,nodup_cons->zBs,range->zAC,replicate->zAd,set_set->zDA,take_append_drop->zCh,take_append_of_le_length->zCA,take_left->zDL,take_length->zAr,take_of_length_le->zAs
open List.Sublist renaming refl->zBJ
open List.range renaming loop->zAc
open Nat renaming add_assoc->zBQ,add_zero->zBj,beq->IN,ble->zAP,ble_eq_true_of_le->sh,le_refl->IT,le_trans->zAY,lt_of_lt_of_le->zAJ,strongRecOn->zBv,zero_add->No,zero_le->zBB
open Prod.mk renaming injEq->zBm
open UInt8 renaming ofNat->zDd
section
namespace Go.Ah.Tz
open Go.Proofs.Tryz (prog)
set_option maxRecDepth 100000
def pB(b:Bk)(s:St)(sd op who:Int)(name:Tx)(ns:List Int)(qs:List Bool):Bool:=
 if op=0 then decide (ns.getD 0 0<ns.getD 1 0)else if op=1 then decide (ns.getD 0 0<=ns.getD 1 0)else if op=2 then decide (ns.getD 0 0=ns.getD 1 0)
 else if op=3 then !qs.getD 0 false else if op=4 then qs.getD 0 false&&qs.getD 1 false else if op=5 then qs.getD 0 false||qs.getD 1 false
 else (iN s (bG sd who)).hand.any λc=>(Yr b c).name==name
mutual
def dQ (b:Bk) (s:St) (sd tg:Int):Cn→Bool
 |.mk op who name aC kids=>pB b s sd op who name (kh b s sd tg aC) (j0 b s sd tg kids)
def j0 (b:Bk) (s:St) (sd tg:Int):List Cn→List Bool
 |[]=>[]
 |x::l=>dQ b s sd tg x::j0 b s sd tg l
end
theorem XdI(b:Bk)(s:St)(sd tg:Int)(x:Cn):dQ b s sd tg x=pB b s sd x.op x.who x.name (kh b s sd tg x.aC) (j0 b s sd tg x.kids):=by cases x;rfl
theorem Xb9(b:Bk)(s:St)(sd tg:Int):∀(l:List Nm) (i:Nat) (h:i<l.length),(kh b s sd tg l).getD i 0=dO b s sd tg l[i]
 |x::l,0,_=>rfl
 |x::l,i+1,h=>by
  have:=Xb9 b s sd tg l i (by simpa using h);simpa[kh]using this
theorem WA(b:Bk)(s:St)(sd tg:Int):∀(l:List Cn) (i:Nat) (h:i<l.length),(j0 b s sd tg l).getD i false=dQ b s sd tg l[i]
 |x::l,0,_=>rfl
 |x::l,i+1,h=>by
  have:=WA b s sd tg l i (by simpa using h);simpa[j0]using this
def I1(ns:List Int)(i:Nat):List aa:=[iv (if 0<i then ns.getD 0 0 else 0),iv (if 1<i then ns.getD 1 0 else 0)]
def I0(qs:List Bool)(i:Nat):List aa:=[.bool (if 0<i then qs.getD 0 false else false),.bool (if 1<i then qs.getD 1 false else false)]
theorem GK{t:Bool}:∀ {l:List Nm},cx t l=true→∀y∈l,eP t y=true
 |a::l,h,y,hy=>by
  simp only[cx,AI]at h;simp only[zAR]at hy;rcases hy with rfl|hy
  ·exact h.1
  ·exact GK h.2 y hy
theorem IA{cs:List Cd}{t:Bool}:∀ {l:List Cn},eH cs t l=true→∀y∈l,fG cs t y=true
 |a::l,h,y,hy=>by
  simp only[eH,AI]at h;simp only[zAR]at hy;rcases hy with rfl|hy
  ·exact h.1
  ·exact IA h.2 y hy
def MH(b:Bk)(s:St):Prop:=∀k c,c∈(iN s k).az∨c∈(iN s k).hand→0<=c∧c.toNat<b.ai.length
attribute [local irreducible] aF.rd aF.pu aF.wr aF.dr aF.gr aF.gw aF.gl aF.gd aF.opt cI W
set_option maxHeartbeats 8000000
theorem Bb(b:Bk)(hf:a_ b=true)(bY:Yg b.ai)(s:St)(hs:bd 1000000000 s)(hm:aO (bz b).1 b s true=true)(sd tg:Int)(h0:0<=sd)(h1:sd<=1)(hd:MH b s)(t:Bool) :
  ∀(k:Nat) (x:Cn) (row:List aa) (j:Nat),sA row j x→SizeOf.sizeOf x<=k→cG x=true→fG b.ai t x=true→PC 279 [.agg [.aq row j],qP b s sd tg] (.iface 4 (.bool (dQ b s sd tg x)))
 |0,x,_,_,_,h,_,_=>by cases x;simp at h
 |k+1,x,row,j,hx,hk,jD,bQ=>by
  have mW:=bQ;rw[Rj]at mW;simp only[AI]at mW;obtain⟨k1,k2,k3,_⟩:=mW;simp only[gM,AI,fE]at k1;obtain⟨ka,kb,kc,kd⟩:=k1;have kc2:x.aC.length<=2:=by rw[kc,nj];split<;>omega
  have kd2:x.kids.length<=2:=by grind [nk]
  have rB:∀(i:Nat) (hi:i<x.aC.length),PC 260 [.agg [.aq (c8 x.aC[i]) 0],qP b s sd tg] (.iface 3 (iv ((kh b s sd tg x.aC).getD i 0))):=by
   intro i hi;have g_:=AT hi;rw[Xb9 b s sd tg x.aC i hi];exact py b hf bY s hs hm sd tg h0 h1 (λc hc=>hd _ c (.inl hc)) t _ _ _ 0 (qm _) (IT _) (Y5 jD g_) (GK k2 _ g_)
  have Km:∀(i:Nat) (hi:i<x.kids.length),PC 279 [.agg [.aq (f_ x.kids[i]) 0],qP b s sd tg] (.iface 4 (.bool ((j0 b s sd tg x.kids).getD i false))):=by
   intro i hi;have g_:=AT hi;rw[WA b s sd tg x.kids i hi];exact Bb b hf bY s hs hm sd tg h0 h1 hd t k _ _ 0 (zn _) (by have:=Cw g_;omega) (Z5 jD g_) (IA k3 _ g_)
  rw[XdI];generalize kh b s sd tg x.aC=ns at rB ⊢;generalize j0 b s sd tg x.kids=qs at Km ⊢;refine Xa hP g279.ok rfl rfl ?_;rw[H2.e];unfold g279;dsimp only;refine ay ?_;refine Za (bB hx.h3) (Za (v:=iv x.aC.length) (rd:=[]) (by simp[Qn]) ?_);refine Xg (ι:=Nat) (λi vs τ=>vs=[iv i]∧i<=x.aC.length∧τ=[.box [.aq row j],.box (I1 ns i),.box [.bool false,.bool false]]) (λi=>x.aC.length-i) 0 ⟨rfl,by omega,rfl⟩ ?_;rintro i vs τ again ⟨rfl,hi,rfl⟩ bn;refine Za rfl (YS (λh=>?_) (λh=>?_))
  ·refine ay (Za (bB hx.h3) (Za (Xm _ c8 _ _ _ x.aC _ i h) (Za rfl (aY (rB i h) g260.ok (Za rfl ?_)))));have h01:i=0∨i=1:=by omega
   rcases h01 with rfl|rfl
   ·refine ay (bn 1 _ _ (by omega) ⟨rfl,by omega,rfl⟩)
   ·refine ay (bn 2 _ _ (by omega) ⟨rfl,by omega,rfl⟩)
  subst h;clear bn;refine ay ?_;refine Za (bB hx.h4) (Za (v:=iv x.kids.length) (rd:=[]) (by simp[Qn]) ?_);generalize hA:I1 ns x.aC.length=A1;refine Xg (ι:=Nat) (λi vs τ=>vs=[iv i]∧i<=x.kids.length∧τ=[.box [.aq row j],.box A1,.box (I0 qs i)]) (λi=>x.kids.length-i) 0 ⟨rfl,by omega,rfl⟩ ?_;rintro i vs τ again ⟨rfl,hi,rfl⟩ bn;refine Za rfl (YS (λh=>?_) (λh=>?_))
  ·refine ay (Za (bB hx.h4) (Za (Xm _ f_ _ _ _ x.kids _ i h) (Za rfl (aY (Km i h) g279.ok (Za rfl ?_)))));have h01:i=0∨i=1:=by omega
   rcases h01 with rfl|rfl
   ·refine ay (bn 1 _ _ (by omega) ⟨rfl,by omega,rfl⟩)
   ·refine ay (bn 2 _ _ (by omega) ⟨rfl,by omega,rfl⟩)
  subst h;clear bn;generalize hB:I0 qs x.kids.length=B1;refine ay (Za (bB hx.h0) ?_);have hY:x.op=0∨x.op=1∨x.op=2∨x.op=3∨x.op=4∨x.op=5∨x.op=6:=by omega
  rcases hY with e|e|e|e|e|e|e
  ·have JL:A1=[iv (ns.getD 0 0),iv (ns.getD 1 0)]:=by rw[←hA,kc,e];rfl
   subst JL;rw[e];exact ay rfl
  ·have JL:A1=[iv (ns.getD 0 0),iv (ns.getD 1 0)]:=by rw[←hA,kc,e];rfl
   subst JL;rw[e];exact ay rfl
  ·have JL:A1=[iv (ns.getD 0 0),iv (ns.getD 1 0)]:=by rw[←hA,kc,e];rfl
   subst JL;rw[e];exact ae rfl
  ·have yo:B1=[.bool (qs.getD 0 false),.bool false]:=by rw[←hB,kd,e];rfl
   subst yo;rw[e];exact ay rfl
  ·have yo:B1=[.bool (qs.getD 0 false),.bool (qs.getD 1 false)]:=by rw[←hB,kd,e];rfl
   subst yo;rw[e];refine ay ?_;rw[show pB b s sd 4 x.who x.name ns qs=(qs.getD 0 false&&qs.getD 1 false) from rfl];rcases cA (qs.getD 0 false)with q|q
   ·rw[q];refine ay ?_;rfl
   ·rw[q];refine ay ?_;rfl
  ·have yo:B1=[.bool (qs.getD 0 false),.bool (qs.getD 1 false)]:=by rw[←hB,kd,e];rfl
   subst yo;rw[e];refine ay ?_;rw[show pB b s sd 5 x.who x.name ns qs=(qs.getD 0 false||qs.getD 1 false) from rfl];rcases cA (qs.getD 0 false)with q|q
   ·rw[q];refine ay ?_;rfl
   ·rw[q];refine ay ?_;rfl
  ·rw[e];refine ay (Za (bB hx.h1) (aY (c295 b s sd tg x.who h0 h1) g266.ok ?_));have hv:pB b s sd 6 x.who x.name ns qs=(iN s (bG sd x.who)).hand.any λc=>(Yr b c).name==x.name:=rfl;rw[hv];have di:∀c∈(iN s (bG sd x.who)).hand,0<=c∧c.toNat<b.ai.length:=λc hc=>hd _ c (.inr hc);obtain⟨jj,hjj,hpt,ji⟩:∃jj:Nat,aK false (jj+4) 1 (aI s)=some (aP (iN s (bG sd x.who)).hand)∧(bif bG sd x.who==0 then 7 else 15)=jj∧(iN s (bG sd x.who)).hand.length<=1000000000:=by
    rcases Ib (who:=x.who) h0 h1 with h|h
    ·rw[h];exact⟨7,rfl,rfl,hs.s0.hand⟩
    ·rw[h];exact⟨15,rfl,rfl,hs.s1.hand⟩
   rw[hpt];generalize (iN s (bG sd x.who)).hand=hand at hjj di ji ⊢;refine Za rfl (Za rfl (Za (bB hjj) (Za (v:=iv hand.length) (rd:=[]) (by simp[Qn]) ?_)));refine Xg (ι:=Nat) (λi vs τ=>vs=[iv i]∧i<=hand.length∧τ=[.box [.aq row j],.box A1,.box B1]∧(hand.take i).any (λc=>(Yr b c).name==x.name)=false) (λi=>hand.length-i) 0 ⟨rfl,by omega,rfl,rfl⟩ ?_;rintro i vs τ again ⟨rfl,hi,rfl,lZ⟩ bn;refine Za rfl (YS (λh=>?_) (λh=>?_))
   ·obtain⟨q1,q2⟩:=di hand[i] (AT h);refine Za (Xm _ aR _ _ _ hand _ i h) (ax (Za (sH _ cL _ _ _ b.ai _ _ q1 q2) ?_));refine ax (Za (bB hx.h2) (Za (uC ..) ?_));have hc:Yr b hand[i]=b.ai[hand[i].toNat]:=by simp[Yr,q2]
    refine Ya (λhq=>?_) (λhq=>?_)
    ·have:hand.any (λc=>(Yr b c).name==x.name)=true:=List.any_eq_true.2 ⟨hand[i],AT h,by rw[hc];exact hq⟩;rw[this];exact Za rfl rfl
    ·refine Za (Qj ..) ?_;rw[Qc (n:=i) (by omega)];refine bn (i+1) _ _ (by omega) ⟨rfl,by omega,rfl,?_⟩
     grind [Yw]
   ·subst h;rw[zAr]at lZ;rw[lZ];exact Za rfl rfl
theorem c569(b:Bk)(hf:a_ b=true)(bY:Yg b.ai)(s:St)(hs:bd 1000000000 s)(hm:aO (bz b).1 b s true=true)(sd tg:Int)(h0:0<=sd)(h1:sd<=1)(hd:MH b s)(t:Bool)(x:Cn)(hx:cG x=true)(bQ:fG b.ai t x=true) :
  PC 279 [.agg [.aq (f_ x) 0],qP b s sd tg] (.iface 4 (.bool (dQ b s sd tg x))):=Bb b hf bY s hs hm sd tg h0 h1 hd t _ x _ 0 (zn x) (IT _) hx bQ
def u5(y:Cn):Ef:=.mk 8 0 DH [] y [] []
def zg(y:Cn):Cd:=⟨[80,114,111,98,101],false,0,0,0,0,0,0,[u5 y],[],[],0⟩
def uB(b:Bk)(y:Cn):Bool:=!decide (o7 (zg y)-1>200)&&bD b.ai true 1 [u5 y]
theorem Qdc{b:Bk}{y:Cn}(h:uB b y=true):fG b.ai true y=true:=by
 simp only[uB,bD,bU,AI]at h;obtain⟨_,_,_,h,_⟩:=h;rw[ye,aJ (show (u5 y).op=8 from rfl)]at h;simp only[AI]at h;exact h.2.2.2.2.2.1
@[reducible] def K4(y:Cn):List aa:=[aN 8,aN 0,aN 0,iv 0,aN 0,.an,.str [],aN y.op,aN y.who,.str y.name,.aU false false 4 (y.aC.map c8),.aU false false 5 (y.kids.map f_),.an,.an]
theorem Qet{h0:Hp}{rd:List Nat}(y:Cn):bu h0 rd (K4 y) (bj (u5 y)):=by
 rw[Zr];exact .cons (aB.ro rfl) <| .cons (aB.ro rfl) <| .cons (aB.ro rfl) <| .cons (aB.ro rfl) <| .cons (aB.ro rfl) <| .cons (aB.nl 4) <| .cons (aB.ro rfl) <| .cons (aB.ro rfl) <| .cons (aB.ro rfl) <| .cons (aB.ro rfl) <|
  .cons (aB.ro rfl) <| .cons (aB.ro rfl) <| .cons (aB.nl 14) <| .cons (aB.nl 14) .nil
theorem Zeu{h0:Hp}{rd:List Nat}(y:Cn){b:Nat}(hb:h0 b=some (.rows 14 [K4 y]))(di:b∈rd):aB h0 rd (.sl b 0 1 true) (gY [u5 y]):=by
 refine aB.dY (y:=.aU true false 14 [bj (u5 y)]) (aB.sl hb di (by simp) rfl (λi row row' e1 e2=>?_)) (λM u d=>d.gS)
 grind [Qet]
theorem WY{y:Cn}(h:cG y=true):bE [u5 y]=true:=by
 simp[bE,u5,yg,dS,h,cW,DH,cZ,y_,BL,Dx]
theorem I3(b:Bk)(hf:a_ b=true)(y:Cn)(hy:cG y=true)(eL:(qx y).length<=1000000):PC 133 [.fj,.aq (f_ y) 0,.aq (cy b) 0] (.bool (uB b y)):=by
 have gu:ZG b.ai=true:=by
  simp_all [a_]
 have JR:(pz (zg y)).length<=500000000:=by grind [pz,zg,bw,u5,iA,cq]
 have h124:=c124 (zg y) (WY hy) rfl rfl JR;have h125:=c125 b.ai gu [u5 y] (WY hy);have hwr:-9223372036854775808<=o7 (zg y)-1∧o7 (zg y)-1<=9223372036854775807:=by rw[IL];omega
 unfold uB;rw[XE];refine Xa hP g133.ok rfl rfl ?_;rw[H3.e];unfold g133;dsimp only;refine Za rfl (Yd (v:=.ak 0 0) rfl rfl (Yd (v:=.aQ) (rd:=[]) (up:=[(0,.box [aN 3,aN 0,aN 0,iv 0,aN 0,.an,.str [],aN 0,aN 0,.str [],.an,.an,.an,.an])]) rfl rfl (Za rfl (Gb (Ye ?_)))));refine Zi rfl (Xf (bB rfl) rfl (Zi rfl (Xf (v:=.aQ) (rd:=[]) (up:=[(0,.box [aN 8,aN 0,aN 0,iv 0,aN 0,.an,.str [],aN 0,aN 0,.str [],.an,.an,.an,.an])]) rfl rfl (Zi rfl (Xf (v:=.aQ) (rd:=[]) (up:=[(0,.box (K4 y))]) rfl rfl (Zw (by kernel_rfl) ?_))))));refine Za (ld (row:=K4 y) rfl rfl) (Yd (v:=.sl 1 0 1 true) (rd:=[]) (up:=[(1,.rows 14 [K4 y])]) rfl rfl (Za rfl (Yd (v:=.ak 2 0) rfl rfl ?_)));refine Yd (v:=.aQ) (rd:=[]) (up:=[(2,.box [.str [80,114,111,98,101],.bool false,iv 0,iv 0,iv 0,iv 0,iv 0,iv 0,.sl 1 0 1 true,.an,.an,iv 0])]) rfl rfl (Za (ld (row:=[.str [80,114,111,98,101],.bool false,iv 0,iv 0,iv 0,iv 0,iv 0,iv 0,.sl 1 0 1 true,.an,.an,iv 0]) rfl rfl) (Zu (rd:=[1]) h124 rfl g168.ok.plain (.cons (aB.agg ?_) .nil) rfl ?_))
 ·exact .cons (aB.ro rfl) <| .cons (aB.ro rfl) <| .cons (aB.ro rfl) <| .cons (aB.ro rfl) <| .cons (aB.ro rfl) <| .cons (aB.ro rfl) <| .cons (aB.ro rfl) <| .cons (aB.ro rfl) <| .cons (Zeu y rfl (by simp)) <|
   .cons (aB.nl 14) <| .cons (aB.nl 14) <| .cons (aB.ro rfl) .nil
 refine Za (Cv ..) ?_;rw[zAZ _ hwr];refine ay (Ya (λh=>?_) (λh=>?_))
 ·rw[h];rfl
 rw[h];refine ay ?_;exact Gc (rd:=[1]) h125 rfl g180.ok.plain (.cons (aB.ro rfl) (.cons (Zeu y rfl (by simp)) .nil)) rfl (Zw (by kernel_rfl) rfl)
theorem c169(b:Bk)(hf:a_ b=true)(bY:Yg b.ai)(s:St)(hs:bd 1000000000 s)(hm:aO (bz b).1 b s true=true)(sd tg:Int)(h0:0<=sd)(h1:sd<=1)(hd:MH b s)(y:Cn)(hy:cG y=true)(eL:(qx y).length<=1000000) :
  PC 89 [cC b,bZ s,.agg [iv sd,iv tg],.agg (f_ y)] (.bp [.bool (uB b y&&dQ b s sd tg y),iv (if uB b y=true then 0 else 2)]):=by
 have hz:=py b hf bY s hs hm sd tg h0 h1 (λc hc=>hd _ c (.inl hc)) true _ DH (c8 DH) 0 (qm _) (IT _) rfl rfl;have a0:=c81 b hf bY s hs hm sd tg h0 h1 _ _ _ hz;have h82:=I3 b hf y hy eL;have a1:uB b y=true→PC 132 [.aq (cy b) 0,.aq (aI s) 0,.agg [iv sd,iv tg],.iface 213 (.agg [.aq (f_ y) 0])] (.bp [.iface 4 (.bool (dQ b s sd tg y)),iv 0]):=λh=>
  Tn b hf bY s hs hm sd tg h0 h1 _ _ _ (c569 b hf bY s hs hm sd tg h0 h1 hd true y hy (Qdc h))
 refine Xa hP g89.ok rfl rfl ?_;rw[H4.e];unfold g89;dsimp only;refine ay ?_;refine Yd (v:=.ak 3 0) (rd:=[]) (up:=[(3,.box (f_ y))]) (by rw[XE];rfl) rfl ?_;refine ay ?_;have B0:∀ {σ:List ab} {rd:List Nat},aj σ 0=.box (cy b)→0∈rd→aB (hp σ) rd (.ak 0 0) (.aq (cy b) 0):=λh di=>aB.box (ZQ h) di (bu.ro rfl);have B1:∀ {σ:List ab} {rd:List Nat},aj σ 1=.box (aI s)→1∈rd→aB (hp σ) rd (.ak 1 0) (.aq (aI s) 0):=λh di=>aB.box (ZQ h) di (bu.ro rfl);have B3:∀ {σ:List ab} {rd:List Nat},aj σ 3=.box (f_ y)→3∈rd→aB (hp σ) rd (.ak 3 0) (.aq (f_ y) 0):=λh di=>aB.box (ZQ h) di (bu.ro (by rw[XE];rfl));refine Zu (rd:=[0,1,4]) a0 rfl kG (.cons (B0 rfl (by simp)) <| .cons (B1 rfl (by simp)) <| .cons (aB.ro rfl) <| .cons (aB.iface (aB.agg (.cons (aB.box (row:=[aN 0,iv 0,aN 0,.an]) rfl (by simp) ?_) .nil))) .nil) rfl ?_
 ·exact .cons (aB.ro rfl) <| .cons (aB.ro rfl) <| .cons (aB.ro rfl) <| .cons (aB.nl 4) .nil
 refine ay (Zu (rd:=[0,3]) h82 rfl g133.ok.plain (.cons (aB.ro rfl) <| .cons (B3 rfl (by simp)) <| .cons (B0 rfl (by simp)) .nil) rfl ?_);rcases cA (uB b y)with hq|hq
 ·rw[hq];refine ay (Zu (rd:=[0,1,3]) (a1 hq) rfl kG (.cons (B0 rfl (by simp)) <| .cons (B1 rfl (by simp)) <| .cons (aB.ro rfl) <| .cons (aB.iface (aB.agg (.cons (B3 rfl (by simp)) .nil))) .nil) rfl ?_);exact ay rfl
 ·rw[hq];refine ay rfl
def c_(s:St)(sd tg who:Int):Int×Int×Bool:=
 if who=0 then (0,sd,true)else if who=1 then (0,1-sd,true)else if who≠2 then (0,0,false)
 else if tg = -2∨tg = -3 then (0,-2-tg,true)else if 0<tg then (if (aL s tg).2.2=true then (tg,(aL s tg).1,true)else (0,0,false))else (0,0,false)
theorem c170(s:St)(hs:bd 1000000000 s)(sd tg who:Int)(h0:0<=sd)(h1:sd<=1):PC 176 [bZ s,.agg [iv sd,iv tg],aN who] (.bp [iv (c_ s sd tg who).1,iv (c_ s sd tg who).2.1,.bool (c_ s sd tg who).2.2]):=by
 have h71:=c71 s hs tg;refine Xa hP g176.ok rfl rfl ?_;rw[H3.e];unfold g176;dsimp only;refine ay ?_;rw[show decide (sd<0)=false from gm (by omega)];refine Qa (Za rfl (Qa (Za (ld (row:=[iv sd,iv tg]) (v:=iv sd) rfl rfl) (Qa (Za (v:=.bool (decide (sd>1))) rfl ?_)))));rw[show decide (sd>1)=false from gm (by omega)];refine Za rfl (Ye (Qg λk' ek=>?_));have lZ:c_ s sd tg who=(0,0,false)→k' [] [.box (aI s),.box [iv sd,iv tg]]:=by
  simp_all
 clear ek;refine Za (Ys ..) (Ya (λh=>?_) (λh=>?_))
 ·have h:who=0:=by simpa using h
  have e:c_ s sd tg who=(0,sd,true):=by rw[c_,aJ h]
  rw[e];exact ay rfl
 have h:who≠0:=by simpa using h
 refine Za (Ys ..) (Ya (λh2=>?_) (λh2=>?_))
 ·have h2:who=1:=by simpa using h2
  have e:c_ s sd tg who=(0,1-sd,true):=by rw[c_,aE h,aJ h2]
  rw[e];refine ay ?_;rw[zAZ _ (by omega)]
 have h2:who≠1:=by simpa using h2
 refine Za (Z6 ..) (Ya (λh3=>?_) (λh3=>?_))
 ·simp_all [c_]
 have h3:¬who≠2:=by simpa using h3
 have e0:c_ s sd tg who=if tg = -2∨tg = -3 then (0,-2-tg,true)else if 0<tg then (if (aL s tg).2.2=true then (tg,(aL s tg).1,true)else (0,0,false))else (0,0,false):=by simp_all [c_]
 refine ae ?_;have pick:∀K:aa→Prop,K (.bool (decide (tg = -2∨tg = -3)))→VV.gr (.bool (decide (tg = -2))) false (λk=>VV.rd (Xb 1 [.ak 1 0] [.box (aI s),.box [iv sd,iv tg]]) k) λt39=>
   VV.gr (.bool (decide (tg = -2))) false (λk=>VV.rd (Qe false 1 [t39] [.box (aI s),.box [iv sd,iv tg]]) k) λt40=>
   VV.gr (.bool (decide (tg = -2))) false (λk=>VV.rd (Ym .eql false [t40,(.int .i64 (-3))] [.box (aI s),.box [iv sd,iv tg]]) k) λt41=>
   VV.rd (Zo [.bool (decide (tg = -2)),(.bool true),t41] [.box (aI s),.box [iv sd,iv tg]]) K:=by
  intro K hK;by_cases hq:tg = -2
  ·rw[show decide (tg = -2)=true from fk hq];refine ay ?_;simp_all
  ·rw[show decide (tg = -2)=false from gm hq];refine ae ?_;simp_all
 refine pick _ (Ya (λh4=>?_) (λh4=>?_))
 ·have h4:tg = -2∨tg = -3:=by simpa using h4
  rw[e0,aJ h4];refine ay ?_;rw[zAZ _ (by omega)]
 have h4:¬(tg = -2∨tg = -3):=by simpa using h4
 rw[aE h4]at e0;refine ay (Ya (λh5=>?_) (λh5=>?_))
 ·have h5:0<tg:=by simpa using h5
  rw[aJ h5]at e0;refine ay (aY h71 g25.ok ?_);unfold gz;refine ay (Ya (λh6=>?_) (λh6=>?_))
  ·rw[aJ h6]at e0;rw[e0];exact ay rfl
  simp_all
 grind
def Rq(s:St)(sd tg who:Int):aa:=if (c_ s sd tg who).2.2=true then (if 0<(c_ s sd tg who).1 then .iface 245 (.agg [iv (c_ s sd tg who).1,iv (c_ s sd tg who).2.1])else .iface 246 (iv (c_ s sd tg who).2.1))else .dp
theorem SM{s:St}{sd tg who:Int}(h01:sd=0∨sd=1)(h:(c_ s sd tg who).2.2=true):((c_ s sd tg who).2.1=0∨(c_ s sd tg who).2.1=1)∧0<=(c_ s sd tg who).1:=by
 grind [c_,aL]
def oO(op:Int)(b:Bk)(s:St)(id k n:Int):St×Ev×Int:=if op=1 then jA s id k n else jv b s id k n
def fX(b:Bk)(s:St)(sd tg op who n:Int):Int×St×List Ev:=
 if (c_ s sd tg who).2.2=true∧0<=n then
  (if (oO op b s (c_ s sd tg who).1 (c_ s sd tg who).2.1 n).2.2=0 then (0,(oO op b s (c_ s sd tg who).1 (c_ s sd tg who).2.1 n).1,[(oO op b s (c_ s sd tg who).1 (c_ s sd tg who).2.1 n).2.1])
  else ((oO op b s (c_ s sd tg who).1 (c_ s sd tg who).2.1 n).2.2,s,[]))
 else (0,s,[])
theorem yh{σ:List ab}{b j n:Nat}{row:List aa}{v:aa}(hb:aj σ b=.box row)(hv:aK true j n row=some v):im true n (.ak b j) σ=some v:=by
 simp only[im,hb,hv]
theorem du.lift{σ σ':List ab}(h:du σ σ' [])(rb:Nat){lv:aa}:Fr rb lv lv σ σ':=⟨h.1,λk hk _ _=>h.2 k hk (by simp),λk n e=>.inr ⟨n,e⟩⟩
theorem du.jY(σ:List ab)(x:ab):du σ (σ++[x]) []:=du.app σ [x]
theorem du.df{σ τ:List ab}(h:du σ τ []){b:Nat}(hb:σ.length<=b)(x:ab):du σ (τ.set b x) []:=
 ⟨by simpa using h.1,λc hc _=>by rw[Xc x (zAJ hc h.1) (by omega),h.2 c hc (by simp)]⟩
theorem du.jX{σ τ:List ab}(h:du σ τ [])(x:ab):du σ (τ++[x]) []:=by
 have:=h.trans (du.jY τ x);simpa using this
theorem Xec{σ:List ab}{rb:Nat}{b:Bk}{s:St}{sd tg fu:Int}{mv lv:aa}(hr:aj σ rb=.box (dt b s sd tg lv fu mv))(h01:sd=0∨sd=1)(hs:bd 1000000000 s)(who:Int){K:KT}(hK:K (Rq s sd tg who) σ):g125.u VV [.ak rb 0,aN who] σ K:=by
 rw[H2.e];unfold g125;dsimp only;refine Za rfl (Za rfl (Za (v:=bZ s) (ld hr rfl) (Za rfl (Za rfl (Za (v:=.agg [iv sd,iv tg]) (ld hr rfl) ?_)))));refine aY (c170 s hs sd tg who (by omega) (by omega)) g176.ok ?_;unfold Rq at hK;refine ay (Ya (λh=>?_) (λh=>?_))
 ·simp_all
 ·rw[aJ (by simpa using h)]at hK;refine Za (o_ ..) (Ya (λh2=>?_) (λh2=>?_))
  ·rw[aJ (by simpa using h2)]at hK;exact Za rfl (Za rfl hK)
  ·rw[aE (by simpa using h2)]at hK;exact Za rfl hK
theorem YdC{σ:List ab}{rb:Nat}{b:Bk}{s:St}{sd tg fu:Int}{lv:aa}{F:FuncId}(hr:aj σ rb=.box (dt b s sd tg lv fu (.func (.func F) [] [])))(id k n:Int){r:St×Ev×Int}(hc:PC F [cC b,bZ s,iv id,iv k,iv n] (eA r))(Ha:Zh prog F=true){K:KT}
 (hK:∀σ',du σ σ' []→K (eA r) σ'):g280.u VV [.agg [iv id,iv k],.ak rb 0,iv n] σ K:=by
 rw[H3.e];unfold g280;dsimp only;refine Yd (v:=.ak σ.length 0) (rd:=[]) (up:=[(σ.length,.box [iv id,iv k])]) rfl (Xe σ _) ?_;have a1:=du.jY σ (.box [iv id,iv k]);have r1:=Qb [ab.box [iv id,iv k]] hr;have n1:=Yc σ (.box [iv id,iv k]);have l1:(σ++[ab.box [iv id,iv k]]).length=σ.length+1:=by simp
 generalize σ++[ab.box [iv id,iv k]]=τ1 at *;refine Yd (v:=.ak τ1.length 0) (rd:=[]) (up:=[(τ1.length,.box aZ)]) rfl (Xe τ1 _) ?_;have a2:=a1.jX (.box aZ);have r2:=Qb [ab.box aZ] r1;have n2:=Qb [ab.box aZ] n1;have z2:=Yc τ1 (.box aZ);have l2:(τ1++[ab.box aZ]).length=τ1.length+1:=by simp
 generalize τ1++[ab.box aZ]=τ2 at *;refine Yd (v:=.ak τ2.length 0) (rd:=[]) (up:=[(τ2.length,.box bX)]) rfl (Xe τ2 _) ?_;have a3:=a2.jX (.box bX);have r3:=Qb [ab.box bX] r2;have n3:=Qb [ab.box bX] n2;have z3:=Qb [ab.box bX] z2;have e3:=Yc τ2 (.box bX);have l3:(τ2++[ab.box bX]).length=τ2.length+1:=by simp
 generalize τ2++[ab.box bX]=τ3 at *;refine Za rfl (Za rfl (Za (v:=.func (.func F) [] []) (ld r3 rfl) (Za rfl (Za rfl (Za (v:=cC b) (ld r3 rfl) (Za rfl (Za rfl (Za (v:=bZ s) (ld r3 rfl) ?_))))))));refine Za rfl (Za (v:=iv id) (ld n3 rfl) (Za rfl (Za (v:=iv k) (ld n3 rfl) ?_)));refine Yo (f:=F) (ys:=[cC b,bZ s,iv id,iv k,iv n]) hc rfl Ha rfl ?_;refine ay ?_;refine Xf (cX z3 rfl rfl rfl) (Ze _ (by omega)) ?_;have e4:=Zb (x:=.box (aI r.1)) e3 (by simp) (c:=τ1.length) (by omega);have s4:aj (τ3.set τ1.length (.box (aI r.1))) τ1.length=.box (aI r.1):=Zd _ (by omega);refine Xf (cX e4 rfl rfl rfl) (Ze _ (by simp;omega)) (Zw (by rfl) ?_);refine Zs (yh (Zb s4 (by simp) (by omega)) rfl) (Zs (yh (Zd _ (by simp;omega)) rfl) ?_);exact hK _ ((a3.df (by omega) _).df (by omega) _)
theorem Zcq{σ:List ab}{rb:Nat}{b:Bk}{s:St}{sd tg fu:Int}{lv:aa}{F:FuncId}(hr:aj σ rb=.box (dt b s sd tg lv fu (.func (.func F) [] [])))(k n:Int){r:St×Ev×Int}(hc:PC F [cC b,bZ s,iv 0,iv k,iv n] (eA r))(Ha:Zh prog F=true){K:KT}
 (hK:∀σ',du σ σ' []→K (eA r) σ'):g281.u VV [iv k,.ak rb 0,iv n] σ K:=by
 rw[H3.e];unfold g281;dsimp only;refine Yd (v:=.ak σ.length 0) (rd:=[]) (up:=[(σ.length,.box aZ)]) rfl (Xe σ _) ?_;have a2:=du.jY σ (.box aZ);have r2:=Qb [ab.box aZ] hr;have z2:=Yc σ (.box aZ);have l2:(σ++[ab.box aZ]).length=σ.length+1:=by simp
 generalize σ++[ab.box aZ]=τ2 at *;refine Yd (v:=.ak τ2.length 0) (rd:=[]) (up:=[(τ2.length,.box bX)]) rfl (Xe τ2 _) ?_;have a3:=a2.jX (.box bX);have r3:=Qb [ab.box bX] r2;have z3:=Qb [ab.box bX] z2;have e3:=Yc τ2 (.box bX);have l3:(τ2++[ab.box bX]).length=τ2.length+1:=by simp
 generalize τ2++[ab.box bX]=τ3 at *;refine Za rfl (Za rfl (Za (v:=.func (.func F) [] []) (ld r3 rfl) (Za rfl (Za rfl (Za (v:=cC b) (ld r3 rfl) (Za rfl (Za rfl (Za (v:=bZ s) (ld r3 rfl) ?_))))))));refine Yo (f:=F) (ys:=[cC b,bZ s,iv 0,iv k,iv n]) hc rfl Ha rfl ?_;refine ay ?_;refine Xf (cX z3 rfl rfl rfl) (Ze _ (by omega)) ?_;have e4:=Zb (x:=.box (aI r.1)) e3 (by simp) (c:=σ.length) (by omega);have s4:aj (τ3.set σ.length (.box (aI r.1))) σ.length=.box (aI r.1):=Zd _ (by omega);refine Xf (cX e4 rfl rfl rfl) (Ze _ (by simp;omega)) (Zw (by rfl) ?_);refine Zs (yh (Zb s4 (by simp) (by omega)) rfl) (Zs (yh (Zd _ (by simp;omega)) rfl) ?_);exact hK _ ((a3.df (by omega) _).df (by omega) _)
theorem XdZ{σ:List ab}{rb:Nat}{b:Bk}{s:St}{sd tg fu:Int}{mv lv:aa}{l:List Ev}(hr:aj σ rb=.box (dt b s sd tg lv fu mv))(hl:LV rb l lv σ)(hn:l.length<=1000000000)(h01:sd=0∨sd=1)
 (hf:a_ b=true)(bY:Yg b.ai)(hs:bd 2000000 s)(hm:aO (bz b).1 b s true=true)(x:Ef)(n:Int){K:KT}(hK:∀v σ',Dn rb b sd tg fu l lv σ (fX b s sd tg x.op x.who n) v σ'→K v σ'):g82.u VV [.ak rb 0,.agg (bj x),iv n] σ K:=by
 have uV:=Yb hr;have f0:Fr rb lv lv σ (σ++[ab.box (bj x)]):=Fr.app _ (λk n e=>hl.lt e);have r1:=Qb [ab.box (bj x)] hr;have l1:LV rb l lv (σ++[ab.box (bj x)]):=hl.fQ (λk hk _=>Yf _ hk);have n1:=Yc σ (.box (bj x));have jy:rb<(σ++[ab.box (bj x)]).length:=by simp;omega
 have cO:σ.length≠rb:=by omega
 have gW:bd 1000000000 s:=⟨by have:=hs.ao;omega,⟨by have:=hs.s0.az;omega,by have:=hs.s0.hand;omega,by have:=hs.s0.al;omega,by have:=hs.s0.af;omega,by have:=hs.s0.told;omega⟩,⟨by have:=hs.s1.az;omega,by have:=hs.s1.hand;omega,by have:=hs.s1.al;omega,by have:=hs.s1.af;omega,by have:=hs.s1.told;omega⟩⟩;rw[H3.e];unfold g82;dsimp only;refine Yd (XM _ _) (Xe σ _) (Za rfl (Za rfl ?_));generalize σ++[ab.box (bj x)]=τ at *;refine Yd (cX (row':=dt b s sd tg lv fu (.func (.func 123) [] [])) r1 rfl rfl rfl) (Ze _ jy) (Za rfl (Za (ld (Zb n1 (by simp) cO.symm) (gO x)) (Za (Ys ..) (Qg λk' ek=>?_))));have hR:∀(F:FuncId) (υ:List ab),(∀id k n,k=0∨k=1→PC F [cC b,bZ s,iv id,iv k,iv n] (eA (oO x.op b s id k n)))→Zh prog F=true→Fr rb lv lv σ υ→aj υ rb=.box (dt b s sd tg lv fu (.func (.func F) [] []))→aj υ σ.length=.box (bj x)→LV rb l lv υ→k' [] υ:=by
  intro F υ hc Ha sn KN hnu OQ;subst ek;have stay:fX b s sd tg x.op x.who n=(0,s,[])→K (iv 0) υ:=λe=>hK _ _ ⟨lv,_,sn,by rw[e];exact KN,by rw[e],by rw[e];simpa using OQ⟩;refine Za rfl (Za (ld hnu (n_ x)) ?_);refine Qd hP (f:=125) rfl g125.ok rfl (Xec KN h01 gW x.who ?_);have bQ:=SM (s:=s) (tg:=tg) (who:=x.who) h01;unfold Rq;have last:∀(id k:Int) (υ2:List ab),c_ s sd tg x.who=(id,k,true)→0<=n→du υ υ2 [] →
    VV.rd (Xi 0 [eA (oO x.op b s id k n)] υ2) λt40=>
    VV.rd (Xi 1 [eA (oO x.op b s id k n)] υ2) λt41=>
    VV.rd (Xi 2 [eA (oO x.op b s id k n)] υ2) λt42=>
    VV.wr (Qs aZ [] υ2) υ2 λt9 σ=>
    VV.wr (Qs bX [] σ) σ λt10 σ=>
    VV.wr (Yj 23 [t9,t40] σ) σ λ_ σ=>
    VV.wr (Yj 7 [t10,t41] σ) σ λ_ σ=>
    VV.rd (Ym .neq false [t42,(.int .i64 0)] σ) λt44=>
    VV.test t44 (K t42 σ) (
    VV.rd (Qe true 23 [t9] σ) λt47=>
    VV.rd (Xl [.ak rb 0] σ) λt48=>
    VV.rd (Xb 2 [t48] σ) λt49=>
    VV.wr (Yj 23 [t49,t47] σ) σ λ_ σ=>
    VV.rd (Qe true 7 [t10] σ) λt51=>
    VV.call (.call 126) [.ak rb 0,t51] σ λt52 σ=>K (.int .i64 0) σ):=by
   intro id k υ2 hw kI ha;have he:fX b s sd tg x.op x.who n=if (oO x.op b s id k n).2.2=0 then (0,(oO x.op b s id k n).1,[(oO x.op b s id k n).2.1])else ((oO x.op b s id k n).2.2,s,[]):=by
    rw[fX,hw,aJ ⟨rfl,kI⟩]
   generalize oO x.op b s id k n=r at *;have KO:=ha.get KN;have Uw:LV rb l lv υ2:=OQ.fQ (λk hk _=>ha.2 k hk (by simp));have Ub:Fr rb lv lv σ υ2:=sn.trans (ha.lift rb);refine Za rfl (Za rfl (Za rfl ?_));refine Yd (v:=.ak υ2.length 0) (rd:=[]) (up:=[(υ2.length,.box aZ)]) rfl (Xe υ2 _) ?_;have a3:=du.jY υ2 (.box aZ);have z3:=Yc υ2 (.box aZ);have l3:(υ2++[ab.box aZ]).length=υ2.length+1:=by simp
   generalize υ2++[ab.box aZ]=υ3 at *;refine Yd (v:=.ak υ3.length 0) (rd:=[]) (up:=[(υ3.length,.box bX)]) rfl (Xe υ3 _) ?_;have a4:=a3.jX (.box bX);have z4:=Qb [ab.box bX] z3;have e4:=Yc υ3 (.box bX);have l4:(υ3++[ab.box bX]).length=υ3.length+1:=by simp
   generalize υ3++[ab.box bX]=υ4 at *;refine Yd (cX z4 rfl rfl rfl) (Ze _ (by omega)) ?_;have a5:=a4.df (b:=υ2.length) (by omega) (.box (aI r.1));have e5:=Zb (x:=.box (aI r.1)) e4 (by simp) (c:=υ2.length) (by omega);have s5:aj (υ4.set υ2.length (.box (aI r.1))) υ2.length=.box (aI r.1):=Zd _ (by omega);have l5:(υ4.set υ2.length (ab.box (aI r.1))).length=υ4.length:=by simp
   generalize υ4.set υ2.length (ab.box (aI r.1))=υ5 at *;refine Yd (cX e5 rfl rfl rfl) (Ze _ (by omega)) ?_;have a6:=a5.df (b:=υ3.length) (by omega) (.box (dF r.2.1));have s6:=Zb (x:=.box (dF r.2.1)) s5 (by simp) (c:=υ3.length) (by omega);have e6:aj (υ5.set υ3.length (.box (dF r.2.1))) υ3.length=.box (dF r.2.1):=Zd _ (by omega);have l6:(υ5.set υ3.length (ab.box (dF r.2.1))).length=υ5.length:=by simp
   generalize υ5.set υ3.length (ab.box (dF r.2.1))=υ6 at *;have zR:=a6.get KO;have Kw:LV rb l lv υ6:=Uw.fQ (λk hk _=>a6.2 k hk (by simp));have J_:Fr rb lv lv σ υ6:=Ub.trans (a6.lift rb);have aak:=Yb KO;refine Za (Z6 ..) (Ya (λh=>?_) (λh=>?_))
   ·have h:r.2.2≠0:=by simpa using h
    rw[aE h]at he;exact hK _ _ ⟨lv,_,J_,by rw[he];exact zR,by rw[he],by rw[he];simpa using Kw⟩
   ·have h:r.2.2=0:=by simpa using h
    rw[aJ h]at he;refine Za (v:=bZ r.1) (ld s6 rfl) (Za rfl (Za rfl (Yd (cX (row':=dt b r.1 sd tg lv fu (.func (.func F) [] [])) zR rfl rfl rfl) (Ze _ (Yb zR)) (Za (v:=wa r.2.1) (ld (Zb e6 (by simp) (by omega)) rfl) ?_))));refine Qd hP (f:=126) rfl g126.ok rfl (vh (Zd _ (Yb zR)) (Kw.fQ (λk hk gC=>Xc _ hk gC)) hn r.2.1 _ (.inl rfl) (λσ' cB q1 q2 q3=>?_));exact hK _ _ ⟨cB,_,(J_.trans (Fr.set lv _)).trans q1,by rw[he];exact q2,by rw[he],by rw[he];exact q3⟩
  by_cases hq:(c_ s sd tg x.who).2.2=true
  ·obtain⟨hk,gP⟩:=bQ hq;rw[aJ hq];have hw:c_ s sd tg x.who=((c_ s sd tg x.who).1,(c_ s sd tg x.who).2.1,true):=by rw[←hq]
   have KA:n<0→fX b s sd tg x.op x.who n=(0,s,[]):=λh=>by rw[fX,aE (by omega)]
   generalize (c_ s sd tg x.who).1=id at *;generalize (c_ s sd tg x.who).2.1=k at *;by_cases hi:0<id
   ·rw[aJ hi];refine ay (Ya (λh=>?_) (λh=>?_))
    ·exact stay (KA (by simpa using h))
    ·have h:¬n<0:=by simpa using h
     exact Qd hP (f:=280) (ys:=[.agg [iv id,iv k],.ak rb 0,iv n]) rfl g280.ok rfl (YdC KN id k n (hc id k n hk) Ha (λυ2 ha=>last id k υ2 hw (by omega) ha))
   ·rw[aE hi];have:id=0:=by omega
    subst this;refine ay (Ya (λh=>?_) (λh=>?_))
    ·exact stay (KA (by simpa using h))
    ·have h:¬n<0:=by simpa using h
     exact Qd hP (f:=281) (ys:=[iv k,.ak rb 0,iv n]) rfl g281.ok rfl (Zcq KN k n (hc 0 k n hk) Ha (λυ2 ha=>last 0 k υ2 hw (by omega) ha))
  ·rw[aE hq];refine ay ?_
   grind [fX]
 refine Ya (λh=>?_) (λh=>?_)
 ·have h:x.op=1:=by simpa using h
  have r2:aj (τ.set rb (.box (dt b s sd tg lv fu (.func (.func 123) [] [])))) rb=.box (dt b s sd tg lv fu (.func (.func 123) [] [])):=Zd _ jy;refine Za rfl (Za rfl (Yd (cX (row':=dt b s sd tg lv fu (.func (.func 124) [] [])) r2 rfl rfl rfl) (Ze _ (by simpa using jy)) ?_));rw[zDA];refine hR _ _ (λid k n hk=>?_) g124.ok.plain (f0.trans (Fr.set lv _)) (Zd _ jy) (Zb n1 (by simp) cO.symm) (l1.fQ (λk hk gC=>Xc _ hk gC));rw[oO,aJ h];exact c26 b hf bY s hs hm id k n hk
 ·have h:x.op≠1:=by simpa using h
  refine hR _ _ (λid k n hk=>?_) g123.ok.plain (f0.trans (Fr.set lv _)) (Zd _ jy) (Zb n1 (by simp) cO.symm) (l1.fQ (λk hk gC=>Xc _ hk gC));rw[oO,aE h];exact c22 b hf bY s hs hm id k n hk
end Go.Ah.Tz
end
section
namespace Go.Ah.Tz
open Go.Proofs.Tryz (prog)
set_option maxRecDepth 100000
section
variable {P:Program} {GL:ar}
theorem QcL{k:MK}{xs:List aa}{σ:List ab}{K K':KT}(h:(W P GL).call k xs σ K)(hK:∀v σ',K v σ'→K' v σ'):(W P GL).call k xs σ K':=by
 obtain⟨R,h1,h2⟩:=h;exact⟨R,h1,λv σ' q=>hK v σ' (h2 v σ' q)⟩
theorem Qd3{k:MK}{xs:List aa}{σ:List ab}{K:KT}(pre:∀ (w0:World) (L:Ln) (g:Gm) (w:World),bx GL w0 L g (hp σ) w→∃ σ2,bx GL w0 L g (hp σ2) w ∧
  (W P GL).call k xs σ2 (λv σ'=>∃ fD,(∀ (w0:World) (L:Ln) (g':Gm) (w':World),bx GL w0 L g' (hp σ') w'→bx GL w0 L g' (hp fD) w')∧K v fD)):(W P GL).call k xs σ K:=by
 refine⟨K,?_,λ_ _ h=>h⟩;intro o os hc w0 L g w a r hx;obtain⟨σ2,r2,R,hR,hK⟩:=pre w0 L g w r;have q:=hR o os hc w0 L g w a r2 hx;generalize (execOp a.eval o).run P w=res at q;cases res with
 |ok nx w'=>
  cases nx with
  |value u=>
   obtain⟨g',x,σ',k0,k1,k2,k3⟩:=q;obtain⟨fD,m1,m2⟩:=hK _ _ k0;exact⟨g',x,fD,m2,k1,m1 _ _ _ _ k2,k3⟩
  |skip=>
   obtain⟨g',σ',k0,k1,k2⟩:=q;obtain⟨fD,m1,m2⟩:=hK _ _ k0;exact⟨g',fD,m2,k1,m1 _ _ _ _ k2⟩
  |enter f args=>
   refine Calls.mono q ?_;rintro e xW ⟨u,he,g',x,σ',k0,k1,k2,k3⟩;obtain⟨fD,m1,m2⟩:=hK _ _ k0;exact⟨u,he,g',x,fD,m2,k1,m1 _ _ _ _ k2,k3⟩
  |_=>exact q.elim
 |_=>exact q.elim
end
end Go.Ah.Tz
namespace Go.Ah
theorem YdZ{σ:List ab}{c:Nat}(x:ab)(h:c<σ.length):hp (σ.set c x)=ei (hp σ) c x:=by
 funext n
 unfold hp ei;rw[List.getElem?_set]
 grind
theorem bx.Kf{GL:ar}{w0:World}{L:Ln}{g:Gm}{σ:List ab}{w:World}(r:bx GL w0 L g (hp σ) w){c sz:Nat}{rs:List (List aa)}(hc:aj σ c=.full sz rs)(k:Nat):bx GL w0 L g (hp (σ.set c (.rows sz (rs.take k)))) w:=by
 rw[YdZ _ (Yb hc)];exact r.Dd (Q6 hc (by simp)) k
theorem bx.Ad{GL:ar}{w0:World}{L:Ln}{g:Gm}{σ:List ab}{w:World}(r:bx GL w0 L g (hp σ) w){c sz rb j:Nat}{rs:List (List aa)}{row:List aa}{ex:Bool}(hc:aj σ c=.rows sz rs)(h0:rs≠[])(hr:aj σ rb=.box row)(hj:row[j]?=some (.sl c 0 rs.length ex)) :
  ∃m,bx GL w0 L g (hp (σ.set c (.full sz (rs++zAd m (zAd sz .aQ))))) w:=by
 have hb:=Q6 hr (by simp);obtain⟨cb,ec⟩:=r.jn rb _ hb;have hv:cb.cK=false:=by
  cases hv:cb.cK with
  |false=>rfl
  |true=>have:=r.bc rb _ cb hb rfl ec hv;cases this
 obtain⟨_,_,o,_,arr,T,rfl,hs,hd⟩:=r.own rb _ cb hb rfl ec hv;have b_:j<arr.size:=by rw[hs];exact(gK hj).1
 obtain⟨m,hm⟩:=r.DK (Q6 hc (by simp)) h0 rfl (hd j _ arr[j] hj (by simp[b_]));exact⟨m,by rw[YdZ _ (Yb hc)];exact hm⟩
end Go.Ah
namespace Go.Ah.Tz
open Go.Proofs.Tryz (prog)
attribute [local irreducible] aF.rd aF.pu aF.wr aF.dr aF.gr aF.gw aF.gl aF.gd aF.opt cI W
set_option maxHeartbeats 4000000
theorem B6{n:Nat}{σ:List ab}{c:Nat}{row:List aa}(hc:aj σ c=.rows n [row]):Xk n σ (.sl c 0 1 true)=some ([row],[c]):=by
 simp only[Xk,hc];simp[cut];rfl
theorem Ydg{σ:List ab}{c len f2:Nat}{rs:List (List aa)}{row:List aa}(hc:aj σ c=.full 7 rs)(h2:aj σ f2=.rows 7 [row])(hr:row.all aa.cell=true)(hle:len+1<=rs.length)(bM:len<=1000000000) :
  Qf 7 72 [.sl c 0 len false,.sl f2 0 1 true] σ=.ok (.sl c 0 (len+1) false) [f2] [(c,.full 7 (over len [row] rs))]:=by
 have:Qf 7 72 [.sl c 0 len false,.sl f2 0 1 true] σ=AJ 7 72 σ c len rs (.sl f2 0 1 true):=by simp[Qf,yX,hc]
 rw[this];unfold AJ;simp only[B6 h2,XR hr,IS,zAG,No];rw[show zAP ((2*(len+1)+192)*72) (2 ^ 48)=true from sh (by omega),show zAP (len+1) rs.length=true from sh hle];rfl
theorem Xdg{σ:List ab}{c len f2:Nat}{rs:List (List aa)}{row:List aa}(hc:aj σ c=.full 7 rs)(h2:aj σ f2=.rows 7 [row])(hr:row.all aa.cell=true)(hle:rs.length=len)(bM:len<=1000000000) :
  Qf 7 72 [.sl c 0 len false,.sl f2 0 1 true] σ=.ok (.sl σ.length 0 (len+1) false) [c,f2] [(σ.length,.rows 7 (rs++[row]))]:=by
 have:Qf 7 72 [.sl c 0 len false,.sl f2 0 1 true] σ=AJ 7 72 σ c len rs (.sl f2 0 1 true):=by simp[Qf,yX,hc]
 rw[this];unfold AJ;have hq:zAP (len+1) rs.length=false:=by
  cases h:zAP (len+1) rs.length with
  |false=>rfl
  |true=>have:=ik h;omega
 simp only[B6 h2,XR hr,IS,zAG,No,hq];rw[show zAP ((2*(len+1)+192)*72) (2 ^ 48)=true from sh (by omega),show zAP len rs.length=true from sh (by omega),zAs (by omega)];rfl
theorem eU.take{rows:List (List aa)}{l:List Ev}(h:eU rows l)(k:Nat):eU (rows.take k) (l.take k):=by
 induction h with
 |nil=>simp;exact .nil
 |snoc rows l e cv h hc ih=>
  have hl:=h.len;by_cases hk:k<=l.length
  ·rw[zCA (by omega),zCA hk];exact ih
  ·rw[zAs (by simp;omega),zAs (by simp;omega)];exact .snoc _ _ _ _ h hc
def LX(rb:Nat)(l:List Ev)(lv:aa)(cM:List Ev)(hZ:aa)(τ:List ab):Prop:=
 (l=[]∧lv=.an∧LV rb cM hZ τ)∨(l≠[]∧∃ c rows rest,c≠rb∧lv=.sl c 0 l.length false∧aj τ c=.full 7 (rows ++ rest) ∧
  ((hZ=.sl c 0 (l.length + cM.length) false∧eU rows (l ++ cM))∨(eU rows l∧LV rb (l ++ cM) hZ τ∧∀ n,hZ≠.sl c 0 n false)))
theorem LX.fQ{rb:Nat}{l cM:List Ev}{lv hZ:aa}{σ σ':List ab}(h:LX rb l lv cM hZ σ)(hk:∀k,k<σ.length→k≠rb→aj σ' k=aj σ k):LX rb l lv cM hZ σ':=by
 rcases h with ⟨h1,h2,h3⟩|⟨h0,c,rows,rest,h1,h2,hc,h3⟩
 ·exact .inl ⟨h1,h2,h3.fQ hk⟩
 ·refine .inr ⟨h0,c,rows,rest,h1,h2,by rw[hk c (Yb hc) h1];exact hc,?_⟩;rcases h3 with h3|⟨h3,h4,h5⟩
  ·exact .inl h3
  ·exact .inr ⟨h3,h4.fQ hk,h5⟩
theorem LX.back{rb:Nat}{l cM:List Ev}{lv hZ:aa}{σ:List ab}(h:LX rb l lv cM hZ σ):LX rb l lv [] lv σ:=by
 rcases h with ⟨rfl,rfl,h3⟩|⟨h0,c,rows,rest,h1,h2,hc,h3⟩
 ·exact .inl ⟨rfl,rfl,.inl ⟨rfl,rfl⟩⟩
 ·rcases h3 with ⟨_,h3⟩|⟨h3,_⟩
  ·have:=h3.take l.length;rw[zDL]at this;exact .inr ⟨h0,c,rows.take l.length,rows.drop l.length++rest,h1,h2,by rw[←zAa,zCh];exact hc,.inl ⟨by simpa using h2,by simpa using this⟩⟩
  ·exact .inr ⟨h0,c,rows,rest,h1,h2,hc,.inl ⟨by simpa using h2,by simpa using h3⟩⟩
theorem LX.cells{rb:Nat}{l cM:List Ev}{lv hZ:aa}{σ:List ab}(h:LX rb l lv cM hZ σ):cellsOf lv=some [lv]:=by
 rcases h with ⟨_,rfl,_⟩|⟨_,c,rows,rest,_,rfl,_⟩<;>rfl
theorem LX.tf{rb:Nat}{l cM:List Ev}{lv hZ:aa}{σ:List ab}(h:LX rb l lv cM hZ σ){k:Nat}{row:List aa}(hk:aj σ k=.box row)(n:Nat):hZ≠.sl k 0 n false:=by
 rcases h with ⟨_,_,h⟩|⟨_,c,rows,rest,_,_,hc,⟨h,_⟩|⟨_,h,_⟩⟩
 ·rcases h with ⟨_,h⟩|⟨_,c,rows,_,h,hc,_⟩<;>grind
 ·grind
 ·rcases h with ⟨_,h⟩|⟨_,c,rows,_,h,hc,_⟩<;>grind
theorem LI{σ:List ab}{rb:Nat}{b:Bk}{s:St}{sd tg fu:Int}{mv lv hZ:aa}{l cM:List Ev}(hr:aj σ rb=.box (dt b s sd tg hZ fu mv))(hl:LX rb l lv cM hZ σ)(hn:(l++cM).length<=1000000000)(e:Ev)(cv:aa)(nu:vx cv e.ai){K:KT}
 (hK:∀σ' cB,Fr rb hZ cB σ σ'→aj σ' rb=.box (dt b s sd tg cB fu mv)→LX rb l lv (cM++[e]) cB σ'→K (.bp []) σ'):g126.u VV [.ak rb 0,.agg (cV e cv)] σ K:=by
 rcases hl with ⟨rfl,rfl,hl⟩|⟨h0,c,rows,rest,pf,rfl,hc,⟨rfl,hR⟩|⟨hR,hl,cO⟩⟩
 ·exact vh hr hl (by simpa using hn) e cv nu λσ' cB p1 p2 p3=>hK σ' cB p1 p2 (.inl ⟨rfl,rfl,p3⟩)
 rotate_left
 ·refine vh hr hl hn e cv nu λσ' cB p1 p2 p3=>hK σ' cB p1 p2 (.inr ⟨h0,c,rows,rest,pf,rfl,by rw[p1.bT c (Yb hc) pf cO];exact hc,.inr ⟨hR,by simpa using p3,λn q=>?_⟩⟩);rcases p1.new c n q with q|⟨m,q⟩
  ·have:=Yb hc;omega
  ·exact cO m q
 have uV:=Yb hr;have kH:(cV e cv).all aa.cell=true:=by rcases nu with rfl|⟨rfl,_⟩<;>rfl
 have hlen:=hR.len;rw[By]at hlen hn;rw[H2.e];unfold g126;dsimp only;generalize hX:cV e cv=X at *;have r1:=Qb [.box (cV e cv)] hr;have r2:=Qb [.rows 7 [cV e cv]] r1;have f1:=Yc σ (.box (cV e cv));have f2:=Yc (σ++[.box (cV e cv)]) (.rows 7 [cV e cv]);subst hX;refine Yd (WW (e:=e) nu _) (Xe σ _) (Zi rfl (Zi rfl (Xf (ld r1 rfl) (Zg _) (Xf (ld f1 (show aK true 0 7 (cV e cv)=some (.agg (cV e cv)) from rfl)) (Zg _) (Xf (M_ (e:=e) nu _) (Xe _ _) ?_)))));have oM:(σ++[ab.box (cV e cv)]).length=σ.length+1:=by simp
 have j8:(σ++[ab.box (cV e cv)]++[ab.rows 7 [cV e cv]]).length=σ.length+2:=by simp
 have uL:=Yb hc;have c2:=Qb [.rows 7 [cV e cv]] (Qb [.box (cV e cv)] hc (by simp));have tV:c<(σ++[ab.box (cV e cv)]++[ab.rows 7 [cV e cv]]).length:=by rw[j8];omega
 have OY:rb≠σ.length+1:=by omega
 have wU:c≠σ.length+1:=by omega
 cases rest with
 |cons x rest=>
  have yx:over (l.length+cM.length) [cV e cv] (rows++x::rest)=(rows++[cV e cv])++rest:=by
   unfold over;rw[zCA (by omega),zAs (by omega),List.drop_append,List.drop_of_length_le (by simp;omega)];simp[←hlen]
  refine Xf (Ydg c2 f2 kH (by simp;omega) hn) (Ze _ tV) (Zi rfl (Zi rfl ?_));rw[yx];have r3:=Zb (x:=.full 7 ((rows++[cV e cv])++rest)) r2 (by simp) pf;have oD:=Yb r3;refine Xf (cX r3 rfl rfl rfl) (Ze _ oD) (Zw (by simp[Zj,Xn,Zn,Qv,cf,dZ,zAC,zAc,OY,OY.symm,wU,wU.symm,pf,pf.symm]) ?_);refine hK _ (.sl c 0 (l.length+cM.length+1) false) ⟨by simp,λk hk gC zL=>?_,λk n h=>.inr ?_⟩ ?_ (.inr ⟨h0,c,rows++[cV e cv],rest,pf,rfl,?_,.inl ⟨by simp[zBQ],by rw[←zAa];exact eU.snoc _ _ _ _ hR nu⟩⟩)
  ·have Dh:k≠c:=λq=>zL _ (by rw[q]);rw[Xc _ (by simp;omega) gC,Xc _ (by simp;omega) Dh,Yf _ (by simp;omega),Yf _ hk]
  ·cases h;exact⟨_,rfl⟩
  ·exact Zq (zAb oD)
  ·rw[Xc _ (by simp;omega) pf];exact Zd _ tV
 |nil=>
  rw[zBN]at hc c2;refine Xf (Xdg c2 f2 kH hlen hn) (Xe _ _) (Zi rfl (Zi rfl ?_));have r3:=Qb [.rows 7 (rows++[cV e cv])] r2;have c3:=Qb [.rows 7 (rows++[cV e cv])] c2;have d3:=Yc (σ++[ab.box (cV e cv)]++[ab.rows 7 [cV e cv]]) (.rows 7 (rows++[cV e cv]));have oD:=Yb r3;refine Xf (cX r3 rfl rfl rfl) (Ze _ oD) (Zw (by simp[Zj,Xn,Zn,Qv,cf,dZ,zAC,zAc,OY,OY.symm,wU,wU.symm,pf,pf.symm]) ?_);refine hK _ (.sl (σ++[ab.box (cV e cv)]++[ab.rows 7 [cV e cv]]).length 0 (l.length+cM.length+1) false) ⟨by simp,λk hk gC _=>?_,λk n h=>.inl ?_⟩ ?_ (.inr ⟨h0,c,rows.take l.length,rows.drop l.length,pf,rfl,?_,.inr ⟨?_,.inr ⟨by simp,(σ++[ab.box (cV e cv)]++[ab.rows 7 [cV e cv]]).length,rows++[cV e cv],by rw[j8];omega,by simp[zBQ],?_,by rw[←zAa];exact eU.snoc _ _ _ _ hR nu⟩,λn q=>?_⟩⟩)
  ·rw[Xc _ (by simp;omega) gC,Yf _ (by simp;omega),Yf _ (by simp;omega),Yf _ hk]
  ·cases h;rw[j8];omega
  ·exact Zq (zAb oD)
  ·rw[zCh,Xc _ (by simp;omega) pf];exact c3
  ·have:=hR.take l.length;rwa [zDL]at this
  ·rw[Xc _ (by simp) (by rw[j8];omega)];exact d3
  ·cases q;omega
theorem Qej{k:MK}{xs:List aa}{σ:List ab}{rb:Nat}{b:Bk}{s:St}{sd tg fu:Int}{mv lv:aa}{l:List Ev}(hr:aj σ rb=.box (dt b s sd tg lv fu mv))(hl:LV rb l lv σ){K:KT}
 (h:∀ τ,aj τ rb=.box (dt b s sd tg lv fu mv)→LX rb l lv [] lv τ→(∀ cB υ,Fr rb lv cB τ υ→Fr rb lv cB σ υ) →
   VV.call k xs τ (λv σ'=>∃ cM cB lA s' pe,Fr rb lv cB σ σ'∧aj σ' rb=.box (dt b s' sd tg cB pe lA)∧LX rb l lv cM cB σ'∧(∀ fD,Fr rb lv cB σ fD→aj fD rb=.box (dt b s' sd tg cB pe lA)→LV rb (l ++ cM) cB fD→K v fD))):VV.call k xs σ K:=by
 have done:∀(σ':List ab) (cM:List Ev) (cB lA:aa) (s':St) (pe:Int) (v:aa),Fr rb lv cB σ σ'→aj σ' rb=.box (dt b s' sd tg cB pe lA)→LX rb l lv cM cB σ'→(∀fD,Fr rb lv cB σ fD→aj fD rb=.box (dt b s' sd tg cB pe lA)→LV rb (l++cM) cB fD→K v fD) →
   ∃fD,(∀(w0:World) (L:Ln) (g':Gm) (w':World),bx aG w0 L g' (hp σ') w'→bx aG w0 L g' (hp fD) w')∧K v fD:=by
  intro σ' cM cB lA s' pe v hf jS hx hK;rcases hx with ⟨rfl,rfl,h3⟩|⟨h0,c,rows,rest,pf,h2,hc,h3⟩
  ·exact⟨σ',λ_ _ _ _ r=>r,hK _ hf jS h3⟩
  ·have uL:=Yb hc;have hrn:=Zb (x:=.rows 7 ((rows++rest).take rows.length)) jS (by simp) pf;refine⟨σ'.set c (.rows 7 ((rows++rest).take rows.length)),λw0 L g' w' r=>r.Kf hc _,hK _ ⟨by simpa using hf.len,λk hk gC zL=>?_,hf.new⟩ hrn ?_⟩
   ·have:k≠c:=λq=>zL l.length (by rw[h2,q]);have hlk:=hf.len;rw[Xc _ (by omega) this];exact hf.bT k hk gC zL
   ·rcases h3 with ⟨h3,hR⟩|⟨hR,h3,h4⟩
    ·refine .inr ⟨by simp[h0],c,rows,pf,by rw[h3];simp,?_,hR⟩;rw[Zd _ uL,zDL]
    ·rcases h3 with h3|⟨q0,d,rs,q1,q2,q3,q4⟩
     ·exact .inl h3
     ·refine .inr ⟨q0,d,rs,q1,q2,?_,q4⟩;have:d≠c:=λq=>h4 (l++cM).length (by rw[q2,q]);rw[Xc _ (Yb q3) this];exact q3
 have post:∀τ,VV.call k xs τ (λv σ'=>∃cM cB lA s' pe,Fr rb lv cB σ σ'∧aj σ' rb=.box (dt b s' sd tg cB pe lA)∧LX rb l lv cM cB σ'∧(∀fD,Fr rb lv cB σ fD→aj fD rb=.box (dt b s' sd tg cB pe lA)→LV rb (l++cM) cB fD→K v fD)) →
   VV.call k xs τ (λv σ'=>∃fD,(∀(w0:World) (L:Ln) (g':Gm) (w':World),bx aG w0 L g' (hp σ') w'→bx aG w0 L g' (hp fD) w')∧K v fD):=by
  intro τ hw;refine QcL hw λv σ' q=>?_;obtain⟨cM,cB,lA,s',pe,a1,a2,a3,a4⟩:=q;exact done σ' cM cB lA s' pe v a1 a2 a3 a4
 refine Qd3 λw0 L g w r=>?_;rcases hl with ⟨rfl,rfl⟩|⟨h0,c,rows,pf,rfl,hc,hR⟩
 ·exact⟨σ,r,post _ (h σ hr (.inl ⟨rfl,rfl,.inl ⟨rfl,rfl⟩⟩) λ_ _ q=>q)⟩
 ·have hlen:=hR.len;have kI:rows≠[]:=by intro q;rw[q]at hlen;exact h0 (zAW.1 (by simpa using hlen.symm))
  obtain⟨m,hm⟩:=r.Ad (j:=27) (ex:=false) hc kI hr (by rw[hlen];rfl);have uL:=Yb hc;refine⟨_,hm,post _ (h _ (Zb hr (by simp) pf) (.inr ⟨h0,c,rows,_,pf,rfl,Zd _ uL,.inl ⟨by simp,by simpa using hR⟩⟩) λcB υ q=>⟨by simpa using q.len,λk hk gC zL=>?_,by simpa using q.new⟩)⟩;have:k≠c:=λq=>zL l.length (by rw[q]);rw[q.bT k (by simpa using hk) gC zL,Xc _ hk this]
end Go.Ah.Tz
end
section
namespace Go.Ah.Tz
open Go.Proofs.Tryz (prog)
set_option maxRecDepth 100000
structure cY (b:Bk) (N C:Nat) (s:St):Prop where
 may:dz b s
 told:TB N s
 ai:Zm s<=C
theorem Yec{b:Bk}{s:St}(h:dz b s):bd 2000000 s:=by
 obtain⟨hd,h0,h1,_,ha⟩:=h;have side:∀x:Sd,ij b x→lO 2000000 x:=by
  intro x k;have k1:=(Xj.1 k.az).1;have k2:=(Xj.1 k.hand).1;have k3:=(Xj.1 k.al).1;have k4:=(Xj.1 k.told).1;have k5:=k.af;exact⟨by omega,by omega,by omega,by omega,by omega⟩
 refine⟨?_,side _ h0,side _ h1⟩;by_cases hp:s.phase=1
 ·have:=(ha.2 hp).2.1;omega
 ·rw[ha.1 hp];simp
theorem cY.le{b:Bk}{N C:Nat}{s:St}(h:cY b N C s):bd 2000000 s:=Yec h.may
theorem cY.rL{b:Bk}{N C:Nat}{s:St}(h:cY b N C s):bd 1000000000 s:=by
 have hs:=h.le;exact⟨by have:=hs.ao;omega,⟨by have:=hs.s0.az;omega,by have:=hs.s0.hand;omega,by have:=hs.s0.al;omega,by have:=hs.s0.af;omega,by have:=hs.s0.told;omega⟩,⟨by have:=hs.s1.az;omega,by have:=hs.s1.hand;omega,by have:=hs.s1.al;omega,by have:=hs.s1.af;omega,by have:=hs.s1.told;omega⟩⟩
theorem cY.mono{b:Bk}{N N' C C':Nat}{s:St}(h:cY b N C s)(h1:N<=N')(h2:C<=C'):cY b N' C' s:=⟨h.may,⟨zAY h.told.1 h1,zAY h.told.2 h1⟩,by have:=h.ai;omega⟩
theorem cY.draw{b:Bk}{N C:Nat}{s:St}(h:cY b N C s)(hN:N<1000000)(hC:C<1000000){k:Int}(h01:k=0∨k=1)(e:(aS s k).2.2=0):cY b (N+1) C (aS s k).1:=by
 obtain⟨hM,⟨t0,t1⟩,hc⟩:=h;have hg:s.s0.al.length<1000000∧s.s1.al.length<1000000:=by unfold Zm at hc;omega
 rcases h01 with rfl|rfl
 ·obtain⟨k1,k2⟩:=Xcm hM e hg.1 (by omega) (by omega);refine⟨k1,?_,by rw[k2];exact hc⟩;rcases Zbf s e with ⟨_,q⟩|⟨c,l,_,q⟩|⟨c,l,_,_,q⟩<;>rw[q]<;>refine⟨?_,?_⟩<;>simp<;>omega
 ·obtain⟨k1,k2⟩:=Qcm hM e hg.2 (by omega) (by omega);refine⟨k1,?_,by rw[k2];exact hc⟩;rcases Ybf s e with ⟨_,q⟩|⟨c,l,_,q⟩|⟨c,l,_,_,q⟩<;>rw[q]<;>refine⟨?_,?_⟩<;>simp<;>omega
def Qq(k:Int):Nat→St→Int×St×List Ev
 |0,s=>(0,s,[])
 |j+1,s=>if (aS s k).2.2=0 then ((Qq k j (aS s k).1).1,(Qq k j (aS s k).1).2.1,(aS s k).2.1::(Qq k j (aS s k).1).2.2)else ((aS s k).2.2,s,[])
def ja(s:St)(k n:Int):Int×St×List Ev:=
 if (Qq k (min (max n 0) 60).toNat s).1=0 then Qq k (min (max n 0) 60).toNat s else ((Qq k (min (max n 0) 60).toNat s).1,s,[])
theorem Yb2{b:Bk}{C:Nat}(hC:C<1000000){k:Int}(h01:k=0∨k=1):∀(j:Nat) {N:Nat} {s:St},cY b N C s→N+j<=1000000→cY b (N+j) C (Qq k j s).2.1
 |0,N,s,h,_=>h
 |j+1,N,s,h,hN=>by
  unfold Qq;split
  ·rename_i e;have:=Yb2 hC h01 j (h.draw (by omega) hC h01 e) (by omega)
   grind
  ·exact h.mono (by omega) (IT _)
theorem LV.tf{rb:Nat}{l:List Ev}{lv:aa}{σ:List ab}(h:LV rb l lv σ){k:Nat}{row:List aa}(hk:aj σ k=.box row)(n:Nat):lv≠.sl k 0 n false:=by
 rcases h with ⟨_,h⟩|⟨_,c,rows,_,h,hc,_⟩<;>grind
theorem Fr.back{rb:Nat}{lv cB:aa}{σ τ:List ab}(h:Fr rb lv cB σ τ):Fr rb lv lv σ τ:=⟨h.len,h.bT,λk n e=>.inr ⟨n,e⟩⟩
theorem Fr.get{rb:Nat}{lv cB:aa}{σ τ:List ab}(h:Fr rb lv cB σ τ){l:List Ev}(hl:LV rb l lv σ){k:Nat}{row:List aa}(hk:aj σ k=.box row)(hr:k≠rb):aj τ k=.box row:=by
 rw[h.bT k (Yb hk) hr (hl.tf hk)];exact hk
def YW(b:Bk)(s:St)(sd:Int)(name:Tx):Int×St×List Ev:=
 if Z0 b s sd (fZ 0 b.ai name).1=true then (0,s,[])else (0,ZB s sd (fZ 0 b.ai name).1,[⟨2,sd,(fZ 0 b.ai name).1,s.next,0,0,[]⟩])
theorem cY.DM{b:Bk}{N C:Nat}{s:St}(h:cY b N C s){sd:Int}(h01:sd=0∨sd=1)(name:Tx):cY b N (C+1) (YW b s sd name).2.1:=by
 unfold YW;split
 ·exact h.mono (IT _) (by omega)
 ·rename_i e;obtain⟨hM,ht,hc⟩:=h;rcases h01 with rfl|rfl
  ·obtain⟨k1,k2⟩:=Xb3 hM (by simpa using e);exact⟨k1,ht,by rw[k2];omega⟩
  ·obtain⟨k1,k2⟩:=Qb3 hM (by simpa using e);exact⟨k1,ht,by rw[k2];omega⟩
attribute [local irreducible] aF.rd aF.pu aF.wr aF.dr aF.gr aF.gw aF.gl aF.gd aF.opt cI W
set_option maxHeartbeats 4000000
theorem aB.aQ{h0:Hp}{rd:List Nat}{x:aa}:aB h0 rd x .aQ:=λ_ _ _ _ _ _ _ _ _ _ v _=>.aQ _ v
theorem bu.tk{h0:Hp}{rd:List Nat}{zs ws:List aa}(h:bu h0 rd zs ws):∀ {l:List aa},ga l=true→bu h0 rd (l++zs) (l++ws)
 |[],_=>h
 |x::l,hl=>by
  simp_all [bu.cons,aB.ro,bu.tk]
theorem c404(b:Bk)(s:St)(sd tg fu who:Int)(h01:sd=0∨sd=1):PC 127 [.aq (dt b s sd tg .aQ fu .aQ) 0,aN who] (iv (bG sd who)):=by
 refine Xa hP g127.ok rfl rfl ?_;rw[H2.e];unfold g127;dsimp only;refine Za (Ys ..) (Ya (λh=>?_) (λh=>?_))
 ·have h:who=1:=by simpa using h
  refine ax ?_;rw[zAZ _ (by omega),bG,aJ h]
 ·have h:who≠1:=by simpa using h
  refine ax ?_;rw[bG,aE h]
theorem Yee{σ:List ab}{rb:Nat}{b:Bk}{s:St}{sd tg fu:Int}{mv lv:aa}(hr:aj σ rb=.box (dt b s sd tg lv fu mv))(who:Int):bu (hp σ) [rb] [.ak rb 0,aN who] [.aq (dt b s sd tg .aQ fu .aQ) 0,aN who]:=by
 refine .cons (aB.box (ZQ hr) (by simp) ?_) (.cons (aB.ro rfl) .nil);refine bu.tk (l:=cy b) (bu.tk (l:=aI s) ?_ rfl) rfl;exact .cons (aB.ro rfl) <| .cons (aB.ro rfl) <| .cons aB.aQ <| .cons (aB.ro rfl) <| .cons aB.aQ .nil
theorem Fr.JF{rb:Nat}{lv hZ cB:aa}{l cM:List Ev}{σ τ:List ab}(h:Fr rb hZ cB σ τ)(hl:LX rb l lv cM hZ σ){k:Nat}{row:List aa}(hk:aj σ k=.box row)(hr:k≠rb):aj τ k=.box row:=by
 rw[h.bT k (Yb hk) hr (hl.tf hk)];exact hk
theorem Qen{σ:List ab}{rb:Nat}{b:Bk}{s:St}{sd tg fu:Int}{mv lv:aa}{l:List Ev}(hr:aj σ rb=.box (dt b s sd tg lv fu mv))(hl:LX rb l lv [] lv σ)(hn:l.length+60<=1000000000)(h01:sd=0∨sd=1)
 (hf:a_ b=true)(bY:Yg b.ai)(cN:(bz b).1=0){N C:Nat}(bQ:cY b N C s)(hN:N+60<=1000000)(hC:C<1000000)(x:Ef)(n:Int){K:KT}(hK:∀v σ' cB lA,Fr rb lv cB σ σ'→aj σ' rb=.box (dt b (ja s (bG sd x.who) n).2.1 sd tg cB fu lA)→v=iv (ja s (bG sd x.who) n).1→LX rb l lv (ja s (bG sd x.who) n).2.2 cB σ'→K v σ'):g83.u VV [.ak rb 0,.agg (bj x),iv n] σ K:=by
 have uV:=Yb hr;have a0:=du.jY σ (.box (bj x));have r0:=Qb [ab.box (bj x)] hr;have n0:=Yc σ (.box (bj x));have Lg:(σ++[ab.box (bj x)]).length=σ.length+1:=by simp
 have cO:σ.length≠rb:=by omega
 rw[H3.e];unfold g83;dsimp only;refine Yd (XM _ _) (Xe σ _) ?_;generalize σ++[ab.box (bj x)]=τ0 at *;refine Zi rfl (Zi rfl (Xf (v:=bZ s) (ld r0 rfl) (Zg _) (Zi rfl (Zi rfl (Xf (v:=lv) (ld r0 rfl) (Zg _) ?_)))));refine Xf (v:=.ak τ0.length 0) (rd:=[]) (up:=[(τ0.length,.box aZ)]) rfl (Xe τ0 _) ?_;have a1:=a0.jX (.box aZ);have r1:=Qb [ab.box aZ] r0;have n1:=Qb [ab.box aZ] n0;have z1:=Yc τ0 (.box aZ);have oM:(τ0++[ab.box aZ]).length=τ0.length+1:=by simp
 generalize τ0++[ab.box aZ]=τ1 at *;have KB:τ0.length≠rb:=by omega
 refine Xf (cX z1 rfl rfl rfl) (Ze _ (by omega)) (Zw (by simp[Zj,Xn,Zn,Qv,cf,dZ,zAC,zAc,KB,KB.symm]) ?_);have a2:=a1.df (b:=τ0.length) (by omega) (.box (aI s));have r2:=Zb (x:=.box (aI s)) r1 (by simp) KB;have n2:=Zb (x:=.box (aI s)) n1 (by simp) (c:=τ0.length) (by omega);have s2:aj (τ1.set τ0.length (.box (aI s))) τ0.length=.box (aI s):=Zd _ (by omega);have j8:(τ1.set τ0.length (ab.box (aI s))).length=τ1.length:=by simp
 generalize τ1.set τ0.length (ab.box (aI s))=τ2 at *;obtain⟨j,hj,aaw,ru⟩:∃j:Nat,min (max n 0) 60=j∧j<=60∧(min (max n 0) 60).toNat=j:=⟨(min (max n 0) 60).toNat,by omega,by omega,rfl⟩;refine ay ?_;rw[hj];unfold ja at hK;rw[ru]at hK;have hk:=Gn h01 x.who;generalize Ko:bG sd x.who=k at *;have dU:LX rb l lv [] lv τ2:=hl.fQ (λk hk _=>a2.2 k hk (by simp));refine Xg (ι:=Nat) (λi vs τ=>∃t cM hZ,vs=[iv i]∧i<=j∧Qq k j s=((Qq k (j-i) t).1,(Qq k (j-i) t).2.1,cM++(Qq k (j-i) t).2.2)∧cM.length=i∧cY b (N+i) C t∧Fr rb lv hZ σ τ∧aj τ rb=.box (dt b t sd tg hZ fu mv)∧LX rb l lv cM hZ τ∧aj τ τ0.length=.box (aI s)∧aj τ σ.length=.box (bj x))
  (λi=>j-i) 0 ⟨s,[],lv,rfl,by omega,rfl,rfl,bQ,a2.lift rb,r2,dU,s2,n2⟩ ?_
 rintro i vs τ again ⟨t,cM,hZ,rfl,hi,rq,fg,ht,sn,yz,b_,ir,Dr⟩ bn;have US:=Yb yz;have aaE:=Yb ir;have aaB:=Yb Dr;refine Za rfl (Ya (λh=>?_) (λh=>?_))
 ·have h:i<j:=by simpa using h
  refine Zi rfl (Zi rfl (Xf (v:=cC b) (ld yz rfl) (Zg _) (Zi rfl (Zi rfl (Xf (v:=bZ t) (ld yz rfl) (Zg _) (Zi rfl (Xf (ld Dr (n_ x)) (Zg _) ?_)))))));refine Gc (rd:=[rb]) (c404 b t sd tg fu x.who h01) rfl g127.ok.plain (Yee yz x.who) rfl ?_;rw[Ko];have c43:PC 36 [cC b,bZ t,iv k] (eA (aS t k)):=by
   rcases hk with rfl|rfl
   ·exact I4 b hf bY t ht.le (Xo.2 ⟨cN,ht.may⟩)
   ·exact I5 b hf bY t ht.le (Xo.2 ⟨cN,ht.may⟩)
  refine Y9 c43 g36.ok (Zi rfl (Zi rfl (Zi rfl ?_)));refine Xf (v:=.ak τ.length 0) (rd:=[]) (up:=[(τ.length,.box aZ)]) rfl (Xe τ _) ?_;have b1:=du.jY τ (.box aZ);have z3:=Yc τ (.box aZ);have DB:(τ++[ab.box aZ]).length=τ.length+1:=by simp
  generalize τ++[ab.box aZ]=τ3 at *;refine Xf (v:=.ak τ3.length 0) (rd:=[]) (up:=[(τ3.length,.box bX)]) rfl (Xe τ3 _) ?_;have b2:=b1.jX (.box bX);have z4:=Qb [ab.box bX] z3;have e4:=Yc τ3 (.box bX);have DC:(τ3++[ab.box bX]).length=τ3.length+1:=by simp
  generalize τ3++[ab.box bX]=τ4 at *;refine Xf (cX z4 rfl rfl rfl) (Ze _ (by omega)) ?_;have b3:=b2.df (b:=τ.length) (by omega) (.box (aI (aS t k).1));have s5:aj (τ4.set τ.length (.box (aI (aS t k).1))) τ.length=.box (aI (aS t k).1):=Zd _ (by omega);have e5:=Zb (x:=.box (aI (aS t k).1)) e4 (by simp) (c:=τ.length) (by omega);have Vo:(τ4.set τ.length (ab.box (aI (aS t k).1))).length=τ4.length:=by simp
  generalize τ4.set τ.length (ab.box (aI (aS t k).1))=τ5 at *;refine Xf (cX e5 rfl rfl rfl) (Ze _ (by omega)) ?_;have b4:=b3.df (b:=τ3.length) (by omega) (.box (dF (aS t k).2.1));have s6:=Zb (x:=.box (dF (aS t k).2.1)) s5 (by simp) (c:=τ3.length) (by omega);have e6:aj (τ5.set τ3.length (.box (dF (aS t k).2.1))) τ3.length=.box (dF (aS t k).2.1):=Zd _ (by omega);have Vp:(τ5.set τ3.length (ab.box (dF (aS t k).2.1))).length=τ5.length:=by simp
  generalize τ5.set τ3.length (ab.box (dF (aS t k).2.1))=τ6 at *;have q1:τ.length≠rb:=by omega
  have q2:τ3.length≠rb:=by omega
  have q3:τ.length≠σ.length:=by omega
  have q4:τ3.length≠σ.length:=by omega
  have q5:τ3.length≠τ.length:=by omega
  refine Zw (by simp[Zj,Xn,Zn,Qv,cf,dZ,zAC,zAc,q1,q2,q3,q4,q5,q1.symm,q2.symm,q3.symm,q4.symm,q5.symm]) ?_;have r6:=b4.get yz;have VT:=b4.get ir;have nt6:=b4.get Dr;have l6:LX rb l lv cM hZ τ6:=b_.fQ (λk hk _=>b4.2 k hk (by simp));have f6:Fr rb lv hZ σ τ6:=sn.trans (b4.lift rb);have qe:=Yb r6;have hd:Qq k (j-i) t=if (aS t k).2.2=0 then ((Qq k (j-(i+1)) (aS t k).1).1,(Qq k (j-(i+1)) (aS t k).1).2.1,(aS t k).2.1::(Qq k (j-(i+1)) (aS t k).1).2.2)else ((aS t k).2.2,t,[]):=by
   rw[show j-i=(j-(i+1))+1 from by omega];rfl
  refine Za (Z6 ..) (Ya (λh2=>?_) (λh2=>?_))
  ·have h2:(aS t k).2.2≠0:=by simpa using h2
   rw[aE h2]at hd;have sV:(Qq k j s).1=(aS t k).2.2:=by rw[rq,hd]
   refine Za (v:=bZ s) (ld VT rfl) (Za rfl (Za rfl (Yd (cX (row':=dt b s sd tg hZ fu mv) r6 rfl rfl rfl) (Ze _ qe) (Za rfl (Za rfl ?_)))));have r7:aj (τ6.set rb (.box (dt b s sd tg hZ fu mv))) rb=.box (dt b s sd tg hZ fu mv):=Zd _ qe;have gu:=hl.cells;refine Yd (cX (row':=dt b s sd tg lv fu mv) r7 gu rfl rfl) (Ze _ (by simpa using qe)) ?_;rw[zDA];exact hK _ _ lv mv ((f6.back).trans (Fr.set lv _)) (by rw[sV,aE h2];exact Zd _ qe) (by rw[sV,aE h2]) (by rw[sV,aE h2];exact(l6.fQ (λk hk gC=>Xc _ hk gC)).back)
  ·have h2:(aS t k).2.2=0:=by simpa using h2
   rw[aJ h2]at hd;refine Za (v:=bZ (aS t k).1) (ld s6 rfl) (Za rfl (Za rfl (Yd (cX (row':=dt b (aS t k).1 sd tg hZ fu mv) r6 rfl rfl rfl) (Ze _ qe) (Za (v:=wa (aS t k).2.1) (ld (Zb e6 (by simp) (by omega)) rfl) ?_))));refine Qd hP (f:=126) rfl g126.ok rfl ?_;have l7:LX rb l lv cM hZ (τ6.set rb (.box (dt b (aS t k).1 sd tg hZ fu mv))):=l6.fQ (λk hk gC=>Xc _ hk gC);refine LI (Zd _ qe) l7 (by simp[fg];omega) (aS t k).2.1 _ (.inl rfl) (λσ' cB p1 p2 p3=>?_);refine Za (Qj ..) ?_;rw[Qc (n:=i) (by omega)];refine bn (i+1) _ _ (by omega) ⟨(aS t k).1,cM++[(aS t k).2.1],cB,rfl,by omega,by rw[rq,hd];simp,by simp[fg],?_,(f6.trans (Fr.set hZ _)).trans p1,p2,p3,?_,?_⟩
   ·exact ht.draw (by omega) hC hk h2
   ·exact p1.JF l7 (Zb VT (by simp) KB.symm) KB
   ·exact p1.JF l7 (Zb nt6 (by simp) cO.symm) cO
 ·have h:i=j:=by simp at h;omega
  subst h;rw[Nat.sub_self]at rq;have rq:Qq k i s=(0,t,cM):=by rw[rq];simp[Qq]
  exact hK _ _ hZ mv sn (by rw[rq];exact yz) (by rw[rq];rfl) (by rw[rq];exact b_)
theorem Yen{k:MK}{xs:List aa}{σ:List ab}{rb:Nat}{b:Bk}{s:St}{sd tg fu:Int}{mv lv:aa}{l:List Ev}(hr:aj σ rb=.box (dt b s sd tg lv fu mv))(hl:LV rb l lv σ)(hn:l.length+60<=1000000000)(h01:sd=0∨sd=1)
 (hf:a_ b=true)(bY:Yg b.ai)(cN:(bz b).1=0){N C:Nat}(bQ:cY b N C s)(hN:N+60<=1000000)(hC:C<1000000)(x:Ef)(n:Int)(hc:Zt k xs=some (83,[.ak rb 0,.agg (bj x),iv n])){K:KT}(hK:∀v σ',Dn rb b sd tg fu l lv σ (ja s (bG sd x.who) n) v σ'→K v σ'):VV.call k xs σ K:=
 Qej hr hl λ_ jS hx sn=>Qd hP hc g83.ok rfl (Qen jS hx hn h01 hf bY cN bQ hN hC x n (λv σ' cB lA p1 p2 p3 p4=>⟨_,cB,lA,_,fu,sn cB σ' p1,p2,p4,λfD q1 q2 q3=>hK v fD ⟨cB,lA,q1,q2,p3,q3⟩⟩))
theorem Yb3(b:Bk)(s:St)(k c:Int):∃st ev q,tK b s k c=oS st ev (.bool q)∧((q=false∧Z0 b s k c=true)∨(q=true∧Z0 b s k c=false∧st=ZB s k c∧ev=⟨2,k,c,s.next,0,0,[]⟩)):=by
 unfold tK;by_cases h:Z0 b s k c=true
 ·rw[aJ h];exact⟨_,_,_,rfl,.inl ⟨rfl,h⟩⟩
 ·rw[aE h];exact⟨_,_,_,rfl,.inr ⟨rfl,by simpa using h,rfl,rfl⟩⟩
theorem YdV{σ:List ab}{rb:Nat}{b:Bk}{s:St}{sd tg fu:Int}{mv lv:aa}{l:List Ev}(hr:aj σ rb=.box (dt b s sd tg lv fu mv))(hl:LV rb l lv σ)(hn:l.length<=1000000000)(h01:sd=0∨sd=1)
 (hf:a_ b=true)(bY:Yg b.ai)(cN:(bz b).1=0){N C:Nat}(bQ:cY b N C s)(jg:b.ai.length<=gn)(x:Ef)(n:Int){K:KT}(hK:∀v σ',Dn rb b sd tg fu l lv σ (YW b s sd x.name) v σ'→K v σ'):g88.u VV [.ak rb 0,.agg (bj x),iv n] σ K:=by
 have uV:=Yb hr;have a0:=du.jY σ (.box (bj x));have r0:=Qb [ab.box (bj x)] hr;have n0:=Yc σ (.box (bj x));have Lg:(σ++[ab.box (bj x)]).length=σ.length+1:=by simp
 rw[H3.e];unfold g88;dsimp only;refine Yd (XM _ _) (Xe σ _) ?_;generalize σ++[ab.box (bj x)]=τ at *;refine Za rfl (Za rfl (Za (v:=cC b) (ld r0 rfl) (Za rfl (Za (v:=.str x.name) (ld n0 (by rw[Zr];rfl)) ?_))));refine aY (c224 b jg x.name) g130.ok (Za rfl (Za rfl ?_));unfold YW at hK;generalize (fZ 0 b.ai x.name).1=c at hK ⊢;refine Zi rfl (Zi rfl (Xf (v:=cC b) (ld r0 rfl) (Zg _) (Zi rfl (Zi rfl (Xf (v:=bZ s) (ld r0 rfl) (Zg _) (Zi rfl (Zi rfl (Zi rfl (Xf (v:=iv sd) (ld r0 rfl) (Zg _) ?_)))))))));have c46:PC 131 [cC b,bZ s,iv sd,iv c] (tK b s sd c):=by
  rcases h01 with rfl|rfl
  ·exact I6 b hf bY s bQ.le (Xo.2 ⟨cN,bQ.may⟩) c
  ·exact I7 b hf bY s bQ.le (Xo.2 ⟨cN,bQ.may⟩) c
 obtain⟨st,ev,q,he,hq⟩:=Yb3 b s sd c;rw[he]at c46;refine Y9 c46 g131.ok (Zi rfl (Zi rfl (Zi rfl ?_)));refine Xf (v:=.ak τ.length 0) (rd:=[]) (up:=[(τ.length,.box aZ)]) rfl (Xe τ _) ?_;have b1:=a0.jX (.box aZ);have b1':=du.jY τ (.box aZ);have z3:=Yc τ (.box aZ);have DB:(τ++[ab.box aZ]).length=τ.length+1:=by simp
 generalize τ++[ab.box aZ]=τ3 at *;refine Xf (v:=.ak τ3.length 0) (rd:=[]) (up:=[(τ3.length,.box bX)]) rfl (Xe τ3 _) ?_;have b2:=b1.jX (.box bX);have b2':=b1'.jX (.box bX);have z4:=Qb [ab.box bX] z3;have e4:=Yc τ3 (.box bX);have DC:(τ3++[ab.box bX]).length=τ3.length+1:=by simp
 generalize τ3++[ab.box bX]=τ4 at *;refine Xf (cX z4 rfl rfl rfl) (Ze _ (by omega)) ?_;have b3:=b2.df (b:=τ.length) (by omega) (.box (aI st));have b3':=b2'.df (b:=τ.length) (by omega) (.box (aI st));have s5:aj (τ4.set τ.length (.box (aI st))) τ.length=.box (aI st):=Zd _ (by omega);have e5:=Zb (x:=.box (aI st)) e4 (by simp) (c:=τ.length) (by omega);have Vo:(τ4.set τ.length (ab.box (aI st))).length=τ4.length:=by simp
 generalize τ4.set τ.length (ab.box (aI st))=τ5 at *;refine Xf (cX e5 rfl rfl rfl) (Ze _ (by omega)) ?_;have b4:=b3.df (b:=τ3.length) (by omega) (.box (dF ev));have b4':=b3'.df (b:=τ3.length) (by omega) (.box (dF ev));have s6:=Zb (x:=.box (dF ev)) s5 (by simp) (c:=τ3.length) (by omega);have e6:aj (τ5.set τ3.length (.box (dF ev))) τ3.length=.box (dF ev):=Zd _ (by omega);have Vp:(τ5.set τ3.length (ab.box (dF ev))).length=τ5.length:=by simp
 generalize τ5.set τ3.length (ab.box (dF ev))=τ6 at *;have q1:τ.length≠rb:=by omega
 have q2:τ3.length≠rb:=by omega
 have q3:τ.length≠σ.length:=by omega
 have q4:τ3.length≠σ.length:=by omega
 have q5:τ3.length≠τ.length:=by omega
 refine Zw (by simp[Zj,Xn,Zn,Qv,cf,dZ,zAC,zAc,q1,q2,q3,q4,q5,q1.symm,q2.symm,q3.symm,q4.symm,q5.symm]) ?_;have r6:=b4'.get r0;have l6:LV rb l lv τ6:=hl.fQ (λk hk _=>b4.2 k hk (by simp));have f6:Fr rb lv lv σ τ6:=b4.lift rb;have qe:=Yb r6;rcases hq with ⟨rfl,hq⟩|⟨rfl,hq,rfl,rfl⟩
 ·exact Ye (hK _ _ ⟨lv,mv,f6,by rw[aJ hq];exact r6,by rw[aJ hq],by rw[aJ hq];simpa using l6⟩)
 ·rw[aE (by simp[hq])]at hK;refine Yh (Za (v:=bZ (ZB s sd c)) (ld s6 rfl) (Za rfl (Za rfl (Yd (cX (row':=dt b (ZB s sd c) sd tg lv fu mv) r6 rfl rfl rfl) (Ze _ qe) (Za (v:=wa ⟨2,sd,c,s.next,0,0,[]⟩) (ld (Zb e6 (by simp) (by omega)) rfl) ?_)))));refine Qd hP (f:=126) rfl g126.ok rfl (vh (Zd _ qe) (l6.fQ (λk hk gC=>Xc _ hk gC)) hn _ _ (.inl rfl) (λσ' cB p1 p2 p3=>?_));exact hK _ _ ⟨cB,mv,(f6.trans (Fr.set lv _)).trans p1,p2,rfl,p3⟩
def iY(b:Bk)(s:St)(sd tg op who:Int)(name:Tx)(n:Int):Int×St×List Ev:=
 if op=0∨op=1 then fX b s sd tg op who n else if op=2 then ja s (bG sd who) n else if op=3 then eh s sd n
 else if op=4 then cU s (bG sd who)else if op=5 then gy s sd n else if op=6 then mn s (bG sd who)else YW b s sd name
def fy(op:Int):Int:=if op=5 then 0 else 1
mutual
def cm (b:Bk) (sd tg:Int):Ef→St→Int→Int×St×Int×List Ev
 |.mk op who n name c bP bS,s,fu=>
  if op=8 then (if (uB b c&&dQ b s sd tg c)=true then runs b sd tg bP s fu else runs b sd tg bS s fu)
  else if fu<fy op then (190,s,fu,[])
  else ((iY b s sd tg op who name (dO b s sd tg n)).1,(iY b s sd tg op who name (dO b s sd tg n)).2.1,
   (if (iY b s sd tg op who name (dO b s sd tg n)).1=0 then fu - fy op else fu),(iY b s sd tg op who name (dO b s sd tg n)).2.2)
def runs (b:Bk) (sd tg:Int):List Ef→St→Int→Int×St×Int×List Ev
 |[],s,fu=>(0,s,fu,[])
 |x::l,s,fu=>
  if (cm b sd tg x s fu).1=0 then
   ((runs b sd tg l (cm b sd tg x s fu).2.1 (cm b sd tg x s fu).2.2.1).1,(runs b sd tg l (cm b sd tg x s fu).2.1 (cm b sd tg x s fu).2.2.1).2.1,
    (runs b sd tg l (cm b sd tg x s fu).2.1 (cm b sd tg x s fu).2.2.1).2.2.1,(cm b sd tg x s fu).2.2.2 ++ (runs b sd tg l (cm b sd tg x s fu).2.1 (cm b sd tg x s fu).2.2.1).2.2.2)
  else cm b sd tg x s fu
end
theorem NC(b:Bk)(sd tg:Int)(x:Ef)(s:St)(fu:Int):cm b sd tg x s fu =
  if x.op=8 then (if (uB b x.c&&dQ b s sd tg x.c)=true then runs b sd tg x.bP s fu else runs b sd tg x.bS s fu)
  else if fu<fy x.op then (190,s,fu,[])
  else ((iY b s sd tg x.op x.who x.name (dO b s sd tg x.n)).1,(iY b s sd tg x.op x.who x.name (dO b s sd tg x.n)).2.1,
   (if (iY b s sd tg x.op x.who x.name (dO b s sd tg x.n)).1=0 then fu - fy x.op else fu),(iY b s sd tg x.op x.who x.name (dO b s sd tg x.n)).2.2):=by
 cases x;rw[cm];rfl
theorem Xcx{kd:Int}{fP:Int→Int×Int}{fU:Th→Int×Int}{s:St}{id k:Int}{N:Nat}(h:TB N s)(h01:k=0∨k=1)(e:(fY kd fP fU s id k).2.2=0):TB N (fY kd fP fU s id k).1:=by
 have z:∀(x:Int),x≠0→(iz,jm,x).2.2=0→False:=λx hx h=>hx h;unfold fY at e ⊢;by_cases gP:id=0
 ·rw[aJ gP]at e ⊢;unfold ni at e ⊢;split at e
  ·rename_i hw;rw[aJ hw];rcases h01 with rfl|rfl<;>exact h
  ·exact(z 171 (by decide) e).elim
 rw[aE gP]at e ⊢;by_cases oC:id<0
 ·simp_all
 rw[aE oC]at e ⊢;cases q0:gB s.s0.af id with
 |some i=>
  rw[q0]at e;simp only at e ⊢;unfold jH at e ⊢;split at e
  ·rename_i hw;rw[aJ hw];exact h
  ·exact(z 171 (by decide) e).elim
 |none=>
  rw[q0]at e;simp only at e ⊢;cases q1:gB s.s1.af id with
  |some i=>
   rw[q1]at e;simp only at e ⊢;unfold jH at e ⊢;split at e
   ·rename_i hw;rw[aJ hw];exact h
   ·exact(z 171 (by decide) e).elim
  |none=>simp_all
theorem cY.mv{b:Bk}{N C:Nat}{s:St}(h:cY b N C s){op id k n:Int}(h01:k=0∨k=1)(e:(oO op b s id k n).2.2=0):cY b N C (oO op b s id k n).1:=by
 unfold oO at e ⊢;split at e
 ·rename_i q;rw[aJ q];obtain⟨k1,k2,_⟩:=XcR h.may h01 e;exact⟨k1,Xcx h.told h01 e,by rw[k2];exact h.ai⟩
 ·rename_i q;rw[aE q];obtain⟨k1,k2,_⟩:=ZcR h.may h01 e;exact⟨k1,Xcx h.told h01 e,by rw[k2];exact h.ai⟩
theorem cY.oK{b:Bk}{N C:Nat}{s:St}(h:cY b N C s){sd:Int}(h01:sd=0∨sd=1)(tg op who n:Int):cY b N C (fX b s sd tg op who n).2.1:=by
 unfold fX;split
 ·rename_i q;split
  ·rename_i e;exact h.mv (SM h01 q.1).1 e
  ·exact h
 ·exact h
theorem Zck{n:Nat}{l l':List Int}{most most':Int}(h:Qo n l most=true)(hl:∀c∈l',c∈l)(hm:(l'.length:Int)<=most'):Qo n l' most'=true:=by
 simp_all [Xj]
theorem Qcj{n:Nat}{l m:List Int}{most most':Int}(h:Qo n l most=true)(k:Qo n m most'=true)(hm:((l.length+m.length:Nat):Int)<=most):Qo n (l++m) most=true:=by
 grind [Xj]
theorem ij.tell{b:Bk}{x:Sd}(h:ij b x){m:List Int}{most:Int}(hm:Qo b.ai.length m most=true)(hl:x.told.length+m.length<=1000000):ij b { x with told:=x.told++m }:=
 ⟨h.aV,h.aT,h.most,h.az,h.hand,h.al,Qcj h.told hm (by omega),h.af⟩
theorem cY.iP{b:Bk}{N C:Nat}{s:St}(h:cY b N C s){m:List Int}{most:Int}(hm:Qo b.ai.length m most=true)(hl:N+m.length<=1000000){i:Int}(h01:i=0∨i=1):cY b (N+m.length) C (Tz.iP m s i):=by
 obtain⟨hM,ht,hc⟩:=h;have ht':=ht.tell m h01;obtain⟨t0,t1⟩:=ht;rcases h01 with rfl|rfl
 ·exact⟨⟨hM.hd,hM.s0.tell hm (by omega),hM.s1,hM.un,hM.at_⟩,ht',hc⟩
 ·exact⟨⟨hM.hd,hM.s0,hM.s1.tell hm (by omega),hM.un,hM.at_⟩,ht',hc⟩
theorem cY.tC{b:Bk}{N C:Nat}{s:St}(h:cY b N C s){m:List Int}{most:Int}(hm:Qo b.ai.length m most=true)(hl:N+(m.length+m.length)<=1000000):cY b (N+(m.length+m.length)) C (dh s m [0,1]):=by
 have:=(h.iP hm (by omega) (i:=0) (.inl rfl)).iP hm (by omega) (i:=1) (.inr rfl);rw[zBQ]at this;exact this
theorem cY.TG{b:Bk}{N C:Nat}{s:St}(h:cY b N C s){sd:Int}(h01:sd=0∨sd=1)(n:Int):cY b N C (eh s sd n).2.1:=by
 unfold eh;split
 ·exact h
 split
 ·exact h
 ·rename_i q1 q2;obtain⟨hM,ht,hc⟩:=h;rcases h01 with rfl|rfl
  ·have:=hM.s0.aT;have hw:=ZU.1 this.2;have q2:¬1000000<s.s0.aT+n:=q2;exact⟨⟨hM.hd,⟨hM.s0.aV,⟨by show 0<=s.s0.aT+n;omega,ZU.2 ⟨by show -1000000<=s.s0.aT+n;omega,by show s.s0.aT+n<=1000000;omega⟩⟩,hM.s0.most,hM.s0.az,hM.s0.hand,hM.s0.al,hM.s0.told,hM.s0.af⟩,hM.s1,hM.un,hM.at_⟩,ht,hc⟩
  ·have:=hM.s1.aT;have hw:=ZU.1 this.2;have q2:¬1000000<s.s1.aT+n:=q2;exact⟨⟨hM.hd,hM.s0,⟨hM.s1.aV,⟨by show 0<=s.s1.aT+n;omega,ZU.2 ⟨by show -1000000<=s.s1.aT+n;omega,by show s.s1.aT+n<=1000000;omega⟩⟩,hM.s1.most,hM.s1.az,hM.s1.hand,hM.s1.al,hM.s1.told,hM.s1.af⟩,hM.un,hM.at_⟩,ht,hc⟩
theorem cY.drop{b:Bk}{N C:Nat}{s:St}(h:cY b N C s)(hN:N+2<=1000000)(hC:C<1000000){i:Int}(h01:i=0∨i=1):cY b (N+2) C (cU s i).2.1:=by
 unfold cU;obtain⟨hM,ht,hc⟩:=h;have hg:s.s0.al.length<1000000∧s.s1.al.length<1000000:=by unfold Zm at hc;omega
 rcases h01 with rfl|rfl
 ·show cY b (N+2) C (match s.s0.hand with | []=>_|c::h=>_:Int×St×List Ev).2.1;cases hh:s.s0.hand with
  |nil=>exact cY.mono ⟨hM,ht,hc⟩ (by omega) (IT _)
  |cons c r=>
   have hx:=hM.s0.hand;rw[hh]at hx;obtain⟨x1,x2⟩:=ZR hx;refine cY.tC (N:=N) (m:=[c]) (most:=1) (s:=s.put 0 { s.s0 with hand:=r,al:=s.s0.al++[c] }) ⟨⟨hM.hd,⟨hM.s0.aV,hM.s0.aT,hM.s0.most,hM.s0.az,x1,Xr hM.s0.al x2 (by omega),hM.s0.told,hM.s0.af⟩,hM.s1,hM.un,hM.at_⟩,ht,?_⟩ ?_ (by simpa using hN)
   ·have:Zm (s.put 0 { s.s0 with hand:=r,al:=s.s0.al++[c] })=Zm s:=by simp[Zm,St.put,hh];omega
    rw[this];exact hc
   ·rw[Xj];simpa using x2
 ·show cY b (N+2) C (match s.s1.hand with | []=>_|c::h=>_:Int×St×List Ev).2.1;cases hh:s.s1.hand with
  |nil=>exact cY.mono ⟨hM,ht,hc⟩ (by omega) (IT _)
  |cons c r=>
   have hx:=hM.s1.hand;rw[hh]at hx;obtain⟨x1,x2⟩:=ZR hx;refine cY.tC (N:=N) (m:=[c]) (most:=1) (s:=s.put 1 { s.s1 with hand:=r,al:=s.s1.al++[c] }) ⟨⟨hM.hd,hM.s0,⟨hM.s1.aV,hM.s1.aT,hM.s1.most,hM.s1.az,x1,Xr hM.s1.al x2 (by omega),hM.s1.told,hM.s1.af⟩,hM.un,hM.at_⟩,ht,?_⟩ ?_ (by simpa using hN)
   ·have:Zm (s.put 1 { s.s1 with hand:=r,al:=s.s1.al++[c] })=Zm s:=by simp[Zm,St.put,hh];omega
    rw[this];exact hc
   ·rw[Xj];simpa using x2
theorem cY.rows{b:Bk}{N C:Nat}{s:St}(h:cY b N C s){i:Int}(h01:i=0∨i=1):Qo b.ai.length (s.side i).az 60=true∧Qo b.ai.length (s.side i).hand 10=true:=by
 rcases h01 with rfl|rfl
 ·exact⟨h.may.s0.az,h.may.s0.hand⟩
 ·exact⟨h.may.s1.az,h.may.s1.hand⟩
theorem cY.look{b:Bk}{N C:Nat}{s:St}(h:cY b N C s)(hN:N+60<=1000000){sd:Int}(h01:sd=0∨sd=1)(n:Int):cY b (N+60) C (gy s sd n).2.1:=by
 unfold gy;have hd:=(h.rows h01).1;generalize gu:(s.side sd).az.take (min (max n 0) (s.side sd).az.length).toNat=cs;have oJ:∀c∈cs,c∈(s.side sd).az:=λc hc=>by grind
 have hl:cs.length<=60:=by
  have:=(Xj.1 hd).1
  grind
 cases cs with
 |nil=>exact h.mono (by omega) (IT _)
 |cons c cs=>exact(h.iP (m:=c::cs) (Zck (most':=60) hd oJ (by omega)) (by omega) h01).mono (by omega) (IT _)
theorem cY.LN{b:Bk}{N C:Nat}{s:St}(h:cY b N C s)(hN:N+60<=1000000){i:Int}(h01:i=0∨i=1):cY b (N+60) C (mn s i).2.1:=by
 have hd:=(h.rows h01).2;have:=(Xj.1 hd).1;exact(h.tC hd (by omega)).mono (by omega) (IT _)
theorem YbA(k:Int):∀(j:Nat) (s:St),(Qq k j s).2.2.length<=j
 |0,s=>by simp[Qq]
 |j+1,s=>by
  unfold Qq;split
  ·have:=YbA k j (aS s k).1;simp;omega
  ·simp
theorem Yex{b:Bk}{N C:Nat}{s:St}(h:cY b N C s)(hN:N+60<=1000000)(hC:C<1000000){sd:Int}(h01:sd=0∨sd=1)(tg op who:Int)(name:Tx)(n:Int) :
  cY b (N+60) (C+1) (iY b s sd tg op who name n).2.1∧(iY b s sd tg op who name n).2.2.length<=60:=by
 have hw:=Gn h01 who;unfold iY;split
 ·refine⟨(h.oK h01 tg op who n).mono (by omega) (by omega),?_⟩
  grind [fX]
 split
 ·have hj:(min (max n 0) 60).toNat<=60:=by omega
  have:=YbA (bG sd who) (min (max n 0) 60).toNat s;unfold ja;split
  ·exact⟨(Yb2 hC hw _ h (by omega)).mono (by omega) (by omega),by omega⟩
  ·exact⟨h.mono (by omega) (by omega),by simp⟩
 split
 ·refine⟨(h.TG h01 n).mono (by omega) (by omega),?_⟩
  grind [eh]
 split
 ·refine⟨(h.drop (by omega) hC hw).mono (by omega) (by omega),?_⟩;unfold cU;split<;>simp
 split
 ·refine⟨(h.look (by omega) h01 n).mono (by omega) (by omega),?_⟩;unfold gy;split<;>simp
 split
 ·exact⟨(h.LN (by omega) hw).mono (by omega) (by omega),by simp[mn]⟩
 ·refine⟨(h.DM h01 name).mono (by omega) (IT _),?_⟩;unfold YW;split<;>simp
mutual
theorem MX {b:Bk} {sd tg:Int} (h01:sd=0∨sd=1):∀(x:Ef) {N C:Nat} {s:St} (fu:Int),cY b N C s→N+60*(iA x).length<=1000000→C+(iA x).length<=1000000 →
  cY b (N+60*(iA x).length) (C+(iA x).length) (cm b sd tg x s fu).2.1∧(cm b sd tg x s fu).2.2.2.length<=60*(iA x).length
 |.mk op who n name c bP bS,N,C,s,fu,h,hN,hC=>by
  rw[cm]
  have h1:1<=(iA (.mk op who n name c bP bS)).length:=by simp[iA]
  split
  ·rename_i h8
   have hl:(bw bP).length+(bw bS).length<=(iA (.mk op who n name c bP bS)).length:=by simp[iA,h8];omega
   split
   ·obtain⟨q1,q2⟩:=AP h01 bP fu h (by omega) (by omega)
    exact⟨q1.mono (by omega) (by omega),by omega⟩
   ·obtain⟨q1,q2⟩:=AP h01 bS fu h (by omega) (by omega)
    exact⟨q1.mono (by omega) (by omega),by omega⟩
  split
  ·exact⟨h.mono (by omega) (by omega),by simp⟩
  ·obtain⟨q1,q2⟩:=Yex h (by omega) (by omega) h01 tg op who name (dO b s sd tg n)
   exact⟨q1.mono (by omega) (by omega),zAY q2 (by omega)⟩
theorem AP {b:Bk} {sd tg:Int} (h01:sd=0∨sd=1):∀(l:List Ef) {N C:Nat} {s:St} (fu:Int),cY b N C s→N+60*(bw l).length<=1000000→C+(bw l).length<=1000000 →
  cY b (N+60*(bw l).length) (C+(bw l).length) (runs b sd tg l s fu).2.1∧(runs b sd tg l s fu).2.2.2.length<=60*(bw l).length
 |[],N,C,s,fu,h,hN,hC=>by rw[runs];exact⟨h.mono (by omega) (by omega),by simp⟩
 |x::l,N,C,s,fu,h,hN,hC=>by
  rw[runs]
  have hl:(bw (x::l)).length=(iA x).length+(bw l).length:=by simp[bw]
  obtain⟨q1,q2⟩:=MX h01 x fu h (by omega) (by omega)
  split
  ·obtain⟨p1,p2⟩:=AP h01 l (cm b sd tg x s fu).2.2.1 q1 (by omega) (by omega)
   refine⟨p1.mono (by omega) (by omega),?_⟩
   simp only[By];omega
  ·exact⟨q1.mono (by omega) (by omega),by omega⟩
end
mutual
theorem Rg (b:Bk) (sd tg:Int):∀(x:Ef) (s:St) (fu:Int),0<=fu→0<=(cm b sd tg x s fu).2.2.1∧(cm b sd tg x s fu).2.2.1<=fu
 |.mk op who n name c bP bS,s,fu,h=>by
  rw[cm]
  split
  ·split<;>simp_all [Ge]
  grind [fy]
theorem Ge (b:Bk) (sd tg:Int):∀(l:List Ef) (s:St) (fu:Int),0<=fu→0<=(runs b sd tg l s fu).2.2.1∧(runs b sd tg l s fu).2.2.1<=fu
 |[],s,fu,h=>by rw[runs];exact⟨h,zBK _⟩
 |x::l,s,fu,h=>by
  have h1:=Rg b sd tg x s fu h
  rw[runs]
  split
  ·have h2:=Ge b sd tg l (cm b sd tg x s fu).2.1 (cm b sd tg x s fu).2.2.1 h1.1
   grind
  ·exact h1
end
theorem Zd0{b:Bk}{s:St}(h:dz b s):MH b s:=by
 have go:∀x:Sd,ij b x→∀c,c∈x.az∨c∈x.hand→0<=c∧c.toNat<b.ai.length:=by
  intro x k c hc;have:0<=c∧c<(b.ai.length:Int):=by
   rcases hc with hc|hc
   ·exact(Xj.1 k.az).2 c hc
   ·exact(Xj.1 k.hand).2 c hc
  omega
 intro k c hc;unfold iN at hc;split at hc
 ·exact go _ h.s0 c hc
 ·exact go _ h.s1 c hc
theorem YdP{n:Nm}(h:el n=true):eP true n=true∧mi n<=200:=by
 simp only[el,AI,fE]at h;obtain⟨h1,h2,h3,h4⟩:=h;have h4:=zAW.1 h4;constructor
 ·rw[NB,h1,h2,h3,h4];rfl
 ·have:(qI n).length=1:=by cases n;simp_all [Nm.kids,qI,oP]
  rw[It,this];decide
theorem ZcB{cs:List Cd}{d:Int}{x:Ef}(h:mH cs true d x=true)(h8:x.op≠8)(hp:(iA x).length<=200):eP true x.n=true∧mi x.n<=200:=by
 rw[ye,aE h8]at h;simp only[AI]at h;obtain⟨_,_,_,_,_,h,_⟩:=h;by_cases hc:cq x.op=true
 ·rw[aJ hc]at h;refine⟨h,?_⟩;have:(qI x.n).length<=(iA x).length:=by
   cases x<;>simp_all [Ef.op,iA,Ef.n]
  rw[It];omega
 simp_all [YdP]
theorem Ydi{cs:List Cd}{d:Int}{x:Ef}(h:mH cs true d x=true)(h8:x.op=8):bU cs true (d+1) x.bP=true∧bU cs true (d+1) x.bS=true:=by
 simp_all [bD,ye]
theorem RX{cs:List Cd}{t:Bool}{d:Int}:∀ {l:List Ef},bU cs t d l=true→∀x∈l,mH cs t d x=true
 |a::l,h,x,hx=>by
  simp only[bU,AI]at h;simp only[zAR]at hx;rcases hx with rfl|hx
  ·exact h.1
  ·exact RX h.2 x hx
def MF(rb:Nat)(b:Bk)(sd tg:Int)(l:List Ev)(lv:aa)(σ:List ab)(r:Int×St×Int×List Ev)(v:aa)(σ':List ab):Prop:=
 ∃cB lA,Fr rb lv cB σ σ'∧aj σ' rb=.box (dt b r.2.1 sd tg cB r.2.2.1 lA)∧v=iv r.1∧LV rb (l++r.2.2.2) cB σ'
@[reducible] def qU(rb:Nat):List aa:=[.func (.func 82) [.ak rb 0] [],.func (.func 82) [.ak rb 0] [],.func (.func 83) [.ak rb 0] [],.func (.func 84) [.ak rb 0] [],.func (.func 85) [.ak rb 0] [],.func (.func 86) [.ak rb 0] [],.func (.func 87) [.ak rb 0] [],.func (.func 88) [.ak rb 0] []]
def yR(b:Bk)(zr:List Cd)(sd tg:Int)(l:List Ef):Prop:=∀(σ:List ab) (rb:Nat) (s:St) (fu:Int) (mv lv:aa) (cM:List Ev) (N C:Nat) (d:Int) (K:KT),
 aj σ rb=.box (dt b s sd tg lv fu mv)→LV rb cM lv σ→bE l=true→bU zr true d l=true→(bw l).length<=200→cY b N C s→N+60*(bw l).length<=1000000→C+(bw l).length<=1000000 →
 cM.length+60*(bw l).length<=1000000→0<=fu→fu<=1000→(∀v σ',MF rb b sd tg cM lv σ (runs b sd tg l s fu) v σ'→K v σ')→g47.u VV [.ak rb 0,gY l] σ K
set_option maxHeartbeats 8000000
theorem WJ(b:Bk)(zr:List Cd)(sd tg:Int)(h01:sd=0∨sd=1)(hf:a_ b=true)(bY:Yg b.ai)(cN:(bz b).1=0)(m:Nat)(IH:∀l:List Ef,(bw l).length<m→yR b zr sd tg l):∀l:List Ef,(bw l).length<=m→yR b zr sd tg l:=by
 intro l hlm σ rb s fu mv lv cM N C d K hr hl dB bQ hW hS hN hC hE wB uO hK;have uV:=Yb hr;have hlen:=YF dB;rw[cZ]at hlen;have jg:b.ai.length<=gn:=by
  simp only[a_,ZG,AI,fE]at hf;exact hf.1.1
 rw[H2.e];unfold g47;dsimp only;refine Za rfl (Za rfl (Za rfl (Za rfl (Za rfl (Za rfl (Za rfl (Za rfl (Za (v:=.agg (qU rb)) rfl ?_))))))));refine Yd (v:=.ak σ.length 0) (rd:=[]) (up:=[(σ.length,.box [.bH,.bH,.bH,.bH,.bH,.bH,.bH,.bH])]) rfl (Xe σ _) ?_;have a1:=du.jY σ (.box [.bH,.bH,.bH,.bH,.bH,.bH,.bH,.bH]);have r1:=Qb [ab.box [.bH,.bH,.bH,.bH,.bH,.bH,.bH,.bH]] hr;have z1:=Yc σ (.box [.bH,.bH,.bH,.bH,.bH,.bH,.bH,.bH]);have oM:(σ++[ab.box [.bH,.bH,.bH,.bH,.bH,.bH,.bH,.bH]]).length=σ.length+1:=by simp
 generalize σ++[ab.box [.bH,.bH,.bH,.bH,.bH,.bH,.bH,.bH]]=σ1 at *;refine Yd (cX (row':=qU rb) z1 rfl rfl rfl) (Ze _ (by omega)) (Za (v:=iv l.length) (rd:=[]) (by simp[Qn]) ?_);have a2:=a1.df (b:=σ.length) (by omega) (.box (qU rb));have cO:σ.length≠rb:=by omega
 have r2:=Zb (x:=.box (qU rb)) r1 (by simp) cO;have c2:aj (σ1.set σ.length (.box (qU rb))) σ.length=.box (qU rb):=Zd _ (by omega);generalize σ1.set σ.length (.box (qU rb))=σ2 at *;have l2:LV rb cM lv σ2:=hl.fQ (λk hk _=>a2.2 k hk (by simp));refine Xg (ι:=Nat) (λi vs τ=>∃ t fi fh hZ Li Ni Ci,vs=[iv i,iv 0]∧i<=l.length∧runs b sd tg l s fu=((runs b sd tg (l.drop i) t fi).1,(runs b sd tg (l.drop i) t fi).2.1,(runs b sd tg (l.drop i) t fi).2.2.1,fh ++ (runs b sd tg (l.drop i) t fi).2.2.2) ∧
   0<=fi∧fi<=1000∧cY b Ni Ci t∧Ni+60*(bw (l.drop i)).length<=1000000∧Ci+(bw (l.drop i)).length<=1000000∧(cM++fh).length+60*(bw (l.drop i)).length<=1000000∧(bw (l.drop i)).length<=(bw l).length ∧
   Fr rb lv hZ σ τ∧aj τ rb=.box (dt b t sd tg hZ fi Li)∧LV rb (cM ++ fh) hZ τ∧aj τ σ.length=.box (qU rb))
  (λi=>l.length-i) 0 ⟨s,fu,[],lv,mv,N,C,rfl,by omega,rfl,wB,uO,hS,hN,hC,by simpa using hE,IT _,a2.lift rb,r2,by simpa using l2,c2⟩ ?_
 rintro i vs τ again ⟨t,fi,fh,hZ,Li,Ni,Ci,rfl,hi,ba,uP,zI,ht,JQ,JO,CU,CW,sn,yz,b_,BA⟩ bn;have US:=Yb yz;have uL:=Yb BA;refine Za rfl (Ya (λh=>?_) (λh=>?_));rotate_left
 ·have h:i=l.length:=by simp at h;omega
  subst h;have e0:runs b sd tg (l.drop l.length) t fi=(0,t,fi,[]):=by rw[zAD,runs]
  rw[e0]at ba;exact hK _ _ ⟨hZ,Li,sn,by rw[ba];exact yz,by rw[ba];rfl,by rw[ba];simpa using b_⟩
 have h:i<l.length:=by simpa using h
 have wz:l.drop i=l[i]::l.drop (i+1):=gI h;have g_:=AT h;have zX:=QN dB g_;have ud:=RX bQ _ g_;have cH:=λ(σ:List ab)=>Xm σ bj false false 14 l .i64 i h;rw[wz]at ba JQ JO CU CW;generalize l[i]=x at *;have Dv:(bw (x::l.drop (i+1))).length=(iA x).length+(bw (l.drop (i+1))).length:=by simp[bw]
 rw[Dv]at JQ JO CU CW;have hx1:1<=(iA x).length:=by cases x;simp[iA]
 have rD:=MX (b:=b) (tg:=tg) h01 x fi ht (by omega) (by omega);have Db:=Rg b sd tg x t fi uP;rw[runs]at ba;refine Qg λk' ek=>?_;have fin:∀v τ',MF rb b sd tg (cM++fh) hZ τ (cm b sd tg x t fi) v τ'→(cm b sd tg x t fi).1≠0→K v τ':=by
  rintro v τ' ⟨cB,lA,p1,p2,p3,p4⟩ Dp;rw[aE Dp]at ba;exact hK _ _ ⟨cB,lA,sn.trans p1,by rw[ba];exact p2,by rw[ba];exact p3,by rw[ba];simpa using p4⟩
 have cont:∀v τ',MF rb b sd tg (cM++fh) hZ τ (cm b sd tg x t fi) v τ'→(cm b sd tg x t fi).1=0→k' [v] τ':=by
  rintro v τ' ⟨cB,lA,p1,p2,p3,p4⟩ h0;rw[aJ h0]at ba;rw[h0]at p3;subst p3;rw[ek];refine Za (Qj ..) ?_;rw[Qc (n:=i) (by omega)];refine bn (i+1) _ _ (by omega) ⟨(cm b sd tg x t fi).2.1,(cm b sd tg x t fi).2.2.1,fh++(cm b sd tg x t fi).2.2.2,cB,lA,Ni+60*(iA x).length,Ci+(iA x).length,rfl,by omega,?_,Db.1,by omega,rD.1,by omega,by omega,?_,by omega,sn.trans p1,p2,?_,?_⟩
  ·rw[ba];simp
  ·have:=rD.2;simp only[By]at CU ⊢;omega
  ·simpa using p4
  ·exact p1.get b_ BA cO
 clear ek bn hK;refine Za (cH _) (Za (bB (lS _)) (Qu (row:=bj x) (row':=bj x) (by rw[Zr];rfl) (by rw[Zr];rfl) (by rw[Zr];rfl) ?_));have b1:=du.jY τ (.box (bj x));have rZ:=Qb [ab.box (bj x)] yz;have Bn:=Qb [ab.box (bj x)] BA;have x1:=Yc τ (.box (bj x));have yC:LV rb (cM++fh) hZ (τ++[ab.box (bj x)]):=b_.fQ (λk hk _=>Yf _ hk);have aaO:(τ++[ab.box (bj x)]).length=τ.length+1:=by simp
 have aaJ:τ.length<(τ++[ab.box (bj x)]).length:=by omega
 generalize τ++[ab.box (bj x)]=τ1 at *;have f1:Fr rb hZ hZ τ τ1:=b1.lift rb;refine Za rfl (Za (ld x1 (gO x)) (Za (Ys ..) (Ya (λh8=>?_) (λh8=>?_))))
 ·have h8:x.op=8:=by simpa using h8
  have gu:(qx x.c).length<=1000000∧(bw x.bP).length<(iA x).length∧(bw x.bS).length<(iA x).length:=by
   cases x;simp[Ef.op]at h8;simp[iA,h8,Ef.c,Ef.bP,Ef.bS]at CW ⊢;omega
  have tZ:=Ydi ud h8;have jW:cm b sd tg x t fi=if (uB b x.c&&dQ b t sd tg x.c)=true then runs b sd tg x.bP t fi else runs b sd tg x.bS t fi:=by rw[NC,aJ h8]
  refine Za rfl (Za (v:=gY x.bS) (ld x1 (by rw[Zr];rfl)) (Za rfl (Za rfl (Za (v:=cC b) (ld rZ rfl) (Za rfl (Za rfl (Za (v:=bZ t) (ld rZ rfl) (Za rfl (Za rfl (Za (v:=.agg [iv sd,iv tg]) (ld rZ rfl) (Za rfl (Za (ld x1 (od x)) ?_))))))))))));refine Yo (c169 b hf bY t ht.rL (Xo.2 ⟨cN,ht.may⟩) sd tg (by omega) (by omega) (Zd0 ht.may) x.c (Y6 zX) gu.1) rfl g89.ok.plain (by rw[XE];rfl) (Za rfl (Za rfl (Qg λk2 yl=>?_)));have body:∀th:List Ef,bE th=true→bU zr true (d+1) th=true→(bw th).length<(iA x).length→cm b sd tg x t fi=runs b sd tg th t fi→k2 [gY th] τ1:=by
   intro th q1 q2 q3 q4;rw[yl];refine Qd hP (f:=47) rfl g47.ok rfl (IH th (by omega) τ1 rb t fi Li hZ (cM++fh) Ni Ci (d+1) _ rZ yC q1 q2 (by omega) ht (by omega) (by omega) (by omega) uP zI (λv τ' hD=>?_));rw[←q4]at hD;obtain⟨cB,lA,p1,p2,p3,p4⟩:=hD;have TN:MF rb b sd tg (cM++fh) hZ τ (cm b sd tg x t fi) v τ':=⟨cB,lA,f1.trans p1,p2,p3,p4⟩;rw[p3];rw[p3]at TN;refine Za (Z6 ..) (Ya (λhq=>?_) (λhq=>?_))
   ·exact fin _ _ TN (by simpa using hq)
   ·exact cont _ _ TN (by simpa using hq)
  refine Ya (λhq=>?_) (λhq=>?_)
  ·refine Za rfl (Za (v:=gY x.bP) (ld x1 (by rw[Zr];rfl)) ?_);exact body _ (XN zX) tZ.1 gu.2.1 (by rw[jW,aJ hq])
  ·exact body _ (YN zX) tZ.2 gu.2.2 (by rw[jW,aE (by simp[hq])])
 ·have h8:x.op≠8:=by simpa using h8
  have jW:cm b sd tg x t fi=if fi < fy x.op then (190,t,fi,[])else ((iY b t sd tg x.op x.who x.name (dO b t sd tg x.n)).1,(iY b t sd tg x.op x.who x.name (dO b t sd tg x.n)).2.1,
   (if (iY b t sd tg x.op x.who x.name (dO b t sd tg x.n)).1=0 then fi - fy x.op else fi),(iY b t sd tg x.op x.who x.name (dO b t sd tg x.n)).2.2):=by rw[NC,aE h8]
  have rB:=ZcB ud h8 (by omega);have hY:0<=x.op∧x.op<=8:=by
   rw[ye]at ud;simp only[AI,fE]at ud;exact⟨ud.1,ud.2.1⟩
  refine Za rfl (Za (ld x1 (gO x)) (Za (Ys ..) (Qg λk2 yl=>?_)));have hu:0<=fy x.op∧fy x.op<=1:=by unfold fy;split<;>omega
  have body:k2 [iv (fy x.op)] τ1:=by
   rw[yl];clear yl k2;generalize fy x.op=u at *;refine Za rfl (Za rfl (Za (v:=iv fi) (ld rZ rfl) ?_));refine ay (Ya (λhq=>?_) (λhq=>?_))
   ·have hq:fi<u:=by simpa using hq
    rw[aJ hq]at jW;exact fin _ _ ⟨hZ,Li,f1,by rw[jW];exact rZ,by rw[jW],by rw[jW];simpa using yC⟩ (by rw[jW];show (190:Int)≠0;decide)
   have hq:¬fi<u:=by simpa using hq
   rw[aE hq]at jW;refine Za rfl (Za rfl (Za (v:=cC b) (ld rZ rfl) (Za rfl (Za rfl (Za (v:=bZ t) (ld rZ rfl) (Za rfl (Za rfl (Za (v:=.agg [iv sd,iv tg]) (ld rZ rfl) (Za rfl (Za (ld x1 (rf x)) ?_))))))))));refine Yo (c31 b hf bY t ht.rL (Xo.2 ⟨cN,ht.may⟩) sd tg (by omega) (by omega) (λc hc=>Zd0 ht.may _ c (.inl hc)) x.n (zh zX) rB.1 rB.2) rfl g90.ok.plain (by rw[QA];rfl) (ay (Za (ld x1 (gO x)) ?_));have yw:=GH b t sd tg x.n;generalize dO b t sd tg x.n=n at *;have after:∀v τ2,Dn rb b sd tg fi (cM++fh) hZ τ1 (iY b t sd tg x.op x.who x.name n) v τ2 →
     VV.rd (Ym .neq false [v,(.int .i64 0)] τ2) λt103=>VV.test t103 (K v τ2) (
     VV.rd (Xl [.ak rb 0] τ2) λt105=>VV.rd (Xb 28 [t105] τ2) λt106=>VV.rd (Qe false 1 [t106] τ2) λt107=>
     VV.rd (Ym .sub false [t107,iv u] τ2) λt109=>VV.rd (Xl [.ak rb 0] τ2) λt110=>VV.rd (Xb 28 [t110] τ2) λt111=>
     VV.wr (Yj 1 [t111,t109] τ2) τ2 λ_ σ=>k' [v] σ):=by
    rintro v τ2 ⟨cB,lA,p1,p2,rfl,p4⟩;generalize iY b t sd tg x.op x.who x.name n=r at *;refine Za (Z6 ..) (Ya (λhz=>?_) (λhz=>?_))
    ·have hz:r.1≠0:=by simpa using hz
     rw[aE hz]at jW;exact fin _ _ ⟨cB,lA,f1.trans p1,by rw[jW];exact p2,by rw[jW],by rw[jW];exact p4⟩ (by rw[jW];exact hz)
    ·have hz:r.1=0:=by simpa using hz
     rw[aJ hz]at jW;have dU:=Yb p2;refine Za rfl (Za rfl (Za (v:=iv fi) (ld p2 rfl) ?_));refine ay ?_;rw[zAZ _ (by omega)];refine Yd (cX (row':=dt b r.2.1 sd tg cB (fi-u) lA) p2 rfl rfl rfl) (Ze _ dU) (cont _ _ ⟨cB,lA,(f1.trans p1).trans (Fr.set cB _),by rw[jW];exact Zd _ dU,by rw[jW],by rw[jW];exact p4.fQ (λk hk gC=>Xc _ hk gC)⟩ (by rw[jW];exact hz))
   have TT:TB 100000000 t:=⟨by have:=ht.told.1;omega,by have:=ht.told.2;omega⟩;have pn:=ht.le;have ji:(cM++fh).length+60<=1000000000:=by omega
   have l_:x.op=0∨x.op=1∨x.op=2∨x.op=3∨x.op=4∨x.op=5∨x.op=6∨x.op=7:=by omega
   rcases l_ with e|e|e|e|e|e|e|e
   ·rw[e];refine Za rfl (Za (v:=.func (.func 82) [.ak rb 0] []) (ld Bn rfl) (Za (ld x1 (lS x)) ?_));refine Qd hP (f:=82) (ys:=[.ak rb 0,.agg (bj x),iv n]) rfl g82.ok rfl (XdZ rZ yC (by omega) h01 hf bY pn (Xo.2 ⟨cN,ht.may⟩) x n (λv τ2 hD=>after v τ2 ?_));have:iY b t sd tg x.op x.who x.name n=fX b t sd tg x.op x.who n:=by rw[iY,aJ (.inl e)]
    rw[this];exact hD
   ·rw[e];refine Za rfl (Za (v:=.func (.func 82) [.ak rb 0] []) (ld Bn rfl) (Za (ld x1 (lS x)) ?_));refine Qd hP (f:=82) (ys:=[.ak rb 0,.agg (bj x),iv n]) rfl g82.ok rfl (XdZ rZ yC (by omega) h01 hf bY pn (Xo.2 ⟨cN,ht.may⟩) x n (λv τ2 hD=>after v τ2 ?_));have:iY b t sd tg x.op x.who x.name n=fX b t sd tg x.op x.who n:=by rw[iY,aJ (.inr e)]
    rw[this];exact hD
   ·rw[e];refine Za rfl (Za (v:=.func (.func 83) [.ak rb 0] []) (ld Bn rfl) (Za (ld x1 (lS x)) ?_));refine Yen rZ yC ji h01 hf bY cN ht (by omega) (by omega) x n rfl (λv τ2 hD=>after v τ2 ?_);have:iY b t sd tg x.op x.who x.name n=ja t (bG sd x.who) n:=by rw[e];rfl
    rw[this];exact hD
   ·rw[e];refine Za rfl (Za (v:=.func (.func 84) [.ak rb 0] []) (ld Bn rfl) (Za (ld x1 (lS x)) ?_));have wM:0<=(t.side sd).aT∧(t.side sd).aT<=1000000:=by
     rcases h01 with rfl|rfl
     ·exact⟨ht.may.s0.aT.1,(ZU.1 ht.may.s0.aT.2).2⟩
     ·exact⟨ht.may.s1.aT.1,(ZU.1 ht.may.s1.aT.2).2⟩
    refine Qd hP (f:=84) (ys:=[.ak rb 0,.agg (bj x),iv n]) rfl g84.ok rfl (Qes rZ yC (by omega) h01 wM x n (by omega) (λv τ2 hD=>after v τ2 ?_));have:iY b t sd tg x.op x.who x.name n=eh t sd n:=by rw[e];rfl
    rw[this];exact hD
   ·rw[e];refine Za rfl (Za (v:=.func (.func 85) [.ak rb 0] []) (ld Bn rfl) (Za (ld x1 (lS x)) ?_));refine Qd hP (f:=85) (ys:=[.ak rb 0,.agg (bj x),iv n]) rfl g85.ok rfl (Yeo rZ yC (by omega) h01 TT ⟨by have:=pn.s0.hand;omega,by have:=pn.s0.al;omega⟩ ⟨by have:=pn.s1.hand;omega,by have:=pn.s1.al;omega⟩ x n (λv τ2 hD=>after v τ2 ?_));have:iY b t sd tg x.op x.who x.name n=cU t (bG sd x.who):=by rw[e];rfl
    rw[this];exact hD
   ·rw[e];refine Za rfl (Za (v:=.func (.func 86) [.ak rb 0] []) (ld Bn rfl) (Za (ld x1 (lS x)) ?_));have rj:(t.side sd).az.length<=100000000:=by
     rcases h01 with rfl|rfl
     ·have:=pn.s0.az;show t.s0.az.length<=_;omega
     ·have:=pn.s1.az;show t.s1.az.length<=_;omega
    refine Qd hP (f:=86) (ys:=[.ak rb 0,.agg (bj x),iv n]) rfl g86.ok rfl (Qeu rZ yC (by omega) h01 TT rj x n (λv τ2 hD=>after v τ2 ?_));have:iY b t sd tg x.op x.who x.name n=gy t sd n:=by rw[e];rfl
    rw[this];exact hD
   ·rw[e];refine Za rfl (Za (v:=.func (.func 87) [.ak rb 0] []) (ld Bn rfl) (Za (ld x1 (lS x)) ?_));refine Qd hP (f:=87) (ys:=[.ak rb 0,.agg (bj x),iv n]) rfl g87.ok rfl (Xey rZ yC (by omega) h01 TT (by have:=pn.s0.hand;omega) (by have:=pn.s1.hand;omega) x n (λv τ2 hD=>after v τ2 ?_));have:iY b t sd tg x.op x.who x.name n=mn t (bG sd x.who):=by rw[e];rfl
    rw[this];exact hD
   ·rw[e];refine Za rfl (Za (v:=.func (.func 88) [.ak rb 0] []) (ld Bn rfl) (Za (ld x1 (lS x)) ?_));refine Qd hP (f:=88) (ys:=[.ak rb 0,.agg (bj x),iv n]) rfl g88.ok rfl (YdV rZ yC (by omega) h01 hf bY cN ht jg x n (λv τ2 hD=>after v τ2 ?_));have:iY b t sd tg x.op x.who x.name n=YW b t sd x.name:=by rw[e];rfl
    rw[this];exact hD
  refine Ya (λhq=>?_) (λhq=>?_)
  ·have:fy x.op=0:=by rw[fy,aJ (by simpa using hq)]
   rw[this]at body;exact body
  ·have:fy x.op=1:=by rw[fy,aE (by simpa using hq)]
   rw[this]at body;exact body
theorem LC(b:Bk)(zr:List Cd)(sd tg:Int)(h01:sd=0∨sd=1)(hf:a_ b=true)(bY:Yg b.ai)(cN:(bz b).1=0)(l:List Ef):yR b zr sd tg l:=by
 have go:∀(m:Nat) (l:List Ef),(bw l).length<=m→yR b zr sd tg l:=by
  intro m
  induction m with
  |zero=>exact WJ b zr sd tg h01 hf bY cN 0 (λ_ h=>absurd h (by omega))
  |succ m ih=>grind [WJ]
 exact go _ l (IT _)
def Js:Tx:=[48,49,50,51,52,53,54,55,56,57,97,98,99,100,101,102,103,104,105,106,107,108,109,110,111,112,113,114,115,116,117,118,119,120,121,122]
def Bo:Tx:=[48,48,48,49,48,50,48,51,48,52,48,53,48,54,48,55,48,56,48,57,49,48,49,49,49,50,49,51,49,52,49,53,49,54,49,55,49,56,49,57,50,48,50,49,50,50,50,51,50,52,50,53,50,54,50,55,50,56,50,57,51,48,51,49,51,50,51,51,51,52,51,53,51,54,51,55,51,56,51,57,52,48,52,49,52,50,52,51,52,52,52,53,52,54,52,55,52,56,52,57,53,48,53,49,53,50,53,51,53,52,53,53,53,54,53,55,53,56,53,57,54,48,54,49,54,50,54,51,54,52,54,53,54,54,54,55,54,56,54,57,55,48,55,49,55,50,55,51,55,52,55,53,55,54,55,55,55,56,55,57,56,48,56,49,56,50,56,51,56,52,56,53,56,54,56,55,56,56,56,57,57,48,57,49,57,50,57,51,57,52,57,53,57,54,57,55,57,56,57,57]
def jP(i:Nat):Tx:=if i<10 then [zDd (48+i)]else [zDd (48+i/10),zDd (48+i%10)]
theorem Zd7:∀i<10,(Js.take (i+1)).drop i=jP i:=by decide
theorem YdK:∀i<63,10<=i→(Bo.take (i*2+2)).drop (i*2)=jP i:=by decide
theorem YdO:∀i<63,∀j<63,jP i=jP j→i=j:=by decide
theorem XbA(s:Tx)(i j:Nat)(h1:i<=j)(h2:j<=s.length)(σ:List ab):YE [.str s,iv i,iv j] σ=.ok (.str ((s.take j).drop i)) [] []:=by
 show (bif zAP i j&&zAP j s.length then aA.ok (.str ((s.take j).drop i)) [] []else .stop)=_;simp[h1,h2,sh]
theorem Xeo(ib:Bool)(a b:Tx)(h:a.length+b.length<=1099511627776)(σ:List ab):Ym .add ib [.str a,.str b] σ=.ok (.str (a++b)) [] []:=by
 show (bif zAP (a.length+b.length) 1099511627776 then aA.ok (.str (a++b)) [] []else .stop)=_;rw[sh h];rfl
def YI:Nat→Tx
 |0=>[120]
 |i+1=>120::jP i
def yc(cs:List Cd):Nat→Nat→Tx
 |0,i=>YI i
 |n+1,i=>if (cs.any λc=>c.name==YI i)=true then yc cs n (i+1)else YI i
def IG(cs:List Cd):Tx:=yc cs 62 0
theorem Xb6(i:Nat):(jP i).length<=2:=by unfold jP;split<;>simp
theorem YbF(i:Nat):(YI i).length<=3:=by
 cases i<;>simp_all [YI,Xb6]
theorem Ybi(cs:List Cd):∀(n i:Nat),(yc cs n i).length<=3
 |0,i=>YbF i
 |n+1,i=>by
  unfold yc;split
  ·exact Ybi cs n (i+1)
  ·exact YbF i
theorem QcR{i j:Nat}(hi:i<=63)(hj:j<=63)(h:YI i=YI j):i=j:=by
 have h0:∀k,jP k≠[]:=by intro k;unfold jP;split<;>simp
 cases i with
 |zero=>
  cases j<;>simp_all [YI]
 |succ i=>
  cases j with
  |zero=>simp_all [YI]
  |succ j=>
   grind [YI,YdO]
theorem Xdz:∀(l m:List Tx),l.Nodup→(∀x∈l,x∈m)→l.length<=m.length
 |[],_,_,_=>by simp
 |a::l,m,hn,hs=>by
  have ha:=hs a (by simp);rw[zBs]at hn;have:=Xdz l (m.erase a) hn.2 (λx hx=>(List.mem_erase_of_ne (λe=>hn.1 (by rw[←e];exact hx))).2 (hs x (by simp[hx])))
  grind
theorem ZcG{cs:List Cd}{i:Nat}(hi:i<=62)(h:∀k<i,(cs.any λc=>c.name==YI k)=true):i<=cs.length:=by
 have hn:((zAC i).map YI).Nodup:=by
  rw[List.Nodup,List.pairwise_map];refine List.Pairwise.imp_of_mem ?_ List.nodup_range;intro a b ha hb cO e;rw[List.mem_range]at ha hb;exact cO (QcR (by omega) (by omega) e)
 have:=Xdz _ (cs.map Cd.name) hn (λx hx=>by
  grind)
 simpa using this
def nC(cs:List Cd)(l:List Ef):Cd:=⟨IG cs,false,0,0,0,0,0,0,l,[],[],0⟩
def mV(b:Bk)(l:List Ef):Bool:=decide ((cE (b.ai++[nC b.ai l])).1=0)
@[reducible] def DG(t:Tx)(l:List Ef):List aa:=[.str t,.bool false,iv 0,iv 0,iv 0,iv 0,iv 0,iv 0,gY l,.an,.an,iv 0]
theorem Qec{h0:Hp}{rd:List Nat}(cs:List Cd)(l:List Ef):bu h0 rd (DG (IG cs) l) (cL (nC cs l)):=
 .cons (aB.ro rfl) <| .cons (aB.ro rfl) <| .cons (aB.ro rfl) <| .cons (aB.ro rfl) <| .cons (aB.ro rfl) <| .cons (aB.ro rfl) <| .cons (aB.ro rfl) <| .cons (aB.ro rfl) <| .cons (aB.ro rfl) <|
  .cons (aB.nl 14) <| .cons (aB.nl 14) <| .cons (aB.ro rfl) .nil
theorem Xd5(m:Nat→Option Nat)(c:Cd):(cL c).map (aa.ct m)=cL c:=rfl
theorem Zee(m:Nat→Option Nat)(l:List Cd):(ab.rows 12 (l.map cL)).dC (aa.ct m)=.rows 12 (l.map cL):=by
 simp[Xd5]
theorem c504(i:Nat)(h:i<63):PC 203 [iv i] (.str (jP i)):=by
 refine Xa hP g203.ok rfl rfl ?_;rw[H1.e];unfold g203;dsimp only;refine ay (Ya (λq=>?_) (λq=>?_))
 ·have q:i<10:=by have:=of_decide_eq_true q;omega
  refine Za (Qj ..) ?_;rw[Qc (n:=i) (by omega)];refine Za (XbA Js i (i+1) (by omega) (by show i+1<=36;omega) _) ?_;rw[Zd7 i q]
 ·have q:¬i<10:=by have:=of_decide_eq_false q;omega
  refine ay ?_;have w1:BY.wrap ((i:Int)*2)=((i*2:Nat):Int):=by grind [zAZ]
  rw[w1];have w2:BY.wrap (((i*2:Nat):Int)+2)=((i*2+2:Nat):Int):=by grind [zAZ]
  rw[w2];refine Za (XbA Bo (i*2) (i*2+2) (by omega) (by show i*2+2<=200;omega) _) ?_;rw[YdK i h (by omega)]
theorem I'(i:Nat)(h:i<63):PC 81 [iv i] (.str (jP i)):=by
 refine Xa hP g81.ok rfl rfl ?_;rw[H1.e];unfold g81;dsimp only;refine Qd hP (f:=122) rfl g122.ok rfl ?_;rw[H1.e];unfold g122;dsimp only;refine Qd hP (f:=170) rfl g170.ok rfl ?_;rw[H2.e];unfold g170;dsimp only;refine Za rfl (Yh (Za (v:=.bool (decide ((0:Int)<=(i:Int)))) rfl ?_));rw[show decide ((0:Int)<=(i:Int))=true from fk (by omega)];refine Qa (Za rfl (Qa (Za (v:=.bool (decide ((i:Int)<100))) rfl ?_)));rw[show decide ((i:Int)<100)=true from fk (by omega)];exact Za rfl (Yh (aY (c504 i h) g203.ok rfl))
theorem I8(l:List Cd)(hl:l.length<=1000000000):de prog aG 77 [iH l] (.sl 0 0 l.length false) [.rows 12 (l.map cL)]:=by
 cases l with
 |nil=>
  refine de.vQ ?_ ?_
  ·refine Yv hP g77.ok rfl ?_;rw[H1.e];unfold g77;dsimp only;exact Za rfl (Yh (Tidy.ghost 12 (.inl rfl)))
  ·refine Yv hP g77.ok rfl ?_;rw[H1.e];unfold g77;dsimp only;exact Za rfl (Ye (Za rfl (Yd rfl rfl (Tidy.trans (Tidy.dY λM c u d=>XW (.aU true true 12 []) ⟨M,c⟩ u d) (Tidy.ghost 12 (.inr rfl))))))
 |cons x l=>
  refine Yv hP g77.ok rfl ?_;rw[H1.e];unfold g77;dsimp only;refine Za rfl (Ye (Za rfl ?_));refine Yd (v:=.sl 0 0 (x :: l).length false) (rd:=[]) (up:=[(0,.rows 12 ((x :: l).map cL))]) ?_ rfl (Tidy.refl _ _);show (match Xk 12 [] (iH (x :: l))with
   |some (ys,rd)=>bif aW ys&&zAP ((2*(([]:List (List aa)).length+ys.length)+192)*152) (2 ^ 48)then aA.ok (.sl 0 0 (([]:List (List aa)).length+ys.length) false) rd ([]++[(0,ab.rows 12 ([]++ys))])else aA.stop
   | none=>.stop)=_
  have h1:Xk 12 [] (iH (x::l))=some ((x::l).map cL,[]):=rfl;have h2:∀q:List Cd,aW (q.map cL)=true:=by
   intro q;induction q with
   |nil=>rfl
   |cons y q ih=>simp only[zAN,aW,ih,zAz];rfl
  have h3:zAP ((2*(([]:List (List aa)).length+((x::l).map cL).length)+192)*152) (2 ^ 48)=true:=sh (by grind)
  grind
theorem w292{l:List Cd}(hl:l.length<=1000000000){σ:List ab}{K:KT}(hK:K (.sl σ.length 0 l.length false) (σ++[.rows 12 (l.map cL)])):VV.call (.call 77) [iH l] σ K:=by
 refine Iu (I8 l hl) rfl g77.ok.plain rfl ?_;simp only[Xv,zAN,zBC,Zee,aa.ct,XC,No];exact hK
theorem I_(c:Cd)(t:Tx):PC 80 [.agg (cL c),.aq [.str t] 0] (.bool (c.name==t)):=by
 refine Xa hP g80.ok rfl rfl ?_;rw[H2.e];unfold g80;dsimp only;exact Yd rfl rfl (Za rfl (Za (v:=.str c.name) rfl (Za (v:=.str t) (bB rfl) (Za rfl rfl))))
theorem I9(l:List Cd)(hl:l.length<=1000000000)(t:Tx):PC 79 [iH l,.func (.func 80) [] [.aq [.str t] 0]] (.bool (l.any λc=>c.name==t)):=by
 refine Xa hP g79.ok rfl rfl ?_;rw[H2.e];unfold g79;dsimp only;refine aY (c259 l (by rw[cZ];omega) 80 [] [.aq [.str t] 0] g80.ok.plain (λc=>c.name==t) (λc _=>I_ c t) (λc=>rfl)) g121.ok (Za (qw ..) ?_);simp[Oa]
theorem c202(b:Bk)(hf:a_ b=true)(bY:Yg b.ai)(jh:b.ai.length<=61)(l:List Ef)(hl:bE l=true)(JR:(bw l).length<=500000000):PC 46 [cC b,gY l] (.bool (mV b l)):=by
 have gu:ZG b.ai=true:=by
  simp_all [a_]
 have dB:ZG (b.ai++[nC b.ai l])=true:=by
  simp only[ZG,AI,fE,cZ]at gu ⊢;refine⟨by simp;omega,?_⟩;rw[List.all_append,gu.2];have:=Ybi b.ai 62 0;simp only[List.all_cons,List.all_nil,zAz,Bool.true_and,il,nC,IG,cZ,AI,fE];exact⟨by omega,hl,rfl,rfl⟩
 have UX:Yg (b.ai++[nC b.ai l]):=by
  intro c hc;rcases zAI.1 hc with hc|hc
  ·exact bY c hc
  simp_all [pz,nC,bw]
 have h293:=AY _ dB UX;refine Xa hP g46.ok rfl rfl ?_;rw[H2.e];unfold g46;dsimp only;refine Yd (v:=.ak 0 0) (rd:=[]) (up:=[(0,.box (cy b))]) rfl rfl (Za rfl (Za (v:=iH b.ai) (ld (row:=cy b) rfl rfl) (w292 (by omega) ?_)));refine Za (v:=iv b.ai.length) rfl (Za (Ys ..) ?_);rw[show decide ((b.ai.length:Int)=240)=false from gm (by omega)];refine Ye (Yd (v:=.ak 2 0) (rd:=[]) (up:=[(2,.box [.str []])]) rfl rfl (Yd (v:=.aQ) (rd:=[]) (up:=[(2,.box [.str [120]])]) rfl rfl ?_));have KL:∀r∈b.ai.map cL,ga r=true:=by
  intro r hr;obtain⟨c,_,rfl⟩:=zAt.1 hr;rfl
 refine Xg (ι:=Nat) (λi vs τ=>vs=[iv i]∧i<=61∧τ=[.box (cy b),.rows 12 (b.ai.map cL),.box [.str (YI i)]]∧(∀k<i,(b.ai.any λc=>c.name==YI k)=true)∧IG b.ai=yc b.ai (62-i) i) (λi=>62-i) 0 ⟨rfl,by omega,rfl,by omega,rfl⟩ ?_;rintro i vs τ again ⟨rfl,hi,rfl,iK,sn⟩ bn;have e61:62-i=(61-i)+1:=by omega
 rw[e61,yc]at sn;refine Za rfl (Zu (rd:=[1,2]) (I9 b.ai (by omega) (YI i)) rfl g79.ok.plain (.cons (aB.own (σ:=[.box (cy b),.rows 12 (b.ai.map cL),.box [.str (YI i)]]) rfl (by simp) (by simp) (Oc _ _ (by simp)) KL) (.cons (aB.func .nil (.cons (aB.box (row:=[.str (YI i)]) rfl (by simp) (.cons (aB.ro rfl) .nil)) .nil)) .nil)) rfl (Ya (λh=>?_) (λh=>?_)))
 ·rw[aJ h]at sn;have wi:∀k<i+1,(b.ai.any λc=>c.name==YI k)=true:=by
   intro k hk;by_cases e:k=i
   ·rw[e];exact h
   ·exact iK k (by omega)
  have hle:=ZcG (cs:=b.ai) (i:=i+1) (by omega) wi;refine aY (I' i (by omega)) g81.ok (Za (Xeo _ [120] (jP i) (by have:=Xb6 i;simp;omega) _) (Yd (v:=.aQ) (rd:=[]) (up:=[(2,.box [.str (YI (i+1))])]) rfl rfl (Za (Qj ..) ?_)));rw[Qc (n:=i) (by omega)]
  grind
 ·rw[aE (by simp[h])]at sn;refine ay (Yd (QP 12 152 (b:=1) (c:=3) (len:=b.ai.length) (rs:=b.ai.map cL) (row:=DG (YI i) l) rfl rfl (by simp) rfl (by omega)) rfl ?_);rw[←sn];refine Zu (rd:=[4]) h293 rfl g78.ok.plain (.cons (aB.dY (y:=.aU false false 12 ((b.ai++[nC b.ai l]).map cL)) (aB.sl (rs:=b.ai.map cL++[DG (IG b.ai) l]) rfl (by simp) (by simp) (by simp) (λk row row' q1 q2=>?_)) (λM u d=>d.gS)) .nil) rfl ?_
  ·rw[No]at q1;by_cases hk:k<b.ai.length
   ·grind [bu.ro]
   grind [Qec]
  ·refine ae ?_;rfl
theorem Zbl{e:Int}{b:Bk}{s:St}(hp:s.phase=1)(ha:s.ao.length=0):aO e b s true=(aO e b { s with phase:=0 } false&&s.bV):=by
 rw[zAk,AI];constructor
 ·intro h;exact⟨Xb8 h hp ha,Xbl h hp⟩
 ·rintro⟨h,ir⟩;simp only[aO,AI]at h ⊢;obtain⟨a1,a2,a3,a4,a5,a6,a7,a8,a9,b1,b2,b3,b4,h⟩:=h;have TU:=zAW.1 ha;refine⟨a1,a2,a3,a4,a5,by simp[hp],by simp[hp],a8,a9,?_,b2,b3,b4,?_⟩
  ·rw[hp];exact b1
  ·rw[aE (by simp[hp]),TU];simp[ir,fm]
theorem Zcx{cs:List Cd}:∀ {l pre:List Cd},(dE cs pre l).1=0→∀c∈l,eG cs c=true
 |c::l,pre,h,x,hx=>by
  unfold dE at h;split at h
  ·omega
  split at h
  ·rename_i hc;simp only[zAR]at hx;rcases hx with rfl|hx
   ·exact hc
   ·exact Zcx h x hx
  omega
theorem Yc7{cs:List Cd}(h:(cE cs).1=0):∀c∈cs,eG cs c=true:=by
 grind [cE,Zcx]
theorem HP{b:Bk}{l:List Ef}(h:mV b l=true):bU (b.ai++[nC b.ai l]) true 1 l=true∧(bw l).length<=200:=by
 have hc:=Yc7 (of_decide_eq_true h) (nC b.ai l) (by simp);simp only[eG,AI,fE,bD]at hc
 grind [pz,nC,IL]
def Xs(b:Bk)(sd fu:Int)(l:List Ef):Bool:=(((decide (sd<0)||decide (sd>1))||decide (fu<0))||decide (fu>1000)) || !mV b l
def LW(l:List Ev)(lv:aa)(σ:List ab):Prop:=(l=[]∧lv=.an)∨(l≠[]∧∃c rows,lv=.sl c 0 l.length false∧aj σ c=.rows 7 rows∧eU rows l)
theorem LV.lw{rb:Nat}{l:List Ev}{lv:aa}{σ:List ab}(h:LV rb l lv σ):LW l lv σ:=by
 rcases h with h|⟨h0,c,rows,_,h1,h2,h3⟩
 ·exact .inl h
 ·exact .inr ⟨h0,c,rows,h1,h2,h3⟩
theorem vN(s:St)(hs:bd 1000000000 s):PC 20 [bZ s] (bZ s):=
 Ra (c59 s hs) ⟨zAC 11,(SB.copy (σ:=mq s) (n:=0) (λi x h=>by rw[No];exact Zq h) (λi hi=>by simp_all)).agg⟩
theorem SK(b:Bk)(hf:a_ b=true)(bY:Yg b.ai)(jh:b.ai.length<=61)(s:St)(hs:bd 1000000000 s)(sd tg fu:Int)(l:List Ef)(hl:bE l=true)(vl:(bw l).length<=500000000)(N C:Nat)(hT:TB N s)(hN:N+12000<=1000000)(hC:Zm s<=C)(pX:C+200<=1000000){σ:List ab}{K:KT}
 (hE1:aO (bz b).1 b s true=false→∀σ',du σ σ' []→K (.bp [.agg aZ,.an,iv 0,iv 170]) σ')
 (hE2:aO (bz b).1 b s true=true→Xs b sd fu l=true→∀σ',du σ σ' []→K (.bp [.agg aZ,.an,iv 0,iv 2]) σ')
 (hK:aO (bz b).1 b s true=true→Xs b sd fu l=false→∀ σ' lv,du σ σ' []→LW (runs b sd tg l s fu).2.2.2 lv σ'→(∀ k n,lv=.sl k 0 n false→σ.length<=k) →
   K (.bp [bZ (runs b sd tg l s fu).2.1,lv,iv (runs b sd tg l s fu).2.2.1,iv (runs b sd tg l s fu).1]) σ') :
  g23.u VV [cC b,bZ s,.agg [iv sd,iv tg],gY l,iv fu] σ K:=by
 rw[H5.e];unfold g23;dsimp only;refine Yd (v:=.ak σ.length 0) (rd:=[]) (up:=[(σ.length,.box (cy b))]) rfl (Xe σ _) ?_;have a0:=du.jY σ (.box (cy b));have b0:=Yc σ (.box (cy b));have Lg:(σ++[ab.box (cy b)]).length=σ.length+1:=by simp
 generalize σ++[ab.box (cy b)]=σ0 at *;refine Yd (v:=.ak σ0.length 0) (rd:=[]) (up:=[(σ0.length,.box (aI s))]) rfl (Xe σ0 _) ?_;have a1:=a0.jX (.box (aI s));have b1:=Qb [ab.box (aI s)] b0;have s1:=Yc σ0 (.box (aI s));have oM:(σ0++[ab.box (aI s)]).length=σ0.length+1:=by simp
 generalize σ0++[ab.box (aI s)]=σ1 at *;refine Yd (v:=.ak σ1.length 0) (rd:=[]) (up:=[(σ1.length,.box [iv sd,iv tg])]) rfl (Xe σ1 _) ?_;have a2:=a1.jX (.box [iv sd,iv tg]);have b2:=Qb [ab.box [iv sd,iv tg]] b1;have s2:=Qb [ab.box [iv sd,iv tg]] s1;have v2:=Yc σ1 (.box [iv sd,iv tg]);have j8:(σ1++[ab.box [iv sd,iv tg]]).length=σ1.length+1:=by simp
 generalize σ1++[ab.box [iv sd,iv tg]]=σ2 at *;refine Yd (v:=.ak σ2.length 0) (rd:=[]) (up:=[(σ2.length,.box aZ)]) rfl (Xe σ2 _) ?_;have a3:=a2.jX (.box aZ);have b3:=Qb [ab.box aZ] b2;have s3:=Qb [ab.box aZ] s2;have v3:=Qb [ab.box aZ] v2;have z3:=Yc σ2 (.box aZ);have DB:(σ2++[ab.box aZ]).length=σ2.length+1:=by simp
 generalize σ2++[ab.box aZ]=σ3 at *;refine Za (v:=bZ s) (ld s3 rfl) (Qu (row:=aI s) (row':=aI s) rfl rfl rfl ?_);have a4:=a3.jX (.box (aI s));have b4:=Qb [ab.box (aI s)] b3;have s4:=Qb [ab.box (aI s)] s3;have v4:=Qb [ab.box (aI s)] v3;have z4:=Qb [ab.box (aI s)] z3;have p4:=Yc σ3 (.box (aI s));have DC:(σ3++[ab.box (aI s)]).length=σ3.length+1:=by simp
 generalize σ3++[ab.box (aI s)]=σ4 at *;refine Za rfl (Za (v:=aN s.phase) (ld s4 rfl) ?_);refine ay ?_;refine Su (v1:=.ak σ0.length 5) (v2:=aP s.ao) (v3:=iv s.ao.length) (d:=((s.ao.length:Int)==0)) (q3:=[]) rfl (ld (row:=aI s) s4 rfl) (by simp[Qn]) rfl ?_;refine Qg λk' ek=>?_;have ny:∀(t:St) (τ:List ab),bd 1000000000 t→du σ τ []→aj τ σ.length=.box (cy b)→aj τ σ0.length=.box (aI s)→aj τ σ1.length=.box [iv sd,iv tg]→aj τ σ2.length=.box aZ→aj τ σ3.length=.box (aI t) →
   (aO (bz b).1 b t false && !(decide (t.phase≠s.phase) && !s.bV))=aO (bz b).1 b s true→k' [] τ:=by
  intro t τ KU at_ bt st vt zt pt lu;have O7:=Yb zt;rw[ek];clear ek;have zk:=c55 b hf bY t KU;refine Za (v:=cC b) (ld bt rfl) (Za (v:=bZ t) (ld pt rfl) (aY zk g43.ok ?_));refine Za (Z6 ..) ?_;have tW:∀K':aa→Prop,K' (.bool (!aO (bz b).1 b s true)) →
    VV.gr (.bool (decide ((bif aO (bz b).1 b t false then (0:Int)else 170)≠0))) false (λk=>VV.rd (Xb 2 [.ak σ3.length 0] τ) k) λt34=>
    VV.gr (.bool (decide ((bif aO (bz b).1 b t false then (0:Int)else 170)≠0))) false (λk=>VV.rd (Qe false 1 [t34] τ) k) λt35=>
    VV.gr (.bool (decide ((bif aO (bz b).1 b t false then (0:Int)else 170)≠0))) false (λk=>VV.rd (Xb 2 [.ak σ0.length 0] τ) k) λt36=>
    VV.gr (.bool (decide ((bif aO (bz b).1 b t false then (0:Int)else 170)≠0))) false (λk=>VV.rd (Qe false 1 [t36] τ) k) λt37=>
    VV.gr (.bool (decide ((bif aO (bz b).1 b t false then (0:Int)else 170)≠0))) false (λk=>VV.rd (Ym .neq false [t35,t37] τ) k) λt38=>
    VV.gr (.bool (decide ((bif aO (bz b).1 b t false then (0:Int)else 170)≠0))) false (λk=>VV.rd (qM [t38] τ) k) λt39=>
    VV.gr t39 true (λk=>VV.rd (Xb 3 [.ak σ0.length 0] τ) k) λt40=>
    VV.gr t39 true (λk=>VV.rd (Qe false 1 [t40] τ) k) λt41=>
    VV.gr t39 true (λk=>VV.rd (tH .not [t41] τ) k) λt42=>
    VV.gr (.bool (decide ((bif aO (bz b).1 b t false then (0:Int)else 170)≠0))) false (λk=>VV.rd (Zo [t39,t42,(.bool false)] τ) k) λt43=>
    VV.rd (Zo [(.bool (decide ((bif aO (bz b).1 b t false then (0:Int)else 170)≠0))),(.bool true),t43] τ) K':=by
   intro K' lj;rw[←lu]at lj;rcases cA (aO (bz b).1 b t false)with q|q
   ·rw[q]at lj ⊢;refine ay ?_;refine Za (v:=aN t.phase) (ld pt rfl) ?_;refine ay ?_;refine Za (v:=aN s.phase) (ld st rfl) ?_;refine ae ?_;rcases cA (decide (t.phase≠s.phase))with u|u
    ·rw[u]at lj ⊢;refine ay (Za (v:=.bool s.bV) (ld st rfl) (ay ?_));simpa using lj
    ·rw[u]at lj ⊢;refine ay ?_;simpa using lj
   ·rw[q]at lj ⊢;refine ay ?_;simpa using lj
  refine tW _ ?_;clear tW;rcases cA (aO (bz b).1 b s true)with hm|hm
  rotate_left
  ·rw[hm];refine ay (Yd (cX (row':=aZ) zt rfl rfl rfl) (Ze _ O7) (Zs (Xq O7 rfl) ?_));exact hE1 hm _ (at_.df (by omega) _)
  rw[hm];refine Ye (Za rfl (Za (v:=iv sd) (ld vt rfl) ?_));refine ay (vg (d:=decide (sd>1)) (v1:=.ak σ1.length 0) (v2:=iv sd) (λ_=>rfl) (λ_=>ld vt rfl) (λ_=>rfl) (XZ (d:=decide (fu<0)) (v1:=iv fu) (λ_=>rfl) (λ_=>rfl) (XZ (d:=decide (fu>1000)) (v1:=iv fu) (λ_=>rfl) (λ_=>rfl) ?_)));have ou:Xs b sd fu l=true→∀K':aa→Prop,True:=λ_ _=>trivial;have rz:∀K':KT,K' (.bool (Xs b sd fu l)) τ →
    VV.gr (.bool (((decide (sd<0)||decide (sd>1))||decide (fu<0))||decide (fu>1000))) false (λk=>VV.rd (Qe true 2 [.ak σ.length 0] τ) k) λt64=>
    VV.gr (.bool (((decide (sd<0)||decide (sd>1))||decide (fu<0))||decide (fu>1000))) false (λk=>VV.rd (qM [gY l] τ) k) λt65=>
    VV.gw (.bool (((decide (sd<0)||decide (sd>1))||decide (fu<0))||decide (fu>1000))) false (λk=>VV.call (.call 46) [t64,t65] τ k) τ λt66 σ=>
    VV.gr (.bool (((decide (sd<0)||decide (sd>1))||decide (fu<0))||decide (fu>1000))) false (λk=>VV.rd (tH .not [t66] σ) k) λt67=>
    VV.rd (Zo [(.bool (((decide (sd<0)||decide (sd>1))||decide (fu<0))||decide (fu>1000))),(.bool true),t67] σ) (λv=>K' v σ):=by
   intro K' lj;unfold Xs at lj;rcases cA (((decide (sd<0)||decide (sd>1))||decide (fu<0))||decide (fu>1000))with q|q
   ·rw[q]at lj ⊢;exact ay lj
   ·rw[q]at lj ⊢;refine Qa (Za (v:=cC b) (ld bt rfl) ?_);refine ay (aY (c202 b hf bY jh l hl vl) g46.ok ?_);refine ay lj
  refine rz _ ?_;clear rz ou;rcases cA (Xs b sd fu l)with hb|hb
  ·rw[hb];refine ay (Yd (cX (row':=aZ) zt rfl rfl rfl) (Ze _ O7) (Zs (Xq O7 rfl) ?_));exact hE2 hm hb _ (at_.df (by omega) _)
  rw[hb];refine Ye ?_;have cj:=hb;unfold Xs at cj;simp only[zAv,sG,zBh]at cj;obtain⟨⟨⟨⟨h1,h2⟩,h3⟩,h4⟩,h5⟩:=cj;have cN:=(Xo.1 hm).1;have hM:=(Xo.1 hm).2;obtain⟨T7,uN⟩:=HP h5;refine Xf (v:=cC b) (ld bt rfl) (Zg _) (Xf (v:=bZ s) (ld st rfl) (Zg _) (Y9 (vN s hs) g20.ok (Xf (v:=.agg [iv sd,iv tg]) (ld vt rfl) (Zg _) (Zi (v:=.agg (dt b s sd tg .an fu .bH)) rfl ?_))));refine Xf (v:=.ak τ.length 0) (rd:=[]) (up:=[(τ.length,.box (dt b s sd tg .an fu .bH))]) rfl (Xe τ _) ?_;have qA:=Yb bt;have ir:=Yb st;have KX:=Yb vt;have w1:τ.length≠σ.length:=by omega
  have w2:τ.length≠σ0.length:=by omega
  have w3:τ.length≠σ1.length:=by omega
  have w4:τ.length≠σ2.length:=by omega
  refine Zw (by rfl) ?_;have S6:=at_.jX (.box (dt b s sd tg .an fu .bH));have rt2:=Yc τ (.box (dt b s sd tg .an fu .bH));have zt2:=Qb [ab.box (dt b s sd tg .an fu .bH)] zt;have aal:(τ++[ab.box (dt b s sd tg .an fu .bH)]).length=τ.length+1:=by simp
  generalize τ++[ab.box (dt b s sd tg .an fu .bH)]=τ2 at *;refine Qd hP (f:=47) rfl g47.ok rfl (LC b (b.ai++[nC b.ai l]) sd tg (by omega) hf bY cN l τ2 τ.length s fu .bH .an [] N C 1 _ rt2 (.inl ⟨rfl,rfl⟩) hl T7 uN ⟨hM,hT,hC⟩ (by omega) (by omega) (by simp;omega) (by omega) (by omega) (λv τ3 hD=>?_));obtain⟨cB,lA,p1,p2,rfl,p4⟩:=hD;rw[zAM]at p4;have lj:=hK hm hb;generalize runs b sd tg l s fu=r at *;have aaz:∃cs,True:=⟨0,trivial⟩;have vo:LV τ.length [] aa.an τ2:=.inl ⟨rfl,rfl⟩;have zt3:=p1.get vo zt2 w4.symm;have yA:=Yb zt3;refine Zi rfl (Zi rfl (Xf (v:=bZ r.2.1) (ld p2 rfl) (Zg _) (Zi rfl (Zi rfl (Xf (v:=cB) (ld p2 rfl) (Zg _) (Zi rfl (Zi rfl (Xf (v:=iv r.2.2.1) (ld p2 rfl) (Zg _) ?_))))))));refine Xf (cX (row':=aI r.2.1) zt3 rfl rfl rfl) (Ze _ yA) (Zw (by simp[Zj,Xn,Zn,Qv,cf,dZ,zAC,zAc,w4,w4.symm]) (Zs (Xq yA rfl) ?_));have j4:∀k n,cB=.sl k 0 n false→τ2.length<=k:=by
   intro k n e;rcases p1.new k n e with h|⟨m,h⟩<;>simp_all
  have at3:du σ τ3 []:=⟨zAY S6.1 p1.len,λk hk _=>by rw[p1.bT k (zAJ hk S6.1) (by omega) (by intro n e;cases e),S6.2 k hk (by simp)]⟩;refine lj _ cB (at3.df (by omega) _) ?_ (λk n e=>by have:=j4 k n e;omega);have Kx:=p4.lw;rcases Kx with h|⟨g0,c,rows,g1,g2,g9993⟩
  ·exact .inl h
  ·refine .inr ⟨g0,c,rows,g1,?_,g9993⟩;have:=j4 c _ g1;rw[Xc _ (Yb g2) (by omega)];exact g2
 rcases cA ((s.phase==1)&&((s.ao.length:Int)==0))with hq|hq
 ·rw[hq];simp only[AI,beq_iff_eq]at hq;have hlp:=Yb p4;refine Yh (Za rfl (Yd (cX (row:=aI s) (row':=aI { s with phase:=0 }) p4 rfl rfl rfl) (Ze _ hlp) ?_));refine ny { s with phase:=0 } _ ⟨hs.ao,hs.s0,hs.s1⟩ (a4.df (by omega) _) (Zb b4 (by simp) (by omega)) (Zb s4 (by simp) (by omega)) (Zb v4 (by simp) (by omega)) (Zb z4 (by simp) (by omega)) (Zd _ hlp) ?_
  grind [Zbl]
 ·rw[hq];refine Ye (ny s _ hs a4 b4 s4 v4 z4 p4 ?_);rw[show decide (s.phase≠s.phase)=false from by simp];simp only[Bool.false_and,Bool.not_false,zAz];rw[zAk]
  grind [Yb8,RY]
end Go.Ah.Tz
end
section
namespace Go.Ah
theorem Tidy.map{σ:List ab}{v:aa}(φ:aa→aa)(hφ:∀(M:Nat→Option Obj) (c:Own) (x:aa) (u:Value),Den M c x u→Den M c (φ x) u):Tidy σ v (σ.map (λb=>b.dC φ)) v:=by
 intro GL w0 L g w r u d;have back:∀k blk,hp (σ.map (λb=>b.dC φ)) k=some blk→∃b0,hp σ k=some b0∧blk=b0.dC φ:=by
  intro k blk e;have e:(σ.map (λb=>b.dC φ))[k]?=some blk:=e;rw[zAX,Option.map_eq_some_iff]at e;obtain⟨b0,h1,h2⟩:=e;exact⟨b0,h1,h2.symm⟩
 refine⟨g.c,?_,d⟩;exact {
  keeps:=r.keeps
  aX:=r.aX
  src:=r.src
  cr:=r.cr
  d_:=λk e=>r.d_ k (by
   have e:(σ.map (λb=>b.dC φ))[k]?=none:=e;rw[zAX,Option.map_eq_none_iff]at e;exact e)
  jn:=λk blk e=>by
   obtain⟨b0,h1,_⟩:=back k blk e;exact r.jn k b0 h1
  own:=λk blk cb e hl ec hv=>by
   obtain⟨b0,h1,rfl⟩:=back k blk e;rw[ab.bR]at hl;obtain⟨q1,q2,o,q3,q4⟩:=r.own k b0 cb h1 hl ec hv;exact⟨q1,q2,o,q3,q4.dC (p:=λ_=>True) (λx v _ d=>hφ _ _ x v d) (ab.all_true _)⟩
  bc:=λk blk cb e hl ec hv=>by
   obtain⟨b0,h1,rfl⟩:=back k blk e;rw[ab.bR]at hl;have:=r.bc k b0 cb h1 hl ec hv;subst this;rfl
  inj:=λk k' x x' sg cb2 e1 e2 l1 l2 c1 qR v1 v2 iC=>by
   obtain⟨y,h1,rfl⟩:=back k x e1;obtain⟨y',uG,rfl⟩:=back k' x' e2;rw[ab.bR]at l1 l2;exact r.inj k k' y y' sg cb2 h1 uG l1 l2 c1 qR v1 v2 iC }
end Go.Ah
namespace Go.Ah.Tz
open Go.Proofs.Tryz (prog)
set_option maxRecDepth 100000
def pJ(x:aa):aa:=match x with
 |.an=>.aU false false 1 []
 |x=>x
theorem XcG(M:Nat→Option Obj)(c:Own)(x:aa)(u:Value)(d:Den M c x u):Den M c (pJ x) u:=by
 cases x with
 |an=>exact d.e_ 1
 |_=>exact d
theorem ZcC{rows:List (List aa)}{l:List Ev}(h:eU rows l):rows.map (λr=>r.map pJ)=l.map dF:=by
 induction h with
 |nil=>rfl
 |snoc rows l e cv _ nu ih=>
  simp only[zAe,zAN,zBC,ih]
  congr 1
  rcases nu with rfl|⟨rfl,h⟩
  ·rfl
  ·rw[dF,h];rfl
theorem Ydj{rows:List (List aa)}{l:List Ev}(h:eU rows l):∀r∈rows,ga r=true:=by
 induction h with
 |nil=>intro r hr;simp at hr
 |snoc rows l e cv _ nu ih=>
  intro r hr;rcases zAI.1 hr with hr|hr
  ·exact ih r hr
  ·rw[zAw]at hr;subst hr;rcases nu with rfl|⟨rfl,_⟩<;>rfl
theorem LW.GP{l:List Ev}{lv:aa}{σ:List ab}(h:LW l lv σ)(s:St)(b c:Int):∃rd,aB (hp σ) rd (.bp [bZ s,lv,iv b,iv c]) (.bp [bZ s,.aU false false 7 (l.map dF),iv b,iv c]):=by
 rcases h with ⟨rfl,rfl⟩|⟨_,k,rows,rfl,hk,hR⟩
 ·exact⟨[],aB.bp (.cons (aB.ro rfl) (.cons (aB.nl 7) (.cons (aB.ro rfl) (.cons (aB.ro rfl) .nil))))⟩
 ·refine⟨[k],aB.bp (.cons (aB.ro rfl) (.cons (aB.dY (y:=.aU false false 7 (l.map dF)) ?_ (λM u d=>d)) (.cons (aB.ro rfl) (.cons (aB.ro rfl) .nil))))⟩;refine aB.dY (y:=.aU false false 7 (l.map dF)) (aB.dY (aB.sl (rs:=rows) (rs':=l.map dF) (Xw hk (by simp)) (by simp) (by rw[hR.len];omega) (by simp) (λi row row' q1 q2=>?_)) (λM u d=>d.gS)) (λM u d=>d);rw[No]at q1;have hm:=ZcC hR;have h1:(rows.map λr=>r.map pJ)[i]?=some (row.map pJ):=by rw[zAX,q1];rfl
  rw[hm,q2]at h1;cases h1;have kY:=Ydj hR row (zAK q1);clear hm q2 q1
  induction row with
  |nil=>exact .nil
  |cons x row ih=>
   simp only[ga,AI]at kY;exact .cons (aB.dY (aB.ro kY.1) (λM u d=>XcG M bA x u d)) (ih kY.2)
section
variable (b:Bk) (hf:a_ b=true) (bY:Yg b.ai) (jh:b.ai.length<=61) (s:St) (hs:bd 1000000000 s) (sd tg fu:Int) (l:List Ef) (hl:bE l=true) (vl:(bw l).length<=500000000) (N C:Nat) (hT:TB N s) (hN:N+12000<=1000000) (hC:Zm s<=C) (pX:C+200<=1000000)
 (hm:aO (bz b).1 b s true=true) (hb:Xs b sd fu l=false)
include hf bY jh hs hl vl hT hN hC pX hm hb
theorem Tm:PC 23 [cC b,bZ s,.agg [iv sd,iv tg],gY l,iv fu] (.bp [bZ (runs b sd tg l s fu).2.1,.aU false false 7 ((runs b sd tg l s fu).2.2.2.map dF),iv (runs b sd tg l s fu).2.2.1,iv (runs b sd tg l s fu).1]):=by
 exact Qi hP g23.ok rfl (SK b hf bY jh s hs sd tg fu l hl vl N C hT hN hC pX (λh=>by rw[hm]at h;cases h) (λ_ h=>by rw[hb]at h;cases h) (λ_ _ σ' lv _ h _=>h.GP _ _ _))
end
end Go.Ah.Tz
end
section
namespace Go.Ah.Tz
open Go.Proofs.Tryz (prog)
set_option maxRecDepth 100000
def bN(s:St):Int:=if s.s0.aV<=0∧s.s1.aV<=0 then 3 else if s.s0.aV<=0 then 2 else if s.s1.aV<=0 then 1 else 0
def yN(b:Bk)(s:St)(r:Int):Bool:=!(((decide (r<=0)||decide (r>3))||(s.phase==2)) || !aO (bz b).1 b s true)
def eo(b:Bk)(s:St)(r:Int):St×Ev:=if yN b s r=true then ({ s with phase:=2,ao:=[],result:=r },⟨15,0,0,0,0,r,[]⟩)else (s,jm)
attribute [local irreducible] aF.rd aF.pu aF.wr aF.dr aF.gr aF.gw aF.gl aF.gd aF.opt cI W
set_option maxHeartbeats 4000000
theorem Qd6(b:Bool):decide ((bif b then (0:Int)else 170)=0)=b:=by cases b<;>rfl
theorem w209(b:Bk)(hf:a_ b=true)(bY:Yg b.ai)(s:St)(hs:bd 1000000000 s){σ:List ab}{bb sb:Nat}(h1:aj σ bb=.box (cy b))(h2:aj σ sb=.box (aI s)){K:KT}
 (hK:∀σ',du σ σ' []→K (.bool (aO (bz b).1 b s true)) σ'):g19.u VV [.ak bb 0,.ak sb 0] σ K:=by
 rw[H2.e];unfold g19;dsimp only;refine Za rfl (Za (v:=bZ s) (ld h2 rfl) (Qu (row:=aI s) (row':=aI s) rfl rfl rfl ?_));have a1:=du.jY σ (.box (aI s));have b1:=Qb [ab.box (aI s)] h1;have s1:=Qb [ab.box (aI s)] h2;have p1:=Yc σ (.box (aI s));have hlb:=Yb h1;have oM:(σ++[ab.box (aI s)]).length=σ.length+1:=by simp
 generalize σ++[ab.box (aI s)]=σ1 at *;refine Za rfl (Za rfl (Za (v:=aN s.phase) (ld s1 rfl) ?_));refine ay ?_;refine Zez (d:=((s.ao.length:Int)==0)) (v1:=.ak sb 0) (v2:=.ak sb 0) (v3:=.ak sb 5) (v4:=aP s.ao) (v5:=iv s.ao.length) (q5:=[]) (λ_=>rfl) (λ_=>rfl) (λ_=>rfl) (λ_=>ld s1 rfl) (λ_=>by simp[Qn]) (λ_=>rfl) ?_;refine Qg λk' ek=>?_;have ny:∀(t:St) (τ:List ab),bd 1000000000 t→du σ τ []→aj τ bb=.box (cy b)→aj τ σ.length=.box (aI t)→aO (bz b).1 b t false=aO (bz b).1 b s true→k' [] τ:=by
  intro t τ KU at_ bt pt lu;rw[ek];refine Za rfl (Za (v:=cC b) (ld bt rfl) (Za (v:=bZ t) (ld pt rfl) (aY (c55 b hf bY t KU) g43.ok (Za (Ys ..) ?_))));rw[Qd6,lu];exact hK _ at_
 rcases cA ((s.phase==1)&&((s.ao.length:Int)==0))with hq|hq
 ·rw[hq];simp only[AI,beq_iff_eq]at hq;have hm:=Zbl (e:=(bz b).1) (b:=b) hq.1 (by omega);refine ay (Za (v:=.bool s.bV) (ld s1 rfl) (Za rfl (Ya (λh=>?_) (λh=>?_))))
  ·simp_all
  ·have h:s.bV=true:=by simpa using h
   rw[h,zAz]at hm;refine Za rfl (Yd (cX (row:=aI s) (row':=aI { s with phase:=0 }) p1 rfl rfl rfl) (Ze _ (by omega)) ?_);exact ny { s with phase:=0 } _ ⟨hs.ao,hs.s0,hs.s1⟩ (a1.df (by omega) _) (Zb b1 (by simp) (by omega)) (Zd _ (by omega)) hm.symm
 ·rw[hq];refine Ye (ny s _ hs a1 b1 p1 ?_);rw[zAk]
  grind [Yb8,RY]
theorem w212(s:St){σ:List ab}{sb:Nat}(h2:aj σ sb=.box (aI s)){K:KT}(hK:K (aN (bN s)) σ):g27.u VV [.ak sb 0] σ K:=by
 rw[H1.e];unfold g27;dsimp only;refine ay ?_;refine Za (v:=iv s.s0.aV) (ld h2 rfl) ?_;refine ay ?_;refine Za (v:=iv s.s1.aV) (ld h2 rfl) ?_;refine ay ?_;refine Qey (d:=decide (s.s1.aV<=0)) (λ_=>rfl) ?_;by_cases a:s.s0.aV<=0<;>by_cases c:s.s1.aV<=0
 ·rw[fk a,fk c];have:bN s=3:=by simp[bN,a,c]
  rw[this]at hK;exact Yh hK
 ·rw[fk a,gm c];have:bN s=2:=by simp[bN,a,c]
  rw[this]at hK;exact Ye (Yh hK)
 ·rw[gm a,fk c];have:bN s=1:=by simp[bN,a,c]
  rw[this]at hK;exact ay hK
 ·rw[gm a,gm c];have:bN s=0:=by simp[bN,a,c]
  rw[this]at hK;exact Ye (Ye (Ye hK))
theorem q98(b:Bk)(hf:a_ b=true)(bY:Yg b.ai)(s:St)(hs:bd 1000000000 s)(r:Int):PC 13 [cC b,bZ s,aN r] (.bp [bZ (eo b s r).1,wa (eo b s r).2]):=by
 refine Qi hP g13.ok rfl ?_;rw[H3.e];unfold g13;dsimp only;refine Yd (v:=.ak 0 0) (rd:=[]) (up:=[(0,.box (cy b))]) rfl (Xe [] _) (Yd (v:=.ak 1 0) (rd:=[]) (up:=[(1,.box (aI s))]) rfl (Xe [ab.box (cy b)] _) (Yd (v:=.ak 2 0) (rd:=[]) (up:=[(2,.box aZ)]) rfl (Xe [ab.box (cy b),.box (aI s)] _) (Yd (v:=.ak 3 0) (rd:=[]) (up:=[(3,.box bX)]) rfl (Xe [ab.box (cy b),.box (aI s),.box aZ] _) (Za (v:=bZ s) (ld (row:=aI s) rfl rfl) (aY (vN s hs) g20.ok (Qu (row:=aI s) (row':=aI s) rfl rfl rfl ?_))))));have key:∃σ:List ab,σ=[ab.box (cy b),.box (aI s),.box aZ,.box bX]++[.box (aI s)]:=⟨_,rfl⟩;obtain⟨σ,eσ⟩:=key;rw[show ([ab.box (cy b),.box (aI s),.box aZ]++[.box bX]++[.box (aI s)]:List ab)=σ by rw[eσ];rfl];rw[show ([ab.box (cy b),.box (aI s),.box aZ]++[.box bX]:List ab).length=4 from rfl];have b1:aj σ 0=.box (cy b):=by rw[eσ];rfl
 have s1:aj σ 1=.box (aI s):=by rw[eσ];rfl
 have z1:aj σ 2=.box aZ:=by rw[eσ];rfl
 have e1:aj σ 3=.box bX:=by rw[eσ];rfl
 have o1:aj σ 4=.box (aI s):=by rw[eσ];rfl
 have hl:σ.length=5:=by rw[eσ];rfl
 clear eσ;refine Za (v:=.bool (decide (r<=0))) rfl (XZ (d:=decide (r>3)) (v1:=aN r) (λ_=>rfl) (λ_=>rfl) (vg (d:=(s.phase==2)) (v1:=.ak 1 2) (v2:=aN s.phase) (λ_=>rfl) (λ_=>ld s1 rfl) (λ_=>rfl) ?_));have rz:∀K':KT,(∀τ,du σ τ []→K' (.bool (!yN b s r)) τ) →
   VV.gw (.bool ((decide (r<=0)||decide (r>3))||(s.phase==2))) false (λk=>VV.call (.call 19) [.ak 0 0,.ak 1 0] σ k) σ λt23 σ=>
   VV.gr (.bool ((decide (r<=0)||decide (r>3))||(s.phase==2))) false (λk=>VV.rd (tH .not [t23] σ) k) λt24=>
   VV.rd (Zo [.bool ((decide (r<=0)||decide (r>3))||(s.phase==2)),.bool true,t24] σ) (λv=>K' v σ):=by
  intro K' lj;unfold yN at lj;rcases cA ((decide (r<=0)||decide (r>3))||(s.phase==2))with q|q
  ·rw[q]at lj ⊢;have:=lj σ ⟨IT _,λ_ _ _=>rfl⟩;exact Yx rfl (Zc rfl (Za rfl (by simpa using this)))
  ·rw[q]at lj ⊢;refine Yq (Qd hP (f:=19) rfl g19.ok rfl (w209 b hf bY s hs b1 s1 λτ hτ=>Qa (Za rfl (Za rfl ?_))));simp_all
 refine rz _ λτ hτ=>?_;clear rz;have z2:=hτ.get z1;have e2:=hτ.get e1;have o2:=hτ.get o1;have l2:=Yb z2;have l3:=Yb e2;have l4:=Yb o2;rcases cA (yN b s r)with q|q
 ·have hr:0<r∧r<=3:=by have q:=q;simp only[yN,zAf,zAv,sG]at q;omega
  rw[q];refine Ye (Za rfl (Yd (cX (row':=aI { s with phase:=2 }) o2 rfl rfl rfl) (Ze _ l4) ?_));have o3:aj (τ.set 4 (.box (aI { s with phase:=2 }))) 4=.box (aI { s with phase:=2 }):=Zd _ l4;have z3:=Zb (x:=.box (aI { s with phase:=2 })) z2 (by simp) (show 4≠2 by decide);have e3:=Zb (x:=.box (aI { s with phase:=2 })) e2 (by simp) (show 4≠3 by decide);have k4:4<(τ.set 4 (.box (aI { s with phase:=2 }))).length:=by simpa using l4
  have k3:3<(τ.set 4 (.box (aI { s with phase:=2 }))).length:=by simpa using l3
  generalize τ.set 4 (.box (aI { s with phase:=2 }))=τ1 at *;have key:∀row,∃row',cc 5 [aa.an] (aI { s with phase:=2 })=some row'∧row'=row→True:=λ_=>⟨[],λ_=>trivial⟩
  let X:List aa:=tl { s with phase:=2,ao:=[],result:=s.result } .an (aP s.s0.az) (aP s.s0.hand) (aP s.s0.al) (gU s.s0.af) (aP s.s0.told) (aP s.s1.az) (aP s.s1.hand) (aP s.s1.al) (gU s.s1.af) (aP s.s1.told)
  let Y:List aa:=tl { s with phase:=2,ao:=[],result:=r } .an (aP s.s0.az) (aP s.s0.hand) (aP s.s0.al) (gU s.s0.af) (aP s.s0.told) (aP s.s1.az) (aP s.s1.hand) (aP s.s1.al) (gU s.s1.af) (aP s.s1.told)
  refine Za rfl (Yd (cX (row':=X) o3 rfl rfl rfl) (Ze _ k4) ?_);have o4:aj (τ1.set 4 (.box X)) 4=.box X:=Zd _ k4;have z4:=Zb (x:=.box X) z3 (by simp) (show 4≠2 by decide);have e4:=Zb (x:=.box X) e3 (by simp) (show 4≠3 by decide);have m4:4<(τ1.set 4 (.box X)).length:=by simpa using k4
  generalize τ1.set 4 (.box X)=τ2 at *;refine Za rfl (Yd (cX (row':=Y) o4 rfl rfl rfl) (Ze _ m4) ?_);have o5:aj (τ2.set 4 (.box Y)) 4=.box Y:=Zd _ m4;have z5:=Zb (x:=.box Y) z4 (by simp) (show 4≠2 by decide);have e5:=Zb (x:=.box Y) e4 (by simp) (show 4≠3 by decide);have m5:4<(τ2.set 4 (.box Y)).length:=by simpa using m4
  generalize τ2.set 4 (.box Y)=τ3 at *;refine Za (v:=.agg Y) (ld o5 rfl) (Za (v:=iv r) (by show GM .i64 [.int .i8 r] τ3=_;simp only[GM];rw[zAZ _ (by omega)]) (Za (v:=.agg [aN 15,iv 0,iv 0,iv 0,iv 0,iv r,.an]) rfl ?_));refine Yd (cX (row':=Y) z5 rfl rfl rfl) (Ze _ (by omega)) ?_;have z6:aj (τ3.set 2 (.box Y)) 2=.box Y:=Zd _ (by omega);have e6:=Zb (x:=.box Y) e5 (by simp) (show 2≠3 by decide);have m6:4<(τ3.set 2 (.box Y)).length:=by simpa using m5
  generalize τ3.set 2 (.box Y)=τ4 at *;refine Yd (cX (row':=[aN 15,iv 0,iv 0,iv 0,iv 0,iv r,.an]) e6 rfl rfl rfl) (Ze _ (by omega)) (Zs (Sw (Zb z6 (by simp) (show 3≠2 by decide)) rfl) (Zs (Xq (by omega) rfl) ?_));unfold eo;rw[aJ q];exact⟨[],aB.bp (.cons (SB.agg (SB.mk (s:={ s with phase:=2,ao:=[],result:=r }) .an (RI.ro _) (RI.ro _) (RI.ro _) (RT.ro _) (RI.ro _) (RI.ro _) (RI.ro _) (RI.ro _) (RT.ro _) (RI.ro _))) (.cons (o8 (e:=⟨15,0,0,0,0,r,[]⟩) RI.an) .nil))⟩
 ·rw[q];refine Yh (Za (v:=bZ s) (ld o2 rfl) ?_);refine ay (Yd (cX (row':=aI s) z2 rfl rfl rfl) (Ze _ l2) ?_);have e3:=Zb (x:=.box (aI s)) e2 (by simp) (show 2≠3 by decide);have z3:aj (τ.set 2 (.box (aI s))) 2=.box (aI s):=Zd _ l2;have k3:3<(τ.set 2 (.box (aI s))).length:=by simpa using l3
  generalize τ.set 2 (.box (aI s))=τ1 at *;refine Yd (cX (row':=bX) e3 rfl rfl rfl) (Ze _ k3) (Zs (Sw (Zb z3 (by simp) (show 3≠2 by decide)) rfl) (Zs (Xq k3 rfl) ?_));unfold eo;rw[aE (by rw[q];simp)];exact⟨[],aB.bp (.cons (SB.agg (SB.ro s)) (.cons (o8 (e:=jm) RI.an) .nil))⟩
structure Tr where
 card:Int
 side:Int
 dR:Bool
@[reducible] def dH(x:Tr):List aa:=[iv x.card,iv x.side,.bool x.dR]
@[reducible] def nG(l:List Tr):aa:=.aU false false 3 (l.map dH)
def LE(l:List Ev)(lv:aa)(σ:List ab):Prop:=(l=[]∧lv=.an)∨∃c rows,lv=.sl c 0 l.length false∧aj σ c=.rows 7 rows∧eU rows l
def QW(ws:List Tr)(qv:aa)(σ:List ab):Prop:=(ws=[]∧qv=.an)∨∃c off rows,qv=.sl c off ws.length false∧aj σ c=.rows 3 rows∧rows.length=ws.length+off∧rows.drop off=ws.map dH
def Kq(ex:List Nat)(sz:Nat)(σ σ':List ab):Prop:=σ.length<=σ'.length∧∀k,k<σ.length→k∉ex→(∀r,aj σ k≠.rows sz r)→aj σ' k=aj σ k
theorem Kq.trans{ex:List Nat}{sz:Nat}{σ τ υ:List ab}(h:Kq ex sz σ τ)(q:Kq ex sz τ υ):Kq ex sz σ υ:=
 ⟨zAY h.1 q.1,λk hk hn hr=>by rw[q.2 k (zAJ hk h.1) hn (by rw[h.2 k hk hn hr];exact hr),h.2 k hk hn hr]⟩
theorem Kq.h_{σ σ':List ab}(h:du σ σ' [])(ex:List Nat)(sz:Nat):Kq ex sz σ σ':=⟨h.1,λk hk _ _=>h.2 k hk (by simp)⟩
theorem Kq.app(ex:List Nat)(sz:Nat)(σ l:List ab):Kq ex sz σ (σ++l):=⟨by simp,λ_ hk _ _=>Yf l hk⟩
theorem Kq.set{ex:List Nat}(sz:Nat)(σ:List ab){b:Nat}(x:ab)(h:b∈ex):Kq ex sz σ (σ.set b x):=
 ⟨by simp,λk hk hn _=>Xc x hk (λe=>hn (e▸h))⟩
theorem Kq.df{ex:List Nat}{sz:Nat}{σ τ:List ab}(h:Kq ex sz σ τ){b:Nat}(hb:σ.length<=b)(x:ab):Kq ex sz σ (τ.set b x):=
 ⟨by simpa using h.1,λk hk hn hr=>by rw[Xc x (zAJ hk h.1) (by omega),h.2 k hk hn hr]⟩
theorem Kq.more{ex vj:List Nat}{sz:Nat}{σ τ:List ab}(h:Kq ex sz σ τ)(hs:∀k∈ex,k∈vj):Kq vj sz σ τ:=⟨h.1,λk hk hn hr=>h.2 k hk (λe=>hn (hs k e)) hr⟩
theorem Kq.box{ex:List Nat}{sz:Nat}{σ τ:List ab}(h:Kq ex sz σ τ){k:Nat}{row:List aa}(hk:aj σ k=.box row)(hn:k∉ex:=by simp;omega):aj τ k=.box row:=by
 rw[h.2 k (Yb hk) hn (by rw[hk];simp),hk]
theorem Kq.rows{ex:List Nat}{sz s:Nat}{σ τ:List ab}(h:Kq ex sz σ τ){k:Nat}{rs:List (List aa)}(hk:aj σ k=.rows s rs)(hn:k∉ex)(hs:s≠sz):aj τ k=.rows s rs:=by
 rw[h.2 k (Yb hk) hn (by simp_all),hk]
def Bx(σ:List ab)(ex:List Nat):Prop:=∀k∈ex,∃row,aj σ k=.box row
theorem Bx.rows{σ:List ab}{ex:List Nat}(h:Bx σ ex){k s:Nat}{rs:List (List aa)}(hk:aj σ k=.rows s rs):k∉ex:=by
 intro e;obtain⟨row,hr⟩:=h k e;rw[hk]at hr;cases hr
theorem LE.mono{l:List Ev}{lv:aa}{σ τ:List ab}(h:LE l lv σ)(hk:∀c rs,aj σ c=.rows 7 rs→aj τ c=.rows 7 rs):LE l lv τ:=by
 rcases h with h|⟨c,rows,h1,h2,h3⟩
 ·exact .inl h
 ·exact .inr ⟨c,rows,h1,hk _ _ h2,h3⟩
theorem QW.mono{ws:List Tr}{qv:aa}{σ τ:List ab}(h:QW ws qv σ)(hk:∀c rs,aj σ c=.rows 3 rs→aj τ c=.rows 3 rs):QW ws qv τ:=by
 rcases h with h|⟨c,off,rows,h1,h2,h3⟩
 ·exact .inl h
 ·exact .inr ⟨c,off,rows,h1,hk _ _ h2,h3⟩
theorem QC{σ:List ab}(l:List ab){c s:Nat}{rs:List (List aa)}(h:aj σ c=.rows s rs):aj (σ++l) c=.rows s rs:=Qb l h
theorem XB{σ:List ab}{b c s:Nat}{rs:List (List aa)}{row:List aa}(x:ab)(hb:aj σ b=.box row)(h:aj σ c=.rows s rs):aj (σ.set b x) c=.rows s rs:=
 Zb h (by simp) (by rintro rfl;rw[hb]at h;cases h)
theorem QP(n by_:Nat){σ:List ab}{c off len:Nat}{rs ys:List (List aa)}{y:aa}{rd:List Nat}(hc:aj σ c=.rows n rs)(hl:rs.length=len+off)(hy:Xk n σ y=some (ys,rd))(hr:aW ys=true)(bM:(2*(len+ys.length)+192)*by_<=2 ^ 48) :
  Qf n by_ [.sl c off len false,y] σ=.ok (.sl σ.length 0 (len+ys.length) false) rd ([(c,.dead)]++[(σ.length,.rows n (rs.drop off++ys))]):=by
 simp_all [Qf,XD,yX,sh]
theorem Cc(n by_:Nat){σ:List ab}{ys:List (List aa)}{y:aa}{rd:List Nat}(hy:Xk n σ y=some (ys,rd))(hr:aW ys=true)(bM:(2*ys.length+192)*by_<=2 ^ 48) :
  Qf n by_ [.an,y] σ=.ok (.sl σ.length 0 ys.length false) rd [(σ.length,.rows n ys)]:=by
 show XD n by_ σ [] [] y=_;simp_all [XD,sh]
theorem Gl{n:Nat}{σ:List ab}{e nn:Bool}{rows:List (List aa)}:Xk n σ (.aU e nn n rows)=some (rows,[]):=by
 simp[Xk]
theorem SL{n:Nat}{σ:List ab}{c:Nat}{row:List aa}(hc:aj σ c=.rows n [row]):Xk n σ (.sl c 0 1 true)=some ([row],[c]):=Y0 hc rfl
theorem ZcL(l:List Tr):aW (l.map dH)=true:=XQ (λr hr=>by obtain⟨x,_,rfl⟩:=zAt.1 hr;rfl)
theorem eU.app{rows ys:List (List aa)}{l m:List Ev}(h:eU rows l)(k:eU ys m):eU (rows++ys) (l++m):=by
 induction k with
 |nil=>simpa using h
 |snoc aao l2 e cv _ nu ih=>rw[←zAa,←zAa];exact .snoc _ _ _ _ ih nu
theorem Zb4:∀(m:List Ev) {rows:List (List aa)} {l:List Ev},eU rows l→eU (rows++m.map dF) (l++m)
 |[],rows,l,h=>by simpa using h
 |e::m,rows,l,h=>by
  have:=Zb4 m (eU.snoc rows l e (aP e.ai) h (.inl rfl));simpa[zAa]using this
theorem SP(l:List Ev):eU (l.map dF) l:=by simpa using Zb4 l .nil
theorem Yb4:∀(m:List Ev) {rows:List (List aa)} {l:List Ev},(∀e∈m,e.ai=[])→eU rows l→eU (rows++m.map CO) (l++m)
 |[],rows,l,_,h=>by simpa using h
 |e::m,rows,l,hm,h=>by
  have:=Yb4 m (λx hx=>hm x (by simp[hx])) (eU.snoc rows l e .an h (.inr ⟨rfl,hm e (by simp)⟩));simp_all [CO]
theorem Yes(l:List Ev)(h:∀e∈l,e.ai=[]):eU (l.map CO) l:=by simpa using Yb4 l h .nil
theorem SA{rows:List (List aa)}{l:List Ev}(h:eU rows l):aW rows=true:=by
 refine XQ ?_
 induction h with
 |nil=>intro r hr;simp at hr
 |snoc rows l e cv _ nu ih=>
  intro r hr;rcases zAI.1 hr with hr|hr
  ·exact ih r hr
  ·rw[zAw]at hr;subst hr;rcases nu with rfl|⟨rfl,h⟩<;>rfl
theorem NA{σ:List ab}{c n:Nat}{rs:List (List aa)}(hc:aj σ c=.rows n rs)(x:ab)(ex:List Nat):Kq ex n σ (σ.set c .dead++[x]):=
 ⟨by simp,λk hk _ hr=>by
  grind [Yf,Xc]⟩
theorem w210{σ:List ab}{qb:Nat}{qv y:aa}{rd:List Nat}{ws ys:List Tr}(hq:aj σ qb=.box [qv])(hw:QW ws qv σ)(hy:Xk 3 σ y=some (ys.map dH,rd))(bM:ws.length+ys.length<=100000000){K:KT}
 (hK:∀σ' vr,aj σ' qb=.box [vr]→QW (ws++ys) vr σ'→Kq [qb] 3 σ σ'→K (.bp []) σ'):g21.u VV [.ak qb 0,y] σ K:=by
 rw[H2.e];unfold g21;dsimp only;have yy:=Yb hq;refine Za rfl (Za rfl (Za (v:=qv) (ld hq rfl) ?_));rcases hw with ⟨rfl,rfl⟩|⟨c,off,rows,rfl,h2,h3,h4⟩
 ·refine Yd (Cc 3 24 hy (ZcL _) (by simp at bM ⊢;omega)) (Xe σ _) ?_;have k1:=Kq.app [qb] 3 σ [.rows 3 (ys.map dH)];have q1:=Qb [ab.rows 3 (ys.map dH)] hq;have r1:=Yc σ (.rows 3 (ys.map dH));have gk:=Yb q1;generalize σ++[ab.rows 3 (ys.map dH)]=τ at *;refine Za rfl (Za rfl (Yd (cX (row':=[.sl σ.length 0 (ys.map dH).length false]) q1 rfl rfl rfl) (Ze _ gk) ?_));refine hK _ _ (Zd _ gk) (.inr ⟨σ.length,0,ys.map dH,by simp,XB _ q1 r1,by simp,by simp⟩) (k1.trans (Kq.set 3 τ _ (by simp)))
 ·have kH:=Yb h2;refine Yd (QP 3 24 h2 h3 hy (ZcL _) (by simp at bM ⊢;omega)) (XI _ _ kH) ?_;rw[h4];have k1:=NA h2 (.rows 3 (ws.map dH++ys.map dH)) [qb];have q1:aj (σ.set c .dead++[.rows 3 (ws.map dH++ys.map dH)]) qb=.box [.sl c off ws.length false]:=
   Qb _ (Zb hq (by simp) (by rintro rfl;rw[hq]at h2;cases h2))
  have r1:=AO (σ:=σ) c (.rows 3 (ws.map dH++ys.map dH));have gk:=Yb q1;generalize σ.set c .dead++[ab.rows 3 (ws.map dH++ys.map dH)]=τ at *;refine Za rfl (Za rfl (Yd (cX (row':=[.sl σ.length 0 (ws.length+(ys.map dH).length) false]) q1 rfl rfl rfl) (Ze _ gk) ?_));refine hK _ _ (Zd _ gk) (.inr ⟨σ.length,0,ws.map dH++ys.map dH,by simp,XB _ q1 r1,by simp,by simp⟩) (k1.trans (Kq.set 3 τ _ (by simp)))
theorem Zdi{σ:List ab}{c off m:Nat}{rows:List (List aa)}(hc:aj σ c=.rows 3 rows):Xy 3 [.sl c off (m+1) false,.int .i64 1] σ=.ok (.sl c (off+1) m false) [c] []:=by
 show (match aj σ c with
   |.rows s _=>bif IN s 3 then (bif Nat.blt 1 (m+1)then aA.ok (.sl c (off+1) (m+1-1) false) [c] []else bif IN 1 (m+1)then (bif IN 3 3 then .ok (.sl c (off+(m+1)) 0 false) [c] []else .ok (.aU false (Nat.blt 0 (m+1)) 3 []) [] [])else .stop)else .stop
   | _=>.stop)=_
 rw[hc];cases m with
 |zero=>rfl
 |succ m=>
  rfl
theorem w213{σ:List ab}{qb:Nat}{qv:aa}{ws:List Tr}(hq:aj σ qb=.box [qv])(hw:QW ws qv σ)(jg:ws.length<=100000000){K:KT}
 (Dq:ws=[]→∀σ',aj σ' qb=.box [qv]→QW [] qv σ'→Kq [qb] 3 σ σ'→K (.bp [.agg [iv 0,iv 0,.bool false],.bool false]) σ')
 (wq:∀x kJ,ws=x::kJ→∀σ' vr,aj σ' qb=.box [vr]→QW kJ vr σ'→Kq [qb] 3 σ σ'→K (.bp [.agg (dH x),.bool true]) σ'):g28.u VV [.ak qb 0] σ K:=by
 rw[H1.e];unfold g28;dsimp only;refine Yd (v:=.ak σ.length 0) (rd:=[]) (up:=[(σ.length,.box [iv 0,iv 0,.bool false])]) rfl (Xe σ _) ?_;have k1:=Kq.app [qb] 3 σ [.box [iv 0,iv 0,.bool false]];have q1:=Qb [ab.box [iv 0,iv 0,.bool false]] hq;have z1:=Yc σ (.box [iv 0,iv 0,.bool false]);have w1:QW ws qv (σ++[.box [iv 0,iv 0,.bool false]]):=hw.mono (λc rs h=>QC _ h);have yy:=Yb hq;have hlen:(σ++[ab.box [iv 0,iv 0,.bool false]]).length=σ.length+1:=by simp
 generalize σ++[ab.box [iv 0,iv 0,.bool false]]=τ at *;refine Za rfl (Za rfl (Za (v:=qv) (ld q1 rfl) ?_));have hz:σ.length<τ.length:=by omega
 cases ws with
 |nil=>
  have e1:Qn [qv] τ=.ok (iv 0) [] []:=by
   rcases w1 with ⟨_,rfl⟩|⟨c,off,rows,rfl,_⟩<;>rfl
  refine Za e1 (Za rfl (Yh (Za (v:=.agg [iv 0,iv 0,.bool false]) (ld z1 rfl) (Yd (cX (row':=[iv 0,iv 0,.bool false]) z1 rfl rfl rfl) (Ze _ hz) (Zs (Xq hz rfl) ?_)))));exact Dq rfl _ (Zb q1 (by simp) (by omega)) (w1.mono (λc rs h=>XB _ z1 h)) (k1.df (IT _) _)
 |cons x ws=>
  rcases w1 with ⟨h,_⟩|⟨c,off,rows,rfl,h2,h3,h4⟩
  ·cases h
  rw[IS]at *;have dN:rows[off]?=some (dH x):=by
   have:(rows.drop off)[0]?=some (dH x):=by rw[h4];rfl
   grind
  have mX:rows.drop (off+1)=ws.map dH:=by
   have:(rows.drop off).drop 1=ws.map dH:=by rw[h4];rfl
   rwa [List.drop_drop]at this
  refine Za (v:=iv (ws.length+1:Nat)) rfl (Za (Ys ..) (Ya (λh=>?_) (λ_=>?_)))
  ·simp at h;omega
  refine Za rfl (Za rfl (Za (v:=.sl c off (ws.length+1) false) (ld q1 rfl) (Za (v:=.ptr c (off+0) 0) (sE _ c off (ws.length+1) false 3 rows .i64 0 (by omega) h2) (Za (v:=.agg (dH x)) (z7 h2 dN rfl) (Yd (cX (row':=dH x) z1 rfl rfl rfl) (Ze _ hz) ?_)))));have k2:=k1.df (IT _) (.box (dH x));have q2:=Zb (x:=.box (dH x)) q1 (by simp) (show σ.length≠qb by omega);have r2:=XB (.box (dH x)) z1 h2;have z2:aj (τ.set σ.length (.box (dH x))) σ.length=.box (dH x):=Zd _ hz;have my:σ.length<(τ.set σ.length (.box (dH x))).length:=by simpa using hz
  generalize τ.set σ.length (.box (dH x))=τ2 at *;have KH:=Yb q2;refine Za rfl (Za rfl (Za (v:=.sl c off (ws.length+1) false) (ld q2 rfl) (Za (Zdi r2) (Za rfl (Za rfl (Yd (cX (row':=[.sl c (off+1) ws.length false]) q2 rfl rfl rfl) (Ze _ KH) ?_))))));have k3:=k2.trans (Kq.set 3 τ2 (.box [.sl c (off+1) ws.length false]) (show qb∈[qb] by simp));have q3:aj (τ2.set qb (.box [.sl c (off+1) ws.length false])) qb=.box [.sl c (off+1) ws.length false]:=Zd _ KH;have r3:=XB (.box [.sl c (off+1) ws.length false]) q2 r2;have z3:=Zb (x:=.box [.sl c (off+1) ws.length false]) z2 (by simp) (show qb≠σ.length by omega);have yA:σ.length<(τ2.set qb (.box [.sl c (off+1) ws.length false])).length:=by simpa using my
  generalize τ2.set qb (.box [.sl c (off+1) ws.length false])=τ3 at *;refine Za (v:=.agg (dH x)) (ld z3 rfl) (Yd (cX (row':=dH x) z3 rfl rfl rfl) (Ze _ yA) (Zs (Xq yA rfl) ?_));exact wq x ws rfl _ _ (Zb q3 (by simp) (by omega)) (.inr ⟨c,off+1,rows,rfl,XB _ z3 r3,by omega,mX⟩) (k3.df (IT _) _)
end Go.Ah.Tz
end
section
namespace Go.Ah
theorem XdH{h0:Hp}{rd:List Nat}{x:aa}:aB h0 rd x .aQ:=λ_ _ _ _ _ _ _ _ _ _ _ _=>Den.aQ _ _
end Go.Ah
namespace Go.Ah.Tz
open Go.Proofs.Tryz (prog)
set_option maxRecDepth 100000
section
variable (b:Bk) (hf:a_ b=true) (bY:Yg b.ai) (jh:b.ai.length<=61) (s:St) (hs:bd 1000000000 s) (sd tg fu:Int) (l:List Ef) (hl:bE l=true) (vl:(bw l).length<=500000000) (N C:Nat) (hT:TB N s) (hN:N+12000<=1000000) (hC:Zm s<=C) (pX:C+200<=1000000)
 (hm:aO (bz b).1 b s true=true)
include hf bY jh hs hl vl hT hN hC pX hm
theorem Tl(hb:Xs b sd fu l=false):PC 23 [cC b,bZ s,.agg [iv sd,iv tg],gY l,iv fu] (.bp [bZ (runs b sd tg l s fu).2.1,.aQ,iv (runs b sd tg l s fu).2.2.1,iv (runs b sd tg l s fu).1]):=by
 refine Qi hP g23.ok rfl ?_;exact SK b hf bY jh s hs sd tg fu l hl vl N C hT hN hC pX (λh=>by rw[hm]at h;cases h) (λ_ h=>by rw[hb]at h;cases h)
  (λ_ _ σ' lv _ _ _=>⟨[],aB.bp (.cons (aB.ro rfl) (.cons XdH (.cons (aB.ro rfl) (.cons (aB.ro rfl) .nil))))⟩)
theorem Tk(hb:Xs b sd fu l=true):PC 23 [cC b,bZ s,.agg [iv sd,iv tg],gY l,iv fu] (.bp [.agg aZ,.an,iv 0,iv 2]):=by
 exact Qi hP g23.ok rfl (SK b hf bY jh s hs sd tg fu l hl vl N C hT hN hC pX (λh=>by rw[hm]at h;cases h) (λ_ _ σ' _=>⟨[],aB.ro rfl⟩) (λ_ h=>by rw[hb]at h;cases h))
end
attribute [local irreducible] aF.rd aF.pu aF.wr aF.dr aF.gr aF.gw aF.gl aF.gd aF.opt cI W
set_option maxHeartbeats 4000000
theorem w211(b:Bk)(hf:a_ b=true)(bY:Yg b.ai)(jh:b.ai.length<=61)(cN:(bz b).1=0)(x:Tr)(l:List Ef)(hl:bE l=true)(vl:(bw l).length<=500000000){s:St}{fu:Int}{N C:Nat}(hS:cY b N C s)(hN:N+12000<=1000000)(hC:C+200<=1000000)
 {cM:List Ev}{lv:aa}{σ:List ab}{bb sb fb eb:Nat}(hb:aj σ bb=.box (cy b))(hs:aj σ sb=.box (aI s))(wF:aj σ fb=.box [iv fu])(he:aj σ eb=.box [lv])(hle:LE cM lv σ)(n1:sb≠fb)(n2:sb≠eb)(n3:fb≠eb)(bM:cM.length<=100000000){K:KT}
 (CS:Xs b x.side fu l=true→∀σ',Kq [] 7 σ σ'→K (iv 2) σ')
 (CV:Xs b x.side fu l=false→(runs b x.side (-1) l s fu).1≠0→(runs b x.side (-1) l s fu).1≠190→∀σ',Kq [] 7 σ σ'→K (iv (runs b x.side (-1) l s fu).1) σ')
 (hK:Xs b x.side fu l=false→((runs b x.side (-1) l s fu).1=0∨(runs b x.side (-1) l s fu).1=190)→∀ σ' cB,aj σ' sb=.box (aI (runs b x.side (-1) l s fu).2.1)→aj σ' fb=.box [iv (runs b x.side (-1) l s fu).2.2.1]→aj σ' eb=.box [cB] →
   LE (cM ++ (runs b x.side (-1) l s fu).2.2.2) cB σ'→Kq [sb,fb,eb] 7 σ σ'→K (iv (runs b x.side (-1) l s fu).1) σ') :
  g22.u VV [.agg (dH x),gY l,.ak bb 0,.ak sb 0,.ak fb 0,.ak eb 0] σ K:=by
 rw[H6.e];unfold g22;dsimp only;refine Yd (v:=.ak σ.length 0) (rd:=[]) (up:=[(σ.length,.box (dH x))]) rfl (Xe σ _) ?_;have k1:=Kq.app [] 7 σ [.box (dH x)];have b1:=Qb [ab.box (dH x)] hb;have s1:=Qb [ab.box (dH x)] hs;have f1:=Qb [ab.box (dH x)] wF;have e1:=Qb [ab.box (dH x)] he;have l1:LE cM lv (σ++[.box (dH x)]):=hle.mono (λc rs h=>QC _ h);have x1:=Yc σ (.box (dH x));generalize σ++[ab.box (dH x)]=τ at *;have hM:=Xo.2 ⟨cN,hS.may⟩;refine Za (v:=cC b) (ld b1 rfl) (Za (v:=bZ s) (ld s1 rfl) (Za rfl (Za (v:=iv x.side) (ld x1 rfl) ?_)));refine ay (Za (v:=iv fu) (ld f1 rfl) ?_);rcases cA (Xs b x.side fu l)with ha|ha
 ·refine aY (Tk b hf bY jh s hS.rL x.side (-1) fu l hl vl N C hS.told hN hS.ai hC hM ha) g23.ok (Za rfl (Za rfl (Za rfl (Za rfl (Qu (row:=aZ) (row':=aZ) rfl rfl rfl ?_)))));refine Za rfl (XZ (d:=false) (v1:=iv 2) (λ_=>rfl) (λ_=>rfl) ?_);exact Ye (CS ha _ (k1.trans (Kq.app [] 7 τ _)))
 have ma:=AP (b:=b) (tg:=-1) (sd:=x.side) (by
  grind [Xs]) l fu hS
 have dB:mV b l=true:=by
  simp_all [Xs]
 obtain⟨_,uN⟩:=HP dB;have aav:=(ma (by omega) (by omega)).2;clear ma;by_cases hr:(runs b x.side (-1) l s fu).1=0∨(runs b x.side (-1) l s fu).1=190;rotate_left
 ·refine aY (Tl b hf bY jh s hS.rL x.side (-1) fu l hl vl N C hS.told hN hS.ai hC hM ha) g23.ok ?_;have hz:=CV ha (λe=>hr (.inl e)) (λe=>hr (.inr e));generalize runs b x.side (-1) l s fu=r at *;refine Za rfl (Za rfl (Za rfl (Za rfl (Qu (row:=aI r.2.1) (row':=aI r.2.1) rfl rfl rfl ?_))));refine Za (Ys ..) (XZ (d:=decide (r.1=190)) (v1:=iv r.1) (λ_=>rfl) (λ_=>Ys ..) ?_);rw[show (decide (r.1=0)||decide (r.1=190))=false by simpa using hr];exact Ye (hz _ (k1.trans (Kq.app [] 7 τ _)))
 refine aY (Tm b hf bY jh s hS.rL x.side (-1) fu l hl vl N C hS.told hN hS.ai hC hM ha) g23.ok ?_;have lj:=hK ha hr;generalize runs b x.side (-1) l s fu=r at *;refine Za rfl (Za rfl (Za rfl (Za rfl (Qu (row:=aI r.2.1) (row':=aI r.2.1) rfl rfl rfl ?_))));refine Za (Ys ..) (XZ (d:=decide (r.1=190)) (v1:=iv r.1) (λ_=>rfl) (λ_=>Ys ..) ?_);rw[show (decide (r.1=0)||decide (r.1=190))=true by simpa using hr];have k2:=k1.trans (Kq.app [] 7 τ [.box (aI r.2.1)]);have s2:=Qb [ab.box (aI r.2.1)] s1;have f2:=Qb [ab.box (aI r.2.1)] f1;have e2:=Qb [ab.box (aI r.2.1)] e1;have l2:LE cM lv (τ++[.box (aI r.2.1)]):=l1.mono (λc rs h=>QC _ h);have t2:=Yc τ (.box (aI r.2.1));generalize τ.length=tn at *;generalize τ++[ab.box (aI r.2.1)]=τ2 at *;have htn:=Yb t2;have UW:=Yb s2;have rm:=Yb f2;have hel:=Yb e2;have k2':Kq [sb,fb,eb] 7 σ τ2:=k2.more (by simp);refine Yh (Xf (v:=bZ r.2.1) (ld t2 rfl) (Zg _) (Xf (v:=lv) (ld e2 rfl) (Zg _) ?_));have oz:=SA (SP r.2.2.2);have fin:∀(υ:List ab) (nv:aa),Kq [sb,fb,eb] 7 τ2 υ→aj υ sb=.box (aI s)→aj υ fb=.box [iv fu]→aj υ eb=.box [lv]→LE (cM++r.2.2.2) nv υ →
   K (iv r.1) (((υ.set sb (.box (aI r.2.1))).set fb (.box [iv r.2.2.1])).set eb (.box [nv])):=by
  intro υ nv hk hs hf he hl;have h1:=Yb hs;have h2:=Yb hf;have h3:=Yb he;have kA:=k2'.trans hk;have kB:=kA.trans (Kq.set 7 υ (.box (aI r.2.1)) (show sb∈[sb,fb,eb] by simp));have sB:aj (υ.set sb (.box (aI r.2.1))) sb=.box (aI r.2.1):=Zd _ h1;have fB:=Zb (x:=.box (aI r.2.1)) hf (by simp) n1;have eB:=Zb (x:=.box (aI r.2.1)) he (by simp) n2;have lB:LE (cM++r.2.2.2) nv (υ.set sb (.box (aI r.2.1))):=hl.mono (λc rs h=>XB _ hs h);generalize υ.set sb (.box (aI r.2.1))=υ1 at *;have TJ:=Yb fB;have kC:=kB.trans (Kq.set 7 υ1 (.box [iv r.2.2.1]) (show fb∈[sb,fb,eb] by simp));have sC:=Zb (x:=.box [iv r.2.2.1]) sB (by simp) n1.symm;have fC:aj (υ1.set fb (.box [iv r.2.2.1])) fb=.box [iv r.2.2.1]:=Zd _ TJ;have eC:=Zb (x:=.box [iv r.2.2.1]) eB (by simp) n3;have lC:LE (cM++r.2.2.2) nv (υ1.set fb (.box [iv r.2.2.1])):=lB.mono (λc rs h=>XB _ fB h);generalize υ1.set fb (.box [iv r.2.2.1])=υ2 at *;have uH:=Yb eC;exact lj _ nv (Zb sC (by simp) n2.symm) (Zb fC (by simp) n3.symm) (Zd _ uH) (lC.mono (λc rs h=>XB _ eC h)) (kC.trans (Kq.set 7 υ2 _ (by simp)))
 rcases l2 with ⟨rfl,rfl⟩|⟨c,rows,rfl,h2,h3⟩
 ·refine Xf (Cc 7 72 Gl oz (by simp;omega)) (Xe τ2 _) ?_;have hk:=Kq.app [sb,fb,eb] 7 τ2 [.rows 7 (r.2.2.2.map dF)];have s3:=Qb [ab.rows 7 (r.2.2.2.map dF)] s2;have f3:=Qb [ab.rows 7 (r.2.2.2.map dF)] f2;have e3:=Qb [ab.rows 7 (r.2.2.2.map dF)] e2;have r3:=Yc τ2 (.rows 7 (r.2.2.2.map dF));have CR:=fin _ (.sl τ2.length 0 (r.2.2.2.map dF).length false) hk s3 f3 e3 (.inr ⟨τ2.length,_,by simp,r3,by simpa using SP r.2.2.2⟩);have q1:τ2.length≠sb:=by omega
  have q2:τ2.length≠fb:=by omega
  have q3:τ2.length≠eb:=by omega
  have q4:τ2.length≠tn:=by omega
  generalize τ2++[ab.rows 7 (r.2.2.2.map dF)]=υ at *;generalize τ2.length=m at *;refine Xf (cX (row':=aI r.2.1) s3 rfl rfl rfl) (Ze _ (Yb s3)) ?_;have f4:=Zb (x:=.box (aI r.2.1)) f3 (by simp) n1;have e4:=Zb (x:=.box (aI r.2.1)) e3 (by simp) n2;refine Xf (cX (row':=[iv r.2.2.1]) f4 rfl rfl rfl) (Ze _ (Yb f4)) ?_;have e5:=Zb (x:=.box [iv r.2.2.1]) e4 (by simp) n3;exact Xf (cX (row':=[.sl m 0 (r.2.2.2.map dF).length false]) e5 rfl rfl rfl) (Ze _ (Yb e5)) (Zw (by simp[Zj,Xn,Zn,Qv,cf,dZ,zAC,zAc,n1,n2,n3,n1.symm,n2.symm,n3.symm,q1,q2,q3,q4,q1.symm,q2.symm,q3.symm,q4.symm]) CR)
 ·refine Xf (QP 7 72 h2 (by rw[h3.len,zBj]) Gl oz (by simp;omega)) (XI _ _ (Yb h2)) ?_;rw[zDW];have gu:c≠sb:=by rintro rfl;rw[h2]at s2;cases s2
  have G0:c≠fb:=by rintro rfl;rw[h2]at f2;cases f2
  have T0:c≠eb:=by rintro rfl;rw[h2]at e2;cases e2
  have BA:c≠tn:=by rintro rfl;rw[h2]at t2;cases t2
  have hk:=NA h2 (.rows 7 (rows++r.2.2.2.map dF)) [sb,fb,eb];have s3:aj (τ2.set c .dead++[.rows 7 (rows++r.2.2.2.map dF)]) sb=_:=Qb _ (Zb s2 (by simp) gu);have f3:aj (τ2.set c .dead++[.rows 7 (rows++r.2.2.2.map dF)]) fb=_:=Qb _ (Zb f2 (by simp) G0);have e3:aj (τ2.set c .dead++[.rows 7 (rows++r.2.2.2.map dF)]) eb=_:=Qb _ (Zb e2 (by simp) T0);have r3:=AO (σ:=τ2) c (.rows 7 (rows++r.2.2.2.map dF));have CR:=fin _ (.sl τ2.length 0 (cM.length+(r.2.2.2.map dF).length) false) hk s3 f3 e3 (.inr ⟨τ2.length,_,by simp,r3,h3.app (SP r.2.2.2)⟩);have q1:τ2.length≠sb:=by omega
  have q2:τ2.length≠fb:=by omega
  have q3:τ2.length≠eb:=by omega
  have q4:τ2.length≠tn:=by omega
  generalize τ2.set c .dead++[ab.rows 7 (rows++r.2.2.2.map dF)]=υ at *;generalize τ2.length=m at *;refine Xf (cX (row':=aI r.2.1) s3 rfl rfl rfl) (Ze _ (Yb s3)) ?_;have f4:=Zb (x:=.box (aI r.2.1)) f3 (by simp) n1;have e4:=Zb (x:=.box (aI r.2.1)) e3 (by simp) n2;refine Xf (cX (row':=[iv r.2.2.1]) f4 rfl rfl rfl) (Ze _ (Yb f4)) ?_;have e5:=Zb (x:=.box [iv r.2.2.1]) e4 (by simp) n3;exact Xf (cX (row':=[.sl m 0 (cM.length+(r.2.2.2.map dF).length) false]) e5 rfl rfl rfl) (Ze _ (Yb e5)) (Zw (by simp[Zj,Xn,Zn,Qv,cf,dZ,zAC,zAc,n1,n2,n3,n1.symm,n2.symm,n3.symm,q1,q2,q3,q4,q1.symm,q2.symm,q3.symm,q4.symm,gu,G0,T0,BA,gu.symm,G0.symm,T0.symm,BA.symm]) CR)
end Go.Ah.Tz
end
section
namespace Go.Ah.Tz
def Zk(s:St):Nat:=s.s0.af.length+s.s1.af.length
def m9(s:St)(id:Int):Int:=((((s.side (aL s id).1).af)[(aL s id).2.1.toNat]?).getD default).card
def eX(b:Bk)(s:St):List Int→List Tr
 |[]=>[]
 |id::l=>(if 0<(Yr b (m9 s id)).dead.length then [⟨m9 s id,(aL s id).1,false⟩]else [])++eX b s l
def quiet(b:Bk):Nat→St→List Tr→List Ev→St×List Tr×List Ev
 |0,s,ws,l=>(s,ws,l)
 |n+1,s,ws,l=>if aH b s=[]then (s,ws,l)else quiet b n (Yl (aH b s) s).1 (ws++eX b s (aH b s)) (l++(Yl (aH b s) s).2)
def jd(b:Bk)(s:St)(l:List Ev)(fu how:Int):Int×St×List Ev×Int:=(0,(eo b s how).1,l++[(eo b s how).2],fu)
def bq(b:Bk)(x:Tr):List Ef:=if x.dR=true then (Yr b x.card).dR else (Yr b x.card).dead
def nt(x:Tr):Ev:=⟨14,x.side,x.card,0,0,0,[]⟩
def YK(b:Bk):Nat→St→List Tr→Int→List Ev→Int×St×List Ev×Int
 |0,s,ws,fu,l=>jd b (quiet b (Zk s) s ws l).1 (quiet b (Zk s) s ws l).2.2 fu 3
 |n+1,s,ws,fu,l=>
  if bN (quiet b (Zk s) s ws l).1≠0 then jd b (quiet b (Zk s) s ws l).1 (quiet b (Zk s) s ws l).2.2 fu (bN (quiet b (Zk s) s ws l).1)
  else match (quiet b (Zk s) s ws l).2.1 with
   |[]=>(0,(quiet b (Zk s) s ws l).1,(quiet b (Zk s) s ws l).2.2,fu)
   |x::kJ=>
    if fu=0 then jd b (quiet b (Zk s) s ws l).1 (quiet b (Zk s) s ws l).2.2 fu 3
    else if Xs b x.side (fu-1) (bq b x)=true then (2,iz,[],0)
    else if (runs b x.side (-1) (bq b x) (quiet b (Zk s) s ws l).1 (fu-1)).1=0 then
     YK b n (runs b x.side (-1) (bq b x) (quiet b (Zk s) s ws l).1 (fu-1)).2.1 kJ (runs b x.side (-1) (bq b x) (quiet b (Zk s) s ws l).1 (fu-1)).2.2.1
      ((quiet b (Zk s) s ws l).2.2++[nt x]++(runs b x.side (-1) (bq b x) (quiet b (Zk s) s ws l).1 (fu-1)).2.2.2)
    else if (runs b x.side (-1) (bq b x) (quiet b (Zk s) s ws l).1 (fu-1)).1=190 then
     jd b (runs b x.side (-1) (bq b x) (quiet b (Zk s) s ws l).1 (fu-1)).2.1 ((quiet b (Zk s) s ws l).2.2++[nt x]++(runs b x.side (-1) (bq b x) (quiet b (Zk s) s ws l).1 (fu-1)).2.2.2)
      (runs b x.side (-1) (bq b x) (quiet b (Zk s) s ws l).1 (fu-1)).2.2.1 3
    else ((runs b x.side (-1) (bq b x) (quiet b (Zk s) s ws l).1 (fu-1)).1,iz,[],0)
theorem NS{b:Bk}(n:Nat){s t:St}{ws kJ:List Tr}{l l':List Ev}(fu:Int)(hq:quiet b (Zk s) s ws l=(t,kJ,l')):YK b (n+1) s ws fu l =
  if bN t≠0 then jd b t l' fu (bN t)else match (generalizing:=false) kJ with
   |[]=>(0,t,l',fu)
   |x::kJ=>if fu=0 then jd b t l' fu 3 else if Xs b x.side (fu-1) (bq b x)=true then (2,iz,[],0)
    else if (runs b x.side (-1) (bq b x) t (fu-1)).1=0 then YK b n (runs b x.side (-1) (bq b x) t (fu-1)).2.1 kJ (runs b x.side (-1) (bq b x) t (fu-1)).2.2.1 (l'++[nt x]++(runs b x.side (-1) (bq b x) t (fu-1)).2.2.2)
    else if (runs b x.side (-1) (bq b x) t (fu-1)).1=190 then jd b (runs b x.side (-1) (bq b x) t (fu-1)).2.1 (l'++[nt x]++(runs b x.side (-1) (bq b x) t (fu-1)).2.2.2) (runs b x.side (-1) (bq b x) t (fu-1)).2.2.1 3
    else ((runs b x.side (-1) (bq b x) t (fu-1)).1,iz,[],0):=by
 rw[YK];simp only[hq]
def jR(b:Bk)(x:Tr):Prop:=0<=x.card∧x.card<b.ai.length∧(x.side=0∨x.side=1)
theorem SQ{l:List Th}{id:Int}(h:gB l id=none):id∉l.map Th.id:=by
 simp_all [gB]
theorem Sv{s:St}{id:Int}(h:id∈s.s0.af.map Th.id∨id∈s.s1.af.map Th.id):∃(k:Nat) (u:Th),(aL s id).2.1=k∧(s.side (aL s id).1).af[k]?=some u∧((aL s id).1=0∨(aL s id).1=1)∧m9 s id=u.card:=by
 unfold m9 aL;cases q0:gB s.s0.af id with
 |some k=>
  obtain⟨u,hu,_⟩:=YR q0;exact⟨k,u,rfl,hu,.inl rfl,by simp[St.side,hu]⟩
 |none=>
  simp only;cases q1:gB s.s1.af id with
  |some k=>
   obtain⟨u,hu,_⟩:=YR q1;exact⟨k,u,rfl,hu,.inr rfl,by simp[St.side,hu]⟩
  |none=>
   simp_all [SQ]
theorem Q5(b:Bk)(s:St):∀l:List Int,(eX b s l).length<=l.length
 |[]=>IT _
 |id::l=>by
  have:=Q5 b s l;unfold eX;split<;>simp<;>omega
theorem Pn(b:Bk)(s:St)(id:Int):∀l:List Int,eX b s (l++[id])=eX b s l++(if 0<(Yr b (m9 s id)).dead.length then [⟨m9 s id,(aL s id).1,false⟩]else [])
 |[]=>by simp[eX]
 |a::l=>by simp[eX,Pn]
theorem Rh{b:Bk}{s:St}(hM:dz b s){i:Int}(hi:i=0∨i=1){k:Nat}{u:Th}(hu:(s.side i).af[k]?=some u):0<=u.card∧u.card<b.ai.length:=by
 have g_:u∈s.s0.af++s.s1.af:=by
  rcases hi with rfl|rfl
  ·exact zAl _ (zAK hu)
  ·exact zAg _ (zAK hu)
 have:=hM.un.1 u g_;simp_all [Qz]
theorem Sm{b:Bk}{s:St}(hM:dz b s):∀l:List Int,(∀a∈l,a∈s.s0.af.map Th.id∨a∈s.s1.af.map Th.id)→∀x∈eX b s l,jR b x
 |[],_,x,hx=>by simp[eX]at hx
 |id::l,h,x,hx=>by
  rw[eX,zAI]at hx;rcases hx with hx|hx
  ·split at hx
   ·rw[zAw]at hx;subst hx;obtain⟨k,u,_,h2,h3,h4⟩:=Sv (h id (by simp));have:=Rh hM h3 h2;exact⟨by rw[h4];exact this.1,by rw[h4];exact this.2,h3⟩
   ·simp at hx
  ·exact Sm hM l (λa ha=>h a (by simp[ha])) x hx
theorem ZbM(s:St)(id:Int):Zk (Qm s id).1+(Qm s id).2.length=Zk s∧(∀e∈(Qm s id).2,e.ai=[]∧e.kind=13)∧(Qm s id).1.s0.told=s.s0.told∧(Qm s id).1.s1.told=s.s1.told:=by
 unfold Qm;cases q0:gB s.s0.af id with
 |some k=>
  obtain⟨u,hu,_⟩:=YR q0;have hk:=(gK hu).1;refine⟨?_,by simp,rfl,rfl⟩
  grind [Zk]
 |none=>
  simp only;cases q1:gB s.s1.af id with
  |some k=>
   obtain⟨u,hu,_⟩:=YR q1;have hk:=(gK hu).1;refine⟨?_,by simp,rfl,rfl⟩
   grind [Zk]
  |none=>simp
theorem Yz:∀(ids:List Int) (s:St),Zk (Yl ids s).1+(Yl ids s).2.length=Zk s∧(∀e∈(Yl ids s).2,e.ai=[]∧e.kind=13)∧(Yl ids s).1.s0.told=s.s0.told∧(Yl ids s).1.s1.told=s.s1.told
 |[],s=>⟨by simp[Yl],by simp[Yl],rfl,rfl⟩
 |id::ids,s=>by
  obtain⟨h1,h2,h3,h4⟩:=ZbM s id;obtain⟨k1,k2,k3,k4⟩:=Yz ids (Qm s id).1;refine⟨?_,?_,k3.trans h3,k4.trans h4⟩
  ·grind [Yl]
  ·intro e he;rw[Yl,zAI]at he
   grind
theorem XdN(s:St):(s.s0.al.length:Int)<=Zm s∧(s.s1.al.length:Int)<=Zm s∧(Zk s:Int)<=Zm s:=by
 unfold Zm Zk;omega
theorem cY.sM{b:Bk}{N C:Nat}{s:St}(h:cY b N C s)(hC:C+14<=1000000):cY b N C (Yl (aH b s) s).1:=by
 obtain⟨_,_,hl⟩:=ZF h.may;have hg:=XdN s;have hc:=h.ai;obtain⟨k1,k2⟩:=YaZ (aH b s) h.may (by omega) (by omega);obtain⟨_,_,t0,t1⟩:=Yz (aH b s) s;exact⟨k1,⟨by rw[t0];exact h.told.1,by rw[t1];exact h.told.2⟩,by rw[k2];exact hc⟩
theorem Gx{b:Bk}{s:St}(hM:dz b s)(h:aH b s≠[]):Zk (Yl (aH b s) s).1<Zk s:=by
 obtain⟨h1,h2,_⟩:=ZF hM;have:=(Yz (aH b s) s).1;have fg:=MV (aH b s) s h1 h2
 grind [List.length_pos_iff]
theorem Sx{b:Bk}{s:St}(hM:dz b s)(h:Zk s=0):aH b s=[]:=by
 obtain⟨_,h2,_⟩:=ZF hM;simp_all [Zk,List.eq_nil_iff_forall_not_mem]
theorem Oj{b:Bk}{N C:Nat}(hC:C+14<=1000000):∀(n:Nat) (s:St) (ws:List Tr) (l:List Ev),Zk s<=n→cY b N C s →
  cY b N C (quiet b n s ws l).1∧aH b (quiet b n s ws l).1=[]∧(∃m,(quiet b n s ws l).2.2=l++m∧m.length+Zk (quiet b n s ws l).1=Zk s∧∀e∈m,e.kind=13) ∧
   ∃m,(quiet b n s ws l).2.1=ws++m∧m.length+Zk (quiet b n s ws l).1<=Zk s∧∀x∈m,jR b x
 |0,s,ws,l,h,hS=>⟨hS,by rw[quiet];exact Sx (s:=s) hS.may (by omega),⟨[],by simp[quiet],by simp[quiet],by simp⟩,⟨[],by simp[quiet],by simp[quiet],by simp⟩⟩
 |n+1,s,ws,l,h,hS=>by
  unfold quiet;by_cases hd:aH b s=[]
  ·simp_all
  ·rw[aE hd];have wJ:=Gx hS.may hd;obtain⟨d1,d2,d3⟩:=ZF hS.may;obtain⟨c1,c2,_⟩:=Yz (aH b s) s;have fg:=MV (aH b s) s d1 d2;obtain⟨q1,q2,⟨m,m1,m2,m3⟩,⟨m',p1,p2,p3⟩⟩:=Oj hC n (Yl (aH b s) s).1 (ws++eX b s (aH b s)) (l++(Yl (aH b s) s).2) (by omega) (hS.sM hC);have hT:=Q5 b s (aH b s);refine⟨q1,q2,⟨(Yl (aH b s) s).2++m,by rw[m1,zAa],by rw[By];omega,λe he=>?_⟩,⟨eX b s (aH b s)++m',by rw[p1,zAa],by rw[By];omega,λx hx=>?_⟩⟩
   ·grind
   ·rcases zAI.1 hx with hx|hx
    ·exact Sm hS.may _ d2 x hx
    ·exact p3 x hx
theorem Ws{b:Bk}{N C:Nat}(hC:C+14<=1000000):∀(n m:Nat) (s:St) (ws:List Tr) (l:List Ev),cY b N C s→Zk s<=n→Zk s<=m→quiet b n s ws l=quiet b m s ws l
 |0,0,s,ws,l,_,_,_=>rfl
 |0,m+1,s,ws,l,hM,h,_=>by rw[quiet,quiet,aJ (Sx hM.may (by omega))]
 |n+1,0,s,ws,l,hM,_,h=>by rw[quiet,quiet,aJ (Sx hM.may (by omega))]
 |n+1,m+1,s,ws,l,hM,h1,h2=>by
  rw[quiet,quiet];split
  ·rfl
  ·rename_i hd;have:=Gx hM.may hd;exact Ws hC n m _ _ _ (hM.sM hC) (by omega) (by omega)
theorem YbH{b:Bk}{N C:Nat}(hC:C+14<=1000000){s:St}(ws:List Tr)(l:List Ev)(hM:cY b N C s)(hd:aH b s≠[]) :
  quiet b (Zk s) s ws l=quiet b (Zk (Yl (aH b s) s).1) (Yl (aH b s) s).1 (ws++eX b s (aH b s)) (l++(Yl (aH b s) s).2):=by
 have h:=Gx hM.may hd;obtain⟨n,hn⟩:∃n,Zk s=n+1:=⟨Zk s-1,by omega⟩;rw[hn,quiet,aE hd];exact Ws hC _ _ _ _ _ (hM.sM hC) (by omega) (IT _)
theorem ZbH{b:Bk}{s:St}(n:Nat)(ws:List Tr)(l:List Ev)(hd:aH b s=[]):quiet b n s ws l=(s,ws,l):=by
 cases n<;>simp_all [quiet]
end Go.Ah.Tz
end
section
namespace Go.Ah
theorem jN:∀U:List Nat,dZ U []=true
 |[]=>rfl
 |y::U=>by simp[dZ,jN U]
theorem qY{x:Nat}:∀ {U:List Nat},x∉U→dZ U [x]=true
 |[],_=>rfl
 |y::U,h=>by
  simp only[zAR,not_or]at h;simp only[dZ,qY h.2,zAz];simp[Ne.symm h.1]
end Go.Ah
namespace Go.Ah.Tz
open Go.Proofs.Tryz (prog)
set_option maxRecDepth 100000
structure RS (b:Bk) (s:St) (fu:Int) (l:List Ev) (ws:List Tr) (eb qb:Nat) (τ:List ab):Prop where
 hb:aj τ 0=.box (cy b)
 hs:aj τ 1=.box (aI s)
 hf:aj τ 2=.box [iv fu]
 hr:aj τ 3=.box aZ
 he:∃lv,aj τ eb=.box [lv]∧LE l lv τ
 hq:∃qv,aj τ qb=.box [qv]∧QW ws qv τ
 e3:3<eb
 eq:eb<qb
theorem RS.nH{b:Bk}{s:St}{fu:Int}{l:List Ev}{ws:List Tr}{eb qb:Nat}{τ τ':List ab}(h:RS b s fu l ws eb qb τ)(k:du τ τ' []):RS b s fu l ws eb qb τ':=by
 obtain⟨hb,hs,hf,hr,⟨lv,he,hl⟩,⟨qv,hq,hw⟩,e3,eq⟩:=h;have g:∀ {c x},aj τ c=x→x≠.dead→aj τ' c=x:=λhx hd=>k.get hx hd (by simp);exact⟨g hb (by simp),g hs (by simp),g hf (by simp),g hr (by simp),⟨lv,g he (by simp),hl.mono λc rs h=>g h (by simp)⟩,⟨qv,g hq (by simp),hw.mono λc rs h=>g h (by simp)⟩,e3,eq⟩
theorem RS.app{b:Bk}{s:St}{fu:Int}{l:List Ev}{ws:List Tr}{eb qb:Nat}{τ:List ab}(h:RS b s fu l ws eb qb τ)(x:ab):RS b s fu l ws eb qb (τ++[x]):=h.nH (du.jY τ x)
theorem RS.Hf{b:Bk}{s:St}{fu:Int}{l:List Ev}{ws kJ:List Tr}{vr:aa}{eb qb:Nat}{τ τ':List ab}(h:RS b s fu l ws eb qb τ)(q:aj τ' qb=.box [vr])(w:QW kJ vr τ')(k:Kq [qb] 3 τ τ'):RS b s fu l kJ eb qb τ':=by
 obtain⟨hb,hs,hf,hr,⟨lv,he,hl⟩,⟨qv,hq,hw⟩,e3,eq⟩:=h;exact⟨k.box hb,k.box hs,k.box hf,k.box hr,⟨lv,k.box he,hl.mono λc rs h=>k.rows h (by simp;rintro rfl;rw[hq]at h;cases h) (by decide)⟩,⟨vr,q,w⟩,e3,eq⟩
theorem RS.BQ{b:Bk}{s s':St}{fu pe:Int}{l l':List Ev}{ws:List Tr}{cB:aa}{eb qb:Nat}{τ τ':List ab}(h:RS b s fu l ws eb qb τ)(q1:aj τ' 1=.box (aI s'))(q2:aj τ' 2=.box [iv pe])(q3:aj τ' eb=.box [cB])(w:LE l' cB τ')(k:Kq [1,2,eb] 7 τ τ'):RS b s' pe l' ws eb qb τ':=by
 obtain⟨hb,hs,hf,hr,⟨lv,he,hl⟩,⟨qv,hq,hw⟩,e3,eq⟩:=h;have nr:∀ {c rs},aj τ c=.rows 3 rs→c∉[1,2,eb]:=by
  intro c rs hc;simp only[zAR,List.not_mem_nil,or_false,not_or];refine⟨?_,?_,?_⟩
  ·rintro rfl;rw[hs]at hc;cases hc
  ·rintro rfl;rw[hf]at hc;cases hc
  ·rintro rfl;rw[he]at hc;cases hc
 exact⟨k.box hb,q1,q2,k.box hr,⟨cB,q3,w⟩,⟨qv,k.box hq,hw.mono λc rs h=>k.rows h (nr h) (by decide)⟩,e3,eq⟩
theorem PJ{l:List Ev}{lv:aa}{τ:List ab}(h:LE l lv τ){y:aa}{ys:List (List aa)}{rd:List Nat}{m:List Ev}(hy:Xk 7 τ y=some (ys,rd))(hm:eU ys m)(bM:l.length+m.length<=200000000) :
  ∃nv up τ',Qf 7 72 [lv,y] τ=.ok nv rd up∧gp τ up=some τ'∧LE (l++m) nv τ'∧Kq [] 7 τ τ'∧∀k row,aj τ k=.box row→k∉up.map (·.1):=by
 have hlen:=hm.len;rcases h with ⟨rfl,rfl⟩|⟨c,rows,rfl,h2,h3⟩
 ·refine⟨_,_,_,Cc 7 72 hy (SA hm) (by rw[hlen];simp at bM;omega),Xe τ _,.inr ⟨τ.length,ys,by simp[hlen],Yc τ _,by simpa using hm⟩,Kq.app [] 7 τ _,λk row hk=>?_⟩;have:=Yb hk;simp;omega
 ·refine⟨_,_,_,QP 7 72 h2 (by rw[h3.len,zBj]) hy (SA hm) (by rw[hlen];omega),XI _ _ (Yb h2),.inr ⟨τ.length,rows.drop 0++ys,by simp[hlen],AO c _,by rw[zDW];exact h3.app hm⟩,NA h2 _ [],λk row hk=>?_⟩;have:=Yb hk;simp;exact⟨(by rintro rfl;rw[h2]at hk;cases hk),(by omega)⟩
theorem Hy{b:Bk}{c:Int}(h:0<=c∧c<b.ai.length):∃(k:Nat) (hk:k<b.ai.length),c=(k:Int)∧Yr b c=b.ai[k]:=by
 refine⟨c.toNat,by omega,by omega,?_⟩;unfold Yr;rw[zAU (by omega)];rfl
def mm(r:Int×St×List Ev×Int):aa:=.bp [bZ r.2.1,.aU false false 7 (r.2.2.1.map dF),iv r.2.2.2,iv r.1]
theorem xq{σ:List ab}{r:Int×St×List Ev×Int}{lv:aa}{cs:List aa}(h1:SB σ [] cs r.2.1)(h:LE r.2.2.1 lv σ):∃rd,aB (hp σ) rd (.bp [.agg cs,lv,iv r.2.2.2,iv r.1]) (mm r):=by
 obtain⟨e,s,l,f⟩:=r;have Kx:∃rd,aB (hp σ) rd lv (.aU false false 7 (l.map dF)):=by
  have h:LE l lv σ:=h;rcases h with ⟨rfl,rfl⟩|⟨k,rows,rfl,hk,hR⟩
  ·exact⟨[],aB.dY (aB.ro rfl) (λM u d=>d.e_ 7)⟩
  ·refine⟨[k],?_⟩;refine aB.dY (y:=.aU false false 7 (l.map dF)) (aB.dY (aB.sl (rs:=rows) (rs':=l.map dF) (Xw hk (by simp)) (by simp) (by rw[hR.len];omega) (by simp) (λi row row' q1 q2=>?_)) (λM u d=>d.gS)) (λM u d=>d);rw[No]at q1;have hm:=ZcC hR;have h1:(rows.map λr=>r.map pJ)[i]?=some (row.map pJ):=by rw[zAX,q1];rfl
   rw[hm,q2]at h1;cases h1;have kY:=Ydj hR row (zAK q1);clear hm q2 q1
   induction row with
   |nil=>exact .nil
   |cons x row ih=>
    simp only[ga,AI]at kY;exact .cons (aB.dY (aB.ro kY.1) (λM u d=>XcG M bA x u d)) (ih kY.2)
 obtain⟨rd,Kx⟩:=Kx;refine⟨rd,aB.bp (.cons (aB.more (SB.agg h1) (by simp)) (.cons Kx (.cons (aB.ro rfl) (.cons (aB.ro rfl) .nil))))⟩
end Go.Ah.Tz
end
section
namespace Go.Ah.Tz
open Go.Proofs.Tryz (prog)
set_option maxRecDepth 100000
theorem Xcw{b:Bk}(hf:a_ b=true)(bY:Yg b.ai){c:Cd}(hc:c∈b.ai):bE c.dead=true∧bE c.dR=true∧(bw c.dead).length<=500000000∧(bw c.dR).length<=500000000:=by
 simp only[a_,ZG,AI,zAj]at hf;have h:=hf.1.2 c hc;simp only[il,AI]at h;have hs:=bY c hc;simp only[pz,By]at hs;exact⟨h.2.2.1,h.2.2.2,by omega,by omega⟩
attribute [local irreducible] aF.rd aF.pu aF.wr aF.dr aF.gr aF.gw aF.gl aF.gd aF.opt cI W
set_option maxHeartbeats 4000000
def xU(eb:Nat)(K:KT)(vs:List aa)(σ:List ab):Prop:=
 VV.rd (Qe true 2 [.ak 0 0] σ) λt196=>VV.rd (Qe true 23 [.ak 1 0] σ) λt197=>
 VV.call (.call 13) [t196,t197,h0 vs] σ λt199 σ=>VV.rd (Xi 0 [t199] σ) λt200=>VV.rd (Xi 1 [t199] σ) λt201=>
 VV.wr (Qs aZ [] σ) σ λt31 σ=>VV.wr (Qs bX [] σ) σ λt32 σ=>VV.wr (Yj 23 [t31,t200] σ) σ λ_ σ=>VV.wr (Yj 7 [t32,t201] σ) σ λ_ σ=>
 VV.dr (Qe true 23 [t31] σ) σ λt202 l176 σ=>VV.dr (Qe false 1 [.ak eb 0] σ) σ λt203 l178 σ=>VV.dr (Qe true 7 [t32] σ) σ λt204 l180 σ=>
 VV.dr (Yp 7 1 bX [(0,7)] [t204] σ) σ λt205 l182 σ=>VV.dr (Qf 7 72 [t203,t205] σ) σ λt206 l184 σ=>VV.dr (Qe false 1 [.ak 2 0] σ) σ λt207 l186 σ=>
 VV.dr (Yj 23 [.ak 3 0,t202] σ) σ λ_ l187 σ=>
 VV.gd (Zj [[],[],[],[2],[1,2,3],[],[0,1,2,3,4],[0,1,2,3,4,6],[0,1,2,3,4,5,6,7],[0,1,2,3,4,5,6,7,8]] [l176,l178,l180,l182,l184,l186,l187,([],[]),([],[]),([],[])]) <|
 VV.opt (im true 23 (.ak 3 0) σ) λr188=>K (.bp [r188,t206,t207,.int .i64 0]) σ
theorem QeA(b:Bk)(hf:a_ b=true)(bY:Yg b.ai){s:St}(hs:bd 1000000000 s){fu:Int}{l:List Ev}{ws:List Tr}{eb qb:Nat}{τ:List ab}(hR:RS b s fu l ws eb qb τ)(how:Int)(hh:0<=how∧how<=3)(hl:l.length<=100000000){K:KT}
 (hK:∀σ' lv,LE (jd b s l fu how).2.2.1 lv σ'→K (.bp [bZ (jd b s l fu how).2.1,lv,iv fu,iv 0]) σ'):xU eb K [aN how] τ:=by
 unfold xU;have e3:=hR.e3;refine Za (v:=cC b) (ld hR.hb rfl) (Za (v:=bZ s) (ld hR.hs rfl) (aY (q98 b hf bY s hs how) g13.ok (Za (v:=bZ (eo b s how).1) rfl (Za (v:=wa (eo b s how).2) rfl ?_))));have lj:∀σ' lv,LE (l++[(eo b s how).2]) lv σ'→K (.bp [bZ (eo b s how).1,lv,iv fu,iv 0]) σ':=hK;generalize eo b s how=o at *;refine Yd (v:=.ak τ.length 0) (rd:=[]) (up:=[(τ.length,.box aZ)]) rfl (Xe τ _) ?_;have h1:=hR.app (.box aZ);have z1:=Yc τ (.box aZ);have oM:(τ++[ab.box aZ]).length=τ.length+1:=by simp
 have b_:4<τ.length:=by obtain⟨qv,hq,_⟩:=hR.hq;have:=Yb hq;have:=hR.eq;omega
 generalize τ++[ab.box aZ]=τ1 at *;refine Yd (v:=.ak τ1.length 0) (rd:=[]) (up:=[(τ1.length,.box bX)]) rfl (Xe τ1 _) ?_;have h2:=h1.app (.box bX);have z2:=Qb [ab.box bX] z1;have y2:=Yc τ1 (.box bX);have j8:(τ1++[ab.box bX]).length=τ1.length+1:=by simp
 have ag:du τ (τ1++[ab.box bX]) []→True:=λ_=>trivial;generalize τ1++[ab.box bX]=τ2 at *;have aaP:∀ {τ':List ab} {k:Nat} (x:ab),RS b s fu l ws eb qb τ'→qb<k→RS b s fu l ws eb qb (τ'.set k x)∨True:=λ_ _ _=>.inr trivial;have OZ:qb<τ.length:=by obtain⟨qv,hq,_⟩:=hR.hq;exact Yb hq
 have b2:=h2.hb;have f2:=h2.hf;have r2:=h2.hr;obtain⟨lv,e2,l2⟩:=h2.he;have heq:=hR.eq;refine Yd (cX (row':=aI o.1) z2 rfl rfl rfl) (Ze _ (by omega)) ?_;have z3:aj (τ2.set τ.length (.box (aI o.1))) τ.length=.box (aI o.1):=Zd _ (by omega);have y3:=Zb (x:=.box (aI o.1)) y2 (by simp) (show τ.length≠τ1.length by omega);have f3:=Zb (x:=.box (aI o.1)) f2 (by simp) (show τ.length≠2 by omega);have r3:=Zb (x:=.box (aI o.1)) r2 (by simp) (show τ.length≠3 by omega);have GU:=Zb (x:=.box (aI o.1)) e2 (by simp) (show τ.length≠eb by omega);have l3:LE l lv (τ2.set τ.length (.box (aI o.1))):=l2.mono (λc rs h=>XB _ z2 h);have DB:(τ2.set τ.length (.box (aI o.1))).length=τ2.length:=by simp
 generalize τ2.set τ.length (.box (aI o.1))=τ3 at *;refine Yd (cX (row':=dF o.2) y3 rfl rfl rfl) (Ze _ (by omega)) ?_;have y4:aj (τ3.set τ1.length (.box (dF o.2))) τ1.length=.box (dF o.2):=Zd _ (by omega);have z4:=Zb (x:=.box (dF o.2)) z3 (by simp) (show τ1.length≠τ.length by omega);have f4:=Zb (x:=.box (dF o.2)) f3 (by simp) (show τ1.length≠2 by omega);have r4:=Zb (x:=.box (dF o.2)) r3 (by simp) (show τ1.length≠3 by omega);have e4:=Zb (x:=.box (dF o.2)) GU (by simp) (show τ1.length≠eb by omega);have l4:LE l lv (τ3.set τ1.length (.box (dF o.2))):=l3.mono (λc rs h=>XB _ y3 h);have DC:(τ3.set τ1.length (.box (dF o.2))).length=τ3.length:=by simp
 generalize τ3.set τ1.length (.box (dF o.2))=τ4 at *;refine Xf (v:=bZ o.1) (ld z4 rfl) (Zg _) (Xf (v:=lv) (ld e4 rfl) (Zg _) (Xf (v:=wa o.2) (ld y4 rfl) (Zg _) (Xf (M_ (e:=o.2) (cv:=aP o.2.ai) (.inl rfl) τ4) (Xe τ4 _) ?_)));have b5:=Yc τ4 (.rows 7 [cV o.2 (aP o.2.ai)]);have z5:=Qb [ab.rows 7 [cV o.2 (aP o.2.ai)]] z4;have f5:=Qb [ab.rows 7 [cV o.2 (aP o.2.ai)]] f4;have r5:=Qb [ab.rows 7 [cV o.2 (aP o.2.ai)]] r4;have e5:=Qb [ab.rows 7 [cV o.2 (aP o.2.ai)]] e4;have l5:LE l lv (τ4++[ab.rows 7 [cV o.2 (aP o.2.ai)]]):=l4.mono (λc rs h=>QC _ h);generalize τ4++[ab.rows 7 [cV o.2 (aP o.2.ai)]]=τ5 at *;obtain⟨nv,up,τ6,a1,a2,a3,a4,a5⟩:=PJ l5 (SL b5) (m:=[o.2]) (by simpa using eU.snoc [] [] o.2 (aP o.2.ai) .nil (.inl rfl)) (by simp;omega);refine Xf a1 a2 ?_;have uz:=a5 _ _ z5;have uf:=a5 _ _ f5;have ur:=a5 _ _ r5;have f6:=a4.box f5 (by simp);have r6:=a4.box r5 (by simp);generalize up.map (·.1)=U at *;have hr6:=Yb r6;refine Xf (v:=iv fu) (ld f6 rfl) (Zg _) (Xf (cX (row':=aI o.1) r6 rfl rfl rfl) (Ze _ hr6) ?_);have n1:τ.length≠τ4.length:=by omega
 have n2:eb≠τ4.length:=by omega
 have n3:τ4.length≠2:=by omega
 have n4:τ4.length≠3:=by omega
 have n5:τ1.length≠τ4.length:=by omega
 refine Zw (by simp[Zj,Xn,Zn,Qv,cf,dZ,zAC,zAc,n1,n2,n3,n4,n5,n1.symm,n2.symm,n3.symm,n4.symm,n5.symm,uz,uf,ur,qY uz,qY uf,qY ur,jN]) (Zs (Xq hr6 rfl) ?_);exact lj _ nv (a3.mono (λc rs h=>XB _ r6 h))
set_option maxHeartbeats 8000000
theorem LE.cells{l:List Ev}{lv:aa}{σ:List ab}(h:LE l lv σ):cellsOf lv=some [lv]:=by
 rcases h with ⟨_,rfl⟩|⟨c,rows,rfl,_⟩<;>rfl
def xX(qb:Nat)(ids j:aa)(k73:mC)(σ:List ab):Prop:=
 VV.rd (Qh 1 [ids,j] σ) λt99=>VV.rd (Qe false 1 [t99] σ) λt100=>VV.rd (Qe true 23 [.ak 1 0] σ) λt102=>
 VV.call (.call 25) [t102,t100] σ λt104 σ=>VV.rd (Xi 0 [t104] σ) λt105=>VV.rd (Xi 1 [t104] σ) λt106=>VV.rd (Xi 2 [t104] σ) λ_=>
 VV.rd (Xb 7 [.ak 1 0] σ) λt109=>VV.rd (Yk 2 8 [t109,t105] σ) λt110=>VV.rd (Xb 6 [t110] σ) λt111=>VV.rd (Qe false 1 [t111] σ) λt112=>
 VV.rd (Qh 4 [t112,t106] σ) λt114=>VV.rd (Xb 1 [t114] σ) λt115=>VV.rd (Qe false 1 [t115] σ) λt116=>VV.rd (Xb 0 [.ak 0 0] σ) λt117=>
 VV.rd (Qe false 1 [t117] σ) λt118=>VV.rd (Qh 12 [t118,t116] σ) λt120=>VV.rd (Xb 9 [t120] σ) λt121=>VV.rd (Qe false 1 [t121] σ) λt122=>
 VV.rd (Qn [t122] σ) λt123=>VV.rd (Ym .gtr false [t123,.int .i64 0] σ) λt124=>
 VV.test t124 (
  VV.rd (QM [.int .i64 0,.int .i64 0,.bool false] [(0,1),(1,1)] [t116,t105] σ) λt128=>VV.wr (Yp 3 1 [.int .i64 0,.int .i64 0,.bool false] [(0,3)] [t128] σ) σ λt129 σ=>
  VV.call (.call 21) [.ak qb 0,t129] σ λ_ σ=>k73 [] σ) (k73 [] σ)
theorem YeD{b:Bk}(hf:a_ b=true){t:St}{N C:Nat}(hS:cY b N C t){fu:Int}{l:List Ev}{ws:List Tr}{eb qb:Nat}{φ:List ab}(hR:RS b t fu l ws eb qb φ){ids:List Int}{j:Nat}(hj:j<ids.length)(di:ids[j]∈t.s0.af.map Th.id∨ids[j]∈t.s1.af.map Th.id)(hw:ws.length<=90000000)
 {k73:mC}(hK:∀φ',RS b t fu l (ws++(if 0<(Yr b (m9 t ids[j])).dead.length then [⟨m9 t ids[j],(aL t ids[j]).1,false⟩]else [])) eb qb φ'→k73 [] φ'):xX qb (aP ids) (iv j) k73 φ:=by
 unfold xX;refine Za (Xm _ aR false false 1 ids .i64 j hj) ?_;generalize ids[j]=id at *;refine Za (v:=iv id) (bB rfl) (Za (v:=bZ t) (ld hR.hs rfl) (aY (c71 t hS.rL id) g25.ok (Za rfl (Za rfl (Za rfl ?_)))));obtain⟨k,u,u1,u2,u3,u4⟩:=Sv di;have J2:=Rh hS.may u3 u2;rw[u1];rw[u4]at hK;clear u4 u1;generalize (aL t id).1=i at *;have hk:=(gK u2).1;obtain⟨c,hc,e1,e2⟩:=Hy J2;rw[e2]at hK;have hb:=hR.hb;have hs:=hR.hs;have kH:b.ai.length<=gn:=by
  simp only[a_,ZG,AI,fE]at hf;exact hf.1.1
 refine Za rfl (Za (v:=.ak 1 (7+i.toNat*8)) (by rcases u3 with rfl|rfl<;>rfl) (Za (v:=.ak 1 (13+i.toNat*8)) (by rcases u3 with rfl|rfl<;>rfl) (Za (v:=gU (t.side i).af) (by rcases u3 with rfl|rfl<;>exact ld hs rfl) ?_)));refine Za (Xm _ bg false false 4 (t.side i).af .i64 k hk) ?_;rw[show (t.side i).af[k]=u from (gK u2).2];refine Za rfl (Za (v:=iv u.card) (bB rfl) (Za rfl (Za (v:=iH b.ai) (ld hb rfl) ?_)));rw[e1]at hK ⊢;refine Za (Xm _ cL false false 12 b.ai .i64 c hc) ?_;generalize b.ai[c]=cd at *;refine Za rfl (Za (v:=gY cd.dead) (bB rfl) (Za (v:=iv cd.dead.length) (rd:=[]) (by simp[Qn]) (Za (v:=.bool (decide ((cd.dead.length:Int)>0))) rfl (Ya (λh=>?_) (λh=>?_)))))
 ·have h:0<cd.dead.length:=by simpa using h
  rw[aJ h]at hK;refine Za (v:=.agg (dH ⟨c,i,false⟩)) rfl (Yd (Zep 3 φ _ _ (dH ⟨c,i,false⟩) rfl rfl) (Xe φ _) ?_);have h2:=hR.app (.rows 3 [dH ⟨c,i,false⟩]);have r2:=Yc φ (.rows 3 [dH ⟨c,i,false⟩]);generalize φ++[ab.rows 3 [dH ⟨c,i,false⟩]]=φ2 at *;obtain⟨qv,q1,q2⟩:=h2.hq;refine Qd hP (f:=21) rfl g21.ok rfl (w210 (ys:=[⟨c,i,false⟩]) q1 q2 (SL r2) (by simp;omega) λσ' vr p1 p2 p3=>hK _ (h2.Hf p1 p2 p3))
 ·have h:¬0<cd.dead.length:=by simpa using h
  rw[aE h,zBN]at hK;exact hK _ hR
def vL(eb:Nat)(ids:aa)(again:mC)(σ:List ab):Prop:=
 VV.rd (Qe true 2 [.ak 0 0] σ) λt133=>VV.rd (Qe true 23 [.ak 1 0] σ) λt134=>VV.call (.call 26) [t133,t134,ids] σ λt136 σ=>
 VV.rd (Xi 0 [t136] σ) λt137=>VV.rd (Xi 1 [t136] σ) λt138=>VV.wr (Qs aZ [] σ) σ λt25 σ=>VV.wr (Yj 23 [t25,t137] σ) σ λ_ σ=>
 VV.dr (Qe true 23 [t25] σ) σ λt139 l107 σ=>VV.dr (Qe false 1 [.ak eb 0] σ) σ λt140 l109 σ=>VV.dr (Qf 7 72 [t140,t138] σ) σ λt142 l111 σ=>
 VV.dr (Yj 23 [.ak 1 0,t139] σ) σ λ_ l112 σ=>VV.dr (Yj 1 [.ak eb 0,t142] σ) σ λ_ l113 σ=>
 VV.gd (Zj [[],[],[],[1,2],[0,1,2,3],[0,1,2,3,4]] [l107,l109,([],[]),l111,l112,l113]) <|
 VV.rd (Qe true 2 [.ak 0 0] σ) λt92=>VV.rd (Qe true 23 [.ak 1 0] σ) λt93=>VV.call (.call 24) [t92,t93] σ λt94 σ=>again [t94] σ
theorem Qek{b:Bk}(hf:a_ b=true)(bY:Yg b.ai)(cN:(bz b).1=0){t:St}{N C:Nat}(hS:cY b N C t)(hC:C+14<=1000000){fu:Int}{l:List Ev}{ws:List Tr}{eb qb:Nat}{φ:List ab}(hR:RS b t fu l ws eb qb φ)(hl:l.length<=100000000)
 {again:mC}(hK:∀φ',RS b (Yl (aH b t) t).1 fu (l++(Yl (aH b t) t).2) ws eb qb φ'→again [aP (aH b (Yl (aH b t) t).1)] φ'):vL eb (aP (aH b t)) again φ:=by
 unfold vL;have hd3:=(ZF hS.may).2.2;have zC:=Yz (aH b t) t;have hS':=hS.sM hC;have ta:Zk t<=14:=by have:=hS.may.s0.af;have:=hS.may.s1.af;unfold Zk;omega
 refine Za (v:=cC b) (ld hR.hb rfl) (Za (v:=bZ t) (ld hR.hs rfl) (aY (c27 b hf bY t hS.le (Xo.2 ⟨cN,hS.may⟩) (aH b t) (by omega)) g26.ok (Za rfl (Za rfl ?_))));have fg:=Yes (Yl (aH b t) t).2 (λe he=>(zC.2.1 e he).1);have hlen:(Yl (aH b t) t).2.length<=14:=by have:=zC.1;omega
 generalize (Yl (aH b t) t).2=m at *;generalize (Yl (aH b t) t).1=t' at *;refine Qu (row:=aI t') (row':=aI t') rfl rfl rfl ?_;have h1:=hR.app (.box (aI t'));have t1:=Yc φ (.box (aI t'));generalize φ.length=tn at *;generalize φ++[ab.box (aI t')]=φ1 at *;obtain⟨lv,e1,l1⟩:=h1.he;obtain⟨nv,up,φ2,a1,a2,a3,a4,a5⟩:=PJ (y:=.aU false false 7 (m.map CO)) l1 Gl fg (by omega);refine Xf (v:=bZ t') (ld t1 rfl) (Zg _) (Xf (v:=lv) (ld e1 rfl) (Zg _) (Xf a1 a2 ?_));have ut:=a5 _ _ t1;have s2:=a4.box h1.hs (by simp);have f2:=a4.box h1.hf (by simp);have e2:=a4.box e1 (by simp);have he3:=h1.e3;generalize up.map (·.1)=U at *;refine Xf (cX (row':=aI t') s2 rfl rfl rfl) (Ze _ (Yb s2)) ?_;have s3:aj (φ2.set 1 (.box (aI t'))) 1=.box (aI t'):=Zd _ (Yb s2);have f3:=Zb (x:=.box (aI t')) f2 (by simp) (show 1≠2 by decide);have e3:=Zb (x:=.box (aI t')) e2 (by simp) (show 1≠eb by omega);have l3:LE (l++m) nv (φ2.set 1 (.box (aI t'))):=a3.mono (λc rs h=>XB _ s2 h);have k3:Kq [1,2,eb] 7 φ1 (φ2.set 1 (.box (aI t'))):=(a4.more (by simp)).trans (Kq.set 7 φ2 _ (by simp));generalize φ2.set 1 (.box (aI t'))=φ3 at *;refine Xf (cX (row':=[nv]) e3 l3.cells rfl rfl) (Ze _ (Yb e3)) ?_;have s4:=Zb (x:=.box [nv]) s3 (by simp) (show eb≠1 by omega);have f4:=Zb (x:=.box [nv]) f3 (by simp) (show eb≠2 by omega);have e4:aj (φ3.set eb (.box [nv])) eb=.box [nv]:=Zd _ (Yb e3);have l4:LE (l++m) nv (φ3.set eb (.box [nv])):=l3.mono (λc rs h=>XB _ e3 h);have k4:=k3.trans (Kq.set 7 φ3 (.box [nv]) (show eb∈[1,2,eb] by simp));have h4:=h1.BQ s4 f4 e4 l4 k4;clear s4 f4 e4 l4 k4 k3 l3;generalize φ3.set eb (.box [nv])=φ4 at *;refine Zw (by simp[Zj,Xn,Zn,Qv,cf,dZ,zAC,zAc,ut,qY ut,jN]) (Za (v:=cC b) (ld h4.hb rfl) (Za (v:=bZ t') (ld h4.hs rfl) (aY (c28 b hf bY t' hS'.le (Xo.2 ⟨cN,hS'.may⟩)) g24.ok (hK _ h4))))
theorem RS.VR{b:Bk}{s:St}{fu:Int}{l:List Ev}{ws:List Tr}{eb qb:Nat}{τ:List ab}(h:RS b s fu l ws eb qb τ)(pe:Int):RS b s pe l ws eb qb (τ.set 2 (.box [iv pe])):=by
 obtain⟨lv,he,hl⟩:=h.he;have e3:=h.e3;exact h.BQ (Zb h.hs (by simp) (by decide)) (Zd _ (Yb h.hf)) (Zb he (by simp) (by omega)) (hl.mono λc rs k=>XB _ h.hf k) (Kq.set 7 τ _ (by simp))
theorem RS.cM{b:Bk}{s:St}{fu:Int}{l l':List Ev}{ws:List Tr}{eb qb:Nat}{τ τ':List ab}{nv:aa}(h:RS b s fu l ws eb qb τ)(k:Kq [] 7 τ τ')(hl:LE l' nv τ'):RS b s fu l' ws eb qb (τ'.set eb (.box [nv])):=by
 obtain⟨lv,he,_⟩:=h.he;have e3:=h.e3;have OL:=k.box he (by simp);exact h.BQ (Zb (k.box h.hs (by simp)) (by simp) (by omega)) (Zb (k.box h.hf (by simp)) (by simp) (by omega)) (Zd _ (Yb OL)) (hl.mono λc rs q=>XB _ OL q) ((k.more (by simp)).trans (Kq.set 7 τ' _ (by simp)))
theorem Wt(s:St):0<=bN s∧bN s<=3:=by grind [bN]
def xY(eb:Nat)(again k58:mC)(K:KT)(fv t27:aa)(σ:List ab):Prop:=
 VV.rd (Qe false 1 [.ak 2 0] σ) λt158=>VV.rd (Ym .sub false [t158,.int .i64 1] σ) λt159=>VV.wr (Yj 1 [.ak 2 0,t159] σ) σ λ_ σ=>
 VV.rd (Qe false 1 [.ak eb 0] σ) λt160=>VV.rd (Xb 1 [t27] σ) λt161=>VV.rd (Qe false 1 [t161] σ) λt162=>VV.rd (Xb 0 [t27] σ) λt163=>VV.rd (Qe false 1 [t163] σ) λt164=>
 VV.rd (QM bX [(0,1),(1,1),(2,1)] [.int .i8 14,t162,t164] σ) λt165=>VV.wr (Yp 7 1 bX [(0,7)] [t165] σ) σ λt166 σ=>VV.wr (Qf 7 72 [t160,t166] σ) σ λt167 σ=>VV.wr (Yj 1 [.ak eb 0,t167] σ) σ λ_ σ=>
 VV.rd (Xb 0 [.ak 0 0] σ) λt168=>VV.rd (Qe false 1 [t168] σ) λt169=>VV.rd (Xb 0 [t27] σ) λt170=>VV.rd (Qe false 1 [t170] σ) λt171=>VV.rd (Qh 12 [t169,t171] σ) λt172=>
 VV.rd (Xb 9 [t172] σ) λt173=>VV.rd (Qe false 1 [t173] σ) λt174=>VV.rd (Xb 2 [t27] σ) λt175=>VV.rd (Qe false 1 [t175] σ) λt176=>
 cI (λk153=>VV.test t176 (
  VV.rd (Xb 0 [.ak 0 0] σ) λt177=>VV.rd (Qe false 1 [t177] σ) λt178=>VV.rd (Xb 0 [t27] σ) λt179=>VV.rd (Qe false 1 [t179] σ) λt180=>VV.rd (Qh 12 [t178,t180] σ) λt181=>
  VV.rd (Xb 10 [t181] σ) λt182=>VV.rd (Qe false 1 [t182] σ) λt183=>k153 [t183] σ) (k153 [t174] σ)) (λv154 σ=>
 VV.rd (Qe true 3 [t27] σ) λt185=>VV.call .jZ [fv,t185,h0 v154] σ λt187 σ=>VV.rd (Ym .eql false [t187,.int .i64 0] σ) λt192=>VV.test t192 (again [] σ) (
  VV.rd (Ym .eql false [t187,.int .i64 190] σ) λt194=>VV.test t194 (k58 [.int .i8 3] σ) (
   VV.rd (QM aZ [] [] σ) λt189=>VV.wr (Yj 23 [.ak 3 0,t189] σ) σ λ_ σ=>VV.opt (im true 23 (.ak 3 0) σ) λr167=>K (.bp [r167,.an,.int .i64 0,t187]) σ)))
theorem XeD{b:Bk}(hf:a_ b=true)(bY:Yg b.ai)(jh:b.ai.length<=61)(cN:(bz b).1=0){t:St}{N C:Nat}(hS:cY b N C t)(hN:N+12000<=1000000)(hC:C+200<=1000000){fu:Int}(wF:1<=fu∧fu<=1000){l:List Ev}{ws:List Tr}{eb qb xb:Nat}{φ:List ab}
 (hR:RS b t fu l ws eb qb φ)(hl:l.length<=90000000){x:Tr}(hx:jR b x)(hxb:aj φ xb=.box (dH x))(cO:qb<xb){again k58:mC}{K:KT}
 (CS:Xs b x.side (fu-1) (bq b x)=true→∀σ',K (.bp [.agg aZ,.an,iv 0,iv 2]) σ')
 (CV:Xs b x.side (fu-1) (bq b x)=false→(runs b x.side (-1) (bq b x) t (fu-1)).1≠0→(runs b x.side (-1) (bq b x) t (fu-1)).1≠190→∀σ',K (.bp [.agg aZ,.an,iv 0,iv (runs b x.side (-1) (bq b x) t (fu-1)).1]) σ')
 (TO:Xs b x.side (fu-1) (bq b x)=false→(runs b x.side (-1) (bq b x) t (fu-1)).1=190→∀σ',RS b (runs b x.side (-1) (bq b x) t (fu-1)).2.1 (runs b x.side (-1) (bq b x) t (fu-1)).2.2.1 (l++[nt x]++(runs b x.side (-1) (bq b x) t (fu-1)).2.2.2) ws eb qb σ'→k58 [aN 3] σ')
 (hGo:Xs b x.side (fu-1) (bq b x)=false→(runs b x.side (-1) (bq b x) t (fu-1)).1=0→∀σ',RS b (runs b x.side (-1) (bq b x) t (fu-1)).2.1 (runs b x.side (-1) (bq b x) t (fu-1)).2.2.1 (l++[nt x]++(runs b x.side (-1) (bq b x) t (fu-1)).2.2.2) ws eb qb σ'→again [] σ') :
  xY eb again k58 K (.func (.func 22) [] [.ak 0 0,.ak 1 0,.ak 2 0,.ak eb 0]) (.ak xb 0) φ:=by
 unfold xY;have e3:=hR.e3;have eq:=hR.eq;refine Za (v:=iv fu) (ld hR.hf rfl) (Za (Cv ..) ?_);rw[zAZ _ (by omega)];refine Yd (cX (row':=[iv (fu-1)]) hR.hf rfl rfl rfl) (Ze _ (Yb hR.hf)) ?_;have h1:=hR.VR (fu-1);have x1:=Zb (x:=.box [iv (fu-1)]) hxb (by simp) (show 2≠xb by omega);generalize φ.set 2 (.box [iv (fu-1)])=φ1 at *;clear hR hxb;obtain⟨lv,e1,l1⟩:=h1.he;refine Za (v:=lv) (ld e1 rfl) (Za rfl (Za (v:=iv x.side) (ld x1 rfl) (Za rfl (Za (v:=iv x.card) (ld x1 rfl) (Za (v:=.agg (cV (nt x) .an)) rfl ?_)))));refine Yd (M_ (e:=nt x) (cv:=.an) (.inr ⟨rfl,rfl⟩) φ1) (Xe φ1 _) ?_;have h2:=h1.app (.rows 7 [cV (nt x) .an]);have x2:=Qb [ab.rows 7 [cV (nt x) .an]] x1;have r2:=Yc φ1 (.rows 7 [cV (nt x) .an]);have l2:LE l lv (φ1++[ab.rows 7 [cV (nt x) .an]]):=l1.mono (λc rs h=>QC _ h);generalize φ1++[ab.rows 7 [cV (nt x) .an]]=φ2 at *;obtain⟨nv,up,φ3,a1,a2,a3,a4,_⟩:=PJ l2 (SL r2) (m:=[nt x]) (by simpa using eU.snoc [] [] (nt x) .an .nil (.inr ⟨rfl,rfl⟩)) (by simp;omega);refine Yd a1 a2 ?_;obtain⟨lv2,e2,_⟩:=h2.he;have GU:=a4.box e2 (by simp);have x3:=a4.box x2 (by simp);refine Yd (cX (row':=[nv]) GU a3.cells rfl rfl) (Ze _ (Yb GU)) ?_;have h4:=h2.cM a4 a3;have x4:=Zb (x:=.box [nv]) x3 (by simp) (show eb≠xb by omega);generalize φ3.set eb (.box [nv])=φ4 at *;obtain⟨c,hc,c1,c2⟩:=Hy (b:=b) ⟨hx.1,hx.2.1⟩;have zG:=Xcw hf bY (AT hc);refine Za rfl (Za (v:=iH b.ai) (ld h4.hb rfl) (Za rfl (Za (v:=iv x.card) (ld x4 rfl) ?_)));have cH:=λ(σ:List ab)=>Xm σ cL false false 12 b.ai .i64 c hc;rw[←c1]at cH;have hE:bq b x=if x.dR=true then b.ai[c].dR else b.ai[c].dead:=by unfold bq;rw[c2]
 generalize b.ai[c]=cd at *;refine Za (cH _) (Za rfl (Za (v:=gY cd.dead) (bB rfl) (Za rfl (Za (v:=.bool x.dR) (ld x4 rfl) (Qg λk153 ek=>?_)))));have gk:(l++[nt x]).length<=100000000:=by simp;omega
 have body:k153 [gY (bq b x)] φ4:=by
  have Dk:bE (bq b x)=true∧(bw (bq b x)).length<=500000000:=by
   grind
  rw[ek];clear ek cH;obtain⟨lv4,e4,l4⟩:=h4.he;refine Za (v:=.agg (dH x)) (ld x4 rfl) (Qd hP (f:=22) (ys:=[.agg (dH x),gY (bq b x),.ak 0 0,.ak 1 0,.ak 2 0,.ak eb 0]) rfl g22.ok rfl (w211 b hf bY jh cN x (bq b x) Dk.1 Dk.2 hS hN hC h4.hb h4.hs h4.hf e4 l4 (by decide) (by omega) (by omega) gk (λhb σ' k=>?_) (λhb z1 z2 σ' k=>?_) (λhb hr σ' cB q1 q2 q3 q4 k=>?_)))
  ·have hr:=k.box h4.hr (by simp);refine Za (Ys ..) (Ye (Za (Ys ..) (Ye (Za (v:=.agg aZ) rfl (Yd (cX (row':=aZ) hr rfl rfl rfl) (Ze _ (Yb hr)) (Zs (Xq (Yb hr) rfl) ?_))))));exact CS hb _
  ·have hr:=k.box h4.hr (by simp);refine Za (Ys ..) ?_;rw[gm z1];refine Ye (Za (Ys ..) ?_);rw[gm z2];refine Ye (Za (v:=.agg aZ) rfl (Yd (cX (row':=aZ) hr rfl rfl rfl) (Ze _ (Yb hr)) (Zs (Xq (Yb hr) rfl) ?_)));exact CV hb z1 z2 _
  ·have h5:=h4.BQ q1 q2 q3 q4 k;refine Za (Ys ..) (Ya (λz=>?_) (λz=>?_))
   ·exact hGo hb (by simpa using z) _ h5
   ·have z:(runs b x.side (-1) (bq b x) t (fu-1)).1=190:=by
     simp_all
    refine Za (Ys ..) ?_;rw[fk z];exact Yh (TO hb z _ h5)
 clear ek;refine Ya (λhd=>?_) (λhd=>?_)
 ·rw[aJ hd]at hE;rw[hE]at body;refine Za rfl (Za (v:=iH b.ai) (ld h4.hb rfl) (Za rfl (Za (v:=iv x.card) (ld x4 rfl) (Za (cH _) (Za rfl (Za (v:=gY cd.dR) (bB rfl) body))))))
 simp_all
theorem ZdW(cs:List Cd):∀(l pre:List Cd),(dE cs pre l).1=0→∀c∈l,eG cs c=true
 |[],_,_,c,hc=>absurd hc (by simp)
 |d::l,pre,h,c,hc=>by
  unfold dE at h;split at h
  ·cases h
  ·split at h
   ·rename_i h2;rcases zAR.1 hc with rfl|hc
    ·exact h2
    ·exact ZdW cs l _ h c hc
   ·cases h
theorem Ri{b:Bk}(h:(bz b).1=0):∀c∈b.ai,eG b.ai c=true:=by
 unfold bz at h;split at h
 ·rename_i h1;exact absurd h h1
 ·rename_i h1;have h1:(cE b.ai).1=0:=by simpa using h1
  unfold cE at h1;split at h1
  ·cases h1
  ·exact ZdW _ _ _ h1
def eZ:List Th→Nat
 |[]=>0
 |u::l=>(if 0<u.harm then 1 else 0)+eZ l
def bF(s:St):Nat:=eZ s.s0.af+eZ s.s1.af
theorem RN:∀l:List Th,eZ l<=l.length
 |[]=>IT _
 |u::l=>by have:=RN l;unfold eZ;split<;>simp<;>omega
theorem Yb6:∀l m:List Th,eZ (l++m)=eZ l+eZ m
 |[],m=>by simp[eZ]
 |u::l,m=>by simp only[zAL,eZ,Yb6 l m];omega
theorem P0:∀(l:List Th) (k:Nat) (u:Th),l[k]?=some u→eZ (l.eraseIdx k)+(if 0<u.harm then 1 else 0)=eZ l
 |[],k,u,h=>by simp at h
 |v::l,0,u,h=>by cases h;simp only[List.eraseIdx_zero,List.tail_cons,eZ];omega
 |v::l,k+1,u,h=>by
  have:=P0 l k u (by simpa using h);simp only[List.eraseIdx_cons_succ,eZ];omega
theorem Cr{s:St}{k:Int}{d:Sd}(h:d.af=(s.side k).af):bF (s.put k d)=bF s:=by
 unfold bF St.put St.side at *;split<;>simp_all
theorem Of(m:List Int):∀(l:List Int) (s:St),bF (dh s m l)=bF s
 |[],_=>rfl
 |i::l,s=>(Of m l (iP m s i)).trans (Cr rfl)
theorem ZcP{s:St}{k:Int}(e:(aS s k).2.2=0):bF (aS s k).1=bF s:=by
 unfold aS at e ⊢;split
 ·rename_i h;rw[h]at e;dsimp only at e;split at e
  ·rename_i q;rw[aJ q];exact Cr rfl
  ·cases e
 ·split
  ·refine(Cr ?_).trans rfl;rfl
  ·exact Cr rfl
theorem Xbe(k:Int):∀(j:Nat) (s:St),bF (Qq k j s).2.1=bF s
 |0,_=>rfl
 |j+1,s=>by
  unfold Qq;split
  ·rename_i e;exact(Xbe k j _).trans (ZcP e)
  ·rfl
theorem QdP(b:Bk)(s:St)(sd tg op who:Int)(name:Tx)(n:Int)(hw:op=0∨op=1→who=0∨who=1):bF (iY b s sd tg op who name n).2.1=bF s:=by
 unfold iY;split
 ·rename_i ho;have z:∀(x:Int),x≠0→(iz,jm,x).2.2=0→False:=λx hx h=>hx h;have gP:(c_ s sd tg who).1=0:=by unfold c_;rcases hw ho with rfl|rfl<;>simp
  have key:∀kd fP fU k,(fY kd fP fU s 0 k).2.2=0→bF (fY kd fP fU s 0 k).1=bF s:=by
   intro kd fP fU k e;unfold fY at e ⊢;rw[aJ rfl]at e ⊢;unfold ni at e ⊢;split at e
   ·rename_i q;rw[aJ q];exact Cr rfl
   ·exact(z _ (by decide) e).elim
  unfold fX;rw[gP];split
  ·split
   ·rename_i e;unfold oO at e ⊢;split at e
    ·rename_i q;rw[aJ q];exact key _ _ _ _ e
    ·rename_i q;rw[aE q];exact key _ _ _ _ e
   ·rfl
  ·rfl
 split
 ·unfold ja;split
  ·exact Xbe ..
  ·rfl
 split
 ·unfold eh;split
  ·rfl
  split
  ·rfl
  ·exact Cr rfl
 split
 ·unfold cU;split
  ·rfl
  ·exact(Of ..).trans (Cr rfl)
 split
 ·unfold gy;split
  ·rfl
  ·exact Of ..
 split
 ·exact Of ..
 ·unfold YW;split
  ·rfl
  ·show bF (s.put sd { s.side sd with af:=(s.side sd).af++[⟨s.next,(fZ 0 b.ai name).1,0,true⟩] })=_;unfold bF St.put St.side;split<;>simp[Yb6,eZ]
mutual
theorem Zcb (b:Bk) (sd tg:Int):∀(x:Ef) (d:Int) (s:St) (fu:Int),mH b.ai false d x=true→bF (cm b sd tg x s fu).2.1=bF s
 |.mk op who n name c bP bS,d,s,fu,h=>by
  have h:(decide (0<=op) && (decide (op<=8) && (if op=8 then
   decide (who=0)&&(el n&&(name==[]&&(fG b.ai false c&&((decide (bP.length<=16)&&(decide (d+1<=8)&&bU b.ai false (d+1) bP))&&(decide (bS.length<=16)&&(decide (d+1<=8)&&bU b.ai false (d+1) bS))))))
  else fe c && (decide (bP.length=0) && (decide (bS.length=0) && ((if cq op then eP false n else el n) && ((if op=7 then ee b.ai name true else name == []) && iJ false op who)))))))=true:=h
  rw[AI,AI]at h
  have h:=h.2.2
  rw[cm]
  by_cases h8:op=8
  ·rw[aJ h8]at h ⊢
   simp only[AI]at h
   obtain⟨_,_,_,_,⟨_,_,a7⟩,_,_,a10⟩:=h
   split
   ·exact Q7 b sd tg bP _ s fu a7
   ·exact Q7 b sd tg bS _ s fu a10
  ·rw[aE h8]at h ⊢
   simp only[AI]at h
   split
   ·rfl
   ·refine QdP _ _ _ _ _ _ _ _ λho=>?_
    have h6:=h.2.2.2.2.2
    unfold iJ pF at h6
    rw[aE (by omega),aJ ho]at h6
    simpa[mN]using h6
theorem Q7 (b:Bk) (sd tg:Int):∀(l:List Ef) (d:Int) (s:St) (fu:Int),bU b.ai false d l=true→bF (runs b sd tg l s fu).2.1=bF s
 |[],d,s,fu,_=>by rw[runs]
 |x::l,d,s,fu,h=>by
  simp only[bU,AI]at h
  rw[runs]
  split
  ·exact(Q7 b sd tg l d _ _ h.2).trans (Zcb b sd tg x d s fu h.1)
  ·exact Zcb b sd tg x d s fu h.1
end
theorem RZ{b:Bk}(cN:(bz b).1=0){place:Int}:∀(l:List Th) (i:Int) (a:Int×Int),(∀u∈l,0<=u.card∧u.card<b.ai.length∧(((b.ai[u.card.toNat]?).map Cd.unit).getD false)=true)→0<=a.2→a.2+999*l.length<=1000000000 →
  (if i<=place∧place<i+l.length then 1 else 0)+a.2<=(kv b place l i a).2
 |[],i,a,_,_,_=>by
  unfold kv;rw[aE (by simp;try omega)];omega
 |u::l,i,a,h,h0,hl=>by
  obtain⟨c1,c2,c3⟩:=h u (by simp);obtain⟨k,hk,e1,e2⟩:=Hy (b:=b) ⟨c1,c2⟩;have bQ:=Ri cN _ (AT hk);have ta:b.ai[k].unit=true:=by
   rw[show u.card.toNat=k by omega,zAU hk]at c3;simpa using c3
  simp only[eG,ck,i_,ta,if_true,AI,fE]at bQ;obtain⟨_,_,_,q3,_,_,q6,q7,_⟩:=bQ;simp only[IS]at hl ⊢;unfold kv;rw[e2];by_cases hp:i=place
  ·rw[aJ hp];have w:BY.wrap (a.2+b.ai[k].bJ)=a.2+b.ai[k].bJ:=zAZ _ (by omega);have:=RZ cN (place:=place) l (i+1) (BY.wrap (a.1+b.ai[k].dG),BY.wrap (a.2+b.ai[k].bJ)) (λv hv=>h v (by simp[hv])) (by show 0<=BY.wrap (a.2+b.ai[k].bJ);omega) (by show BY.wrap (a.2+b.ai[k].bJ)+_<=_;omega);have w2:((BY.wrap (a.1+b.ai[k].dG),BY.wrap (a.2+b.ai[k].bJ)):Int×Int).2=a.2+b.ai[k].bJ:=w;rw[w2]at this;split<;>split at this<;>omega
  ·rw[aE hp];have w:BY.wrap (a.2+b.ai[k].dP)=a.2+b.ai[k].dP:=zAZ _ (by omega);have:=RZ cN (place:=place) l (i+1) (BY.wrap (a.1+b.ai[k].eR),BY.wrap (a.2+b.ai[k].dP)) (λv hv=>h v (by simp[hv])) (by show 0<=BY.wrap (a.2+b.ai[k].dP);omega) (by show BY.wrap (a.2+b.ai[k].dP)+_<=_;omega);have w2:((BY.wrap (a.1+b.ai[k].eR),BY.wrap (a.2+b.ai[k].dP)):Int×Int).2=a.2+b.ai[k].dP:=w;rw[w2]at this;split<;>split at this<;>omega
theorem PZ{b:Bk}(cN:(bz b).1=0)(all:List Th)(iK:∀u∈all,0<=u.card∧u.card<b.ai.length∧(((b.ai[u.card.toNat]?).map Cd.unit).getD false)=true)(hl:all.length<=7):∀(l:List Th) (i:Int),0<=i→i+l.length<=all.length→∀id∈QJ b all l i,∃u∈l,u.id=id∧0<u.harm
 |[],i,_,_,id,h=>by simp[QJ]at h
 |u::l,i,h0,h1,id,h=>by
  simp only[IS]at h1;have ih:=PZ cN all iK hl l (i+1) (by omega) (by omega) id;have hp:=RZ cN (place:=i) all 0 (0,0) iK (zBK 0) (by show (0:Int)+999*_<=_;omega);rw[aJ ⟨h0,by omega⟩]at hp;have hp:1+0<=(jL b all i).2:=hp;unfold QJ at h;split at h
  ·rename_i q;rcases zAR.1 h with h|h
   ·exact⟨u,by simp,h.symm,by omega⟩
   ·obtain⟨v,h2,h3⟩:=ih h;exact⟨v,by simp[h2],h3⟩
  ·obtain⟨v,h2,h3⟩:=ih h;exact⟨v,by simp[h2],h3⟩
theorem Xb1{b:Bk}(cN:(bz b).1=0){s:St}(hM:dz b s):∀id∈aH b s,∃u∈s.s0.af++s.s1.af,u.id=id∧0<u.harm:=by
 have hu:∀u∈s.s0.af++s.s1.af,0<=u.card∧u.card<b.ai.length∧(((b.ai[u.card.toNat]?).map Cd.unit).getD false)=true:=by
  intro u h;have:=hM.un.1 u h;simp only[Qz,AI,fE]at this;exact⟨this.1,this.2.1,this.2.2.1⟩
 have k0:=PZ cN s.s0.af (λu h=>hu u (by simp[h])) hM.s0.af s.s0.af 0 (zBK 0) (by omega);have k1:=PZ cN s.s1.af (λu h=>hu u (by simp[h])) hM.s1.af s.s1.af 0 (zBK 0) (by omega);intro id h;unfold aH at h;have h:id∈QJ b s.s0.af s.s0.af 0∨id∈QJ b s.s1.af s.s1.af 0:=by
  split at h<;>(rcases zAI.1 h with h|h)<;>simp_all [Q0]
 rcases h with h|h
 ·obtain⟨u,q1,q2⟩:=k0 id h;exact⟨u,by simp[q1],q2⟩
 ·obtain⟨u,q1,q2⟩:=k1 id h;exact⟨u,by simp[q1],q2⟩
theorem XbB{l:List Th}{k:Nat}{u v:Th}(hk:l[k]?=some u)(hv:v∈l)(cO:v.id≠u.id):v∈l.eraseIdx k:=by
 obtain⟨i,hi,rfl⟩:=zBp hv;rw[List.mem_eraseIdx_iff_getElem?];refine⟨i,?_,zAU hi⟩;rintro rfl;rw[zAU hi]at hk;cases hk;exact cO rfl
theorem XbZ{s:St}{id:Int}(hn:((s.s0.af++s.s1.af).map Th.id).Nodup){u:Th}(hu:u∈s.s0.af++s.s1.af)(hi:u.id=id)(hh:0<u.harm) :
  bF (Qm s id).1+1=bF s∧(((Qm s id).1.s0.af++(Qm s id).1.s1.af).map Th.id).Nodup∧∀v∈s.s0.af++s.s1.af,v.id≠id→v∈(Qm s id).1.s0.af++(Qm s id).1.s1.af:=by
 have same:∀w∈s.s0.af++s.s1.af,w.id=id→w=u:=by
  intro w hw e;obtain⟨i,h1,rfl⟩:=zBp hw;obtain⟨j,h2,rfl⟩:=zBp hu;have:=(List.getElem_inj (h₀:=by simpa using h1) (h₁:=by simpa using h2) hn).1 (show ((s.s0.af++s.s1.af).map Th.id)[i]'(by simpa using h1)=((s.s0.af++s.s1.af).map Th.id)[j]'(by simpa using h2) by simp only[List.getElem_map];rw[e,hi]);subst this;rfl
 unfold Qm;cases q0:gB s.s0.af id with
 |some k=>
  obtain⟨w,hw,e⟩:=YR q0;have hm:w∈s.s0.af:=zAK hw;have ew:=same w (by simp[hm]) e;subst ew;have h1:=P0 _ k w hw;rw[aJ hh]at h1;refine⟨by show eZ (s.s0.af.eraseIdx k)+eZ s.s1.af+1=eZ s.s0.af+eZ s.s1.af;omega,?_,λv hv cO=>?_⟩
  ·exact hn.sublist (((zCj _ _).append (zBJ _)).map _)
  ·rcases zAI.1 hv with hv|hv
   ·exact zAl _ (XbB hw hv (by rw[e];exact cO))
   ·exact zAg _ hv
 |none=>
  simp only;cases q1:gB s.s1.af id with
  |some k=>
   obtain⟨w,hw,e⟩:=YR q1;have hm:w∈s.s1.af:=zAK hw;have ew:=same w (by simp[hm]) e;subst ew;have h1:=P0 _ k w hw;rw[aJ hh]at h1;refine⟨by show eZ s.s0.af+eZ (s.s1.af.eraseIdx k)+1=eZ s.s0.af+eZ s.s1.af;omega,?_,λv hv cO=>?_⟩
   ·exact hn.sublist (((zBJ _).append (zCj _ _)).map _)
   ·rcases zAI.1 hv with hv|hv
    ·exact zAl _ hv
    ·exact zAg _ (XbB hw hv (by rw[e];exact cO))
  |none=>
   have n0:=SQ q0;have n1:=SQ q1;rcases zAI.1 hu with h|h
   ·exact absurd (zAt.2 ⟨u,h,hi⟩) n0
   ·exact absurd (zAt.2 ⟨u,h,hi⟩) n1
theorem Ph:∀(ids:List Int) (s:St),ids.Nodup→((s.s0.af++s.s1.af).map Th.id).Nodup→(∀id∈ids,∃u∈s.s0.af++s.s1.af,u.id=id∧0<u.harm)→bF (Yl ids s).1+ids.length=bF s
 |[],s,_,_,_=>by simp[Yl]
 |id::ids,s,hd,hn,h=>by
  rw[zBs]at hd;obtain⟨u,hu,hi,hh⟩:=h id (by simp);obtain⟨q1,q2,q3⟩:=XbZ hn hu hi hh;have:=Ph ids (Qm s id).1 hd.2 q2 λK3 Ke=>by
   obtain⟨v,hv,hvi,hvh⟩:=h K3 (by simp[Ke]);exact⟨v,q3 v hv (by rintro e;rw[hvi]at e;subst e;exact hd.1 Ke),hvi,hvh⟩
  rw[Yl,IS];show bF (Yl ids (Qm s id).1).1+_=_;omega
theorem Nw{b:Bk}(cN:(bz b).1=0){N C:Nat}(hC:C+14<=1000000):∀(n:Nat) (s:St) (ws:List Tr) (l:List Ev),cY b N C s→bF (quiet b n s ws l).1+(quiet b n s ws l).2.1.length<=bF s+ws.length
 |0,s,ws,l,_=>IT _
 |n+1,s,ws,l,h=>by
  unfold quiet;split
  ·exact IT _
  ·have h1:=Nw cN hC n _ (ws++eX b s (aH b s)) (l++(Yl (aH b s) s).2) (h.sM hC);have h2:=Ph (aH b s) s (ZF h.may).1 h.may.un.2 (Xb1 cN h.may);have h3:=Q5 b s (aH b s);rw[By]at h1;omega
theorem NL{b:Bk}{s:St}(hM:dz b s):bF s<=14:=by
 have h0:=hM.s0.af;have h1:=hM.s1.af;have:=RN s.s0.af;have:=RN s.s1.af;unfold bF;omega
theorem NK{b:Bk}(cN:(bz b).1=0){x:Tr}(hx:jR b x):bU b.ai false 1 (bq b x)=true:=by
 obtain⟨c,hc,_,e⟩:=Hy (b:=b) ⟨hx.1,hx.2.1⟩;have k:=Ri cN _ (AT hc);simp only[eG,bD,AI]at k;obtain⟨_,_,_,_,_,_,_,_,_,_,⟨_,_,hd⟩,_,_,hn⟩:=k;unfold bq;rw[e];split
 ·exact hn
 ·exact hd
def Yd2(eb qb:Nat)(K:KT)(k58 SW:mC)(aap:List aa)(σ:List ab):Prop:=
 VV.rd (Qe true 2 [.ak 0 0] σ) λt86=>VV.rd (Qe true 23 [.ak 1 0] σ) λt87=>VV.call (.call 24) [t86,t87] σ λt88 σ=>
 VV.loop (λSX v66 σ=>VV.rd (Qn [h0 v66] σ) λt90=>VV.rd (Ym .gtr false [t90,.int .i64 0] σ) λt91=>VV.test t91 (
  VV.rd (Qn [h0 v66] σ) λt96=>VV.loop (λSY v71 σ=>VV.rd (Ym .lss false [h0 v71,t96] σ) λt98=>VV.test t98 (
    cI (λk73=>xX qb (h0 v66) (h0 v71) k73 σ) (λ_ σ=>VV.rd (Ym .add false [h0 v71,.int .i64 1] σ) λt131=>SY [t131] σ))
    (vL eb (h0 v66) SX σ)) [.int .i64 0] σ) (
  VV.call (.call 27) [.ak 1 0] σ λt143 σ=>VV.rd (Ym .neq false [t143,.int .i8 0] σ) λt145=>VV.test t145 (k58 [t143] σ) (
   VV.call (.call 28) [.ak qb 0] σ λt148 σ=>VV.rd (Xi 0 [t148] σ) λt149=>VV.rd (Xi 1 [t148] σ) λt150=>VV.wr (Qs [.int .i64 0,.int .i64 0,.bool false] [] σ) σ λt27 σ=>
   VV.wr (Yj 3 [t27,t149] σ) σ λ_ σ=>VV.rd (tH .not [t150] σ) λt152=>VV.test t152 (
    VV.dr (Qe true 23 [.ak 1 0] σ) σ λt153 l125 σ=>VV.dr (Qe false 1 [.ak eb 0] σ) σ λt154 l127 σ=>VV.dr (Qe false 1 [.ak 2 0] σ) σ λt155 l129 σ=>VV.dr (Yj 23 [.ak 3 0,t153] σ) σ λ_ l130 σ=>
    VV.gd (Zj [[],[],[],[0],[0,1,3],[0,1,2,3,4],[0,1,2,3,4,5]] [l125,l127,l129,l130,([],[]),([],[]),([],[])]) <| VV.opt (im true 23 (.ak 3 0) σ) λr131=>K (.bp [r131,t154,t155,.int .i64 0]) σ) (
    VV.rd (Qe false 1 [.ak 2 0] σ) λt156=>VV.rd (Ym .eql false [t156,.int .i64 0] σ) λt157=>VV.test t157 (k58 [.int .i8 3] σ) (
     xY eb SW k58 K (.func (.func 22) [] [.ak 0 0,.ak 1 0,.ak 2 0,.ak eb 0]) t27 σ))))) [t88] σ
def BR(eb qb:Nat)(K:KT)(σ:List ab):Prop:=
 cI (λk58=>VV.loop (Yd2 eb qb K k58) [] σ) (λv59 σ=>xU eb K v59 σ)
theorem Zev{b:Bk}(hf:a_ b=true)(bY:Yg b.ai)(jh:b.ai.length<=61)(cN:(bz b).1=0){s:St}{N C:Nat}(hS:cY b N C s){fu:Int}(wF:0<=fu∧fu<=1000)(hC:C+200*(fu.toNat+1)+14<=1000000){ws:List Tr}(hN:N+12000*(ws.length+bF s+1)<=1000000)(zW:ws.length<=1000)(bQ:∀x∈ws,jR b x)
 {eb qb:Nat}{τ:List ab}(hR:RS b s fu [] ws eb qb τ){K:KT}
 (hK:∀(r:Int×St×List Ev×Int) (lv:aa) (cs:List aa) (σ':List ab),r=YK b (fu.toNat+1) s ws fu []→SB σ' [] cs r.2.1→LE r.2.2.1 lv σ'→K (.bp [.agg cs,lv,iv r.2.2.2,iv r.1]) σ'):BR eb qb K τ:=by
 unfold BR;refine Qg λk58 ek=>?_;have oG:∀(t:St) (ju how:Int) (l2:List Ev) (vc:List Tr) (υ:List ab),bd 1000000000 t→RS b t ju l2 vc eb qb υ→0<=how∧how<=3→l2.length<=100000000→jd b t l2 ju how=YK b (fu.toNat+1) s ws fu []→k58 [aN how] υ:=by
  intro t ju how l2 vc υ ht hr hh hl e;rw[ek];exact QeA b hf bY ht hr how hh hl (λσ' lv hle=>hK _ lv _ σ' e (SB.ro _) hle)
 clear ek;refine Xg (ι:=Nat) (λi vs υ=>vs=[]∧∃ (t:St) (ju:Int) (l2:List Ev) (vc:List Tr) (N2 C2 n:Nat),RS b t ju l2 vc eb qb υ∧cY b N2 C2 t∧0<=ju∧ju<=1000∧i=ju.toNat∧N2 + 12000 * (vc.length + bF t + 1)<=1000000∧C2 + 200 * (i + 1) + 14<=1000000 ∧
   l2.length + 13000 * (i + 1)<=90000000∧vc.length + 20 * (i + 1)<=80000000∧(∀ x∈vc,jR b x)∧ju<=n∧YK b (n + 1) t vc ju l2=YK b (fu.toNat + 1) s ws fu []) id fu.toNat
  ⟨rfl,s,fu,[],ws,N,C,fu.toNat,hR,hS,wF.1,wF.2,rfl,hN,hC,by simp;omega,by omega,bQ,by omega,rfl⟩ ?_
 clear hR hS hN hC zW bQ;rintro i vs υ again ⟨rfl,t0,ju,l0,B',N2,C2,n,hR,hS,wB,uO,rfl,hN,hC,hl,hw,bQ,hn,mX⟩ bn;unfold Yd2;refine Za (v:=cC b) (ld hR.hb rfl) (Za (v:=bZ t0) (ld hR.hs rfl) (aY (c28 b hf bY t0 hS.le (Xo.2 ⟨cN,hS.may⟩)) g24.ok ?_));have ta:Zk t0<=14:=by have:=hS.may.s0.af;have:=hS.may.s1.af;unfold Zk;omega
 have Dt:=Oj (b:=b) (N:=N2) (C:=C2) (by omega) (Zk t0) t0 B' l0 (IT _) hS;refine Xg (ι:=Nat) (λi vs φ=>∃(t:St) (l':List Ev) (kJ:List Tr),vs=[aP (aH b t)]∧i=Zk t∧RS b t ju l' kJ eb qb φ∧cY b N2 C2 t∧quiet b (Zk t) t kJ l'=quiet b (Zk t0) t0 B' l0∧l'.length+Zk t<=l0.length+14∧kJ.length+Zk t<=B'.length+14) id (Zk t0)
  ⟨t0,l0,B',rfl,rfl,hR,hS,rfl,by omega,by omega⟩ ?_
 clear hR;rintro _ _ φ S2 ⟨t,l',kJ,rfl,rfl,hR,yp,hq,gk,O5⟩ JV;refine Za (v:=iv (aH b t).length) (rd:=[]) (by simp[Qn,h0]) (Za (v:=.bool (decide (((aH b t).length:Int)>0))) rfl (Ya (λh=>?_) (λh=>?_)))
 ·have hd:aH b t≠[]:=by rintro e;rw[e]at h;simp at h
  obtain⟨d1,d2,d3⟩:=ZF yp.may;refine Za (v:=iv (aH b t).length) (rd:=[]) (by simp[Qn,h0]) (Xg (ι:=Nat) (λj vs ψ=>vs=[iv j]∧j<=(aH b t).length∧RS b t ju l' (kJ++eX b t ((aH b t).take j)) eb qb ψ) (λj=>(aH b t).length-j) 0 ⟨rfl,by omega,by simpa[eX]using hR⟩ ?_);rintro j _ ψ mE ⟨rfl,hj,JS⟩ ll;refine Za (v:=.bool (decide ((j:Int)<(aH b t).length))) rfl (YS (λh2=>?_) (λh2=>?_))
  ·have hwl:(kJ++eX b t ((aH b t).take j)).length<=90000000:=by
    grind [Q5]
   refine Qg λk73 ek=>?_;refine YeD hf yp JS h2 (d2 _ (AT h2)) hwl λψ' h3=>?_;rw[zAa,←Pn,←Yw _ _ h2]at h3;rw[ek];refine Za (Qj ..) ?_;rw[Qc (n:=j) (by omega)]
   grind
  ·subst h2;rw[zAr]at JS;refine Qek hf bY cN yp (by omega) JS (by omega) λψ' h3=>?_;have wJ:=Gx yp.may hd;have zC:=(Yz (aH b t) t).1;have fg:=MV (aH b t) t d1 d2;have hT:=Q5 b t (aH b t);rw[YbH (N:=N2) (C:=C2) (by omega) kJ l' yp hd]at hq;refine JV _ _ _ wJ ⟨_,_,_,rfl,rfl,h3,yp.sM (by omega),hq,?_,?_⟩
   ·rw[By];omega
   ·rw[By];omega
 ·have hd:aH b t=[]:=by
   grind [zAW]
  rw[ZbH _ _ _ hd]at hq;have j5:=NS n ju hq.symm;rw[mX]at j5;clear JV mX;obtain⟨_,_,_,⟨m',p1,p2,p3⟩⟩:=Dt;rw[←hq]at p1;have p1:kJ=B'++m':=p1;have uS:∀x∈kJ,jR b x:=by
   grind
  have rC:=Nw cN (by omega:C2+14<=1000000) (Zk t0) t0 B' l0 hS;rw[←hq]at rC
  replace rC:bF t+kJ.length<=bF t0+B'.length:=rC
  clear p1 p2 p3 hq;refine Qd hP (f:=27) rfl g27.ok rfl (w212 t hR.hs ?_);have CZ:=Wt t;refine Za (Z6 ..) (Ya (λhz=>?_) (λhz=>?_))
  ·have hz:bN t≠0:=by simpa using hz
   rw[aJ hz]at j5;exact oG t ju _ l' kJ φ yp.rL hR CZ (by omega) j5.symm
  have hz:bN t=0:=by simpa using hz
  rw[aE (by simpa using hz)]at j5;obtain⟨qv,q1,q2⟩:=hR.hq;refine Qd hP (f:=28) rfl g28.ok rfl (w213 q1 q2 (by omega) (λDq σ' r1 r2 r3=>?_) (λx wr wq σ' vr r1 r2 r3=>?_))
  ·subst Dq;have h3:=hR.Hf r1 r2 r3;refine Za rfl (Za rfl (Qu (row:=[iv 0,iv 0,.bool false]) (row':=[iv 0,iv 0,.bool false]) rfl rfl rfl ?_));have h4:=h3.app (.box [iv 0,iv 0,.bool false]);generalize σ'++[ab.box [iv 0,iv 0,.bool false]]=φ2 at *;obtain⟨lv,e1,l1⟩:=h4.he;have hr:=h4.hr;have e3:=h4.e3;refine Za rfl (Yh (Xf (v:=bZ t) (ld h4.hs rfl) (Zg _) (Xf (v:=lv) (ld e1 rfl) (Zg _) (Xf (v:=iv ju) (ld h4.hf rfl) (Zg _) (Xf (cX (row':=aI t) hr rfl rfl rfl) (Ze _ (Yb hr)) ?_)))));have n1:eb≠3:=by omega
   refine Zw (by simp[Zj,Xn,Zn,Qv,cf,dZ,zAC,zAc,n1,n1.symm]) (Zs (Xq (Yb hr) rfl) ?_);exact hK (0,t,l',ju) lv _ _ j5.symm (SB.ro _) (l1.mono λc rs k=>XB _ hr k)
  ·subst wq;have h3:=hR.Hf r1 r2 r3;refine Za rfl (Za rfl (Qu (row:=dH x) (row':=dH x) rfl rfl rfl ?_));have hq3:=Yb r1;have h4:=h3.app (.box (dH x));have x4:=Yc σ' (.box (dH x));generalize σ'.length=xb at *;generalize σ'++[ab.box (dH x)]=φ2 at *;refine Za rfl (Ye (Za (v:=iv ju) (ld h4.hf rfl) (Za (Ys ..) (Ya (λmy=>?_) (λmy=>?_)))))
   ·have my:ju=0:=by simpa using my
    have jk:YK b (fu.toNat+1) s ws fu []=jd b t l' ju 3:=by rw[j5];simp only;rw[aJ my]
    exact oG t ju 3 l' wr φ2 yp.rL h4 (by decide) (by omega) jk.symm
   have my:ju≠0:=by simpa using my
   have hx:=uS x (by simp)
   replace rC:bF t+(wr.length+1)<=bF t0+B'.length:=rC
   have UR:=Q7 b x.side (-1) (bq b x) 1 t (ju-1) (NK cN hx);have jk:YK b (fu.toNat+1) s ws fu []=if Xs b x.side (ju-1) (bq b x)=true then (2,iz,[],0)
    else if (runs b x.side (-1) (bq b x) t (ju-1)).1=0 then YK b n (runs b x.side (-1) (bq b x) t (ju-1)).2.1 wr (runs b x.side (-1) (bq b x) t (ju-1)).2.2.1 (l'++[nt x]++(runs b x.side (-1) (bq b x) t (ju-1)).2.2.2)
    else if (runs b x.side (-1) (bq b x) t (ju-1)).1=190 then jd b (runs b x.side (-1) (bq b x) t (ju-1)).2.1 (l'++[nt x]++(runs b x.side (-1) (bq b x) t (ju-1)).2.2.2) (runs b x.side (-1) (bq b x) t (ju-1)).2.2.1 3
    else ((runs b x.side (-1) (bq b x) t (ju-1)).1,iz,[],0):=by rw[j5];simp only;rw[aE my]
   clear j5;have ma:Xs b x.side (ju-1) (bq b x)=false→cY b (N2+12000) (C2+200) (runs b x.side (-1) (bq b x) t (ju-1)).2.1∧(runs b x.side (-1) (bq b x) t (ju-1)).2.2.2.length<=12000:=by
    intro ha;have dB:mV b (bq b x)=true:=by
     grind [Xs]
    obtain⟨_,uN⟩:=HP dB;obtain⟨k1,k2⟩:=AP (b:=b) (tg:=-1) hx.2.2 (bq b x) (ju-1) yp (by omega) (by omega);exact⟨k1.mono (by omega) (by omega),by omega⟩
   refine XeD hf bY jh cN yp (by omega) (by omega) (by omega) h4 (by omega) hx x4 hq3 (λha σ2=>?_) (λha z1 z2 σ2=>?_) (λha z σ2 h5=>?_) (λha z σ2 h5=>?_)
   ·rw[aJ ha]at jk;exact hK (2,iz,[],0) .an _ _ jk.symm SB.zero (.inl ⟨rfl,rfl⟩)
   ·rw[aE (by rw[ha];simp),aE z1,aE z2]at jk;exact hK (_,iz,[],0) .an _ _ jk.symm SB.zero (.inl ⟨rfl,rfl⟩)
   ·rw[aE (by rw[ha];simp),aE (by rw[z];decide),aJ z]at jk;obtain⟨k1,k2⟩:=ma ha;exact oG _ _ 3 _ wr σ2 k1.rL h5 (by decide) (by grind) jk.symm
   ·rw[aE (by rw[ha];simp),aJ z]at jk;obtain⟨k1,k2⟩:=ma ha;have Ud:=Ge b x.side (-1) (bq b x) t (ju-1) (by omega);obtain⟨n',rfl⟩:∃n',n=n'+1:=⟨n-1,by omega⟩;have hwl:wr.length+1=(x::wr).length:=rfl;obtain⟨m,hm⟩:∃m,((runs b x.side (-1) (bq b x) t (ju-1)).2.2.1).toNat=m:=⟨_,rfl⟩;have wO:m<ju.toNat:=by omega
    have qF:(runs b x.side (-1) (bq b x) t (ju-1)).2.2.1<=(n':Int):=by omega
    refine bn m [] σ2 wO ⟨rfl,_,_,_,wr,_,_,n',h5,k1,Ud.1,by omega,hm.symm,by omega,by omega,by grind,by omega,λy hy=>uS y (by simp[hy]),qF,jk.symm⟩
def kL(b:Bk)(x:Tr):Bool:=((decide (x.card<0)||decide (x.card >= b.ai.length))||decide (x.side<0))||decide (x.side>1)
def Qp(fu:Int):Int:=min (max fu 0) 1000
def ca(b:Bk)(s:St)(row:List Tr)(fu:Int):Int×St×List Ev×Int:=
 if (decide ((row.length:Int)>1000) || !aO (bz b).1 b s true)=true then (170,iz,[],0)
 else if row.any (kL b)=true then (170,iz,[],0)
 else if s.phase=2 then (0,s,[],Qp fu)
 else YK b ((Qp fu).toNat+1) s row (Qp fu) []
theorem MW{b:Bk}{x:Tr}(h:kL b x=false):jR b x:=by
 unfold kL at h;simp only[zAv,sG]at h;obtain⟨⟨⟨h1,h2⟩,h3⟩,h4⟩:=h;exact⟨by omega,by omega,by omega⟩
theorem q92(b:Bk)(s:St)(hf:a_ b=true)(bY:Yg b.ai)(jh:aO (bz b).1 b s true=true→b.ai.length<=61)(hs:bd 1000000000 s)(row:List Tr)(fu:Int)(N C:Nat)(hT:TB N s)(hC:Zm s<=C)(hN:aO (bz b).1 b s true=true→N+12000*(row.length+bF s+1)<=1000000)(pX:C+200*((Qp fu).toNat+1)+14<=1000000) :
  PC 8 [cC b,bZ s,nG row,iv fu] (mm (ca b s row fu)):=by
 refine Qi hP g8.ok rfl ?_;have hF:0<=Qp fu∧Qp fu<=1000:=by unfold Qp;omega
 rw[H4.e];unfold g8;dsimp only;refine Yd (v:=.ak 0 0) (rd:=[]) (up:=[(0,.box (cy b))]) rfl (Xe [] _) (Yd (v:=.ak 1 0) (rd:=[]) (up:=[(1,.box (aI s))]) rfl (Xe [ab.box (cy b)] _) (Yd (v:=.ak 2 0) (rd:=[]) (up:=[(2,.box [iv fu])]) rfl (Xe [ab.box (cy b),.box (aI s)] _) (Yd (v:=.ak 3 0) (rd:=[]) (up:=[(3,.box aZ)]) rfl (Xe [ab.box (cy b),.box (aI s),.box [iv fu]] _) (Za (v:=iv fu) (ld (row:=[iv fu]) rfl rfl) (Za (v:=iv (max fu 0)) (vA ..) (Za (v:=iv (Qp fu)) (Z1 ..) (Yd (cX (row:=[iv fu]) (row':=[iv (Qp fu)]) rfl rfl rfl rfl) (Ze _ (by simp)) ?_)))))));obtain⟨σ,eσ⟩:∃σ:List ab,([ab.box (cy b),ab.box (aI s),ab.box [iv fu]]++[ab.box aZ]).set 2 (ab.box [iv (Qp fu)])=σ:=⟨_,rfl⟩;rw[eσ];have b1:aj σ 0=.box (cy b):=by rw[←eσ];rfl
 have s1:aj σ 1=.box (aI s):=by rw[←eσ];rfl
 have f1:aj σ 2=.box [iv (Qp fu)]:=by rw[←eσ];rfl
 have r1:aj σ 3=.box aZ:=by rw[←eσ];rfl
 clear eσ;refine Za (v:=iv row.length) (rd:=[]) (by simp[Qn]) (ay ?_);have wE:∀K':KT,(∀τ,du σ τ []→K' (.bool (decide ((row.length:Int)>1000) || !aO (bz b).1 b s true)) τ) →
   VV.gw (.bool (decide ((row.length:Int)>1000))) false (λk=>VV.call (.call 19) [.ak 0 0,.ak 1 0] σ k) σ λt40 σ=>
   VV.gr (.bool (decide ((row.length:Int)>1000))) false (λk=>VV.rd (tH .not [t40] σ) k) λt41=>
   VV.rd (Zo [.bool (decide ((row.length:Int)>1000)),.bool true,t41] σ) (λv=>K' v σ):=by
  intro K' lj;rcases cA (decide ((row.length:Int)>1000))with q|q
  ·rw[q]at lj ⊢;have:=lj σ ⟨IT _,λ_ _ _=>rfl⟩;refine ay ?_;exact by simpa using this
  ·rw[q]at lj ⊢;refine Yq (Qd hP (f:=19) rfl g19.ok rfl (w209 b hf bY s hs b1 s1 λτ hτ=>Qa (Za rfl (Za rfl ?_))));simp_all
 refine wE _ λτ hτ=>?_;clear wE;have b2:=hτ.get b1;have s2:=hτ.get s1;have f2:=hτ.get f1;have r2:=hτ.get r1;clear hτ b1 s1 f1 r1;have hz:∀(υ:List ab),aj υ 3=.box aZ→ca b s row fu=(170,iz,[],0) →
   VV.wr (Yj 23 [.ak 3 0,.agg aZ] υ) υ λ_ σ=>VV.opt (im true 23 (.ak 3 0) σ) λr13=>∃rd,aB (hp σ) rd (.bp [r13,.an,.int .i64 0,.int .i64 170]) (mm (ca b s row fu)):=by
  intro υ hr e;refine Yd (cX (row':=aZ) hr rfl rfl rfl) (Ze _ (Yb hr)) (Zs (Xq (Yb hr) rfl) ?_);rw[e];exact xq (r:=(170,iz,[],0)) SB.zero (.inl ⟨rfl,rfl⟩)
 rcases cA (decide ((row.length:Int)>1000) || !aO (bz b).1 b s true)with q|q
 ·rw[q];exact Yh (Za (v:=.agg aZ) rfl (hz _ r2 (by unfold ca;rw[aJ q])))
 rw[q];have hq:=q;simp only[zAv,sG,zBh]at hq;obtain⟨hlen,lu⟩:=hq;have hlen:row.length<=1000:=by omega
 have cN:=(Xo.1 lu).1;have hS:cY b N C s:=⟨(Xo.1 lu).2,hT,hC⟩;refine Ye (Za (v:=iv row.length) (rd:=[]) (by simp[Qn]) ?_);refine Xg (ι:=Nat) (λj vs υ=>vs=[iv j]∧j<=row.length∧du τ υ []∧∀x∈row.take j,kL b x=false) (λj=>row.length-j) 0 ⟨rfl,by omega,⟨IT _,λ_ _ _=>rfl⟩,by simp⟩ ?_;rintro j _ υ again ⟨rfl,hj,bn,iK⟩ rA;have b3:=bn.get b2;have s3:=bn.get s2;have f3:=bn.get f2;have r3:=bn.get r2;refine ay (YS (λh=>?_) (λh=>?_))
 ·refine Za (Xm _ dH false false 3 row .i64 j h) ?_;have g_:row[j]∈row:=AT h;have k_:=Yw row j h;generalize row[j]=x at *;refine Za (v:=.agg (dH x)) (bB rfl) (Qu (row:=dH x) (row':=dH x) rfl rfl rfl ?_);have ll:=bn.jX (.box (dH x));have x4:=Yc υ (.box (dH x));have b4:=Qb [ab.box (dH x)] b3;have r4:=Qb [ab.box (dH x)] r3;generalize υ.length=xb at *;generalize υ++[ab.box (dH x)]=υ2 at *;refine Za rfl (Za (v:=iv x.card) (ld x4 rfl) ?_);refine ay ?_;refine SR (d:=decide (x.card >= b.ai.length)) (v1:=.ak xb 0) (v2:=iv x.card) (v3:=.ak 0 0) (v4:=iH b.ai) (v5:=iv b.ai.length) (q5:=[]) (λ_=>rfl) (λ_=>ld x4 rfl) (λ_=>rfl) (λ_=>ld b4 rfl) (λ_=>by simp[Qn]) (λ_=>rfl) ?_;refine vg (d:=decide (x.side<0)) (v1:=.ak xb 1) (v2:=iv x.side) (λ_=>rfl) (λ_=>ld x4 rfl) (λ_=>rfl) ?_;refine vg (d:=decide (x.side>1)) (v1:=.ak xb 1) (v2:=iv x.side) (λ_=>rfl) (λ_=>ld x4 rfl) (λ_=>rfl) (Ya (c:=kL b x) (λhb=>?_) (λhb=>?_))
  ·exact ay (hz _ r4 (by grind [ca]))
  ·refine Za (Qj ..) ?_;rw[Qc (n:=j) (by omega)]
   grind
 ·subst h;rw[zAr]at iK;clear rA;have aas:row.any (kL b)=false:=by
   simp_all
  refine Za (v:=bZ s) (ld s3 rfl) (aY (vN s hs) g20.ok (Yd (cX (row':=aI s) s3 rfl rfl rfl) (Ze _ (Yb s3)) ?_));have b4:=Zb (x:=.box (aI s)) b3 (by simp) (show 1≠0 by decide);have s4:aj (υ.set 1 (.box (aI s))) 1=.box (aI s):=Zd _ (Yb s3);have f4:=Zb (x:=.box (aI s)) f3 (by simp) (show 1≠2 by decide);have r4:=Zb (x:=.box (aI s)) r3 (by simp) (show 1≠3 by decide);generalize υ.set 1 (.box (aI s))=υ1 at *;have hr4:=Yb r4;refine Yd (v:=.ak υ1.length 0) (rd:=[]) (up:=[(υ1.length,.box [.an])]) rfl (Xe υ1 _) ?_;have b5:=Qb [ab.box [.an]] b4;have s5:=Qb [ab.box [.an]] s4;have f5:=Qb [ab.box [.an]] f4;have r5:=Qb [ab.box [.an]] r4;have e5:=Yc υ1 (.box [.an]);have hl5:(υ1++[ab.box [.an]]).length=υ1.length+1:=by simp
  generalize υ1++[ab.box [.an]]=υ2 at *;refine Za rfl (Za (v:=aN s.phase) (ld s5 rfl) (Za (Ys ..) (Ya (λwS=>?_) (λwS=>?_))))
  ·have wS:s.phase=2:=by simpa using wS
   refine Xf (v:=bZ s) (ld s5 rfl) (Zg _) (Xf (v:=iv (Qp fu)) (ld f5 rfl) (Zg _) (Xf (cX (row':=aI s) r5 rfl rfl rfl) (Ze _ (Yb r5)) ?_));refine Zw (by rfl) (Zs (Xq (Yb r5) rfl) ?_);have e:ca b s row fu=(0,s,[],Qp fu):=by
    simp_all [ca,aE]
   rw[e];exact xq (r:=(0,s,[],Qp fu)) (SB.ro s) (.inl ⟨rfl,rfl⟩)
  ·have wS:¬s.phase=2:=by simpa using wS
   have e:ca b s row fu=YK b ((Qp fu).toNat+1) s row (Qp fu) []:=by
    simp_all [ca,aE]
   rw[e];refine Za (v:=.agg [.an]) rfl (Yd (v:=.ak υ2.length 0) (rd:=[]) (up:=[(υ2.length,.box [.an])]) rfl (Xe υ2 _) ?_);have h6:RS b s (Qp fu) [] [] υ1.length υ2.length (υ2++[.box [.an]]):=
    ⟨Qb _ b5,Qb _ s5,Qb _ f5,Qb _ r5,⟨.an,Qb _ e5,.inl ⟨rfl,rfl⟩⟩,⟨.an,Yc υ2 _,.inl ⟨rfl,rfl⟩⟩,by omega,by omega⟩
   generalize υ2++[ab.box [.an]]=υ3 at *;generalize υ2.length=qb at *;generalize υ1.length=eb at *;obtain⟨qv,q1,q2⟩:=h6.hq;refine Qd hP (f:=21) rfl g21.ok rfl (w210 (ys:=row) q1 q2 Gl (by simp;omega) λσ' vr p1 p2 p3=>?_);have h7:=h6.Hf p1 p2 p3;rw[zAM]at h7;exact Za rfl (Zev hf bY (jh lu) cN hS hF pX (hN lu) hlen (λx hx=>MW (iK x hx)) h7 (K:=λv σ=>∃rd,aB (hp σ) rd v (mm (YK b ((Qp fu).toNat+1) s row (Qp fu) []))) (λr lv cs σ' er hsb hle=>by rw[←er];exact xq hsb hle))
def vS(c:Cd):Prop:=(0<=c.dg∧c.dg<=999)∧(0<=c.dG∧c.dG<=999)∧(0<=c.bJ∧c.bJ<=999)∧(0<=c.eR∧c.eR<=999)∧(0<=c.dP∧c.dP<=999)
theorem vT(cs:List Cd):∀(l pre:List Cd),(dE cs pre l).1=0→∀c∈l,vS c
 |[],_,_,c,hc=>absurd hc (by simp)
 |d::l,pre,h,c,hc=>by
  unfold dE at h;split at h
  ·cases h
  ·split at h
   ·rename_i h2;rcases zAR.1 hc with rfl|hc
    ·simp only[eG,ck,AI,fE]at h2;obtain⟨_,_,h3,h4,hs,h5,h6,_⟩:=h2;exact⟨hs,h3,h4,h5,h6⟩
    ·exact vT cs l _ h c hc
   ·cases h
theorem YdH{b:Bk}(h:(bz b).1=0):∀c∈b.ai,vS c:=by
 unfold bz at h;split at h
 ·rename_i h1;exact absurd h h1
 ·rename_i h1;have h1:(cE b.ai).1=0:=by simpa using h1
  unfold cE at h1;split at h1
  ·cases h1
  ·exact vT _ _ _ h1
theorem NQ{b:Bk}(h:(bz b).1=0)(k:Int):vS (Yr b k):=by
 unfold Yr;cases e:b.ai[k.toNat]? with
 |none=>exact⟨⟨zBK _,by decide⟩,⟨zBK _,by decide⟩,⟨zBK _,by decide⟩,⟨zBK _,by decide⟩,⟨zBK _,by decide⟩⟩
 |some c=>grind [YdH]
def ml(b:Bk)(place:Int):List Th→Int→Int×Int→Int×Int
 |[],_,a=>a
 |u::l,i,a=>ml b place l (i+1) (if i=place then a else (BY.wrap (a.1+(Yr b u.card).eR),BY.wrap (a.2+(Yr b u.card).dP)))
def iy(f g:Th→Int)(place:Int):List Th→Int→Int
 |[],_=>0
 |u::l,i=>(if i=place then f u else g u)+iy f g place l (i+1)
theorem ZbK(f g f':Th→Int)(place:Int):∀(l:List Th) (i:Int),place<i→iy f g place l i=iy f' g place l i
 |[],_,_=>rfl
 |u::l,i,h=>by
  unfold iy;rw[aE (by omega),aE (by omega),ZbK f g f' place l (i+1) (by omega)]
theorem P2(f g:Th→Int)(place:Int):∀(l:List Th) (i:Int) (k:Nat) (u:Th),l[k]?=some u→i+k=place→iy f g place l i=f u+iy (λ_=>0) g place l i
 |[],_,_,_,h,_=>by simp at h
 |v::l,i,0,u,h,e=>by
  simp at h;subst h;unfold iy;rw[aJ (by omega),aJ (by omega),ZbK f g (λ_=>0) place l (i+1) (by omega)];omega
 |v::l,i,k+1,u,h,e=>by
  unfold iy;rw[aE (by omega),aE (by omega),P2 f g place l (i+1) k u (by simpa using h) (by omega)];omega
theorem Rf{b:Bk}(h:(bz b).1=0)(place:Int):∀(l:List Th) (i:Int) (a:Int×Int),0<=a.1→0<=a.2→a.1+999*l.length<=1000000000000→a.2+999*l.length<=1000000000000 →
  kv b place l i a=(a.1+iy (λu=>(Yr b u.card).dG) (λu=>(Yr b u.card).eR) place l i,a.2+iy (λu=>(Yr b u.card).bJ) (λu=>(Yr b u.card).dP) place l i)
 |[],_,a,_,_,_,_=>by simp[kv,iy]
 |u::l,i,a,h1,h2,h3,h4=>by
  obtain⟨_,⟨q1,q2⟩,⟨q3,q4⟩,⟨q5,q6⟩,q7,q8⟩:=NQ h u.card;simp only[IS]at h3 h4;unfold kv iy;split
  ·rw[br (by omega) (by omega),br (by omega) (by omega),Rf h place l _ _ (by show 0<=a.1+_;omega) (by show 0<=a.2+_;omega) (by show a.1+_+_<=_;omega) (by show a.2+_+_<=_;omega)];simp only[zBm];omega
  ·rw[br (by omega) (by omega),br (by omega) (by omega),Rf h place l _ _ (by show 0<=a.1+_;omega) (by show 0<=a.2+_;omega) (by show a.1+_+_<=_;omega) (by show a.2+_+_<=_;omega)];simp only[zBm];omega
theorem SF{b:Bk}(h:(bz b).1=0)(place:Int):∀(l:List Th) (i:Int) (a:Int×Int),0<=a.1→0<=a.2→a.1+999*l.length<=1000000000000→a.2+999*l.length<=1000000000000 →
  ml b place l i a=(a.1+iy (λ_=>0) (λu=>(Yr b u.card).eR) place l i,a.2+iy (λ_=>0) (λu=>(Yr b u.card).dP) place l i)
 |[],_,a,_,_,_,_=>by simp[ml,iy]
 |u::l,i,a,h1,h2,h3,h4=>by
  obtain⟨_,⟨q1,q2⟩,⟨q3,q4⟩,⟨q5,q6⟩,q7,q8⟩:=NQ h u.card;simp only[IS]at h3 h4;unfold ml iy;split
  ·rw[SF h place l _ _ h1 h2 (by omega) (by omega)];simp only[zBm];omega
  ·rw[br (by omega) (by omega),br (by omega) (by omega),SF h place l _ _ (by show 0<=a.1+_;omega) (by show 0<=a.2+_;omega) (by show a.1+_+_<=_;omega) (by show a.2+_+_<=_;omega)];simp only[zBm];omega
theorem Qed{b:Bk}(h:(bz b).1=0){l:List Th}(hl:l.length<=1000000){k:Nat}{u:Th}(hk:l[k]?=some u):ml b k l 0 ((Yr b u.card).dG,(Yr b u.card).bJ)=jL b l k:=by
 obtain⟨_,⟨q1,q2⟩,⟨q3,q4⟩,_⟩:=NQ h u.card;rw[jL,Rf h k l 0 (0,0) (zBK _) (zBK _) (by show (0:Int) + _<=_;omega) (by show (0:Int) + _<=_;omega),SF h k l 0 _ q1 q3 (by omega) (by omega),
  P2 (λu=>(Yr b u.card).dG) _ k l 0 k u hk (by simp),P2 (λu=>(Yr b u.card).bJ) _ k l 0 k u hk (by simp)]
 simp
theorem c177(b:Bk)(he:(bz b).1=0)(s:St){side:Int}(hs:side=0∨side=1)(hl:(Xx s side).af.length<=1000000)(hu:∀u∈(Xx s side).af,0<=u.card∧u.card.toNat<b.ai.length){k:Nat}{u:Th}(hk:(Xx s side).af[k]?=some u) :
  PC 93 [cC b,bZ s,iv side,iv k] (.bp [iv (jL b (Xx s side).af k).1,iv (jL b (Xx s side).af k).2]):=by
 refine Xa hP g93.ok rfl rfl ?_;rw[H4.e];unfold g93;dsimp only;have hj:∀σ,Yk 2 8 [.ak 1 (0+7),iv side] σ=.ok (.ak 1 (yG side)) [] []:=by rcases hs with rfl|rfl<;>exact λ_=>rfl
 have hU:aK false (yG side+6) 1 (aI s)=some (gU (Xx s side).af):=by rcases hs with rfl|rfl<;>rfl
 rw[←Qed he hl hk];have hm:=zAK hk;have mw:k<(Xx s side).af.length:=(gK hk).1;generalize (Xx s side).af=U at hl hu hk hU hm mw ⊢;refine Yd (v:=.ak 0 0) (rd:=[]) (up:=[(0,.box (cy b))]) rfl rfl (Yd (v:=.ak 1 0) (rd:=[]) (up:=[(1,.box (aI s))]) rfl rfl ?_);have wu:=λ(t:List ab)=>sH t cL false false 12 b.ai .i64 u.card (hu u hm).1 (hu u hm).2;have uK:Yr b u.card=b.ai[u.card.toNat]'(hu u hm).2:=by simp_all [Yr]
 have cH:=λ(t:List ab)=>Xm t bg false false 4 U .i64 k mw;rw[(gK hk).2]at cH;rw[uK];generalize b.ai[u.card.toNat]'(hu u hm).2=c at wu ⊢;refine Za rfl (Za (hj _) (Za rfl (Za (ld rfl hU) ?_)));refine ay (Za (cH _) ?_);refine ax (Za (wu _) (Za rfl (Za (bB (Bd _)) ?_)));refine ay (Za (cH _) ?_);refine ax (Za (wu _) (Za rfl (Za (bB (Be _)) ?_)));clear wu cH uK hm;refine Xg (ι:=Nat) (λi vs τ=>(∃a:Int×Int,vs=[iv i,iv a.1,iv a.2]∧ml b k U 0 (c.dG,c.bJ)=ml b k (U.drop i) i a)∧i<=U.length∧aj τ 0=.box (cy b)) (λi=>U.length-i) 0 ⟨⟨_,rfl,rfl⟩,by omega,rfl⟩ ?_;rintro i vs τ again ⟨⟨a,rfl,hr⟩,hi,h0⟩ bn;refine Za (v:=iv U.length) (rd:=[]) (by simp[Zf]) (Za (ZS ..) (Ya (λh=>?_) (λh=>?_)));rotate_left
 ·have h:i=U.length:=by simp at h;omega
  simp_all [ml]
 have h:i<U.length:=by simpa using h
 have hm:=AT h;have cH:=λ(t:List ab)=>Xm t bg false false 4 U .i64 i h;rw[gI h,ml]at hr;generalize U[i]=w at hm cH hr;have wu:=λ(t:List ab)=>sH t cL false false 12 b.ai .i64 w.card (hu w hm).1 (hu w hm).2;have uK:Yr b w.card=b.ai[w.card.toNat]'(hu w hm).2:=by simp_all [Yr]
 rw[uK]at hr;generalize b.ai[w.card.toNat]'(hu w hm).2=d at wu hr;refine Qg λk26 Kh=>?_;refine Za (Z6 ..) (Ya (λcO=>?_) (λcO=>?_))
 ·have cO:(i:Int)≠k:=by simpa using cO
  rw[aE cO]at hr;refine Za rfl (Za (ld h0 rfl) (Za (cH _) ?_));refine ax (Za (wu _) (Za rfl (Za (bB (Bf _)) ?_)));refine ay (Za (ld h0 rfl) (Za (cH _) ?_));refine ax (Za (wu _) (Za rfl (Za (bB (Bg _)) (Za (Qj ..) ?_))));rw[Kh];refine Za (Qj ..) ?_;rw[Qc (n:=i) (by omega)];exact bn (i+1) _ _ (by omega) ⟨⟨_,rfl,by rw[hr];push_cast;rfl⟩,by omega,h0⟩
 ·have cO:(i:Int)=k:=by simpa using cO
  rw[aJ cO]at hr;rw[Kh];refine Za (Qj ..) ?_;rw[Qc (n:=i) (by omega)];exact bn (i+1) _ _ (by omega) ⟨⟨a,rfl,by rw[hr];push_cast;rfl⟩,by omega,h0⟩
theorem Jx(ib:Bool)(a:Int)(n:Nat)(h:n≠0)(σ:List ab):Ym .rem ib [iv a,iv n] σ=.ok (iv (a.tmod n)) [] []:=by
 cases n with
 |zero=>exact(h rfl).elim
 |succ n=>rfl
def dpre(b:Bk)(s:St)(i:Nat):List Int:=if i=0 then []else if i=1 then Q0 b (Xx s s.mover)else aH b s
theorem Zdf(b:Bk){s:St}(BG:0<=s.mover∧s.mover<=1){i:Nat}(hi:i<2):∃sd:Int,(sd=0∨sd=1)∧(BY.wrap (s.mover+i)).tmod ((2:Nat):Int)=sd∧dpre b s (i+1)=dpre b s i++Q0 b (Xx s sd):=by
 have hm:s.mover=0∨s.mover=1:=by omega
 have hi:i=0∨i=1:=by omega
 rcases hm with hm|hm<;>rcases hi with rfl|rfl
 ·exact⟨0,.inl rfl,by rw[hm];decide,by simp[dpre,hm]⟩
 ·exact⟨1,.inr rfl,by rw[hm];decide,by simp[dpre,hm,aH,Xx]⟩
 ·exact⟨1,.inr rfl,by rw[hm];decide,by simp[dpre,hm]⟩
 ·exact⟨0,.inl rfl,by rw[hm];decide,by simp[dpre,hm,aH,Xx]⟩
theorem q95(b:Bk)(s:St)(hs:bd 2000000 s)(hm:aO (bz b).1 b s true=true)(h67:PC 42 [cC b] (.agg [iv (bz b).1,iv (bz b).2])):PC 59 [cC b,bZ s] (aP (aH b s)):=by
 have hM:=(Xo.1 hm).2;have he:=(Xo.1 hm).1;have gW:bd 1000000000 s:=hs.mono (by decide);refine Qi hP g59.ok rfl ?_;rw[H2.e];unfold g59;dsimp only;refine ay (aY (c25 b s gW true _ _ h67) g29.ok (Za rfl ?_));rw[hm];refine Ye ?_;have BG:0<=s.mover∧s.mover<=1:=⟨hM.hd.2.2.1,hM.hd.2.2.2.1⟩;refine Xg (ι:=Nat) (λi vs τ=>∃v,vs=[iv i,v]∧i<=2∧Gr [.box (cy b),.box (aI s)] 1 ((dpre b s i).map aR) (dpre b s i).length v τ∧(dpre b s i).length<=10*i) (λi=>2-i) 0 ⟨.an,rfl,by omega,Gr.nil 1 _,by simp[dpre]⟩ ?_;rintro i vs τ again ⟨v,rfl,hi,hG,hlen⟩ bn;refine ay (Ya (λh=>?_) (λh=>?_));rotate_left
 ·have h:i=2:=by simp at h;omega
  subst h;exact hG.ri
 have h:i<2:=by simp at h;omega
 obtain⟨sd,h01,pI,KS⟩:=Zdf b BG h;have g1:aj τ 1=.box (aI s):=hG.fQ rfl (by simp);refine Za rfl (Za (v:=iv s.mover) (ld g1 rfl) (Za (Qj ..) (Za (Jx _ _ 2 (by decide) _) ?_)));rw[pI];have hj:∀σ,Yk 2 8 [.ak 1 (0+7),iv sd] σ=.ok (.ak 1 (yG sd)) [] []:=by rcases h01 with rfl|rfl<;>exact λ_=>rfl
 have hU:aK false (yG sd+6) 1 (aI s)=some (gU (Xx s sd).af):=by rcases h01 with rfl|rfl<;>rfl
 have hl7:(Xx s sd).af.length<=7:=by rcases h01 with rfl|rfl;exact hM.s0.af;exact hM.s1.af
 have hu:∀u∈(Xx s sd).af,0<=u.card∧u.card.toNat<b.ai.length:=by
  intro u hu;have g_:u∈s.s0.af++s.s1.af:=by
   rcases h01 with rfl|rfl
   ·exact zAl _ hu
   ·exact zAg _ hu
  have:=hM.un.1 u g_;simp only[Qz,AI,fE]at this;omega
 have UM:=λ(k:Nat) (u:Th) (hk:(Xx s sd).af[k]?=some u)=>c177 b he s h01 (by omega) hu hk;refine Xg (ι:=Nat) (λk vs τ'=>(∃(done:List Int) (v':aa),vs=[iv k,v']∧Gr [.box (cy b),.box (aI s)] 1 (done.map aR) done.length v' τ'∧dpre b s (i+1)=done++QJ b (Xx s sd).af ((Xx s sd).af.drop k) k∧done.length<=10*i+k)∧k<=(Xx s sd).af.length) (λk=>(Xx s sd).af.length-k) 0 ⟨⟨dpre b s i,v,rfl,hG,KS,by omega⟩,by omega⟩ ?_;clear hG g1;rintro k vs τ' mE ⟨⟨done,v',rfl,hG,hr,T5⟩,hk⟩ ll;have g0:aj τ' 0=.box (cy b):=hG.fQ rfl (by simp);have g1:aj τ' 1=.box (aI s):=hG.fQ rfl (by simp);generalize hUn:(Xx s sd).af=U at *;refine Za rfl (Za (hj _) (Za rfl (Za (ld g1 hU) (Za (v:=iv U.length) (rd:=[]) (by simp[Zf]) (Za (ZS ..) (Ya (λh2=>?_) (λh2=>?_)))))));rotate_left
 ·have h2:k=U.length:=by simp at h2;omega
  subst h2;rw[zAD,QJ,zBN]at hr;subst hr;refine Za (Qj ..) ?_;rw[Qc (n:=i) (by omega)];exact bn (i+1) _ _ (by omega) ⟨v',rfl,by omega,hG,by omega⟩
 have h2:k<U.length:=by simpa using h2
 have Ko:U[k]?=some U[k]:=by simp[h2]
 have hP:=UM k U[k] Ko;have cH:=λ(t:List ab)=>Xm t bg false false 4 U .i64 k h2;rw[gI h2,QJ]at hr;generalize U[k]=u at *;refine Qg λk21 ek=>?_;refine Za (v:=cC b) (ld g0 rfl) (Za (v:=bZ s) (ld g1 rfl) (aY hP g93.ok ?_));refine ay (Za (hj _) (Za rfl (Za (ld g1 hU) (Za (cH _) ?_))));refine ax (Ya (λhp=>?_) (λhp=>?_))
 ·have hp:(jL b U k).2<=u.harm:=by simpa using hp
  rw[aJ hp]at hr;refine Za rfl (Za (hj _) (Za rfl (Za (ld g1 hU) (Za (cH _) ?_))));refine ax (hG.put (by_:=8) rfl rfl rfl (by omega) (λv2 τ2 TP=>?_));rw[ek];refine Za (Qj ..) ?_;rw[Qc (n:=k) (by omega)];refine ll (k+1) _ _ (by omega) ⟨⟨done++[u.id],v2,rfl,?_,?_,?_⟩,by omega⟩
  ·rw[zAe,By];exact TP
  ·rw[hr,zAa];push_cast;rfl
  ·rw[By,List.length_singleton];omega
 ·have hp:¬(jL b U k).2<=u.harm:=by simpa using hp
  rw[aE hp]at hr;rw[ek];refine Za (Qj ..) ?_;rw[Qc (n:=k) (by omega)];exact ll (k+1) _ _ (by omega) ⟨⟨done,v',rfl,hG,by rw[hr];push_cast;rfl,by omega⟩,by omega⟩
theorem XcN(kd:Int)(fP:Int→Int×Int)(fU:Th→Int×Int)(s:St)(id k:Int):(fY kd fP fU s id k).2.1.ai=[]:=by
 unfold fY;split
 ·unfold ni;split<;>rfl
 split
 ·rfl
 split
 ·unfold jH;split<;>rfl
 ·split
  ·unfold jH;split<;>rfl
  ·rfl
theorem Ycm(s:St)(k:Int):(aS s k).2.1.ai=[]:=by
 unfold aS;split
 ·split<;>rfl
 ·split<;>rfl
theorem Za0(k:Int):∀(j:Nat) (s:St),∀e∈(Qq k j s).2.2,e.ai.length<=60
 |0,s,e,h=>by simp[Qq]at h
 |j+1,s,e,h=>by
  unfold Qq at h;split at h
  ·simp only[zAR]at h;rcases h with rfl|h
   ·rw[Ycm];simp
   ·exact Za0 k j _ e h
  ·simp at h
theorem Qdp{b:Bk}{N C:Nat}{s:St}(h:cY b N C s){sd:Int}(h01:sd=0∨sd=1)(tg op who:Int)(name:Tx)(n:Int):∀e∈(iY b s sd tg op who name n).2.2,e.ai.length<=60:=by
 have hw:=Gn h01 who;intro e he;unfold iY at he;split at he
 ·grind [fX,oO,jA,jv,XcN]
 split at he
 ·grind [ja,Za0]
 split at he
 ·grind [eh]
 split at he
 ·grind [cU]
 split at he
 ·have hd:=(Xj.1 (h.rows h01).1).1
  grind [gy]
 split at he
 ·have hd:=(Xj.1 (h.rows hw).2).1
  grind [mn]
 grind [YW]
mutual
theorem Wu {b:Bk} {sd tg:Int} (h01:sd=0∨sd=1):∀(x:Ef) {N C:Nat} {s:St} (fu:Int),cY b N C s→N+60*(iA x).length<=1000000→C+(iA x).length<=1000000→∀e∈(cm b sd tg x s fu).2.2.2,e.ai.length<=60
 |.mk op who n name c bP bS,N,C,s,fu,h,hN,hC,e,he=>by
  rw[cm]at he
  split at he
  ·rename_i h8
   have hl:(bw bP).length+(bw bS).length<=(iA (.mk op who n name c bP bS)).length:=by simp[iA,h8];omega
   split at he
   ·exact NZ h01 bP fu h (by omega) (by omega) e he
   ·exact NZ h01 bS fu h (by omega) (by omega) e he
  grind [Qdp]
theorem NZ {b:Bk} {sd tg:Int} (h01:sd=0∨sd=1):∀(l:List Ef) {N C:Nat} {s:St} (fu:Int),cY b N C s→N+60*(bw l).length<=1000000→C+(bw l).length<=1000000→∀e∈(runs b sd tg l s fu).2.2.2,e.ai.length<=60
 |[],N,C,s,fu,h,hN,hC,e,he=>by rw[runs]at he;simp at he
 |x::l,N,C,s,fu,h,hN,hC,e,he=>by
  rw[runs]at he
  have hl:(bw (x::l)).length=(iA x).length+(bw l).length:=by simp[bw]
  obtain⟨q1,q2⟩:=MX (tg:=tg) h01 x fu h (by omega) (by omega)
  split at he
  ·rcases zAI.1 he with he|he
   ·exact Wu h01 x fu h (by omega) (by omega) e he
   ·exact NZ h01 l _ q1 (by omega) (by omega) e he
  ·exact Wu h01 x fu h (by omega) (by omega) e he
end
theorem Yc9{kd:Int}(h0:kd≠14)(fP:Int→Int×Int)(fU:Th→Int×Int)(s:St)(id k:Int):(fY kd fP fU s id k).2.1.kind≠14:=by
 have z:jm.kind≠14:=by decide
 have hP:∀v,(ni s kd k v).2.1.kind≠14:=by intro v;unfold ni;split;exact h0;exact z
 have hU:∀k i id u v,(jH s kd k i id u v).2.1.kind≠14:=by intro k i id u v;unfold jH;split;exact h0;exact z
 grind [fY]
theorem YcP(s:St)(k:Int):(aS s k).2.1.kind≠14:=by
 unfold aS;split
 ·split
  ·show (3:Int)≠14;decide
  ·show jm.kind≠14;decide
 grind
theorem Wx(k:Int):∀(j:Nat) (s:St),∀e∈(Qq k j s).2.2,e.kind≠14
 |0,s,e,h=>by simp[Qq]at h
 |j+1,s,e,h=>by
  unfold Qq at h;split at h
  ·simp only[zAR]at h;rcases h with rfl|h
   ·exact YcP s k
   ·exact Wx k j _ e h
  ·simp at h
theorem ZdQ(b:Bk)(s:St)(sd tg op who:Int)(name:Tx)(n:Int):∀e∈(iY b s sd tg op who name n).2.2,e.kind≠14:=by
 intro e he;unfold iY at he;split at he
 ·grind [fX,oO,jA,jv,Yc9]
 grind [ja,eh,cU,gy,mn,YW,Wx]
mutual
theorem Ycb (b:Bk) (sd tg:Int):∀(x:Ef) (s:St) (fu:Int),∀e∈(cm b sd tg x s fu).2.2.2,e.kind≠14
 |.mk op who n name c bP bS,s,fu,e,he=>by
  rw[cm]at he
  split at he
  ·split at he
   ·exact Ij b sd tg bP s fu e he
   ·exact Ij b sd tg bS s fu e he
  split at he
  ·simp at he
  ·exact ZdQ b s sd tg op who name _ e he
theorem Ij (b:Bk) (sd tg:Int):∀(l:List Ef) (s:St) (fu:Int),∀e∈(runs b sd tg l s fu).2.2.2,e.kind≠14
 |[],s,fu,e,he=>by rw[runs]at he;simp at he
 |x::l,s,fu,e,he=>by
  rw[runs]at he
  split at he
  ·rcases zAI.1 he with he|he
   ·exact Ycb b sd tg x s fu e he
   ·exact Ij b sd tg l _ _ e he
  ·exact Ycb b sd tg x s fu e he
end
def fM:List Ev→Nat
 |[]=>0
 |e::l=>(if e.kind=14 then 1 else 0)+fM l
theorem QZ:∀l m:List Ev,fM (l++m)=fM l+fM m
 |[],m=>by simp[fM]
 |e::l,m=>by simp only[zAL,fM,QZ l m];omega
theorem Np:∀ {l:List Ev},(∀e∈l,e.kind≠14)→fM l=0
 |[],_=>rfl
 |e::l,h=>by
  rw[fM,aE (h e (by simp)),Np (λx hx=>h x (by simp[hx]))]
theorem WI{b:Bk}{N C:Nat}{s:St}(cN:(bz b).1=0)(h:cY b N C s){r:Int}(hr:1<=r∧r<=3):cY b N C (eo b s r).1∧(eo b s r).1.phase=2∧(eo b s r).2.kind≠14:=by
 have hm:=Xo.2 ⟨cN,h.may⟩;unfold eo;by_cases ho:yN b s r=true
 ·rw[aJ ho];refine⟨⟨?_,h.told,h.ai⟩,rfl,by show (15:Int)≠14;decide⟩;obtain⟨⟨t1,t2,t3,t4,t5,t6,t7,t8,t9,t10,t11⟩,m2,m3,m4,m5⟩:=h.may;refine⟨⟨t1,t2,t3,t4,by show (0:Int)<=2;decide,by show (2:Int)<=2;decide,by show 0<=r;omega,hr.2,?_,t10,t11⟩,m2,m3,m4,⟨λ_=>rfl,λe=>?_⟩⟩
  ·show ((r==0)==((2:Int) != 2))=true;have:(r==0)=false:=by simp;omega
   rw[this];rfl
  ·have e:(2:Int)=1:=e;exact absurd e (by decide)
 ·rw[aE ho];have ho:yN b s r=false:=by simpa using ho
  unfold yN at ho;rw[hm]at ho;simp only[Bool.not_true,Bool.or_false,zBh,Bool.or_eq_true,fE,beq_iff_eq]at ho;have hp:s.phase=2:=by
   rcases ho with (ho|ho)|ho
   ·omega
   ·omega
   ·exact ho
  exact⟨h,hp,by show jm.kind≠14;decide⟩
def nO(b:Bk)(N C:Nat)(fu:Int)(l:List Ev)(r:Int×St×List Ev×Int):Prop:=
 r.1=0→cY b (N+12000*(fu-r.2.2.2).toNat) (C+200*(fu-r.2.2.2).toNat) r.2.1∧0<=r.2.2.2∧r.2.2.2<=fu∧(fM r.2.2.1:Int)<=fM l+(fu-r.2.2.2)∧r.2.2.1.length<=l.length+13000*((fu-r.2.2.2).toNat+1)∧(r.2.1.phase=2∨(aH b r.2.1=[]∧bN r.2.1=0))
theorem Rz{b:Bk}{N C N' C':Nat}{s:St}(cN:(bz b).1=0)(h:cY b N' C' s){how:Int}(hr:1<=how∧how<=3){fu f0:Int}{l l0:List Ev}(hf:0<=fu∧fu<=f0)(hw:(fM l:Int)<=fM l0+(f0-fu))(hN:N'<=N+12000*(f0-fu).toNat)(hC:C'<=C+200*(f0-fu).toNat)(hlen:l.length+1<=l0.length+13000*((f0-fu).toNat+1)):nO b N C f0 l0 (jd b s l fu how):=by
 intro _;obtain⟨k1,k2,k3⟩:=WI cN h hr;refine⟨k1.mono hN hC,hf.1,hf.2,?_,by show (l++[(eo b s how).2]).length<=l0.length+13000*((f0-fu).toNat+1);simp_all,.inl k2⟩;show (fM (l++[(eo b s how).2]):Int)<=_+(f0-fu);simp_all [QZ,Np]
theorem nO.mono{b:Bk}{N C:Nat}{fu pe:Int}{l l':List Ev}{r:Int×St×List Ev×Int}(h:nO b (N+12000) (C+200) fu l r)(hf:fu+1<=pe)(hw:(fM l:Int)+fu<=fM l'+pe)(hlen:l.length<=l'.length+13000):nO b N C pe l' r:=by
 intro e;obtain⟨h1,h2,h3,h4,h6,h5⟩:=h e;exact⟨h1.mono (by omega) (by omega),h2,by omega,by omega,by omega,h5⟩
theorem Yca{b:Bk}(cN:(bz b).1=0):∀(n:Nat) {s:St} {ws:List Tr} {fu:Int} {l:List Ev} {N C:Nat},cY b N C s→(∀x∈ws,jR b x)→0<=fu→fu<=n→N+12000*(ws.length+bF s+1)<=1000000→C+200*(n+1)+14<=1000000 →
  nO b N C fu l (YK b (n+1) s ws fu l):=by
  intro n
  induction n using zBv with|ind n ih=>?_
  intro s ws fu l N C hS zW wB uO hN hC;have hq:=Oj (b:=b) (N:=N) (C:=C) (by omega) (Zk s) s ws l (IT _) hS;have rC:=Nw cN (by omega:C+14<=1000000) (Zk s) s ws l hS;generalize eq:quiet b (Zk s) s ws l=q at hq rC;obtain⟨t,kJ,l'⟩:=q;obtain⟨q1,q2,⟨m,q3,q4,q5⟩,⟨m',q6,q7,q8⟩⟩:=hq;have q1:cY b N C t:=q1
  replace rC:bF t+kJ.length<=bF s+ws.length:=rC
  have q2:aH b t=[]:=q2;have q3:l'=l++m:=q3;have q6:kJ=ws++m':=q6;have ta:Zk s<=14:=by have:=hS.may.s0.af;have:=hS.may.s1.af;unfold Zk;omega
  have hlen:l'.length<=l.length+14:=by rw[q3,By];omega
  have hw:fM l'=fM l:=by
   simp_all [QZ,Np]
  have bQ:∀x∈kJ,jR b x:=by
   grind
  rw[NS n fu eq];have CZ:=Wt t;by_cases hz:bN t≠0
  ·rw[aJ hz];exact Rz cN q1 (by omega) (f0:=fu) (l0:=l) ⟨wB,zBK _⟩ (by omega) (by omega) (by omega) (by omega)
  rw[aE hz];have hz:bN t=0:=by omega
  cases kJ with
  |nil=>
   intro _
   grind
  |cons x wr=>
   simp only;by_cases wF:fu=0
   ·rw[aJ wF];exact Rz cN q1 (by omega) (f0:=fu) (l0:=l) ⟨wB,zBK _⟩ (by omega) (by omega) (by omega) (by omega)
   rw[aE wF];by_cases ha:Xs b x.side (fu-1) (bq b x)=true
   ·rw[aJ ha];intro e;exact absurd e (by decide)
   rw[aE ha];have ha:Xs b x.side (fu-1) (bq b x)=false:=by simpa using ha
   have dB:mV b (bq b x)=true:=by
    simp_all [Xs]
   obtain⟨_,uN⟩:=HP dB;have hx:=bQ x (by simp)
   replace rC:bF t+(wr.length+1)<=bF s+ws.length:=rC
   have UR:=Q7 b x.side (-1) (bq b x) 1 t (fu-1) (NK cN hx);obtain⟨k1,k2⟩:=AP (b:=b) (tg:=-1) hx.2.2 (bq b x) (fu-1) q1 (by omega) (by omega);have k1:=k1.mono (N':=N+12000) (C':=C+200) (by omega) (by omega);have rm:=Ge b x.side (-1) (bq b x) t (fu-1) (by omega);have OP:=Np (Ij b x.side (-1) (bq b x) t (fu-1));generalize runs b x.side (-1) (bq b x) t (fu-1)=r at *;have dU:(l'++[nt x]++r.2.2.2).length<=l.length+13000:=by grind
   have hw2:fM (l'++[nt x]++r.2.2.2)=fM l+1:=by
    rw[QZ,QZ,OP,hw];rfl
   by_cases h0:r.1=0
   ·rw[aJ h0];obtain⟨n',rfl⟩:∃n',n=n'+1:=⟨n-1,by omega⟩;have:=ih n' (by omega) (l:=l'++[nt x]++r.2.2.2) k1 (λy hy=>bQ y (by simp[hy])) rm.1 (by omega) (by omega) (by omega) (ws:=wr);exact this.mono (by omega) (by omega) (by omega)
   rw[aE h0];by_cases h1:r.1=190
   ·rw[aJ h1]
    grind [Rz]
   ·rw[aE h1];intro e;exact absurd e h0
theorem Xcq{b:Bk}{s:St}{row:List Tr}{fu:Int}{N C:Nat}(hT:TB N s)(hC:Zm s<=C)(hf:0<=fu∧fu<=1000)(hN:aO (bz b).1 b s true=true→N+12000*(row.length+bF s+1)<=1000000)(pX:C+200*(fu.toNat+1)+14<=1000000)(h:(ca b s row fu).1=0) :
  (bz b).1=0∧cY b (N+12000*(fu-(ca b s row fu).2.2.2).toNat) (C+200*(fu-(ca b s row fu).2.2.2).toNat) (ca b s row fu).2.1∧0<=(ca b s row fu).2.2.2∧(ca b s row fu).2.2.2<=fu∧(fM (ca b s row fu).2.2.1:Int)<=fu-(ca b s row fu).2.2.2∧(ca b s row fu).2.2.1.length<=13000*(fu.toNat+1) ∧
   ((ca b s row fu).2.1.phase=2∨(aH b (ca b s row fu).2.1=[]∧bN (ca b s row fu).2.1=0)):=by
 have hc:Qp fu=fu:=by unfold Qp;omega
 unfold ca at h ⊢;rw[hc]at h ⊢;by_cases q:(decide ((row.length:Int)>1000) || !aO (bz b).1 b s true)=true
 ·simp_all
 rw[aE q]at h ⊢;have hq:(decide ((row.length:Int)>1000) || !aO (bz b).1 b s true)=false:=by simpa using q
 simp only[zAv,sG,zBh]at hq;obtain⟨cN,hM⟩:=Xo.1 hq.2;have hS:cY b N C s:=⟨hM,hT,hC⟩;by_cases q2:row.any (kL b)=true
 ·simp_all
 rw[aE q2]at h ⊢;have iK:∀x∈row,jR b x:=by
  simp_all [MW]
 by_cases q3:s.phase=2
 ·rw[aJ q3]at h ⊢;exact⟨cN,hS.mono (Nat.le_add_right _ _) (Nat.le_add_right _ _),hf.1,zBK _,by show ((0:Nat):Int)<=fu-fu;omega,zBB _,.inl q3⟩
 rw[aE q3]at h ⊢;obtain⟨k1,k2,k3,k4,k6,k5⟩:=Yca cN fu.toNat (l:=[]) hS iK hf.1 (by omega) (hN hq.2) pX h;exact⟨cN,k1,k2,k3,by simp_all [fM],by rw[zAG]at k6;omega,k5⟩
end Go.Ah.Tz
end
section
namespace Go.Ah
mutual
def V9:aa→aa→Bool
 |.an,.aU e' n' _ r'=>!e'&&(!n'&&r'.isEmpty)
 |.aU e n s r,.aU e' n' s' r'=>((e || !e')&&(n || !n'))&&(IN s s'&&Pa r r')
 |.agg a,.agg b=>B_ a b
 |.bool a,.bool b=>a==b
 |.int k a,.int k' b=>jU k k'&&a==b
 |.str a,.str b=>a==b
 |.an,.an=>true
 |.fj,.fj=>true
 |_,_=>false
def B_:List aa→List aa→Bool
 |[],[]=>true
 |x::xs,y::ys=>V9 x y&&B_ xs ys
 |_,_=>false
def Pa:List (List aa)→List (List aa)→Bool
 |[],[]=>true
 |x::xs,y::ys=>B_ x y&&Pa xs ys
 |_,_=>false
end
def Wk(x y:aa):Prop:=∀(M:Nat→Option Obj) (u:Value),Den M bA x u→Den M bA y u
mutual
theorem Yd3:∀ {x y:aa},V9 x y=true→Wk x y:=by
  intro x y h
  cases x<;>cases y<;>simp only[V9,zAS,AI,zAf,List.isEmpty_iff]at h<;>first
    |(obtain⟨rfl,rfl,rfl⟩:=h;exact λM u d=>d.e_ _)
    |(intro M u d;exact d)
    |(rw[eq_of_beq h];intro M u d;exact d)
    |(rw[eq_of_beq h.2,yW h.1];intro M u d;exact d)
    | (have hk:=Ro h
       intro M u d
       cases d with
       | agg _ _ vs hs hd=>exact .agg _ _ _ (by rw[hs,hk.1]) (λi y v e1 e2=>by
          obtain⟨x,q1,q2⟩:=hk.2 i y e1
          exact q2 M v (hd i x v q1 e2)))
    | (obtain⟨⟨he,hn⟩,hs,hr⟩:=h
       have hs:=fV hs
       subst hs
       have hk:=Xd3 hr
       intro M u d
       cases d with
       |aU _ _ _ _ _ a cap blk off f q1 q2 q3 q4 q5 q6 q7 q8=>
         rw[hk.1]
         refine .aU _ _ _ _ _ a cap blk off f (λq=>?_) (λq=>?_) (λq=>q3 (λe=>q ?_)) q4 (by rw[←hk.1];exact q5) (λi row e=>?_) (λi j hi hj=>q7 i j (by rw[hk.1];exact hi) hj) (λi row j y e1 e2=>?_)
         · subst q;simp at he;rw[←hk.1];exact q1 he
         · subst q;simp at hn;exact q2 hn
         · have:=hk.1;rw[e]at this;exact zAW.1 (by simpa using this.symm)
         · obtain⟨r0,p1,p2,_⟩:=hk.2 i row e
           rw[←p2];exact q6 i r0 p1
         · obtain⟨r0,p1,p2,p3⟩:=hk.2 i row e1
           obtain⟨x,x1,x2⟩:=p3 j y e2
           exact x2 M _ (q8 i r0 j x p1 x1))
theorem Ro:∀ {xs ys:List aa},B_ xs ys=true→xs.length=ys.length∧∀(i:Nat) (y:aa),ys[i]?=some y→∃x,xs[i]?=some x∧Wk x y:=by
  intro xs ys h
  cases xs<;>cases ys<;>simp only[B_,zAS,AI]at h
  · exact⟨rfl,λi y e=>by simp at e⟩
  · rename_i x xs y ys
    have h1:=Yd3 h.1
    have h2:=Ro h.2
    refine⟨by simp[h2.1],λi z e=>?_⟩
    cases i with
    |zero=>simp at e;subst e;exact⟨x,by simp,h1⟩
    |succ i=>simp at e;obtain⟨w,q1,q2⟩:=h2.2 i z e;exact⟨w,by simpa using q1,q2⟩
theorem Xd3:∀ {xs ys:List (List aa)},Pa xs ys=true→xs.length=ys.length∧∀(i:Nat) (y:List aa),ys[i]?=some y→∃x,xs[i]?=some x∧x.length=y.length∧∀(j:Nat) (b:aa),y[j]?=some b→∃a,x[j]?=some a∧Wk a b:=by
  intro xs ys h
  cases xs<;>cases ys<;>simp only[Pa,zAS,AI]at h
  · exact⟨rfl,λi y e=>by simp at e⟩
  · rename_i x xs y ys
    have h1:=Ro h.1
    have h2:=Xd3 h.2
    refine⟨by simp[h2.1],λi z e=>?_⟩
    cases i with
    |zero=>simp at e;subst e;exact⟨x,by simp,h1⟩
    |succ i=>simp at e;obtain⟨w,q1,q2⟩:=h2.2 i z e;exact⟨w,by simpa using q1,q2⟩
end
theorem RW{M:Nat→Option Obj}:∀ {xs ys:List aa} {vs:List Value},B_ xs ys=true→dM ⟨M,bA⟩ xs vs→dM ⟨M,bA⟩ ys vs
 |[],[],vs,_,d=>d
 |x::xs,y::ys,[],h,d=>d.elim
 |x::xs,y::ys,v::vs,h,d=>by
  simp only[B_,AI]at h;exact⟨Yd3 h.1 M v d.1,RW h.2 d.2⟩
theorem YcS{P:Program}{GL:ar}{f:FuncId}{xs ys:List aa}{v:aa}(h:dK P GL f ys v)(hw:B_ xs ys=true):dK P GL f xs v:=λw M vs hM hg hx=>h w M vs hM hg (RW hw hx)
end Go.Ah
end
section
namespace Go.Ah.Tz
open Go.Proofs.Tryz (prog)
set_option maxRecDepth 100000
attribute [local irreducible] aF.rd aF.pu aF.wr aF.dr aF.gr aF.gw aF.gl aF.gd aF.opt cI W
set_option maxHeartbeats 8000000
theorem Td(cs:List Cd)(hf:ZG cs=true)(σ:List ab)(K:KT)(hK:∀q,(q=false→cs.length<=61∨240<cs.length)→K (.bool q) σ):g17.u VV [iH cs] σ K:=by
 simp only[ZG,AI,fE]at hf;obtain⟨f0,f1⟩:=hf;rw[cZ]at f0;have hlen:∀τ,Qn [iH cs] τ=.ok (iv cs.length) [] []:=λτ=>by simp[Zf]
 rw[H1.e];unfold g17;dsimp only;refine Za (hlen _) (Xg (ι:=Nat) (λi vs τ=>(∃a:Int,vs=[iv i,iv a])∧τ=σ∧i<=cs.length∧(61<i→240<cs.length)) (λi=>cs.length-i) 0 ⟨⟨0,rfl⟩,rfl,by omega,by omega⟩ ?_);rintro i vs τ again ⟨⟨a,rfl⟩,rfl,hi,hinv⟩ bn;refine Za rfl (YS (λh=>?_) (λh=>?_))
 ·have wD:il cs[i]=true:=zAj.1 f1 _ (AT h);have cH:=Xm τ cL false false 12 cs .i64 i h;generalize cs[i]=c at wD cH;simp only[il,AI]at wD;refine Za cH (Za (bB (pR _)) ?_);refine aY (c110 c wD.2.1 wD.2.2.1 wD.2.2.2) g40.ok (Za (Qj ..) (Za (o_ ..) ?_));refine Cg (λ_=>rfl) (λ_=>rfl) (λ_=>cH) (λ_=>rfl) (λ_=>bB (nU _)) (λ_=>rfl) (λ_=>o_ ..) ?_;have nxt:(61<i+1→240<cs.length)→VV.rd (Ym .add false [iv i,(.int .i64 1)] τ) λEy=>again [Ey,iv (BY.wrap (a+(min (dA 0 c.c9+dA 0 c.dead+dA 0 c.dR) 1073741824)))] τ:=by
   intro aah;refine Za (Qj ..) ?_;rw[Qc (n:=i) (by omega)]
   grind
  generalize (_||_:Bool)=q;cases q with
  |true=>
   refine ay ?_;exact hK _ (λe=>by cases e)
  |false=>
   refine ay ?_;rcases cA (decide ((60:Int)<(i:Int)))with wU|wU
   ·rw[wU];refine Qa (Za rfl (Qa (Za (hlen _) ?_)));refine ay ?_;exact Ya (λe=>hK _ (λe2=>by cases e2)) (λe=>nxt (λ_=>by simp at e;omega))
   ·rw[wU];refine Zc rfl (Zc rfl (Zc rfl (Qa (Za rfl (Za rfl ?_)))));exact Ye (nxt (λ_=>by simp at wU;omega))
 ·refine Za (hlen _) (Za (o_ ..) ?_)
  grind
theorem Ta(b:Bk)(hf:a_ b=true)(σ:List ab)(K:KT)(hK:∀q,(q=false→b.ai.length<=61∨240<b.ai.length)→K (.bool q) (σ++[.box (cy b)])):g5.u VV [cC b] σ K:=by
 simp only[a_,AI,fE]at hf;obtain⟨f0,f1,f2⟩:=hf;rw[cZ]at f1;rw[H1.e];unfold g5;dsimp only;refine Yd (v:=.ak σ.length 0) (rd:=[]) (up:=[(σ.length,.box (cy b))]) rfl (Xe _ _) ?_;have hB:=Yc σ (.box (cy b));generalize σ.length=n at hB ⊢;generalize σ++[ab.box (cy b)]=τ at hB hK ⊢;refine Za rfl (Za (ld hB rfl) (Za (v:=iv b.aw.length) (rd:=[]) (by simp[Zf]) ?_));refine Xg (ι:=Nat) (λi vs τ'=>(∃a:Int,vs=[iv i,iv a])∧τ'=τ∧i<=b.aw.length) (λi=>b.aw.length-i) 0 ⟨⟨0,rfl⟩,rfl,by omega⟩ ?_;rintro i vs τ' again ⟨⟨a,rfl⟩,rfl,hi⟩ bn;refine Za rfl (YS (λh=>?_) (λh=>?_))
 ·have cH:=Xm τ' oi false false 7 b.aw .i64 i h;generalize b.aw[i]=f at cH;refine Za rfl (Za (ld hB rfl) (Za cH (Za rfl (Za (v:=Hm f.jG) (rd:=[]) (bB rfl) (Za (v:=iv f.jG.length) (rd:=[]) (by simp[Zf]) (Za (Qj ..) ?_))))));refine Za rfl (Za (ld hB rfl) (Za cH (Za rfl (Za (v:=Hm f.single) (rd:=[]) (bB rfl) (Za (v:=iv f.single.length) (rd:=[]) (by simp[Zf]) ?_)))));refine ay ?_;rw[Qc (n:=i) (by omega)]
  grind
 ·refine Za (o_ ..) ?_;generalize decide ((600:Int)<a)=q;cases q with
  |true=>
   refine ay ?_;exact hK _ (λe=>by cases e)
  |false=>
   refine ay (Za (ld hB rfl) (Yq ?_));refine Qd hP rfl g17.ok rfl (Td b.ai f0 _ _ (λq hq=>Za rfl ?_));exact hK _ hq
theorem Yb0{b:Bk}{s:St}(h:aO (bz b).1 b s true=true)(k:b.ai.length<=61∨240<b.ai.length):b.ai.length<=61:=by
 rcases k with k|k<;>simp_all [bz,cE,Xo]
theorem Lt{b:Bk}{t:St}{n:Int}{v:aa}(h:PC 8 [cC b,bZ t,nG [],iv n] v):PC 8 [cC b,bZ t,.an,iv n] v:=by
 intro w M vs hM hg hx
 match vs,hx with
 |[v1,v2,v3,v4],⟨h1,h2,h3,h4,h5⟩=>exact h w M [v1,v2,v3,v4] hM hg ⟨h1,h2,Den.e_ 3 h3,h4,h5⟩
def sD(l:List Ev):Prop:=∀e∈l,e.ai.length<=60
theorem sD.app{l m:List Ev}(h:sD l)(k:sD m):sD (l++m):=λe he=>(zAI.1 he).elim (h e) (k e)
theorem RO(b:Bk)(s:St)(r:Int):sD [(eo b s r).2]:=by
 intro e he;rw[zAw]at he;subst he;unfold eo;split<;>exact zBB _
theorem QcS{b:Bk}(cN:(bz b).1=0):∀(n:Nat) {s:St} {ws:List Tr} {fu:Int} {l:List Ev} {N C:Nat},cY b N C s→(∀x∈ws,jR b x)→0<=fu→fu<=n→N+12000*(ws.length+bF s+1)<=1000000→C+200*(n+1)+14<=1000000→sD l→sD (YK b (n+1) s ws fu l).2.2.1:=by
 intro n
 induction n using zBv with|ind n ih=>?_
 intro s ws fu l N C hS zW wB uO hN hC hl;have hq:=Oj (b:=b) (N:=N) (C:=C) (by omega) (Zk s) s ws l (IT _) hS;have hm:sD (quiet b (Zk s) s ws l).2.2:=by
  have key:∀(k:Nat) (s:St) (ws:List Tr) (l:List Ev),sD l→sD (quiet b k s ws l).2.2:=by
   intro k
   induction k with
   |zero=>intro s ws l h;exact h
   |succ k ih=>
    intro s ws l h;unfold quiet;split
    ·exact h
    ·exact ih _ _ _ (h.app λe he=>by rw[((Yz (aH b s) s).2.1 e he).1];exact zBB _)
  exact key _ s ws l hl
 have rC:=Nw cN (by omega:C+14<=1000000) (Zk s) s ws l hS;generalize eq:quiet b (Zk s) s ws l=q at hq hm rC;obtain⟨t,kJ,l'⟩:=q;obtain⟨q1,_,_,m',q6,q7,q8⟩:=hq;have q1:cY b N C t:=q1
 replace rC:bF t+kJ.length<=bF s+ws.length:=rC
 have q6:kJ=ws++m':=q6;have hm:sD l':=hm;have bQ:∀x∈kJ,jR b x:=by grind
 rw[NS n fu eq];by_cases hz:bN t≠0
 ·rw[aJ hz];exact hm.app (RO _ _ _)
 rw[aE hz];cases kJ with
 |nil=>exact hm
 |cons x wr=>
  simp only;by_cases wF:fu=0
  ·rw[aJ wF];exact hm.app (RO _ _ _)
  rw[aE wF];by_cases ha:Xs b x.side (fu-1) (bq b x)=true
  ·rw[aJ ha];intro e he;cases he
  rw[aE ha];have dB:mV b (bq b x)=true:=by simp_all [Xs]
  obtain⟨_,uN⟩:=HP dB;have hx:=bQ x (by simp)
  replace rC:bF t+(wr.length+1)<=bF s+ws.length:=rC
  have UR:=Q7 b x.side (-1) (bq b x) 1 t (fu-1) (NK cN hx);obtain⟨k1,k2⟩:=AP (b:=b) (tg:=-1) hx.2.2 (bq b x) (fu-1) q1 (by omega) (by omega);have k1:=k1.mono (N':=N+12000) (C':=C+200) (by omega) (by omega);have rm:=Ge b x.side (-1) (bq b x) t (fu-1) (by omega);have hc:=NZ (b:=b) (tg:=-1) hx.2.2 (bq b x) (fu-1) q1 (by omega) (by omega);generalize runs b x.side (-1) (bq b x) t (fu-1)=r at *;have dU:sD (l'++[nt x]++r.2.2.2):=(hm.app λe he=>by rw[zAw]at he;subst he;exact zBB _).app hc;by_cases h0:r.1=0
  ·rw[aJ h0];obtain⟨n',rfl⟩:∃n',n=n'+1:=⟨n-1,by omega⟩;exact ih n' (by omega) k1 (λy hy=>bQ y (by simp[hy])) rm.1 (by omega) (by omega) (by omega) dU
  rw[aE h0];by_cases h1:r.1=190
  ·rw[aJ h1];exact dU.app (RO _ _ _)
  ·rw[aE h1];intro e he;cases he
theorem Ydr{b:Bk}{s:St}{row:List Tr}{fu:Int}{N C:Nat}(hT:TB N s)(hC:Zm s<=C)(hN:aO (bz b).1 b s true=true→N+12000*(row.length+bF s+1)<=1000000)(pX:C+200*((Qp fu).toNat+1)+14<=1000000):sD (ca b s row fu).2.2.1:=by
 have hF:0<=Qp fu:=by unfold Qp;omega
 unfold ca;by_cases q:(decide ((row.length:Int)>1000) || !aO (bz b).1 b s true)=true
 ·rw[aJ q];intro e he;cases he
 rw[aE q];have hq:(decide ((row.length:Int)>1000) || !aO (bz b).1 b s true)=false:=by simpa using q
 simp only[zAv,sG,zBh]at hq;obtain⟨cN,hM⟩:=Xo.1 hq.2;by_cases q2:row.any (kL b)=true
 ·rw[aJ q2];intro e he;cases he
 rw[aE q2];have iK:∀x∈row,jR b x:=by simp_all [MW]
 by_cases q3:s.phase=2
 ·rw[aJ q3];intro e he;cases he
 rw[aE q3];exact QcS cN (Qp fu).toNat ⟨hM,hT,hC⟩ iK hF (by omega) (hN hq.2) pX (λe he=>by cases he)
theorem i100{e:Ev}(h:e.ai.length<=60):PC 16 [.agg (dF e),.agg (dF e)] (.bool true):=by
 have h85:=c62 e.ai e.ai (by omega);rw[fk rfl]at h85;have:=c99 e e (x:=aP e.ai) (y:=aP e.ai) rfl rfl rfl rfl (q:=true) (λσ k hk=>aY h85 g38.ok hk)
 rwa [QcT]at this
theorem i72{l:List Ev}(h:sD l)(hl:l.length<=1000000000):PC 35 [.aU false false 7 (l.map dF),.aU false false 7 (l.map dF)] (.bool true):=by
 refine c47 (by simpa using hl) λr hr=>?_;obtain⟨e,he,rfl⟩:=zAt.1 hr;exact⟨rfl,rfl,i100 (h e he)⟩
theorem i94(s:St)(hs:bd 1000000000 s){l:List Ev}(h:sD l)(hl:l.length<=1000000000)(n e:Int):PC 10 [bZ s,bZ s,.aU false false 7 (l.map dF),.aU false false 7 (l.map dF),iv n,iv n,iv e,iv e] (.bool true):=by
 have h45:=Tc s hs;have h72:=i72 h hl;refine Xa hP g10.ok rfl rfl ?_;rw[H8.e];unfold g10;dsimp only;refine au ?_;rw[show (e==e)=true from beq_self_eq_true _];refine au ?_;rw[show (n==n)=true from beq_self_eq_true _];refine au ?_;refine aY h45 g15.ok ?_;refine au ?_;refine aY h72 g35.ok ?_;refine au ?_;rfl
theorem w151{l:List Int}(hl:l.length<=1000000000){σ:List ab}{rd:List Nat}{v:aa}(hb:RI σ rd v l){K:KT}(hK:K (.sl σ.length 0 l.length false) (σ++[.rows 1 (l.map aR)])):VV.call (.call 57) [v] σ K:=by
 refine Qc3 (c60 l hl) rfl g57.ok.plain (.cons hb .nil) rfl (by simp only[ya,ab.dq,Sr,Bool.and_self]) ?_;simp only[Xv,zAN,zBC,Y2,aa.ct,XC,No];exact hK
theorem u218(b:Bk)(s:St)(hs:bd 1000000 s)(hm:aO (bz b).1 b s true=true)(h67:PC 42 [cC b] (.agg [iv (bz b).1,iv (bz b).2]))(k:Int)(h01:k=0∨k=1):PC 37 [cC b,bZ s,iv k] (eA (aS s k)):=by
 have gW:bd 1000000000 s:=hs.mono (by decide);have vo:=ZU.1 (PG hm);have gk:=ZU.1 (SD hm);refine Qi hP g37.ok rfl ?_;rw[H3.e];unfold g37;dsimp only;refine au (aY (c25 b s gW true _ _ h67) g29.ok (Za rfl ?_));rw[hm];refine Ye (Za (ZS ..) ?_);refine XZ (v1:=iv k) (λ_=>rfl) (λ_=>o_ ..) ?_;rw[show (decide (k<0)||decide (k>1))=false by rcases h01 with rfl|rfl<;>rfl];refine Ye (Za (v:=bZ s) (rd:=[1]) rfl (w19 gW ?_));rcases h01 with rfl|rfl
 rotate_left;obtain⟨tu,mo,ph,st,re,at_,ne,⟨l',m',o',d',h',g',u',t'⟩,⟨l,m,o,d,h,g,u,t⟩⟩:=s;obtain⟨ha,⟨p1,p2,p3,p4,p5⟩,⟨q1,q2,q3,q4,q5⟩⟩:=hs;have hl:=gk;rotate_left;obtain⟨tu,mo,ph,st,re,at_,ne,⟨l,m,o,d,h,g,u,t⟩,⟨l',m',o',d',h',g',u',t'⟩⟩:=s;obtain⟨ha,⟨q1,q2,q3,q4,q5⟩,⟨p1,p2,p3,p4,p5⟩⟩:=hs;have hl:=vo
 all_goals
  simp only at ha q1 q2 q3 q4 q5 p1 p2 p3 p4 p5 hl;refine au ?_;cases d with
  |nil=>
   refine au ?_;refine aY (c116 _) g65.ok ?_;refine au ?_;have e:BY.wrap (l-1)=l-1:=br (by omega) (by omega);refine Ya (λhw=>?_) (λhw=>?_)
   ·have hw:iF (l-1)=false:=by rw[←e];simpa using hw
    refine au ?_;refine⟨[],?_⟩;show aB _ _ _ (eA (if iF (l-1)then _ else (iz,jm,171)));rw[hw];exact u9 171
   ·have hw:iF (l-1)=true:=by rw[←e];simpa using hw
    refine au ?_;show ∃rd,aB _ rd _ (eA (if iF (l-1)then (_,(⟨3,_,-1,0,0,0,[]⟩:Ev),0)else (iz,jm,171)));rw[hw,e];refine⟨zAC 40,oR (r:=(_,⟨3,_,-1,0,0,0,[]⟩,0)) ?_ (o8 (e:=⟨3,_,-1,0,0,0,[]⟩) RI.an)⟩;exact SB.lit rfl
  |cons c d2=>
   simp only[IS]at q1;refine au ((W7 (x:=c) (l:=d2) rfl).elim λrd e=>Za e ?_);clear e rd;refine w151 (rd:=[_]) (l:=d2) (by omega) (RI.mu rfl (zAw.2 rfl)) (au (Ya (λhw=>?_) (λhw=>?_)))
   ·have hw:10<=h.length:=by simp at hw;omega
    refine au ?_;refine HB rfl rfl rfl (by first|omega|(dsimp only;omega)) ?_;refine au (QK 3 (Zl ?_));refine au ?_;refine HB rfl rfl rfl (by first|omega|(dsimp only;omega)) ?_;refine au ?_;refine HB rfl rfl rfl (by first|omega|(dsimp only;omega)) ?_;refine au ?_;show ∃rd,aB _ rd _ (eA (if 10<=h.length then (_,(⟨4,_,c,0,0,0,[]⟩:Ev),0)else _));rw[aJ hw];refine⟨zAC 40,oR (r:=(_,⟨4,_,c,0,0,0,[]⟩,0)) ?_ (o8 (e:=⟨4,_,c,0,0,0,[]⟩) RI.an)⟩;exact SB.lit rfl
   ·have hw:¬10<=h.length:=by simp at hw;omega
    refine au ?_;refine HB rfl rfl rfl (by first|omega|(dsimp only;omega)) ?_;refine au ?_;refine HB rfl rfl rfl (by first|omega|(dsimp only;omega)) ?_;refine au ?_;show ∃rd,aB _ rd _ (eA (if 10<=h.length then _ else (_,(⟨3,_,c,0,0,0,[]⟩:Ev),0)));rw[aE hw];refine⟨zAC 40,oR (r:=(_,⟨3,_,c,0,0,0,[]⟩,0)) ?_ (o8 (e:=⟨3,_,c,0,0,0,[]⟩) RI.an)⟩;exact SB.lit rfl
theorem Qef{σ:List ab}{b c len:Nat}{ex ex2:Bool}{l:List Th}{x:Th}{K:aa→List Nat×List Nat→List ab→Prop}(hb:aj σ b=.rows 4 (l.map bg))(hc:aj σ c=.rows 4 [bg x])(hl:len=l.length)(bM:l.length<=1000000000)(hK:K (.sl σ.length 0 (l++[x]).length false) ([c],[b,σ.length]) (σ.set b .dead++[.rows 4 ((l++[x]).map bg)])) :
  VV.dr (Qf 4 32 [.sl b 0 len ex,.sl c 0 1 ex2] σ) σ K:=by
 refine Xf (HL 4 32 (rs2:=[bg x]) hb hc (by simp[hl]) rfl rfl (by omega)) (XI _ _ (Yb hb)) ?_;rw[hl];simpa using hK
theorem QcP(b:Bk)(s:St)(k c:Int):Z0 b s k c=((((decide (c<0)||decide ((b.ai.length:Int)<=c)) || !((b.ai[c.toNat]?).getD default).unit)||decide (7<=((s.side k).af.length:Int)))||decide (1000000<=s.next)):=rfl
theorem u330(b:Bk)(s:St)(hs:bd 1000000 s)(hm:aO (bz b).1 b s true=true)(h67:PC 42 [cC b] (.agg [iv (bz b).1,iv (bz b).2]))(k c:Int)(h01:k=0∨k=1):PC 150 [cC b,bZ s,iv k,iv c] (tK b s k c):=by
 have gW:bd 1000000000 s:=hs.mono (by decide);have Da:=Qt hm;have hw:BY.wrap (s.next+1)=s.next+1:=zAZ _ (by omega);have h50:=c25 b s gW true _ _ h67;rw[hm]at h50;have hz:∀(σ:List ab),Z0 b s k c=true→∃rd,aB (Go.Ah.hp σ) rd (.bp [.agg aZ,.agg bX,.bool false]) (tK b s k c):=λσ h=>⟨[],by unfold tK;rw[h];exact xp rfl⟩;have hg:Z0 b s k c=false→tK b s k c=oS (ZB s k c) ⟨2,k,c,s.next,0,0,[]⟩ (.bool true):=λh=>by unfold tK;rw[h];rfl
 refine Qi hP g150.ok rfl ?_;have sZ:=QcP b s k c;clear hm;rcases h01 with rfl|rfl
 rotate_left;obtain⟨tu,mo,ph,st,re,at_,ne,⟨l',m',o',d',h',g',u',t'⟩,⟨l,m,o,d,h,g,u,t⟩⟩:=s;have hu:u.length<=1000000:=hs.s1.af;rotate_left;obtain⟨tu,mo,ph,st,re,at_,ne,⟨l,m,o,d,h,g,u,t⟩,⟨l',m',o',d',h',g',u',t'⟩⟩:=s;have hu:u.length<=1000000:=hs.s0.af
 all_goals
  replace sZ:_=((((decide (c<0)||decide ((b.ai.length:Int)<=c)) || !((b.ai[c.toNat]?).getD default).unit)||decide (7<=(u.length:Int)))||decide (1000000<=ne)):=sZ
  rw[H4.e];unfold g150;dsimp only[bZ,aI];refine au ?_;refine aY h50 g29.ok ?_;refine au ?_;rcases cA (decide (c<0))with q1|q1
  ·rw[q1];refine au ?_;exact hz _ (by rw[sZ,q1];rfl)
  rw[q1]at sZ ⊢;refine au ?_;rcases cA (decide (c >= ((b.ai.map cL).length:Int)))with q2|q2
  ·rw[q2];refine au ?_;exact hz _ (by rw[sZ,show decide ((b.ai.length:Int)<=c)=true by simpa using q2];rfl)
  rw[q2];rw[show decide ((b.ai.length:Int)<=c)=false by simpa using q2]at sZ;have h0:0<=c:=by simpa using q1
  have b_:c.toNat<b.ai.length:=by simp at q2;omega
  refine au ?_;refine Za (sH _ cL false false 12 b.ai .i64 c h0 b_) ?_;rw[zAU b_,Option.getD_some]at sZ;generalize b.ai[c.toNat]=cd at *;refine au ?_;cases q3:cd.unit with
  |false=>rw[q3]at sZ;refine au ?_;exact hz _ (by rw[sZ];rfl)
  |true=>
  rw[q3]at sZ;refine au ?_;rcases cA (decide (((u.map bg).length:Int) >= 7))with q4|q4
  ·rw[q4];refine au ?_;exact hz _ (by rw[sZ,show decide (7<=(u.length:Int))=true by simpa using q4];rfl)
  rw[q4];rw[show decide (7<=(u.length:Int))=false by simpa using q4]at sZ;refine au ?_;rcases cA (decide (ne >= 1000000))with q5|q5
  ·rw[q5];refine au ?_;exact hz _ (by rw[sZ,show decide (1000000<=ne)=true from q5];rfl)
  rw[q5];rw[show decide (1000000<=ne)=false from q5]at sZ;rw[hg sZ];have hw:BY.wrap (ne+1)=ne+1:=hw;refine au (w19 gW ?_);dsimp only[po,mq,yF,uq];refine au ?_;refine Qef (x:=⟨ne,c,0,true⟩) rfl rfl rfl (by omega) ?_;refine au ?_;rw[hw];refine⟨zAC 40,rX (s:=ZB _ _ _) (e:=⟨2,_,c,ne,0,0,[]⟩) ?_ (o8 (e:=⟨2,_,c,ne,0,0,[]⟩) RI.an) rfl⟩;exact SB.lit rfl
theorem Qc9{kd:Int}{fP:Int→Int×Int}{fU:Th→Int×Int}{s:St}{id sd side:Int}{k:Nat}(h0:0<id)(hu:aL s id=(side,(k:Int),true)):fY kd fP fU s id sd=jH s kd side k id (((Xx s side).af[k]?).getD default) (fU (((Xx s side).af[k]?).getD default)):=by
 unfold fY;rw[aE (by omega),aE (by omega)];unfold aL at hu;cases q0:gB s.s0.af id with
 |some i=>
  rw[q0]at hu;simp only[zBm,and_true]at hu;obtain⟨rfl,h2⟩:=hu;have h2:i=k:=by omega
  subst h2;rfl
 |none=>
  rw[q0]at hu;cases q1:gB s.s1.af id with
  |some i=>
   rw[q1]at hu;simp only[zBm,and_true]at hu;obtain⟨rfl,h2⟩:=hu;have h2:i=k:=by omega
   subst h2;rfl
  |none=>rw[q1]at hu;simp at hu
theorem Xc9{kd:Int}{fP:Int→Int×Int}{fU:Th→Int×Int}{s:St}{id sd:Int}(h0:0<id)(hu:(aL s id).2.2=false):fY kd fP fU s id sd=(iz,jm,4):=by
 unfold fY;rw[aE (by omega),aE (by omega)];unfold aL at hu;cases q0:gB s.s0.af id with
 |some i=>rw[q0]at hu;cases hu
 |none=>
  rw[q0]at hu;cases q1:gB s.s1.af id with
  |some i=>rw[q1]at hu;cases hu
  |none=>rfl
theorem QdM{σ:List ab}{b k:Nat}{l:List Th}{u':Th}(hb:aj σ b=.rows 4 (l.map bg))(hk:k<l.length):Yj 4 [.ptr b k 0,.agg (bg u')] σ=.ok .aQ [] [(b,.rows 4 ((l.set k u').map bg))]:=by
 have h1:nth (l.map bg) k=some (bg l[k]):=by rw[Y7,zAX,zAU hk];rfl
 have h2:QF k (bg u') (l.map bg)=some ((l.set k u').map bg):=by
  rw[Y8 (by simpa using hk),List.map_set]
 show (match aj σ b with
   |.rows sz rs=>match nth rs k with
    |some row=>match cellsOf (.agg (bg u'))with
     | some cs=>bif IN cs.length 4 then (match cc 0 cs row with
      |some row'=>match QF k row' rs with
       |some rs'=>aA.ok .aQ [] [(b,.rows sz rs')]
       |none=>.stop
      | none=>.stop)else .stop
     |none=>.stop
    |none=>.stop
   | _=>.stop)=_
 rw[hb];simp only[h1];show (match QF k (bg u') (l.map bg)with
  |some rs'=>aA.ok .aQ [] [(b,.rows 4 rs')]
  | none=>.stop)=_
 rw[h2]
theorem Ycx{kd:Int}{fP:Int→Int×Int}{fU:Th→Int×Int}{s:St}{id sd:Int}(h:id<0):fY kd fP fU s id sd=(iz,jm,4):=by
 unfold fY;rw[aE (by omega),aJ h]
theorem u289(b:Bk)(s:St)(hs:bd 1000000 s)(hm:aO (bz b).1 b s true=true)(h67:PC 42 [cC b] (.agg [iv (bz b).1,iv (bz b).2]))(id sd n:Int)(h0:sd=0∨sd=1)(me:Bool) :
  PC 207 [cC b,bZ s,iv id,iv sd,iv n,.bool me] (eA (if me=true then jA s id sd n else jv b s id sd n)):=by
 obtain⟨he,hM⟩:=Xo.1 hm;have gW:bd 1000000000 s:=hs.mono (by decide);have h50:=c25 b s gW true _ _ h67;rw[hm]at h50;have hz:∀(σ:List ab) (e:Int),∃rd,aB (Go.Ah.hp σ) rd (.bp [.agg aZ,.agg bX,iv e]) (eA (iz,jm,e)):=λ_ e=>⟨[],u9 e⟩;have h48:=c23 s gW id;have hn4:0<=iV n∧iV n<=4000000:=by unfold iV;omega
 refine Qi hP g207.ok rfl ?_;rw[H6.e];unfold g207;dsimp only;rcases Int.lt_trichotomy id 0 with gP|rfl|gP
 ·have a1:decide (id>0)=false:=by simp;omega
  have a2:decide (id<0)=true:=by simpa using gP
  cases me
  all_goals
   refine au ?_;refine aY h50 g29.ok ?_;refine au ?_;refine w19 gW ?_;refine au ?_;rw[a1];refine au ?_;rw[a2];refine au ?_
   first|(unfold jA;rw[Ycx gP];exact hz _ _)|(unfold jv;rw[Ycx gP];exact hz _ _)
 ·have l0:=ZU.1 (PG hm);have l1:=ZU.1 (SD hm);clear hM hm he;rcases h0 with rfl|rfl
  rotate_left;obtain⟨tu,mo,ph,st,re,at_,ne,⟨l',m',o',d',h',g',u',t'⟩,⟨l,m,o,d,h,g,u,t⟩⟩:=s;have l0:-1000000<=l∧l<=1000000:=l1;rotate_left;obtain⟨tu,mo,ph,st,re,at_,ne,⟨l,m,o,d,h,g,u,t⟩,⟨l',m',o',d',h',g',u',t'⟩⟩:=s;have l0:-1000000<=l∧l<=1000000:=l0
  all_goals
   dsimp only[bZ,aI];cases me
  all_goals
   refine au (aY h50 g29.ok ?_);refine au (w19 gW ?_);dsimp only[po,mq,yF,uq];refine au (aY (c116 _) g65.ok ?_);refine au (Ya (λhw=>?_) (λhw=>?_))
   ·refine au ?_
    first
     |show ∃rd,aB _ rd _ (eA (if iF (BY.wrap (l-min (max n 0) 4000000))=true then _ else (iz,jm,171)))
     |show ∃rd,aB _ rd _ (eA (if iF (BY.wrap (l+min (max n 0) 4000000))=true then _ else (iz,jm,171)))
    rw[aE (by simpa using hw)];exact hz _ 171
   ·refine au ?_
    first
     |show ∃rd,aB _ rd _ (eA (if iF (BY.wrap (l-min (max n 0) 4000000))=true then (_,(⟨_,_,0,0,0,_,[]⟩:Ev),0)else (iz,jm,171)))
     |show ∃rd,aB _ rd _ (eA (if iF (BY.wrap (l+min (max n 0) 4000000))=true then (_,(⟨_,_,0,0,0,_,[]⟩:Ev),0)else (iz,jm,171)))
    rw[aJ (by simpa using hw)];refine⟨zAC 40,oR (r:=(_,⟨_,_,0,0,0,_,[]⟩,0)) ?_ (o8 (e:=⟨_,_,0,0,0,_,[]⟩) RI.an)⟩;exact SB.lit rfl
 ·rcases cA (aL s id).2.2 with hk|hk
  rotate_left
  ·have hg:∀(kd:Int) (fP:Int→Int×Int) (fU:Th→Int×Int),fY kd fP fU s id sd=(iz,jm,4):=λ_ _ _=>Xc9 gP hk;have a1:decide (id>0)=true:=by simpa using gP
   have e:gz s id=.bp [iv (aL s id).1,iv (aL s id).2.1,.bool false]:=by unfold gz;rw[hk]
   rw[e]at h48;cases me
   all_goals
    refine au ?_;refine aY h50 g29.ok ?_;refine au ?_;refine w19 gW ?_;refine au ?_;rw[a1];refine au ?_;refine aY h48 g56.ok ?_;refine au ?_
    first|(unfold jA;rw[hg];exact hz _ _)|(unfold jv;rw[hg];exact hz _ _)
  obtain⟨k,u,h1,h2,h3,h4⟩:=ZdC hk;have C6:0<=u.card∧u.card.toNat<b.ai.length:=by
   have qF:=zAK h2;rcases h4 with e|e<;>rw[e]at qF
   ·exact IB hm u qF
   ·exact Ih hm u qF
  have aag:0<=u.harm∧u.harm<=1000000:=by
   have:=hM.un.1 u (by
    have qF:=zAK h2;rcases h4 with e|e<;>rw[e]at qF
    ·exact zAl _ qF
    ·exact zAg _ qF)
   simp only[Qz,AI,fE]at this;exact⟨this.2.2.2.1,this.2.2.2.2.1⟩
  have O2:0<=YY b u.card∧YY b u.card<=999:=(NQ he u.card).1;have qf:YY b u.card=(b.ai[u.card.toNat]'C6.2).dg:=by simp[YY,zAU C6.2]
  have hg:∀(kd:Int) (fP:Int→Int×Int) (fU:Th→Int×Int),fY kd fP fU s id sd=jH s kd (aL s id).1 k id u (fU u):=λkd fP fU=>by
   rw[Qc9 gP (side:=(aL s id).1) (k:=k) (by rw[←h1,←hk]),h2];rfl
  have a1:decide (id>0)=true:=by simpa using gP
  have e:gz s id=.bp [iv (aL s id).1,iv k,.bool true]:=by unfold gz;rw[hk,h1]
  rw[e]at h48;have cH:=λ(σ:List ab)=>sH σ cL false false 12 b.ai .i64 u.card C6.1 C6.2;unfold jA jv;simp only[hg,oK,iV];clear hg hM hm he e;generalize (aL s id).1=side at *;rcases h4 with rfl|rfl
  rotate_left;obtain⟨tu,mo,ph,st,re,at_,ne,⟨l',m',o',d',h',g',u',t'⟩,⟨l,m,o,d,h,g,us,t⟩⟩:=s;rotate_left;obtain⟨tu,mo,ph,st,re,at_,ne,⟨l,m,o,d,h,g,us,t⟩,⟨l',m',o',d',h',g',u',t'⟩⟩:=s
  all_goals
   have h2:us[k]?=some u:=h2;have mw:k<us.length:=(gK h2).1;have dN:(us.map bg)[0+k]?=some (bg u):=by rw[No,zAX,h2];rfl
   dsimp only[bZ,aI];cases me
  all_goals
   simp only[if_true,if_false,zAS];refine au (aY h50 g29.ok ?_);refine au (w19 gW ?_);dsimp only[po,mq,yF,uq];refine au ?_;rw[a1];refine au (aY h48 g56.ok ?_);refine au (Za (sE _ _ 0 us.length false 4 (us.map bg) .i64 k mw rfl) (Za (v:=.agg (bg u)) (z7 rfl dN rfl) ?_));refine au ?_
   first
    |refine Za (cH _) ?_
     refine au ?_;rw[←qf];have zA:-1000000<=BY.wrap (u.harm+max (BY.wrap (min (max n 0) 4000000-YY b u.card)) 0):=by
      rw[br (n:=min (max n 0) 4000000-_) (by omega) (by omega),br (by omega) (by omega)];omega
     generalize max (BY.wrap (min (max n 0) 4000000-YY b u.card)) 0=q at *;generalize BY.wrap (u.harm+q)=nh at *
    |have zA:-1000000<=BY.wrap (u.harm-min (min (max n 0) 4000000) u.harm):=by
      rw[br (by omega) (by omega)];omega
     generalize min (min (max n 0) 4000000) u.harm=q at *;generalize BY.wrap (u.harm-q)=nh at *
   refine Ya (λhb=>?_) (λhb=>?_)
   ·have hb:=of_decide_eq_true hb;refine au ?_;unfold jH;rw[aE (by simp[iF];omega)];exact hz _ 171
   ·have hb:=of_decide_eq_false hb;refine au (Xf (sE _ _ 0 us.length false 4 (us.map bg) .i64 k mw rfl) (Zg _) ?_);rw[No];refine Xf (QdM (u':={ u with harm:=nh }) rfl mw) rfl (au ?_);unfold jH;rw[aJ (by simp[iF];omega)];refine⟨zAC 40,oR (r:=(_,⟨_,_,0,id,0,_,[]⟩,0)) ?_ (o8 (e:=⟨_,_,0,id,0,_,[]⟩) RI.an)⟩
    first
     |exact SB.lit rfl (x4:=RT.own rfl (j6 rfl) zCf.symm)
     |exact SB.lit rfl (x9:=RT.own rfl (j6 rfl) zCf.symm)
theorem u197(b:Bk)(s:St)(hs:bd 1000000 s)(hm:aO (bz b).1 b s true=true)(h67:PC 42 [cC b] (.agg [iv (bz b).1,iv (bz b).2]))(id sd n:Int)(h0:sd=0∨sd=1) :
  PC 185 [cC b,bZ s,iv id,iv sd,iv n] (eA (jv b s id sd n)):=by
 refine Qi hP g185.ok rfl ?_;rw[H5.e];unfold g185;dsimp only;refine au ?_;refine aY (u289 b s hs hm h67 id sd n h0 false) g207.ok ?_;refine au ?_;exact⟨[],aB.ro rfl⟩
theorem u485(b:Bk)(s:St)(hs:bd 1000000 s)(hm:aO (bz b).1 b s true=true)(h67:PC 42 [cC b] (.agg [iv (bz b).1,iv (bz b).2]))(id sd n:Int)(h0:sd=0∨sd=1) :
  PC 186 [cC b,bZ s,iv id,iv sd,iv n] (eA (jA s id sd n)):=by
 refine Qi hP g186.ok rfl ?_;rw[H5.e];unfold g186;dsimp only;refine au ?_;refine aY (u289 b s hs hm h67 id sd n h0 true) g207.ok ?_;refine au ?_;exact⟨[],aB.ro rfl⟩
end Go.Ah.Tz
end
