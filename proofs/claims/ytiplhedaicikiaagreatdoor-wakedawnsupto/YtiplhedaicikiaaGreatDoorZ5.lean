/- Part of the proof that WakeDawns holds of the program for arguments that together hold at most 1048576 values and letters; no other condition. -/
import Derived.Test.YtiplhedaicikiaaGreatDoorZ4
set_option linter.all false
open Bool renaming and_eq_true->AI,and_true->zBA,eq_iff_iff->zAo,not_eq_false'->zBt,or_eq_false_iff->zAx
open Go.IntKind renaming i64->BY
open Go.IntWalk renaming i64_in->zAY
open Int renaming le_refl->zBM
open List renaming append_assoc->zAb,append_nil->zBE,cons_append->zAJ,drop_length->zAD,drop_zero->zDW,eraseIdx_sublist->zCj,getElem?_eq_getElem->zAP,getElem?_map->zAT,getElem?_set_self->zAe,getElem_mem->AT,getElem_of_mem->zBg,length_append->By,length_cons->IS,length_eq_zero_iff->zAc,length_map->zAM,length_nil->zAG,length_set->zCf,map_append->zAa,map_cons->zAN,map_nil->zBC,mem_append->zAF,mem_append_left->zAp,mem_append_right->zAi,mem_cons->zAS,mem_map->zAh,mem_of_getElem?->zAI,mem_singleton->zAs,nil_append->zAL,nodup_cons->zBr,range->zAB,replicate->zAf,set_set->zDB,take_append_drop->zCh,take_append_of_le_length->zCA,take_left->zDM,take_length->zAl,take_of_length_le->zAv
open List.Sublist renaming refl->zBL
open List.range renaming loop->zAd
open Nat renaming add_assoc->zBR,add_zero->zBj,beq->IT,ble->zAR,ble_eq_true_of_le->sh,le_refl->No,le_trans->zAX,lt_of_lt_of_le->zAK,zero_add->IN
open Prod.mk renaming injEq->zBm
open SizeOf renaming sizeOf->zAV
open UInt8 renaming ofNat->zDd
section
namespace Go.Ah.Tz
open Go.Proofs.Tryz (prog)
set_option maxRecDepth 100000
def pO(b:Bk)(s:St)(sd op who:Int)(name:Tx)(ns:List Int)(qs:List Bool):Bool:=
 if op=0 then decide (ns.getD 0 0<ns.getD 1 0)else if op=1 then decide (ns.getD 0 0<=ns.getD 1 0)else if op=2 then decide (ns.getD 0 0=ns.getD 1 0)
 else if op=3 then !qs.getD 0 false else if op=4 then qs.getD 0 false&&qs.getD 1 false else if op=5 then qs.getD 0 false||qs.getD 1 false
 else (iT s (bJ sd who)).hand.any λc=>(Zr b c).name==name
mutual
def dV (b:Bk) (s:St) (sd tg:Int):Cn→Bool
 |.mk op who name aC kids=>pO b s sd op who name (kJ b s sd tg aC) (kg b s sd tg kids)
def kg (b:Bk) (s:St) (sd tg:Int):List Cn→List Bool
 |[]=>[]
 |x::l=>dV b s sd tg x::kg b s sd tg l
end
theorem YdP(b:Bk)(s:St)(sd tg:Int)(x:Cn):dV b s sd tg x=pO b s sd x.op x.who x.name (kJ b s sd tg x.aC) (kg b s sd tg x.kids):=by cases x;rfl
theorem Qcd(b:Bk)(s:St)(sd tg:Int):∀(l:List Nm) (i:Nat) (h:i<l.length),(kJ b s sd tg l).getD i 0=dT b s sd tg l[i]
 |x::l,0,_=>rfl
 |x::l,i+1,h=>by
  have:=Qcd b s sd tg l i (by simpa using h);simpa[kJ]using this
theorem ZbE(b:Bk)(s:St)(sd tg:Int):∀(l:List Cn) (i:Nat) (h:i<l.length),(kg b s sd tg l).getD i false=dV b s sd tg l[i]
 |x::l,0,_=>rfl
 |x::l,i+1,h=>by
  have:=ZbE b s sd tg l i (by simpa using h);simpa[kg]using this
def Jp(ns:List Int)(i:Nat):List aa:=[iv (if 0<i then ns.getD 0 0 else 0),iv (if 1<i then ns.getD 1 0 else 0)]
def Jo(qs:List Bool)(i:Nat):List aa:=[.bool (if 0<i then qs.getD 0 false else false),.bool (if 1<i then qs.getD 1 false else false)]
theorem GZ{t:Bool}:∀ {l:List Nm},cA t l=true→∀y∈l,eR t y=true
 |a::l,h,y,hy=>by
  simp only[cA,AI]at h;simp only[zAS]at hy;rcases hy with rfl|hy
  ·exact h.1
  ·exact GZ h.2 y hy
theorem Io{cs:List Cd}{t:Bool}:∀ {l:List Cn},eJ cs t l=true→∀y∈l,fH cs t y=true
 |a::l,h,y,hy=>by
  simp only[eJ,AI]at h;simp only[zAS]at hy;rcases hy with rfl|hy
  ·exact h.1
  ·exact Io h.2 y hy
def Nc(b:Bk)(s:St):Prop:=∀k c,c∈(iT s k).az∨c∈(iT s k).hand→0<=c∧c.toNat<b.aj.length
attribute [local irreducible] aE.rd aE.pu aE.wr aE.dr aE.gr aE.gw aE.gl aE.gd aE.opt cP W
set_option maxHeartbeats 8000000
theorem Bu(b:Bk)(hf:ba b=true)(bW:Yg b.aj)(s:St)(hs:aY 1000000000 s)(hm:aL (bu b).1 b s true=true)(sd tg:Int)(h0:0<=sd)(h1:sd<=1)(hd:Nc b s)(t:Bool) :
  ∀(k:Nat) (x:Cn) (row:List aa) (j:Nat),sY row j x→zAV x<=k→cK x=true→fH b.aj t x=true→PC 279 [.agg [.aq row j],ry b s sd tg] (.iface 4 (.bool (dV b s sd tg x)))
 |0,x,_,_,_,h,_,_=>by cases x;simp at h
 |k+1,x,row,j,hx,hk,jN,bR=>by
  have ni:=bR;rw[RX]at ni;simp only[AI]at ni;obtain⟨k1,k2,k3,_⟩:=ni;simp only[gW,AI,fD]at k1;obtain⟨ka,kb,kc,kd⟩:=k1;have kc2:x.aC.length<=2:=by rw[kc,nF];split<;>omega
  have kd2:x.kids.length<=2:=by grind [nG]
  have rW:∀(i:Nat) (hi:i<x.aC.length),PC 260 [.agg [.aq (dd x.aC[i]) 0],ry b s sd tg] (.iface 3 (iv ((kJ b s sd tg x.aC).getD i 0))):=by
   intro i hi;have il:=AT hi;rw[Qcd b s sd tg x.aC i hi];exact pL b hf bW s hs hm sd tg h0 h1 (λc hc=>hd _ c (.inl hc)) t _ _ _ 0 (qG _) (No _) (Z7 jN il) (GZ k2 _ il)
  have KN:∀(i:Nat) (hi:i<x.kids.length),PC 279 [.agg [.aq (gg x.kids[i]) 0],ry b s sd tg] (.iface 4 (.bool ((kg b s sd tg x.kids).getD i false))):=by
   intro i hi;have il:=AT hi;rw[ZbE b s sd tg x.kids i hi];exact Bu b hf bW s hs hm sd tg h0 h1 hd t k _ _ 0 (zI _) (by have:=CT il;omega) (Q6 jN il) (Io k3 _ il)
  rw[YdP];generalize kJ b s sd tg x.aC=ns at rW ⊢;generalize kg b s sd tg x.kids=qs at KN ⊢;refine Xa hP g279.ok rfl rfl ?_;rw[H2.e];unfold g279;dsimp only;refine ay ?_;refine Za (bB hx.h3) (Za (v:=iv x.aC.length) (rd:=[]) (by simp[Yn]) ?_);refine Xg (ι:=Nat) (λi vs τ=>vs=[iv i]∧i<=x.aC.length∧τ=[.box [.aq row j],.box (Jp ns i),.box [.bool false,.bool false]]) (λi=>x.aC.length-i) 0 ⟨rfl,by omega,rfl⟩ ?_;rintro i vs τ again ⟨rfl,hi,rfl⟩ bj;refine Za rfl (QM (λh=>?_) (λh=>?_))
  ·refine ay (Za (bB hx.h3) (Za (Ym _ dd _ _ _ x.aC _ i h) (Za rfl (a_ (rW i h) g260.ok (Za rfl ?_)))));have h01:i=0∨i=1:=by omega
   rcases h01 with rfl|rfl
   ·refine ay (bj 1 _ _ (by omega) ⟨rfl,by omega,rfl⟩)
   ·refine ay (bj 2 _ _ (by omega) ⟨rfl,by omega,rfl⟩)
  subst h;clear bj;refine ay ?_;refine Za (bB hx.h4) (Za (v:=iv x.kids.length) (rd:=[]) (by simp[Yn]) ?_);generalize hA:Jp ns x.aC.length=A1;refine Xg (ι:=Nat) (λi vs τ=>vs=[iv i]∧i<=x.kids.length∧τ=[.box [.aq row j],.box A1,.box (Jo qs i)]) (λi=>x.kids.length-i) 0 ⟨rfl,by omega,rfl⟩ ?_;rintro i vs τ again ⟨rfl,hi,rfl⟩ bj;refine Za rfl (QM (λh=>?_) (λh=>?_))
  ·refine ay (Za (bB hx.h4) (Za (Ym _ gg _ _ _ x.kids _ i h) (Za rfl (a_ (KN i h) g279.ok (Za rfl ?_)))));have h01:i=0∨i=1:=by omega
   rcases h01 with rfl|rfl
   ·refine ay (bj 1 _ _ (by omega) ⟨rfl,by omega,rfl⟩)
   ·refine ay (bj 2 _ _ (by omega) ⟨rfl,by omega,rfl⟩)
  subst h;clear bj;generalize hB:Jo qs x.kids.length=B1;refine ay (Za (bB hx.h0) ?_);have im:x.op=0∨x.op=1∨x.op=2∨x.op=3∨x.op=4∨x.op=5∨x.op=6:=by omega
  rcases im with e|e|e|e|e|e|e
  ·have J_:A1=[iv (ns.getD 0 0),iv (ns.getD 1 0)]:=by rw[←hA,kc,e];rfl
   subst J_;rw[e];exact ay rfl
  ·have J_:A1=[iv (ns.getD 0 0),iv (ns.getD 1 0)]:=by rw[←hA,kc,e];rfl
   subst J_;rw[e];exact ay rfl
  ·have J_:A1=[iv (ns.getD 0 0),iv (ns.getD 1 0)]:=by rw[←hA,kc,e];rfl
   subst J_;rw[e];exact ae rfl
  ·have yH:B1=[.bool (qs.getD 0 false),.bool false]:=by rw[←hB,kd,e];rfl
   subst yH;rw[e];exact ay rfl
  ·have yH:B1=[.bool (qs.getD 0 false),.bool (qs.getD 1 false)]:=by rw[←hB,kd,e];rfl
   subst yH;rw[e];refine ay ?_;rw[show pO b s sd 4 x.who x.name ns qs=(qs.getD 0 false&&qs.getD 1 false) from rfl];rcases cD (qs.getD 0 false)with q|q
   ·rw[q];refine ay ?_;rfl
   ·rw[q];refine ay ?_;rfl
  ·have yH:B1=[.bool (qs.getD 0 false),.bool (qs.getD 1 false)]:=by rw[←hB,kd,e];rfl
   subst yH;rw[e];refine ay ?_;rw[show pO b s sd 5 x.who x.name ns qs=(qs.getD 0 false||qs.getD 1 false) from rfl];rcases cD (qs.getD 0 false)with q|q
   ·rw[q];refine ay ?_;rfl
   ·rw[q];refine ay ?_;rfl
  ·rw[e];refine ay (Za (bB hx.h1) (a_ (c295 b s sd tg x.who h0 h1) g266.ok ?_));have hv:pO b s sd 6 x.who x.name ns qs=(iT s (bJ sd x.who)).hand.any λc=>(Zr b c).name==x.name:=rfl;rw[hv];have dc:∀c∈(iT s (bJ sd x.who)).hand,0<=c∧c.toNat<b.aj.length:=λc hc=>hd _ c (.inr hc);obtain⟨jj,hjj,hpt,jr⟩:∃jj:Nat,aK false (jj+4) 1 (aF s)=some (aP (iT s (bJ sd x.who)).hand)∧(bif bJ sd x.who==0 then 7 else 15)=jj∧(iT s (bJ sd x.who)).hand.length<=1000000000:=by
    rcases I6 (who:=x.who) h0 h1 with h|h
    ·rw[h];exact⟨7,rfl,rfl,hs.s0.hand⟩
    ·rw[h];exact⟨15,rfl,rfl,hs.s1.hand⟩
   rw[hpt];generalize (iT s (bJ sd x.who)).hand=hand at hjj dc jr ⊢;refine Za rfl (Za rfl (Za (bB hjj) (Za (v:=iv hand.length) (rd:=[]) (by simp[Yn]) ?_)));refine Xg (ι:=Nat) (λi vs τ=>vs=[iv i]∧i<=hand.length∧τ=[.box [.aq row j],.box A1,.box B1]∧(hand.take i).any (λc=>(Zr b c).name==x.name)=false) (λi=>hand.length-i) 0 ⟨rfl,by omega,rfl,rfl⟩ ?_;rintro i vs τ again ⟨rfl,hi,rfl,mn⟩ bj;refine Za rfl (QM (λh=>?_) (λh=>?_))
   ·obtain⟨q1,q2⟩:=dc hand[i] (AT h);refine Za (Ym _ aS _ _ _ hand _ i h) (ax (Za (s_ _ cN _ _ _ b.aj _ _ q1 q2) ?_));refine ax (Za (bB hx.h2) (Za (uT ..) ?_));have hc:Zr b hand[i]=b.aj[hand[i].toNat]:=by simp[Zr,q2]
    refine Ya (λhq=>?_) (λhq=>?_)
    ·have:hand.any (λc=>(Zr b c).name==x.name)=true:=List.any_eq_true.2 ⟨hand[i],AT h,by rw[hc];exact hq⟩;rw[this];exact Za rfl rfl
    ·refine Za (Xj ..) ?_;rw[Xc (n:=i) (by omega)];refine bj (i+1) _ _ (by omega) ⟨rfl,by omega,rfl,?_⟩
     grind [Yu]
   ·subst h;rw[zAl]at mn;rw[mn];exact Za rfl rfl
theorem c569(b:Bk)(hf:ba b=true)(bW:Yg b.aj)(s:St)(hs:aY 1000000000 s)(hm:aL (bu b).1 b s true=true)(sd tg:Int)(h0:0<=sd)(h1:sd<=1)(hd:Nc b s)(t:Bool)(x:Cn)(hx:cK x=true)(bR:fH b.aj t x=true) :
  PC 279 [.agg [.aq (gg x) 0],ry b s sd tg] (.iface 4 (.bool (dV b s sd tg x))):=Bu b hf bW s hs hm sd tg h0 h1 hd t _ x _ 0 (zI x) (No _) hx bR
def vn(y:Cn):Ef:=.mk 8 0 D3 [] y [] []
def zm(y:Cn):Cd:=⟨[80,114,111,98,101],false,0,0,0,0,0,0,[vn y],[],[],0⟩
def uU(b:Bk)(y:Cn):Bool:=!decide (pr (zm y)-1>200)&&bE b.aj true 1 [vn y]
variable{b:Bk}
theorem Ydj{y:Cn}(h:uU b y=true):fH b.aj true y=true:=by
 simp only[uU,bE,bY,AI]at h;obtain⟨_,_,_,h,_⟩:=h;rw[yz,aI (show (vn y).op=8 from rfl)]at h;simp only[AI]at h;exact h.2.2.2.2.2.1
@[reducible] def Lx(y:Cn):List aa:=[aO 8,aO 0,aO 0,iv 0,aO 0,.al,.str [],aO y.op,aO y.who,.str y.name,.aW false false 4 (y.aC.map dd),.aW false false 5 (y.kids.map gg),.al,.al]
theorem XeB{h0:Hp}{rd:List Nat}(y:Cn):bd h0 rd (Lx y) (bq (vn y)):=by
 rw[Qr];exact .cons (aA.ro rfl) <| .cons (aA.ro rfl) <| .cons (aA.ro rfl) <| .cons (aA.ro rfl) <| .cons (aA.ro rfl) <| .cons (aA.nl 4) <| .cons (aA.ro rfl) <| .cons (aA.ro rfl) <| .cons (aA.ro rfl) <| .cons (aA.ro rfl) <|
  .cons (aA.ro rfl) <| .cons (aA.ro rfl) <| .cons (aA.nl 14) <| .cons (aA.nl 14) .nil
theorem QeB{h0:Hp}{rd:List Nat}(y:Cn){b:Nat}(hb:h0 b=some (.rows 14 [Lx y]))(dc:b∈rd):aA h0 rd (.sl b 0 1 true) (gZ [vn y]):=by
 refine aA.dP (y:=.aW true false 14 [bq (vn y)]) (aA.sl hb dc (by simp) rfl (λi row row' e1 e2=>?_)) (λM u d=>d.gp)
 grind [XeB]
theorem Zd7{y:Cn}(h:cK y=true):bF [vn y]=true:=by
 simp[bF,vn,yr,dW,h,c7,D3,c9,zf,B9,DU]
theorem Jr(b:Bk)(hf:ba b=true)(y:Cn)(hy:cK y=true)(eN:(qQ y).length<=1000000):PC 133 [.fo,.aq (gg y) 0,.aq (cq b) 0] (.bool (uU b y)):=by
 have gH:QG b.aj=true:=by
  simp_all [ba]
 have Kf:(pM (zm y)).length<=500000000:=by grind [pM,zm,bz,vn,iG,cw]
 have h124:=c124 (zm y) (Zd7 hy) rfl rfl Kf;have h125:=c125 b.aj gH [vn y] (Zd7 hy);have hwr:-9223372036854775808<=pr (zm y)-1∧pr (zm y)-1<=9223372036854775807:=by rw[IB];omega
 unfold uU;rw[XF];refine Xa hP g133.ok rfl rfl ?_;rw[H3.e];unfold g133;dsimp only;refine Za rfl (Yd (v:=.ak 0 0) rfl rfl (Yd (v:=.aQ) (rd:=[]) (up:=[(0,.box [aO 3,aO 0,aO 0,iv 0,aO 0,.al,.str [],aO 0,aO 0,.str [],.al,.al,.al,.al])]) rfl rfl (Za rfl (GA (Xe ?_)))));refine Zi rfl (Xf (bB rfl) rfl (Zi rfl (Xf (v:=.aQ) (rd:=[]) (up:=[(0,.box [aO 8,aO 0,aO 0,iv 0,aO 0,.al,.str [],aO 0,aO 0,.str [],.al,.al,.al,.al])]) rfl rfl (Zi rfl (Xf (v:=.aQ) (rd:=[]) (up:=[(0,.box (Lx y))]) rfl rfl (Qv (by kernel_rfl) ?_))))));refine Za (ld (row:=Lx y) rfl rfl) (Yd (v:=.sl 1 0 1 true) (rd:=[]) (up:=[(1,.rows 14 [Lx y])]) rfl rfl (Za rfl (Yd (v:=.ak 2 0) rfl rfl ?_)));refine Yd (v:=.aQ) (rd:=[]) (up:=[(2,.box [.str [80,114,111,98,101],.bool false,iv 0,iv 0,iv 0,iv 0,iv 0,iv 0,.sl 1 0 1 true,.al,.al,iv 0])]) rfl rfl (Za (ld (row:=[.str [80,114,111,98,101],.bool false,iv 0,iv 0,iv 0,iv 0,iv 0,iv 0,.sl 1 0 1 true,.al,.al,iv 0]) rfl rfl) (Xu (rd:=[1]) h124 rfl g168.ok.plain (.cons (aA.agg ?_) .nil) rfl ?_))
 ·exact .cons (aA.ro rfl) <| .cons (aA.ro rfl) <| .cons (aA.ro rfl) <| .cons (aA.ro rfl) <| .cons (aA.ro rfl) <| .cons (aA.ro rfl) <| .cons (aA.ro rfl) <| .cons (aA.ro rfl) <| .cons (QeB y rfl (by simp)) <|
   .cons (aA.nl 14) <| .cons (aA.nl 14) <| .cons (aA.ro rfl) .nil
 refine Za (CX ..) ?_;rw[zAY _ hwr];refine ay (Ya (λh=>?_) (λh=>?_))
 ·rw[h];rfl
 rw[h];refine ay ?_;exact GY (rd:=[1]) h125 rfl g180.ok.plain (.cons (aA.ro rfl) (.cons (QeB y rfl (by simp)) .nil)) rfl (Qv (by kernel_rfl) rfl)
theorem c169(b:Bk)(hf:ba b=true)(bW:Yg b.aj)(s:St)(hs:aY 1000000000 s)(hm:aL (bu b).1 b s true=true)(sd tg:Int)(h0:0<=sd)(h1:sd<=1)(hd:Nc b s)(y:Cn)(hy:cK y=true)(eN:(qQ y).length<=1000000) :
  PC 89 [cE b,bZ s,.agg [iv sd,iv tg],.agg (gg y)] (.bp [.bool (uU b y&&dV b s sd tg y),iv (if uU b y=true then 0 else 2)]):=by
 have hz:=pL b hf bW s hs hm sd tg h0 h1 (λc hc=>hd _ c (.inl hc)) true _ D3 (dd D3) 0 (qG _) (No _) rfl rfl;have a0:=c81 b hf bW s hs hm sd tg h0 h1 _ _ _ hz;have h82:=Jr b hf y hy eN;have a1:uU b y=true→PC 132 [.aq (cq b) 0,.aq (aF s) 0,.agg [iv sd,iv tg],.iface 213 (.agg [.aq (gg y) 0])] (.bp [.iface 4 (.bool (dV b s sd tg y)),iv 0]):=λh=>
  T1 b hf bW s hs hm sd tg h0 h1 _ _ _ (c569 b hf bW s hs hm sd tg h0 h1 hd true y hy (Ydj h))
 refine Xa hP g89.ok rfl rfl ?_;rw[H4.e];unfold g89;dsimp only;refine ay ?_;refine Yd (v:=.ak 3 0) (rd:=[]) (up:=[(3,.box (gg y))]) (by rw[XF];rfl) rfl ?_;refine ay ?_;have B0:∀ {σ:List ab} {rd:List Nat},ai σ 0=.box (cq b)→0∈rd→aA (hp σ) rd (.ak 0 0) (.aq (cq b) 0):=λh dc=>aA.box (ZR h) dc (bd.ro rfl);have B1:∀ {σ:List ab} {rd:List Nat},ai σ 1=.box (aF s)→1∈rd→aA (hp σ) rd (.ak 1 0) (.aq (aF s) 0):=λh dc=>aA.box (ZR h) dc (bd.ro rfl);have B3:∀ {σ:List ab} {rd:List Nat},ai σ 3=.box (gg y)→3∈rd→aA (hp σ) rd (.ak 3 0) (.aq (gg y) 0):=λh dc=>aA.box (ZR h) dc (bd.ro (by rw[XF];rfl));refine Xu (rd:=[0,1,4]) a0 rfl kQ (.cons (B0 rfl (by simp)) <| .cons (B1 rfl (by simp)) <| .cons (aA.ro rfl) <| .cons (aA.iface (aA.agg (.cons (aA.box (row:=[aO 0,iv 0,aO 0,.al]) rfl (by simp) ?_) .nil))) .nil) rfl ?_
 ·exact .cons (aA.ro rfl) <| .cons (aA.ro rfl) <| .cons (aA.ro rfl) <| .cons (aA.nl 4) .nil
 refine ay (Xu (rd:=[0,3]) h82 rfl g133.ok.plain (.cons (aA.ro rfl) <| .cons (B3 rfl (by simp)) <| .cons (B0 rfl (by simp)) .nil) rfl ?_);rcases cD (uU b y)with hq|hq
 ·rw[hq];refine ay (Xu (rd:=[0,1,3]) (a1 hq) rfl kQ (.cons (B0 rfl (by simp)) <| .cons (B1 rfl (by simp)) <| .cons (aA.ro rfl) <| .cons (aA.iface (aA.agg (.cons (B3 rfl (by simp)) .nil))) .nil) rfl ?_);exact ay rfl
 ·rw[hq];refine ay rfl
def df(s:St)(sd tg who:Int):Int×Int×Bool:=
 if who=0 then (0,sd,true)else if who=1 then (0,1-sd,true)else if who≠2 then (0,0,false)
 else if tg = -2∨tg = -3 then (0,-2-tg,true)else if 0<tg then (if (aM s tg).2.2=true then (tg,(aM s tg).1,true)else (0,0,false))else (0,0,false)
theorem c170(s:St)(hs:aY 1000000000 s)(sd tg who:Int)(h0:0<=sd)(h1:sd<=1):PC 176 [bZ s,.agg [iv sd,iv tg],aO who] (.bp [iv (df s sd tg who).1,iv (df s sd tg who).2.1,.bool (df s sd tg who).2.2]):=by
 have h71:=c71 s hs tg;refine Xa hP g176.ok rfl rfl ?_;rw[H3.e];unfold g176;dsimp only;refine ay ?_;rw[show decide (sd<0)=false from gB (by omega)];refine Qa (Za rfl (Qa (Za (ld (row:=[iv sd,iv tg]) (v:=iv sd) rfl rfl) (Qa (Za (v:=.bool (decide (sd>1))) rfl ?_)))));rw[show decide (sd>1)=false from gB (by omega)];refine Za rfl (Xe (Qg λk' ek=>?_));have mn:df s sd tg who=(0,0,false)→k' [] [.box (aF s),.box [iv sd,iv tg]]:=by
  simp_all
 clear ek;refine Za (Zt ..) (Ya (λh=>?_) (λh=>?_))
 ·have h:who=0:=by simpa using h
  have e:df s sd tg who=(0,sd,true):=by rw[df,aI h]
  rw[e];exact ay rfl
 have h:who≠0:=by simpa using h
 refine Za (Zt ..) (Ya (λh2=>?_) (λh2=>?_))
 ·have h2:who=1:=by simpa using h2
  have e:df s sd tg who=(0,1-sd,true):=by rw[df,aB h,aI h2]
  rw[e];refine ay ?_;rw[zAY _ (by omega)]
 have h2:who≠1:=by simpa using h2
 refine Za (ZX ..) (Ya (λh3=>?_) (λh3=>?_))
 ·simp_all [df]
 have h3:¬who≠2:=by simpa using h3
 have e0:df s sd tg who=if tg = -2∨tg = -3 then (0,-2-tg,true)else if 0<tg then (if (aM s tg).2.2=true then (tg,(aM s tg).1,true)else (0,0,false))else (0,0,false):=by simp_all [df]
 refine ae ?_;have pick:∀K:aa→Prop,K (.bool (decide (tg = -2∨tg = -3)))→VV.gr (.bool (decide (tg = -2))) false (λk=>VV.rd (Zc 1 [.ak 1 0] [.box (aF s),.box [iv sd,iv tg]]) k) λt39=>
   VV.gr (.bool (decide (tg = -2))) false (λk=>VV.rd (Qe false 1 [t39] [.box (aF s),.box [iv sd,iv tg]]) k) λt40=>
   VV.gr (.bool (decide (tg = -2))) false (λk=>VV.rd (Zn .eql false [t40,(.int .i64 (-3))] [.box (aF s),.box [iv sd,iv tg]]) k) λt41=>
   VV.rd (Yo [.bool (decide (tg = -2)),(.bool true),t41] [.box (aF s),.box [iv sd,iv tg]]) K:=by
  intro K hK;by_cases hq:tg = -2
  ·rw[show decide (tg = -2)=true from eX hq];refine ay ?_;simp_all
  ·rw[show decide (tg = -2)=false from gB hq];refine ae ?_;simp_all
 refine pick _ (Ya (λh4=>?_) (λh4=>?_))
 ·have h4:tg = -2∨tg = -3:=by simpa using h4
  rw[e0,aI h4];refine ay ?_;rw[zAY _ (by omega)]
 have h4:¬(tg = -2∨tg = -3):=by simpa using h4
 rw[aB h4]at e0;refine ay (Ya (λh5=>?_) (λh5=>?_))
 ·have h5:0<tg:=by simpa using h5
  rw[aI h5]at e0;refine ay (a_ h71 g25.ok ?_);unfold gJ;refine ay (Ya (λh6=>?_) (λh6=>?_))
  ·rw[aI h6]at e0;rw[e0];exact ay rfl
  simp_all
 grind
def R5(s:St)(sd tg who:Int):aa:=if (df s sd tg who).2.2=true then (if 0<(df s sd tg who).1 then .iface 245 (.agg [iv (df s sd tg who).1,iv (df s sd tg who).2.1])else .iface 246 (iv (df s sd tg who).2.1))else .dw
variable{sd tg fu:Int}
variable{s:St}
theorem Tj{who:Int}(h01:sd=0∨sd=1)(h:(df s sd tg who).2.2=true):((df s sd tg who).2.1=0∨(df s sd tg who).2.1=1)∧0<=(df s sd tg who).1:=by
 grind [df,aM]
def o9(op:Int)(b:Bk)(s:St)(id k n:Int):St×Ev×Int:=if op=1 then jK s id k n else jF b s id k n
def f_(b:Bk)(s:St)(sd tg op who n:Int):Int×St×List Ev:=
 if (df s sd tg who).2.2=true∧0<=n then
  (if (o9 op b s (df s sd tg who).1 (df s sd tg who).2.1 n).2.2=0 then (0,(o9 op b s (df s sd tg who).1 (df s sd tg who).2.1 n).1,[(o9 op b s (df s sd tg who).1 (df s sd tg who).2.1 n).2.1])
  else ((o9 op b s (df s sd tg who).1 (df s sd tg who).2.1 n).2.2,s,[]))
 else (0,s,[])
variable{σ:List ab}
theorem XH{b j n:Nat}{row:List aa}{v:aa}(hb:ai σ b=.box row)(hv:aK true j n row=some v):iA true n (.ak b j) σ=some v:=by
 simp only[iA,hb,hv]
variable{lv:aa}
theorem dg.lift{σ':List ab}(h:dg σ σ' [])(rb:Nat):Fr rb lv lv σ σ':=⟨h.1,λk hk _ _=>h.2 k hk (by simp),λk n e=>.inr ⟨n,e⟩⟩
theorem dg.ke(σ:List ab)(x:ab):dg σ (σ++[x]) []:=dg.app σ [x]
theorem dg.dp{τ:List ab}(h:dg σ τ []){b:Nat}(hb:σ.length<=b)(x:ab):dg σ (τ.set b x) []:=
 ⟨by simpa using h.1,λc hc _=>by rw[Xb x (zAK hc h.1) (by omega),h.2 c hc (by simp)]⟩
theorem dg.j_{τ:List ab}(h:dg σ τ [])(x:ab):dg σ (τ++[x]) []:=by
 have:=h.trans (dg.ke τ x);simpa using this
variable{K:KT}
variable{rb:Nat}
theorem Qej{mv:aa}(hr:ai σ rb=.box (dA b s sd tg lv fu mv))(h01:sd=0∨sd=1)(hs:aY 1000000000 s)(who:Int)(hK:K (R5 s sd tg who) σ):g125.u VV [.ak rb 0,aO who] σ K:=by
 rw[H2.e];unfold g125;dsimp only;refine Za rfl (Za rfl (Za (v:=bZ s) (ld hr rfl) (Za rfl (Za rfl (Za (v:=.agg [iv sd,iv tg]) (ld hr rfl) ?_)))));refine a_ (c170 s hs sd tg who (by omega) (by omega)) g176.ok ?_;unfold R5 at hK;refine ay (Ya (λh=>?_) (λh=>?_))
 ·simp_all
 ·rw[aI (by simpa using h)]at hK;refine Za (Q7 ..) (Ya (λh2=>?_) (λh2=>?_))
  ·rw[aI (by simpa using h2)]at hK;exact Za rfl (Za rfl hK)
  ·rw[aB (by simpa using h2)]at hK;exact Za rfl hK
theorem YdJ{F:FuncId}(hr:ai σ rb=.box (dA b s sd tg lv fu (.func (.func F) [] [])))(id k n:Int){r:St×Ev×Int}(hc:PC F [cE b,bZ s,iv id,iv k,iv n] (eE r))(HB:Zh prog F=true)
 (hK:∀σ',dg σ σ' []→K (eE r) σ'):g280.u VV [.agg [iv id,iv k],.ak rb 0,iv n] σ K:=by
 rw[H3.e];unfold g280;dsimp only;refine Yd (v:=.ak σ.length 0) (rd:=[]) (up:=[(σ.length,.box [iv id,iv k])]) rfl (Ye σ _) ?_;have a1:=dg.ke σ (.box [iv id,iv k]);have r1:=Qb [ab.box [iv id,iv k]] hr;have n1:=Yc σ (.box [iv id,iv k]);have l1:(σ++[ab.box [iv id,iv k]]).length=σ.length+1:=by simp
 generalize σ++[ab.box [iv id,iv k]]=τ1 at *;refine Yd (v:=.ak τ1.length 0) (rd:=[]) (up:=[(τ1.length,.box aT)]) rfl (Ye τ1 _) ?_;have a2:=a1.j_ (.box aT);have r2:=Qb [ab.box aT] r1;have n2:=Qb [ab.box aT] n1;have z2:=Yc τ1 (.box aT);have l2:(τ1++[ab.box aT]).length=τ1.length+1:=by simp
 generalize τ1++[ab.box aT]=τ2 at *;refine Yd (v:=.ak τ2.length 0) (rd:=[]) (up:=[(τ2.length,.box ca)]) rfl (Ye τ2 _) ?_;have a3:=a2.j_ (.box ca);have r3:=Qb [ab.box ca] r2;have n3:=Qb [ab.box ca] n2;have z3:=Qb [ab.box ca] z2;have e3:=Yc τ2 (.box ca);have l3:(τ2++[ab.box ca]).length=τ2.length+1:=by simp
 generalize τ2++[ab.box ca]=τ3 at *;refine Za rfl (Za rfl (Za (v:=.func (.func F) [] []) (ld r3 rfl) (Za rfl (Za rfl (Za (v:=cE b) (ld r3 rfl) (Za rfl (Za rfl (Za (v:=bZ s) (ld r3 rfl) ?_))))))));refine Za rfl (Za (v:=iv id) (ld n3 rfl) (Za rfl (Za (v:=iv k) (ld n3 rfl) ?_)));refine Qo (f:=F) (ys:=[cE b,bZ s,iv id,iv k,iv n]) hc rfl HB rfl ?_;refine ay ?_;refine Xf (c8 z3 rfl rfl rfl) (Ze _ (by omega)) ?_;have e4:=Yb (x:=.box (aF r.1)) e3 (by simp) (c:=τ1.length) (by omega);have s4:ai (τ3.set τ1.length (.box (aF r.1))) τ1.length=.box (aF r.1):=Zd _ (by omega);refine Xf (c8 e4 rfl rfl rfl) (Ze _ (by simp;omega)) (Qv (by rfl) ?_);refine Zp (XH (Yb s4 (by simp) (by omega)) rfl) (Zp (XH (Zd _ (by simp;omega)) rfl) ?_);exact hK _ ((a3.dp (by omega) _).dp (by omega) _)
theorem Qcu{F:FuncId}(hr:ai σ rb=.box (dA b s sd tg lv fu (.func (.func F) [] [])))(k n:Int){r:St×Ev×Int}(hc:PC F [cE b,bZ s,iv 0,iv k,iv n] (eE r))(HB:Zh prog F=true)
 (hK:∀σ',dg σ σ' []→K (eE r) σ'):g281.u VV [iv k,.ak rb 0,iv n] σ K:=by
 rw[H3.e];unfold g281;dsimp only;refine Yd (v:=.ak σ.length 0) (rd:=[]) (up:=[(σ.length,.box aT)]) rfl (Ye σ _) ?_;have a2:=dg.ke σ (.box aT);have r2:=Qb [ab.box aT] hr;have z2:=Yc σ (.box aT);have l2:(σ++[ab.box aT]).length=σ.length+1:=by simp
 generalize σ++[ab.box aT]=τ2 at *;refine Yd (v:=.ak τ2.length 0) (rd:=[]) (up:=[(τ2.length,.box ca)]) rfl (Ye τ2 _) ?_;have a3:=a2.j_ (.box ca);have r3:=Qb [ab.box ca] r2;have z3:=Qb [ab.box ca] z2;have e3:=Yc τ2 (.box ca);have l3:(τ2++[ab.box ca]).length=τ2.length+1:=by simp
 generalize τ2++[ab.box ca]=τ3 at *;refine Za rfl (Za rfl (Za (v:=.func (.func F) [] []) (ld r3 rfl) (Za rfl (Za rfl (Za (v:=cE b) (ld r3 rfl) (Za rfl (Za rfl (Za (v:=bZ s) (ld r3 rfl) ?_))))))));refine Qo (f:=F) (ys:=[cE b,bZ s,iv 0,iv k,iv n]) hc rfl HB rfl ?_;refine ay ?_;refine Xf (c8 z3 rfl rfl rfl) (Ze _ (by omega)) ?_;have e4:=Yb (x:=.box (aF r.1)) e3 (by simp) (c:=σ.length) (by omega);have s4:ai (τ3.set σ.length (.box (aF r.1))) σ.length=.box (aF r.1):=Zd _ (by omega);refine Xf (c8 e4 rfl rfl rfl) (Ze _ (by simp;omega)) (Qv (by rfl) ?_);refine Zp (XH (Yb s4 (by simp) (by omega)) rfl) (Zp (XH (Zd _ (by simp;omega)) rfl) ?_);exact hK _ ((a3.dp (by omega) _).dp (by omega) _)
theorem Qd6{mv:aa}{l:List Ev}(hr:ai σ rb=.box (dA b s sd tg lv fu mv))(hl:LV rb l lv σ)(hn:l.length<=1000000000)(h01:sd=0∨sd=1)
 (hf:ba b=true)(bW:Yg b.aj)(hs:aY 2000000 s)(hm:aL (bu b).1 b s true=true)(x:Ef)(n:Int)(hK:∀v σ',Dn rb b sd tg fu l lv σ (f_ b s sd tg x.op x.who n) v σ'→K v σ'):g82.u VV [.ak rb 0,.agg (bq x),iv n] σ K:=by
 have vj:=Zb hr;have f0:Fr rb lv lv σ (σ++[ab.box (bq x)]):=Fr.app _ (λk n e=>hl.lt e);have r1:=Qb [ab.box (bq x)] hr;have l1:LV rb l lv (σ++[ab.box (bq x)]):=hl.fS (λk hk _=>Yf _ hk);have n1:=Yc σ (.box (bq x));have jI:rb<(σ++[ab.box (bq x)]).length:=by simp;omega
 have cU:σ.length≠rb:=by omega
 have gA:aY 1000000000 s:=⟨by have:=hs.ao;omega,⟨by have:=hs.s0.az;omega,by have:=hs.s0.hand;omega,by have:=hs.s0.an;omega,by have:=hs.s0.af;omega,by have:=hs.s0.told;omega⟩,⟨by have:=hs.s1.az;omega,by have:=hs.s1.hand;omega,by have:=hs.s1.an;omega,by have:=hs.s1.af;omega,by have:=hs.s1.told;omega⟩⟩;rw[H3.e];unfold g82;dsimp only;refine Yd (QN _ _) (Ye σ _) (Za rfl (Za rfl ?_));generalize σ++[ab.box (bq x)]=τ at *;refine Yd (c8 (row':=dA b s sd tg lv fu (.func (.func 123) [] [])) r1 rfl rfl rfl) (Ze _ jI) (Za rfl (Za (ld (Yb n1 (by simp) cU.symm) (gY x)) (Za (Zt ..) (Qg λk' ek=>?_))));have hR:∀(F:FuncId) (υ:List ab),(∀id k n,k=0∨k=1→PC F [cE b,bZ s,iv id,iv k,iv n] (eE (o9 x.op b s id k n)))→Zh prog F=true→Fr rb lv lv σ υ→ai υ rb=.box (dA b s sd tg lv fu (.func (.func F) [] []))→ai υ σ.length=.box (bq x)→LV rb l lv υ→k' [] υ:=by
  intro F υ hc HB sO Lg hnu Pp;subst ek;have stay:f_ b s sd tg x.op x.who n=(0,s,[])→K (iv 0) υ:=λe=>hK _ _ ⟨lv,_,sO,by rw[e];exact Lg,by rw[e],by rw[e];simpa using Pp⟩;refine Za rfl (Za (ld hnu (oE x)) ?_);refine Xd hP (f:=125) rfl g125.ok rfl (Qej Lg h01 gA x.who ?_);have bR:=Tj (s:=s) (tg:=tg) (who:=x.who) h01;unfold R5;have last:∀(id k:Int) (υ2:List ab),df s sd tg x.who=(id,k,true)→0<=n→dg υ υ2 [] →
    VV.rd (Qj 0 [eE (o9 x.op b s id k n)] υ2) λt40=>
    VV.rd (Qj 1 [eE (o9 x.op b s id k n)] υ2) λt41=>
    VV.rd (Qj 2 [eE (o9 x.op b s id k n)] υ2) λt42=>
    VV.wr (Zs aT [] υ2) υ2 λt9 σ=>
    VV.wr (Zs ca [] σ) σ λt10 σ=>
    VV.wr (Zj 23 [t9,t40] σ) σ λ_ σ=>
    VV.wr (Zj 7 [t10,t41] σ) σ λ_ σ=>
    VV.rd (Zn .neq false [t42,(.int .i64 0)] σ) λt44=>
    VV.test t44 (K t42 σ) (
    VV.rd (Qe true 23 [t9] σ) λt47=>
    VV.rd (Ql [.ak rb 0] σ) λt48=>
    VV.rd (Zc 2 [t48] σ) λt49=>
    VV.wr (Zj 23 [t49,t47] σ) σ λ_ σ=>
    VV.rd (Qe true 7 [t10] σ) λt51=>
    VV.call (.call 126) [.ak rb 0,t51] σ λt52 σ=>K (.int .i64 0) σ):=by
   intro id k υ2 hw kS ha;have he:f_ b s sd tg x.op x.who n=if (o9 x.op b s id k n).2.2=0 then (0,(o9 x.op b s id k n).1,[(o9 x.op b s id k n).2.1])else ((o9 x.op b s id k n).2.2,s,[]):=by
    rw[f_,hw,aI ⟨rfl,kS⟩]
   generalize o9 x.op b s id k n=r at *;have Lh:=ha.get Lg;have U_:LV rb l lv υ2:=Pp.fS (λk hk _=>ha.2 k hk (by simp));have UM:Fr rb lv lv σ υ2:=sO.trans (ha.lift rb);refine Za rfl (Za rfl (Za rfl ?_));refine Yd (v:=.ak υ2.length 0) (rd:=[]) (up:=[(υ2.length,.box aT)]) rfl (Ye υ2 _) ?_;have a3:=dg.ke υ2 (.box aT);have z3:=Yc υ2 (.box aT);have l3:(υ2++[ab.box aT]).length=υ2.length+1:=by simp
   generalize υ2++[ab.box aT]=υ3 at *;refine Yd (v:=.ak υ3.length 0) (rd:=[]) (up:=[(υ3.length,.box ca)]) rfl (Ye υ3 _) ?_;have a4:=a3.j_ (.box ca);have z4:=Qb [ab.box ca] z3;have e4:=Yc υ3 (.box ca);have l4:(υ3++[ab.box ca]).length=υ3.length+1:=by simp
   generalize υ3++[ab.box ca]=υ4 at *;refine Yd (c8 z4 rfl rfl rfl) (Ze _ (by omega)) ?_;have a5:=a4.dp (b:=υ2.length) (by omega) (.box (aF r.1));have e5:=Yb (x:=.box (aF r.1)) e4 (by simp) (c:=υ2.length) (by omega);have s5:ai (υ4.set υ2.length (.box (aF r.1))) υ2.length=.box (aF r.1):=Zd _ (by omega);have l5:(υ4.set υ2.length (ab.box (aF r.1))).length=υ4.length:=by simp
   generalize υ4.set υ2.length (ab.box (aF r.1))=υ5 at *;refine Yd (c8 e5 rfl rfl rfl) (Ze _ (by omega)) ?_;have a6:=a5.dp (b:=υ3.length) (by omega) (.box (ck r.2.1));have s6:=Yb (x:=.box (ck r.2.1)) s5 (by simp) (c:=υ3.length) (by omega);have e6:ai (υ5.set υ3.length (.box (ck r.2.1))) υ3.length=.box (ck r.2.1):=Zd _ (by omega);have l6:(υ5.set υ3.length (ab.box (ck r.2.1))).length=υ5.length:=by simp
   generalize υ5.set υ3.length (ab.box (ck r.2.1))=υ6 at *;have Ai:=a6.get Lh;have KX:LV rb l lv υ6:=U_.fS (λk hk _=>a6.2 k hk (by simp));have Kz:Fr rb lv lv σ υ6:=UM.trans (a6.lift rb);have aak:=Zb Lh;refine Za (ZX ..) (Ya (λh=>?_) (λh=>?_))
   ·have h:r.2.2≠0:=by simpa using h
    rw[aB h]at he;exact hK _ _ ⟨lv,_,Kz,by rw[he];exact Ai,by rw[he],by rw[he];simpa using KX⟩
   ·have h:r.2.2=0:=by simpa using h
    rw[aI h]at he;refine Za (v:=bZ r.1) (ld s6 rfl) (Za rfl (Za rfl (Yd (c8 (row':=dA b r.1 sd tg lv fu (.func (.func F) [] [])) Ai rfl rfl rfl) (Ze _ (Zb Ai)) (Za (v:=wB r.2.1) (ld (Yb e6 (by simp) (by omega)) rfl) ?_))));refine Xd hP (f:=126) rfl g126.ok rfl (vB (Zd _ (Zb Ai)) (KX.fS (λk hk gN=>Xb _ hk gN)) hn r.2.1 _ (.inl rfl) (λσ' cJ q1 q2 q3=>?_));exact hK _ _ ⟨cJ,_,(Kz.trans (Fr.set lv _)).trans q1,by rw[he];exact q2,by rw[he],by rw[he];exact q3⟩
  by_cases hq:(df s sd tg x.who).2.2=true
  ·obtain⟨hk,g_⟩:=bR hq;rw[aI hq];have hw:df s sd tg x.who=((df s sd tg x.who).1,(df s sd tg x.who).2.1,true):=by rw[←hq]
   have K2:n<0→f_ b s sd tg x.op x.who n=(0,s,[]):=λh=>by rw[f_,aB (by omega)]
   generalize (df s sd tg x.who).1=id at *;generalize (df s sd tg x.who).2.1=k at *;by_cases hi:0<id
   ·rw[aI hi];refine ay (Ya (λh=>?_) (λh=>?_))
    ·exact stay (K2 (by simpa using h))
    ·have h:¬n<0:=by simpa using h
     exact Xd hP (f:=280) (ys:=[.agg [iv id,iv k],.ak rb 0,iv n]) rfl g280.ok rfl (YdJ Lg id k n (hc id k n hk) HB (λυ2 ha=>last id k υ2 hw (by omega) ha))
   ·rw[aB hi];have:id=0:=by omega
    subst this;refine ay (Ya (λh=>?_) (λh=>?_))
    ·exact stay (K2 (by simpa using h))
    ·have h:¬n<0:=by simpa using h
     exact Xd hP (f:=281) (ys:=[iv k,.ak rb 0,iv n]) rfl g281.ok rfl (Qcu Lg k n (hc 0 k n hk) HB (λυ2 ha=>last 0 k υ2 hw (by omega) ha))
  ·rw[aB hq];refine ay ?_
   grind [f_]
 refine Ya (λh=>?_) (λh=>?_)
 ·have h:x.op=1:=by simpa using h
  have r2:ai (τ.set rb (.box (dA b s sd tg lv fu (.func (.func 123) [] [])))) rb=.box (dA b s sd tg lv fu (.func (.func 123) [] [])):=Zd _ jI;refine Za rfl (Za rfl (Yd (c8 (row':=dA b s sd tg lv fu (.func (.func 124) [] [])) r2 rfl rfl rfl) (Ze _ (by simpa using jI)) ?_));rw[zDB];refine hR _ _ (λid k n hk=>?_) g124.ok.plain (f0.trans (Fr.set lv _)) (Zd _ jI) (Yb n1 (by simp) cU.symm) (l1.fS (λk hk gN=>Xb _ hk gN));rw[o9,aI h];exact c26 b hf bW s hs hm id k n hk
 ·have h:x.op≠1:=by simpa using h
  refine hR _ _ (λid k n hk=>?_) g123.ok.plain (f0.trans (Fr.set lv _)) (Zd _ jI) (Yb n1 (by simp) cU.symm) (l1.fS (λk hk gN=>Xb _ hk gN));rw[o9,aB h];exact c22 b hf bW s hs hm id k n hk
end Go.Ah.Tz
end
section
namespace Go.Ah.Tz
open Go.Proofs.Tryz (prog)
set_option maxRecDepth 100000
section
variable {P:Program} {GL:aw}
theorem QcS{k:MK}{xs:List aa}{σ:List ab}{K K':KT}(h:(W P GL).call k xs σ K)(hK:∀v σ',K v σ'→K' v σ'):(W P GL).call k xs σ K':=by
 obtain⟨R,h1,h2⟩:=h;exact⟨R,h1,λv σ' q=>hK v σ' (h2 v σ' q)⟩
theorem Zeb{k:MK}{xs:List aa}{σ:List ab}{K:KT}(pre:∀ (w0:World) (L:Ln) (g:Gm) (w:World),bx GL w0 L g (hp σ) w→∃ σ2,bx GL w0 L g (hp σ2) w ∧
  (W P GL).call k xs σ2 (λv σ'=>∃ fF,(∀ (w0:World) (L:Ln) (g':Gm) (w':World),bx GL w0 L g' (hp σ') w'→bx GL w0 L g' (hp fF) w')∧K v fF)):(W P GL).call k xs σ K:=by
 refine⟨K,?_,λ_ _ h=>h⟩;intro o os hc w0 L g w a r hx;obtain⟨σ2,r2,R,hR,hK⟩:=pre w0 L g w r;have q:=hR o os hc w0 L g w a r2 hx;generalize (execOp a.eval o).run P w=res at q;cases res with
 |ok nx w'=>
  cases nx with
  |value u=>
   obtain⟨g',x,σ',k0,k1,k2,k3⟩:=q;obtain⟨fF,m1,m2⟩:=hK _ _ k0;exact⟨g',x,fF,m2,k1,m1 _ _ _ _ k2,k3⟩
  |skip=>
   obtain⟨g',σ',k0,k1,k2⟩:=q;obtain⟨fF,m1,m2⟩:=hK _ _ k0;exact⟨g',fF,m2,k1,m1 _ _ _ _ k2⟩
  |enter f args=>
   refine Calls.mono q ?_;rintro e ym ⟨u,he,g',x,σ',k0,k1,k2,k3⟩;obtain⟨fF,m1,m2⟩:=hK _ _ k0;exact⟨u,he,g',x,fF,m2,k1,m1 _ _ _ _ k2,k3⟩
  |_=>exact q.elim
 |_=>exact q.elim
end
end Go.Ah.Tz
namespace Go.Ah
theorem Xd6{σ:List ab}{c:Nat}(x:ab)(h:c<σ.length):hp (σ.set c x)=eo (hp σ) c x:=by
 funext n
 unfold hp eo;rw[List.getElem?_set]
 grind
theorem bx.KF{GL:aw}{w0:World}{L:Ln}{g:Gm}{σ:List ab}{w:World}(r:bx GL w0 L g (hp σ) w){c sz:Nat}{rs:List (List aa)}(hc:ai σ c=.full sz rs)(k:Nat):bx GL w0 L g (hp (σ.set c (.rows sz (rs.take k)))) w:=by
 rw[Xd6 _ (Zb hc)];exact r.Dz (X8 hc (by simp)) k
theorem bx.Ax{GL:aw}{w0:World}{L:Ln}{g:Gm}{σ:List ab}{w:World}(r:bx GL w0 L g (hp σ) w){c sz rb j:Nat}{rs:List (List aa)}{row:List aa}{ex:Bool}(hc:ai σ c=.rows sz rs)(h0:rs≠[])(hr:ai σ rb=.box row)(hj:row[j]?=some (.sl c 0 rs.length ex)) :
  ∃m,bx GL w0 L g (hp (σ.set c (.full sz (rs++zAf m (zAf sz .aQ))))) w:=by
 have hb:=X8 hr (by simp);obtain⟨cb,ec⟩:=r.jy rb _ hb;have hv:cb.cR=false:=by
  cases hv:cb.cR with
  |false=>rfl
  |true=>have:=r.bn rb _ cb hb rfl ec hv;cases this
 obtain⟨_,_,o,_,arr,T,rfl,hs,hd⟩:=r.own rb _ cb hb rfl ec hv;have cc:j<arr.size:=by rw[hs];exact(gE hj).1
 obtain⟨m,hm⟩:=r.D7 (X8 hc (by simp)) h0 rfl (hd j _ arr[j] hj (by simp[cc]));exact⟨m,by rw[Xd6 _ (Zb hc)];exact hm⟩
end Go.Ah
namespace Go.Ah.Tz
open Go.Proofs.Tryz (prog)
attribute [local irreducible] aE.rd aE.pu aE.wr aE.dr aE.gr aE.gw aE.gl aE.gd aE.opt cP W
set_option maxHeartbeats 4000000
theorem Cr{n:Nat}{σ:List ab}{c:Nat}{row:List aa}(hc:ai σ c=.rows n [row]):Zk n σ (.sl c 0 1 true)=some ([row],[c]):=by
 simp only[Zk,hc];simp[cut];rfl
theorem Zdn{σ:List ab}{c len f2:Nat}{rs:List (List aa)}{row:List aa}(hc:ai σ c=.full 7 rs)(h2:ai σ f2=.rows 7 [row])(hr:row.all aa.cell=true)(hle:len+1<=rs.length)(bH:len<=1000000000) :
  Qf 7 72 [.sl c 0 len false,.sl f2 0 1 true] σ=.ok (.sl c 0 (len+1) false) [f2] [(c,.full 7 (over len [row] rs))]:=by
 have:Qf 7 72 [.sl c 0 len false,.sl f2 0 1 true] σ=Bd 7 72 σ c len rs (.sl f2 0 1 true):=by simp[Qf,yA,hc]
 rw[this];unfold Bd;simp only[Cr h2,ZT hr,IS,zAG,IN];rw[show zAR ((2*(len+1)+192)*72) (2 ^ 48)=true from sh (by omega),show zAR (len+1) rs.length=true from sh hle];rfl
theorem Ydn{σ:List ab}{c len f2:Nat}{rs:List (List aa)}{row:List aa}(hc:ai σ c=.full 7 rs)(h2:ai σ f2=.rows 7 [row])(hr:row.all aa.cell=true)(hle:rs.length=len)(bH:len<=1000000000) :
  Qf 7 72 [.sl c 0 len false,.sl f2 0 1 true] σ=.ok (.sl σ.length 0 (len+1) false) [c,f2] [(σ.length,.rows 7 (rs++[row]))]:=by
 have:Qf 7 72 [.sl c 0 len false,.sl f2 0 1 true] σ=Bd 7 72 σ c len rs (.sl f2 0 1 true):=by simp[Qf,yA,hc]
 rw[this];unfold Bd;have hq:zAR (len+1) rs.length=false:=by
  cases h:zAR (len+1) rs.length with
  |false=>rfl
  |true=>have:=iy h;omega
 simp only[Cr h2,ZT hr,IS,zAG,IN,hq];rw[show zAR ((2*(len+1)+192)*72) (2 ^ 48)=true from sh (by omega),show zAR len rs.length=true from sh (by omega),zAv (by omega)];rfl
variable{l:List Ev}
theorem eY.take{rows:List (List aa)}(h:eY rows l)(k:Nat):eY (rows.take k) (l.take k):=by
 induction h with
 |nil=>simp;exact .nil
 |snoc rows l e cv h hc ih=>
  have hl:=h.len;by_cases hk:k<=l.length
  ·rw[zCA (by omega),zCA hk];exact ih
  ·rw[zAv (by simp;omega),zAv (by simp;omega)];exact .snoc _ _ _ _ h hc
def LX(rb:Nat)(l:List Ev)(lv:aa)(cS:List Ev)(iQ:aa)(τ:List ab):Prop:=
 (l=[]∧lv=.al∧LV rb cS iQ τ)∨(l≠[]∧∃ c rows rest,c≠rb∧lv=.sl c 0 l.length false∧ai τ c=.full 7 (rows ++ rest) ∧
  ((iQ=.sl c 0 (l.length + cS.length) false∧eY rows (l ++ cS))∨(eY rows l∧LV rb (l ++ cS) iQ τ∧∀ n,iQ≠.sl c 0 n false)))
variable{lv iQ:aa}
theorem LX.fS{rb:Nat}{cS:List Ev}{σ σ':List ab}(h:LX rb l lv cS iQ σ)(hk:∀k,k<σ.length→k≠rb→ai σ' k=ai σ k):LX rb l lv cS iQ σ':=by
 rcases h with ⟨h1,h2,h3⟩|⟨h0,c,rows,rest,h1,h2,hc,h3⟩
 ·exact .inl ⟨h1,h2,h3.fS hk⟩
 ·refine .inr ⟨h0,c,rows,rest,h1,h2,by rw[hk c (Zb hc) h1];exact hc,?_⟩;rcases h3 with h3|⟨h3,h4,h5⟩
  ·exact .inl h3
  ·exact .inr ⟨h3,h4.fS hk,h5⟩
theorem LX.back{rb:Nat}{cS:List Ev}{σ:List ab}(h:LX rb l lv cS iQ σ):LX rb l lv [] lv σ:=by
 rcases h with ⟨rfl,rfl,h3⟩|⟨h0,c,rows,rest,h1,h2,hc,h3⟩
 ·exact .inl ⟨rfl,rfl,.inl ⟨rfl,rfl⟩⟩
 ·rcases h3 with ⟨_,h3⟩|⟨h3,_⟩
  ·have:=h3.take l.length;rw[zDM]at this;exact .inr ⟨h0,c,rows.take l.length,rows.drop l.length++rest,h1,h2,by rw[←zAb,zCh];exact hc,.inl ⟨by simpa using h2,by simpa using this⟩⟩
  ·exact .inr ⟨h0,c,rows,rest,h1,h2,hc,.inl ⟨by simpa using h2,by simpa using h3⟩⟩
theorem LX.cells{rb:Nat}{cS:List Ev}{σ:List ab}(h:LX rb l lv cS iQ σ):cellsOf lv=some [lv]:=by
 rcases h with ⟨_,rfl,_⟩|⟨_,c,rows,rest,_,rfl,_⟩<;>rfl
theorem LX.tG{rb:Nat}{cS:List Ev}{σ:List ab}(h:LX rb l lv cS iQ σ){k:Nat}{row:List aa}(hk:ai σ k=.box row)(n:Nat):iQ≠.sl k 0 n false:=by
 rcases h with ⟨_,_,h⟩|⟨_,c,rows,rest,_,_,hc,⟨h,_⟩|⟨_,h,_⟩⟩
 ·rcases h with ⟨_,h⟩|⟨_,c,rows,_,h,hc,_⟩<;>grind
 ·grind
 ·rcases h with ⟨_,h⟩|⟨_,c,rows,_,h,hc,_⟩<;>grind
theorem Mf{σ:List ab}{rb:Nat}{b:Bk}{s:St}{sd tg fu:Int}{mv:aa}{cS:List Ev}(hr:ai σ rb=.box (dA b s sd tg iQ fu mv))(hl:LX rb l lv cS iQ σ)(hn:(l++cS).length<=1000000000)(e:Ev)(cv:aa)(nI:vN cv e.aj){K:KT}
 (hK:∀σ' cJ,Fr rb iQ cJ σ σ'→ai σ' rb=.box (dA b s sd tg cJ fu mv)→LX rb l lv (cS++[e]) cJ σ'→K (.bp []) σ'):g126.u VV [.ak rb 0,.agg (cp e cv)] σ K:=by
 rcases hl with ⟨rfl,rfl,hl⟩|⟨h0,c,rows,rest,pC,rfl,hc,⟨rfl,hR⟩|⟨hR,hl,cU⟩⟩
 ·exact vB hr hl (by simpa using hn) e cv nI λσ' cJ p1 p2 p3=>hK σ' cJ p1 p2 (.inl ⟨rfl,rfl,p3⟩)
 rotate_left
 ·refine vB hr hl hn e cv nI λσ' cJ p1 p2 p3=>hK σ' cJ p1 p2 (.inr ⟨h0,c,rows,rest,pC,rfl,by rw[p1.bU c (Zb hc) pC cU];exact hc,.inr ⟨hR,by simpa using p3,λn q=>?_⟩⟩);rcases p1.new c n q with q|⟨m,q⟩
  ·have:=Zb hc;omega
  ·exact cU m q
 have vj:=Zb hr;have kR:(cp e cv).all aa.cell=true:=by rcases nI with rfl|⟨rfl,_⟩<;>rfl
 have hlen:=hR.len;rw[By]at hlen hn;rw[H2.e];unfold g126;dsimp only;generalize hX:cp e cv=X at *;have r1:=Qb [.box (cp e cv)] hr;have r2:=Qb [.rows 7 [cp e cv]] r1;have f1:=Yc σ (.box (cp e cv));have f2:=Yc (σ++[.box (cp e cv)]) (.rows 7 [cp e cv]);subst hX;refine Yd (Zd5 (e:=e) nI _) (Ye σ _) (Zi rfl (Zi rfl (Xf (ld r1 rfl) (Zg _) (Xf (ld f1 (show aK true 0 7 (cp e cv)=some (.agg (cp e cv)) from rfl)) (Zg _) (Xf (N8 (e:=e) nI _) (Ye _ _) ?_)))));have o7:(σ++[ab.box (cp e cv)]).length=σ.length+1:=by simp
 have kD:(σ++[ab.box (cp e cv)]++[ab.rows 7 [cp e cv]]).length=σ.length+2:=by simp
 have u9:=Zb hc;have c2:=Qb [.rows 7 [cp e cv]] (Qb [.box (cp e cv)] hc (by simp));have uw:c<(σ++[ab.box (cp e cv)]++[ab.rows 7 [cp e cv]]).length:=by rw[kD];omega
 have Pv:rb≠σ.length+1:=by omega
 have xt:c≠σ.length+1:=by omega
 cases rest with
 |cons x rest=>
  have yO:over (l.length+cS.length) [cp e cv] (rows++x::rest)=(rows++[cp e cv])++rest:=by
   unfold over;rw[zCA (by omega),zAv (by omega),List.drop_append,List.drop_of_length_le (by simp;omega)];simp[←hlen]
  refine Xf (Zdn c2 f2 kR (by simp;omega) hn) (Ze _ uw) (Zi rfl (Zi rfl ?_));rw[yO];have r3:=Yb (x:=.full 7 ((rows++[cp e cv])++rest)) r2 (by simp) pC;have oQ:=Zb r3;refine Xf (c8 r3 rfl rfl rfl) (Ze _ oQ) (Qv (by simp[Qi,Xm,Xn,Yv,cf,dS,zAB,zAd,Pv,Pv.symm,xt,xt.symm,pC,pC.symm]) ?_);refine hK _ (.sl c 0 (l.length+cS.length+1) false) ⟨by simp,λk hk gN Ab=>?_,λk n h=>.inr ?_⟩ ?_ (.inr ⟨h0,c,rows++[cp e cv],rest,pC,rfl,?_,.inl ⟨by simp[zBR],by rw[←zAb];exact eY.snoc _ _ _ _ hR nI⟩⟩)
  ·have DD:k≠c:=λq=>Ab _ (by rw[q]);rw[Xb _ (by simp;omega) gN,Xb _ (by simp;omega) DD,Yf _ (by simp;omega),Yf _ hk]
  ·cases h;exact⟨_,rfl⟩
  ·exact Yq (zAe oQ)
  ·rw[Xb _ (by simp;omega) pC];exact Zd _ uw
 |nil=>
  rw[zBE]at hc c2;refine Xf (Ydn c2 f2 kR hlen hn) (Ye _ _) (Zi rfl (Zi rfl ?_));have r3:=Qb [.rows 7 (rows++[cp e cv])] r2;have c3:=Qb [.rows 7 (rows++[cp e cv])] c2;have d3:=Yc (σ++[ab.box (cp e cv)]++[ab.rows 7 [cp e cv]]) (.rows 7 (rows++[cp e cv]));have oQ:=Zb r3;refine Xf (c8 r3 rfl rfl rfl) (Ze _ oQ) (Qv (by simp[Qi,Xm,Xn,Yv,cf,dS,zAB,zAd,Pv,Pv.symm,xt,xt.symm,pC,pC.symm]) ?_);refine hK _ (.sl (σ++[ab.box (cp e cv)]++[ab.rows 7 [cp e cv]]).length 0 (l.length+cS.length+1) false) ⟨by simp,λk hk gN _=>?_,λk n h=>.inl ?_⟩ ?_ (.inr ⟨h0,c,rows.take l.length,rows.drop l.length,pC,rfl,?_,.inr ⟨?_,.inr ⟨by simp,(σ++[ab.box (cp e cv)]++[ab.rows 7 [cp e cv]]).length,rows++[cp e cv],by rw[kD];omega,by simp[zBR],?_,by rw[←zAb];exact eY.snoc _ _ _ _ hR nI⟩,λn q=>?_⟩⟩)
  ·rw[Xb _ (by simp;omega) gN,Yf _ (by simp;omega),Yf _ (by simp;omega),Yf _ hk]
  ·cases h;rw[kD];omega
  ·exact Yq (zAe oQ)
  ·rw[zCh,Xb _ (by simp;omega) pC];exact c3
  ·have:=hR.take l.length;rwa [zDM]at this
  ·rw[Xb _ (by simp) (by rw[kD];omega)];exact d3
  ·cases q;omega
theorem Yer{k:MK}{xs:List aa}{σ:List ab}{rb:Nat}{b:Bk}{s:St}{sd tg fu:Int}{mv:aa}(hr:ai σ rb=.box (dA b s sd tg lv fu mv))(hl:LV rb l lv σ){K:KT}
 (h:∀ τ,ai τ rb=.box (dA b s sd tg lv fu mv)→LX rb l lv [] lv τ→(∀ cJ υ,Fr rb lv cJ τ υ→Fr rb lv cJ σ υ) →
   VV.call k xs τ (λv σ'=>∃ cS cJ lP s' pB,Fr rb lv cJ σ σ'∧ai σ' rb=.box (dA b s' sd tg cJ pB lP)∧LX rb l lv cS cJ σ'∧(∀ fF,Fr rb lv cJ σ fF→ai fF rb=.box (dA b s' sd tg cJ pB lP)→LV rb (l ++ cS) cJ fF→K v fF))):VV.call k xs σ K:=by
 have done:∀(σ':List ab) (cS:List Ev) (cJ lP:aa) (s':St) (pB:Int) (v:aa),Fr rb lv cJ σ σ'→ai σ' rb=.box (dA b s' sd tg cJ pB lP)→LX rb l lv cS cJ σ'→(∀fF,Fr rb lv cJ σ fF→ai fF rb=.box (dA b s' sd tg cJ pB lP)→LV rb (l++cS) cJ fF→K v fF) →
   ∃fF,(∀(w0:World) (L:Ln) (g':Gm) (w':World),bx aG w0 L g' (hp σ') w'→bx aG w0 L g' (hp fF) w')∧K v fF:=by
  intro σ' cS cJ lP s' pB v hf j4 hx hK;rcases hx with ⟨rfl,rfl,h3⟩|⟨h0,c,rows,rest,pC,h2,hc,h3⟩
  ·exact⟨σ',λ_ _ _ _ r=>r,hK _ hf j4 h3⟩
  ·have u9:=Zb hc;have hrn:=Yb (x:=.rows 7 ((rows++rest).take rows.length)) j4 (by simp) pC;refine⟨σ'.set c (.rows 7 ((rows++rest).take rows.length)),λw0 L g' w' r=>r.KF hc _,hK _ ⟨by simpa using hf.len,λk hk gN Ab=>?_,hf.new⟩ hrn ?_⟩
   ·have:k≠c:=λq=>Ab l.length (by rw[h2,q]);have hlk:=hf.len;rw[Xb _ (by omega) this];exact hf.bU k hk gN Ab
   ·rcases h3 with ⟨h3,hR⟩|⟨hR,h3,h4⟩
    ·refine .inr ⟨by simp[h0],c,rows,pC,by rw[h3];simp,?_,hR⟩;rw[Zd _ u9,zDM]
    ·rcases h3 with h3|⟨q0,d,rs,q1,q2,q3,q4⟩
     ·exact .inl h3
     ·refine .inr ⟨q0,d,rs,q1,q2,?_,q4⟩;have:d≠c:=λq=>h4 (l++cS).length (by rw[q2,q]);rw[Xb _ (Zb q3) this];exact q3
 have post:∀τ,VV.call k xs τ (λv σ'=>∃cS cJ lP s' pB,Fr rb lv cJ σ σ'∧ai σ' rb=.box (dA b s' sd tg cJ pB lP)∧LX rb l lv cS cJ σ'∧(∀fF,Fr rb lv cJ σ fF→ai fF rb=.box (dA b s' sd tg cJ pB lP)→LV rb (l++cS) cJ fF→K v fF)) →
   VV.call k xs τ (λv σ'=>∃fF,(∀(w0:World) (L:Ln) (g':Gm) (w':World),bx aG w0 L g' (hp σ') w'→bx aG w0 L g' (hp fF) w')∧K v fF):=by
  intro τ hw;refine QcS hw λv σ' q=>?_;obtain⟨cS,cJ,lP,s',pB,a1,a2,a3,a4⟩:=q;exact done σ' cS cJ lP s' pB v a1 a2 a3 a4
 refine Zeb λw0 L g w r=>?_;rcases hl with ⟨rfl,rfl⟩|⟨h0,c,rows,pC,rfl,hc,hR⟩
 ·exact⟨σ,r,post _ (h σ hr (.inl ⟨rfl,rfl,.inl ⟨rfl,rfl⟩⟩) λ_ _ q=>q)⟩
 ·have hlen:=hR.len;have kS:rows≠[]:=by intro q;rw[q]at hlen;exact h0 (zAc.1 (by simpa using hlen.symm))
  obtain⟨m,hm⟩:=r.Ax (j:=27) (ex:=false) hc kS hr (by rw[hlen];rfl);have u9:=Zb hc;refine⟨_,hm,post _ (h _ (Yb hr (by simp) pC) (.inr ⟨h0,c,rows,_,pC,rfl,Zd _ u9,.inl ⟨by simp,by simpa using hR⟩⟩) λcJ υ q=>⟨by simpa using q.len,λk hk gN Ab=>?_,by simpa using q.new⟩)⟩;have:k≠c:=λq=>Ab l.length (by rw[q]);rw[q.bU k (by simpa using hk) gN Ab,Xb _ hk this]
end Go.Ah.Tz
end
section
namespace Go.Ah.Tz
open Go.Proofs.Tryz (prog)
set_option maxRecDepth 100000
structure cL (b:Bk) (N C:Nat) (s:St):Prop where
 may:du b s
 told:TB N s
 aj:Zm s<=C
variable{s:St}
variable{b:Bk}
theorem Xej(h:du b s):aY 2000000 s:=by
 obtain⟨hd,h0,h1,_,ha⟩:=h;have side:∀x:Sd,gm b x→lz 2000000 x:=by
  intro x k;have k1:=(Yh.1 k.az).1;have k2:=(Yh.1 k.hand).1;have k3:=(Yh.1 k.an).1;have k4:=(Yh.1 k.told).1;have k5:=k.af;exact⟨by omega,by omega,by omega,by omega,by omega⟩
 refine⟨?_,side _ h0,side _ h1⟩;by_cases hp:s.phase=1
 ·have:=(ha.2 hp).2.1;omega
 ·rw[ha.1 hp];simp
variable{N C rb:Nat}
theorem cL.le(h:cL b N C s):aY 2000000 s:=Xej h.may
theorem cL.qA(h:cL b N C s):aY 1000000000 s:=by
 have hs:=h.le;exact⟨by have:=hs.ao;omega,⟨by have:=hs.s0.az;omega,by have:=hs.s0.hand;omega,by have:=hs.s0.an;omega,by have:=hs.s0.af;omega,by have:=hs.s0.told;omega⟩,⟨by have:=hs.s1.az;omega,by have:=hs.s1.hand;omega,by have:=hs.s1.an;omega,by have:=hs.s1.af;omega,by have:=hs.s1.told;omega⟩⟩
theorem cL.mono{N' C':Nat}(h:cL b N C s)(h1:N<=N')(h2:C<=C'):cL b N' C' s:=⟨h.may,⟨zAX h.told.1 h1,zAX h.told.2 h1⟩,by have:=h.aj;omega⟩
variable{k sd tg fu most i d:Int}
theorem cL.draw(h:cL b N C s)(hN:N<1000000)(hC:C<1000000)(h01:k=0∨k=1)(e:(aH s k).2.2=0):cL b (N+1) C (aH s k).1:=by
 obtain⟨hM,⟨t0,t1⟩,hc⟩:=h;have hg:s.s0.an.length<1000000∧s.s1.an.length<1000000:=by unfold Zm at hc;omega
 rcases h01 with rfl|rfl
 ·obtain⟨k1,k2⟩:=Ycr hM e hg.1 (by omega) (by omega);refine⟨k1,?_,by rw[k2];exact hc⟩;rcases Ybj s e with ⟨_,q⟩|⟨c,l,_,q⟩|⟨c,l,_,_,q⟩<;>rw[q]<;>refine⟨?_,?_⟩<;>simp<;>omega
 ·obtain⟨k1,k2⟩:=Xcr hM e hg.2 (by omega) (by omega);refine⟨k1,?_,by rw[k2];exact hc⟩;rcases Xbj s e with ⟨_,q⟩|⟨c,l,_,q⟩|⟨c,l,_,_,q⟩<;>rw[q]<;>refine⟨?_,?_⟩<;>simp<;>omega
def Xr(k:Int):Nat→St→Int×St×List Ev
 |0,s=>(0,s,[])
 |j+1,s=>if (aH s k).2.2=0 then ((Xr k j (aH s k).1).1,(Xr k j (aH s k).1).2.1,(aH s k).2.1::(Xr k j (aH s k).1).2.2)else ((aH s k).2.2,s,[])
def ji(s:St)(k n:Int):Int×St×List Ev:=
 if (Xr k (min (max n 0) 60).toNat s).1=0 then Xr k (min (max n 0) 60).toNat s else ((Xr k (min (max n 0) 60).toNat s).1,s,[])
theorem Xb6(hC:C<1000000)(h01:k=0∨k=1):∀(j:Nat) {N:Nat} {s:St},cL b N C s→N+j<=1000000→cL b (N+j) C (Xr k j s).2.1
 |0,N,s,h,_=>h
 |j+1,N,s,h,hN=>by
  unfold Xr;split
  ·rename_i e;have:=Xb6 hC h01 j (h.draw (by omega) hC h01 e) (by omega)
   grind
  ·exact h.mono (by omega) (No _)
variable{row:List aa}
variable{l:List Ev}
variable{lv cJ:aa}
variable{σ τ:List ab}
theorem LV.tG(h:LV rb l lv σ){k:Nat}(hk:ai σ k=.box row)(n:Nat):lv≠.sl k 0 n false:=by
 rcases h with ⟨_,h⟩|⟨_,c,rows,_,h,hc,_⟩<;>grind
theorem Fr.back(h:Fr rb lv cJ σ τ):Fr rb lv lv σ τ:=⟨h.len,h.bU,λk n e=>.inr ⟨n,e⟩⟩
theorem Fr.get(h:Fr rb lv cJ σ τ)(hl:LV rb l lv σ){k:Nat}(hk:ai σ k=.box row)(hr:k≠rb):ai τ k=.box row:=by
 rw[h.bU k (Zb hk) hr (hl.tG hk)];exact hk
def YY(b:Bk)(s:St)(sd:Int)(name:Tx):Int×St×List Ev:=
 if Y2 b s sd (gf 0 b.aj name).1=true then (0,s,[])else (0,XB s sd (gf 0 b.aj name).1,[⟨2,sd,(gf 0 b.aj name).1,s.next,0,0,[]⟩])
theorem cL.D8(h:cL b N C s)(h01:sd=0∨sd=1)(name:Tx):cL b N (C+1) (YY b s sd name).2.1:=by
 unfold YY;split
 ·exact h.mono (No _) (by omega)
 ·rename_i e;obtain⟨hM,ht,hc⟩:=h;rcases h01 with rfl|rfl
  ·obtain⟨k1,k2⟩:=Qb7 hM (by simpa using e);exact⟨k1,ht,by rw[k2];omega⟩
  ·obtain⟨k1,k2⟩:=Zb8 hM (by simpa using e);exact⟨k1,ht,by rw[k2];omega⟩
attribute [local irreducible] aE.rd aE.pu aE.wr aE.dr aE.gr aE.gw aE.gl aE.gd aE.opt cP W
set_option maxHeartbeats 4000000
variable{rd:List Nat}
variable{h0:Hp}
theorem aA.aQ{x:aa}:aA h0 rd x .aQ:=λ_ _ _ _ _ _ _ _ _ _ v _=>.aQ _ v
theorem bd.tL{zs ws:List aa}(h:bd h0 rd zs ws):∀ {l:List aa},gh l=true→bd h0 rd (l++zs) (l++ws)
 |[],_=>h
 |x::l,hl=>by
  simp_all [bd.cons,aA.ro,bd.tL]
theorem c404(b:Bk)(s:St)(sd tg fu who:Int)(h01:sd=0∨sd=1):PC 127 [.aq (dA b s sd tg .aQ fu .aQ) 0,aO who] (iv (bJ sd who)):=by
 refine Xa hP g127.ok rfl rfl ?_;rw[H2.e];unfold g127;dsimp only;refine Za (Zt ..) (Ya (λh=>?_) (λh=>?_))
 ·have h:who=1:=by simpa using h
  refine ax ?_;rw[zAY _ (by omega),bJ,aI h]
 ·have h:who≠1:=by simpa using h
  refine ax ?_;rw[bJ,aB h]
theorem Xel{mv:aa}(hr:ai σ rb=.box (dA b s sd tg lv fu mv))(who:Int):bd (hp σ) [rb] [.ak rb 0,aO who] [.aq (dA b s sd tg .aQ fu .aQ) 0,aO who]:=by
 refine .cons (aA.box (ZR hr) (by simp) ?_) (.cons (aA.ro rfl) .nil);refine bd.tL (l:=cq b) (bd.tL (l:=aF s) ?_ rfl) rfl;exact .cons (aA.ro rfl) <| .cons (aA.ro rfl) <| .cons aA.aQ <| .cons (aA.ro rfl) <| .cons aA.aQ .nil
theorem Fr.J5{iQ:aa}{cS:List Ev}(h:Fr rb iQ cJ σ τ)(hl:LX rb l lv cS iQ σ){k:Nat}(hk:ai σ k=.box row)(hr:k≠rb):ai τ k=.box row:=by
 rw[h.bU k (Zb hk) hr (hl.tG hk)];exact hk
variable{K:KT}
theorem Yev{mv:aa}(hr:ai σ rb=.box (dA b s sd tg lv fu mv))(hl:LX rb l lv [] lv σ)(hn:l.length+60<=1000000000)(h01:sd=0∨sd=1)
 (hf:ba b=true)(bW:Yg b.aj)(cI:(bu b).1=0)(bR:cL b N C s)(hN:N+60<=1000000)(hC:C<1000000)(x:Ef)(n:Int)(hK:∀v σ' cJ lP,Fr rb lv cJ σ σ'→ai σ' rb=.box (dA b (ji s (bJ sd x.who) n).2.1 sd tg cJ fu lP)→v=iv (ji s (bJ sd x.who) n).1→LX rb l lv (ji s (bJ sd x.who) n).2.2 cJ σ'→K v σ'):g83.u VV [.ak rb 0,.agg (bq x),iv n] σ K:=by
 have vj:=Zb hr;have a0:=dg.ke σ (.box (bq x));have r0:=Qb [ab.box (bq x)] hr;have n0:=Yc σ (.box (bq x));have LK:(σ++[ab.box (bq x)]).length=σ.length+1:=by simp
 have cU:σ.length≠rb:=by omega
 rw[H3.e];unfold g83;dsimp only;refine Yd (QN _ _) (Ye σ _) ?_;generalize σ++[ab.box (bq x)]=τ0 at *;refine Zi rfl (Zi rfl (Xf (v:=bZ s) (ld r0 rfl) (Zg _) (Zi rfl (Zi rfl (Xf (v:=lv) (ld r0 rfl) (Zg _) ?_)))));refine Xf (v:=.ak τ0.length 0) (rd:=[]) (up:=[(τ0.length,.box aT)]) rfl (Ye τ0 _) ?_;have a1:=a0.j_ (.box aT);have r1:=Qb [ab.box aT] r0;have n1:=Qb [ab.box aT] n0;have z1:=Yc τ0 (.box aT);have o7:(τ0++[ab.box aT]).length=τ0.length+1:=by simp
 generalize τ0++[ab.box aT]=τ1 at *;have K3:τ0.length≠rb:=by omega
 refine Xf (c8 z1 rfl rfl rfl) (Ze _ (by omega)) (Qv (by simp[Qi,Xm,Xn,Yv,cf,dS,zAB,zAd,K3,K3.symm]) ?_);have a2:=a1.dp (b:=τ0.length) (by omega) (.box (aF s));have r2:=Yb (x:=.box (aF s)) r1 (by simp) K3;have n2:=Yb (x:=.box (aF s)) n1 (by simp) (c:=τ0.length) (by omega);have s2:ai (τ1.set τ0.length (.box (aF s))) τ0.length=.box (aF s):=Zd _ (by omega);have kD:(τ1.set τ0.length (ab.box (aF s))).length=τ1.length:=by simp
 generalize τ1.set τ0.length (ab.box (aF s))=τ2 at *;obtain⟨j,hj,aaw,rQ⟩:∃j:Nat,min (max n 0) 60=j∧j<=60∧(min (max n 0) 60).toNat=j:=⟨(min (max n 0) 60).toNat,by omega,by omega,rfl⟩;refine ay ?_;rw[hj];unfold ji at hK;rw[rQ]at hK;have hk:=GU h01 x.who;generalize wY:bJ sd x.who=k at *;have dO:LX rb l lv [] lv τ2:=hl.fS (λk hk _=>a2.2 k hk (by simp));refine Xg (ι:=Nat) (λi vs τ=>∃t cS iQ,vs=[iv i]∧i<=j∧Xr k j s=((Xr k (j-i) t).1,(Xr k (j-i) t).2.1,cS++(Xr k (j-i) t).2.2)∧cS.length=i∧cL b (N+i) C t∧Fr rb lv iQ σ τ∧ai τ rb=.box (dA b t sd tg iQ fu mv)∧LX rb l lv cS iQ τ∧ai τ τ0.length=.box (aF s)∧ai τ σ.length=.box (bq x))
  (λi=>j-i) 0 ⟨s,[],lv,rfl,by omega,rfl,rfl,bR,a2.lift rb,r2,dO,s2,n2⟩ ?_
 rintro i vs τ again ⟨t,cS,iQ,rfl,hi,rO,fk,ht,sO,yQ,cc,ic,DN⟩ bj;have Vu:=Zb yQ;have aaE:=Zb ic;have aaB:=Zb DN;refine Za rfl (Ya (λh=>?_) (λh=>?_))
 ·have h:i<j:=by simpa using h
  refine Zi rfl (Zi rfl (Xf (v:=cE b) (ld yQ rfl) (Zg _) (Zi rfl (Zi rfl (Xf (v:=bZ t) (ld yQ rfl) (Zg _) (Zi rfl (Xf (ld DN (oE x)) (Zg _) ?_)))))));refine GY (rd:=[rb]) (c404 b t sd tg fu x.who h01) rfl g127.ok.plain (Xel yQ x.who) rfl ?_;rw[wY];have c43:PC 36 [cE b,bZ t,iv k] (eE (aH t k)):=by
   rcases hk with rfl|rfl
   ·exact Js b hf bW t ht.le (Xo.2 ⟨cI,ht.may⟩)
   ·exact Jt b hf bW t ht.le (Xo.2 ⟨cI,ht.may⟩)
  refine i_ c43 g36.ok (Zi rfl (Zi rfl (Zi rfl ?_)));refine Xf (v:=.ak τ.length 0) (rd:=[]) (up:=[(τ.length,.box aT)]) rfl (Ye τ _) ?_;have b1:=dg.ke τ (.box aT);have z3:=Yc τ (.box aT);have DX:(τ++[ab.box aT]).length=τ.length+1:=by simp
  generalize τ++[ab.box aT]=τ3 at *;refine Xf (v:=.ak τ3.length 0) (rd:=[]) (up:=[(τ3.length,.box ca)]) rfl (Ye τ3 _) ?_;have b2:=b1.j_ (.box ca);have z4:=Qb [ab.box ca] z3;have e4:=Yc τ3 (.box ca);have DY:(τ3++[ab.box ca]).length=τ3.length+1:=by simp
  generalize τ3++[ab.box ca]=τ4 at *;refine Xf (c8 z4 rfl rfl rfl) (Ze _ (by omega)) ?_;have b3:=b2.dp (b:=τ.length) (by omega) (.box (aF (aH t k).1));have s5:ai (τ4.set τ.length (.box (aF (aH t k).1))) τ.length=.box (aF (aH t k).1):=Zd _ (by omega);have e5:=Yb (x:=.box (aF (aH t k).1)) e4 (by simp) (c:=τ.length) (by omega);have V1:(τ4.set τ.length (ab.box (aF (aH t k).1))).length=τ4.length:=by simp
  generalize τ4.set τ.length (ab.box (aF (aH t k).1))=τ5 at *;refine Xf (c8 e5 rfl rfl rfl) (Ze _ (by omega)) ?_;have b4:=b3.dp (b:=τ3.length) (by omega) (.box (ck (aH t k).2.1));have s6:=Yb (x:=.box (ck (aH t k).2.1)) s5 (by simp) (c:=τ3.length) (by omega);have e6:ai (τ5.set τ3.length (.box (ck (aH t k).2.1))) τ3.length=.box (ck (aH t k).2.1):=Zd _ (by omega);have V2:(τ5.set τ3.length (ab.box (ck (aH t k).2.1))).length=τ5.length:=by simp
  generalize τ5.set τ3.length (ab.box (ck (aH t k).2.1))=τ6 at *;have q1:τ.length≠rb:=by omega
  have q2:τ3.length≠rb:=by omega
  have q3:τ.length≠σ.length:=by omega
  have q4:τ3.length≠σ.length:=by omega
  have q5:τ3.length≠τ.length:=by omega
  refine Qv (by simp[Qi,Xm,Xn,Yv,cf,dS,zAB,zAd,q1,q2,q3,q4,q5,q1.symm,q2.symm,q3.symm,q4.symm,q5.symm]) ?_;have r6:=b4.get yQ;have Wu:=b4.get ic;have nt6:=b4.get DN;have l6:LX rb l lv cS iQ τ6:=cc.fS (λk hk _=>b4.2 k hk (by simp));have f6:Fr rb lv iQ σ τ6:=sO.trans (b4.lift rb);have qu:=Zb r6;have hd:Xr k (j-i) t=if (aH t k).2.2=0 then ((Xr k (j-(i+1)) (aH t k).1).1,(Xr k (j-(i+1)) (aH t k).1).2.1,(aH t k).2.1::(Xr k (j-(i+1)) (aH t k).1).2.2)else ((aH t k).2.2,t,[]):=by
   rw[show j-i=(j-(i+1))+1 from by omega];rfl
  refine Za (ZX ..) (Ya (λh2=>?_) (λh2=>?_))
  ·have h2:(aH t k).2.2≠0:=by simpa using h2
   rw[aB h2]at hd;have tq:(Xr k j s).1=(aH t k).2.2:=by rw[rO,hd]
   refine Za (v:=bZ s) (ld Wu rfl) (Za rfl (Za rfl (Yd (c8 (row':=dA b s sd tg iQ fu mv) r6 rfl rfl rfl) (Ze _ qu) (Za rfl (Za rfl ?_)))));have r7:ai (τ6.set rb (.box (dA b s sd tg iQ fu mv))) rb=.box (dA b s sd tg iQ fu mv):=Zd _ qu;have gH:=hl.cells;refine Yd (c8 (row':=dA b s sd tg lv fu mv) r7 gH rfl rfl) (Ze _ (by simpa using qu)) ?_;rw[zDB];exact hK _ _ lv mv ((f6.back).trans (Fr.set lv _)) (by rw[tq,aB h2];exact Zd _ qu) (by rw[tq,aB h2]) (by rw[tq,aB h2];exact(l6.fS (λk hk gN=>Xb _ hk gN)).back)
  ·have h2:(aH t k).2.2=0:=by simpa using h2
   rw[aI h2]at hd;refine Za (v:=bZ (aH t k).1) (ld s6 rfl) (Za rfl (Za rfl (Yd (c8 (row':=dA b (aH t k).1 sd tg iQ fu mv) r6 rfl rfl rfl) (Ze _ qu) (Za (v:=wB (aH t k).2.1) (ld (Yb e6 (by simp) (by omega)) rfl) ?_))));refine Xd hP (f:=126) rfl g126.ok rfl ?_;have l7:LX rb l lv cS iQ (τ6.set rb (.box (dA b (aH t k).1 sd tg iQ fu mv))):=l6.fS (λk hk gN=>Xb _ hk gN);refine Mf (Zd _ qu) l7 (by simp[fk];omega) (aH t k).2.1 _ (.inl rfl) (λσ' cJ p1 p2 p3=>?_);refine Za (Xj ..) ?_;rw[Xc (n:=i) (by omega)];refine bj (i+1) _ _ (by omega) ⟨(aH t k).1,cS++[(aH t k).2.1],cJ,rfl,by omega,by rw[rO,hd];simp,by simp[fk],?_,(f6.trans (Fr.set iQ _)).trans p1,p2,p3,?_,?_⟩
   ·exact ht.draw (by omega) hC hk h2
   ·exact p1.J5 l7 (Yb Wu (by simp) K3.symm) K3
   ·exact p1.J5 l7 (Yb nt6 (by simp) cU.symm) cU
 ·have h:i=j:=by simp at h;omega
  subst h;rw[Nat.sub_self]at rO;have rO:Xr k i s=(0,t,cS):=by rw[rO];simp[Xr]
  exact hK _ _ iQ mv sO (by rw[rO];exact yQ) (by rw[rO];rfl) (by rw[rO];exact cc)
theorem Qeu{k:MK}{xs:List aa}{mv:aa}(hr:ai σ rb=.box (dA b s sd tg lv fu mv))(hl:LV rb l lv σ)(hn:l.length+60<=1000000000)(h01:sd=0∨sd=1)
 (hf:ba b=true)(bW:Yg b.aj)(cI:(bu b).1=0)(bR:cL b N C s)(hN:N+60<=1000000)(hC:C<1000000)(x:Ef)(n:Int)(hc:Ys k xs=some (83,[.ak rb 0,.agg (bq x),iv n]))(hK:∀v σ',Dn rb b sd tg fu l lv σ (ji s (bJ sd x.who) n) v σ'→K v σ'):VV.call k xs σ K:=
 Yer hr hl λ_ j4 hx sO=>Xd hP hc g83.ok rfl (Yev j4 hx hn h01 hf bW cI bR hN hC x n (λv σ' cJ lP p1 p2 p3 p4=>⟨_,cJ,lP,_,fu,sO cJ σ' p1,p2,p4,λfF q1 q2 q3=>hK v fF ⟨cJ,lP,q1,q2,p3,q3⟩⟩))
theorem Xb7(b:Bk)(s:St)(k c:Int):∃st ev q,uc b s k c=pd st ev (.bool q)∧((q=false∧Y2 b s k c=true)∨(q=true∧Y2 b s k c=false∧st=XB s k c∧ev=⟨2,k,c,s.next,0,0,[]⟩)):=by
 unfold uc;by_cases h:Y2 b s k c=true
 ·rw[aI h];exact⟨_,_,_,rfl,.inl ⟨rfl,h⟩⟩
 ·rw[aB h];exact⟨_,_,_,rfl,.inr ⟨rfl,by simpa using h,rfl,rfl⟩⟩
theorem Yd2{mv:aa}(hr:ai σ rb=.box (dA b s sd tg lv fu mv))(hl:LV rb l lv σ)(hn:l.length<=1000000000)(h01:sd=0∨sd=1)
 (hf:ba b=true)(bW:Yg b.aj)(cI:(bu b).1=0)(bR:cL b N C s)(jq:b.aj.length<=gy)(x:Ef)(n:Int)(hK:∀v σ',Dn rb b sd tg fu l lv σ (YY b s sd x.name) v σ'→K v σ'):g88.u VV [.ak rb 0,.agg (bq x),iv n] σ K:=by
 have vj:=Zb hr;have a0:=dg.ke σ (.box (bq x));have r0:=Qb [ab.box (bq x)] hr;have n0:=Yc σ (.box (bq x));have LK:(σ++[ab.box (bq x)]).length=σ.length+1:=by simp
 rw[H3.e];unfold g88;dsimp only;refine Yd (QN _ _) (Ye σ _) ?_;generalize σ++[ab.box (bq x)]=τ at *;refine Za rfl (Za rfl (Za (v:=cE b) (ld r0 rfl) (Za rfl (Za (v:=.str x.name) (ld n0 (by rw[Qr];rfl)) ?_))));refine a_ (c224 b jq x.name) g130.ok (Za rfl (Za rfl ?_));unfold YY at hK;generalize (gf 0 b.aj x.name).1=c at hK ⊢;refine Zi rfl (Zi rfl (Xf (v:=cE b) (ld r0 rfl) (Zg _) (Zi rfl (Zi rfl (Xf (v:=bZ s) (ld r0 rfl) (Zg _) (Zi rfl (Zi rfl (Zi rfl (Xf (v:=iv sd) (ld r0 rfl) (Zg _) ?_)))))))));have c46:PC 131 [cE b,bZ s,iv sd,iv c] (uc b s sd c):=by
  rcases h01 with rfl|rfl
  ·exact Jv b hf bW s bR.le (Xo.2 ⟨cI,bR.may⟩) c
  ·exact Jw b hf bW s bR.le (Xo.2 ⟨cI,bR.may⟩) c
 obtain⟨st,ev,q,he,hq⟩:=Xb7 b s sd c;rw[he]at c46;refine i_ c46 g131.ok (Zi rfl (Zi rfl (Zi rfl ?_)));refine Xf (v:=.ak τ.length 0) (rd:=[]) (up:=[(τ.length,.box aT)]) rfl (Ye τ _) ?_;have b1:=a0.j_ (.box aT);have b1':=dg.ke τ (.box aT);have z3:=Yc τ (.box aT);have DX:(τ++[ab.box aT]).length=τ.length+1:=by simp
 generalize τ++[ab.box aT]=τ3 at *;refine Xf (v:=.ak τ3.length 0) (rd:=[]) (up:=[(τ3.length,.box ca)]) rfl (Ye τ3 _) ?_;have b2:=b1.j_ (.box ca);have b2':=b1'.j_ (.box ca);have z4:=Qb [ab.box ca] z3;have e4:=Yc τ3 (.box ca);have DY:(τ3++[ab.box ca]).length=τ3.length+1:=by simp
 generalize τ3++[ab.box ca]=τ4 at *;refine Xf (c8 z4 rfl rfl rfl) (Ze _ (by omega)) ?_;have b3:=b2.dp (b:=τ.length) (by omega) (.box (aF st));have b3':=b2'.dp (b:=τ.length) (by omega) (.box (aF st));have s5:ai (τ4.set τ.length (.box (aF st))) τ.length=.box (aF st):=Zd _ (by omega);have e5:=Yb (x:=.box (aF st)) e4 (by simp) (c:=τ.length) (by omega);have V1:(τ4.set τ.length (ab.box (aF st))).length=τ4.length:=by simp
 generalize τ4.set τ.length (ab.box (aF st))=τ5 at *;refine Xf (c8 e5 rfl rfl rfl) (Ze _ (by omega)) ?_;have b4:=b3.dp (b:=τ3.length) (by omega) (.box (ck ev));have b4':=b3'.dp (b:=τ3.length) (by omega) (.box (ck ev));have s6:=Yb (x:=.box (ck ev)) s5 (by simp) (c:=τ3.length) (by omega);have e6:ai (τ5.set τ3.length (.box (ck ev))) τ3.length=.box (ck ev):=Zd _ (by omega);have V2:(τ5.set τ3.length (ab.box (ck ev))).length=τ5.length:=by simp
 generalize τ5.set τ3.length (ab.box (ck ev))=τ6 at *;have q1:τ.length≠rb:=by omega
 have q2:τ3.length≠rb:=by omega
 have q3:τ.length≠σ.length:=by omega
 have q4:τ3.length≠σ.length:=by omega
 have q5:τ3.length≠τ.length:=by omega
 refine Qv (by simp[Qi,Xm,Xn,Yv,cf,dS,zAB,zAd,q1,q2,q3,q4,q5,q1.symm,q2.symm,q3.symm,q4.symm,q5.symm]) ?_;have r6:=b4'.get r0;have l6:LV rb l lv τ6:=hl.fS (λk hk _=>b4.2 k hk (by simp));have f6:Fr rb lv lv σ τ6:=b4.lift rb;have qu:=Zb r6;rcases hq with ⟨rfl,hq⟩|⟨rfl,hq,rfl,rfl⟩
 ·exact Xe (hK _ _ ⟨lv,mv,f6,by rw[aI hq];exact r6,by rw[aI hq],by rw[aI hq];simpa using l6⟩)
 ·rw[aB (by simp[hq])]at hK;refine Xh (Za (v:=bZ (XB s sd c)) (ld s6 rfl) (Za rfl (Za rfl (Yd (c8 (row':=dA b (XB s sd c) sd tg lv fu mv) r6 rfl rfl rfl) (Ze _ qu) (Za (v:=wB ⟨2,sd,c,s.next,0,0,[]⟩) (ld (Yb e6 (by simp) (by omega)) rfl) ?_)))));refine Xd hP (f:=126) rfl g126.ok rfl (vB (Zd _ qu) (l6.fS (λk hk gN=>Xb _ hk gN)) hn _ _ (.inl rfl) (λσ' cJ p1 p2 p3=>?_));exact hK _ _ ⟨cJ,mv,(f6.trans (Fr.set lv _)).trans p1,p2,rfl,p3⟩
def jd(b:Bk)(s:St)(sd tg op who:Int)(name:Tx)(n:Int):Int×St×List Ev:=
 if op=0∨op=1 then f_ b s sd tg op who n else if op=2 then ji s (bJ sd who) n else if op=3 then el s sd n
 else if op=4 then cZ s (bJ sd who)else if op=5 then gI s sd n else if op=6 then mD s (bJ sd who)else YY b s sd name
def fA(op:Int):Int:=if op=5 then 0 else 1
mutual
def ct (b:Bk) (sd tg:Int):Ef→St→Int→Int×St×Int×List Ev
 |.mk op who n name c bQ bV,s,fu=>
  if op=8 then (if (uU b c&&dV b s sd tg c)=true then runs b sd tg bQ s fu else runs b sd tg bV s fu)
  else if fu<fA op then (190,s,fu,[])
  else ((jd b s sd tg op who name (dT b s sd tg n)).1,(jd b s sd tg op who name (dT b s sd tg n)).2.1,
   (if (jd b s sd tg op who name (dT b s sd tg n)).1=0 then fu - fA op else fu),(jd b s sd tg op who name (dT b s sd tg n)).2.2)
def runs (b:Bk) (sd tg:Int):List Ef→St→Int→Int×St×Int×List Ev
 |[],s,fu=>(0,s,fu,[])
 |x::l,s,fu=>
  if (ct b sd tg x s fu).1=0 then
   ((runs b sd tg l (ct b sd tg x s fu).2.1 (ct b sd tg x s fu).2.2.1).1,(runs b sd tg l (ct b sd tg x s fu).2.1 (ct b sd tg x s fu).2.2.1).2.1,
    (runs b sd tg l (ct b sd tg x s fu).2.1 (ct b sd tg x s fu).2.2.1).2.2.1,(ct b sd tg x s fu).2.2.2 ++ (runs b sd tg l (ct b sd tg x s fu).2.1 (ct b sd tg x s fu).2.2.1).2.2.2)
  else ct b sd tg x s fu
end
theorem Nw(b:Bk)(sd tg:Int)(x:Ef)(s:St)(fu:Int):ct b sd tg x s fu =
  if x.op=8 then (if (uU b x.c&&dV b s sd tg x.c)=true then runs b sd tg x.bQ s fu else runs b sd tg x.bV s fu)
  else if fu<fA x.op then (190,s,fu,[])
  else ((jd b s sd tg x.op x.who x.name (dT b s sd tg x.n)).1,(jd b s sd tg x.op x.who x.name (dT b s sd tg x.n)).2.1,
   (if (jd b s sd tg x.op x.who x.name (dT b s sd tg x.n)).1=0 then fu - fA x.op else fu),(jd b s sd tg x.op x.who x.name (dT b s sd tg x.n)).2.2):=by
 cases x;rw[ct];rfl
theorem QcC{kd:Int}{fP:Int→Int×Int}{fU:Th→Int×Int}{id:Int}(h:TB N s)(h01:k=0∨k=1)(e:(ga kd fP fU s id k).2.2=0):TB N (ga kd fP fU s id k).1:=by
 have z:∀(x:Int),x≠0→(fW,jx,x).2.2=0→False:=λx hx h=>hx h;unfold ga at e ⊢;by_cases g_:id=0
 ·rw[aI g_]at e ⊢;unfold nE at e ⊢;split at e
  ·rename_i hw;rw[aI hw];rcases h01 with rfl|rfl<;>exact h
  ·exact(z 171 (by decide) e).elim
 rw[aB g_]at e ⊢;by_cases oP:id<0
 ·simp_all
 rw[aB oP]at e ⊢;cases q0:gM s.s0.af id with
 |some i=>
  rw[q0]at e;simp only at e ⊢;unfold jR at e ⊢;split at e
  ·rename_i hw;rw[aI hw];exact h
  ·exact(z 171 (by decide) e).elim
 |none=>
  rw[q0]at e;simp only at e ⊢;cases q1:gM s.s1.af id with
  |some i=>
   rw[q1]at e;simp only at e ⊢;unfold jR at e ⊢;split at e
   ·rename_i hw;rw[aI hw];exact h
   ·exact(z 171 (by decide) e).elim
  |none=>simp_all
theorem cL.mv(h:cL b N C s){op id n:Int}(h01:k=0∨k=1)(e:(o9 op b s id k n).2.2=0):cL b N C (o9 op b s id k n).1:=by
 unfold o9 at e ⊢;split at e
 ·rename_i q;rw[aI q];obtain⟨k1,k2,_⟩:=XcY h.may h01 e;exact⟨k1,QcC h.told h01 e,by rw[k2];exact h.aj⟩
 ·rename_i q;rw[aB q];obtain⟨k1,k2,_⟩:=ZcY h.may h01 e;exact⟨k1,QcC h.told h01 e,by rw[k2];exact h.aj⟩
theorem cL.oY(h:cL b N C s)(h01:sd=0∨sd=1)(tg op who n:Int):cL b N C (f_ b s sd tg op who n).2.1:=by
 unfold f_;split
 ·rename_i q;split
  ·rename_i e;exact h.mv (Tj h01 q.1).1 e
  ·exact h
 ·exact h
theorem Zcp{n:Nat}{l l':List Int}{most':Int}(h:Yp n l most=true)(hl:∀c∈l',c∈l)(hm:(l'.length:Int)<=most'):Yp n l' most'=true:=by
 simp_all [Yh]
variable{m:List Int}
theorem Qco{n:Nat}{l:List Int}{most':Int}(h:Yp n l most=true)(k:Yp n m most'=true)(hm:((l.length+m.length:Nat):Int)<=most):Yp n (l++m) most=true:=by
 grind [Yh]
theorem gm.tell{x:Sd}(h:gm b x)(hm:Yp b.aj.length m most=true)(hl:x.told.length+m.length<=1000000):gm b { x with told:=x.told++m }:=
 ⟨h.aX,h.aU,h.most,h.az,h.hand,h.an,Qco h.told hm (by omega),h.af⟩
theorem cL.iV(h:cL b N C s)(hm:Yp b.aj.length m most=true)(hl:N+m.length<=1000000)(h01:i=0∨i=1):cL b (N+m.length) C (Tz.iV m s i):=by
 obtain⟨hM,ht,hc⟩:=h;have ht':=ht.tell m h01;obtain⟨t0,t1⟩:=ht;rcases h01 with rfl|rfl
 ·exact⟨⟨hM.hd,hM.s0.tell hm (by omega),hM.s1,hM.un,hM.at_⟩,ht',hc⟩
 ·exact⟨⟨hM.hd,hM.s0,hM.s1.tell hm (by omega),hM.un,hM.at_⟩,ht',hc⟩
theorem cL.tW(h:cL b N C s)(hm:Yp b.aj.length m most=true)(hl:N+(m.length+m.length)<=1000000):cL b (N+(m.length+m.length)) C (dt s m [0,1]):=by
 have:=(h.iV hm (by omega) (i:=0) (.inl rfl)).iV hm (by omega) (i:=1) (.inr rfl);rw[zBR]at this;exact this
theorem cL.Uf(h:cL b N C s)(h01:sd=0∨sd=1)(n:Int):cL b N C (el s sd n).2.1:=by
 unfold el;split
 ·exact h
 split
 ·exact h
 ·rename_i q1 q2;obtain⟨hM,ht,hc⟩:=h;rcases h01 with rfl|rfl
  ·have:=hM.s0.aU;have hw:=YV.1 this.2;have q2:¬1000000<s.s0.aU+n:=q2;exact⟨⟨hM.hd,⟨hM.s0.aX,⟨by show 0<=s.s0.aU+n;omega,YV.2 ⟨by show -1000000<=s.s0.aU+n;omega,by show s.s0.aU+n<=1000000;omega⟩⟩,hM.s0.most,hM.s0.az,hM.s0.hand,hM.s0.an,hM.s0.told,hM.s0.af⟩,hM.s1,hM.un,hM.at_⟩,ht,hc⟩
  ·have:=hM.s1.aU;have hw:=YV.1 this.2;have q2:¬1000000<s.s1.aU+n:=q2;exact⟨⟨hM.hd,hM.s0,⟨hM.s1.aX,⟨by show 0<=s.s1.aU+n;omega,YV.2 ⟨by show -1000000<=s.s1.aU+n;omega,by show s.s1.aU+n<=1000000;omega⟩⟩,hM.s1.most,hM.s1.az,hM.s1.hand,hM.s1.an,hM.s1.told,hM.s1.af⟩,hM.un,hM.at_⟩,ht,hc⟩
theorem cL.drop(h:cL b N C s)(hN:N+2<=1000000)(hC:C<1000000)(h01:i=0∨i=1):cL b (N+2) C (cZ s i).2.1:=by
 unfold cZ;obtain⟨hM,ht,hc⟩:=h;have hg:s.s0.an.length<1000000∧s.s1.an.length<1000000:=by unfold Zm at hc;omega
 rcases h01 with rfl|rfl
 ·show cL b (N+2) C (match s.s0.hand with | []=>_|c::h=>_:Int×St×List Ev).2.1;cases hh:s.s0.hand with
  |nil=>exact cL.mono ⟨hM,ht,hc⟩ (by omega) (No _)
  |cons c r=>
   have hx:=hM.s0.hand;rw[hh]at hx;obtain⟨x1,x2⟩:=ZS hx;refine cL.tW (N:=N) (m:=[c]) (most:=1) (s:=s.put 0 { s.s0 with hand:=r,an:=s.s0.an++[c] }) ⟨⟨hM.hd,⟨hM.s0.aX,hM.s0.aU,hM.s0.most,hM.s0.az,x1,Xs hM.s0.an x2 (by omega),hM.s0.told,hM.s0.af⟩,hM.s1,hM.un,hM.at_⟩,ht,?_⟩ ?_ (by simpa using hN)
   ·have:Zm (s.put 0 { s.s0 with hand:=r,an:=s.s0.an++[c] })=Zm s:=by simp[Zm,St.put,hh];omega
    rw[this];exact hc
   ·rw[Yh];simpa using x2
 ·show cL b (N+2) C (match s.s1.hand with | []=>_|c::h=>_:Int×St×List Ev).2.1;cases hh:s.s1.hand with
  |nil=>exact cL.mono ⟨hM,ht,hc⟩ (by omega) (No _)
  |cons c r=>
   have hx:=hM.s1.hand;rw[hh]at hx;obtain⟨x1,x2⟩:=ZS hx;refine cL.tW (N:=N) (m:=[c]) (most:=1) (s:=s.put 1 { s.s1 with hand:=r,an:=s.s1.an++[c] }) ⟨⟨hM.hd,hM.s0,⟨hM.s1.aX,hM.s1.aU,hM.s1.most,hM.s1.az,x1,Xs hM.s1.an x2 (by omega),hM.s1.told,hM.s1.af⟩,hM.un,hM.at_⟩,ht,?_⟩ ?_ (by simpa using hN)
   ·have:Zm (s.put 1 { s.s1 with hand:=r,an:=s.s1.an++[c] })=Zm s:=by simp[Zm,St.put,hh];omega
    rw[this];exact hc
   ·rw[Yh];simpa using x2
theorem cL.rows(h:cL b N C s)(h01:i=0∨i=1):Yp b.aj.length (s.side i).az 60=true∧Yp b.aj.length (s.side i).hand 10=true:=by
 rcases h01 with rfl|rfl
 ·exact⟨h.may.s0.az,h.may.s0.hand⟩
 ·exact⟨h.may.s1.az,h.may.s1.hand⟩
theorem cL.look(h:cL b N C s)(hN:N+60<=1000000)(h01:sd=0∨sd=1)(n:Int):cL b (N+60) C (gI s sd n).2.1:=by
 unfold gI;have hd:=(h.rows h01).1;generalize gH:(s.side sd).az.take (min (max n 0) (s.side sd).az.length).toNat=cs;have oX:∀c∈cs,c∈(s.side sd).az:=λc hc=>by grind
 have hl:cs.length<=60:=by
  have:=(Yh.1 hd).1
  grind
 cases cs with
 |nil=>exact h.mono (by omega) (No _)
 |cons c cs=>exact(h.iV (m:=c::cs) (Zcp (most':=60) hd oX (by omega)) (by omega) h01).mono (by omega) (No _)
theorem cL.Mj(h:cL b N C s)(hN:N+60<=1000000)(h01:i=0∨i=1):cL b (N+60) C (mD s i).2.1:=by
 have hd:=(h.rows h01).2;have:=(Yh.1 hd).1;exact(h.tW hd (by omega)).mono (by omega) (No _)
theorem W6(k:Int):∀(j:Nat) (s:St),(Xr k j s).2.2.length<=j
 |0,s=>by simp[Xr]
 |j+1,s=>by
  unfold Xr;split
  ·have:=W6 k j (aH s k).1;simp;omega
  ·simp
theorem ZeF(h:cL b N C s)(hN:N+60<=1000000)(hC:C<1000000)(h01:sd=0∨sd=1)(tg op who:Int)(name:Tx)(n:Int) :
  cL b (N+60) (C+1) (jd b s sd tg op who name n).2.1∧(jd b s sd tg op who name n).2.2.length<=60:=by
 have hw:=GU h01 who;unfold jd;split
 ·refine⟨(h.oY h01 tg op who n).mono (by omega) (by omega),?_⟩
  grind [f_]
 split
 ·have hj:(min (max n 0) 60).toNat<=60:=by omega
  have:=W6 (bJ sd who) (min (max n 0) 60).toNat s;unfold ji;split
  ·exact⟨(Xb6 hC hw _ h (by omega)).mono (by omega) (by omega),by omega⟩
  ·exact⟨h.mono (by omega) (by omega),by simp⟩
 split
 ·refine⟨(h.Uf h01 n).mono (by omega) (by omega),?_⟩
  grind [el]
 split
 ·refine⟨(h.drop (by omega) hC hw).mono (by omega) (by omega),?_⟩;unfold cZ;split<;>simp
 split
 ·refine⟨(h.look (by omega) h01 n).mono (by omega) (by omega),?_⟩;unfold gI;split<;>simp
 split
 ·exact⟨(h.Mj (by omega) hw).mono (by omega) (by omega),by simp[mD]⟩
 ·refine⟨(h.D8 h01 name).mono (by omega) (No _),?_⟩;unfold YY;split<;>simp
mutual
theorem OR {b:Bk} {sd tg:Int} (h01:sd=0∨sd=1):∀(x:Ef) {N C:Nat} {s:St} (fu:Int),cL b N C s→N+60*(iG x).length<=1000000→C+(iG x).length<=1000000 →
  cL b (N+60*(iG x).length) (C+(iG x).length) (ct b sd tg x s fu).2.1∧(ct b sd tg x s fu).2.2.2.length<=60*(iG x).length
 |.mk op who n name c bQ bV,N,C,s,fu,h,hN,hC=>by
  rw[ct]
  have h1:1<=(iG (.mk op who n name c bQ bV)).length:=by simp[iG]
  split
  ·rename_i h8
   have hl:(bz bQ).length+(bz bV).length<=(iG (.mk op who n name c bQ bV)).length:=by simp[iG,h8];omega
   split
   ·obtain⟨q1,q2⟩:=A9 h01 bQ fu h (by omega) (by omega)
    exact⟨q1.mono (by omega) (by omega),by omega⟩
   ·obtain⟨q1,q2⟩:=A9 h01 bV fu h (by omega) (by omega)
    exact⟨q1.mono (by omega) (by omega),by omega⟩
  split
  ·exact⟨h.mono (by omega) (by omega),by simp⟩
  ·obtain⟨q1,q2⟩:=ZeF h (by omega) (by omega) h01 tg op who name (dT b s sd tg n)
   exact⟨q1.mono (by omega) (by omega),zAX q2 (by omega)⟩
theorem A9 {b:Bk} {sd tg:Int} (h01:sd=0∨sd=1):∀(l:List Ef) {N C:Nat} {s:St} (fu:Int),cL b N C s→N+60*(bz l).length<=1000000→C+(bz l).length<=1000000 →
  cL b (N+60*(bz l).length) (C+(bz l).length) (runs b sd tg l s fu).2.1∧(runs b sd tg l s fu).2.2.2.length<=60*(bz l).length
 |[],N,C,s,fu,h,hN,hC=>by rw[runs];exact⟨h.mono (by omega) (by omega),by simp⟩
 |x::l,N,C,s,fu,h,hN,hC=>by
  rw[runs]
  have hl:(bz (x::l)).length=(iG x).length+(bz l).length:=by simp[bz]
  obtain⟨q1,q2⟩:=OR h01 x fu h (by omega) (by omega)
  split
  ·obtain⟨p1,p2⟩:=A9 h01 l (ct b sd tg x s fu).2.2.1 q1 (by omega) (by omega)
   refine⟨p1.mono (by omega) (by omega),?_⟩
   simp only[By];omega
  ·exact⟨q1.mono (by omega) (by omega),by omega⟩
end
mutual
theorem SI (b:Bk) (sd tg:Int):∀(x:Ef) (s:St) (fu:Int),0<=fu→0<=(ct b sd tg x s fu).2.2.1∧(ct b sd tg x s fu).2.2.1<=fu
 |.mk op who n name c bQ bV,s,fu,h=>by
  rw[ct]
  split
  ·split<;>simp_all [Hc]
  grind [fA]
theorem Hc (b:Bk) (sd tg:Int):∀(l:List Ef) (s:St) (fu:Int),0<=fu→0<=(runs b sd tg l s fu).2.2.1∧(runs b sd tg l s fu).2.2.1<=fu
 |[],s,fu,h=>by rw[runs];exact⟨h,zBM _⟩
 |x::l,s,fu,h=>by
  have h1:=SI b sd tg x s fu h
  rw[runs]
  split
  ·have h2:=Hc b sd tg l (ct b sd tg x s fu).2.1 (ct b sd tg x s fu).2.2.1 h1.1
   grind
  ·exact h1
end
theorem Yd7(h:du b s):Nc b s:=by
 have go:∀x:Sd,gm b x→∀c,c∈x.az∨c∈x.hand→0<=c∧c.toNat<b.aj.length:=by
  intro x k c hc;have:0<=c∧c<(b.aj.length:Int):=by
   rcases hc with hc|hc
   ·exact(Yh.1 k.az).2 c hc
   ·exact(Yh.1 k.hand).2 c hc
  omega
 intro k c hc;unfold iT at hc;split at hc
 ·exact go _ h.s0 c hc
 ·exact go _ h.s1 c hc
theorem XdW{n:Nm}(h:ez n=true):eR true n=true∧mA n<=200:=by
 simp only[ez,AI,fD]at h;obtain⟨h1,h2,h3,h4⟩:=h;have h4:=zAc.1 h4;constructor
 ·rw[Nv,h1,h2,h3,h4];rfl
 ·have:(rf n).length=1:=by cases n;simp_all [Nm.kids,rf,o_]
  rw[I0,this];decide
variable{cs:List Cd}
theorem ZcH{x:Ef}(h:mQ cs true d x=true)(h8:x.op≠8)(hp:(iG x).length<=200):eR true x.n=true∧mA x.n<=200:=by
 rw[yz,aB h8]at h;simp only[AI]at h;obtain⟨_,_,_,_,_,h,_⟩:=h;by_cases hc:cw x.op=true
 ·rw[aI hc]at h;refine⟨h,?_⟩;have:(rf x.n).length<=(iG x).length:=by
   cases x<;>simp_all [Ef.op,iG,Ef.n]
  rw[I0];omega
 simp_all [XdW]
theorem Zdp{x:Ef}(h:mQ cs true d x=true)(h8:x.op=8):bY cs true (d+1) x.bQ=true∧bY cs true (d+1) x.bV=true:=by
 simp_all [bE,yz]
theorem RL{t:Bool}:∀ {l:List Ef},bY cs t d l=true→∀x∈l,mQ cs t d x=true
 |a::l,h,x,hx=>by
  simp only[bY,AI]at h;simp only[zAS]at hx;rcases hx with rfl|hx
  ·exact h.1
  ·exact RL h.2 x hx
def Na(rb:Nat)(b:Bk)(sd tg:Int)(l:List Ev)(lv:aa)(σ:List ab)(r:Int×St×Int×List Ev)(v:aa)(σ':List ab):Prop:=
 ∃cJ lP,Fr rb lv cJ σ σ'∧ai σ' rb=.box (dA b r.2.1 sd tg cJ r.2.2.1 lP)∧v=iv r.1∧LV rb (l++r.2.2.2) cJ σ'
@[reducible] def rB(rb:Nat):List aa:=[.func (.func 82) [.ak rb 0] [],.func (.func 82) [.ak rb 0] [],.func (.func 83) [.ak rb 0] [],.func (.func 84) [.ak rb 0] [],.func (.func 85) [.ak rb 0] [],.func (.func 86) [.ak rb 0] [],.func (.func 87) [.ak rb 0] [],.func (.func 88) [.ak rb 0] []]
def zj(b:Bk)(zM:List Cd)(sd tg:Int)(l:List Ef):Prop:=∀(σ:List ab) (rb:Nat) (s:St) (fu:Int) (mv lv:aa) (cS:List Ev) (N C:Nat) (d:Int) (K:KT),
 ai σ rb=.box (dA b s sd tg lv fu mv)→LV rb cS lv σ→bF l=true→bY zM true d l=true→(bz l).length<=200→cL b N C s→N+60*(bz l).length<=1000000→C+(bz l).length<=1000000 →
 cS.length+60*(bz l).length<=1000000→0<=fu→fu<=1000→(∀v σ',Na rb b sd tg cS lv σ (runs b sd tg l s fu) v σ'→K v σ')→g47.u VV [.ak rb 0,gZ l] σ K
set_option maxHeartbeats 8000000
theorem ZcP(b:Bk)(zM:List Cd)(sd tg:Int)(h01:sd=0∨sd=1)(hf:ba b=true)(bW:Yg b.aj)(cI:(bu b).1=0)(m:Nat)(IH:∀l:List Ef,(bz l).length<m→zj b zM sd tg l):∀l:List Ef,(bz l).length<=m→zj b zM sd tg l:=by
 intro l hlm σ rb s fu mv lv cS N C d K hr hl dE bR hW hS hN hC hE wR vb hK;have vj:=Zb hr;have hlen:=ZC dE;rw[c9]at hlen;have jq:b.aj.length<=gy:=by
  simp only[ba,QG,AI,fD]at hf;exact hf.1.1
 rw[H2.e];unfold g47;dsimp only;refine Za rfl (Za rfl (Za rfl (Za rfl (Za rfl (Za rfl (Za rfl (Za rfl (Za (v:=.agg (rB rb)) rfl ?_))))))));refine Yd (v:=.ak σ.length 0) (rd:=[]) (up:=[(σ.length,.box [.bK,.bK,.bK,.bK,.bK,.bK,.bK,.bK])]) rfl (Ye σ _) ?_;have a1:=dg.ke σ (.box [.bK,.bK,.bK,.bK,.bK,.bK,.bK,.bK]);have r1:=Qb [ab.box [.bK,.bK,.bK,.bK,.bK,.bK,.bK,.bK]] hr;have z1:=Yc σ (.box [.bK,.bK,.bK,.bK,.bK,.bK,.bK,.bK]);have o7:(σ++[ab.box [.bK,.bK,.bK,.bK,.bK,.bK,.bK,.bK]]).length=σ.length+1:=by simp
 generalize σ++[ab.box [.bK,.bK,.bK,.bK,.bK,.bK,.bK,.bK]]=σ1 at *;refine Yd (c8 (row':=rB rb) z1 rfl rfl rfl) (Ze _ (by omega)) (Za (v:=iv l.length) (rd:=[]) (by simp[Yn]) ?_);have a2:=a1.dp (b:=σ.length) (by omega) (.box (rB rb));have cU:σ.length≠rb:=by omega
 have r2:=Yb (x:=.box (rB rb)) r1 (by simp) cU;have c2:ai (σ1.set σ.length (.box (rB rb))) σ.length=.box (rB rb):=Zd _ (by omega);generalize σ1.set σ.length (.box (rB rb))=σ2 at *;have l2:LV rb cS lv σ2:=hl.fS (λk hk _=>a2.2 k hk (by simp));refine Xg (ι:=Nat) (λi vs τ=>∃ t fi fm iQ LN Ni Ci,vs=[iv i,iv 0]∧i<=l.length∧runs b sd tg l s fu=((runs b sd tg (l.drop i) t fi).1,(runs b sd tg (l.drop i) t fi).2.1,(runs b sd tg (l.drop i) t fi).2.2.1,fm ++ (runs b sd tg (l.drop i) t fi).2.2.2) ∧
   0<=fi∧fi<=1000∧cL b Ni Ci t∧Ni+60*(bz (l.drop i)).length<=1000000∧Ci+(bz (l.drop i)).length<=1000000∧(cS++fm).length+60*(bz (l.drop i)).length<=1000000∧(bz (l.drop i)).length<=(bz l).length ∧
   Fr rb lv iQ σ τ∧ai τ rb=.box (dA b t sd tg iQ fi LN)∧LV rb (cS ++ fm) iQ τ∧ai τ σ.length=.box (rB rb))
  (λi=>l.length-i) 0 ⟨s,fu,[],lv,mv,N,C,rfl,by omega,rfl,wR,vb,hS,hN,hC,by simpa using hE,No _,a2.lift rb,r2,by simpa using l2,c2⟩ ?_
 rintro i vs τ again ⟨t,fi,fm,iQ,LN,Ni,Ci,rfl,hi,bg,vc,z7,ht,Ke,Kc,Dd,Df,sO,yQ,cc,BT⟩ bj;have Vu:=Zb yQ;have u9:=Zb BT;refine Za rfl (Ya (λh=>?_) (λh=>?_));rotate_left
 ·have h:i=l.length:=by simp at h;omega
  subst h;have e0:runs b sd tg (l.drop l.length) t fi=(0,t,fi,[]):=by rw[zAD,runs]
  rw[e0]at bg;exact hK _ _ ⟨iQ,LN,sO,by rw[bg];exact yQ,by rw[bg];rfl,by rw[bg];simpa using cc⟩
 have h:i<l.length:=by simpa using h
 have wP:l.drop i=l[i]::l.drop (i+1):=gK h;have il:=AT h;have Ao:=YP dE il;have uH:=RL bR _ il;have cB:=λ(σ:List ab)=>Ym σ bq false false 14 l .i64 i h;rw[wP]at bg Ke Kc Dd Df;generalize l[i]=x at *;have DR:(bz (x::l.drop (i+1))).length=(iG x).length+(bz (l.drop (i+1))).length:=by simp[bz]
 rw[DR]at Ke Kc Dd Df;have hx1:1<=(iG x).length:=by cases x;simp[iG]
 have rY:=OR (b:=b) (tg:=tg) h01 x fi ht (by omega) (by omega);have Dx:=SI b sd tg x t fi vc;rw[runs]at bg;refine Qg λk' ek=>?_;have fin:∀v τ',Na rb b sd tg (cS++fm) iQ τ (ct b sd tg x t fi) v τ'→(ct b sd tg x t fi).1≠0→K v τ':=by
  rintro v τ' ⟨cJ,lP,p1,p2,p3,p4⟩ DK;rw[aB DK]at bg;exact hK _ _ ⟨cJ,lP,sO.trans p1,by rw[bg];exact p2,by rw[bg];exact p3,by rw[bg];simpa using p4⟩
 have cont:∀v τ',Na rb b sd tg (cS++fm) iQ τ (ct b sd tg x t fi) v τ'→(ct b sd tg x t fi).1=0→k' [v] τ':=by
  rintro v τ' ⟨cJ,lP,p1,p2,p3,p4⟩ h0;rw[aI h0]at bg;rw[h0]at p3;subst p3;rw[ek];refine Za (Xj ..) ?_;rw[Xc (n:=i) (by omega)];refine bj (i+1) _ _ (by omega) ⟨(ct b sd tg x t fi).2.1,(ct b sd tg x t fi).2.2.1,fm++(ct b sd tg x t fi).2.2.2,cJ,lP,Ni+60*(iG x).length,Ci+(iG x).length,rfl,by omega,?_,Dx.1,by omega,rY.1,by omega,by omega,?_,by omega,sO.trans p1,p2,?_,?_⟩
  ·rw[bg];simp
  ·have:=rY.2;simp only[By]at Dd ⊢;omega
  ·simpa using p4
  ·exact p1.get cc BT cU
 clear ek bj hK;refine Za (cB _) (Za (bB (mc _)) (Zv (row:=bq x) (row':=bq x) (by rw[Qr];rfl) (by rw[Qr];rfl) (by rw[Qr];rfl) ?_));have b1:=dg.ke τ (.box (bq x));have sA:=Qb [ab.box (bq x)] yQ;have BH:=Qb [ab.box (bq x)] BT;have x1:=Yc τ (.box (bq x));have yU:LV rb (cS++fm) iQ (τ++[ab.box (bq x)]):=cc.fS (λk hk _=>Yf _ hk);have aaO:(τ++[ab.box (bq x)]).length=τ.length+1:=by simp
 have aaJ:τ.length<(τ++[ab.box (bq x)]).length:=by omega
 generalize τ++[ab.box (bq x)]=τ1 at *;have f1:Fr rb iQ iQ τ τ1:=b1.lift rb;refine Za rfl (Za (ld x1 (gY x)) (Za (Zt ..) (Ya (λh8=>?_) (λh8=>?_))))
 ·have h8:x.op=8:=by simpa using h8
  have gH:(qQ x.c).length<=1000000∧(bz x.bQ).length<(iG x).length∧(bz x.bV).length<(iG x).length:=by
   cases x;simp[Ef.op]at h8;simp[iG,h8,Ef.c,Ef.bQ,Ef.bV]at Df ⊢;omega
  have uB:=Zdp uH h8;have j9:ct b sd tg x t fi=if (uU b x.c&&dV b t sd tg x.c)=true then runs b sd tg x.bQ t fi else runs b sd tg x.bV t fi:=by rw[Nw,aI h8]
  refine Za rfl (Za (v:=gZ x.bV) (ld x1 (by rw[Qr];rfl)) (Za rfl (Za rfl (Za (v:=cE b) (ld sA rfl) (Za rfl (Za rfl (Za (v:=bZ t) (ld sA rfl) (Za rfl (Za rfl (Za (v:=.agg [iv sd,iv tg]) (ld sA rfl) (Za rfl (Za (ld x1 (oF x)) ?_))))))))))));refine Qo (c169 b hf bW t ht.qA (Xo.2 ⟨cI,ht.may⟩) sd tg (by omega) (by omega) (Yd7 ht.may) x.c (Z8 Ao) gH.1) rfl g89.ok.plain (by rw[XF];rfl) (Za rfl (Za rfl (Qg λk2 yE=>?_)));have body:∀th:List Ef,bF th=true→bY zM true (d+1) th=true→(bz th).length<(iG x).length→ct b sd tg x t fi=runs b sd tg th t fi→k2 [gZ th] τ1:=by
   intro th q1 q2 q3 q4;rw[yE];refine Xd hP (f:=47) rfl g47.ok rfl (IH th (by omega) τ1 rb t fi LN iQ (cS++fm) Ni Ci (d+1) _ sA yU q1 q2 (by omega) ht (by omega) (by omega) (by omega) vc z7 (λv τ' hD=>?_));rw[←q4]at hD;obtain⟨cJ,lP,p1,p2,p3,p4⟩:=hD;have Um:Na rb b sd tg (cS++fm) iQ τ (ct b sd tg x t fi) v τ':=⟨cJ,lP,f1.trans p1,p2,p3,p4⟩;rw[p3];rw[p3]at Um;refine Za (ZX ..) (Ya (λhq=>?_) (λhq=>?_))
   ·exact fin _ _ Um (by simpa using hq)
   ·exact cont _ _ Um (by simpa using hq)
  refine Ya (λhq=>?_) (λhq=>?_)
  ·refine Za rfl (Za (v:=gZ x.bQ) (ld x1 (by rw[Qr];rfl)) ?_);exact body _ (ZP Ao) uB.1 gH.2.1 (by rw[j9,aI hq])
  ·exact body _ (QO Ao) uB.2 gH.2.2 (by rw[j9,aB (by simp[hq])])
 ·have h8:x.op≠8:=by simpa using h8
  have j9:ct b sd tg x t fi=if fi < fA x.op then (190,t,fi,[])else ((jd b t sd tg x.op x.who x.name (dT b t sd tg x.n)).1,(jd b t sd tg x.op x.who x.name (dT b t sd tg x.n)).2.1,
   (if (jd b t sd tg x.op x.who x.name (dT b t sd tg x.n)).1=0 then fi - fA x.op else fi),(jd b t sd tg x.op x.who x.name (dT b t sd tg x.n)).2.2):=by rw[Nw,aB h8]
  have rW:=ZcH uH h8 (by omega);have im:0<=x.op∧x.op<=8:=by
   rw[yz]at uH;simp only[AI,fD]at uH;exact⟨uH.1,uH.2.1⟩
  refine Za rfl (Za (ld x1 (gY x)) (Za (Zt ..) (Qg λk2 yE=>?_)));have hu:0<=fA x.op∧fA x.op<=1:=by unfold fA;split<;>omega
  have body:k2 [iv (fA x.op)] τ1:=by
   rw[yE];clear yE k2;generalize fA x.op=u at *;refine Za rfl (Za rfl (Za (v:=iv fi) (ld sA rfl) ?_));refine ay (Ya (λhq=>?_) (λhq=>?_))
   ·have hq:fi<u:=by simpa using hq
    rw[aI hq]at j9;exact fin _ _ ⟨iQ,LN,f1,by rw[j9];exact sA,by rw[j9],by rw[j9];simpa using yU⟩ (by rw[j9];show (190:Int)≠0;decide)
   have hq:¬fi<u:=by simpa using hq
   rw[aB hq]at j9;refine Za rfl (Za rfl (Za (v:=cE b) (ld sA rfl) (Za rfl (Za rfl (Za (v:=bZ t) (ld sA rfl) (Za rfl (Za rfl (Za (v:=.agg [iv sd,iv tg]) (ld sA rfl) (Za rfl (Za (ld x1 (rI x)) ?_))))))))));refine Qo (c31 b hf bW t ht.qA (Xo.2 ⟨cI,ht.may⟩) sd tg (by omega) (by omega) (λc hc=>Yd7 ht.may _ c (.inl hc)) x.n (zn Ao) rW.1 rW.2) rfl g90.ok.plain (by rw[QA];rfl) (ay (Za (ld x1 (gY x)) ?_));have yN:=GD b t sd tg x.n;generalize dT b t sd tg x.n=n at *;have after:∀v τ2,Dn rb b sd tg fi (cS++fm) iQ τ1 (jd b t sd tg x.op x.who x.name n) v τ2 →
     VV.rd (Zn .neq false [v,(.int .i64 0)] τ2) λt103=>VV.test t103 (K v τ2) (
     VV.rd (Ql [.ak rb 0] τ2) λt105=>VV.rd (Zc 28 [t105] τ2) λt106=>VV.rd (Qe false 1 [t106] τ2) λt107=>
     VV.rd (Zn .sub false [t107,iv u] τ2) λt109=>VV.rd (Ql [.ak rb 0] τ2) λt110=>VV.rd (Zc 28 [t110] τ2) λt111=>
     VV.wr (Zj 1 [t111,t109] τ2) τ2 λ_ σ=>k' [v] σ):=by
    rintro v τ2 ⟨cJ,lP,p1,p2,rfl,p4⟩;generalize jd b t sd tg x.op x.who x.name n=r at *;refine Za (ZX ..) (Ya (λhz=>?_) (λhz=>?_))
    ·have hz:r.1≠0:=by simpa using hz
     rw[aB hz]at j9;exact fin _ _ ⟨cJ,lP,f1.trans p1,by rw[j9];exact p2,by rw[j9],by rw[j9];exact p4⟩ (by rw[j9];exact hz)
    ·have hz:r.1=0:=by simpa using hz
     rw[aI hz]at j9;have dO:=Zb p2;refine Za rfl (Za rfl (Za (v:=iv fi) (ld p2 rfl) ?_));refine ay ?_;rw[zAY _ (by omega)];refine Yd (c8 (row':=dA b r.2.1 sd tg cJ (fi-u) lP) p2 rfl rfl rfl) (Ze _ dO) (cont _ _ ⟨cJ,lP,(f1.trans p1).trans (Fr.set cJ _),by rw[j9];exact Zd _ dO,by rw[j9],by rw[j9];exact p4.fS (λk hk gN=>Xb _ hk gN)⟩ (by rw[j9];exact hz))
   have Ur:TB 100000000 t:=⟨by have:=ht.told.1;omega,by have:=ht.told.2;omega⟩;have pG:=ht.le;have jr:(cS++fm).length+60<=1000000000:=by omega
   have mq:x.op=0∨x.op=1∨x.op=2∨x.op=3∨x.op=4∨x.op=5∨x.op=6∨x.op=7:=by omega
   rcases mq with e|e|e|e|e|e|e|e
   ·rw[e];refine Za rfl (Za (v:=.func (.func 82) [.ak rb 0] []) (ld BH rfl) (Za (ld x1 (mc x)) ?_));refine Xd hP (f:=82) (ys:=[.ak rb 0,.agg (bq x),iv n]) rfl g82.ok rfl (Qd6 sA yU (by omega) h01 hf bW pG (Xo.2 ⟨cI,ht.may⟩) x n (λv τ2 hD=>after v τ2 ?_));have:jd b t sd tg x.op x.who x.name n=f_ b t sd tg x.op x.who n:=by rw[jd,aI (.inl e)]
    rw[this];exact hD
   ·rw[e];refine Za rfl (Za (v:=.func (.func 82) [.ak rb 0] []) (ld BH rfl) (Za (ld x1 (mc x)) ?_));refine Xd hP (f:=82) (ys:=[.ak rb 0,.agg (bq x),iv n]) rfl g82.ok rfl (Qd6 sA yU (by omega) h01 hf bW pG (Xo.2 ⟨cI,ht.may⟩) x n (λv τ2 hD=>after v τ2 ?_));have:jd b t sd tg x.op x.who x.name n=f_ b t sd tg x.op x.who n:=by rw[jd,aI (.inr e)]
    rw[this];exact hD
   ·rw[e];refine Za rfl (Za (v:=.func (.func 83) [.ak rb 0] []) (ld BH rfl) (Za (ld x1 (mc x)) ?_));refine Qeu sA yU jr h01 hf bW cI ht (by omega) (by omega) x n rfl (λv τ2 hD=>after v τ2 ?_);have:jd b t sd tg x.op x.who x.name n=ji t (bJ sd x.who) n:=by rw[e];rfl
    rw[this];exact hD
   ·rw[e];refine Za rfl (Za (v:=.func (.func 84) [.ak rb 0] []) (ld BH rfl) (Za (ld x1 (mc x)) ?_));have xj:0<=(t.side sd).aU∧(t.side sd).aU<=1000000:=by
     rcases h01 with rfl|rfl
     ·exact⟨ht.may.s0.aU.1,(YV.1 ht.may.s0.aU.2).2⟩
     ·exact⟨ht.may.s1.aU.1,(YV.1 ht.may.s1.aU.2).2⟩
    refine Xd hP (f:=84) (ys:=[.ak rb 0,.agg (bq x),iv n]) rfl g84.ok rfl (XeA sA yU (by omega) h01 xj x n (by omega) (λv τ2 hD=>after v τ2 ?_));have:jd b t sd tg x.op x.who x.name n=el t sd n:=by rw[e];rfl
    rw[this];exact hD
   ·rw[e];refine Za rfl (Za (v:=.func (.func 85) [.ak rb 0] []) (ld BH rfl) (Za (ld x1 (mc x)) ?_));refine Xd hP (f:=85) (ys:=[.ak rb 0,.agg (bq x),iv n]) rfl g85.ok rfl (Qev sA yU (by omega) h01 Ur ⟨by have:=pG.s0.hand;omega,by have:=pG.s0.an;omega⟩ ⟨by have:=pG.s1.hand;omega,by have:=pG.s1.an;omega⟩ x n (λv τ2 hD=>after v τ2 ?_));have:jd b t sd tg x.op x.who x.name n=cZ t (bJ sd x.who):=by rw[e];rfl
    rw[this];exact hD
   ·rw[e];refine Za rfl (Za (v:=.func (.func 86) [.ak rb 0] []) (ld BH rfl) (Za (ld x1 (mc x)) ?_));have rL:(t.side sd).az.length<=100000000:=by
     rcases h01 with rfl|rfl
     ·have:=pG.s0.az;show t.s0.az.length<=_;omega
     ·have:=pG.s1.az;show t.s1.az.length<=_;omega
    refine Xd hP (f:=86) (ys:=[.ak rb 0,.agg (bq x),iv n]) rfl g86.ok rfl (XeC sA yU (by omega) h01 Ur rL x n (λv τ2 hD=>after v τ2 ?_));have:jd b t sd tg x.op x.who x.name n=gI t sd n:=by rw[e];rfl
    rw[this];exact hD
   ·rw[e];refine Za rfl (Za (v:=.func (.func 87) [.ak rb 0] []) (ld BH rfl) (Za (ld x1 (mc x)) ?_));refine Xd hP (f:=87) (ys:=[.ak rb 0,.agg (bq x),iv n]) rfl g87.ok rfl (ZeG sA yU (by omega) h01 Ur (by have:=pG.s0.hand;omega) (by have:=pG.s1.hand;omega) x n (λv τ2 hD=>after v τ2 ?_));have:jd b t sd tg x.op x.who x.name n=mD t (bJ sd x.who):=by rw[e];rfl
    rw[this];exact hD
   ·rw[e];refine Za rfl (Za (v:=.func (.func 88) [.ak rb 0] []) (ld BH rfl) (Za (ld x1 (mc x)) ?_));refine Xd hP (f:=88) (ys:=[.ak rb 0,.agg (bq x),iv n]) rfl g88.ok rfl (Yd2 sA yU (by omega) h01 hf bW cI ht jq x n (λv τ2 hD=>after v τ2 ?_));have:jd b t sd tg x.op x.who x.name n=YY b t sd x.name:=by rw[e];rfl
    rw[this];exact hD
  refine Ya (λhq=>?_) (λhq=>?_)
  ·have:fA x.op=0:=by rw[fA,aI (by simpa using hq)]
   rw[this]at body;exact body
  ·have:fA x.op=1:=by rw[fA,aB (by simpa using hq)]
   rw[this]at body;exact body
theorem Ma(b:Bk)(zM:List Cd)(sd tg:Int)(h01:sd=0∨sd=1)(hf:ba b=true)(bW:Yg b.aj)(cI:(bu b).1=0)(l:List Ef):zj b zM sd tg l:=by
 have go:∀(m:Nat) (l:List Ef),(bz l).length<=m→zj b zM sd tg l:=by
  intro m
  induction m with
  |zero=>exact ZcP b zM sd tg h01 hf bW cI 0 (λ_ h=>absurd h (by omega))
  |succ m ih=>grind [ZcP]
 exact go _ l (No _)
def JS:Tx:=[48,49,50,51,52,53,54,55,56,57,97,98,99,100,101,102,103,104,105,106,107,108,109,110,111,112,113,114,115,116,117,118,119,120,121,122]
def BJ:Tx:=[48,48,48,49,48,50,48,51,48,52,48,53,48,54,48,55,48,56,48,57,49,48,49,49,49,50,49,51,49,52,49,53,49,54,49,55,49,56,49,57,50,48,50,49,50,50,50,51,50,52,50,53,50,54,50,55,50,56,50,57,51,48,51,49,51,50,51,51,51,52,51,53,51,54,51,55,51,56,51,57,52,48,52,49,52,50,52,51,52,52,52,53,52,54,52,55,52,56,52,57,53,48,53,49,53,50,53,51,53,52,53,53,53,54,53,55,53,56,53,57,54,48,54,49,54,50,54,51,54,52,54,53,54,54,54,55,54,56,54,57,55,48,55,49,55,50,55,51,55,52,55,53,55,54,55,55,55,56,55,57,56,48,56,49,56,50,56,51,56,52,56,53,56,54,56,55,56,56,56,57,57,48,57,49,57,50,57,51,57,52,57,53,57,54,57,55,57,56,57,57]
def jY(i:Nat):Tx:=if i<10 then [zDd (48+i)]else [zDd (48+i/10),zDd (48+i%10)]
theorem Yee:∀i<10,(JS.take (i+1)).drop i=jY i:=by decide
theorem ZdR:∀i<63,10<=i→(BJ.take (i*2+2)).drop (i*2)=jY i:=by decide
theorem YdV:∀i<63,∀j<63,jY i=jY j→i=j:=by decide
theorem ZbF(s:Tx)(i j:Nat)(h1:i<=j)(h2:j<=s.length)(σ:List ab):YF [.str s,iv i,iv j] σ=.ok (.str ((s.take j).drop i)) [] []:=by
 show (bif zAR i j&&zAR j s.length then aN.ok (.str ((s.take j).drop i)) [] []else .stop)=_;simp[h1,h2,sh]
theorem Zew(ib:Bool)(a b:Tx)(h:a.length+b.length<=1099511627776)(σ:List ab):Zn .add ib [.str a,.str b] σ=.ok (.str (a++b)) [] []:=by
 show (bif zAR (a.length+b.length) 1099511627776 then aN.ok (.str (a++b)) [] []else .stop)=_;rw[sh h];rfl
def ZJ:Nat→Tx
 |0=>[120]
 |i+1=>120::jY i
def yy(cs:List Cd):Nat→Nat→Tx
 |0,i=>ZJ i
 |n+1,i=>if (cs.any λc=>c.name==ZJ i)=true then yy cs n (i+1)else ZJ i
def IP(cs:List Cd):Tx:=yy cs 62 0
theorem Zcb(i:Nat):(jY i).length<=2:=by unfold jY;split<;>simp
theorem W9(i:Nat):(ZJ i).length<=3:=by
 cases i<;>simp_all [ZJ,Zcb]
theorem Qbm(cs:List Cd):∀(n i:Nat),(yy cs n i).length<=3
 |0,i=>W9 i
 |n+1,i=>by
  unfold yy;split
  ·exact Qbm cs n (i+1)
  ·exact W9 i
theorem QcY{i j:Nat}(hi:i<=63)(hj:j<=63)(h:ZJ i=ZJ j):i=j:=by
 have h0:∀k,jY k≠[]:=by intro k;unfold jY;split<;>simp
 cases i with
 |zero=>
  cases j<;>simp_all [ZJ]
 |succ i=>
  cases j with
  |zero=>simp_all [ZJ]
  |succ j=>
   grind [ZJ,YdV]
theorem XdG:∀(l m:List Tx),l.Nodup→(∀x∈l,x∈m)→l.length<=m.length
 |[],_,_,_=>by simp
 |a::l,m,hn,hs=>by
  have ha:=hs a (by simp);rw[zBr]at hn;have:=XdG l (m.erase a) hn.2 (λx hx=>(List.mem_erase_of_ne (λe=>hn.1 (by rw[←e];exact hx))).2 (hs x (by simp[hx])))
  grind
theorem ZcM{i:Nat}(hi:i<=62)(h:∀k<i,(cs.any λc=>c.name==ZJ k)=true):i<=cs.length:=by
 have hn:((zAB i).map ZJ).Nodup:=by
  rw[List.Nodup,List.pairwise_map];refine List.Pairwise.imp_of_mem ?_ List.nodup_range;intro a b ha hb cU e;rw[List.mem_range]at ha hb;exact cU (QcY (by omega) (by omega) e)
 have:=XdG _ (cs.map Cd.name) hn (λx hx=>by
  grind)
 simpa using this
def nO(cs:List Cd)(l:List Ef):Cd:=⟨IP cs,false,0,0,0,0,0,0,l,[],[],0⟩
def nf(b:Bk)(l:List Ef):Bool:=decide ((cH (b.aj++[nO b.aj l])).1=0)
@[reducible] def D2(t:Tx)(l:List Ef):List aa:=[.str t,.bool false,iv 0,iv 0,iv 0,iv 0,iv 0,iv 0,gZ l,.al,.al,iv 0]
theorem Zek(cs:List Cd)(l:List Ef):bd h0 rd (D2 (IP cs) l) (cN (nO cs l)):=
 .cons (aA.ro rfl) <| .cons (aA.ro rfl) <| .cons (aA.ro rfl) <| .cons (aA.ro rfl) <| .cons (aA.ro rfl) <| .cons (aA.ro rfl) <| .cons (aA.ro rfl) <| .cons (aA.ro rfl) <| .cons (aA.ro rfl) <|
  .cons (aA.nl 14) <| .cons (aA.nl 14) <| .cons (aA.ro rfl) .nil
theorem Qec(m:Nat→Option Nat)(c:Cd):(cN c).map (aa.cx m)=cN c:=rfl
theorem Yel(m:Nat→Option Nat)(l:List Cd):(ab.rows 12 (l.map cN)).dF (aa.cx m)=.rows 12 (l.map cN):=by
 simp[Qec]
theorem c504(i:Nat)(h:i<63):PC 203 [iv i] (.str (jY i)):=by
 refine Xa hP g203.ok rfl rfl ?_;rw[H1.e];unfold g203;dsimp only;refine ay (Ya (λq=>?_) (λq=>?_))
 ·have q:i<10:=by have:=of_decide_eq_true q;omega
  refine Za (Xj ..) ?_;rw[Xc (n:=i) (by omega)];refine Za (ZbF JS i (i+1) (by omega) (by show i+1<=36;omega) _) ?_;rw[Yee i q]
 ·have q:¬i<10:=by have:=of_decide_eq_false q;omega
  refine ay ?_;have w1:BY.wrap ((i:Int)*2)=((i*2:Nat):Int):=by grind [zAY]
  rw[w1];have w2:BY.wrap (((i*2:Nat):Int)+2)=((i*2+2:Nat):Int):=by grind [zAY]
  rw[w2];refine Za (ZbF BJ (i*2) (i*2+2) (by omega) (by show i*2+2<=200;omega) _) ?_;rw[ZdR i h (by omega)]
theorem JA(i:Nat)(h:i<63):PC 81 [iv i] (.str (jY i)):=by
 refine Xa hP g81.ok rfl rfl ?_;rw[H1.e];unfold g81;dsimp only;refine Xd hP (f:=122) rfl g122.ok rfl ?_;rw[H1.e];unfold g122;dsimp only;refine Xd hP (f:=170) rfl g170.ok rfl ?_;rw[H2.e];unfold g170;dsimp only;refine Za rfl (Xh (Za (v:=.bool (decide ((0:Int)<=(i:Int)))) rfl ?_));rw[show decide ((0:Int)<=(i:Int))=true from eX (by omega)];refine Qa (Za rfl (Qa (Za (v:=.bool (decide ((i:Int)<100))) rfl ?_)));rw[show decide ((i:Int)<100)=true from eX (by omega)];exact Za rfl (Xh (a_ (c504 i h) g203.ok rfl))
theorem Jx(l:List Cd)(hl:l.length<=1000000000):dh prog aG 77 [iM l] (.sl 0 0 l.length false) [.rows 12 (l.map cN)]:=by
 cases l with
 |nil=>
  refine dh.wg ?_ ?_
  ·refine Xw hP g77.ok rfl ?_;rw[H1.e];unfold g77;dsimp only;exact Za rfl (Xh (Tidy.ghost 12 (.inl rfl)))
  ·refine Xw hP g77.ok rfl ?_;rw[H1.e];unfold g77;dsimp only;exact Za rfl (Xe (Za rfl (Yd rfl rfl (Tidy.trans (Tidy.dP λM c u d=>XY (.aW true true 12 []) ⟨M,c⟩ u d) (Tidy.ghost 12 (.inr rfl))))))
 |cons x l=>
  refine Xw hP g77.ok rfl ?_;rw[H1.e];unfold g77;dsimp only;refine Za rfl (Xe (Za rfl ?_));refine Yd (v:=.sl 0 0 (x :: l).length false) (rd:=[]) (up:=[(0,.rows 12 ((x :: l).map cN))]) ?_ rfl (Tidy.refl _ _);show (match Zk 12 [] (iM (x :: l))with
   |some (ys,rd)=>bif aV ys&&zAR ((2*(([]:List (List aa)).length+ys.length)+192)*152) (2 ^ 48)then aN.ok (.sl 0 0 (([]:List (List aa)).length+ys.length) false) rd ([]++[(0,ab.rows 12 ([]++ys))])else aN.stop
   | none=>.stop)=_
  have h1:Zk 12 [] (iM (x::l))=some ((x::l).map cN,[]):=rfl;have h2:∀q:List Cd,aV (q.map cN)=true:=by
   intro q;induction q with
   |nil=>rfl
   |cons y q ih=>simp only[zAN,aV,ih,zBA];rfl
  have h3:zAR ((2*(([]:List (List aa)).length+((x::l).map cN).length)+192)*152) (2 ^ 48)=true:=sh (by grind)
  grind
theorem w292{l:List Cd}(hl:l.length<=1000000000)(hK:K (.sl σ.length 0 l.length false) (σ++[.rows 12 (l.map cN)])):VV.call (.call 77) [iM l] σ K:=by
 refine HR (Jx l hl) rfl g77.ok.plain rfl ?_;simp only[Zx,zAN,zBC,Yel,aa.cx,QD,IN];exact hK
theorem Jz(c:Cd)(t:Tx):PC 80 [.agg (cN c),.aq [.str t] 0] (.bool (c.name==t)):=by
 refine Xa hP g80.ok rfl rfl ?_;rw[H2.e];unfold g80;dsimp only;exact Yd rfl rfl (Za rfl (Za (v:=.str c.name) rfl (Za (v:=.str t) (bB rfl) (Za rfl rfl))))
theorem Jy(l:List Cd)(hl:l.length<=1000000000)(t:Tx):PC 79 [iM l,.func (.func 80) [] [.aq [.str t] 0]] (.bool (l.any λc=>c.name==t)):=by
 refine Xa hP g79.ok rfl rfl ?_;rw[H2.e];unfold g79;dsimp only;refine a_ (c259 l (by rw[c9];omega) 80 [] [.aq [.str t] 0] g80.ok.plain (λc=>c.name==t) (λc _=>Jz c t) (λc=>rfl)) g121.ok (Za (qP ..) ?_);simp[Nz]
theorem c202(b:Bk)(hf:ba b=true)(bW:Yg b.aj)(ik:b.aj.length<=61)(l:List Ef)(hl:bF l=true)(Kf:(bz l).length<=500000000):PC 46 [cE b,gZ l] (.bool (nf b l)):=by
 have gH:QG b.aj=true:=by
  simp_all [ba]
 have dE:QG (b.aj++[nO b.aj l])=true:=by
  simp only[QG,AI,fD,c9]at gH ⊢;refine⟨by simp;omega,?_⟩;rw[List.all_append,gH.2];have:=Qbm b.aj 62 0;simp only[List.all_cons,List.all_nil,zBA,Bool.true_and,iz,nO,IP,c9,AI,fD];exact⟨by omega,hl,rfl,rfl⟩
 have Vy:Yg (b.aj++[nO b.aj l]):=by
  intro c hc;rcases zAF.1 hc with hc|hc
  ·exact bW c hc
  simp_all [pM,nO,bz]
 have h293:=Bl _ dE Vy;refine Xa hP g46.ok rfl rfl ?_;rw[H2.e];unfold g46;dsimp only;refine Yd (v:=.ak 0 0) (rd:=[]) (up:=[(0,.box (cq b))]) rfl rfl (Za rfl (Za (v:=iM b.aj) (ld (row:=cq b) rfl rfl) (w292 (by omega) ?_)));refine Za (v:=iv b.aj.length) rfl (Za (Zt ..) ?_);rw[show decide ((b.aj.length:Int)=240)=false from gB (by omega)];refine Xe (Yd (v:=.ak 2 0) (rd:=[]) (up:=[(2,.box [.str []])]) rfl rfl (Yd (v:=.aQ) (rd:=[]) (up:=[(2,.box [.str [120]])]) rfl rfl ?_));have Ld:∀r∈b.aj.map cN,gh r=true:=by
  intro r hr;obtain⟨c,_,rfl⟩:=zAh.1 hr;rfl
 refine Xg (ι:=Nat) (λi vs τ=>vs=[iv i]∧i<=61∧τ=[.box (cq b),.rows 12 (b.aj.map cN),.box [.str (ZJ i)]]∧(∀k<i,(b.aj.any λc=>c.name==ZJ k)=true)∧IP b.aj=yy b.aj (62-i) i) (λi=>62-i) 0 ⟨rfl,by omega,rfl,by omega,rfl⟩ ?_;rintro i vs τ again ⟨rfl,hi,rfl,iP,sO⟩ bj;have e61:62-i=(61-i)+1:=by omega
 rw[e61,yy]at sO;refine Za rfl (Xu (rd:=[1,2]) (Jy b.aj (by omega) (ZJ i)) rfl g79.ok.plain (.cons (aA.own (σ:=[.box (cq b),.rows 12 (b.aj.map cN),.box [.str (ZJ i)]]) rfl (by simp) (by simp) (OE _ _ (by simp)) Ld) (.cons (aA.func .nil (.cons (aA.box (row:=[.str (ZJ i)]) rfl (by simp) (.cons (aA.ro rfl) .nil)) .nil)) .nil)) rfl (Ya (λh=>?_) (λh=>?_)))
 ·rw[aI h]at sO;have wH:∀k<i+1,(b.aj.any λc=>c.name==ZJ k)=true:=by
   intro k hk;by_cases e:k=i
   ·rw[e];exact h
   ·exact iP k (by omega)
  have hle:=ZcM (cs:=b.aj) (i:=i+1) (by omega) wH;refine a_ (JA i (by omega)) g81.ok (Za (Zew _ [120] (jY i) (by have:=Zcb i;simp;omega) _) (Yd (v:=.aQ) (rd:=[]) (up:=[(2,.box [.str (ZJ (i+1))])]) rfl rfl (Za (Xj ..) ?_)));rw[Xc (n:=i) (by omega)]
  grind
 ·rw[aB (by simp[h])]at sO;refine ay (Yd (QL 12 152 (b:=1) (c:=3) (len:=b.aj.length) (rs:=b.aj.map cN) (row:=D2 (ZJ i) l) rfl rfl (by simp) rfl (by omega)) rfl ?_);rw[←sO];refine Xu (rd:=[4]) h293 rfl g78.ok.plain (.cons (aA.dP (y:=.aW false false 12 ((b.aj++[nO b.aj l]).map cN)) (aA.sl (rs:=b.aj.map cN++[D2 (IP b.aj) l]) rfl (by simp) (by simp) (by simp) (λk row row' q1 q2=>?_)) (λM u d=>d.gp)) .nil) rfl ?_
  ·rw[IN]at q1;by_cases hk:k<b.aj.length
   ·grind [bd.ro]
   grind [Zek]
  ·refine ae ?_;rfl
theorem Xbp{e:Int}(hp:s.phase=1)(ha:s.ao.length=0):aL e b s true=(aL e b { s with phase:=0 } false&&s.bD):=by
 rw[zAo,AI];constructor
 ·intro h;exact⟨Qcc h hp ha,Zbq h hp⟩
 ·rintro⟨h,ic⟩;simp only[aL,AI]at h ⊢;obtain⟨a1,a2,a3,a4,a5,a6,a7,a8,a9,b1,b2,b3,b4,h⟩:=h;have Uu:=zAc.1 ha;refine⟨a1,a2,a3,a4,a5,by simp[hp],by simp[hp],a8,a9,?_,b2,b3,b4,?_⟩
  ·rw[hp];exact b1
  ·rw[aB (by simp[hp]),Uu];simp[ic,fq]
theorem YcC:∀ {l pre:List Cd},(dI cs pre l).1=0→∀c∈l,eI cs c=true
 |c::l,pre,h,x,hx=>by
  unfold dI at h;split at h
  ·omega
  split at h
  ·rename_i hc;simp only[zAS]at hx;rcases hx with rfl|hx
   ·exact hc
   ·exact YcC h x hx
  omega
theorem Qdd(h:(cH cs).1=0):∀c∈cs,eI cs c=true:=by
 grind [cH,YcC]
theorem Jc{l:List Ef}(h:nf b l=true):bY (b.aj++[nO b.aj l]) true 1 l=true∧(bz l).length<=200:=by
 have hc:=Qdd (of_decide_eq_true h) (nO b.aj l) (by simp);simp only[eI,AI,fD,bE]at hc
 grind [pM,nO,IB]
def Yt(b:Bk)(sd fu:Int)(l:List Ef):Bool:=(((decide (sd<0)||decide (sd>1))||decide (fu<0))||decide (fu>1000)) || !nf b l
def LW(l:List Ev)(lv:aa)(σ:List ab):Prop:=(l=[]∧lv=.al)∨(l≠[]∧∃c rows,lv=.sl c 0 l.length false∧ai σ c=.rows 7 rows∧eY rows l)
theorem LV.lw(h:LV rb l lv σ):LW l lv σ:=by
 rcases h with h|⟨h0,c,rows,_,h1,h2,h3⟩
 ·exact .inl h
 ·exact .inr ⟨h0,c,rows,h1,h2,h3⟩
theorem wb(s:St)(hs:aY 1000000000 s):PC 20 [bZ s] (bZ s):=
 RH (c59 s hs) ⟨zAB 11,(SB.copy (σ:=jn s) (n:=0) (λi x h=>by rw[IN];exact Yq h) (λi hi=>by simp_all)).agg⟩
theorem Rc(b:Bk)(hf:ba b=true)(bW:Yg b.aj)(ik:b.aj.length<=61)(s:St)(hs:aY 1000000000 s)(sd tg fu:Int)(l:List Ef)(hl:bF l=true)(vF:(bz l).length<=500000000)(N C:Nat)(hT:TB N s)(hN:N+12000<=1000000)(hC:Zm s<=C)(mH:C+200<=1000000)
 (hE1:aL (bu b).1 b s true=false→∀σ',dg σ σ' []→K (.bp [.agg aT,.al,iv 0,iv 170]) σ')
 (hE2:aL (bu b).1 b s true=true→Yt b sd fu l=true→∀σ',dg σ σ' []→K (.bp [.agg aT,.al,iv 0,iv 2]) σ')
 (hK:aL (bu b).1 b s true=true→Yt b sd fu l=false→∀ σ' lv,dg σ σ' []→LW (runs b sd tg l s fu).2.2.2 lv σ'→(∀ k n,lv=.sl k 0 n false→σ.length<=k) →
   K (.bp [bZ (runs b sd tg l s fu).2.1,lv,iv (runs b sd tg l s fu).2.2.1,iv (runs b sd tg l s fu).1]) σ') :
  g23.u VV [cE b,bZ s,.agg [iv sd,iv tg],gZ l,iv fu] σ K:=by
 rw[H5.e];unfold g23;dsimp only;refine Yd (v:=.ak σ.length 0) (rd:=[]) (up:=[(σ.length,.box (cq b))]) rfl (Ye σ _) ?_;have a0:=dg.ke σ (.box (cq b));have b0:=Yc σ (.box (cq b));have LK:(σ++[ab.box (cq b)]).length=σ.length+1:=by simp
 generalize σ++[ab.box (cq b)]=σ0 at *;refine Yd (v:=.ak σ0.length 0) (rd:=[]) (up:=[(σ0.length,.box (aF s))]) rfl (Ye σ0 _) ?_;have a1:=a0.j_ (.box (aF s));have b1:=Qb [ab.box (aF s)] b0;have s1:=Yc σ0 (.box (aF s));have o7:(σ0++[ab.box (aF s)]).length=σ0.length+1:=by simp
 generalize σ0++[ab.box (aF s)]=σ1 at *;refine Yd (v:=.ak σ1.length 0) (rd:=[]) (up:=[(σ1.length,.box [iv sd,iv tg])]) rfl (Ye σ1 _) ?_;have a2:=a1.j_ (.box [iv sd,iv tg]);have b2:=Qb [ab.box [iv sd,iv tg]] b1;have s2:=Qb [ab.box [iv sd,iv tg]] s1;have v2:=Yc σ1 (.box [iv sd,iv tg]);have kD:(σ1++[ab.box [iv sd,iv tg]]).length=σ1.length+1:=by simp
 generalize σ1++[ab.box [iv sd,iv tg]]=σ2 at *;refine Yd (v:=.ak σ2.length 0) (rd:=[]) (up:=[(σ2.length,.box aT)]) rfl (Ye σ2 _) ?_;have a3:=a2.j_ (.box aT);have b3:=Qb [ab.box aT] b2;have s3:=Qb [ab.box aT] s2;have v3:=Qb [ab.box aT] v2;have z3:=Yc σ2 (.box aT);have DX:(σ2++[ab.box aT]).length=σ2.length+1:=by simp
 generalize σ2++[ab.box aT]=σ3 at *;refine Za (v:=bZ s) (ld s3 rfl) (Zv (row:=aF s) (row':=aF s) rfl rfl rfl ?_);have a4:=a3.j_ (.box (aF s));have b4:=Qb [ab.box (aF s)] b3;have s4:=Qb [ab.box (aF s)] s3;have v4:=Qb [ab.box (aF s)] v3;have z4:=Qb [ab.box (aF s)] z3;have p4:=Yc σ3 (.box (aF s));have DY:(σ3++[ab.box (aF s)]).length=σ3.length+1:=by simp
 generalize σ3++[ab.box (aF s)]=σ4 at *;refine Za rfl (Za (v:=aO s.phase) (ld s4 rfl) ?_);refine ay ?_;refine Sl (v1:=.ak σ0.length 5) (v2:=aP s.ao) (v3:=iv s.ao.length) (d:=((s.ao.length:Int)==0)) (q3:=[]) rfl (ld (row:=aF s) s4 rfl) (by simp[Yn]) rfl ?_;refine Qg λk' ek=>?_;have nK:∀(t:St) (τ:List ab),aY 1000000000 t→dg σ τ []→ai τ σ.length=.box (cq b)→ai τ σ0.length=.box (aF s)→ai τ σ1.length=.box [iv sd,iv tg]→ai τ σ2.length=.box aT→ai τ σ3.length=.box (aF t) →
   (aL (bu b).1 b t false && !(decide (t.phase≠s.phase) && !s.bD))=aL (bu b).1 b s true→k' [] τ:=by
  intro t τ Lm at_ bt st vt zt pt lL;have PD:=Zb zt;rw[ek];clear ek;have zF:=c55 b hf bW t Lm;refine Za (v:=cE b) (ld bt rfl) (Za (v:=bZ t) (ld pt rfl) (a_ zF g43.ok ?_));refine Za (ZX ..) ?_;have ux:∀K':aa→Prop,K' (.bool (!aL (bu b).1 b s true)) →
    VV.gr (.bool (decide ((bif aL (bu b).1 b t false then (0:Int)else 170)≠0))) false (λk=>VV.rd (Zc 2 [.ak σ3.length 0] τ) k) λt34=>
    VV.gr (.bool (decide ((bif aL (bu b).1 b t false then (0:Int)else 170)≠0))) false (λk=>VV.rd (Qe false 1 [t34] τ) k) λt35=>
    VV.gr (.bool (decide ((bif aL (bu b).1 b t false then (0:Int)else 170)≠0))) false (λk=>VV.rd (Zc 2 [.ak σ0.length 0] τ) k) λt36=>
    VV.gr (.bool (decide ((bif aL (bu b).1 b t false then (0:Int)else 170)≠0))) false (λk=>VV.rd (Qe false 1 [t36] τ) k) λt37=>
    VV.gr (.bool (decide ((bif aL (bu b).1 b t false then (0:Int)else 170)≠0))) false (λk=>VV.rd (Zn .neq false [t35,t37] τ) k) λt38=>
    VV.gr (.bool (decide ((bif aL (bu b).1 b t false then (0:Int)else 170)≠0))) false (λk=>VV.rd (rl [t38] τ) k) λt39=>
    VV.gr t39 true (λk=>VV.rd (Zc 3 [.ak σ0.length 0] τ) k) λt40=>
    VV.gr t39 true (λk=>VV.rd (Qe false 1 [t40] τ) k) λt41=>
    VV.gr t39 true (λk=>VV.rd (t_ .not [t41] τ) k) λt42=>
    VV.gr (.bool (decide ((bif aL (bu b).1 b t false then (0:Int)else 170)≠0))) false (λk=>VV.rd (Yo [t39,t42,(.bool false)] τ) k) λt43=>
    VV.rd (Yo [(.bool (decide ((bif aL (bu b).1 b t false then (0:Int)else 170)≠0))),(.bool true),t43] τ) K':=by
   intro K' lD;rw[←lL]at lD;rcases cD (aL (bu b).1 b t false)with q|q
   ·rw[q]at lD ⊢;refine ay ?_;refine Za (v:=aO t.phase) (ld pt rfl) ?_;refine ay ?_;refine Za (v:=aO s.phase) (ld st rfl) ?_;refine ae ?_;rcases cD (decide (t.phase≠s.phase))with u|u
    ·rw[u]at lD ⊢;refine ay (Za (v:=.bool s.bD) (ld st rfl) (ay ?_));simpa using lD
    ·rw[u]at lD ⊢;refine ay ?_;simpa using lD
   ·rw[q]at lD ⊢;refine ay ?_;simpa using lD
  refine ux _ ?_;clear ux;rcases cD (aL (bu b).1 b s true)with hm|hm
  rotate_left
  ·rw[hm];refine ay (Yd (c8 (row':=aT) zt rfl rfl rfl) (Ze _ PD) (Zp (Yr PD rfl) ?_));exact hE1 hm _ (at_.dp (by omega) _)
  rw[hm];refine Xe (Za rfl (Za (v:=iv sd) (ld vt rfl) ?_));refine ay (vS (d:=decide (sd>1)) (v1:=.ak σ1.length 0) (v2:=iv sd) (λ_=>rfl) (λ_=>ld vt rfl) (λ_=>rfl) (X1 (d:=decide (fu<0)) (v1:=iv fu) (λ_=>rfl) (λ_=>rfl) (X1 (d:=decide (fu>1000)) (v1:=iv fu) (λ_=>rfl) (λ_=>rfl) ?_)));have oK:Yt b sd fu l=true→∀K':aa→Prop,True:=λ_ _=>trivial;have rT:∀K':KT,K' (.bool (Yt b sd fu l)) τ →
    VV.gr (.bool (((decide (sd<0)||decide (sd>1))||decide (fu<0))||decide (fu>1000))) false (λk=>VV.rd (Qe true 2 [.ak σ.length 0] τ) k) λt64=>
    VV.gr (.bool (((decide (sd<0)||decide (sd>1))||decide (fu<0))||decide (fu>1000))) false (λk=>VV.rd (rl [gZ l] τ) k) λt65=>
    VV.gw (.bool (((decide (sd<0)||decide (sd>1))||decide (fu<0))||decide (fu>1000))) false (λk=>VV.call (.call 46) [t64,t65] τ k) τ λt66 σ=>
    VV.gr (.bool (((decide (sd<0)||decide (sd>1))||decide (fu<0))||decide (fu>1000))) false (λk=>VV.rd (t_ .not [t66] σ) k) λt67=>
    VV.rd (Yo [(.bool (((decide (sd<0)||decide (sd>1))||decide (fu<0))||decide (fu>1000))),(.bool true),t67] σ) (λv=>K' v σ):=by
   intro K' lD;unfold Yt at lD;rcases cD (((decide (sd<0)||decide (sd>1))||decide (fu<0))||decide (fu>1000))with q|q
   ·rw[q]at lD ⊢;exact ay lD
   ·rw[q]at lD ⊢;refine Qa (Za (v:=cE b) (ld bt rfl) ?_);refine ay (a_ (c202 b hf bW ik l hl vF) g46.ok ?_);refine ay lD
  refine rT _ ?_;clear rT oK;rcases cD (Yt b sd fu l)with hb|hb
  ·rw[hb];refine ay (Yd (c8 (row':=aT) zt rfl rfl rfl) (Ze _ PD) (Zp (Yr PD rfl) ?_));exact hE2 hm hb _ (at_.dp (by omega) _)
  rw[hb];refine Xe ?_;have cj:=hb;unfold Yt at cj;simp only[zAx,s9,zBt]at cj;obtain⟨⟨⟨⟨h1,h2⟩,h3⟩,h4⟩,h5⟩:=cj;have cI:=(Xo.1 hm).1;have hM:=(Xo.1 hm).2;obtain⟨UG,va⟩:=Jc h5;refine Xf (v:=cE b) (ld bt rfl) (Zg _) (Xf (v:=bZ s) (ld st rfl) (Zg _) (i_ (wb s hs) g20.ok (Xf (v:=.agg [iv sd,iv tg]) (ld vt rfl) (Zg _) (Zi (v:=.agg (dA b s sd tg .al fu .bK)) rfl ?_))));refine Xf (v:=.ak τ.length 0) (rd:=[]) (up:=[(τ.length,.box (dA b s sd tg .al fu .bK))]) rfl (Ye τ _) ?_;have qW:=Zb bt;have ic:=Zb st;have Lr:=Zb vt;have w1:τ.length≠σ.length:=by omega
  have w2:τ.length≠σ0.length:=by omega
  have w3:τ.length≠σ1.length:=by omega
  have w4:τ.length≠σ2.length:=by omega
  refine Qv (by rfl) ?_;have TK:=at_.j_ (.box (dA b s sd tg .al fu .bK));have rt2:=Yc τ (.box (dA b s sd tg .al fu .bK));have zt2:=Qb [ab.box (dA b s sd tg .al fu .bK)] zt;have aal:(τ++[ab.box (dA b s sd tg .al fu .bK)]).length=τ.length+1:=by simp
  generalize τ++[ab.box (dA b s sd tg .al fu .bK)]=τ2 at *;refine Xd hP (f:=47) rfl g47.ok rfl (Ma b (b.aj++[nO b.aj l]) sd tg (by omega) hf bW cI l τ2 τ.length s fu .bK .al [] N C 1 _ rt2 (.inl ⟨rfl,rfl⟩) hl UG va ⟨hM,hT,hC⟩ (by omega) (by omega) (by simp;omega) (by omega) (by omega) (λv τ3 hD=>?_));obtain⟨cJ,lP,p1,p2,rfl,p4⟩:=hD;rw[zAL]at p4;have lD:=hK hm hb;generalize runs b sd tg l s fu=r at *;have aaz:∃cs,True:=⟨0,trivial⟩;have uE:LV τ.length [] aa.al τ2:=.inl ⟨rfl,rfl⟩;have zt3:=p1.get uE zt2 w4.symm;have yR:=Zb zt3;refine Zi rfl (Zi rfl (Xf (v:=bZ r.2.1) (ld p2 rfl) (Zg _) (Zi rfl (Zi rfl (Xf (v:=cJ) (ld p2 rfl) (Zg _) (Zi rfl (Zi rfl (Xf (v:=iv r.2.2.1) (ld p2 rfl) (Zg _) ?_))))))));refine Xf (c8 (row':=aF r.2.1) zt3 rfl rfl rfl) (Ze _ yR) (Qv (by simp[Qi,Xm,Xn,Yv,cf,dS,zAB,zAd,w4,w4.symm]) (Zp (Yr yR rfl) ?_));have kh:∀k n,cJ=.sl k 0 n false→τ2.length<=k:=by
   intro k n e;rcases p1.new k n e with h|⟨m,h⟩<;>simp_all
  have at3:dg σ τ3 []:=⟨zAX TK.1 p1.len,λk hk _=>by rw[p1.bU k (zAK hk TK.1) (by omega) (by intro n e;cases e),TK.2 k hk (by simp)]⟩;refine lD _ cJ (at3.dp (by omega) _) ?_ (λk n e=>by have:=kh k n e;omega);have KY:=p4.lw;rcases KY with h|⟨g0,c,rows,g1,g2,g9993⟩
  ·exact .inl h
  ·refine .inr ⟨g0,c,rows,g1,?_,g9993⟩;have:=kh c _ g1;rw[Xb _ (Zb g2) (by omega)];exact g2
 rcases cD ((s.phase==1)&&((s.ao.length:Int)==0))with hq|hq
 ·rw[hq];simp only[AI,beq_iff_eq]at hq;have hlp:=Zb p4;refine Xh (Za rfl (Yd (c8 (row:=aF s) (row':=aF { s with phase:=0 }) p4 rfl rfl rfl) (Ze _ hlp) ?_));refine nK { s with phase:=0 } _ ⟨hs.ao,hs.s0,hs.s1⟩ (a4.dp (by omega) _) (Yb b4 (by simp) (by omega)) (Yb s4 (by simp) (by omega)) (Yb v4 (by simp) (by omega)) (Yb z4 (by simp) (by omega)) (Zd _ hlp) ?_
  grind [Xbp]
 ·rw[hq];refine Xe (nK s _ hs a4 b4 s4 v4 z4 p4 ?_);rw[show decide (s.phase≠s.phase)=false from by simp];simp only[Bool.false_and,Bool.not_false,zBA];rw[zAo]
  grind [Xcc,P6]
end Go.Ah.Tz
end
section
namespace Go.Ah
theorem Tidy.map{σ:List ab}{v:aa}(φ:aa→aa)(hφ:∀(M:Nat→Option Obj) (c:Own) (x:aa) (u:Value),Den M c x u→Den M c (φ x) u):Tidy σ v (σ.map (λb=>b.dF φ)) v:=by
 intro GL w0 L g w r u d;have back:∀k blk,hp (σ.map (λb=>b.dF φ)) k=some blk→∃b0,hp σ k=some b0∧blk=b0.dF φ:=by
  intro k blk e;have e:(σ.map (λb=>b.dF φ))[k]?=some blk:=e;rw[zAT,Option.map_eq_some_iff]at e;obtain⟨b0,h1,h2⟩:=e;exact⟨b0,h1,h2.symm⟩
 refine⟨g.c,?_,d⟩;exact {
  keeps:=r.keeps
  aZ:=r.aZ
  src:=r.src
  cr:=r.cr
  ed:=λk e=>r.ed k (by
   have e:(σ.map (λb=>b.dF φ))[k]?=none:=e;rw[zAT,Option.map_eq_none_iff]at e;exact e)
  jy:=λk blk e=>by
   obtain⟨b0,h1,_⟩:=back k blk e;exact r.jy k b0 h1
  own:=λk blk cb e hl ec hv=>by
   obtain⟨b0,h1,rfl⟩:=back k blk e;rw[ab.bS]at hl;obtain⟨q1,q2,o,q3,q4⟩:=r.own k b0 cb h1 hl ec hv;exact⟨q1,q2,o,q3,q4.dF (p:=λ_=>True) (λx v _ d=>hφ _ _ x v d) (ab.all_true _)⟩
  bn:=λk blk cb e hl ec hv=>by
   obtain⟨b0,h1,rfl⟩:=back k blk e;rw[ab.bS]at hl;have:=r.bn k b0 cb h1 hl ec hv;subst this;rfl
  inj:=λk k' x x' sL cb2 e1 e2 l1 l2 c1 rA v1 v2 iI=>by
   obtain⟨y,h1,rfl⟩:=back k x e1;obtain⟨y',uY,rfl⟩:=back k' x' e2;rw[ab.bS]at l1 l2;exact r.inj k k' y y' sL cb2 h1 uY l1 l2 c1 rA v1 v2 iI }
end Go.Ah
namespace Go.Ah.Tz
open Go.Proofs.Tryz (prog)
set_option maxRecDepth 100000
def pW(x:aa):aa:=match x with
 |.al=>.aW false false 1 []
 |x=>x
theorem XcM(M:Nat→Option Obj)(c:Own)(x:aa)(u:Value)(d:Den M c x u):Den M c (pW x) u:=by
 cases x with
 |al=>exact d.eO 1
 |_=>exact d
theorem ZcI{rows:List (List aa)}{l:List Ev}(h:eY rows l):rows.map (λr=>r.map pW)=l.map ck:=by
 induction h with
 |nil=>rfl
 |snoc rows l e cv _ nI ih=>
  simp only[zAa,zAN,zBC,ih]
  congr 1
  rcases nI with rfl|⟨rfl,h⟩
  ·rfl
  ·rw[ck,h];rfl
theorem Zdq{rows:List (List aa)}{l:List Ev}(h:eY rows l):∀r∈rows,gh r=true:=by
 induction h with
 |nil=>intro r hr;simp at hr
 |snoc rows l e cv _ nI ih=>
  intro r hr;rcases zAF.1 hr with hr|hr
  ·exact ih r hr
  ·rw[zAs]at hr;subst hr;rcases nI with rfl|⟨rfl,_⟩<;>rfl
theorem LW.Bi{l:List Ev}{lv:aa}{σ:List ab}(h:LW l lv σ)(s:St)(b c:Int):∃rd,aA (hp σ) rd (.bp [bZ s,lv,iv b,iv c]) (.bp [bZ s,.aW false false 7 (l.map ck),iv b,iv c]):=by
 rcases h with ⟨rfl,rfl⟩|⟨_,k,rows,rfl,hk,hR⟩
 ·exact⟨[],aA.bp (.cons (aA.ro rfl) (.cons (aA.nl 7) (.cons (aA.ro rfl) (.cons (aA.ro rfl) .nil))))⟩
 ·refine⟨[k],aA.bp (.cons (aA.ro rfl) (.cons (aA.dP (y:=.aW false false 7 (l.map ck)) ?_ (λM u d=>d)) (.cons (aA.ro rfl) (.cons (aA.ro rfl) .nil))))⟩;refine aA.dP (y:=.aW false false 7 (l.map ck)) (aA.dP (aA.sl (rs:=rows) (rs':=l.map ck) (Xv hk (by simp)) (by simp) (by rw[hR.len];omega) (by simp) (λi row row' q1 q2=>?_)) (λM u d=>d.gp)) (λM u d=>d);rw[IN]at q1;have hm:=ZcI hR;have h1:(rows.map λr=>r.map pW)[i]?=some (row.map pW):=by rw[zAT,q1];rfl
  rw[hm,q2]at h1;cases h1;have ln:=Zdq hR row (zAI q1);clear hm q2 q1
  induction row with
  |nil=>exact .nil
  |cons x row ih=>
   simp only[gh,AI]at ln;exact .cons (aA.dP (aA.ro ln.1) (λM u d=>XcM M bA x u d)) (ih ln.2)
section
variable (b:Bk) (hf:ba b=true) (bW:Yg b.aj) (ik:b.aj.length<=61) (s:St) (hs:aY 1000000000 s) (sd tg fu:Int) (l:List Ef) (hl:bF l=true) (vF:(bz l).length<=500000000) (N C:Nat) (hT:TB N s) (hN:N+12000<=1000000) (hC:Zm s<=C) (mH:C+200<=1000000)
 (hm:aL (bu b).1 b s true=true) (hb:Yt b sd fu l=false)
include hf bW ik hs hl vF hT hN hC mH hm hb
theorem T0:PC 23 [cE b,bZ s,.agg [iv sd,iv tg],gZ l,iv fu] (.bp [bZ (runs b sd tg l s fu).2.1,.aW false false 7 ((runs b sd tg l s fu).2.2.2.map ck),iv (runs b sd tg l s fu).2.2.1,iv (runs b sd tg l s fu).1]):=by
 exact Yi hP g23.ok rfl (Rc b hf bW ik s hs sd tg fu l hl vF N C hT hN hC mH (λh=>by rw[hm]at h;cases h) (λ_ h=>by rw[hb]at h;cases h) (λ_ _ σ' lv _ h _=>h.Bi _ _ _))
end
end Go.Ah.Tz
end
section
namespace Go.Ah.Tz
open Go.Proofs.Tryz (prog)
set_option maxRecDepth 100000
def bO(s:St):Int:=if s.s0.aX<=0∧s.s1.aX<=0 then 3 else if s.s0.aX<=0 then 2 else if s.s1.aX<=0 then 1 else 0
def zr(b:Bk)(s:St)(r:Int):Bool:=!(((decide (r<=0)||decide (r>3))||(s.phase==2)) || !aL (bu b).1 b s true)
def dK(b:Bk)(s:St)(r:Int):St×Ev:=if zr b s r=true then ({ s with phase:=2,ao:=[],result:=r },⟨15,0,0,0,0,r,[]⟩)else (s,jx)
attribute [local irreducible] aE.rd aE.pu aE.wr aE.dr aE.gr aE.gw aE.gl aE.gd aE.opt cP W
set_option maxHeartbeats 4000000
theorem Zee(b:Bool):decide ((bif b then (0:Int)else 170)=0)=b:=by cases b<;>rfl
variable{K:KT}
variable{σ τ:List ab}
theorem w209(b:Bk)(hf:ba b=true)(bW:Yg b.aj)(s:St)(hs:aY 1000000000 s){bb sb:Nat}(h1:ai σ bb=.box (cq b))(h2:ai σ sb=.box (aF s))
 (hK:∀σ',dg σ σ' []→K (.bool (aL (bu b).1 b s true)) σ'):g19.u VV [.ak bb 0,.ak sb 0] σ K:=by
 rw[H2.e];unfold g19;dsimp only;refine Za rfl (Za (v:=bZ s) (ld h2 rfl) (Zv (row:=aF s) (row':=aF s) rfl rfl rfl ?_));have a1:=dg.ke σ (.box (aF s));have b1:=Qb [ab.box (aF s)] h1;have s1:=Qb [ab.box (aF s)] h2;have p1:=Yc σ (.box (aF s));have hlb:=Zb h1;have o7:(σ++[ab.box (aF s)]).length=σ.length+1:=by simp
 generalize σ++[ab.box (aF s)]=σ1 at *;refine Za rfl (Za rfl (Za (v:=aO s.phase) (ld s1 rfl) ?_));refine ay ?_;refine XeG (d:=((s.ao.length:Int)==0)) (v1:=.ak sb 0) (v2:=.ak sb 0) (v3:=.ak sb 5) (v4:=aP s.ao) (v5:=iv s.ao.length) (q5:=[]) (λ_=>rfl) (λ_=>rfl) (λ_=>rfl) (λ_=>ld s1 rfl) (λ_=>by simp[Yn]) (λ_=>rfl) ?_;refine Qg λk' ek=>?_;have nK:∀(t:St) (τ:List ab),aY 1000000000 t→dg σ τ []→ai τ bb=.box (cq b)→ai τ σ.length=.box (aF t)→aL (bu b).1 b t false=aL (bu b).1 b s true→k' [] τ:=by
  intro t τ Lm at_ bt pt lL;rw[ek];refine Za rfl (Za (v:=cE b) (ld bt rfl) (Za (v:=bZ t) (ld pt rfl) (a_ (c55 b hf bW t Lm) g43.ok (Za (Zt ..) ?_))));rw[Zee,lL];exact hK _ at_
 rcases cD ((s.phase==1)&&((s.ao.length:Int)==0))with hq|hq
 ·rw[hq];simp only[AI,beq_iff_eq]at hq;have hm:=Xbp (e:=(bu b).1) (b:=b) hq.1 (by omega);refine ay (Za (v:=.bool s.bD) (ld s1 rfl) (Za rfl (Ya (λh=>?_) (λh=>?_))))
  ·simp_all
  ·have h:s.bD=true:=by simpa using h
   rw[h,zBA]at hm;refine Za rfl (Yd (c8 (row:=aF s) (row':=aF { s with phase:=0 }) p1 rfl rfl rfl) (Ze _ (by omega)) ?_);exact nK { s with phase:=0 } _ ⟨hs.ao,hs.s0,hs.s1⟩ (a1.dp (by omega) _) (Yb b1 (by simp) (by omega)) (Zd _ (by omega)) hm.symm
 ·rw[hq];refine Xe (nK s _ hs a1 b1 p1 ?_);rw[zAo]
  grind [Xcc,P6]
theorem w212(s:St){sb:Nat}(h2:ai σ sb=.box (aF s))(hK:K (aO (bO s)) σ):g27.u VV [.ak sb 0] σ K:=by
 rw[H1.e];unfold g27;dsimp only;refine ay ?_;refine Za (v:=iv s.s0.aX) (ld h2 rfl) ?_;refine ay ?_;refine Za (v:=iv s.s1.aX) (ld h2 rfl) ?_;refine ay ?_;refine YeG (d:=decide (s.s1.aX<=0)) (λ_=>rfl) ?_;by_cases a:s.s0.aX<=0<;>by_cases c:s.s1.aX<=0
 ·rw[eX a,eX c];have:bO s=3:=by simp[bO,a,c]
  rw[this]at hK;exact Xh hK
 ·rw[eX a,gB c];have:bO s=2:=by simp[bO,a,c]
  rw[this]at hK;exact Xe (Xh hK)
 ·rw[gB a,eX c];have:bO s=1:=by simp[bO,a,c]
  rw[this]at hK;exact ay hK
 ·rw[gB a,gB c];have:bO s=0:=by simp[bO,a,c]
  rw[this]at hK;exact Xe (Xe (Xe hK))
theorem q98(b:Bk)(hf:ba b=true)(bW:Yg b.aj)(s:St)(hs:aY 1000000000 s)(r:Int):PC 13 [cE b,bZ s,aO r] (.bp [bZ (dK b s r).1,wB (dK b s r).2]):=by
 refine Yi hP g13.ok rfl ?_;rw[H3.e];unfold g13;dsimp only;refine Yd (v:=.ak 0 0) (rd:=[]) (up:=[(0,.box (cq b))]) rfl (Ye [] _) (Yd (v:=.ak 1 0) (rd:=[]) (up:=[(1,.box (aF s))]) rfl (Ye [ab.box (cq b)] _) (Yd (v:=.ak 2 0) (rd:=[]) (up:=[(2,.box aT)]) rfl (Ye [ab.box (cq b),.box (aF s)] _) (Yd (v:=.ak 3 0) (rd:=[]) (up:=[(3,.box ca)]) rfl (Ye [ab.box (cq b),.box (aF s),.box aT] _) (Za (v:=bZ s) (ld (row:=aF s) rfl rfl) (a_ (wb s hs) g20.ok (Zv (row:=aF s) (row':=aF s) rfl rfl rfl ?_))))));have key:∃σ:List ab,σ=[ab.box (cq b),.box (aF s),.box aT,.box ca]++[.box (aF s)]:=⟨_,rfl⟩;obtain⟨σ,eσ⟩:=key;rw[show ([ab.box (cq b),.box (aF s),.box aT]++[.box ca]++[.box (aF s)]:List ab)=σ by rw[eσ];rfl];rw[show ([ab.box (cq b),.box (aF s),.box aT]++[.box ca]:List ab).length=4 from rfl];have b1:ai σ 0=.box (cq b):=by rw[eσ];rfl
 have s1:ai σ 1=.box (aF s):=by rw[eσ];rfl
 have z1:ai σ 2=.box aT:=by rw[eσ];rfl
 have e1:ai σ 3=.box ca:=by rw[eσ];rfl
 have o1:ai σ 4=.box (aF s):=by rw[eσ];rfl
 have hl:σ.length=5:=by rw[eσ];rfl
 clear eσ;refine Za (v:=.bool (decide (r<=0))) rfl (X1 (d:=decide (r>3)) (v1:=aO r) (λ_=>rfl) (λ_=>rfl) (vS (d:=(s.phase==2)) (v1:=.ak 1 2) (v2:=aO s.phase) (λ_=>rfl) (λ_=>ld s1 rfl) (λ_=>rfl) ?_));have rT:∀K':KT,(∀τ,dg σ τ []→K' (.bool (!zr b s r)) τ) →
   VV.gw (.bool ((decide (r<=0)||decide (r>3))||(s.phase==2))) false (λk=>VV.call (.call 19) [.ak 0 0,.ak 1 0] σ k) σ λt23 σ=>
   VV.gr (.bool ((decide (r<=0)||decide (r>3))||(s.phase==2))) false (λk=>VV.rd (t_ .not [t23] σ) k) λt24=>
   VV.rd (Yo [.bool ((decide (r<=0)||decide (r>3))||(s.phase==2)),.bool true,t24] σ) (λv=>K' v σ):=by
  intro K' lD;unfold zr at lD;rcases cD ((decide (r<=0)||decide (r>3))||(s.phase==2))with q|q
  ·rw[q]at lD ⊢;have:=lD σ ⟨No _,λ_ _ _=>rfl⟩;exact Qx rfl (Qc rfl (Za rfl (by simpa using this)))
  ·rw[q]at lD ⊢;refine Qp (Xd hP (f:=19) rfl g19.ok rfl (w209 b hf bW s hs b1 s1 λτ hτ=>Qa (Za rfl (Za rfl ?_))));simp_all
 refine rT _ λτ hτ=>?_;clear rT;have z2:=hτ.get z1;have e2:=hτ.get e1;have o2:=hτ.get o1;have l2:=Zb z2;have l3:=Zb e2;have l4:=Zb o2;rcases cD (zr b s r)with q|q
 ·have hr:0<r∧r<=3:=by have q:=q;simp only[zr,Bool.not_eq_true',zAx,s9]at q;omega
  rw[q];refine Xe (Za rfl (Yd (c8 (row':=aF { s with phase:=2 }) o2 rfl rfl rfl) (Ze _ l4) ?_));have o3:ai (τ.set 4 (.box (aF { s with phase:=2 }))) 4=.box (aF { s with phase:=2 }):=Zd _ l4;have z3:=Yb (x:=.box (aF { s with phase:=2 })) z2 (by simp) (show 4≠2 by decide);have e3:=Yb (x:=.box (aF { s with phase:=2 })) e2 (by simp) (show 4≠3 by decide);have k4:4<(τ.set 4 (.box (aF { s with phase:=2 }))).length:=by simpa using l4
  have k3:3<(τ.set 4 (.box (aF { s with phase:=2 }))).length:=by simpa using l3
  generalize τ.set 4 (.box (aF { s with phase:=2 }))=τ1 at *;have key:∀row,∃row',bX 5 [aa.al] (aF { s with phase:=2 })=some row'∧row'=row→True:=λ_=>⟨[],λ_=>trivial⟩
  let X:List aa:=tM { s with phase:=2,ao:=[],result:=s.result } .al (aP s.s0.az) (aP s.s0.hand) (aP s.s0.an) (gS s.s0.af) (aP s.s0.told) (aP s.s1.az) (aP s.s1.hand) (aP s.s1.an) (gS s.s1.af) (aP s.s1.told)
  let Y:List aa:=tM { s with phase:=2,ao:=[],result:=r } .al (aP s.s0.az) (aP s.s0.hand) (aP s.s0.an) (gS s.s0.af) (aP s.s0.told) (aP s.s1.az) (aP s.s1.hand) (aP s.s1.an) (gS s.s1.af) (aP s.s1.told)
  refine Za rfl (Yd (c8 (row':=X) o3 rfl rfl rfl) (Ze _ k4) ?_);have o4:ai (τ1.set 4 (.box X)) 4=.box X:=Zd _ k4;have z4:=Yb (x:=.box X) z3 (by simp) (show 4≠2 by decide);have e4:=Yb (x:=.box X) e3 (by simp) (show 4≠3 by decide);have m4:4<(τ1.set 4 (.box X)).length:=by simpa using k4
  generalize τ1.set 4 (.box X)=τ2 at *;refine Za rfl (Yd (c8 (row':=Y) o4 rfl rfl rfl) (Ze _ m4) ?_);have o5:ai (τ2.set 4 (.box Y)) 4=.box Y:=Zd _ m4;have z5:=Yb (x:=.box Y) z4 (by simp) (show 4≠2 by decide);have e5:=Yb (x:=.box Y) e4 (by simp) (show 4≠3 by decide);have m5:4<(τ2.set 4 (.box Y)).length:=by simpa using m4
  generalize τ2.set 4 (.box Y)=τ3 at *;refine Za (v:=.agg Y) (ld o5 rfl) (Za (v:=iv r) (by show G0 .i64 [.int .i8 r] τ3=_;simp only[G0];rw[zAY _ (by omega)]) (Za (v:=.agg [aO 15,iv 0,iv 0,iv 0,iv 0,iv r,.al]) rfl ?_));refine Yd (c8 (row':=Y) z5 rfl rfl rfl) (Ze _ (by omega)) ?_;have z6:ai (τ3.set 2 (.box Y)) 2=.box Y:=Zd _ (by omega);have e6:=Yb (x:=.box Y) e5 (by simp) (show 2≠3 by decide);have m6:4<(τ3.set 2 (.box Y)).length:=by simpa using m5
  generalize τ3.set 2 (.box Y)=τ4 at *;refine Yd (c8 (row':=[aO 15,iv 0,iv 0,iv 0,iv 0,iv r,.al]) e6 rfl rfl rfl) (Ze _ (by omega)) (Zp (Sw (Yb z6 (by simp) (show 3≠2 by decide)) rfl) (Zp (Yr (by omega) rfl) ?_));unfold dK;rw[aI q];exact⟨[],aA.bp (.cons (SB.agg (SB.mk (s:={ s with phase:=2,ao:=[],result:=r }) .al (RI.ro _) (RI.ro _) (RI.ro _) (RT.ro _) (RI.ro _) (RI.ro _) (RI.ro _) (RI.ro _) (RT.ro _) (RI.ro _))) (.cons (pw (e:=⟨15,0,0,0,0,r,[]⟩) RI.al) .nil))⟩
 ·rw[q];refine Xh (Za (v:=bZ s) (ld o2 rfl) ?_);refine ay (Yd (c8 (row':=aF s) z2 rfl rfl rfl) (Ze _ l2) ?_);have e3:=Yb (x:=.box (aF s)) e2 (by simp) (show 2≠3 by decide);have z3:ai (τ.set 2 (.box (aF s))) 2=.box (aF s):=Zd _ l2;have k3:3<(τ.set 2 (.box (aF s))).length:=by simpa using l3
  generalize τ.set 2 (.box (aF s))=τ1 at *;refine Yd (c8 (row':=ca) e3 rfl rfl rfl) (Ze _ k3) (Zp (Sw (Yb z3 (by simp) (show 3≠2 by decide)) rfl) (Zp (Yr k3 rfl) ?_));unfold dK;rw[aB (by rw[q];simp)];exact⟨[],aA.bp (.cons (SB.agg (SB.ro s)) (.cons (pw (e:=jx) RI.al) .nil))⟩
structure Tr where
 card:Int
 side:Int
 cM:Bool
@[reducible] def dG(x:Tr):List aa:=[iv x.card,iv x.side,.bool x.cM]
@[reducible] def qN(l:List Tr):aa:=.aW false false 3 (l.map dG)
def LE(l:List Ev)(lv:aa)(σ:List ab):Prop:=(l=[]∧lv=.al)∨∃c rows,lv=.sl c 0 l.length false∧ai σ c=.rows 7 rows∧eY rows l
def QW(ws:List Tr)(qv:aa)(σ:List ab):Prop:=(ws=[]∧qv=.al)∨∃c off rows,qv=.sl c off ws.length false∧ai σ c=.rows 3 rows∧rows.length=ws.length+off∧rows.drop off=ws.map dG
def Kq(ex:List Nat)(sz:Nat)(σ σ':List ab):Prop:=σ.length<=σ'.length∧∀k,k<σ.length→k∉ex→(∀r,ai σ k≠.rows sz r)→ai σ' k=ai σ k
variable{sz b k s c n:Nat}
variable{ex rd:List Nat}
theorem Kq.trans{υ:List ab}(h:Kq ex sz σ τ)(q:Kq ex sz τ υ):Kq ex sz σ υ:=
 ⟨zAX h.1 q.1,λk hk hn hr=>by rw[q.2 k (zAK hk h.1) hn (by rw[h.2 k hk hn hr];exact hr),h.2 k hk hn hr]⟩
theorem Kq.iq{σ':List ab}(h:dg σ σ' [])(ex:List Nat)(sz:Nat):Kq ex sz σ σ':=⟨h.1,λk hk _ _=>h.2 k hk (by simp)⟩
theorem Kq.app(ex:List Nat)(sz:Nat)(σ l:List ab):Kq ex sz σ (σ++l):=⟨by simp,λ_ hk _ _=>Yf l hk⟩
theorem Kq.set(sz:Nat)(σ:List ab)(x:ab)(h:b∈ex):Kq ex sz σ (σ.set b x):=
 ⟨by simp,λk hk hn _=>Xb x hk (λe=>hn (e▸h))⟩
theorem Kq.dp(h:Kq ex sz σ τ)(hb:σ.length<=b)(x:ab):Kq ex sz σ (τ.set b x):=
 ⟨by simpa using h.1,λk hk hn hr=>by rw[Xb x (zAK hk h.1) (by omega),h.2 k hk hn hr]⟩
theorem Kq.more{vD:List Nat}(h:Kq ex sz σ τ)(hs:∀k∈ex,k∈vD):Kq vD sz σ τ:=⟨h.1,λk hk hn hr=>h.2 k hk (λe=>hn (hs k e)) hr⟩
variable{row:List aa}
theorem Kq.box(h:Kq ex sz σ τ)(hk:ai σ k=.box row)(hn:k∉ex:=by simp;omega):ai τ k=.box row:=by
 rw[h.2 k (Zb hk) hn (by rw[hk];simp),hk]
variable{rs ys:List (List aa)}
theorem Kq.rows(h:Kq ex sz σ τ)(hk:ai σ k=.rows s rs)(hn:k∉ex)(hs:s≠sz):ai τ k=.rows s rs:=by
 rw[h.2 k (Zb hk) hn (by simp_all),hk]
def Bx(σ:List ab)(ex:List Nat):Prop:=∀k∈ex,∃row,ai σ k=.box row
theorem Bx.rows(h:Bx σ ex)(hk:ai σ k=.rows s rs):k∉ex:=by
 intro e;obtain⟨row,hr⟩:=h k e;rw[hk]at hr;cases hr
variable{l:List Ev}
theorem LE.mono{lv:aa}(h:LE l lv σ)(hk:∀c rs,ai σ c=.rows 7 rs→ai τ c=.rows 7 rs):LE l lv τ:=by
 rcases h with h|⟨c,rows,h1,h2,h3⟩
 ·exact .inl h
 ·exact .inr ⟨c,rows,h1,hk _ _ h2,h3⟩
variable{qv y:aa}
variable{ws:List Tr}
theorem QW.mono(h:QW ws qv σ)(hk:∀c rs,ai σ c=.rows 3 rs→ai τ c=.rows 3 rs):QW ws qv τ:=by
 rcases h with h|⟨c,off,rows,h1,h2,h3⟩
 ·exact .inl h
 ·exact .inr ⟨c,off,rows,h1,hk _ _ h2,h3⟩
theorem ZE(l:List ab)(h:ai σ c=.rows s rs):ai (σ++l) c=.rows s rs:=Qb l h
theorem XC(x:ab)(hb:ai σ b=.box row)(h:ai σ c=.rows s rs):ai (σ.set b x) c=.rows s rs:=
 Yb h (by simp) (by rintro rfl;rw[hb]at h;cases h)
theorem QL(n by_:Nat){off len:Nat}(hc:ai σ c=.rows n rs)(hl:rs.length=len+off)(hy:Zk n σ y=some (ys,rd))(hr:aV ys=true)(bH:(2*(len+ys.length)+192)*by_<=2 ^ 48) :
  Qf n by_ [.sl c off len false,y] σ=.ok (.sl σ.length 0 (len+ys.length) false) rd ([(c,.dead)]++[(σ.length,.rows n (rs.drop off++ys))]):=by
 simp_all [Qf,YB,yA,sh]
theorem CQ(n by_:Nat)(hy:Zk n σ y=some (ys,rd))(hr:aV ys=true)(bH:(2*ys.length+192)*by_<=2 ^ 48) :
  Qf n by_ [.al,y] σ=.ok (.sl σ.length 0 ys.length false) rd [(σ.length,.rows n ys)]:=by
 show YB n by_ σ [] [] y=_;simp_all [YB,sh]
theorem GP{e nn:Bool}{rows:List (List aa)}:Zk n σ (.aW e nn n rows)=some (rows,[]):=by
 simp[Zk]
theorem Re(hc:ai σ c=.rows n [row]):Zk n σ (.sl c 0 1 true)=some ([row],[c]):=X2 hc rfl
theorem QcR(l:List Tr):aV (l.map dG)=true:=QK (λr hr=>by obtain⟨x,_,rfl⟩:=zAh.1 hr;rfl)
theorem eY.app{rows:List (List aa)}{m:List Ev}(h:eY rows l)(k:eY ys m):eY (rows++ys) (l++m):=by
 induction k with
 |nil=>simpa using h
 |snoc aao l2 e cv _ nI ih=>rw[←zAb,←zAb];exact .snoc _ _ _ _ ih nI
theorem Yb8:∀(m:List Ev) {rows:List (List aa)} {l:List Ev},eY rows l→eY (rows++m.map ck) (l++m)
 |[],rows,l,h=>by simpa using h
 |e::m,rows,l,h=>by
  have:=Yb8 m (eY.snoc rows l e (aP e.aj) h (.inl rfl));simpa[zAb]using this
theorem Rj(l:List Ev):eY (l.map ck) l:=by simpa using Yb8 l .nil
theorem Xb8:∀(m:List Ev) {rows:List (List aa)} {l:List Ev},(∀e∈m,e.aj=[])→eY rows l→eY (rows++m.map C9) (l++m)
 |[],rows,l,_,h=>by simpa using h
 |e::m,rows,l,hm,h=>by
  have:=Xb8 m (λx hx=>hm x (by simp[hx])) (eY.snoc rows l e .al h (.inr ⟨rfl,hm e (by simp)⟩));simp_all [C9]
theorem ZeA(l:List Ev)(h:∀e∈l,e.aj=[]):eY (l.map C9) l:=by simpa using Xb8 l h .nil
theorem RM{rows:List (List aa)}(h:eY rows l):aV rows=true:=by
 refine QK ?_
 induction h with
 |nil=>intro r hr;simp at hr
 |snoc rows l e cv _ nI ih=>
  intro r hr;rcases zAF.1 hr with hr|hr
  ·exact ih r hr
  ·rw[zAs]at hr;subst hr;rcases nI with rfl|⟨rfl,h⟩<;>rfl
theorem Nu(hc:ai σ c=.rows n rs)(x:ab)(ex:List Nat):Kq ex n σ (σ.set c .dead++[x]):=
 ⟨by simp,λk hk _ hr=>by
  grind [Yf,Xb]⟩
theorem w210{qb:Nat}{ys:List Tr}(hq:ai σ qb=.box [qv])(hw:QW ws qv σ)(hy:Zk 3 σ y=some (ys.map dG,rd))(bH:ws.length+ys.length<=100000000)
 (hK:∀σ' vK,ai σ' qb=.box [vK]→QW (ws++ys) vK σ'→Kq [qb] 3 σ σ'→K (.bp []) σ'):g21.u VV [.ak qb 0,y] σ K:=by
 rw[H2.e];unfold g21;dsimp only;have yP:=Zb hq;refine Za rfl (Za rfl (Za (v:=qv) (ld hq rfl) ?_));rcases hw with ⟨rfl,rfl⟩|⟨c,off,rows,rfl,h2,h3,h4⟩
 ·refine Yd (CQ 3 24 hy (QcR _) (by simp at bH ⊢;omega)) (Ye σ _) ?_;have k1:=Kq.app [qb] 3 σ [.rows 3 (ys.map dG)];have q1:=Qb [ab.rows 3 (ys.map dG)] hq;have r1:=Yc σ (.rows 3 (ys.map dG));have gz:=Zb q1;generalize σ++[ab.rows 3 (ys.map dG)]=τ at *;refine Za rfl (Za rfl (Yd (c8 (row':=[.sl σ.length 0 (ys.map dG).length false]) q1 rfl rfl rfl) (Ze _ gz) ?_));refine hK _ _ (Zd _ gz) (.inr ⟨σ.length,0,ys.map dG,by simp,XC _ q1 r1,by simp,by simp⟩) (k1.trans (Kq.set 3 τ _ (by simp)))
 ·have kR:=Zb h2;refine Yd (QL 3 24 h2 h3 hy (QcR _) (by simp at bH ⊢;omega)) (QC _ _ kR) ?_;rw[h4];have k1:=Nu h2 (.rows 3 (ws.map dG++ys.map dG)) [qb];have q1:ai (σ.set c .dead++[.rows 3 (ws.map dG++ys.map dG)]) qb=.box [.sl c off ws.length false]:=
   Qb _ (Yb hq (by simp) (by rintro rfl;rw[hq]at h2;cases h2))
  have r1:=QT (σ:=σ) c (.rows 3 (ws.map dG++ys.map dG));have gz:=Zb q1;generalize σ.set c .dead++[ab.rows 3 (ws.map dG++ys.map dG)]=τ at *;refine Za rfl (Za rfl (Yd (c8 (row':=[.sl σ.length 0 (ws.length+(ys.map dG).length) false]) q1 rfl rfl rfl) (Ze _ gz) ?_));refine hK _ _ (Zd _ gz) (.inr ⟨σ.length,0,ws.map dG++ys.map dG,by simp,XC _ q1 r1,by simp,by simp⟩) (k1.trans (Kq.set 3 τ _ (by simp)))
theorem Qdo{off m:Nat}{rows:List (List aa)}(hc:ai σ c=.rows 3 rows):Zz 3 [.sl c off (m+1) false,.int .i64 1] σ=.ok (.sl c (off+1) m false) [c] []:=by
 show (match ai σ c with
   |.rows s _=>bif IT s 3 then (bif Nat.blt 1 (m+1)then aN.ok (.sl c (off+1) (m+1-1) false) [c] []else bif IT 1 (m+1)then (bif IT 3 3 then .ok (.sl c (off+(m+1)) 0 false) [c] []else .ok (.aW false (Nat.blt 0 (m+1)) 3 []) [] [])else .stop)else .stop
   | _=>.stop)=_
 rw[hc];cases m with
 |zero=>rfl
 |succ m=>
  rfl
theorem w213{qb:Nat}(hq:ai σ qb=.box [qv])(hw:QW ws qv σ)(jq:ws.length<=100000000)
 (DM:ws=[]→∀σ',ai σ' qb=.box [qv]→QW [] qv σ'→Kq [qb] 3 σ σ'→K (.bp [.agg [iv 0,iv 0,.bool false],.bool false]) σ')
 (wL:∀x kT,ws=x::kT→∀σ' vK,ai σ' qb=.box [vK]→QW kT vK σ'→Kq [qb] 3 σ σ'→K (.bp [.agg (dG x),.bool true]) σ'):g28.u VV [.ak qb 0] σ K:=by
 rw[H1.e];unfold g28;dsimp only;refine Yd (v:=.ak σ.length 0) (rd:=[]) (up:=[(σ.length,.box [iv 0,iv 0,.bool false])]) rfl (Ye σ _) ?_;have k1:=Kq.app [qb] 3 σ [.box [iv 0,iv 0,.bool false]];have q1:=Qb [ab.box [iv 0,iv 0,.bool false]] hq;have z1:=Yc σ (.box [iv 0,iv 0,.bool false]);have w1:QW ws qv (σ++[.box [iv 0,iv 0,.bool false]]):=hw.mono (λc rs h=>ZE _ h);have yP:=Zb hq;have hlen:(σ++[ab.box [iv 0,iv 0,.bool false]]).length=σ.length+1:=by simp
 generalize σ++[ab.box [iv 0,iv 0,.bool false]]=τ at *;refine Za rfl (Za rfl (Za (v:=qv) (ld q1 rfl) ?_));have hz:σ.length<τ.length:=by omega
 cases ws with
 |nil=>
  have e1:Yn [qv] τ=.ok (iv 0) [] []:=by
   rcases w1 with ⟨_,rfl⟩|⟨c,off,rows,rfl,_⟩<;>rfl
  refine Za e1 (Za rfl (Xh (Za (v:=.agg [iv 0,iv 0,.bool false]) (ld z1 rfl) (Yd (c8 (row':=[iv 0,iv 0,.bool false]) z1 rfl rfl rfl) (Ze _ hz) (Zp (Yr hz rfl) ?_)))));exact DM rfl _ (Yb q1 (by simp) (by omega)) (w1.mono (λc rs h=>XC _ z1 h)) (k1.dp (No _) _)
 |cons x ws=>
  rcases w1 with ⟨h,_⟩|⟨c,off,rows,rfl,h2,h3,h4⟩
  ·cases h
  rw[IS]at *;have ee:rows[off]?=some (dG x):=by
   have:(rows.drop off)[0]?=some (dG x):=by rw[h4];rfl
   grind
  have nj:rows.drop (off+1)=ws.map dG:=by
   have:(rows.drop off).drop 1=ws.map dG:=by rw[h4];rfl
   rwa [List.drop_drop]at this
  refine Za (v:=iv (ws.length+1:Nat)) rfl (Za (Zt ..) (Ya (λh=>?_) (λ_=>?_)))
  ·simp at h;omega
  refine Za rfl (Za rfl (Za (v:=.sl c off (ws.length+1) false) (ld q1 rfl) (Za (v:=.ptr c (off+0) 0) (rr _ c off (ws.length+1) false 3 rows .i64 0 (by omega) h2) (Za (v:=.agg (dG x)) (Ar h2 ee rfl) (Yd (c8 (row':=dG x) z1 rfl rfl rfl) (Ze _ hz) ?_)))));have k2:=k1.dp (No _) (.box (dG x));have q2:=Yb (x:=.box (dG x)) q1 (by simp) (show σ.length≠qb by omega);have r2:=XC (.box (dG x)) z1 h2;have z2:ai (τ.set σ.length (.box (dG x))) σ.length=.box (dG x):=Zd _ hz;have mJ:σ.length<(τ.set σ.length (.box (dG x))).length:=by simpa using hz
  generalize τ.set σ.length (.box (dG x))=τ2 at *;have K_:=Zb q2;refine Za rfl (Za rfl (Za (v:=.sl c off (ws.length+1) false) (ld q2 rfl) (Za (Qdo r2) (Za rfl (Za rfl (Yd (c8 (row':=[.sl c (off+1) ws.length false]) q2 rfl rfl rfl) (Ze _ K_) ?_))))));have k3:=k2.trans (Kq.set 3 τ2 (.box [.sl c (off+1) ws.length false]) (show qb∈[qb] by simp));have q3:ai (τ2.set qb (.box [.sl c (off+1) ws.length false])) qb=.box [.sl c (off+1) ws.length false]:=Zd _ K_;have r3:=XC (.box [.sl c (off+1) ws.length false]) q2 r2;have z3:=Yb (x:=.box [.sl c (off+1) ws.length false]) z2 (by simp) (show qb≠σ.length by omega);have yR:σ.length<(τ2.set qb (.box [.sl c (off+1) ws.length false])).length:=by simpa using mJ
  generalize τ2.set qb (.box [.sl c (off+1) ws.length false])=τ3 at *;refine Za (v:=.agg (dG x)) (ld z3 rfl) (Yd (c8 (row':=dG x) z3 rfl rfl rfl) (Ze _ yR) (Zp (Yr yR rfl) ?_));exact wL x ws rfl _ _ (Yb q3 (by simp) (by omega)) (.inr ⟨c,off+1,rows,rfl,XC _ z3 r3,by omega,nj⟩) (k3.dp (No _) _)
end Go.Ah.Tz
end
section
namespace Go.Ah
theorem YdO{h0:Hp}{rd:List Nat}{x:aa}:aA h0 rd x .aQ:=λ_ _ _ _ _ _ _ _ _ _ _ _=>Den.aQ _ _
end Go.Ah
namespace Go.Ah.Tz
open Go.Proofs.Tryz (prog)
set_option maxRecDepth 100000
section
variable (b:Bk) (hf:ba b=true) (bW:Yg b.aj) (ik:b.aj.length<=61) (s:St) (hs:aY 1000000000 s) (sd tg fu:Int) (l:List Ef) (hl:bF l=true) (vF:(bz l).length<=500000000) (N C:Nat) (hT:TB N s) (hN:N+12000<=1000000) (hC:Zm s<=C) (mH:C+200<=1000000)
 (hm:aL (bu b).1 b s true=true)
include hf bW ik hs hl vF hT hN hC mH hm
theorem TZ(hb:Yt b sd fu l=false):PC 23 [cE b,bZ s,.agg [iv sd,iv tg],gZ l,iv fu] (.bp [bZ (runs b sd tg l s fu).2.1,.aQ,iv (runs b sd tg l s fu).2.2.1,iv (runs b sd tg l s fu).1]):=by
 refine Yi hP g23.ok rfl ?_;exact Rc b hf bW ik s hs sd tg fu l hl vF N C hT hN hC mH (λh=>by rw[hm]at h;cases h) (λ_ h=>by rw[hb]at h;cases h)
  (λ_ _ σ' lv _ _ _=>⟨[],aA.bp (.cons (aA.ro rfl) (.cons YdO (.cons (aA.ro rfl) (.cons (aA.ro rfl) .nil))))⟩)
theorem TY(hb:Yt b sd fu l=true):PC 23 [cE b,bZ s,.agg [iv sd,iv tg],gZ l,iv fu] (.bp [.agg aT,.al,iv 0,iv 2]):=by
 exact Yi hP g23.ok rfl (Rc b hf bW ik s hs sd tg fu l hl vF N C hT hN hC mH (λh=>by rw[hm]at h;cases h) (λ_ _ σ' _=>⟨[],aA.ro rfl⟩) (λ_ h=>by rw[hb]at h;cases h))
end
attribute [local irreducible] aE.rd aE.pu aE.wr aE.dr aE.gr aE.gw aE.gl aE.gd aE.opt cP W
set_option maxHeartbeats 4000000
theorem w211(b:Bk)(hf:ba b=true)(bW:Yg b.aj)(ik:b.aj.length<=61)(cI:(bu b).1=0)(x:Tr)(l:List Ef)(hl:bF l=true)(vF:(bz l).length<=500000000){s:St}{fu:Int}{N C:Nat}(hS:cL b N C s)(hN:N+12000<=1000000)(hC:C+200<=1000000)
 {cS:List Ev}{lv:aa}{σ:List ab}{bb sb fb eb:Nat}(hb:ai σ bb=.box (cq b))(hs:ai σ sb=.box (aF s))(wV:ai σ fb=.box [iv fu])(he:ai σ eb=.box [lv])(hle:LE cS lv σ)(n1:sb≠fb)(n2:sb≠eb)(n3:fb≠eb)(bH:cS.length<=100000000){K:KT}
 (Db:Yt b x.side fu l=true→∀σ',Kq [] 7 σ σ'→K (iv 2) σ')
 (De:Yt b x.side fu l=false→(runs b x.side (-1) l s fu).1≠0→(runs b x.side (-1) l s fu).1≠190→∀σ',Kq [] 7 σ σ'→K (iv (runs b x.side (-1) l s fu).1) σ')
 (hK:Yt b x.side fu l=false→((runs b x.side (-1) l s fu).1=0∨(runs b x.side (-1) l s fu).1=190)→∀ σ' cJ,ai σ' sb=.box (aF (runs b x.side (-1) l s fu).2.1)→ai σ' fb=.box [iv (runs b x.side (-1) l s fu).2.2.1]→ai σ' eb=.box [cJ] →
   LE (cS ++ (runs b x.side (-1) l s fu).2.2.2) cJ σ'→Kq [sb,fb,eb] 7 σ σ'→K (iv (runs b x.side (-1) l s fu).1) σ') :
  g22.u VV [.agg (dG x),gZ l,.ak bb 0,.ak sb 0,.ak fb 0,.ak eb 0] σ K:=by
 rw[H6.e];unfold g22;dsimp only;refine Yd (v:=.ak σ.length 0) (rd:=[]) (up:=[(σ.length,.box (dG x))]) rfl (Ye σ _) ?_;have k1:=Kq.app [] 7 σ [.box (dG x)];have b1:=Qb [ab.box (dG x)] hb;have s1:=Qb [ab.box (dG x)] hs;have f1:=Qb [ab.box (dG x)] wV;have e1:=Qb [ab.box (dG x)] he;have l1:LE cS lv (σ++[.box (dG x)]):=hle.mono (λc rs h=>ZE _ h);have x1:=Yc σ (.box (dG x));generalize σ++[ab.box (dG x)]=τ at *;have hM:=Xo.2 ⟨cI,hS.may⟩;refine Za (v:=cE b) (ld b1 rfl) (Za (v:=bZ s) (ld s1 rfl) (Za rfl (Za (v:=iv x.side) (ld x1 rfl) ?_)));refine ay (Za (v:=iv fu) (ld f1 rfl) ?_);rcases cD (Yt b x.side fu l)with ha|ha
 ·refine a_ (TY b hf bW ik s hS.qA x.side (-1) fu l hl vF N C hS.told hN hS.aj hC hM ha) g23.ok (Za rfl (Za rfl (Za rfl (Za rfl (Zv (row:=aT) (row':=aT) rfl rfl rfl ?_)))));refine Za rfl (X1 (d:=false) (v1:=iv 2) (λ_=>rfl) (λ_=>rfl) ?_);exact Xe (Db ha _ (k1.trans (Kq.app [] 7 τ _)))
 have mr:=A9 (b:=b) (tg:=-1) (sd:=x.side) (by
  grind [Yt]) l fu hS
 have dE:nf b l=true:=by
  simp_all [Yt]
 obtain⟨_,va⟩:=Jc dE;have aav:=(mr (by omega) (by omega)).2;clear mr;by_cases hr:(runs b x.side (-1) l s fu).1=0∨(runs b x.side (-1) l s fu).1=190;rotate_left
 ·refine a_ (TZ b hf bW ik s hS.qA x.side (-1) fu l hl vF N C hS.told hN hS.aj hC hM ha) g23.ok ?_;have hz:=De ha (λe=>hr (.inl e)) (λe=>hr (.inr e));generalize runs b x.side (-1) l s fu=r at *;refine Za rfl (Za rfl (Za rfl (Za rfl (Zv (row:=aF r.2.1) (row':=aF r.2.1) rfl rfl rfl ?_))));refine Za (Zt ..) (X1 (d:=decide (r.1=190)) (v1:=iv r.1) (λ_=>rfl) (λ_=>Zt ..) ?_);rw[show (decide (r.1=0)||decide (r.1=190))=false by simpa using hr];exact Xe (hz _ (k1.trans (Kq.app [] 7 τ _)))
 refine a_ (T0 b hf bW ik s hS.qA x.side (-1) fu l hl vF N C hS.told hN hS.aj hC hM ha) g23.ok ?_;have lD:=hK ha hr;generalize runs b x.side (-1) l s fu=r at *;refine Za rfl (Za rfl (Za rfl (Za rfl (Zv (row:=aF r.2.1) (row':=aF r.2.1) rfl rfl rfl ?_))));refine Za (Zt ..) (X1 (d:=decide (r.1=190)) (v1:=iv r.1) (λ_=>rfl) (λ_=>Zt ..) ?_);rw[show (decide (r.1=0)||decide (r.1=190))=true by simpa using hr];have k2:=k1.trans (Kq.app [] 7 τ [.box (aF r.2.1)]);have s2:=Qb [ab.box (aF r.2.1)] s1;have f2:=Qb [ab.box (aF r.2.1)] f1;have e2:=Qb [ab.box (aF r.2.1)] e1;have l2:LE cS lv (τ++[.box (aF r.2.1)]):=l1.mono (λc rs h=>ZE _ h);have t2:=Yc τ (.box (aF r.2.1));generalize τ.length=tn at *;generalize τ++[ab.box (aF r.2.1)]=τ2 at *;have htn:=Zb t2;have Vx:=Zb s2;have rN:=Zb f2;have hel:=Zb e2;have k2':Kq [sb,fb,eb] 7 σ τ2:=k2.more (by simp);refine Xh (Xf (v:=bZ r.2.1) (ld t2 rfl) (Zg _) (Xf (v:=lv) (ld e2 rfl) (Zg _) ?_));have oM:=RM (Rj r.2.2.2);have fin:∀(υ:List ab) (nv:aa),Kq [sb,fb,eb] 7 τ2 υ→ai υ sb=.box (aF s)→ai υ fb=.box [iv fu]→ai υ eb=.box [lv]→LE (cS++r.2.2.2) nv υ →
   K (iv r.1) (((υ.set sb (.box (aF r.2.1))).set fb (.box [iv r.2.2.1])).set eb (.box [nv])):=by
  intro υ nv hk hs hf he hl;have h1:=Zb hs;have h2:=Zb hf;have h3:=Zb he;have kA:=k2'.trans hk;have kB:=kA.trans (Kq.set 7 υ (.box (aF r.2.1)) (show sb∈[sb,fb,eb] by simp));have sB:ai (υ.set sb (.box (aF r.2.1))) sb=.box (aF r.2.1):=Zd _ h1;have fB:=Yb (x:=.box (aF r.2.1)) hf (by simp) n1;have eB:=Yb (x:=.box (aF r.2.1)) he (by simp) n2;have lB:LE (cS++r.2.2.2) nv (υ.set sb (.box (aF r.2.1))):=hl.mono (λc rs h=>XC _ hs h);generalize υ.set sb (.box (aF r.2.1))=υ1 at *;have Ui:=Zb fB;have kC:=kB.trans (Kq.set 7 υ1 (.box [iv r.2.2.1]) (show fb∈[sb,fb,eb] by simp));have sC:=Yb (x:=.box [iv r.2.2.1]) sB (by simp) n1.symm;have fC:ai (υ1.set fb (.box [iv r.2.2.1])) fb=.box [iv r.2.2.1]:=Zd _ Ui;have eC:=Yb (x:=.box [iv r.2.2.1]) eB (by simp) n3;have lC:LE (cS++r.2.2.2) nv (υ1.set fb (.box [iv r.2.2.1])):=lB.mono (λc rs h=>XC _ fB h);generalize υ1.set fb (.box [iv r.2.2.1])=υ2 at *;have uZ:=Zb eC;exact lD _ nv (Yb sC (by simp) n2.symm) (Yb fC (by simp) n3.symm) (Zd _ uZ) (lC.mono (λc rs h=>XC _ eC h)) (kC.trans (Kq.set 7 υ2 _ (by simp)))
 rcases l2 with ⟨rfl,rfl⟩|⟨c,rows,rfl,h2,h3⟩
 ·refine Xf (CQ 7 72 GP oM (by simp;omega)) (Ye τ2 _) ?_;have hk:=Kq.app [sb,fb,eb] 7 τ2 [.rows 7 (r.2.2.2.map ck)];have s3:=Qb [ab.rows 7 (r.2.2.2.map ck)] s2;have f3:=Qb [ab.rows 7 (r.2.2.2.map ck)] f2;have e3:=Qb [ab.rows 7 (r.2.2.2.map ck)] e2;have r3:=Yc τ2 (.rows 7 (r.2.2.2.map ck));have Da:=fin _ (.sl τ2.length 0 (r.2.2.2.map ck).length false) hk s3 f3 e3 (.inr ⟨τ2.length,_,by simp,r3,by simpa using Rj r.2.2.2⟩);have q1:τ2.length≠sb:=by omega
  have q2:τ2.length≠fb:=by omega
  have q3:τ2.length≠eb:=by omega
  have q4:τ2.length≠tn:=by omega
  generalize τ2++[ab.rows 7 (r.2.2.2.map ck)]=υ at *;generalize τ2.length=m at *;refine Xf (c8 (row':=aF r.2.1) s3 rfl rfl rfl) (Ze _ (Zb s3)) ?_;have f4:=Yb (x:=.box (aF r.2.1)) f3 (by simp) n1;have e4:=Yb (x:=.box (aF r.2.1)) e3 (by simp) n2;refine Xf (c8 (row':=[iv r.2.2.1]) f4 rfl rfl rfl) (Ze _ (Zb f4)) ?_;have e5:=Yb (x:=.box [iv r.2.2.1]) e4 (by simp) n3;exact Xf (c8 (row':=[.sl m 0 (r.2.2.2.map ck).length false]) e5 rfl rfl rfl) (Ze _ (Zb e5)) (Qv (by simp[Qi,Xm,Xn,Yv,cf,dS,zAB,zAd,n1,n2,n3,n1.symm,n2.symm,n3.symm,q1,q2,q3,q4,q1.symm,q2.symm,q3.symm,q4.symm]) Da)
 ·refine Xf (QL 7 72 h2 (by rw[h3.len,zBj]) GP oM (by simp;omega)) (QC _ _ (Zb h2)) ?_;rw[zDW];have gH:c≠sb:=by rintro rfl;rw[h2]at s2;cases s2
  have Hs:c≠fb:=by rintro rfl;rw[h2]at f2;cases f2
  have Uz:c≠eb:=by rintro rfl;rw[h2]at e2;cases e2
  have BT:c≠tn:=by rintro rfl;rw[h2]at t2;cases t2
  have hk:=Nu h2 (.rows 7 (rows++r.2.2.2.map ck)) [sb,fb,eb];have s3:ai (τ2.set c .dead++[.rows 7 (rows++r.2.2.2.map ck)]) sb=_:=Qb _ (Yb s2 (by simp) gH);have f3:ai (τ2.set c .dead++[.rows 7 (rows++r.2.2.2.map ck)]) fb=_:=Qb _ (Yb f2 (by simp) Hs);have e3:ai (τ2.set c .dead++[.rows 7 (rows++r.2.2.2.map ck)]) eb=_:=Qb _ (Yb e2 (by simp) Uz);have r3:=QT (σ:=τ2) c (.rows 7 (rows++r.2.2.2.map ck));have Da:=fin _ (.sl τ2.length 0 (cS.length+(r.2.2.2.map ck).length) false) hk s3 f3 e3 (.inr ⟨τ2.length,_,by simp,r3,h3.app (Rj r.2.2.2)⟩);have q1:τ2.length≠sb:=by omega
  have q2:τ2.length≠fb:=by omega
  have q3:τ2.length≠eb:=by omega
  have q4:τ2.length≠tn:=by omega
  generalize τ2.set c .dead++[ab.rows 7 (rows++r.2.2.2.map ck)]=υ at *;generalize τ2.length=m at *;refine Xf (c8 (row':=aF r.2.1) s3 rfl rfl rfl) (Ze _ (Zb s3)) ?_;have f4:=Yb (x:=.box (aF r.2.1)) f3 (by simp) n1;have e4:=Yb (x:=.box (aF r.2.1)) e3 (by simp) n2;refine Xf (c8 (row':=[iv r.2.2.1]) f4 rfl rfl rfl) (Ze _ (Zb f4)) ?_;have e5:=Yb (x:=.box [iv r.2.2.1]) e4 (by simp) n3;exact Xf (c8 (row':=[.sl m 0 (cS.length+(r.2.2.2.map ck).length) false]) e5 rfl rfl rfl) (Ze _ (Zb e5)) (Qv (by simp[Qi,Xm,Xn,Yv,cf,dS,zAB,zAd,n1,n2,n3,n1.symm,n2.symm,n3.symm,q1,q2,q3,q4,q1.symm,q2.symm,q3.symm,q4.symm,gH,Hs,Uz,BT,gH.symm,Hs.symm,Uz.symm,BT.symm]) Da)
end Go.Ah.Tz
end
section
namespace Go.Ah.Tz
def Qk(s:St):Nat:=s.s0.af.length+s.s1.af.length
def ny(s:St)(id:Int):Int:=((((s.side (aM s id).1).af)[(aM s id).2.1.toNat]?).getD default).card
def e_(b:Bk)(s:St):List Int→List Tr
 |[]=>[]
 |id::l=>(if 0<(Zr b (ny s id)).dead.length then [⟨ny s id,(aM s id).1,false⟩]else [])++e_ b s l
def quiet(b:Bk):Nat→St→List Tr→List Ev→St×List Tr×List Ev
 |0,s,ws,l=>(s,ws,l)
 |n+1,s,ws,l=>if aJ b s=[]then (s,ws,l)else quiet b n (Xl (aJ b s) s).1 (ws++e_ b s (aJ b s)) (l++(Xl (aJ b s) s).2)
def jm(b:Bk)(s:St)(l:List Ev)(fu how:Int):Int×St×List Ev×Int:=(0,(dK b s how).1,l++[(dK b s how).2],fu)
def br(b:Bk)(x:Tr):List Ef:=if x.cM=true then (Zr b x.card).cM else (Zr b x.card).dead
def nH(x:Tr):Ev:=⟨14,x.side,x.card,0,0,0,[]⟩
def XK(b:Bk):Nat→St→List Tr→Int→List Ev→Int×St×List Ev×Int
 |0,s,ws,fu,l=>jm b (quiet b (Qk s) s ws l).1 (quiet b (Qk s) s ws l).2.2 fu 3
 |n+1,s,ws,fu,l=>
  if bO (quiet b (Qk s) s ws l).1≠0 then jm b (quiet b (Qk s) s ws l).1 (quiet b (Qk s) s ws l).2.2 fu (bO (quiet b (Qk s) s ws l).1)
  else match (quiet b (Qk s) s ws l).2.1 with
   |[]=>(0,(quiet b (Qk s) s ws l).1,(quiet b (Qk s) s ws l).2.2,fu)
   |x::kT=>
    if fu=0 then jm b (quiet b (Qk s) s ws l).1 (quiet b (Qk s) s ws l).2.2 fu 3
    else if Yt b x.side (fu-1) (br b x)=true then (2,fW,[],0)
    else if (runs b x.side (-1) (br b x) (quiet b (Qk s) s ws l).1 (fu-1)).1=0 then
     XK b n (runs b x.side (-1) (br b x) (quiet b (Qk s) s ws l).1 (fu-1)).2.1 kT (runs b x.side (-1) (br b x) (quiet b (Qk s) s ws l).1 (fu-1)).2.2.1
      ((quiet b (Qk s) s ws l).2.2++[nH x]++(runs b x.side (-1) (br b x) (quiet b (Qk s) s ws l).1 (fu-1)).2.2.2)
    else if (runs b x.side (-1) (br b x) (quiet b (Qk s) s ws l).1 (fu-1)).1=190 then
     jm b (runs b x.side (-1) (br b x) (quiet b (Qk s) s ws l).1 (fu-1)).2.1 ((quiet b (Qk s) s ws l).2.2++[nH x]++(runs b x.side (-1) (br b x) (quiet b (Qk s) s ws l).1 (fu-1)).2.2.2)
      (runs b x.side (-1) (br b x) (quiet b (Qk s) s ws l).1 (fu-1)).2.2.1 3
    else ((runs b x.side (-1) (br b x) (quiet b (Qk s) s ws l).1 (fu-1)).1,fW,[],0)
variable{s:St}
variable{b:Bk}
theorem Nl(n:Nat){t:St}{ws kT:List Tr}{l l':List Ev}(fu:Int)(hq:quiet b (Qk s) s ws l=(t,kT,l')):XK b (n+1) s ws fu l =
  if bO t≠0 then jm b t l' fu (bO t)else match (generalizing:=false) kT with
   |[]=>(0,t,l',fu)
   |x::kT=>if fu=0 then jm b t l' fu 3 else if Yt b x.side (fu-1) (br b x)=true then (2,fW,[],0)
    else if (runs b x.side (-1) (br b x) t (fu-1)).1=0 then XK b n (runs b x.side (-1) (br b x) t (fu-1)).2.1 kT (runs b x.side (-1) (br b x) t (fu-1)).2.2.1 (l'++[nH x]++(runs b x.side (-1) (br b x) t (fu-1)).2.2.2)
    else if (runs b x.side (-1) (br b x) t (fu-1)).1=190 then jm b (runs b x.side (-1) (br b x) t (fu-1)).2.1 (l'++[nH x]++(runs b x.side (-1) (br b x) t (fu-1)).2.2.2) (runs b x.side (-1) (br b x) t (fu-1)).2.2.1 3
    else ((runs b x.side (-1) (br b x) t (fu-1)).1,fW,[],0):=by
 rw[XK];simp only[hq]
def jA(b:Bk)(x:Tr):Prop:=0<=x.card∧x.card<b.aj.length∧(x.side=0∨x.side=1)
theorem Rk{l:List Th}{id:Int}(h:gM l id=none):id∉l.map Th.id:=by
 simp_all [gM]
theorem S8{id:Int}(h:id∈s.s0.af.map Th.id∨id∈s.s1.af.map Th.id):∃(k:Nat) (u:Th),(aM s id).2.1=k∧(s.side (aM s id).1).af[k]?=some u∧((aM s id).1=0∨(aM s id).1=1)∧ny s id=u.card:=by
 unfold ny aM;cases q0:gM s.s0.af id with
 |some k=>
  obtain⟨u,hu,_⟩:=YS q0;exact⟨k,u,rfl,hu,.inl rfl,by simp[St.side,hu]⟩
 |none=>
  simp only;cases q1:gM s.s1.af id with
  |some k=>
   obtain⟨u,hu,_⟩:=YS q1;exact⟨k,u,rfl,hu,.inr rfl,by simp[St.side,hu]⟩
  |none=>
   simp_all [Rk]
theorem X7(b:Bk)(s:St):∀l:List Int,(e_ b s l).length<=l.length
 |[]=>No _
 |id::l=>by
  have:=X7 b s l;unfold e_;split<;>simp<;>omega
theorem Rx(b:Bk)(s:St)(id:Int):∀l:List Int,e_ b s (l++[id])=e_ b s l++(if 0<(Zr b (ny s id)).dead.length then [⟨ny s id,(aM s id).1,false⟩]else [])
 |[]=>by simp[e_]
 |a::l=>by simp[e_,Rx]
theorem GJ(hM:du b s){i:Int}(hi:i=0∨i=1){k:Nat}{u:Th}(hu:(s.side i).af[k]?=some u):0<=u.card∧u.card<b.aj.length:=by
 have il:u∈s.s0.af++s.s1.af:=by
  rcases hi with rfl|rfl
  ·exact zAp _ (zAI hu)
  ·exact zAi _ (zAI hu)
 have:=hM.un.1 u il;simp_all [Zw]
theorem Sp(hM:du b s):∀l:List Int,(∀a∈l,a∈s.s0.af.map Th.id∨a∈s.s1.af.map Th.id)→∀x∈e_ b s l,jA b x
 |[],_,x,hx=>by simp[e_]at hx
 |id::l,h,x,hx=>by
  rw[e_,zAF]at hx;rcases hx with hx|hx
  ·split at hx
   ·rw[zAs]at hx;subst hx;obtain⟨k,u,_,h2,h3,h4⟩:=S8 (h id (by simp));have:=GJ hM h3 h2;exact⟨by rw[h4];exact this.1,by rw[h4];exact this.2,h3⟩
   ·simp at hx
  ·exact Sp hM l (λa ha=>h a (by simp[ha])) x hx
theorem YbQ(s:St)(id:Int):Qk (Qn s id).1+(Qn s id).2.length=Qk s∧(∀e∈(Qn s id).2,e.aj=[]∧e.kind=13)∧(Qn s id).1.s0.told=s.s0.told∧(Qn s id).1.s1.told=s.s1.told:=by
 unfold Qn;cases q0:gM s.s0.af id with
 |some k=>
  obtain⟨u,hu,_⟩:=YS q0;have hk:=(gE hu).1;refine⟨?_,by simp,rfl,rfl⟩
  grind [Qk]
 |none=>
  simp only;cases q1:gM s.s1.af id with
  |some k=>
   obtain⟨u,hu,_⟩:=YS q1;have hk:=(gE hu).1;refine⟨?_,by simp,rfl,rfl⟩
   grind [Qk]
  |none=>simp
theorem Qz:∀(ids:List Int) (s:St),Qk (Xl ids s).1+(Xl ids s).2.length=Qk s∧(∀e∈(Xl ids s).2,e.aj=[]∧e.kind=13)∧(Xl ids s).1.s0.told=s.s0.told∧(Xl ids s).1.s1.told=s.s1.told
 |[],s=>⟨by simp[Xl],by simp[Xl],rfl,rfl⟩
 |id::ids,s=>by
  obtain⟨h1,h2,h3,h4⟩:=YbQ s id;obtain⟨k1,k2,k3,k4⟩:=Qz ids (Qn s id).1;refine⟨?_,?_,k3.trans h3,k4.trans h4⟩
  ·grind [Xl]
  ·intro e he;rw[Xl,zAF]at he
   grind
theorem XdU(s:St):(s.s0.an.length:Int)<=Zm s∧(s.s1.an.length:Int)<=Zm s∧(Qk s:Int)<=Zm s:=by
 unfold Zm Qk;omega
variable{N C:Nat}
theorem cL.te(h:cL b N C s)(hC:C+14<=1000000):cL b N C (Xl (aJ b s) s).1:=by
 obtain⟨_,_,hl⟩:=YG h.may;have hg:=XdU s;have hc:=h.aj;obtain⟨k1,k2⟩:=Ya3 (aJ b s) h.may (by omega) (by omega);obtain⟨_,_,t0,t1⟩:=Qz (aJ b s) s;exact⟨k1,⟨by rw[t0];exact h.told.1,by rw[t1];exact h.told.2⟩,by rw[k2];exact hc⟩
theorem Hf(hM:du b s)(h:aJ b s≠[]):Qk (Xl (aJ b s) s).1<Qk s:=by
 obtain⟨h1,h2,_⟩:=YG hM;have:=(Qz (aJ b s) s).1;have fk:=OL (aJ b s) s h1 h2
 grind [List.length_pos_iff]
theorem Sx(hM:du b s)(h:Qk s=0):aJ b s=[]:=by
 obtain⟨_,h2,_⟩:=YG hM;simp_all [Qk,List.eq_nil_iff_forall_not_mem]
theorem Oo{b:Bk}{N C:Nat}(hC:C+14<=1000000):∀(n:Nat) (s:St) (ws:List Tr) (l:List Ev),Qk s<=n→cL b N C s →
  cL b N C (quiet b n s ws l).1∧aJ b (quiet b n s ws l).1=[]∧(∃m,(quiet b n s ws l).2.2=l++m∧m.length+Qk (quiet b n s ws l).1=Qk s∧∀e∈m,e.kind=13) ∧
   ∃m,(quiet b n s ws l).2.1=ws++m∧m.length+Qk (quiet b n s ws l).1<=Qk s∧∀x∈m,jA b x
 |0,s,ws,l,h,hS=>⟨hS,by rw[quiet];exact Sx (s:=s) hS.may (by omega),⟨[],by simp[quiet],by simp[quiet],by simp⟩,⟨[],by simp[quiet],by simp[quiet],by simp⟩⟩
 |n+1,s,ws,l,h,hS=>by
  unfold quiet;by_cases hd:aJ b s=[]
  ·simp_all
  ·rw[aB hd];have w_:=Hf hS.may hd;obtain⟨d1,d2,d3⟩:=YG hS.may;obtain⟨c1,c2,_⟩:=Qz (aJ b s) s;have fk:=OL (aJ b s) s d1 d2;obtain⟨q1,q2,⟨m,m1,m2,m3⟩,⟨m',p1,p2,p3⟩⟩:=Oo hC n (Xl (aJ b s) s).1 (ws++e_ b s (aJ b s)) (l++(Xl (aJ b s) s).2) (by omega) (hS.te hC);have hT:=X7 b s (aJ b s);refine⟨q1,q2,⟨(Xl (aJ b s) s).2++m,by rw[m1,zAb],by rw[By];omega,λe he=>?_⟩,⟨e_ b s (aJ b s)++m',by rw[p1,zAb],by rw[By];omega,λx hx=>?_⟩⟩
   ·grind
   ·rcases zAF.1 hx with hx|hx
    ·exact Sp hS.may _ d2 x hx
    ·exact p3 x hx
theorem YbL(hC:C+14<=1000000):∀(n m:Nat) (s:St) (ws:List Tr) (l:List Ev),cL b N C s→Qk s<=n→Qk s<=m→quiet b n s ws l=quiet b m s ws l
 |0,0,s,ws,l,_,_,_=>rfl
 |0,m+1,s,ws,l,hM,h,_=>by rw[quiet,quiet,aI (Sx hM.may (by omega))]
 |n+1,0,s,ws,l,hM,_,h=>by rw[quiet,quiet,aI (Sx hM.may (by omega))]
 |n+1,m+1,s,ws,l,hM,h1,h2=>by
  rw[quiet,quiet];split
  ·rfl
  ·rename_i hd;have:=Hf hM.may hd;exact YbL hC n m _ _ _ (hM.te hC) (by omega) (by omega)
theorem X_(hC:C+14<=1000000)(ws:List Tr)(l:List Ev)(hM:cL b N C s)(hd:aJ b s≠[]) :
  quiet b (Qk s) s ws l=quiet b (Qk (Xl (aJ b s) s).1) (Xl (aJ b s) s).1 (ws++e_ b s (aJ b s)) (l++(Xl (aJ b s) s).2):=by
 have h:=Hf hM.may hd;obtain⟨n,hn⟩:∃n,Qk s=n+1:=⟨Qk s-1,by omega⟩;rw[hn,quiet,aB hd];exact YbL hC _ _ _ _ _ (hM.te hC) (by omega) (No _)
theorem XbL(n:Nat)(ws:List Tr)(l:List Ev)(hd:aJ b s=[]):quiet b n s ws l=(s,ws,l):=by
 cases n<;>simp_all [quiet]
end Go.Ah.Tz
end
section
namespace Go.Ah
theorem jW:∀U:List Nat,dS U []=true
 |[]=>rfl
 |y::U=>by simp[dS,jW U]
theorem rF{x:Nat}:∀ {U:List Nat},x∉U→dS U [x]=true
 |[],_=>rfl
 |y::U,h=>by
  simp only[zAS,not_or]at h;simp only[dS,rF h.2,zBA];simp[Ne.symm h.1]
end Go.Ah
namespace Go.Ah.Tz
open Go.Proofs.Tryz (prog)
set_option maxRecDepth 100000
structure RS (b:Bk) (s:St) (fu:Int) (l:List Ev) (ws:List Tr) (eb qb:Nat) (τ:List ab):Prop where
 hb:ai τ 0=.box (cq b)
 hs:ai τ 1=.box (aF s)
 hf:ai τ 2=.box [iv fu]
 hr:ai τ 3=.box aT
 he:∃lv,ai τ eb=.box [lv]∧LE l lv τ
 hq:∃qv,ai τ qb=.box [qv]∧QW ws qv τ
 e3:3<eb
 eq:eb<qb
variable{eb qb:Nat}
variable{ws:List Tr}
variable{fu:Int}
variable{s:St}
variable{τ τ':List ab}
variable{l:List Ev}
variable{b:Bk}
theorem RS.nS(h:RS b s fu l ws eb qb τ)(k:dg τ τ' []):RS b s fu l ws eb qb τ':=by
 obtain⟨hb,hs,hf,hr,⟨lv,he,hl⟩,⟨qv,hq,hw⟩,e3,eq⟩:=h;have g:∀ {c x},ai τ c=x→x≠.dead→ai τ' c=x:=λhx hd=>k.get hx hd (by simp);exact⟨g hb (by simp),g hs (by simp),g hf (by simp),g hr (by simp),⟨lv,g he (by simp),hl.mono λc rs h=>g h (by simp)⟩,⟨qv,g hq (by simp),hw.mono λc rs h=>g h (by simp)⟩,e3,eq⟩
theorem RS.app(h:RS b s fu l ws eb qb τ)(x:ab):RS b s fu l ws eb qb (τ++[x]):=h.nS (dg.ke τ x)
theorem RS.HF{kT:List Tr}{vK:aa}(h:RS b s fu l ws eb qb τ)(q:ai τ' qb=.box [vK])(w:QW kT vK τ')(k:Kq [qb] 3 τ τ'):RS b s fu l kT eb qb τ':=by
 obtain⟨hb,hs,hf,hr,⟨lv,he,hl⟩,⟨qv,hq,hw⟩,e3,eq⟩:=h;exact⟨k.box hb,k.box hs,k.box hf,k.box hr,⟨lv,k.box he,hl.mono λc rs h=>k.rows h (by simp;rintro rfl;rw[hq]at h;cases h) (by decide)⟩,⟨vK,q,w⟩,e3,eq⟩
theorem RS.Cb{s':St}{pB:Int}{l':List Ev}{cJ:aa}(h:RS b s fu l ws eb qb τ)(q1:ai τ' 1=.box (aF s'))(q2:ai τ' 2=.box [iv pB])(q3:ai τ' eb=.box [cJ])(w:LE l' cJ τ')(k:Kq [1,2,eb] 7 τ τ'):RS b s' pB l' ws eb qb τ':=by
 obtain⟨hb,hs,hf,hr,⟨lv,he,hl⟩,⟨qv,hq,hw⟩,e3,eq⟩:=h;have nr:∀ {c rs},ai τ c=.rows 3 rs→c∉[1,2,eb]:=by
  intro c rs hc;simp only[zAS,List.not_mem_nil,or_false,not_or];refine⟨?_,?_,?_⟩
  ·rintro rfl;rw[hs]at hc;cases hc
  ·rintro rfl;rw[hf]at hc;cases hc
  ·rintro rfl;rw[he]at hc;cases hc
 exact⟨k.box hb,q1,q2,k.box hr,⟨cJ,q3,w⟩,⟨qv,k.box hq,hw.mono λc rs h=>k.rows h (nr h) (by decide)⟩,e3,eq⟩
theorem SQ{lv:aa}(h:LE l lv τ){y:aa}{ys:List (List aa)}{rd:List Nat}{m:List Ev}(hy:Zk 7 τ y=some (ys,rd))(hm:eY ys m)(bH:l.length+m.length<=200000000) :
  ∃nv up τ',Qf 7 72 [lv,y] τ=.ok nv rd up∧gC τ up=some τ'∧LE (l++m) nv τ'∧Kq [] 7 τ τ'∧∀k row,ai τ k=.box row→k∉up.map (·.1):=by
 have hlen:=hm.len;rcases h with ⟨rfl,rfl⟩|⟨c,rows,rfl,h2,h3⟩
 ·refine⟨_,_,_,CQ 7 72 hy (RM hm) (by rw[hlen];simp at bH;omega),Ye τ _,.inr ⟨τ.length,ys,by simp[hlen],Yc τ _,by simpa using hm⟩,Kq.app [] 7 τ _,λk row hk=>?_⟩;have:=Zb hk;simp;omega
 ·refine⟨_,_,_,QL 7 72 h2 (by rw[h3.len,zBj]) hy (RM hm) (by rw[hlen];omega),QC _ _ (Zb h2),.inr ⟨τ.length,rows.drop 0++ys,by simp[hlen],QT c _,by rw[zDW];exact h3.app hm⟩,Nu h2 _ [],λk row hk=>?_⟩;have:=Zb hk;simp;exact⟨(by rintro rfl;rw[h2]at hk;cases hk),(by omega)⟩
theorem CA{c:Int}(h:0<=c∧c<b.aj.length):∃(k:Nat) (hk:k<b.aj.length),c=(k:Int)∧Zr b c=b.aj[k]:=by
 refine⟨c.toNat,by omega,by omega,?_⟩;unfold Zr;rw[zAP (by omega)];rfl
def j0(r:Int×St×List Ev×Int):aa:=.bp [bZ r.2.1,.aW false false 7 (r.2.2.1.map ck),iv r.2.2.2,iv r.1]
theorem xH{σ:List ab}{r:Int×St×List Ev×Int}{lv:aa}{cs:List aa}(h1:SB σ [] cs r.2.1)(h:LE r.2.2.1 lv σ):∃rd,aA (hp σ) rd (.bp [.agg cs,lv,iv r.2.2.2,iv r.1]) (j0 r):=by
 obtain⟨e,s,l,f⟩:=r;have KY:∃rd,aA (hp σ) rd lv (.aW false false 7 (l.map ck)):=by
  have h:LE l lv σ:=h;rcases h with ⟨rfl,rfl⟩|⟨k,rows,rfl,hk,hR⟩
  ·exact⟨[],aA.dP (aA.ro rfl) (λM u d=>d.eO 7)⟩
  ·refine⟨[k],?_⟩;refine aA.dP (y:=.aW false false 7 (l.map ck)) (aA.dP (aA.sl (rs:=rows) (rs':=l.map ck) (Xv hk (by simp)) (by simp) (by rw[hR.len];omega) (by simp) (λi row row' q1 q2=>?_)) (λM u d=>d.gp)) (λM u d=>d);rw[IN]at q1;have hm:=ZcI hR;have h1:(rows.map λr=>r.map pW)[i]?=some (row.map pW):=by rw[zAT,q1];rfl
   rw[hm,q2]at h1;cases h1;have ln:=Zdq hR row (zAI q1);clear hm q2 q1
   induction row with
   |nil=>exact .nil
   |cons x row ih=>
    simp only[gh,AI]at ln;exact .cons (aA.dP (aA.ro ln.1) (λM u d=>XcM M bA x u d)) (ih ln.2)
 obtain⟨rd,KY⟩:=KY;refine⟨rd,aA.bp (.cons (aA.more (SB.agg h1) (by simp)) (.cons KY (.cons (aA.ro rfl) (.cons (aA.ro rfl) .nil))))⟩
end Go.Ah.Tz
end
section
namespace Go.Ah.Tz
open Go.Proofs.Tryz (prog)
set_option maxRecDepth 100000
theorem P2{b:Bk}(hf:ba b=true)(bW:Yg b.aj){c:Cd}(hc:c∈b.aj):bF c.dead=true∧bF c.cM=true∧(bz c.dead).length<=500000000∧(bz c.cM).length<=500000000:=by
 simp only[ba,QG,AI,List.all_eq_true]at hf;have h:=hf.1.2 c hc;simp only[iz,AI]at h;have hs:=bW c hc;simp only[pM,By]at hs;exact⟨h.2.2.1,h.2.2.2,by omega,by omega⟩
attribute [local irreducible] aE.rd aE.pu aE.wr aE.dr aE.gr aE.gw aE.gl aE.gd aE.opt cP W
set_option maxHeartbeats 4000000
def yk(eb:Nat)(K:KT)(vs:List aa)(σ:List ab):Prop:=
 VV.rd (Qe true 2 [.ak 0 0] σ) λt196=>VV.rd (Qe true 23 [.ak 1 0] σ) λt197=>
 VV.call (.call 13) [t196,t197,h0 vs] σ λt199 σ=>VV.rd (Qj 0 [t199] σ) λt200=>VV.rd (Qj 1 [t199] σ) λt201=>
 VV.wr (Zs aT [] σ) σ λt31 σ=>VV.wr (Zs ca [] σ) σ λt32 σ=>VV.wr (Zj 23 [t31,t200] σ) σ λ_ σ=>VV.wr (Zj 7 [t32,t201] σ) σ λ_ σ=>
 VV.dr (Qe true 23 [t31] σ) σ λt202 l176 σ=>VV.dr (Qe false 1 [.ak eb 0] σ) σ λt203 l178 σ=>VV.dr (Qe true 7 [t32] σ) σ λt204 l180 σ=>
 VV.dr (Xq 7 1 ca [(0,7)] [t204] σ) σ λt205 l182 σ=>VV.dr (Qf 7 72 [t203,t205] σ) σ λt206 l184 σ=>VV.dr (Qe false 1 [.ak 2 0] σ) σ λt207 l186 σ=>
 VV.dr (Zj 23 [.ak 3 0,t202] σ) σ λ_ l187 σ=>
 VV.gd (Qi [[],[],[],[2],[1,2,3],[],[0,1,2,3,4],[0,1,2,3,4,6],[0,1,2,3,4,5,6,7],[0,1,2,3,4,5,6,7,8]] [l176,l178,l180,l182,l184,l186,l187,([],[]),([],[]),([],[])]) <|
 VV.opt (iA true 23 (.ak 3 0) σ) λr188=>K (.bp [r188,t206,t207,.int .i64 0]) σ
variable{K:KT}
variable{τ σ φ:List ab}
variable{ws:List Tr}
variable{l:List Ev}
variable{eb qb N C k:Nat}
theorem YeI(b:Bk)(hf:ba b=true)(bW:Yg b.aj){s:St}(hs:aY 1000000000 s){fu:Int}(hR:RS b s fu l ws eb qb τ)(how:Int)(hh:0<=how∧how<=3)(hl:l.length<=100000000)
 (hK:∀σ' lv,LE (jm b s l fu how).2.2.1 lv σ'→K (.bp [bZ (jm b s l fu how).2.1,lv,iv fu,iv 0]) σ'):yk eb K [aO how] τ:=by
 unfold yk;have e3:=hR.e3;refine Za (v:=cE b) (ld hR.hb rfl) (Za (v:=bZ s) (ld hR.hs rfl) (a_ (q98 b hf bW s hs how) g13.ok (Za (v:=bZ (dK b s how).1) rfl (Za (v:=wB (dK b s how).2) rfl ?_))));have lD:∀σ' lv,LE (l++[(dK b s how).2]) lv σ'→K (.bp [bZ (dK b s how).1,lv,iv fu,iv 0]) σ':=hK;generalize dK b s how=o at *;refine Yd (v:=.ak τ.length 0) (rd:=[]) (up:=[(τ.length,.box aT)]) rfl (Ye τ _) ?_;have h1:=hR.app (.box aT);have z1:=Yc τ (.box aT);have o7:(τ++[ab.box aT]).length=τ.length+1:=by simp
 have cc:4<τ.length:=by obtain⟨qv,hq,_⟩:=hR.hq;have:=Zb hq;have:=hR.eq;omega
 generalize τ++[ab.box aT]=τ1 at *;refine Yd (v:=.ak τ1.length 0) (rd:=[]) (up:=[(τ1.length,.box ca)]) rfl (Ye τ1 _) ?_;have h2:=h1.app (.box ca);have z2:=Qb [ab.box ca] z1;have y2:=Yc τ1 (.box ca);have kD:(τ1++[ab.box ca]).length=τ1.length+1:=by simp
 have ag:dg τ (τ1++[ab.box ca]) []→True:=λ_=>trivial;generalize τ1++[ab.box ca]=τ2 at *;have aaP:∀ {τ':List ab} {k:Nat} (x:ab),RS b s fu l ws eb qb τ'→qb<k→RS b s fu l ws eb qb (τ'.set k x)∨True:=λ_ _ _=>.inr trivial;have Pw:qb<τ.length:=by obtain⟨qv,hq,_⟩:=hR.hq;exact Zb hq
 have b2:=h2.hb;have f2:=h2.hf;have r2:=h2.hr;obtain⟨lv,e2,l2⟩:=h2.he;have heq:=hR.eq;refine Yd (c8 (row':=aF o.1) z2 rfl rfl rfl) (Ze _ (by omega)) ?_;have z3:ai (τ2.set τ.length (.box (aF o.1))) τ.length=.box (aF o.1):=Zd _ (by omega);have y3:=Yb (x:=.box (aF o.1)) y2 (by simp) (show τ.length≠τ1.length by omega);have f3:=Yb (x:=.box (aF o.1)) f2 (by simp) (show τ.length≠2 by omega);have r3:=Yb (x:=.box (aF o.1)) r2 (by simp) (show τ.length≠3 by omega);have Hl:=Yb (x:=.box (aF o.1)) e2 (by simp) (show τ.length≠eb by omega);have l3:LE l lv (τ2.set τ.length (.box (aF o.1))):=l2.mono (λc rs h=>XC _ z2 h);have DX:(τ2.set τ.length (.box (aF o.1))).length=τ2.length:=by simp
 generalize τ2.set τ.length (.box (aF o.1))=τ3 at *;refine Yd (c8 (row':=ck o.2) y3 rfl rfl rfl) (Ze _ (by omega)) ?_;have y4:ai (τ3.set τ1.length (.box (ck o.2))) τ1.length=.box (ck o.2):=Zd _ (by omega);have z4:=Yb (x:=.box (ck o.2)) z3 (by simp) (show τ1.length≠τ.length by omega);have f4:=Yb (x:=.box (ck o.2)) f3 (by simp) (show τ1.length≠2 by omega);have r4:=Yb (x:=.box (ck o.2)) r3 (by simp) (show τ1.length≠3 by omega);have e4:=Yb (x:=.box (ck o.2)) Hl (by simp) (show τ1.length≠eb by omega);have l4:LE l lv (τ3.set τ1.length (.box (ck o.2))):=l3.mono (λc rs h=>XC _ y3 h);have DY:(τ3.set τ1.length (.box (ck o.2))).length=τ3.length:=by simp
 generalize τ3.set τ1.length (.box (ck o.2))=τ4 at *;refine Xf (v:=bZ o.1) (ld z4 rfl) (Zg _) (Xf (v:=lv) (ld e4 rfl) (Zg _) (Xf (v:=wB o.2) (ld y4 rfl) (Zg _) (Xf (N8 (e:=o.2) (cv:=aP o.2.aj) (.inl rfl) τ4) (Ye τ4 _) ?_)));have b5:=Yc τ4 (.rows 7 [cp o.2 (aP o.2.aj)]);have z5:=Qb [ab.rows 7 [cp o.2 (aP o.2.aj)]] z4;have f5:=Qb [ab.rows 7 [cp o.2 (aP o.2.aj)]] f4;have r5:=Qb [ab.rows 7 [cp o.2 (aP o.2.aj)]] r4;have e5:=Qb [ab.rows 7 [cp o.2 (aP o.2.aj)]] e4;have l5:LE l lv (τ4++[ab.rows 7 [cp o.2 (aP o.2.aj)]]):=l4.mono (λc rs h=>ZE _ h);generalize τ4++[ab.rows 7 [cp o.2 (aP o.2.aj)]]=τ5 at *;obtain⟨nv,up,τ6,a1,a2,a3,a4,a5⟩:=SQ l5 (Re b5) (m:=[o.2]) (by simpa using eY.snoc [] [] o.2 (aP o.2.aj) .nil (.inl rfl)) (by simp;omega);refine Xf a1 a2 ?_;have uz:=a5 _ _ z5;have uf:=a5 _ _ f5;have ur:=a5 _ _ r5;have f6:=a4.box f5 (by simp);have r6:=a4.box r5 (by simp);generalize up.map (·.1)=U at *;have hr6:=Zb r6;refine Xf (v:=iv fu) (ld f6 rfl) (Zg _) (Xf (c8 (row':=aF o.1) r6 rfl rfl rfl) (Ze _ hr6) ?_);have n1:τ.length≠τ4.length:=by omega
 have n2:eb≠τ4.length:=by omega
 have n3:τ4.length≠2:=by omega
 have n4:τ4.length≠3:=by omega
 have n5:τ1.length≠τ4.length:=by omega
 refine Qv (by simp[Qi,Xm,Xn,Yv,cf,dS,zAB,zAd,n1,n2,n3,n4,n5,n1.symm,n2.symm,n3.symm,n4.symm,n5.symm,uz,uf,ur,rF uz,rF uf,rF ur,jW]) (Zp (Yr hr6 rfl) ?_);exact lD _ nv (a3.mono (λc rs h=>XC _ r6 h))
set_option maxHeartbeats 8000000
theorem LE.cells{lv:aa}(h:LE l lv σ):cellsOf lv=some [lv]:=by
 rcases h with ⟨_,rfl⟩|⟨c,rows,rfl,_⟩<;>rfl
def yn(qb:Nat)(ids j:aa)(k73:nA)(σ:List ab):Prop:=
 VV.rd (Xi 1 [ids,j] σ) λt99=>VV.rd (Qe false 1 [t99] σ) λt100=>VV.rd (Qe true 23 [.ak 1 0] σ) λt102=>
 VV.call (.call 25) [t102,t100] σ λt104 σ=>VV.rd (Qj 0 [t104] σ) λt105=>VV.rd (Qj 1 [t104] σ) λt106=>VV.rd (Qj 2 [t104] σ) λ_=>
 VV.rd (Zc 7 [.ak 1 0] σ) λt109=>VV.rd (Yk 2 8 [t109,t105] σ) λt110=>VV.rd (Zc 6 [t110] σ) λt111=>VV.rd (Qe false 1 [t111] σ) λt112=>
 VV.rd (Xi 4 [t112,t106] σ) λt114=>VV.rd (Zc 1 [t114] σ) λt115=>VV.rd (Qe false 1 [t115] σ) λt116=>VV.rd (Zc 0 [.ak 0 0] σ) λt117=>
 VV.rd (Qe false 1 [t117] σ) λt118=>VV.rd (Xi 12 [t118,t116] σ) λt120=>VV.rd (Zc 9 [t120] σ) λt121=>VV.rd (Qe false 1 [t121] σ) λt122=>
 VV.rd (Yn [t122] σ) λt123=>VV.rd (Zn .gtr false [t123,.int .i64 0] σ) λt124=>
 VV.test t124 (
  VV.rd (ZO [.int .i64 0,.int .i64 0,.bool false] [(0,1),(1,1)] [t116,t105] σ) λt128=>VV.wr (Xq 3 1 [.int .i64 0,.int .i64 0,.bool false] [(0,3)] [t128] σ) σ λt129 σ=>
  VV.call (.call 21) [.ak qb 0,t129] σ λ_ σ=>k73 [] σ) (k73 [] σ)
theorem YeK{b:Bk}(hf:ba b=true){t:St}(hS:cL b N C t){fu:Int}(hR:RS b t fu l ws eb qb φ){ids:List Int}{j:Nat}(hj:j<ids.length)(dc:ids[j]∈t.s0.af.map Th.id∨ids[j]∈t.s1.af.map Th.id)(hw:ws.length<=90000000)
 {k73:nA}(hK:∀φ',RS b t fu l (ws++(if 0<(Zr b (ny t ids[j])).dead.length then [⟨ny t ids[j],(aM t ids[j]).1,false⟩]else [])) eb qb φ'→k73 [] φ'):yn qb (aP ids) (iv j) k73 φ:=by
 unfold yn;refine Za (Ym _ aS false false 1 ids .i64 j hj) ?_;generalize ids[j]=id at *;refine Za (v:=iv id) (bB rfl) (Za (v:=bZ t) (ld hR.hs rfl) (a_ (c71 t hS.qA id) g25.ok (Za rfl (Za rfl (Za rfl ?_)))));obtain⟨k,u,u1,u2,u3,u4⟩:=S8 dc;have Kr:=GJ hS.may u3 u2;rw[u1];rw[u4]at hK;clear u4 u1;generalize (aM t id).1=i at *;have hk:=(gE u2).1;obtain⟨c,hc,e1,e2⟩:=CA Kr;rw[e2]at hK;have hb:=hR.hb;have hs:=hR.hs;have kR:b.aj.length<=gy:=by
  simp only[ba,QG,AI,fD]at hf;exact hf.1.1
 refine Za rfl (Za (v:=.ak 1 (7+i.toNat*8)) (by rcases u3 with rfl|rfl<;>rfl) (Za (v:=.ak 1 (13+i.toNat*8)) (by rcases u3 with rfl|rfl<;>rfl) (Za (v:=gS (t.side i).af) (by rcases u3 with rfl|rfl<;>exact ld hs rfl) ?_)));refine Za (Ym _ bc false false 4 (t.side i).af .i64 k hk) ?_;rw[show (t.side i).af[k]=u from (gE u2).2];refine Za rfl (Za (v:=iv u.card) (bB rfl) (Za rfl (Za (v:=iM b.aj) (ld hb rfl) ?_)));rw[e1]at hK ⊢;refine Za (Ym _ cN false false 12 b.aj .i64 c hc) ?_;generalize b.aj[c]=cd at *;refine Za rfl (Za (v:=gZ cd.dead) (bB rfl) (Za (v:=iv cd.dead.length) (rd:=[]) (by simp[Yn]) (Za (v:=.bool (decide ((cd.dead.length:Int)>0))) rfl (Ya (λh=>?_) (λh=>?_)))))
 ·have h:0<cd.dead.length:=by simpa using h
  rw[aI h]at hK;refine Za (v:=.agg (dG ⟨c,i,false⟩)) rfl (Yd (Qew 3 φ _ _ (dG ⟨c,i,false⟩) rfl rfl) (Ye φ _) ?_);have h2:=hR.app (.rows 3 [dG ⟨c,i,false⟩]);have r2:=Yc φ (.rows 3 [dG ⟨c,i,false⟩]);generalize φ++[ab.rows 3 [dG ⟨c,i,false⟩]]=φ2 at *;obtain⟨qv,q1,q2⟩:=h2.hq;refine Xd hP (f:=21) rfl g21.ok rfl (w210 (ys:=[⟨c,i,false⟩]) q1 q2 (Re r2) (by simp;omega) λσ' vK p1 p2 p3=>hK _ (h2.HF p1 p2 p3))
 ·have h:¬0<cd.dead.length:=by simpa using h
  rw[aB h,zBE]at hK;exact hK _ hR
def v_(eb:Nat)(ids:aa)(again:nA)(σ:List ab):Prop:=
 VV.rd (Qe true 2 [.ak 0 0] σ) λt133=>VV.rd (Qe true 23 [.ak 1 0] σ) λt134=>VV.call (.call 26) [t133,t134,ids] σ λt136 σ=>
 VV.rd (Qj 0 [t136] σ) λt137=>VV.rd (Qj 1 [t136] σ) λt138=>VV.wr (Zs aT [] σ) σ λt25 σ=>VV.wr (Zj 23 [t25,t137] σ) σ λ_ σ=>
 VV.dr (Qe true 23 [t25] σ) σ λt139 l107 σ=>VV.dr (Qe false 1 [.ak eb 0] σ) σ λt140 l109 σ=>VV.dr (Qf 7 72 [t140,t138] σ) σ λt142 l111 σ=>
 VV.dr (Zj 23 [.ak 1 0,t139] σ) σ λ_ l112 σ=>VV.dr (Zj 1 [.ak eb 0,t142] σ) σ λ_ l113 σ=>
 VV.gd (Qi [[],[],[],[1,2],[0,1,2,3],[0,1,2,3,4]] [l107,l109,([],[]),l111,l112,l113]) <|
 VV.rd (Qe true 2 [.ak 0 0] σ) λt92=>VV.rd (Qe true 23 [.ak 1 0] σ) λt93=>VV.call (.call 24) [t92,t93] σ λt94 σ=>again [t94] σ
theorem Yes{b:Bk}(hf:ba b=true)(bW:Yg b.aj)(cI:(bu b).1=0){t:St}(hS:cL b N C t)(hC:C+14<=1000000){fu:Int}(hR:RS b t fu l ws eb qb φ)(hl:l.length<=100000000)
 {again:nA}(hK:∀φ',RS b (Xl (aJ b t) t).1 fu (l++(Xl (aJ b t) t).2) ws eb qb φ'→again [aP (aJ b (Xl (aJ b t) t).1)] φ'):v_ eb (aP (aJ b t)) again φ:=by
 unfold v_;have hd3:=(YG hS.may).2.2;have zU:=Qz (aJ b t) t;have hS':=hS.te hC;have tC:Qk t<=14:=by have:=hS.may.s0.af;have:=hS.may.s1.af;unfold Qk;omega
 refine Za (v:=cE b) (ld hR.hb rfl) (Za (v:=bZ t) (ld hR.hs rfl) (a_ (c27 b hf bW t hS.le (Xo.2 ⟨cI,hS.may⟩) (aJ b t) (by omega)) g26.ok (Za rfl (Za rfl ?_))));have fk:=ZeA (Xl (aJ b t) t).2 (λe he=>(zU.2.1 e he).1);have hlen:(Xl (aJ b t) t).2.length<=14:=by have:=zU.1;omega
 generalize (Xl (aJ b t) t).2=m at *;generalize (Xl (aJ b t) t).1=t' at *;refine Zv (row:=aF t') (row':=aF t') rfl rfl rfl ?_;have h1:=hR.app (.box (aF t'));have t1:=Yc φ (.box (aF t'));generalize φ.length=tn at *;generalize φ++[ab.box (aF t')]=φ1 at *;obtain⟨lv,e1,l1⟩:=h1.he;obtain⟨nv,up,φ2,a1,a2,a3,a4,a5⟩:=SQ (y:=.aW false false 7 (m.map C9)) l1 GP fk (by omega);refine Xf (v:=bZ t') (ld t1 rfl) (Zg _) (Xf (v:=lv) (ld e1 rfl) (Zg _) (Xf a1 a2 ?_));have ut:=a5 _ _ t1;have s2:=a4.box h1.hs (by simp);have f2:=a4.box h1.hf (by simp);have e2:=a4.box e1 (by simp);have he3:=h1.e3;generalize up.map (·.1)=U at *;refine Xf (c8 (row':=aF t') s2 rfl rfl rfl) (Ze _ (Zb s2)) ?_;have s3:ai (φ2.set 1 (.box (aF t'))) 1=.box (aF t'):=Zd _ (Zb s2);have f3:=Yb (x:=.box (aF t')) f2 (by simp) (show 1≠2 by decide);have e3:=Yb (x:=.box (aF t')) e2 (by simp) (show 1≠eb by omega);have l3:LE (l++m) nv (φ2.set 1 (.box (aF t'))):=a3.mono (λc rs h=>XC _ s2 h);have k3:Kq [1,2,eb] 7 φ1 (φ2.set 1 (.box (aF t'))):=(a4.more (by simp)).trans (Kq.set 7 φ2 _ (by simp));generalize φ2.set 1 (.box (aF t'))=φ3 at *;refine Xf (c8 (row':=[nv]) e3 l3.cells rfl rfl) (Ze _ (Zb e3)) ?_;have s4:=Yb (x:=.box [nv]) s3 (by simp) (show eb≠1 by omega);have f4:=Yb (x:=.box [nv]) f3 (by simp) (show eb≠2 by omega);have e4:ai (φ3.set eb (.box [nv])) eb=.box [nv]:=Zd _ (Zb e3);have l4:LE (l++m) nv (φ3.set eb (.box [nv])):=l3.mono (λc rs h=>XC _ e3 h);have k4:=k3.trans (Kq.set 7 φ3 (.box [nv]) (show eb∈[1,2,eb] by simp));have h4:=h1.Cb s4 f4 e4 l4 k4;clear s4 f4 e4 l4 k4 k3 l3;generalize φ3.set eb (.box [nv])=φ4 at *;refine Qv (by simp[Qi,Xm,Xn,Yv,cf,dS,zAB,zAd,ut,rF ut,jW]) (Za (v:=cE b) (ld h4.hb rfl) (Za (v:=bZ t') (ld h4.hs rfl) (a_ (c28 b hf bW t' hS'.le (Xo.2 ⟨cI,hS'.may⟩)) g24.ok (hK _ h4))))
theorem RS.Ws{b:Bk}{s:St}{fu:Int}(h:RS b s fu l ws eb qb τ)(pB:Int):RS b s pB l ws eb qb (τ.set 2 (.box [iv pB])):=by
 obtain⟨lv,he,hl⟩:=h.he;have e3:=h.e3;exact h.Cb (Yb h.hs (by simp) (by decide)) (Zd _ (Zb h.hf)) (Yb he (by simp) (by omega)) (hl.mono λc rs k=>XC _ h.hf k) (Kq.set 7 τ _ (by simp))
theorem RS.cS{b:Bk}{s:St}{fu:Int}{l':List Ev}{τ':List ab}{nv:aa}(h:RS b s fu l ws eb qb τ)(k:Kq [] 7 τ τ')(hl:LE l' nv τ'):RS b s fu l' ws eb qb (τ'.set eb (.box [nv])):=by
 obtain⟨lv,he,_⟩:=h.he;have e3:=h.e3;have Pl:=k.box he (by simp);exact h.Cb (Yb (k.box h.hs (by simp)) (by simp) (by omega)) (Yb (k.box h.hf (by simp)) (by simp) (by omega)) (Zd _ (Zb Pl)) (hl.mono λc rs q=>XC _ Pl q) ((k.more (by simp)).trans (Kq.set 7 τ' _ (by simp)))
theorem YbM(s:St):0<=bO s∧bO s<=3:=by grind [bO]
def yo(eb:Nat)(again k58:nA)(K:KT)(fv t27:aa)(σ:List ab):Prop:=
 VV.rd (Qe false 1 [.ak 2 0] σ) λt158=>VV.rd (Zn .sub false [t158,.int .i64 1] σ) λt159=>VV.wr (Zj 1 [.ak 2 0,t159] σ) σ λ_ σ=>
 VV.rd (Qe false 1 [.ak eb 0] σ) λt160=>VV.rd (Zc 1 [t27] σ) λt161=>VV.rd (Qe false 1 [t161] σ) λt162=>VV.rd (Zc 0 [t27] σ) λt163=>VV.rd (Qe false 1 [t163] σ) λt164=>
 VV.rd (ZO ca [(0,1),(1,1),(2,1)] [.int .i8 14,t162,t164] σ) λt165=>VV.wr (Xq 7 1 ca [(0,7)] [t165] σ) σ λt166 σ=>VV.wr (Qf 7 72 [t160,t166] σ) σ λt167 σ=>VV.wr (Zj 1 [.ak eb 0,t167] σ) σ λ_ σ=>
 VV.rd (Zc 0 [.ak 0 0] σ) λt168=>VV.rd (Qe false 1 [t168] σ) λt169=>VV.rd (Zc 0 [t27] σ) λt170=>VV.rd (Qe false 1 [t170] σ) λt171=>VV.rd (Xi 12 [t169,t171] σ) λt172=>
 VV.rd (Zc 9 [t172] σ) λt173=>VV.rd (Qe false 1 [t173] σ) λt174=>VV.rd (Zc 2 [t27] σ) λt175=>VV.rd (Qe false 1 [t175] σ) λt176=>
 cP (λk153=>VV.test t176 (
  VV.rd (Zc 0 [.ak 0 0] σ) λt177=>VV.rd (Qe false 1 [t177] σ) λt178=>VV.rd (Zc 0 [t27] σ) λt179=>VV.rd (Qe false 1 [t179] σ) λt180=>VV.rd (Xi 12 [t178,t180] σ) λt181=>
  VV.rd (Zc 10 [t181] σ) λt182=>VV.rd (Qe false 1 [t182] σ) λt183=>k153 [t183] σ) (k153 [t174] σ)) (λv154 σ=>
 VV.rd (Qe true 3 [t27] σ) λt185=>VV.call .kf [fv,t185,h0 v154] σ λt187 σ=>VV.rd (Zn .eql false [t187,.int .i64 0] σ) λt192=>VV.test t192 (again [] σ) (
  VV.rd (Zn .eql false [t187,.int .i64 190] σ) λt194=>VV.test t194 (k58 [.int .i8 3] σ) (
   VV.rd (ZO aT [] [] σ) λt189=>VV.wr (Zj 23 [.ak 3 0,t189] σ) σ λ_ σ=>VV.opt (iA true 23 (.ak 3 0) σ) λr167=>K (.bp [r167,.al,.int .i64 0,t187]) σ)))
variable{x:Tr}
theorem XeK{b:Bk}(hf:ba b=true)(bW:Yg b.aj)(ik:b.aj.length<=61)(cI:(bu b).1=0){t:St}(hS:cL b N C t)(hN:N+12000<=1000000)(hC:C+200<=1000000){fu:Int}(wV:1<=fu∧fu<=1000){xb:Nat}
 (hR:RS b t fu l ws eb qb φ)(hl:l.length<=90000000)(hx:jA b x)(hxb:ai φ xb=.box (dG x))(cU:qb<xb){again k58:nA}
 (Db:Yt b x.side (fu-1) (br b x)=true→∀σ',K (.bp [.agg aT,.al,iv 0,iv 2]) σ')
 (De:Yt b x.side (fu-1) (br b x)=false→(runs b x.side (-1) (br b x) t (fu-1)).1≠0→(runs b x.side (-1) (br b x) t (fu-1)).1≠190→∀σ',K (.bp [.agg aT,.al,iv 0,iv (runs b x.side (-1) (br b x) t (fu-1)).1]) σ')
 (Un:Yt b x.side (fu-1) (br b x)=false→(runs b x.side (-1) (br b x) t (fu-1)).1=190→∀σ',RS b (runs b x.side (-1) (br b x) t (fu-1)).2.1 (runs b x.side (-1) (br b x) t (fu-1)).2.2.1 (l++[nH x]++(runs b x.side (-1) (br b x) t (fu-1)).2.2.2) ws eb qb σ'→k58 [aO 3] σ')
 (hGo:Yt b x.side (fu-1) (br b x)=false→(runs b x.side (-1) (br b x) t (fu-1)).1=0→∀σ',RS b (runs b x.side (-1) (br b x) t (fu-1)).2.1 (runs b x.side (-1) (br b x) t (fu-1)).2.2.1 (l++[nH x]++(runs b x.side (-1) (br b x) t (fu-1)).2.2.2) ws eb qb σ'→again [] σ') :
  yo eb again k58 K (.func (.func 22) [] [.ak 0 0,.ak 1 0,.ak 2 0,.ak eb 0]) (.ak xb 0) φ:=by
 unfold yo;have e3:=hR.e3;have eq:=hR.eq;refine Za (v:=iv fu) (ld hR.hf rfl) (Za (CX ..) ?_);rw[zAY _ (by omega)];refine Yd (c8 (row':=[iv (fu-1)]) hR.hf rfl rfl rfl) (Ze _ (Zb hR.hf)) ?_;have h1:=hR.Ws (fu-1);have x1:=Yb (x:=.box [iv (fu-1)]) hxb (by simp) (show 2≠xb by omega);generalize φ.set 2 (.box [iv (fu-1)])=φ1 at *;clear hR hxb;obtain⟨lv,e1,l1⟩:=h1.he;refine Za (v:=lv) (ld e1 rfl) (Za rfl (Za (v:=iv x.side) (ld x1 rfl) (Za rfl (Za (v:=iv x.card) (ld x1 rfl) (Za (v:=.agg (cp (nH x) .al)) rfl ?_)))));refine Yd (N8 (e:=nH x) (cv:=.al) (.inr ⟨rfl,rfl⟩) φ1) (Ye φ1 _) ?_;have h2:=h1.app (.rows 7 [cp (nH x) .al]);have x2:=Qb [ab.rows 7 [cp (nH x) .al]] x1;have r2:=Yc φ1 (.rows 7 [cp (nH x) .al]);have l2:LE l lv (φ1++[ab.rows 7 [cp (nH x) .al]]):=l1.mono (λc rs h=>ZE _ h);generalize φ1++[ab.rows 7 [cp (nH x) .al]]=φ2 at *;obtain⟨nv,up,φ3,a1,a2,a3,a4,_⟩:=SQ l2 (Re r2) (m:=[nH x]) (by simpa using eY.snoc [] [] (nH x) .al .nil (.inr ⟨rfl,rfl⟩)) (by simp;omega);refine Yd a1 a2 ?_;obtain⟨lv2,e2,_⟩:=h2.he;have Hl:=a4.box e2 (by simp);have x3:=a4.box x2 (by simp);refine Yd (c8 (row':=[nv]) Hl a3.cells rfl rfl) (Ze _ (Zb Hl)) ?_;have h4:=h2.cS a4 a3;have x4:=Yb (x:=.box [nv]) x3 (by simp) (show eb≠xb by omega);generalize φ3.set eb (.box [nv])=φ4 at *;obtain⟨c,hc,c1,c2⟩:=CA (b:=b) ⟨hx.1,hx.2.1⟩;have zY:=P2 hf bW (AT hc);refine Za rfl (Za (v:=iM b.aj) (ld h4.hb rfl) (Za rfl (Za (v:=iv x.card) (ld x4 rfl) ?_)));have cB:=λ(σ:List ab)=>Ym σ cN false false 12 b.aj .i64 c hc;rw[←c1]at cB;have hE:br b x=if x.cM=true then b.aj[c].cM else b.aj[c].dead:=by unfold br;rw[c2]
 generalize b.aj[c]=cd at *;refine Za (cB _) (Za rfl (Za (v:=gZ cd.dead) (bB rfl) (Za rfl (Za (v:=.bool x.cM) (ld x4 rfl) (Qg λk153 ek=>?_)))));have gz:(l++[nH x]).length<=100000000:=by simp;omega
 have body:k153 [gZ (br b x)] φ4:=by
  have DH:bF (br b x)=true∧(bz (br b x)).length<=500000000:=by
   grind
  rw[ek];clear ek cB;obtain⟨lv4,e4,l4⟩:=h4.he;refine Za (v:=.agg (dG x)) (ld x4 rfl) (Xd hP (f:=22) (ys:=[.agg (dG x),gZ (br b x),.ak 0 0,.ak 1 0,.ak 2 0,.ak eb 0]) rfl g22.ok rfl (w211 b hf bW ik cI x (br b x) DH.1 DH.2 hS hN hC h4.hb h4.hs h4.hf e4 l4 (by decide) (by omega) (by omega) gz (λhb σ' k=>?_) (λhb z1 z2 σ' k=>?_) (λhb hr σ' cJ q1 q2 q3 q4 k=>?_)))
  ·have hr:=k.box h4.hr (by simp);refine Za (Zt ..) (Xe (Za (Zt ..) (Xe (Za (v:=.agg aT) rfl (Yd (c8 (row':=aT) hr rfl rfl rfl) (Ze _ (Zb hr)) (Zp (Yr (Zb hr) rfl) ?_))))));exact Db hb _
  ·have hr:=k.box h4.hr (by simp);refine Za (Zt ..) ?_;rw[gB z1];refine Xe (Za (Zt ..) ?_);rw[gB z2];refine Xe (Za (v:=.agg aT) rfl (Yd (c8 (row':=aT) hr rfl rfl rfl) (Ze _ (Zb hr)) (Zp (Yr (Zb hr) rfl) ?_)));exact De hb z1 z2 _
  ·have h5:=h4.Cb q1 q2 q3 q4 k;refine Za (Zt ..) (Ya (λz=>?_) (λz=>?_))
   ·exact hGo hb (by simpa using z) _ h5
   ·have z:(runs b x.side (-1) (br b x) t (fu-1)).1=190:=by
     simp_all
    refine Za (Zt ..) ?_;rw[eX z];exact Xh (Un hb z _ h5)
 clear ek;refine Ya (λhd=>?_) (λhd=>?_)
 ·rw[aI hd]at hE;rw[hE]at body;refine Za rfl (Za (v:=iM b.aj) (ld h4.hb rfl) (Za rfl (Za (v:=iv x.card) (ld x4 rfl) (Za (cB _) (Za rfl (Za (v:=gZ cd.cM) (bB rfl) body))))))
 simp_all
theorem Yd3(cs:List Cd):∀(l pre:List Cd),(dI cs pre l).1=0→∀c∈l,eI cs c=true
 |[],_,_,c,hc=>absurd hc (by simp)
 |d::l,pre,h,c,hc=>by
  unfold dI at h;split at h
  ·cases h
  ·split at h
   ·rename_i h2;rcases zAS.1 hc with rfl|hc
    ·exact h2
    ·exact Yd3 cs l _ h c hc
   ·cases h
theorem RW{b:Bk}(h:(bu b).1=0):∀c∈b.aj,eI b.aj c=true:=by
 unfold bu at h;split at h
 ·rename_i h1;exact absurd h h1
 ·rename_i h1;have h1:(cH b.aj).1=0:=by simpa using h1
  unfold cH at h1;split at h1
  ·cases h1
  ·exact Yd3 _ _ _ h1
def ff:List Th→Nat
 |[]=>0
 |u::l=>(if 0<u.harm then 1 else 0)+ff l
def bG(s:St):Nat:=ff s.s0.af+ff s.s1.af
theorem RG:∀l:List Th,ff l<=l.length
 |[]=>No _
 |u::l=>by have:=RG l;unfold ff;split<;>simp<;>omega
theorem Qca:∀l m:List Th,ff (l++m)=ff l+ff m
 |[],m=>by simp[ff]
 |u::l,m=>by simp only[zAJ,ff,Qca l m];omega
theorem Rs:∀(l:List Th) (k:Nat) (u:Th),l[k]?=some u→ff (l.eraseIdx k)+(if 0<u.harm then 1 else 0)=ff l
 |[],k,u,h=>by simp at h
 |v::l,0,u,h=>by cases h;simp only[List.eraseIdx_zero,List.tail_cons,ff];omega
 |v::l,k+1,u,h=>by
  have:=Rs l k u (by simpa using h);simp only[List.eraseIdx_cons_succ,ff];omega
theorem CC{s:St}{k:Int}{d:Sd}(h:d.af=(s.side k).af):bG (s.put k d)=bG s:=by
 unfold bG St.put St.side at *;split<;>simp_all
theorem NP(m:List Int):∀(l:List Int) (s:St),bG (dt s m l)=bG s
 |[],_=>rfl
 |i::l,s=>(NP m l (iV m s i)).trans (CC rfl)
theorem ZcW{s:St}{k:Int}(e:(aH s k).2.2=0):bG (aH s k).1=bG s:=by
 unfold aH at e ⊢;split
 ·rename_i h;rw[h]at e;dsimp only at e;split at e
  ·rename_i q;rw[aI q];exact CC rfl
  ·cases e
 ·split
  ·refine(CC ?_).trans rfl;rfl
  ·exact CC rfl
theorem Z_(k:Int):∀(j:Nat) (s:St),bG (Xr k j s).2.1=bG s
 |0,_=>rfl
 |j+1,s=>by
  unfold Xr;split
  ·rename_i e;exact(Z_ k j _).trans (ZcW e)
  ·rfl
theorem ZdX(b:Bk)(s:St)(sd tg op who:Int)(name:Tx)(n:Int)(hw:op=0∨op=1→who=0∨who=1):bG (jd b s sd tg op who name n).2.1=bG s:=by
 unfold jd;split
 ·rename_i ho;have z:∀(x:Int),x≠0→(fW,jx,x).2.2=0→False:=λx hx h=>hx h;have g_:(df s sd tg who).1=0:=by unfold df;rcases hw ho with rfl|rfl<;>simp
  have key:∀kd fP fU k,(ga kd fP fU s 0 k).2.2=0→bG (ga kd fP fU s 0 k).1=bG s:=by
   intro kd fP fU k e;unfold ga at e ⊢;rw[aI rfl]at e ⊢;unfold nE at e ⊢;split at e
   ·rename_i q;rw[aI q];exact CC rfl
   ·exact(z _ (by decide) e).elim
  unfold f_;rw[g_];split
  ·split
   ·rename_i e;unfold o9 at e ⊢;split at e
    ·rename_i q;rw[aI q];exact key _ _ _ _ e
    ·rename_i q;rw[aB q];exact key _ _ _ _ e
   ·rfl
  ·rfl
 split
 ·unfold ji;split
  ·exact Z_ ..
  ·rfl
 split
 ·unfold el;split
  ·rfl
  split
  ·rfl
  ·exact CC rfl
 split
 ·unfold cZ;split
  ·rfl
  ·exact(NP ..).trans (CC rfl)
 split
 ·unfold gI;split
  ·rfl
  ·exact NP ..
 split
 ·exact NP ..
 ·unfold YY;split
  ·rfl
  ·show bG (s.put sd { s.side sd with af:=(s.side sd).af++[⟨s.next,(gf 0 b.aj name).1,0,true⟩] })=_;unfold bG St.put St.side;split<;>simp[Qca,ff]
mutual
theorem Ycf (b:Bk) (sd tg:Int):∀(x:Ef) (d:Int) (s:St) (fu:Int),mQ b.aj false d x=true→bG (ct b sd tg x s fu).2.1=bG s
 |.mk op who n name c bQ bV,d,s,fu,h=>by
  have h:(decide (0<=op) && (decide (op<=8) && (if op=8 then
   decide (who=0)&&(ez n&&(name==[]&&(fH b.aj false c&&((decide (bQ.length<=16)&&(decide (d+1<=8)&&bY b.aj false (d+1) bQ))&&(decide (bV.length<=16)&&(decide (d+1<=8)&&bY b.aj false (d+1) bV))))))
  else fh c && (decide (bQ.length=0) && (decide (bV.length=0) && ((if cw op then eR false n else ez n) && ((if op=7 then ej b.aj name true else name == []) && iO false op who)))))))=true:=h
  rw[AI,AI]at h
  have h:=h.2.2
  rw[ct]
  by_cases h8:op=8
  ·rw[aI h8]at h ⊢
   simp only[AI]at h
   obtain⟨_,_,_,_,⟨_,_,a7⟩,_,_,a10⟩:=h
   split
   ·exact X9 b sd tg bQ _ s fu a7
   ·exact X9 b sd tg bV _ s fu a10
  ·rw[aB h8]at h ⊢
   simp only[AI]at h
   split
   ·rfl
   ·refine ZdX _ _ _ _ _ _ _ _ λho=>?_
    have h6:=h.2.2.2.2.2
    unfold iO pS at h6
    rw[aB (by omega),aI ho]at h6
    simpa[mY]using h6
theorem X9 (b:Bk) (sd tg:Int):∀(l:List Ef) (d:Int) (s:St) (fu:Int),bY b.aj false d l=true→bG (runs b sd tg l s fu).2.1=bG s
 |[],d,s,fu,_=>by rw[runs]
 |x::l,d,s,fu,h=>by
  simp only[bY,AI]at h
  rw[runs]
  split
  ·exact(X9 b sd tg l d _ _ h.2).trans (Ycf b sd tg x d s fu h.1)
  ·exact Ycf b sd tg x d s fu h.1
end
theorem P7{b:Bk}(cI:(bu b).1=0){place:Int}:∀(l:List Th) (i:Int) (a:Int×Int),(∀u∈l,0<=u.card∧u.card<b.aj.length∧(((b.aj[u.card.toNat]?).map Cd.unit).getD false)=true)→0<=a.2→a.2+999*l.length<=1000000000 →
  (if i<=place∧place<i+l.length then 1 else 0)+a.2<=(kM b place l i a).2
 |[],i,a,_,_,_=>by
  unfold kM;rw[aB (by simp;try omega)];omega
 |u::l,i,a,h,h0,hl=>by
  obtain⟨c1,c2,c3⟩:=h u (by simp);obtain⟨k,hk,e1,e2⟩:=CA (b:=b) ⟨c1,c2⟩;have bR:=RW cI _ (AT hk);have tC:b.aj[k].unit=true:=by
   rw[show u.card.toNat=k by omega,zAP hk]at c3;simpa using c3
  simp only[eI,cm,jh,tC,if_true,AI,fD]at bR;obtain⟨_,_,_,q3,_,_,q6,q7,_⟩:=bR;simp only[IS]at hl ⊢;unfold kM;rw[e2];by_cases hp:i=place
  ·rw[aI hp];have w:BY.wrap (a.2+b.aj[k].bL)=a.2+b.aj[k].bL:=zAY _ (by omega);have:=P7 cI (place:=place) l (i+1) (BY.wrap (a.1+b.aj[k].dL),BY.wrap (a.2+b.aj[k].bL)) (λv hv=>h v (by simp[hv])) (by show 0<=BY.wrap (a.2+b.aj[k].bL);omega) (by show BY.wrap (a.2+b.aj[k].bL)+_<=_;omega);have w2:((BY.wrap (a.1+b.aj[k].dL),BY.wrap (a.2+b.aj[k].bL)):Int×Int).2=a.2+b.aj[k].bL:=w;rw[w2]at this;split<;>split at this<;>omega
  ·rw[aB hp];have w:BY.wrap (a.2+b.aj[k].dU)=a.2+b.aj[k].dU:=zAY _ (by omega);have:=P7 cI (place:=place) l (i+1) (BY.wrap (a.1+b.aj[k].eU),BY.wrap (a.2+b.aj[k].dU)) (λv hv=>h v (by simp[hv])) (by show 0<=BY.wrap (a.2+b.aj[k].dU);omega) (by show BY.wrap (a.2+b.aj[k].dU)+_<=_;omega);have w2:((BY.wrap (a.1+b.aj[k].eU),BY.wrap (a.2+b.aj[k].dU)):Int×Int).2=a.2+b.aj[k].dU:=w;rw[w2]at this;split<;>split at this<;>omega
theorem Rr{b:Bk}(cI:(bu b).1=0)(all:List Th)(iP:∀u∈all,0<=u.card∧u.card<b.aj.length∧(((b.aj[u.card.toNat]?).map Cd.unit).getD false)=true)(hl:all.length<=7):∀(l:List Th) (i:Int),0<=i→i+l.length<=all.length→∀id∈ZK b all l i,∃u∈l,u.id=id∧0<u.harm
 |[],i,_,_,id,h=>by simp[ZK]at h
 |u::l,i,h0,h1,id,h=>by
  simp only[IS]at h1;have ih:=Rr cI all iP hl l (i+1) (by omega) (by omega) id;have hp:=P7 cI (place:=i) all 0 (0,0) iP (zBM 0) (by show (0:Int)+999*_<=_;omega);rw[aI ⟨h0,by omega⟩]at hp;have hp:1+0<=(jU b all i).2:=hp;unfold ZK at h;split at h
  ·rename_i q;rcases zAS.1 h with h|h
   ·exact⟨u,by simp,h.symm,by omega⟩
   ·obtain⟨v,h2,h3⟩:=ih h;exact⟨v,by simp[h2],h3⟩
  ·obtain⟨v,h2,h3⟩:=ih h;exact⟨v,by simp[h2],h3⟩
theorem WZ{b:Bk}(cI:(bu b).1=0){s:St}(hM:du b s):∀id∈aJ b s,∃u∈s.s0.af++s.s1.af,u.id=id∧0<u.harm:=by
 have hu:∀u∈s.s0.af++s.s1.af,0<=u.card∧u.card<b.aj.length∧(((b.aj[u.card.toNat]?).map Cd.unit).getD false)=true:=by
  intro u h;have:=hM.un.1 u h;simp only[Zw,AI,fD]at this;exact⟨this.1,this.2.1,this.2.2.1⟩
 have k0:=Rr cI s.s0.af (λu h=>hu u (by simp[h])) hM.s0.af s.s0.af 0 (zBM 0) (by omega);have k1:=Rr cI s.s1.af (λu h=>hu u (by simp[h])) hM.s1.af s.s1.af 0 (zBM 0) (by omega);intro id h;unfold aJ at h;have h:id∈ZK b s.s0.af s.s0.af 0∨id∈ZK b s.s1.af s.s1.af 0:=by
  split at h<;>(rcases zAF.1 h with h|h)<;>simp_all [Q2]
 rcases h with h|h
 ·obtain⟨u,q1,q2⟩:=k0 id h;exact⟨u,by simp[q1],q2⟩
 ·obtain⟨u,q1,q2⟩:=k1 id h;exact⟨u,by simp[q1],q2⟩
variable{u:Th}
theorem ZbG{l:List Th}{v:Th}(hk:l[k]?=some u)(hv:v∈l)(cU:v.id≠u.id):v∈l.eraseIdx k:=by
 obtain⟨i,hi,rfl⟩:=zBg hv;rw[List.mem_eraseIdx_iff_getElem?];refine⟨i,?_,zAP hi⟩;rintro rfl;rw[zAP hi]at hk;cases hk;exact cU rfl
theorem Xb3{s:St}{id:Int}(hn:((s.s0.af++s.s1.af).map Th.id).Nodup)(hu:u∈s.s0.af++s.s1.af)(hi:u.id=id)(hh:0<u.harm) :
  bG (Qn s id).1+1=bG s∧(((Qn s id).1.s0.af++(Qn s id).1.s1.af).map Th.id).Nodup∧∀v∈s.s0.af++s.s1.af,v.id≠id→v∈(Qn s id).1.s0.af++(Qn s id).1.s1.af:=by
 have same:∀w∈s.s0.af++s.s1.af,w.id=id→w=u:=by
  intro w hw e;obtain⟨i,h1,rfl⟩:=zBg hw;obtain⟨j,h2,rfl⟩:=zBg hu;have:=(List.getElem_inj (h₀:=by simpa using h1) (h₁:=by simpa using h2) hn).1 (show ((s.s0.af++s.s1.af).map Th.id)[i]'(by simpa using h1)=((s.s0.af++s.s1.af).map Th.id)[j]'(by simpa using h2) by simp only[List.getElem_map];rw[e,hi]);subst this;rfl
 unfold Qn;cases q0:gM s.s0.af id with
 |some k=>
  obtain⟨w,hw,e⟩:=YS q0;have hm:w∈s.s0.af:=zAI hw;have ew:=same w (by simp[hm]) e;subst ew;have h1:=Rs _ k w hw;rw[aI hh]at h1;refine⟨by show ff (s.s0.af.eraseIdx k)+ff s.s1.af+1=ff s.s0.af+ff s.s1.af;omega,?_,λv hv cU=>?_⟩
  ·exact hn.sublist (((zCj _ _).append (zBL _)).map _)
  ·rcases zAF.1 hv with hv|hv
   ·exact zAp _ (ZbG hw hv (by rw[e];exact cU))
   ·exact zAi _ hv
 |none=>
  simp only;cases q1:gM s.s1.af id with
  |some k=>
   obtain⟨w,hw,e⟩:=YS q1;have hm:w∈s.s1.af:=zAI hw;have ew:=same w (by simp[hm]) e;subst ew;have h1:=Rs _ k w hw;rw[aI hh]at h1;refine⟨by show ff s.s0.af+ff (s.s1.af.eraseIdx k)+1=ff s.s0.af+ff s.s1.af;omega,?_,λv hv cU=>?_⟩
   ·exact hn.sublist (((zBL _).append (zCj _ _)).map _)
   ·rcases zAF.1 hv with hv|hv
    ·exact zAp _ hv
    ·exact zAi _ (ZbG hw hv (by rw[e];exact cU))
  |none=>
   have n0:=Rk q0;have n1:=Rk q1;rcases zAF.1 hu with h|h
   ·exact absurd (zAh.2 ⟨u,h,hi⟩) n0
   ·exact absurd (zAh.2 ⟨u,h,hi⟩) n1
theorem Rq:∀(ids:List Int) (s:St),ids.Nodup→((s.s0.af++s.s1.af).map Th.id).Nodup→(∀id∈ids,∃u∈s.s0.af++s.s1.af,u.id=id∧0<u.harm)→bG (Xl ids s).1+ids.length=bG s
 |[],s,_,_,_=>by simp[Xl]
 |id::ids,s,hd,hn,h=>by
  rw[zBr]at hd;obtain⟨u,hu,hi,hh⟩:=h id (by simp);obtain⟨q1,q2,q3⟩:=Xb3 hn hu hi hh;have:=Rq ids (Qn s id).1 hd.2 q2 λLw KE=>by
   obtain⟨v,hv,hvi,hvh⟩:=h Lw (by simp[KE]);exact⟨v,q3 v hv (by rintro e;rw[hvi]at e;subst e;exact hd.1 KE),hvi,hvh⟩
  rw[Xl,IS];show bG (Xl ids (Qn s id).1).1+_=_;omega
theorem Oy{b:Bk}(cI:(bu b).1=0){N C:Nat}(hC:C+14<=1000000):∀(n:Nat) (s:St) (ws:List Tr) (l:List Ev),cL b N C s→bG (quiet b n s ws l).1+(quiet b n s ws l).2.1.length<=bG s+ws.length
 |0,s,ws,l,_=>No _
 |n+1,s,ws,l,h=>by
  unfold quiet;split
  ·exact No _
  ·have h1:=Oy cI hC n _ (ws++e_ b s (aJ b s)) (l++(Xl (aJ b s) s).2) (h.te hC);have h2:=Rq (aJ b s) s (YG h.may).1 h.may.un.2 (WZ cI h.may);have h3:=X7 b s (aJ b s);rw[By]at h1;omega
theorem G7{b:Bk}{s:St}(hM:du b s):bG s<=14:=by
 have h0:=hM.s0.af;have h1:=hM.s1.af;have:=RG s.s0.af;have:=RG s.s1.af;unfold bG;omega
theorem Oj{b:Bk}(cI:(bu b).1=0)(hx:jA b x):bY b.aj false 1 (br b x)=true:=by
 obtain⟨c,hc,_,e⟩:=CA (b:=b) ⟨hx.1,hx.2.1⟩;have k:=RW cI _ (AT hc);simp only[eI,bE,AI]at k;obtain⟨_,_,_,_,_,_,_,_,_,_,⟨_,_,hd⟩,_,_,hn⟩:=k;unfold br;rw[e];split
 ·exact hn
 ·exact hd
def Xd9(eb qb:Nat)(K:KT)(k58 Ty:nA)(aap:List aa)(σ:List ab):Prop:=
 VV.rd (Qe true 2 [.ak 0 0] σ) λt86=>VV.rd (Qe true 23 [.ak 1 0] σ) λt87=>VV.call (.call 24) [t86,t87] σ λt88 σ=>
 VV.loop (λTA v66 σ=>VV.rd (Yn [h0 v66] σ) λt90=>VV.rd (Zn .gtr false [t90,.int .i64 0] σ) λt91=>VV.test t91 (
  VV.rd (Yn [h0 v66] σ) λt96=>VV.loop (λTC v71 σ=>VV.rd (Zn .lss false [h0 v71,t96] σ) λt98=>VV.test t98 (
    cP (λk73=>yn qb (h0 v66) (h0 v71) k73 σ) (λ_ σ=>VV.rd (Zn .add false [h0 v71,.int .i64 1] σ) λt131=>TC [t131] σ))
    (v_ eb (h0 v66) TA σ)) [.int .i64 0] σ) (
  VV.call (.call 27) [.ak 1 0] σ λt143 σ=>VV.rd (Zn .neq false [t143,.int .i8 0] σ) λt145=>VV.test t145 (k58 [t143] σ) (
   VV.call (.call 28) [.ak qb 0] σ λt148 σ=>VV.rd (Qj 0 [t148] σ) λt149=>VV.rd (Qj 1 [t148] σ) λt150=>VV.wr (Zs [.int .i64 0,.int .i64 0,.bool false] [] σ) σ λt27 σ=>
   VV.wr (Zj 3 [t27,t149] σ) σ λ_ σ=>VV.rd (t_ .not [t150] σ) λt152=>VV.test t152 (
    VV.dr (Qe true 23 [.ak 1 0] σ) σ λt153 l125 σ=>VV.dr (Qe false 1 [.ak eb 0] σ) σ λt154 l127 σ=>VV.dr (Qe false 1 [.ak 2 0] σ) σ λt155 l129 σ=>VV.dr (Zj 23 [.ak 3 0,t153] σ) σ λ_ l130 σ=>
    VV.gd (Qi [[],[],[],[0],[0,1,3],[0,1,2,3,4],[0,1,2,3,4,5]] [l125,l127,l129,l130,([],[]),([],[]),([],[])]) <| VV.opt (iA true 23 (.ak 3 0) σ) λr131=>K (.bp [r131,t154,t155,.int .i64 0]) σ) (
    VV.rd (Qe false 1 [.ak 2 0] σ) λt156=>VV.rd (Zn .eql false [t156,.int .i64 0] σ) λt157=>VV.test t157 (k58 [.int .i8 3] σ) (
     yo eb Ty k58 K (.func (.func 22) [] [.ak 0 0,.ak 1 0,.ak 2 0,.ak eb 0]) t27 σ))))) [t88] σ
def Ce(eb qb:Nat)(K:KT)(σ:List ab):Prop:=
 cP (λk58=>VV.loop (Xd9 eb qb K k58) [] σ) (λv59 σ=>yk eb K v59 σ)
theorem QeC{b:Bk}(hf:ba b=true)(bW:Yg b.aj)(ik:b.aj.length<=61)(cI:(bu b).1=0){s:St}(hS:cL b N C s){fu:Int}(wV:0<=fu∧fu<=1000)(hC:C+200*(fu.toNat+1)+14<=1000000)(hN:N+12000*(ws.length+bG s+1)<=1000000)(An:ws.length<=1000)(bR:∀x∈ws,jA b x)
 (hR:RS b s fu [] ws eb qb τ)
 (hK:∀(r:Int×St×List Ev×Int) (lv:aa) (cs:List aa) (σ':List ab),r=XK b (fu.toNat+1) s ws fu []→SB σ' [] cs r.2.1→LE r.2.2.1 lv σ'→K (.bp [.agg cs,lv,iv r.2.2.2,iv r.1]) σ'):Ce eb qb K τ:=by
 unfold Ce;refine Qg λk58 ek=>?_;have oT:∀(t:St) (jE how:Int) (l2:List Ev) (vx:List Tr) (υ:List ab),aY 1000000000 t→RS b t jE l2 vx eb qb υ→0<=how∧how<=3→l2.length<=100000000→jm b t l2 jE how=XK b (fu.toNat+1) s ws fu []→k58 [aO how] υ:=by
  intro t jE how l2 vx υ ht hr hh hl e;rw[ek];exact YeI b hf bW ht hr how hh hl (λσ' lv hle=>hK _ lv _ σ' e (SB.ro _) hle)
 clear ek;refine Xg (ι:=Nat) (λi vs υ=>vs=[]∧∃ (t:St) (jE:Int) (l2:List Ev) (vx:List Tr) (N2 C2 n:Nat),RS b t jE l2 vx eb qb υ∧cL b N2 C2 t∧0<=jE∧jE<=1000∧i=jE.toNat∧N2 + 12000 * (vx.length + bG t + 1)<=1000000∧C2 + 200 * (i + 1) + 14<=1000000 ∧
   l2.length + 13000 * (i + 1)<=90000000∧vx.length + 20 * (i + 1)<=80000000∧(∀ x∈vx,jA b x)∧jE<=n∧XK b (n + 1) t vx jE l2=XK b (fu.toNat + 1) s ws fu []) id fu.toNat
  ⟨rfl,s,fu,[],ws,N,C,fu.toNat,hR,hS,wV.1,wV.2,rfl,hN,hC,by simp;omega,by omega,bR,by omega,rfl⟩ ?_
 clear hR hS hN hC An bR;rintro i vs υ again ⟨rfl,t0,jE,l0,Cx,N2,C2,n,hR,hS,wR,vb,rfl,hN,hC,hl,hw,bR,hn,nj⟩ bj;unfold Xd9;refine Za (v:=cE b) (ld hR.hb rfl) (Za (v:=bZ t0) (ld hR.hs rfl) (a_ (c28 b hf bW t0 hS.le (Xo.2 ⟨cI,hS.may⟩)) g24.ok ?_));have tC:Qk t0<=14:=by have:=hS.may.s0.af;have:=hS.may.s1.af;unfold Qk;omega
 have DP:=Oo (b:=b) (N:=N2) (C:=C2) (by omega) (Qk t0) t0 Cx l0 (No _) hS;refine Xg (ι:=Nat) (λi vs φ=>∃(t:St) (l':List Ev) (kT:List Tr),vs=[aP (aJ b t)]∧i=Qk t∧RS b t jE l' kT eb qb φ∧cL b N2 C2 t∧quiet b (Qk t) t kT l'=quiet b (Qk t0) t0 Cx l0∧l'.length+Qk t<=l0.length+14∧kT.length+Qk t<=Cx.length+14) id (Qk t0)
  ⟨t0,l0,Cx,rfl,rfl,hR,hS,rfl,by omega,by omega⟩ ?_
 clear hR;rintro _ _ φ TG ⟨t,l',kT,rfl,rfl,hR,yI,hq,gz,PB⟩ Kj;refine Za (v:=iv (aJ b t).length) (rd:=[]) (by simp[Yn,h0]) (Za (v:=.bool (decide (((aJ b t).length:Int)>0))) rfl (Ya (λh=>?_) (λh=>?_)))
 ·have hd:aJ b t≠[]:=by rintro e;rw[e]at h;simp at h
  obtain⟨d1,d2,d3⟩:=YG yI.may;refine Za (v:=iv (aJ b t).length) (rd:=[]) (by simp[Yn,h0]) (Xg (ι:=Nat) (λj vs ψ=>vs=[iv j]∧j<=(aJ b t).length∧RS b t jE l' (kT++e_ b t ((aJ b t).take j)) eb qb ψ) (λj=>(aJ b t).length-j) 0 ⟨rfl,by omega,by simpa[e_]using hR⟩ ?_);rintro j _ ψ mO ⟨rfl,hj,Kg⟩ lE;refine Za (v:=.bool (decide ((j:Int)<(aJ b t).length))) rfl (QM (λh2=>?_) (λh2=>?_))
  ·have hwl:(kT++e_ b t ((aJ b t).take j)).length<=90000000:=by
    grind [X7]
   refine Qg λk73 ek=>?_;refine YeK hf yI Kg h2 (d2 _ (AT h2)) hwl λψ' h3=>?_;rw[zAb,←Rx,←Yu _ _ h2]at h3;rw[ek];refine Za (Xj ..) ?_;rw[Xc (n:=j) (by omega)]
   grind
  ·subst h2;rw[zAl]at Kg;refine Yes hf bW cI yI (by omega) Kg (by omega) λψ' h3=>?_;have w_:=Hf yI.may hd;have zU:=(Qz (aJ b t) t).1;have fk:=OL (aJ b t) t d1 d2;have hT:=X7 b t (aJ b t);rw[X_ (N:=N2) (C:=C2) (by omega) kT l' yI hd]at hq;refine Kj _ _ _ w_ ⟨_,_,_,rfl,rfl,h3,yI.te (by omega),hq,?_,?_⟩
   ·rw[By];omega
   ·rw[By];omega
 ·have hd:aJ b t=[]:=by
   grind [zAc]
  rw[XbL _ _ _ hd]at hq;have km:=Nl n jE hq.symm;rw[nj]at km;clear Kj nj;obtain⟨_,_,_,⟨m',p1,p2,p3⟩⟩:=DP;rw[←hq]at p1;have p1:kT=Cx++m':=p1;have vg:∀x∈kT,jA b x:=by
   grind
  have rX:=Oy cI (by omega:C2+14<=1000000) (Qk t0) t0 Cx l0 hS;rw[←hq]at rX
  replace rX:bG t+kT.length<=bG t0+Cx.length:=rX
  clear p1 p2 p3 hq;refine Xd hP (f:=27) rfl g27.ok rfl (w212 t hR.hs ?_);have Di:=YbM t;refine Za (ZX ..) (Ya (λhz=>?_) (λhz=>?_))
  ·have hz:bO t≠0:=by simpa using hz
   rw[aI hz]at km;exact oT t jE _ l' kT φ yI.qA hR Di (by omega) km.symm
  have hz:bO t=0:=by simpa using hz
  rw[aB (by simpa using hz)]at km;obtain⟨qv,q1,q2⟩:=hR.hq;refine Xd hP (f:=28) rfl g28.ok rfl (w213 q1 q2 (by omega) (λDM σ' r1 r2 r3=>?_) (λx wr wL σ' vK r1 r2 r3=>?_))
  ·subst DM;have h3:=hR.HF r1 r2 r3;refine Za rfl (Za rfl (Zv (row:=[iv 0,iv 0,.bool false]) (row':=[iv 0,iv 0,.bool false]) rfl rfl rfl ?_));have h4:=h3.app (.box [iv 0,iv 0,.bool false]);generalize σ'++[ab.box [iv 0,iv 0,.bool false]]=φ2 at *;obtain⟨lv,e1,l1⟩:=h4.he;have hr:=h4.hr;have e3:=h4.e3;refine Za rfl (Xh (Xf (v:=bZ t) (ld h4.hs rfl) (Zg _) (Xf (v:=lv) (ld e1 rfl) (Zg _) (Xf (v:=iv jE) (ld h4.hf rfl) (Zg _) (Xf (c8 (row':=aF t) hr rfl rfl rfl) (Ze _ (Zb hr)) ?_)))));have n1:eb≠3:=by omega
   refine Qv (by simp[Qi,Xm,Xn,Yv,cf,dS,zAB,zAd,n1,n1.symm]) (Zp (Yr (Zb hr) rfl) ?_);exact hK (0,t,l',jE) lv _ _ km.symm (SB.ro _) (l1.mono λc rs k=>XC _ hr k)
  ·subst wL;have h3:=hR.HF r1 r2 r3;refine Za rfl (Za rfl (Zv (row:=dG x) (row':=dG x) rfl rfl rfl ?_));have hq3:=Zb r1;have h4:=h3.app (.box (dG x));have x4:=Yc σ' (.box (dG x));generalize σ'.length=xb at *;generalize σ'++[ab.box (dG x)]=φ2 at *;refine Za rfl (Xe (Za (v:=iv jE) (ld h4.hf rfl) (Za (Zt ..) (Ya (λmJ=>?_) (λmJ=>?_)))))
   ·have mJ:jE=0:=by simpa using mJ
    have js:XK b (fu.toNat+1) s ws fu []=jm b t l' jE 3:=by rw[km];simp only;rw[aI mJ]
    exact oT t jE 3 l' wr φ2 yI.qA h4 (by decide) (by omega) js.symm
   have mJ:jE≠0:=by simpa using mJ
   have hx:=vg x (by simp)
   replace rX:bG t+(wr.length+1)<=bG t0+Cx.length:=rX
   have Vt:=X9 b x.side (-1) (br b x) 1 t (jE-1) (Oj cI hx);have js:XK b (fu.toNat+1) s ws fu []=if Yt b x.side (jE-1) (br b x)=true then (2,fW,[],0)
    else if (runs b x.side (-1) (br b x) t (jE-1)).1=0 then XK b n (runs b x.side (-1) (br b x) t (jE-1)).2.1 wr (runs b x.side (-1) (br b x) t (jE-1)).2.2.1 (l'++[nH x]++(runs b x.side (-1) (br b x) t (jE-1)).2.2.2)
    else if (runs b x.side (-1) (br b x) t (jE-1)).1=190 then jm b (runs b x.side (-1) (br b x) t (jE-1)).2.1 (l'++[nH x]++(runs b x.side (-1) (br b x) t (jE-1)).2.2.2) (runs b x.side (-1) (br b x) t (jE-1)).2.2.1 3
    else ((runs b x.side (-1) (br b x) t (jE-1)).1,fW,[],0):=by rw[km];simp only;rw[aB mJ]
   clear km;have mr:Yt b x.side (jE-1) (br b x)=false→cL b (N2+12000) (C2+200) (runs b x.side (-1) (br b x) t (jE-1)).2.1∧(runs b x.side (-1) (br b x) t (jE-1)).2.2.2.length<=12000:=by
    intro ha;have dE:nf b (br b x)=true:=by
     grind [Yt]
    obtain⟨_,va⟩:=Jc dE;obtain⟨k1,k2⟩:=A9 (b:=b) (tg:=-1) hx.2.2 (br b x) (jE-1) yI (by omega) (by omega);exact⟨k1.mono (by omega) (by omega),by omega⟩
   refine XeK hf bW ik cI yI (by omega) (by omega) (by omega) h4 (by omega) hx x4 hq3 (λha σ2=>?_) (λha z1 z2 σ2=>?_) (λha z σ2 h5=>?_) (λha z σ2 h5=>?_)
   ·rw[aI ha]at js;exact hK (2,fW,[],0) .al _ _ js.symm SB.zero (.inl ⟨rfl,rfl⟩)
   ·rw[aB (by rw[ha];simp),aB z1,aB z2]at js;exact hK (_,fW,[],0) .al _ _ js.symm SB.zero (.inl ⟨rfl,rfl⟩)
   ·rw[aB (by rw[ha];simp),aB (by rw[z];decide),aI z]at js;obtain⟨k1,k2⟩:=mr ha;exact oT _ _ 3 _ wr σ2 k1.qA h5 (by decide) (by grind) js.symm
   ·rw[aB (by rw[ha];simp),aI z]at js;obtain⟨k1,k2⟩:=mr ha;have UO:=Hc b x.side (-1) (br b x) t (jE-1) (by omega);obtain⟨n',rfl⟩:∃n',n=n'+1:=⟨n-1,by omega⟩;have hwl:wr.length+1=(x::wr).length:=rfl;obtain⟨m,hm⟩:∃m,((runs b x.side (-1) (br b x) t (jE-1)).2.2.1).toNat=m:=⟨_,rfl⟩;have xm:m<jE.toNat:=by omega
    have qZ:(runs b x.side (-1) (br b x) t (jE-1)).2.2.1<=(n':Int):=by omega
    refine bj m [] σ2 xm ⟨rfl,_,_,_,wr,_,_,n',h5,k1,UO.1,by omega,hm.symm,by omega,by omega,by grind,by omega,λy hy=>vg y (by simp[hy]),qZ,js.symm⟩
def kV(b:Bk)(x:Tr):Bool:=((decide (x.card<0)||decide (x.card >= b.aj.length))||decide (x.side<0))||decide (x.side>1)
def Xk(fu:Int):Int:=min (max fu 0) 1000
def bT(b:Bk)(s:St)(row:List Tr)(fu:Int):Int×St×List Ev×Int:=
 if (decide ((row.length:Int)>1000) || !aL (bu b).1 b s true)=true then (170,fW,[],0)
 else if row.any (kV b)=true then (170,fW,[],0)
 else if s.phase=2 then (0,s,[],Xk fu)
 else XK b ((Xk fu).toNat+1) s row (Xk fu) []
theorem ON{b:Bk}(h:kV b x=false):jA b x:=by
 unfold kV at h;simp only[zAx,s9]at h;obtain⟨⟨⟨h1,h2⟩,h3⟩,h4⟩:=h;exact⟨by omega,by omega,by omega⟩
theorem q92(b:Bk)(s:St)(hf:ba b=true)(bW:Yg b.aj)(ik:aL (bu b).1 b s true=true→b.aj.length<=61)(hs:aY 1000000000 s)(row:List Tr)(fu:Int)(N C:Nat)(hT:TB N s)(hC:Zm s<=C)(hN:aL (bu b).1 b s true=true→N+12000*(row.length+bG s+1)<=1000000)(mH:C+200*((Xk fu).toNat+1)+14<=1000000) :
  PC 8 [cE b,bZ s,qN row,iv fu] (j0 (bT b s row fu)):=by
 refine Yi hP g8.ok rfl ?_;have hF:0<=Xk fu∧Xk fu<=1000:=by unfold Xk;omega
 rw[H4.e];unfold g8;dsimp only;refine Yd (v:=.ak 0 0) (rd:=[]) (up:=[(0,.box (cq b))]) rfl (Ye [] _) (Yd (v:=.ak 1 0) (rd:=[]) (up:=[(1,.box (aF s))]) rfl (Ye [ab.box (cq b)] _) (Yd (v:=.ak 2 0) (rd:=[]) (up:=[(2,.box [iv fu])]) rfl (Ye [ab.box (cq b),.box (aF s)] _) (Yd (v:=.ak 3 0) (rd:=[]) (up:=[(3,.box aT)]) rfl (Ye [ab.box (cq b),.box (aF s),.box [iv fu]] _) (Za (v:=iv fu) (ld (row:=[iv fu]) rfl rfl) (Za (v:=iv (max fu 0)) (vT ..) (Za (v:=iv (Xk fu)) (XV ..) (Yd (c8 (row:=[iv fu]) (row':=[iv (Xk fu)]) rfl rfl rfl rfl) (Ze _ (by simp)) ?_)))))));obtain⟨σ,eσ⟩:∃σ:List ab,([ab.box (cq b),ab.box (aF s),ab.box [iv fu]]++[ab.box aT]).set 2 (ab.box [iv (Xk fu)])=σ:=⟨_,rfl⟩;rw[eσ];have b1:ai σ 0=.box (cq b):=by rw[←eσ];rfl
 have s1:ai σ 1=.box (aF s):=by rw[←eσ];rfl
 have f1:ai σ 2=.box [iv (Xk fu)]:=by rw[←eσ];rfl
 have r1:ai σ 3=.box aT:=by rw[←eσ];rfl
 clear eσ;refine Za (v:=iv row.length) (rd:=[]) (by simp[Yn]) (ay ?_);have wU:∀K':KT,(∀τ,dg σ τ []→K' (.bool (decide ((row.length:Int)>1000) || !aL (bu b).1 b s true)) τ) →
   VV.gw (.bool (decide ((row.length:Int)>1000))) false (λk=>VV.call (.call 19) [.ak 0 0,.ak 1 0] σ k) σ λt40 σ=>
   VV.gr (.bool (decide ((row.length:Int)>1000))) false (λk=>VV.rd (t_ .not [t40] σ) k) λt41=>
   VV.rd (Yo [.bool (decide ((row.length:Int)>1000)),.bool true,t41] σ) (λv=>K' v σ):=by
  intro K' lD;rcases cD (decide ((row.length:Int)>1000))with q|q
  ·rw[q]at lD ⊢;have:=lD σ ⟨No _,λ_ _ _=>rfl⟩;refine ay ?_;exact by simpa using this
  ·rw[q]at lD ⊢;refine Qp (Xd hP (f:=19) rfl g19.ok rfl (w209 b hf bW s hs b1 s1 λτ hτ=>Qa (Za rfl (Za rfl ?_))));simp_all
 refine wU _ λτ hτ=>?_;clear wU;have b2:=hτ.get b1;have s2:=hτ.get s1;have f2:=hτ.get f1;have r2:=hτ.get r1;clear hτ b1 s1 f1 r1;have hz:∀(υ:List ab),ai υ 3=.box aT→bT b s row fu=(170,fW,[],0) →
   VV.wr (Zj 23 [.ak 3 0,.agg aT] υ) υ λ_ σ=>VV.opt (iA true 23 (.ak 3 0) σ) λr13=>∃rd,aA (hp σ) rd (.bp [r13,.al,.int .i64 0,.int .i64 170]) (j0 (bT b s row fu)):=by
  intro υ hr e;refine Yd (c8 (row':=aT) hr rfl rfl rfl) (Ze _ (Zb hr)) (Zp (Yr (Zb hr) rfl) ?_);rw[e];exact xH (r:=(170,fW,[],0)) SB.zero (.inl ⟨rfl,rfl⟩)
 rcases cD (decide ((row.length:Int)>1000) || !aL (bu b).1 b s true)with q|q
 ·rw[q];exact Xh (Za (v:=.agg aT) rfl (hz _ r2 (by unfold bT;rw[aI q])))
 rw[q];have hq:=q;simp only[zAx,s9,zBt]at hq;obtain⟨hlen,lL⟩:=hq;have hlen:row.length<=1000:=by omega
 have cI:=(Xo.1 lL).1;have hS:cL b N C s:=⟨(Xo.1 lL).2,hT,hC⟩;refine Xe (Za (v:=iv row.length) (rd:=[]) (by simp[Yn]) ?_);refine Xg (ι:=Nat) (λj vs υ=>vs=[iv j]∧j<=row.length∧dg τ υ []∧∀x∈row.take j,kV b x=false) (λj=>row.length-j) 0 ⟨rfl,by omega,⟨No _,λ_ _ _=>rfl⟩,by simp⟩ ?_;rintro j _ υ again ⟨rfl,hj,bj,iP⟩ rV;have b3:=bj.get b2;have s3:=bj.get s2;have f3:=bj.get f2;have r3:=bj.get r2;refine ay (QM (λh=>?_) (λh=>?_))
 ·refine Za (Ym _ dG false false 3 row .i64 j h) ?_;have il:row[j]∈row:=AT h;have lq:=Yu row j h;generalize row[j]=x at *;refine Za (v:=.agg (dG x)) (bB rfl) (Zv (row:=dG x) (row':=dG x) rfl rfl rfl ?_);have lE:=bj.j_ (.box (dG x));have x4:=Yc υ (.box (dG x));have b4:=Qb [ab.box (dG x)] b3;have r4:=Qb [ab.box (dG x)] r3;generalize υ.length=xb at *;generalize υ++[ab.box (dG x)]=υ2 at *;refine Za rfl (Za (v:=iv x.card) (ld x4 rfl) ?_);refine ay ?_;refine To (d:=decide (x.card >= b.aj.length)) (v1:=.ak xb 0) (v2:=iv x.card) (v3:=.ak 0 0) (v4:=iM b.aj) (v5:=iv b.aj.length) (q5:=[]) (λ_=>rfl) (λ_=>ld x4 rfl) (λ_=>rfl) (λ_=>ld b4 rfl) (λ_=>by simp[Yn]) (λ_=>rfl) ?_;refine vS (d:=decide (x.side<0)) (v1:=.ak xb 1) (v2:=iv x.side) (λ_=>rfl) (λ_=>ld x4 rfl) (λ_=>rfl) ?_;refine vS (d:=decide (x.side>1)) (v1:=.ak xb 1) (v2:=iv x.side) (λ_=>rfl) (λ_=>ld x4 rfl) (λ_=>rfl) (Ya (c:=kV b x) (λhb=>?_) (λhb=>?_))
  ·exact ay (hz _ r4 (by grind [bT]))
  ·refine Za (Xj ..) ?_;rw[Xc (n:=j) (by omega)]
   grind
 ·subst h;rw[zAl]at iP;clear rV;have aas:row.any (kV b)=false:=by
   simp_all
  refine Za (v:=bZ s) (ld s3 rfl) (a_ (wb s hs) g20.ok (Yd (c8 (row':=aF s) s3 rfl rfl rfl) (Ze _ (Zb s3)) ?_));have b4:=Yb (x:=.box (aF s)) b3 (by simp) (show 1≠0 by decide);have s4:ai (υ.set 1 (.box (aF s))) 1=.box (aF s):=Zd _ (Zb s3);have f4:=Yb (x:=.box (aF s)) f3 (by simp) (show 1≠2 by decide);have r4:=Yb (x:=.box (aF s)) r3 (by simp) (show 1≠3 by decide);generalize υ.set 1 (.box (aF s))=υ1 at *;have hr4:=Zb r4;refine Yd (v:=.ak υ1.length 0) (rd:=[]) (up:=[(υ1.length,.box [.al])]) rfl (Ye υ1 _) ?_;have b5:=Qb [ab.box [.al]] b4;have s5:=Qb [ab.box [.al]] s4;have f5:=Qb [ab.box [.al]] f4;have r5:=Qb [ab.box [.al]] r4;have e5:=Yc υ1 (.box [.al]);have hl5:(υ1++[ab.box [.al]]).length=υ1.length+1:=by simp
  generalize υ1++[ab.box [.al]]=υ2 at *;refine Za rfl (Za (v:=aO s.phase) (ld s5 rfl) (Za (Zt ..) (Ya (λxq=>?_) (λxq=>?_))))
  ·have xq:s.phase=2:=by simpa using xq
   refine Xf (v:=bZ s) (ld s5 rfl) (Zg _) (Xf (v:=iv (Xk fu)) (ld f5 rfl) (Zg _) (Xf (c8 (row':=aF s) r5 rfl rfl rfl) (Ze _ (Zb r5)) ?_));refine Qv (by rfl) (Zp (Yr (Zb r5) rfl) ?_);have e:bT b s row fu=(0,s,[],Xk fu):=by
    simp_all [bT,aB]
   rw[e];exact xH (r:=(0,s,[],Xk fu)) (SB.ro s) (.inl ⟨rfl,rfl⟩)
  ·have xq:¬s.phase=2:=by simpa using xq
   have e:bT b s row fu=XK b ((Xk fu).toNat+1) s row (Xk fu) []:=by
    simp_all [bT,aB]
   rw[e];refine Za (v:=.agg [.al]) rfl (Yd (v:=.ak υ2.length 0) (rd:=[]) (up:=[(υ2.length,.box [.al])]) rfl (Ye υ2 _) ?_);have h6:RS b s (Xk fu) [] [] υ1.length υ2.length (υ2++[.box [.al]]):=
    ⟨Qb _ b5,Qb _ s5,Qb _ f5,Qb _ r5,⟨.al,Qb _ e5,.inl ⟨rfl,rfl⟩⟩,⟨.al,Yc υ2 _,.inl ⟨rfl,rfl⟩⟩,by omega,by omega⟩
   generalize υ2++[ab.box [.al]]=υ3 at *;generalize υ2.length=qb at *;generalize υ1.length=eb at *;obtain⟨qv,q1,q2⟩:=h6.hq;refine Xd hP (f:=21) rfl g21.ok rfl (w210 (ys:=row) q1 q2 GP (by simp;omega) λσ' vK p1 p2 p3=>?_);have h7:=h6.HF p1 p2 p3;rw[zAL]at h7;exact Za rfl (QeC hf bW (ik lL) cI hS hF mH (hN lL) hlen (λx hx=>ON (iP x hx)) h7 (K:=λv σ=>∃rd,aA (hp σ) rd v (j0 (XK b ((Xk fu).toNat+1) s row (Xk fu) []))) (λr lv cs σ' er hsb hle=>by rw[←er];exact xH hsb hle))
def wi(c:Cd):Prop:=(0<=c.dq∧c.dq<=999)∧(0<=c.dL∧c.dL<=999)∧(0<=c.bL∧c.bL<=999)∧(0<=c.eU∧c.eU<=999)∧(0<=c.dU∧c.dU<=999)
theorem wm(cs:List Cd):∀(l pre:List Cd),(dI cs pre l).1=0→∀c∈l,wi c
 |[],_,_,c,hc=>absurd hc (by simp)
 |d::l,pre,h,c,hc=>by
  unfold dI at h;split at h
  ·cases h
  ·split at h
   ·rename_i h2;rcases zAS.1 hc with rfl|hc
    ·simp only[eI,cm,AI,fD]at h2;obtain⟨_,_,h3,h4,hs,h5,h6,_⟩:=h2;exact⟨hs,h3,h4,h5,h6⟩
    ·exact wm cs l _ h c hc
   ·cases h
theorem ZdO{b:Bk}(h:(bu b).1=0):∀c∈b.aj,wi c:=by
 unfold bu at h;split at h
 ·rename_i h1;exact absurd h h1
 ·rename_i h1;have h1:(cH b.aj).1=0:=by simpa using h1
  unfold cH at h1;split at h1
  ·cases h1
  ·exact wm _ _ _ h1
theorem OD{b:Bk}(h:(bu b).1=0)(k:Int):wi (Zr b k):=by
 unfold Zr;cases e:b.aj[k.toNat]? with
 |none=>exact⟨⟨zBM _,by decide⟩,⟨zBM _,by decide⟩,⟨zBM _,by decide⟩,⟨zBM _,by decide⟩,⟨zBM _,by decide⟩⟩
 |some c=>grind [ZdO]
def mC(b:Bk)(place:Int):List Th→Int→Int×Int→Int×Int
 |[],_,a=>a
 |u::l,i,a=>mC b place l (i+1) (if i=place then a else (BY.wrap (a.1+(Zr b u.card).eU),BY.wrap (a.2+(Zr b u.card).dU)))
def iD(f g:Th→Int)(place:Int):List Th→Int→Int
 |[],_=>0
 |u::l,i=>(if i=place then f u else g u)+iD f g place l (i+1)
theorem XbO(f g f':Th→Int)(place:Int):∀(l:List Th) (i:Int),place<i→iD f g place l i=iD f' g place l i
 |[],_,_=>rfl
 |u::l,i,h=>by
  unfold iD;rw[aB (by omega),aB (by omega),XbO f g f' place l (i+1) (by omega)]
theorem Sb(f g:Th→Int)(place:Int):∀(l:List Th) (i:Int) (k:Nat) (u:Th),l[k]?=some u→i+k=place→iD f g place l i=f u+iD (λ_=>0) g place l i
 |[],_,_,_,h,_=>by simp at h
 |v::l,i,0,u,h,e=>by
  simp at h;subst h;unfold iD;rw[aI (by omega),aI (by omega),XbO f g (λ_=>0) place l (i+1) (by omega)];omega
 |v::l,i,k+1,u,h,e=>by
  unfold iD;rw[aB (by omega),aB (by omega),Sb f g place l (i+1) k u (by simpa using h) (by omega)];omega
theorem Tf{b:Bk}(h:(bu b).1=0)(place:Int):∀(l:List Th) (i:Int) (a:Int×Int),0<=a.1→0<=a.2→a.1+999*l.length<=1000000000000→a.2+999*l.length<=1000000000000 →
  kM b place l i a=(a.1+iD (λu=>(Zr b u.card).dL) (λu=>(Zr b u.card).eU) place l i,a.2+iD (λu=>(Zr b u.card).bL) (λu=>(Zr b u.card).dU) place l i)
 |[],_,a,_,_,_,_=>by simp[kM,iD]
 |u::l,i,a,h1,h2,h3,h4=>by
  obtain⟨_,⟨q1,q2⟩,⟨q3,q4⟩,⟨q5,q6⟩,q7,q8⟩:=OD h u.card;simp only[IS]at h3 h4;unfold kM iD;split
  ·rw[bw (by omega) (by omega),bw (by omega) (by omega),Tf h place l _ _ (by show 0<=a.1+_;omega) (by show 0<=a.2+_;omega) (by show a.1+_+_<=_;omega) (by show a.2+_+_<=_;omega)];simp only[zBm];omega
  ·rw[bw (by omega) (by omega),bw (by omega) (by omega),Tf h place l _ _ (by show 0<=a.1+_;omega) (by show 0<=a.2+_;omega) (by show a.1+_+_<=_;omega) (by show a.2+_+_<=_;omega)];simp only[zBm];omega
theorem P8{b:Bk}(h:(bu b).1=0)(place:Int):∀(l:List Th) (i:Int) (a:Int×Int),0<=a.1→0<=a.2→a.1+999*l.length<=1000000000000→a.2+999*l.length<=1000000000000 →
  mC b place l i a=(a.1+iD (λ_=>0) (λu=>(Zr b u.card).eU) place l i,a.2+iD (λ_=>0) (λu=>(Zr b u.card).dU) place l i)
 |[],_,a,_,_,_,_=>by simp[mC,iD]
 |u::l,i,a,h1,h2,h3,h4=>by
  obtain⟨_,⟨q1,q2⟩,⟨q3,q4⟩,⟨q5,q6⟩,q7,q8⟩:=OD h u.card;simp only[IS]at h3 h4;unfold mC iD;split
  ·rw[P8 h place l _ _ h1 h2 (by omega) (by omega)];simp only[zBm];omega
  ·rw[bw (by omega) (by omega),bw (by omega) (by omega),P8 h place l _ _ (by show 0<=a.1+_;omega) (by show 0<=a.2+_;omega) (by show a.1+_+_<=_;omega) (by show a.2+_+_<=_;omega)];simp only[zBm];omega
theorem Zel{b:Bk}(h:(bu b).1=0){l:List Th}(hl:l.length<=1000000)(hk:l[k]?=some u):mC b k l 0 ((Zr b u.card).dL,(Zr b u.card).bL)=jU b l k:=by
 obtain⟨_,⟨q1,q2⟩,⟨q3,q4⟩,_⟩:=OD h u.card;rw[jU,Tf h k l 0 (0,0) (zBM _) (zBM _) (by show (0:Int) + _<=_;omega) (by show (0:Int) + _<=_;omega),P8 h k l 0 _ q1 q3 (by omega) (by omega),
  Sb (λu=>(Zr b u.card).dL) _ k l 0 k u hk (by simp),Sb (λu=>(Zr b u.card).bL) _ k l 0 k u hk (by simp)]
 simp
theorem c177(b:Bk)(he:(bu b).1=0)(s:St){side:Int}(hs:side=0∨side=1)(hl:(Zy s side).af.length<=1000000)(hu:∀u∈(Zy s side).af,0<=u.card∧u.card.toNat<b.aj.length)(hk:(Zy s side).af[k]?=some u) :
  PC 93 [cE b,bZ s,iv side,iv k] (.bp [iv (jU b (Zy s side).af k).1,iv (jU b (Zy s side).af k).2]):=by
 refine Xa hP g93.ok rfl rfl ?_;rw[H4.e];unfold g93;dsimp only;have hj:∀σ,Yk 2 8 [.ak 1 (0+7),iv side] σ=.ok (.ak 1 (sV side)) [] []:=by rcases hs with rfl|rfl<;>exact λ_=>rfl
 have hU:aK false (sV side+6) 1 (aF s)=some (gS (Zy s side).af):=by rcases hs with rfl|rfl<;>rfl
 rw[←Zel he hl hk];have hm:=zAI hk;have lW:k<(Zy s side).af.length:=(gE hk).1;generalize (Zy s side).af=U at hl hu hk hU hm lW ⊢;refine Yd (v:=.ak 0 0) (rd:=[]) (up:=[(0,.box (cq b))]) rfl rfl (Yd (v:=.ak 1 0) (rd:=[]) (up:=[(1,.box (aF s))]) rfl rfl ?_);have wM:=λ(t:List ab)=>s_ t cN false false 12 b.aj .i64 u.card (hu u hm).1 (hu u hm).2;have u7:Zr b u.card=b.aj[u.card.toNat]'(hu u hm).2:=by simp_all [Zr]
 have cB:=λ(t:List ab)=>Ym t bc false false 4 U .i64 k lW;rw[(gE hk).2]at cB;rw[u7];generalize b.aj[u.card.toNat]'(hu u hm).2=c at wM ⊢;refine Za rfl (Za (hj _) (Za rfl (Za (ld rfl hU) ?_)));refine ay (Za (cB _) ?_);refine ax (Za (wM _) (Za rfl (Za (bB (Bw _)) ?_)));refine ay (Za (cB _) ?_);refine ax (Za (wM _) (Za rfl (Za (bB (Bz _)) ?_)));clear wM cB u7 hm;refine Xg (ι:=Nat) (λi vs τ=>(∃a:Int×Int,vs=[iv i,iv a.1,iv a.2]∧mC b k U 0 (c.dL,c.bL)=mC b k (U.drop i) i a)∧i<=U.length∧ai τ 0=.box (cq b)) (λi=>U.length-i) 0 ⟨⟨_,rfl,rfl⟩,by omega,rfl⟩ ?_;rintro i vs τ again ⟨⟨a,rfl,hr⟩,hi,h0⟩ bj;refine Za (v:=iv U.length) (rd:=[]) (by simp[Zf]) (Za (ZM ..) (Ya (λh=>?_) (λh=>?_)));rotate_left
 ·have h:i=U.length:=by simp at h;omega
  simp_all [mC]
 have h:i<U.length:=by simpa using h
 have hm:=AT h;have cB:=λ(t:List ab)=>Ym t bc false false 4 U .i64 i h;rw[gK h,mC]at hr;generalize U[i]=w at hm cB hr;have wM:=λ(t:List ab)=>s_ t cN false false 12 b.aj .i64 w.card (hu w hm).1 (hu w hm).2;have u7:Zr b w.card=b.aj[w.card.toNat]'(hu w hm).2:=by simp_all [Zr]
 rw[u7]at hr;generalize b.aj[w.card.toNat]'(hu w hm).2=d at wM hr;refine Qg λk26 KH=>?_;refine Za (ZX ..) (Ya (λcU=>?_) (λcU=>?_))
 ·have cU:(i:Int)≠k:=by simpa using cU
  rw[aB cU]at hr;refine Za rfl (Za (ld h0 rfl) (Za (cB _) ?_));refine ax (Za (wM _) (Za rfl (Za (bB (BA _)) ?_)));refine ay (Za (ld h0 rfl) (Za (cB _) ?_));refine ax (Za (wM _) (Za rfl (Za (bB (BB _)) (Za (Xj ..) ?_))));rw[KH];refine Za (Xj ..) ?_;rw[Xc (n:=i) (by omega)];exact bj (i+1) _ _ (by omega) ⟨⟨_,rfl,by rw[hr];push_cast;rfl⟩,by omega,h0⟩
 ·have cU:(i:Int)=k:=by simpa using cU
  rw[aI cU]at hr;rw[KH];refine Za (Xj ..) ?_;rw[Xc (n:=i) (by omega)];exact bj (i+1) _ _ (by omega) ⟨⟨a,rfl,by rw[hr];push_cast;rfl⟩,by omega,h0⟩
theorem JX(ib:Bool)(a:Int)(n:Nat)(h:n≠0)(σ:List ab):Zn .rem ib [iv a,iv n] σ=.ok (iv (a.tmod n)) [] []:=by
 cases n with
 |zero=>exact(h rfl).elim
 |succ n=>rfl
def dpre(b:Bk)(s:St)(i:Nat):List Int:=if i=0 then []else if i=1 then Q2 b (Zy s s.mover)else aJ b s
theorem Qdl(b:Bk){s:St}(B4:0<=s.mover∧s.mover<=1){i:Nat}(hi:i<2):∃sd:Int,(sd=0∨sd=1)∧(BY.wrap (s.mover+i)).tmod ((2:Nat):Int)=sd∧dpre b s (i+1)=dpre b s i++Q2 b (Zy s sd):=by
 have hm:s.mover=0∨s.mover=1:=by omega
 have hi:i=0∨i=1:=by omega
 rcases hm with hm|hm<;>rcases hi with rfl|rfl
 ·exact⟨0,.inl rfl,by rw[hm];decide,by simp[dpre,hm]⟩
 ·exact⟨1,.inr rfl,by rw[hm];decide,by simp[dpre,hm,aJ,Zy]⟩
 ·exact⟨1,.inr rfl,by rw[hm];decide,by simp[dpre,hm]⟩
 ·exact⟨0,.inl rfl,by rw[hm];decide,by simp[dpre,hm,aJ,Zy]⟩
theorem q95(b:Bk)(s:St)(hs:aY 2000000 s)(hm:aL (bu b).1 b s true=true)(h67:PC 42 [cE b] (.agg [iv (bu b).1,iv (bu b).2])):PC 59 [cE b,bZ s] (aP (aJ b s)):=by
 have hM:=(Xo.1 hm).2;have he:=(Xo.1 hm).1;have gA:aY 1000000000 s:=hs.mono (by decide);refine Yi hP g59.ok rfl ?_;rw[H2.e];unfold g59;dsimp only;refine ay (a_ (c25 b s gA true _ _ h67) g29.ok (Za rfl ?_));rw[hm];refine Xe ?_;have B4:0<=s.mover∧s.mover<=1:=⟨hM.hd.2.2.1,hM.hd.2.2.2.1⟩;refine Xg (ι:=Nat) (λi vs τ=>∃v,vs=[iv i,v]∧i<=2∧Gr [.box (cq b),.box (aF s)] 1 ((dpre b s i).map aS) (dpre b s i).length v τ∧(dpre b s i).length<=10*i) (λi=>2-i) 0 ⟨.al,rfl,by omega,Gr.nil 1 _,by simp[dpre]⟩ ?_;rintro i vs τ again ⟨v,rfl,hi,hG,hlen⟩ bj;refine ay (Ya (λh=>?_) (λh=>?_));rotate_left
 ·have h:i=2:=by simp at h;omega
  subst h;exact hG.ri
 have h:i<2:=by simp at h;omega
 obtain⟨sd,h01,pV,Ll⟩:=Qdl b B4 h;have g1:ai τ 1=.box (aF s):=hG.fS rfl (by simp);refine Za rfl (Za (v:=iv s.mover) (ld g1 rfl) (Za (Xj ..) (Za (JX _ _ 2 (by decide) _) ?_)));rw[pV];have hj:∀σ,Yk 2 8 [.ak 1 (0+7),iv sd] σ=.ok (.ak 1 (sV sd)) [] []:=by rcases h01 with rfl|rfl<;>exact λ_=>rfl
 have hU:aK false (sV sd+6) 1 (aF s)=some (gS (Zy s sd).af):=by rcases h01 with rfl|rfl<;>rfl
 have hl7:(Zy s sd).af.length<=7:=by rcases h01 with rfl|rfl;exact hM.s0.af;exact hM.s1.af
 have hu:∀u∈(Zy s sd).af,0<=u.card∧u.card.toNat<b.aj.length:=by
  intro u hu;have il:u∈s.s0.af++s.s1.af:=by
   rcases h01 with rfl|rfl
   ·exact zAp _ hu
   ·exact zAi _ hu
  have:=hM.un.1 u il;simp only[Zw,AI,fD]at this;omega
 have Vo:=λ(k:Nat) (u:Th) (hk:(Zy s sd).af[k]?=some u)=>c177 b he s h01 (by omega) hu hk;refine Xg (ι:=Nat) (λk vs τ'=>(∃(done:List Int) (v':aa),vs=[iv k,v']∧Gr [.box (cq b),.box (aF s)] 1 (done.map aS) done.length v' τ'∧dpre b s (i+1)=done++ZK b (Zy s sd).af ((Zy s sd).af.drop k) k∧done.length<=10*i+k)∧k<=(Zy s sd).af.length) (λk=>(Zy s sd).af.length-k) 0 ⟨⟨dpre b s i,v,rfl,hG,Ll,by omega⟩,by omega⟩ ?_;clear hG g1;rintro k vs τ' mO ⟨⟨done,v',rfl,hG,hr,Pk⟩,hk⟩ lE;have g0:ai τ' 0=.box (cq b):=hG.fS rfl (by simp);have g1:ai τ' 1=.box (aF s):=hG.fS rfl (by simp);generalize hUn:(Zy s sd).af=U at *;refine Za rfl (Za (hj _) (Za rfl (Za (ld g1 hU) (Za (v:=iv U.length) (rd:=[]) (by simp[Zf]) (Za (ZM ..) (Ya (λh2=>?_) (λh2=>?_)))))));rotate_left
 ·have h2:k=U.length:=by simp at h2;omega
  subst h2;rw[zAD,ZK,zBE]at hr;subst hr;refine Za (Xj ..) ?_;rw[Xc (n:=i) (by omega)];exact bj (i+1) _ _ (by omega) ⟨v',rfl,by omega,hG,by omega⟩
 have h2:k<U.length:=by simpa using h2
 have wY:U[k]?=some U[k]:=by simp[h2]
 have hP:=Vo k U[k] wY;have cB:=λ(t:List ab)=>Ym t bc false false 4 U .i64 k h2;rw[gK h2,ZK]at hr;generalize U[k]=u at *;refine Qg λk21 ek=>?_;refine Za (v:=cE b) (ld g0 rfl) (Za (v:=bZ s) (ld g1 rfl) (a_ hP g93.ok ?_));refine ay (Za (hj _) (Za rfl (Za (ld g1 hU) (Za (cB _) ?_))));refine ax (Ya (λhp=>?_) (λhp=>?_))
 ·have hp:(jU b U k).2<=u.harm:=by simpa using hp
  rw[aI hp]at hr;refine Za rfl (Za (hj _) (Za rfl (Za (ld g1 hU) (Za (cB _) ?_))));refine ax (hG.put (by_:=8) rfl rfl rfl (by omega) (λv2 τ2 Uo=>?_));rw[ek];refine Za (Xj ..) ?_;rw[Xc (n:=k) (by omega)];refine lE (k+1) _ _ (by omega) ⟨⟨done++[u.id],v2,rfl,?_,?_,?_⟩,by omega⟩
  ·rw[zAa,By];exact Uo
  ·rw[hr,zAb];push_cast;rfl
  ·rw[By,List.length_singleton];omega
 ·have hp:¬(jU b U k).2<=u.harm:=by simpa using hp
  rw[aB hp]at hr;rw[ek];refine Za (Xj ..) ?_;rw[Xc (n:=k) (by omega)];exact lE (k+1) _ _ (by omega) ⟨⟨done,v',rfl,hG,by rw[hr];push_cast;rfl,by omega⟩,by omega⟩
theorem XcU(kd:Int)(fP:Int→Int×Int)(fU:Th→Int×Int)(s:St)(id k:Int):(ga kd fP fU s id k).2.1.aj=[]:=by
 unfold ga;split
 ·unfold nE;split<;>rfl
 split
 ·rfl
 split
 ·unfold jR;split<;>rfl
 ·split
  ·unfold jR;split<;>rfl
  ·rfl
theorem PQ(s:St)(k:Int):(aH s k).2.1.aj=[]:=by
 unfold aH;split
 ·split<;>rfl
 ·split<;>rfl
theorem Za4(k:Int):∀(j:Nat) (s:St),∀e∈(Xr k j s).2.2,e.aj.length<=60
 |0,s,e,h=>by simp[Xr]at h
 |j+1,s,e,h=>by
  unfold Xr at h;split at h
  ·simp only[zAS]at h;rcases h with rfl|h
   ·rw[PQ];simp
   ·exact Za4 k j _ e h
  ·simp at h
theorem Qdw{b:Bk}{s:St}(h:cL b N C s){sd:Int}(h01:sd=0∨sd=1)(tg op who:Int)(name:Tx)(n:Int):∀e∈(jd b s sd tg op who name n).2.2,e.aj.length<=60:=by
 have hw:=GU h01 who;intro e he;unfold jd at he;split at he
 ·grind [f_,o9,jK,jF,XcU]
 split at he
 ·grind [ji,Za4]
 split at he
 ·grind [el]
 split at he
 ·grind [cZ]
 split at he
 ·have hd:=(Yh.1 (h.rows h01).1).1
  grind [gI]
 split at he
 ·have hd:=(Yh.1 (h.rows hw).2).1
  grind [mD]
 grind [YY]
mutual
theorem YbN {b:Bk} {sd tg:Int} (h01:sd=0∨sd=1):∀(x:Ef) {N C:Nat} {s:St} (fu:Int),cL b N C s→N+60*(iG x).length<=1000000→C+(iG x).length<=1000000→∀e∈(ct b sd tg x s fu).2.2.2,e.aj.length<=60
 |.mk op who n name c bQ bV,N,C,s,fu,h,hN,hC,e,he=>by
  rw[ct]at he
  split at he
  ·rename_i h8
   have hl:(bz bQ).length+(bz bV).length<=(iG (.mk op who n name c bQ bV)).length:=by simp[iG,h8];omega
   split at he
   ·exact Nj h01 bQ fu h (by omega) (by omega) e he
   ·exact Nj h01 bV fu h (by omega) (by omega) e he
  grind [Qdw]
theorem Nj {b:Bk} {sd tg:Int} (h01:sd=0∨sd=1):∀(l:List Ef) {N C:Nat} {s:St} (fu:Int),cL b N C s→N+60*(bz l).length<=1000000→C+(bz l).length<=1000000→∀e∈(runs b sd tg l s fu).2.2.2,e.aj.length<=60
 |[],N,C,s,fu,h,hN,hC,e,he=>by rw[runs]at he;simp at he
 |x::l,N,C,s,fu,h,hN,hC,e,he=>by
  rw[runs]at he
  have hl:(bz (x::l)).length=(iG x).length+(bz l).length:=by simp[bz]
  obtain⟨q1,q2⟩:=OR (tg:=tg) h01 x fu h (by omega) (by omega)
  split at he
  ·rcases zAF.1 he with he|he
   ·exact YbN h01 x fu h (by omega) (by omega) e he
   ·exact Nj h01 l _ q1 (by omega) (by omega) e he
  ·exact YbN h01 x fu h (by omega) (by omega) e he
end
theorem Qdf{kd:Int}(h0:kd≠14)(fP:Int→Int×Int)(fU:Th→Int×Int)(s:St)(id k:Int):(ga kd fP fU s id k).2.1.kind≠14:=by
 have z:jx.kind≠14:=by decide
 have hP:∀v,(nE s kd k v).2.1.kind≠14:=by intro v;unfold nE;split;exact h0;exact z
 have hU:∀k i id u v,(jR s kd k i id u v).2.1.kind≠14:=by intro k i id u v;unfold jR;split;exact h0;exact z
 grind [ga]
theorem YcW(s:St)(k:Int):(aH s k).2.1.kind≠14:=by
 unfold aH;split
 ·split
  ·show (3:Int)≠14;decide
  ·show jx.kind≠14;decide
 grind
theorem Zbj(k:Int):∀(j:Nat) (s:St),∀e∈(Xr k j s).2.2,e.kind≠14
 |0,s,e,h=>by simp[Xr]at h
 |j+1,s,e,h=>by
  unfold Xr at h;split at h
  ·simp only[zAS]at h;rcases h with rfl|h
   ·exact YcW s k
   ·exact Zbj k j _ e h
  ·simp at h
theorem YdX(b:Bk)(s:St)(sd tg op who:Int)(name:Tx)(n:Int):∀e∈(jd b s sd tg op who name n).2.2,e.kind≠14:=by
 intro e he;unfold jd at he;split at he
 ·grind [f_,o9,jK,jF,Qdf]
 grind [ji,el,cZ,gI,mD,YY,Zbj]
mutual
theorem Xcf (b:Bk) (sd tg:Int):∀(x:Ef) (s:St) (fu:Int),∀e∈(ct b sd tg x s fu).2.2.2,e.kind≠14
 |.mk op who n name c bQ bV,s,fu,e,he=>by
  rw[ct]at he
  split at he
  ·split at he
   ·exact Ir b sd tg bQ s fu e he
   ·exact Ir b sd tg bV s fu e he
  split at he
  ·simp at he
  ·exact YdX b s sd tg op who name _ e he
theorem Ir (b:Bk) (sd tg:Int):∀(l:List Ef) (s:St) (fu:Int),∀e∈(runs b sd tg l s fu).2.2.2,e.kind≠14
 |[],s,fu,e,he=>by rw[runs]at he;simp at he
 |x::l,s,fu,e,he=>by
  rw[runs]at he
  split at he
  ·rcases zAF.1 he with he|he
   ·exact Xcf b sd tg x s fu e he
   ·exact Ir b sd tg l _ _ e he
  ·exact Xcf b sd tg x s fu e he
end
def fO:List Ev→Nat
 |[]=>0
 |e::l=>(if e.kind=14 then 1 else 0)+fO l
theorem Z2:∀l m:List Ev,fO (l++m)=fO l+fO m
 |[],m=>by simp[fO]
 |e::l,m=>by simp only[zAJ,fO,Z2 l m];omega
theorem OA:∀ {l:List Ev},(∀e∈l,e.kind≠14)→fO l=0
 |[],_=>rfl
 |e::l,h=>by
  rw[fO,aB (h e (by simp)),OA (λx hx=>h x (by simp[hx]))]
theorem QcN{b:Bk}{s:St}(cI:(bu b).1=0)(h:cL b N C s){r:Int}(hr:1<=r∧r<=3):cL b N C (dK b s r).1∧(dK b s r).1.phase=2∧(dK b s r).2.kind≠14:=by
 have hm:=Xo.2 ⟨cI,h.may⟩;unfold dK;by_cases ho:zr b s r=true
 ·rw[aI ho];refine⟨⟨?_,h.told,h.aj⟩,rfl,by show (15:Int)≠14;decide⟩;obtain⟨⟨t1,t2,t3,t4,t5,t6,t7,t8,t9,t10,t11⟩,m2,m3,m4,m5⟩:=h.may;refine⟨⟨t1,t2,t3,t4,by show (0:Int)<=2;decide,by show (2:Int)<=2;decide,by show 0<=r;omega,hr.2,?_,t10,t11⟩,m2,m3,m4,⟨λ_=>rfl,λe=>?_⟩⟩
  ·show ((r==0)==((2:Int) != 2))=true;have:(r==0)=false:=by simp;omega
   rw[this];rfl
  ·have e:(2:Int)=1:=e;exact absurd e (by decide)
 ·rw[aB ho];have ho:zr b s r=false:=by simpa using ho
  unfold zr at ho;rw[hm]at ho;simp only[Bool.not_true,Bool.or_false,zBt,Bool.or_eq_true,fD,beq_iff_eq]at ho;have hp:s.phase=2:=by
   rcases ho with (ho|ho)|ho
   ·omega
   ·omega
   ·exact ho
  exact⟨h,hp,by show jx.kind≠14;decide⟩
def nZ(b:Bk)(N C:Nat)(fu:Int)(l:List Ev)(r:Int×St×List Ev×Int):Prop:=
 r.1=0→cL b (N+12000*(fu-r.2.2.2).toNat) (C+200*(fu-r.2.2.2).toNat) r.2.1∧0<=r.2.2.2∧r.2.2.2<=fu∧(fO r.2.2.1:Int)<=fO l+(fu-r.2.2.2)∧r.2.2.1.length<=l.length+13000*((fu-r.2.2.2).toNat+1)∧(r.2.1.phase=2∨(aJ b r.2.1=[]∧bO r.2.1=0))
theorem Sa{b:Bk}{N' C':Nat}{s:St}(cI:(bu b).1=0)(h:cL b N' C' s){how:Int}(hr:1<=how∧how<=3){fu f0:Int}{l0:List Ev}(hf:0<=fu∧fu<=f0)(hw:(fO l:Int)<=fO l0+(f0-fu))(hN:N'<=N+12000*(f0-fu).toNat)(hC:C'<=C+200*(f0-fu).toNat)(hlen:l.length+1<=l0.length+13000*((f0-fu).toNat+1)):nZ b N C f0 l0 (jm b s l fu how):=by
 intro _;obtain⟨k1,k2,k3⟩:=QcN cI h hr;refine⟨k1.mono hN hC,hf.1,hf.2,?_,by show (l++[(dK b s how).2]).length<=l0.length+13000*((f0-fu).toNat+1);simp_all,.inl k2⟩;show (fO (l++[(dK b s how).2]):Int)<=_+(f0-fu);simp_all [Z2,OA]
theorem nZ.mono{b:Bk}{fu pB:Int}{l':List Ev}{r:Int×St×List Ev×Int}(h:nZ b (N+12000) (C+200) fu l r)(hf:fu+1<=pB)(hw:(fO l:Int)+fu<=fO l'+pB)(hlen:l.length<=l'.length+13000):nZ b N C pB l' r:=by
 intro e;obtain⟨h1,h2,h3,h4,h6,h5⟩:=h e;exact⟨h1.mono (by omega) (by omega),h2,by omega,by omega,by omega,h5⟩
theorem Xce{b:Bk}(cI:(bu b).1=0):∀(n:Nat) {s:St} {ws:List Tr} {fu:Int} {l:List Ev} {N C:Nat},cL b N C s→(∀x∈ws,jA b x)→0<=fu→fu<=n→N+12000*(ws.length+bG s+1)<=1000000→C+200*(n+1)+14<=1000000 →
  nZ b N C fu l (XK b (n+1) s ws fu l):=by
  intro n
  induction n using Nat.strongRecOn with|ind n ih=>?_
  intro s ws fu l N C hS An wR vb hN hC;have hq:=Oo (b:=b) (N:=N) (C:=C) (by omega) (Qk s) s ws l (No _) hS;have rX:=Oy cI (by omega:C+14<=1000000) (Qk s) s ws l hS;generalize eq:quiet b (Qk s) s ws l=q at hq rX;obtain⟨t,kT,l'⟩:=q;obtain⟨q1,q2,⟨m,q3,q4,q5⟩,⟨m',q6,q7,q8⟩⟩:=hq;have q1:cL b N C t:=q1
  replace rX:bG t+kT.length<=bG s+ws.length:=rX
  have q2:aJ b t=[]:=q2;have q3:l'=l++m:=q3;have q6:kT=ws++m':=q6;have tC:Qk s<=14:=by have:=hS.may.s0.af;have:=hS.may.s1.af;unfold Qk;omega
  have hlen:l'.length<=l.length+14:=by rw[q3,By];omega
  have hw:fO l'=fO l:=by
   simp_all [Z2,OA]
  have bR:∀x∈kT,jA b x:=by
   grind
  rw[Nl n fu eq];have Di:=YbM t;by_cases hz:bO t≠0
  ·rw[aI hz];exact Sa cI q1 (by omega) (f0:=fu) (l0:=l) ⟨wR,zBM _⟩ (by omega) (by omega) (by omega) (by omega)
  rw[aB hz];have hz:bO t=0:=by omega
  cases kT with
  |nil=>
   intro _
   grind
  |cons x wr=>
   simp only;by_cases wV:fu=0
   ·rw[aI wV];exact Sa cI q1 (by omega) (f0:=fu) (l0:=l) ⟨wR,zBM _⟩ (by omega) (by omega) (by omega) (by omega)
   rw[aB wV];by_cases ha:Yt b x.side (fu-1) (br b x)=true
   ·rw[aI ha];intro e;exact absurd e (by decide)
   rw[aB ha];have ha:Yt b x.side (fu-1) (br b x)=false:=by simpa using ha
   have dE:nf b (br b x)=true:=by
    simp_all [Yt]
   obtain⟨_,va⟩:=Jc dE;have hx:=bR x (by simp)
   replace rX:bG t+(wr.length+1)<=bG s+ws.length:=rX
   have Vt:=X9 b x.side (-1) (br b x) 1 t (fu-1) (Oj cI hx);obtain⟨k1,k2⟩:=A9 (b:=b) (tg:=-1) hx.2.2 (br b x) (fu-1) q1 (by omega) (by omega);have k1:=k1.mono (N':=N+12000) (C':=C+200) (by omega) (by omega);have rN:=Hc b x.side (-1) (br b x) t (fu-1) (by omega);have Po:=OA (Ir b x.side (-1) (br b x) t (fu-1));generalize runs b x.side (-1) (br b x) t (fu-1)=r at *;have dO:(l'++[nH x]++r.2.2.2).length<=l.length+13000:=by grind
   have hw2:fO (l'++[nH x]++r.2.2.2)=fO l+1:=by
    rw[Z2,Z2,Po,hw];rfl
   by_cases h0:r.1=0
   ·rw[aI h0];obtain⟨n',rfl⟩:∃n',n=n'+1:=⟨n-1,by omega⟩;have:=ih n' (by omega) (l:=l'++[nH x]++r.2.2.2) k1 (λy hy=>bR y (by simp[hy])) rN.1 (by omega) (by omega) (by omega) (ws:=wr);exact this.mono (by omega) (by omega) (by omega)
   rw[aB h0];by_cases h1:r.1=190
   ·rw[aI h1]
    grind [Sa]
   ·rw[aB h1];intro e;exact absurd e h0
theorem Ycv{b:Bk}{s:St}{row:List Tr}{fu:Int}(hT:TB N s)(hC:Zm s<=C)(hf:0<=fu∧fu<=1000)(hN:aL (bu b).1 b s true=true→N+12000*(row.length+bG s+1)<=1000000)(mH:C+200*(fu.toNat+1)+14<=1000000)(h:(bT b s row fu).1=0) :
  (bu b).1=0∧cL b (N+12000*(fu-(bT b s row fu).2.2.2).toNat) (C+200*(fu-(bT b s row fu).2.2.2).toNat) (bT b s row fu).2.1∧0<=(bT b s row fu).2.2.2∧(bT b s row fu).2.2.2<=fu∧(fO (bT b s row fu).2.2.1:Int)<=fu-(bT b s row fu).2.2.2∧(bT b s row fu).2.2.1.length<=13000*(fu.toNat+1) ∧
   ((bT b s row fu).2.1.phase=2∨(aJ b (bT b s row fu).2.1=[]∧bO (bT b s row fu).2.1=0)):=by
 have hc:Xk fu=fu:=by unfold Xk;omega
 unfold bT at h ⊢;rw[hc]at h ⊢;by_cases q:(decide ((row.length:Int)>1000) || !aL (bu b).1 b s true)=true
 ·simp_all
 rw[aB q]at h ⊢;have hq:(decide ((row.length:Int)>1000) || !aL (bu b).1 b s true)=false:=by simpa using q
 simp only[zAx,s9,zBt]at hq;obtain⟨cI,hM⟩:=Xo.1 hq.2;have hS:cL b N C s:=⟨hM,hT,hC⟩;by_cases q2:row.any (kV b)=true
 ·simp_all
 rw[aB q2]at h ⊢;have iP:∀x∈row,jA b x:=by
  simp_all [ON]
 by_cases q3:s.phase=2
 ·rw[aI q3]at h ⊢;exact⟨cI,hS.mono (Nat.le_add_right _ _) (Nat.le_add_right _ _),hf.1,zBM _,by show ((0:Nat):Int)<=fu-fu;omega,Nat.zero_le _,.inl q3⟩
 rw[aB q3]at h ⊢;obtain⟨k1,k2,k3,k4,k6,k5⟩:=Xce cI fu.toNat (l:=[]) hS iP hf.1 (by omega) (hN hq.2) mH h;exact⟨cI,k1,k2,k3,by simp_all [fO],by rw[zAG]at k6;omega,k5⟩
def uS(u:Th):Th:={ u with nw:=false }
def zp(x:Sd):Sd:={ x with aU:=min (x.most+1) 10,most:=min (x.most+1) 10,af:=x.af.map uS }
def ZG(s:St):St:={ s.put s.mover (zp (s.side s.mover))with bD:=false }
def dJ(b:Bk)(m:Int):List Th→List Tr
 |[]=>[]
 |u::l=>(if 0<(Zr b u.card).cM.length then [⟨u.card,m,true⟩]else [])++dJ b m l
def CS(s:St):Ev:=⟨0,s.mover,0,0,0,s.turn,[]⟩
def e8(b:Bk)(s:St)(fu:Int):Int×St×List Ev×Int:=
 if (aL (bu b).1 b s true&&decide (s.phase≠1))=false then (170,fW,[],0)
 else if s.phase=2 then (0,s,[],Xk fu)
 else if (aH (ZG s) s.mover).2.2≠0 then ((aH (ZG s) s.mover).2.2,fW,[],0)
 else
  let r:=bT b (aH (ZG s) s.mover).1 (dJ b s.mover ((aH (ZG s) s.mover).1.side s.mover).af) (Xk fu)
  if r.1≠0 then (r.1,fW,[],0)else (0,r.2.1,[CS s,(aH (ZG s) s.mover).2.1]++r.2.2.1,r.2.2.2)
theorem Yb5{b:Bk}{x:Sd}(h:gm b x):gm b (zp x):=by
 obtain⟨h1,h2,h3,h4,h5,h6,h7,h8⟩:=h;refine⟨h1,?_,?_,h4,h5,h6,h7,by simpa[zp]using h8⟩
 ·show 0<=min (x.most+1) 10∧iE (min (x.most+1) 10)=true;exact⟨by omega,by simp[iE];omega⟩
 ·show 0<=min (x.most+1) 10∧min (x.most+1) 10<=10;omega
theorem Xb9(l:List Th):(l.map uS).map Th.id=l.map Th.id:=by
 rw[List.map_map];rfl
theorem ZdU{b:Bk}{n:Int}:Zw b n (uS u)=Zw b n u:=rfl
theorem cL.cM{b:Bk}{s:St}(h:cL b N C s)(hp:s.phase≠1):cL b N C (ZG s):=by
 obtain⟨⟨hd,h0,h1,⟨u1,u2⟩,ha,_⟩,ht,hc⟩:=h;have un:∀ {l m:List Th},(∀u∈l++m,Zw b s.next u=true)→(∀u∈l.map uS++m,Zw b s.next u=true)∧(∀u∈l++m.map uS,Zw b s.next u=true):=by
  intro l m h;constructor<;>intro u hu<;>rw[zAF,zAh]at * <;> grind [ZdU]
 have hm:s.mover=0∨s.mover=1:=by have:=hd.2.2.1;have:=hd.2.2.2.1;omega
 unfold ZG St.put St.side;rcases hm with e|e
 ·rw[aI e,aI e];refine⟨⟨hd,Yb5 h0,h1,⟨(un u1).1,?_⟩,⟨ha,λq=>absurd q hp⟩⟩,ht,?_⟩
  ·show (((s.s0.af.map uS)++s.s1.af).map Th.id).Nodup;rw[zAa,Xb9,←zAa];exact u2
  ·unfold Zm at hc ⊢;simpa[zp]using hc
 ·have e0:¬s.mover=0:=by omega
  rw[aB e0,aB e0];refine⟨⟨hd,h0,Yb5 h1,⟨(un u1).2,?_⟩,⟨ha,λq=>absurd q hp⟩⟩,ht,?_⟩
  ·show ((s.s0.af++(s.s1.af.map uS)).map Th.id).Nodup;rw[zAa,Xb9,←zAa];exact u2
  ·unfold Zm at hc ⊢;simpa[zp]using hc
theorem XcE{b:Bk}{s:St}(h:cL b N C s){m:Int}(hm:m=0∨m=1):∀x∈dJ b m (s.side m).af,jA b x:=by
 have key:∀l:List Th,(∀u∈l,0<=u.card∧u.card<b.aj.length)→∀x∈dJ b m l,jA b x:=by
  intro l
  induction l with
  |nil=>intro _ x hx;simp[dJ]at hx
  |cons u l ih=>
   intro hl x hx;rw[dJ,zAF]at hx;rcases hx with hx|hx
   ·split at hx
    ·rw[zAs]at hx;subst hx;exact⟨(hl u (by simp)).1,(hl u (by simp)).2,hm⟩
    ·simp at hx
   ·exact ih (λv hv=>hl v (by simp[hv])) x hx
 refine key _ λu hu=>?_;obtain⟨k,hk,rfl⟩:=zBg hu;exact GJ h.may hm (zAP hk)
theorem GH(b:Bk)(m:Int):∀l:List Th,(dJ b m l).length<=l.length
 |[]=>No _
 |u::l=>by
  have:=GH b m l;unfold dJ;split<;>simp<;>omega
theorem S3(b:Bk)(m:Int)(u:Th):∀l:List Th,dJ b m (l++[u])=dJ b m l++(if 0<(Zr b u.card).cM.length then [⟨u.card,m,true⟩]else [])
 |[]=>by simp[dJ]
 |a::l=>by simp[dJ,S3]
theorem w151{l:List Int}(hl:l.length<=1000000000){rd:List Nat}{v:aa}(hb:RI σ rd v l)(hK:K (.sl σ.length 0 l.length false) (σ++[.rows 1 (l.map aS)])):VV.call (.call 57) [v] σ K:=by
 refine WW (c60 l hl) rfl g57.ok.plain (.cons hb .nil) rfl (by simp only[yv,ab.dz,Su,Bool.and_self]) ?_;simp only[Zx,zAN,zBC,Z4,aa.cx,QD,IN];exact hK
theorem u218(b:Bk)(s:St)(hs:aY 1000000 s)(hm:aL (bu b).1 b s true=true)(h67:PC 42 [cE b] (.agg [iv (bu b).1,iv (bu b).2]))(k:Int)(h01:k=0∨k=1):PC 37 [cE b,bZ s,iv k] (eE (aH s k)):=by
 have gA:aY 1000000000 s:=hs.mono (by decide);have uE:=YV.1 (SF hm);have gz:=YV.1 (RO hm);refine Yi hP g37.ok rfl ?_;rw[H3.e];unfold g37;dsimp only;refine au (a_ (c25 b s gA true _ _ h67) g29.ok (Za rfl ?_));rw[hm];refine Xe (Za (ZM ..) ?_);refine X1 (v1:=iv k) (λ_=>rfl) (λ_=>Q7 ..) ?_;rw[show (decide (k<0)||decide (k>1))=false by rcases h01 with rfl|rfl<;>rfl];refine Xe (Za (v:=bZ s) (rd:=[1]) rfl (w19 gA ?_));rcases h01 with rfl|rfl
 rotate_left;obtain⟨tu,mo,ph,st,re,at_,ne,⟨l',m',o',d',h',g',u',t'⟩,⟨l,m,o,d,h,g,u,t⟩⟩:=s;obtain⟨ha,⟨p1,p2,p3,p4,p5⟩,⟨q1,q2,q3,q4,q5⟩⟩:=hs;have hl:=gz;rotate_left;obtain⟨tu,mo,ph,st,re,at_,ne,⟨l,m,o,d,h,g,u,t⟩,⟨l',m',o',d',h',g',u',t'⟩⟩:=s;obtain⟨ha,⟨q1,q2,q3,q4,q5⟩,⟨p1,p2,p3,p4,p5⟩⟩:=hs;have hl:=uE
 all_goals
  simp only at ha q1 q2 q3 q4 q5 p1 p2 p3 p4 p5 hl;refine au ?_;cases d with
  |nil=>
   refine au ?_;refine a_ (c116 _) g65.ok ?_;refine au ?_;have e:BY.wrap (l-1)=l-1:=bw (by omega) (by omega);refine Ya (λhw=>?_) (λhw=>?_)
   ·have hw:iE (l-1)=false:=by rw[←e];simpa using hw
    refine au ?_;refine⟨[],?_⟩;show aA _ _ _ (eE (if iE (l-1)then _ else (fW,jx,171)));rw[hw];exact vq 171
   ·have hw:iE (l-1)=true:=by rw[←e];simpa using hw
    refine au ?_;show ∃rd,aA _ rd _ (eE (if iE (l-1)then (_,(⟨3,_,-1,0,0,0,[]⟩:Ev),0)else (fW,jx,171)));rw[hw,e];refine⟨zAB 40,pc (r:=(_,⟨3,_,-1,0,0,0,[]⟩,0)) ?_ (pw (e:=⟨3,_,-1,0,0,0,[]⟩) RI.al)⟩;exact SB.lit rfl
  |cons c d2=>
   simp only[IS]at q1;refine au ((QdC (x:=c) (l:=d2) rfl).elim λrd e=>Za e ?_);clear e rd;refine w151 (rd:=[_]) (l:=d2) (by omega) (RI.mF rfl (zAs.2 rfl)) (au (Ya (λhw=>?_) (λhw=>?_)))
   ·have hw:10<=h.length:=by simp at hw;omega
    refine au ?_;refine Iv rfl rfl rfl (by first|omega|(dsimp only;omega)) ?_;refine au (YL 3 (Yl ?_));refine au ?_;refine Iv rfl rfl rfl (by first|omega|(dsimp only;omega)) ?_;refine au ?_;refine Iv rfl rfl rfl (by first|omega|(dsimp only;omega)) ?_;refine au ?_;show ∃rd,aA _ rd _ (eE (if 10<=h.length then (_,(⟨4,_,c,0,0,0,[]⟩:Ev),0)else _));rw[aI hw];refine⟨zAB 40,pc (r:=(_,⟨4,_,c,0,0,0,[]⟩,0)) ?_ (pw (e:=⟨4,_,c,0,0,0,[]⟩) RI.al)⟩;exact SB.lit rfl
   ·have hw:¬10<=h.length:=by simp at hw;omega
    refine au ?_;refine Iv rfl rfl rfl (by first|omega|(dsimp only;omega)) ?_;refine au ?_;refine Iv rfl rfl rfl (by first|omega|(dsimp only;omega)) ?_;refine au ?_;show ∃rd,aA _ rd _ (eE (if 10<=h.length then _ else (_,(⟨3,_,c,0,0,0,[]⟩:Ev),0)));rw[aB hw];refine⟨zAB 40,pc (r:=(_,⟨3,_,c,0,0,0,[]⟩,0)) ?_ (pw (e:=⟨3,_,c,0,0,0,[]⟩) RI.al)⟩;exact SB.lit rfl
theorem Zen{b c len:Nat}{ex ex2:Bool}{l:List Th}{x:Th}{K:aa→List Nat×List Nat→List ab→Prop}(hb:ai σ b=.rows 4 (l.map bc))(hc:ai σ c=.rows 4 [bc x])(hl:len=l.length)(bH:l.length<=1000000000)(hK:K (.sl σ.length 0 (l++[x]).length false) ([c],[b,σ.length]) (σ.set b .dead++[.rows 4 ((l++[x]).map bc)])) :
  VV.dr (Qf 4 32 [.sl b 0 len ex,.sl c 0 1 ex2] σ) σ K:=by
 refine Xf (Ha 4 32 (rs2:=[bc x]) hb hc (by simp[hl]) rfl rfl (by omega)) (QC _ _ (Zb hb)) ?_;rw[hl];simpa using hK
theorem QcW(b:Bk)(s:St)(k c:Int):Y2 b s k c=((((decide (c<0)||decide ((b.aj.length:Int)<=c)) || !((b.aj[c.toNat]?).getD default).unit)||decide (7<=((s.side k).af.length:Int)))||decide (1000000<=s.next)):=rfl
theorem u330(b:Bk)(s:St)(hs:aY 1000000 s)(hm:aL (bu b).1 b s true=true)(h67:PC 42 [cE b] (.agg [iv (bu b).1,iv (bu b).2]))(k c:Int)(h01:k=0∨k=1):PC 150 [cE b,bZ s,iv k,iv c] (uc b s k c):=by
 have gA:aY 1000000000 s:=hs.mono (by decide);have Dw:=Zu hm;have hw:BY.wrap (s.next+1)=s.next+1:=zAY _ (by omega);have h50:=c25 b s gA true _ _ h67;rw[hm]at h50;have hz:∀(σ:List ab),Y2 b s k c=true→∃rd,aA (Go.Ah.hp σ) rd (.bp [.agg aT,.agg ca,.bool false]) (uc b s k c):=λσ h=>⟨[],by unfold uc;rw[h];exact xG rfl⟩;have hg:Y2 b s k c=false→uc b s k c=pd (XB s k c) ⟨2,k,c,s.next,0,0,[]⟩ (.bool true):=λh=>by unfold uc;rw[h];rfl
 refine Yi hP g150.ok rfl ?_;have tz:=QcW b s k c;clear hm;rcases h01 with rfl|rfl
 rotate_left;obtain⟨tu,mo,ph,st,re,at_,ne,⟨l',m',o',d',h',g',u',t'⟩,⟨l,m,o,d,h,g,u,t⟩⟩:=s;have hu:u.length<=1000000:=hs.s1.af;rotate_left;obtain⟨tu,mo,ph,st,re,at_,ne,⟨l,m,o,d,h,g,u,t⟩,⟨l',m',o',d',h',g',u',t'⟩⟩:=s;have hu:u.length<=1000000:=hs.s0.af
 all_goals
  replace tz:_=((((decide (c<0)||decide ((b.aj.length:Int)<=c)) || !((b.aj[c.toNat]?).getD default).unit)||decide (7<=(u.length:Int)))||decide (1000000<=ne)):=tz
  rw[H4.e];unfold g150;dsimp only[bZ,aF];refine au ?_;refine a_ h50 g29.ok ?_;refine au ?_;rcases cD (decide (c<0))with q1|q1
  ·rw[q1];refine au ?_;exact hz _ (by rw[tz,q1];rfl)
  rw[q1]at tz ⊢;refine au ?_;rcases cD (decide (c >= ((b.aj.map cN).length:Int)))with q2|q2
  ·rw[q2];refine au ?_;exact hz _ (by rw[tz,show decide ((b.aj.length:Int)<=c)=true by simpa using q2];rfl)
  rw[q2];rw[show decide ((b.aj.length:Int)<=c)=false by simpa using q2]at tz;have h0:0<=c:=by simpa using q1
  have cc:c.toNat<b.aj.length:=by simp at q2;omega
  refine au ?_;refine Za (s_ _ cN false false 12 b.aj .i64 c h0 cc) ?_;rw[zAP cc,Option.getD_some]at tz;generalize b.aj[c.toNat]=cd at *;refine au ?_;cases q3:cd.unit with
  |false=>rw[q3]at tz;refine au ?_;exact hz _ (by rw[tz];rfl)
  |true=>
  rw[q3]at tz;refine au ?_;rcases cD (decide (((u.map bc).length:Int) >= 7))with q4|q4
  ·rw[q4];refine au ?_;exact hz _ (by rw[tz,show decide (7<=(u.length:Int))=true by simpa using q4];rfl)
  rw[q4];rw[show decide (7<=(u.length:Int))=false by simpa using q4]at tz;refine au ?_;rcases cD (decide (ne >= 1000000))with q5|q5
  ·rw[q5];refine au ?_;exact hz _ (by rw[tz,show decide (1000000<=ne)=true from q5];rfl)
  rw[q5];rw[show decide (1000000<=ne)=false from q5]at tz;rw[hg tz];have hw:BY.wrap (ne+1)=ne+1:=hw;refine au (w19 gA ?_);dsimp only[jz,jn,xJ,sD];refine au ?_;refine Zen (x:=⟨ne,c,0,true⟩) rfl rfl rfl (by omega) ?_;refine au ?_;rw[hw];refine⟨zAB 40,sx (s:=XB _ _ _) (e:=⟨2,_,c,ne,0,0,[]⟩) ?_ (pw (e:=⟨2,_,c,ne,0,0,[]⟩) RI.al) rfl⟩;exact SB.lit rfl
theorem Ydg{kd:Int}{fP:Int→Int×Int}{fU:Th→Int×Int}{s:St}{id sd side:Int}(h0:0<id)(hu:aM s id=(side,(k:Int),true)):ga kd fP fU s id sd=jR s kd side k id (((Zy s side).af[k]?).getD default) (fU (((Zy s side).af[k]?).getD default)):=by
 unfold ga;rw[aB (by omega),aB (by omega)];unfold aM at hu;cases q0:gM s.s0.af id with
 |some i=>
  rw[q0]at hu;simp only[zBm,and_true]at hu;obtain⟨rfl,h2⟩:=hu;have h2:i=k:=by omega
  subst h2;rfl
 |none=>
  rw[q0]at hu;cases q1:gM s.s1.af id with
  |some i=>
   rw[q1]at hu;simp only[zBm,and_true]at hu;obtain⟨rfl,h2⟩:=hu;have h2:i=k:=by omega
   subst h2;rfl
  |none=>rw[q1]at hu;simp at hu
theorem Zdg{kd:Int}{fP:Int→Int×Int}{fU:Th→Int×Int}{s:St}{id sd:Int}(h0:0<id)(hu:(aM s id).2.2=false):ga kd fP fU s id sd=(fW,jx,4):=by
 unfold ga;rw[aB (by omega),aB (by omega)];unfold aM at hu;cases q0:gM s.s0.af id with
 |some i=>rw[q0]at hu;cases hu
 |none=>
  rw[q0]at hu;cases q1:gM s.s1.af id with
  |some i=>rw[q1]at hu;cases hu
  |none=>rfl
theorem XdT{b:Nat}{l:List Th}{u':Th}(hb:ai σ b=.rows 4 (l.map bc))(hk:k<l.length):Zj 4 [.ptr b k 0,.agg (bc u')] σ=.ok .aQ [] [(b,.rows 4 ((l.set k u').map bc))]:=by
 have h1:nth (l.map bc) k=some (bc l[k]):=by rw[Y3,zAT,zAP hk];rfl
 have h2:YC k (bc u') (l.map bc)=some ((l.set k u').map bc):=by
  rw[Z1 (by simpa using hk),List.map_set]
 show (match ai σ b with
   |.rows sz rs=>match nth rs k with
    |some row=>match cellsOf (.agg (bc u'))with
     | some cs=>bif IT cs.length 4 then (match bX 0 cs row with
      |some row'=>match YC k row' rs with
       |some rs'=>aN.ok .aQ [] [(b,.rows sz rs')]
       |none=>.stop
      | none=>.stop)else .stop
     |none=>.stop
    |none=>.stop
   | _=>.stop)=_
 rw[hb];simp only[h1];show (match YC k (bc u') (l.map bc)with
  |some rs'=>aN.ok .aQ [] [(b,.rows 4 rs')]
  | none=>.stop)=_
 rw[h2]
theorem XcC{kd:Int}{fP:Int→Int×Int}{fU:Th→Int×Int}{s:St}{id sd:Int}(h:id<0):ga kd fP fU s id sd=(fW,jx,4):=by
 unfold ga;rw[aB (by omega),aI h]
theorem u289(b:Bk)(s:St)(hs:aY 1000000 s)(hm:aL (bu b).1 b s true=true)(h67:PC 42 [cE b] (.agg [iv (bu b).1,iv (bu b).2]))(id sd n:Int)(h0:sd=0∨sd=1)(me:Bool) :
  PC 207 [cE b,bZ s,iv id,iv sd,iv n,.bool me] (eE (if me=true then jK s id sd n else jF b s id sd n)):=by
 obtain⟨he,hM⟩:=Xo.1 hm;have gA:aY 1000000000 s:=hs.mono (by decide);have h50:=c25 b s gA true _ _ h67;rw[hm]at h50;have hz:∀(σ:List ab) (e:Int),∃rd,aA (Go.Ah.hp σ) rd (.bp [.agg aT,.agg ca,iv e]) (eE (fW,jx,e)):=λ_ e=>⟨[],vq e⟩;have h48:=c23 s gA id;have hn4:0<=ja n∧ja n<=4000000:=by unfold ja;omega
 refine Yi hP g207.ok rfl ?_;rw[H6.e];unfold g207;dsimp only;rcases Int.lt_trichotomy id 0 with g_|rfl|g_
 ·have a1:decide (id>0)=false:=by simp;omega
  have a2:decide (id<0)=true:=by simpa using g_
  cases me
  all_goals
   refine au ?_;refine a_ h50 g29.ok ?_;refine au ?_;refine w19 gA ?_;refine au ?_;rw[a1];refine au ?_;rw[a2];refine au ?_
   first|(unfold jK;rw[XcC g_];exact hz _ _)|(unfold jF;rw[XcC g_];exact hz _ _)
 ·have l0:=YV.1 (SF hm);have l1:=YV.1 (RO hm);clear hM hm he;rcases h0 with rfl|rfl
  rotate_left;obtain⟨tu,mo,ph,st,re,at_,ne,⟨l',m',o',d',h',g',u',t'⟩,⟨l,m,o,d,h,g,u,t⟩⟩:=s;have l0:-1000000<=l∧l<=1000000:=l1;rotate_left;obtain⟨tu,mo,ph,st,re,at_,ne,⟨l,m,o,d,h,g,u,t⟩,⟨l',m',o',d',h',g',u',t'⟩⟩:=s;have l0:-1000000<=l∧l<=1000000:=l0
  all_goals
   dsimp only[bZ,aF];cases me
  all_goals
   refine au (a_ h50 g29.ok ?_);refine au (w19 gA ?_);dsimp only[jz,jn,xJ,sD];refine au (a_ (c116 _) g65.ok ?_);refine au (Ya (λhw=>?_) (λhw=>?_))
   ·refine au ?_
    first
     |show ∃rd,aA _ rd _ (eE (if iE (BY.wrap (l-min (max n 0) 4000000))=true then _ else (fW,jx,171)))
     |show ∃rd,aA _ rd _ (eE (if iE (BY.wrap (l+min (max n 0) 4000000))=true then _ else (fW,jx,171)))
    rw[aB (by simpa using hw)];exact hz _ 171
   ·refine au ?_
    first
     |show ∃rd,aA _ rd _ (eE (if iE (BY.wrap (l-min (max n 0) 4000000))=true then (_,(⟨_,_,0,0,0,_,[]⟩:Ev),0)else (fW,jx,171)))
     |show ∃rd,aA _ rd _ (eE (if iE (BY.wrap (l+min (max n 0) 4000000))=true then (_,(⟨_,_,0,0,0,_,[]⟩:Ev),0)else (fW,jx,171)))
    rw[aI (by simpa using hw)];refine⟨zAB 40,pc (r:=(_,⟨_,_,0,0,0,_,[]⟩,0)) ?_ (pw (e:=⟨_,_,0,0,0,_,[]⟩) RI.al)⟩;exact SB.lit rfl
 ·rcases cD (aM s id).2.2 with hk|hk
  rotate_left
  ·have hg:∀(kd:Int) (fP:Int→Int×Int) (fU:Th→Int×Int),ga kd fP fU s id sd=(fW,jx,4):=λ_ _ _=>Zdg g_ hk;have a1:decide (id>0)=true:=by simpa using g_
   have e:gJ s id=.bp [iv (aM s id).1,iv (aM s id).2.1,.bool false]:=by unfold gJ;rw[hk]
   rw[e]at h48;cases me
   all_goals
    refine au ?_;refine a_ h50 g29.ok ?_;refine au ?_;refine w19 gA ?_;refine au ?_;rw[a1];refine au ?_;refine a_ h48 g56.ok ?_;refine au ?_
    first|(unfold jK;rw[hg];exact hz _ _)|(unfold jF;rw[hg];exact hz _ _)
  obtain⟨k,u,h1,h2,h3,h4⟩:=ZdJ hk;have Dr:0<=u.card∧u.card.toNat<b.aj.length:=by
   have qZ:=zAI h2;rcases h4 with e|e<;>rw[e]at qZ
   ·exact II hm u qZ
   ·exact Ip hm u qZ
  have aag:0<=u.harm∧u.harm<=1000000:=by
   have:=hM.un.1 u (by
    have qZ:=zAI h2;rcases h4 with e|e<;>rw[e]at qZ
    ·exact zAp _ qZ
    ·exact zAi _ qZ)
   simp only[Zw,AI,fD]at this;exact⟨this.2.2.2.1,this.2.2.2.2.1⟩
  have Py:0<=Z0 b u.card∧Z0 b u.card<=999:=(OD he u.card).1;have qw:Z0 b u.card=(b.aj[u.card.toNat]'Dr.2).dq:=by simp[Z0,zAP Dr.2]
  have hg:∀(kd:Int) (fP:Int→Int×Int) (fU:Th→Int×Int),ga kd fP fU s id sd=jR s kd (aM s id).1 k id u (fU u):=λkd fP fU=>by
   rw[Ydg g_ (side:=(aM s id).1) (k:=k) (by rw[←h1,←hk]),h2];rfl
  have a1:decide (id>0)=true:=by simpa using g_
  have e:gJ s id=.bp [iv (aM s id).1,iv k,.bool true]:=by unfold gJ;rw[hk,h1]
  rw[e]at h48;have cB:=λ(σ:List ab)=>s_ σ cN false false 12 b.aj .i64 u.card Dr.1 Dr.2;unfold jK jF;simp only[hg,oY,ja];clear hg hM hm he e;generalize (aM s id).1=side at *;rcases h4 with rfl|rfl
  rotate_left;obtain⟨tu,mo,ph,st,re,at_,ne,⟨l',m',o',d',h',g',u',t'⟩,⟨l,m,o,d,h,g,us,t⟩⟩:=s;rotate_left;obtain⟨tu,mo,ph,st,re,at_,ne,⟨l,m,o,d,h,g,us,t⟩,⟨l',m',o',d',h',g',u',t'⟩⟩:=s
  all_goals
   have h2:us[k]?=some u:=h2;have lW:k<us.length:=(gE h2).1;have ee:(us.map bc)[0+k]?=some (bc u):=by rw[IN,zAT,h2];rfl
   dsimp only[bZ,aF];cases me
  all_goals
   simp only[if_true,if_false,Bool.false_eq_true];refine au (a_ h50 g29.ok ?_);refine au (w19 gA ?_);dsimp only[jz,jn,xJ,sD];refine au ?_;rw[a1];refine au (a_ h48 g56.ok ?_);refine au (Za (rr _ _ 0 us.length false 4 (us.map bc) .i64 k lW rfl) (Za (v:=.agg (bc u)) (Ar rfl ee rfl) ?_));refine au ?_
   first
    |refine Za (cB _) ?_
     refine au ?_;rw[←qw];have zS:-1000000<=BY.wrap (u.harm+max (BY.wrap (min (max n 0) 4000000-Z0 b u.card)) 0):=by
      rw[bw (n:=min (max n 0) 4000000-_) (by omega) (by omega),bw (by omega) (by omega)];omega
     generalize max (BY.wrap (min (max n 0) 4000000-Z0 b u.card)) 0=q at *;generalize BY.wrap (u.harm+q)=nh at *
    |have zS:-1000000<=BY.wrap (u.harm-min (min (max n 0) 4000000) u.harm):=by
      rw[bw (by omega) (by omega)];omega
     generalize min (min (max n 0) 4000000) u.harm=q at *;generalize BY.wrap (u.harm-q)=nh at *
   refine Ya (λhb=>?_) (λhb=>?_)
   ·have hb:=of_decide_eq_true hb;refine au ?_;unfold jR;rw[aB (by simp[iE];omega)];exact hz _ 171
   ·have hb:=of_decide_eq_false hb;refine au (Xf (rr _ _ 0 us.length false 4 (us.map bc) .i64 k lW rfl) (Zg _) ?_);rw[IN];refine Xf (XdT (u':={ u with harm:=nh }) rfl lW) rfl (au ?_);unfold jR;rw[aI (by simp[iE];omega)];refine⟨zAB 40,pc (r:=(_,⟨_,_,0,id,0,_,[]⟩,0)) ?_ (pw (e:=⟨_,_,0,id,0,_,[]⟩) RI.al)⟩
    first
     |exact SB.lit rfl (x4:=RT.own rfl (ko rfl) zCf.symm)
     |exact SB.lit rfl (x9:=RT.own rfl (ko rfl) zCf.symm)
theorem u197(b:Bk)(s:St)(hs:aY 1000000 s)(hm:aL (bu b).1 b s true=true)(h67:PC 42 [cE b] (.agg [iv (bu b).1,iv (bu b).2]))(id sd n:Int)(h0:sd=0∨sd=1) :
  PC 185 [cE b,bZ s,iv id,iv sd,iv n] (eE (jF b s id sd n)):=by
 refine Yi hP g185.ok rfl ?_;rw[H5.e];unfold g185;dsimp only;refine au ?_;refine a_ (u289 b s hs hm h67 id sd n h0 false) g207.ok ?_;refine au ?_;exact⟨[],aA.ro rfl⟩
theorem u485(b:Bk)(s:St)(hs:aY 1000000 s)(hm:aL (bu b).1 b s true=true)(h67:PC 42 [cE b] (.agg [iv (bu b).1,iv (bu b).2]))(id sd n:Int)(h0:sd=0∨sd=1) :
  PC 186 [cE b,bZ s,iv id,iv sd,iv n] (eE (jK s id sd n)):=by
 refine Yi hP g186.ok rfl ?_;rw[H5.e];unfold g186;dsimp only;refine au ?_;refine a_ (u289 b s hs hm h67 id sd n h0 true) g207.ok ?_;refine au ?_;exact⟨[],aA.ro rfl⟩
theorem u204(cs:List Cd)(gH:cs.length<=gy)(l:List Ef)(hf:bF l=true):PC 61 [iM cs,gZ l] (.bool (bE cs true 1 l&&decide (dD 0 l<=200))):=by
 refine Xa hP g61.ok rfl rfl ?_;rw[H2.e];unfold g61;dsimp only;refine au ?_;refine Xu (rd:=[0]) (c188 cs gH true l 1 hf (by decide)) rfl g94.ok.plain (.cons (aA.box (row:=yC cs true) rfl (by simp) (bd.ro rfl)) (bd.ro rfl)) rfl ?_;cases bE cs true 1 l with
 |true=>
  refine au ?_;refine a_ (c142 l hf) g66.ok ?_;refine au ?_;rfl
 |false=>refine au ?_;rfl
theorem u54(x:Nm)(hf:c7 x=true):PC 143 [.agg (dd x)] (.bool (decide (mA x<=200)&&eR true x)):=by
 have h166:=c76 x hf;have h167:=c77 [] true x hf;rw[QA]at h166 h167 ⊢;refine Xa hP g143.ok rfl rfl ?_;rw[H1.e];unfold g143;dsimp only;refine au ?_;refine a_ h166 g99.ok ?_;refine au ?_;cases decide (mA x<=200)with
 |true=>
  refine au ?_;refine Xu (rd:=[1]) h167 rfl g137.ok.plain (.cons ?_ (bd.ro rfl)) rfl ?_
  ·refine aA.box (row:=[.al,.bool true]) rfl (by simp) (.cons (aA.dP (aA.ro rfl) λM u d=>d.eO 12) (bd.ro rfl))
  cases eR true x with
  |true=>refine au ?_;rfl
  |false=>refine au ?_;rfl
 |false=>refine au ?_;rfl
theorem u414(cs:List Cd)(gH:cs.length<=gy)(x:Cn)(hf:cK x=true):PC 141 [iM cs,.agg (gg x)] (.bool (decide (oz x<=200)&&fH cs true x)):=by
 have h412:=c178 x hf;have h409:=c226 cs gH true x hf;rw[XF]at h412 h409 ⊢;refine Xa hP g141.ok rfl rfl ?_;rw[H2.e];unfold g141;dsimp only;refine au ?_;refine a_ h412 g100.ok ?_;refine au ?_;cases decide (oz x<=200)with
 |true=>
  refine au ?_;refine Xu (rd:=[1]) h409 rfl g135.ok.plain (.cons (aA.box (row:=yC cs true) rfl (by simp) (bd.ro rfl)) (bd.ro rfl)) rfl ?_;cases fH cs true x with
  |true=>refine au ?_;rfl
  |false=>refine au ?_;rfl
 |false=>refine au ?_;rfl
theorem u483(n:Int):PC 183 [iv n] (iv (pz n)):=by
 refine Xa hP g183.ok rfl rfl ?_;rw[H1.e];unfold g183;dsimp only;refine au ?_;rfl
theorem u413(b:Bk)(s:St)(gA:aY 1000000000 s)(hm:aL (bu b).1 b s true=true)(h67:PC 42 [cE b] (.agg [iv (bu b).1,iv (bu b).2]))(sd tg:Int)(h01:sd=0∨sd=1):PC 140 [cE b,bZ s,.agg [iv sd,iv tg]] (iv 0):=by
 have h50:=c25 b s gA true _ _ h67;rw[hm]at h50;refine Xa hP g140.ok rfl rfl ?_;rw[H3.e];unfold g140;dsimp only;rcases h01 with rfl|rfl
 all_goals
  refine au ?_;refine a_ h50 g29.ok ?_;refine au ?_;rfl
theorem u482(b:Bk)(s:St)(sd tg who:Int)(h01:sd=0∨sd=1){r:List aa}(hr:r=cq b++(aF s++[iv sd,iv tg])):PC 181 [.aq r 0,aO who] (.agg (yW (iT s (bJ sd who)))):=by
 subst hr;refine Xa hP g181.ok rfl rfl ?_;rw[H2.e];unfold g181;dsimp only;have e:bJ sd who=if (who==1)=true then 1-sd else sd:=by unfold bJ;simp
 rw[e];rcases cD (who==1)with h|h<;>rcases h01 with rfl|rfl
 all_goals
  rw[h];refine au ?_;rw[h];refine au ?_;rfl
theorem u288(b:Bk)(s:St)(gA:aY 1000000000 s)(hm:aL (bu b).1 b s true=true)(h67:PC 42 [cE b] (.agg [iv (bu b).1,iv (bu b).2]))(id:Int):PC 182 [cE b,bZ s,iv id] (nQ b s id):=by
 obtain⟨he,hM⟩:=Xo.1 hm;have h50:=c25 b s gA true _ _ h67;rw[hm]at h50;refine Xa hP g182.ok rfl rfl ?_;rw[H3.e];unfold g182;dsimp only;refine au (a_ (c23 s gA id) g56.ok ?_);refine au (a_ h50 g29.ok ?_);cases h:(aM s id).2.2 with
 |false=>
  refine au ?_;simp[nQ,mB,h]
 |true=>
  obtain⟨k,u,h1,h2,_,h4⟩:=ZdJ h;have e:nQ b s id=.bp [iv (jU b (Zy s (aM s id).1).af k).1,iv (jU b (Zy s (aM s id).1).af k).2,.bool true]:=by simp[nQ,mB,h,h1]
  have tC:(Zy s (aM s id).1).af.length<=1000000∧∀u∈(Zy s (aM s id).1).af,0<=u.card∧u.card.toNat<b.aj.length:=by
   rcases h4 with h4|h4<;>rw[h4]
   ·exact⟨hM.le.s0.af,II hm⟩
   ·exact⟨hM.le.s1.af,Ip hm⟩
  refine au ?_;rw[h1,e];refine a_ (c177 b he s h4 tC.1 tC.2 h2) g93.ok (au ?_);rfl
theorem YeE{t:Bool}{op n who:Int}{kids:List Nm}(h:eR t (.mk op n who kids)=true):0<=op∧op<=12∧(8<=op→∃y z,kids=[y,z]∧eR t y=true∧eR t z=true)∧(op=0→0<=n∧n<=999):=by
 have h:(iS t op n who kids.length&&(cA t kids&&fL t op n who))=true:=h;simp only[iS,AI,fD]at h;obtain⟨⟨h1,h2,h3⟩,h4,h5⟩:=h;refine⟨h1,h2,λh=>?_,λh=>?_⟩
 ·rw[xC,aI ⟨h,h2⟩]at h3
  match kids,h3 with
  |[y,z],_=>exact⟨y,z,rfl,GZ h4 y (by simp),GZ h4 z (by simp)⟩
 ·subst h;simp[fL]at h5;omega
theorem rE(cs:List Cd):∀(l pre:List Cd),(dI cs pre l).1=0→∀c∈l,0<=c.cost∧c.cost<=999
 |[],_,_,c,hc=>absurd hc (by simp)
 |d::l,pre,h,c,hc=>by
  unfold dI at h;split at h
  ·cases h
  ·split at h
   ·rename_i h2;rcases zAS.1 hc with rfl|hc
    ·simp only[eI,cm,AI,fD]at h2;exact h2.2.1
    ·exact rE cs l _ h c hc
   ·cases h
theorem zL{b:Bk}(h:(bu b).1=0):∀c∈b.aj,0<=c.cost∧c.cost<=999:=by
 unfold bu at h;split at h
 ·rename_i h1;exact absurd h h1
 ·rename_i h1;have h1:(cH b.aj).1=0:=by simpa using h1
  unfold cH at h1;split at h1
  ·cases h1
  ·exact rE _ _ _ h1
theorem y0{n:Int}(h:-1000000<=n∧n<=1000000):pz n=n:=by unfold pz;omega
section
variable (b:Bk) (s:St) (gA:aY 1000000000 s) (hm:aL (bu b).1 b s true=true) (h67:PC 42 [cE b] (.agg [iv (bu b).1,iv (bu b).2])) (sd tg:Int) (h01:sd=0∨sd=1)
include gA hm h67 h01
theorem u416:∀(k:Nat) (x:Nm),zAV x<=k→eR true x=true→PC 144 [.aq (cq b++(aF s++[iv sd,iv tg])) 0,.agg (dd x)] (iv (dT b s sd tg x))
 |0,x,hk,_=>by cases x;simp at hk
 |k+1,.mk op n who kids,hk,hx=>by
  obtain⟨h1,h2,h3,h4⟩:=YeE hx;have hM:=(Xo.1 hm).2;have pV:∀w,gm b (iT s (bJ sd w)):=λw=>by unfold iT;split;exact hM.s0;exact hM.s1
  rw[QA];have h482:=λw=>u482 b s sd tg w h01 rfl;have e0:bJ sd 0=sd:=rfl;refine Xa hP g144.ok rfl rfl ?_;rw[H2.e];unfold g144;dsimp only[Nm.op,Nm.n,Nm.who,Nm.kids];have im:op=0∨op=1∨op=2∨op=3∨op=4∨op=5∨op=6∨op=7∨8<=op:=by omega
  rcases im with rfl|rfl|rfl|rfl|rfl|rfl|rfl|rfl|im
  ·refine au ?_;show _=iv (pz n);rw[y0 (by have:=h4 rfl;omega)]
  ·refine au ?_;refine a_ (h482 who) g181.ok ?_;refine au ?_;show _=iv (pz (iT s (bJ sd who)).aX);rw[y0 (YV.1 (pV who).aX)]
  ·refine au ?_;refine a_ (h482 who) g181.ok ?_;refine au ?_;show iv (((iT s (bJ sd who)).hand.map aS).length:Int)=iv (pz (iT s (bJ sd who)).hand.length);have:=(Yh.1 (pV who).hand).1;rw[y0 (by omega),zAM]
  ·refine au ?_;refine a_ (h482 who) g181.ok ?_;refine au ?_;show iv (((iT s (bJ sd who)).az.map aS).length:Int)=iv (pz (iT s (bJ sd who)).az.length);have:=(Yh.1 (pV who).az).1;rw[y0 (by omega),zAM]
  ·refine au ?_;refine a_ (h482 who) g181.ok ?_;refine au ?_;show iv (((iT s (bJ sd who)).af.map bc).length:Int)=iv (pz (iT s (bJ sd who)).af.length);have:=(pV who).af;rw[y0 (by omega),zAM]
  ·refine au ?_;refine a_ (h482 0) g181.ok ?_;refine au ?_;show iv (iT s (bJ sd 0)).aU=iv (pz (iT s sd).aU);have:=y0 (YV.1 (pV 0).aU.2);rw[e0]at this ⊢;rw[this]
  ·refine au (a_ (h482 0) g181.ok ?_);have hd:=pV 0;have et:dT b s sd tg (.mk 6 n who kids)=pz (tX b (iT s (bJ sd 0))):=rfl;rw[et];generalize iT s (bJ sd 0)=d at *;obtain⟨l,m,o,dk,h,g,u,t⟩:=d;cases dk with
   |nil=>refine au ?_;rfl
   |cons c dk=>
    have hc:=(Yh.1 hd.az).2 c (by simp);have cc:c.toNat<b.aj.length:=by omega
    refine au ?_;refine Za (s_ _ cN false false 12 b.aj .i64 c hc.1 cc) ?_;refine au ?_;show _=iv (pz (match b.aj[c.toNat]? with|some k=>k.cost|none=>_));rw[zAP cc];exact congrArg iv (y0 (by have:=zL (Xo.1 hm).1 _ (AT cc);omega)).symm
  ·refine au ?_;have h288:=u288 b s gA hm h67 tg;unfold nQ at h288;refine a_ h288 g182.ok (au (a_ (u483 _) g183.ok (au ?_)));rfl
  ·obtain⟨y,z,rfl,hy,hz⟩:=h3 im;have Lz:=u416 k y (by simp at hk;omega) hy;have LA:=u416 k z (by simp at hk;omega) hz;have by_:=GD b s sd tg y;have bz_:=GD b s sd tg z;have hmul:=Qd7 by_ bz_;have et:dT b s sd tg (.mk op n who [y,z])=pz (vZ op (dT b s sd tg y) (dT b s sd tg z)):=by
    show pz (if op<8 then _ else ue op (kJ b s sd tg [y,z]))=_;rw[aB (by omega)];rfl
   rw[et];clear et;generalize dT b s sd tg y=p at *;generalize dT b s sd tg z=q at *;simp only[zAN,zBC];rw[QA y]at Lz ⊢;rw[QA z]at LA ⊢;have im:op=8∨op=9∨op=10∨op=11∨op=12:=by omega
   rcases im with rfl|rfl|rfl|rfl|rfl
   all_goals
    refine au ?_;refine i_ Lz g144.ok ?_;refine au ?_;refine a_ LA g144.ok ?_;refine au ?_
    first
     |rw[bw (by omega) (by omega)]
      refine a_ (u483 _) g183.ok (au ?_);rfl
     |exact congrArg iv (y0 (n:=min p q) (by omega)).symm
     |exact congrArg iv (y0 (n:=max p q) (by omega)).symm
end
end Go.Ah.Tz
end
