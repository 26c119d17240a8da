/- Part of the proof that EffectParts holds of the program for arguments that together hold at most 1048576 values and letters; no other condition. -/
import Derived.Test.YtklmhbamnghbhaaGreatDoorZ4
import Derived.Test.YtklmhbamnghbhaaGreatDoorRows
import Derived.Test.YtklmhbamnghbhaaGreatDoorCards
import Derived.Test.YtklmhbamnghbhaaGreatDoorTie
import Derived.ProofKit
import Derived.OpenShut
import Derived.Carry
import Derived.SevenTiedAt
import Derived.JoinedCond
import Derived.LaidMore
import Derived.SizedLaws
import Derived.Stop.LaidErr
import Derived.Deep.DeepHandedRow
import Derived.Deep.DeepWitnessRowRef
import Derived.Lib.LaidTab
set_option linter.all false
section
namespace Go.Ah.Tz
open Go.Proofs.Tryz (prog)
set_option maxRecDepth 100000
def condT(b:Bk)(s:St)(sd op who:Int)(name:Tx)(ns:List Int)(qs:List Bool):Bool:=
 if op=0 then decide (ns.getD 0 0<ns.getD 1 0) else if op=1 then decide (ns.getD 0 0≤ns.getD 1 0) else if op=2 then decide (ns.getD 0 0=ns.getD 1 0)
 else if op=3 then !qs.getD 0 false else if op=4 then qs.getD 0 false&&qs.getD 1 false else if op=5 then qs.getD 0 false||qs.getD 1 false
 else (sdK s (whoS sd who)).hand.any λc=>(X2 b c).name==name
mutual
def condF (b:Bk) (s:St) (sd tg:Int):Cn→Bool
 |.mk op who name nums kids=>condT b s sd op who name (numFs b s sd tg nums) (condFs b s sd tg kids)
def condFs (b:Bk) (s:St) (sd tg:Int):List Cn→List Bool
 |[]=>[]
 |x::l=>condF b s sd tg x::condFs b s sd tg l
end
theorem Yc2(b:Bk)(s:St)(sd tg:Int)(x:Cn):condF b s sd tg x=condT b s sd x.op x.who x.name (numFs b s sd tg x.nums) (condFs b s sd tg x.kids):=by cases x; rfl
theorem QbG(b:Bk)(s:St)(sd tg:Int):∀(l:List Nm) (i:Nat) (h:i<l.length),(numFs b s sd tg l).getD i 0=numF b s sd tg l[i]
 |x::l,0,_=>rfl
 |x::l,i+1,h=>by
  have:=QbG b s sd tg l i (by simpa using h);simpa[numFs] using this
theorem Zbd(b:Bk)(s:St)(sd tg:Int):∀(l:List Cn) (i:Nat) (h:i<l.length),(condFs b s sd tg l).getD i false=condF b s sd tg l[i]
 |x::l,0,_=>rfl
 |x::l,i+1,h=>by
  have:=Zbd b s sd tg l i (by simpa using h);simpa[condFs] using this
def arrN(ns:List Int)(i:Nat):List AVal:=[iv (if 0<i then ns.getD 0 0 else 0),iv (if 1<i then ns.getD 1 0 else 0)]
def arrB(qs:List Bool)(i:Nat):List AVal:=[.bool (if 0<i then qs.getD 0 false else false),.bool (if 1<i then qs.getD 1 false else false)]
theorem XbG{t:Bool}:∀ {l:List Nm},nmsOk t l=true→∀y∈l,nmOk t y=true
 |a::l,h,y,hy=>by
  simp only[nmsOk,Bool.and_eq_true] at h;simp only[List.mem_cons] at hy;rcases hy with rfl|hy
  ·exact h.1
  ·exact XbG h.2 y hy
theorem Zby{cs:List Cd}{t:Bool}:∀ {l:List Cn},cnsOk cs t l=true→∀y∈l,cnOk cs t y=true
 |a::l,h,y,hy=>by
  simp only[cnsOk,Bool.and_eq_true] at h;simp only[List.mem_cons] at hy;rcases hy with rfl|hy
  ·exact h.1
  ·exact Zby h.2 y hy
def InB(b:Bk)(s:St):Prop:=∀k c,c∈(sdK s k).deck∨c∈(sdK s k).hand→0≤c∧c.toNat<b.cards.length
attribute [local irreducible] Ans.rd Ans.pu Ans.wr Ans.dr Ans.gr Ans.gw Ans.gl Ans.gd Ans.opt joinK W
set_option maxHeartbeats 8000000
theorem c569'(b:Bk)(hf:bkFit b=true)(hsm:Yj b.cards)(s:St)(hs:StLe 1000000000 s)(hm:mayR (bkR b).1 b s true=true)(sd tg:Int)(h0:0≤sd)(h1:sd≤1)(hd:InB b s)(t:Bool) :
  ∀(k:Nat) (x:Cn) (row:List AVal) (j:Nat),CnAt row j x→SizeOf.sizeOf x≤k→cnFit x=true→cnOk b.cards t x=true→PC 167 [.agg [.rptr row j],asP b s sd tg] (.iface 4 (.bool (condF b s sd tg x)))
 |0,x,_,_,_,h,_,_=>by cases x; simp at h
 |k+1,x,row,j,hx,hk,hfx,hok=>by
  have hk1:=hok;rw[Zcw] at hk1;simp only[Bool.and_eq_true] at hk1;obtain⟨k1,k2,k3,_⟩:=hk1;simp only[cnTop,Bool.and_eq_true,decide_eq_true_eq] at k1;obtain⟨ka,kb,kc,kd⟩:=k1;have kc2:x.nums.length≤2:=by rw[kc,cnK3]; split<;>omega
  have kd2:x.kids.length≤2:=by rw[kd,cnK4]; split<;>(try split)<;>omega
  have hnum:∀(i:Nat) (hi:i<x.nums.length),PC 147 [.agg [.rptr (nmC x.nums[i]) 0],asP b s sd tg] (.iface 3 (iv ((numFs b s sd tg x.nums).getD i 0))):=by
   intro i hi;have hmem:=List.getElem_mem hi;rw[QbG b s sd tg x.nums i hi];exact c289' b hf hsm s hs hm sd tg h0 h1 (λc hc=>hd _ c (.inl hc)) t _ _ _ 0 (nmAt _) (Nat.le_refl _) (Qaf hfx hmem) (XbG k2 _ hmem)
  have hkid:∀(i:Nat) (hi:i<x.kids.length),PC 167 [.agg [.rptr (cnC x.kids[i]) 0],asP b s sd tg] (.iface 4 (.bool ((condFs b s sd tg x.kids).getD i false))):=by
   intro i hi;have hmem:=List.getElem_mem hi;rw[Zbd b s sd tg x.kids i hi];exact c569' b hf hsm s hs hm sd tg h0 h1 hd t k _ _ 0 (cnAt _) (by have:=Xbn hmem; omega) (Xaf hfx hmem) (Zby k3 _ hmem)
  rw[Yc2];generalize numFs b s sd tg x.nums=ns at hnum ⊢;generalize condFs b s sd tg x.kids=qs at hkid ⊢;refine Qb hP g167.ok rfl rfl ?_;rw[H2.e]; unfold g167; dsimp only;refine Qa (v:=.bptr 0 0) (rd:=[]) (up:=[(0,.box [.rptr row j])]) rfl rfl (Qa (v:=.bptr 1 0) rfl rfl (Qa (v:=.bptr 2 0) rfl rfl ?_));refine Za rfl (Za (ld (row:=[.rptr row j]) rfl rfl) (Za rfl (Za rfl (Za (ldr hx.h3) (Za (v:=iv x.nums.length) (rd:=[]) (by simp[Qp]) ?_)))));refine Xn (ι:=Nat) (λi vs τ=>vs=[iv i]∧i≤x.nums.length∧τ=[.box [.rptr row j],.box (arrN ns i),.box [.bool false,.bool false]]) (λi=>x.nums.length-i) 0 ⟨rfl,by omega,rfl⟩ ?_;rintro i vs τ again ⟨rfl,hi,rfl⟩ hag;refine Za rfl (Zb (λh=>?_) (λh=>?_))
  ·have h:i<x.nums.length:=by simpa using h
   refine Za rfl (Za (ld (row:=[.rptr row j]) rfl rfl) (Za rfl (Za rfl (Za (ldr hx.h3) (Za (Xw _ nmC _ _ _ x.nums _ i h) (Za rfl (Zc (hnum i h) rfl g147.ok.plain rfl (Za rfl ?_))))))));have h01:i=0∨i=1:=by omega
   rcases h01 with rfl|rfl
   ·refine Za rfl (Qa (v:=.junk) (rd:=[]) (up:=[(1,.box [iv (ns.getD 0 0),iv 0])]) rfl rfl (Za rfl (hag 1 _ _ (by omega) ⟨rfl,by omega,rfl⟩)))
   ·refine Za rfl (Qa (v:=.junk) (rd:=[]) (up:=[(1,.box [iv (ns.getD 0 0),iv (ns.getD 1 0)])]) rfl rfl (Za rfl (hag 2 _ _ (by omega) ⟨rfl,by omega,rfl⟩)))
  have h:i=x.nums.length:=by simp at h; omega
  subst h;clear hag;refine Za rfl (Za (ld (row:=[.rptr row j]) rfl rfl) (Za rfl (Za rfl (Za (ldr hx.h4) (Za (v:=iv x.kids.length) (rd:=[]) (by simp[Qp]) ?_)))));generalize hA:arrN ns x.nums.length=A1;refine Xn (ι:=Nat) (λi vs τ=>vs=[iv i]∧i≤x.kids.length∧τ=[.box [.rptr row j],.box A1,.box (arrB qs i)]) (λi=>x.kids.length-i) 0 ⟨rfl,by omega,rfl⟩ ?_;rintro i vs τ again ⟨rfl,hi,rfl⟩ hag;refine Za rfl (Zb (λh=>?_) (λh=>?_))
  ·have h:i<x.kids.length:=by simpa using h
   refine Za rfl (Za (ld (row:=[.rptr row j]) rfl rfl) (Za rfl (Za rfl (Za (ldr hx.h4) (Za (Xw _ cnC _ _ _ x.kids _ i h) (Za rfl (Zc (hkid i h) rfl g167.ok.plain rfl (Za rfl ?_))))))));have h01:i=0∨i=1:=by omega
   rcases h01 with rfl|rfl
   ·refine Za rfl (Qa (v:=.junk) (rd:=[]) (up:=[(2,.box [.bool (qs.getD 0 false),.bool false])]) rfl rfl (Za rfl (hag 1 _ _ (by omega) ⟨rfl,by omega,rfl⟩)))
   ·refine Za rfl (Qa (v:=.junk) (rd:=[]) (up:=[(2,.box [.bool (qs.getD 0 false),.bool (qs.getD 1 false)])]) rfl rfl (Za rfl (hag 2 _ _ (by omega) ⟨rfl,by omega,rfl⟩)))
  have h:i=x.kids.length:=by simp at h; omega
  subst h;clear hag;generalize hB:arrB qs x.kids.length=B1;refine Za rfl (Za (ld (row:=[.rptr row j]) rfl rfl) (Za rfl (Za rfl (Za (ldr hx.h0) ?_))));have hop:x.op=0∨x.op=1∨x.op=2∨x.op=3∨x.op=4∨x.op=5∨x.op=6:=by omega
  rcases hop with e|e|e|e|e|e|e
  ·have hA':A1=[iv (ns.getD 0 0),iv (ns.getD 1 0)]:=by rw[←hA,kc,e]; rfl
   subst hA'; rw[e];exact Za rfl (Yd (Za rfl (Za rfl (Za rfl (Za rfl (Za rfl (Za rfl rfl)))))))
  ·have hA':A1=[iv (ns.getD 0 0),iv (ns.getD 1 0)]:=by rw[←hA,kc,e]; rfl
   subst hA'; rw[e];exact Za rfl (Yc (Za rfl (Yd (Za rfl (Za rfl (Za rfl (Za rfl (Za rfl (Za rfl rfl)))))))))
  ·have hA':A1=[iv (ns.getD 0 0),iv (ns.getD 1 0)]:=by rw[←hA,kc,e]; rfl
   subst hA'; rw[e];exact Za rfl (Yc (Za rfl (Yc (Za rfl (Yd (Za rfl (Za rfl (Za rfl (Za rfl (Za (Yf ..) (Za rfl rfl)))))))))))
  ·have hB':B1=[.bool (qs.getD 0 false),.bool false]:=by rw[←hB,kd,e]; rfl
   subst hB'; rw[e];exact Za rfl (Yc (Za rfl (Yc (Za rfl (Yc (Za rfl (Yd (Za rfl (Za rfl (Za rfl (Za rfl rfl)))))))))))
  ·have hB':B1=[.bool (qs.getD 0 false),.bool (qs.getD 1 false)]:=by rw[←hB,kd,e]; rfl
   subst hB'; rw[e];refine Za rfl (Yc (Za rfl (Yc (Za rfl (Yc (Za rfl (Yc (Za rfl (Yd (Za rfl (Za rfl ?_)))))))))));rw[show condT b s sd 4 x.who x.name ns qs=(qs.getD 0 false&&qs.getD 1 false) from rfl];rcases YBE (qs.getD 0 false) with q|q
   ·rw[q];refine Ya (Za rfl (Ya (Za rfl (Za rfl (Za rfl ?_)))));rfl
   ·rw[q];refine Xa rfl (Xa rfl (Za rfl (Za rfl ?_)));rfl
  ·have hB':B1=[.bool (qs.getD 0 false),.bool (qs.getD 1 false)]:=by rw[←hB,kd,e]; rfl
   subst hB'; rw[e];refine Za rfl (Yc (Za rfl (Yc (Za rfl (Yc (Za rfl (Yc (Za rfl (Yc (Za rfl (Yd (Za rfl (Za rfl ?_)))))))))))));rw[show condT b s sd 5 x.who x.name ns qs=(qs.getD 0 false||qs.getD 1 false) from rfl];rcases YBE (qs.getD 0 false) with q|q
   ·rw[q];refine Xa rfl (Xa rfl (Za rfl (Za rfl ?_)));rfl
   ·rw[q];refine Ya (Za rfl (Ya (Za rfl (Za rfl (Za rfl ?_)))));rfl
  ·rw[e];refine Za rfl (Yc (Za rfl (Yc (Za rfl (Yc (Za rfl (Yc (Za rfl (Yc (Za rfl (Yc ?_)))))))))));refine Za rfl (Za (ld (row:=[.rptr row j]) rfl rfl) (Za rfl (Za rfl (Za (ldr hx.h1) (Zc (c295 b s sd tg x.who h0 h1) rfl g153.ok.plain rfl ?_)))));have hv:condT b s sd 6 x.who x.name ns qs=(sdK s (whoS sd x.who)).hand.any λc=>(X2 b c).name==x.name:=rfl;rw[hv];have hin:∀c∈(sdK s (whoS sd x.who)).hand,0≤c∧c.toNat<b.cards.length:=λc hc=>hd _ c (.inr hc);obtain⟨jj,hjj,hpt,hln⟩:∃jj:Nat,partA false (jj+4) 1 (stC s)=some (rowV (sdK s (whoS sd x.who)).hand)∧(bif whoS sd x.who==0 then 7 else 15)=jj∧(sdK s (whoS sd x.who)).hand.length≤1000000000:=by
    rcases Y8 (who:=x.who) h0 h1 with h|h
    ·rw[h]; exact⟨7,rfl,rfl,hs.s0.hand⟩
    ·rw[h]; exact⟨15,rfl,rfl,hs.s1.hand⟩
   rw[hpt];generalize (sdK s (whoS sd x.who)).hand=hand at hjj hin hln ⊢;refine Za rfl (Za rfl (Za (ldr hjj) (Za (v:=iv hand.length) (rd:=[]) (by simp[Qp]) ?_)));refine Xn (ι:=Nat) (λi vs τ=>vs=[iv i]∧i≤hand.length∧τ=[.box [.rptr row j],.box A1,.box B1]∧(hand.take i).any (λc=>(X2 b c).name==x.name)=false) (λi=>hand.length-i) 0 ⟨rfl,by omega,rfl,rfl⟩ ?_;rintro i vs τ again ⟨rfl,hi,rfl,hno⟩ hag;refine Za rfl (Zb (λh=>?_) (λh=>?_))
   ·have h:i<hand.length:=by simpa using h
    obtain⟨q1,q2⟩:=hin hand[i] (List.getElem_mem h);refine Za (Xw _ cel _ _ _ hand _ i h) (Za (v:=iv hand[i]) (ldr rfl) ?_);refine Za rfl (Za rfl (Za (v:=.rptr (bkC b) 0) (ldr (row:=asR b s sd tg) rfl) (Za rfl (Za rfl (Za (v:=cdV b.cards) (ldr (row:=bkC b) rfl) ?_)))));refine Za (Xbz _ cdC _ _ _ b.cards _ _ q1 q2) (Za rfl (Za (v:=.str b.cards[hand[i].toNat].name) (ldr rfl) ?_));refine Za rfl (Za (ld (row:=[.rptr row j]) rfl rfl) (Za rfl (Za rfl (Za (ldr hx.h2) (Za (Zj ..) ?_)))));have hc:X2 b hand[i]=b.cards[hand[i].toNat]:=by simp[X2,q2]
    refine Zb (λhq=>?_) (λhq=>?_)
    ·have:hand.any (λc=>(X2 b c).name==x.name)=true:=List.any_eq_true.2 ⟨hand[i],List.getElem_mem h,by rw[hc]; exact hq⟩;rw[this];exact Za rfl rfl
    ·refine Za (Zl ..) ?_;rw[Zg (n:=i) (by omega)];refine hag (i+1) _ _ (by omega) ⟨rfl,by omega,rfl,?_⟩;rw[XI hand i h,List.any_append,hno];simp[hc,hq]
   ·have h:i=hand.length:=by simp at h; omega
    subst h;rw[List.take_length] at hno;rw[hno];exact Za rfl rfl
theorem c569(b:Bk)(hf:bkFit b=true)(hsm:Yj b.cards)(s:St)(hs:StLe 1000000000 s)(hm:mayR (bkR b).1 b s true=true)(sd tg:Int)(h0:0≤sd)(h1:sd≤1)(hd:InB b s)(t:Bool)(x:Cn)(hx:cnFit x=true)(hok:cnOk b.cards t x=true) :
  PC 167 [.agg [.rptr (cnC x) 0],asP b s sd tg] (.iface 4 (.bool (condF b s sd tg x))):=c569' b hf hsm s hs hm sd tg h0 h1 hd t _ x _ 0 (cnAt x) (Nat.le_refl _) hx hok
end Go.Ah.Tz
end
section
namespace Go.Ah.Tz
open Go.Proofs.Tryz (prog)
set_option maxRecDepth 100000
def ifE(y:Cn):Ef:=.mk 8 0 nm0 [] y [] []
def Qa2(y:Cn):Cd:=⟨[80,114,111,98,101],false,0,0,0,0,0,0,[ifE y],[],[],0⟩
def Zag(b:Bk)(y:Cn):Bool:=!decide (cdW (Qa2 y)-1>200)&&lstOk b.cards true 1 [ifE y]
theorem Zcy{b:Bk}{y:Cn}(h:Zag b y=true):cnOk b.cards true y=true:=by
 simp only[Zag,lstOk,efsOk,Bool.and_eq_true] at h;obtain⟨_,_,_,h,_⟩:=h;rw[XaD,if_pos (show (ifE y).op=8 from rfl)] at h;simp only[Bool.and_eq_true] at h;exact h.2.2.2.2.2.1
@[reducible] def ifR(y:Cn):List AVal:=[iv8 8,iv8 0,iv8 0,iv 0,iv8 0,.nils,.str [],iv8 y.op,iv8 y.who,.str y.name,.rsl false false 4 (y.nums.map nmC),.rsl false false 5 (y.kids.map cnC),.nils,.nils]
theorem XdF{h0:Hp}{rd:List Nat}(y:Cn):BorL h0 rd (ifR y) (efC (ifE y)):=by
 rw[Qv];exact .cons (Bor.ro rfl) <| .cons (Bor.ro rfl) <| .cons (Bor.ro rfl) <| .cons (Bor.ro rfl) <| .cons (Bor.ro rfl) <| .cons (Bor.weak (Bor.ro rfl) (λM u d=>d.nils_rsl 4)) <| .cons (Bor.ro rfl) <| .cons (Bor.ro rfl) <| .cons (Bor.ro rfl) <| .cons (Bor.ro rfl) <|
  .cons (Bor.ro rfl) <| .cons (Bor.ro rfl) <| .cons (Bor.weak (Bor.ro rfl) (λM u d=>d.nils_rsl 14)) <| .cons (Bor.weak (Bor.ro rfl) (λM u d=>d.nils_rsl 14)) .nil
theorem QdF{h0:Hp}{rd:List Nat}(y:Cn){b:Nat}(hb:h0 b=some (.rows 14 [ifR y]))(hin:b∈rd):Bor h0 rd (.sl b 0 1 true) (efV [ifE y]):=by
 refine Bor.weak (y:=.rsl true false 14 [efC (ifE y)]) (Bor.sl hb hin (by simp) rfl (λi row row' e1 e2=>?_)) (λM u d=>d.rsl_weak)
 match i with
 |0=>simp at e1 e2; subst e1; subst e2; exact XdF y
 |i+1=>simp at e2
theorem Xdg{y:Cn}(h:cnFit y=true):lsFit [ifE y]=true:=by
 simp[lsFit,ifE,QU,efFit,h,nmFit,nm0,bigE,Xaz,i8B,i64B]
attribute [local irreducible] Ans.rd Ans.pu Ans.wr Ans.dr Ans.gr Ans.gw Ans.gl Ans.gd Ans.opt joinK W
set_option maxHeartbeats 4000000
theorem c172C(b:Bk)(hf:bkFit b=true)(y:Cn)(hy:cnFit y=true)(hsz:(cnP y).length≤1000000):PC 58 [.nilp,.rptr (cnC y) 0,.rptr (bkC b) 0] (.bool (Zag b y)):=by
 have hcs:QN b.cards=true:=by
  simp only[bkFit,Bool.and_eq_true] at hf; exact hf.1
 have hP1:(cdP (Qa2 y)).length≤500000000:=by simp[cdP,Qa2,efPs,ifE,efP,cntOp,nm0,nmP,nmPs]; omega
 have h124:=c124 (Qa2 y) (Xdg hy) rfl rfl hP1;have h125:=c125 b.cards hcs [ifE y] (Xdg hy);have hwr:-9223372036854775808≤cdW (Qa2 y)-1∧cdW (Qa2 y)-1≤9223372036854775807:=by rw[Xcu]; omega
 unfold Zag;rw[YS];refine Qb hP g58.ok rfl rfl ?_;rw[H3.e]; unfold g58; dsimp only;refine Za rfl (Qa (v:=.bptr 0 0) rfl rfl (Qa (v:=.junk) (rd:=[]) (up:=[(0,.box [iv8 3,iv8 0,iv8 0,iv 0,iv8 0,.nils,.str [],iv8 0,iv8 0,.str [],.nils,.nils,.nils,.nils])]) rfl rfl (Za rfl (Za6 (Yc ?_)))));refine Xb rfl (Zd (ldr rfl) rfl (Xb rfl (Zd (v:=.junk) (rd:=[]) (up:=[(0,.box [iv8 8,iv8 0,iv8 0,iv 0,iv8 0,.nils,.str [],iv8 0,iv8 0,.str [],.nils,.nils,.nils,.nils])]) rfl rfl (Xb rfl (Zd (v:=.junk) (rd:=[]) (up:=[(0,.box (ifR y))]) rfl rfl (Yn (by kernel_rfl) ?_))))));refine Za (ld (row:=ifR y) rfl rfl) (Qa (v:=.sl 1 0 1 true) (rd:=[]) (up:=[(1,.rows 14 [ifR y])]) rfl rfl (Za rfl (Qa (v:=.bptr 2 0) rfl rfl ?_)));refine Qa (v:=.junk) (rd:=[]) (up:=[(2,.box [.str [80,114,111,98,101],.bool false,iv 0,iv 0,iv 0,iv 0,iv 0,iv 0,.sl 1 0 1 true,.nils,.nils,iv 0])]) rfl rfl ?_;refine Za (ld (row:=[.str [80,114,111,98,101],.bool false,iv 0,iv 0,iv 0,iv 0,iv 0,iv 0,.sl 1 0 1 true,.nils,.nils,iv 0]) rfl rfl) ?_;refine Xy (rd:=[1]) h124 rfl g68.ok.plain (.cons (Bor.agg ?_) .nil) rfl ?_
 ·exact .cons (Bor.ro rfl) <| .cons (Bor.ro rfl) <| .cons (Bor.ro rfl) <| .cons (Bor.ro rfl) <| .cons (Bor.ro rfl) <| .cons (Bor.ro rfl) <| .cons (Bor.ro rfl) <| .cons (Bor.ro rfl) <| .cons (QdF y rfl (by simp)) <|
   .cons (Bor.weak (Bor.ro rfl) (λM u d=>d.nils_rsl 14)) <| .cons (Bor.weak (Bor.ro rfl) (λM u d=>d.nils_rsl 14)) <| .cons (Bor.ro rfl) .nil
 refine Za (ZaD ..) ?_;rw[IntWalk.i64_in _ hwr];refine Za (v:=.bool (decide (cdW (Qa2 y)-1>200))) rfl ?_;refine Zb (λh=>?_) (λh=>?_)
 ·rw[h]; rfl
 rw[h];refine Xb rfl (Xb rfl (Zd (v:=cdV b.cards) (ldr (row:=bkC b) rfl) rfl (Xb rfl (Zd (v:=.sl 1 0 1 true) (ld (row:=[.str [80,114,111,98,101],.bool false,iv 0,iv 0,iv 0,iv 0,iv 0,iv 0,.sl 1 0 1 true,.nils,.nils,iv 0]) rfl rfl) rfl ?_))));exact QX (rd:=[1]) h125 rfl g82.ok.plain (.cons (Bor.ro rfl) (.cons (QdF y rfl (by simp)) .nil)) rfl (Yn (by kernel_rfl) rfl)
theorem c169(b:Bk)(hf:bkFit b=true)(hsm:Yj b.cards)(s:St)(hs:StLe 1000000000 s)(hm:mayR (bkR b).1 b s true=true)(sd tg:Int)(h0:0≤sd)(h1:sd≤1)(hd:InB b s)(y:Cn)(hy:cnFit y=true)(hsz:(cnP y).length≤1000000) :
  PC 40 [bkV b,stV s,.agg [iv sd,iv tg],.agg (cnC y)] (.tup [.bool (Zag b y&&condF b s sd tg y),iv (if Zag b y=true then 0 else 2)]):=by
 have hz:=c289' b hf hsm s hs hm sd tg h0 h1 (λc hc=>hd _ c (.inl hc)) true _ nm0 (nmC nm0) 0 (nmAt _) (Nat.le_refl _) rfl rfl;have a0:=c81 b hf hsm s hs hm sd tg h0 h1 _ _ _ hz;have h82:=c172C b hf y hy hsz;have a1:Zag b y=true→PC 57 [.rptr (bkC b) 0,.rptr (stC s) 0,.agg [iv sd,iv tg],.iface 132 (.agg [.rptr (cnC y) 0])] (.tup [.iface 4 (.bool (condF b s sd tg y)),iv 0]):=λh=>
  c81C b hf hsm s hs hm sd tg h0 h1 _ _ _ (c569 b hf hsm s hs hm sd tg h0 h1 hd true y hy (Zcy h))
 refine Qb hP g40.ok rfl rfl ?_;rw[H4.e]; unfold g40; dsimp only;refine Qa (v:=.bptr 0 0) (rd:=[]) (up:=[(0,.box (bkC b))]) rfl rfl (Qa (v:=.bptr 1 0) (rd:=[]) (up:=[(1,.box (stC s))]) rfl rfl (Qa (v:=.bptr 2 0) rfl rfl ?_));refine Qa (v:=.bptr 3 0) (rd:=[]) (up:=[(3,.box (cnC y))]) (by rw[YS]; rfl) rfl ?_;refine Za (ld (row:=[iv sd,iv tg]) rfl rfl) (Za rfl (Qa (v:=.bptr 4 0) rfl rfl (Za rfl (Za rfl ?_))));have B0:∀ {σ:List ABlk} {rd:List Nat},hget σ 0=.box (bkC b)→0∈rd→Bor (hp σ) rd (.bptr 0 0) (.rptr (bkC b) 0):=λh hin=>Bor.box (YJ h) hin (BorL.ro rfl);have B1:∀ {σ:List ABlk} {rd:List Nat},hget σ 1=.box (stC s)→1∈rd→Bor (hp σ) rd (.bptr 1 0) (.rptr (stC s) 0):=λh hin=>Bor.box (YJ h) hin (BorL.ro rfl);have B3:∀ {σ:List ABlk} {rd:List Nat},hget σ 3=.box (cnC y)→3∈rd→Bor (hp σ) rd (.bptr 3 0) (.rptr (cnC y) 0):=λh hin=>Bor.box (YJ h) hin (BorL.ro (by rw[YS]; rfl));refine Xy (rd:=[0,1,4]) a0 rfl g81_plain (.cons (B0 rfl (by simp)) <| .cons (B1 rfl (by simp)) <| .cons (Bor.ro rfl) <| .cons (Bor.iface (Bor.agg (.cons (Bor.box (row:=[iv8 0,iv 0,iv8 0,.nils]) rfl (by simp) ?_) .nil))) .nil) rfl ?_
 ·exact .cons (Bor.ro rfl) <| .cons (Bor.ro rfl) <| .cons (Bor.ro rfl) <| .cons (Bor.weak (Bor.ro rfl) (λM u d=>d.nils_rsl 4)) .nil
 refine Za rfl (Za rfl (Za rfl (Yb ?_)));refine Xy (rd:=[0,3]) h82 rfl g58.ok.plain (.cons (Bor.ro rfl) <| .cons (B3 rfl (by simp)) <| .cons (B0 rfl (by simp)) .nil) rfl ?_;rcases YBE (Zag b y) with hq|hq
 ·rw[hq];refine Ya (Za rfl (Za rfl (Yc (Za rfl (Za6 (Yd ?_))))));refine Za (ld (row:=[iv sd,iv tg]) rfl rfl) (Za rfl (Za rfl ?_));refine Xy (rd:=[0,1,3]) (a1 hq) rfl g81_plain (.cons (B0 rfl (by simp)) <| .cons (B1 rfl (by simp)) <| .cons (Bor.ro rfl) <| .cons (Bor.iface (Bor.agg (.cons (B3 rfl (by simp)) .nil))) .nil) rfl ?_;exact Za rfl (Za rfl (Za rfl (Yc (Za rfl rfl))))
 ·rw[hq];refine Ya (Za rfl (Za rfl (Yd rfl)))
def whoR(s:St)(sd tg who:Int):Int×Int×Bool:=
 if who=0 then (0,sd,true) else if who=1 then (0,1-sd,true) else if who≠2 then (0,0,false)
 else if tg = -2∨tg = -3 then (0,-2-tg,true) else if 0<tg then (if (unitR s tg).2.2=true then (tg,(unitR s tg).1,true) else (0,0,false)) else (0,0,false)
theorem c170(s:St)(hs:StLe 1000000000 s)(sd tg who:Int)(h0:0≤sd)(h1:sd≤1):PC 76 [stV s,.agg [iv sd,iv tg],iv8 who] (.tup [iv (whoR s sd tg who).1,iv (whoR s sd tg who).2.1,.bool (whoR s sd tg who).2.2]):=by
 have h71:=c71 s hs tg;refine Qb hP g76.ok rfl rfl ?_;rw[H3.e]; unfold g76; dsimp only;refine Qa (v:=.bptr 0 0) (rd:=[]) (up:=[(0,.box (stC s))]) rfl rfl (Qa (v:=.bptr 1 0) (rd:=[]) (up:=[(1,.box [iv sd,iv tg])]) rfl rfl ?_);refine Za rfl (Za (ld (row:=[iv sd,iv tg]) (v:=iv sd) rfl rfl) (Za (v:=.bool (decide (sd<0))) rfl ?_));rw[show decide (sd<0)=false from decide_eq_false (by omega)];refine Ya (Za rfl (Ya (Za (ld (row:=[iv sd,iv tg]) (v:=iv sd) rfl rfl) (Ya (Za (v:=.bool (decide (sd>1))) rfl ?_)))));rw[show decide (sd>1)=false from decide_eq_false (by omega)];refine Za rfl (Yc (Xj λk' ek=>?_));have hno:whoR s sd tg who=(0,0,false)→k' [] [.box (stC s),.box [iv sd,iv tg]]:=by
  intro h; subst ek; show AVal.tup [iv 0,iv 0,.bool false]=_; rw[h]
 clear ek;refine Za (Yf ..) (Zb (λh=>?_) (λh=>?_))
 ·have h:who=0:=by simpa using h
  have e:whoR s sd tg who=(0,sd,true):=by rw[whoR,if_pos h]
  rw[e];exact Za rfl (Za (ld (row:=[iv sd,iv tg]) (v:=iv sd) rfl rfl) rfl)
 have h:who≠0:=by simpa using h
 refine Za (Yf ..) (Zb (λh2=>?_) (λh2=>?_))
 ·have h2:who=1:=by simpa using h2
  have e:whoR s sd tg who=(0,1-sd,true):=by rw[whoR,if_neg h,if_pos h2]
  rw[e];refine Za rfl (Za (ld (row:=[iv sd,iv tg]) (v:=iv sd) rfl rfl) (Za (ZaD ..) ?_));rw[IntWalk.i64_in _ (by omega)]
 have h2:who≠1:=by simpa using h2
 refine Za (XS ..) (Zb (λh3=>?_) (λh3=>?_))
 ·have h3:who≠2:=by simpa using h3
  have e:whoR s sd tg who=(0,0,false):=by rw[whoR,if_neg h,if_neg h2,if_pos h3]
  rw[e]
 have h3:¬who≠2:=by simpa using h3
 have e0:whoR s sd tg who=if tg = -2∨tg = -3 then (0,-2-tg,true) else if 0<tg then (if (unitR s tg).2.2=true then (tg,(unitR s tg).1,true) else (0,0,false)) else (0,0,false):=by rw[whoR,if_neg h,if_neg h2,if_neg h3]
 refine Za rfl (Za (ld (row:=[iv sd,iv tg]) (v:=iv tg) rfl rfl) (Za (Yf ..) ?_));have pick:∀K:AVal→Prop,K (.bool (decide (tg = -2∨tg = -3)))→VV.gr (.bool (decide (tg = -2))) false (λk=>VV.rd (Qc 1 [.bptr 1 0] [.box (stC s),.box [iv sd,iv tg]]) k) λt39=>
   VV.gr (.bool (decide (tg = -2))) false (λk=>VV.rd (Zk false 1 [t39] [.box (stC s),.box [iv sd,iv tg]]) k) λt40=>
   VV.gr (.bool (decide (tg = -2))) false (λk=>VV.rd (Qm .eql false [t40,(.int .i64 (-3))] [.box (stC s),.box [iv sd,iv tg]]) k) λt41=>
   VV.rd (Ql [.bool (decide (tg = -2)),(.bool true),t41] [.box (stC s),.box [iv sd,iv tg]]) K:=by
  intro K hK;by_cases hq:tg = -2
  ·rw[show decide (tg = -2)=true from decide_eq_true hq];refine Xa rfl (Xa rfl (Xa rfl (Za rfl ?_)))
   rwa [show decide (tg = -2∨tg = -3)=true from decide_eq_true (.inl hq)] at hK
  ·rw[show decide (tg = -2)=false from decide_eq_false hq];refine Ya (Za rfl (Ya (Za (ld (row:=[iv sd,iv tg]) (v:=iv tg) rfl rfl) (Ya (Za (Yf ..) (Za rfl ?_))))))
   rwa [show decide (tg = -2∨tg = -3)=decide (tg = -3) from by simp[hq]] at hK
 refine pick _ (Zb (λh4=>?_) (λh4=>?_))
 ·have h4:tg = -2∨tg = -3:=by simpa using h4
  rw[e0,if_pos h4];refine Za rfl (Za (ld (row:=[iv sd,iv tg]) (v:=iv tg) rfl rfl) (Za (ZaD ..) ?_));rw[IntWalk.i64_in _ (by omega)]
 have h4:¬(tg = -2∨tg = -3):=by simpa using h4
 rw[if_neg h4] at e0;refine Za rfl (Za (ld (row:=[iv sd,iv tg]) (v:=iv tg) rfl rfl) (Za (Z5 ..) (Zb (λh5=>?_) (λh5=>?_))))
 ·have h5:0<tg:=by simpa using h5
  rw[if_pos h5] at e0;refine Za (ld (row:=stC s) rfl rfl) (Za rfl (Za (ld (row:=[iv sd,iv tg]) (v:=iv tg) rfl rfl) (Zc h71 rfl g98.ok.plain rfl ?_)));unfold unitV;refine Za rfl (Za rfl (Za rfl (Zb (λh6=>?_) (λh6=>?_))))
  ·rw[if_pos h6] at e0;rw[e0];exact Za rfl (Za (ld (row:=[iv sd,iv tg]) (v:=iv tg) rfl rfl) rfl)
  ·exact hno (by rw[e0,if_neg (by simp[h6])])
 ·have h5:¬0<tg:=by simpa using h5
  exact hno (by rw[e0,if_neg h5])
end Go.Ah.Tz
end
section
namespace Go.Ah.Tz
open Go.Proofs.Tryz (prog)
set_option maxRecDepth 100000
def XcL(s:St)(sd tg who:Int):AVal:=if (whoR s sd tg who).2.2=true then (if 0<(whoR s sd tg who).1 then .iface 154 (.agg [iv (whoR s sd tg who).1,iv (whoR s sd tg who).2.1]) else .iface 155 (iv (whoR s sd tg who).2.1)) else .nili
theorem Zde(s:St)(id:Int):(unitR s id).1=0∨(unitR s id).1=1:=by
 unfold unitR;split
 ·exact .inl rfl
 ·split
  ·exact .inr rfl
  ·exact .inl rfl
theorem XcY{s:St}{sd tg who:Int}(h01:sd=0∨sd=1)(h:(whoR s sd tg who).2.2=true):((whoR s sd tg who).2.1=0∨(whoR s sd tg who).2.1=1)∧0≤(whoR s sd tg who).1:=by
 have hu:=Zde s tg;unfold whoR at h ⊢;by_cases q1:who=0
 ·rw[if_pos q1]; exact⟨h01,Int.le_refl _⟩
 rw[if_neg q1] at h ⊢;by_cases q2:who=1
 ·rw[if_pos q2]; exact⟨by show 1-sd=0∨1-sd=1; omega,Int.le_refl _⟩
 rw[if_neg q2] at h ⊢;by_cases q3:who≠2
 ·rw[if_pos q3] at h; cases h
 rw[if_neg q3] at h ⊢;by_cases q4:tg = -2∨tg = -3
 ·rw[if_pos q4]; exact⟨by show -2-tg=0∨-2-tg=1; omega,Int.le_refl _⟩
 rw[if_neg q4] at h ⊢;by_cases q5:0<tg
 ·rw[if_pos q5] at h ⊢;by_cases q6:(unitR s tg).2.2=true
  ·rw[if_pos q6]; exact⟨hu,Int.le_of_lt q5⟩
  ·rw[if_neg q6] at h; cases h
 ·rw[if_neg q5] at h; cases h
def mvR(op:Int)(b:Bk)(s:St)(id k n:Int):St×Ev×Int:=if op=1 then mendF s id k n else harmF b s id k n
def hurtE(b:Bk)(s:St)(sd tg op who n:Int):Int×St×List Ev:=
 if (whoR s sd tg who).2.2=true∧0≤n then
  (if (mvR op b s (whoR s sd tg who).1 (whoR s sd tg who).2.1 n).2.2=0 then (0,(mvR op b s (whoR s sd tg who).1 (whoR s sd tg who).2.1 n).1,[(mvR op b s (whoR s sd tg who).1 (whoR s sd tg who).2.1 n).2.1])
  else ((mvR op b s (whoR s sd tg who).1 (whoR s sd tg who).2.1 n).2.2,s,[]))
 else (0,s,[])
theorem Zbq{σ:List ABlk}{b j n:Nat}{row:List AVal}{v:AVal}(hb:hget σ b=.box row)(hv:partA true j n row=some v):cellV true n (.bptr b j) σ=some v:=by
 simp only[cellV,hb,hv]
theorem Agr.lift{σ σ':List ABlk}(h:Agr σ σ' [])(rb:Nat){lv:AVal}:Fr rb lv lv σ σ':=⟨h.1,λk hk _ _=>h.2 k hk (by simp),λk n e=>.inr ⟨n,e⟩⟩
theorem Agr.app1(σ:List ABlk)(x:ABlk):Agr σ (σ++[x]) []:=Agr.app σ [x]
theorem Agr.setNew{σ τ:List ABlk}(h:Agr σ τ []){b:Nat}(hb:σ.length≤b)(x:ABlk):Agr σ (τ.set b x) []:=
 ⟨by simpa using h.1,λc hc _=>by rw[Xd x (Nat.lt_of_lt_of_le hc h.1) (by omega),h.2 c hc (by simp)]⟩
theorem Agr.app'{σ τ:List ABlk}(h:Agr σ τ [])(x:ABlk):Agr σ (τ++[x]) []:=by
 have:=h.trans (Agr.app1 τ x); simpa using this
attribute [local irreducible] Ans.rd Ans.pu Ans.wr Ans.dr Ans.gr Ans.gw Ans.gl Ans.gd Ans.opt joinK W
set_option maxHeartbeats 4000000
theorem Zdq{σ:List ABlk}{rb:Nat}{b:Bk}{s:St}{sd tg fu:Int}{mv lv:AVal}(hr:hget σ rb=.box (rnC b s sd tg lv fu mv))(h01:sd=0∨sd=1)(hs:StLe 1000000000 s)(who:Int){K:AVal→List ABlk→Prop}(hK:K (XcL s sd tg who) σ):g49.u VV [.bptr rb 0,iv8 who] σ K:=by
 rw[H2.e]; unfold g49; dsimp only;refine Za rfl (Za rfl (Za (v:=stV s) (ld hr rfl) (Za rfl (Za rfl (Za (v:=.agg [iv sd,iv tg]) (ld hr rfl) ?_)))));refine Zc (c170 s hs sd tg who (by omega) (by omega)) rfl g76.ok.plain rfl ?_;unfold XcL at hK;refine Za rfl (Za rfl (Za rfl (Za rfl (Zb (λh=>?_) (λh=>?_)))))
 ·rw[if_neg (by simpa using h)] at hK; exact hK
 ·rw[if_pos (by simpa using h)] at hK;refine Za (Z5 ..) (Zb (λh2=>?_) (λh2=>?_))
  ·rw[if_pos (by simpa using h2)] at hK; exact Za rfl (Za rfl hK)
  ·rw[if_neg (by simpa using h2)] at hK; exact Za rfl hK
theorem YcY{σ:List ABlk}{rb:Nat}{b:Bk}{s:St}{sd tg fu:Int}{lv:AVal}{F:FuncId}(hr:hget σ rb=.box (rnC b s sd tg lv fu (.func (.func F) [] [])))(id k n:Int){r:St×Ev×Int}(hc:PC F [bkV b,stV s,iv id,iv k,iv n] (resV r))(hpF:Zh prog F=true){K:AVal→List ABlk→Prop}
 (hK:∀σ',Agr σ σ' []→K (resV r) σ'):g168.u VV [.agg [iv id,iv k],.bptr rb 0,iv n] σ K:=by
 rw[H3.e]; unfold g168; dsimp only;refine Qa (v:=.bptr σ.length 0) (rd:=[]) (up:=[(σ.length,.box [iv id,iv k])]) rfl (Yk σ _) ?_;have a1:=Agr.app1 σ (.box [iv id,iv k]);have r1:=Ze [ABlk.box [iv id,iv k]] hr (by simp);have n1:=Zf σ (.box [iv id,iv k]);have l1:(σ++[ABlk.box [iv id,iv k]]).length=σ.length+1:=by simp
 generalize σ++[ABlk.box [iv id,iv k]]=τ1 at *;refine Qa (v:=.bptr τ1.length 0) (rd:=[]) (up:=[(τ1.length,.box zStC)]) rfl (Yk τ1 _) ?_;have a2:=a1.app' (.box zStC);have r2:=Ze [ABlk.box zStC] r1 (by simp);have n2:=Ze [ABlk.box zStC] n1 (by simp);have z2:=Zf τ1 (.box zStC);have l2:(τ1++[ABlk.box zStC]).length=τ1.length+1:=by simp
 generalize τ1++[ABlk.box zStC]=τ2 at *;refine Qa (v:=.bptr τ2.length 0) (rd:=[]) (up:=[(τ2.length,.box zEvC)]) rfl (Yk τ2 _) ?_;have a3:=a2.app' (.box zEvC);have r3:=Ze [ABlk.box zEvC] r2 (by simp);have n3:=Ze [ABlk.box zEvC] n2 (by simp);have z3:=Ze [ABlk.box zEvC] z2 (by simp);have e3:=Zf τ2 (.box zEvC);have l3:(τ2++[ABlk.box zEvC]).length=τ2.length+1:=by simp
 generalize τ2++[ABlk.box zEvC]=τ3 at *;refine Za rfl (Za rfl (Za (v:=.func (.func F) [] []) (ld r3 rfl) (Za rfl (Za rfl (Za (v:=bkV b) (ld r3 rfl) (Za rfl (Za rfl (Za (v:=stV s) (ld r3 rfl) ?_))))))));refine Za rfl (Za (v:=iv id) (ld n3 rfl) (Za rfl (Za (v:=iv k) (ld n3 rfl) ?_)));refine Zc (f:=F) (ys:=[bkV b,stV s,iv id,iv k,iv n]) hc rfl hpF rfl ?_;refine Xb rfl (Xb rfl (Xb rfl ?_));refine Zd (stv z3 rfl rfl rfl) (Qi _ (by omega)) ?_;have e4:=Qe (x:=.box (stC r.1)) e3 (by simp) (c:=τ1.length) (by omega);have s4:hget (τ3.set τ1.length (.box (stC r.1))) τ1.length=.box (stC r.1):=Xf _ (by omega);refine Zd (stv e4 rfl rfl rfl) (Qi _ (by simp; omega)) (Yn (by have hne:τ2.length≠τ1.length:=(by omega); simp[Xl,Zt,Qn,QD,apart2,disj,List.range,List.range.loop,hne,hne.symm]) ?_);refine Yi (Zbq (Qe s4 (by simp) (by omega)) rfl) (Yi (Zbq (Xf _ (by simp; omega)) rfl) ?_);exact hK _ ((a3.setNew (by omega) _).setNew (by omega) _)
theorem YbU{σ:List ABlk}{rb:Nat}{b:Bk}{s:St}{sd tg fu:Int}{lv:AVal}{F:FuncId}(hr:hget σ rb=.box (rnC b s sd tg lv fu (.func (.func F) [] [])))(k n:Int){r:St×Ev×Int}(hc:PC F [bkV b,stV s,iv 0,iv k,iv n] (resV r))(hpF:Zh prog F=true){K:AVal→List ABlk→Prop}
 (hK:∀σ',Agr σ σ' []→K (resV r) σ'):g169.u VV [iv k,.bptr rb 0,iv n] σ K:=by
 rw[H3.e]; unfold g169; dsimp only;refine Qa (v:=.bptr σ.length 0) (rd:=[]) (up:=[(σ.length,.box zStC)]) rfl (Yk σ _) ?_;have a2:=Agr.app1 σ (.box zStC);have r2:=Ze [ABlk.box zStC] hr (by simp);have z2:=Zf σ (.box zStC);have l2:(σ++[ABlk.box zStC]).length=σ.length+1:=by simp
 generalize σ++[ABlk.box zStC]=τ2 at *;refine Qa (v:=.bptr τ2.length 0) (rd:=[]) (up:=[(τ2.length,.box zEvC)]) rfl (Yk τ2 _) ?_;have a3:=a2.app' (.box zEvC);have r3:=Ze [ABlk.box zEvC] r2 (by simp);have z3:=Ze [ABlk.box zEvC] z2 (by simp);have e3:=Zf τ2 (.box zEvC);have l3:(τ2++[ABlk.box zEvC]).length=τ2.length+1:=by simp
 generalize τ2++[ABlk.box zEvC]=τ3 at *;refine Za rfl (Za rfl (Za (v:=.func (.func F) [] []) (ld r3 rfl) (Za rfl (Za rfl (Za (v:=bkV b) (ld r3 rfl) (Za rfl (Za rfl (Za (v:=stV s) (ld r3 rfl) ?_))))))));refine Zc (f:=F) (ys:=[bkV b,stV s,iv 0,iv k,iv n]) hc rfl hpF rfl ?_;refine Xb rfl (Xb rfl (Xb rfl ?_));refine Zd (stv z3 rfl rfl rfl) (Qi _ (by omega)) ?_;have e4:=Qe (x:=.box (stC r.1)) e3 (by simp) (c:=σ.length) (by omega);have s4:hget (τ3.set σ.length (.box (stC r.1))) σ.length=.box (stC r.1):=Xf _ (by omega);refine Zd (stv e4 rfl rfl rfl) (Qi _ (by simp; omega)) (Yn (by have hne:τ2.length≠σ.length:=(by omega); simp[Xl,Zt,Qn,QD,apart2,disj,List.range,List.range.loop,hne,hne.symm]) ?_);refine Yi (Zbq (Qe s4 (by simp) (by omega)) rfl) (Yi (Zbq (Xf _ (by simp; omega)) rfl) ?_);exact hK _ ((a3.setNew (by omega) _).setNew (by omega) _)
theorem Ydg{σ:List ABlk}{rb:Nat}{b:Bk}{s:St}{sd tg fu:Int}{mv lv:AVal}{l:List Ev}(hr:hget σ rb=.box (rnC b s sd tg lv fu mv))(hl:LV rb l lv σ)(hn:l.length≤1000000000)(h01:sd=0∨sd=1)
 (hf:bkFit b=true)(hsm:Yj b.cards)(hs:StLe 2000000 s)(hm:mayR (bkR b).1 b s true=true)(x:Ef)(n:Int){K:AVal→List ABlk→Prop}(hK:∀v σ',Dn rb b sd tg fu l lv σ (hurtE b s sd tg x.op x.who n) v σ'→K v σ'):g33.u VV [.bptr rb 0,.agg (efC x),iv n] σ K:=by
 have hrb:=Xi hr (by simp);have f0:Fr rb lv lv σ (σ++[ABlk.box (efC x)]):=Fr.app _ (λk n e=>hl.lt e);have r1:=Ze [ABlk.box (efC x)] hr (by simp);have l1:LV rb l lv (σ++[ABlk.box (efC x)]):=hl.old (λk hk _=>Ym _ hk);have n1:=Zf σ (.box (efC x));have hrb1:rb<(σ++[ABlk.box (efC x)]).length:=by simp; omega
 have hne:σ.length≠rb:=by omega
 have hs9:StLe 1000000000 s:=⟨by have:=hs.attack; omega,⟨by have:=hs.s0.deck; omega,by have:=hs.s0.hand; omega,by have:=hs.s0.grave; omega,by have:=hs.s0.units; omega,by have:=hs.s0.told; omega⟩,⟨by have:=hs.s1.deck; omega,by have:=hs.s1.hand; omega,by have:=hs.s1.grave; omega,by have:=hs.s1.units; omega,by have:=hs.s1.told; omega⟩⟩;rw[H3.e]; unfold g33; dsimp only;refine Qa (Zaa _ _) (Yk σ _) (Za rfl (Za rfl ?_));generalize σ++[ABlk.box (efC x)]=τ at *;refine Qa (stv (row':=rnC b s sd tg lv fu (.func (.func 47) [] [])) r1 rfl rfl rfl) (Qi _ hrb1) ?_;refine Za rfl (Za (ld (Qe n1 (by simp) hne.symm) (efLd0 x)) (Za (Yf ..) (Xj λk' ek=>?_)));have hR:∀(F:FuncId) (υ:List ABlk),(∀id k n,k=0∨k=1→PC F [bkV b,stV s,iv id,iv k,iv n] (resV (mvR x.op b s id k n)))→Zh prog F=true→Fr rb lv lv σ υ→hget υ rb=.box (rnC b s sd tg lv fu (.func (.func F) [] []))→hget υ σ.length=.box (efC x)→LV rb l lv υ→k' [] υ:=by
  intro F υ hc hpF hfr hru hnu hlu;subst ek;have stay:hurtE b s sd tg x.op x.who n=(0,s,[])→K (iv 0) υ:=λe=>hK _ _ ⟨lv,_,hfr,by rw[e]; exact hru,by rw[e],λ_=>by rw[e]; simpa using hlu⟩;refine Za rfl (Za (ld hnu (efLd1 x)) ?_);refine Xg hP (f:=49) rfl g49.ok rfl (Zdq hru h01 hs9 x.who ?_);have hok:=XcY (s:=s) (tg:=tg) (who:=x.who) h01;unfold XcL;have last:∀(id k:Int) (υ2:List ABlk),whoR s sd tg x.who=(id,k,true)→0≤n→Agr υ υ2 [] →
    VV.rd (Zn 0 [resV (mvR x.op b s id k n)] υ2) λt40=>
    VV.rd (Zn 1 [resV (mvR x.op b s id k n)] υ2) λt41=>
    VV.rd (Zn 2 [resV (mvR x.op b s id k n)] υ2) λt42=>
    VV.wr (Zx zStC [] υ2) υ2 λt9 σ=>
    VV.wr (Zx zEvC [] σ) σ λt10 σ=>
    VV.wr (Yo 23 [t9,t40] σ) σ λ_ σ=>
    VV.wr (Yo 7 [t10,t41] σ) σ λ_ σ=>
    VV.rd (Qm .neq false [t42,(.int .i64 0)] σ) λt44=>
    VV.test t44 (K t42 σ) (
    VV.rd (Zk true 23 [t9] σ) λt47=>
    VV.rd (Qg [.bptr rb 0] σ) λt48=>
    VV.rd (Qc 2 [t48] σ) λt49=>
    VV.wr (Yo 23 [t49,t47] σ) σ λ_ σ=>
    VV.rd (Zk true 7 [t10] σ) λt51=>
    VV.call (.call 50) [.bptr rb 0,t51] σ λt52 σ=>K (.int .i64 0) σ):=by
   intro id k υ2 hw hn0 ha;have he:hurtE b s sd tg x.op x.who n=if (mvR x.op b s id k n).2.2=0 then (0,(mvR x.op b s id k n).1,[(mvR x.op b s id k n).2.1]) else ((mvR x.op b s id k n).2.2,s,[]):=by
    rw[hurtE,hw,if_pos ⟨rfl,hn0⟩]
   generalize mvR x.op b s id k n=r at *;have hru2:=ha.get hru (by simp) (by simp);have hlu2:LV rb l lv υ2:=hlu.old (λk hk _=>ha.2 k hk (by simp));have hfr2:Fr rb lv lv σ υ2:=hfr.trans (ha.lift rb);refine Za rfl (Za rfl (Za rfl ?_));refine Qa (v:=.bptr υ2.length 0) (rd:=[]) (up:=[(υ2.length,.box zStC)]) rfl (Yk υ2 _) ?_;have a3:=Agr.app1 υ2 (.box zStC);have z3:=Zf υ2 (.box zStC);have l3:(υ2++[ABlk.box zStC]).length=υ2.length+1:=by simp
   generalize υ2++[ABlk.box zStC]=υ3 at *;refine Qa (v:=.bptr υ3.length 0) (rd:=[]) (up:=[(υ3.length,.box zEvC)]) rfl (Yk υ3 _) ?_;have a4:=a3.app' (.box zEvC);have z4:=Ze [ABlk.box zEvC] z3 (by simp);have e4:=Zf υ3 (.box zEvC);have l4:(υ3++[ABlk.box zEvC]).length=υ3.length+1:=by simp
   generalize υ3++[ABlk.box zEvC]=υ4 at *;refine Qa (stv z4 rfl rfl rfl) (Qi _ (by omega)) ?_;have a5:=a4.setNew (b:=υ2.length) (by omega) (.box (stC r.1));have e5:=Qe (x:=.box (stC r.1)) e4 (by simp) (c:=υ2.length) (by omega);have s5:hget (υ4.set υ2.length (.box (stC r.1))) υ2.length=.box (stC r.1):=Xf _ (by omega);have l5:(υ4.set υ2.length (ABlk.box (stC r.1))).length=υ4.length:=by simp
   generalize υ4.set υ2.length (ABlk.box (stC r.1))=υ5 at *;refine Qa (stv e5 rfl rfl rfl) (Qi _ (by omega)) ?_;have a6:=a5.setNew (b:=υ3.length) (by omega) (.box (evC r.2.1));have s6:=Qe (x:=.box (evC r.2.1)) s5 (by simp) (c:=υ3.length) (by omega);have e6:hget (υ5.set υ3.length (.box (evC r.2.1))) υ3.length=.box (evC r.2.1):=Xf _ (by omega);have l6:(υ5.set υ3.length (ABlk.box (evC r.2.1))).length=υ5.length:=by simp
   generalize υ5.set υ3.length (ABlk.box (evC r.2.1))=υ6 at *;have hru6:=a6.get hru2 (by simp) (by simp);have hlu6:LV rb l lv υ6:=hlu2.old (λk hk _=>a6.2 k hk (by simp));have hfr6:Fr rb lv lv σ υ6:=hfr2.trans (a6.lift rb);have hrlt2:=Xi hru2 (by simp);refine Za (XS ..) (Zb (λh=>?_) (λh=>?_))
   ·have h:r.2.2≠0:=by simpa using h
    rw[if_neg h] at he;exact hK _ _ ⟨lv,_,hfr6,by rw[he]; exact hru6,by rw[he],λq=>by rw[he] at q; exact(h q).elim⟩
   ·have h:r.2.2=0:=by simpa using h
    rw[if_pos h] at he;refine Za (v:=stV r.1) (ld s6 rfl) (Za rfl (Za rfl (Qa (stv (row':=rnC b r.1 sd tg lv fu (.func (.func F) [] [])) hru6 rfl rfl rfl) (Qi _ (Xi hru6 (by simp))) (Za (v:=evV r.2.1) (ld (Qe e6 (by simp) (by omega)) rfl) ?_))));refine Xg hP (f:=50) rfl g50.ok rfl ?_;refine Qa4 (Xf _ (Xi hru6 (by simp))) (hlu6.old (λk hk hkr=>Xd _ hk hkr)) hn r.2.1 _ (.inl rfl) (λσ' lv' q1 q2 q3=>?_);exact hK _ _ ⟨lv',_,(hfr6.trans (Fr.set lv _)).trans q1,by rw[he]; exact q2,by rw[he],λ_=>by rw[he]; exact q3⟩
  by_cases hq:(whoR s sd tg x.who).2.2=true
  ·obtain⟨hk,hid⟩:=hok hq;rw[if_pos hq];have hw:whoR s sd tg x.who=((whoR s sd tg x.who).1,(whoR s sd tg x.who).2.1,true):=by rw[←hq]
   have hneg:n<0→hurtE b s sd tg x.op x.who n=(0,s,[]):=λh=>by rw[hurtE,if_neg (by omega)]
   generalize (whoR s sd tg x.who).1=id at *;generalize (whoR s sd tg x.who).2.1=k at *;by_cases hi:0<id
   ·rw[if_pos hi];refine Za rfl (Za rfl (Za rfl (Za rfl (Ya (Za rfl (Ya (Za rfl (Za rfl (Zb (λh=>?_) (λh=>?_))))))))))
    ·exact stay (hneg (by simpa using h))
    ·have h:¬n<0:=by simpa using h
     refine Xg hP (f:=168) (ys:=[.agg [iv id,iv k],.bptr rb 0,iv n]) rfl g168.ok rfl ?_;exact YcY hru id k n (hc id k n hk) hpF (λυ2 ha=>last id k υ2 hw (by omega) ha)
   ·rw[if_neg hi];have:id=0:=by omega
    subst this;refine Za rfl (Za rfl (Za rfl (Za rfl (Ya (Za rfl (Ya (Za rfl (Za rfl (Zb (λh=>?_) (λh=>?_))))))))))
    ·exact stay (hneg (by simpa using h))
    ·have h:¬n<0:=by simpa using h
     refine Xg hP (f:=169) (ys:=[iv k,.bptr rb 0,iv n]) rfl g169.ok rfl ?_;exact YbU hru k n (hc 0 k n hk) hpF (λυ2 ha=>last 0 k υ2 hw (by omega) ha)
  ·rw[if_neg hq];refine Za rfl (Za rfl (Za rfl (Za rfl (Xa rfl (Xa rfl (Za rfl (Yd ?_)))))));exact stay (by rw[hurtE,if_neg (by simp[hq])])
 refine Zb (λh=>?_) (λh=>?_)
 ·have h:x.op=1:=by simpa using h
  have r2:hget (τ.set rb (.box (rnC b s sd tg lv fu (.func (.func 47) [] [])))) rb=.box (rnC b s sd tg lv fu (.func (.func 47) [] [])):=Xf _ hrb1;refine Za rfl (Za rfl (Qa (stv (row':=rnC b s sd tg lv fu (.func (.func 48) [] [])) r2 rfl rfl rfl) (Qi _ (by simpa using hrb1)) ?_));rw[List.set_set];refine hR _ _ (λid k n hk=>?_) g48.ok.plain (f0.trans (Fr.set lv _)) (Xf _ hrb1) (Qe n1 (by simp) hne.symm) (l1.old (λk hk hkr=>Xd _ hk hkr));rw[mvR,if_pos h]; exact c26 b hf hsm s hs hm id k n hk
 ·have h:x.op≠1:=by simpa using h
  refine hR _ _ (λid k n hk=>?_) g47.ok.plain (f0.trans (Fr.set lv _)) (Xf _ hrb1) (Qe n1 (by simp) hne.symm) (l1.old (λk hk hkr=>Xd _ hk hkr));rw[mvR,if_neg h]; exact c22 b hf hsm s hs hm id k n hk
end Go.Ah.Tz
end
section
namespace Go.Ah.Tz
open Go.Proofs.Tryz (prog)
set_option maxRecDepth 100000
structure OkS (b:Bk) (N C:Nat) (s:St):Prop where
 may:MayP b s
 told:TB N s
 cards:Zp s≤C
theorem XcK{b:Bk}{s:St}(h:MayP b s):StLe 2000000 s:=by
 obtain⟨hd,h0,h1,_,ha⟩:=h;have side:∀x:Sd,SideP b x→SdLe 2000000 x:=by
  intro x k;have k1:=(Xo.1 k.deck).1;have k2:=(Xo.1 k.hand).1;have k3:=(Xo.1 k.grave).1;have k4:=(Xo.1 k.told).1;have k5:=k.units;exact⟨by omega,by omega,by omega,by omega,by omega⟩
 refine⟨?_,side _ h0,side _ h1⟩;by_cases hp:s.phase=1
 ·have:=(ha.2 hp).2.1; omega
 ·rw[ha.1 hp]; simp
theorem OkS.le{b:Bk}{N C:Nat}{s:St}(h:OkS b N C s):StLe 2000000 s:=XcK h.may
theorem OkS.le9{b:Bk}{N C:Nat}{s:St}(h:OkS b N C s):StLe 1000000000 s:=by
 have hs:=h.le;exact⟨by have:=hs.attack; omega,⟨by have:=hs.s0.deck; omega,by have:=hs.s0.hand; omega,by have:=hs.s0.grave; omega,by have:=hs.s0.units; omega,by have:=hs.s0.told; omega⟩,⟨by have:=hs.s1.deck; omega,by have:=hs.s1.hand; omega,by have:=hs.s1.grave; omega,by have:=hs.s1.units; omega,by have:=hs.s1.told; omega⟩⟩
theorem OkS.mono{b:Bk}{N N' C C':Nat}{s:St}(h:OkS b N C s)(h1:N≤N')(h2:C≤C'):OkS b N' C' s:=⟨h.may,⟨Nat.le_trans h.told.1 h1,Nat.le_trans h.told.2 h1⟩,by have:=h.cards; omega⟩
theorem OkS.draw{b:Bk}{N C:Nat}{s:St}(h:OkS b N C s)(hN:N<1000000)(hC:C<1000000){k:Int}(h01:k=0∨k=1)(e:(drawF s k).2.2=0):OkS b (N+1) C (drawF s k).1:=by
 obtain⟨hM,⟨t0,t1⟩,hc⟩:=h;have hg:s.s0.grave.length<1000000∧s.s1.grave.length<1000000:=by unfold Zp at hc; omega
 rcases h01 with rfl|rfl
 ·obtain⟨k1,k2⟩:=YbQ hM e hg.1 (by omega) (by omega);refine⟨k1,?_,by rw[k2]; exact hc⟩;rcases ZaX s e with ⟨_,q⟩|⟨c,l,_,q⟩|⟨c,l,_,_,q⟩<;>rw[q]<;>refine⟨?_,?_⟩<;>simp<;>omega
 ·obtain⟨k1,k2⟩:=XbQ hM e hg.2 (by omega) (by omega);refine⟨k1,?_,by rw[k2]; exact hc⟩;rcases YaX s e with ⟨_,q⟩|⟨c,l,_,q⟩|⟨c,l,_,_,q⟩<;>rw[q]<;>refine⟨?_,?_⟩<;>simp<;>omega
def ZA(k:Int):Nat→St→Int×St×List Ev
 |0,s=>(0,s,[])
 |j+1,s=>if (drawF s k).2.2=0 then ((ZA k j (drawF s k).1).1,(ZA k j (drawF s k).1).2.1,(drawF s k).2.1::(ZA k j (drawF s k).1).2.2) else ((drawF s k).2.2,s,[])
def drawE(s:St)(k n:Int):Int×St×List Ev:=
 if (ZA k (min (max n 0) 60).toNat s).1=0 then ZA k (min (max n 0) 60).toNat s else ((ZA k (min (max n 0) 60).toNat s).1,s,[])
theorem Ybz{b:Bk}{C:Nat}(hC:C<1000000){k:Int}(h01:k=0∨k=1):∀(j:Nat) {N:Nat} {s:St},OkS b N C s→N+j≤1000000→OkS b (N+j) C (ZA k j s).2.1
 |0,N,s,h,_=>h
 |j+1,N,s,h,hN=>by
  unfold ZA;split
  ·rename_i e;have:=Ybz hC h01 j (h.draw (by omega) hC h01 e) (by omega);rw[show N+(j+1)=N+1+j from by omega]; exact this
  ·exact h.mono (by omega) (Nat.le_refl _)
theorem LV.ne_box{rb:Nat}{l:List Ev}{lv:AVal}{σ:List ABlk}(h:LV rb l lv σ){k:Nat}{row:List AVal}(hk:hget σ k=.box row)(n:Nat):lv≠.sl k 0 n false:=by
 rcases h with ⟨_,h⟩|⟨_,c,rows,_,h,hc,_⟩
 ·rw[h]; intro e; cases e
 ·rw[h]; intro e; cases e;rw[hk] at hc; cases hc
theorem Fr.back{rb:Nat}{lv lv':AVal}{σ τ:List ABlk}(h:Fr rb lv lv' σ τ):Fr rb lv lv σ τ:=⟨h.len,h.keep,λk n e=>.inr ⟨n,e⟩⟩
theorem Fr.get{rb:Nat}{lv lv':AVal}{σ τ:List ABlk}(h:Fr rb lv lv' σ τ){l:List Ev}(hl:LV rb l lv σ){k:Nat}{row:List AVal}(hk:hget σ k=.box row)(hr:k≠rb):hget τ k=.box row:=by
 rw[h.keep k (Xi hk (by simp)) hr (hl.ne_box hk)]; exact hk
def Zad(b:Bk)(s:St)(sd:Int)(name:Tx):Int×St×List Ev:=
 if XO b s sd (fndI 0 b.cards name).1=true then (0,s,[]) else (0,QA s sd (fndI 0 b.cards name).1,[⟨2,sd,(fndI 0 b.cards name).1,s.next,0,0,[]⟩])
theorem OkS.summon{b:Bk}{N C:Nat}{s:St}(h:OkS b N C s){sd:Int}(h01:sd=0∨sd=1)(name:Tx):OkS b N (C+1) (Zad b s sd name).2.1:=by
 unfold Zad;split
 ·exact h.mono (Nat.le_refl _) (by omega)
 ·rename_i e;obtain⟨hM,ht,hc⟩:=h;rcases h01 with rfl|rfl
  ·obtain⟨k1,k2⟩:=ZbA hM (by simpa using e);exact⟨k1,ht,by rw[k2]; omega⟩
  ·obtain⟨k1,k2⟩:=YbA hM (by simpa using e);exact⟨k1,ht,by rw[k2]; omega⟩
attribute [local irreducible] Ans.rd Ans.pu Ans.wr Ans.dr Ans.gr Ans.gw Ans.gl Ans.gd Ans.opt joinK W
set_option maxHeartbeats 4000000
theorem Bor.junk{h0:Hp}{rd:List Nat}{x:AVal}:Bor h0 rd x .junk:=λ_ _ _ _ _ _ _ _ _ _ v _=>.junk _ v
theorem BorL.ro_app{h0:Hp}{rd:List Nat}{zs ws:List AVal}(h:BorL h0 rd zs ws):∀ {l:List AVal},roL l=true→BorL h0 rd (l++zs) (l++ws)
 |[],_=>h
 |x::l,hl=>by
  simp only[roL,Bool.and_eq_true] at hl;exact BorL.cons (Bor.ro hl.1) (BorL.ro_app h hl.2)
theorem c404(b:Bk)(s:St)(sd tg fu who:Int)(h01:sd=0∨sd=1):PC 52 [.rptr (rnC b s sd tg .junk fu .junk) 0,iv8 who] (iv (whoS sd who)):=by
 refine Qb hP g52.ok rfl rfl ?_;rw[H2.e]; unfold g52; dsimp only;refine Za (Yf ..) (Zb (λh=>?_) (λh=>?_))
 ·have h:who=1:=by simpa using h
  refine Za rfl (Za rfl (Za rfl (Za (v:=iv sd) (ldr rfl) (Za (ZaD ..) ?_))));rw[IntWalk.i64_in _ (by omega),whoS,if_pos h]
 ·have h:who≠1:=by simpa using h
  refine Za rfl (Za rfl (Za rfl (Za (v:=iv sd) (ldr rfl) ?_)));rw[whoS,if_neg h]
theorem Xdr{σ:List ABlk}{rb:Nat}{b:Bk}{s:St}{sd tg fu:Int}{mv lv:AVal}(hr:hget σ rb=.box (rnC b s sd tg lv fu mv))(who:Int):BorL (hp σ) [rb] [.bptr rb 0,iv8 who] [.rptr (rnC b s sd tg .junk fu .junk) 0,iv8 who]:=by
 refine .cons (Bor.box (YJ hr) (by simp) ?_) (.cons (Bor.ro rfl) .nil);refine BorL.ro_app (l:=bkC b) (BorL.ro_app (l:=stC s) ?_ rfl) rfl;exact .cons (Bor.ro rfl) <| .cons (Bor.ro rfl) <| .cons Bor.junk <| .cons (Bor.ro rfl) <| .cons Bor.junk .nil
theorem YdA{σ:List ABlk}{rb:Nat}{b:Bk}{s:St}{sd tg fu:Int}{mv lv:AVal}{l:List Ev}(hr:hget σ rb=.box (rnC b s sd tg lv fu mv))(hl:LV rb l lv σ)(hn:l.length+60≤1000000000)(h01:sd=0∨sd=1)
 (hf:bkFit b=true)(hsm:Yj b.cards)(hbk:(bkR b).1=0){N C:Nat}(hok:OkS b N C s)(hN:N+60≤1000000)(hC:C<1000000)(x:Ef)(n:Int){K:AVal→List ABlk→Prop}(hK:∀v σ',Dn rb b sd tg fu l lv σ (drawE s (whoS sd x.who) n) v σ'→K v σ'):g34.u VV [.bptr rb 0,.agg (efC x),iv n] σ K:=by
 have hrb:=Xi hr (by simp);have a0:=Agr.app1 σ (.box (efC x));have r0:=Ze [ABlk.box (efC x)] hr (by simp);have n0:=Zf σ (.box (efC x));have len0:(σ++[ABlk.box (efC x)]).length=σ.length+1:=by simp
 have hne:σ.length≠rb:=by omega
 rw[H3.e]; unfold g34; dsimp only;refine Qa (Zaa _ _) (Yk σ _) ?_;generalize σ++[ABlk.box (efC x)]=τ0 at *;refine Xb rfl (Xb rfl (Zd (v:=stV s) (ld r0 rfl) (Yg _) (Xb rfl (Xb rfl (Zd (v:=lv) (ld r0 rfl) (Yg _) ?_)))));refine Zd (v:=.bptr τ0.length 0) (rd:=[]) (up:=[(τ0.length,.box zStC)]) rfl (Yk τ0 _) ?_;have a1:=a0.app' (.box zStC);have r1:=Ze [ABlk.box zStC] r0 (by simp);have n1:=Ze [ABlk.box zStC] n0 (by simp);have z1:=Zf τ0 (.box zStC);have len1:(τ0++[ABlk.box zStC]).length=τ0.length+1:=by simp
 generalize τ0++[ABlk.box zStC]=τ1 at *;have hnt:τ0.length≠rb:=by omega
 refine Zd (stv z1 rfl rfl rfl) (Qi _ (by omega)) (Yn (by simp[Xl,Zt,Qn,QD,apart2,disj,List.range,List.range.loop,hnt,hnt.symm]) ?_);have a2:=a1.setNew (b:=τ0.length) (by omega) (.box (stC s));have r2:=Qe (x:=.box (stC s)) r1 (by simp) hnt;have n2:=Qe (x:=.box (stC s)) n1 (by simp) (c:=τ0.length) (by omega);have s2:hget (τ1.set τ0.length (.box (stC s))) τ0.length=.box (stC s):=Xf _ (by omega);have len2:(τ1.set τ0.length (ABlk.box (stC s))).length=τ1.length:=by simp
 generalize τ1.set τ0.length (ABlk.box (stC s))=τ2 at *;obtain⟨j,hj,hj60,hjn⟩:∃j:Nat,min (max n 0) 60=j∧j≤60∧(min (max n 0) 60).toNat=j:=⟨(min (max n 0) 60).toNat,by omega,by omega,rfl⟩;refine Za (Qad ..) (Za (XU ..) ?_);rw[hj];unfold drawE at hK;rw[hjn] at hK;have hk:=Za8 h01 x.who;generalize hkk:whoS sd x.who=k at *;have hl2:LV rb l lv τ2:=hl.old (λk hk _=>a2.2 k hk (by simp));refine Xn (ι:=Nat) (λi vs τ=>∃t evs lvi,vs=[iv i]∧i≤j∧ZA k j s=((ZA k (j-i) t).1,(ZA k (j-i) t).2.1,evs++(ZA k (j-i) t).2.2)∧evs.length=i∧OkS b (N+i) C t∧Fr rb lv lvi σ τ∧hget τ rb=.box (rnC b t sd tg lvi fu mv)∧LV rb (l++evs) lvi τ∧hget τ τ0.length=.box (stC s)∧hget τ σ.length=.box (efC x))
  (λi=>j-i) 0 ⟨s,[],lv,rfl,by omega,rfl,rfl,hok,a2.lift rb,r2,by simpa using hl2,s2,n2⟩ ?_
 rintro i vs τ again ⟨t,evs,lvi,rfl,hi,hgo,hev,ht,hfr,hrt,hlt,hst,hnt0⟩ hag;have hrlt:=Xi hrt (by simp);have hslt:=Xi hst (by simp);have hnlt:=Xi hnt0 (by simp);refine Za rfl (Zb (λh=>?_) (λh=>?_))
 ·have h:i<j:=by simpa using h
  refine Xb rfl (Xb rfl (Zd (v:=bkV b) (ld hrt rfl) (Yg _) (Xb rfl (Xb rfl (Zd (v:=stV t) (ld hrt rfl) (Yg _) (Xb rfl (Zd (ld hnt0 (efLd1 x)) (Yg _) ?_)))))));refine QX (rd:=[rb]) (c404 b t sd tg fu x.who h01) rfl g52.ok.plain (Xdr hrt x.who) rfl ?_;rw[hkk];have c43:PC 51 [bkV b,stV t,iv k] (resV (drawF t k)):=by
   rcases hk with rfl|rfl
   ·exact c18_0 b hf hsm t ht.le (YK.2 ⟨hbk,ht.may⟩)
   ·exact c18_1 b hf hsm t ht.le (YK.2 ⟨hbk,ht.may⟩)
  refine Xe c43 rfl g51.ok.plain rfl (Xb rfl (Xb rfl (Xb rfl ?_)));refine Zd (v:=.bptr τ.length 0) (rd:=[]) (up:=[(τ.length,.box zStC)]) rfl (Yk τ _) ?_;have b1:=Agr.app1 τ (.box zStC);have z3:=Zf τ (.box zStC);have len3:(τ++[ABlk.box zStC]).length=τ.length+1:=by simp
  generalize τ++[ABlk.box zStC]=τ3 at *;refine Zd (v:=.bptr τ3.length 0) (rd:=[]) (up:=[(τ3.length,.box zEvC)]) rfl (Yk τ3 _) ?_;have b2:=b1.app' (.box zEvC);have z4:=Ze [ABlk.box zEvC] z3 (by simp);have e4:=Zf τ3 (.box zEvC);have len4:(τ3++[ABlk.box zEvC]).length=τ3.length+1:=by simp
  generalize τ3++[ABlk.box zEvC]=τ4 at *;refine Zd (stv z4 rfl rfl rfl) (Qi _ (by omega)) ?_;have b3:=b2.setNew (b:=τ.length) (by omega) (.box (stC (drawF t k).1));have s5:hget (τ4.set τ.length (.box (stC (drawF t k).1))) τ.length=.box (stC (drawF t k).1):=Xf _ (by omega);have e5:=Qe (x:=.box (stC (drawF t k).1)) e4 (by simp) (c:=τ.length) (by omega);have len5:(τ4.set τ.length (ABlk.box (stC (drawF t k).1))).length=τ4.length:=by simp
  generalize τ4.set τ.length (ABlk.box (stC (drawF t k).1))=τ5 at *;refine Zd (stv e5 rfl rfl rfl) (Qi _ (by omega)) ?_;have b4:=b3.setNew (b:=τ3.length) (by omega) (.box (evC (drawF t k).2.1));have s6:=Qe (x:=.box (evC (drawF t k).2.1)) s5 (by simp) (c:=τ3.length) (by omega);have e6:hget (τ5.set τ3.length (.box (evC (drawF t k).2.1))) τ3.length=.box (evC (drawF t k).2.1):=Xf _ (by omega);have len6:(τ5.set τ3.length (ABlk.box (evC (drawF t k).2.1))).length=τ5.length:=by simp
  generalize τ5.set τ3.length (ABlk.box (evC (drawF t k).2.1))=τ6 at *;have q1:τ.length≠rb:=by omega
  have q2:τ3.length≠rb:=by omega
  have q3:τ.length≠σ.length:=by omega
  have q4:τ3.length≠σ.length:=by omega
  have q5:τ3.length≠τ.length:=by omega
  refine Yn (by simp[Xl,Zt,Qn,QD,apart2,disj,List.range,List.range.loop,q1,q2,q3,q4,q5,q1.symm,q2.symm,q3.symm,q4.symm,q5.symm]) ?_;have r6:=b4.get hrt (by simp) (by simp);have st6:=b4.get hst (by simp) (by simp);have nt6:=b4.get hnt0 (by simp) (by simp);have l6:LV rb (l++evs) lvi τ6:=hlt.old (λk hk _=>b4.2 k hk (by simp));have f6:Fr rb lv lvi σ τ6:=hfr.trans (b4.lift rb);have hrl6:=Xi r6 (by simp);have hd:ZA k (j-i) t=if (drawF t k).2.2=0 then ((ZA k (j-(i+1)) (drawF t k).1).1,(ZA k (j-(i+1)) (drawF t k).1).2.1,(drawF t k).2.1::(ZA k (j-(i+1)) (drawF t k).1).2.2) else ((drawF t k).2.2,t,[]):=by
   rw[show j-i=(j-(i+1))+1 from by omega]; rfl
  refine Za (XS ..) (Zb (λh2=>?_) (λh2=>?_))
  ·have h2:(drawF t k).2.2≠0:=by simpa using h2
   rw[if_neg h2] at hd;have hfin:(ZA k j s).1=(drawF t k).2.2:=by rw[hgo,hd]
   refine Za (v:=stV s) (ld st6 rfl) (Za rfl (Za rfl (Qa (stv (row':=rnC b s sd tg lvi fu mv) r6 rfl rfl rfl) (Qi _ hrl6) (Za rfl (Za rfl ?_)))));have r7:hget (τ6.set rb (.box (rnC b s sd tg lvi fu mv))) rb=.box (rnC b s sd tg lvi fu mv):=Xf _ hrl6;have hlc:∃cs,cellsOf lv=some cs∧cs=[lv]:=by
    rcases hl with ⟨_,e⟩|⟨_,c,rows,_,e,_,_⟩<;>rw[e]<;>exact⟨_,rfl,rfl⟩
   obtain⟨cs,hcs,rfl⟩:=hlc;refine Qa (stv (row':=rnC b s sd tg lv fu mv) r7 hcs rfl rfl) (Qi _ (by simpa using hrl6)) ?_;rw[List.set_set];exact hK _ _ ⟨lv,mv,(f6.back).trans (Fr.set lv _),by rw[hfin,if_neg h2]; exact Xf _ hrl6,by rw[hfin,if_neg h2],λq=>by rw[hfin,if_neg h2] at q; exact(h2 q).elim⟩
  ·have h2:(drawF t k).2.2=0:=by simpa using h2
   rw[if_pos h2] at hd;refine Za (v:=stV (drawF t k).1) (ld s6 rfl) (Za rfl (Za rfl (Qa (stv (row':=rnC b (drawF t k).1 sd tg lvi fu mv) r6 rfl rfl rfl) (Qi _ hrl6) (Za (v:=evV (drawF t k).2.1) (ld (Qe e6 (by simp) (by omega)) rfl) ?_))));refine Xg hP (f:=50) rfl g50.ok rfl ?_;have l7:LV rb (l++evs) lvi (τ6.set rb (.box (rnC b (drawF t k).1 sd tg lvi fu mv))):=l6.old (λk hk hkr=>Xd _ hk hkr);refine Qa4 (Xf _ hrl6) l7 (by simp[hev]; omega) (drawF t k).2.1 _ (.inl rfl) (λσ' lv' p1 p2 p3=>?_);refine Za (Zl ..) ?_;rw[Zg (n:=i) (by omega)];refine hag (i+1) _ _ (by omega) ⟨(drawF t k).1,evs++[(drawF t k).2.1],lv',rfl,by omega,by rw[hgo,hd]; simp,by simp[hev],?_,(f6.trans (Fr.set lvi _)).trans p1,p2,by simpa using p3,?_,?_⟩
   ·exact ht.draw (by omega) hC hk h2
   ·exact p1.get l7 (Qe st6 (by simp) hnt.symm) hnt
   ·exact p1.get l7 (Qe nt6 (by simp) hne.symm) hne
 ·have h:i=j:=by simp at h; omega
  subst h;rw[Nat.sub_self] at hgo;have hgo:ZA k i s=(0,t,evs):=by rw[hgo]; simp[ZA]
  exact hK _ _ ⟨lvi,mv,hfr,by rw[hgo]; exact hrt,by rw[hgo]; rfl,λ_=>by rw[hgo]; exact hlt⟩
end Go.Ah.Tz
end
section
namespace Go.Ah.Tz
open Go.Proofs.Tryz (prog)
set_option maxRecDepth 100000
attribute [local irreducible] Ans.rd Ans.pu Ans.wr Ans.dr Ans.gr Ans.gw Ans.gl Ans.gd Ans.opt joinK W
set_option maxHeartbeats 4000000
theorem YcD(b:Bk)(s:St)(k c:Int):∃st ev q,Xax b s k c=resX st ev (.bool q)∧((q=false∧XO b s k c=true)∨(q=true∧XO b s k c=false∧st=QA s k c∧ev=⟨2,k,c,s.next,0,0,[]⟩)):=by
 unfold Xax;by_cases h:XO b s k c=true
 ·rw[if_pos h]; exact⟨_,_,_,rfl,.inl ⟨rfl,h⟩⟩
 ·rw[if_neg h]; exact⟨_,_,_,rfl,.inr ⟨rfl,by simpa using h,rfl,rfl⟩⟩
theorem Zdd{σ:List ABlk}{rb:Nat}{b:Bk}{s:St}{sd tg fu:Int}{mv lv:AVal}{l:List Ev}(hr:hget σ rb=.box (rnC b s sd tg lv fu mv))(hl:LV rb l lv σ)(hn:l.length≤1000000000)(h01:sd=0∨sd=1)
 (hf:bkFit b=true)(hsm:Yj b.cards)(hbk:(bkR b).1=0){N C:Nat}(hok:OkS b N C s)(hbig:b.cards.length≤big)(x:Ef)(n:Int){K:AVal→List ABlk→Prop}(hK:∀v σ',Dn rb b sd tg fu l lv σ (Zad b s sd x.name) v σ'→K v σ'):g39.u VV [.bptr rb 0,.agg (efC x),iv n] σ K:=by
 have hrb:=Xi hr (by simp);have a0:=Agr.app1 σ (.box (efC x));have r0:=Ze [ABlk.box (efC x)] hr (by simp);have n0:=Zf σ (.box (efC x));have len0:(σ++[ABlk.box (efC x)]).length=σ.length+1:=by simp
 rw[H3.e]; unfold g39; dsimp only;refine Qa (Zaa _ _) (Yk σ _) ?_;generalize σ++[ABlk.box (efC x)]=τ at *;refine Za rfl (Za rfl (Za (v:=bkV b) (ld r0 rfl) (Za rfl (Za (v:=.str x.name) (ld n0 (by rw[Qv]; rfl)) ?_))));refine Zc (c224 b hbig x.name) rfl g55.ok.plain rfl (Za rfl (Za rfl ?_));unfold Zad at hK;generalize (fndI 0 b.cards x.name).1=c at hK ⊢;refine Xb rfl (Xb rfl (Zd (v:=bkV b) (ld r0 rfl) (Yg _) (Xb rfl (Xb rfl (Zd (v:=stV s) (ld r0 rfl) (Yg _) (Xb rfl (Xb rfl (Xb rfl (Zd (v:=iv sd) (ld r0 rfl) (Yg _) ?_)))))))));have c46:PC 56 [bkV b,stV s,iv sd,iv c] (Xax b s sd c):=by
  rcases h01 with rfl|rfl
  ·exact c21_0 b hf hsm s hok.le (YK.2 ⟨hbk,hok.may⟩) c
  ·exact c21_1 b hf hsm s hok.le (YK.2 ⟨hbk,hok.may⟩) c
 obtain⟨st,ev,q,he,hq⟩:=YcD b s sd c;rw[he] at c46;refine Xe c46 rfl g56.ok.plain rfl (Xb rfl (Xb rfl (Xb rfl ?_)));refine Zd (v:=.bptr τ.length 0) (rd:=[]) (up:=[(τ.length,.box zStC)]) rfl (Yk τ _) ?_;have b1:=a0.app' (.box zStC);have b1':=Agr.app1 τ (.box zStC);have z3:=Zf τ (.box zStC);have len3:(τ++[ABlk.box zStC]).length=τ.length+1:=by simp
 generalize τ++[ABlk.box zStC]=τ3 at *;refine Zd (v:=.bptr τ3.length 0) (rd:=[]) (up:=[(τ3.length,.box zEvC)]) rfl (Yk τ3 _) ?_;have b2:=b1.app' (.box zEvC);have b2':=b1'.app' (.box zEvC);have z4:=Ze [ABlk.box zEvC] z3 (by simp);have e4:=Zf τ3 (.box zEvC);have len4:(τ3++[ABlk.box zEvC]).length=τ3.length+1:=by simp
 generalize τ3++[ABlk.box zEvC]=τ4 at *;refine Zd (stv z4 rfl rfl rfl) (Qi _ (by omega)) ?_;have b3:=b2.setNew (b:=τ.length) (by omega) (.box (stC st));have b3':=b2'.setNew (b:=τ.length) (by omega) (.box (stC st));have s5:hget (τ4.set τ.length (.box (stC st))) τ.length=.box (stC st):=Xf _ (by omega);have e5:=Qe (x:=.box (stC st)) e4 (by simp) (c:=τ.length) (by omega);have len5:(τ4.set τ.length (ABlk.box (stC st))).length=τ4.length:=by simp
 generalize τ4.set τ.length (ABlk.box (stC st))=τ5 at *;refine Zd (stv e5 rfl rfl rfl) (Qi _ (by omega)) ?_;have b4:=b3.setNew (b:=τ3.length) (by omega) (.box (evC ev));have b4':=b3'.setNew (b:=τ3.length) (by omega) (.box (evC ev));have s6:=Qe (x:=.box (evC ev)) s5 (by simp) (c:=τ3.length) (by omega);have e6:hget (τ5.set τ3.length (.box (evC ev))) τ3.length=.box (evC ev):=Xf _ (by omega);have len6:(τ5.set τ3.length (ABlk.box (evC ev))).length=τ5.length:=by simp
 generalize τ5.set τ3.length (ABlk.box (evC ev))=τ6 at *;have q1:τ.length≠rb:=by omega
 have q2:τ3.length≠rb:=by omega
 have q3:τ.length≠σ.length:=by omega
 have q4:τ3.length≠σ.length:=by omega
 have q5:τ3.length≠τ.length:=by omega
 refine Yn (by simp[Xl,Zt,Qn,QD,apart2,disj,List.range,List.range.loop,q1,q2,q3,q4,q5,q1.symm,q2.symm,q3.symm,q4.symm,q5.symm]) ?_;have r6:=b4'.get r0 (by simp) (by simp);have l6:LV rb l lv τ6:=hl.old (λk hk _=>b4.2 k hk (by simp));have f6:Fr rb lv lv σ τ6:=b4.lift rb;have hrl6:=Xi r6 (by simp);rcases hq with ⟨rfl,hq⟩|⟨rfl,hq,rfl,rfl⟩
 ·refine Yc ?_;exact hK _ _ ⟨lv,mv,f6,by rw[if_pos hq]; exact r6,by rw[if_pos hq],λ_=>by rw[if_pos hq]; simpa using l6⟩
 ·rw[if_neg (by simp[hq])] at hK;refine Yd ?_;refine Za (v:=stV (QA s sd c)) (ld s6 rfl) (Za rfl (Za rfl (Qa (stv (row':=rnC b (QA s sd c) sd tg lv fu mv) r6 rfl rfl rfl) (Qi _ hrl6) (Za (v:=evV ⟨2,sd,c,s.next,0,0,[]⟩) (ld (Qe e6 (by simp) (by omega)) rfl) ?_))));refine Xg hP (f:=50) rfl g50.ok rfl ?_;refine Qa4 (Xf _ hrl6) (l6.old (λk hk hkr=>Xd _ hk hkr)) hn _ _ (.inl rfl) (λσ' lv' p1 p2 p3=>?_);exact hK _ _ ⟨lv',mv,(f6.trans (Fr.set lv _)).trans p1,p2,rfl,λ_=>p3⟩
end Go.Ah.Tz
end
section
namespace Go.Ah.Tz
open Go.Proofs.Tryz (prog)
set_option maxRecDepth 100000
def opE(b:Bk)(s:St)(sd tg op who:Int)(name:Tx)(n:Int):Int×St×List Ev:=
 if op=0∨op=1 then hurtE b s sd tg op who n else if op=2 then drawE s (whoS sd who) n else if op=3 then gainF s sd n
 else if op=4 then dropF s (whoS sd who) else if op=5 then lookF s sd n else if op=6 then showF s (whoS sd who) else Zad b s sd name
def usesF(op:Int):Int:=if op=5 then 0 else 1
mutual
def run1 (b:Bk) (sd tg:Int):Ef→St→Int→Int×St×Int×List Ev
 |.mk op who n name c thn els,s,fu=>
  if op=8 then (if (Zag b c&&condF b s sd tg c)=true then runs b sd tg thn s fu else runs b sd tg els s fu)
  else if fu<usesF op then (190,s,fu,[])
  else ((opE b s sd tg op who name (numF b s sd tg n)).1,(opE b s sd tg op who name (numF b s sd tg n)).2.1,
   (if (opE b s sd tg op who name (numF b s sd tg n)).1=0 then fu - usesF op else fu),(opE b s sd tg op who name (numF b s sd tg n)).2.2)
def runs (b:Bk) (sd tg:Int):List Ef→St→Int→Int×St×Int×List Ev
 |[],s,fu=>(0,s,fu,[])
 |x::l,s,fu=>
  if (run1 b sd tg x s fu).1=0 then
   ((runs b sd tg l (run1 b sd tg x s fu).2.1 (run1 b sd tg x s fu).2.2.1).1,(runs b sd tg l (run1 b sd tg x s fu).2.1 (run1 b sd tg x s fu).2.2.1).2.1,
    (runs b sd tg l (run1 b sd tg x s fu).2.1 (run1 b sd tg x s fu).2.2.1).2.2.1,(run1 b sd tg x s fu).2.2.2 ++ (runs b sd tg l (run1 b sd tg x s fu).2.1 (run1 b sd tg x s fu).2.2.1).2.2.2)
  else run1 b sd tg x s fu
end
theorem QcP(b:Bk)(sd tg:Int)(x:Ef)(s:St)(fu:Int):run1 b sd tg x s fu =
  if x.op=8 then (if (Zag b x.c&&condF b s sd tg x.c)=true then runs b sd tg x.thn s fu else runs b sd tg x.els s fu)
  else if fu<usesF x.op then (190,s,fu,[])
  else ((opE b s sd tg x.op x.who x.name (numF b s sd tg x.n)).1,(opE b s sd tg x.op x.who x.name (numF b s sd tg x.n)).2.1,
   (if (opE b s sd tg x.op x.who x.name (numF b s sd tg x.n)).1=0 then fu - usesF x.op else fu),(opE b s sd tg x.op x.who x.name (numF b s sd tg x.n)).2.2):=by
 cases x; rw[run1]; rfl
theorem XbZ{kd:Int}{fP:Int→Int×Int}{fU:Th→Int×Int}{s:St}{id k:Int}{N:Nat}(h:TB N s)(h01:k=0∨k=1)(e:(chgF kd fP fU s id k).2.2=0):TB N (chgF kd fP fU s id k).1:=by
 have z:∀(x:Int),x≠0→(zSt,zEv,x).2.2=0→False:=λx hx h=>hx h;unfold chgF at e ⊢;by_cases hid:id=0
 ·rw[if_pos hid] at e ⊢;unfold chgP at e ⊢;split at e
  ·rename_i hw;rw[if_pos hw];rcases h01 with rfl|rfl<;>exact h
  ·exact(z 171 (by decide) e).elim
 rw[if_neg hid] at e ⊢;by_cases hid2:id<0
 ·rw[if_pos hid2] at e; exact(z 4 (by decide) e).elim
 rw[if_neg hid2] at e ⊢;cases q0:fnd s.s0.units id with
 |some i=>
  rw[q0] at e;simp only at e ⊢;unfold chgU at e ⊢;split at e
  ·rename_i hw;rw[if_pos hw]; exact h
  ·exact(z 171 (by decide) e).elim
 |none=>
  rw[q0] at e;simp only at e ⊢;cases q1:fnd s.s1.units id with
  |some i=>
   rw[q1] at e;simp only at e ⊢;unfold chgU at e ⊢;split at e
   ·rename_i hw;rw[if_pos hw]; exact h
   ·exact(z 171 (by decide) e).elim
  |none=>rw[q1] at e; exact(z 4 (by decide) e).elim
theorem OkS.mv{b:Bk}{N C:Nat}{s:St}(h:OkS b N C s){op id k n:Int}(h01:k=0∨k=1)(e:(mvR op b s id k n).2.2=0):OkS b N C (mvR op b s id k n).1:=by
 unfold mvR at e ⊢;split at e
 ·rename_i q;rw[if_pos q];obtain⟨k1,k2,_⟩:=Ycl h.may h01 e;exact⟨k1,XbZ h.told h01 e,by rw[k2]; exact h.cards⟩
 ·rename_i q;rw[if_neg q];obtain⟨k1,k2,_⟩:=Qck h.may h01 e;exact⟨k1,XbZ h.told h01 e,by rw[k2]; exact h.cards⟩
theorem OkS.hurt{b:Bk}{N C:Nat}{s:St}(h:OkS b N C s){sd:Int}(h01:sd=0∨sd=1)(tg op who n:Int):OkS b N C (hurtE b s sd tg op who n).2.1:=by
 unfold hurtE;split
 ·rename_i q;split
  ·rename_i e;exact h.mv (XcY h01 q.1).1 e
  ·exact h
 ·exact h
theorem YbO{n:Nat}{l l':List Int}{most most':Int}(h:Yp n l most=true)(hl:∀c∈l',c∈l)(hm:(l'.length:Int)≤most'):Yp n l' most'=true:=by
 rw[Xo] at h ⊢;exact⟨hm,λc hc=>h.2 c (hl c hc)⟩
theorem ZbO{n:Nat}{l m:List Int}{most most':Int}(h:Yp n l most=true)(k:Yp n m most'=true)(hm:((l.length+m.length:Nat):Int)≤most):Yp n (l++m) most=true:=by
 rw[Xo] at h k ⊢;refine⟨by simpa using hm,λc hc=>?_⟩;rcases List.mem_append.1 hc with hc|hc
 ·exact h.2 c hc
 ·exact k.2 c hc
theorem SideP.tell{b:Bk}{x:Sd}(h:SideP b x){m:List Int}{most:Int}(hm:Yp b.cards.length m most=true)(hl:x.told.length+m.length≤1000000):SideP b { x with told:=x.told++m }:=
 ⟨h.life,h.mana,h.most,h.deck,h.hand,h.grave,ZbO h.told hm (by omega),h.units⟩
theorem OkS.tell1{b:Bk}{N C:Nat}{s:St}(h:OkS b N C s){m:List Int}{most:Int}(hm:Yp b.cards.length m most=true)(hl:N+m.length≤1000000){i:Int}(h01:i=0∨i=1):OkS b (N+m.length) C (Tz.tell1 m s i):=by
 obtain⟨hM,ht,hc⟩:=h;have ht':=ht.tell m h01;obtain⟨t0,t1⟩:=ht;rcases h01 with rfl|rfl
 ·exact⟨⟨hM.hd,hM.s0.tell hm (by omega),hM.s1,hM.un,hM.at_⟩,ht',hc⟩
 ·exact⟨⟨hM.hd,hM.s0,hM.s1.tell hm (by omega),hM.un,hM.at_⟩,ht',hc⟩
theorem OkS.tell01{b:Bk}{N C:Nat}{s:St}(h:OkS b N C s){m:List Int}{most:Int}(hm:Yp b.cards.length m most=true)(hl:N+(m.length+m.length)≤1000000):OkS b (N+(m.length+m.length)) C (tellS s m [0,1]):=by
 have:=(h.tell1 hm (by omega) (i:=0) (.inl rfl)).tell1 hm (by omega) (i:=1) (.inr rfl);rw[Nat.add_assoc] at this;exact this
theorem OkS.gain{b:Bk}{N C:Nat}{s:St}(h:OkS b N C s){sd:Int}(h01:sd=0∨sd=1)(n:Int):OkS b N C (gainF s sd n).2.1:=by
 unfold gainF;split
 ·exact h
 split
 ·exact h
 ·rename_i q1 q2;obtain⟨hM,ht,hc⟩:=h;rcases h01 with rfl|rfl
  ·have:=hM.s0.mana;have hw:=Yak.1 this.2;have q2:¬1000000<s.s0.mana+n:=q2;exact⟨⟨hM.hd,⟨hM.s0.life,⟨by show 0≤s.s0.mana+n; omega,Yak.2 ⟨by show -1000000≤s.s0.mana+n; omega,by show s.s0.mana+n≤1000000; omega⟩⟩,hM.s0.most,hM.s0.deck,hM.s0.hand,hM.s0.grave,hM.s0.told,hM.s0.units⟩,hM.s1,hM.un,hM.at_⟩,ht,hc⟩
  ·have:=hM.s1.mana;have hw:=Yak.1 this.2;have q2:¬1000000<s.s1.mana+n:=q2;exact⟨⟨hM.hd,hM.s0,⟨hM.s1.life,⟨by show 0≤s.s1.mana+n; omega,Yak.2 ⟨by show -1000000≤s.s1.mana+n; omega,by show s.s1.mana+n≤1000000; omega⟩⟩,hM.s1.most,hM.s1.deck,hM.s1.hand,hM.s1.grave,hM.s1.told,hM.s1.units⟩,hM.un,hM.at_⟩,ht,hc⟩
theorem OkS.drop{b:Bk}{N C:Nat}{s:St}(h:OkS b N C s)(hN:N+2≤1000000)(hC:C<1000000){i:Int}(h01:i=0∨i=1):OkS b (N+2) C (dropF s i).2.1:=by
 unfold dropF;obtain⟨hM,ht,hc⟩:=h;have hg:s.s0.grave.length<1000000∧s.s1.grave.length<1000000:=by unfold Zp at hc; omega
 rcases h01 with rfl|rfl
 ·show OkS b (N+2) C (match s.s0.hand with | []=>_|c::h=>_:Int×St×List Ev).2.1;cases hh:s.s0.hand with
  |nil=>exact OkS.mono ⟨hM,ht,hc⟩ (by omega) (Nat.le_refl _)
  |cons c r=>
   have hx:=hM.s0.hand;rw[hh] at hx;obtain⟨x1,x2⟩:=ZL hx;refine OkS.tell01 (N:=N) (m:=[c]) (most:=1) (s:=s.put 0 { s.s0 with hand:=r,grave:=s.s0.grave++[c] }) ⟨⟨hM.hd,⟨hM.s0.life,hM.s0.mana,hM.s0.most,hM.s0.deck,x1,Yr hM.s0.grave x2 (by omega),hM.s0.told,hM.s0.units⟩,hM.s1,hM.un,hM.at_⟩,ht,?_⟩ ?_ (by simpa using hN)
   ·have:Zp (s.put 0 { s.s0 with hand:=r,grave:=s.s0.grave++[c] })=Zp s:=by simp[Zp,St.put,hh]; omega
    rw[this]; exact hc
   ·rw[Xo]; simpa using x2
 ·show OkS b (N+2) C (match s.s1.hand with | []=>_|c::h=>_:Int×St×List Ev).2.1;cases hh:s.s1.hand with
  |nil=>exact OkS.mono ⟨hM,ht,hc⟩ (by omega) (Nat.le_refl _)
  |cons c r=>
   have hx:=hM.s1.hand;rw[hh] at hx;obtain⟨x1,x2⟩:=ZL hx;refine OkS.tell01 (N:=N) (m:=[c]) (most:=1) (s:=s.put 1 { s.s1 with hand:=r,grave:=s.s1.grave++[c] }) ⟨⟨hM.hd,hM.s0,⟨hM.s1.life,hM.s1.mana,hM.s1.most,hM.s1.deck,x1,Yr hM.s1.grave x2 (by omega),hM.s1.told,hM.s1.units⟩,hM.un,hM.at_⟩,ht,?_⟩ ?_ (by simpa using hN)
   ·have:Zp (s.put 1 { s.s1 with hand:=r,grave:=s.s1.grave++[c] })=Zp s:=by simp[Zp,St.put,hh]; omega
    rw[this]; exact hc
   ·rw[Xo]; simpa using x2
theorem OkS.rows{b:Bk}{N C:Nat}{s:St}(h:OkS b N C s){i:Int}(h01:i=0∨i=1):Yp b.cards.length (s.side i).deck 60=true∧Yp b.cards.length (s.side i).hand 10=true:=by
 rcases h01 with rfl|rfl
 ·exact⟨h.may.s0.deck,h.may.s0.hand⟩
 ·exact⟨h.may.s1.deck,h.may.s1.hand⟩
theorem OkS.look{b:Bk}{N C:Nat}{s:St}(h:OkS b N C s)(hN:N+60≤1000000){sd:Int}(h01:sd=0∨sd=1)(n:Int):OkS b (N+60) C (lookF s sd n).2.1:=by
 unfold lookF;have hd:=(h.rows h01).1;generalize hcs:(s.side sd).deck.take (min (max n 0) (s.side sd).deck.length).toNat=cs;have hsub:∀c∈cs,c∈(s.side sd).deck:=λc hc=>by rw[←hcs] at hc; exact List.mem_of_mem_take hc
 have hl:cs.length≤60:=by
  have:=(Xo.1 hd).1;have h2:cs.length≤(s.side sd).deck.length:=by rw[←hcs,List.length_take]; omega
  omega
 cases cs with
 |nil=>exact h.mono (by omega) (Nat.le_refl _)
 |cons c cs=>exact(h.tell1 (m:=c::cs) (YbO (most':=60) hd hsub (by omega)) (by omega) h01).mono (by omega) (Nat.le_refl _)
theorem OkS.shows{b:Bk}{N C:Nat}{s:St}(h:OkS b N C s)(hN:N+60≤1000000){i:Int}(h01:i=0∨i=1):OkS b (N+60) C (showF s i).2.1:=by
 have hd:=(h.rows h01).2;have:=(Xo.1 hd).1;exact(h.tell01 hd (by omega)).mono (by omega) (Nat.le_refl _)
theorem Ybd(k:Int):∀(j:Nat) (s:St),(ZA k j s).2.2.length≤j
 |0,s=>by simp[ZA]
 |j+1,s=>by
  unfold ZA;split
  ·have:=Ybd k j (drawF s k).1;simp; omega
  ·simp
theorem YdI{b:Bk}{N C:Nat}{s:St}(h:OkS b N C s)(hN:N+60≤1000000)(hC:C<1000000){sd:Int}(h01:sd=0∨sd=1)(tg op who:Int)(name:Tx)(n:Int) :
  OkS b (N+60) (C+1) (opE b s sd tg op who name n).2.1∧(opE b s sd tg op who name n).2.2.length≤60:=by
 have hw:=Za8 h01 who;unfold opE;split
 ·refine⟨(h.hurt h01 tg op who n).mono (by omega) (by omega),?_⟩;unfold hurtE;split
  ·split<;>simp
  ·simp
 split
 ·have hj:(min (max n 0) 60).toNat≤60:=by omega
  have:=Ybd (whoS sd who) (min (max n 0) 60).toNat s;unfold drawE;split
  ·exact⟨(Ybz hC hw _ h (by omega)).mono (by omega) (by omega),by omega⟩
  ·exact⟨h.mono (by omega) (by omega),by simp⟩
 split
 ·refine⟨(h.gain h01 n).mono (by omega) (by omega),?_⟩;unfold gainF;split
  ·simp
  ·split<;>simp
 split
 ·refine⟨(h.drop (by omega) hC hw).mono (by omega) (by omega),?_⟩;unfold dropF;split<;>simp
 split
 ·refine⟨(h.look (by omega) h01 n).mono (by omega) (by omega),?_⟩;unfold lookF;split<;>simp
 split
 ·exact⟨(h.shows (by omega) hw).mono (by omega) (by omega),by simp[showF]⟩
 ·refine⟨(h.summon h01 name).mono (by omega) (Nat.le_refl _),?_⟩;unfold Zad;split<;>simp
mutual
theorem QbU {b:Bk} {sd tg:Int} (h01:sd=0∨sd=1):∀(x:Ef) {N C:Nat} {s:St} (fu:Int),OkS b N C s→N+60*(efP x).length≤1000000→C+(efP x).length≤1000000 →
  OkS b (N+60*(efP x).length) (C+(efP x).length) (run1 b sd tg x s fu).2.1∧(run1 b sd tg x s fu).2.2.2.length≤60*(efP x).length
 |.mk op who n name c thn els,N,C,s,fu,h,hN,hC=>by
  rw[run1]
  have h1:1≤(efP (.mk op who n name c thn els)).length:=by simp[efP]
  split
  ·rename_i h8
   have hl:(efPs thn).length+(efPs els).length≤(efP (.mk op who n name c thn els)).length:=by simp[efP,h8]; omega
   split
   ·obtain⟨q1,q2⟩:=XaG h01 thn fu h (by omega) (by omega)
    exact⟨q1.mono (by omega) (by omega),by omega⟩
   ·obtain⟨q1,q2⟩:=XaG h01 els fu h (by omega) (by omega)
    exact⟨q1.mono (by omega) (by omega),by omega⟩
  split
  ·exact⟨h.mono (by omega) (by omega),by simp⟩
  ·obtain⟨q1,q2⟩:=YdI h (by omega) (by omega) h01 tg op who name (numF b s sd tg n)
   exact⟨q1.mono (by omega) (by omega),Nat.le_trans q2 (by omega)⟩
theorem XaG {b:Bk} {sd tg:Int} (h01:sd=0∨sd=1):∀(l:List Ef) {N C:Nat} {s:St} (fu:Int),OkS b N C s→N+60*(efPs l).length≤1000000→C+(efPs l).length≤1000000 →
  OkS b (N+60*(efPs l).length) (C+(efPs l).length) (runs b sd tg l s fu).2.1∧(runs b sd tg l s fu).2.2.2.length≤60*(efPs l).length
 |[],N,C,s,fu,h,hN,hC=>by rw[runs]; exact⟨h.mono (by omega) (by omega),by simp⟩
 |x::l,N,C,s,fu,h,hN,hC=>by
  rw[runs]
  have hl:(efPs (x::l)).length=(efP x).length+(efPs l).length:=by simp[efPs]
  obtain⟨q1,q2⟩:=QbU h01 x fu h (by omega) (by omega)
  split
  ·obtain⟨p1,p2⟩:=XaG h01 l (run1 b sd tg x s fu).2.2.1 q1 (by omega) (by omega)
   refine⟨p1.mono (by omega) (by omega),?_⟩
   simp only[List.length_append]; omega
  ·exact⟨q1.mono (by omega) (by omega),by omega⟩
end
end Go.Ah.Tz
end
section
namespace Go.Ah.Tz
open Go.Proofs.Tryz (prog)
set_option maxRecDepth 100000
mutual
theorem QbH (b:Bk) (sd tg:Int):∀(x:Ef) (s:St) (fu:Int),0≤fu→0≤(run1 b sd tg x s fu).2.2.1∧(run1 b sd tg x s fu).2.2.1≤fu
 |.mk op who n name c thn els,s,fu,h=>by
  rw[run1]
  split
  ·split
   ·exact Yai b sd tg thn s fu h
   ·exact Yai b sd tg els s fu h
  split
  ·exact⟨h,Int.le_refl _⟩
  ·rename_i q
   have:0≤usesF op∧usesF op≤1:=by unfold usesF; split<;>omega
   have key:∀(c:Prop) [Decidable c],0≤(if c then fu-usesF op else fu)∧(if c then fu-usesF op else fu)≤fu:=by
    intro c _
    split<;>omega
   exact key _
theorem Yai (b:Bk) (sd tg:Int):∀(l:List Ef) (s:St) (fu:Int),0≤fu→0≤(runs b sd tg l s fu).2.2.1∧(runs b sd tg l s fu).2.2.1≤fu
 |[],s,fu,h=>by rw[runs]; exact⟨h,Int.le_refl _⟩
 |x::l,s,fu,h=>by
  have h1:=QbH b sd tg x s fu h
  rw[runs]
  split
  ·have h2:=Yai b sd tg l (run1 b sd tg x s fu).2.1 (run1 b sd tg x s fu).2.2.1 h1.1
   exact⟨h2.1,Int.le_trans h2.2 h1.2⟩
  ·exact h1
end
theorem ZcI{b:Bk}{s:St}(h:MayP b s):InB b s:=by
 have go:∀x:Sd,SideP b x→∀c,c∈x.deck∨c∈x.hand→0≤c∧c.toNat<b.cards.length:=by
  intro x k c hc;have:0≤c∧c<(b.cards.length:Int):=by
   rcases hc with hc|hc
   ·exact(Xo.1 k.deck).2 c hc
   ·exact(Xo.1 k.hand).2 c hc
  omega
 intro k c hc;unfold sdK at hc;split at hc
 ·exact go _ h.s0 c hc
 ·exact go _ h.s1 c hc
theorem Zc8{n:Nm}(h:noNum n=true):nmOk true n=true∧nmW n≤200:=by
 simp only[noNum,Bool.and_eq_true,decide_eq_true_eq] at h;obtain⟨h1,h2,h3,h4⟩:=h;have h4:=List.length_eq_zero_iff.1 h4;constructor
 ·rw[YbT,h1,h2,h3,h4]; rfl
 ·have:(nmP n).length=1:=by cases n; simp[Nm.kids] at h4; simp[nmP,h4,nmPs]
  rw[YcM,this]; decide
theorem Qc5{cs:List Cd}{d:Int}{x:Ef}(h:efOk cs true d x=true)(h8:x.op≠8)(hp:(efP x).length≤200):nmOk true x.n=true∧nmW x.n≤200:=by
 rw[XaD,if_neg h8] at h;simp only[Bool.and_eq_true] at h;obtain⟨_,_,_,_,_,h,_⟩:=h;by_cases hc:cntOp x.op=true
 ·rw[if_pos hc] at h;refine⟨h,?_⟩;have:(nmP x.n).length≤(efP x).length:=by
   cases x;simp[Ef.op] at hc;simp[efP,hc,Ef.n]; omega
  rw[YcM]; omega
 ·rw[if_neg hc] at h;exact Zc8 h
theorem Xdn{cs:List Cd}{d:Int}{x:Ef}(h:efOk cs true d x=true)(h8:x.op=8):efsOk cs true (d+1) x.thn=true∧efsOk cs true (d+1) x.els=true:=by
 rw[XaD,if_pos h8] at h;simp only[Bool.and_eq_true,lstOk] at h;obtain⟨_,_,_,_,_,_,h1,h2⟩:=h;exact⟨h1.2.2,h2.2.2⟩
theorem Qbz{cs:List Cd}{t:Bool}{d:Int}:∀ {l:List Ef},efsOk cs t d l=true→∀x∈l,efOk cs t d x=true
 |a::l,h,x,hx=>by
  simp only[efsOk,Bool.and_eq_true] at h;simp only[List.mem_cons] at hx;rcases hx with rfl|hx
  ·exact h.1
  ·exact Qbz h.2 x hx
theorem n190a:(0:Int)≠190:=by decide
theorem n190b:(171:Int)≠190:=by decide
theorem n190c:(4:Int)≠190:=by decide
theorem YbZ(kd:Int)(fP:Int→Int×Int)(fU:Th→Int×Int)(s:St)(id k:Int):(chgF kd fP fU s id k).2.2≠190:=by
 unfold chgF;split
 ·unfold chgP; split<;>(first|exact n190a|exact n190b|exact n190c)
 split
 ·(first|exact n190a|exact n190b|exact n190c)
 split
 ·unfold chgU; split<;>(first|exact n190a|exact n190b|exact n190c)
 ·split
  ·unfold chgU; split<;>(first|exact n190a|exact n190b|exact n190c)
  ·(first|exact n190a|exact n190b|exact n190c)
theorem Qcz(s:St)(k:Int):(drawF s k).2.2≠190:=by
 unfold drawF;split
 ·split<;>(first|exact n190a|exact n190b|exact n190c)
 ·split<;>(first|exact n190a|exact n190b|exact n190c)
theorem QaC(k:Int):∀(j:Nat) (s:St),(ZA k j s).1≠190
 |0,s=>by show (0:Int)≠190; (first|exact n190a|exact n190b|exact n190c)
 |j+1,s=>by
  unfold ZA;split
  ·exact QaC k j _
  ·exact Qcz s k
theorem Qdq(b:Bk)(s:St)(sd tg op who:Int)(name:Tx)(n:Int):(opE b s sd tg op who name n).1≠190:=by
 unfold opE;split
 ·unfold hurtE;split
  ·split
   ·(first|exact n190a|exact n190b|exact n190c)
   ·unfold mvR;split
    ·exact YbZ _ _ _ _ _ _
    ·exact YbZ _ _ _ _ _ _
  ·(first|exact n190a|exact n190b|exact n190c)
 split
 ·unfold drawE;split
  ·exact QaC _ _ _
  ·exact QaC _ _ _
 split
 ·unfold gainF;split
  ·(first|exact n190a|exact n190b|exact n190c)
  ·split<;>(first|exact n190a|exact n190b|exact n190c)
 split
 ·unfold dropF; split<;>(first|exact n190a|exact n190b|exact n190c)
 split
 ·unfold lookF; split<;>(first|exact n190a|exact n190b|exact n190c)
 split
 ·(first|exact n190a|exact n190b|exact n190c)
 ·unfold Zad; split<;>(first|exact n190a|exact n190b|exact n190c)
def DnR(rb:Nat)(b:Bk)(sd tg:Int)(l:List Ev)(lv:AVal)(σ:List ABlk)(r:Int×St×Int×List Ev)(v:AVal)(σ':List ABlk):Prop:=
 ∃lv' mv',Fr rb lv lv' σ σ'∧hget σ' rb=.box (rnC b r.2.1 sd tg lv' r.2.2.1 mv')∧v=iv r.1∧(r.1=0∨r.1=190→LV rb (l++r.2.2.2) lv' σ')
@[reducible] def clos(rb:Nat):List AVal:=[.func (.func 33) [.bptr rb 0] [],.func (.func 33) [.bptr rb 0] [],.func (.func 34) [.bptr rb 0] [],.func (.func 35) [.bptr rb 0] [],.func (.func 36) [.bptr rb 0] [],.func (.func 37) [.bptr rb 0] [],.func (.func 38) [.bptr rb 0] [],.func (.func 39) [.bptr rb 0] []]
def RunG(b:Bk)(csx:List Cd)(sd tg:Int)(l:List Ef):Prop:=∀(σ:List ABlk) (rb:Nat) (s:St) (fu:Int) (mv lv:AVal) (evs:List Ev) (N C:Nat) (d:Int) (K:AVal→List ABlk→Prop),
 hget σ rb=.box (rnC b s sd tg lv fu mv)→LV rb evs lv σ→lsFit l=true→efsOk csx true d l=true→(efPs l).length≤200→OkS b N C s→N+60*(efPs l).length≤1000000→C+(efPs l).length≤1000000 →
 evs.length+60*(efPs l).length≤1000000→0≤fu→fu≤1000→(∀v σ',DnR rb b sd tg evs lv σ (runs b sd tg l s fu) v σ'→K v σ')→g19.u VV [.bptr rb 0,efV l] σ K
attribute [local irreducible] Ans.rd Ans.pu Ans.wr Ans.dr Ans.gr Ans.gw Ans.gl Ans.gd Ans.opt joinK W
set_option maxHeartbeats 8000000
theorem Zb9(b:Bk)(csx:List Cd)(sd tg:Int)(h01:sd=0∨sd=1)(hf:bkFit b=true)(hsm:Yj b.cards)(hbk:(bkR b).1=0)(m:Nat)(IH:∀l:List Ef,(efPs l).length<m→RunG b csx sd tg l):∀l:List Ef,(efPs l).length≤m→RunG b csx sd tg l:=by
 intro l hlm σ rb s fu mv lv evs N C d K hr hl hfit hok hW hS hN hC hE hf0 hf1 hK;have hrb:=Xi hr (by simp);have hlen:=YM hfit;rw[bigE] at hlen;have hbig:b.cards.length≤big:=by
  simp only[bkFit,QN,Bool.and_eq_true,decide_eq_true_eq] at hf; exact hf.1.1
 rw[H2.e]; unfold g19; dsimp only;refine Za rfl (Za rfl (Za rfl (Za rfl (Za rfl (Za rfl (Za rfl (Za rfl (Za (v:=.agg (clos rb)) rfl ?_))))))));refine Qa (v:=.bptr σ.length 0) (rd:=[]) (up:=[(σ.length,.box [.nilf,.nilf,.nilf,.nilf,.nilf,.nilf,.nilf,.nilf])]) rfl (Yk σ _) ?_;have a1:=Agr.app1 σ (.box [.nilf,.nilf,.nilf,.nilf,.nilf,.nilf,.nilf,.nilf]);have r1:=Ze [ABlk.box [.nilf,.nilf,.nilf,.nilf,.nilf,.nilf,.nilf,.nilf]] hr (by simp);have z1:=Zf σ (.box [.nilf,.nilf,.nilf,.nilf,.nilf,.nilf,.nilf,.nilf]);have len1:(σ++[ABlk.box [.nilf,.nilf,.nilf,.nilf,.nilf,.nilf,.nilf,.nilf]]).length=σ.length+1:=by simp
 generalize σ++[ABlk.box [.nilf,.nilf,.nilf,.nilf,.nilf,.nilf,.nilf,.nilf]]=σ1 at *;refine Qa (stv (row':=clos rb) z1 rfl rfl rfl) (Qi _ (by omega)) (Za (v:=iv l.length) (rd:=[]) (by simp[Qp]) ?_);have a2:=a1.setNew (b:=σ.length) (by omega) (.box (clos rb));have hne:σ.length≠rb:=by omega
 have r2:=Qe (x:=.box (clos rb)) r1 (by simp) hne;have c2:hget (σ1.set σ.length (.box (clos rb))) σ.length=.box (clos rb):=Xf _ (by omega);generalize σ1.set σ.length (.box (clos rb))=σ2 at *;have l2:LV rb evs lv σ2:=hl.old (λk hk _=>a2.2 k hk (by simp));refine Xn (ι:=Nat) (λi vs τ=>∃ t fi evs2 lvi mvi Ni Ci,vs=[iv i,iv 0]∧i≤l.length∧runs b sd tg l s fu=((runs b sd tg (l.drop i) t fi).1,(runs b sd tg (l.drop i) t fi).2.1,(runs b sd tg (l.drop i) t fi).2.2.1,evs2 ++ (runs b sd tg (l.drop i) t fi).2.2.2) ∧
   0≤fi∧fi≤1000∧OkS b Ni Ci t∧Ni+60*(efPs (l.drop i)).length≤1000000∧Ci+(efPs (l.drop i)).length≤1000000∧(evs++evs2).length+60*(efPs (l.drop i)).length≤1000000∧(efPs (l.drop i)).length≤(efPs l).length ∧
   Fr rb lv lvi σ τ∧hget τ rb=.box (rnC b t sd tg lvi fi mvi)∧LV rb (evs ++ evs2) lvi τ∧hget τ σ.length=.box (clos rb))
  (λi=>l.length-i) 0 ⟨s,fu,[],lv,mv,N,C,rfl,by omega,rfl,hf0,hf1,hS,hN,hC,by simpa using hE,Nat.le_refl _,a2.lift rb,r2,by simpa using l2,c2⟩ ?_
 rintro i vs τ again ⟨t,fi,evs2,lvi,mvi,Ni,Ci,rfl,hi,hrun,hfi0,hfi1,ht,hNi,hCi,hEi,hWi,hfr,hrt,hlt,hct⟩ hag;have hrlt:=Xi hrt (by simp);have hclt:=Xi hct (by simp);refine Za rfl (Zb (λh=>?_) (λh=>?_));rotate_left
 ·have h:i=l.length:=by simp at h; omega
  subst h;have e0:runs b sd tg (l.drop l.length) t fi=(0,t,fi,[]):=by rw[List.drop_length,runs]
  rw[e0] at hrun;exact hK _ _ ⟨lvi,mvi,hfr,by rw[hrun]; exact hrt,by rw[hrun]; rfl,λ_=>by rw[hrun]; simpa using hlt⟩
 have h:i<l.length:=by simpa using h
 have hdrop:l.drop i=l[i]::l.drop (i+1):=YLD h;have hmem:=List.getElem_mem h;have hxf:=Z1 hfit hmem;have hxo:=Qbz hok _ hmem;have hix:=λ(σ:List ABlk)=>Xw σ efC false false 14 l .i64 i h;rw[hdrop] at hrun hNi hCi hEi hWi;generalize l[i]=x at *;have hsum:(efPs (x::l.drop (i+1))).length=(efP x).length+(efPs (l.drop (i+1))).length:=by simp[efPs]
 rw[hsum] at hNi hCi hEi hWi;have hx1:1≤(efP x).length:=by cases x; simp[efP]
 have hr1ok:=QbU (b:=b) (tg:=tg) h01 x fi ht (by omega) (by omega);have hfu1:=QbH b sd tg x t fi hfi0;rw[runs] at hrun;refine Xj λk' ek=>?_;have fin:∀v τ',DnR rb b sd tg (evs++evs2) lvi τ (run1 b sd tg x t fi) v τ'→(run1 b sd tg x t fi).1≠0→K v τ':=by
  rintro v τ' ⟨lv',mv',p1,p2,p3,p4⟩ hne0;rw[if_neg hne0] at hrun;exact hK _ _ ⟨lv',mv',hfr.trans p1,by rw[hrun]; exact p2,by rw[hrun]; exact p3,λq=>by rw[hrun] at q ⊢; have:=p4 q; simpa using this⟩
 have cont:∀v τ',DnR rb b sd tg (evs++evs2) lvi τ (run1 b sd tg x t fi) v τ'→(run1 b sd tg x t fi).1=0→k' [v] τ':=by
  rintro v τ' ⟨lv',mv',p1,p2,p3,p4⟩ h0;rw[if_pos h0] at hrun;rw[h0] at p3;subst p3;rw[ek];refine Za (Zl ..) ?_;rw[Zg (n:=i) (by omega)];refine hag (i+1) _ _ (by omega) ⟨(run1 b sd tg x t fi).2.1,(run1 b sd tg x t fi).2.2.1,evs2++(run1 b sd tg x t fi).2.2.2,lv',mv',Ni+60*(efP x).length,Ci+(efP x).length,rfl,by omega,?_,hfu1.1,by omega,hr1ok.1,by omega,by omega,?_,by omega,hfr.trans p1,p2,?_,?_⟩
  ·rw[hrun]; simp
  ·have:=hr1ok.2;simp only[List.length_append] at hEi ⊢; omega
  ·have:=p4 (.inl h0); simpa using this
  ·exact p1.get hlt hct hne
 clear ek hag hK;refine Za (hix _) (Za (ldr (efLd _)) (XG (row:=efC x) (row':=efC x) (by rw[Qv]; rfl) (by rw[Qv]; rfl) (by rw[Qv]; rfl) ?_));have b1:=Agr.app1 τ (.box (efC x));have rt1:=Ze [ABlk.box (efC x)] hrt (by simp);have ct1:=Ze [ABlk.box (efC x)] hct (by simp);have x1:=Zf τ (.box (efC x));have lt1:LV rb (evs++evs2) lvi (τ++[ABlk.box (efC x)]):=hlt.old (λk hk _=>Ym _ hk);have lenx:(τ++[ABlk.box (efC x)]).length=τ.length+1:=by simp
 have hxlt:τ.length<(τ++[ABlk.box (efC x)]).length:=by omega
 generalize τ++[ABlk.box (efC x)]=τ1 at *;have f1:Fr rb lvi lvi τ τ1:=b1.lift rb;refine Za rfl (Za (ld x1 (efLd0 x)) (Za (Yf ..) (Zb (λh8=>?_) (λh8=>?_))))
 ·have h8:x.op=8:=by simpa using h8
  have hcs:(cnP x.c).length≤1000000∧(efPs x.thn).length<(efP x).length∧(efPs x.els).length<(efP x).length:=by
   cases x; simp[Ef.op] at h8; simp[efP,h8,Ef.c,Ef.thn,Ef.els] at hWi ⊢; omega
  have hi2:=Xdn hxo h8;have hrx:run1 b sd tg x t fi=if (Zag b x.c&&condF b t sd tg x.c)=true then runs b sd tg x.thn t fi else runs b sd tg x.els t fi:=by rw[QcP,if_pos h8]
  refine Za rfl (Za (v:=efV x.els) (ld x1 (by rw[Qv]; rfl)) (Za rfl (Za rfl (Za (v:=bkV b) (ld rt1 rfl) (Za rfl (Za rfl (Za (v:=stV t) (ld rt1 rfl) (Za rfl (Za rfl (Za (v:=.agg [iv sd,iv tg]) (ld rt1 rfl) (Za rfl (Za (ld x1 (efLdC x)) ?_))))))))))));refine Zc (c169 b hf hsm t ht.le9 (YK.2 ⟨hbk,ht.may⟩) sd tg (by omega) (by omega) (ZcI ht.may) x.c (Xaq hxf) hcs.1) rfl g40.ok.plain (by rw[YS]; rfl) ?_;refine Za rfl (Za rfl (Xj λk2 ek2=>?_));have body:∀th:List Ef,lsFit th=true→efsOk csx true (d+1) th=true→(efPs th).length<(efP x).length→run1 b sd tg x t fi=runs b sd tg th t fi→k2 [efV th] τ1:=by
   intro th q1 q2 q3 q4;rw[ek2];refine Xg hP (f:=19) rfl g19.ok rfl ?_;refine IH th (by omega) τ1 rb t fi mvi lvi (evs++evs2) Ni Ci (d+1) _ rt1 lt1 q1 q2 (by omega) ht (by omega) (by omega) (by omega) hfi0 hfi1 (λv τ' hD=>?_);rw[←q4] at hD;obtain⟨lv',mv',p1,p2,p3,p4⟩:=hD;have hD':DnR rb b sd tg (evs++evs2) lvi τ (run1 b sd tg x t fi) v τ':=⟨lv',mv',f1.trans p1,p2,p3,p4⟩;rw[p3];rw[p3] at hD';refine Za (XS ..) (Zb (λhq=>?_) (λhq=>?_))
   ·exact fin _ _ hD' (by simpa using hq)
   ·exact cont _ _ hD' (by simpa using hq)
  refine Zb (λhq=>?_) (λhq=>?_)
  ·refine Za rfl (Za (v:=efV x.thn) (ld x1 (by rw[Qv]; rfl)) ?_);exact body _ (Y0 hxf) hi2.1 hcs.2.1 (by rw[hrx,if_pos hq])
  ·exact body _ (Z0 hxf) hi2.2 hcs.2.2 (by rw[hrx,if_neg (by simp[hq])])
 ·have h8:x.op≠8:=by simpa using h8
  have hrx:run1 b sd tg x t fi=if fi < usesF x.op then (190,t,fi,[]) else ((opE b t sd tg x.op x.who x.name (numF b t sd tg x.n)).1,(opE b t sd tg x.op x.who x.name (numF b t sd tg x.n)).2.1,
   (if (opE b t sd tg x.op x.who x.name (numF b t sd tg x.n)).1=0 then fi - usesF x.op else fi),(opE b t sd tg x.op x.who x.name (numF b t sd tg x.n)).2.2):=by rw[QcP,if_neg h8]
  have hnum:=Qc5 hxo h8 (by omega);have hop:0≤x.op∧x.op≤8:=by
   rw[XaD] at hxo; simp only[Bool.and_eq_true,decide_eq_true_eq] at hxo; exact⟨hxo.1,hxo.2.1⟩
  refine Za rfl (Za (ld x1 (efLd0 x)) (Za (Yf ..) (Xj λk2 ek2=>?_)));have hu:0≤usesF x.op∧usesF x.op≤1:=by unfold usesF; split<;>omega
  have body:k2 [iv (usesF x.op)] τ1:=by
   rw[ek2];clear ek2 k2;generalize usesF x.op=u at *;refine Za rfl (Za rfl (Za (v:=iv fi) (ld rt1 rfl) (Za (v:=.bool (decide (fi<u))) rfl (Zb (λhq=>?_) (λhq=>?_)))))
   ·have hq:fi<u:=by simpa using hq
    rw[if_pos hq] at hrx;exact fin _ _ ⟨lvi,mvi,f1,by rw[hrx]; exact rt1,by rw[hrx],λ_=>by rw[hrx]; simpa using lt1⟩ (by rw[hrx]; show (190:Int)≠0; decide)
   have hq:¬fi<u:=by simpa using hq
   rw[if_neg hq] at hrx;refine Za rfl (Za rfl (Za (v:=bkV b) (ld rt1 rfl) (Za rfl (Za rfl (Za (v:=stV t) (ld rt1 rfl) (Za rfl (Za rfl (Za (v:=.agg [iv sd,iv tg]) (ld rt1 rfl) (Za rfl (Za (ld x1 (efLdN x)) ?_))))))))));refine Zc (c31 b hf hsm t ht.le9 (YK.2 ⟨hbk,ht.may⟩) sd tg (by omega) (by omega) (λc hc=>ZcI ht.may _ c (.inl hc)) x.n (YaD hxf) hnum.1 hnum.2) rfl g41.ok.plain (by rw[YG]; rfl) ?_;refine Za rfl (Za rfl (Za rfl (Za (ld x1 (efLd0 x)) ?_)));have hnb:=XbT b t sd tg x.n;generalize numF b t sd tg x.n=n at *;have after:∀v τ2,Dn rb b sd tg fi (evs++evs2) lvi τ1 (opE b t sd tg x.op x.who x.name n) v τ2 →
     VV.rd (Qm .neq false [v,(.int .i64 0)] τ2) λt103=>VV.test t103 (K v τ2) (
     VV.rd (Qg [.bptr rb 0] τ2) λt105=>VV.rd (Qc 28 [t105] τ2) λt106=>VV.rd (Zk false 1 [t106] τ2) λt107=>
     VV.rd (Qm .sub false [t107,iv u] τ2) λt109=>VV.rd (Qg [.bptr rb 0] τ2) λt110=>VV.rd (Qc 28 [t110] τ2) λt111=>
     VV.wr (Yo 1 [t111,t109] τ2) τ2 λ_ σ=>k' [v] σ):=by
    rintro v τ2 ⟨lv',mv',p1,p2,rfl,p4⟩;have h190:=Qdq b t sd tg x.op x.who x.name n;generalize opE b t sd tg x.op x.who x.name n=r at *;refine Za (XS ..) (Zb (λhz=>?_) (λhz=>?_))
    ·have hz:r.1≠0:=by simpa using hz
     rw[if_neg hz] at hrx;exact fin _ _ ⟨lv',mv',f1.trans p1,by rw[hrx]; exact p2,by rw[hrx],λq=>by rw[hrx] at q; rcases q with q|q; exact(hz q).elim; exact(h190 q).elim⟩ (by rw[hrx]; exact hz)
    ·have hz:r.1=0:=by simpa using hz
     rw[if_pos hz] at hrx;have hl2:=Xi p2 (by simp);refine Za rfl (Za rfl (Za (v:=iv fi) (ld p2 rfl) (Za (ZaD ..) (Za rfl (Za rfl ?_)))));rw[IntWalk.i64_in _ (by omega)];refine Qa (stv (row':=rnC b r.2.1 sd tg lv' (fi-u) mv') p2 rfl rfl rfl) (Qi _ hl2) ?_;refine cont _ _ ⟨lv',mv',(f1.trans p1).trans (Fr.set lv' _),by rw[hrx]; exact Xf _ hl2,by rw[hrx],λ_=>by rw[hrx]; exact(p4 hz).old (λk hk hkr=>Xd _ hk hkr)⟩ (by rw[hrx]; exact hz)
   have hTB:TB 100000000 t:=⟨by have:=ht.told.1; omega,by have:=ht.told.2; omega⟩;have hles:=ht.le;have hln:(evs++evs2).length+60≤1000000000:=by omega
   have hops:x.op=0∨x.op=1∨x.op=2∨x.op=3∨x.op=4∨x.op=5∨x.op=6∨x.op=7:=by omega
   rcases hops with e|e|e|e|e|e|e|e
   ·rw[e];refine Za rfl (Za (v:=.func (.func 33) [.bptr rb 0] []) (ld ct1 rfl) (Za (ld x1 (efLd x)) ?_));refine Xg hP (f:=33) (ys:=[.bptr rb 0,.agg (efC x),iv n]) rfl g33.ok rfl (Ydg rt1 lt1 (by omega) h01 hf hsm hles (YK.2 ⟨hbk,ht.may⟩) x n (λv τ2 hD=>after v τ2 ?_));have:opE b t sd tg x.op x.who x.name n=hurtE b t sd tg x.op x.who n:=by rw[opE,if_pos (.inl e)]
    rw[this]; exact hD
   ·rw[e];refine Za rfl (Za (v:=.func (.func 33) [.bptr rb 0] []) (ld ct1 rfl) (Za (ld x1 (efLd x)) ?_));refine Xg hP (f:=33) (ys:=[.bptr rb 0,.agg (efC x),iv n]) rfl g33.ok rfl (Ydg rt1 lt1 (by omega) h01 hf hsm hles (YK.2 ⟨hbk,ht.may⟩) x n (λv τ2 hD=>after v τ2 ?_));have:opE b t sd tg x.op x.who x.name n=hurtE b t sd tg x.op x.who n:=by rw[opE,if_pos (.inr e)]
    rw[this]; exact hD
   ·rw[e];refine Za rfl (Za (v:=.func (.func 34) [.bptr rb 0] []) (ld ct1 rfl) (Za (ld x1 (efLd x)) ?_));refine Xg hP (f:=34) (ys:=[.bptr rb 0,.agg (efC x),iv n]) rfl g34.ok rfl (YdA rt1 lt1 hln h01 hf hsm hbk ht (by omega) (by omega) x n (λv τ2 hD=>after v τ2 ?_));have:opE b t sd tg x.op x.who x.name n=drawE t (whoS sd x.who) n:=by rw[e]; rfl
    rw[this]; exact hD
   ·rw[e];refine Za rfl (Za (v:=.func (.func 35) [.bptr rb 0] []) (ld ct1 rfl) (Za (ld x1 (efLd x)) ?_));have hmana:0≤(t.side sd).mana∧(t.side sd).mana≤1000000:=by
     rcases h01 with rfl|rfl
     ·exact⟨ht.may.s0.mana.1,(Yak.1 ht.may.s0.mana.2).2⟩
     ·exact⟨ht.may.s1.mana.1,(Yak.1 ht.may.s1.mana.2).2⟩
    refine Xg hP (f:=35) (ys:=[.bptr rb 0,.agg (efC x),iv n]) rfl g35.ok rfl (QdE rt1 lt1 (by omega) h01 hmana x n (by omega) (λv τ2 hD=>after v τ2 ?_));have:opE b t sd tg x.op x.who x.name n=gainF t sd n:=by rw[e]; rfl
    rw[this]; exact hD
   ·rw[e];refine Za rfl (Za (v:=.func (.func 36) [.bptr rb 0] []) (ld ct1 rfl) (Za (ld x1 (efLd x)) ?_));refine Xg hP (f:=36) (ys:=[.bptr rb 0,.agg (efC x),iv n]) rfl g36.ok rfl (XdA rt1 lt1 (by omega) h01 hTB ⟨by have:=hles.s0.hand; omega,by have:=hles.s0.grave; omega⟩ ⟨by have:=hles.s1.hand; omega,by have:=hles.s1.grave; omega⟩ x n (λv τ2 hD=>after v τ2 ?_));have:opE b t sd tg x.op x.who x.name n=dropF t (whoS sd x.who):=by rw[e]; rfl
    rw[this]; exact hD
   ·rw[e];refine Za rfl (Za (v:=.func (.func 37) [.bptr rb 0] []) (ld ct1 rfl) (Za (ld x1 (efLd x)) ?_));have hdk:(t.side sd).deck.length≤100000000:=by
     rcases h01 with rfl|rfl
     ·have:=hles.s0.deck; show t.s0.deck.length≤_; omega
     ·have:=hles.s1.deck; show t.s1.deck.length≤_; omega
    refine Xg hP (f:=37) (ys:=[.bptr rb 0,.agg (efC x),iv n]) rfl g37.ok rfl (YdG rt1 lt1 (by omega) h01 hTB hdk x n (λv τ2 hD=>after v τ2 ?_));have:opE b t sd tg x.op x.who x.name n=lookF t sd n:=by rw[e]; rfl
    rw[this]; exact hD
   ·rw[e];refine Za rfl (Za (v:=.func (.func 38) [.bptr rb 0] []) (ld ct1 rfl) (Za (ld x1 (efLd x)) ?_));refine Xg hP (f:=38) (ys:=[.bptr rb 0,.agg (efC x),iv n]) rfl g38.ok rfl (YdJ rt1 lt1 (by omega) h01 hTB (by have:=hles.s0.hand; omega) (by have:=hles.s1.hand; omega) x n (λv τ2 hD=>after v τ2 ?_));have:opE b t sd tg x.op x.who x.name n=showF t (whoS sd x.who):=by rw[e]; rfl
    rw[this]; exact hD
   ·rw[e];refine Za rfl (Za (v:=.func (.func 39) [.bptr rb 0] []) (ld ct1 rfl) (Za (ld x1 (efLd x)) ?_));refine Xg hP (f:=39) (ys:=[.bptr rb 0,.agg (efC x),iv n]) rfl g39.ok rfl (Zdd rt1 lt1 (by omega) h01 hf hsm hbk ht hbig x n (λv τ2 hD=>after v τ2 ?_));have:opE b t sd tg x.op x.who x.name n=Zad b t sd x.name:=by rw[e]; rfl
    rw[this]; exact hD
  refine Zb (λhq=>?_) (λhq=>?_)
  ·have:usesF x.op=0:=by rw[usesF,if_pos (by simpa using hq)]
   rw[this] at body; exact body
  ·have:usesF x.op=1:=by rw[usesF,if_neg (by simpa using hq)]
   rw[this] at body; exact body
theorem run_w(b:Bk)(csx:List Cd)(sd tg:Int)(h01:sd=0∨sd=1)(hf:bkFit b=true)(hsm:Yj b.cards)(hbk:(bkR b).1=0)(l:List Ef):RunG b csx sd tg l:=by
 have go:∀(m:Nat) (l:List Ef),(efPs l).length≤m→RunG b csx sd tg l:=by
  intro m
  induction m with
  |zero=>exact Zb9 b csx sd tg h01 hf hsm hbk 0 (λ_ h=>absurd h (by omega))
  |succ m ih=>exact Zb9 b csx sd tg h01 hf hsm hbk (m+1) (λl h=>ih l (by omega))
 exact go _ l (Nat.le_refl _)
end Go.Ah.Tz
end
section
namespace Go.Ah.Tz
open Go.Proofs.Tryz (prog)
set_option maxRecDepth 100000
def dg36:Tx:=[48,49,50,51,52,53,54,55,56,57,97,98,99,100,101,102,103,104,105,106,107,108,109,110,111,112,113,114,115,116,117,118,119,120,121,122]
def dg100:Tx:=[48,48,48,49,48,50,48,51,48,52,48,53,48,54,48,55,48,56,48,57,49,48,49,49,49,50,49,51,49,52,49,53,49,54,49,55,49,56,49,57,50,48,50,49,50,50,50,51,50,52,50,53,50,54,50,55,50,56,50,57,51,48,51,49,51,50,51,51,51,52,51,53,51,54,51,55,51,56,51,57,52,48,52,49,52,50,52,51,52,52,52,53,52,54,52,55,52,56,52,57,53,48,53,49,53,50,53,51,53,52,53,53,53,54,53,55,53,56,53,57,54,48,54,49,54,50,54,51,54,52,54,53,54,54,54,55,54,56,54,57,55,48,55,49,55,50,55,51,55,52,55,53,55,54,55,55,55,56,55,57,56,48,56,49,56,50,56,51,56,52,56,53,56,54,56,55,56,56,56,57,57,48,57,49,57,50,57,51,57,52,57,53,57,54,57,55,57,56,57,57]
def itoaT(i:Nat):Tx:=if i<10 then [UInt8.ofNat (48+i)] else [UInt8.ofNat (48+i/10),UInt8.ofNat (48+i%10)]
theorem Zdl:∀i<10,(dg36.take (i+1)).drop i=itoaT i:=by decide
theorem Zc4:∀i<62,10≤i→(dg100.take (i*2+2)).drop (i*2)=itoaT i:=by decide
theorem Qc6:∀i<62,∀j<62,itoaT i=itoaT j→i=j:=by decide
theorem Xbd(s:Tx)(i j:Nat)(h1:i≤j)(h2:j≤s.length)(σ:List ABlk):Qz [.str s,iv i,iv j] σ=.ok (.str ((s.take j).drop i)) [] []:=by
 show (bif Nat.ble i j&&Nat.ble j s.length then SRes.ok (.str ((s.take j).drop i)) [] [] else .stop)=_;rw[Nat.ble_eq_true_of_le h1,Nat.ble_eq_true_of_le h2]; rfl
theorem QdA(ib:Bool)(a b:Tx)(h:a.length+b.length≤1099511627776)(σ:List ABlk):Qm .add ib [.str a,.str b] σ=.ok (.str (a++b)) [] []:=by
 show (bif Nat.ble (a.length+b.length) 1099511627776 then SRes.ok (.str (a++b)) [] [] else .stop)=_;rw[Nat.ble_eq_true_of_le h]; rfl
def ZC:Nat→Tx
 |0=>[120]
 |i+1=>120::itoaT i
def YaE(cs:List Cd):Nat→Nat→Tx
 |0,i=>ZC i
 |n+1,i=>if (cs.any λc=>c.name==ZC i)=true then YaE cs n (i+1) else ZC i
def ZbC(cs:List Cd):Tx:=YaE cs 61 0
theorem ZbD(i:Nat):(itoaT i).length≤2:=by unfold itoaT; split<;>simp
theorem Qbh(i:Nat):(ZC i).length≤3:=by
 cases i with
 |zero=>simp[ZC]
 |succ i=>have:=ZbD i; simp[ZC]; omega
theorem QaY(cs:List Cd):∀(n i:Nat),(YaE cs n i).length≤3
 |0,i=>Qbh i
 |n+1,i=>by
  unfold YaE;split
  ·exact QaY cs n (i+1)
  ·exact Qbh i
theorem Xcl{i j:Nat}(hi:i≤62)(hj:j≤62)(h:ZC i=ZC j):i=j:=by
 have h0:∀k,itoaT k≠[]:=by intro k; unfold itoaT; split<;>simp
 cases i with
 |zero=>
  cases j with
  |zero=>rfl
  |succ j=>simp only[ZC,List.cons.injEq,true_and] at h; exact(h0 j h.symm).elim
 |succ i=>
  cases j with
  |zero=>simp only[ZC,List.cons.injEq,true_and] at h; exact(h0 i h).elim
  |succ j=>
   simp[ZC] at h;rw[Qc6 i (by omega) j (by omega) h]
theorem YcW:∀(l m:List Tx),l.Nodup→(∀x∈l,x∈m)→l.length≤m.length
 |[],_,_,_=>by simp
 |a::l,m,hn,hs=>by
  have ha:=hs a (by simp);rw[List.nodup_cons] at hn;have:=YcW l (m.erase a) hn.2 (λx hx=>(List.mem_erase_of_ne (λe=>hn.1 (by rw[←e]; exact hx))).2 (hs x (by simp[hx])));rw[List.length_erase_of_mem ha] at this;have:=List.length_pos_of_mem ha;simp only[List.length_cons]; omega
theorem Xc7{cs:List Cd}{i:Nat}(hi:i≤61)(h:∀k<i,(cs.any λc=>c.name==ZC k)=true):i≤cs.length:=by
 have hn:((List.range i).map ZC).Nodup:=by
  rw[List.Nodup,List.pairwise_map];refine List.Pairwise.imp_of_mem ?_ List.nodup_range;intro a b ha hb hne e;rw[List.mem_range] at ha hb;exact hne (Xcl (by omega) (by omega) e)
 have:=YcW _ (cs.map Cd.name) hn (λx hx=>by
  obtain⟨k,hk,rfl⟩:=List.mem_map.1 hx;obtain⟨c,hc,q⟩:=List.any_eq_true.1 (h k (List.mem_range.1 hk));exact List.mem_map.2 ⟨c,hc,by simpa using q⟩)
 simpa using this
def newC(cs:List Cd)(l:List Ef):Cd:=⟨ZbC cs,false,0,0,0,0,0,0,l,[],[],0⟩
def fitsB(b:Bk)(l:List Ef):Bool:=decide ((QY (b.cards++[newC b.cards l])).1=0)
@[reducible] def newR(t:Tx)(l:List Ef):List AVal:=[.str t,.bool false,iv 0,iv 0,iv 0,iv 0,iv 0,iv 0,efV l,.nils,.nils,iv 0]
theorem Ydq{h0:Hp}{rd:List Nat}(cs:List Cd)(l:List Ef):BorL h0 rd (newR (ZbC cs) l) (cdC (newC cs l)):=
 .cons (Bor.ro rfl) <| .cons (Bor.ro rfl) <| .cons (Bor.ro rfl) <| .cons (Bor.ro rfl) <| .cons (Bor.ro rfl) <| .cons (Bor.ro rfl) <| .cons (Bor.ro rfl) <| .cons (Bor.ro rfl) <| .cons (Bor.ro rfl) <|
  .cons (Bor.weak (Bor.ro rfl) (λM u d=>d.nils_rsl 14)) <| .cons (Bor.weak (Bor.ro rfl) (λM u d=>d.nils_rsl 14)) <| .cons (Bor.ro rfl) .nil
theorem Xdj(m:Nat→Option Nat)(c:Cd):(cdC c).map (AVal.ren m)=cdC c:=rfl
theorem Ydr(m:Nat→Option Nat)(l:List Cd):(ABlk.rows 12 (l.map cdC)).mapV (AVal.ren m)=.rows 12 (l.map cdC):=by
 simp only[ABlk.mapV,XM (Xdj m)]
attribute [local irreducible] Ans.rd Ans.pu Ans.wr Ans.dr Ans.gr Ans.gw Ans.gl Ans.gd Ans.opt joinK W
set_option maxHeartbeats 4000000
theorem c504(i:Nat)(h:i<62):PC 94 [iv i] (.str (itoaT i)):=by
 refine Qb hP g94.ok rfl rfl ?_;rw[H1.e]; unfold g94; dsimp only;refine Za (v:=.bool (decide ((i:Int)<10))) rfl (Zb (λq=>?_) (λq=>?_))
 ·have q:i<10:=by have:=of_decide_eq_true q; omega
  refine Za (Zl ..) ?_;rw[Zg (n:=i) (by omega)];refine Za (Xbd dg36 i (i+1) (by omega) (by show i+1≤36; omega) _) ?_;rw[Zdl i q]
 ·have q:¬i<10:=by have:=of_decide_eq_false q; omega
  refine Za (QdC ..) (Za (QdC ..) (Za (Zl ..) ?_));have w1:IntKind.i64.wrap ((i:Int)*2)=((i*2:Nat):Int):=by rw[IntWalk.i64_in _ (by omega)]; push_cast; rfl
  rw[w1];have w2:IntKind.i64.wrap (((i*2:Nat):Int)+2)=((i*2+2:Nat):Int):=by rw[IntWalk.i64_in _ (by omega)]; push_cast; rfl
  rw[w2];refine Za (Xbd dg100 (i*2) (i*2+2) (by omega) (by show i*2+2≤200; omega) _) ?_;rw[Zc4 i h (by omega)]
theorem c296i(i:Nat)(h:i<62):PC 30 [iv i] (.str (itoaT i)):=by
 refine Qb hP g30.ok rfl rfl ?_;rw[H1.e]; unfold g30; dsimp only;refine Xg hP (f:=46) rfl g46.ok rfl ?_;rw[H1.e]; unfold g46; dsimp only;refine Xg hP (f:=70) rfl g70.ok rfl ?_;rw[H2.e]; unfold g70; dsimp only;refine Za rfl (Yd (Za (v:=.bool (decide ((0:Int)≤(i:Int)))) rfl ?_));rw[show decide ((0:Int)≤(i:Int))=true from decide_eq_true (by omega)];refine Ya (Za rfl (Ya (Za (v:=.bool (decide ((i:Int)<100))) rfl ?_)));rw[show decide ((i:Int)<100)=true from decide_eq_true (by omega)];exact Za rfl (Yd (Zc (c504 i h) rfl g94.ok.plain rfl rfl))
theorem c292c(l:List Cd)(hl:l.length≤1000000000):NCall prog GL0 26 [cdV l] (.sl 0 0 l.length false) [.rows 12 (l.map cdC)]:=by
 cases l with
 |nil=>
  refine NCall.case1 ?_ ?_
  ·refine Zw hP g26.ok rfl ?_;rw[H1.e]; unfold g26; dsimp only;exact Za rfl (Yd (Tidy.ghost 12 (.inl rfl)))
  ·refine Zw hP g26.ok rfl ?_;rw[H1.e]; unfold g26; dsimp only;exact Za rfl (Yc (Za rfl (Qa rfl rfl (Tidy.trans (Tidy.weak λM c u d=>ZQ (.rsl true true 12 []) ⟨M,c⟩ u d) (Tidy.ghost 12 (.inr rfl))))))
 |cons x l=>
  refine Zw hP g26.ok rfl ?_;rw[H1.e]; unfold g26; dsimp only;refine Za rfl (Yc (Za rfl ?_));refine Qa (v:=.sl 0 0 (x :: l).length false) (rd:=[]) (up:=[(0,.rows 12 ((x :: l).map cdC))]) ?_ rfl (Tidy.refl _ _);show (match Xr 12 [] (cdV (x :: l)) with
   |some (ys,rd)=>bif Zv ys&&Nat.ble ((2*(([]:List (List AVal)).length+ys.length)+192)*152) (2 ^ 48) then SRes.ok (.sl 0 0 (([]:List (List AVal)).length+ys.length) false) rd ([]++[(0,ABlk.rows 12 ([]++ys))]) else SRes.stop
   | none=>.stop)=_
  have h1:Xr 12 [] (cdV (x::l))=some ((x::l).map cdC,[]):=rfl;have h2:∀q:List Cd,Zv (q.map cdC)=true:=by
   intro q; induction q with
   |nil=>rfl
   |cons y q ih=>simp only[List.map_cons,Zv,ih,Bool.and_true]; rfl
  have h3:Nat.ble ((2*(([]:List (List AVal)).length+((x::l).map cdC).length)+192)*152) (2 ^ 48)=true:=Nat.ble_eq_true_of_le (by simp only[List.length_map,List.length_nil]; simp at hl; simp; omega);simp only[h1,h2,h3,Bool.and_self,cond_true];simp
theorem w292{l:List Cd}(hl:l.length≤1000000000){σ:List ABlk}{K:AVal→List ABlk→Prop}(hK:K (.sl σ.length 0 l.length false) (σ++[.rows 12 (l.map cdC)])):VV.call (.call 26) [cdV l] σ K:=by
 refine Xbm (c292c l hl) rfl g26.ok.plain rfl ?_;simp only[Yv,List.map_cons,List.map_nil,Ydr,AVal.ren,ZE,Nat.zero_add];exact hK
theorem c295c(c:Cd)(t:Tx):PC 29 [.agg (cdC c),.rptr [.str t] 0] (.bool (c.name==t)):=by
 refine Qb hP g29.ok rfl rfl ?_;rw[H2.e]; unfold g29; dsimp only;exact Qa rfl rfl (Za rfl (Za (v:=.str c.name) rfl (Za (v:=.str t) (ldr rfl) (Za rfl rfl))))
theorem c294c(l:List Cd)(hl:l.length≤1000000000)(t:Tx):PC 28 [cdV l,.func (.func 29) [] [.rptr [.str t] 0]] (.bool (l.any λc=>c.name==t)):=by
 refine Qb hP g28.ok rfl rfl ?_;rw[H2.e]; unfold g28; dsimp only;refine Zc (c259 l (by rw[bigE]; omega) 29 [] [.rptr [.str t] 0] g29.ok.plain (λc=>c.name==t) (λc _=>c295c c t) (λc=>rfl)) rfl g45.ok.plain rfl ?_;refine Za (Yaa ..) ?_;rw[←YaR (λc:Cd=>c.name==t) l 0 (by omega)]
theorem c202(b:Bk)(hf:bkFit b=true)(hsm:Yj b.cards)(hc60:b.cards.length≤60)(l:List Ef)(hl:lsFit l=true)(hP1:(efPs l).length≤500000000):PC 17 [bkV b,efV l] (.bool (fitsB b l)):=by
 have hcs:QN b.cards=true:=by
  simp only[bkFit,Bool.and_eq_true] at hf; exact hf.1
 have hfit:QN (b.cards++[newC b.cards l])=true:=by
  simp only[QN,Bool.and_eq_true,decide_eq_true_eq,bigE] at hcs ⊢;refine⟨by simp; omega,?_⟩;rw[List.all_append,hcs.2];have:=QaY b.cards 61 0;simp only[List.all_cons,List.all_nil,Bool.and_true,Bool.true_and,cdFit,newC,ZbC,bigE,Bool.and_eq_true,decide_eq_true_eq];exact⟨by omega,hl,rfl,rfl⟩
 have hsm2:Yj (b.cards++[newC b.cards l]):=by
  intro c hc;rcases List.mem_append.1 hc with hc|hc
  ·exact hsm c hc
  ·rw[List.mem_singleton] at hc; subst hc;simpa[cdP,newC,efPs] using hP1
 have h293:=c180' _ hfit hsm2;refine Qb hP g17.ok rfl rfl ?_;rw[H2.e]; unfold g17; dsimp only;refine Qa (v:=.bptr 0 0) (rd:=[]) (up:=[(0,.box (bkC b))]) rfl rfl (Za rfl (Za (v:=cdV b.cards) (ld (row:=bkC b) rfl rfl) (w292 (by omega) ?_)));refine Za (v:=iv b.cards.length) rfl (Za (Yf ..) ?_);rw[show decide ((b.cards.length:Int)=240)=false from decide_eq_false (by omega)];refine Yc (Qa (v:=.bptr 2 0) (rd:=[]) (up:=[(2,.box [.str []])]) rfl rfl (Qa (v:=.junk) (rd:=[]) (up:=[(2,.box [.str [120]])]) rfl rfl ?_));have hrows:∀r∈b.cards.map cdC,roL r=true:=by
  intro r hr;obtain⟨c,_,rfl⟩:=List.mem_map.1 hr;rfl
 refine Xn (ι:=Nat) (λi vs τ=>vs=[iv i]∧i≤60∧τ=[.box (bkC b),.rows 12 (b.cards.map cdC),.box [.str (ZC i)]]∧(∀k<i,(b.cards.any λc=>c.name==ZC k)=true)∧ZbC b.cards=YaE b.cards (61-i) i) (λi=>61-i) 0 ⟨rfl,by omega,rfl,by omega,rfl⟩ ?_;rintro i vs τ again ⟨rfl,hi,rfl,hall,hfr⟩ hag;have e61:61-i=(60-i)+1:=by omega
 rw[e61,YaE] at hfr;refine Za rfl ?_;refine Xy (rd:=[1,2]) (c294c b.cards (by omega) (ZC i)) rfl g28.ok.plain (.cons (Bor.own (σ:=[.box (bkC b),.rows 12 (b.cards.map cdC),.box [.str (ZC i)]]) rfl (by simp) (by simp) (Yaw _ _ (by simp)) hrows) (.cons (Bor.func .nil (.cons (Bor.box (row:=[.str (ZC i)]) rfl (by simp) (.cons (Bor.ro rfl) .nil)) .nil)) .nil)) rfl ?_;refine Zb (λh=>?_) (λh=>?_)
 ·rw[if_pos h] at hfr;have hall':∀k<i+1,(b.cards.any λc=>c.name==ZC k)=true:=by
   intro k hk;by_cases e:k=i
   ·rw[e]; exact h
   ·exact hall k (by omega)
  have hle:=Xc7 (cs:=b.cards) (i:=i+1) (by omega) hall';refine Zc (c296i i (by omega)) rfl g30.ok.plain rfl (Za (QdA _ [120] (itoaT i) (by have:=ZbD i; simp; omega) _) (Qa (v:=.junk) (rd:=[]) (up:=[(2,.box [.str (ZC (i+1))])]) rfl rfl (Za (Zl ..) ?_)));rw[Zg (n:=i) (by omega)];refine hag (i+1) _ _ (by omega) ⟨rfl,by omega,rfl,hall',?_⟩;rw[hfr,show 60-i=61-(i+1) from by omega]
 ·rw[if_neg (by simp[h])] at hfr;refine Za (v:=.str (ZC i)) (ld (row:=[.str (ZC i)]) rfl rfl) (Za (v:=.agg (newR (ZC i) l)) rfl (Qa (v:=.sl 3 0 1 true) (rd:=[]) (up:=[(3,.rows 12 [newR (ZC i) l])]) rfl rfl ?_));refine Qa (YR 12 152 (b:=1) (c:=3) (len:=b.cards.length) (rs:=b.cards.map cdC) (row:=newR (ZC i) l) rfl rfl (by simp) rfl (by omega)) rfl ?_;rw[←hfr];refine Xy (rd:=[4]) h293 rfl g27.ok.plain (.cons (Bor.weak (y:=.rsl false false 12 ((b.cards++[newC b.cards l]).map cdC)) (Bor.sl (rs:=b.cards.map cdC++[newR (ZbC b.cards) l]) rfl (by simp) (by simp) (by simp) (λk row row' q1 q2=>?_)) (λM u d=>d.rsl_weak)) .nil) rfl ?_
  ·rw[Nat.zero_add] at q1;by_cases hk:k<b.cards.length
   ·rw[List.getElem?_append_left (by simpa using hk)] at q1;rw[List.map_append,List.getElem?_append_left (by simpa using hk),q1] at q2;cases q2;exact BorL.ro (hrows _ (List.mem_of_getElem? q1))
   ·have hk2:k=b.cards.length:=by
     have:=(YLG q1).1;simp at this; omega
    subst hk2;rw[List.getElem?_append_right (by simp)] at q1;rw[List.map_append,List.getElem?_append_right (by simp)] at q2;simp at q1 q2;subst q1; subst q2;exact Ydq b.cards l
  ·refine Za (v:=iv (QY (b.cards++[newC b.cards l])).1) rfl (Za (Yf ..) ?_);rfl
end Go.Ah.Tz
end
section
namespace Go.Ah.Tz
open Go.Proofs.Tryz (prog)
set_option maxRecDepth 100000
theorem ZbT{e:Int}{b:Bk}{s:St}(hp:s.phase=1)(ha:s.attack.length=0):mayR e b s true=(mayR e b { s with phase:=0 } false&&s.struck):=by
 rw[Bool.eq_iff_iff,Bool.and_eq_true];constructor
 ·intro h; exact⟨ZbF h hp ha,Ya1 h hp⟩
 ·rintro⟨h,hst⟩;simp only[mayR,Bool.and_eq_true] at h ⊢;obtain⟨a1,a2,a3,a4,a5,a6,a7,a8,a9,b1,b2,b3,b4,h⟩:=h;have ha':=List.length_eq_zero_iff.1 ha;refine⟨a1,a2,a3,a4,a5,by simp[hp],by simp[hp],a8,a9,?_,b2,b3,b4,?_⟩
  ·rw[hp]; exact b1
  ·rw[if_neg (by simp[hp]),ha']; simp[hst,attOk]
theorem nz101:¬(101:Int)=0:=by decide
theorem nz130:¬(130:Int)=0:=by decide
theorem ZbZ{cs:List Cd}:∀ {l pre:List Cd},(cdsGo cs pre l).1=0→∀c∈l,cdOk cs c=true
 |c::l,pre,h,x,hx=>by
  unfold cdsGo at h;split at h
  ·exact absurd h (by first|exact nz101|exact nz130)
  split at h
  ·rename_i hc;simp only[List.mem_cons] at hx;rcases hx with rfl|hx
   ·exact hc
   ·exact ZbZ h x hx
  ·exact absurd h (by first|exact nz101|exact nz130)
theorem Qcu{cs:List Cd}(h:(QY cs).1=0):∀c∈cs,cdOk cs c=true:=by
 unfold QY at h;split at h
 ·exact absurd h (by decide)
 ·exact ZbZ h
theorem XcG{b:Bk}{l:List Ef}(h:fitsB b l=true):efsOk (b.cards++[newC b.cards l]) true 1 l=true∧(efPs l).length≤200:=by
 have hc:=Qcu (of_decide_eq_true h) (newC b.cards l) (by simp);simp only[cdOk,Bool.and_eq_true,decide_eq_true_eq,lstOk] at hc;obtain⟨_,_,_,_,_,_,_,_,hw,hl,_⟩:=hc;refine⟨hl.2.2,?_⟩;rw[Xcu] at hw;have:(cdP (newC b.cards l)).length=(efPs l).length:=by simp[cdP,newC,efPs]
 omega
def ZM(b:Bk)(sd fu:Int)(l:List Ef):Bool:=(((decide (sd<0)||decide (sd>1))||decide (fu<0))||decide (fu>1000)) || !fitsB b l
def LW(l:List Ev)(lv:AVal)(σ:List ABlk):Prop:=(l=[]∧lv=.nils)∨(l≠[]∧∃c rows,lv=.sl c 0 l.length false∧hget σ c=.rows 7 rows∧EvRs rows l)
theorem LV.lw{rb:Nat}{l:List Ev}{lv:AVal}{σ:List ABlk}(h:LV rb l lv σ):LW l lv σ:=by
 rcases h with h|⟨h0,c,rows,_,h1,h2,h3⟩
 ·exact .inl h
 ·exact .inr ⟨h0,c,rows,h1,h2,h3⟩
attribute [local irreducible] Ans.rd Ans.pu Ans.wr Ans.dr Ans.gr Ans.gw Ans.gl Ans.gd Ans.opt joinK W
set_option maxHeartbeats 8000000
theorem c150P(s:St)(hs:StLe 1000000000 s):PC 18 [stV s] (stV s):=
 Yb8 (c59 s hs) ⟨List.range 11,(SB.copy (σ:=stB s) (n:=0) (λi x h=>by rw[Nat.zero_add]; exact Qo h) (λi hi=>by rw[Nat.zero_add]; exact List.mem_range.2 hi)).agg⟩
theorem ZbV(b:Bk)(hf:bkFit b=true)(hsm:Yj b.cards)(hc60:b.cards.length≤60)(s:St)(hs:StLe 1000000000 s)(sd tg fu:Int)(l:List Ef)(hl:lsFit l=true)(hPl:(efPs l).length≤500000000)(N C:Nat)(hT:TB N s)(hN:N+12000≤1000000)(hC:Zp s≤C)(hC2:C+200≤1000000){σ:List ABlk}{K:AVal→List ABlk→Prop}
 (hE1:mayR (bkR b).1 b s true=false→∀σ',Agr σ σ' []→K (.tup [.agg zStC,.nils,iv 0,iv 170]) σ')
 (hE2:mayR (bkR b).1 b s true=true→ZM b sd fu l=true→∀σ',Agr σ σ' []→K (.tup [.agg zStC,.nils,iv 0,iv 2]) σ')
 (hK:mayR (bkR b).1 b s true=true→ZM b sd fu l=false→∀ σ' lv,Agr σ σ' []→((runs b sd tg l s fu).1=0∨(runs b sd tg l s fu).1=190→LW (runs b sd tg l s fu).2.2.2 lv σ')→(∀ k n,lv=.sl k 0 n false→σ.length≤k) →
   K (.tup [stV (runs b sd tg l s fu).2.1,lv,iv (runs b sd tg l s fu).2.2.1,iv (runs b sd tg l s fu).1]) σ') :
  g6.u VV [bkV b,stV s,.agg [iv sd,iv tg],efV l,iv fu] σ K:=by
 rw[H5.e]; unfold g6; dsimp only;refine Qa (v:=.bptr σ.length 0) (rd:=[]) (up:=[(σ.length,.box (bkC b))]) rfl (Yk σ _) ?_;have a0:=Agr.app1 σ (.box (bkC b));have b0:=Zf σ (.box (bkC b));have len0:(σ++[ABlk.box (bkC b)]).length=σ.length+1:=by simp
 generalize σ++[ABlk.box (bkC b)]=σ0 at *;refine Qa (v:=.bptr σ0.length 0) (rd:=[]) (up:=[(σ0.length,.box (stC s))]) rfl (Yk σ0 _) ?_;have a1:=a0.app' (.box (stC s));have b1:=Ze [ABlk.box (stC s)] b0 (by simp);have s1:=Zf σ0 (.box (stC s));have len1:(σ0++[ABlk.box (stC s)]).length=σ0.length+1:=by simp
 generalize σ0++[ABlk.box (stC s)]=σ1 at *;refine Qa (v:=.bptr σ1.length 0) (rd:=[]) (up:=[(σ1.length,.box [iv sd,iv tg])]) rfl (Yk σ1 _) ?_;have a2:=a1.app' (.box [iv sd,iv tg]);have b2:=Ze [ABlk.box [iv sd,iv tg]] b1 (by simp);have s2:=Ze [ABlk.box [iv sd,iv tg]] s1 (by simp);have v2:=Zf σ1 (.box [iv sd,iv tg]);have len2:(σ1++[ABlk.box [iv sd,iv tg]]).length=σ1.length+1:=by simp
 generalize σ1++[ABlk.box [iv sd,iv tg]]=σ2 at *;refine Qa (v:=.bptr σ2.length 0) (rd:=[]) (up:=[(σ2.length,.box zStC)]) rfl (Yk σ2 _) ?_;have a3:=a2.app' (.box zStC);have b3:=Ze [ABlk.box zStC] b2 (by simp);have s3:=Ze [ABlk.box zStC] s2 (by simp);have v3:=Ze [ABlk.box zStC] v2 (by simp);have z3:=Zf σ2 (.box zStC);have len3:(σ2++[ABlk.box zStC]).length=σ2.length+1:=by simp
 generalize σ2++[ABlk.box zStC]=σ3 at *;refine Za (v:=stV s) (ld s3 rfl) (XG (row:=stC s) (row':=stC s) rfl rfl rfl ?_);have a4:=a3.app' (.box (stC s));have b4:=Ze [ABlk.box (stC s)] b3 (by simp);have s4:=Ze [ABlk.box (stC s)] s3 (by simp);have v4:=Ze [ABlk.box (stC s)] v3 (by simp);have z4:=Ze [ABlk.box (stC s)] z3 (by simp);have p4:=Zf σ3 (.box (stC s));have len4:(σ3++[ABlk.box (stC s)]).length=σ3.length+1:=by simp
 generalize σ3++[ABlk.box (stC s)]=σ4 at *;refine Za rfl (Za (v:=iv8 s.phase) (ld s4 rfl) (Za (v:=.bool (s.phase==1)) rfl ?_));refine Zbv (v1:=.bptr σ0.length 5) (v2:=rowV s.attack) (v3:=iv s.attack.length) (d:=((s.attack.length:Int)==0)) (q3:=[]) rfl (ld (row:=stC s) s4 rfl) (by simp[Qp]) rfl ?_;refine Xj λk' ek=>?_;have hend:∀(t:St) (τ:List ABlk),StLe 1000000000 t→Agr σ τ []→hget τ σ.length=.box (bkC b)→hget τ σ0.length=.box (stC s)→hget τ σ1.length=.box [iv sd,iv tg]→hget τ σ2.length=.box zStC→hget τ σ3.length=.box (stC t) →
   (mayR (bkR b).1 b t false && !(decide (t.phase≠s.phase) && !s.struck))=mayR (bkR b).1 b s true→k' [] τ:=by
  intro t τ hts at_ bt st vt zt pt hmay;have ltz:=Xi zt (by simp);rw[ek]; clear ek;have c55':=c55 b hf hsm t hts;refine Za (v:=bkV b) (ld bt rfl) (Za (v:=stV t) (ld pt rfl) (Zc c55' rfl g16.ok.plain rfl ?_));refine Za (XS ..) ?_;have hcond:∀K':AVal→Prop,K' (.bool (!mayR (bkR b).1 b s true)) →
    VV.gr (.bool (decide ((bif mayR (bkR b).1 b t false then (0:Int) else 170)≠0))) false (λk=>VV.rd (Qc 2 [.bptr σ3.length 0] τ) k) λt34=>
    VV.gr (.bool (decide ((bif mayR (bkR b).1 b t false then (0:Int) else 170)≠0))) false (λk=>VV.rd (Zk false 1 [t34] τ) k) λt35=>
    VV.gr (.bool (decide ((bif mayR (bkR b).1 b t false then (0:Int) else 170)≠0))) false (λk=>VV.rd (Qc 2 [.bptr σ0.length 0] τ) k) λt36=>
    VV.gr (.bool (decide ((bif mayR (bkR b).1 b t false then (0:Int) else 170)≠0))) false (λk=>VV.rd (Zk false 1 [t36] τ) k) λt37=>
    VV.gr (.bool (decide ((bif mayR (bkR b).1 b t false then (0:Int) else 170)≠0))) false (λk=>VV.rd (Qm .neq false [t35,t37] τ) k) λt38=>
    VV.gr (.bool (decide ((bif mayR (bkR b).1 b t false then (0:Int) else 170)≠0))) false (λk=>VV.rd (Z7 [t38] τ) k) λt39=>
    VV.gr t39 true (λk=>VV.rd (Qc 3 [.bptr σ0.length 0] τ) k) λt40=>
    VV.gr t39 true (λk=>VV.rd (Zk false 1 [t40] τ) k) λt41=>
    VV.gr t39 true (λk=>VV.rd (Ybk .not [t41] τ) k) λt42=>
    VV.gr (.bool (decide ((bif mayR (bkR b).1 b t false then (0:Int) else 170)≠0))) false (λk=>VV.rd (Ql [t39,t42,(.bool false)] τ) k) λt43=>
    VV.rd (Ql [(.bool (decide ((bif mayR (bkR b).1 b t false then (0:Int) else 170)≠0))),(.bool true),t43] τ) K':=by
   intro K' hK';rw[←hmay] at hK';rcases YBE (mayR (bkR b).1 b t false) with q|q
   ·rw[q] at hK' ⊢;refine Ya (Za rfl (Ya (Za (v:=iv8 t.phase) (ld pt rfl) (Ya (Za rfl (Ya (Za (v:=iv8 s.phase) (ld st rfl) (Ya (Za (XS ..) (Ya (Za rfl ?_)))))))))));rcases YBE (decide (t.phase≠s.phase)) with u|u
    ·rw[u] at hK' ⊢;refine Ya (Za rfl (Ya (Za (v:=.bool s.struck) (ld st rfl) (Ya (Za rfl (Ya (Za rfl (Za rfl ?_))))))));simpa using hK'
    ·rw[u] at hK' ⊢;refine Xa rfl (Xa rfl (Xa rfl (Ya (Za rfl (Za rfl ?_)))));simpa using hK'
   ·rw[q] at hK' ⊢;refine Xa rfl (Xa rfl (Xa rfl (Xa rfl (Xa rfl (Xa rfl ?_)))));refine Qf rfl (Qf rfl (Qf rfl (Xa rfl (Za rfl ?_))));simpa using hK'
  refine hcond _ ?_;clear hcond;rcases YBE (mayR (bkR b).1 b s true) with hm|hm
  rotate_left
  ·rw[hm];refine Yd (Za (v:=.agg zStC) rfl (Qa (stv (row':=zStC) zt rfl rfl rfl) (Qi _ ltz) (Yi (YH ltz rfl) ?_)));exact hE1 hm _ (at_.setNew (by omega) _)
  rw[hm];refine Yc ?_;refine Za rfl (Za (v:=iv sd) (ld vt rfl) (Za (v:=.bool (decide (sd<0))) rfl ?_));refine ZaM (d:=decide (sd>1)) (v1:=.bptr σ1.length 0) (v2:=iv sd) (λ_=>rfl) (λ_=>ld vt rfl) (λ_=>rfl) ?_;refine Y2 (d:=decide (fu<0)) (v1:=iv fu) (λ_=>rfl) (λ_=>rfl) ?_;refine Y2 (d:=decide (fu>1000)) (v1:=iv fu) (λ_=>rfl) (λ_=>rfl) ?_;have hbad:ZM b sd fu l=true→∀K':AVal→Prop,True:=λ_ _=>trivial;have hlast:∀K':AVal→List ABlk→Prop,K' (.bool (ZM b sd fu l)) τ →
    VV.gr (.bool (((decide (sd<0)||decide (sd>1))||decide (fu<0))||decide (fu>1000))) false (λk=>VV.rd (Zk true 2 [.bptr σ.length 0] τ) k) λt64=>
    VV.gr (.bool (((decide (sd<0)||decide (sd>1))||decide (fu<0))||decide (fu>1000))) false (λk=>VV.rd (Z7 [efV l] τ) k) λt65=>
    VV.gw (.bool (((decide (sd<0)||decide (sd>1))||decide (fu<0))||decide (fu>1000))) false (λk=>VV.call (.call 17) [t64,t65] τ k) τ λt66 σ=>
    VV.gr (.bool (((decide (sd<0)||decide (sd>1))||decide (fu<0))||decide (fu>1000))) false (λk=>VV.rd (Ybk .not [t66] σ) k) λt67=>
    VV.rd (Ql [(.bool (((decide (sd<0)||decide (sd>1))||decide (fu<0))||decide (fu>1000))),(.bool true),t67] σ) (λv=>K' v σ):=by
   intro K' hK';unfold ZM at hK';rcases YBE (((decide (sd<0)||decide (sd>1))||decide (fu<0))||decide (fu>1000)) with q|q
   ·rw[q] at hK' ⊢;exact Xa rfl (Xa rfl (Ye rfl (Xa rfl (Za rfl hK'))))
   ·rw[q] at hK' ⊢;refine Ya (Za (v:=bkV b) (ld bt rfl) (Ya (Za rfl (Yb ?_))));refine Zc (c202 b hf hsm hc60 l hl hPl) rfl g17.ok.plain rfl (Ya (Za rfl (Za rfl hK')))
  refine hlast _ ?_;clear hlast hbad;rcases YBE (ZM b sd fu l) with hb|hb
  ·rw[hb];refine Yd (Za (v:=.agg zStC) rfl (Qa (stv (row':=zStC) zt rfl rfl rfl) (Qi _ ltz) (Yi (YH ltz rfl) ?_)));exact hE2 hm hb _ (at_.setNew (by omega) _)
  rw[hb];refine Yc ?_;have hb':=hb;unfold ZM at hb';simp only[Bool.or_eq_false_iff,decide_eq_false_iff_not,Bool.not_eq_false'] at hb';obtain⟨⟨⟨⟨h1,h2⟩,h3⟩,h4⟩,h5⟩:=hb';have hbk:=(YK.1 hm).1;have hM:=(YK.1 hm).2;obtain⟨hefs,hef2⟩:=XcG h5;refine Zd (v:=bkV b) (ld bt rfl) (Yg _) (Zd (v:=stV s) (ld st rfl) (Yg _) (Xe (c150P s hs) rfl g18.ok.plain rfl (Zd (v:=.agg [iv sd,iv tg]) (ld vt rfl) (Yg _) (Xb (v:=.agg (rnC b s sd tg .nils fu .nilf)) rfl ?_))));refine Zd (v:=.bptr τ.length 0) (rd:=[]) (up:=[(τ.length,.box (rnC b s sd tg .nils fu .nilf))]) rfl (Yk τ _) ?_;have hbt:=Xi bt (by simp);have hst:=Xi st (by simp);have hvt:=Xi vt (by simp);have w1:τ.length≠σ.length:=by omega
  have w2:τ.length≠σ0.length:=by omega
  have w3:τ.length≠σ1.length:=by omega
  have w4:τ.length≠σ2.length:=by omega
  refine Yn (by simp[Xl,Zt,Qn,QD,apart2,disj,List.range,List.range.loop]) ?_;have at2:=at_.app' (.box (rnC b s sd tg .nils fu .nilf));have rt2:=Zf τ (.box (rnC b s sd tg .nils fu .nilf));have zt2:=Ze [ABlk.box (rnC b s sd tg .nils fu .nilf)] zt (by simp);have lent2:(τ++[ABlk.box (rnC b s sd tg .nils fu .nilf)]).length=τ.length+1:=by simp
  generalize τ++[ABlk.box (rnC b s sd tg .nils fu .nilf)]=τ2 at *;refine Xg hP (f:=19) rfl g19.ok rfl ?_;refine run_w b (b.cards++[newC b.cards l]) sd tg (by omega) hf hsm hbk l τ2 τ.length s fu .nilf .nils [] N C 1 _ rt2 (.inl ⟨rfl,rfl⟩) hl hefs hef2 ⟨hM,hT,hC⟩ (by omega) (by omega) (by simp; omega) (by omega) (by omega) (λv τ3 hD=>?_);obtain⟨lv',mv',p1,p2,rfl,p4⟩:=hD;rw[List.nil_append] at p4;have hK':=hK hm hb;generalize runs b sd tg l s fu=r at *;have hlvc:∃cs,True:=⟨0,trivial⟩;have hl0:LV τ.length [] AVal.nils τ2:=.inl ⟨rfl,rfl⟩;have zt3:=p1.get hl0 zt2 w4.symm;have hz3:=Xi zt3 (by simp);refine Xb rfl (Xb rfl (Zd (v:=stV r.2.1) (ld p2 rfl) (Yg _) (Xb rfl (Xb rfl (Zd (v:=lv') (ld p2 rfl) (Yg _) (Xb rfl (Xb rfl (Zd (v:=iv r.2.2.1) (ld p2 rfl) (Yg _) ?_))))))));refine Zd (stv (row':=stC r.2.1) zt3 rfl rfl rfl) (Qi _ hz3) ?_;refine Yn (by simp[Xl,Zt,Qn,QD,apart2,disj,List.range,List.range.loop,w4,w4.symm]) (Yi (YH hz3 rfl) ?_);have hnew:∀k n,lv'=.sl k 0 n false→τ2.length≤k:=by
   intro k n e;rcases p1.new k n e with h|⟨m,h⟩
   ·exact h
   ·cases h
  have at3:Agr σ τ3 []:=⟨Nat.le_trans at2.1 p1.len,λk hk _=>by rw[p1.keep k (Nat.lt_of_lt_of_le hk at2.1) (by omega) (by intro n e; cases e),at2.2 k hk (by simp)]⟩;refine hK' _ lv' (at3.setNew (by omega) _) (λq=>?_) (λk n e=>by have:=hnew k n e; omega);have hlw:=(p4 q).lw;rcases hlw with h|⟨g0,c,rows,g1,g2,g9993⟩
  ·exact .inl h
  ·refine .inr ⟨g0,c,rows,g1,?_,g9993⟩;have:=hnew c _ g1;rw[Xd _ (Xi g2 (by simp)) (by omega)]; exact g2
 rcases YBE ((s.phase==1)&&((s.attack.length:Int)==0)) with hq|hq
 ·rw[hq];simp only[Bool.and_eq_true,beq_iff_eq] at hq;have hlp:=Xi p4 (by simp);refine Yd (Za rfl (Qa (stv (row:=stC s) (row':=stC { s with phase:=0 }) p4 rfl rfl rfl) (Qi _ hlp) ?_));refine hend { s with phase:=0 } _ ⟨hs.attack,hs.s0,hs.s1⟩ (a4.setNew (by omega) _) (Qe b4 (by simp) (by omega)) (Qe s4 (by simp) (by omega)) (Qe v4 (by simp) (by omega)) (Qe z4 (by simp) (by omega)) (Xf _ hlp) ?_;rw[ZbT hq.1 (by omega),show decide (({ s with phase:=0 }:St).phase≠s.phase)=true from by simp[hq.1]];simp
 ·rw[hq];refine Yc ?_;refine hend s _ hs a4 b4 s4 v4 z4 p4 ?_;rw[show decide (s.phase≠s.phase)=false from by simp];simp only[Bool.false_and,Bool.not_false,Bool.and_true];rw[Bool.eq_iff_iff];exact⟨QcK,λh=>QbE h (λhp e=>by simp[hp,e] at hq)⟩
end Go.Ah.Tz
end
section
namespace Go.Ah
theorem Tidy.map{σ:List ABlk}{v:AVal}(φ:AVal→AVal)(hφ:∀(M:Nat→Option Obj) (c:Own) (x:AVal) (u:Value),Den M c x u→Den M c (φ x) u):Tidy σ v (σ.map (λb=>b.mapV φ)) v:=by
 intro GL w0 L g w r u d;have back:∀k blk,hp (σ.map (λb=>b.mapV φ)) k=some blk→∃b0,hp σ k=some b0∧blk=b0.mapV φ:=by
  intro k blk e;have e:(σ.map (λb=>b.mapV φ))[k]?=some blk:=e;rw[List.getElem?_map,Option.map_eq_some_iff] at e;obtain⟨b0,h1,h2⟩:=e;exact⟨b0,h1,h2.symm⟩
 refine⟨g.c,?_,d⟩;exact {
  keeps:=r.keeps
  stable:=r.stable
  src:=r.src
  globs:=r.globs
  empt:=λk e=>r.empt k (by
   have e:(σ.map (λb=>b.mapV φ))[k]?=none:=e;rw[List.getElem?_map,Option.map_eq_none_iff] at e;exact e)
  dom:=λk blk e=>by
   obtain⟨b0,h1,_⟩:=back k blk e;exact r.dom k b0 h1
  own:=λk blk cb e hl ec hv=>by
   obtain⟨b0,h1,rfl⟩:=back k blk e;rw[ABlk.mapV_live] at hl;obtain⟨q1,q2,o,q3,q4⟩:=r.own k b0 cb h1 hl ec hv;exact⟨q1,q2,o,q3,q4.mapV (p:=λ_=>True) (λx v _ d=>hφ _ _ x v d) (ABlk.all_true _)⟩
  hollow:=λk blk cb e hl ec hv=>by
   obtain⟨b0,h1,rfl⟩:=back k blk e;rw[ABlk.mapV_live] at hl;have:=r.hollow k b0 cb h1 hl ec hv;subst this;rfl
  inj:=λk k' x x' cb1 cb2 e1 e2 l1 l2 c1 c2' v1 v2 hblk=>by
   obtain⟨y,h1,rfl⟩:=back k x e1;obtain⟨y',h1',rfl⟩:=back k' x' e2;rw[ABlk.mapV_live] at l1 l2;exact r.inj k k' y y' cb1 cb2 h1 h1' l1 l2 c1 c2' v1 v2 hblk }
theorem Tidy.ghostT{σ:List ABlk}{a b c:AVal}(sz:Nat)(ha:a.ro=true)(hb:b.ro=true)(hc:c.ro=true):Tidy σ (.tup [a,.nils,b,c]) (σ++[.rows sz []]) (.tup [a,.sl σ.length 0 0 false,b,c]):=by
 intro GL w0 L g w r u d;have r2:=r.ghost (Qao σ) sz;rw[YcH] at r2;have d:Den g.M g.c (.tup [a,.nils,b,c]) u:=d;cases d with
 |tup _ _ vs hs hd=>
  refine⟨_,r2,.tup _ _ vs (by simpa using hs) (λi x v e1 e2=>?_)⟩
  match i with
  |0=>
   simp at e1; subst e1;exact Den.ro (hd 0 a v rfl e2) ha _
  |1=>
   simp at e1; subst e1;have:=hd 1 .nils v rfl e2;cases this;exact .slv _ _ _ _ _ (Xt _ _ _) rfl
  |2=>
   simp at e1; subst e1;exact Den.ro (hd 2 b v rfl e2) hb _
  |3=>
   simp at e1; subst e1;exact Den.ro (hd 3 c v rfl e2) hc _
  |i+4=>simp at e1
end Go.Ah
namespace Go.Ah.Tz
open Go.Proofs.Tryz (prog)
set_option maxRecDepth 100000
def noNil(x:AVal):AVal:=match x with
 |.nils=>.rsl false false 1 []
 |x=>x
theorem Qb6(M:Nat→Option Obj)(c:Own)(x:AVal)(u:Value)(d:Den M c x u):Den M c (noNil x) u:=by
 cases x with
 |nils=>exact d.nils_rsl 1
 |_=>exact d
theorem Zb3{rows:List (List AVal)}{l:List Ev}(h:EvRs rows l):rows.map (λr=>r.map noNil)=l.map evC:=by
 induction h with
 |nil=>rfl
 |snoc rows l e cv _ hcv ih=>
  simp only[List.map_append,List.map_cons,List.map_nil,ih]
  congr 1
  rcases hcv with rfl|⟨rfl,h⟩
  ·rfl
  ·rw[evC,h]; rfl
theorem Zdo{rows:List (List AVal)}{l:List Ev}(h:EvRs rows l):∀r∈rows,roL r=true:=by
 induction h with
 |nil=>intro r hr; simp at hr
 |snoc rows l e cv _ hcv ih=>
  intro r hr;rcases List.mem_append.1 hr with hr|hr
  ·exact ih r hr
  ·rw[List.mem_singleton] at hr; subst hr;rcases hcv with rfl|⟨rfl,_⟩<;>rfl
theorem ZcG(m:Nat→Option Nat)(e:Ev):(evC e).map (AVal.ren m)=evC e:=rfl
theorem LW.tidy{l:List Ev}{lv:AVal}{σ:List ABlk}(h:LW l lv σ)(s:St)(b c:Int):Tidy σ (.tup [stV s,lv,iv b,iv c]) [.rows 7 (l.map evC)] (.tup [stV s,.sl 0 0 l.length false,iv b,iv c]):=by
 rcases h with ⟨rfl,rfl⟩|⟨_,k,rows,rfl,hk,hR⟩
 ·refine Tidy.trans (Tidy.ghostT 7 rfl rfl rfl) ?_;have:=Tidy.one (σ:=σ++[.rows 7 []]) (b:=σ.length) (blk:=.rows 7 []) (by simp) (λn=>if n=σ.length then some 0 else none) (λn=>rfl) (.tup [stV s,.sl σ.length 0 0 false,iv b,iv c]);simpa[AVal.ren,renL,ABlk.mapV] using this
 ·refine Tidy.trans (Tidy.map noNil Qb6) ?_;have hk':(σ.map (λb=>b.mapV noNil))[k]?=some (.rows 7 (l.map evC)):=by
   rw[List.getElem?_map,XV hk (by simp)];show some (ABlk.rows 7 (rows.map λr=>r.map noNil))=_;rw[Zb3 hR]
  have:=Tidy.one hk' (λn=>if n=k then some 0 else none) (λn=>rfl) (.tup [stV s,.sl k 0 l.length false,iv b,iv c]);have e1:(ABlk.rows 7 (l.map evC)).mapV (AVal.ren λn=>if n=k then some 0 else none)=.rows 7 (l.map evC):=by
   simp only[ABlk.mapV,XM (ZcG _)]
  rw[e1] at this;simpa[AVal.ren,renL] using this
theorem LW.bor{l:List Ev}{lv:AVal}{σ:List ABlk}(h:LW l lv σ)(s:St)(b c:Int):∃rd,Bor (hp σ) rd (.tup [stV s,lv,iv b,iv c]) (.tup [stV s,.rsl false false 7 (l.map evC),iv b,iv c]):=by
 rcases h with ⟨rfl,rfl⟩|⟨_,k,rows,rfl,hk,hR⟩
 ·exact⟨[],Bor.tup (.cons (Bor.ro rfl) (.cons (Bor.weak (Bor.ro rfl) (λM u d=>d.nils_rsl 7)) (.cons (Bor.ro rfl) (.cons (Bor.ro rfl) .nil))))⟩
 ·refine⟨[k],Bor.tup (.cons (Bor.ro rfl) (.cons (Bor.weak (y:=.rsl false false 7 (l.map evC)) ?_ (λM u d=>d)) (.cons (Bor.ro rfl) (.cons (Bor.ro rfl) .nil))))⟩;refine Bor.weak (y:=.rsl false false 7 (l.map evC)) (Bor.weak (Bor.sl (rs:=rows) (rs':=l.map evC) (XV hk (by simp)) (by simp) (by rw[hR.len]; omega) (by simp) (λi row row' q1 q2=>?_)) (λM u d=>d.rsl_weak)) (λM u d=>d);rw[Nat.zero_add] at q1;have hm:=Zb3 hR;have h1:(rows.map λr=>r.map noNil)[i]?=some (row.map noNil):=by rw[List.getElem?_map,q1]; rfl
  rw[hm,q2] at h1;cases h1;have hro:=Zdo hR row (List.mem_of_getElem? q1);clear hm q2 q1
  induction row with
  |nil=>exact .nil
  |cons x row ih=>
   simp only[roL,Bool.and_eq_true] at hro;exact .cons (Bor.weak (Bor.ro hro.1) (λM u d=>Qb6 M noOwn x u d)) (ih hro.2)
section
variable (b:Bk) (hf:bkFit b=true) (hsm:Yj b.cards) (hc60:b.cards.length≤60) (s:St) (hs:StLe 1000000000 s) (sd tg fu:Int) (l:List Ef) (hl:lsFit l=true) (hPl:(efPs l).length≤500000000) (N C:Nat) (hT:TB N s) (hN:N+12000≤1000000) (hC:Zp s≤C) (hC2:C+200≤1000000)
 (hm:mayR (bkR b).1 b s true=true) (hb:ZM b sd fu l=false) (hr:(runs b sd tg l s fu).1=0∨(runs b sd tg l s fu).1=190)
include hf hsm hc60 hs hl hPl hT hN hC hC2 hm hb hr
theorem c79N:NCall prog GL0 6 [bkV b,stV s,.agg [iv sd,iv tg],efV l,iv fu] (.tup [stV (runs b sd tg l s fu).2.1,.sl 0 0 (runs b sd tg l s fu).2.2.2.length false,iv (runs b sd tg l s fu).2.2.1,iv (runs b sd tg l s fu).1]) [.rows 7 ((runs b sd tg l s fu).2.2.2.map evC)]:=by
 refine Zw hP g6.ok rfl ?_;exact ZbV b hf hsm hc60 s hs sd tg fu l hl hPl N C hT hN hC hC2 (λh=>by rw[hm] at h; cases h) (λ_ h=>by rw[hb] at h; cases h) (λ_ _ σ' lv _ h _=>(h hr).tidy _ _ _)
theorem c79P:PC 6 [bkV b,stV s,.agg [iv sd,iv tg],efV l,iv fu] (.tup [stV (runs b sd tg l s fu).2.1,.rsl false false 7 ((runs b sd tg l s fu).2.2.2.map evC),iv (runs b sd tg l s fu).2.2.1,iv (runs b sd tg l s fu).1]):=by
 refine Yt hP g6.ok rfl ?_;exact ZbV b hf hsm hc60 s hs sd tg fu l hl hPl N C hT hN hC hC2 (λh=>by rw[hm] at h; cases h) (λ_ h=>by rw[hb] at h; cases h) (λ_ _ σ' lv _ h _=>(h hr).bor _ _ _)
end
end Go.Ah.Tz
end
section
namespace Go.Ah.Tz
open Go.Proofs.Tryz (prog)
set_option maxRecDepth 100000
theorem Ya4(b:Bk)(sd tg:Int):∀(l m:List Ef) (s:St) (fu:Int),runs b sd tg (l++m) s fu =
  if (runs b sd tg l s fu).1=0 then ((runs b sd tg m (runs b sd tg l s fu).2.1 (runs b sd tg l s fu).2.2.1).1,(runs b sd tg m (runs b sd tg l s fu).2.1 (runs b sd tg l s fu).2.2.1).2.1,
   (runs b sd tg m (runs b sd tg l s fu).2.1 (runs b sd tg l s fu).2.2.1).2.2.1,(runs b sd tg l s fu).2.2.2 ++ (runs b sd tg m (runs b sd tg l s fu).2.1 (runs b sd tg l s fu).2.2.1).2.2.2)
  else runs b sd tg l s fu
 |[],m,s,fu=>by rw[List.nil_append,show runs b sd tg [] s fu=(0,s,fu,[]) from by rw[runs]]; simp
 |x::l,m,s,fu=>by
  rw[List.cons_append,runs,runs];by_cases h:(run1 b sd tg x s fu).1=0
  ·rw[if_pos h,if_pos h,Ya4 b sd tg l m];generalize runs b sd tg l (run1 b sd tg x s fu).2.1 (run1 b sd tg x s fu).2.2.1=q;by_cases h2:q.1=0
   ·rw[if_pos h2,if_pos h2]; simp
   ·rw[if_neg h2,if_neg h2]
  ·rw[if_neg h,if_neg h,if_neg h]
theorem Qbe{a c:Cd}(h1:a.name=c.name)(h2:a.unit=c.unit)(t:Tx)(u:Bool):∀p:List Cd,findC (p++[a]) t u=findC (p++[c]) t u
 |[]=>by simp[findC,h1,h2]
 |d::p=>by simp only[List.cons_append,findC,Qbe h1 h2 t u p]
mutual
theorem Zbc {A B:List Cd} (h:∀t u,findC A t u=findC B t u) (tt:Bool):∀x:Cn,cnOk A tt x=cnOk B tt x
 |.mk op who name nums kids=>by rw[cnOk,cnOk,QaU h tt kids]; simp only[cnEnd,h]
theorem QaU {A B:List Cd} (h:∀t u,findC A t u=findC B t u) (tt:Bool):∀l:List Cn,cnsOk A tt l=cnsOk B tt l
 |[]=>rfl
 |x::l=>by rw[cnsOk,cnsOk,Zbc h tt x,QaU h tt l]
end
mutual
theorem Yce {A B:List Cd} (h:∀t u,findC A t u=findC B t u) (tt:Bool):∀(d:Int) (x:Ef),efOk A tt d x=efOk B tt d x
 |d,.mk op who n name c thn els=>by
  rw[efOk,efOk,Xaa h tt (d+1) thn,Xaa h tt (d+1) els,Zbc h tt c,h]
theorem Xaa {A B:List Cd} (h:∀t u,findC A t u=findC B t u) (tt:Bool):∀(d:Int) (l:List Ef),efsOk A tt d l=efsOk B tt d l
 |d,[]=>rfl
 |d,x::l=>by rw[efsOk,efsOk,Yce h tt d x,Xaa h tt d l]
end
theorem Ybb{A B:List Cd}(h:∀t u,findC A t u=findC B t u)(c:Cd):cdOk A c=cdOk B c:=by
 simp only[cdOk,lstOk,Xaa h]
theorem Xbb{A B:List Cd}{a c:Cd}(hn:a.name=c.name)(hAB:∀x,cdOk A x=cdOk B x)(hac:cdOk A a=true→cdOk B c=true):∀(l pre:List Cd),(cdsGo A pre (l++[a])).1=0→(cdsGo B pre (l++[c])).1=0
 |[],pre,h=>by
  simp only[List.nil_append,cdsGo] at h ⊢;rw[←hn];split at h
  ·exact absurd h (by first|exact nz101|exact nz130)
  split at h
  ·rename_i q1 q2;rw[if_neg q1,if_pos (hac q2)]
  ·exact absurd h (by first|exact nz101|exact nz130)
 |x::l,pre,h=>by
  simp only[List.cons_append,cdsGo] at h ⊢;split at h
  ·exact absurd h (by first|exact nz101|exact nz130)
  split at h
  ·rename_i q1 q2;rw[if_neg q1,if_pos (by rw[←hAB]; exact q2)];exact Xbb hn hAB hac l _ h
  ·exact absurd h (by first|exact nz101|exact nz130)
theorem ZaJ{cs:List Cd}{t:Bool}{d:Int}:∀ {l m:List Ef},efsOk cs t d (l++m)=(efsOk cs t d l&&efsOk cs t d m)
 |[],m=>by simp[efsOk]
 |x::l,m=>by simp only[List.cons_append,efsOk,ZaJ,Bool.and_assoc]
theorem Qaq:∀l m:List Ef,efPs (l++m)=efPs l++efPs m
 |[],m=>by simp[efPs]
 |x::l,m=>by simp[efPs,Qaq l m]
theorem Yax:∀l m:List Ef,QU (l++m)=(QU l&&QU m)
 |[],m=>by simp[QU]
 |x::l,m=>by simp only[List.cons_append,QU,Yax l m,Bool.and_assoc]
theorem YbB{b:Bk}{l m k:List Ef}(h:fitsB b (l++(m++k))=true):fitsB b m=true:=by
 have h:=of_decide_eq_true h;refine decide_eq_true ?_;have hf:∀t u,findC (b.cards++[newC b.cards (l++(m++k))]) t u=findC (b.cards++[newC b.cards m]) t u:=λt u=>Qbe (a:=newC b.cards (l++(m++k))) (c:=newC b.cards m) rfl rfl t u b.cards;unfold QY at h ⊢;simp only[List.length_append,List.length_cons,List.length_nil] at h ⊢;split at h
 ·exact absurd h (by decide)
 rename_i q;rw[if_neg q];refine Xbb (a:=newC b.cards (l++(m++k))) (c:=newC b.cards m) rfl (λx=>Ybb hf x) (λq=>?_) b.cards [] h;rw[Ybb hf] at q;simp only[cdOk,Bool.and_eq_true,decide_eq_true_eq] at q ⊢;obtain⟨q1,q2,q3,q4,q5,q6,q7,q8,q9,q10,q11,q12⟩:=q;refine⟨q1,q2,q3,q4,q5,q6,q7,q8,?_,?_,q11,q12⟩
 ·rw[Xcu] at q9 ⊢;have e1:(cdP (newC b.cards (l++(m++k)))).length=(efPs l).length+((efPs m).length+(efPs k).length):=by simp[cdP,newC,efPs,Qaq]
  have e2:(cdP (newC b.cards m)).length=(efPs m).length:=by simp[cdP,newC,efPs]
  omega
 ·simp only[newC,lstOk,Bool.and_eq_true,decide_eq_true_eq,ZaJ,List.length_append] at q10 ⊢;exact⟨decide_eq_true (by have:=q10.1; omega),q10.2.1,q10.2.2.2.1⟩
mutual
def costE:Ef→Int
 |.mk op _ _ _ _ thn els=>if op=8 then max (costL 0 thn) (costL 0 els) else if op=5 then 0 else 1
def costL:Int→List Ef→Int
 |n,[]=>n
 |n,x::l=>costL (min (n+costE x) 1073741824) l
end
mutual
theorem Ybo:∀x:Ef,(efP x).length≤1000000→0≤costE x∧costE x≤(efP x).length
 |.mk op who n name c thn els,h=>by
  rw[costE]
  have h1:1≤(efP (.mk op who n name c thn els)).length:=by simp[efP]
  split
  ·rename_i h8
   have hl:(efPs thn).length+(efPs els).length≤(efP (.mk op who n name c thn els)).length:=by simp[efP,h8]; omega
   have q1:=YaP thn 0 (by omega) (by omega)
   have q2:=YaP els 0 (by omega) (by omega)
   omega
  ·split<;>omega
theorem YaP:∀(l:List Ef) (n:Int),0≤n→n+(efPs l).length≤1000000→n≤costL n l∧costL n l≤n+(efPs l).length
 |[],n,h,h2=>by rw[costL]; omega
 |x::l,n,h,h2=>by
  rw[costL]
  have hl:(efPs (x::l)).length=(efP x).length+(efPs l).length:=by simp[efPs]
  have q1:=Ybo x (by omega)
  have q2:=YaP l (n+costE x) (by omega) (by omega)
  rw[show min (n+costE x) 1073741824=n+costE x from by omega]
  omega
end
mutual
theorem XcP (b:Bk) (sd tg:Int):∀(x:Ef) (s:St) (fu:Int),(efP x).length≤1000000→fu-(run1 b sd tg x s fu).2.2.1≤costE x
 |.mk op who n name c thn els,s,fu,h=>by
  rw[run1,costE]
  split
  ·rename_i h8
   have hl:(efPs thn).length+(efPs els).length≤(efP (.mk op who n name c thn els)).length:=by simp[efP,h8]; omega
   split
   ·have:=QaA b sd tg thn s fu 0 (by omega) (by omega); omega
   ·have:=QaA b sd tg els s fu 0 (by omega) (by omega); omega
  ·rename_i h8
   have hu:usesF op=if op=5 then 0 else 1:=rfl
   split
   ·show fu-fu≤_
    split<;>omega
   ·have key:∀(p:Prop) [Decidable p],fu-(if p then fu-usesF op else fu)≤if op=5 then 0 else 1:=by
     intro p _
     rw[hu]
     split<;>split<;>omega
    exact key _
theorem QaA (b:Bk) (sd tg:Int):∀(l:List Ef) (s:St) (fu n:Int),0≤n→n+(efPs l).length≤1000000→fu-(runs b sd tg l s fu).2.2.1+n≤costL n l
 |[],s,fu,n,h,h2=>by rw[runs,costL]; show fu-fu+n≤n; omega
 |x::l,s,fu,n,h,h2=>by
  have hl:(efPs (x::l)).length=(efP x).length+(efPs l).length:=by simp[efPs]
  have q0:=Ybo x (by omega)
  have q1:=XcP b sd tg x s fu (by omega)
  rw[runs,costL,show min (n+costE x) 1073741824=n+costE x from by omega]
  split
  ·have q2:=QaA b sd tg l (run1 b sd tg x s fu).2.1 (run1 b sd tg x s fu).2.2.1 (n+costE x) (by omega) (by omega)
   show fu-(runs b sd tg l (run1 b sd tg x s fu).2.1 (run1 b sd tg x s fu).2.2.1).2.2.1+n≤_
   omega
  ·have q2:=YaP l (n+costE x) (by omega) (by omega)
   omega
end
attribute [local irreducible] Ans.rd Ans.pu Ans.wr Ans.dr Ans.gr Ans.gw Ans.gl Ans.gd Ans.opt joinK W
set_option maxHeartbeats 4000000
theorem c81x:∀(m:Nat) (l:List Ef),(efPs l).length≤m→m≤1000000→lsFit l=true→PC 8 [efV l] (iv (costL 0 l)):=by
 intro m
 induction m using Nat.strongRecOn with
 |_ m IH=>
 intro l hlm hm hfit;have hlen:=YM hfit;rw[bigE] at hlen;refine Qb hP g8.ok rfl rfl ?_;rw[H1.e]; unfold g8; dsimp only;refine Za (v:=iv l.length) (rd:=[]) (by simp[Qp]) ?_;refine Xn (ι:=Nat) (λi vs τ=>∃n,vs=[iv i,iv n]∧i≤l.length∧costL 0 l=costL n (l.drop i)∧0≤n∧n+(efPs (l.drop i)).length≤1000000∧(efPs (l.drop i)).length≤(efPs l).length) (λi=>l.length-i) 0 ⟨0,rfl,by omega,rfl,by omega,by simp; omega,Nat.le_refl _⟩ ?_;rintro i vs τ again ⟨n,rfl,hi,hc,hn0,hn1,hsub⟩ hag;refine Za rfl (Zb (λh=>?_) (λh=>?_));rotate_left
 ·have h:i=l.length:=by simp at h; omega
  subst h;rw[List.drop_length,costL] at hc;rw[hc]; rfl
 have h:i<l.length:=by simpa using h
 have hdrop:l.drop i=l[i]::l.drop (i+1):=YLD h;have hmem:=List.getElem_mem h;have hxf:=Z1 hfit hmem;have hix:=λ(σ:List ABlk)=>Xw σ efC false false 14 l .i64 i h;rw[hdrop] at hc hn1 hsub;generalize l[i]=x at *;have hsum:(efPs (x::l.drop (i+1))).length=(efP x).length+(efPs (l.drop (i+1))).length:=by simp[efPs]
 rw[hsum] at hn1 hsub;rw[costL] at hc;have hb:=Ybo x (by omega);refine Za (hix _) (Za (ldr (efLd _)) (XG (row:=efC x) (row':=efC x) (by rw[Qv]; rfl) (by rw[Qv]; rfl) (by rw[Qv]; rfl) ?_));have x1:=Zf τ (.box (efC x));generalize τ++[ABlk.box (efC x)]=τ1 at *;refine Za rfl (Za (ld x1 (efLd0 x)) (Xj λk' ek=>?_));have fin:k' [iv (n+costE x)] τ1:=by
  rw[ek];refine Za (XU ..) (Za (Zl ..) ?_);rw[Zg (n:=i) (by omega)];rw[show min (n+costE x) 1073741824=n+costE x from by omega] at hc ⊢;exact hag (i+1) _ _ (by omega) ⟨n+costE x,rfl,by omega,hc,by omega,by omega,by omega⟩
 clear ek hag;refine Za (Yf ..) (Zb (λh8=>?_) (λh8=>?_))
 ·have h8:x.op=8:=by simpa using h8
  have hcs:(efPs x.thn).length<(efP x).length∧(efPs x.els).length<(efP x).length:=by
   cases x; simp[Ef.op] at h8; simp[efP,h8,Ef.thn,Ef.els]; omega
  have hce:costE x=max (costL 0 x.thn) (costL 0 x.els):=by cases x; simp[Ef.op] at h8; rw[costE,if_pos h8]; rfl
  refine Xb rfl (Zd (v:=efV x.thn) (ld x1 (by rw[Qv]; rfl)) (Yg _) (Xe (IH (efPs x.thn).length (by omega) x.thn (Nat.le_refl _) (by omega) (Y0 hxf)) rfl g8.ok.plain rfl ?_));refine Xb rfl (Zd (v:=efV x.els) (ld x1 (by rw[Qv]; rfl)) (Yg _) (Xe (IH (efPs x.els).length (by omega) x.els (Nat.le_refl _) (by omega) (Z0 hxf)) rfl g8.ok.plain rfl ?_));refine Xb (Qad ..) (Xb (Zl ..) (Yn (by simp[Xl,Zt,Qn,QD,apart2,disj,List.range,List.range.loop]) ?_));rw[←hce,IntWalk.i64_in _ (by omega)];exact fin
 ·have h8:x.op≠8:=by simpa using h8
  have hce:costE x=if x.op=5 then 0 else 1:=by cases x; simp[Ef.op] at h8; rw[costE,if_neg h8]; rfl
  refine Za (Yf ..) (Zb (λh5=>?_) (λh5=>?_))
  ·have h5:x.op=5:=by simpa using h5
   rw[hce,if_pos h5,Int.add_zero] at fin;exact fin
  ·have h5:x.op≠5:=by simpa using h5
   rw[hce,if_neg h5] at fin;refine Za (Zl ..) ?_;rw[IntWalk.i64_in _ (by omega)];exact fin
end Go.Ah.Tz
end
section
namespace Go.Ah.Tz
open Go.Proofs.Tryz (prog)
set_option maxRecDepth 100000
theorem ZcB(n by_:Nat){σ:List ABlk}{b len:Nat}{ex e nn:Bool}{rs rs2:List (List AVal)}(hb:hget σ b=.rows n rs)(hl:rs.length=len)(hr:Zv rs2=true)(hroom:(2*(len+rs2.length)+192)*by_≤2 ^ 48) :
  Zo n by_ [.sl b 0 len ex,.rsl e nn n rs2] σ=.ok (.sl σ.length 0 (len+rs2.length) false) [] ([(b,.dead)]++[(σ.length,.rows n (rs++rs2))]):=by
 have h2:Nat.ble ((2*(len+rs2.length)+192)*by_) (2 ^ 48)=true:=Nat.ble_eq_true_of_le hroom;have h1:Xr n σ (.rsl e nn n rs2)=some (rs2,[]):=by simp[Xr]
 have:Zo n by_ [.sl b 0 len ex,.rsl e nn n rs2] σ=QJ n by_ σ rs [(b,.dead)] (.rsl e nn n rs2):=by
  simp[Zo,YaI,hb,hl]
 rw[this];unfold QJ;simp only[h1,hr,h2,Bool.and_self,cond_true,hl]
theorem Xa3:∀l:List Ev,Zv (l.map evC)=true
 |[]=>rfl
 |e::l=>by simp only[List.map_cons,Zv,Xa3 l,Bool.and_true]; rfl
theorem Ydn(l:List Ef)(j:Nat)(h:j≤l.length)(σ:List ABlk):YB 14 [efV l,iv j] σ=.ok (efV (l.take j)) [] []:=by
 have h1:Nat.ble j (l.map efC).length=true:=Nat.ble_eq_true_of_le (by simpa using h);have h2:cut 0 j (l.map efC)=(l.take j).map efC:=by unfold cut; rw[List.drop_zero,List.map_take]
 show (bif Nat.beq 14 14&&Nat.ble j (l.map efC).length then SRes.ok (.rsl false false 14 (cut 0 j (l.map efC))) [] [] else .stop)=_;rw[h1,h2]; rfl
theorem Ydm(l:List Ef)(j:Nat)(h:j≤l.length)(σ:List ABlk):QF 14 [efV l,iv j] σ=.ok (efV (l.drop j)) [] []:=by
 have h1:Nat.ble j (l.map efC).length=true:=Nat.ble_eq_true_of_le (by simpa using h);have h2:cut j (l.map efC).length (l.map efC)=(l.drop j).map efC:=by unfold cut; rw[List.take_length,List.map_drop]
 show (bif Nat.beq 14 14&&Nat.ble j (l.map efC).length then SRes.ok (.rsl false false 14 (cut j (l.map efC).length (l.map efC))) [] [] else .stop)=_;rw[h1,h2]; rfl
theorem XdD(ib:Bool)(a:Int)(n:Nat)(h:n≠0)(σ:List ABlk):Qm .rem ib [iv a,iv n] σ=.ok (iv (a.tmod n)) [] []:=by
 cases n with
 |zero=>exact(h rfl).elim
 |succ n=>rfl
attribute [local irreducible] Ans.rd Ans.pu Ans.wr Ans.dr Ans.gr Ans.gw Ans.gl Ans.gd Ans.opt joinK W
set_option maxHeartbeats 8000000
theorem c109x(s:St)(hs:StLe 2000000 s):PC 11 [stV s] (.bool (decide (1000<sizeN s))):=by
 have a0:=hs.attack;obtain⟨d0,h0,g0,u0,t0⟩:=hs.s0;obtain⟨d1,h1,g1,u1,t1⟩:=hs.s1;refine Qb hP g11.ok rfl rfl ?_;rw[H1.e]; unfold g11; dsimp only;refine Qa rfl rfl (Za rfl (Za rfl (Za (v:=iv s.attack.length) (rd:=[]) (by simp[Qd]) (QP 3 (Qk ?_)))));refine Za rfl (Yd (Za rfl (Za rfl (Za rfl (Qa rfl rfl (Qa rfl rfl ?_))))));refine Za rfl (Za rfl (Za (v:=iv s.s0.deck.length) (rd:=[]) (by simp[Qd]) (Za (Zl ..) ?_)));rw[IntWalk.i64_in ((s.attack.length:Int)+s.s0.deck.length) (by omega)];refine Za rfl (Za rfl (Za (v:=iv s.s0.hand.length) (rd:=[]) (by simp[Qd]) (Za (Zl ..) ?_)));rw[IntWalk.i64_in ((s.attack.length:Int)+s.s0.deck.length+s.s0.hand.length) (by omega)];refine Za rfl (Za rfl (Za (v:=iv s.s0.grave.length) (rd:=[]) (by simp[Qd]) (Za (Zl ..) ?_)));rw[IntWalk.i64_in ((s.attack.length:Int)+s.s0.deck.length+s.s0.hand.length+s.s0.grave.length) (by omega)];refine Za rfl (Za rfl (Za (v:=iv s.s0.units.length) (rd:=[]) (by simp[Qd]) (Za (Zl ..) ?_)));rw[IntWalk.i64_in ((s.attack.length:Int)+s.s0.deck.length+s.s0.hand.length+s.s0.grave.length+s.s0.units.length) (by omega)];refine Za rfl (Za rfl (Za (v:=iv s.s0.told.length) (rd:=[]) (by simp[Qd]) (Za (Zl ..) ?_)));rw[IntWalk.i64_in ((s.attack.length:Int)+s.s0.deck.length+s.s0.hand.length+s.s0.grave.length+s.s0.units.length+s.s0.told.length) (by omega)];generalize hA:(s.attack.length:Int)+s.s0.deck.length+s.s0.hand.length+s.s0.grave.length+s.s0.units.length+s.s0.told.length=A;refine Za (Zl ..) ?_;rw[show IntKind.i64.wrap (0+1)=1 from by decide];refine Qk ?_;refine Za rfl (Yd (Za rfl (Za rfl (Za rfl (Qa rfl rfl (Qa rfl rfl ?_))))));refine Za rfl (Za rfl (Za (v:=iv s.s1.deck.length) (rd:=[]) (by simp[Qd]) (Za (Zl ..) ?_)));rw[IntWalk.i64_in (A+s.s1.deck.length) (by omega)];refine Za rfl (Za rfl (Za (v:=iv s.s1.hand.length) (rd:=[]) (by simp[Qd]) (Za (Zl ..) ?_)));rw[IntWalk.i64_in (A+s.s1.deck.length+s.s1.hand.length) (by omega)];refine Za rfl (Za rfl (Za (v:=iv s.s1.grave.length) (rd:=[]) (by simp[Qd]) (Za (Zl ..) ?_)));rw[IntWalk.i64_in (A+s.s1.deck.length+s.s1.hand.length+s.s1.grave.length) (by omega)];refine Za rfl (Za rfl (Za (v:=iv s.s1.units.length) (rd:=[]) (by simp[Qd]) (Za (Zl ..) ?_)));rw[IntWalk.i64_in (A+s.s1.deck.length+s.s1.hand.length+s.s1.grave.length+s.s1.units.length) (by omega)];refine Za rfl (Za rfl (Za (v:=iv s.s1.told.length) (rd:=[]) (by simp[Qd]) (Za (Zl ..) ?_)));rw[IntWalk.i64_in (A+s.s1.deck.length+s.s1.hand.length+s.s1.grave.length+s.s1.units.length+s.s1.told.length) (by omega)];refine Za (Zl ..) ?_;rw[show IntKind.i64.wrap (1+1)=2 from by decide];refine Qk ?_;refine Za rfl (Yc (Za (Z5 ..) ?_))
 congr 1
 rw[decide_eq_decide];unfold sizeN;omega
theorem c77x(b:Bk)(hf:bkFit b=true)(s:St)(hs:StLe 2000000 s)(l:List Ef)(hl:lsFit l=true):∃q:Bool,PC 4 [bkV b,stV s,efV l] (.bool q)∧(q=false→b.cards.length≤60∧sizeN s≤1000):=by
 obtain⟨q1,h1⟩:=c133 b hf;have h2:=c109x s hs;obtain⟨q3,h3⟩:=c135 _ l (Nat.le_refl _) hl;refine⟨((decide ((b.cards.length:Int)>60)||q1)||decide (1000<sizeN s))||decide (q3>1000),?_,λh=>?_⟩
 ·refine Qb hP g4.ok rfl rfl ?_;rw[H3.e]; unfold g4; dsimp only;refine Qa (v:=.bptr 0 0) (rd:=[]) (up:=[(0,.box (bkC b))]) rfl rfl ?_;refine Qa (v:=.bptr 1 0) (rd:=[]) (up:=[(1,.box (stC s))]) rfl rfl ?_;refine Za rfl (Za rfl (Za (v:=iv b.cards.length) (rd:=[]) (by simp[Qd]) (Za (Z5 ..) ?_)));refine QbL (v1:=bkV b) (λ_=>rfl) (λ_ k hk=>Zc h1 rfl g10.ok.plain rfl hk) ?_;refine QbL (v1:=stV s) (λ_=>rfl) (λ_ k hk=>Zc h2 rfl g11.ok.plain rfl hk) ?_;exact XcV (v1:=efV l) (u0:=iv q3) (λ_=>rfl) (λ_ k hk=>Zc h3 rfl g12.ok.plain rfl hk) (λ_=>Z5 ..) rfl
 ·simp only[Bool.or_eq_false_iff,decide_eq_false_iff_not] at h;omega
theorem Qdr(e:Ev)(h:e.cards.length≤1000000000):PC 22 [.agg (evC e),.agg (evC e)] (.bool true):=by
 have h62:=c62 e.cards e.cards (by omega);rw[show decide (e.cards=e.cards)=true from by simp] at h62;have:=c99 e e (x:=rowV e.cards) (y:=rowV e.cards) rfl rfl rfl rfl (q:=true) (λσ k hk=>Zc h62 rfl g20.ok.plain rfl hk);rw[Ycn] at this;exact this
end Go.Ah.Tz
end
section
namespace Go.Ah.Tz
open Go.Proofs.Tryz (prog)
set_option maxRecDepth 100000
theorem Qbb(kd:Int)(fP:Int→Int×Int)(fU:Th→Int×Int)(s:St)(id k:Int):(chgF kd fP fU s id k).2.1.cards=[]:=by
 unfold chgF;split
 ·unfold chgP; split<;>rfl
 split
 ·rfl
 split
 ·unfold chgU; split<;>rfl
 ·split
  ·unfold chgU; split<;>rfl
  ·rfl
theorem ZbQ(s:St)(k:Int):(drawF s k).2.1.cards=[]:=by
 unfold drawF;split
 ·split<;>rfl
 ·split<;>rfl
theorem QaI(k:Int):∀(j:Nat) (s:St),∀e∈(ZA k j s).2.2,e.cards.length≤60
 |0,s,e,h=>by simp[ZA] at h
 |j+1,s,e,h=>by
  unfold ZA at h;split at h
  ·simp only[List.mem_cons] at h;rcases h with rfl|h
   ·rw[ZbQ]; simp
   ·exact QaI k j _ e h
  ·simp at h
theorem QcN{b:Bk}{N C:Nat}{s:St}(h:OkS b N C s){sd:Int}(h01:sd=0∨sd=1)(tg op who:Int)(name:Tx)(n:Int):∀e∈(opE b s sd tg op who name n).2.2,e.cards.length≤60:=by
 have hw:=Za8 h01 who;intro e he;unfold opE at he;split at he
 ·unfold hurtE at he;split at he
  ·split at he
   ·simp only[List.mem_singleton] at he;subst he;unfold mvR;split
    ·rw[mendF,Qbb]; simp
    ·rw[harmF,Qbb]; simp
   ·simp at he
  ·simp at he
 split at he
 ·unfold drawE at he;split at he
  ·exact QaI _ _ _ e he
  ·simp at he
 split at he
 ·unfold gainF at he;split at he
  ·simp at he
  ·split at he
   ·simp at he
   ·simp only[List.mem_singleton] at he; subst he; simp
 split at he
 ·unfold dropF at he;split at he
  ·simp at he
  ·simp only[List.mem_singleton] at he; subst he; simp
 split at he
 ·have hd:=(Xo.1 (h.rows h01).1).1;unfold lookF at he;split at he
  ·simp at he
  ·rename_i c cs hq;simp only[List.mem_singleton] at he; subst he;have:(c::cs).length≤(s.side sd).deck.length:=by rw[←hq,List.length_take]; omega
   show (c::cs).length≤60;omega
 split at he
 ·have hd:=(Xo.1 (h.rows hw).2).1;simp only[showF,List.mem_singleton] at he; subst he;show (s.side (whoS sd who)).hand.length≤60;omega
 ·unfold Zad at he;split at he
  ·simp at he
  ·simp only[List.mem_singleton] at he; subst he; simp
mutual
theorem Zbk {b:Bk} {sd tg:Int} (h01:sd=0∨sd=1):∀(x:Ef) {N C:Nat} {s:St} (fu:Int),OkS b N C s→N+60*(efP x).length≤1000000→C+(efP x).length≤1000000→∀e∈(run1 b sd tg x s fu).2.2.2,e.cards.length≤60
 |.mk op who n name c thn els,N,C,s,fu,h,hN,hC,e,he=>by
  rw[run1] at he
  split at he
  ·rename_i h8
   have hl:(efPs thn).length+(efPs els).length≤(efP (.mk op who n name c thn els)).length:=by simp[efP,h8]; omega
   split at he
   ·exact Zan h01 thn fu h (by omega) (by omega) e he
   ·exact Zan h01 els fu h (by omega) (by omega) e he
  split at he
  ·simp at he
  ·exact QcN h h01 tg op who name _ e he
theorem Zan {b:Bk} {sd tg:Int} (h01:sd=0∨sd=1):∀(l:List Ef) {N C:Nat} {s:St} (fu:Int),OkS b N C s→N+60*(efPs l).length≤1000000→C+(efPs l).length≤1000000→∀e∈(runs b sd tg l s fu).2.2.2,e.cards.length≤60
 |[],N,C,s,fu,h,hN,hC,e,he=>by rw[runs] at he; simp at he
 |x::l,N,C,s,fu,h,hN,hC,e,he=>by
  rw[runs] at he
  have hl:(efPs (x::l)).length=(efP x).length+(efPs l).length:=by simp[efPs]
  obtain⟨q1,q2⟩:=QbU (tg:=tg) h01 x fu h (by omega) (by omega)
  split at he
  ·rcases List.mem_append.1 he with he|he
   ·exact Zbk h01 x fu h (by omega) (by omega) e he
   ·exact Zan h01 l _ q1 (by omega) (by omega) e he
  ·exact Zbk h01 x fu h (by omega) (by omega) e he
end
attribute [local irreducible] Ans.rd Ans.pu Ans.wr Ans.dr Ans.gr Ans.gw Ans.gl Ans.gd Ans.opt joinK W
set_option maxHeartbeats 8000000
theorem d79{ys:List AVal}{s:St}{n:Nat}{a e:Int}{l:List Ev}(h:NCall prog GL0 6 ys (.tup [stV s,.sl 0 0 n false,iv a,iv e]) [.rows 7 (l.map evC)])(hro:roL ys=true){σ:List ABlk}{K:AVal→List Nat×List Nat→List ABlk→Prop}
 (hK:K (.tup [stV s,.sl σ.length 0 n false,iv a,iv e]) ([],[σ.length]) (σ++[.rows 7 (l.map evC)])):VV.dcall (.call 6) ys σ K:=by
 refine QaT h rfl g6.ok.plain hro ?_;have h1:(AVal.tup [stV s,.sl 0 0 n false,iv a,iv e]).ren (ZE σ.length)=.tup [stV s,.sl (0+σ.length) 0 n false,iv a,iv e]:=rfl;have h2:Yv σ.length [ABlk.rows 7 (l.map evC)]=[ABlk.rows 7 (l.map evC)]:=by
  simp only[Yv,List.map_cons,List.map_nil,ABlk.mapV,XM (ZcG _)]
 rw[h1,h2,Nat.zero_add];exact hK
theorem c15E(h78:PC 5 [] (.bool true))(b:Bk)(hf:bkFit b=true)(hsm:Yj b.cards)(s:St)(hs:StLe 2000000 s)(sd tg fu cut:Int)(l:List Ef)(hl:lsFit l=true)(hPl:(efPs l).length≤500000000)(hll:l.length≤1000000000) :
  PC 3 [bkV b,stV s,.agg [iv sd,iv tg],efV l,iv fu,iv cut] (.bool true):=by
 obtain⟨q,h77,hq⟩:=c77x b hf s hs l hl;have hs9:StLe 1000000000 s:=⟨by have:=hs.attack; omega,⟨by have:=hs.s0.deck; omega,by have:=hs.s0.hand; omega,by have:=hs.s0.grave; omega,by have:=hs.s0.units; omega,by have:=hs.s0.told; omega⟩,⟨by have:=hs.s1.deck; omega,by have:=hs.s1.hand; omega,by have:=hs.s1.grave; omega,by have:=hs.s1.units; omega,by have:=hs.s1.told; omega⟩⟩;refine Qb hP g3.ok rfl rfl ?_;rw[H6.e]; unfold g3; dsimp only;refine Qa (v:=.bptr 0 0) (rd:=[]) (up:=[(0,.box (bkC b))]) rfl rfl (Qa (v:=.bptr 1 0) (rd:=[]) (up:=[(1,.box (stC s))]) rfl rfl (Qa (v:=.bptr 2 0) (rd:=[]) (up:=[(2,.box [iv sd,iv tg])]) rfl rfl ?_));refine Za (v:=bkV b) (ld (row:=bkC b) rfl rfl) (Za (v:=stV s) (ld (row:=stC s) rfl rfl) (Zc h77 rfl g4.ok.plain rfl (Zb (λ_=>Zc h78 rfl g5.ok.plain rfl rfl) (λhqf=>?_))));obtain⟨hc60,hsz⟩:=hq hqf;unfold sizeN at hsz;have hT:TB 1000 s:=⟨by omega,by omega⟩;have hC:Zp s≤((1000:Nat):Int):=by unfold Zp; omega
 refine Za (v:=iv l.length) (rd:=[]) (by simp[Qp]) (Za (Zl ..) ?_);rw[Zg (n:=l.length) (by omega)];refine Za (XdD _ _ _ (by omega) _) (Za (Zl ..) ?_);have hb1:-((l.length+1:Nat):Int)<cut.tmod ((l.length+1:Nat):Int)∧cut.tmod ((l.length+1:Nat):Int)<((l.length+1:Nat):Int):=⟨Int.lt_tmod_of_pos _ (by omega),Int.tmod_lt_of_pos _ (by omega)⟩;rw[IntWalk.i64_in _ (by omega)];refine Za (XdD _ _ _ (by omega) _) ?_;obtain⟨c,hc,hcl⟩:∃c:Nat,(cut.tmod ((l.length+1:Nat):Int)+((l.length+1:Nat):Int)).tmod ((l.length+1:Nat):Int)=c∧c≤l.length:=by
  have h0:0≤cut.tmod ((l.length+1:Nat):Int)+((l.length+1:Nat):Int):=by omega
  have h1:=Int.tmod_nonneg ((l.length+1:Nat):Int) h0;have h2:=Int.tmod_lt_of_pos (cut.tmod ((l.length+1:Nat):Int)+((l.length+1:Nat):Int)) (show (0:Int)<((l.length+1:Nat):Int) by omega);exact⟨((cut.tmod ((l.length+1:Nat):Int)+((l.length+1:Nat):Int)).tmod ((l.length+1:Nat):Int)).toNat,by omega,by omega⟩
 rw[hc];clear hc hb1;refine Za (v:=bkV b) (ld (row:=bkC b) rfl rfl) (Za (v:=stV s) (ld (row:=stC s) rfl rfl) (Za (v:=.agg [iv sd,iv tg]) (ld (row:=[iv sd,iv tg]) rfl rfl) ?_));by_cases hgood:mayR (bkR b).1 b s true=true∧ZM b sd fu l=false∧(runs b sd tg l s fu).1=0;rotate_left
 ·refine Xg hP (f:=6) rfl g6.ok rfl ?_;refine ZbV b hf hsm hc60 s hs9 sd tg fu l hl hPl 1000 1000 hT (by omega) hC (by omega) (λh1 σ' _=>?_) (λh1 h2 σ' _=>?_) (λh1 h2 σ' lv _ _ _=>?_)
  ·refine Za rfl (Za rfl (Za rfl (Za rfl (XG (row:=zStC) (row':=zStC) rfl rfl rfl (Za (XS ..) (Yd (Zc h78 rfl g5.ok.plain rfl rfl)))))))
  ·refine Za rfl (Za rfl (Za rfl (Za rfl (XG (row:=zStC) (row':=zStC) rfl rfl rfl (Za (XS ..) (Yd (Zc h78 rfl g5.ok.plain rfl rfl)))))))
  ·have h3:(runs b sd tg l s fu).1≠0:=λh=>hgood ⟨h1,h2,h⟩;refine Za rfl (Za rfl (Za rfl (Za rfl (XG (row:=stC (runs b sd tg l s fu).2.1) (row':=stC (runs b sd tg l s fu).2.1) rfl rfl rfl (Za (XS ..) ?_)))));rw[show decide ((runs b sd tg l s fu).1≠0)=true from decide_eq_true h3];exact Yd (Zc h78 rfl g5.ok.plain rfl rfl)
 obtain⟨hm,hb,h0⟩:=hgood;have hbk:=(YK.1 hm).1;have hM:=(YK.1 hm).2;have hOk:OkS b 1000 1000 s:=⟨hM,hT,hC⟩;have hb':=hb;unfold ZM at hb';simp only[Bool.or_eq_false_iff,decide_eq_false_iff_not,Bool.not_eq_false'] at hb';obtain⟨⟨⟨⟨hd1,hd2⟩,hf1⟩,hf2⟩,hfit⟩:=hb';have h01:sd=0∨sd=1:=by omega
 obtain⟨_,hef⟩:=XcG hfit;have hsplit:l.take c++l.drop c=l:=List.take_append_drop c l;have hP2:(efPs l).length=(efPs (l.take c)).length+(efPs (l.drop c)).length:=by
  have:=Qaq (l.take c) (l.drop c);rw[hsplit] at this;rw[this,List.length_append]
 have hl1:lsFit (l.take c)=true∧lsFit (l.drop c)=true:=by
  have he:QU l=true:=by simp only[lsFit,Bool.and_eq_true] at hl; exact hl.2
  have h2:=Yax (l.take c) (l.drop c);rw[hsplit,he] at h2;have h2:=h2.symm;rw[Bool.and_eq_true] at h2;simp only[lsFit,Bool.and_eq_true,decide_eq_true_eq,List.length_take,List.length_drop,bigE];exact⟨⟨by omega,h2.1⟩,⟨by omega,h2.2⟩⟩
 have hfit1:fitsB b (l.take c)=true:=YbB (l:=[]) (m:=l.take c) (k:=l.drop c) (by rw[List.nil_append,hsplit]; exact hfit);have hfit2:fitsB b (l.drop c)=true:=YbB (l:=l.take c) (m:=l.drop c) (k:=[]) (by rw[List.append_nil,hsplit]; exact hfit);have happ:=Ya4 b sd tg (l.take c) (l.drop c) s fu;rw[hsplit] at happ;have hr1:(runs b sd tg (l.take c) s fu).1=0:=by
  refine Classical.byContradiction λh=>?_;rw[if_neg h] at happ;rw[happ] at h0;exact h h0
 rw[if_pos hr1] at happ;have hfu1:=Yai b sd tg (l.take c) s fu (by omega);have hok1:=XaG (b:=b) (tg:=tg) h01 (l.take c) fu hOk (by omega) (by omega);have hcost:=QaA b sd tg l s fu 0 (by omega) (by omega);have hfuA:=Yai b sd tg l s fu (by omega);have hcards:=Zan (b:=b) (tg:=tg) h01 l fu hOk (by omega) (by omega);have hevl:=(XaG (b:=b) (tg:=tg) h01 l fu hOk (by omega) (by omega)).2;have cA:=c79P b hf hsm hc60 s hs9 sd tg fu l hl hPl 1000 1000 hT (by omega) hC (by omega) hm hb (.inl h0);have hb1:ZM b sd fu (l.take c)=false:=by
  unfold ZM;simp only[Bool.or_eq_false_iff,decide_eq_false_iff_not,Bool.not_eq_false'];exact⟨⟨⟨⟨hd1,hd2⟩,hf1⟩,hf2⟩,hfit1⟩
 have cB:=c79N b hf hsm hc60 s hs9 sd tg fu (l.take c) hl1.1 (by omega) 1000 1000 hT (by omega) hC (by omega) hm hb1 (.inl hr1);have hm1:mayR (bkR b).1 b (runs b sd tg (l.take c) s fu).2.1 true=true:=YK.2 ⟨hbk,hok1.1.may⟩;have hb2:ZM b sd (runs b sd tg (l.take c) s fu).2.2.1 (l.drop c)=false:=by
  unfold ZM;simp only[Bool.or_eq_false_iff,decide_eq_false_iff_not,Bool.not_eq_false'];exact⟨⟨⟨⟨hd1,hd2⟩,by omega⟩,by omega⟩,hfit2⟩
 have hr2:(runs b sd tg (l.drop c) (runs b sd tg (l.take c) s fu).2.1 (runs b sd tg (l.take c) s fu).2.2.1).1=0:=by
  have:=congrArg (λr=>r.1) happ;simp only at this;rw[←this]; exact h0
 have cC:=c79P b hf hsm hc60 (runs b sd tg (l.take c) s fu).2.1 hok1.1.le9 sd tg (runs b sd tg (l.take c) s fu).2.2.1 (l.drop c) hl1.2 (by omega) 13000 1200 ⟨by have:=hok1.1.told.1; omega,by have:=hok1.1.told.2; omega⟩ (by omega) (by have:=hok1.1.cards; omega) (by omega) hm1 hb2 (.inl hr2);have h81:=c81x _ l (Nat.le_refl _) (by omega) hl;have hokA:=(XaG (b:=b) (tg:=tg) h01 l fu hOk (by omega) (by omega)).1;have h45:=c20s (runs b sd tg l s fu).2.1 hokA.le9;have hS:=c47 (rows:=(runs b sd tg l s fu).2.2.2.map evC) (by rw[List.length_map]; omega) (λr hr=>by
  obtain⟨e,he,rfl⟩:=List.mem_map.1 hr;exact⟨rfl,rfl,Qdr e (by have:=hcards e he; omega)⟩)
 rw[hr1] at cB;rw[hr2] at cC;rw[h0] at cA;have hroE:∀r∈(runs b sd tg l s fu).2.2.2.map evC,roL r=true:=by
  intro r hr;obtain⟨e,_,rfl⟩:=List.mem_map.1 hr;rfl
 generalize hA:runs b sd tg l s fu=rA at *;generalize hB:runs b sd tg (l.take c) s fu=rB at *;generalize hCc:runs b sd tg (l.drop c) rB.2.1 rB.2.2.1=rC at *;have e1:rC.2.1=rA.2.1:=by rw[happ]
 have e2:rC.2.2.1=rA.2.2.1:=by rw[happ]
 have e3:rB.2.2.2++rC.2.2.2=rA.2.2.2:=by rw[happ]
 rw[e1,e2] at cC;clear happ hA hB hCc;refine Zc cA rfl g6.ok.plain rfl ?_;refine Za rfl (Za rfl (Za rfl (Za rfl (Qa (v:=.bptr 3 0) (rd:=[]) (up:=[(3,.box zStC)]) rfl rfl (Qa (v:=.junk) (rd:=[]) (up:=[(3,.box (stC rA.2.1))]) rfl rfl (Za rfl (Yc ?_)))))));refine Zd (v:=bkV b) (ld (row:=bkC b) rfl rfl) rfl (Zd (v:=stV s) (ld (row:=stC s) rfl rfl) rfl (Zd (v:=.agg [iv sd,iv tg]) (ld (row:=[iv sd,iv tg]) rfl rfl) rfl (Zd (Ydn l c hcl _) rfl ?_)));refine d79 cB rfl ?_;refine Xb rfl (Xb rfl (Xb rfl (Xb rfl ?_)));refine Zd (v:=.bptr 5 0) (rd:=[]) (up:=[(5,.box zStC)]) rfl rfl (Zd (v:=.junk) (rd:=[]) (up:=[(5,.box (stC rB.2.1))]) rfl rfl (Yn (by kernel_rfl) (Za rfl (Yc ?_))));refine Zd (v:=bkV b) (ld (row:=bkC b) rfl rfl) rfl (Zd (v:=stV rB.2.1) (ld (row:=stC rB.2.1) rfl rfl) rfl (Zd (v:=.agg [iv sd,iv tg]) (ld (row:=[iv sd,iv tg]) rfl rfl) rfl (Zd (Ydm l c hcl _) rfl ?_)));refine Xe cC rfl g6.ok.plain rfl ?_;refine Xb rfl (Xb rfl (Xb rfl (Xb rfl ?_)));refine Zd (v:=.bptr 6 0) (rd:=[]) (up:=[(6,.box zStC)]) rfl rfl (Zd (v:=.junk) (rd:=[]) (up:=[(6,.box (stC rA.2.1))]) rfl rfl (Yn (by kernel_rfl) (Za rfl ?_)));refine Ya (Za rfl (Ya (Za rfl (Ya (Za (XS ..) ?_)))));rw[show decide (rA.2.2.1≠rA.2.2.1)=false from by simp];refine Za rfl (Ya (Za (v:=stV rA.2.1) (ld (row:=stC rA.2.1) rfl rfl) (Ya (Za (v:=stV rA.2.1) (ld (row:=stC rA.2.1) rfl rfl) (Yb (Zc h45 rfl g7.ok.plain rfl (Ya (Za rfl (Za rfl ?_)))))))));refine Ya (Za rfl (Ya (Za rfl (Ya (Za (ZaD ..) (Ya (Za rfl (Yb (Zc h81 rfl g8.ok.plain rfl (Ya (Za (Z5 ..) ?_)))))))))));rw[IntWalk.i64_in _ (by omega),show decide (fu-rA.2.2.1>costL 0 l)=false from decide_eq_false (by omega)];refine Za rfl (Ya (Za rfl (Ya (Za rfl (Ya (Za (Z5 ..) ?_))))));rw[show decide (rA.2.2.1>fu)=false from decide_eq_false (by omega)];refine Za rfl (Yc ?_);have hcl3:rB.2.2.2.length+rC.2.2.2.length=rA.2.2.2.length:=by rw[←e3,List.length_append]
 refine Qa (ZcB 7 72 (b:=4) (len:=rB.2.2.2.length) (rs:=rB.2.2.2.map evC) rfl (by simp) (Xa3 _) (by rw[List.length_map]; omega)) rfl ?_;rw[←List.map_append,e3,List.length_map,hcl3];refine Xy (rd:=[7]) hS rfl g9.ok.plain (.cons (Bor.ro rfl) (.cons (Bor.own rfl (by simp) (by simp) (Yaw _ _ (by simp)) hroE) .nil)) rfl ?_;exact Yb (Zc h78 rfl g5.ok.plain rfl (Za rfl rfl))
end Go.Ah.Tz
end
section
namespace Go.Ah.Tz
open Go.Proofs.Tryz (prog)
open Go.Proofs.YtklmhbamnghbhaaGreatDoor.Rows (uptoBulk uptoBulkAll)
variable {H:Type}
theorem YV(b:List UInt8):uptoBulk (DataW.lit (H:=H) (.string b))=b.length+1:=by simp only[uptoBulk]
theorem YQ(ds:List (DataW H)):uptoBulk (.agg ds)=uptoBulkAll ds+1:=by simp only[uptoBulk]
theorem Ydj(es sp:List (DataW H)):uptoBulk (.slice es sp)=uptoBulkAll es+uptoBulkAll sp+1:=by simp only[uptoBulk]
theorem Xz(d:DataW H)(ds:List (DataW H)):uptoBulkAll (d::ds)=uptoBulk d+uptoBulkAll ds:=by simp only[uptoBulkAll]
theorem Xc1(d:DataW H):1≤uptoBulk d:=by
 cases d with
 |lit l=>cases l<;>simp[uptoBulk]
 |_=>simp[uptoBulk]
def Zr(P:Program)(t:TypeId):Option (List TypeId):=match P.underlying t with
 |some (.struct fs)=>some (fs.toList.map (·.type))
 |_=>none
theorem QI{P:Program}{fuel:Nat}{t:TypeId}{xs:List AVal}{d:DataW H}{ts:List TypeId}(h:Typed P fuel t xs d)(hs:Zr P t=some ts):∃f parts ds,fuel=f+1∧xs=parts.flatten∧d=.agg ds∧Tri (Typed P f) ts parts ds:=by
 cases fuel with
 |zero=>exact h.elim
 |succ f=>
  unfold Typed at h;unfold Zr at hs;split at hs
  ·rename_i fs e;rw[e] at h;cases hs;obtain⟨parts,ds,h1,h2,h3⟩:=h;exact⟨f,parts,ds,rfl,h1,h2,h3⟩
  ·cases hs
theorem Xv{P:Program}{fuel:Nat}{t:TypeId}{xs:List AVal}{d:DataW H}{k:IntKind}(h:Typed P fuel t xs d)(hu:P.underlying t=some (.int k)):∃n,xs=[.int k n]∧(Lit.int k n).wf=true∧d=.lit (.int k n):=by
 cases fuel with
 |zero=>exact h.elim
 |succ f=>unfold Typed at h; rw[hu] at h; exact h
theorem ZbX{P:Program}{fuel:Nat}{t:TypeId}{xs:List AVal}{d:DataW H}(h:Typed P fuel t xs d)(hu:P.underlying t=some .bool):∃b,xs=[.bool b]∧d=.lit (.bool b):=by
 cases fuel with
 |zero=>exact h.elim
 |succ f=>unfold Typed at h; rw[hu] at h; exact h
theorem QbM{P:Program}{fuel:Nat}{t:TypeId}{xs:List AVal}{d:DataW H}(h:Typed P fuel t xs d)(hu:P.underlying t=some .string):∃s,xs=[.str s]∧d=.lit (.string s):=by
 cases fuel with
 |zero=>exact h.elim
 |succ f=>unfold Typed at h; rw[hu] at h; exact h
theorem YcX{P:Program}{fuel:Nat}{e:TypeId}{X:Type}(toC:X→List AVal)(m:X→Nat)(Q:X→Prop){B:Nat}(hx:∀xs (d:DataW H),Typed P fuel e xs d→uptoBulk d≤B→∃x,xs=toC x∧Q x∧m x≤uptoBulk d) :
  ∀ {rows:List (List AVal)} {es:List (DataW H)},Two (Typed P fuel e) rows es→uptoBulkAll es≤B→∃l:List X,rows=l.map toC∧(∀x∈l,Q x)∧(l.map m).sum≤uptoBulkAll es∧l.length≤uptoBulkAll es
 |[],[],_,_=>⟨[],rfl,by simp,by simp,by simp⟩
 |r::rows,d::es,h,hb=>by
  rw[Xz] at hb;obtain⟨x,e1,q1,m1⟩:=hx r d h.1 (by omega);obtain⟨l,e2,q2,s2,l2⟩:=YcX toC m Q hx h.2 (by omega);refine⟨x::l,by rw[e1,e2]; rfl,λy hy=>?_,?_,?_⟩
  ·rcases List.mem_cons.1 hy with rfl|hy
   ·exact q1
   ·exact q2 y hy
  ·rw[List.map_cons,List.sum_cons,Xz]; omega
  ·have:=Xc1 d;rw[List.length_cons,Xz]; omega
 |[],_::_,h,_=>h.elim
 |_::_,[],h,_=>h.elim
theorem XJ{P:Program}{fuel:Nat}{t e:TypeId}{n:Nat}{xs:List AVal}{d:DataW H}{X:Type}(toC:X→List AVal)(m:X→Nat)(Q:X→Prop){B:Nat}(h:Typed P fuel t xs d)(hu:P.underlying t=some (.slice e))(hn:P.cellsOf e=n)
 (hx:∀f,f<fuel→∀xs (d:DataW H),Typed P f e xs d→uptoBulk d≤B→∃x,xs=toC x∧Q x∧m x≤uptoBulk d)(hb:uptoBulk d≤B) :
  ∃l:List X,xs=[.rsl false false n (l.map toC)]∧(∀x∈l,Q x)∧(l.map m).sum≤uptoBulk d∧l.length≤uptoBulk d:=by
 cases fuel with
 |zero=>exact h.elim
 |succ f=>
  unfold Typed at h;rw[hu] at h;subst hn;obtain⟨rows,rfl,⟨rfl,rfl⟩|⟨es,sp,rfl,h2⟩⟩:=h
  ·exact⟨[],rfl,by simp,by simp,by simp⟩
  ·rw[Ydj] at hb ⊢;obtain⟨l,rfl,q,s,k⟩:=YcX toC m Q (hx f (by omega)) h2 (by omega);exact⟨l,rfl,q,by omega,by omega⟩
theorem Xdv{P:Program}{fuel:Nat}{t e:TypeId}{xs:List AVal}{d:DataW H}(h:Typed P fuel t xs d)(hu:P.underlying t=some (.array 2 e)):∃f p q a b,fuel=f+1∧xs=p++q∧d=.agg [a,b]∧Typed P f e p a∧Typed P f e q b:=by
 cases fuel with
 |zero=>exact h.elim
 |succ f=>
  unfold Typed at h;rw[hu] at h;obtain⟨parts,ds,rfl,rfl,hl,h2⟩:=h
  match parts,hl,h2 with
  |[p,q],_,h2=>
   obtain⟨a,ds,rfl,ha,h2⟩:=h2.cons;obtain⟨b,ds,rfl,hb,h2⟩:=h2.cons
   match ds,h2 with
   |[],_=>exact⟨f,p,q,a,b,rfl,by simp,rfl,ha,hb⟩
theorem wf8{n:Int}(h:(Lit.int .i8 n).wf=true):i8B n=true:=by
 have h1:IntKind.i8.min = -128:=by decide
 have h2:IntKind.i8.max=127:=by decide
 simp only[Lit.wf,h1,h2] at h;exact h
theorem wf64{n:Int}(h:(Lit.int .i64 n).wf=true):i64B n=true:=by
 have h1:IntKind.i64.min = -9223372036854775808:=by decide
 have h2:IntKind.i64.max=9223372036854775807:=by decide
 simp only[Lit.wf,h1,h2] at h;exact h
theorem YbG{l:List Nm}(h:∀x∈l,nmFit x=true):Xaz l=true:=by
 induction l with
 |nil=>rfl
 |cons x l ih=>simp only[Xaz,Bool.and_eq_true]; exact⟨h x (List.mem_cons_self ..),ih λy hy=>h y (List.mem_cons_of_mem _ hy)⟩
theorem Xcw{l:List Cn}(h:∀x∈l,cnFit x=true):XaU l=true:=by
 induction l with
 |nil=>rfl
 |cons x l ih=>simp only[XaU,Bool.and_eq_true]; exact⟨h x (List.mem_cons_self ..),ih λy hy=>h y (List.mem_cons_of_mem _ hy)⟩
theorem XaX{l:List Ef}(h:∀x∈l,efFit x=true):QU l=true:=by
 induction l with
 |nil=>rfl
 |cons x l ih=>simp only[QU,Bool.and_eq_true]; exact⟨h x (List.mem_cons_self ..),ih λy hy=>h y (List.mem_cons_of_mem _ hy)⟩
theorem Ybt:∀l:List Nm,(nmPs l).length=(l.map λx=>(nmP x).length).sum
 |[]=>rfl
 |x::l=>by simp only[nmPs,List.length_append,List.map_cons,List.sum_cons,Ybt l]
theorem QbZ:∀l:List Cn,(cnPs l).length=(l.map λx=>(cnP x).length).sum
 |[]=>rfl
 |x::l=>by simp only[cnPs,List.length_append,List.map_cons,List.sum_cons,QbZ l]
theorem YaQ:∀l:List Ef,(efPs l).length=(l.map λx=>(efP x).length).sum
 |[]=>rfl
 |x::l=>by simp only[efPs,List.length_append,List.map_cons,List.sum_cons,YaQ l]
theorem bigLe{n k:Nat}(h:n≤k)(hk:k≤1048576):decide (n≤big)=true:=decide_eq_true (Nat.le_trans h (Nat.le_trans hk (by decide)))
abbrev YcZ:TypeId:=26
abbrev XC:TypeId:=3
abbrev ZbM:TypeId:=4
abbrev Xbv:TypeId:=9
abbrev Xdw:TypeId:=51
abbrev Ydd:TypeId:=49
abbrev Ydw:TypeId:=55
abbrev Zdu:TypeId:=53
abbrev ZdK:TypeId:=57
abbrev Qan:TypeId:=36
abbrev QdJ:TypeId:=74
abbrev Qdt:TypeId:=22
abbrev YdK:TypeId:=77
abbrev Ydu:TypeId:=23
abbrev Xdd:TypeId:=75
abbrev XcW:TypeId:=25
abbrev QdK:TypeId:=81
abbrev Qdu:TypeId:=28
abbrev YaM:TypeId:=27
abbrev XdO:TypeId:=30
abbrev Xdu:TypeId:=31
abbrev QcW:TypeId:=33
theorem Qdh:prog.underlying YcZ=some (.int .i8):=by kernel_rfl
theorem YU:prog.underlying XC=some (.int .i64):=by kernel_rfl
theorem ZbN:prog.underlying ZbM=some .bool:=by kernel_rfl
theorem XcX:prog.underlying Xbv=some .string:=by kernel_rfl
theorem YdM:prog.underlying Ydd=some (.slice Xdw):=by kernel_rfl
theorem u_cns:prog.underlying Zdu=some (.slice Ydw):=by kernel_rfl
theorem Qdd:prog.underlying Qan=some (.slice ZdK):=by kernel_rfl
theorem u_cds:prog.underlying Qdt=some (.slice QdJ):=by kernel_rfl
theorem u_fos:prog.underlying Ydu=some (.slice YdK):=by kernel_rfl
theorem XdM:prog.underlying Xdd=some (.slice Xbv):=by kernel_rfl
theorem u_ths:prog.underlying Qdu=some (.slice QdK):=by kernel_rfl
theorem ZdM:prog.underlying YaM=some (.slice XC):=by kernel_rfl
theorem u_sds:prog.underlying Xdu=some (.array 2 XdO):=by kernel_rfl
theorem n_nm:prog.cellsOf Xdw=4:=by kernel_rfl
theorem n_cn:prog.cellsOf Ydw=5:=by kernel_rfl
theorem n_ef:prog.cellsOf ZdK=14:=by kernel_rfl
theorem n_cd:prog.cellsOf QdJ=12:=by kernel_rfl
theorem n_fo:prog.cellsOf YdK=7:=by kernel_rfl
theorem QdH:prog.cellsOf Xbv=1:=by kernel_rfl
theorem n_th:prog.cellsOf QdK=4:=by kernel_rfl
theorem n_int:prog.cellsOf XC=1:=by kernel_rfl
theorem s_nm:Zr prog Xdw=some [YcZ,XC,YcZ,Ydd]:=by kernel_rfl
theorem s_cn:Zr prog Ydw=some [YcZ,YcZ,Xbv,Ydd,Zdu]:=by kernel_rfl
theorem s_ef:Zr prog ZdK=some [YcZ,YcZ,Xdw,Xbv,Ydw,Qan,Qan]:=by kernel_rfl
theorem s_cd:Zr prog QdJ=some [Xbv,ZbM,XC,XC,XC,XC,XC,XC,Qan,Qan,Qan,XC]:=by kernel_rfl
theorem s_fo:Zr prog YdK=some [Xbv,XC,XC,XC,Xdd,Xdd,XC]:=by kernel_rfl
theorem s_bk:Zr prog XcW=some [Qdt,Ydu]:=by kernel_rfl
theorem s_th:Zr prog QdK=some [XC,XC,XC,ZbM]:=by kernel_rfl
theorem s_sd:Zr prog XdO=some [XC,XC,XC,YaM,YaM,YaM,Qdu,YaM]:=by kernel_rfl
theorem s_st:Zr prog QcW=some [XC,XC,YcZ,ZbM,YcZ,YaM,XC,Xdu]:=by kernel_rfl
theorem YdL(fuel:Nat):∀xs (d:DataW H),Typed prog fuel Xdw xs d→uptoBulk d≤1048576→∃x,xs=nmC x∧nmFit x=true∧(nmP x).length≤uptoBulk d:=by
 induction fuel using Nat.strongRecOn with
 |_ fuel ih=>
 intro xs d h hb;obtain⟨f,parts,ds,rfl,rfl,rfl,r⟩:=QI h s_nm;obtain⟨p0,parts,d0,ds,rfl,rfl,h0,r⟩:=r.cons;obtain⟨p1,parts,d1,ds,rfl,rfl,h1,r⟩:=r.cons;obtain⟨p2,parts,d2,ds,rfl,rfl,h2,r⟩:=r.cons;obtain⟨p3,parts,d3,ds,rfl,rfl,h3,r⟩:=r.cons;obtain⟨rfl,rfl⟩:=r.nil;obtain⟨v0,rfl,w0,rfl⟩:=Xv h0 Qdh;obtain⟨v1,rfl,w1,rfl⟩:=Xv h1 YU;obtain⟨v2,rfl,w2,rfl⟩:=Xv h2 Qdh;simp only[YQ,Xz,YV] at hb ⊢;obtain⟨l,rfl,q,s,k⟩:=XJ nmC (λx=>(nmP x).length) (λx=>nmFit x=true) h3 YdM n_nm (λf' hf=>ih f' (by omega)) (show uptoBulk d3≤1048576 by omega);refine⟨.mk v0 v1 v2 l,by rw[YG]; rfl,?_,?_⟩
 ·simp only[nmFit,bigLe k (show uptoBulk d3≤1048576 by omega),YbG q,wf8 w0,wf64 w1,Bool.and_self]
 ·simp only[nmP,List.length_cons,Ybt]; omega
theorem ty_cn(fuel:Nat):∀xs (d:DataW H),Typed prog fuel Ydw xs d→uptoBulk d≤1048576→∃x,xs=cnC x∧cnFit x=true∧(cnP x).length≤uptoBulk d:=by
 induction fuel using Nat.strongRecOn with
 |_ fuel ih=>
 intro xs d h hb;obtain⟨f,parts,ds,rfl,rfl,rfl,r⟩:=QI h s_cn;obtain⟨p0,parts,d0,ds,rfl,rfl,h0,r⟩:=r.cons;obtain⟨p1,parts,d1,ds,rfl,rfl,h1,r⟩:=r.cons;obtain⟨p2,parts,d2,ds,rfl,rfl,h2,r⟩:=r.cons;obtain⟨p3,parts,d3,ds,rfl,rfl,h3,r⟩:=r.cons;obtain⟨p4,parts,d4,ds,rfl,rfl,h4,r⟩:=r.cons;obtain⟨rfl,rfl⟩:=r.nil;obtain⟨v0,rfl,w0,rfl⟩:=Xv h0 Qdh;obtain⟨v1,rfl,w1,rfl⟩:=Xv h1 Qdh;obtain⟨v2,rfl,rfl⟩:=QbM h2 XcX;simp only[YQ,Xz,YV] at hb ⊢;obtain⟨l,rfl,q,s,k⟩:=XJ nmC (λx=>(nmP x).length) (λx=>nmFit x=true) h3 YdM n_nm (λf' _=>YdL f') (show uptoBulk d3≤1048576 by omega);obtain⟨l2,rfl,q2,s2,k2⟩:=XJ cnC (λx=>(cnP x).length) (λx=>cnFit x=true) h4 u_cns n_cn (λf' hf=>ih f' (by omega)) (show uptoBulk d4≤1048576 by omega);refine⟨.mk v0 v1 v2 l l2,by rw[YS]; rfl,?_,?_⟩
 ·simp only[cnFit,bigLe k (show uptoBulk d3≤1048576 by omega),YbG q,bigLe k2 (show uptoBulk d4≤1048576 by omega),Xcw q2,wf8 w0,Bool.and_self]
 ·simp only[cnP,List.length_cons,List.length_append,Ybt,QbZ]; omega
theorem ty_ef(fuel:Nat):∀xs (d:DataW H),Typed prog fuel ZdK xs d→uptoBulk d≤1048576→∃x,xs=efC x∧efFit x=true∧(efP x).length≤uptoBulk d:=by
 induction fuel using Nat.strongRecOn with
 |_ fuel ih=>
 intro xs d h hb;obtain⟨f,parts,ds,rfl,rfl,rfl,r⟩:=QI h s_ef;obtain⟨p0,parts,d0,ds,rfl,rfl,h0,r⟩:=r.cons;obtain⟨p1,parts,d1,ds,rfl,rfl,h1,r⟩:=r.cons;obtain⟨p2,parts,d2,ds,rfl,rfl,h2,r⟩:=r.cons;obtain⟨p3,parts,d3,ds,rfl,rfl,h3,r⟩:=r.cons;obtain⟨p4,parts,d4,ds,rfl,rfl,h4,r⟩:=r.cons;obtain⟨p5,parts,d5,ds,rfl,rfl,h5,r⟩:=r.cons;obtain⟨p6,parts,d6,ds,rfl,rfl,h6,r⟩:=r.cons;obtain⟨rfl,rfl⟩:=r.nil;obtain⟨v0,rfl,w0,rfl⟩:=Xv h0 Qdh;obtain⟨v1,rfl,w1,rfl⟩:=Xv h1 Qdh;obtain⟨v3,rfl,rfl⟩:=QbM h3 XcX;simp only[YQ,Xz,YV] at hb ⊢;obtain⟨n,rfl,qn,kn⟩:=YdL _ _ _ h2 (by omega);obtain⟨c,rfl,qc,kc⟩:=ty_cn _ _ _ h4 (by omega);obtain⟨l,rfl,q,s,k⟩:=XJ efC (λx=>(efP x).length) (λx=>efFit x=true) h5 Qdd n_ef (λf' hf=>ih f' (by omega)) (show uptoBulk d5≤1048576 by omega);obtain⟨l2,rfl,q2,s2,k2⟩:=XJ efC (λx=>(efP x).length) (λx=>efFit x=true) h6 Qdd n_ef (λf' hf=>ih f' (by omega)) (show uptoBulk d6≤1048576 by omega);refine⟨.mk v0 v1 n v3 c l l2,by rw[Qv,YG,YS]; rfl,?_,?_⟩
 ·simp only[efFit,qn,qc,bigLe k (show uptoBulk d5≤1048576 by omega),XaX q,bigLe k2 (show uptoBulk d6≤1048576 by omega),XaX q2,wf8 w0,Bool.and_self]
 ·have e1:(if cntOp v0 then nmP n else []).length≤(nmP n).length:=by split<;>simp
  have e2:(if v0=8 then cnP c++(efPs l++efPs l2) else []).length≤(cnP c).length+(efPs l).length+(efPs l2).length:=by
   split
   ·simp only[List.length_append]; omega
   ·simp
  rw[YaQ,YaQ] at e2;simp only[efP,List.length_cons,List.length_append];omega
theorem Xca{fuel:Nat}{xs:List AVal}{d:DataW H}(h:Typed prog fuel Qan xs d)(hb:uptoBulk d≤1048576):∃l,xs=[efV l]∧lsFit l=true∧(efPs l).length≤uptoBulk d:=by
 obtain⟨l,rfl,q,s,k⟩:=XJ efC (λx=>(efP x).length) (λx=>efFit x=true) h Qdd n_ef (λf' _=>ty_ef f') hb;exact⟨l,rfl,by simp only[lsFit,bigLe k hb,XaX q,Bool.and_self],by rw[YaQ]; exact s⟩
theorem ty_cd(fuel:Nat)(xs:List AVal)(d:DataW H)(h:Typed prog fuel QdJ xs d)(hb:uptoBulk d≤1048576):∃x,xs=cdC x∧(cdFit x=true∧(cdP x).length≤1048576)∧0≤uptoBulk d:=by
 obtain⟨f,parts,ds,rfl,rfl,rfl,r⟩:=QI h s_cd;obtain⟨p0,parts,d0,ds,rfl,rfl,h0,r⟩:=r.cons;obtain⟨p1,parts,d1,ds,rfl,rfl,h1,r⟩:=r.cons;obtain⟨p2,parts,d2,ds,rfl,rfl,h2,r⟩:=r.cons;obtain⟨p3,parts,d3,ds,rfl,rfl,h3,r⟩:=r.cons;obtain⟨p4,parts,d4,ds,rfl,rfl,h4,r⟩:=r.cons;obtain⟨p5,parts,d5,ds,rfl,rfl,h5,r⟩:=r.cons;obtain⟨p6,parts,d6,ds,rfl,rfl,h6,r⟩:=r.cons;obtain⟨p7,parts,d7,ds,rfl,rfl,h7,r⟩:=r.cons;obtain⟨p8,parts,d8,ds,rfl,rfl,h8,r⟩:=r.cons;obtain⟨p9,parts,d9,ds,rfl,rfl,h9,r⟩:=r.cons;obtain⟨p10,parts,d10,ds,rfl,rfl,h10,r⟩:=r.cons;obtain⟨p11,parts,d11,ds,rfl,rfl,h11,r⟩:=r.cons;obtain⟨rfl,rfl⟩:=r.nil;obtain⟨v0,rfl,rfl⟩:=QbM h0 XcX;obtain⟨v1,rfl,rfl⟩:=ZbX h1 ZbN;obtain⟨v2,rfl,w2,rfl⟩:=Xv h2 YU;obtain⟨v3,rfl,w3,rfl⟩:=Xv h3 YU;obtain⟨v4,rfl,w4,rfl⟩:=Xv h4 YU;obtain⟨v5,rfl,w5,rfl⟩:=Xv h5 YU;obtain⟨v6,rfl,w6,rfl⟩:=Xv h6 YU;obtain⟨v7,rfl,w7,rfl⟩:=Xv h7 YU;obtain⟨v11,rfl,w11,rfl⟩:=Xv h11 YU;simp only[YQ,Xz,YV] at hb ⊢;obtain⟨a,rfl,qa,ka⟩:=Xca h8 (by omega);obtain⟨b,rfl,qb,kb⟩:=Xca h9 (by omega);obtain⟨c,rfl,qc,kc⟩:=Xca h10 (by omega);refine⟨⟨v0,v1,v2,v3,v4,v5,v6,v7,a,b,c,v11⟩,rfl,⟨?_,?_⟩,by omega⟩
 ·simp only[cdFit,bigLe (Nat.le_refl v0.length) (by omega),qa,qb,qc,Bool.and_self]
 ·simp only[cdP,List.length_append]; omega
theorem QdL(fuel:Nat)(xs:List AVal)(d:DataW H)(h:Typed prog fuel Xbv xs d)(_:uptoBulk d≤1048576):∃x,xs=txC x∧True∧0≤uptoBulk d:=by
 obtain⟨s,rfl,rfl⟩:=QbM h XcX;exact⟨s,rfl,trivial,by omega⟩
theorem ty_fo(fuel:Nat)(xs:List AVal)(d:DataW H)(h:Typed prog fuel YdK xs d)(hb:uptoBulk d≤1048576):∃x,xs=foC x∧foFit x=true∧0≤uptoBulk d:=by
 obtain⟨f,parts,ds,rfl,rfl,rfl,r⟩:=QI h s_fo;obtain⟨p0,parts,d0,ds,rfl,rfl,h0,r⟩:=r.cons;obtain⟨p1,parts,d1,ds,rfl,rfl,h1,r⟩:=r.cons;obtain⟨p2,parts,d2,ds,rfl,rfl,h2,r⟩:=r.cons;obtain⟨p3,parts,d3,ds,rfl,rfl,h3,r⟩:=r.cons;obtain⟨p4,parts,d4,ds,rfl,rfl,h4,r⟩:=r.cons;obtain⟨p5,parts,d5,ds,rfl,rfl,h5,r⟩:=r.cons;obtain⟨p6,parts,d6,ds,rfl,rfl,h6,r⟩:=r.cons;obtain⟨rfl,rfl⟩:=r.nil;obtain⟨v0,rfl,rfl⟩:=QbM h0 XcX;obtain⟨v1,rfl,w1,rfl⟩:=Xv h1 YU;obtain⟨v2,rfl,w2,rfl⟩:=Xv h2 YU;obtain⟨v3,rfl,w3,rfl⟩:=Xv h3 YU;obtain⟨v6,rfl,w6,rfl⟩:=Xv h6 YU;simp only[YQ,Xz,YV] at hb ⊢;obtain⟨a,rfl,_,_,ka⟩:=XJ txC (λ_=>0) (λ_=>True) h4 XdM QdH (λf' _=>QdL f') (show uptoBulk d4≤1048576 by omega);obtain⟨b,rfl,_,_,kb⟩:=XJ txC (λ_=>0) (λ_=>True) h5 XdM QdH (λf' _=>QdL f') (show uptoBulk d5≤1048576 by omega);refine⟨⟨v0,v1,v2,v3,a,b,v6⟩,rfl,?_,by omega⟩;simp only[foFit,bigLe (Nat.le_refl v0.length) (by omega),bigLe ka (show uptoBulk d4≤1048576 by omega),bigLe kb (show uptoBulk d5≤1048576 by omega),Bool.and_self]
theorem ty_bk{fuel:Nat}{xs:List AVal}{d:DataW H}(h:Typed prog fuel XcW xs d)(hb:uptoBulk d≤1048576):∃x,xs=bkC x∧bkFit x=true∧Yj x.cards:=by
 obtain⟨f,parts,ds,rfl,rfl,rfl,r⟩:=QI h s_bk;obtain⟨p0,parts,d0,ds,rfl,rfl,h0,r⟩:=r.cons;obtain⟨p1,parts,d1,ds,rfl,rfl,h1,r⟩:=r.cons;obtain⟨rfl,rfl⟩:=r.nil;simp only[YQ,Xz,YV] at hb ⊢;obtain⟨a,rfl,q,_,k⟩:=XJ cdC (λ_=>0) (λx=>cdFit x=true∧(cdP x).length≤1048576) h0 u_cds n_cd (λf' _=>ty_cd f') (show uptoBulk d0≤1048576 by omega);obtain⟨b,rfl,q2,_,k2⟩:=XJ foC (λ_=>0) (λx=>foFit x=true) h1 u_fos n_fo (λf' _=>ty_fo f') (show uptoBulk d1≤1048576 by omega);refine⟨⟨a,b⟩,rfl,?_,λc hc=>Nat.le_trans (q c hc).2 (by decide)⟩;simp only[bkFit,QN,bigLe k (show uptoBulk d0≤1048576 by omega),bigLe k2 (show uptoBulk d1≤1048576 by omega),Bool.true_and,Bool.and_eq_true,List.all_eq_true];exact⟨λc hc=>(q c hc).1,q2⟩
theorem ty_th(fuel:Nat)(xs:List AVal)(d:DataW H)(h:Typed prog fuel QdK xs d)(hb:uptoBulk d≤1048576):∃x,xs=thC x∧True∧0≤uptoBulk d:=by
 obtain⟨f,parts,ds,rfl,rfl,rfl,r⟩:=QI h s_th;obtain⟨p0,parts,d0,ds,rfl,rfl,h0,r⟩:=r.cons;obtain⟨p1,parts,d1,ds,rfl,rfl,h1,r⟩:=r.cons;obtain⟨p2,parts,d2,ds,rfl,rfl,h2,r⟩:=r.cons;obtain⟨p3,parts,d3,ds,rfl,rfl,h3,r⟩:=r.cons;obtain⟨rfl,rfl⟩:=r.nil;obtain⟨v0,rfl,w0,rfl⟩:=Xv h0 YU;obtain⟨v1,rfl,w1,rfl⟩:=Xv h1 YU;obtain⟨v2,rfl,w2,rfl⟩:=Xv h2 YU;obtain⟨v3,rfl,rfl⟩:=ZbX h3 ZbN;simp only[YQ,Xz,YV] at hb ⊢;exact⟨⟨v0,v1,v2,v3⟩,rfl,trivial,by omega⟩
theorem ty_i(fuel:Nat)(xs:List AVal)(d:DataW H)(h:Typed prog fuel XC xs d)(_:uptoBulk d≤1048576):∃x,xs=cel x∧True∧0≤uptoBulk d:=by
 obtain⟨s,rfl,_,rfl⟩:=Xv h YU;exact⟨s,rfl,trivial,by omega⟩
theorem XbM{fuel:Nat}{xs:List AVal}{d:DataW H}(h:Typed prog fuel YaM xs d)(hb:uptoBulk d≤1048576):∃l,xs=[rowV l]∧l.length≤2000000:=by
 obtain⟨l,rfl,_,_,k⟩:=XJ cel (λ_=>0) (λ_=>True) h ZdM n_int (λf' _=>ty_i f') hb;exact⟨l,rfl,by omega⟩
theorem XdL{fuel:Nat}{xs:List AVal}{d:DataW H}(h:Typed prog fuel XdO xs d)(hb:uptoBulk d≤1048576):∃x,xs=sdC x∧SdLe 2000000 x:=by
 obtain⟨f,parts,ds,rfl,rfl,rfl,r⟩:=QI h s_sd;obtain⟨p0,parts,d0,ds,rfl,rfl,h0,r⟩:=r.cons;obtain⟨p1,parts,d1,ds,rfl,rfl,h1,r⟩:=r.cons;obtain⟨p2,parts,d2,ds,rfl,rfl,h2,r⟩:=r.cons;obtain⟨p3,parts,d3,ds,rfl,rfl,h3,r⟩:=r.cons;obtain⟨p4,parts,d4,ds,rfl,rfl,h4,r⟩:=r.cons;obtain⟨p5,parts,d5,ds,rfl,rfl,h5,r⟩:=r.cons;obtain⟨p6,parts,d6,ds,rfl,rfl,h6,r⟩:=r.cons;obtain⟨p7,parts,d7,ds,rfl,rfl,h7,r⟩:=r.cons;obtain⟨rfl,rfl⟩:=r.nil;obtain⟨v0,rfl,w0,rfl⟩:=Xv h0 YU;obtain⟨v1,rfl,w1,rfl⟩:=Xv h1 YU;obtain⟨v2,rfl,w2,rfl⟩:=Xv h2 YU;simp only[YQ,Xz,YV] at hb ⊢;obtain⟨a,rfl,ka⟩:=XbM h3 (by omega);obtain⟨b,rfl,kb⟩:=XbM h4 (by omega);obtain⟨c,rfl,kc⟩:=XbM h5 (by omega);obtain⟨u,rfl,_,_,ku⟩:=XJ thC (λ_=>0) (λ_=>True) h6 u_ths n_th (λf' _=>ty_th f') (show uptoBulk d6≤1048576 by omega);obtain⟨t,rfl,kt⟩:=XbM h7 (by omega);exact⟨⟨v0,v1,v2,a,b,c,u,t⟩,rfl,ka,kb,kc,by show u.length≤_; omega,kt⟩
theorem ty_st{fuel:Nat}{xs:List AVal}{d:DataW H}(h:Typed prog fuel QcW xs d)(hb:uptoBulk d≤1048576):∃x,xs=stC x∧StLe 2000000 x:=by
 obtain⟨f,parts,ds,rfl,rfl,rfl,r⟩:=QI h s_st;obtain⟨p0,parts,d0,ds,rfl,rfl,h0,r⟩:=r.cons;obtain⟨p1,parts,d1,ds,rfl,rfl,h1,r⟩:=r.cons;obtain⟨p2,parts,d2,ds,rfl,rfl,h2,r⟩:=r.cons;obtain⟨p3,parts,d3,ds,rfl,rfl,h3,r⟩:=r.cons;obtain⟨p4,parts,d4,ds,rfl,rfl,h4,r⟩:=r.cons;obtain⟨p5,parts,d5,ds,rfl,rfl,h5,r⟩:=r.cons;obtain⟨p6,parts,d6,ds,rfl,rfl,h6,r⟩:=r.cons;obtain⟨p7,parts,d7,ds,rfl,rfl,h7,r⟩:=r.cons;obtain⟨rfl,rfl⟩:=r.nil;obtain⟨v0,rfl,w0,rfl⟩:=Xv h0 YU;obtain⟨v1,rfl,w1,rfl⟩:=Xv h1 YU;obtain⟨v2,rfl,w2,rfl⟩:=Xv h2 Qdh;obtain⟨v3,rfl,rfl⟩:=ZbX h3 ZbN;obtain⟨v4,rfl,w4,rfl⟩:=Xv h4 Qdh;obtain⟨v6,rfl,w6,rfl⟩:=Xv h6 YU;simp only[YQ,Xz,YV] at hb ⊢;obtain⟨a,rfl,ka⟩:=XbM h5 (by omega);obtain⟨f',p,q,da,db,rfl,rfl,rfl,hp,hq⟩:=Xdv h7 u_sds;simp only[YQ,Xz] at hb;obtain⟨x,rfl,kx⟩:=XdL hp (by omega);obtain⟨y,rfl,ky⟩:=XdL hq (by omega);exact⟨⟨v0,v1,v2,v3,v4,a,v6,x,y⟩,rfl,ka,kx,ky⟩
end Go.Ah.Tz
end
section
namespace Go.Ah.Tz
open Go.Proofs.Tryz (prog)
set_option maxRecDepth 100000
noncomputable def tb20:GT:=(.node 75 4 g75.u (.node 45 2 g45.u (.node 29 2 g29.u (.node 17 2 g17.u (.node 13 1 g13.u (.node 6 5 g6.u (.node 5 0 g5.u .leaf .leaf) (.node 8 1 g8.u .leaf .leaf)) (.node 15 0 g15.u (.node 14 0 g14.u .leaf .leaf) (.node 16 2 g16.u .leaf .leaf))) (.node 26 1 g26.u (.node 19 2 g19.u (.node 18 1 g18.u .leaf .leaf) (.node 25 3 g25.u .leaf .leaf)) (.node 28 2 g28.u (.node 27 1 g27.u .leaf .leaf) .leaf))) (.node 36 3 g36.u (.node 33 3 g33.u (.node 31 1 g31.u (.node 30 1 g30.u .leaf .leaf) (.node 32 1 g32.u .leaf .leaf)) (.node 35 3 g35.u (.node 34 3 g34.u .leaf .leaf) .leaf)) (.node 42 1 g42.u (.node 38 3 g38.u (.node 37 3 g37.u .leaf .leaf) (.node 39 3 g39.u .leaf .leaf)) (.node 44 2 g44.u (.node 43 4 g43.u .leaf .leaf) .leaf)))) (.node 61 1 g61.u (.node 52 2 g52.u (.node 49 2 g49.u (.node 47 5 g47.u (.node 46 1 g46.u .leaf .leaf) (.node 48 5 g48.u .leaf .leaf)) (.node 51 3 g51.u (.node 50 2 g50.u .leaf .leaf) .leaf)) (.node 56 4 g56.u (.node 54 3 g54.u (.node 53 1 g53.u .leaf .leaf) (.node 55 2 g55.u .leaf .leaf)) (.node 60 1 g60.u (.node 59 1 g59.u .leaf .leaf) .leaf))) (.node 68 1 g68.u (.node 65 2 g65.u (.node 63 1 g63.u (.node 62 1 g62.u .leaf .leaf) (.node 64 1 g64.u .leaf .leaf)) (.node 67 1 g67.u (.node 66 2 g66.u .leaf .leaf) .leaf)) (.node 72 1 g72.u (.node 70 2 g70.u (.node 69 3 g69.u .leaf .leaf) (.node 71 7 g71.u .leaf .leaf)) (.node 74 1 g74.u (.node 73 4 g73.u .leaf .leaf) .leaf))))) (.node 105 1 g105.u (.node 91 2 g91.u (.node 84 2 g84.u (.node 79 2 g79.u (.node 77 2 g77.u (.node 76 3 g76.u .leaf .leaf) (.node 78 2 g78.u .leaf .leaf)) (.node 83 2 g83.u (.node 80 2 g80.u .leaf .leaf) .leaf)) (.node 88 2 g88.u (.node 86 1 g86.u (.node 85 1 g85.u .leaf .leaf) (.node 87 2 g87.u .leaf .leaf)) (.node 90 1 g90.u (.node 89 1 g89.u .leaf .leaf) .leaf))) (.node 98 2 g98.u (.node 95 1 g95.u (.node 93 2 g93.u (.node 92 1 g92.u .leaf .leaf) (.node 94 1 g94.u .leaf .leaf)) (.node 97 5 g97.u (.node 96 2 g96.u .leaf .leaf) .leaf)) (.node 102 2 g102.u (.node 100 2 g100.u (.node 99 2 g99.u .leaf .leaf) (.node 101 2 g101.u .leaf .leaf)) (.node 104 3 g104.u (.node 103 2 g103.u .leaf .leaf) .leaf)))) (.node 119 2 g119.u (.node 112 1 g112.u (.node 109 1 g109.u (.node 107 0 g107.u (.node 106 1 g106.u .leaf .leaf) (.node 108 2 g108.u .leaf .leaf)) (.node 111 1 g111.u (.node 110 1 g110.u .leaf .leaf) .leaf)) (.node 116 2 g116.u (.node 114 2 g114.u (.node 113 1 g113.u .leaf .leaf) (.node 115 2 g115.u .leaf .leaf)) (.node 118 1 g118.u (.node 117 1 g117.u .leaf .leaf) .leaf))) (.node 126 2 g126.u (.node 123 1 g123.u (.node 121 2 g121.u (.node 120 1 g120.u .leaf .leaf) (.node 122 1 g122.u .leaf .leaf)) (.node 125 0 g125.u (.node 124 1 g124.u .leaf .leaf) .leaf)) (.node 130 2 g130.u (.node 128 2 g128.u (.node 127 1 g127.u .leaf .leaf) (.node 129 2 g129.u .leaf .leaf)) (.node 169 3 g169.u (.node 168 3 g168.u .leaf .leaf) .leaf))))))
theorem Zdv:tb20.Ok prog GL0:=⟨g75.ok,⟨g45.ok,⟨g29.ok,⟨g17.ok,⟨g13.ok,⟨g6.ok,⟨g5.ok,trivial,trivial⟩,⟨g8.ok,trivial,trivial⟩⟩,⟨g15.ok,⟨g14.ok,trivial,trivial⟩,⟨g16.ok,trivial,trivial⟩⟩⟩,⟨g26.ok,⟨g19.ok,⟨g18.ok,trivial,trivial⟩,⟨g25.ok,trivial,trivial⟩⟩,⟨g28.ok,⟨g27.ok,trivial,trivial⟩,trivial⟩⟩⟩,⟨g36.ok,⟨g33.ok,⟨g31.ok,⟨g30.ok,trivial,trivial⟩,⟨g32.ok,trivial,trivial⟩⟩,⟨g35.ok,⟨g34.ok,trivial,trivial⟩,trivial⟩⟩,⟨g42.ok,⟨g38.ok,⟨g37.ok,trivial,trivial⟩,⟨g39.ok,trivial,trivial⟩⟩,⟨g44.ok,⟨g43.ok,trivial,trivial⟩,trivial⟩⟩⟩⟩,⟨g61.ok,⟨g52.ok,⟨g49.ok,⟨g47.ok,⟨g46.ok,trivial,trivial⟩,⟨g48.ok,trivial,trivial⟩⟩,⟨g51.ok,⟨g50.ok,trivial,trivial⟩,trivial⟩⟩,⟨g56.ok,⟨g54.ok,⟨g53.ok,trivial,trivial⟩,⟨g55.ok,trivial,trivial⟩⟩,⟨g60.ok,⟨g59.ok,trivial,trivial⟩,trivial⟩⟩⟩,⟨g68.ok,⟨g65.ok,⟨g63.ok,⟨g62.ok,trivial,trivial⟩,⟨g64.ok,trivial,trivial⟩⟩,⟨g67.ok,⟨g66.ok,trivial,trivial⟩,trivial⟩⟩,⟨g72.ok,⟨g70.ok,⟨g69.ok,trivial,trivial⟩,⟨g71.ok,trivial,trivial⟩⟩,⟨g74.ok,⟨g73.ok,trivial,trivial⟩,trivial⟩⟩⟩⟩⟩,⟨g105.ok,⟨g91.ok,⟨g84.ok,⟨g79.ok,⟨g77.ok,⟨g76.ok,trivial,trivial⟩,⟨g78.ok,trivial,trivial⟩⟩,⟨g83.ok,⟨g80.ok,trivial,trivial⟩,trivial⟩⟩,⟨g88.ok,⟨g86.ok,⟨g85.ok,trivial,trivial⟩,⟨g87.ok,trivial,trivial⟩⟩,⟨g90.ok,⟨g89.ok,trivial,trivial⟩,trivial⟩⟩⟩,⟨g98.ok,⟨g95.ok,⟨g93.ok,⟨g92.ok,trivial,trivial⟩,⟨g94.ok,trivial,trivial⟩⟩,⟨g97.ok,⟨g96.ok,trivial,trivial⟩,trivial⟩⟩,⟨g102.ok,⟨g100.ok,⟨g99.ok,trivial,trivial⟩,⟨g101.ok,trivial,trivial⟩⟩,⟨g104.ok,⟨g103.ok,trivial,trivial⟩,trivial⟩⟩⟩⟩,⟨g119.ok,⟨g112.ok,⟨g109.ok,⟨g107.ok,⟨g106.ok,trivial,trivial⟩,⟨g108.ok,trivial,trivial⟩⟩,⟨g111.ok,⟨g110.ok,trivial,trivial⟩,trivial⟩⟩,⟨g116.ok,⟨g114.ok,⟨g113.ok,trivial,trivial⟩,⟨g115.ok,trivial,trivial⟩⟩,⟨g118.ok,⟨g117.ok,trivial,trivial⟩,trivial⟩⟩⟩,⟨g126.ok,⟨g123.ok,⟨g121.ok,⟨g120.ok,trivial,trivial⟩,⟨g122.ok,trivial,trivial⟩⟩,⟨g125.ok,⟨g124.ok,trivial,trivial⟩,trivial⟩⟩,⟨g130.ok,⟨g128.ok,⟨g127.ok,trivial,trivial⟩,⟨g129.ok,trivial,trivial⟩⟩,⟨g169.ok,⟨g168.ok,trivial,trivial⟩,trivial⟩⟩⟩⟩⟩⟩
end Go.Ah.Tz
end
section
namespace Go.Ah
mutual
def wkA:AVal→AVal→Bool
 |.nils,.rsl e' n' _ r'=>!e'&&(!n'&&r'.isEmpty)
 |.rsl e n s r,.rsl e' n' s' r'=>((e || !e')&&(n || !n'))&&(Nat.beq s s'&&wkR r r')
 |.agg a,.agg b=>wkL a b
 |.bool a,.bool b=>a==b
 |.int k a,.int k' b=>ikEq k k'&&a==b
 |.str a,.str b=>a==b
 |.nils,.nils=>true
 |.nilp,.nilp=>true
 |_,_=>false
def wkL:List AVal→List AVal→Bool
 |[],[]=>true
 |x::xs,y::ys=>wkA x y&&wkL xs ys
 |_,_=>false
def wkR:List (List AVal)→List (List AVal)→Bool
 |[],[]=>true
 |x::xs,y::ys=>wkL x y&&wkR xs ys
 |_,_=>false
end
def Wk(x y:AVal):Prop:=∀(M:Nat→Option Obj) (u:Value),Den M noOwn x u→Den M noOwn y u
mutual
theorem Zdi:∀ {x y:AVal},wkA x y=true→Wk x y:=by
  intro x y h
  cases x<;>cases y<;>simp only[wkA,Bool.false_eq_true,Bool.and_eq_true,Bool.not_eq_true',List.isEmpty_iff] at h<;>first
    |(obtain⟨rfl,rfl,rfl⟩:=h; exact λM u d=>d.nils_rsl _)
    |(intro M u d; exact d)
    |(rw[eq_of_beq h]; intro M u d; exact d)
    |(rw[eq_of_beq h.2,Y5 h.1]; intro M u d; exact d)
    | (have hk:=QcY h
       intro M u d
       cases d with
       | agg _ _ vs hs hd=>exact .agg _ _ _ (by rw[hs,hk.1]) (λi y v e1 e2=>by
          obtain⟨x,q1,q2⟩:=hk.2 i y e1
          exact q2 M v (hd i x v q1 e2)))
    | (obtain⟨⟨he,hn⟩,hs,hr⟩:=h
       have hs:=YNB hs
       subst hs
       have hk:=Ydi hr
       intro M u d
       cases d with
       |rsl _ _ _ _ _ a cap blk off f q1 q2 q3 q4 q5 q6 q7 q8=>
         rw[hk.1]
         refine .rsl _ _ _ _ _ a cap blk off f (λq=>?_) (λq=>?_) (λq=>q3 (λe=>q ?_)) q4 (by rw[←hk.1]; exact q5) (λi row e=>?_) (λi j hi hj=>q7 i j (by rw[hk.1]; exact hi) hj) (λi row j y e1 e2=>?_)
         · subst q; simp at he; rw[←hk.1]; exact q1 he
         · subst q; simp at hn; exact q2 hn
         · have:=hk.1; rw[e] at this; exact List.length_eq_zero_iff.1 (by simpa using this.symm)
         · obtain⟨r0,p1,p2,_⟩:=hk.2 i row e
           rw[←p2]; exact q6 i r0 p1
         · obtain⟨r0,p1,p2,p3⟩:=hk.2 i row e1
           obtain⟨x,x1,x2⟩:=p3 j y e2
           exact x2 M _ (q8 i r0 j x p1 x1))
theorem QcY:∀ {xs ys:List AVal},wkL xs ys=true→xs.length=ys.length∧∀(i:Nat) (y:AVal),ys[i]?=some y→∃x,xs[i]?=some x∧Wk x y:=by
  intro xs ys h
  cases xs<;>cases ys<;>simp only[wkL,Bool.false_eq_true,Bool.and_eq_true] at h
  · exact⟨rfl,λi y e=>by simp at e⟩
  · rename_i x xs y ys
    have h1:=Zdi h.1
    have h2:=QcY h.2
    refine⟨by simp[h2.1],λi z e=>?_⟩
    cases i with
    |zero=>simp at e; subst e; exact⟨x,by simp,h1⟩
    |succ i=>simp at e; obtain⟨w,q1,q2⟩:=h2.2 i z e; exact⟨w,by simpa using q1,q2⟩
theorem Ydi:∀ {xs ys:List (List AVal)},wkR xs ys=true→xs.length=ys.length∧∀(i:Nat) (y:List AVal),ys[i]?=some y→∃x,xs[i]?=some x∧x.length=y.length∧∀(j:Nat) (b:AVal),y[j]?=some b→∃a,x[j]?=some a∧Wk a b:=by
  intro xs ys h
  cases xs<;>cases ys<;>simp only[wkR,Bool.false_eq_true,Bool.and_eq_true] at h
  · exact⟨rfl,λi y e=>by simp at e⟩
  · rename_i x xs y ys
    have h1:=QcY h.1
    have h2:=Ydi h.2
    refine⟨by simp[h2.1],λi z e=>?_⟩
    cases i with
    |zero=>simp at e; subst e; exact⟨x,by simp,h1⟩
    |succ i=>simp at e; obtain⟨w,q1,q2⟩:=h2.2 i z e; exact⟨w,by simpa using q1,q2⟩
end
theorem Qby{M:Nat→Option Obj}:∀ {xs ys:List AVal} {vs:List Value},wkL xs ys=true→DenL ⟨M,noOwn⟩ xs vs→DenL ⟨M,noOwn⟩ ys vs
 |[],[],vs,_,d=>d
 |x::xs,y::ys,[],h,d=>d.elim
 |x::xs,y::ys,v::vs,h,d=>by
  simp only[wkL,Bool.and_eq_true] at h;exact⟨Zdi h.1 M v d.1,Qby h.2 d.2⟩
theorem Zcm{P:Program}{GL:Globs}{f:FuncId}{xs ys:List AVal}{v:AVal}(h:PCall P GL f ys v)(hw:wkL xs ys=true):PCall P GL f xs v:=λw M vs hM hg hx=>h w M vs hM hg (Qby hw hx)
end Go.Ah
end
section
namespace Go.Ah.Tz
open Go.Proofs.Tryz (prog)
set_option maxRecDepth 1000000
theorem hT20:∀f np g,tb20.get f=some (np,g)→GQ f np g:=GT.get_ok Zdv
abbrev F182:Nat:=14
abbrev F201:Nat:=15
abbrev F150:Nat:=18
abbrev F146:Nat:=16
abbrev F56:Nat:=41
abbrev F47:Nat:=47
abbrev F51:Nat:=48
def bkV20:AVal:=(.agg [(.rsl true false 12 [[(.str [73,109,112]),(.bool true),(.int .i64 1),(.int .i64 2),(.int .i64 3),(.int .i64 1),(.int .i64 0),(.int .i64 0),.nils,.nils,.nils,(.int .i64 0)],[(.str [69,108,102]),(.bool true),(.int .i64 2),(.int .i64 1),(.int .i64 1),(.int .i64 0),(.int .i64 1),(.int .i64 0),.nils,.nils,.nils,(.int .i64 0)],[(.str [66,111,108,116]),(.bool false),(.int .i64 1),(.int .i64 0),(.int .i64 0),(.int .i64 0),(.int .i64 0),(.int .i64 0),(.rsl true false 14 [[(.int .i8 0),(.int .i8 2),(.int .i8 0),(.int .i64 3),(.int .i8 0),.nils,(.str []),(.int .i8 0),(.int .i8 0),(.str []),.nils,.nils,.nils,.nils]]),.nils,.nils,(.int .i64 0)]]),(.rsl true false 7 [[(.str [115,116,100]),(.int .i64 0),(.int .i64 60),(.int .i64 60),.nils,.nils,(.int .i64 0)]])])
def stV20:AVal:=(.agg [(.int .i64 1),(.int .i64 0),(.int .i8 0),(.bool false),(.int .i8 0),.nils,(.int .i64 3),(.int .i64 20),(.int .i64 3),(.int .i64 3),(.rsl true false 1 [[(.int .i64 0)],[(.int .i64 1)],[(.int .i64 2)]]),(.rsl true false 1 [[(.int .i64 2)],[(.int .i64 0)]]),.nils,(.rsl true false 4 [[(.int .i64 1),(.int .i64 0),(.int .i64 0),(.bool false)]]),.nils,(.int .i64 20),(.int .i64 3),(.int .i64 3),(.rsl true false 1 [[(.int .i64 0)],[(.int .i64 1)],[(.int .i64 2)]]),(.rsl true false 1 [[(.int .i64 2)],[(.int .i64 0)]]),.nils,(.rsl true false 4 [[(.int .i64 2),(.int .i64 1),(.int .i64 0),(.bool false)]]),.nils])
def Ybl:AVal:=(.agg [(.int .i64 1),(.int .i64 0),(.int .i8 0),(.bool false),(.int .i8 0),.nils,(.int .i64 3),(.int .i64 20),(.int .i64 3),(.int .i64 3),(.rsl false false 1 [[(.int .i64 0)],[(.int .i64 1)],[(.int .i64 2)]]),(.rsl false false 1 [[(.int .i64 2)],[(.int .i64 0)]]),.nils,(.rsl false false 4 [[(.int .i64 1),(.int .i64 0),(.int .i64 0),(.bool false)]]),.nils,(.int .i64 20),(.int .i64 3),(.int .i64 3),(.rsl false false 1 [[(.int .i64 0)],[(.int .i64 1)],[(.int .i64 2)]]),(.rsl false false 1 [[(.int .i64 2)],[(.int .i64 0)]]),.nils,(.rsl false false 4 [[(.int .i64 2),(.int .i64 1),(.int .i64 0),(.bool false)]]),.nils])
def Zca:AVal:=(.agg [(.int .i64 1),(.int .i64 0),(.int .i8 0),(.bool false),(.int .i8 0),.nils,(.int .i64 3),(.int .i64 20),(.int .i64 3),(.int .i64 3),(.rsl false false 1 [[(.int .i64 0)],[(.int .i64 1)],[(.int .i64 2)]]),(.rsl false false 1 [[(.int .i64 2)],[(.int .i64 0)]]),.nils,(.rsl false false 4 [[(.int .i64 1),(.int .i64 0),(.int .i64 0),(.bool false)]]),.nils,(.int .i64 17),(.int .i64 3),(.int .i64 3),(.rsl false false 1 [[(.int .i64 0)],[(.int .i64 1)],[(.int .i64 2)]]),(.rsl false false 1 [[(.int .i64 2)],[(.int .i64 0)]]),.nils,(.rsl false false 4 [[(.int .i64 2),(.int .i64 1),(.int .i64 0),(.bool false)]]),.nils])
def rh:AVal:=(.tup [(.agg [(.int .i64 1),(.int .i64 0),(.int .i8 0),(.bool false),(.int .i8 0),.nils,(.int .i64 3),(.int .i64 20),(.int .i64 3),(.int .i64 3),(.rsl false false 1 [[(.int .i64 0)],[(.int .i64 1)],[(.int .i64 2)]]),(.rsl false false 1 [[(.int .i64 2)],[(.int .i64 0)]]),.nils,(.rsl false false 4 [[(.int .i64 1),(.int .i64 0),(.int .i64 0),(.bool false)]]),.nils,(.int .i64 17),(.int .i64 3),(.int .i64 3),(.rsl false false 1 [[(.int .i64 0)],[(.int .i64 1)],[(.int .i64 2)]]),(.rsl false false 1 [[(.int .i64 2)],[(.int .i64 0)]]),.nils,(.rsl false false 4 [[(.int .i64 2),(.int .i64 1),(.int .i64 0),(.bool false)]]),.nils]),(.agg [(.int .i8 5),(.int .i64 1),(.int .i64 0),(.int .i64 0),(.int .i64 0),(.int .i64 3),.nils]),(.int .i64 0)])
def Ydh:AVal:=(.agg [(.int .i64 1),(.int .i64 0),(.int .i8 0),(.bool false),(.int .i8 0),.nils,(.int .i64 3),(.int .i64 21),(.int .i64 3),(.int .i64 3),(.rsl false false 1 [[(.int .i64 0)],[(.int .i64 1)],[(.int .i64 2)]]),(.rsl false false 1 [[(.int .i64 2)],[(.int .i64 0)]]),.nils,(.rsl false false 4 [[(.int .i64 1),(.int .i64 0),(.int .i64 0),(.bool false)]]),.nils,(.int .i64 17),(.int .i64 3),(.int .i64 3),(.rsl false false 1 [[(.int .i64 0)],[(.int .i64 1)],[(.int .i64 2)]]),(.rsl false false 1 [[(.int .i64 2)],[(.int .i64 0)]]),.nils,(.rsl false false 4 [[(.int .i64 2),(.int .i64 1),(.int .i64 0),(.bool false)]]),.nils])
def rm:AVal:=(.tup [(.agg [(.int .i64 1),(.int .i64 0),(.int .i8 0),(.bool false),(.int .i8 0),.nils,(.int .i64 3),(.int .i64 21),(.int .i64 3),(.int .i64 3),(.rsl false false 1 [[(.int .i64 0)],[(.int .i64 1)],[(.int .i64 2)]]),(.rsl false false 1 [[(.int .i64 2)],[(.int .i64 0)]]),.nils,(.rsl false false 4 [[(.int .i64 1),(.int .i64 0),(.int .i64 0),(.bool false)]]),.nils,(.int .i64 17),(.int .i64 3),(.int .i64 3),(.rsl false false 1 [[(.int .i64 0)],[(.int .i64 1)],[(.int .i64 2)]]),(.rsl false false 1 [[(.int .i64 2)],[(.int .i64 0)]]),.nils,(.rsl false false 4 [[(.int .i64 2),(.int .i64 1),(.int .i64 0),(.bool false)]]),.nils]),(.agg [(.int .i8 6),(.int .i64 0),(.int .i64 0),(.int .i64 0),(.int .i64 0),(.int .i64 1),.nils]),(.int .i64 0)])
def nV(n:Int):AVal:=.agg [.int .i8 0,.int .i64 n,.int .i8 0,.nils]
def enV:AVal:=.agg [.int .i64 0,.int .i64 (-1)]
theorem p182:PC 14 [] bkV20:=Y9 hP hT20 (much:=1000000000) 60 (by kernel_rfl)
theorem p201:PC 15 [] stV20:=Y9 hP hT20 (much:=1000000000) 60 (by kernel_rfl)
theorem p150z:PC 18 [stV20] Ybl:=Y9 hP hT20 (much:=1000000000) 60 (by kernel_rfl)
theorem p146z:PC 16 [bkV20,stV20] (.int .i64 0):=Y9 hP hT20 (much:=1000000000) 60 (by kernel_rfl)
theorem p47z:PC 47 [bkV20,Ybl,.int .i64 0,.int .i64 1,.int .i64 3] rh:=Y9 hP hT20 (much:=1000000000) 60 (by kernel_rfl)
theorem p51z:PC 48 [bkV20,Zca,.int .i64 0,.int .i64 0,.int .i64 1] rm:=Y9 hP hT20 (much:=1000000000) 60 (by kernel_rfl)
def b20:Bk:=⟨[⟨[73,109,112],true,1,2,3,1,0,0,[],[],[],0⟩,⟨[69,108,102],true,2,1,1,0,1,0,[],[],[],0⟩,⟨[66,111,108,116],false,1,0,0,0,0,0,[.mk 0 2 (.mk 0 3 0 []) [] (.mk 0 0 [] [] []) [] []],[],[],0⟩],[⟨[115,116,100],0,60,60,[],[],0⟩]⟩
def sd20(life:Int)(u:Th):Sd:={ life:=life,mana:=3,most:=3,deck:=[0,1,2],hand:=[2,0],grave:=[],units:=[u],told:=[] }
def st20(a c:Int):St:={ turn:=1,mover:=0,phase:=0,struck:=false,result:=0,attack:=[],next:=3,s0:=sd20 a ⟨1,0,0,false⟩,s1:=sd20 c ⟨2,1,0,false⟩ }
def n20(n:Int):Nm:=.mk 0 n 0 []
theorem Yct:Yj b20.cards:=by
 intro c hc;simp only[b20,List.mem_cons,List.not_mem_nil,or_false] at hc;rcases hc with rfl|rfl|rfl<;>decide
theorem st9{e:Int}{b:Bk}{s:St}(h:mayR e b s true=true):StLe 1000000000 s:=by
 have hs:=XcK (YK.1 h).2;exact⟨by have:=hs.attack; omega,⟨by have:=hs.s0.deck; omega,by have:=hs.s0.hand; omega,by have:=hs.s0.grave; omega,by have:=hs.s0.units; omega,by have:=hs.s0.told; omega⟩,⟨by have:=hs.s1.deck; omega,by have:=hs.s1.hand; omega,by have:=hs.s1.grave; omega,by have:=hs.s1.units; omega,by have:=hs.s1.told; omega⟩⟩
theorem p56z(a c n:Int)(st:AVal)(hm:mayR (bkR b20).1 b20 (st20 a c) true=true)(hok:nmOk true (n20 n)=true)(hw:nmW (n20 n)≤200)(hfit:nmFit (n20 n)=true)(hn:numF b20 (st20 a c) 0 (-1) (n20 n)=n)(hk:wkL [bkV20,st,enV,nV n] [bkV b20,stV (st20 a c),.agg [iv 0,iv (-1)],.agg (nmC (n20 n))]=true) :
  PC 41 [bkV20,st,enV,nV n] (.tup [.int .i64 n,.int .i64 0]):=by
 have h:=c31 b20 (by kernel_rfl) Yct (st20 a c) (st9 hm) hm 0 (-1) (by omega) (by omega) (λc hc=>ZcI (YK.1 hm).2 0 c (.inl hc)) (n20 n) hfit hok hw;rw[hn] at h;exact Zcm h hk
def kn20:Known:=[(F182,[],bkV20),(F201,[],stV20),(F150,[stV20],Ybl),(F146,[bkV20,stV20],.int .i64 0),
 (F56,[bkV20,Ybl,enV,nV 3],.tup [.int .i64 3,.int .i64 0]),(F47,[bkV20,Ybl,.int .i64 0,.int .i64 1,.int .i64 3],rh),
 (F56,[bkV20,Zca,enV,nV 1],.tup [.int .i64 1,.int .i64 0]),(F51,[bkV20,Zca,.int .i64 0,.int .i64 0,.int .i64 1],rm),
 (F56,[bkV20,Ydh,enV,nV 2],.tup [.int .i64 2,.int .i64 0])]
theorem Ydp:KnOk prog GL0 kn20:=
 ⟨⟨⟨g14.ok.plain,rfl,rfl⟩,p182⟩,⟨⟨g15.ok.plain,rfl,rfl⟩,p201⟩,⟨⟨g18.ok.plain,rfl,rfl⟩,p150z⟩,⟨⟨g16.ok.plain,rfl,rfl⟩,p146z⟩,
  ⟨⟨g41.ok.plain,rfl,rfl⟩,p56z 20 20 3 Ybl (by kernel_rfl) (by kernel_rfl) (by decide) (by kernel_rfl) (by kernel_rfl) (by kernel_rfl)⟩,⟨⟨g47.ok.plain,rfl,rfl⟩,p47z⟩,
  ⟨⟨g41.ok.plain,rfl,rfl⟩,p56z 20 17 1 Zca (by kernel_rfl) (by kernel_rfl) (by decide) (by kernel_rfl) (by kernel_rfl) (by kernel_rfl)⟩,⟨⟨g48.ok.plain,rfl,rfl⟩,p51z⟩,
  ⟨⟨g41.ok.plain,rfl,rfl⟩,p56z 21 17 2 Ydh (by kernel_rfl) (by kernel_rfl) (by decide) (by kernel_rfl) (by kernel_rfl) (by kernel_rfl)⟩,trivial⟩
theorem p78w:PC 5 [] (.bool true):=Zc2 hP hT20 (much:=1000000000) Ydp 60 (by kernel_rfl)
end Go.Ah.Tz
end
section
namespace Go.Ah.Tz
open Go.Proofs.Tryz (prog)
open Go.Proofs.YtklmhbamnghbhaaGreatDoor.Rows (uptoBulk uptoBulkAll)
set_option maxRecDepth 100000
section
variable {H:Type}
abbrev Xa6:TypeId:=35
theorem ZdJ:Zr prog Xa6=some [XC,XC]:=by kernel_rfl
theorem ZdL{fuel:Nat}{xs:List AVal}{d:DataW H}(h:Typed prog fuel Xa6 xs d):∃a b,xs=[iv a,iv b]:=by
 obtain⟨f,parts,ds,rfl,rfl,rfl,r⟩:=QI h ZdJ;obtain⟨p0,parts,d0,ds,rfl,rfl,h0,r⟩:=r.cons;obtain⟨p1,parts,d1,ds,rfl,rfl,h1,r⟩:=r.cons;obtain⟨rfl,rfl⟩:=r.nil;obtain⟨v0,rfl,w0,rfl⟩:=Xv h0 YU;obtain⟨v1,rfl,w1,rfl⟩:=Xv h1 YU;exact⟨v0,v1,rfl⟩
theorem ZcD:∀l:List Ef,l.length≤(efPs l).length
 |[]=>Nat.le_refl _
 |x::l=>by
  have:=ZcD l;have h1:1≤(efP x).length:=by cases x; simp[efP]
  simp only[efPs,List.length_cons,List.length_append]; omega
end
end Go.Ah.Tz
namespace Go.Proofs.YtklmhbamnghbhaaGreatDoor
open Go.ChangeShapes Go.WideShapes Go.ChangeAt Go.RowKit Go.Ah Go.Ah.Tz
theorem Xbt{H:Type}{enc:TypeId×Value→H}{P:Program}{f:Func}{s:ChangeSpec}{apart fresh handsOn again:Bool}{W W':World}{args:Array Value}{v:Value}{ds gs:List (DataW H)}{before pa pv:List MemPlace}
 (hW:DataW.Whole enc P f.params.toList s.vars apart W args.toList ds gs before)
 (hres:∀(b:Nat) (sp:Nat→Bool) (hd:Bool),DataW.TrodAll enc P W' b sp hd f.resultTypes.toList (v.resultList f.resultTypes.size) (s.fn H (ds++gs)).results [])
 (hargs:∀sp:Nat→Bool,(∀p∈before,sp p.block=true)→DataW.TrodAll enc P W' 0 sp true f.params.toList args.toList (s.fn H (ds++gs)).args pa)
 (hvars:∀sp:Nat→Bool,(∀p∈before,sp p.block=true)→DataW.TrodVars enc P W' sp s.vars (s.fn H (ds++gs)).vars pv)
 (hps:before=pa++pv)(hb:Below W.heap.size W W')
 (hok:∀(j:Nat) (t:TypeId) (r:Value),f.resultTypes[j]?=some t→(v.resultList f.resultTypes.size)[j]?=some r→Value.okWide P W' .any 0 t r) :
  s.post enc P f apart fresh handsOn again W args v W':=by
 have hold:∀p∈before,(λb=>decide (b<W.heap.size)) p.block=true:=λp hp=>by simpa using hW.lt p hp
 refine⟨ds,gs,before,[],pa,pv,hW,hres _ _ _,hargs _ hold,hvars _ hold,World.keptBut_mono (λp hp=>⟨hp,?_⟩) (hb.frame (·∈before)),λ_=>?_⟩
 ·rw[hps,List.mem_append] at hp;exact Or.inr hp
 ·have hlt:=hW.lt;obtain⟨_,_,_,_,_,hz,hn⟩:=hW;refine⟨hok,_,_,([]++pa)++pv,⟨[]++pa,pv,trodAll_append (hargs _ (λ_ _=>rfl)) (hres _ _ _),hvars _ (λ_ _=>rfl),rfl,?_,?_⟩,?_⟩
  ·intro b off hp;have hin:MemPlace.cell b off∈before:=by rw[hps]; simpa using hp
   rw[hb.frozen (p:=⟨b,off,none⟩) (show b<W.heap.size from hlt _ hin)];exact hz b off hin
  ·intro ha;have:=hn ha;rw[hps] at this;simpa using this
  ·intro p hp _;rw[hps];simpa using hp
set_option maxRecDepth 100000
abbrev t_u8:TypeId:=5
abbrev XdK:TypeId:=231
theorem d_own:ownKnob Tryz.prog.godebug=none:=by kernel_rfl
theorem Qdz:Tryz.prog.globalNamed "strings.asciiSpace" = some 1:=by kernel_rfl
theorem Qcy:(Tryz.prog.globals[1]?).map (·.type)=some XdK:=by kernel_rfl
theorem Xcy:laidOutB Tryz.prog=true:=by kernel_rfl
def spaces:List Int:=(List.range 256).map λi=>match (Nat.ble 9 i&&Nat.ble i 13)||Nat.beq i 32 with|true=>1|false=>0
theorem Xdk{l:List (String×DataW Unit)}{x0 x1 x2 x3:String×DataW Unit}(hl:l=[x0,x1,x2,x3,("strings.asciiSpace",Lib.tabData .u8 spaces)]){W:World}(h:laidMet Tryz.prog l W):∀p∈GL0,Den (λb=>W.heap[b]?) noOwn (.rptr p.2 0) (.pointer (some ⟨p.1,0,none⟩)):=by
 subst hl;have ht:Lib.TabIs Tryz.prog W "strings.asciiSpace" .u8 spaces:=Lib.tabIs_of_head (rest:=[]) Qdz Qcy (show Tryz.prog.underlying XdK=some (.array 256 t_u8) by kernel_rfl) (show Tryz.prog.underlying t_u8=some (.int .u8) by kernel_rfl) (by kernel_rfl) (by kernel_rfl) h.tail.tail.tail.tail;have hlen:spaces.length=256:=by simp[spaces]
 have hrow:row0=spaces.map (AVal.int .u8):=by rw[row0,spaces,List.map_map]; rfl
 intro p hp;simp only[GL0,List.mem_singleton] at hp;subst hp;refine .rptr _ row0 0 1 0 (λk=>.int .u8 (spaces.getD k 0)) (λk hk=>?_) (λk y hy=>?_)
 ·have hk':k<spaces.length:=by rw[hrow,List.length_map] at hk; exact hk
  have:=(Zcv (ht.cell Qdz k hk')).2;rw[Nat.zero_add]; exact this
 ·rw[hrow,List.getElem?_map] at hy;obtain⟨z,hz,rfl⟩:=Option.map_eq_some_iff.1 hy;have:spaces.getD k 0=z:=by simp[List.getD,hz]
  rw[this]; exact .int _ _ _
def YaV:List TypeId:=[YcZ,XC,ZbM,Xbv,Xdw,Ydd,Ydw,Zdu,ZdK,Qan,QdJ,Qdt,YdK,Ydu,Xdd,XcW,QdK,Qdu,YaM,XdO,Xdu,QcW]
theorem XaV:YaV.all (tyOk Tryz.prog YaV)=true:=by kernel_rfl
theorem Ydk{M:Nat→Option Obj}{xs:List AVal}{cs:Array Value}(h:DL M xs cs.toList):Den M noOwn (.agg xs) (.agg cs):=
 .agg _ _ _ (by have:=h.1; simpa using this.symm) (λi x v h1 h2=>h.2 i x v h1 (by simpa using h2))
theorem Ya6{P:Program}{t:TypeId}{ts:List TypeId}(h:Zr P t=some ts):∃fs,P.underlying t=some (.struct fs):=by
 unfold Zr at h;split at h
 ·rename_i fs e; exact⟨fs,e⟩
 ·cases h
section
variable {H:Type} {enc:TypeId×Value→H} {W:World} {base:Nat} {v:Value} {d:DataW H} {ps:List MemPlace}
theorem Ydz(ho:Value.okWide Tryz.prog W .any base XcW v)(h:DataW.Trod enc Tryz.prog W 0 (λ_=>true) true XcW v d ps)(hb:Rows.uptoBulk d≤1048576):∃b:Bk,bkFit b=true∧Yj b.cards∧Den (λk=>W.heap[k]?) noOwn (bkV b) v:=by
 obtain⟨fs,hfs⟩:=Ya6 s_bk;obtain⟨cs,rfl,_⟩:=okWide_struct hfs ho;obtain⟨fuel,hf⟩:=h;obtain⟨_,xs,h1,h2⟩:=Zak (S:=YaV) XaV fuel XcW (by decide) _ _ ⟨_,hf⟩;obtain⟨b,rfl,k1,k2⟩:=ty_bk h2 hb;exact⟨b,k1,k2,Ydk h1⟩
theorem Qdk(ho:Value.okWide Tryz.prog W .any base QcW v)(h:DataW.Trod enc Tryz.prog W 0 (λ_=>true) true QcW v d ps)(hb:Rows.uptoBulk d≤1048576):∃s:St,StLe 2000000 s∧Den (λk=>W.heap[k]?) noOwn (stV s) v:=by
 obtain⟨fs,hfs⟩:=Ya6 s_st;obtain⟨cs,rfl,_⟩:=okWide_struct hfs ho;obtain⟨fuel,hf⟩:=h;obtain⟨_,xs,h1,h2⟩:=Zak (S:=YaV) XaV fuel QcW (by decide) _ _ ⟨_,hf⟩;obtain⟨s,rfl,k⟩:=ty_st h2 hb;exact⟨s,k,Ydk h1⟩
theorem Xdz(ho:Value.okWide Tryz.prog W .any base XC v)(h:DataW.Trod enc Tryz.prog W 0 (λ_=>true) true XC v d ps):∃n:Int,Den (λk=>W.heap[k]?) noOwn (iv n) v:=by
 obtain⟨n,rfl,_⟩:=open_int YU ho h;exact⟨n,.int _ _ _⟩
end
theorem XaC{H:Type}{enc:TypeId×Value→H}{t:TypeId}(hr:Tryz.prog.readableRec t=true)(hrow:t<Tryz.prog.types.size){W W':World}{v:Value}{d:DataW H}{ps all:List MemPlace}(h:DataW.Trod enc Tryz.prog W 0 (λ_=>true) true t v d ps)(hb:Below W.heap.size W W')(hlt:∀p∈all,p.block<W.heap.size)(hin:∀p∈ps,p∈all){sp:Nat→Bool}(hs:∀p∈all,sp p.block=true):DataW.Trod enc Tryz.prog W' 0 sp true t v d ps:=
 WideElems.Trod_stays Xcy hr hrow h (λp hp=>hb.same (hlt p (hin p hp))) (λp hp=>hs p (hin p hp))
theorem Yby(t:TypeId)(h:(Tryz.prog.readableRec t&&decide (t<Tryz.prog.types.size))=true):Tryz.prog.readableRec t=true∧t<Tryz.prog.types.size:=by simpa using h
theorem r_bk:Tryz.prog.readableRec XcW=true∧XcW<Tryz.prog.types.size:=Yby XcW (by kernel_rfl)
theorem r_st:Tryz.prog.readableRec QcW=true∧QcW<Tryz.prog.types.size:=Yby QcW (by kernel_rfl)
theorem Yc9:Tryz.prog.readableRec XC=true∧XC<Tryz.prog.types.size:=Yby XC (by kernel_rfl)
theorem XdI:Tryz.prog.readableRec Qan=true∧Qan<Tryz.prog.types.size:=Yby Qan (by kernel_rfl)
def Qbo:List TypeId:=[XC,Xa6]
theorem Ycd:Qbo.all (tyOk Tryz.prog Qbo)=true:=by kernel_rfl
theorem QdI:Tryz.prog.readableRec Xa6=true∧Xa6<Tryz.prog.types.size:=Yby Xa6 (by kernel_rfl)
section
variable {H:Type} {enc:TypeId×Value→H} {W:World} {base:Nat} {v:Value} {d:DataW H} {ps:List MemPlace}
theorem d_env(ho:Value.okWide Tryz.prog W .any base Xa6 v)(h:DataW.Trod enc Tryz.prog W 0 (λ_=>true) true Xa6 v d ps):∃a b:Int,Den (λk=>W.heap[k]?) noOwn (.agg [iv a,iv b]) v:=by
 obtain⟨fs,hfs⟩:=Ya6 ZdJ;obtain⟨cs,rfl,_⟩:=okWide_struct hfs ho;obtain⟨fuel,hf⟩:=h;obtain⟨_,xs,h1,h2⟩:=Zak (S:=Qbo) Ycd fuel Xa6 (by decide) _ _ ⟨_,hf⟩;obtain⟨a,b,rfl⟩:=ZdL h2;exact⟨a,b,Ydk h1⟩
theorem d_efs(ho:Value.okWide Tryz.prog W .any base Qan v)(h:DataW.Trod enc Tryz.prog W 0 (λ_=>true) true Qan v d ps)(hb:Rows.uptoBulk d≤1048576):∃l:List Ef,lsFit l=true∧(efPs l).length≤500000000∧l.length≤1000000000∧Den (λk=>W.heap[k]?) noOwn (efV l) v:=by
 obtain⟨a,len,cap,rfl⟩:=okWide_slice Qdd ho;obtain⟨fuel,hf⟩:=h;obtain⟨_,xs,h1,h2⟩:=Zak (S:=YaV) XaV fuel Qan (by decide) _ _ ⟨_,hf⟩;obtain⟨l,rfl,k1,k2⟩:=Xca h2 hb;have:=ZcD l;exact⟨l,k1,by omega,by omega,h1.2 0 _ _ rfl rfl⟩
end
theorem Xk{a b:Bool}(h:a=true)(k:b=true):(a&&b)=true:=by rw[h,k]; rfl
def d_pow:List Int:=[1,10,100,1000,10000,100000,1000000,10000000,100000000,1000000000,10000000000,100000000000,1000000000000,10000000000000,100000000000000,1000000000000000,10000000000000000,100000000000000000,1000000000000000000,10000000000000000000]
def d_b32:List Int:=[0,1,28,2,29,14,24,3,30,22,20,15,25,17,4,8,31,27,13,23,21,19,16,7,26,12,18,6,11,5,10,9]
def d_b64:List Int:=[0,1,56,2,57,49,28,3,61,58,42,50,38,29,17,4,62,47,59,36,45,43,51,22,53,39,33,30,24,18,12,5,63,55,48,27,60,41,37,16,46,35,44,21,52,32,23,11,54,26,40,15,34,20,31,10,25,14,19,9,13,8,7,6]
def Qc3:List Int:=[9,13,1,32,133,101,160,5760,5600,8192,8202,1,8232,8233,1,8239,8287,48,12288,12288,1]
noncomputable def XbP (os:Os):World:=
 let w0:=World.holding Tryz.prog os ⟨#[],#[],[]⟩
 let put (h:Array Obj) (g:Nat) (cs:Array Value):Array Obj:=h.modify g fun
  |.cells _ t frozen=>.cells cs t frozen
  |o=>o
 let h1:=put w0.heap 0 (d_pow.map λz=>Value.int .u64 z).toArray
 let h2:=put h1 1 (spaces.map λz=>Value.int .u8 z).toArray
 let h3:=put h2 2 (d_b32.map λz=>Value.int .u8 z).toArray
 let h4:=put h3 3 (d_b64.map λz=>Value.int .u8 z).toArray
 let h5:=put h4 4 #[.pointer (some ⟨w0.heap.size,0,none⟩)]
 { w0 with heap:=(h5.push (.cells #[.slice (some ⟨w0.heap.size+1,0,none⟩) 7 7,.slice none 0 0,.int .i64 2] 243 (0,0))).push (.cells (Qc3.map λz=>Value.int .u16 z).toArray 246 (0,0)) }
theorem ZbR:Rows.effectPartsUptoRow.laid=[("math/bits.deBruijn32tab",Rows.laid_math_bits_deBruijn32tab),("math/bits.deBruijn64tab",Rows.laid_math_bits_deBruijn64tab),("internal/strconv.uint64pow10",Rows.laid_internal_strconv_uint64pow10),("unicode.White_Space",Rows.laid_unicode_White_Space),("strings.asciiSpace",Lib.tabData .u8 spaces)]:=by kernel_rfl
theorem QaX(H:Type)(enc:TypeId×Value→H)(W:World)(base:Nat)(args:Array Value)(ds gs:List (DataW H))(before:List MemPlace)
 (hval:∀(j:Nat) t v,Tryz.f3.params[j]?=some t→args[j]?=some v→Value.okWide Tryz.prog W .any base t v)
 (hW:DataW.Whole enc Tryz.prog Tryz.f3.params.toList Rows.effectPartsSpec.vars false W args.toList ds gs before)(hk:Rows.uptoSmall H (ds++gs)=true)(hL:laidMetH Tryz.prog Rows.effectPartsUptoRow.laid W) :
  Calls Tryz.prog 3 args W λe W'=>∃v,e=.returned v∧Rows.effectPartsSpec.post enc Tryz.prog Tryz.f3 false true false false W args v W':=by
 have hW':=hW;have hlt:=hW.lt;obtain⟨p,q,hA0,hV,rfl,hfz,hnd⟩:=hW;have hA:DataW.TrodAll enc Tryz.prog W 0 (λ_=>true) true Tryz.f3.params.toList args.toList ds p:=hA0;rw[Tryz.params3] at hA hval;obtain⟨v0,vs,d0,ds,p0,p,hargs,rfl,rfl,h0,r⟩:=trodAll_cons hA;obtain⟨v1,vs,d1,ds,p1,p,rfl,rfl,rfl,h1,r⟩:=trodAll_cons r;obtain⟨v2,vs,d2,ds,p2,p,rfl,rfl,rfl,h2,r⟩:=trodAll_cons r;obtain⟨v3,vs,d3,ds,p3,p,rfl,rfl,rfl,h3,r⟩:=trodAll_cons r;obtain⟨v4,vs,d4,ds,p4,p,rfl,rfl,rfl,h4,r⟩:=trodAll_cons r;obtain⟨v5,vs,d5,ds,p5,p,rfl,rfl,rfl,h5,r⟩:=trodAll_cons r;obtain⟨rfl,rfl,rfl⟩:=trodAll_nil r;obtain rfl:args = #[v0,v1,v2,v3,v4,v5]:=by cases args; simp_all
 obtain⟨rfl,rfl⟩:=trodVars_none hV;have hbk:Rows.uptoBulkAll [d0,d1,d2,d3,d4,d5]≤1048576:=of_decide_eq_true hk;simp only[Rows.uptoBulkAll] at hbk;obtain⟨b,hf,hsm,e0⟩:=Ydz (hval 0 _ v0 rfl rfl) h0 (by omega);obtain⟨s,hs,e1⟩:=Qdk (hval 1 _ v1 rfl rfl) h1 (by omega);obtain⟨m2,n2,e2⟩:=d_env (hval 2 _ v2 rfl rfl) h2;obtain⟨a3,l3,m3,q3,e3⟩:=d_efs (hval 3 _ v3 rfl rfl) h3 (by omega);obtain⟨n4,e4⟩:=Xdz (hval 4 _ v4 rfl rfl) h4;obtain⟨n5,e5⟩:=Xdz (hval 5 _ v5 rfl rfl) h5;have hg:=Xdk ZbR (show laidMet Tryz.prog Rows.effectPartsUptoRow.laid W from hL);refine(c15E p78w b hf hsm s hs m2 n2 n4 n5 a3 l3 m3 q3 W (λk=>W.heap[k]?) [v0,v1,v2,v3,v4,v5] (λ_ _ h=>h) hg ⟨e0,e1,e2,e3,e4,e5,trivial⟩).mono ?_;rintro e W' ⟨u,rfl,hkeep,M',_,_,_,hd⟩;cases hd;have hb:=hkeep.below;refine⟨_,rfl,Xbt (pa:=p0++(p1++(p2++(p3++(p4++(p5++[])))))) (pv:=[]) hW' (λ_ _ _=>trodAll_cons_mk (shut_bool ZbN _) trodAll_mk0) (λsp hsp=>?_) (λ_ _=>rfl) rfl hb (ok_one (by kernel_rfl) rfl (okWide_bool_mk ZbN _))⟩;rw[Tryz.params3];refine trodAll_cons_mk (XaC r_bk.1 r_bk.2 h0 hb hlt (λp hp=>by simp[hp]) hsp) <| trodAll_cons_mk (XaC r_st.1 r_st.2 h1 hb hlt (λp hp=>by simp[hp]) hsp) <| trodAll_cons_mk (XaC QdI.1 QdI.2 h2 hb hlt (λp hp=>by simp[hp]) hsp) <| trodAll_cons_mk (XaC XdI.1 XdI.2 h3 hb hlt (λp hp=>by simp[hp]) hsp) <| trodAll_cons_mk (XaC Yc9.1 Yc9.2 h4 hb hlt (λp hp=>by simp[hp]) hsp) <| trodAll_cons_mk (XaC Yc9.1 Yc9.2 h5 hb hlt (λp hp=>by simp[hp]) hsp) trodAll_mk0
def Qaa:Array Value:=#[.agg #[.slice none 0 0,.slice none 0 0],.agg #[.int .i64 0,.int .i64 0,.int .i8 0,.bool false,.int .i8 0,.slice none 0 0,.int .i64 0,.int .i64 0,.int .i64 0,.int .i64 0,.slice none 0 0,.slice none 0 0,.slice none 0 0,.slice none 0 0,.slice none 0 0,.int .i64 0,.int .i64 0,.int .i64 0,.slice none 0 0,.slice none 0 0,.slice none 0 0,.slice none 0 0,.slice none 0 0],.agg #[.int .i64 0,.int .i64 0],.slice none 0 0,.int .i64 0,.int .i64 0]
theorem Yck(os:Os):laidMet Tryz.prog Rows.effectPartsUptoRow.laid ((XbP os).forCall (λ_ _=>0) ⟨#[],Qaa,[]⟩).memory:=
 laidMet_of_run' 8 (by kernel_rfl) (by kernel_rfl)
theorem QbA(os:Os){H:Type}(enc:TypeId×Value→H):∃places,DataW.whole enc Tryz.prog ((XbP os).forCall (λ_ _=>0) ⟨#[],Qaa,[]⟩).memory Tryz.f3.params.toList Rows.effectPartsSpec.vars false Qaa.toList 8 =
  some ([.agg [.nil,.nil],.agg [.lit (.int .i64 0),.lit (.int .i64 0),.lit (.int .i8 0),.lit (.bool false),.lit (.int .i8 0),.nil,.lit (.int .i64 0),.agg [.agg [.lit (.int .i64 0),.lit (.int .i64 0),.lit (.int .i64 0),.nil,.nil,.nil,.nil,.nil],.agg [.lit (.int .i64 0),.lit (.int .i64 0),.lit (.int .i64 0),.nil,.nil,.nil,.nil,.nil]]],.agg [.lit (.int .i64 0),.lit (.int .i64 0)],.nil,.lit (.int .i64 0),.lit (.int .i64 0)],[],places):=⟨[],by kernel_rfl⟩
theorem Qbq(os:Os)(started:os.Started)(H:Type)(enc:TypeId×Value→H)(F:Stop.Interp) :
  ReturnsInHanded {} Tryz.checked os 3 .any ((Rows.OpenSpec.upto Rows.effectPartsSpec).preRow enc Tryz.prog Tryz.f3 Rows.effectPartsUptoRow.domain false Rows.effectPartsUptoRow.laid) (((Rows.OpenSpec.upto Rows.effectPartsSpec).at F).post enc Tryz.prog Tryz.f3 false true false false):=by
 obtain⟨places,hx⟩:=QbA os enc;refine returnsInHanded_of_row (C:=Tryz.checked) (s:=Rows.OpenSpec.upto Rows.effectPartsSpec) d_own started (by kernel_rfl) Tryz.func3
  (witness_row_atRef (enc:=enc) (C:=Tryz.checked) false (XbP os) Qaa rfl (by kernel_rfl) (by kernel_rfl) (by kernel_rfl)
   (OpenSpec.preRow_of_cond 8 hx (by kernel_rfl) (λk hk=>by cases hk; kernel_rfl) (by kernel_rfl) (Yck os))) ?_
 intro W base args ds gs before hval hW _ hcond _ hL _ _;exact QaX H enc W base args ds gs before hval hW (hcond _ rfl) hL
theorem XcD:Tryz.prog.funcNamed Rows.effectPartsUptoRow.func=some 3:=by kernel_rfl
theorem QcD:(Rows.effectPartsUptoRow.wf (OpenSpec.ofChange (Rows.OpenSpec.upto Rows.effectPartsSpec).bare))=true:=by kernel_rfl
theorem ZcE:(laidOutB Tryz.prog)=true:=by kernel_rfl
theorem YcE:(mapsRowed Tryz.prog)=true:=by kernel_rfl
theorem XcE:(Tryz.f3.params.all (Tryz.prog.readableRec ·))=true:=by kernel_rfl
theorem QcE:(namedTie Tryz.prog Rows.effectPartsUptoRow.named (Rows.OpenSpec.upto Rows.effectPartsSpec).bare.vars)=true:=by kernel_rfl
theorem ZcF:(Rows.effectPartsUptoRow.stops==[])=true:=by kernel_rfl
theorem YcF:(Tryz.prog.stops==[])=true:=by kernel_rfl
theorem XcF:(Rows.effectPartsUptoRow.knobs==[])=true:=by kernel_rfl
theorem QcF:(Tryz.prog.stopKnobs==[])=true:=by kernel_rfl
theorem Xce:(Rows.effectPartsUptoRow.inPlace==Tryz.prog.inPlace 3)=true:=by kernel_rfl
theorem Qce:(Rows.effectPartsUptoRow.unfollowed==Tryz.prog.unfollowed 3)=true:=by kernel_rfl
theorem Zcf:(Rows.effectPartsUptoRow.recurses==Tryz.prog.recurses 3)=true:=by kernel_rfl
theorem Ycf:(Rows.effectPartsUptoRow.named==Tryz.prog.varsNamed 3)=true:=by kernel_rfl
theorem Xcf:(Rows.effectPartsUptoRow.maps==(Tryz.f3.params.toList++(Rows.OpenSpec.upto Rows.effectPartsSpec).bare.plain.varTypes Tryz.prog).any (Tryz.prog.mapsRec ·))=true:=by kernel_rfl
theorem Qcf:(Rows.effectPartsUptoRow.ifaces==(Tryz.f3.params.toList++(Rows.OpenSpec.upto Rows.effectPartsSpec).bare.plain.varTypes Tryz.prog).any (Tryz.prog.ifacesRec ·))=true:=by kernel_rfl
theorem Zcg:(Rows.effectPartsUptoRow.mapsOut==Tryz.prog.mapsAmong Tryz.f3.resultTypes.toList)=true:=by kernel_rfl
theorem Ycg:(Rows.effectPartsUptoRow.loops==(Tryz.f3.params.toList++(Rows.OpenSpec.upto Rows.effectPartsSpec).bare.plain.varTypes Tryz.prog).any (Tryz.prog.loopsFrom ·))=true:=by kernel_rfl
theorem Xcg:(Rows.effectPartsUptoRow.wideKeys==(Tryz.f3.params.toList++(Rows.OpenSpec.upto Rows.effectPartsSpec).bare.plain.varTypes Tryz.prog++Tryz.f3.resultTypes.toList).any (Tryz.prog.wideKeysFrom ·))=true:=by kernel_rfl
theorem Qcg:((Rows.OpenSpec.upto Rows.effectPartsSpec).bare.vars.all (Tryz.prog.varReadable ·))=true:=by kernel_rfl
theorem Zch:(Tryz.f3.resultTypes.all (λt=>Tryz.prog.readableRec t&&decide (t<Tryz.prog.types.size)))=true:=by kernel_rfl
theorem Ych:(Rows.effectPartsUptoRow.ifacesOut==Tryz.f3.resultTypes.toList.any (Tryz.prog.ifacesRec ·))=true:=by kernel_rfl
theorem Xch:(Rows.effectPartsUptoRow.loopsOut==Tryz.f3.resultTypes.toList.any (Tryz.prog.loopsFrom ·))=true:=by kernel_rfl
theorem Qch:(Rows.effectPartsUptoRow.plainKeys==Tryz.prog.plainKeys)=true:=by kernel_rfl
theorem Zci:(Rows.effectPartsUptoRow.shortTexts.isNone)=true:=by kernel_rfl
theorem Yci:(Tryz.prog.stopsHeard)=true:=by kernel_rfl
theorem Xci:(Tryz.prog.mayEnter)=true:=by kernel_rfl
theorem Qci:(Rows.effectPartsUptoRow.lifted==Tryz.prog.liftsFinal)=true:=by kernel_rfl
theorem Zcj:(Tryz.prog.make==some Rows.effectPartsUptoRow.make)=true:=by kernel_rfl
theorem Ycj:(Rows.effectPartsUptoRow.kinds==(if Rows.effectPartsUptoRow.domain.isEmpty then [] else Tryz.f3.params.toList.map λt=>match Tryz.prog.underlying t with|some (.int k)=>some k|_=>none))=true:=by kernel_rfl
theorem Xcj:(Rows.effectPartsUptoRow.pinned==Rows.effectPartsUptoRow.pinnedBy)=true:=by kernel_rfl
theorem Qcj:(Rows.effectPartsUptoRow.veiled==(Tryz.f3.params.toList++(Rows.OpenSpec.upto Rows.effectPartsSpec).bare.plain.varTypes Tryz.prog++Tryz.f3.resultTypes.toList).any (Tryz.prog.veiledRec ·))=true:=by kernel_rfl
theorem Zck:(Rows.effectPartsUptoRow.veiledFits Tryz.prog Tryz.f3.params.toList (Tryz.f3.params.toList++(Rows.OpenSpec.upto Rows.effectPartsSpec).bare.plain.varTypes Tryz.prog++Tryz.f3.resultTypes.toList))=true:=by kernel_rfl
theorem Xbq:joinedFacts Tryz.prog 3 Tryz.f3 (Rows.OpenSpec.upto Rows.effectPartsSpec).bare Rows.effectPartsUptoRow=true:=(Xk (Xk (Xk (Xk (Xk (Xk (Xk (Xk (Xk (Xk (Xk (Xk (Xk (Xk (Xk (Xk (Xk (Xk (Xk (Xk (Xk (Xk (Xk (Xk (Xk (Xk (Xk (Xk (Xk (Xk (Xk QcD ZcE) YcE) XcE) QcE) ZcF) YcF) XcF) QcF) Xce) Qce) Zcf) Ycf) Xcf) Qcf) Zcg) Ycg) Xcg) Qcg) Zch) Ych) Xch) Qch) Zci) Yci) Xci) Qci) Zcj) Ycj) Xcj) Qcj) Zck)
theorem YbR:Rows.EffectPartsUptoSaid:=
 OpenClaim.holds_of_cond 3 Tryz.f3 rfl rfl rfl rfl rfl rfl rfl ⟨rfl,rfl,rfl,rfl,rfl⟩ rfl rfl rfl rfl rfl XcD Tryz.func3 Xbq
  (of_decide_eq_true (by kernel_rfl)) (by unfold Func.isWrapper; first|(rw[if_pos (by decide +kernel)]; kernel_rfl)|(rw[if_neg (by decide +kernel)]; exact⟨rfl,rfl⟩))
  (λos started H enc _ F=>by rw[OpenClaim.pre_eq_preRow]; exact Qbq os started H enc F)
theorem XbA(f:FuncId)(fn:Func)(hf:Tryz.pinned.checked.prog.funcNamed "baize/baizelaw20.EffectParts" = some f)(hfn:Tryz.pinned.checked.prog.funcs[f]?=some fn) :
  true=Tryz.pinned.checked.prog.looks []∧∀(j:Nat) t,fn.params[j]?=some t→Tryz.pinned.checked.prog.wantsStandIn t=false:=by
 obtain rfl:f=3:=Option.some.inj ((show Tryz.prog.funcNamed "baize/baizelaw20.EffectParts" = some 3 by kernel_rfl).symm.trans hf) |>.symm;obtain rfl:fn=Tryz.f3:=(Option.some.inj (Tryz.func3.symm.trans hfn)).symm;refine⟨by kernel_rfl,λj t ht=>?_⟩;rw[Tryz.params3] at ht;have hm:t∈[XcW,QcW,Xa6,Qan,XC,XC]:=by simpa using Array.mem_of_getElem? ht
 have hall:([XcW,QcW,Xa6,Qan,XC,XC].all λu=>!Tryz.prog.wantsStandIn u)=true:=by kernel_rfl
 exact(show Tryz.prog.wantsStandIn t=false by simpa using List.all_eq_true.1 hall t hm)
theorem effectParts_upto_card:Rows.EffectPartsUptoCardSaid:=
 Claim7.holds_tied_plain_at .later [] _ _ _ _ YbR (λ_ h=>by cases h) (by kernel_rfl) (λ_ h=>by cases h) effectPartsUpto_row_tie rfl ⟨rfl,rfl⟩ (by kernel_rfl) rfl XbA (by kernel_rfl)
#print axioms effectParts_upto_card
end Go.Proofs.YtklmhbamnghbhaaGreatDoor
end
